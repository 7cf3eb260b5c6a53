/- 11 -/
import Derived.Test.YtcfkpajlakidbaaGreatTs10
import Derived.Test.YtcfkpajlakidbaaGreatTs05
import Derived.Test.YtcfkpajlakidbaaGreatTs09
import Derived.Test.YtcfkpajlakidbaaGreatTs04
set_option linter.unusedSimpArgs false
set_option linter.unusedVariables false
namespace Go.Proofs.YtcfkpajlakidbaaGreat
open _root_.Go.Proofs.Tryz _root_.Go.Proofs.YtcfkpajlakidbaaGreat.Tryz
open Go Go.Sy Go.Pl Go.Proofs
set_option maxRecDepth 100000
set_option maxHeartbeats 1000000
theorem BI {g:PH}{s:Own}{bm:Nat}{p:Int}{R C o:Nat}{v u:Value}{ov:List Int}(i:Nat)(hi:s[i]?=some (pt bm (.cells (kN p R C v ov) 195 (0,0))))(hu:[vi p,vi R,vi C,v][o]?=some u):em g s ⟨bm,o,none⟩ u:=em.own i hi (by
 have ho:o<4:=(ze8.1 hu).1;rw[← hu];unfold kN
 match o,ho with
 | 0,_=>rfl
 | 1,_=>rfl
 | 2,_=>rfl
 | 3,_=>rfl)
theorem rJ (E:World)(g:PH)(s:Own)(v:Value)(p:Int)(R C:Nat)(hR:R≤400)(hC:C≤400)(h0:R * C=0)(A:List Int)(hA:A.length=R * C)(hv:FmR g v p R C A) :
  Ctr Tryz.prog E 157 #[v] g s (fun x g' s'=>s=s'∧Le g g'∧∃ (m y:Value),x = .tuple #[.agg #[vi p,vi R,vi C,m],y]∧(∃ q n k,m = .slice q n k)∧cd g' y []):=by
 obtain ⟨q,c0,rfl,hs⟩:=hv;have hA0:A=[]:=List.length_eq_zero_iff.1 oM;subst hA0;have hRC:R=0∨C=0:=Nat.mul_eq_zero.1 h0;refine za9 (args:=[.agg #[vi p,vi R,vi C,.slice q 0 c0]]) func157 I ntmps157 (bE I) ?_;refine rZ (bW (bO I) fun b1=>?_);refine bW (aL zj9) fun b2=>?_;refine aT I (SC.scope (rZ (lU (fA di I cg I) (lK (qL (v:=.slice q 0 c0) dx I (cO 1 I I)) (lW (cL call84 I (wA E g _ _ [] hs dC)) ?_)))));rintro v13 _ _ ⟨rfl,rfl⟩;refine zc8 fun hx=>?_;obtain ⟨w0,hw0⟩:=hx;obtain ⟨q1,cE,rfl⟩:=ak hw0 (i:=0) rfl;refine lU (fA di I cg I) (oZ (SO.store1 2 cg I I I I (by show 3<4; decide) I) ?_);refine tZ (sQ ?_);refine SC.to (g':=g) (s':=pt b2 (.cells #[vi 0,vi 0,vi 0,.slice none 0 0] 147 (0,0))::pt b1 (.cells #[vi p,vi R,vi C,.slice q1 0 cE] 147 (0,0))::s) (fun w hw=>hw.sublist (.cons _ (.refl _))) ?_;refine rG (lK (qV 1 isAgg147 cJ I I I) (lU (za1 I (build195 _ _ _ _ _ _)) (bW (bO I) fun b17=>?_)));refine aT I (rZ (aT I (sQ (SC.label (tN (sQ (rZ (lU (fA di I zT3 I) (lK (qL (v:=vi C) iT3 I (cO 2 I I)) (lM I (tZ (bK ?_))))))))))));refine oP (ι:=Nat) (fun z=>[(1,pp b1 0),(2,pp b2 0),(4,pp b17 0),(5,.slice none 0 0),(19,vi C),(20,vi z)]) (fun _=>g) (fun _=>pt b17 (.cells (kN p R C (.slice q1 0 cE) (List.replicate 998 0)) 195 (0,0))::pt b2 (.cells #[vi 0,vi 0,vi 0,.slice none 0 0] 147 (0,0))::pt b1 (.cells #[vi p,vi R,vi C,.slice q1 0 cE] 147 (0,0))::s) (fun z=>z≤C) (fun z=>C - z) 0 sB I I (ze9 _) ?_;rintro c hc;refine rZ (yL I (tZ (sQ ?_)));refine iP I (fun hlt=>?_) (fun hlt=>?_)
 ·have hR0:R=0:=oM;subst hR0;refine kP (tN (sQ (bK (sW I (aT I (sW I (lU (eN am I) (aT I (sW I (aT I (bK ?_)))))))))));refine oP (ι:=Nat) (fun i=>[(1,pp b1 0),(2,pp b2 0),(4,pp b17 0),(5,.slice none 0 0),(6,vi c),(7,vi 0),(8,vi 0),(19,vi C),(20,vi c)]) (fun _=>g) (fun _=>pt b17 (.cells (kN p 0 C (.slice q1 0 cE) (List.replicate 998 0)) 195 (0,0))::pt b2 (.cells #[vi 0,vi 0,vi 0,.slice none 0 0] 147 (0,0))::pt b1 (.cells #[vi p,vi (0:Nat),vi C,.slice q1 0 cE] 147 (0,0))::s) (fun _=>True) (fun i=>0) 0 sB I I trivial ?_;rintro i _;refine sQ (sW I (lU (fA di I zT3 I) (lK (qL (v:=vi (0:Nat)) iT3 I (cO 2 I I)) (yL I (tZ ?_)))));refine iP I (fun hlt2=>?_) (fun hlt2=>?_)
  ·exact absurd hlt2 dC
  ·refine xI (tX (tX (bX (bN (tN (rG (yD I (lM I (nL ?_)))))))));exact gA (c+1) sB I I oM oM
 ·have hcC:c=C:=oM;subst hcC;refine xI (tX (tX (bX (tN (sW I (lU (nC I) (lU (fA ke I cJ I) (lK (SQ.loadAggAt (b:=b17) (o:=0) (vs:=[vi p,vi R,vi c,.slice q1 0 cE]) isAgg147 cJ I I (fun j x hj=>by rw[Nat.zero_add]; exact BI 0 I hj)) ?_))))))));refine lM I (oZ (sK 1 cJ I I I I I sB) (aT I (rE (ST.scopeR ?_))));exact ST.retCD1 1 s (.inl I) results157 I I isAgg147 cJ I I uR ⟨I,zb7 _,_,_,I,⟨_,_,_,I⟩,zb8 g _⟩
theorem zL {p:Int}(hp:Fld p){R C:Nat}(h:R * C=0)(A:Nat→Nat→Int):rk p A R C=0:=by
 rcases Nat.mul_eq_zero.1 h with rfl | rfl
 ·have:=ki hp A 0 C; omega
 ·have:=oG hp A R 0; omega
theorem rI (E:World)(g:PH)(s:Own)(v:Value)(p:Int)(hp:Fp p)(R C:Nat)(hR:R≤400)(hC:C≤400)(A:List Int)(hA:A.length=R * C)(hv:FmR g v p R C A)(hA0:∀ x<R,∀ y<C,0≤atF A C x y∧atF A C x y<p) :
  Ctr Tryz.prog E 157 #[v] g s (fun x g' s'=>s=s'∧Le g g'∧∃ (J:List Nat) (m y:Value),x = .tuple #[.agg #[vi p,vi R,vi C,m],y]∧(∃ q n k,m = .slice q n k)∧cd g' y (J.map fun j:Nat=>(j:Int))∧J.length=rk p (atF A C) R C∧J.length≤R):=by
 by_cases h0:R * C=0
 ·refine (rJ E g s v p R C hR hC h0 A hA hv).mono ?_;rintro x g' s' ⟨h1,h2,m,y,h3,h4,h5⟩;exact⟨h1,h2,[],m,y,h3,h4,h5,(zL hp.fld h0 _).symm,ze9 _⟩
 ·exact rK E g s v p hp R C hR hC (Nat.pos_of_ne_zero h0) A hA hv hA0
theorem Cb {A:List Int}{R C x y:Nat}(hA:A.length=R * C)(hx:x<R)(hy:y<C):atF A C x y∈A:=zf5 (iz hA hx hy)
theorem pP (E:World)(g:PH)(s:Own)(v:Value)(p:Int)(hp:Fp p)(R C:Nat)(hR:R≤400)(hC:C≤400)(A:List Int)(hA:A.length=R * C)(hv:FmR g v p R C A)(hA0:∀ x∈A,0≤x∧x<p) :
  Ctr Tryz.prog E 128 #[v] g s (fun x g' s'=>s=s'∧Le g g'∧∃ (J:List Nat) (m y:Value),x = .tuple #[.agg #[vi p,vi R,vi C,m],y]∧(∃ q n k,m = .slice q n k)∧cd g' y (J.map fun j:Nat=>(j:Int))∧J.length=rk p (atF A C) R C∧J.length≤R):=by
 have hv0:=hv;obtain ⟨q,c0,rfl,hs⟩:=hv;refine za9 (args:=[.agg #[vi p,vi R,vi C,.slice q A.length c0]]) func128 I ntmps128 (bE I) ?_;refine rZ (bW (bO I) fun b1=>?_);refine bW (aL zj9) fun b2=>?_;refine aT I (sQ (rZ (lK (qV 1 isAgg147 cJ I I I) (lW (cL call156 I (tf E g _ _ p hp R C hR hC A hA hv0 hA0)) ?_))));rintro _ _ _ ⟨rfl,rfl,rfl⟩;refine lU (SU.not I) (tZ (cF I (kP (tN (rZ (lK (qV 1 isAgg147 cJ I I I) (lW (cL call157 I (rI E g _ _ p hp R C hR hC A hA hv0 fun x hx y hy=>hA0 _ (Cb hA hx hy))) ?_)))))));rintro _ g1 _ ⟨rfl,hle1,J,_,y,rfl,⟨mq,mn,mk,rfl⟩,hy1,hJ,hJR⟩;refine yX I (yX I (oZ (sK 0 cJ I I I I I sB) (aT I (rE ?_))));exact ST.retCD1 0 s (.inl I) results128 I I isAgg147 cJ I I uR ⟨I,hle1,J,_,y,I,⟨mq,mn,mk,I⟩,hy1,hJ,hJR⟩
theorem vK (E:World)(g:PH)(s:Own)(v:Value)(p:Int)(hp:Fp p)(R C:Nat)(hR:R≤400)(hC:C≤400)(A:List Int)(hA:A.length=R * C)(hv:FmR g v p R C A)(hA0:∀ x∈A,0≤x∧x<p) :
  Ctr Tryz.prog E 104 #[v] g s (fun x g' s'=>s=s'∧Le g g'∧x=vi (rk p (atF A C) R C:Nat)):=by
 have hv0:=hv;obtain ⟨q,c0,rfl,hs⟩:=hv;refine za9 (args:=[.agg #[vi p,vi R,vi C,.slice q A.length c0]]) func104 I ntmps104 (bE I) ?_;refine rZ (bW (bO I) fun b1=>?_);refine aT I (rZ (lK (qV 0 isAgg147 cJ I I I) (lW (cL call128 I (pP E g _ _ p hp R C hR hC A hA hv0 hA0)) ?_)));rintro _ g1 _ ⟨rfl,hle1,J,_,y,rfl,⟨mq,mn,mk,rfl⟩,hy1,hJ,hJR⟩;obtain ⟨yp,yc,rfl⟩:=za2 hy1;refine lM I (yX I (yX I (bW (aL zj9) fun b3=>?_)));refine oZ (sK 0 cJ I I I I I sB) (aT I (sW I (lU (SU.eq (v':=vi (rk p (atF A C) R C:Nat)) (eN am I) (by rw[zd9,hJ])) ?_)));refine aT I (rE (dR (s':=s) uR ?_));exact za6 (.inl I) results104 I ⟨I,hle1,I⟩
def elM (M:List (List Int))(i j:Nat):Int:=(M.getD i []).getD j 0
theorem xh {M:List (List Int)}{i j:Nat}(hi:i<M.length)(hj:j<M[i].length):elM M i j=M[i][j]:=by
 have h1:M.getD i []=M[i]:=by
  rw[zg4,gE hi];rfl
 unfold elM;rw[h1,zg4,gE hj];rfl
theorem Ah (E:World)(g:PH)(s:Own)(v:Value)(p:Int)(hp:Fp p)(M:List (List Int))(C:Nat)(hv:aJ g v M)(hR:M.length≤400)(hC:C≤400)(hM:∀ r∈M,r.length=C)(hM0:M=[]→C=0)(hb:∀ r∈M,∀ x∈r,x.natAbs≤1000000) :
  Ctr Tryz.prog E 105 #[vi p,v] g s (fun x g' s'=>s=s'∧Le g g'∧∃ A,FmR g' x p M.length C A∧A.length=M.length * C∧(∀ y∈A,0≤y∧y<p)∧∀ i<M.length,∀ j<C,atF A C i j=elM M i j % p):=by
 obtain ⟨rs,hrs,hall⟩:=hv;have hlen:=hall.length;have hm:=yW (show rs.length≤400 by omega) hC;have hl:=hp.lt;obtain ⟨q,c,rfl⟩:=za2 hrs;have row:∀ i (hi:i<rs.length),∃ (hi':i<M.length) (rp:Option Addr) (rc:Nat),rs[i]?=some ⟨rp,C,rc⟩∧cd g (.slice rp C rc) M[i]∧M[i].length=C:=fun i hi=>by
  have hi':i<M.length:=oM;have hx:=hM _ (gM hi');have h1:=hall.get (gE hi') (gE hi);have h2:=h1.len;generalize hr:rs[i]=r at *;obtain ⟨rp,rn,rc⟩:=r;dsimp only at h2;have h3:rn=C:=oM;subst h3;exact⟨hi',rp,rc,by rw[← hr]; exact gE hi,h1,hx⟩
 refine za9 (args:=[vi p,.slice q rs.length c]) func105 I ntmps105 (bE I) ?_;refine rZ (bW (aL zj9) fun b4=>?_);refine tZ (rZ (aT I (sQ (sW I (lU (eN bF I) (lM I (tZ (bK ?_))))))));refine oP (ι:=Nat) (fun k=>[(0,vi p),(1,.slice q rs.length c),(4,pp b4 0),(5,vi (if k=0 then 0 else C:Nat)),(13,.slice q rs.length c),(14,vi rs.length),(15,vi k)]) (fun _=>g) (fun _=>pt b4 (.cells #[vi 0,vi 0,vi 0,.slice none 0 0] 147 (0,0))::s) (fun k=>k≤rs.length) (fun k=>rs.length - k) 0 sB I I (ze9 _) ?_;rintro k hk;refine rZ (yL I (tZ (sQ ?_)));refine iP I (fun hlt=>?_) (fun hlt=>?_)
 ·have hkl:k<rs.length:=oM;obtain ⟨hi',rp,rc,hgr,hxs,hxl⟩:=row k hkl;have hb1:=za4 hrs oM;refine kP (tN (sQ (bK (rZ (lU (iA bF cg I I hb1 oM sL) (lK (eB (u:=.slice rp C rc) dx I (za5 hrs) hgr I) (aT I (rG (lM I (lM I (lU (eN am I) (lU (SU.eq (v':=vi (C:Nat)) (SU.maxF I I) (zd5 vi (by split <;> omega))) ?_))))))))))));refine lA I (nL (bN (tN (rG (yD I (lM I (nL ?_)))))));exact gA (k+1) ⟨I,I,I,by rw[zf3 (Nat.succ_ne_zero k)]; rfl,rfl,rfl,rfl,trivial⟩ rfl rfl oM oM
 ·have hkk:k=rs.length:=oM;subst hkk;have hC1:(if rs.length=0 then 0 else C)=C:=by
   split
   ·rename_i e;exact (hM0 (List.length_eq_zero_iff.1 oM)).symm
   ·rfl
  rw[hC1];refine xI (tX (tX (bX (tN (sW I (lM I (lU (eN bF I) (lM I (lW (cL call129 I (yf E g _ p hp rs.length C oM hC)) ?_)))))))));rintro _ _ _ ⟨rfl,bz,rfl,rfl⟩;refine bW (aL zj9) fun b8=>?_;refine oZ (sK 0 cJ I I I I I sB) (tZ (sQ (sQ ?_)));refine SC.to (g':=g) (s':=pt b8 (.cells #[vi p,vi rs.length,vi C,.slice (some ⟨bz,0,none⟩) (rs.length * C) (rs.length * C)] 147 (0,0))::rowA encInt 3 (.slice (some ⟨bz,0,none⟩) (rs.length * C) (rs.length * C)) (List.replicate (rs.length * C) 0)::pt b4 (.cells #[vi 0,vi 0,vi 0,.slice none 0 0] 147 (0,0))::s) (fun w hw=>hw) ?_;refine rG (lU (fA di I cg I) (lK (qL (v:=.slice (some ⟨bz,0,none⟩) (rs.length * C) (rs.length * C)) dx I (cO 0 I I)) (lU (eN am I) (yE I (tZ ?_)))));refine iP I (fun he=>?_) (fun he=>?_)
  ·refine rZ (lK (qV 0 isAgg147 cJ I I I) (oZ (sK 2 cJ I I I I I sB) (tZ (rE (tR ?_)))));have hz:rs.length * C=0:=oM;refine ST.perm (zi9 _ _ _) (fT fun g5 hle5 hs5=>?_);exact ST.retCD 1 s (.inl I) results105 I isAgg147 cJ I I uR ⟨I,hle5,List.replicate (rs.length * C) 0,⟨some ⟨bz,0,none⟩,rs.length * C,by rw[List.length_replicate,hlen]; rfl,by rw[List.length_replicate]; exact hs5⟩,by rw[List.length_replicate,hlen],fun y hy=>by rw[hz] at hy; simp at hy,fun i hi j hj=>by
    have:=iy hi hj;rw[hlen] at this;omega⟩
  ·have hpos:0<rs.length * C:=oM;refine kP (tN (sQ (sW I (lU (eN bF I) (lM I (tZ (bK ?_)))))));refine oP (ι:=Nat×List Int) (fun z=>[(0,vi p),(1,.slice q rs.length c),(4,pp b4 0),(5,vi C),(8,pp b8 0),(34,.slice q rs.length c),(35,vi rs.length),(36,vi z.1)]) (fun _=>g) (fun z=>pt b8 (.cells #[vi p,vi rs.length,vi C,.slice (some ⟨bz,0,none⟩) (rs.length * C) (rs.length * C)] 147 (0,0))::rowA encInt 3 (.slice (some ⟨bz,0,none⟩) (rs.length * C) (rs.length * C)) z.2::pt b4 (.cells #[vi 0,vi 0,vi 0,.slice none 0 0] 147 (0,0))::s) (fun z=>z.1≤rs.length∧z.2.length=rs.length * C∧(∀ y∈z.2,0≤y∧y<p)∧∀ x<z.1,∀ y<C,atF z.2 C x y=elM M x y % p) (fun z=>rs.length - z.1) (0,List.replicate (rs.length * C) 0) sB I I ⟨ze9 _,List.length_replicate,fun y hy=>by rw[List.eq_of_mem_replicate hy]; omega,fun x hx=>by omega⟩ ?_;rintro ⟨i,L⟩ ⟨hi,hL,hLp,hz⟩;dsimp only at hi hL hLp hz ⊢;refine rZ (yL I (tZ (sQ ?_)));refine iP I (fun hlt2=>?_) (fun hlt2=>?_)
   ·have hil:i<rs.length:=oM;obtain ⟨hi',rp,rc,hgr,hxs,hxl⟩:=row i hil;have hb1:=za4 hrs oM;have hin1:=jt (C:=C) hil;have hin2:(i+1) * C=i * C+C:=by rw[Nat.add_mul,Nat.one_mul]
    refine kP (tN (sQ (bK (sW I (lU (iA bF cg I I hb1 oM sL) (lK (eB (u:=.slice rp C rc) dx I (za5 hrs) hgr I) (lA I (aT I (sW I (lU (eN am I) (lM I (tZ (bK ?_)))))))))))));refine oP (ι:=Nat×List Int) (fun z=>[(0,vi p),(1,.slice q rs.length c),(4,pp b4 0),(5,vi C),(8,pp b8 0),(9,vi i),(34,.slice q rs.length c),(35,vi rs.length),(36,vi i),(41,.slice rp C rc),(42,vi C),(43,vi z.1)]) (fun _=>g) (fun z=>pt b8 (.cells #[vi p,vi rs.length,vi C,.slice (some ⟨bz,0,none⟩) (rs.length * C) (rs.length * C)] 147 (0,0))::rowA encInt 3 (.slice (some ⟨bz,0,none⟩) (rs.length * C) (rs.length * C)) z.2::pt b4 (.cells #[vi 0,vi 0,vi 0,.slice none 0 0] 147 (0,0))::s) (fun z=>z.1≤C∧z.2.length=rs.length * C∧(∀ y∈z.2,0≤y∧y<p)∧(∀ x<i,∀ y<C,atF z.2 C x y=elM M x y % p)∧∀ y<z.1,atF z.2 C i y=elM M i y % p) (fun z=>C - z.1) (0,L) sB I I ⟨ze9 _,hL,hLp,hz,fun y hy=>by omega⟩ ?_;rintro ⟨j,K⟩ ⟨hj,hK,hKp,hz1,hz2⟩;dsimp only at hj hK hKp hz1 hz2 ⊢;refine rZ (yL I (tZ (sQ ?_)));refine iP I (fun hlt3=>?_) (fun hlt3=>?_)
    ·have hjC:j<C:=oM;have hij:=iy hil hjC;have hb2:=za4 hxs oM;have hjx:j<M[i].length:=oM;have hgk:M[i][((j:Nat):Int).toNat]?=some M[i][j]:=gE hjx;have hel:=xh hi' hjx;have hbx:=hb _ (gM hi') _ (gM hjx);rw[← hel] at hgk hbx;generalize hn:elM M i j=n at *;have hmo:=l5 (a:=n) hl.1;have ht:n.tmod p=n % p∨n.tmod p=n % p - p:=by
      rcases Int.le_total 0 n with h | h
      ·left; exact Int.tmod_eq_emod_of_nonneg h
      ·rw[Int.tmod_eq_emod];split
       ·left; omega
       ·right; omega
     have hmm:(n.tmod p+p).tmod p=n % p:=by
      rw[Int.tmod_eq_emod_of_nonneg oM]
      rcases ht with h | h <;> rw[h]
      ·rw[Int.add_emod_right,Int.emod_emod]
      ·rw[Int.sub_add_cancel,Int.emod_emod]
     refine kP (tN (sQ (bK (sW I (lU (iA am zT3 I I hb2 oM sL) (lK (eB iT3 I (za5 hxs) hgk I) (lA I (aT I ?_))))))));refine dW [15] [(0,2),(1,1),(2,2),(3,2),(4,2),(5,2),(6,2),(7,2),(8,2),(9,2),(10,2),(11,2),(12,2),(13,2),(14,2),(15,0)] zd6 kR ?_;refine pU I (fA di I cg I) (pK I (qL (v:=.slice (some ⟨bz,0,none⟩) (rs.length * C) (rs.length * C)) dx I (cO 0 I I)) (yM I (yM I (pU I (SU.eq (v':=vi ((i * C:Nat))) (SU.mulW I I) (zd5 vi (by rw[← Int.natCast_mul]; exact zj7 _ oM))) ?_))));refine yM I (pU I (SU.eq (v':=vi ((i * C+j:Nat))) (aD I I oM) (zd5 vi oM)) (yM I (yM I (pU I (zd2 I I oM) (yM I (pU I (aD I I oM) (yM I (pU I (SU.eq (v':=vi (n % p)) (zd2 I I oM) (zd5 vi hmm)) (pU I (SU.eq (v':=.pointer (some ⟨bz,0+(i * C+j) * 1,none⟩)) (iA am zT3 I I I oM sL) (ek (by simp only[Int.toNat_natCast]))) ?_)))))))));refine SP.on I (sT (e:=encInt) (a:=n % p) (j:=i * C+j) 1 zT3 I I I (by rw[hK]; exact iy hil hjC) I) (.inl dC) ?_;rintro _ _ _ ⟨rfl,rfl⟩;refine pN (bN (tN (rG (yD I (lM I (nL ?_))))));exact gA (j+1,K.set (i * C+j) (n % p)) sB I I ⟨by dsimp only; omega,by dsimp only; rw[zh6,hK],fun y hy=>by
      rcases List.mem_or_eq_of_mem_set hy with h | h
      ·exact hKp y h
      ·rw[h]; exact hmo,fun x hx y hy=>by
      dsimp only;rw[l6 hK hil hjC hy,zf3 (fun e=>by omega),hz1 x hx y hy],fun y hy=>by
      dsimp only at hy ⊢;have hyC:y<C:=oM;rw[l6 hK hil hjC hyC];by_cases e:j=y
      ·subst e;rw[zf4 ⟨rfl,rfl⟩];rw[hn]
      ·rw[zf3 (fun k=>e k.2),hz2 y oM]⟩ (by dsimp only; omega)
    ·have hjC:j=C:=oM;subst hjC;refine xI (tX (tX (bX (bN (tN (rG (yD I (lM I (nL ?_)))))))));exact gA (i+1,K) sB I I ⟨by dsimp only; omega,hK,hKp,fun x hx y hy=>by
      dsimp only at hx;by_cases e:x=i
      ·rw[e]; exact hz2 y hy
      ·exact hz1 x oM y hy⟩ (by dsimp only; omega)
   ·have hii:i=rs.length:=oM;subst hii;refine xI (tX (tX (bX (tN (rZ (lK (qV 0 isAgg147 cJ I I I) (oZ (sK 2 cJ I I I I I sB) (tZ (rE (ST.perm (zi9 _ _ _) (fT fun g5 hle5 hs5=>?_)))))))))));exact ST.retCD 1 s (.inl I) results105 I isAgg147 cJ I I uR ⟨I,hle5,L,⟨some ⟨bz,0,none⟩,rs.length * C,by rw[hL,hlen]; rfl,by rw[hL]; exact hs5⟩,by rw[hL,hlen],hLp,fun x hx y hy=>hz x oM y hy⟩
def tlB (L:List Cl):Nat→List (List Int)→Int→Nat
 | _,[],_=>0
 | k,t::T,id=>(if (ef L t).contains id then 2 ^ k else 0)+tlB L (k+1) T id
theorem wJ (L:List Cl)(t:List Int)(id:Int):∀ (T:List (List Int)) (k:Nat),tlB L k (T++[t]) id=tlB L k T id+if (ef L t).contains id then 2 ^ (k+T.length) else 0
 | [],k=>by simp[tlB]
 | u::T,k=>by
  rw[List.cons_append];unfold tlB;rw[wJ L t id T (k+1),ze2,Nat.add_assoc,Nat.add_comm 1,Nat.add_assoc]
theorem AM (L:List Cl)(id:Int):∀ (T:List (List Int)) (k:Nat),tlB L k T id+2 ^ k≤2 ^ (k+T.length)
 | [],k=>by simp[tlB]
 | u::T,k=>by
  have h:=AM L id T (k+1);have h2:2 ^ (k+1)=2 * 2 ^ k:=by rw[Nat.pow_succ,Nat.mul_comm]
  rw[ze2,show k+(T.length+1)=k+1+T.length by omega];unfold tlB;split <;> omega
theorem oz (L:List Cl)(id:Int)(T:List (List Int)):tlB L 0 T id<2 ^ T.length:=by
 have:=AM L id T 0;rw[Nat.zero_add] at this;omega
def er (l:List Cl)(T:List (List Int)):Int:=if (a6 l).2≠0 then (a6 l).2 else if (T.length:Int)>6 then 2 else if T.any (fun t=>t.any fun id=>(aO (ae l) id).isNone) then 30 else if (ae l).any (fun c=>decide (tlB (ae l) 0 T c.id=0)) then 45 else 0
def bQ (b:Nat):List Nat:=(List.range (b+1)).filter fun s=>decide (0<s)&&decide (s &&& b=s)
def eP (s:Nat):List Nat:=(List.range 6).filter fun k=>s.testBit k
def onesB (s:Nat):Nat:=(eP s).length
def sgP (m:Int):Int:=1 - 2 * (m % 2)
def bId (n i s:Nat):Int:=((i * 2 ^ n+s:Nat):Int)
def ixB (L:List Cl)(id:Int):Nat:=lbI (L.map Cl.id) id
def kq (L:List Cl)(n i:Nat)(y:Cl)(s:Nat):List ai:=(y.sides.map fun x=>⟨bId n (ixB L x.cell) s,x.sign⟩)++if onesB s≤1 then [] else (eP s).zipIdx.map fun q=>⟨bId n i (s - 2 ^ q.1),sgP (q.2+y.dim)⟩
def ce (L:List Cl)(n i:Nat)(y:Cl)(s:Nat):Cl:=⟨bId n i s,y.dim+onesB s - 1,kq L n i y s⟩
def nx (L:List Cl)(T:List (List Int)):List Cl:=L.zipIdx.flatMap fun q=>(bQ (tlB L 0 T q.1.id)).map (ce L T.length q.2 q.1)
def cD (L:List Cl)(T:List (List Int)):List Cl:=aa (nx L T)
def de (n:Nat)(id:Int):Int:=onesB (id.toNat % 2 ^ n) - 1
def gF (l:List Cl)(T:List (List Int)):List Cl:=if er l T≠0∨(a6 (cD (ae l) T)).2≠0 then [] else cD (ae l) T
def ec (c r:Cl):Int:=(c.sides.map fun q=>if q.cell=r.id then q.sign else 0).sum
section
variable (rf:List Cl→List Cl→Nat)(n:Nat)(B:List Cl)
def dn (a dim:Int):List Cl:=B.filter fun c=>decide (c.dim=dim)&&decide (de n c.id≤a)
def ep (low dim:Int):List Cl:=B.filter fun c=>decide (c.dim=dim)&&decide (de n c.id>low)
def bw (a low dim:Int):Int:=(dn n B a dim).length - (rf (dn n B a dim) (ep n B low (dim - 1)):Int)
def pC (a low dim:Int):Int:=bw rf n B (min (max a (-1)) ((n:Int) - 1)) (max low (-1)) dim
def ni (r a b:Int):Int:=pC rf n B a (a - r) (a+b) - pC rf n B (a - 1) (a - r) (a+b) - pC rf n B (a+r - 1) a (a+b+1)+pC rf n B (a+r - 1) (a - 1) (a+b+1)
def y5 (D:Nat)(r:Int):List (List Int):=(List.range n).map fun a:Nat=>(List.range D).map fun b:Nat=>ni rf n B r a b
def kT {α:Type}[DecidableEq α]:List α→List α
 | a::b::l=>if a=b then kT (b::l) else a::b::l
 | l=>l
def fY {α:Type}[DecidableEq α](l:List α):List α:=(kT l.reverse).reverse
def i5 (D:Nat):List (List (List Int)):=(List.range n).map fun r:Nat=>y5 rf n B D ((r:Int)+1)
end
noncomputable def rkP (p:Int) (C R:List Cl):Nat:=rkL p C R ec
def pD (B:List Cl):Bool:=B.any fun c=>decide ((B.filter fun x=>decide (x.dim=c.dim)).length>200)
def c4 (l:List Cl)(T:List (List Int))(p:Int):Int:=if gz p=false then 46 else if er l T≠0 then er l T else if (a6 (cD (ae l) T)).2≠0∨pD (cD (ae l) T)=true then 2 else 0
def dimN (l:List Cl):Nat:=(nB (ae l) (-1)+1).toNat
noncomputable def cz (l:List Cl) (T:List (List Int)) (p:Int):List (List (List Int)):=if c4 l T p≠0 then [] else fY (i5 (rkP p) T.length (cD (ae l) T) (dimN l))
def fv (D:Nat)(P:List (List Int)):List Int:=(List.range D).map fun d:Nat=>((P.zipIdx.map fun q=>if q.2≤d then q.1.getD (d - q.2) 0 else 0)).sum
noncomputable def i6 (l:List Cl) (T:List (List Int)) (p:Int):List Int:=if (cz l T p).length=0 then [] else fv (dimN l) ((cz l T p).getLastD [])
theorem Rt.ix {L:List Cl}(h:Rt L){i:Nat}{c:Cl}(hi:L[i]?=some c):ixB L c.id=i:=by
 have hc:c∈L:=zf5 hi;have h2:(L.map Cl.id).Pairwise (· < ·):=by rw[zj3]; exact h.asc
 rcases oS (tl:=L) (h2.imp fun h=>by omega) c.id with ⟨h1,_⟩ | ⟨d,k,h1,h3,h4⟩
 ·rw[h.find hc] at h1;cases h1
 ·rw[h.find hc] at h1;cases h1;have h5:(L.map Cl.id).contains c.id=true:=by simp; exact⟨c,hc,I⟩
  unfold atC at h3;rw[zf4 h5] at h3;have h6:ixB L c.id=k:=by unfold ixB; omega
  rw[h6];have hi':=ze8.1 hi;have hk':=ze8.1 h4;obtain ⟨a1,a2⟩:=hi';obtain ⟨b1,b2⟩:=hk'
  rcases Nat.lt_trichotomy i k with h | h' | h
  ·have:=zc5.1 (Rt.asc ‹Rt L›) i k a1 b1 h;rw[a2,b2] at this;omega
  ·exact h'.symm
  ·have:=zc5.1 (Rt.asc ‹Rt L›) k i b1 a1 h;rw[a2,b2] at this;omega
theorem Rt.ix_get {L:List Cl}(h:Rt L){c:Cl}(hc:c∈L):L[ixB L c.id]?=some c:=by
 obtain ⟨i,hi,e⟩:=List.mem_iff_getElem.1 hc;have h1:L[i]?=some c:=by rw[gE hi,e]
 rw[h.ix h1];exact h1
theorem Rt.ix_inj {L:List Cl}(h:Rt L){c d:Cl}(hc:c∈L)(hd:d∈L)(e:ixB L c.id=ixB L d.id):c=d:=by
 have h1:=h.ix_get hc;rw[e,h.ix_get hd] at h1;injection h1 with h1
 exact h1.symm
theorem cH {b s:Nat}:s∈bQ b↔0<s∧s &&& b=s:=by
 unfold bQ;rw[zg7,List.mem_range];simp only[zi4,zi5];constructor
 ·exact fun h=>h.2
 ·intro h;refine⟨?_,h⟩;have:s &&& b≤b:=Nat.and_le_right;omega
theorem mg {a b c:Nat}(h:a &&& b=a)(k:b &&& c=b):a &&& c=a:=by
 rw[← h,Nat.and_assoc,k]
theorem sub_le {a b:Nat}(h:a &&& b=a):a≤b:=by
 have:a &&& b≤b:=Nat.and_le_right;omega
theorem eZ {n i s i' s':Nat}(h1:s<2 ^ n)(h2:s'<2 ^ n)(h:bId n i s=bId n i' s'):i=i'∧s=s':=zS h1 h2 (by unfold bId at h; omega)
def cB (s:Nat):List (Nat×Nat):=if onesB s≤1 then [] else (eP s).zipIdx
def hB (s t:Nat):Nat:=((cB s).filter fun q=>decide (s - 2 ^ q.1=t)).length
def iB (s t:Nat)(d:Int):Int:=((cB s).map fun q=>if s - 2 ^ q.1=t then sgP (q.2+d) else 0).sum
theorem py:∀ s,s<16→∀ q∈cB s,0<s - 2 ^ q.1∧(s - 2 ^ q.1) &&& s=s - 2 ^ q.1∧onesB (s - 2 ^ q.1)+1=onesB s∧0<hB s (s - 2 ^ q.1):=by decide +kernel
theorem vU:∀ s,s<16→((cB s).map fun q=>s - 2 ^ q.1).Nodup:=by decide +kernel
theorem Ap:∀ s,s<16→∀ t,t<16→((cB s).map fun q=>sgP q.2 * iB (s - 2 ^ q.1) t 0).sum=0:=by decide +kernel
theorem Ar:∀ s,s<16→∀ t,t<16→hB s t≤1∧hB s s=0∧(((cB s).map fun q=>hB (s - 2 ^ q.1) t).sum=0∨((cB s).map fun q=>hB (s - 2 ^ q.1) t).sum=2)∧((cB s).map fun q=>hB (s - 2 ^ q.1) s).sum=0:=by decide +kernel
theorem yN:∀ s,s<16→3≤onesB s→∀ q∈cB s,∀ r∈cB s,q=r∨(0<s - 2 ^ q.1 - 2 ^ r.1∧(s - 2 ^ q.1 - 2 ^ r.1) &&& s=s - 2 ^ q.1 - 2 ^ r.1∧0<hB (s - 2 ^ q.1) (s - 2 ^ q.1 - 2 ^ r.1)∧0<hB (s - 2 ^ r.1) (s - 2 ^ q.1 - 2 ^ r.1)):=by decide +kernel
theorem Aq:∀ s,s<16→0<s→0<onesB s∧onesB s≤4∧(cB s).length=if onesB s≤1 then 0 else onesB s:=by decide +kernel
theorem Ao:∀ s,s<16→onesB s=2→((cB s).map fun q=>sgP (q.2+0)).sum=0:=by decide +kernel
theorem oE (a b:Int):sgP (a+b)=sgP a * sgP b:=by
 unfold sgP;have h1:a % 2=0∨a % 2=1:=oM;have h2:b % 2=0∨b % 2=1:=oM
 rcases h1 with h1 | h1 <;> rcases h2 with h2 | h2 <;> rw[h1,h2]
 ·rw[show (a+b) % 2=0 by omega]; rfl
 ·rw[show (a+b) % 2=1 by omega]; rfl
 ·rw[show (a+b) % 2=1 by omega]; rfl
 ·rw[show (a+b) % 2=0 by omega]; rfl
theorem oD (a:Int):sgP a=1∨sgP a = -1:=by
 unfold sgP;omega
theorem zA (a:Int):sgP (a - 1) = -sgP a:=by
 unfold sgP;omega
theorem wy (s t:Nat)(d:Int):iB s t d=sgP d * iB s t 0:=by
 unfold iB;refine bG fun q _=>?_;split
 ·rw[oE,Int.add_zero,Int.mul_comm]
 ·rw[Int.mul_zero]
theorem BU (s t:Nat)(d:Int):iB s t (d - 1)+iB s t d=0:=by
 rw[wy s t (d - 1),wy s t d,zA,Int.neg_mul];omega
def cS (d e:Cl):Nat:=(d.sides.filter fun q=>decide (q.cell=e.id)).length
def bB (L:List Cl)(f:Int→Nat)(n:Nat):List Cl:=L.zipIdx.flatMap fun q=>(bQ (f q.1.id)).map (ce L n q.2 q.1)
theorem r8 (L:List Cl)(T:List (List Int)):nx L T=bB L (tlB L 0 T) T.length:=rfl
theorem ft (L:List Cl)(n i:Nat)(y:Cl)(s:Nat):kq L n i y s=(y.sides.map fun x=>⟨bId n (ixB L x.cell) s,x.sign⟩)++(cB s).map fun q=>⟨bId n i (s - 2 ^ q.1),sgP (q.2+y.dim)⟩:=by
 unfold kq cB;split <;> simp
structure Cov (L:List Cl)(f:Int→Nat)(n:Nat):Prop where
 rt:Rt L
 n4:n≤4
 lt:∀ c∈L,f c.id<2 ^ n
 sub:∀ c∈L,∀ x∈c.sides,f c.id &&& f x.cell=f c.id
 few:L.length≤60
 dim:∀ c∈L,c.dim≤4
 sd:∀ c∈L,c.sides.length≤60
section
variable {L:List Cl}{f:Int→Nat}{n:Nat}(h:Cov L f n)
include h
theorem Cov.pow:2 ^ n≤16:=Nat.pow_le_pow_right dC h.n4 (n:=2)
theorem Cov.s16 {c:Cl}(hc:c∈L){s:Nat}(hs:s∈bQ (f c.id)):s<2 ^ n∧s<16:=by
 have h1:=sub_le (cH.1 hs).2;have h2:=h.lt c hc;have h3:=h.pow;omega
theorem Cov.side {c:Cl}(hc:c∈L){x:ai}(hx:x∈c.sides):∃ d∈L,d.id=x.cell∧d.dim=c.dim - 1∧∀ s∈bQ (f c.id),s∈bQ (f d.id):=by
 obtain ⟨d,hd,hdd⟩:=(h.rt.form c hc).found x hx;obtain ⟨h1,h2⟩:=ck hd;refine⟨d,h1,h2,hdd,fun s hs=>?_⟩;obtain ⟨k1,k2⟩:=cH.1 hs;exact cH.2 ⟨k1,mg k2 (by rw[h2]; exact h.sub c hc x hx)⟩
omit h in
theorem mu (h:Rt L){z:Cl}:z∈bB L f n↔∃ c∈L,∃ s∈bQ (f c.id),z=ce L n (ixB L c.id) c s:=by
 unfold bB;rw[List.mem_flatMap];constructor
 ·rintro ⟨⟨c,i⟩,hq,hz⟩;obtain ⟨s,hs,rfl⟩:=ze5.1 hz;have hi:L[i]?=some c:=List.mem_zipIdx_iff_getElem?.1 hq;exact⟨c,zf5 hi,s,hs,by rw[h.ix hi]⟩
 ·rintro ⟨c,hc,s,hs,rfl⟩;exact⟨(c,ixB L c.id),List.mem_zipIdx_iff_getElem?.2 (h.ix_get hc),ze5.2 ⟨s,hs,I⟩⟩
theorem Cov.ids:((bB L f n).map Cl.id).Nodup:=by
 have h1:(bB L f n).Pairwise fun a b=>a.id<b.id:=by
  unfold bB;rw[List.pairwise_flatMap];refine⟨fun q hq=>?_,?_⟩
  ·rw[zj3];have h2:(bQ (f q.1.id)).Pairwise (· < ·):=(List.pairwise_lt_range (n:=_)).filter _;refine h2.imp fun {a b} hlt=>?_;show bId n q.2 a<bId n q.2 b;unfold bId;omega
  ·have h3:L.zipIdx.Pairwise fun a b=>a.2<b.2:=by
    have:=List.pairwise_lt_range (n:=L.length);rw[List.range_eq_range',← List.zipIdx_map_snd 0 L,zj3] at this;exact this
   refine List.Pairwise.imp_of_mem ?_ h3;rintro ⟨c,i⟩ ⟨d,j⟩ hc hd hlt z hz w hw;obtain ⟨s,hs,rfl⟩:=ze5.1 hz;obtain ⟨t,ht,rfl⟩:=ze5.1 hw;have hci:L[i]?=some c:=List.mem_zipIdx_iff_getElem?.1 hc;have hs2:=(h.s16 (zf5 hci) hs).1;have:=BK (N:=2 ^ n) (k':=t) hs2 hlt;dsimp only at this;show bId n i s<bId n j t;unfold bId;omega
 rw[List.Nodup,zj3];exact h1.imp fun h=>by omega
theorem Cov.nodup:((aa (bB L f n)).map Cl.id).Nodup:=by
 have h2:((aa (bB L f n)).map Cl.id).Perm ((bB L f n).map Cl.id):=by
  rw[kJ];exact (fx _).map _
 exact h2.symm.nodup h.ids
theorem Cov.mem {z:Cl}:z∈aa (bB L f n)↔∃ c∈L,∃ s∈bQ (f c.id),z=aI (ce L n (ixB L c.id) c s):=by
 unfold aa;rw[ze5];constructor
 ·rintro ⟨d,hd,rfl⟩;obtain ⟨c,hc,s,hs,rfl⟩:=(mu h.rt).1 ((cQ _ _).1 hd);exact⟨c,hc,s,hs,I⟩
 ·rintro ⟨c,hc,s,hs,rfl⟩;exact⟨_,(cQ _ _).2 ((mu h.rt).2 ⟨c,hc,s,hs,I⟩),I⟩
theorem Cov.find {c:Cl}(hc:c∈L){s:Nat}(hs:s∈bQ (f c.id)):aO (aa (bB L f n)) (bId n (ixB L c.id) s)=some (aI (ce L n (ixB L c.id) c s)) :=
 lx (x:=aI (ce L n (ixB L c.id) c s)) h.nodup (h.mem.2 ⟨c,hc,s,hs,rfl⟩)
omit h in
theorem ru (L:List Cl)(n i:Nat)(c:Cl)(s:Nat):(aI (ce L n i c s)).sides.Perm (kq L n i c s):=fx _
theorem Cov.hits {d:Cl}(hd:d∈L){u:Nat}(hu:u∈bQ (f d.id)){e:Cl}(he:e∈L){t:Nat}(ht:t∈bQ (f e.id))(σ:Int) :
  hits (aa (bB L f n)) ⟨bId n (ixB L d.id) u,σ⟩ (bId n (ixB L e.id) t)=(if t=u then cS d e else 0)+(if e=d then hB u t else 0):=by
 unfold Go.Proofs.YtcfkpajlakidbaaGreat.hits ao;rw[h.find hd hu];show ((aI (ce L n (ixB L d.id) d u)).sides.filter _).length=_;have hu2:=h.s16 hd hu;have ht2:=h.s16 he ht;rw[((ru L n _ d u).filter _).length_eq,ft,zg9,zd8,List.filter_map,List.filter_map,zd9,zd9];congr 1
 ·split
  ·rename_i e1;subst e1;unfold cS;congr 1;refine List.filter_congr fun q hq=>?_;obtain ⟨v,hv,hvi,_⟩:=h.side hd hq;show decide (bId n (ixB L q.cell) t=bId n (ixB L e.id) t)=decide (q.cell=e.id);rw[decide_eq_decide,← hvi];constructor
   ·intro k;rw[h.rt.ix_inj hv he (eZ ht2.1 ht2.1 k).1]
   ·intro k;rw[k]
  ·rename_i e1;rw[List.length_eq_zero_iff,List.filter_eq_nil_iff];intro q hq k;have k:bId n (ixB L q.cell) u=bId n (ixB L e.id) t:=by simpa using k
   exact e1 (eZ hu2.1 ht2.1 k).2.symm
 ·have hlt:∀ q∈cB u,u - 2 ^ q.1<2 ^ n:=fun q _=>Nat.lt_of_le_of_lt (Nat.sub_le _ _) hu2.1;split
  ·rename_i e1;subst e1;unfold hB;congr 1;refine List.filter_congr fun q hq=>?_;show decide (bId n (ixB L e.id) (u - 2 ^ q.1)=bId n (ixB L e.id) t)=decide (u - 2 ^ q.1=t);rw[decide_eq_decide];exact⟨fun k=>(eZ (hlt q hq) ht2.1 k).2,fun k=>by rw[k]⟩
  ·rename_i e1;rw[List.length_eq_zero_iff,List.filter_eq_nil_iff];intro q hq k;have k:bId n (ixB L d.id) (u - 2 ^ q.1)=bId n (ixB L e.id) t:=by simpa using k
   exact e1 (h.rt.ix_inj hd he (eZ (hlt q hq) ht2.1 k).1).symm
theorem Cov.inner {d:Cl}(hd:d∈L){u:Nat}(hu:u∈bQ (f d.id)){e:Cl}(he:e∈L){t:Nat}(ht:t∈bQ (f e.id))(σ:Int) :
  inner (aa (bB L f n)) ⟨bId n (ixB L d.id) u,σ⟩ (bId n (ixB L e.id) t)=σ * ((if t=u then ec d e else 0)+(if e=d then iB u t d.dim else 0)):=by
 unfold Go.Proofs.YtcfkpajlakidbaaGreat.inner ao;rw[h.find hd hu];show ((aI (ce L n (ixB L d.id) d u)).sides.map fun q=>if q.cell=bId n (ixB L e.id) t then σ * q.sign else 0).sum=_;have hu2:=h.s16 hd hu;have ht2:=h.s16 he ht;rw[gl ((ru L n _ d u).map _),ft,zf8,List.sum_append,zh8,zh8,Int.mul_add];congr 1
 ·split
  ·rename_i e1;subst e1;unfold ec;refine bG fun q hq=>?_;obtain ⟨v,hv,hvi,_⟩:=h.side hd hq;show (if bId n (ixB L q.cell) t=bId n (ixB L e.id) t then σ * q.sign else 0)=σ * (if q.cell=e.id then q.sign else 0);by_cases hve:q.cell=e.id
   ·rw[zf4 hve,zf4 (by rw[hve])]
   ·rw[zf3 hve,zf3,Int.mul_zero];intro k;rw[← hvi] at k hve;exact hve (by rw[h.rt.ix_inj hv he (eZ ht2.1 ht2.1 k).1])
  ·rename_i e1;rw[bG (g:=fun _=>(0:Int)) (K:=0) fun q hq=>?_,Int.zero_mul,Int.mul_zero];show (if bId n (ixB L q.cell) u=bId n (ixB L e.id) t then σ * q.sign else 0)=_;rw[zf3 fun k=>e1 (eZ hu2.1 ht2.1 k).2.symm];rfl
 ·have hlt:∀ q∈cB u,u - 2 ^ q.1<2 ^ n:=fun q _=>Nat.lt_of_le_of_lt (Nat.sub_le _ _) hu2.1;split
  ·rename_i e1;subst e1;unfold iB;refine bG fun q hq=>?_;show (if bId n (ixB L e.id) (u - 2 ^ q.1)=bId n (ixB L e.id) t then σ * sgP (q.2+e.dim) else 0)=σ * (if u - 2 ^ q.1=t then sgP (q.2+e.dim) else 0);by_cases hue:u - 2 ^ q.1=t
   ·rw[zf4 hue,zf4 (by rw[hue])]
   ·rw[zf3 hue,zf3 fun k=>hue (eZ (hlt q hq) ht2.1 k).2,Int.mul_zero]
  ·rename_i e1;rw[bG (g:=fun _=>(0:Int)) (K:=0) fun q hq=>?_,Int.zero_mul,Int.mul_zero];show (if bId n (ixB L d.id) (u - 2 ^ q.1)=bId n (ixB L e.id) t then σ * sgP (q.2+d.dim) else 0)=_;rw[zf3 fun k=>e1 (h.rt.ix_inj hd he (eZ (hlt q hq) ht2.1 k).1).symm];rfl
end
theorem wj {α:Type}{l:List α}{g:α→Int}(h:∀ x∈l,g x=0):(l.map g).sum=0:=by
 rw[bG (g:=fun _=>(0:Int)) (K:=0) fun x hx=>by rw[h x hx]; rfl,Int.zero_mul]
theorem y3 {α:Type}{l:List α}{g:α→Nat}(h:∀ x∈l,g x=0):(l.map g).sum=0:=by
 induction l with
 | nil=>rfl
 | cons a b ih=>rw[zf7,List.sum_cons,h a (by simp),ih fun x hx=>h x (by simp[hx])]
theorem Cg {α:Type}(l:List α)(g k:α→Int):(l.map fun x=>g x+k x).sum=(l.map g).sum+(l.map k).sum:=by
 induction l with
 | nil=>rfl
 | cons a b ih=>simp only[zf7,List.sum_cons,ih]; omega
theorem Co {α:Type}(l:List α)(g k:α→Nat):(l.map fun x=>g x+k x).sum=(l.map g).sum+(l.map k).sum:=by
 induction l with
 | nil=>rfl
 | cons a b ih=>simp only[zf7,List.sum_cons,ih]; omega
theorem C5 {α:Type}(l:List α)(p:α→Prop)[DecidablePred p](K:Nat):(l.map fun x=>if p x then K else 0).sum=(l.filter fun x=>decide (p x)).length * K:=by
 induction l with
 | nil=>simp
 | cons a b ih =>
  rw[zf7,List.sum_cons,ih,zh9];by_cases h:p a
  ·rw[zf4 h,zf4 (by simpa using h),ze2,Nat.add_mul,Nat.one_mul,Nat.add_comm]
  ·rw[zf3 h,zf3 (by simpa using h),Nat.zero_add]
section
variable {L:List Cl}{f:Int→Nat}{n:Nat}(h:Cov L f n)
include h
theorem Cov.hitsL {c d:Cl}(hc:c∈L){x:ai}(hx:x∈c.sides)(hd:d∈L)(hi:d.id=x.cell)(e:Cl):Go.Proofs.YtcfkpajlakidbaaGreat.hits L x e.id=cS d e:=by
 unfold Go.Proofs.YtcfkpajlakidbaaGreat.hits ao;rw[← hi,h.rt.find hd];rfl
theorem Cov.innerL {c d:Cl}(hc:c∈L){x:ai}(hx:x∈c.sides)(hd:d∈L)(hi:d.id=x.cell)(e:Cl):Go.Proofs.YtcfkpajlakidbaaGreat.inner L x e.id=x.sign * ec d e:=by
 unfold Go.Proofs.YtcfkpajlakidbaaGreat.inner ao;rw[← hi,h.rt.find hd];unfold ec;refine bG fun q _=>?_;show (if q.cell=e.id then x.sign * q.sign else 0)=_;split
 ·rfl
 ·rw[Int.mul_zero]
theorem Cov.cS_le {c:Cl}(hc:c∈L)(e:Cl):cS c e≤1:=by
 unfold cS;have h1:(c.sides.filter fun q=>decide (q.cell=e.id)).Pairwise fun a b=>a.cell<b.cell:=(h.rt.form c hc).asc.filter _;cases hl:c.sides.filter fun q=>decide (q.cell=e.id) with
 | nil=>simp
 | cons a r =>
  cases r with
  | nil=>simp
  | cons b r =>
   rw[hl] at h1;have h2:=(zj2.1 h1).1 b (by simp);have ha:a∈c.sides.filter fun q=>decide (q.cell=e.id):=by rw[hl]; simp
   have hb:b∈c.sides.filter fun q=>decide (q.cell=e.id):=by rw[hl]; simp
   have h3:=(zg7.1 ha).2;have h4:=(zg7.1 hb).2;simp only[zi5] at h3 h4;omega
theorem Cov.cS_dim {c e:Cl}(hc:c∈L)(he:e∈L)(hd:e.dim≠c.dim - 1):cS c e=0:=by
 unfold cS;rw[List.length_eq_zero_iff,List.filter_eq_nil_iff];intro q hq k;simp only[zi5] at k;obtain ⟨d,hd1,hd2,hd3,_⟩:=h.side hc hq;rw[k] at hd2;have h1:=h.rt.find hd1;rw[hd2,h.rt.find he] at h1;cases h1;exact hd hd3
omit h in
theorem CP {c:Cl}{x:ai}(hx:x∈c.sides){e:Cl}(hi:e.id=x.cell):0<cS c e:=by
 unfold cS;refine List.length_pos_of_mem (a:=x) (zg7.2 ⟨hx,?_⟩);simpa using hi.symm
theorem Cov.bit {c:Cl}(hc:c∈L){s:Nat}(hs:s∈bQ (f c.id)){q:Nat×Nat}(hq:q∈cB s):s - 2 ^ q.1∈bQ (f c.id):=by
 obtain ⟨k1,k2,_⟩:=py s (h.s16 hc hs).2 q hq;exact cH.2 ⟨k1,mg k2 (cH.1 hs).2⟩
theorem Cov.pos1 {c:Cl}(hc:c∈L){s:Nat}(hs:s∈bQ (f c.id)):0<onesB s∧onesB s≤4∧(cB s).length=if onesB s≤1 then 0 else onesB s:=Aq s (h.s16 hc hs).2 (cH.1 hs).1
theorem Cov.fm {c:Cl}(hc:c∈L){s:Nat}(hs:s∈bQ (f c.id)):Fm (aa (bB L f n)) (aI (ce L n (ixB L c.id) c s)):=by
 have hf:=h.rt.form c hc;have hp:=ru L n (ixB L c.id) c s;rw[ft] at hp;have hmem:∀ x',x'∈(aI (ce L n (ixB L c.id) c s)).sides↔(∃ x∈c.sides,x'=⟨bId n (ixB L x.cell) s,x.sign⟩)∨∃ q∈cB s,x'=⟨bId n (ixB L c.id) (s - 2 ^ q.1),sgP (q.2+c.dim)⟩:=fun x'=>by
  rw[hp.mem_iff,ze6,ze5,ze5];exact⟨fun h=>h.elim (fun ⟨x,a,b⟩=>.inl ⟨x,a,b.symm⟩) fun ⟨x,a,b⟩=>.inr ⟨x,a,b.symm⟩,fun h=>h.elim (fun ⟨x,a,b⟩=>.inl ⟨x,a,b.symm⟩) fun ⟨x,a,b⟩=>.inr ⟨x,a,b.symm⟩⟩
 have hlen:(aI (ce L n (ixB L c.id) c s)).sides.length=c.sides.length+(cB s).length:=by rw[hp.length_eq,zd8,zd9,zd9]
 obtain ⟨o1,o2,o3⟩:=h.pos1 hc hs;have s16:=h.s16 hc hs;have hdim:(aI (ce L n (ixB L c.id) c s)).dim=c.dim+onesB s - 1:=rfl;have hd0:=hf.dim;have hd4:=h.dim c hc;have hsd:=h.sd c hc;refine⟨by rw[hdim]; omega,?_,fun x' hx'=>?_,?_,fun x' hx'=>?_,fun hd=>?_⟩
 ·have hcn:=hf.cnt;simp only[aw,hdim,hlen,o3] at hcn ⊢;simp only[Bool.or_eq_false_iff,Bool.and_eq_false_iff,decide_eq_false_iff_not] at hcn ⊢;split <;> omega
 ·rcases (hmem x').1 hx' with ⟨x,hx,rfl⟩ | ⟨q,hq,rfl⟩
  ·obtain ⟨d,hd,hid,hdd,hsub⟩:=h.side hc hx;have:=h.find hd (hsub s hs);rw[hid] at this;refine⟨_,this,?_⟩;show d.dim+onesB s - 1=c.dim+onesB s - 1 - 1;omega
  ·refine⟨_,h.find hc (h.bit hc hs hq),?_⟩;have:=(py s s16.2 q hq).2.2.1;show c.dim+onesB (s - 2 ^ q.1) - 1=c.dim+onesB s - 1 - 1;omega
 ·have h1:(aI (ce L n (ixB L c.id) c s)).sides.Pairwise fun a b=>a.cell≤b.cell:=df _;have h2:((aI (ce L n (ixB L c.id) c s)).sides.map ai.cell).Nodup:=by
   refine (hp.map ai.cell).symm.nodup ?_;rw[zf8,zh8,zh8];refine List.nodup_append.2 ⟨?_,?_,?_⟩
   ·rw[List.Nodup,zj3];refine List.Pairwise.imp_of_mem ?_ hf.asc;intro a b ha hb hlt e;obtain ⟨d,hd,hid,_⟩:=h.side hc ha;obtain ⟨d',hd',hid',_⟩:=h.side hc hb;have e:bId n (ixB L a.cell) s=bId n (ixB L b.cell) s:=e;rw[← hid,← hid'] at e;have:=h.rt.ix_inj hd hd' (eZ s16.1 s16.1 e).1;subst this;omega
   ·have h3:=vU s s16.2;rw[List.Nodup,zj3] at h3 ⊢;refine h3.imp fun {a b} hne e=>hne ?_;have e:bId n (ixB L c.id) (s - 2 ^ a.1)=bId n (ixB L c.id) (s - 2 ^ b.1):=e;exact (eZ (Nat.lt_of_le_of_lt (Nat.sub_le _ _) s16.1) (Nat.lt_of_le_of_lt (Nat.sub_le _ _) s16.1) e).2
   ·intro a ha b hb e;obtain ⟨x,hx,rfl⟩:=ze5.1 ha;obtain ⟨q,hq,rfl⟩:=ze5.1 hb;obtain ⟨d,hd,hid,hdd,_⟩:=h.side hc hx;have e:bId n (ixB L x.cell) s=bId n (ixB L c.id) (s - 2 ^ q.1):=e;rw[← hid] at e;have:=h.rt.ix_inj hd hc (eZ s16.1 (Nat.lt_of_le_of_lt (Nat.sub_le _ _) s16.1) e).1;subst this;omega
  rw[List.Nodup,zj3] at h2;exact (h1.and h2).imp fun ⟨h3,h4⟩=>by omega
 ·rcases (hmem x').1 hx' with ⟨x,hx,rfl⟩ | ⟨q,hq,rfl⟩
  ·exact hf.sg x hx
  ·exact oD _
 ·rw[hdim] at hd;unfold km;rw[gl (hp.map ai.sign),zf8,List.sum_append,zh8,zh8];have hcn:=hf.cnt;simp only[aw,Bool.or_eq_false_iff,Bool.and_eq_false_iff,decide_eq_false_iff_not] at hcn;by_cases hc1:c.dim=1
  ·have h1:=hf.one hc1;unfold km at h1;have h2:cB s=[]:=List.length_eq_zero_iff.1 (by rw[o3,zf4 oM]);rw[h2];show (c.sides.map ai.sign).sum+0=0;rw[h1];rfl
  ·have h3:c.sides=[]:=List.length_eq_zero_iff.1 oM;have h4:=Ao s s16.2 oM;rw[h3];show 0+((cB s).map fun q=>sgP (q.2+c.dim)).sum=0;rw[show c.dim=0 by omega,h4];rfl
theorem Cov.sumR {c:Cl}(hc:c∈L){s:Nat}(hs:s∈bQ (f c.id)){e:Cl}(he:e∈L){t:Nat}(ht:t∈bQ (f e.id)):Go.Proofs.YtcfkpajlakidbaaGreat.sumR (aa (bB L f n)) (aI (ce L n (ixB L c.id) c s)).sides (bId n (ixB L e.id) t)=0:=by
 have s16:=h.s16 hc hs;have t16:=h.s16 he ht;rw[qm (ru L n _ c s),ft,cN,zf8,List.sum_append,zh8,zh8];have e1:(c.sides.map ((fun x=>Go.Proofs.YtcfkpajlakidbaaGreat.inner (aa (bB L f n)) x (bId n (ixB L e.id) t)) ∘ fun x=>(⟨bId n (ixB L x.cell) s,x.sign⟩:ai))).sum=(if t=s then Go.Proofs.YtcfkpajlakidbaaGreat.sumR L c.sides e.id else 0)+iB s t (c.dim - 1) * ec c e:=by
  rw[cN];have:(c.sides.map ((fun x=>Go.Proofs.YtcfkpajlakidbaaGreat.inner (aa (bB L f n)) x (bId n (ixB L e.id) t)) ∘ fun x=>(⟨bId n (ixB L x.cell) s,x.sign⟩:ai))).sum=(c.sides.map fun x=>(if t=s then Go.Proofs.YtcfkpajlakidbaaGreat.inner L x e.id else 0)+iB s t (c.dim - 1) * (if x.cell=e.id then x.sign else 0)).sum:=by
   congr 1;refine zc4 fun x hx=>?_;obtain ⟨d,hd,hid,hdd,hsub⟩:=h.side hc hx;show Go.Proofs.YtcfkpajlakidbaaGreat.inner _ ⟨bId n (ixB L x.cell) s,x.sign⟩ _=_;rw[h.innerL hc hx hd hid,← hid,h.inner hd (hsub s hs) he ht,Int.mul_add];congr 1
   ·split <;> simp
   ·by_cases k:e=d
    ·subst k;rw[zf4 rfl,zf4 rfl,hdd,Int.mul_comm]
    ·rw[zf3 k,zf3 (fun k2=>k (by
      have h1:=h.rt.find hd;rw[k2,h.rt.find he] at h1;injection h1)),Int.mul_zero,Int.mul_zero]
  rw[this,Cg];congr 1
  ·split
   ·rfl
   ·exact wj fun _ _=>I
  ·unfold ec;exact bG fun x _=>I
 have e2:((cB s).map ((fun x=>Go.Proofs.YtcfkpajlakidbaaGreat.inner (aa (bB L f n)) x (bId n (ixB L e.id) t)) ∘ fun q=>(⟨bId n (ixB L c.id) (s - 2 ^ q.1),sgP (q.2+c.dim)⟩:ai))).sum=ec c e * iB s t c.dim+(if e=c then ((cB s).map fun q=>sgP q.2 * iB (s - 2 ^ q.1) t 0).sum else 0):=by
  have:((cB s).map ((fun x=>Go.Proofs.YtcfkpajlakidbaaGreat.inner (aa (bB L f n)) x (bId n (ixB L e.id) t)) ∘ fun q=>(⟨bId n (ixB L c.id) (s - 2 ^ q.1),sgP (q.2+c.dim)⟩:ai))).sum=((cB s).map fun q=>ec c e * (if s - 2 ^ q.1=t then sgP (q.2+c.dim) else 0)+(if e=c then sgP q.2 * iB (s - 2 ^ q.1) t 0 else 0)).sum:=by
   congr 1;refine zc4 fun q hq=>?_;show Go.Proofs.YtcfkpajlakidbaaGreat.inner _ ⟨bId n (ixB L c.id) (s - 2 ^ q.1),sgP (q.2+c.dim)⟩ _=_;rw[h.inner hc (h.bit hc hs hq) he ht,Int.mul_add];congr 1
   ·by_cases k:t=s - 2 ^ q.1
    ·rw[zf4 k,zf4 k.symm,Int.mul_comm]
    ·rw[zf3 k,zf3 (fun k2=>k k2.symm),Int.mul_zero,Int.mul_zero]
   ·split
    ·rw[wy,oE,← Int.mul_assoc,Int.mul_assoc (sgP q.2)];have:sgP c.dim * sgP c.dim=1:=by rcases oD c.dim with h | h <;> rw[h] <;> rfl
     rw[this,Int.mul_one]
    ·rw[Int.mul_zero]
  rw[this,Cg];congr 1
  ·unfold iB;exact bG fun x _=>I
  ·split
   ·rfl
   ·exact wj fun _ _=>I
 rw[e1,e2,Ap s s16.2 t t16.2];have e3:(if t=s then Go.Proofs.YtcfkpajlakidbaaGreat.sumR L c.sides e.id else 0)=0:=by
  split
  ·by_cases hd:c.dim>1
   ·have hn0:0<c.sides.length:=by
     have:=(h.rt.form c hc).cnt;simp[aw] at this;have:=this.2 hd;omega
    have nd:(c.sides.map ai.cell).Nodup:=by
     rw[List.Nodup,zj3];exact (h.rt.form c hc).asc.imp fun h=>by omega
    exact ((ex hn0 nd).1 (h.rt.around c hc hd)).1 e.id
   ·rw[cN];refine wj fun x hx=>?_;obtain ⟨d,hd,hid,hdd,_⟩:=h.side hc hx;rw[h.innerL hc hx hd hid];have h1:=(h.rt.form d hd).dim;have h2:=(h.rt.form d hd).cnt;simp only[aw,Bool.or_eq_false_iff,Bool.and_eq_false_iff,decide_eq_false_iff_not] at h2;have h3:d.sides=[]:=List.length_eq_zero_iff.1 oM;unfold ec;rw[h3];simp
  ·rfl
 have e4:=BU s t c.dim;rw[e3,Int.mul_comm (iB s t (c.dim - 1))];have e5:ec c e * iB s t (c.dim - 1)+ec c e * iB s t c.dim=0:=by rw[← Int.mul_add,e4,Int.mul_zero]
 split <;> omega
theorem Cov.cntR {c:Cl}(hc:c∈L){s:Nat}(hs:s∈bQ (f c.id)){e:Cl}(he:e∈L){t:Nat}(ht:t∈bQ (f e.id)) :
  Go.Proofs.YtcfkpajlakidbaaGreat.cntR (aa (bB L f n)) (aI (ce L n (ixB L c.id) c s)).sides (bId n (ixB L e.id) t)=0∨Go.Proofs.YtcfkpajlakidbaaGreat.cntR (aa (bB L f n)) (aI (ce L n (ixB L c.id) c s)).sides (bId n (ixB L e.id) t)=2:=by
 have s16:=h.s16 hc hs;have t16:=h.s16 he ht;rw[qN (ru L n _ c s),ft];unfold Go.Proofs.YtcfkpajlakidbaaGreat.cntR;rw[zf8,List.sum_append,zh8,zh8];have e1:(c.sides.map ((fun x=>Go.Proofs.YtcfkpajlakidbaaGreat.hits (aa (bB L f n)) x (bId n (ixB L e.id) t)) ∘ fun x=>(⟨bId n (ixB L x.cell) s,x.sign⟩:ai))).sum=(if t=s then Go.Proofs.YtcfkpajlakidbaaGreat.cntR L c.sides e.id else 0)+cS c e * hB s t:=by
  have:(c.sides.map ((fun x=>Go.Proofs.YtcfkpajlakidbaaGreat.hits (aa (bB L f n)) x (bId n (ixB L e.id) t)) ∘ fun x=>(⟨bId n (ixB L x.cell) s,x.sign⟩:ai))).sum=(c.sides.map fun x=>(if t=s then Go.Proofs.YtcfkpajlakidbaaGreat.hits L x e.id else 0)+(if x.cell=e.id then hB s t else 0)).sum:=by
   congr 1;refine zc4 fun x hx=>?_;obtain ⟨d,hd,hid,hdd,hsub⟩:=h.side hc hx;show Go.Proofs.YtcfkpajlakidbaaGreat.hits _ ⟨bId n (ixB L x.cell) s,x.sign⟩ _=_;rw[h.hitsL hc hx hd hid,← hid,h.hits hd (hsub s hs) he ht];congr 1;by_cases k:e=d
   ·subst k;rw[zf4 rfl,zf4 rfl]
   ·rw[zf3 k,zf3 (fun k2=>k (by
     have h1:=h.rt.find hd;rw[k2,h.rt.find he] at h1;injection h1))]
  rw[this,Co];congr 1
  ·split
   ·rfl
   ·exact y3 fun _ _=>I
  ·exact C5 _ _ _
 have e2:((cB s).map ((fun x=>Go.Proofs.YtcfkpajlakidbaaGreat.hits (aa (bB L f n)) x (bId n (ixB L e.id) t)) ∘ fun q=>(⟨bId n (ixB L c.id) (s - 2 ^ q.1),sgP (q.2+c.dim)⟩:ai))).sum=hB s t * cS c e+(if e=c then ((cB s).map fun q=>hB (s - 2 ^ q.1) t).sum else 0):=by
  have:((cB s).map ((fun x=>Go.Proofs.YtcfkpajlakidbaaGreat.hits (aa (bB L f n)) x (bId n (ixB L e.id) t)) ∘ fun q=>(⟨bId n (ixB L c.id) (s - 2 ^ q.1),sgP (q.2+c.dim)⟩:ai))).sum=((cB s).map fun q=>(if s - 2 ^ q.1=t then cS c e else 0)+(if e=c then hB (s - 2 ^ q.1) t else 0)).sum:=by
   congr 1;refine zc4 fun q hq=>?_;show Go.Proofs.YtcfkpajlakidbaaGreat.hits _ ⟨bId n (ixB L c.id) (s - 2 ^ q.1),sgP (q.2+c.dim)⟩ _=_;rw[h.hits hc (h.bit hc hs hq) he ht];congr 1;by_cases k:t=s - 2 ^ q.1
   ·rw[zf4 k,zf4 k.symm]
   ·rw[zf3 k,zf3 fun k2=>k k2.symm]
  rw[this,Co];congr 1
  ·exact C5 _ _ _
  ·split
   ·rfl
   ·exact y3 fun _ _=>I
 rw[e1,e2];obtain ⟨b1,b2,b3,b4⟩:=Ar s s16.2 t t16.2;have e3:Go.Proofs.YtcfkpajlakidbaaGreat.cntR L c.sides e.id=0∨Go.Proofs.YtcfkpajlakidbaaGreat.cntR L c.sides e.id=2:=by
  by_cases hd:c.dim>1
  ·have hn0:0<c.sides.length:=by
    have:=(h.rt.form c hc).cnt;simp[aw] at this;have:=this.2 hd;omega
   have nd:(c.sides.map ai.cell).Nodup:=by
    rw[List.Nodup,zj3];exact (h.rt.form c hc).asc.imp fun h=>by omega
   exact ((ex hn0 nd).1 (h.rt.around c hc hd)).2.1 e.id
  ·left;unfold Go.Proofs.YtcfkpajlakidbaaGreat.cntR;refine y3 fun x hx=>?_;obtain ⟨d,hd,hid,hdd,_⟩:=h.side hc hx;rw[h.hitsL hc hx hd hid];have h1:=(h.rt.form d hd).dim;have h2:=(h.rt.form d hd).cnt;simp only[aw,Bool.or_eq_false_iff,Bool.and_eq_false_iff,decide_eq_false_iff_not] at h2;have h3:d.sides=[]:=List.length_eq_zero_iff.1 oM;unfold cS;rw[h3];rfl
 by_cases k:t=s
 ·subst k;rw[b2,b4,zf4 rfl];simp only[Nat.mul_zero,Nat.zero_mul,ite_self,Nat.add_zero];exact e3
 ·rw[zf3 k];by_cases k2:e=c
  ·subst k2;rw[h.cS_dim hc hc oM,zf4 rfl];simp only[Nat.mul_zero,Nat.zero_mul,Nat.zero_add];exact b3
  ·rw[zf3 k2];have h1:=h.cS_le hc e;have h2:cS c e=0∨cS c e=1:=oM;have h3:hB s t=0∨hB s t=1:=oM
   rcases h2 with h2 | h2 <;> rcases h3 with h3 | h3 <;> rw[h2,h3] <;> simp
end
section
variable {L:List Cl}{f:Int→Nat}{n:Nat}(h:Cov L f n)
include h
theorem Cov.known {d:Cl}(hd:d∈L){u:Nat}(hu:u∈bQ (f d.id)){σ r:Int}(hr:0<Go.Proofs.YtcfkpajlakidbaaGreat.hits (aa (bB L f n)) ⟨bId n (ixB L d.id) u,σ⟩ r):∃ e∈L,∃ t∈bQ (f e.id),r=bId n (ixB L e.id) t:=by
 unfold Go.Proofs.YtcfkpajlakidbaaGreat.hits ao at hr;rw[h.find hd hu] at hr;obtain ⟨q,hq⟩:=List.exists_mem_of_length_pos hr;obtain ⟨hq1,hq2⟩:=zg7.1 hq;have hq1:q∈(aI (ce L n (ixB L d.id) d u)).sides:=hq1;rw[(ru L n _ d u).mem_iff,ft,ze6,ze5,ze5] at hq1;have hq2:q.cell=r:=by simpa using hq2
 rcases hq1 with ⟨x,hx,rfl⟩ | ⟨b,hb,rfl⟩
 ·obtain ⟨e,he,hei,_,hsub⟩:=h.side hd hx;exact⟨e,he,u,hsub u hu,by rw[hei]; exact hq2.symm⟩
 ·exact⟨d,hd,_,h.bit hd hu hb,hq2.symm⟩
theorem Cov.around {c:Cl}(hc:c∈L){s:Nat}(hs:s∈bQ (f c.id))(hd1:c.dim+onesB s - 1>1):cf (aa (bB L f n)) (aI (ce L n (ixB L c.id) c s))=0:=by
 have s16:=h.s16 hc hs;have hfm:=h.fm hc hs;have hp:=ru L n (ixB L c.id) c s;rw[ft] at hp;have hmem:∀ x',x'∈(aI (ce L n (ixB L c.id) c s)).sides↔(∃ x∈c.sides,x'=⟨bId n (ixB L x.cell) s,x.sign⟩)∨∃ q∈cB s,x'=⟨bId n (ixB L c.id) (s - 2 ^ q.1),sgP (q.2+c.dim)⟩:=fun x'=>by
  rw[hp.mem_iff,ze6,ze5,ze5];exact⟨fun h=>h.elim (fun ⟨x,a,b⟩=>.inl ⟨x,a,b.symm⟩) fun ⟨x,a,b⟩=>.inr ⟨x,a,b.symm⟩,fun h=>h.elim (fun ⟨x,a,b⟩=>.inl ⟨x,a,b.symm⟩) fun ⟨x,a,b⟩=>.inr ⟨x,a,b.symm⟩⟩
 have hn0:0<(aI (ce L n (ixB L c.id) c s)).sides.length:=by
  have:=hfm.cnt;have hd2:(aI (ce L n (ixB L c.id) c s)).dim>1:=hd1;simp[aw] at this;have:=this.2 hd2;omega
 have nd:((aI (ce L n (ixB L c.id) c s)).sides.map ai.cell).Nodup:=by
  rw[List.Nodup,zj3];exact hfm.asc.imp fun h=>by omega
 have hkn:∀ x'∈(aI (ce L n (ixB L c.id) c s)).sides,∀ r,0<Go.Proofs.YtcfkpajlakidbaaGreat.hits (aa (bB L f n)) x' r→∃ e∈L,∃ t∈bQ (f e.id),r=bId n (ixB L e.id) t:=fun x' hx' r hr=>by
  rcases (hmem x').1 hx' with ⟨x,hx,rfl⟩ | ⟨q,hq,rfl⟩
  ·obtain ⟨d,hd,hid,_,hsub⟩:=h.side hc hx;rw[← hid] at hr;exact h.known hd (hsub s hs) hr
  ·exact h.known hc (h.bit hc hs hq) hr
 refine (ex hn0 nd).2 ⟨fun r=>?_,fun r=>?_,?_⟩
 ·by_cases hr:∃ x'∈(aI (ce L n (ixB L c.id) c s)).sides,0<Go.Proofs.YtcfkpajlakidbaaGreat.hits (aa (bB L f n)) x' r
  ·obtain ⟨x',hx',hr⟩:=hr;obtain ⟨e,he,t,ht,rfl⟩:=hkn x' hx' r hr;exact h.sumR hc hs he ht
  ·rw[cN];exact wj fun x hx=>uk (by
    have:¬ 0<Go.Proofs.YtcfkpajlakidbaaGreat.hits (aa (bB L f n)) x r:=fun k=>hr ⟨x,hx,k⟩;omega)
 ·by_cases hr:∃ x'∈(aI (ce L n (ixB L c.id) c s)).sides,0<Go.Proofs.YtcfkpajlakidbaaGreat.hits (aa (bB L f n)) x' r
  ·obtain ⟨x',hx',hr⟩:=hr;obtain ⟨e,he,t,ht,rfl⟩:=hkn x' hx' r hr;exact h.cntR hc hs he ht
  ·left;unfold Go.Proofs.YtcfkpajlakidbaaGreat.cntR;exact y3 fun x hx=>by
    have:¬ 0<Go.Proofs.YtcfkpajlakidbaaGreat.hits (aa (bB L f n)) x r:=fun k=>hr ⟨x,hx,k⟩;omega
 ·have m1:∀ x∈c.sides,(⟨bId n (ixB L x.cell) s,x.sign⟩:ai)∈(aI (ce L n (ixB L c.id) c s)).sides:=fun x hx=>(hmem _).2 (.inl ⟨x,hx,rfl⟩);have m2:∀ q∈cB s,(⟨bId n (ixB L c.id) (s - 2 ^ q.1),sgP (q.2+c.dim)⟩:ai)∈(aI (ce L n (ixB L c.id) c s)).sides:=fun q hq=>(hmem _).2 (.inr ⟨q,hq,rfl⟩)
  -- a side of the cell and one of the set
  have l12:∀ x∈c.sides,∀ q∈cB s,Cn (nt (aa (bB L f n)) (aI (ce L n (ixB L c.id) c s)).sides) (bId n (ixB L x.cell) s) (bId n (ixB L c.id) (s - 2 ^ q.1)):=fun x hx q hq=>by
   obtain ⟨d,hd,hid,hdd,hsub⟩:=h.side hc hx;obtain ⟨k1,k2,k3,k4⟩:=py s s16.2 q hq;have hb:=h.bit hc hs hq;refine .one ⟨_,m1 x hx,_,m2 q hq,I,I,bId n (ixB L d.id) (s - 2 ^ q.1),?_,?_⟩
   ·rw[← hid,h.hits hd (hsub s hs) hd (hsub _ hb),zf4 rfl];omega
   ·rw[h.hits hc hb hd (hsub _ hb),zf4 rfl];have:=CP hx hid;omega
  have l11:∀ x∈c.sides,∀ y∈c.sides,Cn (nt (aa (bB L f n)) (aI (ce L n (ixB L c.id) c s)).sides) (bId n (ixB L x.cell) s) (bId n (ixB L y.cell) s):=fun x hx y hy=>by
   by_cases hd:c.dim>1
   ·have hn0:0<c.sides.length:=List.length_pos_of_mem hx;have nd:(c.sides.map ai.cell).Nodup:=by
     rw[List.Nodup,zj3];exact (h.rt.form c hc).asc.imp fun h=>by omega
    refine (((ex hn0 nd).1 (h.rt.around c hc hd)).2.2 x hx y hy).map (f:=fun a=>bId n (ixB L a) s) fun a b=>?_;rintro ⟨u,hu,v,hv,rfl,rfl,r,h1,h2⟩;obtain ⟨du,hdu,hidu,_,hsu⟩:=h.side hc hu;obtain ⟨dv,hdv,hidv,_,hsv⟩:=h.side hc hv;have hr:∃ e∈L,e.id=r∧∀ s∈bQ (f du.id),s∈bQ (f e.id):=by
     have h1':=h1;unfold Go.Proofs.YtcfkpajlakidbaaGreat.hits ao at h1';rw[← hidu,h.rt.find hdu] at h1';obtain ⟨q,hq⟩:=List.exists_mem_of_length_pos h1';obtain ⟨hq1,hq2⟩:=zg7.1 hq;obtain ⟨e,he,hei,_,hse⟩:=h.side hdu (x:=q) hq1;exact⟨e,he,by rw[hei]; simpa using hq2,hse⟩
    obtain ⟨e,he,rfl,hse⟩:=hr;rw[h.hitsL hc hu hdu hidu] at h1;rw[h.hitsL hc hv hdv hidv] at h2;refine .one ⟨_,m1 u hu,_,m1 v hv,I,I,bId n (ixB L e.id) s,?_,?_⟩
    ·rw[← hidu,h.hits hdu (hsu s hs) he (hse s (hsu s hs)),zf4 rfl];omega
    ·rw[← hidv,h.hits hdv (hsv s hs) he (hse s (hsu s hs)),zf4 rfl];omega
   ·have hb:0<(cB s).length:=by
     have:=h.pos1 hc hs;rw[this.2.2,zf3 oM];exact this.1
    obtain ⟨q,hq⟩:=List.exists_mem_of_length_pos hb;exact (l12 x hx q hq).trans (l12 y hy q hq).symm
  have l22:∀ q∈cB s,∀ r∈cB s,Cn (nt (aa (bB L f n)) (aI (ce L n (ixB L c.id) c s)).sides) (bId n (ixB L c.id) (s - 2 ^ q.1)) (bId n (ixB L c.id) (s - 2 ^ r.1)):=fun q hq r hr=>by
   by_cases hx:0<c.sides.length
   ·obtain ⟨x,hx⟩:=List.exists_mem_of_length_pos hx;exact (l12 x hx q hq).symm.trans (l12 x hx r hr)
   ·have hd0:c.dim=0:=by
     have h1:=(h.rt.form c hc).cnt;have h2:=(h.rt.form c hc).dim;simp only[aw,Bool.or_eq_false_iff,Bool.and_eq_false_iff,decide_eq_false_iff_not] at h1;omega
    rcases yN s s16.2 oM q hq r hr with rfl | ⟨k1,k2,k3,k4⟩
    ·exact .refl _
    ·have ht:s - 2 ^ q.1 - 2 ^ r.1∈bQ (f c.id):=cH.2 ⟨k1,mg k2 (cH.1 hs).2⟩;refine .one ⟨_,m2 q hq,_,m2 r hr,I,I,bId n (ixB L c.id) (s - 2 ^ q.1 - 2 ^ r.1),?_,?_⟩
     ·rw[h.hits hc (h.bit hc hs hq) hc ht,zf4 (rfl:c=c)];omega
     ·rw[h.hits hc (h.bit hc hs hr) hc ht,zf4 (rfl:c=c)];omega
  intro x' hx' y' hy'
  rcases (hmem x').1 hx' with ⟨x,hx,rfl⟩ | ⟨q,hq,rfl⟩ <;> rcases (hmem y').1 hy' with ⟨y,hy,rfl⟩ | ⟨r,hr,rfl⟩
  ·exact l11 x hx y hy
  ·exact l12 x hx r hr
  ·exact (l12 y hy q hq).symm
  ·exact l22 q hq r hr
omit h in
theorem qn (b:Nat):(bQ b).length≤b:=by
 unfold bQ;rw[List.range_succ_eq_map,List.filter_cons_of_neg (by simp)];have:=zc1 (fun s=>decide (0<s)&&decide (s &&& b=s)) ((List.range b).map Nat.succ);rw[zd9,zh7] at this;exact this
omit h in
theorem po {α β:Type}(g:α→List β)(K:Nat):∀ {l:List α},(∀ x∈l,(g x).length≤K)→(l.flatMap g).length≤l.length * K
 | [],_=>by simp
 | x::l,h=>by
  rw[zg8,zd8,ze2,Nat.add_mul,Nat.one_mul];have h1:=h x (by simp);have h2:=po g K (l:=l) fun y hy=>h y (by simp[hy]);omega
theorem Cov.len:(bB L f n).length≤L.length * 15:=by
 unfold bB;have:=po (fun q:Cl×Nat=>(bQ (f q.1.id)).map (ce L n q.2 q.1)) 15 (l:=L.zipIdx) fun q hq=>by
  rw[zd9];have h1:=qn (f q.1.id);have hm:L[q.2]?=some q.1:=List.mem_zipIdx_iff_getElem?.1 hq;have h2:=h.lt q.1 (zf5 hm);have h3:=h.pow;omega
 rwa [List.length_zipIdx] at this
theorem Cov.right:Rt (aa (bB L f n)):=by
 refine⟨?_,?_,fun x' hx'=>?_,fun x' hx'=>?_,fun x' hx' hd=>?_⟩
 ·rw[aq];have h1:=h.len;have h2:=h.few;omega
 ·have h1:=fj (bB L f n);have h2:=h.nodup;rw[zj3] at h1;rw[List.Nodup,zj3] at h2;exact (h1.and h2).imp fun ⟨h3,h4⟩=>by omega
 ·obtain ⟨c,hc,s,hs,rfl⟩:=h.mem.1 hx';have:=(cH.1 hs).1;show 0<bId n (ixB L c.id) s;unfold bId;omega
 ·obtain ⟨c,hc,s,hs,rfl⟩:=h.mem.1 hx';exact h.fm hc hs
 ·obtain ⟨c,hc,s,hs,rfl⟩:=h.mem.1 hx';exact h.around hc hs hd
end
theorem uw {α:Type}{p q r:α→Bool}:∀ {l:List α},(∀ x∈l,(p x=true↔q x=true∨r x=true)∧¬ (q x=true∧r x=true))→(l.filter p).length=(l.filter q).length+(l.filter r).length
 | [],_=>rfl
 | a::l,h=>by
  have ih:=uw (p:=p) (q:=q) (r:=r) (l:=l) fun x hx=>h x (by simp[hx]);obtain ⟨h1,h2⟩:=h a (by simp);rw[zh9,zh9,zh9];cases hp:p a <;> cases hq:q a <;> cases hr:r a <;> simp[hp,hq,hr] at h1 h2 ⊢ <;> omega
theorem lh {α:Type}(p:α→Bool)(f:α→Int):∀ l:List α,((l.filter p).map f).sum=(l.map fun x=>if p x=true then f x else 0).sum
 | []=>rfl
 | a::l=>by
  rw[zh9,zf7,List.sum_cons,← lh p f l];split <;> simp
theorem jP {n:Nat}{B:List Cl}{a d:Int}{c:Cl}:c∈dn n B a d↔c∈B∧c.dim=d∧de n c.id≤a:=by
 unfold dn;rw[zg7];simp
theorem jN {n:Nat}{B:List Cl}{low d:Int}{c:Cl}:c∈ep n B low d↔c∈B∧c.dim=d∧low<de n c.id:=by
 unfold ep;rw[zg7];simp
def k0 (n:Nat)(B:List Cl)(a d:Int):List Cl:=B.filter fun c=>decide (c.dim=d)&&decide (de n c.id=a)
theorem pl {n:Nat}{B:List Cl}{a d:Int}{c:Cl}:c∈k0 n B a d↔c∈B∧c.dim=d∧de n c.id=a:=by
 unfold k0;rw[zg7];simp
theorem uC (n:Nat)(B:List Cl)(a d:Int):(dn n B a d).length=(dn n B (a - 1) d).length+(k0 n B a d).length:=uw fun x _=>by
 simp only[zi4,zi5];omega
section
variable {p:Int}(hp:Fld p)(n:Nat)(B:List Cl)
include hp
theorem ky (a low low' d:Int)(h:low'≤low):bw (rkP p) n B a low' d - bw (rkP p) n B (a - 1) low' d≤bw (rkP p) n B a low d - bw (rkP p) n B (a - 1) low d:=by
 have h1:=xR hp (dn n B (a - 1) d) (k0 n B a d) (ep n B low (d - 1)) (B.filter fun c=>decide (c.dim=d - 1)&&(decide (de n c.id>low')&&decide (de n c.id≤low))) ec;have hC:∀ c,c∈dn n B (a - 1) d++k0 n B a d↔c∈dn n B a d:=fun c=>by
  rw[ze6,jP,jP,pl];constructor
  ·rintro (⟨h1,h2,h3⟩ | ⟨h1,h2,h3⟩)<;>exact⟨h1,h2,oM⟩
  ·rintro ⟨h1,h2,h3⟩;by_cases e:de n c.id=a
   ·exact .inr ⟨h1,h2,e⟩
   ·exact .inl ⟨h1,h2,oM⟩
 have hR:∀ c,c∈ep n B low (d - 1)++(B.filter fun c=>decide (c.dim=d - 1)&&(decide (de n c.id>low')&&decide (de n c.id≤low)))↔c∈ep n B low' (d - 1):=fun c=>by
  rw[ze6,jN,jN,zg7];simp only[zi4,zi5];constructor
  ·rintro (⟨h1,h2,h3⟩ | ⟨h1,h2,h3⟩)<;>exact⟨h1,oM,oM⟩
  ·rintro ⟨h1,h2,h3⟩;by_cases e:low<de n c.id
   ·exact .inl ⟨h1,h2,e⟩
   ·exact .inr ⟨h1,h2,h3,oM⟩
 rw[lL hp (fun _=>Iff.rfl) hR,lL hp hC (fun _=>Iff.rfl),lL hp hC hR] at h1;have hl:=uC n B a d;unfold bw rkP;omega
omit hp in
theorem yK {B:List Cl}(hB:Rt B){c d:Cl}(hc:c∈B)(hd:d∈B)(e:c.id=d.id):c=d:=by
 have h1:=hB.find hc;rw[e,hB.find hd] at h1;injection h1 with h1
 exact h1.symm
omit hp in
theorem qk:∀ {M:List Cl},(M.Pairwise fun a b=>a.id<b.id)→∀ {d:Cl},d∈M→∀ F:Cl→Int,(M.map fun c=>if d.id=c.id then F c else 0).sum=F d
 | a::M,hM,d,hd,F=>by
  obtain ⟨h1,h2⟩:=zj2.1 hM;rw[zf7,List.sum_cons]
  rcases ze4.1 hd with rfl | hd
  ·rw[zf4 rfl,wj fun x hx=>zf3 (by have:=h1 x hx; omega)];omega
  ·rw[zf3 (by have:=h1 d hd; omega),qk h2 hd];omega
omit hp in
theorem qj {α β:Type}(l:List α)(m:List β)(f:α→β→Int):(l.map fun a=>(m.map fun b=>f a b).sum).sum=(m.map fun b=>(l.map fun a=>f a b).sum).sum:=by
 induction l with
 | nil=>simp only[List.map_nil,List.sum_nil]; exact (wj fun _ _=>I).symm
 | cons a l ih=>simp only[zf7,List.sum_cons,ih,Cg]
omit hp in
theorem BZ {B:List Cl}(hB:Rt B){s c:Cl}(hs:s∈B)(hc:c∈B)(h:c.dim≠s.dim - 1):ec s c=0:=by
 unfold ec;refine wj fun q hq=>zf3 fun e=>?_;obtain ⟨d,hd,hdd⟩:=(hB.form s hs).found q hq;obtain ⟨h1,h2⟩:=ck hd;have:=yK hB h1 hc (by rw[h2,e]);subst this;exact h hdd
omit hp in
theorem Ai {B:List Cl}(hB:Rt B){s r:Cl}(hs:s∈B)(hr:r∈B):(B.map fun c=>ec c r * ec s c).sum=0:=by
 have h1:(B.map fun c=>ec c r * ec s c).sum=(s.sides.map fun q=>(B.map fun c=>if q.cell=c.id then ec c r * q.sign else 0).sum).sum:=by
  rw[← qj];congr 1;refine zc4 fun c _=>?_;show _ * (s.sides.map fun q=>if q.cell=c.id then q.sign else 0).sum=_;refine (bG fun q _=>?_).symm;split
  ·rfl
  ·rw[Int.mul_zero]
 have h2:∀ q∈s.sides,(B.map fun c=>if q.cell=c.id then ec c r * q.sign else 0).sum=inner B q r.id:=fun q hq=>by
  obtain ⟨d,hd,hdd⟩:=(hB.form s hs).found q hq;obtain ⟨h3,h4⟩:=ck hd;rw[← h4,qk hB.asc h3 fun c=>ec c r * q.sign];unfold inner ao;rw[hd];show (d.sides.map fun q=>if q.cell=r.id then q.sign else 0).sum * q.sign=(d.sides.map fun t=>if t.cell=r.id then q.sign * t.sign else 0).sum;rw[Int.mul_comm];refine (bG fun t _=>?_).symm;split
  ·rfl
  ·rw[Int.mul_zero]
 rw[h1,zc4 h2,← cN];by_cases hd:s.dim>1
 ·have hn0:0<s.sides.length:=by
   have:=(hB.form s hs).cnt;simp[aw] at this;have:=this.2 hd;omega
  have nd:(s.sides.map ai.cell).Nodup:=by
   rw[List.Nodup,zj3];exact (hB.form s hs).asc.imp fun h=>by omega
  exact ((ex hn0 nd).1 (hB.around s hs hd)).1 r.id
 ·rw[cN];refine wj fun q hq=>?_;obtain ⟨d,hd,hdd⟩:=(hB.form s hs).found q hq;have h3:=(ck hd).1;have h5:=(hB.form d h3).cnt;have h6:=(hB.form d h3).dim;simp only[aw,Bool.or_eq_false_iff,Bool.and_eq_false_iff,decide_eq_false_iff_not] at h5;have h7:d.sides=[]:=List.length_eq_zero_iff.1 oM;unfold inner ao;rw[hd,Option.getD_some,h7];rfl
theorem vf (hB:Rt B)(hdeg:∀ c∈B,0≤de n c.id∧de n c.id≤(n:Int) - 1)(a d:Int) :
  bw (rkP p) n B ((n:Int) - 1) a (d+1) - bw (rkP p) n B ((n:Int) - 1) (a - 1) (d+1)≤bw (rkP p) n B a (-1) d - bw (rkP p) n B (a - 1) (-1) d:=by
 have h1:=xS hp (ep n B (-1) (d - 1)) (dn n B (a - 1) d) (k0 n B a d) (ep n B a d) (dn n B ((n:Int) - 1) (d+1)) (fun r c=>ec c r) (fun c s=>ec s c) (fun r hr s hs=>Eqm.of (by
  obtain ⟨r1,r2,r3⟩:=jN.1 hr;obtain ⟨s1,s2,s3⟩:=jP.1 hs;rw[zf8,zf8,List.sum_append,List.sum_append];unfold dn ep k0;rw[lh,lh,lh,← Cg,← Cg];refine zb6 ?_ (Ai hB s1 r1);congr 1;refine zc4 fun c hc=>?_;by_cases hd:c.dim=d
  ·rcases Int.lt_trichotomy (de n c.id) a with h | h | h
   ·rw[zf4 (by simp[hd]; omega),zf3 (by simp; omega),zf3 (by simp; omega)];omega
   ·rw[zf3 (by simp; omega),zf3 (by simp; omega),zf4 (by simp[hd]; omega)];omega
   ·rw[zf3 (by simp; omega),zf4 (by simp[hd]; omega),zf3 (by simp; omega)];omega
  ·rw[zf3 (by simp[hd]),zf3 (by simp[hd]),zf3 (by simp[hd]),BZ hB s1 hc oM,Int.mul_zero];rfl))
 rw[lm hp (dn n B ((n:Int) - 1) (d+1)) (ep n B a d++k0 n B a d) ec,lm hp (dn n B ((n:Int) - 1) (d+1)) (ep n B a d) ec,lm hp (dn n B (a - 1) d++k0 n B a d) (ep n B (-1) (d - 1)) ec,lm hp (dn n B (a - 1) d) (ep n B (-1) (d - 1)) ec] at h1;have hC:∀ c,c∈dn n B (a - 1) d++k0 n B a d↔c∈dn n B a d:=fun c=>by
  rw[ze6,jP,jP,pl];constructor
  ·rintro (⟨h1,h2,h3⟩ | ⟨h1,h2,h3⟩)<;>exact⟨h1,h2,oM⟩
  ·rintro ⟨h1,h2,h3⟩;by_cases e:de n c.id=a
   ·exact .inr ⟨h1,h2,e⟩
   ·exact .inl ⟨h1,h2,oM⟩
 have hR:∀ c,c∈ep n B a d++k0 n B a d↔c∈ep n B (a - 1) d:=fun c=>by
  rw[ze6,jN,jN,pl];constructor
  ·rintro (⟨h1,h2,h3⟩ | ⟨h1,h2,h3⟩)<;>exact⟨h1,h2,oM⟩
  ·rintro ⟨h1,h2,h3⟩;by_cases e:de n c.id=a
   ·exact .inr ⟨h1,h2,e⟩
   ·exact .inl ⟨h1,h2,oM⟩
 rw[lL hp (fun _=>Iff.rfl) hR,lL hp hC (fun _=>Iff.rfl)] at h1;have hl:=uC n B a d;unfold bw rkP;rw[show d+1 - 1=d by omega];omega
end
section
variable (rf:List Cl→List Cl→Nat)(n:Nat)(B:List Cl)
def uB (r a d:Int):Int:=bw rf n B a (max (a - r) (-1)) d - bw rf n B (a - 1) (max (a - r) (-1)) d
def vB (r a d:Int):Int:=bw rf n B (min (a+r - 1) ((n:Int) - 1)) a d - bw rf n B (min (a+r - 1) ((n:Int) - 1)) (a - 1) d
theorem se {r a b:Int}(h1:1≤r)(h2:0≤a)(h3:a<n):ni rf n B r a b=uB rf n B r a (a+b) - vB rf n B r a (a+b+1):=by
 unfold ni uB vB pC;rw[show min (max a (-1)) ((n:Int) - 1)=a by omega,show min (max (a - 1) (-1)) ((n:Int) - 1)=a - 1 by omega,show min (max (a+r - 1) (-1)) ((n:Int) - 1)=min (a+r - 1) ((n:Int) - 1) by omega,show max a (-1)=a by omega,show max (a - 1) (-1)=a - 1 by omega];omega
end
section
variable {p:Int}(hp:Fld p){n:Nat}{B:List Cl}(hB:Rt B)(hdeg:∀ c∈B,0≤de n c.id∧de n c.id≤(n:Int) - 1)
include hp
theorem Cz (r a d:Int):uB (rkP p) n B (r+1) a d≤uB (rkP p) n B r a d:=ky hp n B a _ _ d oM
theorem Cx (A a d:Int):bw (rkP p) n B (A - 1) a d - bw (rkP p) n B (A - 1) (a - 1) d≤bw (rkP p) n B A a d - bw (rkP p) n B A (a - 1) d:=by
 have:=ky hp n B A a (a - 1) d oM;omega
theorem wv (a d:Int)(A:Int):∀ k:Nat,bw (rkP p) n B A a d - bw (rkP p) n B A (a - 1) d≤bw (rkP p) n B (A+k) a d - bw (rkP p) n B (A+k) (a - 1) d
 | 0=>by simp
 | k+1=>by
  have h1:=wv a d A k;have h2:=Cx (n:=n) (B:=B) hp (A+((k+1:Nat):Int)) a d;rw[show A+((k+1:Nat):Int) - 1=A+k by omega] at h2;omega
theorem Cy (r a d:Int):vB (rkP p) n B r a d≤vB (rkP p) n B (r+1) a d:=by
 unfold vB;have:=wv (n:=n) (B:=B) hp a d (min (a+r - 1) ((n:Int) - 1)) (min (a+(r+1) - 1) ((n:Int) - 1) - min (a+r - 1) ((n:Int) - 1)).toNat;rw[show min (a+r - 1) ((n:Int) - 1)+((min (a+(r+1) - 1) ((n:Int) - 1) - min (a+r - 1) ((n:Int) - 1)).toNat:Int)=min (a+(r+1) - 1) ((n:Int) - 1) by omega] at this;exact this
theorem zV {r a b:Int}(h1:1≤r)(h2:0≤a)(h3:a<n):ni (rkP p) n B (r+1) a b≤ni (rkP p) n B r a b:=by
 rw[se _ _ _ h1 h2 h3,se _ _ _ oM h2 h3];have k1:=Cz (n:=n) (B:=B) hp r a (a+b);have k2:=Cy (n:=n) (B:=B) hp r a (a+b+1);omega
include hB hdeg
theorem BO {r a b:Int}(h1:1≤r)(h2:0≤a)(h3:a<n):0≤ni (rkP p) n B r a b:=by
 rw[se _ _ _ h1 h2 h3];have k1:=ky hp n B a (max (a - r) (-1)) (-1) (a+b) oM;have k2:=vf hp n B hB hdeg a (a+b);have k3:=wv (n:=n) (B:=B) hp a (a+b+1) (min (a+r - 1) ((n:Int) - 1)) ((n:Int) - 1 - min (a+r - 1) ((n:Int) - 1)).toNat;rw[show min (a+r - 1) ((n:Int) - 1)+(((n:Int) - 1 - min (a+r - 1) ((n:Int) - 1)).toNat:Int)=(n:Int) - 1 by omega] at k3;unfold uB vB;omega
end
theorem oY (l:List Nat)(f g:Nat→Int):aj l (fun j=>f j - g j)=aj l f - aj l g:=by
 have h:aj l (fun j=>f j - g j)=aj l (fun j=>f j + -1 * g j):=ag fun j _=>by omega
 rw[h,dS,bV];omega
theorem nA {l:List Nat}{f:Nat→Int}(h:∀ j∈l,f j=0):aj l f=0:=by
 rw[ag h,eF]
theorem gh (n:Nat)(f:Nat→Int):aj (List.range (n+1)) f=aj (List.range n) f+f n:=by
 rw[List.range_succ,fH,cj,fG];omega
section
variable (rf:List Cl→List Cl→Nat)(n:Nat)(B:List Cl)
theorem Bk (r:Nat)(h1:1≤r)(h2:r≤n)(d:Int):(aj (List.range n) fun a=>uB rf n B ((r:Int)+1) a d+vB rf n B ((r:Int)+1) a d)=aj (List.range n) fun a=>uB rf n B r a d+vB rf n B r a d:=by
 rw[dS,dS];have e1:(aj (List.range n) fun a=>uB rf n B r a d) - (aj (List.range n) fun a=>uB rf n B ((r:Int)+1) a d)=aj (List.range (n - r)) fun a=>vB rf n B ((r:Int)+1) a d - vB rf n B r a d:=by
  rw[← oY];have hs:=dI r (n - r) fun a=>uB rf n B r a d - uB rf n B ((r:Int)+1) a d;rw[show r+(n - r)=n by omega] at hs;rw[hs,nA,Int.zero_add]
  ·refine ag fun t ht=>?_;have:=List.mem_range.1 ht;unfold uB vB;rw[show max (((r+t:Nat):Int) - r) (-1)=t by omega,show max (((r+t:Nat):Int) - (r+1)) (-1)=(t:Int) - 1 by omega,show min ((t:Int)+(r+1) - 1) ((n:Int) - 1)=((r+t:Nat):Int) by omega,show min ((t:Int)+r - 1) ((n:Int) - 1)=((r+t:Nat):Int) - 1 by omega];omega
  ·intro a ha;have:=List.mem_range.1 ha;unfold uB;rw[show max ((a:Int) - r) (-1) = -1 by omega,show max ((a:Int) - (r+1)) (-1) = -1 by omega];omega
 have e2:(aj (List.range n) fun a=>vB rf n B ((r:Int)+1) a d) - (aj (List.range n) fun a=>vB rf n B r a d)=aj (List.range (n - r)) fun a=>vB rf n B ((r:Int)+1) a d - vB rf n B r a d:=by
  rw[← oY];have hs:=dI (n - r) r fun a=>vB rf n B ((r:Int)+1) a d - vB rf n B r a d;rw[show n - r+r=n by omega] at hs;rw[hs,nA (l:=List.range r),Int.add_zero];intro t ht;have:=List.mem_range.1 ht;unfold vB;rw[show min (((n - r+t:Nat):Int)+(r+1) - 1) ((n:Int) - 1)=(n:Int) - 1 by omega,show min (((n - r+t:Nat):Int)+r - 1) ((n:Int) - 1)=(n:Int) - 1 by omega];omega
 omega
theorem AJ (d:Int):∀ m:Nat,m≤n→(aj (List.range m) fun a=>uB rf n B 1 a d+vB rf n B 1 a d)=bw rf n B ((m:Int) - 1) ((m:Int) - 1) d - bw rf n B (-1) (-1) d
 | 0,_=>by
  show (0:Int)=_;rw[show ((0:Nat):Int) - 1 = -1 by omega];omega
 | m+1,h=>by
  rw[gh,AJ d m oM];unfold uB vB;rw[show max ((m:Int) - 1) (-1)=(m:Int) - 1 by omega,show min ((m:Int)+1 - 1) ((n:Int) - 1)=m by omega,show ((m+1:Nat):Int) - 1=m by omega];omega
end
section
variable {p:Int}(hp:Fld p){n:Nat}{B:List Cl}(hdeg:∀ c∈B,0≤de n c.id∧de n c.id≤(n:Int) - 1)
include hp
theorem rW (R:List Cl):rkP p [] R=0:=by
 have:=ki hp (mx ([]:List Cl) R ec) 0 R.length;show rk p (mx ([]:List Cl) R ec) 0 R.length=0;omega
theorem zJ (C:List Cl):rkP p C []=0:=by
 have:=oG hp (mx C ([]:List Cl) ec) C.length 0;show rk p (mx C ([]:List Cl) ec) C.length 0=0;omega
include hdeg
theorem AK (d:Int):∀ r:Nat,1≤r→r≤n→(aj (List.range n) fun a=>uB (rkP p) n B r a d+vB (rkP p) n B r a d)=(B.filter fun c=>decide (c.dim=d)).length
 | 0,h,_=>by omega
 | 1,_,h=>by
  have h1:=AJ (rkP p) n B d n (lR _);have e1:dn n B (-1) d=[]:=List.filter_eq_nil_iff.2 fun c hc=>by
   have:=hdeg c hc;simp;omega
  have e2:ep n B ((n:Int) - 1) (d - 1)=[]:=List.filter_eq_nil_iff.2 fun c hc=>by
   have:=hdeg c hc;simp;omega
  have e3:dn n B ((n:Int) - 1) d=B.filter fun c=>decide (c.dim=d):=List.filter_congr fun c hc=>by
   have:=hdeg c hc;have h5:de n c.id≤(n:Int) - 1:=this.2;simp[h5]
  unfold bw at h1;rw[e1,e2,e3,rW hp,zJ hp] at h1;show (aj (List.range n) fun a=>uB (rkP p) n B 1 a d+vB (rkP p) n B 1 a d)=_;rw[h1];simp
 | r+2,_,h=>by
  have h1:=Bk (rkP p) n B (r+1) oM oM d;rw[show ((r+2:Nat):Int)=((r+1:Nat):Int)+1 by omega,h1];exact AK d (r+1) oM oM
omit hp hdeg in
theorem rS {rf:List Cl→List Cl→Nat}{a d:Int}(r:Int)(h:∀ c∈B,¬ (c.dim=d∧de n c.id=a)):uB rf n B r a d=0∧vB rf n B r a (d+1)=0:=by
 have e1:dn n B a d=dn n B (a - 1) d:=List.filter_congr fun c hc=>by
  have:=h c hc;rw[← Bool.decide_and,← Bool.decide_and,decide_eq_decide];omega
 have e2:ep n B a (d+1 - 1)=ep n B (a - 1) (d+1 - 1):=List.filter_congr fun c hc=>by
  have:=h c hc;rw[← Bool.decide_and,← Bool.decide_and,decide_eq_decide];omega
 unfold uB vB bw;rw[e1,e2];omega
theorem Cf (D:Nat)(hD:∀ c∈B,0≤c.dim - de n c.id∧c.dim - de n c.id<D)(r:Nat)(h1:1≤r)(h2:r≤n) :
  (aj (List.range n) fun a=>aj (List.range D) fun b=>ni (rkP p) n B r a b * sgP ((a:Int)+b))=(B.map fun c=>sgP c.dim).sum:=by
 have hdim:∀ c∈B,0≤c.dim∧c.dim<((n+D:Nat):Int):=fun c hc=>by
  have:=hdeg c hc;have:=hD c hc;omega
 have s1:(aj (List.range n) fun a=>aj (List.range D) fun b=>ni (rkP p) n B r a b * sgP ((a:Int)+b))=aj (List.range n) fun a=>aj (List.range (n+D)) fun d=>sgP d * (uB (rkP p) n B r a d - vB (rkP p) n B r a ((d:Int)+1)):=by
  refine ag fun a ha=>?_;have ha:=List.mem_range.1 ha;have hs:=dI a (D+(n - a)) fun d=>sgP d * (uB (rkP p) n B r a d - vB (rkP p) n B r a ((d:Int)+1));rw[show a+(D+(n - a))=n+D by omega] at hs;rw[hs,dI D (n - a),nA (l:=List.range a),nA (l:=List.range (n - a)),Int.zero_add,Int.add_zero]
  ·refine ag fun b _=>?_;rw[se _ _ _ oM oM oM,show ((a+b:Nat):Int)=(a:Int)+b by omega,Int.mul_comm]
  ·intro t ht;have:=rS (rf:=rkP p) (n:=n) (B:=B) (a:=a) (d:=((a+(D+t):Nat):Int)) r fun c hc k=>by
    have:=hD c hc;omega
   rw[this.1,this.2];simp
  ·intro d hd;have hd:=List.mem_range.1 hd;have:=rS (rf:=rkP p) (n:=n) (B:=B) (a:=a) (d:=(d:Int)) r fun c hc k=>by
    have:=hD c hc;omega
   rw[this.1,this.2];simp
 have s2:∀ d:Nat,(aj (List.range n) fun a=>sgP d * (uB (rkP p) n B r a d - vB (rkP p) n B r a ((d:Int)+1)))=sgP d * (aj (List.range n) fun a=>uB (rkP p) n B r a d)+sgP ((d:Int)+1) * (aj (List.range n) fun a=>vB (rkP p) n B r a ((d:Int)+1)):=fun d=>by
  rw[bV,oY,oE,show sgP 1 = -1 from rfl,Int.mul_sub,Int.mul_neg,Int.mul_one,Int.neg_mul];omega
 rw[s1,dX];simp only[s2];rw[dS];have s3:∀ N:Nat,(aj (List.range N) fun d=>sgP ((d:Int)+1) * (aj (List.range n) fun a=>vB (rkP p) n B r a ((d:Int)+1)))+sgP 0 * (aj (List.range n) fun a=>vB (rkP p) n B r a 0)=(aj (List.range N) fun d=>sgP d * (aj (List.range n) fun a=>vB (rkP p) n B r a d))+sgP N * (aj (List.range n) fun a=>vB (rkP p) n B r a N):=fun N=>by
  induction N with
  | zero=>simp[aj]
  | succ N ih =>
   rw[gh,gh,show ((N+1:Nat):Int)=(N:Int)+1 by omega];omega
 have s4:=s3 (n+D);have z0:(aj (List.range n) fun a=>vB (rkP p) n B r a 0)=0:=nA fun a _=>by
  have:=(rS (rf:=rkP p) (n:=n) (B:=B) (a:=a) (d:=-1) r fun c hc k=>by
   have:=hdim c hc;omega).2
  rwa [show (-1:Int)+1=0 by omega] at this
 have z1:(aj (List.range n) fun a=>vB (rkP p) n B r a ((n+D:Nat):Int))=0:=nA fun a _=>by
  have e:∀ A,dn n B A ((n+D:Nat):Int)=[]:=fun A=>List.filter_eq_nil_iff.2 fun c hc=>by
   have:=hdim c hc;simp only[zi4,zi5];omega
  unfold vB bw;rw[e,rW hp,rW hp];omega
 rw[z0,z1] at s4;have s5:(aj (List.range (n+D)) fun d=>sgP ((d:Int)+1) * (aj (List.range n) fun a=>vB (rkP p) n B r a ((d:Int)+1)))=aj (List.range (n+D)) fun d=>sgP d * (aj (List.range n) fun a=>vB (rkP p) n B r a d):=oM;rw[s5,← dS];have s6:∀ d:Nat,sgP d * (aj (List.range n) fun a=>uB (rkP p) n B r a d)+sgP d * (aj (List.range n) fun a=>vB (rkP p) n B r a d)=sgP d * (B.filter fun c=>decide (c.dim=(d:Int))).length:=fun d=>by
  rw[← Int.mul_add,← dS,AK hp hdeg d r h1 h2]
 simp only[s6];have s7:∀ d:Nat,sgP d * ((B.filter fun c=>decide (c.dim=(d:Int))).length:Int)=(B.map fun c=>if c.dim=(d:Int) then sgP c.dim else 0).sum:=fun d=>by
  clear hdeg hD hdim s1 s2 s3 s4 s5 s6 z0 z1;induction B with
  | nil=>simp
  | cons c B ih =>
   rw[zh9,zf7,List.sum_cons,← ih];by_cases k:c.dim=(d:Int)
   ·rw[zf4 (by simpa using k),zf4 k,ze2,k];rw[show (((B.filter fun c=>decide (c.dim=(d:Int))).length+1:Nat):Int)=((B.filter fun c=>decide (c.dim=(d:Int))).length:Int)+1 by omega,Int.mul_add];omega
   ·rw[zf3 (by simpa using k),zf3 k];omega
 simp only[s7];unfold aj;rw[qj];congr 1;refine zc4 fun c hc=>?_;have h3:=hdim c hc;have h4:=eu (n+D) c.dim.toNat oM fun _=>sgP c.dim;refine zb6 (show _=aj (List.range (n+D)) _ from ag fun d _=>?_) h4;by_cases k:c.dim=(d:Int)
 ·rw[zf4 k,zf4 oM,Int.one_mul]
 ·rw[zf3 k,zf3 oM,Int.zero_mul]
end
theorem qf (L:List Cl)(id:Int):∀ (T:List (List Int)) (k:Nat),tlB L (k+1) T id=2 * tlB L k T id
 | [],_=>rfl
 | t::T,k=>by
  unfold tlB;rw[qf L id T (k+1),Nat.mul_add,Nat.pow_succ];split <;> omega
theorem tH (L:List Cl)(t:List Int)(T:List (List Int))(id:Int):tlB L 0 (t::T) id=(if (ef L t).contains id then 1 else 0)+2 * tlB L 0 T id:=by
 rw[← qf];rfl
theorem Cd {a b x y:Nat}(ha:a≤1)(hb:b≤1)(h:a≤b)(k:x &&& y=x):(a+2 * x) &&& (b+2 * y)=a+2 * x:=by
 refine Nat.eq_of_testBit_eq fun j=>?_;rw[Nat.testBit_and];cases j with
 | zero =>
  rw[Nat.testBit_zero,Nat.testBit_zero];have h1:(a+2 * x) % 2=a:=oM;have h2:(b+2 * y) % 2=b:=oM;rw[h1,h2];by_cases e:a=1
  ·have:b=1:=oM;simp[e,this]
  ·simp[e]
 | succ j =>
  rw[Nat.testBit_succ,Nat.testBit_succ,show (a+2 * x) / 2=x by omega,show (b+2 * y) / 2=y by omega,← Nat.testBit_and,k]
theorem wI (L:List Cl){a b:Int}:∀ {T:List (List Int)},(∀ t∈T,(ef L t).contains a=true→(ef L t).contains b=true)→tlB L 0 T a &&& tlB L 0 T b=tlB L 0 T a
 | [],_=>by simp[tlB]
 | t::T,h=>by
  rw[tH,tH];refine Cd (by split <;> omega) (by split <;> omega) ?_ (wI L fun u hu=>h u (by simp[hu]));have:=h t (by simp);split
  ·rename_i h1;rw[zf4 (this h1)];exact lR _
  ·exact ze9 _
theorem qM {L:List Cl}(h:Rt L){T:List (List Int)}(hT:T.length≤4)(hf:L.length≤60)(hd:∀ c∈L,c.dim≤4)(hs:∀ c∈L,c.sides.length≤60):Cov L (tlB L 0 T) T.length :=
 ⟨h,hT,fun c _=>oz L c.id T,fun c hc x hx=>wI L fun t _ hc1=>m8 h t c hc hc1 x hx,hf,hd,hs⟩
theorem vQ {L:List Cl}(h:Rt L){T:List (List Int)}(hT:T.length≤4)(hf:L.length≤60)(hd:∀ c∈L,c.dim≤4)(hs:∀ c∈L,c.sides.length≤60):Rt (cD L T):=by
 unfold cD;rw[r8];exact (qM h hT hf hd hs).right
theorem zr:∀ b,b<16→0<b→((bQ b).map fun s=>sgP ((onesB s:Int) - 1)).sum=1:=by decide +kernel
theorem r5 {B:List Cl}(h:Rt B):zf B=(B.map fun c=>sgP c.dim).sum:=by
 unfold zf;rw[h.tab];congr 1;refine zc4 fun c hc=>?_;have:=(h.form c hc).dim;unfold sgP;rw[Int.tmod_eq_emod_of_nonneg this.1];split <;> omega
section
variable {L:List Cl}{f:Int→Nat}{n:Nat}(h:Cov L f n)
include h
theorem Cov.euler (hc:∀ c∈L,0<f c.id):zf (aa (bB L f n))=zf L:=by
 rw[r5 h.right,r5 h.rt];have h1:((aa (bB L f n)).map fun c=>sgP c.dim).sum=((bB L f n).map fun c=>sgP c.dim).sum:=by
  unfold aa;rw[zh8];exact gl ((fx _).map _)
 rw[h1];unfold bB;have key:∀ (m:List (Cl×Nat)),(∀ q∈m,q.1∈L)→((m.flatMap fun q=>(bQ (f q.1.id)).map (ce L n q.2 q.1)).map fun c=>sgP c.dim).sum=((m.map Prod.fst).map fun c=>sgP c.dim).sum:=by
  intro m hm;induction m with
  | nil=>rfl
  | cons q m ih =>
   rw[zg8,zf8,List.sum_append,ih fun x hx=>hm x (by simp[hx]),zf7,zf7,List.sum_cons,zh8];congr 1;have hq:=hm q (by simp);have h2:=h.lt _ hq;have h3:=h.pow;rw[bG (g:=fun s=>sgP ((onesB s:Int) - 1)) (K:=sgP q.1.dim) fun s _=>?_,zr _ oM (hc _ hq),Int.mul_one];show sgP (q.1.dim+onesB s - 1)=_;rw[← oE];congr 1;omega
 rw[key _ fun q hq=>zf5 (List.mem_zipIdx_iff_getElem?.1 hq),List.zipIdx_map_fst]
theorem Cov.deg {c:Cl}(hc:c∈L){s:Nat}(hs:s∈bQ (f c.id)):de n (bId n (ixB L c.id) s)=(onesB s:Int) - 1:=by
 have:=(h.s16 hc hs).1;unfold de bId;rw[Int.toNat_natCast,Nat.mul_comm,Nat.mul_add_mod,Nat.mod_eq_of_lt this]
omit h in
theorem BM (s n:Nat)(hn:n≤4)(hs:s<2 ^ n)(h0:0<s):0<onesB s∧onesB s≤n:=by
 have key:∀ n,n≤4→∀ s,s<2 ^ n→0<s→0<onesB s∧onesB s≤n:=by decide +kernel
 exact key n hn s hs h0
theorem Cov.degs:∀ c∈aa (bB L f n),0≤de n c.id∧de n c.id≤(n:Int) - 1:=fun z hz=>by
 obtain ⟨c,hc,s,hs,rfl⟩:=h.mem.1 hz;have h1:=BM s n h.n4 (h.s16 hc hs).1 (cH.1 hs).1;have h2:=h.deg hc hs;show 0≤de n (bId n (ixB L c.id) s)∧de n (bId n (ixB L c.id) s)≤(n:Int) - 1;omega
theorem Cov.dims (D:Nat)(hD:∀ c∈L,c.dim<D):∀ c∈aa (bB L f n),0≤c.dim - de n c.id∧c.dim - de n c.id<D:=fun z hz=>by
 obtain ⟨c,hc,s,hs,rfl⟩:=h.mem.1 hz;have h2:=h.deg hc hs;have h3:=hD c hc;have h4:=(h.rt.form c hc).dim;show 0≤c.dim+onesB s - 1 - de n (bId n (ixB L c.id) s)∧c.dim+onesB s - 1 - de n (bId n (ixB L c.id) s)<D;omega
end
theorem yd (E:World)(g:PH)(s:Own)(v:Value)(l:List Int)(x:Int)(hv:cd g v l)(hl:l.length<1099511627776) :
  Ctr Tryz.prog E 100 #[v,vi x] g s (fun r g' s'=>(∃ n:Int,r=vi n∧decide (n≥0)=l.contains x)∧g=g'∧s=s'):=by
 obtain ⟨p,c,rfl⟩:=za2 hv;refine za9 (args:=[.slice p l.length c,vi x]) func100 I ntmps100 (bE I) ?_;refine rZ (aT I (sQ (sW I (lU (eN am I) (lM I (tZ (bK ?_)))))));refine oP (ι:=Nat) (fun k=>[(0,.slice p l.length c),(1,vi x),(7,vi l.length),(8,vi k)]) (fun _=>g) (fun _=>s) (fun k=>k≤l.length∧x ∉ l.take k) (fun k=>l.length - k) 0 sB I I ⟨ze9 _,by simp⟩ ?_;rintro k ⟨hk,hno⟩;refine rZ (yL I (tZ (sQ ?_)));refine iP I (fun hlt=>?_) (fun hlt=>?_)
 ·have hkl:k<l.length:=oM;have hb1:=za4 hv oM;have hgx:l[((k:Nat):Int).toNat]?=some l[k]:=gE hkl;refine kP (tN (sQ (bK (sW I (aT I (sW I (lM I (lM I (lU (iA am zT3 I I hb1 oM sL) (lK (eB iT3 I (za5 hv) hgx I) (yE I (tZ ?_))))))))))));refine iP I (fun he=>?_) (fun he=>?_)
  ·refine sW I (aT I (rE (bR (tR (tR (bR (tR ?_)))))));have hm:l.contains x=true:=by rw[List.contains_iff_mem,he]; exact gM hkl
   exact za6 (.inl I) results100 I ⟨⟨k,I,by rw[hm]; simp⟩,I,I⟩
  ·refine kP (bN (tN (rG (yD I (lM I (nL ?_))))));exact gA (k+1) sB I I ⟨oM,by rw[tS hkl,ze6]; rintro (h | h); exact hno h; simp at h; exact he h⟩ oM
 ·have hkk:l.take k=l:=tL oM;rw[hkk] at hno;refine xI (tX (tX (bX (tN (rZ (aT I (rE ?_)))))));have hm:l.contains x=false:=by rw[← zi7,List.contains_iff_mem]; exact hno
  exact za6 (.inl I) results100 I ⟨⟨-1,I,by rw[hm]; rfl⟩,rfl,rfl⟩
theorem yv (E:World)(g:PH)(s:Own)(v:Value)(l:List Int)(x:Int)(hv:cd g v l)(hl:l.length<1099511627776) :
  Ctr Tryz.prog E 64 #[v,vi x] g s (fun r g' s'=>r=vb (l.contains x)∧g=g'∧s=s'):=by
 refine za9 (args:=[v,vi x]) func64 I ntmps64 (bE I) ?_;refine rZ (aT I (sW I (lM I (lW (cL call100 I (yd E g _ v l x hv hl)) ?_))));rintro _ _ _ ⟨⟨n,rfl,hn⟩,rfl,rfl⟩;refine lU (gQ I I) (aT I (rE ?_));exact za6 (.inl I) results64 I ⟨by rw[hn],I,I⟩
def atP (L:List Cl):List (Int×Value):=L.zipIdx.map fun q=>(q.1.id,vi q.2)
theorem Az (L:List Cl)(c:Cl):atP (L++[c])=atP L++[(c.id,vi L.length)]:=by
 unfold atP;rw[List.zipIdx_append,zf8];simp
theorem xu {L:List Cl}{c:Cl}(h:∀ d∈L,d.id≠c.id):jj (atP L) c.id (vi L.length)=atP (L++[c]):=by
 rw[Az];refine iE _ _ _ fun p hp=>?_;obtain ⟨q,hq,rfl⟩:=ze5.1 hp;exact h q.1 (zf5 (List.mem_zipIdx_iff_getElem?.1 hq))
theorem kL (id:Int):∀ (L:List Cl) (k:Nat),fk (L.zipIdx k |>.map fun q=>(q.1.id,vi q.2)) id=none∧aO L id=none∨∃ c i,aO L id=some c∧L[i]?=some c∧fk (L.zipIdx k |>.map fun q=>(q.1.id,vi q.2)) id=some (vi (k+i:Nat))
 | [],_=>.inl ⟨rfl,rfl⟩
 | d::L,k=>by
  rw[List.zipIdx_cons,zf7,bH];unfold aO;rw[List.find?_cons];by_cases e:id=d.id
  ·refine .inr ⟨d,0,?_,I,?_⟩
   ·rw[zf2 (show d.id=id from e.symm)]
   ·rw[zf4 e];rfl
  ·rw[zf3 e,zf1 (fun h:d.id=id=>e h.symm)]
   rcases kL id L (k+1) with ⟨h1,h2⟩ | ⟨c,i,h1,h2,h3⟩
   ·exact .inl ⟨h1,h2⟩
   ·exact .inr ⟨c,i+1,h1,h2,by rw[h3]; congr 2; omega⟩
theorem r9 {L:List Cl}(hL:Rt L)(id:Int):(fk (atP L) id=none∧aO L id=none)∨∃ c,aO L id=some c∧L[ixB L c.id]?=some c∧c.id=id∧fk (atP L) id=some (vi (ixB L c.id:Nat)):=by
 rcases kL id L 0 with h | ⟨c,i,h1,h2,h3⟩
 ·exact .inl h
 ·refine .inr ⟨c,h1,?_,(ck h1).2,?_⟩
  ·rw[hL.ix h2]; exact h2
  ·rw[hL.ix h2,← Nat.zero_add i]; exact h3
def wt (g:PH)(v:Value)(L:List Cl)(T:List (List Int)):Prop :=
 ∃ b m cv iv,v=pp b 0∧g b=some (.cells #[cv,.map (some m),iv,vi T.length] 75 (0,0))∧ar g cv L∧Mp g m (atP L)∧cd g iv (L.map fun c=>((tlB L 0 T c.id:Nat):Int))
theorem wt.mono {g g':PH}{v:Value}{L:List Cl}{T:List (List Int)}(h:wt g v L T)(hl:Le g g'):wt g' v L T:=by
 obtain ⟨b,m,cv,iv,h1,h2,h3,h4,h5⟩:=h;exact⟨b,m,cv,iv,h1,hl _ _ h2,h3.mono hl,h4.mono hl,za3 h5 hl⟩
theorem vE {L:List Cl}(hL:Rt L)(F:Cl→Int){c:Cl}(hc:L[ixB L c.id]?=some c)(y:Int):(L.map F).set (ixB L c.id) y=L.map fun d=>if d.id=c.id then y else F d:=by
 refine List.ext_getElem? fun i=>?_;rw[List.getElem?_set,zh3,zh3,zd9];cases hi:L[i]? with
 | none =>
  have h1:L.length≤i:=List.getElem?_eq_none_iff.1 hi;split
  ·rw[zf3 oM]; rfl
  ·rfl
 | some d =>
  have h1:=hL.ix hi;by_cases e:d.id=c.id
  ·have e2:ixB L c.id=i:=by rw[← e]; exact h1
   have h2:=(ze8.1 hi).1;rw[zf4 e2,zf4 oM];show some y=some (if d.id=c.id then y else F d);rw[zf4 e]
  ·have e2:ixB L c.id≠i:=fun h=>by
    rw[h,hi] at hc;injection hc with hc
    exact e (by rw[hc])
   rw[zf3 e2];show some (F d)=some (if d.id=c.id then y else F d);rw[zf3 e]
theorem CE:∀ k:Nat,k<6→∀ x:Nat,x<64→x<2 ^ k→IntKind.i64.wrap (BitVec.ofInt IntKind.i64.bits (x:Int) ||| BitVec.ofInt IntKind.i64.bits ((2 ^ k:Nat):Int)).toNat=((x+2 ^ k:Nat):Int):=by decide +kernel
theorem wN:∀ n:Nat,n<10→IntKind.i64.wrap (1 * 2 ^ min ((n:Nat):Int).toNat IntKind.i64.bits)=((2 ^ n:Nat):Int):=by decide
theorem Tryz.build75 (q:Option Addr)(n k m:Nat)(t:Int)(w:World):(Instr.build 75 #[(0,.slice q n k),(1,.map (some m)),(3,vi t)]).run Tryz.prog w = .ok (.agg #[.slice q n k,.map (some m),.slice none 0 0,vi t]) w:=by
 have h1:∀ n,(vi n).cells = #[vi n]:=fun _=>rfl;have h2:(Value.slice q n k).cells = #[.slice q n k]:=rfl;have h3:(Value.map (some m)).cells = #[.map (some m)]:=rfl;simp[Instr.build,Instr.fill,h1,h2,h3];rfl
def uO (L:List Cl)(T:List (List Int))(ids:List Int)(c:Cl):Nat:=tlB L 0 T c.id+if ids.contains c.id then 2 ^ T.length else 0
set_option maxHeartbeats 2000000
theorem jB {l:List Cl}{T:List (List Int)}(h:er l T=0):(a6 l).2=0∧T.length≤6:=by
 unfold er at h;split at h
 ·rename_i h1; exact absurd h h1
 ·rename_i h1;split at h
  ·cases h
  ·rename_i h2; exact⟨zg3 h1,oM⟩
theorem yu {L:List Cl}{T:List (List Int)}:(L.map fun c=>((tlB L 0 T c.id:Nat):Int)).contains 0=L.any fun c=>decide (tlB L 0 T c.id=0):=by
 rw[Bool.eq_iff_iff,List.contains_iff_mem,zi8,ze5];constructor
 ·rintro ⟨c,hc,h⟩; exact⟨c,hc,by simpa using Int.ofNat_eq_zero.1 h⟩
 ·rintro ⟨c,hc,h⟩; exact⟨c,hc,by simp at h; rw[h]; rfl⟩
theorem mi (E:World)(hE:E.drawn=0)(g:PH)(s:Own)(v tv:Value)(l:List Cl)(T:List (List Int))(hv:ar g v l)(hf:dM l)(hw:∀ c∈l,fI c.id)(ht:aJ g tv T)(hT:T.length<1099511627776)(hTl:∀ t∈T,t.length<1099511627776) :
  Ctr Tryz.prog E 30 #[.agg #[v],tv] g s (fun x g' s'=>s=s'∧Le g g'∧∃ pv,x = .tuple #[pv,vi (er l T)]∧(er l T=0→wt g' pv (ae l) T)):=by
 obtain ⟨rs,hrs,hall⟩:=ht;have hlen:=hall.length;obtain ⟨q,c,rfl⟩:=za2 hrs;obtain ⟨vp,vc,rfl⟩:=hv.form;refine za9 (args:=[.agg #[.slice vp l.length vc],.slice q rs.length c]) func30 I ntmps30 (bE I) ?_;refine rZ (bW (bO I) fun b2=>?_);refine lA I (aT I (sQ (rZ (lK (qV 0 bZ aH I I I) (lW (cL call24 I (kI E g _ _ l hv hf)) ?_)))));rintro _ _ _ ⟨rfl,rfl,rfl⟩;refine lM I (yX I (yX I (lA I (aT I (sW I (lU (nQ I I) (tZ ?_)))))));refine iP I (fun hbad=>?_) (fun hbad=>?_)
 ·refine sW I (lA I (aT I (rE (tR ?_))));have he:er l T=(a6 l).2:=by unfold er; rw[zf4 hbad]
  refine dR (s':=s) uR ?_;exact ST.ret2 (.inl I) results30 I I ⟨I,zb7 g,_,by rw[he]; rfl,fun h=>absurd (he ▸ h) hbad⟩
 ·have hok:(a6 l).2=0:=zg3 hbad;have hRt:=kY hok;have hLt:ae l=aa l:=by
   have h1:=hRt.tab;unfold ae at h1 ⊢;rw[hRt.canon] at h1;exact h1
  refine kP (tN (sQ (sW I (lU (eN bF I) (lU (gR I I) (tZ ?_))))));refine iP I (fun hmany=>?_) (fun hmany=>?_)
  ·refine rZ (lA I (aT I (rE (tR ?_))));have he:er l T=2:=by unfold er; rw[zf3 hbad,zf4 oM]
   refine dR (s':=s) uR ?_;exact ST.ret2 (.inl I) results30 I I ⟨I,zb7 g,_,by rw[he],fun h=>by rw[he] at h; cases h⟩
  ·have hT6:T.length≤6:=oM;refine kP (tN (rZ (lK (qV 0 bZ aH I I I) (lW (cL call51 I (jf E g _ _ l hv hf)) ?_))));rintro _ g1 _ ⟨rfl,hle1,u,rfl,hu⟩;obtain ⟨up,uc,rfl⟩:=hu.form;refine lU (SU.field fB I gX I I) (lW (SO.mkMap) ?_);rintro _ _ _ ⟨b33,rfl,rfl,rfl⟩;refine lM I (lU (eN bF I) (lU (za1 I (build75 _ _ _ _ _)) (bW (bO I) fun b37=>?_)));refine aT I (sQ (sW I (lU (nC I) (lU (fA ng I dZ I) (lK (qL gX I (cO 0 I I)) (lU (eN aU I) (lM I (tZ (bK ?_)))))))));have hid:∀ k (hk:k<(aa l).length),∀ d∈(aa l).take k,d.id≠(aa l)[k].id:=fun k hk d hd e=>by
    obtain ⟨i,hi,rfl⟩:=List.mem_iff_getElem.1 hd;rw[zd7] at hi;rw[List.getElem_take] at e;have:=zc5.1 hRt.asc i k oM hk oM;omega
   have hLl:(aa l).length<1099511627776:=by have:=hRt.few; omega
   have hinz:∀ id,tlB (aa l) 0 [] id=0:=fun id=>rfl;generalize hLd:aa l=L at *;obtain ⟨us,hus,hallu⟩:=hu;have hul:=hallu.length;refine oP (ι:=Nat) (fun k=>[(1,.slice q rs.length c),(2,pp b2 0),(8,pp b37 0),(41,.slice up L.length uc),(42,vi L.length),(43,vi k)]) (fun _=>g1) (fun k=>pt b37 (.cells #[.slice up L.length uc,.map (some b33),.slice none 0 0,vi rs.length] 75 (0,0))::mp b33 (atP (L.take k))::pt b2 (.cells #[.slice vp l.length vc] 30 (0,0))::s) (fun k=>k≤L.length) (fun k=>L.length - k) 0 sB I I (ze9 _) ?_;rintro k hk;refine rZ (yL I (tZ (sQ ?_)));refine iP I (fun hlt=>?_) (fun hlt=>?_)
   ·have hkl:k<L.length:=oM;have hku:k<us.length:=oM;have hR:=hallu.get (gE hkl) (gE hku);have hb1:=za4 hus oM;have hgr:us[((k:Nat):Int).toNat]?=some us[k]:=gE hku;have hput:=xu (hid k hkl);rw[zd7,Nat.min_eq_left oM,← tS hkl,← hR.1] at hput;generalize us[k]=r at *;refine kP (tN (sQ (bK (sW I (lU (iA aU aK I I hb1 oM sL) (lK (eA gI aK I (za5 hus) hgr) (bW (aL zk3) fun b10=>?_)))))));refine lA I (oZ (sK 0 aK I I I I I sB) (tZ ?_));refine dW [7] [(0,2),(1,2),(2,2),(3,1),(4,2),(5,1),(6,2),(7,0)] zd6 kR ?_;refine yM I (pU I (nC I) (pU I (fA ng I sizeOf73 I) (pK I (qL (v:=.map (some b33)) isAgg73 I (cO 1 I I)) (pU I (fA au I zT3 I) (pK I (qL (v:=vi r.id) iT3 I (cO 0 I I)) (yM I (SP.on I (SO.mapUpdate 2 mty73 I I I I) (.inl dC) ?_)))))));rintro _ _ _ ⟨rfl,rfl⟩;rw[hput];refine pN (bN (tN (rG (yD I (lM I (nL (dR (.cons _ (.refl _)) ?_)))))));exact gA (k+1) sB I I oM oM
   ·have hkk:k=L.length:=oM;subst hkk;rw[List.take_length];refine xI (tX (tX (bX (tN (sW I (lM I (lU (nC I) (lU (fA ng I dZ I) (lK (qL (v:=.slice up L.length uc) gX I (cO 0 I I)) (lU (eN aU I) (lW (mK encInt 0 sty25 I I I oM oM) ?_)))))))))));rintro _ _ _ ⟨bi,rfl,rfl,rfl⟩;refine lU (nC I) (lU (fA ng I cg I) (oZ (SO.store1 1 cg I I I I (by show 2<4; decide) I) ?_));refine tZ (sQ (sQ ?_));refine SC.to (g':=g1) (s':=rowA encInt 3 (.slice (some ⟨bi,0,none⟩) L.length L.length) (L.map fun c=>((tlB L 0 (T.take 0) c.id:Nat):Int))::pt b37 (.cells #[.slice up L.length uc,.map (some b33),.slice (some ⟨bi,0,none⟩) L.length L.length,vi rs.length] 75 (0,0))::mp b33 (atP L)::pt b2 (.cells #[.slice vp l.length vc] 30 (0,0))::s) (fun w hw=>by rw[show (L.map fun c=>((tlB L 0 (T.take 0) c.id:Nat):Int))=List.replicate L.length 0 from (by rw[List.take_zero]; show (L.map fun _=>(0:Int))=_; exact List.map_const')]; exact hw) ?_;refine rG (lM I (lU (eN bF I) (lM I (tZ (bK ?_)))));refine oP (ι:=PH×Nat) (fun z=>[(1,.slice q rs.length c),(2,pp b2 0),(8,pp b37 0),(65,.slice q rs.length c),(66,vi rs.length),(67,vi z.2)]) (fun z=>z.1) (fun z=>rowA encInt 3 (.slice (some ⟨bi,0,none⟩) L.length L.length) (L.map fun c=>((tlB L 0 (T.take z.2) c.id:Nat):Int))::pt b37 (.cells #[.slice up L.length uc,.map (some b33),.slice (some ⟨bi,0,none⟩) L.length L.length,vi rs.length] 75 (0,0))::mp b33 (atP L)::pt b2 (.cells #[.slice vp l.length vc] 30 (0,0))::s) (fun z=>Le g1 z.1∧z.2≤rs.length∧((T.take z.2).any fun t=>t.any fun id=>(aO L id).isNone)=false) (fun z=>rs.length - z.2) (g1,0) sB I I ⟨zb7 _,ze9 _,by simp⟩ ?_;rintro ⟨g2,k⟩ ⟨hle2,hk,hno⟩;dsimp only at hle2 hk hno ⊢;refine rZ (yL I (tZ (sQ ?_)));refine iP I (fun hlt2=>?_) (fun hlt2=>?_)
    ·have hkr:k<rs.length:=oM;have hkT:k<T.length:=oM;have hb1:=za4 hrs oM;have hTk:=hTl _ (gM hkT);have hRk:=(hall.get (gE hkT) (gE hkr)).mono (hle1.trans hle2);have hRl:=hRk.len;have hgr:rs[((k:Nat):Int).toNat]?=some rs[k]:=gE hkr;have htk:T.take (k+1)=T.take k++[T[k]]:=tS hkT;generalize rs[k]=r at *;obtain ⟨rp,rn,rc⟩:=r;dsimp only at hRl;generalize T[k]=t at *;subst hRl;have hxs:cd g2 (.slice rp t.length rc) t:=hRk;refine kP (tN (sQ (bK (sW I (lU (iA bF cg I I hb1 oM sL) (lK (eB (u:=.slice rp t.length rc) dx I (za5 (za3 hrs (hle1.trans hle2))) hgr I) (lA I (aT I (sQ (sW I (lU (eN am I) (lM I (tZ (bK ?_))))))))))))));refine oP (ι:=Nat) (fun j=>[(1,.slice q rs.length c),(2,pp b2 0),(8,pp b37 0),(11,vi k),(12,.slice rp t.length rc),(65,.slice q rs.length c),(66,vi rs.length),(67,vi k),(72,.slice rp t.length rc),(73,vi t.length),(74,vi j)]) (fun _=>g2) (fun _=>rowA encInt 3 (.slice (some ⟨bi,0,none⟩) L.length L.length) (L.map fun c=>((tlB L 0 (T.take k) c.id:Nat):Int))::pt b37 (.cells #[.slice up L.length uc,.map (some b33),.slice (some ⟨bi,0,none⟩) L.length L.length,vi rs.length] 75 (0,0))::mp b33 (atP L)::pt b2 (.cells #[.slice vp l.length vc] 30 (0,0))::s) (fun j=>j≤t.length∧((t.take j).any fun id=>(aO L id).isNone)=false) (fun j=>t.length - j) 0 sB I I ⟨ze9 _,by simp⟩ ?_;rintro j ⟨hj,hjno⟩;refine rZ (yL I (tZ (sQ ?_)));refine iP I (fun hlt3=>?_) (fun hlt3=>?_)
     ·have hjt:j<t.length:=oM;have hb2:=za4 hxs oM;have hgj:t[((j:Nat):Int).toNat]?=some t[j]:=gE hjt;have hst:t.take (j+1)=t.take j++[t[j]]:=tS hjt;have hjm:t[j]∈t:=gM hjt;generalize t[j]=id at *
      rcases r9 hRt id with ⟨h1,h2⟩ | ⟨cx,h1,h2,h3,h4⟩
      ·refine kP (tN (sQ (bK (rZ (lU (iA am zT3 I I hb2 oM sL) (lK (eB iT3 I (za5 hxs) hgj I) (aT I (sW I (lU (nC I) (lU (fA ng I sizeOf73 I) (lK (qL (v:=.map (some b33)) isAgg73 I (cO 1 I I)) (lM I (lK (SQ.eq (v':=.tuple #[vi 0,vb false]) (SQ.lookupOk mty73 I I (cX.own 2 I)) (by rw[h1]; rfl)) ?_)))))))))))));refine lM I (yX I (yX I (lA I (aT I (sW I (lU (SU.not I) (tZ (cT I (rZ (lA I (aT I (rE (bR (tR (tR (bR (tR (bR (tR (tR (bR ?_)))))))))))))))))))));refine tR ?_;have he:er l T=30:=by
        unfold er;rw[zf3 hbad,zf3 oM,zf4];rw[hLt];refine zi8.2 ⟨t,List.mem_of_mem_take (i:=k+1) (by rw[htk]; simp),zi8.2 ⟨id,hjm,by rw[h2]; rfl⟩⟩
       refine dR (s':=s) uR ?_;exact ST.ret2 (.inl I) results30 I I ⟨I,hle1.trans hle2,_,by rw[he],fun h=>by rw[he] at h; cases h⟩
      ·refine kP (tN (sQ (bK (rZ (lU (iA am zT3 I I hb2 oM sL) (lK (eB iT3 I (za5 hxs) hgj I) (aT I (sW I (lU (nC I) (lU (fA ng I sizeOf73 I) (lK (qL (v:=.map (some b33)) isAgg73 I (cO 1 I I)) (lM I (lK (SQ.eq (v':=.tuple #[vi (ixB L cx.id:Nat),vb true]) (SQ.lookupOk mty73 I I (cX.own 2 I)) (by rw[h4]; rfl)) ?_)))))))))))));refine lM I (yX I (yX I (lA I (aT I (sW I (lU (SU.not I) (tZ (cF I (kP (bN (tN (rG (yD I (lM I (nL ?_)))))))))))))));exact gA (j+1) sB I I ⟨oM,by rw[hst,List.any_append,hjno]; simp[h1]⟩ oM
     ·have hjj:j=t.length:=oM;subst hjj;rw[List.take_length] at hjno;refine xI (tX (tX (bX (tN (rZ (lK (qV 3 bZ aH I I I) (lM I (lW (cL call63 I (vP E hE g2 _ _ _ l t (hv.mono (hle1.trans hle2)) hf hxs hTk hw)) ?_))))))));rintro v92 g3 _ ⟨rfl,hle3,hcl⟩;obtain ⟨cp,cc,rfl⟩:=za2 hcl;refine lU (eN am I) (lM I (tZ (bK ?_)));have hcll:=pS l t;rw[hLt] at hcll;have hcn:(eV l t).Nodup:=by
       rw[hcll];have h1:(L.map Cl.id).Nodup:=by
        rw[List.Nodup,zj3];exact hRt.asc.imp fun h=>by omega
       exact (List.filter_sublist.map _).nodup h1
      have hcm:∀ id∈eV l t,∃ cx,cx∈L∧cx.id=id:=fun id h=>by
       rw[hcll] at h;obtain ⟨cx,h1,rfl⟩:=ze5.1 h;exact⟨cx,(zg7.1 h1).1,I⟩
      have hcb:∀ cx∈L,(eV l t).contains cx.id=(ef L t).contains cx.id:=fun cx h=>by
       rw[Bool.eq_iff_iff,hcll,List.contains_iff_mem,ze5];constructor
       ·rintro ⟨d,h1,h2⟩;rw[← h2];exact (zg7.1 h1).2
       ·intro h1;exact⟨cx,zg7.2 ⟨h,h1⟩,I⟩
      have hcle:(eV l t).length≤L.length:=by
       rw[hcll,zd9];exact zc1 _ _
      generalize eV l t=cl at *;refine oP (ι:=Nat) (fun j=>[(1,.slice q rs.length c),(2,pp b2 0),(8,pp b37 0),(11,vi k),(65,.slice q rs.length c),(66,vi rs.length),(67,vi k),(92,.slice cp cl.length cc),(93,vi cl.length),(94,vi j)]) (fun _=>g3) (fun j=>rowA encInt 3 (.slice (some ⟨bi,0,none⟩) L.length L.length) (L.map fun c=>((uO L (T.take k) (cl.take j) c:Nat):Int))::pt b37 (.cells #[.slice up L.length uc,.map (some b33),.slice (some ⟨bi,0,none⟩) L.length L.length,vi rs.length] 75 (0,0))::mp b33 (atP L)::pt b2 (.cells #[.slice vp l.length vc] 30 (0,0))::s) (fun j=>j≤cl.length) (fun j=>cl.length - j) 0 sB I (by rw[List.take_zero]; rfl) (ze9 _) ?_;rintro j hj;refine rZ (yL I (tZ (sQ ?_)));refine iP I (fun hlt4=>?_) (fun hlt4=>?_)
      ·have hjc:j<cl.length:=oM;have hb3:=za4 hcl oM;have hgj:cl[((j:Nat):Int).toNat]?=some cl[j]:=gE hjc;have hst:cl.take (j+1)=cl.take j++[cl[j]]:=tS hjc;have hnew:cl[j] ∉ cl.take j:=fun h=>by
        obtain ⟨i,hi,e⟩:=List.mem_iff_getElem.1 h;rw[zd7] at hi;rw[List.getElem_take] at e;exact absurd e (zc5.1 hcn i j oM hjc oM)
       obtain ⟨cx,hcx,hcid⟩:=hcm _ (gM hjc);generalize cl[j]=id at *;subst hcid;have hix:=hRt.ix_get hcx
       rcases r9 hRt cx.id with ⟨h1,h2⟩ | ⟨cy,h1,h2,h3,h4⟩
       ·rw[hRt.find hcx] at h2; cases h2
       rw[hRt.find hcx] at h1;cases h1;have hixl:=(ze8.1 hix).1;have hmid:uO L (T.take k) (cl.take j) cx=tlB L 0 (T.take k) cx.id:=by
        unfold uO;rw[zf3 (by rw[List.contains_iff_mem]; exact hnew),Nat.add_zero]
       have hge:(L.map fun c=>((uO L (T.take k) (cl.take j) c:Nat):Int))[ixB L cx.id]?=some ((tlB L 0 (T.take k) cx.id:Nat):Int):=by
        rw[zh3,hix,← hmid];rfl
       have htl:(T.take k).length=k:=by rw[zd7]; omega
       have hlt5:=oz L cx.id (T.take k);rw[htl] at hlt5;have h64:tlB L 0 (T.take k) cx.id<64:=Nat.lt_of_lt_of_le hlt5 (Nat.pow_le_pow_right dC (show k≤6 by omega));have hset:=vE hRt (fun c=>((uO L (T.take k) (cl.take j) c:Nat):Int)) hix ((tlB L 0 (T.take k) cx.id+2 ^ k:Nat):Int);have hset2:(L.map fun d=>if d.id=cx.id then ((tlB L 0 (T.take k) cx.id+2 ^ k:Nat):Int) else ((uO L (T.take k) (cl.take j) d:Nat):Int))=L.map fun c=>((uO L (T.take k) (cl.take (j+1)) c:Nat):Int):=zc4 fun d _=>by
        unfold uO;rw[hst,htl];by_cases e:d.id=cx.id
        ·rw[zf4 e,e,zf4 (by simp)]
        ·rw[zf3 e];congr 2;have:(cl.take j++[cx.id]).contains d.id=(cl.take j).contains d.id:=by
          rw[Bool.eq_iff_iff,List.contains_iff_mem,List.contains_iff_mem,ze6];simp[e]
         rw[this]
       rw[hset2] at hset;refine kP (tN (sQ (bK (rZ (lU (iA am zT3 I I hb3 oM sL) (lK (eB iT3 I (za5 hcl) hgj I) (aT I ?_)))))));refine dW [16] [(0,2),(1,2),(2,2),(3,1),(4,2),(5,2),(6,2),(7,1),(8,2),(9,1),(10,2),(11,1),(12,2),(13,2),(14,2),(15,2),(16,0)] zd6 kR ?_;refine yM I (pU I (nC I) (pU I (fA ng I cg I) (pK I (qL (v:=.slice (some ⟨bi,0,none⟩) L.length L.length) dx I (cO 1 I I)) (yM I (pU I (nC I) (pU I (fA ng I sizeOf73 I) (pK I (qL (v:=.map (some b33)) isAgg73 I (cO 1 I I)) (yM I (pK I (SQ.eq (v':=vi (ixB L cx.id:Nat)) (SQ.lookup mty73 I I (cX.own 2 I)) (by rw[h4]; rfl)) ?_)))))))));refine pU I (SU.eq (v':=.pointer (some ⟨bi,0+ixB L cx.id * 1,none⟩)) (iA am zT3 I I I oM sL) I) (pK I (eB (j:=ixB L cx.id) iT3 I (zb5 0 I) hge I) (yM I (pU I (SU.eq (v':=vi (2 ^ k:Nat)) (SU.shl I I oM) (zd5 vi (wN k oM))) (pU I (SU.eq (v':=vi (tlB L 0 (T.take k) cx.id+2 ^ k:Nat)) (SU.or I I) (zd5 vi (CE k oM _ h64 hlt5))) (pU I (SU.eq (v':=.pointer (some ⟨bi,0+ixB L cx.id * 1,none⟩)) (iA am zT3 I I I oM sL) I) (SP.on I (sT (e:=encInt) (a:=((tlB L 0 (T.take k) cx.id+2 ^ k:Nat):Int)) (j:=ixB L cx.id) 0 zT3 I I I (by rw[zd9]; exact hixl) I) (.inl dC) ?_))))));rintro _ _ _ ⟨rfl,rfl⟩;rw[hset];refine pN (bN (tN (rG (yD I (lM I (nL ?_))))));exact gA (j+1) sB I I oM oM
      ·have hjj:j=cl.length:=oM;subst hjj;refine xI (tX (tX (bX (bN (tN (rG (yD I (lM I (nL ?_)))))))));refine ST.to (g':=g3) (s':=rowA encInt 3 (.slice (some ⟨bi,0,none⟩) L.length L.length) (L.map fun c=>((tlB L 0 (T.take (k+1)) c.id:Nat):Int))::pt b37 (.cells #[.slice up L.length uc,.map (some b33),.slice (some ⟨bi,0,none⟩) L.length L.length,vi rs.length] 75 (0,0))::mp b33 (atP L)::pt b2 (.cells #[.slice vp l.length vc] 30 (0,0))::s) (fun w hw=>by
        have e:(L.map fun c=>((tlB L 0 (T.take (k+1)) c.id:Nat):Int))=L.map fun c=>((uO L (T.take k) (cl.take cl.length) c:Nat):Int):=zc4 fun d hd=>by
         unfold uO;rw[htk,wJ,List.take_length,hcb d hd,Nat.zero_add]
        rw[e];exact hw) ?_
       exact gA (g3,k+1) sB I I ⟨hle2.trans hle3,by dsimp only; omega,by dsimp only; rw[htk,List.any_append,hno]; simp only[List.any_cons,List.any_nil,Bool.or_false,Bool.false_or]; exact hjno⟩ (by dsimp only; omega)
    ·have hkk:k=rs.length:=oM;subst hkk;rw[← hlen,List.take_length] at hno ⊢;refine fS fun g5 hle5 hr5=>?_;refine SC.freeze fun g6 hle6 hb6=>?_;refine SC.freezeMap fun g7 hle7 hm7=>?_;have hle17:Le g1 g7:=hle2.trans (hle5.trans (hle6.trans hle7));have hr7:cd g7 (.slice (some ⟨bi,0,none⟩) L.length L.length) (L.map fun c=>((tlB L 0 T c.id:Nat):Int)):=by
      have h1:cd g5 (.slice (some ⟨bi,0,none⟩) L.length L.length) (L.map fun c=>((tlB L 0 T c.id:Nat):Int)):=hr5;exact za3 h1 (hle6.trans hle7)
     have hany:=yu (L:=L) (T:=T);refine xI (tX (tX (bX (tN (sQ (sW I (lU (nC I) (lU (fA ng I cg I) (lK (qL (v:=.slice (some ⟨bi,0,none⟩) L.length L.length) dx I (cK (hle7 _ _ hb6) I)) (lW (cL call64 I (yv E g7 _ _ _ 0 hr7 (by rw[zd9]; omega))) ?_))))))))));rintro _ _ _ ⟨rfl,rfl,rfl⟩;rw[hany];refine tZ ?_;have he:er l T=if L.any (fun c=>decide (tlB L 0 T c.id=0)) then 45 else 0:=by
      unfold er;rw[zf3 hbad,zf3 oM,hLt,hno,zf3 (by simp)]
     refine iQ I (fun hc=>?_) (fun hc=>?_)
     ·refine rZ (lA I (aT I (rE (tR ?_))));rw[hc,zf4 rfl] at he;refine dR (s':=s) uR ?_;exact ST.ret2 (.inl I) results30 I I ⟨I,hle1.trans hle17,_,by rw[he],fun h=>by rw[he] at h; cases h⟩
     ·refine kP (tN (sW I (lA I (aT I (rE ?_)))));rw[hc,zf3 (by simp)] at he;refine dR (s':=s) uR ?_;exact ST.ret2 (.inl I) results30 I I ⟨I,hle1.trans hle17,_,by rw[he],fun _=>by rw[hLt]; exact⟨b37,b33,_,_,I,hle7 _ _ hb6,ar.mono ⟨us,hus,hallu⟩ hle17,hm7,hr7⟩⟩
end Go.Proofs.YtcfkpajlakidbaaGreat
