/- 11 -/
import Derived.Test.YtcfkpajlakidbaaGreatTo10
import Derived.Test.YtcfkpajlakidbaaGreatTo05
import Derived.Test.YtcfkpajlakidbaaGreatTo09
import Derived.Test.YtcfkpajlakidbaaGreatTo04
set_option linter.unusedSimpArgs false
set_option linter.unusedVariables false
namespace Go.Proofs.YtcfkpajlakidbaaGreat
open _root_.Go.Proofs.Tryz _root_.Go.Proofs.YtcfkpajlakidbaaGreat.Tryz
open Go Go.Sy Go.Pl Go.Proofs
set_option maxRecDepth 100000
set_option maxHeartbeats 1000000
theorem Bk {g:PH}{s:Own}{bm:Nat}{p:Int}{R C o:Nat}{v u:Value}{ov:List Int}(i:Nat)(hi:s[i]?=some (pt bm (.cells (kG p R C v ov) 195 (0,0))))(hu:[vi p,vi R,vi C,v][o]?=some u):ee g s ⟨bm,o,none⟩ u:=ee.own i hi (by
 have ho:o<4:=(ze8.1 hu).1;rw[← hu];unfold kG
 match o,ho with
 | 0,_=>rfl
 | 1,_=>rfl
 | 2,_=>rfl
 | 3,_=>rfl)
theorem rh (E:World)(g:PH)(s:Own)(v:Value)(p:Int)(R C:Nat)(hR:R≤400)(hC:C≤400)(h0:R * C=0)(A:List Int)(hA:A.length=R * C)(hv:FmR g v p R C A) :
  Ctr Tryz.prog E 157 #[v] g s (fun x g' s'=>s=s'∧Le g g'∧∃ (m y:Value),x = .tuple #[.agg #[vi p,vi R,vi C,m],y]∧(∃ q n k,m = .slice q n k)∧bZ g' y []):=by
 obtain ⟨q,c0,rfl,hs⟩:=hv;have hA0:A=[]:=List.length_eq_zero_iff.1 oM;subst hA0;have hRC:R=0∨C=0:=Nat.mul_eq_zero.1 h0;refine za9 (args:=[.agg #[vi p,vi R,vi C,.slice q 0 c0]]) func157 I ntmps157 (bE I) ?_;refine rZ (bW (bO I) fun b1=>?_);refine bW (aL zk5) fun b2=>?_;refine aT I (SC.scope (rZ (lU (fA dh I cg I) (lK (qL (v:=.slice q 0 c0) dG I (cO 1 I I)) (lW (cL call84 I (wc E g _ _ [] hs dC)) ?_)))));rintro v13 _ _ ⟨rfl,rfl⟩;refine zc8 fun hx=>?_;obtain ⟨w0,hw0⟩:=hx;obtain ⟨q1,cE,rfl⟩:=ag hw0 (i:=0) rfl;refine lU (fA dh I cg I) (oZ (SO.store1 2 cg I I I I (by show 3<4; decide) I) ?_);refine tZ (sQ ?_);refine SC.to (g':=g) (s':=pt b2 (.cells #[vi 0,vi 0,vi 0,.slice none 0 0] 147 (0,0))::pt b1 (.cells #[vi p,vi R,vi C,.slice q1 0 cE] 147 (0,0))::s) (fun w hw=>hw.sublist (.cons _ (.refl _))) ?_;refine rG (lK (qV 1 isAgg147 cC I I I) (lU (za1 I (build195 _ _ _ _ _ _)) (bW (bO I) fun b17=>?_)));refine aT I (rZ (aT I (sQ (SC.label (tN (sQ (rZ (lU (fA dh I zT3 I) (lK (qL (v:=vi C) iT3 I (cO 2 I I)) (lM I (tZ (bK ?_))))))))))));refine oP (ι:=Nat) (fun z=>[(1,pp b1 0),(2,pp b2 0),(4,pp b17 0),(5,.slice none 0 0),(19,vi C),(20,vi z)]) (fun _=>g) (fun _=>pt b17 (.cells (kG p R C (.slice q1 0 cE) (List.replicate 998 0)) 195 (0,0))::pt b2 (.cells #[vi 0,vi 0,vi 0,.slice none 0 0] 147 (0,0))::pt b1 (.cells #[vi p,vi R,vi C,.slice q1 0 cE] 147 (0,0))::s) (fun z=>z≤C) (fun z=>C - z) 0 sB I I (ze9 _) ?_;rintro c hc;refine rZ (yL I (tZ (sQ ?_)));refine iP I (fun hlt=>?_) (fun hlt=>?_)
 ·have hR0:R=0:=oM;subst hR0;refine kP (tN (sQ (bK (sW I (aT I (sW I (lU (eN aj I) (aT I (sW I (aT I (bK ?_)))))))))));refine oP (ι:=Nat) (fun i=>[(1,pp b1 0),(2,pp b2 0),(4,pp b17 0),(5,.slice none 0 0),(6,vi c),(7,vi 0),(8,vi 0),(19,vi C),(20,vi c)]) (fun _=>g) (fun _=>pt b17 (.cells (kG p 0 C (.slice q1 0 cE) (List.replicate 998 0)) 195 (0,0))::pt b2 (.cells #[vi 0,vi 0,vi 0,.slice none 0 0] 147 (0,0))::pt b1 (.cells #[vi p,vi (0:Nat),vi C,.slice q1 0 cE] 147 (0,0))::s) (fun _=>True) (fun i=>0) 0 sB I I trivial ?_;rintro i _;refine sQ (sW I (lU (fA dh I zT3 I) (lK (qL (v:=vi (0:Nat)) iT3 I (cO 2 I I)) (yL I (tZ ?_)))));refine iP I (fun hlt2=>?_) (fun hlt2=>?_)
  ·exact absurd hlt2 dC
  ·refine xI (tX (tX (bX (bN (tN (rG (yD I (lM I (nL ?_)))))))));exact gA (c+1) sB I I oM oM
 ·have hcC:c=C:=oM;subst hcC;refine xI (tX (tX (bX (tN (sW I (lU (nC I) (lU (fA j6 I cC I) (lK (SQ.loadAggAt (b:=b17) (o:=0) (vs:=[vi p,vi R,vi c,.slice q1 0 cE]) isAgg147 cC I I (fun j x hj=>by rw[Nat.zero_add]; exact Bk 0 I hj)) ?_))))))));refine lM I (oZ (sK 1 cC I I I I I sB) (aT I (rE (ST.scopeR ?_))));exact ST.retCD1 1 s (.inl I) results157 I I isAgg147 cC I I uR ⟨I,zb7 _,_,_,I,⟨_,_,_,I⟩,zb8 g _⟩
theorem zi {p:Int}(hp:Fld p){R C:Nat}(h:R * C=0)(A:Nat→Nat→Int):rk p A R C=0:=by
 rcases Nat.mul_eq_zero.1 h with rfl | rfl
 ·have:=ly hp A 0 C; omega
 ·have:=wx hp A R 0; omega
theorem re (E:World)(g:PH)(s:Own)(v:Value)(p:Int)(hp:Fp p)(R C:Nat)(hR:R≤400)(hC:C≤400)(A:List Int)(hA:A.length=R * C)(hv:FmR g v p R C A)(hA0:∀ x<R,∀ y<C,0≤atF A C x y∧atF A C x y<p) :
  Ctr Tryz.prog E 157 #[v] g s (fun x g' s'=>s=s'∧Le g g'∧∃ (J:List Nat) (m y:Value),x = .tuple #[.agg #[vi p,vi R,vi C,m],y]∧(∃ q n k,m = .slice q n k)∧bZ g' y (J.map fun j:Nat=>(j:Int))∧J.length=rk p (atF A C) R C∧J.length≤R):=by
 by_cases h0:R * C=0
 ·refine (rh E g s v p R C hR hC h0 A hA hv).mono ?_;rintro x g' s' ⟨h1,h2,m,y,h3,h4,h5⟩;exact⟨h1,h2,[],m,y,h3,h4,h5,(zi hp.fld h0 _).symm,ze9 _⟩
 ·exact rj E g s v p hp R C hR hC (Nat.pos_of_ne_zero h0) A hA hv hA0
theorem BJ {A:List Int}{R C x y:Nat}(hA:A.length=R * C)(hx:x<R)(hy:y<C):atF A C x y∈A:=zf5 (ig hA hx hy)
theorem pB (E:World)(g:PH)(s:Own)(v:Value)(p:Int)(hp:Fp p)(R C:Nat)(hR:R≤400)(hC:C≤400)(A:List Int)(hA:A.length=R * C)(hv:FmR g v p R C A)(hA0:∀ x∈A,0≤x∧x<p) :
  Ctr Tryz.prog E 128 #[v] g s (fun x g' s'=>s=s'∧Le g g'∧∃ (J:List Nat) (m y:Value),x = .tuple #[.agg #[vi p,vi R,vi C,m],y]∧(∃ q n k,m = .slice q n k)∧bZ g' y (J.map fun j:Nat=>(j:Int))∧J.length=rk p (atF A C) R C∧J.length≤R):=by
 have hv0:=hv;obtain ⟨q,c0,rfl,hs⟩:=hv;refine za9 (args:=[.agg #[vi p,vi R,vi C,.slice q A.length c0]]) func128 I ntmps128 (bE I) ?_;refine rZ (bW (bO I) fun b1=>?_);refine bW (aL zk5) fun b2=>?_;refine aT I (sQ (rZ (lK (qV 1 isAgg147 cC I I I) (lW (cL call156 I (sG E g _ _ p hp R C hR hC A hA hv0 hA0)) ?_))));rintro _ _ _ ⟨rfl,rfl,rfl⟩;refine lU (SU.not I) (tZ (cF I (kP (tN (rZ (lK (qV 1 isAgg147 cC I I I) (lW (cL call157 I (re E g _ _ p hp R C hR hC A hA hv0 fun x hx y hy=>hA0 _ (BJ hA hx hy))) ?_)))))));rintro _ g1 _ ⟨rfl,hle1,J,_,y,rfl,⟨mq,mn,mk,rfl⟩,hy1,hJ,hJR⟩;refine yX I (yX I (oZ (sK 0 cC I I I I I sB) (aT I (rE ?_))));exact ST.retCD1 0 s (.inl I) results128 I I isAgg147 cC I I uR ⟨I,hle1,J,_,y,I,⟨mq,mn,mk,I⟩,hy1,hJ,hJR⟩
theorem vn (E:World)(g:PH)(s:Own)(v:Value)(p:Int)(hp:Fp p)(R C:Nat)(hR:R≤400)(hC:C≤400)(A:List Int)(hA:A.length=R * C)(hv:FmR g v p R C A)(hA0:∀ x∈A,0≤x∧x<p) :
  Ctr Tryz.prog E 104 #[v] g s (fun x g' s'=>s=s'∧Le g g'∧x=vi (rk p (atF A C) R C:Nat)):=by
 have hv0:=hv;obtain ⟨q,c0,rfl,hs⟩:=hv;refine za9 (args:=[.agg #[vi p,vi R,vi C,.slice q A.length c0]]) func104 I ntmps104 (bE I) ?_;refine rZ (bW (bO I) fun b1=>?_);refine aT I (rZ (lK (qV 0 isAgg147 cC I I I) (lW (cL call128 I (pB E g _ _ p hp R C hR hC A hA hv0 hA0)) ?_)));rintro _ g1 _ ⟨rfl,hle1,J,_,y,rfl,⟨mq,mn,mk,rfl⟩,hy1,hJ,hJR⟩;obtain ⟨yp,yc,rfl⟩:=za2 hy1;refine lM I (yX I (yX I (bW (aL zk5) fun b3=>?_)));refine oZ (sK 0 cC I I I I I sB) (aT I (sW I (lU (SU.eq (v':=vi (rk p (atF A C) R C:Nat)) (eN aj I) (by rw[zd9,hJ])) ?_)));refine aT I (rE (dR (s':=s) uR ?_));exact za6 (.inl I) results104 I ⟨I,hle1,I⟩
def elM (M:List (List Int))(i j:Nat):Int:=(M.getD i []).getD j 0
theorem wO {M:List (List Int)}{i j:Nat}(hi:i<M.length)(hj:j<M[i].length):elM M i j=M[i][j]:=by
 have h1:M.getD i []=M[i]:=by
  rw[zg4,gE hi];rfl
 unfold elM;rw[h1,zg4,gE hj];rfl
theorem zO (E:World)(g:PH)(s:Own)(v:Value)(p:Int)(hp:Fp p)(M:List (List Int))(C:Nat)(hv:aK g v M)(hR:M.length≤400)(hC:C≤400)(hM:∀ r∈M,r.length=C)(hM0:M=[]→C=0)(hb:∀ r∈M,∀ x∈r,x.natAbs≤1000000) :
  Ctr Tryz.prog E 105 #[vi p,v] g s (fun x g' s'=>s=s'∧Le g g'∧∃ A,FmR g' x p M.length C A∧A.length=M.length * C∧(∀ y∈A,0≤y∧y<p)∧∀ i<M.length,∀ j<C,atF A C i j=elM M i j % p):=by
 obtain ⟨rs,hrs,hall⟩:=hv;have hlen:=hall.length;have hm:=yt (show rs.length≤400 by omega) hC;have hl:=hp.lt;obtain ⟨q,c,rfl⟩:=za2 hrs;have row:∀ i (hi:i<rs.length),∃ (hi':i<M.length) (rp:Option Addr) (rc:Nat),rs[i]?=some ⟨rp,C,rc⟩∧bZ g (.slice rp C rc) M[i]∧M[i].length=C:=fun i hi=>by
  have hi':i<M.length:=oM;have hx:=hM _ (gM hi');have h1:=hall.get (gE hi') (gE hi);have h2:=h1.len;generalize hr:rs[i]=r at *;obtain ⟨rp,rn,rc⟩:=r;dsimp only at h2;have h3:rn=C:=oM;subst h3;exact⟨hi',rp,rc,by rw[← hr]; exact gE hi,h1,hx⟩
 refine za9 (args:=[vi p,.slice q rs.length c]) func105 I ntmps105 (bE I) ?_;refine rZ (bW (aL zk5) fun b4=>?_);refine tZ (rZ (aT I (sQ (sW I (lU (eN bL I) (lM I (tZ (bK ?_))))))));refine oP (ι:=Nat) (fun k=>[(0,vi p),(1,.slice q rs.length c),(4,pp b4 0),(5,vi (if k=0 then 0 else C:Nat)),(13,.slice q rs.length c),(14,vi rs.length),(15,vi k)]) (fun _=>g) (fun _=>pt b4 (.cells #[vi 0,vi 0,vi 0,.slice none 0 0] 147 (0,0))::s) (fun k=>k≤rs.length) (fun k=>rs.length - k) 0 sB I I (ze9 _) ?_;rintro k hk;refine rZ (yL I (tZ (sQ ?_)));refine iP I (fun hlt=>?_) (fun hlt=>?_)
 ·have hkl:k<rs.length:=oM;obtain ⟨hi',rp,rc,hgr,hxs,hxl⟩:=row k hkl;have hb1:=za4 hrs oM;refine kP (tN (sQ (bK (rZ (lU (iA bL cg I I hb1 oM sL) (lK (eB (u:=.slice rp C rc) dG I (za5 hrs) hgr I) (aT I (rG (lM I (lM I (lU (eN aj I) (lU (SU.eq (v':=vi (C:Nat)) (SU.maxF I I) (zd5 vi (by split <;> omega))) ?_))))))))))));refine lA I (nL (bN (tN (rG (yD I (lM I (nL ?_)))))));exact gA (k+1) ⟨I,I,I,by rw[zf3 (Nat.succ_ne_zero k)]; rfl,rfl,rfl,rfl,trivial⟩ rfl rfl oM oM
 ·have hkk:k=rs.length:=oM;subst hkk;have hC1:(if rs.length=0 then 0 else C)=C:=by
   split
   ·rename_i e;exact (hM0 (List.length_eq_zero_iff.1 oM)).symm
   ·rfl
  rw[hC1];refine xI (tX (tX (bX (tN (sW I (lM I (lU (eN bL I) (lM I (lW (cL call129 I (xU E g _ p hp rs.length C oM hC)) ?_)))))))));rintro _ _ _ ⟨rfl,bz,rfl,rfl⟩;refine bW (aL zk5) fun b8=>?_;refine oZ (sK 0 cC I I I I I sB) (tZ (sQ (sQ ?_)));refine SC.to (g':=g) (s':=pt b8 (.cells #[vi p,vi rs.length,vi C,.slice (some ⟨bz,0,none⟩) (rs.length * C) (rs.length * C)] 147 (0,0))::rowA encInt 3 (.slice (some ⟨bz,0,none⟩) (rs.length * C) (rs.length * C)) (List.replicate (rs.length * C) 0)::pt b4 (.cells #[vi 0,vi 0,vi 0,.slice none 0 0] 147 (0,0))::s) (fun w hw=>hw) ?_;refine rG (lU (fA dh I cg I) (lK (qL (v:=.slice (some ⟨bz,0,none⟩) (rs.length * C) (rs.length * C)) dG I (cO 0 I I)) (lU (eN aj I) (yE I (tZ ?_)))));refine iP I (fun he=>?_) (fun he=>?_)
  ·refine rZ (lK (qV 0 isAgg147 cC I I I) (oZ (sK 2 cC I I I I I sB) (tZ (rE (tR ?_)))));have hz:rs.length * C=0:=oM;refine ST.perm (zj1 _ _ _) (fT fun g5 hle5 hs5=>?_);exact ST.retCD 1 s (.inl I) results105 I isAgg147 cC I I uR ⟨I,hle5,List.replicate (rs.length * C) 0,⟨some ⟨bz,0,none⟩,rs.length * C,by rw[List.length_replicate,hlen]; rfl,by rw[List.length_replicate]; exact hs5⟩,by rw[List.length_replicate,hlen],fun y hy=>by rw[hz] at hy; simp at hy,fun i hi j hj=>by
    have:=ie hi hj;rw[hlen] at this;omega⟩
  ·have hpos:0<rs.length * C:=oM;refine kP (tN (sQ (sW I (lU (eN bL I) (lM I (tZ (bK ?_)))))));refine oP (ι:=Nat×List Int) (fun z=>[(0,vi p),(1,.slice q rs.length c),(4,pp b4 0),(5,vi C),(8,pp b8 0),(34,.slice q rs.length c),(35,vi rs.length),(36,vi z.1)]) (fun _=>g) (fun z=>pt b8 (.cells #[vi p,vi rs.length,vi C,.slice (some ⟨bz,0,none⟩) (rs.length * C) (rs.length * C)] 147 (0,0))::rowA encInt 3 (.slice (some ⟨bz,0,none⟩) (rs.length * C) (rs.length * C)) z.2::pt b4 (.cells #[vi 0,vi 0,vi 0,.slice none 0 0] 147 (0,0))::s) (fun z=>z.1≤rs.length∧z.2.length=rs.length * C∧(∀ y∈z.2,0≤y∧y<p)∧∀ x<z.1,∀ y<C,atF z.2 C x y=elM M x y % p) (fun z=>rs.length - z.1) (0,List.replicate (rs.length * C) 0) sB I I ⟨ze9 _,List.length_replicate,fun y hy=>by rw[List.eq_of_mem_replicate hy]; omega,fun x hx=>by omega⟩ ?_;rintro ⟨i,L⟩ ⟨hi,hL,hLp,hz⟩;dsimp only at hi hL hLp hz ⊢;refine rZ (yL I (tZ (sQ ?_)));refine iP I (fun hlt2=>?_) (fun hlt2=>?_)
   ·have hil:i<rs.length:=oM;obtain ⟨hi',rp,rc,hgr,hxs,hxl⟩:=row i hil;have hb1:=za4 hrs oM;have hin1:=jm (C:=C) hil;have hin2:(i+1) * C=i * C+C:=by rw[Nat.add_mul,Nat.one_mul]
    refine kP (tN (sQ (bK (sW I (lU (iA bL cg I I hb1 oM sL) (lK (eB (u:=.slice rp C rc) dG I (za5 hrs) hgr I) (lA I (aT I (sW I (lU (eN aj I) (lM I (tZ (bK ?_)))))))))))));refine oP (ι:=Nat×List Int) (fun z=>[(0,vi p),(1,.slice q rs.length c),(4,pp b4 0),(5,vi C),(8,pp b8 0),(9,vi i),(34,.slice q rs.length c),(35,vi rs.length),(36,vi i),(41,.slice rp C rc),(42,vi C),(43,vi z.1)]) (fun _=>g) (fun z=>pt b8 (.cells #[vi p,vi rs.length,vi C,.slice (some ⟨bz,0,none⟩) (rs.length * C) (rs.length * C)] 147 (0,0))::rowA encInt 3 (.slice (some ⟨bz,0,none⟩) (rs.length * C) (rs.length * C)) z.2::pt b4 (.cells #[vi 0,vi 0,vi 0,.slice none 0 0] 147 (0,0))::s) (fun z=>z.1≤C∧z.2.length=rs.length * C∧(∀ y∈z.2,0≤y∧y<p)∧(∀ x<i,∀ y<C,atF z.2 C x y=elM M x y % p)∧∀ y<z.1,atF z.2 C i y=elM M i y % p) (fun z=>C - z.1) (0,L) sB I I ⟨ze9 _,hL,hLp,hz,fun y hy=>by omega⟩ ?_;rintro ⟨j,K⟩ ⟨hj,hK,hKp,hz1,hz2⟩;dsimp only at hj hK hKp hz1 hz2 ⊢;refine rZ (yL I (tZ (sQ ?_)));refine iP I (fun hlt3=>?_) (fun hlt3=>?_)
    ·have hjC:j<C:=oM;have hij:=ie hil hjC;have hb2:=za4 hxs oM;have hjx:j<M[i].length:=oM;have hgk:M[i][((j:Nat):Int).toNat]?=some M[i][j]:=gE hjx;have hel:=wO hi' hjx;have hbx:=hb _ (gM hi') _ (gM hjx);rw[← hel] at hgk hbx;generalize hn:elM M i j=n at *;have hmo:=lG (a:=n) hl.1;have ht:n.tmod p=n % p∨n.tmod p=n % p - p:=by
      rcases Int.le_total 0 n with h | h
      ·left; exact Int.tmod_eq_emod_of_nonneg h
      ·rw[Int.tmod_eq_emod];split
       ·left; omega
       ·right; omega
     have hmm:(n.tmod p+p).tmod p=n % p:=by
      rw[Int.tmod_eq_emod_of_nonneg oM]
      rcases ht with h | h <;> rw[h]
      ·rw[Int.add_emod_right,Int.emod_emod]
      ·rw[Int.sub_add_cancel,Int.emod_emod]
     refine kP (tN (sQ (bK (sW I (lU (iA aj zT3 I I hb2 oM sL) (lK (eB iT3 I (za5 hxs) hgk I) (lA I (aT I ?_))))))));refine dW [15] [(0,2),(1,1),(2,2),(3,2),(4,2),(5,2),(6,2),(7,2),(8,2),(9,2),(10,2),(11,2),(12,2),(13,2),(14,2),(15,0)] zd6 kR ?_;refine pU I (fA dh I cg I) (pK I (qL (v:=.slice (some ⟨bz,0,none⟩) (rs.length * C) (rs.length * C)) dG I (cO 0 I I)) (yM I (yM I (pU I (SU.eq (v':=vi ((i * C:Nat))) (SU.mulW I I) (zd5 vi (by rw[← Int.natCast_mul]; exact zk1 _ oM))) ?_))));refine yM I (pU I (SU.eq (v':=vi ((i * C+j:Nat))) (aD I I oM) (zd5 vi oM)) (yM I (yM I (pU I (zd2 I I oM) (yM I (pU I (aD I I oM) (yM I (pU I (SU.eq (v':=vi (n % p)) (zd2 I I oM) (zd5 vi hmm)) (pU I (SU.eq (v':=.pointer (some ⟨bz,0+(i * C+j) * 1,none⟩)) (iA aj zT3 I I I oM sL) (ed (by simp only[Int.toNat_natCast]))) ?_)))))))));refine SP.on I (sT (e:=encInt) (a:=n % p) (j:=i * C+j) 1 zT3 I I I (by rw[hK]; exact ie hil hjC) I) (.inl dC) ?_;rintro _ _ _ ⟨rfl,rfl⟩;refine pN (bN (tN (rG (yD I (lM I (nL ?_))))));exact gA (j+1,K.set (i * C+j) (n % p)) sB I I ⟨by dsimp only; omega,by dsimp only; rw[zh6,hK],fun y hy=>by
      rcases List.mem_or_eq_of_mem_set hy with h | h
      ·exact hKp y h
      ·rw[h]; exact hmo,fun x hx y hy=>by
      dsimp only;rw[lH hK hil hjC hy,zf3 (fun e=>by omega),hz1 x hx y hy],fun y hy=>by
      dsimp only at hy ⊢;have hyC:y<C:=oM;rw[lH hK hil hjC hyC];by_cases e:j=y
      ·subst e;rw[zf4 ⟨rfl,rfl⟩];rw[hn]
      ·rw[zf3 (fun k=>e k.2),hz2 y oM]⟩ (by dsimp only; omega)
    ·have hjC:j=C:=oM;subst hjC;refine xI (tX (tX (bX (bN (tN (rG (yD I (lM I (nL ?_)))))))));exact gA (i+1,K) sB I I ⟨by dsimp only; omega,hK,hKp,fun x hx y hy=>by
      dsimp only at hx;by_cases e:x=i
      ·rw[e]; exact hz2 y hy
      ·exact hz1 x oM y hy⟩ (by dsimp only; omega)
   ·have hii:i=rs.length:=oM;subst hii;refine xI (tX (tX (bX (tN (rZ (lK (qV 0 isAgg147 cC I I I) (oZ (sK 2 cC I I I I I sB) (tZ (rE (ST.perm (zj1 _ _ _) (fT fun g5 hle5 hs5=>?_)))))))))));exact ST.retCD 1 s (.inl I) results105 I isAgg147 cC I I uR ⟨I,hle5,L,⟨some ⟨bz,0,none⟩,rs.length * C,by rw[hL,hlen]; rfl,by rw[hL]; exact hs5⟩,by rw[hL,hlen],hLp,fun x hx y hy=>hz x oM y hy⟩
def tlB (L:List Cl):Nat→List (List Int)→Int→Nat
 | _,[],_=>0
 | k,t::T,id=>(if (cY L t).contains id then 2 ^ k else 0)+tlB L (k+1) T id
theorem wl (L:List Cl)(t:List Int)(id:Int):∀ (T:List (List Int)) (k:Nat),tlB L k (T++[t]) id=tlB L k T id+if (cY L t).contains id then 2 ^ (k+T.length) else 0
 | [],k=>by simp[tlB]
 | u::T,k=>by
  rw[List.cons_append];unfold tlB;rw[wl L t id T (k+1),ze2,Nat.add_assoc,Nat.add_comm 1,Nat.add_assoc]
theorem An (L:List Cl)(id:Int):∀ (T:List (List Int)) (k:Nat),tlB L k T id+2 ^ k≤2 ^ (k+T.length)
 | [],k=>by simp[tlB]
 | u::T,k=>by
  have h:=An L id T (k+1);have h2:2 ^ (k+1)=2 * 2 ^ k:=by rw[Nat.pow_succ,Nat.mul_comm]
  rw[ze2,show k+(T.length+1)=k+1+T.length by omega];unfold tlB;split <;> omega
theorem ia (L:List Cl)(id:Int)(T:List (List Int)):tlB L 0 T id<2 ^ T.length:=by
 have:=An L id T 0;rw[Nat.zero_add] at this;omega
def dI (l:List Cl)(T:List (List Int)):Int:=if (aY l).2≠0 then (aY l).2 else if (T.length:Int)>6 then 2 else if T.any (fun t=>t.any fun id=>(aO (ae l) id).isNone) then 30 else if (ae l).any (fun c=>decide (tlB (ae l) 0 T c.id=0)) then 45 else 0
def bH (b:Nat):List Nat:=(List.range (b+1)).filter fun s=>decide (0<s)&&decide (s &&& b=s)
def eG (s:Nat):List Nat:=(List.range 6).filter fun k=>s.testBit k
def onesB (s:Nat):Nat:=(eG s).length
def sgP (m:Int):Int:=1 - 2 * (m % 2)
def bId (n i s:Nat):Int:=((i * 2 ^ n+s:Nat):Int)
def ixB (L:List Cl)(id:Int):Nat:=lbI (L.map Cl.id) id
def ki (L:List Cl)(n i:Nat)(y:Cl)(s:Nat):List ah:=(y.sides.map fun x=>⟨bId n (ixB L x.cell) s,x.sign⟩)++if onesB s≤1 then [] else (eG s).zipIdx.map fun q=>⟨bId n i (s - 2 ^ q.1),sgP (q.2+y.dim)⟩
def bq (L:List Cl)(n i:Nat)(y:Cl)(s:Nat):Cl:=⟨bId n i s,y.dim+onesB s - 1,ki L n i y s⟩
def ke (L:List Cl)(T:List (List Int)):List Cl:=L.zipIdx.flatMap fun q=>(bH (tlB L 0 T q.1.id)).map (bq L T.length q.2 q.1)
def ct (L:List Cl)(T:List (List Int)):List Cl:=aa (ke L T)
def ii (n:Nat)(id:Int):Int:=onesB (id.toNat % 2 ^ n) - 1
def dB (l:List Cl)(T:List (List Int)):List Cl:=if dI l T≠0∨(aY (ct (ae l) T)).2≠0 then [] else ct (ae l) T
def gr (c r:Cl):Int:=(c.sides.map fun q=>if q.cell=r.id then q.sign else 0).sum
section
variable (rf:List Cl→List Cl→Nat)(n:Nat)(B:List Cl)
def gF (a dim:Int):List Cl:=B.filter fun c=>decide (c.dim=dim)&&decide (ii n c.id≤a)
def kQ (low dim:Int):List Cl:=B.filter fun c=>decide (c.dim=dim)&&decide (ii n c.id>low)
def eF (a low dim:Int):Int:=(gF n B a dim).length - (rf (gF n B a dim) (kQ n B low (dim - 1)):Int)
def ph (a low dim:Int):Int:=eF rf n B (min (max a (-1)) ((n:Int) - 1)) (max low (-1)) dim
def uu (r a b:Int):Int:=ph rf n B a (a - r) (a+b) - ph rf n B (a - 1) (a - r) (a+b) - ph rf n B (a+r - 1) a (a+b+1)+ph rf n B (a+r - 1) (a - 1) (a+b+1)
def vL (D:Nat)(r:Int):List (List Int):=(List.range n).map fun a:Nat=>(List.range D).map fun b:Nat=>uu rf n B r a b
def nf {α:Type}[DecidableEq α]:List α→List α
 | a::b::l=>if a=b then nf (b::l) else a::b::l
 | l=>l
def i9 {α:Type}[DecidableEq α](l:List α):List α:=(nf l.reverse).reverse
def gf (D:Nat):List (List (List Int)):=(List.range n).map fun r:Nat=>vL rf n B D ((r:Int)+1)
end
noncomputable def rkP (p:Int) (C R:List Cl):Nat:=rkL p C R gr
def nh (B:List Cl):Bool:=B.any fun c=>decide ((B.filter fun x=>decide (x.dim=c.dim)).length>200)
def cD (l:List Cl)(T:List (List Int))(p:Int):Int:=if fv p=false then 46 else if dI l T≠0 then dI l T else if (aY (ct (ae l) T)).2≠0∨nh (ct (ae l) T)=true then 2 else 0
def dimN (l:List Cl):Nat:=(rA (ae l) (-1)+1).toNat
noncomputable def cj (l:List Cl) (T:List (List Int)) (p:Int):List (List (List Int)):=if cD l T p≠0 then [] else i9 (gf (rkP p) T.length (ct (ae l) T) (dimN l))
def fg (D:Nat)(P:List (List Int)):List Int:=(List.range D).map fun d:Nat=>((P.zipIdx.map fun q=>if q.2≤d then q.1.getD (d - q.2) 0 else 0)).sum
noncomputable def iT (l:List Cl) (T:List (List Int)) (p:Int):List Int:=if (cj l T p).length=0 then [] else fg (dimN l) ((cj l T p).getLastD [])
theorem Rt.ix {L:List Cl}(h:Rt L){i:Nat}{c:Cl}(hi:L[i]?=some c):ixB L c.id=i:=by
 have hc:c∈L:=zf5 hi;have h2:(L.map Cl.id).Pairwise (· < ·):=by rw[zj4]; exact h.asc
 rcases oz (tl:=L) (h2.imp fun h=>by omega) c.id with ⟨h1,_⟩ | ⟨d,k,h1,h3,h4⟩
 ·rw[h.find hc] at h1;cases h1
 ·rw[h.find hc] at h1;cases h1;have h5:(L.map Cl.id).contains c.id=true:=by simp; exact⟨c,hc,I⟩
  unfold atC at h3;rw[zf4 h5] at h3;have h6:ixB L c.id=k:=by unfold ixB; omega
  rw[h6];have hi':=ze8.1 hi;have hk':=ze8.1 h4;obtain ⟨a1,a2⟩:=hi';obtain ⟨b1,b2⟩:=hk'
  rcases Nat.lt_trichotomy i k with h | h' | h
  ·have:=zc5.1 (Rt.asc ‹Rt L›) i k a1 b1 h;rw[a2,b2] at this;omega
  ·exact h'.symm
  ·have:=zc5.1 (Rt.asc ‹Rt L›) k i b1 a1 h;rw[a2,b2] at this;omega
theorem Rt.ix_get {L:List Cl}(h:Rt L){c:Cl}(hc:c∈L):L[ixB L c.id]?=some c:=by
 obtain ⟨i,hi,e⟩:=List.mem_iff_getElem.1 hc;have h1:L[i]?=some c:=by rw[gE hi,e]
 rw[h.ix h1];exact h1
theorem Rt.ix_inj {L:List Cl}(h:Rt L){c d:Cl}(hc:c∈L)(hd:d∈L)(e:ixB L c.id=ixB L d.id):c=d:=by
 have h1:=h.ix_get hc;rw[e,h.ix_get hd] at h1;injection h1 with h1
 exact h1.symm
theorem co {b s:Nat}:s∈bH b↔0<s∧s &&& b=s:=by
 unfold bH;rw[zg7,List.mem_range];simp only[zi5,zi6];constructor
 ·exact fun h=>h.2
 ·intro h;refine⟨?_,h⟩;have:s &&& b≤b:=Nat.and_le_right;omega
theorem lV {a b c:Nat}(h:a &&& b=a)(k:b &&& c=b):a &&& c=a:=by
 rw[← h,Nat.and_assoc,k]
theorem sub_le {a b:Nat}(h:a &&& b=a):a≤b:=by
 have:a &&& b≤b:=Nat.and_le_right;omega
theorem ew {n i s i' s':Nat}(h1:s<2 ^ n)(h2:s'<2 ^ n)(h:bId n i s=bId n i' s'):i=i'∧s=s':=zq h1 h2 (by unfold bId at h; omega)
def cu (s:Nat):List (Nat×Nat):=if onesB s≤1 then [] else (eG s).zipIdx
def hB (s t:Nat):Nat:=((cu s).filter fun q=>decide (s - 2 ^ q.1=t)).length
def iB (s t:Nat)(d:Int):Int:=((cu s).map fun q=>if s - 2 ^ q.1=t then sgP (q.2+d) else 0).sum
theorem o9:∀ s,s<16→∀ q∈cu s,0<s - 2 ^ q.1∧(s - 2 ^ q.1) &&& s=s - 2 ^ q.1∧onesB (s - 2 ^ q.1)+1=onesB s∧0<hB s (s - 2 ^ q.1):=by decide +kernel
theorem vB:∀ s,s<16→((cu s).map fun q=>s - 2 ^ q.1).Nodup:=by decide +kernel
theorem zX:∀ s,s<16→∀ t,t<16→((cu s).map fun q=>sgP q.2 * iB (s - 2 ^ q.1) t 0).sum=0:=by decide +kernel
theorem zZ:∀ s,s<16→∀ t,t<16→hB s t≤1∧hB s s=0∧(((cu s).map fun q=>hB (s - 2 ^ q.1) t).sum=0∨((cu s).map fun q=>hB (s - 2 ^ q.1) t).sum=2)∧((cu s).map fun q=>hB (s - 2 ^ q.1) s).sum=0:=by decide +kernel
theorem yi:∀ s,s<16→3≤onesB s→∀ q∈cu s,∀ r∈cu s,q=r∨(0<s - 2 ^ q.1 - 2 ^ r.1∧(s - 2 ^ q.1 - 2 ^ r.1) &&& s=s - 2 ^ q.1 - 2 ^ r.1∧0<hB (s - 2 ^ q.1) (s - 2 ^ q.1 - 2 ^ r.1)∧0<hB (s - 2 ^ r.1) (s - 2 ^ q.1 - 2 ^ r.1)):=by decide +kernel
theorem zY:∀ s,s<16→0<s→0<onesB s∧onesB s≤4∧(cu s).length=if onesB s≤1 then 0 else onesB s:=by decide +kernel
theorem zW:∀ s,s<16→onesB s=2→((cu s).map fun q=>sgP (q.2+0)).sum=0:=by decide +kernel
theorem wt (a b:Int):sgP (a+b)=sgP a * sgP b:=by
 unfold sgP;have h1:a % 2=0∨a % 2=1:=oM;have h2:b % 2=0∨b % 2=1:=oM
 rcases h1 with h1 | h1 <;> rcases h2 with h2 | h2 <;> rw[h1,h2]
 ·rw[show (a+b) % 2=0 by omega]; rfl
 ·rw[show (a+b) % 2=1 by omega]; rfl
 ·rw[show (a+b) % 2=1 by omega]; rfl
 ·rw[show (a+b) % 2=0 by omega]; rfl
theorem ws (a:Int):sgP a=1∨sgP a = -1:=by
 unfold sgP;omega
theorem y8 (a:Int):sgP (a - 1) = -sgP a:=by
 unfold sgP;omega
theorem pH (s t:Nat)(d:Int):iB s t d=sgP d * iB s t 0:=by
 unfold iB;refine cm fun q _=>?_;split
 ·rw[wt,Int.add_zero,Int.mul_comm]
 ·rw[Int.mul_zero]
theorem Bv (s t:Nat)(d:Int):iB s t (d - 1)+iB s t d=0:=by
 rw[pH s t (d - 1),pH s t d,y8,Int.neg_mul];omega
def cS (d e:Cl):Nat:=(d.sides.filter fun q=>decide (q.cell=e.id)).length
def aM (L:List Cl)(f:Int→Nat)(n:Nat):List Cl:=L.zipIdx.flatMap fun q=>(bH (f q.1.id)).map (bq L n q.2 q.1)
theorem rM (L:List Cl)(T:List (List Int)):ke L T=aM L (tlB L 0 T) T.length:=rfl
theorem fe (L:List Cl)(n i:Nat)(y:Cl)(s:Nat):ki L n i y s=(y.sides.map fun x=>⟨bId n (ixB L x.cell) s,x.sign⟩)++(cu s).map fun q=>⟨bId n i (s - 2 ^ q.1),sgP (q.2+y.dim)⟩:=by
 unfold ki cu;split <;> simp
structure Cov (L:List Cl)(f:Int→Nat)(n:Nat):Prop where
 rt:Rt L
 n4:n≤4
 lt:∀ c∈L,f c.id<2 ^ n
 sub:∀ c∈L,∀ x∈c.sides,f c.id &&& f x.cell=f c.id
 few:L.length≤60
 dim:∀ c∈L,c.dim≤4
 sd:∀ c∈L,c.sides.length≤60
section
variable {L:List Cl}{f:Int→Nat}{n:Nat}(h:Cov L f n)
include h
theorem Cov.pow:2 ^ n≤16:=Nat.pow_le_pow_right dC h.n4 (n:=2)
theorem Cov.s16 {c:Cl}(hc:c∈L){s:Nat}(hs:s∈bH (f c.id)):s<2 ^ n∧s<16:=by
 have h1:=sub_le (co.1 hs).2;have h2:=h.lt c hc;have h3:=h.pow;omega
theorem Cov.side {c:Cl}(hc:c∈L){x:ah}(hx:x∈c.sides):∃ d∈L,d.id=x.cell∧d.dim=c.dim - 1∧∀ s∈bH (f c.id),s∈bH (f d.id):=by
 obtain ⟨d,hd,hdd⟩:=(h.rt.form c hc).found x hx;obtain ⟨h1,h2⟩:=cX hd;refine⟨d,h1,h2,hdd,fun s hs=>?_⟩;obtain ⟨k1,k2⟩:=co.1 hs;exact co.2 ⟨k1,lV k2 (by rw[h2]; exact h.sub c hc x hx)⟩
omit h in
theorem l7 (h:Rt L){z:Cl}:z∈aM L f n↔∃ c∈L,∃ s∈bH (f c.id),z=bq L n (ixB L c.id) c s:=by
 unfold aM;rw[List.mem_flatMap];constructor
 ·rintro ⟨⟨c,i⟩,hq,hz⟩;obtain ⟨s,hs,rfl⟩:=ze5.1 hz;have hi:L[i]?=some c:=List.mem_zipIdx_iff_getElem?.1 hq;exact⟨c,zf5 hi,s,hs,by rw[h.ix hi]⟩
 ·rintro ⟨c,hc,s,hs,rfl⟩;exact⟨(c,ixB L c.id),List.mem_zipIdx_iff_getElem?.2 (h.ix_get hc),ze5.2 ⟨s,hs,I⟩⟩
theorem Cov.ids:((aM L f n).map Cl.id).Nodup:=by
 have h1:(aM L f n).Pairwise fun a b=>a.id<b.id:=by
  unfold aM;rw[List.pairwise_flatMap];refine⟨fun q hq=>?_,?_⟩
  ·rw[zj4];have h2:(bH (f q.1.id)).Pairwise (· < ·):=(List.pairwise_lt_range (n:=_)).filter _;refine h2.imp fun {a b} hlt=>?_;show bId n q.2 a<bId n q.2 b;unfold bId;omega
  ·have h3:L.zipIdx.Pairwise fun a b=>a.2<b.2:=by
    have:=List.pairwise_lt_range (n:=L.length);rw[List.range_eq_range',← List.zipIdx_map_snd 0 L,zj4] at this;exact this
   refine List.Pairwise.imp_of_mem ?_ h3;rintro ⟨c,i⟩ ⟨d,j⟩ hc hd hlt z hz w hw;obtain ⟨s,hs,rfl⟩:=ze5.1 hz;obtain ⟨t,ht,rfl⟩:=ze5.1 hw;have hci:L[i]?=some c:=List.mem_zipIdx_iff_getElem?.1 hc;have hs2:=(h.s16 (zf5 hci) hs).1;have:=Bm (N:=2 ^ n) (k':=t) hs2 hlt;dsimp only at this;show bId n i s<bId n j t;unfold bId;omega
 rw[List.Nodup,zj4];exact h1.imp fun h=>by omega
theorem Cov.nodup:((aa (aM L f n)).map Cl.id).Nodup:=by
 have h2:((aa (aM L f n)).map Cl.id).Perm ((aM L f n).map Cl.id):=by
  rw[kB];exact (gK _).map _
 exact h2.symm.nodup h.ids
theorem Cov.mem {z:Cl}:z∈aa (aM L f n)↔∃ c∈L,∃ s∈bH (f c.id),z=au (bq L n (ixB L c.id) c s):=by
 unfold aa;rw[ze5];constructor
 ·rintro ⟨d,hd,rfl⟩;obtain ⟨c,hc,s,hs,rfl⟩:=(l7 h.rt).1 ((cq _ _).1 hd);exact⟨c,hc,s,hs,I⟩
 ·rintro ⟨c,hc,s,hs,rfl⟩;exact⟨_,(cq _ _).2 ((l7 h.rt).2 ⟨c,hc,s,hs,I⟩),I⟩
theorem Cov.find {c:Cl}(hc:c∈L){s:Nat}(hs:s∈bH (f c.id)):aO (aa (aM L f n)) (bId n (ixB L c.id) s)=some (au (bq L n (ixB L c.id) c s)) :=
 ll (x:=au (bq L n (ixB L c.id) c s)) h.nodup (h.mem.2 ⟨c,hc,s,hs,rfl⟩)
omit h in
theorem qQ (L:List Cl)(n i:Nat)(c:Cl)(s:Nat):(au (bq L n i c s)).sides.Perm (ki L n i c s):=gK _
theorem Cov.hits {d:Cl}(hd:d∈L){u:Nat}(hu:u∈bH (f d.id)){e:Cl}(he:e∈L){t:Nat}(ht:t∈bH (f e.id))(σ:Int) :
  hits (aa (aM L f n)) ⟨bId n (ixB L d.id) u,σ⟩ (bId n (ixB L e.id) t)=(if t=u then cS d e else 0)+(if e=d then hB u t else 0):=by
 unfold Go.Proofs.YtcfkpajlakidbaaGreat.hits ao;rw[h.find hd hu];show ((au (bq L n (ixB L d.id) d u)).sides.filter _).length=_;have hu2:=h.s16 hd hu;have ht2:=h.s16 he ht;rw[((qQ L n _ d u).filter _).length_eq,fe,zg9,zd8,List.filter_map,List.filter_map,zd9,zd9];congr 1
 ·split
  ·rename_i e1;subst e1;unfold cS;congr 1;refine List.filter_congr fun q hq=>?_;obtain ⟨v,hv,hvi,_⟩:=h.side hd hq;show decide (bId n (ixB L q.cell) t=bId n (ixB L e.id) t)=decide (q.cell=e.id);rw[decide_eq_decide,← hvi];constructor
   ·intro k;rw[h.rt.ix_inj hv he (ew ht2.1 ht2.1 k).1]
   ·intro k;rw[k]
  ·rename_i e1;rw[List.length_eq_zero_iff,List.filter_eq_nil_iff];intro q hq k;have k:bId n (ixB L q.cell) u=bId n (ixB L e.id) t:=by simpa using k
   exact e1 (ew hu2.1 ht2.1 k).2.symm
 ·have hlt:∀ q∈cu u,u - 2 ^ q.1<2 ^ n:=fun q _=>Nat.lt_of_le_of_lt (Nat.sub_le _ _) hu2.1;split
  ·rename_i e1;subst e1;unfold hB;congr 1;refine List.filter_congr fun q hq=>?_;show decide (bId n (ixB L e.id) (u - 2 ^ q.1)=bId n (ixB L e.id) t)=decide (u - 2 ^ q.1=t);rw[decide_eq_decide];exact⟨fun k=>(ew (hlt q hq) ht2.1 k).2,fun k=>by rw[k]⟩
  ·rename_i e1;rw[List.length_eq_zero_iff,List.filter_eq_nil_iff];intro q hq k;have k:bId n (ixB L d.id) (u - 2 ^ q.1)=bId n (ixB L e.id) t:=by simpa using k
   exact e1 (h.rt.ix_inj hd he (ew (hlt q hq) ht2.1 k).1).symm
theorem Cov.inner {d:Cl}(hd:d∈L){u:Nat}(hu:u∈bH (f d.id)){e:Cl}(he:e∈L){t:Nat}(ht:t∈bH (f e.id))(σ:Int) :
  inner (aa (aM L f n)) ⟨bId n (ixB L d.id) u,σ⟩ (bId n (ixB L e.id) t)=σ * ((if t=u then gr d e else 0)+(if e=d then iB u t d.dim else 0)):=by
 unfold Go.Proofs.YtcfkpajlakidbaaGreat.inner ao;rw[h.find hd hu];show ((au (bq L n (ixB L d.id) d u)).sides.map fun q=>if q.cell=bId n (ixB L e.id) t then σ * q.sign else 0).sum=_;have hu2:=h.s16 hd hu;have ht2:=h.s16 he ht;rw[im ((qQ L n _ d u).map _),fe,zf8,List.sum_append,zh8,zh8,Int.mul_add];congr 1
 ·split
  ·rename_i e1;subst e1;unfold gr;refine cm fun q hq=>?_;obtain ⟨v,hv,hvi,_⟩:=h.side hd hq;show (if bId n (ixB L q.cell) t=bId n (ixB L e.id) t then σ * q.sign else 0)=σ * (if q.cell=e.id then q.sign else 0);by_cases hve:q.cell=e.id
   ·rw[zf4 hve,zf4 (by rw[hve])]
   ·rw[zf3 hve,zf3,Int.mul_zero];intro k;rw[← hvi] at k hve;exact hve (by rw[h.rt.ix_inj hv he (ew ht2.1 ht2.1 k).1])
  ·rename_i e1;rw[cm (g:=fun _=>(0:Int)) (K:=0) fun q hq=>?_,Int.zero_mul,Int.mul_zero];show (if bId n (ixB L q.cell) u=bId n (ixB L e.id) t then σ * q.sign else 0)=_;rw[zf3 fun k=>e1 (ew hu2.1 ht2.1 k).2.symm];rfl
 ·have hlt:∀ q∈cu u,u - 2 ^ q.1<2 ^ n:=fun q _=>Nat.lt_of_le_of_lt (Nat.sub_le _ _) hu2.1;split
  ·rename_i e1;subst e1;unfold iB;refine cm fun q hq=>?_;show (if bId n (ixB L e.id) (u - 2 ^ q.1)=bId n (ixB L e.id) t then σ * sgP (q.2+e.dim) else 0)=σ * (if u - 2 ^ q.1=t then sgP (q.2+e.dim) else 0);by_cases hue:u - 2 ^ q.1=t
   ·rw[zf4 hue,zf4 (by rw[hue])]
   ·rw[zf3 hue,zf3 fun k=>hue (ew (hlt q hq) ht2.1 k).2,Int.mul_zero]
  ·rename_i e1;rw[cm (g:=fun _=>(0:Int)) (K:=0) fun q hq=>?_,Int.zero_mul,Int.mul_zero];show (if bId n (ixB L d.id) (u - 2 ^ q.1)=bId n (ixB L e.id) t then σ * sgP (q.2+d.dim) else 0)=_;rw[zf3 fun k=>e1 (h.rt.ix_inj hd he (ew (hlt q hq) ht2.1 k).1).symm];rfl
end
theorem BM {α:Type}{l:List α}{g:α→Int}(h:∀ x∈l,g x=0):(l.map g).sum=0:=by
 rw[cm (g:=fun _=>(0:Int)) (K:=0) fun x hx=>by rw[h x hx]; rfl,Int.zero_mul]
theorem yw {α:Type}{l:List α}{g:α→Nat}(h:∀ x∈l,g x=0):(l.map g).sum=0:=by
 induction l with
 | nil=>rfl
 | cons a b ih=>rw[zf7,List.sum_cons,h a (by simp),ih fun x hx=>h x (by simp[hx])]
theorem CI {α:Type}(l:List α)(g k:α→Int):(l.map fun x=>g x+k x).sum=(l.map g).sum+(l.map k).sum:=by
 induction l with
 | nil=>rfl
 | cons a b ih=>simp only[zf7,List.sum_cons,ih]; omega
theorem BS {α:Type}(l:List α)(g k:α→Nat):(l.map fun x=>g x+k x).sum=(l.map g).sum+(l.map k).sum:=by
 induction l with
 | nil=>rfl
 | cons a b ih=>simp only[zf7,List.sum_cons,ih]; omega
theorem CH {α:Type}(l:List α)(p:α→Prop)[DecidablePred p](K:Nat):(l.map fun x=>if p x then K else 0).sum=(l.filter fun x=>decide (p x)).length * K:=by
 induction l with
 | nil=>simp
 | cons a b ih =>
  rw[zf7,List.sum_cons,ih,zh9];by_cases h:p a
  ·rw[zf4 h,zf4 (by simpa using h),ze2,Nat.add_mul,Nat.one_mul,Nat.add_comm]
  ·rw[zf3 h,zf3 (by simpa using h),Nat.zero_add]
section
variable {L:List Cl}{f:Int→Nat}{n:Nat}(h:Cov L f n)
include h
theorem Cov.hitsL {c d:Cl}(hc:c∈L){x:ah}(hx:x∈c.sides)(hd:d∈L)(hi:d.id=x.cell)(e:Cl):Go.Proofs.YtcfkpajlakidbaaGreat.hits L x e.id=cS d e:=by
 unfold Go.Proofs.YtcfkpajlakidbaaGreat.hits ao;rw[← hi,h.rt.find hd];rfl
theorem Cov.innerL {c d:Cl}(hc:c∈L){x:ah}(hx:x∈c.sides)(hd:d∈L)(hi:d.id=x.cell)(e:Cl):Go.Proofs.YtcfkpajlakidbaaGreat.inner L x e.id=x.sign * gr d e:=by
 unfold Go.Proofs.YtcfkpajlakidbaaGreat.inner ao;rw[← hi,h.rt.find hd];unfold gr;refine cm fun q _=>?_;show (if q.cell=e.id then x.sign * q.sign else 0)=_;split
 ·rfl
 ·rw[Int.mul_zero]
theorem Cov.cS_le {c:Cl}(hc:c∈L)(e:Cl):cS c e≤1:=by
 unfold cS;have h1:(c.sides.filter fun q=>decide (q.cell=e.id)).Pairwise fun a b=>a.cell<b.cell:=(h.rt.form c hc).asc.filter _;cases hl:c.sides.filter fun q=>decide (q.cell=e.id) with
 | nil=>simp
 | cons a r =>
  cases r with
  | nil=>simp
  | cons b r =>
   rw[hl] at h1;have h2:=(zj3.1 h1).1 b (by simp);have ha:a∈c.sides.filter fun q=>decide (q.cell=e.id):=by rw[hl]; simp
   have hb:b∈c.sides.filter fun q=>decide (q.cell=e.id):=by rw[hl]; simp
   have h3:=(zg7.1 ha).2;have h4:=(zg7.1 hb).2;simp only[zi6] at h3 h4;omega
theorem Cov.cS_dim {c e:Cl}(hc:c∈L)(he:e∈L)(hd:e.dim≠c.dim - 1):cS c e=0:=by
 unfold cS;rw[List.length_eq_zero_iff,List.filter_eq_nil_iff];intro q hq k;simp only[zi6] at k;obtain ⟨d,hd1,hd2,hd3,_⟩:=h.side hc hq;rw[k] at hd2;have h1:=h.rt.find hd1;rw[hd2,h.rt.find he] at h1;cases h1;exact hd hd3
omit h in
theorem Cr {c:Cl}{x:ah}(hx:x∈c.sides){e:Cl}(hi:e.id=x.cell):0<cS c e:=by
 unfold cS;refine List.length_pos_of_mem (a:=x) (zg7.2 ⟨hx,?_⟩);simpa using hi.symm
theorem Cov.bit {c:Cl}(hc:c∈L){s:Nat}(hs:s∈bH (f c.id)){q:Nat×Nat}(hq:q∈cu s):s - 2 ^ q.1∈bH (f c.id):=by
 obtain ⟨k1,k2,_⟩:=o9 s (h.s16 hc hs).2 q hq;exact co.2 ⟨k1,lV k2 (co.1 hs).2⟩
theorem Cov.pos1 {c:Cl}(hc:c∈L){s:Nat}(hs:s∈bH (f c.id)):0<onesB s∧onesB s≤4∧(cu s).length=if onesB s≤1 then 0 else onesB s:=zY s (h.s16 hc hs).2 (co.1 hs).1
theorem Cov.fm {c:Cl}(hc:c∈L){s:Nat}(hs:s∈bH (f c.id)):Fm (aa (aM L f n)) (au (bq L n (ixB L c.id) c s)):=by
 have hf:=h.rt.form c hc;have hp:=qQ L n (ixB L c.id) c s;rw[fe] at hp;have hmem:∀ x',x'∈(au (bq L n (ixB L c.id) c s)).sides↔(∃ x∈c.sides,x'=⟨bId n (ixB L x.cell) s,x.sign⟩)∨∃ q∈cu s,x'=⟨bId n (ixB L c.id) (s - 2 ^ q.1),sgP (q.2+c.dim)⟩:=fun x'=>by
  rw[hp.mem_iff,ze6,ze5,ze5];exact⟨fun h=>h.elim (fun ⟨x,a,b⟩=>.inl ⟨x,a,b.symm⟩) fun ⟨x,a,b⟩=>.inr ⟨x,a,b.symm⟩,fun h=>h.elim (fun ⟨x,a,b⟩=>.inl ⟨x,a,b.symm⟩) fun ⟨x,a,b⟩=>.inr ⟨x,a,b.symm⟩⟩
 have hlen:(au (bq L n (ixB L c.id) c s)).sides.length=c.sides.length+(cu s).length:=by rw[hp.length_eq,zd8,zd9,zd9]
 obtain ⟨o1,o2,o3⟩:=h.pos1 hc hs;have s16:=h.s16 hc hs;have hdim:(au (bq L n (ixB L c.id) c s)).dim=c.dim+onesB s - 1:=rfl;have hd0:=hf.dim;have hd4:=h.dim c hc;have hsd:=h.sd c hc;refine⟨by rw[hdim]; omega,?_,fun x' hx'=>?_,?_,fun x' hx'=>?_,fun hd=>?_⟩
 ·have hcn:=hf.cnt;simp only[ax,hdim,hlen,o3] at hcn ⊢;simp only[Bool.or_eq_false_iff,Bool.and_eq_false_iff,decide_eq_false_iff_not] at hcn ⊢;split <;> omega
 ·rcases (hmem x').1 hx' with ⟨x,hx,rfl⟩ | ⟨q,hq,rfl⟩
  ·obtain ⟨d,hd,hid,hdd,hsub⟩:=h.side hc hx;have:=h.find hd (hsub s hs);rw[hid] at this;refine⟨_,this,?_⟩;show d.dim+onesB s - 1=c.dim+onesB s - 1 - 1;omega
  ·refine⟨_,h.find hc (h.bit hc hs hq),?_⟩;have:=(o9 s s16.2 q hq).2.2.1;show c.dim+onesB (s - 2 ^ q.1) - 1=c.dim+onesB s - 1 - 1;omega
 ·have h1:(au (bq L n (ixB L c.id) c s)).sides.Pairwise fun a b=>a.cell≤b.cell:=cH _;have h2:((au (bq L n (ixB L c.id) c s)).sides.map ah.cell).Nodup:=by
   refine (hp.map ah.cell).symm.nodup ?_;rw[zf8,zh8,zh8];refine List.nodup_append.2 ⟨?_,?_,?_⟩
   ·rw[List.Nodup,zj4];refine List.Pairwise.imp_of_mem ?_ hf.asc;intro a b ha hb hlt e;obtain ⟨d,hd,hid,_⟩:=h.side hc ha;obtain ⟨d',hd',hid',_⟩:=h.side hc hb;have e:bId n (ixB L a.cell) s=bId n (ixB L b.cell) s:=e;rw[← hid,← hid'] at e;have:=h.rt.ix_inj hd hd' (ew s16.1 s16.1 e).1;subst this;omega
   ·have h3:=vB s s16.2;rw[List.Nodup,zj4] at h3 ⊢;refine h3.imp fun {a b} hne e=>hne ?_;have e:bId n (ixB L c.id) (s - 2 ^ a.1)=bId n (ixB L c.id) (s - 2 ^ b.1):=e;exact (ew (Nat.lt_of_le_of_lt (Nat.sub_le _ _) s16.1) (Nat.lt_of_le_of_lt (Nat.sub_le _ _) s16.1) e).2
   ·intro a ha b hb e;obtain ⟨x,hx,rfl⟩:=ze5.1 ha;obtain ⟨q,hq,rfl⟩:=ze5.1 hb;obtain ⟨d,hd,hid,hdd,_⟩:=h.side hc hx;have e:bId n (ixB L x.cell) s=bId n (ixB L c.id) (s - 2 ^ q.1):=e;rw[← hid] at e;have:=h.rt.ix_inj hd hc (ew s16.1 (Nat.lt_of_le_of_lt (Nat.sub_le _ _) s16.1) e).1;subst this;omega
  rw[List.Nodup,zj4] at h2;exact (h1.and h2).imp fun ⟨h3,h4⟩=>by omega
 ·rcases (hmem x').1 hx' with ⟨x,hx,rfl⟩ | ⟨q,hq,rfl⟩
  ·exact hf.sg x hx
  ·exact ws _
 ·rw[hdim] at hd;unfold kg;rw[im (hp.map ah.sign),zf8,List.sum_append,zh8,zh8];have hcn:=hf.cnt;simp only[ax,Bool.or_eq_false_iff,Bool.and_eq_false_iff,decide_eq_false_iff_not] at hcn;by_cases hc1:c.dim=1
  ·have h1:=hf.one hc1;unfold kg at h1;have h2:cu s=[]:=List.length_eq_zero_iff.1 (by rw[o3,zf4 oM]);rw[h2];show (c.sides.map ah.sign).sum+0=0;rw[h1];rfl
  ·have h3:c.sides=[]:=List.length_eq_zero_iff.1 oM;have h4:=zW s s16.2 oM;rw[h3];show 0+((cu s).map fun q=>sgP (q.2+c.dim)).sum=0;rw[show c.dim=0 by omega,h4];rfl
theorem Cov.sumR {c:Cl}(hc:c∈L){s:Nat}(hs:s∈bH (f c.id)){e:Cl}(he:e∈L){t:Nat}(ht:t∈bH (f e.id)):Go.Proofs.YtcfkpajlakidbaaGreat.sumR (aa (aM L f n)) (au (bq L n (ixB L c.id) c s)).sides (bId n (ixB L e.id) t)=0:=by
 have s16:=h.s16 hc hs;have t16:=h.s16 he ht;rw[pX (qQ L n _ c s),fe,dN,zf8,List.sum_append,zh8,zh8];have e1:(c.sides.map ((fun x=>Go.Proofs.YtcfkpajlakidbaaGreat.inner (aa (aM L f n)) x (bId n (ixB L e.id) t)) ∘ fun x=>(⟨bId n (ixB L x.cell) s,x.sign⟩:ah))).sum=(if t=s then Go.Proofs.YtcfkpajlakidbaaGreat.sumR L c.sides e.id else 0)+iB s t (c.dim - 1) * gr c e:=by
  rw[dN];have:(c.sides.map ((fun x=>Go.Proofs.YtcfkpajlakidbaaGreat.inner (aa (aM L f n)) x (bId n (ixB L e.id) t)) ∘ fun x=>(⟨bId n (ixB L x.cell) s,x.sign⟩:ah))).sum=(c.sides.map fun x=>(if t=s then Go.Proofs.YtcfkpajlakidbaaGreat.inner L x e.id else 0)+iB s t (c.dim - 1) * (if x.cell=e.id then x.sign else 0)).sum:=by
   congr 1;refine zc4 fun x hx=>?_;obtain ⟨d,hd,hid,hdd,hsub⟩:=h.side hc hx;show Go.Proofs.YtcfkpajlakidbaaGreat.inner _ ⟨bId n (ixB L x.cell) s,x.sign⟩ _=_;rw[h.innerL hc hx hd hid,← hid,h.inner hd (hsub s hs) he ht,Int.mul_add];congr 1
   ·split <;> simp
   ·by_cases k:e=d
    ·subst k;rw[zf4 rfl,zf4 rfl,hdd,Int.mul_comm]
    ·rw[zf3 k,zf3 (fun k2=>k (by
      have h1:=h.rt.find hd;rw[k2,h.rt.find he] at h1;injection h1)),Int.mul_zero,Int.mul_zero]
  rw[this,CI];congr 1
  ·split
   ·rfl
   ·exact BM fun _ _=>I
  ·unfold gr;exact cm fun x _=>I
 have e2:((cu s).map ((fun x=>Go.Proofs.YtcfkpajlakidbaaGreat.inner (aa (aM L f n)) x (bId n (ixB L e.id) t)) ∘ fun q=>(⟨bId n (ixB L c.id) (s - 2 ^ q.1),sgP (q.2+c.dim)⟩:ah))).sum=gr c e * iB s t c.dim+(if e=c then ((cu s).map fun q=>sgP q.2 * iB (s - 2 ^ q.1) t 0).sum else 0):=by
  have:((cu s).map ((fun x=>Go.Proofs.YtcfkpajlakidbaaGreat.inner (aa (aM L f n)) x (bId n (ixB L e.id) t)) ∘ fun q=>(⟨bId n (ixB L c.id) (s - 2 ^ q.1),sgP (q.2+c.dim)⟩:ah))).sum=((cu s).map fun q=>gr c e * (if s - 2 ^ q.1=t then sgP (q.2+c.dim) else 0)+(if e=c then sgP q.2 * iB (s - 2 ^ q.1) t 0 else 0)).sum:=by
   congr 1;refine zc4 fun q hq=>?_;show Go.Proofs.YtcfkpajlakidbaaGreat.inner _ ⟨bId n (ixB L c.id) (s - 2 ^ q.1),sgP (q.2+c.dim)⟩ _=_;rw[h.inner hc (h.bit hc hs hq) he ht,Int.mul_add];congr 1
   ·by_cases k:t=s - 2 ^ q.1
    ·rw[zf4 k,zf4 k.symm,Int.mul_comm]
    ·rw[zf3 k,zf3 (fun k2=>k k2.symm),Int.mul_zero,Int.mul_zero]
   ·split
    ·rw[pH,wt,← Int.mul_assoc,Int.mul_assoc (sgP q.2)];have:sgP c.dim * sgP c.dim=1:=by rcases ws c.dim with h | h <;> rw[h] <;> rfl
     rw[this,Int.mul_one]
    ·rw[Int.mul_zero]
  rw[this,CI];congr 1
  ·unfold iB;exact cm fun x _=>I
  ·split
   ·rfl
   ·exact BM fun _ _=>I
 rw[e1,e2,zX s s16.2 t t16.2];have e3:(if t=s then Go.Proofs.YtcfkpajlakidbaaGreat.sumR L c.sides e.id else 0)=0:=by
  split
  ·by_cases hd:c.dim>1
   ·have hn0:0<c.sides.length:=by
     have:=(h.rt.form c hc).cnt;simp[ax] at this;have:=this.2 hd;omega
    have nd:(c.sides.map ah.cell).Nodup:=by
     rw[List.Nodup,zj4];exact (h.rt.form c hc).asc.imp fun h=>by omega
    exact ((e7 hn0 nd).1 (h.rt.around c hc hd)).1 e.id
   ·rw[dN];refine BM fun x hx=>?_;obtain ⟨d,hd,hid,hdd,_⟩:=h.side hc hx;rw[h.innerL hc hx hd hid];have h1:=(h.rt.form d hd).dim;have h2:=(h.rt.form d hd).cnt;simp only[ax,Bool.or_eq_false_iff,Bool.and_eq_false_iff,decide_eq_false_iff_not] at h2;have h3:d.sides=[]:=List.length_eq_zero_iff.1 oM;unfold gr;rw[h3];simp
  ·rfl
 have e4:=Bv s t c.dim;rw[e3,Int.mul_comm (iB s t (c.dim - 1))];have e5:gr c e * iB s t (c.dim - 1)+gr c e * iB s t c.dim=0:=by rw[← Int.mul_add,e4,Int.mul_zero]
 split <;> omega
theorem Cov.cntR {c:Cl}(hc:c∈L){s:Nat}(hs:s∈bH (f c.id)){e:Cl}(he:e∈L){t:Nat}(ht:t∈bH (f e.id)) :
  Go.Proofs.YtcfkpajlakidbaaGreat.cntR (aa (aM L f n)) (au (bq L n (ixB L c.id) c s)).sides (bId n (ixB L e.id) t)=0∨Go.Proofs.YtcfkpajlakidbaaGreat.cntR (aa (aM L f n)) (au (bq L n (ixB L c.id) c s)).sides (bId n (ixB L e.id) t)=2:=by
 have s16:=h.s16 hc hs;have t16:=h.s16 he ht;rw[qz (qQ L n _ c s),fe];unfold Go.Proofs.YtcfkpajlakidbaaGreat.cntR;rw[zf8,List.sum_append,zh8,zh8];have e1:(c.sides.map ((fun x=>Go.Proofs.YtcfkpajlakidbaaGreat.hits (aa (aM L f n)) x (bId n (ixB L e.id) t)) ∘ fun x=>(⟨bId n (ixB L x.cell) s,x.sign⟩:ah))).sum=(if t=s then Go.Proofs.YtcfkpajlakidbaaGreat.cntR L c.sides e.id else 0)+cS c e * hB s t:=by
  have:(c.sides.map ((fun x=>Go.Proofs.YtcfkpajlakidbaaGreat.hits (aa (aM L f n)) x (bId n (ixB L e.id) t)) ∘ fun x=>(⟨bId n (ixB L x.cell) s,x.sign⟩:ah))).sum=(c.sides.map fun x=>(if t=s then Go.Proofs.YtcfkpajlakidbaaGreat.hits L x e.id else 0)+(if x.cell=e.id then hB s t else 0)).sum:=by
   congr 1;refine zc4 fun x hx=>?_;obtain ⟨d,hd,hid,hdd,hsub⟩:=h.side hc hx;show Go.Proofs.YtcfkpajlakidbaaGreat.hits _ ⟨bId n (ixB L x.cell) s,x.sign⟩ _=_;rw[h.hitsL hc hx hd hid,← hid,h.hits hd (hsub s hs) he ht];congr 1;by_cases k:e=d
   ·subst k;rw[zf4 rfl,zf4 rfl]
   ·rw[zf3 k,zf3 (fun k2=>k (by
     have h1:=h.rt.find hd;rw[k2,h.rt.find he] at h1;injection h1))]
  rw[this,BS];congr 1
  ·split
   ·rfl
   ·exact yw fun _ _=>I
  ·exact CH _ _ _
 have e2:((cu s).map ((fun x=>Go.Proofs.YtcfkpajlakidbaaGreat.hits (aa (aM L f n)) x (bId n (ixB L e.id) t)) ∘ fun q=>(⟨bId n (ixB L c.id) (s - 2 ^ q.1),sgP (q.2+c.dim)⟩:ah))).sum=hB s t * cS c e+(if e=c then ((cu s).map fun q=>hB (s - 2 ^ q.1) t).sum else 0):=by
  have:((cu s).map ((fun x=>Go.Proofs.YtcfkpajlakidbaaGreat.hits (aa (aM L f n)) x (bId n (ixB L e.id) t)) ∘ fun q=>(⟨bId n (ixB L c.id) (s - 2 ^ q.1),sgP (q.2+c.dim)⟩:ah))).sum=((cu s).map fun q=>(if s - 2 ^ q.1=t then cS c e else 0)+(if e=c then hB (s - 2 ^ q.1) t else 0)).sum:=by
   congr 1;refine zc4 fun q hq=>?_;show Go.Proofs.YtcfkpajlakidbaaGreat.hits _ ⟨bId n (ixB L c.id) (s - 2 ^ q.1),sgP (q.2+c.dim)⟩ _=_;rw[h.hits hc (h.bit hc hs hq) he ht];congr 1;by_cases k:t=s - 2 ^ q.1
   ·rw[zf4 k,zf4 k.symm]
   ·rw[zf3 k,zf3 fun k2=>k k2.symm]
  rw[this,BS];congr 1
  ·exact CH _ _ _
  ·split
   ·rfl
   ·exact yw fun _ _=>I
 rw[e1,e2];obtain ⟨b1,b2,b3,b4⟩:=zZ s s16.2 t t16.2;have e3:Go.Proofs.YtcfkpajlakidbaaGreat.cntR L c.sides e.id=0∨Go.Proofs.YtcfkpajlakidbaaGreat.cntR L c.sides e.id=2:=by
  by_cases hd:c.dim>1
  ·have hn0:0<c.sides.length:=by
    have:=(h.rt.form c hc).cnt;simp[ax] at this;have:=this.2 hd;omega
   have nd:(c.sides.map ah.cell).Nodup:=by
    rw[List.Nodup,zj4];exact (h.rt.form c hc).asc.imp fun h=>by omega
   exact ((e7 hn0 nd).1 (h.rt.around c hc hd)).2.1 e.id
  ·left;unfold Go.Proofs.YtcfkpajlakidbaaGreat.cntR;refine yw fun x hx=>?_;obtain ⟨d,hd,hid,hdd,_⟩:=h.side hc hx;rw[h.hitsL hc hx hd hid];have h1:=(h.rt.form d hd).dim;have h2:=(h.rt.form d hd).cnt;simp only[ax,Bool.or_eq_false_iff,Bool.and_eq_false_iff,decide_eq_false_iff_not] at h2;have h3:d.sides=[]:=List.length_eq_zero_iff.1 oM;unfold cS;rw[h3];rfl
 by_cases k:t=s
 ·subst k;rw[b2,b4,zf4 rfl];simp only[Nat.mul_zero,Nat.zero_mul,ite_self,Nat.add_zero];exact e3
 ·rw[zf3 k];by_cases k2:e=c
  ·subst k2;rw[h.cS_dim hc hc oM,zf4 rfl];simp only[Nat.mul_zero,Nat.zero_mul,Nat.zero_add];exact b3
  ·rw[zf3 k2];have h1:=h.cS_le hc e;have h2:cS c e=0∨cS c e=1:=oM;have h3:hB s t=0∨hB s t=1:=oM
   rcases h2 with h2 | h2 <;> rcases h3 with h3 | h3 <;> rw[h2,h3] <;> simp
end
section
variable {L:List Cl}{f:Int→Nat}{n:Nat}(h:Cov L f n)
include h
theorem Cov.known {d:Cl}(hd:d∈L){u:Nat}(hu:u∈bH (f d.id)){σ r:Int}(hr:0<Go.Proofs.YtcfkpajlakidbaaGreat.hits (aa (aM L f n)) ⟨bId n (ixB L d.id) u,σ⟩ r):∃ e∈L,∃ t∈bH (f e.id),r=bId n (ixB L e.id) t:=by
 unfold Go.Proofs.YtcfkpajlakidbaaGreat.hits ao at hr;rw[h.find hd hu] at hr;obtain ⟨q,hq⟩:=List.exists_mem_of_length_pos hr;obtain ⟨hq1,hq2⟩:=zg7.1 hq;have hq1:q∈(au (bq L n (ixB L d.id) d u)).sides:=hq1;rw[(qQ L n _ d u).mem_iff,fe,ze6,ze5,ze5] at hq1;have hq2:q.cell=r:=by simpa using hq2
 rcases hq1 with ⟨x,hx,rfl⟩ | ⟨b,hb,rfl⟩
 ·obtain ⟨e,he,hei,_,hsub⟩:=h.side hd hx;exact⟨e,he,u,hsub u hu,by rw[hei]; exact hq2.symm⟩
 ·exact⟨d,hd,_,h.bit hd hu hb,hq2.symm⟩
theorem Cov.around {c:Cl}(hc:c∈L){s:Nat}(hs:s∈bH (f c.id))(hd1:c.dim+onesB s - 1>1):ce (aa (aM L f n)) (au (bq L n (ixB L c.id) c s))=0:=by
 have s16:=h.s16 hc hs;have hfm:=h.fm hc hs;have hp:=qQ L n (ixB L c.id) c s;rw[fe] at hp;have hmem:∀ x',x'∈(au (bq L n (ixB L c.id) c s)).sides↔(∃ x∈c.sides,x'=⟨bId n (ixB L x.cell) s,x.sign⟩)∨∃ q∈cu s,x'=⟨bId n (ixB L c.id) (s - 2 ^ q.1),sgP (q.2+c.dim)⟩:=fun x'=>by
  rw[hp.mem_iff,ze6,ze5,ze5];exact⟨fun h=>h.elim (fun ⟨x,a,b⟩=>.inl ⟨x,a,b.symm⟩) fun ⟨x,a,b⟩=>.inr ⟨x,a,b.symm⟩,fun h=>h.elim (fun ⟨x,a,b⟩=>.inl ⟨x,a,b.symm⟩) fun ⟨x,a,b⟩=>.inr ⟨x,a,b.symm⟩⟩
 have hn0:0<(au (bq L n (ixB L c.id) c s)).sides.length:=by
  have:=hfm.cnt;have hd2:(au (bq L n (ixB L c.id) c s)).dim>1:=hd1;simp[ax] at this;have:=this.2 hd2;omega
 have nd:((au (bq L n (ixB L c.id) c s)).sides.map ah.cell).Nodup:=by
  rw[List.Nodup,zj4];exact hfm.asc.imp fun h=>by omega
 have hkn:∀ x'∈(au (bq L n (ixB L c.id) c s)).sides,∀ r,0<Go.Proofs.YtcfkpajlakidbaaGreat.hits (aa (aM L f n)) x' r→∃ e∈L,∃ t∈bH (f e.id),r=bId n (ixB L e.id) t:=fun x' hx' r hr=>by
  rcases (hmem x').1 hx' with ⟨x,hx,rfl⟩ | ⟨q,hq,rfl⟩
  ·obtain ⟨d,hd,hid,_,hsub⟩:=h.side hc hx;rw[← hid] at hr;exact h.known hd (hsub s hs) hr
  ·exact h.known hc (h.bit hc hs hq) hr
 refine (e7 hn0 nd).2 ⟨fun r=>?_,fun r=>?_,?_⟩
 ·by_cases hr:∃ x'∈(au (bq L n (ixB L c.id) c s)).sides,0<Go.Proofs.YtcfkpajlakidbaaGreat.hits (aa (aM L f n)) x' r
  ·obtain ⟨x',hx',hr⟩:=hr;obtain ⟨e,he,t,ht,rfl⟩:=hkn x' hx' r hr;exact h.sumR hc hs he ht
  ·rw[dN];exact BM fun x hx=>tQ (by
    have:¬ 0<Go.Proofs.YtcfkpajlakidbaaGreat.hits (aa (aM L f n)) x r:=fun k=>hr ⟨x,hx,k⟩;omega)
 ·by_cases hr:∃ x'∈(au (bq L n (ixB L c.id) c s)).sides,0<Go.Proofs.YtcfkpajlakidbaaGreat.hits (aa (aM L f n)) x' r
  ·obtain ⟨x',hx',hr⟩:=hr;obtain ⟨e,he,t,ht,rfl⟩:=hkn x' hx' r hr;exact h.cntR hc hs he ht
  ·left;unfold Go.Proofs.YtcfkpajlakidbaaGreat.cntR;exact yw fun x hx=>by
    have:¬ 0<Go.Proofs.YtcfkpajlakidbaaGreat.hits (aa (aM L f n)) x r:=fun k=>hr ⟨x,hx,k⟩;omega
 ·have m1:∀ x∈c.sides,(⟨bId n (ixB L x.cell) s,x.sign⟩:ah)∈(au (bq L n (ixB L c.id) c s)).sides:=fun x hx=>(hmem _).2 (.inl ⟨x,hx,rfl⟩);have m2:∀ q∈cu s,(⟨bId n (ixB L c.id) (s - 2 ^ q.1),sgP (q.2+c.dim)⟩:ah)∈(au (bq L n (ixB L c.id) c s)).sides:=fun q hq=>(hmem _).2 (.inr ⟨q,hq,rfl⟩)
  -- a side of the cell and one of the set
  have l12:∀ x∈c.sides,∀ q∈cu s,Cn (ng (aa (aM L f n)) (au (bq L n (ixB L c.id) c s)).sides) (bId n (ixB L x.cell) s) (bId n (ixB L c.id) (s - 2 ^ q.1)):=fun x hx q hq=>by
   obtain ⟨d,hd,hid,hdd,hsub⟩:=h.side hc hx;obtain ⟨k1,k2,k3,k4⟩:=o9 s s16.2 q hq;have hb:=h.bit hc hs hq;refine .one ⟨_,m1 x hx,_,m2 q hq,I,I,bId n (ixB L d.id) (s - 2 ^ q.1),?_,?_⟩
   ·rw[← hid,h.hits hd (hsub s hs) hd (hsub _ hb),zf4 rfl];omega
   ·rw[h.hits hc hb hd (hsub _ hb),zf4 rfl];have:=Cr hx hid;omega
  have l11:∀ x∈c.sides,∀ y∈c.sides,Cn (ng (aa (aM L f n)) (au (bq L n (ixB L c.id) c s)).sides) (bId n (ixB L x.cell) s) (bId n (ixB L y.cell) s):=fun x hx y hy=>by
   by_cases hd:c.dim>1
   ·have hn0:0<c.sides.length:=List.length_pos_of_mem hx;have nd:(c.sides.map ah.cell).Nodup:=by
     rw[List.Nodup,zj4];exact (h.rt.form c hc).asc.imp fun h=>by omega
    refine (((e7 hn0 nd).1 (h.rt.around c hc hd)).2.2 x hx y hy).map (f:=fun a=>bId n (ixB L a) s) fun a b=>?_;rintro ⟨u,hu,v,hv,rfl,rfl,r,h1,h2⟩;obtain ⟨du,hdu,hidu,_,hsu⟩:=h.side hc hu;obtain ⟨dv,hdv,hidv,_,hsv⟩:=h.side hc hv;have hr:∃ e∈L,e.id=r∧∀ s∈bH (f du.id),s∈bH (f e.id):=by
     have h1':=h1;unfold Go.Proofs.YtcfkpajlakidbaaGreat.hits ao at h1';rw[← hidu,h.rt.find hdu] at h1';obtain ⟨q,hq⟩:=List.exists_mem_of_length_pos h1';obtain ⟨hq1,hq2⟩:=zg7.1 hq;obtain ⟨e,he,hei,_,hse⟩:=h.side hdu (x:=q) hq1;exact⟨e,he,by rw[hei]; simpa using hq2,hse⟩
    obtain ⟨e,he,rfl,hse⟩:=hr;rw[h.hitsL hc hu hdu hidu] at h1;rw[h.hitsL hc hv hdv hidv] at h2;refine .one ⟨_,m1 u hu,_,m1 v hv,I,I,bId n (ixB L e.id) s,?_,?_⟩
    ·rw[← hidu,h.hits hdu (hsu s hs) he (hse s (hsu s hs)),zf4 rfl];omega
    ·rw[← hidv,h.hits hdv (hsv s hs) he (hse s (hsu s hs)),zf4 rfl];omega
   ·have hb:0<(cu s).length:=by
     have:=h.pos1 hc hs;rw[this.2.2,zf3 oM];exact this.1
    obtain ⟨q,hq⟩:=List.exists_mem_of_length_pos hb;exact (l12 x hx q hq).trans (l12 y hy q hq).symm
  have l22:∀ q∈cu s,∀ r∈cu s,Cn (ng (aa (aM L f n)) (au (bq L n (ixB L c.id) c s)).sides) (bId n (ixB L c.id) (s - 2 ^ q.1)) (bId n (ixB L c.id) (s - 2 ^ r.1)):=fun q hq r hr=>by
   by_cases hx:0<c.sides.length
   ·obtain ⟨x,hx⟩:=List.exists_mem_of_length_pos hx;exact (l12 x hx q hq).symm.trans (l12 x hx r hr)
   ·have hd0:c.dim=0:=by
     have h1:=(h.rt.form c hc).cnt;have h2:=(h.rt.form c hc).dim;simp only[ax,Bool.or_eq_false_iff,Bool.and_eq_false_iff,decide_eq_false_iff_not] at h1;omega
    rcases yi s s16.2 oM q hq r hr with rfl | ⟨k1,k2,k3,k4⟩
    ·exact .refl _
    ·have ht:s - 2 ^ q.1 - 2 ^ r.1∈bH (f c.id):=co.2 ⟨k1,lV k2 (co.1 hs).2⟩;refine .one ⟨_,m2 q hq,_,m2 r hr,I,I,bId n (ixB L c.id) (s - 2 ^ q.1 - 2 ^ r.1),?_,?_⟩
     ·rw[h.hits hc (h.bit hc hs hq) hc ht,zf4 (rfl:c=c)];omega
     ·rw[h.hits hc (h.bit hc hs hr) hc ht,zf4 (rfl:c=c)];omega
  intro x' hx' y' hy'
  rcases (hmem x').1 hx' with ⟨x,hx,rfl⟩ | ⟨q,hq,rfl⟩ <;> rcases (hmem y').1 hy' with ⟨y,hy,rfl⟩ | ⟨r,hr,rfl⟩
  ·exact l11 x hx y hy
  ·exact l12 x hx r hr
  ·exact (l12 y hy q hq).symm
  ·exact l22 q hq r hr
omit h in
theorem pY (b:Nat):(bH b).length≤b:=by
 unfold bH;rw[List.range_succ_eq_map,List.filter_cons_of_neg (by simp)];have:=zc1 (fun s=>decide (0<s)&&decide (s &&& b=s)) ((List.range b).map Nat.succ);rw[zd9,zh7] at this;exact this
omit h in
theorem o0 {α β:Type}(g:α→List β)(K:Nat):∀ {l:List α},(∀ x∈l,(g x).length≤K)→(l.flatMap g).length≤l.length * K
 | [],_=>by simp
 | x::l,h=>by
  rw[zg8,zd8,ze2,Nat.add_mul,Nat.one_mul];have h1:=h x (by simp);have h2:=o0 g K (l:=l) fun y hy=>h y (by simp[hy]);omega
theorem Cov.len:(aM L f n).length≤L.length * 15:=by
 unfold aM;have:=o0 (fun q:Cl×Nat=>(bH (f q.1.id)).map (bq L n q.2 q.1)) 15 (l:=L.zipIdx) fun q hq=>by
  rw[zd9];have h1:=pY (f q.1.id);have hm:L[q.2]?=some q.1:=List.mem_zipIdx_iff_getElem?.1 hq;have h2:=h.lt q.1 (zf5 hm);have h3:=h.pow;omega
 rwa [List.length_zipIdx] at this
theorem Cov.right:Rt (aa (aM L f n)):=by
 refine⟨?_,?_,fun x' hx'=>?_,fun x' hx'=>?_,fun x' hx' hd=>?_⟩
 ·rw[ak];have h1:=h.len;have h2:=h.few;omega
 ·have h1:=e6 (aM L f n);have h2:=h.nodup;rw[zj4] at h1;rw[List.Nodup,zj4] at h2;exact (h1.and h2).imp fun ⟨h3,h4⟩=>by omega
 ·obtain ⟨c,hc,s,hs,rfl⟩:=h.mem.1 hx';have:=(co.1 hs).1;show 0<bId n (ixB L c.id) s;unfold bId;omega
 ·obtain ⟨c,hc,s,hs,rfl⟩:=h.mem.1 hx';exact h.fm hc hs
 ·obtain ⟨c,hc,s,hs,rfl⟩:=h.mem.1 hx';exact h.around hc hs hd
end
theorem gx {n:Nat}{B:List Cl}{a d:Int}{c:Cl}:c∈gF n B a d↔c∈B∧c.dim=d∧ii n c.id≤a:=by
 unfold gF;rw[zg7];simp
theorem oV {n:Nat}{B:List Cl}{low d:Int}{c:Cl}:c∈kQ n B low d↔c∈B∧c.dim=d∧low<ii n c.id:=by
 unfold kQ;rw[zg7];simp
section
variable {p:Int}(hp:Fld p)(n:Nat)(B:List Cl)
include hp
end
section
variable (rf:List Cl→List Cl→Nat)(n:Nat)(B:List Cl)
end
section
variable {p:Int}(hp:Fld p){n:Nat}{B:List Cl}(hB:Rt B)(hdeg:∀ c∈B,0≤ii n c.id∧ii n c.id≤(n:Int) - 1)
include hp
include hB hdeg
end
section
variable (rf:List Cl→List Cl→Nat)(n:Nat)(B:List Cl)
end
section
variable {p:Int}(hp:Fld p){n:Nat}{B:List Cl}(hdeg:∀ c∈B,0≤ii n c.id∧ii n c.id≤(n:Int) - 1)
include hp
include hdeg
end
theorem pS (L:List Cl)(id:Int):∀ (T:List (List Int)) (k:Nat),tlB L (k+1) T id=2 * tlB L k T id
 | [],_=>rfl
 | t::T,k=>by
  unfold tlB;rw[pS L id T (k+1),Nat.mul_add,Nat.pow_succ];split <;> omega
theorem k8 (L:List Cl)(t:List Int)(T:List (List Int))(id:Int):tlB L 0 (t::T) id=(if (cY L t).contains id then 1 else 0)+2 * tlB L 0 T id:=by
 rw[← pS];rfl
theorem BK {a b x y:Nat}(ha:a≤1)(hb:b≤1)(h:a≤b)(k:x &&& y=x):(a+2 * x) &&& (b+2 * y)=a+2 * x:=by
 refine Nat.eq_of_testBit_eq fun j=>?_;rw[Nat.testBit_and];cases j with
 | zero =>
  rw[Nat.testBit_zero,Nat.testBit_zero];have h1:(a+2 * x) % 2=a:=oM;have h2:(b+2 * y) % 2=b:=oM;rw[h1,h2];by_cases e:a=1
  ·have:b=1:=oM;simp[e,this]
  ·simp[e]
 | succ j =>
  rw[Nat.testBit_succ,Nat.testBit_succ,show (a+2 * x) / 2=x by omega,show (b+2 * y) / 2=y by omega,← Nat.testBit_and,k]
theorem wk (L:List Cl){a b:Int}:∀ {T:List (List Int)},(∀ t∈T,(cY L t).contains a=true→(cY L t).contains b=true)→tlB L 0 T a &&& tlB L 0 T b=tlB L 0 T a
 | [],_=>by simp[tlB]
 | t::T,h=>by
  rw[k8,k8];refine BK (by split <;> omega) (by split <;> omega) ?_ (wk L fun u hu=>h u (by simp[hu]));have:=h t (by simp);split
  ·rename_i h1;rw[zf4 (this h1)];exact lR _
  ·exact ze9 _
theorem mh {L:List Cl}(h:Rt L){T:List (List Int)}(hT:T.length≤4)(hf:L.length≤60)(hd:∀ c∈L,c.dim≤4)(hs:∀ c∈L,c.sides.length≤60):Cov L (tlB L 0 T) T.length :=
 ⟨h,hT,fun c _=>ia L c.id T,fun c hc x hx=>wk L fun t _ hc1=>mW h t c hc hc1 x hx,hf,hd,hs⟩
theorem vy {L:List Cl}(h:Rt L){T:List (List Int)}(hT:T.length≤4)(hf:L.length≤60)(hd:∀ c∈L,c.dim≤4)(hs:∀ c∈L,c.sides.length≤60):Rt (ct L T):=by
 unfold ct;rw[rM];exact (mh h hT hf hd hs).right
section
variable {L:List Cl}{f:Int→Nat}{n:Nat}(h:Cov L f n)
include h
theorem Cov.deg {c:Cl}(hc:c∈L){s:Nat}(hs:s∈bH (f c.id)):ii n (bId n (ixB L c.id) s)=(onesB s:Int) - 1:=by
 have:=(h.s16 hc hs).1;unfold ii bId;rw[Int.toNat_natCast,Nat.mul_comm,Nat.mul_add_mod,Nat.mod_eq_of_lt this]
end
theorem xR (E:World)(g:PH)(s:Own)(v:Value)(l:List Int)(x:Int)(hv:bZ g v l)(hl:l.length<1099511627776) :
  Ctr Tryz.prog E 100 #[v,vi x] g s (fun r g' s'=>(∃ n:Int,r=vi n∧decide (n≥0)=l.contains x)∧g=g'∧s=s'):=by
 obtain ⟨p,c,rfl⟩:=za2 hv;refine za9 (args:=[.slice p l.length c,vi x]) func100 I ntmps100 (bE I) ?_;refine rZ (aT I (sQ (sW I (lU (eN aj I) (lM I (tZ (bK ?_)))))));refine oP (ι:=Nat) (fun k=>[(0,.slice p l.length c),(1,vi x),(7,vi l.length),(8,vi k)]) (fun _=>g) (fun _=>s) (fun k=>k≤l.length∧x ∉ l.take k) (fun k=>l.length - k) 0 sB I I ⟨ze9 _,by simp⟩ ?_;rintro k ⟨hk,hno⟩;refine rZ (yL I (tZ (sQ ?_)));refine iP I (fun hlt=>?_) (fun hlt=>?_)
 ·have hkl:k<l.length:=oM;have hb1:=za4 hv oM;have hgx:l[((k:Nat):Int).toNat]?=some l[k]:=gE hkl;refine kP (tN (sQ (bK (sW I (aT I (sW I (lM I (lM I (lU (iA aj zT3 I I hb1 oM sL) (lK (eB iT3 I (za5 hv) hgx I) (yE I (tZ ?_))))))))))));refine iP I (fun he=>?_) (fun he=>?_)
  ·refine sW I (aT I (rE (bR (tR (tR (bR (tR ?_)))))));have hm:l.contains x=true:=by rw[List.contains_iff_mem,he]; exact gM hkl
   exact za6 (.inl I) results100 I ⟨⟨k,I,by rw[hm]; simp⟩,I,I⟩
  ·refine kP (bN (tN (rG (yD I (lM I (nL ?_))))));exact gA (k+1) sB I I ⟨oM,by rw[tS hkl,ze6]; rintro (h | h); exact hno h; simp at h; exact he h⟩ oM
 ·have hkk:l.take k=l:=tL oM;rw[hkk] at hno;refine xI (tX (tX (bX (tN (rZ (aT I (rE ?_)))))));have hm:l.contains x=false:=by rw[← zi8,List.contains_iff_mem]; exact hno
  exact za6 (.inl I) results100 I ⟨⟨-1,I,by rw[hm]; rfl⟩,rfl,rfl⟩
theorem x9 (E:World)(g:PH)(s:Own)(v:Value)(l:List Int)(x:Int)(hv:bZ g v l)(hl:l.length<1099511627776) :
  Ctr Tryz.prog E 64 #[v,vi x] g s (fun r g' s'=>r=vb (l.contains x)∧g=g'∧s=s'):=by
 refine za9 (args:=[v,vi x]) func64 I ntmps64 (bE I) ?_;refine rZ (aT I (sW I (lM I (lW (cL call100 I (xR E g _ v l x hv hl)) ?_))));rintro _ _ _ ⟨⟨n,rfl,hn⟩,rfl,rfl⟩;refine lU (gQ I I) (aT I (rE ?_));exact za6 (.inl I) results64 I ⟨by rw[hn],I,I⟩
def atP (L:List Cl):List (Int×Value):=L.zipIdx.map fun q=>(q.1.id,vi q.2)
theorem Ac (L:List Cl)(c:Cl):atP (L++[c])=atP L++[(c.id,vi L.length)]:=by
 unfold atP;rw[List.zipIdx_append,zf8];simp
theorem wX {L:List Cl}{c:Cl}(h:∀ d∈L,d.id≠c.id):jb (atP L) c.id (vi L.length)=atP (L++[c]):=by
 rw[Ac];refine iq _ _ _ fun p hp=>?_;obtain ⟨q,hq,rfl⟩:=ze5.1 hp;exact h q.1 (zf5 (List.mem_zipIdx_iff_getElem?.1 hq))
theorem kE (id:Int):∀ (L:List Cl) (k:Nat),e8 (L.zipIdx k |>.map fun q=>(q.1.id,vi q.2)) id=none∧aO L id=none∨∃ c i,aO L id=some c∧L[i]?=some c∧e8 (L.zipIdx k |>.map fun q=>(q.1.id,vi q.2)) id=some (vi (k+i:Nat))
 | [],_=>.inl ⟨rfl,rfl⟩
 | d::L,k=>by
  rw[List.zipIdx_cons,zf7,bI];unfold aO;rw[List.find?_cons];by_cases e:id=d.id
  ·refine .inr ⟨d,0,?_,I,?_⟩
   ·rw[zf2 (show d.id=id from e.symm)]
   ·rw[zf4 e];rfl
  ·rw[zf3 e,zf1 (fun h:d.id=id=>e h.symm)]
   rcases kE id L (k+1) with ⟨h1,h2⟩ | ⟨c,i,h1,h2,h3⟩
   ·exact .inl ⟨h1,h2⟩
   ·exact .inr ⟨c,i+1,h1,h2,by rw[h3]; congr 2; omega⟩
theorem rN {L:List Cl}(hL:Rt L)(id:Int):(e8 (atP L) id=none∧aO L id=none)∨∃ c,aO L id=some c∧L[ixB L c.id]?=some c∧c.id=id∧e8 (atP L) id=some (vi (ixB L c.id:Nat)):=by
 rcases kE id L 0 with h | ⟨c,i,h1,h2,h3⟩
 ·exact .inl h
 ·refine .inr ⟨c,h1,?_,(cX h1).2,?_⟩
  ·rw[hL.ix h2]; exact h2
  ·rw[hL.ix h2,← Nat.zero_add i]; exact h3
def vW (g:PH)(v:Value)(L:List Cl)(T:List (List Int)):Prop :=
 ∃ b m cv iv,v=pp b 0∧g b=some (.cells #[cv,.map (some m),iv,vi T.length] 75 (0,0))∧aq g cv L∧Mp g m (atP L)∧bZ g iv (L.map fun c=>((tlB L 0 T c.id:Nat):Int))
theorem vW.mono {g g':PH}{v:Value}{L:List Cl}{T:List (List Int)}(h:vW g v L T)(hl:Le g g'):vW g' v L T:=by
 obtain ⟨b,m,cv,iv,h1,h2,h3,h4,h5⟩:=h;exact⟨b,m,cv,iv,h1,hl _ _ h2,h3.mono hl,h4.mono hl,za3 h5 hl⟩
theorem ve {L:List Cl}(hL:Rt L)(F:Cl→Int){c:Cl}(hc:L[ixB L c.id]?=some c)(y:Int):(L.map F).set (ixB L c.id) y=L.map fun d=>if d.id=c.id then y else F d:=by
 refine List.ext_getElem? fun i=>?_;rw[List.getElem?_set,zh3,zh3,zd9];cases hi:L[i]? with
 | none =>
  have h1:L.length≤i:=List.getElem?_eq_none_iff.1 hi;split
  ·rw[zf3 oM]; rfl
  ·rfl
 | some d =>
  have h1:=hL.ix hi;by_cases e:d.id=c.id
  ·have e2:ixB L c.id=i:=by rw[← e]; exact h1
   have h2:=(ze8.1 hi).1;rw[zf4 e2,zf4 oM];show some y=some (if d.id=c.id then y else F d);rw[zf4 e]
  ·have e2:ixB L c.id≠i:=fun h=>by
    rw[h,hi] at hc;injection hc with hc
    exact e (by rw[hc])
   rw[zf3 e2];show some (F d)=some (if d.id=c.id then y else F d);rw[zf3 e]
theorem Ce:∀ k:Nat,k<6→∀ x:Nat,x<64→x<2 ^ k→IntKind.i64.wrap (BitVec.ofInt IntKind.i64.bits (x:Int) ||| BitVec.ofInt IntKind.i64.bits ((2 ^ k:Nat):Int)).toNat=((x+2 ^ k:Nat):Int):=by decide +kernel
theorem wq:∀ n:Nat,n<10→IntKind.i64.wrap (1 * 2 ^ min ((n:Nat):Int).toNat IntKind.i64.bits)=((2 ^ n:Nat):Int):=by decide
theorem Tryz.build75 (q:Option Addr)(n k m:Nat)(t:Int)(w:World):(Instr.build 75 #[(0,.slice q n k),(1,.map (some m)),(3,vi t)]).run Tryz.prog w = .ok (.agg #[.slice q n k,.map (some m),.slice none 0 0,vi t]) w:=by
 have h1:∀ n,(vi n).cells = #[vi n]:=fun _=>rfl;have h2:(Value.slice q n k).cells = #[.slice q n k]:=rfl;have h3:(Value.map (some m)).cells = #[.map (some m)]:=rfl;simp[Instr.build,Instr.fill,h1,h2,h3];rfl
def uv (L:List Cl)(T:List (List Int))(ids:List Int)(c:Cl):Nat:=tlB L 0 T c.id+if ids.contains c.id then 2 ^ T.length else 0
set_option maxHeartbeats 2000000
theorem jx {l:List Cl}{T:List (List Int)}(h:dI l T=0):(aY l).2=0∧T.length≤6:=by
 unfold dI at h;split at h
 ·rename_i h1; exact absurd h h1
 ·rename_i h1;split at h
  ·cases h
  ·rename_i h2; exact⟨zg3 h1,oM⟩
theorem x7 {L:List Cl}{T:List (List Int)}:(L.map fun c=>((tlB L 0 T c.id:Nat):Int)).contains 0=L.any fun c=>decide (tlB L 0 T c.id=0):=by
 rw[Bool.eq_iff_iff,List.contains_iff_mem,zi9,ze5];constructor
 ·rintro ⟨c,hc,h⟩; exact⟨c,hc,by simpa using Int.ofNat_eq_zero.1 h⟩
 ·rintro ⟨c,hc,h⟩; exact⟨c,hc,by simp at h; rw[h]; rfl⟩
theorem l5 (E:World)(hE:E.drawn=0)(g:PH)(s:Own)(v tv:Value)(l:List Cl)(T:List (List Int))(hv:aq g v l)(hf:c4 l)(hw:∀ c∈l,gD c.id)(ht:aK g tv T)(hT:T.length<1099511627776)(hTl:∀ t∈T,t.length<1099511627776) :
  Ctr Tryz.prog E 30 #[.agg #[v],tv] g s (fun x g' s'=>s=s'∧Le g g'∧∃ pv,x = .tuple #[pv,vi (dI l T)]∧(dI l T=0→vW g' pv (ae l) T)):=by
 obtain ⟨rs,hrs,hall⟩:=ht;have hlen:=hall.length;obtain ⟨q,c,rfl⟩:=za2 hrs;obtain ⟨vp,vc,rfl⟩:=hv.form;refine za9 (args:=[.agg #[.slice vp l.length vc],.slice q rs.length c]) func30 I ntmps30 (bE I) ?_;refine rZ (bW (bO I) fun b2=>?_);refine lA I (aT I (sQ (rZ (lK (qV 0 bD aA I I I) (lW (cL call24 I (kA E g _ _ l hv hf)) ?_)))));rintro _ _ _ ⟨rfl,rfl,rfl⟩;refine lM I (yX I (yX I (lA I (aT I (sW I (lU (nQ I I) (tZ ?_)))))));refine iP I (fun hbad=>?_) (fun hbad=>?_)
 ·refine sW I (lA I (aT I (rE (tR ?_))));have he:dI l T=(aY l).2:=by unfold dI; rw[zf4 hbad]
  refine dR (s':=s) uR ?_;exact ST.ret2 (.inl I) results30 I I ⟨I,zb7 g,_,by rw[he]; rfl,fun h=>absurd (he ▸ h) hbad⟩
 ·have hok:(aY l).2=0:=zg3 hbad;have hRt:=kO hok;have hLt:ae l=aa l:=by
   have h1:=hRt.tab;unfold ae at h1 ⊢;rw[hRt.canon] at h1;exact h1
  refine kP (tN (sQ (sW I (lU (eN bL I) (lU (gR I I) (tZ ?_))))));refine iP I (fun hmany=>?_) (fun hmany=>?_)
  ·refine rZ (lA I (aT I (rE (tR ?_))));have he:dI l T=2:=by unfold dI; rw[zf3 hbad,zf4 oM]
   refine dR (s':=s) uR ?_;exact ST.ret2 (.inl I) results30 I I ⟨I,zb7 g,_,by rw[he],fun h=>by rw[he] at h; cases h⟩
  ·have hT6:T.length≤6:=oM;refine kP (tN (rZ (lK (qV 0 bD aA I I I) (lW (cL call51 I (i6 E g _ _ l hv hf)) ?_))));rintro _ g1 _ ⟨rfl,hle1,u,rfl,hu⟩;obtain ⟨up,uc,rfl⟩:=hu.form;refine lU (SU.field dg I dV I I) (lW (SO.mkMap) ?_);rintro _ _ _ ⟨b33,rfl,rfl,rfl⟩;refine lM I (lU (eN bL I) (lU (za1 I (build75 _ _ _ _ _)) (bW (bO I) fun b37=>?_)));refine aT I (sQ (sW I (lU (nC I) (lU (fA m4 I cw I) (lK (qL dV I (cO 0 I I)) (lU (eN aJ I) (lM I (tZ (bK ?_)))))))));have hid:∀ k (hk:k<(aa l).length),∀ d∈(aa l).take k,d.id≠(aa l)[k].id:=fun k hk d hd e=>by
    obtain ⟨i,hi,rfl⟩:=List.mem_iff_getElem.1 hd;rw[zd7] at hi;rw[List.getElem_take] at e;have:=zc5.1 hRt.asc i k oM hk oM;omega
   have hLl:(aa l).length<1099511627776:=by have:=hRt.few; omega
   have hinz:∀ id,tlB (aa l) 0 [] id=0:=fun id=>rfl;generalize hLd:aa l=L at *;obtain ⟨us,hus,hallu⟩:=hu;have hul:=hallu.length;refine oP (ι:=Nat) (fun k=>[(1,.slice q rs.length c),(2,pp b2 0),(8,pp b37 0),(41,.slice up L.length uc),(42,vi L.length),(43,vi k)]) (fun _=>g1) (fun k=>pt b37 (.cells #[.slice up L.length uc,.map (some b33),.slice none 0 0,vi rs.length] 75 (0,0))::mp b33 (atP (L.take k))::pt b2 (.cells #[.slice vp l.length vc] 30 (0,0))::s) (fun k=>k≤L.length) (fun k=>L.length - k) 0 sB I I (ze9 _) ?_;rintro k hk;refine rZ (yL I (tZ (sQ ?_)));refine iP I (fun hlt=>?_) (fun hlt=>?_)
   ·have hkl:k<L.length:=oM;have hku:k<us.length:=oM;have hR:=hallu.get (gE hkl) (gE hku);have hb1:=za4 hus oM;have hgr:us[((k:Nat):Int).toNat]?=some us[k]:=gE hku;have hput:=wX (hid k hkl);rw[zd7,Nat.min_eq_left oM,← tS hkl,← hR.1] at hput;generalize us[k]=r at *;refine kP (tN (sQ (bK (sW I (lU (iA aJ az I I hb1 oM sL) (lK (eA eL az I (za5 hus) hgr) (bW (aL zk4) fun b10=>?_)))))));refine lA I (oZ (sK 0 az I I I I I sB) (tZ ?_));refine dW [7] [(0,2),(1,2),(2,2),(3,1),(4,2),(5,1),(6,2),(7,0)] zd6 kR ?_;refine yM I (pU I (nC I) (pU I (fA m4 I sizeOf73 I) (pK I (qL (v:=.map (some b33)) isAgg73 I (cO 1 I I)) (pU I (fA ar I zT3 I) (pK I (qL (v:=vi r.id) iT3 I (cO 0 I I)) (yM I (SP.on I (SO.mapUpdate 2 mty73 I I I I) (.inl dC) ?_)))))));rintro _ _ _ ⟨rfl,rfl⟩;rw[hput];refine pN (bN (tN (rG (yD I (lM I (nL (dR (.cons _ (.refl _)) ?_)))))));exact gA (k+1) sB I I oM oM
   ·have hkk:k=L.length:=oM;subst hkk;rw[List.take_length];refine xI (tX (tX (bX (tN (sW I (lM I (lU (nC I) (lU (fA m4 I cw I) (lK (qL (v:=.slice up L.length uc) dV I (cO 0 I I)) (lU (eN aJ I) (lW (mK encInt 0 sty25 I I I oM oM) ?_)))))))))));rintro _ _ _ ⟨bi,rfl,rfl,rfl⟩;refine lU (nC I) (lU (fA m4 I cg I) (oZ (SO.store1 1 cg I I I I (by show 2<4; decide) I) ?_));refine tZ (sQ (sQ ?_));refine SC.to (g':=g1) (s':=rowA encInt 3 (.slice (some ⟨bi,0,none⟩) L.length L.length) (L.map fun c=>((tlB L 0 (T.take 0) c.id:Nat):Int))::pt b37 (.cells #[.slice up L.length uc,.map (some b33),.slice (some ⟨bi,0,none⟩) L.length L.length,vi rs.length] 75 (0,0))::mp b33 (atP L)::pt b2 (.cells #[.slice vp l.length vc] 30 (0,0))::s) (fun w hw=>by rw[show (L.map fun c=>((tlB L 0 (T.take 0) c.id:Nat):Int))=List.replicate L.length 0 from (by rw[List.take_zero]; show (L.map fun _=>(0:Int))=_; exact List.map_const')]; exact hw) ?_;refine rG (lM I (lU (eN bL I) (lM I (tZ (bK ?_)))));refine oP (ι:=PH×Nat) (fun z=>[(1,.slice q rs.length c),(2,pp b2 0),(8,pp b37 0),(65,.slice q rs.length c),(66,vi rs.length),(67,vi z.2)]) (fun z=>z.1) (fun z=>rowA encInt 3 (.slice (some ⟨bi,0,none⟩) L.length L.length) (L.map fun c=>((tlB L 0 (T.take z.2) c.id:Nat):Int))::pt b37 (.cells #[.slice up L.length uc,.map (some b33),.slice (some ⟨bi,0,none⟩) L.length L.length,vi rs.length] 75 (0,0))::mp b33 (atP L)::pt b2 (.cells #[.slice vp l.length vc] 30 (0,0))::s) (fun z=>Le g1 z.1∧z.2≤rs.length∧((T.take z.2).any fun t=>t.any fun id=>(aO L id).isNone)=false) (fun z=>rs.length - z.2) (g1,0) sB I I ⟨zb7 _,ze9 _,by simp⟩ ?_;rintro ⟨g2,k⟩ ⟨hle2,hk,hno⟩;dsimp only at hle2 hk hno ⊢;refine rZ (yL I (tZ (sQ ?_)));refine iP I (fun hlt2=>?_) (fun hlt2=>?_)
    ·have hkr:k<rs.length:=oM;have hkT:k<T.length:=oM;have hb1:=za4 hrs oM;have hTk:=hTl _ (gM hkT);have hRk:=(hall.get (gE hkT) (gE hkr)).mono (hle1.trans hle2);have hRl:=hRk.len;have hgr:rs[((k:Nat):Int).toNat]?=some rs[k]:=gE hkr;have htk:T.take (k+1)=T.take k++[T[k]]:=tS hkT;generalize rs[k]=r at *;obtain ⟨rp,rn,rc⟩:=r;dsimp only at hRl;generalize T[k]=t at *;subst hRl;have hxs:bZ g2 (.slice rp t.length rc) t:=hRk;refine kP (tN (sQ (bK (sW I (lU (iA bL cg I I hb1 oM sL) (lK (eB (u:=.slice rp t.length rc) dG I (za5 (za3 hrs (hle1.trans hle2))) hgr I) (lA I (aT I (sQ (sW I (lU (eN aj I) (lM I (tZ (bK ?_))))))))))))));refine oP (ι:=Nat) (fun j=>[(1,.slice q rs.length c),(2,pp b2 0),(8,pp b37 0),(11,vi k),(12,.slice rp t.length rc),(65,.slice q rs.length c),(66,vi rs.length),(67,vi k),(72,.slice rp t.length rc),(73,vi t.length),(74,vi j)]) (fun _=>g2) (fun _=>rowA encInt 3 (.slice (some ⟨bi,0,none⟩) L.length L.length) (L.map fun c=>((tlB L 0 (T.take k) c.id:Nat):Int))::pt b37 (.cells #[.slice up L.length uc,.map (some b33),.slice (some ⟨bi,0,none⟩) L.length L.length,vi rs.length] 75 (0,0))::mp b33 (atP L)::pt b2 (.cells #[.slice vp l.length vc] 30 (0,0))::s) (fun j=>j≤t.length∧((t.take j).any fun id=>(aO L id).isNone)=false) (fun j=>t.length - j) 0 sB I I ⟨ze9 _,by simp⟩ ?_;rintro j ⟨hj,hjno⟩;refine rZ (yL I (tZ (sQ ?_)));refine iP I (fun hlt3=>?_) (fun hlt3=>?_)
     ·have hjt:j<t.length:=oM;have hb2:=za4 hxs oM;have hgj:t[((j:Nat):Int).toNat]?=some t[j]:=gE hjt;have hst:t.take (j+1)=t.take j++[t[j]]:=tS hjt;have hjm:t[j]∈t:=gM hjt;generalize t[j]=id at *
      rcases rN hRt id with ⟨h1,h2⟩ | ⟨cx,h1,h2,h3,h4⟩
      ·refine kP (tN (sQ (bK (rZ (lU (iA aj zT3 I I hb2 oM sL) (lK (eB iT3 I (za5 hxs) hgj I) (aT I (sW I (lU (nC I) (lU (fA m4 I sizeOf73 I) (lK (qL (v:=.map (some b33)) isAgg73 I (cO 1 I I)) (lM I (lK (SQ.eq (v':=.tuple #[vi 0,vb false]) (SQ.lookupOk mty73 I I (cU.own 2 I)) (by rw[h1]; rfl)) ?_)))))))))))));refine lM I (yX I (yX I (lA I (aT I (sW I (lU (SU.not I) (tZ (cT I (rZ (lA I (aT I (rE (bR (tR (tR (bR (tR (bR (tR (tR (bR ?_)))))))))))))))))))));refine tR ?_;have he:dI l T=30:=by
        unfold dI;rw[zf3 hbad,zf3 oM,zf4];rw[hLt];refine zi9.2 ⟨t,List.mem_of_mem_take (i:=k+1) (by rw[htk]; simp),zi9.2 ⟨id,hjm,by rw[h2]; rfl⟩⟩
       refine dR (s':=s) uR ?_;exact ST.ret2 (.inl I) results30 I I ⟨I,hle1.trans hle2,_,by rw[he],fun h=>by rw[he] at h; cases h⟩
      ·refine kP (tN (sQ (bK (rZ (lU (iA aj zT3 I I hb2 oM sL) (lK (eB iT3 I (za5 hxs) hgj I) (aT I (sW I (lU (nC I) (lU (fA m4 I sizeOf73 I) (lK (qL (v:=.map (some b33)) isAgg73 I (cO 1 I I)) (lM I (lK (SQ.eq (v':=.tuple #[vi (ixB L cx.id:Nat),vb true]) (SQ.lookupOk mty73 I I (cU.own 2 I)) (by rw[h4]; rfl)) ?_)))))))))))));refine lM I (yX I (yX I (lA I (aT I (sW I (lU (SU.not I) (tZ (cF I (kP (bN (tN (rG (yD I (lM I (nL ?_)))))))))))))));exact gA (j+1) sB I I ⟨oM,by rw[hst,List.any_append,hjno]; simp[h1]⟩ oM
     ·have hjj:j=t.length:=oM;subst hjj;rw[List.take_length] at hjno;refine xI (tX (tX (bX (tN (rZ (lK (qV 3 bD aA I I I) (lM I (lW (cL call63 I (vw E hE g2 _ _ _ l t (hv.mono (hle1.trans hle2)) hf hxs hTk hw)) ?_))))))));rintro v92 g3 _ ⟨rfl,hle3,hcl⟩;obtain ⟨cp,cc,rfl⟩:=za2 hcl;refine lU (eN aj I) (lM I (tZ (bK ?_)));have hcll:=pD l t;rw[hLt] at hcll;have hcn:(eJ l t).Nodup:=by
       rw[hcll];have h1:(L.map Cl.id).Nodup:=by
        rw[List.Nodup,zj4];exact hRt.asc.imp fun h=>by omega
       exact (List.filter_sublist.map _).nodup h1
      have hcm:∀ id∈eJ l t,∃ cx,cx∈L∧cx.id=id:=fun id h=>by
       rw[hcll] at h;obtain ⟨cx,h1,rfl⟩:=ze5.1 h;exact⟨cx,(zg7.1 h1).1,I⟩
      have hcb:∀ cx∈L,(eJ l t).contains cx.id=(cY L t).contains cx.id:=fun cx h=>by
       rw[Bool.eq_iff_iff,hcll,List.contains_iff_mem,ze5];constructor
       ·rintro ⟨d,h1,h2⟩;rw[← h2];exact (zg7.1 h1).2
       ·intro h1;exact⟨cx,zg7.2 ⟨h,h1⟩,I⟩
      have hcle:(eJ l t).length≤L.length:=by
       rw[hcll,zd9];exact zc1 _ _
      generalize eJ l t=cl at *;refine oP (ι:=Nat) (fun j=>[(1,.slice q rs.length c),(2,pp b2 0),(8,pp b37 0),(11,vi k),(65,.slice q rs.length c),(66,vi rs.length),(67,vi k),(92,.slice cp cl.length cc),(93,vi cl.length),(94,vi j)]) (fun _=>g3) (fun j=>rowA encInt 3 (.slice (some ⟨bi,0,none⟩) L.length L.length) (L.map fun c=>((uv L (T.take k) (cl.take j) c:Nat):Int))::pt b37 (.cells #[.slice up L.length uc,.map (some b33),.slice (some ⟨bi,0,none⟩) L.length L.length,vi rs.length] 75 (0,0))::mp b33 (atP L)::pt b2 (.cells #[.slice vp l.length vc] 30 (0,0))::s) (fun j=>j≤cl.length) (fun j=>cl.length - j) 0 sB I (by rw[List.take_zero]; rfl) (ze9 _) ?_;rintro j hj;refine rZ (yL I (tZ (sQ ?_)));refine iP I (fun hlt4=>?_) (fun hlt4=>?_)
      ·have hjc:j<cl.length:=oM;have hb3:=za4 hcl oM;have hgj:cl[((j:Nat):Int).toNat]?=some cl[j]:=gE hjc;have hst:cl.take (j+1)=cl.take j++[cl[j]]:=tS hjc;have hnew:cl[j] ∉ cl.take j:=fun h=>by
        obtain ⟨i,hi,e⟩:=List.mem_iff_getElem.1 h;rw[zd7] at hi;rw[List.getElem_take] at e;exact absurd e (zc5.1 hcn i j oM hjc oM)
       obtain ⟨cx,hcx,hcid⟩:=hcm _ (gM hjc);generalize cl[j]=id at *;subst hcid;have hix:=hRt.ix_get hcx
       rcases rN hRt cx.id with ⟨h1,h2⟩ | ⟨cy,h1,h2,h3,h4⟩
       ·rw[hRt.find hcx] at h2; cases h2
       rw[hRt.find hcx] at h1;cases h1;have hixl:=(ze8.1 hix).1;have hmid:uv L (T.take k) (cl.take j) cx=tlB L 0 (T.take k) cx.id:=by
        unfold uv;rw[zf3 (by rw[List.contains_iff_mem]; exact hnew),Nat.add_zero]
       have hge:(L.map fun c=>((uv L (T.take k) (cl.take j) c:Nat):Int))[ixB L cx.id]?=some ((tlB L 0 (T.take k) cx.id:Nat):Int):=by
        rw[zh3,hix,← hmid];rfl
       have htl:(T.take k).length=k:=by rw[zd7]; omega
       have hlt5:=ia L cx.id (T.take k);rw[htl] at hlt5;have h64:tlB L 0 (T.take k) cx.id<64:=Nat.lt_of_lt_of_le hlt5 (Nat.pow_le_pow_right dC (show k≤6 by omega));have hset:=ve hRt (fun c=>((uv L (T.take k) (cl.take j) c:Nat):Int)) hix ((tlB L 0 (T.take k) cx.id+2 ^ k:Nat):Int);have hset2:(L.map fun d=>if d.id=cx.id then ((tlB L 0 (T.take k) cx.id+2 ^ k:Nat):Int) else ((uv L (T.take k) (cl.take j) d:Nat):Int))=L.map fun c=>((uv L (T.take k) (cl.take (j+1)) c:Nat):Int):=zc4 fun d _=>by
        unfold uv;rw[hst,htl];by_cases e:d.id=cx.id
        ·rw[zf4 e,e,zf4 (by simp)]
        ·rw[zf3 e];congr 2;have:(cl.take j++[cx.id]).contains d.id=(cl.take j).contains d.id:=by
          rw[Bool.eq_iff_iff,List.contains_iff_mem,List.contains_iff_mem,ze6];simp[e]
         rw[this]
       rw[hset2] at hset;refine kP (tN (sQ (bK (rZ (lU (iA aj zT3 I I hb3 oM sL) (lK (eB iT3 I (za5 hcl) hgj I) (aT I ?_)))))));refine dW [16] [(0,2),(1,2),(2,2),(3,1),(4,2),(5,2),(6,2),(7,1),(8,2),(9,1),(10,2),(11,1),(12,2),(13,2),(14,2),(15,2),(16,0)] zd6 kR ?_;refine yM I (pU I (nC I) (pU I (fA m4 I cg I) (pK I (qL (v:=.slice (some ⟨bi,0,none⟩) L.length L.length) dG I (cO 1 I I)) (yM I (pU I (nC I) (pU I (fA m4 I sizeOf73 I) (pK I (qL (v:=.map (some b33)) isAgg73 I (cO 1 I I)) (yM I (pK I (SQ.eq (v':=vi (ixB L cx.id:Nat)) (SQ.lookup mty73 I I (cU.own 2 I)) (by rw[h4]; rfl)) ?_)))))))));refine pU I (SU.eq (v':=.pointer (some ⟨bi,0+ixB L cx.id * 1,none⟩)) (iA aj zT3 I I I oM sL) I) (pK I (eB (j:=ixB L cx.id) iT3 I (zb5 0 I) hge I) (yM I (pU I (SU.eq (v':=vi (2 ^ k:Nat)) (SU.shl I I oM) (zd5 vi (wq k oM))) (pU I (SU.eq (v':=vi (tlB L 0 (T.take k) cx.id+2 ^ k:Nat)) (SU.or I I) (zd5 vi (Ce k oM _ h64 hlt5))) (pU I (SU.eq (v':=.pointer (some ⟨bi,0+ixB L cx.id * 1,none⟩)) (iA aj zT3 I I I oM sL) I) (SP.on I (sT (e:=encInt) (a:=((tlB L 0 (T.take k) cx.id+2 ^ k:Nat):Int)) (j:=ixB L cx.id) 0 zT3 I I I (by rw[zd9]; exact hixl) I) (.inl dC) ?_))))));rintro _ _ _ ⟨rfl,rfl⟩;rw[hset];refine pN (bN (tN (rG (yD I (lM I (nL ?_))))));exact gA (j+1) sB I I oM oM
      ·have hjj:j=cl.length:=oM;subst hjj;refine xI (tX (tX (bX (bN (tN (rG (yD I (lM I (nL ?_)))))))));refine ST.to (g':=g3) (s':=rowA encInt 3 (.slice (some ⟨bi,0,none⟩) L.length L.length) (L.map fun c=>((tlB L 0 (T.take (k+1)) c.id:Nat):Int))::pt b37 (.cells #[.slice up L.length uc,.map (some b33),.slice (some ⟨bi,0,none⟩) L.length L.length,vi rs.length] 75 (0,0))::mp b33 (atP L)::pt b2 (.cells #[.slice vp l.length vc] 30 (0,0))::s) (fun w hw=>by
        have e:(L.map fun c=>((tlB L 0 (T.take (k+1)) c.id:Nat):Int))=L.map fun c=>((uv L (T.take k) (cl.take cl.length) c:Nat):Int):=zc4 fun d hd=>by
         unfold uv;rw[htk,wl,List.take_length,hcb d hd,Nat.zero_add]
        rw[e];exact hw) ?_
       exact gA (g3,k+1) sB I I ⟨hle2.trans hle3,by dsimp only; omega,by dsimp only; rw[htk,List.any_append,hno]; simp only[List.any_cons,List.any_nil,Bool.or_false,Bool.false_or]; exact hjno⟩ (by dsimp only; omega)
    ·have hkk:k=rs.length:=oM;subst hkk;rw[← hlen,List.take_length] at hno ⊢;refine fS fun g5 hle5 hr5=>?_;refine SC.freeze fun g6 hle6 hb6=>?_;refine SC.freezeMap fun g7 hle7 hm7=>?_;have hle17:Le g1 g7:=hle2.trans (hle5.trans (hle6.trans hle7));have hr7:bZ g7 (.slice (some ⟨bi,0,none⟩) L.length L.length) (L.map fun c=>((tlB L 0 T c.id:Nat):Int)):=by
      have h1:bZ g5 (.slice (some ⟨bi,0,none⟩) L.length L.length) (L.map fun c=>((tlB L 0 T c.id:Nat):Int)):=hr5;exact za3 h1 (hle6.trans hle7)
     have hany:=x7 (L:=L) (T:=T);refine xI (tX (tX (bX (tN (sQ (sW I (lU (nC I) (lU (fA m4 I cg I) (lK (qL (v:=.slice (some ⟨bi,0,none⟩) L.length L.length) dG I (cK (hle7 _ _ hb6) I)) (lW (cL call64 I (x9 E g7 _ _ _ 0 hr7 (by rw[zd9]; omega))) ?_))))))))));rintro _ _ _ ⟨rfl,rfl,rfl⟩;rw[hany];refine tZ ?_;have he:dI l T=if L.any (fun c=>decide (tlB L 0 T c.id=0)) then 45 else 0:=by
      unfold dI;rw[zf3 hbad,zf3 oM,hLt,hno,zf3 (by simp)]
     refine iQ I (fun hc=>?_) (fun hc=>?_)
     ·refine rZ (lA I (aT I (rE (tR ?_))));rw[hc,zf4 rfl] at he;refine dR (s':=s) uR ?_;exact ST.ret2 (.inl I) results30 I I ⟨I,hle1.trans hle17,_,by rw[he],fun h=>by rw[he] at h; cases h⟩
     ·refine kP (tN (sW I (lA I (aT I (rE ?_)))));rw[hc,zf3 (by simp)] at he;refine dR (s':=s) uR ?_;exact ST.ret2 (.inl I) results30 I I ⟨I,hle1.trans hle17,_,by rw[he],fun _=>by rw[hLt]; exact⟨b37,b33,_,_,I,hle7 _ _ hb6,aq.mono ⟨us,hus,hallu⟩ hle17,hm7,hr7⟩⟩
theorem SU.andNotB {P:Program}{N:Nat}{f:Fr}{dst:Option Tmp}{ty:TypeId}{pos:String}{af:Array Edge}{gd:Option (Nat×Bool)}{x y:Operand}{T U:TypeId}{k:IntKind}{m n:Int}(hx:ev f x=some (.int k m))(hy:ev f y=some (.int k n)) :
  SU P N ⟨dst,.binOp .andNot T x y U,ty,pos,af,gd⟩ f (.int k (k.wrap (BitVec.ofInt k.bits m &&& ~~~ BitVec.ofInt k.bits n).toNat)):=fun a w ha=>by
 simp only[execOp,ha.ev hx,ha.ev hy,eqGuard,binOp,ne_eq,not_true_eq_false,if_false,Op.intBits]; rfl
def pc1 (n:Nat):Nat:=(n / 2 &&& 6148914691236517205)+(n &&& 6148914691236517205)
def pc2 (n:Nat):Nat:=(pc1 n / 4 &&& 3689348814741910323)+(pc1 n &&& 3689348814741910323)
theorem sk (E:World)(g:PH)(s:Own)(n:Nat)(hn:n<64) :
  Ctr Tryz.prog E 102 #[.int .u64 n] g s (fun x g' s'=>x=vi (onesB n:Nat)∧g=g'∧s=s'):=by
 refine za9 (args:=[.int .u64 n]) func102 I ntmps102 (bE I) ?_;refine rZ (aT I (sW I (lU (SU.eq (v':=.int .u64 (n / 2:Nat)) (SU.shr I I dC) (zd5 (Value.int .u64) (by revert n; decide +kernel))) ?_)));refine lU (SU.eq (v':=.int .u64 (n / 2 &&& 6148914691236517205:Nat)) (SU.and I I) (zd5 (Value.int .u64) (by revert n; decide +kernel))) ?_;refine lM I (lU (SU.eq (v':=.int .u64 (n &&& 6148914691236517205:Nat)) (SU.and I I) (zd5 (Value.int .u64) (by revert n; decide +kernel))) ?_);refine lU (SU.eq (v':=.int .u64 (pc1 n:Nat)) (zd4 I I) (zd5 (Value.int .u64) (by revert n; decide +kernel))) ?_;refine aT I (sW I (lU (SU.eq (v':=.int .u64 (pc1 n / 4:Nat)) (SU.shr I I dC) (zd5 (Value.int .u64) (by revert n; decide +kernel))) ?_));refine lU (SU.eq (v':=.int .u64 (pc1 n / 4 &&& 3689348814741910323:Nat)) (SU.and I I) (zd5 (Value.int .u64) (by revert n; decide +kernel))) ?_;refine lM I (lU (SU.eq (v':=.int .u64 (pc1 n &&& 3689348814741910323:Nat)) (SU.and I I) (zd5 (Value.int .u64) (by revert n; decide +kernel))) ?_);refine lU (SU.eq (v':=.int .u64 (pc2 n:Nat)) (zd4 I I) (zd5 (Value.int .u64) (by revert n; decide +kernel))) ?_;refine aT I (sW I (lU (SU.eq (v':=.int .u64 (pc2 n / 16:Nat)) (SU.shr I I dC) (zd5 (Value.int .u64) (by revert n; decide +kernel))) ?_));refine lM I (lU (SU.eq (v':=.int .u64 (pc2 n / 16+pc2 n:Nat)) (zd4 I I) (zd5 (Value.int .u64) (by revert n; decide +kernel))) ?_);refine lU (SU.eq (v':=.int .u64 (onesB n:Nat)) (SU.and I I) (zd5 (Value.int .u64) (by revert n; decide +kernel))) ?_;refine aT I (sW I (lM I (lU (SU.eq (v':=.int .u64 0) (SU.shr I I dC) (zd5 (Value.int .u64) (by revert n; decide +kernel))) ?_)));refine lU (SU.eq (v':=.int .u64 (onesB n:Nat)) (zd4 I I) (zd5 (Value.int .u64) (by revert n; decide +kernel))) ?_;refine aT I (sW I (lM I (lU (SU.eq (v':=.int .u64 0) (SU.shr I I dC) (zd5 (Value.int .u64) (by revert n; decide +kernel))) ?_)));refine lU (SU.eq (v':=.int .u64 (onesB n:Nat)) (zd4 I I) (zd5 (Value.int .u64) (by revert n; decide +kernel))) ?_;refine aT I (sW I (lM I (lU (SU.eq (v':=.int .u64 0) (SU.shr I I dC) (zd5 (Value.int .u64) (by revert n; decide +kernel))) ?_)));refine lU (SU.eq (v':=.int .u64 (onesB n:Nat)) (zd4 I I) (zd5 (Value.int .u64) (by revert n; decide +kernel))) ?_;refine aT I (sW I (lU (SU.eq (v':=vi (onesB n:Nat)) (zd3 underlying144 uT3 I) (zd5 vi (by revert n; decide +kernel))) ?_));refine lU (SU.eq (v':=vi (onesB n:Nat)) (SU.and I I) (zd5 vi (by revert n; decide +kernel))) ?_;refine aT I (rE ?_);exact za6 (.inl I) results102 I ⟨I,I,I⟩
theorem ku (E:World)(g:PH)(s:Own)(n:Nat)(hn:n<64) :
  Ctr Tryz.prog E 68 #[.int .u64 n] g s (fun x g' s'=>x=vi (onesB n:Nat)∧g=g'∧s=s'):=by
 refine za9 (args:=[.int .u64 n]) func68 I ntmps68 (bE I) ?_;refine rZ (aT I (sQ (cF I (kP (tN (sW I (lW (cL call102 I (sk E g s n hn)) ?_)))))));rintro _ _ _ ⟨rfl,rfl,rfl⟩;refine aT I (rE ?_);exact za6 (.inl I) results68 I ⟨I,I,I⟩
theorem uI (E:World)(g:PH)(s:Own)(n:Int) :
  Ctr Tryz.prog E 69 #[vi n] g s (fun x g' s'=>x=vi (sgP n)∧g=g'∧s=s'):=by
 have hb:0≤n % 2∧n % 2<2:=⟨zj7 _ dC,zj6 _ dC⟩;refine za9 (args:=[vi n]) func69 I ntmps69 (bE I) ?_;refine rZ (aT I (sW I (lU (SU.eq (v':=vi (n % 2)) (SU.and I I) (zd5 vi (oA n))) (lU (SU.eq (v':=vi (2 * (n % 2))) (SU.mulW I I) (zd5 vi (zk1 _ oM))) (lU (sU I I oM) (aT I (rE ?_)))))));exact za6 (.inl I) results69 I ⟨I,I,I⟩
theorem yy {n:Nat}(h:n≤6):2 ^ n≤64:=Nat.pow_le_pow_right dC h (n:=2)
theorem AC {n i s:Nat}(hn:n≤6)(hi:i<1099511627776)(hs:s<64):i * 2 ^ n≤70368744177664∧bId n i s≤70368744177728:=by
 have h1:i * 2 ^ n≤1099511627776 * 64:=Nat.mul_le_mul oM (yy hn);unfold bId;omega
theorem lj (E:World)(g:PH)(s:Own)(v:Value)(L:List Cl)(T:List (List Int))(i t:Nat)(hv:vW g v L T)(hT:T.length≤6)(hi:i<1099511627776)(ht:t<64) :
  Ctr Tryz.prog E 67 #[v,vi i,vi t] g s (fun x g' s'=>x=vi (bId T.length i t)∧g=g'∧s=s'):=by
 obtain ⟨b,m,cv,iv,rfl,hb,-⟩:=hv;have h1:=AC hT hi ht;refine za9 (args:=[pp b 0,vi i,vi t]) func67 I ntmps67 (bE I) ?_;refine rZ (aT I (sW I (lM I (lU (nC I) (lU (fA m4 I zT3 I) (lK (qL (v:=vi T.length) iT3 I (cK hb I)) (lU (SU.eq (v':=vi (i * 2 ^ T.length:Nat)) (SU.shl I I oM) (zd5 vi (by rw[show min ((T.length:Nat):Int).toNat IntKind.i64.bits=T.length from by have:IntKind.i64.bits=64:=I; omega,zk1 _ (by have e:((i:Int) * 2 ^ T.length)=((i * 2 ^ T.length:Nat):Int):=(by rw[Int.natCast_mul,Int.natCast_pow]; rfl); rw[e]; omega),Int.natCast_mul,Int.natCast_pow]; rfl))) ?_)))))));refine lM I (lU (SU.eq (v':=vi (bId T.length i t)) (aD I I oM) (zd5 vi (by unfold bId; omega))) ?_);refine aT I (rE ?_);exact za6 (.inl I) results67 I ⟨I,I,I⟩
theorem vE:∀ s:Nat,s<64→∀ b:Nat,b<64→decide (IntKind.i64.wrap (BitVec.ofInt IntKind.i64.bits (s:Int) &&& ~~~ BitVec.ofInt IntKind.i64.bits (b:Int)).toNat=0)=decide (s &&& b=s):=by decide +kernel
theorem uE (b:Nat){k:Nat}:((List.range (k+1)).filter fun s=>decide (0<s)&&decide (s &&& b=s))=((List.range k).filter fun s=>decide (0<s)&&decide (s &&& b=s))++if 0<k∧k &&& b=k then [k] else []:=by
 rw[List.range_succ,zg9];congr 1;by_cases h:0<k∧k &&& b=k
 ·rw[zf4 h,List.filter_cons_of_pos (by simp[h.1,h.2])];rfl
 ·rw[zf3 h,List.filter_cons_of_neg (by simpa using h)];rfl
theorem uK (E:World){ι:Type}(G:ι→PH)(S:ι→Own)(J:List Nat→ι→Prop)(fn:FuncId)(fc:Array Value)(b:Nat)(hb:b<64)(i0:ι)(h0:J [] i0)
  (hstep:∀ pre s i,J pre i→pre.length≤b→0<s→s≤b→s &&& b=s→cG Tryz.prog E (.func (.func fn) #[] fc) [vi (s:Nat)] (G i) (S i) (fun _ g' s'=>∃ j,G j=g'∧S j=s'∧J (pre++[s]) j)) :
  Ctr Tryz.prog E 65 #[vi b,.func (.func fn) #[] fc] (G i0) (S i0) (fun _ g' s'=>∃ j,G j=g'∧S j=s'∧J (bH b) j):=by
 refine za9 (args:=[vi b,.func (.func fn) #[] fc]) func65 I ntmps65 (bE I) ?_;refine rZ (aT I (bK ?_));refine oP (ι:=Nat×ι) (fun z=>[(0,vi b),(1,.func (.func fn) #[] fc),(4,vi z.1)]) (fun z=>G z.2) (fun z=>S z.2) (fun z=>1≤z.1∧z.1≤b+1∧J ((List.range z.1).filter fun s=>decide (0<s)&&decide (s &&& b=s)) z.2) (fun z=>b+1 - z.1) (1,i0) sB I I ⟨lR _,by dsimp only; omega,by
  show J ((List.range 1).filter fun s=>decide (0<s)&&decide (s &&& b=s)) i0;rw[show (List.range 1)=[0] from rfl,List.filter_cons_of_neg (by simp)];exact h0⟩ ?_
 rintro ⟨k,i⟩ ⟨hk1,hkb,hJ⟩;dsimp only at hk1 hkb hJ ⊢;refine sQ (sW I (lM I (lU (SU.leq I I) (tZ ?_))));refine iP I (fun hle=>?_) (fun hle=>?_)
 ·have hkb2:k≤b:=oM;have hsub:=vE k oM b hb;have htk:=uE b (k:=k);refine kP (tN (sQ (bK (sW I (lM I (lU (SU.andNotB I I) (lU (SU.eq (v':=vb (decide (k &&& b=k))) (eQ I I) (zd5 vb hsub)) (tZ ?_))))))));refine iP I (fun hs=>?_) (fun hs=>?_)
  ·rw[zf4 ⟨oM,hs⟩] at htk;refine rG (lM I (lM I (lW (SO.callV I I (hstep _ k i hJ (zj8 (zc1 _ _) (by rw[zh7]; omega)) oM hkb2 hs)) ?_)));rintro _ _ _ ⟨j,rfl,rfl,hj⟩;refine nL (bN (tN (rG (lM I (yD I (lA I (nL ?_)))))));exact gA (k+1,j) sB I I ⟨by dsimp only; omega,by dsimp only; omega,by dsimp only; rw[htk]; exact hj⟩ (by dsimp only; omega)
  ·rw[zf3 (fun h=>hs h.2),zc2] at htk;refine kP (bN (tN (rG (lM I (yD I (lA I (nL ?_)))))));exact gA (k+1,i) sB I I ⟨by dsimp only; omega,by dsimp only; omega,by dsimp only; rw[htk]; exact hJ⟩ (by dsimp only; omega)
 ·refine xI (tX (tX (bX ?_)));have hkk:k=b+1:=oM;subst hkk;exact ST.ret0 (.inr I) results65 ⟨i,I,I,hJ⟩
def leftB (s j:Nat):Nat:=s - (((eG s).take j).map fun k=>2 ^ k).sum
theorem zG:∀ s:Nat,s<64→∀ j:Nat,j<7→(leftB s j=0↔¬ j<onesB s)∧(j<onesB s→IntKind.i64.wrap (BitVec.ofInt IntKind.i64.bits (leftB s j:Int) &&& BitVec.ofInt IntKind.i64.bits (IntKind.i64.wrap (0 - (leftB s j:Int)))).toNat=((2 ^ (eG s).getD j 0:Nat):Int)∧leftB s (j+1)+2 ^ (eG s).getD j 0=leftB s j∧2 ^ (eG s).getD j 0≤s):=by decide +kernel
theorem yU:∀ s:Nat,s<64→0<s→decide (IntKind.i64.wrap (BitVec.ofInt IntKind.i64.bits (s:Int) &&& BitVec.ofInt IntKind.i64.bits ((s:Int) - 1)).toNat≠0)=decide (1<onesB s):=by decide +kernel
theorem oL:∀ s:Nat,s<64→onesB s≤6:=by decide +kernel
theorem wi:∀ t:Nat,t<64→IntKind.u64.wrap (t:Int)=(t:Int):=by decide
def pJ (L:List Cl)(n s:Nat)(x:ah):ah:=⟨bId n (ixB L x.cell) s,x.sign⟩
def vP (n i s:Nat)(d:Int)(q:Nat×Nat):ah:=⟨bId n i (s - 2 ^ q.1),sgP (q.2+d)⟩
theorem od (L:List Cl)(n i:Nat)(y:Cl)(s:Nat):ki L n i y s=y.sides.map (pJ L n s)++if onesB s≤1 then [] else (eG s).zipIdx.map (vP n i s y.dim):=rfl
theorem vA (E:World)(g:PH)(s:Own)(bx bi by' bo:Nat)(pv ov:Value)(L:List Cl)(T:List (List Int))(i t:Nat)(y:Cl)(r:Rc)(rs:List Rc)(hcov:vW g pv L T)(hL:Rt L)(hT:T.length≤6)(hi:L[i]?=some y)(hy:ay g y r)
  (hbx:g bx=some (.cells #[pv] 65 (0,0))) (hbi:g bi=some (.cells #[vi i] 3 (0,0))) (hby:g by'=some (.cells (encCell.enc r).toArray 63 (0,0))) (ht:t<64) (ht0:0<t) (hrs:rs.length<1099511627776) :
  cG Tryz.prog E (.func (.func 66) #[] #[pp bx 0,pp bi 0,pp by' 0,pp bo 0]) [vi (t:Nat)] g (pt bo (.cells #[ov] 30 (0,0))::rowA encCell 63 ov rs::s)
   (fun _ g' s'=>Le g g'∧∃ ov' r',s'=pt bo (.cells #[ov'] 30 (0,0))::rowA encCell 63 ov' (rs++[r'])::s∧ay g' (bq L T.length i y t) r'):=by
 refine cG.mk (cap:=[pp bx 0,pp bi 0,pp by' 0,pp bo 0]) call66 ?_;obtain ⟨rid,rdim,rp,rn,rc⟩:=r;obtain ⟨h1,h2,hsl⟩:=hy;dsimp only at h1 h2 hsl;have hrn:rn=y.sides.length:=Sl.slen hsl;subst h1 h2 hrn;have hym:y∈L:=zf5 hi;have hf:=hL.form y hym;have hdim:=hf.dim;have hil:i<1099511627776:=by
  have h3:=(ze8.1 hi).1;have h4:=hL.few;omega
 have hcov0:=hcov;obtain ⟨b,m,cv,iv,rfl,hb,hcv,hm,hiv⟩:=hcov;have ho6:=oL t ht;have hsdl:y.sides.length≤64:=by
  have:=hf.cnt;simp only[ax,Bool.or_eq_false_iff,Bool.and_eq_false_iff,decide_eq_false_iff_not] at this;omega
 refine za9 (args:=[vi t,pp bx 0,pp bi 0,pp by' 0,pp bo 0]) func66 I ntmps66 (bE I) ?_;refine SC.cut (ι:=Nat) (fun b6=>[(0,vi t),(1,pp bx 0),(2,pp bi 0),(3,pp by' 0),(4,pp bo 0),(6,pp b6 0)]) (fun _=>g) (fun b6=>pt b6 (.cells #[vi (bId T.length i t),vi (y.dim+(onesB t:Nat) - 1),.slice none 0 0] 63 (0,0))::pt bo (.cells #[ov] 30 (0,0))::rowA encCell 63 ov rs::s) (fun _=>True) ?_ ?_
 ·refine SC.drawX [13] zd6 kR ?_;refine SX.q (i:=0) rfl kR (qL (v:=pp b 0) isAgg65 rfl (cK hbx rfl)) dC (SX.q (i:=1) rfl kR (qL (v:=vi i) iT3 rfl (cK hbi rfl)) dC (SX.u (i:=2) rfl kR (mV rfl) dC (SX.u (i:=4) rfl kR (fA ar rfl zT3 rfl) dC (SX.q (i:=5) rfl kR (qL (v:=vi y.dim) iT3 rfl (cK hby rfl)) dC ?_))));refine SX.u (i:=6) I kR (mV I) dC (SX.u (i:=7) I kR (SU.eq (v':=.int .u64 t) (zd3 uT3 i8 I) (zd5 (Value.int .u64) (wi t ht))) dC ?_)
  repeat' (first
   | (refine SB.o (i:=3) I (cL call67 I (lj E g _ (pp b 0) L T i t hcov0 hT hil ht)) dC (.inr iR) ?_; rintro _ _ _ ⟨rfl,rfl,rfl⟩)
   | (refine SB.o (i:=3) I (cL call67 I (lj E g _ (pp b 0) L T i t hcov0 hT hil ht)) dC (.inr iR) ?_; rintro _ _ _ ⟨rfl,rfl,rfl⟩)
   | (refine SB.o (i:=8) I (cL call68 I (ku E g _ t ht)) dC (.inr iR) ?_; rintro _ _ _ ⟨rfl,rfl,rfl⟩; refine SX.u (i:=9) I kD (aD I I oM) dC ?_; refine SX.u (i:=10) I kD (sU I I oM) dC ?_; refine SX.u (i:=11) I kD (za1 I (buildC63 _ _)) dC ?_)
   | (refine SB.o (i:=8) I (cL call68 I (ku E g _ t ht)) dC (.inr iR) ?_; rintro _ _ _ ⟨rfl,rfl,rfl⟩; refine SX.u (i:=9) I kD (aD I I oM) dC ?_; refine SX.u (i:=10) I kD (sU I I oM) dC ?_; refine SX.u (i:=11) I kD (za1 I (buildC63 _ _)) dC ?_)
   | (refine SB.o (i:=12) I (aL zk4) dC (.inr iR) ?_; rintro _ _ _ ⟨b6,rfl,rfl,rfl⟩)
   | (refine SB.on (i:=13) I (sK 0 az I I I I I sB) (.inl dC) ?_; rintro _ _ _ ⟨rfl,rfl⟩)
   | refine SX.br2 3 12 kD ?_ ?_
   | refine SX.br2 8 12 kD ?_ ?_
   | refine zd1 12 kD ?_
   | refine zd1 13 kD ?_
   | refine zd1 8 kD ?_
   | refine zd1 3 kD ?_
   | (refine SX.nil kD ?_; exact za7 b6 sB I I trivial))
 rintro b6 -;try dsimp only
 refine zb4 87 2 (sQ (rZ (lU (fA ar rfl bJ rfl) (lK (qL (v:=.slice rp y.sides.length rc) cI rfl (cK hby rfl)) ?_))));refine lU (eN cf I) (lM I (tZ (bK ?_)));refine oP (ι:=Nat×Value) (fun z=>[(0,vi t),(1,pp bx 0),(2,pp bi 0),(3,pp by' 0),(4,pp bo 0),(6,pp b6 0),(25,.slice rp y.sides.length rc),(26,vi y.sides.length),(27,vi z.1)]) (fun _=>g) (fun z=>rowA encSide 87 z.2 ((y.sides.take z.1).map (pJ L T.length t))::pt b6 (.cells #[vi (bId T.length i t),vi (y.dim+(onesB t:Nat) - 1),z.2] 63 (0,0))::pt bo (.cells #[ov] 30 (0,0))::rowA encCell 63 ov rs::s) (fun z=>z.1≤y.sides.length) (fun z=>y.sides.length - z.1) (0,.slice none 0 0) sB I I (ze9 _) ?_;rintro ⟨k,sv⟩ hk;dsimp only at hk ⊢;refine rZ (yL I (tZ (sQ ?_)));refine iP I (fun hlt=>?_) (fun hlt=>?_)
 ·have hkl:k<y.sides.length:=oM;have hb1:=za4 hsl oM;have hgk:y.sides[((k:Nat):Int).toNat]?=some y.sides[k]:=gE hkl;have htk:(y.sides.take (k+1)).map (pJ L T.length t)=(y.sides.take k).map (pJ L T.length t)++[pJ L T.length t y.sides[k]]:=by rw[tS hkl,zf8]; rfl
  obtain ⟨d,hd,hdd⟩:=hf.found _ (gM hkl);have hsg:=hf.sg _ (gM hkl);generalize y.sides[k]=x at *
  rcases rN hL x.cell with ⟨-,h4⟩ | ⟨cx,h4,h5,h6,h7⟩
  ·rw[hd] at h4; cases h4
  have hxl:ixB L x.cell<1099511627776:=by
   rw[h6] at h5;have h8:=(ze8.1 h5).1;have h9:=hL.few;omega
  rw[h6] at h7;refine kP (tN (sQ (bK (rZ (lU (iA cf bB I I hb1 oM sL) (lK (eA jR bB I (za5 hsl) hgk) (bW (aL zk2) fun b8=>?_)))))));refine oZ (sK 0 bB I I I I I sB) (tZ ?_);refine dW [16,18] [(0,2),(1,1),(2,1),(3,1),(4,2),(5,2),(6,1),(7,2),(8,1),(9,1),(10,2),(12,2),(13,1),(11,0),(14,2),(15,0),(16,0),(17,2),(18,0)] zd6 kR ?_;refine pU I (fA ar I bJ I) (pK I (qL (v:=sv) cI I (cO 2 I I)) (pK I (qL (v:=pp b 0) isAgg65 I (cK hbx I)) (pK I (qL (v:=pp b 0) isAgg65 I (cK hbx I)) (pU I (nC I) (pU I (fA m4 I sizeOf73 I) (pK I (qL (v:=.map (some m)) isAgg73 I (cK hb I)) (pU I (fA dE I zT3 I) (pK I (qL (v:=vi x.cell) iT3 I (cO 0 I I)) (pK I (SQ.eq (v':=vi (ixB L x.cell:Nat)) (SQ.lookup mty73 I I (cU.known hm)) (by rw[h7]; rfl)) ?_)))))))));refine yM I (pU I (fA dE I zT3 I) (pK I (qL (v:=vi x.sign) iT3 I (cO 0 I I)) (SP.o I (cL call67 I (lj E g _ (pp b 0) L T (ixB L x.cell) t hcov0 hT hxl ht)) dC (.inr iR) ?_)));rintro _ _ _ ⟨rfl,rfl,rfl⟩;refine pU I (za1 I (buildS87 _ _)) (SP.o I (bS sty61 I I I (ab ⟨I,trivial⟩) dC) dC (.inr iR) ?_);rintro _ _ _ ⟨b46,rfl,rfl,rfl⟩;refine SP.o I (aP (e:=encSide) (l:=(y.sides.take k).map (pJ L T.length t)) 1 (pJ L T.length t x) sty61 I I I I I (by rw[zd9,zd7]; omega) (by rw[zd9,zd7]; omega)) dC (.inl dC) ?_;rintro v47 _ _ ⟨rfl,rfl⟩;rw[← htk];refine zc7 fun hx=>?_;obtain ⟨w0,hw0⟩:=hx;obtain ⟨p47,c47,rfl⟩:=ag hw0 (i:=1) rfl;refine pU I (fA ar I bJ I) (SP.on I (SO.store1 2 bJ I I I I (by show 2<3; decide) I) (.inl dC) ?_);rintro _ _ _ ⟨rfl,rfl⟩;refine pN (bN (tN (rG (yD I (lM I (nL (dR (.cons _ (.refl _)) ?_)))))));exact gA (k+1,_) sB I I (by dsimp only; omega) (by dsimp only; omega)
 ·have hkk:k=y.sides.length:=oM;subst hkk;rw[List.take_length];refine xI (tX (tX (bX (tN ?_))));have hty:∃ base:List ah,base=y.sides.map (pJ L T.length t)∧base.length=y.sides.length:=⟨_,rfl,zd9 _⟩;refine SC.cut (ι:=Value) (fun _=>[(4,pp bo 0),(6,pp b6 0)]) (fun _=>g) (fun sv=>rowA encSide 87 sv (ki L T.length i y t)::pt b6 (.cells #[vi (bId T.length i t),vi (y.dim+(onesB t:Nat) - 1),sv] 63 (0,0))::pt bo (.cells #[ov] 30 (0,0))::rowA encCell 63 ov rs::s) (fun _=>True) ?_ ?_
  ·rw[od];refine sW I (lM I (lU (sU I I oM) (lU (SU.and I I) (lU (SU.eq (v':=vb (decide (1<onesB t))) (nQ I I) (zd5 vb (yU t ht ht0))) (tZ ?_)))));refine iP I (fun htwo=>?_) (fun htwo=>?_)
   ·rw[zf3 oM];refine sW I (lA I (aT I (bK ?_)));refine oP (ι:=Nat×Value) (fun z=>[(0,vi t),(1,pp bx 0),(2,pp bi 0),(3,pp by' 0),(4,pp bo 0),(6,pp b6 0),(9,vi z.1),(10,vi (leftB t z.1:Nat))]) (fun _=>g) (fun z=>rowA encSide 87 z.2 (y.sides.map (pJ L T.length t)++((eG t).zipIdx.take z.1).map (vP T.length i t y.dim))::pt b6 (.cells #[vi (bId T.length i t),vi (y.dim+(onesB t:Nat) - 1),z.2] 63 (0,0))::pt bo (.cells #[ov] 30 (0,0))::rowA encCell 63 ov rs::s) (fun z=>z.1≤onesB t) (fun z=>onesB t - z.1) (0,sv) sB I (by dsimp only; rw[List.take_zero,List.map_nil,zc2]) (ze9 _) ?_;rintro ⟨j,zv⟩ hj;dsimp only at hj ⊢;obtain ⟨f1,f2⟩:=zG t ht j oM;refine sQ (sW I (lU (nQ I I) (tZ ?_)));refine iP I (fun hne=>?_) (fun hne=>?_)
    ·have hjo:j<onesB t:=by
      by_cases k:j<onesB t
      ·exact k
      ·exact absurd (zd5 Int.ofNat (f1.2 k)) hne
     obtain ⟨f3,f4,f5⟩:=f2 hjo;have hbl:j<(eG t).length:=hjo;have hbg:(eG t)[j]=(eG t).getD j 0:=by rw[zg4,gE hbl]; rfl
     have htk:y.sides.map (pJ L T.length t)++((eG t).zipIdx.take (j+1)).map (vP T.length i t y.dim)=(y.sides.map (pJ L T.length t)++((eG t).zipIdx.take j).map (vP T.length i t y.dim))++[vP T.length i t y.dim ((eG t)[j],j)]:=by
      have hz:j<(eG t).zipIdx.length:=by rw[List.length_zipIdx]; exact hbl
      rw[tS hz,zf8,zg2,List.getElem_zipIdx,Nat.zero_add];rfl
     have hln:(y.sides.map (pJ L T.length t)++((eG t).zipIdx.take j).map (vP T.length i t y.dim)).length≤80:=by
      rw[zd8,zd9,zd9,zd7];omega
     rw[hbg] at htk;clear hbg;generalize (eG t).getD j 0=kb at *;have hpk:0<2 ^ kb:=Nat.two_pow_pos kb;have hle0:leftB t j≤t:=Nat.sub_le _ _;refine kP (tN (sQ (bK (sW I (lM I (lU (SU.neg I) (lU (SU.eq (v':=vi (2 ^ kb:Nat)) (SU.and I I) (zd5 vi f3)) (aT I (sW I (lM I (lU (SU.eq (v':=vi (leftB t (j+1):Nat)) (sU I I oM) (zd5 vi oM)) (aT I ?_))))))))))));refine dW [15,17] [(0,2),(1,1),(2,1),(3,1),(4,2),(5,2),(6,2),(8,2),(9,2),(10,1),(11,2),(7,0),(12,0),(13,2),(14,0),(15,0),(16,2),(17,0)] zd6 kR ?_;refine pU rfl (fA ar rfl bJ rfl) (pK rfl (qL (v:=zv) cI rfl (cO 1 rfl rfl)) (pK rfl (qL (v:=pp b 0) isAgg65 rfl (cK hbx rfl)) (pK rfl (qL (v:=vi i) iT3 rfl (cK hbi rfl)) (yM rfl (yM rfl (pU rfl (SU.eq (v':=vi (t - 2 ^ kb:Nat)) (sU rfl rfl oM) (zd5 vi oM)) (yM rfl (pU rfl (fA ar rfl zT3 rfl) (pK rfl (qL (v:=vi y.dim) iT3 rfl (cK hby rfl)) ?_)))))))));refine pU I (aD I I oM) (SP.o I (cL call67 I (lj E g _ (pp b 0) L T i (t - 2 ^ kb) hcov0 hT hil oM)) dC (.inr iR) ?_);rintro _ _ _ ⟨rfl,rfl,rfl⟩;refine SP.o I (cL call69 I (uI E g _ _)) dC (.inr iR) ?_;rintro _ _ _ ⟨rfl,rfl,rfl⟩;refine pU I (za1 I (buildS87 _ _)) (SP.o I (bS sty61 I I I (ab ⟨I,trivial⟩) dC) dC (.inr iR) ?_);rintro _ _ _ ⟨b81,rfl,rfl,rfl⟩;refine SP.o I (aP (e:=encSide) (l:=y.sides.map (pJ L T.length t)++((eG t).zipIdx.take j).map (vP T.length i t y.dim)) 0 (vP T.length i t y.dim (kb,j)) sty61 I I I I I oM oM) dC (.inl dC) ?_;rintro v82 _ _ ⟨rfl,rfl⟩;rw[← htk];refine zc7 fun hx=>?_;obtain ⟨w0,hw0⟩:=hx;obtain ⟨p82,c82,rfl⟩:=ag hw0 (i:=0) rfl;refine pU I (fA ar I bJ I) (SP.on I (SO.store1 1 bJ I I I I (by show 2<3; decide) I) (.inl dC) ?_);rintro _ _ _ ⟨rfl,rfl⟩;refine pN (bN (tN (rG (lM I (yD I (lA I (nL ?_)))))));exact gA (j+1,_) sB I I (by dsimp only; omega) (by dsimp only; omega)
    ·have hjo:j=onesB t:=by
      have h0:leftB t j=0:=oM;have:=f1.1 h0;omega
     subst hjo;refine xI (tX (tX (bX ?_)));have hall:(eG t).zipIdx.take (onesB t)=(eG t).zipIdx:=tL (by rw[List.length_zipIdx]; exact lR _);rw[hall];exact za7 zv sB I I trivial
   ·rw[zf4 oM,zc2];refine kP ?_;exact za7 sv sB I I trivial
  rintro zv -;try dsimp only
  refine SC.facts fun hx=>?_;obtain ⟨w1,hw1⟩:=hx;obtain ⟨zp,zc,rfl⟩:=ag hw1 (i:=0) rfl;refine rG (lU (fA dg I cw I) (lK (qL (v:=ov) dV I (cO 2 I I)) (lK (qV 1 eL az I I I) (lW (bS sty28 I I I (ab ⟨I,trivial⟩) dC) ?_))));rintro _ _ _ ⟨b87,rfl,rfl,rfl⟩;refine lW (aP (e:=encCell) (l:=rs) 3 ⟨bId T.length i t,y.dim+(onesB t:Nat) - 1,⟨zp,(ki L T.length i y t).length,zc⟩⟩ sty28 I I I I I oM oM) ?_;rintro v88 _ _ ⟨rfl,rfl⟩;refine zc8 fun hx=>?_;obtain ⟨w2,hw2⟩:=hx;obtain ⟨p88,c88,rfl⟩:=ag hw2 (i:=3) rfl;refine lU (fA dg I cw I) (oZ (SO.store1 2 cw I I I I (by show 0<1; decide) I) ?_);refine nL (fT fun g5 hle5 hs5=>?_);refine dR (.cons _ (.refl _)) ?_;exact ST.ret0 (.inr I) results66 ⟨hle5,_,_,I,I,I,hs5⟩
end Go.Proofs.YtcfkpajlakidbaaGreat
