/- 12 -/
import Derived.Test.YtkbagdedfdfjhaaGreatDoorWh11
import Derived.Test.YtkbagdedfdfjhaaGreatDoorWh05
import Derived.Test.YtkbagdedfdfjhaaGreatDoorWh10
import Derived.Test.YtkbagdedfdfjhaaGreatDoorWh09
import Derived.Test.YtkbagdedfdfjhaaGreatDoorWh04
set_option linter.unusedSimpArgs false
set_option linter.unusedVariables false
namespace Go.Proofs.YtkbagdedfdfjhaaGreatDoor
open _root_.Go.Proofs.Tryz _root_.Go.Proofs.YtkbagdedfdfjhaaGreatDoor.Tryz
open Go Go.Sy Go.Pl Go.Proofs
set_option maxRecDepth 100000
set_option maxHeartbeats 2000000
theorem zV {α:Type}{k:Nat}{e:Enc α k}{E:World}{g:PH}{s:Own}{w:World}{T:TypeId}{v:Value}{l:List α}{i:Nat}(h:At E g s w)(hi:s[i]?=some (rowA e T v l))(hn:0<l.length):∃ b c,v = .slice (some ⟨b,0,none⟩) l.length c∧l.length≤c:=by
 obtain ⟨_,h2⟩:=ft h hi
 rcases h2 with ⟨p,rfl,hn'⟩ | ⟨b,cap,cur,rfl,_,h3,_⟩
 ·omega
 ·exact⟨b,cap+1,I,h3⟩
theorem Tryz.build208 (q:Option Addr)(n k:Nat)(t p:Int)(w:World):(Instr.build 208 #[(0,.slice q n k),(1,vi t),(2,vi p)]).run Tryz.prog w = .ok (.agg #[.slice q n k,vi t,vi p]) w:=by
 have h1:∀ n,(vi n).cells = #[vi n]:=fun _=>rfl;have h2:(Value.slice q n k).cells = #[.slice q n k]:=rfl;simp[Instr.build,Instr.fill,h1,h2];rfl
theorem EM {i j x R:Nat}(hi:i<R)(hj:j<R)(hx:x<R):swF i j x<R:=by
 unfold swF;split
 ·exact hj
 ·split
  ·exact hi
  ·exact hx
def elG (p:Int)(L:List Int)(C at' c x y:Nat):Int:=if x≠at'∧0<atF L C x c then (atF L C x y+atF L C at' y * (p - atF L C x c)) % p else atF L C x y
theorem Cg {p o:Int}{R C c i0:Nat}{A:Nat→Nat→Int}{L L1 L2 M:List Int}{J:List Nat}(h:kL p A R C (atF L C) J c)(hc:c<C)(h1:J.length≤i0)(h2:i0<R)(hpos:∀ x<R,∀ y<C,0≤atF L C x y)(ho:o * atF L C i0 c % p=1)
  (hL1:∀ x<R,∀ y<C,atF L1 C x y=atF L C (swF J.length i0 x) y) (hL2:∀ x<R,∀ y<C,atF L2 C x y=if x=J.length then atF L1 C J.length y * o % p else atF L1 C x y)
  (hM:∀ x<R,∀ y<C,atF M C x y=elG p L2 C J.length c x y):kL p A R C (atF M C) (J++[c]) (c+1):=by
 have hat:J.length<R:=oM;refine h.pivot (b:=o) hc h1 h2 ?_ fun x hx y hy=>?_
 ·refine⟨o * atF L C i0 c / p,?_⟩;have:=Int.emod_add_mul_ediv (o * atF L C i0 c) p;omega
 ·rw[hM x hx y hy];unfold elG;have e0:∀ y<C,Eqm p (atF L2 C J.length y) (o * atF L C i0 y):=fun y hy=>by
   rw[hL2 _ hat y hy,zf6 rfl,hL1 _ hat y hy,Dh,Int.mul_comm o];exact mS _ _
  by_cases e:x=J.length
  ·subst e;rw[zf5 (fun k=>k.1 rfl),zf6 rfl];exact e0 y hy
  ·have hsw:swF J.length i0 x=if x=i0 then J.length else x:=by
    unfold swF;rw[zf5 e]
   have hlt:swF J.length i0 x<R:=by
    rw[hsw];split <;> omega
   have e1:∀ y<C,atF L2 C x y=atF L C (if x=i0 then J.length else x) y:=fun y hy=>by
    rw[hL2 x hx y hy,zf5 e,hL1 x hx y hy,hsw]
   rw[zf5 e,← e1 y hy,← e1 c hc];have hn:0≤atF L2 C x c:=by
    rw[e1 c hc,← hsw];exact hpos _ hlt c hc
   by_cases k:0<atF L2 C x c
   ·rw[zf6 ⟨e,k⟩];refine (mS _ _).trans ?_;have e2:Eqm p (atF L2 C J.length y * (p - atF L2 C x c)) (o * atF L C i0 y * (0 - atF L2 C x c)):=(e0 y hy).mul (Eqm.sub ⟨1,oM⟩ (.refl _));refine ((Eqm.refl (atF L2 C x y)).add e2).trans (Eqm.of ?_);rw[Int.mul_sub,Int.mul_zero,Int.mul_comm (o * atF L C i0 y)];omega
   ·rw[zf5 (fun q=>k q.2),show atF L2 C x c=0 by omega,Int.zero_mul,Int.sub_zero];exact .refl _
theorem te (E:World)(g:PH)(s:Own)(v:Value)(p:Int)(hp:Fp p)(R C:Nat)(hR:R≤400)(hC:C≤400)(h0:0<R * C)(A:List Int)(hA:A.length=R * C)(hv:FmR g v p R C A)(hA0:∀ x<R,∀ y<C,0≤atF A C x y∧atF A C x y<p) :
  Ctr Tryz.prog E 116 #[v] g s (fun x g' s'=>s=s'∧Le g g'∧∃ (J:List Nat) (m y:Value),x = .tuple #[.agg #[vi p,vi R,vi C,m],y]∧(∃ q n k,m = .slice q n k)∧bP g' y (J.map fun j:Nat=>(j:Int))∧J.length=rk p (atF A C) R C∧J.length≤R):=by
 obtain ⟨q,c0,rfl,hs⟩:=hv;have hm:=yg hR hC;have hl:=hp.lt;have hC0:0<C:=Nat.pos_of_ne_zero fun e=>by rw[e,Nat.mul_zero] at h0; omega
 have hcap:=(SlA.cap hs).2;refine za9 (args:=[.agg #[vi p,vi R,vi C,.slice q A.length c0]]) func116 I ntmps116 (bE I) ?_;refine rZ (bW (bO I) fun b1=>?_);refine bW (aL zl2) fun b2=>?_;refine aT I (SC.scope (rZ (lU (fA fN I bZ I) (lK (qL (v:=.slice q A.length c0) dh I (cO 1 I I)) (lW (cL call96 I (yu E g _ _ A hs oM)) ?_)))));rintro v13 _ _ ⟨rfl,rfl⟩;refine zd1 fun hx=>?_;obtain ⟨w0,hw0⟩:=hx;obtain ⟨b,cE,rfl,hcE⟩:=zV hw0 (i:=0) rfl oM;rw[hA] at hcE ⊢;refine lU (fA fN I bZ I) (oZ (SO.store1 2 bZ I I I I (by show 3<4; decide) I) ?_);refine tZ (sQ ?_);refine SC.to (g':=g) (s':=rowA encInt 3 (.slice (some ⟨b,0,none⟩) (R * C) cE) A::pt b2 (.cells #[vi 0,vi 0,vi 0,.slice none 0 0] 62 (0,0))::pt b1 (.cells #[vi p,vi R,vi C,.slice (some ⟨b,0,none⟩) (R * C) cE] 62 (0,0))::s) (fun w hw=>hw) ?_;refine rG (lK (qV 2 om eT I I I) (lU (za1 I (build203 _ _ _ _ _ _)) (bW (bO I) fun b17=>?_)));refine aT I (sQ ?_);refine SC.to (g':=g) (s':=gH p R C b cE b17 A (rowA encInt 3 (.slice none 0 0) []::pt b2 (.cells #[vi 0,vi 0,vi 0,.slice none 0 0] 62 (0,0))::pt b1 (.cells #[vi p,vi R,vi C,.slice (some ⟨b,0,none⟩) (R * C) cE] 62 (0,0))::s)) (fun w hw=>((oe (p:=p) (R:=R) (C:=C) (v:=.slice (some ⟨b,0,none⟩) (R * C) cE) (ov:=List.replicate 998 0) 0 I ⟨by simp,fun i hi=>.inl (by rw[zg6,List.getElem?_replicate]; split <;> rfl)⟩ hw).nilRow 3 1).perm ((zj4 _ _ _).trans (((zj4 _ _ _).cons _).trans (zj4 _ _ _)))) ?_;refine rG (aT I (sQ (SC.label (tN (sQ (rZ (lU (fA fN I zT3 I) (lK (qL (v:=vi C) iT3 I (cO 4 I I)) (lM I (tZ (bK ?_)))))))))));refine oP (ι:=Nat×List Int×Value×List Nat) (fun z=>[(1,pp b1 0),(2,pp b2 0),(4,pp b17 0),(5,z.2.2.1),(19,vi C),(20,vi z.1)]) (fun _=>g) (fun z=>gH p R C b cE b17 z.2.1 (rowA encInt 3 z.2.2.1 (z.2.2.2.map fun j:Nat=>(j:Int))::pt b2 (.cells #[vi 0,vi 0,vi 0,.slice none 0 0] 62 (0,0))::pt b1 (.cells #[vi p,vi R,vi C,.slice (some ⟨b,0,none⟩) (R * C) cE] 62 (0,0))::s)) (fun z=>z.1≤C∧z.2.1.length=R * C∧(∀ x<R,∀ y<C,0≤atF z.2.1 C x y∧atF z.2.1 C x y<p)∧kL p (atF A C) R C (atF z.2.1 C) z.2.2.2 z.1) (fun z=>C - z.1) (0,A,.slice none 0 0,[]) sB I I ⟨zf2 _,hA,hA0,kL.start _ _ _⟩ ?_;rintro ⟨c,L,pv,J⟩ ⟨hc,hL,hLp,hE⟩;dsimp only at hc hL hLp hE ⊢;have hJR:=hE.len;refine rZ (yL I (tZ (sQ ?_)));refine iP I (fun hlt=>?_) (fun hlt=>?_)
 ·have hcC:c<C:=oM;refine SC.facts fun hx=>?_;obtain ⟨w1,hw1⟩:=hx;obtain ⟨pq,pc,rfl⟩:=ag hw1 (i:=2) rfl;refine kP (tN (sQ (bK (sW I (aT I (sW I (lU (SU.eq (v':=vi (J.length:Nat)) (eN aj I) (by rw[ze2])) ?_)))))));refine aT I (sW I (aT I (bK ?_)));refine oP (ι:=Nat) (fun i=>[(1,pp b1 0),(2,pp b2 0),(4,pp b17 0),(5,.slice pq (J.map fun j:Nat=>(j:Int)).length pc),(6,vi c),(7,vi J.length),(8,vi i),(19,vi C),(20,vi c)]) (fun _=>g) (fun _=>gH p R C b cE b17 L (rowA encInt 3 (.slice pq (J.map fun j:Nat=>(j:Int)).length pc) (J.map fun j:Nat=>(j:Int))::pt b2 (.cells #[vi 0,vi 0,vi 0,.slice none 0 0] 62 (0,0))::pt b1 (.cells #[vi p,vi R,vi C,.slice (some ⟨b,0,none⟩) (R * C) cE] 62 (0,0))::s)) (fun i=>J.length≤i∧i≤R∧∀ x,J.length≤x→x<i→atF L C x c=0) (fun i=>R - i) J.length sB I I ⟨lR _,hJR,fun x h1 h2=>by omega⟩ ?_;rintro i ⟨hi1,hi2,hiz⟩;refine sQ (sW I (lU (fA fN I zT3 I) (lK (qL (v:=vi R) iT3 I (cO 4 I I)) (yL I (tZ ?_)))));refine iP I (fun hlt2=>?_) (fun hlt2=>?_)
  ·have hiR:i<R:=oM;have hin1:=jG (C:=C) hiR;have hin2:(i+1) * C=i * C+C:=by rw[Nat.add_mul,Nat.one_mul]
   have gi:=iD hL hiR hcC;have hb0:=hLp i hiR c hcC;refine kP (tN (sQ (bK (sQ (sW I (lM I (lW (cL call155 I (dA E g _ p R C b cE b17 i L hR hC hC0 hiR hcE)) ?_)))))));rintro _ _ _ ⟨rfl,rfl,rfl⟩;unfold gH;refine lM I (lU (SU.eq (v':=.pointer (some ⟨b,0+(i * C+c) * 1,none⟩)) (iA aj zT3 I I I oM (by simp only[i8,slen]; omega)) (ek (by simp only[Int.toNat_natCast]; omega))) ?_);refine lK (eB (j:=i * C+c) iT3 I (zb5 0 I) gi I) (yE I (tZ ?_));refine iP I (fun hz=>?_) (fun hz=>?_)
   ·refine xI (tX (bX (tN (rG (lM I (yD I (lA I (nL ?_))))))));exact gA (i+1) sB I I ⟨oM,oM,fun x h1 h2=>by
     by_cases e:x=i
     ·rw[e]; exact hz
     ·exact hiz x h1 oM⟩ oM
   ·have hJi:J.length<R:=oM;have hat1:=jG (C:=C) hJi;have hat2:(J.length+1) * C=J.length * C+C:=by rw[Nat.add_mul,Nat.one_mul]
    refine kP (tN (sW I (lM I (lM I (lW (cL call156 I (xO E g _ p R C b cE b17 J.length i L hR hC hC0 hJi hiR hcE hL)) ?_)))));rintro _ _ _ ⟨rfl,L1,rfl,hL1,hat⟩;have ga:=iD hL1 hJi hcC;rw[hat _ hJi c hcC,Dh] at ga;have hL1p:∀ x<R,∀ y<C,0≤atF L1 C x y∧atF L1 C x y<p:=(fun x hx y hy=>by rw[hat x hx y hy]; exact hLp _ (EM hJi hiR hx) y hy);refine tZ (sQ ?_);refine dW [15] [(0,2),(1,2),(3,2),(4,2),(5,2),(7,2),(11,2),(12,1),(2,0),(6,0),(8,2),(9,1),(10,0),(13,2),(14,2),(15,0)] zd8 kR ?_;refine yM I (yM I (yM I (yM I (yM I (yM I (pU I (fA fN I zT3 I) (pK I (qL (v:=vi p) iT3 I (cO 4 I I)) (SP.o I (cL call155 I (dA E g _ p R C b cE b17 J.length L1 hR hC hC0 hJi hcE)) dC (.inr iR) ?_))))))));rintro _ _ _ ⟨rfl,rfl,rfl⟩;refine SP.o I (cL call155 I (dA E g _ p R C b cE b17 J.length L1 hR hC hC0 hJi hcE)) dC (.inr iR) ?_;rintro _ _ _ ⟨rfl,rfl,rfl⟩;refine pU I (SU.eq (v':=.pointer (some ⟨b,0+(J.length * C+c) * 1,none⟩)) (iA aj zT3 I I I oM (by simp only[i8,slen]; omega)) (ek (by simp only[Int.toNat_natCast]; omega))) ?_;refine pK I (eB (j:=J.length * C+c) iT3 I (zb5 0 I) ga I) (SP.o I (cL call158 I (tf E g _ p (atF L C i c) hp R C b cE b17 L1 oM hb0.2)) dC (.inr iR) ?_);rintro _ _ _ ⟨⟨o,rfl,ho0,ho1,ho2⟩,rfl,rfl⟩;refine pU I (za1 I (build208 _ _ _ _ _)) (pU I (SU.mkFuncB I) (SP.o I (cL call157 I (pI E g _ p R C b cE b17 J.length L1 hR hC hC0 hJi hcE hL1 _ _ (fun _ n=>n * o % p) fun L' _ _ k hk=>uT E g _ p o _ k hl.1 hl.2 oM ho1 (hL1p _ hJi k hk).1 (hL1p _ hJi k hk).2)) dC (.inl dC) ?_));rintro _ _ _ ⟨rfl,L2,rfl,hL2,hat2'⟩;refine pN (tN (sQ (rZ (lU (fA fN I zT3 I) (lK (qL (v:=vi R) iT3 I (cO 4 I I)) (lM I (tZ (bK ?_))))))));have hL2p:∀ x<R,∀ y<C,0≤atF L2 C x y∧atF L2 C x y<p:=fun x hx y hy=>by
     rw[hat2' x hx y hy];split
     ·exact mT hl.1
     ·exact hL1p x hx y hy
    refine oP (ι:=Nat×List Int) (fun z=>[(1,pp b1 0),(2,pp b2 0),(4,pp b17 0),(5,.slice pq (J.map fun j:Nat=>(j:Int)).length pc),(6,vi c),(7,vi J.length),(19,vi C),(20,vi c),(60,vi R),(61,vi z.1)]) (fun _=>g) (fun z=>gH p R C b cE b17 z.2 (rowA encInt 3 (.slice pq (J.map fun j:Nat=>(j:Int)).length pc) (J.map fun j:Nat=>(j:Int))::pt b2 (.cells #[vi 0,vi 0,vi 0,.slice none 0 0] 62 (0,0))::pt b1 (.cells #[vi p,vi R,vi C,.slice (some ⟨b,0,none⟩) (R * C) cE] 62 (0,0))::s)) (fun z=>z.1≤R∧z.2.length=R * C∧∀ x<R,∀ y<C,atF z.2 C x y=if x<z.1 then elG p L2 C J.length c x y else atF L2 C x y) (fun z=>R - z.1) (0,L2) sB I I ⟨zf2 _,hL2,fun x _ y _=>by simp⟩ ?_;rintro ⟨k,M⟩ ⟨hk,hM,hMz⟩;dsimp only at hk hM hMz ⊢;refine rZ (yL I (tZ (sQ ?_)));refine iP I (fun hlt3=>?_) (fun hlt3=>?_)
    ·have hkR:k<R:=oM;have hk1:=jG (C:=C) hkR;have hk2:(k+1) * C=k * C+C:=by rw[Nat.add_mul,Nat.one_mul]
     have gk:=iD hM hkR hcC;rw[hMz k hkR c hcC,zf5 (Nat.lt_irrefl k)] at gk;have hkp:=hL2p k hkR;have hkc:=hkp c hcC;have hrowat:∀ y<C,atF M C J.length y=atF L2 C J.length y:=fun y hy=>by
      rw[hMz _ hJi y hy];unfold elG;split
      ·rw[zf5 fun q=>q.1 rfl]
      ·rfl
     have hstep:∀ M2:List Int,(∀ x<R,∀ y<C,atF M2 C x y=if x=k then elG p L2 C J.length c k y else atF M C x y)→∀ x<R,∀ y<C,atF M2 C x y=if x<k+1 then elG p L2 C J.length c x y else atF L2 C x y:=fun M2 h x hx y hy=>by
      rw[h x hx y hy];by_cases e:x=k
      ·subst e;rw[zf6 rfl,zf6 (Nat.lt_succ_self _)]
      ·rw[zf5 e,hMz x hx y hy];by_cases e2:x<k
       ·rw[zf6 e2,zf6 (Nat.lt_succ_of_lt e2)]
       ·rw[zf5 e2,zf5 (show ¬ x<k+1 by omega)]
     by_cases hne:k=J.length
     ·refine kP (tN (sQ (bK (sW I (aT I (sW I (lM I (lW (cL call155 I (dA E g _ p R C b cE b17 k M hR hC hC0 hkR hcE)) ?_))))))));rintro _ _ _ ⟨rfl,rfl,rfl⟩;unfold gH;refine lM I (lU (SU.eq (v':=.pointer (some ⟨b,0+(k * C+c) * 1,none⟩)) (iA aj zT3 I I I oM (by simp only[i8,slen]; omega)) (ek (by simp only[Int.toNat_natCast]; omega))) ?_);refine lK (eB (j:=k * C+c) iT3 I (zb5 0 I) gk I) (aT I (sW I (lM I (lU (SU.eq (v':=vb false) (nQ I I) (zd7 vb (zf3 oM))) (lM I (yA I (yA I (yF I (tZ (cF I (kP (bN (tN (rG (yD I (lM I (nL ?_)))))))))))))))));exact gA (k+1,M) sB I I ⟨by dsimp only; omega,hM,hstep M fun x hx y hy=>by
       by_cases e:x=k
       ·subst e;rw[zf6 rfl,hMz x hx y hy,zf5 (Nat.lt_irrefl x)];unfold elG;rw[zf5 fun q=>q.1 hne]
       ·rw[zf5 e]⟩ (by dsimp only; omega)
     ·by_cases hpos:0<atF L2 C k c
      ·refine kP (tN (sQ (bK (sW I (aT I (sW I (lM I (lW (cL call155 I (dA E g _ p R C b cE b17 k M hR hC hC0 hkR hcE)) ?_))))))));rintro _ _ _ ⟨rfl,rfl,rfl⟩;unfold gH;refine lM I (lU (SU.eq (v':=.pointer (some ⟨b,0+(k * C+c) * 1,none⟩)) (iA aj zT3 I I I oM (by simp only[i8,slen]; omega)) (ek (by simp only[Int.toNat_natCast]; omega))) ?_);refine lK (eB (j:=k * C+c) iT3 I (zb5 0 I) gk I) (aT I (sW I (lM I (lU (SU.eq (v':=vb true) (nQ I I) (zd7 vb (zf4 oM))) (lM I (yC I (lY I I I (SU.eq (v':=vb true) (gR I I) (zd7 vb (zf4 hpos))) (yP I (tZ (cT I ?_))))))))));refine dW [14] [(0,2),(1,2),(3,2),(4,2),(6,2),(7,1),(8,2),(9,2),(10,2),(11,1),(2,0),(5,0),(12,2),(13,2),(14,0)] zd8 kR ?_;refine yM I (yM I (yM I (yM I (pU I (fA fN I zT3 I) (pK I (qL (v:=vi p) iT3 I (cO 4 I I)) (yM I (pU I (sU I I oM) (pU I (fA fN I zT3 I) (pK I (qL (v:=vi p) iT3 I (cO 4 I I)) (SP.o I (cL call155 I (dA E g _ p R C b cE b17 k M hR hC hC0 hkR hcE)) dC (.inr iR) ?_))))))))));rintro _ _ _ ⟨rfl,rfl,rfl⟩;refine SP.o I (cL call155 I (dA E g _ p R C b cE b17 J.length M hR hC hC0 hJi hcE)) dC (.inr iR) ?_;rintro _ _ _ ⟨rfl,rfl,rfl⟩;refine pU I (za1 I (build208 _ _ _ _ _)) (pU I (SU.mkFuncB I) (SP.o I (cL call157 I (pI E g _ p R C b cE b17 k M hR hC hC0 hkR hcE hM _ _ (fun y n=>(n+atF L2 C J.length y * (p - atF L2 C k c)) % p) fun L' hL' hrow y hy=>by have e1:atF L' C J.length y=atF L2 C J.length y:=(hrow _ hJi (fun e=>hne e.symm) y hy).trans (hrowat y hy); have e2:atF M C k y=atF L2 C k y:=(hMz k hkR y hy).trans (zf5 (Nat.lt_irrefl k)); have h3:=AB E g (rowA encInt 3 (.slice pq (J.map fun j:Nat=>(j:Int)).length pc) (J.map fun j:Nat=>(j:Int))::pt b2 (.cells #[vi 0,vi 0,vi 0,.slice none 0 0] 62 (0,0))::pt b1 (.cells #[vi p,vi R,vi C,.slice (some ⟨b,0,none⟩) (R * C) cE] 62 (0,0))::s) p (p - atF L2 C k c) (atF M C k y) R C b cE b17 J.length y L' hl.1 hl.2 (by have:=(hkp c hcC).2; omega) oM (by rw[e2]; exact (hkp y hy).1) (by rw[e2]; exact (hkp y hy).2) hL' hJi hy (by rw[e1]; exact (hL2p _ hJi y hy).1) (by rw[e1]; exact (hL2p _ hJi y hy).2) hR hC; rw[e1] at h3; exact h3)) dC (.inl dC) ?_));rintro _ _ _ ⟨rfl,M2,rfl,hM2,hat3⟩;refine pN (bN (tN (rG (yD I (lM I (nL ?_))))));exact gA (k+1,M2) sB I I ⟨by dsimp only; omega,hM2,hstep M2 fun x hx y hy=>by
        rw[hat3 x hx y hy];split
        ·rename_i e;subst e;unfold elG;rw[zf6 ⟨hne,hpos⟩,hMz x hkR y hy,zf5 (Nat.lt_irrefl x)]
        ·rfl⟩ (by dsimp only; omega)
      ·refine kP (tN (sQ (bK (sW I (aT I (sW I (lM I (lW (cL call155 I (dA E g _ p R C b cE b17 k M hR hC hC0 hkR hcE)) ?_))))))));rintro _ _ _ ⟨rfl,rfl,rfl⟩;unfold gH;refine lM I (lU (SU.eq (v':=.pointer (some ⟨b,0+(k * C+c) * 1,none⟩)) (iA aj zT3 I I I oM (by simp only[i8,slen]; omega)) (ek (by simp only[Int.toNat_natCast]; omega))) ?_);refine lK (eB (j:=k * C+c) iT3 I (zb5 0 I) gk I) (aT I (sW I (lM I (lU (SU.eq (v':=vb true) (nQ I I) (zd7 vb (zf4 oM))) (lM I (yC I (lY I I I (SU.eq (v':=vb false) (gR I I) (zd7 vb (zf3 hpos))) (yP I (tZ (cF I (kP (bN (tN (rG (yD I (lM I (nL ?_)))))))))))))))));exact gA (k+1,M) sB I I ⟨by dsimp only; omega,hM,hstep M fun x hx y hy=>by
        by_cases e:x=k
        ·subst e;rw[zf6 rfl,hMz x hx y hy,zf5 (Nat.lt_irrefl x)];unfold elG;rw[zf5 fun q=>hpos q.2]
        ·rw[zf5 e]⟩ (by dsimp only; omega)
    ·have hkk:k=R:=oM;subst hkk;have hpiv:=Cg hE hcC hi1 hiR (fun x hx y hy=>(hLp x hx y hy).1) ho2 hat (fun x hx y hy=>hat2' x hx y hy) (fun x hx y hy=>by rw[hMz x hx y hy,zf6 hx]);unfold gH;refine xI (tX (tX (bX (tN (sW I (lM I (lW (bS sty25 I I I (ab ⟨I,trivial⟩) dC) ?_)))))));rintro _ _ _ ⟨b95,rfl,rfl,rfl⟩;refine lW (aP (e:=encInt) (l:=J.map fun j:Nat=>(j:Int)) 2 (c:Int) sty25 I I I I I (by rw[ze2]; omega) (by rw[ze2]; omega)) ?_;rintro v96 _ _ ⟨rfl,rfl⟩;refine aT I (xI (ST.blockO dC (tX (tX (ST.blockO dC (bX (tN (rG (yD I (lM I (nL ?_)))))))))));refine ST.to (g':=g) (s':=gH p k C b cE b17 M (rowA encInt 3 v96 ((J++[c]).map fun j:Nat=>(j:Int))::pt b2 (.cells #[vi 0,vi 0,vi 0,.slice none 0 0] 62 (0,0))::pt b1 (.cells #[vi p,vi k,vi C,.slice (some ⟨b,0,none⟩) (k * C) cE] 62 (0,0))::s)) (fun w hw=>by rw[zg1]; exact hw) ?_;exact gA (c+1,M,v96,J++[c]) sB I I ⟨by dsimp only; omega,hM,fun x hx y hy=>by
      dsimp only;rw[hMz x hx y hy,zf6 hx];unfold elG;split
      ·exact mT hl.1
      ·exact hL2p x hx y hy,hpiv⟩ (by dsimp only; omega)
  ·refine xI (tX (tX (bX (bN (tN (rG (yD I (lM I (nL ?_)))))))));have hiR:i=R:=oM;subst hiR;exact gA (c+1,L,_,J) sB I I ⟨by dsimp only; omega,hL,hLp,hE.none fun x h1 h2=>by
    rw[hiz x h1 h2];exact .refl _⟩ (by dsimp only; omega)
 ·have hcC:c=C:=oM;subst hcC;unfold gH;refine xI (tX (tX (bX (tN (sW I (lU (nC I) (lU (fA kC I eT I) (lK (SQ.loadAggAt (b:=b17) (o:=0) (vs:=[vi p,vi R,vi c,.slice (some ⟨b,0,none⟩) (R * c) cE]) om eT I I (fun j x hj=>by rw[Nat.zero_add]; exact pW (p:=p) (R:=R) (C:=c) (v:=.slice (some ⟨b,0,none⟩) (R * c) cE) 1 I hj)) ?_))))))));refine lM I (oZ (sK 3 eT I I I I I sB) (aT I (rE (ST.scopeR (ST.perm (s':=rowA encInt 3 pv (J.map fun j:Nat=>(j:Int))::rowA encInt 3 (.slice (some ⟨b,0,none⟩) (R * c) cE) L::yf b17 p R c (.slice (some ⟨b,0,none⟩) (R * c) cE)::pt b2 (.cells #[vi p,vi R,vi c,.slice (some ⟨b,0,none⟩) (R * c) cE] 62 (0,0))::pt b1 (.cells #[vi p,vi R,vi c,.slice (some ⟨b,0,none⟩) (R * c) cE] 62 (0,0))::s) (((zj4 _ _ _).cons _).trans (zj4 _ _ _)) ?_)))));refine fT fun g5 hle5 hs5=>?_;exact ST.retCD1 2 s (.inl I) results116 I I om eT I I uR ⟨I,hle5,J,_,_,I,⟨_,_,_,I⟩,hs5,(hE.rk hp.fld).symm,hJR⟩
set_option maxHeartbeats 1000000
theorem DQ {g:PH}{s:Own}{bm:Nat}{p:Int}{R C o:Nat}{v u:Value}{ov:List Int}(i:Nat)(hi:s[i]?=some (pt bm (.cells (lp p R C v ov) 203 (0,0))))(hu:[vi p,vi R,vi C,v][o]?=some u):eo g s ⟨bm,o,none⟩ u:=eo.own i hi (by
 have ho:o<4:=(zf1.1 hu).1;rw[← hu];unfold lp
 match o,ho with
 | 0,_=>rfl
 | 1,_=>rfl
 | 2,_=>rfl
 | 3,_=>rfl)
theorem td (E:World)(g:PH)(s:Own)(v:Value)(p:Int)(R C:Nat)(hR:R≤400)(hC:C≤400)(h0:R * C=0)(A:List Int)(hA:A.length=R * C)(hv:FmR g v p R C A) :
  Ctr Tryz.prog E 116 #[v] g s (fun x g' s'=>s=s'∧Le g g'∧∃ (m y:Value),x = .tuple #[.agg #[vi p,vi R,vi C,m],y]∧(∃ q n k,m = .slice q n k)∧bP g' y []):=by
 obtain ⟨q,c0,rfl,hs⟩:=hv;have hA0:A=[]:=List.length_eq_zero_iff.1 oM;subst hA0;have hRC:R=0∨C=0:=Nat.mul_eq_zero.1 h0;refine za9 (args:=[.agg #[vi p,vi R,vi C,.slice q 0 c0]]) func116 I ntmps116 (bE I) ?_;refine rZ (bW (bO I) fun b1=>?_);refine bW (aL zl2) fun b2=>?_;refine aT I (SC.scope (rZ (lU (fA fN I bZ I) (lK (qL (v:=.slice q 0 c0) dh I (cO 1 I I)) (lW (cL call96 I (yu E g _ _ [] hs dC)) ?_)))));rintro v13 _ _ ⟨rfl,rfl⟩;refine zd1 fun hx=>?_;obtain ⟨w0,hw0⟩:=hx;obtain ⟨q1,cE,rfl⟩:=ag hw0 (i:=0) rfl;refine lU (fA fN I bZ I) (oZ (SO.store1 2 bZ I I I I (by show 3<4; decide) I) ?_);refine tZ (sQ ?_);refine SC.to (g':=g) (s':=pt b2 (.cells #[vi 0,vi 0,vi 0,.slice none 0 0] 62 (0,0))::pt b1 (.cells #[vi p,vi R,vi C,.slice q1 0 cE] 62 (0,0))::s) (fun w hw=>hw.sublist (.cons _ (.refl _))) ?_;refine rG (lK (qV 1 om eT I I I) (lU (za1 I (build203 _ _ _ _ _ _)) (bW (bO I) fun b17=>?_)));refine aT I (rZ (aT I (sQ (SC.label (tN (sQ (rZ (lU (fA fN I zT3 I) (lK (qL (v:=vi C) iT3 I (cO 2 I I)) (lM I (tZ (bK ?_))))))))))));refine oP (ι:=Nat) (fun z=>[(1,pp b1 0),(2,pp b2 0),(4,pp b17 0),(5,.slice none 0 0),(19,vi C),(20,vi z)]) (fun _=>g) (fun _=>pt b17 (.cells (lp p R C (.slice q1 0 cE) (List.replicate 998 0)) 203 (0,0))::pt b2 (.cells #[vi 0,vi 0,vi 0,.slice none 0 0] 62 (0,0))::pt b1 (.cells #[vi p,vi R,vi C,.slice q1 0 cE] 62 (0,0))::s) (fun z=>z≤C) (fun z=>C - z) 0 sB I I (zf2 _) ?_;rintro c hc;refine rZ (yL I (tZ (sQ ?_)));refine iP I (fun hlt=>?_) (fun hlt=>?_)
 ·have hR0:R=0:=oM;subst hR0;refine kP (tN (sQ (bK (sW I (aT I (sW I (lU (eN aj I) (aT I (sW I (aT I (bK ?_)))))))))));refine oP (ι:=Nat) (fun i=>[(1,pp b1 0),(2,pp b2 0),(4,pp b17 0),(5,.slice none 0 0),(6,vi c),(7,vi 0),(8,vi 0),(19,vi C),(20,vi c)]) (fun _=>g) (fun _=>pt b17 (.cells (lp p 0 C (.slice q1 0 cE) (List.replicate 998 0)) 203 (0,0))::pt b2 (.cells #[vi 0,vi 0,vi 0,.slice none 0 0] 62 (0,0))::pt b1 (.cells #[vi p,vi (0:Nat),vi C,.slice q1 0 cE] 62 (0,0))::s) (fun _=>True) (fun i=>0) 0 sB I I trivial ?_;rintro i _;refine sQ (sW I (lU (fA fN I zT3 I) (lK (qL (v:=vi (0:Nat)) iT3 I (cO 2 I I)) (yL I (tZ ?_)))));refine iP I (fun hlt2=>?_) (fun hlt2=>?_)
  ·exact absurd hlt2 dC
  ·refine xI (tX (tX (bX (bN (tN (rG (yD I (lM I (nL ?_)))))))));exact gA (c+1) sB I I oM oM
 ·have hcC:c=C:=oM;subst hcC;refine xI (tX (tX (bX (tN (sW I (lU (nC I) (lU (fA kC I eT I) (lK (SQ.loadAggAt (b:=b17) (o:=0) (vs:=[vi p,vi R,vi c,.slice q1 0 cE]) om eT I I (fun j x hj=>by rw[Nat.zero_add]; exact DQ 0 I hj)) ?_))))))));refine lM I (oZ (sK 1 eT I I I I I sB) (aT I (rE (ST.scopeR ?_))));exact ST.retCD1 1 s (.inl I) results116 I I om eT I I uR ⟨I,zb7 _,_,_,I,⟨_,_,_,I⟩,zb8 g _⟩
theorem BA {p:Int}(hp:Fld p){R C:Nat}(h:R * C=0)(A:Nat→Nat→Int):rk p A R C=0:=by
 rcases Nat.mul_eq_zero.1 h with rfl | rfl
 ·have:=jw hp A 0 C; omega
 ·have:=tw hp A R 0; omega
theorem s9 (E:World)(g:PH)(s:Own)(v:Value)(p:Int)(hp:Fp p)(R C:Nat)(hR:R≤400)(hC:C≤400)(A:List Int)(hA:A.length=R * C)(hv:FmR g v p R C A)(hA0:∀ x<R,∀ y<C,0≤atF A C x y∧atF A C x y<p) :
  Ctr Tryz.prog E 116 #[v] g s (fun x g' s'=>s=s'∧Le g g'∧∃ (J:List Nat) (m y:Value),x = .tuple #[.agg #[vi p,vi R,vi C,m],y]∧(∃ q n k,m = .slice q n k)∧bP g' y (J.map fun j:Nat=>(j:Int))∧J.length=rk p (atF A C) R C∧J.length≤R):=by
 by_cases h0:R * C=0
 ·refine (td E g s v p R C hR hC h0 A hA hv).mono ?_;rintro x g' s' ⟨h1,h2,m,y,h3,h4,h5⟩;exact⟨h1,h2,[],m,y,h3,h4,h5,(BA hp.fld h0 _).symm,zf2 _⟩
 ·exact te E g s v p hp R C hR hC (Nat.pos_of_ne_zero h0) A hA hv hA0
theorem Ek {A:List Int}{R C x y:Nat}(hA:A.length=R * C)(hx:x<R)(hy:y<C):atF A C x y∈A:=zf7 (iD hA hx hy)
theorem re (E:World)(g:PH)(s:Own)(v:Value)(p:Int)(hp:Fp p)(R C:Nat)(hR:R≤400)(hC:C≤400)(A:List Int)(hA:A.length=R * C)(hv:FmR g v p R C A)(hA0:∀ x∈A,0≤x∧x<p) :
  Ctr Tryz.prog E 68 #[v] g s (fun x g' s'=>s=s'∧Le g g'∧∃ (J:List Nat) (m y:Value),x = .tuple #[.agg #[vi p,vi R,vi C,m],y]∧(∃ q n k,m = .slice q n k)∧bP g' y (J.map fun j:Nat=>(j:Int))∧J.length=rk p (atF A C) R C∧J.length≤R):=by
 have hv0:=hv;obtain ⟨q,c0,rfl,hs⟩:=hv;refine za9 (args:=[.agg #[vi p,vi R,vi C,.slice q A.length c0]]) func68 I ntmps68 (bE I) ?_;refine rZ (bW (bO I) fun b1=>?_);refine bW (aL zl2) fun b2=>?_;refine aT I (sQ (rZ (lK (qV 1 om eT I I I) (lW (cL call115 I (uU E g _ _ p hp R C hR hC A hA hv0 hA0)) ?_))));rintro _ _ _ ⟨rfl,rfl,rfl⟩;refine lU (SU.not I) (tZ (cF I (kP (tN (rZ (lK (qV 1 om eT I I I) (lW (cL call116 I (s9 E g _ _ p hp R C hR hC A hA hv0 fun x hx y hy=>hA0 _ (Ek hA hx hy))) ?_)))))));rintro _ g1 _ ⟨rfl,hle1,J,_,y,rfl,⟨mq,mn,mk,rfl⟩,hy1,hJ,hJR⟩;refine yX I (yX I (oZ (sK 0 eT I I I I I sB) (aT I (rE ?_))));exact ST.retCD1 0 s (.inl I) results68 I I om eT I I uR ⟨I,hle1,J,_,y,I,⟨mq,mn,mk,I⟩,hy1,hJ,hJR⟩
theorem pH (E:World)(g:PH)(s:Own)(v:Value)(p:Int)(hp:Fp p)(R C:Nat)(hR:R≤400)(hC:C≤400)(A:List Int)(hA:A.length=R * C)(hv:FmR g v p R C A)(hA0:∀ x∈A,0≤x∧x<p) :
  Ctr Tryz.prog E 31 #[v] g s (fun x g' s'=>s=s'∧Le g g'∧x=vi (rk p (atF A C) R C:Nat)):=by
 have hv0:=hv;obtain ⟨q,c0,rfl,hs⟩:=hv;refine za9 (args:=[.agg #[vi p,vi R,vi C,.slice q A.length c0]]) func31 I ntmps31 (bE I) ?_;refine rZ (bW (bO I) fun b1=>?_);refine aT I (rZ (lK (qV 0 om eT I I I) (lW (cL call68 I (re E g _ _ p hp R C hR hC A hA hv0 hA0)) ?_)));rintro _ g1 _ ⟨rfl,hle1,J,_,y,rfl,⟨mq,mn,mk,rfl⟩,hy1,hJ,hJR⟩;obtain ⟨yp,yc,rfl⟩:=za2 hy1;refine lM I (yX I (yX I (bW (aL zl2) fun b3=>?_)));refine oZ (sK 0 eT I I I I I sB) (aT I (sW I (lU (SU.eq (v':=vi (rk p (atF A C) R C:Nat)) (eN aj I) (by rw[ze2,hJ])) ?_)));refine aT I (rE (dR (s':=s) uR ?_));exact za6 (.inl I) results31 I ⟨I,hle1,I⟩
def elM (M:List (List Int))(i j:Nat):Int:=(M.getD i []).getD j 0
theorem zn {M:List (List Int)}{i j:Nat}(hi:i<M.length)(hj:j<M[i].length):elM M i j=M[i][j]:=by
 have h1:M.getD i []=M[i]:=by
  rw[zg6,gE hi];rfl
 unfold elM;rw[h1,zg6,gE hj];rfl
theorem Ce (E:World)(g:PH)(s:Own)(v:Value)(p:Int)(hp:Fp p)(M:List (List Int))(C:Nat)(hv:aG g v M)(hR:M.length≤400)(hC:C≤400)(hM:∀ r∈M,r.length=C)(hM0:M=[]→C=0)(hb:∀ r∈M,∀ x∈r,x.natAbs≤1000000) :
  Ctr Tryz.prog E 133 #[vi p,v] g s (fun x g' s'=>s=s'∧Le g g'∧∃ A,FmR g' x p M.length C A∧A.length=M.length * C∧(∀ y∈A,0≤y∧y<p)∧∀ i<M.length,∀ j<C,atF A C i j=elM M i j % p):=by
 obtain ⟨rs,hrs,hall⟩:=hv;have hlen:=hall.length;have hm:=yg (show rs.length≤400 by omega) hC;have hl:=hp.lt;obtain ⟨q,c,rfl⟩:=za2 hrs;have row:∀ i (hi:i<rs.length),∃ (hi':i<M.length) (rp:Option Addr) (rc:Nat),rs[i]?=some ⟨rp,C,rc⟩∧bP g (.slice rp C rc) M[i]∧M[i].length=C:=fun i hi=>by
  have hi':i<M.length:=oM;have hx:=hM _ (gM hi');have h1:=hall.get (gE hi') (gE hi);have h2:=h1.len;generalize hr:rs[i]=r at *;obtain ⟨rp,rn,rc⟩:=r;dsimp only at h2;have h3:rn=C:=oM;subst h3;exact⟨hi',rp,rc,by rw[← hr]; exact gE hi,h1,hx⟩
 refine za9 (args:=[vi p,.slice q rs.length c]) func133 I ntmps133 (bE I) ?_;refine rZ (bW (aL zl2) fun b4=>?_);refine tZ (rZ (aT I (sQ (sW I (lU (eN bA I) (lM I (tZ (bK ?_))))))));refine oP (ι:=Nat) (fun k=>[(0,vi p),(1,.slice q rs.length c),(4,pp b4 0),(5,vi (if k=0 then 0 else C:Nat)),(13,.slice q rs.length c),(14,vi rs.length),(15,vi k)]) (fun _=>g) (fun _=>pt b4 (.cells #[vi 0,vi 0,vi 0,.slice none 0 0] 62 (0,0))::s) (fun k=>k≤rs.length) (fun k=>rs.length - k) 0 sB I I (zf2 _) ?_;rintro k hk;refine rZ (yL I (tZ (sQ ?_)));refine iP I (fun hlt=>?_) (fun hlt=>?_)
 ·have hkl:k<rs.length:=oM;obtain ⟨hi',rp,rc,hgr,hxs,hxl⟩:=row k hkl;have hb1:=za4 hrs oM;refine kP (tN (sQ (bK (rZ (lU (iA bA bZ I I hb1 oM sL) (lK (eB (u:=.slice rp C rc) dh I (za5 hrs) hgr I) (aT I (rG (lM I (lM I (lU (eN aj I) (lU (SU.eq (v':=vi (C:Nat)) (SU.maxF I I) (zd7 vi (by split <;> omega))) ?_))))))))))));refine lA I (nL (bN (tN (rG (yD I (lM I (nL ?_)))))));exact gA (k+1) ⟨I,I,I,by rw[zf5 (Nat.succ_ne_zero k)]; rfl,rfl,rfl,rfl,trivial⟩ rfl rfl oM oM
 ·have hkk:k=rs.length:=oM;subst hkk;have hC1:(if rs.length=0 then 0 else C)=C:=by
   split
   ·rename_i e;exact (hM0 (List.length_eq_zero_iff.1 oM)).symm
   ·rfl
  rw[hC1];refine xI (tX (tX (bX (tN (sW I (lM I (lU (eN bA I) (lM I (lW (cL call69 I (r6 E g _ p hp rs.length C oM hC)) ?_)))))))));rintro _ _ _ ⟨rfl,bz,rfl,rfl⟩;refine bW (aL zl2) fun b8=>?_;refine oZ (sK 0 eT I I I I I sB) (tZ (sQ (sQ ?_)));refine SC.to (g':=g) (s':=pt b8 (.cells #[vi p,vi rs.length,vi C,.slice (some ⟨bz,0,none⟩) (rs.length * C) (rs.length * C)] 62 (0,0))::rowA encInt 3 (.slice (some ⟨bz,0,none⟩) (rs.length * C) (rs.length * C)) (List.replicate (rs.length * C) 0)::pt b4 (.cells #[vi 0,vi 0,vi 0,.slice none 0 0] 62 (0,0))::s) (fun w hw=>hw) ?_;refine rG (lU (fA fN I bZ I) (lK (qL (v:=.slice (some ⟨bz,0,none⟩) (rs.length * C) (rs.length * C)) dh I (cO 0 I I)) (lU (eN aj I) (yE I (tZ ?_)))));refine iP I (fun he=>?_) (fun he=>?_)
  ·refine rZ (lK (qV 0 om eT I I I) (oZ (sK 2 eT I I I I I sB) (tZ (rE (tR ?_)))));have hz:rs.length * C=0:=oM;refine ST.perm (zj4 _ _ _) (fT fun g5 hle5 hs5=>?_);exact ST.retCD 1 s (.inl I) results133 I om eT I I uR ⟨I,hle5,List.replicate (rs.length * C) 0,⟨some ⟨bz,0,none⟩,rs.length * C,by rw[List.length_replicate,hlen]; rfl,by rw[List.length_replicate]; exact hs5⟩,by rw[List.length_replicate,hlen],fun y hy=>by rw[hz] at hy; simp at hy,fun i hi j hj=>by
    have:=iC hi hj;rw[hlen] at this;omega⟩
  ·have hpos:0<rs.length * C:=oM;refine kP (tN (sQ (sW I (lU (eN bA I) (lM I (tZ (bK ?_)))))));refine oP (ι:=Nat×List Int) (fun z=>[(0,vi p),(1,.slice q rs.length c),(4,pp b4 0),(5,vi C),(8,pp b8 0),(34,.slice q rs.length c),(35,vi rs.length),(36,vi z.1)]) (fun _=>g) (fun z=>pt b8 (.cells #[vi p,vi rs.length,vi C,.slice (some ⟨bz,0,none⟩) (rs.length * C) (rs.length * C)] 62 (0,0))::rowA encInt 3 (.slice (some ⟨bz,0,none⟩) (rs.length * C) (rs.length * C)) z.2::pt b4 (.cells #[vi 0,vi 0,vi 0,.slice none 0 0] 62 (0,0))::s) (fun z=>z.1≤rs.length∧z.2.length=rs.length * C∧(∀ y∈z.2,0≤y∧y<p)∧∀ x<z.1,∀ y<C,atF z.2 C x y=elM M x y % p) (fun z=>rs.length - z.1) (0,List.replicate (rs.length * C) 0) sB I I ⟨zf2 _,List.length_replicate,fun y hy=>by rw[List.eq_of_mem_replicate hy]; omega,fun x hx=>by omega⟩ ?_;rintro ⟨i,L⟩ ⟨hi,hL,hLp,hz⟩;dsimp only at hi hL hLp hz ⊢;refine rZ (yL I (tZ (sQ ?_)));refine iP I (fun hlt2=>?_) (fun hlt2=>?_)
   ·have hil:i<rs.length:=oM;obtain ⟨hi',rp,rc,hgr,hxs,hxl⟩:=row i hil;have hb1:=za4 hrs oM;have hin1:=jG (C:=C) hil;have hin2:(i+1) * C=i * C+C:=by rw[Nat.add_mul,Nat.one_mul]
    refine kP (tN (sQ (bK (sW I (lU (iA bA bZ I I hb1 oM sL) (lK (eB (u:=.slice rp C rc) dh I (za5 hrs) hgr I) (lA I (aT I (sW I (lU (eN aj I) (lM I (tZ (bK ?_)))))))))))));refine oP (ι:=Nat×List Int) (fun z=>[(0,vi p),(1,.slice q rs.length c),(4,pp b4 0),(5,vi C),(8,pp b8 0),(9,vi i),(34,.slice q rs.length c),(35,vi rs.length),(36,vi i),(41,.slice rp C rc),(42,vi C),(43,vi z.1)]) (fun _=>g) (fun z=>pt b8 (.cells #[vi p,vi rs.length,vi C,.slice (some ⟨bz,0,none⟩) (rs.length * C) (rs.length * C)] 62 (0,0))::rowA encInt 3 (.slice (some ⟨bz,0,none⟩) (rs.length * C) (rs.length * C)) z.2::pt b4 (.cells #[vi 0,vi 0,vi 0,.slice none 0 0] 62 (0,0))::s) (fun z=>z.1≤C∧z.2.length=rs.length * C∧(∀ y∈z.2,0≤y∧y<p)∧(∀ x<i,∀ y<C,atF z.2 C x y=elM M x y % p)∧∀ y<z.1,atF z.2 C i y=elM M i y % p) (fun z=>C - z.1) (0,L) sB I I ⟨zf2 _,hL,hLp,hz,fun y hy=>by omega⟩ ?_;rintro ⟨j,K⟩ ⟨hj,hK,hKp,hz1,hz2⟩;dsimp only at hj hK hKp hz1 hz2 ⊢;refine rZ (yL I (tZ (sQ ?_)));refine iP I (fun hlt3=>?_) (fun hlt3=>?_)
    ·have hjC:j<C:=oM;have hij:=iC hil hjC;have hb2:=za4 hxs oM;have hjx:j<M[i].length:=oM;have hgk:M[i][((j:Nat):Int).toNat]?=some M[i][j]:=gE hjx;have hel:=zn hi' hjx;have hbx:=hb _ (gM hi') _ (gM hjx);rw[← hel] at hgk hbx;generalize hn:elM M i j=n at *;have hmo:=mT (a:=n) hl.1;have ht:n.tmod p=n % p∨n.tmod p=n % p - p:=by
      rcases Int.le_total 0 n with h | h
      ·left; exact Int.tmod_eq_emod_of_nonneg h
      ·rw[Int.tmod_eq_emod];split
       ·left; omega
       ·right; omega
     have hmm:(n.tmod p+p).tmod p=n % p:=by
      rw[Int.tmod_eq_emod_of_nonneg oM]
      rcases ht with h | h <;> rw[h]
      ·rw[Int.add_emod_right,Int.emod_emod]
      ·rw[Int.sub_add_cancel,Int.emod_emod]
     refine kP (tN (sQ (bK (sW I (lU (iA aj zT3 I I hb2 oM sL) (lK (eB iT3 I (za5 hxs) hgk I) (lA I (aT I ?_))))))));refine dW [15] [(0,2),(1,1),(2,2),(3,2),(4,2),(5,2),(6,2),(7,2),(8,2),(9,2),(10,2),(11,2),(12,2),(13,2),(14,2),(15,0)] zd8 kR ?_;refine pU I (fA fN I bZ I) (pK I (qL (v:=.slice (some ⟨bz,0,none⟩) (rs.length * C) (rs.length * C)) dh I (cO 0 I I)) (yM I (yM I (pU I (SU.eq (v':=vi ((i * C:Nat))) (SU.mulW I I) (zd7 vi (by rw[← Int.natCast_mul]; exact zk5 _ oM))) ?_))));refine yM I (pU I (SU.eq (v':=vi ((i * C+j:Nat))) (aD I I oM) (zd7 vi oM)) (yM I (yM I (pU I (zd4 I I oM) (yM I (pU I (aD I I oM) (yM I (pU I (SU.eq (v':=vi (n % p)) (zd4 I I oM) (zd7 vi hmm)) (pU I (SU.eq (v':=.pointer (some ⟨bz,0+(i * C+j) * 1,none⟩)) (iA aj zT3 I I I oM sL) (ek (by simp only[Int.toNat_natCast]))) ?_)))))))));refine SP.on I (sT (e:=encInt) (a:=n % p) (j:=i * C+j) 1 zT3 I I I (by rw[hK]; exact iC hil hjC) I) (.inl dC) ?_;rintro _ _ _ ⟨rfl,rfl⟩;refine pN (bN (tN (rG (yD I (lM I (nL ?_))))));exact gA (j+1,K.set (i * C+j) (n % p)) sB I I ⟨by dsimp only; omega,by dsimp only; rw[zh8,hK],fun y hy=>by
      rcases List.mem_or_eq_of_mem_set hy with h | h
      ·exact hKp y h
      ·rw[h]; exact hmo,fun x hx y hy=>by
      dsimp only;rw[mU hK hil hjC hy,zf5 (fun e=>by omega),hz1 x hx y hy],fun y hy=>by
      dsimp only at hy ⊢;have hyC:y<C:=oM;rw[mU hK hil hjC hyC];by_cases e:j=y
      ·subst e;rw[zf6 ⟨rfl,rfl⟩];rw[hn]
      ·rw[zf5 (fun k=>e k.2),hz2 y oM]⟩ (by dsimp only; omega)
    ·have hjC:j=C:=oM;subst hjC;refine xI (tX (tX (bX (bN (tN (rG (yD I (lM I (nL ?_)))))))));exact gA (i+1,K) sB I I ⟨by dsimp only; omega,hK,hKp,fun x hx y hy=>by
      dsimp only at hx;by_cases e:x=i
      ·rw[e]; exact hz2 y hy
      ·exact hz1 x oM y hy⟩ (by dsimp only; omega)
   ·have hii:i=rs.length:=oM;subst hii;refine xI (tX (tX (bX (tN (rZ (lK (qV 0 om eT I I I) (oZ (sK 2 eT I I I I I sB) (tZ (rE (ST.perm (zj4 _ _ _) (fT fun g5 hle5 hs5=>?_)))))))))));exact ST.retCD 1 s (.inl I) results133 I om eT I I uR ⟨I,hle5,L,⟨some ⟨bz,0,none⟩,rs.length * C,by rw[hL,hlen]; rfl,by rw[hL]; exact hs5⟩,by rw[hL,hlen],hLp,fun x hx y hy=>hz x oM y hy⟩
def tlB (L:List Cl):Nat→List (List Int)→Int→Nat
 | _,[],_=>0
 | k,t::T,id=>(if (ee L t).contains id then 2 ^ k else 0)+tlB L (k+1) T id
theorem yO (L:List Cl)(t:List Int)(id:Int):∀ (T:List (List Int)) (k:Nat),tlB L k (T++[t]) id=tlB L k T id+if (ee L t).contains id then 2 ^ (k+T.length) else 0
 | [],k=>by simp[tlB]
 | u::T,k=>by
  rw[List.cons_append];unfold tlB;rw[yO L t id T (k+1),ze4,Nat.add_assoc,Nat.add_comm 1,Nat.add_assoc]
theorem CI (L:List Cl)(id:Int):∀ (T:List (List Int)) (k:Nat),tlB L k T id+2 ^ k≤2 ^ (k+T.length)
 | [],k=>by simp[tlB]
 | u::T,k=>by
  have h:=CI L id T (k+1);have h2:2 ^ (k+1)=2 * 2 ^ k:=by rw[Nat.pow_succ,Nat.mul_comm]
  rw[ze4,show k+(T.length+1)=k+1+T.length by omega];unfold tlB;split <;> omega
theorem mN (L:List Cl)(id:Int)(T:List (List Int)):tlB L 0 T id<2 ^ T.length:=by
 have:=CI L id T 0;rw[Nat.zero_add] at this;omega
def ep (l:List Cl)(T:List (List Int)):Int:=if (aW l).2≠0 then (aW l).2 else if (T.length:Int)>6 then 2 else if T.any (fun t=>t.any fun id=>(aM (ae l) id).isNone) then 30 else if (ae l).any (fun c=>decide (tlB (ae l) 0 T c.id=0)) then 45 else 0
def bD (b:Nat):List Nat:=(List.range (b+1)).filter fun s=>decide (0<s)&&decide (s &&& b=s)
def eL (s:Nat):List Nat:=(List.range 6).filter fun k=>s.testBit k
def onesB (s:Nat):Nat:=(eL s).length
def sgP (m:Int):Int:=1 - 2 * (m % 2)
def bId (n i s:Nat):Int:=((i * 2 ^ n+s:Nat):Int)
def ixB (L:List Cl)(id:Int):Nat:=lbI (L.map Cl.id) id
def kM (L:List Cl)(n i:Nat)(y:Cl)(s:Nat):List ai:=(y.sides.map fun x=>⟨bId n (ixB L x.cell) s,x.sign⟩)++if onesB s≤1 then [] else (eL s).zipIdx.map fun q=>⟨bId n i (s - 2 ^ q.1),sgP (q.2+y.dim)⟩
def a7 (L:List Cl)(n i:Nat)(y:Cl)(s:Nat):Cl:=⟨bId n i s,y.dim+onesB s - 1,kM L n i y s⟩
def oE (L:List Cl)(T:List (List Int)):List Cl:=L.zipIdx.flatMap fun q=>(bD (tlB L 0 T q.1.id)).map (a7 L T.length q.2 q.1)
def cj (L:List Cl)(T:List (List Int)):List Cl:=aa (oE L T)
def gJ (n:Nat)(id:Int):Int:=onesB (id.toNat % 2 ^ n) - 1
def eX (l:List Cl)(T:List (List Int)):List Cl:=if ep l T≠0∨(aW (cj (ae l) T)).2≠0 then [] else cj (ae l) T
def fF (c r:Cl):Int:=(c.sides.map fun q=>if q.cell=r.id then q.sign else 0).sum
section
variable (rf:List Cl→List Cl→Nat)(n:Nat)(B:List Cl)
def lF (a dim:Int):List Cl:=B.filter fun c=>decide (c.dim=dim)&&decide (gJ n c.id≤a)
def oC (low dim:Int):List Cl:=B.filter fun c=>decide (c.dim=dim)&&decide (gJ n c.id>low)
def cH (a low dim:Int):Int:=(lF n B a dim).length - (rf (lF n B a dim) (oC n B low (dim - 1)):Int)
def qM (a low dim:Int):Int:=cH rf n B (min (max a (-1)) ((n:Int) - 1)) (max low (-1)) dim
def tr (r a b:Int):Int:=qM rf n B a (a - r) (a+b) - qM rf n B (a - 1) (a - r) (a+b) - qM rf n B (a+r - 1) a (a+b+1)+qM rf n B (a+r - 1) (a - 1) (a+b+1)
def uy (D:Nat)(r:Int):List (List Int):=(List.range n).map fun a:Nat=>(List.range D).map fun b:Nat=>tr rf n B r a b
def oA {α:Type}[DecidableEq α]:List α→List α
 | a::b::l=>if a=b then oA (b::l) else a::b::l
 | l=>l
def iS {α:Type}[DecidableEq α](l:List α):List α:=(oA l.reverse).reverse
def jH (D:Nat):List (List (List Int)):=(List.range n).map fun r:Nat=>uy rf n B D ((r:Int)+1)
end
noncomputable def rkP (p:Int) (C R:List Cl):Nat:=rkL p C R fF
def qN (B:List Cl):Bool:=B.any fun c=>decide ((B.filter fun x=>decide (x.dim=c.dim)).length>200)
def de (l:List Cl)(T:List (List Int))(p:Int):Int:=if fu p=false then 46 else if ep l T≠0 then ep l T else if (aW (cj (ae l) T)).2≠0∨qN (cj (ae l) T)=true then 2 else 0
def dimN (l:List Cl):Nat:=(lX (ae l) (-1)+1).toNat
noncomputable def cD (l:List Cl) (T:List (List Int)) (p:Int):List (List (List Int)):=if de l T p≠0 then [] else iS (jH (rkP p) T.length (cj (ae l) T) (dimN l))
def fv (D:Nat)(P:List (List Int)):List Int:=(List.range D).map fun d:Nat=>((P.zipIdx.map fun q=>if q.2≤d then q.1.getD (d - q.2) 0 else 0)).sum
noncomputable def jj (l:List Cl) (T:List (List Int)) (p:Int):List Int:=if (cD l T p).length=0 then [] else fv (dimN l) ((cD l T p).getLastD [])
theorem Rt.ix {L:List Cl}(h:Rt L){i:Nat}{c:Cl}(hi:L[i]?=some c):ixB L c.id=i:=by
 have hc:c∈L:=zf7 hi;have h2:(L.map Cl.id).Pairwise (· < ·):=by rw[zj7]; exact h.asc
 rcases tE (tl:=L) (h2.imp fun h=>by omega) c.id with ⟨h1,_⟩ | ⟨d,k,h1,h3,h4⟩
 ·rw[h.find hc] at h1;cases h1
 ·rw[h.find hc] at h1;cases h1;have h5:(L.map Cl.id).contains c.id=true:=by simp; exact⟨c,hc,I⟩
  unfold atC at h3;rw[zf6 h5] at h3;have h6:ixB L c.id=k:=by unfold ixB; omega
  rw[h6];have hi':=zf1.1 hi;have hk':=zf1.1 h4;obtain ⟨a1,a2⟩:=hi';obtain ⟨b1,b2⟩:=hk'
  rcases Nat.lt_trichotomy i k with h | h' | h
  ·have:=zc6.1 (Rt.asc ‹Rt L›) i k a1 b1 h;rw[a2,b2] at this;omega
  ·exact h'.symm
  ·have:=zc6.1 (Rt.asc ‹Rt L›) k i b1 a1 h;rw[a2,b2] at this;omega
theorem Rt.ix_get {L:List Cl}(h:Rt L){c:Cl}(hc:c∈L):L[ixB L c.id]?=some c:=by
 obtain ⟨i,hi,e⟩:=List.mem_iff_getElem.1 hc;have h1:L[i]?=some c:=by rw[gE hi,e]
 rw[h.ix h1];exact h1
theorem Rt.ix_inj {L:List Cl}(h:Rt L){c d:Cl}(hc:c∈L)(hd:d∈L)(e:ixB L c.id=ixB L d.id):c=d:=by
 have h1:=h.ix_get hc;rw[e,h.ix_get hd] at h1;injection h1 with h1
 exact h1.symm
theorem cM {b s:Nat}:s∈bD b↔0<s∧s &&& b=s:=by
 unfold bD;rw[zg9,List.mem_range];simp only[zi8,zi9];constructor
 ·exact fun h=>h.2
 ·intro h;refine⟨?_,h⟩;have:s &&& b≤b:=Nat.and_le_right;omega
theorem m4 {a b c:Nat}(h:a &&& b=a)(k:b &&& c=b):a &&& c=a:=by
 rw[← h,Nat.and_assoc,k]
theorem sub_le {a b:Nat}(h:a &&& b=a):a≤b:=by
 have:a &&& b≤b:=Nat.and_le_right;omega
theorem eY {n i s i' s':Nat}(h1:s<2 ^ n)(h2:s'<2 ^ n)(h:bId n i s=bId n i' s'):i=i'∧s=s':=BI h1 h2 (by unfold bId at h; omega)
def cw (s:Nat):List (Nat×Nat):=if onesB s≤1 then [] else (eL s).zipIdx
def hB (s t:Nat):Nat:=((cw s).filter fun q=>decide (s - 2 ^ q.1=t)).length
def iB (s t:Nat)(d:Int):Int:=((cw s).map fun q=>if s - 2 ^ q.1=t then sgP (q.2+d) else 0).sum
theorem qH:∀ s,s<16→∀ q∈cw s,0<s - 2 ^ q.1∧(s - 2 ^ q.1) &&& s=s - 2 ^ q.1∧onesB (s - 2 ^ q.1)+1=onesB s∧0<hB s (s - 2 ^ q.1):=by decide +kernel
theorem xX:∀ s,s<16→((cw s).map fun q=>s - 2 ^ q.1).Nodup:=by decide +kernel
theorem Cp:∀ s,s<16→∀ t,t<16→((cw s).map fun q=>sgP q.2 * iB (s - 2 ^ q.1) t 0).sum=0:=by decide +kernel
theorem Cr:∀ s,s<16→∀ t,t<16→hB s t≤1∧hB s s=0∧(((cw s).map fun q=>hB (s - 2 ^ q.1) t).sum=0∨((cw s).map fun q=>hB (s - 2 ^ q.1) t).sum=2)∧((cw s).map fun q=>hB (s - 2 ^ q.1) s).sum=0:=by decide +kernel
theorem AK:∀ s,s<16→3≤onesB s→∀ q∈cw s,∀ r∈cw s,q=r∨(0<s - 2 ^ q.1 - 2 ^ r.1∧(s - 2 ^ q.1 - 2 ^ r.1) &&& s=s - 2 ^ q.1 - 2 ^ r.1∧0<hB (s - 2 ^ q.1) (s - 2 ^ q.1 - 2 ^ r.1)∧0<hB (s - 2 ^ r.1) (s - 2 ^ q.1 - 2 ^ r.1)):=by decide +kernel
theorem Cq:∀ s,s<16→0<s→0<onesB s∧onesB s≤4∧(cw s).length=if onesB s≤1 then 0 else onesB s:=by decide +kernel
theorem Co:∀ s,s<16→onesB s=2→((cw s).map fun q=>sgP (q.2+0)).sum=0:=by decide +kernel
theorem yV (a b:Int):sgP (a+b)=sgP a * sgP b:=by
 unfold sgP;have h1:a % 2=0∨a % 2=1:=oM;have h2:b % 2=0∨b % 2=1:=oM
 rcases h1 with h1 | h1 <;> rcases h2 with h2 | h2 <;> rw[h1,h2]
 ·rw[show (a+b) % 2=0 by omega]; rfl
 ·rw[show (a+b) % 2=1 by omega]; rfl
 ·rw[show (a+b) % 2=1 by omega]; rfl
 ·rw[show (a+b) % 2=0 by omega]; rfl
theorem yU (a:Int):sgP a=1∨sgP a = -1:=by
 unfold sgP;omega
theorem Bs (a:Int):sgP (a - 1) = -sgP a:=by
 unfold sgP;omega
theorem yr (s t:Nat)(d:Int):iB s t d=sgP d * iB s t 0:=by
 unfold iB;refine cA fun q _=>?_;split
 ·rw[yV,Int.add_zero,Int.mul_comm]
 ·rw[Int.mul_zero]
theorem Ea (s t:Nat)(d:Int):iB s t (d - 1)+iB s t d=0:=by
 rw[yr s t (d - 1),yr s t d,Bs,Int.neg_mul];omega
def cS (d e:Cl):Nat:=(d.sides.filter fun q=>decide (q.cell=e.id)).length
def a6 (L:List Cl)(f:Int→Nat)(n:Nat):List Cl:=L.zipIdx.flatMap fun q=>(bD (f q.1.id)).map (a7 L n q.2 q.1)
theorem tD (L:List Cl)(T:List (List Int)):oE L T=a6 L (tlB L 0 T) T.length:=rfl
theorem fq (L:List Cl)(n i:Nat)(y:Cl)(s:Nat):kM L n i y s=(y.sides.map fun x=>⟨bId n (ixB L x.cell) s,x.sign⟩)++(cw s).map fun q=>⟨bId n i (s - 2 ^ q.1),sgP (q.2+y.dim)⟩:=by
 unfold kM cw;split <;> simp
structure Cov (L:List Cl)(f:Int→Nat)(n:Nat):Prop where
 rt:Rt L
 n4:n≤4
 lt:∀ c∈L,f c.id<2 ^ n
 sub:∀ c∈L,∀ x∈c.sides,f c.id &&& f x.cell=f c.id
 few:L.length≤60
 dim:∀ c∈L,c.dim≤4
 sd:∀ c∈L,c.sides.length≤60
section
variable {L:List Cl}{f:Int→Nat}{n:Nat}(h:Cov L f n)
include h
theorem Cov.pow:2 ^ n≤16:=Nat.pow_le_pow_right dC h.n4 (n:=2)
theorem Cov.s16 {c:Cl}(hc:c∈L){s:Nat}(hs:s∈bD (f c.id)):s<2 ^ n∧s<16:=by
 have h1:=sub_le (cM.1 hs).2;have h2:=h.lt c hc;have h3:=h.pow;omega
theorem Cov.side {c:Cl}(hc:c∈L){x:ai}(hx:x∈c.sides):∃ d∈L,d.id=x.cell∧d.dim=c.dim - 1∧∀ s∈bD (f c.id),s∈bD (f d.id):=by
 obtain ⟨d,hd,hdd⟩:=(h.rt.form c hc).found x hx;obtain ⟨h1,h2⟩:=c4 hd;refine⟨d,h1,h2,hdd,fun s hs=>?_⟩;obtain ⟨k1,k2⟩:=cM.1 hs;exact cM.2 ⟨k1,m4 k2 (by rw[h2]; exact h.sub c hc x hx)⟩
omit h in
theorem m9 (h:Rt L){z:Cl}:z∈a6 L f n↔∃ c∈L,∃ s∈bD (f c.id),z=a7 L n (ixB L c.id) c s:=by
 unfold a6;rw[List.mem_flatMap];constructor
 ·rintro ⟨⟨c,i⟩,hq,hz⟩;obtain ⟨s,hs,rfl⟩:=ze7.1 hz;have hi:L[i]?=some c:=List.mem_zipIdx_iff_getElem?.1 hq;exact⟨c,zf7 hi,s,hs,by rw[h.ix hi]⟩
 ·rintro ⟨c,hc,s,hs,rfl⟩;exact⟨(c,ixB L c.id),List.mem_zipIdx_iff_getElem?.2 (h.ix_get hc),ze7.2 ⟨s,hs,I⟩⟩
theorem Cov.ids:((a6 L f n).map Cl.id).Nodup:=by
 have h1:(a6 L f n).Pairwise fun a b=>a.id<b.id:=by
  unfold a6;rw[List.pairwise_flatMap];refine⟨fun q hq=>?_,?_⟩
  ·rw[zj7];have h2:(bD (f q.1.id)).Pairwise (· < ·):=(List.pairwise_lt_range (n:=_)).filter _;refine h2.imp fun {a b} hlt=>?_;show bId n q.2 a<bId n q.2 b;unfold bId;omega
  ·have h3:L.zipIdx.Pairwise fun a b=>a.2<b.2:=by
    have:=List.pairwise_lt_range (n:=L.length);rw[List.range_eq_range',← List.zipIdx_map_snd 0 L,zj7] at this;exact this
   refine List.Pairwise.imp_of_mem ?_ h3;rintro ⟨c,i⟩ ⟨d,j⟩ hc hd hlt z hz w hw;obtain ⟨s,hs,rfl⟩:=ze7.1 hz;obtain ⟨t,ht,rfl⟩:=ze7.1 hw;have hci:L[i]?=some c:=List.mem_zipIdx_iff_getElem?.1 hc;have hs2:=(h.s16 (zf7 hci) hs).1;have:=DU (N:=2 ^ n) (k':=t) hs2 hlt;dsimp only at this;show bId n i s<bId n j t;unfold bId;omega
 rw[List.Nodup,zj7];exact h1.imp fun h=>by omega
theorem Cov.nodup:((aa (a6 L f n)).map Cl.id).Nodup:=by
 have h2:((aa (a6 L f n)).map Cl.id).Perm ((a6 L f n).map Cl.id):=by
  rw[lk];exact (fx _).map _
 exact h2.symm.nodup h.ids
theorem Cov.mem {z:Cl}:z∈aa (a6 L f n)↔∃ c∈L,∃ s∈bD (f c.id),z=ay (a7 L n (ixB L c.id) c s):=by
 unfold aa;rw[ze7];constructor
 ·rintro ⟨d,hd,rfl⟩;obtain ⟨c,hc,s,hs,rfl⟩:=(m9 h.rt).1 ((cN _ _).1 hd);exact⟨c,hc,s,hs,I⟩
 ·rintro ⟨c,hc,s,hs,rfl⟩;exact⟨_,(cN _ _).2 ((m9 h.rt).2 ⟨c,hc,s,hs,I⟩),I⟩
theorem Cov.find {c:Cl}(hc:c∈L){s:Nat}(hs:s∈bD (f c.id)):aM (aa (a6 L f n)) (bId n (ixB L c.id) s)=some (ay (a7 L n (ixB L c.id) c s)) :=
 my (x:=ay (a7 L n (ixB L c.id) c s)) h.nodup (h.mem.2 ⟨c,hc,s,hs,rfl⟩)
omit h in
theorem sS (L:List Cl)(n i:Nat)(c:Cl)(s:Nat):(ay (a7 L n i c s)).sides.Perm (kM L n i c s):=fx _
theorem Cov.hits {d:Cl}(hd:d∈L){u:Nat}(hu:u∈bD (f d.id)){e:Cl}(he:e∈L){t:Nat}(ht:t∈bD (f e.id))(σ:Int) :
  hits (aa (a6 L f n)) ⟨bId n (ixB L d.id) u,σ⟩ (bId n (ixB L e.id) t)=(if t=u then cS d e else 0)+(if e=d then hB u t else 0):=by
 unfold Go.Proofs.YtkbagdedfdfjhaaGreatDoor.hits ao;rw[h.find hd hu];show ((ay (a7 L n (ixB L d.id) d u)).sides.filter _).length=_;have hu2:=h.s16 hd hu;have ht2:=h.s16 he ht;rw[((sS L n _ d u).filter _).length_eq,fq,zh2,ze1,List.filter_map,List.filter_map,ze2,ze2];congr 1
 ·split
  ·rename_i e1;subst e1;unfold cS;congr 1;refine List.filter_congr fun q hq=>?_;obtain ⟨v,hv,hvi,_⟩:=h.side hd hq;show decide (bId n (ixB L q.cell) t=bId n (ixB L e.id) t)=decide (q.cell=e.id);rw[decide_eq_decide,← hvi];constructor
   ·intro k;rw[h.rt.ix_inj hv he (eY ht2.1 ht2.1 k).1]
   ·intro k;rw[k]
  ·rename_i e1;rw[List.length_eq_zero_iff,List.filter_eq_nil_iff];intro q hq k;have k:bId n (ixB L q.cell) u=bId n (ixB L e.id) t:=by simpa using k
   exact e1 (eY hu2.1 ht2.1 k).2.symm
 ·have hlt:∀ q∈cw u,u - 2 ^ q.1<2 ^ n:=fun q _=>Nat.lt_of_le_of_lt (Nat.sub_le _ _) hu2.1;split
  ·rename_i e1;subst e1;unfold hB;congr 1;refine List.filter_congr fun q hq=>?_;show decide (bId n (ixB L e.id) (u - 2 ^ q.1)=bId n (ixB L e.id) t)=decide (u - 2 ^ q.1=t);rw[decide_eq_decide];exact⟨fun k=>(eY (hlt q hq) ht2.1 k).2,fun k=>by rw[k]⟩
  ·rename_i e1;rw[List.length_eq_zero_iff,List.filter_eq_nil_iff];intro q hq k;have k:bId n (ixB L d.id) (u - 2 ^ q.1)=bId n (ixB L e.id) t:=by simpa using k
   exact e1 (h.rt.ix_inj hd he (eY (hlt q hq) ht2.1 k).1).symm
theorem Cov.inner {d:Cl}(hd:d∈L){u:Nat}(hu:u∈bD (f d.id)){e:Cl}(he:e∈L){t:Nat}(ht:t∈bD (f e.id))(σ:Int) :
  inner (aa (a6 L f n)) ⟨bId n (ixB L d.id) u,σ⟩ (bId n (ixB L e.id) t)=σ * ((if t=u then fF d e else 0)+(if e=d then iB u t d.dim else 0)):=by
 unfold Go.Proofs.YtkbagdedfdfjhaaGreatDoor.inner ao;rw[h.find hd hu];show ((ay (a7 L n (ixB L d.id) d u)).sides.map fun q=>if q.cell=bId n (ixB L e.id) t then σ * q.sign else 0).sum=_;have hu2:=h.s16 hd hu;have ht2:=h.s16 he ht;rw[iJ ((sS L n _ d u).map _),fq,zg1,List.sum_append,zi1,zi1,Int.mul_add];congr 1
 ·split
  ·rename_i e1;subst e1;unfold fF;refine cA fun q hq=>?_;obtain ⟨v,hv,hvi,_⟩:=h.side hd hq;show (if bId n (ixB L q.cell) t=bId n (ixB L e.id) t then σ * q.sign else 0)=σ * (if q.cell=e.id then q.sign else 0);by_cases hve:q.cell=e.id
   ·rw[zf6 hve,zf6 (by rw[hve])]
   ·rw[zf5 hve,zf5,Int.mul_zero];intro k;rw[← hvi] at k hve;exact hve (by rw[h.rt.ix_inj hv he (eY ht2.1 ht2.1 k).1])
  ·rename_i e1;rw[cA (g:=fun _=>(0:Int)) (K:=0) fun q hq=>?_,Int.zero_mul,Int.mul_zero];show (if bId n (ixB L q.cell) u=bId n (ixB L e.id) t then σ * q.sign else 0)=_;rw[zf5 fun k=>e1 (eY hu2.1 ht2.1 k).2.symm];rfl
 ·have hlt:∀ q∈cw u,u - 2 ^ q.1<2 ^ n:=fun q _=>Nat.lt_of_le_of_lt (Nat.sub_le _ _) hu2.1;split
  ·rename_i e1;subst e1;unfold iB;refine cA fun q hq=>?_;show (if bId n (ixB L e.id) (u - 2 ^ q.1)=bId n (ixB L e.id) t then σ * sgP (q.2+e.dim) else 0)=σ * (if u - 2 ^ q.1=t then sgP (q.2+e.dim) else 0);by_cases hue:u - 2 ^ q.1=t
   ·rw[zf6 hue,zf6 (by rw[hue])]
   ·rw[zf5 hue,zf5 fun k=>hue (eY (hlt q hq) ht2.1 k).2,Int.mul_zero]
  ·rename_i e1;rw[cA (g:=fun _=>(0:Int)) (K:=0) fun q hq=>?_,Int.zero_mul,Int.mul_zero];show (if bId n (ixB L d.id) (u - 2 ^ q.1)=bId n (ixB L e.id) t then σ * sgP (q.2+d.dim) else 0)=_;rw[zf5 fun k=>e1 (h.rt.ix_inj hd he (eY (hlt q hq) ht2.1 k).1).symm];rfl
end
theorem Eo {α:Type}{l:List α}{g:α→Int}(h:∀ x∈l,g x=0):(l.map g).sum=0:=by
 rw[cA (g:=fun _=>(0:Int)) (K:=0) fun x hx=>by rw[h x hx]; rfl,Int.zero_mul]
theorem AZ {α:Type}{l:List α}{g:α→Nat}(h:∀ x∈l,g x=0):(l.map g).sum=0:=by
 induction l with
 | nil=>rfl
 | cons a b ih=>rw[zf9,List.sum_cons,h a (by simp),ih fun x hx=>h x (by simp[hx])]
theorem Fo {α:Type}(l:List α)(g k:α→Int):(l.map fun x=>g x+k x).sum=(l.map g).sum+(l.map k).sum:=by
 induction l with
 | nil=>rfl
 | cons a b ih=>simp only[zf9,List.sum_cons,ih]; omega
theorem Ex {α:Type}(l:List α)(g k:α→Nat):(l.map fun x=>g x+k x).sum=(l.map g).sum+(l.map k).sum:=by
 induction l with
 | nil=>rfl
 | cons a b ih=>simp only[zf9,List.sum_cons,ih]; omega
theorem Fn {α:Type}(l:List α)(p:α→Prop)[DecidablePred p](K:Nat):(l.map fun x=>if p x then K else 0).sum=(l.filter fun x=>decide (p x)).length * K:=by
 induction l with
 | nil=>simp
 | cons a b ih =>
  rw[zf9,List.sum_cons,ih,zi3];by_cases h:p a
  ·rw[zf6 h,zf6 (by simpa using h),ze4,Nat.add_mul,Nat.one_mul,Nat.add_comm]
  ·rw[zf5 h,zf5 (by simpa using h),Nat.zero_add]
section
variable {L:List Cl}{f:Int→Nat}{n:Nat}(h:Cov L f n)
include h
theorem Cov.hitsL {c d:Cl}(hc:c∈L){x:ai}(hx:x∈c.sides)(hd:d∈L)(hi:d.id=x.cell)(e:Cl):Go.Proofs.YtkbagdedfdfjhaaGreatDoor.hits L x e.id=cS d e:=by
 unfold Go.Proofs.YtkbagdedfdfjhaaGreatDoor.hits ao;rw[← hi,h.rt.find hd];rfl
theorem Cov.innerL {c d:Cl}(hc:c∈L){x:ai}(hx:x∈c.sides)(hd:d∈L)(hi:d.id=x.cell)(e:Cl):Go.Proofs.YtkbagdedfdfjhaaGreatDoor.inner L x e.id=x.sign * fF d e:=by
 unfold Go.Proofs.YtkbagdedfdfjhaaGreatDoor.inner ao;rw[← hi,h.rt.find hd];unfold fF;refine cA fun q _=>?_;show (if q.cell=e.id then x.sign * q.sign else 0)=_;split
 ·rfl
 ·rw[Int.mul_zero]
theorem Cov.cS_le {c:Cl}(hc:c∈L)(e:Cl):cS c e≤1:=by
 unfold cS;have h1:(c.sides.filter fun q=>decide (q.cell=e.id)).Pairwise fun a b=>a.cell<b.cell:=(h.rt.form c hc).asc.filter _;cases hl:c.sides.filter fun q=>decide (q.cell=e.id) with
 | nil=>simp
 | cons a r =>
  cases r with
  | nil=>simp
  | cons b r =>
   rw[hl] at h1;have h2:=(zj6.1 h1).1 b (by simp);have ha:a∈c.sides.filter fun q=>decide (q.cell=e.id):=by rw[hl]; simp
   have hb:b∈c.sides.filter fun q=>decide (q.cell=e.id):=by rw[hl]; simp
   have h3:=(zg9.1 ha).2;have h4:=(zg9.1 hb).2;simp only[zi9] at h3 h4;omega
theorem Cov.cS_dim {c e:Cl}(hc:c∈L)(he:e∈L)(hd:e.dim≠c.dim - 1):cS c e=0:=by
 unfold cS;rw[List.length_eq_zero_iff,List.filter_eq_nil_iff];intro q hq k;simp only[zi9] at k;obtain ⟨d,hd1,hd2,hd3,_⟩:=h.side hc hq;rw[k] at hd2;have h1:=h.rt.find hd1;rw[hd2,h.rt.find he] at h1;cases h1;exact hd hd3
omit h in
theorem E6 {c:Cl}{x:ai}(hx:x∈c.sides){e:Cl}(hi:e.id=x.cell):0<cS c e:=by
 unfold cS;refine List.length_pos_of_mem (a:=x) (zg9.2 ⟨hx,?_⟩);simpa using hi.symm
theorem Cov.bit {c:Cl}(hc:c∈L){s:Nat}(hs:s∈bD (f c.id)){q:Nat×Nat}(hq:q∈cw s):s - 2 ^ q.1∈bD (f c.id):=by
 obtain ⟨k1,k2,_⟩:=qH s (h.s16 hc hs).2 q hq;exact cM.2 ⟨k1,m4 k2 (cM.1 hs).2⟩
theorem Cov.pos1 {c:Cl}(hc:c∈L){s:Nat}(hs:s∈bD (f c.id)):0<onesB s∧onesB s≤4∧(cw s).length=if onesB s≤1 then 0 else onesB s:=Cq s (h.s16 hc hs).2 (cM.1 hs).1
theorem Cov.fm {c:Cl}(hc:c∈L){s:Nat}(hs:s∈bD (f c.id)):Fm (aa (a6 L f n)) (ay (a7 L n (ixB L c.id) c s)):=by
 have hf:=h.rt.form c hc;have hp:=sS L n (ixB L c.id) c s;rw[fq] at hp;have hmem:∀ x',x'∈(ay (a7 L n (ixB L c.id) c s)).sides↔(∃ x∈c.sides,x'=⟨bId n (ixB L x.cell) s,x.sign⟩)∨∃ q∈cw s,x'=⟨bId n (ixB L c.id) (s - 2 ^ q.1),sgP (q.2+c.dim)⟩:=fun x'=>by
  rw[hp.mem_iff,ze8,ze7,ze7];exact⟨fun h=>h.elim (fun ⟨x,a,b⟩=>.inl ⟨x,a,b.symm⟩) fun ⟨x,a,b⟩=>.inr ⟨x,a,b.symm⟩,fun h=>h.elim (fun ⟨x,a,b⟩=>.inl ⟨x,a,b.symm⟩) fun ⟨x,a,b⟩=>.inr ⟨x,a,b.symm⟩⟩
 have hlen:(ay (a7 L n (ixB L c.id) c s)).sides.length=c.sides.length+(cw s).length:=by rw[hp.length_eq,ze1,ze2,ze2]
 obtain ⟨o1,o2,o3⟩:=h.pos1 hc hs;have s16:=h.s16 hc hs;have hdim:(ay (a7 L n (ixB L c.id) c s)).dim=c.dim+onesB s - 1:=rfl;have hd0:=hf.dim;have hd4:=h.dim c hc;have hsd:=h.sd c hc;refine⟨by rw[hdim]; omega,?_,fun x' hx'=>?_,?_,fun x' hx'=>?_,fun hd=>?_⟩
 ·have hcn:=hf.cnt;simp only[au,hdim,hlen,o3] at hcn ⊢;simp only[Bool.or_eq_false_iff,Bool.and_eq_false_iff,decide_eq_false_iff_not] at hcn ⊢;split <;> omega
 ·rcases (hmem x').1 hx' with ⟨x,hx,rfl⟩ | ⟨q,hq,rfl⟩
  ·obtain ⟨d,hd,hid,hdd,hsub⟩:=h.side hc hx;have:=h.find hd (hsub s hs);rw[hid] at this;refine⟨_,this,?_⟩;show d.dim+onesB s - 1=c.dim+onesB s - 1 - 1;omega
  ·refine⟨_,h.find hc (h.bit hc hs hq),?_⟩;have:=(qH s s16.2 q hq).2.2.1;show c.dim+onesB (s - 2 ^ q.1) - 1=c.dim+onesB s - 1 - 1;omega
 ·have h1:(ay (a7 L n (ixB L c.id) c s)).sides.Pairwise fun a b=>a.cell≤b.cell:=di _;have h2:((ay (a7 L n (ixB L c.id) c s)).sides.map ai.cell).Nodup:=by
   refine (hp.map ai.cell).symm.nodup ?_;rw[zg1,zi1,zi1];refine List.nodup_append.2 ⟨?_,?_,?_⟩
   ·rw[List.Nodup,zj7];refine List.Pairwise.imp_of_mem ?_ hf.asc;intro a b ha hb hlt e;obtain ⟨d,hd,hid,_⟩:=h.side hc ha;obtain ⟨d',hd',hid',_⟩:=h.side hc hb;have e:bId n (ixB L a.cell) s=bId n (ixB L b.cell) s:=e;rw[← hid,← hid'] at e;have:=h.rt.ix_inj hd hd' (eY s16.1 s16.1 e).1;subst this;omega
   ·have h3:=xX s s16.2;rw[List.Nodup,zj7] at h3 ⊢;refine h3.imp fun {a b} hne e=>hne ?_;have e:bId n (ixB L c.id) (s - 2 ^ a.1)=bId n (ixB L c.id) (s - 2 ^ b.1):=e;exact (eY (Nat.lt_of_le_of_lt (Nat.sub_le _ _) s16.1) (Nat.lt_of_le_of_lt (Nat.sub_le _ _) s16.1) e).2
   ·intro a ha b hb e;obtain ⟨x,hx,rfl⟩:=ze7.1 ha;obtain ⟨q,hq,rfl⟩:=ze7.1 hb;obtain ⟨d,hd,hid,hdd,_⟩:=h.side hc hx;have e:bId n (ixB L x.cell) s=bId n (ixB L c.id) (s - 2 ^ q.1):=e;rw[← hid] at e;have:=h.rt.ix_inj hd hc (eY s16.1 (Nat.lt_of_le_of_lt (Nat.sub_le _ _) s16.1) e).1;subst this;omega
  rw[List.Nodup,zj7] at h2;exact (h1.and h2).imp fun ⟨h3,h4⟩=>by omega
 ·rcases (hmem x').1 hx' with ⟨x,hx,rfl⟩ | ⟨q,hq,rfl⟩
  ·exact hf.sg x hx
  ·exact yU _
 ·rw[hdim] at hd;unfold kK;rw[iJ (hp.map ai.sign),zg1,List.sum_append,zi1,zi1];have hcn:=hf.cnt;simp only[au,Bool.or_eq_false_iff,Bool.and_eq_false_iff,decide_eq_false_iff_not] at hcn;by_cases hc1:c.dim=1
  ·have h1:=hf.one hc1;unfold kK at h1;have h2:cw s=[]:=List.length_eq_zero_iff.1 (by rw[o3,zf6 oM]);rw[h2];show (c.sides.map ai.sign).sum+0=0;rw[h1];rfl
  ·have h3:c.sides=[]:=List.length_eq_zero_iff.1 oM;have h4:=Co s s16.2 oM;rw[h3];show 0+((cw s).map fun q=>sgP (q.2+c.dim)).sum=0;rw[show c.dim=0 by omega,h4];rfl
theorem Cov.sumR {c:Cl}(hc:c∈L){s:Nat}(hs:s∈bD (f c.id)){e:Cl}(he:e∈L){t:Nat}(ht:t∈bD (f e.id)):Go.Proofs.YtkbagdedfdfjhaaGreatDoor.sumR (aa (a6 L f n)) (ay (a7 L n (ixB L c.id) c s)).sides (bId n (ixB L e.id) t)=0:=by
 have s16:=h.s16 hc hs;have t16:=h.s16 he ht;rw[rK (sS L n _ c s),fq,dS,zg1,List.sum_append,zi1,zi1];have e1:(c.sides.map ((fun x=>Go.Proofs.YtkbagdedfdfjhaaGreatDoor.inner (aa (a6 L f n)) x (bId n (ixB L e.id) t)) ∘ fun x=>(⟨bId n (ixB L x.cell) s,x.sign⟩:ai))).sum=(if t=s then Go.Proofs.YtkbagdedfdfjhaaGreatDoor.sumR L c.sides e.id else 0)+iB s t (c.dim - 1) * fF c e:=by
  rw[dS];have:(c.sides.map ((fun x=>Go.Proofs.YtkbagdedfdfjhaaGreatDoor.inner (aa (a6 L f n)) x (bId n (ixB L e.id) t)) ∘ fun x=>(⟨bId n (ixB L x.cell) s,x.sign⟩:ai))).sum=(c.sides.map fun x=>(if t=s then Go.Proofs.YtkbagdedfdfjhaaGreatDoor.inner L x e.id else 0)+iB s t (c.dim - 1) * (if x.cell=e.id then x.sign else 0)).sum:=by
   congr 1;refine zc5 fun x hx=>?_;obtain ⟨d,hd,hid,hdd,hsub⟩:=h.side hc hx;show Go.Proofs.YtkbagdedfdfjhaaGreatDoor.inner _ ⟨bId n (ixB L x.cell) s,x.sign⟩ _=_;rw[h.innerL hc hx hd hid,← hid,h.inner hd (hsub s hs) he ht,Int.mul_add];congr 1
   ·split <;> simp
   ·by_cases k:e=d
    ·subst k;rw[zf6 rfl,zf6 rfl,hdd,Int.mul_comm]
    ·rw[zf5 k,zf5 (fun k2=>k (by
      have h1:=h.rt.find hd;rw[k2,h.rt.find he] at h1;injection h1)),Int.mul_zero,Int.mul_zero]
  rw[this,Fo];congr 1
  ·split
   ·rfl
   ·exact Eo fun _ _=>I
  ·unfold fF;exact cA fun x _=>I
 have e2:((cw s).map ((fun x=>Go.Proofs.YtkbagdedfdfjhaaGreatDoor.inner (aa (a6 L f n)) x (bId n (ixB L e.id) t)) ∘ fun q=>(⟨bId n (ixB L c.id) (s - 2 ^ q.1),sgP (q.2+c.dim)⟩:ai))).sum=fF c e * iB s t c.dim+(if e=c then ((cw s).map fun q=>sgP q.2 * iB (s - 2 ^ q.1) t 0).sum else 0):=by
  have:((cw s).map ((fun x=>Go.Proofs.YtkbagdedfdfjhaaGreatDoor.inner (aa (a6 L f n)) x (bId n (ixB L e.id) t)) ∘ fun q=>(⟨bId n (ixB L c.id) (s - 2 ^ q.1),sgP (q.2+c.dim)⟩:ai))).sum=((cw s).map fun q=>fF c e * (if s - 2 ^ q.1=t then sgP (q.2+c.dim) else 0)+(if e=c then sgP q.2 * iB (s - 2 ^ q.1) t 0 else 0)).sum:=by
   congr 1;refine zc5 fun q hq=>?_;show Go.Proofs.YtkbagdedfdfjhaaGreatDoor.inner _ ⟨bId n (ixB L c.id) (s - 2 ^ q.1),sgP (q.2+c.dim)⟩ _=_;rw[h.inner hc (h.bit hc hs hq) he ht,Int.mul_add];congr 1
   ·by_cases k:t=s - 2 ^ q.1
    ·rw[zf6 k,zf6 k.symm,Int.mul_comm]
    ·rw[zf5 k,zf5 (fun k2=>k k2.symm),Int.mul_zero,Int.mul_zero]
   ·split
    ·rw[yr,yV,← Int.mul_assoc,Int.mul_assoc (sgP q.2)];have:sgP c.dim * sgP c.dim=1:=by rcases yU c.dim with h | h <;> rw[h] <;> rfl
     rw[this,Int.mul_one]
    ·rw[Int.mul_zero]
  rw[this,Fo];congr 1
  ·unfold iB;exact cA fun x _=>I
  ·split
   ·rfl
   ·exact Eo fun _ _=>I
 rw[e1,e2,Cp s s16.2 t t16.2];have e3:(if t=s then Go.Proofs.YtkbagdedfdfjhaaGreatDoor.sumR L c.sides e.id else 0)=0:=by
  split
  ·by_cases hd:c.dim>1
   ·have hn0:0<c.sides.length:=by
     have:=(h.rt.form c hc).cnt;simp[au] at this;have:=this.2 hd;omega
    have nd:(c.sides.map ai.cell).Nodup:=by
     rw[List.Nodup,zj7];exact (h.rt.form c hc).asc.imp fun h=>by omega
    exact ((fk hn0 nd).1 (h.rt.around c hc hd)).1 e.id
   ·rw[dS];refine Eo fun x hx=>?_;obtain ⟨d,hd,hid,hdd,_⟩:=h.side hc hx;rw[h.innerL hc hx hd hid];have h1:=(h.rt.form d hd).dim;have h2:=(h.rt.form d hd).cnt;simp only[au,Bool.or_eq_false_iff,Bool.and_eq_false_iff,decide_eq_false_iff_not] at h2;have h3:d.sides=[]:=List.length_eq_zero_iff.1 oM;unfold fF;rw[h3];simp
  ·rfl
 have e4:=Ea s t c.dim;rw[e3,Int.mul_comm (iB s t (c.dim - 1))];have e5:fF c e * iB s t (c.dim - 1)+fF c e * iB s t c.dim=0:=by rw[← Int.mul_add,e4,Int.mul_zero]
 split <;> omega
theorem Cov.cntR {c:Cl}(hc:c∈L){s:Nat}(hs:s∈bD (f c.id)){e:Cl}(he:e∈L){t:Nat}(ht:t∈bD (f e.id)) :
  Go.Proofs.YtkbagdedfdfjhaaGreatDoor.cntR (aa (a6 L f n)) (ay (a7 L n (ixB L c.id) c s)).sides (bId n (ixB L e.id) t)=0∨Go.Proofs.YtkbagdedfdfjhaaGreatDoor.cntR (aa (a6 L f n)) (ay (a7 L n (ixB L c.id) c s)).sides (bId n (ixB L e.id) t)=2:=by
 have s16:=h.s16 hc hs;have t16:=h.s16 he ht;rw[sh (sS L n _ c s),fq];unfold Go.Proofs.YtkbagdedfdfjhaaGreatDoor.cntR;rw[zg1,List.sum_append,zi1,zi1];have e1:(c.sides.map ((fun x=>Go.Proofs.YtkbagdedfdfjhaaGreatDoor.hits (aa (a6 L f n)) x (bId n (ixB L e.id) t)) ∘ fun x=>(⟨bId n (ixB L x.cell) s,x.sign⟩:ai))).sum=(if t=s then Go.Proofs.YtkbagdedfdfjhaaGreatDoor.cntR L c.sides e.id else 0)+cS c e * hB s t:=by
  have:(c.sides.map ((fun x=>Go.Proofs.YtkbagdedfdfjhaaGreatDoor.hits (aa (a6 L f n)) x (bId n (ixB L e.id) t)) ∘ fun x=>(⟨bId n (ixB L x.cell) s,x.sign⟩:ai))).sum=(c.sides.map fun x=>(if t=s then Go.Proofs.YtkbagdedfdfjhaaGreatDoor.hits L x e.id else 0)+(if x.cell=e.id then hB s t else 0)).sum:=by
   congr 1;refine zc5 fun x hx=>?_;obtain ⟨d,hd,hid,hdd,hsub⟩:=h.side hc hx;show Go.Proofs.YtkbagdedfdfjhaaGreatDoor.hits _ ⟨bId n (ixB L x.cell) s,x.sign⟩ _=_;rw[h.hitsL hc hx hd hid,← hid,h.hits hd (hsub s hs) he ht];congr 1;by_cases k:e=d
   ·subst k;rw[zf6 rfl,zf6 rfl]
   ·rw[zf5 k,zf5 (fun k2=>k (by
     have h1:=h.rt.find hd;rw[k2,h.rt.find he] at h1;injection h1))]
  rw[this,Ex];congr 1
  ·split
   ·rfl
   ·exact AZ fun _ _=>I
  ·exact Fn _ _ _
 have e2:((cw s).map ((fun x=>Go.Proofs.YtkbagdedfdfjhaaGreatDoor.hits (aa (a6 L f n)) x (bId n (ixB L e.id) t)) ∘ fun q=>(⟨bId n (ixB L c.id) (s - 2 ^ q.1),sgP (q.2+c.dim)⟩:ai))).sum=hB s t * cS c e+(if e=c then ((cw s).map fun q=>hB (s - 2 ^ q.1) t).sum else 0):=by
  have:((cw s).map ((fun x=>Go.Proofs.YtkbagdedfdfjhaaGreatDoor.hits (aa (a6 L f n)) x (bId n (ixB L e.id) t)) ∘ fun q=>(⟨bId n (ixB L c.id) (s - 2 ^ q.1),sgP (q.2+c.dim)⟩:ai))).sum=((cw s).map fun q=>(if s - 2 ^ q.1=t then cS c e else 0)+(if e=c then hB (s - 2 ^ q.1) t else 0)).sum:=by
   congr 1;refine zc5 fun q hq=>?_;show Go.Proofs.YtkbagdedfdfjhaaGreatDoor.hits _ ⟨bId n (ixB L c.id) (s - 2 ^ q.1),sgP (q.2+c.dim)⟩ _=_;rw[h.hits hc (h.bit hc hs hq) he ht];congr 1;by_cases k:t=s - 2 ^ q.1
   ·rw[zf6 k,zf6 k.symm]
   ·rw[zf5 k,zf5 fun k2=>k k2.symm]
  rw[this,Ex];congr 1
  ·exact Fn _ _ _
  ·split
   ·rfl
   ·exact AZ fun _ _=>I
 rw[e1,e2];obtain ⟨b1,b2,b3,b4⟩:=Cr s s16.2 t t16.2;have e3:Go.Proofs.YtkbagdedfdfjhaaGreatDoor.cntR L c.sides e.id=0∨Go.Proofs.YtkbagdedfdfjhaaGreatDoor.cntR L c.sides e.id=2:=by
  by_cases hd:c.dim>1
  ·have hn0:0<c.sides.length:=by
    have:=(h.rt.form c hc).cnt;simp[au] at this;have:=this.2 hd;omega
   have nd:(c.sides.map ai.cell).Nodup:=by
    rw[List.Nodup,zj7];exact (h.rt.form c hc).asc.imp fun h=>by omega
   exact ((fk hn0 nd).1 (h.rt.around c hc hd)).2.1 e.id
  ·left;unfold Go.Proofs.YtkbagdedfdfjhaaGreatDoor.cntR;refine AZ fun x hx=>?_;obtain ⟨d,hd,hid,hdd,_⟩:=h.side hc hx;rw[h.hitsL hc hx hd hid];have h1:=(h.rt.form d hd).dim;have h2:=(h.rt.form d hd).cnt;simp only[au,Bool.or_eq_false_iff,Bool.and_eq_false_iff,decide_eq_false_iff_not] at h2;have h3:d.sides=[]:=List.length_eq_zero_iff.1 oM;unfold cS;rw[h3];rfl
 by_cases k:t=s
 ·subst k;rw[b2,b4,zf6 rfl];simp only[Nat.mul_zero,Nat.zero_mul,ite_self,Nat.add_zero];exact e3
 ·rw[zf5 k];by_cases k2:e=c
  ·subst k2;rw[h.cS_dim hc hc oM,zf6 rfl];simp only[Nat.mul_zero,Nat.zero_mul,Nat.zero_add];exact b3
  ·rw[zf5 k2];have h1:=h.cS_le hc e;have h2:cS c e=0∨cS c e=1:=oM;have h3:hB s t=0∨hB s t=1:=oM
   rcases h2 with h2 | h2 <;> rcases h3 with h3 | h3 <;> rw[h2,h3] <;> simp
end
section
variable {L:List Cl}{f:Int→Nat}{n:Nat}(h:Cov L f n)
include h
theorem Cov.known {d:Cl}(hd:d∈L){u:Nat}(hu:u∈bD (f d.id)){σ r:Int}(hr:0<Go.Proofs.YtkbagdedfdfjhaaGreatDoor.hits (aa (a6 L f n)) ⟨bId n (ixB L d.id) u,σ⟩ r):∃ e∈L,∃ t∈bD (f e.id),r=bId n (ixB L e.id) t:=by
 unfold Go.Proofs.YtkbagdedfdfjhaaGreatDoor.hits ao at hr;rw[h.find hd hu] at hr;obtain ⟨q,hq⟩:=List.exists_mem_of_length_pos hr;obtain ⟨hq1,hq2⟩:=zg9.1 hq;have hq1:q∈(ay (a7 L n (ixB L d.id) d u)).sides:=hq1;rw[(sS L n _ d u).mem_iff,fq,ze8,ze7,ze7] at hq1;have hq2:q.cell=r:=by simpa using hq2
 rcases hq1 with ⟨x,hx,rfl⟩ | ⟨b,hb,rfl⟩
 ·obtain ⟨e,he,hei,_,hsub⟩:=h.side hd hx;exact⟨e,he,u,hsub u hu,by rw[hei]; exact hq2.symm⟩
 ·exact⟨d,hd,_,h.bit hd hu hb,hq2.symm⟩
theorem Cov.around {c:Cl}(hc:c∈L){s:Nat}(hs:s∈bD (f c.id))(hd1:c.dim+onesB s - 1>1):ce (aa (a6 L f n)) (ay (a7 L n (ixB L c.id) c s))=0:=by
 have s16:=h.s16 hc hs;have hfm:=h.fm hc hs;have hp:=sS L n (ixB L c.id) c s;rw[fq] at hp;have hmem:∀ x',x'∈(ay (a7 L n (ixB L c.id) c s)).sides↔(∃ x∈c.sides,x'=⟨bId n (ixB L x.cell) s,x.sign⟩)∨∃ q∈cw s,x'=⟨bId n (ixB L c.id) (s - 2 ^ q.1),sgP (q.2+c.dim)⟩:=fun x'=>by
  rw[hp.mem_iff,ze8,ze7,ze7];exact⟨fun h=>h.elim (fun ⟨x,a,b⟩=>.inl ⟨x,a,b.symm⟩) fun ⟨x,a,b⟩=>.inr ⟨x,a,b.symm⟩,fun h=>h.elim (fun ⟨x,a,b⟩=>.inl ⟨x,a,b.symm⟩) fun ⟨x,a,b⟩=>.inr ⟨x,a,b.symm⟩⟩
 have hn0:0<(ay (a7 L n (ixB L c.id) c s)).sides.length:=by
  have:=hfm.cnt;have hd2:(ay (a7 L n (ixB L c.id) c s)).dim>1:=hd1;simp[au] at this;have:=this.2 hd2;omega
 have nd:((ay (a7 L n (ixB L c.id) c s)).sides.map ai.cell).Nodup:=by
  rw[List.Nodup,zj7];exact hfm.asc.imp fun h=>by omega
 have hkn:∀ x'∈(ay (a7 L n (ixB L c.id) c s)).sides,∀ r,0<Go.Proofs.YtkbagdedfdfjhaaGreatDoor.hits (aa (a6 L f n)) x' r→∃ e∈L,∃ t∈bD (f e.id),r=bId n (ixB L e.id) t:=fun x' hx' r hr=>by
  rcases (hmem x').1 hx' with ⟨x,hx,rfl⟩ | ⟨q,hq,rfl⟩
  ·obtain ⟨d,hd,hid,_,hsub⟩:=h.side hc hx;rw[← hid] at hr;exact h.known hd (hsub s hs) hr
  ·exact h.known hc (h.bit hc hs hq) hr
 refine (fk hn0 nd).2 ⟨fun r=>?_,fun r=>?_,?_⟩
 ·by_cases hr:∃ x'∈(ay (a7 L n (ixB L c.id) c s)).sides,0<Go.Proofs.YtkbagdedfdfjhaaGreatDoor.hits (aa (a6 L f n)) x' r
  ·obtain ⟨x',hx',hr⟩:=hr;obtain ⟨e,he,t,ht,rfl⟩:=hkn x' hx' r hr;exact h.sumR hc hs he ht
  ·rw[dS];exact Eo fun x hx=>wh (by
    have:¬ 0<Go.Proofs.YtkbagdedfdfjhaaGreatDoor.hits (aa (a6 L f n)) x r:=fun k=>hr ⟨x,hx,k⟩;omega)
 ·by_cases hr:∃ x'∈(ay (a7 L n (ixB L c.id) c s)).sides,0<Go.Proofs.YtkbagdedfdfjhaaGreatDoor.hits (aa (a6 L f n)) x' r
  ·obtain ⟨x',hx',hr⟩:=hr;obtain ⟨e,he,t,ht,rfl⟩:=hkn x' hx' r hr;exact h.cntR hc hs he ht
  ·left;unfold Go.Proofs.YtkbagdedfdfjhaaGreatDoor.cntR;exact AZ fun x hx=>by
    have:¬ 0<Go.Proofs.YtkbagdedfdfjhaaGreatDoor.hits (aa (a6 L f n)) x r:=fun k=>hr ⟨x,hx,k⟩;omega
 ·have m1:∀ x∈c.sides,(⟨bId n (ixB L x.cell) s,x.sign⟩:ai)∈(ay (a7 L n (ixB L c.id) c s)).sides:=fun x hx=>(hmem _).2 (.inl ⟨x,hx,rfl⟩);have m2:∀ q∈cw s,(⟨bId n (ixB L c.id) (s - 2 ^ q.1),sgP (q.2+c.dim)⟩:ai)∈(ay (a7 L n (ixB L c.id) c s)).sides:=fun q hq=>(hmem _).2 (.inr ⟨q,hq,rfl⟩)
  -- a side of the cell and one of the set
  have l12:∀ x∈c.sides,∀ q∈cw s,Cn (oB (aa (a6 L f n)) (ay (a7 L n (ixB L c.id) c s)).sides) (bId n (ixB L x.cell) s) (bId n (ixB L c.id) (s - 2 ^ q.1)):=fun x hx q hq=>by
   obtain ⟨d,hd,hid,hdd,hsub⟩:=h.side hc hx;obtain ⟨k1,k2,k3,k4⟩:=qH s s16.2 q hq;have hb:=h.bit hc hs hq;refine .one ⟨_,m1 x hx,_,m2 q hq,I,I,bId n (ixB L d.id) (s - 2 ^ q.1),?_,?_⟩
   ·rw[← hid,h.hits hd (hsub s hs) hd (hsub _ hb),zf6 rfl];omega
   ·rw[h.hits hc hb hd (hsub _ hb),zf6 rfl];have:=E6 hx hid;omega
  have l11:∀ x∈c.sides,∀ y∈c.sides,Cn (oB (aa (a6 L f n)) (ay (a7 L n (ixB L c.id) c s)).sides) (bId n (ixB L x.cell) s) (bId n (ixB L y.cell) s):=fun x hx y hy=>by
   by_cases hd:c.dim>1
   ·have hn0:0<c.sides.length:=List.length_pos_of_mem hx;have nd:(c.sides.map ai.cell).Nodup:=by
     rw[List.Nodup,zj7];exact (h.rt.form c hc).asc.imp fun h=>by omega
    refine (((fk hn0 nd).1 (h.rt.around c hc hd)).2.2 x hx y hy).map (f:=fun a=>bId n (ixB L a) s) fun a b=>?_;rintro ⟨u,hu,v,hv,rfl,rfl,r,h1,h2⟩;obtain ⟨du,hdu,hidu,_,hsu⟩:=h.side hc hu;obtain ⟨dv,hdv,hidv,_,hsv⟩:=h.side hc hv;have hr:∃ e∈L,e.id=r∧∀ s∈bD (f du.id),s∈bD (f e.id):=by
     have h1':=h1;unfold Go.Proofs.YtkbagdedfdfjhaaGreatDoor.hits ao at h1';rw[← hidu,h.rt.find hdu] at h1';obtain ⟨q,hq⟩:=List.exists_mem_of_length_pos h1';obtain ⟨hq1,hq2⟩:=zg9.1 hq;obtain ⟨e,he,hei,_,hse⟩:=h.side hdu (x:=q) hq1;exact⟨e,he,by rw[hei]; simpa using hq2,hse⟩
    obtain ⟨e,he,rfl,hse⟩:=hr;rw[h.hitsL hc hu hdu hidu] at h1;rw[h.hitsL hc hv hdv hidv] at h2;refine .one ⟨_,m1 u hu,_,m1 v hv,I,I,bId n (ixB L e.id) s,?_,?_⟩
    ·rw[← hidu,h.hits hdu (hsu s hs) he (hse s (hsu s hs)),zf6 rfl];omega
    ·rw[← hidv,h.hits hdv (hsv s hs) he (hse s (hsu s hs)),zf6 rfl];omega
   ·have hb:0<(cw s).length:=by
     have:=h.pos1 hc hs;rw[this.2.2,zf5 oM];exact this.1
    obtain ⟨q,hq⟩:=List.exists_mem_of_length_pos hb;exact (l12 x hx q hq).trans (l12 y hy q hq).symm
  have l22:∀ q∈cw s,∀ r∈cw s,Cn (oB (aa (a6 L f n)) (ay (a7 L n (ixB L c.id) c s)).sides) (bId n (ixB L c.id) (s - 2 ^ q.1)) (bId n (ixB L c.id) (s - 2 ^ r.1)):=fun q hq r hr=>by
   by_cases hx:0<c.sides.length
   ·obtain ⟨x,hx⟩:=List.exists_mem_of_length_pos hx;exact (l12 x hx q hq).symm.trans (l12 x hx r hr)
   ·have hd0:c.dim=0:=by
     have h1:=(h.rt.form c hc).cnt;have h2:=(h.rt.form c hc).dim;simp only[au,Bool.or_eq_false_iff,Bool.and_eq_false_iff,decide_eq_false_iff_not] at h1;omega
    rcases AK s s16.2 oM q hq r hr with rfl | ⟨k1,k2,k3,k4⟩
    ·exact .refl _
    ·have ht:s - 2 ^ q.1 - 2 ^ r.1∈bD (f c.id):=cM.2 ⟨k1,m4 k2 (cM.1 hs).2⟩;refine .one ⟨_,m2 q hq,_,m2 r hr,I,I,bId n (ixB L c.id) (s - 2 ^ q.1 - 2 ^ r.1),?_,?_⟩
     ·rw[h.hits hc (h.bit hc hs hq) hc ht,zf6 (rfl:c=c)];omega
     ·rw[h.hits hc (h.bit hc hs hr) hc ht,zf6 (rfl:c=c)];omega
  intro x' hx' y' hy'
  rcases (hmem x').1 hx' with ⟨x,hx,rfl⟩ | ⟨q,hq,rfl⟩ <;> rcases (hmem y').1 hy' with ⟨y,hy,rfl⟩ | ⟨r,hr,rfl⟩
  ·exact l11 x hx y hy
  ·exact l12 x hx r hr
  ·exact (l12 y hy q hq).symm
  ·exact l22 q hq r hr
omit h in
theorem rL (b:Nat):(bD b).length≤b:=by
 unfold bD;rw[List.range_succ_eq_map,List.filter_cons_of_neg (by simp)];have:=zc2 (fun s=>decide (0<s)&&decide (s &&& b=s)) ((List.range b).map Nat.succ);rw[ze2,zh9] at this;exact this
omit h in
theorem qD {α β:Type}(g:α→List β)(K:Nat):∀ {l:List α},(∀ x∈l,(g x).length≤K)→(l.flatMap g).length≤l.length * K
 | [],_=>by simp
 | x::l,h=>by
  rw[zh1,ze1,ze4,Nat.add_mul,Nat.one_mul];have h1:=h x (by simp);have h2:=qD g K (l:=l) fun y hy=>h y (by simp[hy]);omega
theorem Cov.len:(a6 L f n).length≤L.length * 15:=by
 unfold a6;have:=qD (fun q:Cl×Nat=>(bD (f q.1.id)).map (a7 L n q.2 q.1)) 15 (l:=L.zipIdx) fun q hq=>by
  rw[ze2];have h1:=rL (f q.1.id);have hm:L[q.2]?=some q.1:=List.mem_zipIdx_iff_getElem?.1 hq;have h2:=h.lt q.1 (zf7 hm);have h3:=h.pow;omega
 rwa [List.length_zipIdx] at this
theorem Cov.right:Rt (aa (a6 L f n)):=by
 refine⟨?_,?_,fun x' hx'=>?_,fun x' hx'=>?_,fun x' hx' hd=>?_⟩
 ·rw[am];have h1:=h.len;have h2:=h.few;omega
 ·have h1:=fg (a6 L f n);have h2:=h.nodup;rw[zj7] at h1;rw[List.Nodup,zj7] at h2;exact (h1.and h2).imp fun ⟨h3,h4⟩=>by omega
 ·obtain ⟨c,hc,s,hs,rfl⟩:=h.mem.1 hx';have:=(cM.1 hs).1;show 0<bId n (ixB L c.id) s;unfold bId;omega
 ·obtain ⟨c,hc,s,hs,rfl⟩:=h.mem.1 hx';exact h.fm hc hs
 ·obtain ⟨c,hc,s,hs,rfl⟩:=h.mem.1 hx';exact h.around hc hs hd
end
section
variable {p:Int}(hp:Fld p)(n:Nat)(B:List Cl)
include hp
end
section
variable (rf:List Cl→List Cl→Nat)(n:Nat)(B:List Cl)
def uB (r a d:Int):Int:=cH rf n B a (max (a - r) (-1)) d - cH rf n B (a - 1) (max (a - r) (-1)) d
def vB (r a d:Int):Int:=cH rf n B (min (a+r - 1) ((n:Int) - 1)) a d - cH rf n B (min (a+r - 1) ((n:Int) - 1)) (a - 1) d
theorem ET {r a b:Int}(h1:1≤r)(h2:0≤a)(h3:a<n):tr rf n B r a b=uB rf n B r a (a+b) - vB rf n B r a (a+b+1):=by
 unfold tr uB vB qM;rw[show min (max a (-1)) ((n:Int) - 1)=a by omega,show min (max (a - 1) (-1)) ((n:Int) - 1)=a - 1 by omega,show min (max (a+r - 1) (-1)) ((n:Int) - 1)=min (a+r - 1) ((n:Int) - 1) by omega,show max a (-1)=a by omega,show max (a - 1) (-1)=a - 1 by omega];omega
end
section
variable {p:Int}(hp:Fld p){n:Nat}{B:List Cl}(hB:Rt B)(hdeg:∀ c∈B,0≤gJ n c.id∧gJ n c.id≤(n:Int) - 1)
include hp
include hB hdeg
end
theorem zM (n:Nat)(f:Nat→Int):az (List.range (n+1)) f=az (List.range n) f+f n:=by
 rw[List.range_succ,iW,cg,gN];omega
section
variable (rf:List Cl→List Cl→Nat)(n:Nat)(B:List Cl)
end
section
variable {p:Int}(hp:Fld p){n:Nat}{B:List Cl}(hdeg:∀ c∈B,0≤gJ n c.id∧gJ n c.id≤(n:Int) - 1)
include hp
theorem DH (R:List Cl):rkP p [] R=0:=by
 have:=jw hp (mx ([]:List Cl) R fF) 0 R.length;show rk p (mx ([]:List Cl) R fF) 0 R.length=0;omega
theorem vP (C:List Cl):rkP p C []=0:=by
 have:=tw hp (mx C ([]:List Cl) fF) C.length 0;show rk p (mx C ([]:List Cl) fF) C.length 0=0;omega
include hdeg
end
theorem rF (L:List Cl)(id:Int):∀ (T:List (List Int)) (k:Nat),tlB L (k+1) T id=2 * tlB L k T id
 | [],_=>rfl
 | t::T,k=>by
  unfold tlB;rw[rF L id T (k+1),Nat.mul_add,Nat.pow_succ];split <;> omega
theorem vC (L:List Cl)(t:List Int)(T:List (List Int))(id:Int):tlB L 0 (t::T) id=(if (ee L t).contains id then 1 else 0)+2 * tlB L 0 T id:=by
 rw[← rF];rfl
theorem El {a b x y:Nat}(ha:a≤1)(hb:b≤1)(h:a≤b)(k:x &&& y=x):(a+2 * x) &&& (b+2 * y)=a+2 * x:=by
 refine Nat.eq_of_testBit_eq fun j=>?_;rw[Nat.testBit_and];cases j with
 | zero =>
  rw[Nat.testBit_zero,Nat.testBit_zero];have h1:(a+2 * x) % 2=a:=oM;have h2:(b+2 * y) % 2=b:=oM;rw[h1,h2];by_cases e:a=1
  ·have:b=1:=oM;simp[e,this]
  ·simp[e]
 | succ j =>
  rw[Nat.testBit_succ,Nat.testBit_succ,show (a+2 * x) / 2=x by omega,show (b+2 * y) / 2=y by omega,← Nat.testBit_and,k]
theorem yN (L:List Cl){a b:Int}:∀ {T:List (List Int)},(∀ t∈T,(ee L t).contains a=true→(ee L t).contains b=true)→tlB L 0 T a &&& tlB L 0 T b=tlB L 0 T a
 | [],_=>by simp[tlB]
 | t::T,h=>by
  rw[vC,vC];refine El (by split <;> omega) (by split <;> omega) ?_ (yN L fun u hu=>h u (by simp[hu]));have:=h t (by simp);split
  ·rename_i h1;rw[zf6 (this h1)];exact lR _
  ·exact zf2 _
theorem sf {L:List Cl}(h:Rt L){T:List (List Int)}(hT:T.length≤4)(hf:L.length≤60)(hd:∀ c∈L,c.dim≤4)(hs:∀ c∈L,c.sides.length≤60):Cov L (tlB L 0 T) T.length :=
 ⟨h,hT,fun c _=>mN L c.id T,fun c hc x hx=>yN L fun t _ hc1=>n8 h t c hc hc1 x hx,hf,hd,hs⟩
theorem pP {L:List Cl}(h:Rt L){T:List (List Int)}(hT:T.length≤4)(hf:L.length≤60)(hd:∀ c∈L,c.dim≤4)(hs:∀ c∈L,c.sides.length≤60):Rt (cj L T):=by
 unfold cj;rw[tD];exact (sf h hT hf hd hs).right
section
variable {L:List Cl}{f:Int→Nat}{n:Nat}(h:Cov L f n)
include h
theorem Cov.deg {c:Cl}(hc:c∈L){s:Nat}(hs:s∈bD (f c.id)):gJ n (bId n (ixB L c.id) s)=(onesB s:Int) - 1:=by
 have:=(h.s16 hc hs).1;unfold gJ bId;rw[Int.toNat_natCast,Nat.mul_comm,Nat.mul_add_mod,Nat.mod_eq_of_lt this]
omit h in
theorem DX (s n:Nat)(hn:n≤4)(hs:s<2 ^ n)(h0:0<s):0<onesB s∧onesB s≤n:=by
 have key:∀ n,n≤4→∀ s,s<2 ^ n→0<s→0<onesB s∧onesB s≤n:=by decide +kernel
 exact key n hn s hs h0
theorem Cov.degs:∀ c∈aa (a6 L f n),0≤gJ n c.id∧gJ n c.id≤(n:Int) - 1:=fun z hz=>by
 obtain ⟨c,hc,s,hs,rfl⟩:=h.mem.1 hz;have h1:=DX s n h.n4 (h.s16 hc hs).1 (cM.1 hs).1;have h2:=h.deg hc hs;show 0≤gJ n (bId n (ixB L c.id) s)∧gJ n (bId n (ixB L c.id) s)≤(n:Int) - 1;omega
end
theorem Aq (E:World)(g:PH)(s:Own)(v:Value)(l:List Int)(x:Int)(hv:bP g v l)(hl:l.length<1099511627776) :
  Ctr Tryz.prog E 128 #[v,vi x] g s (fun r g' s'=>(∃ n:Int,r=vi n∧decide (n≥0)=l.contains x)∧g=g'∧s=s'):=by
 obtain ⟨p,c,rfl⟩:=za2 hv;refine za9 (args:=[.slice p l.length c,vi x]) func128 I ntmps128 (bE I) ?_;refine rZ (aT I (sQ (sW I (lU (eN aj I) (lM I (tZ (bK ?_)))))));refine oP (ι:=Nat) (fun k=>[(0,.slice p l.length c),(1,vi x),(7,vi l.length),(8,vi k)]) (fun _=>g) (fun _=>s) (fun k=>k≤l.length∧x ∉ l.take k) (fun k=>l.length - k) 0 sB I I ⟨zf2 _,by simp⟩ ?_;rintro k ⟨hk,hno⟩;refine rZ (yL I (tZ (sQ ?_)));refine iP I (fun hlt=>?_) (fun hlt=>?_)
 ·have hkl:k<l.length:=oM;have hb1:=za4 hv oM;have hgx:l[((k:Nat):Int).toNat]?=some l[k]:=gE hkl;refine kP (tN (sQ (bK (sW I (aT I (sW I (lM I (lM I (lU (iA aj zT3 I I hb1 oM sL) (lK (eB iT3 I (za5 hv) hgx I) (yE I (tZ ?_))))))))))));refine iP I (fun he=>?_) (fun he=>?_)
  ·refine sW I (aT I (rE (bR (tR (tR (bR (tR ?_)))))));have hm:l.contains x=true:=by rw[List.contains_iff_mem,he]; exact gM hkl
   exact za6 (.inl I) results128 I ⟨⟨k,I,by rw[hm]; simp⟩,I,I⟩
  ·refine kP (bN (tN (rG (yD I (lM I (nL ?_))))));exact gA (k+1) sB I I ⟨oM,by rw[tS hkl,ze8]; rintro (h | h); exact hno h; simp at h; exact he h⟩ oM
 ·have hkk:l.take k=l:=tL oM;rw[hkk] at hno;refine xI (tX (tX (bX (tN (rZ (aT I (rE ?_)))))));have hm:l.contains x=false:=by rw[← zj2,List.contains_iff_mem]; exact hno
  exact za6 (.inl I) results128 I ⟨⟨-1,I,by rw[hm]; rfl⟩,rfl,rfl⟩
theorem AF (E:World)(g:PH)(s:Own)(v:Value)(l:List Int)(x:Int)(hv:bP g v l)(hl:l.length<1099511627776) :
  Ctr Tryz.prog E 78 #[v,vi x] g s (fun r g' s'=>r=vb (l.contains x)∧g=g'∧s=s'):=by
 refine za9 (args:=[v,vi x]) func78 I ntmps78 (bE I) ?_;refine rZ (aT I (sW I (lM I (lW (cL call128 I (Aq E g _ v l x hv hl)) ?_))));rintro _ _ _ ⟨⟨n,rfl,hn⟩,rfl,rfl⟩;refine lU (gQ I I) (aT I (rE ?_));exact za6 (.inl I) results78 I ⟨by rw[hn],I,I⟩
def atP (L:List Cl):List (Int×Value):=L.zipIdx.map fun q=>(q.1.id,vi q.2)
theorem Cx (L:List Cl)(c:Cl):atP (L++[c])=atP L++[(c.id,vi L.length)]:=by
 unfold atP;rw[List.zipIdx_append,zg1];simp
theorem zA {L:List Cl}{c:Cl}(h:∀ d∈L,d.id≠c.id):iE (atP L) c.id (vi L.length)=atP (L++[c]):=by
 rw[Cx];refine iK _ _ _ fun p hp=>?_;obtain ⟨q,hq,rfl⟩:=ze7.1 hp;exact h q.1 (zf7 (List.mem_zipIdx_iff_getElem?.1 hq))
theorem lm (id:Int):∀ (L:List Cl) (k:Nat),eU (L.zipIdx k |>.map fun q=>(q.1.id,vi q.2)) id=none∧aM L id=none∨∃ c i,aM L id=some c∧L[i]?=some c∧eU (L.zipIdx k |>.map fun q=>(q.1.id,vi q.2)) id=some (vi (k+i:Nat))
 | [],_=>.inl ⟨rfl,rfl⟩
 | d::L,k=>by
  rw[List.zipIdx_cons,zf9,bC];unfold aM;rw[zi2];by_cases e:id=d.id
  ·refine .inr ⟨d,0,?_,I,?_⟩
   ·rw[zf4 (show d.id=id from e.symm)]
   ·rw[zf6 e];rfl
  ·rw[zf5 e,zf3 (fun h:d.id=id=>e h.symm)]
   rcases lm id L (k+1) with ⟨h1,h2⟩ | ⟨c,i,h1,h2,h3⟩
   ·exact .inl ⟨h1,h2⟩
   ·exact .inr ⟨c,i+1,h1,h2,by rw[h3]; congr 2; omega⟩
theorem tF {L:List Cl}(hL:Rt L)(id:Int):(eU (atP L) id=none∧aM L id=none)∨∃ c,aM L id=some c∧L[ixB L c.id]?=some c∧c.id=id∧eU (atP L) id=some (vi (ixB L c.id:Nat)):=by
 rcases lm id L 0 with h | ⟨c,i,h1,h2,h3⟩
 ·exact .inl h
 ·refine .inr ⟨c,h1,?_,(c4 h1).2,?_⟩
  ·rw[hL.ix h2]; exact h2
  ·rw[hL.ix h2,← Nat.zero_add i]; exact h3
def ym (g:PH)(v:Value)(L:List Cl)(T:List (List Int)):Prop :=
 ∃ b m cv iv,v=pp b 0∧g b=some (.cells #[cv,.map (some m),iv,vi T.length] 81 (0,0))∧aq g cv L∧Mp g m (atP L)∧bP g iv (L.map fun c=>((tlB L 0 T c.id:Nat):Int))
theorem ym.mono {g g':PH}{v:Value}{L:List Cl}{T:List (List Int)}(h:ym g v L T)(hl:Le g g'):ym g' v L T:=by
 obtain ⟨b,m,cv,iv,h1,h2,h3,h4,h5⟩:=h;exact⟨b,m,cv,iv,h1,hl _ _ h2,h3.mono hl,h4.mono hl,za3 h5 hl⟩
theorem xG {L:List Cl}(hL:Rt L)(F:Cl→Int){c:Cl}(hc:L[ixB L c.id]?=some c)(y:Int):(L.map F).set (ixB L c.id) y=L.map fun d=>if d.id=c.id then y else F d:=by
 refine List.ext_getElem? fun i=>?_;rw[List.getElem?_set,zh5,zh5,ze2];cases hi:L[i]? with
 | none =>
  have h1:L.length≤i:=List.getElem?_eq_none_iff.1 hi;split
  ·rw[zf5 oM]; rfl
  ·rfl
 | some d =>
  have h1:=hL.ix hi;by_cases e:d.id=c.id
  ·have e2:ixB L c.id=i:=by rw[← e]; exact h1
   have h2:=(zf1.1 hi).1;rw[zf6 e2,zf6 oM];show some y=some (if d.id=c.id then y else F d);rw[zf6 e]
  ·have e2:ixB L c.id≠i:=fun h=>by
    rw[h,hi] at hc;injection hc with hc
    exact e (by rw[hc])
   rw[zf5 e2];show some (F d)=some (if d.id=c.id then y else F d);rw[zf5 e]
theorem EP:∀ k:Nat,k<6→∀ x:Nat,x<64→x<2 ^ k→IntKind.i64.wrap (BitVec.ofInt IntKind.i64.bits (x:Int) ||| BitVec.ofInt IntKind.i64.bits ((2 ^ k:Nat):Int)).toNat=((x+2 ^ k:Nat):Int):=by decide +kernel
theorem yT:∀ n:Nat,n<10→IntKind.i64.wrap (1 * 2 ^ min ((n:Nat):Int).toNat IntKind.i64.bits)=((2 ^ n:Nat):Int):=by decide
theorem Tryz.build81 (q:Option Addr)(n k m:Nat)(t:Int)(w:World):(Instr.build 81 #[(0,.slice q n k),(1,.map (some m)),(3,vi t)]).run Tryz.prog w = .ok (.agg #[.slice q n k,.map (some m),.slice none 0 0,vi t]) w:=by
 have h1:∀ n,(vi n).cells = #[vi n]:=fun _=>rfl;have h2:(Value.slice q n k).cells = #[.slice q n k]:=rfl;have h3:(Value.map (some m)).cells = #[.map (some m)]:=rfl;simp[Instr.build,Instr.fill,h1,h2,h3];rfl
def wM (L:List Cl)(T:List (List Int))(ids:List Int)(c:Cl):Nat:=tlB L 0 T c.id+if ids.contains c.id then 2 ^ T.length else 0
theorem jP {l:List Cl}{T:List (List Int)}(h:ep l T=0):(aW l).2=0∧T.length≤6:=by
 unfold ep at h;split at h
 ·rename_i h1; exact absurd h h1
 ·rename_i h1;split at h
  ·cases h
  ·rename_i h2; exact⟨zg5 h1,oM⟩
theorem AE {L:List Cl}{T:List (List Int)}:(L.map fun c=>((tlB L 0 T c.id:Nat):Int)).contains 0=L.any fun c=>decide (tlB L 0 T c.id=0):=by
 rw[Bool.eq_iff_iff,List.contains_iff_mem,zj3,ze7];constructor
 ·rintro ⟨c,hc,h⟩; exact⟨c,hc,by simpa using Int.ofNat_eq_zero.1 h⟩
 ·rintro ⟨c,hc,h⟩; exact⟨c,hc,by simp at h; rw[h]; rfl⟩
theorem m6 (E:World)(hE:E.drawn=0)(g:PH)(s:Own)(v tv:Value)(l:List Cl)(T:List (List Int))(hv:aq g v l)(hf:dd l)(hw:∀ c∈l,iU c.id)(ht:aG g tv T)(hT:T.length<1099511627776)(hTl:∀ t∈T,t.length<1099511627776) :
  Ctr Tryz.prog E 35 #[.agg #[v],tv] g s (fun x g' s'=>s=s'∧Le g g'∧∃ pv,x = .tuple #[pv,vi (ep l T)]∧(ep l T=0→ym g' pv (ae l) T)):=by
 obtain ⟨rs,hrs,hall⟩:=ht;have hlen:=hall.length;obtain ⟨q,c,rfl⟩:=za2 hrs;obtain ⟨vp,vc,rfl⟩:=hv.form;refine za9 (args:=[.agg #[.slice vp l.length vc],.slice q rs.length c]) func35 I ntmps35 (bE I) ?_;refine rZ (bW (bO I) fun b2=>?_);refine lA I (aT I (sQ (rZ (lK (qV 0 be ax I I I) (lW (cL call37 I (jr E g _ _ l hv hf)) ?_)))));rintro _ _ _ ⟨rfl,rfl,rfl⟩;refine lM I (yX I (yX I (lA I (aT I (sW I (lU (nQ I I) (tZ ?_)))))));refine iP I (fun hbad=>?_) (fun hbad=>?_)
 ·refine sW I (lA I (aT I (rE (tR ?_))));have he:ep l T=(aW l).2:=by unfold ep; rw[zf6 hbad]
  refine dR (s':=s) uR ?_;exact ST.ret2 (.inl I) results35 I I ⟨I,zb7 g,_,by rw[he]; rfl,fun h=>absurd (he ▸ h) hbad⟩
 ·have hok:(aW l).2=0:=zg5 hbad;have hRt:=lC hok;have hLt:ae l=aa l:=by
   have h1:=hRt.tab;unfold ae at h1 ⊢;rw[hRt.canon] at h1;exact h1
  refine kP (tN (sQ (sW I (lU (eN bA I) (lU (gR I I) (tZ ?_))))));refine iP I (fun hmany=>?_) (fun hmany=>?_)
  ·refine rZ (lA I (aT I (rE (tR ?_))));have he:ep l T=2:=by unfold ep; rw[zf5 hbad,zf6 oM]
   refine dR (s':=s) uR ?_;exact ST.ret2 (.inl I) results35 I I ⟨I,zb7 g,_,by rw[he],fun h=>by rw[he] at h; cases h⟩
  ·have hT6:T.length≤6:=oM;refine kP (tN (rZ (lK (qV 0 be ax I I I) (lW (cL call15 I (jt E g _ _ l hv hf)) ?_))));rintro _ g1 _ ⟨rfl,hle1,u,rfl,hu⟩;obtain ⟨up,uc,rfl⟩:=hu.form;refine lU (SU.field eK I fQ I I) (lW (SO.mkMap) ?_);rintro _ _ _ ⟨b33,rfl,rfl,rfl⟩;refine lM I (lU (eN bA I) (lU (za1 I (build81 _ _ _ _ _)) (bW (bO I) fun b37=>?_)));refine aT I (sQ (sW I (lU (nC I) (lU (fA og I dJ I) (lK (qL fQ I (cO 0 I I)) (lU (eN aU I) (lM I (tZ (bK ?_)))))))));have hid:∀ k (hk:k<(aa l).length),∀ d∈(aa l).take k,d.id≠(aa l)[k].id:=fun k hk d hd e=>by
    obtain ⟨i,hi,rfl⟩:=List.mem_iff_getElem.1 hd;rw[zd9] at hi;rw[List.getElem_take] at e;have:=zc6.1 hRt.asc i k oM hk oM;omega
   have hLl:(aa l).length<1099511627776:=by have:=hRt.few; omega
   have hinz:∀ id,tlB (aa l) 0 [] id=0:=fun id=>rfl;generalize hLd:aa l=L at *;obtain ⟨us,hus,hallu⟩:=hu;have hul:=hallu.length;refine oP (ι:=Nat) (fun k=>[(1,.slice q rs.length c),(2,pp b2 0),(8,pp b37 0),(41,.slice up L.length uc),(42,vi L.length),(43,vi k)]) (fun _=>g1) (fun k=>pt b37 (.cells #[.slice up L.length uc,.map (some b33),.slice none 0 0,vi rs.length] 81 (0,0))::mp b33 (atP (L.take k))::pt b2 (.cells #[.slice vp l.length vc] 30 (0,0))::s) (fun k=>k≤L.length) (fun k=>L.length - k) 0 sB I I (zf2 _) ?_;rintro k hk;refine rZ (yL I (tZ (sQ ?_)));refine iP I (fun hlt=>?_) (fun hlt=>?_)
   ·have hkl:k<L.length:=oM;have hku:k<us.length:=oM;have hR:=hallu.get (gE hkl) (gE hku);have hb1:=za4 hus oM;have hgr:us[((k:Nat):Int).toNat]?=some us[k]:=gE hku;have hput:=zA (hid k hkl);rw[zd9,Nat.min_eq_left oM,← tS hkl,← hR.1] at hput;generalize us[k]=r at *;refine kP (tN (sQ (bK (sW I (lU (iA aU aJ I I hb1 oM sL) (lK (eA gt aJ I (za5 hus) hgr) (bW (aL zk9) fun b10=>?_)))))));refine lA I (oZ (sK 0 aJ I I I I I sB) (tZ ?_));refine dW [7] [(0,2),(1,2),(2,2),(3,1),(4,2),(5,1),(6,2),(7,0)] zd8 kR ?_;refine yM I (pU I (nC I) (pU I (fA og I sizeOf79 I) (pK I (qL (v:=.map (some b33)) isAgg79 I (cO 1 I I)) (pU I (fA ar I zT3 I) (pK I (qL (v:=vi r.id) iT3 I (cO 0 I I)) (yM I (SP.on I (SO.mapUpdate 2 mty79 I I I I) (.inl dC) ?_)))))));rintro _ _ _ ⟨rfl,rfl⟩;rw[hput];refine pN (bN (tN (rG (yD I (lM I (nL (dR (.cons _ (.refl _)) ?_)))))));exact gA (k+1) sB I I oM oM
   ·have hkk:k=L.length:=oM;subst hkk;rw[List.take_length];refine xI (tX (tX (bX (tN (sW I (lM I (lU (nC I) (lU (fA og I dJ I) (lK (qL (v:=.slice up L.length uc) fQ I (cO 0 I I)) (lU (eN aU I) (lW (mK encInt 0 sty25 I I I oM oM) ?_)))))))))));rintro _ _ _ ⟨bi,rfl,rfl,rfl⟩;refine lU (nC I) (lU (fA og I bZ I) (oZ (SO.store1 1 bZ I I I I (by show 2<4; decide) I) ?_));refine tZ (sQ (sQ ?_));refine SC.to (g':=g1) (s':=rowA encInt 3 (.slice (some ⟨bi,0,none⟩) L.length L.length) (L.map fun c=>((tlB L 0 (T.take 0) c.id:Nat):Int))::pt b37 (.cells #[.slice up L.length uc,.map (some b33),.slice (some ⟨bi,0,none⟩) L.length L.length,vi rs.length] 81 (0,0))::mp b33 (atP L)::pt b2 (.cells #[.slice vp l.length vc] 30 (0,0))::s) (fun w hw=>by rw[show (L.map fun c=>((tlB L 0 (T.take 0) c.id:Nat):Int))=List.replicate L.length 0 from (by rw[List.take_zero]; show (L.map fun _=>(0:Int))=_; exact List.map_const')]; exact hw) ?_;refine rG (lM I (lU (eN bA I) (lM I (tZ (bK ?_)))));refine oP (ι:=PH×Nat) (fun z=>[(1,.slice q rs.length c),(2,pp b2 0),(8,pp b37 0),(65,.slice q rs.length c),(66,vi rs.length),(67,vi z.2)]) (fun z=>z.1) (fun z=>rowA encInt 3 (.slice (some ⟨bi,0,none⟩) L.length L.length) (L.map fun c=>((tlB L 0 (T.take z.2) c.id:Nat):Int))::pt b37 (.cells #[.slice up L.length uc,.map (some b33),.slice (some ⟨bi,0,none⟩) L.length L.length,vi rs.length] 81 (0,0))::mp b33 (atP L)::pt b2 (.cells #[.slice vp l.length vc] 30 (0,0))::s) (fun z=>Le g1 z.1∧z.2≤rs.length∧((T.take z.2).any fun t=>t.any fun id=>(aM L id).isNone)=false) (fun z=>rs.length - z.2) (g1,0) sB I I ⟨zb7 _,zf2 _,by simp⟩ ?_;rintro ⟨g2,k⟩ ⟨hle2,hk,hno⟩;dsimp only at hle2 hk hno ⊢;refine rZ (yL I (tZ (sQ ?_)));refine iP I (fun hlt2=>?_) (fun hlt2=>?_)
    ·have hkr:k<rs.length:=oM;have hkT:k<T.length:=oM;have hb1:=za4 hrs oM;have hTk:=hTl _ (gM hkT);have hRk:=(hall.get (gE hkT) (gE hkr)).mono (hle1.trans hle2);have hRl:=hRk.len;have hgr:rs[((k:Nat):Int).toNat]?=some rs[k]:=gE hkr;have htk:T.take (k+1)=T.take k++[T[k]]:=tS hkT;generalize rs[k]=r at *;obtain ⟨rp,rn,rc⟩:=r;dsimp only at hRl;generalize T[k]=t at *;subst hRl;have hxs:bP g2 (.slice rp t.length rc) t:=hRk;refine kP (tN (sQ (bK (sW I (lU (iA bA bZ I I hb1 oM sL) (lK (eB (u:=.slice rp t.length rc) dh I (za5 (za3 hrs (hle1.trans hle2))) hgr I) (lA I (aT I (sQ (sW I (lU (eN aj I) (lM I (tZ (bK ?_))))))))))))));refine oP (ι:=Nat) (fun j=>[(1,.slice q rs.length c),(2,pp b2 0),(8,pp b37 0),(11,vi k),(12,.slice rp t.length rc),(65,.slice q rs.length c),(66,vi rs.length),(67,vi k),(72,.slice rp t.length rc),(73,vi t.length),(74,vi j)]) (fun _=>g2) (fun _=>rowA encInt 3 (.slice (some ⟨bi,0,none⟩) L.length L.length) (L.map fun c=>((tlB L 0 (T.take k) c.id:Nat):Int))::pt b37 (.cells #[.slice up L.length uc,.map (some b33),.slice (some ⟨bi,0,none⟩) L.length L.length,vi rs.length] 81 (0,0))::mp b33 (atP L)::pt b2 (.cells #[.slice vp l.length vc] 30 (0,0))::s) (fun j=>j≤t.length∧((t.take j).any fun id=>(aM L id).isNone)=false) (fun j=>t.length - j) 0 sB I I ⟨zf2 _,by simp⟩ ?_;rintro j ⟨hj,hjno⟩;refine rZ (yL I (tZ (sQ ?_)));refine iP I (fun hlt3=>?_) (fun hlt3=>?_)
     ·have hjt:j<t.length:=oM;have hb2:=za4 hxs oM;have hgj:t[((j:Nat):Int).toNat]?=some t[j]:=gE hjt;have hst:t.take (j+1)=t.take j++[t[j]]:=tS hjt;have hjm:t[j]∈t:=gM hjt;generalize t[j]=id at *
      rcases tF hRt id with ⟨h1,h2⟩ | ⟨cx,h1,h2,h3,h4⟩
      ·refine kP (tN (sQ (bK (rZ (lU (iA aj zT3 I I hb2 oM sL) (lK (eB iT3 I (za5 hxs) hgj I) (aT I (sW I (lU (nC I) (lU (fA og I sizeOf79 I) (lK (qL (v:=.map (some b33)) isAgg79 I (cO 1 I I)) (lM I (lK (SQ.eq (v':=.tuple #[vi 0,vb false]) (SQ.lookupOk mty79 I I (cB.own 2 I)) (by rw[h1]; rfl)) ?_)))))))))))));refine lM I (yX I (yX I (lA I (aT I (sW I (lU (SU.not I) (tZ (cT I (rZ (lA I (aT I (rE (bR (tR (tR (bR (tR (bR (tR (tR (bR ?_)))))))))))))))))))));refine tR ?_;have he:ep l T=30:=by
        unfold ep;rw[zf5 hbad,zf5 oM,zf6];rw[hLt];refine zj3.2 ⟨t,List.mem_of_mem_take (i:=k+1) (by rw[htk]; simp),zj3.2 ⟨id,hjm,by rw[h2]; rfl⟩⟩
       refine dR (s':=s) uR ?_;exact ST.ret2 (.inl I) results35 I I ⟨I,hle1.trans hle2,_,by rw[he],fun h=>by rw[he] at h; cases h⟩
      ·refine kP (tN (sQ (bK (rZ (lU (iA aj zT3 I I hb2 oM sL) (lK (eB iT3 I (za5 hxs) hgj I) (aT I (sW I (lU (nC I) (lU (fA og I sizeOf79 I) (lK (qL (v:=.map (some b33)) isAgg79 I (cO 1 I I)) (lM I (lK (SQ.eq (v':=.tuple #[vi (ixB L cx.id:Nat),vb true]) (SQ.lookupOk mty79 I I (cB.own 2 I)) (by rw[h4]; rfl)) ?_)))))))))))));refine lM I (yX I (yX I (lA I (aT I (sW I (lU (SU.not I) (tZ (cF I (kP (bN (tN (rG (yD I (lM I (nL ?_)))))))))))))));exact gA (j+1) sB I I ⟨oM,by rw[hst,List.any_append,hjno]; simp[h1]⟩ oM
     ·have hjj:j=t.length:=oM;subst hjj;rw[List.take_length] at hjno;refine xI (tX (tX (bX (tN (rZ (lK (qV 3 be ax I I I) (lM I (lW (cL call77 I (xS E hE g2 _ _ _ l t (hv.mono (hle1.trans hle2)) hf hxs hTk hw)) ?_))))))));rintro v92 g3 _ ⟨rfl,hle3,hcl⟩;obtain ⟨cp,cc,rfl⟩:=za2 hcl;refine lU (eN aj I) (lM I (tZ (bK ?_)));have hcll:=rj l t;rw[hLt] at hcll;have hcn:(eR l t).Nodup:=by
       rw[hcll];have h1:(L.map Cl.id).Nodup:=by
        rw[List.Nodup,zj7];exact hRt.asc.imp fun h=>by omega
       exact (List.filter_sublist.map _).nodup h1
      have hcm:∀ id∈eR l t,∃ cx,cx∈L∧cx.id=id:=fun id h=>by
       rw[hcll] at h;obtain ⟨cx,h1,rfl⟩:=ze7.1 h;exact⟨cx,(zg9.1 h1).1,I⟩
      have hcb:∀ cx∈L,(eR l t).contains cx.id=(ee L t).contains cx.id:=fun cx h=>by
       rw[Bool.eq_iff_iff,hcll,List.contains_iff_mem,ze7];constructor
       ·rintro ⟨d,h1,h2⟩;rw[← h2];exact (zg9.1 h1).2
       ·intro h1;exact⟨cx,zg9.2 ⟨h,h1⟩,I⟩
      have hcle:(eR l t).length≤L.length:=by
       rw[hcll,ze2];exact zc2 _ _
      generalize eR l t=cl at *;refine oP (ι:=Nat) (fun j=>[(1,.slice q rs.length c),(2,pp b2 0),(8,pp b37 0),(11,vi k),(65,.slice q rs.length c),(66,vi rs.length),(67,vi k),(92,.slice cp cl.length cc),(93,vi cl.length),(94,vi j)]) (fun _=>g3) (fun j=>rowA encInt 3 (.slice (some ⟨bi,0,none⟩) L.length L.length) (L.map fun c=>((wM L (T.take k) (cl.take j) c:Nat):Int))::pt b37 (.cells #[.slice up L.length uc,.map (some b33),.slice (some ⟨bi,0,none⟩) L.length L.length,vi rs.length] 81 (0,0))::mp b33 (atP L)::pt b2 (.cells #[.slice vp l.length vc] 30 (0,0))::s) (fun j=>j≤cl.length) (fun j=>cl.length - j) 0 sB I (by rw[List.take_zero]; rfl) (zf2 _) ?_;rintro j hj;refine rZ (yL I (tZ (sQ ?_)));refine iP I (fun hlt4=>?_) (fun hlt4=>?_)
      ·have hjc:j<cl.length:=oM;have hb3:=za4 hcl oM;have hgj:cl[((j:Nat):Int).toNat]?=some cl[j]:=gE hjc;have hst:cl.take (j+1)=cl.take j++[cl[j]]:=tS hjc;have hnew:cl[j] ∉ cl.take j:=fun h=>by
        obtain ⟨i,hi,e⟩:=List.mem_iff_getElem.1 h;rw[zd9] at hi;rw[List.getElem_take] at e;exact absurd e (zc6.1 hcn i j oM hjc oM)
       obtain ⟨cx,hcx,hcid⟩:=hcm _ (gM hjc);generalize cl[j]=id at *;subst hcid;have hix:=hRt.ix_get hcx
       rcases tF hRt cx.id with ⟨h1,h2⟩ | ⟨cy,h1,h2,h3,h4⟩
       ·rw[hRt.find hcx] at h2; cases h2
       rw[hRt.find hcx] at h1;cases h1;have hixl:=(zf1.1 hix).1;have hmid:wM L (T.take k) (cl.take j) cx=tlB L 0 (T.take k) cx.id:=by
        unfold wM;rw[zf5 (by rw[List.contains_iff_mem]; exact hnew),Nat.add_zero]
       have hge:(L.map fun c=>((wM L (T.take k) (cl.take j) c:Nat):Int))[ixB L cx.id]?=some ((tlB L 0 (T.take k) cx.id:Nat):Int):=by
        rw[zh5,hix,← hmid];rfl
       have htl:(T.take k).length=k:=by rw[zd9]; omega
       have hlt5:=mN L cx.id (T.take k);rw[htl] at hlt5;have h64:tlB L 0 (T.take k) cx.id<64:=Nat.lt_of_lt_of_le hlt5 (Nat.pow_le_pow_right dC (show k≤6 by omega));have hset:=xG hRt (fun c=>((wM L (T.take k) (cl.take j) c:Nat):Int)) hix ((tlB L 0 (T.take k) cx.id+2 ^ k:Nat):Int);have hset2:(L.map fun d=>if d.id=cx.id then ((tlB L 0 (T.take k) cx.id+2 ^ k:Nat):Int) else ((wM L (T.take k) (cl.take j) d:Nat):Int))=L.map fun c=>((wM L (T.take k) (cl.take (j+1)) c:Nat):Int):=zc5 fun d _=>by
        unfold wM;rw[hst,htl];by_cases e:d.id=cx.id
        ·rw[zf6 e,e,zf6 (by simp)]
        ·rw[zf5 e];congr 2;have:(cl.take j++[cx.id]).contains d.id=(cl.take j).contains d.id:=by
          rw[Bool.eq_iff_iff,List.contains_iff_mem,List.contains_iff_mem,ze8];simp[e]
         rw[this]
       rw[hset2] at hset;refine kP (tN (sQ (bK (rZ (lU (iA aj zT3 I I hb3 oM sL) (lK (eB iT3 I (za5 hcl) hgj I) (aT I ?_)))))));refine dW [16] [(0,2),(1,2),(2,2),(3,1),(4,2),(5,2),(6,2),(7,1),(8,2),(9,1),(10,2),(11,1),(12,2),(13,2),(14,2),(15,2),(16,0)] zd8 kR ?_;refine yM I (pU I (nC I) (pU I (fA og I bZ I) (pK I (qL (v:=.slice (some ⟨bi,0,none⟩) L.length L.length) dh I (cO 1 I I)) (yM I (pU I (nC I) (pU I (fA og I sizeOf79 I) (pK I (qL (v:=.map (some b33)) isAgg79 I (cO 1 I I)) (yM I (pK I (SQ.eq (v':=vi (ixB L cx.id:Nat)) (SQ.lookup mty79 I I (cB.own 2 I)) (by rw[h4]; rfl)) ?_)))))))));refine pU I (SU.eq (v':=.pointer (some ⟨bi,0+ixB L cx.id * 1,none⟩)) (iA aj zT3 I I I oM sL) I) (pK I (eB (j:=ixB L cx.id) iT3 I (zb5 0 I) hge I) (yM I (pU I (SU.eq (v':=vi (2 ^ k:Nat)) (SU.shl I I oM) (zd7 vi (yT k oM))) (pU I (SU.eq (v':=vi (tlB L 0 (T.take k) cx.id+2 ^ k:Nat)) (SU.or I I) (zd7 vi (EP k oM _ h64 hlt5))) (pU I (SU.eq (v':=.pointer (some ⟨bi,0+ixB L cx.id * 1,none⟩)) (iA aj zT3 I I I oM sL) I) (SP.on I (sT (e:=encInt) (a:=((tlB L 0 (T.take k) cx.id+2 ^ k:Nat):Int)) (j:=ixB L cx.id) 0 zT3 I I I (by rw[ze2]; exact hixl) I) (.inl dC) ?_))))));rintro _ _ _ ⟨rfl,rfl⟩;rw[hset];refine pN (bN (tN (rG (yD I (lM I (nL ?_))))));exact gA (j+1) sB I I oM oM
      ·have hjj:j=cl.length:=oM;subst hjj;refine xI (tX (tX (bX (bN (tN (rG (yD I (lM I (nL ?_)))))))));refine ST.to (g':=g3) (s':=rowA encInt 3 (.slice (some ⟨bi,0,none⟩) L.length L.length) (L.map fun c=>((tlB L 0 (T.take (k+1)) c.id:Nat):Int))::pt b37 (.cells #[.slice up L.length uc,.map (some b33),.slice (some ⟨bi,0,none⟩) L.length L.length,vi rs.length] 81 (0,0))::mp b33 (atP L)::pt b2 (.cells #[.slice vp l.length vc] 30 (0,0))::s) (fun w hw=>by
        have e:(L.map fun c=>((tlB L 0 (T.take (k+1)) c.id:Nat):Int))=L.map fun c=>((wM L (T.take k) (cl.take cl.length) c:Nat):Int):=zc5 fun d hd=>by
         unfold wM;rw[htk,yO,List.take_length,hcb d hd,Nat.zero_add]
        rw[e];exact hw) ?_
       exact gA (g3,k+1) sB I I ⟨hle2.trans hle3,by dsimp only; omega,by dsimp only; rw[htk,List.any_append,hno]; simp only[List.any_cons,List.any_nil,Bool.or_false,Bool.false_or]; exact hjno⟩ (by dsimp only; omega)
    ·have hkk:k=rs.length:=oM;subst hkk;rw[← hlen,List.take_length] at hno ⊢;refine fS fun g5 hle5 hr5=>?_;refine SC.freeze fun g6 hle6 hb6=>?_;refine SC.freezeMap fun g7 hle7 hm7=>?_;have hle17:Le g1 g7:=hle2.trans (hle5.trans (hle6.trans hle7));have hr7:bP g7 (.slice (some ⟨bi,0,none⟩) L.length L.length) (L.map fun c=>((tlB L 0 T c.id:Nat):Int)):=by
      have h1:bP g5 (.slice (some ⟨bi,0,none⟩) L.length L.length) (L.map fun c=>((tlB L 0 T c.id:Nat):Int)):=hr5;exact za3 h1 (hle6.trans hle7)
     have hany:=AE (L:=L) (T:=T);refine xI (tX (tX (bX (tN (sQ (sW I (lU (nC I) (lU (fA og I bZ I) (lK (qL (v:=.slice (some ⟨bi,0,none⟩) L.length L.length) dh I (cK (hle7 _ _ hb6) I)) (lW (cL call78 I (AF E g7 _ _ _ 0 hr7 (by rw[ze2]; omega))) ?_))))))))));rintro _ _ _ ⟨rfl,rfl,rfl⟩;rw[hany];refine tZ ?_;have he:ep l T=if L.any (fun c=>decide (tlB L 0 T c.id=0)) then 45 else 0:=by
      unfold ep;rw[zf5 hbad,zf5 oM,hLt,hno,zf5 (by simp)]
     refine iQ I (fun hc=>?_) (fun hc=>?_)
     ·refine rZ (lA I (aT I (rE (tR ?_))));rw[hc,zf6 rfl] at he;refine dR (s':=s) uR ?_;exact ST.ret2 (.inl I) results35 I I ⟨I,hle1.trans hle17,_,by rw[he],fun h=>by rw[he] at h; cases h⟩
     ·refine kP (tN (sW I (lA I (aT I (rE ?_)))));rw[hc,zf5 (by simp)] at he;refine dR (s':=s) uR ?_;exact ST.ret2 (.inl I) results35 I I ⟨I,hle1.trans hle17,_,by rw[he],fun _=>by rw[hLt]; exact⟨b37,b33,_,_,I,hle7 _ _ hb6,aq.mono ⟨us,hus,hallu⟩ hle17,hm7,hr7⟩⟩
end Go.Proofs.YtkbagdedfdfjhaaGreatDoor
