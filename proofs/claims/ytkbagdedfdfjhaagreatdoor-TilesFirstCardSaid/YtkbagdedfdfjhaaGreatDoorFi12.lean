/- 12 -/
import Derived.Test.YtkbagdedfdfjhaaGreatDoorFi11
import Derived.Test.YtkbagdedfdfjhaaGreatDoorFi05
import Derived.Test.YtkbagdedfdfjhaaGreatDoorFi09
set_option linter.unusedSimpArgs false
set_option linter.unusedVariables false
namespace Go.Proofs.YtkbagdedfdfjhaaGreatDoor
open _root_.Go.Proofs.Tryz _root_.Go.Proofs.YtkbagdedfdfjhaaGreatDoor.Tryz
open Go Go.Sy Go.Pl Go.Proofs
set_option maxRecDepth 100000
theorem G9 (E:World)(g:PH)(s:Own)(b:Nat)(p n:Int)(hb:eJ g s ⟨b,0,none⟩ (vi p))(h0:0≤n)(hn:n<p) :
  cI Tryz.prog E (.func (.func 154) #[] #[pp b 0]) [vi n] g s (fun x g' s'=>x=vb false∧g=g'∧s=s'):=by
 refine cI.mk (cap:=[pp b 0]) call154 ?_;refine za9 (args:=[vi n,pp b 0]) func154 I ntmps154 (bE I) ?_;refine rZ (aT I (sW I (lU (SU.eq (v':=vb false) (lS I I) (zd8 vb (zf4 oM))) (lM I (yC I (lY I I I (fA gI I zT3 I) (SL.gq (gT I I I dC) (qL (v:=vi p) iT3 I hb) dC (lY I I I (SU.eq (v':=vb false) (gQ I I) (zd8 vb (zf4 oM))) (yF I (aT I (rE ?_)))))))))));exact za6 (.inl I) results154 I ⟨I,I,I⟩
theorem zR (E:World)(g:PH)(s:Own)(v:Value)(kn:FuncId)(kc:Array Value)(l:List Int)(hv:bT g v l)(hl:l.length<1099511627776)(hp:∀ a∈l,cI Tryz.prog E (.func (.func kn) #[] kc) [vi a] g s (fun x g' s'=>x=vb false∧g=g'∧s=s')) :
  Ctr Tryz.prog E 205 #[v,.func (.func kn) #[] kc] g s (fun r g' s'=>r=vi (-1)∧g=g'∧s=s'):=by
 obtain ⟨p,c,rfl⟩:=za2 hv;refine za9 (args:=[.slice p l.length c,.func (.func kn) #[] kc]) func205 I ntmps205 (bE I) ?_;refine rZ (aT I (sQ (sW I (lU (eN ak I) (lM I (tZ (bK ?_)))))));refine oP (ι:=Nat) (fun k=>[(0,.slice p l.length c),(1,.func (.func kn) #[] kc),(7,vi l.length),(8,vi k)]) (fun _=>g) (fun _=>s) (fun k=>k≤l.length) (fun k=>l.length - k) 0
  sB rfl rfl (zf3 _) ?_
 rintro k hk;refine rZ (yL I (tZ (sQ ?_)));refine iP I (fun hlt=>?_) (fun hlt=>?_)
 ·have hkl:k<l.length:=oM;have hb1:=za4 hv oM;refine kP (tN (sQ (bK (sW I (aT I (sW I (lM I (lM I (lU (iA ak zT3 I I hb1 oM sL) ?_)))))))));refine SL.q (eB iT3 I (za5 hv) (gE hkl) I) dC ?_;refine lW (SO.callV I I (hp l[k] (gM hkl))) ?_;rintro _ _ _ ⟨rfl,rfl,rfl⟩;refine tZ (cF I (kP (bN (tN (rG (yD I (lM I (nL ?_))))))));exact gA (k+1) sB I I oM oM
 ·refine xI (tX (tX (bX (tN (rZ (aT I (rE ?_)))))));exact za6 (.inl I) results205 I ⟨I,I,I⟩
theorem tg (E:World)(g:PH)(s:Own)(v:Value)(kn:FuncId)(kc:Array Value)(l:List Int)(hv:bT g v l)(hl:l.length<1099511627776)(hp:∀ a∈l,cI Tryz.prog E (.func (.func kn) #[] kc) [vi a] g s (fun x g' s'=>x=vb false∧g=g'∧s=s')) :
  Ctr Tryz.prog E 153 #[v,.func (.func kn) #[] kc] g s (fun r g' s'=>r=vb false∧g=g'∧s=s'):=by
 refine za9 (args:=[v,.func (.func kn) #[] kc]) func153 I ntmps153 (bE I) ?_;refine rZ (aT I (sW I (lM I (lW (cL call205 I (zR E g _ v kn kc l hv hl hp)) ?_))));rintro _ _ _ ⟨rfl,rfl,rfl⟩;refine lU (gQ I I) (aT I (rE ?_));exact za6 (.inl I) results153 I ⟨I,I,I⟩
theorem wR (E:World)(g:PH)(s:Own)(v:Value)(p:Int)(hp:Fp p)(R C:Nat)(hr:R≤400)(hc:C≤400)(A:List Int)(hA:A.length=R * C)(hv:FmR g v p R C A)(h0:∀ x∈A,0≤x∧x<p) :
  Ctr Tryz.prog E 115 #[v] g s (fun x g' s'=>x=vb true∧g=g'∧s=s'):=by
 obtain ⟨q,c,rfl,hs⟩:=hv;have hm:=Av hr hc;refine za9 (args:=[.agg #[vi p,vi R,vi C,.slice q A.length c]]) func115 I ntmps115 (bE I) ?_;refine rZ (bW (bO I) fun b1=>?_);refine aT I (rZ (lU (fA gI I zT3 I) (lK (qL iT3 I (cO 0 I I)) (lU (fA gI I zT3 I) (lK (qL iT3 I (cO 0 I I)) (lU (fA gI I zT3 I) (lK (qL iT3 I (cO 0 I I)) (lW (cL call117 I (rv E g _ p hp R C hr hc)) ?_))))))));rintro _ _ _ ⟨rfl,rfl,rfl⟩;refine lM I (lY I I I (fA gI I bZ I) (SL.gq (gT I I I dC) (qL dx I (cO 0 I I)) dC (lY I I I (eN ak I) (lY I I I (fA gI I zT3 I) (SL.gq (gT I I I dC) (qL iT3 I (cO 0 I I)) dC (lY I I I (fA gI I zT3 I) (SL.gq (gT I I I dC) (qL iT3 I (cO 0 I I)) dC (lY I I I (SU.eq (v':=vi ((R * C:Nat))) (SU.mulW I I) (zd8 vi (by rw[← Int.natCast_mul]; exact zk8 _ oM))) ?_))))))));refine lY I I I (SU.eq (v':=vb true) (eQ I I) (zd8 vb (zf5 (by rw[hA])))) ?_;refine yP I (lM I (lY I I I (fA gI I bZ I) (SL.gq (gT I I I dC) (qL dx I (cO 0 I I)) dC (lY I I I (SU.mkFunc I) (zd7 (gT I I I dC) (cL call153 I (tg E g _ (.slice q A.length c) _ _ A hs oM fun a ha=>G9 E g _ b1 p a (cO 0 I I) (h0 a ha).1 (h0 a ha).2)) dC ?_)))));rintro _ _ _ ⟨rfl,rfl,rfl⟩;refine lY I I I (SU.not I) (yP I (aT I (rE (dR (s':=s) uR ?_))));exact za6 (.inl I) results115 I ⟨I,I,I⟩
theorem eH {b x y:Nat}(h:x=y):Value.pointer (some ⟨b,x,none⟩)=Value.pointer (some ⟨b,y,none⟩):=by rw[h]
def jL (b i C c:Nat):Value:=.slice (some ⟨b,i * C * 1,none⟩) C (c - i * C)
theorem zt {b i C c:Nat}(hC:0<C)(hc:(i+1) * C≤c):sliced (some ⟨b,0,none⟩) (i * C) ((i+1) * C) c 1=jL b i C c:=by
 have h1:(i+1) * C=i * C+C:=by rw[Nat.add_mul,Nat.one_mul]
 unfold sliced jL;rw[zf6 oM,h1,Nat.add_sub_cancel_left];simp[Addr.add];exact fun h=>h.symm
def mS (p:Int)(R C:Nat)(v:Value)(ov:List Int):Array Value:=(vi p::vi R::vi C::v::ov.map vi).toArray
def atF (L:List Int)(C x y:Nat):Int:=L.getD (x * C+y) 0
theorem jq {R C x y:Nat}(hx:x<R)(hy:y<C):x * C+y<R * C:=by
 have:=Nat.mul_le_mul_right C (show x+1≤R from hx);rw[Nat.add_mul,Nat.one_mul] at this;omega
theorem kC {R C x:Nat}(hx:x<R):(x+1) * C≤R * C:=Nat.mul_le_mul_right C hx
theorem Bm {C x y x' y':Nat}(hy:y<C)(hy':y'<C):x * C+y=x' * C+y'↔x=x'∧y=y' :=
 ⟨fun h=>by
  have h1:(x * C+y) / C=x:=by rw[Nat.mul_comm,Nat.mul_add_div oM,Nat.div_eq_of_lt hy,Nat.add_zero]
  have h2:(x' * C+y') / C=x':=by rw[Nat.mul_comm,Nat.mul_add_div oM,Nat.div_eq_of_lt hy',Nat.add_zero]
  have h3:x=x':=by rw[← h1,← h2,h]
  subst h3;exact⟨rfl,oM⟩,fun ⟨h1,h2⟩=>by rw[h1,h2]⟩
theorem og {L:List Int}{R C x y x' y':Nat}(hL:L.length=R * C)(hx:x<R)(hy:y<C)(hy':y'<C)(v:Int):atF (L.set (x * C+y) v) C x' y'=if x=x'∧y=y' then v else atF L C x' y':=by
 unfold atF;rw[zg7,zg7,List.getElem?_set];by_cases h:x=x'∧y=y'
 ·rw[zf7 ((Bm hy hy').2 h),zf7 h,zf7 (by rw[hL]; exact jq hx hy)];rfl
 ·rw[zf6 (fun e=>h ((Bm hy hy').1 e)),zf6 h]
theorem jr {L:List Int}{R C x y:Nat}(hL:L.length=R * C)(hx:x<R)(hy:y<C):L[x * C+y]?=some (atF L C x y):=by
 have:=jq hx hy;unfold atF;rw[zg7,gE oM];rfl
def Ov (p:Int)(ov:List Int):Prop:=ov.length=998∧∀ i:Nat,i<8→ov.getD i 0=0∨(0<ov.getD i 0∧ov.getD i 0<p∧(ov.getD i 0 * i) % p=1)
def Au (bm:Nat)(p:Int)(R C:Nat)(v:Value):Ent:=⟨some bm,fun oo=>∃ ov,Ov p ov∧oo=some (.cells (mS p R C v ov) 203 (0,0))⟩
theorem rN {g:PH}{s:Own}{bm:Nat}{p:Int}{R C o:Nat}{v u:Value}(i:Nat)(hi:s[i]?=some (Au bm p R C v))(hu:[vi p,vi R,vi C,v][o]?=some u):eJ g s ⟨bm,o,none⟩ u:=fun E w hw=>by
 have:=hw.own _ (zf8 hi);simp only[Au,Option.bind_some] at this;obtain ⟨ov,_,h⟩:=this;have ho:o<4:=(zf2.1 hu).1;have h2:(mS p R C v ov)[o]?=some u:=by
  rw[← hu];unfold mS
  match o,ho with
  | 0,_=>rfl
  | 1,_=>rfl
  | 2,_=>rfl
  | 3,_=>rfl
 simp[World.cell?,h,h2]
def iI (p:Int)(R C b cE bm:Nat)(L:List Int)(s:Own):Own:=rowA encInt 3 (.slice (some ⟨b,0,none⟩) (R * C) cE) L::Au bm p R C (.slice (some ⟨b,0,none⟩) (R * C) cE)::s
theorem dQ (E:World)(g:PH)(s:Own)(p:Int)(R C b cE bm i:Nat)(L:List Int)(hR:R≤400)(hC:C≤400)(hC0:0<C)(hi:i<R)(hc:R * C≤cE) :
  Ctr Tryz.prog E 155 #[pp bm 0,vi i] g (iI p R C b cE bm L s) (fun x g' s'=>x=jL b i C cE∧g=g'∧s'=iI p R C b cE bm L s):=by
 have hm:=Av hR hC;have h1:=kC (C:=C) hi;have h2:(i+1) * C=i * C+C:=by rw[Nat.add_mul,Nat.one_mul]
 have hsl:=zt (b:=b) hC0 (zk6 h1 hc);unfold iI;refine za9 (args:=[pp bm 0,vi i]) func155 I ntmps155 (bE I) ?_;refine rZ (aT I (sQ ?_));refine dW [] [(0,2),(1,2),(2,2),(3,2),(4,1),(5,2),(6,2),(7,2),(8,2),(9,2),(10,1),(11,2),(12,2),(13,2),(14,2),(15,2),(16,2),(17,2),(18,1),(19,2),(20,2),(21,2)] zd9 kR ?_;refine yM I (pU I (nC I) (pU I (fA lT I fD I) (pU I (fA gI I bZ I) (pK I (qL (v:=.slice (some ⟨b,0,none⟩) (R * C) cE) dx I (rN 1 I I)) (yM I (yM I (pU I (nC I) (pU I (fA lT I fD I) (pU I (fA gI I zT3 I) (pK I (qL (v:=vi C) iT3 I (rN 1 I I)) (pU I (SU.eq (v':=vi ((i * C:Nat))) (SU.mulW I I) (zd8 vi (by rw[← Int.natCast_mul]; exact zk8 _ oM))) ?_)))))))))));refine yM I (pU I (SU.eq (v':=vi ((i+1:Nat))) (aD I I oM) (zd8 vi oM)) (yM I (pU I (nC I) (pU I (fA lT I fD I) (pU I (fA gI I zT3 I) (pK I (qL (v:=vi C) iT3 I (rN 1 I I)) (pU I (SU.eq (v':=vi (((i+1) * C:Nat))) (SU.mulW I I) (zd8 vi (by rw[← Int.natCast_mul]; exact zk8 _ oM))) ?_)))))));refine pU I (SU.eq (v':=jL b i C cE) (SU.sliceLH ak zT3 I I I oM oM oM) (by rw[← hsl]; rfl)) ?_;refine pU I (aS I) (pN (tN (rE ?_)));exact za6 (.inl I) results155 I ⟨I,I,I⟩
def swF (i j x:Nat):Nat:=if x=i then j else if x=j then i else x
theorem FG (i j:Nat):swF i j i=j:=zf7 rfl
theorem HA (i j:Nat):swF i j j=i:=by
 unfold swF;split
 ·rename_i h; exact h
 ·rw[zf7 rfl]
theorem Hz {i j x:Nat}(h1:x≠i)(h2:x≠j):swF i j x=x:=by
 unfold swF;rw[zf6 h1,zf6 h2]
theorem zV (E:World)(g:PH)(s:Own)(p:Int)(R C b cE bm i j:Nat)(L:List Int)(hR:R≤400)(hC:C≤400)(hC0:0<C)(hi:i<R)(hj:j<R)(hc:R * C≤cE)(hL:L.length=R * C) :
  Ctr Tryz.prog E 156 #[pp bm 0,vi i,vi j] g (iI p R C b cE bm L s) (fun _ g' s'=>g=g'∧∃ L',s'=iI p R C b cE bm L' s∧L'.length=R * C∧∀ x<R,∀ y<C,atF L' C x y=atF L C (swF i j x) y):=by
 have hm:=Av hR hC;have hi1:=kC (C:=C) hi;have hj1:=kC (C:=C) hj;have hi2:(i+1) * C=i * C+C:=by rw[Nat.add_mul,Nat.one_mul]
 have hj2:(j+1) * C=j * C+C:=by rw[Nat.add_mul,Nat.one_mul]
 refine za9 (args:=[pp bm 0,vi i,vi j]) func156 I ntmps156 (bE I) ?_;refine sW I (lM I (lW (cL call155 I (dQ E g s p R C b cE bm i L hR hC hC0 hi hc)) ?_));rintro _ _ _ ⟨rfl,rfl,rfl⟩;refine lM I (lM I (lW (cL call155 I (dQ E g s p R C b cE bm j L hR hC hC0 hj hc)) ?_));rintro _ _ _ ⟨rfl,rfl,rfl⟩;refine lA I (aT I (sW I (lU (SU.eq (v':=vi (C:Nat)) (eM ak I I) I) (lM I (tZ (bK ?_))))));refine oP (ι:=Nat×List Int) (fun z=>[(6,jL b i C cE),(7,jL b j C cE),(16,vi C),(17,vi z.1)]) (fun _=>g) (fun z=>iI p R C b cE bm z.2 s) (fun z=>z.1≤C∧z.2.length=R * C∧∀ x<R,∀ y<C,atF z.2 C x y=if y<z.1 then atF L C (swF i j x) y else atF L C x y) (fun z=>C - z.1) (0,L) sB I I ⟨zf3 _,hL,fun x _ y _=>by simp⟩ ?_;rintro ⟨k,M⟩ ⟨hk,hM,hz⟩;dsimp only at hk hM hz ⊢;refine rZ (yL I (tZ (sQ ?_)));refine iP I (fun hlt=>?_) (fun hlt=>?_)
 ·have hkC:k<C:=oM;have gi:=jr hM hi hkC;have gj:=jr hM hj hkC;unfold iI;refine kP (tN (sQ (bK (sW I (aT I ?_)))));refine dW [13,15] [(0,2),(1,2),(2,2),(3,2),(4,2),(5,2),(6,2),(7,1),(8,2),(9,2),(10,2),(11,1),(12,2),(13,0),(14,2),(15,0)] zd9 kR ?_;refine yM I (yM I (yM I (yM I (yM I (yM I (pU I (SU.eq (v':=.pointer (some ⟨b,0+(j * C+k) * 1,none⟩)) (iA ak zT3 I I I oM (by simp only[jL,slen]; omega)) (eH (by simp only[Int.toNat_natCast]; omega))) ?_))))));refine pK I (eB (j:=j * C+k) iT3 I (zb5 0 I) gj I) (yM I (yM I (pU I (SU.eq (v':=.pointer (some ⟨b,0+(i * C+k) * 1,none⟩)) (iA ak zT3 I I I oM (by simp only[jL,slen]; omega)) (eH (by simp only[Int.toNat_natCast]; omega))) ?_)));refine pK I (eB (j:=i * C+k) iT3 I (zb5 0 I) gi I) (pU I (SU.eq (v':=.pointer (some ⟨b,0+(i * C+k) * 1,none⟩)) (iA ak zT3 I I I oM (by simp only[jL,slen]; omega)) (eH (by simp only[Int.toNat_natCast]; omega))) ?_);refine SP.on I (sT (e:=encInt) (a:=atF M C j k) (j:=i * C+k) 0 zT3 I I I (by rw[hM]; exact jq hi hkC) I) (.inl dC) ?_;rintro _ _ _ ⟨rfl,rfl⟩;refine pU I (SU.eq (v':=.pointer (some ⟨b,0+(j * C+k) * 1,none⟩)) (iA ak zT3 I I I oM (by simp only[jL,slen]; omega)) (eH (by simp only[Int.toNat_natCast]; omega))) ?_;refine SP.on I (sT (e:=encInt) (a:=atF M C i k) (j:=j * C+k) 0 zT3 I I I (by rw[zh9,hM]; exact jq hj hkC) I) (.inl dC) ?_;rintro _ _ _ ⟨rfl,rfl⟩;refine pN (bN (tN (rG (yD I (lM I (nL ?_))))));have h1:(M.set (i * C+k) (atF M C j k)).length=R * C:=by rw[zh9,hM]
  exact gA (k+1,(M.set (i * C+k) (atF M C j k)).set (j * C+k) (atF M C i k)) sB I I ⟨by dsimp only; omega,by dsimp only; rw[zh9,h1],fun x hx y hy=>by
   dsimp only;rw[og h1 hj hkC hy,og hM hi hkC hy,hz x hx y hy,hz i hi k hkC,hz j hj k hkC,zf6 (Nat.lt_irrefl k),zf6 (Nat.lt_irrefl k)];by_cases e1:j=x∧k=y
   ·obtain ⟨e1,e0⟩:=e1;subst e1;subst e0;rw[zf7 ⟨rfl,rfl⟩,zf7 (Nat.lt_succ_self k),HA]
   ·rw[zf6 e1];by_cases e2:i=x∧k=y
    ·obtain ⟨e2,e0⟩:=e2;subst e2;subst e0;rw[zf7 ⟨rfl,rfl⟩,zf7 (Nat.lt_succ_self k),FG]
    ·rw[zf6 e2];by_cases e3:y<k
     ·rw[zf7 e3,zf7 (Nat.lt_succ_of_lt e3)]
     ·rw[zf6 e3];by_cases e4:y=k
      ·subst e4;rw[zf7 (Nat.lt_succ_self y),Hz (fun e=>e2 ⟨e.symm,rfl⟩) (fun e=>e1 ⟨e.symm,rfl⟩)]
      ·rw[zf6 (show ¬ y<k+1 by omega)]⟩ (by dsimp only; omega)
 ·refine xI (tX (tX (bX ?_)));have hkC:k=C:=oM;subst hkC;exact ST.ret0 (.inr I) results156 ⟨I,M,I,hM,fun x hx y hy=>by rw[hz x hx y hy,zf7 hy]⟩
theorem rA (E:World)(g:PH)(s:Own)(p:Int)(R C b cE bm i:Nat)(L:List Int)(hR:R≤400)(hC:C≤400)(hC0:0<C)(hi:i<R)(hc:R * C≤cE)(hL:L.length=R * C)(fn:FuncId)(fst:Array Value)(F:Nat→Int→Int)
  (hF:∀ L',L'.length=R * C→(∀ x<R,x≠i→∀ y<C,atF L' C x y=atF L C x y)→∀ k<C,Dg Tryz.prog E (.func (.func fn) fst #[]) [vi k,vi (atF L C i k)] g (iI p R C b cE bm L' s) (fun x g' s'=>x=vi (F k (atF L C i k))∧g=g'∧s'=iI p R C b cE bm L' s)) :
  Ctr Tryz.prog E 157 #[jL b i C cE,.func (.func fn) fst #[]] g (iI p R C b cE bm L s) (fun _ g' s'=>g=g'∧∃ L',s'=iI p R C b cE bm L' s∧L'.length=R * C∧∀ x<R,∀ y<C,atF L' C x y=if x=i then F y (atF L C i y) else atF L C x y):=by
 have hm:=Av hR hC;have hi1:=kC (C:=C) hi;have hi2:(i+1) * C=i * C+C:=by rw[Nat.add_mul,Nat.one_mul]
 refine za9 (args:=[jL b i C cE,.func (.func fn) fst #[]]) func157 I ntmps157 (bE I) ?_;refine sW I (lU (SU.eq (v':=vi (C:Nat)) (eM ak I I) I) (lM I (tZ (bK ?_))));refine oP (ι:=Nat×List Int) (fun z=>[(0,jL b i C cE),(1,.func (.func fn) fst #[]),(6,jL b i C cE),(7,vi C),(8,vi z.1)]) (fun _=>g) (fun z=>iI p R C b cE bm z.2 s) (fun z=>z.1≤C∧z.2.length=R * C∧∀ x<R,∀ y<C,atF z.2 C x y=if x=i∧y<z.1 then F y (atF L C i y) else atF L C x y) (fun z=>C - z.1) (0,L) sB I I ⟨zf3 _,hL,fun x _ y _=>by simp⟩ ?_;rintro ⟨k,M⟩ ⟨hk,hM,hz⟩;dsimp only at hk hM hz ⊢;refine rZ (yL I (tZ (sQ ?_)));refine iP I (fun hlt=>?_) (fun hlt=>?_)
 ·have hkC:k<C:=oM;have gi:=jr hM hi hkC;rw[hz i hi k hkC,zf6 oM] at gi;have hcall:=hF M hM (fun x hx hne y hy=>by rw[hz x hx y hy,zf6 (fun e=>hne e.1)]) k hkC;unfold iI at hcall ⊢;refine kP (tN (sQ (bK (sW I (lU (SU.eq (v':=.pointer (some ⟨b,0+(i * C+k) * 1,none⟩)) (iA ak zT3 I I I oM (by simp only[jL,slen]; omega)) (eH (by simp only[Int.toNat_natCast]; omega))) ?_)))));refine lK (eB (j:=i * C+k) iT3 I (zb5 0 I) gi I) (lA I (aT I (rG (lM I (lM I (lM I (lM I (lM I (lW (SO.callB I I hcall) ?_)))))))));rintro _ _ _ ⟨rfl,rfl,rfl⟩;refine lU (SU.eq (v':=.pointer (some ⟨b,0+(i * C+k) * 1,none⟩)) (iA ak zT3 I I I oM (by simp only[jL,slen]; omega)) (eH (by simp only[Int.toNat_natCast]; omega))) ?_;refine oZ (sT (e:=encInt) (a:=F k (atF L C i k)) (j:=i * C+k) 0 zT3 I I I (by rw[hM]; exact jq hi hkC) I) ?_;refine nL (bN (tN (rG (yD I (lM I (nL ?_))))));exact gA (k+1,M.set (i * C+k) (F k (atF L C i k))) sB I I ⟨by dsimp only; omega,by dsimp only; rw[zh9,hM],fun x hx y hy=>by
   dsimp only;rw[og hM hi hkC hy,hz x hx y hy];by_cases e1:i=x∧k=y
   ·obtain ⟨rfl,rfl⟩:=e1;rw[zf7 ⟨rfl,rfl⟩,zf7 ⟨rfl,oM⟩]
   ·rw[zf6 e1];by_cases e2:x=i∧y<k
    ·rw[zf7 e2,zf7 ⟨e2.1,oM⟩]
    ·rw[zf6 e2,zf6 (fun e=>e2 ⟨e.1,by
      have:¬ k=y:=fun e3=>e1 ⟨e.1.symm,e3⟩;omega⟩)]⟩ (by dsimp only; omega)
 ·refine xI (tX (tX (bX ?_)));have hkC:k=C:=oM;subst hkC;exact ST.ret0 (.inr I) results157 ⟨I,M,I,hM,fun x hx y hy=>by
   rw[hz x hx y hy];by_cases e:x=i
   ·rw[zf7 ⟨e,hy⟩,zf7 e]
   ·rw[zf6 (fun k=>e k.1),zf6 e]⟩
theorem vP {a b p:Int}(h7:p≤7)(ha:0≤a)(ha1:a<p)(hb:0≤b)(hb1:b<p):0≤a * b∧a * b≤49:=by
 refine⟨Int.mul_nonneg ha hb,?_⟩;have h1:a * b≤7 * 7:=Int.mul_le_mul oM oM hb dC;omega
theorem wQ (E:World)(g:PH)(s:Own)(p t n:Int)(k:Nat)(h2:2≤p)(h7:p≤7)(ht:0≤t)(ht1:t<p)(hn:0≤n)(hn1:n<p) :
  Dg Tryz.prog E (.func (.func 159) #[.agg #[.slice none 0 0,vi t,vi p]] #[]) [vi k,vi n] g s (fun x g' s'=>x=vi (n * t % p)∧g=g'∧s'=s):=by
 have hb:=vP h7 hn hn1 ht ht1;refine⟨_,_,I,call159,?_⟩;show Ctr _ _ _ #[.agg #[.slice none 0 0,vi t,vi p],vi k,vi n] _ _ _;refine za9 (args:=[.agg #[.slice none 0 0,vi t,vi p],vi k,vi n]) func159 I ntmps159 (bE I) ?_;refine rZ (bW (bO I) fun b3=>?_);refine aT I (sW I (lU (fA underlying208 I zT3 I) (lK (qL iT3 I (cO 0 I I)) (lU (SU.eq (v':=vi (n * t)) (SU.mulW I I) (zd8 vi (zk8 _ oM))) (lU (fA underlying208 I zT3 I) (lK (qL iT3 I (cO 0 I I)) (lU (SU.eq (v':=vi (n * t % p)) (zd4 I I oM) (zd8 vi (Int.tmod_eq_emod_of_nonneg hb.1))) (aT I (rE (dR (s':=s) uR ?_))))))))));exact za6 (.inl I) results159 I ⟨I,I,I⟩
theorem CP (E:World)(g:PH)(s:Own)(p t n:Int)(R C b cE bm i k:Nat)(L:List Int)(h2:2≤p)(h7:p≤7)(ht:0≤t)(ht1:t<p)(hn:0≤n)(hn1:n<p)(hL:L.length=R * C)(hi:i<R)(hk:k<C)(hr:0≤atF L C i k)(hr1:atF L C i k<p)(hR:R≤400)(hC:C≤400) :
  Dg Tryz.prog E (.func (.func 160) #[.agg #[jL b i C cE,vi t,vi p]] #[]) [vi k,vi n] g (iI p R C b cE bm L s) (fun x g' s'=>x=vi ((n+atF L C i k * t) % p)∧g=g'∧s'=iI p R C b cE bm L s):=by
 have hm:=Av hR hC;have hi1:=kC (C:=C) hi;have hi2:(i+1) * C=i * C+C:=by rw[Nat.add_mul,Nat.one_mul]
 have hb:=vP h7 hr hr1 ht ht1;have gi:=jr hL hi hk;refine⟨_,_,I,call160,?_⟩;show Ctr _ _ _ #[.agg #[jL b i C cE,vi t,vi p],vi k,vi n] _ _ _;unfold iI;refine za9 (args:=[.agg #[jL b i C cE,vi t,vi p],vi k,vi n]) func160 I ntmps160 (bE I) ?_;refine rZ (bW (bO I) fun b3=>?_);refine aT I (sQ ?_);refine dW [] [(0,2),(1,2),(2,1),(3,2),(4,2),(5,1),(6,2),(7,1),(8,2),(9,2),(10,2),(11,1),(12,2),(13,2)] zd9 kR ?_;refine yM I (pU I (fA underlying208 I bZ I) (pK I (qL (v:=jL b i C cE) dx I (cO 0 I I)) (yM I (pU I (SU.eq (v':=.pointer (some ⟨b,0+(i * C+k) * 1,none⟩)) (iA ak zT3 I I I oM (by simp only[jL,slen]; omega)) (eH (by simp only[Int.toNat_natCast]; omega))) ?_))));refine pK I (eB (j:=i * C+k) iT3 I (zb5 1 I) gi I) (pU I (fA underlying208 I zT3 I) (pK I (qL iT3 I (cO 0 I I)) (pU I (SU.eq (v':=vi (atF L C i k * t)) (SU.mulW I I) (zd8 vi (zk8 _ oM))) (pU I (aD I I oM) (pU I (fA underlying208 I zT3 I) (pK I (qL iT3 I (cO 0 I I)) (pU I (SU.eq (v':=vi ((n+atF L C i k * t) % p)) (zd4 I I oM) (zd8 vi (Int.tmod_eq_emod_of_nonneg oM))) (pU I (aS I) (pN (tN (rE (dR (s':=_::_::s) (.cons _ (.refl _)) ?_))))))))))));exact za6 (.inl I) results160 I ⟨I,I,I⟩
def Am (p:Int)(z:Int×Int×Int):Int×Int×Int:=(if z.2.2 % 2=1 then z.1 * z.2.1 % p else z.1,z.2.1 * z.2.1 % p,z.2.2 / 2)
def Dl (p:Int):Nat→Int×Int×Int→Int
 | 0,z=>z.1
 | f+1,z=>if z.2.2=0 then z.1 else Dl p f (Am p z)
def Ay (p n:Int):Int:=Dl p 3 (1,n,p - 2)
theorem Gr {p n:Int}(hp:Fp p)(h0:0<n)(h1:n<p):0<Ay p n∧Ay p n<p∧Ay p n * n % p=1:=by
 have key:∀ p:Nat,p<8→(p=2∨p=3∨p=5∨p=7)→∀ n:Nat,n<p→0<n→0<Ay p n∧Ay p n<p∧Ay p n * n % p=1:=by decide
 have hl:=hp.lt;have:=key p.toNat oM (by unfold Fp at hp; omega) n.toNat oM oM;rwa [Int.toNat_of_nonneg oM,Int.toNat_of_nonneg oM] at this
theorem CK {p:Int}{k:Nat}{z:Int×Int×Int}(h:z.2.2=0):Dl p k z=z.1:=by
 cases k with
 | zero=>rfl
 | succ k=>unfold Dl; rw[zf7 h]
theorem GJ:∀ e:Nat,e<8→IntKind.i64.wrap (BitVec.ofInt IntKind.i64.bits (e:Int) &&& BitVec.ofInt IntKind.i64.bits 1).toNat=(e:Int) % 2:=by decide
theorem F1:∀ e:Nat,e<8→(e:Int).fdiv (2 ^ min (1:Int).toNat IntKind.i64.bits)=(e:Int) / 2:=by decide
theorem ES {e:Int}(h:0≤e)(h8:e<8):IntKind.i64.wrap (BitVec.ofInt IntKind.i64.bits e &&& BitVec.ofInt IntKind.i64.bits 1).toNat=e % 2:=by
 have:=GJ e.toNat oM;rwa [Int.toNat_of_nonneg h] at this
theorem AR {e:Int}(h:0≤e)(h8:e<8):e.fdiv (2 ^ min (1:Int).toNat IntKind.i64.bits)=e / 2:=by
 have:=F1 e.toNat oM;rwa [Int.toNat_of_nonneg h] at this
theorem oe {a p:Int}(h2:2≤p):0≤a % p∧a % p<p:=⟨zk5 _ oM,zk4 _ oM⟩
theorem DW {p:Int}{R C n:Nat}{v:Value}{ov:List Int}(h:n<ov.length):(mS p R C v ov)[0+4+n * 1]?=some (vi (ov.getD n 0)):=by
 unfold mS;rw[show 0+4+n * 1=n+4 by omega];simp[zg7,gE h]
theorem DV {p:Int}{R C n:Nat}{v:Value}{ov:List Int}(x:Int):(mS p R C v ov).setIfInBounds (0+4+n * 1) (vi x)=mS p R C v (ov.set n x):=by
 unfold mS;rw[show 0+4+n * 1=n+4 by omega];simp[List.map_set]
theorem Ov.set {p:Int}{ov:List Int}(h:Ov p ov){n:Nat}(hn:n<8){x:Int}(h0:0<x)(h1:x<p)(h2:x * n % p=1):Ov p (ov.set n x):=by
 refine⟨by rw[zh9]; exact h.1,fun i hi=>?_⟩;rw[zg7,List.getElem?_set];by_cases e:n=i
 ·subst e;rw[zf7 rfl,zf7 (by rw[h.1]; omega)];exact .inr ⟨h0,h1,h2⟩
 ·rw[zf6 e,← zg7];exact h.2 i hi
section
variable {P:Program}{N:Nat}{E:World}{Q:Exit→Act→World→Prop}{f:Fr}{g:PH}{s:Own}{bm:Nat}{p:Int}{R C:Nat}{v:Value}
theorem SC.openRed {c:Code}(i:Nat)(hi:s[i]?=some (Au bm p R C v))(h:∀ ov,Ov p ov→SC P N E c Q f g (s.set i (pt bm (.cells (mS p R C v ov) 203 (0,0))))):SC P N E c Q f g s:=fun a w ha hw=>by
 have h1:=hw.own _ (zf8 hi);have hf:=hw.fresh _ (zf8 hi);simp only[Au,Option.bind_some] at h1;obtain ⟨ov,hov,h2⟩:=h1;exact h ov hov a w ha (hw.turn hi I ⟨I,lR _⟩ I (lR _) (fun _ _ _=>I) (by simpa [pt] using h2) (fun b' hb'=>⟨(hf b' hb').2,.inl hb'⟩))
theorem pX {w:World}{ov:List Int}(i:Nat)(hi:s[i]?=some (pt bm (.cells (mS p R C v ov) 203 (0,0))))(hov:Ov p ov)(hw:At E g s w):At E g (s.set i (Au bm p R C v)) w:=by
 have h1:=hw.own _ (zf8 hi);have hf:=hw.fresh _ (zf8 hi);exact hw.turn hi I ⟨I,lR _⟩ I (lR _) (fun _ _ _=>I) ⟨ov,hov,by simpa [pt,Au] using h1⟩ (fun b' hb'=>⟨(hf b' hb').2,.inl hb'⟩)
theorem ST.closeRed {e:Exit}{ov:List Int}(i:Nat)(hi:s[i]?=some (pt bm (.cells (mS p R C v ov) 203 (0,0))))(hov:Ov p ov)(h:ST N E Q e f g (s.set i (Au bm p R C v))):ST N E Q e f g s:=fun a w ha hw=>h a w ha (pX i hi hov hw)
end
theorem vq (E:World)(g:PH)(s:Own)(p n:Int)(hp:Fp p)(R C b cE bm:Nat)(L:List Int)(h0:0<n)(h1:n<p) :
  Ctr Tryz.prog E 158 #[pp bm 0,vi n] g (iI p R C b cE bm L s) (fun x g' s'=>(∃ o,x=vi o∧0<o∧o<p∧o * n % p=1)∧g=g'∧s'=iI p R C b cE bm L s):=by
 have hl:=hp.lt;have hok:=Gr hp h0 h1;have hn:((n.toNat:Nat):Int)=n:=Int.toNat_of_nonneg oM;unfold iI;refine za9 (args:=[pp bm 0,vi n]) func158 I ntmps158 (bE I) ?_;refine SC.openRed 1 I fun ov hov=>?_;have hg:=DW (p:=p) (R:=R) (C:=C) (v:=.slice (some ⟨b,0,none⟩) (R * C) cE) (ov:=ov) (n:=n.toNat) (by rw[hov.1]; omega);have hon:=hov.2 n.toNat oM;rw[hn] at hon;refine rZ (aT I (sQ (sW I (lM I (lU (nC I) (lU (fA lT I sizeOf201 I) (lU (SU.indexAddrA underlying201 zT3 I I oM oM) (lK (qL (v:=vi (ov.getD n.toNat 0)) iT3 I (cO 1 I hg)) (lU (gR I I) (tZ ?_))))))))));refine iP I (fun hpos=>?_) (fun hpos=>?_)
 ·refine sW I (lM I (lU (nC I) (lU (fA lT I sizeOf201 I) (lU (SU.indexAddrA underlying201 zT3 I I oM oM) (lK (qL (v:=vi (ov.getD n.toNat 0)) iT3 I (cO 1 I hg)) (aT I (rE (tR ?_))))))));have hon2:0<ov.getD n.toNat 0∧ov.getD n.toNat 0<p∧ov.getD n.toNat 0 * n % p=1:=by
   rcases hon with h | h
   ·omega
   ·exact h
  refine ST.closeRed 1 I hov ?_;exact za6 (.inl I) results158 I ⟨⟨_,I,hon2⟩,I,I⟩
 ·refine kP (tN (sW I (lA I (aT I (sQ (sW I (lU (nC I) (lU (fA lT I fD I) (lU (fA gI I zT3 I) (lK (qL (v:=vi p) iT3 I (cO 1 I I)) (lU (sU I I oM) (aT I (bK ?_)))))))))))));refine oP (ι:=Nat×Int×Int×Int) (fun z=>[(0,pp bm 0),(1,vi n),(5,vi z.2.1),(6,vi z.2.2.1),(7,vi z.2.2.2)]) (fun _=>g) (fun _=>rowA encInt 3 (.slice (some ⟨b,0,none⟩) (R * C) cE) L::pt bm (.cells (mS p R C (.slice (some ⟨b,0,none⟩) (R * C) cE) ov) 203 (0,0))::s) (fun z=>Dl p z.1 z.2=Ay p n∧0≤z.2.1∧z.2.1<p∧0≤z.2.2.1∧z.2.2.1<p∧0≤z.2.2.2∧z.2.2.2<2 ^ z.1∧z.1≤3) (fun z=>z.2.2.2.toNat) (3,1,n,p - 2) sB I I ⟨I,by dsimp only; omega,by dsimp only; omega,by dsimp only; omega,by dsimp only; omega,by dsimp only; omega,by show p - 2<8; omega,lR _⟩ ?_;rintro ⟨k,o,w,e⟩ ⟨hf,ho0,ho1,hw0,hw1,he0,he1,hk3⟩;dsimp only at hf ho0 ho1 hw0 hw1 he0 he1 hk3 ⊢;have he8:e<8:=by
   have:k=0∨k=1∨k=2∨k=3:=oM
   rcases this with h | h | h | h <;> subst h <;> (first | (have h2:(2:Int) ^ 0=1:=rfl; omega) | (have h2:(2:Int) ^ 1=2:=rfl; omega) | (have h2:(2:Int) ^ 2=4:=rfl; omega) | (have h2:(2:Int) ^ 3=8:=rfl; omega))
  have hb1:=vP hl.2 ho0 ho1 hw0 hw1;have hb2:=vP hl.2 hw0 hw1 hw0 hw1;have hm1:=oe (a:=o * w) hl.1;have hm2:=oe (a:=w * w) hl.1;refine sQ (sW I (lU (gR I I) (tZ ?_)));refine iP I (fun hgt=>?_) (fun hgt=>?_)
  ·have hk:∃ k',k=k'+1:=by
    cases k with
    | zero=>rw[Int.pow_zero] at he1; omega
    | succ k'=>exact⟨k',rfl⟩
   obtain ⟨k',rfl⟩:=hk;have hne:¬ e=0:=oM;have hf2:Dl p k' (Am p (o,w,e))=Ay p n:=by
    rw[← hf];show _=if e=0 then o else Dl p k' (Am p (o,w,e))
    rw[zf6 hne]
   have he2:e / 2<2 ^ k':=by
    have:(2:Int) ^ (k'+1)=2 ^ k' * 2:=Int.pow_succ 2 k';omega
   refine kP (tN (sQ (bK (sQ (sW I (lU (SU.eq (v':=vi (e % 2)) (SU.and I I) (zd8 vi (ES he0 he8))) (yE I (tZ ?_))))))));refine iP I (fun hodd=>?_) (fun hodd=>?_)
   ·refine rG (lM I (lM I (lU (SU.eq (v':=vi (o * w)) (SU.mulW I I) (zd8 vi (zk8 _ oM))) (lM I (lU (nC I) (lU (fA lT I fD I) (lU (fA gI I zT3 I) (lK (qL (v:=vi p) iT3 I (cO 1 I I)) (lU (SU.eq (v':=vi (o * w % p)) (zd4 I I oM) (zd8 vi (Int.tmod_eq_emod_of_nonneg hb1.1))) (aT I (rG (lM I (lM I (lU (SU.eq (v':=vi (w * w)) (SU.mulW I I) (zd8 vi (zk8 _ oM))) (lM I (lU (nC I) (lU (fA lT I fD I) (lU (fA gI I zT3 I) (lK (qL (v:=vi p) iT3 I (cO 1 I I)) (lU (SU.eq (v':=vi (w * w % p)) (zd4 I I oM) (zd8 vi (Int.tmod_eq_emod_of_nonneg hb2.1))) (lA I (nL (bN (tN (rG (lM I (lU (SU.eq (v':=vi (e / 2)) (SU.shr I I dC) (zd8 vi (AR he0 he8))) ?_)))))))))))))))))))))))))));refine lA I (nL ?_);unfold Am at hf2;rw[zf7 hodd] at hf2;exact gA (k',o * w % p,w * w % p,e / 2) sB I I ⟨hf2,hm1.1,hm1.2,hm2.1,hm2.2,by dsimp only; omega,he2,by dsimp only; omega⟩ (by dsimp only; omega)
   ·refine kP (tN (rG (lM I (lM I (lU (SU.eq (v':=vi (w * w)) (SU.mulW I I) (zd8 vi (zk8 _ oM))) (lM I (lU (nC I) (lU (fA lT I fD I) (lU (fA gI I zT3 I) (lK (qL (v:=vi p) iT3 I (cO 1 I I)) (lU (SU.eq (v':=vi (w * w % p)) (zd4 I I oM) (zd8 vi (Int.tmod_eq_emod_of_nonneg hb2.1))) (lA I (nL (bN (tN (rG (lM I (lU (SU.eq (v':=vi (e / 2)) (SU.shr I I dC) (zd8 vi (AR he0 he8))) (lA I (nL ?_))))))))))))))))))));unfold Am at hf2;rw[zf6 hodd] at hf2;exact gA (k',o,w * w % p,e / 2) sB I I ⟨hf2,ho0,ho1,hm2.1,hm2.2,by dsimp only; omega,he2,by dsimp only; omega⟩ (by dsimp only; omega)
  ·have he:e=0:=oM;subst he;rw[CK rfl] at hf;have hf:o=Ay p n:=hf;rw[← hf] at hok;have hl2:n.toNat<(mS p R C (.slice (some ⟨b,0,none⟩) (R * C) cE) ov).size - 4:=by
    unfold mS;simp[hov.1];omega
   refine xI (tX (tX (bX (tN (sW I (lM I (lM I (lU (nC I) (lU (fA lT I sizeOf201 I) (lU (SU.eq (v':=pp bm (0+4+n.toNat * 1)) (SU.indexAddrA underlying201 zT3 I I oM oM) I) (oZ (SO.store1 1 zT3 I I I I oM I) (tZ (sW I (aT I (rE ?_)))))))))))))));rw[DV];refine ST.closeRed 1 I (hov.set (n:=n.toNat) oM hok.1 hok.2.1 (by rw[hn]; exact hok.2.2)) ?_;exact za6 (.inl I) results158 I ⟨⟨_,I,hok⟩,I,I⟩
theorem FL (w:World):(zeroValue 203).run Tryz.prog w = .ok (.agg (vi 0::vi 0::vi 0 :: .slice none 0 0::(List.replicate 998 (vi 0))).toArray) w:=by kernel_rfl
theorem Tryz.build203 (p:Int)(r c:Nat)(q:Option Addr)(n k:Nat)(w:World):(Instr.build 203 #[(0,.agg #[vi p,vi r,vi c,.slice q n k])]).run Tryz.prog w = .ok (.agg (mS p r c (.slice q n k) (List.replicate 998 0))) w:=by
 have h1:(Value.agg #[vi p,vi r,vi c,.slice q n k]).cells = #[vi p,vi r,vi c,.slice q n k]:=rfl;have h2:∀ l:List Value,(Value.agg (vi 0::vi 0::vi 0 :: .slice none 0 0::l).toArray).cells=(vi 0::vi 0::vi 0 :: .slice none 0 0::l).toArray:=fun _=>rfl;have hu:Tryz.prog.underlying 203=some (.struct (Tryz.prog.fieldsOf 203)):=by kernel_rfl
 have hf:Tryz.prog.fieldsOf 203 = #[(Tryz.prog.fieldsOf 203)[0]!,(Tryz.prog.fieldsOf 203)[1]!]:=by kernel_rfl
 have ho:((Tryz.prog.fieldsOf 203)[0]!).offset=0:=by kernel_rfl
 have ht:((Tryz.prog.fieldsOf 203)[0]!).type=62:=by kernel_rfl
 have ht2:((Tryz.prog.fieldsOf 203)[1]!).type=201:=by kernel_rfl
 simp only[Instr.build,Sem.run_bind,FL,zc7,h2,run_underlying hu];rw[hf];simp[ho,ht,ht2,fD,sizeOf201,Instr.fill,h1,mS]
set_option maxHeartbeats 2000000
theorem BZ {α:Type}{k:Nat}{e:Enc α k}{E:World}{g:PH}{s:Own}{w:World}{T:TypeId}{v:Value}{l:List α}{i:Nat}(h:At E g s w)(hi:s[i]?=some (rowA e T v l))(hn:0<l.length):∃ b c,v = .slice (some ⟨b,0,none⟩) l.length c∧l.length≤c:=by
 obtain ⟨_,h2⟩:=ge h hi
 rcases h2 with ⟨p,rfl,hn'⟩ | ⟨b,cap,cur,rfl,_,h3,_⟩
 ·omega
 ·exact⟨b,cap+1,I,h3⟩
theorem Tryz.build208 (q:Option Addr)(n k:Nat)(t p:Int)(w:World):(Instr.build 208 #[(0,.slice q n k),(1,vi t),(2,vi p)]).run Tryz.prog w = .ok (.agg #[.slice q n k,vi t,vi p]) w:=by
 have h1:∀ n,(vi n).cells = #[vi n]:=fun _=>rfl;have h2:(Value.slice q n k).cells = #[.slice q n k]:=rfl;simp[Instr.build,Instr.fill,h1,h2];rfl
theorem G7 {i j x R:Nat}(hi:i<R)(hj:j<R)(hx:x<R):swF i j x<R:=by
 unfold swF;split
 ·exact hj
 ·split
  ·exact hi
  ·exact hx
def elG (p:Int)(L:List Int)(C at' c x y:Nat):Int:=if x≠at'∧0<atF L C x c then (atF L C x y+atF L C at' y * (p - atF L C x c)) % p else atF L C x y
theorem EB {p o:Int}{R C c i0:Nat}{A:Nat→Nat→Int}{L L1 L2 M:List Int}{J:List Nat}(h:md p A R C (atF L C) J c)(hc:c<C)(h1:J.length≤i0)(h2:i0<R)(hpos:∀ x<R,∀ y<C,0≤atF L C x y)(ho:o * atF L C i0 c % p=1)
  (hL1:∀ x<R,∀ y<C,atF L1 C x y=atF L C (swF J.length i0 x) y) (hL2:∀ x<R,∀ y<C,atF L2 C x y=if x=J.length then atF L1 C J.length y * o % p else atF L1 C x y)
  (hM:∀ x<R,∀ y<C,atF M C x y=elG p L2 C J.length c x y):md p A R C (atF M C) (J++[c]) (c+1):=by
 have hat:J.length<R:=oM;refine h.pivot (b:=o) hc h1 h2 ?_ fun x hx y hy=>?_
 ·refine⟨o * atF L C i0 c / p,?_⟩;have:=Int.emod_add_mul_ediv (o * atF L C i0 c) p;omega
 ·rw[hM x hx y hy];unfold elG;have e0:∀ y<C,Eqm p (atF L2 C J.length y) (o * atF L C i0 y):=fun y hy=>by
   rw[hL2 _ hat y hy,zf7 rfl,hL1 _ hat y hy,FG,Int.mul_comm o];exact od _ _
  by_cases e:x=J.length
  ·subst e;rw[zf6 (fun k=>k.1 rfl),zf7 rfl];exact e0 y hy
  ·have hsw:swF J.length i0 x=if x=i0 then J.length else x:=by
    unfold swF;rw[zf6 e]
   have hlt:swF J.length i0 x<R:=by
    rw[hsw];split <;> omega
   have e1:∀ y<C,atF L2 C x y=atF L C (if x=i0 then J.length else x) y:=fun y hy=>by
    rw[hL2 x hx y hy,zf6 e,hL1 x hx y hy,hsw]
   rw[zf6 e,← e1 y hy,← e1 c hc];have hn:0≤atF L2 C x c:=by
    rw[e1 c hc,← hsw];exact hpos _ hlt c hc
   by_cases k:0<atF L2 C x c
   ·rw[zf7 ⟨e,k⟩];refine (od _ _).trans ?_;have e2:Eqm p (atF L2 C J.length y * (p - atF L2 C x c)) (o * atF L C i0 y * (0 - atF L2 C x c)):=(e0 y hy).mul (Eqm.sub ⟨1,oM⟩ (.refl _));refine ((Eqm.refl (atF L2 C x y)).add e2).trans (Eqm.of ?_);rw[Int.mul_sub,Int.mul_zero,Int.mul_comm (o * atF L C i0 y)];omega
   ·rw[zf6 (fun q=>k q.2),show atF L2 C x c=0 by omega,Int.zero_mul,Int.sub_zero];exact .refl _
theorem vn (E:World)(g:PH)(s:Own)(v:Value)(p:Int)(hp:Fp p)(R C:Nat)(hR:R≤400)(hC:C≤400)(h0:0<R * C)(A:List Int)(hA:A.length=R * C)(hv:FmR g v p R C A)(hA0:∀ x<R,∀ y<C,0≤atF A C x y∧atF A C x y<p) :
  Ctr Tryz.prog E 116 #[v] g s (fun x g' s'=>s=s'∧Le g g'∧∃ (J:List Nat) (m y:Value),x = .tuple #[.agg #[vi p,vi R,vi C,m],y]∧(∃ q n k,m = .slice q n k)∧bT g' y (J.map fun j:Nat=>(j:Int))∧J.length=rk p (atF A C) R C∧J.length≤R):=by
 obtain ⟨q,c0,rfl,hs⟩:=hv;have hm:=Av hR hC;have hl:=hp.lt;have hC0:0<C:=Nat.pos_of_ne_zero fun e=>by rw[e,Nat.mul_zero] at h0; omega
 have hcap:=(SlA.cap hs).2;refine za9 (args:=[.agg #[vi p,vi R,vi C,.slice q A.length c0]]) func116 I ntmps116 (bE I) ?_;refine rZ (bW (bO I) fun b1=>?_);refine bW (aL zl2) fun b2=>?_;refine aT I (SC.scope (rZ (lU (fA gI I bZ I) (lK (qL (v:=.slice q A.length c0) dx I (cO 1 I I)) (lW (cL call96 I (AH E g _ _ A hs oM)) ?_)))));rintro v13 _ _ ⟨rfl,rfl⟩;refine zc9 fun hx=>?_;obtain ⟨w0,hw0⟩:=hx;obtain ⟨b,cE,rfl,hcE⟩:=BZ hw0 (i:=0) rfl oM;rw[hA] at hcE ⊢;refine lU (fA gI I bZ I) (oZ (SO.store1 2 bZ I I I I (by show 3<4; decide) I) ?_);refine tZ (sQ ?_);refine SC.to (g':=g) (s':=rowA encInt 3 (.slice (some ⟨b,0,none⟩) (R * C) cE) A::pt b2 (.cells #[vi 0,vi 0,vi 0,.slice none 0 0] 62 (0,0))::pt b1 (.cells #[vi p,vi R,vi C,.slice (some ⟨b,0,none⟩) (R * C) cE] 62 (0,0))::s) (fun w hw=>hw) ?_;refine rG (lK (qV 2 p4 fD I I I) (lU (za1 I (build203 _ _ _ _ _ _)) (bW (bO I) fun b17=>?_)));refine aT I (sQ ?_);refine SC.to (g':=g) (s':=iI p R C b cE b17 A (rowA encInt 3 (.slice none 0 0) []::pt b2 (.cells #[vi 0,vi 0,vi 0,.slice none 0 0] 62 (0,0))::pt b1 (.cells #[vi p,vi R,vi C,.slice (some ⟨b,0,none⟩) (R * C) cE] 62 (0,0))::s)) (fun w hw=>((pX (p:=p) (R:=R) (C:=C) (v:=.slice (some ⟨b,0,none⟩) (R * C) cE) (ov:=List.replicate 998 0) 0 I ⟨by simp,fun i hi=>.inl (by rw[zg7,List.getElem?_replicate]; split <;> rfl)⟩ hw).nilRow 3 1).perm ((zj7 _ _ _).trans (((zj7 _ _ _).cons _).trans (zj7 _ _ _)))) ?_;refine rG (aT I (sQ (SC.label (tN (sQ (rZ (lU (fA gI I zT3 I) (lK (qL (v:=vi C) iT3 I (cO 4 I I)) (lM I (tZ (bK ?_)))))))))));refine oP (ι:=Nat×List Int×Value×List Nat) (fun z=>[(1,pp b1 0),(2,pp b2 0),(4,pp b17 0),(5,z.2.2.1),(19,vi C),(20,vi z.1)]) (fun _=>g) (fun z=>iI p R C b cE b17 z.2.1 (rowA encInt 3 z.2.2.1 (z.2.2.2.map fun j:Nat=>(j:Int))::pt b2 (.cells #[vi 0,vi 0,vi 0,.slice none 0 0] 62 (0,0))::pt b1 (.cells #[vi p,vi R,vi C,.slice (some ⟨b,0,none⟩) (R * C) cE] 62 (0,0))::s)) (fun z=>z.1≤C∧z.2.1.length=R * C∧(∀ x<R,∀ y<C,0≤atF z.2.1 C x y∧atF z.2.1 C x y<p)∧md p (atF A C) R C (atF z.2.1 C) z.2.2.2 z.1) (fun z=>C - z.1) (0,A,.slice none 0 0,[]) sB I I ⟨zf3 _,hA,hA0,md.start _ _ _⟩ ?_;rintro ⟨c,L,pv,J⟩ ⟨hc,hL,hLp,hE⟩;dsimp only at hc hL hLp hE ⊢;have hJR:=hE.len;refine rZ (yL I (tZ (sQ ?_)));refine iP I (fun hlt=>?_) (fun hlt=>?_)
 ·have hcC:c<C:=oM;refine SC.facts fun hx=>?_;obtain ⟨w1,hw1⟩:=hx;obtain ⟨pq,pc,rfl⟩:=ah hw1 (i:=2) rfl;refine kP (tN (sQ (bK (sW I (aT I (sW I (lU (SU.eq (v':=vi (J.length:Nat)) (eN ak I) (by rw[ze3])) ?_)))))));refine aT I (sW I (aT I (bK ?_)));refine oP (ι:=Nat) (fun i=>[(1,pp b1 0),(2,pp b2 0),(4,pp b17 0),(5,.slice pq (J.map fun j:Nat=>(j:Int)).length pc),(6,vi c),(7,vi J.length),(8,vi i),(19,vi C),(20,vi c)]) (fun _=>g) (fun _=>iI p R C b cE b17 L (rowA encInt 3 (.slice pq (J.map fun j:Nat=>(j:Int)).length pc) (J.map fun j:Nat=>(j:Int))::pt b2 (.cells #[vi 0,vi 0,vi 0,.slice none 0 0] 62 (0,0))::pt b1 (.cells #[vi p,vi R,vi C,.slice (some ⟨b,0,none⟩) (R * C) cE] 62 (0,0))::s)) (fun i=>J.length≤i∧i≤R∧∀ x,J.length≤x→x<i→atF L C x c=0) (fun i=>R - i) J.length sB I I ⟨lR _,hJR,fun x h1 h2=>by omega⟩ ?_;rintro i ⟨hi1,hi2,hiz⟩;refine sQ (sW I (lU (fA gI I zT3 I) (lK (qL (v:=vi R) iT3 I (cO 4 I I)) (yL I (tZ ?_)))));refine iP I (fun hlt2=>?_) (fun hlt2=>?_)
  ·have hiR:i<R:=oM;have hin1:=kC (C:=C) hiR;have hin2:(i+1) * C=i * C+C:=by rw[Nat.add_mul,Nat.one_mul]
   have gi:=jr hL hiR hcC;have hb0:=hLp i hiR c hcC;refine kP (tN (sQ (bK (sQ (sW I (lM I (lW (cL call155 I (dQ E g _ p R C b cE b17 i L hR hC hC0 hiR hcE)) ?_)))))));rintro _ _ _ ⟨rfl,rfl,rfl⟩;unfold iI;refine lM I (lU (SU.eq (v':=.pointer (some ⟨b,0+(i * C+c) * 1,none⟩)) (iA ak zT3 I I I oM (by simp only[jL,slen]; omega)) (eH (by simp only[Int.toNat_natCast]; omega))) ?_);refine lK (eB (j:=i * C+c) iT3 I (zb5 0 I) gi I) (yE I (tZ ?_));refine iP I (fun hz=>?_) (fun hz=>?_)
   ·refine xI (tX (bX (tN (rG (lM I (yD I (lA I (nL ?_))))))));exact gA (i+1) sB I I ⟨oM,oM,fun x h1 h2=>by
     by_cases e:x=i
     ·rw[e]; exact hz
     ·exact hiz x h1 oM⟩ oM
   ·have hJi:J.length<R:=oM;have hat1:=kC (C:=C) hJi;have hat2:(J.length+1) * C=J.length * C+C:=by rw[Nat.add_mul,Nat.one_mul]
    refine kP (tN (sW I (lM I (lM I (lW (cL call156 I (zV E g _ p R C b cE b17 J.length i L hR hC hC0 hJi hiR hcE hL)) ?_)))));rintro _ _ _ ⟨rfl,L1,rfl,hL1,hat⟩;have ga:=jr hL1 hJi hcC;rw[hat _ hJi c hcC,FG] at ga;have hL1p:∀ x<R,∀ y<C,0≤atF L1 C x y∧atF L1 C x y<p:=(fun x hx y hy=>by rw[hat x hx y hy]; exact hLp _ (G7 hJi hiR hx) y hy);refine tZ (sQ ?_);refine dW [15] [(0,2),(1,2),(3,2),(4,2),(5,2),(7,2),(11,2),(12,1),(2,0),(6,0),(8,2),(9,1),(10,0),(13,2),(14,2),(15,0)] zd9 kR ?_;refine yM I (yM I (yM I (yM I (yM I (yM I (pU I (fA gI I zT3 I) (pK I (qL (v:=vi p) iT3 I (cO 4 I I)) (SP.o I (cL call155 I (dQ E g _ p R C b cE b17 J.length L1 hR hC hC0 hJi hcE)) dC (.inr iR) ?_))))))));rintro _ _ _ ⟨rfl,rfl,rfl⟩;refine SP.o I (cL call155 I (dQ E g _ p R C b cE b17 J.length L1 hR hC hC0 hJi hcE)) dC (.inr iR) ?_;rintro _ _ _ ⟨rfl,rfl,rfl⟩;refine pU I (SU.eq (v':=.pointer (some ⟨b,0+(J.length * C+c) * 1,none⟩)) (iA ak zT3 I I I oM (by simp only[jL,slen]; omega)) (eH (by simp only[Int.toNat_natCast]; omega))) ?_;refine pK I (eB (j:=J.length * C+c) iT3 I (zb5 0 I) ga I) (SP.o I (cL call158 I (vq E g _ p (atF L C i c) hp R C b cE b17 L1 oM hb0.2)) dC (.inr iR) ?_);rintro _ _ _ ⟨⟨o,rfl,ho0,ho1,ho2⟩,rfl,rfl⟩;refine pU I (za1 I (build208 _ _ _ _ _)) (pU I (SU.mkFuncB I) (SP.o I (cL call157 I (rA E g _ p R C b cE b17 J.length L1 hR hC hC0 hJi hcE hL1 _ _ (fun _ n=>n * o % p) fun L' _ _ k hk=>wQ E g _ p o _ k hl.1 hl.2 oM ho1 (hL1p _ hJi k hk).1 (hL1p _ hJi k hk).2)) dC (.inl dC) ?_));rintro _ _ _ ⟨rfl,L2,rfl,hL2,hat2'⟩;refine pN (tN (sQ (rZ (lU (fA gI I zT3 I) (lK (qL (v:=vi R) iT3 I (cO 4 I I)) (lM I (tZ (bK ?_))))))));have hL2p:∀ x<R,∀ y<C,0≤atF L2 C x y∧atF L2 C x y<p:=fun x hx y hy=>by
     rw[hat2' x hx y hy];split
     ·exact oe hl.1
     ·exact hL1p x hx y hy
    refine oP (ι:=Nat×List Int) (fun z=>[(1,pp b1 0),(2,pp b2 0),(4,pp b17 0),(5,.slice pq (J.map fun j:Nat=>(j:Int)).length pc),(6,vi c),(7,vi J.length),(19,vi C),(20,vi c),(60,vi R),(61,vi z.1)]) (fun _=>g) (fun z=>iI p R C b cE b17 z.2 (rowA encInt 3 (.slice pq (J.map fun j:Nat=>(j:Int)).length pc) (J.map fun j:Nat=>(j:Int))::pt b2 (.cells #[vi 0,vi 0,vi 0,.slice none 0 0] 62 (0,0))::pt b1 (.cells #[vi p,vi R,vi C,.slice (some ⟨b,0,none⟩) (R * C) cE] 62 (0,0))::s)) (fun z=>z.1≤R∧z.2.length=R * C∧∀ x<R,∀ y<C,atF z.2 C x y=if x<z.1 then elG p L2 C J.length c x y else atF L2 C x y) (fun z=>R - z.1) (0,L2) sB I I ⟨zf3 _,hL2,fun x _ y _=>by simp⟩ ?_;rintro ⟨k,M⟩ ⟨hk,hM,hMz⟩;dsimp only at hk hM hMz ⊢;refine rZ (yL I (tZ (sQ ?_)));refine iP I (fun hlt3=>?_) (fun hlt3=>?_)
    ·have hkR:k<R:=oM;have hk1:=kC (C:=C) hkR;have hk2:(k+1) * C=k * C+C:=by rw[Nat.add_mul,Nat.one_mul]
     have gk:=jr hM hkR hcC;rw[hMz k hkR c hcC,zf6 (Nat.lt_irrefl k)] at gk;have hkp:=hL2p k hkR;have hkc:=hkp c hcC;have hrowat:∀ y<C,atF M C J.length y=atF L2 C J.length y:=fun y hy=>by
      rw[hMz _ hJi y hy];unfold elG;split
      ·rw[zf6 fun q=>q.1 rfl]
      ·rfl
     have hstep:∀ M2:List Int,(∀ x<R,∀ y<C,atF M2 C x y=if x=k then elG p L2 C J.length c k y else atF M C x y)→∀ x<R,∀ y<C,atF M2 C x y=if x<k+1 then elG p L2 C J.length c x y else atF L2 C x y:=fun M2 h x hx y hy=>by
      rw[h x hx y hy];by_cases e:x=k
      ·subst e;rw[zf7 rfl,zf7 (Nat.lt_succ_self _)]
      ·rw[zf6 e,hMz x hx y hy];by_cases e2:x<k
       ·rw[zf7 e2,zf7 (Nat.lt_succ_of_lt e2)]
       ·rw[zf6 e2,zf6 (show ¬ x<k+1 by omega)]
     by_cases hne:k=J.length
     ·refine kP (tN (sQ (bK (sW I (aT I (sW I (lM I (lW (cL call155 I (dQ E g _ p R C b cE b17 k M hR hC hC0 hkR hcE)) ?_))))))));rintro _ _ _ ⟨rfl,rfl,rfl⟩;unfold iI;refine lM I (lU (SU.eq (v':=.pointer (some ⟨b,0+(k * C+c) * 1,none⟩)) (iA ak zT3 I I I oM (by simp only[jL,slen]; omega)) (eH (by simp only[Int.toNat_natCast]; omega))) ?_);refine lK (eB (j:=k * C+c) iT3 I (zb5 0 I) gk I) (aT I (sW I (lM I (lU (SU.eq (v':=vb false) (nQ I I) (zd8 vb (zf4 oM))) (lM I (yA I (yA I (yF I (tZ (cF I (kP (bN (tN (rG (yD I (lM I (nL ?_)))))))))))))))));exact gA (k+1,M) sB I I ⟨by dsimp only; omega,hM,hstep M fun x hx y hy=>by
       by_cases e:x=k
       ·subst e;rw[zf7 rfl,hMz x hx y hy,zf6 (Nat.lt_irrefl x)];unfold elG;rw[zf6 fun q=>q.1 hne]
       ·rw[zf6 e]⟩ (by dsimp only; omega)
     ·by_cases hpos:0<atF L2 C k c
      ·refine kP (tN (sQ (bK (sW I (aT I (sW I (lM I (lW (cL call155 I (dQ E g _ p R C b cE b17 k M hR hC hC0 hkR hcE)) ?_))))))));rintro _ _ _ ⟨rfl,rfl,rfl⟩;unfold iI;refine lM I (lU (SU.eq (v':=.pointer (some ⟨b,0+(k * C+c) * 1,none⟩)) (iA ak zT3 I I I oM (by simp only[jL,slen]; omega)) (eH (by simp only[Int.toNat_natCast]; omega))) ?_);refine lK (eB (j:=k * C+c) iT3 I (zb5 0 I) gk I) (aT I (sW I (lM I (lU (SU.eq (v':=vb true) (nQ I I) (zd8 vb (zf5 oM))) (lM I (yC I (lY I I I (SU.eq (v':=vb true) (gR I I) (zd8 vb (zf5 hpos))) (yP I (tZ (cT I ?_))))))))));refine dW [14] [(0,2),(1,2),(3,2),(4,2),(6,2),(7,1),(8,2),(9,2),(10,2),(11,1),(2,0),(5,0),(12,2),(13,2),(14,0)] zd9 kR ?_;refine yM I (yM I (yM I (yM I (pU I (fA gI I zT3 I) (pK I (qL (v:=vi p) iT3 I (cO 4 I I)) (yM I (pU I (sU I I oM) (pU I (fA gI I zT3 I) (pK I (qL (v:=vi p) iT3 I (cO 4 I I)) (SP.o I (cL call155 I (dQ E g _ p R C b cE b17 k M hR hC hC0 hkR hcE)) dC (.inr iR) ?_))))))))));rintro _ _ _ ⟨rfl,rfl,rfl⟩;refine SP.o I (cL call155 I (dQ E g _ p R C b cE b17 J.length M hR hC hC0 hJi hcE)) dC (.inr iR) ?_;rintro _ _ _ ⟨rfl,rfl,rfl⟩;refine pU I (za1 I (build208 _ _ _ _ _)) (pU I (SU.mkFuncB I) (SP.o I (cL call157 I (rA E g _ p R C b cE b17 k M hR hC hC0 hkR hcE hM _ _ (fun y n=>(n+atF L2 C J.length y * (p - atF L2 C k c)) % p) fun L' hL' hrow y hy=>by have e1:atF L' C J.length y=atF L2 C J.length y:=(hrow _ hJi (fun e=>hne e.symm) y hy).trans (hrowat y hy); have e2:atF M C k y=atF L2 C k y:=(hMz k hkR y hy).trans (zf6 (Nat.lt_irrefl k)); have h3:=CP E g (rowA encInt 3 (.slice pq (J.map fun j:Nat=>(j:Int)).length pc) (J.map fun j:Nat=>(j:Int))::pt b2 (.cells #[vi 0,vi 0,vi 0,.slice none 0 0] 62 (0,0))::pt b1 (.cells #[vi p,vi R,vi C,.slice (some ⟨b,0,none⟩) (R * C) cE] 62 (0,0))::s) p (p - atF L2 C k c) (atF M C k y) R C b cE b17 J.length y L' hl.1 hl.2 (by have:=(hkp c hcC).2; omega) oM (by rw[e2]; exact (hkp y hy).1) (by rw[e2]; exact (hkp y hy).2) hL' hJi hy (by rw[e1]; exact (hL2p _ hJi y hy).1) (by rw[e1]; exact (hL2p _ hJi y hy).2) hR hC; rw[e1] at h3; exact h3)) dC (.inl dC) ?_));rintro _ _ _ ⟨rfl,M2,rfl,hM2,hat3⟩;refine pN (bN (tN (rG (yD I (lM I (nL ?_))))));exact gA (k+1,M2) sB I I ⟨by dsimp only; omega,hM2,hstep M2 fun x hx y hy=>by
        rw[hat3 x hx y hy];split
        ·rename_i e;subst e;unfold elG;rw[zf7 ⟨hne,hpos⟩,hMz x hkR y hy,zf6 (Nat.lt_irrefl x)]
        ·rfl⟩ (by dsimp only; omega)
      ·refine kP (tN (sQ (bK (sW I (aT I (sW I (lM I (lW (cL call155 I (dQ E g _ p R C b cE b17 k M hR hC hC0 hkR hcE)) ?_))))))));rintro _ _ _ ⟨rfl,rfl,rfl⟩;unfold iI;refine lM I (lU (SU.eq (v':=.pointer (some ⟨b,0+(k * C+c) * 1,none⟩)) (iA ak zT3 I I I oM (by simp only[jL,slen]; omega)) (eH (by simp only[Int.toNat_natCast]; omega))) ?_);refine lK (eB (j:=k * C+c) iT3 I (zb5 0 I) gk I) (aT I (sW I (lM I (lU (SU.eq (v':=vb true) (nQ I I) (zd8 vb (zf5 oM))) (lM I (yC I (lY I I I (SU.eq (v':=vb false) (gR I I) (zd8 vb (zf4 hpos))) (yP I (tZ (cF I (kP (bN (tN (rG (yD I (lM I (nL ?_)))))))))))))))));exact gA (k+1,M) sB I I ⟨by dsimp only; omega,hM,hstep M fun x hx y hy=>by
        by_cases e:x=k
        ·subst e;rw[zf7 rfl,hMz x hx y hy,zf6 (Nat.lt_irrefl x)];unfold elG;rw[zf6 fun q=>hpos q.2]
        ·rw[zf6 e]⟩ (by dsimp only; omega)
    ·have hkk:k=R:=oM;subst hkk;have hpiv:=EB hE hcC hi1 hiR (fun x hx y hy=>(hLp x hx y hy).1) ho2 hat (fun x hx y hy=>hat2' x hx y hy) (fun x hx y hy=>by rw[hMz x hx y hy,zf7 hx]);unfold iI;refine xI (tX (tX (bX (tN (sW I (lM I (lW (bS sty25 I I I (ae ⟨I,trivial⟩) dC) ?_)))))));rintro _ _ _ ⟨b95,rfl,rfl,rfl⟩;refine lW (aP (e:=encInt) (l:=J.map fun j:Nat=>(j:Int)) 2 (c:Int) sty25 I I I I I (by rw[ze3]; omega) (by rw[ze3]; omega)) ?_;rintro v96 _ _ ⟨rfl,rfl⟩;refine aT I (xI (ST.blockO dC (tX (tX (ST.blockO dC (bX (tN (rG (yD I (lM I (nL ?_)))))))))));refine ST.to (g':=g) (s':=iI p k C b cE b17 M (rowA encInt 3 v96 ((J++[c]).map fun j:Nat=>(j:Int))::pt b2 (.cells #[vi 0,vi 0,vi 0,.slice none 0 0] 62 (0,0))::pt b1 (.cells #[vi p,vi k,vi C,.slice (some ⟨b,0,none⟩) (k * C) cE] 62 (0,0))::s)) (fun w hw=>by rw[zg2]; exact hw) ?_;exact gA (c+1,M,v96,J++[c]) sB I I ⟨by dsimp only; omega,hM,fun x hx y hy=>by
      dsimp only;rw[hMz x hx y hy,zf7 hx];unfold elG;split
      ·exact oe hl.1
      ·exact hL2p x hx y hy,hpiv⟩ (by dsimp only; omega)
  ·refine xI (tX (tX (bX (bN (tN (rG (yD I (lM I (nL ?_)))))))));have hiR:i=R:=oM;subst hiR;exact gA (c+1,L,_,J) sB I I ⟨by dsimp only; omega,hL,hLp,hE.none fun x h1 h2=>by
    rw[hiz x h1 h2];exact .refl _⟩ (by dsimp only; omega)
 ·have hcC:c=C:=oM;subst hcC;unfold iI;refine xI (tX (tX (bX (tN (sW I (lU (nC I) (lU (fA lT I fD I) (lK (SQ.loadAggAt (b:=b17) (o:=0) (vs:=[vi p,vi R,vi c,.slice (some ⟨b,0,none⟩) (R * c) cE]) p4 fD I I (fun j x hj=>by rw[Nat.zero_add]; exact rN (p:=p) (R:=R) (C:=c) (v:=.slice (some ⟨b,0,none⟩) (R * c) cE) 1 I hj)) ?_))))))));refine lM I (oZ (sK 3 fD I I I I I sB) (aT I (rE (ST.scopeR (ST.perm (s':=rowA encInt 3 pv (J.map fun j:Nat=>(j:Int))::rowA encInt 3 (.slice (some ⟨b,0,none⟩) (R * c) cE) L::Au b17 p R c (.slice (some ⟨b,0,none⟩) (R * c) cE)::pt b2 (.cells #[vi p,vi R,vi c,.slice (some ⟨b,0,none⟩) (R * c) cE] 62 (0,0))::pt b1 (.cells #[vi p,vi R,vi c,.slice (some ⟨b,0,none⟩) (R * c) cE] 62 (0,0))::s) (((zj7 _ _ _).cons _).trans (zj7 _ _ _)) ?_)))));refine fT fun g5 hle5 hs5=>?_;exact ST.retCD1 2 s (.inl I) results116 I I p4 fD I I uR ⟨I,hle5,J,_,_,I,⟨_,_,_,I⟩,hs5,(hE.rk hp.fld).symm,hJR⟩
set_option maxHeartbeats 1000000
theorem Gc {g:PH}{s:Own}{bm:Nat}{p:Int}{R C o:Nat}{v u:Value}{ov:List Int}(i:Nat)(hi:s[i]?=some (pt bm (.cells (mS p R C v ov) 203 (0,0))))(hu:[vi p,vi R,vi C,v][o]?=some u):eJ g s ⟨bm,o,none⟩ u:=eJ.own i hi (by
 have ho:o<4:=(zf2.1 hu).1;rw[← hu];unfold mS
 match o,ho with
 | 0,_=>rfl
 | 1,_=>rfl
 | 2,_=>rfl
 | 3,_=>rfl)
theorem vm (E:World)(g:PH)(s:Own)(v:Value)(p:Int)(R C:Nat)(hR:R≤400)(hC:C≤400)(h0:R * C=0)(A:List Int)(hA:A.length=R * C)(hv:FmR g v p R C A) :
  Ctr Tryz.prog E 116 #[v] g s (fun x g' s'=>s=s'∧Le g g'∧∃ (m y:Value),x = .tuple #[.agg #[vi p,vi R,vi C,m],y]∧(∃ q n k,m = .slice q n k)∧bT g' y []):=by
 obtain ⟨q,c0,rfl,hs⟩:=hv;have hA0:A=[]:=List.length_eq_zero_iff.1 oM;subst hA0;have hRC:R=0∨C=0:=Nat.mul_eq_zero.1 h0;refine za9 (args:=[.agg #[vi p,vi R,vi C,.slice q 0 c0]]) func116 I ntmps116 (bE I) ?_;refine rZ (bW (bO I) fun b1=>?_);refine bW (aL zl2) fun b2=>?_;refine aT I (SC.scope (rZ (lU (fA gI I bZ I) (lK (qL (v:=.slice q 0 c0) dx I (cO 1 I I)) (lW (cL call96 I (AH E g _ _ [] hs dC)) ?_)))));rintro v13 _ _ ⟨rfl,rfl⟩;refine zc9 fun hx=>?_;obtain ⟨w0,hw0⟩:=hx;obtain ⟨q1,cE,rfl⟩:=ah hw0 (i:=0) rfl;refine lU (fA gI I bZ I) (oZ (SO.store1 2 bZ I I I I (by show 3<4; decide) I) ?_);refine tZ (sQ ?_);refine SC.to (g':=g) (s':=pt b2 (.cells #[vi 0,vi 0,vi 0,.slice none 0 0] 62 (0,0))::pt b1 (.cells #[vi p,vi R,vi C,.slice q1 0 cE] 62 (0,0))::s) (fun w hw=>hw.sublist (.cons _ (.refl _))) ?_;refine rG (lK (qV 1 p4 fD I I I) (lU (za1 I (build203 _ _ _ _ _ _)) (bW (bO I) fun b17=>?_)));refine aT I (rZ (aT I (sQ (SC.label (tN (sQ (rZ (lU (fA gI I zT3 I) (lK (qL (v:=vi C) iT3 I (cO 2 I I)) (lM I (tZ (bK ?_))))))))))));refine oP (ι:=Nat) (fun z=>[(1,pp b1 0),(2,pp b2 0),(4,pp b17 0),(5,.slice none 0 0),(19,vi C),(20,vi z)]) (fun _=>g) (fun _=>pt b17 (.cells (mS p R C (.slice q1 0 cE) (List.replicate 998 0)) 203 (0,0))::pt b2 (.cells #[vi 0,vi 0,vi 0,.slice none 0 0] 62 (0,0))::pt b1 (.cells #[vi p,vi R,vi C,.slice q1 0 cE] 62 (0,0))::s) (fun z=>z≤C) (fun z=>C - z) 0 sB I I (zf3 _) ?_;rintro c hc;refine rZ (yL I (tZ (sQ ?_)));refine iP I (fun hlt=>?_) (fun hlt=>?_)
 ·have hR0:R=0:=oM;subst hR0;refine kP (tN (sQ (bK (sW I (aT I (sW I (lU (eN ak I) (aT I (sW I (aT I (bK ?_)))))))))));refine oP (ι:=Nat) (fun i=>[(1,pp b1 0),(2,pp b2 0),(4,pp b17 0),(5,.slice none 0 0),(6,vi c),(7,vi 0),(8,vi 0),(19,vi C),(20,vi c)]) (fun _=>g) (fun _=>pt b17 (.cells (mS p 0 C (.slice q1 0 cE) (List.replicate 998 0)) 203 (0,0))::pt b2 (.cells #[vi 0,vi 0,vi 0,.slice none 0 0] 62 (0,0))::pt b1 (.cells #[vi p,vi (0:Nat),vi C,.slice q1 0 cE] 62 (0,0))::s) (fun _=>True) (fun i=>0) 0 sB I I trivial ?_;rintro i _;refine sQ (sW I (lU (fA gI I zT3 I) (lK (qL (v:=vi (0:Nat)) iT3 I (cO 2 I I)) (yL I (tZ ?_)))));refine iP I (fun hlt2=>?_) (fun hlt2=>?_)
  ·exact absurd hlt2 dC
  ·refine xI (tX (tX (bX (bN (tN (rG (yD I (lM I (nL ?_)))))))));exact gA (c+1) sB I I oM oM
 ·have hcC:c=C:=oM;subst hcC;refine xI (tX (tX (bX (tN (sW I (lU (nC I) (lU (fA lT I fD I) (lK (SQ.loadAggAt (b:=b17) (o:=0) (vs:=[vi p,vi R,vi c,.slice q1 0 cE]) p4 fD I I (fun j x hj=>by rw[Nat.zero_add]; exact Gc 0 I hj)) ?_))))))));refine lM I (oZ (sK 1 fD I I I I I sB) (aT I (rE (ST.scopeR ?_))));exact ST.retCD1 1 s (.inl I) results116 I I p4 fD I I uR ⟨I,zb7 _,_,_,I,⟨_,_,_,I⟩,zb8 g _⟩
theorem DR {p:Int}(hp:Fld p){R C:Nat}(h:R * C=0)(A:Nat→Nat→Int):rk p A R C=0:=by
 rcases Nat.mul_eq_zero.1 h with rfl | rfl
 ·have:=jn hp A 0 C; omega
 ·have:=vD hp A R 0; omega
theorem vk (E:World)(g:PH)(s:Own)(v:Value)(p:Int)(hp:Fp p)(R C:Nat)(hR:R≤400)(hC:C≤400)(A:List Int)(hA:A.length=R * C)(hv:FmR g v p R C A)(hA0:∀ x<R,∀ y<C,0≤atF A C x y∧atF A C x y<p) :
  Ctr Tryz.prog E 116 #[v] g s (fun x g' s'=>s=s'∧Le g g'∧∃ (J:List Nat) (m y:Value),x = .tuple #[.agg #[vi p,vi R,vi C,m],y]∧(∃ q n k,m = .slice q n k)∧bT g' y (J.map fun j:Nat=>(j:Int))∧J.length=rk p (atF A C) R C∧J.length≤R):=by
 by_cases h0:R * C=0
 ·refine (vm E g s v p R C hR hC h0 A hA hv).mono ?_;rintro x g' s' ⟨h1,h2,m,y,h3,h4,h5⟩;exact⟨h1,h2,[],m,y,h3,h4,h5,(DR hp.fld h0 _).symm,zf3 _⟩
 ·exact vn E g s v p hp R C hR hC (Nat.pos_of_ne_zero h0) A hA hv hA0
theorem GG {A:List Int}{R C x y:Nat}(hA:A.length=R * C)(hx:x<R)(hy:y<C):atF A C x y∈A:=zf8 (jr hA hx hy)
theorem tf (E:World)(g:PH)(s:Own)(v:Value)(p:Int)(hp:Fp p)(R C:Nat)(hR:R≤400)(hC:C≤400)(A:List Int)(hA:A.length=R * C)(hv:FmR g v p R C A)(hA0:∀ x∈A,0≤x∧x<p) :
  Ctr Tryz.prog E 68 #[v] g s (fun x g' s'=>s=s'∧Le g g'∧∃ (J:List Nat) (m y:Value),x = .tuple #[.agg #[vi p,vi R,vi C,m],y]∧(∃ q n k,m = .slice q n k)∧bT g' y (J.map fun j:Nat=>(j:Int))∧J.length=rk p (atF A C) R C∧J.length≤R):=by
 have hv0:=hv;obtain ⟨q,c0,rfl,hs⟩:=hv;refine za9 (args:=[.agg #[vi p,vi R,vi C,.slice q A.length c0]]) func68 I ntmps68 (bE I) ?_;refine rZ (bW (bO I) fun b1=>?_);refine bW (aL zl2) fun b2=>?_;refine aT I (sQ (rZ (lK (qV 1 p4 fD I I I) (lW (cL call115 I (wR E g _ _ p hp R C hR hC A hA hv0 hA0)) ?_))));rintro _ _ _ ⟨rfl,rfl,rfl⟩;refine lU (SU.not I) (tZ (cF I (kP (tN (rZ (lK (qV 1 p4 fD I I I) (lW (cL call116 I (vk E g _ _ p hp R C hR hC A hA hv0 fun x hx y hy=>hA0 _ (GG hA hx hy))) ?_)))))));rintro _ g1 _ ⟨rfl,hle1,J,_,y,rfl,⟨mq,mn,mk,rfl⟩,hy1,hJ,hJR⟩;refine yX I (yX I (oZ (sK 0 fD I I I I I sB) (aT I (rE ?_))));exact ST.retCD1 0 s (.inl I) results68 I I p4 fD I I uR ⟨I,hle1,J,_,y,I,⟨mq,mn,mk,I⟩,hy1,hJ,hJR⟩
theorem rz (E:World)(g:PH)(s:Own)(v:Value)(p:Int)(hp:Fp p)(R C:Nat)(hR:R≤400)(hC:C≤400)(A:List Int)(hA:A.length=R * C)(hv:FmR g v p R C A)(hA0:∀ x∈A,0≤x∧x<p) :
  Ctr Tryz.prog E 31 #[v] g s (fun x g' s'=>s=s'∧Le g g'∧x=vi (rk p (atF A C) R C:Nat)):=by
 have hv0:=hv;obtain ⟨q,c0,rfl,hs⟩:=hv;refine za9 (args:=[.agg #[vi p,vi R,vi C,.slice q A.length c0]]) func31 I ntmps31 (bE I) ?_;refine rZ (bW (bO I) fun b1=>?_);refine aT I (rZ (lK (qV 0 p4 fD I I I) (lW (cL call68 I (tf E g _ _ p hp R C hR hC A hA hv0 hA0)) ?_)));rintro _ g1 _ ⟨rfl,hle1,J,_,y,rfl,⟨mq,mn,mk,rfl⟩,hy1,hJ,hJR⟩;obtain ⟨yp,yc,rfl⟩:=za2 hy1;refine lM I (yX I (yX I (bW (aL zl2) fun b3=>?_)));refine oZ (sK 0 fD I I I I I sB) (aT I (sW I (lU (SU.eq (v':=vi (rk p (atF A C) R C:Nat)) (eN ak I) (by rw[ze3,hJ])) ?_)));refine aT I (rE (dR (s':=s) uR ?_));exact za6 (.inl I) results31 I ⟨I,hle1,I⟩
def elM (M:List (List Int))(i j:Nat):Int:=(M.getD i []).getD j 0
theorem Bp {M:List (List Int)}{i j:Nat}(hi:i<M.length)(hj:j<M[i].length):elM M i j=M[i][j]:=by
 have h1:M.getD i []=M[i]:=by
  rw[zg7,gE hi];rfl
 unfold elM;rw[h1,zg7,gE hj];rfl
theorem Ey (E:World)(g:PH)(s:Own)(v:Value)(p:Int)(hp:Fp p)(M:List (List Int))(C:Nat)(hv:aF g v M)(hR:M.length≤400)(hC:C≤400)(hM:∀ r∈M,r.length=C)(hM0:M=[]→C=0)(hb:∀ r∈M,∀ x∈r,x.natAbs≤1000000) :
  Ctr Tryz.prog E 133 #[vi p,v] g s (fun x g' s'=>s=s'∧Le g g'∧∃ A,FmR g' x p M.length C A∧A.length=M.length * C∧(∀ y∈A,0≤y∧y<p)∧∀ i<M.length,∀ j<C,atF A C i j=elM M i j % p):=by
 obtain ⟨rs,hrs,hall⟩:=hv;have hlen:=hall.length;have hm:=Av (show rs.length≤400 by omega) hC;have hl:=hp.lt;obtain ⟨q,c,rfl⟩:=za2 hrs;have row:∀ i (hi:i<rs.length),∃ (hi':i<M.length) (rp:Option Addr) (rc:Nat),rs[i]?=some ⟨rp,C,rc⟩∧bT g (.slice rp C rc) M[i]∧M[i].length=C:=fun i hi=>by
  have hi':i<M.length:=oM;have hx:=hM _ (gM hi');have h1:=hall.get (gE hi') (gE hi);have h2:=h1.len;generalize hr:rs[i]=r at *;obtain ⟨rp,rn,rc⟩:=r;dsimp only at h2;have h3:rn=C:=oM;subst h3;exact⟨hi',rp,rc,by rw[← hr]; exact gE hi,h1,hx⟩
 refine za9 (args:=[vi p,.slice q rs.length c]) func133 I ntmps133 (bE I) ?_;refine rZ (bW (aL zl2) fun b4=>?_);refine tZ (rZ (aT I (sQ (sW I (lU (eN bH I) (lM I (tZ (bK ?_))))))));refine oP (ι:=Nat) (fun k=>[(0,vi p),(1,.slice q rs.length c),(4,pp b4 0),(5,vi (if k=0 then 0 else C:Nat)),(13,.slice q rs.length c),(14,vi rs.length),(15,vi k)]) (fun _=>g) (fun _=>pt b4 (.cells #[vi 0,vi 0,vi 0,.slice none 0 0] 62 (0,0))::s) (fun k=>k≤rs.length) (fun k=>rs.length - k) 0 sB I I (zf3 _) ?_;rintro k hk;refine rZ (yL I (tZ (sQ ?_)));refine iP I (fun hlt=>?_) (fun hlt=>?_)
 ·have hkl:k<rs.length:=oM;obtain ⟨hi',rp,rc,hgr,hxs,hxl⟩:=row k hkl;have hb1:=za4 hrs oM;refine kP (tN (sQ (bK (rZ (lU (iA bH bZ I I hb1 oM sL) (lK (eB (u:=.slice rp C rc) dx I (za5 hrs) hgr I) (aT I (rG (lM I (lM I (lU (eN ak I) (lU (SU.eq (v':=vi (C:Nat)) (SU.maxF I I) (zd8 vi (by split <;> omega))) ?_))))))))))));refine lA I (nL (bN (tN (rG (yD I (lM I (nL ?_)))))));exact gA (k+1) ⟨I,I,I,by rw[zf6 (Nat.succ_ne_zero k)]; rfl,rfl,rfl,rfl,trivial⟩ rfl rfl oM oM
 ·have hkk:k=rs.length:=oM;subst hkk;have hC1:(if rs.length=0 then 0 else C)=C:=by
   split
   ·rename_i e;exact (hM0 (List.length_eq_zero_iff.1 oM)).symm
   ·rfl
  rw[hC1];refine xI (tX (tX (bX (tN (sW I (lM I (lU (eN bH I) (lM I (lW (cL call69 I (um E g _ p hp rs.length C oM hC)) ?_)))))))));rintro _ _ _ ⟨rfl,bz,rfl,rfl⟩;refine bW (aL zl2) fun b8=>?_;refine oZ (sK 0 fD I I I I I sB) (tZ (sQ (sQ ?_)));refine SC.to (g':=g) (s':=pt b8 (.cells #[vi p,vi rs.length,vi C,.slice (some ⟨bz,0,none⟩) (rs.length * C) (rs.length * C)] 62 (0,0))::rowA encInt 3 (.slice (some ⟨bz,0,none⟩) (rs.length * C) (rs.length * C)) (List.replicate (rs.length * C) 0)::pt b4 (.cells #[vi 0,vi 0,vi 0,.slice none 0 0] 62 (0,0))::s) (fun w hw=>hw) ?_;refine rG (lU (fA gI I bZ I) (lK (qL (v:=.slice (some ⟨bz,0,none⟩) (rs.length * C) (rs.length * C)) dx I (cO 0 I I)) (lU (eN ak I) (yE I (tZ ?_)))));refine iP I (fun he=>?_) (fun he=>?_)
  ·refine rZ (lK (qV 0 p4 fD I I I) (oZ (sK 2 fD I I I I I sB) (tZ (rE (tR ?_)))));have hz:rs.length * C=0:=oM;refine ST.perm (zj7 _ _ _) (fT fun g5 hle5 hs5=>?_);exact ST.retCD 1 s (.inl I) results133 I p4 fD I I uR ⟨I,hle5,List.replicate (rs.length * C) 0,⟨some ⟨bz,0,none⟩,rs.length * C,by rw[List.length_replicate,hlen]; rfl,by rw[List.length_replicate]; exact hs5⟩,by rw[List.length_replicate,hlen],fun y hy=>by rw[hz] at hy; simp at hy,fun i hi j hj=>by
    have:=jq hi hj;rw[hlen] at this;omega⟩
  ·have hpos:0<rs.length * C:=oM;refine kP (tN (sQ (sW I (lU (eN bH I) (lM I (tZ (bK ?_)))))));refine oP (ι:=Nat×List Int) (fun z=>[(0,vi p),(1,.slice q rs.length c),(4,pp b4 0),(5,vi C),(8,pp b8 0),(34,.slice q rs.length c),(35,vi rs.length),(36,vi z.1)]) (fun _=>g) (fun z=>pt b8 (.cells #[vi p,vi rs.length,vi C,.slice (some ⟨bz,0,none⟩) (rs.length * C) (rs.length * C)] 62 (0,0))::rowA encInt 3 (.slice (some ⟨bz,0,none⟩) (rs.length * C) (rs.length * C)) z.2::pt b4 (.cells #[vi 0,vi 0,vi 0,.slice none 0 0] 62 (0,0))::s) (fun z=>z.1≤rs.length∧z.2.length=rs.length * C∧(∀ y∈z.2,0≤y∧y<p)∧∀ x<z.1,∀ y<C,atF z.2 C x y=elM M x y % p) (fun z=>rs.length - z.1) (0,List.replicate (rs.length * C) 0) sB I I ⟨zf3 _,List.length_replicate,fun y hy=>by rw[List.eq_of_mem_replicate hy]; omega,fun x hx=>by omega⟩ ?_;rintro ⟨i,L⟩ ⟨hi,hL,hLp,hz⟩;dsimp only at hi hL hLp hz ⊢;refine rZ (yL I (tZ (sQ ?_)));refine iP I (fun hlt2=>?_) (fun hlt2=>?_)
   ·have hil:i<rs.length:=oM;obtain ⟨hi',rp,rc,hgr,hxs,hxl⟩:=row i hil;have hb1:=za4 hrs oM;have hin1:=kC (C:=C) hil;have hin2:(i+1) * C=i * C+C:=by rw[Nat.add_mul,Nat.one_mul]
    refine kP (tN (sQ (bK (sW I (lU (iA bH bZ I I hb1 oM sL) (lK (eB (u:=.slice rp C rc) dx I (za5 hrs) hgr I) (lA I (aT I (sW I (lU (eN ak I) (lM I (tZ (bK ?_)))))))))))));refine oP (ι:=Nat×List Int) (fun z=>[(0,vi p),(1,.slice q rs.length c),(4,pp b4 0),(5,vi C),(8,pp b8 0),(9,vi i),(34,.slice q rs.length c),(35,vi rs.length),(36,vi i),(41,.slice rp C rc),(42,vi C),(43,vi z.1)]) (fun _=>g) (fun z=>pt b8 (.cells #[vi p,vi rs.length,vi C,.slice (some ⟨bz,0,none⟩) (rs.length * C) (rs.length * C)] 62 (0,0))::rowA encInt 3 (.slice (some ⟨bz,0,none⟩) (rs.length * C) (rs.length * C)) z.2::pt b4 (.cells #[vi 0,vi 0,vi 0,.slice none 0 0] 62 (0,0))::s) (fun z=>z.1≤C∧z.2.length=rs.length * C∧(∀ y∈z.2,0≤y∧y<p)∧(∀ x<i,∀ y<C,atF z.2 C x y=elM M x y % p)∧∀ y<z.1,atF z.2 C i y=elM M i y % p) (fun z=>C - z.1) (0,L) sB I I ⟨zf3 _,hL,hLp,hz,fun y hy=>by omega⟩ ?_;rintro ⟨j,K⟩ ⟨hj,hK,hKp,hz1,hz2⟩;dsimp only at hj hK hKp hz1 hz2 ⊢;refine rZ (yL I (tZ (sQ ?_)));refine iP I (fun hlt3=>?_) (fun hlt3=>?_)
    ·have hjC:j<C:=oM;have hij:=jq hil hjC;have hb2:=za4 hxs oM;have hjx:j<M[i].length:=oM;have hgk:M[i][((j:Nat):Int).toNat]?=some M[i][j]:=gE hjx;have hel:=Bp hi' hjx;have hbx:=hb _ (gM hi') _ (gM hjx);rw[← hel] at hgk hbx;generalize hn:elM M i j=n at *;have hmo:=oe (a:=n) hl.1;have ht:n.tmod p=n % p∨n.tmod p=n % p - p:=by
      rcases Int.le_total 0 n with h | h
      ·left; exact Int.tmod_eq_emod_of_nonneg h
      ·rw[Int.tmod_eq_emod];split
       ·left; omega
       ·right; omega
     have hmm:(n.tmod p+p).tmod p=n % p:=by
      rw[Int.tmod_eq_emod_of_nonneg oM]
      rcases ht with h | h <;> rw[h]
      ·rw[Int.add_emod_right,Int.emod_emod]
      ·rw[Int.sub_add_cancel,Int.emod_emod]
     refine kP (tN (sQ (bK (sW I (lU (iA ak zT3 I I hb2 oM sL) (lK (eB iT3 I (za5 hxs) hgk I) (lA I (aT I ?_))))))));refine dW [15] [(0,2),(1,1),(2,2),(3,2),(4,2),(5,2),(6,2),(7,2),(8,2),(9,2),(10,2),(11,2),(12,2),(13,2),(14,2),(15,0)] zd9 kR ?_;refine pU I (fA gI I bZ I) (pK I (qL (v:=.slice (some ⟨bz,0,none⟩) (rs.length * C) (rs.length * C)) dx I (cO 0 I I)) (yM I (yM I (pU I (SU.eq (v':=vi ((i * C:Nat))) (SU.mulW I I) (zd8 vi (by rw[← Int.natCast_mul]; exact zk8 _ oM))) ?_))));refine yM I (pU I (SU.eq (v':=vi ((i * C+j:Nat))) (aD I I oM) (zd8 vi oM)) (yM I (yM I (pU I (zd4 I I oM) (yM I (pU I (aD I I oM) (yM I (pU I (SU.eq (v':=vi (n % p)) (zd4 I I oM) (zd8 vi hmm)) (pU I (SU.eq (v':=.pointer (some ⟨bz,0+(i * C+j) * 1,none⟩)) (iA ak zT3 I I I oM sL) (eH (by simp only[Int.toNat_natCast]))) ?_)))))))));refine SP.on I (sT (e:=encInt) (a:=n % p) (j:=i * C+j) 1 zT3 I I I (by rw[hK]; exact jq hil hjC) I) (.inl dC) ?_;rintro _ _ _ ⟨rfl,rfl⟩;refine pN (bN (tN (rG (yD I (lM I (nL ?_))))));exact gA (j+1,K.set (i * C+j) (n % p)) sB I I ⟨by dsimp only; omega,by dsimp only; rw[zh9,hK],fun y hy=>by
      rcases List.mem_or_eq_of_mem_set hy with h | h
      ·exact hKp y h
      ·rw[h]; exact hmo,fun x hx y hy=>by
      dsimp only;rw[og hK hil hjC hy,zf6 (fun e=>by omega),hz1 x hx y hy],fun y hy=>by
      dsimp only at hy ⊢;have hyC:y<C:=oM;rw[og hK hil hjC hyC];by_cases e:j=y
      ·subst e;rw[zf7 ⟨rfl,rfl⟩];rw[hn]
      ·rw[zf6 (fun k=>e k.2),hz2 y oM]⟩ (by dsimp only; omega)
    ·have hjC:j=C:=oM;subst hjC;refine xI (tX (tX (bX (bN (tN (rG (yD I (lM I (nL ?_)))))))));exact gA (i+1,K) sB I I ⟨by dsimp only; omega,hK,hKp,fun x hx y hy=>by
      dsimp only at hx;by_cases e:x=i
      ·rw[e]; exact hz2 y hy
      ·exact hz1 x oM y hy⟩ (by dsimp only; omega)
   ·have hii:i=rs.length:=oM;subst hii;refine xI (tX (tX (bX (tN (rZ (lK (qV 0 p4 fD I I I) (oZ (sK 2 fD I I I I I sB) (tZ (rE (ST.perm (zj7 _ _ _) (fT fun g5 hle5 hs5=>?_)))))))))));exact ST.retCD 1 s (.inl I) results133 I p4 fD I I uR ⟨I,hle5,L,⟨some ⟨bz,0,none⟩,rs.length * C,by rw[hL,hlen]; rfl,by rw[hL]; exact hs5⟩,by rw[hL,hlen],hLp,fun x hx y hy=>hz x oM y hy⟩
def tlB (L:List Cl):Nat→List (List Int)→Int→Nat
 | _,[],_=>0
 | k,t::T,id=>(if (cu L t).contains id then 2 ^ k else 0)+tlB L (k+1) T id
theorem AP (L:List Cl)(t:List Int)(id:Int):∀ (T:List (List Int)) (k:Nat),tlB L k (T++[t]) id=tlB L k T id+if (cu L t).contains id then 2 ^ (k+T.length) else 0
 | [],k=>by simp[tlB]
 | u::T,k=>by
  rw[List.cons_append];unfold tlB;rw[AP L t id T (k+1),ze5,Nat.add_assoc,Nat.add_comm 1,Nat.add_assoc]
theorem E5 (L:List Cl)(id:Int):∀ (T:List (List Int)) (k:Nat),tlB L k T id+2 ^ k≤2 ^ (k+T.length)
 | [],k=>by simp[tlB]
 | u::T,k=>by
  have h:=E5 L id T (k+1);have h2:2 ^ (k+1)=2 * 2 ^ k:=by rw[Nat.pow_succ,Nat.mul_comm]
  rw[ze5,show k+(T.length+1)=k+1+T.length by omega];unfold tlB;split <;> omega
theorem rJ (L:List Cl)(id:Int)(T:List (List Int)):tlB L 0 T id<2 ^ T.length:=by
 have:=E5 L id T 0;rw[Nat.zero_add] at this;omega
def eO (l:List Cl)(T:List (List Int)):Int:=if (bg l).2≠0 then (bg l).2 else if (T.length:Int)>6 then 2 else if T.any (fun t=>t.any fun id=>(az (ab l) id).isNone) then 30 else if (ab l).any (fun c=>decide (tlB (ab l) 0 T c.id=0)) then 45 else 0
def bC (b:Nat):List Nat:=(List.range (b+1)).filter fun s=>decide (0<s)&&decide (s &&& b=s)
def fo (s:Nat):List Nat:=(List.range 6).filter fun k=>s.testBit k
def onesB (s:Nat):Nat:=(fo s).length
def sgP (m:Int):Int:=1 - 2 * (m % 2)
def bId (n i s:Nat):Int:=((i * 2 ^ n+s:Nat):Int)
def ixB (L:List Cl)(id:Int):Nat:=lbI (L.map Cl.id) id
def me (L:List Cl)(n i:Nat)(y:Cl)(s:Nat):List ai:=(y.sides.map fun x=>⟨bId n (ixB L x.cell) s,x.sign⟩)++if onesB s≤1 then [] else (fo s).zipIdx.map fun q=>⟨bId n i (s - 2 ^ q.1),sgP (q.2+y.dim)⟩
def aY (L:List Cl)(n i:Nat)(y:Cl)(s:Nat):Cl:=⟨bId n i s,y.dim+onesB s - 1,me L n i y s⟩
def qj (L:List Cl)(T:List (List Int)):List Cl:=L.zipIdx.flatMap fun q=>(bC (tlB L 0 T q.1.id)).map (aY L T.length q.2 q.1)
def dA (L:List Cl)(T:List (List Int)):List Cl:=aa (qj L T)
def jt (n:Nat)(id:Int):Int:=onesB (id.toNat % 2 ^ n) - 1
def iG (l:List Cl)(T:List (List Int)):List Cl:=if eO l T≠0∨(bg (dA (ab l) T)).2≠0 then [] else dA (ab l) T
def d4 (c r:Cl):Int:=(c.sides.map fun q=>if q.cell=r.id then q.sign else 0).sum
section
variable (rf:List Cl→List Cl→Nat)(n:Nat)(B:List Cl)
def kT (a dim:Int):List Cl:=B.filter fun c=>decide (c.dim=dim)&&decide (jt n c.id≤a)
def ow (low dim:Int):List Cl:=B.filter fun c=>decide (c.dim=dim)&&decide (jt n c.id>low)
def eD (a low dim:Int):Int:=(kT n B a dim).length - (rf (kT n B a dim) (ow n B low (dim - 1)):Int)
def sN (a low dim:Int):Int:=eD rf n B (min (max a (-1)) ((n:Int) - 1)) (max low (-1)) dim
def vy (r a b:Int):Int:=sN rf n B a (a - r) (a+b) - sN rf n B (a - 1) (a - r) (a+b) - sN rf n B (a+r - 1) a (a+b+1)+sN rf n B (a+r - 1) (a - 1) (a+b+1)
def ww (D:Nat)(r:Int):List (List Int):=(List.range n).map fun a:Nat=>(List.range D).map fun b:Nat=>vy rf n B r a b
def j7 {α:Type}[DecidableEq α]:List α→List α
 | a::b::l=>if a=b then j7 (b::l) else a::b::l
 | l=>l
def gv {α:Type}[DecidableEq α](l:List α):List α:=(j7 l.reverse).reverse
def jj (D:Nat):List (List (List Int)):=(List.range n).map fun r:Nat=>ww rf n B D ((r:Int)+1)
end
noncomputable def rkP (p:Int) (C R:List Cl):Nat:=rkL p C R d4
def sS (B:List Cl):Bool:=B.any fun c=>decide ((B.filter fun x=>decide (x.dim=c.dim)).length>200)
def dF (l:List Cl)(T:List (List Int))(p:Int):Int:=if gg p=false then 46 else if eO l T≠0 then eO l T else if (bg (dA (ab l) T)).2≠0∨sS (dA (ab l) T)=true then 2 else 0
def dimN (l:List Cl):Nat:=(nW (ab l) (-1)+1).toNat
noncomputable def cQ (l:List Cl) (T:List (List Int)) (p:Int):List (List (List Int)):=if dF l T p≠0 then [] else gv (jj (rkP p) T.length (dA (ab l) T) (dimN l))
def gh (D:Nat)(P:List (List Int)):List Int:=(List.range D).map fun d:Nat=>((P.zipIdx.map fun q=>if q.2≤d then q.1.getD (d - q.2) 0 else 0)).sum
noncomputable def jV (l:List Cl) (T:List (List Int)) (p:Int):List Int:=if (cQ l T p).length=0 then [] else gh (dimN l) ((cQ l T p).getLastD [])
theorem Rt.ix {L:List Cl}(h:Rt L){i:Nat}{c:Cl}(hi:L[i]?=some c):ixB L c.id=i:=by
 have hc:c∈L:=zf8 hi;have h2:(L.map Cl.id).Pairwise (· < ·):=by rw[zk1]; exact h.asc
 rcases rU (tl:=L) (h2.imp fun h=>by omega) c.id with ⟨h1,_⟩ | ⟨d,k,h1,h3,h4⟩
 ·rw[h.find hc] at h1;cases h1
 ·rw[h.find hc] at h1;cases h1;have h5:(L.map Cl.id).contains c.id=true:=by simp; exact⟨c,hc,I⟩
  unfold atC at h3;rw[zf7 h5] at h3;have h6:ixB L c.id=k:=by unfold ixB; omega
  rw[h6];have hi':=zf2.1 hi;have hk':=zf2.1 h4;obtain ⟨a1,a2⟩:=hi';obtain ⟨b1,b2⟩:=hk'
  rcases Nat.lt_trichotomy i k with h | h' | h
  ·have:=zc6.1 (Rt.asc ‹Rt L›) i k a1 b1 h;rw[a2,b2] at this;omega
  ·exact h'.symm
  ·have:=zc6.1 (Rt.asc ‹Rt L›) k i b1 a1 h;rw[a2,b2] at this;omega
theorem Rt.ix_get {L:List Cl}(h:Rt L){c:Cl}(hc:c∈L):L[ixB L c.id]?=some c:=by
 obtain ⟨i,hi,e⟩:=List.mem_iff_getElem.1 hc;have h1:L[i]?=some c:=by rw[gE hi,e]
 rw[h.ix h1];exact h1
theorem Rt.ix_inj {L:List Cl}(h:Rt L){c d:Cl}(hc:c∈L)(hd:d∈L)(e:ixB L c.id=ixB L d.id):c=d:=by
 have h1:=h.ix_get hc;rw[e,h.ix_get hd] at h1;injection h1 with h1
 exact h1.symm
theorem cW {b s:Nat}:s∈bC b↔0<s∧s &&& b=s:=by
 unfold bC;rw[zh1,List.mem_range];simp only[zi9,zj2];constructor
 ·exact fun h=>h.2
 ·intro h;refine⟨?_,h⟩;have:s &&& b≤b:=Nat.and_le_right;omega
theorem oD {a b c:Nat}(h:a &&& b=a)(k:b &&& c=b):a &&& c=a:=by
 rw[← h,Nat.and_assoc,k]
theorem sub_le {a b:Nat}(h:a &&& b=a):a≤b:=by
 have:a &&& b≤b:=Nat.and_le_right;omega
theorem fG {n i s i' s':Nat}(h1:s<2 ^ n)(h2:s'<2 ^ n)(h:bId n i s=bId n i' s'):i=i'∧s=s':=D0 h1 h2 (by unfold bId at h; omega)
def cY (s:Nat):List (Nat×Nat):=if onesB s≤1 then [] else (fo s).zipIdx
def hB (s t:Nat):Nat:=((cY s).filter fun q=>decide (s - 2 ^ q.1=t)).length
def iB (s t:Nat)(d:Int):Int:=((cY s).map fun q=>if s - 2 ^ q.1=t then sgP (q.2+d) else 0).sum
theorem sF:∀ s,s<16→∀ q∈cY s,0<s - 2 ^ q.1∧(s - 2 ^ q.1) &&& s=s - 2 ^ q.1∧onesB (s - 2 ^ q.1)+1=onesB s∧0<hB s (s - 2 ^ q.1):=by decide +kernel
theorem Ad:∀ s,s<16→((cY s).map fun q=>s - 2 ^ q.1).Nodup:=by decide +kernel
theorem EI:∀ s,s<16→∀ t,t<16→((cY s).map fun q=>sgP q.2 * iB (s - 2 ^ q.1) t 0).sum=0:=by decide +kernel
theorem EK:∀ s,s<16→∀ t,t<16→hB s t≤1∧hB s s=0∧(((cY s).map fun q=>hB (s - 2 ^ q.1) t).sum=0∨((cY s).map fun q=>hB (s - 2 ^ q.1) t).sum=2)∧((cY s).map fun q=>hB (s - 2 ^ q.1) s).sum=0:=by decide +kernel
theorem C0:∀ s,s<16→3≤onesB s→∀ q∈cY s,∀ r∈cY s,q=r∨(0<s - 2 ^ q.1 - 2 ^ r.1∧(s - 2 ^ q.1 - 2 ^ r.1) &&& s=s - 2 ^ q.1 - 2 ^ r.1∧0<hB (s - 2 ^ q.1) (s - 2 ^ q.1 - 2 ^ r.1)∧0<hB (s - 2 ^ r.1) (s - 2 ^ q.1 - 2 ^ r.1)):=by decide +kernel
theorem EJ:∀ s,s<16→0<s→0<onesB s∧onesB s≤4∧(cY s).length=if onesB s≤1 then 0 else onesB s:=by decide +kernel
theorem EH:∀ s,s<16→onesB s=2→((cY s).map fun q=>sgP (q.2+0)).sum=0:=by decide +kernel
theorem AX (a b:Int):sgP (a+b)=sgP a * sgP b:=by
 unfold sgP;have h1:a % 2=0∨a % 2=1:=oM;have h2:b % 2=0∨b % 2=1:=oM
 rcases h1 with h1 | h1 <;> rcases h2 with h2 | h2 <;> rw[h1,h2]
 ·rw[show (a+b) % 2=0 by omega]; rfl
 ·rw[show (a+b) % 2=1 by omega]; rfl
 ·rw[show (a+b) % 2=1 by omega]; rfl
 ·rw[show (a+b) % 2=0 by omega]; rfl
theorem AW (a:Int):sgP a=1∨sgP a = -1:=by
 unfold sgP;omega
theorem DF (a:Int):sgP (a - 1) = -sgP a:=by
 unfold sgP;omega
theorem tt (s t:Nat)(d:Int):iB s t d=sgP d * iB s t 0:=by
 unfold iB;refine cw fun q _=>?_;split
 ·rw[AX,Int.add_zero,Int.mul_comm]
 ·rw[Int.mul_zero]
theorem Gu (s t:Nat)(d:Int):iB s t (d - 1)+iB s t d=0:=by
 rw[tt s t (d - 1),tt s t d,DF,Int.neg_mul];omega
def cS (d e:Cl):Nat:=(d.sides.filter fun q=>decide (q.cell=e.id)).length
def bD (L:List Cl)(f:Int→Nat)(n:Nat):List Cl:=L.zipIdx.flatMap fun q=>(bC (f q.1.id)).map (aY L n q.2 q.1)
theorem vL (L:List Cl)(T:List (List Int)):qj L T=bD L (tlB L 0 T) T.length:=rfl
theorem f9 (L:List Cl)(n i:Nat)(y:Cl)(s:Nat):me L n i y s=(y.sides.map fun x=>⟨bId n (ixB L x.cell) s,x.sign⟩)++(cY s).map fun q=>⟨bId n i (s - 2 ^ q.1),sgP (q.2+y.dim)⟩:=by
 unfold me cY;split <;> simp
structure Cov (L:List Cl)(f:Int→Nat)(n:Nat):Prop where
 rt:Rt L
 n4:n≤4
 lt:∀ c∈L,f c.id<2 ^ n
 sub:∀ c∈L,∀ x∈c.sides,f c.id &&& f x.cell=f c.id
 few:L.length≤60
 dim:∀ c∈L,c.dim≤4
 sd:∀ c∈L,c.sides.length≤60
section
variable {L:List Cl}{f:Int→Nat}{n:Nat}(h:Cov L f n)
include h
theorem Cov.pow:2 ^ n≤16:=Nat.pow_le_pow_right dC h.n4 (n:=2)
theorem Cov.s16 {c:Cl}(hc:c∈L){s:Nat}(hs:s∈bC (f c.id)):s<2 ^ n∧s<16:=by
 have h1:=sub_le (cW.1 hs).2;have h2:=h.lt c hc;have h3:=h.pow;omega
theorem Cov.side {c:Cl}(hc:c∈L){x:ai}(hx:x∈c.sides):∃ d∈L,d.id=x.cell∧d.dim=c.dim - 1∧∀ s∈bC (f c.id),s∈bC (f d.id):=by
 obtain ⟨d,hd,hdd⟩:=(h.rt.form c hc).found x hx;obtain ⟨h1,h2⟩:=bF hd;refine⟨d,h1,h2,hdd,fun s hs=>?_⟩;obtain ⟨k1,k2⟩:=cW.1 hs;exact cW.2 ⟨k1,oD k2 (by rw[h2]; exact h.sub c hc x hx)⟩
omit h in
theorem oK (h:Rt L){z:Cl}:z∈bD L f n↔∃ c∈L,∃ s∈bC (f c.id),z=aY L n (ixB L c.id) c s:=by
 unfold bD;rw[List.mem_flatMap];constructor
 ·rintro ⟨⟨c,i⟩,hq,hz⟩;obtain ⟨s,hs,rfl⟩:=ze8.1 hz;have hi:L[i]?=some c:=List.mem_zipIdx_iff_getElem?.1 hq;exact⟨c,zf8 hi,s,hs,by rw[h.ix hi]⟩
 ·rintro ⟨c,hc,s,hs,rfl⟩;exact⟨(c,ixB L c.id),List.mem_zipIdx_iff_getElem?.2 (h.ix_get hc),ze8.2 ⟨s,hs,I⟩⟩
theorem Cov.ids:((bD L f n).map Cl.id).Nodup:=by
 have h1:(bD L f n).Pairwise fun a b=>a.id<b.id:=by
  unfold bD;rw[List.pairwise_flatMap];refine⟨fun q hq=>?_,?_⟩
  ·rw[zk1];have h2:(bC (f q.1.id)).Pairwise (· < ·):=(List.pairwise_lt_range (n:=_)).filter _;refine h2.imp fun {a b} hlt=>?_;show bId n q.2 a<bId n q.2 b;unfold bId;omega
  ·have h3:L.zipIdx.Pairwise fun a b=>a.2<b.2:=by
    have:=List.pairwise_lt_range (n:=L.length);rw[List.range_eq_range',← List.zipIdx_map_snd 0 L,zk1] at this;exact this
   refine List.Pairwise.imp_of_mem ?_ h3;rintro ⟨c,i⟩ ⟨d,j⟩ hc hd hlt z hz w hw;obtain ⟨s,hs,rfl⟩:=ze8.1 hz;obtain ⟨t,ht,rfl⟩:=ze8.1 hw;have hci:L[i]?=some c:=List.mem_zipIdx_iff_getElem?.1 hc;have hs2:=(h.s16 (zf8 hci) hs).1;have:=Gg (N:=2 ^ n) (k':=t) hs2 hlt;dsimp only at this;show bId n i s<bId n j t;unfold bId;omega
 rw[List.Nodup,zk1];exact h1.imp fun h=>by omega
theorem Cov.nodup:((aa (bD L f n)).map Cl.id).Nodup:=by
 have h2:((aa (bD L f n)).map Cl.id).Perm ((bD L f n).map Cl.id):=by
  rw[mP];exact (gn _).map _
 exact h2.symm.nodup h.ids
theorem Cov.mem {z:Cl}:z∈aa (bD L f n)↔∃ c∈L,∃ s∈bC (f c.id),z=ay (aY L n (ixB L c.id) c s):=by
 unfold aa;rw[ze8];constructor
 ·rintro ⟨d,hd,rfl⟩;obtain ⟨c,hc,s,hs,rfl⟩:=(oK h.rt).1 ((dh _ _).1 hd);exact⟨c,hc,s,hs,I⟩
 ·rintro ⟨c,hc,s,hs,rfl⟩;exact⟨_,(dh _ _).2 ((oK h.rt).2 ⟨c,hc,s,hs,I⟩),I⟩
theorem Cov.find {c:Cl}(hc:c∈L){s:Nat}(hs:s∈bC (f c.id)):az (aa (bD L f n)) (bId n (ixB L c.id) s)=some (ay (aY L n (ixB L c.id) c s)) :=
 nK (x:=ay (aY L n (ixB L c.id) c s)) h.nodup (h.mem.2 ⟨c,hc,s,hs,rfl⟩)
omit h in
theorem uT (L:List Cl)(n i:Nat)(c:Cl)(s:Nat):(ay (aY L n i c s)).sides.Perm (me L n i c s):=gn _
theorem Cov.hits {d:Cl}(hd:d∈L){u:Nat}(hu:u∈bC (f d.id)){e:Cl}(he:e∈L){t:Nat}(ht:t∈bC (f e.id))(σ:Int) :
  hits (aa (bD L f n)) ⟨bId n (ixB L d.id) u,σ⟩ (bId n (ixB L e.id) t)=(if t=u then cS d e else 0)+(if e=d then hB u t else 0):=by
 unfold Go.Proofs.YtkbagdedfdfjhaaGreatDoor.hits ao;rw[h.find hd hu];show ((ay (aY L n (ixB L d.id) d u)).sides.filter _).length=_;have hu2:=h.s16 hd hu;have ht2:=h.s16 he ht;rw[((uT L n _ d u).filter _).length_eq,f9,zh3,ze2,List.filter_map,List.filter_map,ze3,ze3];congr 1
 ·split
  ·rename_i e1;subst e1;unfold cS;congr 1;refine List.filter_congr fun q hq=>?_;obtain ⟨v,hv,hvi,_⟩:=h.side hd hq;show decide (bId n (ixB L q.cell) t=bId n (ixB L e.id) t)=decide (q.cell=e.id);rw[decide_eq_decide,← hvi];constructor
   ·intro k;rw[h.rt.ix_inj hv he (fG ht2.1 ht2.1 k).1]
   ·intro k;rw[k]
  ·rename_i e1;rw[List.length_eq_zero_iff,List.filter_eq_nil_iff];intro q hq k;have k:bId n (ixB L q.cell) u=bId n (ixB L e.id) t:=by simpa using k
   exact e1 (fG hu2.1 ht2.1 k).2.symm
 ·have hlt:∀ q∈cY u,u - 2 ^ q.1<2 ^ n:=fun q _=>Nat.lt_of_le_of_lt (Nat.sub_le _ _) hu2.1;split
  ·rename_i e1;subst e1;unfold hB;congr 1;refine List.filter_congr fun q hq=>?_;show decide (bId n (ixB L e.id) (u - 2 ^ q.1)=bId n (ixB L e.id) t)=decide (u - 2 ^ q.1=t);rw[decide_eq_decide];exact⟨fun k=>(fG (hlt q hq) ht2.1 k).2,fun k=>by rw[k]⟩
  ·rename_i e1;rw[List.length_eq_zero_iff,List.filter_eq_nil_iff];intro q hq k;have k:bId n (ixB L d.id) (u - 2 ^ q.1)=bId n (ixB L e.id) t:=by simpa using k
   exact e1 (h.rt.ix_inj hd he (fG (hlt q hq) ht2.1 k).1).symm
theorem Cov.inner {d:Cl}(hd:d∈L){u:Nat}(hu:u∈bC (f d.id)){e:Cl}(he:e∈L){t:Nat}(ht:t∈bC (f e.id))(σ:Int) :
  inner (aa (bD L f n)) ⟨bId n (ixB L d.id) u,σ⟩ (bId n (ixB L e.id) t)=σ * ((if t=u then d4 d e else 0)+(if e=d then iB u t d.dim else 0)):=by
 unfold Go.Proofs.YtkbagdedfdfjhaaGreatDoor.inner ao;rw[h.find hd hu];show ((ay (aY L n (ixB L d.id) d u)).sides.map fun q=>if q.cell=bId n (ixB L e.id) t then σ * q.sign else 0).sum=_;have hu2:=h.s16 hd hu;have ht2:=h.s16 he ht;rw[fY ((uT L n _ d u).map _),f9,zg2,List.sum_append,zi2,zi2,Int.mul_add];congr 1
 ·split
  ·rename_i e1;subst e1;unfold d4;refine cw fun q hq=>?_;obtain ⟨v,hv,hvi,_⟩:=h.side hd hq;show (if bId n (ixB L q.cell) t=bId n (ixB L e.id) t then σ * q.sign else 0)=σ * (if q.cell=e.id then q.sign else 0);by_cases hve:q.cell=e.id
   ·rw[zf7 hve,zf7 (by rw[hve])]
   ·rw[zf6 hve,zf6,Int.mul_zero];intro k;rw[← hvi] at k hve;exact hve (by rw[h.rt.ix_inj hv he (fG ht2.1 ht2.1 k).1])
  ·rename_i e1;rw[cw (g:=fun _=>(0:Int)) (K:=0) fun q hq=>?_,Int.zero_mul,Int.mul_zero];show (if bId n (ixB L q.cell) u=bId n (ixB L e.id) t then σ * q.sign else 0)=_;rw[zf6 fun k=>e1 (fG hu2.1 ht2.1 k).2.symm];rfl
 ·have hlt:∀ q∈cY u,u - 2 ^ q.1<2 ^ n:=fun q _=>Nat.lt_of_le_of_lt (Nat.sub_le _ _) hu2.1;split
  ·rename_i e1;subst e1;unfold iB;refine cw fun q hq=>?_;show (if bId n (ixB L e.id) (u - 2 ^ q.1)=bId n (ixB L e.id) t then σ * sgP (q.2+e.dim) else 0)=σ * (if u - 2 ^ q.1=t then sgP (q.2+e.dim) else 0);by_cases hue:u - 2 ^ q.1=t
   ·rw[zf7 hue,zf7 (by rw[hue])]
   ·rw[zf6 hue,zf6 fun k=>hue (fG (hlt q hq) ht2.1 k).2,Int.mul_zero]
  ·rename_i e1;rw[cw (g:=fun _=>(0:Int)) (K:=0) fun q hq=>?_,Int.zero_mul,Int.mul_zero];show (if bId n (ixB L d.id) (u - 2 ^ q.1)=bId n (ixB L e.id) t then σ * sgP (q.2+d.dim) else 0)=_;rw[zf6 fun k=>e1 (h.rt.ix_inj hd he (fG (hlt q hq) ht2.1 k).1).symm];rfl
end
theorem Aq {α:Type}{l:List α}{g:α→Int}(h:∀ x∈l,g x=0):(l.map g).sum=0:=by
 rw[cw (g:=fun _=>(0:Int)) (K:=0) fun x hx=>by rw[h x hx]; rfl,Int.zero_mul]
theorem De {α:Type}{l:List α}{g:α→Nat}(h:∀ x∈l,g x=0):(l.map g).sum=0:=by
 induction l with
 | nil=>rfl
 | cons a b ih=>rw[zg1,List.sum_cons,h a (by simp),ih fun x hx=>h x (by simp[hx])]
theorem Hv {α:Type}(l:List α)(g k:α→Int):(l.map fun x=>g x+k x).sum=(l.map g).sum+(l.map k).sum:=by
 induction l with
 | nil=>rfl
 | cons a b ih=>simp only[zg1,List.sum_cons,ih]; omega
theorem GR {α:Type}(l:List α)(g k:α→Nat):(l.map fun x=>g x+k x).sum=(l.map g).sum+(l.map k).sum:=by
 induction l with
 | nil=>rfl
 | cons a b ih=>simp only[zg1,List.sum_cons,ih]; omega
theorem HG {α:Type}(l:List α)(p:α→Prop)[DecidablePred p](K:Nat):(l.map fun x=>if p x then K else 0).sum=(l.filter fun x=>decide (p x)).length * K:=by
 induction l with
 | nil=>simp
 | cons a b ih =>
  rw[zg1,List.sum_cons,ih,zi4];by_cases h:p a
  ·rw[zf7 h,zf7 (by simpa using h),ze5,Nat.add_mul,Nat.one_mul,Nat.add_comm]
  ·rw[zf6 h,zf6 (by simpa using h),Nat.zero_add]
section
variable {L:List Cl}{f:Int→Nat}{n:Nat}(h:Cov L f n)
include h
theorem Cov.hitsL {c d:Cl}(hc:c∈L){x:ai}(hx:x∈c.sides)(hd:d∈L)(hi:d.id=x.cell)(e:Cl):Go.Proofs.YtkbagdedfdfjhaaGreatDoor.hits L x e.id=cS d e:=by
 unfold Go.Proofs.YtkbagdedfdfjhaaGreatDoor.hits ao;rw[← hi,h.rt.find hd];rfl
theorem Cov.innerL {c d:Cl}(hc:c∈L){x:ai}(hx:x∈c.sides)(hd:d∈L)(hi:d.id=x.cell)(e:Cl):Go.Proofs.YtkbagdedfdfjhaaGreatDoor.inner L x e.id=x.sign * d4 d e:=by
 unfold Go.Proofs.YtkbagdedfdfjhaaGreatDoor.inner ao;rw[← hi,h.rt.find hd];unfold d4;refine cw fun q _=>?_;show (if q.cell=e.id then x.sign * q.sign else 0)=_;split
 ·rfl
 ·rw[Int.mul_zero]
theorem Cov.cS_le {c:Cl}(hc:c∈L)(e:Cl):cS c e≤1:=by
 unfold cS;have h1:(c.sides.filter fun q=>decide (q.cell=e.id)).Pairwise fun a b=>a.cell<b.cell:=(h.rt.form c hc).asc.filter _;cases hl:c.sides.filter fun q=>decide (q.cell=e.id) with
 | nil=>simp
 | cons a r =>
  cases r with
  | nil=>simp
  | cons b r =>
   rw[hl] at h1;have h2:=(zj9.1 h1).1 b (by simp);have ha:a∈c.sides.filter fun q=>decide (q.cell=e.id):=by rw[hl]; simp
   have hb:b∈c.sides.filter fun q=>decide (q.cell=e.id):=by rw[hl]; simp
   have h3:=(zh1.1 ha).2;have h4:=(zh1.1 hb).2;simp only[zj2] at h3 h4;omega
theorem Cov.cS_dim {c e:Cl}(hc:c∈L)(he:e∈L)(hd:e.dim≠c.dim - 1):cS c e=0:=by
 unfold cS;rw[List.length_eq_zero_iff,List.filter_eq_nil_iff];intro q hq k;simp only[zj2] at k;obtain ⟨d,hd1,hd2,hd3,_⟩:=h.side hc hq;rw[k] at hd2;have h1:=h.rt.find hd1;rw[hd2,h.rt.find he] at h1;cases h1;exact hd hd3
omit h in
theorem Hr {c:Cl}{x:ai}(hx:x∈c.sides){e:Cl}(hi:e.id=x.cell):0<cS c e:=by
 unfold cS;refine List.length_pos_of_mem (a:=x) (zh1.2 ⟨hx,?_⟩);simpa using hi.symm
theorem Cov.bit {c:Cl}(hc:c∈L){s:Nat}(hs:s∈bC (f c.id)){q:Nat×Nat}(hq:q∈cY s):s - 2 ^ q.1∈bC (f c.id):=by
 obtain ⟨k1,k2,_⟩:=sF s (h.s16 hc hs).2 q hq;exact cW.2 ⟨k1,oD k2 (cW.1 hs).2⟩
theorem Cov.pos1 {c:Cl}(hc:c∈L){s:Nat}(hs:s∈bC (f c.id)):0<onesB s∧onesB s≤4∧(cY s).length=if onesB s≤1 then 0 else onesB s:=EJ s (h.s16 hc hs).2 (cW.1 hs).1
theorem Cov.fm {c:Cl}(hc:c∈L){s:Nat}(hs:s∈bC (f c.id)):Fm (aa (bD L f n)) (ay (aY L n (ixB L c.id) c s)):=by
 have hf:=h.rt.form c hc;have hp:=uT L n (ixB L c.id) c s;rw[f9] at hp;have hmem:∀ x',x'∈(ay (aY L n (ixB L c.id) c s)).sides↔(∃ x∈c.sides,x'=⟨bId n (ixB L x.cell) s,x.sign⟩)∨∃ q∈cY s,x'=⟨bId n (ixB L c.id) (s - 2 ^ q.1),sgP (q.2+c.dim)⟩:=fun x'=>by
  rw[hp.mem_iff,ze9,ze8,ze8];exact⟨fun h=>h.elim (fun ⟨x,a,b⟩=>.inl ⟨x,a,b.symm⟩) fun ⟨x,a,b⟩=>.inr ⟨x,a,b.symm⟩,fun h=>h.elim (fun ⟨x,a,b⟩=>.inl ⟨x,a,b.symm⟩) fun ⟨x,a,b⟩=>.inr ⟨x,a,b.symm⟩⟩
 have hlen:(ay (aY L n (ixB L c.id) c s)).sides.length=c.sides.length+(cY s).length:=by rw[hp.length_eq,ze2,ze3,ze3]
 obtain ⟨o1,o2,o3⟩:=h.pos1 hc hs;have s16:=h.s16 hc hs;have hdim:(ay (aY L n (ixB L c.id) c s)).dim=c.dim+onesB s - 1:=rfl;have hd0:=hf.dim;have hd4:=h.dim c hc;have hsd:=h.sd c hc;refine⟨by rw[hdim]; omega,?_,fun x' hx'=>?_,?_,fun x' hx'=>?_,fun hd=>?_⟩
 ·have hcn:=hf.cnt;simp only[ax,hdim,hlen,o3] at hcn ⊢;simp only[Bool.or_eq_false_iff,Bool.and_eq_false_iff,decide_eq_false_iff_not] at hcn ⊢;split <;> omega
 ·rcases (hmem x').1 hx' with ⟨x,hx,rfl⟩ | ⟨q,hq,rfl⟩
  ·obtain ⟨d,hd,hid,hdd,hsub⟩:=h.side hc hx;have:=h.find hd (hsub s hs);rw[hid] at this;refine⟨_,this,?_⟩;show d.dim+onesB s - 1=c.dim+onesB s - 1 - 1;omega
  ·refine⟨_,h.find hc (h.bit hc hs hq),?_⟩;have:=(sF s s16.2 q hq).2.2.1;show c.dim+onesB (s - 2 ^ q.1) - 1=c.dim+onesB s - 1 - 1;omega
 ·have h1:(ay (aY L n (ixB L c.id) c s)).sides.Pairwise fun a b=>a.cell≤b.cell:=dH _;have h2:((ay (aY L n (ixB L c.id) c s)).sides.map ai.cell).Nodup:=by
   refine (hp.map ai.cell).symm.nodup ?_;rw[zg2,zi2,zi2];refine List.nodup_append.2 ⟨?_,?_,?_⟩
   ·rw[List.Nodup,zk1];refine List.Pairwise.imp_of_mem ?_ hf.asc;intro a b ha hb hlt e;obtain ⟨d,hd,hid,_⟩:=h.side hc ha;obtain ⟨d',hd',hid',_⟩:=h.side hc hb;have e:bId n (ixB L a.cell) s=bId n (ixB L b.cell) s:=e;rw[← hid,← hid'] at e;have:=h.rt.ix_inj hd hd' (fG s16.1 s16.1 e).1;subst this;omega
   ·have h3:=Ad s s16.2;rw[List.Nodup,zk1] at h3 ⊢;refine h3.imp fun {a b} hne e=>hne ?_;have e:bId n (ixB L c.id) (s - 2 ^ a.1)=bId n (ixB L c.id) (s - 2 ^ b.1):=e;exact (fG (Nat.lt_of_le_of_lt (Nat.sub_le _ _) s16.1) (Nat.lt_of_le_of_lt (Nat.sub_le _ _) s16.1) e).2
   ·intro a ha b hb e;obtain ⟨x,hx,rfl⟩:=ze8.1 ha;obtain ⟨q,hq,rfl⟩:=ze8.1 hb;obtain ⟨d,hd,hid,hdd,_⟩:=h.side hc hx;have e:bId n (ixB L x.cell) s=bId n (ixB L c.id) (s - 2 ^ q.1):=e;rw[← hid] at e;have:=h.rt.ix_inj hd hc (fG s16.1 (Nat.lt_of_le_of_lt (Nat.sub_le _ _) s16.1) e).1;subst this;omega
  rw[List.Nodup,zk1] at h2;exact (h1.and h2).imp fun ⟨h3,h4⟩=>by omega
 ·rcases (hmem x').1 hx' with ⟨x,hx,rfl⟩ | ⟨q,hq,rfl⟩
  ·exact hf.sg x hx
  ·exact AW _
 ·rw[hdim] at hd;unfold l8;rw[fY (hp.map ai.sign),zg2,List.sum_append,zi2,zi2];have hcn:=hf.cnt;simp only[ax,Bool.or_eq_false_iff,Bool.and_eq_false_iff,decide_eq_false_iff_not] at hcn;by_cases hc1:c.dim=1
  ·have h1:=hf.one hc1;unfold l8 at h1;have h2:cY s=[]:=List.length_eq_zero_iff.1 (by rw[o3,zf7 oM]);rw[h2];show (c.sides.map ai.sign).sum+0=0;rw[h1];rfl
  ·have h3:c.sides=[]:=List.length_eq_zero_iff.1 oM;have h4:=EH s s16.2 oM;rw[h3];show 0+((cY s).map fun q=>sgP (q.2+c.dim)).sum=0;rw[show c.dim=0 by omega,h4];rfl
theorem Cov.sumR {c:Cl}(hc:c∈L){s:Nat}(hs:s∈bC (f c.id)){e:Cl}(he:e∈L){t:Nat}(ht:t∈bC (f e.id)):Go.Proofs.YtkbagdedfdfjhaaGreatDoor.sumR (aa (bD L f n)) (ay (aY L n (ixB L c.id) c s)).sides (bId n (ixB L e.id) t)=0:=by
 have s16:=h.s16 hc hs;have t16:=h.s16 he ht;rw[tK (uT L n _ c s),f9,dg,zg2,List.sum_append,zi2,zi2];have e1:(c.sides.map ((fun x=>Go.Proofs.YtkbagdedfdfjhaaGreatDoor.inner (aa (bD L f n)) x (bId n (ixB L e.id) t)) ∘ fun x=>(⟨bId n (ixB L x.cell) s,x.sign⟩:ai))).sum=(if t=s then Go.Proofs.YtkbagdedfdfjhaaGreatDoor.sumR L c.sides e.id else 0)+iB s t (c.dim - 1) * d4 c e:=by
  rw[dg];have:(c.sides.map ((fun x=>Go.Proofs.YtkbagdedfdfjhaaGreatDoor.inner (aa (bD L f n)) x (bId n (ixB L e.id) t)) ∘ fun x=>(⟨bId n (ixB L x.cell) s,x.sign⟩:ai))).sum=(c.sides.map fun x=>(if t=s then Go.Proofs.YtkbagdedfdfjhaaGreatDoor.inner L x e.id else 0)+iB s t (c.dim - 1) * (if x.cell=e.id then x.sign else 0)).sum:=by
   congr 1;refine zc5 fun x hx=>?_;obtain ⟨d,hd,hid,hdd,hsub⟩:=h.side hc hx;show Go.Proofs.YtkbagdedfdfjhaaGreatDoor.inner _ ⟨bId n (ixB L x.cell) s,x.sign⟩ _=_;rw[h.innerL hc hx hd hid,← hid,h.inner hd (hsub s hs) he ht,Int.mul_add];congr 1
   ·split <;> simp
   ·by_cases k:e=d
    ·subst k;rw[zf7 rfl,zf7 rfl,hdd,Int.mul_comm]
    ·rw[zf6 k,zf6 (fun k2=>k (by
      have h1:=h.rt.find hd;rw[k2,h.rt.find he] at h1;injection h1)),Int.mul_zero,Int.mul_zero]
  rw[this,Hv];congr 1
  ·split
   ·rfl
   ·exact Aq fun _ _=>I
  ·unfold d4;exact cw fun x _=>I
 have e2:((cY s).map ((fun x=>Go.Proofs.YtkbagdedfdfjhaaGreatDoor.inner (aa (bD L f n)) x (bId n (ixB L e.id) t)) ∘ fun q=>(⟨bId n (ixB L c.id) (s - 2 ^ q.1),sgP (q.2+c.dim)⟩:ai))).sum=d4 c e * iB s t c.dim+(if e=c then ((cY s).map fun q=>sgP q.2 * iB (s - 2 ^ q.1) t 0).sum else 0):=by
  have:((cY s).map ((fun x=>Go.Proofs.YtkbagdedfdfjhaaGreatDoor.inner (aa (bD L f n)) x (bId n (ixB L e.id) t)) ∘ fun q=>(⟨bId n (ixB L c.id) (s - 2 ^ q.1),sgP (q.2+c.dim)⟩:ai))).sum=((cY s).map fun q=>d4 c e * (if s - 2 ^ q.1=t then sgP (q.2+c.dim) else 0)+(if e=c then sgP q.2 * iB (s - 2 ^ q.1) t 0 else 0)).sum:=by
   congr 1;refine zc5 fun q hq=>?_;show Go.Proofs.YtkbagdedfdfjhaaGreatDoor.inner _ ⟨bId n (ixB L c.id) (s - 2 ^ q.1),sgP (q.2+c.dim)⟩ _=_;rw[h.inner hc (h.bit hc hs hq) he ht,Int.mul_add];congr 1
   ·by_cases k:t=s - 2 ^ q.1
    ·rw[zf7 k,zf7 k.symm,Int.mul_comm]
    ·rw[zf6 k,zf6 (fun k2=>k k2.symm),Int.mul_zero,Int.mul_zero]
   ·split
    ·rw[tt,AX,← Int.mul_assoc,Int.mul_assoc (sgP q.2)];have:sgP c.dim * sgP c.dim=1:=by rcases AW c.dim with h | h <;> rw[h] <;> rfl
     rw[this,Int.mul_one]
    ·rw[Int.mul_zero]
  rw[this,Hv];congr 1
  ·unfold iB;exact cw fun x _=>I
  ·split
   ·rfl
   ·exact Aq fun _ _=>I
 rw[e1,e2,EI s s16.2 t t16.2];have e3:(if t=s then Go.Proofs.YtkbagdedfdfjhaaGreatDoor.sumR L c.sides e.id else 0)=0:=by
  split
  ·by_cases hd:c.dim>1
   ·have hn0:0<c.sides.length:=by
     have:=(h.rt.form c hc).cnt;simp[ax] at this;have:=this.2 hd;omega
    have nd:(c.sides.map ai.cell).Nodup:=by
     rw[List.Nodup,zk1];exact (h.rt.form c hc).asc.imp fun h=>by omega
    exact ((eS hn0 nd).1 (h.rt.around c hc hd)).1 e.id
   ·rw[dg];refine Aq fun x hx=>?_;obtain ⟨d,hd,hid,hdd,_⟩:=h.side hc hx;rw[h.innerL hc hx hd hid];have h1:=(h.rt.form d hd).dim;have h2:=(h.rt.form d hd).cnt;simp only[ax,Bool.or_eq_false_iff,Bool.and_eq_false_iff,decide_eq_false_iff_not] at h2;have h3:d.sides=[]:=List.length_eq_zero_iff.1 oM;unfold d4;rw[h3];simp
  ·rfl
 have e4:=Gu s t c.dim;rw[e3,Int.mul_comm (iB s t (c.dim - 1))];have e5:d4 c e * iB s t (c.dim - 1)+d4 c e * iB s t c.dim=0:=by rw[← Int.mul_add,e4,Int.mul_zero]
 split <;> omega
theorem Cov.cntR {c:Cl}(hc:c∈L){s:Nat}(hs:s∈bC (f c.id)){e:Cl}(he:e∈L){t:Nat}(ht:t∈bC (f e.id)) :
  Go.Proofs.YtkbagdedfdfjhaaGreatDoor.cntR (aa (bD L f n)) (ay (aY L n (ixB L c.id) c s)).sides (bId n (ixB L e.id) t)=0∨Go.Proofs.YtkbagdedfdfjhaaGreatDoor.cntR (aa (bD L f n)) (ay (aY L n (ixB L c.id) c s)).sides (bId n (ixB L e.id) t)=2:=by
 have s16:=h.s16 hc hs;have t16:=h.s16 he ht;rw[uw (uT L n _ c s),f9];unfold Go.Proofs.YtkbagdedfdfjhaaGreatDoor.cntR;rw[zg2,List.sum_append,zi2,zi2];have e1:(c.sides.map ((fun x=>Go.Proofs.YtkbagdedfdfjhaaGreatDoor.hits (aa (bD L f n)) x (bId n (ixB L e.id) t)) ∘ fun x=>(⟨bId n (ixB L x.cell) s,x.sign⟩:ai))).sum=(if t=s then Go.Proofs.YtkbagdedfdfjhaaGreatDoor.cntR L c.sides e.id else 0)+cS c e * hB s t:=by
  have:(c.sides.map ((fun x=>Go.Proofs.YtkbagdedfdfjhaaGreatDoor.hits (aa (bD L f n)) x (bId n (ixB L e.id) t)) ∘ fun x=>(⟨bId n (ixB L x.cell) s,x.sign⟩:ai))).sum=(c.sides.map fun x=>(if t=s then Go.Proofs.YtkbagdedfdfjhaaGreatDoor.hits L x e.id else 0)+(if x.cell=e.id then hB s t else 0)).sum:=by
   congr 1;refine zc5 fun x hx=>?_;obtain ⟨d,hd,hid,hdd,hsub⟩:=h.side hc hx;show Go.Proofs.YtkbagdedfdfjhaaGreatDoor.hits _ ⟨bId n (ixB L x.cell) s,x.sign⟩ _=_;rw[h.hitsL hc hx hd hid,← hid,h.hits hd (hsub s hs) he ht];congr 1;by_cases k:e=d
   ·subst k;rw[zf7 rfl,zf7 rfl]
   ·rw[zf6 k,zf6 (fun k2=>k (by
     have h1:=h.rt.find hd;rw[k2,h.rt.find he] at h1;injection h1))]
  rw[this,GR];congr 1
  ·split
   ·rfl
   ·exact De fun _ _=>I
  ·exact HG _ _ _
 have e2:((cY s).map ((fun x=>Go.Proofs.YtkbagdedfdfjhaaGreatDoor.hits (aa (bD L f n)) x (bId n (ixB L e.id) t)) ∘ fun q=>(⟨bId n (ixB L c.id) (s - 2 ^ q.1),sgP (q.2+c.dim)⟩:ai))).sum=hB s t * cS c e+(if e=c then ((cY s).map fun q=>hB (s - 2 ^ q.1) t).sum else 0):=by
  have:((cY s).map ((fun x=>Go.Proofs.YtkbagdedfdfjhaaGreatDoor.hits (aa (bD L f n)) x (bId n (ixB L e.id) t)) ∘ fun q=>(⟨bId n (ixB L c.id) (s - 2 ^ q.1),sgP (q.2+c.dim)⟩:ai))).sum=((cY s).map fun q=>(if s - 2 ^ q.1=t then cS c e else 0)+(if e=c then hB (s - 2 ^ q.1) t else 0)).sum:=by
   congr 1;refine zc5 fun q hq=>?_;show Go.Proofs.YtkbagdedfdfjhaaGreatDoor.hits _ ⟨bId n (ixB L c.id) (s - 2 ^ q.1),sgP (q.2+c.dim)⟩ _=_;rw[h.hits hc (h.bit hc hs hq) he ht];congr 1;by_cases k:t=s - 2 ^ q.1
   ·rw[zf7 k,zf7 k.symm]
   ·rw[zf6 k,zf6 fun k2=>k k2.symm]
  rw[this,GR];congr 1
  ·exact HG _ _ _
  ·split
   ·rfl
   ·exact De fun _ _=>I
 rw[e1,e2];obtain ⟨b1,b2,b3,b4⟩:=EK s s16.2 t t16.2;have e3:Go.Proofs.YtkbagdedfdfjhaaGreatDoor.cntR L c.sides e.id=0∨Go.Proofs.YtkbagdedfdfjhaaGreatDoor.cntR L c.sides e.id=2:=by
  by_cases hd:c.dim>1
  ·have hn0:0<c.sides.length:=by
    have:=(h.rt.form c hc).cnt;simp[ax] at this;have:=this.2 hd;omega
   have nd:(c.sides.map ai.cell).Nodup:=by
    rw[List.Nodup,zk1];exact (h.rt.form c hc).asc.imp fun h=>by omega
   exact ((eS hn0 nd).1 (h.rt.around c hc hd)).2.1 e.id
  ·left;unfold Go.Proofs.YtkbagdedfdfjhaaGreatDoor.cntR;refine De fun x hx=>?_;obtain ⟨d,hd,hid,hdd,_⟩:=h.side hc hx;rw[h.hitsL hc hx hd hid];have h1:=(h.rt.form d hd).dim;have h2:=(h.rt.form d hd).cnt;simp only[ax,Bool.or_eq_false_iff,Bool.and_eq_false_iff,decide_eq_false_iff_not] at h2;have h3:d.sides=[]:=List.length_eq_zero_iff.1 oM;unfold cS;rw[h3];rfl
 by_cases k:t=s
 ·subst k;rw[b2,b4,zf7 rfl];simp only[Nat.mul_zero,Nat.zero_mul,ite_self,Nat.add_zero];exact e3
 ·rw[zf6 k];by_cases k2:e=c
  ·subst k2;rw[h.cS_dim hc hc oM,zf7 rfl];simp only[Nat.mul_zero,Nat.zero_mul,Nat.zero_add];exact b3
  ·rw[zf6 k2];have h1:=h.cS_le hc e;have h2:cS c e=0∨cS c e=1:=oM;have h3:hB s t=0∨hB s t=1:=oM
   rcases h2 with h2 | h2 <;> rcases h3 with h3 | h3 <;> rw[h2,h3] <;> simp
end
section
variable {L:List Cl}{f:Int→Nat}{n:Nat}(h:Cov L f n)
include h
theorem Cov.known {d:Cl}(hd:d∈L){u:Nat}(hu:u∈bC (f d.id)){σ r:Int}(hr:0<Go.Proofs.YtkbagdedfdfjhaaGreatDoor.hits (aa (bD L f n)) ⟨bId n (ixB L d.id) u,σ⟩ r):∃ e∈L,∃ t∈bC (f e.id),r=bId n (ixB L e.id) t:=by
 unfold Go.Proofs.YtkbagdedfdfjhaaGreatDoor.hits ao at hr;rw[h.find hd hu] at hr;obtain ⟨q,hq⟩:=List.exists_mem_of_length_pos hr;obtain ⟨hq1,hq2⟩:=zh1.1 hq;have hq1:q∈(ay (aY L n (ixB L d.id) d u)).sides:=hq1;rw[(uT L n _ d u).mem_iff,f9,ze9,ze8,ze8] at hq1;have hq2:q.cell=r:=by simpa using hq2
 rcases hq1 with ⟨x,hx,rfl⟩ | ⟨b,hb,rfl⟩
 ·obtain ⟨e,he,hei,_,hsub⟩:=h.side hd hx;exact⟨e,he,u,hsub u hu,by rw[hei]; exact hq2.symm⟩
 ·exact⟨d,hd,_,h.bit hd hu hb,hq2.symm⟩
theorem Cov.around {c:Cl}(hc:c∈L){s:Nat}(hs:s∈bC (f c.id))(hd1:c.dim+onesB s - 1>1):cC (aa (bD L f n)) (ay (aY L n (ixB L c.id) c s))=0:=by
 have s16:=h.s16 hc hs;have hfm:=h.fm hc hs;have hp:=uT L n (ixB L c.id) c s;rw[f9] at hp;have hmem:∀ x',x'∈(ay (aY L n (ixB L c.id) c s)).sides↔(∃ x∈c.sides,x'=⟨bId n (ixB L x.cell) s,x.sign⟩)∨∃ q∈cY s,x'=⟨bId n (ixB L c.id) (s - 2 ^ q.1),sgP (q.2+c.dim)⟩:=fun x'=>by
  rw[hp.mem_iff,ze9,ze8,ze8];exact⟨fun h=>h.elim (fun ⟨x,a,b⟩=>.inl ⟨x,a,b.symm⟩) fun ⟨x,a,b⟩=>.inr ⟨x,a,b.symm⟩,fun h=>h.elim (fun ⟨x,a,b⟩=>.inl ⟨x,a,b.symm⟩) fun ⟨x,a,b⟩=>.inr ⟨x,a,b.symm⟩⟩
 have hn0:0<(ay (aY L n (ixB L c.id) c s)).sides.length:=by
  have:=hfm.cnt;have hd2:(ay (aY L n (ixB L c.id) c s)).dim>1:=hd1;simp[ax] at this;have:=this.2 hd2;omega
 have nd:((ay (aY L n (ixB L c.id) c s)).sides.map ai.cell).Nodup:=by
  rw[List.Nodup,zk1];exact hfm.asc.imp fun h=>by omega
 have hkn:∀ x'∈(ay (aY L n (ixB L c.id) c s)).sides,∀ r,0<Go.Proofs.YtkbagdedfdfjhaaGreatDoor.hits (aa (bD L f n)) x' r→∃ e∈L,∃ t∈bC (f e.id),r=bId n (ixB L e.id) t:=fun x' hx' r hr=>by
  rcases (hmem x').1 hx' with ⟨x,hx,rfl⟩ | ⟨q,hq,rfl⟩
  ·obtain ⟨d,hd,hid,_,hsub⟩:=h.side hc hx;rw[← hid] at hr;exact h.known hd (hsub s hs) hr
  ·exact h.known hc (h.bit hc hs hq) hr
 refine (eS hn0 nd).2 ⟨fun r=>?_,fun r=>?_,?_⟩
 ·by_cases hr:∃ x'∈(ay (aY L n (ixB L c.id) c s)).sides,0<Go.Proofs.YtkbagdedfdfjhaaGreatDoor.hits (aa (bD L f n)) x' r
  ·obtain ⟨x',hx',hr⟩:=hr;obtain ⟨e,he,t,ht,rfl⟩:=hkn x' hx' r hr;exact h.sumR hc hs he ht
  ·rw[dg];exact Aq fun x hx=>x4 (by
    have:¬ 0<Go.Proofs.YtkbagdedfdfjhaaGreatDoor.hits (aa (bD L f n)) x r:=fun k=>hr ⟨x,hx,k⟩;omega)
 ·by_cases hr:∃ x'∈(ay (aY L n (ixB L c.id) c s)).sides,0<Go.Proofs.YtkbagdedfdfjhaaGreatDoor.hits (aa (bD L f n)) x' r
  ·obtain ⟨x',hx',hr⟩:=hr;obtain ⟨e,he,t,ht,rfl⟩:=hkn x' hx' r hr;exact h.cntR hc hs he ht
  ·left;unfold Go.Proofs.YtkbagdedfdfjhaaGreatDoor.cntR;exact De fun x hx=>by
    have:¬ 0<Go.Proofs.YtkbagdedfdfjhaaGreatDoor.hits (aa (bD L f n)) x r:=fun k=>hr ⟨x,hx,k⟩;omega
 ·have m1:∀ x∈c.sides,(⟨bId n (ixB L x.cell) s,x.sign⟩:ai)∈(ay (aY L n (ixB L c.id) c s)).sides:=fun x hx=>(hmem _).2 (.inl ⟨x,hx,rfl⟩);have m2:∀ q∈cY s,(⟨bId n (ixB L c.id) (s - 2 ^ q.1),sgP (q.2+c.dim)⟩:ai)∈(ay (aY L n (ixB L c.id) c s)).sides:=fun q hq=>(hmem _).2 (.inr ⟨q,hq,rfl⟩)
  -- a side of the cell and one of the set
  have l12:∀ x∈c.sides,∀ q∈cY s,Cn (qh (aa (bD L f n)) (ay (aY L n (ixB L c.id) c s)).sides) (bId n (ixB L x.cell) s) (bId n (ixB L c.id) (s - 2 ^ q.1)):=fun x hx q hq=>by
   obtain ⟨d,hd,hid,hdd,hsub⟩:=h.side hc hx;obtain ⟨k1,k2,k3,k4⟩:=sF s s16.2 q hq;have hb:=h.bit hc hs hq;refine .one ⟨_,m1 x hx,_,m2 q hq,I,I,bId n (ixB L d.id) (s - 2 ^ q.1),?_,?_⟩
   ·rw[← hid,h.hits hd (hsub s hs) hd (hsub _ hb),zf7 rfl];omega
   ·rw[h.hits hc hb hd (hsub _ hb),zf7 rfl];have:=Hr hx hid;omega
  have l11:∀ x∈c.sides,∀ y∈c.sides,Cn (qh (aa (bD L f n)) (ay (aY L n (ixB L c.id) c s)).sides) (bId n (ixB L x.cell) s) (bId n (ixB L y.cell) s):=fun x hx y hy=>by
   by_cases hd:c.dim>1
   ·have hn0:0<c.sides.length:=List.length_pos_of_mem hx;have nd:(c.sides.map ai.cell).Nodup:=by
     rw[List.Nodup,zk1];exact (h.rt.form c hc).asc.imp fun h=>by omega
    refine (((eS hn0 nd).1 (h.rt.around c hc hd)).2.2 x hx y hy).map (f:=fun a=>bId n (ixB L a) s) fun a b=>?_;rintro ⟨u,hu,v,hv,rfl,rfl,r,h1,h2⟩;obtain ⟨du,hdu,hidu,_,hsu⟩:=h.side hc hu;obtain ⟨dv,hdv,hidv,_,hsv⟩:=h.side hc hv;have hr:∃ e∈L,e.id=r∧∀ s∈bC (f du.id),s∈bC (f e.id):=by
     have h1':=h1;unfold Go.Proofs.YtkbagdedfdfjhaaGreatDoor.hits ao at h1';rw[← hidu,h.rt.find hdu] at h1';obtain ⟨q,hq⟩:=List.exists_mem_of_length_pos h1';obtain ⟨hq1,hq2⟩:=zh1.1 hq;obtain ⟨e,he,hei,_,hse⟩:=h.side hdu (x:=q) hq1;exact⟨e,he,by rw[hei]; simpa using hq2,hse⟩
    obtain ⟨e,he,rfl,hse⟩:=hr;rw[h.hitsL hc hu hdu hidu] at h1;rw[h.hitsL hc hv hdv hidv] at h2;refine .one ⟨_,m1 u hu,_,m1 v hv,I,I,bId n (ixB L e.id) s,?_,?_⟩
    ·rw[← hidu,h.hits hdu (hsu s hs) he (hse s (hsu s hs)),zf7 rfl];omega
    ·rw[← hidv,h.hits hdv (hsv s hs) he (hse s (hsu s hs)),zf7 rfl];omega
   ·have hb:0<(cY s).length:=by
     have:=h.pos1 hc hs;rw[this.2.2,zf6 oM];exact this.1
    obtain ⟨q,hq⟩:=List.exists_mem_of_length_pos hb;exact (l12 x hx q hq).trans (l12 y hy q hq).symm
  have l22:∀ q∈cY s,∀ r∈cY s,Cn (qh (aa (bD L f n)) (ay (aY L n (ixB L c.id) c s)).sides) (bId n (ixB L c.id) (s - 2 ^ q.1)) (bId n (ixB L c.id) (s - 2 ^ r.1)):=fun q hq r hr=>by
   by_cases hx:0<c.sides.length
   ·obtain ⟨x,hx⟩:=List.exists_mem_of_length_pos hx;exact (l12 x hx q hq).symm.trans (l12 x hx r hr)
   ·have hd0:c.dim=0:=by
     have h1:=(h.rt.form c hc).cnt;have h2:=(h.rt.form c hc).dim;simp only[ax,Bool.or_eq_false_iff,Bool.and_eq_false_iff,decide_eq_false_iff_not] at h1;omega
    rcases C0 s s16.2 oM q hq r hr with rfl | ⟨k1,k2,k3,k4⟩
    ·exact .refl _
    ·have ht:s - 2 ^ q.1 - 2 ^ r.1∈bC (f c.id):=cW.2 ⟨k1,oD k2 (cW.1 hs).2⟩;refine .one ⟨_,m2 q hq,_,m2 r hr,I,I,bId n (ixB L c.id) (s - 2 ^ q.1 - 2 ^ r.1),?_,?_⟩
     ·rw[h.hits hc (h.bit hc hs hq) hc ht,zf7 (rfl:c=c)];omega
     ·rw[h.hits hc (h.bit hc hs hr) hc ht,zf7 (rfl:c=c)];omega
  intro x' hx' y' hy'
  rcases (hmem x').1 hx' with ⟨x,hx,rfl⟩ | ⟨q,hq,rfl⟩ <;> rcases (hmem y').1 hy' with ⟨y,hy,rfl⟩ | ⟨r,hr,rfl⟩
  ·exact l11 x hx y hy
  ·exact l12 x hx r hr
  ·exact (l12 y hy q hq).symm
  ·exact l22 q hq r hr
omit h in
theorem tM (b:Nat):(bC b).length≤b:=by
 unfold bC;rw[List.range_succ_eq_map,List.filter_cons_of_neg (by simp)];have:=zc2 (fun s=>decide (0<s)&&decide (s &&& b=s)) ((List.range b).map Nat.succ);rw[ze3,zi1] at this;exact this
omit h in
theorem sA {α β:Type}(g:α→List β)(K:Nat):∀ {l:List α},(∀ x∈l,(g x).length≤K)→(l.flatMap g).length≤l.length * K
 | [],_=>by simp
 | x::l,h=>by
  rw[zh2,ze2,ze5,Nat.add_mul,Nat.one_mul];have h1:=h x (by simp);have h2:=sA g K (l:=l) fun y hy=>h y (by simp[hy]);omega
theorem Cov.len:(bD L f n).length≤L.length * 15:=by
 unfold bD;have:=sA (fun q:Cl×Nat=>(bC (f q.1.id)).map (aY L n q.2 q.1)) 15 (l:=L.zipIdx) fun q hq=>by
  rw[ze3];have h1:=tM (f q.1.id);have hm:L[q.2]?=some q.1:=List.mem_zipIdx_iff_getElem?.1 hq;have h2:=h.lt q.1 (zf8 hm);have h3:=h.pow;omega
 rwa [List.length_zipIdx] at this
theorem Cov.right:Rt (aa (bD L f n)):=by
 refine⟨?_,?_,fun x' hx'=>?_,fun x' hx'=>?_,fun x' hx' hd=>?_⟩
 ·rw[aq];have h1:=h.len;have h2:=h.few;omega
 ·have h1:=fV (bD L f n);have h2:=h.nodup;rw[zk1] at h1;rw[List.Nodup,zk1] at h2;exact (h1.and h2).imp fun ⟨h3,h4⟩=>by omega
 ·obtain ⟨c,hc,s,hs,rfl⟩:=h.mem.1 hx';have:=(cW.1 hs).1;show 0<bId n (ixB L c.id) s;unfold bId;omega
 ·obtain ⟨c,hc,s,hs,rfl⟩:=h.mem.1 hx';exact h.fm hc hs
 ·obtain ⟨c,hc,s,hs,rfl⟩:=h.mem.1 hx';exact h.around hc hs hd
end
theorem ym {α:Type}{p q r:α→Bool}:∀ {l:List α},(∀ x∈l,(p x=true↔q x=true∨r x=true)∧¬ (q x=true∧r x=true))→(l.filter p).length=(l.filter q).length+(l.filter r).length
 | [],_=>rfl
 | a::l,h=>by
  have ih:=ym (p:=p) (q:=q) (r:=r) (l:=l) fun x hx=>h x (by simp[hx]);obtain ⟨h1,h2⟩:=h a (by simp);rw[zi4,zi4,zi4];cases hp:p a <;> cases hq:q a <;> cases hr:r a <;> simp[hp,hq,hr] at h1 h2 ⊢ <;> omega
theorem Ec {n:Nat}{B:List Cl}{a d:Int}{c:Cl}:c∈kT n B a d↔c∈B∧c.dim=d∧jt n c.id≤a:=by
 unfold kT;rw[zh1];simp
theorem Eb {n:Nat}{B:List Cl}{low d:Int}{c:Cl}:c∈ow n B low d↔c∈B∧c.dim=d∧low<jt n c.id:=by
 unfold ow;rw[zh1];simp
section
variable {p:Int}(hp:Fld p)(n:Nat)(B:List Cl)
include hp
omit hp in
theorem CY {B:List Cl}(hB:Rt B){c d:Cl}(hc:c∈B)(hd:d∈B)(e:c.id=d.id):c=d:=by
 have h1:=hB.find hc;rw[e,hB.find hd] at h1;injection h1 with h1
 exact h1.symm
omit hp in
theorem tJ:∀ {M:List Cl},(M.Pairwise fun a b=>a.id<b.id)→∀ {d:Cl},d∈M→∀ F:Cl→Int,(M.map fun c=>if d.id=c.id then F c else 0).sum=F d
 | a::M,hM,d,hd,F=>by
  obtain ⟨h1,h2⟩:=zj9.1 hM;rw[zg1,List.sum_cons]
  rcases ze7.1 hd with rfl | hd
  ·rw[zf7 rfl,Aq fun x hx=>zf6 (by have:=h1 x hx; omega)];omega
  ·rw[zf6 (by have:=h1 d hd; omega),tJ h2 hd];omega
omit hp in
theorem BN {α β:Type}(l:List α)(m:List β)(f:α→β→Int):(l.map fun a=>(m.map fun b=>f a b).sum).sum=(m.map fun b=>(l.map fun a=>f a b).sum).sum:=by
 induction l with
 | nil=>simp only[List.map_nil,List.sum_nil]; exact (Aq fun _ _=>I).symm
 | cons a l ih=>simp only[zg1,List.sum_cons,ih,Hv]
omit hp in
theorem Gy {B:List Cl}(hB:Rt B){s c:Cl}(hs:s∈B)(hc:c∈B)(h:c.dim≠s.dim - 1):d4 s c=0:=by
 unfold d4;refine Aq fun q hq=>zf6 fun e=>?_;obtain ⟨d,hd,hdd⟩:=(hB.form s hs).found q hq;obtain ⟨h1,h2⟩:=bF hd;have:=CY hB h1 hc (by rw[h2,e]);subst this;exact h hdd
omit hp in
theorem Ez {B:List Cl}(hB:Rt B){s r:Cl}(hs:s∈B)(hr:r∈B):(B.map fun c=>d4 c r * d4 s c).sum=0:=by
 have h1:(B.map fun c=>d4 c r * d4 s c).sum=(s.sides.map fun q=>(B.map fun c=>if q.cell=c.id then d4 c r * q.sign else 0).sum).sum:=by
  rw[← BN];congr 1;refine zc5 fun c _=>?_;show _ * (s.sides.map fun q=>if q.cell=c.id then q.sign else 0).sum=_;refine (cw fun q _=>?_).symm;split
  ·rfl
  ·rw[Int.mul_zero]
 have h2:∀ q∈s.sides,(B.map fun c=>if q.cell=c.id then d4 c r * q.sign else 0).sum=inner B q r.id:=fun q hq=>by
  obtain ⟨d,hd,hdd⟩:=(hB.form s hs).found q hq;obtain ⟨h3,h4⟩:=bF hd;rw[← h4,tJ hB.asc h3 fun c=>d4 c r * q.sign];unfold inner ao;rw[hd];show (d.sides.map fun q=>if q.cell=r.id then q.sign else 0).sum * q.sign=(d.sides.map fun t=>if t.cell=r.id then q.sign * t.sign else 0).sum;rw[Int.mul_comm];refine (cw fun t _=>?_).symm;split
  ·rfl
  ·rw[Int.mul_zero]
 rw[h1,zc5 h2,← dg];by_cases hd:s.dim>1
 ·have hn0:0<s.sides.length:=by
   have:=(hB.form s hs).cnt;simp[ax] at this;have:=this.2 hd;omega
  have nd:(s.sides.map ai.cell).Nodup:=by
   rw[List.Nodup,zk1];exact (hB.form s hs).asc.imp fun h=>by omega
  exact ((eS hn0 nd).1 (hB.around s hs hd)).1 r.id
 ·rw[dg];refine Aq fun q hq=>?_;obtain ⟨d,hd,hdd⟩:=(hB.form s hs).found q hq;have h3:=(bF hd).1;have h5:=(hB.form d h3).cnt;have h6:=(hB.form d h3).dim;simp only[ax,Bool.or_eq_false_iff,Bool.and_eq_false_iff,decide_eq_false_iff_not] at h5;have h7:d.sides=[]:=List.length_eq_zero_iff.1 oM;unfold inner ao;rw[hd,Option.getD_some,h7];rfl
end
section
variable (rf:List Cl→List Cl→Nat)(n:Nat)(B:List Cl)
def uB (r a d:Int):Int:=eD rf n B a (max (a - r) (-1)) d - eD rf n B (a - 1) (max (a - r) (-1)) d
def vB (r a d:Int):Int:=eD rf n B (min (a+r - 1) ((n:Int) - 1)) a d - eD rf n B (min (a+r - 1) ((n:Int) - 1)) (a - 1) d
theorem He {r a b:Int}(h1:1≤r)(h2:0≤a)(h3:a<n):vy rf n B r a b=uB rf n B r a (a+b) - vB rf n B r a (a+b+1):=by
 unfold vy uB vB sN;rw[show min (max a (-1)) ((n:Int) - 1)=a by omega,show min (max (a - 1) (-1)) ((n:Int) - 1)=a - 1 by omega,show min (max (a+r - 1) (-1)) ((n:Int) - 1)=min (a+r - 1) ((n:Int) - 1) by omega,show max a (-1)=a by omega,show max (a - 1) (-1)=a - 1 by omega];omega
end
section
variable {p:Int}(hp:Fld p){n:Nat}{B:List Cl}(hB:Rt B)(hdeg:∀ c∈B,0≤jt n c.id∧jt n c.id≤(n:Int) - 1)
include hp
include hB hdeg
end
section
variable (rf:List Cl→List Cl→Nat)(n:Nat)(B:List Cl)
end
section
variable {p:Int}(hp:Fld p){n:Nat}{B:List Cl}(hdeg:∀ c∈B,0≤jt n c.id∧jt n c.id≤(n:Int) - 1)
include hp
theorem A6 (R:List Cl):rkP p [] R=0:=by
 have:=jn hp (mx ([]:List Cl) R d4) 0 R.length;show rk p (mx ([]:List Cl) R d4) 0 R.length=0;omega
theorem DQ (C:List Cl):rkP p C []=0:=by
 have:=vD hp (mx C ([]:List Cl) d4) C.length 0;show rk p (mx C ([]:List Cl) d4) C.length 0=0;omega
include hdeg
end
end Go.Proofs.YtkbagdedfdfjhaaGreatDoor
