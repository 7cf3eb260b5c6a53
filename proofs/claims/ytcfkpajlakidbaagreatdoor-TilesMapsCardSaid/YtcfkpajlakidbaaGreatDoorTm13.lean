/- 13 -/
import Derived.Test.YtcfkpajlakidbaaGreatDoorTm12
import Derived.Test.YtcfkpajlakidbaaGreatDoorTm05
import Derived.Test.YtcfkpajlakidbaaGreatDoorTm11
import Derived.Test.YtcfkpajlakidbaaGreatDoorTm10
import Derived.Test.YtcfkpajlakidbaaGreatDoorTm09
set_option linter.unusedSimpArgs false
set_option linter.unusedVariables false
namespace Go.Proofs.YtcfkpajlakidbaaGreatDoor
open _root_.Go.Proofs.Tryz _root_.Go.Proofs.YtcfkpajlakidbaaGreatDoor.Tryz
open Go Go.Sy Go.Pl Go.Proofs
set_option maxRecDepth 100000
theorem eT {b x y:Nat}(h:x=y):Value.pointer (some ⟨b,x,none⟩)=Value.pointer (some ⟨b,y,none⟩):=by rw[h]
def jE (b i C c:Nat):Value:=.slice (some ⟨b,i * C * 1,none⟩) C (c - i * C)
theorem x7 {b i C c:Nat}(hC:0<C)(hc:(i+1) * C≤c):sliced (some ⟨b,0,none⟩) (i * C) ((i+1) * C) c 1=jE b i C c:=by
 have h1:(i+1) * C=i * C+C:=by rw[Nat.add_mul,Nat.one_mul]
 unfold sliced jE;rw[zf4 oM,h1,Nat.add_sub_cancel_left];simp[Addr.add];exact fun h=>h.symm
def mB (p:Int)(R C:Nat)(v:Value)(ov:List Int):Array Value:=(vi p::vi R::vi C::v::ov.map vi).toArray
def atF (L:List Int)(C x y:Nat):Int:=L.getD (x * C+y) 0
theorem jm {R C x y:Nat}(hx:x<R)(hy:y<C):x * C+y<R * C:=by
 have:=Nat.mul_le_mul_right C (show x+1≤R from hx);rw[Nat.add_mul,Nat.one_mul] at this;omega
theorem ke {R C x:Nat}(hx:x<R):(x+1) * C≤R * C:=Nat.mul_le_mul_right C hx
theorem Al {C x y x' y':Nat}(hy:y<C)(hy':y'<C):x * C+y=x' * C+y'↔x=x'∧y=y' :=
 ⟨fun h=>by
  have h1:(x * C+y) / C=x:=by rw[Nat.mul_comm,Nat.mul_add_div oM,Nat.div_eq_of_lt hy,Nat.add_zero]
  have h2:(x' * C+y') / C=x':=by rw[Nat.mul_comm,Nat.mul_add_div oM,Nat.div_eq_of_lt hy',Nat.add_zero]
  have h3:x=x':=by rw[← h1,← h2,h]
  subst h3;exact⟨rfl,oM⟩,fun ⟨h1,h2⟩=>by rw[h1,h2]⟩
theorem nM {L:List Int}{R C x y x' y':Nat}(hL:L.length=R * C)(hx:x<R)(hy:y<C)(hy':y'<C)(v:Int):atF (L.set (x * C+y) v) C x' y'=if x=x'∧y=y' then v else atF L C x' y':=by
 unfold atF;rw[zg5,zg5,List.getElem?_set];by_cases h:x=x'∧y=y'
 ·rw[zf5 ((Al hy hy').2 h),zf5 h,zf5 (by rw[hL]; exact jm hx hy)];rfl
 ·rw[zf4 (fun e=>h ((Al hy hy').1 e)),zf4 h]
theorem jn {L:List Int}{R C x y:Nat}(hL:L.length=R * C)(hx:x<R)(hy:y<C):L[x * C+y]?=some (atF L C x y):=by
 have:=jm hx hy;unfold atF;rw[zg5,gE oM];rfl
def Ov (p:Int)(ov:List Int):Prop:=ov.length=998∧∀ i:Nat,i<8→ov.getD i 0=0∨(0<ov.getD i 0∧ov.getD i 0<p∧(ov.getD i 0 * i) % p=1)
def zq (bm:Nat)(p:Int)(R C:Nat)(v:Value):Ent:=⟨some bm,fun oo=>∃ ov,Ov p ov∧oo=some (.cells (mB p R C v ov) 258 (0,0))⟩
theorem qW {g:PH}{s:Own}{bm:Nat}{p:Int}{R C o:Nat}{v u:Value}(i:Nat)(hi:s[i]?=some (zq bm p R C v))(hu:[vi p,vi R,vi C,v][o]?=some u):eH g s ⟨bm,o,none⟩ u:=fun E w hw=>by
 have:=hw.own _ (zf6 hi);simp only[zq,Option.bind_some] at this;obtain ⟨ov,_,h⟩:=this;have ho:o<4:=(ze9.1 hu).1;have h2:(mB p R C v ov)[o]?=some u:=by
  rw[← hu];unfold mB
  match o,ho with
  | 0,_=>rfl
  | 1,_=>rfl
  | 2,_=>rfl
  | 3,_=>rfl
 simp[World.cell?,h,h2]
def iJ (p:Int)(R C b cE bm:Nat)(L:List Int)(s:Own):Own:=rowA encInt 3 (.slice (some ⟨b,0,none⟩) (R * C) cE) L::zq bm p R C (.slice (some ⟨b,0,none⟩) (R * C) cE)::s
theorem dX (E:World)(g:PH)(s:Own)(p:Int)(R C b cE bm i:Nat)(L:List Int)(hR:R≤400)(hC:C≤400)(hC0:0<C)(hi:i<R)(hc:R * C≤cE) :
  Ctr Tryz.prog E 215 #[pp bm 0,vi i] g (iJ p R C b cE bm L s) (fun x g' s'=>x=jE b i C cE∧g=g'∧s'=iJ p R C b cE bm L s):=by
 have hm:=Ce hR hC;have h1:=ke (C:=C) hi;have h2:(i+1) * C=i * C+C:=by rw[Nat.add_mul,Nat.one_mul]
 have hsl:=x7 (b:=b) hC0 (zj8 h1 hc);unfold iJ;refine za9 (args:=[pp bm 0,vi i]) func215 I ntmps215 (bE I) ?_;refine rZ (aT I (sQ ?_));refine dW [] [(0,2),(1,2),(2,2),(3,2),(4,1),(5,2),(6,2),(7,2),(8,2),(9,2),(10,1),(11,2),(12,2),(13,2),(14,2),(15,2),(16,2),(17,2),(18,1),(19,2),(20,2),(21,2)] zd7 kR ?_;refine yM I (pU I (nC I) (pU I (fA lD I dh I) (pU I (fA dK I cR I) (pK I (qL (v:=.slice (some ⟨b,0,none⟩) (R * C) cE) eC I (qW 1 I I)) (yM I (yM I (pU I (nC I) (pU I (fA lD I dh I) (pU I (fA dK I zT3 I) (pK I (qL (v:=vi C) iT3 I (qW 1 I I)) (pU I (SU.eq (v':=vi ((i * C:Nat))) (SU.mulW I I) (zd6 vi (by rw[← Int.natCast_mul]; exact zk1 _ oM))) ?_)))))))))));refine yM I (pU I (SU.eq (v':=vi ((i+1:Nat))) (aD I I oM) (zd6 vi oM)) (yM I (pU I (nC I) (pU I (fA lD I dh I) (pU I (fA dK I zT3 I) (pK I (qL (v:=vi C) iT3 I (qW 1 I I)) (pU I (SU.eq (v':=vi (((i+1) * C:Nat))) (SU.mulW I I) (zd6 vi (by rw[← Int.natCast_mul]; exact zk1 _ oM))) ?_)))))));refine pU I (SU.eq (v':=jE b i C cE) (SU.sliceLH aj zT3 I I I oM oM oM) (by rw[← hsl]; rfl)) ?_;refine pU I (aS I) (pN (tN (rE ?_)));exact za6 (.inl I) results215 I ⟨I,I,I⟩
def swF (i j x:Nat):Nat:=if x=i then j else if x=j then i else x
theorem Et (i j:Nat):swF i j i=j:=zf5 rfl
theorem Gm (i j:Nat):swF i j j=i:=by
 unfold swF;split
 ·rename_i h; exact h
 ·rw[zf5 rfl]
theorem Gl {i j x:Nat}(h1:x≠i)(h2:x≠j):swF i j x=x:=by
 unfold swF;rw[zf4 h1,zf4 h2]
theorem yU (E:World)(g:PH)(s:Own)(p:Int)(R C b cE bm i j:Nat)(L:List Int)(hR:R≤400)(hC:C≤400)(hC0:0<C)(hi:i<R)(hj:j<R)(hc:R * C≤cE)(hL:L.length=R * C) :
  Ctr Tryz.prog E 216 #[pp bm 0,vi i,vi j] g (iJ p R C b cE bm L s) (fun _ g' s'=>g=g'∧∃ L',s'=iJ p R C b cE bm L' s∧L'.length=R * C∧∀ x<R,∀ y<C,atF L' C x y=atF L C (swF i j x) y):=by
 have hm:=Ce hR hC;have hi1:=ke (C:=C) hi;have hj1:=ke (C:=C) hj;have hi2:(i+1) * C=i * C+C:=by rw[Nat.add_mul,Nat.one_mul]
 have hj2:(j+1) * C=j * C+C:=by rw[Nat.add_mul,Nat.one_mul]
 refine za9 (args:=[pp bm 0,vi i,vi j]) func216 I ntmps216 (bE I) ?_;refine sW I (lM I (lW (cL call215 I (dX E g s p R C b cE bm i L hR hC hC0 hi hc)) ?_));rintro _ _ _ ⟨rfl,rfl,rfl⟩;refine lM I (lM I (lW (cL call215 I (dX E g s p R C b cE bm j L hR hC hC0 hj hc)) ?_));rintro _ _ _ ⟨rfl,rfl,rfl⟩;refine lA I (aT I (sW I (lU (SU.eq (v':=vi (C:Nat)) (eM aj I I) I) (lM I (tZ (bK ?_))))));refine oP (ι:=Nat×List Int) (fun z=>[(6,jE b i C cE),(7,jE b j C cE),(16,vi C),(17,vi z.1)]) (fun _=>g) (fun z=>iJ p R C b cE bm z.2 s) (fun z=>z.1≤C∧z.2.length=R * C∧∀ x<R,∀ y<C,atF z.2 C x y=if y<z.1 then atF L C (swF i j x) y else atF L C x y) (fun z=>C - z.1) (0,L) sB I I ⟨zf1 _,hL,fun x _ y _=>by simp⟩ ?_;rintro ⟨k,M⟩ ⟨hk,hM,hz⟩;dsimp only at hk hM hz ⊢;refine rZ (yL I (tZ (sQ ?_)));refine iP I (fun hlt=>?_) (fun hlt=>?_)
 ·have hkC:k<C:=oM;have gi:=jn hM hi hkC;have gj:=jn hM hj hkC;unfold iJ;refine kP (tN (sQ (bK (sW I (aT I ?_)))));refine dW [13,15] [(0,2),(1,2),(2,2),(3,2),(4,2),(5,2),(6,2),(7,1),(8,2),(9,2),(10,2),(11,1),(12,2),(13,0),(14,2),(15,0)] zd7 kR ?_;refine yM I (yM I (yM I (yM I (yM I (yM I (pU I (SU.eq (v':=.pointer (some ⟨b,0+(j * C+k) * 1,none⟩)) (iA aj zT3 I I I oM (by simp only[jE,slen]; omega)) (eT (by simp only[Int.toNat_natCast]; omega))) ?_))))));refine pK I (eB (j:=j * C+k) iT3 I (zb5 0 I) gj I) (yM I (yM I (pU I (SU.eq (v':=.pointer (some ⟨b,0+(i * C+k) * 1,none⟩)) (iA aj zT3 I I I oM (by simp only[jE,slen]; omega)) (eT (by simp only[Int.toNat_natCast]; omega))) ?_)));refine pK I (eB (j:=i * C+k) iT3 I (zb5 0 I) gi I) (pU I (SU.eq (v':=.pointer (some ⟨b,0+(i * C+k) * 1,none⟩)) (iA aj zT3 I I I oM (by simp only[jE,slen]; omega)) (eT (by simp only[Int.toNat_natCast]; omega))) ?_);refine SP.on I (sT (e:=encInt) (a:=atF M C j k) (j:=i * C+k) 0 zT3 I I I (by rw[hM]; exact jm hi hkC) I) (.inl dC) ?_;rintro _ _ _ ⟨rfl,rfl⟩;refine pU I (SU.eq (v':=.pointer (some ⟨b,0+(j * C+k) * 1,none⟩)) (iA aj zT3 I I I oM (by simp only[jE,slen]; omega)) (eT (by simp only[Int.toNat_natCast]; omega))) ?_;refine SP.on I (sT (e:=encInt) (a:=atF M C i k) (j:=j * C+k) 0 zT3 I I I (by rw[zh7,hM]; exact jm hj hkC) I) (.inl dC) ?_;rintro _ _ _ ⟨rfl,rfl⟩;refine pN (bN (tN (rG (yD I (lM I (nL ?_))))));have h1:(M.set (i * C+k) (atF M C j k)).length=R * C:=by rw[zh7,hM]
  exact ST.again (k+1,(M.set (i * C+k) (atF M C j k)).set (j * C+k) (atF M C i k)) sB I I ⟨by dsimp only; omega,by dsimp only; rw[zh7,h1],fun x hx y hy=>by
   dsimp only;rw[nM h1 hj hkC hy,nM hM hi hkC hy,hz x hx y hy,hz i hi k hkC,hz j hj k hkC,zf4 (Nat.lt_irrefl k),zf4 (Nat.lt_irrefl k)];by_cases e1:j=x∧k=y
   ·obtain ⟨e1,e0⟩:=e1;subst e1;subst e0;rw[zf5 ⟨rfl,rfl⟩,zf5 (Nat.lt_succ_self k),Gm]
   ·rw[zf4 e1];by_cases e2:i=x∧k=y
    ·obtain ⟨e2,e0⟩:=e2;subst e2;subst e0;rw[zf5 ⟨rfl,rfl⟩,zf5 (Nat.lt_succ_self k),Et]
    ·rw[zf4 e2];by_cases e3:y<k
     ·rw[zf5 e3,zf5 (Nat.lt_succ_of_lt e3)]
     ·rw[zf4 e3];by_cases e4:y=k
      ·subst e4;rw[zf5 (Nat.lt_succ_self y),Gl (fun e=>e2 ⟨e.symm,rfl⟩) (fun e=>e1 ⟨e.symm,rfl⟩)]
      ·rw[zf4 (show ¬ y<k+1 by omega)]⟩ (by dsimp only; omega)
 ·refine xI (tX (tX (bX ?_)));have hkC:k=C:=oM;subst hkC;exact ST.ret0 (.inr I) results216 ⟨I,M,I,hM,fun x hx y hy=>by rw[hz x hx y hy,zf5 hy]⟩
theorem qH (E:World)(g:PH)(s:Own)(p:Int)(R C b cE bm i:Nat)(L:List Int)(hR:R≤400)(hC:C≤400)(hC0:0<C)(hi:i<R)(hc:R * C≤cE)(hL:L.length=R * C)(fn:FuncId)(fst:Array Value)(F:Nat→Int→Int)
  (hF:∀ L',L'.length=R * C→(∀ x<R,x≠i→∀ y<C,atF L' C x y=atF L C x y)→∀ k<C,Cs Tryz.prog E (.func (.func fn) fst #[]) [vi k,vi (atF L C i k)] g (iJ p R C b cE bm L' s) (fun x g' s'=>x=vi (F k (atF L C i k))∧g=g'∧s'=iJ p R C b cE bm L' s)) :
  Ctr Tryz.prog E 217 #[jE b i C cE,.func (.func fn) fst #[]] g (iJ p R C b cE bm L s) (fun _ g' s'=>g=g'∧∃ L',s'=iJ p R C b cE bm L' s∧L'.length=R * C∧∀ x<R,∀ y<C,atF L' C x y=if x=i then F y (atF L C i y) else atF L C x y):=by
 have hm:=Ce hR hC;have hi1:=ke (C:=C) hi;have hi2:(i+1) * C=i * C+C:=by rw[Nat.add_mul,Nat.one_mul]
 refine za9 (args:=[jE b i C cE,.func (.func fn) fst #[]]) func217 I ntmps217 (bE I) ?_;refine sW I (lU (SU.eq (v':=vi (C:Nat)) (eM aj I I) I) (lM I (tZ (bK ?_))));refine oP (ι:=Nat×List Int) (fun z=>[(0,jE b i C cE),(1,.func (.func fn) fst #[]),(6,jE b i C cE),(7,vi C),(8,vi z.1)]) (fun _=>g) (fun z=>iJ p R C b cE bm z.2 s) (fun z=>z.1≤C∧z.2.length=R * C∧∀ x<R,∀ y<C,atF z.2 C x y=if x=i∧y<z.1 then F y (atF L C i y) else atF L C x y) (fun z=>C - z.1) (0,L) sB I I ⟨zf1 _,hL,fun x _ y _=>by simp⟩ ?_;rintro ⟨k,M⟩ ⟨hk,hM,hz⟩;dsimp only at hk hM hz ⊢;refine rZ (yL I (tZ (sQ ?_)));refine iP I (fun hlt=>?_) (fun hlt=>?_)
 ·have hkC:k<C:=oM;have gi:=jn hM hi hkC;rw[hz i hi k hkC,zf4 oM] at gi;have hcall:=hF M hM (fun x hx hne y hy=>by rw[hz x hx y hy,zf4 (fun e=>hne e.1)]) k hkC;unfold iJ at hcall ⊢;refine kP (tN (sQ (bK (sW I (lU (SU.eq (v':=.pointer (some ⟨b,0+(i * C+k) * 1,none⟩)) (iA aj zT3 I I I oM (by simp only[jE,slen]; omega)) (eT (by simp only[Int.toNat_natCast]; omega))) ?_)))));refine lK (eB (j:=i * C+k) iT3 I (zb5 0 I) gi I) (lA I (aT I (rG (lM I (lM I (lM I (lM I (lM I (lW (SO.callB I I hcall) ?_)))))))));rintro _ _ _ ⟨rfl,rfl,rfl⟩;refine lU (SU.eq (v':=.pointer (some ⟨b,0+(i * C+k) * 1,none⟩)) (iA aj zT3 I I I oM (by simp only[jE,slen]; omega)) (eT (by simp only[Int.toNat_natCast]; omega))) ?_;refine oZ (sT (e:=encInt) (a:=F k (atF L C i k)) (j:=i * C+k) 0 zT3 I I I (by rw[hM]; exact jm hi hkC) I) ?_;refine nL (bN (tN (rG (yD I (lM I (nL ?_))))));exact ST.again (k+1,M.set (i * C+k) (F k (atF L C i k))) sB I I ⟨by dsimp only; omega,by dsimp only; rw[zh7,hM],fun x hx y hy=>by
   dsimp only;rw[nM hM hi hkC hy,hz x hx y hy];by_cases e1:i=x∧k=y
   ·obtain ⟨rfl,rfl⟩:=e1;rw[zf5 ⟨rfl,rfl⟩,zf5 ⟨rfl,oM⟩]
   ·rw[zf4 e1];by_cases e2:x=i∧y<k
    ·rw[zf5 e2,zf5 ⟨e2.1,oM⟩]
    ·rw[zf4 e2,zf4 (fun e=>e2 ⟨e.1,by
      have:¬ k=y:=fun e3=>e1 ⟨e.1.symm,e3⟩;omega⟩)]⟩ (by dsimp only; omega)
 ·refine xI (tX (tX (bX ?_)));have hkC:k=C:=oM;subst hkC;exact ST.ret0 (.inr I) results217 ⟨I,M,I,hM,fun x hx y hy=>by
   rw[hz x hx y hy];by_cases e:x=i
   ·rw[zf5 ⟨e,hy⟩,zf5 e]
   ·rw[zf4 (fun k=>e k.1),zf4 e]⟩
theorem vk {a b p:Int}(h7:p≤7)(ha:0≤a)(ha1:a<p)(hb:0≤b)(hb1:b<p):0≤a * b∧a * b≤49:=by
 refine⟨Int.mul_nonneg ha hb,?_⟩;have h1:a * b≤7 * 7:=Int.mul_le_mul oM oM hb dC;omega
theorem wb (E:World)(g:PH)(s:Own)(p t n:Int)(k:Nat)(h2:2≤p)(h7:p≤7)(ht:0≤t)(ht1:t<p)(hn:0≤n)(hn1:n<p) :
  Cs Tryz.prog E (.func (.func 219) #[.agg #[.slice none 0 0,vi t,vi p]] #[]) [vi k,vi n] g s (fun x g' s'=>x=vi (n * t % p)∧g=g'∧s'=s):=by
 have hb:=vk h7 hn hn1 ht ht1;refine⟨_,_,I,call219,?_⟩;show Ctr _ _ _ #[.agg #[.slice none 0 0,vi t,vi p],vi k,vi n] _ _ _;refine za9 (args:=[.agg #[.slice none 0 0,vi t,vi p],vi k,vi n]) func219 I ntmps219 (bE I) ?_;refine rZ (bW (bO I) fun b3=>?_);refine aT I (sW I (lU (fA underlying263 I zT3 I) (lK (qL iT3 I (cO 0 I I)) (lU (SU.eq (v':=vi (n * t)) (SU.mulW I I) (zd6 vi (zk1 _ oM))) (lU (fA underlying263 I zT3 I) (lK (qL iT3 I (cO 0 I I)) (lU (SU.eq (v':=vi (n * t % p)) (zd3 I I oM) (zd6 vi (Int.tmod_eq_emod_of_nonneg hb.1))) (aT I (rE (dR (s':=s) uR ?_))))))))));exact za6 (.inl I) results219 I ⟨I,I,I⟩
theorem BJ (E:World)(g:PH)(s:Own)(p t n:Int)(R C b cE bm i k:Nat)(L:List Int)(h2:2≤p)(h7:p≤7)(ht:0≤t)(ht1:t<p)(hn:0≤n)(hn1:n<p)(hL:L.length=R * C)(hi:i<R)(hk:k<C)(hr:0≤atF L C i k)(hr1:atF L C i k<p)(hR:R≤400)(hC:C≤400) :
  Cs Tryz.prog E (.func (.func 220) #[.agg #[jE b i C cE,vi t,vi p]] #[]) [vi k,vi n] g (iJ p R C b cE bm L s) (fun x g' s'=>x=vi ((n+atF L C i k * t) % p)∧g=g'∧s'=iJ p R C b cE bm L s):=by
 have hm:=Ce hR hC;have hi1:=ke (C:=C) hi;have hi2:(i+1) * C=i * C+C:=by rw[Nat.add_mul,Nat.one_mul]
 have hb:=vk h7 hr hr1 ht ht1;have gi:=jn hL hi hk;refine⟨_,_,I,call220,?_⟩;show Ctr _ _ _ #[.agg #[jE b i C cE,vi t,vi p],vi k,vi n] _ _ _;unfold iJ;refine za9 (args:=[.agg #[jE b i C cE,vi t,vi p],vi k,vi n]) func220 I ntmps220 (bE I) ?_;refine rZ (bW (bO I) fun b3=>?_);refine aT I (sQ ?_);refine dW [] [(0,2),(1,2),(2,1),(3,2),(4,2),(5,1),(6,2),(7,1),(8,2),(9,2),(10,2),(11,1),(12,2),(13,2)] zd7 kR ?_;refine yM I (pU I (fA underlying263 I cR I) (pK I (qL (v:=jE b i C cE) eC I (cO 0 I I)) (yM I (pU I (SU.eq (v':=.pointer (some ⟨b,0+(i * C+k) * 1,none⟩)) (iA aj zT3 I I I oM (by simp only[jE,slen]; omega)) (eT (by simp only[Int.toNat_natCast]; omega))) ?_))));refine pK I (eB (j:=i * C+k) iT3 I (zb5 1 I) gi I) (pU I (fA underlying263 I zT3 I) (pK I (qL iT3 I (cO 0 I I)) (pU I (SU.eq (v':=vi (atF L C i k * t)) (SU.mulW I I) (zd6 vi (zk1 _ oM))) (pU I (aD I I oM) (pU I (fA underlying263 I zT3 I) (pK I (qL iT3 I (cO 0 I I)) (pU I (SU.eq (v':=vi ((n+atF L C i k * t) % p)) (zd3 I I oM) (zd6 vi (Int.tmod_eq_emod_of_nonneg oM))) (pU I (aS I) (pN (tN (rE (dR (s':=_::_::s) (.cons _ (.refl _)) ?_))))))))))));exact za6 (.inl I) results220 I ⟨I,I,I⟩
def zj (p:Int)(z:Int×Int×Int):Int×Int×Int:=(if z.2.2 % 2=1 then z.1 * z.2.1 % p else z.1,z.2.1 * z.2.1 % p,z.2.2 / 2)
def Cz (p:Int):Nat→Int×Int×Int→Int
 | 0,z=>z.1
 | f+1,z=>if z.2.2=0 then z.1 else Cz p f (zj p z)
def zu (p n:Int):Int:=Cz p 3 (1,n,p - 2)
theorem E6 {p n:Int}(hp:Fp p)(h0:0<n)(h1:n<p):0<zu p n∧zu p n<p∧zu p n * n % p=1:=by
 have key:∀ p:Nat,p<8→(p=2∨p=3∨p=5∨p=7)→∀ n:Nat,n<p→0<n→0<zu p n∧zu p n<p∧zu p n * n % p=1:=by decide
 have hl:=hp.lt;have:=key p.toNat oM (by unfold Fp at hp; omega) n.toNat oM oM;rwa [Int.toNat_of_nonneg oM,Int.toNat_of_nonneg oM] at this
theorem BG {p:Int}{k:Nat}{z:Int×Int×Int}(h:z.2.2=0):Cz p k z=z.1:=by
 cases k with
 | zero=>rfl
 | succ k=>unfold Cz; rw[zf5 h]
theorem Fn:∀ e:Nat,e<8→IntKind.i64.wrap (BitVec.ofInt IntKind.i64.bits (e:Int) &&& BitVec.ofInt IntKind.i64.bits 1).toNat=(e:Int) % 2:=by decide
theorem EI:∀ e:Nat,e<8→(e:Int).fdiv (2 ^ min (1:Int).toNat IntKind.i64.bits)=(e:Int) / 2:=by decide
theorem DP {e:Int}(h:0≤e)(h8:e<8):IntKind.i64.wrap (BitVec.ofInt IntKind.i64.bits e &&& BitVec.ofInt IntKind.i64.bits 1).toNat=e % 2:=by
 have:=Fn e.toNat oM;rwa [Int.toNat_of_nonneg h] at this
theorem zT {e:Int}(h:0≤e)(h8:e<8):e.fdiv (2 ^ min (1:Int).toNat IntKind.i64.bits)=e / 2:=by
 have:=EI e.toNat oM;rwa [Int.toNat_of_nonneg h] at this
theorem nK {a p:Int}(h2:2≤p):0≤a % p∧a % p<p:=⟨Int.emod_nonneg _ oM,Int.emod_lt_of_pos _ oM⟩
theorem C4 {p:Int}{R C n:Nat}{v:Value}{ov:List Int}(h:n<ov.length):(mB p R C v ov)[0+4+n * 1]?=some (vi (ov.getD n 0)):=by
 unfold mB;rw[show 0+4+n * 1=n+4 by omega];simp[zg5,gE h]
theorem C3 {p:Int}{R C n:Nat}{v:Value}{ov:List Int}(x:Int):(mB p R C v ov).setIfInBounds (0+4+n * 1) (vi x)=mB p R C v (ov.set n x):=by
 unfold mB;rw[show 0+4+n * 1=n+4 by omega];simp[List.map_set]
theorem Ov.set {p:Int}{ov:List Int}(h:Ov p ov){n:Nat}(hn:n<8){x:Int}(h0:0<x)(h1:x<p)(h2:x * n % p=1):Ov p (ov.set n x):=by
 refine⟨by rw[zh7]; exact h.1,fun i hi=>?_⟩;rw[zg5,List.getElem?_set];by_cases e:n=i
 ·subst e;rw[zf5 rfl,zf5 (by rw[h.1]; omega)];exact .inr ⟨h0,h1,h2⟩
 ·rw[zf4 e,← zg5];exact h.2 i hi
section
variable {P:Program}{N:Nat}{E:World}{Q:Exit→Act→World→Prop}{f:Fr}{g:PH}{s:Own}{bm:Nat}{p:Int}{R C:Nat}{v:Value}
theorem SC.openRed {c:Code}(i:Nat)(hi:s[i]?=some (zq bm p R C v))(h:∀ ov,Ov p ov→SC P N E c Q f g (s.set i (pt bm (.cells (mB p R C v ov) 258 (0,0))))):SC P N E c Q f g s:=fun a w ha hw=>by
 have h1:=hw.own _ (zf6 hi);have hf:=hw.fresh _ (zf6 hi);simp only[zq,Option.bind_some] at h1;obtain ⟨ov,hov,h2⟩:=h1;exact h ov hov a w ha (hw.turn hi I ⟨I,lR _⟩ I (lR _) (fun _ _ _=>I) (by simpa [pt] using h2) (fun b' hb'=>⟨(hf b' hb').2,.inl hb'⟩))
theorem ph {w:World}{ov:List Int}(i:Nat)(hi:s[i]?=some (pt bm (.cells (mB p R C v ov) 258 (0,0))))(hov:Ov p ov)(hw:At E g s w):At E g (s.set i (zq bm p R C v)) w:=by
 have h1:=hw.own _ (zf6 hi);have hf:=hw.fresh _ (zf6 hi);exact hw.turn hi I ⟨I,lR _⟩ I (lR _) (fun _ _ _=>I) ⟨ov,hov,by simpa [pt,zq] using h1⟩ (fun b' hb'=>⟨(hf b' hb').2,.inl hb'⟩)
theorem ST.closeRed {e:Exit}{ov:List Int}(i:Nat)(hi:s[i]?=some (pt bm (.cells (mB p R C v ov) 258 (0,0))))(hov:Ov p ov)(h:ST N E Q e f g (s.set i (zq bm p R C v))):ST N E Q e f g s:=fun a w ha hw=>h a w ha (ph i hi hov hw)
end
theorem uK (E:World)(g:PH)(s:Own)(p n:Int)(hp:Fp p)(R C b cE bm:Nat)(L:List Int)(h0:0<n)(h1:n<p) :
  Ctr Tryz.prog E 218 #[pp bm 0,vi n] g (iJ p R C b cE bm L s) (fun x g' s'=>(∃ o,x=vi o∧0<o∧o<p∧o * n % p=1)∧g=g'∧s'=iJ p R C b cE bm L s):=by
 have hl:=hp.lt;have hok:=E6 hp h0 h1;have hn:((n.toNat:Nat):Int)=n:=Int.toNat_of_nonneg oM;unfold iJ;refine za9 (args:=[pp bm 0,vi n]) func218 I ntmps218 (bE I) ?_;refine SC.openRed 1 I fun ov hov=>?_;have hg:=C4 (p:=p) (R:=R) (C:=C) (v:=.slice (some ⟨b,0,none⟩) (R * C) cE) (ov:=ov) (n:=n.toNat) (by rw[hov.1]; omega);have hon:=hov.2 n.toNat oM;rw[hn] at hon;refine rZ (aT I (sQ (sW I (lM I (lU (nC I) (lU (fA lD I sizeOf256 I) (lU (SU.indexAddrA underlying256 zT3 I I oM oM) (lK (qL (v:=vi (ov.getD n.toNat 0)) iT3 I (cO 1 I hg)) (lU (gR I I) (tZ ?_))))))))));refine iP I (fun hpos=>?_) (fun hpos=>?_)
 ·refine sW I (lM I (lU (nC I) (lU (fA lD I sizeOf256 I) (lU (SU.indexAddrA underlying256 zT3 I I oM oM) (lK (qL (v:=vi (ov.getD n.toNat 0)) iT3 I (cO 1 I hg)) (aT I (rE (tR ?_))))))));have hon2:0<ov.getD n.toNat 0∧ov.getD n.toNat 0<p∧ov.getD n.toNat 0 * n % p=1:=by
   rcases hon with h | h
   ·omega
   ·exact h
  refine ST.closeRed 1 I hov ?_;exact za6 (.inl I) results218 I ⟨⟨_,I,hon2⟩,I,I⟩
 ·refine kP (tN (sW I (lA I (aT I (sQ (sW I (lU (nC I) (lU (fA lD I dh I) (lU (fA dK I zT3 I) (lK (qL (v:=vi p) iT3 I (cO 1 I I)) (lU (sU I I oM) (aT I (bK ?_)))))))))))));refine oP (ι:=Nat×Int×Int×Int) (fun z=>[(0,pp bm 0),(1,vi n),(5,vi z.2.1),(6,vi z.2.2.1),(7,vi z.2.2.2)]) (fun _=>g) (fun _=>rowA encInt 3 (.slice (some ⟨b,0,none⟩) (R * C) cE) L::pt bm (.cells (mB p R C (.slice (some ⟨b,0,none⟩) (R * C) cE) ov) 258 (0,0))::s) (fun z=>Cz p z.1 z.2=zu p n∧0≤z.2.1∧z.2.1<p∧0≤z.2.2.1∧z.2.2.1<p∧0≤z.2.2.2∧z.2.2.2<2 ^ z.1∧z.1≤3) (fun z=>z.2.2.2.toNat) (3,1,n,p - 2) sB I I ⟨I,by dsimp only; omega,by dsimp only; omega,by dsimp only; omega,by dsimp only; omega,by dsimp only; omega,by show p - 2<8; omega,lR _⟩ ?_;rintro ⟨k,o,w,e⟩ ⟨hf,ho0,ho1,hw0,hw1,he0,he1,hk3⟩;dsimp only at hf ho0 ho1 hw0 hw1 he0 he1 hk3 ⊢;have he8:e<8:=by
   have:k=0∨k=1∨k=2∨k=3:=oM
   rcases this with h | h | h | h <;> subst h <;> (first | (have h2:(2:Int) ^ 0=1:=rfl; omega) | (have h2:(2:Int) ^ 1=2:=rfl; omega) | (have h2:(2:Int) ^ 2=4:=rfl; omega) | (have h2:(2:Int) ^ 3=8:=rfl; omega))
  have hb1:=vk hl.2 ho0 ho1 hw0 hw1;have hb2:=vk hl.2 hw0 hw1 hw0 hw1;have hm1:=nK (a:=o * w) hl.1;have hm2:=nK (a:=w * w) hl.1;refine sQ (sW I (lU (gR I I) (tZ ?_)));refine iP I (fun hgt=>?_) (fun hgt=>?_)
  ·have hk:∃ k',k=k'+1:=by
    cases k with
    | zero=>rw[Int.pow_zero] at he1; omega
    | succ k'=>exact⟨k',rfl⟩
   obtain ⟨k',rfl⟩:=hk;have hne:¬ e=0:=oM;have hf2:Cz p k' (zj p (o,w,e))=zu p n:=by
    rw[← hf];show _=if e=0 then o else Cz p k' (zj p (o,w,e))
    rw[zf4 hne]
   have he2:e / 2<2 ^ k':=by
    have:(2:Int) ^ (k'+1)=2 ^ k' * 2:=Int.pow_succ 2 k';omega
   refine kP (tN (sQ (bK (sQ (sW I (lU (SU.eq (v':=vi (e % 2)) (SU.and I I) (zd6 vi (DP he0 he8))) (yE I (tZ ?_))))))));refine iP I (fun hodd=>?_) (fun hodd=>?_)
   ·refine rG (lM I (lM I (lU (SU.eq (v':=vi (o * w)) (SU.mulW I I) (zd6 vi (zk1 _ oM))) (lM I (lU (nC I) (lU (fA lD I dh I) (lU (fA dK I zT3 I) (lK (qL (v:=vi p) iT3 I (cO 1 I I)) (lU (SU.eq (v':=vi (o * w % p)) (zd3 I I oM) (zd6 vi (Int.tmod_eq_emod_of_nonneg hb1.1))) (aT I (rG (lM I (lM I (lU (SU.eq (v':=vi (w * w)) (SU.mulW I I) (zd6 vi (zk1 _ oM))) (lM I (lU (nC I) (lU (fA lD I dh I) (lU (fA dK I zT3 I) (lK (qL (v:=vi p) iT3 I (cO 1 I I)) (lU (SU.eq (v':=vi (w * w % p)) (zd3 I I oM) (zd6 vi (Int.tmod_eq_emod_of_nonneg hb2.1))) (lA I (nL (bN (tN (rG (lM I (lU (SU.eq (v':=vi (e / 2)) (SU.shr I I dC) (zd6 vi (zT he0 he8))) ?_)))))))))))))))))))))))))));refine lA I (nL ?_);unfold zj at hf2;rw[zf5 hodd] at hf2;exact ST.again (k',o * w % p,w * w % p,e / 2) sB I I ⟨hf2,hm1.1,hm1.2,hm2.1,hm2.2,by dsimp only; omega,he2,by dsimp only; omega⟩ (by dsimp only; omega)
   ·refine kP (tN (rG (lM I (lM I (lU (SU.eq (v':=vi (w * w)) (SU.mulW I I) (zd6 vi (zk1 _ oM))) (lM I (lU (nC I) (lU (fA lD I dh I) (lU (fA dK I zT3 I) (lK (qL (v:=vi p) iT3 I (cO 1 I I)) (lU (SU.eq (v':=vi (w * w % p)) (zd3 I I oM) (zd6 vi (Int.tmod_eq_emod_of_nonneg hb2.1))) (lA I (nL (bN (tN (rG (lM I (lU (SU.eq (v':=vi (e / 2)) (SU.shr I I dC) (zd6 vi (zT he0 he8))) (lA I (nL ?_))))))))))))))))))));unfold zj at hf2;rw[zf4 hodd] at hf2;exact ST.again (k',o,w * w % p,e / 2) sB I I ⟨hf2,ho0,ho1,hm2.1,hm2.2,by dsimp only; omega,he2,by dsimp only; omega⟩ (by dsimp only; omega)
  ·have he:e=0:=oM;subst he;rw[BG rfl] at hf;have hf:o=zu p n:=hf;rw[← hf] at hok;have hl2:n.toNat<(mB p R C (.slice (some ⟨b,0,none⟩) (R * C) cE) ov).size - 4:=by
    unfold mB;simp[hov.1];omega
   refine xI (tX (tX (bX (tN (sW I (lM I (lM I (lU (nC I) (lU (fA lD I sizeOf256 I) (lU (SU.eq (v':=pp bm (0+4+n.toNat * 1)) (SU.indexAddrA underlying256 zT3 I I oM oM) I) (oZ (SO.store1 1 zT3 I I I I oM I) (tZ (sW I (aT I (rE ?_)))))))))))))));rw[C3];refine ST.closeRed 1 I (hov.set (n:=n.toNat) oM hok.1 hok.2.1 (by rw[hn]; exact hok.2.2)) ?_;exact za6 (.inl I) results218 I ⟨⟨_,I,hok⟩,I,I⟩
theorem Ew (w:World):(zeroValue 258).run Tryz.prog w = .ok (.agg (vi 0::vi 0::vi 0 :: .slice none 0 0::(List.replicate 998 (vi 0))).toArray) w:=by kernel_rfl
theorem Tryz.build258 (p:Int)(r c:Nat)(q:Option Addr)(n k:Nat)(w:World):(Instr.build 258 #[(0,.agg #[vi p,vi r,vi c,.slice q n k])]).run Tryz.prog w = .ok (.agg (mB p r c (.slice q n k) (List.replicate 998 0))) w:=by
 have h1:(Value.agg #[vi p,vi r,vi c,.slice q n k]).cells = #[vi p,vi r,vi c,.slice q n k]:=rfl;have h2:∀ l:List Value,(Value.agg (vi 0::vi 0::vi 0 :: .slice none 0 0::l).toArray).cells=(vi 0::vi 0::vi 0 :: .slice none 0 0::l).toArray:=fun _=>rfl;have hu:Tryz.prog.underlying 258=some (.struct (Tryz.prog.fieldsOf 258)):=by kernel_rfl
 have hf:Tryz.prog.fieldsOf 258 = #[(Tryz.prog.fieldsOf 258)[0]!,(Tryz.prog.fieldsOf 258)[1]!]:=by kernel_rfl
 have ho:((Tryz.prog.fieldsOf 258)[0]!).offset=0:=by kernel_rfl
 have ht:((Tryz.prog.fieldsOf 258)[0]!).type=201:=by kernel_rfl
 have ht2:((Tryz.prog.fieldsOf 258)[1]!).type=256:=by kernel_rfl
 simp only[Instr.build,Sem.run_bind,Ew,zc7,h2,run_underlying hu];rw[hf];simp[ho,ht,ht2,dh,sizeOf256,Instr.fill,h1,mB]
set_option maxHeartbeats 2000000
theorem Bb {α:Type}{k:Nat}{e:Enc α k}{E:World}{g:PH}{s:Own}{w:World}{T:TypeId}{v:Value}{l:List α}{i:Nat}(h:At E g s w)(hi:s[i]?=some (rowA e T v l))(hn:0<l.length):∃ b c,v = .slice (some ⟨b,0,none⟩) l.length c∧l.length≤c:=by
 obtain ⟨_,h2⟩:=gr h hi
 rcases h2 with ⟨p,rfl,hn'⟩ | ⟨b,cap,cur,rfl,_,h3,_⟩
 ·omega
 ·exact⟨b,cap+1,I,h3⟩
theorem Tryz.build263 (q:Option Addr)(n k:Nat)(t p:Int)(w:World):(Instr.build 263 #[(0,.slice q n k),(1,vi t),(2,vi p)]).run Tryz.prog w = .ok (.agg #[.slice q n k,vi t,vi p]) w:=by
 have h1:∀ n,(vi n).cells = #[vi n]:=fun _=>rfl;have h2:(Value.slice q n k).cells = #[.slice q n k]:=rfl;simp[Instr.build,Instr.fill,h1,h2];rfl
theorem FQ {i j x R:Nat}(hi:i<R)(hj:j<R)(hx:x<R):swF i j x<R:=by
 unfold swF;split
 ·exact hj
 ·split
  ·exact hi
  ·exact hx
def elG (p:Int)(L:List Int)(C at' c x y:Nat):Int:=if x≠at'∧0<atF L C x c then (atF L C x y+atF L C at' y * (p - atF L C x c)) % p else atF L C x y
theorem DA {p o:Int}{R C c i0:Nat}{A:Nat→Nat→Int}{L L1 L2 M:List Int}{J:List Nat}(h:lQ p A R C (atF L C) J c)(hc:c<C)(h1:J.length≤i0)(h2:i0<R)(hpos:∀ x<R,∀ y<C,0≤atF L C x y)(ho:o * atF L C i0 c % p=1)
  (hL1:∀ x<R,∀ y<C,atF L1 C x y=atF L C (swF J.length i0 x) y) (hL2:∀ x<R,∀ y<C,atF L2 C x y=if x=J.length then atF L1 C J.length y * o % p else atF L1 C x y)
  (hM:∀ x<R,∀ y<C,atF M C x y=elG p L2 C J.length c x y):lQ p A R C (atF M C) (J++[c]) (c+1):=by
 have hat:J.length<R:=oM;refine h.pivot (b:=o) hc h1 h2 ?_ fun x hx y hy=>?_
 ·refine⟨o * atF L C i0 c / p,?_⟩;have:=Int.emod_add_mul_ediv (o * atF L C i0 c) p;omega
 ·rw[hM x hx y hy];unfold elG;have e0:∀ y<C,Eqm p (atF L2 C J.length y) (o * atF L C i0 y):=fun y hy=>by
   rw[hL2 _ hat y hy,zf5 rfl,hL1 _ hat y hy,Et,Int.mul_comm o];exact rh _ _
  by_cases e:x=J.length
  ·subst e;rw[zf4 (fun k=>k.1 rfl),zf5 rfl];exact e0 y hy
  ·have hsw:swF J.length i0 x=if x=i0 then J.length else x:=by
    unfold swF;rw[zf4 e]
   have hlt:swF J.length i0 x<R:=by
    rw[hsw];split <;> omega
   have e1:∀ y<C,atF L2 C x y=atF L C (if x=i0 then J.length else x) y:=fun y hy=>by
    rw[hL2 x hx y hy,zf4 e,hL1 x hx y hy,hsw]
   rw[zf4 e,← e1 y hy,← e1 c hc];have hn:0≤atF L2 C x c:=by
    rw[e1 c hc,← hsw];exact hpos _ hlt c hc
   by_cases k:0<atF L2 C x c
   ·rw[zf5 ⟨e,k⟩];refine (rh _ _).trans ?_;have e2:Eqm p (atF L2 C J.length y * (p - atF L2 C x c)) (o * atF L C i0 y * (0 - atF L2 C x c)):=(e0 y hy).mul (Eqm.sub ⟨1,oM⟩ (.refl _));refine ((Eqm.refl (atF L2 C x y)).add e2).trans (Eqm.of ?_);rw[Int.mul_sub,Int.mul_zero,Int.mul_comm (o * atF L C i0 y)];omega
   ·rw[zf4 (fun q=>k q.2),show atF L2 C x c=0 by omega,Int.zero_mul,Int.sub_zero];exact .refl _
theorem uJ (E:World)(g:PH)(s:Own)(v:Value)(p:Int)(hp:Fp p)(R C:Nat)(hR:R≤400)(hC:C≤400)(h0:0<R * C)(A:List Int)(hA:A.length=R * C)(hv:FmR g v p R C A)(hA0:∀ x<R,∀ y<C,0≤atF A C x y∧atF A C x y<p) :
  Ctr Tryz.prog E 205 #[v] g s (fun x g' s'=>s=s'∧Le g g'∧∃ (J:List Nat) (m y:Value),x = .tuple #[.agg #[vi p,vi R,vi C,m],y]∧(∃ q n k,m = .slice q n k)∧cj g' y (J.map fun j:Nat=>(j:Int))∧J.length=rk p (atF A C) R C∧J.length≤R):=by
 obtain ⟨q,c0,rfl,hs⟩:=hv;have hm:=Ce hR hC;have hl:=hp.lt;have hC0:0<C:=Nat.pos_of_ne_zero fun e=>by rw[e,Nat.mul_zero] at h0; omega
 have hcap:=(SlA.cap hs).2;refine za9 (args:=[.agg #[vi p,vi R,vi C,.slice q A.length c0]]) func205 I ntmps205 (bE I) ?_;refine rZ (bW (bO I) fun b1=>?_);refine bW (aL zk4) fun b2=>?_;refine aT I (SC.scope (rZ (lU (fA dK I cR I) (lK (qL (v:=.slice q A.length c0) eC I (cO 1 I I)) (lW (cL call99 I (zF E g _ _ A hs oM)) ?_)))));rintro v13 _ _ ⟨rfl,rfl⟩;refine zc9 fun hx=>?_;obtain ⟨w0,hw0⟩:=hx;obtain ⟨b,cE,rfl,hcE⟩:=Bb hw0 (i:=0) rfl oM;rw[hA] at hcE ⊢;refine lU (fA dK I cR I) (oZ (SO.store1 2 cR I I I I (by show 3<4; decide) I) ?_);refine tZ (sQ ?_);refine SC.to (g':=g) (s':=rowA encInt 3 (.slice (some ⟨b,0,none⟩) (R * C) cE) A::pt b2 (.cells #[vi 0,vi 0,vi 0,.slice none 0 0] 201 (0,0))::pt b1 (.cells #[vi p,vi R,vi C,.slice (some ⟨b,0,none⟩) (R * C) cE] 201 (0,0))::s) (fun w hw=>hw) ?_;refine rG (lK (qV 2 isAgg201 dh I I I) (lU (za1 I (build258 _ _ _ _ _ _)) (bW (bO I) fun b17=>?_)));refine aT I (sQ ?_);refine SC.to (g':=g) (s':=iJ p R C b cE b17 A (rowA encInt 3 (.slice none 0 0) []::pt b2 (.cells #[vi 0,vi 0,vi 0,.slice none 0 0] 201 (0,0))::pt b1 (.cells #[vi p,vi R,vi C,.slice (some ⟨b,0,none⟩) (R * C) cE] 201 (0,0))::s)) (fun w hw=>((ph (p:=p) (R:=R) (C:=C) (v:=.slice (some ⟨b,0,none⟩) (R * C) cE) (ov:=List.replicate 998 0) 0 I ⟨by simp,fun i hi=>.inl (by rw[zg5,List.getElem?_replicate]; split <;> rfl)⟩ hw).nilRow 3 1).perm ((zj2 _ _ _).trans (((zj2 _ _ _).cons _).trans (zj2 _ _ _)))) ?_;refine rG (aT I (sQ (SC.label (tN (sQ (rZ (lU (fA dK I zT3 I) (lK (qL (v:=vi C) iT3 I (cO 4 I I)) (lM I (tZ (bK ?_)))))))))));refine oP (ι:=Nat×List Int×Value×List Nat) (fun z=>[(1,pp b1 0),(2,pp b2 0),(4,pp b17 0),(5,z.2.2.1),(19,vi C),(20,vi z.1)]) (fun _=>g) (fun z=>iJ p R C b cE b17 z.2.1 (rowA encInt 3 z.2.2.1 (z.2.2.2.map fun j:Nat=>(j:Int))::pt b2 (.cells #[vi 0,vi 0,vi 0,.slice none 0 0] 201 (0,0))::pt b1 (.cells #[vi p,vi R,vi C,.slice (some ⟨b,0,none⟩) (R * C) cE] 201 (0,0))::s)) (fun z=>z.1≤C∧z.2.1.length=R * C∧(∀ x<R,∀ y<C,0≤atF z.2.1 C x y∧atF z.2.1 C x y<p)∧lQ p (atF A C) R C (atF z.2.1 C) z.2.2.2 z.1) (fun z=>C - z.1) (0,A,.slice none 0 0,[]) sB I I ⟨zf1 _,hA,hA0,lQ.start _ _ _⟩ ?_;rintro ⟨c,L,pv,J⟩ ⟨hc,hL,hLp,hE⟩;dsimp only at hc hL hLp hE ⊢;have hJR:=hE.len;refine rZ (yL I (tZ (sQ ?_)));refine iP I (fun hlt=>?_) (fun hlt=>?_)
 ·have hcC:c<C:=oM;refine SC.facts fun hx=>?_;obtain ⟨w1,hw1⟩:=hx;obtain ⟨pq,pc,rfl⟩:=ag hw1 (i:=2) rfl;refine kP (tN (sQ (bK (sW I (aT I (sW I (lU (SU.eq (v':=vi (J.length:Nat)) (eN aj I) (by rw[ze1])) ?_)))))));refine aT I (sW I (aT I (bK ?_)));refine oP (ι:=Nat) (fun i=>[(1,pp b1 0),(2,pp b2 0),(4,pp b17 0),(5,.slice pq (J.map fun j:Nat=>(j:Int)).length pc),(6,vi c),(7,vi J.length),(8,vi i),(19,vi C),(20,vi c)]) (fun _=>g) (fun _=>iJ p R C b cE b17 L (rowA encInt 3 (.slice pq (J.map fun j:Nat=>(j:Int)).length pc) (J.map fun j:Nat=>(j:Int))::pt b2 (.cells #[vi 0,vi 0,vi 0,.slice none 0 0] 201 (0,0))::pt b1 (.cells #[vi p,vi R,vi C,.slice (some ⟨b,0,none⟩) (R * C) cE] 201 (0,0))::s)) (fun i=>J.length≤i∧i≤R∧∀ x,J.length≤x→x<i→atF L C x c=0) (fun i=>R - i) J.length sB I I ⟨lR _,hJR,fun x h1 h2=>by omega⟩ ?_;rintro i ⟨hi1,hi2,hiz⟩;refine sQ (sW I (lU (fA dK I zT3 I) (lK (qL (v:=vi R) iT3 I (cO 4 I I)) (yL I (tZ ?_)))));refine iP I (fun hlt2=>?_) (fun hlt2=>?_)
  ·have hiR:i<R:=oM;have hin1:=ke (C:=C) hiR;have hin2:(i+1) * C=i * C+C:=by rw[Nat.add_mul,Nat.one_mul]
   have gi:=jn hL hiR hcC;have hb0:=hLp i hiR c hcC;refine kP (tN (sQ (bK (sQ (sW I (lM I (lW (cL call215 I (dX E g _ p R C b cE b17 i L hR hC hC0 hiR hcE)) ?_)))))));rintro _ _ _ ⟨rfl,rfl,rfl⟩;unfold iJ;refine lM I (lU (SU.eq (v':=.pointer (some ⟨b,0+(i * C+c) * 1,none⟩)) (iA aj zT3 I I I oM (by simp only[jE,slen]; omega)) (eT (by simp only[Int.toNat_natCast]; omega))) ?_);refine lK (eB (j:=i * C+c) iT3 I (zb5 0 I) gi I) (yE I (tZ ?_));refine iP I (fun hz=>?_) (fun hz=>?_)
   ·refine xI (tX (bX (tN (rG (lM I (yD I (lA I (nL ?_))))))));exact ST.again (i+1) sB I I ⟨oM,oM,fun x h1 h2=>by
     by_cases e:x=i
     ·rw[e]; exact hz
     ·exact hiz x h1 oM⟩ oM
   ·have hJi:J.length<R:=oM;have hat1:=ke (C:=C) hJi;have hat2:(J.length+1) * C=J.length * C+C:=by rw[Nat.add_mul,Nat.one_mul]
    refine kP (tN (sW I (lM I (lM I (lW (cL call216 I (yU E g _ p R C b cE b17 J.length i L hR hC hC0 hJi hiR hcE hL)) ?_)))));rintro _ _ _ ⟨rfl,L1,rfl,hL1,hat⟩;have ga:=jn hL1 hJi hcC;rw[hat _ hJi c hcC,Et] at ga;have hL1p:∀ x<R,∀ y<C,0≤atF L1 C x y∧atF L1 C x y<p:=(fun x hx y hy=>by rw[hat x hx y hy]; exact hLp _ (FQ hJi hiR hx) y hy);refine tZ (sQ ?_);refine dW [15] [(0,2),(1,2),(3,2),(4,2),(5,2),(7,2),(11,2),(12,1),(2,0),(6,0),(8,2),(9,1),(10,0),(13,2),(14,2),(15,0)] zd7 kR ?_;refine yM I (yM I (yM I (yM I (yM I (yM I (pU I (fA dK I zT3 I) (pK I (qL (v:=vi p) iT3 I (cO 4 I I)) (SP.o I (cL call215 I (dX E g _ p R C b cE b17 J.length L1 hR hC hC0 hJi hcE)) dC (.inr iR) ?_))))))));rintro _ _ _ ⟨rfl,rfl,rfl⟩;refine SP.o I (cL call215 I (dX E g _ p R C b cE b17 J.length L1 hR hC hC0 hJi hcE)) dC (.inr iR) ?_;rintro _ _ _ ⟨rfl,rfl,rfl⟩;refine pU I (SU.eq (v':=.pointer (some ⟨b,0+(J.length * C+c) * 1,none⟩)) (iA aj zT3 I I I oM (by simp only[jE,slen]; omega)) (eT (by simp only[Int.toNat_natCast]; omega))) ?_;refine pK I (eB (j:=J.length * C+c) iT3 I (zb5 0 I) ga I) (SP.o I (cL call218 I (uK E g _ p (atF L C i c) hp R C b cE b17 L1 oM hb0.2)) dC (.inr iR) ?_);rintro _ _ _ ⟨⟨o,rfl,ho0,ho1,ho2⟩,rfl,rfl⟩;refine pU I (za1 I (build263 _ _ _ _ _)) (pU I (SU.mkFuncB I) (SP.o I (cL call217 I (qH E g _ p R C b cE b17 J.length L1 hR hC hC0 hJi hcE hL1 _ _ (fun _ n=>n * o % p) fun L' _ _ k hk=>wb E g _ p o _ k hl.1 hl.2 oM ho1 (hL1p _ hJi k hk).1 (hL1p _ hJi k hk).2)) dC (.inl dC) ?_));rintro _ _ _ ⟨rfl,L2,rfl,hL2,hat2'⟩;refine pN (tN (sQ (rZ (lU (fA dK I zT3 I) (lK (qL (v:=vi R) iT3 I (cO 4 I I)) (lM I (tZ (bK ?_))))))));have hL2p:∀ x<R,∀ y<C,0≤atF L2 C x y∧atF L2 C x y<p:=fun x hx y hy=>by
     rw[hat2' x hx y hy];split
     ·exact nK hl.1
     ·exact hL1p x hx y hy
    refine oP (ι:=Nat×List Int) (fun z=>[(1,pp b1 0),(2,pp b2 0),(4,pp b17 0),(5,.slice pq (J.map fun j:Nat=>(j:Int)).length pc),(6,vi c),(7,vi J.length),(19,vi C),(20,vi c),(60,vi R),(61,vi z.1)]) (fun _=>g) (fun z=>iJ p R C b cE b17 z.2 (rowA encInt 3 (.slice pq (J.map fun j:Nat=>(j:Int)).length pc) (J.map fun j:Nat=>(j:Int))::pt b2 (.cells #[vi 0,vi 0,vi 0,.slice none 0 0] 201 (0,0))::pt b1 (.cells #[vi p,vi R,vi C,.slice (some ⟨b,0,none⟩) (R * C) cE] 201 (0,0))::s)) (fun z=>z.1≤R∧z.2.length=R * C∧∀ x<R,∀ y<C,atF z.2 C x y=if x<z.1 then elG p L2 C J.length c x y else atF L2 C x y) (fun z=>R - z.1) (0,L2) sB I I ⟨zf1 _,hL2,fun x _ y _=>by simp⟩ ?_;rintro ⟨k,M⟩ ⟨hk,hM,hMz⟩;dsimp only at hk hM hMz ⊢;refine rZ (yL I (tZ (sQ ?_)));refine iP I (fun hlt3=>?_) (fun hlt3=>?_)
    ·have hkR:k<R:=oM;have hk1:=ke (C:=C) hkR;have hk2:(k+1) * C=k * C+C:=by rw[Nat.add_mul,Nat.one_mul]
     have gk:=jn hM hkR hcC;rw[hMz k hkR c hcC,zf4 (Nat.lt_irrefl k)] at gk;have hkp:=hL2p k hkR;have hkc:=hkp c hcC;have hrowat:∀ y<C,atF M C J.length y=atF L2 C J.length y:=fun y hy=>by
      rw[hMz _ hJi y hy];unfold elG;split
      ·rw[zf4 fun q=>q.1 rfl]
      ·rfl
     have hstep:∀ M2:List Int,(∀ x<R,∀ y<C,atF M2 C x y=if x=k then elG p L2 C J.length c k y else atF M C x y)→∀ x<R,∀ y<C,atF M2 C x y=if x<k+1 then elG p L2 C J.length c x y else atF L2 C x y:=fun M2 h x hx y hy=>by
      rw[h x hx y hy];by_cases e:x=k
      ·subst e;rw[zf5 rfl,zf5 (Nat.lt_succ_self _)]
      ·rw[zf4 e,hMz x hx y hy];by_cases e2:x<k
       ·rw[zf5 e2,zf5 (Nat.lt_succ_of_lt e2)]
       ·rw[zf4 e2,zf4 (show ¬ x<k+1 by omega)]
     by_cases hne:k=J.length
     ·refine kP (tN (sQ (bK (sW I (aT I (sW I (lM I (lW (cL call215 I (dX E g _ p R C b cE b17 k M hR hC hC0 hkR hcE)) ?_))))))));rintro _ _ _ ⟨rfl,rfl,rfl⟩;unfold iJ;refine lM I (lU (SU.eq (v':=.pointer (some ⟨b,0+(k * C+c) * 1,none⟩)) (iA aj zT3 I I I oM (by simp only[jE,slen]; omega)) (eT (by simp only[Int.toNat_natCast]; omega))) ?_);refine lK (eB (j:=k * C+c) iT3 I (zb5 0 I) gk I) (aT I (sW I (lM I (lU (SU.eq (v':=vb false) (nQ I I) (zd6 vb (zf2 oM))) (lM I (yA I (yA I (yF I (tZ (cF I (kP (bN (tN (rG (yD I (lM I (nL ?_)))))))))))))))));exact ST.again (k+1,M) sB I I ⟨by dsimp only; omega,hM,hstep M fun x hx y hy=>by
       by_cases e:x=k
       ·subst e;rw[zf5 rfl,hMz x hx y hy,zf4 (Nat.lt_irrefl x)];unfold elG;rw[zf4 fun q=>q.1 hne]
       ·rw[zf4 e]⟩ (by dsimp only; omega)
     ·by_cases hpos:0<atF L2 C k c
      ·refine kP (tN (sQ (bK (sW I (aT I (sW I (lM I (lW (cL call215 I (dX E g _ p R C b cE b17 k M hR hC hC0 hkR hcE)) ?_))))))));rintro _ _ _ ⟨rfl,rfl,rfl⟩;unfold iJ;refine lM I (lU (SU.eq (v':=.pointer (some ⟨b,0+(k * C+c) * 1,none⟩)) (iA aj zT3 I I I oM (by simp only[jE,slen]; omega)) (eT (by simp only[Int.toNat_natCast]; omega))) ?_);refine lK (eB (j:=k * C+c) iT3 I (zb5 0 I) gk I) (aT I (sW I (lM I (lU (SU.eq (v':=vb true) (nQ I I) (zd6 vb (zf3 oM))) (lM I (yC I (lY I I I (SU.eq (v':=vb true) (gR I I) (zd6 vb (zf3 hpos))) (yP I (tZ (cT I ?_))))))))));refine dW [14] [(0,2),(1,2),(3,2),(4,2),(6,2),(7,1),(8,2),(9,2),(10,2),(11,1),(2,0),(5,0),(12,2),(13,2),(14,0)] zd7 kR ?_;refine yM I (yM I (yM I (yM I (pU I (fA dK I zT3 I) (pK I (qL (v:=vi p) iT3 I (cO 4 I I)) (yM I (pU I (sU I I oM) (pU I (fA dK I zT3 I) (pK I (qL (v:=vi p) iT3 I (cO 4 I I)) (SP.o I (cL call215 I (dX E g _ p R C b cE b17 k M hR hC hC0 hkR hcE)) dC (.inr iR) ?_))))))))));rintro _ _ _ ⟨rfl,rfl,rfl⟩;refine SP.o I (cL call215 I (dX E g _ p R C b cE b17 J.length M hR hC hC0 hJi hcE)) dC (.inr iR) ?_;rintro _ _ _ ⟨rfl,rfl,rfl⟩;refine pU I (za1 I (build263 _ _ _ _ _)) (pU I (SU.mkFuncB I) (SP.o I (cL call217 I (qH E g _ p R C b cE b17 k M hR hC hC0 hkR hcE hM _ _ (fun y n=>(n+atF L2 C J.length y * (p - atF L2 C k c)) % p) fun L' hL' hrow y hy=>by have e1:atF L' C J.length y=atF L2 C J.length y:=(hrow _ hJi (fun e=>hne e.symm) y hy).trans (hrowat y hy); have e2:atF M C k y=atF L2 C k y:=(hMz k hkR y hy).trans (zf4 (Nat.lt_irrefl k)); have h3:=BJ E g (rowA encInt 3 (.slice pq (J.map fun j:Nat=>(j:Int)).length pc) (J.map fun j:Nat=>(j:Int))::pt b2 (.cells #[vi 0,vi 0,vi 0,.slice none 0 0] 201 (0,0))::pt b1 (.cells #[vi p,vi R,vi C,.slice (some ⟨b,0,none⟩) (R * C) cE] 201 (0,0))::s) p (p - atF L2 C k c) (atF M C k y) R C b cE b17 J.length y L' hl.1 hl.2 (by have:=(hkp c hcC).2; omega) oM (by rw[e2]; exact (hkp y hy).1) (by rw[e2]; exact (hkp y hy).2) hL' hJi hy (by rw[e1]; exact (hL2p _ hJi y hy).1) (by rw[e1]; exact (hL2p _ hJi y hy).2) hR hC; rw[e1] at h3; exact h3)) dC (.inl dC) ?_));rintro _ _ _ ⟨rfl,M2,rfl,hM2,hat3⟩;refine pN (bN (tN (rG (yD I (lM I (nL ?_))))));exact ST.again (k+1,M2) sB I I ⟨by dsimp only; omega,hM2,hstep M2 fun x hx y hy=>by
        rw[hat3 x hx y hy];split
        ·rename_i e;subst e;unfold elG;rw[zf5 ⟨hne,hpos⟩,hMz x hkR y hy,zf4 (Nat.lt_irrefl x)]
        ·rfl⟩ (by dsimp only; omega)
      ·refine kP (tN (sQ (bK (sW I (aT I (sW I (lM I (lW (cL call215 I (dX E g _ p R C b cE b17 k M hR hC hC0 hkR hcE)) ?_))))))));rintro _ _ _ ⟨rfl,rfl,rfl⟩;unfold iJ;refine lM I (lU (SU.eq (v':=.pointer (some ⟨b,0+(k * C+c) * 1,none⟩)) (iA aj zT3 I I I oM (by simp only[jE,slen]; omega)) (eT (by simp only[Int.toNat_natCast]; omega))) ?_);refine lK (eB (j:=k * C+c) iT3 I (zb5 0 I) gk I) (aT I (sW I (lM I (lU (SU.eq (v':=vb true) (nQ I I) (zd6 vb (zf3 oM))) (lM I (yC I (lY I I I (SU.eq (v':=vb false) (gR I I) (zd6 vb (zf2 hpos))) (yP I (tZ (cF I (kP (bN (tN (rG (yD I (lM I (nL ?_)))))))))))))))));exact ST.again (k+1,M) sB I I ⟨by dsimp only; omega,hM,hstep M fun x hx y hy=>by
        by_cases e:x=k
        ·subst e;rw[zf5 rfl,hMz x hx y hy,zf4 (Nat.lt_irrefl x)];unfold elG;rw[zf4 fun q=>hpos q.2]
        ·rw[zf4 e]⟩ (by dsimp only; omega)
    ·have hkk:k=R:=oM;subst hkk;have hpiv:=DA hE hcC hi1 hiR (fun x hx y hy=>(hLp x hx y hy).1) ho2 hat (fun x hx y hy=>hat2' x hx y hy) (fun x hx y hy=>by rw[hMz x hx y hy,zf5 hx]);unfold iJ;refine xI (tX (tX (bX (tN (sW I (lM I (lW (bS sty25 I I I (ab ⟨I,trivial⟩) dC) ?_)))))));rintro _ _ _ ⟨b95,rfl,rfl,rfl⟩;refine lW (aP (e:=encInt) (l:=J.map fun j:Nat=>(j:Int)) 2 (c:Int) sty25 I I I I I (by rw[ze1]; omega) (by rw[ze1]; omega)) ?_;rintro v96 _ _ ⟨rfl,rfl⟩;refine aT I (xI (ST.blockO dC (tX (tX (ST.blockO dC (bX (tN (rG (yD I (lM I (nL ?_)))))))))));refine ST.to (g':=g) (s':=iJ p k C b cE b17 M (rowA encInt 3 v96 ((J++[c]).map fun j:Nat=>(j:Int))::pt b2 (.cells #[vi 0,vi 0,vi 0,.slice none 0 0] 201 (0,0))::pt b1 (.cells #[vi p,vi k,vi C,.slice (some ⟨b,0,none⟩) (k * C) cE] 201 (0,0))::s)) (fun w hw=>by rw[zf9]; exact hw) ?_;exact ST.again (c+1,M,v96,J++[c]) sB I I ⟨by dsimp only; omega,hM,fun x hx y hy=>by
      dsimp only;rw[hMz x hx y hy,zf5 hx];unfold elG;split
      ·exact nK hl.1
      ·exact hL2p x hx y hy,hpiv⟩ (by dsimp only; omega)
  ·refine xI (tX (tX (bX (bN (tN (rG (yD I (lM I (nL ?_)))))))));have hiR:i=R:=oM;subst hiR;exact ST.again (c+1,L,_,J) sB I I ⟨by dsimp only; omega,hL,hLp,hE.none fun x h1 h2=>by
    rw[hiz x h1 h2];exact .refl _⟩ (by dsimp only; omega)
 ·have hcC:c=C:=oM;subst hcC;unfold iJ;refine xI (tX (tX (bX (tN (sW I (lU (nC I) (lU (fA lD I dh I) (lK (SQ.loadAggAt (b:=b17) (o:=0) (vs:=[vi p,vi R,vi c,.slice (some ⟨b,0,none⟩) (R * c) cE]) isAgg201 dh I I (fun j x hj=>by rw[Nat.zero_add]; exact qW (p:=p) (R:=R) (C:=c) (v:=.slice (some ⟨b,0,none⟩) (R * c) cE) 1 I hj)) ?_))))))));refine lM I (oZ (sK 3 dh I I I I I sB) (aT I (rE (ST.scopeR (ST.perm (s':=rowA encInt 3 pv (J.map fun j:Nat=>(j:Int))::rowA encInt 3 (.slice (some ⟨b,0,none⟩) (R * c) cE) L::zq b17 p R c (.slice (some ⟨b,0,none⟩) (R * c) cE)::pt b2 (.cells #[vi p,vi R,vi c,.slice (some ⟨b,0,none⟩) (R * c) cE] 201 (0,0))::pt b1 (.cells #[vi p,vi R,vi c,.slice (some ⟨b,0,none⟩) (R * c) cE] 201 (0,0))::s) (((zj2 _ _ _).cons _).trans (zj2 _ _ _)) ?_)))));refine fT fun g5 hle5 hs5=>?_;exact ST.retCD1 2 s (.inl I) results205 I I isAgg201 dh I I uR ⟨I,hle5,J,_,_,I,⟨_,_,_,I⟩,hs5,(hE.rk hp.fld).symm,hJR⟩
set_option maxHeartbeats 1000000
theorem EU {g:PH}{s:Own}{bm:Nat}{p:Int}{R C o:Nat}{v u:Value}{ov:List Int}(i:Nat)(hi:s[i]?=some (pt bm (.cells (mB p R C v ov) 258 (0,0))))(hu:[vi p,vi R,vi C,v][o]?=some u):eH g s ⟨bm,o,none⟩ u:=eH.own i hi (by
 have ho:o<4:=(ze9.1 hu).1;rw[← hu];unfold mB
 match o,ho with
 | 0,_=>rfl
 | 1,_=>rfl
 | 2,_=>rfl
 | 3,_=>rfl)
theorem uI (E:World)(g:PH)(s:Own)(v:Value)(p:Int)(R C:Nat)(hR:R≤400)(hC:C≤400)(h0:R * C=0)(A:List Int)(hA:A.length=R * C)(hv:FmR g v p R C A) :
  Ctr Tryz.prog E 205 #[v] g s (fun x g' s'=>s=s'∧Le g g'∧∃ (m y:Value),x = .tuple #[.agg #[vi p,vi R,vi C,m],y]∧(∃ q n k,m = .slice q n k)∧cj g' y []):=by
 obtain ⟨q,c0,rfl,hs⟩:=hv;have hA0:A=[]:=List.length_eq_zero_iff.1 oM;subst hA0;have hRC:R=0∨C=0:=Nat.mul_eq_zero.1 h0;refine za9 (args:=[.agg #[vi p,vi R,vi C,.slice q 0 c0]]) func205 I ntmps205 (bE I) ?_;refine rZ (bW (bO I) fun b1=>?_);refine bW (aL zk4) fun b2=>?_;refine aT I (SC.scope (rZ (lU (fA dK I cR I) (lK (qL (v:=.slice q 0 c0) eC I (cO 1 I I)) (lW (cL call99 I (zF E g _ _ [] hs dC)) ?_)))));rintro v13 _ _ ⟨rfl,rfl⟩;refine zc9 fun hx=>?_;obtain ⟨w0,hw0⟩:=hx;obtain ⟨q1,cE,rfl⟩:=ag hw0 (i:=0) rfl;refine lU (fA dK I cR I) (oZ (SO.store1 2 cR I I I I (by show 3<4; decide) I) ?_);refine tZ (sQ ?_);refine SC.to (g':=g) (s':=pt b2 (.cells #[vi 0,vi 0,vi 0,.slice none 0 0] 201 (0,0))::pt b1 (.cells #[vi p,vi R,vi C,.slice q1 0 cE] 201 (0,0))::s) (fun w hw=>hw.sublist (.cons _ (.refl _))) ?_;refine rG (lK (qV 1 isAgg201 dh I I I) (lU (za1 I (build258 _ _ _ _ _ _)) (bW (bO I) fun b17=>?_)));refine aT I (rZ (aT I (sQ (SC.label (tN (sQ (rZ (lU (fA dK I zT3 I) (lK (qL (v:=vi C) iT3 I (cO 2 I I)) (lM I (tZ (bK ?_))))))))))));refine oP (ι:=Nat) (fun z=>[(1,pp b1 0),(2,pp b2 0),(4,pp b17 0),(5,.slice none 0 0),(19,vi C),(20,vi z)]) (fun _=>g) (fun _=>pt b17 (.cells (mB p R C (.slice q1 0 cE) (List.replicate 998 0)) 258 (0,0))::pt b2 (.cells #[vi 0,vi 0,vi 0,.slice none 0 0] 201 (0,0))::pt b1 (.cells #[vi p,vi R,vi C,.slice q1 0 cE] 201 (0,0))::s) (fun z=>z≤C) (fun z=>C - z) 0 sB I I (zf1 _) ?_;rintro c hc;refine rZ (yL I (tZ (sQ ?_)));refine iP I (fun hlt=>?_) (fun hlt=>?_)
 ·have hR0:R=0:=oM;subst hR0;refine kP (tN (sQ (bK (sW I (aT I (sW I (lU (eN aj I) (aT I (sW I (aT I (bK ?_)))))))))));refine oP (ι:=Nat) (fun i=>[(1,pp b1 0),(2,pp b2 0),(4,pp b17 0),(5,.slice none 0 0),(6,vi c),(7,vi 0),(8,vi 0),(19,vi C),(20,vi c)]) (fun _=>g) (fun _=>pt b17 (.cells (mB p 0 C (.slice q1 0 cE) (List.replicate 998 0)) 258 (0,0))::pt b2 (.cells #[vi 0,vi 0,vi 0,.slice none 0 0] 201 (0,0))::pt b1 (.cells #[vi p,vi (0:Nat),vi C,.slice q1 0 cE] 201 (0,0))::s) (fun _=>True) (fun i=>0) 0 sB I I trivial ?_;rintro i _;refine sQ (sW I (lU (fA dK I zT3 I) (lK (qL (v:=vi (0:Nat)) iT3 I (cO 2 I I)) (yL I (tZ ?_)))));refine iP I (fun hlt2=>?_) (fun hlt2=>?_)
  ·exact absurd hlt2 dC
  ·refine xI (tX (tX (bX (bN (tN (rG (yD I (lM I (nL ?_)))))))));exact ST.again (c+1) sB I I oM oM
 ·have hcC:c=C:=oM;subst hcC;refine xI (tX (tX (bX (tN (sW I (lU (nC I) (lU (fA lD I dh I) (lK (SQ.loadAggAt (b:=b17) (o:=0) (vs:=[vi p,vi R,vi c,.slice q1 0 cE]) isAgg201 dh I I (fun j x hj=>by rw[Nat.zero_add]; exact EU 0 I hj)) ?_))))))));refine lM I (oZ (sK 1 dh I I I I I sB) (aT I (rE (ST.scopeR ?_))));exact ST.retCD1 1 s (.inl I) results205 I I isAgg201 dh I I uR ⟨I,zb7 _,_,_,I,⟨_,_,_,I⟩,zb8 g _⟩
theorem C0 {p:Int}(hp:Fld p){R C:Nat}(h:R * C=0)(A:Nat→Nat→Int):rk p A R C=0:=by
 rcases Nat.mul_eq_zero.1 h with rfl | rfl
 ·have:=nE hp A 0 C; omega
 ·have:=z6 hp A R 0; omega
theorem uH (E:World)(g:PH)(s:Own)(v:Value)(p:Int)(hp:Fp p)(R C:Nat)(hR:R≤400)(hC:C≤400)(A:List Int)(hA:A.length=R * C)(hv:FmR g v p R C A)(hA0:∀ x<R,∀ y<C,0≤atF A C x y∧atF A C x y<p) :
  Ctr Tryz.prog E 205 #[v] g s (fun x g' s'=>s=s'∧Le g g'∧∃ (J:List Nat) (m y:Value),x = .tuple #[.agg #[vi p,vi R,vi C,m],y]∧(∃ q n k,m = .slice q n k)∧cj g' y (J.map fun j:Nat=>(j:Int))∧J.length=rk p (atF A C) R C∧J.length≤R):=by
 by_cases h0:R * C=0
 ·refine (uI E g s v p R C hR hC h0 A hA hv).mono ?_;rintro x g' s' ⟨h1,h2,m,y,h3,h4,h5⟩;exact⟨h1,h2,[],m,y,h3,h4,h5,(C0 hp.fld h0 _).symm,zf1 _⟩
 ·exact uJ E g s v p hp R C hR hC (Nat.pos_of_ne_zero h0) A hA hv hA0
theorem Fk {A:List Int}{R C x y:Nat}(hA:A.length=R * C)(hx:x<R)(hy:y<C):atF A C x y∈A:=zf6 (jn hA hx hy)
theorem sE (E:World)(g:PH)(s:Own)(v:Value)(p:Int)(hp:Fp p)(R C:Nat)(hR:R≤400)(hC:C≤400)(A:List Int)(hA:A.length=R * C)(hv:FmR g v p R C A)(hA0:∀ x∈A,0≤x∧x<p) :
  Ctr Tryz.prog E 186 #[v] g s (fun x g' s'=>s=s'∧Le g g'∧∃ (J:List Nat) (m y:Value),x = .tuple #[.agg #[vi p,vi R,vi C,m],y]∧(∃ q n k,m = .slice q n k)∧cj g' y (J.map fun j:Nat=>(j:Int))∧J.length=rk p (atF A C) R C∧J.length≤R):=by
 have hv0:=hv;obtain ⟨q,c0,rfl,hs⟩:=hv;refine za9 (args:=[.agg #[vi p,vi R,vi C,.slice q A.length c0]]) func186 I ntmps186 (bE I) ?_;refine rZ (bW (bO I) fun b1=>?_);refine bW (aL zk4) fun b2=>?_;refine aT I (sQ (rZ (lK (qV 1 isAgg201 dh I I I) (lW (cL call204 I (wc E g _ _ p hp R C hR hC A hA hv0 hA0)) ?_))));rintro _ _ _ ⟨rfl,rfl,rfl⟩;refine lU (SU.not I) (tZ (cF I (kP (tN (rZ (lK (qV 1 isAgg201 dh I I I) (lW (cL call205 I (uH E g _ _ p hp R C hR hC A hA hv0 fun x hx y hy=>hA0 _ (Fk hA hx hy))) ?_)))))));rintro _ g1 _ ⟨rfl,hle1,J,_,y,rfl,⟨mq,mn,mk,rfl⟩,hy1,hJ,hJR⟩;refine yX I (yX I (oZ (sK 0 dh I I I I I sB) (aT I (rE ?_))));exact ST.retCD1 0 s (.inl I) results186 I I isAgg201 dh I I uR ⟨I,hle1,J,_,y,I,⟨mq,mn,mk,I⟩,hy1,hJ,hJR⟩
theorem yV (E:World)(g:PH)(s:Own)(v:Value)(p:Int)(hp:Fp p)(R C:Nat)(hR:R≤400)(hC:C≤400)(A:List Int)(hA:A.length=R * C)(hv:FmR g v p R C A)(hA0:∀ x∈A,0≤x∧x<p) :
  Ctr Tryz.prog E 148 #[v] g s (fun x g' s'=>s=s'∧Le g g'∧x=vi (rk p (atF A C) R C:Nat)):=by
 have hv0:=hv;obtain ⟨q,c0,rfl,hs⟩:=hv;refine za9 (args:=[.agg #[vi p,vi R,vi C,.slice q A.length c0]]) func148 I ntmps148 (bE I) ?_;refine rZ (bW (bO I) fun b1=>?_);refine aT I (rZ (lK (qV 0 isAgg201 dh I I I) (lW (cL call186 I (sE E g _ _ p hp R C hR hC A hA hv0 hA0)) ?_)));rintro _ g1 _ ⟨rfl,hle1,J,_,y,rfl,⟨mq,mn,mk,rfl⟩,hy1,hJ,hJR⟩;obtain ⟨yp,yc,rfl⟩:=za2 hy1;refine lM I (yX I (yX I (bW (aL zk4) fun b3=>?_)));refine oZ (sK 0 dh I I I I I sB) (aT I (sW I (lU (SU.eq (v':=vi (rk p (atF A C) R C:Nat)) (eN aj I) (by rw[ze1,hJ])) ?_)));refine aT I (rE (dR (s':=s) uR ?_));exact za6 (.inl I) results148 I ⟨I,hle1,I⟩
def elM (M:List (List Int))(i j:Nat):Int:=(M.getD i []).getD j 0
theorem Ap {M:List (List Int)}{i j:Nat}(hi:i<M.length)(hj:j<M[i].length):elM M i j=M[i][j]:=by
 have h1:M.getD i []=M[i]:=by
  rw[zg5,gE hi];rfl
 unfold elM;rw[h1,zg5,gE hj];rfl
theorem Dy (E:World)(g:PH)(s:Own)(v:Value)(p:Int)(hp:Fp p)(M:List (List Int))(C:Nat)(hv:aM g v M)(hR:M.length≤400)(hC:C≤400)(hM:∀ r∈M,r.length=C)(hM0:M=[]→C=0)(hb:∀ r∈M,∀ x∈r,x.natAbs≤1000000) :
  Ctr Tryz.prog E 149 #[vi p,v] g s (fun x g' s'=>s=s'∧Le g g'∧∃ A,FmR g' x p M.length C A∧A.length=M.length * C∧(∀ y∈A,0≤y∧y<p)∧∀ i<M.length,∀ j<C,atF A C i j=elM M i j % p):=by
 obtain ⟨rs,hrs,hall⟩:=hv;have hlen:=hall.length;have hm:=Ce (show rs.length≤400 by omega) hC;have hl:=hp.lt;obtain ⟨q,c,rfl⟩:=za2 hrs;have row:∀ i (hi:i<rs.length),∃ (hi':i<M.length) (rp:Option Addr) (rc:Nat),rs[i]?=some ⟨rp,C,rc⟩∧cj g (.slice rp C rc) M[i]∧M[i].length=C:=fun i hi=>by
  have hi':i<M.length:=oM;have hx:=hM _ (gM hi');have h1:=hall.get (gE hi') (gE hi);have h2:=h1.len;generalize hr:rs[i]=r at *;obtain ⟨rp,rn,rc⟩:=r;dsimp only at h2;have h3:rn=C:=oM;subst h3;exact⟨hi',rp,rc,by rw[← hr]; exact gE hi,h1,hx⟩
 refine za9 (args:=[vi p,.slice q rs.length c]) func149 I ntmps149 (bE I) ?_;refine rZ (bW (aL zk4) fun b4=>?_);refine tZ (rZ (aT I (sQ (sW I (lU (eN ct I) (lM I (tZ (bK ?_))))))));refine oP (ι:=Nat) (fun k=>[(0,vi p),(1,.slice q rs.length c),(4,pp b4 0),(5,vi (if k=0 then 0 else C:Nat)),(13,.slice q rs.length c),(14,vi rs.length),(15,vi k)]) (fun _=>g) (fun _=>pt b4 (.cells #[vi 0,vi 0,vi 0,.slice none 0 0] 201 (0,0))::s) (fun k=>k≤rs.length) (fun k=>rs.length - k) 0 sB I I (zf1 _) ?_;rintro k hk;refine rZ (yL I (tZ (sQ ?_)));refine iP I (fun hlt=>?_) (fun hlt=>?_)
 ·have hkl:k<rs.length:=oM;obtain ⟨hi',rp,rc,hgr,hxs,hxl⟩:=row k hkl;have hb1:=za4 hrs oM;refine kP (tN (sQ (bK (rZ (lU (iA ct cR I I hb1 oM sL) (lK (eB (u:=.slice rp C rc) eC I (za5 hrs) hgr I) (aT I (rG (lM I (lM I (lU (eN aj I) (lU (SU.eq (v':=vi (C:Nat)) (SU.maxF I I) (zd6 vi (by split <;> omega))) ?_))))))))))));refine lA I (nL (bN (tN (rG (yD I (lM I (nL ?_)))))));exact ST.again (k+1) ⟨I,I,I,by rw[zf4 (Nat.succ_ne_zero k)]; rfl,rfl,rfl,rfl,trivial⟩ rfl rfl oM oM
 ·have hkk:k=rs.length:=oM;subst hkk;have hC1:(if rs.length=0 then 0 else C)=C:=by
   split
   ·rename_i e;exact (hM0 (List.length_eq_zero_iff.1 oM)).symm
   ·rfl
  rw[hC1];refine xI (tX (tX (bX (tN (sW I (lM I (lU (eN ct I) (lM I (lW (cL call187 I (Bw E g _ p hp rs.length C oM hC)) ?_)))))))));rintro _ _ _ ⟨rfl,bz,rfl,rfl⟩;refine bW (aL zk4) fun b8=>?_;refine oZ (sK 0 dh I I I I I sB) (tZ (sQ (sQ ?_)));refine SC.to (g':=g) (s':=pt b8 (.cells #[vi p,vi rs.length,vi C,.slice (some ⟨bz,0,none⟩) (rs.length * C) (rs.length * C)] 201 (0,0))::rowA encInt 3 (.slice (some ⟨bz,0,none⟩) (rs.length * C) (rs.length * C)) (List.replicate (rs.length * C) 0)::pt b4 (.cells #[vi 0,vi 0,vi 0,.slice none 0 0] 201 (0,0))::s) (fun w hw=>hw) ?_;refine rG (lU (fA dK I cR I) (lK (qL (v:=.slice (some ⟨bz,0,none⟩) (rs.length * C) (rs.length * C)) eC I (cO 0 I I)) (lU (eN aj I) (yE I (tZ ?_)))));refine iP I (fun he=>?_) (fun he=>?_)
  ·refine rZ (lK (qV 0 isAgg201 dh I I I) (oZ (sK 2 dh I I I I I sB) (tZ (rE (tR ?_)))));have hz:rs.length * C=0:=oM;refine ST.perm (zj2 _ _ _) (fT fun g5 hle5 hs5=>?_);exact ST.retCD 1 s (.inl I) results149 I isAgg201 dh I I uR ⟨I,hle5,List.replicate (rs.length * C) 0,⟨some ⟨bz,0,none⟩,rs.length * C,by rw[List.length_replicate,hlen]; rfl,by rw[List.length_replicate]; exact hs5⟩,by rw[List.length_replicate,hlen],fun y hy=>by rw[hz] at hy; simp at hy,fun i hi j hj=>by
    have:=jm hi hj;rw[hlen] at this;omega⟩
  ·have hpos:0<rs.length * C:=oM;refine kP (tN (sQ (sW I (lU (eN ct I) (lM I (tZ (bK ?_)))))));refine oP (ι:=Nat×List Int) (fun z=>[(0,vi p),(1,.slice q rs.length c),(4,pp b4 0),(5,vi C),(8,pp b8 0),(34,.slice q rs.length c),(35,vi rs.length),(36,vi z.1)]) (fun _=>g) (fun z=>pt b8 (.cells #[vi p,vi rs.length,vi C,.slice (some ⟨bz,0,none⟩) (rs.length * C) (rs.length * C)] 201 (0,0))::rowA encInt 3 (.slice (some ⟨bz,0,none⟩) (rs.length * C) (rs.length * C)) z.2::pt b4 (.cells #[vi 0,vi 0,vi 0,.slice none 0 0] 201 (0,0))::s) (fun z=>z.1≤rs.length∧z.2.length=rs.length * C∧(∀ y∈z.2,0≤y∧y<p)∧∀ x<z.1,∀ y<C,atF z.2 C x y=elM M x y % p) (fun z=>rs.length - z.1) (0,List.replicate (rs.length * C) 0) sB I I ⟨zf1 _,List.length_replicate,fun y hy=>by rw[List.eq_of_mem_replicate hy]; omega,fun x hx=>by omega⟩ ?_;rintro ⟨i,L⟩ ⟨hi,hL,hLp,hz⟩;dsimp only at hi hL hLp hz ⊢;refine rZ (yL I (tZ (sQ ?_)));refine iP I (fun hlt2=>?_) (fun hlt2=>?_)
   ·have hil:i<rs.length:=oM;obtain ⟨hi',rp,rc,hgr,hxs,hxl⟩:=row i hil;have hb1:=za4 hrs oM;have hin1:=ke (C:=C) hil;have hin2:(i+1) * C=i * C+C:=by rw[Nat.add_mul,Nat.one_mul]
    refine kP (tN (sQ (bK (sW I (lU (iA ct cR I I hb1 oM sL) (lK (eB (u:=.slice rp C rc) eC I (za5 hrs) hgr I) (lA I (aT I (sW I (lU (eN aj I) (lM I (tZ (bK ?_)))))))))))));refine oP (ι:=Nat×List Int) (fun z=>[(0,vi p),(1,.slice q rs.length c),(4,pp b4 0),(5,vi C),(8,pp b8 0),(9,vi i),(34,.slice q rs.length c),(35,vi rs.length),(36,vi i),(41,.slice rp C rc),(42,vi C),(43,vi z.1)]) (fun _=>g) (fun z=>pt b8 (.cells #[vi p,vi rs.length,vi C,.slice (some ⟨bz,0,none⟩) (rs.length * C) (rs.length * C)] 201 (0,0))::rowA encInt 3 (.slice (some ⟨bz,0,none⟩) (rs.length * C) (rs.length * C)) z.2::pt b4 (.cells #[vi 0,vi 0,vi 0,.slice none 0 0] 201 (0,0))::s) (fun z=>z.1≤C∧z.2.length=rs.length * C∧(∀ y∈z.2,0≤y∧y<p)∧(∀ x<i,∀ y<C,atF z.2 C x y=elM M x y % p)∧∀ y<z.1,atF z.2 C i y=elM M i y % p) (fun z=>C - z.1) (0,L) sB I I ⟨zf1 _,hL,hLp,hz,fun y hy=>by omega⟩ ?_;rintro ⟨j,K⟩ ⟨hj,hK,hKp,hz1,hz2⟩;dsimp only at hj hK hKp hz1 hz2 ⊢;refine rZ (yL I (tZ (sQ ?_)));refine iP I (fun hlt3=>?_) (fun hlt3=>?_)
    ·have hjC:j<C:=oM;have hij:=jm hil hjC;have hb2:=za4 hxs oM;have hjx:j<M[i].length:=oM;have hgk:M[i][((j:Nat):Int).toNat]?=some M[i][j]:=gE hjx;have hel:=Ap hi' hjx;have hbx:=hb _ (gM hi') _ (gM hjx);rw[← hel] at hgk hbx;generalize hn:elM M i j=n at *;have hmo:=nK (a:=n) hl.1;have ht:n.tmod p=n % p∨n.tmod p=n % p - p:=by
      rcases Int.le_total 0 n with h | h
      ·left; exact Int.tmod_eq_emod_of_nonneg h
      ·rw[Int.tmod_eq_emod];split
       ·left; omega
       ·right; omega
     have hmm:(n.tmod p+p).tmod p=n % p:=by
      rw[Int.tmod_eq_emod_of_nonneg oM]
      rcases ht with h | h <;> rw[h]
      ·rw[Int.add_emod_right,Int.emod_emod]
      ·rw[Int.sub_add_cancel,Int.emod_emod]
     refine kP (tN (sQ (bK (sW I (lU (iA aj zT3 I I hb2 oM sL) (lK (eB iT3 I (za5 hxs) hgk I) (lA I (aT I ?_))))))));refine dW [15] [(0,2),(1,1),(2,2),(3,2),(4,2),(5,2),(6,2),(7,2),(8,2),(9,2),(10,2),(11,2),(12,2),(13,2),(14,2),(15,0)] zd7 kR ?_;refine pU I (fA dK I cR I) (pK I (qL (v:=.slice (some ⟨bz,0,none⟩) (rs.length * C) (rs.length * C)) eC I (cO 0 I I)) (yM I (yM I (pU I (SU.eq (v':=vi ((i * C:Nat))) (SU.mulW I I) (zd6 vi (by rw[← Int.natCast_mul]; exact zk1 _ oM))) ?_))));refine yM I (pU I (SU.eq (v':=vi ((i * C+j:Nat))) (aD I I oM) (zd6 vi oM)) (yM I (yM I (pU I (zd3 I I oM) (yM I (pU I (aD I I oM) (yM I (pU I (SU.eq (v':=vi (n % p)) (zd3 I I oM) (zd6 vi hmm)) (pU I (SU.eq (v':=.pointer (some ⟨bz,0+(i * C+j) * 1,none⟩)) (iA aj zT3 I I I oM sL) (eT (by simp only[Int.toNat_natCast]))) ?_)))))))));refine SP.on I (sT (e:=encInt) (a:=n % p) (j:=i * C+j) 1 zT3 I I I (by rw[hK]; exact jm hil hjC) I) (.inl dC) ?_;rintro _ _ _ ⟨rfl,rfl⟩;refine pN (bN (tN (rG (yD I (lM I (nL ?_))))));exact ST.again (j+1,K.set (i * C+j) (n % p)) sB I I ⟨by dsimp only; omega,by dsimp only; rw[zh7,hK],fun y hy=>by
      rcases List.mem_or_eq_of_mem_set hy with h | h
      ·exact hKp y h
      ·rw[h]; exact hmo,fun x hx y hy=>by
      dsimp only;rw[nM hK hil hjC hy,zf4 (fun e=>by omega),hz1 x hx y hy],fun y hy=>by
      dsimp only at hy ⊢;have hyC:y<C:=oM;rw[nM hK hil hjC hyC];by_cases e:j=y
      ·subst e;rw[zf5 ⟨rfl,rfl⟩];rw[hn]
      ·rw[zf4 (fun k=>e k.2),hz2 y oM]⟩ (by dsimp only; omega)
    ·have hjC:j=C:=oM;subst hjC;refine xI (tX (tX (bX (bN (tN (rG (yD I (lM I (nL ?_)))))))));exact ST.again (i+1,K) sB I I ⟨by dsimp only; omega,hK,hKp,fun x hx y hy=>by
      dsimp only at hx;by_cases e:x=i
      ·rw[e]; exact hz2 y hy
      ·exact hz1 x oM y hy⟩ (by dsimp only; omega)
   ·have hii:i=rs.length:=oM;subst hii;refine xI (tX (tX (bX (tN (rZ (lK (qV 0 isAgg201 dh I I I) (oZ (sK 2 dh I I I I I sB) (tZ (rE (ST.perm (zj2 _ _ _) (fT fun g5 hle5 hs5=>?_)))))))))));exact ST.retCD 1 s (.inl I) results149 I isAgg201 dh I I uR ⟨I,hle5,L,⟨some ⟨bz,0,none⟩,rs.length * C,by rw[hL,hlen]; rfl,by rw[hL]; exact hs5⟩,by rw[hL,hlen],hLp,fun x hx y hy=>hz x oM y hy⟩
def tlB (L:List Cl):Nat→List (List Int)→Int→Nat
 | _,[],_=>0
 | k,t::T,id=>(if (eP L t).contains id then 2 ^ k else 0)+tlB L (k+1) T id
theorem zR (L:List Cl)(t:List Int)(id:Int):∀ (T:List (List Int)) (k:Nat),tlB L k (T++[t]) id=tlB L k T id+if (eP L t).contains id then 2 ^ (k+T.length) else 0
 | [],k=>by simp[tlB]
 | u::T,k=>by
  rw[List.cons_append];unfold tlB;rw[zR L t id T (k+1),ze3,Nat.add_assoc,Nat.add_comm 1,Nat.add_assoc]
theorem DY (L:List Cl)(id:Int):∀ (T:List (List Int)) (k:Nat),tlB L k T id+2 ^ k≤2 ^ (k+T.length)
 | [],k=>by simp[tlB]
 | u::T,k=>by
  have h:=DY L id T (k+1);have h2:2 ^ (k+1)=2 * 2 ^ k:=by rw[Nat.pow_succ,Nat.mul_comm]
  rw[ze3,show k+(T.length+1)=k+1+T.length by omega];unfold tlB;split <;> omega
theorem qR (L:List Cl)(id:Int)(T:List (List Int)):tlB L 0 T id<2 ^ T.length:=by
 have:=DY L id T 0;rw[Nat.zero_add] at this;omega
def ee (l:List Cl)(T:List (List Int)):Int:=if (aN l).2≠0 then (aN l).2 else if (T.length:Int)>6 then 2 else if T.any (fun t=>t.any fun id=>(aG (ae l) id).isNone) then 30 else if (ae l).any (fun c=>decide (tlB (ae l) 0 T c.id=0)) then 45 else 0
def bL (b:Nat):List Nat:=(List.range (b+1)).filter fun s=>decide (0<s)&&decide (s &&& b=s)
def fv (s:Nat):List Nat:=(List.range 6).filter fun k=>s.testBit k
def onesB (s:Nat):Nat:=(fv s).length
def sgP (m:Int):Int:=1 - 2 * (m % 2)
def bId (n i s:Nat):Int:=((i * 2 ^ n+s:Nat):Int)
def ixB (L:List Cl)(id:Int):Nat:=lbI (L.map Cl.id) id
def lT (L:List Cl)(n i:Nat)(y:Cl)(s:Nat):List ah:=(y.sides.map fun x=>⟨bId n (ixB L x.cell) s,x.sign⟩)++if onesB s≤1 then [] else (fv s).zipIdx.map fun q=>⟨bId n i (s - 2 ^ q.1),sgP (q.2+y.dim)⟩
def bM (L:List Cl)(n i:Nat)(y:Cl)(s:Nat):Cl:=⟨bId n i s,y.dim+onesB s - 1,lT L n i y s⟩
def uu (L:List Cl)(T:List (List Int)):List Cl:=L.zipIdx.flatMap fun q=>(bL (tlB L 0 T q.1.id)).map (bM L T.length q.2 q.1)
def dM (L:List Cl)(T:List (List Int)):List Cl:=aa (uu L T)
def kL (n:Nat)(id:Int):Int:=onesB (id.toNat % 2 ^ n) - 1
def bh (l:List Cl)(T:List (List Int)):List Cl:=if ee l T≠0∨(aN (dM (ae l) T)).2≠0 then [] else dM (ae l) T
def jY (c r:Cl):Int:=(c.sides.map fun q=>if q.cell=r.id then q.sign else 0).sum
section
variable (rf:List Cl→List Cl→Nat)(n:Nat)(B:List Cl)
def r9 (a dim:Int):List Cl:=B.filter fun c=>decide (c.dim=dim)&&decide (kL n c.id≤a)
def um (low dim:Int):List Cl:=B.filter fun c=>decide (c.dim=dim)&&decide (kL n c.id>low)
def gI (a low dim:Int):Int:=(r9 n B a dim).length - (rf (r9 n B a dim) (um n B low (dim - 1)):Int)
def uk (a low dim:Int):Int:=gI rf n B (min (max a (-1)) ((n:Int) - 1)) (max low (-1)) dim
def zr (r a b:Int):Int:=uk rf n B a (a - r) (a+b) - uk rf n B (a - 1) (a - r) (a+b) - uk rf n B (a+r - 1) a (a+b+1)+uk rf n B (a+r - 1) (a - 1) (a+b+1)
def Cp (D:Nat)(r:Int):List (List Int):=(List.range n).map fun a:Nat=>(List.range D).map fun b:Nat=>zr rf n B r a b
def py {α:Type}[DecidableEq α]:List α→List α
 | a::b::l=>if a=b then py (b::l) else a::b::l
 | l=>l
def jV {α:Type}[DecidableEq α](l:List α):List α:=(py l.reverse).reverse
def ko (D:Nat):List (List (List Int)):=(List.range n).map fun r:Nat=>Cp rf n B D ((r:Int)+1)
end
noncomputable def rkP (p:Int) (C R:List Cl):Nat:=rkL p C R jY
def uq (B:List Cl):Bool:=B.any fun c=>decide ((B.filter fun x=>decide (x.dim=c.dim)).length>200)
def em (l:List Cl)(T:List (List Int))(p:Int):Int:=if kh p=false then 46 else if ee l T≠0 then ee l T else if (aN (dM (ae l) T)).2≠0∨uq (dM (ae l) T)=true then 2 else 0
def dimN (l:List Cl):Nat:=(uT (ae l) (-1)+1).toNat
noncomputable def dj (l:List Cl) (T:List (List Int)) (p:Int):List (List (List Int)):=if em l T p≠0 then [] else jV (ko (rkP p) T.length (dM (ae l) T) (dimN l))
def gv (D:Nat)(P:List (List Int)):List Int:=(List.range D).map fun d:Nat=>((P.zipIdx.map fun q=>if q.2≤d then q.1.getD (d - q.2) 0 else 0)).sum
noncomputable def jM (l:List Cl) (T:List (List Int)) (p:Int):List Int:=if (dj l T p).length=0 then [] else gv (dimN l) ((dj l T p).getLastD [])
theorem Rt.ix {L:List Cl}(h:Rt L){i:Nat}{c:Cl}(hi:L[i]?=some c):ixB L c.id=i:=by
 have hc:c∈L:=zf6 hi;have h2:(L.map Cl.id).Pairwise (· < ·):=by rw[zj5]; exact h.asc
 rcases rv (tl:=L) (h2.imp fun h=>by omega) c.id with ⟨h1,_⟩ | ⟨d,k,h1,h3,h4⟩
 ·rw[h.find hc] at h1;cases h1
 ·rw[h.find hc] at h1;cases h1;have h5:(L.map Cl.id).contains c.id=true:=by simp; exact⟨c,hc,I⟩
  unfold atC at h3;rw[zf5 h5] at h3;have h6:ixB L c.id=k:=by unfold ixB; omega
  rw[h6];have hi':=ze9.1 hi;have hk':=ze9.1 h4;obtain ⟨a1,a2⟩:=hi';obtain ⟨b1,b2⟩:=hk'
  rcases Nat.lt_trichotomy i k with h | h' | h
  ·have:=zc6.1 (Rt.asc ‹Rt L›) i k a1 b1 h;rw[a2,b2] at this;omega
  ·exact h'.symm
  ·have:=zc6.1 (Rt.asc ‹Rt L›) k i b1 a1 h;rw[a2,b2] at this;omega
theorem Rt.ix_get {L:List Cl}(h:Rt L){c:Cl}(hc:c∈L):L[ixB L c.id]?=some c:=by
 obtain ⟨i,hi,e⟩:=List.mem_iff_getElem.1 hc;have h1:L[i]?=some c:=by rw[gE hi,e]
 rw[h.ix h1];exact h1
theorem Rt.ix_inj {L:List Cl}(h:Rt L){c d:Cl}(hc:c∈L)(hd:d∈L)(e:ixB L c.id=ixB L d.id):c=d:=by
 have h1:=h.ix_get hc;rw[e,h.ix_get hd] at h1;injection h1 with h1
 exact h1.symm
theorem cH {b s:Nat}:s∈bL b↔0<s∧s &&& b=s:=by
 unfold bL;rw[zg8,List.mem_range];simp only[zi6,zi7];constructor
 ·exact fun h=>h.2
 ·intro h;refine⟨?_,h⟩;have:s &&& b≤b:=Nat.and_le_right;omega
theorem nW {a b c:Nat}(h:a &&& b=a)(k:b &&& c=b):a &&& c=a:=by
 rw[← h,Nat.and_assoc,k]
theorem sub_le {a b:Nat}(h:a &&& b=a):a≤b:=by
 have:a &&& b≤b:=Nat.and_le_right;omega
theorem fH {n i s i' s':Nat}(h1:s<2 ^ n)(h2:s'<2 ^ n)(h:bId n i s=bId n i' s'):i=i'∧s=s':=Da h1 h2 (by unfold bId at h; omega)
def bZ (s:Nat):List (Nat×Nat):=if onesB s≤1 then [] else (fv s).zipIdx
def hB (s t:Nat):Nat:=((bZ s).filter fun q=>decide (s - 2 ^ q.1=t)).length
def iB (s t:Nat)(d:Int):Int:=((bZ s).map fun q=>if s - 2 ^ q.1=t then sgP (q.2+d) else 0).sum
theorem nr:∀ s,s<16→∀ q∈bZ s,0<s - 2 ^ q.1∧(s - 2 ^ q.1) &&& s=s - 2 ^ q.1∧onesB (s - 2 ^ q.1)+1=onesB s∧0<hB s (s - 2 ^ q.1):=by decide +kernel
theorem y7:∀ s,s<16→((bZ s).map fun q=>s - 2 ^ q.1).Nodup:=by decide +kernel
theorem DE:∀ s,s<16→∀ t,t<16→((bZ s).map fun q=>sgP q.2 * iB (s - 2 ^ q.1) t 0).sum=0:=by decide +kernel
theorem DF:∀ s,s<16→∀ t,t<16→hB s t≤1∧hB s s=0∧(((bZ s).map fun q=>hB (s - 2 ^ q.1) t).sum=0∨((bZ s).map fun q=>hB (s - 2 ^ q.1) t).sum=2)∧((bZ s).map fun q=>hB (s - 2 ^ q.1) s).sum=0:=by decide +kernel
theorem BX:∀ s,s<16→3≤onesB s→∀ q∈bZ s,∀ r∈bZ s,q=r∨(0<s - 2 ^ q.1 - 2 ^ r.1∧(s - 2 ^ q.1 - 2 ^ r.1) &&& s=s - 2 ^ q.1 - 2 ^ r.1∧0<hB (s - 2 ^ q.1) (s - 2 ^ q.1 - 2 ^ r.1)∧0<hB (s - 2 ^ r.1) (s - 2 ^ q.1 - 2 ^ r.1)):=by decide +kernel
theorem xD:∀ s,s<16→0<s→0<onesB s∧onesB s≤4∧(bZ s).length=if onesB s≤1 then 0 else onesB s:=by decide +kernel
theorem xC:∀ s,s<16→onesB s=2→((bZ s).map fun q=>sgP (q.2+0)).sum=0:=by decide +kernel
theorem qU (a b:Int):sgP (a+b)=sgP a * sgP b:=by
 unfold sgP;have h1:a % 2=0∨a % 2=1:=oM;have h2:b % 2=0∨b % 2=1:=oM
 rcases h1 with h1 | h1 <;> rcases h2 with h2 | h2 <;> rw[h1,h2]
 ·rw[show (a+b) % 2=0 by omega]; rfl
 ·rw[show (a+b) % 2=1 by omega]; rfl
 ·rw[show (a+b) % 2=1 by omega]; rfl
 ·rw[show (a+b) % 2=0 by omega]; rfl
theorem zX (a:Int):sgP a=1∨sgP a = -1:=by
 unfold sgP;omega
theorem CR (a:Int):sgP (a - 1) = -sgP a:=by
 unfold sgP;omega
theorem zC (s t:Nat)(d:Int):iB s t d=sgP d * iB s t 0:=by
 unfold iB;refine cg fun q _=>?_;split
 ·rw[qU,Int.add_zero,Int.mul_comm]
 ·rw[Int.mul_zero]
theorem E8 (s t:Nat)(d:Int):iB s t (d - 1)+iB s t d=0:=by
 rw[zC s t (d - 1),zC s t d,CR,Int.neg_mul];omega
def cS (d e:Cl):Nat:=(d.sides.filter fun q=>decide (q.cell=e.id)).length
def bA (L:List Cl)(f:Int→Nat)(n:Nat):List Cl:=L.zipIdx.flatMap fun q=>(bL (f q.1.id)).map (bM L n q.2 q.1)
theorem ru (L:List Cl)(T:List (List Int)):uu L T=bA L (tlB L 0 T) T.length:=rfl
theorem fg (L:List Cl)(n i:Nat)(y:Cl)(s:Nat):lT L n i y s=(y.sides.map fun x=>⟨bId n (ixB L x.cell) s,x.sign⟩)++(bZ s).map fun q=>⟨bId n i (s - 2 ^ q.1),sgP (q.2+y.dim)⟩:=by
 unfold lT bZ;split <;> simp
structure Cov (L:List Cl)(f:Int→Nat)(n:Nat):Prop where
 rt:Rt L
 n4:n≤4
 lt:∀ c∈L,f c.id<2 ^ n
 sub:∀ c∈L,∀ x∈c.sides,f c.id &&& f x.cell=f c.id
 few:L.length≤60
 dim:∀ c∈L,c.dim≤4
 sd:∀ c∈L,c.sides.length≤60
section
variable {L:List Cl}{f:Int→Nat}{n:Nat}(h:Cov L f n)
include h
theorem Cov.pow:2 ^ n≤16:=Nat.pow_le_pow_right dC h.n4 (n:=2)
theorem Cov.s16 {c:Cl}(hc:c∈L){s:Nat}(hs:s∈bL (f c.id)):s<2 ^ n∧s<16:=by
 have h1:=sub_le (cH.1 hs).2;have h2:=h.lt c hc;have h3:=h.pow;omega
theorem Cov.side {c:Cl}(hc:c∈L){x:ah}(hx:x∈c.sides):∃ d∈L,d.id=x.cell∧d.dim=c.dim - 1∧∀ s∈bL (f c.id),s∈bL (f d.id):=by
 obtain ⟨d,hd,hdd⟩:=(h.rt.form c hc).found x hx;obtain ⟨h1,h2⟩:=cJ hd;refine⟨d,h1,h2,hdd,fun s hs=>?_⟩;obtain ⟨k1,k2⟩:=cH.1 hs;exact cH.2 ⟨k1,nW k2 (by rw[h2]; exact h.sub c hc x hx)⟩
omit h in
theorem lm (h:Rt L){z:Cl}:z∈bA L f n↔∃ c∈L,∃ s∈bL (f c.id),z=bM L n (ixB L c.id) c s:=by
 unfold bA;rw[List.mem_flatMap];constructor
 ·rintro ⟨⟨c,i⟩,hq,hz⟩;obtain ⟨s,hs,rfl⟩:=ze6.1 hz;have hi:L[i]?=some c:=List.mem_zipIdx_iff_getElem?.1 hq;exact⟨c,zf6 hi,s,hs,by rw[h.ix hi]⟩
 ·rintro ⟨c,hc,s,hs,rfl⟩;exact⟨(c,ixB L c.id),List.mem_zipIdx_iff_getElem?.2 (h.ix_get hc),ze6.2 ⟨s,hs,I⟩⟩
theorem Cov.ids:((bA L f n).map Cl.id).Nodup:=by
 have h1:(bA L f n).Pairwise fun a b=>a.id<b.id:=by
  unfold bA;rw[List.pairwise_flatMap];refine⟨fun q hq=>?_,?_⟩
  ·rw[zj5];have h2:(bL (f q.1.id)).Pairwise (· < ·):=(List.pairwise_lt_range (n:=_)).filter _;refine h2.imp fun {a b} hlt=>?_;show bId n q.2 a<bId n q.2 b;unfold bId;omega
  ·have h3:L.zipIdx.Pairwise fun a b=>a.2<b.2:=by
    have:=List.pairwise_lt_range (n:=L.length);rw[List.range_eq_range',← List.zipIdx_map_snd 0 L,zj5] at this;exact this
   refine List.Pairwise.imp_of_mem ?_ h3;rintro ⟨c,i⟩ ⟨d,j⟩ hc hd hlt z hz w hw;obtain ⟨s,hs,rfl⟩:=ze6.1 hz;obtain ⟨t,ht,rfl⟩:=ze6.1 hw;have hci:L[i]?=some c:=List.mem_zipIdx_iff_getElem?.1 hc;have hs2:=(h.s16 (zf6 hci) hs).1;have:=EW (N:=2 ^ n) (k':=t) hs2 hlt;dsimp only at this;show bId n i s<bId n j t;unfold bId;omega
 rw[List.Nodup,zj5];exact h1.imp fun h=>by omega
theorem Cov.nodup:((aa (bA L f n)).map Cl.id).Nodup:=by
 have h2:((aa (bA L f n)).map Cl.id).Perm ((bA L f n).map Cl.id):=by
  rw[mo];exact (co _).map _
 exact h2.symm.nodup h.ids
theorem Cov.mem {z:Cl}:z∈aa (bA L f n)↔∃ c∈L,∃ s∈bL (f c.id),z=az (bM L n (ixB L c.id) c s):=by
 unfold aa;rw[ze6];constructor
 ·rintro ⟨d,hd,rfl⟩;obtain ⟨c,hc,s,hs,rfl⟩:=(lm h.rt).1 ((cU _ _).1 hd);exact⟨c,hc,s,hs,I⟩
 ·rintro ⟨c,hc,s,hs,rfl⟩;exact⟨_,(cU _ _).2 ((lm h.rt).2 ⟨c,hc,s,hs,I⟩),I⟩
theorem Cov.find {c:Cl}(hc:c∈L){s:Nat}(hs:s∈bL (f c.id)):aG (aa (bA L f n)) (bId n (ixB L c.id) s)=some (az (bM L n (ixB L c.id) c s)) :=
 nk (x:=az (bM L n (ixB L c.id) c s)) h.nodup (h.mem.2 ⟨c,hc,s,hs,rfl⟩)
omit h in
theorem sa (L:List Cl)(n i:Nat)(c:Cl)(s:Nat):(az (bM L n i c s)).sides.Perm (lT L n i c s):=co _
theorem Cov.hits {d:Cl}(hd:d∈L){u:Nat}(hu:u∈bL (f d.id)){e:Cl}(he:e∈L){t:Nat}(ht:t∈bL (f e.id))(σ:Int) :
  hits (aa (bA L f n)) ⟨bId n (ixB L d.id) u,σ⟩ (bId n (ixB L e.id) t)=(if t=u then cS d e else 0)+(if e=d then hB u t else 0):=by
 unfold Go.Proofs.YtcfkpajlakidbaaGreatDoor.hits ar;rw[h.find hd hu];show ((az (bM L n (ixB L d.id) d u)).sides.filter _).length=_;have hu2:=h.s16 hd hu;have ht2:=h.s16 he ht;rw[((sa L n _ d u).filter _).length_eq,fg,zh1,zd9,List.filter_map,List.filter_map,ze1,ze1];congr 1
 ·split
  ·rename_i e1;subst e1;unfold cS;congr 1;refine List.filter_congr fun q hq=>?_;obtain ⟨v,hv,hvi,_⟩:=h.side hd hq;show decide (bId n (ixB L q.cell) t=bId n (ixB L e.id) t)=decide (q.cell=e.id);rw[decide_eq_decide,← hvi];constructor
   ·intro k;rw[h.rt.ix_inj hv he (fH ht2.1 ht2.1 k).1]
   ·intro k;rw[k]
  ·rename_i e1;rw[List.length_eq_zero_iff,List.filter_eq_nil_iff];intro q hq k;have k:bId n (ixB L q.cell) u=bId n (ixB L e.id) t:=by simpa using k
   exact e1 (fH hu2.1 ht2.1 k).2.symm
 ·have hlt:∀ q∈bZ u,u - 2 ^ q.1<2 ^ n:=fun q _=>Nat.lt_of_le_of_lt (Nat.sub_le _ _) hu2.1;split
  ·rename_i e1;subst e1;unfold hB;congr 1;refine List.filter_congr fun q hq=>?_;show decide (bId n (ixB L e.id) (u - 2 ^ q.1)=bId n (ixB L e.id) t)=decide (u - 2 ^ q.1=t);rw[decide_eq_decide];exact⟨fun k=>(fH (hlt q hq) ht2.1 k).2,fun k=>by rw[k]⟩
  ·rename_i e1;rw[List.length_eq_zero_iff,List.filter_eq_nil_iff];intro q hq k;have k:bId n (ixB L d.id) (u - 2 ^ q.1)=bId n (ixB L e.id) t:=by simpa using k
   exact e1 (h.rt.ix_inj hd he (fH (hlt q hq) ht2.1 k).1).symm
theorem Cov.inner {d:Cl}(hd:d∈L){u:Nat}(hu:u∈bL (f d.id)){e:Cl}(he:e∈L){t:Nat}(ht:t∈bL (f e.id))(σ:Int) :
  inner (aa (bA L f n)) ⟨bId n (ixB L d.id) u,σ⟩ (bId n (ixB L e.id) t)=σ * ((if t=u then jY d e else 0)+(if e=d then iB u t d.dim else 0)):=by
 unfold Go.Proofs.YtcfkpajlakidbaaGreatDoor.inner ar;rw[h.find hd hu];show ((az (bM L n (ixB L d.id) d u)).sides.map fun q=>if q.cell=bId n (ixB L e.id) t then σ * q.sign else 0).sum=_;have hu2:=h.s16 hd hu;have ht2:=h.s16 he ht;rw[eI ((sa L n _ d u).map _),fg,zf9,List.sum_append,zh9,zh9,Int.mul_add];congr 1
 ·split
  ·rename_i e1;subst e1;unfold jY;refine cg fun q hq=>?_;obtain ⟨v,hv,hvi,_⟩:=h.side hd hq;show (if bId n (ixB L q.cell) t=bId n (ixB L e.id) t then σ * q.sign else 0)=σ * (if q.cell=e.id then q.sign else 0);by_cases hve:q.cell=e.id
   ·rw[zf5 hve,zf5 (by rw[hve])]
   ·rw[zf4 hve,zf4,Int.mul_zero];intro k;rw[← hvi] at k hve;exact hve (by rw[h.rt.ix_inj hv he (fH ht2.1 ht2.1 k).1])
  ·rename_i e1;rw[cg (g:=fun _=>(0:Int)) (K:=0) fun q hq=>?_,Int.zero_mul,Int.mul_zero];show (if bId n (ixB L q.cell) u=bId n (ixB L e.id) t then σ * q.sign else 0)=_;rw[zf4 fun k=>e1 (fH hu2.1 ht2.1 k).2.symm];rfl
 ·have hlt:∀ q∈bZ u,u - 2 ^ q.1<2 ^ n:=fun q _=>Nat.lt_of_le_of_lt (Nat.sub_le _ _) hu2.1;split
  ·rename_i e1;subst e1;unfold iB;refine cg fun q hq=>?_;show (if bId n (ixB L e.id) (u - 2 ^ q.1)=bId n (ixB L e.id) t then σ * sgP (q.2+e.dim) else 0)=σ * (if u - 2 ^ q.1=t then sgP (q.2+e.dim) else 0);by_cases hue:u - 2 ^ q.1=t
   ·rw[zf5 hue,zf5 (by rw[hue])]
   ·rw[zf4 hue,zf4 fun k=>hue (fH (hlt q hq) ht2.1 k).2,Int.mul_zero]
  ·rename_i e1;rw[cg (g:=fun _=>(0:Int)) (K:=0) fun q hq=>?_,Int.zero_mul,Int.mul_zero];show (if bId n (ixB L d.id) (u - 2 ^ q.1)=bId n (ixB L e.id) t then σ * sgP (q.2+d.dim) else 0)=_;rw[zf4 fun k=>e1 (h.rt.ix_inj hd he (fH (hlt q hq) ht2.1 k).1).symm];rfl
end
theorem Cw {α:Type}{l:List α}{g:α→Int}(h:∀ x∈l,g x=0):(l.map g).sum=0:=by
 rw[cg (g:=fun _=>(0:Int)) (K:=0) fun x hx=>by rw[h x hx]; rfl,Int.zero_mul]
theorem Cj {α:Type}{l:List α}{g:α→Nat}(h:∀ x∈l,g x=0):(l.map g).sum=0:=by
 induction l with
 | nil=>rfl
 | cons a b ih=>rw[zf8,List.sum_cons,h a (by simp),ih fun x hx=>h x (by simp[hx])]
theorem Gu {α:Type}(l:List α)(g k:α→Int):(l.map fun x=>g x+k x).sum=(l.map g).sum+(l.map k).sum:=by
 induction l with
 | nil=>rfl
 | cons a b ih=>simp only[zf8,List.sum_cons,ih]; omega
theorem Fz {α:Type}(l:List α)(g k:α→Nat):(l.map fun x=>g x+k x).sum=(l.map g).sum+(l.map k).sum:=by
 induction l with
 | nil=>rfl
 | cons a b ih=>simp only[zf8,List.sum_cons,ih]; omega
theorem Gt {α:Type}(l:List α)(p:α→Prop)[DecidablePred p](K:Nat):(l.map fun x=>if p x then K else 0).sum=(l.filter fun x=>decide (p x)).length * K:=by
 induction l with
 | nil=>simp
 | cons a b ih =>
  rw[zf8,List.sum_cons,ih,zi1];by_cases h:p a
  ·rw[zf5 h,zf5 (by simpa using h),ze3,Nat.add_mul,Nat.one_mul,Nat.add_comm]
  ·rw[zf4 h,zf4 (by simpa using h),Nat.zero_add]
section
variable {L:List Cl}{f:Int→Nat}{n:Nat}(h:Cov L f n)
include h
theorem Cov.hitsL {c d:Cl}(hc:c∈L){x:ah}(hx:x∈c.sides)(hd:d∈L)(hi:d.id=x.cell)(e:Cl):Go.Proofs.YtcfkpajlakidbaaGreatDoor.hits L x e.id=cS d e:=by
 unfold Go.Proofs.YtcfkpajlakidbaaGreatDoor.hits ar;rw[← hi,h.rt.find hd];rfl
theorem Cov.innerL {c d:Cl}(hc:c∈L){x:ah}(hx:x∈c.sides)(hd:d∈L)(hi:d.id=x.cell)(e:Cl):Go.Proofs.YtcfkpajlakidbaaGreatDoor.inner L x e.id=x.sign * jY d e:=by
 unfold Go.Proofs.YtcfkpajlakidbaaGreatDoor.inner ar;rw[← hi,h.rt.find hd];unfold jY;refine cg fun q _=>?_;show (if q.cell=e.id then x.sign * q.sign else 0)=_;split
 ·rfl
 ·rw[Int.mul_zero]
theorem Cov.cS_le {c:Cl}(hc:c∈L)(e:Cl):cS c e≤1:=by
 unfold cS;have h1:(c.sides.filter fun q=>decide (q.cell=e.id)).Pairwise fun a b=>a.cell<b.cell:=(h.rt.form c hc).asc.filter _;cases hl:c.sides.filter fun q=>decide (q.cell=e.id) with
 | nil=>simp
 | cons a r =>
  cases r with
  | nil=>simp
  | cons b r =>
   rw[hl] at h1;have h2:=(zj4.1 h1).1 b (by simp);have ha:a∈c.sides.filter fun q=>decide (q.cell=e.id):=by rw[hl]; simp
   have hb:b∈c.sides.filter fun q=>decide (q.cell=e.id):=by rw[hl]; simp
   have h3:=(zg8.1 ha).2;have h4:=(zg8.1 hb).2;simp only[zi7] at h3 h4;omega
theorem Cov.cS_dim {c e:Cl}(hc:c∈L)(he:e∈L)(hd:e.dim≠c.dim - 1):cS c e=0:=by
 unfold cS;rw[List.length_eq_zero_iff,List.filter_eq_nil_iff];intro q hq k;simp only[zi7] at k;obtain ⟨d,hd1,hd2,hd3,_⟩:=h.side hc hq;rw[k] at hd2;have h1:=h.rt.find hd1;rw[hd2,h.rt.find he] at h1;cases h1;exact hd hd3
omit h in
theorem Ga {c:Cl}{x:ah}(hx:x∈c.sides){e:Cl}(hi:e.id=x.cell):0<cS c e:=by
 unfold cS;refine List.length_pos_of_mem (a:=x) (zg8.2 ⟨hx,?_⟩);simpa using hi.symm
theorem Cov.bit {c:Cl}(hc:c∈L){s:Nat}(hs:s∈bL (f c.id)){q:Nat×Nat}(hq:q∈bZ s):s - 2 ^ q.1∈bL (f c.id):=by
 obtain ⟨k1,k2,_⟩:=nr s (h.s16 hc hs).2 q hq;exact cH.2 ⟨k1,nW k2 (cH.1 hs).2⟩
theorem Cov.pos1 {c:Cl}(hc:c∈L){s:Nat}(hs:s∈bL (f c.id)):0<onesB s∧onesB s≤4∧(bZ s).length=if onesB s≤1 then 0 else onesB s:=xD s (h.s16 hc hs).2 (cH.1 hs).1
theorem Cov.fm {c:Cl}(hc:c∈L){s:Nat}(hs:s∈bL (f c.id)):Fm (aa (bA L f n)) (az (bM L n (ixB L c.id) c s)):=by
 have hf:=h.rt.form c hc;have hp:=sa L n (ixB L c.id) c s;rw[fg] at hp;have hmem:∀ x',x'∈(az (bM L n (ixB L c.id) c s)).sides↔(∃ x∈c.sides,x'=⟨bId n (ixB L x.cell) s,x.sign⟩)∨∃ q∈bZ s,x'=⟨bId n (ixB L c.id) (s - 2 ^ q.1),sgP (q.2+c.dim)⟩:=fun x'=>by
  rw[hp.mem_iff,ze7,ze6,ze6];exact⟨fun h=>h.elim (fun ⟨x,a,b⟩=>.inl ⟨x,a,b.symm⟩) fun ⟨x,a,b⟩=>.inr ⟨x,a,b.symm⟩,fun h=>h.elim (fun ⟨x,a,b⟩=>.inl ⟨x,a,b.symm⟩) fun ⟨x,a,b⟩=>.inr ⟨x,a,b.symm⟩⟩
 have hlen:(az (bM L n (ixB L c.id) c s)).sides.length=c.sides.length+(bZ s).length:=by rw[hp.length_eq,zd9,ze1,ze1]
 obtain ⟨o1,o2,o3⟩:=h.pos1 hc hs;have s16:=h.s16 hc hs;have hdim:(az (bM L n (ixB L c.id) c s)).dim=c.dim+onesB s - 1:=rfl;have hd0:=hf.dim;have hd4:=h.dim c hc;have hsd:=h.sd c hc;refine⟨by rw[hdim]; omega,?_,fun x' hx'=>?_,?_,fun x' hx'=>?_,fun hd=>?_⟩
 ·have hcn:=hf.cnt;simp only[aw,hdim,hlen,o3] at hcn ⊢;simp only[Bool.or_eq_false_iff,Bool.and_eq_false_iff,decide_eq_false_iff_not] at hcn ⊢;split <;> omega
 ·rcases (hmem x').1 hx' with ⟨x,hx,rfl⟩ | ⟨q,hq,rfl⟩
  ·obtain ⟨d,hd,hid,hdd,hsub⟩:=h.side hc hx;have:=h.find hd (hsub s hs);rw[hid] at this;refine⟨_,this,?_⟩;show d.dim+onesB s - 1=c.dim+onesB s - 1 - 1;omega
  ·refine⟨_,h.find hc (h.bit hc hs hq),?_⟩;have:=(nr s s16.2 q hq).2.2.1;show c.dim+onesB (s - 2 ^ q.1) - 1=c.dim+onesB s - 1 - 1;omega
 ·have h1:(az (bM L n (ixB L c.id) c s)).sides.Pairwise fun a b=>a.cell≤b.cell:=dF _;have h2:((az (bM L n (ixB L c.id) c s)).sides.map ah.cell).Nodup:=by
   refine (hp.map ah.cell).symm.nodup ?_;rw[zf9,zh9,zh9];refine List.nodup_append.2 ⟨?_,?_,?_⟩
   ·rw[List.Nodup,zj5];refine List.Pairwise.imp_of_mem ?_ hf.asc;intro a b ha hb hlt e;obtain ⟨d,hd,hid,_⟩:=h.side hc ha;obtain ⟨d',hd',hid',_⟩:=h.side hc hb;have e:bId n (ixB L a.cell) s=bId n (ixB L b.cell) s:=e;rw[← hid,← hid'] at e;have:=h.rt.ix_inj hd hd' (fH s16.1 s16.1 e).1;subst this;omega
   ·have h3:=y7 s s16.2;rw[List.Nodup,zj5] at h3 ⊢;refine h3.imp fun {a b} hne e=>hne ?_;have e:bId n (ixB L c.id) (s - 2 ^ a.1)=bId n (ixB L c.id) (s - 2 ^ b.1):=e;exact (fH (Nat.lt_of_le_of_lt (Nat.sub_le _ _) s16.1) (Nat.lt_of_le_of_lt (Nat.sub_le _ _) s16.1) e).2
   ·intro a ha b hb e;obtain ⟨x,hx,rfl⟩:=ze6.1 ha;obtain ⟨q,hq,rfl⟩:=ze6.1 hb;obtain ⟨d,hd,hid,hdd,_⟩:=h.side hc hx;have e:bId n (ixB L x.cell) s=bId n (ixB L c.id) (s - 2 ^ q.1):=e;rw[← hid] at e;have:=h.rt.ix_inj hd hc (fH s16.1 (Nat.lt_of_le_of_lt (Nat.sub_le _ _) s16.1) e).1;subst this;omega
  rw[List.Nodup,zj5] at h2;exact (h1.and h2).imp fun ⟨h3,h4⟩=>by omega
 ·rcases (hmem x').1 hx' with ⟨x,hx,rfl⟩ | ⟨q,hq,rfl⟩
  ·exact hf.sg x hx
  ·exact zX _
 ·rw[hdim] at hd;unfold lP;rw[eI (hp.map ah.sign),zf9,List.sum_append,zh9,zh9];have hcn:=hf.cnt;simp only[aw,Bool.or_eq_false_iff,Bool.and_eq_false_iff,decide_eq_false_iff_not] at hcn;by_cases hc1:c.dim=1
  ·have h1:=hf.one hc1;unfold lP at h1;have h2:bZ s=[]:=List.length_eq_zero_iff.1 (by rw[o3,zf5 oM]);rw[h2];show (c.sides.map ah.sign).sum+0=0;rw[h1];rfl
  ·have h3:c.sides=[]:=List.length_eq_zero_iff.1 oM;have h4:=xC s s16.2 oM;rw[h3];show 0+((bZ s).map fun q=>sgP (q.2+c.dim)).sum=0;rw[show c.dim=0 by omega,h4];rfl
theorem Cov.sumR {c:Cl}(hc:c∈L){s:Nat}(hs:s∈bL (f c.id)){e:Cl}(he:e∈L){t:Nat}(ht:t∈bL (f e.id)):Go.Proofs.YtcfkpajlakidbaaGreatDoor.sumR (aa (bA L f n)) (az (bM L n (ixB L c.id) c s)).sides (bId n (ixB L e.id) t)=0:=by
 have s16:=h.s16 hc hs;have t16:=h.s16 he ht;rw[tf (sa L n _ c s),fg,eu,zf9,List.sum_append,zh9,zh9];have e1:(c.sides.map ((fun x=>Go.Proofs.YtcfkpajlakidbaaGreatDoor.inner (aa (bA L f n)) x (bId n (ixB L e.id) t)) ∘ fun x=>(⟨bId n (ixB L x.cell) s,x.sign⟩:ah))).sum=(if t=s then Go.Proofs.YtcfkpajlakidbaaGreatDoor.sumR L c.sides e.id else 0)+iB s t (c.dim - 1) * jY c e:=by
  rw[eu];have:(c.sides.map ((fun x=>Go.Proofs.YtcfkpajlakidbaaGreatDoor.inner (aa (bA L f n)) x (bId n (ixB L e.id) t)) ∘ fun x=>(⟨bId n (ixB L x.cell) s,x.sign⟩:ah))).sum=(c.sides.map fun x=>(if t=s then Go.Proofs.YtcfkpajlakidbaaGreatDoor.inner L x e.id else 0)+iB s t (c.dim - 1) * (if x.cell=e.id then x.sign else 0)).sum:=by
   congr 1;refine zc5 fun x hx=>?_;obtain ⟨d,hd,hid,hdd,hsub⟩:=h.side hc hx;show Go.Proofs.YtcfkpajlakidbaaGreatDoor.inner _ ⟨bId n (ixB L x.cell) s,x.sign⟩ _=_;rw[h.innerL hc hx hd hid,← hid,h.inner hd (hsub s hs) he ht,Int.mul_add];congr 1
   ·split <;> simp
   ·by_cases k:e=d
    ·subst k;rw[zf5 rfl,zf5 rfl,hdd,Int.mul_comm]
    ·rw[zf4 k,zf4 (fun k2=>k (by
      have h1:=h.rt.find hd;rw[k2,h.rt.find he] at h1;injection h1)),Int.mul_zero,Int.mul_zero]
  rw[this,Gu];congr 1
  ·split
   ·rfl
   ·exact Cw fun _ _=>I
  ·unfold jY;exact cg fun x _=>I
 have e2:((bZ s).map ((fun x=>Go.Proofs.YtcfkpajlakidbaaGreatDoor.inner (aa (bA L f n)) x (bId n (ixB L e.id) t)) ∘ fun q=>(⟨bId n (ixB L c.id) (s - 2 ^ q.1),sgP (q.2+c.dim)⟩:ah))).sum=jY c e * iB s t c.dim+(if e=c then ((bZ s).map fun q=>sgP q.2 * iB (s - 2 ^ q.1) t 0).sum else 0):=by
  have:((bZ s).map ((fun x=>Go.Proofs.YtcfkpajlakidbaaGreatDoor.inner (aa (bA L f n)) x (bId n (ixB L e.id) t)) ∘ fun q=>(⟨bId n (ixB L c.id) (s - 2 ^ q.1),sgP (q.2+c.dim)⟩:ah))).sum=((bZ s).map fun q=>jY c e * (if s - 2 ^ q.1=t then sgP (q.2+c.dim) else 0)+(if e=c then sgP q.2 * iB (s - 2 ^ q.1) t 0 else 0)).sum:=by
   congr 1;refine zc5 fun q hq=>?_;show Go.Proofs.YtcfkpajlakidbaaGreatDoor.inner _ ⟨bId n (ixB L c.id) (s - 2 ^ q.1),sgP (q.2+c.dim)⟩ _=_;rw[h.inner hc (h.bit hc hs hq) he ht,Int.mul_add];congr 1
   ·by_cases k:t=s - 2 ^ q.1
    ·rw[zf5 k,zf5 k.symm,Int.mul_comm]
    ·rw[zf4 k,zf4 (fun k2=>k k2.symm),Int.mul_zero,Int.mul_zero]
   ·split
    ·rw[zC,qU,← Int.mul_assoc,Int.mul_assoc (sgP q.2)];have:sgP c.dim * sgP c.dim=1:=by rcases zX c.dim with h | h <;> rw[h] <;> rfl
     rw[this,Int.mul_one]
    ·rw[Int.mul_zero]
  rw[this,Gu];congr 1
  ·unfold iB;exact cg fun x _=>I
  ·split
   ·rfl
   ·exact Cw fun _ _=>I
 rw[e1,e2,DE s s16.2 t t16.2];have e3:(if t=s then Go.Proofs.YtcfkpajlakidbaaGreatDoor.sumR L c.sides e.id else 0)=0:=by
  split
  ·by_cases hd:c.dim>1
   ·have hn0:0<c.sides.length:=by
     have:=(h.rt.form c hc).cnt;simp[aw] at this;have:=this.2 hd;omega
    have nd:(c.sides.map ah.cell).Nodup:=by
     rw[List.Nodup,zj5];exact (h.rt.form c hc).asc.imp fun h=>by omega
    exact ((f9 hn0 nd).1 (h.rt.around c hc hd)).1 e.id
   ·rw[eu];refine Cw fun x hx=>?_;obtain ⟨d,hd,hid,hdd,_⟩:=h.side hc hx;rw[h.innerL hc hx hd hid];have h1:=(h.rt.form d hd).dim;have h2:=(h.rt.form d hd).cnt;simp only[aw,Bool.or_eq_false_iff,Bool.and_eq_false_iff,decide_eq_false_iff_not] at h2;have h3:d.sides=[]:=List.length_eq_zero_iff.1 oM;unfold jY;rw[h3];simp
  ·rfl
 have e4:=E8 s t c.dim;rw[e3,Int.mul_comm (iB s t (c.dim - 1))];have e5:jY c e * iB s t (c.dim - 1)+jY c e * iB s t c.dim=0:=by rw[← Int.mul_add,e4,Int.mul_zero]
 split <;> omega
theorem Cov.cntR {c:Cl}(hc:c∈L){s:Nat}(hs:s∈bL (f c.id)){e:Cl}(he:e∈L){t:Nat}(ht:t∈bL (f e.id)) :
  Go.Proofs.YtcfkpajlakidbaaGreatDoor.cntR (aa (bA L f n)) (az (bM L n (ixB L c.id) c s)).sides (bId n (ixB L e.id) t)=0∨Go.Proofs.YtcfkpajlakidbaaGreatDoor.cntR (aa (bA L f n)) (az (bM L n (ixB L c.id) c s)).sides (bId n (ixB L e.id) t)=2:=by
 have s16:=h.s16 hc hs;have t16:=h.s16 he ht;rw[tK (sa L n _ c s),fg];unfold Go.Proofs.YtcfkpajlakidbaaGreatDoor.cntR;rw[zf9,List.sum_append,zh9,zh9];have e1:(c.sides.map ((fun x=>Go.Proofs.YtcfkpajlakidbaaGreatDoor.hits (aa (bA L f n)) x (bId n (ixB L e.id) t)) ∘ fun x=>(⟨bId n (ixB L x.cell) s,x.sign⟩:ah))).sum=(if t=s then Go.Proofs.YtcfkpajlakidbaaGreatDoor.cntR L c.sides e.id else 0)+cS c e * hB s t:=by
  have:(c.sides.map ((fun x=>Go.Proofs.YtcfkpajlakidbaaGreatDoor.hits (aa (bA L f n)) x (bId n (ixB L e.id) t)) ∘ fun x=>(⟨bId n (ixB L x.cell) s,x.sign⟩:ah))).sum=(c.sides.map fun x=>(if t=s then Go.Proofs.YtcfkpajlakidbaaGreatDoor.hits L x e.id else 0)+(if x.cell=e.id then hB s t else 0)).sum:=by
   congr 1;refine zc5 fun x hx=>?_;obtain ⟨d,hd,hid,hdd,hsub⟩:=h.side hc hx;show Go.Proofs.YtcfkpajlakidbaaGreatDoor.hits _ ⟨bId n (ixB L x.cell) s,x.sign⟩ _=_;rw[h.hitsL hc hx hd hid,← hid,h.hits hd (hsub s hs) he ht];congr 1;by_cases k:e=d
   ·subst k;rw[zf5 rfl,zf5 rfl]
   ·rw[zf4 k,zf4 (fun k2=>k (by
     have h1:=h.rt.find hd;rw[k2,h.rt.find he] at h1;injection h1))]
  rw[this,Fz];congr 1
  ·split
   ·rfl
   ·exact Cj fun _ _=>I
  ·exact Gt _ _ _
 have e2:((bZ s).map ((fun x=>Go.Proofs.YtcfkpajlakidbaaGreatDoor.hits (aa (bA L f n)) x (bId n (ixB L e.id) t)) ∘ fun q=>(⟨bId n (ixB L c.id) (s - 2 ^ q.1),sgP (q.2+c.dim)⟩:ah))).sum=hB s t * cS c e+(if e=c then ((bZ s).map fun q=>hB (s - 2 ^ q.1) t).sum else 0):=by
  have:((bZ s).map ((fun x=>Go.Proofs.YtcfkpajlakidbaaGreatDoor.hits (aa (bA L f n)) x (bId n (ixB L e.id) t)) ∘ fun q=>(⟨bId n (ixB L c.id) (s - 2 ^ q.1),sgP (q.2+c.dim)⟩:ah))).sum=((bZ s).map fun q=>(if s - 2 ^ q.1=t then cS c e else 0)+(if e=c then hB (s - 2 ^ q.1) t else 0)).sum:=by
   congr 1;refine zc5 fun q hq=>?_;show Go.Proofs.YtcfkpajlakidbaaGreatDoor.hits _ ⟨bId n (ixB L c.id) (s - 2 ^ q.1),sgP (q.2+c.dim)⟩ _=_;rw[h.hits hc (h.bit hc hs hq) he ht];congr 1;by_cases k:t=s - 2 ^ q.1
   ·rw[zf5 k,zf5 k.symm]
   ·rw[zf4 k,zf4 fun k2=>k k2.symm]
  rw[this,Fz];congr 1
  ·exact Gt _ _ _
  ·split
   ·rfl
   ·exact Cj fun _ _=>I
 rw[e1,e2];obtain ⟨b1,b2,b3,b4⟩:=DF s s16.2 t t16.2;have e3:Go.Proofs.YtcfkpajlakidbaaGreatDoor.cntR L c.sides e.id=0∨Go.Proofs.YtcfkpajlakidbaaGreatDoor.cntR L c.sides e.id=2:=by
  by_cases hd:c.dim>1
  ·have hn0:0<c.sides.length:=by
    have:=(h.rt.form c hc).cnt;simp[aw] at this;have:=this.2 hd;omega
   have nd:(c.sides.map ah.cell).Nodup:=by
    rw[List.Nodup,zj5];exact (h.rt.form c hc).asc.imp fun h=>by omega
   exact ((f9 hn0 nd).1 (h.rt.around c hc hd)).2.1 e.id
  ·left;unfold Go.Proofs.YtcfkpajlakidbaaGreatDoor.cntR;refine Cj fun x hx=>?_;obtain ⟨d,hd,hid,hdd,_⟩:=h.side hc hx;rw[h.hitsL hc hx hd hid];have h1:=(h.rt.form d hd).dim;have h2:=(h.rt.form d hd).cnt;simp only[aw,Bool.or_eq_false_iff,Bool.and_eq_false_iff,decide_eq_false_iff_not] at h2;have h3:d.sides=[]:=List.length_eq_zero_iff.1 oM;unfold cS;rw[h3];rfl
 by_cases k:t=s
 ·subst k;rw[b2,b4,zf5 rfl];simp only[Nat.mul_zero,Nat.zero_mul,ite_self,Nat.add_zero];exact e3
 ·rw[zf4 k];by_cases k2:e=c
  ·subst k2;rw[h.cS_dim hc hc oM,zf5 rfl];simp only[Nat.mul_zero,Nat.zero_mul,Nat.zero_add];exact b3
  ·rw[zf4 k2];have h1:=h.cS_le hc e;have h2:cS c e=0∨cS c e=1:=oM;have h3:hB s t=0∨hB s t=1:=oM
   rcases h2 with h2 | h2 <;> rcases h3 with h3 | h3 <;> rw[h2,h3] <;> simp
end
section
variable {L:List Cl}{f:Int→Nat}{n:Nat}(h:Cov L f n)
include h
theorem Cov.known {d:Cl}(hd:d∈L){u:Nat}(hu:u∈bL (f d.id)){σ r:Int}(hr:0<Go.Proofs.YtcfkpajlakidbaaGreatDoor.hits (aa (bA L f n)) ⟨bId n (ixB L d.id) u,σ⟩ r):∃ e∈L,∃ t∈bL (f e.id),r=bId n (ixB L e.id) t:=by
 unfold Go.Proofs.YtcfkpajlakidbaaGreatDoor.hits ar at hr;rw[h.find hd hu] at hr;obtain ⟨q,hq⟩:=List.exists_mem_of_length_pos hr;obtain ⟨hq1,hq2⟩:=zg8.1 hq;have hq1:q∈(az (bM L n (ixB L d.id) d u)).sides:=hq1;rw[(sa L n _ d u).mem_iff,fg,ze7,ze6,ze6] at hq1;have hq2:q.cell=r:=by simpa using hq2
 rcases hq1 with ⟨x,hx,rfl⟩ | ⟨b,hb,rfl⟩
 ·obtain ⟨e,he,hei,_,hsub⟩:=h.side hd hx;exact⟨e,he,u,hsub u hu,by rw[hei]; exact hq2.symm⟩
 ·exact⟨d,hd,_,h.bit hd hu hb,hq2.symm⟩
theorem Cov.around {c:Cl}(hc:c∈L){s:Nat}(hs:s∈bL (f c.id))(hd1:c.dim+onesB s - 1>1):cA (aa (bA L f n)) (az (bM L n (ixB L c.id) c s))=0:=by
 have s16:=h.s16 hc hs;have hfm:=h.fm hc hs;have hp:=sa L n (ixB L c.id) c s;rw[fg] at hp;have hmem:∀ x',x'∈(az (bM L n (ixB L c.id) c s)).sides↔(∃ x∈c.sides,x'=⟨bId n (ixB L x.cell) s,x.sign⟩)∨∃ q∈bZ s,x'=⟨bId n (ixB L c.id) (s - 2 ^ q.1),sgP (q.2+c.dim)⟩:=fun x'=>by
  rw[hp.mem_iff,ze7,ze6,ze6];exact⟨fun h=>h.elim (fun ⟨x,a,b⟩=>.inl ⟨x,a,b.symm⟩) fun ⟨x,a,b⟩=>.inr ⟨x,a,b.symm⟩,fun h=>h.elim (fun ⟨x,a,b⟩=>.inl ⟨x,a,b.symm⟩) fun ⟨x,a,b⟩=>.inr ⟨x,a,b.symm⟩⟩
 have hn0:0<(az (bM L n (ixB L c.id) c s)).sides.length:=by
  have:=hfm.cnt;have hd2:(az (bM L n (ixB L c.id) c s)).dim>1:=hd1;simp[aw] at this;have:=this.2 hd2;omega
 have nd:((az (bM L n (ixB L c.id) c s)).sides.map ah.cell).Nodup:=by
  rw[List.Nodup,zj5];exact hfm.asc.imp fun h=>by omega
 have hkn:∀ x'∈(az (bM L n (ixB L c.id) c s)).sides,∀ r,0<Go.Proofs.YtcfkpajlakidbaaGreatDoor.hits (aa (bA L f n)) x' r→∃ e∈L,∃ t∈bL (f e.id),r=bId n (ixB L e.id) t:=fun x' hx' r hr=>by
  rcases (hmem x').1 hx' with ⟨x,hx,rfl⟩ | ⟨q,hq,rfl⟩
  ·obtain ⟨d,hd,hid,_,hsub⟩:=h.side hc hx;rw[← hid] at hr;exact h.known hd (hsub s hs) hr
  ·exact h.known hc (h.bit hc hs hq) hr
 refine (f9 hn0 nd).2 ⟨fun r=>?_,fun r=>?_,?_⟩
 ·by_cases hr:∃ x'∈(az (bM L n (ixB L c.id) c s)).sides,0<Go.Proofs.YtcfkpajlakidbaaGreatDoor.hits (aa (bA L f n)) x' r
  ·obtain ⟨x',hx',hr⟩:=hr;obtain ⟨e,he,t,ht,rfl⟩:=hkn x' hx' r hr;exact h.sumR hc hs he ht
  ·rw[eu];exact Cw fun x hx=>w8 (by
    have:¬ 0<Go.Proofs.YtcfkpajlakidbaaGreatDoor.hits (aa (bA L f n)) x r:=fun k=>hr ⟨x,hx,k⟩;omega)
 ·by_cases hr:∃ x'∈(az (bM L n (ixB L c.id) c s)).sides,0<Go.Proofs.YtcfkpajlakidbaaGreatDoor.hits (aa (bA L f n)) x' r
  ·obtain ⟨x',hx',hr⟩:=hr;obtain ⟨e,he,t,ht,rfl⟩:=hkn x' hx' r hr;exact h.cntR hc hs he ht
  ·left;unfold Go.Proofs.YtcfkpajlakidbaaGreatDoor.cntR;exact Cj fun x hx=>by
    have:¬ 0<Go.Proofs.YtcfkpajlakidbaaGreatDoor.hits (aa (bA L f n)) x r:=fun k=>hr ⟨x,hx,k⟩;omega
 ·have m1:∀ x∈c.sides,(⟨bId n (ixB L x.cell) s,x.sign⟩:ah)∈(az (bM L n (ixB L c.id) c s)).sides:=fun x hx=>(hmem _).2 (.inl ⟨x,hx,rfl⟩);have m2:∀ q∈bZ s,(⟨bId n (ixB L c.id) (s - 2 ^ q.1),sgP (q.2+c.dim)⟩:ah)∈(az (bM L n (ixB L c.id) c s)).sides:=fun q hq=>(hmem _).2 (.inr ⟨q,hq,rfl⟩)
  -- a side of the cell and one of the set
  have l12:∀ x∈c.sides,∀ q∈bZ s,Cn (nP (aa (bA L f n)) (az (bM L n (ixB L c.id) c s)).sides) (bId n (ixB L x.cell) s) (bId n (ixB L c.id) (s - 2 ^ q.1)):=fun x hx q hq=>by
   obtain ⟨d,hd,hid,hdd,hsub⟩:=h.side hc hx;obtain ⟨k1,k2,k3,k4⟩:=nr s s16.2 q hq;have hb:=h.bit hc hs hq;refine .one ⟨_,m1 x hx,_,m2 q hq,I,I,bId n (ixB L d.id) (s - 2 ^ q.1),?_,?_⟩
   ·rw[← hid,h.hits hd (hsub s hs) hd (hsub _ hb),zf5 rfl];omega
   ·rw[h.hits hc hb hd (hsub _ hb),zf5 rfl];have:=Ga hx hid;omega
  have l11:∀ x∈c.sides,∀ y∈c.sides,Cn (nP (aa (bA L f n)) (az (bM L n (ixB L c.id) c s)).sides) (bId n (ixB L x.cell) s) (bId n (ixB L y.cell) s):=fun x hx y hy=>by
   by_cases hd:c.dim>1
   ·have hn0:0<c.sides.length:=List.length_pos_of_mem hx;have nd:(c.sides.map ah.cell).Nodup:=by
     rw[List.Nodup,zj5];exact (h.rt.form c hc).asc.imp fun h=>by omega
    refine (((f9 hn0 nd).1 (h.rt.around c hc hd)).2.2 x hx y hy).map (f:=fun a=>bId n (ixB L a) s) fun a b=>?_;rintro ⟨u,hu,v,hv,rfl,rfl,r,h1,h2⟩;obtain ⟨du,hdu,hidu,_,hsu⟩:=h.side hc hu;obtain ⟨dv,hdv,hidv,_,hsv⟩:=h.side hc hv;have hr:∃ e∈L,e.id=r∧∀ s∈bL (f du.id),s∈bL (f e.id):=by
     have h1':=h1;unfold Go.Proofs.YtcfkpajlakidbaaGreatDoor.hits ar at h1';rw[← hidu,h.rt.find hdu] at h1';obtain ⟨q,hq⟩:=List.exists_mem_of_length_pos h1';obtain ⟨hq1,hq2⟩:=zg8.1 hq;obtain ⟨e,he,hei,_,hse⟩:=h.side hdu (x:=q) hq1;exact⟨e,he,by rw[hei]; simpa using hq2,hse⟩
    obtain ⟨e,he,rfl,hse⟩:=hr;rw[h.hitsL hc hu hdu hidu] at h1;rw[h.hitsL hc hv hdv hidv] at h2;refine .one ⟨_,m1 u hu,_,m1 v hv,I,I,bId n (ixB L e.id) s,?_,?_⟩
    ·rw[← hidu,h.hits hdu (hsu s hs) he (hse s (hsu s hs)),zf5 rfl];omega
    ·rw[← hidv,h.hits hdv (hsv s hs) he (hse s (hsu s hs)),zf5 rfl];omega
   ·have hb:0<(bZ s).length:=by
     have:=h.pos1 hc hs;rw[this.2.2,zf4 oM];exact this.1
    obtain ⟨q,hq⟩:=List.exists_mem_of_length_pos hb;exact (l12 x hx q hq).trans (l12 y hy q hq).symm
  have l22:∀ q∈bZ s,∀ r∈bZ s,Cn (nP (aa (bA L f n)) (az (bM L n (ixB L c.id) c s)).sides) (bId n (ixB L c.id) (s - 2 ^ q.1)) (bId n (ixB L c.id) (s - 2 ^ r.1)):=fun q hq r hr=>by
   by_cases hx:0<c.sides.length
   ·obtain ⟨x,hx⟩:=List.exists_mem_of_length_pos hx;exact (l12 x hx q hq).symm.trans (l12 x hx r hr)
   ·have hd0:c.dim=0:=by
     have h1:=(h.rt.form c hc).cnt;have h2:=(h.rt.form c hc).dim;simp only[aw,Bool.or_eq_false_iff,Bool.and_eq_false_iff,decide_eq_false_iff_not] at h1;omega
    rcases BX s s16.2 oM q hq r hr with rfl | ⟨k1,k2,k3,k4⟩
    ·exact .refl _
    ·have ht:s - 2 ^ q.1 - 2 ^ r.1∈bL (f c.id):=cH.2 ⟨k1,nW k2 (cH.1 hs).2⟩;refine .one ⟨_,m2 q hq,_,m2 r hr,I,I,bId n (ixB L c.id) (s - 2 ^ q.1 - 2 ^ r.1),?_,?_⟩
     ·rw[h.hits hc (h.bit hc hs hq) hc ht,zf5 (rfl:c=c)];omega
     ·rw[h.hits hc (h.bit hc hs hr) hc ht,zf5 (rfl:c=c)];omega
  intro x' hx' y' hy'
  rcases (hmem x').1 hx' with ⟨x,hx,rfl⟩ | ⟨q,hq,rfl⟩ <;> rcases (hmem y').1 hy' with ⟨y,hy,rfl⟩ | ⟨r,hr,rfl⟩
  ·exact l11 x hx y hy
  ·exact l12 x hx r hr
  ·exact (l12 y hy q hq).symm
  ·exact l22 q hq r hr
omit h in
theorem tg (b:Nat):(bL b).length≤b:=by
 unfold bL;rw[List.range_succ_eq_map,List.filter_cons_of_neg (by simp)];have:=zc2 (fun s=>decide (0<s)&&decide (s &&& b=s)) ((List.range b).map Nat.succ);rw[ze1,zh8] at this;exact this
omit h in
theorem rR {α β:Type}(g:α→List β)(K:Nat):∀ {l:List α},(∀ x∈l,(g x).length≤K)→(l.flatMap g).length≤l.length * K
 | [],_=>by simp
 | x::l,h=>by
  rw[zg9,zd9,ze3,Nat.add_mul,Nat.one_mul];have h1:=h x (by simp);have h2:=rR g K (l:=l) fun y hy=>h y (by simp[hy]);omega
theorem Cov.len:(bA L f n).length≤L.length * 15:=by
 unfold bA;have:=rR (fun q:Cl×Nat=>(bL (f q.1.id)).map (bM L n q.2 q.1)) 15 (l:=L.zipIdx) fun q hq=>by
  rw[ze1];have h1:=tg (f q.1.id);have hm:L[q.2]?=some q.1:=List.mem_zipIdx_iff_getElem?.1 hq;have h2:=h.lt q.1 (zf6 hm);have h3:=h.pow;omega
 rwa [List.length_zipIdx] at this
theorem Cov.right:Rt (aa (bA L f n)):=by
 refine⟨?_,?_,fun x' hx'=>?_,fun x' hx'=>?_,fun x' hx' hd=>?_⟩
 ·rw[ak];have h1:=h.len;have h2:=h.few;omega
 ·have h1:=fZ (bA L f n);have h2:=h.nodup;rw[zj5] at h1;rw[List.Nodup,zj5] at h2;exact (h1.and h2).imp fun ⟨h3,h4⟩=>by omega
 ·obtain ⟨c,hc,s,hs,rfl⟩:=h.mem.1 hx';have:=(cH.1 hs).1;show 0<bId n (ixB L c.id) s;unfold bId;omega
 ·obtain ⟨c,hc,s,hs,rfl⟩:=h.mem.1 hx';exact h.fm hc hs
 ·obtain ⟨c,hc,s,hs,rfl⟩:=h.mem.1 hx';exact h.around hc hs hd
end
section
variable {p:Int}(hp:Fld p)(n:Nat)(B:List Cl)
include hp
end
section
variable (rf:List Cl→List Cl→Nat)(n:Nat)(B:List Cl)
end
section
variable {p:Int}(hp:Fld p){n:Nat}{B:List Cl}(hB:Rt B)(hdeg:∀ c∈B,0≤kL n c.id∧kL n c.id≤(n:Int) - 1)
include hp
include hB hdeg
end
section
variable (rf:List Cl→List Cl→Nat)(n:Nat)(B:List Cl)
end
section
variable {p:Int}(hp:Fld p){n:Nat}{B:List Cl}(hdeg:∀ c∈B,0≤kL n c.id∧kL n c.id≤(n:Int) - 1)
include hp
include hdeg
end
theorem s6 (L:List Cl)(id:Int):∀ (T:List (List Int)) (k:Nat),tlB L (k+1) T id=2 * tlB L k T id
 | [],_=>rfl
 | t::T,k=>by
  unfold tlB;rw[s6 L id T (k+1),Nat.mul_add,Nat.pow_succ];split <;> omega
theorem wC (L:List Cl)(t:List Int)(T:List (List Int))(id:Int):tlB L 0 (t::T) id=(if (eP L t).contains id then 1 else 0)+2 * tlB L 0 T id:=by
 rw[← s6];rfl
theorem Fl {a b x y:Nat}(ha:a≤1)(hb:b≤1)(h:a≤b)(k:x &&& y=x):(a+2 * x) &&& (b+2 * y)=a+2 * x:=by
 refine Nat.eq_of_testBit_eq fun j=>?_;rw[Nat.testBit_and];cases j with
 | zero =>
  rw[Nat.testBit_zero,Nat.testBit_zero];have h1:(a+2 * x) % 2=a:=oM;have h2:(b+2 * y) % 2=b:=oM;rw[h1,h2];by_cases e:a=1
  ·have:b=1:=oM;simp[e,this]
  ·simp[e]
 | succ j =>
  rw[Nat.testBit_succ,Nat.testBit_succ,show (a+2 * x) / 2=x by omega,show (b+2 * y) / 2=y by omega,← Nat.testBit_and,k]
theorem zQ (L:List Cl){a b:Int}:∀ {T:List (List Int)},(∀ t∈T,(eP L t).contains a=true→(eP L t).contains b=true)→tlB L 0 T a &&& tlB L 0 T b=tlB L 0 T a
 | [],_=>by simp[tlB]
 | t::T,h=>by
  rw[wC,wC];refine Fl (by split <;> omega) (by split <;> omega) ?_ (zQ L fun u hu=>h u (by simp[hu]));have:=h t (by simp);split
  ·rename_i h1;rw[zf5 (this h1)];exact lR _
  ·exact zf1 _
theorem BM {L:List Cl}(h:Rt L){T:List (List Int)}(hT:T.length≤4)(hf:L.length≤60)(hd:∀ c∈L,c.dim≤4)(hs:∀ c∈L,c.sides.length≤60):Cov L (tlB L 0 T) T.length :=
 ⟨h,hT,fun c _=>qR L c.id T,fun c hc x hx=>zQ L fun t _ hc1=>o7 h t c hc hc1 x hx,hf,hd,hs⟩
theorem CM:∀ b,b<16→0<b→((bL b).map fun s=>sgP ((onesB s:Int) - 1)).sum=1:=by decide +kernel
theorem An {B:List Cl}(h:Rt B):CA B=(B.map fun c=>sgP c.dim).sum:=by
 unfold CA;rw[h.tab];congr 1;refine zc5 fun c hc=>?_;have:=(h.form c hc).dim;unfold sgP;rw[Int.tmod_eq_emod_of_nonneg this.1];split <;> omega
section
variable {L:List Cl}{f:Int→Nat}{n:Nat}(h:Cov L f n)
include h
theorem Cov.euler (hc:∀ c∈L,0<f c.id):CA (aa (bA L f n))=CA L:=by
 rw[An h.right,An h.rt];have h1:((aa (bA L f n)).map fun c=>sgP c.dim).sum=((bA L f n).map fun c=>sgP c.dim).sum:=by
  unfold aa;rw[zh9];exact eI ((co _).map _)
 rw[h1];unfold bA;have key:∀ (m:List (Cl×Nat)),(∀ q∈m,q.1∈L)→((m.flatMap fun q=>(bL (f q.1.id)).map (bM L n q.2 q.1)).map fun c=>sgP c.dim).sum=((m.map Prod.fst).map fun c=>sgP c.dim).sum:=by
  intro m hm;induction m with
  | nil=>rfl
  | cons q m ih =>
   rw[zg9,zf9,List.sum_append,ih fun x hx=>hm x (by simp[hx]),zf8,zf8,List.sum_cons,zh9];congr 1;have hq:=hm q (by simp);have h2:=h.lt _ hq;have h3:=h.pow;rw[cg (g:=fun s=>sgP ((onesB s:Int) - 1)) (K:=sgP q.1.dim) fun s _=>?_,CM _ oM (hc _ hq),Int.mul_one];show sgP (q.1.dim+onesB s - 1)=_;rw[← qU];congr 1;omega
 rw[key _ fun q hq=>zf6 (List.mem_zipIdx_iff_getElem?.1 hq),List.zipIdx_map_fst]
theorem Cov.deg {c:Cl}(hc:c∈L){s:Nat}(hs:s∈bL (f c.id)):kL n (bId n (ixB L c.id) s)=(onesB s:Int) - 1:=by
 have:=(h.s16 hc hs).1;unfold kL bId;rw[Int.toNat_natCast,Nat.mul_comm,Nat.mul_add_mod,Nat.mod_eq_of_lt this]
end
end Go.Proofs.YtcfkpajlakidbaaGreatDoor
