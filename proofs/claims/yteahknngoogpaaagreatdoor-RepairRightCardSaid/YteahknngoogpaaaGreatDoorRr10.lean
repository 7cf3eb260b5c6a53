/- Agr1 Frm3 Mch1 Mch2 Bes Spc Shp M13 M13b M14 M14b SyEn -/
import Derived.Test.YteahknngoogpaaaGreatDoorRr09
import Derived.Test.YteahknngoogpaaaGreatDoorRr04
import Derived.Test.YteahknngoogpaaaGreatDoorRr07
import Derived.Test.YteahknngoogpaaaGreatDoorRr08
import Derived.Test.YteahknngoogpaaaGreatDoorRr05
import Derived.Test.YteahknngoogpaaaGreatDoorRr02
import Derived.Test.YteahknngoogpaaaGreatDoorRr03
import Derived.ChangeKeysEq
set_option linter.unusedSimpArgs false
set_option linter.unusedVariables false
namespace Go.Proofs.YteahknngoogpaaaGreatDoor
open _root_.Go.Proofs.Tryz _root_.Go.Proofs.YteahknngoogpaaaGreatDoor.Tryz
open Go Go.Sy Go.Pl Go.Proofs
set_option maxRecDepth 100000
set_option maxHeartbeats 1000000
theorem maxD_perm {l m:List Cl}(h:l.Perm m):∀ a,maxD l a=maxD m a:=by
 induction h with
 | nil=>exact fun _=>rfl
 | cons x _ ih=>exact fun a=>ih _
 | swap x y l=>intro a; simp only[maxD]; congr 1; omega
 | trans _ _ h1 h2=>exact fun a=>(h1 a).trans (h2 a)
def sideIds (l:List Cl):List Int:=l.flatMap fun c=>c.sides.map Side.cell
theorem sideIds_has (A:List Cl)(k:Int):(sideIds A).contains k=sideOf A k:=by
 rw[Bool.eq_iff_iff];simp[sideIds,sideOf,hasC]
theorem sideIds_succ {A:List Cl}{k:Nat}(h:k<A.length):sideIds (A.take (k+1))=sideIds (A.take k)++A[k].sides.map Side.cell:=by
 unfold sideIds;rw[tS h,List.flatMap_append];simp only[List.flatMap_cons,List.flatMap_nil,List.append_nil]
theorem flags_no {A:List Cl}{id:Int}(h:findT A id=none)(m:List Int):flags A (m++[id])=flags A m:=by
 unfold flags;refine List.map_congr_left fun c hc=>?_;have:=List.find?_eq_none.1 h c hc;simp only[decide_eq_true_eq] at this;simp[this]
theorem mapS_succ {ss:List Side}{j:Nat}(h:j<ss.length)(m:List Int):m++(ss.take (j+1)).map Side.cell=(m++(ss.take j).map Side.cell)++[ss[j].cell]:=by
 rw[tS h,List.map_append,List.append_assoc]; rfl
theorem refTops_spec (E:World)(g:PH)(s:Own)(v:Value)(l:List Cl)(hv:Cells g v l)(hf:Fits l) :
  Ctr Tryz.prog E 31 #[.agg #[v]] g s (fun r g' s'=>s=s'∧Le g g'∧Ints g' r (topsC l)):=by
 have hft:=tabC_fits hf;have hfl:=hft.1;have hsrt:=tabC_sorted l;have hnd:=tabC_nodup l;refine Ctr.of (args:=[.agg #[v]]) func31 I ntmps31 (bE I) ?_;refine SC.sR (SL.bx (bO I) fun b1=>?_);refine lA I (SL.nT (SC.sR (lA I (SL.nT (SC.sR (lK (qV 0 iT29 zT29 I I I) (lW (SO.call call42 I (refCells_spec E g _ _ l hv hf)) ?_)))))));rintro v11 g1 _ ⟨rfl,hle,hc⟩;obtain ⟨rs,hrs,hall⟩:=hc;have hcs:Cells g1 _ (tabC l):=⟨rs,hrs,hall⟩;obtain ⟨q,dd,rfl⟩:=hrs.form;have hrl:=hall.length;refine lA I (SL.nT (SC.sR (lM I (lU (eN uT27 I) (lW (mK encBool false sty109 I I I oM oM) ?_)))));rintro _ _ _ ⟨b14,rfl,rfl,rfl⟩;refine lA I (SL.nT (sQ (SC.sR (lA I (SL.nT (bK ?_))))));unfold topsC;generalize tabC l=A at *;refine SC.to (g':=g1) (s':=rowA encBool 4 (.slice (some ⟨b14,0,none⟩) rs.length rs.length) (flags A (sideIds (A.take 0)))::pt b1 (.cells #[v] 29 (0,0))::s) (fun w hw=>by rw[show sideIds (A.take 0)=[] from I,flags_nil,hrl]; exact hw) ?_;refine oP (ι:=Nat) (fun i=>[(3,.slice none 0 0),(4,.slice q rs.length dd),(5,.slice (some ⟨b14,0,none⟩) rs.length rs.length),(6,vi i)]) (fun _=>g1)
  (fun i=>rowA encBool 4 (.slice (some ⟨b14,0,none⟩) rs.length rs.length) (flags A (sideIds (A.take i)))::pt b1 (.cells #[v] 29 (0,0))::s)
  (fun i=>i≤A.length) (fun i=>A.length - i) 0 sB rfl rfl (Nat.zero_le _) ?_
 intro k hk;refine sQ (SC.sR (lM I (lM I (lU (eN uT27 I) (lU (lS I I) (SL.nT ?_))))));refine iP I (fun hlt=>?_) (fun hlt=>?_)
 ·have hkl:k<A.length:=oM;have hkr:k<rs.length:=oM;have hb1:=hrs.based oM;have hcr:=hall.get (gE hkl) (gE hkr);have hgr:rs[((k:Nat):Int).toNat]?=some rs[k]:=gE hkr;have hsucc:=sideIds_succ hkl;have hxl:=hft.2 _ (gM hkl);generalize A[k]=x at *;generalize rs[k]=r at *;generalize sideIds (A.take k)=m at *;obtain ⟨ri,rd,rp,rn,rc⟩:=r;have hsv:SlA encSide g1 (.slice rp rn rc) x.sides:=hcr.2.2;have hxn:rn=x.sides.length:=by obtain ⟨q,cc,hq⟩:=SlA.form hsv; simp at hq; exact hq.2.1
  subst hxn;refine kP (tN (sQ (bK (SC.sR (lA I (SL.nT (bK ?_)))))));refine oP (ι:=Nat) (fun j=>[(3,.slice none 0 0),(4,.slice q rs.length dd),(5,.slice (some ⟨b14,0,none⟩) rs.length rs.length),(6,vi k),(7,vi j)]) (fun _=>g1)
   (fun j=>rowA encBool 4 (.slice (some ⟨b14,0,none⟩) rs.length rs.length) (flags A (m++(x.sides.take j).map Side.cell))::pt b1 (.cells #[v] 29 (0,0))::s)
   (fun j=>j≤x.sides.length) (fun j=>x.sides.length - j) 0 sB rfl (by simp) (Nat.zero_le _) ?_
  intro j hj;refine sQ (SC.sR (lM I (lM I (lM I (lU (iA uT27 zT54 I I hb1 oM sL) (lU (fC uT54 I zT37 I hb1) (lK (pA (e:=encCell) (o:=2) (u:=.slice rp x.sides.length rc) iT37 I hrs.rd hgr I) (lU (eN uT37 I) (lU (lS I I) (SL.nT ?_))))))))));refine iP I (fun hlt2=>?_) (fun hlt2=>?_)
  ·have hjl:j<x.sides.length:=oM;have hb2:=SlA.based hsv oM;have hgj:x.sides[((j:Nat):Int).toNat]?=some x.sides[j]:=gE hjl;have hms:=mapS_succ hjl m;generalize m++(x.sides.take j).map Side.cell=m2 at *;generalize x.sides[j]=z at *;have hfl2:(flags A m2).length=A.length:=by simp[flags]
   rcases at_find hsrt z.cell with ⟨hf0,hat⟩ | ⟨c,kk,hf0,hat,hck⟩
   ·refine kP (tN (sQ (bK (SC.sR (lM I (lM I (lM I (lU (iA uT27 zT54 I I hb1 oM sL) (lU (fC uT54 I zT37 I hb1) (lK (pA (e:=encCell) (o:=2) (u:=.slice rp x.sides.length rc) iT37 I hrs.rd hgr I) (lM I (lU (iA uT37 zT56 I I hb2 oM sL) (lU (fC uT56 I zT3 I hb2) (lK (pA (o:=0) (u:=vi z.cell) iT3 I hsv.rd hgj I) (lW (SO.call call62 I (at_spec E g1 _ _ A z.cell hcs hfl hsrt)) ?_)))))))))))))));rintro _ _ _ ⟨rfl,rfl,rfl⟩;rw[hat];refine lA I (SL.nT (SC.sR (lM I (lU (SU.eq (v':=vb false) (gQ I I) (congrArg vb (decide_eq_false oM))) (SL.nT (cF I (kP (bN (tN (rG (lM I (lU (aD I I oM) (lA I (nL ?_))))))))))))));exact ST.again (j+1) sB I (by rw[hms,flags_no hf0]) oM oM
   ·have hkl2:kk<A.length:=(List.getElem?_eq_some_iff.1 hck).1;have hset:(flags A m2).set kk true=flags A (m2++[z.cell]):=by rw[flags_set hnd hck,(findT_mem hf0).2]
    refine kP (tN (sQ (bK (SC.sR (lM I (lM I (lM I (lU (iA uT27 zT54 I I hb1 oM sL) (lU (fC uT54 I zT37 I hb1) (lK (pA (e:=encCell) (o:=2) (u:=.slice rp x.sides.length rc) iT37 I hrs.rd hgr I) (lM I (lU (iA uT37 zT56 I I hb2 oM sL) (lU (fC uT56 I zT3 I hb2) (lK (pA (o:=0) (u:=vi z.cell) iT3 I hsv.rd hgj I) (lW (SO.call call62 I (at_spec E g1 _ _ A z.cell hcs hfl hsrt)) ?_)))))))))))))));rintro _ _ _ ⟨rfl,rfl,rfl⟩;rw[hat];refine lA I (SL.nT (SC.sR (lM I (lU (SU.eq (v':=vb true) (gQ I I) (congrArg vb (decide_eq_true oM))) (SL.nT (cT I (rG (lM I (lM I (lU (iA underlying109 zT4 I I I oM sL) (SL.O2 (sT (e:=encBool) (a:=true) 0 zT4 I I I (by rw[hfl2]; omega) I) ?_)))))))))));refine nL (bN (tN (rG (lM I (lU (aD I I oM) (lA I (nL ?_)))))));exact ST.again (j+1) sB rfl (by rw[hms,← hset]; rfl) oM oM
  ·have hjj:x.sides.take j=x.sides:=tL oM;rw[hjj,← hsucc];refine xI (tX (tX (bX (bN (tN (rG (lM I (lU (aD I I oM) (lA I (nL ?_))))))))));exact ST.again (k+1) sB I I oM oM
 ·have hkk:A.take k=A:=tL oM;rw[hkk];refine xI (tX (tX (bX (tN (sQ (SC.sR (lA I (SL.nT (bK (cP (List.Perm.swap _ _ _) (cP (List.Perm.swap _ _ _) (SC.nilRow 3 1 ?_))))))))))));refine oP (ι:=Value×Nat) (fun i=>[(3,i.1),(4,.slice q rs.length dd),(5,.slice (some ⟨b14,0,none⟩) rs.length rs.length),(9,vi i.2)]) (fun _=>g1)
   (fun i=>rowA encInt 3 i.1 (((A.take i.2).filter fun c=>!sideOf A c.id).map Cl.id)::rowA encBool 4 (.slice (some ⟨b14,0,none⟩) rs.length rs.length) (flags A (sideIds A))::pt b1 (.cells #[v] 29 (0,0))::s)
   (fun i=>i.2≤A.length) (fun i=>A.length - i.2) (.slice none 0 0,0) sB rfl rfl (Nat.zero_le _) ?_
  rintro ⟨ov,i⟩ hi;dsimp only at hi ⊢;refine sQ (SC.sR (lM I (lM I (lU (eN uT27 I) (lU (lS I I) (SL.nT ?_))))));refine iP I (fun hlt3=>?_) (fun hlt3=>?_)
  ·have hil:i<A.length:=oM;have hir:i<rs.length:=oM;have hb1:=hrs.based oM;have hcr:=hall.get (gE hil) (gE hir);have hgr:rs[((i:Nat):Int).toNat]?=some rs[i]:=gE hir;have hsucc:=filt_succ hil (fun c=>!sideOf A c.id) Cl.id;have hlek:=filt_le A i (fun c=>!sideOf A c.id) Cl.id;have hgf:(flags A (sideIds A))[((i:Nat):Int).toNat]?=some (sideOf A A[i].id):=by rw[← sideIds_has]; exact flags_get (gE hil)
   generalize A[i]=x at *;generalize rs[i]=r at *;refine kP (tN (sQ (bK (SC.sR (lM I (lM I (lU (iA underlying109 zT4 I I I oM sL) (lK (eB (e:=encBool) isAgg4 I (Rd.rowA 1 I) hgf I) (lU (SU.not I) (SL.nT ?_))))))))));refine iQ I (fun htop=>?_) (fun htop=>?_)
   ·refine rG (lM rfl (lM rfl (lM rfl (lU (iA uT27 zT54 rfl rfl hb1 oM sL) (lU (fC uT54 rfl zT3 rfl hb1) (lK (pA (e:=encCell) (o:=0) (u:=vi x.id) iT3 rfl hrs.rd hgr (by rw[← hcr.1]; rfl)) ?_))))));refine lW (SO.buildSlice sty22 I I I (szs_mk sB) dC) ?_;rintro _ _ _ ⟨b64,rfl,rfl,rfl⟩;refine lW (aP (e:=encInt) 0 x.id sty22 I I I I I oM oM) ?_;rintro ov' _ _ ⟨rfl,rfl⟩;refine lA I (nL (bN (tN (rG (lM I (lU (aD I I oM) (lA I (nL ?_))))))));refine ST.to (fun w hw=>?_) (g':=g1) (s':=rowA encInt 3 ov' (((A.take (i+1)).filter fun c=>!sideOf A c.id).map Cl.id)::rowA encBool 4 (.slice (some ⟨b14,0,none⟩) rs.length rs.length) (flags A (sideIds A))::pt b1 (.cells #[v] 29 (0,0))::s) ?_
    ·rw[hsucc,if_pos (by simpa using htop)]; exact hw
    exact ST.again (ov',i+1) sB I I (by dsimp only; omega) lN
   ·refine kP (bN (tN (rG (lM I (lU (aD I I oM) (lA I (nL ?_)))))));refine ST.to (fun w hw=>?_) (g':=g1) (s':=rowA encInt 3 ov (((A.take (i+1)).filter fun c=>!sideOf A c.id).map Cl.id)::rowA encBool 4 (.slice (some ⟨b14,0,none⟩) rs.length rs.length) (flags A (sideIds A))::pt b1 (.cells #[v] 29 (0,0))::s) ?_
    ·rw[hsucc,if_neg (by simpa using htop),List.append_nil]; exact hw
    exact ST.again (ov,i+1) sB I I (by dsimp only; omega) lN
  ·have hii:A.take i=A:=tL oM;rw[hii];refine xI (tX (tX (bX (tN (SC.sR (lM I (lA I (SL.nT (rE (fT fun g2 hle2 hs2=>?_))))))))));refine dR (s':=s) (.cons _ (.cons _ (.refl _))) ?_;exact ST.ret1 (.inl I) results31 I ⟨I,hle.trans hle2,hs2⟩
open Go.ChangeShapes Go.WideShapes Go.ChangeAt Go.RowKit
set_option maxRecDepth 100000
section
variable {H:Type}{enc:TypeId×Value→H}{W:World}{base:Nat}{spare:Nat→Bool}{hd:Bool}
theorem lit_wf {n:Int}(h:(Lit.int .i64 n).wf=true):inI64 n:=by
 have h2:IntKind.i64.min≤n∧n≤IntKind.i64.max:=by simpa [Lit.wf] using h
 have e1:IntKind.i64.min = -9223372036854775808:=by decide
 have e2:IntKind.i64.max=9223372036854775807:=by decide
 unfold inI64;omega
theorem three_wf {fuel:Nat}{c0 c1 c2:Value}{x:DataW H×List MemPlace}(h:DataW.trod enc Tryz.prog W base spare hd fuel 41 [c0,c1,c2]=some x):∃ a b c:Int,c0=vi a∧c1=vi b∧c2=vi c∧inI64 a∧inI64 b∧inI64 c:=by
 obtain ⟨y0,y1,y2,n,_,h0,h1,h2⟩:=trod_array3 underlying41 cells3 h;obtain ⟨a,e0,_,w0⟩:=DataW.trod_int uT3 h0;obtain ⟨b,e1,_,w1⟩:=DataW.trod_int uT3 h1;obtain ⟨c,e2,_,w2⟩:=DataW.trod_int uT3 h2;simp at e0 e1 e2;exact⟨a,b,c,e0,e1,e2,lit_wf w0,lit_wf w1,lit_wf w2⟩
end
abbrev Pr:=Int×Int
def Ring (adj:Pr→Pr→Bool)(l:List Pr):Prop:=l≠[]∧∀ x∈l,∃ y∈l,y≠x∧adj x y=true
def Cyc (adj:Pr→Pr→Bool)(m:List Pr):Prop:=∃ l,Ring adj l∧∀ x∈l,x∈m
def leadsR (adj:Pr→Pr→Bool)(l:List Pr)(k:Nat):Bool:=(List.range l.length).any fun j=>decide (j≠k)&&adj (l.getD k (0,0)) (l.getD j (0,0))
def freeAt (adj:Pr→Pr→Bool)(l:List Pr):Option Nat:=(List.range l.length).find? fun k=>!leadsR adj l k
def peel (adj:Pr→Pr→Bool):Nat→List Pr→List Pr
 | 0,l=>l
 | n+1,l=>match freeAt adj l with
  | none=>l
  | some k=>peel adj n (l.eraseIdx k)
def ringR (adj:Pr→Pr→Bool)(m:List Pr):Bool:=decide (peel adj m.length m≠[])
theorem peel_succ (adj:Pr→Pr→Bool)(n:Nat)(l:List Pr):peel adj (n+1) l=match freeAt adj l with
  | none=>l
  | some k=>peel adj n (l.eraseIdx k):=rfl
theorem freeAt_some {adj:Pr→Pr→Bool}{l:List Pr}{k:Nat}(h:freeAt adj l=some k):∃ hk:k<l.length,∀ j (hj:j<l.length),j≠k→adj l[k] l[j]=false:=by
 unfold freeAt at h;have h1:=List.find?_some h;have h2:=List.mem_range.1 (List.mem_of_find?_eq_some h);refine⟨h2,fun j hj hne=>?_⟩;unfold leadsR at h1;simp only[Bool.not_eq_true',List.any_eq_false,List.mem_range,Bool.and_eq_true,decide_eq_true_eq,not_and,Bool.not_eq_true] at h1;have:=h1 j hj hne;rwa [List.getD_eq_getElem?_getD,List.getD_eq_getElem?_getD,gE h2,gE hj] at this
theorem freeAt_none {adj:Pr→Pr→Bool}{l:List Pr}(h:freeAt adj l=none){k:Nat}(hk:k<l.length):∃ j,∃ hj:j<l.length,j≠k∧adj l[k] l[j]=true:=by
 unfold freeAt at h;have h1:=List.find?_eq_none.1 h k (List.mem_range.2 hk);unfold leadsR at h1;simp only[Bool.not_eq_true',Bool.not_eq_false,List.any_eq_true,List.mem_range,Bool.and_eq_true,decide_eq_true_eq] at h1;obtain ⟨j,hj,hne,ha⟩:=h1;rw[List.getD_eq_getElem?_getD,List.getD_eq_getElem?_getD,gE hk,gE hj] at ha;exact⟨j,hj,hne,ha⟩
theorem mem_erase {l:List Pr}{k i:Nat}(hi:i<l.length)(h:i≠k):l[i]∈l.eraseIdx k:=by
 rw[List.mem_eraseIdx_iff_getElem];exact⟨i,hi,h,I⟩
theorem peel_keeps {adj:Pr→Pr→Bool}{R:List Pr}(hR:Ring adj R):∀ (n:Nat) {l:List Pr},(∀ x∈R,x∈l)→∀ x∈R,x∈peel adj n l
 | 0,_,h=>h
 | n+1,l,h=>by
  rw[peel_succ];cases hf:freeAt adj l with
  | none=>exact h
  | some k =>
   obtain ⟨hk,hno⟩:=freeAt_some hf;refine peel_keeps hR n fun x hx=>?_;obtain ⟨i,hi,rfl⟩:=List.getElem_of_mem (h x hx);refine mem_erase hi fun e=>?_;subst e;obtain ⟨y,hy,hne,ha⟩:=hR.2 _ hx;obtain ⟨j,hj,rfl⟩:=List.getElem_of_mem (h y hy);have:=hno j hj (fun e=>hne (by subst e; rfl));rw[this] at ha;exact absurd ha dC
theorem peel_free {adj:Pr→Pr→Bool}:∀ (n:Nat) {l:List Pr},l.length≤n→freeAt adj (peel adj n l)=none
 | 0,l,h=>by
  rw[List.eq_nil_of_length_eq_zero (by omega:l.length=0)];rfl
 | n+1,l,h=>by
  rw[peel_succ];cases hf:freeAt adj l with
  | none=>exact hf
  | some k =>
   obtain ⟨hk,-⟩:=freeAt_some hf;exact peel_free n (by rw[List.length_eraseIdx_of_lt hk]; omega)
theorem peel_sub {adj:Pr→Pr→Bool}:∀ (n:Nat) (l:List Pr),(peel adj n l).Sublist l
 | 0,l=>List.Sublist.refl l
 | n+1,l=>by
  rw[peel_succ];cases freeAt adj l with
  | none=>exact List.Sublist.refl l
  | some k=>exact (peel_sub n _).trans (List.eraseIdx_sublist _ _)
theorem ringR_iff {adj:Pr→Pr→Bool}{m:List Pr}(hm:m.Nodup):ringR adj m=true↔Cyc adj m:=by
 unfold ringR;rw[decide_eq_true_iff];constructor
 ·intro h;have hf:=peel_free (adj:=adj) m.length (lR _);have hs:=peel_sub (adj:=adj) m.length m;have hn:=hm.sublist hs;refine⟨_,⟨h,fun x hx=>?_⟩,fun x hx=>hs.subset hx⟩;obtain ⟨k,hk,rfl⟩:=List.getElem_of_mem hx;obtain ⟨j,hj,hne,ha⟩:=freeAt_none hf hk;exact⟨_,gM hj,fun e=>hne ((List.getElem_inj hn).1 e),ha⟩
 ·rintro ⟨R,hR,hsub⟩ e;obtain ⟨x,hx⟩:=List.exists_mem_of_ne_nil _ hR.1;have:=peel_keeps hR m.length hsub x hx;rw[e] at this;simp at this
inductive Pth (adj:Pr→Pr→Bool)(m:List Pr):Pr→Pr→Prop
 | one (x y:Pr) (hy:y∈m) (hne:y≠x) (ha:adj x y=true):Pth adj m x y
 | cons (x y z:Pr) (hy:y∈m) (hne:y≠x) (ha:adj x y=true) (h:Pth adj m y z):Pth adj m x z
theorem Pth.snoc {adj:Pr→Pr→Bool}{m:List Pr}{x y z:Pr}(h:Pth adj m x y)(hz:z∈m)(hne:z≠y)(ha:adj y z=true):Pth adj m x z:=by
 induction h with
 | one x y hy h1 h2=>exact .cons x y z hy h1 h2 (.one y z hz hne ha)
 | cons x y w hy h1 h2 _ ih=>exact .cons x y z hy h1 h2 (ih hne ha)
theorem cyc_iff {adj:Pr→Pr→Bool}{T:List Pr}{p:Pr}(hT:¬ Cyc adj T):Cyc adj (T++[p])↔Pth adj (T++[p]) p p:=by
 classical
 constructor
 ·rintro ⟨L,hL,hsub⟩;have hin:∀ R:List Pr,Ring adj R→(∀ x∈R,x∈T++[p])→p∈R:=fun R hR h=>Classical.byContradiction fun hp=>hT ⟨R,hR,fun x hx=>by
   rcases List.mem_append.1 (h x hx) with h1 | h1
   ·exact h1
   ·exact absurd (by simpa using h1:x=p) fun e=>hp (e ▸ hx)⟩
  have hp:=hin L hL hsub;have hR:Ring adj (L.filter fun y=>decide (Pth adj (T++[p]) p y)):=by
   refine⟨?_,fun x hx=>?_⟩
   ·obtain ⟨y,hy,hne,ha⟩:=hL.2 p hp;intro e;have:y∈L.filter fun y=>decide (Pth adj (T++[p]) p y):=List.mem_filter.2 ⟨hy,by simpa using Pth.one p y (hsub y hy) hne ha⟩;rw[e] at this;simp at this
   ·obtain ⟨h1,h2⟩:=List.mem_filter.1 hx;obtain ⟨y,hy,hne,ha⟩:=hL.2 x h1;exact⟨y,List.mem_filter.2 ⟨hy,by simpa using (of_decide_eq_true h2).snoc (hsub y hy) hne ha⟩,hne,ha⟩
  have:=hin _ hR fun x hx=>hsub x (List.mem_filter.1 hx).1;exact of_decide_eq_true (List.mem_filter.1 this).2
 ·intro h;refine⟨(T++[p]).filter fun y=>decide (Pth adj (T++[p]) p y∧Pth adj (T++[p]) y p),⟨fun e=>?_,fun x hx=>?_⟩,fun x hx=>(List.mem_filter.1 hx).1⟩
  ·have:p∈(T++[p]).filter fun y=>decide (Pth adj (T++[p]) p y∧Pth adj (T++[p]) y p):=List.mem_filter.2 ⟨by simp,by simpa using h⟩;rw[e] at this;simp at this
  ·obtain ⟨h1,h2⟩:=List.mem_filter.1 hx;obtain ⟨h3,h4⟩:=of_decide_eq_true h2;cases h4 with
   | one _ _ hy hne ha=>exact⟨p,List.mem_filter.2 ⟨by simp,by simpa using h⟩,hne,ha⟩
   | cons _ y _ hy hne ha h5=>exact⟨y,List.mem_filter.2 ⟨hy,by simpa using ⟨h3.snoc hy hne ha,h5⟩⟩,hne,ha⟩
def loopP (p:Pr)(H:Int→Option Int)(rc:Pr→List Int→Bool×List Int)(x:Pr):List Int→List Int→Bool×List Int
 | [],seen=>(false,seen)
 | low::r,seen =>
  if low=x.1 then loopP p H rc x r seen
  else if low=p.1 then (true,seen)
  else match H low with
   | none=>loopP p H rc x r seen
   | some nx=>if seen.contains nx then loopP p H rc x r seen else
    if (rc (low,nx) (seen++[nx])).1=true then (true,(rc (low,nx) (seen++[nx])).2) else loopP p H rc x r (rc (low,nx) (seen++[nx])).2
def reachP (p:Pr)(S:Int→List Int)(H:Int→Option Int):Nat→Pr→List Int→Bool×List Int
 | 0,_,seen=>(false,seen)
 | n+1,x,seen=>loopP p H (reachP p S H n) x (S x.2) seen
theorem reachP_succ (p:Pr)(S:Int→List Int)(H:Int→Option Int)(n:Nat)(x:Pr)(seen:List Int):reachP p S H (n+1) x seen=loopP p H (reachP p S H n) x (S x.2) seen:=rfl
def highT (T:List Pr)(low:Int):Option Int:=(T.find? fun q=>decide (q.1=low)).map Prod.snd
theorem highT_mem {T:List Pr}{low nx:Int}(h:highT T low=some nx):(low,nx)∈T:=by
 unfold highT at h;rw[Option.map_eq_some_iff] at h;obtain ⟨q,hq,rfl⟩:=h;have h1:=List.find?_some hq;have h2:=List.mem_of_find?_eq_some hq;simp only[decide_eq_true_eq] at h1;rw[← h1];exact h2
theorem highT_of {T:List Pr}(hT:(T.map Prod.fst).Nodup){y:Pr}(hy:y∈T):highT T y.1=some y.2:=by
 induction T with
 | nil=>simp at hy
 | cons a T ih =>
  rw[List.map_cons,List.nodup_cons] at hT;unfold highT;rw[List.find?_cons]
  rcases List.mem_cons.1 hy with rfl | hy
  ·simp
  ·have:a.1≠y.1:=fun e=>hT.1 (by rw[e]; exact List.mem_map.2 ⟨y,hy,rfl⟩);rw[decide_eq_false this];exact ih hT.2 hy
def adjS (S:Int→List Int)(x y:Pr):Bool:=(S x.2).contains y.1
section
variable {p:Pr}{S:Int→List Int}{T:List Pr}
theorem loopP_true {rc:Pr→List Int→Bool×List Int}{x:Pr}(hrc:∀ y s,(rc y s).1=true→Pth (adjS S) (T++[p]) y p):∀ (q:List Int) (seen:List Int),(∀ z∈q,z∈S x.2)→(loopP p (highT T) rc x q seen).1=true→Pth (adjS S) (T++[p]) x p
 | [],_,_,h=>by simp[loopP] at h
 | low::r,seen,hq,h=>by
  have hr:=loopP_true (x:=x) hrc r;have hin:low∈S x.2:=hq low (by simp);have hq':∀ z∈r,z∈S x.2:=fun z hz=>hq z (by simp[hz]);unfold loopP at h;split at h
  ·exact hr _ hq' h
  ·rename_i h1;split at h
   ·rename_i h2;exact .one x p (by simp) (fun e=>h1 (by rw[h2,e])) (by unfold adjS; rw[List.contains_iff_mem,← h2]; exact hin)
   ·cases hh:highT T low with
    | none=>rw[hh] at h; exact hr _ hq' h
    | some nx =>
     rw[hh] at h;dsimp only at h;split at h
     ·exact hr _ hq' h
     ·split at h
      ·rename_i h4;exact .cons x (low,nx) p (List.mem_append_left _ (highT_mem hh)) (fun e=>h1 (by rw[← e])) (by unfold adjS; rw[List.contains_iff_mem]; exact hin) (hrc _ _ h4)
      ·exact hr _ hq' h
theorem reachP_true:∀ (n:Nat) (x:Pr) (seen:List Int),(reachP p S (highT T) n x seen).1=true→Pth (adjS S) (T++[p]) x p
 | 0,_,_,h=>by simp[reachP] at h
 | n+1,x,seen,h=>loopP_true (fun y s hy=>reachP_true n y s hy) (S x.2) seen (fun _ hz=>hz) h
def Shut (p:Pr)(S:Int→List Int)(T:List Pr)(x:Pr)(s:List Int):Prop:=∀ low∈S x.2,low≠x.1→low≠p.1∧∀ nx,highT T low=some nx→nx∈s
theorem Shut.mono {x:Pr}{s s':List Int}(h:Shut p S T x s)(hs:∀ z∈s,z∈s'):Shut p S T x s':=fun low hl hne=>⟨(h low hl hne).1,fun nx hn=>hs _ ((h low hl hne).2 nx hn)⟩
def cntP (T:List Pr)(seen:List Int):Nat:=(T.filter fun q=>!seen.contains q.2).length
theorem cntP_mono {v v':List Int}(h:∀ x∈v,x∈v'):cntP T v'≤cntP T v:=by
 unfold cntP;rw[← List.countP_eq_length_filter,← List.countP_eq_length_filter];apply List.countP_mono_left;intro c _ hp;simp at hp ⊢;exact fun e=>hp (h _ e)
theorem cntP_lt:∀ {T:List Pr} {v:List Int} {q:Pr},q∈T→v.contains q.2=false→cntP T (v++[q.2])<cntP T v
 | [],_,_,hq,_=>by simp at hq
 | d::t,v,q,hq,hn=>by
  have hm:cntP t (v++[q.2])≤cntP t v:=cntP_mono (fun x hx=>by simp[hx]);have e1:∀ u:List Int,cntP (d::t) u=(if u.contains d.2 then 0 else 1)+cntP t u:=fun u=>by
   unfold cntP;rw[List.filter_cons];cases u.contains d.2 <;> simp <;> omega
  rw[e1,e1]
  rcases List.mem_cons.1 hq with rfl | hq'
  ·have:(v++[q.2]).contains q.2=true:=by simp
   rw[this,hn];simp;omega
  ·have:=cntP_lt hq' hn;cases h1:v.contains d.2
   ·cases h2:(v++[q.2]).contains d.2 <;> simp <;> omega
   ·have h2:(v++[q.2]).contains d.2=true:=by simp at h1 ⊢; exact .inl h1
    rw[h2];simp;exact this
def Done (p:Pr)(S:Int→List Int)(T:List Pr)(v s:List Int):Prop:=(∀ z∈v,z∈s)∧∀ low nx,highT T low=some nx→nx∈s→nx ∉ v→Shut p S T (low,nx) s
theorem loopP_false (hinj:∀ a b n,highT T a=some n→highT T b=some n→a=b){n:Nat}{rc:Pr→List Int→Bool×List Int}(hrc:∀ y v,cntP T v<n→(rc y v).1=false→Done p S T v (rc y v).2∧Shut p S T y (rc y v).2){x:Pr}:∀ (q v:List Int),cntP T v<n+1→(loopP p (highT T) rc x q v).1=false →
  Done p S T v (loopP p (highT T) rc x q v).2∧∀ low∈q,low≠x.1→low≠p.1∧∀ nx,highT T low=some nx→nx∈(loopP p (highT T) rc x q v).2
 | [],v,_,_=>⟨⟨fun z hz=>hz,fun _ _ _ h1 h2=>absurd h1 h2⟩,by simp⟩
 | low::r,v,hc,h=>by
  have ih:=loopP_false hinj hrc (x:=x) r;unfold loopP at h ⊢;split at h
  ·rename_i h1;rw[if_pos h1];obtain ⟨d1,d2⟩:=ih v hc h;exact⟨d1,fun z hz hne=>by
    rcases List.mem_cons.1 hz with rfl | hz
    ·exact absurd h1 hne
    ·exact d2 z hz hne⟩
  ·rename_i h1;rw[if_neg h1];split at h
   ·simp at h
   ·rename_i h2;rw[if_neg h2];cases hh:highT T low with
    | none =>
     rw[hh] at h;dsimp only at h ⊢;obtain ⟨d1,d2⟩:=ih v hc h;exact⟨d1,fun z hz hne=>by
      rcases List.mem_cons.1 hz with rfl | hz
      ·exact⟨h2,fun nx hn=>by rw[hh] at hn; cases hn⟩
      ·exact d2 z hz hne⟩
    | some nx =>
     rw[hh] at h;dsimp only at h ⊢;split at h
     ·rename_i h3;rw[if_pos h3];obtain ⟨d1,d2⟩:=ih v hc h;exact⟨d1,fun z hz hne=>by
       rcases List.mem_cons.1 hz with rfl | hz
       ·exact⟨h2,fun ny hn=>by
         rw[hh] at hn;injection hn with hn
         subst hn;exact d1.1 _ (List.contains_iff_mem.1 h3)⟩
       ·exact d2 z hz hne⟩
     ·rename_i h3;have h3':v.contains nx=false:=by simpa using h3
      rw[if_neg h3];split at h
      ·simp at h
      ·rename_i h4;rw[if_neg h4];have hlt:cntP T (v++[nx])<n:=by
        have:=cntP_lt (q:=(low,nx)) (highT_mem hh) h3';dsimp only at this;omega
       obtain ⟨e1,e2⟩:=hrc (low,nx) (v++[nx]) hlt (by simpa using h4);have hc2:cntP T (rc (low,nx) (v++[nx])).2<n+1:=by
        have:=cntP_mono (T:=T) e1.1;omega
       obtain ⟨d1,d2⟩:=ih _ hc2 h;refine⟨⟨fun z hz=>d1.1 z (e1.1 z (by simp[hz])),fun a b hab hb hnv=>?_⟩,fun z hz hne=>?_⟩
       ·by_cases h5:b∈(rc (low,nx) (v++[nx])).2
        ·by_cases h6:b∈v++[nx]
         ·rcases List.mem_append.1 h6 with h7 | h7
          ·exact absurd h7 hnv
          ·have h7:b=nx:=by simpa using h7
           subst h7;rw[hinj a low b hab hh];exact e2.mono d1.1
         ·exact (e1.2 a b hab h5 h6).mono d1.1
        ·exact d1.2 a b hab hb h5
       ·rcases List.mem_cons.1 hz with rfl | hz
        ·exact⟨h2,fun ny hn=>by
          rw[hh] at hn;injection hn with hn
          subst hn;exact d1.1 _ (e1.1 _ (by simp))⟩
        ·exact d2 z hz hne
theorem reachP_false (hinj:∀ a b n,highT T a=some n→highT T b=some n→a=b):∀ (n:Nat) (x:Pr) (v:List Int),cntP T v<n→(reachP p S (highT T) n x v).1=false→Done p S T v (reachP p S (highT T) n x v).2∧Shut p S T x (reachP p S (highT T) n x v).2
 | 0,_,_,hc,_=>absurd hc oM
 | n+1,x,v,hc,h=>loopP_false hinj (fun y w hw hy=>reachP_false hinj n y w hw hy) (S x.2) v hc h
theorem reach_ring {n:Nat}(hT:¬ Cyc (adjS S) T)(h1:((T++[p]).map Prod.fst).Nodup)(h2:(T.map Prod.snd).Nodup)(hn:T.length<n):(reachP p S (highT T) n p []).1=ringR (adjS S) (T++[p]):=by
 have hnd:(T++[p]).Nodup:=(List.pairwise_map.1 h1).imp fun h e=>h (by rw[e]);have hTf:(T.map Prod.fst).Nodup:=by
  rw[List.map_append] at h1;exact (List.nodup_append.1 h1).1
 have hp:∀ y∈T,y.1≠p.1:=fun y hy e=>by
  rw[List.map_append,List.nodup_append] at h1;exact h1.2.2 _ (List.mem_map.2 ⟨y,hy,I⟩) p.1 (by simp) e
 have hinj:∀ a b n,highT T a=some n→highT T b=some n→a=b:=fun a b k ha hb=>by
  have m1:=highT_mem ha;have m2:=highT_mem hb;obtain ⟨i,hi,e1⟩:=List.getElem_of_mem m1;obtain ⟨j,hj,e2⟩:=List.getElem_of_mem m2;have:(T.map Prod.snd)[i]'(by simpa using hi)=(T.map Prod.snd)[j]'(by simpa using hj):=by simp[e1,e2]
  have:=(List.getElem_inj h2).1 this;subst this;rw[e1] at e2;exact congrArg Prod.fst e2
 rw[Bool.eq_iff_iff,ringR_iff hnd,cyc_iff hT];refine⟨fun h=>reachP_true n p [] h,fun h=>?_⟩;refine Classical.byContradiction fun hf=>?_;have hf:(reachP p S (highT T) n p []).1=false:=by simpa using hf
 have hc:cntP T []<n:=by
  have:cntP T []≤T.length:=List.length_filter_le _ _;omega
 obtain ⟨d1,d2⟩:=reachP_false hinj n p [] hc hf;generalize (reachP p S (highT T) n p []).2=s at *;have key:∀ x z,Pth (adjS S) (T++[p]) x z→z=p→(x=p∨(x∈T∧x.2∈s))→False:=by
  intro x z hxz;have stepx:∀ x y:Pr,(x=p∨(x∈T∧x.2∈s))→y∈T++[p]→y≠x→adjS S x y=true→y≠p∧y∈T∧y.2∈s:=by
   intro x y hx hy hne ha;have hsh:Shut p S T x s:=by
    rcases hx with rfl | ⟨hx,hs⟩
    ·exact d2
    ·exact d1.2 x.1 x.2 (highT_of hTf hx) hs (by simp)
   have hl:y.1≠x.1:=fun e=>hne (by
    rcases List.mem_append.1 hy with hy1 | hy1
    ·rcases hx with rfl | ⟨hx,-⟩
     ·exact absurd e (hp y hy1)
     ·have a1:=highT_of hTf hx;have a2:=highT_of hTf hy1;rw[e,a1] at a2;injection a2 with a2
      exact Prod.ext e a2.symm
    ·have hy2:y=p:=by simpa using hy1
     subst hy2
     rcases hx with rfl | ⟨hx,-⟩
     ·rfl
     ·exact absurd e.symm (hp x hx))
   obtain ⟨g1,g2⟩:=hsh y.1 (List.contains_iff_mem.1 ha) hl;have hyp:y≠p:=fun e=>g1 (by rw[e])
   rcases List.mem_append.1 hy with hy | hy
   ·exact⟨hyp,hy,g2 y.2 (highT_of hTf hy)⟩
   ·exact absurd (by simpa using hy) hyp
  induction hxz with
  | one x y hy hne ha=>exact fun e hx=>(stepx x y hx hy hne ha).1 e
  | cons x y w hy hne ha _ ih =>
   intro e hx;obtain ⟨a1,a2,a3⟩:=stepx x y hx hy hne ha;exact ih e (.inr ⟨a2,a3⟩)
 exact key p p h I (.inl I)
end
def sidC (l:List Cl)(h:Int):List Int:=((findC l h).getD zeroC).sides.map Side.cell
def sgnP (l:List Cl)(low high:Int):Int:=(((findC l high).getD zeroC).sides.find? fun s=>decide (s.cell=low)).elim 0 Side.sign
def usedR (m:List Pr)(id:Int):Bool:=(m.any fun q=>decide (q.1=id))||(m.any fun q=>decide (q.2=id))
def pairBad (l:List Cl)(m:List Pr)(k:Nat):Bool:=usedR (m.take k) (m.getD k (0,0)).1||usedR (m.take k) (m.getD k (0,0)).2||decide (sgnP l (m.getD k (0,0)).1 (m.getD k (0,0)).2=0)
def adjR (l:List Cl)(x y:Pr):Bool:=decide (sgnP l y.1 x.2≠0)
def mcheckR (l:List Cl)(m:List Pr):Int:=if (checkC l).2≠0 then (checkC l).2 else if (List.range m.length).any (pairBad l m) then 42 else if ringR (adjR l) m then 43 else 0
def takeR (l:List Cl)(T:List Pr)(p:Pr):List Pr:=if mcheckR l (T++[p])=0 then T++[p] else T
def keepR (l:List Cl)(m:List Pr):List Pr:=m.foldl (takeR l) []
def pairsR (l:List Cl):List Pr:=(tabC l).flatMap fun c=>(aboveC l c.id).map fun h=>(c.id,h)
def extendR (l:List Cl)(m:List Pr):List Pr:=if (checkC l).2=0 then (pairsR l).foldl (takeR l) (keepR l m) else []
def takeP (r:Bool)(S:Int→List Int)(T:List Pr)(p:Pr):List Pr:=if r && !usedR T p.1 && !usedR T p.2&&(S p.2).contains p.1 && !(reachP p S (highT T) (T.length+1) p []).1 then T++[p] else T
def keepP (r:Bool)(S:Int→List Int)(m:List Pr):List Pr:=m.foldl (takeP r S) []
def pairsP (l:List Cl):List Pr:=(canonC l).flatMap fun c=>(aboveC l c.id).map fun h=>(c.id,h)
def extendP (r:Bool)(S:Int→List Int)(l:List Cl)(m:List Pr):List Pr:=(pairsP l).foldl (takeP r S) (keepP r S m)
structure Vd (l:List Cl)(T:List Pr):Prop where
 once:(T.map Prod.fst++T.map Prod.snd).Nodup
 side:∀ q∈T,q.1∈sidC l q.2
 free:¬ Cyc (adjS (sidC l)) T
theorem Vd.nil (l:List Cl):Vd l []:=⟨by simp,by simp,fun ⟨L,hL,hs⟩=>by
 obtain ⟨x,hx⟩:=List.exists_mem_of_ne_nil _ hL.1;exact absurd (hs x hx) (by simp)⟩
theorem used_iff {T:List Pr}{id:Int}:usedR T id=true↔id∈T.map Prod.fst++T.map Prod.snd:=by
 unfold usedR;simp only[Bool.or_eq_true,List.any_eq_true,decide_eq_true_eq,List.mem_append,List.mem_map]
section
variable {l:List Cl}(hl:(checkC l).2=0)
include hl
theorem rt_sides {h:Int}{s:Side}(hs:s∈((findC l h).getD zeroC).sides):∃ c,findC l h=some c∧c∈canonC l∧c.id=h∧(s.sign=1∨s.sign = -1)∧∃ d,findC l s.cell=some d∧d.dim=c.dim - 1:=by
 have hr:=rt_of hl;have ht:tabC l=canonC l:=tabC_strict hr.asc;cases hc:findC l h with
 | none=>rw[hc] at hs; simp[zeroC] at hs
 | some c =>
  rw[hc] at hs;have hs:s∈c.sides:=hs;have h1:findT (tabC l) h=some c:=hc;rw[ht] at h1;obtain ⟨h2,h3⟩:=findT_mem h1;obtain ⟨d,hd,hdd⟩:=(hr.form c h2).found s hs;refine⟨c,I,h2,h3,(hr.form c h2).sg s hs,d,?_,hdd⟩;show findT (tabC l) s.cell=some d;rw[ht];exact hd
theorem sgn_side (low high:Int):sgnP l low high≠0↔low∈sidC l high:=by
 unfold sgnP sidC;cases hf:((findC l high).getD zeroC).sides.find? fun s=>decide (s.cell=low) with
 | none =>
  refine⟨fun h=>absurd I h,fun h=>?_⟩;obtain ⟨s,hs,rfl⟩:=List.mem_map.1 h;have:=List.find?_eq_none.1 hf s hs;simp at this
 | some s =>
  have h1:=List.mem_of_find?_eq_some hf;have h2:s.cell=low:=by simpa using List.find?_some hf
  obtain ⟨_,_,_,_,hsg,_⟩:=rt_sides hl h1;refine⟨fun _=>List.mem_map.2 ⟨s,h1,h2⟩,fun _=>?_⟩;show s.sign≠0
  rcases hsg with e | e <;> rw[e] <;> decide
theorem adjR_eq:adjR l=adjS (sidC l):=by
 funext x y;unfold adjR adjS;rw[Bool.eq_iff_iff,decide_eq_true_iff,List.contains_iff_mem];exact sgn_side hl _ _
theorem side_ne {low high:Int}(h:low∈sidC l high):low≠high:=by
 rintro rfl;obtain ⟨s,hs,e⟩:=List.mem_map.1 h;obtain ⟨c,hc,-,-,-,d,hd,hdd⟩:=rt_sides hl hs;rw[e,hc] at hd;injection hd with hd
 subst hd;omega
theorem Vd.bad {T:List Pr}(hT:Vd l T)(p:Pr){k:Nat}(hk:k<T.length):pairBad l (T++[p]) k=false:=by
 have hg:(T++[p]).getD k (0,0)=T[k]:=by rw[List.getD_eq_getElem?_getD,List.getElem?_append_left hk,gE hk]; rfl
 have htk:(T++[p]).take k=T.take k:=List.take_append_of_le_length oM;have hm:=gM hk;have hs:=hT.side _ hm;have hno:∀ id,(id=T[k].1∨id=T[k].2)→usedR (T.take k) id=false:=fun id hid=>by
  rw[Bool.eq_false_iff];intro hu;rw[used_iff,List.mem_append,List.mem_map,List.mem_map] at hu;have hnd:=List.nodup_append.1 hT.once;have key:∀ q∈T.take k,∃ j,∃ hj:j<T.length,j<k∧q=T[j]:=fun q hq=>by
   obtain ⟨j,hj,e⟩:=List.getElem_of_mem hq;rw[List.length_take] at hj;exact⟨j,oM,oM,by rw[← e,List.getElem_take]⟩
  rcases hu with ⟨q,hq,e⟩ | ⟨q,hq,e⟩
  ·obtain ⟨j,hj,hjk,rfl⟩:=key q hq
   rcases hid with rfl | rfl
   ·have:=(List.getElem_inj (xs:=T.map Prod.fst) (i:=j) (j:=k) (h₀:=by simpa using hj) (h₁:=by simpa using hk) hnd.1).1 (by simpa using e);omega
   ·exact hnd.2.2 _ (List.mem_map.2 ⟨T[j],gM hj,I⟩) _ (List.mem_map.2 ⟨T[k],hm,I⟩) e
  ·obtain ⟨j,hj,hjk,rfl⟩:=key q hq
   rcases hid with rfl | rfl
   ·exact hnd.2.2 _ (List.mem_map.2 ⟨T[k],hm,I⟩) _ (List.mem_map.2 ⟨T[j],gM hj,I⟩) e.symm
   ·have:=(List.getElem_inj (xs:=T.map Prod.snd) (i:=j) (j:=k) (h₀:=by simpa using hj) (h₁:=by simpa using hk) hnd.2.1).1 (by simpa using e);omega
 unfold pairBad;rw[hg,htk,hno _ (.inl rfl),hno _ (.inr rfl),Bool.false_or,Bool.false_or,decide_eq_false_iff_not];exact (sgn_side hl _ _).2 hs
theorem mcheck_snoc {T:List Pr}(hT:Vd l T)(p:Pr):mcheckR l (T++[p])=if usedR T p.1||usedR T p.2 || !(sidC l p.2).contains p.1 then 42 else if ringR (adjS (sidC l)) (T++[p]) then 43 else 0:=by
 have h1:(List.range (T++[p]).length).any (pairBad l (T++[p]))=(usedR T p.1||usedR T p.2 || !(sidC l p.2).contains p.1):=by
  have hg:(T++[p]).getD T.length (0,0)=p:=by rw[List.getD_eq_getElem?_getD]; simp
  have htk:(T++[p]).take T.length=T:=by simp
  have hlast:pairBad l (T++[p]) T.length=(usedR T p.1||usedR T p.2 || !(sidC l p.2).contains p.1):=by
   unfold pairBad;rw[hg,htk];congr 1;rw[Bool.eq_iff_iff,decide_eq_true_iff,Bool.not_eq_true',← Bool.not_eq_true,List.contains_iff_mem,← sgn_side hl];exact Decidable.not_not.symm
  have hbefore:(List.range T.length).any (pairBad l (T++[p]))=false:=List.any_eq_false.2 fun k hk=>by
   rw[hT.bad hl p (List.mem_range.1 hk)];decide
  rw[List.length_append,List.length_singleton,List.range_succ,List.any_append,hbefore,Bool.false_or];simp[hlast]
 unfold mcheckR;rw[if_neg (by rw[hl]; decide),h1,adjR_eq hl]
theorem Vd.snoc {T:List Pr}(hT:Vd l T){p:Pr}(h1:usedR T p.1=false)(h2:usedR T p.2=false)(h3:p.1∈sidC l p.2)(h4:ringR (adjS (sidC l)) (T++[p])=false):Vd l (T++[p]):=by
 have hne:=side_ne hl h3;have u1:p.1 ∉ T.map Prod.fst++T.map Prod.snd:=fun h=>by rw[used_iff.2 h] at h1; cases h1
 have u2:p.2 ∉ T.map Prod.fst++T.map Prod.snd:=fun h=>by rw[used_iff.2 h] at h2; cases h2
 rw[List.mem_append] at u1 u2;have hnd:=List.nodup_append.1 hT.once;have honce:((T++[p]).map Prod.fst++(T++[p]).map Prod.snd).Nodup:=by
  rw[List.map_append,List.map_append,List.map_singleton,List.map_singleton,List.nodup_append];refine⟨?_,?_,?_⟩
  ·rw[List.nodup_append];exact⟨hnd.1,by simp,fun a ha b hb=>by
    have hb:b=p.1:=by simpa using hb
    subst hb;exact fun e=>u1 (.inl (e ▸ ha))⟩
  ·rw[List.nodup_append];exact⟨hnd.2.1,by simp,fun a ha b hb=>by
    have hb:b=p.2:=by simpa using hb
    subst hb;exact fun e=>u2 (.inr (e ▸ ha))⟩
  ·intro a ha b hb
   rcases List.mem_append.1 ha with ha | ha
   ·rcases List.mem_append.1 hb with hb | hb
    ·exact hnd.2.2 a ha b hb
    ·have hb:b=p.2:=by simpa using hb
     subst hb;exact fun e=>u2 (.inl (e ▸ ha))
   ·have ha:a=p.1:=by simpa using ha
    subst ha
    rcases List.mem_append.1 hb with hb | hb
    ·exact fun e=>u1 (.inr (e ▸ hb))
    ·have hb:b=p.2:=by simpa using hb
     subst hb;exact hne
 refine⟨honce,fun q hq=>?_,fun h=>?_⟩
 ·rcases List.mem_append.1 hq with hq | hq
  ·exact hT.side q hq
  ·have hq:q=p:=by simpa using hq
   subst hq;exact h3
 ·have hnd2:(T++[p]).Nodup:=(List.pairwise_map.1 (List.nodup_append.1 honce).1).imp fun h e=>h (by rw[e]);rw[(ringR_iff hnd2).2 h] at h4;cases h4
theorem take_eq {T:List Pr}(hT:Vd l T)(p:Pr):takeR l T p=takeP true (sidC l) T p∧Vd l (takeR l T p):=by
 unfold takeR takeP;rw[mcheck_snoc hl hT p];by_cases hb:(usedR T p.1||usedR T p.2 || !(sidC l p.2).contains p.1)=true
 ·rw[if_pos hb,if_neg dC];refine⟨?_,hT⟩;have:(true && !usedR T p.1 && !usedR T p.2&&(sidC l p.2).contains p.1)=false:=by
   revert hb
   cases usedR T p.1 <;> cases usedR T p.2 <;> cases (sidC l p.2).contains p.1 <;> simp
  rw[this];rfl
 ·have hb':(usedR T p.1||usedR T p.2 || !(sidC l p.2).contains p.1)=false:=by simpa using hb
  rw[Bool.or_eq_false_iff,Bool.or_eq_false_iff] at hb';obtain ⟨⟨h1,h2⟩,h3⟩:=hb';have h3:(sidC l p.2).contains p.1=true:=by simpa using h3
  have hp:=List.contains_iff_mem.1 h3;have hne:=side_ne hl hp;rw[if_neg hb];have u1:p.1 ∉ T.map Prod.fst++T.map Prod.snd:=fun h=>by rw[used_iff.2 h] at h1; cases h1
  have hnd:=List.nodup_append.1 hT.once;have hreach:=reach_ring (p:=p) (n:=T.length+1) hT.free (by
   rw[List.map_append,List.map_singleton,List.nodup_append];exact⟨hnd.1,by simp,fun a ha b hb=>by
    have hb:b=p.1:=by simpa using hb
    subst hb;exact fun e=>u1 (List.mem_append.2 (.inl (e ▸ ha)))⟩) hnd.2.1 (Nat.lt_succ_self _)
  rw[hreach,h1,h2,h3];cases hr:ringR (adjS (sidC l)) (T++[p]) with
  | true=>exact⟨rfl,hT⟩
  | false=>exact⟨rfl,hT.snoc hl h1 h2 hp hr⟩
theorem fold_take:∀ (m:List Pr) {T:List Pr},Vd l T→m.foldl (takeR l) T=m.foldl (takeP true (sidC l)) T∧Vd l (m.foldl (takeR l) T)
 | [],_,h=>⟨rfl,h⟩
 | p::m,T,h=>by
  obtain ⟨h1,h2⟩:=take_eq hl h p;obtain ⟨h3,h4⟩:=fold_take m h2;rw[List.foldl_cons,List.foldl_cons,← h1];exact⟨h3,h4⟩
theorem pairs_eq:pairsP l=pairsR l:=by
 unfold pairsP pairsR;rw[tabC_strict (rt_of hl).asc]
end
theorem takeR_wrong {l:List Cl}(h:(checkC l).2≠0)(T:List Pr)(p:Pr):takeR l T p=T:=by
 unfold takeR mcheckR;rw[if_pos h,if_neg h]
theorem keepR_wrong {l:List Cl}(h:(checkC l).2≠0)(m T:List Pr):m.foldl (takeR l) T=T:=by
 induction m generalizing T with
 | nil=>rfl
 | cons p m ih=>rw[List.foldl_cons,takeR_wrong h,ih]
theorem keepP_wrong (S:Int→List Int)(m T:List Pr):m.foldl (takeP false S) T=T:=by
 induction m generalizing T with
 | nil=>rfl
 | cons p m ih=>rw[List.foldl_cons]; exact ih T
theorem keep_eq (l:List Cl)(m:List Pr):keepP (decide ((checkC l).2=0)) (sidC l) m=keepR l m:=by
 unfold keepP keepR;by_cases h:(checkC l).2=0
 ·rw[decide_eq_true h];exact (fold_take h m (Vd.nil l)).1.symm
 ·rw[decide_eq_false h,keepP_wrong,keepR_wrong h]
theorem extend_eq (l:List Cl)(m:List Pr):extendP (decide ((checkC l).2=0)) (sidC l) l m=extendR l m:=by
 unfold extendP extendR;by_cases h:(checkC l).2=0
 ·have hk:=keep_eq l m;rw[decide_eq_true h] at hk ⊢;rw[hk,if_pos h,pairs_eq h];exact (fold_take h _ (fold_take h m (Vd.nil l)).2).1.symm
 ·unfold keepP;rw[decide_eq_false h,keepP_wrong,keepP_wrong,if_neg h]
theorem ins_mono {α β:Type}{ka:α→Int}{kb:β→Int}{f:α→β}(h:∀ a b,kb (f a)≤kb (f b)↔ka a≤ka b)(x:α):∀ l:List α,ins kb (f x) (l.map f)=(ins ka x l).map f
 | []=>rfl
 | y::r=>by
  simp only[List.map_cons,ins,h];split
  ·rfl
  ·rw[ins_mono h x r]; rfl
theorem sortBy_mono {α β:Type}{ka:α→Int}{kb:β→Int}{f:α→β}(h:∀ a b,kb (f a)≤kb (f b)↔ka a≤ka b):∀ l:List α,sortBy kb (l.map f)=(sortBy ka l).map f
 | []=>rfl
 | x::r=>by
  simp only[List.map_cons,sortBy];rw[sortBy_mono h r,ins_mono h]
theorem canonC_norm (l:List Cl):canonC (l.map normC)=canonC l:=by
 unfold canonC;rw[sortBy_mono (ka:=Cl.id) (kb:=Cl.id) (f:=normC) (fun _ _=>Iff.rfl),List.map_map];exact List.map_congr_left fun c _=>normC_idem c
theorem canon_of_perm {l F:List Cl}(hF:Rt F)(hp:(l.map normC).Perm F):canonC l=F:=by
 rw[← canonC_norm];exact perm_canon hF hp
theorem canonC_perm0 (l:List Cl):(l.map normC).Perm (canonC l):=((sortBy_perm (key:=Cl.id) l).map normC).symm
def shS (m:Int)(s:Side):Side:=⟨s.cell+m,s.sign⟩
def shC (m:Int)(c:Cl):Cl:=⟨c.id+m,c.dim,c.sides.map (shS m)⟩
theorem normC_sh (m:Int)(c:Cl):normC (shC m c)=shC m (normC c):=by
 unfold normC shC;dsimp only;rw[sortBy_mono (ka:=Side.cell) (kb:=Side.cell) (f:=shS m) (fun a b=>by unfold shS; dsimp only; omega)]
theorem find_sh (m:Int)(k:Int):∀ B:List Cl,findT (B.map (shC m)) (k+m)=(findT B k).map (shC m)
 | []=>rfl
 | c::B=>by
  have ih:=find_sh m k B;unfold findT at ih ⊢;rw[List.map_cons,List.find?_cons,List.find?_cons,ih];by_cases e:c.id=k
  ·have e2:(shC m c).id=k+m:=by unfold shC; dsimp only; omega
   rw[decide_eq_true e,decide_eq_true e2]; rfl
  ·have e2:¬ (shC m c).id=k+m:=by unfold shC; dsimp only; omega
   rw[decide_eq_false e,decide_eq_false e2]
theorem sides_sh (m:Int)(B:List Cl)(x:Side):sidesOf (B.map (shC m)) (shS m x)=(sidesOf B x).map (shS m):=by
 unfold sidesOf;rw[show (shS m x).cell=x.cell+m from rfl,find_sh];cases findT B x.cell <;> rfl
theorem around_sh (m:Int)(B:List Cl)(c:Cl):aroundC (B.map (shC m)) (shC m c)=aroundC B c:=by
 rw[aroundC_L,aroundC_L];have h:lookL (B.map (shC m)) (shC m c)=renL (fun k=>k+m) (lookL B c):=by
  unfold lookL renL;rw[show (shC m c).sides=c.sides.map (shS m) from rfl,List.map_map,List.map_map];refine List.map_congr_left fun x _=>?_;show (x.sign,sidesOf (B.map (shC m)) (shS m x))=(x.sign,(sidesOf B x).map (renS fun k=>k+m));rw[sides_sh];rfl
 rw[h];exact aroundL_ren fun a _ b _ e=>by omega
theorem rt_shift {B:List Cl}(h:Rt B){m:Int}(hm:0≤m):Rt (B.map (shC m)):=by
 refine⟨by rw[List.length_map]; exact h.few,?_,fun x hx=>?_,fun x hx=>?_,fun x hx hd=>?_⟩
 ·rw[List.pairwise_map];exact h.asc.imp fun h=>by unfold shC; dsimp only; omega
 ·obtain ⟨c,hc,rfl⟩:=List.mem_map.1 hx;have:=h.pos c hc;unfold shC;dsimp only;omega
 ·obtain ⟨c,hc,rfl⟩:=List.mem_map.1 hx;have hf:=h.form c hc;refine⟨hf.dim,?_,fun x hx=>?_,?_,fun x hx=>?_,fun h1=>?_⟩
  ·have:=hf.cnt;unfold cntBad at this ⊢;unfold shC;simpa using this
  ·obtain ⟨s,hs,rfl⟩:=List.mem_map.1 hx;obtain ⟨d,hd,hdd⟩:=hf.found s hs;refine⟨shC m d,?_,hdd⟩;show findT (B.map (shC m)) (s.cell+m)=_;rw[find_sh,hd];rfl
  ·show (c.sides.map (shS m)).Pairwise _;rw[List.pairwise_map];exact hf.asc.imp fun h=>by unfold shS; dsimp only; omega
  ·obtain ⟨s,hs,rfl⟩:=List.mem_map.1 hx;exact hf.sg s hs
  ·have:=hf.one h1;unfold sumS at this ⊢;show ((c.sides.map (shS m)).map Side.sign).sum=0;rw[List.map_map];exact this
 ·obtain ⟨c,hc,rfl⟩:=List.mem_map.1 hx;rw[around_sh];exact h.around c hc hd
theorem find_append (A B:List Cl)(k:Int):findT (A++B) k=(findT A k).or (findT B k):=by
 unfold findT;exact List.find?_append
theorem around_look {A B:List Cl}{c:Cl}(h:∀ x∈c.sides,sidesOf A x=sidesOf B x):aroundC A c=aroundC B c:=by
 rw[aroundC_L,aroundC_L];unfold lookL;rw[List.map_congr_left fun x hx=>by rw[h x hx]]
theorem rt_append {A B:List Cl}(hA:Rt A)(hB:Rt B)(hlt:∀ a∈A,∀ b∈B,a.id<b.id)(hf:A.length+B.length≤4000):Rt (A++B):=by
 have fa:∀ k d,findT A k=some d→findT (A++B) k=some d:=fun k d hd=>by rw[find_append,hd]; rfl
 have fb:∀ k d,findT B k=some d→findT (A++B) k=some d:=fun k d hd=>by
  rw[find_append];cases ha:findT A k with
  | none=>exact hd
  | some a =>
   obtain ⟨h1,h2⟩:=findT_mem ha;obtain ⟨h3,h4⟩:=findT_mem hd;have:=hlt a h1 d h3;omega
 have form:∀ C:List Cl,Rt C→(∀ k d,findT C k=some d→findT (A++B) k=some d)→∀ x∈C,Fm (A++B) x∧(x.dim>1→aroundC (A++B) x=0):=fun C hC hfd x hx=>by
  have hfm:=hC.form x hx;refine⟨⟨hfm.dim,hfm.cnt,fun s hs=>?_,hfm.asc,hfm.sg,hfm.one⟩,fun hd=>?_⟩
  ·obtain ⟨d,hd,hdd⟩:=hfm.found s hs;exact⟨d,hfd _ _ hd,hdd⟩
  ·rw[← hC.around x hx hd];refine around_look fun s hs=>?_;obtain ⟨d,hd,-⟩:=hfm.found s hs;unfold sidesOf;rw[hd,hfd _ _ hd]
 refine⟨by rw[List.length_append]; exact hf,List.pairwise_append.2 ⟨hA.asc,hB.asc,hlt⟩,fun x hx=>?_,fun x hx=>?_,fun x hx=>?_⟩
 ·rcases List.mem_append.1 hx with h | h
  ·exact hA.pos x h
  ·exact hB.pos x h
 ·rcases List.mem_append.1 hx with h | h
  ·exact (form A hA fa x h).1
  ·exact (form B hB fb x h).1
 ·rcases List.mem_append.1 hx with h | h
  ·exact (form A hA fa x h).2
  ·exact (form B hB fb x h).2
def besideC (m:Int)(a b:List Cl):List Cl:=a++b.map (shC m)
theorem beside_right {m:Int}{a b:List Cl}(ha:Rt (canonC a))(hb:Rt (canonC b))(hm:0≤m)(hmx:∀ c∈a,c.id≤m)(hf:a.length+b.length≤4000):Rt (canonC (besideC m a b)):=by
 have hF:Rt (canonC a++(canonC b).map (shC m)):=by
  refine rt_append ha (rt_shift hb hm) (fun x hx y hy=>?_) (by rw[List.length_map,canonC_length,canonC_length]; exact hf);obtain ⟨d,hd,rfl⟩:=List.mem_map.1 hy;have h1:=hb.pos d hd;obtain ⟨e,he,rfl⟩:=List.mem_map.1 ((canonC_perm0 a).mem_iff.2 hx);have h2:=hmx e he;show e.id<d.id+m;omega
 rw[canon_of_perm hF ?_]
 ·exact hF
 ·unfold besideC;rw[List.map_append,List.map_map,show normC ∘ shC m=shC m ∘ normC from funext fun c=>normC_sh m c,← List.map_map];exact (canonC_perm0 a).append ((canonC_perm0 b).map _)
theorem tops_not {l:List Cl}{t:Int}(h:t∈topsC l):∀ c∈tabC l,∀ x∈c.sides,x.cell≠t:=fun c hc x hx e=>by
 unfold topsC at h;obtain ⟨d,hd,rfl⟩:=List.mem_map.1 h;have:=(List.mem_filter.1 hd).2;rw[Bool.not_eq_true',← Bool.not_eq_true] at this;refine this ?_;unfold sideOf;rw[List.any_eq_true];refine⟨c,hc,?_⟩;unfold hasC;rw[List.any_eq_true];exact⟨x,hx,by simpa using e⟩
theorem gone_right {l:List Cl}(hr:Rt (canonC l)){t:Int}(h:t∈topsC l):Rt (canonC (l.filter fun c=>decide (c.id≠t))):=by
 have ht:tabC l=canonC l:=tabC_strict hr.asc;have hp:ClosedP (canonC l) fun k=>decide (k≠t):=fun c hc _ x hx=>by
  have:=tops_not h c (by rw[ht]; exact hc) x hx;simpa using this
 have hF:=part_right hr hp;rw[canon_of_perm hF ?_]
 ·exact hF
 ·unfold part;have h1:(l.filter fun c=>decide (c.id≠t)).map normC=(l.map normC).filter fun c=>decide (c.id≠t):=by
   rw[List.filter_map];rfl
  rw[h1];exact (canonC_perm0 l).filter _
theorem max_dim:∀ {A:List Cl},A≠[]→∃ c∈A,∀ d∈A,d.dim≤c.dim
 | [],h=>absurd rfl h
 | [a],_=>⟨a,by simp,fun d hd=>by simp at hd; subst hd; omega⟩
 | a::b::r,_=>by
  obtain ⟨c,hc,hm⟩:=max_dim (A:=b::r) (by simp);by_cases h:a.dim≤c.dim
  ·exact⟨c,List.mem_cons_of_mem _ hc,fun d hd=>by
    rcases List.mem_cons.1 hd with rfl | hd
    ·exact h
    ·exact hm d hd⟩
  ·exact⟨a,by simp,fun d hd=>by
    rcases List.mem_cons.1 hd with rfl | hd
    ·omega
    ·have:=hm d hd; omega⟩
theorem tops_some {l:List Cl}(hr:Rt (canonC l))(h:l≠[]):topsC l≠[]:=by
 have ht:tabC l=canonC l:=tabC_strict hr.asc;have hne:canonC l≠[]:=fun e=>h (List.eq_nil_of_length_eq_zero (by rw[← canonC_length,e]; rfl));obtain ⟨c,hc,hm⟩:=max_dim hne;intro e;have hin:c.id∈topsC l:=by
  unfold topsC;rw[ht];refine List.mem_map.2 ⟨c,List.mem_filter.2 ⟨hc,?_⟩,I⟩;rw[Bool.not_eq_true',← Bool.not_eq_true];intro hs;unfold sideOf at hs;obtain ⟨d,hd,hx⟩:=List.any_eq_true.1 hs;unfold hasC at hx;obtain ⟨x,hx,e⟩:=List.any_eq_true.1 hx;have e:x.cell=c.id:=by simpa using e
  obtain ⟨f,hf,hfd⟩:=(hr.form d hd).found x hx;rw[e,hr.find hc] at hf;injection hf with hf
  subst hf;have:=hm d hd;omega
 rw[e] at hin;simp at hin
def sideB (s:Int):Side:=if s<0 then ⟨-s,-1⟩ else ⟨s,1⟩
def cellB (id dim:Int)(r:List Int):Cl:=⟨id,dim,r.map sideB⟩
def rowsC:Int→List (List Int)→List Cl
 | _,[]=>[]
 | n,r::t=>cellB n (r.headD 0) r.tail::rowsC (n+1) t
def sphRow (n:Int):List Int:=if n % 2=0 then [n,2 * n - 1,-(2 * n)] else [n,-(2 * n - 1),2 * n]
def sphL:Nat→List (List Int)
 | 0=>[[0],[0]]
 | n+1=>sphL n++[sphRow (n+1),sphRow (n+1)]
def mooreA (n:Nat):List (List Int):=(List.range (3 * n)).map fun k:Nat=>[1,-1,((2+k % 3:Nat):Int)]
def mooreB (n:Nat):List (List Int):=(List.range (3 * n)).map fun k:Nat=>[2,((8+k:Nat):Int),((5+k % 3:Nat):Int),-((8+(k+1) % (3 * n):Nat):Int)]
def mooreL (n:Nat):List (List Int):=[[0],[0],[0],[0],[1,-2,3],[1,-3,4],[1,-4,2]]++mooreA n++mooreB n
def spcL:Nat→List (List Int)
 | 0=>[[0]]
 | 1=>sphL 1
 | 2=>sphL 2
 | 3=>sphL 3
 | 4=>sphL 0
 | 5=>[[0],[0],[0],[1,-1,2],[1,-1,2],[1,-2,3],[1,-2,3],[1,-1,3],[1,-1,3],[2,4,6,-8],[2,4,7,-9],[2,5,6,-9],[2,5,7,-8]]
 | 6=>mooreL 3
 | 7=>[[0],[0],[0],[0],[1,-1,2],[1,-1,2],[1,-3,4],[1,-3,4],[1,-1,3],[1,-2,4],[1,-3,1],[1,-4,2],[2,5,10,-7,-9],[2,6,10,-8,-9],[2,7,12,-6,-11],[2,8,12,-5,-11]]
 | 8=>[[0],[0],[0],[0],[1,-1,2],[1,-1,2],[1,-3,4],[1,-3,4],[1,-1,3],[1,-2,4],[1,-3,1],[1,-4,2],[2,5,10,-7,-9],[2,6,10,-8,-9],[2,7,12,-5,-11],[2,8,12,-6,-11]]
 | _=>mooreL 4
def spaceC (n:Nat):List Cl:=rowsC 1 (spcL n)
theorem space_check:∀ n,n<10→(checkC (spaceC n)).2=0∧(spaceC n).length≤31∧∀ c∈spaceC n,0<c.id∧c.id≤31∧c.sides.length≤4:=by decide +kernel
theorem space_right {n:Nat}(h:n<10):Rt (canonC (spaceC n)):=rt_of (space_check n h).1
def goneStep (c:List Cl)(q:Nat):List Cl:=c.filter fun x=>decide (x.id≠(topsC c).getD (q % (topsC c).length) 0)
def goneTo (G:List Nat)(c:List Cl):Nat→List Cl
 | 0=>c
 | k+1=>if (goneTo G c k).length>1 then goneStep (goneTo G c k) (G.getD k 0) else goneTo G c k
def maxId (c:List Cl):Int:=c.foldl (fun m x=>max m x.id) 0
def bitsL (n:Int):List Int:=(((List.range 6).filter fun v:Nat=>decide (n / 2 ^ v % 2=1)).take 4).map fun v:Nat=>(v:Int)
def simL (L:List Int):List Cl:=simpC ((L.take 5).map bitsL)
def firstC (sp:Nat)(L:List Int):List Cl:=if sp % 26≥10 then simL L else spaceC (sp % 10)
def complexC (sp:Nat)(L:List Int)(G:List Nat)(bs:Nat):List Cl :=
 if bs % 4=3∧(goneTo G (firstC sp L) (min 6 G.length)).length<26 then besideC (maxId (goneTo G (firstC sp L) (min 6 G.length))) (goneTo G (firstC sp L) (min 6 G.length)) (spaceC (bs / 4 % 5)) else goneTo G (firstC sp L) (min 6 G.length)
structure Gd8 (l:List Cl):Prop where
 right:Rt (canonC l)
 ids:∀ c∈l,0<c.id∧c.id≤4000
theorem Gd8.few {l:List Cl}(h:Gd8 l):l.length≤4000:=by
 have:=h.right.few;rwa [canonC_length] at this
theorem first_good (sp:Nat)(L:List Int):Gd8 (firstC sp L):=by
 unfold firstC;split
 ·unfold simL;obtain ⟨h1,h2⟩:=rt_simp ((L.take 5).map bitsL);have hc:Rt (canonC (simpC ((L.take 5).map bitsL))):=by rw[h1.canon]; exact h1
  exact⟨hc,fun c hc=>⟨h1.pos c hc,by have:=h2 c hc; have:=h1.few; omega⟩⟩
 ·have:=space_check (sp % 10) (Nat.mod_lt _ dC);exact⟨space_right (Nat.mod_lt _ dC),fun c hc=>by have:=this.2.2 c hc; omega⟩
theorem gone_good {c:List Cl}(h:Gd8 c)(hl:c.length>1)(q:Nat):Gd8 (goneStep c q):=by
 have hne:c≠[]:=fun e=>by subst e; simp at hl
 have ht:=tops_some h.right hne;have hlt:q % (topsC c).length<(topsC c).length:=Nat.mod_lt _ (List.length_pos_iff.2 ht);have hm:(topsC c).getD (q % (topsC c).length) 0∈topsC c:=by
  rw[List.getD_eq_getElem?_getD,gE hlt];exact gM hlt
 exact⟨gone_right h.right hm,fun d hd=>h.ids d (List.mem_filter.1 hd).1⟩
theorem goneTo_good {c:List Cl}(h:Gd8 c)(G:List Nat):∀ k,Gd8 (goneTo G c k)
 | 0=>h
 | k+1=>by
  have ih:=goneTo_good h G k;rw[goneTo];split
  ·rename_i hl;exact gone_good ih hl _
  ·exact ih
theorem goneTo_stop {c:List Cl}{G:List Nat}{k:Nat}(h:¬ (goneTo G c k).length>1):∀ {n:Nat},k≤n→goneTo G c n=goneTo G c k
 | 0,hn=>by rw[show k=0 by omega]
 | n+1,hn=>by
  by_cases e:k=n+1
  ·rw[e]
  ·have ih:=goneTo_stop h (n:=n) oM;rw[goneTo,ih,if_neg h]
theorem maxId_ge (c:List Cl):∀ m:Int,m≤c.foldl (fun m x=>max m x.id) m∧∀ x∈c,x.id≤c.foldl (fun m x=>max m x.id) m:=by
 induction c with
 | nil=>exact fun m=>⟨Int.le_refl _,by simp⟩
 | cons a c ih =>
  intro m;obtain ⟨h1,h2⟩:=ih (max m a.id);rw[List.foldl_cons];refine⟨oM,fun x hx=>?_⟩
  rcases List.mem_cons.1 hx with rfl | hx
  ·omega
  ·exact h2 x hx
theorem maxId_le {c:List Cl}{K:Int}(h:∀ x∈c,x.id≤K):∀ m:Int,m≤K→c.foldl (fun m x=>max m x.id) m≤K:=by
 induction c with
 | nil=>exact fun m hm=>hm
 | cons a c ih =>
  intro m hm;rw[List.foldl_cons];exact ih (fun x hx=>h x (by simp[hx])) _ (by have:=h a (by simp); omega)
theorem complex_good (sp:Nat)(L:List Int)(G:List Nat)(bs:Nat):Rt (canonC (complexC sp L G bs))∧∀ c∈complexC sp L G bs,0<c.id∧c.id≤8000:=by
 have h:=goneTo_good (first_good sp L) G (min 6 G.length);unfold complexC;generalize goneTo G (firstC sp L) (min 6 G.length)=c at *;split
 ·rename_i hl;have hs:=space_check (bs / 4 % 5) oM;have hm:=maxId_ge c 0;have hM:=maxId_le (K:=4000) (fun x hx=>(h.ids x hx).2) 0 dC;refine⟨beside_right h.right (space_right oM) hm.1 hm.2 oM,fun x hx=>?_⟩;unfold besideC at hx
  rcases List.mem_append.1 hx with hx | hx
  ·have:=h.ids x hx; omega
  ·obtain ⟨d,hd,rfl⟩:=List.mem_map.1 hx;have:=hs.2.2 d hd;have h1:=hm.1;unfold maxId shC;dsimp only;omega
 ·exact⟨h.right,fun x hx=>by have:=h.ids x hx; omega⟩
def encPr:Enc Pr 2:=⟨fun p=>[vi p.1,vi p.2],fun _=>rfl,fun _ u hu=>by simp at hu; rcases hu with rfl | rfl <;> rfl,by decide⟩
theorem SU.indexAddrC {P:Program}{N:Nat}{f:Fr}{dst:Option Tmp}{ty:TypeId}{pos:String}{af:Array Edge}{gd:Option (Nat×Bool)}{x y:Operand}{T e:TypeId}{k n o:Nat}{i:Int}{v:Value}(hT:P.underlying T=some (.array n e))(hs:∀ w,(sizeOf e).run P w = .ok k w)
  (hx:ev f x=some (cptr v o)) (hb:based v=true) (hy:ev f y=some (vi i)) (h0:0≤i) (h1:i<n) :
  SU P N ⟨dst,.indexAddr T x y,ty,pos,af,gd⟩ f (cptr v (o+i.toNat * k)):=by
 cases v <;> simp[based] at hb
 rename_i p m c;cases p <;> simp at hb
 simp only[cptr] at hx ⊢;have:=iB (P:=P) (N:=N) (dst:=dst) (ty:=ty) (pos:=pos) (af:=af) (gd:=gd) hT hs hx hy h0 h1;rwa [Nat.add_assoc] at this
theorem Tryz.sty31:STy Tryz.prog 31 44 2 16 (.agg #[vi 0,vi 0]):=⟨underlying31,⟨t44,by kernel_rfl,by kernel_rfl,by kernel_rfl,by kernel_rfl⟩,rfl,by decide⟩
def at2 (p:Pr)(k:Nat):Int:=if k=0 then p.1 else p.2
def posP (m:List Pr)(k:Nat)(id:Int):Int:=if m.any (fun q=>decide (at2 q k=id)) then (m.findIdx fun q=>decide (at2 q k=id):Nat) else -1
theorem pairPos_spec (E:World)(g:PH)(s:Own)(v:Value)(m:List Pr)(k:Nat)(id:Int)(hv:SlA encPr g v m)(hl:m.length<1099511627776)(hk:k<2) :
  Ctr Tryz.prog E 134 #[v,vi k,vi id] g s (fun r g' s'=>(∃ n:Int,r=vi n∧decide (n≥0)=m.any (fun q=>decide (at2 q k=id)))∧g=g'∧s=s'):=by
 obtain ⟨p,c,rfl⟩:=SlA.form hv;refine Ctr.of (args:=[.slice p m.length c,vi k,vi id]) func134 I ntmps134 (bE I) ?_;refine SC.sR (lA I (SL.nT (sQ (SC.sR (lA I (SL.nT (bK ?_)))))));refine oP (ι:=Nat) (fun i=>[(0,.slice p m.length c),(1,vi k),(2,vi id),(7,vi i)]) (fun _=>g) (fun _=>s) (fun i=>i≤m.length∧(m.take i).any (fun q=>decide (at2 q k=id))=false) (fun i=>m.length - i) 0 sB I I ⟨Nat.zero_le _,by simp⟩ ?_;rintro i ⟨hi,hno⟩;refine sQ (SC.sR (lM I (lM I (lU (eN uT31 I) (lU (lS I I) (SL.nT ?_))))));refine iP I (fun hlt=>?_) (fun hlt=>?_)
 ·have hil:i<m.length:=oM;have hb1:=SlA.based hv oM;have hgx:m[((i:Nat):Int).toNat]?=some m[i]:=gE hil;have hu:(encPr.enc m[i])[((k:Nat):Int).toNat * 1]?=some (vi (at2 m[i] k)):=by
   rcases (by omega:k=0∨k=1) with rfl | rfl <;> rfl
  have hmi:=gM hil;refine kP (tN (sQ (bK (SC.sR (lM I (lM I (lM I (lU (iA uT31 zT44 I I hb1 oM sL) (lU (SU.indexAddrC uT44 zT3 I hb1 I oM oM) (lK (pA (e:=encPr) (u:=vi (at2 m[i] k)) iT3 I (SlA.rd hv) hgx hu) (lM I (lU (eQ I I) (SL.nT ?_)))))))))))));refine iP I (fun he=>?_) (fun he=>?_)
  ·refine SC.sR (lM I (lA I (SL.nT (rE (bR (tR (tR (bR (tR ?_)))))))));have hany:m.any (fun q=>decide (at2 q k=id))=true:=List.any_eq_true.2 ⟨m[i],hmi,by simpa using he⟩;exact ST.ret1 (.inl I) results134 I ⟨⟨i,I,by rw[hany]; simp⟩,I,I⟩
  ·refine kP (bN (tN (rG (lM I (lU (aD I I oM) (lA I (nL ?_)))))));exact ST.again (i+1) sB I I ⟨oM,by rw[tS hil,List.any_append,hno]; simpa using he⟩ oM
 ·refine xI (tX (tX (bX (tN (SC.sR (lA I (SL.nT (rE ?_))))))));have hkk:m.take i=m:=tL oM;rw[hkk] at hno;exact ST.ret1 (.inl rfl) results134 rfl ⟨⟨-1,rfl,by rw[hno]; rfl⟩,rfl,rfl⟩
theorem paired_spec (E:World)(g:PH)(s:Own)(v:Value)(m:List Pr)(id:Int)(hv:SlA encPr g v m)(hl:m.length<1099511627776) :
  Ctr Tryz.prog E 100 #[v,vi id] g s (fun r g' s'=>r=vb (usedR m id)∧g=g'∧s=s'):=by
 have hu:usedR m id=((m.any fun q=>decide (at2 q 0=id))||(m.any fun q=>decide (at2 q 1=id))):=rfl;rw[hu]
 rcases Bool.eq_false_or_eq_true (m.any fun q=>decide (at2 q 0=id)) with h1 | h1
 ·rw[h1];refine Ctr.of (args:=[v,vi id]) func100 I ntmps100 (bE I) ?_;refine SC.sR (lA I (SL.nT (SC.sR (lM I (lM I (lW (SO.call call134 I (pairPos_spec E g _ v m 0 id hv hl dC)) ?_))))));rintro _ _ _ ⟨⟨n,rfl,hn⟩,rfl,rfl⟩;refine lU (SU.eq (v':=vb true) (gQ I I) (congrArg vb (hn.trans h1))) (lM I (lZ I I I (lZ I I I (lZ I I I (lZ I I I (lU (pT I I) (lA I (SL.nT (rE ?_)))))))));exact ST.ret1 (.inl I) results100 I ⟨I,I,I⟩
 ·rw[h1];refine Ctr.of (args:=[v,vi id]) func100 I ntmps100 (bE I) ?_;refine SC.sR (lA I (SL.nT (SC.sR (lM I (lM I (lW (SO.call call134 I (pairPos_spec E g _ v m 0 id hv hl dC)) ?_))))));rintro _ _ _ ⟨⟨n,rfl,hn⟩,rfl,rfl⟩;refine lU (SU.eq (v':=vb false) (gQ I I) (congrArg vb (hn.trans h1))) (lM I (lY I I I (mV I) (lY I I I (mV I) (SL.go (gT I I I dC) (SO.call call134 I (pairPos_spec E g _ v m 1 id hv hl dC)) dC ?_))));rintro _ _ _ ⟨⟨n2,rfl,hn2⟩,rfl,rfl⟩;refine lY I I I (SU.eq (v':=vb (m.any fun q=>decide (at2 q 1=id))) (gQ I I) (congrArg vb hn2)) ?_;refine lU (pF I I) (lA I (SL.nT (rE ?_)));exact ST.ret1 (.inl I) results100 I ⟨I,I,I⟩
theorem find_at {α:Type}{p:α→Bool}{l:List α}{i:Nat}(hi:i<l.length)(h0:(l.take i).any p=false)(h1:p l[i]=true):l.find? p=some l[i]:=by
 have e:l=l.take i++l[i]::l.drop (i+1):=by rw[List.getElem_cons_drop,List.take_append_drop]
 have h2:(l.take i).find? p=none:=List.find?_eq_none.2 fun x hx=>by
  have:=List.any_eq_false.1 h0 x hx;simpa using this
 generalize l[i]=a at *;rw[e,List.find?_append,h2,List.find?_cons,h1];rfl
theorem find_none {α:Type}{p:α→Bool}{l:List α}(h0:l.any p=false):l.find? p=none:=List.find?_eq_none.2 fun x hx=>by
 have:=List.any_eq_false.1 h0 x hx;simpa using this
theorem sgn13_spec (E:World)(g:PH)(s:Own)(v:Value)(l:List Cl)(low high:Int)(hv:Cells g v l)(hf:Fits l) :
  Ctr Tryz.prog E 101 #[.agg #[v],vi low,vi high] g s (fun r g' s'=>r=vi (sgnP l low high)∧s=s'∧Le g g'):=by
 have hft:=tabC_fits hf;have hsl:((findC l high).getD zeroC).sides.length<1099511627776:=by
  cases hc:findC l high with
  | none=>simp[zeroC]
  | some c=>exact hft.2 c (List.mem_of_find?_eq_some hc)
 have hok:((findC l high).getD zeroC).sides.length>0→(findC l high).isSome=true:=fun h=>by
  cases hc:findC l high with
  | none=>rw[hc] at h; simp[zeroC] at h
  | some c=>rfl
 refine Ctr.of (args:=[.agg #[v],vi low,vi high]) func101 I ntmps101 (bE I) ?_;refine SC.sR (SL.bx (bO I) fun b3=>?_);refine lA I (SL.nT (SC.sR (lK (qV 0 iT29 zT29 I I I) (lM I (lW (SO.call call68 I (refFind_spec E g _ v l high hv hf)) ?_)))));rintro _ g1 _ ⟨rfl,hle,x,rfl,hx⟩;obtain ⟨xi,xd,xp,xn,xc⟩:=x;have hx3:=hx.2.2;dsimp only at hx3;have hxn:xn=((findC l high).getD zeroC).sides.length:=Sl.slen hx3;subst hxn;clear hx;refine lM I (lU (xT I I) (lU (xT I I) (SL.bx (aL zeroValue54) fun b7=>?_)));refine SL.O2 (sK 0 zT54 I I I I I sB) ?_;refine lA I (SL.nT (sQ (SC.sR (lA I (SL.nT (bK ?_))))));have hsg:sgnP l low high=(((findC l high).getD zeroC).sides.find? fun s=>decide (s.cell=low)).elim 0 Side.sign:=rfl;rw[hsg];generalize ((findC l high).getD zeroC).sides=S at *;generalize (findC l high).isSome=ok at *;refine oP (ι:=Nat) (fun i=>[(1,vi low),(7,pp b7 0),(8,vb ok),(9,vi i)]) (fun _=>g1) (fun _=>pt b7 (.cells #[vi xi,vi xd,.slice xp S.length xc] 54 (0,0))::pt b3 (.cells #[v] 29 (0,0))::s) (fun i=>i≤S.length∧(S.take i).any (fun q=>decide (q.cell=low))=false) (fun i=>S.length - i) 0 sB I I ⟨Nat.zero_le _,by simp⟩ ?_;rintro i ⟨hi,hno⟩;have f1:(i:Int)<(S.length:Int)→ok=true:=fun h=>hok oM;refine sQ ?_;refine SC.cutB 23 (decide ((i:Int)<(S.length:Int))) ?_ ?_
 ·refine rG (lM I (lU (fA uT54 I zT37 I) (lK (qL (v:=.slice xp S.length xc) iT37 I (cO 0 I I)) (lU (eN uT37 I) (lU (lS I I) (lM I ?_))))));refine sP ?_ ?_
  ·intro h21;refine lY I I I (mV I) (lU (pT I I) (nL ?_));exact ST.mid1 (by (have h5:=f1 (by assumption); subst h5; simp_all[get?]; done)) mI
  ·intro h21;refine lZ I I I (lU (pF I I) (nL ?_));exact ST.mid1 (by (simp_all[get?]; done)) mI
 refine iP I (fun hlt=>?_) (fun hlt=>?_)
 ·have hil:i<S.length:=oM;have hb1:=SlA.based hx3 oM;have hgx:S[((i:Nat):Int).toNat]?=some S[i]:=gE hil;refine kP (tN (sQ (bK (SC.sR (lU (fA uT54 I zT37 I) (lK (qL (v:=.slice xp S.length xc) iT37 I (cO 0 I I)) (lM I (lU (iA uT37 zT56 I I hb1 oM sL) (lU (fC uT56 I zT3 I hb1) (lK (pA (e:=encSide) (o:=0) (u:=vi S[i].cell) iT3 I (SlA.rd hx3) hgx I) (lM I (lU (eQ I I) (SL.nT ?_)))))))))))));refine iP I (fun he=>?_) (fun he=>?_)
  ·refine SC.sR (lU (fA uT54 I zT37 I) (lK (qL (v:=.slice xp S.length xc) iT37 I (cO 0 I I)) (lM I (lU (iA uT37 zT56 I I hb1 oM sL) (lU (fC uT56 I zT3 I hb1) (lK (pA (e:=encSide) (o:=1) (u:=vi S[i].sign) iT3 I (SlA.rd hx3) hgx I) (lA I (SL.nT (rE (bR (tR (tR (bR (tR (dR (s':=s) (.cons _ (.cons _ (.refl _))) ?_)))))))))))))));exact ST.ret1 (.inl rfl) results101 rfl ⟨by rw[find_at hil hno (by simpa using he)]; rfl,rfl,hle⟩
  ·refine kP (bN (tN (rG (lM I (lU (aD I I oM) (lA I (nL ?_)))))));exact ST.again (i+1) sB I I ⟨oM,by rw[tS hil,List.any_append,hno]; simpa using he⟩ oM
 ·refine xI (tX (tX (bX (tN (SC.sR (lA I (SL.nT (rE ?_))))))));have hkk:S.take i=S:=tL oM;rw[hkk] at hno;refine dR (s':=s) (.cons _ (.cons _ (.refl _))) ?_;exact ST.ret1 (.inl rfl) results101 rfl ⟨by rw[find_none hno]; rfl,rfl,hle⟩
theorem peel_more (adj:Pr→Pr→Bool):∀ (n:Nat) {l:List Pr},l.length≤n→peel adj n l=peel adj l.length l
 | 0,l,h=>by rw[show l.length=0 by omega]
 | n+1,l,h=>by
  by_cases e:l.length=n+1
  ·rw[e]
  ·rw[← peel_more adj n (l:=l) oM];have h1:=peel_free (adj:=adj) n (l:=l) oM;have key:∀ (k:Nat) (l:List Pr),freeAt adj (peel adj k l)=none→peel adj (k+1) l=peel adj k l:=by
    intro k;induction k with
    | zero =>
     intro l h;have h:freeAt adj l=none:=h;rw[peel_succ,h];rfl
    | succ k ih =>
     intro l h;rw[peel_succ adj (k+1),peel_succ adj k] at *;cases hf:freeAt adj l with
     | none=>rfl
     | some j =>
      rw[hf] at h;exact ih _ h
   exact key n l h1
theorem peel_step {adj:Pr→Pr→Bool}{l:List Pr}{k:Nat}(h:freeAt adj l=some k):peel adj l.length l=peel adj (l.eraseIdx k).length (l.eraseIdx k):=by
 obtain ⟨hk,-⟩:=freeAt_some h;have hl:l.length=(l.eraseIdx k).length+1:=by rw[List.length_eraseIdx_of_lt hk]; omega
 rw[hl,peel_succ,h]
theorem peel_end {adj:Pr→Pr→Bool}{l:List Pr}(h:freeAt adj l=none):peel adj l.length l=l:=by
 cases hl:l.length with
 | zero=>rfl
 | succ n=>rw[peel_succ,h]
theorem free_first {adj:Pr→Pr→Bool}{l:List Pr}{k:Nat}(hk:k<l.length)(h0:∀ j<k,leadsR adj l j=true)(h1:leadsR adj l k=false):freeAt adj l=some k:=by
 unfold freeAt;have hk':k<(List.range l.length).length:=by simpa using hk
 rw[find_at hk' ?_ ?_]
 ·simp
 ·rw[List.take_range,Nat.min_eq_left oM,List.any_eq_false];intro x hx;rw[h0 x (List.mem_range.1 hx)];decide
 ·simp[h1]
theorem free_not {adj:Pr→Pr→Bool}{l:List Pr}(h0:∀ j<l.length,leadsR adj l j=true):freeAt adj l=none:=by
 unfold freeAt;refine List.find?_eq_none.2 fun x hx=>?_;rw[h0 x (List.mem_range.1 hx)];decide
theorem erase_parts {α:Type}(l:List α)(k:Nat):l.eraseIdx k=l.take k++l.drop (k+1):=List.eraseIdx_eq_take_drop_succ l k
theorem round_spec (E:World)(g:PH)(s:Own)(v u:Value)(l:List Cl)(m:List Pr)(hv:Cells g v l)(hf:Fits l)(hu:SlA encPr g u m)(hl:m.length<1099511627776) :
  Ctr Tryz.prog E 102 #[.agg #[v],u] g s (fun r g' s'=>r=vb (ringR (adjR l) m)∧s=s'∧Le g g'):=by
 obtain ⟨p,c,rfl⟩:=SlA.form hu;refine Ctr.of (args:=[.agg #[v],.slice p m.length c]) func102 I ntmps102 (bE I) ?_;refine SC.sR (SL.bx (bO I) fun b2=>?_);refine lA I (SL.nT (SC.sR (lW (SO.buildSlice sty31 I I I (szs_mk trivial) dC) ?_)));rintro _ _ _ ⟨b10,rfl,rfl,rfl⟩;refine SL.emptyRow 44 2 (some ⟨b10,0,none⟩) (lM I (lW (aQ (e:=encPr) (l:=[]) 0 sty31 I I I hu (by simp; omega) (by simp; omega)) ?_));rintro v12 _ _ ⟨rfl,rfl⟩;refine fR fun g1 hle1 hs1=>?_;refine lA I (SL.nT (sQ (SC.sR (lA I (SL.nT (bK ?_))))));have hs1:SlA encPr g1 v12 m:=hs1;have hv1:=hv.mono hle1;refine SC.drop (s':=pt b2 (.cells #[v] 29 (0,0))::s) (.cons _ (.refl _)) ?_;refine oP (ι:=Value×List Pr×PH×Bool) (fun q=>[(2,pp b2 0),(5,q.1),(6,vb q.2.2.2)]) (fun q=>q.2.2.1) (fun _=>pt b2 (.cells #[v] 29 (0,0))::s) (fun q=>Le g1 q.2.2.1∧SlA encPr q.2.2.1 q.1 q.2.1∧q.2.1.length≤m.length∧peel (adjR l) q.2.1.length q.2.1=peel (adjR l) m.length m∧(q.2.2.2=false→freeAt (adjR l) q.2.1=none)) (fun q=>2 * q.2.1.length+if q.2.2.2 then 1 else 0) (v12,m,g1,true)
  sB rfl rfl ⟨Le.refl _,hs1,lR _,rfl,fun h=>by cases h⟩ ?_
 rintro ⟨lv,L,g2,again⟩ ⟨hle2,hL,hLl,hpe,hfr⟩;dsimp only at hle2 hL hLl hpe hfr ⊢;obtain ⟨q,d,rfl⟩:=SlA.form hL;refine sQ (SC.sR (lM I (SL.nT ?_)));refine iQ I (fun hag=>?_) (fun hag=>?_)
 ·subst hag;refine kP (tN (bK (SC.sR (lA I (SL.nT (SC.sR (lA I (SL.nT (bK ?_)))))))));refine oP (ι:=Nat×PH) (fun i=>[(2,pp b2 0),(5,.slice q L.length d),(6,vb false),(7,vi i.1)]) (fun i=>i.2) (fun _=>pt b2 (.cells #[v] 29 (0,0))::s) (fun i=>i.1≤L.length∧Le g2 i.2∧∀ j<i.1,leadsR (adjR l) L j=true) (fun i=>L.length - i.1) (0,g2)
   sB rfl rfl ⟨Nat.zero_le _,Le.refl _,fun j hj=>absurd hj (Nat.not_lt_zero _)⟩ ?_
  rintro ⟨k,g3⟩ ⟨hk,hle3,hld⟩;dsimp only at hk hle3 hld ⊢;refine sQ (SC.sR (lM I (lM I (lU (eN uT31 I) (lU (lS I I) (SL.nT ?_))))));refine iP I (fun hkl=>?_) (fun hkl=>?_)
  ·have hkl:k<L.length:=oM;refine kP (tN (sQ (bK (SC.sR (lA I (SL.nT (sQ (SC.sR (lA I (SL.nT (bK ?_)))))))))));refine oP (ι:=Nat×PH) (fun i=>[(2,pp b2 0),(5,.slice q L.length d),(6,vb false),(7,vi k),(8,vb ((List.range i.1).any fun j=>decide (j≠k)&&adjR l (L.getD k (0,0)) (L.getD j (0,0)))),(9,vi i.1)]) (fun i=>i.2) (fun _=>pt b2 (.cells #[v] 29 (0,0))::s) (fun i=>i.1≤L.length∧Le g3 i.2) (fun i=>L.length - i.1) (0,g3)
    sB rfl rfl ⟨Nat.zero_le _,Le.refl _⟩ ?_
   rintro ⟨j,g4⟩ ⟨hj,hle4⟩;dsimp only at hj hle4 ⊢;have h24:=hle3.trans hle4;have hv4:=hv1.mono (hle2.trans h24);have hL4:=SlA.mono hL h24;refine sQ (SC.sR (lM I (lM I (lU (eN uT31 I) (lU (lS I I) (SL.nT ?_))))));refine iP I (fun hjl=>?_) (fun hjl=>?_)
   ·have hjl:j<L.length:=oM;have hb1:=SlA.based hL oM;have hgj:L[((j:Nat):Int).toNat]?=some L[j]:=gE hjl;have hgk:L[((k:Nat):Int).toNat]?=some L[k]:=gE hkl;have hdj:L.getD j (0,0)=L[j]:=by rw[List.getD_eq_getElem?_getD,gE hjl]; rfl
    have hdk:L.getD k (0,0)=L[k]:=by rw[List.getD_eq_getElem?_getD,gE hkl]; rfl
    have hnx:((List.range (j+1)).any fun j=>decide (j≠k)&&adjR l (L.getD k (0,0)) (L.getD j (0,0)))=(((List.range j).any fun j=>decide (j≠k)&&adjR l (L.getD k (0,0)) (L.getD j (0,0)))||(decide (j≠k)&&adjR l L[k] L[j])):=by
     rw[List.range_succ,List.any_append];simp only[List.any_cons,List.any_nil,Bool.or_false,hdj,hdk]
    by_cases hjk:j=k
    ·refine kP (tN (sQ (bK (sQ ?_))));refine dW [] [(0,2),(1,2),(2,2),(3,2),(4,1),(5,2),(6,2),(7,2),(8,2),(9,1),(10,2),(11,2),(12,2),(13,2),(14,1),(15,0),(16,2),(17,2)] Tryz.mixed (by kernel_rfl) ?_;refine pU I (mV I) (pU I (mV I) (pU I (SU.eq (v':=vb false) (nQ I I) (congrArg vb (decide_eq_false oM))) (pU I (mV I) (SP.off1 I (gF I I I dC) dC (fP I (gF I I I dC) dC (fP I (gF I I I dC) dC (fP I (gF I I I dC) dC (fP I (gF I I I dC) dC (SP.off1 I (gF I I I dC) dC (fP I (gF I I I dC) dC (fP I (gF I I I dC) dC (fP I (gF I I I dC) dC (fP I (gF I I I dC) dC (SP.off1 I (gF I I I dC) dC (fO I (gF I I I dC) dC ⟨by exact Le.refl _,(by exact .refl _)⟩ ?_)))))))))))))));refine fP I (gF I I I dC) dC (pU I (pF I I) (pN (tN (cF I (kP (bN (tN (rG (lM I (lU (aD I I oM) (lA I (nL ?_))))))))))));exact ST.again (j+1,g4) ⟨rfl,rfl,rfl,rfl,by rw[hnx,decide_eq_false (p:=j≠k) (fun h=>h hjk),Bool.false_and,Bool.or_false]; rfl,rfl,trivial⟩ rfl rfl ⟨by dsimp only; omega,hle4⟩ (by dsimp only; omega)
    ·refine kP (tN (sQ (bK (sQ ?_))));refine dW [] [(0,2),(1,2),(2,2),(3,2),(4,1),(5,2),(6,2),(7,2),(8,2),(9,1),(10,2),(11,2),(12,2),(13,2),(14,1),(15,0),(16,2),(17,2)] Tryz.mixed (by kernel_rfl) ?_;refine pU rfl (mV rfl) (pU rfl (mV rfl) (pU rfl (SU.eq (v':=vb true) (nQ rfl rfl) (congrArg vb (decide_eq_true oM))) (pU rfl (mV rfl) (SP.gq rfl (gT rfl rfl rfl dC) (qV 0 iT29 zT29 rfl rfl rfl) dC (SP.gu rfl (gT rfl rfl rfl dC) (mV rfl) dC (SP.gu rfl (gT rfl rfl rfl dC) (mV rfl) dC (SP.gu rfl (gT rfl rfl rfl dC) (iA uT31 zT44 rfl rfl hb1 oM sL) dC (SP.gu rfl (gT rfl rfl rfl dC) (SU.indexAddrC uT44 zT3 rfl hb1 rfl dC dC) dC (SP.gq rfl (gT rfl rfl rfl dC) (pA (e:=encPr) (o:=0) (u:=vi L[j].1) iT3 rfl (SlA.rd hL4) hgj rfl) dC (SP.gu rfl (gT rfl rfl rfl dC) (mV rfl) dC (SP.gu rfl (gT rfl rfl rfl dC) (mV rfl) dC (SP.gu rfl (gT rfl rfl rfl dC) (iA uT31 zT44 rfl rfl hb1 oM sL) dC (SP.gu rfl (gT rfl rfl rfl dC) (SU.indexAddrC uT44 zT3 rfl hb1 rfl dC dC) dC (SP.gq rfl (gT rfl rfl rfl dC) (pA (e:=encPr) (o:=1) (u:=vi L[k].2) iT3 rfl (SlA.rd hL4) hgk rfl) dC (SP.go rfl (gT rfl rfl rfl dC) (SO.call call101 rfl (sgn13_spec E g4 _ v l L[j].1 L[k].2 hv4 hf)) dC (.inr (by rintro _ g5 _ ⟨rfl,rfl,hle5⟩; exact⟨by assumption,(by exact .refl _)⟩)) ?_)))))))))))))));rintro _ g5 _ ⟨rfl,rfl,hle5⟩;refine SP.gu I (gT I I I dC) (nQ I I) dC (pU I (pT I I) (pN (tN ?_)));refine iP I (fun hsg=>?_) (fun hsg=>?_)
     ·refine rG (lA I (nL (bN (tN (rG (lM I (lU (aD I I oM) (lA I (nL ?_)))))))));exact ST.again (j+1,g5) ⟨rfl,rfl,rfl,rfl,by rw[hnx,decide_eq_true hjk,Bool.true_and,show adjR l L[k] L[j]=true from decide_eq_true hsg,Bool.or_true]; rfl,rfl,trivial⟩ rfl rfl ⟨by dsimp only; omega,hle4.trans hle5⟩ (by dsimp only; omega)
     ·refine kP (bN (tN (rG (lM I (lU (aD I I oM) (lA I (nL ?_)))))));exact ST.again (j+1,g5) ⟨rfl,rfl,rfl,rfl,by rw[hnx,show adjR l L[k] L[j]=false from decide_eq_false hsg,Bool.and_false,Bool.or_false]; rfl,rfl,trivial⟩ rfl rfl ⟨by dsimp only; omega,hle4.trans hle5⟩ (by dsimp only; omega)
   ·have hjj:j=L.length:=oM;subst hjj;have hlr:((List.range L.length).any fun j=>decide (j≠k)&&adjR l (L.getD k (0,0)) (L.getD j (0,0)))=leadsR (adjR l) L k:=rfl;rw[hlr];have hcut1:=SlA.cut hL4 (l:=0) (m:=k) (Nat.zero_le _) oM;have hcut2:=SlA.cut hL4 (l:=k+1) (m:=L.length) oM (lR _);have hcap:=(SlA.cap hL4).2;rw[Nat.sub_zero,List.drop_zero] at hcut1;rw[tL (l:=L.drop (k+1)) (by rw[List.length_drop]; exact lR _)] at hcut2;refine xI (tX (tX (bX (tN (SC.sR (lM I (lU (SU.not I) (SL.nT ?_))))))));refine iQ I (fun hlk=>?_) (fun hlk=>?_)
    ·have hlk':leadsR (adjR l) L k=false:=by simpa using hlk
     have hfk:=free_first hkl hld hlk';have hel:(L.eraseIdx k).length=L.length - 1:=List.length_eraseIdx_of_lt hkl;refine sQ ?_;refine dW [4,9,10] [(1,2),(2,2),(3,2),(5,2),(6,2),(7,2),(8,2),(0,0),(4,0),(9,0),(10,0)] Tryz.mixed (by kernel_rfl) ?_;refine pU rfl (mV rfl) (pU rfl (mV rfl) (pU rfl (SU.sliceH uT31 zT44 rfl rfl oM oM) (pU rfl (mV rfl) (pU rfl (mV rfl) (pU rfl (SU.eq (v':=vi ((k+1:Nat))) (aD rfl rfl oM) (congrArg vi oM)) (pU rfl (SU.sliceL uT31 zT44 rfl rfl oM oM) (SP.o rfl (SO.buildSlice sty31 rfl rfl rfl (szs_mk trivial) dC) dC (.inr (by rintro _ _ _ ⟨b46,rfl,rfl,rfl⟩; exact⟨by exact Le.refl _,(by exact .cons _ (.refl _))⟩)) ?_)))))));rintro _ _ _ ⟨b46,rfl,rfl,rfl⟩;refine SP.to (g':=g4) (s':=rowA encPr 44 (.slice (some ⟨b46,0,none⟩) 0 0) []::pt b2 (.cells #[v] 29 (0,0))::s) (fun w hw=>(hw.sublist (.cons _ (.refl _))).emptyRow _ 2 _) ?_;refine SP.o I (aQ (e:=encPr) (l:=[]) 0 sty31 I I I hcut1 (by rw[List.length_take]; simp; omega) (by rw[List.length_take]; simp; omega)) dC (.inl dC) ?_;rintro v50 _ _ ⟨rfl,rfl⟩;refine SP.o I (aQ (e:=encPr) (l:=L.take k) 0 sty31 I I I hcut2 (by rw[List.length_take,List.length_drop]; omega) (by rw[List.length_take,List.length_drop]; omega)) dC (.inl dC) ?_;rintro v55 _ _ ⟨rfl,rfl⟩;refine oU I (aS I) dC (.inl dC) (pN (tN (SC.sR (lA I (SL.nT (xI (ST.blockO dC (tX (tX (bX (bN (fT fun g5 hle5 hs5=>?_))))))))))));exact ST.again (v55,L.eraseIdx k,g5,true) sB I I ⟨hle2.trans (h24.trans hle5),by rw[erase_parts]; exact hs5,by dsimp only; omega,by dsimp only; rw[← peel_step hfk]; exact hpe,fun h=>by cases h⟩ (by dsimp only; rw[hel]; simp; omega)
    ·have hlk':leadsR (adjR l) L k=true:=by simpa using hlk
     refine kP (bN (tN (rG (lM I (lU (aD I I oM) (lA I (nL ?_)))))));exact ST.again (k+1,g4) sB I I ⟨by dsimp only; omega,h24,fun j hj=>by
      rcases (by omega:j<k∨j=k) with h | rfl
      ·exact hld j h
      ·exact hlk'⟩ (by dsimp only; omega)
  ·have hkk:k=L.length:=oM;subst hkk;refine xI (tX (tX (bX (bN ?_))));exact ST.again (.slice q L.length d,L,g3,false) sB I I ⟨hle2.trans hle3,SlA.mono hL hle3,hLl,hpe,fun _=>free_not hld⟩ (by dsimp only; simp)
 ·subst hag;refine xI (tX (tX (bX (tN (SC.sR (lM I (lU (eN uT31 I) (lU (gR I I) (lA I (SL.nT (rE ?_)))))))))));have hend:=peel_end (hfr rfl);have hres:ringR (adjR l) m=decide ((L.length:Int)>0):=by
   unfold ringR;rw[← hpe,hend,decide_eq_decide];constructor
   ·intro h;have:=List.length_pos_iff.2 h;omega
   ·intro h e;subst e;simp at h
  refine dR (s':=s) (.cons _ (.refl _)) ?_;exact ST.ret1 (.inl I) results102 I ⟨by rw[hres],I,hle1.trans hle2⟩
theorem mcheck_spec (E:World)(g:PH)(s:Own)(v u:Value)(l:List Cl)(m:List Pr)(hv:Cells g v l)(hf:Fits l)(hu:SlA encPr g u m)(hl:m.length<1099511627776) :
  Ctr Tryz.prog E 65 #[.agg #[v],u] g s (fun r g' s'=>r=vi (mcheckR l m)∧s=s'∧Le g g'):=by
 obtain ⟨p,c,rfl⟩:=SlA.form hu;have hck:=refCheck_spec E g (pt 0 (.cells #[] 0 (0,0))::s) v l hv hf;have hck:=fun s=>refCheck_spec E g s v l hv hf;simp only[refCheckC_eq] at hck;have hcap:=(SlA.cap hu).2;refine Ctr.of (args:=[.agg #[v],.slice p m.length c]) func65 I ntmps65 (bE I) ?_;refine SC.sR (SL.bx (bO I) fun b2=>?_);refine lA I (SL.nT (SC.sR (lK (qV 0 iT29 zT29 I I I) (lW (SO.call call67 I (hck _)) ?_))));rintro _ g1 _ ⟨rfl,rfl,hle1⟩;refine lM I (lU (xT I I) (lU (xT I I) (lA I (lA I (SL.nT (sQ (SC.sR (lM I (lU (nQ I I) (SL.nT ?_))))))))));have hres:mcheckR l m=if (checkC l).2≠0 then (checkC l).2 else if (List.range m.length).any (pairBad l m) then 42 else if ringR (adjR l) m then 43 else 0:=rfl
 rw[hres];clear hck;generalize (checkC l).2=e at *;refine iP I (fun he=>?_) (fun he=>?_)
 ·rw[if_pos he];refine SC.sR (lM I (lA I (SL.nT (rE (tR (dR (s':=s) (.cons _ (.refl _)) ?_))))));exact ST.ret1 (.inl I) results65 I ⟨I,I,hle1⟩
 ·rw[if_neg he];refine kP (tN (sQ (SC.sR (lA I (SL.nT (bK ?_))))));refine oP (ι:=Nat×PH) (fun i=>[(1,.slice p m.length c),(2,pp b2 0),(7,vi i.1)]) (fun i=>i.2) (fun _=>pt b2 (.cells #[v] 29 (0,0))::s) (fun i=>i.1≤m.length∧Le g i.2∧(List.range i.1).any (pairBad l m)=false) (fun i=>m.length - i.1) (0,g1)
   sB rfl rfl ⟨Nat.zero_le _,hle1,rfl⟩ ?_
  rintro ⟨k,g2⟩ ⟨hk,hle2,hno⟩;dsimp only at hk hle2 hno ⊢;have hv2:=hv.mono hle2;have hu2:=SlA.mono hu hle2;refine sQ (SC.sR (lM I (lM I (lU (eN uT31 I) (lU (lS I I) (SL.nT ?_))))));refine iP I (fun hlt=>?_) (fun hlt=>?_)
  ·have hkl:k<m.length:=oM;have hb1:=SlA.based hu oM;have hgk:m[((k:Nat):Int).toNat]?=some m[k]:=gE hkl;have hdk:m.getD k (0,0)=m[k]:=by rw[List.getD_eq_getElem?_getD,gE hkl]; rfl
   have hcut:=SlA.cut hu2 (l:=0) (m:=k) (Nat.zero_le _) oM;rw[Nat.sub_zero,List.drop_zero] at hcut;have hcl:(m.take k).length<1099511627776:=by rw[List.length_take]; omega
   have hbad:pairBad l m k=(usedR (m.take k) m[k].1||usedR (m.take k) m[k].2||decide (sgnP l m[k].1 m[k].2=0)):=by unfold pairBad; rw[hdk]
   have hany:∀ n≤m.length,k<n→pairBad l m k=true→(List.range n).any (pairBad l m)=true:=fun n _ hn h=>List.any_eq_true.2 ⟨k,List.mem_range.2 hn,h⟩;have hnx:(List.range (k+1)).any (pairBad l m)=pairBad l m k:=by rw[List.range_succ,List.any_append,hno]; simp
   refine kP (tN (sQ (bK (sQ ?_))));refine dW [] [(0,2),(1,2),(2,2),(3,2),(4,2),(5,2),(6,2),(7,1),(8,0),(9,2)] Tryz.mixed (by kernel_rfl) ?_;refine pU rfl (mV rfl) (pU rfl (mV rfl) (pU rfl (SU.sliceH uT31 zT44 rfl rfl oM oM) (pU rfl (mV rfl) (pU rfl (mV rfl) (pU rfl (iA uT31 zT44 rfl rfl hb1 oM sL) (pU rfl (SU.indexAddrC uT44 zT3 rfl hb1 rfl dC dC) (pK rfl (pA (e:=encPr) (o:=0) (u:=vi m[k].1) iT3 rfl (SlA.rd hu2) hgk rfl) (SP.o rfl (SO.call call100 rfl (paired_spec E g2 _ _ (m.take k) m[k].1 hcut hcl)) dC (.inr (by rintro _ _ _ ⟨rfl,rfl,rfl⟩; exact⟨by exact Le.refl _,(by exact .refl _)⟩)) ?_))))))));rintro _ _ _ ⟨rfl,rfl,rfl⟩;refine pU I (aS I) (pN (tN (sQ ?_)));refine dW [] [(0,2),(1,2),(2,2),(3,2),(4,2),(5,2),(6,2),(7,1),(8,0),(9,2)] Tryz.mixed (by kernel_rfl) ?_;refine pU rfl (mV rfl) (pU rfl (mV rfl) (pU rfl (SU.sliceH uT31 zT44 rfl rfl oM oM) (pU rfl (mV rfl) (pU rfl (mV rfl) (pU rfl (iA uT31 zT44 rfl rfl hb1 oM sL) (pU rfl (SU.indexAddrC uT44 zT3 rfl hb1 rfl dC dC) (pK rfl (pA (e:=encPr) (o:=1) (u:=vi m[k].2) iT3 rfl (SlA.rd hu2) hgk rfl) (SP.o rfl (SO.call call100 rfl (paired_spec E g2 _ _ (m.take k) m[k].2 hcut hcl)) dC (.inr (by rintro _ _ _ ⟨rfl,rfl,rfl⟩; exact⟨by exact Le.refl _,(by exact .refl _)⟩)) ?_))))))));rintro _ _ _ ⟨rfl,rfl,rfl⟩;refine pU I (aS I) (pN (tN ?_));generalize usedR (m.take k) m[k].1=x at *;generalize usedR (m.take k) m[k].2=y at *
   rcases Bool.eq_false_or_eq_true x with hx | hx
   ·subst hx;refine sQ ?_;refine dW [] [(0,2),(1,2),(2,2),(3,2),(4,2),(5,1),(6,2),(7,2),(8,2),(9,2),(10,1),(11,2),(12,2),(13,2),(14,2),(15,1),(16,0),(17,2),(18,2)] Tryz.mixed (by kernel_rfl) ?_;refine pU I (mV I) (pU I (mV I) (fP I (gF I I I dC) dC (pU I (pT I I) (pU I (mV I) (SP.off1 I (gF I I I dC) dC (fP I (gF I I I dC) dC (fP I (gF I I I dC) dC (fP I (gF I I I dC) dC (fP I (gF I I I dC) dC (SP.off1 I (gF I I I dC) dC (fP I (gF I I I dC) dC (fP I (gF I I I dC) dC (fP I (gF I I I dC) dC (fP I (gF I I I dC) dC (SP.off1 I (gF I I I dC) dC (fO I (gF I I I dC) dC ⟨by exact Le.refl _,(by exact .refl _)⟩ ?_))))))))))))))));refine fP I (gF I I I dC) dC (pU I (pT I I) (pN (tN (cT I (SC.sR (lA I (SL.nT (rE (bR (tR (tR (bR (tR ?_)))))))))))));rw[if_pos (hany _ (lR _) hkl (by rw[hbad]; rfl))];refine dR (s':=s) (.cons _ (.refl _)) ?_;exact ST.ret1 (.inl I) results65 I ⟨I,I,hle2⟩
   ·subst hx
    rcases Bool.eq_false_or_eq_true y with hy | hy
    ·subst hy;refine sQ ?_;refine dW [] [(0,2),(1,2),(2,2),(3,2),(4,2),(5,1),(6,2),(7,2),(8,2),(9,2),(10,1),(11,2),(12,2),(13,2),(14,2),(15,1),(16,0),(17,2),(18,2)] Tryz.mixed (by kernel_rfl) ?_;refine pU I (mV I) (pU I (mV I) (SP.gu I (gT I I I dC) (mV I) dC (pU I (pF I I) (pU I (mV I) (SP.off1 I (gF I I I dC) dC (fP I (gF I I I dC) dC (fP I (gF I I I dC) dC (fP I (gF I I I dC) dC (fP I (gF I I I dC) dC (SP.off1 I (gF I I I dC) dC (fP I (gF I I I dC) dC (fP I (gF I I I dC) dC (fP I (gF I I I dC) dC (fP I (gF I I I dC) dC (SP.off1 I (gF I I I dC) dC (fO I (gF I I I dC) dC ⟨by exact Le.refl _,(by exact .refl _)⟩ ?_))))))))))))))));refine fP I (gF I I I dC) dC (pU I (pT I I) (pN (tN (cT I (SC.sR (lA I (SL.nT (rE (bR (tR (tR (bR (tR ?_)))))))))))));rw[if_pos (hany _ (lR _) hkl (by rw[hbad]; rfl))];refine dR (s':=s) (.cons _ (.refl _)) ?_;exact ST.ret1 (.inl I) results65 I ⟨I,I,hle2⟩
    ·subst hy;rw[Bool.false_or,Bool.false_or] at hbad;refine sQ ?_;refine dW [] [(0,2),(1,2),(2,2),(3,2),(4,2),(5,1),(6,2),(7,2),(8,2),(9,2),(10,1),(11,2),(12,2),(13,2),(14,2),(15,1),(16,0),(17,2),(18,2)] Tryz.mixed (by kernel_rfl) ?_;refine pU rfl (mV rfl) (pU rfl (mV rfl) (SP.gu rfl (gT rfl rfl rfl dC) (mV rfl) dC (pU rfl (pF rfl rfl) (pU rfl (mV rfl) (SP.gq rfl (gT rfl rfl rfl dC) (qV 0 iT29 zT29 rfl rfl rfl) dC (SP.gu rfl (gT rfl rfl rfl dC) (mV rfl) dC (SP.gu rfl (gT rfl rfl rfl dC) (mV rfl) dC (SP.gu rfl (gT rfl rfl rfl dC) (iA uT31 zT44 rfl rfl hb1 oM sL) dC (SP.gu rfl (gT rfl rfl rfl dC) (SU.indexAddrC uT44 zT3 rfl hb1 rfl dC dC) dC (SP.gq rfl (gT rfl rfl rfl dC) (pA (e:=encPr) (o:=0) (u:=vi m[k].1) iT3 rfl (SlA.rd hu2) hgk rfl) dC (SP.gu rfl (gT rfl rfl rfl dC) (mV rfl) dC (SP.gu rfl (gT rfl rfl rfl dC) (mV rfl) dC (SP.gu rfl (gT rfl rfl rfl dC) (iA uT31 zT44 rfl rfl hb1 oM sL) dC (SP.gu rfl (gT rfl rfl rfl dC) (SU.indexAddrC uT44 zT3 rfl hb1 rfl dC dC) dC (SP.gq rfl (gT rfl rfl rfl dC) (pA (e:=encPr) (o:=1) (u:=vi m[k].2) iT3 rfl (SlA.rd hu2) hgk rfl) dC (SP.go rfl (gT rfl rfl rfl dC) (SO.call call101 rfl (sgn13_spec E g2 _ v l m[k].1 m[k].2 hv2 hf)) dC (.inr (by rintro _ g3 _ ⟨rfl,rfl,hle3⟩; exact⟨by assumption,(by exact .refl _)⟩)) ?_))))))))))))))));rintro _ g3 _ ⟨rfl,rfl,hle3⟩;refine SP.gu I (gT I I I dC) (eQ I I) dC (pU I (pF I I) (pN (tN ?_)));refine iP I (fun hz=>?_) (fun hz=>?_)
     ·refine SC.sR (lA I (SL.nT (rE (bR (tR (tR (bR (tR ?_))))))));rw[if_pos (hany _ (lR _) hkl (by rw[hbad,decide_eq_true hz]))];refine dR (s':=s) (.cons _ (.refl _)) ?_;exact ST.ret1 (.inl I) results65 I ⟨I,I,hle2.trans hle3⟩
     ·refine kP (bN (tN (rG (lM I (lU (aD I I oM) (lA I (nL ?_)))))));exact ST.again (k+1,g3) sB I I ⟨by dsimp only; omega,hle2.trans hle3,by dsimp only; rw[hnx,hbad,decide_eq_false hz]⟩ (by dsimp only; omega)
  ·have hkk:k=m.length:=oM;subst hkk;rw[if_neg (by rw[hno]; decide)];refine xI (tX (tX (bX (tN (SC.sR (lK (qV 0 iT29 zT29 I I I) (lM I (lW (SO.call call102 I (round_spec E g2 _ v _ l m hv2 hf hu2 hl)) ?_))))))));rintro _ g3 _ ⟨rfl,rfl,hle3⟩;refine lA I (SL.nT (sQ (SC.sR (lM I (SL.nT ?_)))));refine iQ I (fun hr=>?_) (fun hr=>?_)
   ·rw[if_pos hr];refine SC.sR (lA I (SL.nT (rE (tR (dR (s':=s) (.cons _ (.refl _)) ?_)))));exact ST.ret1 (.inl I) results65 I ⟨I,I,hle2.trans hle3⟩
   ·rw[if_neg (by rw[hr]; decide)];refine kP (tN (SC.sR (lA I (SL.nT (rE (dR (s':=s) (.cons _ (.refl _)) ?_))))));exact ST.ret1 (.inl I) results65 I ⟨I,I,hle2.trans hle3⟩
theorem pairNeq (x y:Pr)(w:World):(binOp .neq 44 (.agg (encPr.enc x).toArray) (.agg (encPr.enc y).toArray)).run Tryz.prog w = .ok (.bool (decide (x≠y))) w:=by
 have hi:Tryz.prog.info? 3=some t3:=by kernel_rfl
 have hc:Tryz.prog.cellsOf 3=1:=by kernel_rfl
 rw[run_neq_struct,run_equalIn_array w 9999 _ _ uT44 hi,hc];obtain ⟨a,b⟩:=x;obtain ⟨c,d⟩:=y;have h1:=run_equalIn_int (P:=Tryz.prog) w 9998 3 .i64 .i64 a c uT3;have h2:=run_equalIn_int (P:=Tryz.prog) w 9998 3 .i64 .i64 b d uT3;have hr:List.range 2=[0,1]:=rfl;rw[hr];simp only[Op.eqItems,encPr,Go.part,Sem.run_bind,iT3,Result.andThen_ok];simp[h1,h2];by_cases hac:a=c <;> by_cases hbd:b=d <;> simp[hac,hbd]
theorem SU.neqPr {N:Nat}{f:Fr}{dst:Option Tmp}{ty:TypeId}{pos:String}{af:Array Edge}{gd:Option (Nat×Bool)}{x y:Operand}{a b:Pr}{U:TypeId}(hx:ev f x=some (.agg (encPr.enc a).toArray))(hy:ev f y=some (.agg (encPr.enc b).toArray)) :
  SU Tryz.prog N ⟨dst,.binOp .neq 44 x y U,ty,pos,af,gd⟩ f (.bool (decide (a≠b))):=fun ac w ha=>by
 have hg:=run_eqGuard_agg (P:=Tryz.prog) w .neq 44 x y (encPr.enc a).toArray (encPr.enc b).toArray eqGuardType44;simp only[execOp,ha.ev hx,ha.ev hy,Sem.run_bind,hg,Result.andThen_ok,pairNeq];rfl
theorem same13_refl (E:World)(g:PH)(s:Own)(v u:Value)(m:List Pr)(hv:SlA encPr g v m)(hu:SlA encPr g u m)(hl:m.length<1099511627776) :
  Ctr Tryz.prog E 12 #[v,u] g s (fun r g' s'=>r=vb true∧g=g'∧s=s'):=by
 obtain ⟨p,c,rfl⟩:=SlA.form hv;obtain ⟨q,d,rfl⟩:=SlA.form hu;refine Ctr.of (args:=[.slice p m.length c,.slice q m.length d]) func12 I ntmps12 (bE I) ?_;refine SC.sR (lA I (SL.nT (sQ (SC.sR (lM I (lU (eN uT31 I) (lM I (lU (eN uT31 I) (lU (SU.eq (v':=vb false) (nQ I I) (congrArg vb (decide_eq_false (by simp)))) ?_)))))))));refine SL.nT (cF I (kP (tN (sQ (SC.sR (lA I (SL.nT (bK ?_))))))));refine oP (ι:=Nat) (fun k=>[(0,.slice p m.length c),(1,.slice q m.length d),(5,vi k)]) (fun _=>g) (fun _=>s) (fun k=>k≤m.length) (fun k=>m.length - k) 0 sB I I (Nat.zero_le _) ?_;rintro k hk;refine sQ (SC.sR (lM I (lM I (lU (eN uT31 I) (lU (lS I I) (SL.nT ?_))))));refine iP I (fun hlt=>?_) (fun hlt=>?_)
 ·have hkl:k<m.length:=oM;have hb1:=SlA.based hv oM;have hb2:=SlA.based hu oM;refine kP (tN (sQ (bK (sQ ?_))));refine dW [] [(0,2),(1,2),(2,2),(3,1),(4,2),(5,2),(6,2),(7,1),(8,2)] Tryz.mixed (by kernel_rfl) ?_;refine pU I (mV I) (pU I (mV I) (pU I (iA uT31 zT44 I I hb1 oM sL) ?_));refine pQ I (eA iT44 zT44 I (SlA.rd hv) (gE hkl)) dC ?_;refine pU I (mV I) (pU I (mV I) (pU I (iA uT31 zT44 I I hb2 oM sL) ?_));refine pQ I (eA iT44 zT44 I (SlA.rd hu) (gE hkl)) dC ?_;refine pU I (SU.eq (v':=vb false) (SU.neqPr I I) (congrArg vb (decide_eq_false (by simp)))) ?_;refine pN (tN (cF I (kP (bN (tN (rG (lM I (lU (aD I I oM) (lA I (nL ?_))))))))));exact ST.again (k+1) sB I I oM oM
 ·refine xI (tX (tX (bX (tN (SC.sR (lA I (SL.nT (rE ?_))))))));exact ST.ret1 (.inl I) results12 I ⟨I,I,I⟩
theorem takeR_len (l:List Cl)(T:List Pr)(p:Pr):(takeR l T p).length≤T.length+1:=by
 unfold takeR;split
 ·simp
 ·omega
theorem foldR_len (l:List Cl):∀ (m T:List Pr),(m.foldl (takeR l) T).length≤T.length+m.length
 | [],T=>lR _
 | p::m,T=>by
  have:=foldR_len l m (takeR l T p);have:=takeR_len l T p;rw[List.foldl_cons,List.length_cons];omega
theorem Tryz.build44 (a b:Int)(w:World):(Instr.build 44 #[(0,vi a),(1,vi b)]).run Tryz.prog w = .ok (.agg #[vi a,vi b]) w:=by
 have h1:∀ n,(vi n).cells = #[vi n]:=fun _=>rfl;simp[Instr.build,Instr.fill,h1];rfl
theorem take14_spec (E:World)(g:PH)(s:Own)(v u:Value)(l:List Cl)(T:List Pr)(p:Pr)(hv:Cells g v l)(hf:Fits l)(hu:SlA encPr g u T)(hl:T.length+1<1099511627776) :
  Ctr Tryz.prog E 35 #[.agg #[v],u,.agg #[vi p.1,vi p.2]] g s (fun r g' s'=>s=s'∧Le g g'∧SlA encPr g' r (takeR l T p)):=by
 refine Ctr.of (args:=[.agg #[v],u,.agg #[vi p.1,vi p.2]]) func35 I ntmps35 (bE I) ?_;refine SC.sR (SL.bx (bO I) fun b3=>?_);refine SL.bx (bO I) fun b5=>?_;refine lA I (SL.nT ?_);refine SC.cut (ι:=Value×PH) (fun i=>[(1,u),(3,pp b3 0),(7,i.1)]) (fun i=>i.2) (fun i=>rowA encPr 44 i.1 (T++[p])::pt b5 (.cells #[vi p.1,vi p.2] 44 (0,0))::pt b3 (.cells #[v] 29 (0,0))::s) (fun i=>Le g i.2) ?_ ?_
 ·refine SC.drawX [] Tryz.mixed (by kernel_rfl) ?_;refine SX.u (i:=1) I (by kernel_rfl) (mV I) dC (SX.q (i:=3) I (by kernel_rfl) (qV 0 iT44 zT44 I I I) dC ?_);refine SX.br2 0 4 (by kernel_rfl) ?_ ?_
  ·refine SB.o (i:=0) rfl (SO.buildSlice sty31 rfl rfl rfl (szs_mk trivial) dC) dC (.inr (by rintro _ _ _ ⟨b8,rfl,rfl,rfl⟩; exact⟨by exact Le.refl _,(by exact .cons _ (.refl _))⟩)) ?_;rintro _ _ _ ⟨b8,rfl,rfl,rfl⟩;refine SX.to (fun w hw=>(hw.sublist (List.sublist_cons_self _ _)).emptyRow 44 2 (some ⟨b8,0,none⟩)) ?_;refine SX.br2 2 4 (by kernel_rfl) ?_ ?_
   ·refine SB.o (i:=2) rfl (aQ (e:=encPr) (l:=[]) 0 sty31 rfl rfl rfl (by exact hu) (by simp; omega) (by simp; omega)) dC (.inr (by rintro v10 _ _ ⟨rfl,rfl⟩; exact⟨by exact Le.refl _,(by exact .cons _ (.refl _))⟩)) ?_;rintro v10 _ _ ⟨rfl,rfl⟩;refine SX.br1 4 (by kernel_rfl) ?_
    ·refine SB.o (i:=4) rfl (SO.buildSlice sty31 rfl rfl rfl (szs_mk ⟨rfl,trivial⟩) dC) dC (.inr (by rintro _ _ _ ⟨b12,rfl,rfl,rfl⟩; exact⟨by exact Le.refl _,(by exact .cons _ (.cons _ (.refl _)))⟩)) ?_;rintro _ _ _ ⟨b12,rfl,rfl,rfl⟩;refine SX.to (fun w hw=>At.litRow (e:=encPr) (l:=[p]) (n:=0) hw I I dC) ?_;refine SX.freezeRow fun g12 hle12 hs12=>?_;refine SX.br1 5 (by kernel_rfl) ?_
     ·refine SB.o (i:=5) rfl (aQ (e:=encPr) (l:=T) 0 sty31 rfl rfl rfl hs12 (by simp; omega) (by simp; omega)) dC (.inr (by rintro v13 _ _ ⟨rfl,rfl⟩; exact⟨by assumption,(by exact .cons _ (.refl _))⟩)) ?_;rintro v13 _ _ ⟨rfl,rfl⟩;refine SX.u (i:=6) I (by kernel_rfl) (aS I) dC (SX.nil (by kernel_rfl) ?_);exact ST.mid (v13,g12) sB I I hle12
   ·refine SB.o (i:=4) rfl (SO.buildSlice sty31 rfl rfl rfl (szs_mk ⟨rfl,trivial⟩) dC) dC (.inr (by rintro _ _ _ ⟨b12,rfl,rfl,rfl⟩; exact⟨by exact Le.refl _,(by exact .cons _ (.cons _ (.refl _)))⟩)) ?_;rintro _ _ _ ⟨b12,rfl,rfl,rfl⟩;refine SX.to (fun w hw=>At.litRow (e:=encPr) (l:=[p]) (n:=0) hw I I dC) ?_;refine SX.freezeRow fun g12 hle12 hs12=>?_;refine SX.br1 2 (by kernel_rfl) ?_
    ·refine SB.o (i:=2) rfl (aQ (e:=encPr) (l:=[]) 0 sty31 rfl rfl rfl (by exact SlA.mono hu (by assumption)) (by simp; omega) (by simp; omega)) dC (.inr (by rintro v10 _ _ ⟨rfl,rfl⟩; exact⟨by assumption,(by exact .cons _ (.refl _))⟩)) ?_;rintro v10 _ _ ⟨rfl,rfl⟩;refine SX.br1 5 (by kernel_rfl) ?_
     ·refine SB.o (i:=5) rfl (aQ (e:=encPr) (l:=T) 0 sty31 rfl rfl rfl hs12 (by simp; omega) (by simp; omega)) dC (.inr (by rintro v13 _ _ ⟨rfl,rfl⟩; exact⟨by assumption,(by exact .cons _ (.refl _))⟩)) ?_;rintro v13 _ _ ⟨rfl,rfl⟩;refine SX.u (i:=6) I (by kernel_rfl) (aS I) dC (SX.nil (by kernel_rfl) ?_);exact ST.mid (v13,g12) sB I I hle12
  ·refine SB.o (i:=4) rfl (SO.buildSlice sty31 rfl rfl rfl (szs_mk ⟨rfl,trivial⟩) dC) dC (.inr (by rintro _ _ _ ⟨b12,rfl,rfl,rfl⟩; exact⟨by exact Le.refl _,(by exact .cons _ (.refl _))⟩)) ?_;rintro _ _ _ ⟨b12,rfl,rfl,rfl⟩;refine SX.to (fun w hw=>At.litRow (e:=encPr) (l:=[p]) (n:=0) hw I I dC) ?_;refine SX.freezeRow fun g12 hle12 hs12=>?_;refine SX.br1 0 (by kernel_rfl) ?_
   ·refine SB.o (i:=0) rfl (SO.buildSlice sty31 rfl rfl rfl (szs_mk trivial) dC) dC (.inr (by rintro _ _ _ ⟨b8,rfl,rfl,rfl⟩; exact⟨by assumption,(by exact .cons _ (.refl _))⟩)) ?_;rintro _ _ _ ⟨b8,rfl,rfl,rfl⟩;refine SX.to (fun w hw=>(hw.sublist (List.sublist_cons_self _ _)).emptyRow 44 2 (some ⟨b8,0,none⟩)) ?_;refine SX.br1 2 (by kernel_rfl) ?_
    ·refine SB.o (i:=2) rfl (aQ (e:=encPr) (l:=[]) 0 sty31 rfl rfl rfl (by exact SlA.mono hu (by assumption)) (by simp; omega) (by simp; omega)) dC (.inr (by rintro v10 _ _ ⟨rfl,rfl⟩; exact⟨by assumption,(by exact .cons _ (.refl _))⟩)) ?_;rintro v10 _ _ ⟨rfl,rfl⟩;refine SX.br1 5 (by kernel_rfl) ?_
     ·refine SB.o (i:=5) rfl (aQ (e:=encPr) (l:=T) 0 sty31 rfl rfl rfl hs12 (by simp; omega) (by simp; omega)) dC (.inr (by rintro v13 _ _ ⟨rfl,rfl⟩; exact⟨by assumption,(by exact .cons _ (.refl _))⟩)) ?_;rintro v13 _ _ ⟨rfl,rfl⟩;refine SX.u (i:=6) I (by kernel_rfl) (aS I) dC (SX.nil (by kernel_rfl) ?_);exact ST.mid (v13,g12) sB I I hle12
 rintro ⟨v7,g1⟩ hle1;dsimp only at hle1 ⊢;refine fS fun g2 hle2 hs2=>?_;have h12:=hle1.trans hle2;have hs2:SlA encPr g2 v7 (T++[p]):=hs2;refine sQ (SC.sR (lK (qV 1 iT29 zT29 I I I) (lM I (lW (SO.call call65 I (mcheck_spec E g2 _ v v7 l (T++[p]) (hv.mono h12) hf hs2 (by simp; omega))) ?_))));rintro _ g3 _ ⟨rfl,rfl,hle3⟩;refine lU (eQ I I) (SL.nT ?_);have htk:takeR l T p=if mcheckR l (T++[p])=0 then T++[p] else T:=rfl
 rw[htk];refine iP I (fun hz=>?_) (fun hz=>?_)
 ·rw[if_pos hz];refine SC.sR (lM I (lA I (SL.nT (rE (tR (dR (s':=s) (.cons _ (.cons _ (.refl _))) ?_))))));exact ST.ret1 (.inl I) results35 I ⟨I,h12.trans hle3,SlA.mono hs2 hle3⟩
 ·rw[if_neg hz];refine kP (tN (SC.sR (lM I (lA I (SL.nT (rE (dR (s':=s) (.cons _ (.cons _ (.refl _))) ?_)))))));exact ST.ret1 (.inl I) results35 I ⟨I,h12.trans hle3,SlA.mono hu (h12.trans hle3)⟩
theorem keep14_spec (E:World)(g:PH)(s:Own)(v u:Value)(l:List Cl)(m:List Pr)(hv:Cells g v l)(hf:Fits l)(hu:SlA encPr g u m)(hl:m.length<1099511627775) :
  Ctr Tryz.prog E 14 #[.agg #[v],u] g s (fun r g' s'=>s=s'∧Le g g'∧SlA encPr g' r (keepR l m)):=by
 obtain ⟨p,c,rfl⟩:=SlA.form hu;refine Ctr.of (args:=[.agg #[v],.slice p m.length c]) func14 I ntmps14 (bE I) ?_;refine SC.sR (SL.bx (bO I) fun b2=>?_);refine lA I (SL.nT (SC.sR (lA I (SL.nT (sQ (SC.sR (lA I (SL.nT (bK ?_)))))))));refine oP (ι:=Value×Nat×PH) (fun i=>[(1,.slice p m.length c),(2,pp b2 0),(5,i.1),(6,vi i.2.1)]) (fun i=>i.2.2) (fun _=>pt b2 (.cells #[v] 29 (0,0))::s) (fun i=>i.2.1≤m.length∧Le g i.2.2∧SlA encPr i.2.2 i.1 ((m.take i.2.1).foldl (takeR l) [])) (fun i=>m.length - i.2.1) (.slice none 0 0,0,g)
  sB rfl rfl ⟨Nat.zero_le _,Le.refl _,Sl.nil g _⟩ ?_
 rintro ⟨w,k,g1⟩ ⟨hk,hle1,hw⟩;dsimp only at hk hle1 hw ⊢;refine sQ (SC.sR (lM I (lM I (lU (eN uT31 I) (lU (lS I I) (SL.nT ?_))))));refine iP I (fun hlt=>?_) (fun hlt=>?_)
 ·have hkl:k<m.length:=oM;have hb1:=SlA.based hu oM;have hgk:m[((k:Nat):Int).toNat]?=some m[k]:=gE hkl;have hfl:=foldR_len l (m.take k) [];rw[List.length_take,List.length_nil] at hfl;refine kP (tN (sQ (bK ?_)));refine dW [] [(0,1),(1,2),(2,2),(3,2),(4,2),(5,1),(6,0),(7,2)] Tryz.mixed (by kernel_rfl) ?_;refine pK rfl (qV 0 iT29 zT29 rfl rfl rfl) (pU rfl (mV rfl) (pU rfl (mV rfl) (pU rfl (mV rfl) (pU rfl (iA uT31 zT44 rfl rfl hb1 oM sL) (pK rfl (eA iT44 zT44 rfl (SlA.rd (SlA.mono hu hle1)) hgk) (SP.o rfl (SO.call call35 rfl (take14_spec E g1 _ v w l _ m[k] (hv.mono hle1) hf hw oM)) dC (.inr (by rintro w2 g2 _ ⟨rfl,hle2,hw2⟩; exact⟨by assumption,(by exact .refl _)⟩)) ?_))))));rintro w2 g2 _ ⟨rfl,hle2,hw2⟩;refine pU I (aS I) (pN (bN (tN (rG (lM I (lU (aD I I oM) (lA I (nL ?_))))))));exact ST.again (w2,k+1,g2) sB I I ⟨by dsimp only; omega,hle1.trans hle2,by dsimp only; rw[tS hkl,List.foldl_append]; exact hw2⟩ (by dsimp only; omega)
 ·refine xI (tX (tX (bX (tN (SC.sR (lM I (lA I (SL.nT (rE ?_)))))))));have hkk:m.take k=m:=tL oM;rw[hkk] at hw;refine dR (s':=s) (.cons _ (.refl _)) ?_;exact ST.ret1 (.inl I) results14 I ⟨I,hle1,hw⟩
def pairsTo (l A:List Cl)(k:Nat):List Pr:=(A.take k).flatMap fun c=>(aboveC l c.id).map fun h=>(c.id,h)
theorem above_len (l:List Cl)(id:Int):(aboveC l id).length≤(tabC l).length:=by
 unfold aboveC;rw[List.length_map];exact List.length_filter_le _ _
theorem pairsTo_len (l:List Cl):∀ (A:List Cl),(A.flatMap fun c=>(aboveC l c.id).map fun h=>(c.id,h)).length≤A.length * (tabC l).length
 | []=>by simp
 | c::A=>by
  have ih:=pairsTo_len l A;have:=above_len l c.id;rw[List.flatMap_cons,List.length_append,List.length_map,List.length_cons,Nat.succ_mul];omega
theorem pairs14_spec (E:World)(g:PH)(s:Own)(v:Value)(l:List Cl)(hv:Cells g v l)(hf:Fits l)(hl:l.length≤1000000) :
  Ctr Tryz.prog E 26 #[.agg #[v]] g s (fun r g' s'=>s=s'∧Le g g'∧SlA encPr g' r (pairsR l)):=by
 have htl:(tabC l).length≤1000000:=Nat.le_trans (tabC_length l) hl;have hsq:∀ k,k≤(tabC l).length→k * (tabC l).length≤1000000000000:=fun k hk=>Nat.mul_le_mul (Nat.le_trans hk htl) htl;have hab:=above_len l;have hpl:=pairsTo_len l;have hres:pairsR l=(tabC l).flatMap fun c=>(aboveC l c.id).map fun h=>(c.id,h):=rfl;rw[hres];refine Ctr.of (args:=[.agg #[v]]) func26 I ntmps26 (bE I) ?_;refine SC.sR (SL.bx (bO I) fun b1=>?_);refine lA I (SL.nT (SC.sR (lA I (SL.nT (SC.sR (lK (qV 0 iT29 zT29 I I I) (lW (SO.call call42 I (refCells_spec E g _ v l hv hf)) ?_)))))));rintro cv g1 _ ⟨rfl,hle1,hc⟩;obtain ⟨rs,hrs,hall⟩:=hc;obtain ⟨q,d,rfl⟩:=SlA.form hrs;refine lA I (SL.nT (sQ (SC.sR (lA I (SL.nT (bK ?_))))));generalize tabC l=A at *;have hrl:=hall.length;refine SC.nilRow 44 2 ?_;refine oP (ι:=Value×Nat×PH) (fun i=>[(1,pp b1 0),(3,i.1),(4,.slice q rs.length d),(5,vi i.2.1)]) (fun i=>i.2.2) (fun i=>rowA encPr 44 i.1 (pairsTo l A i.2.1)::pt b1 (.cells #[v] 29 (0,0))::s) (fun i=>i.2.1≤A.length∧Le g1 i.2.2) (fun i=>A.length - i.2.1) (.slice none 0 0,0,g1)
  sB rfl rfl ⟨Nat.zero_le _,Le.refl _⟩ ?_
 rintro ⟨w,k,g2⟩ ⟨hk,hle2⟩;dsimp only at hk hle2 ⊢;refine sQ (SC.sR (lM I (lM I (lU (eN uT27 I) (lU (lS I I) (SL.nT ?_))))));refine iP I (fun hlt=>?_) (fun hlt=>?_)
 ·have hkl:k<A.length:=oM;have hkr:k<rs.length:=oM;have hb1:=SlA.based hrs oM;have hgk:rs[((k:Nat):Int).toNat]?=some rs[k]:=gE hkr;have hcr:=hall.get (gE hkl) (gE hkr);have hid:rs[k].id=A[k].id:=hcr.1;have hrs2:=SlA.mono hrs hle2;have hln:=hpl (A.take k);have hsk:=hsq k hk;have htk:(A.take k).length=k:=by rw[List.length_take]; omega
  have hnext:pairsTo l A (k+1)=pairsTo l A k++(aboveC l A[k].id).map fun h=>(A[k].id,h):=by
   unfold pairsTo;rw[tS hkl,List.flatMap_append];simp
  rw[htk] at hln;have hln:(pairsTo l A k).length≤k * A.length:=hln;refine kP (tN (sQ (bK (sQ ?_))));refine dW [] [(0,1),(1,2),(2,2),(3,2),(4,2),(5,1),(6,0),(7,2)] Tryz.mixed (by kernel_rfl) ?_;refine pK rfl (qV 1 iT29 zT29 rfl rfl rfl) (pU rfl (mV rfl) (pU rfl (mV rfl) (pU rfl (iA uT27 zT54 rfl rfl hb1 oM sL) (pU rfl (fC uT54 rfl zT3 rfl hb1) (pK rfl (pA (e:=encCell) (o:=0) (u:=vi rs[k].id) iT3 rfl (SlA.rd hrs2) hgk rfl) (SP.o rfl (SO.call call54 rfl (refAbove_spec E g2 _ v l rs[k].id (hv.mono (hle1.trans hle2)) hf)) dC (.inr (by rintro av g3 _ ⟨rfl,hle3,hav⟩; exact⟨by assumption,(by exact .refl _)⟩)) ?_))))));rintro av g3 _ ⟨rfl,hle3,hav⟩;obtain ⟨qa,da,rfl⟩:=SlA.form hav;refine pU I (aS I) (pN (tN (SC.sR (lA I (SL.nT (bK ?_))))));rw[hid] at hav ⊢;have hal:=hab A[k].id;generalize aboveC l A[k].id=B at *;have hrs3:=SlA.mono hrs2 hle3;refine oP (ι:=Value×Nat) (fun i=>[(1,pp b1 0),(3,i.1),(4,.slice q rs.length d),(5,vi k),(6,.slice qa B.length da),(7,vi i.2)]) (fun _=>g3) (fun i=>rowA encPr 44 i.1 (pairsTo l A k++(B.take i.2).map fun h=>(A[k].id,h))::pt b1 (.cells #[v] 29 (0,0))::s) (fun i=>i.2≤B.length) (fun i=>B.length - i.2) (w,0)
   sB rfl (by simp) (Nat.zero_le _) ?_
  rintro ⟨w2,j⟩ hj;dsimp only at hj ⊢;refine sQ (SC.sR (lM I (lM I (lU (eN uT22 I) (lU (lS I I) (SL.nT ?_))))));refine iP I (fun hjl=>?_) (fun hjl=>?_)
  ·have hjB:j<B.length:=oM;have hb2:=SlA.based hav oM;have hgj:B[((j:Nat):Int).toNat]?=some B[j]:=gE hjB;have hll:(pairsTo l A k++(B.take j).map fun h=>(A[k].id,h)).length≤k * A.length+A.length:=by
    rw[List.length_append,List.length_map,List.length_take]; omega
   have hsk1:=hsq (k+1) hkl;rw[Nat.succ_mul] at hsk1;refine kP (tN (sQ (bK ?_)));refine dW [12,13] [(0,2),(1,2),(2,2),(3,2),(4,2),(5,1),(6,2),(7,2),(8,2),(9,1),(10,2),(11,0),(12,0),(13,0)] Tryz.mixed (by kernel_rfl) ?_;refine pU rfl (mV rfl) (pU rfl (mV rfl) (pU rfl (mV rfl) (pU rfl (iA uT27 zT54 rfl rfl hb1 oM sL) (pU rfl (fC uT54 rfl zT3 rfl hb1) (pK rfl (pA (e:=encCell) (o:=0) (u:=vi A[k].id) iT3 rfl (SlA.rd hrs3) hgk (by rw[← hid]; rfl)) ?_)))));refine pU rfl (mV rfl) (pU rfl (mV rfl) (pU rfl (iA uT22 zT3 rfl rfl hb2 oM sL) (pK rfl (eB iT3 rfl (SlA.rd hav) hgj rfl) (pU rfl (SU.build rfl (build44 _ _)) (SP.o rfl (SO.buildSlice sty31 rfl rfl rfl (szs_mk ⟨rfl,trivial⟩) dC) dC (.inr (by rintro _ _ _ ⟨b40,rfl,rfl,rfl⟩; exact⟨by exact Le.refl _,(by exact .cons _ (.refl _))⟩)) ?_)))));rintro _ _ _ ⟨b40,rfl,rfl,rfl⟩;refine SP.o I (aP (e:=encPr) 0 (A[k].id,B[j]) sty31 I I I I I oM oM) dC (.inl dC) ?_;rintro w3 _ _ ⟨rfl,rfl⟩;refine oU I (aS I) dC (.inl dC) (pN (bN (tN (rG (lM I (lU (aD I I oM) (lA I (nL ?_))))))));exact ST.again (w3,j+1) sB rfl (by dsimp only; rw[tS hjB,List.map_append,← List.append_assoc]; rfl) (by dsimp only; omega) (by dsimp only; omega)
  ·have hjj:B.take j=B:=tL oM;rw[hjj,← hnext];refine xI (tX (tX (bX (bN (tN (rG (lM I (lU (aD I I oM) (lA I (nL ?_))))))))));exact ST.again (w2,k+1,g3) sB I I ⟨by dsimp only; omega,hle2.trans hle3⟩ (by dsimp only; omega)
 ·have hkk:A.take k=A:=tL oM;have hall:pairsTo l A k=A.flatMap fun c=>(aboveC l c.id).map fun h=>(c.id,h):=by unfold pairsTo; rw[hkk]
  rw[hall];refine xI (tX (tX (bX (tN (SC.sR (lM I (lA I (SL.nT (rE (fT fun g3 hle3 hs3=>?_))))))))));refine dR (s':=s) (.cons _ (.refl _)) ?_;exact ST.ret1 (.inl I) results26 I ⟨I,hle1.trans (hle2.trans hle3),hs3⟩
theorem extend14_spec (E:World)(g:PH)(s:Own)(v u:Value)(l:List Cl)(m:List Pr)(hv:Cells g v l)(hf:Fits l)(hl:l.length≤100000)(hu:SlA encPr g u m)(hm:m.length<500000000000) :
  Ctr Tryz.prog E 16 #[.agg #[v],u] g s (fun r g' s'=>s=s'∧Le g g'∧SlA encPr g' r (extendR l m)):=by
 have hck:=fun s=>refRight_spec E g s v l hv hf;simp only[refCheckC_eq] at hck;have htl:(tabC l).length≤100000:=Nat.le_trans (tabC_length l) hl;have hpl:(pairsR l).length≤10000000000:=Nat.le_trans (pairsTo_len l (tabC l)) (Nat.mul_le_mul htl htl);have hkl:(keepR l m).length≤m.length:=by
  have:=foldR_len l m [];rw[List.length_nil,Nat.zero_add] at this;exact this
 have hres:extendR l m=if (checkC l).2=0 then (pairsR l).foldl (takeR l) (keepR l m) else []:=rfl
 rw[hres];refine Ctr.of (args:=[.agg #[v],u]) func16 I ntmps16 (bE I) ?_;refine SC.sR (SL.bx (bO I) fun b2=>?_);refine lA I (SL.nT (SC.sR (lK (qV 0 iT29 zT29 I I I) (lW (SO.call call37 I (hck _)) ?_))));rintro _ g1 _ ⟨rfl,rfl,hle1⟩;refine lA I (SL.nT (sQ (SC.sR (lM I (lU (SU.notP I) (SL.nT ?_))))));clear hck hres;refine iP I (fun hwr=>?_) (fun hwr=>?_)
 ·rw[if_neg hwr];refine SC.sR (lA I (SL.nT (rE (tR (dR (s':=s) (.cons _ (.refl _)) ?_)))));exact ST.ret1 (.inl I) results16 I ⟨I,hle1,Sl.nil g1 _⟩
 ·rw[if_pos (Classical.not_not.1 hwr)];refine kP (tN (SC.sR (lK (qV 0 iT29 zT29 I I I) (lM I (lW (SO.call call14 I (keep14_spec E g1 _ v u l m (hv.mono hle1) hf (SlA.mono hu hle1) oM)) ?_)))));rintro w0 g2 _ ⟨rfl,hle2,hw0⟩;have hv2:=hv.mono (hle1.trans hle2);refine lA I (SL.nT (SC.sR (lK (qV 0 iT29 zT29 I I I) (lW (SO.call call26 I (pairs14_spec E g2 _ v l hv2 hf oM)) ?_))));rintro pv g3 _ ⟨rfl,hle3,hpv⟩;obtain ⟨p,c,rfl⟩:=SlA.form hpv;have hw0:=SlA.mono hw0 hle3;have hv3:=hv2.mono hle3;have h13:=hle1.trans (hle2.trans hle3);refine lA I (SL.nT (sQ (SC.sR (lA I (SL.nT (bK ?_))))));generalize keepR l m=K at *;generalize pairsR l=R at *;refine oP (ι:=Value×Nat×PH) (fun i=>[(2,pp b2 0),(6,i.1),(7,.slice p R.length c),(8,vi i.2.1)]) (fun i=>i.2.2) (fun _=>pt b2 (.cells #[v] 29 (0,0))::s) (fun i=>i.2.1≤R.length∧Le g3 i.2.2∧SlA encPr i.2.2 i.1 ((R.take i.2.1).foldl (takeR l) K)) (fun i=>R.length - i.2.1) (w0,0,g3)
   sB rfl rfl ⟨Nat.zero_le _,Le.refl _,hw0⟩ ?_
  rintro ⟨w,k,g4⟩ ⟨hk,hle4,hw⟩;dsimp only at hk hle4 hw ⊢;refine sQ (SC.sR (lM I (lM I (lU (eN uT31 I) (lU (lS I I) (SL.nT ?_))))));refine iP I (fun hlt=>?_) (fun hlt=>?_)
  ·have hkR:k<R.length:=oM;have hb1:=SlA.based hpv oM;have hgk:R[((k:Nat):Int).toNat]?=some R[k]:=gE hkR;have hfl:=foldR_len l (R.take k) K;rw[List.length_take] at hfl;refine kP (tN (sQ (bK ?_)));refine dW [] [(0,1),(1,2),(2,2),(3,2),(4,2),(5,1),(6,0),(7,2)] Tryz.mixed (by kernel_rfl) ?_;refine pK rfl (qV 0 iT29 zT29 rfl rfl rfl) (pU rfl (mV rfl) (pU rfl (mV rfl) (pU rfl (mV rfl) (pU rfl (iA uT31 zT44 rfl rfl hb1 oM sL) (pK rfl (eA iT44 zT44 rfl (SlA.rd (SlA.mono hpv hle4)) hgk) (SP.o rfl (SO.call call35 rfl (take14_spec E g4 _ v w l _ R[k] (hv3.mono hle4) hf hw oM)) dC (.inr (by rintro w2 g5 _ ⟨rfl,hle5,hw2⟩; exact⟨by assumption,(by exact .refl _)⟩)) ?_))))));rintro w2 g5 _ ⟨rfl,hle5,hw2⟩;refine pU I (aS I) (pN (bN (tN (rG (lM I (lU (aD I I oM) (lA I (nL ?_))))))));exact ST.again (w2,k+1,g5) sB I I ⟨by dsimp only; omega,hle4.trans hle5,by dsimp only; rw[tS hkR,List.foldl_append]; exact hw2⟩ (by dsimp only; omega)
  ·refine xI (tX (tX (bX (tN (SC.sR (lM I (lA I (SL.nT (rE ?_)))))))));have hkk:R.take k=R:=tL oM;rw[hkk] at hw;refine dR (s':=s) (.cons _ (.refl _)) ?_;exact ST.ret1 (.inl I) results16 I ⟨I,h13.trans hle4,hw⟩
end Go.Proofs.YteahknngoogpaaaGreatDoor
namespace Go.Sy
open Go Go.MapKept
def mpE (b:Nat)(l:List (Int×Value))(j:Nat)(st:Int):Ent:=⟨some b,fun oo=>∃ es clk,oo=some (.map es clk)∧MapI l es clk∧∃ e,es[j]?=some e∧(e.born:Int)=st⟩
section
variable {P:Program}{w:World}{t kt et:TypeId}{z:Value}{b:Nat}{es:Array MapEntry}{clk:Nat}{l:List (Int×Value)}
theorem run_mapEntry_map (hT:MTy P t kt et z)(hb:w.heap[b]?=some (.map es clk))(hm:MapI l es clk)(k:Int) :
  ∃ es' clk' st j l',(Instr.mapEntry t (.map (some b)) (vi k)).run P w = .ok (.tuple #[(mget l k).getD z,vi st]) { w with heap:=w.heap.setIfInBounds b (.map es' clk') }∧MapI l' es' clk'∧(∃ e,es'[j]?=some e∧(e.born:Int)=st)∧(∃ u,l'[j]?=some (k,u))∧∀ u,mput l k u=l'.set j (k,u):=by
 have hf:=findNow_eq k es.toList l 0 hm.1;have h1:=MapKept.run_findKey (w:=w) hT.key hf;have h2:=MapKept.run_checkKey (P:=P) (w:=w) hT.key (k:=vi k) rfl false 9999;have hlen:es.toList.length=l.length:=by have:=congrArg List.length hm.1; simpa using this
 have hsz:es.size=l.length:=by simpa using hlen
 rcases fnd_spec k l 0 with ⟨hn,hne⟩ | ⟨j,u,hs,hj,hput⟩
 ·refine⟨es.push { key:=vi k,val:=z,born:=clk },clk+1,clk,l.length,l++[(k,z)],?_,⟨?_,?_⟩,?_,?_,?_⟩
  ·have hg:mget l k=none:=by unfold mget; rw[hn]; rfl
   rw[hn] at h1;rw[hg];simp[Instr.mapEntry,run_underlying hT.und,MapKept.run_getObj_map hb,h2,h1,hT.zero w,MapKept.run_setObj_map _ hb,goInt]
  ·simp[hm.1,entV,pairV]
  ·refine stamped_push hm.2 ?_;intro x hx e;have:entV x∈l.map pairV:=by rw[← hm.1]; exact List.mem_map.2 ⟨x,hx,rfl⟩
   obtain ⟨p,hp,hpe⟩:=List.mem_map.1 this;simp only[pairV,entV,Prod.mk.injEq] at hpe;refine hne p hp ?_;rw[e] at hpe;simpa using hpe.1
  ·refine⟨{ key:=vi k,val:=z,born:=clk },?_,I⟩;rw[← hsz];simp
  ·exact⟨z,by simp⟩
  ·intro u;rw[mput_none k u l hne];simp
 ·have hjl:j<es.toList.length:=by rw[hlen]; exact (List.getElem?_eq_some_iff.1 hj).1
  have hkey:(es.toList[j]).key=vi k:=by
   have h3:=congrArg (·[j]?) hm.1;simp only[List.getElem?_map,hj,Option.map_some,gE hjl,Option.some.injEq,entV,pairV,Prod.mk.injEq] at h3;exact h3.1
  have hje:es[j]?=some es.toList[j]:=by simp at hjl; simp[hjl]
  have hg:mget l k=some u:=by unfold mget; rw[hs]; rfl
  rw[hs,Nat.zero_add] at h1;have hkey':∀ h:j<es.size,es[j].key=vi k:=fun h=>by simpa using hkey
  refine⟨es.modify j fun e=>{ e with key:=vi k },clk,(es.toList[j].born:Nat),j,l,?_,⟨?_,?_⟩,?_,⟨u,hj⟩,hput⟩
  ·have h4:=MapKept.run_keyThatStays (P:=P) (w:=w) (d:=.int .i64) (k:=vi k) rfl;rw[hg];simp[Instr.mapEntry,run_underlying hT.und,MapKept.run_getObj_map hb,h2,h1,hje,hkey',h4,MapKept.run_setObj_map _ hb,goInt]
  ·apply List.ext_getElem?;intro q;have h3:=congrArg (·[q]?) hm.1;simp only[List.getElem?_map] at h3;rw[List.getElem?_map,List.getElem?_map,Array.toList_modify,List.getElem?_modify];by_cases hq:j=q
   ·subst hq;rw[← h3];simp only[gE hjl,if_true,Option.map_some,entV];rw[hkey];rfl
   ·simp only[hq,if_false];simpa using h3
  ·exact stamped_modify hm.2 _ _ (fun _ _=>I) (fun e' _ he'=>by
    rw[hje] at he';injection he' with he'
    rw[← he',hkey])
  ·refine⟨{ es.toList[j] with key:=vi k },?_,I⟩;rw[Array.getElem?_modify,if_pos rfl,hje];rfl
theorem run_entryStore_map (hb:w.heap[b]?=some (.map es clk))(hm:MapI l es clk){j:Nat}{e:MapEntry}(he:es[j]?=some e){k:Int}(hk:∃ u,l[j]?=some (k,u))(v:Value) :
  ∃ es' clk',(Instr.entryStore t (.map (some b)) (vi (e.born:Int)) v).run P w = .ok () { w with heap:=w.heap.setIfInBounds b (.map es' clk') }∧MapI (l.set j (k,v)) es' clk':=by
 obtain ⟨u,hu⟩:=hk;have hlen:es.toList.length=l.length:=by have:=congrArg List.length hm.1; simpa using this
 obtain ⟨hj,hje⟩:=Array.getElem?_eq_some_iff.1 he;have hidx:es.findIdx? (fun x=>(x.born:Int) == (e.born:Int))=some j:=by
  rw[Array.findIdx?_eq_some_iff_getElem];refine⟨hj,by rw[hje]; simp,fun i hi h=>?_⟩;have hnd:=hm.2.2.1;have h5:(es[i]'oM).born=es[j].born:=by
   have h':(((es[i]'oM).born:Nat):Int)=(e.born:Int):=by simpa using h
   rw[hje];omega
  have h6:(es.toList.map (·.born))[i]'(by simp; omega)=(es.toList.map (·.born))[j]'(by simp; omega):=by simpa using h5
  have:=(List.getElem_inj hnd).1 h6;omega
 refine⟨es.modify j fun x=>{ x with val:=v },clk,?_,?_,?_⟩
 ·simp[Instr.entryStore,MapKept.run_getObj_map hb,asInt,asIntOf,hidx,MapKept.run_setObj_map _ hb]
 ·apply List.ext_getElem?;intro q;have h3:=congrArg (·[q]?) hm.1;simp only[List.getElem?_map] at h3;rw[List.getElem?_map,List.getElem?_map,List.getElem?_set,Array.toList_modify,List.getElem?_modify];by_cases hq:j=q
  ·subst hq;have hjl:j<l.length:=(List.getElem?_eq_some_iff.1 hu).1;have hjt:j<es.toList.length:=oM;rw[hu,gE hjt] at h3;simp only[Option.map_some,Option.some.injEq,entV,pairV,Prod.mk.injEq] at h3;simp only[gE hjt,if_true,hjl,Option.map_some,pairV];show some (es.toList[j].key,v)=some (vi k,v);rw[h3.1]
  ·simp only[hq,if_false];simpa using h3
 ·exact stamped_modify hm.2 _ _ (fun _ _=>I) (fun e' _ he'=>I)
end
section
variable {P:Program}{N:Nat}{E:World}{f:Fr}{g:PH}{s:Own}{dst:Option Tmp}{ty:TypeId}{pos:String}{af:Array Edge}{gd:Option (Nat×Bool)}
variable {t kt et:TypeId}{z:Value}{b:Nat}{l:List (Int×Value)}{x y u:Operand}{k:Int}{v:Value}
theorem SO.mapEntry (i:Nat)(hT:MTy P t kt et z)(hx:ev f x=some (.map (some b)))(hy:ev f y=some (vi k))(hi:s[i]?=some (mp b l)) :
  SO P N E ⟨dst,.mapEntry t x y,ty,pos,af,gd⟩ f g s fun v' g' s'=>∃ st j l',v' = .tuple #[(mget l k).getD z,vi st]∧g=g'∧s'=s.set i (mpE b l' j st)∧(∃ u,l'[j]?=some (k,u))∧∀ u,mput l k u=l'.set j (k,u) :=
 SO.of_run fun a w ha hw=>by
  obtain ⟨es,clk,h1,h2⟩:=hw.own _ (List.mem_of_getElem? hi);have hb:w.heap[b]?=some (.map es clk):=by simpa [mp] using h1
  obtain ⟨es',clk',st,j,l',hr,hm',he,hk,hp⟩:=run_mapEntry_map hT hb h2 k;have hfr:=hw.fresh _ (List.mem_of_getElem? hi) b rfl;obtain ⟨e1,e2⟩:=MapKept.heap_set (o':=.map es' clk') hb;refine⟨_,_,g,s.set i (mpE b l' j st),by simp[execOp,ha.ev hx,ha.ev hy,hr]; rfl,?_,st,j,l',rfl,rfl,rfl,hk,hp⟩;refine hw.turn hi I ⟨I,(by exact lR _)⟩ I (by simp) (fun q _ hne=>e2 q (fun e=>hne (by simp[mp,e]))) ⟨es',clk',by simpa [mpE] using e1,hm',he⟩ (fun b' hb'=>?_);simp only[mpE,Option.some.injEq] at hb';subst hb';exact⟨by simpa using hfr.2,.inl I⟩
theorem SO.entryStore {j:Nat}{st:Int}(i:Nat)(hx:ev f x=some (.map (some b)))(hy:ev f y=some (vi st))(hu:ev f u=some v)(hi:s[i]?=some (mpE b l j st))(hk:∃ u,l[j]?=some (k,u)) :
  SO P N E ⟨dst,.entryStore t x y u,ty,pos,af,gd⟩ f g s fun _ g' s'=>g=g'∧s'=s.set i (mp b (l.set j (k,v))) :=
 SO.of_skip fun a w ha hw=>by
  obtain ⟨es,clk,h1,h2,e,he,hst⟩:=hw.own _ (List.mem_of_getElem? hi);have hb:w.heap[b]?=some (.map es clk):=by simpa [mpE] using h1
  subst hst;obtain ⟨es',clk',hr,hm'⟩:=run_entryStore_map (P:=P) (t:=t) hb h2 he hk v;have hfr:=hw.fresh _ (List.mem_of_getElem? hi) b rfl;obtain ⟨e1,e2⟩:=MapKept.heap_set (o':=.map es' clk') hb;refine⟨_,g,s.set i (mp b (l.set j (k,v))),by simp[execOp,ha.ev hx,ha.ev hy,ha.ev hu,hr]; rfl,?_,rfl,rfl⟩;refine hw.turn hi I ⟨I,(by exact lR _)⟩ I (by simp) (fun q _ hne=>e2 q (fun e=>hne (by simp[mpE,e]))) ⟨es',clk',by simpa [mp] using e1,hm'⟩ (fun b' hb'=>?_);simp only[mp,Option.some.injEq] at hb';subst hb';exact⟨by simpa using hfr.2,.inl I⟩
end
end Go.Sy
