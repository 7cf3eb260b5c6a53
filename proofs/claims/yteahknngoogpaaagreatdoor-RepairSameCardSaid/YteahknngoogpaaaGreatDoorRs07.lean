/- Ref4 Set1 Set2 Set3 Prr SyQ Mad1 Mad2 Mad3 Mad4 Mad5 Spo1 Frm FndS -/
import Derived.Test.YteahknngoogpaaaGreatDoorRs06
import Derived.Test.YteahknngoogpaaaGreatDoorRs03
import Derived.Test.YteahknngoogpaaaGreatDoorRs05
import Derived.Test.YteahknngoogpaaaGreatDoorRows
import Derived.WalkKit
import Derived.ProofKit
import Derived.OpenShut
import Derived.ShutString
import Derived.ChangeOld
import Derived.Below
import Derived.Deep.Slices
import Derived.Lib.SmallJoins
import Derived.Laws.IdiomArrays
set_option linter.unusedSimpArgs false
set_option linter.unusedVariables false
namespace Go.Proofs.YteahknngoogpaaaGreatDoor
open _root_.Go.Proofs.Tryz _root_.Go.Proofs.YteahknngoogpaaaGreatDoor.Tryz
open Go Go.Sy Go.Pl Go.Proofs
set_option maxRecDepth 100000
theorem form_found {tl:List Cl}{c:Cl}(h:formC tl c=0):∀ x∈c.sides,(findT tl x.cell).isSome=true:=by
 intro x hx;unfold formC at h;split at h
 ·cases h
 split at h
 ·cases h
 split at h
 ·cases h
 rename_i hno;have hno':(List.range c.sides.length).any (badAt tl c)=false:=by simpa using hno
 obtain ⟨k,hk,rfl⟩:=List.getElem_of_mem hx;have h1:=List.any_eq_false.1 hno' k (List.mem_range.2 hk);cases hf:(findT tl c.sides[k].cell).isSome with
 | true=>rfl
 | false =>
  exfalso;apply h1;unfold badAt;rw[gE hk];exact badSide_a (by rw[hf]; simp)
theorem chk1_strict {tl:List Cl}:∀ {L:List Cl} {last:Int},chk1 tl L last=none→(∀ x∈L,last<x.id)∧L.Pairwise fun a b=>a.id<b.id
 | [],_,_=>⟨by simp,List.Pairwise.nil⟩
 | x::r,last,h=>by
  unfold chk1 at h;split at h
  ·cases h
  ·rename_i h1;split at h
   ·cases h
   ·obtain ⟨h2,h3⟩:=chk1_strict h;refine⟨fun y hy=>?_,List.pairwise_cons.2 ⟨h2,h3⟩⟩
    rcases List.mem_cons.1 hy with rfl | hy
    ·omega
    ·have:=h2 y hy; omega
theorem foldl_strict:∀ {L acc:List Cl},(acc++L).Pairwise (fun a b=>a.id<b.id)→L.foldl addC acc=acc++L
 | [],acc,_=>by simp
 | x::r,acc,h=>by
  have h1:acc.any (fun y=>y.id == x.id)=false:=by
   rw[List.any_eq_false];intro y hy;have:=(List.pairwise_append.1 h).2.2 y hy x (by simp);simp;omega
  rw[List.foldl_cons,addC_new h1,foldl_strict (by simpa using h)];simp
theorem tabC_strict {l:List Cl}(h:(canonC l).Pairwise fun a b=>a.id<b.id):tabC l=canonC l:=by
 unfold tabC;rw[foldl_strict (by simpa using h)];rfl
def chkR2 (tl:List Cl):List Cl→Option (Int×Int)
 | []=>none
 | x::r=>if x.dim>1∧secondC tl x≠0 then some (x.id,secondC tl x) else chkR2 tl r
def refCheckC (l:List Cl):Int×Int:=if (l.length:Int)>4000 then (0,2) else (chk1 (tabC l) (canonC l) 0).getD ((chkR2 (canonC l) (canonC l)).getD (0,0))
def lastOf (L:List Cl)(i:Nat):Int:=if i=0 then 0 else (L.getD (i - 1) zeroC).id
theorem lastOf_succ {L:List Cl}{i:Nat}(h:i<L.length):lastOf L (i+1)=L[i].id:=by
 unfold lastOf;rw[if_neg oM];simp[h]
theorem refCheck_spec (E:World)(g:PH)(s:Own)(v:Value)(l:List Cl)(hv:Cells g v l)(hf:Fits l) :
  Ctr Tryz.prog E 67 #[.agg #[v]] g s (fun r g' s'=>r = .tuple #[vi (refCheckC l).1,vi (refCheckC l).2]∧s=s'∧Le g g'):=by
 obtain ⟨p,c,rfl⟩:=hv.form;have hsrt:=canonC_srt l;have hcl:=canonC_length l;have hfc:=canonC_fits hf;have hft:=tabC_fits hf;have hts:=tabC_sorted l;have hcs:=canonC_sorted l;refine Ctr.of (args:=[.agg #[.slice p l.length c]]) func67 I ntmps67 (bE I) ?_;refine SC.sR (SL.bx (bO I) fun b1=>?_);refine lA I (lA I (SL.nT (sQ (SC.sR (lU (fA uT29 I zT27 I) (lK (qL iT27 I (cO 0 I I)) (lU (eN uT27 I) (lU (gR I I) (SL.nT ?_)))))))));refine iP I (fun hmany=>?_) (fun hmany=>?_)
 ·refine SC.sR (lA I (lA I (SL.nT (rE (tR (dR (s':=s) (.cons _ (.refl _)) ?_))))));exact ST.ret2 (.inl I) results67 I I ⟨by unfold refCheckC; rw[if_pos oM],I,Le.refl g⟩
 ·refine kP (tN (SC.sR (lU (fA uT29 I zT27 I) (lK (qL iT27 I (cO 0 I I)) (lW (SO.call call71 I (ordered_spec E l.length g _ _ l (lR _) hv hf)) ?_)))));rintro v16 g1 _ ⟨rfl,hle1,hL⟩;obtain ⟨rs,hrs,hall⟩:=hL;have hrl:=hall.length;obtain ⟨q,d,rfl⟩:=hrs.form;refine lA I (SL.nT (SC.sR (lK (qV 0 iT29 zT29 I I I) (lW (SO.call call42 I (refCells_spec E g1 _ _ l (hv.mono hle1) hf)) ?_))));rintro v18 g2 _ ⟨rfl,hle2,hO⟩;have hrs2:=hrs.mono hle2;have hall2:=hall.mono fun _ _=>CellR.mono hle2;obtain ⟨q2,d2,rfl⟩:=hO.form;refine lA I (SL.nT (sQ (SC.sR (lA I (SL.nT (bK ?_))))));have hLc:Cells g2 (.slice q rs.length d) (canonC l):=⟨rs,hrs2,hall2⟩;have hchk:refCheckC l=(chk1 (tabC l) (canonC l) 0).getD ((chkR2 (canonC l) (canonC l)).getD (0,0)):=by unfold refCheckC; rw[if_neg oM]
  refine oP (ι:=Nat) (fun i=>[(1,pp b1 0),(4,.slice q rs.length d),(5,.slice q2 (tabC l).length d2),(6,vi i)]) (fun _=>g2) (fun _=>pt b1 (.cells #[.slice p l.length c] 29 (0,0))::s)
   (fun i=>i≤rs.length∧chk1 (tabC l) (canonC l) 0=chk1 (tabC l) ((canonC l).drop i) (lastOf (canonC l) i)∧(0<i→1≤lastOf (canonC l) i)) (fun i=>rs.length - i) 0
   sB rfl rfl ⟨Nat.zero_le _,rfl,fun h=>absurd h oM⟩ ?_
  rintro i ⟨hi,hc1,hl1⟩;refine sQ (SC.sR (lM I (lM I (lU (eN uT27 I) (lU (lS I I) (SL.nT ?_))))));refine iP I (fun hlt=>?_) (fun hlt=>?_)
  ·have hil:i<(canonC l).length:=oM;have hir:i<rs.length:=oM;have hb1:=hrs2.based oM;have hcr:=hall2.get (gE hil) (gE hir);have hgx:rs[((i:Nat):Int).toNat]?=some rs[i]:=gE hir;have hdrop:(canonC l).drop i=(canonC l)[i]::(canonC l).drop (i+1):=List.drop_eq_getElem_cons hil;have hxl:=hfc.2 _ (gM hil);have hls:=lastOf_succ hil;rw[hdrop] at hc1;have hprev:0<i→∃ (r:Rc),rs[((i:Int) - 1).toNat]?=some r∧r.id=lastOf (canonC l) i∧lastOf (canonC l) i≤(canonC l)[i].id:=fun h=>by
    have h2:i - 1<rs.length:=oM;have h3:i - 1<(canonC l).length:=oM;refine⟨rs[i - 1],by rw[show ((i:Int) - 1).toNat=i - 1 by omega]; exact gE h2,?_,?_⟩
    ·have:=(hall2.get (gE h3) (gE h2)).1;rw[this];unfold lastOf;rw[if_neg oM];simp[h3]
    ·have:=List.pairwise_iff_getElem.1 hsrt (i - 1) i h3 hil oM;unfold lastOf;rw[if_neg oM];simpa [h3] using this
   generalize (canonC l)[i]=x at *;generalize rs[i]=rx at *;obtain ⟨hx1,hx2,hx3⟩:=hcr;have hcr:CellR g2 x rx:=⟨hx1,hx2,hx3⟩;have hbad:x.id≤lastOf (canonC l) i→refCheckC l=(x.id,20):=fun h=>by rw[hchk,hc1,chk1,if_pos h]; rfl
   by_cases hx0:x.id<1
   ·have hle0:x.id≤lastOf (canonC l) i:=by
     by_cases h0:0<i
     ·have:=hl1 h0; omega
     ·have:i=0:=oM;subst this;show x.id≤0;omega
    refine kP (tN (sQ (bK (sQ (sQ ?_)))));refine dW [] [(0,2),(1,2),(2,2),(3,2),(4,1),(5,2),(6,2),(7,2),(8,2),(9,2),(10,2),(11,2),(12,2),(13,2),(14,1),(15,2),(16,2),(17,2),(18,2),(19,2),(20,1),(21,2),(22,2),(23,2)] Tryz.mixed (by kernel_rfl) ?_;refine pU rfl (mV rfl) (pU rfl (mV rfl) (pU rfl (iA uT27 zT54 rfl rfl hb1 oM sL) (pU rfl (fC uT54 rfl zT3 rfl hb1) (pK rfl (pA (e:=encCell) (o:=0) (u:=vi x.id) iT3 rfl hrs2.rd hgx (by rw[← hx1]; rfl)) ?_))));refine pU rfl (SU.eq (v':=vb true) (lS rfl rfl) (congrArg vb (decide_eq_true hx0))) (pU rfl (mV rfl) (fP rfl (gF rfl rfl rfl dC) dC (fP rfl (gF rfl rfl rfl dC) dC (fP rfl (gF rfl rfl rfl dC) dC (fP rfl (Gd.off rfl rfl rfl dC) dC (fP rfl (Gd.off rfl rfl rfl dC) dC (fP rfl (Gd.off rfl rfl rfl dC) dC (fP rfl (Gd.off rfl rfl rfl dC) dC (SP.off1 rfl (Gd.off rfl rfl rfl dC) dC (fP rfl (Gd.off rfl rfl rfl dC) dC (fP rfl (Gd.off rfl rfl rfl dC) dC (fP rfl (Gd.off rfl rfl rfl dC) dC (fP rfl (Gd.off rfl rfl rfl dC) dC (fP rfl (Gd.off rfl rfl rfl dC) dC (SP.off1 rfl (Gd.off rfl rfl rfl dC) dC (fP rfl (Gd.off rfl rfl rfl dC) dC (fP rfl (gF rfl rfl rfl dC) dC (pU rfl (pT rfl rfl) (pN (tN (cT rfl (SC.sR (lM rfl (lM rfl (lU (iA uT27 zT54 rfl rfl hb1 oM sL) (lU (fC uT54 rfl zT3 rfl hb1) (lK (pA (e:=encCell) (o:=0) (u:=vi x.id) iT3 rfl hrs2.rd hgx (by rw[← hx1]; rfl)) ?_)))))))))))))))))))))))))));refine lA I (lA I (SL.nT (rE (tR (bR (tR (tR (bR (tR (dR (s':=s) (.cons _ (.refl _)) ?_))))))))));exact ST.ret2 (.inl I) results67 I I ⟨by rw[hbad hle0],I,hle1.trans hle2⟩
   ·have hgo:lastOf (canonC l) i<x.id→chk1 (tabC l) (canonC l) 0=if formC (tabC l) x≠0 then some (x.id,formC (tabC l) x) else chk1 (tabC l) ((canonC l).drop (i+1)) (lastOf (canonC l) (i+1)):=fun h=>by
     rw[hc1,chk1,if_neg oM,hls]
    by_cases hi0:(i:Int)>0
    ·obtain ⟨rp,hrp,hrpi,hrple⟩:=hprev oM;refine kP (tN (sQ (bK (sQ (sQ ?_)))));refine dW [] [(0,2),(1,2),(2,2),(3,2),(4,1),(5,2),(6,2),(7,2),(8,2),(9,2),(10,2),(11,2),(12,2),(13,2),(14,1),(15,2),(16,2),(17,2),(18,2),(19,2),(20,1),(21,2),(22,2),(23,2)] Tryz.mixed (by kernel_rfl) ?_;refine pU rfl (mV rfl) (pU rfl (mV rfl) (pU rfl (iA uT27 zT54 rfl rfl hb1 oM sL) (pU rfl (fC uT54 rfl zT3 rfl hb1) (pK rfl (pA (e:=encCell) (o:=0) (u:=vi x.id) iT3 rfl hrs2.rd hgx (by rw[← hx1]; rfl)) ?_))));refine pU rfl (SU.eq (v':=vb false) (lS rfl rfl) (congrArg vb (decide_eq_false hx0))) (pU rfl (mV rfl) (SP.gu rfl (gT rfl rfl rfl dC) (mV rfl) dC (SP.gu rfl (gT rfl rfl rfl dC) (SU.eq (v':=vb true) (gR rfl rfl) (congrArg vb (decide_eq_true hi0))) dC (SP.gu rfl (gT rfl rfl rfl dC) (mV rfl) dC (SP.gu rfl (gT rfl rfl rfl dC) (mV rfl) dC (SP.gu rfl (gT rfl rfl rfl dC) (mV rfl) dC (SP.gu rfl (gT rfl rfl rfl dC) (iA uT27 zT54 rfl rfl hb1 oM sL) dC (SP.gu rfl (gT rfl rfl rfl dC) (fC uT54 rfl zT3 rfl hb1) dC (SP.gq rfl (gT rfl rfl rfl dC) (pA (e:=encCell) (o:=0) (u:=vi x.id) iT3 rfl hrs2.rd hgx (by rw[← hx1]; rfl)) dC ?_)))))))));refine SP.gu rfl (gT rfl rfl rfl dC) (mV rfl) dC (SP.gu rfl (gT rfl rfl rfl dC) (mV rfl) dC (SP.gu rfl (gT rfl rfl rfl dC) (sU rfl rfl oM) dC (SP.gu rfl (gT rfl rfl rfl dC) (iA uT27 zT54 rfl rfl hb1 oM sL) dC (SP.gu rfl (gT rfl rfl rfl dC) (fC uT54 rfl zT3 rfl hb1) dC (SP.gq rfl (gT rfl rfl rfl dC) (pA (e:=encCell) (o:=0) (u:=vi (lastOf (canonC l) i)) iT3 rfl hrs2.rd hrp (by rw[← hrpi]; rfl)) dC ?_)))));refine SP.gu I (gT I I I dC) (eQ I I) dC (SP.gu I (gT I I I dC) (pT I I) dC (pU I (pF I I) (pN (tN ?_))));refine iP I (fun heq=>?_) (fun heq=>?_)
     ·refine SC.sR (lM rfl (lM rfl (lU (iA uT27 zT54 rfl rfl hb1 oM sL) (lU (fC uT54 rfl zT3 rfl hb1) (lK (pA (e:=encCell) (o:=0) (u:=vi x.id) iT3 rfl hrs2.rd hgx (by rw[← hx1]; rfl)) ?_)))));refine lA I (lA I (SL.nT (rE (tR (bR (tR (tR (bR (tR (dR (s':=s) (.cons _ (.refl _)) ?_))))))))));exact ST.ret2 (.inl I) results67 I I ⟨by rw[hbad oM],I,hle1.trans hle2⟩
     ·refine kP (tN (SC.sR (lM I (lM I (lM I (lU (iA uT27 zT54 I I hb1 oM sL) (lK (eA (e:=encCell) iT54 zT54 I hrs2.rd hgx) (lW (SO.call call103 I (first_spec E g2 _ _ (tabC l) x rx hO hft.1 hts hcr hxl)) ?_))))))));rintro _ _ _ ⟨rfl,rfl,rfl⟩;refine lA I (SL.nT (SC.sR (lM I (lU (nQ I I) (SL.nT ?_)))));have hg:=hgo oM;refine iP I (fun he=>?_) (fun he=>?_)
      ·rw[if_pos he] at hg;refine SC.sR (lM rfl (lM rfl (lU (iA uT27 zT54 rfl rfl hb1 oM sL) (lU (fC uT54 rfl zT3 rfl hb1) (lK (pA (e:=encCell) (o:=0) (u:=vi x.id) iT3 rfl hrs2.rd hgx (by rw[← hx1]; rfl)) ?_)))));refine lM I (lA I (lA I (SL.nT (rE (bR (tR (tR (bR (tR (dR (s':=s) (.cons _ (.refl _)) ?_))))))))));exact ST.ret2 (.inl rfl) results67 rfl rfl ⟨by rw[hchk,hg]; rfl,rfl,hle1.trans hle2⟩
      ·rw[if_neg he] at hg;refine kP (bN (tN (rG (lM I (lU (aD I I oM) (lA I (nL ?_)))))));exact ST.again (i+1) sB I I ⟨oM,hg,fun _=>by rw[hls]; omega⟩ oM
    ·have hi00:i=0:=oM;have hg:=hgo (by rw[hi00]; show (0:Int)<x.id; omega);refine kP (tN (sQ (bK (sQ (sQ ?_)))));refine dW [] [(0,2),(1,2),(2,2),(3,2),(4,1),(5,2),(6,2),(7,2),(8,2),(9,2),(10,2),(11,2),(12,2),(13,2),(14,1),(15,2),(16,2),(17,2),(18,2),(19,2),(20,1),(21,2),(22,2),(23,2)] Tryz.mixed (by kernel_rfl) ?_;refine pU rfl (mV rfl) (pU rfl (mV rfl) (pU rfl (iA uT27 zT54 rfl rfl hb1 oM sL) (pU rfl (fC uT54 rfl zT3 rfl hb1) (pK rfl (pA (e:=encCell) (o:=0) (u:=vi x.id) iT3 rfl hrs2.rd hgx (by rw[← hx1]; rfl)) ?_))));refine pU I (SU.eq (v':=vb false) (lS I I) (congrArg vb (decide_eq_false hx0))) (pU I (mV I) (SP.gu I (gT I I I dC) (mV I) dC (SP.gu I (gT I I I dC) (SU.eq (v':=vb false) (gR I I) (congrArg vb (decide_eq_false hi0))) dC (SP.gu I (gT I I I dC) (mV I) dC (fP I (gF I I I dC) dC (fP I (gF I I I dC) dC (fP I (gF I I I dC) dC (fP I (gF I I I dC) dC (SP.off1 I (gF I I I dC) dC (fP I (gF I I I dC) dC (fP I (gF I I I dC) dC (fP I (gF I I I dC) dC (fP I (gF I I I dC) dC (fP I (gF I I I dC) dC (SP.off1 I (gF I I I dC) dC (fP I (gF I I I dC) dC (SP.gu I (gT I I I dC) (pF I I) dC (pU I (pF I I) (pN (tN (cF I (kP (tN (SC.sR (lM I (lM I (lM I (lU (iA uT27 zT54 I I hb1 oM sL) ?_))))))))))))))))))))))))))));refine lK (eA (e:=encCell) iT54 zT54 I hrs2.rd hgx) (lW (SO.call call103 I (first_spec E g2 _ _ (tabC l) x rx hO hft.1 hts hcr hxl)) ?_);rintro _ _ _ ⟨rfl,rfl,rfl⟩;refine lA I (SL.nT (SC.sR (lM I (lU (nQ I I) (SL.nT ?_)))));refine iP I (fun he=>?_) (fun he=>?_)
     ·rw[if_pos he] at hg;refine SC.sR (lM rfl (lM rfl (lU (iA uT27 zT54 rfl rfl hb1 oM sL) (lU (fC uT54 rfl zT3 rfl hb1) (lK (pA (e:=encCell) (o:=0) (u:=vi x.id) iT3 rfl hrs2.rd hgx (by rw[← hx1]; rfl)) ?_)))));refine lM I (lA I (lA I (SL.nT (rE (bR (tR (tR (bR (tR (dR (s':=s) (.cons _ (.refl _)) ?_))))))))));exact ST.ret2 (.inl rfl) results67 rfl rfl ⟨by rw[hchk,hg]; rfl,rfl,hle1.trans hle2⟩
     ·rw[if_neg he] at hg;refine kP (bN (tN (rG (lM I (lU (aD I I oM) (lA I (nL ?_)))))));exact ST.again (i+1) sB I I ⟨oM,hg,fun _=>by rw[hls]; omega⟩ oM
  ·have hid:(canonC l).drop i=[]:=List.drop_eq_nil_of_le oM;rw[hid] at hc1;have hnone:chk1 (tabC l) (canonC l) 0=none:=hc1;have hst:=(chk1_strict hnone).2;have htab:=tabC_strict hst;have hform:=chk1_none hnone;rw[hnone] at hchk;have hchk2:refCheckC l=(chkR2 (canonC l) (canonC l)).getD (0,0):=hchk;refine xI (tX (tX (bX (tN (sQ (SC.sR (lA I (SL.nT (bK ?_)))))))));refine oP (ι:=Nat) (fun i=>[(1,pp b1 0),(4,.slice q rs.length d),(8,vi i)]) (fun _=>g2) (fun _=>pt b1 (.cells #[.slice p l.length c] 29 (0,0))::s)
    (fun i=>i≤rs.length∧chkR2 (canonC l) (canonC l)=chkR2 (canonC l) ((canonC l).drop i)) (fun i=>rs.length - i) 0
    sB rfl rfl ⟨Nat.zero_le _,rfl⟩ ?_
   rintro j ⟨hj,hc2⟩;refine sQ (SC.sR (lM I (lM I (lU (eN uT27 I) (lU (lS I I) (SL.nT ?_))))));refine iP I (fun hlt2=>?_) (fun hlt2=>?_)
   ·have hjl:j<(canonC l).length:=oM;have hjr:j<rs.length:=oM;have hb1:=hrs2.based oM;have hcr:=hall2.get (gE hjl) (gE hjr);have hgx:rs[((j:Nat):Int).toNat]?=some rs[j]:=gE hjr;have hdrop:(canonC l).drop j=(canonC l)[j]::(canonC l).drop (j+1):=List.drop_eq_getElem_cons hjl;have hxm:(canonC l)[j]∈canonC l:=gM hjl;rw[hdrop] at hc2;generalize (canonC l)[j]=x at *;generalize rs[j]=rx at *;obtain ⟨hx1,hx2,hx3⟩:=hcr;have hcr:CellR g2 x rx:=⟨hx1,hx2,hx3⟩;have haok:=aok_of hform hxm;have hfound:=form_found (hform x hxm);rw[htab] at haok hfound;refine kP (tN (sQ (bK (sQ (SC.sR (lM rfl (lM rfl (lU (iA uT27 zT54 rfl rfl hb1 oM sL) (lU (fC uT54 rfl zT3 rfl hb1) (lK (pA (e:=encCell) (o:=1) (u:=vi x.dim) iT3 rfl hrs2.rd hgx (by rw[← hx2]; rfl)) ?_))))))))));refine lU (lS I I) (SL.nT ?_);refine iP I (fun hdm=>?_) (fun hdm=>?_)
    ·refine xI (tX (bX (tN (rG (lM I (lU (aD I I oM) (lA I (nL ?_))))))));exact ST.again (j+1) sB I I ⟨oM,by rw[hc2,chkR2,if_neg (fun h=>by omega)]⟩ oM
    ·refine kP (tN (SC.sR (lM I (lM I (lM I (lU (iA uT27 zT54 I I hb1 oM sL) (lK (eA (e:=encCell) iT54 zT54 I hrs2.rd hgx) (lW (SO.call call104 I (second_spec E g2 _ _ (canonC l) x rx hLc hfc.1 hcs hcr haok.1 hfound (fun y hy=>(haok.2.2 y hy).1))) ?_))))))));rintro _ _ _ ⟨rfl,rfl,rfl⟩;refine lA I (SL.nT (SC.sR (lM I (lU (nQ I I) (SL.nT ?_)))));refine iP I (fun he=>?_) (fun he=>?_)
     ·refine SC.sR (lM rfl (lM rfl (lU (iA uT27 zT54 rfl rfl hb1 oM sL) (lU (fC uT54 rfl zT3 rfl hb1) (lK (pA (e:=encCell) (o:=0) (u:=vi x.id) iT3 rfl hrs2.rd hgx (by rw[← hx1]; rfl)) ?_)))));refine lM I (lA I (lA I (SL.nT (rE (bR (tR (tR (bR (tR (dR (s':=s) (.cons _ (.refl _)) ?_))))))))));exact ST.ret2 (.inl rfl) results67 rfl rfl ⟨by rw[hchk2,hc2,chkR2,if_pos ⟨oM,he⟩]; rfl,rfl,hle1.trans hle2⟩
     ·refine kP (bN (tN (rG (lM I (lU (aD I I oM) (lA I (nL ?_)))))));exact ST.again (j+1) sB I I ⟨oM,by rw[hc2,chkR2,if_neg (fun h=>he h.2)]⟩ oM
   ·have hjd:(canonC l).drop j=[]:=List.drop_eq_nil_of_le oM;rw[hjd] at hc2;refine xI (tX (tX (bX (tN (SC.sR (lA I (lA I (SL.nT (rE (dR (s':=s) (.cons _ (.refl _)) ?_))))))))));exact ST.ret2 (.inl rfl) results67 rfl rfl ⟨by rw[hchk2,hc2]; rfl,rfl,hle1.trans hle2⟩
theorem refRight_spec (E:World)(g:PH)(s:Own)(v:Value)(l:List Cl)(hv:Cells g v l)(hf:Fits l) :
  Ctr Tryz.prog E 37 #[.agg #[v]] g s (fun r g' s'=>r=vb (decide ((refCheckC l).2=0))∧s=s'∧Le g g'):=by
 refine Ctr.of (args:=[.agg #[v]]) func37 I ntmps37 (bE I) ?_;refine SC.sR (SL.bx (bO I) fun b1=>?_);refine lA I (SL.nT (SC.sR (lK (qV 0 iT29 zT29 I I I) (lW (SO.call call67 I (refCheck_spec E g _ _ l hv hf)) ?_))));rintro _ g1 _ ⟨rfl,rfl,hle⟩;refine lM I (lU (xT I I) (lU (xT I I) (lA I (lA I (SL.nT (SC.sR (lM I (lU (eQ I I) (lA I (SL.nT (rE (dR (s':=s) (.cons _ (.refl _)) ?_))))))))))));exact ST.ret1 (.inl I) results37 I ⟨I,I,hle⟩
theorem compareC_len {a b:List Int}(h:a.length≠b.length):decide (compareC a b<0)=decide ((a.length:Int)<b.length):=by
 unfold compareC
 rcases cmpI_cases a.length b.length with ⟨h1,e⟩ | ⟨h1,e⟩ | ⟨h1,e⟩
 ·rw[e]; simp; omega
 ·omega
 ·rw[e]; simp; omega
theorem compareC_same {a b:List Int}(h:a.length=b.length):compareC a b=cmpL a b:=by
 unfold compareC
 rcases cmpI_cases a.length b.length with ⟨h1,e⟩ | ⟨h1,e⟩ | ⟨h1,e⟩
 ·omega
 ·rw[e]; simp
 ·omega
theorem cmpL_cons_ne {x y:Int}{a b:List Int}(h:x≠y):decide (cmpL (x::a) (y::b)<0)=decide (x<y):=by
 rw[decide_eq_decide];simp only[cmpL]
 rcases cmpI_cases x y with ⟨h1,e⟩ | ⟨h1,e⟩ | ⟨h1,e⟩
 ·rw[e]; simp; omega
 ·omega
 ·rw[e]; simp; omega
theorem cmpL_cons_eq {x y:Int}{a b:List Int}(h:x=y):cmpL (x::a) (y::b)=cmpL a b:=by
 simp only[cmpL]
 rcases cmpI_cases x y with ⟨h1,e⟩ | ⟨h1,e⟩ | ⟨h1,e⟩
 ·omega
 ·rw[e]; simp
 ·omega
theorem before_spec (E:World)(g:PH)(s:Own)(v u:Value)(a b:List Int)(hv:Ints g v a)(hu:Ints g u b)(hl:a.length<1099511627776) :
  Ctr Tryz.prog E 133 #[v,u] g s (fun r g' s'=>r=vb (decide (compareC a b<0))∧g=g'∧s=s'):=by
 obtain ⟨p,c,rfl⟩:=SlA.form hv;obtain ⟨q,d,rfl⟩:=SlA.form hu;refine Ctr.of (args:=[.slice p a.length c,.slice q b.length d]) func133 I ntmps133 (bE I) ?_;refine SC.sR (lA I (SL.nT (sQ (SC.sR (lM I (lU (eN uT22 I) (lM I (lU (eN uT22 I) (lU (nQ I I) (SL.nT ?_))))))))));refine iP I (fun hne=>?_) (fun hne=>?_)
 ·refine SC.sR (lM I (lU (eN uT22 I) (lM I (lU (eN uT22 I) (lU (lS I I) (lA I (SL.nT (rE (tR ?_)))))))));exact ST.ret1 (.inl I) results133 I ⟨by rw[compareC_len oM],I,I⟩
 ·have hlen:a.length=b.length:=oM;have hcc:=compareC_same hlen;refine kP (tN (sQ (SC.sR (lA I (SL.nT (bK ?_))))));refine oP (ι:=Nat) (fun k=>[(0,.slice p a.length c),(1,.slice q b.length d),(5,vi k)]) (fun _=>g) (fun _=>s) (fun k=>k≤a.length∧cmpL a b=cmpL (a.drop k) (b.drop k)) (fun k=>a.length - k) 0
   sB rfl rfl ⟨Nat.zero_le _,by simp⟩ ?_
  rintro k ⟨hk,heq⟩;refine sQ (SC.sR (lM I (lM I (lU (eN uT22 I) (lU (lS I I) (SL.nT ?_))))));refine iP I (fun hlt=>?_) (fun hlt=>?_)
  ·have hka:k<a.length:=oM;have hkb:k<b.length:=oM;have hb1:=SlA.based hv oM;have hb2:=SlA.based hu oM;rw[List.drop_eq_getElem_cons hka,List.drop_eq_getElem_cons hkb] at heq;refine kP (tN (sQ (bK (sQ ?_))));refine dW [] [(0,2),(1,2),(2,2),(3,1),(4,2),(5,2),(6,2),(7,1),(8,2)] Tryz.mixed (by kernel_rfl) ?_;refine pU I (mV I) (pU I (mV I) (pU I (iA uT22 zT3 I I (by assumption) oM (by (simp[slen]; omega))) ?_));refine pQ I (eB iT3 I (SlA.rd hv) (gE hka) I) dC ?_;refine pU I (mV I) (pU I (mV I) (pU I (iA uT22 zT3 I I (by assumption) oM (by (simp[slen]; omega))) ?_));refine pQ I (eB iT3 I (SlA.rd hu) (gE hkb) I) dC ?_;refine pU I (nQ I I) (pN (tN ?_));refine iP I (fun hd=>?_) (fun hd=>?_)
   ·refine sQ ?_;refine dW [] [(0,2),(1,2),(2,2),(3,1),(4,2),(5,2),(6,2),(7,1),(8,2),(9,2)] Tryz.mixed (by kernel_rfl) ?_;refine pU I (mV I) (pU I (mV I) (pU I (iA uT22 zT3 I I (by assumption) oM (by (simp[slen]; omega))) ?_));refine pQ I (eB iT3 I (SlA.rd hv) (gE hka) I) dC ?_;refine pU I (mV I) (pU I (mV I) (pU I (iA uT22 zT3 I I (by assumption) oM (by (simp[slen]; omega))) ?_));refine pQ I (eB iT3 I (SlA.rd hu) (gE hkb) I) dC ?_;refine pU I (lS I I) (pU I (aS I) (pN (tN (rE (bR (tR (tR (bR (tR ?_)))))))));exact ST.ret1 (.inl I) results133 I ⟨by rw[hcc,heq,cmpL_cons_ne hd],I,I⟩
   ·refine kP (bN (tN (rG (lM I (lU (aD I I oM) (lA I (nL ?_)))))));exact ST.again (k+1) sB I I ⟨oM,by rw[heq,cmpL_cons_eq (Decidable.of_not_not hd)]⟩ oM
  ·rw[List.drop_eq_nil_of_le oM,List.drop_eq_nil_of_le oM] at heq;refine xI (tX (tX (bX (tN (SC.sR (lA I (SL.nT (rE ?_))))))));exact ST.ret1 (.inl rfl) results133 rfl ⟨by rw[hcc,heq]; rfl,rfl,rfl⟩
theorem place_spec (E:World)(g:PH)(s:Own)(v u:Value)(ls:List (List Int))(t:List Int)(hv:Lists g v ls)(hu:Ints g u t)(hl:ls.length<1099511627776)(hll:∀ x∈ls,x.length<1099511627776)(htl:t.length<1099511627776)(hs:SrtL ls) :
  Ctr Tryz.prog E 95 #[v,u] g s (fun r g' s'=>r = .tuple #[vi (lbL ls t),vb (ls.contains t)]∧g=g'∧s=s'):=by
 obtain ⟨rs,hrs,hall⟩:=hv;have hlen:=hall.length;have hmono:=srt_mono hs t;obtain ⟨p,c,rfl⟩:=SlA.form hrs;refine Ctr.of (args:=[.slice p rs.length c,u]) func95 I ntmps95 (bE I) ?_;refine SC.sR (lA I (lA I (SL.nT (SC.sR (lA I (SL.nT (SC.sR (lM I (lU (eN uT108 I) (lA I (SL.nT (sQ (bK ?_)))))))))))));refine oP (ι:=Nat×Nat) (fun q=>[(0,.slice p rs.length c),(1,u),(6,vi q.1),(7,vi q.2)]) (fun _=>g) (fun _=>s)
  (fun q=>q.1≤q.2∧q.2≤ls.length∧(∀ k (h:k<ls.length),k<q.1→compareC ls[k] t<0)∧∀ k (h:k<ls.length),q.2≤k→¬ compareC ls[k] t<0) (fun q=>q.2 - q.1) (0,ls.length)
  ⟨rfl,rfl,rfl,vi_eq oM,trivial⟩ rfl rfl ⟨Nat.zero_le _,lR _,fun k _ h=>absurd h oM,fun k h1 h2=>absurd h1 (by dsimp only at h2; omega)⟩ ?_
 rintro ⟨i,j⟩ ⟨hij,hj,hlo,hhi⟩;dsimp only at hij hj hlo hhi ⊢;refine sQ (SC.sR (lM I (lM I (lU (lS I I) (SL.nT ?_)))));refine iP I (fun hlt=>?_) (fun hlt=>?_)
 ·have hb1:=hrs.based oM;have hml:(i+j) / 2<ls.length:=oM;have hmr:(i+j) / 2<rs.length:=oM;have hmx:rs[((((i+j) / 2:Nat):Int)).toNat]?=some rs[(i+j) / 2]:=gE hmr;have hR:=hall.get (gE hml) (gE hmr);have hxl:=hll _ (gM hml);refine kP (tN (bK (SC.sR (lM I (lM I (lU (aD I I oM) (lU (SU.eq (v':=vi (((i+j) / 2:Nat):Int)) (SU.quo I I dC) (congrArg vi (by rw[← Int.natCast_add]; exact half_tdiv _ oM))) ?_)))))));refine lA I (SL.nT (SC.sR (lM I (lM I (lU (iA uT108 zT22 I I hb1 oM sL) (lK (eB iT22 I hrs.rd hmx I) (lM I (lW (SO.call call133 I (before_spec E g _ _ _ ls[(i+j) / 2] t hR hu hxl)) ?_))))))));rintro _ _ _ ⟨rfl,rfl,rfl⟩;refine SL.nT ?_;refine iP I (fun hc=>?_) (fun hc=>?_)
  ·refine rG (lM I (lU (aD I I oM) (lA I (nL (bN ?_)))));refine ST.again ((i+j) / 2+1,j) sB I I ⟨lN,hj,fun k hk h=>?_,hhi⟩ lN;dsimp only at h
   rcases Nat.eq_or_lt_of_le (show k≤(i+j) / 2 by omega) with rfl | h'
   ·exact hc
   ·exact hmono k ((i+j) / 2) hk hml h' hc
  ·refine rG (lM I (lA I (nL (bN ?_))));refine ST.again (i,(i+j) / 2) sB I I ⟨lN,lN,hlo,fun k hk h=>?_⟩ lN;dsimp only at h
   rcases Nat.eq_or_lt_of_le (show (i+j) / 2≤k by omega) with h' | h'
   ·subst h'; exact hc
   ·exact fun hx=>hc (hmono ((i+j) / 2) k hml hk h' hx)
 ·have hie:i=j:=oM;subst hie;have hlb:lbL ls t=i:=lb_gen hj (fun k h h'=>by simpa using hlo k h h') (fun k h h'=>by simpa using hhi k h h');by_cases hin:(i:Int)<(rs.length:Int)
  ·have hil:i<ls.length:=oM;have hir:i<rs.length:=oM;have hb1:=hrs.based oM;have hmx:rs[((i:Nat):Int).toNat]?=some rs[i]:=gE hir;have hR:=hall.get (gE hil) (gE hir);have hfound:(!decide (compareC t ls[i]<0))=ls.contains t:=by
    have h1:=hhi i hil (lR _);by_cases h2:compareC t ls[i]<0
    ·rw[decide_eq_true h2];symm;rw[Bool.not_true,← Bool.not_eq_true];intro hm;have hm':t∈ls:=by simpa using hm
     obtain ⟨k,hk,rfl⟩:=List.getElem_of_mem hm'
     rcases Nat.lt_trichotomy k i with h3 | h3 | h3
     ·have:=hlo k hk h3; rw[compareC_self] at this; omega
     ·subst h3; rw[compareC_self] at h2; omega
     ·exact List.pairwise_iff_getElem.1 hs i k hil hk h3 h2
    ·rw[decide_eq_false h2];have h3:t=ls[i]:=by
      rcases compareC_cases t ls[i] with h | h | h
      ·exact absurd h h2
      ·exact h
      ·exact absurd h h1
     symm;rw[Bool.not_false];have:t∈ls:=by rw[h3]; exact gM hil
     simpa using this
   refine xI (tX (tX (bX (tN (SC.sR (lM I (lM I (lM I (lU (eN uT108 I) (lU (SU.eq (v':=vb true) (lS I I) (congrArg vb (decide_eq_true hin))) (lM I (lY I I I (mV I) (lY I I I (mV I) (lY I I I (mV I) (lY I I I (iA uT108 zT22 I I hb1 oM sL) (SL.gq (gT I I I dC) (eB iT22 I hrs.rd hmx I) dC (SL.go (gT I I I dC) (SO.call call133 I (before_spec E g _ _ _ t ls[i] hu hR htl)) dC ?_)))))))))))))))));rintro _ _ _ ⟨rfl,rfl,rfl⟩;refine lY I I I (SU.not I) (lU (pT I I) (lA I (lA I (SL.nT (rE ?_)))));exact ST.ret2 (.inl I) results95 I I ⟨by rw[hlb,← hfound],I,I⟩
  ·have hnf:ls.contains t=false:=by
    rw[← Bool.not_eq_true];intro hm;have hm':t∈ls:=by simpa using hm
    obtain ⟨k,hk,rfl⟩:=List.getElem_of_mem hm';have:=hlo k hk oM;rw[compareC_self] at this;omega
   refine xI (tX (tX (bX (tN (SC.sR (lM I (lM I (lM I (lU (eN uT108 I) (lU (SU.eq (v':=vb false) (lS I I) (congrArg vb (decide_eq_false hin))) (lM I (lZ I I I (lZ I I I (lZ I I I (lZ I I I (lZ I I I (lZ I I I (lZ I I I (lU (pF I I) (lA I (lA I (SL.nT (rE ?_)))))))))))))))))))))));exact ST.ret2 (.inl I) results95 I I ⟨by rw[hlb,hnf],I,I⟩
abbrev StrictI (l:List Int):Prop:=l.Pairwise (· < ·)
theorem strict_unique:∀ {l m:List Int},StrictI l→StrictI m→(∀ x,x∈l↔x∈m)→l=m
 | [],[],_,_,_=>rfl
 | [],y::m,_,_,h=>by have:=(h y).2 (by simp); simp at this
 | x::l,[],_,_,h=>by have:=(h x).1 (by simp); simp at this
 | x::l,y::m,hl,hm,h=>by
  obtain ⟨h1,h2⟩:=List.pairwise_cons.1 hl;obtain ⟨h3,h4⟩:=List.pairwise_cons.1 hm;have hxy:x=y:=by
   rcases List.mem_cons.1 ((h x).1 (by simp)) with e | hx
   ·exact e
   ·rcases List.mem_cons.1 ((h y).2 (by simp)) with e | hy
    ·exact e.symm
    ·have:=h3 x hx; have:=h1 y hy; omega
  subst hxy;rw[strict_unique h2 h4 fun z=>?_];constructor
  ·intro hz
   rcases List.mem_cons.1 ((h z).1 (by simp[hz])) with e | hz'
   ·have:=h1 z hz; omega
   ·exact hz'
  ·intro hz
   rcases List.mem_cons.1 ((h z).2 (by simp[hz])) with e | hz'
   ·have:=h3 z hz; omega
   ·exact hz'
theorem uniqGo_strict:∀ {x:Int} {l:List Int},(x::l).Pairwise (· ≤ ·)→StrictI (uniqGo (fun a b:Int=>decide (a=b)) x l)∧(∀ y∈uniqGo (fun a b:Int=>decide (a=b)) x l,x<y)∧∀ y,y∈l→y=x∨y∈uniqGo (fun a b:Int=>decide (a=b)) x l
 | x,[],_=>⟨List.Pairwise.nil,by simp[uniqGo],by simp⟩
 | x,y::r,h=>by
  obtain ⟨h1,h2⟩:=List.pairwise_cons.1 h;obtain ⟨i1,i2,i3⟩:=uniqGo_strict h2;have hxy:=h1 y (by simp);unfold uniqGo;by_cases e:y=x
  ·subst e;simp only[decide_true,if_true];refine⟨i1,i2,fun z hz=>?_⟩
   rcases List.mem_cons.1 hz with rfl | hz
   ·exact .inl I
   ·exact i3 z hz
  ·simp only[e,decide_false];refine⟨List.pairwise_cons.2 ⟨i2,i1⟩,fun z hz=>?_,fun z hz=>?_⟩
   ·rcases List.mem_cons.1 hz with rfl | hz
    ·omega
    ·have:=i2 z hz; omega
   ·rcases List.mem_cons.1 hz with rfl | hz
    ·exact .inr (by simp)
    ·rcases i3 z hz with rfl | h
     ·exact .inr (by simp)
     ·exact .inr (by simp[h])
theorem sortI_sorted (l:List Int):(sortI l).Pairwise (· ≤ ·):=by
 have:=List.pairwise_mergeSort (le:=fun x y:Int=>decide (x≤y)) (fun a b c h1 h2=>by simp at *; omega) (fun a b=>by simp; omega) l;exact this.imp fun h=>by simpa using h
theorem setC_strict (l:List Int):StrictI (setC l):=by
 have hs:=sortI_sorted l;unfold setC;cases h:sortI l with
 | nil=>exact List.Pairwise.nil
 | cons x r =>
  rw[h] at hs;obtain ⟨h1,h2,_⟩:=uniqGo_strict hs;exact List.pairwise_cons.2 ⟨h2,h1⟩
theorem setC_mem (l:List Int)(y:Int):y∈setC l↔y∈l:=by
 have hs:=sortI_sorted l;have hp:=sortI_perm l;rw[← hp.mem_iff];unfold setC;refine⟨fun h=>(uniq_sub _ _).subset h,fun h=>?_⟩;cases hc:sortI l with
 | nil=>rw[hc] at h; simp at h
 | cons x r =>
  rw[hc] at hs h
  rcases List.mem_cons.1 h with rfl | h
  ·simp[uniq]
  ·rcases (uniqGo_strict hs).2.2 y h with rfl | h
   ·simp[uniq]
   ·simp[uniq,h]
theorem setC_of {l out:List Int}(hs:StrictI out)(hm:∀ x,x∈out↔x∈l):out=setC l:=strict_unique hs (setC_strict l) fun x=>by rw[hm,setC_mem]
theorem strict_le {a b:List Int}(ha:StrictI a)(h:∀ x∈a,x∈b):a.length≤b.length:=nodup_le (ha.imp fun h=>by omega) h
def okS (l:List Int):Bool:=!(l.any fun x=>decide (x<0))&&decide ((setC l).length≤9)
theorem okS_bad {l:List Int}(h:okS l=false):badSet (setC l)=true:=by
 unfold okS at h;rw[Bool.and_eq_false_iff] at h;cases hc:setC l with
 | nil=>rfl
 | cons a r =>
  unfold badSet
  rcases h with h | h
  ·simp only[Bool.not_eq_false',List.any_eq_true,decide_eq_true_eq] at h;obtain ⟨x,hx,hx0⟩:=h;have h1:=(setC_mem l x).2 hx;rw[hc] at h1;have hs:=setC_strict l;rw[hc] at hs;have:a≤x:=by
    rcases List.mem_cons.1 h1 with rfl | h2
    ·omega
    ·have:=(List.pairwise_cons.1 hs).1 x h2; omega
   simp;omega
  ·rw[hc] at h;simp at h ⊢;omega
theorem okS_good {l:List Int}(h:okS l=true):(setC l).length≤9∧(badSet (setC l)=true→setC l=[]):=by
 unfold okS at h;simp only[Bool.and_eq_true,Bool.not_eq_true',decide_eq_true_eq] at h;refine⟨h.2,fun hb=>?_⟩;cases hc:setC l with
 | nil=>rfl
 | cons a r =>
  rw[hc] at hb;unfold badSet at hb;rw[hc] at h;simp at hb;have ha:a∈l:=(setC_mem l a).1 (by rw[hc]; simp);have h3:=List.any_eq_false.1 h.1 a ha;simp at h3;have h4:=h.2;simp at h4;omega
theorem ins_strict {out:List Int}{x:Int}{k:Nat}(hs:StrictI out)(h1:∀ y∈out.take k,y<x)(h2:∀ y∈out.drop k,x<y):StrictI (out.take k++x::out.drop k):=by
 have hs':StrictI (out.take k++out.drop k):=by rw[List.take_append_drop]; exact hs
 have h3:=List.pairwise_append.1 hs';refine List.pairwise_append.2 ⟨h3.1,List.pairwise_cons.2 ⟨h2,h3.2.1⟩,fun y hy z hz=>?_⟩
 rcases List.mem_cons.1 hz with rfl | hz
 ·exact h1 y hy
 ·exact h3.2.2 y hy z hz
theorem mem_ins {α:Type}{out:List α}{x y:α}{k:Nat}:y∈out.take k++x::out.drop k↔y=x∨y∈out:=by
 rw[List.mem_append,List.mem_cons];constructor
 ·rintro (h | h | h)
  ·exact .inr (List.mem_of_mem_take h)
  ·exact .inl h
  ·exact .inr (List.mem_of_mem_drop h)
 ·rintro (h | h)
  ·exact .inr (.inl h)
  ·rw[← List.take_append_drop k out] at h
   rcases List.mem_append.1 h with h | h
   ·exact .inl h
   ·exact .inr (.inr h)
theorem strict_drop {out:List Int}{c:Int}{k:Nat}(hs:StrictI out)(hk:k<out.length)(h:c≤out[k]):∀ y∈out.drop k,c≤y:=by
 rw[List.drop_eq_getElem_cons hk];intro y hy;have h1:StrictI (out.drop k):=List.Pairwise.sublist (List.drop_sublist k out) hs;rw[List.drop_eq_getElem_cons hk] at h1
 rcases List.mem_cons.1 hy with rfl | hy
 ·exact h
 ·have:=(List.pairwise_cons.1 h1).1 y hy;omega
theorem set_spec (E:World)(g:PH)(s:Own)(v:Value)(l:List Int)(hv:Ints g v l)(hl:l.length<17592186044416) :
  Ctr Tryz.prog E 94 #[v] g s (fun r g' s'=>s=s'∧Le g g'∧((okS l=true∧∃ u,r = .tuple #[u,vb true]∧Ints g' u (setC l))∨(okS l=false∧r = .tuple #[.slice none 0 0,vb false]))):=by
 obtain ⟨p,c,rfl⟩:=SlA.form hv;refine Ctr.of (args:=[.slice p l.length c]) func94 I ntmps94 (bE I) ?_;refine SC.sR (lA I (lA I (SL.nT (SC.sR (lA I (SL.nT (sQ (SC.sR (lA I (SL.nT (bK ?_)))))))))));refine oP (ι:=PH×Value×List Int×Nat) (fun i=>[(0,.slice p l.length c),(4,i.2.1),(5,vi i.2.2.2)]) (fun i=>i.1) (fun _=>s)
  (fun i=>Le g i.1∧Ints i.1 i.2.1 i.2.2.1∧i.2.2.2≤l.length∧StrictI i.2.2.1∧(∀ x,x∈i.2.2.1↔x∈l.take i.2.2.2)∧((l.take i.2.2.2).any (fun x=>decide (x<0))=false∧i.2.2.1.length≤9)) (fun i=>l.length - i.2.2.2)
  (g,.slice none 0 0,[],0) sB rfl rfl ⟨Le.refl g,Sl.nil g _,Nat.zero_le _,List.Pairwise.nil,by simp,by simp,by simp⟩ ?_
 rintro ⟨g1,ov,out,i⟩ ⟨hle,hov,hi,hstr,hmem,hneg,h9⟩;dsimp only at hle hov hi hstr hmem hneg h9 ⊢;obtain ⟨q,d,rfl⟩:=SlA.form hov;have hqc:=(SlA.cap hov).2;refine sQ (SC.sR (lM I (lM I (lU (eN uT22 I) (lU (lS I I) (SL.nT ?_))))));refine iP I (fun hlt=>?_) (fun hlt=>?_)
 ·have hil:i<l.length:=oM;have hb1:=SlA.based (hv.mono hle) oM;have hgi:l[((i:Nat):Int).toNat]?=some l[i]:=gE hil;have htk:l.take (i+1)=l.take i++[l[i]]:=tS hil;have hxm:l[i]∈l:=gM hil;generalize l[i]=x at *;refine kP (tN (sQ (bK (SC.sR (lA I (SL.nT ?_))))));refine SC.cut (ι:=Nat) (fun k=>[(0,.slice p l.length c),(4,.slice q out.length d),(5,vi i),(6,vi k)]) (fun _=>g1) (fun _=>s) (fun k=>k≤out.length∧(∀ y∈out.take k,y<x)∧∀ y∈out.drop k,x≤y) ?_ ?_
  ·refine bK ?_;refine oP (ι:=Nat) (fun k=>[(0,.slice p l.length c),(4,.slice q out.length d),(5,vi i),(6,vi k)]) (fun _=>g1) (fun _=>s) (fun k=>k≤out.length∧∀ y∈out.take k,y<x) (fun k=>out.length - k) 0
    sB rfl rfl ⟨Nat.zero_le _,by simp⟩ ?_
   rintro k ⟨hk,htake⟩;by_cases hin:(k:Int)<(out.length:Int)
   ·have hkl:k<out.length:=oM;have hb2:=SlA.based hov oM;refine sQ (sQ ?_);refine dW [] [(0,2),(1,2),(2,2),(3,2),(4,2),(5,2),(6,2),(7,2),(8,1),(9,2),(10,2),(11,2),(12,1),(13,2),(14,2)] Tryz.mixed (by kernel_rfl) ?_;refine pU I (mV I) (pU I (mV I) (pU I (eN uT22 I) (pU I (SU.eq (v':=vb true) (lS I I) (congrArg vb (decide_eq_true hin))) (pU I (mV I) (SP.gu I (gT I I I dC) (mV I) dC (SP.gu I (gT I I I dC) (mV I) dC (SP.gu I (gT I I I dC) (iA uT22 zT3 I I hb2 oM sL) dC ?_)))))));refine SP.gq I (gT I I I dC) (eB iT3 I (SlA.rd hov) (gE hkl) I) dC ?_;refine SP.gu I (gT I I I dC) (mV I) dC (SP.gu I (gT I I I dC) (mV I) dC (SP.gu I (gT I I I dC) (iA uT22 zT3 I I hb1 oM sL) dC (SP.gq I (gT I I I dC) (eB iT3 I (SlA.rd (hv.mono hle)) hgi I) dC (SP.gu I (gT I I I dC) (lS I I) dC (pU I (pT I I) (pN (tN ?_)))))));refine iP I (fun hc=>?_) (fun hc=>?_)
    ·refine kP (tN (bK (rG (lM I (lU (aD I I oM) (lA I (nL (bN ?_))))))));exact ST.again (k+1) sB I I ⟨oM,by
      rw[tS hkl];intro y hy
      rcases List.mem_append.1 hy with h | h
      ·exact htake y h
      ·simp at h; subst h; exact hc⟩ oM
    ·refine xI (tX (tX (bX ?_)));exact ST.mid k sB I I ⟨hk,htake,strict_drop hstr hkl oM⟩
   ·refine sQ (sQ ?_);refine dW [] [(0,2),(1,2),(2,2),(3,2),(4,2),(5,2),(6,2),(7,2),(8,1),(9,2),(10,2),(11,2),(12,1),(13,2),(14,2)] Tryz.mixed (by kernel_rfl) ?_;refine pU I (mV I) (pU I (mV I) (pU I (eN uT22 I) (pU I (SU.eq (v':=vb false) (lS I I) (congrArg vb (decide_eq_false hin))) (pU I (mV I) (fP I (gF I I I dC) dC (fP I (gF I I I dC) dC (fP I (gF I I I dC) dC (SP.off1 I (gF I I I dC) dC (fP I (gF I I I dC) dC (fP I (gF I I I dC) dC (fP I (gF I I I dC) dC (SP.off1 I (gF I I I dC) dC (fP I (gF I I I dC) dC (pU I (pF I I) (pN (tN (cF I (xI (tX (tX (bX ?_)))))))))))))))))))));exact ST.mid k sB I I ⟨hk,htake,by rw[List.drop_eq_nil_of_le oM]; simp⟩
  ·rintro k ⟨hk,hk1,hk2⟩;have hskip:x∈out→∀ y,y∈out↔y∈l.take (i+1):=fun h y=>by
    rw[htk,List.mem_append,← hmem];constructor
    ·exact .inl
    ·rintro (h' | h')
     ·exact h'
     ·simp at h'; rw[h']; exact h
   have hxneg:x∈out→(l.take (i+1)).any (fun x=>decide (x<0))=false:=fun h=>by
    have h1:=List.any_eq_false.1 hneg x ((hmem x).1 h);rw[htk,List.any_append,hneg];simpa using h1
   have hins:(∀ y∈out.drop k,x<y)→StrictI (out.take k++x::out.drop k)∧∀ y,y∈out.take k++x::out.drop k↔y∈l.take (i+1):=fun h=>⟨ins_strict hstr hk1 h,fun y=>by
    rw[mem_ins,htk,List.mem_append,← hmem];simp;exact or_comm⟩
   have hc1:=SlA.cut hov (l:=k) (m:=out.length) hk (lR _);have hc2:=SlA.cut hov (l:=0) (m:=k) (Nat.zero_le _) hk;rw[tL (by rw[List.length_drop]; exact lR _)] at hc1;rw[List.drop_zero,Nat.sub_zero] at hc2;have hnl:(out.take k++x::out.drop k).length=out.length+1:=lN;obtain ⟨nw,hnw⟩:∃ nw,nw=out.take k++x::out.drop k:=⟨_,rfl⟩;have hbad1:x<0→okS l=false:=fun h=>by
    unfold okS;have:l.any (fun x=>decide (x<0))=true:=List.any_eq_true.2 ⟨x,hxm,by simpa using h⟩;rw[this]; rfl
   have hbad2:(∀ y∈out.drop k,x<y)→9<(out.take k++x::out.drop k).length→okS l=false:=fun h h'=>by
    obtain ⟨h1,h2⟩:=hins h;have h3:=strict_le h1 (b:=setC l) (fun y hy=>by rw[setC_mem]; exact List.mem_of_mem_take ((h2 y).1 hy));unfold okS;have:decide ((setC l).length≤9)=false:=decide_eq_false oM;rw[this]; simp
   have hgo:∀ g3 q3 d3,(∀ y∈out.drop k,x<y)→Le g g3→Ints g3 (.slice q3 (out.take k++x::out.drop k).length d3) (out.take k++x::out.drop k)→¬ x<0→(out.take k++x::out.drop k).length≤9 →
     Le g g3∧Ints g3 (.slice q3 (out.take k++x::out.drop k).length d3) (out.take k++x::out.drop k)∧i+1≤l.length∧StrictI (out.take k++x::out.drop k)∧(∀ y,y∈out.take k++x::out.drop k↔y∈l.take (i+1))∧((l.take (i+1)).any (fun x=>decide (x<0))=false∧(out.take k++x::out.drop k).length≤9):=fun g3 q3 d3 h1 h2 h3 h4 h5 =>
    ⟨h2,h3,oM,(hins h1).1,(hins h1).2,by rw[htk,List.any_append,hneg]; simpa using h4,h5⟩
   have hgt:out.contains x=false→∀ y∈out.drop k,x<y:=fun h y hy=>by
    have h1:=hk2 y hy;have h2:y≠x:=fun e=>by
     have:out.contains x=true:=by rw[← e]; simpa using List.mem_of_mem_drop hy
     rw[h] at this; cases this
    omega
   have hgetk:(k:Int)<(out.length:Int)→out[((k:Nat):Int).toNat]?=some (out.getD k 0):=fun h=>by
    have h2:k<out.length:=oM;rw[show ((k:Nat):Int).toNat=k by omega,gE h2,List.getD_eq_getElem?_getD,gE h2]; rfl
   have hA:(k:Int)<(out.length:Int)→out.contains x=decide (out.getD k 0=x):=fun h=>by
    have h2:k<out.length:=oM;rw[List.getD_eq_getElem?_getD,gE h2,Option.getD_some,Bool.eq_iff_iff,decide_eq_true_iff];constructor
    ·intro hm;have hm':x∈out:=by simpa using hm
     rw[← List.take_append_drop k out] at hm'
     rcases List.mem_append.1 hm' with h3 | h3
     ·have:=hk1 x h3; omega
     ·have h4:=hk2 _ (by rw[List.drop_eq_getElem_cons h2]; exact List.mem_cons_self:out[k]∈out.drop k);have h5:=strict_drop hstr h2 (Int.le_refl out[k]) x h3;omega
    ·intro e;rw[← e];simp
   have hB:¬ (k:Int)<(out.length:Int)→out.contains x=false:=fun h=>by
    rw[← Bool.not_eq_true];intro hm;have hm':x∈out:=by simpa using hm
    rw[← List.take_append_drop k out,List.drop_eq_nil_of_le oM,List.append_nil] at hm';have:=hk1 x hm';omega
   have hb2:=fun h=>SlA.based hov h;generalize out.getD k 0=yk at hgetk hA;obtain ⟨nl,hnl2⟩:∃ nl,nl=(out.take k++x::out.drop k).length:=⟨_,rfl⟩;have f1:x<0→(decide (x<0)||decide ((((out.take k++x::out.drop k).length:Nat):Int)>9))=true:=fun h=>by simp[h]
   have f2:¬ x<0→(decide (x<0)||decide ((((out.take k++x::out.drop k).length:Nat):Int)>9))=decide ((((out.take k++x::out.drop k).length:Nat):Int)>9):=fun h=>by simp only[h,decide_false,Bool.false_or]
   refine sQ ?_;refine SC.cutB 45 ((out.contains x)) ?_ ?_
   ·refine dW [] [(0,2),(1,2),(2,2),(3,2),(4,2),(5,2),(6,2),(7,2),(8,1),(9,2),(10,2),(11,2),(12,1),(13,2),(14,2)] Tryz.mixed (by kernel_rfl) ?_;refine pU I (mV I) (pU I (mV I) (pU I (eN uT22 I) (pU I (lS I I) (pU I (mV I) ?_))));refine SP.split ?_ ?_
    ·intro h35;refine SP.gu I (gT I I I dC) (mV I) dC (SP.gu I (gT I I I dC) (mV I) dC (SP.gu I (gT I I I dC) (iA uT22 zT3 I I (hb2 oM) oM sL) dC (SP.gq I (gT I I I dC) (eB iT3 I (SlA.rd hov) (hgetk h35) I) dC (SP.gu I (gT I I I dC) (mV I) dC (SP.gu I (gT I I I dC) (mV I) dC (SP.gu I (gT I I I dC) (iA uT22 zT3 I I hb1 oM sL) dC (SP.gq I (gT I I I dC) (eB iT3 I (SlA.rd (hv.mono hle)) hgi I) dC (SP.gu I (gT I I I dC) (eQ I I) dC (pU I (pT I I) (pN ?_))))))))));exact ST.mid1 (by (rw[hA h35]; rfl)) mI
    ·intro h35;refine fP I (gF I I I dC) dC (fP I (gF I I I dC) dC (fP I (gF I I I dC) dC (SP.off1 I (gF I I I dC) dC (fP I (gF I I I dC) dC (fP I (gF I I I dC) dC (fP I (gF I I I dC) dC (SP.off1 I (gF I I I dC) dC (fP I (gF I I I dC) dC (pU I (pF I I) (pN ?_))))))))));exact ST.mid1 (by (rw[hB h35]; rfl)) mI
   refine iQ I (fun hthere=>?_) (fun hthere=>?_)
   ·have hxo:x∈out:=by simpa using hthere
    refine xI (tX (bX (tN (rG (lM I (lU (aD I I oM) (lA I (nL ?_))))))));exact ST.again (g1,_,out,i+1) sB I I ⟨hle,hov,lN,hstr,hskip hxo,hxneg hxo,h9⟩ lN
   ·have hg:=hgt hthere;refine kP (tN (sQ ?_));refine dW [8] [(0,2),(1,2),(2,2),(3,1),(5,2),(6,2),(7,2),(4,0),(8,0),(9,2)] Tryz.mixed (by kernel_rfl) ?_;refine pU rfl (mV rfl) (pU rfl (mV rfl) (pU rfl (iA uT22 zT3 rfl rfl hb1 oM sL) (pK rfl (eB iT3 rfl (SlA.rd (hv.mono hle)) hgi rfl) (pU rfl (mV rfl) (pU rfl (mV rfl) (pU rfl (SU.sliceL uT22 zT3 rfl rfl oM oM) (SP.o rfl (SO.buildSlice sty22 rfl rfl rfl (szs_mk ⟨rfl,trivial⟩) dC) dC (.inr (by rintro _ _ _ ⟨b50,rfl,rfl,rfl⟩; exact⟨by exact Le.refl _,(by exact .cons _ (.refl _))⟩)) ?_)))))));rintro _ _ _ ⟨b50,rfl,rfl,rfl⟩;refine SP.to (fun w hw=>At.litRow (e:=encInt) (l:=[x]) (n:=0) hw I I dC) ?_;refine SP.o rfl (aQ (e:=encInt) 0 sty22 rfl rfl rfl hc1 (by rw[List.length_drop]; (first | with_reducible rfl | ((try dsimp only); (try simp only[List.length_append,List.length_cons,List.length_nil,List.length_singleton,List.length_take,List.length_drop])<;>omega))) (by rw[List.length_drop]; (first | with_reducible rfl | ((try dsimp only); (try simp only[List.length_append,List.length_cons,List.length_nil,List.length_singleton,List.length_take,List.length_drop])<;>omega)))) dC (.inl dC) ?_;rintro v54 _ _ ⟨rfl,rfl⟩;refine pU I (aS I) (pN (tN (sQ (fS fun g2 hle2 hs2=>?_))));have hrest:Ints g2 v54 ([x]++out.drop k):=hs2;refine rG (lW (SO.buildSlice sty22 I I I (szs_mk trivial) dC) ?_);rintro _ _ _ ⟨b55,rfl,rfl,rfl⟩;refine SL.emptyRow 3 1 (some ⟨b55,0,none⟩) (lM rfl (lM rfl (lU (SU.sliceH uT22 zT3 rfl rfl oM oM) (lW (aQ (e:=encInt) (l:=[]) 0 sty22 rfl rfl rfl (hc2.mono hle2) (by rw[List.length_take]; (first | with_reducible rfl | ((try dsimp only); (try simp only[List.length_append,List.length_cons,List.length_nil,List.length_singleton,List.length_take,List.length_drop])<;>omega))) (by rw[List.length_take]; (first | with_reducible rfl | ((try dsimp only); (try simp only[List.length_append,List.length_cons,List.length_nil,List.length_singleton,List.length_take,List.length_drop])<;>omega)))) ?_))));rintro v59 _ _ ⟨rfl,rfl⟩;refine lM I (lW (aQ (e:=encInt) 0 sty22 I I I hrest lN lN) ?_);rintro v61 _ _ ⟨rfl,rfl⟩;refine lA I (SL.nT (fS fun g3 hle3 hs3=>?_));have hres:Ints g3 v61 (out.take k++x::out.drop k):=(by have h:Ints g3 v61 ([]++out.take k++([x]++out.drop k)):=hs3; simpa using h);refine SC.drop (s':=s) (.cons _ (.refl _)) ?_;obtain ⟨q3,d3,rfl⟩:=SlA.form hres;refine SC.sub (f':=[(0,.slice p l.length c),(4,.slice q3 (out.take k++x::out.drop k).length d3),(5,vi i)]) sB ?_;refine SC.cutB 71 ((decide (x<0)||decide ((((out.take k++x::out.drop k).length:Nat):Int)>9))) ?_ ?_
    ·refine rG (lM I (lM I (lU (iA uT22 zT3 I I hb1 oM sL) (lK (eB iT3 I (SlA.rd (hv.mono (hle.trans (hle2.trans hle3)))) hgi I) (lU (lS I I) (lM I ?_))))));refine sP ?_ ?_
     ·intro h67;refine lZ I I I (lZ I I I (lZ I I I (lU (pT I I) (nL ?_))));exact ST.mid1 (by (rw[f1 h67]; rfl)) mI
     ·intro h67;refine lY I I I (mV I) (lY I I I (eN uT22 I) (lY I I I (gR I I) (lU (pF I I) (nL ?_))));exact ST.mid1 (by (rw[f2 h67]; rfl)) mI
    refine iQ I (fun hbad=>?_) (fun hbad=>?_)
    ·have hko:okS l=false:=by
      rw[Bool.or_eq_true,decide_eq_true_iff,decide_eq_true_iff] at hbad
      rcases hbad with h | h
      ·exact hbad1 h
      ·exact hbad2 hg oM
     refine SC.sR (lA I (lA I (SL.nT (rE (bR (tR (tR (bR (tR ?_)))))))));exact ST.ret2 (.inl I) results94 I I ⟨I,hle.trans (hle2.trans hle3),.inr ⟨hko,I⟩⟩
    ·rw[Bool.or_eq_false_iff,decide_eq_false_iff_not,decide_eq_false_iff_not] at hbad;refine kP (bN (tN (rG (lM I (lU (aD I I oM) (lA I (nL ?_)))))));exact ST.again (g3,_,out.take k++x::out.drop k,i+1) sB I I (hgo g3 q3 d3 hg (hle.trans (hle2.trans hle3)) hres hbad.1 oM) lN
 ·have hii:l.take i=l:=tL oM;rw[hii] at hmem hneg;have hset:=setC_of hstr hmem;have hok:okS l=true:=by unfold okS; rw[hneg,← hset]; simpa using h9
  refine xI (tX (tX (bX (tN (SC.sR (lM I (lA I (lA I (SL.nT (rE ?_))))))))));exact ST.ret2 (.inl I) results94 I I ⟨I,hle,.inl ⟨hok,_,I,by rw[← hset]; exact hov⟩⟩
abbrev StrictL (l:List (List Int)):Prop:=l.Pairwise fun a b=>compareC a b<0
theorem compareC_asymm {a b:List Int}(h:compareC a b<0):¬ compareC b a<0:=by have:=compareC_antisymm a b; omega
theorem StrictL.srt {l:List (List Int)}(h:StrictL l):SrtL l:=h.imp fun h=>compareC_asymm h
theorem strictL_unique:∀ {l m:List (List Int)},StrictL l→StrictL m→(∀ x,x∈l↔x∈m)→l=m
 | [],[],_,_,_=>rfl
 | [],y::m,_,_,h=>by have:=(h y).2 (by simp); simp at this
 | x::l,[],_,_,h=>by have:=(h x).1 (by simp); simp at this
 | x::l,y::m,hl,hm,h=>by
  obtain ⟨h1,h2⟩:=List.pairwise_cons.1 hl;obtain ⟨h3,h4⟩:=List.pairwise_cons.1 hm;have hxy:x=y:=by
   rcases List.mem_cons.1 ((h x).1 (by simp)) with e | hx
   ·exact e
   ·rcases List.mem_cons.1 ((h y).2 (by simp)) with e | hy
    ·exact e.symm
    ·exact absurd (h1 y hy) (compareC_asymm (h3 x hx))
  subst hxy;have hself:¬ compareC x x<0:=by rw[compareC_self]; decide
  rw[strictL_unique h2 h4 fun z=>?_];constructor
  ·intro hz
   rcases List.mem_cons.1 ((h z).1 (by simp[hz])) with e | hz'
   ·subst e; exact absurd (h1 z hz) hself
   ·exact hz'
  ·intro hz
   rcases List.mem_cons.1 ((h z).2 (by simp[hz])) with e | hz'
   ·subst e; exact absurd (h3 z hz) hself
   ·exact hz'
theorem uniqGo_strictL:∀ {x:List Int} {l:List (List Int)},SrtL (x::l)→StrictL (uniqGo eqL x l)∧(∀ y∈uniqGo eqL x l,compareC x y<0)∧∀ y,y∈l→y=x∨y∈uniqGo eqL x l
 | x,[],_=>⟨List.Pairwise.nil,by simp[uniqGo],by simp⟩
 | x,y::r,h=>by
  obtain ⟨h1,h2⟩:=List.pairwise_cons.1 h;obtain ⟨i1,i2,i3⟩:=uniqGo_strictL h2;have hxy:=h1 y (by simp);unfold uniqGo;by_cases e:y=x
  ·subst e;simp only[eqL,decide_true,if_true];refine⟨i1,i2,fun z hz=>?_⟩
   rcases List.mem_cons.1 hz with rfl | hz
   ·exact .inl I
   ·exact i3 z hz
  ·have hlt:compareC x y<0:=by
    rcases compareC_cases x y with h | h | h
    ·exact h
    ·exact absurd h.symm e
    ·exact absurd h hxy
   simp only[eqL,e,decide_false];refine⟨List.pairwise_cons.2 ⟨i2,i1⟩,fun z hz=>?_,fun z hz=>?_⟩
   ·rcases List.mem_cons.1 hz with rfl | hz
    ·exact hlt
    ·exact compareC_trans _ _ _ hlt (i2 z hz)
   ·rcases List.mem_cons.1 hz with rfl | hz
    ·exact .inr (by simp)
    ·rcases i3 z hz with rfl | h
     ·exact .inr (by simp)
     ·refine .inr ?_;simp;exact .inr h
theorem addSets_strict (all:List (List Int))(t:List Int):StrictL (addSets all t):=by
 have hs:=sortL_srt (all++subsetsC t);unfold addSets;cases h:sortL (all++subsetsC t) with
 | nil=>exact List.Pairwise.nil
 | cons x r =>
  rw[h] at hs;obtain ⟨h1,h2,_⟩:=uniqGo_strictL hs;exact List.pairwise_cons.2 ⟨h2,h1⟩
theorem addSets_iff (all:List (List Int))(t x:List Int):x∈addSets all t↔x∈all∨x∈subsetsC t:=by
 refine⟨addSets_mem,fun h=>?_⟩;have hs:=sortL_srt (all++subsetsC t);have hm:x∈sortL (all++subsetsC t):=(sortL_perm _).symm.subset (List.mem_append.2 h);unfold addSets;cases hc:sortL (all++subsetsC t) with
 | nil=>rw[hc] at hm; simp at hm
 | cons y r =>
  rw[hc] at hs hm
  rcases List.mem_cons.1 hm with rfl | hm
  ·simp[uniq]
  ·rcases (uniqGo_strictL hs).2.2 x hm with rfl | h
   ·simp[uniq]
   ·simp[uniq,h]
theorem lbL_split:∀ {l:List (List Int)} (t:List Int),SrtL l→(∀ y∈l.take (lbL l t),compareC y t<0)∧∀ y∈l.drop (lbL l t),¬ compareC y t<0
 | [],t,_=>⟨by simp,by simp⟩
 | a::r,t,hs=>by
  obtain ⟨h1,h2⟩:=List.pairwise_cons.1 hs;obtain ⟨i1,i2⟩:=lbL_split t h2;by_cases ha:compareC a t<0
  ·have hl:lbL (a::r) t=lbL r t+1:=by simp[lbL,ha]
   rw[hl,List.take_succ_cons,List.drop_succ_cons];refine⟨fun y hy=>?_,i2⟩
   rcases List.mem_cons.1 hy with rfl | hy
   ·exact ha
   ·exact i1 y hy
  ·have hall:∀ y∈a::r,¬ compareC y t<0:=fun y hy=>by
    rcases List.mem_cons.1 hy with rfl | hy
    ·exact ha
    ·exact compareC_ntrans y a t (h1 y hy) ha
   have hz:lbL (a::r) t=0:=by
    unfold lbL;rw[List.length_eq_zero_iff,List.filter_eq_nil_iff];intro y hy;simpa using hall y hy
   rw[hz];exact⟨by simp,by simpa using hall⟩
theorem insL_strict {l:List (List Int)}{t:List Int}(hs:StrictL l)(hn:l.contains t=false):StrictL (l.take (lbL l t)++t::l.drop (lbL l t)):=by
 obtain ⟨h1,h2⟩:=lbL_split t hs.srt;have hs':StrictL (l.take (lbL l t)++l.drop (lbL l t)):=by rw[List.take_append_drop]; exact hs
 have h3:=List.pairwise_append.1 hs';refine List.pairwise_append.2 ⟨h3.1,List.pairwise_cons.2 ⟨fun y hy=>?_,h3.2.1⟩,fun y hy z hz=>?_⟩
 ·rcases compareC_cases t y with h | h | h
  ·exact h
  ·have:l.contains t=true:=by rw[h]; simpa using List.mem_of_mem_drop hy
   rw[hn] at this; cases this
  ·exact absurd h (h2 y hy)
 ·rcases List.mem_cons.1 hz with rfl | hz
  ·exact h1 y hy
  ·exact h3.2.2 y hy z hz
theorem simp_srt (all:List (List Int)):Srt Cl.id (simpCells all):=by
 unfold Srt;rw[List.pairwise_iff_getElem];intro i j hi hj hij;simp[simpCells,simpCell];omega
theorem canon_simp (all:List (List Int)):canonC (simpCells all)=(simpCells all).map normC:=by
 unfold canonC;rw[← eq_sortBy (simp_srt all) (Stab.refl _)]
theorem tmod_two (k:Nat):((k:Nat):Int).tmod 2=((k:Nat):Int) % 2:=Int.tmod_eq_emod_of_nonneg oM
theorem refSimplicial_spec (E:World)(g:PH)(s:Own)(v:Value)(ls:List (List Int))(hv:Lists g v ls)(hn:ls.length<1099511627776)(hl:∀ x∈ls,x.length<17592186044416) :
  Ctr Tryz.prog E 58 #[v] g s (fun r g' s'=>s=s'∧Le g g'∧∃ u,r = .agg #[u]∧Cells g' u (simpC ls)):=by
 obtain ⟨rs0,hrs0,hall0⟩:=hv;have hlen0:=hall0.length;obtain ⟨p,c,rfl⟩:=SlA.form hrs0;refine Ctr.of (args:=[.slice p rs0.length c]) func58 I ntmps58 (bE I) ?_;refine SC.sR (SL.bx (aL zeroValue29) fun b2=>?_);refine SL.nT (SC.sR (lA I (SL.nT (sQ (SC.sR (lA I (SL.nT (bK ?_))))))));refine oP (ι:=PH×Value×List (List Int)×Nat) (fun i=>[(0,.slice p rs0.length c),(2,pp b2 0),(3,i.2.1),(4,vi i.2.2.2)]) (fun i=>i.1)
  (fun _=>pt b2 (.cells #[.slice none 0 0] 29 (0,0))::s)
  (fun i=>Le g i.1∧i.2.2.2≤rs0.length∧Lists i.1 i.2.1 i.2.2.1∧(i.2.2.1.length≤4000∧∀ x∈i.2.2.1,x.length≤9)∧StrictL i.2.2.1∧simpAll [] ls=simpAll i.2.2.1 (ls.drop i.2.2.2)) (fun i=>rs0.length - i.2.2.2)
  (g,.slice none 0 0,[],0) sB rfl rfl ⟨Le.refl g,Nat.zero_le _,⟨[],Sl.nil g _,trivial⟩,⟨Nat.zero_le _,by simp⟩,List.Pairwise.nil,rfl⟩ ?_
 rintro ⟨g1,av,all,i⟩ ⟨hle,hi,hav,⟨hal,has⟩,hstr,hsa⟩;dsimp only at hle hi hav hal has hstr hsa ⊢;refine sQ (SC.sR (lM I (lM I (lU (eN uT108 I) (lU (lS I I) (SL.nT ?_))))));refine iP I (fun hlt=>?_) (fun hlt=>?_)
 ·have hkl:i<ls.length:=oM;have hkr:i<rs0.length:=oM;have hR:=(hall0.get (gE hkl) (gE hkr)).mono hle;have hxl:=hl _ (gM hkl);have hb1:=hrs0.based oM;have hdrop:ls.drop i=ls[i]::ls.drop (i+1):=List.drop_eq_getElem_cons hkl;rw[hdrop] at hsa;generalize hx:ls[i]=x at *;generalize hr:rs0[i]=r at *;have hgr:rs0[((i:Nat):Int).toNat]?=some r:=by rw[← hr]; exact gE hkr
  refine kP (tN (sQ (bK (SC.sR (lM I (lM I (lU (iA uT108 zT22 I I hb1 oM sL) (lK (eB iT22 I (hrs0.mono hle).rd hgr I) (lW (SO.call call94 I (set_spec E g1 _ _ x hR hxl)) ?_)))))))));rintro v31 g2 _ ⟨rfl,hle2,hset⟩;have hav2:=hav.mono hle2
  rcases hset with ⟨hok,u,rfl,hu⟩ | ⟨hok,rfl⟩
  ·obtain ⟨hs9,hsb⟩:=okS_good hok;obtain ⟨q,d,rfl⟩:=SlA.form hu;have hpow:=pow_le (setC x).length hs9;refine lM I (lU (xT I I) (lU (xT I I) (lA I (lA I (SL.nT ?_)))));refine SC.cut (ι:=PH×Value×List (List Int)) (fun j=>[(0,.slice p rs0.length c),(2,pp b2 0),(3,j.2.1),(4,vi i)]) (fun j=>j.1) (fun _=>pt b2 (.cells #[.slice none 0 0] 29 (0,0))::s)
    (fun j=>Le g j.1∧Lists j.1 j.2.1 j.2.2∧StrictL j.2.2∧(∀ y,y∈j.2.2↔y∈all∨y∈subsetsC (setC x))∧j.2.2.length≤4600) ?_ ?_
   ·refine SC.sR (lA I (SL.nT (bK ?_)));refine oP (ι:=PH×Value×List (List Int)×Nat) (fun j=>[(0,.slice p rs0.length c),(2,pp b2 0),(3,j.2.1),(4,vi i),(5,.slice q (setC x).length d),(6,vb true),(7,vi (j.2.2.2+1:Nat))]) (fun j=>j.1) (fun _=>pt b2 (.cells #[.slice none 0 0] 29 (0,0))::s)
     (fun j=>Le g2 j.1∧j.2.2.2+1≤2 ^ (setC x).length∧Lists j.1 j.2.1 j.2.2.1∧StrictL j.2.2.1∧(∀ y,y∈j.2.2.1↔y∈all∨y∈(List.range j.2.2.2).map fun m=>pickB (m+1) (setC x))∧j.2.2.1.length≤4000+j.2.2.2) (fun j=>2 ^ (setC x).length - j.2.2.2)
     (g2,av,all,0) sB rfl rfl ⟨Le.refl g2,Nat.one_le_two_pow,hav2,hstr,by simp,lN⟩ ?_
    rintro ⟨g3,bv,al,b⟩ ⟨hle3,hb,hbv,hbs,hbm,hbl⟩;dsimp only at hle3 hb hbv hbs hbm hbl ⊢;have hals:∀ y∈al,y.length≤9:=fun y hy=>by
     rcases (hbm y).1 hy with h | h
     ·exact has y h
     ·obtain ⟨m,_,rfl⟩:=List.mem_map.1 h;exact Nat.le_trans (pickB_length _ _) hs9
    refine sQ (SC.sR (lM I (lM I (lY I I I (mV I) (lY I I I (mV I) (lY I I I (eN uT22 I) (lY I I I (SU.eq (v':=vi ((2 ^ (setC x).length:Nat):Int)) (SU.shl I I oM) (congrArg vi (shl_one (setC x).length oM))) (lY I I I (lS I I) (lU (pT I I) (SL.nT ?_))))))))));refine iP I (fun hlt2=>?_) (fun hlt2=>?_)
    ·have hbl2:b+1<2 ^ (setC x).length:=oM;refine kP (tN (sQ (bK (SC.sR (lA I (SL.nT (sQ (sQ (SC.nilRow 3 1 (rG (lA I (SL.nT (bK ?_)))))))))))));refine oP (ι:=Value×Nat) (fun k=>[(0,.slice p rs0.length c),(2,pp b2 0),(3,bv),(4,vi i),(5,.slice q (setC x).length d),(6,vb true),(7,vi (b+1:Nat)),(8,k.1),(9,vi k.2)]) (fun _=>g3)
      (fun k=>rowA encInt 3 k.1 (pickB (b+1) ((setC x).take k.2))::pt b2 (.cells #[.slice none 0 0] 29 (0,0))::s) (fun k=>k.2≤(setC x).length) (fun k=>(setC x).length - k.2) (.slice none 0 0,0)
      sB rfl rfl (Nat.zero_le _) ?_
     rintro ⟨cv,k⟩ hk;dsimp only at hk ⊢;have hpl:=pickB_length (b+1) ((setC x).take k);rw[List.length_take] at hpl;refine sQ (SC.sR (lM I (lM I (lU (eN uT22 I) (lU (lS I I) (SL.nT ?_))))));refine iP I (fun hlt3=>?_) (fun hlt3=>?_)
     ·have hkl:k<(setC x).length:=oM;have hbu:=SlA.based (hu.mono hle3) oM;have hsucc:=pickB_succ (bits:=b+1) hkl;refine kP (tN (sQ (bK (SC.sR (lM I (lM I (lU (SU.shr I I oM) (lU (SU.eq (v':=vi (((b+1) / 2 ^ k % 2:Nat):Int)) (SU.and I I) (congrArg vi ((and_one _).trans (shr_bit (b+1) k oM)))) (lU (eQ I I) (SL.nT ?_))))))))));refine iP I (fun hbit=>?_) (fun hbit=>?_)
      ·refine rG (lM I (lM I (lM I (lU (iA uT22 zT3 I I hbu oM sL) ?_))));refine SL.q (eB iT3 I (SlA.rd (hu.mono hle3)) (gE hkl) I) dC ?_;refine lW (SO.buildSlice sty22 I I I (szs_mk sB) dC) ?_;rintro _ _ _ ⟨b60,rfl,rfl,rfl⟩;refine lW (aP (e:=encInt) 0 (setC x)[k] sty22 I I I I I oM oM) ?_;rintro cv' _ _ ⟨rfl,rfl⟩;refine lA I (nL (bN (tN (rG (lM I (lU (aD I I oM) (lA I (nL ?_))))))));refine ST.to (fun w hw=>?_) (g':=g3) (s':=rowA encInt 3 cv' (pickB (b+1) ((setC x).take (k+1)))::pt b2 (.cells #[.slice none 0 0] 29 (0,0))::s) ?_
       ·rw[hsucc,if_pos oM]; exact hw
       exact ST.again (cv',k+1) sB I I lN lN
      ·refine kP (bN (tN (rG (lM I (lU (aD I I oM) (lA I (nL ?_)))))));refine ST.to (fun w hw=>?_) (g':=g3) (s':=rowA encInt 3 cv (pickB (b+1) ((setC x).take (k+1)))::pt b2 (.cells #[.slice none 0 0] 29 (0,0))::s) ?_
       ·rw[hsucc,if_neg oM]; exact hw
       exact ST.again (cv,k+1) sB I I lN lN
     ·have hkk:(setC x).take k=setC x:=tL oM;have htl:=pickB_length (b+1) (setC x);have hmem2:∀ nw:List (List Int),(∀ y,y∈nw↔y=pickB (b+1) (setC x)∨y∈al)→∀ y,y∈nw↔y∈all∨y∈(List.range (b+1)).map fun m=>pickB (m+1) (setC x):=fun nw h y=>by
       rw[h,hbm,List.range_succ,List.map_append,List.mem_append];simp;constructor
       ·rintro (h | h | h)
        ·exact .inr (.inr h)
        ·exact .inl h
        ·exact .inr (.inl h)
       ·rintro (h | h | h)
        ·exact .inr (.inl h)
        ·exact .inr (.inr h)
        ·exact .inl h
      generalize hpk:pickB (b+1) (setC x)=t at *;refine xI (tX (tX (bX (tN (sQ (fS fun g4 hle4 hs4=>?_))))));rw[hkk,hpk] at hs4;have ht:Ints g4 cv t:=hs4;have hbv4:=hbv.mono hle4;refine rG (lM I (lM I (lW (SO.call call95 I (place_spec E g4 _ _ _ al t hbv4 ht oM (fun y hy=>by have:=hals y hy; omega) oM hbs.srt)) ?_)));rintro _ _ _ ⟨rfl,rfl,rfl⟩;refine lM I (lU (xT I I) (lU (xT I I) (lA I (lA I (SL.nT (SC.sR (lM I (lU (SU.not I) (SL.nT ?_)))))))));refine iQ I (fun hthere=>?_) (fun hthere=>?_)
      ·have hth:al.contains t=false:=by simpa using hthere
       have hlb:=lbL_le al t;obtain ⟨ra,hra,halr⟩:=hbv4;have hral:=halr.length;obtain ⟨qa,da,rfl⟩:=SlA.form hra;have hcapa:=(SlA.cap hra).2;obtain ⟨qt,dt,rfl⟩:=SlA.form ht;have hca:=SlA.cut hra (l:=lbL al t) (m:=ra.length) oM (lR _);have hcb:=SlA.cut hra (l:=0) (m:=lbL al t) (Nat.zero_le _) oM;rw[tL (by rw[List.length_drop]; exact lR _)] at hca;rw[List.drop_zero,Nat.sub_zero] at hcb;refine SC.sR (lM I (lW (SO.buildSlice sty108 I I I (szs_mk ⟨I,trivial⟩) dC) ?_));rintro _ _ _ ⟨b71,rfl,rfl,rfl⟩;refine SL.to (fun w hw=>At.litRow (e:=encSv) (l:=[⟨qt,t.length,dt⟩]) (n:=0) hw I I dC) ?_;refine lM rfl (lM rfl (lU (SU.sliceL uT108 zT22 rfl rfl oM oM) (lW (aQ (e:=encSv) 0 sty108 rfl rfl rfl hca (by rw[List.length_drop]; (first | with_reducible rfl | ((try dsimp only); (try simp only[List.length_append,List.length_cons,List.length_nil,List.length_singleton,List.length_take,List.length_drop])<;>omega))) (by rw[List.length_drop]; (first | with_reducible rfl | ((try dsimp only); (try simp only[List.length_append,List.length_cons,List.length_nil,List.length_singleton,List.length_take,List.length_drop])<;>omega)))) ?_)));rintro v75 _ _ ⟨rfl,rfl⟩;refine lA I (SL.nT (fS fun g5 hle5 hs5=>?_));have hrest:SlA encSv g5 v75 ([⟨qt,t.length,dt⟩]++ra.drop (lbL al t)):=hs5;refine rG (lW (SO.buildSlice sty108 I I I (szs_mk trivial) dC) ?_);rintro _ _ _ ⟨b76,rfl,rfl,rfl⟩;refine SL.emptyRow 22 1 (some ⟨b76,0,none⟩) (lM rfl (lM rfl (lU (SU.sliceH uT108 zT22 rfl rfl oM oM) (lW (aQ (e:=encSv) (l:=[]) 0 sty108 rfl rfl rfl (hcb.mono hle5) (by rw[List.length_take]; (first | with_reducible rfl | ((try dsimp only); (try simp only[List.length_append,List.length_cons,List.length_nil,List.length_singleton,List.length_take,List.length_drop])<;>omega))) (by rw[List.length_take]; (first | with_reducible rfl | ((try dsimp only); (try simp only[List.length_append,List.length_cons,List.length_nil,List.length_singleton,List.length_take,List.length_drop])<;>omega)))) ?_))));rintro v80 _ _ ⟨rfl,rfl⟩;refine lM I (lW (aQ (e:=encSv) 0 sty108 I I I hrest lN lN) ?_);rintro v82 _ _ ⟨rfl,rfl⟩;refine lA I (nL (bN (tN (rG (lM I (lU (aD I I oM) (lA I (nL (fT fun g6 hle6 hs6=>?_)))))))));refine dR (s':=pt b2 (.cells #[.slice none 0 0] 29 (0,0))::s) (.cons _ (.refl _)) ?_;have hres:Lists g6 v82 (al.take (lbL al t)++t::al.drop (lbL al t)):=by
        refine⟨ra.take (lbL al t)++⟨qt,t.length,dt⟩::ra.drop (lbL al t),?_,?_⟩
        ·have h:SlA encSv g6 v82 ([]++ra.take (lbL al t)++([⟨qt,t.length,dt⟩]++ra.drop (lbL al t))):=hs6;simpa using h
        ·exact ((All2.take _ halr).mono fun _ _=>ListR.mono (hle5.trans hle6)).append ⟨ht.mono (hle5.trans hle6),(All2.drop _ halr).mono fun _ _=>ListR.mono (hle5.trans hle6)⟩
       exact ST.again (g6,v82,al.take (lbL al t)++t::al.drop (lbL al t),b+1) ⟨I,I,I,I,I,I,vi_eq (by simp),trivial⟩ I I ⟨hle3.trans (hle4.trans (hle5.trans hle6)),hbl2,hres,insL_strict hbs hth,hmem2 _ (fun y=>mem_ins),lN⟩ lN
      ·have hth:t∈al:=by simpa using hthere
       refine kP (bN (tN (rG (lM I (lU (aD I I oM) (lA I (nL ?_)))))));exact ST.again (g4,bv,al,b+1) ⟨I,I,I,I,I,I,vi_eq (by simp),trivial⟩ I I ⟨hle3.trans hle4,hbl2,hbv4,hbs,hmem2 _ (fun y=>⟨.inr,fun h=>h.elim (fun e=>by rw[e]; exact hth) id⟩),lN⟩ lN
    ·have hbb:b=2 ^ (setC x).length - 1:=oM;refine xI (tX (tX (bX ?_)));exact ST.mid (g3,bv,al) sB I I ⟨hle.trans (hle2.trans hle3),hbv,hbs,fun y=>by dsimp only; rw[hbm]; unfold subsetsC; rw[hbb],lN⟩
   ·rintro ⟨g3,bv,al⟩ ⟨hle3,hbv,hbs,hbm,hbl⟩;dsimp only at hle3 hbv hbs hbm hbl ⊢;have hals:∀ y∈al,y.length≤9:=fun y hy=>by
     rcases (hbm y).1 hy with h | h
     ·exact has y h
     ·exact subsetsC_short hs9 y h
    have key:((al.length:Int)>4000→simpAll [] ls=none)∧(¬ (al.length:Int)>4000→simpAll [] ls=simpAll al (ls.drop (i+1))):=by
     by_cases hb:badSet (setC x)=true
     ·have he:=hsb hb;have hal2:al=all:=strictL_unique hbs hstr fun y=>by rw[hbm,he]; simp[subsetsC]
      refine⟨fun h=>by rw[hal2] at h; omega,fun _=>by rw[hsa,simpAll,if_pos hb,hal2]⟩
     ·have hal2:al=addSets all (setC x):=strictL_unique hbs (addSets_strict _ _) fun y=>by rw[hbm,addSets_iff]
      refine⟨fun h=>by rw[hsa,simpAll,if_neg hb,if_pos (by rw[← hal2]; exact h)],fun h=>by rw[hsa,simpAll,if_neg hb,if_neg (by rw[← hal2]; exact h),← hal2]⟩
    obtain ⟨ra,hra,halr⟩:=hbv;have hbv:Lists g3 bv al:=⟨ra,hra,halr⟩;have hral:=halr.length;obtain ⟨qa,da,rfl⟩:=SlA.form hra;refine SC.sR (lM I (lU (eN uT108 I) (lU (gR I I) (SL.nT ?_))));refine iP I (fun hmany=>?_) (fun hmany=>?_)
    ·refine SC.sR (lU (SU.build I (buildE29)) (SL.O2 (sK 0 zT29 I I I I I sB) ?_));refine SL.nT (rE (bR (tR (tR (bR (tR ?_))))));exact ST.retCD 0 s (.inl I) results58 I iT29 zT29 I I (.cons _ (.refl _)) ⟨I,hle3,_,I,by simp only[simpC,key.1 oM]; exact⟨[],Sl.nil _ _,trivial⟩⟩
    ·refine kP (bN (tN (rG (lM I (lU (aD I I oM) (lA I (nL ?_)))))));exact ST.again (g3,_,al,i+1) sB I I ⟨hle3,lN,hbv,⟨lN,hals⟩,hbs,key.2 oM⟩ lN
  ·have hb:=okS_bad hok;obtain ⟨ra,hra,halr⟩:=hav2;have hav2:Lists g2 av all:=⟨ra,hra,halr⟩;have hral:=halr.length;obtain ⟨qa,da,rfl⟩:=SlA.form hra;refine lM I (lU (xT I I) (lU (xT I I) (lA I (lA I (SL.nT (sQ (SC.sR (lA I (SL.nT (bK ?_))))))))));refine oP (ι:=Unit) (fun _=>[(0,.slice p rs0.length c),(2,pp b2 0),(3,.slice qa ra.length da),(4,vi i),(5,.slice none 0 0),(6,vb false),(7,vi 1)]) (fun _=>g2) (fun _=>pt b2 (.cells #[.slice none 0 0] 29 (0,0))::s) (fun _=>True) (fun _=>0) () sB I I trivial ?_;rintro ⟨⟩ -;refine sQ (SC.sR (lM I (lM I (lZ I I I (lZ I I I (lZ I I I (lZ I I I (lZ I I I (lU (pF I I) (SL.nT (cF I (xI (tX (tX (bX (tN (SC.sR (lM I (lU (eN uT108 I) (lU (gR I I) (SL.nT ?_)))))))))))))))))))));refine iP I (fun hmany=>?_) (fun hmany=>?_)
   ·exfalso;omega
   ·refine kP (bN (tN (rG (lM I (lU (aD I I oM) (lA I (nL ?_)))))));exact ST.again (g2,_,all,i+1) sB I I ⟨hle.trans hle2,lN,hav2,⟨hal,has⟩,hstr,by dsimp only; rw[hsa,simpAll,if_pos hb]⟩ lN
 ·have hk0:i=rs0.length:=oM;have hsome:simpAll [] ls=some all:=by rw[hsa,hk0,← hlen0,List.drop_length]; rfl
  obtain ⟨rs,hrs,hall⟩:=hav;have hav:Lists g1 av all:=⟨rs,hrs,hall⟩;have hrl:=hall.length;obtain ⟨q,d,rfl⟩:=SlA.form hrs;refine xI (tX (tX (bX (tN (SC.sR (SL.bx (aL zeroValue29) fun b13=>?_))))));refine SL.nT (sQ (SC.sR (lA I (SL.nT (bK (SC.nilRow 54 3 ?_))))));refine oP (ι:=PH×Value×List Rc×Nat) (fun i=>[(2,pp b2 0),(3,.slice q rs.length d),(13,pp b13 0),(14,vi i.2.2.2)]) (fun i=>i.1)
   (fun i=>rowA encCell 54 i.2.1 i.2.2.1::pt b13 (.cells #[i.2.1] 29 (0,0))::pt b2 (.cells #[.slice none 0 0] 29 (0,0))::s)
   (fun i=>Le g1 i.1∧i.2.2.2≤rs.length∧All2 (CellR i.1) (((simpCells all).take i.2.2.2).map normC) i.2.2.1) (fun i=>rs.length - i.2.2.2)
   (g1,.slice none 0 0,[],0) sB rfl rfl ⟨Le.refl g1,Nat.zero_le _,trivial⟩ ?_
  rintro ⟨g3,ov,rcs,n⟩ ⟨hle3,hn3,hrcs⟩;dsimp only at hle3 hn3 hrcs ⊢;have hrcl:=hrcs.length;rw[List.length_map,List.length_take,simpCells_length] at hrcl;refine sQ (SC.sR (lM I (lM I (lU (eN uT108 I) (lU (lS I I) (SL.nT ?_))))));refine iP I (fun hlt2=>?_) (fun hlt2=>?_)
  ·have hnl:n<all.length:=oM;have hnr:n<rs.length:=oM;have hb1:=hrs.based oM;have hR:=(hall.get (gE hnl) (gE hnr)).mono hle3;have hRl:=hR.len;have hx9:=has _ (gM hnl);have hget:=simpCells_get hnl;generalize hx:all[n]=x at *;generalize hr:rs[n]=r at *;obtain ⟨rp,rn,rc⟩:=r;dsimp only at hRl;subst hRl;have hxs:Ints g3 (.slice rp x.length rc) x:=hR;have hgr:rs[((n:Nat):Int).toNat]?=some ⟨rp,x.length,rc⟩:=by rw[← hr]; exact gE hnr
   refine kP (tN (sQ (bK (SC.sR (lM I (lU (aD I I oM) (lM I (lM I (lU (iA uT108 zT22 I I hb1 oM sL) (lK (eB (u:=.slice rp x.length rc) iT22 I (hrs.mono hle3).rd hgr I) (lU (eN uT22 I) (lU (sU I I oM) (lU (SU.build I (buildC54 _ _)) (SL.bx (aL zeroValue54) fun b15=>?_))))))))))))));refine SL.O2 (sK 0 zT54 I I I I I sB) ?_;refine SL.nT ?_;refine SC.cut (ι:=PH×Value) (fun i=>[(2,pp b2 0),(3,.slice q rs.length d),(13,pp b13 0),(14,vi n),(15,pp b15 0)]) (fun i=>i.1)
    (fun i=>rowA encSide 56 i.2 (simpSides all x x.length)::pt b15 (.cells #[vi ((n:Int)+1),vi ((x.length:Int) - 1),i.2] 54 (0,0))::rowA encCell 54 ov rcs::pt b13 (.cells #[ov] 29 (0,0))::pt b2 (.cells #[.slice none 0 0] 29 (0,0))::s)
    (fun i=>Le g3 i.1) ?_ ?_
   ·refine sQ (SC.nilRow 56 2 (rG (lA I (SL.nT (bK ?_)))));refine oP (ι:=PH×Value×Nat) (fun i=>[(2,pp b2 0),(3,.slice q rs.length d),(13,pp b13 0),(14,vi n),(15,pp b15 0),(16,vi i.2.2)]) (fun i=>i.1)
     (fun i=>rowA encSide 56 i.2.1 (simpSides all x i.2.2)::pt b15 (.cells #[vi ((n:Int)+1),vi ((x.length:Int) - 1),i.2.1] 54 (0,0))::rowA encCell 54 ov rcs::pt b13 (.cells #[ov] 29 (0,0))::pt b2 (.cells #[.slice none 0 0] 29 (0,0))::s)
     (fun i=>Le g3 i.1∧i.2.2≤x.length) (fun i=>x.length - i.2.2)
     (g3,.slice none 0 0,0) sB rfl rfl ⟨Le.refl g3,Nat.zero_le _⟩ ?_
    rintro ⟨g4,sv,j⟩ ⟨hle4,hj⟩;dsimp only at hle4 hj ⊢;have hssl:=simpSides_length all x j;have hsucc:=simpSides_succ all x j;have hxs4:Ints g4 (.slice rp x.length rc) x:=hxs.mono hle4;by_cases hjl:j<x.length
    ·have hjd:((j:Nat):Int)<((x.length:Nat):Int):=oM;by_cases hdim:((x.length:Int) - 1)>0
     ·have hel:(x.eraseIdx j).length=x.length - 1:=by rw[List.length_eraseIdx]; simp[hjl]
      have hside:sideAt all x j=[⟨lbL all (x.eraseIdx j)+1,signC j⟩]:=by unfold sideAt; rw[if_pos oM]
      have hlb:=lbL_le all (x.eraseIdx j);rw[hside] at hsucc;have hcap:=(SlA.cap hxs4).2;have hc1:=SlA.cut hxs4 (l:=0) (m:=j) oM oM;have hc2:=SlA.cut hxs4 (l:=j+1) (m:=x.length) oM oM;have he1:(x.drop 0).take (j - 0)=x.take j:=by simp
      have he2:(x.drop (j+1)).take (x.length - (j+1))=x.drop (j+1):=tL (by rw[List.length_drop]; omega);rw[he1] at hc1;rw[he2] at hc2;have her:[]++x.take j++x.drop (j+1)=x.eraseIdx j:=by rw[List.eraseIdx_eq_take_drop_succ]; simp
      have hcl1:([]++x.take j).length=j:=by simp; omega
      refine sQ (SC.sR (lM I (lM I (lM I (lU (iA uT108 zT22 I I hb1 oM sL) (lK (eB (u:=.slice rp x.length rc) iT22 I (hrs.mono (hle3.trans hle4)).rd hgr I) (lU (eN uT22 I) (lU (SU.eq (v':=vb true) (lS I I) (congrArg vb (decide_eq_true hjd))) (lM I (lY I I I (fA uT54 I zT3 I) (SL.gq (gT I I I dC) (qL (v:=vi ((x.length:Int) - 1)) iT3 I (cO 1 I I)) dC (lY I I I (SU.eq (v':=vb true) (gR I I) (congrArg vb (decide_eq_true hdim))) (lU (pT I I) (SL.nT (cT I (kP (tN (sQ (bK (sQ ?_))))))))))))))))))));refine dW [15] [(1,2),(2,2),(3,2),(4,1),(5,2),(6,2),(8,2),(9,2),(10,2),(11,1),(12,2),(13,2),(14,2),(0,0),(7,0),(15,0),(16,2)] Tryz.mixed (by kernel_rfl) ?_;refine pU I (mV I) (pU I (mV I) (pU I (iA uT108 zT22 I I hb1 oM sL) (pK I (eB (u:=.slice rp x.length rc) iT22 I (hrs.mono (hle3.trans hle4)).rd hgr I) (pU I (mV I) (pU I (SU.sliceH uT22 zT3 I I oM oM) (pU I (mV I) (pU I (mV I) (pU I (iA uT108 zT22 I I hb1 oM sL) (pK I (eB (u:=.slice rp x.length rc) iT22 I (hrs.mono (hle3.trans hle4)).rd hgr I) (pU I (mV I) (pU I (aD I I oM) (pU I (SU.eq (v':=sliced rp (j+1) x.length rc 1) (SU.sliceL uT22 zT3 I I oM oM) (by rw[show ((j:Int)+1).toNat=j+1 by omega])) ?_))))))))))));refine SP.o rfl (SO.buildSlice sty22 rfl rfl rfl (szs_mk trivial) dC) dC (.inr (by rintro _ _ _ ⟨b116,rfl,rfl,rfl⟩; exact⟨by exact Le.refl _,(by exact .cons _ (.refl _))⟩)) ?_;rintro _ _ _ ⟨b116,rfl,rfl,rfl⟩;refine SP.to (fun w hw=>hw.emptyRow 3 1 (some ⟨b116,0,none⟩)) ?_;refine SP.o rfl (aQ (e:=encInt) (l:=[]) 0 sty22 rfl rfl rfl hc1 (by rw[List.length_take]; (first | with_reducible rfl | ((try dsimp only); (try simp only[List.length_append,List.length_cons,List.length_nil,List.length_singleton,List.length_take,List.length_drop])<;>omega))) (by rw[List.length_take]; (first | with_reducible rfl | ((try dsimp only); (try simp only[List.length_append,List.length_cons,List.length_nil,List.length_singleton,List.length_take,List.length_drop])<;>omega)))) dC (.inr (by rintro v123 _ _ ⟨rfl,rfl⟩; exact⟨by exact Le.refl _,(by exact .cons _ (.cons _ (.refl _)))⟩)) ?_;rintro v123 _ _ ⟨rfl,rfl⟩;refine SP.o I (aQ (e:=encInt) 0 sty22 I I I hc2 (by rw[List.length_drop,hcl1]; omega) (by rw[List.length_drop,hcl1]; omega)) dC (.inl dC) ?_;rintro v131 _ _ ⟨rfl,rfl⟩;refine pU I (aS I) (pN (tN (sQ (fS fun g6 hle6 hs6=>?_))));have hrest:Ints g6 v131 (x.eraseIdx j):=(by rw[← her]; exact hs6);refine SC.drop (s':=rowA encSide 56 sv (simpSides all x j)::pt b15 (.cells #[vi ((n:Int)+1),vi ((x.length:Int) - 1),sv] 54 (0,0))::rowA encCell 54 ov rcs::pt b13 (.cells #[ov] 29 (0,0))::pt b2 (.cells #[.slice none 0 0] 29 (0,0))::s) (.cons _ (.refl _)) (rG (lM I (lM I (lW (SO.call call95 I (place_spec E g6 _ _ _ all (x.eraseIdx j) (hav.mono (hle3.trans (hle4.trans hle6))) hrest oM (fun y hy=>by have:=has y hy; omega) oM hstr.srt)) ?_))));rintro _ _ _ ⟨rfl,rfl,rfl⟩;refine lM I (lU (xT I I) (lU (xT I I) (lA I (lA I (SL.nT (rG (lU (fA uT54 I zT37 I) (lK (qL (v:=sv) iT37 I (cO 1 I I)) (lM I (lU (aD I I oM) (lM I (lU (SU.eq (v':=vi ((j:Int) % 2)) (SU.rem I I dC) (congrArg vi (tmod_two j))) (lU (SU.mul I I oM) (lU (SU.eq (v':=vi (signC j)) (sU I I oM) I) (lU (SU.build I (buildS56 _ _)) (lW (SO.buildSlice sty37 I I I (szs_mk sB) dC) ?_))))))))))))))));rintro _ _ _ ⟨b147,rfl,rfl,rfl⟩;refine lW (aP (e:=encSide) 0 ⟨lbL all (x.eraseIdx j)+1,signC j⟩ sty37 I I I I I oM oM) ?_;rintro v148 _ _ ⟨rfl,rfl⟩;rw[← hsucc];refine SL.facts fun ⟨w0,hw0⟩=>?_;obtain ⟨q148,d148,rfl⟩:=rowA_form (i:=0) hw0 rfl;clear hw0 w0;refine lU (fA uT54 rfl zT37 rfl) (SL.O2 (SO.store1 1 zT37 rfl rfl rfl rfl (bE rfl) (by rfl)) ?_);refine nL (bN (tN (rG (lM I (lU (aD I I oM) (lA I (nL ?_)))))));exact ST.again (g6,_,j+1) sB I I ⟨hle4.trans hle6,lN⟩ lN
     ·have hx1:x.length=1:=oM;have hj0:j=0:=oM;have hempty:simpSides all x x.length=simpSides all x j:=by
       rw[hx1,hj0];have h0:=simpSides_succ all x 0;have hs0:sideAt all x 0=[]:=by
        unfold sideAt;rw[if_neg];rw[List.length_eraseIdx];simp[hx1]
       rw[h0,hs0,List.append_nil]
      rw[← hempty];refine sQ (SC.sR (lM I (lM I (lM I (lU (iA uT108 zT22 I I hb1 oM sL) (lK (eB (u:=.slice rp x.length rc) iT22 I (hrs.mono (hle3.trans hle4)).rd hgr I) (lU (eN uT22 I) (lU (SU.eq (v':=vb true) (lS I I) (congrArg vb (decide_eq_true hjd))) (lM I (lY I I I (fA uT54 I zT3 I) (SL.gq (gT I I I dC) (qL (v:=vi ((x.length:Int) - 1)) iT3 I (cO 1 I I)) dC (lY I I I (SU.eq (v':=vb false) (gR I I) (congrArg vb (decide_eq_false hdim))) (lU (pT I I) (SL.nT (cF I (xI (tX (tX (bX ?_)))))))))))))))))));exact ST.mid (g4,sv) sB I I hle4
    ·have hjd:¬ ((j:Nat):Int)<((x.length:Nat):Int):=oM;have hjj:j=x.length:=oM;subst hjj;refine sQ (SC.sR (lM I (lM I (lM I (lU (iA uT108 zT22 I I hb1 oM sL) (lK (eB (u:=.slice rp x.length rc) iT22 I (hrs.mono (hle3.trans hle4)).rd hgr I) (lU (eN uT22 I) (lU (SU.eq (v':=vb false) (lS I I) (congrArg vb (decide_eq_false hjd))) (lM I (lZ I I I (lZ I I I (lZ I I I (lU (pF I I) (SL.nT (cF I (xI (tX (tX (bX ?_)))))))))))))))))));exact ST.mid (g4,sv) sB I I hle4
   ·rintro ⟨g4,sv⟩ hle4;dsimp only at hle4 ⊢;have hssl:=simpSides_length all x x.length;refine SC.sR (fR fun g5 hle5 hs5=>?_);have hsd:SlA encSide g5 sv (simpSides all x x.length):=hs5;refine lU (fA uT54 I zT37 I) (lK (qL (v:=sv) iT37 I (cO 0 I I)) (lW (SO.call call96 I (sides_spec E g5 _ _ (simpSides all x x.length) hsd oM)) ?_));rintro v152 g6 _ ⟨rfl,hle6,hs6⟩;obtain ⟨q6,d6,rfl⟩:=SlA.form hs6;obtain ⟨nc,hnc⟩:∃ nc:Rc,nc=⟨(n:Int)+1,(x.length:Int) - 1,⟨q6,(sortBy Side.cell (simpSides all x x.length)).length,d6⟩⟩:=⟨_,rfl⟩;refine lU (fA uT54 rfl zT37 rfl) (SL.O2 (SO.store1 0 zT37 rfl rfl rfl rfl (bE rfl) (by rfl)) ?_);refine SL.nT (rG (lU (fA uT29 I zT27 I) (lK (qL iT27 I (cO 2 I I)) (lK (qV 0 iT54 zT54 I I I) (lW (SO.buildSlice sty27 I I I (szs_mk sB) dC) ?_)))));rintro _ _ _ ⟨b157,rfl,rfl,rfl⟩;refine lW (aP (e:=encCell) 1 nc sty27 rfl rfl rfl rfl (by rw[hnc]; rfl) oM oM) ?_;rintro v158 _ _ ⟨rfl,rfl⟩;refine SL.facts fun ⟨w0,hw0⟩=>?_;obtain ⟨q158,d158,rfl⟩:=rowA_form (i:=1) hw0 rfl;clear hw0 w0;refine lU (fA uT29 I zT27 I) (SL.O2 (sK 2 zT27 I I I I I sB) ?_);refine nL (bN (tN (rG (lM I (lU (aD I I oM) (lA I (nL (dR (s':=rowA encCell 54 (.slice q158 (rcs++[nc]).length d158) (rcs++[nc])::pt b13 (.cells #[.slice q158 (rcs++[nc]).length d158] 29 (0,0))::pt b2 (.cells #[.slice none 0 0] 29 (0,0))::s) (.cons _ (.refl _)) ?_))))))));refine ST.again (g6,_,rcs++[nc],n+1) sB I I ⟨hle3.trans (hle4.trans (hle5.trans hle6)),lN,?_⟩ lN;dsimp only;rw[take_succ_of hget,List.map_append];exact (hrcs.mono fun _ _=>CellR.mono (hle4.trans (hle5.trans hle6))).append ⟨(by rw[hnc]; exact⟨I,I,hs6⟩),trivial⟩
  ·have hnn:n=rs.length:=oM;have htk:(simpCells all).take n=simpCells all:=tL (by rw[simpCells_length]; omega);rw[htk] at hrcs;refine xI (tX (tX (bX (tN (sQ (fS fun g4 hle4 hs4=>?_))))));have hov:Cells g4 ov (simpC ls):=(by simp only[simpC,hsome,canon_simp]; exact⟨rcs,hs4,hrcs.mono fun _ _=>CellR.mono hle4⟩);obtain ⟨q9,d9,rfl⟩:=hov.form;refine rG (lK (qV 0 iT29 zT29 I I I) (SL.O2 (sK 1 zT29 I I I I I sB) ?_));refine SL.nT (rE ?_);exact ST.retCD 1 s (.inl I) results58 I iT29 zT29 I I (.cons _ (.cons _ (.refl _))) ⟨I,hle.trans (hle3.trans hle4),_,I,hov⟩
set_option maxHeartbeats 2000000
theorem chk1_ne' {tl:List Cl}{L:List Cl}{last:Int}{p:Int×Int}(h:chk1 tl L last=some p):p.2≠0:=chk1_ne h
theorem refRight_facts {l:List Cl}(h:(refCheckC l).2=0):l.length≤4000∧(canonC l).Pairwise (fun a b=>a.id<b.id)∧tabC l=canonC l∧∀ x∈canonC l,formC (tabC l) x=0:=by
 unfold refCheckC at h;split at h
 ·exact absurd h dC
 ·rename_i hl;cases hc:chk1 (tabC l) (canonC l) 0 with
  | some p=>rw[hc] at h; exact absurd h (chk1_ne hc)
  | none =>
   have hst:=(chk1_strict hc).2;exact⟨oM,hst,tabC_strict hst,chk1_none hc⟩
theorem lbI_self:∀ {l:List Int} {k:Nat} (h:k<l.length),l.Pairwise (· < ·)→lbI l l[k]=k:=by
 intro l;induction l with
 | nil=>intro k h; simp at h
 | cons a r ih =>
  intro k h hs;obtain ⟨h1,h2⟩:=List.pairwise_cons.1 hs;cases k with
  | zero =>
   unfold lbI;rw[List.length_eq_zero_iff,List.filter_eq_nil_iff];intro y hy
   rcases List.mem_cons.1 hy with rfl | hy
   ·simp
   ·have:=h1 y hy; simp; omega
  | succ k =>
   have hk:k<r.length:=by simpa using h
   have hlt:=h1 r[k] (gM hk);have:=ih hk h2;unfold lbI at this ⊢;simp[hlt,this]
theorem at_found {tl:List Cl}(hs:(tl.map Cl.id).Pairwise (· ≤ ·)){id:Int}(h:(findT tl id).isSome=true):atC tl id=lbI (tl.map Cl.id) id:=by
 obtain ⟨c,hc⟩:=Option.isSome_iff_exists.1 h;have hm:(tl.map Cl.id).contains id=true:=by
  obtain ⟨h1,h2⟩:=findT_mem hc;simp;exact⟨c,h1,h2⟩
 unfold atC;rw[if_pos hm]
def refProdBad (a b:List Cl):Bool:=!decide ((refCheckC a).2=0) || !decide ((refCheckC b).2=0)||decide (((tabC a).length:Int) * (tabC b).length>4000)
def refProdC (a b:List Cl):List Cl:=if refProdBad a b then [] else if (refCheckC (prodAll a b)).2=0 then canonC (prodAll a b) else []
theorem flatMap_take_succ {α β:Type}{l:List α}{i:Nat}(h:i<l.length)(f:α→List β):(l.take (i+1)).flatMap f=(l.take i).flatMap f++f l[i]:=by
 rw[tS h,List.flatMap_append];simp
end Go.Proofs.YteahknngoogpaaaGreatDoor
namespace Go.Sy
open Go
section
variable {P:Program}{N:Nat}{E:World}{ops:Array Oper}{Q:Exit→Act→World→Prop}{g0:PH}{s0:Own}{tail:List Nat}{f:Fr}{g g':PH}{s s':Own}{L:Array Bool}{n:Nat}
theorem SX.to (h:∀ w,At E g s w→At E g' s' w)(hc:SX P N E ops Q g0 s0 tail L n f g' s'):SX P N E ops Q g0 s0 tail L n f g s:=fun a w h1 hcl ha hw hb=>hc a w h1 hcl ha (h w hw) hb
theorem SX.facts (h:(∃ w,At E g s w)→SX P N E ops Q g0 s0 tail L n f g s):SX P N E ops Q g0 s0 tail L n f g s:=fun a w h1 hcl ha hw hb=>h ⟨w,hw⟩ a w h1 hcl ha hw hb
theorem SX.freezeRow {T:TypeId}{k m:Nat}{v:Value}{xs:List Value}(h:∀ g',Le g g'→Sl g' k v m xs→SX P N E ops Q g0 s0 tail L n f g' s):SX P N E ops Q g0 s0 tail L n f g (row T k v m xs::s):=fun a w h1 hcl ha hw hb=>by
 obtain ⟨g',h3,h4,h5⟩:=hw.freezeRow;exact h g' h3 h5 a w h1 hcl ha h4 hb
end
end Go.Sy
namespace Go.Proofs.YteahknngoogpaaaGreatDoor
open _root_.Go.Proofs.Tryz _root_.Go.Proofs.YteahknngoogpaaaGreatDoor.Tryz
open Go Go.Sy Go.Pl Go.Proofs
set_option maxRecDepth 100000
def setsC (ls:List (List Int)):List (List Int):=(ls.take 5).map fun l=>(l.take 4).map fun x=>modW x 7
theorem map_take_succ {α β:Type}{l:List α}{i:Nat}(h:i<l.length)(f:α→β):(l.take (i+1)).map f=(l.take i).map f++[f l[i]]:=by
 rw[tS h,List.map_append]; rfl
def mixC (id k:Int):Int:=if k=1 then id else IntKind.i64.wrap ((IntKind.i64.wrap (id * k)).tmod 211+1)
theorem simpAll_facts:∀ (all ls:List (List Int)),all.length≤4000→(∀ x∈all,x.length≤9)→∀ r,simpAll all ls=some r→r.length≤4000∧∀ x∈r,x.length≤9
 | all,[],h1,h2,r,h=>by cases h; exact⟨h1,h2⟩
 | all,t::ls,h1,h2,r,h=>by
  unfold simpAll at h;split at h
  ·exact simpAll_facts all ls h1 h2 r h
  ·rename_i hb;split at h
   ·cases h
   ·rename_i hl;refine simpAll_facts _ ls oM (fun x hx=>?_) r h
    rcases addSets_mem hx with hx | hx
    ·exact h2 x hx
    ·refine subsetsC_short ?_ x hx;cases hT:setC t with
     | nil=>simp
     | cons a r =>
      rw[hT] at hb;simp only[badSet,Bool.or_eq_true,decide_eq_true_iff,not_or] at hb;omega
theorem simpC_fits (ls:List (List Int)):Fits (simpC ls)∧(simpC ls).length≤4000:=by
 unfold simpC;cases h:simpAll [] ls with
 | none=>exact⟨⟨by simp,by simp⟩,by simp⟩
 | some all =>
  obtain ⟨h1,h2⟩:=simpAll_facts [] ls (by simp) (by simp) all h;have h3:(canonC (simpCells all)).length≤4000:=by rw[canonC_length,simpCells_length]; exact h1
  exact⟨canonC_fits (simpCells_fits h1 h2),h3⟩
theorem refProdC_fits (a b:List Cl):Fits (refProdC a b)∧(refProdC a b).length≤4000:=by
 unfold refProdC;split
 ·exact⟨⟨by simp,by simp⟩,by simp⟩
 ·rename_i hbad;split
  ·have ha:(refCheckC a).2=0:=Decidable.of_not_not fun h=>hbad (by simp[refProdBad,h]);have hb:(refCheckC b).2=0:=Decidable.of_not_not fun h=>hbad (by simp[refProdBad,h]);have hsz:((tabC a).length:Int) * (tabC b).length≤4000:=by
    refine Decidable.of_not_not fun h=>hbad ?_;have:((tabC a).length:Int) * (tabC b).length>4000:=oM;simp[refProdBad,this]
   obtain ⟨_,_,hat,haf⟩:=refRight_facts ha;obtain ⟨_,_,hbt,hbf⟩:=refRight_facts hb;rw[← hat] at haf;rw[← hbt] at hbf;have hprod:prodAll a b=(tabC a).flatMap fun x=>(tabC b).map (prodCell (tabC a) (tabC b) x):=by unfold prodAll; rw[← hat,← hbt]
   have hpl:(prodAll a b).length≤4000:=by
    rw[hprod,flatMap_len];have h4:(((tabC a).length * (tabC b).length:Nat):Int)≤4000:=by rw[Int.natCast_mul]; exact hsz
    omega
   have hfit:Fits (prodAll a b):=by
    refine⟨oM,fun c hc=>?_⟩;rw[hprod] at hc;obtain ⟨x,hx,hc⟩:=List.mem_flatMap.1 hc;obtain ⟨y,hy,rfl⟩:=List.mem_map.1 hc;have h1:=(form_ok (haf x hx)).1;have h2:=(form_ok (hbf y hy)).1;simp[prodCell];omega
   exact⟨canonC_fits hfit,by rw[canonC_length]; exact hpl⟩
  ·exact⟨⟨by simp,by simp⟩,by simp⟩
def torusC:List Cl:=refProdC (simpC [[0,1],[1,2],[0,2]]) (simpC [[0,1],[1,2],[0,2]])
theorem sets_small (ls:List (List Int)):(setsC ls).length≤5∧∀ x∈setsC ls,x.length≤4:=by
 refine⟨by simp[setsC]; omega,fun x hx=>?_⟩;obtain ⟨l,_,rfl⟩:=List.mem_map.1 hx;simp;omega
def surf0:List (List Int):=[[0,1,2],[0,1,3],[0,2,3],[1,2,3]]
def surf1:List (List Int):=[[0,1,2],[0,2,3],[0,3,4],[0,4,5],[0,1,5],[1,2,4],[2,3,5],[1,3,4],[2,4,5],[1,3,5]]
def surf2 (k:Nat):List (List Int):=(List.range k).flatMap fun (i:Nat)=>[[(i:Int),((i:Int)+1).tmod 7,((i:Int)+3).tmod 7],[(i:Int),((i:Int)+2).tmod 7,((i:Int)+3).tmod 7]]
def surfC (n:Int):List (List Int):=if modW n 3=0 then surf0 else if modW n 3=1 then surf1 else surf2 7
theorem surf2_succ (k:Nat):surf2 (k+1)=surf2 k++[[(k:Int),((k:Int)+1).tmod 7,((k:Int)+3).tmod 7],[(k:Int),((k:Int)+2).tmod 7,((k:Int)+3).tmod 7]]:=by
 simp[surf2,List.range_succ,List.flatMap_append]
theorem surf2_length (k:Nat):(surf2 k).length=2 * k:=by
 induction k with
 | zero=>rfl
 | succ k ih=>rw[surf2_succ,List.length_append,ih]; simp; omega
set_option maxHeartbeats 1000000
def polyV (k:Nat):List Cl:=(List.range k).map fun (i:Nat)=>⟨(i:Int)+1,0,[]⟩
def polyE (n k:Nat):List Cl:=(List.range k).map fun (i:Nat)=>⟨(n:Int)+i+1,1,[⟨(i:Int)+1,-1⟩,⟨((i:Int)+1).tmod n+1,1⟩]⟩
def polyS (n k:Nat):List Side:=(List.range k).map fun (i:Nat)=>⟨(n:Int)+i+1,1⟩
def polyAll (n:Nat):List Cl:=polyV n++polyE n n++[⟨2 * (n:Int)+1,2,polyS n n⟩]++(if (n:Int).tmod 2=0 then [⟨2 * (n:Int)+2,2,polyS n n⟩] else [])
def polyC (n:Nat):List Cl:=canonC (polyAll n)
theorem polyV_succ (k:Nat):polyV (k+1)=polyV k++[⟨(k:Int)+1,0,[]⟩]:=by simp[polyV,List.range_succ]
theorem polyE_succ (n k:Nat):polyE n (k+1)=polyE n k++[⟨(n:Int)+k+1,1,[⟨(k:Int)+1,-1⟩,⟨((k:Int)+1).tmod n+1,1⟩]⟩]:=by simp[polyE,List.range_succ]
theorem polyS_succ (n k:Nat):polyS n (k+1)=polyS n k++[⟨(n:Int)+k+1,1⟩]:=by simp[polyS,List.range_succ]
theorem polyS_length (n k:Nat):(polyS n k).length=k:=by simp[polyS]
theorem polyAll_fits {n:Nat}(h:n≤6):Fits (polyAll n)∧(polyAll n).length≤14:=by
 have hl:(polyAll n).length≤14:=by
  unfold polyAll;split <;> simp[polyV,polyE] <;> omega
 refine⟨⟨oM,fun c hc=>?_⟩,hl⟩;unfold polyAll at hc
 rcases List.mem_append.1 hc with hc | hc
 ·rcases List.mem_append.1 hc with hc | hc
  ·rcases List.mem_append.1 hc with hc | hc
   ·obtain ⟨i,_,rfl⟩:=List.mem_map.1 hc;simp
   ·obtain ⟨i,_,rfl⟩:=List.mem_map.1 hc;simp
  ·simp at hc;subst hc;simp[polyS_length];omega
 ·split at hc
  ·simp at hc;subst hc;simp[polyS_length];omega
  ·simp at hc
theorem Tryz.buildD54 (x:Int)(w:World):(Instr.build 54 #[(0,vi x)]).run Tryz.prog w = .ok (.agg #[vi x,vi 0,.slice none 0 0]) w:=by
 have hz:(Value.agg #[vi 0,vi 0,Value.slice none 0 0]).cells = #[vi 0,vi 0,.slice none 0 0]:=rfl;have h1:∀ z:Int,(vi z).cells = #[vi z]:=fun _=>rfl;simp[Instr.build,Instr.fill,hz,h1]
theorem modW_range (a b:Int)(h0:0<b)(h1:b≤1000):0≤modW a b∧modW a b<b:=by
 have h2:a.tmod b<b:=Int.tmod_lt_of_pos a h0;have h3 : -b<a.tmod b:=by
  have:=Int.lt_tmod_of_pos a h0;omega
 unfold modW;rw[IntWalk.i64_in _ oM,Int.tmod_eq_emod_of_nonneg oM];exact⟨Int.emod_nonneg _ oM,Int.emod_lt_of_pos _ h0⟩
def renK (y:Int):Int:=1+2 * modW (IntKind.i64.wrap (y.tdiv 7)) 3
def renT (y:Int):Int:=modW (IntKind.i64.wrap (y.tdiv 5)) 4
def turn1 (t:Int)(x:Cl):Bool:=decide (t>1)&&decide (x.id.tmod t=1)
def turn2 (t:Int)(x:Cl)(q:Int):Bool:=(decide (t>1)&&decide (x.dim>1))&&decide (q.tmod t=1)
def negIf (b:Bool)(a:Int):Int:=if b then IntKind.i64.wrap (0 - a) else a
def renSide (k t:Int)(x:Cl)(q:Side):Side:=⟨mixC q.cell k,negIf (turn2 t x q.cell) (negIf (turn1 t x) q.sign)⟩
def renCell (k t:Int)(x:Cl):Cl:=⟨mixC x.id k,x.dim,x.sides.map (renSide k t x)⟩
def renC (l:List Cl)(y:Int):List Cl:=canonC (l.map (renCell (renK y) (renT y)))
theorem ren_fits {l:List Cl}(h:Fits l)(k t:Int):Fits (l.map (renCell k t)):=by
 refine⟨by simpa using h.1,fun c hc=>?_⟩;obtain ⟨x,hx,rfl⟩:=List.mem_map.1 hc;simpa [renCell] using h.2 x hx
def three (j:Int):List (List Int):=if j=0 then [[0,1]] else if j=1 then [[0,1],[1,2]] else [[0,1],[1,2],[0,2]]
def sel3 (j:Int)(a b c:Value):Value:=if j=0 then a else if j=1 then b else c
theorem sel3_get {j:Int}(h:0≤j∧j<3)(a b c:Value) : #[a,b,c][0+j.toNat * 1]?=some (sel3 j a b c):=by
 rcases (by omega:j=0∨j=1∨j=2) with rfl | rfl | rfl <;> rfl
theorem three_lists {g:PH}{j:Int}(h:0≤j∧j<3){a b c:Value}(ha:Lists g a [[0,1]])(hb:Lists g b [[0,1],[1,2]])(hc:Lists g c [[0,1],[1,2],[0,2]]):Lists g (sel3 j a b c) (three j):=by
 rcases (by omega:j=0∨j=1∨j=2) with rfl | rfl | rfl
 ·exact ha
 ·exact hb
 ·exact hc
theorem three_small (j:Int):(three j).length≤3∧∀ x∈three j,x.length≤2:=by
 unfold three;split
 ·exact⟨by decide,by decide⟩
 ·split
  ·exact⟨by decide,by decide⟩
  ·exact⟨by decide,by decide⟩
theorem surf_small (y:Int):4≤(surfC y).length∧(surfC y).length≤14∧∀ x∈surfC y,x.length≤3:=by
 unfold surfC;split
 ·exact⟨by decide,by decide,by decide⟩
 ·split
  ·exact⟨by decide,by decide,by decide⟩
  ·refine⟨by rw[surf2_length]; decide,by rw[surf2_length]; decide,fun x hx=>?_⟩;obtain ⟨i,_,hx⟩:=List.mem_flatMap.1 hx;simp at hx
   rcases hx with rfl | rfl <;> simp
def baseM (m:Int)(ls:List (List Int))(y:Int):List Cl :=
 if m=3 then simpC (surfC y) else if m=4 then refProdC (simpC (three (modW y 3))) (simpC (three (modW (IntKind.i64.wrap (y.tdiv 3)) 3)))
 else if m=5 then polyC (2+modW y 5).toNat else if m=6 then refProdC (refProdC (simpC [[0,1]]) (simpC [[0,1]])) (simpC [[0,1]])
 else if m=7 then simpC (setsC ls++(surfC y).take (2+modW y 2).toNat) else simpC (setsC ls)
theorem baseM_fits (m:Int)(ls:List (List Int))(y:Int):Fits (baseM m ls y):=by
 unfold baseM;have h5:=modW_range y 5 dC dC
 repeat' split
 ·exact (simpC_fits _).1
 ·exact (refProdC_fits _ _).1
 ·exact canonC_fits (polyAll_fits oM).1
 ·exact (refProdC_fits _ _).1
 ·exact (simpC_fits _).1
 ·exact (simpC_fits _).1
def bigC (b:List Cl):List Cl:=if (b.length:Int)>45 then torusC else b
def madeC (kd:Int)(ls:List (List Int))(y:Int):List Cl:=renC (bigC (baseM (modW kd 8) ls y)) y
theorem bigC_fits {b:List Cl}(h:Fits b):Fits (bigC b):=by
 unfold bigC;split
 ·exact (refProdC_fits _ _).1
 ·exact h
theorem madeC_fits (kd:Int)(ls:List (List Int))(y:Int):Fits (madeC kd ls y):=canonC_fits (ren_fits (bigC_fits (baseM_fits _ _ _)) _ _)
theorem modW_rangeL (a b:Int)(h0:0<b)(h1:b≤1099511627776):0≤modW a b∧modW a b<b:=by
 have h2:a.tmod b<b:=Int.tmod_lt_of_pos a h0;have h3 : -b<a.tmod b:=by
  have:=Int.lt_tmod_of_pos a h0;omega
 unfold modW;rw[IntWalk.i64_in _ oM,Int.tmod_eq_emod_of_nonneg oM];exact⟨Int.emod_nonneg _ oM,Int.emod_lt_of_pos _ h0⟩
theorem modW_nat (a:Int)(n:Nat)(h0:0<n)(h1:n≤1099511627776):modW a n=(((modW a n).toNat:Nat):Int)∧(modW a n).toNat<n:=by
 have:=modW_rangeL a n oM oM;omega
def dflC:Cl:=⟨0,0,[]⟩
def dflS:Side:=⟨0,0⟩
def negS (z:Side):Side:=⟨z.cell,IntKind.i64.wrap (0 - z.sign)⟩
def withS (x:Cl)(ss:List Side):Cl:=⟨x.id,x.dim,ss⟩
def pickC (l:List Cl)(n:Int):Cl:=l.getD (modW n l.length).toNat dflC
def spoilM (m:Int)(l:List Cl)(k:Nat)(x:Cl)(n:Int)(j:Nat):List Cl :=
 if m=0 then l.set k ⟨modW n 9 - 1,x.dim,x.sides⟩
 else if m=1 then l.set k ⟨x.id,modW n 12 - 1,x.sides⟩
 else if m=2 then l.eraseIdx k
 else if m=3 then l.set k (withS x (x.sides.set j ⟨(x.sides.getD j dflS).cell,modW n 4 - 2⟩))
 else if m=4 then l.set k (withS x (x.sides.set j (negS (x.sides.getD j dflS))))
 else if m=5 then l.set k (withS x (x.sides.set j ⟨(pickC l (IntKind.i64.wrap (n.tdiv 3))).id,(x.sides.getD j dflS).sign⟩))
 else if m=6 then l.set k (withS x (x.sides.eraseIdx j))
 else if m=7 then l.set k (withS x (x.sides++[⟨(pickC l n).id,1 - 2 * modW n 2⟩]))
 else if m=8 then l++[x]
 else if m=9 then l.set k (withS x (x.sides++(pickC l n).sides))
 else if m=10 then l.set k (withS x (x.sides.map negS))
 else if m=11 then l++[⟨500+modW n 3,modW n 4,x.sides⟩]
 else l
def sideJ (x:Cl)(n:Int):Nat:=if 0<x.sides.length then (modW n x.sides.length).toNat else 0
def spoilC (l:List Cl)(q0 q1 q2:Int):List Cl :=
 if l.length=0 then [⟨q1,0,[]⟩] else spoilM (modW q0 13) l (modW q1 l.length).toNat (pickC l q1) q2 (sideJ (pickC l q1) q2)
def Small (l:List Cl):Prop:=l.length≤5000∧∀ c∈l,c.sides.length≤1000000
theorem Small.fits {l:List Cl}(h:Small l):Fits l:=⟨by have:=h.1; omega,fun c hc=>by have:=h.2 c hc; omega⟩
theorem canonC_small {l:List Cl}(h:Small l):Small (canonC l):=by
 refine⟨by simp[canonC,sortBy_length]; exact h.1,fun c hc=>?_⟩;simp only[canonC,List.mem_map] at hc;obtain ⟨c0,h0,rfl⟩:=hc;simp only[normC,sortBy_length];exact h.2 c0 ((sortBy_mem l c0).1 h0)
theorem simpC_small (ls:List (List Int)):Small (simpC ls):=by
 unfold simpC;cases h:simpAll [] ls with
 | none=>exact⟨by simp,by simp⟩
 | some all =>
  obtain ⟨h1,h2⟩:=simpAll_facts [] ls (by simp) (by simp) all h;refine canonC_small ⟨by rw[simpCells_length]; omega,fun c hc=>?_⟩;obtain ⟨p,hp,rfl⟩:=List.mem_map.1 hc;have h3:p.1∈all:=by
   have:=List.mem_map_of_mem (f:=Prod.fst) hp;simpa using this
  have h4:=h2 _ h3;have h5:=simpSides_length all p.1 p.1.length;simp only[simpCell];omega
theorem refProdC_small (a b:List Cl):Small (refProdC a b):=by
 refine⟨by have:=(refProdC_fits a b).2; omega,?_⟩;unfold refProdC;split
 ·simp
 ·rename_i hbad;split
  ·have ha:(refCheckC a).2=0:=Decidable.of_not_not fun h=>hbad (by simp[refProdBad,h]);have hb:(refCheckC b).2=0:=Decidable.of_not_not fun h=>hbad (by simp[refProdBad,h]);obtain ⟨_,_,hat,haf⟩:=refRight_facts ha;obtain ⟨_,_,hbt,hbf⟩:=refRight_facts hb;rw[← hat] at haf;rw[← hbt] at hbf;have hprod:prodAll a b=(tabC a).flatMap fun x=>(tabC b).map (prodCell (tabC a) (tabC b) x):=by unfold prodAll; rw[← hat,← hbt]
   intro c hc;simp only[canonC,List.mem_map] at hc;obtain ⟨c0,h0,rfl⟩:=hc;simp only[normC,sortBy_length];have hc:=(sortBy_mem _ c0).1 h0;rw[hprod] at hc;obtain ⟨x,hx,hc⟩:=List.mem_flatMap.1 hc;obtain ⟨y,hy,rfl⟩:=List.mem_map.1 hc;have h1:=(form_ok (haf x hx)).1;have h2:=(form_ok (hbf y hy)).1;simp[prodCell];omega
  ·simp
theorem polyC_small {n:Nat}(h:n≤6):Small (polyC n):=by
 refine canonC_small ⟨by have:=(polyAll_fits h).2; omega,fun c hc=>?_⟩;unfold polyAll at hc
 rcases List.mem_append.1 hc with hc | hc
 ·rcases List.mem_append.1 hc with hc | hc
  ·rcases List.mem_append.1 hc with hc | hc
   ·obtain ⟨i,_,rfl⟩:=List.mem_map.1 hc;simp
   ·obtain ⟨i,_,rfl⟩:=List.mem_map.1 hc;simp
  ·simp at hc;subst hc;simp[polyS_length];omega
 ·split at hc
  ·simp at hc;subst hc;simp[polyS_length];omega
  ·simp at hc
theorem baseM_small (m:Int)(ls:List (List Int))(y:Int):Small (baseM m ls y):=by
 unfold baseM;have h5:=modW_range y 5 dC dC
 repeat' split
 ·exact simpC_small _
 ·exact refProdC_small _ _
 ·exact polyC_small oM
 ·exact refProdC_small _ _
 ·exact simpC_small _
 ·exact simpC_small _
theorem madeC_small (kd:Int)(ls:List (List Int))(y:Int):Small (madeC kd ls y):=by
 have hb:Small (bigC (baseM (modW kd 8) ls y)):=by
  unfold bigC;split
  ·exact refProdC_small _ _
  ·exact baseM_small _ _ _
 refine canonC_small ⟨by rw[List.length_map]; exact hb.1,fun c hc=>?_⟩;obtain ⟨x,hx,rfl⟩:=List.mem_map.1 hc;simpa [renCell] using hb.2 x hx
theorem pickC_sides {l:List Cl}(h:Small l)(n:Int):(pickC l n).sides.length≤1000000:=by
 unfold pickC;rw[List.getD_eq_getElem?_getD];cases hc:l[(modW n l.length).toNat]? with
 | none=>simp[dflC]
 | some c=>exact h.2 c (List.mem_of_getElem? hc)
def Mids (l:List Cl):Prop:=l.length≤5001∧∀ c∈l,c.sides.length≤3000000
theorem Mids.fits {l:List Cl}(h:Mids l):Fits l:=⟨by have:=h.1; omega,fun c hc=>by have:=h.2 c hc; omega⟩
theorem set_fits {l:List Cl}(h:Small l)(k:Nat){c:Cl}(hc:c.sides.length≤3000000):Mids (l.set k c):=by
 refine⟨by rw[List.length_set]; have:=h.1; omega,fun d hd=>?_⟩
 rcases List.mem_or_eq_of_mem_set hd with hd | rfl
 ·have:=h.2 d hd; omega
 ·omega
theorem snoc_fits {l:List Cl}(h:Small l){c:Cl}(hc:c.sides.length≤3000000):Mids (l++[c]):=by
 refine⟨by rw[List.length_append,List.length_singleton]; have:=h.1; omega,fun d hd=>?_⟩
 rcases List.mem_append.1 hd with hd | hd
 ·have:=h.2 d hd; omega
 ·simp at hd; subst hd; omega
theorem fits_ite {p:Prop}[Decidable p]{a b:List Cl}(ha:Mids a)(hb:Mids b):Mids (if p then a else b):=by split <;> assumption
theorem spoilC_mids {l:List Cl}(h:Small l)(q0 q1 q2:Int):Mids (spoilC l q0 q1 q2):=by
 unfold spoilC;split
 ·exact⟨by simp,by simp⟩
 ·have hx:=pickC_sides h q1;have hy:=pickC_sides h q2;generalize pickC l q1=x at *;generalize modW q0 13=m;unfold spoilM
  repeat' with_reducible refine fits_ite ?_ ?_
  ·exact set_fits h _ (c:=⟨_,_,x.sides⟩) (by show x.sides.length≤_; omega)
  ·exact set_fits h _ (c:=⟨_,_,x.sides⟩) (by show x.sides.length≤_; omega)
  ·exact⟨by have:=List.length_eraseIdx_le l (modW q1 l.length).toNat; have:=h.1; omega,fun c hc=>by have:=h.2 c (List.mem_of_mem_eraseIdx hc); omega⟩
  ·exact set_fits h _ (by simp only[withS,List.length_set]; omega)
  ·exact set_fits h _ (by simp only[withS,List.length_set]; omega)
  ·exact set_fits h _ (by simp only[withS,List.length_set]; omega)
  ·exact set_fits h _ (by simp only[withS]; have:=List.length_eraseIdx_le x.sides (sideJ x q2); omega)
  ·exact set_fits h _ (by simp only[withS,List.length_append,List.length_singleton]; omega)
  ·exact snoc_fits h (c:=x) oM
  ·exact set_fits h _ (by simp only[withS,List.length_append]; omega)
  ·exact set_fits h _ (by simp only[withS,List.length_map]; omega)
  ·exact snoc_fits h (c:=⟨_,_,x.sides⟩) (by show x.sides.length≤_; omega)
  ·exact⟨by have:=h.1; omega,fun c hc=>by have:=h.2 c hc; omega⟩
theorem spoilC_fits {l:List Cl}(h:Small l)(q0 q1 q2:Int):Fits (spoilC l q0 q1 q2):=(spoilC_mids h q0 q1 q2).fits
open Go.ChangeShapes Go.WideShapes Go.ChangeAt Go.RowKit
set_option maxRecDepth 100000
def held (W:World):PH:=fun b=>W.heap[b]?
def E0 (W:World):World:={ W with drawn:=0 }
theorem at_start (W:World):At (E0 W) (held W) [] W:=⟨rfl,⟨rfl,Nat.zero_le _⟩,rfl,fun _ _ h=>h,by simp,by simp,List.Pairwise.nil⟩
theorem at_below {W W':World}{g:PH}{s:Own}(h:At (E0 W) g s W')(hl:Le (held W) g):Below W.heap.size W W':=by
 have hb:∀ k,k<W.heap.size→W'.heap[k]?=W.heap[k]?:=fun k hk=>by
  have h1:W.heap[k]?=some W.heap[k]:=Array.getElem?_eq_getElem hk;rw[h1];exact h.known k _ (hl k _ h1)
 refine⟨h.os,h.tape.1,h.output,?_,hb⟩;refine Decidable.of_not_not fun hc=>?_;have h1:=hb W'.heap.size oM;rw[Array.getElem?_eq_none (lR _),Array.getElem?_eq_getElem oM] at h1;cases h1
theorem row_sl {W:World}{a:Addr}{len cap:Nat}{xs:List Value}(hl:len≤cap)(hx:xs.length=len)(hc:∀ i x,xs[i]?=some x→W.cell? (a.add i)=some x):Sl (held W) 1 (.slice (some a) len cap) len xs:=by
 refine⟨some a,cap,I,⟨oM,hl⟩,fun hne=>?_⟩;obtain ⟨b,o,sp⟩:=a;have h0:0<xs.length:=List.length_pos_iff.2 hne;have hc0:=hc 0 xs[0] (gE h0);have hsp:sp=none:=by simpa [Addr.add] using World.cell?_spot hc0
 subst hsp;have hadd:∀ i,(⟨b,o,none⟩:Addr).add i=⟨b,o+i,none⟩:=fun i=>by unfold Addr.add; split <;> simp_all
 simp only[hadd] at hc;have hcell:∀ i x,xs[i]?=some x→∃ cs T fr,W.heap[b]?=some (.cells cs T fr)∧cs[o+i]?=some x:=fun i x hi=>by
  have h1:=hc i x hi;unfold World.cell? at h1;split at h1
  ·rename_i cs T fr hh;exact⟨cs,T,fr,hh,by simpa using h1⟩
  ·cases h1
 obtain ⟨cs,T,fr,hb,_⟩:=hcell 0 xs[0] (gE h0);refine⟨b,o,cs,T,fr,I,hb,fun j x hj=>?_⟩;obtain ⟨cs',T',fr',hb',h2⟩:=hcell j x hj;rw[hb] at hb';cases hb';exact h2
section
variable {H:Type}{enc:TypeId×Value→H}{W:World}{base:Nat}{spare:Nat→Bool}{hd:Bool}
theorem Tryz.cells3:Tryz.prog.cellsOf 3=1:=by kernel_rfl
theorem Tryz.cells22:Tryz.prog.cellsOf 22=1:=by kernel_rfl
theorem Tryz.cells41:Tryz.prog.cellsOf 41=3:=by kernel_rfl
theorem ints_of {fuel:Nat}{v:Value}{x:DataW H×List MemPlace}(h:DataW.trod enc Tryz.prog W base spare hd fuel 22 [v]=some x):∃ (l:List Int) (r:Sv),v = .slice r.p r.n r.c∧Ints (held W) v l:=by
 rcases open_ints uT22 uT3 cells3 h with ⟨hcs,_⟩ | ⟨a,len,cap,zs,hcs,_,hl,_,hz,_,hcell,_⟩
 ·simp at hcs;subst hcs;exact⟨[],⟨none,0,0⟩,I,Sl.nil _ _⟩
 ·simp at hcs;subst hcs;have hlz:len≤zs.length:=by rw[hz]; split <;> omega
  have hlen:(zs.take len).length=len:=by rw[List.length_take]; omega
  have he:(zs.take len).flatMap encInt.enc=(zs.take len).map vi:=by
   rw[List.flatMap_def];induction zs.take len with
   | nil=>rfl
   | cons y t ih=>simp[encInt] at ih ⊢; exact ih
  refine⟨zs.take len,⟨some a,len,cap⟩,I,?_⟩;show Sl (held W) 1 _ (zs.take len).length ((zs.take len).flatMap encInt.enc);rw[he,hlen];refine row_sl hl (by rw[List.length_map,hlen]) fun i y hi=>?_;rw[List.getElem?_map] at hi;cases hc:(zs.take len)[i]? with
  | none=>rw[hc] at hi; cases hi
  | some z =>
   rw[hc] at hi;cases hi;have hil:i<(zs.take len).length:=(List.getElem?_eq_some_iff.1 hc).1;have hi2:i<zs.length:=oM;rw[hcell i hi2];have:zs.getD i 0=z:=by
    rw[List.getElem?_take] at hc;split at hc
    ·rw[List.getD_eq_getElem?_getD,hc]; rfl
    ·cases hc
   rw[this]
theorem all2_map {α β γ:Type}{R:α→β→Prop}{f:γ→α}{k:γ→β}:∀ {l:List γ},(∀ i∈l,R (f i) (k i))→All2 R (l.map f) (l.map k)
 | [],_=>trivial
 | x::l,h=>⟨h x (by simp),all2_map fun i hi=>h i (by simp[hi])⟩
instance:Inhabited (List Int×Sv):=⟨([],⟨none,0,0⟩)⟩
theorem lists_of {fuel:Nat}{v:Value}{x:DataW H×List MemPlace}(h:DataW.trod enc Tryz.prog W base spare hd fuel 108 [v]=some x):∃ ls,Lists (held W) v ls:=by
 rcases Go.Deep.open_slice1 uT108 cells22 h with ⟨hcs,_⟩ | ⟨a,len,cap,m,n,V,D,Pl,hcs,_,hl,_,hmm,_,hx⟩
 ·simp at hcs;subst hcs;exact⟨[],[],Sl.nil _ _,trivial⟩
 ·simp at hcs;subst hcs;have hlm:len≤m:=by rw[hmm]; split <;> omega
  obtain ⟨f,hf⟩:=Go.Deep.choose_lt (α:=List Int×Sv) (n:=len) (p:=fun i y=>V i = .slice y.2.p y.2.n y.2.c∧Ints (held W) (V i) y.1) fun i hi=>by
   obtain ⟨l,r,h1,h2⟩:=ints_of (hx i oM).2;exact⟨(l,r),h1,h2⟩
  refine⟨(List.range len).map fun i=>(f i).1,(List.range len).map fun i=>(f i).2,?_,all2_map fun i hi=>?_⟩
  ·show Sl (held W) 1 _ ((List.range len).map fun i=>(f i).2).length (((List.range len).map fun i=>(f i).2).flatMap encSv.enc);have he:((List.range len).map fun i=>(f i).2).flatMap encSv.enc=(List.range len).map fun i=>V i:=by
    have:∀ l:List Nat,(∀ i∈l,i<len)→(l.map fun i=>(f i).2).flatMap encSv.enc=l.map fun i=>V i:=by
     intro l;induction l with
     | nil=>intro _; rfl
     | cons y t ih =>
      intro hy;rw[List.map_cons,List.flatMap_cons,ih fun i hi=>hy i (by simp[hi]),List.map_cons,(hf y (hy y (by simp))).1];rfl
    exact this _ fun i hi=>List.mem_range.1 hi
   rw[he,List.length_map,List.length_range];refine row_sl hl (by simp) fun i y hi=>?_;rw[List.getElem?_map] at hi;cases hc:(List.range len)[i]? with
   | none=>rw[hc] at hi; cases hi
   | some z =>
    rw[hc] at hi;cases hi;obtain ⟨h1,h2⟩:=List.getElem?_eq_some_iff.1 hc;simp at h1 h2;subst h2;exact (hx i oM).1
  ·have:=hf i (List.mem_range.1 hi);unfold ListR;rw[← this.1];exact this.2
theorem okWide_array {r:Reach}{b0:Nat}{P:Program}{w:World}{t e:TypeId}{n:Nat}{v:Value}(ht:P.underlying t=some (.array n e))(h:Value.okWide P w r b0 t v):∃ cs,v = .agg cs∧cs.size=P.cellsOf t:=by
 simp only[Value.okWide,ht] at h;obtain ⟨cs,h1,h2,_⟩:=h;exact⟨cs,h1,h2⟩
theorem three_of {r:Reach}{b0:Nat}{v:Value}{d:DataW H}{p:List MemPlace}(hv:Value.okWide Tryz.prog W r b0 41 v)(h:DataW.Trod enc Tryz.prog W base spare hd 41 v d p):∃ a b c:Int,v = .agg #[vi a,vi b,vi c]:=by
 obtain ⟨cs,rfl,hsz⟩:=okWide_array underlying41 hv;rw[cells41] at hsz;obtain ⟨l⟩:=cs
 match l,hsz with
 | [c0,c1,c2],_ =>
  obtain ⟨fuel,hf⟩:=h;obtain ⟨y0,y1,y2,n,_,h0,h1,h2⟩:=trod_array3 underlying41 cells3 (by simpa [Value.cells] using hf);obtain ⟨a,e0,_,_⟩:=DataW.trod_int uT3 h0;obtain ⟨b,e1,_,_⟩:=DataW.trod_int uT3 h1;obtain ⟨c,e2,_,_⟩:=DataW.trod_int uT3 h2;simp at e0 e1 e2;subst e0;subst e1;subst e2;exact⟨a,b,c,I⟩
end
theorem find_self {A:List Cl}(h:(A.map Cl.id).Nodup){x:Cl}(hx:x∈A):findT A x.id=some x:=by
 induction A with
 | nil=>simp at hx
 | cons c t ih =>
  simp only[List.map_cons,List.nodup_cons] at h;unfold findT
  rcases List.mem_cons.1 hx with rfl | hx
  ·simp
  ·have hne:¬ c.id=x.id:=fun e=>h.1 (by rw[e]; exact List.mem_map.2 ⟨x,hx,rfl⟩);rw[List.find?_cons];simp only[hne,decide_false];exact ih h.2 hx
end Go.Proofs.YteahknngoogpaaaGreatDoor
