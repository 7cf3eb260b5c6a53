/- Set2 Set3 Prr SyQ Mad1 Mad2 Mad3 Mad4 Mad5 Frm FndS SyR Mee1 Mee3 Rgt1 Rgt2 -/
import Derived.Test.YteahknngoogpaaaGreatDoorRr06
import Derived.Test.YteahknngoogpaaaGreatDoorRr03
import Derived.Test.YteahknngoogpaaaGreatDoorRr05
import Derived.Test.YteahknngoogpaaaGreatDoorRows
import Derived.WalkKit
import Derived.ProofKit
import Derived.OpenShut
import Derived.ShutString
import Derived.ChangeOld
import Derived.Below
import Derived.Deep.Slices
import Derived.Lib.SmallJoins
import Derived.Laws.IdiomArrays
import Derived.Test.YteahknngoogpaaaGreatDoorRr04
set_option linter.unusedSimpArgs false
set_option linter.unusedVariables false
namespace Go.Proofs.YteahknngoogpaaaGreatDoor
open _root_.Go.Proofs.Tryz _root_.Go.Proofs.YteahknngoogpaaaGreatDoor.Tryz
open Go Go.Sy Go.Pl Go.Proofs
set_option maxRecDepth 100000
theorem ins_strict {out:List Int}{x:Int}{k:Nat}(hs:StrictI out)(h1:∀ y∈out.take k,y<x)(h2:∀ y∈out.drop k,x<y):StrictI (out.take k++x::out.drop k):=by
 have hs':StrictI (out.take k++out.drop k):=by rw[List.take_append_drop]; exact hs
 have h3:=List.pairwise_append.1 hs';refine List.pairwise_append.2 ⟨h3.1,List.pairwise_cons.2 ⟨h2,h3.2.1⟩,fun y hy z hz=>?_⟩
 rcases List.mem_cons.1 hz with rfl | hz
 ·exact h1 y hy
 ·exact h3.2.2 y hy z hz
theorem mem_ins {α:Type}{out:List α}{x y:α}{k:Nat}:y∈out.take k++x::out.drop k↔y=x∨y∈out:=by
 rw[List.mem_append,List.mem_cons];constructor
 ·rintro (h | h | h)
  ·exact .inr (List.mem_of_mem_take h)
  ·exact .inl h
  ·exact .inr (List.mem_of_mem_drop h)
 ·rintro (h | h)
  ·exact .inr (.inl h)
  ·rw[← List.take_append_drop k out] at h
   rcases List.mem_append.1 h with h | h
   ·exact .inl h
   ·exact .inr (.inr h)
theorem strict_drop {out:List Int}{c:Int}{k:Nat}(hs:StrictI out)(hk:k<out.length)(h:c≤out[k]):∀ y∈out.drop k,c≤y:=by
 rw[List.drop_eq_getElem_cons hk];intro y hy;have h1:StrictI (out.drop k):=List.Pairwise.sublist (List.drop_sublist k out) hs;rw[List.drop_eq_getElem_cons hk] at h1
 rcases List.mem_cons.1 hy with rfl | hy
 ·exact h
 ·have:=(List.pairwise_cons.1 h1).1 y hy;omega
theorem set_spec (E:World)(g:PH)(s:Own)(v:Value)(l:List Int)(hv:Ints g v l)(hl:l.length<17592186044416) :
  Ctr Tryz.prog E 94 #[v] g s (fun r g' s'=>s=s'∧Le g g'∧((okS l=true∧∃ u,r = .tuple #[u,vb true]∧Ints g' u (setC l))∨(okS l=false∧r = .tuple #[.slice none 0 0,vb false]))):=by
 obtain ⟨p,c,rfl⟩:=SlA.form hv;refine Ctr.of (args:=[.slice p l.length c]) func94 I ntmps94 (bE I) ?_;refine SC.sR (lA I (lA I (SL.nT (SC.sR (lA I (SL.nT (sQ (SC.sR (lA I (SL.nT (bK ?_)))))))))));refine oP (ι:=PH×Value×List Int×Nat) (fun i=>[(0,.slice p l.length c),(4,i.2.1),(5,vi i.2.2.2)]) (fun i=>i.1) (fun _=>s)
  (fun i=>Le g i.1∧Ints i.1 i.2.1 i.2.2.1∧i.2.2.2≤l.length∧StrictI i.2.2.1∧(∀ x,x∈i.2.2.1↔x∈l.take i.2.2.2)∧((l.take i.2.2.2).any (fun x=>decide (x<0))=false∧i.2.2.1.length≤9)) (fun i=>l.length - i.2.2.2)
  (g,.slice none 0 0,[],0) sB rfl rfl ⟨Le.refl g,Sl.nil g _,Nat.zero_le _,List.Pairwise.nil,by simp,by simp,by simp⟩ ?_
 rintro ⟨g1,ov,out,i⟩ ⟨hle,hov,hi,hstr,hmem,hneg,h9⟩;dsimp only at hle hov hi hstr hmem hneg h9 ⊢;obtain ⟨q,d,rfl⟩:=SlA.form hov;have hqc:=(SlA.cap hov).2;refine sQ (SC.sR (lM I (lM I (lU (eN uT22 I) (lU (lS I I) (SL.nT ?_))))));refine iP I (fun hlt=>?_) (fun hlt=>?_)
 ·have hil:i<l.length:=oM;have hb1:=SlA.based (hv.mono hle) oM;have hgi:l[((i:Nat):Int).toNat]?=some l[i]:=gE hil;have htk:l.take (i+1)=l.take i++[l[i]]:=tS hil;have hxm:l[i]∈l:=gM hil;generalize l[i]=x at *;refine kP (tN (sQ (bK (SC.sR (lA I (SL.nT ?_))))));refine SC.cut (ι:=Nat) (fun k=>[(0,.slice p l.length c),(4,.slice q out.length d),(5,vi i),(6,vi k)]) (fun _=>g1) (fun _=>s) (fun k=>k≤out.length∧(∀ y∈out.take k,y<x)∧∀ y∈out.drop k,x≤y) ?_ ?_
  ·refine bK ?_;refine oP (ι:=Nat) (fun k=>[(0,.slice p l.length c),(4,.slice q out.length d),(5,vi i),(6,vi k)]) (fun _=>g1) (fun _=>s) (fun k=>k≤out.length∧∀ y∈out.take k,y<x) (fun k=>out.length - k) 0
    sB rfl rfl ⟨Nat.zero_le _,by simp⟩ ?_
   rintro k ⟨hk,htake⟩;by_cases hin:(k:Int)<(out.length:Int)
   ·have hkl:k<out.length:=oM;have hb2:=SlA.based hov oM;refine sQ (sQ ?_);refine dW [] [(0,2),(1,2),(2,2),(3,2),(4,2),(5,2),(6,2),(7,2),(8,1),(9,2),(10,2),(11,2),(12,1),(13,2),(14,2)] Tryz.mixed (by kernel_rfl) ?_;refine pU I (mV I) (pU I (mV I) (pU I (eN uT22 I) (pU I (SU.eq (v':=vb true) (lS I I) (congrArg vb (decide_eq_true hin))) (pU I (mV I) (SP.gu I (gT I I I dC) (mV I) dC (SP.gu I (gT I I I dC) (mV I) dC (SP.gu I (gT I I I dC) (iA uT22 zT3 I I hb2 oM sL) dC ?_)))))));refine SP.gq I (gT I I I dC) (eB iT3 I (SlA.rd hov) (gE hkl) I) dC ?_;refine SP.gu I (gT I I I dC) (mV I) dC (SP.gu I (gT I I I dC) (mV I) dC (SP.gu I (gT I I I dC) (iA uT22 zT3 I I hb1 oM sL) dC (SP.gq I (gT I I I dC) (eB iT3 I (SlA.rd (hv.mono hle)) hgi I) dC (SP.gu I (gT I I I dC) (lS I I) dC (pU I (pT I I) (pN (tN ?_)))))));refine iP I (fun hc=>?_) (fun hc=>?_)
    ·refine kP (tN (bK (rG (lM I (lU (aD I I oM) (lA I (nL (bN ?_))))))));exact ST.again (k+1) sB I I ⟨oM,by
      rw[tS hkl];intro y hy
      rcases List.mem_append.1 hy with h | h
      ·exact htake y h
      ·simp at h; subst h; exact hc⟩ oM
    ·refine xI (tX (tX (bX ?_)));exact ST.mid k sB I I ⟨hk,htake,strict_drop hstr hkl oM⟩
   ·refine sQ (sQ ?_);refine dW [] [(0,2),(1,2),(2,2),(3,2),(4,2),(5,2),(6,2),(7,2),(8,1),(9,2),(10,2),(11,2),(12,1),(13,2),(14,2)] Tryz.mixed (by kernel_rfl) ?_;refine pU I (mV I) (pU I (mV I) (pU I (eN uT22 I) (pU I (SU.eq (v':=vb false) (lS I I) (congrArg vb (decide_eq_false hin))) (pU I (mV I) (fP I (gF I I I dC) dC (fP I (gF I I I dC) dC (fP I (gF I I I dC) dC (SP.off1 I (gF I I I dC) dC (fP I (gF I I I dC) dC (fP I (gF I I I dC) dC (fP I (gF I I I dC) dC (SP.off1 I (gF I I I dC) dC (fP I (gF I I I dC) dC (pU I (pF I I) (pN (tN (cF I (xI (tX (tX (bX ?_)))))))))))))))))))));exact ST.mid k sB I I ⟨hk,htake,by rw[List.drop_eq_nil_of_le oM]; simp⟩
  ·rintro k ⟨hk,hk1,hk2⟩;have hskip:x∈out→∀ y,y∈out↔y∈l.take (i+1):=fun h y=>by
    rw[htk,List.mem_append,← hmem];constructor
    ·exact .inl
    ·rintro (h' | h')
     ·exact h'
     ·simp at h'; rw[h']; exact h
   have hxneg:x∈out→(l.take (i+1)).any (fun x=>decide (x<0))=false:=fun h=>by
    have h1:=List.any_eq_false.1 hneg x ((hmem x).1 h);rw[htk,List.any_append,hneg];simpa using h1
   have hins:(∀ y∈out.drop k,x<y)→StrictI (out.take k++x::out.drop k)∧∀ y,y∈out.take k++x::out.drop k↔y∈l.take (i+1):=fun h=>⟨ins_strict hstr hk1 h,fun y=>by
    rw[mem_ins,htk,List.mem_append,← hmem];simp;exact or_comm⟩
   have hc1:=SlA.cut hov (l:=k) (m:=out.length) hk (lR _);have hc2:=SlA.cut hov (l:=0) (m:=k) (Nat.zero_le _) hk;rw[tL (by rw[List.length_drop]; exact lR _)] at hc1;rw[List.drop_zero,Nat.sub_zero] at hc2;have hnl:(out.take k++x::out.drop k).length=out.length+1:=lN;obtain ⟨nw,hnw⟩:∃ nw,nw=out.take k++x::out.drop k:=⟨_,rfl⟩;have hbad1:x<0→okS l=false:=fun h=>by
    unfold okS;have:l.any (fun x=>decide (x<0))=true:=List.any_eq_true.2 ⟨x,hxm,by simpa using h⟩;rw[this]; rfl
   have hbad2:(∀ y∈out.drop k,x<y)→9<(out.take k++x::out.drop k).length→okS l=false:=fun h h'=>by
    obtain ⟨h1,h2⟩:=hins h;have h3:=strict_le h1 (b:=setC l) (fun y hy=>by rw[setC_mem]; exact List.mem_of_mem_take ((h2 y).1 hy));unfold okS;have:decide ((setC l).length≤9)=false:=decide_eq_false oM;rw[this]; simp
   have hgo:∀ g3 q3 d3,(∀ y∈out.drop k,x<y)→Le g g3→Ints g3 (.slice q3 (out.take k++x::out.drop k).length d3) (out.take k++x::out.drop k)→¬ x<0→(out.take k++x::out.drop k).length≤9 →
     Le g g3∧Ints g3 (.slice q3 (out.take k++x::out.drop k).length d3) (out.take k++x::out.drop k)∧i+1≤l.length∧StrictI (out.take k++x::out.drop k)∧(∀ y,y∈out.take k++x::out.drop k↔y∈l.take (i+1))∧((l.take (i+1)).any (fun x=>decide (x<0))=false∧(out.take k++x::out.drop k).length≤9):=fun g3 q3 d3 h1 h2 h3 h4 h5 =>
    ⟨h2,h3,oM,(hins h1).1,(hins h1).2,by rw[htk,List.any_append,hneg]; simpa using h4,h5⟩
   have hgt:out.contains x=false→∀ y∈out.drop k,x<y:=fun h y hy=>by
    have h1:=hk2 y hy;have h2:y≠x:=fun e=>by
     have:out.contains x=true:=by rw[← e]; simpa using List.mem_of_mem_drop hy
     rw[h] at this; cases this
    omega
   have hgetk:(k:Int)<(out.length:Int)→out[((k:Nat):Int).toNat]?=some (out.getD k 0):=fun h=>by
    have h2:k<out.length:=oM;rw[show ((k:Nat):Int).toNat=k by omega,gE h2,List.getD_eq_getElem?_getD,gE h2]; rfl
   have hA:(k:Int)<(out.length:Int)→out.contains x=decide (out.getD k 0=x):=fun h=>by
    have h2:k<out.length:=oM;rw[List.getD_eq_getElem?_getD,gE h2,Option.getD_some,Bool.eq_iff_iff,decide_eq_true_iff];constructor
    ·intro hm;have hm':x∈out:=by simpa using hm
     rw[← List.take_append_drop k out] at hm'
     rcases List.mem_append.1 hm' with h3 | h3
     ·have:=hk1 x h3; omega
     ·have h4:=hk2 _ (by rw[List.drop_eq_getElem_cons h2]; exact List.mem_cons_self:out[k]∈out.drop k);have h5:=strict_drop hstr h2 (Int.le_refl out[k]) x h3;omega
    ·intro e;rw[← e];simp
   have hB:¬ (k:Int)<(out.length:Int)→out.contains x=false:=fun h=>by
    rw[← Bool.not_eq_true];intro hm;have hm':x∈out:=by simpa using hm
    rw[← List.take_append_drop k out,List.drop_eq_nil_of_le oM,List.append_nil] at hm';have:=hk1 x hm';omega
   have hb2:=fun h=>SlA.based hov h;generalize out.getD k 0=yk at hgetk hA;obtain ⟨nl,hnl2⟩:∃ nl,nl=(out.take k++x::out.drop k).length:=⟨_,rfl⟩;have f1:x<0→(decide (x<0)||decide ((((out.take k++x::out.drop k).length:Nat):Int)>9))=true:=fun h=>by simp[h]
   have f2:¬ x<0→(decide (x<0)||decide ((((out.take k++x::out.drop k).length:Nat):Int)>9))=decide ((((out.take k++x::out.drop k).length:Nat):Int)>9):=fun h=>by simp only[h,decide_false,Bool.false_or]
   refine sQ ?_;refine SC.cutB 45 ((out.contains x)) ?_ ?_
   ·refine dW [] [(0,2),(1,2),(2,2),(3,2),(4,2),(5,2),(6,2),(7,2),(8,1),(9,2),(10,2),(11,2),(12,1),(13,2),(14,2)] Tryz.mixed (by kernel_rfl) ?_;refine pU I (mV I) (pU I (mV I) (pU I (eN uT22 I) (pU I (lS I I) (pU I (mV I) ?_))));refine SP.split ?_ ?_
    ·intro h35;refine SP.gu I (gT I I I dC) (mV I) dC (SP.gu I (gT I I I dC) (mV I) dC (SP.gu I (gT I I I dC) (iA uT22 zT3 I I (hb2 oM) oM sL) dC (SP.gq I (gT I I I dC) (eB iT3 I (SlA.rd hov) (hgetk h35) I) dC (SP.gu I (gT I I I dC) (mV I) dC (SP.gu I (gT I I I dC) (mV I) dC (SP.gu I (gT I I I dC) (iA uT22 zT3 I I hb1 oM sL) dC (SP.gq I (gT I I I dC) (eB iT3 I (SlA.rd (hv.mono hle)) hgi I) dC (SP.gu I (gT I I I dC) (eQ I I) dC (pU I (pT I I) (pN ?_))))))))));exact ST.mid1 (by (rw[hA h35]; rfl)) mI
    ·intro h35;refine fP I (gF I I I dC) dC (fP I (gF I I I dC) dC (fP I (gF I I I dC) dC (SP.off1 I (gF I I I dC) dC (fP I (gF I I I dC) dC (fP I (gF I I I dC) dC (fP I (gF I I I dC) dC (SP.off1 I (gF I I I dC) dC (fP I (gF I I I dC) dC (pU I (pF I I) (pN ?_))))))))));exact ST.mid1 (by (rw[hB h35]; rfl)) mI
   refine iQ I (fun hthere=>?_) (fun hthere=>?_)
   ·have hxo:x∈out:=by simpa using hthere
    refine xI (tX (bX (tN (rG (lM I (lU (aD I I oM) (lA I (nL ?_))))))));exact ST.again (g1,_,out,i+1) sB I I ⟨hle,hov,lN,hstr,hskip hxo,hxneg hxo,h9⟩ lN
   ·have hg:=hgt hthere;refine kP (tN (sQ ?_));refine dW [8] [(0,2),(1,2),(2,2),(3,1),(5,2),(6,2),(7,2),(4,0),(8,0),(9,2)] Tryz.mixed (by kernel_rfl) ?_;refine pU rfl (mV rfl) (pU rfl (mV rfl) (pU rfl (iA uT22 zT3 rfl rfl hb1 oM sL) (pK rfl (eB iT3 rfl (SlA.rd (hv.mono hle)) hgi rfl) (pU rfl (mV rfl) (pU rfl (mV rfl) (pU rfl (SU.sliceL uT22 zT3 rfl rfl oM oM) (SP.o rfl (SO.buildSlice sty22 rfl rfl rfl (szs_mk ⟨rfl,trivial⟩) dC) dC (.inr (by rintro _ _ _ ⟨b50,rfl,rfl,rfl⟩; exact⟨by exact Le.refl _,(by exact .cons _ (.refl _))⟩)) ?_)))))));rintro _ _ _ ⟨b50,rfl,rfl,rfl⟩;refine SP.to (fun w hw=>At.litRow (e:=encInt) (l:=[x]) (n:=0) hw I I dC) ?_;refine SP.o rfl (aQ (e:=encInt) 0 sty22 rfl rfl rfl hc1 (by rw[List.length_drop]; (first | with_reducible rfl | ((try dsimp only); (try simp only[List.length_append,List.length_cons,List.length_nil,List.length_singleton,List.length_take,List.length_drop])<;>omega))) (by rw[List.length_drop]; (first | with_reducible rfl | ((try dsimp only); (try simp only[List.length_append,List.length_cons,List.length_nil,List.length_singleton,List.length_take,List.length_drop])<;>omega)))) dC (.inl dC) ?_;rintro v54 _ _ ⟨rfl,rfl⟩;refine pU I (aS I) (pN (tN (sQ (fS fun g2 hle2 hs2=>?_))));have hrest:Ints g2 v54 ([x]++out.drop k):=hs2;refine rG (lW (SO.buildSlice sty22 I I I (szs_mk trivial) dC) ?_);rintro _ _ _ ⟨b55,rfl,rfl,rfl⟩;refine SL.emptyRow 3 1 (some ⟨b55,0,none⟩) (lM rfl (lM rfl (lU (SU.sliceH uT22 zT3 rfl rfl oM oM) (lW (aQ (e:=encInt) (l:=[]) 0 sty22 rfl rfl rfl (hc2.mono hle2) (by rw[List.length_take]; (first | with_reducible rfl | ((try dsimp only); (try simp only[List.length_append,List.length_cons,List.length_nil,List.length_singleton,List.length_take,List.length_drop])<;>omega))) (by rw[List.length_take]; (first | with_reducible rfl | ((try dsimp only); (try simp only[List.length_append,List.length_cons,List.length_nil,List.length_singleton,List.length_take,List.length_drop])<;>omega)))) ?_))));rintro v59 _ _ ⟨rfl,rfl⟩;refine lM I (lW (aQ (e:=encInt) 0 sty22 I I I hrest lN lN) ?_);rintro v61 _ _ ⟨rfl,rfl⟩;refine lA I (SL.nT (fS fun g3 hle3 hs3=>?_));have hres:Ints g3 v61 (out.take k++x::out.drop k):=(by have h:Ints g3 v61 ([]++out.take k++([x]++out.drop k)):=hs3; simpa using h);refine SC.drop (s':=s) (.cons _ (.refl _)) ?_;obtain ⟨q3,d3,rfl⟩:=SlA.form hres;refine SC.sub (f':=[(0,.slice p l.length c),(4,.slice q3 (out.take k++x::out.drop k).length d3),(5,vi i)]) sB ?_;refine SC.cutB 71 ((decide (x<0)||decide ((((out.take k++x::out.drop k).length:Nat):Int)>9))) ?_ ?_
    ·refine rG (lM I (lM I (lU (iA uT22 zT3 I I hb1 oM sL) (lK (eB iT3 I (SlA.rd (hv.mono (hle.trans (hle2.trans hle3)))) hgi I) (lU (lS I I) (lM I ?_))))));refine sP ?_ ?_
     ·intro h67;refine lZ I I I (lZ I I I (lZ I I I (lU (pT I I) (nL ?_))));exact ST.mid1 (by (rw[f1 h67]; rfl)) mI
     ·intro h67;refine lY I I I (mV I) (lY I I I (eN uT22 I) (lY I I I (gR I I) (lU (pF I I) (nL ?_))));exact ST.mid1 (by (rw[f2 h67]; rfl)) mI
    refine iQ I (fun hbad=>?_) (fun hbad=>?_)
    ·have hko:okS l=false:=by
      rw[Bool.or_eq_true,decide_eq_true_iff,decide_eq_true_iff] at hbad
      rcases hbad with h | h
      ·exact hbad1 h
      ·exact hbad2 hg oM
     refine SC.sR (lA I (lA I (SL.nT (rE (bR (tR (tR (bR (tR ?_)))))))));exact ST.ret2 (.inl I) results94 I I ⟨I,hle.trans (hle2.trans hle3),.inr ⟨hko,I⟩⟩
    ·rw[Bool.or_eq_false_iff,decide_eq_false_iff_not,decide_eq_false_iff_not] at hbad;refine kP (bN (tN (rG (lM I (lU (aD I I oM) (lA I (nL ?_)))))));exact ST.again (g3,_,out.take k++x::out.drop k,i+1) sB I I (hgo g3 q3 d3 hg (hle.trans (hle2.trans hle3)) hres hbad.1 oM) lN
 ·have hii:l.take i=l:=tL oM;rw[hii] at hmem hneg;have hset:=setC_of hstr hmem;have hok:okS l=true:=by unfold okS; rw[hneg,← hset]; simpa using h9
  refine xI (tX (tX (bX (tN (SC.sR (lM I (lA I (lA I (SL.nT (rE ?_))))))))));exact ST.ret2 (.inl I) results94 I I ⟨I,hle,.inl ⟨hok,_,I,by rw[← hset]; exact hov⟩⟩
abbrev StrictL (l:List (List Int)):Prop:=l.Pairwise fun a b=>compareC a b<0
theorem compareC_asymm {a b:List Int}(h:compareC a b<0):¬ compareC b a<0:=by have:=compareC_antisymm a b; omega
theorem StrictL.srt {l:List (List Int)}(h:StrictL l):SrtL l:=h.imp fun h=>compareC_asymm h
theorem strictL_unique:∀ {l m:List (List Int)},StrictL l→StrictL m→(∀ x,x∈l↔x∈m)→l=m
 | [],[],_,_,_=>rfl
 | [],y::m,_,_,h=>by have:=(h y).2 (by simp); simp at this
 | x::l,[],_,_,h=>by have:=(h x).1 (by simp); simp at this
 | x::l,y::m,hl,hm,h=>by
  obtain ⟨h1,h2⟩:=List.pairwise_cons.1 hl;obtain ⟨h3,h4⟩:=List.pairwise_cons.1 hm;have hxy:x=y:=by
   rcases List.mem_cons.1 ((h x).1 (by simp)) with e | hx
   ·exact e
   ·rcases List.mem_cons.1 ((h y).2 (by simp)) with e | hy
    ·exact e.symm
    ·exact absurd (h1 y hy) (compareC_asymm (h3 x hx))
  subst hxy;have hself:¬ compareC x x<0:=by rw[compareC_self]; decide
  rw[strictL_unique h2 h4 fun z=>?_];constructor
  ·intro hz
   rcases List.mem_cons.1 ((h z).1 (by simp[hz])) with e | hz'
   ·subst e; exact absurd (h1 z hz) hself
   ·exact hz'
  ·intro hz
   rcases List.mem_cons.1 ((h z).2 (by simp[hz])) with e | hz'
   ·subst e; exact absurd (h3 z hz) hself
   ·exact hz'
theorem uniqGo_strictL:∀ {x:List Int} {l:List (List Int)},SrtL (x::l)→StrictL (uniqGo eqL x l)∧(∀ y∈uniqGo eqL x l,compareC x y<0)∧∀ y,y∈l→y=x∨y∈uniqGo eqL x l
 | x,[],_=>⟨List.Pairwise.nil,by simp[uniqGo],by simp⟩
 | x,y::r,h=>by
  obtain ⟨h1,h2⟩:=List.pairwise_cons.1 h;obtain ⟨i1,i2,i3⟩:=uniqGo_strictL h2;have hxy:=h1 y (by simp);unfold uniqGo;by_cases e:y=x
  ·subst e;simp only[eqL,decide_true,if_true];refine⟨i1,i2,fun z hz=>?_⟩
   rcases List.mem_cons.1 hz with rfl | hz
   ·exact .inl I
   ·exact i3 z hz
  ·have hlt:compareC x y<0:=by
    rcases compareC_cases x y with h | h | h
    ·exact h
    ·exact absurd h.symm e
    ·exact absurd h hxy
   simp only[eqL,e,decide_false];refine⟨List.pairwise_cons.2 ⟨i2,i1⟩,fun z hz=>?_,fun z hz=>?_⟩
   ·rcases List.mem_cons.1 hz with rfl | hz
    ·exact hlt
    ·exact compareC_trans _ _ _ hlt (i2 z hz)
   ·rcases List.mem_cons.1 hz with rfl | hz
    ·exact .inr (by simp)
    ·rcases i3 z hz with rfl | h
     ·exact .inr (by simp)
     ·refine .inr ?_;simp;exact .inr h
theorem addSets_strict (all:List (List Int))(t:List Int):StrictL (addSets all t):=by
 have hs:=sortL_srt (all++subsetsC t);unfold addSets;cases h:sortL (all++subsetsC t) with
 | nil=>exact List.Pairwise.nil
 | cons x r =>
  rw[h] at hs;obtain ⟨h1,h2,_⟩:=uniqGo_strictL hs;exact List.pairwise_cons.2 ⟨h2,h1⟩
theorem addSets_iff (all:List (List Int))(t x:List Int):x∈addSets all t↔x∈all∨x∈subsetsC t:=by
 refine⟨addSets_mem,fun h=>?_⟩;have hs:=sortL_srt (all++subsetsC t);have hm:x∈sortL (all++subsetsC t):=(sortL_perm _).symm.subset (List.mem_append.2 h);unfold addSets;cases hc:sortL (all++subsetsC t) with
 | nil=>rw[hc] at hm; simp at hm
 | cons y r =>
  rw[hc] at hs hm
  rcases List.mem_cons.1 hm with rfl | hm
  ·simp[uniq]
  ·rcases (uniqGo_strictL hs).2.2 x hm with rfl | h
   ·simp[uniq]
   ·simp[uniq,h]
theorem lbL_split:∀ {l:List (List Int)} (t:List Int),SrtL l→(∀ y∈l.take (lbL l t),compareC y t<0)∧∀ y∈l.drop (lbL l t),¬ compareC y t<0
 | [],t,_=>⟨by simp,by simp⟩
 | a::r,t,hs=>by
  obtain ⟨h1,h2⟩:=List.pairwise_cons.1 hs;obtain ⟨i1,i2⟩:=lbL_split t h2;by_cases ha:compareC a t<0
  ·have hl:lbL (a::r) t=lbL r t+1:=by simp[lbL,ha]
   rw[hl,List.take_succ_cons,List.drop_succ_cons];refine⟨fun y hy=>?_,i2⟩
   rcases List.mem_cons.1 hy with rfl | hy
   ·exact ha
   ·exact i1 y hy
  ·have hall:∀ y∈a::r,¬ compareC y t<0:=fun y hy=>by
    rcases List.mem_cons.1 hy with rfl | hy
    ·exact ha
    ·exact compareC_ntrans y a t (h1 y hy) ha
   have hz:lbL (a::r) t=0:=by
    unfold lbL;rw[List.length_eq_zero_iff,List.filter_eq_nil_iff];intro y hy;simpa using hall y hy
   rw[hz];exact⟨by simp,by simpa using hall⟩
theorem insL_strict {l:List (List Int)}{t:List Int}(hs:StrictL l)(hn:l.contains t=false):StrictL (l.take (lbL l t)++t::l.drop (lbL l t)):=by
 obtain ⟨h1,h2⟩:=lbL_split t hs.srt;have hs':StrictL (l.take (lbL l t)++l.drop (lbL l t)):=by rw[List.take_append_drop]; exact hs
 have h3:=List.pairwise_append.1 hs';refine List.pairwise_append.2 ⟨h3.1,List.pairwise_cons.2 ⟨fun y hy=>?_,h3.2.1⟩,fun y hy z hz=>?_⟩
 ·rcases compareC_cases t y with h | h | h
  ·exact h
  ·have:l.contains t=true:=by rw[h]; simpa using List.mem_of_mem_drop hy
   rw[hn] at this; cases this
  ·exact absurd h (h2 y hy)
 ·rcases List.mem_cons.1 hz with rfl | hz
  ·exact h1 y hy
  ·exact h3.2.2 y hy z hz
theorem simp_srt (all:List (List Int)):Srt Cl.id (simpCells all):=by
 unfold Srt;rw[List.pairwise_iff_getElem];intro i j hi hj hij;simp[simpCells,simpCell];omega
theorem canon_simp (all:List (List Int)):canonC (simpCells all)=(simpCells all).map normC:=by
 unfold canonC;rw[← eq_sortBy (simp_srt all) (Stab.refl _)]
theorem tmod_two (k:Nat):((k:Nat):Int).tmod 2=((k:Nat):Int) % 2:=Int.tmod_eq_emod_of_nonneg oM
theorem refSimplicial_spec (E:World)(g:PH)(s:Own)(v:Value)(ls:List (List Int))(hv:Lists g v ls)(hn:ls.length<1099511627776)(hl:∀ x∈ls,x.length<17592186044416) :
  Ctr Tryz.prog E 58 #[v] g s (fun r g' s'=>s=s'∧Le g g'∧∃ u,r = .agg #[u]∧Cells g' u (simpC ls)):=by
 obtain ⟨rs0,hrs0,hall0⟩:=hv;have hlen0:=hall0.length;obtain ⟨p,c,rfl⟩:=SlA.form hrs0;refine Ctr.of (args:=[.slice p rs0.length c]) func58 I ntmps58 (bE I) ?_;refine SC.sR (SL.bx (aL zeroValue29) fun b2=>?_);refine SL.nT (SC.sR (lA I (SL.nT (sQ (SC.sR (lA I (SL.nT (bK ?_))))))));refine oP (ι:=PH×Value×List (List Int)×Nat) (fun i=>[(0,.slice p rs0.length c),(2,pp b2 0),(3,i.2.1),(4,vi i.2.2.2)]) (fun i=>i.1)
  (fun _=>pt b2 (.cells #[.slice none 0 0] 29 (0,0))::s)
  (fun i=>Le g i.1∧i.2.2.2≤rs0.length∧Lists i.1 i.2.1 i.2.2.1∧(i.2.2.1.length≤4000∧∀ x∈i.2.2.1,x.length≤9)∧StrictL i.2.2.1∧simpAll [] ls=simpAll i.2.2.1 (ls.drop i.2.2.2)) (fun i=>rs0.length - i.2.2.2)
  (g,.slice none 0 0,[],0) sB rfl rfl ⟨Le.refl g,Nat.zero_le _,⟨[],Sl.nil g _,trivial⟩,⟨Nat.zero_le _,by simp⟩,List.Pairwise.nil,rfl⟩ ?_
 rintro ⟨g1,av,all,i⟩ ⟨hle,hi,hav,⟨hal,has⟩,hstr,hsa⟩;dsimp only at hle hi hav hal has hstr hsa ⊢;refine sQ (SC.sR (lM I (lM I (lU (eN uT108 I) (lU (lS I I) (SL.nT ?_))))));refine iP I (fun hlt=>?_) (fun hlt=>?_)
 ·have hkl:i<ls.length:=oM;have hkr:i<rs0.length:=oM;have hR:=(hall0.get (gE hkl) (gE hkr)).mono hle;have hxl:=hl _ (gM hkl);have hb1:=hrs0.based oM;have hdrop:ls.drop i=ls[i]::ls.drop (i+1):=List.drop_eq_getElem_cons hkl;rw[hdrop] at hsa;generalize hx:ls[i]=x at *;generalize hr:rs0[i]=r at *;have hgr:rs0[((i:Nat):Int).toNat]?=some r:=by rw[← hr]; exact gE hkr
  refine kP (tN (sQ (bK (SC.sR (lM I (lM I (lU (iA uT108 zT22 I I hb1 oM sL) (lK (eB iT22 I (hrs0.mono hle).rd hgr I) (lW (SO.call call94 I (set_spec E g1 _ _ x hR hxl)) ?_)))))))));rintro v31 g2 _ ⟨rfl,hle2,hset⟩;have hav2:=hav.mono hle2
  rcases hset with ⟨hok,u,rfl,hu⟩ | ⟨hok,rfl⟩
  ·obtain ⟨hs9,hsb⟩:=okS_good hok;obtain ⟨q,d,rfl⟩:=SlA.form hu;have hpow:=pow_le (setC x).length hs9;refine lM I (lU (xT I I) (lU (xT I I) (lA I (lA I (SL.nT ?_)))));refine SC.cut (ι:=PH×Value×List (List Int)) (fun j=>[(0,.slice p rs0.length c),(2,pp b2 0),(3,j.2.1),(4,vi i)]) (fun j=>j.1) (fun _=>pt b2 (.cells #[.slice none 0 0] 29 (0,0))::s)
    (fun j=>Le g j.1∧Lists j.1 j.2.1 j.2.2∧StrictL j.2.2∧(∀ y,y∈j.2.2↔y∈all∨y∈subsetsC (setC x))∧j.2.2.length≤4600) ?_ ?_
   ·refine SC.sR (lA I (SL.nT (bK ?_)));refine oP (ι:=PH×Value×List (List Int)×Nat) (fun j=>[(0,.slice p rs0.length c),(2,pp b2 0),(3,j.2.1),(4,vi i),(5,.slice q (setC x).length d),(6,vb true),(7,vi (j.2.2.2+1:Nat))]) (fun j=>j.1) (fun _=>pt b2 (.cells #[.slice none 0 0] 29 (0,0))::s)
     (fun j=>Le g2 j.1∧j.2.2.2+1≤2 ^ (setC x).length∧Lists j.1 j.2.1 j.2.2.1∧StrictL j.2.2.1∧(∀ y,y∈j.2.2.1↔y∈all∨y∈(List.range j.2.2.2).map fun m=>pickB (m+1) (setC x))∧j.2.2.1.length≤4000+j.2.2.2) (fun j=>2 ^ (setC x).length - j.2.2.2)
     (g2,av,all,0) sB rfl rfl ⟨Le.refl g2,Nat.one_le_two_pow,hav2,hstr,by simp,lN⟩ ?_
    rintro ⟨g3,bv,al,b⟩ ⟨hle3,hb,hbv,hbs,hbm,hbl⟩;dsimp only at hle3 hb hbv hbs hbm hbl ⊢;have hals:∀ y∈al,y.length≤9:=fun y hy=>by
     rcases (hbm y).1 hy with h | h
     ·exact has y h
     ·obtain ⟨m,_,rfl⟩:=List.mem_map.1 h;exact Nat.le_trans (pickB_length _ _) hs9
    refine sQ (SC.sR (lM I (lM I (lY I I I (mV I) (lY I I I (mV I) (lY I I I (eN uT22 I) (lY I I I (SU.eq (v':=vi ((2 ^ (setC x).length:Nat):Int)) (SU.shl I I oM) (congrArg vi (shl_one (setC x).length oM))) (lY I I I (lS I I) (lU (pT I I) (SL.nT ?_))))))))));refine iP I (fun hlt2=>?_) (fun hlt2=>?_)
    ·have hbl2:b+1<2 ^ (setC x).length:=oM;refine kP (tN (sQ (bK (SC.sR (lA I (SL.nT (sQ (sQ (SC.nilRow 3 1 (rG (lA I (SL.nT (bK ?_)))))))))))));refine oP (ι:=Value×Nat) (fun k=>[(0,.slice p rs0.length c),(2,pp b2 0),(3,bv),(4,vi i),(5,.slice q (setC x).length d),(6,vb true),(7,vi (b+1:Nat)),(8,k.1),(9,vi k.2)]) (fun _=>g3)
      (fun k=>rowA encInt 3 k.1 (pickB (b+1) ((setC x).take k.2))::pt b2 (.cells #[.slice none 0 0] 29 (0,0))::s) (fun k=>k.2≤(setC x).length) (fun k=>(setC x).length - k.2) (.slice none 0 0,0)
      sB rfl rfl (Nat.zero_le _) ?_
     rintro ⟨cv,k⟩ hk;dsimp only at hk ⊢;have hpl:=pickB_length (b+1) ((setC x).take k);rw[List.length_take] at hpl;refine sQ (SC.sR (lM I (lM I (lU (eN uT22 I) (lU (lS I I) (SL.nT ?_))))));refine iP I (fun hlt3=>?_) (fun hlt3=>?_)
     ·have hkl:k<(setC x).length:=oM;have hbu:=SlA.based (hu.mono hle3) oM;have hsucc:=pickB_succ (bits:=b+1) hkl;refine kP (tN (sQ (bK (SC.sR (lM I (lM I (lU (SU.shr I I oM) (lU (SU.eq (v':=vi (((b+1) / 2 ^ k % 2:Nat):Int)) (SU.and I I) (congrArg vi ((and_one _).trans (shr_bit (b+1) k oM)))) (lU (eQ I I) (SL.nT ?_))))))))));refine iP I (fun hbit=>?_) (fun hbit=>?_)
      ·refine rG (lM I (lM I (lM I (lU (iA uT22 zT3 I I hbu oM sL) ?_))));refine SL.q (eB iT3 I (SlA.rd (hu.mono hle3)) (gE hkl) I) dC ?_;refine lW (SO.buildSlice sty22 I I I (szs_mk sB) dC) ?_;rintro _ _ _ ⟨b60,rfl,rfl,rfl⟩;refine lW (aP (e:=encInt) 0 (setC x)[k] sty22 I I I I I oM oM) ?_;rintro cv' _ _ ⟨rfl,rfl⟩;refine lA I (nL (bN (tN (rG (lM I (lU (aD I I oM) (lA I (nL ?_))))))));refine ST.to (fun w hw=>?_) (g':=g3) (s':=rowA encInt 3 cv' (pickB (b+1) ((setC x).take (k+1)))::pt b2 (.cells #[.slice none 0 0] 29 (0,0))::s) ?_
       ·rw[hsucc,if_pos oM]; exact hw
       exact ST.again (cv',k+1) sB I I lN lN
      ·refine kP (bN (tN (rG (lM I (lU (aD I I oM) (lA I (nL ?_)))))));refine ST.to (fun w hw=>?_) (g':=g3) (s':=rowA encInt 3 cv (pickB (b+1) ((setC x).take (k+1)))::pt b2 (.cells #[.slice none 0 0] 29 (0,0))::s) ?_
       ·rw[hsucc,if_neg oM]; exact hw
       exact ST.again (cv,k+1) sB I I lN lN
     ·have hkk:(setC x).take k=setC x:=tL oM;have htl:=pickB_length (b+1) (setC x);have hmem2:∀ nw:List (List Int),(∀ y,y∈nw↔y=pickB (b+1) (setC x)∨y∈al)→∀ y,y∈nw↔y∈all∨y∈(List.range (b+1)).map fun m=>pickB (m+1) (setC x):=fun nw h y=>by
       rw[h,hbm,List.range_succ,List.map_append,List.mem_append];simp;constructor
       ·rintro (h | h | h)
        ·exact .inr (.inr h)
        ·exact .inl h
        ·exact .inr (.inl h)
       ·rintro (h | h | h)
        ·exact .inr (.inl h)
        ·exact .inr (.inr h)
        ·exact .inl h
      generalize hpk:pickB (b+1) (setC x)=t at *;refine xI (tX (tX (bX (tN (sQ (fS fun g4 hle4 hs4=>?_))))));rw[hkk,hpk] at hs4;have ht:Ints g4 cv t:=hs4;have hbv4:=hbv.mono hle4;refine rG (lM I (lM I (lW (SO.call call95 I (place_spec E g4 _ _ _ al t hbv4 ht oM (fun y hy=>by have:=hals y hy; omega) oM hbs.srt)) ?_)));rintro _ _ _ ⟨rfl,rfl,rfl⟩;refine lM I (lU (xT I I) (lU (xT I I) (lA I (lA I (SL.nT (SC.sR (lM I (lU (SU.not I) (SL.nT ?_)))))))));refine iQ I (fun hthere=>?_) (fun hthere=>?_)
      ·have hth:al.contains t=false:=by simpa using hthere
       have hlb:=lbL_le al t;obtain ⟨ra,hra,halr⟩:=hbv4;have hral:=halr.length;obtain ⟨qa,da,rfl⟩:=SlA.form hra;have hcapa:=(SlA.cap hra).2;obtain ⟨qt,dt,rfl⟩:=SlA.form ht;have hca:=SlA.cut hra (l:=lbL al t) (m:=ra.length) oM (lR _);have hcb:=SlA.cut hra (l:=0) (m:=lbL al t) (Nat.zero_le _) oM;rw[tL (by rw[List.length_drop]; exact lR _)] at hca;rw[List.drop_zero,Nat.sub_zero] at hcb;refine SC.sR (lM I (lW (SO.buildSlice sty108 I I I (szs_mk ⟨I,trivial⟩) dC) ?_));rintro _ _ _ ⟨b71,rfl,rfl,rfl⟩;refine SL.to (fun w hw=>At.litRow (e:=encSv) (l:=[⟨qt,t.length,dt⟩]) (n:=0) hw I I dC) ?_;refine lM rfl (lM rfl (lU (SU.sliceL uT108 zT22 rfl rfl oM oM) (lW (aQ (e:=encSv) 0 sty108 rfl rfl rfl hca (by rw[List.length_drop]; (first | with_reducible rfl | ((try dsimp only); (try simp only[List.length_append,List.length_cons,List.length_nil,List.length_singleton,List.length_take,List.length_drop])<;>omega))) (by rw[List.length_drop]; (first | with_reducible rfl | ((try dsimp only); (try simp only[List.length_append,List.length_cons,List.length_nil,List.length_singleton,List.length_take,List.length_drop])<;>omega)))) ?_)));rintro v75 _ _ ⟨rfl,rfl⟩;refine lA I (SL.nT (fS fun g5 hle5 hs5=>?_));have hrest:SlA encSv g5 v75 ([⟨qt,t.length,dt⟩]++ra.drop (lbL al t)):=hs5;refine rG (lW (SO.buildSlice sty108 I I I (szs_mk trivial) dC) ?_);rintro _ _ _ ⟨b76,rfl,rfl,rfl⟩;refine SL.emptyRow 22 1 (some ⟨b76,0,none⟩) (lM rfl (lM rfl (lU (SU.sliceH uT108 zT22 rfl rfl oM oM) (lW (aQ (e:=encSv) (l:=[]) 0 sty108 rfl rfl rfl (hcb.mono hle5) (by rw[List.length_take]; (first | with_reducible rfl | ((try dsimp only); (try simp only[List.length_append,List.length_cons,List.length_nil,List.length_singleton,List.length_take,List.length_drop])<;>omega))) (by rw[List.length_take]; (first | with_reducible rfl | ((try dsimp only); (try simp only[List.length_append,List.length_cons,List.length_nil,List.length_singleton,List.length_take,List.length_drop])<;>omega)))) ?_))));rintro v80 _ _ ⟨rfl,rfl⟩;refine lM I (lW (aQ (e:=encSv) 0 sty108 I I I hrest lN lN) ?_);rintro v82 _ _ ⟨rfl,rfl⟩;refine lA I (nL (bN (tN (rG (lM I (lU (aD I I oM) (lA I (nL (fT fun g6 hle6 hs6=>?_)))))))));refine dR (s':=pt b2 (.cells #[.slice none 0 0] 29 (0,0))::s) (.cons _ (.refl _)) ?_;have hres:Lists g6 v82 (al.take (lbL al t)++t::al.drop (lbL al t)):=by
        refine⟨ra.take (lbL al t)++⟨qt,t.length,dt⟩::ra.drop (lbL al t),?_,?_⟩
        ·have h:SlA encSv g6 v82 ([]++ra.take (lbL al t)++([⟨qt,t.length,dt⟩]++ra.drop (lbL al t))):=hs6;simpa using h
        ·exact ((All2.take _ halr).mono fun _ _=>ListR.mono (hle5.trans hle6)).append ⟨ht.mono (hle5.trans hle6),(All2.drop _ halr).mono fun _ _=>ListR.mono (hle5.trans hle6)⟩
       exact ST.again (g6,v82,al.take (lbL al t)++t::al.drop (lbL al t),b+1) ⟨I,I,I,I,I,I,vi_eq (by simp),trivial⟩ I I ⟨hle3.trans (hle4.trans (hle5.trans hle6)),hbl2,hres,insL_strict hbs hth,hmem2 _ (fun y=>mem_ins),lN⟩ lN
      ·have hth:t∈al:=by simpa using hthere
       refine kP (bN (tN (rG (lM I (lU (aD I I oM) (lA I (nL ?_)))))));exact ST.again (g4,bv,al,b+1) ⟨I,I,I,I,I,I,vi_eq (by simp),trivial⟩ I I ⟨hle3.trans hle4,hbl2,hbv4,hbs,hmem2 _ (fun y=>⟨.inr,fun h=>h.elim (fun e=>by rw[e]; exact hth) id⟩),lN⟩ lN
    ·have hbb:b=2 ^ (setC x).length - 1:=oM;refine xI (tX (tX (bX ?_)));exact ST.mid (g3,bv,al) sB I I ⟨hle.trans (hle2.trans hle3),hbv,hbs,fun y=>by dsimp only; rw[hbm]; unfold subsetsC; rw[hbb],lN⟩
   ·rintro ⟨g3,bv,al⟩ ⟨hle3,hbv,hbs,hbm,hbl⟩;dsimp only at hle3 hbv hbs hbm hbl ⊢;have hals:∀ y∈al,y.length≤9:=fun y hy=>by
     rcases (hbm y).1 hy with h | h
     ·exact has y h
     ·exact subsetsC_short hs9 y h
    have key:((al.length:Int)>4000→simpAll [] ls=none)∧(¬ (al.length:Int)>4000→simpAll [] ls=simpAll al (ls.drop (i+1))):=by
     by_cases hb:badSet (setC x)=true
     ·have he:=hsb hb;have hal2:al=all:=strictL_unique hbs hstr fun y=>by rw[hbm,he]; simp[subsetsC]
      refine⟨fun h=>by rw[hal2] at h; omega,fun _=>by rw[hsa,simpAll,if_pos hb,hal2]⟩
     ·have hal2:al=addSets all (setC x):=strictL_unique hbs (addSets_strict _ _) fun y=>by rw[hbm,addSets_iff]
      refine⟨fun h=>by rw[hsa,simpAll,if_neg hb,if_pos (by rw[← hal2]; exact h)],fun h=>by rw[hsa,simpAll,if_neg hb,if_neg (by rw[← hal2]; exact h),← hal2]⟩
    obtain ⟨ra,hra,halr⟩:=hbv;have hbv:Lists g3 bv al:=⟨ra,hra,halr⟩;have hral:=halr.length;obtain ⟨qa,da,rfl⟩:=SlA.form hra;refine SC.sR (lM I (lU (eN uT108 I) (lU (gR I I) (SL.nT ?_))));refine iP I (fun hmany=>?_) (fun hmany=>?_)
    ·refine SC.sR (lU (SU.build I (buildE29)) (SL.O2 (sK 0 zT29 I I I I I sB) ?_));refine SL.nT (rE (bR (tR (tR (bR (tR ?_))))));exact ST.retCD 0 s (.inl I) results58 I iT29 zT29 I I (.cons _ (.refl _)) ⟨I,hle3,_,I,by simp only[simpC,key.1 oM]; exact⟨[],Sl.nil _ _,trivial⟩⟩
    ·refine kP (bN (tN (rG (lM I (lU (aD I I oM) (lA I (nL ?_)))))));exact ST.again (g3,_,al,i+1) sB I I ⟨hle3,lN,hbv,⟨lN,hals⟩,hbs,key.2 oM⟩ lN
  ·have hb:=okS_bad hok;obtain ⟨ra,hra,halr⟩:=hav2;have hav2:Lists g2 av all:=⟨ra,hra,halr⟩;have hral:=halr.length;obtain ⟨qa,da,rfl⟩:=SlA.form hra;refine lM I (lU (xT I I) (lU (xT I I) (lA I (lA I (SL.nT (sQ (SC.sR (lA I (SL.nT (bK ?_))))))))));refine oP (ι:=Unit) (fun _=>[(0,.slice p rs0.length c),(2,pp b2 0),(3,.slice qa ra.length da),(4,vi i),(5,.slice none 0 0),(6,vb false),(7,vi 1)]) (fun _=>g2) (fun _=>pt b2 (.cells #[.slice none 0 0] 29 (0,0))::s) (fun _=>True) (fun _=>0) () sB I I trivial ?_;rintro ⟨⟩ -;refine sQ (SC.sR (lM I (lM I (lZ I I I (lZ I I I (lZ I I I (lZ I I I (lZ I I I (lU (pF I I) (SL.nT (cF I (xI (tX (tX (bX (tN (SC.sR (lM I (lU (eN uT108 I) (lU (gR I I) (SL.nT ?_)))))))))))))))))))));refine iP I (fun hmany=>?_) (fun hmany=>?_)
   ·exfalso;omega
   ·refine kP (bN (tN (rG (lM I (lU (aD I I oM) (lA I (nL ?_)))))));exact ST.again (g2,_,all,i+1) sB I I ⟨hle.trans hle2,lN,hav2,⟨hal,has⟩,hstr,by dsimp only; rw[hsa,simpAll,if_pos hb]⟩ lN
 ·have hk0:i=rs0.length:=oM;have hsome:simpAll [] ls=some all:=by rw[hsa,hk0,← hlen0,List.drop_length]; rfl
  obtain ⟨rs,hrs,hall⟩:=hav;have hav:Lists g1 av all:=⟨rs,hrs,hall⟩;have hrl:=hall.length;obtain ⟨q,d,rfl⟩:=SlA.form hrs;refine xI (tX (tX (bX (tN (SC.sR (SL.bx (aL zeroValue29) fun b13=>?_))))));refine SL.nT (sQ (SC.sR (lA I (SL.nT (bK (SC.nilRow 54 3 ?_))))));refine oP (ι:=PH×Value×List Rc×Nat) (fun i=>[(2,pp b2 0),(3,.slice q rs.length d),(13,pp b13 0),(14,vi i.2.2.2)]) (fun i=>i.1)
   (fun i=>rowA encCell 54 i.2.1 i.2.2.1::pt b13 (.cells #[i.2.1] 29 (0,0))::pt b2 (.cells #[.slice none 0 0] 29 (0,0))::s)
   (fun i=>Le g1 i.1∧i.2.2.2≤rs.length∧All2 (CellR i.1) (((simpCells all).take i.2.2.2).map normC) i.2.2.1) (fun i=>rs.length - i.2.2.2)
   (g1,.slice none 0 0,[],0) sB rfl rfl ⟨Le.refl g1,Nat.zero_le _,trivial⟩ ?_
  rintro ⟨g3,ov,rcs,n⟩ ⟨hle3,hn3,hrcs⟩;dsimp only at hle3 hn3 hrcs ⊢;have hrcl:=hrcs.length;rw[List.length_map,List.length_take,simpCells_length] at hrcl;refine sQ (SC.sR (lM I (lM I (lU (eN uT108 I) (lU (lS I I) (SL.nT ?_))))));refine iP I (fun hlt2=>?_) (fun hlt2=>?_)
  ·have hnl:n<all.length:=oM;have hnr:n<rs.length:=oM;have hb1:=hrs.based oM;have hR:=(hall.get (gE hnl) (gE hnr)).mono hle3;have hRl:=hR.len;have hx9:=has _ (gM hnl);have hget:=simpCells_get hnl;generalize hx:all[n]=x at *;generalize hr:rs[n]=r at *;obtain ⟨rp,rn,rc⟩:=r;dsimp only at hRl;subst hRl;have hxs:Ints g3 (.slice rp x.length rc) x:=hR;have hgr:rs[((n:Nat):Int).toNat]?=some ⟨rp,x.length,rc⟩:=by rw[← hr]; exact gE hnr
   refine kP (tN (sQ (bK (SC.sR (lM I (lU (aD I I oM) (lM I (lM I (lU (iA uT108 zT22 I I hb1 oM sL) (lK (eB (u:=.slice rp x.length rc) iT22 I (hrs.mono hle3).rd hgr I) (lU (eN uT22 I) (lU (sU I I oM) (lU (SU.build I (buildC54 _ _)) (SL.bx (aL zeroValue54) fun b15=>?_))))))))))))));refine SL.O2 (sK 0 zT54 I I I I I sB) ?_;refine SL.nT ?_;refine SC.cut (ι:=PH×Value) (fun i=>[(2,pp b2 0),(3,.slice q rs.length d),(13,pp b13 0),(14,vi n),(15,pp b15 0)]) (fun i=>i.1)
    (fun i=>rowA encSide 56 i.2 (simpSides all x x.length)::pt b15 (.cells #[vi ((n:Int)+1),vi ((x.length:Int) - 1),i.2] 54 (0,0))::rowA encCell 54 ov rcs::pt b13 (.cells #[ov] 29 (0,0))::pt b2 (.cells #[.slice none 0 0] 29 (0,0))::s)
    (fun i=>Le g3 i.1) ?_ ?_
   ·refine sQ (SC.nilRow 56 2 (rG (lA I (SL.nT (bK ?_)))));refine oP (ι:=PH×Value×Nat) (fun i=>[(2,pp b2 0),(3,.slice q rs.length d),(13,pp b13 0),(14,vi n),(15,pp b15 0),(16,vi i.2.2)]) (fun i=>i.1)
     (fun i=>rowA encSide 56 i.2.1 (simpSides all x i.2.2)::pt b15 (.cells #[vi ((n:Int)+1),vi ((x.length:Int) - 1),i.2.1] 54 (0,0))::rowA encCell 54 ov rcs::pt b13 (.cells #[ov] 29 (0,0))::pt b2 (.cells #[.slice none 0 0] 29 (0,0))::s)
     (fun i=>Le g3 i.1∧i.2.2≤x.length) (fun i=>x.length - i.2.2)
     (g3,.slice none 0 0,0) sB rfl rfl ⟨Le.refl g3,Nat.zero_le _⟩ ?_
    rintro ⟨g4,sv,j⟩ ⟨hle4,hj⟩;dsimp only at hle4 hj ⊢;have hssl:=simpSides_length all x j;have hsucc:=simpSides_succ all x j;have hxs4:Ints g4 (.slice rp x.length rc) x:=hxs.mono hle4;by_cases hjl:j<x.length
    ·have hjd:((j:Nat):Int)<((x.length:Nat):Int):=oM;by_cases hdim:((x.length:Int) - 1)>0
     ·have hel:(x.eraseIdx j).length=x.length - 1:=by rw[List.length_eraseIdx]; simp[hjl]
      have hside:sideAt all x j=[⟨lbL all (x.eraseIdx j)+1,signC j⟩]:=by unfold sideAt; rw[if_pos oM]
      have hlb:=lbL_le all (x.eraseIdx j);rw[hside] at hsucc;have hcap:=(SlA.cap hxs4).2;have hc1:=SlA.cut hxs4 (l:=0) (m:=j) oM oM;have hc2:=SlA.cut hxs4 (l:=j+1) (m:=x.length) oM oM;have he1:(x.drop 0).take (j - 0)=x.take j:=by simp
      have he2:(x.drop (j+1)).take (x.length - (j+1))=x.drop (j+1):=tL (by rw[List.length_drop]; omega);rw[he1] at hc1;rw[he2] at hc2;have her:[]++x.take j++x.drop (j+1)=x.eraseIdx j:=by rw[List.eraseIdx_eq_take_drop_succ]; simp
      have hcl1:([]++x.take j).length=j:=by simp; omega
      refine sQ (SC.sR (lM I (lM I (lM I (lU (iA uT108 zT22 I I hb1 oM sL) (lK (eB (u:=.slice rp x.length rc) iT22 I (hrs.mono (hle3.trans hle4)).rd hgr I) (lU (eN uT22 I) (lU (SU.eq (v':=vb true) (lS I I) (congrArg vb (decide_eq_true hjd))) (lM I (lY I I I (fA uT54 I zT3 I) (SL.gq (gT I I I dC) (qL (v:=vi ((x.length:Int) - 1)) iT3 I (cO 1 I I)) dC (lY I I I (SU.eq (v':=vb true) (gR I I) (congrArg vb (decide_eq_true hdim))) (lU (pT I I) (SL.nT (cT I (kP (tN (sQ (bK (sQ ?_))))))))))))))))))));refine dW [15] [(1,2),(2,2),(3,2),(4,1),(5,2),(6,2),(8,2),(9,2),(10,2),(11,1),(12,2),(13,2),(14,2),(0,0),(7,0),(15,0),(16,2)] Tryz.mixed (by kernel_rfl) ?_;refine pU I (mV I) (pU I (mV I) (pU I (iA uT108 zT22 I I hb1 oM sL) (pK I (eB (u:=.slice rp x.length rc) iT22 I (hrs.mono (hle3.trans hle4)).rd hgr I) (pU I (mV I) (pU I (SU.sliceH uT22 zT3 I I oM oM) (pU I (mV I) (pU I (mV I) (pU I (iA uT108 zT22 I I hb1 oM sL) (pK I (eB (u:=.slice rp x.length rc) iT22 I (hrs.mono (hle3.trans hle4)).rd hgr I) (pU I (mV I) (pU I (aD I I oM) (pU I (SU.eq (v':=sliced rp (j+1) x.length rc 1) (SU.sliceL uT22 zT3 I I oM oM) (by rw[show ((j:Int)+1).toNat=j+1 by omega])) ?_))))))))))));refine SP.o rfl (SO.buildSlice sty22 rfl rfl rfl (szs_mk trivial) dC) dC (.inr (by rintro _ _ _ ⟨b116,rfl,rfl,rfl⟩; exact⟨by exact Le.refl _,(by exact .cons _ (.refl _))⟩)) ?_;rintro _ _ _ ⟨b116,rfl,rfl,rfl⟩;refine SP.to (fun w hw=>hw.emptyRow 3 1 (some ⟨b116,0,none⟩)) ?_;refine SP.o rfl (aQ (e:=encInt) (l:=[]) 0 sty22 rfl rfl rfl hc1 (by rw[List.length_take]; (first | with_reducible rfl | ((try dsimp only); (try simp only[List.length_append,List.length_cons,List.length_nil,List.length_singleton,List.length_take,List.length_drop])<;>omega))) (by rw[List.length_take]; (first | with_reducible rfl | ((try dsimp only); (try simp only[List.length_append,List.length_cons,List.length_nil,List.length_singleton,List.length_take,List.length_drop])<;>omega)))) dC (.inr (by rintro v123 _ _ ⟨rfl,rfl⟩; exact⟨by exact Le.refl _,(by exact .cons _ (.cons _ (.refl _)))⟩)) ?_;rintro v123 _ _ ⟨rfl,rfl⟩;refine SP.o I (aQ (e:=encInt) 0 sty22 I I I hc2 (by rw[List.length_drop,hcl1]; omega) (by rw[List.length_drop,hcl1]; omega)) dC (.inl dC) ?_;rintro v131 _ _ ⟨rfl,rfl⟩;refine pU I (aS I) (pN (tN (sQ (fS fun g6 hle6 hs6=>?_))));have hrest:Ints g6 v131 (x.eraseIdx j):=(by rw[← her]; exact hs6);refine SC.drop (s':=rowA encSide 56 sv (simpSides all x j)::pt b15 (.cells #[vi ((n:Int)+1),vi ((x.length:Int) - 1),sv] 54 (0,0))::rowA encCell 54 ov rcs::pt b13 (.cells #[ov] 29 (0,0))::pt b2 (.cells #[.slice none 0 0] 29 (0,0))::s) (.cons _ (.refl _)) (rG (lM I (lM I (lW (SO.call call95 I (place_spec E g6 _ _ _ all (x.eraseIdx j) (hav.mono (hle3.trans (hle4.trans hle6))) hrest oM (fun y hy=>by have:=has y hy; omega) oM hstr.srt)) ?_))));rintro _ _ _ ⟨rfl,rfl,rfl⟩;refine lM I (lU (xT I I) (lU (xT I I) (lA I (lA I (SL.nT (rG (lU (fA uT54 I zT37 I) (lK (qL (v:=sv) iT37 I (cO 1 I I)) (lM I (lU (aD I I oM) (lM I (lU (SU.eq (v':=vi ((j:Int) % 2)) (SU.rem I I dC) (congrArg vi (tmod_two j))) (lU (SU.mul I I oM) (lU (SU.eq (v':=vi (signC j)) (sU I I oM) I) (lU (SU.build I (buildS56 _ _)) (lW (SO.buildSlice sty37 I I I (szs_mk sB) dC) ?_))))))))))))))));rintro _ _ _ ⟨b147,rfl,rfl,rfl⟩;refine lW (aP (e:=encSide) 0 ⟨lbL all (x.eraseIdx j)+1,signC j⟩ sty37 I I I I I oM oM) ?_;rintro v148 _ _ ⟨rfl,rfl⟩;rw[← hsucc];refine SL.facts fun ⟨w0,hw0⟩=>?_;obtain ⟨q148,d148,rfl⟩:=rowA_form (i:=0) hw0 rfl;clear hw0 w0;refine lU (fA uT54 rfl zT37 rfl) (SL.O2 (SO.store1 1 zT37 rfl rfl rfl rfl (bE rfl) (by rfl)) ?_);refine nL (bN (tN (rG (lM I (lU (aD I I oM) (lA I (nL ?_)))))));exact ST.again (g6,_,j+1) sB I I ⟨hle4.trans hle6,lN⟩ lN
     ·have hx1:x.length=1:=oM;have hj0:j=0:=oM;have hempty:simpSides all x x.length=simpSides all x j:=by
       rw[hx1,hj0];have h0:=simpSides_succ all x 0;have hs0:sideAt all x 0=[]:=by
        unfold sideAt;rw[if_neg];rw[List.length_eraseIdx];simp[hx1]
       rw[h0,hs0,List.append_nil]
      rw[← hempty];refine sQ (SC.sR (lM I (lM I (lM I (lU (iA uT108 zT22 I I hb1 oM sL) (lK (eB (u:=.slice rp x.length rc) iT22 I (hrs.mono (hle3.trans hle4)).rd hgr I) (lU (eN uT22 I) (lU (SU.eq (v':=vb true) (lS I I) (congrArg vb (decide_eq_true hjd))) (lM I (lY I I I (fA uT54 I zT3 I) (SL.gq (gT I I I dC) (qL (v:=vi ((x.length:Int) - 1)) iT3 I (cO 1 I I)) dC (lY I I I (SU.eq (v':=vb false) (gR I I) (congrArg vb (decide_eq_false hdim))) (lU (pT I I) (SL.nT (cF I (xI (tX (tX (bX ?_)))))))))))))))))));exact ST.mid (g4,sv) sB I I hle4
    ·have hjd:¬ ((j:Nat):Int)<((x.length:Nat):Int):=oM;have hjj:j=x.length:=oM;subst hjj;refine sQ (SC.sR (lM I (lM I (lM I (lU (iA uT108 zT22 I I hb1 oM sL) (lK (eB (u:=.slice rp x.length rc) iT22 I (hrs.mono (hle3.trans hle4)).rd hgr I) (lU (eN uT22 I) (lU (SU.eq (v':=vb false) (lS I I) (congrArg vb (decide_eq_false hjd))) (lM I (lZ I I I (lZ I I I (lZ I I I (lU (pF I I) (SL.nT (cF I (xI (tX (tX (bX ?_)))))))))))))))))));exact ST.mid (g4,sv) sB I I hle4
   ·rintro ⟨g4,sv⟩ hle4;dsimp only at hle4 ⊢;have hssl:=simpSides_length all x x.length;refine SC.sR (fR fun g5 hle5 hs5=>?_);have hsd:SlA encSide g5 sv (simpSides all x x.length):=hs5;refine lU (fA uT54 I zT37 I) (lK (qL (v:=sv) iT37 I (cO 0 I I)) (lW (SO.call call96 I (sides_spec E g5 _ _ (simpSides all x x.length) hsd oM)) ?_));rintro v152 g6 _ ⟨rfl,hle6,hs6⟩;obtain ⟨q6,d6,rfl⟩:=SlA.form hs6;obtain ⟨nc,hnc⟩:∃ nc:Rc,nc=⟨(n:Int)+1,(x.length:Int) - 1,⟨q6,(sortBy Side.cell (simpSides all x x.length)).length,d6⟩⟩:=⟨_,rfl⟩;refine lU (fA uT54 rfl zT37 rfl) (SL.O2 (SO.store1 0 zT37 rfl rfl rfl rfl (bE rfl) (by rfl)) ?_);refine SL.nT (rG (lU (fA uT29 I zT27 I) (lK (qL iT27 I (cO 2 I I)) (lK (qV 0 iT54 zT54 I I I) (lW (SO.buildSlice sty27 I I I (szs_mk sB) dC) ?_)))));rintro _ _ _ ⟨b157,rfl,rfl,rfl⟩;refine lW (aP (e:=encCell) 1 nc sty27 rfl rfl rfl rfl (by rw[hnc]; rfl) oM oM) ?_;rintro v158 _ _ ⟨rfl,rfl⟩;refine SL.facts fun ⟨w0,hw0⟩=>?_;obtain ⟨q158,d158,rfl⟩:=rowA_form (i:=1) hw0 rfl;clear hw0 w0;refine lU (fA uT29 I zT27 I) (SL.O2 (sK 2 zT27 I I I I I sB) ?_);refine nL (bN (tN (rG (lM I (lU (aD I I oM) (lA I (nL (dR (s':=rowA encCell 54 (.slice q158 (rcs++[nc]).length d158) (rcs++[nc])::pt b13 (.cells #[.slice q158 (rcs++[nc]).length d158] 29 (0,0))::pt b2 (.cells #[.slice none 0 0] 29 (0,0))::s) (.cons _ (.refl _)) ?_))))))));refine ST.again (g6,_,rcs++[nc],n+1) sB I I ⟨hle3.trans (hle4.trans (hle5.trans hle6)),lN,?_⟩ lN;dsimp only;rw[take_succ_of hget,List.map_append];exact (hrcs.mono fun _ _=>CellR.mono (hle4.trans (hle5.trans hle6))).append ⟨(by rw[hnc]; exact⟨I,I,hs6⟩),trivial⟩
  ·have hnn:n=rs.length:=oM;have htk:(simpCells all).take n=simpCells all:=tL (by rw[simpCells_length]; omega);rw[htk] at hrcs;refine xI (tX (tX (bX (tN (sQ (fS fun g4 hle4 hs4=>?_))))));have hov:Cells g4 ov (simpC ls):=(by simp only[simpC,hsome,canon_simp]; exact⟨rcs,hs4,hrcs.mono fun _ _=>CellR.mono hle4⟩);obtain ⟨q9,d9,rfl⟩:=hov.form;refine rG (lK (qV 0 iT29 zT29 I I I) (SL.O2 (sK 1 zT29 I I I I I sB) ?_));refine SL.nT (rE ?_);exact ST.retCD 1 s (.inl I) results58 I iT29 zT29 I I (.cons _ (.cons _ (.refl _))) ⟨I,hle.trans (hle3.trans hle4),_,I,hov⟩
set_option maxHeartbeats 2000000
theorem chk1_ne' {tl:List Cl}{L:List Cl}{last:Int}{p:Int×Int}(h:chk1 tl L last=some p):p.2≠0:=chk1_ne h
theorem refRight_facts {l:List Cl}(h:(refCheckC l).2=0):l.length≤4000∧(canonC l).Pairwise (fun a b=>a.id<b.id)∧tabC l=canonC l∧∀ x∈canonC l,formC (tabC l) x=0:=by
 unfold refCheckC at h;split at h
 ·exact absurd h dC
 ·rename_i hl;cases hc:chk1 (tabC l) (canonC l) 0 with
  | some p=>rw[hc] at h; exact absurd h (chk1_ne hc)
  | none =>
   have hst:=(chk1_strict hc).2;exact⟨oM,hst,tabC_strict hst,chk1_none hc⟩
theorem lbI_self:∀ {l:List Int} {k:Nat} (h:k<l.length),l.Pairwise (· < ·)→lbI l l[k]=k:=by
 intro l;induction l with
 | nil=>intro k h; simp at h
 | cons a r ih =>
  intro k h hs;obtain ⟨h1,h2⟩:=List.pairwise_cons.1 hs;cases k with
  | zero =>
   unfold lbI;rw[List.length_eq_zero_iff,List.filter_eq_nil_iff];intro y hy
   rcases List.mem_cons.1 hy with rfl | hy
   ·simp
   ·have:=h1 y hy; simp; omega
  | succ k =>
   have hk:k<r.length:=by simpa using h
   have hlt:=h1 r[k] (gM hk);have:=ih hk h2;unfold lbI at this ⊢;simp[hlt,this]
theorem at_found {tl:List Cl}(hs:(tl.map Cl.id).Pairwise (· ≤ ·)){id:Int}(h:(findT tl id).isSome=true):atC tl id=lbI (tl.map Cl.id) id:=by
 obtain ⟨c,hc⟩:=Option.isSome_iff_exists.1 h;have hm:(tl.map Cl.id).contains id=true:=by
  obtain ⟨h1,h2⟩:=findT_mem hc;simp;exact⟨c,h1,h2⟩
 unfold atC;rw[if_pos hm]
def refProdBad (a b:List Cl):Bool:=!decide ((refCheckC a).2=0) || !decide ((refCheckC b).2=0)||decide (((tabC a).length:Int) * (tabC b).length>4000)
def refProdC (a b:List Cl):List Cl:=if refProdBad a b then [] else if (refCheckC (prodAll a b)).2=0 then canonC (prodAll a b) else []
theorem flatMap_take_succ {α β:Type}{l:List α}{i:Nat}(h:i<l.length)(f:α→List β):(l.take (i+1)).flatMap f=(l.take i).flatMap f++f l[i]:=by
 rw[tS h,List.flatMap_append];simp
end Go.Proofs.YteahknngoogpaaaGreatDoor
namespace Go.Sy
open Go
section
variable {P:Program}{N:Nat}{E:World}{ops:Array Oper}{Q:Exit→Act→World→Prop}{g0:PH}{s0:Own}{tail:List Nat}{f:Fr}{g g':PH}{s s':Own}{L:Array Bool}{n:Nat}
theorem SX.to (h:∀ w,At E g s w→At E g' s' w)(hc:SX P N E ops Q g0 s0 tail L n f g' s'):SX P N E ops Q g0 s0 tail L n f g s:=fun a w h1 hcl ha hw hb=>hc a w h1 hcl ha (h w hw) hb
theorem SX.facts (h:(∃ w,At E g s w)→SX P N E ops Q g0 s0 tail L n f g s):SX P N E ops Q g0 s0 tail L n f g s:=fun a w h1 hcl ha hw hb=>h ⟨w,hw⟩ a w h1 hcl ha hw hb
theorem SX.freezeRow {T:TypeId}{k m:Nat}{v:Value}{xs:List Value}(h:∀ g',Le g g'→Sl g' k v m xs→SX P N E ops Q g0 s0 tail L n f g' s):SX P N E ops Q g0 s0 tail L n f g (row T k v m xs::s):=fun a w h1 hcl ha hw hb=>by
 obtain ⟨g',h3,h4,h5⟩:=hw.freezeRow;exact h g' h3 h5 a w h1 hcl ha h4 hb
end
end Go.Sy
namespace Go.Proofs.YteahknngoogpaaaGreatDoor
open _root_.Go.Proofs.Tryz _root_.Go.Proofs.YteahknngoogpaaaGreatDoor.Tryz
open Go Go.Sy Go.Pl Go.Proofs
set_option maxRecDepth 100000
def setsC (ls:List (List Int)):List (List Int):=(ls.take 5).map fun l=>(l.take 4).map fun x=>modW x 7
theorem map_take_succ {α β:Type}{l:List α}{i:Nat}(h:i<l.length)(f:α→β):(l.take (i+1)).map f=(l.take i).map f++[f l[i]]:=by
 rw[tS h,List.map_append]; rfl
def mixC (id k:Int):Int:=if k=1 then id else IntKind.i64.wrap ((IntKind.i64.wrap (id * k)).tmod 211+1)
theorem simpAll_facts:∀ (all ls:List (List Int)),all.length≤4000→(∀ x∈all,x.length≤9)→∀ r,simpAll all ls=some r→r.length≤4000∧∀ x∈r,x.length≤9
 | all,[],h1,h2,r,h=>by cases h; exact⟨h1,h2⟩
 | all,t::ls,h1,h2,r,h=>by
  unfold simpAll at h;split at h
  ·exact simpAll_facts all ls h1 h2 r h
  ·rename_i hb;split at h
   ·cases h
   ·rename_i hl;refine simpAll_facts _ ls oM (fun x hx=>?_) r h
    rcases addSets_mem hx with hx | hx
    ·exact h2 x hx
    ·refine subsetsC_short ?_ x hx;cases hT:setC t with
     | nil=>simp
     | cons a r =>
      rw[hT] at hb;simp only[badSet,Bool.or_eq_true,decide_eq_true_iff,not_or] at hb;omega
theorem simpC_fits (ls:List (List Int)):Fits (simpC ls)∧(simpC ls).length≤4000:=by
 unfold simpC;cases h:simpAll [] ls with
 | none=>exact⟨⟨by simp,by simp⟩,by simp⟩
 | some all =>
  obtain ⟨h1,h2⟩:=simpAll_facts [] ls (by simp) (by simp) all h;have h3:(canonC (simpCells all)).length≤4000:=by rw[canonC_length,simpCells_length]; exact h1
  exact⟨canonC_fits (simpCells_fits h1 h2),h3⟩
theorem refProdC_fits (a b:List Cl):Fits (refProdC a b)∧(refProdC a b).length≤4000:=by
 unfold refProdC;split
 ·exact⟨⟨by simp,by simp⟩,by simp⟩
 ·rename_i hbad;split
  ·have ha:(refCheckC a).2=0:=Decidable.of_not_not fun h=>hbad (by simp[refProdBad,h]);have hb:(refCheckC b).2=0:=Decidable.of_not_not fun h=>hbad (by simp[refProdBad,h]);have hsz:((tabC a).length:Int) * (tabC b).length≤4000:=by
    refine Decidable.of_not_not fun h=>hbad ?_;have:((tabC a).length:Int) * (tabC b).length>4000:=oM;simp[refProdBad,this]
   obtain ⟨_,_,hat,haf⟩:=refRight_facts ha;obtain ⟨_,_,hbt,hbf⟩:=refRight_facts hb;rw[← hat] at haf;rw[← hbt] at hbf;have hprod:prodAll a b=(tabC a).flatMap fun x=>(tabC b).map (prodCell (tabC a) (tabC b) x):=by unfold prodAll; rw[← hat,← hbt]
   have hpl:(prodAll a b).length≤4000:=by
    rw[hprod,flatMap_len];have h4:(((tabC a).length * (tabC b).length:Nat):Int)≤4000:=by rw[Int.natCast_mul]; exact hsz
    omega
   have hfit:Fits (prodAll a b):=by
    refine⟨oM,fun c hc=>?_⟩;rw[hprod] at hc;obtain ⟨x,hx,hc⟩:=List.mem_flatMap.1 hc;obtain ⟨y,hy,rfl⟩:=List.mem_map.1 hc;have h1:=(form_ok (haf x hx)).1;have h2:=(form_ok (hbf y hy)).1;simp[prodCell];omega
   exact⟨canonC_fits hfit,by rw[canonC_length]; exact hpl⟩
  ·exact⟨⟨by simp,by simp⟩,by simp⟩
def torusC:List Cl:=refProdC (simpC [[0,1],[1,2],[0,2]]) (simpC [[0,1],[1,2],[0,2]])
theorem sets_small (ls:List (List Int)):(setsC ls).length≤5∧∀ x∈setsC ls,x.length≤4:=by
 refine⟨by simp[setsC]; omega,fun x hx=>?_⟩;obtain ⟨l,_,rfl⟩:=List.mem_map.1 hx;simp;omega
def surf0:List (List Int):=[[0,1,2],[0,1,3],[0,2,3],[1,2,3]]
def surf1:List (List Int):=[[0,1,2],[0,2,3],[0,3,4],[0,4,5],[0,1,5],[1,2,4],[2,3,5],[1,3,4],[2,4,5],[1,3,5]]
def surf2 (k:Nat):List (List Int):=(List.range k).flatMap fun (i:Nat)=>[[(i:Int),((i:Int)+1).tmod 7,((i:Int)+3).tmod 7],[(i:Int),((i:Int)+2).tmod 7,((i:Int)+3).tmod 7]]
def surfC (n:Int):List (List Int):=if modW n 3=0 then surf0 else if modW n 3=1 then surf1 else surf2 7
theorem surf2_succ (k:Nat):surf2 (k+1)=surf2 k++[[(k:Int),((k:Int)+1).tmod 7,((k:Int)+3).tmod 7],[(k:Int),((k:Int)+2).tmod 7,((k:Int)+3).tmod 7]]:=by
 simp[surf2,List.range_succ,List.flatMap_append]
theorem surf2_length (k:Nat):(surf2 k).length=2 * k:=by
 induction k with
 | zero=>rfl
 | succ k ih=>rw[surf2_succ,List.length_append,ih]; simp; omega
set_option maxHeartbeats 1000000
def polyV (k:Nat):List Cl:=(List.range k).map fun (i:Nat)=>⟨(i:Int)+1,0,[]⟩
def polyE (n k:Nat):List Cl:=(List.range k).map fun (i:Nat)=>⟨(n:Int)+i+1,1,[⟨(i:Int)+1,-1⟩,⟨((i:Int)+1).tmod n+1,1⟩]⟩
def polyS (n k:Nat):List Side:=(List.range k).map fun (i:Nat)=>⟨(n:Int)+i+1,1⟩
def polyAll (n:Nat):List Cl:=polyV n++polyE n n++[⟨2 * (n:Int)+1,2,polyS n n⟩]++(if (n:Int).tmod 2=0 then [⟨2 * (n:Int)+2,2,polyS n n⟩] else [])
def polyC (n:Nat):List Cl:=canonC (polyAll n)
theorem polyV_succ (k:Nat):polyV (k+1)=polyV k++[⟨(k:Int)+1,0,[]⟩]:=by simp[polyV,List.range_succ]
theorem polyE_succ (n k:Nat):polyE n (k+1)=polyE n k++[⟨(n:Int)+k+1,1,[⟨(k:Int)+1,-1⟩,⟨((k:Int)+1).tmod n+1,1⟩]⟩]:=by simp[polyE,List.range_succ]
theorem polyS_succ (n k:Nat):polyS n (k+1)=polyS n k++[⟨(n:Int)+k+1,1⟩]:=by simp[polyS,List.range_succ]
theorem polyS_length (n k:Nat):(polyS n k).length=k:=by simp[polyS]
theorem polyAll_fits {n:Nat}(h:n≤6):Fits (polyAll n)∧(polyAll n).length≤14:=by
 have hl:(polyAll n).length≤14:=by
  unfold polyAll;split <;> simp[polyV,polyE] <;> omega
 refine⟨⟨oM,fun c hc=>?_⟩,hl⟩;unfold polyAll at hc
 rcases List.mem_append.1 hc with hc | hc
 ·rcases List.mem_append.1 hc with hc | hc
  ·rcases List.mem_append.1 hc with hc | hc
   ·obtain ⟨i,_,rfl⟩:=List.mem_map.1 hc;simp
   ·obtain ⟨i,_,rfl⟩:=List.mem_map.1 hc;simp
  ·simp at hc;subst hc;simp[polyS_length];omega
 ·split at hc
  ·simp at hc;subst hc;simp[polyS_length];omega
  ·simp at hc
theorem Tryz.buildD54 (x:Int)(w:World):(Instr.build 54 #[(0,vi x)]).run Tryz.prog w = .ok (.agg #[vi x,vi 0,.slice none 0 0]) w:=by
 have hz:(Value.agg #[vi 0,vi 0,Value.slice none 0 0]).cells = #[vi 0,vi 0,.slice none 0 0]:=rfl;have h1:∀ z:Int,(vi z).cells = #[vi z]:=fun _=>rfl;simp[Instr.build,Instr.fill,hz,h1]
theorem modW_range (a b:Int)(h0:0<b)(h1:b≤1000):0≤modW a b∧modW a b<b:=by
 have h2:a.tmod b<b:=Int.tmod_lt_of_pos a h0;have h3 : -b<a.tmod b:=by
  have:=Int.lt_tmod_of_pos a h0;omega
 unfold modW;rw[IntWalk.i64_in _ oM,Int.tmod_eq_emod_of_nonneg oM];exact⟨Int.emod_nonneg _ oM,Int.emod_lt_of_pos _ h0⟩
def renK (y:Int):Int:=1+2 * modW (IntKind.i64.wrap (y.tdiv 7)) 3
def renT (y:Int):Int:=modW (IntKind.i64.wrap (y.tdiv 5)) 4
def turn1 (t:Int)(x:Cl):Bool:=decide (t>1)&&decide (x.id.tmod t=1)
def turn2 (t:Int)(x:Cl)(q:Int):Bool:=(decide (t>1)&&decide (x.dim>1))&&decide (q.tmod t=1)
def negIf (b:Bool)(a:Int):Int:=if b then IntKind.i64.wrap (0 - a) else a
def renSide (k t:Int)(x:Cl)(q:Side):Side:=⟨mixC q.cell k,negIf (turn2 t x q.cell) (negIf (turn1 t x) q.sign)⟩
def renCell (k t:Int)(x:Cl):Cl:=⟨mixC x.id k,x.dim,x.sides.map (renSide k t x)⟩
def renC (l:List Cl)(y:Int):List Cl:=canonC (l.map (renCell (renK y) (renT y)))
theorem ren_fits {l:List Cl}(h:Fits l)(k t:Int):Fits (l.map (renCell k t)):=by
 refine⟨by simpa using h.1,fun c hc=>?_⟩;obtain ⟨x,hx,rfl⟩:=List.mem_map.1 hc;simpa [renCell] using h.2 x hx
def three (j:Int):List (List Int):=if j=0 then [[0,1]] else if j=1 then [[0,1],[1,2]] else [[0,1],[1,2],[0,2]]
def sel3 (j:Int)(a b c:Value):Value:=if j=0 then a else if j=1 then b else c
theorem sel3_get {j:Int}(h:0≤j∧j<3)(a b c:Value) : #[a,b,c][0+j.toNat * 1]?=some (sel3 j a b c):=by
 rcases (by omega:j=0∨j=1∨j=2) with rfl | rfl | rfl <;> rfl
theorem three_lists {g:PH}{j:Int}(h:0≤j∧j<3){a b c:Value}(ha:Lists g a [[0,1]])(hb:Lists g b [[0,1],[1,2]])(hc:Lists g c [[0,1],[1,2],[0,2]]):Lists g (sel3 j a b c) (three j):=by
 rcases (by omega:j=0∨j=1∨j=2) with rfl | rfl | rfl
 ·exact ha
 ·exact hb
 ·exact hc
theorem three_small (j:Int):(three j).length≤3∧∀ x∈three j,x.length≤2:=by
 unfold three;split
 ·exact⟨by decide,by decide⟩
 ·split
  ·exact⟨by decide,by decide⟩
  ·exact⟨by decide,by decide⟩
theorem surf_small (y:Int):4≤(surfC y).length∧(surfC y).length≤14∧∀ x∈surfC y,x.length≤3:=by
 unfold surfC;split
 ·exact⟨by decide,by decide,by decide⟩
 ·split
  ·exact⟨by decide,by decide,by decide⟩
  ·refine⟨by rw[surf2_length]; decide,by rw[surf2_length]; decide,fun x hx=>?_⟩;obtain ⟨i,_,hx⟩:=List.mem_flatMap.1 hx;simp at hx
   rcases hx with rfl | rfl <;> simp
def baseM (m:Int)(ls:List (List Int))(y:Int):List Cl :=
 if m=3 then simpC (surfC y) else if m=4 then refProdC (simpC (three (modW y 3))) (simpC (three (modW (IntKind.i64.wrap (y.tdiv 3)) 3)))
 else if m=5 then polyC (2+modW y 5).toNat else if m=6 then refProdC (refProdC (simpC [[0,1]]) (simpC [[0,1]])) (simpC [[0,1]])
 else if m=7 then simpC (setsC ls++(surfC y).take (2+modW y 2).toNat) else simpC (setsC ls)
theorem baseM_fits (m:Int)(ls:List (List Int))(y:Int):Fits (baseM m ls y):=by
 unfold baseM;have h5:=modW_range y 5 dC dC
 repeat' split
 ·exact (simpC_fits _).1
 ·exact (refProdC_fits _ _).1
 ·exact canonC_fits (polyAll_fits oM).1
 ·exact (refProdC_fits _ _).1
 ·exact (simpC_fits _).1
 ·exact (simpC_fits _).1
def bigC (b:List Cl):List Cl:=if (b.length:Int)>45 then torusC else b
def madeC (kd:Int)(ls:List (List Int))(y:Int):List Cl:=renC (bigC (baseM (modW kd 8) ls y)) y
theorem bigC_fits {b:List Cl}(h:Fits b):Fits (bigC b):=by
 unfold bigC;split
 ·exact (refProdC_fits _ _).1
 ·exact h
theorem madeC_fits (kd:Int)(ls:List (List Int))(y:Int):Fits (madeC kd ls y):=canonC_fits (ren_fits (bigC_fits (baseM_fits _ _ _)) _ _)
open Go.ChangeShapes Go.WideShapes Go.ChangeAt Go.RowKit
set_option maxRecDepth 100000
def held (W:World):PH:=fun b=>W.heap[b]?
def E0 (W:World):World:={ W with drawn:=0 }
theorem at_start (W:World):At (E0 W) (held W) [] W:=⟨rfl,⟨rfl,Nat.zero_le _⟩,rfl,fun _ _ h=>h,by simp,by simp,List.Pairwise.nil⟩
theorem at_below {W W':World}{g:PH}{s:Own}(h:At (E0 W) g s W')(hl:Le (held W) g):Below W.heap.size W W':=by
 have hb:∀ k,k<W.heap.size→W'.heap[k]?=W.heap[k]?:=fun k hk=>by
  have h1:W.heap[k]?=some W.heap[k]:=Array.getElem?_eq_getElem hk;rw[h1];exact h.known k _ (hl k _ h1)
 refine⟨h.os,h.tape.1,h.output,?_,hb⟩;refine Decidable.of_not_not fun hc=>?_;have h1:=hb W'.heap.size oM;rw[Array.getElem?_eq_none (lR _),Array.getElem?_eq_getElem oM] at h1;cases h1
theorem row_sl {W:World}{a:Addr}{len cap:Nat}{xs:List Value}(hl:len≤cap)(hx:xs.length=len)(hc:∀ i x,xs[i]?=some x→W.cell? (a.add i)=some x):Sl (held W) 1 (.slice (some a) len cap) len xs:=by
 refine⟨some a,cap,I,⟨oM,hl⟩,fun hne=>?_⟩;obtain ⟨b,o,sp⟩:=a;have h0:0<xs.length:=List.length_pos_iff.2 hne;have hc0:=hc 0 xs[0] (gE h0);have hsp:sp=none:=by simpa [Addr.add] using World.cell?_spot hc0
 subst hsp;have hadd:∀ i,(⟨b,o,none⟩:Addr).add i=⟨b,o+i,none⟩:=fun i=>by unfold Addr.add; split <;> simp_all
 simp only[hadd] at hc;have hcell:∀ i x,xs[i]?=some x→∃ cs T fr,W.heap[b]?=some (.cells cs T fr)∧cs[o+i]?=some x:=fun i x hi=>by
  have h1:=hc i x hi;unfold World.cell? at h1;split at h1
  ·rename_i cs T fr hh;exact⟨cs,T,fr,hh,by simpa using h1⟩
  ·cases h1
 obtain ⟨cs,T,fr,hb,_⟩:=hcell 0 xs[0] (gE h0);refine⟨b,o,cs,T,fr,I,hb,fun j x hj=>?_⟩;obtain ⟨cs',T',fr',hb',h2⟩:=hcell j x hj;rw[hb] at hb';cases hb';exact h2
section
variable {H:Type}{enc:TypeId×Value→H}{W:World}{base:Nat}{spare:Nat→Bool}{hd:Bool}
theorem Tryz.cells3:Tryz.prog.cellsOf 3=1:=by kernel_rfl
theorem Tryz.cells22:Tryz.prog.cellsOf 22=1:=by kernel_rfl
theorem Tryz.cells41:Tryz.prog.cellsOf 41=3:=by kernel_rfl
theorem ints_of {fuel:Nat}{v:Value}{x:DataW H×List MemPlace}(h:DataW.trod enc Tryz.prog W base spare hd fuel 22 [v]=some x):∃ (l:List Int) (r:Sv),v = .slice r.p r.n r.c∧Ints (held W) v l:=by
 rcases open_ints uT22 uT3 cells3 h with ⟨hcs,_⟩ | ⟨a,len,cap,zs,hcs,_,hl,_,hz,_,hcell,_⟩
 ·simp at hcs;subst hcs;exact⟨[],⟨none,0,0⟩,I,Sl.nil _ _⟩
 ·simp at hcs;subst hcs;have hlz:len≤zs.length:=by rw[hz]; split <;> omega
  have hlen:(zs.take len).length=len:=by rw[List.length_take]; omega
  have he:(zs.take len).flatMap encInt.enc=(zs.take len).map vi:=by
   rw[List.flatMap_def];induction zs.take len with
   | nil=>rfl
   | cons y t ih=>simp[encInt] at ih ⊢; exact ih
  refine⟨zs.take len,⟨some a,len,cap⟩,I,?_⟩;show Sl (held W) 1 _ (zs.take len).length ((zs.take len).flatMap encInt.enc);rw[he,hlen];refine row_sl hl (by rw[List.length_map,hlen]) fun i y hi=>?_;rw[List.getElem?_map] at hi;cases hc:(zs.take len)[i]? with
  | none=>rw[hc] at hi; cases hi
  | some z =>
   rw[hc] at hi;cases hi;have hil:i<(zs.take len).length:=(List.getElem?_eq_some_iff.1 hc).1;have hi2:i<zs.length:=oM;rw[hcell i hi2];have:zs.getD i 0=z:=by
    rw[List.getElem?_take] at hc;split at hc
    ·rw[List.getD_eq_getElem?_getD,hc]; rfl
    ·cases hc
   rw[this]
theorem all2_map {α β γ:Type}{R:α→β→Prop}{f:γ→α}{k:γ→β}:∀ {l:List γ},(∀ i∈l,R (f i) (k i))→All2 R (l.map f) (l.map k)
 | [],_=>trivial
 | x::l,h=>⟨h x (by simp),all2_map fun i hi=>h i (by simp[hi])⟩
instance:Inhabited (List Int×Sv):=⟨([],⟨none,0,0⟩)⟩
theorem lists_of {fuel:Nat}{v:Value}{x:DataW H×List MemPlace}(h:DataW.trod enc Tryz.prog W base spare hd fuel 108 [v]=some x):∃ ls,Lists (held W) v ls:=by
 rcases Go.Deep.open_slice1 uT108 cells22 h with ⟨hcs,_⟩ | ⟨a,len,cap,m,n,V,D,Pl,hcs,_,hl,_,hmm,_,hx⟩
 ·simp at hcs;subst hcs;exact⟨[],[],Sl.nil _ _,trivial⟩
 ·simp at hcs;subst hcs;have hlm:len≤m:=by rw[hmm]; split <;> omega
  obtain ⟨f,hf⟩:=Go.Deep.choose_lt (α:=List Int×Sv) (n:=len) (p:=fun i y=>V i = .slice y.2.p y.2.n y.2.c∧Ints (held W) (V i) y.1) fun i hi=>by
   obtain ⟨l,r,h1,h2⟩:=ints_of (hx i oM).2;exact⟨(l,r),h1,h2⟩
  refine⟨(List.range len).map fun i=>(f i).1,(List.range len).map fun i=>(f i).2,?_,all2_map fun i hi=>?_⟩
  ·show Sl (held W) 1 _ ((List.range len).map fun i=>(f i).2).length (((List.range len).map fun i=>(f i).2).flatMap encSv.enc);have he:((List.range len).map fun i=>(f i).2).flatMap encSv.enc=(List.range len).map fun i=>V i:=by
    have:∀ l:List Nat,(∀ i∈l,i<len)→(l.map fun i=>(f i).2).flatMap encSv.enc=l.map fun i=>V i:=by
     intro l;induction l with
     | nil=>intro _; rfl
     | cons y t ih =>
      intro hy;rw[List.map_cons,List.flatMap_cons,ih fun i hi=>hy i (by simp[hi]),List.map_cons,(hf y (hy y (by simp))).1];rfl
    exact this _ fun i hi=>List.mem_range.1 hi
   rw[he,List.length_map,List.length_range];refine row_sl hl (by simp) fun i y hi=>?_;rw[List.getElem?_map] at hi;cases hc:(List.range len)[i]? with
   | none=>rw[hc] at hi; cases hi
   | some z =>
    rw[hc] at hi;cases hi;obtain ⟨h1,h2⟩:=List.getElem?_eq_some_iff.1 hc;simp at h1 h2;subst h2;exact (hx i oM).1
  ·have:=hf i (List.mem_range.1 hi);unfold ListR;rw[← this.1];exact this.2
theorem okWide_array {r:Reach}{b0:Nat}{P:Program}{w:World}{t e:TypeId}{n:Nat}{v:Value}(ht:P.underlying t=some (.array n e))(h:Value.okWide P w r b0 t v):∃ cs,v = .agg cs∧cs.size=P.cellsOf t:=by
 simp only[Value.okWide,ht] at h;obtain ⟨cs,h1,h2,_⟩:=h;exact⟨cs,h1,h2⟩
theorem three_of {r:Reach}{b0:Nat}{v:Value}{d:DataW H}{p:List MemPlace}(hv:Value.okWide Tryz.prog W r b0 41 v)(h:DataW.Trod enc Tryz.prog W base spare hd 41 v d p):∃ a b c:Int,v = .agg #[vi a,vi b,vi c]:=by
 obtain ⟨cs,rfl,hsz⟩:=okWide_array underlying41 hv;rw[cells41] at hsz;obtain ⟨l⟩:=cs
 match l,hsz with
 | [c0,c1,c2],_ =>
  obtain ⟨fuel,hf⟩:=h;obtain ⟨y0,y1,y2,n,_,h0,h1,h2⟩:=trod_array3 underlying41 cells3 (by simpa [Value.cells] using hf);obtain ⟨a,e0,_,_⟩:=DataW.trod_int uT3 h0;obtain ⟨b,e1,_,_⟩:=DataW.trod_int uT3 h1;obtain ⟨c,e2,_,_⟩:=DataW.trod_int uT3 h2;simp at e0 e1 e2;subst e0;subst e1;subst e2;exact⟨a,b,c,I⟩
end
theorem find_self {A:List Cl}(h:(A.map Cl.id).Nodup){x:Cl}(hx:x∈A):findT A x.id=some x:=by
 induction A with
 | nil=>simp at hx
 | cons c t ih =>
  simp only[List.map_cons,List.nodup_cons] at h;unfold findT
  rcases List.mem_cons.1 hx with rfl | hx
  ·simp
  ·have hne:¬ c.id=x.id:=fun e=>h.1 (by rw[e]; exact List.mem_map.2 ⟨x,hx,rfl⟩);rw[List.find?_cons];simp only[hne,decide_false];exact ih h.2 hx
end Go.Proofs.YteahknngoogpaaaGreatDoor
namespace Go.Sy
open Go
section
variable {P:Program}{N:Nat}{E:World}{f:Fr}{g:PH}{s s1:Own}{dst:Option Tmp}{ty:TypeId}{pos:String}{af:Array Edge}{gd:Option (Nat×Bool)}{α:Type}{k:Nat}{e:Enc α k}
def que (e:Enc α k)(T:TypeId)(v:Value)(l:List α):Ent :=
 ⟨rblk v,fun oo=>(∃ p,v = .slice p 0 0∧l=[]) ∨
  ∃ b o cap cur,v = .slice (some ⟨b,o,none⟩) l.length (cap+1)∧oo=some (.cells cur T (0,0))∧l.length≤cap+1∧cap+1≤maxLen∧cur.size=o+(cap+1) * k∧(cur.toList.drop o).take (l.length * k)=l.flatMap e.enc⟩
theorem que_is {w:World}{T:TypeId}{i:Nat}{v:Value}{l:List α}(h:At E g s w)(hi:s[i]?=some (que e T v l)):(∃ p,v = .slice p 0 0∧l=[]) ∨
  ∃ b o cap cur,v = .slice (some ⟨b,o,none⟩) l.length (cap+1)∧w.heap[b]?=some (.cells cur T (0,0))∧l.length≤cap+1∧cap+1≤maxLen∧cur.size=o+(cap+1) * k∧(cur.toList.drop o).take (l.length * k)=l.flatMap e.enc:=by
 rcases h.own _ (List.mem_of_getElem? hi) with h2 | ⟨b,o,cap,cur,rfl,ho,h3⟩
 ·exact .inl h2
 ·refine .inr ⟨b,o,cap,cur,I,?_,h3⟩;simpa [que,rblk] using ho
theorem que_holds {w:World}{T:TypeId}{b o cap:Nat}{l:List α}{cur:Array Value}(hb:w.heap[b]?=some (.cells cur T (0,0)))(hn:l.length≤cap+1)(hc:cap+1≤maxLen)(hs:cur.size=o+(cap+1) * k)(ht:(cur.toList.drop o).take (l.length * k)=l.flatMap e.enc) :
  (que e T (.slice (some ⟨b,o,none⟩) l.length (cap+1)) l).holds ((que e T (.slice (some ⟨b,o,none⟩) l.length (cap+1)) l).blk.bind fun b=>w.heap[b]?) :=
 .inr ⟨b,o,cap,cur,rfl,by simpa [que,rblk] using hb,hn,hc,hs,ht⟩
theorem que_form {w:World}{T:TypeId}{i:Nat}{v:Value}{l:List α}(h:At E g s w)(hi:s[i]?=some (que e T v l)):∃ p c,v = .slice p l.length c∧(0<l.length→based v=true):=by
 rcases que_is h hi with ⟨p,rfl,rfl⟩ | ⟨b,o,cap,cur,rfl,_⟩
 ·exact⟨_,_,I,fun h=>absurd h (by simp)⟩
 ·exact⟨_,_,I,fun _=>I⟩
theorem At.toQue {w:World}{T:TypeId}{i:Nat}{v:Value}{l:List α}(h:At E g s w)(hi:s[i]?=some (rowA e T v l)):At E g (s.set i (que e T v l)) w:=by
 obtain ⟨hxl,hform⟩:=row_is h hi;refine h.turn hi I ⟨I,lR _⟩ I (lR _) (fun _ _ _=>I) ?_ (fun b hb=>⟨(h.fresh _ (List.mem_of_getElem? hi) b hb).2,.inl hb⟩)
 rcases hform with ⟨q,rfl,h0⟩ | ⟨b,cap,cur,rfl,hg,hle,hcm,hcs,htake⟩
 ·exact .inl ⟨q,I,List.eq_nil_of_length_eq_zero h0⟩
 ·exact que_holds hg hle hcm (by rw[hcs]; omega) (by simpa using htake)
theorem At.front {w:World}{T:TypeId}{i c n:Nat}{p:Option Addr}{a:α}{l:List α}(h:At E g s w)(hi:s[i]?=some (que e T (.slice p n c) (a::l))):At E g (s.set i (que e T (sliced p 1 n c k) l)) w:=by
 rcases que_is h hi with ⟨q,he,h0⟩ | ⟨b,o,cap,cur,he,hg,hle,hcm,hcs,htake⟩
 ·cases h0
 ·injection he with e1 e2 e3
  subst e1; subst e2; subst e3;have hfr:=h.fresh _ (List.mem_of_getElem? hi) b rfl;cases cap with
  | zero =>
   have hl0:l=[]:=by simpa using hle
   subst hl0;refine h.turn hi I ⟨I,lR _⟩ I (lR _) (fun _ _ _=>I) (.inl ⟨_,I,I⟩) (fun b' hb'=>?_);simp[que,sliced,rblk] at hb'
  | succ cap =>
   have hsl:sliced (some ⟨b,o,none⟩) 1 (a::l).length (cap+1+1) k = .slice (some ⟨b,o+k,none⟩) l.length (cap+1):=by
    simp[sliced,Addr.add_lit]
   rw[hsl];refine h.turn hi I ⟨I,lR _⟩ I (lR _) (fun _ _ _=>I) ?_ (fun b' hb'=>?_)
   ·refine que_holds hg (by simpa using hle) oM (by rw[hcs,Nat.succ_mul (cap+1)]; omega) ?_;have h1:=congrArg (List.drop k) htake;rw[List.flatMap_cons,List.drop_left' (e.len a),List.drop_take,List.drop_drop] at h1;have h2:(a::l).length * k - k=l.length * k:=by rw[List.length_cons,Nat.succ_mul]; omega
    rw[h2] at h1;exact h1
   ·simp only[que,rblk,Option.some.injEq] at hb';subst hb';exact⟨hfr.2,.inl I⟩
theorem Rd.que {T:TypeId}{v:Value}{l:List α}(i:Nat)(hi:s[i]?=some (que e T v l)):Rd g s v (l.flatMap e.enc):=by
 intro E w hw j x hj
 rcases que_is hw hi with ⟨p,rfl,rfl⟩ | ⟨b,o,cap,cur,rfl,hb,_,_,_,ht⟩
 ·simp at hj
 ·refine⟨⟨b,o,none⟩,l.length,cap+1,I,I,?_⟩;rw[← ht,List.getElem?_take] at hj;split at hj
  ·rw[List.getElem?_drop] at hj;simp[World.cell?,hb];simpa using hj
  ·cases hj
theorem run_append_roomO (w:World)(t ty e:TypeId)(i:TypeInfo)(ht:P.underlying t=some (.slice e))(hi:P.info? e=some i)
  (g o sLen sCap:Nat) (cur:Array Value) (hg:w.heap[g]?=some (.cells cur e (0,0)))
  (a:Addr) (m c:Nat) (news:List Value) (hl:news.length=m * i.size) (hnews:∀ j u,news[j]?=some u→w.cell? (a.add j)=some u) (h1:∀ u∈news,u.oneCell'=true)
  (hroom:sLen+m≤sCap) (hfit:o+sLen * i.size+news.length≤cur.size) :
  (Builtin.append_ #[t,t] ty #[.slice (some ⟨g,o,none⟩) sLen sCap,.slice (some a) m c]).run P w =
   .ok (.slice (some ⟨g,o,none⟩) (sLen+m) sCap) (w.setRow g (cur.toList.take (o+sLen * i.size)++news++cur.toList.drop (o+sLen * i.size+news.length)).toArray):=by
 have hf:=run_firstCells_some (P:=P) w i.size m a m c news hl hnews;have hst:=run_storeCells_at P g (o+sLen * i.size) e news 0 cur w hg (by simpa using hfit) h1;simp only[Nat.add_zero] at hst;simp[Builtin.append_,run_underlying ht,sizeOf,typeInfo,hi,Builtin.lenOf,hroom,hf,Addr.add_lit,hst]
theorem At.newQue {w w':World}{T:TypeId}{i cap:Nat}{v:Value}{l:List α}{a:α}{zs:List Value}(h:At E g s w)(hi:s[i]?=some (que e T v l))(hw':w'=w.drew.alloc (.cells ((l.flatMap e.enc).toArray++(e.enc a).toArray++zs.toArray) T))
  (hc:l.length+1≤cap) (hcm:cap≤maxLen) (hz:zs.length=(cap - (l.length+1)) * k) :
  At E g (s.set i (que e T (.slice (some ⟨w.heap.size,0,none⟩) (l.length+1) cap) (l++[a]))) w':=by
 subst hw';obtain ⟨cap,rfl⟩:∃ c,cap=c+1:=⟨cap - 1,oM⟩;have hnew:(w.drew.alloc (.cells ((l.flatMap e.enc).toArray++(e.enc a).toArray++zs.toArray) T)).heap[w.heap.size]?=some (.cells ((l.flatMap e.enc).toArray++(e.enc a).toArray++zs.toArray) T (0,0)):=heap_alloc_new w.drew _;have hlen:l.length+1=(l++[a]).length:=by simp
 rw[hlen];refine h.turn hi I ⟨I,(by exact Nat.le_add_right _ _)⟩ I (by simp) (fun k hk _=>by (first | exact heap_alloc_old w.drew _ k hk | exact heap_alloc_old w.drew _ hk)) (que_holds hnew (by simpa using hc) hcm ?_ ?_) (fun b hb=>?_)
 ·simp only[Array.size_append,List.size_toArray,e.length,e.len,hz];have:(cap+1) * k=(l.length+1) * k+(cap+1 - (l.length+1)) * k:=by rw[← Nat.add_mul]; congr 1; omega
  rw[this,Nat.add_mul];omega
 ·have:(l++[a]).length * k=(l.flatMap e.enc++e.enc a).length:=by simp[e.length,e.len,Nat.add_mul]
  rw[this];simp only[Array.toList_append,List.drop_zero];rw[List.take_left,List.flatMap_append];simp
 ·simp only[que,rblk,Option.some.injEq] at hb;subst hb;exact⟨by simp,.inr (lR _)⟩
theorem SO.queA {bytes b:Nat}{x y:Operand}{t T:TypeId}{z v:Value}{l:List α}{cs:Array Value}(i:Nat)(a:α)(hT:STy P t T k bytes z)(hx:ev f x=some v)(hy:ev f y=some (.slice (some ⟨b,0,none⟩) 1 1))
  (hs:s=pt b (.cells cs T (0,0))::s1) (hi:s1[i]?=some (que e T v l)) (hc:cs.toList=e.enc a) (hb:(l.length+1) * bytes≤140737488355328) (hlen:l.length+1≤4611686018427387904) :
  SO P N E ⟨dst,.call ⟨.builtin .append,#[x,y],#[t,t]⟩,ty,pos,af,gd⟩ f g s fun v' g' s'=>g=g'∧s'=s1.set i (que e T v' (l++[a])) :=
 SO.of_run fun a0 w ha hw0=>by
  have hr:Rd g s (.slice (some ⟨b,0,none⟩) 1 1) cs.toList:=Rd.pt 0 (by rw[hs]; rfl);have hw:At E g s1 w:=hw0.sublist (by rw[hs]; exact .cons _ (.refl _));obtain ⟨ti,ht1,ht2,ht3,ht4⟩:=hT.info;rw[hc] at hr;have hcells:∀ j q,(e.enc a)[j]?=some q→w.cell? ((⟨b,0,none⟩:Addr).add j)=some q:=fun j q hq=>by
   obtain ⟨a',_,_,he,_,hc⟩:=hr E w hw0 j q hq;cases he;have hadd:(⟨b,0,none⟩:Addr).add j=⟨b,0+j,none⟩:=by unfold Addr.add; split <;> simp_all
   rw[hadd];exact hc
  have hl1:(e.enc a).length=1 * k:=by rw[e.len]; omega
  have hzs:∀ c,(Builtin.zeroCells z.cells c).toList.length=c * k:=fun c=>by simp[size_zeroCells,hT.zs]
  have key:∃ v' w',(Builtin.append_ #[t,t] ty #[v,.slice (some ⟨b,0,none⟩) 1 1]).run P w = .ok v' w'∧At E g (s1.set i (que e T v' (l++[a]))) w':=by
   rcases que_is hw hi with ⟨q,rfl,rfl⟩ | ⟨bq,o,cap,cur,rfl,hg,hle,hcm,hcs,htake⟩
   ·have hge:=grownCap_ge w (0+1) 0 T;have hcm:=grownCap_le_maxLen w (0+1) 0 T (by unfold maxLen; omega);cases q with
    | none =>
     have h5:=run_append_nil (P:=P) w t ty T ti z hT.und ht1 ht2 ⟨b,0,none⟩ 1 1 (e.enc a) (by rw[ht3]; exact hl1) hcells oM oM (by rw[ht4]; simp at hb; omega);have h6:=hw.newQue (e:=e) (l:=[]) (a:=a) (zs:=(Builtin.zeroCells z.cells (grownCap w (0+1) 0 T - (0+1))).toList) hi rfl hge hcm (by rw[hzs]; rfl);refine⟨_,_,h5,?_⟩;simpa using h6
    | some q =>
     have h5:=run_append_grow (P:=P) w t ty T ti z hT.und ht1 ht2 q 0 0 [] (by simp) (by simp) ⟨b,0,none⟩ 1 1 (e.enc a) (by rw[ht3]; exact hl1) hcells oM oM (by rw[ht4]; exact growslice_fits oM (by simpa using hb));have h6:=hw.newQue (e:=e) (l:=[]) (a:=a) (zs:=(Builtin.zeroCells z.cells (grownCap w (0+1) 0 T - (0+1))).toList) hi rfl hge hcm (by rw[hzs]; rfl);refine⟨_,_,h5,?_⟩;simpa using h6
   ·by_cases hroom:l.length+1≤cap+1
    ·have hfit:o+l.length * k+(e.enc a).length≤cur.size:=by
      rw[hl1,hcs,Nat.add_assoc,← Nat.add_mul];exact Nat.add_le_add_left (Nat.mul_le_mul_right _ hroom) _
     have h5:=run_append_roomO (P:=P) w t ty T ti hT.und ht1 bq o l.length (cap+1) cur hg ⟨b,0,none⟩ 1 1 (e.enc a) (by rw[ht3]; exact hl1) hcells (e.one a) hroom (by rw[ht3]; exact hfit);refine⟨_,_,h5,?_⟩;have hfr:=hw.fresh _ (List.mem_of_getElem? hi) bq rfl;have hlen:l.length+1=(l++[a]).length:=by simp
     rw[hlen];refine hw.turn hi I ⟨I,(by exact lR _)⟩ I (by simp) (fun k' _ hk'=>setRow_other w bq k' _ (fun e1=>hk' (by simp[que,rblk,e1]))) (que_holds (setRow_heap w bq cur _ T _ hg) (by simpa using hroom) hcm ?_ ?_) (fun b' hb'=>?_)
     ·rw[ht3];simp only[List.size_toArray,List.length_append,List.length_take,List.length_drop,Array.length_toList];omega
     ·rw[ht3];have hsz:cur.toList.length=cur.size:=by simp
      have h1:cur.toList.take (o+l.length * k)=cur.toList.take o++l.flatMap e.enc:=by
       rw[← htake,List.take_add]
      have h2:(cur.toList.take o).length=o:=by rw[List.length_take]; omega
      simp only[h1,List.append_assoc];rw[List.drop_left' h2,← List.append_assoc];have h3:(l++[a]).length * k=(l.flatMap e.enc++e.enc a).length:=by simp[e.length,e.len,Nat.add_mul]
      rw[h3,List.take_left,List.flatMap_append];simp
     ·simp only[que,rblk,Option.some.injEq] at hb';subst hb';exact⟨by simpa using hfr.2,.inl I⟩
    ·have holds:∀ j q,(l.flatMap e.enc)[j]?=some q→w.cell? ((⟨bq,o,none⟩:Addr).add j)=some q:=fun j q hq=>by
      have hadd:(⟨bq,o,none⟩:Addr).add j=⟨bq,o+j,none⟩:=by unfold Addr.add; split <;> simp_all
      rw[← htake,List.getElem?_take] at hq;split at hq
      ·rw[List.getElem?_drop] at hq;rw[hadd]; simp[World.cell?,hg]; simpa using hq
      ·cases hq
     have hge:=grownCap_ge w (l.length+1) (cap+1) T;have hcm':=grownCap_le_maxLen w (l.length+1) (cap+1) T (by unfold maxLen; omega);have h5:=run_append_grow (P:=P) w t ty T ti z hT.und ht1 ht2 ⟨bq,o,none⟩ l.length (cap+1) (l.flatMap e.enc) (by rw[ht3]; exact e.length l) holds ⟨b,0,none⟩ 1 1 (e.enc a) (by rw[ht3]; exact hl1) hcells oM oM (by rw[ht4]; exact growslice_fits oM hb);have h6:=hw.newQue (a:=a) (zs:=(Builtin.zeroCells z.cells (grownCap w (l.length+1) (cap+1) T - (l.length+1))).toList) hi rfl hge hcm' (by rw[hzs]);refine⟨_,_,h5,?_⟩;simpa using h6
  obtain ⟨v',w',hr1,hr2⟩:=key;exact⟨v',w',g,_,run_appendOp (ha.ev hx) (ha.ev hy) hr1,hr2,I,I⟩
end
end Go.Sy
namespace Go.Proofs.YteahknngoogpaaaGreatDoor
open _root_.Go.Proofs.Tryz _root_.Go.Proofs.YteahknngoogpaaaGreatDoor.Tryz
open Go Go.Sy Go.Pl Go.Proofs
def adjT (A:List Cl)(k:Int):Option (List Int):=(findT A k).map fun c=>c.sides.map Side.cell
theorem reachF_dfs (A:List Cl):∀ (n:Nat) (id:Int) (vis:List Int),reachF A n id vis=dfs (adjT A) n id vis
 | 0,_,_=>rfl
 | n+1,id,vis=>by
  rw[reachF_succ,dfs_succ];unfold adjT;cases findT A id with
  | none=>rfl
  | some c =>
   simp only[Option.map_some,List.foldl_map];congr 2;funext v x;exact reachF_dfs A n x.cell v
theorem adjT_some {A:List Cl}{k:Int}{l:List Int}(h:adjT A k=some l):∃ c,findT A k=some c∧c.sides.map Side.cell=l:=by
 unfold adjT at h;cases hf:findT A k with
 | none=>rw[hf] at h; cases h
 | some c=>rw[hf] at h; injection h with h; exact⟨c,rfl,h⟩
theorem cntF_strict (A:List Cl):∀ v k l,adjT A k=some l→l≠[]→v.contains k=false→cntF A (v++[k])<cntF A v:=by
 intro v k l hl _ hv;obtain ⟨c,hf,_⟩:=adjT_some hl;obtain ⟨hm,rfl⟩:=findT_mem hf;exact cntF_lt hm hv
def ClosedT (A:List Cl)(v:List Int):Prop:=∀ x∈v,∀ l,adjT A x=some l→∀ y∈l,adjT A y≠none→y∈v
theorem clos_fold (A:List Cl):∀ (ids v:List Int),ClosedT A v→ClosedT A (ids.foldl (fun v id=>reachF A (A.length+1) id v) v)∧(∀ x∈v,x∈ids.foldl (fun v id=>reachF A (A.length+1) id v) v) ∧
  (∀ id∈ids,adjT A id≠none→id∈ids.foldl (fun v id=>reachF A (A.length+1) id v) v)∧∀ x∈ids.foldl (fun v id=>reachF A (A.length+1) id v) v,x∈v∨∃ id∈ids,Rch (adjT A) id x
 | [],v,h=>⟨h,fun _ h=>h,by simp,fun _ h=>.inl h⟩
 | id::ids,v,h=>by
  have hc:=dfs_complete (adjT A) (cntF A) (fun v v' h=>cntF_mono h) (cntF_strict A) (A.length+1) id v (Nat.lt_succ_of_le (cntF_le _ _));have hs:=dfs_sub (adjT A) (A.length+1) id v;have hd:=dfs_sound (adjT A) (A.length+1) id v;rw[← reachF_dfs] at hc hs hd;have hcl:ClosedT A (reachF A (A.length+1) id v):=by
   intro x hx l hl y hy hn;by_cases hv:x∈v
   ·exact hs y (h x hv l hl y hy hn)
   ·exact hc.2 x hx hv l hl y hy hn
  obtain ⟨h1,h2,h3,h4⟩:=clos_fold A ids _ hcl;simp only[List.foldl_cons];refine⟨h1,fun x hx=>h2 x (hs x hx),fun q hq hn=>?_,fun x hx=>?_⟩
  ·rcases List.mem_cons.1 hq with rfl | hq
   ·exact h2 _ (hc.1 hn)
   ·exact h3 q hq hn
  ·rcases h4 x hx with h5 | ⟨q,hq,h5⟩
   ·rcases hd x h5 with h6 | h6
    ·exact .inl h6
    ·exact .inr ⟨id,by simp,h6⟩
   ·exact .inr ⟨q,by simp[hq],h5⟩
theorem mem_closF (A:List Cl)(ids:List Int)(x:Int):x∈closF A ids↔∃ id∈ids,Rch (adjT A) id x:=by
 obtain ⟨h1,_,h3,h4⟩:=clos_fold A ids [] (fun x hx=>absurd hx (by simp));refine⟨fun h=>(h4 x h).resolve_left (by simp),fun ⟨id,hid,hr⟩=>?_⟩;have key:∀ a b,Rch (adjT A) a b→a∈closF A ids→b∈closF A ids:=by
  intro a b hr;induction hr with
  | refl a _=>exact fun h=>h
  | step a b c l hl hb r ih=>exact fun h=>ih (h1 a h l hl b hb r.node)
 exact key id x hr (h3 id hid hr.node)
def costF (A:List Cl)(m:List Int):Nat:=((A.filter fun c=>!m.contains c.id).map fun c=>c.sides.length).sum
theorem costF_cons (d:Cl)(A:List Cl)(m:List Int):costF (d::A) m=(if m.contains d.id then 0 else d.sides.length)+costF A m:=by
 unfold costF;rw[List.filter_cons];cases m.contains d.id <;> simp
theorem costF_mono (A:List Cl)(m:List Int)(x:Int):costF A (m++[x])≤costF A m:=by
 induction A with
 | nil=>exact lR _
 | cons d t ih =>
  rw[costF_cons,costF_cons];have:m.contains d.id=true→(m++[x]).contains d.id=true:=fun h=>by simp at h ⊢; exact .inl h
  cases h1:m.contains d.id <;> cases h2:(m++[x]).contains d.id <;> simp_all <;> omega
theorem costF_add {A:List Cl}{m:List Int}{c:Cl}(hc:c∈A)(hn:m.contains c.id=false):costF A (m++[c.id])+c.sides.length≤costF A m:=by
 induction A with
 | nil=>simp at hc
 | cons d t ih =>
  have hm:=costF_mono t m c.id;rw[costF_cons,costF_cons]
  rcases List.mem_cons.1 hc with rfl | hc'
  ·have:(m++[c.id]).contains c.id=true:=by simp
   rw[this,hn];simp;omega
  ·have h0:=ih hc';have:m.contains d.id=true→(m++[c.id]).contains d.id=true:=fun h=>by simp at h ⊢; exact .inl h
   cases h1:m.contains d.id <;> cases h2:(m++[c.id]).contains d.id <;> simp_all <;> omega
structure Wide (A:List Cl)(ids left m:List Int):Prop where
 sound:∀ x∈m,∃ id∈ids,Rch (adjT A) id x
 todo:∀ x∈left,adjT A x≠none→∃ id∈ids,Rch (adjT A) id x
 start:∀ x∈ids,adjT A x≠none→x∈left∨x∈m
 sides:∀ x∈m,∀ l,adjT A x=some l→∀ y∈l,adjT A y≠none→y∈left∨y∈m
 few:left.length+costF A m≤ids.length+costF A []
theorem Wide.begin (A:List Cl)(ids:List Int):Wide A ids ids []:=⟨by simp,fun x hx h=>⟨x,hx,.refl x h⟩,fun x hx _=>.inl hx,by simp,Nat.le_refl _⟩
theorem Rch.snoc {adj:Int→Option (List Int)}{a b c:Int}{l:List Int}(h:Rch adj a b)(hl:adj b=some l)(hc:c∈l)(hn:adj c≠none):Rch adj a c:=by
 induction h with
 | refl a _=>exact .step a c c l hl hc (.refl c hn)
 | step a b' c' l' h' hb' _ ih=>exact .step a b' c l' h' hb' (ih hl)
theorem Wide.skip {A:List Cl}{ids left m:List Int}{x:Int}(h:Wide A ids (x::left) m)(hx:adjT A x=none∨x∈m):Wide A ids left m:=by
 refine⟨h.sound,fun y hy=>h.todo y (by simp[hy]),fun y hy hn=>?_,fun y hy l hl z hz hn=>?_,by have:=h.few; simp at this; omega⟩
 ·rcases h.start y hy hn with h1 | h1
  ·rcases List.mem_cons.1 h1 with rfl | h1
   ·rcases hx with hx | hx
    ·exact absurd hx hn
    ·exact .inr hx
   ·exact .inl h1
  ·exact .inr h1
 ·rcases h.sides y hy l hl z hz hn with h1 | h1
  ·rcases List.mem_cons.1 h1 with rfl | h1
   ·rcases hx with hx | hx
    ·exact absurd hx hn
    ·exact .inr hx
   ·exact .inl h1
  ·exact .inr h1
theorem Wide.mark {A:List Cl}{ids left m:List Int}{x:Int}{c:Cl}(h:Wide A ids (x::left) m)(hf:findT A x=some c)(hx:m.contains x=false):Wide A ids (left++c.sides.map Side.cell) (m++[x]):=by
 have ha:adjT A x=some (c.sides.map Side.cell):=by unfold adjT; rw[hf]; rfl
 have hr:∃ id∈ids,Rch (adjT A) id x:=h.todo x (by simp) (by rw[ha]; simp);obtain ⟨hcm,hcid⟩:=findT_mem hf;refine⟨fun y hy=>?_,fun y hy hn=>?_,fun y hy hn=>?_,fun y hy l hl z hz hn=>?_,?_⟩
 ·rcases List.mem_append.1 hy with hy | hy
  ·exact h.sound y hy
  ·simp at hy; subst hy; exact hr
 ·rcases List.mem_append.1 hy with hy | hy
  ·exact h.todo y (by simp[hy]) hn
  ·obtain ⟨id,hid,hr⟩:=hr;exact⟨id,hid,hr.snoc ha hy hn⟩
 ·rcases h.start y hy hn with h1 | h1
  ·rcases List.mem_cons.1 h1 with rfl | h1
   ·exact .inr (by simp)
   ·exact .inl (by simp[h1])
  ·exact .inr (by simp[h1])
 ·rcases List.mem_append.1 hy with hy | hy
  ·rcases h.sides y hy l hl z hz hn with h1 | h1
   ·rcases List.mem_cons.1 h1 with rfl | h1
    ·exact .inr (by simp)
    ·exact .inl (by simp[h1])
   ·exact .inr (by simp[h1])
  ·simp at hy;subst hy;rw[ha] at hl;injection hl with hl
   subst hl;exact .inl (List.mem_append.2 (.inr hz))
 ·have h1:=h.few;have h2:=costF_add hcm (by rw[hcid]; exact hx);rw[hcid] at h2;simp at h1 ⊢;omega
theorem Wide.done {A:List Cl}{ids m:List Int}(h:Wide A ids [] m)(x:Int):m.contains x=(closF A ids).contains x:=by
 have key:∀ a b,Rch (adjT A) a b→a∈m→b∈m:=by
  intro a b hr;induction hr with
  | refl a _=>exact fun h=>h
  | step a b c l hl hb r ih=>exact fun h1=>ih ((h.sides a h1 l hl b hb r.node).resolve_left (by simp))
 have:x∈m↔x∈closF A ids:=by
  rw[mem_closF];exact⟨h.sound x,fun ⟨id,hid,hr⟩=>key id x hr ((h.start id hid hr.node).resolve_left (by simp))⟩
 rw[Bool.eq_iff_iff];simpa using this
def inB (B:List Cl)(x:Cl):Bool:=match findT B x.id with
 | some y=>decide (x=y)
 | none=>false
def meetI (A B:List Cl)(id:Int):Bool:=match findT B id with
 | some y=>decide ((findT A id).getD zeroC=y)
 | none=>false
def meetP (A B:List Cl)(c:Cl):Bool:=(closF A [c.id]).all (meetI A B)
def meetC (A B:List Cl):List Cl:=A.filter (meetP A B)
theorem Rch.last {adj:Int→Option (List Int)}{a b:Int}(h:Rch adj a b):adj b≠none:=by
 induction h with
 | refl _ h=>exact h
 | step _ _ _ _ _ _ _ ih=>exact ih
theorem closF_in {A:List Cl}{ids:List Int}{x:Int}(h:x∈closF A ids):∃ c,findT A x=some c:=by
 obtain ⟨id,_,hr⟩:=(mem_closF A ids x).1 h;have:=hr.last;unfold adjT at this;cases hf:findT A x with
 | none=>rw[hf] at this; simp at this
 | some c=>exact⟨c,rfl⟩
theorem meetP_ref {A B:List Cl}(hA:(A.map Cl.id).Nodup)(c:Cl):(A.all fun x=>!(closF A [c.id]).contains x.id||inB B x)=meetP A B c:=by
 rw[Bool.eq_iff_iff,meetP,List.all_eq_true,List.all_eq_true];have hx:∀ x∈A,meetI A B x.id=inB B x:=fun x hx=>by unfold meetI inB; rw[find_self hA hx]; rfl
 constructor
 ·intro h id hid;obtain ⟨d,hd⟩:=closF_in hid;obtain ⟨hdm,rfl⟩:=findT_mem hd;have:=h d hdm;rw[hx d hdm];simpa [hid] using this
 ·intro h x hxm;cases hc:(closF A [c.id]).contains x.id with
  | false=>rfl
  | true =>
   have:=h x.id (by simpa using hc);rw[hx x hxm] at this;simpa using this
set_option maxRecDepth 100000
set_option maxHeartbeats 1000000
theorem Tryz.sty109:STy Tryz.prog 109 4 1 1 (vb false):=⟨underlying109,⟨t4,by kernel_rfl,by kernel_rfl,by kernel_rfl,by kernel_rfl⟩,rfl,by decide⟩
def encBool:Enc Bool 1:=⟨fun n=>[vb n],fun _=>rfl,fun _ u hu=>by simp at hu; subst hu; rfl,by decide⟩
def flags (A:List Cl)(m:List Int):List Bool:=A.map fun c=>m.contains c.id
theorem flags_nil (A:List Cl):flags A []=List.replicate A.length false:=by
 unfold flags;induction A with
 | nil=>rfl
 | cons d t ih=>simp[List.replicate_succ] at ih ⊢; exact ih
theorem flags_get {A:List Cl}{m:List Int}{k:Nat}{c:Cl}(h:A[k]?=some c):(flags A m)[k]?=some (m.contains c.id):=by simp[flags,h]
theorem flags_set {A:List Cl}{m:List Int}{k:Nat}{c:Cl}(hn:(A.map Cl.id).Nodup)(h:A[k]?=some c):(flags A m).set k true=flags A (m++[c.id]):=by
 obtain ⟨hk,hc⟩:=List.getElem?_eq_some_iff.1 h;apply List.ext_getElem?;intro q;rw[List.getElem?_set];unfold flags;simp only[List.getElem?_map,List.length_map];split
 ·rename_i e;subst e;simp[hk,hc]
 ·rename_i hne;cases hq:A[q]? with
  | none=>rfl
  | some d =>
   obtain ⟨hq1,hq2⟩:=List.getElem?_eq_some_iff.1 hq;have hd:¬ d.id=c.id:=fun e=>by
    have h1:(A.map Cl.id)[q]?=some c.id:=by simp[hq,e]
    have h2:(A.map Cl.id)[k]?=some c.id:=by simp[h]
    obtain ⟨i1,e1⟩:=List.getElem?_eq_some_iff.1 h1;obtain ⟨i2,e2⟩:=List.getElem?_eq_some_iff.1 h2
    rcases Nat.lt_or_gt_of_ne hne with h3 | h3
    ·exact List.pairwise_iff_getElem.1 hn k q i2 i1 h3 (e2.trans e1.symm)
    ·exact List.pairwise_iff_getElem.1 hn q k i1 i2 h3 (e1.trans e2.symm)
   simp[hd]
theorem atC_self {A:List Cl}{id:Int}{c:Cl}(h:findT A id=some c):c.id=id:=(findT_mem h).2
def sumsL (L:List (Int×List Side)):List (Int×Int):=L.foldl (fun zl p=>p.2.foldl (fun zl r=>addZ zl r.cell (p.1 * r.sign)) zl) []
def metL (L:List (Int×List Side)):List (Int×List Int):=L.zipIdx.foldl (fun ml p=>p.1.2.foldl (stepL p.2) ml) []
def aroundL (L:List (Int×List Side)):Int :=
 if (sumsL L).any (fun p=>decide (p.2≠0)) then 24
 else if (metL L).any (fun p=>decide ((p.2.length:Int)≠2)) then 25
 else if ((seenC (joinC (metL L))).length:Int)≠L.length then 25 else 0
def lookL (tl:List Cl)(c:Cl):List (Int×List Side):=c.sides.map fun x=>(x.sign,sidesOf tl x)
theorem aroundC_L (tl:List Cl)(c:Cl):aroundC tl c=aroundL (lookL tl c):=by
 have h1:sumsC tl c.sides=sumsL (lookL tl c):=by
  unfold sumsC sumsL lookL;rw[List.foldl_map];rfl
 have h2:metC tl c.sides=metL (lookL tl c):=by
  unfold metC metL lookL;rw[List.zipIdx_map,List.foldl_map];rfl
 have h3:(lookL tl c).length=c.sides.length:=by simp[lookL]
 unfold aroundC aroundL;rw[h1,h2,h3]
def renS (φ:Int→Int)(r:Side):Side:=⟨φ r.cell,r.sign⟩
def renL (φ:Int→Int)(L:List (Int×List Side)):List (Int×List Side):=L.map fun p=>(p.1,p.2.map (renS φ))
def keyL (L:List (Int×List Side)):List Int:=L.flatMap fun p=>p.2.map Side.cell
def ren1 {α:Type}(φ:Int→Int)(zl:List (Int×α)):List (Int×α):=zl.map fun p=>(φ p.1,p.2)
section
variable {φ:Int→Int}{K:Int→Prop}(hφ:∀ a b,K a→K b→φ a=φ b→a=b)
include hφ
theorem addZ_ren {zl:List (Int×Int)}{k:Int}(x:Int)(hz:∀ p∈zl,K p.1)(hk:K k):addZ (ren1 φ zl) (φ k) x=ren1 φ (addZ zl k x):=by
 induction zl with
 | nil=>rfl
 | cons p r ih =>
  obtain ⟨a,z⟩:=p;have ha:=hz (a,z) (by simp);simp only[ren1,List.map_cons,addZ] at ih ⊢;by_cases h:k=a
  ·subst h; simp
  ·rw[if_neg h,if_neg fun e=>h (hφ k a hk ha e)];simp only[List.map_cons];rw[ih fun p hp=>hz p (by simp[hp])]
theorem addL_ren {zl:List (Int×List Int)}{k:Int}(x:Int)(hz:∀ p∈zl,K p.1)(hk:K k):addL (ren1 φ zl) (φ k) x=ren1 φ (addL zl k x):=by
 induction zl with
 | nil=>rfl
 | cons p r ih =>
  obtain ⟨a,z⟩:=p;have ha:=hz (a,z) (by simp);simp only[ren1,List.map_cons,addL] at ih ⊢;by_cases h:k=a
  ·subst h; simp
  ·rw[if_neg h,if_neg fun e=>h (hφ k a hk ha e)];simp only[List.map_cons];rw[ih fun p hp=>hz p (by simp[hp])]
omit hφ in
theorem addZ_key {zl:List (Int×Int)}{k x:Int}(hz:∀ p∈zl,K p.1)(hk:K k):∀ p∈addZ zl k x,K p.1:=by
 induction zl with
 | nil=>intro p hp; simp[addZ] at hp; subst hp; exact hk
 | cons q r ih =>
  obtain ⟨a,z⟩:=q;have ha:=hz (a,z) (by simp);intro p hp;simp only[addZ] at hp;split at hp
  ·rcases List.mem_cons.1 hp with rfl | hp
   ·exact ha
   ·exact hz p (by simp[hp])
  ·rcases List.mem_cons.1 hp with rfl | hp
   ·exact ha
   ·exact ih (fun p hp=>hz p (by simp[hp])) p hp
omit hφ in
theorem addL_key {zl:List (Int×List Int)}{k x:Int}(hz:∀ p∈zl,K p.1)(hk:K k):∀ p∈addL zl k x,K p.1:=by
 induction zl with
 | nil=>intro p hp; simp[addL] at hp; subst hp; exact hk
 | cons q r ih =>
  obtain ⟨a,z⟩:=q;have ha:=hz (a,z) (by simp);intro p hp;simp only[addL] at hp;split at hp
  ·rcases List.mem_cons.1 hp with rfl | hp
   ·exact ha
   ·exact hz p (by simp[hp])
  ·rcases List.mem_cons.1 hp with rfl | hp
   ·exact ha
   ·exact ih (fun p hp=>hz p (by simp[hp])) p hp
theorem sums1_ren (t:Int):∀ (l:List Side) (zl:List (Int×Int)),(∀ r∈l,K r.cell)→(∀ p∈zl,K p.1) →
  (l.map (renS φ)).foldl (fun zl r=>addZ zl r.cell (t * r.sign)) (ren1 φ zl)=ren1 φ (l.foldl (fun zl r=>addZ zl r.cell (t * r.sign)) zl)∧∀ p∈l.foldl (fun zl r=>addZ zl r.cell (t * r.sign)) zl,K p.1
 | [],zl,_,hz=>⟨rfl,hz⟩
 | r::l,zl,hl,hz=>by
  have hr:=hl r (by simp);have:=sums1_ren t l (addZ zl r.cell (t * r.sign)) (fun q hq=>hl q (by simp[hq])) (addZ_key hz hr);simp only[List.map_cons,List.foldl_cons];rw[show (renS φ r).cell=φ r.cell from rfl,show (renS φ r).sign=r.sign from rfl,addZ_ren hφ _ hz hr];exact this
theorem met1_ren (t:Int):∀ (l:List Side) (zl:List (Int×List Int)),(∀ r∈l,K r.cell)→(∀ p∈zl,K p.1) →
  (l.map (renS φ)).foldl (stepL t) (ren1 φ zl)=ren1 φ (l.foldl (stepL t) zl)∧∀ p∈l.foldl (stepL t) zl,K p.1
 | [],zl,_,hz=>⟨rfl,hz⟩
 | r::l,zl,hl,hz=>by
  have hr:=hl r (by simp);have:=met1_ren t l (addL zl r.cell t) (fun q hq=>hl q (by simp[hq])) (addL_key hz hr);simp only[List.map_cons,List.foldl_cons];rw[show stepL t (ren1 φ zl) (renS φ r)=ren1 φ (addL zl r.cell t) from addL_ren hφ _ hz hr];exact this
theorem sums_ren:∀ (L:List (Int×List Side)) (zl:List (Int×Int)),(∀ k∈keyL L,K k)→(∀ p∈zl,K p.1) →
  (renL φ L).foldl (fun zl p=>p.2.foldl (fun zl r=>addZ zl r.cell (p.1 * r.sign)) zl) (ren1 φ zl)=ren1 φ (L.foldl (fun zl p=>p.2.foldl (fun zl r=>addZ zl r.cell (p.1 * r.sign)) zl) zl)
 | [],_,_,_=>rfl
 | p::L,zl,hl,hz=>by
  obtain ⟨h1,h2⟩:=sums1_ren hφ p.1 p.2 zl (fun r hr=>hl _ (List.mem_flatMap.2 ⟨p,by simp,List.mem_map.2 ⟨r,hr,rfl⟩⟩)) hz;simp only[renL,List.map_cons,List.foldl_cons] at h1 ⊢;rw[h1];exact sums_ren L _ (fun k hk=>hl k (by simp only[keyL,List.flatMap_cons,List.mem_append]; exact .inr hk)) h2
theorem met_ren:∀ (L:List (Int×List Side)) (i:Nat) (zl:List (Int×List Int)),(∀ k∈keyL L,K k)→(∀ p∈zl,K p.1) →
  ((renL φ L).zipIdx i).foldl (fun ml p=>p.1.2.foldl (stepL p.2) ml) (ren1 φ zl)=ren1 φ ((L.zipIdx i).foldl (fun ml p=>p.1.2.foldl (stepL p.2) ml) zl)
 | [],_,_,_,_=>rfl
 | p::L,i,zl,hl,hz=>by
  obtain ⟨h1,h2⟩:=met1_ren hφ i p.2 zl (fun r hr=>hl _ (List.mem_flatMap.2 ⟨p,by simp,List.mem_map.2 ⟨r,hr,rfl⟩⟩)) hz;simp only[renL,List.map_cons,List.zipIdx_cons,List.foldl_cons] at h1 ⊢;rw[h1];exact met_ren L (i+1) _ (fun k hk=>hl k (by simp only[keyL,List.flatMap_cons,List.mem_append]; exact .inr hk)) h2
end
theorem any_ren {α:Type}(φ:Int→Int)(zl:List (Int×α))(q:α→Bool):(ren1 φ zl).any (fun p=>q p.2)=zl.any (fun p=>q p.2):=by
 simp only[ren1,List.any_map];rfl
theorem join_ren (φ:Int→Int)(ml:List (Int×List Int)):joinC (ren1 φ ml)=joinC ml:=by
 simp only[joinC,ren1,List.foldl_map];rfl
theorem aroundL_ren {φ:Int→Int}{L:List (Int×List Side)}(hφ:∀ a∈keyL L,∀ b∈keyL L,φ a=φ b→a=b):aroundL (renL φ L)=aroundL L:=by
 have h1:sumsL (renL φ L)=ren1 φ (sumsL L):=sums_ren (K:=fun k=>k∈keyL L) (fun a b ha hb=>hφ a ha b hb) L [] (fun _ h=>h) (by simp);have h2:metL (renL φ L)=ren1 φ (metL L):=met_ren (K:=fun k=>k∈keyL L) (fun a b ha hb=>hφ a ha b hb) L 0 [] (fun _ h=>h) (by simp);unfold aroundL;rw[h1,h2,any_ren φ _ fun z=>decide (z≠0),any_ren φ _ fun l:List Int=>decide ((l.length:Int)≠2),join_ren];have h3:(renL φ L).length=L.length:=by simp[renL]
 rw[h3]
def code (k q:Nat):Int:=if q<k then ((q * 16+k:Nat):Int) else ((k * 16+(q+1):Nat):Int)
def patS (n:Nat):List (Int×List Side):=(List.range n).reverse.map fun k:Nat=>(signC k,(List.range (n - 1)).reverse.map fun q:Nat=>⟨code k q,signC q⟩)
theorem patS_ok:∀ n,n<10→2<n→aroundL (patS n)=0:=by decide +kernel
theorem pickB_cons (b:Nat)(a:Int)(l:List Int):pickB b (a::l)=(if b % 2=1 then [a] else [])++pickB (b / 2) l:=by
 unfold pickB;have hz:∀ (l:List Int) (i:Nat),((l.zipIdx (i+1)).filter fun p=>b / 2 ^ p.2 % 2 == 1).map (·.1)=((l.zipIdx i).filter fun p=>b / 2 / 2 ^ p.2 % 2 == 1).map (·.1):=by
  intro l;induction l with
  | nil=>intro i; rfl
  | cons x r ih =>
   intro i;have hp:b / 2 ^ (i+1)=b / 2 / 2 ^ i:=by rw[Nat.pow_succ,Nat.mul_comm,Nat.div_div_eq_div_mul]
   simp only[List.zipIdx_cons,List.filter_cons,hp];have:=ih (i+1);split
   ·simp only[List.map_cons,this]
   ·exact this
 simp only[List.zipIdx_cons,List.filter_cons,Nat.pow_zero,Nat.div_one];by_cases h:b % 2=1
 ·simp only[h,if_true,beq_self_eq_true,List.map_cons];rw[hz l 0];rfl
 ·have h2:(b % 2 == 1)=false:=by simpa using h
  simp only[h,h2,if_false,Bool.false_eq_true];rw[hz l 0];rfl
theorem pickB_nil (b:Nat):pickB b []=[]:=rfl
theorem pickB_sub (l:List Int):∀ b,(pickB b l).Sublist l:=by
 induction l with
 | nil=>intro b; exact .slnil
 | cons a r ih =>
  intro b;rw[pickB_cons];split
  ·exact (ih _).cons_cons a
  ·exact (ih _).cons a
theorem pickB_ne (l:List Int):∀ b,b≠0→b<2 ^ l.length→pickB b l≠[]:=by
 induction l with
 | nil=>intro b h0 h; simp at h; exact absurd h h0
 | cons a r ih =>
  intro b h0 h;rw[pickB_cons];split
  ·simp
  ·rename_i h1;rw[List.length_cons,Nat.pow_succ] at h;simpa using ih (b / 2) oM oM
theorem pick_of_sub {x l:List Int}(h:x.Sublist l):∃ b,b<2 ^ l.length∧pickB b l=x:=by
 induction h with
 | slnil=>exact⟨0,by simp,rfl⟩
 | cons a _ ih =>
  obtain ⟨b,hb,e⟩:=ih;refine⟨2 * b,by rw[List.length_cons,Nat.pow_succ]; omega,?_⟩;rw[pickB_cons,if_neg oM,show 2 * b / 2=b by omega,e];rfl
 | cons_cons a _ ih =>
  obtain ⟨b,hb,e⟩:=ih;refine⟨2 * b+1,by rw[List.length_cons,Nat.pow_succ]; omega,?_⟩;rw[pickB_cons,if_pos oM,show (2 * b+1) / 2=b by omega,e];rfl
theorem subsetsC_iff (t x:List Int):x∈subsetsC t↔x.Sublist t∧x≠[]:=by
 unfold subsetsC;constructor
 ·intro h;obtain ⟨i,hi,rfl⟩:=List.mem_map.1 h;have:=List.mem_range.1 hi;exact⟨pickB_sub _ _,pickB_ne _ _ oM oM⟩
 ·rintro ⟨h,hne⟩;obtain ⟨b,hb,rfl⟩:=pick_of_sub h;have h0:b≠0:=fun e=>by
   subst e;apply hne;have:∀ l:List Int,pickB 0 l=[]:=by
    intro l;induction l with
    | nil=>rfl
    | cons a r ih=>rw[pickB_cons]; simpa using ih
   exact this t
  exact List.mem_map.2 ⟨b - 1,List.mem_range.2 oM,by rw[show b - 1+1=b by omega]⟩
structure Good (all:List (List Int)):Prop where
 strict:StrictL all
 form:∀ s∈all,s≠[]∧StrictI s∧s.length≤9
 faces:∀ s∈all,2≤s.length→∀ k,k<s.length→s.eraseIdx k∈all
theorem Good.nil:Good []:=⟨List.Pairwise.nil,by simp,by simp⟩
theorem Good.add {all:List (List Int)}{t:List Int}(h:Good all)(ht:StrictI t)(hl:t.length≤9):Good (addSets all t):=by
 refine⟨addSets_strict all t,fun s hs=>?_,fun s hs h2 k hk=>?_⟩
 ·rcases (addSets_iff all t s).1 hs with h1 | h1
  ·exact h.form s h1
  ·obtain ⟨h2,h3⟩:=(subsetsC_iff t s).1 h1;exact⟨h3,ht.sublist h2,Nat.le_trans h2.length_le hl⟩
 ·refine (addSets_iff all t _).2 ?_
  rcases (addSets_iff all t s).1 hs with h1 | h1
  ·exact .inl (h.faces s h1 h2 k hk)
  ·refine .inr ((subsetsC_iff t _).2 ⟨(List.eraseIdx_sublist s k).trans ((subsetsC_iff t s).1 h1).1,fun e=>?_⟩);have:=congrArg List.length e;rw[List.length_eraseIdx] at this;simp[hk] at this;omega
theorem simpAll_good:∀ (ls acc:List (List Int)) {all:List (List Int)},simpAll acc ls=some all→Good acc→acc.length≤4000→Good all∧all.length≤4000
 | [],acc,all,h,hg,hl=>by cases h; exact⟨hg,hl⟩
 | s::r,acc,all,h,hg,hl=>by
  unfold simpAll at h;split at h
  ·exact simpAll_good r acc h hg hl
  ·rename_i hb;split at h
   ·cases h
   ·rename_i hlen;refine simpAll_good r _ h (hg.add (setC_strict s) ?_) oM;cases hc:setC s with
    | nil=>simp
    | cons a q =>
     rw[hc] at hb;simp[badSet] at hb;simp;omega
section
variable {all:List (List Int)}(hg:Good all)
include hg
theorem Good.get_lb {t:List Int}(ht:t∈all):all[lbL all t]?=some t:=by
 obtain ⟨h1,h2⟩:=lbL_split t hg.strict.srt;have hs:StrictL (all.take (lbL all t)++all.drop (lbL all t)):=by rw[List.take_append_drop]; exact hg.strict
 have hd:=(List.pairwise_append.1 hs).2.1;have hm:t∈all.drop (lbL all t):=by
  have:t∈all.take (lbL all t)++all.drop (lbL all t):=by rw[List.take_append_drop]; exact ht
  rcases List.mem_append.1 this with h | h
  ·have:=h1 t h;rw[compareC_self] at this;exact absurd this dC
  ·exact h
 have e:all[lbL all t]?=(all.drop (lbL all t))[0]?:=by simp
 rw[e];cases hc:all.drop (lbL all t) with
 | nil=>rw[hc] at hm; simp at hm
 | cons y r =>
  rw[hc] at hm hd h2
  rcases List.mem_cons.1 hm with rfl | hm
  ·rfl
  ·exact absurd ((List.pairwise_cons.1 hd).1 t hm) (h2 y (by simp))
theorem Good.lb_get {k:Nat}(hk:k<all.length):lbL all all[k]=k:=by
 have h1:=hg.get_lb (gM hk);obtain ⟨h2,h3⟩:=List.getElem?_eq_some_iff.1 h1;have hself:¬ compareC all[k] all[k]<0:=by rw[compareC_self]; decide
 rcases Nat.lt_trichotomy (lbL all all[k]) k with h | h | h
 ·have:=List.pairwise_iff_getElem.1 hg.strict _ _ h2 hk h;rw[h3] at this;exact absurd this hself
 ·exact h
 ·have:=List.pairwise_iff_getElem.1 hg.strict _ _ hk h2 h;rw[h3] at this;exact absurd this hself
end
def ixC (all:List (List Int))(t:List Int):Int:=((lbL all t:Nat):Int)+1
theorem Good.inj {all:List (List Int)}(hg:Good all){t u:List Int}(ht:t∈all)(hu:u∈all)(h:ixC all t=ixC all u):t=u:=by
 have h1:=hg.get_lb ht;have h2:=hg.get_lb hu;have:lbL all t=lbL all u:=by unfold ixC at h; omega
 rw[this,h2] at h1;injection h1 with h1
 exact h1.symm
theorem Good.lt {all:List (List Int)}(hg:Good all){t u:List Int}(ht:t∈all)(hu:u∈all)(h:compareC t u<0):ixC all t<ixC all u:=by
 obtain ⟨i1,e1⟩:=List.getElem?_eq_some_iff.1 (hg.get_lb ht);obtain ⟨i2,e2⟩:=List.getElem?_eq_some_iff.1 (hg.get_lb hu);unfold ixC
 rcases Nat.lt_trichotomy (lbL all t) (lbL all u) with h1 | h1 | h1
 ·omega
 ·have:t=u:=hg.inj ht hu (by unfold ixC; omega);subst this;rw[compareC_self] at h;exact absurd h dC
 ·have:=List.pairwise_iff_getElem.1 hg.strict _ _ i2 i1 h1;rw[e1,e2] at this;exact absurd h (compareC_asymm this)
def facesC (all:List (List Int))(s:List Int):List Side:=if s.length≤1 then [] else (List.range s.length).reverse.map fun k:Nat=>⟨ixC all (s.eraseIdx k),signC k⟩
def celC (all:List (List Int))(s:List Int):Cl:=⟨ixC all s,(s.length:Int) - 1,facesC all s⟩
theorem erase_lt {s:List Int}(hs:StrictI s):∀ {i j:Nat},i<j→j<s.length→compareC (s.eraseIdx j) (s.eraseIdx i)<0:=by
 induction s with
 | nil=>intro i j _ h; simp at h
 | cons a r ih =>
  intro i j hij hj;obtain ⟨h1,h2⟩:=List.pairwise_cons.1 hs;cases j with
  | zero=>omega
  | succ j =>
   simp only[List.length_cons] at hj;cases i with
   | zero =>
    cases r with
    | nil=>simp at hj
    | cons b q =>
     have hab:=h1 b (by simp);have hl:((a::b::q).eraseIdx (j+1)).length=((a::b::q).eraseIdx 0).length:=by
      simp[List.length_eraseIdx] at hj ⊢;omega
     rw[compareC_same hl];simp only[List.eraseIdx_cons_succ,List.eraseIdx_cons_zero,cmpL];have:cmpI a b = -1:=by unfold cmpI; rw[if_pos hab]
     simp[this]
   | succ i =>
    have h3:=ih h2 (i:=i) (j:=j) oM oM;have hl:(r.eraseIdx j).length=(r.eraseIdx i).length:=by
     rw[List.length_eraseIdx,List.length_eraseIdx,if_pos oM,if_pos oM]
    have hl2:((a::r).eraseIdx (j+1)).length=((a::r).eraseIdx (i+1)).length:=by simp[hl]
    rw[compareC_same hl] at h3;rw[compareC_same hl2];simp only[List.eraseIdx_cons_succ,cmpL];have:cmpI a a=0:=by unfold cmpI; rw[if_neg oM,if_neg oM]
    simpa [this] using h3
end Go.Proofs.YteahknngoogpaaaGreatDoor
