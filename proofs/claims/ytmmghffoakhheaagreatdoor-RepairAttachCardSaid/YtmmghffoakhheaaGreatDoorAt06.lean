/- Set1 Set2 Set3 Prr SyQ Mad1 Mad2 Mad3 Mad4 Mad5 Spo1 Frm FndS SyR Mee1 Mee3 Rgt1 Rgt2 Rgt3 Frm2 Sec2 Rgt4 Rgt5 -/
import Derived.Test.YtmmghffoakhheaaGreatDoorAt05
import Derived.Test.YtmmghffoakhheaaGreatDoorAt03
import Derived.Test.YtmmghffoakhheaaGreatDoorRows
import Derived.WalkKit
import Derived.ProofKit
import Derived.OpenShut
import Derived.ShutString
import Derived.ChangeOld
import Derived.Below
import Derived.Deep.Slices
import Derived.Lib.SmallJoins
import Derived.Laws.IdiomArrays
import Derived.Test.YtmmghffoakhheaaGreatDoorAt04
import Derived.SizedLaws
set_option linter.unusedSimpArgs false
set_option linter.unusedVariables false
namespace Go.Proofs.YtmmghffoakhheaaGreatDoor
open _root_.Go.Proofs.Tryz _root_.Go.Proofs.YtmmghffoakhheaaGreatDoor.Tryz
open Go Go.Sy Go.Pl Go.Proofs
set_option maxRecDepth 100000
theorem compareC_len {a b:List Int}(h:a.length≠b.length):decide (compareC a b<0)=decide ((a.length:Int)<b.length):=by
 unfold compareC
 rcases cmpI_cases a.length b.length with ⟨h1,e⟩ | ⟨h1,e⟩ | ⟨h1,e⟩
 ·rw[e]; simp; omega
 ·omega
 ·rw[e]; simp; omega
theorem compareC_same {a b:List Int}(h:a.length=b.length):compareC a b=cmpL a b:=by
 unfold compareC
 rcases cmpI_cases a.length b.length with ⟨h1,e⟩ | ⟨h1,e⟩ | ⟨h1,e⟩
 ·omega
 ·rw[e]; simp
 ·omega
theorem cmpL_cons_ne {x y:Int}{a b:List Int}(h:x≠y):decide (cmpL (x::a) (y::b)<0)=decide (x<y):=by
 rw[decide_eq_decide];simp only[cmpL]
 rcases cmpI_cases x y with ⟨h1,e⟩ | ⟨h1,e⟩ | ⟨h1,e⟩
 ·rw[e]; simp; omega
 ·omega
 ·rw[e]; simp; omega
theorem cmpL_cons_eq {x y:Int}{a b:List Int}(h:x=y):cmpL (x::a) (y::b)=cmpL a b:=by
 simp only[cmpL]
 rcases cmpI_cases x y with ⟨h1,e⟩ | ⟨h1,e⟩ | ⟨h1,e⟩
 ·omega
 ·rw[e]; simp
 ·omega
theorem before_spec (E:World)(g:PH)(s:Own)(v u:Value)(a b:List Int)(hv:Ints g v a)(hu:Ints g u b)(hl:a.length<1099511627776) :
  Ctr Tryz.prog E 133 #[v,u] g s (fun r g' s'=>r=vb (decide (compareC a b<0))∧g=g'∧s=s'):=by
 obtain ⟨p,c,rfl⟩:=SlA.form hv;obtain ⟨q,d,rfl⟩:=SlA.form hu;refine Ctr.of (args:=[.slice p a.length c,.slice q b.length d]) func133 I ntmps133 (bE I) ?_;refine rZ (aT I (sQ (sW I (lU (eN uT22 I) (lM I (lU (eN uT22 I) (lU (nQ I I) (tZ ?_))))))));refine iP I (fun hne=>?_) (fun hne=>?_)
 ·refine sW I (lU (eN uT22 I) (lM I (lU (eN uT22 I) (yL I (aT I (rE (tR ?_)))))));exact ST.ret1 (.inl I) results133 I ⟨by rw[compareC_len oM],I,I⟩
 ·have hlen:a.length=b.length:=oM;have hcc:=compareC_same hlen;refine kP (tN (sQ (rZ (aT I (bK ?_)))));refine oP (ι:=Nat) (fun k=>[(0,.slice p a.length c),(1,.slice q b.length d),(5,vi k)]) (fun _=>g) (fun _=>s) (fun k=>k≤a.length∧cmpL a b=cmpL (a.drop k) (b.drop k)) (fun k=>a.length - k) 0
   sB rfl rfl ⟨Nat.zero_le _,by simp⟩ ?_
  rintro k ⟨hk,heq⟩;refine sQ (sW I (lM I (lU (eN uT22 I) (yL I (tZ ?_)))));refine iP I (fun hlt=>?_) (fun hlt=>?_)
  ·have hka:k<a.length:=oM;have hkb:k<b.length:=oM;have hb1:=SlA.based hv oM;have hb2:=SlA.based hu oM;rw[List.drop_eq_getElem_cons hka,List.drop_eq_getElem_cons hkb] at heq;refine kP (tN (sQ (bK (sQ ?_))));refine dW [] [(0,2),(1,2),(2,2),(3,1),(4,2),(5,2),(6,2),(7,1),(8,2)] Tryz.mixed kR ?_;refine yM I (yM I (pU I (iA uT22 zT3 I I (by assumption) oM (by (simp[slen]; omega))) ?_));refine pQ I (eB iT3 I (SlA.rd hv) (gE hka) I) dC ?_;refine yM I (yM I (pU I (iA uT22 zT3 I I (by assumption) oM (by (simp[slen]; omega))) ?_));refine pQ I (eB iT3 I (SlA.rd hu) (gE hkb) I) dC ?_;refine pU I (nQ I I) (pN (tN ?_));refine iP I (fun hd=>?_) (fun hd=>?_)
   ·refine sQ ?_;refine dW [] [(0,2),(1,2),(2,2),(3,1),(4,2),(5,2),(6,2),(7,1),(8,2),(9,2)] Tryz.mixed kR ?_;refine yM I (yM I (pU I (iA uT22 zT3 I I (by assumption) oM (by (simp[slen]; omega))) ?_));refine pQ I (eB iT3 I (SlA.rd hv) (gE hka) I) dC ?_;refine yM I (yM I (pU I (iA uT22 zT3 I I (by assumption) oM (by (simp[slen]; omega))) ?_));refine pQ I (eB iT3 I (SlA.rd hu) (gE hkb) I) dC ?_;refine pU I (lS I I) (pU I (aS I) (pN (tN (rE (bR (tR (tR (bR (tR ?_)))))))));exact ST.ret1 (.inl I) results133 I ⟨by rw[hcc,heq,cmpL_cons_ne hd],I,I⟩
   ·refine kP (bN (tN (rG (lM I (yD I (lA I (nL ?_)))))));exact ST.again (k+1) sB I I ⟨oM,by rw[heq,cmpL_cons_eq (Decidable.of_not_not hd)]⟩ oM
  ·rw[List.drop_eq_nil_of_le oM,List.drop_eq_nil_of_le oM] at heq;refine xI (tX (tX (bX (tN (rZ (aT I (rE ?_)))))));exact ST.ret1 (.inl rfl) results133 rfl ⟨by rw[hcc,heq]; rfl,rfl,rfl⟩
theorem place_spec (E:World)(g:PH)(s:Own)(v u:Value)(ls:List (List Int))(t:List Int)(hv:Lists g v ls)(hu:Ints g u t)(hl:ls.length<1099511627776)(hll:∀ x∈ls,x.length<1099511627776)(htl:t.length<1099511627776)(hs:SrtL ls) :
  Ctr Tryz.prog E 95 #[v,u] g s (fun r g' s'=>r = .tuple #[vi (lbL ls t),vb (ls.contains t)]∧g=g'∧s=s'):=by
 obtain ⟨rs,hrs,hall⟩:=hv;have hlen:=hall.length;have hmono:=srt_mono hs t;obtain ⟨p,c,rfl⟩:=SlA.form hrs;refine Ctr.of (args:=[.slice p rs.length c,u]) func95 I ntmps95 (bE I) ?_;refine rZ (lA I (aT I (rZ (aT I (sW I (lU (eN uT108 I) (aT I (sQ (bK ?_)))))))));refine oP (ι:=Nat×Nat) (fun q=>[(0,.slice p rs.length c),(1,u),(6,vi q.1),(7,vi q.2)]) (fun _=>g) (fun _=>s)
  (fun q=>q.1≤q.2∧q.2≤ls.length∧(∀ k (h:k<ls.length),k<q.1→compareC ls[k] t<0)∧∀ k (h:k<ls.length),q.2≤k→¬ compareC ls[k] t<0) (fun q=>q.2 - q.1) (0,ls.length)
  ⟨rfl,rfl,rfl,vi_eq oM,trivial⟩ rfl rfl ⟨Nat.zero_le _,lR _,fun k _ h=>absurd h oM,fun k h1 h2=>absurd h1 (by dsimp only at h2; omega)⟩ ?_
 rintro ⟨i,j⟩ ⟨hij,hj,hlo,hhi⟩;dsimp only at hij hj hlo hhi ⊢;refine sQ (sW I (lM I (yL I (tZ ?_))));refine iP I (fun hlt=>?_) (fun hlt=>?_)
 ·have hb1:=hrs.based oM;have hml:(i+j) / 2<ls.length:=oM;have hmr:(i+j) / 2<rs.length:=oM;have hmx:rs[((((i+j) / 2:Nat):Int)).toNat]?=some rs[(i+j) / 2]:=gE hmr;have hR:=hall.get (gE hml) (gE hmr);have hxl:=hll _ (gM hml);refine kP (tN (bK (sW I (lM I (yD I (lU (SU.eq (v':=vi (((i+j) / 2:Nat):Int)) (SU.quo I I dC) (congrArg vi (by rw[← Int.natCast_add]; exact half_tdiv _ oM))) ?_))))));refine aT I (sW I (lM I (lU (iA uT108 zT22 I I hb1 oM sL) (lK (eB iT22 I hrs.rd hmx I) (lM I (lW (SO.call call133 I (before_spec E g _ _ _ ls[(i+j) / 2] t hR hu hxl)) ?_))))));rintro _ _ _ ⟨rfl,rfl,rfl⟩;refine tZ ?_;refine iP I (fun hc=>?_) (fun hc=>?_)
  ·refine rG (lM I (yD I (lA I (nL (bN ?_)))));refine ST.again ((i+j) / 2+1,j) sB I I ⟨lN,hj,fun k hk h=>?_,hhi⟩ lN;dsimp only at h
   rcases Nat.eq_or_lt_of_le (show k≤(i+j) / 2 by omega) with rfl | h'
   ·exact hc
   ·exact hmono k ((i+j) / 2) hk hml h' hc
  ·refine rG (lM I (lA I (nL (bN ?_))));refine ST.again (i,(i+j) / 2) sB I I ⟨lN,lN,hlo,fun k hk h=>?_⟩ lN;dsimp only at h
   rcases Nat.eq_or_lt_of_le (show (i+j) / 2≤k by omega) with h' | h'
   ·subst h'; exact hc
   ·exact fun hx=>hc (hmono ((i+j) / 2) k hml hk h' hx)
 ·have hie:i=j:=oM;subst hie;have hlb:lbL ls t=i:=lb_gen hj (fun k h h'=>by simpa using hlo k h h') (fun k h h'=>by simpa using hhi k h h');by_cases hin:(i:Int)<(rs.length:Int)
  ·have hil:i<ls.length:=oM;have hir:i<rs.length:=oM;have hb1:=hrs.based oM;have hmx:rs[((i:Nat):Int).toNat]?=some rs[i]:=gE hir;have hR:=hall.get (gE hil) (gE hir);have hfound:(!decide (compareC t ls[i]<0))=ls.contains t:=by
    have h1:=hhi i hil (lR _);by_cases h2:compareC t ls[i]<0
    ·rw[decide_eq_true h2];symm;rw[Bool.not_true,← Bool.not_eq_true];intro hm;have hm':t∈ls:=by simpa using hm
     obtain ⟨k,hk,rfl⟩:=List.getElem_of_mem hm'
     rcases Nat.lt_trichotomy k i with h3 | h3 | h3
     ·have:=hlo k hk h3; rw[compareC_self] at this; omega
     ·subst h3; rw[compareC_self] at h2; omega
     ·exact List.pairwise_iff_getElem.1 hs i k hil hk h3 h2
    ·rw[decide_eq_false h2];have h3:t=ls[i]:=by
      rcases compareC_cases t ls[i] with h | h | h
      ·exact absurd h h2
      ·exact h
      ·exact absurd h h1
     symm;rw[Bool.not_false];have:t∈ls:=by rw[h3]; exact gM hil
     simpa using this
   refine xI (tX (tX (bX (tN (sW I (lM I (lM I (lU (eN uT108 I) (lU (SU.eq (v':=vb true) (lS I I) (congrArg vb (decide_eq_true hin))) (lM I (yC I (yC I (yC I (lY I I I (iA uT108 zT22 I I hb1 oM sL) (SL.gq (gT I I I dC) (eB iT22 I hrs.rd hmx I) dC (SL.go (gT I I I dC) (SO.call call133 I (before_spec E g _ _ _ t ls[i] hu hR htl)) dC ?_))))))))))))))));rintro _ _ _ ⟨rfl,rfl,rfl⟩;refine lY I I I (SU.not I) (yP I (lA I (aT I (rE ?_))));exact ST.ret2 (.inl I) results95 I I ⟨by rw[hlb,← hfound],I,I⟩
  ·have hnf:ls.contains t=false:=by
    rw[← Bool.not_eq_true];intro hm;have hm':t∈ls:=by simpa using hm
    obtain ⟨k,hk,rfl⟩:=List.getElem_of_mem hm';have:=hlo k hk oM;rw[compareC_self] at this;omega
   refine xI (tX (tX (bX (tN (sW I (lM I (lM I (lU (eN uT108 I) (lU (SU.eq (v':=vb false) (lS I I) (congrArg vb (decide_eq_false hin))) (lM I (yA I (yA I (yA I (yA I (yA I (yA I (yA I (yF I (lA I (aT I (rE ?_)))))))))))))))))))));exact ST.ret2 (.inl I) results95 I I ⟨by rw[hlb,hnf],I,I⟩
abbrev StrictI (l:List Int):Prop:=l.Pairwise (· < ·)
theorem strict_unique:∀ {l m:List Int},StrictI l→StrictI m→(∀ x,x∈l↔x∈m)→l=m
 | [],[],_,_,_=>rfl
 | [],y::m,_,_,h=>by have:=(h y).2 (by simp); simp at this
 | x::l,[],_,_,h=>by have:=(h x).1 (by simp); simp at this
 | x::l,y::m,hl,hm,h=>by
  obtain ⟨h1,h2⟩:=List.pairwise_cons.1 hl;obtain ⟨h3,h4⟩:=List.pairwise_cons.1 hm;have hxy:x=y:=by
   rcases List.mem_cons.1 ((h x).1 (by simp)) with e | hx
   ·exact e
   ·rcases List.mem_cons.1 ((h y).2 (by simp)) with e | hy
    ·exact e.symm
    ·have:=h3 x hx; have:=h1 y hy; omega
  subst hxy;rw[strict_unique h2 h4 fun z=>?_];constructor
  ·intro hz
   rcases List.mem_cons.1 ((h z).1 (by simp[hz])) with e | hz'
   ·have:=h1 z hz; omega
   ·exact hz'
  ·intro hz
   rcases List.mem_cons.1 ((h z).2 (by simp[hz])) with e | hz'
   ·have:=h3 z hz; omega
   ·exact hz'
theorem uniqGo_strict:∀ {x:Int} {l:List Int},(x::l).Pairwise (· ≤ ·)→StrictI (uniqGo (fun a b:Int=>decide (a=b)) x l)∧(∀ y∈uniqGo (fun a b:Int=>decide (a=b)) x l,x<y)∧∀ y,y∈l→y=x∨y∈uniqGo (fun a b:Int=>decide (a=b)) x l
 | x,[],_=>⟨List.Pairwise.nil,by simp[uniqGo],by simp⟩
 | x,y::r,h=>by
  obtain ⟨h1,h2⟩:=List.pairwise_cons.1 h;obtain ⟨i1,i2,i3⟩:=uniqGo_strict h2;have hxy:=h1 y (by simp);unfold uniqGo;by_cases e:y=x
  ·subst e;simp only[decide_true,if_true];refine⟨i1,i2,fun z hz=>?_⟩
   rcases List.mem_cons.1 hz with rfl | hz
   ·exact .inl I
   ·exact i3 z hz
  ·simp only[e,decide_false];refine⟨List.pairwise_cons.2 ⟨i2,i1⟩,fun z hz=>?_,fun z hz=>?_⟩
   ·rcases List.mem_cons.1 hz with rfl | hz
    ·omega
    ·have:=i2 z hz; omega
   ·rcases List.mem_cons.1 hz with rfl | hz
    ·exact .inr (by simp)
    ·rcases i3 z hz with rfl | h
     ·exact .inr (by simp)
     ·exact .inr (by simp[h])
theorem sortI_sorted (l:List Int):(sortI l).Pairwise (· ≤ ·):=by
 have:=List.pairwise_mergeSort (le:=fun x y:Int=>decide (x≤y)) (fun a b c h1 h2=>by simp at *; omega) (fun a b=>by simp; omega) l;exact this.imp fun h=>by simpa using h
theorem setC_strict (l:List Int):StrictI (setC l):=by
 have hs:=sortI_sorted l;unfold setC;cases h:sortI l with
 | nil=>exact List.Pairwise.nil
 | cons x r =>
  rw[h] at hs;obtain ⟨h1,h2,_⟩:=uniqGo_strict hs;exact List.pairwise_cons.2 ⟨h2,h1⟩
theorem setC_mem (l:List Int)(y:Int):y∈setC l↔y∈l:=by
 have hs:=sortI_sorted l;have hp:=sortI_perm l;rw[← hp.mem_iff];unfold setC;refine⟨fun h=>(uniq_sub _ _).subset h,fun h=>?_⟩;cases hc:sortI l with
 | nil=>rw[hc] at h; simp at h
 | cons x r =>
  rw[hc] at hs h
  rcases List.mem_cons.1 h with rfl | h
  ·simp[uniq]
  ·rcases (uniqGo_strict hs).2.2 y h with rfl | h
   ·simp[uniq]
   ·simp[uniq,h]
theorem setC_of {l out:List Int}(hs:StrictI out)(hm:∀ x,x∈out↔x∈l):out=setC l:=strict_unique hs (setC_strict l) fun x=>by rw[hm,setC_mem]
theorem strict_le {a b:List Int}(ha:StrictI a)(h:∀ x∈a,x∈b):a.length≤b.length:=nodup_le (ha.imp fun h=>by omega) h
def okS (l:List Int):Bool:=!(l.any fun x=>decide (x<0))&&decide ((setC l).length≤9)
theorem okS_bad {l:List Int}(h:okS l=false):badSet (setC l)=true:=by
 unfold okS at h;rw[Bool.and_eq_false_iff] at h;cases hc:setC l with
 | nil=>rfl
 | cons a r =>
  unfold badSet
  rcases h with h | h
  ·simp only[Bool.not_eq_false',List.any_eq_true,decide_eq_true_eq] at h;obtain ⟨x,hx,hx0⟩:=h;have h1:=(setC_mem l x).2 hx;rw[hc] at h1;have hs:=setC_strict l;rw[hc] at hs;have:a≤x:=by
    rcases List.mem_cons.1 h1 with rfl | h2
    ·omega
    ·have:=(List.pairwise_cons.1 hs).1 x h2; omega
   simp;omega
  ·rw[hc] at h;simp at h ⊢;omega
theorem okS_good {l:List Int}(h:okS l=true):(setC l).length≤9∧(badSet (setC l)=true→setC l=[]):=by
 unfold okS at h;simp only[Bool.and_eq_true,Bool.not_eq_true',decide_eq_true_eq] at h;refine⟨h.2,fun hb=>?_⟩;cases hc:setC l with
 | nil=>rfl
 | cons a r =>
  rw[hc] at hb;unfold badSet at hb;rw[hc] at h;simp at hb;have ha:a∈l:=(setC_mem l a).1 (by rw[hc]; simp);have h3:=List.any_eq_false.1 h.1 a ha;simp at h3;have h4:=h.2;simp at h4;omega
theorem ins_strict {out:List Int}{x:Int}{k:Nat}(hs:StrictI out)(h1:∀ y∈out.take k,y<x)(h2:∀ y∈out.drop k,x<y):StrictI (out.take k++x::out.drop k):=by
 have hs':StrictI (out.take k++out.drop k):=by rw[List.take_append_drop]; exact hs
 have h3:=List.pairwise_append.1 hs';refine List.pairwise_append.2 ⟨h3.1,List.pairwise_cons.2 ⟨h2,h3.2.1⟩,fun y hy z hz=>?_⟩
 rcases List.mem_cons.1 hz with rfl | hz
 ·exact h1 y hy
 ·exact h3.2.2 y hy z hz
theorem mem_ins {α:Type}{out:List α}{x y:α}{k:Nat}:y∈out.take k++x::out.drop k↔y=x∨y∈out:=by
 rw[List.mem_append,List.mem_cons];constructor
 ·rintro (h | h | h)
  ·exact .inr (List.mem_of_mem_take h)
  ·exact .inl h
  ·exact .inr (List.mem_of_mem_drop h)
 ·rintro (h | h)
  ·exact .inr (.inl h)
  ·rw[← List.take_append_drop k out] at h
   rcases List.mem_append.1 h with h | h
   ·exact .inl h
   ·exact .inr (.inr h)
theorem strict_drop {out:List Int}{c:Int}{k:Nat}(hs:StrictI out)(hk:k<out.length)(h:c≤out[k]):∀ y∈out.drop k,c≤y:=by
 rw[List.drop_eq_getElem_cons hk];intro y hy;have h1:StrictI (out.drop k):=List.Pairwise.sublist (List.drop_sublist k out) hs;rw[List.drop_eq_getElem_cons hk] at h1
 rcases List.mem_cons.1 hy with rfl | hy
 ·exact h
 ·have:=(List.pairwise_cons.1 h1).1 y hy;omega
theorem set_spec (E:World)(g:PH)(s:Own)(v:Value)(l:List Int)(hv:Ints g v l)(hl:l.length<17592186044416) :
  Ctr Tryz.prog E 94 #[v] g s (fun r g' s'=>s=s'∧Le g g'∧((okS l=true∧∃ u,r = .tuple #[u,vb true]∧Ints g' u (setC l))∨(okS l=false∧r = .tuple #[.slice none 0 0,vb false]))):=by
 obtain ⟨p,c,rfl⟩:=SlA.form hv;refine Ctr.of (args:=[.slice p l.length c]) func94 I ntmps94 (bE I) ?_;refine rZ (lA I (aT I (rZ (aT I (sQ (rZ (aT I (bK ?_))))))));refine oP (ι:=PH×Value×List Int×Nat) (fun i=>[(0,.slice p l.length c),(4,i.2.1),(5,vi i.2.2.2)]) (fun i=>i.1) (fun _=>s)
  (fun i=>Le g i.1∧Ints i.1 i.2.1 i.2.2.1∧i.2.2.2≤l.length∧StrictI i.2.2.1∧(∀ x,x∈i.2.2.1↔x∈l.take i.2.2.2)∧((l.take i.2.2.2).any (fun x=>decide (x<0))=false∧i.2.2.1.length≤9)) (fun i=>l.length - i.2.2.2)
  (g,.slice none 0 0,[],0) sB rfl rfl ⟨Le.refl g,Sl.nil g _,Nat.zero_le _,List.Pairwise.nil,by simp,by simp,by simp⟩ ?_
 rintro ⟨g1,ov,out,i⟩ ⟨hle,hov,hi,hstr,hmem,hneg,h9⟩;dsimp only at hle hov hi hstr hmem hneg h9 ⊢;obtain ⟨q,d,rfl⟩:=SlA.form hov;have hqc:=(SlA.cap hov).2;refine sQ (sW I (lM I (lU (eN uT22 I) (yL I (tZ ?_)))));refine iP I (fun hlt=>?_) (fun hlt=>?_)
 ·have hil:i<l.length:=oM;have hb1:=SlA.based (hv.mono hle) oM;have hgi:l[((i:Nat):Int).toNat]?=some l[i]:=gE hil;have htk:l.take (i+1)=l.take i++[l[i]]:=tS hil;have hxm:l[i]∈l:=gM hil;generalize l[i]=x at *;refine kP (tN (sQ (bK (rZ (aT I ?_)))));refine SC.cut (ι:=Nat) (fun k=>[(0,.slice p l.length c),(4,.slice q out.length d),(5,vi i),(6,vi k)]) (fun _=>g1) (fun _=>s) (fun k=>k≤out.length∧(∀ y∈out.take k,y<x)∧∀ y∈out.drop k,x≤y) ?_ ?_
  ·refine bK ?_;refine oP (ι:=Nat) (fun k=>[(0,.slice p l.length c),(4,.slice q out.length d),(5,vi i),(6,vi k)]) (fun _=>g1) (fun _=>s) (fun k=>k≤out.length∧∀ y∈out.take k,y<x) (fun k=>out.length - k) 0
    sB rfl rfl ⟨Nat.zero_le _,by simp⟩ ?_
   rintro k ⟨hk,htake⟩;by_cases hin:(k:Int)<(out.length:Int)
   ·have hkl:k<out.length:=oM;have hb2:=SlA.based hov oM;refine sQ (sQ ?_);refine dW [] [(0,2),(1,2),(2,2),(3,2),(4,2),(5,2),(6,2),(7,2),(8,1),(9,2),(10,2),(11,2),(12,1),(13,2),(14,2)] Tryz.mixed kR ?_;refine yM I (yM I (pU I (eN uT22 I) (pU I (SU.eq (v':=vb true) (lS I I) (congrArg vb (decide_eq_true hin))) (yM I (yJ I (yJ I (SP.gu I (gT I I I dC) (iA uT22 zT3 I I hb2 oM sL) dC ?_)))))));refine SP.gq I (gT I I I dC) (eB iT3 I (SlA.rd hov) (gE hkl) I) dC ?_;refine yJ I (yJ I (SP.gu I (gT I I I dC) (iA uT22 zT3 I I hb1 oM sL) dC (SP.gq I (gT I I I dC) (eB iT3 I (SlA.rd (hv.mono hle)) hgi I) dC (SP.gu I (gT I I I dC) (lS I I) dC (pU I (wT I I) (pN (tN ?_)))))));refine iP I (fun hc=>?_) (fun hc=>?_)
    ·refine kP (tN (bK (rG (lM I (yD I (lA I (nL (bN ?_))))))));exact ST.again (k+1) sB I I ⟨oM,by
      rw[tS hkl];intro y hy
      rcases List.mem_append.1 hy with h | h
      ·exact htake y h
      ·simp at h; subst h; exact hc⟩ oM
    ·refine xI (tX (tX (bX ?_)));exact ST.mid k sB I I ⟨hk,htake,strict_drop hstr hkl oM⟩
   ·refine sQ (sQ ?_);refine dW [] [(0,2),(1,2),(2,2),(3,2),(4,2),(5,2),(6,2),(7,2),(8,1),(9,2),(10,2),(11,2),(12,1),(13,2),(14,2)] Tryz.mixed kR ?_;refine yM I (yM I (pU I (eN uT22 I) (pU I (SU.eq (v':=vb false) (lS I I) (congrArg vb (decide_eq_false hin))) (yM I (yG I (yG I (yG I (yI I (yG I (yG I (yG I (yI I (yG I (pU I (wF I I) (pN (tN (cF I (xI (tX (tX (bX ?_)))))))))))))))))))));exact ST.mid k sB I I ⟨hk,htake,by rw[List.drop_eq_nil_of_le oM]; simp⟩
  ·rintro k ⟨hk,hk1,hk2⟩;have hskip:x∈out→∀ y,y∈out↔y∈l.take (i+1):=fun h y=>by
    rw[htk,List.mem_append,← hmem];constructor
    ·exact .inl
    ·rintro (h' | h')
     ·exact h'
     ·simp at h'; rw[h']; exact h
   have hxneg:x∈out→(l.take (i+1)).any (fun x=>decide (x<0))=false:=fun h=>by
    have h1:=List.any_eq_false.1 hneg x ((hmem x).1 h);rw[htk,List.any_append,hneg];simpa using h1
   have hins:(∀ y∈out.drop k,x<y)→StrictI (out.take k++x::out.drop k)∧∀ y,y∈out.take k++x::out.drop k↔y∈l.take (i+1):=fun h=>⟨ins_strict hstr hk1 h,fun y=>by
    rw[mem_ins,htk,List.mem_append,← hmem];simp;exact or_comm⟩
   have hc1:=SlA.cut hov (l:=k) (m:=out.length) hk (lR _);have hc2:=SlA.cut hov (l:=0) (m:=k) (Nat.zero_le _) hk;rw[tL (by rw[List.length_drop]; exact lR _)] at hc1;rw[List.drop_zero,Nat.sub_zero] at hc2;have hnl:(out.take k++x::out.drop k).length=out.length+1:=lN;obtain ⟨nw,hnw⟩:∃ nw,nw=out.take k++x::out.drop k:=⟨_,rfl⟩;have hbad1:x<0→okS l=false:=fun h=>by
    unfold okS;have:l.any (fun x=>decide (x<0))=true:=List.any_eq_true.2 ⟨x,hxm,by simpa using h⟩;rw[this]; rfl
   have hbad2:(∀ y∈out.drop k,x<y)→9<(out.take k++x::out.drop k).length→okS l=false:=fun h h'=>by
    obtain ⟨h1,h2⟩:=hins h;have h3:=strict_le h1 (b:=setC l) (fun y hy=>by rw[setC_mem]; exact List.mem_of_mem_take ((h2 y).1 hy));unfold okS;have:decide ((setC l).length≤9)=false:=decide_eq_false oM;rw[this]; simp
   have hgo:∀ g3 q3 d3,(∀ y∈out.drop k,x<y)→Le g g3→Ints g3 (.slice q3 (out.take k++x::out.drop k).length d3) (out.take k++x::out.drop k)→¬ x<0→(out.take k++x::out.drop k).length≤9 →
     Le g g3∧Ints g3 (.slice q3 (out.take k++x::out.drop k).length d3) (out.take k++x::out.drop k)∧i+1≤l.length∧StrictI (out.take k++x::out.drop k)∧(∀ y,y∈out.take k++x::out.drop k↔y∈l.take (i+1))∧((l.take (i+1)).any (fun x=>decide (x<0))=false∧(out.take k++x::out.drop k).length≤9):=fun g3 q3 d3 h1 h2 h3 h4 h5 =>
    ⟨h2,h3,oM,(hins h1).1,(hins h1).2,by rw[htk,List.any_append,hneg]; simpa using h4,h5⟩
   have hgt:out.contains x=false→∀ y∈out.drop k,x<y:=fun h y hy=>by
    have h1:=hk2 y hy;have h2:y≠x:=fun e=>by
     have:out.contains x=true:=by rw[← e]; simpa using List.mem_of_mem_drop hy
     rw[h] at this; cases this
    omega
   have hgetk:(k:Int)<(out.length:Int)→out[((k:Nat):Int).toNat]?=some (out.getD k 0):=fun h=>by
    have h2:k<out.length:=oM;rw[show ((k:Nat):Int).toNat=k by omega,gE h2,List.getD_eq_getElem?_getD,gE h2]; rfl
   have hA:(k:Int)<(out.length:Int)→out.contains x=decide (out.getD k 0=x):=fun h=>by
    have h2:k<out.length:=oM;rw[List.getD_eq_getElem?_getD,gE h2,Option.getD_some,Bool.eq_iff_iff,decide_eq_true_iff];constructor
    ·intro hm;have hm':x∈out:=by simpa using hm
     rw[← List.take_append_drop k out] at hm'
     rcases List.mem_append.1 hm' with h3 | h3
     ·have:=hk1 x h3; omega
     ·have h4:=hk2 _ (by rw[List.drop_eq_getElem_cons h2]; exact List.mem_cons_self:out[k]∈out.drop k);have h5:=strict_drop hstr h2 (Int.le_refl out[k]) x h3;omega
    ·intro e;rw[← e];simp
   have hB:¬ (k:Int)<(out.length:Int)→out.contains x=false:=fun h=>by
    rw[← Bool.not_eq_true];intro hm;have hm':x∈out:=by simpa using hm
    rw[← List.take_append_drop k out,List.drop_eq_nil_of_le oM,List.append_nil] at hm';have:=hk1 x hm';omega
   have hb2:=fun h=>SlA.based hov h;generalize out.getD k 0=yk at hgetk hA;obtain ⟨nl,hnl2⟩:∃ nl,nl=(out.take k++x::out.drop k).length:=⟨_,rfl⟩;have f1:x<0→(decide (x<0)||decide ((((out.take k++x::out.drop k).length:Nat):Int)>9))=true:=fun h=>by simp[h]
   have f2:¬ x<0→(decide (x<0)||decide ((((out.take k++x::out.drop k).length:Nat):Int)>9))=decide ((((out.take k++x::out.drop k).length:Nat):Int)>9):=fun h=>by simp only[h,decide_false,Bool.false_or]
   refine sQ ?_;refine SC.cutB 45 ((out.contains x)) ?_ ?_
   ·refine dW [] [(0,2),(1,2),(2,2),(3,2),(4,2),(5,2),(6,2),(7,2),(8,1),(9,2),(10,2),(11,2),(12,1),(13,2),(14,2)] Tryz.mixed kR ?_;refine yM I (yM I (pU I (eN uT22 I) (pU I (lS I I) (yM I ?_))));refine SP.split ?_ ?_
    ·intro h35;refine yJ I (yJ I (SP.gu I (gT I I I dC) (iA uT22 zT3 I I (hb2 oM) oM sL) dC (SP.gq I (gT I I I dC) (eB iT3 I (SlA.rd hov) (hgetk h35) I) dC (yJ I (yJ I (SP.gu I (gT I I I dC) (iA uT22 zT3 I I hb1 oM sL) dC (SP.gq I (gT I I I dC) (eB iT3 I (SlA.rd (hv.mono hle)) hgi I) dC (SP.gu I (gT I I I dC) (eQ I I) dC (pU I (wT I I) (pN ?_))))))))));exact ST.mid1 (by (rw[hA h35]; rfl)) mI
    ·intro h35;refine yG I (yG I (yG I (yI I (yG I (yG I (yG I (yI I (yG I (pU I (wF I I) (pN ?_))))))))));exact ST.mid1 (by (rw[hB h35]; rfl)) mI
   refine iQ I (fun hthere=>?_) (fun hthere=>?_)
   ·have hxo:x∈out:=by simpa using hthere
    refine xI (tX (bX (tN (rG (lM I (yD I (lA I (nL ?_))))))));exact ST.again (g1,_,out,i+1) sB I I ⟨hle,hov,lN,hstr,hskip hxo,hxneg hxo,h9⟩ lN
   ·have hg:=hgt hthere;refine kP (tN (sQ ?_));refine dW [8] [(0,2),(1,2),(2,2),(3,1),(5,2),(6,2),(7,2),(4,0),(8,0),(9,2)] Tryz.mixed kR ?_;refine yM I (yM I (pU I (iA uT22 zT3 I I hb1 oM sL) (pK I (eB iT3 I (SlA.rd (hv.mono hle)) hgi I) (yM I (yM I (pU I (SU.sliceL uT22 zT3 I I oM oM) (SP.o I (bS sty22 I I I (szs_mk ⟨I,trivial⟩) dC) dC (.inr iR) ?_)))))));rintro _ _ _ ⟨b50,rfl,rfl,rfl⟩;refine SP.to (fun w hw=>At.litRow (e:=encInt) (l:=[x]) (n:=0) hw I I dC) ?_;refine SP.o rfl (aQ (e:=encInt) 0 sty22 rfl rfl rfl hc1 (by rw[List.length_drop]; (first | with_reducible rfl | ((try dsimp only); (try simp only[List.length_append,List.length_cons,List.length_nil,List.length_singleton,List.length_take,List.length_drop])<;>omega))) (by rw[List.length_drop]; (first | with_reducible rfl | ((try dsimp only); (try simp only[List.length_append,List.length_cons,List.length_nil,List.length_singleton,List.length_take,List.length_drop])<;>omega)))) dC (.inl dC) ?_;rintro v54 _ _ ⟨rfl,rfl⟩;refine pU I (aS I) (pN (tN (sQ (fS fun g2 hle2 hs2=>?_))));have hrest:Ints g2 v54 ([x]++out.drop k):=hs2;refine rG (lW (bS sty22 I I I (szs_mk trivial) dC) ?_);rintro _ _ _ ⟨b55,rfl,rfl,rfl⟩;refine SL.emptyRow 3 1 (some ⟨b55,0,none⟩) (lM rfl (lM rfl (lU (SU.sliceH uT22 zT3 rfl rfl oM oM) (lW (aQ (e:=encInt) (l:=[]) 0 sty22 rfl rfl rfl (hc2.mono hle2) (by rw[List.length_take]; (first | with_reducible rfl | ((try dsimp only); (try simp only[List.length_append,List.length_cons,List.length_nil,List.length_singleton,List.length_take,List.length_drop])<;>omega))) (by rw[List.length_take]; (first | with_reducible rfl | ((try dsimp only); (try simp only[List.length_append,List.length_cons,List.length_nil,List.length_singleton,List.length_take,List.length_drop])<;>omega)))) ?_))));rintro v59 _ _ ⟨rfl,rfl⟩;refine lM I (lW (aQ (e:=encInt) 0 sty22 I I I hrest lN lN) ?_);rintro v61 _ _ ⟨rfl,rfl⟩;refine aT I (fS fun g3 hle3 hs3=>?_);have hres:Ints g3 v61 (out.take k++x::out.drop k):=(by have h:Ints g3 v61 ([]++out.take k++([x]++out.drop k)):=hs3; simpa using h);refine SC.drop (s':=s) (.cons _ (.refl _)) ?_;obtain ⟨q3,d3,rfl⟩:=SlA.form hres;refine SC.sub (f':=[(0,.slice p l.length c),(4,.slice q3 (out.take k++x::out.drop k).length d3),(5,vi i)]) sB ?_;refine SC.cutB 71 ((decide (x<0)||decide ((((out.take k++x::out.drop k).length:Nat):Int)>9))) ?_ ?_
    ·refine rG (lM I (lM I (lU (iA uT22 zT3 I I hb1 oM sL) (lK (eB iT3 I (SlA.rd (hv.mono (hle.trans (hle2.trans hle3)))) hgi I) (yL I (lM I ?_))))));refine sP ?_ ?_
     ·intro h67;refine yA I (yA I (yA I (yP I (nL ?_))));exact ST.mid1 (by (rw[f1 h67]; rfl)) mI
     ·intro h67;refine yC I (lY I I I (eN uT22 I) (lY I I I (gR I I) (yF I (nL ?_))));exact ST.mid1 (by (rw[f2 h67]; rfl)) mI
    refine iQ I (fun hbad=>?_) (fun hbad=>?_)
    ·have hko:okS l=false:=by
      rw[Bool.or_eq_true,decide_eq_true_iff,decide_eq_true_iff] at hbad
      rcases hbad with h | h
      ·exact hbad1 h
      ·exact hbad2 hg oM
     refine rZ (lA I (aT I (rE (bR (tR (tR (bR (tR ?_))))))));exact ST.ret2 (.inl I) results94 I I ⟨I,hle.trans (hle2.trans hle3),.inr ⟨hko,I⟩⟩
    ·rw[Bool.or_eq_false_iff,decide_eq_false_iff_not,decide_eq_false_iff_not] at hbad;refine kP (bN (tN (rG (lM I (yD I (lA I (nL ?_)))))));exact ST.again (g3,_,out.take k++x::out.drop k,i+1) sB I I (hgo g3 q3 d3 hg (hle.trans (hle2.trans hle3)) hres hbad.1 oM) lN
 ·have hii:l.take i=l:=tL oM;rw[hii] at hmem hneg;have hset:=setC_of hstr hmem;have hok:okS l=true:=by unfold okS; rw[hneg,← hset]; simpa using h9
  refine xI (tX (tX (bX (tN (sW I (lA I (aT I (rE ?_))))))));exact ST.ret2 (.inl I) results94 I I ⟨I,hle,.inl ⟨hok,_,I,by rw[← hset]; exact hov⟩⟩
abbrev StrictL (l:List (List Int)):Prop:=l.Pairwise fun a b=>compareC a b<0
theorem compareC_asymm {a b:List Int}(h:compareC a b<0):¬ compareC b a<0:=by have:=compareC_antisymm a b; omega
theorem StrictL.srt {l:List (List Int)}(h:StrictL l):SrtL l:=h.imp fun h=>compareC_asymm h
theorem strictL_unique:∀ {l m:List (List Int)},StrictL l→StrictL m→(∀ x,x∈l↔x∈m)→l=m
 | [],[],_,_,_=>rfl
 | [],y::m,_,_,h=>by have:=(h y).2 (by simp); simp at this
 | x::l,[],_,_,h=>by have:=(h x).1 (by simp); simp at this
 | x::l,y::m,hl,hm,h=>by
  obtain ⟨h1,h2⟩:=List.pairwise_cons.1 hl;obtain ⟨h3,h4⟩:=List.pairwise_cons.1 hm;have hxy:x=y:=by
   rcases List.mem_cons.1 ((h x).1 (by simp)) with e | hx
   ·exact e
   ·rcases List.mem_cons.1 ((h y).2 (by simp)) with e | hy
    ·exact e.symm
    ·exact absurd (h1 y hy) (compareC_asymm (h3 x hx))
  subst hxy;have hself:¬ compareC x x<0:=by rw[compareC_self]; decide
  rw[strictL_unique h2 h4 fun z=>?_];constructor
  ·intro hz
   rcases List.mem_cons.1 ((h z).1 (by simp[hz])) with e | hz'
   ·subst e; exact absurd (h1 z hz) hself
   ·exact hz'
  ·intro hz
   rcases List.mem_cons.1 ((h z).2 (by simp[hz])) with e | hz'
   ·subst e; exact absurd (h3 z hz) hself
   ·exact hz'
theorem uniqGo_strictL:∀ {x:List Int} {l:List (List Int)},SrtL (x::l)→StrictL (uniqGo eqL x l)∧(∀ y∈uniqGo eqL x l,compareC x y<0)∧∀ y,y∈l→y=x∨y∈uniqGo eqL x l
 | x,[],_=>⟨List.Pairwise.nil,by simp[uniqGo],by simp⟩
 | x,y::r,h=>by
  obtain ⟨h1,h2⟩:=List.pairwise_cons.1 h;obtain ⟨i1,i2,i3⟩:=uniqGo_strictL h2;have hxy:=h1 y (by simp);unfold uniqGo;by_cases e:y=x
  ·subst e;simp only[eqL,decide_true,if_true];refine⟨i1,i2,fun z hz=>?_⟩
   rcases List.mem_cons.1 hz with rfl | hz
   ·exact .inl I
   ·exact i3 z hz
  ·have hlt:compareC x y<0:=by
    rcases compareC_cases x y with h | h | h
    ·exact h
    ·exact absurd h.symm e
    ·exact absurd h hxy
   simp only[eqL,e,decide_false];refine⟨List.pairwise_cons.2 ⟨i2,i1⟩,fun z hz=>?_,fun z hz=>?_⟩
   ·rcases List.mem_cons.1 hz with rfl | hz
    ·exact hlt
    ·exact compareC_trans _ _ _ hlt (i2 z hz)
   ·rcases List.mem_cons.1 hz with rfl | hz
    ·exact .inr (by simp)
    ·rcases i3 z hz with rfl | h
     ·exact .inr (by simp)
     ·refine .inr ?_;simp;exact .inr h
theorem addSets_strict (all:List (List Int))(t:List Int):StrictL (addSets all t):=by
 have hs:=sortL_srt (all++subsetsC t);unfold addSets;cases h:sortL (all++subsetsC t) with
 | nil=>exact List.Pairwise.nil
 | cons x r =>
  rw[h] at hs;obtain ⟨h1,h2,_⟩:=uniqGo_strictL hs;exact List.pairwise_cons.2 ⟨h2,h1⟩
theorem addSets_iff (all:List (List Int))(t x:List Int):x∈addSets all t↔x∈all∨x∈subsetsC t:=by
 refine⟨addSets_mem,fun h=>?_⟩;have hs:=sortL_srt (all++subsetsC t);have hm:x∈sortL (all++subsetsC t):=(sortL_perm _).symm.subset (List.mem_append.2 h);unfold addSets;cases hc:sortL (all++subsetsC t) with
 | nil=>rw[hc] at hm; simp at hm
 | cons y r =>
  rw[hc] at hs hm
  rcases List.mem_cons.1 hm with rfl | hm
  ·simp[uniq]
  ·rcases (uniqGo_strictL hs).2.2 x hm with rfl | h
   ·simp[uniq]
   ·simp[uniq,h]
theorem lbL_split:∀ {l:List (List Int)} (t:List Int),SrtL l→(∀ y∈l.take (lbL l t),compareC y t<0)∧∀ y∈l.drop (lbL l t),¬ compareC y t<0
 | [],t,_=>⟨by simp,by simp⟩
 | a::r,t,hs=>by
  obtain ⟨h1,h2⟩:=List.pairwise_cons.1 hs;obtain ⟨i1,i2⟩:=lbL_split t h2;by_cases ha:compareC a t<0
  ·have hl:lbL (a::r) t=lbL r t+1:=by simp[lbL,ha]
   rw[hl,List.take_succ_cons,List.drop_succ_cons];refine⟨fun y hy=>?_,i2⟩
   rcases List.mem_cons.1 hy with rfl | hy
   ·exact ha
   ·exact i1 y hy
  ·have hall:∀ y∈a::r,¬ compareC y t<0:=fun y hy=>by
    rcases List.mem_cons.1 hy with rfl | hy
    ·exact ha
    ·exact compareC_ntrans y a t (h1 y hy) ha
   have hz:lbL (a::r) t=0:=by
    unfold lbL;rw[List.length_eq_zero_iff,List.filter_eq_nil_iff];intro y hy;simpa using hall y hy
   rw[hz];exact⟨by simp,by simpa using hall⟩
theorem insL_strict {l:List (List Int)}{t:List Int}(hs:StrictL l)(hn:l.contains t=false):StrictL (l.take (lbL l t)++t::l.drop (lbL l t)):=by
 obtain ⟨h1,h2⟩:=lbL_split t hs.srt;have hs':StrictL (l.take (lbL l t)++l.drop (lbL l t)):=by rw[List.take_append_drop]; exact hs
 have h3:=List.pairwise_append.1 hs';refine List.pairwise_append.2 ⟨h3.1,List.pairwise_cons.2 ⟨fun y hy=>?_,h3.2.1⟩,fun y hy z hz=>?_⟩
 ·rcases compareC_cases t y with h | h | h
  ·exact h
  ·have:l.contains t=true:=by rw[h]; simpa using List.mem_of_mem_drop hy
   rw[hn] at this; cases this
  ·exact absurd h (h2 y hy)
 ·rcases List.mem_cons.1 hz with rfl | hz
  ·exact h1 y hy
  ·exact h3.2.2 y hy z hz
theorem simp_srt (all:List (List Int)):Srt Cl.id (simpCells all):=by
 unfold Srt;rw[List.pairwise_iff_getElem];intro i j hi hj hij;simp[simpCells,simpCell];omega
theorem canon_simp (all:List (List Int)):canonC (simpCells all)=(simpCells all).map normC:=by
 unfold canonC;rw[← eq_sortBy (simp_srt all) (Stab.refl _)]
theorem tmod_two (k:Nat):((k:Nat):Int).tmod 2=((k:Nat):Int) % 2:=Int.tmod_eq_emod_of_nonneg oM
theorem refSimplicial_spec (E:World)(g:PH)(s:Own)(v:Value)(ls:List (List Int))(hv:Lists g v ls)(hn:ls.length<1099511627776)(hl:∀ x∈ls,x.length<17592186044416) :
  Ctr Tryz.prog E 58 #[v] g s (fun r g' s'=>s=s'∧Le g g'∧∃ u,r = .agg #[u]∧Cells g' u (simpC ls)):=by
 obtain ⟨rs0,hrs0,hall0⟩:=hv;have hlen0:=hall0.length;obtain ⟨p,c,rfl⟩:=SlA.form hrs0;refine Ctr.of (args:=[.slice p rs0.length c]) func58 I ntmps58 (bE I) ?_;refine rZ (bW (aL zeroValue29) fun b2=>?_);refine tZ (rZ (aT I (sQ (rZ (aT I (bK ?_))))));refine oP (ι:=PH×Value×List (List Int)×Nat) (fun i=>[(0,.slice p rs0.length c),(2,pp b2 0),(3,i.2.1),(4,vi i.2.2.2)]) (fun i=>i.1)
  (fun _=>pt b2 (.cells #[.slice none 0 0] 29 (0,0))::s)
  (fun i=>Le g i.1∧i.2.2.2≤rs0.length∧Lists i.1 i.2.1 i.2.2.1∧(i.2.2.1.length≤4000∧∀ x∈i.2.2.1,x.length≤9)∧StrictL i.2.2.1∧simpAll [] ls=simpAll i.2.2.1 (ls.drop i.2.2.2)) (fun i=>rs0.length - i.2.2.2)
  (g,.slice none 0 0,[],0) sB rfl rfl ⟨Le.refl g,Nat.zero_le _,⟨[],Sl.nil g _,trivial⟩,⟨Nat.zero_le _,by simp⟩,List.Pairwise.nil,rfl⟩ ?_
 rintro ⟨g1,av,all,i⟩ ⟨hle,hi,hav,⟨hal,has⟩,hstr,hsa⟩;dsimp only at hle hi hav hal has hstr hsa ⊢;refine sQ (sW I (lM I (lU (eN uT108 I) (yL I (tZ ?_)))));refine iP I (fun hlt=>?_) (fun hlt=>?_)
 ·have hkl:i<ls.length:=oM;have hkr:i<rs0.length:=oM;have hR:=(hall0.get (gE hkl) (gE hkr)).mono hle;have hxl:=hl _ (gM hkl);have hb1:=hrs0.based oM;have hdrop:ls.drop i=ls[i]::ls.drop (i+1):=List.drop_eq_getElem_cons hkl;rw[hdrop] at hsa;generalize hx:ls[i]=x at *;generalize hr:rs0[i]=r at *;have hgr:rs0[((i:Nat):Int).toNat]?=some r:=by rw[← hr]; exact gE hkr
  refine kP (tN (sQ (bK (sW I (lM I (lU (iA uT108 zT22 I I hb1 oM sL) (lK (eB iT22 I (hrs0.mono hle).rd hgr I) (lW (SO.call call94 I (set_spec E g1 _ _ x hR hxl)) ?_))))))));rintro v31 g2 _ ⟨rfl,hle2,hset⟩;have hav2:=hav.mono hle2
  rcases hset with ⟨hok,u,rfl,hu⟩ | ⟨hok,rfl⟩
  ·obtain ⟨hs9,hsb⟩:=okS_good hok;obtain ⟨q,d,rfl⟩:=SlA.form hu;have hpow:=pow_le (setC x).length hs9;refine lM I (yX I (yX I (lA I (aT I ?_))));refine SC.cut (ι:=PH×Value×List (List Int)) (fun j=>[(0,.slice p rs0.length c),(2,pp b2 0),(3,j.2.1),(4,vi i)]) (fun j=>j.1) (fun _=>pt b2 (.cells #[.slice none 0 0] 29 (0,0))::s)
    (fun j=>Le g j.1∧Lists j.1 j.2.1 j.2.2∧StrictL j.2.2∧(∀ y,y∈j.2.2↔y∈all∨y∈subsetsC (setC x))∧j.2.2.length≤4600) ?_ ?_
   ·refine rZ (aT I (bK ?_));refine oP (ι:=PH×Value×List (List Int)×Nat) (fun j=>[(0,.slice p rs0.length c),(2,pp b2 0),(3,j.2.1),(4,vi i),(5,.slice q (setC x).length d),(6,vb true),(7,vi (j.2.2.2+1:Nat))]) (fun j=>j.1) (fun _=>pt b2 (.cells #[.slice none 0 0] 29 (0,0))::s)
     (fun j=>Le g2 j.1∧j.2.2.2+1≤2 ^ (setC x).length∧Lists j.1 j.2.1 j.2.2.1∧StrictL j.2.2.1∧(∀ y,y∈j.2.2.1↔y∈all∨y∈(List.range j.2.2.2).map fun m=>pickB (m+1) (setC x))∧j.2.2.1.length≤4000+j.2.2.2) (fun j=>2 ^ (setC x).length - j.2.2.2)
     (g2,av,all,0) sB rfl rfl ⟨Le.refl g2,Nat.one_le_two_pow,hav2,hstr,by simp,lN⟩ ?_
    rintro ⟨g3,bv,al,b⟩ ⟨hle3,hb,hbv,hbs,hbm,hbl⟩;dsimp only at hle3 hb hbv hbs hbm hbl ⊢;have hals:∀ y∈al,y.length≤9:=fun y hy=>by
     rcases (hbm y).1 hy with h | h
     ·exact has y h
     ·obtain ⟨m,_,rfl⟩:=List.mem_map.1 h;exact Nat.le_trans (pickB_length _ _) hs9
    refine sQ (sW I (lM I (yC I (yC I (lY I I I (eN uT22 I) (lY I I I (SU.eq (v':=vi ((2 ^ (setC x).length:Nat):Int)) (SU.shl I I oM) (congrArg vi (shl_one (setC x).length oM))) (lY I I I (lS I I) (yP I (tZ ?_)))))))));refine iP I (fun hlt2=>?_) (fun hlt2=>?_)
    ·have hbl2:b+1<2 ^ (setC x).length:=oM;refine kP (tN (sQ (bK (rZ (aT I (sQ (sQ (SC.nilRow 3 1 (rG (aT I (bK ?_)))))))))));refine oP (ι:=Value×Nat) (fun k=>[(0,.slice p rs0.length c),(2,pp b2 0),(3,bv),(4,vi i),(5,.slice q (setC x).length d),(6,vb true),(7,vi (b+1:Nat)),(8,k.1),(9,vi k.2)]) (fun _=>g3)
      (fun k=>rowA encInt 3 k.1 (pickB (b+1) ((setC x).take k.2))::pt b2 (.cells #[.slice none 0 0] 29 (0,0))::s) (fun k=>k.2≤(setC x).length) (fun k=>(setC x).length - k.2) (.slice none 0 0,0)
      sB rfl rfl (Nat.zero_le _) ?_
     rintro ⟨cv,k⟩ hk;dsimp only at hk ⊢;have hpl:=pickB_length (b+1) ((setC x).take k);rw[List.length_take] at hpl;refine sQ (sW I (lM I (lU (eN uT22 I) (yL I (tZ ?_)))));refine iP I (fun hlt3=>?_) (fun hlt3=>?_)
     ·have hkl:k<(setC x).length:=oM;have hbu:=SlA.based (hu.mono hle3) oM;have hsucc:=pickB_succ (bits:=b+1) hkl;refine kP (tN (sQ (bK (sW I (lM I (lU (SU.shr I I oM) (lU (SU.eq (v':=vi (((b+1) / 2 ^ k % 2:Nat):Int)) (SU.and I I) (congrArg vi ((and_one _).trans (shr_bit (b+1) k oM)))) (yE I (tZ ?_)))))))));refine iP I (fun hbit=>?_) (fun hbit=>?_)
      ·refine rG (lM I (lM I (lM I (lU (iA uT22 zT3 I I hbu oM sL) ?_))));refine SL.q (eB iT3 I (SlA.rd (hu.mono hle3)) (gE hkl) I) dC ?_;refine lW (bS sty22 I I I (szs_mk sB) dC) ?_;rintro _ _ _ ⟨b60,rfl,rfl,rfl⟩;refine lW (aP (e:=encInt) 0 (setC x)[k] sty22 I I I I I oM oM) ?_;rintro cv' _ _ ⟨rfl,rfl⟩;refine lA I (nL (bN (tN (rG (lM I (yD I (lA I (nL ?_))))))));refine ST.to (fun w hw=>?_) (g':=g3) (s':=rowA encInt 3 cv' (pickB (b+1) ((setC x).take (k+1)))::pt b2 (.cells #[.slice none 0 0] 29 (0,0))::s) ?_
       ·rw[hsucc,if_pos oM]; exact hw
       exact ST.again (cv',k+1) sB I I lN lN
      ·refine kP (bN (tN (rG (lM I (yD I (lA I (nL ?_)))))));refine ST.to (fun w hw=>?_) (g':=g3) (s':=rowA encInt 3 cv (pickB (b+1) ((setC x).take (k+1)))::pt b2 (.cells #[.slice none 0 0] 29 (0,0))::s) ?_
       ·rw[hsucc,if_neg oM]; exact hw
       exact ST.again (cv,k+1) sB I I lN lN
     ·have hkk:(setC x).take k=setC x:=tL oM;have htl:=pickB_length (b+1) (setC x);have hmem2:∀ nw:List (List Int),(∀ y,y∈nw↔y=pickB (b+1) (setC x)∨y∈al)→∀ y,y∈nw↔y∈all∨y∈(List.range (b+1)).map fun m=>pickB (m+1) (setC x):=fun nw h y=>by
       rw[h,hbm,List.range_succ,List.map_append,List.mem_append];simp;constructor
       ·rintro (h | h | h)
        ·exact .inr (.inr h)
        ·exact .inl h
        ·exact .inr (.inl h)
       ·rintro (h | h | h)
        ·exact .inr (.inl h)
        ·exact .inr (.inr h)
        ·exact .inl h
      generalize hpk:pickB (b+1) (setC x)=t at *;refine xI (tX (tX (bX (tN (sQ (fS fun g4 hle4 hs4=>?_))))));rw[hkk,hpk] at hs4;have ht:Ints g4 cv t:=hs4;have hbv4:=hbv.mono hle4;refine rG (lM I (lM I (lW (SO.call call95 I (place_spec E g4 _ _ _ al t hbv4 ht oM (fun y hy=>by have:=hals y hy; omega) oM hbs.srt)) ?_)));rintro _ _ _ ⟨rfl,rfl,rfl⟩;refine lM I (yX I (yX I (lA I (aT I (sW I (lU (SU.not I) (tZ ?_)))))));refine iQ I (fun hthere=>?_) (fun hthere=>?_)
      ·have hth:al.contains t=false:=by simpa using hthere
       have hlb:=lbL_le al t;obtain ⟨ra,hra,halr⟩:=hbv4;have hral:=halr.length;obtain ⟨qa,da,rfl⟩:=SlA.form hra;have hcapa:=(SlA.cap hra).2;obtain ⟨qt,dt,rfl⟩:=SlA.form ht;have hca:=SlA.cut hra (l:=lbL al t) (m:=ra.length) oM (lR _);have hcb:=SlA.cut hra (l:=0) (m:=lbL al t) (Nat.zero_le _) oM;rw[tL (by rw[List.length_drop]; exact lR _)] at hca;rw[List.drop_zero,Nat.sub_zero] at hcb;refine sW I (lW (bS sty108 I I I (szs_mk ⟨I,trivial⟩) dC) ?_);rintro _ _ _ ⟨b71,rfl,rfl,rfl⟩;refine SL.to (fun w hw=>At.litRow (e:=encSv) (l:=[⟨qt,t.length,dt⟩]) (n:=0) hw I I dC) ?_;refine lM rfl (lM rfl (lU (SU.sliceL uT108 zT22 rfl rfl oM oM) (lW (aQ (e:=encSv) 0 sty108 rfl rfl rfl hca (by rw[List.length_drop]; (first | with_reducible rfl | ((try dsimp only); (try simp only[List.length_append,List.length_cons,List.length_nil,List.length_singleton,List.length_take,List.length_drop])<;>omega))) (by rw[List.length_drop]; (first | with_reducible rfl | ((try dsimp only); (try simp only[List.length_append,List.length_cons,List.length_nil,List.length_singleton,List.length_take,List.length_drop])<;>omega)))) ?_)));rintro v75 _ _ ⟨rfl,rfl⟩;refine aT I (fS fun g5 hle5 hs5=>?_);have hrest:SlA encSv g5 v75 ([⟨qt,t.length,dt⟩]++ra.drop (lbL al t)):=hs5;refine rG (lW (bS sty108 I I I (szs_mk trivial) dC) ?_);rintro _ _ _ ⟨b76,rfl,rfl,rfl⟩;refine SL.emptyRow 22 1 (some ⟨b76,0,none⟩) (lM rfl (lM rfl (lU (SU.sliceH uT108 zT22 rfl rfl oM oM) (lW (aQ (e:=encSv) (l:=[]) 0 sty108 rfl rfl rfl (hcb.mono hle5) (by rw[List.length_take]; (first | with_reducible rfl | ((try dsimp only); (try simp only[List.length_append,List.length_cons,List.length_nil,List.length_singleton,List.length_take,List.length_drop])<;>omega))) (by rw[List.length_take]; (first | with_reducible rfl | ((try dsimp only); (try simp only[List.length_append,List.length_cons,List.length_nil,List.length_singleton,List.length_take,List.length_drop])<;>omega)))) ?_))));rintro v80 _ _ ⟨rfl,rfl⟩;refine lM I (lW (aQ (e:=encSv) 0 sty108 I I I hrest lN lN) ?_);rintro v82 _ _ ⟨rfl,rfl⟩;refine lA I (nL (bN (tN (rG (lM I (yD I (lA I (nL (fT fun g6 hle6 hs6=>?_)))))))));refine dR (s':=pt b2 (.cells #[.slice none 0 0] 29 (0,0))::s) (.cons _ (.refl _)) ?_;have hres:Lists g6 v82 (al.take (lbL al t)++t::al.drop (lbL al t)):=by
        refine⟨ra.take (lbL al t)++⟨qt,t.length,dt⟩::ra.drop (lbL al t),?_,?_⟩
        ·have h:SlA encSv g6 v82 ([]++ra.take (lbL al t)++([⟨qt,t.length,dt⟩]++ra.drop (lbL al t))):=hs6;simpa using h
        ·exact ((All2.take _ halr).mono fun _ _=>ListR.mono (hle5.trans hle6)).append ⟨ht.mono (hle5.trans hle6),(All2.drop _ halr).mono fun _ _=>ListR.mono (hle5.trans hle6)⟩
       exact ST.again (g6,v82,al.take (lbL al t)++t::al.drop (lbL al t),b+1) ⟨I,I,I,I,I,I,vi_eq (by simp),trivial⟩ I I ⟨hle3.trans (hle4.trans (hle5.trans hle6)),hbl2,hres,insL_strict hbs hth,hmem2 _ (fun y=>mem_ins),lN⟩ lN
      ·have hth:t∈al:=by simpa using hthere
       refine kP (bN (tN (rG (lM I (yD I (lA I (nL ?_)))))));exact ST.again (g4,bv,al,b+1) ⟨I,I,I,I,I,I,vi_eq (by simp),trivial⟩ I I ⟨hle3.trans hle4,hbl2,hbv4,hbs,hmem2 _ (fun y=>⟨.inr,fun h=>h.elim (fun e=>by rw[e]; exact hth) id⟩),lN⟩ lN
    ·have hbb:b=2 ^ (setC x).length - 1:=oM;refine xI (tX (tX (bX ?_)));exact ST.mid (g3,bv,al) sB I I ⟨hle.trans (hle2.trans hle3),hbv,hbs,fun y=>by dsimp only; rw[hbm]; unfold subsetsC; rw[hbb],lN⟩
   ·rintro ⟨g3,bv,al⟩ ⟨hle3,hbv,hbs,hbm,hbl⟩;dsimp only at hle3 hbv hbs hbm hbl ⊢;have hals:∀ y∈al,y.length≤9:=fun y hy=>by
     rcases (hbm y).1 hy with h | h
     ·exact has y h
     ·exact subsetsC_short hs9 y h
    have key:((al.length:Int)>4000→simpAll [] ls=none)∧(¬ (al.length:Int)>4000→simpAll [] ls=simpAll al (ls.drop (i+1))):=by
     by_cases hb:badSet (setC x)=true
     ·have he:=hsb hb;have hal2:al=all:=strictL_unique hbs hstr fun y=>by rw[hbm,he]; simp[subsetsC]
      refine⟨fun h=>by rw[hal2] at h; omega,fun _=>by rw[hsa,simpAll,if_pos hb,hal2]⟩
     ·have hal2:al=addSets all (setC x):=strictL_unique hbs (addSets_strict _ _) fun y=>by rw[hbm,addSets_iff]
      refine⟨fun h=>by rw[hsa,simpAll,if_neg hb,if_pos (by rw[← hal2]; exact h)],fun h=>by rw[hsa,simpAll,if_neg hb,if_neg (by rw[← hal2]; exact h),← hal2]⟩
    obtain ⟨ra,hra,halr⟩:=hbv;have hbv:Lists g3 bv al:=⟨ra,hra,halr⟩;have hral:=halr.length;obtain ⟨qa,da,rfl⟩:=SlA.form hra;refine sW I (lU (eN uT108 I) (lU (gR I I) (tZ ?_)));refine iP I (fun hmany=>?_) (fun hmany=>?_)
    ·refine rZ (lU (SU.build I (buildE29)) (oZ (sK 0 zT29 I I I I I sB) ?_));refine tZ (rE (bR (tR (tR (bR (tR ?_))))));exact ST.retCD 0 s (.inl I) results58 I iT29 zT29 I I uR ⟨I,hle3,_,I,by simp only[simpC,key.1 oM]; exact⟨[],Sl.nil _ _,trivial⟩⟩
    ·refine kP (bN (tN (rG (lM I (yD I (lA I (nL ?_)))))));exact ST.again (g3,_,al,i+1) sB I I ⟨hle3,lN,hbv,⟨lN,hals⟩,hbs,key.2 oM⟩ lN
  ·have hb:=okS_bad hok;obtain ⟨ra,hra,halr⟩:=hav2;have hav2:Lists g2 av all:=⟨ra,hra,halr⟩;have hral:=halr.length;obtain ⟨qa,da,rfl⟩:=SlA.form hra;refine lM I (yX I (yX I (lA I (aT I (sQ (rZ (aT I (bK ?_))))))));refine oP (ι:=Unit) (fun _=>[(0,.slice p rs0.length c),(2,pp b2 0),(3,.slice qa ra.length da),(4,vi i),(5,.slice none 0 0),(6,vb false),(7,vi 1)]) (fun _=>g2) (fun _=>pt b2 (.cells #[.slice none 0 0] 29 (0,0))::s) (fun _=>True) (fun _=>0) () sB I I trivial ?_;rintro ⟨⟩ -;refine sQ (sW I (lM I (yA I (yA I (yA I (yA I (yA I (yF I (tZ (cF I (xI (tX (tX (bX (tN (sW I (lU (eN uT108 I) (lU (gR I I) (tZ ?_)))))))))))))))))));refine iP I (fun hmany=>?_) (fun hmany=>?_)
   ·exfalso;omega
   ·refine kP (bN (tN (rG (lM I (yD I (lA I (nL ?_)))))));exact ST.again (g2,_,all,i+1) sB I I ⟨hle.trans hle2,lN,hav2,⟨hal,has⟩,hstr,by dsimp only; rw[hsa,simpAll,if_pos hb]⟩ lN
 ·have hk0:i=rs0.length:=oM;have hsome:simpAll [] ls=some all:=by rw[hsa,hk0,← hlen0,List.drop_length]; rfl
  obtain ⟨rs,hrs,hall⟩:=hav;have hav:Lists g1 av all:=⟨rs,hrs,hall⟩;have hrl:=hall.length;obtain ⟨q,d,rfl⟩:=SlA.form hrs;refine xI (tX (tX (bX (tN (rZ (bW (aL zeroValue29) fun b13=>?_))))));refine tZ (sQ (rZ (aT I (bK (SC.nilRow 54 3 ?_)))));refine oP (ι:=PH×Value×List Rc×Nat) (fun i=>[(2,pp b2 0),(3,.slice q rs.length d),(13,pp b13 0),(14,vi i.2.2.2)]) (fun i=>i.1)
   (fun i=>rowA encCell 54 i.2.1 i.2.2.1::pt b13 (.cells #[i.2.1] 29 (0,0))::pt b2 (.cells #[.slice none 0 0] 29 (0,0))::s)
   (fun i=>Le g1 i.1∧i.2.2.2≤rs.length∧All2 (CellR i.1) (((simpCells all).take i.2.2.2).map normC) i.2.2.1) (fun i=>rs.length - i.2.2.2)
   (g1,.slice none 0 0,[],0) sB rfl rfl ⟨Le.refl g1,Nat.zero_le _,trivial⟩ ?_
  rintro ⟨g3,ov,rcs,n⟩ ⟨hle3,hn3,hrcs⟩;dsimp only at hle3 hn3 hrcs ⊢;have hrcl:=hrcs.length;rw[List.length_map,List.length_take,simpCells_length] at hrcl;refine sQ (sW I (lM I (lU (eN uT108 I) (yL I (tZ ?_)))));refine iP I (fun hlt2=>?_) (fun hlt2=>?_)
  ·have hnl:n<all.length:=oM;have hnr:n<rs.length:=oM;have hb1:=hrs.based oM;have hR:=(hall.get (gE hnl) (gE hnr)).mono hle3;have hRl:=hR.len;have hx9:=has _ (gM hnl);have hget:=simpCells_get hnl;generalize hx:all[n]=x at *;generalize hr:rs[n]=r at *;obtain ⟨rp,rn,rc⟩:=r;dsimp only at hRl;subst hRl;have hxs:Ints g3 (.slice rp x.length rc) x:=hR;have hgr:rs[((n:Nat):Int).toNat]?=some ⟨rp,x.length,rc⟩:=by rw[← hr]; exact gE hnr
   refine kP (tN (sQ (bK (sW I (yD I (lM I (lM I (lU (iA uT108 zT22 I I hb1 oM sL) (lK (eB (u:=.slice rp x.length rc) iT22 I (hrs.mono hle3).rd hgr I) (lU (eN uT22 I) (lU (sU I I oM) (lU (SU.build I (buildC54 _ _)) (bW (aL zeroValue54) fun b15=>?_)))))))))))));refine oZ (sK 0 zT54 I I I I I sB) ?_;refine tZ ?_;refine SC.cut (ι:=PH×Value) (fun i=>[(2,pp b2 0),(3,.slice q rs.length d),(13,pp b13 0),(14,vi n),(15,pp b15 0)]) (fun i=>i.1)
    (fun i=>rowA encSide 56 i.2 (simpSides all x x.length)::pt b15 (.cells #[vi ((n:Int)+1),vi ((x.length:Int) - 1),i.2] 54 (0,0))::rowA encCell 54 ov rcs::pt b13 (.cells #[ov] 29 (0,0))::pt b2 (.cells #[.slice none 0 0] 29 (0,0))::s)
    (fun i=>Le g3 i.1) ?_ ?_
   ·refine sQ (SC.nilRow 56 2 (rG (aT I (bK ?_))));refine oP (ι:=PH×Value×Nat) (fun i=>[(2,pp b2 0),(3,.slice q rs.length d),(13,pp b13 0),(14,vi n),(15,pp b15 0),(16,vi i.2.2)]) (fun i=>i.1)
     (fun i=>rowA encSide 56 i.2.1 (simpSides all x i.2.2)::pt b15 (.cells #[vi ((n:Int)+1),vi ((x.length:Int) - 1),i.2.1] 54 (0,0))::rowA encCell 54 ov rcs::pt b13 (.cells #[ov] 29 (0,0))::pt b2 (.cells #[.slice none 0 0] 29 (0,0))::s)
     (fun i=>Le g3 i.1∧i.2.2≤x.length) (fun i=>x.length - i.2.2)
     (g3,.slice none 0 0,0) sB rfl rfl ⟨Le.refl g3,Nat.zero_le _⟩ ?_
    rintro ⟨g4,sv,j⟩ ⟨hle4,hj⟩;dsimp only at hle4 hj ⊢;have hssl:=simpSides_length all x j;have hsucc:=simpSides_succ all x j;have hxs4:Ints g4 (.slice rp x.length rc) x:=hxs.mono hle4;by_cases hjl:j<x.length
    ·have hjd:((j:Nat):Int)<((x.length:Nat):Int):=oM;by_cases hdim:((x.length:Int) - 1)>0
     ·have hel:(x.eraseIdx j).length=x.length - 1:=by rw[List.length_eraseIdx]; simp[hjl]
      have hside:sideAt all x j=[⟨lbL all (x.eraseIdx j)+1,signC j⟩]:=by unfold sideAt; rw[if_pos oM]
      have hlb:=lbL_le all (x.eraseIdx j);rw[hside] at hsucc;have hcap:=(SlA.cap hxs4).2;have hc1:=SlA.cut hxs4 (l:=0) (m:=j) oM oM;have hc2:=SlA.cut hxs4 (l:=j+1) (m:=x.length) oM oM;have he1:(x.drop 0).take (j - 0)=x.take j:=by simp
      have he2:(x.drop (j+1)).take (x.length - (j+1))=x.drop (j+1):=tL (by rw[List.length_drop]; omega);rw[he1] at hc1;rw[he2] at hc2;have her:[]++x.take j++x.drop (j+1)=x.eraseIdx j:=by rw[List.eraseIdx_eq_take_drop_succ]; simp
      have hcl1:([]++x.take j).length=j:=by simp; omega
      refine sQ (sW I (lM I (lM I (lU (iA uT108 zT22 I I hb1 oM sL) (lK (eB (u:=.slice rp x.length rc) iT22 I (hrs.mono (hle3.trans hle4)).rd hgr I) (lU (eN uT22 I) (lU (SU.eq (v':=vb true) (lS I I) (congrArg vb (decide_eq_true hjd))) (lM I (lY I I I (fA uT54 I zT3 I) (SL.gq (gT I I I dC) (qL (v:=vi ((x.length:Int) - 1)) iT3 I (cO 1 I I)) dC (lY I I I (SU.eq (v':=vb true) (gR I I) (congrArg vb (decide_eq_true hdim))) (yP I (tZ (SC.condT I (kP (tN (sQ (bK (sQ ?_)))))))))))))))))));refine dW [15] [(1,2),(2,2),(3,2),(4,1),(5,2),(6,2),(8,2),(9,2),(10,2),(11,1),(12,2),(13,2),(14,2),(0,0),(7,0),(15,0),(16,2)] Tryz.mixed kR ?_;refine yM I (yM I (pU I (iA uT108 zT22 I I hb1 oM sL) (pK I (eB (u:=.slice rp x.length rc) iT22 I (hrs.mono (hle3.trans hle4)).rd hgr I) (yM I (pU I (SU.sliceH uT22 zT3 I I oM oM) (yM I (yM I (pU I (iA uT108 zT22 I I hb1 oM sL) (pK I (eB (u:=.slice rp x.length rc) iT22 I (hrs.mono (hle3.trans hle4)).rd hgr I) (yM I (pU I (aD I I oM) (pU I (SU.eq (v':=sliced rp (j+1) x.length rc 1) (SU.sliceL uT22 zT3 I I oM oM) (by rw[show ((j:Int)+1).toNat=j+1 by omega])) ?_))))))))))));refine SP.o I (bS sty22 I I I (szs_mk trivial) dC) dC (.inr iR) ?_;rintro _ _ _ ⟨b116,rfl,rfl,rfl⟩;refine SP.to (fun w hw=>hw.emptyRow 3 1 (some ⟨b116,0,none⟩)) ?_;refine SP.o rfl (aQ (e:=encInt) (l:=[]) 0 sty22 rfl rfl rfl hc1 (by rw[List.length_take]; (first | with_reducible rfl | ((try dsimp only); (try simp only[List.length_append,List.length_cons,List.length_nil,List.length_singleton,List.length_take,List.length_drop])<;>omega))) (by rw[List.length_take]; (first | with_reducible rfl | ((try dsimp only); (try simp only[List.length_append,List.length_cons,List.length_nil,List.length_singleton,List.length_take,List.length_drop])<;>omega)))) dC (.inr iR) ?_;rintro v123 _ _ ⟨rfl,rfl⟩;refine SP.o I (aQ (e:=encInt) 0 sty22 I I I hc2 (by rw[List.length_drop,hcl1]; omega) (by rw[List.length_drop,hcl1]; omega)) dC (.inl dC) ?_;rintro v131 _ _ ⟨rfl,rfl⟩;refine pU I (aS I) (pN (tN (sQ (fS fun g6 hle6 hs6=>?_))));have hrest:Ints g6 v131 (x.eraseIdx j):=(by rw[← her]; exact hs6);refine SC.drop (s':=rowA encSide 56 sv (simpSides all x j)::pt b15 (.cells #[vi ((n:Int)+1),vi ((x.length:Int) - 1),sv] 54 (0,0))::rowA encCell 54 ov rcs::pt b13 (.cells #[ov] 29 (0,0))::pt b2 (.cells #[.slice none 0 0] 29 (0,0))::s) (.cons _ (.refl _)) (rG (lM I (lM I (lW (SO.call call95 I (place_spec E g6 _ _ _ all (x.eraseIdx j) (hav.mono (hle3.trans (hle4.trans hle6))) hrest oM (fun y hy=>by have:=has y hy; omega) oM hstr.srt)) ?_))));rintro _ _ _ ⟨rfl,rfl,rfl⟩;refine lM I (yX I (yX I (lA I (aT I (rG (lU (fA uT54 I zT37 I) (lK (qL (v:=sv) iT37 I (cO 1 I I)) (lM I (yD I (lM I (lU (SU.eq (v':=vi ((j:Int) % 2)) (SU.rem I I dC) (congrArg vi (tmod_two j))) (lU (SU.mul I I oM) (lU (SU.eq (v':=vi (signC j)) (sU I I oM) I) (lU (SU.build I (buildS56 _ _)) (lW (bS sty37 I I I (szs_mk sB) dC) ?_)))))))))))))));rintro _ _ _ ⟨b147,rfl,rfl,rfl⟩;refine lW (aP (e:=encSide) 0 ⟨lbL all (x.eraseIdx j)+1,signC j⟩ sty37 I I I I I oM oM) ?_;rintro v148 _ _ ⟨rfl,rfl⟩;rw[← hsucc];refine SL.facts fun ⟨w0,hw0⟩=>?_;obtain ⟨q148,d148,rfl⟩:=rowA_form (i:=0) hw0 rfl;clear hw0 w0;refine lU (fA uT54 rfl zT37 rfl) (oZ (SO.store1 1 zT37 rfl rfl rfl rfl (bE rfl) (by rfl)) ?_);refine nL (bN (tN (rG (lM I (yD I (lA I (nL ?_)))))));exact ST.again (g6,_,j+1) sB I I ⟨hle4.trans hle6,lN⟩ lN
     ·have hx1:x.length=1:=oM;have hj0:j=0:=oM;have hempty:simpSides all x x.length=simpSides all x j:=by
       rw[hx1,hj0];have h0:=simpSides_succ all x 0;have hs0:sideAt all x 0=[]:=by
        unfold sideAt;rw[if_neg];rw[List.length_eraseIdx];simp[hx1]
       rw[h0,hs0,List.append_nil]
      rw[← hempty];refine sQ (sW I (lM I (lM I (lU (iA uT108 zT22 I I hb1 oM sL) (lK (eB (u:=.slice rp x.length rc) iT22 I (hrs.mono (hle3.trans hle4)).rd hgr I) (lU (eN uT22 I) (lU (SU.eq (v':=vb true) (lS I I) (congrArg vb (decide_eq_true hjd))) (lM I (lY I I I (fA uT54 I zT3 I) (SL.gq (gT I I I dC) (qL (v:=vi ((x.length:Int) - 1)) iT3 I (cO 1 I I)) dC (lY I I I (SU.eq (v':=vb false) (gR I I) (congrArg vb (decide_eq_false hdim))) (yP I (tZ (cF I (xI (tX (tX (bX ?_))))))))))))))))));exact ST.mid (g4,sv) sB I I hle4
    ·have hjd:¬ ((j:Nat):Int)<((x.length:Nat):Int):=oM;have hjj:j=x.length:=oM;subst hjj;refine sQ (sW I (lM I (lM I (lU (iA uT108 zT22 I I hb1 oM sL) (lK (eB (u:=.slice rp x.length rc) iT22 I (hrs.mono (hle3.trans hle4)).rd hgr I) (lU (eN uT22 I) (lU (SU.eq (v':=vb false) (lS I I) (congrArg vb (decide_eq_false hjd))) (lM I (yA I (yA I (yA I (yF I (tZ (cF I (xI (tX (tX (bX ?_))))))))))))))))));exact ST.mid (g4,sv) sB I I hle4
   ·rintro ⟨g4,sv⟩ hle4;dsimp only at hle4 ⊢;have hssl:=simpSides_length all x x.length;refine rZ (fR fun g5 hle5 hs5=>?_);have hsd:SlA encSide g5 sv (simpSides all x x.length):=hs5;refine lU (fA uT54 I zT37 I) (lK (qL (v:=sv) iT37 I (cO 0 I I)) (lW (SO.call call96 I (sides_spec E g5 _ _ (simpSides all x x.length) hsd oM)) ?_));rintro v152 g6 _ ⟨rfl,hle6,hs6⟩;obtain ⟨q6,d6,rfl⟩:=SlA.form hs6;obtain ⟨nc,hnc⟩:∃ nc:Rc,nc=⟨(n:Int)+1,(x.length:Int) - 1,⟨q6,(sortBy Side.cell (simpSides all x x.length)).length,d6⟩⟩:=⟨_,rfl⟩;refine lU (fA uT54 rfl zT37 rfl) (oZ (SO.store1 0 zT37 rfl rfl rfl rfl (bE rfl) (by rfl)) ?_);refine tZ (rG (lU (fA uT29 I zT27 I) (lK (qL iT27 I (cO 2 I I)) (lK (qV 0 iT54 zT54 I I I) (lW (bS sty27 I I I (szs_mk sB) dC) ?_)))));rintro _ _ _ ⟨b157,rfl,rfl,rfl⟩;refine lW (aP (e:=encCell) 1 nc sty27 rfl rfl rfl rfl (by rw[hnc]; rfl) oM oM) ?_;rintro v158 _ _ ⟨rfl,rfl⟩;refine SL.facts fun ⟨w0,hw0⟩=>?_;obtain ⟨q158,d158,rfl⟩:=rowA_form (i:=1) hw0 rfl;clear hw0 w0;refine lU (fA uT29 I zT27 I) (oZ (sK 2 zT27 I I I I I sB) ?_);refine nL (bN (tN (rG (lM I (yD I (lA I (nL (dR (s':=rowA encCell 54 (.slice q158 (rcs++[nc]).length d158) (rcs++[nc])::pt b13 (.cells #[.slice q158 (rcs++[nc]).length d158] 29 (0,0))::pt b2 (.cells #[.slice none 0 0] 29 (0,0))::s) (.cons _ (.refl _)) ?_))))))));refine ST.again (g6,_,rcs++[nc],n+1) sB I I ⟨hle3.trans (hle4.trans (hle5.trans hle6)),lN,?_⟩ lN;dsimp only;rw[take_succ_of hget,List.map_append];exact (hrcs.mono fun _ _=>CellR.mono (hle4.trans (hle5.trans hle6))).append ⟨(by rw[hnc]; exact⟨I,I,hs6⟩),trivial⟩
  ·have hnn:n=rs.length:=oM;have htk:(simpCells all).take n=simpCells all:=tL (by rw[simpCells_length]; omega);rw[htk] at hrcs;refine xI (tX (tX (bX (tN (sQ (fS fun g4 hle4 hs4=>?_))))));have hov:Cells g4 ov (simpC ls):=(by simp only[simpC,hsome,canon_simp]; exact⟨rcs,hs4,hrcs.mono fun _ _=>CellR.mono hle4⟩);obtain ⟨q9,d9,rfl⟩:=hov.form;refine rG (lK (qV 0 iT29 zT29 I I I) (oZ (sK 1 zT29 I I I I I sB) ?_));refine tZ (rE ?_);exact ST.retCD 1 s (.inl I) results58 I iT29 zT29 I I uR ⟨I,hle.trans (hle3.trans hle4),_,I,hov⟩
set_option maxHeartbeats 2000000
end Go.Proofs.YtmmghffoakhheaaGreatDoor
namespace Go.Sy
open Go
section
variable {P:Program}{N:Nat}{E:World}{ops:Array Oper}{Q:Exit→Act→World→Prop}{g0:PH}{s0:Own}{tail:List Nat}{f:Fr}{g g':PH}{s s':Own}{L:Array Bool}{n:Nat}
theorem SX.to (h:∀ w,At E g s w→At E g' s' w)(hc:SX P N E ops Q g0 s0 tail L n f g' s'):SX P N E ops Q g0 s0 tail L n f g s:=fun a w h1 hcl ha hw hb=>hc a w h1 hcl ha (h w hw) hb
theorem SX.freezeRow {T:TypeId}{k m:Nat}{v:Value}{xs:List Value}(h:∀ g',Le g g'→Sl g' k v m xs→SX P N E ops Q g0 s0 tail L n f g' s):SX P N E ops Q g0 s0 tail L n f g (row T k v m xs::s):=fun a w h1 hcl ha hw hb=>by
 obtain ⟨g',h3,h4,h5⟩:=hw.freezeRow;exact h g' h3 h5 a w h1 hcl ha h4 hb
end
end Go.Sy
namespace Go.Proofs.YtmmghffoakhheaaGreatDoor
open _root_.Go.Proofs.Tryz _root_.Go.Proofs.YtmmghffoakhheaaGreatDoor.Tryz
open Go Go.Sy Go.Pl Go.Proofs
set_option maxRecDepth 100000
theorem map_take_succ {α β:Type}{l:List α}{i:Nat}(h:i<l.length)(f:α→β):(l.take (i+1)).map f=(l.take i).map f++[f l[i]]:=by
 rw[tS h,List.map_append]; rfl
def mixC (id k:Int):Int:=if k=1 then id else IntKind.i64.wrap ((IntKind.i64.wrap (id * k)).tmod 211+1)
theorem simpAll_facts:∀ (all ls:List (List Int)),all.length≤4000→(∀ x∈all,x.length≤9)→∀ r,simpAll all ls=some r→r.length≤4000∧∀ x∈r,x.length≤9
 | all,[],h1,h2,r,h=>by cases h; exact⟨h1,h2⟩
 | all,t::ls,h1,h2,r,h=>by
  unfold simpAll at h;split at h
  ·exact simpAll_facts all ls h1 h2 r h
  ·rename_i hb;split at h
   ·cases h
   ·rename_i hl;refine simpAll_facts _ ls oM (fun x hx=>?_) r h
    rcases addSets_mem hx with hx | hx
    ·exact h2 x hx
    ·refine subsetsC_short ?_ x hx;cases hT:setC t with
     | nil=>simp
     | cons a r =>
      rw[hT] at hb;simp only[badSet,Bool.or_eq_true,decide_eq_true_iff,not_or] at hb;omega
theorem simpC_fits (ls:List (List Int)):Fits (simpC ls)∧(simpC ls).length≤4000:=by
 unfold simpC;cases h:simpAll [] ls with
 | none=>exact⟨⟨by simp,by simp⟩,by simp⟩
 | some all =>
  obtain ⟨h1,h2⟩:=simpAll_facts [] ls (by simp) (by simp) all h;have h3:(canonC (simpCells all)).length≤4000:=by rw[canonC_length,simpCells_length]; exact h1
  exact⟨canonC_fits (simpCells_fits h1 h2),h3⟩
set_option maxHeartbeats 1000000
open Go.ChangeShapes Go.WideShapes Go.ChangeAt Go.RowKit
set_option maxRecDepth 100000
def held (W:World):PH:=fun b=>W.heap[b]?
def E0 (W:World):World:={ W with drawn:=0 }
theorem at_start (W:World):At (E0 W) (held W) [] W:=⟨rfl,⟨rfl,Nat.zero_le _⟩,rfl,fun _ _ h=>h,by simp,by simp,List.Pairwise.nil⟩
theorem at_below {W W':World}{g:PH}{s:Own}(h:At (E0 W) g s W')(hl:Le (held W) g):Below W.heap.size W W':=by
 have hb:∀ k,k<W.heap.size→W'.heap[k]?=W.heap[k]?:=fun k hk=>by
  have h1:W.heap[k]?=some W.heap[k]:=Array.getElem?_eq_getElem hk;rw[h1];exact h.known k _ (hl k _ h1)
 refine⟨h.os,h.tape.1,h.output,?_,hb⟩;refine Decidable.of_not_not fun hc=>?_;have h1:=hb W'.heap.size oM;rw[Array.getElem?_eq_none (lR _),Array.getElem?_eq_getElem oM] at h1;cases h1
theorem row_sl {W:World}{a:Addr}{len cap:Nat}{xs:List Value}(hl:len≤cap)(hx:xs.length=len)(hc:∀ i x,xs[i]?=some x→W.cell? (a.add i)=some x):Sl (held W) 1 (.slice (some a) len cap) len xs:=by
 refine⟨some a,cap,I,⟨oM,hl⟩,fun hne=>?_⟩;obtain ⟨b,o,sp⟩:=a;have h0:0<xs.length:=List.length_pos_iff.2 hne;have hc0:=hc 0 xs[0] (gE h0);have hsp:sp=none:=by simpa [Addr.add] using World.cell?_spot hc0
 subst hsp;have hadd:∀ i,(⟨b,o,none⟩:Addr).add i=⟨b,o+i,none⟩:=fun i=>by unfold Addr.add; split <;> simp_all
 simp only[hadd] at hc;have hcell:∀ i x,xs[i]?=some x→∃ cs T fr,W.heap[b]?=some (.cells cs T fr)∧cs[o+i]?=some x:=fun i x hi=>by
  have h1:=hc i x hi;unfold World.cell? at h1;split at h1
  ·rename_i cs T fr hh;exact⟨cs,T,fr,hh,by simpa using h1⟩
  ·cases h1
 obtain ⟨cs,T,fr,hb,_⟩:=hcell 0 xs[0] (gE h0);refine⟨b,o,cs,T,fr,I,hb,fun j x hj=>?_⟩;obtain ⟨cs',T',fr',hb',h2⟩:=hcell j x hj;rw[hb] at hb';cases hb';exact h2
section
variable {H:Type}{enc:TypeId×Value→H}{W:World}{base:Nat}{spare:Nat→Bool}{hd:Bool}
theorem Tryz.cells3:Tryz.prog.cellsOf 3=1:=by kernel_rfl
theorem Tryz.cells41:Tryz.prog.cellsOf 41=3:=by kernel_rfl
theorem ints_of {fuel:Nat}{v:Value}{x:DataW H×List MemPlace}(h:DataW.trod enc Tryz.prog W base spare hd fuel 22 [v]=some x):∃ (l:List Int) (r:Sv),v = .slice r.p r.n r.c∧Ints (held W) v l:=by
 rcases open_ints uT22 uT3 cells3 h with ⟨hcs,_⟩ | ⟨a,len,cap,zs,hcs,_,hl,_,hz,_,hcell,_⟩
 ·simp at hcs;subst hcs;exact⟨[],⟨none,0,0⟩,I,Sl.nil _ _⟩
 ·simp at hcs;subst hcs;have hlz:len≤zs.length:=by rw[hz]; split <;> omega
  have hlen:(zs.take len).length=len:=by rw[List.length_take]; omega
  have he:(zs.take len).flatMap encInt.enc=(zs.take len).map vi:=by
   rw[List.flatMap_def];induction zs.take len with
   | nil=>rfl
   | cons y t ih=>simp[encInt] at ih ⊢; exact ih
  refine⟨zs.take len,⟨some a,len,cap⟩,I,?_⟩;show Sl (held W) 1 _ (zs.take len).length ((zs.take len).flatMap encInt.enc);rw[he,hlen];refine row_sl hl (by rw[List.length_map,hlen]) fun i y hi=>?_;rw[List.getElem?_map] at hi;cases hc:(zs.take len)[i]? with
  | none=>rw[hc] at hi; cases hi
  | some z =>
   rw[hc] at hi;cases hi;have hil:i<(zs.take len).length:=(List.getElem?_eq_some_iff.1 hc).1;have hi2:i<zs.length:=oM;rw[hcell i hi2];have:zs.getD i 0=z:=by
    rw[List.getElem?_take] at hc;split at hc
    ·rw[List.getD_eq_getElem?_getD,hc]; rfl
    ·cases hc
   rw[this]
instance:Inhabited (List Int×Sv):=⟨([],⟨none,0,0⟩)⟩
theorem okWide_array {r:Reach}{b0:Nat}{P:Program}{w:World}{t e:TypeId}{n:Nat}{v:Value}(ht:P.underlying t=some (.array n e))(h:Value.okWide P w r b0 t v):∃ cs,v = .agg cs∧cs.size=P.cellsOf t:=by
 simp only[Value.okWide,ht] at h;obtain ⟨cs,h1,h2,_⟩:=h;exact⟨cs,h1,h2⟩
end
end Go.Proofs.YtmmghffoakhheaaGreatDoor
namespace Go.Sy
open Go
section
variable {P:Program}{N:Nat}{E:World}{f:Fr}{g:PH}{s s1:Own}{dst:Option Tmp}{ty:TypeId}{pos:String}{af:Array Edge}{gd:Option (Nat×Bool)}{α:Type}{k:Nat}{e:Enc α k}
end
end Go.Sy
namespace Go.Proofs.YtmmghffoakhheaaGreatDoor
open _root_.Go.Proofs.Tryz _root_.Go.Proofs.YtmmghffoakhheaaGreatDoor.Tryz
open Go Go.Sy Go.Pl Go.Proofs
def adjT (A:List Cl)(k:Int):Option (List Int):=(findT A k).map fun c=>c.sides.map Side.cell
def costF (A:List Cl)(m:List Int):Nat:=((A.filter fun c=>!m.contains c.id).map fun c=>c.sides.length).sum
structure Wide (A:List Cl)(ids left m:List Int):Prop where
 sound:∀ x∈m,∃ id∈ids,Rch (adjT A) id x
 todo:∀ x∈left,adjT A x≠none→∃ id∈ids,Rch (adjT A) id x
 start:∀ x∈ids,adjT A x≠none→x∈left∨x∈m
 sides:∀ x∈m,∀ l,adjT A x=some l→∀ y∈l,adjT A y≠none→y∈left∨y∈m
 few:left.length+costF A m≤ids.length+costF A []
set_option maxRecDepth 100000
set_option maxHeartbeats 1000000
theorem Tryz.sty109:STy Tryz.prog 109 4 1 1 (vb false):=⟨underlying109,⟨t4,by kernel_rfl,by kernel_rfl,by kernel_rfl,by kernel_rfl⟩,rfl,by decide⟩
def encBool:Enc Bool 1:=⟨fun n=>[vb n],fun _=>rfl,fun _ u hu=>by simp at hu; subst hu; rfl,by decide⟩
def flags (A:List Cl)(m:List Int):List Bool:=A.map fun c=>m.contains c.id
theorem flags_nil (A:List Cl):flags A []=List.replicate A.length false:=by
 unfold flags;induction A with
 | nil=>rfl
 | cons d t ih=>simp[List.replicate_succ] at ih ⊢; exact ih
theorem flags_get {A:List Cl}{m:List Int}{k:Nat}{c:Cl}(h:A[k]?=some c):(flags A m)[k]?=some (m.contains c.id):=by simp[flags,h]
theorem flags_set {A:List Cl}{m:List Int}{k:Nat}{c:Cl}(hn:(A.map Cl.id).Nodup)(h:A[k]?=some c):(flags A m).set k true=flags A (m++[c.id]):=by
 obtain ⟨hk,hc⟩:=List.getElem?_eq_some_iff.1 h;apply List.ext_getElem?;intro q;rw[List.getElem?_set];unfold flags;simp only[List.getElem?_map,List.length_map];split
 ·rename_i e;subst e;simp[hk,hc]
 ·rename_i hne;cases hq:A[q]? with
  | none=>rfl
  | some d =>
   obtain ⟨hq1,hq2⟩:=List.getElem?_eq_some_iff.1 hq;have hd:¬ d.id=c.id:=fun e=>by
    have h1:(A.map Cl.id)[q]?=some c.id:=by simp[hq,e]
    have h2:(A.map Cl.id)[k]?=some c.id:=by simp[h]
    obtain ⟨i1,e1⟩:=List.getElem?_eq_some_iff.1 h1;obtain ⟨i2,e2⟩:=List.getElem?_eq_some_iff.1 h2
    rcases Nat.lt_or_gt_of_ne hne with h3 | h3
    ·exact List.pairwise_iff_getElem.1 hn k q i2 i1 h3 (e2.trans e1.symm)
    ·exact List.pairwise_iff_getElem.1 hn q k i1 i2 h3 (e1.trans e2.symm)
   simp[hd]
def sumsL (L:List (Int×List Side)):List (Int×Int):=L.foldl (fun zl p=>p.2.foldl (fun zl r=>addZ zl r.cell (p.1 * r.sign)) zl) []
def metL (L:List (Int×List Side)):List (Int×List Int):=L.zipIdx.foldl (fun ml p=>p.1.2.foldl (stepL p.2) ml) []
def aroundL (L:List (Int×List Side)):Int :=
 if (sumsL L).any (fun p=>decide (p.2≠0)) then 24
 else if (metL L).any (fun p=>decide ((p.2.length:Int)≠2)) then 25
 else if ((seenC (joinC (metL L))).length:Int)≠L.length then 25 else 0
def lookL (tl:List Cl)(c:Cl):List (Int×List Side):=c.sides.map fun x=>(x.sign,sidesOf tl x)
theorem aroundC_L (tl:List Cl)(c:Cl):aroundC tl c=aroundL (lookL tl c):=by
 have h1:sumsC tl c.sides=sumsL (lookL tl c):=by
  unfold sumsC sumsL lookL;rw[List.foldl_map];rfl
 have h2:metC tl c.sides=metL (lookL tl c):=by
  unfold metC metL lookL;rw[List.zipIdx_map,List.foldl_map];rfl
 have h3:(lookL tl c).length=c.sides.length:=by simp[lookL]
 unfold aroundC aroundL;rw[h1,h2,h3]
def renS (φ:Int→Int)(r:Side):Side:=⟨φ r.cell,r.sign⟩
def renL (φ:Int→Int)(L:List (Int×List Side)):List (Int×List Side):=L.map fun p=>(p.1,p.2.map (renS φ))
def keyL (L:List (Int×List Side)):List Int:=L.flatMap fun p=>p.2.map Side.cell
def ren1 {α:Type}(φ:Int→Int)(zl:List (Int×α)):List (Int×α):=zl.map fun p=>(φ p.1,p.2)
section
variable {φ:Int→Int}{K:Int→Prop}(hφ:∀ a b,K a→K b→φ a=φ b→a=b)
include hφ
theorem addZ_ren {zl:List (Int×Int)}{k:Int}(x:Int)(hz:∀ p∈zl,K p.1)(hk:K k):addZ (ren1 φ zl) (φ k) x=ren1 φ (addZ zl k x):=by
 induction zl with
 | nil=>rfl
 | cons p r ih =>
  obtain ⟨a,z⟩:=p;have ha:=hz (a,z) (by simp);simp only[ren1,List.map_cons,addZ] at ih ⊢;by_cases h:k=a
  ·subst h; simp
  ·rw[if_neg h,if_neg fun e=>h (hφ k a hk ha e)];simp only[List.map_cons];rw[ih fun p hp=>hz p (by simp[hp])]
theorem addL_ren {zl:List (Int×List Int)}{k:Int}(x:Int)(hz:∀ p∈zl,K p.1)(hk:K k):addL (ren1 φ zl) (φ k) x=ren1 φ (addL zl k x):=by
 induction zl with
 | nil=>rfl
 | cons p r ih =>
  obtain ⟨a,z⟩:=p;have ha:=hz (a,z) (by simp);simp only[ren1,List.map_cons,addL] at ih ⊢;by_cases h:k=a
  ·subst h; simp
  ·rw[if_neg h,if_neg fun e=>h (hφ k a hk ha e)];simp only[List.map_cons];rw[ih fun p hp=>hz p (by simp[hp])]
omit hφ in
theorem addZ_key {zl:List (Int×Int)}{k x:Int}(hz:∀ p∈zl,K p.1)(hk:K k):∀ p∈addZ zl k x,K p.1:=by
 induction zl with
 | nil=>intro p hp; simp[addZ] at hp; subst hp; exact hk
 | cons q r ih =>
  obtain ⟨a,z⟩:=q;have ha:=hz (a,z) (by simp);intro p hp;simp only[addZ] at hp;split at hp
  ·rcases List.mem_cons.1 hp with rfl | hp
   ·exact ha
   ·exact hz p (by simp[hp])
  ·rcases List.mem_cons.1 hp with rfl | hp
   ·exact ha
   ·exact ih (fun p hp=>hz p (by simp[hp])) p hp
omit hφ in
theorem addL_key {zl:List (Int×List Int)}{k x:Int}(hz:∀ p∈zl,K p.1)(hk:K k):∀ p∈addL zl k x,K p.1:=by
 induction zl with
 | nil=>intro p hp; simp[addL] at hp; subst hp; exact hk
 | cons q r ih =>
  obtain ⟨a,z⟩:=q;have ha:=hz (a,z) (by simp);intro p hp;simp only[addL] at hp;split at hp
  ·rcases List.mem_cons.1 hp with rfl | hp
   ·exact ha
   ·exact hz p (by simp[hp])
  ·rcases List.mem_cons.1 hp with rfl | hp
   ·exact ha
   ·exact ih (fun p hp=>hz p (by simp[hp])) p hp
theorem sums1_ren (t:Int):∀ (l:List Side) (zl:List (Int×Int)),(∀ r∈l,K r.cell)→(∀ p∈zl,K p.1) →
  (l.map (renS φ)).foldl (fun zl r=>addZ zl r.cell (t * r.sign)) (ren1 φ zl)=ren1 φ (l.foldl (fun zl r=>addZ zl r.cell (t * r.sign)) zl)∧∀ p∈l.foldl (fun zl r=>addZ zl r.cell (t * r.sign)) zl,K p.1
 | [],zl,_,hz=>⟨rfl,hz⟩
 | r::l,zl,hl,hz=>by
  have hr:=hl r (by simp);have:=sums1_ren t l (addZ zl r.cell (t * r.sign)) (fun q hq=>hl q (by simp[hq])) (addZ_key hz hr);simp only[List.map_cons,List.foldl_cons];rw[show (renS φ r).cell=φ r.cell from rfl,show (renS φ r).sign=r.sign from rfl,addZ_ren hφ _ hz hr];exact this
theorem met1_ren (t:Int):∀ (l:List Side) (zl:List (Int×List Int)),(∀ r∈l,K r.cell)→(∀ p∈zl,K p.1) →
  (l.map (renS φ)).foldl (stepL t) (ren1 φ zl)=ren1 φ (l.foldl (stepL t) zl)∧∀ p∈l.foldl (stepL t) zl,K p.1
 | [],zl,_,hz=>⟨rfl,hz⟩
 | r::l,zl,hl,hz=>by
  have hr:=hl r (by simp);have:=met1_ren t l (addL zl r.cell t) (fun q hq=>hl q (by simp[hq])) (addL_key hz hr);simp only[List.map_cons,List.foldl_cons];rw[show stepL t (ren1 φ zl) (renS φ r)=ren1 φ (addL zl r.cell t) from addL_ren hφ _ hz hr];exact this
theorem sums_ren:∀ (L:List (Int×List Side)) (zl:List (Int×Int)),(∀ k∈keyL L,K k)→(∀ p∈zl,K p.1) →
  (renL φ L).foldl (fun zl p=>p.2.foldl (fun zl r=>addZ zl r.cell (p.1 * r.sign)) zl) (ren1 φ zl)=ren1 φ (L.foldl (fun zl p=>p.2.foldl (fun zl r=>addZ zl r.cell (p.1 * r.sign)) zl) zl)
 | [],_,_,_=>rfl
 | p::L,zl,hl,hz=>by
  obtain ⟨h1,h2⟩:=sums1_ren hφ p.1 p.2 zl (fun r hr=>hl _ (List.mem_flatMap.2 ⟨p,by simp,List.mem_map.2 ⟨r,hr,rfl⟩⟩)) hz;simp only[renL,List.map_cons,List.foldl_cons] at h1 ⊢;rw[h1];exact sums_ren L _ (fun k hk=>hl k (by simp only[keyL,List.flatMap_cons,List.mem_append]; exact .inr hk)) h2
theorem met_ren:∀ (L:List (Int×List Side)) (i:Nat) (zl:List (Int×List Int)),(∀ k∈keyL L,K k)→(∀ p∈zl,K p.1) →
  ((renL φ L).zipIdx i).foldl (fun ml p=>p.1.2.foldl (stepL p.2) ml) (ren1 φ zl)=ren1 φ ((L.zipIdx i).foldl (fun ml p=>p.1.2.foldl (stepL p.2) ml) zl)
 | [],_,_,_,_=>rfl
 | p::L,i,zl,hl,hz=>by
  obtain ⟨h1,h2⟩:=met1_ren hφ i p.2 zl (fun r hr=>hl _ (List.mem_flatMap.2 ⟨p,by simp,List.mem_map.2 ⟨r,hr,rfl⟩⟩)) hz;simp only[renL,List.map_cons,List.zipIdx_cons,List.foldl_cons] at h1 ⊢;rw[h1];exact met_ren L (i+1) _ (fun k hk=>hl k (by simp only[keyL,List.flatMap_cons,List.mem_append]; exact .inr hk)) h2
end
theorem any_ren {α:Type}(φ:Int→Int)(zl:List (Int×α))(q:α→Bool):(ren1 φ zl).any (fun p=>q p.2)=zl.any (fun p=>q p.2):=by
 simp only[ren1,List.any_map];rfl
theorem join_ren (φ:Int→Int)(ml:List (Int×List Int)):joinC (ren1 φ ml)=joinC ml:=by
 simp only[joinC,ren1,List.foldl_map];rfl
theorem aroundL_ren {φ:Int→Int}{L:List (Int×List Side)}(hφ:∀ a∈keyL L,∀ b∈keyL L,φ a=φ b→a=b):aroundL (renL φ L)=aroundL L:=by
 have h1:sumsL (renL φ L)=ren1 φ (sumsL L):=sums_ren (K:=fun k=>k∈keyL L) (fun a b ha hb=>hφ a ha b hb) L [] (fun _ h=>h) (by simp);have h2:metL (renL φ L)=ren1 φ (metL L):=met_ren (K:=fun k=>k∈keyL L) (fun a b ha hb=>hφ a ha b hb) L 0 [] (fun _ h=>h) (by simp);unfold aroundL;rw[h1,h2,any_ren φ _ fun z=>decide (z≠0),any_ren φ _ fun l:List Int=>decide ((l.length:Int)≠2),join_ren];have h3:(renL φ L).length=L.length:=by simp[renL]
 rw[h3]
def code (k q:Nat):Int:=if q<k then ((q * 16+k:Nat):Int) else ((k * 16+(q+1):Nat):Int)
def patS (n:Nat):List (Int×List Side):=(List.range n).reverse.map fun k:Nat=>(signC k,(List.range (n - 1)).reverse.map fun q:Nat=>⟨code k q,signC q⟩)
theorem patS_ok:∀ n,n<10→2<n→aroundL (patS n)=0:=by decide +kernel
theorem pickB_cons (b:Nat)(a:Int)(l:List Int):pickB b (a::l)=(if b % 2=1 then [a] else [])++pickB (b / 2) l:=by
 unfold pickB;have hz:∀ (l:List Int) (i:Nat),((l.zipIdx (i+1)).filter fun p=>b / 2 ^ p.2 % 2 == 1).map (·.1)=((l.zipIdx i).filter fun p=>b / 2 / 2 ^ p.2 % 2 == 1).map (·.1):=by
  intro l;induction l with
  | nil=>intro i; rfl
  | cons x r ih =>
   intro i;have hp:b / 2 ^ (i+1)=b / 2 / 2 ^ i:=by rw[Nat.pow_succ,Nat.mul_comm,Nat.div_div_eq_div_mul]
   simp only[List.zipIdx_cons,List.filter_cons,hp];have:=ih (i+1);split
   ·simp only[List.map_cons,this]
   ·exact this
 simp only[List.zipIdx_cons,List.filter_cons,Nat.pow_zero,Nat.div_one];by_cases h:b % 2=1
 ·simp only[h,if_true,beq_self_eq_true,List.map_cons];rw[hz l 0];rfl
 ·have h2:(b % 2 == 1)=false:=by simpa using h
  simp only[h,h2,if_false,Bool.false_eq_true];rw[hz l 0];rfl
theorem pickB_sub (l:List Int):∀ b,(pickB b l).Sublist l:=by
 induction l with
 | nil=>intro b; exact .slnil
 | cons a r ih =>
  intro b;rw[pickB_cons];split
  ·exact (ih _).cons_cons a
  ·exact (ih _).cons a
theorem pickB_ne (l:List Int):∀ b,b≠0→b<2 ^ l.length→pickB b l≠[]:=by
 induction l with
 | nil=>intro b h0 h; simp at h; exact absurd h h0
 | cons a r ih =>
  intro b h0 h;rw[pickB_cons];split
  ·simp
  ·rename_i h1;rw[List.length_cons,Nat.pow_succ] at h;simpa using ih (b / 2) oM oM
theorem pick_of_sub {x l:List Int}(h:x.Sublist l):∃ b,b<2 ^ l.length∧pickB b l=x:=by
 induction h with
 | slnil=>exact⟨0,by simp,rfl⟩
 | cons a _ ih =>
  obtain ⟨b,hb,e⟩:=ih;refine⟨2 * b,by rw[List.length_cons,Nat.pow_succ]; omega,?_⟩;rw[pickB_cons,if_neg oM,show 2 * b / 2=b by omega,e];rfl
 | cons_cons a _ ih =>
  obtain ⟨b,hb,e⟩:=ih;refine⟨2 * b+1,by rw[List.length_cons,Nat.pow_succ]; omega,?_⟩;rw[pickB_cons,if_pos oM,show (2 * b+1) / 2=b by omega,e];rfl
theorem subsetsC_iff (t x:List Int):x∈subsetsC t↔x.Sublist t∧x≠[]:=by
 unfold subsetsC;constructor
 ·intro h;obtain ⟨i,hi,rfl⟩:=List.mem_map.1 h;have:=List.mem_range.1 hi;exact⟨pickB_sub _ _,pickB_ne _ _ oM oM⟩
 ·rintro ⟨h,hne⟩;obtain ⟨b,hb,rfl⟩:=pick_of_sub h;have h0:b≠0:=fun e=>by
   subst e;apply hne;have:∀ l:List Int,pickB 0 l=[]:=by
    intro l;induction l with
    | nil=>rfl
    | cons a r ih=>rw[pickB_cons]; simpa using ih
   exact this t
  exact List.mem_map.2 ⟨b - 1,List.mem_range.2 oM,by rw[show b - 1+1=b by omega]⟩
structure Good (all:List (List Int)):Prop where
 strict:StrictL all
 form:∀ s∈all,s≠[]∧StrictI s∧s.length≤9
 faces:∀ s∈all,2≤s.length→∀ k,k<s.length→s.eraseIdx k∈all
theorem Good.nil:Good []:=⟨List.Pairwise.nil,by simp,by simp⟩
theorem Good.add {all:List (List Int)}{t:List Int}(h:Good all)(ht:StrictI t)(hl:t.length≤9):Good (addSets all t):=by
 refine⟨addSets_strict all t,fun s hs=>?_,fun s hs h2 k hk=>?_⟩
 ·rcases (addSets_iff all t s).1 hs with h1 | h1
  ·exact h.form s h1
  ·obtain ⟨h2,h3⟩:=(subsetsC_iff t s).1 h1;exact⟨h3,ht.sublist h2,Nat.le_trans h2.length_le hl⟩
 ·refine (addSets_iff all t _).2 ?_
  rcases (addSets_iff all t s).1 hs with h1 | h1
  ·exact .inl (h.faces s h1 h2 k hk)
  ·refine .inr ((subsetsC_iff t _).2 ⟨(List.eraseIdx_sublist s k).trans ((subsetsC_iff t s).1 h1).1,fun e=>?_⟩);have:=congrArg List.length e;rw[List.length_eraseIdx] at this;simp[hk] at this;omega
theorem simpAll_good:∀ (ls acc:List (List Int)) {all:List (List Int)},simpAll acc ls=some all→Good acc→acc.length≤4000→Good all∧all.length≤4000
 | [],acc,all,h,hg,hl=>by cases h; exact⟨hg,hl⟩
 | s::r,acc,all,h,hg,hl=>by
  unfold simpAll at h;split at h
  ·exact simpAll_good r acc h hg hl
  ·rename_i hb;split at h
   ·cases h
   ·rename_i hlen;refine simpAll_good r _ h (hg.add (setC_strict s) ?_) oM;cases hc:setC s with
    | nil=>simp
    | cons a q =>
     rw[hc] at hb;simp[badSet] at hb;simp;omega
section
variable {all:List (List Int)}(hg:Good all)
include hg
theorem Good.get_lb {t:List Int}(ht:t∈all):all[lbL all t]?=some t:=by
 obtain ⟨h1,h2⟩:=lbL_split t hg.strict.srt;have hs:StrictL (all.take (lbL all t)++all.drop (lbL all t)):=by rw[List.take_append_drop]; exact hg.strict
 have hd:=(List.pairwise_append.1 hs).2.1;have hm:t∈all.drop (lbL all t):=by
  have:t∈all.take (lbL all t)++all.drop (lbL all t):=by rw[List.take_append_drop]; exact ht
  rcases List.mem_append.1 this with h | h
  ·have:=h1 t h;rw[compareC_self] at this;exact absurd this dC
  ·exact h
 have e:all[lbL all t]?=(all.drop (lbL all t))[0]?:=by simp
 rw[e];cases hc:all.drop (lbL all t) with
 | nil=>rw[hc] at hm; simp at hm
 | cons y r =>
  rw[hc] at hm hd h2
  rcases List.mem_cons.1 hm with rfl | hm
  ·rfl
  ·exact absurd ((List.pairwise_cons.1 hd).1 t hm) (h2 y (by simp))
theorem Good.lb_get {k:Nat}(hk:k<all.length):lbL all all[k]=k:=by
 have h1:=hg.get_lb (gM hk);obtain ⟨h2,h3⟩:=List.getElem?_eq_some_iff.1 h1;have hself:¬ compareC all[k] all[k]<0:=by rw[compareC_self]; decide
 rcases Nat.lt_trichotomy (lbL all all[k]) k with h | h | h
 ·have:=List.pairwise_iff_getElem.1 hg.strict _ _ h2 hk h;rw[h3] at this;exact absurd this hself
 ·exact h
 ·have:=List.pairwise_iff_getElem.1 hg.strict _ _ hk h2 h;rw[h3] at this;exact absurd this hself
end
def ixC (all:List (List Int))(t:List Int):Int:=((lbL all t:Nat):Int)+1
theorem Good.inj {all:List (List Int)}(hg:Good all){t u:List Int}(ht:t∈all)(hu:u∈all)(h:ixC all t=ixC all u):t=u:=by
 have h1:=hg.get_lb ht;have h2:=hg.get_lb hu;have:lbL all t=lbL all u:=by unfold ixC at h; omega
 rw[this,h2] at h1;injection h1 with h1
 exact h1.symm
theorem Good.lt {all:List (List Int)}(hg:Good all){t u:List Int}(ht:t∈all)(hu:u∈all)(h:compareC t u<0):ixC all t<ixC all u:=by
 obtain ⟨i1,e1⟩:=List.getElem?_eq_some_iff.1 (hg.get_lb ht);obtain ⟨i2,e2⟩:=List.getElem?_eq_some_iff.1 (hg.get_lb hu);unfold ixC
 rcases Nat.lt_trichotomy (lbL all t) (lbL all u) with h1 | h1 | h1
 ·omega
 ·have:t=u:=hg.inj ht hu (by unfold ixC; omega);subst this;rw[compareC_self] at h;exact absurd h dC
 ·have:=List.pairwise_iff_getElem.1 hg.strict _ _ i2 i1 h1;rw[e1,e2] at this;exact absurd h (compareC_asymm this)
def facesC (all:List (List Int))(s:List Int):List Side:=if s.length≤1 then [] else (List.range s.length).reverse.map fun k:Nat=>⟨ixC all (s.eraseIdx k),signC k⟩
def celC (all:List (List Int))(s:List Int):Cl:=⟨ixC all s,(s.length:Int) - 1,facesC all s⟩
theorem erase_lt {s:List Int}(hs:StrictI s):∀ {i j:Nat},i<j→j<s.length→compareC (s.eraseIdx j) (s.eraseIdx i)<0:=by
 induction s with
 | nil=>intro i j _ h; simp at h
 | cons a r ih =>
  intro i j hij hj;obtain ⟨h1,h2⟩:=List.pairwise_cons.1 hs;cases j with
  | zero=>omega
  | succ j =>
   simp only[List.length_cons] at hj;cases i with
   | zero =>
    cases r with
    | nil=>simp at hj
    | cons b q =>
     have hab:=h1 b (by simp);have hl:((a::b::q).eraseIdx (j+1)).length=((a::b::q).eraseIdx 0).length:=by
      simp[List.length_eraseIdx] at hj ⊢;omega
     rw[compareC_same hl];simp only[List.eraseIdx_cons_succ,List.eraseIdx_cons_zero,cmpL];have:cmpI a b = -1:=by unfold cmpI; rw[if_pos hab]
     simp[this]
   | succ i =>
    have h3:=ih h2 (i:=i) (j:=j) oM oM;have hl:(r.eraseIdx j).length=(r.eraseIdx i).length:=by
     rw[List.length_eraseIdx,List.length_eraseIdx,if_pos oM,if_pos oM]
    have hl2:((a::r).eraseIdx (j+1)).length=((a::r).eraseIdx (i+1)).length:=by simp[hl]
    rw[compareC_same hl] at h3;rw[compareC_same hl2];simp only[List.eraseIdx_cons_succ,cmpL];have:cmpI a a=0:=by unfold cmpI; rw[if_neg oM,if_neg oM]
    simpa [this] using h3
theorem find_mem {A:List Cl}(h:(A.map Cl.id).Nodup){x:Cl}(hx:x∈A):findT A x.id=some x:=by
 induction A with
 | nil=>simp at hx
 | cons c t ih =>
  simp only[List.map_cons,List.nodup_cons] at h;unfold findT
  rcases List.mem_cons.1 hx with rfl | hx
  ·simp
  ·have hne:¬ c.id=x.id:=fun e=>h.1 (by rw[e]; exact List.mem_map.2 ⟨x,hx,rfl⟩);rw[List.find?_cons];simp only[hne,decide_false];exact ih h.2 hx
theorem normC_idem (c:Cl):normC (normC c)=normC c:=by
 unfold normC;rw[← eq_sortBy (sortBy_srt c.sides) (Stab.refl _)]
theorem canonC_idem (l:List Cl):canonC (canonC l)=canonC l:=by
 have h1:sortBy Cl.id (canonC l)=canonC l:=(eq_sortBy (canonC_srt l) (Stab.refl _)).symm;show (sortBy Cl.id (canonC l)).map normC=canonC l;rw[h1];unfold canonC;rw[List.map_map];exact List.map_congr_left fun c _=>normC_idem c
theorem sort_rev {α:Type}{key:α→Int}{l:List α}(h:l.Pairwise fun a b=>key b<key a):sortBy key l=l.reverse:=by
 refine (eq_sortBy ?_ ⟨by simp,fun c=>?_⟩).symm
 ·unfold Srt;rw[List.pairwise_reverse];exact h.imp fun h=>by omega
 ·rw[List.filter_reverse];have:∀ m:List α,m.Pairwise (fun a b=>key b<key a)→(∀ a∈m,(key a == c)=true)→m.reverse=m:=by
   intro m hm hc
   match m,hm,hc with
   | [],_,_=>rfl
   | [_],_,_=>rfl
   | a::b::r,hm,hc =>
    have h1:=(List.pairwise_cons.1 hm).1 b (by simp);have h2:=hc a (by simp);have h3:=hc b (by simp);simp at h2 h3;omega
  exact this _ (h.sublist List.filter_sublist) fun a ha=>(List.mem_filter.1 ha).2
section
variable {all:List (List Int)}(hg:Good all)
include hg
theorem Good.face {s:List Int}(hs:s∈all){k:Nat}(hk:k<s.length)(h2:2≤s.length):s.eraseIdx k∈all∧(s.eraseIdx k).length=s.length - 1 :=
 ⟨hg.faces s hs h2 k hk,by rw[List.length_eraseIdx,if_pos hk]⟩
theorem Good.sides {s:List Int}(hs:s∈all):sortBy Side.cell (simpSides all s s.length)=facesC all s:=by
 have hne:=(hg.form s hs).1;have hst:=(hg.form s hs).2.1;by_cases h1:s.length≤1
 ·have h0:s.length=1:=by have:=List.length_pos_iff.2 hne; omega
  unfold facesC;rw[if_pos h1,h0];have:sideAt all s 0=[]:=by
   unfold sideAt;have h3:(s.eraseIdx 0).length=0:=by rw[List.length_eraseIdx,if_pos oM]; omega
   rw[if_neg oM]
  simp[simpSides,List.range_succ,this,sortBy]
 ·have h2:2≤s.length:=oM;have e:simpSides all s s.length=(List.range s.length).map fun k:Nat=>(⟨ixC all (s.eraseIdx k),signC k⟩:Side):=by
   unfold simpSides;rw[List.flatMap_def];have:(List.range s.length).map (sideAt all s)=(List.range s.length).map fun k:Nat=>[(⟨ixC all (s.eraseIdx k),signC k⟩:Side)]:=List.map_congr_left fun k hk=>by
    have hk:=List.mem_range.1 hk;unfold sideAt;rw[(hg.face hs hk h2).2,if_pos oM];rfl
   rw[this];generalize List.range s.length=R;induction R with
   | nil=>rfl
   | cons x r ih=>simp only[List.map_cons,List.flatten_cons,ih]; rfl
  unfold facesC;rw[if_neg h1,e,List.map_reverse];refine sort_rev ?_;rw[List.pairwise_map];refine List.Pairwise.imp_of_mem ?_ (List.pairwise_lt_range (n:=s.length));intro i j hi hj hij;have hi:=List.mem_range.1 hi;have hj:=List.mem_range.1 hj;exact hg.lt (hg.face hs hj h2).1 (hg.face hs hi h2).1 (erase_lt hst hij hj)
theorem Good.cells:canonC (simpCells all)=all.map (celC all):=by
 rw[canon_simp];apply List.ext_getElem?;intro k;simp only[List.getElem?_map];by_cases hk:k<all.length
 ·rw[simpCells_get hk,gE hk];simp only[Option.map_some,Option.some.injEq];unfold normC simpCell celC;simp only[hg.sides (gM hk),ixC,hg.lb_get hk]
 ·rw[List.getElem?_eq_none (by rw[simpCells_length]; omega),List.getElem?_eq_none oM];rfl
theorem Good.ids:((all.map (celC all)).map Cl.id).Pairwise (· < ·):=by
 rw[List.map_map,List.pairwise_map];refine List.Pairwise.imp_of_mem ?_ hg.strict;intro a b ha hb h;exact hg.lt ha hb h
theorem Good.find {s:List Int}(hs:s∈all):findT (all.map (celC all)) (ixC all s)=some (celC all s) :=
 find_mem (x:=celC all s) (hg.ids.imp fun h=>by omega) (List.mem_map.2 ⟨s,hs,rfl⟩)
end
theorem signC_one (k:Nat):signC k=1∨signC k = -1:=by unfold signC; omega
theorem facesC_get {all:List (List Int)}{s:List Int}(h:2≤s.length){i:Nat}(hi:i<s.length):(facesC all s)[i]?=some ⟨ixC all (s.eraseIdx (s.length - 1 - i)),signC ((s.length - 1 - i:Nat):Int)⟩:=by
 unfold facesC;rw[if_neg oM,List.getElem?_map,List.getElem?_reverse (by simpa using hi)];simp only[List.length_range];rw[List.getElem?_range oM];rfl
theorem facesC_length {all:List (List Int)}{s:List Int}:(facesC all s).length=if s.length≤1 then 0 else s.length:=by
 unfold facesC;split <;> simp
section
variable {all:List (List Int)}(hg:Good all)
include hg
theorem Good.formOk {s:List Int}(hs:s∈all):formC (all.map (celC all)) (celC all s)=0:=by
 obtain ⟨hne,hst,h9⟩:=hg.form s hs;have hp:=List.length_pos_iff.2 hne;have hlen:(celC all s).sides.length=if s.length≤1 then 0 else s.length:=facesC_length
 have hdim:(celC all s).dim=(s.length:Int) - 1:=rfl;have h1:dimBad (celC all s)=false:=by unfold dimBad; rw[hdim]; simp; omega
 have h2:cntBad (celC all s)=false:=by
  unfold cntBad;rw[hdim,hlen];split
  ·simp; omega
  ·simp; omega
 have h3:(List.range (celC all s).sides.length).any (badAt (all.map (celC all)) (celC all s))=false:=by
  rw[List.any_eq_false];intro i hi;have hi:=List.mem_range.1 hi;rw[hlen] at hi;split at hi
  ·omega
  ·rename_i hl;have h2:2≤s.length:=oM;have hgi:=facesC_get (all:=all) h2 hi;have hf:=hg.face hs (k:=s.length - 1 - i) oM h2;unfold badAt;rw[show (celC all s).sides[i]?=_ from hgi];show ¬ badSide _ _ i ⟨ixC all (s.eraseIdx (s.length - 1 - i)),_⟩=true;unfold badSide;dsimp only;rw[hg.find hf.1];have hd:(celC all (s.eraseIdx (s.length - 1 - i))).dim=(celC all s).dim - 1:=by
    show ((s.eraseIdx (s.length - 1 - i)).length:Int) - 1=(s.length:Int) - 1 - 1;rw[hf.2];omega
   simp only[Option.isSome_some,Bool.not_true,Bool.false_or,Option.getD_some,hd,ne_eq,not_true_eq_false,decide_false];by_cases hi0:i>0
   ·have hgp:=facesC_get (all:=all) h2 (i:=i - 1) oM;rw[show (celC all s).sides[i - 1]?=_ from hgp];have hf2:=hg.face hs (k:=s.length - 1 - (i - 1)) oM h2;have:=hg.lt hf2.1 hf.1 (erase_lt hst oM oM);simp;omega
   ·simp[hi0]
 have h4:(celC all s).sides.any signBad=false:=by
  rw[List.any_eq_false];intro x hx;show ¬ signBad x=true;have hx:x∈facesC all s:=hx;unfold facesC at hx;split at hx
  ·simp at hx
  ·obtain ⟨k,_,rfl⟩:=List.mem_map.1 hx
   rcases signC_one k with h | h <;> simp[signBad,h]
 have h5:(decide ((celC all s).dim=1)&&decide (sumS (celC all s).sides≠0))=false:=by
  by_cases hd:(celC all s).dim=1
  ·rw[hdim] at hd;have hl2:s.length=2:=oM;have:sumS (celC all s).sides=0:=by
    show sumS (facesC all s)=0;unfold facesC;rw[if_neg oM,hl2];simp[List.range_succ,sumS,signC]
   rw[this];simp
  ·simp[hd]
 unfold formC;rw[h1,h2,h3,h4,h5];rfl
end
theorem erase_comm (s:List Int):∀ {k q:Nat},k≤q→(s.eraseIdx k).eraseIdx q=(s.eraseIdx (q+1)).eraseIdx k:=by
 induction s with
 | nil=>intro k q _; rfl
 | cons a r ih =>
  intro k q h;cases k with
  | zero=>simp
  | succ k =>
   cases q with
   | zero=>omega
   | succ q =>
    simp only[List.eraseIdx_cons_succ];rw[ih oM]
theorem mem_erase2 {s:List Int}(hs:s.Nodup){a b i:Nat}(hab:a<b)(hb:b<s.length)(hi:i<s.length):s[i]∈(s.eraseIdx b).eraseIdx a↔i≠a∧i≠b:=by
 have hinj:∀ {j k:Nat} (hj:j<s.length) (hk:k<s.length),s[j]=s[k]→j=k:=fun {j k} hj hk e=>by
  rcases Nat.lt_trichotomy j k with h | h | h
  ·exact absurd e (List.pairwise_iff_getElem.1 hs j k hj hk h)
  ·exact h
  ·exact absurd e.symm (List.pairwise_iff_getElem.1 hs k j hk hj h)
 rw[List.mem_eraseIdx_iff_getElem];constructor
 ·rintro ⟨j,hj1,hj2,e⟩;have hj1':=hj1;rw[List.length_eraseIdx,if_pos hb] at hj1';rw[List.getElem_eraseIdx] at e;split at e
  ·have:=hinj _ _ e;omega
  ·have:=hinj _ _ e;omega
 ·rintro ⟨h1,h2⟩
  rcases Nat.lt_or_ge i b with h | h
  ·refine⟨i,by rw[List.length_eraseIdx,if_pos hb]; omega,h1,?_⟩;rw[List.getElem_eraseIdx,dif_pos h]
  ·refine⟨i - 1,by rw[List.length_eraseIdx,if_pos hb]; omega,oM,?_⟩;rw[List.getElem_eraseIdx,dif_neg oM];congr 1;omega
theorem erase2_inj {s:List Int}(hs:s.Nodup){a b c d:Nat}(hab:a<b)(hb:b<s.length)(hcd:c<d)(hd:d<s.length)(h:(s.eraseIdx b).eraseIdx a=(s.eraseIdx d).eraseIdx c):a=c∧b=d:=by
 have key:∀ i,i<s.length→((i≠a∧i≠b)↔(i≠c∧i≠d)):=fun i hi=>by
  rw[← mem_erase2 hs hab hb hi,← mem_erase2 hs hcd hd hi,h]
 have ha:=key a oM;have hb':=key b hb;have hc:=key c oM;have hd':=key d hd;omega
def phiC (all:List (List Int))(s:List Int)(c:Int):Int:=ixC all ((s.eraseIdx (c % 16).toNat).eraseIdx (c / 16).toNat)
theorem code_ab {n k q:Nat}(hk:k<n)(hq:q<n - 1):∃ a b:Nat,a<b∧b<n∧code k q=((a * 16+b:Nat):Int)∧((q<k∧a=q∧b=k)∨(k≤q∧a=k∧b=q+1)):=by
 unfold code;by_cases h:q<k
 ·rw[if_pos h]; exact⟨q,k,h,hk,rfl,.inl ⟨h,rfl,rfl⟩⟩
 ·rw[if_neg h]; exact⟨k,q+1,oM,oM,rfl,.inr ⟨oM,rfl,rfl⟩⟩
theorem code_div {a b:Nat}(h:b<16):((((a * 16+b:Nat):Int) % 16).toNat=b)∧((((a * 16+b:Nat):Int) / 16).toNat=a):=oM
section
variable {all:List (List Int)}(hg:Good all)
include hg
theorem Good.aroundOk {s:List Int}(hs:s∈all)(h3:2<s.length):aroundC (all.map (celC all)) (celC all s)=0:=by
 obtain ⟨hne,hst,h9⟩:=hg.form s hs;have hnd:s.Nodup:=hst.imp fun h=>by omega
 have hE:∀ a b,a<b→b<s.length→(s.eraseIdx b).eraseIdx a∈all:=fun a b hab hb=>by
  have h1:=hg.face hs (k:=b) hb oM;exact (hg.face h1.1 (k:=a) (by rw[h1.2]; omega) (by rw[h1.2]; omega)).1
 have hlook:lookL (all.map (celC all)) (celC all s)=renL (phiC all s) (patS s.length):=by
  unfold lookL renL patS;show (facesC all s).map _=_;unfold facesC;rw[if_neg oM,List.map_map,List.map_map];refine List.map_congr_left fun k hk=>?_;have hk:k<s.length:=by simpa using hk
  have hf:=hg.face hs hk oM;simp only[Function.comp_def];congr 1;unfold sidesOf;rw[hg.find hf.1];show facesC all (s.eraseIdx k)=_;unfold facesC;rw[hf.2,if_neg oM,List.map_map];refine List.map_congr_left fun q hq=>?_;have hq:q<s.length - 1:=by simpa using hq
  obtain ⟨a,b,hab,hb,hc,hcase⟩:=code_ab hk hq;simp only[Function.comp_def,renS];congr 1;unfold phiC;rw[hc,(code_div (a:=a) (b:=b) oM).1,(code_div (a:=a) (b:=b) oM).2]
  rcases hcase with ⟨_,rfl,rfl⟩ | ⟨h,rfl,rfl⟩
  ·rfl
  ·rw[erase_comm s h]
 rw[aroundC_L,hlook,aroundL_ren,patS_ok _ oM h3];have hkey:∀ x∈keyL (patS s.length),∃ a b:Nat,a<b∧b<s.length∧x=((a * 16+b:Nat):Int):=by
  intro x hx;obtain ⟨p,hp,hx⟩:=List.mem_flatMap.1 hx;obtain ⟨k,hk,rfl⟩:=List.mem_map.1 hp;obtain ⟨r,hr,rfl⟩:=List.mem_map.1 hx;obtain ⟨q,hq,rfl⟩:=List.mem_map.1 hr;obtain ⟨a,b,hab,hb,hc,_⟩:=code_ab (n:=s.length) (k:=k) (q:=q) (by simpa using hk) (by simpa using hq);exact⟨a,b,hab,hb,hc⟩
 intro x hx y hy h;obtain ⟨a,b,hab,hb,rfl⟩:=hkey x hx;obtain ⟨c,d,hcd,hd,rfl⟩:=hkey y hy;unfold phiC at h;rw[(code_div (a:=a) (b:=b) oM).1,(code_div (a:=a) (b:=b) oM).2,(code_div (a:=c) (b:=d) oM).1,(code_div (a:=c) (b:=d) oM).2] at h;obtain ⟨rfl,rfl⟩:=erase2_inj hnd hab hb hcd hd (hg.inj (hE a b hab hb) (hE c d hcd hd) h);rfl
end
theorem chk1_fine {tl:List Cl}:∀ {l:List Cl} {n:Int},(∀ x∈l,n<x.id)→l.Pairwise (fun a b=>a.id<b.id)→(∀ x∈l,formC tl x=0)→chk1 tl l n=none
 | [],_,_,_,_=>rfl
 | x::r,n,h1,h2,h3=>by
  have hx:=h1 x (by simp);obtain ⟨h4,h5⟩:=List.pairwise_cons.1 h2;unfold chk1;rw[if_neg oM,if_neg (by rw[h3 x (by simp)]; simp)];exact chk1_fine h4 h5 fun y hy=>h3 y (by simp[hy])
theorem chk2_fine {tl:List Cl}:∀ {l:List Cl},(∀ x∈l,x.dim>1→aroundC tl x=0)→chk2 tl l=none
 | [],_=>rfl
 | x::r,h=>by
  unfold chk2;rw[if_neg fun ⟨h1,h2⟩=>h2 (h x (by simp) h1)];exact chk2_fine fun y hy=>h y (by simp[hy])
theorem check_ok {l:List Cl}(h0:l.length≤4000)(h1:∀ x∈canonC l,0<x.id)(h2:(canonC l).Pairwise fun a b=>a.id<b.id)(h3:∀ x∈canonC l,formC (canonC l) x=0)(h4:∀ x∈canonC l,x.dim>1→aroundC (canonC l) x=0):checkC l=(0,0):=by
 unfold checkC;rw[if_neg oM,tabC_strict h2,chk1_fine h1 h2 h3,chk2_fine h4];rfl
theorem simpC_right (ls:List (List Int)):checkC (simpC ls)=(0,0):=by
 unfold simpC;cases h:simpAll [] ls with
 | none=>rfl
 | some all =>
  obtain ⟨hg,hl⟩:=simpAll_good ls [] h Good.nil (by simp);dsimp only;have hc:canonC (canonC (simpCells all))=all.map (celC all):=by rw[canonC_idem,hg.cells]
  have hi:=hg.ids;rw[List.pairwise_map] at hi;refine check_ok (by rw[hg.cells]; simpa using hl) ?_ ?_ ?_ ?_ <;> rw[hc]
  ·intro x hx;obtain ⟨s,_,rfl⟩:=List.mem_map.1 hx;show 0<ixC all s;unfold ixC;omega
  ·exact hi
  ·intro x hx;obtain ⟨s,hs,rfl⟩:=List.mem_map.1 hx;exact hg.formOk hs
  ·intro x hx hd;obtain ⟨s,hs,rfl⟩:=List.mem_map.1 hx;refine hg.aroundOk hs ?_;have:(s.length:Int) - 1>1:=hd;omega
open Go.ChangeShapes Go.WideShapes Go.ChangeAt Go.RowKit
set_option maxRecDepth 100000
section
variable {H:Type}{enc:TypeId×Value→H}{W:World}{base:Nat}{spare:Nat→Bool}{hd:Bool}
end
inductive Cn (E:Int→Int→Prop):Int→Int→Prop
 | refl (a:Int):Cn E a a
 | step {a b c:Int} (h:E a b∨E b a) (r:Cn E b c):Cn E a c
theorem Cn.trans {E:Int→Int→Prop}{a b c:Int}(h:Cn E a b)(k:Cn E b c):Cn E a c:=by
 induction h with
 | refl _=>exact k
 | step h _ ih=>exact .step h (ih k)
theorem Cn.one {E:Int→Int→Prop}{a b:Int}(h:E a b):Cn E a b:=.step (.inl h) (.refl b)
theorem Cn.symm {E:Int→Int→Prop}{a b:Int}(h:Cn E a b):Cn E b a:=by
 induction h with
 | refl _=>exact .refl _
 | step h _ ih=>exact ih.trans (.step h.symm (.refl _))
theorem Cn.mono {E E':Int→Int→Prop}(h:∀ a b,E a b→Cn E' a b){a b:Int}(hc:Cn E a b):Cn E' a b:=by
 induction hc with
 | refl _=>exact .refl _
 | step e _ ih =>
  rcases e with e | e
  ·exact (h _ _ e).trans ih
  ·exact (h _ _ e).symm.trans ih
def linked (ml:List (Int×List Int))(a b:Int):Prop:=∃ p∈ml,p.2.head?=some a∧b∈p.2
def RZ (e:En)(z:Int×Int):Prop:=e.id=z.1∧e.sum=z.2
def RM (e:En)(p:Int×List Int):Prop:=e.id=p.1∧e.many=p.2.length∧p.2.head?=some (e.fst:Int)
structure Sd (n t k:Nat)(es:List En)(part:List Int)(zl:List (Int×Int))(ml:List (Int×List Int)):Prop where
 z:All2 RZ es zl
 m:All2 RM es ml
 bz:∀ e∈es,-(t:Int)≤e.sum∧e.sum≤t∧0≤e.many∧e.many≤t
 bf:∀ e∈es,e.fst<k
 bm:∀ p∈ml,∀ x∈p.2,0≤x∧x<k
 len:part.length=n
 bp:∀ a,a<k→0≤part.getD a 0∧part.getD a 0<k
 cn:∀ a b:Nat,a<k→b<k→(part.getD a 0=part.getD b 0↔Cn (linked ml) a b)
theorem linked_in {ml:List (Int×List Int)}{k:Nat}(h:∀ p∈ml,∀ x∈p.2,0≤x∧x<(k:Int)){a b:Int}(hl:linked ml a b):(0≤a∧a<k)∧(0≤b∧b<k):=by
 obtain ⟨p,hp,h1,h2⟩:=hl;exact⟨h p hp a (List.mem_of_head? h1),h p hp b h2⟩
theorem rch_cn {ml:List (Int×List Int)}(h2:∀ p∈ml,p.2.length=2)(a b:Int):Rch (adjJ (joinC ml)) a b↔Cn (linked ml) a b:=by
 have hstep:∀ x y,y∈getL (joinC ml) x→Cn (linked ml) x y:=fun x y hy=>by
  obtain ⟨p,hp,h⟩:=(mem_join ml x y).1 hy
  rcases h with h | h
  ·exact .one ⟨p,hp,by rw[h]; rfl,by rw[h]; simp⟩
  ·exact (Cn.one (E:=linked ml) ⟨p,hp,by rw[h]; rfl,by rw[h]; simp⟩).symm
 have hadj:∀ x,adjJ (joinC ml) x≠none:=fun x=>by simp[adjJ]
 constructor
 ·intro h;induction h with
  | refl _ _=>exact .refl _
  | step x y _ l hl hy _ ih =>
   simp only[adjJ,Option.some.injEq] at hl;subst hl;exact (hstep x y hy).trans ih
 ·intro h;induction h with
  | refl a=>exact .refl a (hadj a)
  | @step x y z e _ ih =>
   have key:∀ u v,linked ml u v→v=u∨v∈getL (joinC ml) u:=fun u v ⟨p,hp,h3,h4⟩=>by
    have:=h2 p hp
    match hq:p.2,this with
    | [c,d],_ =>
     rw[hq] at h3 h4;simp at h3 h4;subst h3
     rcases h4 with h4 | h4
     ·exact .inl h4
     ·exact .inr ((mem_join ml c v).2 ⟨p,hp,.inl (by rw[hq,h4])⟩)
   rcases e with e | e
   ·rcases key x y e with rfl | h5
    ·exact ih
    ·exact .step x y z _ I h5 ih
   ·rcases key y x e with rfl | h5
    ·exact ih
    ·refine .step x y z _ I ?_ ih;obtain ⟨p,hp,h6⟩:=(mem_join ml y x).1 h5;exact (mem_join ml x y).2 ⟨p,hp,h6.symm⟩
theorem nodup_nat {l:List Int}(hn:l.Nodup)(hb:∀ x∈l,0≤x):(l.map Int.toNat).Nodup:=by
 rw[List.Nodup,List.pairwise_map];refine List.Pairwise.imp_of_mem ?_ hn;intro a b ha hb' hne e;have:=hb a ha;have:=hb b hb';omega
theorem nodup_leI {l:List Int}{n:Nat}(hn:l.Nodup)(hb:∀ x∈l,0≤x∧x<(n:Int)):l.length≤n:=by
 have h1:=nodup_nat hn fun x hx=>(hb x hx).1;have:=length_le_of_nodup (l:=List.range n) h1 List.nodup_range fun x hx=>by
  obtain ⟨y,hy,rfl⟩:=List.mem_map.1 hx;have:=hb y hy;exact List.mem_range.2 oM
 simpa using this
theorem chk1_none_form {tl:List Cl}:∀ {l:List Cl} {n:Int},chk1 tl l n=none→l.Pairwise (fun a b=>a.id<b.id)∧(∀ x∈l,n<x.id)∧∀ x∈l,formC tl x=0
 | [],_,_=>⟨List.Pairwise.nil,by simp,by simp⟩
 | x::r,n,h=>by
  unfold chk1 at h;split at h
  ·cases h
  ·rename_i hid;split at h
   ·cases h
   ·rename_i hf;obtain ⟨h1,h2,h3⟩:=chk1_none_form h;refine⟨List.pairwise_cons.2 ⟨h2,h1⟩,fun y hy=>?_,fun y hy=>?_⟩
    ·rcases List.mem_cons.1 hy with rfl | hy
     ·omega
     ·have:=h2 y hy; omega
    ·rcases List.mem_cons.1 hy with rfl | hy
     ·exact Decidable.of_not_not hf
     ·exact h3 y hy
set_option maxRecDepth 10000
theorem check_ne {l:List Cl}(h:(checkC l).2=0):chk1 (tabC l) (canonC l) 0=none:=by
 unfold checkC at h;split at h
 ·simp at h
 ·cases h1:chk1 (tabC l) (canonC l) 0 with
  | none=>rfl
  | some p=>rw[h1] at h; exact absurd h (chk1_ne h1)
def cd (A B:Nat):Int:=((A * 1000+B:Nat):Int)
section
variable {A:List (List Int)}(hA:Good A)
include hA
end
theorem form_of {tl:List Cl}{c:Cl}(h1:0≤c.dim∧c.dim≤8)(h2:cntBad c=false)(h3:∀ x∈c.sides,∃ d,findT tl x.cell=some d∧d.dim=c.dim - 1)(h4:c.sides.Pairwise fun a b=>a.cell<b.cell)(h5:∀ x∈c.sides,x.sign=1∨x.sign = -1)(h6:c.dim=1→sumS c.sides=0):formC tl c=0:=by
 have e1:dimBad c=false:=by unfold dimBad; simp; omega
 have e3:(List.range c.sides.length).any (badAt tl c)=false:=by
  rw[List.any_eq_false];intro i hi;have hi:=List.mem_range.1 hi;obtain ⟨d,hd1,hd2⟩:=h3 _ (gM hi);unfold badAt;rw[gE hi];show ¬ badSide _ _ i c.sides[i]=true;unfold badSide;rw[hd1];simp only[Option.isSome_some,Bool.not_true,Bool.false_or,Option.getD_some,hd2,ne_eq,not_true_eq_false,decide_false];by_cases hi0:i>0
  ·have hlt:=List.pairwise_iff_getElem.1 h4 (i - 1) i oM hi oM;rw[gE oM];simp;omega
  ·simp[hi0]
 have e4:c.sides.any signBad=false:=by
  rw[List.any_eq_false];intro x hx
  rcases h5 x hx with h | h <;> simp[signBad,h]
 have e5:(decide (c.dim=1)&&decide (sumS c.sides≠0))=false:=by
  by_cases hd:c.dim=1
  ·rw[h6 hd]; simp
  ·simp[hd]
 unfold formC;rw[e1,h2,e3,e4,e5];rfl
section
variable {A B:List (List Int)}(hA:Good A)(hB:Good B)
include hA hB
omit hA in
omit hA in
end
section
variable {A B:List (List Int)}(hA:Good A)(hB:Good B)
include hA hB
end
structure Few (a:List Cl)(A:List (List Int)):Prop where
 good:Good A
 cells:a=A.map (celC A)
 small:∀ s∈A,s.length≤3
 few:A.length≤14
end Go.Proofs.YtmmghffoakhheaaGreatDoor
