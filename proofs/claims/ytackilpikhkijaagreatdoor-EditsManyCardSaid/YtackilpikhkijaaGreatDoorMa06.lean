/- Sim Cpo Fzb San1 San Ref1 Ref2 Ref3 Sec Ref4 Set1 Set2 Set3 Prr SyQ Mad1 Mad2 Mad3 Mad4 Mad5 Spo1 Frm FndS SyR Mee1 Mee3 Rgt1 Rgt2 Rgt3 Frm2 Sec2 Rgt4 Rgt5 Aro2 Ren1 Ren2 Ren3 Par0 Shu SyX SyY SyU RefA SyW Wid1 Wid2 Wid3 -/
import Derived.Test.YtackilpikhkijaaGreatDoorMa05
import Derived.Test.YtackilpikhkijaaGreatDoorMa04
import Derived.Test.YtackilpikhkijaaGreatDoorMa02
import Derived.Test.YtackilpikhkijaaGreatDoorMa03
import Derived.Test.YtackilpikhkijaaGreatDoorRows
import Derived.WalkKit
import Derived.ProofKit
import Derived.OpenShut
import Derived.ShutString
import Derived.ChangeOld
import Derived.Below
import Derived.Deep.Slices
import Derived.Lib.SmallJoins
import Derived.Laws.IdiomArrays
import Derived.SizedLaws
import Derived.RangeFuncLeaves
import Derived.RangeFuncRecord
import Derived.RangeFuncSeq
import Derived.OrdersIn
import Derived.TacticsIn
import Derived.Laws.BytesString
import Derived.Laws.Strings
import Derived.Shelf.Strings.Trim
set_option linter.unusedSimpArgs false
set_option linter.unusedVariables false
namespace Go.Proofs.YtackilpikhkijaaGreatDoor
open _root_.Go.Proofs.Tryz _root_.Go.Proofs.YtackilpikhkijaaGreatDoor.Tryz
open Go Go.Sy Go.Pl Go.Proofs
set_option maxRecDepth 100000
theorem lv_of {g:PH}:∀ {ls:List (List Int)} {rs:List Sv},All2 (ListR g) ls rs→(∀ x∈ls,x.length<1099511627776)→∃ L:List (LV g),L.map LV.l=ls∧L.map LV.sv=rs
 | [],[],_,_=>⟨[],rfl,rfl⟩
 | x::ls,r::rs,h,hl=>by
  obtain ⟨L,h1,h2⟩:=lv_of h.2 (fun y hy=>hl y (by simp[hy]));exact⟨⟨r,x,h.1,hl x (by simp)⟩::L,by simp[h1],by simp[h2]⟩
 | [],_::_,h,_=>h.elim
 | _::_,[],h,_=>h.elim
theorem lv_all {g:PH}:∀ (L:List (LV g)),All2 (ListR g) (L.map LV.l) (L.map LV.sv)
 | []=>trivial
 | x::L=>⟨x.h,lv_all L⟩
theorem lv_flat {g:PH}:∀ (L:List (LV g)),L.flatMap (encLV g).enc=(L.map LV.sv).flatMap encSv.enc
 | []=>rfl
 | x::L=>by simp only[List.flatMap_cons,List.map_cons,lv_flat L]; rfl
theorem lv_row {g:PH}(T:TypeId)(v:Value)(L:List (LV g)):rowA (encLV g) T v L=rowA encSv T v (L.map LV.sv):=by
 simp only[rowA,lv_flat,List.length_map]
def eqL (a b:List Int):Bool:=decide (a=b)
theorem uniqGo_map {α β:Type}(f:α→β)(eq:α→α→Bool)(eq':β→β→Bool)(h:∀ a b,eq a b=eq' (f a) (f b)):∀ (x:α) (l:List α),(uniqGo eq x l).map f=uniqGo eq' (f x) (l.map f)
 | _,[]=>rfl
 | x,y::r=>by
  simp only[uniqGo,List.map_cons,h];split
  ·exact uniqGo_map f eq eq' h y r
  ·rw[List.map_cons,uniqGo_map f eq eq' h y r]
theorem uniq_map {α β:Type}(f:α→β)(eq:α→α→Bool)(eq':β→β→Bool)(h:∀ a b,eq a b=eq' (f a) (f b))(l:List α):(uniq eq l).map f=uniq eq' (l.map f):=by
 cases l with
 | nil=>rfl
 | cons x r=>simp only[uniq,List.map_cons,uniqGo_map f eq eq' h]
theorem uniqGo_sub {α:Type}(eq:α→α→Bool):∀ (x:α) (l:List α),(uniqGo eq x l).Sublist l
 | _,[]=>.slnil
 | x,y::r=>by
  simp only[uniqGo];split
  ·exact (uniqGo_sub eq y r).cons y
  ·exact (uniqGo_sub eq y r).cons_cons y
theorem uniq_sub {α:Type}(eq:α→α→Bool)(l:List α):(uniq eq l).Sublist l:=by
 cases l with
 | nil=>exact .slnil
 | cons x r=>exact (uniqGo_sub eq x r).cons_cons x
def setC (s:List Int):List Int:=uniq (fun a b:Int=>decide (a=b)) (sortI s)
def badSet:List Int→Bool
 | []=>true
 | a::r=>decide (a<0)||decide (((a::r).length:Int)>9)
def addSets (all:List (List Int))(t:List Int):List (List Int):=uniq eqL (sortL (all++subsetsC t))
def simpAll:List (List Int)→List (List Int)→Option (List (List Int))
 | all,[]=>some all
 | all,s::r=>if badSet (setC s) then simpAll all r else if ((addSets all (setC s)).length:Int)>4000 then none else simpAll (addSets all (setC s)) r
def sideAt (all:List (List Int))(s:List Int)(k:Nat):List Side:=if 0<(s.eraseIdx k).length then [⟨lbL all (s.eraseIdx k)+1,signC k⟩] else []
def simpSides (all:List (List Int))(s:List Int)(j:Nat):List Side:=(List.range j).flatMap (sideAt all s)
def simpCell (all:List (List Int))(p:List Int×Nat):Cl:=⟨p.2+1,(p.1.length:Int) - 1,simpSides all p.1 p.1.length⟩
def simpCells (all:List (List Int)):List Cl:=all.zipIdx.map (simpCell all)
def simpC (l:List (List Int)):List Cl:=match simpAll [] l with
 | none=>[]
 | some all=>canonC (simpCells all)
theorem subsetsC_length (t:List Int)(h:t.length≤9):(subsetsC t).length≤511:=by
 have:=pow_le t.length h;simp[subsetsC];omega
theorem subsetsC_short {t:List Int}(h:t.length≤9):∀ x∈subsetsC t,x.length≤9:=fun x hx=>by
 obtain ⟨i,_,rfl⟩:=List.mem_map.1 hx;exact Nat.le_trans (pickB_length _ _) h
theorem subsetsC_pos {t:List Int}(h:t≠[]):0<(subsetsC t).length:=by
 have h1:0<t.length:=List.length_pos_iff.2 h;have h2:2 ^ 1≤2 ^ t.length:=Nat.pow_le_pow_right dC h1;simp[subsetsC];omega
theorem addSets_mem {all:List (List Int)}{t x:List Int}(h:x∈addSets all t):x∈all∨x∈subsetsC t:=by
 have h1:=(uniq_sub eqL _).subset h;have h2:=(sortL_perm _).subset h1;exact List.mem_append.1 h2
theorem addSets_srt (all:List (List Int))(t:List Int):SrtL (addSets all t):=(sortL_srt _).sublist (uniq_sub eqL _)
theorem srt_mono {all:List (List Int)}(h:SrtL all)(t:List Int):∀ i j (hi:i<all.length) (hj:j<all.length),i<j→compareC all[j] t<0→compareC all[i] t<0:=fun i j hi hj hij hlt=>by
 have h1:=List.pairwise_iff_getElem.1 h i j hi hj hij
 rcases compareC_cases all[i] all[j] with h2 | h2 | h2
 ·exact compareC_trans _ _ _ h2 hlt
 ·rw[h2]; exact hlt
 ·exact absurd h2 h1
theorem simpSides_succ (all:List (List Int))(s:List Int)(j:Nat):simpSides all s (j+1)=simpSides all s j++sideAt all s j:=by
 simp[simpSides,List.range_succ]
theorem simpSides_length (all:List (List Int))(s:List Int)(j:Nat):(simpSides all s j).length≤j:=by
 induction j with
 | zero=>simp[simpSides]
 | succ j ih =>
  rw[simpSides_succ,List.length_append];have:(sideAt all s j).length≤1:=by unfold sideAt; split <;> simp
  omega
theorem simpCells_length (all:List (List Int)):(simpCells all).length=all.length:=by simp[simpCells]
theorem simpCells_get {all:List (List Int)}{k:Nat}(h:k<all.length):(simpCells all)[k]?=some (simpCell all (all[k],k)):=by
 simp[simpCells,h]
theorem simpCells_fits {all:List (List Int)}(h:all.length≤4000)(hs:∀ x∈all,x.length≤9):Fits (simpCells all):=by
 refine⟨by rw[simpCells_length]; omega,fun c hc=>?_⟩;obtain ⟨p,hp,rfl⟩:=List.mem_map.1 hc;have h1:p.1∈all:=by
  have:=List.mem_map_of_mem (f:=Prod.fst) hp;simpa using this
 have h2:=hs _ h1;have h3:=simpSides_length all p.1 p.1.length;show (simpSides all p.1 p.1.length).length<_;omega
theorem lbL_le (ls:List (List Int))(t:List Int):lbL ls t≤ls.length:=List.length_filter_le _ _
def svOf (v:Value):Sv:=match v with
 | .slice p n c=>⟨p,n,c⟩
 | _=>⟨none,0,0⟩
theorem simplicial_spec (E:World)(g:PH)(s:Own)(v:Value)(ls:List (List Int))(hv:Lists g v ls)(hn:ls.length<1099511627776)(hl:∀ x∈ls,x.length<17592186044416) :
  Ctr Tryz.prog E 60 #[v] g s (fun r g' s'=>s=s'∧Le g g'∧∃ u,r = .agg #[u]∧Cells g' u (simpC ls)):=by
 obtain ⟨rs0,hrs0,hall0⟩:=hv;have hlen0:=hall0.length;obtain ⟨p,c,rfl⟩:=SlA.form hrs0;refine Ctr.of (args:=[.slice p rs0.length c]) func60 I ntmps60 (bE I) ?_;refine rZ (bW (aL zeroValue29) fun b2=>?_);refine tZ (rZ (aT I (sQ (sW I (lU (eN uT22 I) (lM I (tZ (bK (SC.nilRow 83 1 ?_)))))))));refine oP (ι:=PH×Value×List Sv×List (List Int)×Nat) (fun i=>[(0,.slice p rs0.length c),(2,pp b2 0),(3,i.2.1),(14,.slice p rs0.length c),(15,vi rs0.length),(16,vi i.2.2.2.2)]) (fun i=>i.1)
  (fun i=>rowA encSv 83 i.2.1 i.2.2.1::pt b2 (.cells #[.slice none 0 0] 29 (0,0))::s)
  (fun i=>Le g i.1∧i.2.2.2.2≤rs0.length∧All2 (ListR i.1) i.2.2.2.1 i.2.2.1∧(i.2.2.2.1.length≤4000∧∀ x∈i.2.2.2.1,x.length≤9)∧SrtL i.2.2.2.1∧simpAll [] ls=simpAll i.2.2.2.1 (ls.drop i.2.2.2.2)) (fun i=>rs0.length - i.2.2.2.2)
  (g,.slice none 0 0,[],[],0) sB rfl rfl ⟨Le.refl g,Nat.zero_le _,trivial,⟨Nat.zero_le _,by simp⟩,List.Pairwise.nil,rfl⟩ ?_
 rintro ⟨g1,av,rs,all,k⟩ ⟨hle,hk,hall,⟨hal,has⟩,hsrt,hsa⟩;dsimp only at hle hk hall hal has hsrt hsa ⊢;have hrl:=hall.length;refine rZ (lU (lS I I) (tZ (sQ ?_)));refine iP I (fun hlt=>?_) (fun hlt=>?_)
 ·have hkl:k<ls.length:=oM;have hkr:k<rs0.length:=oM;have hR:=(hall0.get (gE hkl) (gE hkr)).mono hle;have hxl:=hl _ (gM hkl);have hb1:=hrs0.based oM;have hdrop:ls.drop k=ls[k]::ls.drop (k+1):=List.drop_eq_getElem_cons hkl;rw[hdrop] at hsa;generalize hx:ls[k]=x at *;generalize hr:rs0[k]=r at *;have hgr:rs0[((k:Nat):Int).toNat]?=some r:=by rw[← hr]; exact gE hkr
  have hsl:=sortI_length x;have hul:=uniq_length (fun a b:Int=>decide (a=b)) (sortI x);refine kP (tN (sQ (bK (rZ (lU (iA uT22 zT83 I I hb1 oM sL) (lK (eB iT83 I (hrs0.mono hle).rd hgr I) (aT I (sW I (lW (cL call97 I (cloneI E g1 _ _ x hR hxl)) ?_)))))))));rintro v21 _ _ ⟨rfl,rfl⟩;refine aT I (sW I (lW (cL call98 I (sortInts_spec E g1 _ v21 x 0 I hxl)) ?_));rintro _ _ _ ⟨rfl,rfl⟩;refine tZ (sW I (lW (cL call99 I (compactI E g1 _ v21 (sortI x) oM)) ?_));rintro v25 _ _ ⟨rfl,rfl⟩;refine aT I (sQ (fS fun g2 hle2 hs2=>?_));have hset:Ints g2 v25 (setC x):=hs2;have hsetl:(setC x).length<17592186044416:=by unfold setC; omega
  obtain ⟨q2,d2,rfl⟩:=SlA.form hset;have hcase:setC x=[]∨∃ a t,setC x=a::t:=by cases setC x with
   | nil=>exact .inl rfl
   | cons a t=>exact .inr ⟨a,t,rfl⟩
  have hall2:=hall.mono fun _ _=>ListR.mono hle2;clear hs2;generalize hT:setC x=T at *
  rcases hcase with hT0 | ⟨a,t,hTa⟩
  ·subst hT0;have hbad:badSet (setC x)=true:=by rw[hT]; rfl
   refine sW I (lU (eN uT83 I) (lU (SU.eq (v':=vb true) (eQ I I) (congrArg vb (decide_eq_true (by simp)))) ?_));refine lM I (lZ I I I (lZ I I I (lZ I I I (lZ I I I (lU (wT I I) (lM I (lZ I I I (lZ I I I (lZ I I I (lU (wT I I) (tZ (cT I (xI (tX (bX (tN (rG (lU (aD I I oM) (lM I (nL ?_))))))))))))))))))));refine gA (g2,av,rs,all,k+1) sB I I ⟨hle.trans hle2,lN,hall2,⟨hal,has⟩,hsrt,?_⟩ lN;rw[hsa,simpAll,if_pos hbad]
  ·have hTl:T.length=t.length+1:=by rw[hTa]; rfl
   have hbT:=SlA.based hset oM;have hga:T[((0:Nat):Int).toNat]?=some a:=by rw[hTa]; rfl
   have hbe:badSet (setC x)=(decide (a<0)||decide ((T.length:Int)>9)):=by rw[hT,hTa]; rfl
   have hbe1:a<0→(decide (a<0)||decide ((T.length:Int)>9))=true:=fun h=>by simp[h]
   have hbe2:¬ a<0→(decide (a<0)||decide ((T.length:Int)>9))=decide ((T.length:Int)>9):=fun h=>by simp[h]
   refine SC.sub (f':=[(0,.slice p rs0.length c),(2,pp b2 0),(3,av),(5,.slice q2 T.length d2),(14,.slice p rs0.length c),(15,vi rs0.length),(16,vi k)]) sB ?_;refine SC.cutB 39 ((decide (a<0)||decide ((T.length:Int)>9))) ?_ ?_
   ·refine rG (lM I (lU (eN uT83 I) (lU (SU.eq (v':=vb false) (eQ I I) (congrArg vb (decide_eq_false oM))) (lM I (lY I I I (mV I) (lY I I I (iA uT83 zT3 I I hbT dC sL) (SL.gq (gT I I I dC) (eB iT3 I (SlA.rd hset) hga I) dC (lY I I I (lS I I) (lU (wF I I) (lM I ?_))))))))));refine sP ?_ ?_
    ·intro h35;refine lZ I I I (lZ I I I (lZ I I I (lU (wT I I) (nL ?_))));exact ST.mid1 (by (rw[hbe1 h35]; rfl)) mI
    ·intro h35;refine lY I I I (mV I) (lY I I I (eN uT83 I) (lY I I I (gR I I) (lU (wF I I) (nL ?_))));exact ST.mid1 (by (rw[hbe2 h35]; rfl)) mI
   refine iQ I (fun hbad=>?_) (fun hbad=>?_)
   ·refine xI (tX (bX (tN (rG (lU (aD I I oM) (lM I (nL ?_)))))));refine gA (g2,av,rs,all,k+1) sB I I ⟨hle.trans hle2,lN,hall2,⟨hal,has⟩,hsrt,?_⟩ lN;rw[hsa,simpAll,if_pos (hbe.trans hbad)]
   ·have hb9:T.length≤9:=by simp at hbad; omega
    have hsub1:=subsetsC_length T hb9;have hsub2:=subsetsC_short hb9;have hsub3:=subsetsC_pos (t:=T) (by rw[hTa]; simp);have hnb:¬ badSet (setC x)=true:=by rw[hbe,hbad]; simp
    refine kP (tN (sW I (lM I (lW (cL call100 I (subsets_spec E g2 _ _ T hset hb9)) ?_))));rintro v42 g3 _ ⟨rfl,hle3,hsub⟩;obtain ⟨rs2,hrs2,hall3⟩:=hsub;have hrl2:=hall3.length;refine lW (aQ (e:=encSv) 0 sty22 I I I hrs2 oM oM) ?_;rintro v43 _ _ ⟨rfl,rfl⟩;have hall4:=(hall2.mono fun _ _=>ListR.mono hle3).append hall3;obtain ⟨L,hL1,hL2⟩:=lv_of hall4 (fun y hy=>(List.mem_append.1 hy).elim (fun h=>Nat.lt_of_le_of_lt (has y h) dC) (fun h=>Nat.lt_of_le_of_lt (hsub2 y h) dC));have hLl:L.length=all.length+(subsetsC T).length:=(by have:=congrArg List.length hL1; simpa using this);rw[← hL2,← lv_row];refine aT I (sW I (lW (cL call101 I (sortFuncAny E g3 _ _ L oM oM)) ?_));rintro _ _ _ ⟨rfl,L2,hp2,hs2,rfl⟩;have hL2l:=hp2.length_eq;have hcall:∀ (x y:LV g3) s',CallV Tryz.prog E (.func (.func 104) #[] #[]) [x.val,y.val] g3 s' (fun r g' s''=>r=vb (decide (x.l=y.l))∧g3=g'∧s'=s''):=fun x y s'=>CallV.mk (args:=[x.val,y.val]) (cap:=[]) call104 (equalInts E g3 s' _ _ x.l y.l x.h y.h x.len);refine tZ (sW I (lW (cL call103 I (compactL (encLV g3) LV.val (fun _=>I) (fun _=>I) E g3 _ _ 104 (fun x y=>decide (x.l=y.l)) L2 oM hcall)) ?_));rintro v47 _ _ ⟨rfl,rfl⟩;refine SL.facts fun ⟨w0,hw0⟩=>?_;obtain ⟨q,d,rfl⟩:=rowA_form (i:=0) hw0 rfl;clear hw0 w0;rw[lv_row];have hnew:(uniq (fun x y:LV g3=>decide (x.l=y.l)) L2).map LV.l=addSets all T:=(by rw[uniq_map LV.l (fun x y:LV g3=>decide (x.l=y.l)) eqL (fun _ _=>rfl),hs2,hL1]; rfl);have hnl:(uniq (fun x y:LV g3=>decide (x.l=y.l)) L2).length=(addSets all T).length:=(by rw[← hnew,List.length_map]);have hall5:=lv_all (uniq (fun x y:LV g3=>decide (x.l=y.l)) L2);rw[hnew] at hall5;generalize (uniq (fun x y:LV g3=>decide (x.l=y.l)) L2).length=n47 at *;generalize (uniq (fun x y:LV g3=>decide (x.l=y.l)) L2).map LV.sv=rs5 at *;refine aT I (sW I (lU (eN uT22 I) (lU (gR I I) (tZ ?_))));refine iP I (fun hmany=>?_) (fun hmany=>?_)
    ·have hnone:simpAll [] ls=none:=by rw[hsa,simpAll,if_neg hnb,hT,if_pos oM]
     refine rZ (lU (SU.build I (buildE29)) (oZ (sK 1 zT29 I I I I I sB) ?_));refine tZ (rE (bR (tR (tR (bR (tR ?_))))));exact ST.retCD 1 s (.inl I) results60 I iT29 zT29 I I uR ⟨I,hle.trans (hle2.trans hle3),_,I,by simp only[simpC,hnone]; exact⟨[],Sl.nil _ _,trivial⟩⟩
    ·refine kP (bN (tN (rG (lU (aD I I oM) (lM I (nL ?_))))));refine gA (g3,.slice q n47 d,rs5,addSets all T,k+1) sB I I ⟨hle.trans (hle2.trans hle3),lN,hall5,⟨lN,fun y hy=>?_⟩,addSets_srt all T,?_⟩ lN
     ·rcases addSets_mem hy with h | h
      ·exact has y h
      ·exact hsub2 y h
     ·rw[hsa,simpAll,if_neg hnb,hT,if_neg oM]
 ·have hk0:k=rs0.length:=oM;have hsome:simpAll [] ls=some all:=by rw[hsa,hk0,← hlen0,List.drop_length]; rfl
  have hfit:=simpCells_fits hal has;refine xI (tX (tX (bX (tN (sQ (fS fun g2 hle2 hs2=>?_))))));have hav:SlA encSv g2 av rs:=hs2;obtain ⟨q,d,rfl⟩:=SlA.form hav;have hall2:=hall.mono fun _ _=>ListR.mono hle2;refine rG (bW (aL zeroValue29) fun b6=>?_);refine tZ (sQ (sW I (lU (eN uT22 I) (lM I (tZ (bK (SC.nilRow 53 3 ?_)))))));refine oP (ι:=PH×Value×List Rc×Nat) (fun i=>[(2,pp b2 0),(3,.slice q rs.length d),(6,pp b6 0),(53,.slice q rs.length d),(54,vi rs.length),(55,vi i.2.2.2)]) (fun i=>i.1)
   (fun i=>rowA encCell 53 i.2.1 i.2.2.1::pt b6 (.cells #[i.2.1] 29 (0,0))::pt b2 (.cells #[.slice none 0 0] 29 (0,0))::s)
   (fun i=>Le g2 i.1∧i.2.2.2≤rs.length∧All2 (CellR i.1) ((simpCells all).take i.2.2.2) i.2.2.1) (fun i=>rs.length - i.2.2.2)
   (g2,.slice none 0 0,[],0) sB rfl rfl ⟨Le.refl g2,Nat.zero_le _,trivial⟩ ?_
  rintro ⟨g3,ov,rcs,n⟩ ⟨hle3,hn3,hrcs⟩;dsimp only at hle3 hn3 hrcs ⊢;have hrcl:=hrcs.length;rw[List.length_take,simpCells_length] at hrcl;refine rZ (lU (lS I I) (tZ (sQ ?_)));refine iP I (fun hlt2=>?_) (fun hlt2=>?_)
  ·have hnl:n<all.length:=oM;have hnr:n<rs.length:=oM;have hb1:=hav.based oM;have hR:=(hall2.get (gE hnl) (gE hnr)).mono hle3;have hRl:=hR.len;have hx9:=has _ (gM hnl);have hget:=simpCells_get hnl;generalize hx:all[n]=x at *;generalize hr:rs[n]=r at *;obtain ⟨rp,rn,rc⟩:=r;dsimp only at hRl;subst hRl;have hxs:Ints g3 (.slice rp x.length rc) x:=hR;have hgr:rs[((n:Nat):Int).toNat]?=some ⟨rp,x.length,rc⟩:=by rw[← hr]; exact gE hnr
   refine kP (tN (sQ (bK (sW I (lU (iA uT22 zT83 I I hb1 oM sL) (lK (eB (u:=.slice rp x.length rc) iT83 I (hav.mono hle3).rd hgr I) (lA I (aT I (sW I (lU (aD I I oM) (lM I (lU (eN uT83 I) (lU (sU I I oM) (lU (SU.build I (buildC53 _ _)) (bW (aL zeroValue53) fun b9=>?_)))))))))))))));refine oZ (sK 0 zT53 I I I I I sB) ?_;refine tZ (sQ (sQ (SC.nilRow 55 2 (rG (lM I (lU (eN uT83 I) (lM I (tZ (bK ?_)))))))));refine oP (ι:=PH×Value×Nat) (fun i=>[(2,pp b2 0),(3,.slice q rs.length d),(6,pp b6 0),(53,.slice q rs.length d),(54,vi rs.length),(55,vi n),(8,.slice rp x.length rc),(9,pp b9 0),(66,.slice rp x.length rc),(67,vi x.length),(68,vi i.2.2)]) (fun i=>i.1)
    (fun i=>rowA encSide 55 i.2.1 (simpSides all x i.2.2)::pt b9 (.cells #[vi ((n:Int)+1),vi ((x.length:Int) - 1),i.2.1] 53 (0,0))::rowA encCell 53 ov rcs::pt b6 (.cells #[ov] 29 (0,0))::pt b2 (.cells #[.slice none 0 0] 29 (0,0))::s)
    (fun i=>Le g3 i.1∧i.2.2≤x.length) (fun i=>x.length - i.2.2)
    (g3,.slice none 0 0,0) sB rfl rfl ⟨Le.refl g3,Nat.zero_le _⟩ ?_
   rintro ⟨g4,sv,j⟩ ⟨hle4,hj⟩;dsimp only at hle4 hj ⊢;have hssl:=simpSides_length all x j;have hsucc:=simpSides_succ all x j;refine rZ (lU (lS I I) (tZ (sQ ?_)));refine iP I (fun hlt3=>?_) (fun hlt3=>?_)
   ·have hjl:j<x.length:=oM;have hxs4:Ints g4 (.slice rp x.length rc) x:=hxs.mono hle4;have hcap:=(SlA.cap hxs4).2;have hc1:=SlA.cut hxs4 (l:=0) (m:=j) oM oM;have hc2:=SlA.cut hxs4 (l:=j+1) (m:=x.length) oM oM;have he1:(x.drop 0).take (j - 0)=x.take j:=by simp
    have he2:(x.drop (j+1)).take (x.length - (j+1))=x.drop (j+1):=tL (by rw[List.length_drop]; omega);rw[he1] at hc1;rw[he2] at hc2;have her:[x.take j,x.drop (j+1)].flatten=x.eraseIdx j:=by rw[List.eraseIdx_eq_take_drop_succ]; simp
    have hel:(x.eraseIdx j).length=x.length - 1:=by rw[List.length_eraseIdx]; simp[hjl]
    have hsum:sumLen [x.take j,x.drop (j+1)]<1099511627776:=by simp[sumLen]; omega
    refine kP (tN (sQ (bK (sW I (aT I (sQ ?_))))));refine dW [] [(0,2),(1,2),(2,2),(3,2),(4,2),(5,2),(6,2),(7,0),(8,0),(9,2)] Tryz.mixed kR ?_;refine pU I (mV I) (pU I (mV I) (pU I (SU.sliceH uT83 zT3 I I oM oM) (pU I (mV I) (pU I (mV I) (pU I (aD I I oM) (pU I (SU.eq (v':=sliced rp (j+1) x.length rc 1) (SU.sliceL uT83 zT3 I I oM oM) (by rw[show ((j:Int)+1).toNat=j+1 by omega])) ?_))))));refine SP.o I (bS sty22 I I I (szs_mk sB) dC) dC (.inr iR) ?_;rintro _ _ _ ⟨b78,rfl,rfl,rfl⟩;refine SP.freeze fun g5 hle5 hb78=>?_;have hlit:Lists g5 (.slice (some ⟨b78,0,none⟩) 2 2) [x.take j,x.drop (j+1)]:=⟨[svOf (sliced rp 0 j rc 1),svOf (sliced rp (j+1) x.length rc 1)],SlA.lit hb78 rfl rfl,⟨hc1.mono hle5,hc2.mono hle5,trivial⟩⟩;refine SP.o I (cL call105 I (concat_spec E g5 _ _ _ hlit (by simp) hsum)) dC (.inr iR) ?_;rintro v79 _ _ ⟨rfl,rfl⟩;refine pU I (aS I) (pN (tN (sQ (fS fun g6 hle6 hs6=>?_))));have hrest:Ints g6 v79 (x.eraseIdx j):=(by rw[← her]; exact hs6);obtain ⟨q6,d6,rfl⟩:=SlA.form hrest;clear hs6;refine rG (lM I (lU (eN uT83 I) (lU (gR I I) (tZ ?_))));refine iP I (fun hpos=>?_) (fun hpos=>?_)
    ·have hside:sideAt all x j=[⟨lbL all (x.eraseIdx j)+1,signC j⟩]:=by unfold sideAt; rw[if_pos oM]
     have hlb:=lbL_le all (x.eraseIdx j);rw[hside] at hsucc;have hlist:Lists g6 (.slice q rs.length d) all:=⟨rs,hav.mono (hle3.trans (hle4.trans (hle5.trans hle6))),hall2.mono fun _ _=>ListR.mono (hle3.trans (hle4.trans (hle5.trans hle6)))⟩;refine sW I (lM I (lW (cL call106 I (binSearchL E g6 _ _ _ all (x.eraseIdx j) hlist hrest oM (fun y hy=>by have:=has y hy; omega) (srt_mono hsrt _))) ?_));rintro _ _ _ ⟨⟨fb,rfl⟩,rfl,rfl⟩;refine lM I (lU (xT I I) (lU (xT I I) (lA I (aT I ?_))));refine dW [8,9,10] [(0,2),(1,1),(2,2),(3,2),(4,2),(5,0),(6,2),(7,0),(8,0),(9,0),(10,0)] Tryz.mixed kR ?_;refine pU I (fA uT53 I zT32 I) (pK I (qL iT32 I (cO 1 I I)) (pU I (mV I) (pU I (aD I I oM) (pU I (mV I) (SP.o I (cL call107 I (sign_spec E g6 _ j)) dC (.inr iR) ?_)))));rintro _ _ _ ⟨rfl,rfl,rfl⟩;refine pU I (SU.build I (buildS55 _ _)) (SP.o I (bS sty32 I I I (szs_mk sB) dC) dC (.inr iR) ?_);rintro _ _ _ ⟨b96,rfl,rfl,rfl⟩;refine SP.o I (aP (e:=encSide) 0 ⟨lbL all (x.eraseIdx j)+1,signC j⟩ sty32 I I I I I oM oM) dC (.inl dC) ?_;rintro v97 _ _ ⟨rfl,rfl⟩;rw[← hsucc];refine SP.facts fun ⟨w0,hw0⟩=>?_;obtain ⟨q97,d97,rfl⟩:=rowA_form (i:=0) hw0 rfl;clear hw0 w0;refine oU rfl (fA uT53 rfl zT32 rfl) dC (.inl dC) (SP.on rfl (SO.store1 1 zT32 rfl rfl rfl rfl (bE rfl) (by rfl)) (.inl dC) ?_);rintro _ _ _ ⟨rfl,rfl⟩;refine pN (bN (tN (rG (lU (aD I I oM) (lM I (nL ?_))))));exact gA (g6,_,j+1) sB I I ⟨hle4.trans (hle5.trans hle6),lN⟩ lN
    ·have hside:sideAt all x j=[]:=by unfold sideAt; rw[if_neg oM]
     rw[hside,List.append_nil] at hsucc;refine kP (bN (tN (rG (lU (aD I I oM) (lM I (nL ?_))))));refine ST.to (fun w hw=>?_) (g':=g6) (s':=rowA encSide 55 sv (simpSides all x (j+1))::pt b9 (.cells #[vi ((n:Int)+1),vi ((x.length:Int) - 1),sv] 53 (0,0))::rowA encCell 53 ov rcs::pt b6 (.cells #[ov] 29 (0,0))::pt b2 (.cells #[.slice none 0 0] 29 (0,0))::s) ?_
     ·rw[hsucc]; exact hw
     exact gA (g6,sv,j+1) sB I I ⟨hle4.trans (hle5.trans hle6),lN⟩ lN
   ·have hjj:j=x.length:=oM;subst hjj;refine xI (tX (tX (bX (tN (rG (fR fun g5 hle5 hs5=>?_))))));have hsd:SlA encSide g5 sv (simpSides all x x.length):=hs5;obtain ⟨q5,d5,rfl⟩:=SlA.form hsd;obtain ⟨nc,hnc⟩:∃ nc:Rc,nc=⟨(n:Int)+1,(x.length:Int) - 1,⟨q5,(simpSides all x x.length).length,d5⟩⟩:=⟨_,rfl⟩;refine lU (fA uT29 I zT27 I) (lK (qL isAgg27 I (cO 2 I I)) (lK (qV 0 iT53 zT53 I I I) (lW (bS sty27 I I I (szs_mk sB) dC) ?_)));rintro _ _ _ ⟨b103,rfl,rfl,rfl⟩;refine lW (aP (e:=encCell) 1 nc sty27 rfl rfl rfl rfl (by rw[hnc]; rfl) oM oM) ?_;rintro v104 _ _ ⟨rfl,rfl⟩;refine SL.facts fun ⟨w0,hw0⟩=>?_;obtain ⟨q104,d104,rfl⟩:=rowA_form (i:=1) hw0 rfl;clear hw0 w0;refine lU (fA uT29 I zT27 I) (oZ (sK 2 zT27 I I I I I sB) ?_);refine nL (bN (tN (rG (lU (aD I I oM) (lM I (nL (dR (s':=rowA encCell 53 (.slice q104 (rcs++[nc]).length d104) (rcs++[nc])::pt b6 (.cells #[.slice q104 (rcs++[nc]).length d104] 29 (0,0))::pt b2 (.cells #[.slice none 0 0] 29 (0,0))::s) (.cons _ (.refl _)) ?_)))))));refine gA (g5,_,rcs++[nc],n+1) sB I I ⟨hle3.trans (hle4.trans hle5),lN,?_⟩ lN;dsimp only;rw[take_succ_of hget];exact (hrcs.mono fun _ _=>CellR.mono (hle4.trans hle5)).append ⟨(by rw[hnc]; exact⟨I,I,hsd⟩),trivial⟩
  ·have hnn:n=rs.length:=oM;have htk:(simpCells all).take n=simpCells all:=tL (by rw[simpCells_length]; omega);rw[htk] at hrcs;refine xI (tX (tX (bX (tN (sQ (fS fun g4 hle4 hs4=>?_))))));have hov:Cells g4 ov (simpCells all):=⟨rcs,hs4,hrcs.mono fun _ _=>CellR.mono hle4⟩;refine rG (lK (qV 0 iT29 zT29 I I I) (lW (cL call55 I (canon_spec E g4 _ ov (simpCells all) hov hfit)) ?_));rintro _ g5 _ ⟨rfl,hle5,u,rfl,hu⟩;obtain ⟨q9,d9,rfl⟩:=hu.form;refine oZ (sK 1 zT29 I I I I I sB) ?_;refine tZ (rE ?_);exact ST.retCD 1 s (.inl I) results60 I iT29 zT29 I I uR ⟨I,hle.trans (hle2.trans (hle3.trans (hle4.trans hle5))),_,I,by simp only[simpC,hsome]; exact hu⟩
def CellO (c:Cl)(r:Rc):Prop:=r.id=c.id∧r.dim=c.dim∧r.sv.n=c.sides.length
def ownC (c:Cl)(r:Rc):Ent:=rowA encSide 55 (.slice r.sv.p r.sv.n r.sv.c) c.sides
def ownS:List Cl→List Rc→Own
 | c::l,r::rs=>ownC c r::ownS l rs
 | _,_=>[]
theorem ownS_append:∀ {l:List Cl} {rs:List Rc} (c:Cl) (r:Rc),l.length=rs.length→ownS (l++[c]) (rs++[r])=ownS l rs++[ownC c r]
 | [],[],_,_,_=>rfl
 | x::l,y::rs,c,r,h=>by
  simp only[List.cons_append,ownS];rw[ownS_append c r (by simpa using h)]
 | [],_::_,_,_,h=>by simp at h
 | _::_,[],_,_,h=>by simp at h
theorem freezeO {E:World}{s:Own}{w:World}:∀ {l:List Cl} {rs:List Rc} {g:PH},All2 CellO l rs→At E g (ownS l rs++s) w→∃ g',Le g g'∧At E g' s w∧All2 (CellR g') l rs
 | [],[],g,_,h=>⟨g,Le.refl g,h,trivial⟩
 | c::l,r::rs,g,h1,h=>by
  obtain ⟨g1,hl1,ha1,hs1⟩:=At.freezeRow h;obtain ⟨g2,hl2,ha2,hs2⟩:=freezeO h1.2 ha1;exact⟨g2,hl1.trans hl2,ha2,⟨h1.1.1,h1.1.2.1,SlA.mono hs1 hl2⟩,hs2⟩
 | [],_::_,_,h1,_=>h1.elim
 | _::_,[],_,h1,_=>h1.elim
theorem sideEql (x y:Side)(w:World):(binOp .eql 55 (.agg (encSide.enc x).toArray) (.agg (encSide.enc y).toArray)).run Tryz.prog w = .ok (.bool (decide (x=y))) w:=by
 have hu:Tryz.prog.underlying 55=some (.struct (Tryz.prog.fieldsOf 55)):=by kernel_rfl
 rw[run_eql_struct,run_equalIn_agg w 9999 55 _ _ hu stoodInHeld55]
 have hfs : ∃ f1 f2,(Tryz.prog.fieldsOf 55).toList = [f1,f2] ∧ f1.name ≠ "_" ∧ f2.name ≠ "_" ∧ f1.type = 3 ∧ f2.type = 3 ∧ f1.offset = 0 ∧ f2.offset = 1:=⟨_,_,rfl,by decide,by decide,rfl,rfl,rfl,rfl⟩
 obtain ⟨f1,f2,e,n1,n2,t1,t2,o1,o2⟩:=hfs;obtain ⟨a,b⟩:=x;obtain ⟨c,d⟩:=y;rw[e];have h1:=run_equalIn_int (P:=Tryz.prog) w 9998 3 .i64 .i64 a c uT3;have h2:=run_equalIn_int (P:=Tryz.prog) w 9998 3 .i64 .i64 b d uT3;simp only[Op.eqFields,n1,n2,t1,t2,o1,o2,encSide,part,ne_eq,not_false_eq_true,if_true,Sem.run_bind,iT3,Result.andThen_ok];simp[h1,h2];by_cases hac:a=c <;> by_cases hbd:b=d <;> simp[hac,hbd]
theorem SU.eqlSide {N:Nat}{f:Fr}{dst:Option Tmp}{ty:TypeId}{pos:String}{af:Array Edge}{gd:Option (Nat×Bool)}{x y:Operand}(a b:Side){U:TypeId}(hx:ev f x=some (.agg (encSide.enc a).toArray))(hy:ev f y=some (.agg (encSide.enc b).toArray)) :
  SU Tryz.prog N ⟨dst,.binOp .eql 55 x y U,ty,pos,af,gd⟩ f (.bool (decide (a=b))):=fun ac w ha=>by
 have hg:=run_eqGuard_agg (P:=Tryz.prog) w .eql 55 x y (encSide.enc a).toArray (encSide.enc b).toArray eqGuardType55;simp only[execOp,ha.ev hx,ha.ev hy,Sem.run_bind,hg,Result.andThen_ok,sideEql];rfl
def triL:List Cl:=[⟨1,0,[]⟩,⟨2,0,[]⟩,⟨3,0,[]⟩,⟨4,1,[⟨1,-1⟩,⟨2,1⟩]⟩,⟨5,1,[⟨1,-1⟩,⟨3,1⟩]⟩,⟨6,1,[⟨2,-1⟩,⟨3,1⟩]⟩,⟨7,2,[⟨4,1⟩,⟨5,-1⟩,⟨6,1⟩]⟩]
theorem sortI_id {l:List Int}(h:l.Pairwise (· ≤ ·)):sortI l=l:=by
 unfold sortI;exact List.mergeSort_of_pairwise (h.imp fun h=>by simpa using h)
theorem setC_012:setC [0,1,2]=[0,1,2]:=by
 unfold setC;rw[sortI_id dC];rfl
theorem simp_tri:simpC [[0,1,2]]=triL:=by
 simp only[simpC,simpAll,setC_012];rfl
theorem fits_dec {l:List Cl}(h:(l.all fun c=>decide (c.sides.length<100))=true)(h2:l.length<100):Fits l:=by
 rw[List.all_eq_true] at h;exact⟨oM,fun c hc=>by have:=h c hc; simp at this; omega⟩
theorem tri_fits:Fits triL:=fits_dec dC dC
theorem canonC_alt (l:List Cl):canonC l=sortBy Cl.id (l.map normC):=by
 unfold canonC;rw[sortBy_map];rfl
theorem canonC_srt (l:List Cl):Srt Cl.id (canonC l):=by rw[canonC_alt]; exact sortBy_srt _
theorem Tryz.buildF53 (x y:Int)(v:Value)(hv:v.cells = #[v])(w:World):(Instr.build 53 #[(0,vi x),(1,vi y),(2,v)]).run Tryz.prog w = .ok (.agg #[vi x,vi y,v]) w:=by
 have hz:(Value.agg #[vi 0,vi 0,Value.slice none 0 0]).cells = #[vi 0,vi 0,.slice none 0 0]:=rfl;have h1:(vi x).cells = #[vi x]:=rfl;have h2:(vi y).cells = #[vi y]:=rfl;simp[Instr.build,Instr.fill,hv,hz,h1,h2]
structure En where
 id:Int
 sum:Int
 many:Int
 fst:Nat
theorem foldl_strict:∀ {L acc:List Cl},(acc++L).Pairwise (fun a b=>a.id<b.id)→L.foldl addC acc=acc++L
 | [],acc,_=>by simp
 | x::r,acc,h=>by
  have h1:acc.any (fun y=>y.id == x.id)=false:=by
   rw[List.any_eq_false];intro y hy;have:=(List.pairwise_append.1 h).2.2 y hy x (by simp);simp;omega
  rw[List.foldl_cons,addC_new h1,foldl_strict (by simpa using h)];simp
theorem tabC_strict {l:List Cl}(h:(canonC l).Pairwise fun a b=>a.id<b.id):tabC l=canonC l:=by
 unfold tabC;rw[foldl_strict (by simpa using h)];rfl
abbrev StrictI (l:List Int):Prop:=l.Pairwise (· < ·)
abbrev StrictL (l:List (List Int)):Prop:=l.Pairwise fun a b=>compareC a b<0
set_option maxHeartbeats 2000000
end Go.Proofs.YtackilpikhkijaaGreatDoor
namespace Go.Sy
open Go
section
variable {P:Program}{N:Nat}{E:World}{ops:Array Oper}{Q:Exit→Act→World→Prop}{g0:PH}{s0:Own}{tail:List Nat}{f:Fr}{g g':PH}{s s':Own}{L:Array Bool}{n:Nat}
theorem SX.to (h:∀ w,At E g s w→At E g' s' w)(hc:SX P N E ops Q g0 s0 tail L n f g' s'):SX P N E ops Q g0 s0 tail L n f g s:=fun a w h1 hcl ha hw hb=>hc a w h1 hcl ha (h w hw) hb
theorem SX.freezeRow {T:TypeId}{k m:Nat}{v:Value}{xs:List Value}(h:∀ g',Le g g'→Sl g' k v m xs→SX P N E ops Q g0 s0 tail L n f g' s):SX P N E ops Q g0 s0 tail L n f g (row T k v m xs::s):=fun a w h1 hcl ha hw hb=>by
 obtain ⟨g',h3,h4,h5⟩:=hw.freezeRow;exact h g' h3 h5 a w h1 hcl ha h4 hb
end
end Go.Sy
namespace Go.Proofs.YtackilpikhkijaaGreatDoor
open _root_.Go.Proofs.Tryz _root_.Go.Proofs.YtackilpikhkijaaGreatDoor.Tryz
open Go Go.Sy Go.Pl Go.Proofs
set_option maxRecDepth 100000
def mixC (id k:Int):Int:=if k=1 then id else IntKind.i64.wrap ((IntKind.i64.wrap (id * k)).tmod 211+1)
set_option maxHeartbeats 1000000
open Go.ChangeShapes Go.WideShapes Go.ChangeAt Go.RowKit
set_option maxRecDepth 100000
def held (W:World):PH:=fun b=>W.heap[b]?
def E0 (W:World):World:={ W with drawn:=0 }
theorem at_start (W:World):At (E0 W) (held W) [] W:=⟨rfl,⟨rfl,Nat.zero_le _⟩,rfl,fun _ _ h=>h,by simp,by simp,List.Pairwise.nil⟩
theorem at_below {W W':World}{g:PH}{s:Own}(h:At (E0 W) g s W')(hl:Le (held W) g):Below W.heap.size W W':=by
 have hb:∀ k,k<W.heap.size→W'.heap[k]?=W.heap[k]?:=fun k hk=>by
  have h1:W.heap[k]?=some W.heap[k]:=Array.getElem?_eq_getElem hk;rw[h1];exact h.known k _ (hl k _ h1)
 refine⟨h.os,h.tape.1,h.output,?_,hb⟩;refine Decidable.of_not_not fun hc=>?_;have h1:=hb W'.heap.size oM;rw[Array.getElem?_eq_none (lR _),Array.getElem?_eq_getElem oM] at h1;cases h1
section
variable {H:Type}{enc:TypeId×Value→H}{W:World}{base:Nat}{spare:Nat→Bool}{hd:Bool}
instance:Inhabited (List Int×Sv):=⟨([],⟨none,0,0⟩)⟩
end
end Go.Proofs.YtackilpikhkijaaGreatDoor
namespace Go.Sy
open Go
section
variable {P:Program}{N:Nat}{E:World}{f:Fr}{g:PH}{s s1:Own}{dst:Option Tmp}{ty:TypeId}{pos:String}{af:Array Edge}{gd:Option (Nat×Bool)}{α:Type}{k:Nat}{e:Enc α k}
end
end Go.Sy
namespace Go.Proofs.YtackilpikhkijaaGreatDoor
open _root_.Go.Proofs.Tryz _root_.Go.Proofs.YtackilpikhkijaaGreatDoor.Tryz
open Go Go.Sy Go.Pl Go.Proofs
def adjT (A:List Cl)(k:Int):Option (List Int):=(findT A k).map fun c=>c.sides.map Side.cell
def costF (A:List Cl)(m:List Int):Nat:=((A.filter fun c=>!m.contains c.id).map fun c=>c.sides.length).sum
structure Wide (A:List Cl)(ids left m:List Int):Prop where
 sound:∀ x∈m,∃ id∈ids,Rch (adjT A) id x
 todo:∀ x∈left,adjT A x≠none→∃ id∈ids,Rch (adjT A) id x
 start:∀ x∈ids,adjT A x≠none→x∈left∨x∈m
 sides:∀ x∈m,∀ l,adjT A x=some l→∀ y∈l,adjT A y≠none→y∈left∨y∈m
 few:left.length+costF A m≤ids.length+costF A []
set_option maxRecDepth 100000
set_option maxHeartbeats 1000000
section
variable {φ:Int→Int}{K:Int→Prop}(hφ:∀ a b,K a→K b→φ a=φ b→a=b)
include hφ
omit hφ in
omit hφ in
end
def code (k q:Nat):Int:=if q<k then ((q * 16+k:Nat):Int) else ((k * 16+(q+1):Nat):Int)
structure Good (all:List (List Int)):Prop where
 strict:StrictL all
 form:∀ s∈all,s≠[]∧StrictI s∧s.length≤9
 faces:∀ s∈all,2≤s.length→∀ k,k<s.length→s.eraseIdx k∈all
section
variable {all:List (List Int)}(hg:Good all)
include hg
end
def ixC (all:List (List Int))(t:List Int):Int:=((lbL all t:Nat):Int)+1
def facesC (all:List (List Int))(s:List Int):List Side:=if s.length≤1 then [] else (List.range s.length).reverse.map fun k:Nat=>⟨ixC all (s.eraseIdx k),signC k⟩
def celC (all:List (List Int))(s:List Int):Cl:=⟨ixC all s,(s.length:Int) - 1,facesC all s⟩
theorem find_mem {A:List Cl}(h:(A.map Cl.id).Nodup){x:Cl}(hx:x∈A):findT A x.id=some x:=by
 induction A with
 | nil=>simp at hx
 | cons c t ih =>
  simp only[List.map_cons,List.nodup_cons] at h;unfold findT
  rcases List.mem_cons.1 hx with rfl | hx
  ·simp
  ·have hne:¬ c.id=x.id:=fun e=>h.1 (by rw[e]; exact List.mem_map.2 ⟨x,hx,rfl⟩);rw[List.find?_cons];simp only[hne,decide_false];exact ih h.2 hx
theorem normC_idem (c:Cl):normC (normC c)=normC c:=by
 unfold normC;rw[← eq_sortBy (sortBy_srt c.sides) (Stab.refl _)]
theorem canonC_idem (l:List Cl):canonC (canonC l)=canonC l:=by
 have h1:sortBy Cl.id (canonC l)=canonC l:=(eq_sortBy (canonC_srt l) (Stab.refl _)).symm;show (sortBy Cl.id (canonC l)).map normC=canonC l;rw[h1];unfold canonC;rw[List.map_map];exact List.map_congr_left fun c _=>normC_idem c
section
variable {all:List (List Int)}(hg:Good all)
include hg
end
section
variable {all:List (List Int)}(hg:Good all)
include hg
end
section
variable {all:List (List Int)}(hg:Good all)
include hg
end
open Go.ChangeShapes Go.WideShapes Go.ChangeAt Go.RowKit
set_option maxRecDepth 100000
section
variable {H:Type}{enc:TypeId×Value→H}{W:World}{base:Nat}{spare:Nat→Bool}{hd:Bool}
end
inductive Cn (E:Int→Int→Prop):Int→Int→Prop
 | refl (a:Int):Cn E a a
 | step {a b c:Int} (h:E a b∨E b a) (r:Cn E b c):Cn E a c
def linked (ml:List (Int×List Int))(a b:Int):Prop:=∃ p∈ml,p.2.head?=some a∧b∈p.2
def RZ (e:En)(z:Int×Int):Prop:=e.id=z.1∧e.sum=z.2
def RM (e:En)(p:Int×List Int):Prop:=e.id=p.1∧e.many=p.2.length∧p.2.head?=some (e.fst:Int)
structure Sd (n t k:Nat)(es:List En)(part:List Int)(zl:List (Int×Int))(ml:List (Int×List Int)):Prop where
 z:All2 RZ es zl
 m:All2 RM es ml
 bz:∀ e∈es,-(t:Int)≤e.sum∧e.sum≤t∧0≤e.many∧e.many≤t
 bf:∀ e∈es,e.fst<k
 bm:∀ p∈ml,∀ x∈p.2,0≤x∧x<k
 len:part.length=n
 bp:∀ a,a<k→0≤part.getD a 0∧part.getD a 0<k
 cn:∀ a b:Nat,a<k→b<k→(part.getD a 0=part.getD b 0↔Cn (linked ml) a b)
theorem chk1_none_form {tl:List Cl}:∀ {l:List Cl} {n:Int},chk1 tl l n=none→l.Pairwise (fun a b=>a.id<b.id)∧(∀ x∈l,n<x.id)∧∀ x∈l,formC tl x=0
 | [],_,_=>⟨List.Pairwise.nil,by simp,by simp⟩
 | x::r,n,h=>by
  unfold chk1 at h;split at h
  ·cases h
  ·rename_i hid;split at h
   ·cases h
   ·rename_i hf;obtain ⟨h1,h2,h3⟩:=chk1_none_form h;refine⟨List.pairwise_cons.2 ⟨h2,h1⟩,fun y hy=>?_,fun y hy=>?_⟩
    ·rcases List.mem_cons.1 hy with rfl | hy
     ·omega
     ·have:=h2 y hy; omega
    ·rcases List.mem_cons.1 hy with rfl | hy
     ·exact Decidable.of_not_not hf
     ·exact h3 y hy
set_option maxRecDepth 10000
theorem check_ne {l:List Cl}(h:(checkC l).2=0):chk1 (tabC l) (canonC l) 0=none:=by
 unfold checkC at h;split at h
 ·simp at h
 ·cases h1:chk1 (tabC l) (canonC l) 0 with
  | none=>rfl
  | some p=>rw[h1] at h; exact absurd h (chk1_ne h1)
section
variable {A:List (List Int)}(hA:Good A)
include hA
end
theorem form_of {tl:List Cl}{c:Cl}(h1:0≤c.dim∧c.dim≤8)(h2:cntBad c=false)(h3:∀ x∈c.sides,∃ d,findT tl x.cell=some d∧d.dim=c.dim - 1)(h4:c.sides.Pairwise fun a b=>a.cell<b.cell)(h5:∀ x∈c.sides,x.sign=1∨x.sign = -1)(h6:c.dim=1→sumS c.sides=0):formC tl c=0:=by
 have e1:dimBad c=false:=by unfold dimBad; simp; omega
 have e3:(List.range c.sides.length).any (badAt tl c)=false:=by
  rw[List.any_eq_false];intro i hi;have hi:=List.mem_range.1 hi;obtain ⟨d,hd1,hd2⟩:=h3 _ (gM hi);unfold badAt;rw[gE hi];show ¬ badSide _ _ i c.sides[i]=true;unfold badSide;rw[hd1];simp only[Option.isSome_some,Bool.not_true,Bool.false_or,Option.getD_some,hd2,ne_eq,not_true_eq_false,decide_false];by_cases hi0:i>0
  ·have hlt:=List.pairwise_iff_getElem.1 h4 (i - 1) i oM hi oM;rw[gE oM];simp;omega
  ·simp[hi0]
 have e4:c.sides.any signBad=false:=by
  rw[List.any_eq_false];intro x hx
  rcases h5 x hx with h | h <;> simp[signBad,h]
 have e5:(decide (c.dim=1)&&decide (sumS c.sides≠0))=false:=by
  by_cases hd:c.dim=1
  ·rw[h6 hd]; simp
  ·simp[hd]
 unfold formC;rw[e1,h2,e3,e4,e5];rfl
section
variable {A B:List (List Int)}(hA:Good A)(hB:Good B)
include hA hB
omit hA in
omit hA in
end
section
variable {A B:List (List Int)}(hA:Good A)(hB:Good B)
include hA hB
end
structure Few (a:List Cl)(A:List (List Int)):Prop where
 good:Good A
 cells:a=A.map (celC A)
 small:∀ s∈A,s.length≤3
 few:A.length≤14
structure Fm (tl:List Cl)(c:Cl):Prop where
 dim:0≤c.dim∧c.dim≤8
 cnt:cntBad c=false
 found:∀ x∈c.sides,∃ d,findT tl x.cell=some d∧d.dim=c.dim - 1
 asc:c.sides.Pairwise fun a b=>a.cell<b.cell
 sg:∀ x∈c.sides,x.sign=1∨x.sign = -1
 one:c.dim=1→sumS c.sides=0
theorem Fm.ok {tl:List Cl}{c:Cl}(h:Fm tl c):formC tl c=0:=form_of h.dim h.cnt h.found h.asc h.sg h.one
theorem asc_of {l:List Side}(hs:l.Pairwise fun a b=>a.cell≤b.cell)(hd:∀ i x y,l[i]?=some x→l[i+1]?=some y→x.cell≠y.cell):l.Pairwise fun a b=>a.cell<b.cell:=by
 induction l with
 | nil=>exact List.Pairwise.nil
 | cons a r ih =>
  obtain ⟨h1,h2⟩:=List.pairwise_cons.1 hs;have hr:=ih h2 fun i x y hx hy=>hd (i+1) x y (by simpa using hx) (by simpa using hy);refine List.pairwise_cons.2 ⟨fun b hb=>?_,hr⟩;cases r with
  | nil=>simp at hb
  | cons z q =>
   have hz:a.cell<z.cell:=by
    have:=h1 z (by simp);have:=hd 0 a z rfl rfl;omega
   rcases List.mem_cons.1 hb with rfl | hb
   ·exact hz
   ·have:=(List.pairwise_cons.1 hr).1 b hb;omega
theorem fm_of {tl:List Cl}{c:Cl}(h:formC tl c=0)(hs:c.sides.Pairwise fun a b=>a.cell≤b.cell):Fm tl c:=by
 unfold formC at h;split at h
 ·cases h
 ·rename_i h1;split at h
  ·cases h
  ·rename_i h2;split at h
   ·cases h
   ·rename_i h3;split at h
    ·cases h
    ·rename_i h4;split at h
     ·cases h
     ·rename_i h5;have hbad:∀ i x,c.sides[i]?=some x→badSide tl c i x=false:=fun i x hx=>by
       have hi:=(List.getElem?_eq_some_iff.1 hx).1;have:=List.any_eq_false.1 ((Bool.not_eq_true _).mp h3) i (List.mem_range.2 hi);unfold badAt at this;rw[hx] at this;simpa using this
      refine⟨?_,by simpa using h2,fun x hx=>?_,asc_of hs fun i x y hx hy e=>?_,fun x hx=>?_,fun hd=>?_⟩
      ·simp[dimBad] at h1; omega
      ·obtain ⟨i,hi,rfl⟩:=List.getElem_of_mem hx;have:=hbad i _ (gE hi);unfold badSide at this;simp only[Bool.or_eq_false_iff,Bool.not_eq_false',decide_eq_false_iff_not,ne_eq,Decidable.not_not] at this;obtain ⟨⟨g1,g2⟩,_⟩:=this;obtain ⟨d,hd⟩:=Option.isSome_iff_exists.1 g1;rw[hd] at g2;exact⟨d,hd,g2⟩
      ·have:=hbad (i+1) y hy;unfold badSide at this;rw[show i+1 - 1=i by omega,hx] at this;simp[e] at this
      ·have:=List.any_eq_false.1 ((Bool.not_eq_true _).mp h4) x hx;simp[signBad] at this;by_cases h6:x.sign=1
       ·exact .inl h6
       ·exact .inr (this h6)
      ·simpa [hd] using h5
structure Rt (l:List Cl):Prop where
 few:l.length≤4000
 asc:l.Pairwise fun a b=>a.id<b.id
 pos:∀ x∈l,0<x.id
 form:∀ x∈l,Fm l x
 around:∀ x∈l,x.dim>1→aroundC l x=0
theorem Rt.canon {l:List Cl}(h:Rt l):canonC l=l:=by
 unfold canonC;rw[(eq_sortBy (key:=Cl.id) (h.asc.imp fun h=>by omega) (Stab.refl l)).symm];have:∀ c∈l,normC c=c:=fun c hc=>by
  unfold normC;rw[(eq_sortBy (key:=Side.cell) ((h.form c hc).asc.imp fun h=>by omega) (Stab.refl c.sides)).symm]
 rw[List.map_congr_left this];simp
theorem Rt.tab {l:List Cl}(h:Rt l):tabC l=l:=by rw[tabC_strict (by rw[h.canon]; exact h.asc),h.canon]
theorem Rt.find {l:List Cl}(h:Rt l){c:Cl}(hc:c∈l):findT l c.id=some c:=by
 refine find_mem ?_ hc;rw[List.Nodup,List.pairwise_map];exact h.asc.imp fun h=>by omega
theorem chk2_none_form {tl:List Cl}:∀ {l:List Cl},chk2 tl l=none→∀ x∈l,x.dim>1→aroundC tl x=0
 | [],_,x,hx,_=>by simp at hx
 | y::r,h,x,hx,hd=>by
  unfold chk2 at h;split at h
  ·cases h
  ·rename_i hn
   rcases List.mem_cons.1 hx with rfl | hx
   ·exact Decidable.of_not_not fun h=>hn ⟨hd,h⟩
   ·exact chk2_none_form h x hx hd
theorem chk2_some {tl:List Cl}:∀ {l:List Cl} {p:Int×Int},chk2 tl l=some p→p.2≠0
 | [],_,h=>by cases h
 | y::r,p,h=>by
  unfold chk2 at h;split at h
  ·rename_i hn; cases h; exact hn.2
  ·exact chk2_some h
theorem canon_sides (l:List Cl):∀ c∈canonC l,c.sides.Pairwise fun a b=>a.cell≤b.cell:=fun c hc=>by
 obtain ⟨d,_,rfl⟩:=List.mem_map.1 hc;exact sortBy_srt d.sides
theorem rt_of {l:List Cl}(h:(checkC l).2=0):Rt (canonC l):=by
 have h1:=check_ne h;obtain ⟨h2,h3,h4⟩:=chk1_none_form h1;have ht:=tabC_strict h2;have h5:l.length≤4000:=check_len h;refine⟨by rw[canonC_length]; exact h5,h2,h3,fun x hx=>fm_of (by rw[← ht]; exact h4 x hx) (canon_sides l x hx),?_⟩;have h6:chk2 (tabC l) (canonC l)=none:=by
  unfold checkC at h;rw[if_neg oM,h1] at h;cases hc:chk2 (tabC l) (canonC l) with
  | none=>rfl
  | some p =>
   rw[hc] at h;exact absurd h (chk2_some hc)
 rw[ht] at h6;exact chk2_none_form h6
theorem perm_sumI {l m:List Int}(h:l.Perm m):l.sum=m.sum:=by
 induction h with
 | nil=>rfl
 | cons x _ ih=>simp[ih]
 | swap x y l=>simp; omega
 | trans _ _ ih1 ih2=>exact ih1.trans ih2
theorem sortBy_perm {α:Type}{key:α→Int}(l:List α):(sortBy key l).Perm l:=by
 have hi:∀ (x:α) (l:List α),(ins key x l).Perm (x::l):=by
  intro x l;induction l with
  | nil=>exact .refl _
  | cons y r ih =>
   unfold ins;split
   ·exact .refl _
   ·exact (ih.cons y).trans (.swap x y r)
 induction l with
 | nil=>exact .refl _
 | cons x r ih=>exact (hi x _).trans (ih.cons x)
structure Nm (l:List Cl)(k:Int):Prop where
 inj:∀ a∈l,∀ b∈l,mixC a.id k=mixC b.id k→a=b
 pos:∀ a∈l,0<mixC a.id k
section
variable {l:List Cl}(h:Rt l){k:Int}(hn:Nm l k)(t:Int)
include h hn
omit hn in
omit h hn in
omit h hn in
omit h hn in
omit hn in
omit h hn in
end
def part (l:List Cl)(p:Int→Bool):List Cl:=l.filter fun c=>p c.id
theorem Rt.same {l:List Cl}(h:Rt l){a b:Cl}(ha:a∈l)(hb:b∈l)(e:a.id=b.id):a=b:=by
 have f1:=h.find ha;have f2:=h.find hb;rw[e,f2] at f1;injection f1 with f1
 exact f1.symm
def ShC (a b:Cl):Prop:=a.id=b.id∧a.dim=b.dim∧a.sides.Perm b.sides
def ShL (l m:List Cl):Prop:=∃ l1:List Cl,l1.Perm l∧All2 ShC l1 m
end Go.Proofs.YtackilpikhkijaaGreatDoor
namespace Go.Sy
open Go
structure Md where
 ro:Option Nat
 ds:List Deferred
def wf (ro:Option Nat):Fence:={ fn:=fun _=>True,depth:=none,alive:=false,round:=ro }
def bare (a:Act):Act:={ a with defers:=[] }
theorem bare_eval (a:Act):(bare a).eval=a.eval:=by funext x; cases x <;> rfl
theorem bare_put (a:Act)(d:Option Tmp)(v:Value):bare (a.put d v)=(bare a).put d v:=by cases d <;> rfl
theorem put_defers (a:Act)(d:Option Tmp)(v:Value):(a.put d v).defers=a.defers:=by cases d <;> rfl
def Okd (ds:List Deferred)(N:Nat)(f:Fr)(a:Act):Prop:=a.defers=ds∧Ok N f (bare a)
section
variable {P:Program}{M:Md}{N:Nat}{E:World}{Q:Exit→Act→World→Prop}{f f':Fr}{g g':PH}{s s':Own}{ops:Array Oper}
theorem Okd.put {ds:List Deferred}{a:Act}(h:Okd ds N f a){d:Nat}(hlt:d<N)(v:Value):Okd ds N ((d,v)::f) (a.put (some d) v):=⟨h.1,by rw[bare_put]; exact h.2.put hlt v⟩
theorem Okd.sub {ds:List Deferred}{a:Act}(h:Okd ds N f a)(hs:Sub f' f):Okd ds N f' a:=⟨h.1,h.2.sub hs⟩
theorem Okd.ev {ds:List Deferred}{a:Act}(h:Okd ds N f a){x:Operand}{v:Value}(hx:Sy.ev f x=some v):a.eval x=v:=by rw[← bare_eval]; exact h.2.ev hx
def XC (P:Program)(M:Md)(N:Nat)(E:World)(c:Code)(Q:Exit→Act→World→Prop)(f:Fr)(g:PH)(s:Own):Prop:=∀ a w,Okd M.ds N f a→At E g s w→c.wpIn (wf M.ro) 0 P Q a w
def XT (M:Md)(N:Nat)(E:World)(Q:Exit→Act→World→Prop)(e:Exit)(f:Fr)(g:PH)(s:Own):Prop:=∀ a w,Okd M.ds N f a→At E g s w→Q e a w
def XL (P:Program)(M:Md)(N:Nat)(E:World)(ops:Array Oper)(Q:Exit→Act→World→Prop)(l:List Oper)(f:Fr)(g:PH)(s:Own):Prop:=∀ a w,Okd M.ds N f a→At E g s w→wpListIn (wf M.ro) 0 P ops Q l a w
def XO (P:Program)(M:Md)(N:Nat)(E:World)(o:Oper)(f:Fr)(g:PH)(s:Own)(K:Value→PH→Own→Prop):Prop :=
 ∀ a w,Okd M.ds N f a→At E g s w→∀ (Q:Exit→Act→World→Prop) (next:Act→World→Prop),
  (∀ v g' s' w',K v g' s'→At E g' s' w'→next (a.put o.dst v) w')→o.wpIn (wf M.ro) 0 P a w next Q
theorem XC.to {c:Code}(h:∀ w,At E g s w→At E g' s' w)(hc:XC P M N E c Q f g' s'):XC P M N E c Q f g s:=fun a w ha hw=>hc a w ha (h w hw)
theorem XT.drop {e:Exit}(hs:s'.Sublist s)(h:XT M N E Q e f g s'):XT M N E Q e f g s:=fun a w ha hw=>h a w ha (hw.sublist hs)
theorem XL.to {l:List Oper}(h:∀ w,At E g s w→At E g' s' w)(hc:XL P M N E ops Q l f g' s'):XL P M N E ops Q l f g s:=fun a w ha hw=>hc a w ha (h w hw)
theorem XC.facts {c:Code}(h:(∃ w,At E g s w)→XC P M N E c Q f g s):XC P M N E c Q f g s:=fun a w ha hw=>h ⟨w,hw⟩ a w ha hw
theorem XL.facts {l:List Oper}(h:(∃ w,At E g s w)→XL P M N E ops Q l f g s):XL P M N E ops Q l f g s:=fun a w ha hw=>h ⟨w,hw⟩ a w ha hw
theorem XT.facts {e:Exit}(h:(∃ w,At E g s w)→XT M N E Q e f g s):XT M N E Q e f g s:=fun a w ha hw=>h ⟨w,hw⟩ a w ha hw
theorem XC.skip (h:XT M N E Q .normal f g s):XC P M N E .skip Q f g s:=fun a w ha hw=>wpIn_skip (h a w ha hw)
theorem XC.ret (h:XT M N E Q .ret f g s):XC P M N E .ret Q f g s:=fun a w ha hw=>wpIn_ret (h a w ha hw)
theorem XC.exit {id:Nat}(h:XT M N E Q (.exit id) f g s):XC P M N E (.exit id) Q f g s:=fun a w ha hw=>wpIn_exit (h a w ha hw)
theorem XC.seq {x y:Code}(h:XC P M N E x (Exit.then (y.wpIn (wf M.ro) 0 P Q) Q) f g s):XC P M N E (.seq x y) Q f g s:=fun a w ha hw=>wpIn_seq (h a w ha hw)
theorem XC.block {id:Nat}{c:Code}(h:XC P M N E c (Exit.inBlock id Q) f g s):XC P M N E (.block id c) Q f g s:=fun a w ha hw=>wpIn_block (h a w ha hw)
theorem XC.cond {c:Operand}{x y:Code}{t:Bool}(hc:ev f c=some (.bool t))(h:XC P M N E (if t then x else y) Q f g s):XC P M N E (.cond c x y) Q f g s :=
 fun a w ha hw=>wpIn_cond (ha.ev hc) (h a w ha hw)
theorem XC.condT {c:Operand}{x y:Code}(hc:ev f c=some (.bool true))(h:XC P M N E x Q f g s):XC P M N E (.cond c x y) Q f g s:=XC.cond hc h
theorem XC.condF {c:Operand}{x y:Code}(hc:ev f c=some (.bool false))(h:XC P M N E y Q f g s):XC P M N E (.cond c x y) Q f g s:=XC.cond hc h
theorem XC.ifB {c:Operand}{x y:Code}{t:Bool}(hc:ev f c=some (.bool t))(h1:t=true→XC P M N E x Q f g s)(h2:t=false→XC P M N E y Q f g s) :
  XC P M N E (.cond c x y) Q f g s:=by
 cases t
 ·exact XC.condF hc (h2 I)
 ·exact XC.condT hc (h1 I)
theorem XC.ifP {c:Operand}{x y:Code}{p:Prop}[Decidable p](hc:ev f c=some (.bool (decide p)))(h1:p→XC P M N E x Q f g s)(h2:¬ p→XC P M N E y Q f g s) :
  XC P M N E (.cond c x y) Q f g s :=
 XC.ifB hc (fun h=>h1 (of_decide_eq_true h)) (fun h=>h2 (of_decide_eq_false h))
theorem XT.thenN {c:Code}(h:XC P M N E c Q f g s):XT M N E (Exit.then (c.wpIn (wf M.ro) 0 P Q) Q) .normal f g s:=h
theorem XT.thenX {K:Act→World→Prop}{id:Nat}(h:XT M N E Q (.exit id) f g s):XT M N E (Exit.then K Q) (.exit id) f g s:=h
theorem XT.blockN {id:Nat}(h:XT M N E Q .normal f g s):XT M N E (Exit.inBlock id Q) .normal f g s:=h
theorem XT.blockX {id:Nat}(h:XT M N E Q .normal f g s):XT M N E (Exit.inBlock id Q) (.exit id) f g s:=fun a w ha hw=>by simpa [Exit.inBlock] using h a w ha hw
def AgainX {ι:Type}(ds:List Deferred)(N:Nat)(E:World)(F:ι→Fr)(G:ι→PH)(S:ι→Own)(J:ι→Prop)(μ:ι→Nat)(i:ι)(a:Act)(w:World):Prop :=
 ∃ j,Okd ds N (F j) a∧At E (G j) (S j) w∧J j∧μ j<μ i
theorem XT.again {ι:Type}{F:ι→Fr}{G:ι→PH}{S:ι→Own}{J:ι→Prop}{μ:ι→Nat}{i:ι}(j:ι)(hf:Sub (F j) f)(hg:G j=g)(hs:S j=s)(hJ:J j)(hμ:μ j<μ i) :
  XT M N E (Exit.then (AgainX M.ds N E F G S J μ i) Q) .normal f g s:=fun _ _ ha hw=>⟨j,ha.sub hf,by rw[hg,hs]; exact hw,hJ,hμ⟩
theorem XC.loop {ι:Type}{c:Code}(F:ι→Fr)(G:ι→PH)(S:ι→Own)(J:ι→Prop)(μ:ι→Nat)(i:ι)(hf:Sub (F i) f)(hg:G i=g)(hs:S i=s)(h0:J i)
  (round:∀ i,J i→XC P M N E c (Exit.then (AgainX M.ds N E F G S J μ i) Q) (F i) (G i) (S i)):XC P M N E (.loop c) Q f g s:=by
 intro a w ha hw;have key:∀ n,∀ (i:ι) (a:Act) (w:World),μ i=n→Okd M.ds N (F i) a→At E (G i) (S i) w→J i→∀ (b:Frame) (k:List Item) (cs:List Frame),b.roundOf=(wf M.ro).round→(wf M.ro).fn b.fn→(wf M.ro).room (cs.length+1+0) →
   ∃ e a' w',Q e a' w'∧ArrivesIn (Machine.fenced P (wf M.ro)) P (lone (b.atR a (.code c :: .inLoop c::k)) cs w) b k cs e a' w':=by
  intro n;induction n using Nat.strongRecOn with
  | _ n ih =>
   intro i a w hn ha hI hJ b k cs hro hb hr;obtain ⟨e,a₁,w₁,hq,harr⟩:=round i hJ a w ha hI b (.inLoop c::k) cs hro hb hr;cases e with
   | normal =>
    obtain ⟨j,hok,hI₁,hJ₁,hlt⟩:=hq;obtain ⟨e₂,a₂,w₂,hq₂,harr₂⟩:=ih (μ j) (hn ▸ hlt) j a₁ w₁ rfl hok hI₁ hJ₁ b k cs hro hb hr;exact⟨e₂,a₂,w₂,hq₂,.of_steps (StepsIn.trans harr (.one (fenced_calm hb hr I) stepR_inLoop)) harr₂⟩
   | exit id=>exact⟨_,a₁,w₁,hq,.pass (x:=.inLoop c) rfl (fun _ _=>.inl (by simp)) harr⟩
   | goto l=>exact⟨_,a₁,w₁,hq,.pass (x:=.inLoop c) rfl (fun _ _=>.inl (by simp)) harr⟩
   | ret=>exact⟨_,a₁,w₁,hq,.pass (x:=.inLoop c) rfl (fun _ _=>.inl (by simp)) harr⟩
   | panic ch=>exact⟨_,a₁,w₁,hq,.pass (x:=.inLoop c) rfl (fun _ _=>.inl (by simp)) harr⟩
   | outgrown=>exact⟨_,a₁,w₁,hq,.pass (x:=.inLoop c) rfl (fun _ _=>.inl (by simp)) harr⟩
 intro b k cs hro hb hr;obtain ⟨e,a',w',hq,harr⟩:=key _ i a w rfl (ha.sub hf) (by rw[hg,hs]; exact hw) h0 b k cs hro hb hr;exact⟨e,a',w',hq,.of_steps (.one (fenced_calm hb hr I) stepR_loop) harr⟩
theorem XC.region {id:Nat}(h:XL P M N E ops Q ops.toList f g s):XC P M N E (.region id ops false) Q f g s:=fun a w ha hw=>wpIn_region_list (h a w ha hw)
theorem XL.nil (h:XT M N E Q .normal f g s):XL P M N E ops Q [] f g s:=fun a w ha hw=>h a w ha hw
theorem SO.xo {o:Oper}{K:Value→PH→Own→Prop}(hno:∀ c,o.op ≠ .defer c)(h:SO P N E o f g s K):XO P M N E o f g s K:=by
 intro a w ha hw Q next hn;refine⟨fun _ _=>trivial,?_⟩;rw[Oper.semAt_eq _ _ _ hno];have h1:=h (bare a) w ha.2 hw (fun _ _ _=>False) (fun a' w'=>a'.defers=[]∧∃ v g' s',a'=(bare a).put o.dst v∧K v g' s'∧At E g' s' w') (fun v g' s' w' hK hw'=>⟨put_defers _ _ _,v,g',s',rfl,hK,hw'⟩);unfold Oper.wp at h1;rw[bare_eval] at h1;have key:∀ v w',(((bare a).put o.dst v).defers=[]∧∃ v' g' s',(bare a).put o.dst v=(bare a).put o.dst v'∧K v' g' s'∧At E g' s' w')→next (a.put o.dst v) w':=by
  rintro v w' ⟨_,v',g',s',he,hK,hw'⟩;have:a.put o.dst v=a.put o.dst v':=by
   cases hd:o.dst with
   | none=>rfl
   | some d =>
    rw[hd] at he;have h2:=congrArg Act.tmps he;cases a;simp only[Act.put,bare] at h2 ⊢;rw[h2]
  rw[this];exact hn v' g' s' w' hK hw'
 generalize (execOp a.eval o).run P w=r at h1;cases r with
 | ok n w' =>
  cases n <;> simp only[Oper.upon] at h1 <;> first | exact h1.elim | skip
  ·exact key _ _ h1
  ·exact key _ _ h1
  ·rename_i f' args;exact⟨fun h=>(by cases h),(CallsIn.more (n:=0) ((callsIn_wide (n:=0)).2 (Calls.mono h1 (fun e w'' he=>by cases e with | returned v=>exact key _ _ he | panicked c=>exact he.elim | outgrown=>obtain ⟨_,_,h2⟩:=he; exact h2.elim))) (Nat.zero_le _))⟩
  ·exact absurd h1.1 (by rw[put_defers]; simp)
  ·exact⟨fun h=>(by cases h),fun c cs _=>let ⟨v,w'',r,st⟩:=h1 c cs; ⟨v,w'',key _ _ r,stepsIn_wide.2 st⟩⟩
 | halt x w'=>cases x <;> simp only[Oper.upon] at h1 <;> exact h1.elim
theorem XL.step {o:Oper}{l:List Oper}{K:Value→PH→Own→Prop}(hg:Gd N ops f o true)(ho:XO P M N E o f g s K)
  (h:∀ v g' s' a,K v g' s'→Okd M.ds N f a→∃ f',Okd M.ds N f' (a.put o.dst v)∧XL P M N E ops Q l f' g' s'):XL P M N E ops Q (o::l) f g s:=by
 intro a w ha hw;unfold wpListIn;have hwt:Region.wanted o (yielded ops a.tmps)=true:=hg (bare a) ha.2;rw[if_pos hwt];refine ho a w ha hw Q _ fun v g' s' w' hK hw'=>?_;obtain ⟨f',hf',hn⟩:=h v g' s' a hK ha;exact hn _ _ hf' hw'
theorem XL.x {d:Nat}{op:Op}{ty:TypeId}{pos:String}{af:Array Edge}{l:List Oper}{K:Value→PH→Own→Prop}(ho:XO P M N E ⟨some d,op,ty,pos,af,none⟩ f g s K)(hd:d<N)
  (h:∀ v g' s',K v g' s'→XL P M N E ops Q l ((d,v)::f) g' s'):XL P M N E ops Q (⟨some d,op,ty,pos,af,none⟩::l) f g s :=
 XL.step (Gd.none rfl) ho fun v g' s' _ hK ha=>⟨_,ha.put hd v,h v g' s' hK⟩
theorem XL.go {d:Nat}{op:Op}{ty:TypeId}{pos:String}{af:Array Edge}{gd:Option (Nat×Bool)}{l:List Oper}{K:Value→PH→Own→Prop}(hg:Gd N ops f ⟨some d,op,ty,pos,af,gd⟩ true)(ho:SO P N E ⟨some d,op,ty,pos,af,gd⟩ f g s K)(hd:d<N)
  (h:∀ v g' s',K v g' s'→XL P M N E ops Q l ((d,v)::f) g' s') (hno:∀ c,op ≠ .defer c:=by intro _ h; cases h):XL P M N E ops Q (⟨some d,op,ty,pos,af,gd⟩::l) f g s :=
 XL.step hg (ho.xo hno) fun v g' s' _ hK ha=>⟨_,ha.put hd v,h v g' s' hK⟩
theorem XL.o {d:Nat}{op:Op}{ty:TypeId}{pos:String}{af:Array Edge}{l:List Oper}{K:Value→PH→Own→Prop}(ho:SO P N E ⟨some d,op,ty,pos,af,none⟩ f g s K)(hd:d<N)
  (h:∀ v g' s',K v g' s'→XL P M N E ops Q l ((d,v)::f) g' s') (hno:∀ c,op ≠ .defer c:=by intro _ h; cases h):XL P M N E ops Q (⟨some d,op,ty,pos,af,none⟩::l) f g s :=
 XL.go (Gd.none rfl) ho hd h hno
theorem XL.on {op:Op}{ty:TypeId}{pos:String}{af:Array Edge}{l:List Oper}{K:Value→PH→Own→Prop}(ho:SO P N E ⟨none,op,ty,pos,af,none⟩ f g s K)
  (h:∀ v g' s',K v g' s'→XL P M N E ops Q l f g' s') (hno:∀ c,op ≠ .defer c:=by intro _ h; cases h):XL P M N E ops Q (⟨none,op,ty,pos,af,none⟩::l) f g s :=
 XL.step (Gd.none rfl) (ho.xo hno) fun v g' s' _ hK ha=>⟨f,ha,h v g' s' hK⟩
theorem XL.gq {d:Nat}{op:Op}{ty:TypeId}{pos:String}{af:Array Edge}{gd:Option (Nat×Bool)}{l:List Oper}{v:Value}(hg:Gd N ops f ⟨some d,op,ty,pos,af,gd⟩ true)(hq:SQ P N E ⟨some d,op,ty,pos,af,gd⟩ f g s v)(hd:d<N)
  (h:XL P M N E ops Q l ((d,v)::f) g s) (hno:∀ c,op ≠ .defer c:=by intro _ h; cases h):XL P M N E ops Q (⟨some d,op,ty,pos,af,gd⟩::l) f g s :=
 XL.go hg hq.so hd (fun v' g' s' ⟨e1,e2,e3⟩=>by subst e1; subst e2; subst e3; exact h) hno
theorem XL.q {d:Nat}{op:Op}{ty:TypeId}{pos:String}{af:Array Edge}{l:List Oper}{v:Value}(hq:SQ P N E ⟨some d,op,ty,pos,af,none⟩ f g s v)(hd:d<N)
  (h:XL P M N E ops Q l ((d,v)::f) g s) (hno:∀ c,op ≠ .defer c:=by intro _ h; cases h):XL P M N E ops Q (⟨some d,op,ty,pos,af,none⟩::l) f g s:=XL.gq (Gd.none rfl) hq hd h hno
theorem XL.gu {d:Nat}{op:Op}{ty:TypeId}{pos:String}{af:Array Edge}{gd:Option (Nat×Bool)}{l:List Oper}{v:Value}(hg:Gd N ops f ⟨some d,op,ty,pos,af,gd⟩ true)(hq:SU P N ⟨some d,op,ty,pos,af,gd⟩ f v)(hd:d<N)
  (h:XL P M N E ops Q l ((d,v)::f) g s) (hno:∀ c,op ≠ .defer c:=by intro _ h; cases h):XL P M N E ops Q (⟨some d,op,ty,pos,af,gd⟩::l) f g s:=XL.gq hg hq.sq hd h hno
theorem XL.u {d:Nat}{op:Op}{ty:TypeId}{pos:String}{af:Array Edge}{l:List Oper}{v:Value}(hq:SU P N ⟨some d,op,ty,pos,af,none⟩ f v)(hd:d<N)
  (h:XL P M N E ops Q l ((d,v)::f) g s) (hno:∀ c,op ≠ .defer c:=by intro _ h; cases h):XL P M N E ops Q (⟨some d,op,ty,pos,af,none⟩::l) f g s:=XL.q hq.sq hd h hno
theorem XL.off {d:Nat}{op:Op}{ty:TypeId}{pos:String}{af:Array Edge}{gd:Option (Nat×Bool)}{l:List Oper}(hg:Gd N ops f ⟨some d,op,ty,pos,af,gd⟩ false)(hd:d<N)
  (h:XL P M N E ops Q l ((d,undef)::f) g s):XL P M N E ops Q (⟨some d,op,ty,pos,af,gd⟩::l) f g s:=by
 intro a w ha hw;unfold wpListIn;have hwt:Region.wanted (⟨some d,op,ty,pos,af,gd⟩:Oper) (yielded ops a.tmps)=false:=hg (bare a) ha.2;rw[if_neg (by rw[hwt]; simp)];exact⟨fun _ _=>trivial,h _ _ (ha.put hd undef) hw⟩
theorem At.obj {w:World}{b i:Nat}{o o':Obj}(h:At E g s w)(hi:s[i]?=some (pt b o)):At E g (s.set i (pt b o')) (w.putObj b o'):=by
 have h2:=h.fresh _ (List.mem_of_getElem? hi) b rfl;refine h.turn hi I ⟨I,lR _⟩ I (by simp[World.putObj]) (fun k _ hk=>World.putObj_heap_other (fun e=>hk (by simp[pt,e]))) ?_ (fun b' hb'=>?_)
 ·simp only[pt,Option.bind_some];exact World.putObj_heap_same h2.2
 ·simp only[pt,Option.some.injEq] at hb';subst hb';exact⟨by simpa [World.putObj] using h2.2,.inl I⟩
theorem At.here {w:World}{b i:Nat}{o:Obj}(h:At E g s w)(hi:s[i]?=some (pt b o)):w.heap[b]?=some o:=by
 have:=h.own _ (List.mem_of_getElem? hi);simpa [pt] using this
end
def YieldC (P:Program)(E:World)(l:Nat)(args:Array Value)(g:PH)(s:Own)(R:Value→PH→Own→Prop):Prop :=
 ∀ w,At E g s w→YieldAt Fence.wide 0 P l args w fun e w'=>∃ v g' s',e = .returned v∧At E g' s' w'∧R v g' s'
def Gives (P:Program)(E:World)(gf:FuncId)(lb:List Value){α:Type}(encs:α→List Value)(xs:List α)(g0:PH):Prop :=
 ∀ (l:Nat) (ι:Type) (G:ι→PH) (S:ι→Own) (J:List α→ι→Prop) (i0:ι),J [] i0→(∀ pre i,J pre i→Le g0 (G i)) →
  (∀ pre x suf i sx,xs=pre++x::suf→J pre i→YieldC P E l (encs x).toArray (G i) (S i++sx) (fun v g' s'=>v = .bool true∧∃ j,J (pre++[x]) j∧g'=G j∧s'=S j++sx)) →
  ∀ sx,Ctr P E gf (.func (.yield l) #[] #[]::lb).toArray (G i0) (S i0++sx) (fun _ g' s'=>∃ j,J xs j∧g'=G j∧s'=S j++sx)
section
variable {P:Program}{M:Md}{N:Nat}{E:World}{Q:Exit→Act→World→Prop}{f:Fr}{g:PH}{s:Own}{dst:Option Tmp}{ty:TypeId}{pos:String}{af:Array Edge}{gd:Option (Nat×Bool)}
theorem XO.yield {x:Operand}{l:List Operand}{tys:Array TypeId}{vs:List Value}{k:Nat}{R:Value→PH→Own→Prop}(hx:ev f x=some (.func (.yield k) #[] #[]))(hl:evs f l=some vs)(hY:YieldC P E k vs.toArray g s R) :
  XO P M N E ⟨dst,.call ⟨.value x,l.toArray,tys⟩,ty,pos,af,gd⟩ f g s R:=by
 intro a w ha hw Q next hn;refine⟨fun _ _=>trivial,?_⟩;rw[Oper.semAt_eq _ _ _ (fun _ h=>by cases h)];obtain ⟨fn,tmps,assign,body,hy,hR⟩:=hY w hw;have h1:a.eval x = .func (.yield k) #[] #[]:=ha.ev hx;have h2:l.map a.eval=vs:=by have:=ha.2.evs hl; rwa [bare_eval] at this
 have h3:(execOp a.eval ⟨dst,.call ⟨.value x,l.toArray,tys⟩,ty,pos,af,gd⟩).run P w = .ok (.round k fn tmps assign body) w:=by
  simp only[execOp,resolve,h1,List.map_toArray,h2];simp[Deferred.ofValue,Sem.run_bind,invoke,hy]
 rw[h3];refine⟨fun h=>(by cases h),RoundIn.mono hR fun e w' he=>?_⟩;obtain ⟨v,g',s',rfl,hat,hRR⟩:=he;exact hn v g' s' w' hRR hat
theorem Ctr.ofX {n:FuncId}{fn:Func}{c:Code}{args:List Value}{R:Value→PH→Own→Prop}
  (hf:P.funcs[n]?=some fn) (hb:fn.body=some c) (hN:fn.ntmps=N) (hle:args.length≤N)
  (h:XC P ⟨none,[]⟩ N E c (bodyPostM (wf none) 0 P fn (Post E R)) (entryFr 0 args) g s):Ctr P E n args.toArray g s R:=by
 intro w hw;refine (callsIn_wide (n:=0)).1 (callsIn_of_wp_marks (F:=wf none) hf hb trivial (h _ w ⟨I,⟨I,?_,fun t v hv=>?_⟩⟩ hw) I)
 ·simp[bare,hN]; omega
 ·obtain ⟨_,h2⟩:=get?_entryFr args 0 t v hv;have hlt:t<args.length:=(List.getElem?_eq_some_iff.1 (by simpa using h2)).1;simp only[Nat.sub_zero] at h2;obtain ⟨_,h3⟩:=List.getElem?_eq_some_iff.1 h2;simp[bare,Array.getElem?_append,hlt,h3]
theorem XT.leave0 {fn:Func}{R:Value→PH→Own→Prop}{e:Exit}(he:e = .ret∨e = .normal)(h:ST N E (bodyPost P fn (Post E R)) e f g s):XT ⟨none,[]⟩ N E (bodyPostM (wf none) 0 P fn (Post E R)) e f g s:=by
 intro a w ha hw;have h1:=h (bare a) w ha.2 hw
 rcases he with rfl | rfl
 all_goals
  obtain ⟨_,v,h2,h3⟩:=h1;show LeavesInM _ _ _ _ _ _ a.defers _ _;rw[ha.1];exact⟨v,h2,h3⟩
theorem XT.leave1 {fn:Func}{R:Value→PH→Own→Prop}{e:Exit}{D:Nat}(he:e = .ret∨e = .normal)(h:ST N E (bodyPost P fn (Post E R)) e f g s) :
  XT ⟨none,[⟨.collected D,#[]⟩]⟩ N E (bodyPostM (wf none) 0 P fn (Post E R)) e f g (pt D (.deferred (some []))::s):=by
 intro a w ha hw;have hD:w.heap[D]?=some (.deferred (some [])):=At.here (i:=0) hw rfl;have hw2:=(At.obj (i:=0) (o':=.deferred none) hw rfl).sublist (List.sublist_cons_self _ _);have h1:=h (bare a) _ ha.2 hw2
 rcases he with rfl | rfl
 all_goals
  obtain ⟨_,v,h2,h3⟩:=h1;show LeavesInM _ _ _ _ _ _ a.defers _ _;rw[ha.1];exact⟨by simp,.inl ⟨D,_,I,run_takeDeferred hD,v,h2,h3⟩⟩
theorem params2 {a:Act}{t t':Nat}{u u':Value}(h:Ok N f (bare a))(ht:t<N)(ht':t'<N):Ok N ((t',u')::(t,u)::f) { tmps:=((#[t,t']:Array Tmp).zip [u,u'].toArray).foldl (fun t (p,v)=>t.setIfInBounds p v) a.tmps,defers:=[] }:=by
 have:=(h.put ht u).put ht' u';simpa [Act.put,bare] using this
def RoundEnd {α ι:Type}(E:World)(G:ι→PH)(S:ι→Own)(J:List α→ι→Prop)(pre:List α)(x:α)(sx:Own):Exit→Act→World→Prop:=fun e _ w'=>e = .normal∧∃ j,At E (G j) (S j++sx) w'∧J (pre++[x]) j
def AssignEnd {N:Nat}(E:World)(g:PH)(s:Own)(fb:Fr):Exit→Act→World→Prop:=fun e a' w'=>e = .normal∧Okd [] N fb a'∧At E g s w'
theorem XT.roundEnd {α ι:Type}{G:ι→PH}{S:ι→Own}{J:List α→ι→Prop}{pre:List α}{x:α}{sx:Own}(j:ι)(hg:G j=g)(hs:S j++sx=s)(hj:J (pre++[x]) j):XT M N E (RoundEnd E G S J pre x sx) .normal f g s:=fun _ _ _ hw=>⟨rfl,j,by rw[hg,hs]; exact hw,hj⟩
theorem XT.assignEnd {fb:Fr}{ro:Option Nat}(hf:Sub fb f):XT ⟨ro,[]⟩ N E (AssignEnd (N:=N) E g s fb) .normal f g s:=fun _ _ ha hw=>⟨rfl,ha.sub hf,hw⟩
theorem XC.rangeFunc {α ι:Type}{gop:Operand}{ps:Array Tmp}{assign body:Code}{gf:FuncId}{lb:List Value}{encs:α→List Value}{xs:List α}{g0:PH}(G:ι→PH)(S:ι→Own)(J:List α→ι→Prop)(i0:ι)(sx0:Own)(fa:α→Fr)(fb:List α→α→ι→Fr)
  (hro:M.ro=none) (hg:ev f gop=some (.func (.func gf) #[] lb.toArray)) (eg:∀ args w,(callFunc gf args).run P w = .ok (.enter gf args) w) (hps:∀ x,(encs x).length=ps.size)
  (hG:G i0=g) (hS:S i0++sx0=s) (hseq:Gives P E gf lb encs xs g0) (hmono:∀ pre i,J pre i→Le g0 (G i)) (h0:J [] i0)
  (hfa:∀ x a,Ok N f (bare a)→Ok N (fa x) { tmps:=(ps.zip (encs x).toArray).foldl (fun t (p,v)=>t.setIfInBounds p v) a.tmps,defers:=[] })
  (hassign:∀ l pre x i sx,J pre i→XC P ⟨some l,[]⟩ N E assign (AssignEnd (N:=N) E (G i) (S i++sx) (fb pre x i)) (fa x) (G i) (S i++sx))
  (hbody:∀ l pre x suf i sx,xs=pre++x::suf→J pre i→XC P ⟨some l,[]⟩ N E body (RoundEnd E G S J pre x sx) (fb pre x i) (G i) (S i++sx))
  (hdone:∀ D j,J xs j→XT ⟨none,⟨.collected D,#[]⟩::M.ds⟩ N E Q .normal f (G j) (pt D (.deferred (some []))::(S j++sx0))):XC P M N E (.rangeFunc gop ps assign body) Q f g s:=by
 subst hG hS;intro a w ha hw;rw[hro];refine wpIn_rangeFunc ?_;intro fn _;obtain ⟨rec,hrec⟩:∃ rec:LoopState→Option Code→Loop,rec=fun st pe=>{ state:=st,pending:=pe,fn,tmps:=a.tmps,params:=ps,assign,body,defers:=w.heap.size }:=⟨_,rfl⟩;obtain ⟨L,hL⟩:∃ L,L=w.heap.size+1:=⟨_,rfl⟩;obtain ⟨D,hD⟩:∃ D,D=w.heap.size:=⟨_,rfl⟩;obtain ⟨W1,hW1⟩:∃ W1,(w.alloc (.deferred (some []))).alloc (.loop (rec .ready none))=W1:=⟨_,rfl⟩;have hA:At E (G i0) (pt L (.loop (rec .ready none))::pt D (.deferred (some []))::(S i0++sx0)) W1:=by
  rw[← hW1,hL,hD];have h1:At E (G i0) (pt w.heap.size (.deferred (some []))::(S i0++sx0)) (w.alloc (.deferred (some []))):=hw.alloc (e:=pt w.heap.size (.deferred (some []))) rfl rfl;have h2:=h1.alloc (e:=pt (w.alloc (.deferred (some []))).heap.size (.loop (rec .ready none))) rfl rfl;rw[World.size_alloc] at h2;exact h2
 obtain ⟨S2,hS2⟩:∃ S2:ι→Own,S2=fun i=>S i++(pt L (.loop (rec .ready none))::pt D (.deferred (some []))::sx0):=⟨_,rfl⟩;have hA2:At E (G i0) (S2 i0++[]) W1:=by
  rw[hS2,List.append_nil];dsimp only;refine hA.perm ?_;have h1:(pt L (.loop (rec .ready none))::pt D (.deferred (some []))::(S i0++sx0))=[pt L (.loop (rec .ready none)),pt D (.deferred (some []))]++(S i0++sx0):=rfl;have h2:S i0++(pt L (.loop (rec .ready none))::pt D (.deferred (some []))::sx0)=S i0++([pt L (.loop (rec .ready none)),pt D (.deferred (some []))]++sx0):=rfl;rw[h1,h2,← List.append_assoc,← List.append_assoc];exact List.perm_append_comm.append_right _
 refine⟨L,[{ target:=.collected D,args:=#[] }],W1,{ target:=.fn (.func gf) lb.toArray,args:=#[.func (.yield L) #[] #[]] },W1,gf,(.func (.yield L) #[] #[]::lb).toArray,W1,?_,?_,fun _ _=>trivial,?_,fun h=>(by cases h),?_⟩
 ·rw[← hW1,hrec,hL,hD]; exact run_enterLoop_outer _ _ _ _ _
 ·have h1:a.eval gop = .func (.func gf) #[] lb.toArray:=ha.ev hg;simp only[resolve,h1];simp[go_sem]
 ·have:(#[.func (.yield L) #[] #[]]++lb.toArray:Array Value)=(.func (.yield L) #[] #[]::lb).toArray:=by simp
  simp[invoke,go_sem,eg]
 ·refine (callsIn_wide (n:=0 - 1)).2 ((hseq L ι G S2 J i0 h0 hmono ?_ [] W1 hA2).mono ?_)
  ·intro pre x suf i sx hxs hJ W hW;rw[hS2] at hW;simp only[List.append_assoc,List.cons_append] at hW;have hlen:(S i).length=(S i).length:=rfl;have gl:∀ (i:ι) (u u':Ent) (r:Own),(S i++u::u'::r)[(S i).length]?=some u:=fun i u u' r=>by simp
   have hl:=hW.here (gl i _ _ _);have hy:=run_yield (P:=P) (args:=(encs x).toArray) hl (by rw[hrec]; simpa using hps x);rw[hrec] at hy;refine⟨fn,_,assign,body,hy,roundIn_of_wpIn trivial ?_⟩;refine Code.wpIn_mono (fun e a1 w1 h1=>?_) (hassign L pre x i _ hJ { tmps:=(ps.zip (encs x).toArray).foldl (fun t (p,v)=>t.setIfInBounds p v) a.tmps,defers:=[] } W ⟨I,hfa x a ha.2⟩ hW);obtain ⟨rfl,ha1,hw1⟩:=h1;have hl1:=hw1.here (gl i _ _ _);refine⟨_,run_beginRound hl1 (by rw[hrec]),?_⟩;have hset:∀ (i:ι) (u u' v:Ent) (r:Own),(S i++u::u'::r).set (S i).length v=S i++v::u'::r:=fun i u u' v r=>by simp
   have hw2:=hw1.obj (o':=.loop { rec .ready none with state:=.busy }) (gl i _ _ _);rw[hset] at hw2;refine Code.wpIn_mono (fun e a3 w3 h3=>?_) (hbody L pre x suf i _ hxs hJ a1 _ ha1 hw2);obtain ⟨rfl,j,hw3,hJ3⟩:=h3;have hl3:=hw3.here (gl j _ _ _);have he:=run_endRound (P:=P) none hl3;have hw4:=hw3.obj (o':=.loop { (rec .ready none) with state:=.ready,pending:=none }) (gl j _ _ _);rw[hset] at hw4;refine⟨_,_,he,.bool true,G j,S2 j++sx,I,?_,I,j,hJ3,I,I⟩;rw[hS2];simp only[List.append_assoc,List.cons_append];rw[hrec] at hw4 ⊢;exact hw4
  ·rintro e W2 ⟨v,g',s',rfl,hat,j,hJ,rfl,rfl⟩;rw[hS2,List.append_nil] at hat;have gl:∀ (i:ι) (u u':Ent) (r:Own),(S i++u::u'::r)[(S i).length]?=some u:=fun i u u' r=>by simp
   have hl:=hat.here (gl j _ _ _);have he:=run_endLoop (P:=P) hl (by rw[hrec]; simp);have h2:=hat.obj (o':=.loop { (rec .ready none) with state:=.exhausted }) (gl j _ _ _);have hset:∀ (i:ι) (u u' v:Ent) (r:Own),(S i++u::u'::r).set (S i).length v=S i++v::u'::r:=fun i u u' v r=>by simp
   rw[hset] at h2;have hpn:(rec .ready none).pending=none:=by rw[hrec]
   refine⟨none,_,he.trans (congrArg (fun p=>Result.ok p _) hpn),?_⟩;refine hdone D j hJ _ _ ⟨by rw[← ha.1]; rfl,ha.2⟩ ?_;have h3:=(h2.sublist (s':=S j++pt D (.deferred (some []))::sx0) (by exact (List.Sublist.refl _).append (List.sublist_cons_self _ _))).perm List.perm_middle;exact h3
end
end Go.Sy
namespace Go.Sy
open Go
section
variable {P:Program}{M:Md}{N:Nat}{E:World}{Q:Exit→Act→World→Prop}{f:Fr}{g:PH}{s:Own}{dst:Option Tmp}{ty:TypeId}{pos:String}{af:Array Edge}{gd:Option (Nat×Bool)}
end
end Go.Sy
namespace Go.Sy
open Go
section
variable {P:Program}{M:Md}{N:Nat}{E:World}{Q:Exit→Act→World→Prop}{f:Fr}{g:PH}{s:Own}{dst:Option Tmp}{ty:TypeId}{pos:String}{af:Array Edge}{gd:Option (Nat×Bool)}
end
end Go.Sy
namespace Go.Proofs.YtackilpikhkijaaGreatDoor
open _root_.Go.Proofs.Tryz _root_.Go.Proofs.YtackilpikhkijaaGreatDoor.Tryz
open Go Go.Sy Go.Pl Go.Proofs
set_option maxRecDepth 100000
set_option maxHeartbeats 1000000
end Go.Proofs.YtackilpikhkijaaGreatDoor
namespace Go.Sy
open Go
section
variable {α:Type}{k:Nat}{P:Program}{N:Nat}{E:World}{f:Fr}{g:PH}{s:Own}{dst:Option Tmp}{ty:TypeId}{pos:String}{af:Array Edge}{gd:Option (Nat×Bool)}
theorem SO.makeC {x y:Operand}{t T:TypeId}{bytes n:Nat}{z:Value}(e:Enc α k)(hT:STy P t T k bytes z)(hx:ev f x=some (vi 0))(hy:ev f y=some (vi n))(hb:n * bytes≤140737488355328)(hlen:n≤4611686018427387904) :
  SO P N E ⟨dst,.makeSlice t x y,ty,pos,af,gd⟩ f g s fun v' g' s'=>g=g'∧s'=rowA e T v' []::s :=
 SO.of_run fun ac w ha hw=>by
  obtain ⟨ti,ht1,ht2,ht3,ht4⟩:=hT.info;have hbi:(ti.bytes:Int) * ((n:Nat):Int)≤281474976710656:=by
   rw[ht4,← Int.natCast_mul,Nat.mul_comm]; omega
  have h5:=run_make (P:=P) w t T ti z hT.und ht1 ht2 .i64 .i64 0 n oM oM hbi oM;simp only[Int.toNat_natCast] at h5;rw[ht3] at h5;have hrun:(execOp ac.eval ⟨dst,.makeSlice t x y,ty,pos,af,gd⟩).run P w = .ok (.value (.slice (some ⟨w.heap.size,0,none⟩) 0 n)) (w.alloc (.cells (madeCells z.cells (n * k)) T)):=by
   simp[execOp,ha.ev hx,ha.ev hy,h5]
  have hnew:(w.alloc (.cells (madeCells z.cells (n * k)) T)).heap[w.heap.size]?=some (.cells (madeCells z.cells (n * k)) T (0,0)):=heap_alloc_new w _;refine⟨_,_,g,_,hrun,?_,I,I⟩;cases n with
  | zero =>
   have h6:=hw.emptyRow T k (some ⟨w.heap.size,0,none⟩);have h7:=h6.alloc (e:=pt w.heap.size (.cells (madeCells z.cells (0 * k)) T (0,0))) (o:=.cells (madeCells z.cells (0 * k)) T (0,0)) rfl rfl;exact h7.sublist (List.sublist_cons_self _ _)
  | succ n =>
   have hsz:(madeCells z.cells ((n+1) * k)).size=(n+1) * k:=by simp[madeCells]
   exact hw.alloc (e:=rowA e T (.slice (some ⟨w.heap.size,0,none⟩) 0 (n+1)) []) (o:=.cells (madeCells z.cells ((n+1) * k)) T (0,0)) I ⟨by simp,.inr ⟨_,n,_,I,I,by simp,by unfold maxLen; omega,hsz,by simp⟩⟩
def encB:Enc Int 1:=⟨fun n=>[.int .u8 n],fun _=>rfl,fun _ u hu=>by simp at hu; subst hu; rfl,by decide⟩
def encU:Enc Int 1:=⟨fun n=>[.int .u64 n],fun _=>rfl,fun _ u hu=>by simp at hu; subst hu; rfl,by decide⟩
def byt (l:List Int):List UInt8:=l.map fun n=>UInt8.ofNat n.toNat
def txt (l:List UInt8):Value:=.string ⟨l.toArray⟩
theorem fold_push (l:List Int):∀ s:ByteArray,l.foldl (fun r n=>r.push (UInt8.ofNat n.toNat)) s=⟨s.data++(byt l).toArray⟩:=by
 induction l with
 | nil=>intro s; simp[byt]
 | cons a t ih =>
  intro s;simp only[List.foldl_cons];rw[ih];simp[byt,ByteArray.push]
theorem flat_bytes (l:List Int):l.flatMap encB.enc=l.map (Value.int .u8):=by
 induction l with
 | nil=>rfl
 | cons a t ih=>simp only[List.flatMap_cons,List.map_cons,ih]; rfl
theorem SQ.bytesText {x:Operand}{S D e:TypeId}{p:Option Addr}{c:Nat}{l:List Int}(hs:P.underlying S=some (.slice e))(he:P.underlying e=some (.int .u8))(hd:P.underlying D=some .string)
  (hx:ev f x=some (.slice p l.length c)) (hr:Rd g s (.slice p l.length c) (l.flatMap encB.enc)) :
  SQ P N E ⟨dst,.convert S D x,ty,pos,af,gd⟩ f g s (txt (byt l)):=fun a w ha hw=>by
 have h1:(convert S D (.slice p l.length c)).run P w = .ok (txt (byt l)) w:=by
  rw[run_convert_bytes_string w S D e p l.length c hs he hd];rw[flat_bytes] at hr;cases l with
  | nil =>
   cases p with
   | none=>simp[Conv.bytesToString,txt,byt]; rfl
   | some a =>
    have h2:=run_bytesToString (P:=P) w a 0 c [] (by simp[loadCells]; exact run_loadCellsFrom (P:=P) (w:=w) (b:=a.block) (o:=a.off) 0 0 [] #[] rfl (fun j y hy=>by simp at hy));rw[List.length_nil,h2];rfl
  | cons n t =>
   obtain ⟨q,n',c',he1,hsp,hc0⟩:=hr E w hw 0 (.int .u8 n) rfl;injection he1 with he1 he2 he3
   subst he1;obtain ⟨qb,qo,qs⟩:=q;dsimp only at hsp;subst hsp;have h2:=run_bytesToString (P:=P) w ⟨qb,qo,none⟩ (n::t).length c (n::t) (by
    have:=run_loadCellsFrom (P:=P) (w:=w) (b:=qb) (o:=qo) (n::t).length 0 ((n::t).map (Value.int .u8)) #[] (by simp) (fun j y hy=>by
     obtain ⟨q',n2,c2,he4,_,hc1⟩:=hr E w hw j y hy;injection he4 with he4
     injection he4 with he4
     subst he4;simpa using hc1)
    simpa [loadCells] using this)
   rw[h2,fold_push];simp[txt]
 simp[execOp,ha.ev hx,h1]
theorem txt_list (l:List UInt8):(⟨l.toArray⟩:ByteArray).toList=l:=by rw[ByteArray.toList_eq]
theorem SU.neqT {x y:Operand}{T U:TypeId}{l m:List UInt8}(hx:ev f x=some (txt l))(hy:ev f y=some (txt m)) :
  SU P N ⟨dst,.binOp .neq T x y U,ty,pos,af,gd⟩ f (.bool (decide (l≠m))):=fun ac w ha=>by
 have hg:(eqGuard .neq T x y (txt l) (txt m)).run P w = .ok () w:=by simp[eqGuard,txt]
 have hb:(binOp .neq T (txt l) (txt m)).run P w = .ok (.bool (decide (l≠m))) w:=by
  unfold txt;rw[binOp_string_neq,txt_list,txt_list];by_cases h:l=m <;> simp[h,bne] <;> rfl
 simp only[execOp,ha.ev hx,ha.ev hy,Sem.run_bind,hg,Result.andThen_ok,hb];rfl
end
end Go.Sy
namespace Go.Proofs.YtackilpikhkijaaGreatDoor
open _root_.Go.Proofs.Tryz _root_.Go.Proofs.YtackilpikhkijaaGreatDoor.Tryz
open Go Go.Sy Go.Pl Go.Proofs Go.Shelf
set_option maxRecDepth 100000
set_option maxHeartbeats 1000000
theorem getVi {f:Fr}{t:Nat}{a b:Int}(h:get? f t=some (vi a))(e:a=b):get? f t=some (vi b):=e ▸ h
theorem Tryz.sty182:STy Tryz.prog 182 114 1 8 (.int .u64 0):=⟨underlying182,⟨t114,by kernel_rfl,by kernel_rfl,by kernel_rfl,by kernel_rfl⟩,rfl,by decide⟩
theorem Tryz.sty151:STy Tryz.prog 151 5 1 1 (.int .u8 0):=⟨underlying151,⟨t5,by kernel_rfl,by kernel_rfl,by kernel_rfl,by kernel_rfl⟩,rfl,by decide⟩
def trimZ (l:List Int):List Int:=(l.reverse.dropWhile (· == 0)).reverse
theorem trimZ_drop {m:List Int}(h:0<m.length)(h0:m.getD (m.length - 1) 1=0):trimZ (m.take (m.length - 1))=trimZ m:=by
 rcases List.eq_nil_or_concat m with rfl | ⟨a,x,rfl⟩
 ·simp at h
 ·have hx:x=0:=by simpa [List.getD_eq_getElem?_getD] using h0
  subst hx;simp[trimZ]
theorem trimZ_stop {m:List Int}(h:(decide ((m.length:Int)>0)&&decide (m.getD (m.length - 1) 1=0))=false):trimZ m=m:=by
 rcases List.eq_nil_or_concat m with rfl | ⟨a,x,rfl⟩
 ·rfl
 ·have hx:x≠0:=by simpa [List.getD_eq_getElem?_getD] using h
  simp[trimZ,hx]
theorem norm_spec (E:World)(g:PH)(s:Own)(v:Value)(l:List Int)(hv:SlA encU g v l)(hl:l.length<1099511627776) :
  Ctr Tryz.prog E 182 #[v] g s (fun r g' s'=>g=g'∧s=s'∧SlA encU g r (trimZ l)):=by
 refine Ctr.of (args:=[v]) func182 I ntmps182 (bE I) ?_;refine rZ (aT I (sQ (bK ?_)));refine oP (ι:=Value×List Int) (fun i=>[(0,i.1)]) (fun _=>g) (fun _=>s) (fun i=>SlA encU g i.1 i.2∧trimZ i.2=trimZ l∧i.2.length≤l.length) (fun i=>i.2.length) (v,l) ⟨I,trivial⟩ I I ⟨hv,I,lR _⟩ ?_;rintro ⟨v1,m⟩ ⟨hm,htr,hle⟩;dsimp only at hm htr hle ⊢;obtain ⟨p,c,rfl⟩:=SlA.form hm;have hcap:=(SlA.cap hm).2;have f1:(m.length:Int)>0→(decide ((m.length:Int)>0)&&decide (m.getD (m.length - 1) 1=0))=decide (m.getD (m.length - 1) 1=0):=fun h=>by rw[decide_eq_true h,Bool.true_and]
 have f2:¬ (m.length:Int)>0→(decide ((m.length:Int)>0)&&decide (m.getD (m.length - 1) 1=0))=false:=fun h=>by simp only[h,decide_false,Bool.false_and]
 have hgl:(m.length:Int)>0→m[((m.length:Int) - 1).toNat]?=some (m.getD (m.length - 1) 1):=fun h=>by
  have h1:((m.length:Int) - 1).toNat=m.length - 1:=oM;have h2:m.length - 1<m.length:=oM;rw[h1,List.getD_eq_getElem?_getD,gE h2]; rfl
 have hbs:(m.length:Int)>0→based (.slice p m.length c)=true:=fun h=>SlA.based hm oM;refine sQ ?_;refine SC.cutB 14 ((decide ((m.length:Int)>0)&&decide (m.getD (m.length - 1) 1=0))) ?_ ?_
 ·refine rG (lM I (lU (eN uT182 I) (lU (gR I I) (lM I ?_))));refine sP ?_ ?_
  ·intro h6;refine lY I I I (mV I) (lY I I I (mV I) (lY I I I (eN uT182 I) (lY I I I (sU I I oM) (lY I I I (iA uT182 sizeOf114 I I (hbs h6) oM sL) (SL.gq (gT I I I dC) (eB isAgg114 I (SlA.rd hm) (hgl h6) I) dC (lY I I I (eQ I I) (lU (wT I I) (nL ?_))))))));exact ST.mid1 (by (rw[f1 h6]; rfl)) mI
  ·intro h6;refine lZ I I I (lZ I I I (lZ I I I (lZ I I I (lZ I I I (lZ I I I (lZ I I I (lU (wF I I) (nL ?_))))))));exact ST.mid1 (by (rw[f2 h6]; rfl)) mI
 refine iQ I (fun hc=>?_) (fun hc=>?_)
 ·rw[Bool.and_eq_true,decide_eq_true_iff,decide_eq_true_iff] at hc;obtain ⟨hpos,hlast⟩:=hc;have h1:((m.length:Int) - 1).toNat=m.length - 1:=oM;refine kP (tN (bK (rG (lM I (lM I (lU (eN uT182 I) (lU (sU I I oM) (lU (SU.sliceH uT182 sizeOf114 I I oM oM) (lA I (nL (bN ?_)))))))))));refine gA (sliced p 0 ((m.length:Int) - 1).toNat c 1,m.take (m.length - 1)) ⟨I,trivial⟩ I I ⟨?_,?_,?_⟩ (by dsimp only; rw[List.length_take]; omega)
  ·have:=SlA.cut hm (l:=0) (m:=m.length - 1) (Nat.zero_le _) oM;dsimp only;rw[h1];simpa using this
  ·dsimp only; rw[trimZ_drop oM hlast]; exact htr
  ·dsimp only; rw[List.length_take]; omega
 ·refine xI (tX (tX (bX (tN (sW I (aT I (rE ?_)))))));exact ST.ret1 (.inl I) results182 I ⟨I,I,by rw[← htr,trimZ_stop hc]; exact hm⟩
theorem refTrim_spec (E:World)(g:PH)(s:Own)(v:Value)(l:List Int)(hv:SlA encInt g v l)(hl:l.length<1099511627776) :
  Ctr Tryz.prog E 108 #[v] g s (fun r g' s'=>g=g'∧s=s'∧SlA encInt g r (trimZ l)):=by
 refine Ctr.of (args:=[v]) func108 I ntmps108 (bE I) ?_;refine rZ (aT I (sQ (bK ?_)));refine oP (ι:=Value×List Int) (fun i=>[(0,i.1)]) (fun _=>g) (fun _=>s) (fun i=>SlA encInt g i.1 i.2∧trimZ i.2=trimZ l∧i.2.length≤l.length) (fun i=>i.2.length) (v,l) ⟨I,trivial⟩ I I ⟨hv,I,lR _⟩ ?_;rintro ⟨v1,m⟩ ⟨hm,htr,hle⟩;dsimp only at hm htr hle ⊢;obtain ⟨p,c,rfl⟩:=SlA.form hm;have hcap:=(SlA.cap hm).2;have f1:(m.length:Int)>0→(decide ((m.length:Int)>0)&&decide (m.getD (m.length - 1) 1=0))=decide (m.getD (m.length - 1) 1=0):=fun h=>by rw[decide_eq_true h,Bool.true_and]
 have f2:¬ (m.length:Int)>0→(decide ((m.length:Int)>0)&&decide (m.getD (m.length - 1) 1=0))=false:=fun h=>by simp only[h,decide_false,Bool.false_and]
 have hgl:(m.length:Int)>0→m[((m.length:Int) - 1).toNat]?=some (m.getD (m.length - 1) 1):=fun h=>by
  have h1:((m.length:Int) - 1).toNat=m.length - 1:=oM;have h2:m.length - 1<m.length:=oM;rw[h1,List.getD_eq_getElem?_getD,gE h2]; rfl
 have hbs:(m.length:Int)>0→based (.slice p m.length c)=true:=fun h=>SlA.based hm oM;refine sQ ?_;refine SC.cutB 14 ((decide ((m.length:Int)>0)&&decide (m.getD (m.length - 1) 1=0))) ?_ ?_
 ·refine rG (lM I (lU (eN uT83 I) (lU (gR I I) (lM I ?_))));refine sP ?_ ?_
  ·intro h6;refine lY I I I (mV I) (lY I I I (mV I) (lY I I I (eN uT83 I) (lY I I I (sU I I oM) (lY I I I (iA uT83 zT3 I I (hbs h6) oM sL) (SL.gq (gT I I I dC) (eB iT3 I (SlA.rd hm) (hgl h6) I) dC (lY I I I (eQ I I) (lU (wT I I) (nL ?_))))))));exact ST.mid1 (by (rw[f1 h6]; rfl)) mI
  ·intro h6;refine lZ I I I (lZ I I I (lZ I I I (lZ I I I (lZ I I I (lZ I I I (lZ I I I (lU (wF I I) (nL ?_))))))));exact ST.mid1 (by (rw[f2 h6]; rfl)) mI
 refine iQ I (fun hc=>?_) (fun hc=>?_)
 ·rw[Bool.and_eq_true,decide_eq_true_iff,decide_eq_true_iff] at hc;obtain ⟨hpos,hlast⟩:=hc;have h1:((m.length:Int) - 1).toNat=m.length - 1:=oM;refine kP (tN (bK (rG (lM I (lM I (lU (eN uT83 I) (lU (sU I I oM) (lU (SU.sliceH uT83 zT3 I I oM oM) (lA I (nL (bN ?_)))))))))));refine gA (sliced p 0 ((m.length:Int) - 1).toNat c 1,m.take (m.length - 1)) ⟨I,trivial⟩ I I ⟨?_,?_,?_⟩ (by dsimp only; rw[List.length_take]; omega)
  ·have:=SlA.cut hm (l:=0) (m:=m.length - 1) (Nat.zero_le _) oM;dsimp only;rw[h1];simpa using this
  ·dsimp only; rw[trimZ_drop oM hlast]; exact htr
  ·dsimp only; rw[List.length_take]; omega
 ·refine xI (tX (tX (bX (tN (sW I (aT I (rE ?_)))))));exact ST.ret1 (.inl I) results108 I ⟨I,I,by rw[← htr,trimZ_stop hc]; exact hm⟩
theorem backward_spec (E:World)(g:PH)(s:Own)(v:Value)(hv:v.cells = #[v]) :
  Ctr Tryz.prog E 183 #[v] g s (fun r g' s'=>s=s'∧Le g g'∧∃ b,r = .func (.func 207) #[] #[pp b 0]∧g' b=some (.cells #[v] 182 (0,0))):=by
 refine Ctr.of (args:=[v]) func183 I ntmps183 (bE I) ?_;refine rZ (bW (bO I) fun b1=>?_);refine aT I (rZ (lU (SU.mkFunc I) (aT I (rE ?_))));rw[hv];refine ST.freeze fun g1 hle hb=>?_;exact ST.ret1 (.inl I) results183 I ⟨I,hle,_,I,hb⟩
def revP (l:List Int):List (Nat×Int):=(l.zipIdx.map fun p=>(p.2,p.1)).reverse
theorem revP_length (l:List Int):(revP l).length=l.length:=by simp[revP]
theorem revP_get {l:List Int}{k:Nat}(h:k<l.length):(revP l)[l.length - 1 - k]?=some (k,l[k]):=by
 unfold revP;rw[List.getElem?_reverse (by simp; omega)];simp only[List.length_map,List.length_zipIdx];rw[show l.length - 1 - (l.length - 1 - k)=k by omega];simp[h]
theorem backward_gives (E:World)(g0:PH)(b:Nat)(v:Value)(l:List Int)(hb:g0 b=some (.cells #[v] 182 (0,0)))(hv:SlA encU g0 v l)(hl:l.length<1099511627776) :
  Gives Tryz.prog E 207 [pp b 0] (fun x:Nat×Int=>[vi x.1,.int .u64 x.2]) (revP l) g0:=by
 intro k ι G S J i0 h0 hmono hY sx;obtain ⟨p,c,rfl⟩:=SlA.form hv;refine Ctr.ofX (args:=[.func (.yield k) #[] #[],pp b 0]) func207 I ntmps207 (bE I) ?_;refine XC.seq ?_;refine XC.region ?_;refine XL.q (qL (v:=.slice p l.length c) isAgg182 I (cK (hmono _ _ h0 _ _ hb) I)) dC ?_;refine XL.u (eN uT182 I) dC ?_;refine XL.u (sU I I oM) dC ?_;refine XL.u (aS I) dC ?_;refine XL.nil ?_;refine XT.thenN ?_;refine XC.block ?_;refine XC.loop (ι:=ι×Nat) (fun i=>[(0,.func (.yield k) #[] #[]),(1,pp b 0),(3,vi ((i.2:Int) - 1))]) (fun i=>G i.1) (fun i=>S i.1++sx) (fun i=>i.2≤l.length∧J ((revP l).take (l.length - i.2)) i.1) (fun i=>i.2) (i0,l.length)
  sB rfl rfl ⟨lR _,by simpa using h0⟩ ?_
 rintro ⟨j,n⟩ ⟨hn,hJ⟩;dsimp only at hn hJ ⊢;have hle:=hmono _ _ hJ;refine XC.seq ?_;refine XC.seq ?_;refine XC.region ?_;refine XL.u (mV I) dC ?_;refine XL.u (gQ I I) dC ?_;refine XL.nil ?_;refine XT.thenN ?_;refine XC.ifP I (fun hge=>?_) (fun hge=>?_)
 ·have hn1:n - 1<l.length:=oM;have hv':=SlA.mono hv hle;have hb1:=SlA.based hv' oM;have hgx:l[((n:Int) - 1).toNat]?=some l[n - 1]:=by rw[show ((n:Int) - 1).toNat=n - 1 by omega]; exact gE hn1
  have hrg:=revP_get hn1;rw[show l.length - 1 - (n - 1)=l.length - n by omega] at hrg;have hsp:revP l=(revP l).take (l.length - n)++(n - 1,l[n - 1])::(revP l).drop (l.length - n+1):=by
   obtain ⟨h1,h2⟩:=List.getElem?_eq_some_iff.1 hrg;rw[← h2,List.getElem_cons_drop,List.take_append_drop]
  have hy:=hY _ _ _ j sx hsp hJ;have htk:(revP l).take (l.length - (n - 1))=(revP l).take (l.length - n)++[(n - 1,l[n - 1])]:=by
   obtain ⟨h1,h2⟩:=List.getElem?_eq_some_iff.1 hrg;rw[show l.length - (n - 1)=l.length - n+1 by omega,tS h1,h2]
  generalize l[n - 1]=x at *;have hvn:vi ((n - 1:Nat):Int)=vi ((n:Int) - 1):=congrArg vi oM;dsimp only at hy;rw[hvn] at hy;refine XC.skip ?_;refine XT.thenN ?_;refine XC.seq ?_;refine XC.block ?_;refine XC.seq ?_;refine XC.region ?_;refine XL.u (mV I) dC ?_;refine XL.u (mV I) dC ?_;refine XL.q (qL (v:=.slice p l.length c) isAgg182 I (cK (hle _ _ hb) I)) dC ?_;refine XL.u (mV I) dC ?_;refine XL.u (iA uT182 sizeOf114 I I hb1 oM sL) dC ?_;refine XL.q (eB isAgg114 I (SlA.rd hv') hgx I) dC ?_;refine XL.x (XO.yield I I hy) dC ?_;rintro _ _ _ ⟨rfl,j',hJ',rfl,rfl⟩;refine XL.u (SU.not I) dC ?_;refine XL.nil ?_;refine XT.thenN ?_;refine XC.condF I ?_;refine XC.skip ?_;refine XT.blockN ?_;refine XT.thenN ?_;refine XC.region ?_;refine XL.u (mV I) dC ?_;refine XL.u (sU I I oM) dC ?_;refine XL.u (aS I) dC ?_;refine XL.nil ?_;exact XT.again (j',n - 1) ⟨I,I,getVi I oM,trivial⟩ I I ⟨by dsimp only; omega,by dsimp only; rw[htk]; exact hJ'⟩ (by dsimp only; omega)
 ·have hn0:n=0:=oM;subst hn0;refine XC.exit ?_;refine XT.thenX ?_;refine XT.thenX ?_;refine XT.blockX ?_;exact XT.leave0 (.inr I) (ST.ret0 (.inr I) results207 ⟨j,by have:=hJ; rwa [tL (by rw[revP_length]; omega)] at this,I,I⟩)
def lays161_ren:Ren :=
 {
  f:=fun x =>
   match x with
   | 161=>184
   | 231=>208
   | 227=>209
   | 233=>210
   | 235=>211
   | 228=>220
   | 197=>221
   | 151=>222
   | 260=>226
   | 152=>227
   | 137=>228
   | 119=>229
   | 224=>230
   | 225=>231
   | 217=>232
   | 266=>233
   | n=>n,
  t:=fun x =>
   match x with
   | 9=>9
   | 4=>4
   | 3=>3
   | 5=>5
   | 117=>235
   | 116=>234
   | 0=>0
   | 124=>238
   | 105=>246
   | 21=>21
   | 119=>251
   | 46=>170
   | 139=>254
   | 138=>253
   | n=>n,
  g:=fun x =>
   match x with
   | 3=>0
   | 4=>1
   | n=>n }
theorem Tryz.lays161:Lays.n161 Tryz.prog lays161_ren :=
  {
  mixed:=Eq.refl true,f119:=Eq.trans func229 (congrArg some kR),
  f137:=Eq.trans func228 (congrArg some kR),
  f151:=Eq.trans func222 (congrArg some kR),
  f152:=Eq.trans func227 (congrArg some kR),
  f161:=Eq.trans func184 (congrArg some kR),
  f197:=Eq.trans func221 (congrArg some kR),
  f217:=Eq.trans func232 (congrArg some kR),
  f224:=Eq.trans func230 (congrArg some kR),
  f225:=Eq.trans func231 (congrArg some kR),
  f227:=Eq.trans func209 (congrArg some kR),
  f228:=Eq.trans func220 (congrArg some kR),
  f231:=Eq.trans func208 (congrArg some kR),
  f233:=Eq.trans func210 (congrArg some kR),
  f235:=Eq.trans func211 (congrArg some kR),
  f260:=Eq.trans func226 (congrArg some kR),
  f266:=Eq.trans func233 (congrArg some kR),t0:=underlying0,
  a0:=isAgg0,z0:=sizeOf0,v0:=zeroValue0,t3:=uT3,a3:=iT3,
  z3:=zT3,v3:=zeroValue3,t4:=uT4,a4:=isAgg4,z4:=sizeOf4,
  v4:=zeroValue4,t5:=uT5,a5:=isAgg5,z5:=sizeOf5,v5:=zeroValue5,
  t9:=uT9,a9:=isAgg9,z9:=sizeOf9,v9:=zeroValue9,t21:=underlying21,
  a21:=isAgg21,z21:=sizeOf21,v21:=zeroValue21,t46:=uT170,a46:=isAgg170,
  z46:=sizeOf170,v46:=zeroValue170,t105:=underlying246,a105:=isAgg246,
  z105:=sizeOf246,v105:=zeroValue246,t116:=underlying234,a116:=isAgg234,
  z116:=sizeOf234,t117:=underlying235,a117:=isAgg235,z117:=sizeOf235,
  v117:=zeroValue235,t119:=underlying251,a119:=isAgg251,z119:=sizeOf251,
  t124:=underlying238,a124:=isAgg238,z124:=sizeOf238,v124:=zeroValue238,
  t138:=underlying253,a138:=isAgg253,z138:=sizeOf253,v138:=zeroValue253,
  t139:=underlying254,a139:=isAgg254,z139:=sizeOf254,v139:=zeroValue254,
  g3:=kR,g4:=kR }
def dropZ (l:List UInt8):List UInt8:=l.dropWhile (· == 0)
theorem trimLeft_spec (E:World)(g:PH)(s:Own)(l:List UInt8) :
  Ctr Tryz.prog E 184 #[txt l,txt [0]] g s (fun r g' s'=>r=txt (dropZ l)∧g=g'∧s=s'):=by
 intro w hw;refine (Any.strings_TrimLeft_one lays161 ⟨l.toArray⟩ 0 dC w).mono ?_;rintro e w' ⟨rfl,rfl⟩;exact⟨_,g,s,I,hw,I,I,I⟩
def by4 (x:Int):List Int:=[IntKind.u8.wrap (x.fdiv (2 ^ min (24:Int).toNat IntKind.u64.bits)),IntKind.u8.wrap (x.fdiv (2 ^ min (16:Int).toNat IntKind.u64.bits)),IntKind.u8.wrap (x.fdiv (2 ^ min (8:Int).toNat IntKind.u64.bits)),IntKind.u8.wrap x]
def byP (x:Nat×Int):List Int:=by4 x.2
theorem byP_length (l:List (Nat×Int)):(l.flatMap byP).length=4 * l.length:=by
 induction l with
 | nil=>rfl
 | cons a t ih=>simp only[List.flatMap_cons,List.length_append,ih,List.length_cons,byP,by4,List.length_nil]; omega
theorem trimZ_le (l:List Int):(trimZ l).length≤l.length:=by
 unfold trimZ;rw[List.length_reverse];have:=(List.dropWhile_sublist (l:=l.reverse) (· == 0)).length_le;simpa using this
def wordsT (l:List Int):List UInt8:=dropZ (byt ((revP (trimZ l)).flatMap byP))
def wideV (neg:Bool)(bs:List UInt8):Value:=.agg #[vb (neg&&decide (bs≠[])),txt bs]
theorem Tryz.build75 (a:Bool)(l:List UInt8)(w:World):(Instr.build 75 #[(0,vb a),(1,txt l)]).run Tryz.prog w = .ok (.agg #[vb a,txt l]) w:=by
 have h1:(vb a).cells = #[vb a]:=rfl;have h2:(txt l).cells = #[txt l]:=rfl;simp[Instr.build,Instr.fill,h1,h2];rfl
theorem natWide_spec (E:World)(g:PH)(s:Own)(v:Value)(l:List Int)(neg:Bool)(hv:SlA encU g v l)(hl:l.length<1099511627776) :
  Ctr Tryz.prog E 148 #[v,vb neg] g s (fun r g' s'=>r=wideV neg (wordsT l)∧s=s'∧Le g g'):=by
 have htl:=trimZ_le l;refine Ctr.ofX (args:=[v,vb neg]) func148 I ntmps148 (bE I) ?_;refine XC.seq ?_;refine XC.region ?_;refine XL.o (aL zeroValue75) dC ?_;rintro _ _ _ ⟨b4,rfl,rfl,rfl⟩;refine XL.nil ?_;refine XT.thenN ?_;refine XC.seq ?_;refine XC.region ?_;refine XL.u (mV I) dC ?_;refine XL.o (cL call182 I (norm_spec E g _ v l hv hl)) dC ?_;rintro v10 _ _ ⟨rfl,rfl,hm⟩;obtain ⟨q,d,rfl⟩:=SlA.form hm;refine XL.u (aS I) dC ?_;refine XL.nil ?_;refine XT.thenN ?_;refine XC.seq ?_;refine XC.region ?_;refine XL.u (mV I) dC ?_;refine XL.u (eN uT182 I) dC ?_;refine XL.u (SU.eq (v':=vi ((4 * (trimZ l).length:Nat))) (SU.mul I I oM) (congrArg vi oM)) dC ?_;refine XL.o (SO.makeC encB sty151 I I oM oM) dC ?_;rintro v14 _ _ ⟨rfl,rfl⟩;refine XL.facts fun ⟨w0,hw0⟩=>?_;obtain ⟨p14,c14,rfl⟩:=rowA_form (i:=0) hw0 rfl;clear hw0 w0;refine XL.o (aL zeroValue151) dC ?_;rintro _ _ _ ⟨b5,rfl,rfl,rfl⟩;refine XL.on (sK 0 sizeOf151 I I I I I sB) ?_;rintro _ _ _ ⟨rfl,rfl⟩;refine XL.nil ?_;refine XT.thenN ?_;refine XC.seq ?_;refine XC.seq ?_;refine XC.region ?_;refine XL.u (mV I) dC ?_;refine XL.o (cL call183 I (backward_spec E _ _ _ I)) dC ?_;rintro _ g1 _ ⟨rfl,hle,bb,rfl,hbb⟩;refine XL.nil ?_;refine XT.thenN ?_;refine XC.block ?_;refine XC.to (g':=g1) (s':=rowA encB 5 (.slice p14 0 c14) []::pt b5 (.cells #[.slice p14 0 c14] 151 (0,0))::pt b4 (.cells #[vb false,txt []] 75 (0,0))::s) (fun w hw=>hw.perm (List.Perm.swap _ _ _)) ?_;refine XC.rangeFunc (α:=Nat×Int) (ι:=Value×List Int) (encs:=fun x=>[vi x.1,.int .u64 x.2]) (xs:=revP (trimZ l)) (g0:=g1) (fun _=>g1) (fun i=>rowA encB 5 i.1 i.2::pt b5 (.cells #[i.1] 151 (0,0))::pt b4 (.cells #[vb false,txt []] 75 (0,0))::[]) (fun pre i=>i.2=pre.flatMap byP) (.slice p14 0 c14,[]) s
  (fun x=>[(18,.int .u64 x.2),(17,vi x.1),(5,pp b5 0)]) (fun _ x _=>[(7,.int .u64 x.2),(5,pp b5 0)]) rfl rfl call207 (fun _=>rfl) rfl rfl (backward_gives E g1 bb _ _ hbb (SlA.mono hm hle) oM) (fun _ _ _=>Le.refl _) rfl
  (fun x a h=>params2 (h.sub (g:=[(5,pp b5 0)]) ⟨rfl,trivial⟩) dC dC) ?_ ?_ ?_
 ·intro k pre x i sx hJ;refine XC.region ?_;refine XL.u (aS I) dC ?_;refine XL.nil ?_;exact XT.assignEnd sB
 ·rintro k pre ⟨xi,x⟩ suf ⟨bv,bs⟩ sx hxs hJ;dsimp only at hJ ⊢;have hpl:pre.length<(trimZ l).length:=by
   have:=congrArg List.length hxs;rw[revP_length,List.length_append,List.length_cons] at this;omega
  have hbl:bs.length=4 * pre.length:=by rw[hJ,byP_length]
  refine XC.facts fun ⟨w0,hw0⟩=>?_;obtain ⟨q2,d2,rfl⟩:=rowA_form (i:=0) hw0 rfl;clear hw0 w0;refine XC.block ?_;refine XC.region ?_;refine XL.q (qL (v:=.slice q2 bs.length d2) isAgg151 I (cO 1 I I)) dC ?_;refine XL.u (mV I) dC ?_;refine XL.u (SU.shr I I dC) dC ?_;refine XL.u (SU.convert uT114 uT5 I) dC ?_;refine XL.u (mV I) dC ?_;refine XL.u (SU.shr I I dC) dC ?_;refine XL.u (SU.convert uT114 uT5 I) dC ?_;refine XL.u (mV I) dC ?_;refine XL.u (SU.shr I I dC) dC ?_;refine XL.u (SU.convert uT114 uT5 I) dC ?_;refine XL.u (mV I) dC ?_;refine XL.u (SU.convert uT114 uT5 I) dC ?_;refine XL.o (bS sty151 I I I (szs_mk sB) dC) dC ?_;rintro _ _ _ ⟨b31,rfl,rfl,rfl⟩;refine XL.to (fun w hw=>At.litRow (e:=encB) (l:=by4 x) (n:=3) hw I I dC) ?_;refine XL.o (SO.appendE (m:=4) 1 (bs++by4 x).length ((bs++by4 x).flatMap encB.enc) sty151 I I I I I (Rd.rowA 0 I) (encB.length (by4 x)) (encB.ones _) (by simp[by4]) (by simp) (by simp[by4]; omega) (by simp[by4]; omega)) dC ?_;rintro v32 _ _ ⟨rfl,rfl⟩;refine XL.facts fun ⟨w0,hw0⟩=>?_;obtain ⟨q3,d3,rfl⟩:=rowA_form (e:=encB) (l:=bs++by4 x) (i:=1) hw0 rfl;clear hw0 w0;refine XL.on (sK 2 sizeOf151 I I I I I sB) ?_;rintro _ _ _ ⟨rfl,rfl⟩;refine XL.nil ?_;refine XT.blockN ?_;refine XT.drop (List.sublist_cons_self _ _) ?_;exact XT.roundEnd (.slice q3 (bs++by4 x).length d3,bs++by4 x) I I (by dsimp only; rw[List.flatMap_append,hJ]; simp[byP])
 ·rintro D ⟨bv,bs⟩ hJ;dsimp only at hJ ⊢;refine XT.facts fun ⟨w0,hw0⟩=>?_;obtain ⟨q2,d2,rfl⟩:=rowA_form (i:=1) hw0 rfl;clear hw0 w0;refine XT.blockN ?_;refine XT.thenN ?_;refine XC.seq ?_;refine XC.region ?_;refine XL.q (qL (v:=.slice q2 bs.length d2) isAgg151 I (cO 2 I I)) dC ?_;refine XL.q (SQ.bytesText underlying151 uT5 uT9 I (Rd.rowA 1 I)) dC ?_;refine XL.o (cL call184 I (trimLeft_spec E g1 _ (byt bs))) dC ?_;rintro _ _ _ ⟨rfl,rfl,rfl⟩;refine XL.u (aS I) dC ?_;refine XL.nil ?_;refine XT.thenN ?_;have hbs:dropZ (byt bs)=wordsT l:=by unfold wordsT; rw[hJ]
  rw[hbs];generalize wordsT l=T at *;cases neg
  ·refine XC.seq ?_;refine XC.region ?_;refine XL.u (mV I) dC ?_;refine XL.u (mV I) dC ?_;refine XL.off (gZ I I I dC) dC ?_;refine XL.off (gZ I I I dC) dC ?_;refine XL.u (wF I I) dC ?_;refine XL.u (mV I) dC ?_;refine XL.u (SU.build I (build75 _ _)) dC ?_;refine XL.on (sK 3 zT75 I I I I I sB) ?_;rintro _ _ _ ⟨rfl,rfl⟩;refine XL.nil ?_;refine XT.thenN ?_;refine XC.ret ?_;exact XT.leave1 (.inl I) (ST.retCD 2 s (.inl I) results148 I isAgg75 zT75 I I (.cons _ (.cons _ (.cons _ (.refl _)))) ⟨I,I,hle⟩)
  ·refine XC.seq ?_;refine XC.region ?_;refine XL.u (mV I) dC ?_;refine XL.u (mV I) dC ?_;refine XL.gu (gT I I I dC) (mV I) dC ?_;refine XL.gu (gT I I I dC) (SU.neqT I I) dC ?_;refine XL.u (wT I I) dC ?_;refine XL.u (mV I) dC ?_;refine XL.u (SU.build I (build75 _ _)) dC ?_;refine XL.on (sK 3 zT75 I I I I I sB) ?_;rintro _ _ _ ⟨rfl,rfl⟩;refine XL.nil ?_;refine XT.thenN ?_;refine XC.ret ?_;exact XT.leave1 (.inl I) (ST.retCD 2 s (.inl I) results148 I isAgg75 zT75 I I (.cons _ (.cons _ (.cons _ (.refl _)))) ⟨I,I,hle⟩)
open Go Go.Sy Go.Pl Go.Proofs
theorem SU.negK {P:Program}{N:Nat}{f:Fr}{dst:Option Tmp}{ty:TypeId}{pos:String}{af:Array Edge}{gd:Option (Nat×Bool)}{x:Operand}{T:TypeId}{k:IntKind}{n:Int}(hx:ev f x=some (.int k n)):SU P N ⟨dst,.unOp .neg T x,ty,pos,af,gd⟩ f (.int k (k.wrap (0 - n))):=fun a w ha=>by
 simp only[execOp,ha.ev hx]; rfl
theorem u64w (n:Int):IntKind.u64.wrap n=n % 18446744073709551616:=by simp[IntKind.wrap,IntKind.bits,IntKind.signed]
theorem mask32 (m:Nat)(h:m<18446744073709551616):IntKind.u64.wrap (BitVec.ofInt IntKind.u64.bits (m:Int) &&& BitVec.ofInt IntKind.u64.bits 4294967295).toNat=((m % 4294967296:Nat):Int):=by
 have h1:(BitVec.ofInt IntKind.u64.bits (m:Int) &&& BitVec.ofInt IntKind.u64.bits 4294967295).toNat=m % 4294967296:=by
  have hb:IntKind.u64.bits=64:=rfl;rw[hb,BitVec.toNat_and];have e1:(BitVec.ofInt 64 (m:Int)).toNat=m:=by
   rw[BitVec.toNat_ofInt];omega
  have e2:(BitVec.ofInt 64 4294967295).toNat=2 ^ 32 - 1:=by decide
  rw[e1,e2,Nat.and_two_pow_sub_one_eq_mod]
 rw[h1];exact IntWalk.u64_in _ oM
theorem shr32 (m:Nat):((m:Nat):Int).fdiv (2 ^ min (32:Int).toNat IntKind.u64.bits)=((m / 4294967296:Nat):Int):=by
 have h1:((2:Int) ^ min (32:Int).toNat IntKind.u64.bits)=4294967296:=by decide
 rw[h1,Int.fdiv_eq_ediv_of_nonneg _ dC];omega
theorem Tryz.buildE75 (w:World):(Instr.build 75 #[]).run Tryz.prog w = .ok (.agg #[vb false,txt []]) w:=by
 simp[Instr.build,Instr.fill];rfl
def words (n:Int):List Int:=[((n.natAbs % 4294967296:Nat):Int),((n.natAbs / 4294967296:Nat):Int)]
theorem from_raw (E:World)(g:PH)(s:Own)(n:Int)(h0 : -9223372036854775808≤n)(h1:n<9223372036854775808) :
  Ctr Tryz.prog E 129 #[vi n] g s (fun r g' s'=>r=wideV (decide (n<0)) (wordsT (words n))∧s=s'∧Le g g'):=by
 refine Ctr.of (args:=[vi n]) func129 I ntmps129 (bE I) ?_;refine rZ (bW (aL zeroValue75) fun b2=>?_);refine tZ (sW I (lU (SU.convert uT3 uT114 I) (aT I ?_)));refine SC.cut (ι:=Unit) (fun _=>[(0,vi n),(2,pp b2 0),(3,.int .u64 (n.natAbs:Int))]) (fun _=>g) (fun _=>pt b2 (.cells #[vb false,txt []] 75 (0,0))::s) (fun _=>True) ?_ ?_
 ·refine sW I (lU (lS I I) (tZ ?_));refine iP I (fun hn=>?_) (fun hn=>?_)
  ·have hw:IntKind.u64.wrap (0 - IntKind.u64.wrap n)=(n.natAbs:Int):=by
    rw[u64w,u64w]; omega
   refine rG (lM I (lU (SU.negK I) (lA I (nL ?_))));exact ST.mid () ⟨rfl,rfl,by rw[← hw]; rfl,trivial⟩ rfl rfl trivial
  ·have hw:IntKind.u64.wrap n=(n.natAbs:Int):=by
    rw[u64w]; omega
   refine kP ?_;exact ST.mid () ⟨rfl,rfl,by rw[← hw]; rfl,trivial⟩ rfl rfl trivial
 rintro _ -;try dsimp only
 refine sW I (lU (SU.eq (v':=.int .u64 ((n.natAbs % 4294967296:Nat):Int)) (SU.and I I) (congrArg _ (mask32 _ oM))) (lM I (lU (SU.eq (v':=.int .u64 ((n.natAbs / 4294967296:Nat):Int)) (SU.shr I I dC) (congrArg _ (shr32 _))) (lW (bS sty182 I I I (szs_mk sB) dC) ?_))));rintro _ _ _ ⟨b14,rfl,rfl,rfl⟩;refine SL.freeze fun g1 hle1 hb=>?_;refine lM I (lU (lS I I) (lW (cL call148 I (natWide_spec E g1 _ _ (words n) _ (SlA.lit hb I I) (by simp[words]))) ?_));rintro _ g2 _ ⟨rfl,rfl,hle2⟩;refine oZ (sK 0 zT75 I I I I I sB) ?_;refine tZ (rE ?_);exact ST.retCD 0 s (.inl I) results129 I isAgg75 zT75 I I uR ⟨I,I,hle1.trans hle2⟩
def hiB (x:Int):Int:=IntKind.u8.wrap (IntKind.i64.wrap (x.tdiv 256))
def loB (x:Int):Int:=IntKind.u8.wrap (x.tmod 256)
def bytesD:List Int→List Int
 | []=>[]
 | x::D=>bytesD D++((if decide (D≠[])||decide (x≥256) then [hiB x] else [])++[loB x])
theorem bytesD_le:∀ D:List Int,(bytesD D).length≤2 * D.length
 | []=>by simp[bytesD]
 | x::D=>by
  have:=bytesD_le D;simp only[bytesD,List.length_append,List.length_cons,List.length_nil];split <;> simp <;> omega
theorem refWide_spec (E:World)(g:PH)(s:Own)(v:Value)(neg:Bool)(l:List Int)(hv:SlA encInt g v l)(hl:l.length<1099511627776) :
  Ctr Tryz.prog E 61 #[vb neg,v] g s (fun r g' s'=>r = .agg #[vb (neg&&decide (trimZ l≠[])),txt (byt (bytesD (trimZ l)))]∧s=s'∧Le g g'):=by
 have htl:=trimZ_le l;refine Ctr.of (args:=[vb neg,v]) func61 I ntmps61 (bE I) ?_;refine rZ (bW (aL zeroValue75) fun b4=>?_);refine tZ (sW I (lW (cL call108 I (refTrim_spec E g _ v l hv hl)) ?_));rintro v8 _ _ ⟨rfl,rfl,hm⟩;obtain ⟨q,d,rfl⟩:=SlA.form hm;refine aT I (sQ (sW I (lU (eN uT83 I) (lU (eQ I I) (tZ ?_)))));generalize trimZ l=t at *;refine iP I (fun hz=>?_) (fun hz=>?_)
 ·have ht0:t=[]:=List.eq_nil_of_length_eq_zero oM;subst ht0;refine rZ (lU (SU.build I (buildE75)) (oZ (sK 0 zT75 I I I I I sB) ?_));refine tZ (rE (tR ?_));exact ST.retCD 0 s (.inl I) results61 I isAgg75 zT75 I I uR ⟨by cases neg <;> rfl,I,Le.refl g⟩
 ·refine kP (tN (rZ (aT I (sQ (sW I (lU (eN uT83 I) (lU (sU I I oM) (aT I (bK (SC.nilRow 5 1 ?_))))))))));refine oP (ι:=Nat×Value) (fun i=>[(0,vb neg),(1,.slice q t.length d),(4,pp b4 0),(5,i.2),(6,vi ((i.1:Int) - 1))]) (fun _=>g) (fun i=>rowA encB 5 i.2 (bytesD (t.drop i.1))::pt b4 (.cells #[vb false,txt []] 75 (0,0))::s) (fun i=>i.1≤t.length) (fun i=>i.1) (t.length,.slice none 0 0)
   sB rfl (by dsimp only; rw[List.drop_length]; rfl) (lR _) ?_
  rintro ⟨n,bv⟩ hn;dsimp only at hn ⊢;refine sQ (sW I (lU (gQ I I) (tZ ?_)));refine iP I (fun hge=>?_) (fun hge=>?_)
  ·have hn1:n - 1<t.length:=oM;have hb1:=SlA.based hm oM;have hgx:t[((n:Int) - 1).toNat]?=some t[n - 1]:=by rw[show ((n:Int) - 1).toNat=n - 1 by omega]; exact gE hn1
   have hdr:t.drop (n - 1)=t[n - 1]::t.drop n:=by
    have:=List.drop_eq_getElem_cons hn1;rwa [show n - 1+1=n by omega] at this
   have hne:decide (t.drop n≠[])=decide ((n:Int) - 1<(t.length:Int) - 1):=by
    rw[decide_eq_decide];constructor
    ·intro h;have:=List.length_pos_iff.2 h;rw[List.length_drop] at this;omega
    ·intro h e;have:=congrArg List.length e;rw[List.length_drop,List.length_nil] at this;omega
   have hlb:=bytesD_le (t.drop n);rw[List.length_drop] at hlb;generalize t[n - 1]=x at *;have hst:bytesD (t.drop (n - 1))=bytesD (t.drop n)++((if decide ((n:Int) - 1<(t.length:Int) - 1)||decide (x≥256) then [hiB x] else [])++[loB x]):=by rw[hdr,bytesD,hne]
   generalize bytesD (t.drop n)=B at *;have f1:(n:Int) - 1<(t.length:Int) - 1→(decide ((n:Int) - 1<(t.length:Int) - 1)||decide (x≥256))=true:=fun h=>by rw[decide_eq_true h,Bool.true_or]
   have f2:¬ (n:Int) - 1<(t.length:Int) - 1→(decide ((n:Int) - 1<(t.length:Int) - 1)||decide (x≥256))=decide (x≥256):=fun h=>by rw[decide_eq_false h,Bool.false_or]
   refine kP (tN (sQ (bK ?_)));refine SC.cut (ι:=Value) (fun i=>[(0,vb neg),(1,.slice q t.length d),(4,pp b4 0),(5,i),(6,vi ((n:Int) - 1))]) (fun _=>g) (fun i=>rowA encB 5 i (B++(if decide ((n:Int) - 1<(t.length:Int) - 1)||decide (x≥256) then [hiB x] else []))::pt b4 (.cells #[vb false,txt []] 75 (0,0))::s) (fun _=>True) ?_ ?_
   ·refine SC.cutB 31 ((decide ((n:Int) - 1<(t.length:Int) - 1)||decide (x≥256))) ?_ ?_
    ·refine rG (lM I (lM I (lU (eN uT83 I) (lU (sU I I oM) (lU (lS I I) (lM I ?_))))));refine sP ?_ ?_
     ·intro h25;refine lZ I I I (lZ I I I (lZ I I I (lZ I I I (lZ I I I (lU (wT I I) (nL ?_))))));exact ST.mid1 (by (rw[f1 h25]; rfl)) mI
     ·intro h25;refine lY I I I (mV I) (lY I I I (mV I) (lY I I I (iA uT83 zT3 I I hb1 oM sL) (SL.gq (gT I I I dC) (eB iT3 I (SlA.rd hm) hgx I) dC (lY I I I (gQ I I) (lU (wF I I) (nL ?_))))));exact ST.mid1 (by (rw[f2 h25]; rfl)) mI
    refine iQ I (fun hc=>?_) (fun hc=>?_)
    ·refine rG (lM I (lM I (lM I (lU (iA uT83 zT3 I I hb1 oM sL) (lK (eB iT3 I (SlA.rd hm) hgx I) (lU (SU.quo I I dC) (lU (SU.eq (v':=.int .u8 (hiB x)) (SU.convert uT3 uT5 I) I) (lW (bS sty151 I I I (szs_mk sB) dC) ?_))))))));rintro _ _ _ ⟨b39,rfl,rfl,rfl⟩;refine lW (aP (e:=encB) 0 (hiB x) sty151 I I I I I oM oM) ?_;rintro bv' _ _ ⟨rfl,rfl⟩;refine lA I (nL ?_);exact ST.mid bv' sB rfl (by rw[if_pos hc]; rfl) trivial
    ·refine kP ?_;exact ST.mid bv sB I (by rw[if_neg (by rw[hc]; simp),List.append_nil]) trivial
   rintro bv2 -;try dsimp only
   have hB2:(B++(if decide ((n:Int) - 1<(t.length:Int) - 1)||decide (x≥256) then [hiB x] else [])).length≤B.length+1:=by
    rw[List.length_append]; split <;> simp
   rw[← List.append_assoc] at hst;generalize (B++(if decide ((n:Int) - 1<(t.length:Int) - 1)||decide (x≥256) then [hiB x] else []))=B2 at *;refine rG (lM I (lM I (lM I (lU (iA uT83 zT3 I I hb1 oM sL) (lK (eB iT3 I (SlA.rd hm) hgx I) (lU (SU.rem I I dC) (lU (SU.eq (v':=.int .u8 (loB x)) (SU.convert uT3 uT5 I) I) (lW (bS sty151 I I I (szs_mk sB) dC) ?_))))))));rintro _ _ _ ⟨b48,rfl,rfl,rfl⟩;refine lW (aP (e:=encB) 0 (loB x) sty151 I I I I I oM oM) ?_;rintro bv3 _ _ ⟨rfl,rfl⟩;refine lA I (nL (bN (tN (rG (lM I (lU (sU I I oM) (lA I (nL ?_))))))));exact gA (n - 1,bv3) ⟨rfl,rfl,rfl,rfl,getVi rfl oM,trivial⟩ rfl (by dsimp only; rw[hst]; rfl) (by dsimp only; omega) (by dsimp only; omega)
  ·have hn0:n=0:=oM;subst hn0;refine SC.facts fun ⟨w0,hw0⟩=>?_;obtain ⟨q2,d2,rfl⟩:=rowA_form (i:=0) hw0 rfl;clear hw0 w0;rw[List.drop_zero] at *;refine xI (tX (tX (bX (tN (sW I (lM I (lK (SQ.bytesText underlying151 uT5 uT9 I (Rd.rowA 0 I)) (lU (SU.build I (build75 _ _)) (oZ (sK 1 zT75 I I I I I sB) ?_)))))))));refine tZ (rE ?_);exact ST.retCD 1 s (.inl rfl) results61 rfl isAgg75 zT75 rfl rfl uR ⟨by rw[show decide (t≠[])=true from decide_eq_true (fun e:t=[]=>hz (by rw[e]; rfl)),Bool.and_true]; rfl,rfl,Le.refl g⟩
def digs (m:Nat):List Int:=if h:m=0 then [] else ((m % 65536:Nat):Int)::digs (m / 65536)
termination_by m
decreasing_by omega
theorem digs_zero:digs 0=[]:=by unfold digs; rfl
theorem digs_pos {m:Nat}(h:m≠0):digs m=((m % 65536:Nat):Int)::digs (m / 65536):=by rw[digs,dif_neg h]
theorem digs_length:∀ (k m:Nat),m<65536 ^ k→(digs m).length≤k
 | 0,m,h=>by
  have:m=0:=by simpa using h
  subst this; rw[digs_zero]; simp
 | k+1,m,h=>by
  by_cases h0:m=0
  ·subst h0; rw[digs_zero]; simp
  ·rw[digs_pos h0,List.length_cons];have:=digs_length k (m / 65536) (by rw[Nat.div_lt_iff_lt_mul dC]; rwa [Nat.pow_succ] at h);omega
theorem digs_trim (m:Nat):trimZ (digs m)=digs m:=by
 have key:∀ m,digs m=[]∨∃ a x,digs m=a++[x]∧x≠0:=by
  intro m;induction m using Nat.strongRecOn with
  | _ m ih =>
   by_cases h0:m=0
   ·left; subst h0; exact digs_zero
   ·right;rw[digs_pos h0]
    rcases ih (m / 65536) oM with h | ⟨a,x,h,hx⟩
    ·refine⟨[],_,by rw[h]; rfl,?_⟩;by_cases h1:m / 65536=0
     ·omega
     ·rw[digs_pos h1] at h; cases h
    ·exact⟨_::a,x,by rw[h]; rfl,hx⟩
 rcases key m with h | ⟨a,x,h,hx⟩
 ·rw[h]; rfl
 ·rw[h]; simp[trimZ,hx]
theorem refFrom_raw (E:World)(g:PH)(s:Own)(n:Int)(h0 : -9223372036854775808≤n)(h1:n<9223372036854775808) :
  Ctr Tryz.prog E 28 #[vi n] g s (fun r g' s'=>r = .agg #[vb (decide (n<0)&&decide (digs n.natAbs≠[])),txt (byt (bytesD (digs n.natAbs)))]∧s=s'∧Le g g'):=by
 have hdl:=digs_length 4 n.natAbs oM;refine Ctr.of (args:=[vi n]) func28 I ntmps28 (bE I) ?_;refine rZ (bW (aL zeroValue75) fun b2=>?_);refine tZ (rZ (aT I (sW I (lU (SU.convert uT3 uT114 I) (aT I ?_)))));refine SC.cut (ι:=Unit) (fun _=>[(0,vi n),(2,pp b2 0),(3,.slice none 0 0),(4,.int .u64 (n.natAbs:Int))]) (fun _=>g) (fun _=>pt b2 (.cells #[vb false,txt []] 75 (0,0))::s) (fun _=>True) ?_ ?_
 ·refine sW I (lU (lS I I) (tZ ?_));refine iP I (fun hn=>?_) (fun hn=>?_)
  ·have hw:IntKind.u64.wrap (0 - IntKind.u64.wrap n)=(n.natAbs:Int):=by
    rw[u64w,u64w]; omega
   refine rG (lM I (lU (SU.negK I) (lA I (nL ?_))));exact ST.mid () ⟨rfl,rfl,rfl,by rw[← hw]; rfl,trivial⟩ rfl rfl trivial
  ·have hw:IntKind.u64.wrap n=(n.natAbs:Int):=by
    rw[u64w]; omega
   refine kP ?_;exact ST.mid () ⟨rfl,rfl,rfl,by rw[← hw]; rfl,trivial⟩ rfl rfl trivial
 rintro _ -;try dsimp only
 refine sQ (bK (SC.nilRow 3 1 ?_));refine oP (ι:=Nat×Value×List Int) (fun i=>[(0,vi n),(2,pp b2 0),(3,i.2.1),(4,.int .u64 (i.1:Int))]) (fun _=>g) (fun i=>rowA encInt 3 i.2.1 i.2.2::pt b2 (.cells #[vb false,txt []] 75 (0,0))::s) (fun i=>i.2.2++digs i.1=digs n.natAbs∧i.1≤n.natAbs) (fun i=>i.1) (n.natAbs,.slice none 0 0,[])
  sB rfl rfl ⟨rfl,lR _⟩ ?_
 rintro ⟨m,bv,D⟩ ⟨hD,hm⟩;dsimp only at hD hm ⊢;have hDl:D.length≤4:=by have:=congrArg List.length hD; rw[List.length_append] at this; omega
 refine sQ (sW I (lU (gR I I) (tZ ?_)));refine iP I (fun hpos=>?_) (fun hpos=>?_)
 ·have hm0:m≠0:=oM;have hds:=digs_pos hm0;refine kP (tN (bK (sW I (lM I (lU (SU.rem I I dC) (lU (SU.eq (v':=vi ((m % 65536:Nat):Int)) (SU.convert uT114 uT3 I) (congrArg vi (by rw[show ((m:Int)).tmod 65536=((m % 65536:Nat):Int) by rw[Int.tmod_eq_emod_of_nonneg oM]; omega]; exact IntWalk.i64_in _ oM))) ?_))))));refine lW (bS sty83 I I I (szs_mk sB) dC) ?_;rintro _ _ _ ⟨b17,rfl,rfl,rfl⟩;refine lW (aP (e:=encInt) 0 ((m % 65536:Nat):Int) sty83 I I I I I oM oM) ?_;rintro bv' _ _ ⟨rfl,rfl⟩;refine aT I (rG (lM I (lU (SU.eq (v':=.int .u64 ((m / 65536:Nat):Int)) (SU.quo I I dC) (congrArg _ (by rw[show ((m:Int)).tdiv 65536=((m / 65536:Nat):Int) by rw[Int.tdiv_eq_ediv_of_nonneg oM]; omega]; exact IntWalk.u64_in _ oM))) ?_)));refine lA I (nL (bN ?_));exact gA (m / 65536,bv',D++[((m % 65536:Nat):Int)]) sB I I ⟨by dsimp only; rw[← hD,hds]; simp,by dsimp only; omega⟩ (by dsimp only; omega)
 ·have hm0:m=0:=oM;subst hm0;rw[digs_zero,List.append_nil] at hD;subst hD;refine xI (tX (tX (bX (tN (sQ (fS fun g1 hle1 hs1=>?_))))));refine rG (lM I (lU (lS I I) (lM I (lW (cL call61 I (refWide_spec E g1 _ bv _ (digs n.natAbs) hs1 oM)) ?_))));rintro _ g2 _ ⟨rfl,rfl,hle2⟩;refine oZ (sK 0 zT75 I I I I I sB) ?_;refine tZ (rE ?_);exact ST.retCD 0 s (.inl rfl) results28 rfl isAgg75 zT75 rfl rfl uR ⟨by rw[digs_trim]; rfl,rfl,hle1.trans hle2⟩
end Go.Proofs.YtackilpikhkijaaGreatDoor
