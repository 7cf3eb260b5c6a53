/- Ref1 Ref2 Ref3 Sec -/
import Derived.Test.YteahknngoogpaaaGreatDoorRs05
import Derived.Test.YteahknngoogpaaaGreatDoorRs03
set_option linter.unusedSimpArgs false
set_option linter.unusedVariables false
namespace Go.Proofs.YteahknngoogpaaaGreatDoor
open _root_.Go.Proofs.Tryz _root_.Go.Proofs.YteahknngoogpaaaGreatDoor.Tryz
open Go Go.Sy Go.Pl Go.Proofs
set_option maxRecDepth 100000
theorem ins_after {α:Type}{key:α→Int}{l out:List α}{x:α}{k:Nat}(hs:Srt key out)(hst:Stab key l out)(h1:∀ y∈out.take k,key y≤key x)(h2:∀ y∈out.drop k,key x<key y) :
  Srt key (out.take k++x::out.drop k)∧Stab key (l++[x]) (out.take k++x::out.drop k):=by
 have hs':Srt key (out.take k++out.drop k):=by rw[List.take_append_drop]; exact hs
 have h3:=Srt.append_iff.1 hs';refine⟨Srt.append_iff.2 ⟨h3.1,Srt.cons_iff.2 ⟨fun y hy=>Int.le_of_lt (h2 y hy),h3.2.1⟩,fun y hy z hz=>?_⟩,?_⟩
 ·rcases List.mem_cons.1 hz with rfl | hz
  ·exact h1 y hy
  ·exact h3.2.2 y hy z hz
 ·have h4:Stab key (l++[x]) (out++[x]):=hst.append (Stab.refl [x]);have h5:Stab key (out.drop k++[x]) ([x]++out.drop k):=Stab.swap (fun y hy z hz=>by simp at hz; subst hz; have:=h2 y hy; omega);have h6:=Stab.append (Stab.refl (key:=key) (out.take k)) h5;have h7:out++[x]=out.take k++(out.drop k++[x]):=by rw[← List.append_assoc,List.take_append_drop]
  rw[h7] at h4;simpa using h4.trans h6
theorem srt_drop_gt {α:Type}{key:α→Int}{out:List α}{c:Int}{k:Nat}(hs:Srt key out)(hk:k<out.length)(h:c<key out[k]):∀ y∈out.drop k,c<key y:=by
 rw[List.drop_eq_getElem_cons hk];intro y hy;have h1:Srt key (out.drop k):=List.Pairwise.sublist (List.drop_sublist k out) hs;rw[List.drop_eq_getElem_cons hk] at h1
 rcases List.mem_cons.1 hy with rfl | hy
 ·exact h
 ·have:=(Srt.cons_iff.1 h1).1 y hy;omega
theorem sides_spec (E:World)(g:PH)(s:Own)(v:Value)(l:List Side)(hv:SlA encSide g v l)(hl:l.length<1099511627776) :
  Ctr Tryz.prog E 96 #[v] g s (fun r g' s'=>s=s'∧Le g g'∧SlA encSide g' r (sortBy Side.cell l)):=by
 obtain ⟨p,c,rfl⟩:=SlA.form hv;refine Ctr.of (args:=[.slice p l.length c]) func96 I ntmps96 (bE I) ?_;refine SC.sR (lA I (SL.nT (SC.sR (lA I (SL.nT (sQ (SC.sR (lA I (SL.nT (bK ?_))))))))));refine oP (ι:=PH×Value×List Side×Nat) (fun i=>[(0,.slice p l.length c),(3,i.2.1),(4,vi i.2.2.2)]) (fun i=>i.1) (fun _=>s)
  (fun i=>Le g i.1∧SlA encSide i.1 i.2.1 i.2.2.1∧i.2.2.2≤l.length∧Srt Side.cell i.2.2.1∧Stab Side.cell (l.take i.2.2.2) i.2.2.1) (fun i=>l.length - i.2.2.2)
  (g,.slice none 0 0,[],0) sB rfl rfl ⟨Le.refl g,Sl.nil g _,Nat.zero_le _,Srt.nil,Stab.refl _⟩ ?_
 rintro ⟨g1,ov,out,i⟩ ⟨hle,hov,hi,hsrt,hst⟩;dsimp only at hle hov hi hsrt hst ⊢;have hol:out.length=i:=by have:=hst.1; rw[List.length_take] at this; omega
 obtain ⟨q,d,rfl⟩:=SlA.form hov;have hqc:=(SlA.cap hov).2;refine sQ (SC.sR (lM I (lM I (lU (eN uT37 I) (lU (lS I I) (SL.nT ?_))))));refine iP I (fun hlt=>?_) (fun hlt=>?_)
 ·have hil:i<l.length:=oM;have hb1:=SlA.based (hv.mono hle) oM;have hgi:l[((i:Nat):Int).toNat]?=some l[i]:=gE hil;have htk:l.take (i+1)=l.take i++[l[i]]:=tS hil;generalize l[i]=x at *;refine kP (tN (sQ (bK (SC.sR (lA I (SL.nT ?_))))));refine SC.cut (ι:=Nat) (fun k=>[(0,.slice p l.length c),(3,.slice q out.length d),(4,vi i),(5,vi k)]) (fun _=>g1) (fun _=>s) (fun k=>k≤out.length∧(∀ y∈out.take k,y.cell≤x.cell)∧∀ y∈out.drop k,x.cell<y.cell) ?_ ?_
  ·refine bK ?_;refine oP (ι:=Nat) (fun k=>[(0,.slice p l.length c),(3,.slice q out.length d),(4,vi i),(5,vi k)]) (fun _=>g1) (fun _=>s) (fun k=>k≤out.length∧∀ y∈out.take k,y.cell≤x.cell) (fun k=>out.length - k) 0
    sB rfl rfl ⟨Nat.zero_le _,by simp⟩ ?_
   rintro k ⟨hk,htake⟩;by_cases hin:(k:Int)<(out.length:Int)
   ·have hkl:k<out.length:=oM;have hb2:=SlA.based hov oM;have hd:decide ((k:Int)<(out.length:Int))=true:=decide_eq_true hin;refine sQ (sQ ?_);refine dW [] [(0,2),(1,2),(2,2),(3,2),(4,2),(5,2),(6,2),(7,2),(8,2),(9,1),(10,2),(11,2),(12,2),(13,2),(14,1),(15,2),(16,2)] Tryz.mixed (by kernel_rfl) ?_;refine pU I (mV I) (pU I (mV I) (pU I (eN uT37 I) (pU I (SU.eq (lS I I) (congrArg vb hd)) (pU I (mV I) (SP.gu I (gT I I I dC) (mV I) dC (SP.gu I (gT I I I dC) (mV I) dC (SP.gu I (gT I I I dC) (iA uT37 zT56 I I hb2 oM sL) dC (SP.gu I (gT I I I dC) (fC uT56 I zT3 I hb2) dC ?_))))))));refine SP.gq I (gT I I I dC) (pA (o:=0) iT3 I hov.rd (gE hkl) I) dC ?_;refine SP.gu I (gT I I I dC) (mV I) dC (SP.gu I (gT I I I dC) (mV I) dC (SP.gu I (gT I I I dC) (iA uT37 zT56 I I hb1 oM sL) dC (SP.gu I (gT I I I dC) (fC uT56 I zT3 I hb1) dC (SP.gq I (gT I I I dC) (pA (o:=0) iT3 I (hv.mono hle).rd hgi I) dC (SP.gu I (gT I I I dC) (SU.leq I I) dC (pU I (pT I I) (pN (tN ?_))))))));refine iP I (fun hc=>?_) (fun hc=>?_)
    ·refine kP (tN (bK (rG (lM I (lU (aD I I oM) (lA I (nL (bN ?_))))))));exact ST.again (k+1) sB I I ⟨oM,by
      rw[tS hkl];intro y hy
      rcases List.mem_append.1 hy with h | h
      ·exact htake y h
      ·simp at h; subst h; exact hc⟩ oM
    ·refine xI (tX (tX (bX ?_)));exact ST.mid k sB I I ⟨hk,htake,srt_drop_gt hsrt hkl oM⟩
   ·have hd:decide ((k:Int)<(out.length:Int))=false:=decide_eq_false hin;refine sQ (sQ ?_);refine dW [] [(0,2),(1,2),(2,2),(3,2),(4,2),(5,2),(6,2),(7,2),(8,2),(9,1),(10,2),(11,2),(12,2),(13,2),(14,1),(15,2),(16,2)] Tryz.mixed (by kernel_rfl) ?_;refine pU I (mV I) (pU I (mV I) (pU I (eN uT37 I) (pU I (SU.eq (lS I I) (congrArg vb hd)) (pU I (mV I) (fP I (gF I I I dC) dC (fP I (gF I I I dC) dC (fP I (gF I I I dC) dC (fP I (gF I I I dC) dC (SP.off1 I (gF I I I dC) dC (fP I (gF I I I dC) dC (fP I (gF I I I dC) dC (fP I (gF I I I dC) dC (fP I (gF I I I dC) dC (SP.off1 I (gF I I I dC) dC (fP I (gF I I I dC) dC (pU I (pF I I) (pN (tN (cF I (xI (tX (tX (bX ?_)))))))))))))))))))))));exact ST.mid k sB I I ⟨hk,htake,by rw[List.drop_eq_nil_of_le oM]; simp⟩
  ·rintro k ⟨hk,hk1,hk2⟩;have hnew:=ins_after hsrt hst hk1 hk2;have hc1:=SlA.cut hov (l:=k) (m:=out.length) hk (lR _);have hc2:=SlA.cut hov (l:=0) (m:=k) (Nat.zero_le _) hk;rw[tL (by rw[List.length_drop]; exact lR _)] at hc1;rw[List.drop_zero,Nat.sub_zero] at hc2;refine sQ ?_;refine dW [8] [(0,2),(1,2),(2,2),(3,1),(5,2),(6,2),(7,2),(4,0),(8,0),(9,2)] Tryz.mixed (by kernel_rfl) ?_;refine pU rfl (mV rfl) (pU rfl (mV rfl) (pU rfl (iA uT37 zT56 rfl rfl hb1 oM sL) (pK rfl (eA iT56 zT56 rfl (hv.mono hle).rd hgi) (pU rfl (mV rfl) (pU rfl (mV rfl) (pU rfl (SU.sliceL uT37 zT56 rfl rfl oM oM) (SP.o rfl (SO.buildSlice sty37 rfl rfl rfl (szs_mk ⟨rfl,trivial⟩) dC) dC (.inr (by rintro _ _ _ ⟨b36,rfl,rfl,rfl⟩; exact⟨by exact Le.refl _,(by exact .cons _ (.refl _))⟩)) ?_)))))));rintro _ _ _ ⟨b36,rfl,rfl,rfl⟩;refine SP.to (fun w hw=>At.litRow (e:=encSide) (l:=[x]) (n:=0) hw I I dC) ?_;refine SP.o rfl (aQ (e:=encSide) 0 sty37 rfl rfl rfl hc1 (by rw[List.length_drop]; (first | with_reducible rfl | ((try dsimp only); (try simp only[List.length_append,List.length_cons,List.length_nil,List.length_singleton,List.length_take,List.length_drop])<;>omega))) (by rw[List.length_drop]; (first | with_reducible rfl | ((try dsimp only); (try simp only[List.length_append,List.length_cons,List.length_nil,List.length_singleton,List.length_take,List.length_drop])<;>omega)))) dC (.inl dC) ?_;rintro v40 _ _ ⟨rfl,rfl⟩;refine pU I (aS I) (pN (tN (fS fun g2 hle2 hs2=>?_)));have hrest:SlA encSide g2 v40 ([x]++out.drop k):=hs2;refine rG (lW (SO.buildSlice sty37 I I I (szs_mk trivial) dC) ?_);rintro _ _ _ ⟨b41,rfl,rfl,rfl⟩;refine SL.emptyRow 56 2 (some ⟨b41,0,none⟩) (lM rfl (lM rfl (lU (SU.sliceH uT37 zT56 rfl rfl oM oM) (lW (aQ (e:=encSide) (l:=[]) 0 sty37 rfl rfl rfl (hc2.mono hle2) (by rw[List.length_take]; (first | with_reducible rfl | ((try dsimp only); (try simp only[List.length_append,List.length_cons,List.length_nil,List.length_singleton,List.length_take,List.length_drop])<;>omega))) (by rw[List.length_take]; (first | with_reducible rfl | ((try dsimp only); (try simp only[List.length_append,List.length_cons,List.length_nil,List.length_singleton,List.length_take,List.length_drop])<;>omega)))) ?_))));rintro v45 _ _ ⟨rfl,rfl⟩;refine lM I (lW (aQ (e:=encSide) 0 sty37 I I I hrest lN lN) ?_);rintro v47 _ _ ⟨rfl,rfl⟩;refine lA I (nL (bN (tN (rG (lM I (lU (aD I I oM) (lA I (nL (fT fun g3 hle3 hs3=>?_)))))))));refine dR (s':=s) (.cons _ (.refl _)) ?_;have hres:SlA encSide g3 v47 (out.take k++x::out.drop k):=by have h:SlA encSide g3 v47 ([]++out.take k++([x]++out.drop k)):=hs3; simpa using h
   exact ST.again (g3,v47,out.take k++x::out.drop k,i+1) sB I I ⟨hle.trans (hle2.trans hle3),hres,lN,hnew.1,by dsimp only; rw[htk]; exact hnew.2⟩ lN
 ·have hii:l.take i=l:=tL oM;rw[hii] at hst;refine xI (tX (tX (bX (tN (SC.sR (lM I (lA I (SL.nT (rE ?_)))))))));exact ST.ret1 (.inl I) results96 I ⟨I,hle,by rw[← eq_sortBy hsrt hst]; exact hov⟩
theorem All2.drop {α β:Type}{R:α→β→Prop}:∀ {l:List α} {m:List β} (k:Nat),All2 R l m→All2 R (l.drop k) (m.drop k)
 | _,_,0,h=>by simpa using h
 | [],[],k+1,_=>trivial
 | _::_,_::_,k+1,h=>by simpa using All2.drop k h.2
 | [],_::_,_+1,h=>h.elim
 | _::_,[],_+1,h=>h.elim
theorem All2.take {α β:Type}{R:α→β→Prop}:∀ {l:List α} {m:List β} (k:Nat),All2 R l m→All2 R (l.take k) (m.take k)
 | _,_,0,_=>by simp; trivial
 | [],[],k+1,_=>trivial
 | _::_,_::_,k+1,h=>⟨h.1,All2.take k h.2⟩
 | [],_::_,_+1,h=>h.elim
 | _::_,[],_+1,h=>h.elim
theorem Cells.cut {g:PH}{p:Option Addr}{c a b n:Nat}{l:List Cl}(h:Cells g (.slice p n c) l)(ha:a≤b)(hb:b≤l.length):Cells g (sliced p a b c 3) ((l.drop a).take (b - a)):=by
 obtain ⟨rs,h1,h2⟩:=h;have hl:=h2.length;have hn:=(SlA.cap h1).1;subst hn;exact⟨_,SlA.cut h1 ha oM,All2.take (b - a) (All2.drop a h2)⟩
theorem Cells.cap {g:PH}{p:Option Addr}{c n:Nat}{l:List Cl}(h:Cells g (.slice p n c) l):n=l.length∧l.length≤c:=by
 obtain ⟨rs,h1,h2⟩:=h;have:=SlA.cap h1;rw[h2.length];exact⟨this.1,this.2⟩
theorem canonC_alt (l:List Cl):canonC l=sortBy Cl.id (l.map normC):=by
 unfold canonC;rw[sortBy_map];rfl
theorem canonC_srt (l:List Cl):Srt Cl.id (canonC l):=by rw[canonC_alt]; exact sortBy_srt _
theorem canonC_stab (l:List Cl):Stab Cl.id (l.map normC) (canonC l):=by rw[canonC_alt]; exact sortBy_stab _
theorem Tryz.buildF54 (x y:Int)(v:Value)(hv:v.cells = #[v])(w:World):(Instr.build 54 #[(0,vi x),(1,vi y),(2,v)]).run Tryz.prog w = .ok (.agg #[vi x,vi y,v]) w:=by
 have hz:(Value.agg #[vi 0,vi 0,Value.slice none 0 0]).cells = #[vi 0,vi 0,.slice none 0 0]:=rfl;have h1:(vi x).cells = #[vi x]:=rfl;have h2:(vi y).cells = #[vi y]:=rfl;simp[Instr.build,Instr.fill,hv,hz,h1,h2]
theorem half_tdiv (n:Nat)(h:n<4611686018427387904):IntKind.i64.wrap (((n:Nat):Int).tdiv 2)=((n / 2:Nat):Int):=by
 have h1:((n:Nat):Int).tdiv 2=((n / 2:Nat):Int):=by
  rw[Int.tdiv_eq_ediv_of_nonneg oM]; simp
 rw[h1,IntWalk.i64_in _ oM]
theorem ordered_spec (E:World):∀ (n:Nat) (g:PH) (s:Own) (v:Value) (l:List Cl),l.length≤n→Cells g v l→Fits l →
  Ctr Tryz.prog E 71 #[v] g s (fun r g' s'=>s=s'∧Le g g'∧Cells g' r (canonC l)):=by
 intro n;induction n with
 | zero =>
  intro g s v l hn hv hf;have hl0:l=[]:=List.eq_nil_of_length_eq_zero oM;subst hl0;obtain ⟨p,c,rfl⟩:=hv.form;refine Ctr.of (args:=[.slice p 0 c]) func71 I ntmps71 (bE I) ?_;refine SC.sR (lA I (SL.nT (sQ (SC.sR (lM I (lU (eN uT27 I) (lU (eQ I I) (SL.nT ?_))))))));refine iP I (fun h0=>?_) (fun h0=>?_)
  ·refine SC.sR (lA I (SL.nT (rE (tR ?_))));exact ST.ret1 (.inl I) results71 I ⟨I,Le.refl g,[],Sl.nil g _,trivial⟩
  ·exact absurd I h0
 | succ n ih =>
  intro g s v l hn hv hf;obtain ⟨rs,hrs,hall⟩:=hv;have hv:Cells g v l:=⟨rs,hrs,hall⟩;have hlen:=hall.length;have hfl:=hf.1;obtain ⟨p,c,rfl⟩:=hv.form;have hcap:=(Cells.cap hv).2;refine Ctr.of (args:=[.slice p l.length c]) func71 I ntmps71 (bE I) ?_;refine SC.sR (lA I (SL.nT (sQ (SC.sR (lM I (lU (eN uT27 I) (lU (eQ I I) (SL.nT ?_))))))));refine iP I (fun h0=>?_) (fun h0=>?_)
  ·have hl0:l=[]:=List.eq_nil_of_length_eq_zero oM;subst hl0;refine SC.sR (lA I (SL.nT (rE (tR ?_))));exact ST.ret1 (.inl I) results71 I ⟨I,Le.refl g,[],Sl.nil g _,trivial⟩
  ·refine kP (tN (sQ (SC.sR (lM I (lU (eN uT27 I) (lU (eQ I I) (SL.nT ?_)))))));refine iP I (fun h1=>?_) (fun h1=>?_)
   ·obtain ⟨x,hx⟩:∃ x,l=[x]:=by
     match l,h1 with
     | [x],_=>exact⟨x,rfl⟩
     | [],h=>simp at h
     | _::_::_,h=>simp at h; omega
    subst hx;obtain ⟨r,rs',rfl,hr,hn'⟩:=All2.cons_left hall;have hrs0:=All2.nil_left hn';subst hrs0;obtain ⟨rp,rd,rfl,hsd⟩:=cellR_form hr;have hb1:=hrs.based (by simp);have hxl:=hf.2 x (by simp);refine sQ ?_;refine dW [] [(0,2),(1,2),(2,2),(3,1),(4,2),(5,2),(6,2),(7,1),(8,2),(9,2),(10,2),(11,1),(12,0),(13,2),(14,0),(15,2)] Tryz.mixed (by kernel_rfl) ?_;refine pU I (mV I) (pU I (iA uT27 zT54 I I hb1 dC (show (0:Int)<((1:Nat):Int) by decide)) ?_);refine pU I (fC uT54 I zT3 I hb1) (pK I (pA (e:=encCell) (o:=0) (j:=0) (u:=vi x.id) iT3 I hrs.rd I I) (pU I (mV I) (pU I (iA uT27 zT54 I I hb1 dC (show (0:Int)<((1:Nat):Int) by decide)) ?_)));refine pU I (fC uT54 I zT3 I hb1) (pK I (pA (e:=encCell) (o:=1) (j:=0) (u:=vi x.dim) iT3 I hrs.rd I I) (pU I (mV I) (pU I (iA uT27 zT54 I I hb1 dC (show (0:Int)<((1:Nat):Int) by decide)) ?_)));refine pU rfl (fC uT54 rfl zT37 rfl hb1) (pK rfl (pA (e:=encCell) (o:=2) (j:=0) (u:=.slice rp x.sides.length rd) iT37 rfl hrs.rd rfl rfl) (SP.o rfl (SO.call call96 rfl (sides_spec E g _ _ x.sides hsd hxl)) dC (.inr (by rintro v24 g1 _ ⟨rfl,hle1,hs1⟩; exact⟨by assumption,(by exact .refl _)⟩)) ?_));rintro v24 g1 _ ⟨rfl,hle1,hs1⟩;obtain ⟨q,d,rfl⟩:=SlA.form hs1;refine pU rfl (SU.build rfl (buildF54 _ _ _ rfl)) (SP.o rfl (SO.buildSlice sty27 rfl rfl rfl (szs_mk sB) dC) dC (.inr (by rintro _ _ _ ⟨b26,rfl,rfl,rfl⟩; exact⟨by assumption,(by exact .cons _ (.refl _))⟩)) ?_);rintro _ _ _ ⟨b26,rfl,rfl,rfl⟩;refine pU I (aS I) (pN (tN (rE (tR (ST.freeze fun g2 hle2 hb=>?_)))));exact ST.ret1 (.inl I) results71 I ⟨I,hle1.trans hle2,[⟨x.id,x.dim,⟨q,(sortBy Side.cell x.sides).length,d⟩⟩],SlA.lit hb I I,⟨⟨I,I,hs1.mono hle2⟩,trivial⟩⟩
   ·have hm1:l.length / 2<l.length:=oM;have hm0:0<l.length / 2:=oM;have hc1:=Cells.cut hv (a:=0) (b:=l.length / 2) oM oM;have hc2:=Cells.cut hv (a:=l.length / 2) (b:=l.length) oM oM;rw[List.drop_zero,Nat.sub_zero] at hc1;rw[tL (by rw[List.length_drop]; exact lR _)] at hc2;have hf1:Fits (l.take (l.length / 2)):=⟨by rw[List.length_take]; omega,fun c hc=>hf.2 c (List.mem_of_mem_take hc)⟩;have hf2:Fits (l.drop (l.length / 2)):=⟨by rw[List.length_drop]; omega,fun c hc=>hf.2 c (List.mem_of_mem_drop hc)⟩;have hca:=canonC_length (l.take (l.length / 2));have hcb:=canonC_length (l.drop (l.length / 2));have hsa:=canonC_srt (l.take (l.length / 2));have hsb:=canonC_srt (l.drop (l.length / 2));have hst:Stab Cl.id (l.map normC) (canonC (l.take (l.length / 2))++canonC (l.drop (l.length / 2))):=by
     have h2:=(canonC_stab (l.take (l.length / 2))).append (canonC_stab (l.drop (l.length / 2)));rwa [← List.map_append,List.take_append_drop] at h2
    rw[List.length_take] at hca;rw[List.length_drop] at hcb;refine kP (tN (SC.sR (lM I (lM I (lU (eN uT27 I) (lU (SU.eq (v':=vi ((l.length / 2:Nat):Int)) (SU.quo I I dC) (congrArg vi (half_tdiv _ oM))) (lU (SU.sliceH uT27 zT54 I I oM oM) (lW (SO.call call71 I (ih g _ _ (l.take (l.length / 2)) (by rw[List.length_take]; omega) hc1 hf1)) ?_))))))));rintro va0 g1 _ ⟨rfl,hle1,hA⟩;refine lA I (SL.nT (SC.sR (lM I (lM I (lU (eN uT27 I) (lU (SU.eq (v':=vi ((l.length / 2:Nat):Int)) (SU.quo I I dC) (congrArg vi (half_tdiv _ oM))) (lU (SU.sliceL uT27 zT54 I I oM oM) (lW (SO.call call71 I (ih g1 _ _ (l.drop (l.length / 2)) (by rw[List.length_drop]; omega) (hc2.mono hle1) hf2)) ?_))))))));rintro vb0 g2 _ ⟨rfl,hle2,hB⟩;refine lA I (SL.nT (SC.sR (lA I (SL.nT ?_))));generalize hA0:canonC (l.take (l.length / 2))=A0 at *;generalize hB0:canonC (l.drop (l.length / 2))=B0 at *;refine SC.nilRow 54 3 ?_;refine SC.cut (ι:=Value×Value×Value×List Cl×List Cl×List Cl×List Rc) (fun i=>[(3,i.1),(4,i.2.1),(5,i.2.2.1)]) (fun _=>g2) (fun i=>rowA encCell 54 i.2.2.1 i.2.2.2.2.2.2::s)
     (fun i=>Cells g2 i.1 i.2.2.2.1∧Cells g2 i.2.1 i.2.2.2.2.1∧All2 (CellR g2) i.2.2.2.2.2.1 i.2.2.2.2.2.2∧i.2.2.2.2.2.1++i.2.2.2.1++i.2.2.2.2.1=canonC l) ?_ ?_
    ·refine bK ?_;refine oP (ι:=Value×Value×Value×List Cl×List Cl×List Cl×List Cl×List Cl×List Rc) (fun i=>[(3,i.1),(4,i.2.1),(5,i.2.2.1)]) (fun _=>g2) (fun i=>rowA encCell 54 i.2.2.1 i.2.2.2.2.2.2.2.2::s)
      (fun i=>(Cells g2 i.1 i.2.2.2.2.1∧Cells g2 i.2.1 i.2.2.2.2.2.2.1)∧All2 (CellR g2) i.2.2.2.2.2.2.2.1 i.2.2.2.2.2.2.2.2∧A0=i.2.2.2.1++i.2.2.2.2.1∧B0=i.2.2.2.2.2.1++i.2.2.2.2.2.2.1∧Srt Cl.id i.2.2.2.2.2.2.2.1∧Stab Cl.id (i.2.2.2.1++i.2.2.2.2.2.1) i.2.2.2.2.2.2.2.1 ∧
       (∀ y∈i.2.2.2.2.2.2.2.1,∀ z∈i.2.2.2.2.1++i.2.2.2.2.2.2.1,y.id≤z.id)∧(∀ y∈i.2.2.2.2.2.1,∀ z∈i.2.2.2.2.1,y.id<z.id)) (fun i=>i.2.2.2.2.1.length+i.2.2.2.2.2.2.1.length)
      (va0,vb0,.slice none 0 0,[],A0,[],B0,[],[]) sB rfl rfl ⟨⟨hA.mono hle2,hB⟩,trivial,rfl,rfl,Srt.nil,Stab.refl _,by simp,by simp⟩ ?_
     rintro ⟨va,vb1,vo,A1,A2,B1,B2,out,ro⟩ ⟨⟨hva,hvb⟩,hro,hA',hB',hso,hto,hout,hlt⟩;dsimp only at hva hvb hro hA' hB' hso hto hout hlt ⊢;have hol:out.length=A1.length+B1.length:=by have:=hto.1; simpa using this
     have hrol:=hro.length;have hAl:A0.length=A1.length+A2.length:=by rw[hA']; simp
     have hBl:B0.length=B1.length+B2.length:=by rw[hB']; simp
     rw[hA'] at hsa;rw[hB'] at hsb;have hsa2:=(Srt.append_iff.1 hsa).2.1;have hsb2:=(Srt.append_iff.1 hsb).2.1;obtain ⟨pa,ca,rfl⟩:=hva.form;obtain ⟨pb,cb,rfl⟩:=hvb.form;have hcapa:=(Cells.cap hva).2;have hcapb:=(Cells.cap hvb).2;have hfin:A2=[]∨B2=[]→out++A2++B2=canonC l:=fun h=>by
      rw[canonC_alt];refine eq_sortBy ?_ ?_
      ·rw[List.append_assoc];refine Srt.append_iff.2 ⟨hso,?_,hout⟩
       rcases h with rfl | rfl
       ·simpa using hsb2
       ·simpa using hsa2
      ·refine hst.trans ?_;rw[hA',hB']
       rcases h with rfl | rfl
       ·have h2:=hto.append (Stab.refl (key:=Cl.id) B2);simpa using h2
       ·have h3:Stab Cl.id (A2++B1) (B1++A2):=Stab.swap (fun x hx y hy=>by have:=hlt y hy x hx; omega);have h4:=(Stab.refl (key:=Cl.id) A1).append h3;have h5:=hto.append (Stab.refl (key:=Cl.id) A2);simp only[List.append_nil,List.append_assoc] at h4 h5 ⊢;exact h4.trans h5
     cases A2 with
     | nil =>
      refine sQ (SC.sR (lM I (lU (eN uT27 I) (lU (SU.eq (v':=vb false) (gR I I) I) (lM I (lZ I I I (lZ I I I (lZ I I I (lU (pF I I) (SL.nT (cF I (xI (tX (tX (bX ?_)))))))))))))));exact ST.mid (_,_,vo,[],B2,out,ro) sB I I ⟨hva,hvb,hro,hfin (.inl I)⟩
     | cons x A3 =>
      have hpa:(0:Int)<((x::A3).length:Int):=by simp
      cases B2 with
      | nil =>
       refine sQ (SC.sR (lM I (lU (eN uT27 I) (lU (SU.eq (v':=vb true) (gR I I) (congrArg vb (decide_eq_true hpa))) (lM I (lY I I I (mV I) (lY I I I (eN uT27 I) (lY I I I (SU.eq (v':=vb false) (gR I I) I) (lU (pT I I) (SL.nT (cF I (xI (tX (tX (bX ?_)))))))))))))));exact ST.mid (_,_,vo,x::A3,[],out,ro) sB I I ⟨hva,hvb,hro,hfin (.inr I)⟩
      | cons y B3 =>
       have hpb:(0:Int)<((y::B3).length:Int):=by simp
       obtain ⟨ra,hra,halla⟩:=hva;obtain ⟨rb,hrb,hallb⟩:=hvb;have hva:Cells g2 _ (x::A3):=⟨ra,hra,halla⟩;have hvb:Cells g2 _ (y::B3):=⟨rb,hrb,hallb⟩;have hna:=Cells.cut hva (a:=1) (b:=(x::A3).length) (by simp) (lR _);have hnb:=Cells.cut hvb (a:=1) (b:=(y::B3).length) (by simp) (lR _);have hda:((x::A3).drop 1).take ((x::A3).length - 1)=A3:=by simp
       have hdb:((y::B3).drop 1).take ((y::B3).length - 1)=B3:=by simp
       rw[hda] at hna;rw[hdb] at hnb;obtain ⟨x',ra',rfl,hx,_⟩:=All2.cons_left halla;obtain ⟨y',rb',rfl,hy,_⟩:=All2.cons_left hallb;have hba:=hra.based (by simp);have hbb:=hrb.based (by simp);have hlen3:A3.length+1+(B3.length+1)+out.length≤l.length:=by simp only[List.length_cons] at hAl hBl; omega
       refine sQ (SC.sR (lM I (lU (eN uT27 I) (lU (SU.eq (v':=vb true) (gR I I) (congrArg vb (decide_eq_true hpa))) (lM I (lY I I I (mV I) (lY I I I (eN uT27 I) (lY I I I (SU.eq (v':=vb true) (gR I I) (congrArg vb (decide_eq_true hpb))) (lU (pT I I) (SL.nT (cT I (kP (tN (bK (sQ ?_)))))))))))))));refine dW [] [(0,2),(1,2),(2,2),(3,1),(4,2),(5,2),(6,2),(7,1),(8,2)] Tryz.mixed (by kernel_rfl) ?_;refine pU I (mV I) (pU I (iA uT27 zT54 I I hbb dC hpb) (pU I (fC uT54 I zT3 I hbb) (pK I (pA (e:=encCell) (o:=0) (j:=0) (u:=vi y'.id) iT3 I hrb.rd I I) (pU I (mV I) (pU I (iA uT27 zT54 I I hba dC hpa) (pU I (fC uT54 I zT3 I hba) (pK I (pA (e:=encCell) (o:=0) (j:=0) (u:=vi x'.id) iT3 I hra.rd I I) (pU I (lS I I) (pN (tN ?_))))))))));refine iP I (fun hc=>?_) (fun hc=>?_)
       ·refine SC.sR (lM I (lM I (lU (iA uT27 zT54 I I hbb dC hpb) (lK (eA (e:=encCell) (a:=y') (j:=0) iT54 zT54 I hrb.rd I) (lW (SO.buildSlice sty27 I I I (szs_mk sB) dC) ?_)))));rintro _ _ _ ⟨b60,rfl,rfl,rfl⟩;refine lW (aP (e:=encCell) 0 y' sty27 I I I I I oM oM) ?_;rintro v61 _ _ ⟨rfl,rfl⟩;refine lA I (SL.nT (rG (lM I (lU (SU.sliceL uT27 zT54 I I dC (by simp only[List.length_cons]; omega)) ?_))));refine lA I (nL (bN ?_));rw[hx.1,hy.1] at hc;refine ST.again (_,_,v61,A1,x::A3,B1++[y],B3,out++[y],ro++[y']) sB I I ⟨⟨hva,hnb⟩,hro.append ⟨hy,trivial⟩,hA',by rw[hB']; simp,?_,?_,?_,?_⟩ lN
        ·refine Srt.append_iff.2 ⟨hso,Srt.one y,fun a ha b hb=>?_⟩;simp at hb; subst hb; exact hout a ha b (by simp)
        ·have h2:=hto.append (Stab.refl (key:=Cl.id) [y]);simpa using h2
        ·intro a ha b hb;dsimp only at ha hb
         rcases List.mem_append.1 ha with ha | ha
         ·refine hout a ha b ?_;simp at hb ⊢
          rcases hb with h | h | h
          ·exact .inl h
          ·exact .inr (.inl h)
          ·exact .inr (.inr (.inr h))
         ·simp at ha; subst ha
          rcases List.mem_append.1 hb with hb | hb
          ·rcases List.mem_cons.1 hb with rfl | hb
           ·omega
           ·have:=(Srt.cons_iff.1 hsa2).1 b hb; omega
          ·exact (Srt.cons_iff.1 hsb2).1 b hb
        ·intro a ha b hb;dsimp only at ha hb
         rcases List.mem_append.1 ha with ha | ha
         ·exact hlt a ha b hb
         ·simp at ha; subst ha
          rcases List.mem_cons.1 hb with rfl | hb
          ·omega
          ·have:=(Srt.cons_iff.1 hsa2).1 b hb; omega
       ·refine SC.sR (lM I (lM I (lU (iA uT27 zT54 I I hba dC hpa) (lK (eA (e:=encCell) (a:=x') (j:=0) iT54 zT54 I hra.rd I) (lW (SO.buildSlice sty27 I I I (szs_mk sB) dC) ?_)))));rintro _ _ _ ⟨b68,rfl,rfl,rfl⟩;refine lW (aP (e:=encCell) 0 x' sty27 I I I I I oM oM) ?_;rintro v69 _ _ ⟨rfl,rfl⟩;refine lA I (SL.nT (rG (lM I (lU (SU.sliceL uT27 zT54 I I dC (by simp only[List.length_cons]; omega)) ?_))));refine lA I (nL (bN ?_));rw[hx.1,hy.1] at hc;refine ST.again (_,_,v69,A1++[x],A3,B1,y::B3,out++[x],ro++[x']) sB I I ⟨⟨hna,hvb⟩,hro.append ⟨hx,trivial⟩,by rw[hA']; simp,hB',?_,?_,?_,?_⟩ lN
        ·refine Srt.append_iff.2 ⟨hso,Srt.one x,fun a ha b hb=>?_⟩;simp at hb; subst hb; exact hout a ha b (by simp)
        ·have h2:Stab Cl.id ([x]++B1) (B1++[x]):=Stab.swap (fun a ha b hb=>by simp at ha; subst ha; have:=hlt b hb a (by simp); omega);have h3:=(Stab.refl (key:=Cl.id) A1).append h2;have h4:=hto.append (Stab.refl (key:=Cl.id) [x]);dsimp only;simp only[List.append_assoc] at h3 h4 ⊢;exact h3.trans h4
        ·intro a ha b hb;dsimp only at ha hb
         rcases List.mem_append.1 ha with ha | ha
         ·refine hout a ha b ?_;simp at hb ⊢
          rcases hb with h | h | h
          ·exact .inr (.inl h)
          ·exact .inr (.inr (.inl h))
          ·exact .inr (.inr (.inr h))
         ·simp at ha; subst ha
          rcases List.mem_append.1 hb with hb | hb
          ·exact (Srt.cons_iff.1 hsa2).1 b hb
          ·rcases List.mem_cons.1 hb with rfl | hb
           ·omega
           ·have:=(Srt.cons_iff.1 hsb2).1 b hb; omega
        ·intro a ha b hb;exact hlt a ha b (by simp[hb])
    ·rintro ⟨va,vb1,vo,A2,B2,out,ro⟩ ⟨hva,hvb,hro,hres⟩;dsimp only at hva hvb hro hres ⊢;obtain ⟨ra,hra,halla⟩:=hva;obtain ⟨rb,hrb,hallb⟩:=hvb;have hl1:=congrArg List.length hres;rw[canonC_length] at hl1;simp only[List.length_append] at hl1;have e1:=hro.length;have e2:=halla.length;have e3:=hallb.length;refine SC.sR (lM I (lM I (lW (aQ (e:=encCell) 0 sty27 I I I hra oM oM) ?_)));rintro v74 _ _ ⟨rfl,rfl⟩;refine lM I (lW (aQ (e:=encCell) 0 sty27 I I I hrb lN lN) ?_);rintro v76 _ _ ⟨rfl,rfl⟩;refine lA I (SL.nT (rE (fT fun g3 hle3 hs3=>?_)));exact ST.ret1 (.inl I) results71 I ⟨I,hle1.trans (hle2.trans hle3),ro++ra++rb,hs3,by rw[← hres]; exact (((hro.append halla).append hallb).mono fun _ _=>CellR.mono hle3)⟩
theorem refCanon_spec (E:World)(g:PH)(s:Own)(v:Value)(l:List Cl)(hv:Cells g v l)(hf:Fits l) :
  Ctr Tryz.prog E 47 #[.agg #[v]] g s (fun r g' s'=>s=s'∧Le g g'∧∃ u,r = .agg #[u]∧Cells g' u (canonC l)):=by
 obtain ⟨p,c,rfl⟩:=hv.form;refine Ctr.of (args:=[.agg #[.slice p l.length c]]) func47 I ntmps47 (bE I) ?_;refine SC.sR (SL.bx (bO I) fun b1=>?_);refine SL.bx (aL zeroValue29) fun b2=>?_;refine SL.nT (SC.sR (lU (fA uT29 I zT27 I) (lK (qL iT27 I (cO 1 I I)) (lW (SO.call call71 I (ordered_spec E l.length g _ _ l (lR _) hv hf)) ?_))));rintro v5 g1 _ ⟨rfl,hle,h5⟩;obtain ⟨q,d,rfl⟩:=h5.form;refine lU (SU.build I (build29 _ I)) (SL.O2 (sK 0 zT29 I I I I I sB) ?_);refine SL.nT (rE ?_);exact ST.retCD 0 s (.inl I) results47 I iT29 zT29 I I (.cons _ (.cons _ (.refl _))) ⟨I,hle,_,I,h5⟩
theorem sameCell_spec (E:World)(g:PH)(s:Own)(a b:Cl)(ra rb:Rc)(ha:CellR g a ra)(hb:CellR g b rb)(hl:a.sides.length<1099511627776) :
  Ctr Tryz.prog E 48 #[rcv ra,rcv rb] g s (fun r g' s'=>r=vb (decide (a=b))∧g=g'∧s=s'):=by
 obtain ⟨p,c,rfl,hsa⟩:=cellR_form ha;obtain ⟨q,d,rfl,hsb⟩:=cellR_form hb;have f1:a.id≠b.id→(decide (a.id≠b.id)||decide (a.dim≠b.dim)||decide ((a.sides.length:Int)≠b.sides.length))=true:=fun h=>by simp[h]
 have f2:¬ a.id≠b.id→a.dim≠b.dim→(decide (a.id≠b.id)||decide (a.dim≠b.dim)||decide ((a.sides.length:Int)≠b.sides.length))=true:=fun h h2=>by simp[h,h2]
 have f3:¬ a.id≠b.id→¬ a.dim≠b.dim→(decide (a.id≠b.id)||decide (a.dim≠b.dim)||decide ((a.sides.length:Int)≠b.sides.length))=decide ((a.sides.length:Int)≠b.sides.length):=fun h h2=>by simp[h,h2]
 refine Ctr.of (args:=[.agg #[vi a.id,vi a.dim,.slice p a.sides.length c],.agg #[vi b.id,vi b.dim,.slice q b.sides.length d]]) func48 I ntmps48 (bE I) ?_;refine SC.sR (SL.bx (bO I) fun b2=>?_);refine SL.bx (bO I) fun b3=>?_;refine lA I (SL.nT (sQ ?_));refine SC.to (g':=g) (s':=pt b3 (.cells #[vi b.id,vi b.dim,.slice q b.sides.length d] 54 (0,0))::pt b2 (.cells #[vi a.id,vi a.dim,.slice p a.sides.length c] 54 (0,0))::s) (fun w hw=>hw) ?_;refine SC.cutB 26 ((decide (a.id≠b.id)||decide (a.dim≠b.dim)||decide ((a.sides.length:Int)≠b.sides.length))) ?_ ?_
 ·refine rG (lU (fA uT54 I zT3 I) (lK (qL (v:=vi a.id) iT3 I (cO 1 I I)) (lU (fA uT54 I zT3 I) (lK (qL (v:=vi b.id) iT3 I (cO 0 I I)) (lU (nQ I I) (lM I ?_))))));refine sP ?_ ?_
  ·intro h11;refine lZ I I I (lZ I I I (lZ I I I (lZ I I I (lZ I I I (lU (pT I I) (lM I (lZ I I I (lZ I I I (lZ I I I (lZ I I I (lZ I I I (lZ I I I (lZ I I I (lU (pT I I) (nL ?_)))))))))))))));exact ST.mid1 (by (rw[f1 h11]; rfl)) mI
  ·intro h11;refine lY I I I (fA uT54 I zT3 I) (SL.gq (gT I I I dC) (qL (v:=vi a.dim) iT3 I (cO 1 I I)) dC (lY I I I (fA uT54 I zT3 I) (SL.gq (gT I I I dC) (qL (v:=vi b.dim) iT3 I (cO 0 I I)) dC (lY I I I (nQ I I) (lU (pF I I) (lM I ?_))))));refine sP ?_ ?_
   ·intro h18;refine lZ I I I (lZ I I I (lZ I I I (lZ I I I (lZ I I I (lZ I I I (lZ I I I (lU (pT I I) (nL ?_))))))));exact ST.mid1 (by (rw[f2 h11 h18]; rfl)) mI
   ·intro h18;refine lY I I I (fA uT54 I zT37 I) (SL.gq (gT I I I dC) (qL (v:=.slice p a.sides.length c) iT37 I (cO 1 I I)) dC (lY I I I (eN uT37 I) (lY I I I (fA uT54 I zT37 I) (SL.gq (gT I I I dC) (qL (v:=.slice q b.sides.length d) iT37 I (cO 0 I I)) dC (lY I I I (eN uT37 I) (lY I I I (nQ I I) (lU (pF I I) (nL ?_))))))));exact ST.mid1 (by (rw[f3 h11 h18]; rfl)) mI
 refine iQ I (fun hbad=>?_) (fun hbad=>?_)
 ·refine SC.sR (lA I (SL.nT (rE (tR (dR (s':=s) (.cons _ (.cons _ (.refl _))) ?_)))));exact ST.ret1 (.inl I) results48 I ⟨congrArg vb (Eq.symm (decide_eq_false fun e=>by rw[e] at hbad; simp at hbad)),I,I⟩
 ·have hid:a.id=b.id:=by simp at hbad; exact hbad.1.1
  have hdim:a.dim=b.dim:=by simp at hbad; exact hbad.1.2
  have hln:a.sides.length=b.sides.length:=by simp at hbad; omega
  refine kP (tN (sQ (SC.sR (lA I (SL.nT (bK ?_))))));refine oP (ι:=Nat) (fun k=>[(2,pp b2 0),(3,pp b3 0),(5,vi k)]) (fun _=>g) (fun _=>pt b3 (.cells #[vi b.id,vi b.dim,.slice q b.sides.length d] 54 (0,0))::pt b2 (.cells #[vi a.id,vi a.dim,.slice p a.sides.length c] 54 (0,0))::s) (fun k=>k≤a.sides.length∧a.sides.take k=b.sides.take k) (fun k=>a.sides.length - k) 0
   sB rfl rfl ⟨Nat.zero_le _,by simp⟩ ?_
  rintro k ⟨hk,heq⟩;refine sQ (SC.sR (lM I (lU (fA uT54 I zT37 I) (lK (qL (v:=.slice p a.sides.length c) iT37 I (cO 1 I I)) (lU (eN uT37 I) (lU (lS I I) (SL.nT ?_)))))));refine iP I (fun hlt=>?_) (fun hlt=>?_)
  ·have hka:k<a.sides.length:=oM;have hkb:k<b.sides.length:=oM;have hb1:=hsa.based oM;have hb2:=hsb.based oM;refine kP (tN (sQ (bK (sQ ?_))));refine dW [] [(0,2),(1,1),(2,2),(3,2),(4,1),(5,2),(6,1),(7,2),(8,2),(9,1),(10,2)] Tryz.mixed (by kernel_rfl) ?_;refine pU I (fA uT54 I zT37 I) (pK I (qL (v:=.slice p a.sides.length c) iT37 I (cO 1 I I)) (pU I (mV I) (pU I (iA uT37 zT56 I I hb1 oM sL) ?_)));refine pQ I (eA iT56 zT56 I hsa.rd (gE hka)) dC ?_;refine pU I (fA uT54 I zT37 I) (pK I (qL (v:=.slice q b.sides.length d) iT37 I (cO 0 I I)) (pU I (mV I) (pU I (iA uT37 zT56 I I hb2 oM sL) ?_)));refine pQ I (eA iT56 zT56 I hsb.rd (gE hkb)) dC ?_;refine pU I (SU.neqSide I I) (pN (tN ?_));refine iP I (fun hne=>?_) (fun hne=>?_)
   ·refine SC.sR (lA I (SL.nT (rE (bR (tR (tR (bR (tR (dR (s':=s) (.cons _ (.cons _ (.refl _))) ?_)))))))));exact ST.ret1 (.inl I) results48 I ⟨congrArg vb (Eq.symm (decide_eq_false fun e=>hne (by simp[e]))),I,I⟩
   ·refine kP (bN (tN (rG (lM I (lU (aD I I oM) (lA I (nL ?_)))))));exact ST.again (k+1) sB I I ⟨oM,take_eq_succ hka hkb heq (Decidable.of_not_not hne)⟩ oM
  ·have hkk:k=a.sides.length:=oM;subst hkk;have hs:=take_eq_all hln heq;refine xI (tX (tX (bX (tN (SC.sR (lA I (SL.nT (rE (dR (s':=s) (.cons _ (.cons _ (.refl _))) ?_)))))))));exact ST.ret1 (.inl I) results48 I ⟨congrArg vb (Eq.symm (decide_eq_true (cl_eq.2 ⟨hid,hdim,hs⟩))),I,I⟩
theorem refEqual_spec (E:World)(g:PH)(s:Own)(v u:Value)(l m:List Cl)(hv:Cells g v l)(hu:Cells g u m)(hl:Fits l)(hm:Fits m) :
  Ctr Tryz.prog E 22 #[.agg #[v],.agg #[u]] g s (fun r g' s'=>r=vb (decide (canonC l=canonC m))∧s=s'∧Le g g'):=by
 have hfl:=(canonC_fits hl).1;obtain ⟨pv,cv,rfl⟩:=hv.form;obtain ⟨pu,cu,rfl⟩:=hu.form;refine Ctr.of (args:=[.agg #[.slice pv l.length cv],.agg #[.slice pu m.length cu]]) func22 I ntmps22 (bE I) ?_;refine SC.sR (SL.bx (bO I) fun b2=>?_);refine SL.bx (bO I) fun b3=>?_;refine lA I (SL.nT (SC.sR (lK (qV 1 iT29 zT29 I I I) (lW (SO.call call47 I (refCanon_spec E g _ _ l hv hl)) ?_))));rintro _ g1 _ ⟨rfl,hle1,x,rfl,hx⟩;obtain ⟨p,c,rfl⟩:=hx.form;refine lU (SU.field uT29 I iT27 I I) (lA I (SL.nT (SC.sR (lK (qV 0 iT29 zT29 I I I) (lW (SO.call call47 I (refCanon_spec E g1 _ _ m (hu.mono hle1) hm)) ?_)))));rintro _ g2 _ ⟨rfl,hle2,y,rfl,hy⟩;obtain ⟨q,d,rfl⟩:=hy.form;have hx2:=hx.mono hle2;obtain ⟨rx,hrx,hax⟩:=hx2;obtain ⟨ry,hry,hay⟩:=hy;have exl:=hax.length;have eyl:=hay.length;refine lU (SU.field uT29 I iT27 I I) (lA I (SL.nT (sQ (SC.sR (lM I (lU (eN uT27 I) (lM I (lU (eN uT27 I) (lU (nQ I I) (SL.nT ?_))))))))));refine iP I (fun hne=>?_) (fun hne=>?_)
 ·refine SC.sR (lA I (SL.nT (rE (tR (dR (s':=s) (.cons _ (.cons _ (.refl _))) ?_)))));exact ST.ret1 (.inl I) results22 I ⟨congrArg vb (Eq.symm (decide_eq_false fun e=>hne (by rw[e]))),I,hle1.trans hle2⟩
 ·have hln:(canonC l).length=(canonC m).length:=oM;refine kP (tN (sQ (SC.sR (lA I (SL.nT (bK ?_))))));refine oP (ι:=Nat) (fun k=>[(5,.slice p (canonC l).length c),(6,.slice q (canonC m).length d),(7,vi k)]) (fun _=>g2) (fun _=>pt b3 (.cells #[.slice pu m.length cu] 29 (0,0))::pt b2 (.cells #[.slice pv l.length cv] 29 (0,0))::s) (fun k=>k≤(canonC l).length∧(canonC l).take k=(canonC m).take k) (fun k=>(canonC l).length - k) 0
   sB rfl rfl ⟨Nat.zero_le _,by simp⟩ ?_
  rintro k ⟨hk,heq⟩;refine sQ (SC.sR (lM I (lM I (lU (eN uT27 I) (lU (lS I I) (SL.nT ?_))))));refine iP I (fun hlt=>?_) (fun hlt=>?_)
  ·have hka:k<(canonC l).length:=oM;have hkb:k<(canonC m).length:=oM;have hra:k<rx.length:=oM;have hrb:k<ry.length:=oM;have hb1:=hrx.based oM;have hb2:=hry.based oM;have hcx:=hax.get (gE hka) (gE hra);have hcy:=hay.get (gE hkb) (gE hrb);have hxl:=(canonC_fits hl).2 _ (gM hka);have hr1:=hrx.rd (s:=pt b3 (.cells #[.slice pu m.length cu] 29 (0,0))::pt b2 (.cells #[.slice pv l.length cv] 29 (0,0))::s);have hr2:=hry.rd (s:=pt b3 (.cells #[.slice pu m.length cu] 29 (0,0))::pt b2 (.cells #[.slice pv l.length cv] 29 (0,0))::s);refine kP (tN (sQ (bK (sQ ?_))));refine dW [] [(0,2),(1,2),(2,2),(3,1),(4,2),(5,2),(6,2),(7,1),(8,0),(9,2)] Tryz.mixed (by kernel_rfl) ?_;refine pU I (mV I) (pU I (mV I) (pU I (iA uT27 zT54 I I hb1 oM sL) ?_));refine pQ I (eA iT54 zT54 I hr1 (gE hra)) dC ?_;refine pU I (mV I) (pU I (mV I) (pU I (iA uT27 zT54 I I hb2 oM sL) ?_));refine pQ I (eA iT54 zT54 I hr2 (gE hrb)) dC ?_;refine SP.o rfl (SO.call call48 rfl (sameCell_spec E g2 _ _ _ _ _ hcx hcy hxl)) dC (.inr (by rintro _ _ _ ⟨rfl,rfl,rfl⟩; exact⟨by exact Le.refl _,(by exact .refl _)⟩)) ?_;rintro _ _ _ ⟨rfl,rfl,rfl⟩;refine pU I (aS I) (pN (tN (SC.sR (lM I (lU (SU.notP I) (SL.nT ?_))))));refine iP I (fun hd=>?_) (fun hd=>?_)
   ·refine SC.sR (lA I (SL.nT (rE (bR (tR (tR (bR (tR (dR (s':=s) (.cons _ (.cons _ (.refl _))) ?_)))))))));exact ST.ret1 (.inl I) results22 I ⟨congrArg vb (Eq.symm (decide_eq_false fun e=>hd (by simp[e]))),I,hle1.trans hle2⟩
   ·refine kP (bN (tN (rG (lM I (lU (aD I I oM) (lA I (nL ?_)))))));exact ST.again (k+1) sB I I ⟨oM,take_eq_succ hka hkb heq (Decidable.of_not_not hd)⟩ oM
  ·have hkk:k=(canonC l).length:=oM;subst hkk;have hs:=take_eq_all hln heq;refine xI (tX (tX (bX (tN (SC.sR (lA I (SL.nT (rE (dR (s':=s) (.cons _ (.cons _ (.refl _))) ?_)))))))));exact ST.ret1 (.inl I) results22 I ⟨congrArg vb (Eq.symm (decide_eq_true hs)),I,hle1.trans hle2⟩
theorem foldl_ids (l:List Cl):∀ (acc:List Cl) (c:Cl),(c∈acc∨c∈l)→∃ x∈l.foldl addC acc,x.id=c.id:=by
 induction l with
 | nil=>intro acc c h; rcases h with h | h; exact⟨c,h,rfl⟩; simp at h
 | cons y r ih =>
  intro acc c h;simp only[List.foldl_cons]
  rcases h with h | h
  ·exact ih (addC acc y) c (.inl (by unfold addC; split; exact h; simp[h]))
  ·rcases List.mem_cons.1 h with rfl | h
   ·by_cases ha:acc.any (fun x=>x.id == c.id)=true
    ·rw[addC_old ha];rw[List.any_eq_true] at ha;obtain ⟨z,hz,he⟩:=ha;obtain ⟨x,hx,hxe⟩:=ih acc z (.inl hz);exact⟨x,hx,by rw[hxe]; simpa using he⟩
    ·have ha':acc.any (fun x=>x.id == c.id)=false:=by simpa using ha
     rw[addC_new ha'];exact ih _ c (.inl (by simp))
   ·exact ih _ c (.inr h)
theorem srt_any {L:List Cl}(hs:Srt Cl.id L){k:Nat}(h0:0<k)(hk:k<L.length):((L.take k).foldl addC []).any (fun x=>x.id == L[k].id)=decide (L[k].id=(L[k - 1]'oM).id):=by
 rw[Bool.eq_iff_iff,List.any_eq_true,decide_eq_true_iff];constructor
 ·rintro ⟨x,hx,he⟩;have hm:=(mem_foldl _ [] x hx).resolve_left (by simp);obtain ⟨j,hj,rfl⟩:=List.getElem_of_mem hm;rw[List.length_take] at hj;rw[List.getElem_take] at he;have he':(L[j]'oM).id=L[k].id:=by simpa using he
  rcases Nat.lt_or_ge j (k - 1) with h | h
  ·have h1:=List.pairwise_iff_getElem.1 hs j (k - 1) oM oM h;have h2:=List.pairwise_iff_getElem.1 hs (k - 1) k oM hk oM;omega
  ·have:j=k - 1:=oM;subst this;exact he'.symm
 ·intro he;have hm:(L[k - 1]'oM)∈L.take k:=by
   have:k - 1<(L.take k).length:=by rw[List.length_take]; omega
   have h2:=gM this;rwa [List.getElem_take] at h2
  obtain ⟨x,hx,hxe⟩:=foldl_ids (L.take k) [] _ (.inr hm);exact⟨x,hx,by rw[hxe,← he]; simp⟩
theorem refCells_spec (E:World)(g:PH)(s:Own)(v:Value)(l:List Cl)(hv:Cells g v l)(hf:Fits l) :
  Ctr Tryz.prog E 42 #[.agg #[v]] g s (fun r g' s'=>s=s'∧Le g g'∧Cells g' r (tabC l)):=by
 obtain ⟨p,c,rfl⟩:=hv.form;have hsrt:=canonC_srt l;have hcl:=canonC_length l;have hfl:=hf.1;refine Ctr.of (args:=[.agg #[.slice p l.length c]]) func42 I ntmps42 (bE I) ?_;refine SC.sR (SL.bx (bO I) fun b1=>?_);refine lA I (SL.nT (SC.sR (lU (fA uT29 I zT27 I) (lK (qL iT27 I (cO 0 I I)) (lW (SO.call call71 I (ordered_spec E l.length g _ _ l (lR _) hv hf)) ?_)))));rintro v8 g1 _ ⟨rfl,hle,h8⟩;obtain ⟨rs,hrs,hall⟩:=h8;have hrl:=hall.length;obtain ⟨q,d,rfl⟩:=hrs.form;refine lA I (SL.nT (SC.sR (lA I (SL.nT (sQ (SC.sR (lA I (SL.nT (bK (SC.nilRow 54 3 ?_))))))))));refine oP (ι:=Value×Nat×List Rc) (fun i=>[(3,.slice q rs.length d),(4,i.1),(5,vi i.2.1)]) (fun _=>g1) (fun i=>rowA encCell 54 i.1 i.2.2::pt b1 (.cells #[.slice p l.length c] 29 (0,0))::s)
  (fun i=>i.2.1≤rs.length∧All2 (CellR g1) (((canonC l).take i.2.1).foldl addC []) i.2.2) (fun i=>rs.length - i.2.1) (.slice none 0 0,0,[]) sB rfl rfl ⟨Nat.zero_le _,by simp[All2]⟩ ?_
 rintro ⟨ov,k,acc⟩ ⟨hk,hacc⟩;dsimp only at hk hacc ⊢;have hal:=hacc.length;have hal2:=foldl_add_length ((canonC l).take k) [];simp only[List.length_take,List.length_nil] at hal2;refine sQ (SC.sR (lM I (lM I (lU (eN uT27 I) (lU (lS I I) (SL.nT ?_))))));refine iP I (fun hlt=>?_) (fun hlt=>?_)
 ·have hkr:k<rs.length:=oM;have hkl:k<(canonC l).length:=oM;have hb1:=hrs.based oM;have hcr:=hall.get (gE hkl) (gE hkr);have htake:((canonC l).take (k+1)).foldl addC []=addC (((canonC l).take k).foldl addC []) (canonC l)[k]:=by
   rw[tS hkl,List.foldl_append]; rfl
  have hgx:rs[((k:Nat):Int).toNat]?=some rs[k]:=gE hkr;have hnew:addC (((canonC l).take k).foldl addC []) (canonC l)[k]=((canonC l).take k).foldl addC []++[(canonC l)[k]]→All2 (CellR g1) (((canonC l).take (k+1)).foldl addC []) (acc++[rs[k]]):=fun h=>by
   rw[htake,h]; exact hacc.append ⟨hcr,trivial⟩
  by_cases hk0:k=0
  ·subst hk0;refine kP (tN (sQ (bK (sQ ?_))));refine dW [] [(0,2),(1,2),(2,2),(3,2),(4,2),(5,2),(6,2),(7,1),(8,2),(9,2),(10,2),(11,2),(12,2),(13,1),(14,2),(15,2)] Tryz.mixed (by kernel_rfl) ?_;refine pU I (mV I) (pU I (SU.eq (v':=vb true) (eQ I I) I) (pU I (mV I) (fP I (gF I I I dC) dC (fP I (gF I I I dC) dC (fP I (gF I I I dC) dC (fP I (gF I I I dC) dC (SP.off1 I (gF I I I dC) dC (fP I (gF I I I dC) dC (fP I (gF I I I dC) dC (fP I (gF I I I dC) dC (fP I (gF I I I dC) dC (fP I (gF I I I dC) dC (SP.off1 I (gF I I I dC) dC (fP I (gF I I I dC) dC (pU I (pT I I) (pN (tN (cT I (rG (lM I (lM I (lM I (lU (iA uT27 zT54 I I hb1 oM sL) (lK (eA iT54 zT54 I hrs.rd hgx) (lW (SO.buildSlice sty27 I I I (szs_mk sB) dC) ?_)))))))))))))))))))))))));rintro _ _ _ ⟨b36,rfl,rfl,rfl⟩;refine lW (aP (e:=encCell) 0 rs[0] sty27 I I I I I oM oM) ?_;rintro v37 _ _ ⟨rfl,rfl⟩;refine lA I (nL (bN (tN (rG (lM I (lU (aD I I oM) (lA I (nL ?_))))))));exact ST.again (v37,0+1,acc++[rs[0]]) sB I I ⟨lN,hnew (addC_new (by simp))⟩ lN
  ·have hk1:k - 1<rs.length:=oM;have hk1l:k - 1<(canonC l).length:=oM;have hany:=srt_any hsrt (by omega:0<k) hkl;have hcr1:=hall.get (gE hk1l) (gE hk1);have hgy:rs[((k:Int) - 1).toNat]?=some rs[k - 1]:=by rw[show ((k:Int) - 1).toNat=k - 1 by omega]; exact gE hk1
   refine kP (tN (sQ (bK (sQ ?_))));refine dW [] [(0,2),(1,2),(2,2),(3,2),(4,2),(5,2),(6,2),(7,1),(8,2),(9,2),(10,2),(11,2),(12,2),(13,1),(14,2),(15,2)] Tryz.mixed (by kernel_rfl) ?_;refine pU I (mV I) (pU I (SU.eq (v':=vb false) (eQ I I) (congrArg vb (decide_eq_false oM))) (pU I (mV I) (SP.gu I (gT I I I dC) (mV I) dC (SP.gu I (gT I I I dC) (mV I) dC (SP.gu I (gT I I I dC) (iA uT27 zT54 I I hb1 oM sL) dC (SP.gu I (gT I I I dC) (fC uT54 I zT3 I hb1) dC (SP.gq I (gT I I I dC) (pA (e:=encCell) (o:=0) (u:=vi rs[k].id) iT3 I hrs.rd hgx I) dC (SP.gu I (gT I I I dC) (mV I) dC (SP.gu I (gT I I I dC) (mV I) dC (SP.gu I (gT I I I dC) (sU I I oM) dC (SP.gu I (gT I I I dC) (iA uT27 zT54 I I hb1 oM sL) dC (SP.gu I (gT I I I dC) (fC uT54 I zT3 I hb1) dC (SP.gq I (gT I I I dC) (pA (e:=encCell) (o:=0) (u:=vi rs[k - 1].id) iT3 I hrs.rd hgy I) dC (SP.gu I (gT I I I dC) (nQ I I) dC (pU I (pF I I) (pN (tN ?_)))))))))))))))));refine iP I (fun hne=>?_) (fun hne=>?_)
   ·refine rG (lM I (lM I (lM I (lU (iA uT27 zT54 I I hb1 oM sL) (lK (eA iT54 zT54 I hrs.rd hgx) (lW (SO.buildSlice sty27 I I I (szs_mk sB) dC) ?_))))));rintro _ _ _ ⟨b36,rfl,rfl,rfl⟩;refine lW (aP (e:=encCell) 0 rs[k] sty27 I I I I I oM oM) ?_;rintro v37 _ _ ⟨rfl,rfl⟩;refine lA I (nL (bN (tN (rG (lM I (lU (aD I I oM) (lA I (nL ?_))))))));rw[hcr.1,hcr1.1] at hne;exact ST.again (v37,k+1,acc++[rs[k]]) sB I I ⟨lN,hnew (addC_new (by rw[hany]; exact decide_eq_false hne))⟩ lN
   ·refine kP (bN (tN (rG (lM I (lU (aD I I oM) (lA I (nL ?_)))))));rw[hcr.1,hcr1.1] at hne;exact ST.again (ov,k+1,acc) sB I I ⟨lN,by dsimp only; rw[htake,addC_old (by rw[hany]; exact decide_eq_true (Decidable.of_not_not hne))]; exact hacc⟩ lN
 ·have hkk:(canonC l).take k=canonC l:=tL oM;rw[hkk] at hacc;refine xI (tX (tX (bX (tN (SC.sR (lM I (lA I (SL.nT (rE (fT fun g2 hle2 hs2=>?_))))))))));refine dR (s':=s) (.cons _ (.refl _)) ?_;exact ST.ret1 (.inl I) results42 I ⟨I,hle.trans hle2,acc,hs2,hacc.mono fun _ _=>CellR.mono hle2⟩
def atC (l:List Cl)(id:Int):Int:=if (l.map Cl.id).contains id then lbI (l.map Cl.id) id else -1
theorem at_spec (E:World)(g:PH)(s:Own)(v:Value)(l:List Cl)(id:Int)(hv:Cells g v l)(hl:l.length<1099511627776)(hs:(l.map Cl.id).Pairwise (· ≤ ·)) :
  Ctr Tryz.prog E 62 #[v,vi id] g s (fun r g' s'=>r=vi (atC l id)∧g=g'∧s=s'):=by
 obtain ⟨rs,hrs,hall⟩:=hv;have hrl:=hall.length;obtain ⟨p,c,rfl⟩:=hrs.form;have hids:=all2_ids hall;have hml:(l.map Cl.id).length=l.length:=by simp
 have hri:∀ k (h:k<(l.map Cl.id).length) (h2:k<rs.length),(l.map Cl.id)[k]=rs[k].id:=fun k h h2=>by simp only[hids]; simp
 unfold atC;refine Ctr.of (args:=[.slice p rs.length c,vi id]) func62 I ntmps62 (bE I) ?_;refine SC.sR (lA I (SL.nT (SC.sR (lA I (SL.nT (SC.sR (lM I (lU (eN uT27 I) (lA I (SL.nT ?_))))))))));generalize l.map Cl.id=L at *;refine SC.cut (ι:=Nat) (fun i=>[(0,.slice p rs.length c),(1,vi id),(5,vi i)]) (fun _=>g) (fun _=>s) (fun i=>i≤L.length∧(∀ k (h:k<L.length),k<i→L[k]<id)∧∀ k (h:k<L.length),i≤k→id≤L[k]) ?_ ?_
 ·refine bK ?_;refine oP (ι:=Nat×Nat) (fun q=>[(0,.slice p rs.length c),(1,vi id),(5,vi q.1),(6,vi q.2)]) (fun _=>g) (fun _=>s)
   (fun q=>q.1≤q.2∧q.2≤L.length∧(∀ k (h:k<L.length),k<q.1→L[k]<id)∧∀ k (h:k<L.length),q.2≤k→id≤L[k]) (fun q=>q.2 - q.1) (0,L.length)
   ⟨rfl,rfl,rfl,vi_eq oM,trivial⟩ rfl rfl ⟨Nat.zero_le _,lR _,fun k _ h=>absurd h oM,fun k h1 h2=>absurd h1 (by dsimp only at h2; omega)⟩ ?_
  rintro ⟨i,j⟩ ⟨hij,hj,hlo,hhi⟩;dsimp only at hij hj hlo hhi ⊢;refine sQ (SC.sR (lM I (lM I (lU (lS I I) (SL.nT ?_)))));refine iP I (fun hlt=>?_) (fun hlt=>?_)
  ·have hb1:=hrs.based oM;have hml2:(i+j) / 2<L.length:=oM;have hmr:(i+j) / 2<rs.length:=oM;have hmx:rs[((((i+j) / 2:Nat):Int)).toNat]?=some rs[(i+j) / 2]:=gE hmr;have hmi:=hri _ hml2 hmr;refine kP (tN (bK (SC.sR (lM I (lM I (lU (aD I I oM) (lU (SU.eq (v':=vi (((i+j) / 2:Nat):Int)) (SU.quo I I dC) (congrArg vi (by rw[← Int.natCast_add]; exact half_tdiv _ oM))) ?_)))))));refine lA I (SL.nT (SC.sR (lM I (lM I (lU (iA uT27 zT54 I I hb1 oM sL) (lU (fC uT54 I zT3 I hb1) (lK (pA (e:=encCell) (o:=0) (u:=vi rs[(i+j) / 2].id) iT3 I hrs.rd hmx I) (lM I (lU (lS I I) (SL.nT ?_))))))))));refine iP I (fun hc=>?_) (fun hc=>?_)
   ·refine rG (lM I (lU (aD I I oM) (lA I (nL (bN ?_)))));refine ST.again ((i+j) / 2+1,j) sB I I ⟨lN,hj,fun k hk h=>?_,hhi⟩ lN;dsimp only at h;rw[← hmi] at hc
    rcases Nat.eq_or_lt_of_le (show k≤(i+j) / 2 by omega) with rfl | h'
    ·exact hc
    ·have:=List.pairwise_iff_getElem.1 hs k ((i+j) / 2) hk hml2 h';omega
   ·refine rG (lM I (lA I (nL (bN ?_))));refine ST.again (i,(i+j) / 2) sB I I ⟨lN,lN,hlo,fun k hk h=>?_⟩ lN;dsimp only at h;rw[← hmi] at hc
    rcases Nat.eq_or_lt_of_le (show (i+j) / 2≤k by omega) with h' | h'
    ·subst h'; omega
    ·have:=List.pairwise_iff_getElem.1 hs ((i+j) / 2) k hml2 hk h';omega
  ·have hie:i=j:=oM;subst hie;refine xI (tX (tX (bX ?_)));exact ST.mid i sB I I ⟨hj,hlo,hhi⟩
 ·rintro i ⟨hj,hlo,hhi⟩;have hlb:=lb_eq hj hlo hhi;by_cases hin:(i:Int)<(rs.length:Int)
  ·have hir:i<rs.length:=oM;have hil:i<L.length:=oM;have hb1:=hrs.based oM;have hmx:rs[((i:Nat):Int).toNat]?=some rs[i]:=gE hir;have hmi:=hri _ hil hir;have hfnd:=found_eq hs hlo hhi hil;refine sQ (SC.sR (lM I (lM I (lU (eN uT27 I) (lU (SU.eq (v':=vb true) (lS I I) (congrArg vb (decide_eq_true hin))) (lM I (lY I I I (mV I) (lY I I I (mV I) (lY I I I (iA uT27 zT54 I I hb1 oM sL) (lY I I I (fC uT54 I zT3 I hb1) (SL.gq (gT I I I dC) (pA (e:=encCell) (o:=0) (u:=vi rs[i].id) iT3 I hrs.rd hmx I) dC (lY I I I (mV I) (lY I I I (eQ I I) (lU (pT I I) (SL.nT ?_)))))))))))))));refine iP I (fun hc=>?_) (fun hc=>?_)
   ·refine SC.sR (lM I (lA I (SL.nT (rE (tR ?_)))));rw[← hmi] at hc;exact ST.ret1 (.inl I) results62 I ⟨by rw[← hfnd,decide_eq_true hc,if_pos I,hlb],I,I⟩
   ·refine kP (tN (SC.sR (lA I (SL.nT (rE ?_)))));rw[← hmi] at hc;exact ST.ret1 (.inl rfl) results62 rfl ⟨by rw[← hfnd,decide_eq_false hc]; rfl,rfl,rfl⟩
  ·have hnf:=notFound hlo oM;refine sQ (SC.sR (lM I (lM I (lU (eN uT27 I) (lU (SU.eq (v':=vb false) (lS I I) (congrArg vb (decide_eq_false hin))) (lM I (lZ I I I (lZ I I I (lZ I I I (lZ I I I (lZ I I I (lZ I I I (lZ I I I (lU (pF I I) (SL.nT (cF I (kP (tN (SC.sR (lA I (SL.nT (rE ?_))))))))))))))))))))));exact ST.ret1 (.inl rfl) results62 rfl ⟨by rw[hnf]; rfl,rfl,rfl⟩
theorem lbI_split {l:List Int}(hs:l.Pairwise (· ≤ ·))(x:Int):(∀ k (h:k<l.length),k<lbI l x→l[k]<x)∧(∀ k (h:k<l.length),lbI l x≤k→x≤l[k]):=by
 induction l with
 | nil=>exact⟨fun k h=>absurd h (by simp),fun k h=>absurd h (by simp)⟩
 | cons a r ih =>
  obtain ⟨h1,h2⟩:=List.pairwise_cons.1 hs;obtain ⟨i1,i2⟩:=ih h2;by_cases ha:a<x
  ·have hl:lbI (a::r) x=lbI r x+1:=by simp[lbI,ha]
   rw[hl];refine⟨fun k h hk=>?_,fun k h hk=>?_⟩
   ·cases k with
    | zero=>exact ha
    | succ k=>exact i1 k (by simpa using h) oM
   ·cases k with
    | zero=>omega
    | succ k=>exact i2 k (by simpa using h) oM
  ·have hz:lbI (a::r) x=0:=by
    unfold lbI;rw[List.length_eq_zero_iff,List.filter_eq_nil_iff];intro y hy
    rcases List.mem_cons.1 hy with rfl | hy
    ·simpa using Int.not_lt.1 ha
    ·have:=h1 y hy; simp; omega
   rw[hz];refine⟨fun k h hk=>absurd hk oM,fun k h _=>?_⟩;cases k with
   | zero=>exact Int.not_lt.1 ha
   | succ k =>
    have hk':k<r.length:=by simpa using h
    have:=h1 r[k] (gM hk');simp;omega
theorem at_find {tl:List Cl}(hs:(tl.map Cl.id).Pairwise (· ≤ ·))(id:Int):(findT tl id=none∧atC tl id = -1)∨∃ c k,findT tl id=some c∧atC tl id=((k:Nat):Int)∧tl[k]?=some c:=by
 obtain ⟨h1,h2⟩:=lbI_split hs id;by_cases hc:(tl.map Cl.id).contains id=true
 ·right;have hm:id∈tl.map Cl.id:=by simpa using hc
  obtain ⟨c0,hc0,e0⟩:=List.mem_map.1 hm;cases hf:findT tl id with
  | none =>
   have:=List.find?_eq_none.1 hf c0 hc0;simp[e0] at this
  | some c =>
   have hi:lbI (tl.map Cl.id) id<tl.length:=by
    rcases Nat.lt_or_ge (lbI (tl.map Cl.id) id) tl.length with h | h
    ·exact h
    ·obtain ⟨j,hj,rfl⟩:=List.getElem_of_mem hc0;have:=h1 j (by simpa using hj) oM;simp at this;omega
   refine⟨c,lbI (tl.map Cl.id) id,I,by unfold atC; rw[if_pos hc],?_⟩;rw[gE hi];have hge:=h2 _ (by simpa using hi) (lR _);have hid:tl[lbI (tl.map Cl.id) id].id=id:=by
    obtain ⟨j,hj,rfl⟩:=List.getElem_of_mem hc0;have hji:lbI (tl.map Cl.id) id≤j:=by
     rcases Nat.lt_or_ge j (lbI (tl.map Cl.id) id) with h | h
     ·have:=h1 j (by simpa using hj) h; simp at this; omega
     ·exact h
    rcases Nat.eq_or_lt_of_le hji with h | h
    ·simp only[h]; exact e0
    ·have h3:=List.pairwise_iff_getElem.1 hs _ j (by simpa using hi) (by simpa using hj) h;simp at h3 hge;omega
   unfold findT at hf;rw[List.find?_eq_some_iff_getElem] at hf;obtain ⟨hp,j,hj,ej,hlt⟩:=hf;have hp':c.id=id:=by simpa using hp
   congr 1;rw[← ej];have hji:j=lbI (tl.map Cl.id) id:=by
    rcases Nat.lt_trichotomy j (lbI (tl.map Cl.id) id) with h | h | h
    ·have:=h1 j (by simpa using hj) h; simp[ej,hp'] at this
    ·exact h
    ·have:=hlt _ h; simp[hid] at this
   simp only[hji]
 ·left;have hn:id ∉ tl.map Cl.id:=by simpa using hc
  refine⟨?_,by unfold atC; rw[if_neg hc]⟩;unfold findT;rw[List.find?_eq_none];intro x hx;simp;exact fun e=>hn (List.mem_map.2 ⟨x,hx,e⟩)
theorem two_signs {l:List Side}(h2:l.length=2)(hns:l.any signBad=false):∃ a b,l=[a,b]∧(decide (sumS l≠0))=decide (a.sign=b.sign):=by
 match l,h2 with
 | [a,b],_ =>
  simp only[List.any_cons,List.any_nil,Bool.or_false,Bool.or_eq_false_iff] at hns;have e1:a.sign=1∨a.sign = -1:=by
   have h1:=hns.1;simp only[signBad,Bool.and_eq_false_iff,decide_eq_false_iff_not,ne_eq,Decidable.not_not] at h1;exact h1
  have e2:b.sign=1∨b.sign = -1:=by
   have h1:=hns.2;simp only[signBad,Bool.and_eq_false_iff,decide_eq_false_iff_not,ne_eq,Decidable.not_not] at h1;exact h1
  refine⟨a,b,I,?_⟩;rw[Bool.eq_iff_iff];simp[sumS];omega
theorem first_spec (E:World)(g:PH)(s:Own)(v:Value)(tl:List Cl)(c:Cl)(r:Rc)(hv:Cells g v tl)(htl:tl.length<1099511627776)(hs:(tl.map Cl.id).Pairwise (· ≤ ·))(hc:CellR g c r)(hl:c.sides.length<1099511627776) :
  Ctr Tryz.prog E 103 #[v,rcv r] g s (fun r g' s'=>r=vi (formC tl c)∧g=g'∧s=s'):=by
 obtain ⟨rs,hrs,hall⟩:=hv;have hv:Cells g v tl:=⟨rs,hrs,hall⟩;have hrl:=hall.length;obtain ⟨vp,vc,rfl⟩:=hrs.form;obtain ⟨rp,rcap,rfl,hcs⟩:=cellR_form hc;have hx0:=fun h=>hcs.based h;refine Ctr.of (args:=[.slice vp rs.length vc,.agg #[vi c.id,vi c.dim,.slice rp c.sides.length rcap]]) func103 I ntmps103 (bE I) ?_;refine SC.sR (SL.bx (bO I) fun b3=>?_);refine lA I (SL.nT (sQ ?_));refine SC.to (g':=g) (s':=pt b3 (.cells #[vi c.id,vi c.dim,.slice rp c.sides.length rcap] 54 (0,0))::s) (fun w hw=>hw) ?_;refine SC.cutB 16 (dimBad c) ?_ ?_
 ·refine rG (lU (fA uT54 I zT3 I) (lK (qL (v:=vi c.dim) iT3 I (cO 0 I I)) (lU (lS I I) (lM I ?_))));refine sP ?_ ?_
  ·intro h12;refine lZ I I I (lZ I I I (lZ I I I (lU (pT I I) (nL ?_))));exact ST.mid1 (by simp_all[get?,dimBad] <;> omega) mI
  ·intro h12;refine lY I I I (fA uT54 I zT3 I) (SL.gq (gT I I I dC) (qL (v:=vi c.dim) iT3 I (cO 0 I I)) dC (lY I I I (gR I I) (lU (pF I I) (nL ?_))));exact ST.mid1 (by simp_all[get?,dimBad] <;> omega) mI
 refine iQ I (fun hdb=>?_) (fun hdb=>?_)
 ·refine SC.sR (lA I (SL.nT (rE (tR (dR (s':=s) (.cons _ (.refl _)) ?_)))));exact ST.ret1 (.inl I) results103 I ⟨by unfold formC; rw[if_pos hdb],I,I⟩
 ·have hd8:0≤c.dim∧c.dim≤8:=by simp[dimBad] at hdb; omega
  refine kP (tN (SC.sR (lU (fA uT54 I zT37 I) (lK (qL (v:=.slice rp c.sides.length rcap) iT37 I (cO 0 I I)) (lU (eN uT37 I) (lA I (SL.nT (sQ ?_))))))));refine SC.cutB 48 (cntBad c) ?_ ?_
  ·refine rG (lU (fA uT54 I zT3 I) (lK (qL (v:=vi c.dim) iT3 I (cO 0 I I)) (lU (eQ I I) (lM I ?_))));refine sP ?_ ?_
   ·intro h23;refine lY I I I (mV I) (lY I I I (gR I I) (lU (pT I I) (lM I ?_)));refine sP ?_ ?_
    ·intro h27;refine lZ I I I (lZ I I I (lZ I I I (lZ I I I (SL.off (Gd.off I I I dC) dC (SL.off (Gd.off I I I dC) dC (lZ I I I (lU (pT I I) (lM I (lZ I I I (lZ I I I (lZ I I I (lZ I I I (SL.off (Gd.off I I I dC) dC (SL.off (Gd.off I I I dC) dC (SL.off (Gd.off I I I dC) dC (SL.off (Gd.off I I I dC) dC (SL.off (Gd.off I I I dC) dC (SL.off (Gd.off I I I dC) dC (lZ I I I (lU (pT I I) (nL ?_)))))))))))))))))))));exact ST.mid1 (by simp_all[get?,cntBad] <;> omega) mI
    ·intro h27;refine lY I I I (fA uT54 I zT3 I) (SL.gq (gT I I I dC) (qL (v:=vi c.dim) iT3 I (cO 0 I I)) dC (lY I I I (eQ I I) (lY I I I (mV I) ?_)));refine sP ?_ ?_
     ·intro h31;refine lY I I I (mV I) (lY I I I (nQ I I) (lY I I I (pT I I) (lU (pF I I) (lM I ?_))));refine sP ?_ ?_
      ·intro h36;refine lZ I I I (lZ I I I (lZ I I I (lZ I I I (SL.off (Gd.off I I I dC) dC (SL.off (Gd.off I I I dC) dC (SL.off (Gd.off I I I dC) dC (SL.off (Gd.off I I I dC) dC (SL.off (Gd.off I I I dC) dC (SL.off (Gd.off I I I dC) dC (lZ I I I (lU (pT I I) (nL ?_))))))))))));exact ST.mid1 (by simp_all[get?,cntBad] <;> omega) mI
      ·intro h36;refine lY I I I (fA uT54 I zT3 I) (SL.gq (gT I I I dC) (qL (v:=vi c.dim) iT3 I (cO 0 I I)) dC (lY I I I (gR I I) (lY I I I (mV I) ?_)));refine sP ?_ ?_
       ·intro h40;refine lY I I I (mV I) (lY I I I (lS I I) (lY I I I (mV I) ?_));refine sP ?_ ?_
        ·intro h43;refine lZ I I I (lZ I I I (lY I I I (pT I I) (lY I I I (pT I I) (lU (pF I I) (nL ?_)))));exact ST.mid1 (by simp_all[get?,cntBad] <;> omega) mI
        ·intro h43;refine lY I I I (mV I) (lY I I I (gR I I) (lY I I I (pF I I) (lY I I I (pT I I) (lU (pF I I) (nL ?_)))));exact ST.mid1 (by simp_all[get?,cntBad] <;> omega) mI
       ·intro h40;refine lZ I I I (lZ I I I (lZ I I I (SL.off (Gd.off I I I dC) dC (SL.off (Gd.off I I I dC) dC (lZ I I I (lY I I I (pF I I) (lU (pF I I) (nL ?_))))))));exact ST.mid1 (by simp_all[get?,cntBad] <;> omega) mI
     ·intro h31;refine lZ I I I (lZ I I I (lY I I I (pF I I) (lU (pF I I) (lM I (lY I I I (fA uT54 I zT3 I) (SL.gq (gT I I I dC) (qL (v:=vi c.dim) iT3 I (cO 0 I I)) dC (lY I I I (gR I I) (lY I I I (mV I) ?_))))))));refine sP ?_ ?_
      ·intro h40;refine lY I I I (mV I) (lY I I I (lS I I) (lY I I I (mV I) ?_));refine sP ?_ ?_
       ·intro h43;refine lZ I I I (lZ I I I (lY I I I (pT I I) (lY I I I (pT I I) (lU (pF I I) (nL ?_)))));exact ST.mid1 (by simp_all[get?,cntBad] <;> omega) mI
       ·intro h43;refine lY I I I (mV I) (lY I I I (gR I I) (lY I I I (pF I I) (lY I I I (pT I I) (lU (pF I I) (nL ?_)))));exact ST.mid1 (by simp_all[get?,cntBad] <;> omega) mI
      ·intro h40;refine lZ I I I (lZ I I I (lZ I I I (SL.off (Gd.off I I I dC) dC (SL.off (Gd.off I I I dC) dC (lZ I I I (lY I I I (pF I I) (lU (pF I I) (nL ?_))))))));exact ST.mid1 (by simp_all[get?,cntBad] <;> omega) mI
   ·intro h23;refine lZ I I I (lZ I I I (lU (pF I I) (lM I (lY I I I (fA uT54 I zT3 I) (SL.gq (gT I I I dC) (qL (v:=vi c.dim) iT3 I (cO 0 I I)) dC (lY I I I (eQ I I) (lY I I I (mV I) ?_)))))));refine sP ?_ ?_
    ·intro h31;refine lY I I I (mV I) (lY I I I (nQ I I) (lY I I I (pT I I) (lU (pF I I) (lM I ?_))));refine sP ?_ ?_
     ·intro h36;refine lZ I I I (lZ I I I (lZ I I I (lZ I I I (SL.off (Gd.off I I I dC) dC (SL.off (Gd.off I I I dC) dC (SL.off (Gd.off I I I dC) dC (SL.off (Gd.off I I I dC) dC (SL.off (Gd.off I I I dC) dC (SL.off (Gd.off I I I dC) dC (lZ I I I (lU (pT I I) (nL ?_))))))))))));exact ST.mid1 (by simp_all[get?,cntBad] <;> omega) mI
     ·intro h36;refine lY I I I (fA uT54 I zT3 I) (SL.gq (gT I I I dC) (qL (v:=vi c.dim) iT3 I (cO 0 I I)) dC (lY I I I (gR I I) (lY I I I (mV I) ?_)));refine sP ?_ ?_
      ·intro h40;refine lY I I I (mV I) (lY I I I (lS I I) (lY I I I (mV I) ?_));refine sP ?_ ?_
       ·intro h43;refine lZ I I I (lZ I I I (lY I I I (pT I I) (lY I I I (pT I I) (lU (pF I I) (nL ?_)))));exact ST.mid1 (by simp_all[get?,cntBad] <;> omega) mI
       ·intro h43;refine lY I I I (mV I) (lY I I I (gR I I) (lY I I I (pF I I) (lY I I I (pT I I) (lU (pF I I) (nL ?_)))));exact ST.mid1 (by simp_all[get?,cntBad] <;> omega) mI
      ·intro h40;refine lZ I I I (lZ I I I (lZ I I I (SL.off (Gd.off I I I dC) dC (SL.off (Gd.off I I I dC) dC (lZ I I I (lY I I I (pF I I) (lU (pF I I) (nL ?_))))))));exact ST.mid1 (by simp_all[get?,cntBad] <;> omega) mI
    ·intro h31;refine lZ I I I (lZ I I I (lY I I I (pF I I) (lU (pF I I) (lM I (lY I I I (fA uT54 I zT3 I) (SL.gq (gT I I I dC) (qL (v:=vi c.dim) iT3 I (cO 0 I I)) dC (lY I I I (gR I I) (lY I I I (mV I) ?_))))))));refine sP ?_ ?_
     ·intro h40;refine lY I I I (mV I) (lY I I I (lS I I) (lY I I I (mV I) ?_));refine sP ?_ ?_
      ·intro h43;refine lZ I I I (lZ I I I (lY I I I (pT I I) (lY I I I (pT I I) (lU (pF I I) (nL ?_)))));exact ST.mid1 (by simp_all[get?,cntBad] <;> omega) mI
      ·intro h43;refine lY I I I (mV I) (lY I I I (gR I I) (lY I I I (pF I I) (lY I I I (pT I I) (lU (pF I I) (nL ?_)))));exact ST.mid1 (by simp_all[get?,cntBad] <;> omega) mI
     ·intro h40;refine lZ I I I (lZ I I I (lZ I I I (SL.off (Gd.off I I I dC) dC (SL.off (Gd.off I I I dC) dC (lZ I I I (lY I I I (pF I I) (lU (pF I I) (nL ?_))))))));exact ST.mid1 (by simp_all[get?,cntBad] <;> omega) mI
  refine iQ I (fun hcb=>?_) (fun hcb=>?_)
  ·refine SC.sR (lA I (SL.nT (rE (tR (dR (s':=s) (.cons _ (.refl _)) ?_)))));exact ST.ret1 (.inl I) results103 I ⟨by unfold formC; rw[if_neg (by simp[hdb]),if_pos hcb],I,I⟩
  ·refine kP (tN (sQ (SC.sR (lA I (SL.nT (bK ?_))))));refine oP (ι:=Nat) (fun k=>[(0,.slice vp rs.length vc),(3,pp b3 0),(5,vi c.sides.length),(6,vi k)]) (fun _=>g)
    (fun _=>pt b3 (.cells #[vi c.id,vi c.dim,.slice rp c.sides.length rcap] 54 (0,0))::s) (fun k=>k≤c.sides.length∧(List.range k).any (badAt tl c)=false) (fun k=>c.sides.length - k) 0
    sB rfl rfl ⟨Nat.zero_le _,by simp⟩ ?_
   rintro k ⟨hk,hno⟩;refine sQ (SC.sR (lM I (lM I (lU (lS I I) (SL.nT ?_)))));refine iP I (fun hlt=>?_) (fun hlt=>?_)
   ·have hkl:k<c.sides.length:=oM;have hb1:=hx0 oM;have hjx:c.sides[((k:Nat):Int).toNat]?=some c.sides[k]:=gE hkl;have hjx':c.sides[k]?=some c.sides[k]:=gE hkl;have hprev:(k:Int)>0→∃ q,c.sides[((k:Int) - 1).toNat]?=some q∧c.sides[k - 1]?=some q:=fun h=>by
     have h2:k - 1<c.sides.length:=oM;exact⟨c.sides[k - 1],by rw[show ((k:Int) - 1).toNat=k - 1 by omega]; exact gE h2,gE h2⟩
    generalize c.sides[k]=y at *;have hbat:badAt tl c k=badSide tl c k y:=by unfold badAt; rw[hjx']
    have hT:badSide tl c k y=true→(List.range c.sides.length).any (badAt tl c)=true:=fun h=>List.any_eq_true.2 ⟨k,List.mem_range.2 hkl,by rw[hbat]; exact h⟩;have hF:badSide tl c k y=false→(List.range (k+1)).any (badAt tl c)=false:=fun h=>by rw[List.range_succ,List.any_append,hno]; simp[hbat,h]
    rcases at_find hs y.cell with ⟨hfn,hat⟩ | ⟨yc,kk,hfs,hat,hyc⟩
    ·have hbad:badSide tl c k y=true:=badSide_a (by rw[hfn]; simp);refine kP (tN (sQ (bK (SC.sR (lM I (lU (fA uT54 I zT37 I) (lK (qL (v:=.slice rp c.sides.length rcap) iT37 I (cO 0 I I)) (lM I (lU (iA uT37 zT56 I I hb1 oM sL) (lU (fC uT56 I zT3 I hb1) (lK (pA (e:=encSide) (o:=0) (u:=vi y.cell) iT3 I hcs.rd hjx I) (lW (SO.call call62 I (at_spec E g _ _ tl y.cell hv htl hs)) ?_))))))))))));rintro _ _ _ ⟨rfl,rfl,rfl⟩;rw[hat];refine lA I (SL.nT (sQ ?_));refine dW [] [(0,2),(1,2),(2,2),(3,2),(4,2),(5,2),(6,2),(7,1),(8,2),(9,1),(10,2),(11,2),(12,2),(13,2),(14,2),(15,2),(16,2),(17,2),(18,1),(19,2),(20,2),(21,2),(22,1),(23,2),(24,1),(25,2),(26,2),(27,2),(28,2),(29,1),(30,2),(31,2),(32,2)] Tryz.mixed (by kernel_rfl) ?_;refine pU I (mV I) (pU I (SU.eq (v':=vb true) (lS I I) I) (pU I (mV I) (fP I (gF I I I dC) dC (fP I (gF I I I dC) dC (fP I (gF I I I dC) dC (fP I (gF I I I dC) dC (SP.off1 I (gF I I I dC) dC (fP I (gF I I I dC) dC (SP.off1 I (gF I I I dC) dC (fP I (gF I I I dC) dC (fP I (gF I I I dC) dC (pU I (pT I I) (pU I (mV I) (fP I (gF I I I dC) dC (fP I (gF I I I dC) dC (fP I (gF I I I dC) dC (fP I (Gd.off I I I dC) dC (SP.off1 I (Gd.off I I I dC) dC (fP I (Gd.off I I I dC) dC (fP I (Gd.off I I I dC) dC (fP I (Gd.off I I I dC) dC (SP.off1 I (Gd.off I I I dC) dC (fP I (Gd.off I I I dC) dC (SP.off1 I (Gd.off I I I dC) dC (fP I (Gd.off I I I dC) dC (fP I (Gd.off I I I dC) dC (fP I (Gd.off I I I dC) dC (fP I (Gd.off I I I dC) dC (SP.off1 I (Gd.off I I I dC) dC ?_)))))))))))))))))))))))))))));refine fP I (Gd.off I I I dC) dC (fP I (gF I I I dC) dC (pU I (pT I I) (pN (tN (cT I (SC.sR (lA I (SL.nT (rE (bR (tR (tR (bR (tR (dR (s':=s) (.cons _ (.refl _)) ?_)))))))))))))));exact ST.ret1 (.inl I) results103 I ⟨by unfold formC; rw[if_neg (by simp[hdb]),if_neg (by simp[hcb]),if_pos (hT hbad)],I,I⟩
    ·have hkk:kk<tl.length:=(List.getElem?_eq_some_iff.1 hyc).1;have hkr:kk<rs.length:=oM;have hbv:=hrs.based oM;have hyr:=hall.get hyc (gE hkr);have hgr:rs[((kk:Nat):Int).toNat]?=some rs[kk]:=gE hkr;have hsome:(findT tl y.cell).isSome=true:=by rw[hfs]; rfl
     have hget:((findT tl y.cell).getD zeroC)=yc:=by rw[hfs]; rfl
     by_cases hdm:yc.dim≠c.dim - 1
     ·have hbad:badSide tl c k y=true:=badSide_b hsome (by rw[hget]; exact hdm);refine kP (tN (sQ (bK (SC.sR (lM I (lU (fA uT54 I zT37 I) (lK (qL (v:=.slice rp c.sides.length rcap) iT37 I (cO 0 I I)) (lM I (lU (iA uT37 zT56 I I hb1 oM sL) (lU (fC uT56 I zT3 I hb1) (lK (pA (e:=encSide) (o:=0) (u:=vi y.cell) iT3 I hcs.rd hjx I) (lW (SO.call call62 I (at_spec E g _ _ tl y.cell hv htl hs)) ?_))))))))))));rintro _ _ _ ⟨rfl,rfl,rfl⟩;rw[hat];refine lA I (SL.nT (sQ ?_));refine dW [] [(0,2),(1,2),(2,2),(3,2),(4,2),(5,2),(6,2),(7,1),(8,2),(9,1),(10,2),(11,2),(12,2),(13,2),(14,2),(15,2),(16,2),(17,2),(18,1),(19,2),(20,2),(21,2),(22,1),(23,2),(24,1),(25,2),(26,2),(27,2),(28,2),(29,1),(30,2),(31,2),(32,2)] Tryz.mixed (by kernel_rfl) ?_;refine pU I (mV I) (pU I (SU.eq (v':=vb false) (lS I I) (congrArg vb (decide_eq_false oM))) (pU I (mV I) (SP.gu I (gT I I I dC) (mV I) dC (SP.gu I (gT I I I dC) (mV I) dC (SP.gu I (gT I I I dC) (iA uT27 zT54 I I hbv oM sL) dC (SP.gu I (gT I I I dC) (fC uT54 I zT3 I hbv) dC (SP.gq I (gT I I I dC) (pA (e:=encCell) (o:=1) (u:=vi rs[kk].dim) iT3 I hrs.rd hgr I) dC (SP.gu I (gT I I I dC) (fA uT54 I zT3 I) dC (SP.gq I (gT I I I dC) (qL (v:=vi c.dim) iT3 I (cO 0 I I)) dC (SP.gu I (gT I I I dC) (sU I I oM) dC (SP.gu I (gT I I I dC) (SU.eq (v':=vb true) (nQ I I) (congrArg vb (decide_eq_true (by rw[hyr.2.1]; exact hdm)))) dC ?_)))))))))));refine pU I (pF I I) (pU I (mV I) (fP I (gF I I I dC) dC (fP I (gF I I I dC) dC (fP I (gF I I I dC) dC (fP I (Gd.off I I I dC) dC (SP.off1 I (Gd.off I I I dC) dC (fP I (Gd.off I I I dC) dC (fP I (Gd.off I I I dC) dC (fP I (Gd.off I I I dC) dC (SP.off1 I (Gd.off I I I dC) dC (fP I (Gd.off I I I dC) dC (SP.off1 I (Gd.off I I I dC) dC (fP I (Gd.off I I I dC) dC (fP I (Gd.off I I I dC) dC (fP I (Gd.off I I I dC) dC (fP I (Gd.off I I I dC) dC (SP.off1 I (Gd.off I I I dC) dC (fP I (Gd.off I I I dC) dC (fP I (gF I I I dC) dC (pU I (pT I I) (pN (tN (cT I (SC.sR (lA I (SL.nT (rE ?_)))))))))))))))))))))))))));refine bR (tR (tR (bR (tR (dR (s':=s) (.cons _ (.refl _)) ?_)))));exact ST.ret1 (.inl I) results103 I ⟨by unfold formC; rw[if_neg (by simp[hdb]),if_neg (by simp[hcb]),if_pos (hT hbad)],I,I⟩
     ·by_cases hk0:(k:Int)>0
      ·obtain ⟨q,hq1,hq2⟩:=hprev hk0;have hbd:=badSide_d (i:=k) hsome (by rw[hget]; exact hdm) hk0 hq2;refine kP (tN (sQ (bK (SC.sR (lM I (lU (fA uT54 I zT37 I) (lK (qL (v:=.slice rp c.sides.length rcap) iT37 I (cO 0 I I)) (lM I (lU (iA uT37 zT56 I I hb1 oM sL) (lU (fC uT56 I zT3 I hb1) (lK (pA (e:=encSide) (o:=0) (u:=vi y.cell) iT3 I hcs.rd hjx I) (lW (SO.call call62 I (at_spec E g _ _ tl y.cell hv htl hs)) ?_))))))))))));rintro _ _ _ ⟨rfl,rfl,rfl⟩;rw[hat];refine lA I (SL.nT (sQ ?_));refine dW [] [(0,2),(1,2),(2,2),(3,2),(4,2),(5,2),(6,2),(7,1),(8,2),(9,1),(10,2),(11,2),(12,2),(13,2),(14,2),(15,2),(16,2),(17,2),(18,1),(19,2),(20,2),(21,2),(22,1),(23,2),(24,1),(25,2),(26,2),(27,2),(28,2),(29,1),(30,2),(31,2),(32,2)] Tryz.mixed (by kernel_rfl) ?_;refine pU I (mV I) (pU I (SU.eq (v':=vb false) (lS I I) (congrArg vb (decide_eq_false oM))) (pU I (mV I) (SP.gu I (gT I I I dC) (mV I) dC (SP.gu I (gT I I I dC) (mV I) dC (SP.gu I (gT I I I dC) (iA uT27 zT54 I I hbv oM sL) dC (SP.gu I (gT I I I dC) (fC uT54 I zT3 I hbv) dC (SP.gq I (gT I I I dC) (pA (e:=encCell) (o:=1) (u:=vi rs[kk].dim) iT3 I hrs.rd hgr I) dC (SP.gu I (gT I I I dC) (fA uT54 I zT3 I) dC (SP.gq I (gT I I I dC) (qL (v:=vi c.dim) iT3 I (cO 0 I I)) dC (SP.gu I (gT I I I dC) (sU I I oM) dC (SP.gu I (gT I I I dC) (SU.eq (v':=vb false) (nQ I I) (congrArg vb (decide_eq_false (by rw[hyr.2.1]; exact hdm)))) dC ?_)))))))))));refine pU I (pF I I) (pU I (mV I) (SP.gu I (gT I I I dC) (mV I) dC (SP.gu I (gT I I I dC) (SU.eq (v':=vb true) (gR I I) (congrArg vb (decide_eq_true hk0))) dC (SP.gu I (gT I I I dC) (mV I) dC (SP.gu I (gT I I I dC) (fA uT54 I zT37 I) dC (SP.gq I (gT I I I dC) (qL (v:=.slice rp c.sides.length rcap) iT37 I (cO 0 I I)) dC (SP.gu I (gT I I I dC) (mV I) dC (SP.gu I (gT I I I dC) (iA uT37 zT56 I I hb1 oM sL) dC (SP.gu I (gT I I I dC) (fC uT56 I zT3 I hb1) dC (SP.gq I (gT I I I dC) (pA (e:=encSide) (o:=0) (u:=vi y.cell) iT3 I hcs.rd hjx I) dC (SP.gu I (gT I I I dC) (fA uT54 I zT37 I) dC (SP.gq I (gT I I I dC) (qL (v:=.slice rp c.sides.length rcap) iT37 I (cO 0 I I)) dC (SP.gu I (gT I I I dC) (mV I) dC (SP.gu I (gT I I I dC) (sU I I oM) dC (SP.gu I (gT I I I dC) (iA uT37 zT56 I I hb1 oM sL) dC (SP.gu I (gT I I I dC) (fC uT56 I zT3 I hb1) dC (SP.gq I (gT I I I dC) (pA (e:=encSide) (o:=0) (u:=vi q.cell) iT3 I hcs.rd hq1 I) dC (SP.gu I (gT I I I dC) (eQ I I) dC (SP.gu I (gT I I I dC) (pT I I) dC (pU I (pF I I) (pN (tN ?_))))))))))))))))))))));refine iP I (fun heq=>?_) (fun heq=>?_)
       ·refine SC.sR (lA I (SL.nT (rE (bR (tR (tR (bR (tR (dR (s':=s) (.cons _ (.refl _)) ?_)))))))));exact ST.ret1 (.inl I) results103 I ⟨by unfold formC; rw[if_neg (by simp[hdb]),if_neg (by simp[hcb]),if_pos (hT (by rw[hbd]; exact decide_eq_true heq.symm))],I,I⟩
       ·refine kP (bN (tN (rG (lM I (lU (aD I I oM) (lA I (nL ?_)))))));exact ST.again (k+1) sB I I ⟨oM,hF (by rw[hbd]; exact decide_eq_false fun e=>heq e.symm)⟩ oM
      ·have hbd:=badSide_c (i:=k) (x:=y) hsome (by rw[hget]; exact hdm) hk0;refine kP (tN (sQ (bK (SC.sR (lM I (lU (fA uT54 I zT37 I) (lK (qL (v:=.slice rp c.sides.length rcap) iT37 I (cO 0 I I)) (lM I (lU (iA uT37 zT56 I I hb1 oM sL) (lU (fC uT56 I zT3 I hb1) (lK (pA (e:=encSide) (o:=0) (u:=vi y.cell) iT3 I hcs.rd hjx I) (lW (SO.call call62 I (at_spec E g _ _ tl y.cell hv htl hs)) ?_))))))))))));rintro _ _ _ ⟨rfl,rfl,rfl⟩;rw[hat];refine lA I (SL.nT (sQ ?_));refine dW [] [(0,2),(1,2),(2,2),(3,2),(4,2),(5,2),(6,2),(7,1),(8,2),(9,1),(10,2),(11,2),(12,2),(13,2),(14,2),(15,2),(16,2),(17,2),(18,1),(19,2),(20,2),(21,2),(22,1),(23,2),(24,1),(25,2),(26,2),(27,2),(28,2),(29,1),(30,2),(31,2),(32,2)] Tryz.mixed (by kernel_rfl) ?_;refine pU I (mV I) (pU I (SU.eq (v':=vb false) (lS I I) (congrArg vb (decide_eq_false oM))) (pU I (mV I) (SP.gu I (gT I I I dC) (mV I) dC (SP.gu I (gT I I I dC) (mV I) dC (SP.gu I (gT I I I dC) (iA uT27 zT54 I I hbv oM sL) dC (SP.gu I (gT I I I dC) (fC uT54 I zT3 I hbv) dC (SP.gq I (gT I I I dC) (pA (e:=encCell) (o:=1) (u:=vi rs[kk].dim) iT3 I hrs.rd hgr I) dC (SP.gu I (gT I I I dC) (fA uT54 I zT3 I) dC (SP.gq I (gT I I I dC) (qL (v:=vi c.dim) iT3 I (cO 0 I I)) dC (SP.gu I (gT I I I dC) (sU I I oM) dC (SP.gu I (gT I I I dC) (SU.eq (v':=vb false) (nQ I I) (congrArg vb (decide_eq_false (by rw[hyr.2.1]; exact hdm)))) dC ?_)))))))))));refine pU I (pF I I) (pU I (mV I) (SP.gu I (gT I I I dC) (mV I) dC (SP.gu I (gT I I I dC) (SU.eq (v':=vb false) (gR I I) (congrArg vb (decide_eq_false hk0))) dC (SP.gu I (gT I I I dC) (mV I) dC (fP I (gF I I I dC) dC (SP.off1 I (gF I I I dC) dC (fP I (gF I I I dC) dC (fP I (gF I I I dC) dC (fP I (gF I I I dC) dC (SP.off1 I (gF I I I dC) dC (fP I (gF I I I dC) dC (SP.off1 I (gF I I I dC) dC (fP I (gF I I I dC) dC (fP I (gF I I I dC) dC (fP I (gF I I I dC) dC (fP I (gF I I I dC) dC (SP.off1 I (gF I I I dC) dC (fP I (gF I I I dC) dC (SP.gu I (gT I I I dC) (pF I I) dC (pU I (pF I I) (pN (tN (cF I (kP (bN (tN (rG (lM I (lU (aD I I oM) ?_)))))))))))))))))))))))))))));refine lA I (nL ?_);exact ST.again (k+1) sB I I ⟨oM,hF hbd⟩ oM
   ·refine xI (tX (tX (bX (tN (sQ (SC.sR (lA I (SL.nT (bK ?_)))))))));have hkk:k=c.sides.length:=oM;subst hkk;refine oP (ι:=Nat) (fun k=>[(3,pp b3 0),(5,vi c.sides.length),(8,vi k)]) (fun _=>g)
     (fun _=>pt b3 (.cells #[vi c.id,vi c.dim,.slice rp c.sides.length rcap] 54 (0,0))::s) (fun k=>k≤c.sides.length∧(c.sides.take k).any signBad=false) (fun k=>c.sides.length - k) 0
     sB rfl rfl ⟨Nat.zero_le _,by simp⟩ ?_
    rintro k ⟨hk2,hns⟩;refine sQ (SC.sR (lM I (lM I (lU (lS I I) (SL.nT ?_)))));refine iP I (fun hlt2=>?_) (fun hlt2=>?_)
    ·have hkl:k<c.sides.length:=oM;have hb1:=hx0 oM;have hjx:c.sides[((k:Nat):Int).toNat]?=some c.sides[k]:=gE hkl;have htk:c.sides.take (k+1)=c.sides.take k++[c.sides[k]]:=tS hkl;have hmemy:c.sides[k]∈c.sides:=gM hkl;generalize c.sides[k]=y at *;refine kP (tN (sQ (bK ?_)));refine SC.cutB 115 (signBad y) ?_ ?_
     ·refine rG (lU (fA uT54 I zT37 I) (lK (qL (v:=.slice rp c.sides.length rcap) iT37 I (cO 0 I I)) (lM I (lU (iA uT37 zT56 I I hb1 oM sL) (lU (fC uT56 I zT3 I hb1) (lK (pA (e:=encSide) (o:=1) (u:=vi y.sign) iT3 I hcs.rd hjx I) (lU (nQ I I) (lM I ?_))))))));refine sP ?_ ?_
      ·intro h107;refine lY I I I (fA uT54 I zT37 I) (SL.gq (gT I I I dC) (qL (v:=.slice rp c.sides.length rcap) iT37 I (cO 0 I I)) dC (lY I I I (mV I) (lY I I I (iA uT37 zT56 I I hb1 oM sL) (lY I I I (fC uT56 I zT3 I hb1) (SL.gq (gT I I I dC) (pA (e:=encSide) (o:=1) (u:=vi y.sign) iT3 I hcs.rd hjx I) dC (lY I I I (nQ I I) (lU (pT I I) (nL ?_))))))));exact ST.mid1 (by exact congrArg (fun b=>some (Value.bool b)) (signBad_a h107).symm) mI
      ·intro h107;refine lZ I I I (lZ I I I (lZ I I I (lZ I I I (lZ I I I (lZ I I I (lZ I I I (lU (pF I I) (nL ?_))))))));exact ST.mid1 (by exact congrArg (fun b=>some (Value.bool b)) (signBad_b h107).symm) mI
     refine iQ I (fun hsg=>?_) (fun hsg=>?_)
     ·refine SC.sR (lA I (SL.nT (rE (bR (tR (tR (bR (tR (dR (s':=s) (.cons _ (.refl _)) ?_)))))))));have hany:c.sides.any signBad=true:=List.any_eq_true.2 ⟨y,hmemy,hsg⟩;exact ST.ret1 (.inl I) results103 I ⟨by unfold formC; rw[if_neg (by simp[hdb]),if_neg (by simp[hcb]),if_neg (by simp[hno]),if_pos hany],I,I⟩
     ·refine kP (bN (tN (rG (lM I (lU (aD I I oM) (lA I (nL ?_)))))));exact ST.again (k+1) sB I I ⟨oM,by rw[htk,List.any_append,hns]; simp[hsg]⟩ oM
    ·have hkk:c.sides.take k=c.sides:=tL oM;rw[hkk] at hns;by_cases hd1:c.dim=1
     ·have h2:c.sides.length=2:=by
       simp[cntBad] at hcb;have:=hcb.1.2 hd1;omega
      obtain ⟨a,b,hab,hsum⟩:=two_signs h2 hns;have hb1:=hx0 oM;refine xI (tX (tX (bX (tN (sQ (sQ ?_))))));refine dW [] [(0,2),(1,1),(2,2),(3,2),(4,2),(5,1),(6,2),(7,2),(8,1),(9,2),(10,1),(11,2),(12,2),(13,1),(14,2),(15,2)] Tryz.mixed (by kernel_rfl) ?_;refine pU rfl (fA uT54 rfl zT3 rfl) (pK rfl (qL (v:=vi c.dim) iT3 rfl (cO 0 rfl rfl)) (pU rfl (SU.eq (v':=vb true) (eQ rfl rfl) (congrArg vb (decide_eq_true hd1))) (pU rfl (mV rfl) (SP.gu rfl (gT rfl rfl rfl dC) (fA uT54 rfl zT37 rfl) dC (SP.gq rfl (gT rfl rfl rfl dC) (qL (v:=.slice rp c.sides.length rcap) iT37 rfl (cO 0 rfl rfl)) dC (SP.gu rfl (gT rfl rfl rfl dC) (iA uT37 zT56 rfl rfl hb1 dC sL) dC (SP.gu rfl (gT rfl rfl rfl dC) (fC uT56 rfl zT3 rfl hb1) dC (SP.gq rfl (gT rfl rfl rfl dC) (pA (e:=encSide) (j:=0) (o:=1) (u:=vi a.sign) (a:=a) iT3 rfl hcs.rd (by rw[hab]; rfl) rfl) dC ?_))))))));refine SP.gu rfl (gT rfl rfl rfl dC) (fA uT54 rfl zT37 rfl) dC (SP.gq rfl (gT rfl rfl rfl dC) (qL (v:=.slice rp c.sides.length rcap) iT37 rfl (cO 0 rfl rfl)) dC (SP.gu rfl (gT rfl rfl rfl dC) (iA uT37 zT56 rfl rfl hb1 dC sL) dC (SP.gu rfl (gT rfl rfl rfl dC) (fC uT56 rfl zT3 rfl hb1) dC (SP.gq rfl (gT rfl rfl rfl dC) (pA (e:=encSide) (j:=1) (o:=1) (u:=vi b.sign) (a:=b) iT3 rfl hcs.rd (by rw[hab]; rfl) rfl) dC ?_))));refine SP.gu I (gT I I I dC) (eQ I I) dC (pU I (pT I I) (pN (tN ?_)));refine iP I (fun heq=>?_) (fun heq=>?_)
      ·refine SC.sR (lA I (SL.nT (rE (tR (dR (s':=s) (.cons _ (.refl _)) ?_)))));exact ST.ret1 (.inl I) results103 I ⟨by unfold formC; rw[if_neg (by simp[hdb]),if_neg (by simp[hcb]),if_neg (by simp[hno]),if_neg (by simp[hns]),if_pos (by rw[hsum]; simp[hd1,heq])],I,I⟩
      ·refine kP (tN (SC.sR (lA I (SL.nT (rE (dR (s':=s) (.cons _ (.refl _)) ?_))))));exact ST.ret1 (.inl I) results103 I ⟨by unfold formC; rw[if_neg (by simp[hdb]),if_neg (by simp[hcb]),if_neg (by simp[hno]),if_neg (by simp[hns]),if_neg (by rw[hsum]; simp[heq])],I,I⟩
     ·refine xI (tX (tX (bX (tN (sQ (sQ ?_))))));refine dW [] [(0,2),(1,1),(2,2),(3,2),(4,2),(5,1),(6,2),(7,2),(8,1),(9,2),(10,1),(11,2),(12,2),(13,1),(14,2),(15,2)] Tryz.mixed (by kernel_rfl) ?_;refine pU I (fA uT54 I zT3 I) (pK I (qL (v:=vi c.dim) iT3 I (cO 0 I I)) (pU I (SU.eq (v':=vb false) (eQ I I) (congrArg vb (decide_eq_false hd1))) (pU I (mV I) (fP I (gF I I I dC) dC (SP.off1 I (gF I I I dC) dC (fP I (gF I I I dC) dC (fP I (gF I I I dC) dC (SP.off1 I (gF I I I dC) dC (fP I (gF I I I dC) dC (SP.off1 I (gF I I I dC) dC (fP I (gF I I I dC) dC (fP I (gF I I I dC) dC (SP.off1 I (gF I I I dC) dC (fP I (gF I I I dC) dC (pU I (pF I I) (pN (tN (cF I (kP (tN (SC.sR (lA I (SL.nT (rE (dR (s':=s) (.cons _ (.refl _)) ?_)))))))))))))))))))))))));exact ST.ret1 (.inl I) results103 I ⟨by unfold formC; rw[if_neg (by simp[hdb]),if_neg (by simp[hcb]),if_neg (by simp[hno]),if_neg (by simp[hns]),if_neg (by simp[hd1])],I,I⟩
abbrev wr (x:Int):Int:=IntKind.i64.wrap x
structure En where
 id:Int
 sum:Int
 many:Int
 fst:Nat
def En.fi (e:En):Int:=e.fst
def En.up (e:En)(p:Int):En:=⟨e.id,wr (e.sum+p),wr (e.many+1),e.fst⟩
def bump (i:Nat)(c p:Int):List En→List En
 | []=>[En.up ⟨c,0,0,i⟩ p]
 | e::r=>if e.id=c then e.up p::r else e::bump i c p r
def fstOf (i:Nat)(c:Int):List En→Nat
 | []=>i
 | e::r=>if e.id=c then e.fst else fstOf i c r
def relabT (m:Nat)(old now:Int)(p:List Int):List Int:=p.mapIdx fun q x=>if q<m∧x=now then old else x
def stepR (i:Nat)(sx:Int)(st:List En×List Int)(r:Side):List En×List Int :=
 (bump i r.cell (wr (sx * r.sign)) st.1,relabT (i+1) (st.2.getD (fstOf i r.cell st.1) 0) (st.2.getD i 0) st.2)
def stepS (tl:List Cl)(st:List En×List Int)(p:Side×Nat):List En×List Int:=(sidesOf tl p.1).foldl (stepR p.2 p.1.sign) (st.1,st.2.set p.2 p.2)
def secSt (tl:List Cl)(l:List Side)(n:Nat):List En×List Int:=l.zipIdx.foldl (stepS tl) ([],List.replicate n 0)
def secondC (tl:List Cl)(c:Cl):Int :=
 if (secSt tl c.sides c.sides.length).1.any (fun e=>decide (e.sum≠0)) then 24
 else if (secSt tl c.sides c.sides.length).1.any (fun e=>decide (e.many≠2)) then 25
 else if (secSt tl c.sides c.sides.length).2.any (fun x=>decide (x≠(secSt tl c.sides c.sides.length).2.getD 0 0)) then 25
 else 0
theorem bump_mid {i:Nat}{c p:Int}{e:En}{B:List En}(he:e.id=c):∀ {A:List En},(∀ x∈A,x.id≠c)→bump i c p (A++e::B)=A++e.up p::B∧fstOf i c (A++e::B)=e.fst
 | [],_=>by simp[bump,fstOf,he]
 | x::A,h=>by
  have hx:=h x (by simp);have:=bump_mid (i:=i) (p:=p) (B:=B) he (A:=A) (fun y hy=>h y (by simp[hy]));simp[bump,fstOf,hx,this.1,this.2]
theorem bump_new {i:Nat}{c p:Int}:∀ {A:List En},(∀ x∈A,x.id≠c)→bump i c p A=A++[En.up ⟨c,0,0,i⟩ p]∧fstOf i c A=i
 | [],_=>by simp[bump,fstOf]
 | x::A,h=>by
  have hx:=h x (by simp);have:=bump_new (i:=i) (p:=p) (A:=A) (fun y hy=>h y (by simp[hy]));simp[bump,fstOf,hx,this.1,this.2]
theorem relabT_length (m:Nat)(old now:Int)(p:List Int):(relabT m old now p).length=p.length:=by simp[relabT]
theorem relabT_zero (old now:Int)(p:List Int):relabT 0 old now p=p:=by
 unfold relabT;apply List.ext_getElem?;intro q;simp
theorem relabT_get {m:Nat}{old now:Int}{p:List Int}(h:m<p.length):(relabT m old now p)[m]?=some p[m]:=by
 simp[relabT,h]
theorem relabT_succ {m:Nat}{old now:Int}{p:List Int}(h:m<p.length):relabT (m+1) old now p=if p[m]=now then (relabT m old now p).set m old else relabT m old now p:=by
 unfold relabT;split
 ·rename_i hm;apply List.ext_getElem?;intro q;rw[List.getElem?_set];by_cases hq:m=q
  ·subst hq;simp[h,hm]
  ·rw[if_neg hq];simp only[List.getElem?_mapIdx];cases p[q]? with
   | none=>rfl
   | some x=>simp; congr 1; simp; intro _; omega
 ·rename_i hm;apply List.ext_getElem?;intro q;simp only[List.getElem?_mapIdx];by_cases hq:m=q
  ·subst hq;simp[h,hm]
  ·cases p[q]? with
   | none=>rfl
   | some x=>simp; congr 1; simp; intro _; omega
theorem stepR_len (i:Nat)(sx:Int)(st:List En×List Int)(r:Side):(stepR i sx st r).2.length=st.2.length:=relabT_length _ _ _ _
theorem bump_length (i:Nat)(c p:Int):∀ es:List En,(bump i c p es).length≤es.length+1
 | []=>by simp[bump]
 | e::r=>by
  have:=bump_length i c p r;unfold bump;split <;> simp <;> omega
theorem bump_fst {i n:Nat}{c p:Int}(hi:i<n):∀ {es:List En},(∀ e∈es,e.fst<n)→∀ e∈bump i c p es,e.fst<n
 | [],_,e,he=>by simp[bump] at he; subst he; exact hi
 | x::r,h,e,he=>by
  unfold bump at he;split at he
  ·rcases List.mem_cons.1 he with rfl | he
   ·exact h x (by simp)
   ·exact h e (by simp[he])
  ·rcases List.mem_cons.1 he with rfl | he
   ·exact h e (by simp)
   ·exact bump_fst hi (fun y hy=>h y (by simp[hy])) e he
theorem second_spec (E:World)(g:PH)(s:Own)(v:Value)(tl:List Cl)(c:Cl)(r:Rc)(hv:Cells g v tl)(htl:tl.length<1099511627776)(hs:(tl.map Cl.id).Pairwise (· ≤ ·))(hc:CellR g c r)(hl:c.sides.length≤64)(hin:∀ x∈c.sides,(findT tl x.cell).isSome=true)(hsl:∀ x∈c.sides,(sidesOf tl x).length≤64) :
  Ctr Tryz.prog E 104 #[v,rcv r] g s (fun r g' s'=>r=vi (secondC tl c)∧g=g'∧s=s'):=by
 obtain ⟨rs,hrs,hall⟩:=hv;have hv:Cells g v tl:=⟨rs,hrs,hall⟩;have hrl:=hall.length;obtain ⟨vp,vc,rfl⟩:=hrs.form;obtain ⟨rp,rcap,rfl,hcs⟩:=cellR_form hc;refine Ctr.of (args:=[.slice vp rs.length vc,.agg #[vi c.id,vi c.dim,.slice rp c.sides.length rcap]]) func104 I ntmps104 (bE I) ?_;refine SC.sR (SL.bx (bO I) fun b3=>?_);refine lA I (SL.nT (sQ ?_));refine SC.to (g':=g) (s':=pt b3 (.cells #[vi c.id,vi c.dim,.slice rp c.sides.length rcap] 54 (0,0))::s) (fun w hw=>hw) ?_;refine rG (lA I (SL.nT (SC.sR (lA I (SL.nT (SC.sR (lA I (SL.nT (SC.sR (lU (fA uT54 I zT37 I) (lK (qL (v:=.slice rp c.sides.length rcap) iT37 I (cO 0 I I)) (lU (eN uT37 I) (lW (mK encInt 0 sty22 I I I oM oM) ?_)))))))))))));rintro _ _ _ ⟨b8,rfl,rfl,rfl⟩;refine lA I (SL.nT (SC.sR (lW (SO.buildSlice sty22 I I I (szs_mk trivial) dC) ?_)));rintro _ _ _ ⟨b24,rfl,rfl,rfl⟩;refine SL.drop (.cons _ (.refl _)) (SL.emptyRow 3 1 (some ⟨b24,0,none⟩) (lA I (SL.nT (sQ (SC.sR (lA I (SL.nT (bK (SC.nilRow 3 1 (SC.nilRow 3 1 (SC.nilRow 3 1 ?_)))))))))));refine oP (ι:=(Value×Value×Value×Value)×(List En×List Int)×Nat) (fun i=>[(0,.slice vp rs.length vc),(3,pp b3 0),(5,i.1.1),(6,i.1.2.1),(7,i.1.2.2.1),(8,.slice (some ⟨b8,0,none⟩) c.sides.length c.sides.length),(9,i.1.2.2.2),(10,vi (i.2.2:Nat))]) (fun _=>g)
  (fun i=>rowA encInt 3 i.1.1 (i.2.1.1.map En.id)::rowA encInt 3 i.1.2.1 (i.2.1.1.map En.sum)::rowA encInt 3 i.1.2.2.1 (i.2.1.1.map En.many)::rowA encInt 3 i.1.2.2.2 (i.2.1.1.map En.fi)::rowA encInt 3 (.slice (some ⟨b8,0,none⟩) c.sides.length c.sides.length) (i.2.1.2)::pt b3 (.cells #[vi c.id,vi c.dim,.slice rp c.sides.length rcap] 54 (0,0))::s)
  (fun i=>i.2.2≤c.sides.length∧i.2.1=(c.sides.take i.2.2).zipIdx.foldl (stepS tl) ([],List.replicate c.sides.length 0)∧i.2.1.2.length=c.sides.length∧i.2.1.1.length≤64 * i.2.2∧∀ e∈i.2.1.1,e.fst<c.sides.length) (fun i=>c.sides.length - i.2.2)
  ((.slice none 0 0,.slice none 0 0,.slice none 0 0,.slice (some ⟨b24,0,none⟩) 0 0),([],List.replicate c.sides.length 0),0) sB rfl rfl ⟨Nat.zero_le _,by simp,by simp,by simp,by simp⟩ ?_
 rintro ⟨⟨v5,v6,v7,v9⟩,⟨es,part⟩,i⟩ ⟨hi,hst,hpl,hel,hef⟩;dsimp only at hi hst hpl hel hef ⊢;refine sQ (SC.sR (lM I (lU (fA uT54 I zT37 I) (lK (qL (v:=.slice rp c.sides.length rcap) iT37 I (cO 5 I I)) (lU (eN uT37 I) (lU (lS I I) (SL.nT ?_)))))));refine iP I (fun hlt=>?_) (fun hlt=>?_)
 ·have hil:i<c.sides.length:=oM;have hb1:=hcs.based oM;have hix:c.sides[((i:Nat):Int).toNat]?=some c.sides[i]:=gE hil;have htk:(c.sides.take (i+1)).zipIdx.foldl (stepS tl) ([],List.replicate c.sides.length 0)=stepS tl ((c.sides.take i).zipIdx.foldl (stepS tl) ([],List.replicate c.sides.length 0)) (c.sides[i],i):=by
   rw[tS hil,List.zipIdx_append,List.foldl_append];have:(List.take i c.sides).length=i:=by rw[List.length_take]; omega
   rw[this];simp
  have hxm:=gM hil;have hxin:=hin _ hxm;have hxs:=hsl _ hxm;generalize c.sides[i]=x at *;obtain ⟨yc,hyc⟩:=Option.isSome_iff_exists.1 hxin;have hsx:sidesOf tl x=yc.sides:=by unfold sidesOf; rw[hyc]; rfl
  rw[hsx] at hxs
  rcases at_find hs x.cell with ⟨hfn,_⟩ | ⟨yc',kk,hfs,hat,hyk⟩
  ·rw[hfn] at hyc; cases hyc
  have:yc=yc':=by rw[hfs] at hyc; injection hyc with h; exact h.symm
  subst this;have hkk:kk<tl.length:=(List.getElem?_eq_some_iff.1 hyk).1;have hkr:kk<rs.length:=oM;have hbv:=hrs.based oM;have hyr:=hall.get hyk (gE hkr);have hgr:rs[((kk:Nat):Int).toNat]?=some rs[kk]:=gE hkr;obtain ⟨yp,ycap,hrk,hys⟩:=cellR_form hyr;rw[hrk] at hgr;have hp1:(part.set i (i:Int)).length=c.sides.length:=by rw[List.length_set]; exact hpl
  refine kP (tN (sQ (bK (SC.sR (lM I (lM I (lM I (lU (iA uT22 zT3 I I I oM sL) (SL.O2 (sT (a:=(i:Int)) 4 zT3 I I I oM I) (SL.nT (SC.sR (lM I (lM I (lU (fA uT54 I zT37 I) (lK (qL (v:=.slice rp c.sides.length rcap) iT37 I (cO 5 I I)) (lM I (lU (iA uT37 zT56 I I hb1 oM sL) (lU (fC uT56 I zT3 I hb1) (lK (pA (e:=encSide) (o:=0) (u:=vi x.cell) iT3 I hcs.rd hix I) (lW (SO.call call62 I (at_spec E g _ _ tl x.cell hv htl hs)) ?_))))))))))))))))))));rintro _ _ _ ⟨rfl,rfl,rfl⟩;rw[hat];refine lU (iA uT27 zT54 I I hbv oM sL) (lK (eA (e:=encCell) iT54 zT54 I hrs.rd hgr) (SL.bx (aL zeroValue54) fun b11=>?_));refine SL.O2 (sK 0 zT54 I I I I I sB) ?_;refine SL.nT (SC.sR (lA I (SL.nT (bK ?_))));refine SC.to (g':=g) (s':=pt b11 (.cells #[vi yc.id,vi yc.dim,.slice yp yc.sides.length ycap] 54 (0,0))::rowA encInt 3 v5 (es.map En.id)::rowA encInt 3 v6 (es.map En.sum)::rowA encInt 3 v7 (es.map En.many)::rowA encInt 3 v9 (es.map En.fi)::rowA encInt 3 (.slice (some ⟨b8,0,none⟩) c.sides.length c.sides.length) (part.set i (i:Int))::pt b3 (.cells #[vi c.id,vi c.dim,.slice rp c.sides.length rcap] 54 (0,0))::s) (fun w hw=>hw) ?_;refine oP (ι:=(Value×Value×Value×Value)×(List En×List Int)×Nat) (fun q=>[(0,.slice vp rs.length vc),(3,pp b3 0),(5,q.1.1),(6,q.1.2.1),(7,q.1.2.2.1),(8,.slice (some ⟨b8,0,none⟩) c.sides.length c.sides.length),(9,q.1.2.2.2),(10,vi (i:Nat)),(11,pp b11 0),(12,vi (q.2.2:Nat))]) (fun _=>g)
   (fun q=>pt b11 (.cells #[vi yc.id,vi yc.dim,.slice yp yc.sides.length ycap] 54 (0,0))::rowA encInt 3 q.1.1 (q.2.1.1.map En.id)::rowA encInt 3 q.1.2.1 (q.2.1.1.map En.sum)::rowA encInt 3 q.1.2.2.1 (q.2.1.1.map En.many)::rowA encInt 3 q.1.2.2.2 (q.2.1.1.map En.fi)::rowA encInt 3 (.slice (some ⟨b8,0,none⟩) c.sides.length c.sides.length) (q.2.1.2)::pt b3 (.cells #[vi c.id,vi c.dim,.slice rp c.sides.length rcap] 54 (0,0))::s)
   (fun q=>q.2.2≤yc.sides.length∧q.2.1=(yc.sides.take q.2.2).foldl (stepR i x.sign) (es,part.set i (i:Int))∧q.2.1.2.length=c.sides.length∧q.2.1.1.length≤64 * i+q.2.2∧∀ e∈q.2.1.1,e.fst<c.sides.length) (fun q=>yc.sides.length - q.2.2)
   ((v5,v6,v7,v9),(es,part.set i (i:Int)),0) sB rfl rfl ⟨Nat.zero_le _,by simp,hp1,lN,hef⟩ ?_
  rintro ⟨⟨w5,w6,w7,w9⟩,⟨fs,pa⟩,j⟩ ⟨hj,hst2,hpl2,hel2,hef2⟩;dsimp only at hj hst2 hpl2 hel2 hef2 ⊢;refine SC.facts fun ⟨w0,hw0⟩=>?_;obtain ⟨p5,c5,rfl⟩:=rowA_form (i:=1) hw0 rfl;obtain ⟨p6,c6,rfl⟩:=rowA_form (i:=2) hw0 rfl;obtain ⟨p7,c7,rfl⟩:=rowA_form (i:=3) hw0 rfl;obtain ⟨p9,c9,rfl⟩:=rowA_form (i:=4) hw0 rfl;have hb5:0<fs.length→based (.slice p5 (fs.map En.id).length c5)=true:=fun h=>by obtain ⟨b0,c0,he⟩:=rowA_based (i:=1) hw0 rfl (by simpa using h); rw[he]; rfl
  clear hw0 w0;refine sQ (SC.sR (lM I (lU (fA uT54 I zT37 I) (lK (qL (v:=.slice yp yc.sides.length ycap) iT37 I (cO 0 I I)) (lU (eN uT37 I) (lU (lS I I) (SL.nT ?_)))))));refine iP I (fun hlt2=>?_) (fun hlt2=>?_)
  ·have hjl:j<yc.sides.length:=oM;have hb2:=hys.based oM;have hjx:yc.sides[((j:Nat):Int).toNat]?=some yc.sides[j]:=gE hjl;have htk2:(yc.sides.take (j+1)).foldl (stepR i x.sign) (es,part.set i (i:Int))=stepR i x.sign ((yc.sides.take j).foldl (stepR i x.sign) (es,part.set i (i:Int))) yc.sides[j]:=by
    rw[tS hjl,List.foldl_append]; rfl
   rw[← hst2] at htk2;generalize yc.sides[j]=z at *;have hml5:(fs.map En.id).length=fs.length:=by simp
   refine kP (tN (sQ (bK (SC.sR (lA I (SL.nT ?_))))));refine SC.cut (ι:=Nat) (fun k=>[(0,.slice vp rs.length vc),(3,pp b3 0),(5,.slice p5 (fs.map En.id).length c5),(6,.slice p6 (fs.map En.sum).length c6),(7,.slice p7 (fs.map En.many).length c7),(8,.slice (some ⟨b8,0,none⟩) c.sides.length c.sides.length),(9,.slice p9 (fs.map En.fi).length c9),(10,vi (i:Nat)),(11,pp b11 0),(12,vi (j:Nat)),(13,vi (k:Nat))]) (fun _=>g)
    (fun _=>pt b11 (.cells #[vi yc.id,vi yc.dim,.slice yp yc.sides.length ycap] 54 (0,0))::rowA encInt 3 (.slice p5 (fs.map En.id).length c5) (fs.map En.id)::rowA encInt 3 (.slice p6 (fs.map En.sum).length c6) (fs.map En.sum)::rowA encInt 3 (.slice p7 (fs.map En.many).length c7) (fs.map En.many)::rowA encInt 3 (.slice p9 (fs.map En.fi).length c9) (fs.map En.fi)::rowA encInt 3 (.slice (some ⟨b8,0,none⟩) c.sides.length c.sides.length) (pa)::pt b3 (.cells #[vi c.id,vi c.dim,.slice rp c.sides.length rcap] 54 (0,0))::s)
    (fun k=>k≤fs.length∧(∀ e∈fs.take k,e.id≠z.cell)∧∀ h:k<fs.length,fs[k].id=z.cell) ?_ ?_
   ·refine bK ?_;refine oP (ι:=Nat) (fun k=>[(0,.slice vp rs.length vc),(3,pp b3 0),(5,.slice p5 (fs.map En.id).length c5),(6,.slice p6 (fs.map En.sum).length c6),(7,.slice p7 (fs.map En.many).length c7),(8,.slice (some ⟨b8,0,none⟩) c.sides.length c.sides.length),(9,.slice p9 (fs.map En.fi).length c9),(10,vi (i:Nat)),(11,pp b11 0),(12,vi (j:Nat)),(13,vi (k:Nat))]) (fun _=>g)
     (fun _=>pt b11 (.cells #[vi yc.id,vi yc.dim,.slice yp yc.sides.length ycap] 54 (0,0))::rowA encInt 3 (.slice p5 (fs.map En.id).length c5) (fs.map En.id)::rowA encInt 3 (.slice p6 (fs.map En.sum).length c6) (fs.map En.sum)::rowA encInt 3 (.slice p7 (fs.map En.many).length c7) (fs.map En.many)::rowA encInt 3 (.slice p9 (fs.map En.fi).length c9) (fs.map En.fi)::rowA encInt 3 (.slice (some ⟨b8,0,none⟩) c.sides.length c.sides.length) (pa)::pt b3 (.cells #[vi c.id,vi c.dim,.slice rp c.sides.length rcap] 54 (0,0))::s)
     (fun k=>k≤fs.length∧∀ e∈fs.take k,e.id≠z.cell) (fun k=>fs.length - k) 0 sB rfl rfl ⟨Nat.zero_le _,by simp⟩ ?_
    rintro k ⟨hk,hne⟩;by_cases hkl:k<fs.length
    ·have hin2:((k:Nat):Int)<(((fs.map En.id).length:Nat):Int):=oM;have hg5:(fs.map En.id)[((k:Nat):Int).toNat]?=some fs[k].id:=by simp[hkl]
     have hb5':=hb5 oM;refine sQ (sQ ?_);refine dW [] [(0,2),(1,2),(2,2),(3,2),(4,2),(5,2),(6,2),(7,2),(8,1),(9,2),(10,1),(11,2),(12,2),(13,2),(14,1),(15,2),(16,2)] Tryz.mixed (by kernel_rfl) ?_;refine pU I (mV I) (pU I (mV I) (pU I (eN uT22 I) (pU I (SU.eq (v':=vb true) (lS I I) (congrArg vb (decide_eq_true hin2))) (pU I (mV I) (SP.gu I (gT I I I dC) (mV I) dC (SP.gu I (gT I I I dC) (mV I) dC (SP.gu I (gT I I I dC) (iA uT22 zT3 I I hb5' oM sL) dC (SP.gq I (gT I I I dC) (eB iT3 I (Rd.rowA 1 I) hg5 I) dC (SP.gu I (gT I I I dC) (fA uT54 I zT37 I) dC (SP.gq I (gT I I I dC) (qL (v:=.slice yp yc.sides.length ycap) iT37 I (cO 0 I I)) dC (SP.gu I (gT I I I dC) (mV I) dC (SP.gu I (gT I I I dC) (iA uT37 zT56 I I hb2 oM sL) dC (SP.gu I (gT I I I dC) (fC uT56 I zT3 I hb2) dC (SP.gq I (gT I I I dC) (pA (e:=encSide) (o:=0) (u:=vi z.cell) iT3 I hys.rd hjx I) dC (SP.gu I (gT I I I dC) (nQ I I) dC (pU I (pT I I) (pN (tN ?_))))))))))))))))));refine iP I (fun hc2=>?_) (fun hc2=>?_)
     ·refine kP (tN (bK (rG (lM I (lU (aD I I oM) (lA I (nL (bN ?_))))))));exact ST.again (k+1) sB I I ⟨oM,by
       rw[tS hkl];intro e he
       rcases List.mem_append.1 he with h | h
       ·exact hne e h
       ·simp at h; subst h; exact hc2⟩ oM
     ·refine xI (tX (tX (bX ?_)));exact ST.mid k sB I I ⟨hk,hne,fun _=>Decidable.of_not_not hc2⟩
    ·have hin2:¬ ((k:Nat):Int)<(((fs.map En.id).length:Nat):Int):=oM;refine sQ (sQ ?_);refine dW [] [(0,2),(1,2),(2,2),(3,2),(4,2),(5,2),(6,2),(7,2),(8,1),(9,2),(10,1),(11,2),(12,2),(13,2),(14,1),(15,2),(16,2)] Tryz.mixed (by kernel_rfl) ?_;refine pU I (mV I) (pU I (mV I) (pU I (eN uT22 I) (pU I (SU.eq (v':=vb false) (lS I I) (congrArg vb (decide_eq_false hin2))) (pU I (mV I) (fP I (gF I I I dC) dC (fP I (gF I I I dC) dC (fP I (gF I I I dC) dC (SP.off1 I (gF I I I dC) dC (fP I (gF I I I dC) dC (SP.off1 I (gF I I I dC) dC (fP I (gF I I I dC) dC (fP I (gF I I I dC) dC (fP I (gF I I I dC) dC (SP.off1 I (gF I I I dC) dC (fP I (gF I I I dC) dC (pU I (pF I I) (pN (tN (cF I (xI (tX (tX (bX ?_)))))))))))))))))))))));exact ST.mid k sB I I ⟨hk,hne,fun h=>absurd h hkl⟩
   ·rintro k ⟨hk,hne,heq⟩;refine SC.cut (ι:=(Value×Value×Value×Value)×List En×En×List En) (fun q=>[(0,.slice vp rs.length vc),(3,pp b3 0),(5,q.1.1),(6,q.1.2.1),(7,q.1.2.2.1),(8,.slice (some ⟨b8,0,none⟩) c.sides.length c.sides.length),(9,q.1.2.2.2),(10,vi (i:Nat)),(11,pp b11 0),(12,vi (j:Nat)),(13,vi (q.2.1.length:Nat))]) (fun _=>g)
     (fun q=>pt b11 (.cells #[vi yc.id,vi yc.dim,.slice yp yc.sides.length ycap] 54 (0,0))::rowA encInt 3 q.1.1 ((q.2.1++q.2.2.1::q.2.2.2).map En.id)::rowA encInt 3 q.1.2.1 ((q.2.1++q.2.2.1::q.2.2.2).map En.sum)::rowA encInt 3 q.1.2.2.1 ((q.2.1++q.2.2.1::q.2.2.2).map En.many)::rowA encInt 3 q.1.2.2.2 ((q.2.1++q.2.2.1::q.2.2.2).map En.fi)::rowA encInt 3 (.slice (some ⟨b8,0,none⟩) c.sides.length c.sides.length) (pa)::pt b3 (.cells #[vi c.id,vi c.dim,.slice rp c.sides.length rcap] 54 (0,0))::s)
     (fun q=>(∀ p,bump i z.cell p fs=q.2.1++q.2.2.1.up p::q.2.2.2)∧fstOf i z.cell fs=q.2.2.1.fst∧q.2.2.1.fst<c.sides.length∧q.2.1.length+1+q.2.2.2.length≤fs.length+1) ?_ ?_
    ·refine SC.sR (lM I (lM I (lU (eN uT22 I) (lU (eQ I I) (SL.nT ?_)))));refine iP I (fun hnew=>?_) (fun hnew=>?_)
     ·have hkf:k=fs.length:=oM;subst hkf;rw[List.take_length] at hne;refine SC.sR (lM I (lU (fA uT54 I zT37 I) (lK (qL (v:=.slice yp yc.sides.length ycap) iT37 I (cO 0 I I)) (lM I (lU (iA uT37 zT56 I I hb2 oM sL) (lU (fC uT56 I zT3 I hb2) (lK (pA (e:=encSide) (o:=0) (u:=vi z.cell) iT3 I hys.rd hjx I) (lW (SO.buildSlice sty22 I I I (szs_mk sB) dC) ?_))))))));rintro _ _ _ ⟨b84,rfl,rfl,rfl⟩;refine lW (aP (e:=encInt) 1 z.cell sty22 I I I I I oM oM) ?_;rintro u5 _ _ ⟨rfl,rfl⟩;refine lA I (SL.nT (SC.sR (lM I (lW (SO.buildSlice sty22 I I I (szs_mk sB) dC) ?_))));rintro _ _ _ ⟨b87,rfl,rfl,rfl⟩;refine lW (aP (e:=encInt) 2 0 sty22 I I I I I (by simp; omega) (by simp; omega)) ?_;rintro u6 _ _ ⟨rfl,rfl⟩;refine lA I (SL.nT (SC.sR (lM I (lW (SO.buildSlice sty22 I I I (szs_mk sB) dC) ?_))));rintro _ _ _ ⟨b90,rfl,rfl,rfl⟩;refine lW (aP (e:=encInt) 3 0 sty22 I I I I I (by simp; omega) (by simp; omega)) ?_;rintro u7 _ _ ⟨rfl,rfl⟩;refine lA I (SL.nT (rG (lM I (lM I (lW (SO.buildSlice sty22 I I I (szs_mk sB) dC) ?_)))));rintro _ _ _ ⟨b94,rfl,rfl,rfl⟩;refine lW (aP (e:=encInt) 4 ((i:Nat):Int) sty22 I I I I I (by simp; omega) (by simp; omega)) ?_;rintro u9 _ _ ⟨rfl,rfl⟩;refine lA I (nL ?_);refine ST.to (fun w hw=>?_) (g':=g) (s':=pt b11 (.cells #[vi yc.id,vi yc.dim,.slice yp yc.sides.length ycap] 54 (0,0))::rowA encInt 3 u5 ((fs++(⟨z.cell,0,0,i⟩:En)::[]).map En.id)::rowA encInt 3 u6 ((fs++(⟨z.cell,0,0,i⟩:En)::[]).map En.sum)::rowA encInt 3 u7 ((fs++(⟨z.cell,0,0,i⟩:En)::[]).map En.many)::rowA encInt 3 u9 ((fs++(⟨z.cell,0,0,i⟩:En)::[]).map En.fi)::rowA encInt 3 (.slice (some ⟨b8,0,none⟩) c.sides.length c.sides.length) (pa)::pt b3 (.cells #[vi c.id,vi c.dim,.slice rp c.sides.length rcap] 54 (0,0))::s) ?_
      ·simp only[List.map_append,List.map_cons,List.map_nil]; exact hw
      exact ST.mid ((u5,u6,u7,u9),fs,⟨z.cell,0,0,i⟩,[]) sB I I ⟨fun p=>(bump_new hne).1,(bump_new (p:=0) hne).2,hil,by simp⟩
     ·have hkl:k<fs.length:=oM;have hsp:fs=fs.take k++fs[k]::fs.drop (k+1):=by rw[← List.drop_eq_getElem_cons hkl,List.take_append_drop]
      have hkt:(fs.take k).length=k:=by rw[List.length_take]; omega
      refine kP ?_;refine ST.mid ((_,_,_,_),fs.take k,fs[k],fs.drop (k+1)) ⟨I,I,I,I,I,I,I,I,I,I,vi_eq (by dsimp only; omega),trivial⟩ I (by dsimp only; rw[← hsp]) ⟨fun p=>?_,?_,hef2 _ (gM hkl),by rw[hkt,List.length_drop]; omega⟩
      ·conv=>lhs; rw[hsp]
       exact (bump_mid (heq hkl) hne).1
      ·conv=>lhs; rw[hsp]
       exact (bump_mid (p:=0) (heq hkl) hne).2
    ·rintro ⟨⟨u5,u6,u7,u9⟩,A,e,B⟩ ⟨hbump,hfst,hfl,hlen⟩;dsimp only at hbump hfst hfl hlen ⊢;refine SC.facts fun ⟨w0,hw0⟩=>?_;obtain ⟨q6,d6,rfl⟩:=rowA_form (i:=2) hw0 rfl;obtain ⟨q7,d7,rfl⟩:=rowA_form (i:=3) hw0 rfl;obtain ⟨q9,d9,rfl⟩:=rowA_form (i:=4) hw0 rfl;have hb6:based (.slice q6 ((A++e::B).map En.sum).length d6)=true:=by obtain ⟨b0,c0,he⟩:=rowA_based (i:=2) hw0 rfl (by simp; omega); rw[he]; rfl
     have hb7:based (.slice q7 ((A++e::B).map En.many).length d7)=true:=by obtain ⟨b0,c0,he⟩:=rowA_based (i:=3) hw0 rfl (by simp; omega); rw[he]; rfl
     have hb9:based (.slice q9 ((A++e::B).map En.fi).length d9)=true:=by obtain ⟨b0,c0,he⟩:=rowA_based (i:=4) hw0 rfl (by simp; omega); rw[he]; rfl
     clear hw0 w0;have hl6:((A++e::B).map En.sum).length=A.length+1+B.length:=by simp; omega
     have hl7:((A++e::B).map En.many).length=A.length+1+B.length:=by simp; omega
     have hl9:((A++e::B).map En.fi).length=A.length+1+B.length:=by simp; omega
     have g6:((A++e::B).map En.sum)[((A.length:Nat):Int).toNat]?=some e.sum:=by rw[List.map_append,List.map_cons]; exact get_mid (by simp)
     have g7:((A++e::B).map En.many)[((A.length:Nat):Int).toNat]?=some e.many:=by rw[List.map_append,List.map_cons]; exact get_mid (by simp)
     have g9:((A++e::B).map En.fi)[((A.length:Nat):Int).toNat]?=some ((e.fst:Nat):Int):=by rw[List.map_append,List.map_cons]; exact get_mid (by simp)
     have gp1:pa[((e.fst:Nat):Int).toNat]?=some (pa.getD e.fst 0):=by
      have h:e.fst<pa.length:=oM;rw[show ((e.fst:Nat):Int).toNat=e.fst by omega,gE h,List.getD_eq_getElem?_getD,gE h]; rfl
     have gp2:pa[((i:Nat):Int).toNat]?=some (pa.getD i 0):=by
      have h:i<pa.length:=oM;rw[show ((i:Nat):Int).toNat=i by omega,gE h,List.getD_eq_getElem?_getD,gE h]; rfl
     obtain ⟨wp,hwp⟩:∃ wp,wp=wr (x.sign * z.sign):=⟨_,rfl⟩;refine sQ ?_;refine dW [20,21] [(0,2),(1,2),(2,2),(3,2),(4,2),(5,1),(6,2),(7,1),(8,2),(9,2),(10,2),(11,1),(12,2),(13,1),(14,2),(15,2),(16,2),(17,1),(18,2),(19,2),(20,0),(21,0)] Tryz.mixed (by kernel_rfl) ?_;refine pU I (mV I) (pU I (mV I) (pU I (mV I) (pU I (mV I) (pU I (iA uT22 zT3 I I hb6 oM sL) (pK I (eB iT3 I (Rd.rowA 2 I) g6 I) (pU I (fA uT54 I zT37 I) (pK I (qL (v:=.slice rp c.sides.length rcap) iT37 I (cO 6 I I)) (pU I (mV I) (pU I (iA uT37 zT56 I I hb1 oM sL) (pU I (fC uT56 I zT3 I hb1) (pK I (pA (e:=encSide) (o:=1) (u:=vi x.sign) iT3 I hcs.rd hix I) (pU I (fA uT54 I zT37 I) (pK I (qL (v:=.slice yp yc.sides.length ycap) iT37 I (cO 0 I I)) (pU I (mV I) (pU I (iA uT37 zT56 I I hb2 oM sL) (pU I (fC uT56 I zT3 I hb2) (pK I (pA (e:=encSide) (o:=1) (u:=vi z.sign) iT3 I hys.rd hjx I) (pU I (SU.eq (v':=vi wp) (SU.mulW I I) (by rw[hwp])) ?_))))))))))))))))));refine pU I (SU.addW I I) (oU I (iA uT22 zT3 I I hb6 oM sL) dC (.inl dC) (SP.on I (sT (a:=wr (e.sum+wp)) 2 zT3 I I I oM I) (.inl dC) ?_));rintro _ _ _ ⟨rfl,rfl⟩;refine pN (tN (SC.sR (lM I (lM I (lU (iA uT22 zT3 I I hb7 oM sL) (lK (eB iT3 I (Rd.rowA 3 I) g7 I) (lU (SU.addW I I) (lU (iA uT22 zT3 I I hb7 oM sL) (SL.O2 (sT (a:=wr (e.many+1)) 3 zT3 I I I oM I) (SL.nT (SC.sR (lM I (lM I (lM I (lU (iA uT22 zT3 I I hb9 oM sL) (lK (eB iT3 I (Rd.rowA 4 I) g9 I) (lU (iA uT22 zT3 I I I oM sL) (lK (eB iT3 I (Rd.rowA 5 I) gp1 I) (lA I (SL.nT (SC.sR (lM I (lM I (lU (iA uT22 zT3 I I I oM sL) ?_))))))))))))))))))))))));refine lK (eB iT3 I (Rd.rowA 5 I) gp2 I) (lA I (SL.nT (SC.sR (lA I (SL.nT (bK ?_))))));have hm6:((A++e::B).map En.sum).set ((A.length:Nat):Int).toNat (wr (e.sum+wp))=(A++e.up wp::B).map En.sum:=by rw[List.map_append,List.map_cons,set_mid (by simp)]; simp[En.up]
     have hm7:((A++e::B).map En.many).set ((A.length:Nat):Int).toNat (wr (e.many+1))=(A++e.up wp::B).map En.many:=by rw[List.map_append,List.map_cons,set_mid (by simp)]; simp[En.up]
     have hm5:(A++e::B).map En.id=(A++e.up wp::B).map En.id:=by simp[En.up]
     have hm9:((A++e::B).map En.fi)=(A++e.up wp::B).map En.fi:=by simp[En.up,En.fi]
     generalize hold:pa.getD e.fst 0=old at *;generalize hnow:pa.getD i 0=now at *;refine SC.to (fun w hw=>?_) (g':=g) (s':=pt b11 (.cells #[vi yc.id,vi yc.dim,.slice yp yc.sides.length ycap] 54 (0,0))::rowA encInt 3 u5 ((A++e.up wp::B).map En.id)::rowA encInt 3 (.slice q6 ((A++e::B).map En.sum).length d6) ((A++e.up wp::B).map En.sum)::rowA encInt 3 (.slice q7 ((A++e::B).map En.many).length d7) ((A++e.up wp::B).map En.many)::rowA encInt 3 (.slice q9 ((A++e::B).map En.fi).length d9) ((A++e.up wp::B).map En.fi)::rowA encInt 3 (.slice (some ⟨b8,0,none⟩) c.sides.length c.sides.length) (relabT 0 old now pa)::pt b3 (.cells #[vi c.id,vi c.dim,.slice rp c.sides.length rcap] 54 (0,0))::s) ?_
     ·rw[← hm6,← hm7,← hm5,← hm9,relabT_zero]; exact hw
     refine oP (ι:=Nat) (fun m=>[(0,.slice vp rs.length vc),(3,pp b3 0),(5,u5),(6,.slice q6 ((A++e::B).map En.sum).length d6),(7,.slice q7 ((A++e::B).map En.many).length d7),(8,.slice (some ⟨b8,0,none⟩) c.sides.length c.sides.length),(9,.slice q9 ((A++e::B).map En.fi).length d9),(10,vi (i:Nat)),(11,pp b11 0),(12,vi (j:Nat)),(14,vi old),(15,vi now),(16,vi (m:Nat))]) (fun _=>g)
      (fun m=>pt b11 (.cells #[vi yc.id,vi yc.dim,.slice yp yc.sides.length ycap] 54 (0,0))::rowA encInt 3 u5 ((A++e.up wp::B).map En.id)::rowA encInt 3 (.slice q6 ((A++e::B).map En.sum).length d6) ((A++e.up wp::B).map En.sum)::rowA encInt 3 (.slice q7 ((A++e::B).map En.many).length d7) ((A++e.up wp::B).map En.many)::rowA encInt 3 (.slice q9 ((A++e::B).map En.fi).length d9) ((A++e.up wp::B).map En.fi)::rowA encInt 3 (.slice (some ⟨b8,0,none⟩) c.sides.length c.sides.length) (relabT m old now pa)::pt b3 (.cells #[vi c.id,vi c.dim,.slice rp c.sides.length rcap] 54 (0,0))::s)
      (fun m=>m≤i+1) (fun m=>i+1 - m) 0 sB rfl rfl (Nat.zero_le _) ?_
     rintro m hm;have hrel:=relabT_length m old now pa;refine sQ (SC.sR (lM I (lM I (lU (SU.leq I I) (SL.nT ?_)))));refine iP I (fun hlt3=>?_) (fun hlt3=>?_)
     ·have hmp:m<pa.length:=oM;have gm:(relabT m old now pa)[((m:Nat):Int).toNat]?=some pa[m]:=relabT_get hmp;have hsuc:=relabT_succ (old:=old) (now:=now) hmp;refine kP (tN (sQ (bK (SC.sR (lM I (lM I (lU (iA uT22 zT3 I I I oM sL) (lK (eB iT3 I (Rd.rowA 5 I) gm I) (lM I (lU (eQ I I) (SL.nT ?_)))))))))));refine iP I (fun hcm=>?_) (fun hcm=>?_)
      ·refine rG (lM I (lM I (lM I (lU (iA uT22 zT3 I I I oM sL) (SL.O2 (sT (a:=old) 5 zT3 I I I (by rw[hrel]; omega) I) ?_)))));refine nL (bN (tN (rG (lM I (lU (aD I I oM) (lA I (nL ?_)))))));refine ST.to (fun w hw=>?_) (g':=g) (s':=pt b11 (.cells #[vi yc.id,vi yc.dim,.slice yp yc.sides.length ycap] 54 (0,0))::rowA encInt 3 u5 ((A++e.up wp::B).map En.id)::rowA encInt 3 (.slice q6 ((A++e::B).map En.sum).length d6) ((A++e.up wp::B).map En.sum)::rowA encInt 3 (.slice q7 ((A++e::B).map En.many).length d7) ((A++e.up wp::B).map En.many)::rowA encInt 3 (.slice q9 ((A++e::B).map En.fi).length d9) ((A++e.up wp::B).map En.fi)::rowA encInt 3 (.slice (some ⟨b8,0,none⟩) c.sides.length c.sides.length) (relabT (m+1) old now pa)::pt b3 (.cells #[vi c.id,vi c.dim,.slice rp c.sides.length rcap] 54 (0,0))::s) ?_
       ·rw[hsuc,if_pos hcm]; exact hw
       exact ST.again (m+1) sB I I oM oM
      ·refine kP (bN (tN (rG (lM I (lU (aD I I oM) (lA I (nL ?_)))))));refine ST.to (fun w hw=>?_) (g':=g) (s':=pt b11 (.cells #[vi yc.id,vi yc.dim,.slice yp yc.sides.length ycap] 54 (0,0))::rowA encInt 3 u5 ((A++e.up wp::B).map En.id)::rowA encInt 3 (.slice q6 ((A++e::B).map En.sum).length d6) ((A++e.up wp::B).map En.sum)::rowA encInt 3 (.slice q7 ((A++e::B).map En.many).length d7) ((A++e.up wp::B).map En.many)::rowA encInt 3 (.slice q9 ((A++e::B).map En.fi).length d9) ((A++e.up wp::B).map En.fi)::rowA encInt 3 (.slice (some ⟨b8,0,none⟩) c.sides.length c.sides.length) (relabT (m+1) old now pa)::pt b3 (.cells #[vi c.id,vi c.dim,.slice rp c.sides.length rcap] 54 (0,0))::s) ?_
       ·rw[hsuc,if_neg hcm]; exact hw
       exact ST.again (m+1) sB I I oM oM
     ·have hmm:m=i+1:=oM;subst hmm;refine xI (tX (tX (bX (bN (tN (rG (lM I (lU (aD I I oM) (lA I (nL ?_))))))))));have hnext:stepR i x.sign (fs,pa) z=(A++e.up wp::B,relabT (i+1) old now pa):=by
       unfold stepR;dsimp only;rw[hfst,hold,hnow,hwp,hbump]
      refine ST.again ((u5,_,_,_),(A++e.up wp::B,relabT (i+1) old now pa),j+1) sB I I ⟨lN,by dsimp only; rw[htk2,hnext],by dsimp only; rw[hrel]; exact hpl2,lN,fun q hq=>?_⟩ lN;have h9:=bump_fst (c:=z.cell) (p:=wp) hil hef2 q (by rw[hbump]; exact hq);exact h9
  ·have hjj:yc.sides.take j=yc.sides:=tL oM;rw[hjj] at hst2;have hnext:stepS tl (es,part) (x,i)=(fs,pa):=by unfold stepS; rw[hsx]; exact hst2.symm
   refine xI (tX (tX (bX (bN (tN (rG (lM I (lU (aD I I oM) (lA I (nL (dR (s':=rowA encInt 3 (.slice p5 (fs.map En.id).length c5) (fs.map En.id)::rowA encInt 3 (.slice p6 (fs.map En.sum).length c6) (fs.map En.sum)::rowA encInt 3 (.slice p7 (fs.map En.many).length c7) (fs.map En.many)::rowA encInt 3 (.slice p9 (fs.map En.fi).length c9) (fs.map En.fi)::rowA encInt 3 (.slice (some ⟨b8,0,none⟩) c.sides.length c.sides.length) (pa)::pt b3 (.cells #[vi c.id,vi c.dim,.slice rp c.sides.length rcap] 54 (0,0))::s) (.cons _ (.refl _)) ?_)))))))))));exact ST.again ((_,_,_,_),(fs,pa),i+1) sB I I ⟨lN,by dsimp only; rw[htk,← hst,hnext],hpl2,lN,hef2⟩ lN
 ·have hii:c.sides.take i=c.sides:=tL oM;rw[hii] at hst;have hfin:secSt tl c.sides c.sides.length=(es,part):=hst.symm;refine SC.facts fun ⟨w0,hw0⟩=>?_;obtain ⟨p6,c6,rfl⟩:=rowA_form (i:=1) hw0 rfl;obtain ⟨p7,c7,rfl⟩:=rowA_form (i:=2) hw0 rfl;have hb6:0<es.length→based (.slice p6 (es.map En.sum).length c6)=true:=fun h=>by obtain ⟨b0,c0,he⟩:=rowA_based (i:=1) hw0 rfl (by simpa using h); rw[he]; rfl
  have hb7:0<es.length→based (.slice p7 (es.map En.many).length c7)=true:=fun h=>by obtain ⟨b0,c0,he⟩:=rowA_based (i:=2) hw0 rfl (by simpa using h); rw[he]; rfl
  clear hw0 w0;have hl6:(es.map En.sum).length=es.length:=by simp
  have hl7:(es.map En.many).length=es.length:=by simp
  refine xI (tX (tX (bX (tN (sQ (SC.sR (lA I (SL.nT (bK ?_)))))))));refine oP (ι:=Nat) (fun k=>[(6,.slice p6 (es.map En.sum).length c6),(7,.slice p7 (es.map En.many).length c7),(8,.slice (some ⟨b8,0,none⟩) c.sides.length c.sides.length),(17,vi (k:Nat))]) (fun _=>g)
   (fun _=>rowA encInt 3 v5 (es.map En.id)::rowA encInt 3 (.slice p6 (es.map En.sum).length c6) (es.map En.sum)::rowA encInt 3 (.slice p7 (es.map En.many).length c7) (es.map En.many)::rowA encInt 3 v9 (es.map En.fi)::rowA encInt 3 (.slice (some ⟨b8,0,none⟩) c.sides.length c.sides.length) (part)::pt b3 (.cells #[vi c.id,vi c.dim,.slice rp c.sides.length rcap] 54 (0,0))::s)
   (fun k=>k≤es.length∧(es.take k).any (fun e=>decide (e.sum≠0))=false) (fun k=>es.length - k) 0 sB rfl rfl ⟨Nat.zero_le _,by simp⟩ ?_
  rintro k ⟨hk,hno⟩;refine sQ (SC.sR (lM I (lM I (lU (eN uT22 I) (lU (lS I I) (SL.nT ?_))))));refine iP I (fun hltA=>?_) (fun hltA=>?_)
  ·have hkl:k<es.length:=oM;have gk:(es.map En.sum)[((k:Nat):Int).toNat]?=some es[k].sum:=by simp[hkl]
   refine kP (tN (sQ (bK (SC.sR (lM I (lM I (lU (iA uT22 zT3 I I (hb6 oM) oM sL) (lK (eB iT3 I (Rd.rowA 1 I) gk I) (lU (nQ I I) (SL.nT ?_))))))))));refine iP I (fun hz=>?_) (fun hz=>?_)
   ·refine SC.sR (lA I (SL.nT (rE (bR (tR (tR (bR (tR ?_))))))));refine dR (s':=s) (by repeat (first | exact List.Sublist.refl _ | refine List.Sublist.cons _ ?_)) ?_;exact ST.ret1 (.inl I) results104 I ⟨by unfold secondC; rw[hfin,if_pos (List.any_eq_true.2 ⟨es[k],gM hkl,by simpa using hz⟩)],I,I⟩
   ·refine kP (bN (tN (rG (lM I (lU (aD I I oM) (lA I (nL ?_)))))));exact ST.again (k+1) sB I I ⟨oM,by rw[tS hkl,List.any_append,hno]; simpa using hz⟩ oM
  ·have hkk:es.take k=es:=tL oM;rw[hkk] at hno;refine xI (tX (tX (bX (tN (sQ (SC.sR (lA I (SL.nT (bK ?_)))))))));refine oP (ι:=Nat) (fun k=>[(7,.slice p7 (es.map En.many).length c7),(8,.slice (some ⟨b8,0,none⟩) c.sides.length c.sides.length),(18,vi (k:Nat))]) (fun _=>g)
    (fun _=>rowA encInt 3 v5 (es.map En.id)::rowA encInt 3 (.slice p6 (es.map En.sum).length c6) (es.map En.sum)::rowA encInt 3 (.slice p7 (es.map En.many).length c7) (es.map En.many)::rowA encInt 3 v9 (es.map En.fi)::rowA encInt 3 (.slice (some ⟨b8,0,none⟩) c.sides.length c.sides.length) (part)::pt b3 (.cells #[vi c.id,vi c.dim,.slice rp c.sides.length rcap] 54 (0,0))::s)
    (fun k=>k≤es.length∧(es.take k).any (fun e=>decide (e.many≠2))=false) (fun k=>es.length - k) 0 sB rfl rfl ⟨Nat.zero_le _,by simp⟩ ?_
   rintro k2 ⟨hk2,hno2⟩;refine sQ (SC.sR (lM I (lM I (lU (eN uT22 I) (lU (lS I I) (SL.nT ?_))))));refine iP I (fun hltB=>?_) (fun hltB=>?_)
   ·have hkl:k2<es.length:=oM;have gk:(es.map En.many)[((k2:Nat):Int).toNat]?=some es[k2].many:=by simp[hkl]
    refine kP (tN (sQ (bK (SC.sR (lM I (lM I (lU (iA uT22 zT3 I I (hb7 oM) oM sL) (lK (eB iT3 I (Rd.rowA 2 I) gk I) (lU (nQ I I) (SL.nT ?_))))))))));refine iP I (fun hz=>?_) (fun hz=>?_)
    ·refine SC.sR (lA I (SL.nT (rE (bR (tR (tR (bR (tR ?_))))))));refine dR (s':=s) (by repeat (first | exact List.Sublist.refl _ | refine List.Sublist.cons _ ?_)) ?_;exact ST.ret1 (.inl I) results104 I ⟨by unfold secondC; rw[hfin,if_neg (by rw[hno]; simp),if_pos (List.any_eq_true.2 ⟨es[k2],gM hkl,by simpa using hz⟩)],I,I⟩
    ·refine kP (bN (tN (rG (lM I (lU (aD I I oM) (lA I (nL ?_)))))));exact ST.again (k2+1) sB I I ⟨oM,by rw[tS hkl,List.any_append,hno2]; simpa using hz⟩ oM
   ·have hkk2:es.take k2=es:=tL oM;rw[hkk2] at hno2;refine xI (tX (tX (bX (tN (sQ (SC.sR (lA I (SL.nT (bK ?_)))))))));refine oP (ι:=Nat) (fun k=>[(8,.slice (some ⟨b8,0,none⟩) c.sides.length c.sides.length),(19,vi (k:Nat))]) (fun _=>g)
     (fun _=>rowA encInt 3 v5 (es.map En.id)::rowA encInt 3 (.slice p6 (es.map En.sum).length c6) (es.map En.sum)::rowA encInt 3 (.slice p7 (es.map En.many).length c7) (es.map En.many)::rowA encInt 3 v9 (es.map En.fi)::rowA encInt 3 (.slice (some ⟨b8,0,none⟩) c.sides.length c.sides.length) (part)::pt b3 (.cells #[vi c.id,vi c.dim,.slice rp c.sides.length rcap] 54 (0,0))::s)
     (fun k=>k≤c.sides.length∧(part.take k).any (fun q=>decide (q≠part.getD 0 0))=false) (fun k=>c.sides.length - k) 0 sB rfl rfl ⟨Nat.zero_le _,by simp⟩ ?_
    rintro k3 ⟨hk3,hno3⟩;refine sQ (SC.sR (lM I (lM I (lU (eN uT22 I) (lU (lS I I) (SL.nT ?_))))));refine iP I (fun hltC=>?_) (fun hltC=>?_)
    ·have hkl:k3<part.length:=oM;have gk:part[((k3:Nat):Int).toNat]?=some part[k3]:=gE hkl;have g0:part[((0:Nat):Int).toNat]?=some (part.getD 0 0):=by
      have h:0<part.length:=oM;rw[show ((0:Nat):Int).toNat=0 from rfl,gE h,List.getD_eq_getElem?_getD,gE h]; rfl
     generalize hp0:part.getD 0 0=p0 at *;refine kP (tN (sQ (bK (sQ ?_))));refine dW [] [(0,2),(1,2),(2,2),(3,1),(4,2),(5,2),(6,1),(7,2)] Tryz.mixed (by kernel_rfl) ?_;refine pU I (mV I) (pU I (mV I) (pU I (iA uT22 zT3 I I I oM sL) (pK I (eB iT3 I (Rd.rowA 4 I) gk I) (pU I (mV I) (pU I (iA uT22 zT3 I I I dC sL) (pK I (eB iT3 I (Rd.rowA 4 I) g0 I) (pU I (nQ I I) (pN (tN ?_)))))))));refine iP I (fun hz=>?_) (fun hz=>?_)
     ·refine SC.sR (lA I (SL.nT (rE (bR (tR (tR (bR (tR ?_))))))));refine dR (s':=s) (by repeat (first | exact List.Sublist.refl _ | refine List.Sublist.cons _ ?_)) ?_;exact ST.ret1 (.inl I) results104 I ⟨by unfold secondC; rw[hfin,if_neg (by rw[hno]; simp),if_neg (by rw[hno2]; simp),if_pos (List.any_eq_true.2 ⟨part[k3],gM hkl,by rw[hp0]; simpa using hz⟩)],I,I⟩
     ·refine kP (bN (tN (rG (lM I (lU (aD I I oM) (lA I (nL ?_)))))));exact ST.again (k3+1) sB I I ⟨oM,by rw[tS hkl,List.any_append,hno3]; simpa using hz⟩ oM
    ·have hkk3:part.take k3=part:=tL oM;rw[hkk3] at hno3;refine xI (tX (tX (bX (tN (SC.sR (lA I (SL.nT (rE ?_))))))));refine dR (s':=s) (by repeat (first | exact List.Sublist.refl _ | refine List.Sublist.cons _ ?_)) ?_;exact ST.ret1 (.inl I) results104 I ⟨by unfold secondC; rw[hfin,if_neg (by rw[hno]; simp),if_neg (by rw[hno2]; simp),if_neg (by rw[hno3]; simp)],I,I⟩
end Go.Proofs.YteahknngoogpaaaGreatDoor
