/- SyDe SyCt Edp Ed4 Ed5 Ed6 Ed7 Ed8 Ed9 Frm4 Tur R12 R12b SyMg R12c R12d SyBr LwW Mo1 SyNm Mo2 Mo3 Mo4 Rr1 Mch3 SoK Ed10 -/
import Derived.Test.YtmmghffoakhheaaGreatDoorAt02
import Derived.Test.YtmmghffoakhheaaGreatDoorAt03
import Derived.Test.YtmmghffoakhheaaGreatDoorAt04
import Derived.Test.YtmmghffoakhheaaGreatDoorAt05
import Derived.Test.YtmmghffoakhheaaGreatDoorAt08
import Derived.Test.YtmmghffoakhheaaGreatDoorAt07
import Derived.Test.YtmmghffoakhheaaGreatDoorAt09
import Derived.Test.YtmmghffoakhheaaGreatDoorAt06
import Derived.Shelf.SlSortCmp.NoneTotal
set_option linter.unusedSimpArgs false
set_option linter.unusedVariables false
namespace Go.Sy
open Go Go.MapKept
def mdel:List (Int×Value)→Int→List (Int×Value)
 | [],_=>[]
 | (a,v)::r,k=>if k=a then r else (a,v)::mdel r k
theorem mdel_none (k:Int):∀ (l:List (Int×Value)),(∀ p∈l,p.1≠k)→mdel l k=l
 | [],_=>rfl
 | (a,u)::r,h=>by
  have h1:k≠a:=fun e=>h (a,u) (by simp) e.symm;simp only[mdel,h1,if_false,mdel_none k r (fun p hp=>h p (by simp[hp]))]
theorem fnd_del (k:Int):∀ (l:List (Int×Value)) (i:Nat),(fnd k l i=none∧∀ p∈l,p.1≠k)∨∃ j v,fnd k l i=some (i+j,v)∧j<l.length∧mdel l k=l.eraseIdx j
 | [],_=>.inl ⟨rfl,by simp⟩
 | (a,v)::r,i=>by
  by_cases h:k=a
  ·subst h;exact .inr ⟨0,v,by simp[fnd],by simp,by simp[mdel]⟩
  ·rcases fnd_del k r (i+1) with ⟨h1,h2⟩ | ⟨j,v',h1,h2,h3⟩
   ·refine .inl ⟨by simp[fnd,h,h1],fun p hp=>?_⟩
    rcases List.mem_cons.1 hp with e | e
    ·rw[e]; exact fun e2=>h e2.symm
    ·exact h2 p e
   ·exact .inr ⟨j+1,v',by simp[fnd,h,h1]; omega,by simpa using h2,by simp[mdel,h,h3]⟩
theorem map_erase {α β:Type}(f:α→β):∀ (l:List α) (j:Nat),(l.eraseIdx j).map f=(l.map f).eraseIdx j
 | [],_=>rfl
 | _::_,0=>rfl
 | x::l,j+1=>congrArg (List.cons (f x)) (map_erase f l j)
section
variable {P:Program}{w:World}{t kt et ty:TypeId}{z:Value}{b:Nat}{es:Array MapEntry}{clk:Nat}{l:List (Int×Value)}
theorem run_delete_map (hT:MTy P t kt et z)(hb:w.heap[b]?=some (.map es clk))(hm:MapI l es clk)(k:Int) :
  ∃ es' clk',(Builtin.delete_ #[t,kt] ty #[.map (some b),vi k]).run P w = .ok (.tuple #[]) { w with heap:=w.heap.setIfInBounds b (.map es' clk') }∧MapI (mdel l k) es' clk':=by
 have hf:=findNow_eq k es.toList l 0 hm.1;have h1:=MapKept.run_findKey (w:=w) hT.key hf;have h2:=MapKept.run_checkKey (P:=P) (w:=w) hT.key (k:=vi k) rfl es.isEmpty 9999;have hlen:es.toList.length=l.length:=by have:=congrArg List.length hm.1; simpa using this
 rcases fnd_del k l 0 with ⟨hn,hne⟩ | ⟨j,u,hs,hj,hdel⟩
 ·refine⟨es,clk,?_,?_⟩
  ·rw[hn] at h1;simp[Builtin.delete_,run_underlying hT.und,MapKept.run_getObj_map hb,h2,h1,MapKept.run_setObj_map _ hb,Result.andThen]
  ·rw[mdel_none k l hne];exact hm
 ·rw[hs,Nat.zero_add] at h1;refine⟨es.eraseIdxIfInBounds j,clk,?_,?_,stamped_erase hm.2 j⟩
  ·simp[Builtin.delete_,run_underlying hT.und,MapKept.run_getObj_map hb,h2,h1,MapKept.run_setObj_map _ hb,Result.andThen]
  ·have hjs:j<es.size:=by
    have h3:j<es.toList.length:=oM;simpa using h3
   rw[hdel];unfold Array.eraseIdxIfInBounds;rw[dif_pos hjs,Array.toList_eraseIdx,map_erase,hm.1,← map_erase]
end
section
variable {P:Program}{N:Nat}{E:World}{ops:Array Oper}{Q:Exit→Act→World→Prop}{f:Fr}{g:PH}{s:Own}{dst:Option Tmp}{ty:TypeId}{pos:String}{af:Array Edge}{gd:Option (Nat×Bool)}
variable {t kt et:TypeId}{z:Value}{b:Nat}{l:List (Int×Value)}{x y:Operand}{k:Int}
theorem SO.delete (i:Nat)(hT:MTy P t kt et z)(hx:ev f x=some (.map (some b)))(hy:ev f y=some (vi k))(hi:s[i]?=some (mp b l)) :
  SO P N E ⟨dst,.call ⟨.builtin .delete,#[x,y],#[t,kt]⟩,ty,pos,af,gd⟩ f g s fun _ g' s'=>g=g'∧s'=s.set i (mp b (mdel l k)) :=
 SO.of_run fun a w ha hw=>by
  obtain ⟨es,clk,h1,h2⟩:=hw.own _ (List.mem_of_getElem? hi);have hb:w.heap[b]?=some (.map es clk):=by simpa [mp] using h1
  obtain ⟨es',clk',hr,hm'⟩:=run_delete_map (ty:=ty) hT hb h2 k;have hfr:=hw.fresh _ (List.mem_of_getElem? hi) b rfl;obtain ⟨e1,e2⟩:=MapKept.heap_set (o':=.map es' clk') hb;refine⟨_,_,g,s.set i (mp b (mdel l k)),by simp[execOp,resolve,invoke,builtin,ha.ev hx,ha.ev hy,hr]; exact⟨I,I⟩,?_,I,I⟩;refine hw.turn hi I ⟨I,(by exact lR _)⟩ I (by simp) (fun q _ hne=>e2 q (fun e=>hne (by simp[mp,e]))) ⟨es',clk',by simpa [mp] using e1,hm'⟩ (fun b' hb'=>?_);simp only[mp,Option.some.injEq] at hb';subst hb';exact⟨by simpa using hfr.2,.inl I⟩
end
end Go.Sy
namespace Go.Sy
open Go
section
variable {P:Program}{N:Nat}{E:World}{f:Fr}{g:PH}{s:Own}{dst:Option Tmp}{ty:TypeId}{pos:String}{af:Array Edge}{gd:Option (Nat×Bool)}
theorem SQ.loadOne {x:Operand}{T:TypeId}{b o:Nat}{v:Value}(hT:∀ w,(isAgg T).run P w = .ok true w)(hk:∀ w,(sizeOf T).run P w = .ok 1 w)(hx:ev f x=some (pp b o))(hc:CellAt g s ⟨b,o,none⟩ v) :
  SQ P N E ⟨dst,.load T x,ty,pos,af,gd⟩ f g s (.agg #[v]) :=
 SQ.loadAggAt (vs:=[v]) hT hk hx rfl fun j u hu=>by
  cases j with
  | zero=>simp at hu; subst hu; exact hc
  | succ j=>simp at hu
end
section
variable {α:Type}{k:Nat}{P:Program}{N:Nat}{E:World}{f:Fr}{g:PH}{s:Own}{dst:Option Tmp}{ty:TypeId}{pos:String}{af:Array Edge}{gd:Option (Nat×Bool)}
end
section
variable {P:Program}{N:Nat}{E:World}{f:Fr}{g:PH}{s:Own}{fn:Func}{R:Value→PH→Own→Prop}{e:Exit}
theorem ST.retCTT {T U:TypeId}{t u q b k:Nat}{cs:Array Value}{fr:Nat×Nat}{x y:Value}(i:Nat)(s':Own)(he:e = .ret∨e = .normal)(hr:fn.results = #[.cell t T,.tmp u,.tmp q])(hv:get? f t=some (pp b 0))(hu:get? f u=some x)(hq:get? f q=some y)
  (hT:∀ w,(isAgg T).run P w = .ok true w) (hk:∀ w,(sizeOf T).run P w = .ok k w)
  (hs:s[i]?=some (pt b (.cells cs U fr))) (hc:cs.size=k) (hs':s'.Sublist s) (hR:R (.tuple #[.agg cs,x,y]) g s'):ST N E (bodyPost P fn (Post E R)) e f g s :=
 fun a w ha hw=>by
  have h1:=run_loadVar_own (P:=P) hw hT (by rw[hc]; exact hk) hs;have h2:=ha.at_ t _ hv;have h5:=ha.at_ u _ hu;have h6:=ha.at_ q _ hq;simp only[Array.getD_eq_getD_getElem?] at h2 h5 h6;have h3:(results fn a.tmps).run P w = .ok (.tuple #[.agg cs,x,y]) w:=by simp[results,hr,asAddr,pp,h2,h1,h5,h6]
  have h4:Post E R (.returned (.tuple #[.agg cs,x,y])) w:=⟨_,g,s',rfl,hw.sublist hs',hR⟩
  rcases he with rfl | rfl
  ·exact⟨ha.defers,_,h3,h4⟩
  ·exact⟨ha.defers,_,h3,h4⟩
theorem ST.retCCT {T U T' U':TypeId}{t t' u b b' k k':Nat}{cs cs':Array Value}{fr fr':Nat×Nat}{x:Value}(i i':Nat)(s':Own)(he:e = .ret∨e = .normal)(hr:fn.results = #[.cell t T,.cell t' T',.tmp u])(hv:get? f t=some (pp b 0))(hv':get? f t'=some (pp b' 0))(hu:get? f u=some x)
  (hT:∀ w,(isAgg T).run P w = .ok true w) (hk:∀ w,(sizeOf T).run P w = .ok k w) (hT':∀ w,(isAgg T').run P w = .ok true w) (hk':∀ w,(sizeOf T').run P w = .ok k' w)
  (hs:s[i]?=some (pt b (.cells cs U fr))) (hc:cs.size=k) (hsb:s[i']?=some (pt b' (.cells cs' U' fr'))) (hc':cs'.size=k') (hs':s'.Sublist s) (hR:R (.tuple #[.agg cs,.agg cs',x]) g s'):ST N E (bodyPost P fn (Post E R)) e f g s :=
 fun a w ha hw=>by
  have h1:=run_loadVar_own (P:=P) hw hT (by rw[hc]; exact hk) hs;have h1':=run_loadVar_own (P:=P) hw hT' (by rw[hc']; exact hk') hsb;have h2:=ha.at_ t _ hv;have h2':=ha.at_ t' _ hv';have h5:=ha.at_ u _ hu;simp only[Array.getD_eq_getD_getElem?] at h2 h2' h5;have h3:(results fn a.tmps).run P w = .ok (.tuple #[.agg cs,.agg cs',x]) w:=by simp[results,hr,asAddr,pp,h2,h2',h1,h1',h5]
  have h4:Post E R (.returned (.tuple #[.agg cs,.agg cs',x])) w:=⟨_,g,s',rfl,hw.sublist hs',hR⟩
  rcases he with rfl | rfl
  ·exact⟨ha.defers,_,h3,h4⟩
  ·exact⟨ha.defers,_,h3,h4⟩
end
end Go.Sy
namespace Go.Proofs.YtmmghffoakhheaaGreatDoor
open _root_.Go.Proofs.Tryz _root_.Go.Proofs.YtmmghffoakhheaaGreatDoor.Tryz
open Go Go.Sy Go.Pl Go.Proofs
def putC:List Cl→Cl→List Cl
 | [],c=>[c]
 | x::l,c=>if c.id=x.id then c::l else x::putC l c
def putR:List Rc→Rc→List Rc
 | [],c=>[c]
 | x::l,c=>if c.id=x.id then c::l else x::putR l c
def delC:List Cl→Int→List Cl
 | [],_=>[]
 | x::l,k=>if k=x.id then l else x::delC l k
def delR:List Rc→Int→List Rc
 | [],_=>[]
 | x::l,k=>if k=x.id then l else x::delR l k
theorem mput_rc (r:Rc):∀ rs:List Rc,mput (rs.map rcPair) r.id (rcv r)=(putR rs r).map rcPair
 | []=>rfl
 | x::rs=>by
  simp only[List.map_cons,rcPair,mput,putR];by_cases h:r.id=x.id
  ·rw[if_pos h,if_pos h]; rfl
  ·rw[if_neg h,if_neg h];exact congrArg _ (mput_rc r rs)
theorem mdel_rc (k:Int):∀ rs:List Rc,mdel (rs.map rcPair) k=(delR rs k).map rcPair
 | []=>rfl
 | x::rs=>by
  simp only[List.map_cons,rcPair,mdel,delR];by_cases h:k=x.id
  ·rw[if_pos h,if_pos h]
  ·rw[if_neg h,if_neg h];exact congrArg _ (mdel_rc k rs)
theorem all2_put {R:Cl→Rc→Prop}(hR:∀ c r,R c r→r.id=c.id){c:Cl}{r:Rc}(h:R c r):∀ {B:List Cl} {rs:List Rc},All2 R B rs→All2 R (putC B c) (putR rs r)
 | [],[],_=>⟨h,trivial⟩
 | x::B,y::rs,h2=>by
  have e1:=hR _ _ h;have e2:=hR _ _ h2.1;unfold putC putR;rw[e1,e2];split
  ·exact⟨h,h2.2⟩
  ·exact⟨h2.1,all2_put hR h h2.2⟩
 | [],_::_,h2=>h2.elim
 | _::_,[],h2=>h2.elim
theorem all2_del {R:Cl→Rc→Prop}(hR:∀ c r,R c r→r.id=c.id)(k:Int):∀ {B:List Cl} {rs:List Rc},All2 R B rs→All2 R (delC B k) (delR rs k)
 | [],[],_=>trivial
 | x::B,y::rs,h2=>by
  have e2:=hR _ _ h2.1;unfold delC delR;rw[e2];split
  ·exact h2.2
  ·exact⟨h2.1,all2_del hR k h2.2⟩
 | [],_::_,h2=>h2.elim
 | _::_,[],h2=>h2.elim
theorem putC_new {c:Cl}:∀ {B:List Cl},(∀ x∈B,x.id≠c.id)→putC B c=B++[c]
 | [],_=>rfl
 | x::B,h=>by
  have h1:¬ c.id=x.id:=fun e=>h x (by simp) e.symm;unfold putC;rw[if_neg h1,putC_new fun y hy=>h y (by simp[hy])];rfl
theorem putR_new {c:Rc}:∀ {B:List Rc},(∀ x∈B,x.id≠c.id)→putR B c=B++[c]
 | [],_=>rfl
 | x::B,h=>by
  have h1:¬ c.id=x.id:=fun e=>h x (by simp) e.symm;unfold putR;rw[if_neg h1,putR_new fun y hy=>h y (by simp[hy])];rfl
theorem putC_mem {c y:Cl}:∀ {B:List Cl},y∈putC B c→y=c∨y∈B
 | [],h=>by simpa [putC] using h
 | x::B,h=>by
  unfold putC at h;split at h
  ·rcases List.mem_cons.1 h with e | e
   ·exact .inl e
   ·exact .inr (by simp[e])
  ·rcases List.mem_cons.1 h with e | e
   ·exact .inr (by simp[e])
   ·rcases putC_mem e with e | e
    ·exact .inl e
    ·exact .inr (by simp[e])
theorem putC_nodup {c:Cl}:∀ {B:List Cl},(B.map Cl.id).Nodup→((putC B c).map Cl.id).Nodup
 | [],_=>by simp[putC]
 | x::B,h=>by
  rw[List.map_cons,List.nodup_cons] at h;unfold putC;split
  ·rename_i e;rw[List.map_cons,List.nodup_cons,e];exact h
  ·rename_i e;rw[List.map_cons,List.nodup_cons];refine⟨fun hm=>?_,putC_nodup h.2⟩;obtain ⟨y,hy,e2⟩:=List.mem_map.1 hm
   rcases putC_mem hy with e3 | e3
   ·exact e (by rw[← e3]; exact e2)
   ·exact h.1 (by rw[← e2]; exact List.mem_map.2 ⟨y,e3,I⟩)
theorem delC_filter (k:Int):∀ {B:List Cl},(B.map Cl.id).Nodup→delC B k=B.filter fun c=>!decide (c.id=k)
 | [],_=>rfl
 | x::B,h=>by
  rw[List.map_cons,List.nodup_cons] at h;unfold delC;by_cases e:k=x.id
  ·rw[if_pos e,List.filter_cons];have h1:∀ y∈B,(!decide (y.id=k))=true:=fun y hy=>by
    have:y.id≠k:=fun e2=>h.1 (by rw[← e,← e2]; exact List.mem_map.2 ⟨y,hy,rfl⟩);simpa using this
   rw[List.filter_eq_self.2 h1];simp[e]
  ·rw[if_neg e,List.filter_cons,delC_filter k h.2];have:(!decide (x.id=k))=true:=by simpa using fun e2=>e e2.symm
   rw[if_pos this]
theorem stab_perm {α:Type}{key:α→Int}{l m:List α}(h:l.Perm m)(hn:(l.map key).Nodup):Stab key l m:=by
 refine⟨h.length_eq.symm,fun c=>?_⟩;have hp:=h.filter (fun a=>key a == c);have hone:∀ q:List α,(q.map key).Nodup→(q.filter fun a=>key a == c).length≤1:=by
  intro q;induction q with
  | nil=>intro _; simp
  | cons x r ih =>
   intro hq;rw[List.map_cons,List.nodup_cons] at hq;rw[List.filter_cons];by_cases e:(key x == c)=true
   ·rw[if_pos e];have:r.filter (fun a=>key a == c)=[]:=filter_none fun y hy e2=>hq.1 (by
     have e1:key x=c:=by simpa using e
     rw[e1,← e2];exact List.mem_map.2 ⟨y,hy,I⟩)
    rw[this];simp
   ·rw[if_neg e];exact ih hq.2
 have h1:=hone l hn
 match hl:l.filter (fun a=>key a == c),hm:m.filter (fun a=>key a == c) with
 | [],[]=>rfl
 | [],y::t=>rw[hl,hm] at hp; exact absurd hp.length_eq (by simp)
 | x::t,[]=>rw[hl,hm] at hp; exact absurd hp.length_eq (by simp)
 | x::t,y::u =>
  rw[hl,hm] at hp;rw[hl] at h1;have ht:t=[]:=List.eq_nil_of_length_eq_zero (by simpa using h1);subst ht;have:=hp.length_eq;have hu:u=[]:=List.eq_nil_of_length_eq_zero (by simpa using this.symm);subst hu;have:=hp.subset (List.mem_cons_self ..);simp at this;rw[this]
theorem canonC_permE {l m:List Cl}(h:l.Perm m)(hn:(l.map Cl.id).Nodup):canonC l=canonC m:=by
 have:sortBy Cl.id l=sortBy Cl.id m:=(sortBy_srt l).unique (sortBy_srt m) ((sortBy_stab l).symm.trans ((stab_perm h hn).trans (sortBy_stab m)));unfold canonC;rw[this]
set_option maxRecDepth 100000
set_option maxHeartbeats 1000000
structure Ed where
 kind:Int
 cell:Int
 dim:Int
 new:Int
 other:Int
 sides:List Side
 pairs:List Pr
def EdR (g:PH)(v:Value)(e:Ed):Prop:=∃ sv pv,v = .agg #[vi e.kind,vi e.cell,vi e.dim,vi e.new,vi e.other,sv,pv]∧SlA encSide g sv e.sides∧SlA encPr g pv e.pairs
theorem EdR.mono {g g':PH}{v:Value}{e:Ed}(h:EdR g v e)(hl:Le g g'):EdR g' v e:=by
 obtain ⟨sv,pv,h1,h2,h3⟩:=h;exact⟨sv,pv,h1,SlA.mono h2 hl,SlA.mono h3 hl⟩
abbrev edP (bx:Nat)(u:Value)(mb ms:Nat)(bk:Bool):Ent:=pt bx (.cells #[u,.map (some mb),.map (some ms),vb bk] 150 (0,0))
theorem Tryz.build150 (u:Value)(h:u.cells = #[u])(x y:Option Nat)(w:World):(Instr.build 150 #[(0,.agg #[u]),(1,.map x),(2,.map y)]).run Tryz.prog w = .ok (.agg #[u,.map x,.map y,vb false]) w:=by
 have h2:∀ x,(Value.map x).cells = #[.map x]:=fun _=>rfl;have h3:(Value.agg #[u]).cells = #[u]:=rfl;simp[Instr.build,Instr.fill,h2,h3];rfl
theorem all2_lookG {R:Cl→Rc→Prop}(hR:∀ c r,R c r→r.id=c.id){tl:List Cl}{rs:List Rc}(h:All2 R tl rs)(k:Int):∃ r,(mget (rs.map rcPair) k).getD (.agg #[vi 0,vi 0,.slice none 0 0])=rcv r∧(mget (rs.map rcPair) k).isSome=(findT tl k).isSome:=by
 rcases all2_findG hR h k with ⟨h1,h2⟩ | ⟨c,r,h1,h2,h3⟩
 ·exact⟨zeroR,by rw[h2]; rfl,by unfold findT; rw[h1,h2]; rfl⟩
 ·exact⟨r,by rw[h2]; rfl,by unfold findT; rw[h1,h2]; rfl⟩
theorem cloneSd (E:World)(g:PH)(s:Own)(v:Value)(l:List Side)(hv:SlA encSide g v l)(hn:l.length<1099511627776) :
  Ctr Tryz.prog E 110 #[v] g s (fun r g' s'=>g=g'∧s'=rowA encSide 56 r l::s):=by
 obtain ⟨p,c,rfl⟩:=SlA.form hv;refine Ctr.of (args:=[.slice p l.length c]) func110 I ntmps110 (bE I) ?_;refine rZ (aT I (sQ (sW I (lU (SU.eqlNil uT37 I I) (tZ ?_)))));refine iQ I (fun hp=>?_) (fun hp=>?_)
 ·refine rZ (aT I (rE (tR ?_)));have hl:l=[]:=by
   cases l with
   | nil=>rfl
   | cons x r =>
    have hb:=SlA.based hv (by simp);cases p with
    | none=>simp[based] at hb
    | some q=>simp at hp
  subst hl;refine ST.nilRow 56 2 ?_;exact ST.ret1 (.inl I) results110 I ⟨I,I⟩
 ·refine kP (tN (rZ (lW (bS sty37 I I I (szs_mk trivial) dC) ?_)));rintro _ _ _ ⟨b5,rfl,rfl,rfl⟩;refine SL.emptyRow 56 2 (some ⟨b5,0,none⟩) (lM I (lW (SO.appendE (m:=l.length) 0 l.length (l.flatMap encSide.enc) sty37 I I I I I (Sl.rd hv) (encSide.length l) (encSide.ones l) oM (by simp) oM oM) ?_));rintro r7 _ _ ⟨rfl,rfl⟩;refine aT I (rE (dR (s':=rowA encSide 56 r7 l::s) (.cons_cons _ (.cons _ (.refl _))) ?_));exact ST.ret1 (.inl I) results110 I ⟨I,I⟩
theorem open_own (E:World)(g:PH)(s:Own)(v:Value)(l:List Cl)(hv:Cells g v l)(hf:Fits l)(hnd:((canonC l).map Cl.id).Nodup) :
  Ctr Tryz.prog E 74 #[.agg #[v]] g s (fun r g' s'=>Le g g'∧∃ bx u mb ms rs,r=pp bx 0∧Cells g' u (canonC l)∧All2 CellO (canonC l) rs∧s'=edP bx u mb ms false::mp mb (rs.map rcPair)::mp ms []::(ownS (canonC l) rs++s)):=by
 have hfc:=canonC_fits hf;refine Ctr.of (args:=[.agg #[v]]) func74 I ntmps74 (bE I) ?_;refine rZ (bW (bO I) fun b1=>?_);refine aT I (rZ (lK (qV 0 iT29 zT29 I I I) (lW (SO.call call50 I (canon_spec E g _ v l hv hf)) ?_)));rintro _ g1 _ ⟨rfl,hle1,u,rfl,hc⟩;have hcc:=hc;obtain ⟨rs,hrs,hall⟩:=hc;obtain ⟨q,d,rfl⟩:=SlA.form hrs;refine lW (SO.mkMap) ?_;rintro _ _ _ ⟨b8,rfl,rfl,rfl⟩;refine lW (SO.mkMap) ?_;rintro _ _ _ ⟨b9,rfl,rfl,rfl⟩;refine lU (SU.build I (build150 _ I _ _)) (bW (bO I) fun b11=>?_);refine aT I (sQ (sW I (lU (nC I) (lU (fA uT150 I zT29 I) (lU (fA uT29 I zT27 I) (lK (qL iT27 I (cO 0 I I)) (lU (eN uT27 I) (lM I (tZ (bK ?_))))))))));generalize canonC l=A at *;have hrl:=hall.length;have hAl:=hfc.1;refine oP (ι:=Nat×List Rc) (fun i=>[(3,pp b11 0),(16,.slice q rs.length d),(17,vi rs.length),(18,vi i.1)]) (fun _=>g1)
  (fun i=>edP b11 (.slice q rs.length d) b8 b9 false::mp b9 []::mp b8 (i.2.map rcPair)::pt b1 (.cells #[v] 29 (0,0))::(ownS (A.take i.1) i.2++s))
  (fun i=>i.1≤rs.length∧All2 CellO (A.take i.1) i.2) (fun i=>rs.length - i.1) (0,[])
  sB rfl rfl ⟨Nat.zero_le _,by simp[All2]⟩ ?_
 rintro ⟨k,acc⟩ ⟨hk,hacc⟩;dsimp only at hk hacc ⊢;have hal:=hacc.length;refine rZ (yL I (tZ (sQ ?_)));refine iP I (fun hlt=>?_) (fun hlt=>?_)
 ·have hkr:k<rs.length:=oM;have hkl:k<A.length:=oM;have hb1:=SlA.based hrs oM;have hcr:=hall.get (gE hkl) (gE hkr);have hgx:rs[((k:Nat):Int).toNat]?=some rs[k]:=gE hkr;have htk:A.take (k+1)=A.take k++[A[k]]:=tS hkl;have hxl:=hfc.2 _ (gM hkl);have hnew:∀ x∈acc,x.id≠A[k].id:=fun x hx=>by
   obtain ⟨i,hi,rfl⟩:=List.getElem_of_mem hx;have hi2:i<(A.take k).length:=oM;have hi3:i<k:=by rw[List.length_take] at hi2; omega
   have h1:=(hacc.get (gE hi2) (gE hi)).1;rw[h1,List.getElem_take];intro e;have h2:=List.pairwise_iff_getElem.1 (List.nodup_iff_pairwise_ne.1 hnd) i k (by rw[List.length_map]; omega) (by rw[List.length_map]; omega) hi3;simp only[List.getElem_map] at h2;exact h2 e
  generalize rs[k]=x at *;generalize A[k]=cx at *;obtain ⟨xi,xd,xp,xn,xc⟩:=x;obtain ⟨e1,e2,hxsl⟩:=hcr;dsimp only at e1 e2 hxsl;have hxn:xn=cx.sides.length:=Sl.slen hxsl;subst hxn e1 e2;refine kP (tN (sQ (bK (rZ (lU (iA uT27 zT54 I I hb1 oM (show (k:Int)<((rs.length:Nat):Int) by omega)) ?_)))));refine lK (eA iT54 zT54 I (SlA.rd hrs) hgx) (bW (aL zeroValue54) fun b5=>?_);refine oZ (sK 0 zT54 I I I I I sB) ?_;refine tZ (rZ (lU (fA uT54 I zT37 I) (lK (qL (v:=.slice xp cx.sides.length xc) iT37 I (cO 0 I I)) (lW (SO.call call110 I (cloneSd E g1 _ _ cx.sides hxsl hxl)) ?_))));rintro v24 _ _ ⟨rfl,rfl⟩;refine SL.facts fun ⟨w0,hw0⟩=>?_;obtain ⟨q2,d2,rfl⟩:=rowA_form (e:=encSide) (l:=cx.sides) (i:=0) hw0 rfl;clear hw0 w0;refine lU (fA uT54 rfl zT37 rfl) (oZ (SO.store1 1 zT37 rfl rfl rfl rfl (bE rfl) (by rfl)) ?_);refine tZ ?_;refine dW [7] [(0,2),(1,2),(2,2),(3,1),(4,2),(5,1),(6,1),(7,0)] Tryz.mixed kR ?_;refine yM I (pU I (nC I) (pU I (fA uT150 I zT125 I) (pK I (qL iT125 I (cO 2 I I)) (pU I (fA uT54 I zT3 I) (pK I (qL iT3 I (cO 1 I I)) (pK I (qV 1 iT54 zT54 I I I) (SP.on I (SO.mapUpdate 4 mty125 I I I I) (.inl dC) ?_)))))));rintro _ _ _ ⟨rfl,rfl⟩;refine pN (bN (tN (rG (yD I (lM I (nL ?_))))));refine ST.to (fun w hw=>?_) (g':=g1) (s':=edP b11 (.slice q rs.length d) b8 b9 false::mp b9 []::mp b8 ((acc++[(⟨cx.id,cx.dim,⟨q2,cx.sides.length,d2⟩⟩:Rc)]).map rcPair)::pt b1 (.cells #[v] 29 (0,0))::(ownS (A.take (k+1)) (acc++[(⟨cx.id,cx.dim,⟨q2,cx.sides.length,d2⟩⟩:Rc)])++s)) ?_
  ·rw[htk,ownS_append cx _ hal];have hput:mput (acc.map rcPair) cx.id (rcv ⟨cx.id,cx.dim,⟨q2,cx.sides.length,d2⟩⟩)=(acc++[(⟨cx.id,cx.dim,⟨q2,cx.sides.length,d2⟩⟩:Rc)]).map rcPair:=by
    rw[← putR_new hnew];exact mput_rc ⟨cx.id,cx.dim,⟨q2,cx.sides.length,d2⟩⟩ acc
   rw[← hput];have h1:=(hw.sublist (s':=ownC cx ⟨cx.id,cx.dim,⟨q2,cx.sides.length,d2⟩⟩::(edP b11 (.slice q rs.length d) b8 b9 false::mp b9 []::mp b8 (mput (acc.map rcPair) cx.id (rcv ⟨cx.id,cx.dim,⟨q2,cx.sides.length,d2⟩⟩))::pt b1 (.cells #[v] 29 (0,0))::ownS (A.take k) acc)++s) (.cons_cons _ (.cons _ (.refl _))));have h2:=h1.perm List.perm_middle.symm;simpa using h2
  exact ST.again (k+1,_) sB I I ⟨by dsimp only; omega,by
   dsimp only;rw[htk];exact hacc.append ⟨⟨I,I,I⟩,trivial⟩⟩ (by dsimp only; omega)
 ·have hkk:A.take k=A:=tL oM;rw[hkk] at hacc ⊢;refine xI (tX (tX (bX (tN (sW I (aT I (rE ?_)))))));refine ST.to (g':=g1) (s':=edP b11 (.slice q rs.length d) b8 b9 false::mp b8 (acc.map rcPair)::mp b9 []::(ownS A acc++s)) (fun w hw=>(hw.perm (List.Perm.cons _ (List.Perm.swap _ _ _))).sublist (.cons_cons _ (.cons_cons _ (.cons_cons _ (.cons _ (.refl _)))))) ?_;exact ST.ret1 (.inl I) results74 I ⟨hle1,b11,_,b8,b9,acc,I,hcc,hacc,I⟩
theorem has_editor (E:World)(g:PH)(s:Own)(bx mb ms:Nat)(u:Value)(bk:Bool)(k:Int)(R:Cl→Rc→Prop)(hR:∀ c r,R c r→r.id=c.id)(B:List Cl)(rs:List Rc)(hall:All2 R B rs)(i j:Nat)(hi:s[i]?=some (edP bx u mb ms bk))(hj:s[j]?=some (mp mb (rs.map rcPair))) :
  Ctr Tryz.prog E 135 #[pp bx 0,vi k] g s (fun r g' s'=>r=vb (findT B k).isSome∧g=g'∧s=s'):=by
 obtain ⟨x,hx1,hx2⟩:=all2_lookG hR hall k;refine Ctr.of (args:=[pp bx 0,vi k]) func135 I ntmps135 (bE I) ?_;refine rZ (aT I (sW I (lU (nC I) (lU (fA uT150 I zT125 I) (lK (qL (v:=.map (some mb)) iT125 I (cO i hi I)) (lM I (lK (SQ.eq (v':=.tuple #[rcv x,vb (findT B k).isSome]) (SQ.lookupOk mty125 I I (MapAt.own j hj)) (by rw[hx1,hx2])) ?_)))))));refine lM I (yX I (yX I (bW (aL zeroValue54) fun b5=>?_)));refine oZ (sK 0 zT54 I I I I I sB) ?_;refine aT I (sW I (aT I (rE (dR (s':=s) uR ?_))));exact ST.ret1 (.inl I) results135 I ⟨I,I,I⟩
theorem attach_spec (E:World)(g:PH)(s:Own)(bx mb ms:Nat)(u v:Value)(bk:Bool)(e:Ed)(B:List Cl)(rs:List Rc)(hall:All2 (CellR g) B rs)(i j:Nat)(hi:s[i]?=some (edP bx u mb ms bk))(hj:s[j]?=some (mp mb (rs.map rcPair)))(he:EdR g v e)(hes:e.sides.length<1099511627776) :
  Ctr Tryz.prog E 105 #[pp bx 0,v] g s (fun r g' s'=>Le g g'∧((r=vi 54∧(findT B e.cell).isSome=true∧s=s')∨(r=vi 0∧(findT B e.cell).isSome=false∧∃ rs',All2 (CellR g') (putC B ⟨e.cell,e.dim,e.sides⟩) rs'∧s'=s.set j (mp mb (rs'.map rcPair))))):=by
 obtain ⟨sv,pv,rfl,hsv,hpv⟩:=he;obtain ⟨sp,sc,rfl⟩:=SlA.form hsv;refine Ctr.of (args:=[pp bx 0,.agg #[vi e.kind,vi e.cell,vi e.dim,vi e.new,vi e.other,.slice sp e.sides.length sc,pv]]) func105 I ntmps105 (bE I) ?_;refine rZ (bW (bO I) fun b3=>?_);refine aT I (sQ (sW I (lU (fA uT39 I zT3 I) (lK (qL iT3 I (cO 0 I I)) (lW (SO.call call135 I (has_editor E g _ bx mb ms u bk e.cell _ (fun _ _ h=>h.1) B rs hall (i+1) (j+1) hi hj)) ?_)))));rintro _ _ _ ⟨rfl,rfl,rfl⟩;refine tZ ?_;refine iQ I (fun hp=>?_) (fun hp=>?_)
 ·refine rZ (aT I (rE (tR (dR (s':=s) uR ?_))));exact ST.ret1 (.inl I) results105 I ⟨Le.refl _,.inl ⟨I,hp,I⟩⟩
 ·refine kP (tN (sQ ?_));refine dW [14] [(0,2),(1,2),(2,2),(3,1),(4,2),(5,1),(6,2),(7,1),(8,2),(9,1),(10,2),(11,1),(12,0),(13,2),(14,0)] Tryz.mixed kR ?_;refine yM I (pU I (nC I) (pU I (fA uT150 I zT125 I) (pK I (qL (v:=.map (some mb)) iT125 I (cO (i+1) hi I)) (pU I (fA uT39 I zT3 I) (pK I (qL iT3 I (cO 0 I I)) (pU I (fA uT39 I zT3 I) (pK I (qL iT3 I (cO 0 I I)) (pU I (fA uT39 I zT3 I) (pK I (qL iT3 I (cO 0 I I)) (pU I (fA uT39 I zT37 I) (pK I (qL (v:=.slice sp e.sides.length sc) iT37 I (cO 0 I I)) (SP.o I (SO.call call110 I (cloneSd E g _ _ e.sides hsv hes)) dC (.inr iR) ?_))))))))))));rintro v21 _ _ ⟨rfl,rfl⟩;refine SP.freezeRow fun g2 hle2 hs2=>?_;obtain ⟨q2,d2,rfl⟩:=Sl.form hs2;refine pU I (SU.build I (buildF54 _ _ _ I)) (SP.on I (SO.mapUpdate (j+1) mty125 I I I hj) (.inl dC) ?_);rintro _ _ _ ⟨rfl,rfl⟩;refine pN (tN (rZ (aT I (rE (dR (s':=s.set j (mp mb (mput (rs.map rcPair) e.cell (rcv ⟨e.cell,e.dim,⟨q2,e.sides.length,d2⟩⟩)))) (.cons _ (.refl _)) ?_)))));refine ST.ret1 (.inl I) results105 I ⟨hle2,.inr ⟨I,hp,putR rs ⟨e.cell,e.dim,⟨q2,e.sides.length,d2⟩⟩,all2_put (fun _ _ h=>h.1) ⟨I,I,hs2⟩ (hall.mono fun _ _=>CellR.mono hle2),?_⟩⟩;rw[← mput_rc]
theorem remove_spec (E:World)(g:PH)(s:Own)(bx mb ms:Nat)(u v:Value)(bk:Bool)(e:Ed)(A B:List Cl)(rs:List Rc)(hu:Cells g u A)(hf:Fits A)(hall:All2 (CellR g) B rs)(i j:Nat)(hi:s[i]?=some (edP bx u mb ms bk))(hj:s[j]?=some (mp mb (rs.map rcPair)))(hij:j≠i)(he:EdR g v e) :
  Ctr Tryz.prog E 106 #[pp bx 0,v] g s (fun r g' s'=>Le g g'∧((r=vi 30∧(findT B e.cell).isSome=false∧s=s')∨(r=vi 31∧(findT B e.cell).isSome=true∧0<(aboveC A e.cell).length∧s=s')∨(r=vi 0∧(findT B e.cell).isSome=true∧aboveC A e.cell=[]∧s'=(s.set j (mp mb ((delR rs e.cell).map rcPair))).set i (edP bx u mb ms true)))):=by
 obtain ⟨sv,pv,rfl,hsv,hpv⟩:=he;obtain ⟨p,c,rfl⟩:=hu.form;refine Ctr.of (args:=[pp bx 0,.agg #[vi e.kind,vi e.cell,vi e.dim,vi e.new,vi e.other,sv,pv]]) func106 I ntmps106 (bE I) ?_;refine rZ (bW (bO I) fun b3=>?_);refine aT I (sQ (bK (sW I (lU (fA uT39 I zT3 I) (lK (qL iT3 I (cO 0 I I)) (lW (SO.call call135 I (has_editor E g _ bx mb ms _ bk e.cell _ (fun _ _ h=>h.1) B rs hall (i+1) (j+1) hi hj)) ?_))))));rintro _ _ _ ⟨rfl,rfl,rfl⟩;refine lU (SU.not I) (aT I ?_);refine iQ I (fun hp=>?_) (fun hp=>?_)
 ·refine rZ (aT I (rE (bR (tR (dR (s':=s) uR ?_)))));exact ST.ret1 (.inl I) results106 I ⟨Le.refl _,.inl ⟨I,by simpa using hp,I⟩⟩
 ·have hp2:(findT B e.cell).isSome=true:=by simpa using hp
  refine sQ ?_;refine dW [] [(0,2),(1,2),(2,2),(3,1),(4,2),(5,1),(6,0),(7,2),(8,2),(9,2)] Tryz.mixed kR ?_;refine yM I (pU I (nC I) (pU I (fA uT150 I zT29 I) (pK I (SQ.loadOne iT29 zT29 I (cO (v:=.slice p A.length c) (i+1) hi I)) (pU I (fA uT39 I zT3 I) (pK I (qL iT3 I (cO 0 I I)) (SP.o I (SO.call call55 I (above_spec E g _ _ A e.cell hu hf)) dC (.inr iR) ?_))))));rintro v18 g1 _ ⟨rfl,hle1,ha⟩;obtain ⟨q2,d2,rfl⟩:=SlA.form ha;refine pU I (eN uT22 I) (pU I (gR I I) (pU I (aS I) (pN (tN ?_))));refine iP I (fun ha0=>?_) (fun ha0=>?_)
  ·refine rZ (aT I (rE (bR (tR (dR (s':=s) uR ?_)))));exact ST.ret1 (.inl I) results106 I ⟨hle1,.inr (.inl ⟨I,hp2,oM,I⟩)⟩
  ·have hi2:(s.set j (mp mb (mdel (rs.map rcPair) e.cell)))[i]?=some (edP bx (.slice p A.length c) mb ms bk):=by rw[List.getElem?_set_ne hij]; exact hi
   refine kP (bN (tN (sQ ?_)));refine dW [6] [(0,2),(1,2),(2,2),(3,1),(4,2),(5,1),(6,0)] Tryz.mixed kR ?_;refine yM I (pU I (nC I) (pU I (fA uT150 I zT125 I) (pK I (qL (v:=.map (some mb)) iT125 I (cO (i+1) hi I)) (pU I (fA uT39 I zT3 I) (pK I (qL iT3 I (cO 0 I I)) (SP.on I (SO.delete (j+1) mty125 I I hj) (.inl dC) ?_))))));rintro _ _ _ ⟨rfl,rfl⟩;refine pN (tN (sW I (lU (nC I) (lU (fA uT150 I zT4 I) (oZ (SO.store1 (i+1) zT4 I I hi2 I (bE I) I) (tZ (rZ (aT I (rE (dR (s':=(s.set j (mp mb (mdel (rs.map rcPair) e.cell))).set i (edP bx (.slice p A.length c) mb ms true)) (.cons _ (.refl _)) ?_))))))))));refine ST.ret1 (.inl I) results106 I ⟨hle1,.inr (.inr ⟨I,hp2,List.eq_nil_of_length_eq_zero oM,by rw[← mdel_rc]⟩)⟩
theorem result_new (E:World)(g:PH)(s:Own)(bx mb ms:Nat)(u:Value)(bk:Bool)(B:List Cl)(rs:List Rc)(hall:All2 (CellR g) B rs)(hn:(B.map Cl.id).Nodup)(hf:Fits B)(hm:Mp g mb (rs.map rcPair))(i:Nat)(hi:s[i]?=some (edP bx u mb ms bk)) :
  Ctr Tryz.prog E 75 #[pp bx 0] g s (fun r g' s'=>s=s'∧Le g g'∧∃ u',r = .agg #[u']∧CellsK (mns g' g) u' (canonC B)):=by
 obtain ⟨es,clk,hes,hmi⟩:=hm;have hrl:=hall.length;have hBl:=hf.1;refine Ctr.of (args:=[pp bx 0]) func75 I ntmps75 (bE I) ?_;refine rZ (bW (aL zeroValue29) fun b2=>?_);refine tZ (rZ (bW (aL zeroValue29) fun b3=>?_));refine tZ (sQ (sW I (lU (nC I) (lU (fA uT150 I zT125 I) (lK (qL (v:=.map (some mb)) iT125 I (cO (i+2) hi I)) (lW (SO.range underlying125 I hes) ?_))))));rintro _ _ _ ⟨it,rfl,rfl,rfl⟩;refine tZ (bK (SC.nilRow 54 3 ?_));refine oP (ι:=List MapEntry×List Rc×List Cl×Value) (fun _=>[(2,pp b2 0),(3,pp b3 0),(10,pp it 0)]) (fun _=>g)
  (fun i=>rowA encCell 54 i.2.2.2 i.2.1::iter it mb es clk i.1::pt b3 (.cells #[i.2.2.2] 29 (0,0))::pt b2 (.cells #[.slice none 0 0] 29 (0,0))::s)
  (fun i=>RVis (rs.map rcPair) es i.1 (i.2.1.map rcPair)∧All2 (CellR g) i.2.2.1 i.2.1∧(∀ c∈i.2.2.1,c∈B)) (fun i=>rs.length - i.2.1.length)
  ([],[],[],.slice none 0 0) sB rfl rfl ⟨RVis.nil _ _,trivial,by simp⟩ ?_
 rintro ⟨vis,acc,vc,ov⟩ ⟨hrv,hacc,hvs⟩;dsimp only at hrv hacc hvs ⊢;have hvle:=hrv.len hmi;simp only[List.length_map] at hvle;have hal:=hacc.length;refine rZ (lW (SO.nextP 1 I I hes hmi hrv) ?_);rintro _ _ _ ⟨rfl,hcase⟩
 rcases hcase with ⟨rfl,rfl,hperm⟩ | ⟨e,pr,he,hp1,hk1,hv1,hrv2,rfl,rfl⟩
 ·have hpv:vc.Perm B:=visited_perm (by rw[List.map_map,all2_ids hacc]; rfl) hvs hn hall hperm;have hcn:canonC vc=canonC B:=canonC_permE hpv ((hpv.map Cl.id).symm.nodup hn);have hvf:Fits vc:=⟨by have:=hpv.length_eq; omega,fun c hc=>hf.2 c (hvs c hc)⟩;refine yX I (tZ (sQ (cF I (xI (tX (tX (bX (tN (sQ (fS fun g2 hle2 hs2=>?_))))))))));obtain ⟨q2,d2,rfl⟩:=Sl.form hs2;refine rG (lK (qV 1 iT29 zT29 I I I) (lW (SO.call call50 I (canon_new E g2 _ _ vc ⟨acc,hs2,hacc.mono fun _ _=>CellR.mono hle2⟩ hvf)) ?_));rintro _ g3 _ ⟨rfl,hle3,u3,rfl,hu3⟩;rw[hcn] at hu3;have hu4:=hu3.cells (mns_le _ _);obtain ⟨q3,d3,rfl⟩:=hu4.form;refine oZ (sK 2 zT29 I I I I I sB) ?_;refine tZ (rE ?_);exact ST.retCD 2 s (.inl I) results75 I iT29 zT29 I I uR ⟨I,hle2.trans hle3,_,I,hu3.mono (mns_anti hle2)⟩
 ·obtain ⟨x,hx,rfl⟩:=List.mem_map.1 hp1;obtain ⟨cx,hcm,hcx⟩:=all2_mem hall hx;refine yX I (tZ (sQ (SC.condT I (kP (tN (bK (rZ (lK (SQ.entryP 1 I I hes hmi he hk1 hv1) (yX I (bW (aL zeroValue54) fun b5=>?_))))))))));refine oZ (sK 0 zT54 I I I I I sB) ?_;refine tZ ?_;refine SC.to (g':=g) (s':=pt b5 (.cells #[vi x.id,vi x.dim,.slice x.sv.p x.sv.n x.sv.c] 54 (0,0))::rowA encCell 54 ov acc::iter it mb es clk (vis++[e])::pt b3 (.cells #[ov] 29 (0,0))::pt b2 (.cells #[.slice none 0 0] 29 (0,0))::s) (fun w hw=>hw) ?_;refine rG (lU (fA uT29 I zT27 I) (lK (qL iT27 I (cO 3 I I)) (lK (qV 0 iT54 zT54 I I I) (lW (bS sty27 I I I (szs_mk sB) dC) ?_))));rintro _ _ _ ⟨b18,rfl,rfl,rfl⟩;refine lW (aP (e:=encCell) 1 x sty27 I I I I I oM oM) ?_;rintro ov' _ _ ⟨rfl,rfl⟩;refine SL.facts fun ⟨w0,hw0⟩=>?_;obtain ⟨q',d',rfl⟩:=rowA_form (e:=encCell) (l:=acc++[x]) (i:=1) hw0 rfl;clear hw0 w0;refine lU (fA uT29 I zT27 I) (oZ (sK 3 zT27 I I I I I sB) ?_);refine nL (bN (dR (.cons _ (.refl _)) ?_));exact ST.again (vis++[e],acc++[x],vc++[cx],_) sB I I ⟨by dsimp only; rw[List.map_append]; exact hrv2,hacc.append ⟨hcx,trivial⟩,fun c hc=>by
   rcases List.mem_append.1 hc with h | h
   ·exact hvs c h
   ·simp at h; rw[h]; exact hcm⟩ (by
   have:=hrv2.len hmi;simp only[List.length_map,List.length_append,List.length_singleton] at this ⊢;omega)
theorem result_spec (E:World)(g:PH)(s:Own)(bx mb ms:Nat)(u:Value)(bk:Bool)(B:List Cl)(rs:List Rc)(hall:All2 (CellR g) B rs)(hn:(B.map Cl.id).Nodup)(hf:Fits B)(hm:Mp g mb (rs.map rcPair))(i:Nat)(hi:s[i]?=some (edP bx u mb ms bk)) :
  Ctr Tryz.prog E 75 #[pp bx 0] g s (fun r g' s'=>s=s'∧Le g g'∧∃ u',r = .agg #[u']∧Cells g' u' (canonC B)) :=
 (result_new E g s bx mb ms u bk B rs hall hn hf hm i hi).mono fun _ _ _ ⟨h1,h2,x,h3,h4⟩=>⟨h1,h2,x,h3,h4.cells (mns_le _ _)⟩
abbrev Tm:=Int×Int
def wneg (n:Int):Bool:=decide (n<0)&&decide (magB n.natAbs≠[])
def encTm:Enc Tm 3:=⟨fun p=>[vi p.1,vb (wneg p.2),txt (magB p.2.natAbs)],fun _=>rfl,fun _ u hu=>by simp at hu; rcases hu with rfl | rfl | rfl <;> rfl,by decide⟩
structure Im where
 cell:Int
 sv:Sv
def encIm:Enc Im 2:=⟨fun r=>[vi r.cell,.slice r.sv.p r.sv.n r.sv.c],fun _=>rfl,fun _ u hu=>by simp at hu; rcases hu with rfl | rfl <;> rfl,by decide⟩
def ImR (g:PH)(c:Int×List Tm)(r:Im):Prop:=r.cell=c.1∧SlA encTm g (.slice r.sv.p r.sv.n r.sv.c) c.2
theorem ImR.mono {g g':PH}(hl:Le g g'){c:Int×List Tm}{r:Im}(h:ImR g c r):ImR g' c r:=⟨h.1,SlA.mono h.2 hl⟩
def Ims (g:PH)(v:Value)(l:List (Int×List Tm)):Prop:=∃ rs,SlA encIm g v rs∧All2 (ImR g) l rs
theorem Tryz.build156 (x:Int)(b:Bool)(l:List UInt8)(w:World):(Instr.build 156 #[(0,vi x),(1,.agg #[vb b,txt l])]).run Tryz.prog w = .ok (.agg #[vi x,vb b,txt l]) w:=by
 have h1:(vi x).cells = #[vi x]:=rfl;have h2:(Value.agg #[vb b,txt l]).cells = #[vb b,txt l]:=rfl;simp[Instr.build,Instr.fill,h1,h2];rfl
theorem Tryz.build162 (x:Int)(p:Option Addr)(n c:Nat)(w:World):(Instr.build 162 #[(0,vi x),(1,.slice p n c)]).run Tryz.prog w = .ok (.agg #[vi x,.slice p n c]) w:=by
 have h1:(vi x).cells = #[vi x]:=rfl;have h2:(Value.slice p n c).cells = #[.slice p n c]:=rfl;simp[Instr.build,Instr.fill,h1,h2];rfl
theorem Tryz.buildB89 (b:Bool)(w:World):(Instr.build 89 #[(1,vb b)]).run Tryz.prog w = .ok (.agg #[.slice none 0 0,vb b]) w:=by
 have h1:(vb b).cells = #[vb b]:=rfl;simp[Instr.build,Instr.fill,h1];rfl
theorem Tryz.mty148:MTy Tryz.prog 148 3 151 (.slice none 0 0):=⟨underlying148,underlying3,zeroValue151⟩
theorem Tryz.sty151:STy Tryz.prog 151 156 3 32 (.agg #[vi 0,vb false,txt []]):=⟨underlying151,⟨t156,by kernel_rfl,by kernel_rfl,by kernel_rfl,by kernel_rfl⟩,rfl,by decide⟩
theorem Tryz.sty85:STy Tryz.prog 85 162 2 32 (.agg #[vi 0,.slice none 0 0]):=⟨underlying85,⟨t162,by kernel_rfl,by kernel_rfl,by kernel_rfl,by kernel_rfl⟩,rfl,by decide⟩
theorem term_spec (E:World)(g:PH)(s:Own)(c n:Int)(h0 : -9223372036854775808≤n)(h1:n<9223372036854775808) :
  Ctr Tryz.prog E 112 #[vi c,vi n] g s (fun r g' s'=>r = .agg (encTm.enc (c,n)).toArray∧s=s'∧Le g g'):=by
 refine Ctr.of (args:=[vi c,vi n]) func112 I ntmps112 (bE I) ?_;refine rZ (bW (aL zeroValue156) fun b4=>?_);refine tZ (sW I (lM I (lW (SO.call call143 I (from_spec E g _ n h0 h1)) ?_)));rintro _ g1 _ ⟨rfl,rfl,hle1⟩;refine lU (SU.build I (build156 _ _ _)) (oZ (sK 0 sizeOf156 I I I I I sB) ?_);refine tZ (rE ?_);exact ST.retCD 0 s (.inl I) results112 I isAgg156 sizeOf156 I I uR ⟨I,I,hle1⟩
theorem image_none (E:World)(g:PH)(s:Own)(b2 bx mb ms:Nat)(u:Value)(bk:Bool)(k:Int)(i j q:Nat)(hq:s[q]?=some (pt b2 (.cells #[pp bx 0] 122 (0,0))))(hi:s[i]?=some (edP bx u mb ms bk))(hj:s[j]?=some (mp ms [])) :
  CallV Tryz.prog E (.func (.func 111) #[] #[pp b2 0]) [vi k] g s (fun r g' s'=>s=s'∧Le g g'∧SlA encTm g' r [(k,1)]):=by
 refine CallV.mk (args:=[_]) (cap:=[pp b2 0]) call111 ?_;refine Ctr.of (args:=[vi k,pp b2 0]) func111 I ntmps111 (bE I) ?_;refine rZ (aT I (rZ (lK (qL (v:=pp bx 0) isAgg122 I (cO q hq I)) (lU (nC I) (lU (fA uT150 I sizeOf148 I) (lK (qL (v:=.map (some ms)) isAgg148 I (cO i hi I)) (lM I (lK (SQ.eq (v':=.tuple #[.slice none 0 0,vb false]) (SQ.lookupOk mty148 I I (MapAt.own j hj)) I) (lM I (yX I (yX I (lA I (aT I (sQ (sW I (lU (SU.not I) (tZ (SC.condT I (rZ ?_)))))))))))))))))));refine lM I (lW (SO.call call112 I (term_spec E g _ k 1 dC dC)) ?_);rintro _ g1 _ ⟨rfl,rfl,hle1⟩;refine lW (bS sty151 I I I (szs_mk ⟨I,trivial⟩) dC) ?_;rintro _ _ _ ⟨b19,rfl,rfl,rfl⟩;refine SL.freeze fun g2 hle2 hb2=>?_;refine aT I (rE (tR ?_));exact ST.ret1 (.inl I) results111 I ⟨I,hle1.trans hle2,SlA.lit hb2 I I⟩
def selfT (c:Cl):Int×List Tm:=(c.id,[(c.id,1)])
theorem step_none (E:World)(g:PH)(s:Own)(bx mb ms:Nat)(u v:Value)(bk:Bool)(A D:List Cl)(hu:Cells g u A)(hv:Cells g v D)(hA:A.length<1099511627776)(hD:D.length<1099511627776)(i j:Nat)(hi:s[i]?=some (edP bx u mb ms bk))(hj:s[j]?=some (mp ms [])) :
  Ctr Tryz.prog E 76 #[pp bx 0,.agg #[v]] g s (fun r g' s'=>s=s'∧Le g g'∧∃ iv,r = .agg #[iv,vb bk]∧Ims g' iv ((if bk then D else A).map selfT)):=by
 obtain ⟨pu,cu,rfl⟩:=hu.form;obtain ⟨pv,cv,rfl⟩:=hv.form;refine Ctr.of (args:=[pp bx 0,.agg #[.slice pv D.length cv]]) func76 I ntmps76 (bE I) ?_;refine rZ (bW (bO I) fun b2=>?_);refine bW (bO I) fun b3=>?_;refine bW (aL zeroValue89) fun b4=>?_;refine tZ (rZ (lK (qL isAgg122 I (cO 2 I I)) (lU (nC I) (lU (fA uT150 I zT29 I) (lK (SQ.loadOne iT29 zT29 I (cO (v:=.slice pu A.length cu) (i+3) hi I)) (bW (aL zeroValue29) fun b5=>?_))))));refine oZ (sK 0 zT29 I I I I I sB) ?_;refine tZ ?_;refine SC.cut (ι:=Unit) (fun _=>[(2,pp b2 0),(3,pp b3 0),(4,pp b4 0),(5,pp b5 0)]) (fun _=>g) (fun _=>pt b5 (.cells #[if bk then .slice pv D.length cv else .slice pu A.length cu] 29 (0,0))::pt b4 (.cells #[.slice none 0 0,vb false] 89 (0,0))::pt b3 (.cells #[.slice pv D.length cv] 29 (0,0))::pt b2 (.cells #[pp bx 0] 122 (0,0))::s) (fun _=>True) ?_ ?_
 ·refine rZ (lK (qL isAgg122 I (cO 3 I I)) (lU (nC I) (lU (fA uT150 I zT4 I) (lK (qL (v:=vb bk) isAgg4 I (cO (i+4) hi I)) (tZ ?_)))));cases bk with
  | true =>
   refine SC.condT I (rG (lK (qV 2 iT29 zT29 I I I) (oZ (sK 0 zT29 I I I I I sB) ?_)));refine nL ?_;exact ST.mid () sB I I trivial
  | false =>
   refine cF I (kP ?_);exact ST.mid () sB I I trivial
 rintro _ -;try dsimp only
 have hF:Cells g (if bk then .slice pv D.length cv else .slice pu A.length cu) (if bk then D else A):=by cases bk <;> assumption
 have hFl:(if bk then D else A).length<1099511627776:=by cases bk <;> assumption
 generalize (if bk=true then D else A)=F at *;generalize (if bk=true then Value.slice pv D.length cv else Value.slice pu A.length cu)=w at *;obtain ⟨rs,hrs,hall⟩:=hF;have hrl:=hall.length;obtain ⟨p,c,rfl⟩:=SlA.form hrs;refine rZ (lK (qL isAgg122 I (cO 3 I I)) (lU (nC I) (lU (fA uT150 I zT4 I) (lK (qL (v:=vb bk) isAgg4 I (cO (i+4) hi I)) (lU (SU.build I (buildB89 _)) (bW (aL zeroValue89) fun b6=>?_))))));refine oZ (sK 0 zT89 I I I I I sB) ?_;refine tZ (rZ (lU (SU.mkFunc I) (aT I (sQ (rZ (lU (fA uT29 I zT27 I) (lK (qL iT27 I (cO 1 I I)) (lU (eN uT27 I) (lM I (tZ (bK (SC.nilRow 162 2 ?_))))))))))));refine oP (ι:=Nat×PH×Value×List Im) (fun i=>[(2,pp b2 0),(4,pp b4 0),(6,pp b6 0),(7,.func (.func 111) #[] #[pp b2 0]),(26,.slice p rs.length c),(27,vi rs.length),(28,vi i.1)]) (fun i=>i.2.1)
  (fun i=>rowA encIm 162 i.2.2.1 i.2.2.2::pt b6 (.cells #[i.2.2.1,vb bk] 89 (0,0))::pt b5 (.cells #[.slice p rs.length c] 29 (0,0))::pt b4 (.cells #[.slice none 0 0,vb false] 89 (0,0))::pt b3 (.cells #[.slice pv D.length cv] 29 (0,0))::pt b2 (.cells #[pp bx 0] 122 (0,0))::s)
  (fun i=>i.1≤rs.length∧Le g i.2.1∧All2 (ImR i.2.1) ((F.take i.1).map selfT) i.2.2.2) (fun i=>rs.length - i.1) (0,g,.slice none 0 0,[])
  sB rfl rfl ⟨Nat.zero_le _,Le.refl g,by simp[All2]⟩ ?_
 rintro ⟨k,g1,ov,acc⟩ ⟨hk,hle,hacc⟩;dsimp only at hk hle hacc ⊢;have hal:=hacc.length;rw[List.length_map,List.length_take] at hal;refine rZ (yL I (tZ (sQ ?_)));refine iP I (fun hlt=>?_) (fun hlt=>?_)
 ·have hkr:k<rs.length:=oM;have hkl:k<F.length:=oM;have hb1:=SlA.based hrs oM;have hcr:=hall.get (gE hkl) (gE hkr);have hgx:rs[((k:Nat):Int).toNat]?=some rs[k]:=gE hkr;have htk:F.take (k+1)=F.take k++[F[k]]:=tS hkl;generalize rs[k]=x at *;generalize F[k]=cx at *;obtain ⟨xi,xd,xp,xn,xc⟩:=x;obtain ⟨e1,e2,-⟩:=hcr;dsimp only at e1 e2;subst e1 e2;refine kP (tN (sQ (bK (rZ (lU (iA uT27 zT54 I I hb1 oM (show (k:Int)<((rs.length:Nat):Int) by omega)) ?_)))));refine lK (eA iT54 zT54 I (SlA.rd (SlA.mono hrs hle)) hgx) (bW (aL zeroValue54) fun b9=>?_);refine oZ (sK 0 zT54 I I I I I sB) ?_;refine tZ ?_;refine dW [11,14] [(0,2),(1,2),(2,1),(3,2),(4,1),(5,2),(6,2),(7,1),(8,0),(9,2),(10,0),(11,0),(12,2),(13,2),(14,0)] Tryz.mixed kR ?_;refine pU I (fA underlying89 I sizeOf87 I) (pU I (fA underlying87 I sizeOf85 I) (pK I (qL isAgg85 I (cO 2 I I)) (pU I (fA uT54 I zT3 I) (pK I (qL iT3 I (cO 0 I I)) (yM I (pU I (fA uT54 I zT3 I) (pK I (qL iT3 I (cO 0 I I)) (SP.o I (SO.callV I I (image_none E g1 _ b2 bx mb ms _ bk cx.id (i+7) (j+7) 6 I hi hj)) dC (.inr iR) ?_))))))));rintro v40 g2 _ ⟨rfl,hle2,hch⟩;obtain ⟨q2,d2,rfl⟩:=SlA.form hch;refine pU I (SU.build I (build162 _ _ _ _)) (SP.o I (bS sty85 I I I (szs_mk sB) dC) dC (.inr iR) ?_);rintro _ _ _ ⟨b42,rfl,rfl,rfl⟩;refine SP.o I (aP (e:=encIm) 1 ⟨cx.id,⟨q2,1,d2⟩⟩ sty85 I I I I I oM oM) dC (.inl dC) ?_;rintro ov' _ _ ⟨rfl,rfl⟩;refine SP.facts fun ⟨w0,hw0⟩=>?_;obtain ⟨q',d',rfl⟩:=rowA_form (e:=encIm) (l:=acc++[⟨cx.id,⟨q2,1,d2⟩⟩]) (i:=1) hw0 rfl;clear hw0 w0;refine pU rfl (fA underlying89 rfl sizeOf87 rfl) (pU rfl (fA underlying87 rfl sizeOf85 rfl) (SP.on rfl (SO.store1 2 sizeOf85 rfl rfl rfl rfl (bE rfl) (by rfl)) (.inl dC) ?_));rintro _ _ _ ⟨rfl,rfl⟩;refine pN (bN (tN (rG (yD I (lM I (nL (dR (.cons _ (.refl _)) ?_)))))));exact ST.again (k+1,g2,_,acc++[⟨cx.id,⟨q2,1,d2⟩⟩]) sB I I ⟨by dsimp only; omega,hle.trans hle2,by
   dsimp only;rw[htk,List.map_append];exact (hacc.mono fun _ _=>ImR.mono hle2).append ⟨⟨I,hch⟩,trivial⟩⟩ (by dsimp only; omega)
 ·have hkk:F.take k=F:=tL oM;rw[hkk] at hacc;refine xI (tX (tX (bX (tN (sQ (fS fun g2 hle2 hs2=>?_))))));obtain ⟨q2,d2,rfl⟩:=Sl.form hs2;refine rG (lK (qV 0 isAgg89 zT89 I I I) (oZ (sK 2 zT89 I I I I I sB) ?_));refine tZ (rE ?_);exact ST.retCD 2 s (.inl I) results76 I isAgg89 zT89 I I uR ⟨I,hle.trans hle2,_,I,acc,hs2,hacc.mono fun _ _=>ImR.mono hle2⟩
set_option maxHeartbeats 2000000
theorem Ctr.freezeO {P:Program}{E:World}{n:FuncId}{args:Array Value}{g:PH}{L s:Own}{R:Value→PH→Own→Prop}{A:List Cl}{rs:List Rc}(hO:All2 CellO A rs)
  (h:∀ g1,Le g g1→All2 (CellR g1) A rs→Ctr P E n args g1 (L++s) R):Ctr P E n args g (L++(ownS A rs++s)) R:=fun w hw=>by
 have h1:(L++(ownS A rs++s)).Perm (ownS A rs++(L++s)):=by
  rw[← List.append_assoc,← List.append_assoc];exact List.perm_append_comm.append_right s
 obtain ⟨g1,h2,h3,h4⟩:=Go.Proofs.YtmmghffoakhheaaGreatDoor.freezeO hO (hw.perm h1);exact h g1 h2 h4 w h3
def KindRun (fv:Value)(e:Ed)(A:List Cl)(code:Int)(B:List Cl)(bk:Bool):Prop :=
 ∀ (E:World) (g:PH) (s:Own) (bx mb ms:Nat) (u v:Value) (rs:List Rc),Cells g u A→All2 CellO A rs→EdR g v e →
  CallV Tryz.prog E fv [pp bx 0,v] g (edP bx u mb ms false::mp mb (rs.map rcPair)::mp ms []::(ownS A rs++s)) (fun r g' s'=>Le g g'∧r=vi code∧(if code=0 then ∃ rs',All2 (CellR g') B rs'∧s'=edP bx u mb ms bk::mp mb (rs'.map rcPair)::mp ms []::s else ∃ h,s'=h++s))
def attachCode (A:List Cl)(e:Ed):Int:=if (findT A e.cell).isSome then 54 else 0
def removeCode (A:List Cl)(e:Ed):Int:=if (findT A e.cell).isSome then (if 0<(aboveC A e.cell).length then 31 else 0) else 30
theorem attach_run (A:List Cl)(e:Ed)(he:e.sides.length<1099511627776):KindRun (.func (.func 105) #[] #[]) e A (attachCode A e) (putC A ⟨e.cell,e.dim,e.sides⟩) false:=by
 intro E g s bx mb ms u v rs hu hO hv;refine CallV.mk (args:=[_,_]) (cap:=[]) call105 ?_;refine Ctr.freezeO (L:=[edP bx u mb ms false,mp mb (rs.map rcPair),mp ms []]) hO fun g1 hle1 hall=>?_;refine (attach_spec E g1 _ bx mb ms u v false e A rs hall 0 1 I I (hv.mono hle1) he).mono ?_;rintro r g' s' ⟨hle,h⟩;refine⟨hle1.trans hle,?_⟩;unfold attachCode
 rcases h with ⟨rfl,h1,rfl⟩ | ⟨rfl,h1,rs',h2,rfl⟩
 ·rw[h1];exact⟨I,[edP bx u mb ms false,mp mb (rs.map rcPair),mp ms []],I⟩
 ·rw[h1];exact⟨I,rs',h2,I⟩
theorem remove_run (A:List Cl)(hf:Fits A)(e:Ed):KindRun (.func (.func 106) #[] #[]) e A (removeCode A e) (delC A e.cell) true:=by
 intro E g s bx mb ms u v rs hu hO hv;refine CallV.mk (args:=[_,_]) (cap:=[]) call106 ?_;refine Ctr.freezeO (L:=[edP bx u mb ms false,mp mb (rs.map rcPair),mp ms []]) hO fun g1 hle1 hall=>?_;refine (remove_spec E g1 _ bx mb ms u v false e A A rs (hu.mono hle1) hf hall 0 1 I I dC (hv.mono hle1)).mono ?_;rintro r g' s' ⟨hle,h⟩;refine⟨hle1.trans hle,?_⟩;unfold removeCode
 rcases h with ⟨rfl,h1,rfl⟩ | ⟨rfl,h1,h2,rfl⟩ | ⟨rfl,h1,h2,rfl⟩
 ·rw[h1];exact⟨I,[edP bx u mb ms false,mp mb (rs.map rcPair),mp ms []],I⟩
 ·rw[h1,if_pos rfl,if_pos h2];exact⟨I,[edP bx u mb ms false,mp mb (rs.map rcPair),mp ms []],I⟩
 ·rw[h1,h2];exact⟨I,delR rs e.cell,(all2_del (fun _ _ h=>h.1) e.cell hall).mono fun _ _=>CellR.mono hle,I⟩
theorem get_after {α:Type}(L r:List α)(k:Nat):(L++r)[L.length+k]?=r[k]?:=by
 rw[List.getElem?_append_right oM,Nat.add_sub_cancel_left]
def applyOut (code:Int)(B:List Cl):Int×List Cl :=
 if code≠0 then (code,[]) else if (checkC (canonC B)).2≠0 then ((checkC (canonC B)).2,[]) else (0,canonC B)
theorem Tryz.buildZ89 (w:World):(Instr.build 89 #[]).run Tryz.prog w = .ok (.agg #[.slice none 0 0,vb false]) w:=by
 simp[Instr.build,Instr.fill];rfl
theorem Cells.nil (g:PH):Cells g (.slice none 0 0) []:=⟨[],Sl.nil g _,trivial⟩
theorem edRight_B (E:World)(g:PH)(s:Own)(v:Value)(l:List Cl)(hv:Cells g v l)(hf:Fits l)(b:Bool)(hb:decide ((checkC l).2=0)=b) :
  Ctr Tryz.prog E 73 #[.agg #[v]] g s (fun r g' s'=>r=vb b∧g=g'∧s=s'):=by
 subst hb;exact edRight_spec E g s v l hv hf
def ApplyR (code:Int)(D:List Cl)(r:Value)(g':PH):Prop:=∃ u p n c b,r = .tuple #[.agg #[u],.agg #[.slice p n c,vb b],vi code]∧Cells g' u D
theorem apply_run (E:World)(g:PH)(s:Own)(v ev:Value)(l:List Cl)(e:Ed)(hv:Cells g v l)(hf:Fits l)(he:EdR g ev e)(hr:(checkC l).2=0)(fv:Value)(code:Int)(B:List Cl)(bk:Bool)(hg:mget kindsM e.kind=some fv)(hrun:KindRun fv e (canonC l) code B bk)(hB:code=0→Fits B∧(B.map Cl.id).Nodup) :
  Ctr Tryz.prog E 43 #[.agg #[v],ev] g s (fun r g' s'=>s=s'∧Le g g'∧ApplyR (applyOut code B).1 (applyOut code B).2 r g'):=by
 obtain ⟨z,hz⟩:=Tryz.mtyKinds;have he0:=he;obtain ⟨sv,pv,rfl,hsv,hpv⟩:=he;obtain ⟨sp,sc,rfl⟩:=SlA.form hsv;obtain ⟨pq,pc,rfl⟩:=SlA.form hpv;obtain ⟨p,c,rfl⟩:=hv.form;have hc:decide ((checkC l).2=0)=true:=decide_eq_true hr;have hnd:((canonC l).map Cl.id).Nodup:=by
  rw[List.Nodup,List.pairwise_map];exact (rt_of hr).asc.imp fun h=>by omega
 have hAf:=canonC_fits hf;refine Ctr.of (args:=[.agg #[.slice p l.length c],.agg #[vi e.kind,vi e.cell,vi e.dim,vi e.new,vi e.other,.slice sp e.sides.length sc,.slice pq e.pairs.length pc]]) func43 I ntmps43 (bE I) ?_;refine rZ (bW (bO I) fun b2=>?_);refine bW (bO I) fun b3=>?_;refine bW (aL zeroValue29) fun b4=>?_;refine bW (aL zeroValue89) fun b5=>?_;refine aT I (sQ ?_);refine dW [] [(1,2),(2,1),(0,0),(3,0),(4,2),(5,2),(6,2),(7,2),(8,2)] Tryz.mixed kR ?_;refine pU I (fA uT39 I zT3 I) (pK I (qL iT3 I (cO 2 I I)) (SP.o I (SO.call call72 I (kinds_spec E g _)) dC (.inr iR) ?_));rintro _ g1 _ ⟨rfl,hle1,bq,rfl,hk⟩;refine oQ rfl (SQ.eq (v':=.tuple #[fv,vb true]) (SQ.lookupOk hz rfl rfl (MapAt.known hk)) (by rw[hg]; rfl)) dC (.inr ⟨by assumption,(by exact .refl _)⟩) ?_;refine yM I (pU I (xT I I) (pU I (xT I I) (pU I (aS I) (pU I (aS I) (pN (tN (sQ (sW I (lU (SU.not I) (lM I (SL.gq (gT I I I dC) (qV 3 iT29 zT29 I I I) dC (SL.go (gT I I I dC) (SO.call call73 I (edRight_B E g1 _ _ l (hv.mono hle1) hf true hc)) dC ?_))))))))))));rintro _ _ _ ⟨rfl,rfl,rfl⟩;refine lY I I I (SU.not I) (yF I (tZ (cF I (kP (tN (rZ (lK (qV 3 iT29 zT29 I I I) (lW (SO.call call74 I (open_own E g1 _ _ l (hv.mono hle1) hf hnd)) ?_))))))));rintro _ g2 _ ⟨hle2,bx,u,mb,ms,rs,rfl,hu,hO,rfl⟩;refine aT I (sW I (lM I (lK (qV ((ownS (canonC l) rs).length+2+3) iT39 zT39 I (by exact (get_after (ownS (canonC l) rs) _ 2).trans I) I) ?_)));refine lW (SO.callV I I (hrun E g2 _ bx mb ms u _ rs hu hO (he0.mono (hle1.trans hle2)))) ?_;rintro _ g3 _ ⟨hle3,rfl,hcase⟩;by_cases hc0:code=0
 ·obtain ⟨hBf,hBn⟩:=hB hc0;subst hc0;rw[if_pos rfl] at hcase;obtain ⟨rs',hall,rfl⟩:=hcase;have hcB:=canonC_fits hBf;have hout:applyOut 0 B=if (checkC (canonC B)).2≠0 then ((checkC (canonC B)).2,[]) else (0,canonC B):=rfl
  rw[hout];refine aT I (rZ (bW (aL zeroValue29) fun b11=>?_));refine tZ (sQ (sW I (yE I (tZ (SC.condT I (sQ (cP (List.perm_middle (l₁:=[pt b11 (.cells #[.slice none 0 0] 29 (0,0)),edP bx u mb ms bk])) (SC.freezeMap fun g4 hle4 hm4=>?_))))))));refine rG (lM I (lW (SO.call call75 I (result_spec E g4 _ bx mb ms u bk B rs' (hall.mono fun _ _=>CellR.mono hle4) hBn hBf hm4 1 I)) ?_));rintro _ g5 _ ⟨rfl,hle5,u5,rfl,hu5⟩;obtain ⟨p5,c5,rfl⟩:=hu5.form;refine oZ (sK 0 zT29 I I I I I sB) ?_;refine tZ (rG (lK (qV 0 iT29 zT29 I I I) (lW (SO.call call24 I (check_spec E g5 _ _ (canonC B) hu5 hcB)) ?_)));rintro _ _ _ ⟨rfl,rfl,rfl⟩;refine lM I (yX I (yX I (aT I (sQ (sW I (lU (nQ I I) (tZ ?_)))))));refine iP I (fun h2=>?_) (fun h2=>?_)
  ·have he2:(if (checkC (canonC B)).2≠0 then ((checkC (canonC B)).2,[]) else ((0:Int),canonC B))=((checkC (canonC B)).2,[]):=if_pos h2;rw[he2];refine rZ (lU (SU.build I buildE29) (lU (SU.build I buildZ89) (lM I (oZ (sK 4 zT29 I I I I I sB) ?_))));refine oZ (sK 3 zT89 I I I I I sB) ?_;refine aT I (rE (tR ?_));exact ST.retCCT 4 3 s (.inl I) results43 I I I iT29 zT29 isAgg89 zT89 I I I I uR ⟨I,hle1.trans (hle2.trans (hle3.trans (hle4.trans hle5))),_,_,_,_,_,I,Cells.nil _⟩
  ·have he2:(if (checkC (canonC B)).2≠0 then ((checkC (canonC B)).2,[]) else ((0:Int),canonC B))=(0,canonC B):=if_neg h2;rw[he2];refine kP (tN (sQ ?_));refine dW [4,5] [(0,1),(1,2),(2,1),(3,0),(4,0),(5,0),(6,2)] Tryz.mixed kR ?_;refine pK I (qV 0 iT29 zT29 I I I) (yM I (pK I (qV 0 iT29 zT29 I I I) (SP.o I (SO.call call76 I (step_none E g5 _ bx mb ms u _ bk (canonC l) (canonC B) (hu.mono (hle3.trans (hle4.trans hle5))) hu5 hAf.1 hcB.1 1 2 I I)) dC (.inr iR) ?_)));rintro _ g6 _ ⟨rfl,hle6,iv,rfl,him⟩;obtain ⟨im,him1,him2⟩:=him;obtain ⟨p6,c6,rfl⟩:=SlA.form him1;refine SP.on I (sK 4 zT29 I I I I I sB) (.inl dC) ?_;rintro _ _ _ ⟨rfl,rfl⟩;refine SP.on I (sK 3 zT89 I I I I I sB) (.inl dC) ?_;rintro _ _ _ ⟨rfl,rfl⟩;refine pU I (aS I) (pN (tN (rE ?_)));exact ST.retCCT 4 3 s (.inl I) results43 I I I iT29 zT29 isAgg89 zT89 I I I I uR ⟨I,hle1.trans (hle2.trans (hle3.trans (hle4.trans (hle5.trans hle6)))),_,_,_,_,_,I,hu5.mono hle6⟩
 ·rw[if_neg hc0] at hcase;obtain ⟨h,rfl⟩:=hcase;have hout:applyOut code B=(code,[]):=if_pos hc0;rw[hout];refine SL.drop (List.sublist_append_right _ _) (aT I (rZ (bW (aL zeroValue29) fun b11=>?_)));refine tZ (sQ (sW I (yE I (tZ ?_))));refine iP I (fun h0=>?_) (fun h0=>?_)
  ·exact absurd h0 hc0
  ·refine kP (tN (sQ (sW I (lU (nQ I I) (tZ ?_)))));refine iP I (fun h2=>?_) (fun h2=>?_)
   ·refine rZ (lU (SU.build I buildE29) (lU (SU.build I buildZ89) (lM I (oZ (sK 2 zT29 I I I I I sB) ?_))));refine oZ (sK 1 zT89 I I I I I sB) ?_;refine aT I (rE (tR ?_));exact ST.retCCT 2 1 s (.inl I) results43 I I I iT29 zT29 isAgg89 zT89 I I I I uR ⟨I,hle1.trans (hle2.trans hle3),_,_,_,_,_,I,Cells.nil _⟩
   ·exact absurd hc0 h2
def ApplyTo (l:List Cl)(e:Ed)(code:Int)(D:List Cl):Prop:=∀ (E:World) (g:PH) (s:Own) (v ev:Value),Cells g v l→EdR g ev e →
 Ctr Tryz.prog E 43 #[.agg #[v],ev] g s (fun r g' s'=>s=s'∧Le g g'∧ApplyR code D r g')
def nowC (e:Ed)(id:Int):Int:=if e.kind=4 then match e.pairs.find? (fun p=>decide (p.2=id)) with
  | some p=>p.1
  | none=>id
 else id
def repairOut (m:List Pr)(e:Ed)(code:Int)(D:List Cl):Int×List Cl×List Pr :=
 if code≠0 then (code,[],[]) else (0,D,extendR D (m.map fun p=>(nowC e p.1,nowC e p.2)))
def RepairR (o:Int×List Cl×List Pr)(r:Value)(g':PH):Prop:=∃ u pv,r = .tuple #[.agg #[u],pv,vi o.1]∧Cells g' u o.2.1∧SlA encPr g' pv o.2.2
theorem now_found {e:Ed}{id:Int}(h4:e.kind=4){k:Nat}(hk:k<e.pairs.length)(h:e.pairs[k].2=id)(hn:∀ j (hj:j<k),(e.pairs[j]'oM).2≠id):nowC e id=e.pairs[k].1:=by
 have hf:e.pairs.find? (fun p=>decide (p.2=id))=some e.pairs[k]:=List.find?_eq_some_iff_getElem.2 ⟨by simpa using h,k,hk,rfl,fun j hj=>by simpa using hn j hj⟩;unfold nowC;rw[if_pos h4,hf]
theorem now_none {e:Ed}{id:Int}(hn:e.kind=4→∀ p∈e.pairs,p.2≠id):nowC e id=id:=by
 unfold nowC;split
 ·rename_i h4;have hf:e.pairs.find? (fun p=>decide (p.2=id))=none:=List.find?_eq_none.2 fun p hp=>by simpa using hn h4 p hp
  rw[hf]
 ·rfl
theorem now_spec (E:World)(g:PH)(s:Own)(b5:Nat)(sv pv:Value)(e:Ed)(id:Int)(q:Nat)(hq:s[q]?=some (pt b5 (.cells #[vi e.kind,vi e.cell,vi e.dim,vi e.new,vi e.other,sv,pv] 39 (0,0))))(hpv:SlA encPr g pv e.pairs)(hpl:e.pairs.length<1099511627776) :
  CallV Tryz.prog E (.func (.func 44) #[] #[pp b5 0]) [vi id] g s (fun r g' s'=>r=vi (nowC e id)∧g=g'∧s=s'):=by
 obtain ⟨p,c,rfl⟩:=SlA.form hpv;refine CallV.mk (args:=[_]) (cap:=[pp b5 0]) call44 ?_;refine Ctr.of (args:=[vi id,pp b5 0]) func44 I ntmps44 (bE I) ?_;refine rZ (aT I (sQ (rZ (lU (fA uT39 I sizeOf31 I) (lK (qL (v:=.slice p e.pairs.length c) isAgg31 I (cO q hq I)) (lU (eN uT31 I) (lM I (tZ (bK ?_)))))))));refine oP (ι:=Nat) (fun k=>[(0,vi id),(1,pp b5 0),(7,.slice p e.pairs.length c),(8,vi e.pairs.length),(9,vi k)]) (fun _=>g) (fun _=>s)
  (fun k=>k≤e.pairs.length∧(e.kind=4→∀ j (hj:j<k) (hl:j<e.pairs.length),e.pairs[j].2≠id)) (fun k=>e.pairs.length - k) 0 sB rfl rfl ⟨Nat.zero_le _,fun _ j hj=>absurd hj oM⟩ ?_
 rintro k ⟨hk,hno⟩;try dsimp only at hk hno ⊢
 refine rZ (yL I (tZ (sQ ?_)));refine iP I (fun hlt=>?_) (fun hlt=>?_)
 ·have hkl:k<e.pairs.length:=oM;have hb1:=SlA.based hpv oM;have hgk:e.pairs[((k:Nat):Int).toNat]?=some e.pairs[k]:=gE hkl;have hfound:=fun h4 h=>now_found (e:=e) (id:=id) h4 hkl h (fun j hj=>hno h4 j hj oM);have hsucc:(e.kind=4→e.pairs[k].2≠id)→e.kind=4→∀ j (hj:j<k+1) (hl:j<e.pairs.length),e.pairs[j].2≠id:=fun h h4 j hj hl=>by
   by_cases hjk:j=k
   ·subst hjk; exact h h4
   ·exact hno h4 j oM hl
  generalize e.pairs[k]=x at *;obtain ⟨x1,x2⟩:=x;dsimp only at hfound hsucc;by_cases h4:e.kind=4
  ·refine kP (tN (sQ (bK (rZ (lU (iA uT31 zT44 I I hb1 oM sL) (lK (eA iT44 zT44 I (SlA.rd hpv) hgk) (bW (aL zeroValue44) fun b5=>?_)))))));refine oZ (sK 0 zT44 I I I I I sB) ?_;refine tZ (rZ (lU (fA uT39 I zT3 I) (lK (qL (v:=vi e.kind) iT3 I (cO (q+1) hq I)) (lU (SU.eq (v':=vb true) (eQ I I) (congrArg vb (decide_eq_true h4))) (lM I (lY I I I (iB uT44 zT3 I I dC dC) (SL.gq (gT I I I dC) (qL (v:=vi x2) iT3 I (cO 0 I I)) dC (yC I (lY I I I (eQ I I) (yP I (tZ ?_)))))))))));refine iP I (fun hx=>?_) (fun hx=>?_)
   ·refine rZ (lU (iB uT44 zT3 I I dC dC) (lK (qL (v:=vi x1) iT3 I (cO 0 I I)) (aT I (rE (bR (tR (tR (bR (tR (dR (s':=s) uR ?_))))))))));exact ST.ret1 (.inl I) results44 I ⟨by rw[hfound h4 hx],I,I⟩
   ·refine kP (bN (tN (rG (yD I (lM I (nL (dR (s':=s) uR ?_)))))));exact ST.again (k+1) sB I I ⟨oM,hsucc fun _=>hx⟩ oM
  ·refine kP (tN (sQ (bK (rZ (lU (iA uT31 zT44 I I hb1 oM sL) (lK (eA iT44 zT44 I (SlA.rd hpv) hgk) (bW (aL zeroValue44) fun b5=>?_)))))));refine oZ (sK 0 zT44 I I I I I sB) ?_;refine tZ (rZ (lU (fA uT39 I zT3 I) (lK (qL (v:=vi e.kind) iT3 I (cO (q+1) hq I)) (lU (SU.eq (v':=vb false) (eQ I I) (congrArg vb (decide_eq_false h4))) (lM I (yA I (yA I (yA I (yA I (yF I (tZ (cF I (kP (bN (tN (rG (yD I (lM I (nL (dR (s':=s) uR ?_))))))))))))))))))));exact ST.again (k+1) sB I I ⟨oM,hsucc fun h=>absurd h h4⟩ oM
 ·refine xI (tX (tX (bX (tN (sW I (aT I (rE ?_)))))));exact ST.ret1 (.inl I) results44 I ⟨by
   rw[now_none fun h4 x hx=>?_];obtain ⟨j,hj,rfl⟩:=List.getElem_of_mem hx;exact hno h4 j oM hj,I,I⟩
theorem repairProg_spec (E:World)(g:PH)(s:Own)(v mv ev:Value)(l:List Cl)(m:List Pr)(e:Ed)(code:Int)(D:List Cl)(hv:Cells g v l)(hm:SlA encPr g mv m)(he:EdR g ev e)(hml:m.length<499999999999)(hpl:e.pairs.length<1099511627776)(ha:ApplyTo l e code D)(hD:code=0→Fits D∧D.length≤100000) :
  Ctr Tryz.prog E 20 #[.agg #[v],mv,ev] g s (fun r g' s'=>s=s'∧Le g g'∧RepairR (repairOut m e code D) r g'):=by
 have he0:=he;obtain ⟨sv,pv,rfl,hsv,hpv⟩:=he;obtain ⟨sp,sc,rfl⟩:=SlA.form hsv;obtain ⟨pq,pc,rfl⟩:=SlA.form hpv;obtain ⟨p,c,rfl⟩:=hv.form;obtain ⟨q,d,rfl⟩:=SlA.form hm;refine Ctr.of (args:=[.agg #[.slice p l.length c],.slice q m.length d,.agg #[vi e.kind,vi e.cell,vi e.dim,vi e.new,vi e.other,.slice sp e.sides.length sc,.slice pq e.pairs.length pc]]) func20 I ntmps20 (bE I) ?_;refine rZ (bW (bO I) fun b3=>?_);refine bW (bO I) fun b5=>?_;refine bW (aL zeroValue29) fun b6=>?_;refine lA I (aT I (rZ (lK (qV 2 iT29 zT29 I I I) (lK (qV 1 iT39 zT39 I I I) (lW (SO.call call43 I (ha E g _ _ _ hv he0)) ?_)))));rintro _ g1 _ ⟨rfl,hle1,u1,p1,n1,c1,k1,rfl,hu1⟩;obtain ⟨pu,cu,rfl⟩:=hu1.form;refine lM I (yX I (yX I (yX I (bW (aL zeroValue29) fun b9=>?_))));refine bW (aL zeroValue89) fun b10=>?_;refine oZ (sK 1 zT29 I I I I I sB) ?_;refine oZ (sK 0 zT89 I I I I I sB) ?_;refine aT I (sQ (sW I (lU (nQ I I) (tZ ?_))));refine iP I (fun hc0=>?_) (fun hc0=>?_)
 ·have ho:repairOut m e code D=(code,[],[]):=if_pos hc0;rw[ho];refine rZ (lU (SU.build I buildE29) (lM I (oZ (sK 2 zT29 I I I I I sB) ?_)));refine lA I (aT I (rE (tR ?_)));exact ST.retCTT 2 s (.inl I) results20 I I I iT29 zT29 I I uR ⟨I,hle1,_,_,I,Cells.nil _,Sl.nil _ _⟩
 ·have hc:code=0:=Decidable.not_not.1 hc0;subst hc;obtain ⟨hDf,hDl⟩:=hD rfl;have ho:repairOut m e 0 D=(0,D,extendR D (m.map fun p=>(nowC e p.1,nowC e p.2))):=rfl;rw[ho];have hm1:=SlA.mono hm hle1;have hpv1:=SlA.mono hpv hle1;refine kP (tN (rZ (lU (SU.mkFunc I) (aT I (rZ (aT I (sQ (sW I (lU (eN uT31 I) (lM I (tZ (bK (SC.nilRow 44 2 ?_)))))))))))));refine oP (ι:=Nat×Value) (fun i=>[(6,pp b6 0),(9,pp b9 0),(12,.func (.func 44) #[] #[pp b5 0]),(13,i.2),(28,.slice q m.length d),(29,vi m.length),(30,vi i.1)]) (fun _=>g1)
   (fun i=>rowA encPr 44 i.2 ((m.take i.1).map fun p=>(nowC e p.1,nowC e p.2))::pt b10 (.cells #[.slice p1 n1 c1,vb k1] 89 (0,0))::pt b9 (.cells #[.slice pu D.length cu] 29 (0,0))::pt b6 (.cells #[.slice none 0 0] 29 (0,0))::pt b5 (.cells #[vi e.kind,vi e.cell,vi e.dim,vi e.new,vi e.other,.slice sp e.sides.length sc,.slice pq e.pairs.length pc] 39 (0,0))::pt b3 (.cells #[.slice p l.length c] 29 (0,0))::s)
   (fun i=>i.1≤m.length) (fun i=>m.length - i.1) (0,.slice none 0 0) sB rfl rfl (Nat.zero_le _) ?_
  rintro ⟨k,lv⟩ hk;dsimp only at hk ⊢;refine rZ (yL I (tZ (sQ ?_)));refine iP I (fun hlt=>?_) (fun hlt=>?_)
  ·have hkl:k<m.length:=oM;have hb1:=SlA.based hm1 oM;have hgk:m[((k:Nat):Int).toNat]?=some m[k]:=gE hkl;have htk:(m.take (k+1)).map (fun p=>(nowC e p.1,nowC e p.2))=(m.take k).map (fun p=>(nowC e p.1,nowC e p.2))++[(nowC e m[k].1,nowC e m[k].2)]:=by rw[tS hkl,List.map_append]; rfl
   have hll:((m.take k).map fun p=>(nowC e p.1,nowC e p.2)).length=k:=by rw[List.length_map,List.length_take]; omega
   generalize m[k]=x at *;obtain ⟨x1,x2⟩:=x;dsimp only at htk;refine kP (tN (sQ (bK (rZ (lU (iA uT31 zT44 I I hb1 oM sL) (lK (eA iT44 zT44 I (SlA.rd hm1) hgk) (bW (aL zeroValue44) fun b15=>?_)))))));refine oZ (sK 0 zT44 I I I I I sB) ?_;refine tZ ?_;refine dW [11] [(0,2),(1,2),(2,2),(3,1),(5,2),(6,2),(7,1),(4,0),(8,0),(9,2),(10,0),(11,0),(12,2)] Tryz.mixed kR ?_;refine yM I (yM I (pU I (iB uT44 zT3 I I dC dC) (pK I (qL (v:=vi x1) iT3 I (cO 0 I I)) (yM I (pU I (iB uT44 zT3 I I dC dC) (pK I (qL (v:=vi x2) iT3 I (cO 0 I I)) (SP.o I (SO.callV I I (now_spec E g1 _ b5 _ _ e x1 5 I hpv1 hpl)) dC (.inr iR) ?_)))))));rintro _ _ _ ⟨rfl,rfl,rfl⟩;refine SP.o I (SO.callV I I (now_spec E g1 _ b5 _ _ e x2 5 I hpv1 hpl)) dC (.inr iR) ?_;rintro _ _ _ ⟨rfl,rfl,rfl⟩;refine pU I (SU.build I (build44 _ _)) (SP.o I (bS sty31 I I I (szs_mk sB) dC) dC (.inr iR) ?_);rintro _ _ _ ⟨b44,rfl,rfl,rfl⟩;refine SP.o I (aP (e:=encPr) 1 (nowC e x1,nowC e x2) sty31 I I I I I oM oM) dC (.inl dC) ?_;rintro lv' _ _ ⟨rfl,rfl⟩;refine pU I (aS I) (pN (bN (tN (rG (yD I (lM I (nL (dR (.cons _ (.refl _)) ?_))))))));exact ST.again (k+1,lv') sB rfl (by dsimp only; rw[htk]; rfl) (by dsimp only; omega) (by dsimp only; omega)
  ·have hkk:m.take k=m:=tL oM;rw[hkk];refine xI (tX (tX (bX (tN (sQ (fS fun g2 hle2 hs2=>?_))))));refine dW [4] [(0,1),(1,1),(2,2),(3,0),(4,0),(5,2),(6,2)] Tryz.mixed kR ?_;refine pK I (qV 1 iT29 zT29 I I I) (pK I (qV 1 iT29 zT29 I I I) (yM I (SP.o I (SO.call call15 I (extendProg_spec E g2 _ _ _ D _ (hu1.mono hle2) hDf hDl hs2 (by rw[List.length_map]; omega))) dC (.inr iR) ?_)));rintro v50 g3 _ ⟨rfl,hle3,hx3⟩;refine SP.on I (sK 2 zT29 I I I I I sB) (.inl dC) ?_;rintro _ _ _ ⟨rfl,rfl⟩;refine pU I (aS I) (pU I (aS I) (pN (tN (rE ?_))));exact ST.retCTT 2 s (.inl I) results20 I I I iT29 zT29 I I uR ⟨I,hle1.trans (hle2.trans hle3),_,_,I,hu1.mono (hle2.trans hle3),hx3⟩
def sanM:List Pr:=[(1,4),(2,6),(5,7)]
def remE:Ed:=⟨2,7,0,0,0,[],[]⟩
def attE:Ed:=⟨1,8,0,0,0,[],[]⟩
def remL:List Cl:=canonC (delC triL 7)
def attL:List Cl:=canonC (putC triL ⟨8,0,[]⟩)
theorem tri_canon:canonC triL=triL:=by kernel_rfl
theorem tri_keep:keepR triL [(1,4),(1,5),(2,6)]=[(1,4),(2,6)]:=by kernel_rfl
theorem tri_extend:extendR triL [(3,5)]=[(3,5),(1,4),(6,7)]:=by kernel_rfl
theorem rem_out:applyOut (removeCode triL remE) (delC triL 7)=(0,remL):=by kernel_rfl
theorem att_out:applyOut (attachCode triL attE) (putC triL ⟨8,0,[]⟩)=(0,attL):=by kernel_rfl
theorem rem_pairs:repairOut sanM remE 0 remL=(0,remL,[(1,4),(2,6)]):=by kernel_rfl
theorem att_pairs:repairOut sanM attE 0 attL=(0,attL,sanM):=by kernel_rfl
theorem rem_len:((remL.length:Nat):Int)=6:=by kernel_rfl
theorem rem_fits:Fits remL:=fits_dec kR (by decide +kernel)
theorem att_fits:Fits attL:=fits_dec kR (by decide +kernel)
theorem rem_few:remL.length≤100000:=by decide +kernel
theorem att_few:attL.length≤100000:=by decide +kernel
theorem tri_okC:(checkC triL).2=0:=by rw[tri_check]
theorem rem_apply:ApplyTo triL remE 0 remL:=fun E g s v ev hv he=>by
 have h:=apply_run E g s v ev triL remE hv tri_fits he tri_okC _ _ _ true rfl (remove_run (canonC triL) (canonC_fits tri_fits) remE) (fun _=>by rw[tri_canon]; exact⟨fits_dec (by decide +kernel) (by decide +kernel),by decide +kernel⟩);rw[tri_canon,show remE.cell=7 from rfl,rem_out] at h;exact h
theorem att_apply:ApplyTo triL attE 0 attL:=fun E g s v ev hv he=>by
 have h:=apply_run E g s v ev triL attE hv tri_fits he tri_okC _ _ _ false rfl (attach_run (canonC triL) attE dC) (fun _=>by rw[tri_canon]; exact⟨fits_dec (by decide +kernel) (by decide +kernel),by decide +kernel⟩);rw[tri_canon,show (⟨attE.cell,attE.dim,attE.sides⟩:Cl)=⟨8,0,[]⟩ from rfl,att_out] at h;exact h
theorem Tryz.build39 (a b:Int)(w:World):(Instr.build 39 #[(0,vi a),(1,vi b)]).run Tryz.prog w = .ok (.agg #[vi a,vi b,vi 0,vi 0,vi 0,.slice none 0 0,.slice none 0 0]) w:=by
 have h1:(vi a).cells = #[vi a]:=rfl;have h2:(vi b).cells = #[vi b]:=rfl;simp[Instr.build,Instr.fill,h1,h2];rfl
theorem sane14:Sane14:=by
 intro E g s;refine Ctr.of (args:=[]) func9 I ntmps9 (bE I) ?_;refine rZ (aT I (rZ (lW (SO.call call28 I (triangle14_spec E g _)) ?_)));rintro _ g1 _ ⟨rfl,hle1,u1,rfl,hv1⟩;obtain ⟨q1,d1,rfl⟩:=hv1.form;refine bW (aL zeroValue29) fun b1=>?_;refine oZ (sK 0 zT29 I I I I I sB) ?_;refine tZ (rZ (lU (SU.build I (build44 _ _)) (lU (SU.build I (build44 _ _)) (lU (SU.build I (build44 _ _)) (lW (bS sty31 I I I (szs_mk sB) dC) ?_)))));rintro _ _ _ ⟨b16,rfl,rfl,rfl⟩;refine SL.freeze fun g2 hle2 hb2=>?_;have hm2:SlA encPr g2 (.slice (some ⟨b16,0,none⟩) 3 3) sanM:=SlA.lit hb2 rfl rfl;have hv2:=hv1.mono hle2;refine aT I (rZ (lK (qV 0 iT29 zT29 I I I) (lU (SU.build I (build44 _ _)) (lU (SU.build I (build44 _ _)) (lU (SU.build I (build44 _ _)) (lW (bS sty31 I I I (szs_mk sB) dC) ?_))))));rintro _ _ _ ⟨b21,rfl,rfl,rfl⟩;refine SL.freeze fun g3 hle3 hb3=>?_;have hk3:SlA encPr g3 (.slice (some ⟨b21,0,none⟩) 3 3) [(1,4),(1,5),(2,6)]:=SlA.lit hb3 rfl rfl;have hv3:=hv2.mono hle3;refine lW (SO.call call13 I (keepProg_spec E g3 _ _ _ triL _ hv3 tri_fits hk3 dC)) ?_;rintro v22 g4 _ ⟨rfl,hle4,hk4⟩;rw[tri_keep] at hk4;have hv4:=hv3.mono hle4;refine aT I (rZ (lK (qV 0 iT29 zT29 I I I) (lU (SU.build I (build44 _ _)) (lW (bS sty31 I I I (szs_mk ⟨I,trivial⟩) dC) ?_))));rintro _ _ _ ⟨b25,rfl,rfl,rfl⟩;refine SL.freeze fun g5 hle5 hb5=>?_;have hk5:SlA encPr g5 (.slice (some ⟨b25,0,none⟩) 1 1) [(3,5)]:=SlA.lit hb5 rfl rfl;have hv5:=hv4.mono hle5;refine lW (SO.call call15 I (extendProg_spec E g5 _ _ _ triL _ hv5 tri_fits dC hk5 dC)) ?_;rintro v26 g6 _ ⟨rfl,hle6,hx6⟩;rw[tri_extend] at hx6;have hv6:=hv5.mono hle6;have hm6:=SlA.mono hm2 (hle3.trans (hle4.trans (hle5.trans hle6)));refine aT I (rZ (lK (qV 0 iT29 zT29 I I I) (lM I (lU (SU.build I (build39 _ _)) (lW (SO.call call20 I (repairProg_spec E g6 _ _ _ _ triL sanM remE 0 remL hv6 hm6 ⟨_,_,I,Sl.nil _ _,Sl.nil _ _⟩ dC dC rem_apply (fun _=>⟨rem_fits,rem_few⟩))) ?_)))));rintro _ g7 _ ⟨rfl,hle7,hr7⟩;rw[rem_pairs] at hr7;obtain ⟨u7,pv7,rfl,hu7,hp7⟩:=hr7;obtain ⟨q7,d7,rfl⟩:=hu7.form;have hv7:=hv6.mono hle7;have hm7:=SlA.mono hm6 hle7;refine lM I (yX I (yX I (yX I (bW (aL zeroValue29) fun b5=>?_))));refine oZ (sK 0 zT29 I I I I I sB) ?_;refine lA I (aT I (rZ (lK (qV 1 iT29 zT29 I I I) (lM I (lU (SU.build I (build39 _ _)) (lW (SO.call call20 I (repairProg_spec E g7 _ _ _ _ triL sanM attE 0 attL hv7 hm7 ⟨_,_,I,Sl.nil _ _,Sl.nil _ _⟩ dC dC att_apply (fun _=>⟨att_fits,att_few⟩))) ?_))))));rintro _ g8 _ ⟨rfl,hle8,hr8⟩;rw[att_pairs] at hr8;obtain ⟨u8,pv8,rfl,hu8,hp8⟩:=hr8;obtain ⟨q8,d8,rfl⟩:=hu8.form;have hm8:=SlA.mono hm7 hle8;have hle18:=hle1.trans (hle2.trans (hle3.trans (hle4.trans (hle5.trans (hle6.trans (hle7.trans hle8))))));refine lM I (yX I (yX I (yX I (bW (aL zeroValue29) fun b8=>?_))));refine oZ (sK 0 zT29 I I I I I sB) ?_;refine lA I (aT I (sW I (lU (SU.build I (build44 _ _)) (lU (SU.build I (build44 _ _)) (lW (bS sty31 I I I (szs_mk sB) dC) ?_)))));rintro _ _ _ ⟨b46,rfl,rfl,rfl⟩;refine SL.freeze fun g9 hle9 hb9=>?_;have hk9:SlA encPr g9 (.slice (some ⟨b46,0,none⟩) 2 2) [(1,4),(2,6)]:=SlA.lit hb9 rfl rfl;have hle49:=hle5.trans (hle6.trans (hle7.trans (hle8.trans hle9)));refine lW (SO.call call12 I (same13_refl E g9 _ _ _ _ (SlA.mono hk4 hle49) hk9 dC)) ?_;rintro _ _ _ ⟨rfl,rfl,rfl⟩;refine lM I (yC I (lY I I I (SU.build I (build44 _ _)) (lY I I I (SU.build I (build44 _ _)) (lY I I I (SU.build I (build44 _ _)) (SL.go (gT I I I dC) (bS sty31 I I I (szs_mk sB) dC) dC ?_)))));rintro _ _ _ ⟨b53,rfl,rfl,rfl⟩;refine SL.freeze fun gA hleA hbA=>?_;have hkA:SlA encPr gA (.slice (some ⟨b53,0,none⟩) 3 3) [(3,5),(1,4),(6,7)]:=SlA.lit hbA rfl rfl;refine SL.go (gT I I I dC) (SO.call call12 I (same13_refl E gA _ _ _ _ (SlA.mono hx6 (hle7.trans (hle8.trans (hle9.trans hleA)))) hkA dC)) dC ?_;rintro _ _ _ ⟨rfl,rfl,rfl⟩;refine yP I (aT I (sW I (lM I (yC I (lY I I I (eQ I I) (yP I (lM I (lY I I I (fA uT29 I zT27 I) (SL.gq (gT I I I dC) (qL iT27 I (cO 1 I I)) dC (lY I I I (eN uT27 I) (lY I I I (SU.eq (v':=vb true) (eQ I I) (congrArg vb (decide_eq_true rem_len))) (yP I (lM I (yC I (lY I I I (SU.build I (build44 _ _)) (lY I I I (SU.build I (build44 _ _)) (SL.go (gT I I I dC) (bS sty31 I I I (szs_mk sB) dC) dC ?_)))))))))))))))));rintro _ _ _ ⟨b71,rfl,rfl,rfl⟩;refine SL.freeze fun gB hleB hbB=>?_;have hkB:SlA encPr gB (.slice (some ⟨b71,0,none⟩) 2 2) [(1,4),(2,6)]:=SlA.lit hbB rfl rfl;have hle8B:=hle9.trans (hleA.trans hleB);refine SL.go (gT I I I dC) (SO.call call12 I (same13_refl E gB _ _ _ _ (SlA.mono hp7 (hle8.trans hle8B)) hkB dC)) dC ?_;rintro _ _ _ ⟨rfl,rfl,rfl⟩;refine yP I (lM I (yC I (lY I I I (eQ I I) (yP I (lM I (yC I (yC I (SL.go (gT I I I dC) (SO.call call12 I (same13_refl E gB _ _ _ _ (SlA.mono hp8 hle8B) (SlA.mono hm8 hle8B) dC)) dC ?_))))))));rintro _ _ _ ⟨rfl,rfl,rfl⟩;refine yP I (aT I (rE (dR (s':=s) uR ?_)));exact ST.ret1 (.inl I) results9 I ⟨I,I,hle18.trans hle8B⟩
open Go.ChangeShapes Go.WideShapes Go.ChangeAt Go.RowKit
set_option maxRecDepth 100000
section
variable {H:Type}{enc:TypeId×Value→H}{W:World}{base:Nat}{spare:Nat→Bool}{hd:Bool}
theorem Tryz.cells5:Tryz.prog.cellsOf 5=1:=by kernel_rfl
theorem Tryz.cells25:Tryz.prog.cellsOf 25=4:=by kernel_rfl
theorem u8_wf {n:Int}(h:(Lit.int .u8 n).wf=true):∃ k:Nat,n=(k:Int)∧k<256:=by
 have h2:IntKind.u8.min≤n∧n≤IntKind.u8.max:=by simpa [Lit.wf] using h
 have e1:IntKind.u8.min=0:=by decide
 have e2:IntKind.u8.max=255:=by decide
 exact⟨n.toNat,oM,oM⟩
theorem byte_of {fuel:Nat}{v:Value}{x:DataW H×List MemPlace}(h:DataW.trod enc Tryz.prog W base spare hd fuel 5 [v]=some x):∃ k:Nat,v = .int .u8 (k:Int)∧k<256:=by
 obtain ⟨a,e,_,w⟩:=DataW.trod_int uT5 h;obtain ⟨k,rfl,hk⟩:=u8_wf w;simp at e;exact⟨k,e,hk⟩
theorem bytes_of {fuel:Nat}{v:Value}{x:DataW H×List MemPlace}(h:DataW.trod enc Tryz.prog W base spare hd fuel 23 [v]=some x):∃ l:List Nat,SlA encB (held W) v (l.map fun k:Nat=>(k:Int))∧∀ k∈l,k<256:=by
 rcases Go.Deep.open_slice1 underlying23 cells5 h with ⟨hcs,_⟩ | ⟨a,len,cap,m,n,V,D,Pl,hcs,_,hl,_,hmm,_,hx⟩
 ·simp at hcs;subst hcs;exact⟨[],Sl.nil _ _,by simp⟩
 ·simp at hcs;subst hcs;have hlm:len≤m:=by rw[hmm]; split <;> omega
  obtain ⟨f,hf⟩:=Go.Deep.choose_lt (α:=Nat) (n:=len) (p:=fun i k=>V i = .int .u8 (k:Int)∧k<256) fun i hi=>byte_of (hx i oM).2;refine⟨(List.range len).map f,?_,fun k hk=>?_⟩
  ·show Sl (held W) 1 _ (((List.range len).map f).map fun k:Nat=>(k:Int)).length ((((List.range len).map f).map fun k:Nat=>(k:Int)).flatMap encB.enc);have he:(((List.range len).map f).map fun k:Nat=>(k:Int)).flatMap encB.enc=(List.range len).map fun i=>V i:=by
    have:∀ l:List Nat,(∀ i∈l,i<len)→((l.map f).map fun k:Nat=>(k:Int)).flatMap encB.enc=l.map fun i=>V i:=by
     intro l;induction l with
     | nil=>intro _; rfl
     | cons y t ih =>
      intro hy;rw[List.map_cons,List.map_cons,List.flatMap_cons,ih fun i hi=>hy i (by simp[hi]),List.map_cons,(hf y (hy y (by simp))).1];rfl
    exact this _ fun i hi=>List.mem_range.1 hi
   rw[he,List.length_map,List.length_map,List.length_range];refine row_sl hl (by simp) fun i y hi=>?_;rw[List.getElem?_map] at hi;cases hc:(List.range len)[i]? with
   | none=>rw[hc] at hi; cases hi
   | some z =>
    rw[hc] at hi;cases hi;obtain ⟨h1,h2⟩:=List.getElem?_eq_some_iff.1 hc;simp at h1 h2;subst h2;exact (hx i oM).1
  ·obtain ⟨i,hi,rfl⟩:=List.mem_map.1 hk;exact (hf i (List.mem_range.1 hi)).2
theorem shape8_of {r:Reach}{b0:Nat}{v:Value}{d:DataW H}{p:List MemPlace}(hv:Value.okWide Tryz.prog W r b0 25 v)(h:DataW.Trod enc Tryz.prog W base spare hd 25 v d p) :
  ∃ (sp bs:Nat) (vL vG:Value) (L:List Int) (G:List Nat),v = .agg #[.int .u8 (sp:Int),vL,vG,.int .u8 (bs:Int)]∧Ints (held W) vL L∧SlA encB (held W) vG (G.map fun k:Nat=>(k:Int))∧sp<256∧bs<256∧∀ x∈G,x<256:=by
 obtain ⟨c0,c1,c2,c3,y0,y1,y2,y3,n,rfl,_,_,h0,h1,h2,h3⟩:=Go.Joins.open_agg4 uT25 kR cells25 hv h;obtain ⟨sp,rfl,hsp⟩:=byte_of h0;obtain ⟨bs,rfl,hbs⟩:=byte_of h3;obtain ⟨L,rL,-,hL⟩:=ints_of h1;obtain ⟨G,hG,hGb⟩:=bytes_of h2;exact⟨sp,bs,c1,c2,L,G,I,hL,hG,hsp,hbs,hGb⟩
theorem arr3_of {r:Reach}{b0:Nat}{v:Value}{d:DataW H}{p:List MemPlace}(hv:Value.okWide Tryz.prog W r b0 41 v)(h:DataW.Trod enc Tryz.prog W base spare hd 41 v d p) :
  ∃ a b c:Int,v = .agg #[vi a,vi b,vi c]∧inI64 a∧inI64 b∧inI64 c:=by
 obtain ⟨cs,rfl,hsz⟩:=okWide_array uT41 hv;rw[cells41] at hsz;obtain ⟨l⟩:=cs
 match l,hsz with
 | [c0,c1,c2],_ =>
  obtain ⟨fuel,hf⟩:=h;obtain ⟨a,b,c,rfl,rfl,rfl,w0,w1,w2⟩:=three_wf (c0:=c0) (c1:=c1) (c2:=c2) (show DataW.trod enc Tryz.prog W base spare hd fuel 41 [c0,c1,c2]=some (d,p) by simpa [Value.cells] using hf);exact⟨a,b,c,I,w0,w1,w2⟩
theorem ints_arg {v:Value}{d:DataW H}{p:List MemPlace}(h:DataW.Trod enc Tryz.prog W base spare hd 22 v d p)(hv:v.cells = #[v]):∃ l:List Int,Ints (held W) v l:=by
 obtain ⟨fuel,hf⟩:=h;rw[hv] at hf;obtain ⟨l,r,-,hl⟩:=ints_of hf;exact⟨l,hl⟩
end
set_option maxHeartbeats 4000000
theorem Ims.form {g:PH}{v:Value}{l:List (Int×List Tm)}(h:Ims g v l):∃ p n c,v = .slice p n c:=by
 obtain ⟨rs,h1,h2⟩:=h;obtain ⟨p,c,e⟩:=SlA.form h1;exact⟨p,_,c,e⟩
end Go.Proofs.YtmmghffoakhheaaGreatDoor
namespace Go.Sy
open Go
section
variable {P:Program}{N:Nat}{E:World}{ops:Array Oper}{Q:Exit→Act→World→Prop}{g0:PH}{s0:Own}{tail:List Nat}{f:Fr}{g:PH}{s s':Own}{L:Array Bool}{n:Nat}
theorem SX.gq [hQ:Quiet Q]{i d:Nat}{op:Op}{ty:TypeId}{pos:String}{af:Array Edge}{gd:Option (Nat×Bool)}{v:Value}(hi:ops[i]?=some ⟨some d,op,ty,pos,af,gd⟩)(hok:readOk ops tail L i=true)(hg:Gd N ops f ⟨some d,op,ty,pos,af,gd⟩ true)
  (hq:SQ P N E ⟨some d,op,ty,pos,af,gd⟩ f g0 s0 v) (hd:d<N)
  (h:SX P N E ops Q g0 s0 tail (L.setIfInBounds i true) n ((d,v)::f) g s):SX P N E ops Q g0 s0 tail L (n+1) f g s:=by
 intro a w hs hcl ha hw hb;simp only[readOk,Bool.and_eq_true,Bool.not_eq_true'] at hok;obtain ⟨⟨⟨⟨h1,h2⟩,h3⟩,h4⟩,h5⟩:=hok;refine wpAnyT_first hi (Region.noSelect_spec hs) (fun c a w hh=>hQ.out c _ _ w (putSome_defers a d v) hh) (by simpa using h4) (tailWaits_spec h3) _ L a w hcl (Region.free_spec hi h2) (by simpa using h1)
  (.inl ⟨hg a ha,fun w' hw'=>hq a w' ha hw'⟩) h5 (hb h5) ?_
 exact h _ w hs (closed_set hcl (by simpa using h1)) (ha.put hd v) hw (fun _=>hb h5)
theorem SX.gu [hQ:Quiet Q]{i d:Nat}{op:Op}{ty:TypeId}{pos:String}{af:Array Edge}{gd:Option (Nat×Bool)}{v:Value}(hi:ops[i]?=some ⟨some d,op,ty,pos,af,gd⟩)(hok:pureOk ops tail L i=true)(hg:Gd N ops f ⟨some d,op,ty,pos,af,gd⟩ true)
  (hq:SU P N ⟨some d,op,ty,pos,af,gd⟩ f v) (hd:d<N)
  (h:SX P N E ops Q g0 s0 tail (L.setIfInBounds i true) n ((d,v)::f) g s):SX P N E ops Q g0 s0 tail L (n+1) f g s:=by
 intro a w hs hcl ha hw hb;simp only[pureOk,Bool.and_eq_true,Bool.not_eq_true'] at hok;obtain ⟨⟨h1,h2⟩,h4⟩:=hok;have hit:i ∉ tail:=by simpa using h4
 refine wpAnyT_pure hi (Region.noSelect_spec hs) (fun c a w hh=>hQ.out c _ _ w (putSome_defers a d v) hh) hit _ L a w (Region.free_spec hi h2) (by simpa using h1)
  (.inl ⟨hg a ha,fun w'=>hq a w' ha⟩) hb ?_
 exact h _ w hs (closed_set hcl (by simpa using h1)) (ha.put hd v) hw (fun hb'=>hb (by rwa [began_set hit] at hb'))
theorem SX.off [hQ:Quiet Q]{i d:Nat}{op:Op}{ty:TypeId}{pos:String}{af:Array Edge}{gd:Option (Nat×Bool)}(hi:ops[i]?=some ⟨some d,op,ty,pos,af,gd⟩)(hok:pureOk ops tail L i=true)(hg:Gd N ops f ⟨some d,op,ty,pos,af,gd⟩ false)(hd:d<N)
  (h:SX P N E ops Q g0 s0 tail (L.setIfInBounds i true) n ((d,undef)::f) g s):SX P N E ops Q g0 s0 tail L (n+1) f g s:=by
 intro a w hs hcl ha hw hb;simp only[pureOk,Bool.and_eq_true,Bool.not_eq_true'] at hok;obtain ⟨⟨h1,h2⟩,h4⟩:=hok;have hit:i ∉ tail:=by simpa using h4
 refine wpAnyT_pure hi (Region.noSelect_spec hs) (fun c a w hh=>hQ.out c _ _ w (putSome_defers a d undef) hh) hit _ L a w (Region.free_spec hi h2) (by simpa using h1)
  (.inr ⟨hg a ha,rfl⟩) hb ?_
 exact h _ w hs (closed_set hcl (by simpa using h1)) (ha.put hd undef) hw (fun hb'=>hb (by rwa [began_set hit] at hb'))
theorem SB.go {i d:Nat}{op:Op}{ty:TypeId}{pos:String}{af:Array Edge}{gd:Option (Nat×Bool)}{K:Value→PH→Own→Prop}(hi:ops[i]?=some ⟨some d,op,ty,pos,af,gd⟩)(hg:Gd N ops f ⟨some d,op,ty,pos,af,gd⟩ true)
  (ho:SO P N E ⟨some d,op,ty,pos,af,gd⟩ f g s K) (hd:d<N) (hk:i∈tail∨∀ v g' s',K v g' s'→Le g0 g'∧s0.Sublist s')
  (h:∀ v g' s',K v g' s'→SX P N E ops Q g0 s0 tail (L.setIfInBounds i true) n ((d,v)::f) g' s'):SB P N E ops Q g0 s0 tail L n i f g s :=
 SB.step hi hg ho hk fun v g' s' _ hK ha=>⟨_,ha.put hd v,h v g' s' hK⟩
theorem SB.offo {i d:Nat}{op:Op}{ty:TypeId}{pos:String}{af:Array Edge}{gd:Option (Nat×Bool)}(hi:ops[i]?=some ⟨some d,op,ty,pos,af,gd⟩)
  (hg:Gd N ops f ⟨some d,op,ty,pos,af,gd⟩ false) (hd:d<N) (hk:Le g0 g∧s0.Sublist s)
  (h:SX P N E ops Q g0 s0 tail (L.setIfInBounds i true) n ((d,undef)::f) g s):SB P N E ops Q g0 s0 tail L n i f g s:=by
 intro a w hs hcl hr ha hw hb;unfold wpOp;simp only[hi];rw[if_neg (by rw[hg a ha]; simp)];have hb':began tail (L.setIfInBounds i true)=false→At E g0 s0 w:=fun _=>(hw.less hk.1).sublist hk.2;exact⟨hb',h _ w hs (closed_set hcl hr) (ha.put hd undef) hw hb'⟩
end
end Go.Sy
namespace Go.Proofs.YtmmghffoakhheaaGreatDoor
open _root_.Go.Proofs.Tryz _root_.Go.Proofs.YtmmghffoakhheaaGreatDoor.Tryz
open Go Go.Sy Go.Pl Go.Proofs
set_option maxRecDepth 100000
set_option maxHeartbeats 4000000
def RefAppR (code:Int)(D:List Cl)(ims:List (Int×List Tm))(bk:Bool)(r:Value)(g':PH):Prop:=∃ u p n c b,r = .tuple #[.agg #[u],.agg #[.slice p n c,vb b],vi code]∧Cells g' u D∧(code=0→b=bk∧Ims g' (.slice p n c) ims)∧(code≠0→b=false∧Ims g' (.slice p n c) [])
theorem Ims.nil (g:PH):Ims g (.slice none 0 0) []:=⟨[],Sl.nil g _,trivial⟩
theorem checkC_canon (l:List Cl):checkC (canonC l)=checkC l:=by
 have ht:tabC (canonC l)=tabC l:=by unfold tabC; rw[canonC_idem]
 unfold checkC;rw[ht,canonC_idem,canonC_length]
end Go.Proofs.YtmmghffoakhheaaGreatDoor
namespace Go.Sy
open Go
section
variable {E:World}{g g':PH}{es s:Own}{w w':World}
end
end Go.Sy
namespace Go.Proofs.YtmmghffoakhheaaGreatDoor
open _root_.Go.Proofs.Tryz _root_.Go.Proofs.YtmmghffoakhheaaGreatDoor.Tryz
open Go Go.Sy Go.Pl Go.Proofs
set_option maxRecDepth 100000
set_option maxHeartbeats 4000000
def SucM (S:Int→List Int)(m:List Pr)(a y:Int):Prop:=∃ h,highT m a=some h∧y∈S h∧y≠a∧(highT m y).isSome=true
inductive WayM (S:Int→List Int)(m:List Pr):Int→Int→Prop
 | one (a y:Int) (h:SucM S m a y):WayM S m a y
 | cons (a y z:Int) (h:SucM S m a y) (h2:WayM S m y z):WayM S m a z
section
variable {S:Int→List Int}{m:List Pr}{low a:Int}{v w met:List Int}
end
section
variable {S:Int→List Int}{m:List Pr}(hm:(m.map Prod.fst).Nodup)
include hm
end
end Go.Proofs.YtmmghffoakhheaaGreatDoor
namespace Go.Sy
open Go Go.MapKept
section
variable {P:Program}{N:Nat}{E:World}{f:Fr}{g:PH}{s:Own}{dst:Option Tmp}{ty:TypeId}{pos:String}{af:Array Edge}{gd:Option (Nat×Bool)}
end
end Go.Sy
namespace Go.Proofs.YtmmghffoakhheaaGreatDoor
open _root_.Go.Proofs.Tryz _root_.Go.Proofs.YtmmghffoakhheaaGreatDoor.Tryz
open Go Go.Sy Go.Pl Go.Proofs
set_option maxRecDepth 100000
set_option maxHeartbeats 2000000
set_option maxHeartbeats 4000000
section
variable {l:List Cl}(hl:(checkC l).2=0)
include hl
end
theorem rt_check {l:List Cl}(h:Rt (canonC l)):checkC l=(0,0):=by
 have hf:=h.few;rw[canonC_length] at hf;exact check_ok hf h.pos h.asc (fun x hx=>(h.form x hx).ok) h.around
theorem complex_right (sp:Nat)(L:List Int)(G:List Nat)(bs:Nat):(checkC (complexC sp L G bs)).2=0:=by rw[rt_check (complex_good sp L G bs).1]
section
variable {l:List Cl}(hl:(checkC l).2=0)
include hl
theorem Vd.check {T:List Pr}(hT:Vd l T):mcheckR l T=0:=by
 have h1:(List.range T.length).any (pairBad l T)=false:=List.any_eq_false.2 fun k hk=>by
  have hk:=List.mem_range.1 hk;have h2:=hT.bad hl (0,0) hk;have h3:pairBad l (T++[(0,0)]) k=pairBad l T k:=by
   unfold pairBad;rw[List.take_append_of_le_length oM,List.getD_eq_getElem?_getD,List.getD_eq_getElem?_getD,List.getElem?_append_left hk]
  rw[← h3,h2];decide
 have hnd:T.Nodup:=by
  have h2:=(List.nodup_append.1 hT.once).1;exact List.Pairwise.of_map Prod.fst (fun a b hab hne=>hab (by rw[hne])) h2
 have h2:ringR (adjS (sidC l)) T=false:=by
  rw[Bool.eq_false_iff];intro h;exact hT.free ((ringR_iff hnd).1 h)
 unfold mcheckR;rw[if_neg (by rw[hl]; decide),h1,adjR_eq hl,h2];rfl
theorem keep_vd (m:List Pr):Vd l (keepR l m):=(fold_take hl m (Vd.nil l)).2
theorem extend_vd (m:List Pr):Vd l (extendR l m):=by
 unfold extendR;rw[if_pos hl];exact (fold_take hl _ (keep_vd hl m)).2
omit hl in
theorem fold_prefix:∀ (m T:List Pr),T <+: m.foldl (takeR l) T
 | [],T=>List.prefix_refl T
 | p::m,T=>by
  rw[List.foldl_cons];refine List.IsPrefix.trans ?_ (fold_prefix m _);unfold takeR;split
  ·exact List.prefix_append _ _
  ·exact List.prefix_refl _
theorem keep_prefix (m:List Pr):keepR l m <+: extendR l m:=by
 unfold extendR;rw[if_pos hl];exact fold_prefix _ _
theorem snoc_not {T x:List Pr}(hT:Vd l T)(hx:Vd l x)(hs:∀ q∈T,q∈x)(p:Pr)(h:mcheckR l (T++[p])≠0):mcheckR l (x++[p])≠0:=by
 rw[mcheck_snoc hl hT p] at h;rw[mcheck_snoc hl hx p];have hu:∀ id,usedR T id=true→usedR x id=true:=fun id hid=>by
  rw[used_iff,List.mem_append,List.mem_map,List.mem_map] at hid ⊢
  rcases hid with ⟨q,hq,e⟩ | ⟨q,hq,e⟩
  ·exact .inl ⟨q,hs q hq,e⟩
  ·exact .inr ⟨q,hs q hq,e⟩
 by_cases hb:(usedR x p.1||usedR x p.2 || !(sidC l p.2).contains p.1)=true
 ·rw[if_pos hb]; decide
 ·rw[if_neg hb];have hb':(usedR x p.1||usedR x p.2 || !(sidC l p.2).contains p.1)=false:=by simpa using hb
  rw[Bool.or_eq_false_iff,Bool.or_eq_false_iff] at hb';obtain ⟨⟨h1,h2⟩,h3⟩:=hb';have g1:usedR T p.1=false:=by
   rw[Bool.eq_false_iff]; intro hc; rw[hu _ hc] at h1; cases h1
  have g2:usedR T p.2=false:=by
   rw[Bool.eq_false_iff]; intro hc; rw[hu _ hc] at h2; cases h2
  rw[g1,g2,h3,Bool.false_or,Bool.false_or,if_neg dC] at h;have hr:ringR (adjS (sidC l)) (T++[p])=true:=by
   refine Classical.byContradiction fun hc=>h ?_;rw[if_neg hc]
  have hnd:∀ {y:List Pr},Vd l y→usedR y p.1=false→(y++[p]).Nodup:=fun {y} hy hp=>by
   rw[List.nodup_append];refine⟨List.Pairwise.of_map Prod.fst (fun a b hab hne=>hab (by rw[hne])) (List.nodup_append.1 hy.once).1,by simp,fun a ha b hb e=>?_⟩;simp at hb;subst hb;subst e;rw[used_iff.2 (List.mem_append_left _ (List.mem_map.2 ⟨a,ha,rfl⟩))] at hp;cases hp
  obtain ⟨L,hL,hsub⟩:=(ringR_iff (hnd hT g1)).1 hr;have hr2:ringR (adjS (sidC l)) (x++[p])=true:=(ringR_iff (hnd hx h1)).2 ⟨L,hL,fun q hq=>by
   rcases List.mem_append.1 (hsub q hq) with h5 | h5
   ·exact List.mem_append_left _ (hs q h5)
   ·exact List.mem_append_right _ h5⟩
  rw[if_pos hr2];decide
theorem in_not {x:List Pr}(hx:Vd l x){p:Pr}(hp:p∈x):mcheckR l (x++[p])≠0:=by
 rw[mcheck_snoc hl hx p,used_iff.2 (List.mem_append_left _ (List.mem_map.2 ⟨p,hp,rfl⟩)),Bool.true_or,Bool.true_or,if_pos rfl];decide
theorem extend_full (m:List Pr){p:Pr}(hp:p∈pairsR l):mcheckR l (extendR l m++[p])≠0:=by
 obtain ⟨A,B,hAB⟩:=List.append_of_mem hp;have hx:=extend_vd hl m;have he:extendR l m=B.foldl (takeR l) (takeR l (A.foldl (takeR l) (keepR l m)) p):=by
  unfold extendR;rw[if_pos hl,hAB,List.foldl_append,List.foldl_cons]
 have hT:=(fold_take hl A (keep_vd hl m)).2;generalize A.foldl (takeR l) (keepR l m)=T at *;have hpre:=fold_prefix (l:=l) B (takeR l T p);rw[← he] at hpre;by_cases hc:mcheckR l (T++[p])=0
 ·have ht:takeR l T p=T++[p]:=by unfold takeR; rw[if_pos hc]
  rw[ht] at hpre;exact in_not hl hx (hpre.subset (by simp))
 ·have ht:takeR l T p=T:=by unfold takeR; rw[if_neg hc]
  rw[ht] at hpre;exact snoc_not hl hT hx (fun q hq=>hpre.subset hq) p hc
end
section
variable {l:List Cl}(hl:(checkC l).2=0)
theorem Vd.part {T:List Pr}{p:List Pr}(hT:Vd l (T++p)):Vd l T :=
 ⟨by
  have h:=hT.once;rw[List.map_append,List.map_append] at h;exact h.sublist ((List.sublist_append_left _ _).append (List.sublist_append_left _ _)),fun q hq=>hT.side q (List.mem_append_left _ hq),fun ⟨L,hL,hs⟩=>hT.free ⟨L,hL,fun x hx=>List.mem_append_left _ (hs x hx)⟩⟩
include hl
theorem keep_all:∀ (p T:List Pr),Vd l (T++p)→p.foldl (takeR l) T=T++p
 | [],T,_=>by simp
 | x::p,T,h=>by
  have h2:Vd l (T++[x]++p):=by rw[List.append_assoc]; exact h
  rw[List.foldl_cons];have h3:takeR l T x=T++[x]:=by
   unfold takeR;rw[if_pos (h2.part.check hl)]
  rw[h3,keep_all p _ h2,List.append_assoc];rfl
theorem keep_same {x:List Pr}(h:Vd l x):keepR l x=x:=by
 have:=keep_all hl x [] (by simpa using h);simpa [keepR] using this
theorem take_vd {T:List Pr}(hT:Vd l T)(p:Pr):Vd l (takeR l T p):=(take_eq hl hT p).2
end
open Go Go.Sy Go.Pl Go.Proofs Go.Shelf Go.Sort
theorem flatK_list {α:Type}[Inhabited α]{k:Nat}(en:Enc α k)(l:List α):(flatK en.enc k l.toArray).toList=l.flatMap en.enc:=by
 apply List.ext_getElem?;intro t;by_cases ht:t<l.length * k
 ·have h1:t / k<l.length:=by rw[Nat.div_lt_iff_lt_mul en.pos]; exact ht
  have h2:t % k<k:=Nat.mod_lt _ en.pos;have h3:l[t / k]?=some l[t / k]:=gE h1;have h4:t % k<(en.enc l[t / k]).length:=by rw[en.len]; exact h2
  have h5:=Enc.get (e:=en) (l:=l) h3 (gE h4);rw[show t / k * k+t % k=t from Nat.div_add_mod' t k] at h5;rw[h5];have hs:t<(flatK en.enc k l.toArray).size:=by simpa using ht
  rw[Array.getElem?_toList,Array.getElem?_eq_getElem hs];have h6:=get_flatK en.enc k l.toArray t (by simpa using ht);rw[getElem!_pos _ t hs] at h6;rw[h6];have h7:l.toArray[t / k]! = l[t / k]:=by rw[getElem!_pos l.toArray (t / k) (by simpa using h1)]; simp
  rw[h7,getElem!_pos (en.enc l[t / k]) (t % k) h4]
 ·rw[List.getElem?_eq_none (by simp; omega),List.getElem?_eq_none (by rw[Enc.length]; omega)]
def CmpC (P:Program)(fn:Nat){α:Type}(enc:α→List Value)(cf:α→α→Int):Prop:=∀ (E:World) (g:PH) (s:Own) (x y:α),
 Ctr P E fn #[.agg (enc x).toArray,.agg (enc y).toArray] g s (fun r g' s'=>r = .int .i64 (cf x y)∧g=g'∧s=s')
theorem sortRowK {P:Program}{ρ:Ren}(L:SlLaysF0.n6 P ρ){α:Type}[Inhabited α]{k:Nat}(en:Enc α k)(aE:∀ w,(isAgg (ρ.t 24)).run P w = .ok true w)(zE:∀ w,(Go.sizeOf (ρ.t 24)).run P w = .ok k w)(cf:α→α→Int)(hO:SWO (ltOf cf))(fn:Nat)
  (eg:∀ args w,(callFunc fn args).run P w = .ok (.enter fn args) w) (hcmp:CmpC P fn en.enc cf) (T:TypeId) (E:World) (g:PH) (s:Own) (v:Value) (l:List α) (i:Nat) (hi:s[i]?=some (rowA en T v l)) (hl:l.length<1099511627776) :
  Ctr P E (ρ.f 6) #[v,.func (.func fn) #[] #[]] g s (fun _ g' s'=>g=g'∧∃ l':List α,l'.Perm l∧(l'.Pairwise fun x y=>¬ cf y x<0)∧s'=s.set i (rowA en T v l')):=by
 intro w hw;obtain ⟨h1,h2⟩:=row_is hw hi
 rcases h2 with ⟨p,rfl,hn⟩ | ⟨b,cap,cur,rfl,hb,hle,hcm,hcs,ht⟩
 ·have hnil:l=[]:=List.eq_nil_of_length_eq_zero hn;subst hnil;refine (AnyF.slices_SortFunc_none L p 0 (.func (.func fn) #[] #[]) w).mono ?_;rintro e w' ⟨rfl,rfl⟩;exact⟨_,g,s,I,hw,I,[],.nil,.nil,(set_self hi).symm⟩
 ·have hfr:=hw.fresh _ (List.mem_of_getElem? hi) b rfl;have hblt:=(Array.getElem?_eq_some_iff.1 hb).1;have hfl:=flatK_list en l;have hcmp':CmpLays P fn #[] en.enc k cf b 0 l.toArray.size w:=by
   intro m os dk hs x y;refine (hcmp (sortWorldK en.enc k w b 0 m dk os) (allOf _) [] x y _ (at_all _)).mono ?_;rintro e w' ⟨v',g',s',rfl,hat,rfl,rfl,rfl⟩;exact⟨I,at_grown hat⟩
  have hH:HoldsK en.enc k w b 0 l.toArray:=by
   intro j hj;have hj':j<l.length * k:=by simpa using hj
   refine⟨?_,by simp[World.frozen?,hb]⟩;have h1:(cur.toList.take (l.length * k))[j]?=(flatK en.enc k l.toArray).toList[j]?:=by rw[ht,hfl]
   rw[List.getElem?_take_of_lt hj'] at h1;have hs:j<(flatK en.enc k l.toArray).size:=by simpa using hj'
   simp only[World.cell?,hb,Nat.zero_add];simp only[Option.isSome_none,Bool.false_eq_true,if_false];rw[← Array.getElem?_toList,h1,Array.getElem?_toList,Array.getElem?_eq_getElem hs,getElem!_pos _ j hs];rfl
  refine (AnyQ.slices_SortFunc L k aE zE en.enc en.len en.one cf hO fn #[] b 0 (cap+1) l.toArray w eg hcmp' hH hblt (by simp; omega)).mono ?_;rintro e w' ⟨rfl,d',n,os,hp,hsd,rfl⟩;obtain ⟨d'⟩:=d';have hdl:d'.length=l.length:=by have:=hp.1; simpa using this
  have hperm:d'.Perm l:=by
   have h5:=hp.2.2;simp only[List.size_toArray,List.extract_toArray] at h5;simpa [List.extract_eq_take_drop,hdl,tL (Nat.le_of_eq hdl)] using h5
  have hsrt:d'.Pairwise fun x y=>¬ cf y x<0:=by
   rw[List.pairwise_iff_getElem];intro i j hi hj hij;have h5:=hsd i j (Nat.zero_le _) hij (by simp; omega);simp only[ltOf,decide_eq_false_iff_not] at h5;simpa [hi,hj] using h5
  have hfd:=flatK_list en d';have hfs:(flatK en.enc k d'.toArray).size=l.length * k:=by simp[hdl]
  refine⟨_,g,s.set i (rowA en T (.slice (some ⟨b,0,none⟩) l.length (cap+1)) d'),I,?_,I,d',hperm,hsrt,I⟩;have h5:(sortWorldK en.enc k w b 0 n d'.toArray os).heap[b]?=some (.cells (putCells id 0 (flatK en.enc k d'.toArray) cur) T (0,0)):=by
   show (grow (putRow id (Sort.ahead w n) b 0 (flatK en.enc k d'.toArray)) os).heap[b]?=_;rw[heap_grow_old _ _ (by simpa using hblt)];simp[putRow,mapBlock,Sort.ahead,Array.getElem?_modify,hb,onCells]
  exact hw.turn (i:=i) (w':=sortWorldK en.enc k w b 0 n d'.toArray os) (e':=rowA en T (.slice (some ⟨b,0,none⟩) l.length (cap+1)) d') hi I ⟨I,Nat.le_add_right _ _⟩ I (by simp[sortWorldK,grow,putRowK,putRow,mapBlock,Sort.ahead]) (fun q hq hne=>by
    have hne':b≠q:=fun e=>hne (by rw[e]; rfl);show (grow (putRow id (Sort.ahead w n) b 0 (flatK en.enc k d'.toArray)) os).heap[q]?=_;rw[heap_grow_old _ _ (by simpa using hq)];simp[putRow,mapBlock,Sort.ahead,Array.getElem?_modify,hne']) (by
    have:=row_holds (w:=sortWorldK en.enc k w b 0 n d'.toArray os) (T:=T) (k:=k) (n:=d'.length) (b:=b) (cap:=cap) (xs:=d'.flatMap en.enc) (by rw[en.length]) h5 oM hcm (by simp[putCells]; simpa using hcs) (by
     rw[← hfd];apply List.ext_getElem?;intro j;by_cases hj:j<d'.length * k
     ·have hj2:j<(flatK en.enc k d'.toArray).size:=by simpa using hj
      have hj3:j<cur.size:=by
       have:d'.length * k≤(cap+1) * k:=Nat.mul_le_mul_right _ oM;omega
      rw[List.getElem?_take_of_lt hj,Array.getElem?_toList,Array.getElem?_toList,Array.getElem?_eq_getElem hj2];simp only[putCells,Array.getElem?_mapIdx,Array.getElem?_eq_getElem hj3,Option.map_some,Nat.zero_le,true_and,Nat.zero_add,Nat.sub_zero];rw[if_pos hj2,getElem!_pos _ j hj2];rfl
     ·rw[List.getElem?_take_eq_none oM,List.getElem?_eq_none (by simp; omega)])
    rw[show rowA en T (.slice (some ⟨b,0,none⟩) l.length (cap+1)) d'=row T k (.slice (some ⟨b,0,none⟩) d'.length (cap+1)) d'.length (d'.flatMap en.enc) by simp only[rowA,hdl]];exact this) (fun b' hb'=>by
    simp only[rowA,row,rblk,Option.some.injEq] at hb';subst hb';exact⟨(Array.getElem?_eq_some_iff.1 h5).1,.inl I⟩)
abbrev Ts:=List (Int×Value×List Tm)
def rowsT (ts:Ts):Own:=ts.map fun t=>rowA encTm 156 t.2.1 t.2.2
def prsT (ts:Ts):List (Int×Value):=ts.map fun t=>(t.1,t.2.1)
theorem mget_prsT (k:Int):∀ ts:Ts,(mget (prsT ts) k=none∧∀ t∈ts,t.1≠k)∨∃ (m:Nat) (t:Int×Value×List Tm),ts[m]?=some t∧t.1=k∧mget (prsT ts) k=some t.2.1∧ts.find? (fun t=>decide (t.1=k))=some t
 | []=>.inl ⟨rfl,by simp⟩
 | t::ts=>by
  have hc:prsT (t::ts)=(t.1,t.2.1)::prsT ts:=rfl;rw[hc,mget_cons];by_cases h:k=t.1
  ·rw[if_pos h];exact .inr ⟨0,t,I,h.symm,I,by rw[List.find?_cons,decide_eq_true h.symm]⟩
  ·rw[if_neg h]
   rcases mget_prsT k ts with ⟨h1,h2⟩ | ⟨m,u,h1,h2,h3,h4⟩
   ·exact .inl ⟨h1,fun x hx=>by
     rcases List.mem_cons.1 hx with rfl | hx
     ·exact fun e=>h e.symm
     ·exact h2 x hx⟩
   ·exact .inr ⟨m+1,u,h1,h2,h3,by rw[List.find?_cons,decide_eq_false (fun e=>h e.symm)]; exact h4⟩
theorem rowsT_get {ts:Ts}{m:Nat}{t:Int×Value×List Tm}(h:ts[m]?=some t)(p q:Own):(p++(rowsT ts++q))[p.length+m]?=some (rowA encTm 156 t.2.1 t.2.2):=by
 have hj:=(List.getElem?_eq_some_iff.1 h).1;rw[get_after,List.getElem?_append_left (by simpa [rowsT] using hj)];simp[rowsT,h]
theorem rowsT_set {ts:Ts}{m:Nat}{t:Int×Value×List Tm}(h:ts[m]?=some t)(l':List Tm)(p q:Own):(p++(rowsT ts++q)).set (p.length+m) (rowA encTm 156 t.2.1 l')=p++(rowsT (ts.set m (t.1,t.2.1,l'))++q):=by
 have hj:=(List.getElem?_eq_some_iff.1 h).1;rw[List.set_append_right _ _ oM,Nat.add_sub_cancel_left,List.set_append_left _ _ (by simpa [rowsT] using hj)];simp[rowsT,List.map_set]
theorem freezeRowsT {E:World}{w:World}:∀ (ts:Ts) (g:PH) (s:Own),At E g (rowsT ts++s) w→∃ g',Le g g'∧At E g' s w∧∀ t∈ts,SlA encTm g' t.2.1 t.2.2
 | [],g,s,h=>⟨g,Le.refl g,h,by simp⟩
 | (a,v,l)::r,g,s,h=>by
  have h':At E g (row 156 3 v l.length (l.flatMap encTm.enc)::(rowsT r++s)) w:=h;obtain ⟨g1,hl1,h1,h2⟩:=h'.freezeRow;obtain ⟨g2,hl2,h3,h4⟩:=freezeRowsT r g1 s h1;refine⟨g2,hl1.trans hl2,h3,fun t ht=>?_⟩
  rcases List.mem_cons.1 ht with rfl | ht
  ·exact Sl.mono h2 hl2
  ·exact h4 t ht
theorem SC.freezeRowsT {P:Program}{N:Nat}{E:World}{c:Code}{Q:Exit→Act→World→Prop}{f:Fr}{g:PH}{p q:Own}{ts:Ts}(h:∀ g',Le g g'→(∀ t∈ts,SlA encTm g' t.2.1 t.2.2)→SC P N E c Q f g' (p++q)):SC P N E c Q f g (p++(rowsT ts++q)):=fun a w ha hw=>by
 have h0:(p++(rowsT ts++q)).Perm (rowsT ts++(p++q)):=by
  rw[← List.append_assoc,← List.append_assoc];exact List.perm_append_comm.append_right q
 obtain ⟨g',h1,h2,h3⟩:=Go.Proofs.YtmmghffoakhheaaGreatDoor.freezeRowsT ts g (p++q) (hw.perm h0);exact h g' h1 h3 a w ha h2
def TsOk (ts:Ts):Prop:=∀ t∈ts,t.2.2.length<1099511627776∧(t.2.2.map Prod.fst).Nodup∧∃ p n c,t.2.1 = .slice p n c
def imgT (ts:Ts)(k:Int):List Tm:=match ts.find? (fun t=>decide (t.1=k)) with
 | some t=>sortBy Prod.fst t.2.2
 | none=>[(k,1)]
theorem sorted_eq {l l':List Tm}(hp:l'.Perm l)(hs:l'.Pairwise fun x y=>¬ cmpI y.1 x.1<0)(hn:(l.map Prod.fst).Nodup):l'=sortBy Prod.fst l:=by
 have h1:Srt Prod.fst l':=hs.imp fun h=>by rw[cmpI_neg] at h; omega
 exact eq_sortBy h1 (stab_perm hp.symm hn)
def Tryz.sortT_ren:Ren :=
 {
  f:=fun x =>
   match x with
   | 6=>113
   | 15=>145
   | 14=>144
   | 28=>163
   | 29=>164
   | 20=>155
   | 21=>156
   | 22=>157
   | 23=>158
   | 24=>159
   | 25=>160
   | 26=>161
   | 27=>162
   | 46=>174
   | 47=>175
   | 48=>176
   | 49=>177
   | 50=>178
   | 57=>194
   | n=>n,
  t:=fun x =>
   match x with
   | 22=>151
   | 24=>156
   | 25=>159
   | 3=>3
   | 39=>184
   | 0=>0
   | 53=>201
   | 55=>189
   | 4=>4
   | 46=>195
   | 45=>194
   | 50=>138
   | 5=>5
   | 9=>9
   | 66=>213
   | 70=>217
   | 76=>232
   | 77=>233
   | n=>n,
  g:=fun x =>
   have n:=x;
   n }
theorem Tryz.sortT:SlLaysF0.n6 Tryz.prog Tryz.sortT_ren :=
  {
  mixed:=Eq.refl true,
  f6 :=
   Exists.intro "slices.SortFunc[[]cocycle/api.Term,cocycle/api.Term]"
    ⟨of_decide_eq_true (id (Eq.refl true)),
     Eq.trans func113
      (congrArg some
       kR)⟩,
  f14 :=
   Exists.intro "slices.pdqsortCmpFunc[cocycle/api.Term]"
    ⟨of_decide_eq_true (id (Eq.refl true)),
     Eq.trans func144
      (congrArg some
       kR)⟩,
  f15:=Eq.trans func145 (congrArg some kR),
  f20 :=
   Exists.intro "slices.insertionSortCmpFunc[cocycle/api.Term]"
    ⟨of_decide_eq_true (id (Eq.refl true)),
     Eq.trans func155
      (congrArg some
       kR)⟩,
  f21 :=
   Exists.intro "slices.heapSortCmpFunc[cocycle/api.Term]"
    ⟨of_decide_eq_true (id (Eq.refl true)),
     Eq.trans func156
      (congrArg some
       kR)⟩,
  f22 :=
   Exists.intro "slices.breakPatternsCmpFunc[cocycle/api.Term]"
    ⟨of_decide_eq_true (id (Eq.refl true)),
     Eq.trans func157
      (congrArg some
       kR)⟩,
  f23 :=
   Exists.intro "slices.choosePivotCmpFunc[cocycle/api.Term]"
    ⟨of_decide_eq_true (id (Eq.refl true)),
     Eq.trans func158
      (congrArg some
       kR)⟩,
  f24 :=
   Exists.intro "slices.reverseRangeCmpFunc[cocycle/api.Term]"
    ⟨of_decide_eq_true (id (Eq.refl true)),
     Eq.trans func159
      (congrArg some
       kR)⟩,
  f25 :=
   Exists.intro "slices.partialInsertionSortCmpFunc[cocycle/api.Term]"
    ⟨of_decide_eq_true (id (Eq.refl true)),
     Eq.trans func160
      (congrArg some
       kR)⟩,
  f26 :=
   Exists.intro "slices.partitionEqualCmpFunc[cocycle/api.Term]"
    ⟨of_decide_eq_true (id (Eq.refl true)),
     Eq.trans func161
      (congrArg some
       kR)⟩,
  f27 :=
   Exists.intro "slices.partitionCmpFunc[cocycle/api.Term]"
    ⟨of_decide_eq_true (id (Eq.refl true)),
     Eq.trans func162
      (congrArg some
       kR)⟩,
  f28:=Eq.trans func163 (congrArg some kR),
  f29:=Eq.trans func164 (congrArg some kR),
  f46 :=
   Exists.intro "slices.siftDownCmpFunc[cocycle/api.Term]"
    ⟨of_decide_eq_true (id (Eq.refl true)),
     Eq.trans func174
      (congrArg some
       kR)⟩,
  f47:=Eq.trans func175 (congrArg some kR),
  f48:=Eq.trans func176 (congrArg some kR),
  f49 :=
   Exists.intro "slices.medianAdjacentCmpFunc[cocycle/api.Term]"
    ⟨of_decide_eq_true (id (Eq.refl true)),
     Eq.trans func177
      (congrArg some
       kR)⟩,
  f50 :=
   Exists.intro "slices.medianCmpFunc[cocycle/api.Term]"
    ⟨of_decide_eq_true (id (Eq.refl true)),
     Eq.trans func178
      (congrArg some
       kR)⟩,
  f57 :=
   Exists.intro "slices.order2CmpFunc[cocycle/api.Term]"
    ⟨of_decide_eq_true (id (Eq.refl true)),
     Eq.trans func194
      (congrArg some
       kR)⟩,
  t0:=underlying0,a0:=isAgg0,z0:=sizeOf0,v0:=zeroValue0,t3:=uT3,
  a3:=iT3,z3:=zT3,v3:=zeroValue3,t4:=underlying4,a4:=isAgg4,
  z4:=zT4,v4:=zeroValue4,t5:=uT5,a5:=isAgg5,z5:=sizeOf5,
  v5:=zeroValue5,t9:=underlying9,a9:=isAgg9,z9:=sizeOf9,v9:=zeroValue9,
  t22:=underlying151,a22:=isAgg151,z22:=sizeOf151,v22:=zeroValue151,
  t25:=underlying159,a25:=isAgg159,z25:=sizeOf159,v25:=zeroValue159,
  t39:=uT184,a39:=isAgg184,z39:=sizeOf184,v39:=zeroValue184,
  t45:=underlying194,a45:=isAgg194,z45:=sizeOf194,v45:=zeroValue194,
  t46:=underlying195,a46:=isAgg195,z46:=sizeOf195,v46:=zeroValue195,
  t50:=underlying138,a50:=isAgg138,z50:=sizeOf138,v50:=zeroValue138,
  t53:=underlying201,a53:=isAgg201,z53:=sizeOf201,v53:=zeroValue201,
  t55:=underlying189,a55:=isAgg189,z55:=sizeOf189,v55:=zeroValue189,
  t66:=underlying213,a66:=isAgg213,z66:=sizeOf213,v66:=zeroValue213,
  t70:=underlying217,a70:=isAgg217,z70:=sizeOf217,v70:=zeroValue217,
  t76:=underlying232,a76:=isAgg232,z76:=sizeOf232,v76:=zeroValue232,
  t77:=underlying233,a77:=isAgg233,z77:=sizeOf233,v77:=zeroValue233 }
theorem cmpTerm:CmpC Tryz.prog 114 encTm.enc (fun x y=>cmpI x.1 y.1):=by
 intro E g s x y;obtain ⟨x1,x2⟩:=x;obtain ⟨y1,y2⟩:=y;refine Ctr.of (args:=[.agg #[vi x1,vb (wneg x2),txt (magB x2.natAbs)],.agg #[vi y1,vb (wneg y2),txt (magB y2.natAbs)]]) func114 I ntmps114 (bE I) ?_;refine rZ (bW (bO I) fun b2=>?_);refine bW (bO I) fun b3=>?_;refine aT I (rZ (lU (fA underlying156 I zT3 I) (lK (qL (v:=vi x1) iT3 I (cO 1 I I)) (lU (fA underlying156 I zT3 I) (lK (qL (v:=vi y1) iT3 I (cO 0 I I)) (lW (SO.call call115 I (compare_spec E g _ x1 y1)) ?_))))));rintro _ _ _ ⟨rfl,rfl,rfl⟩;refine aT I (rE (dR (s':=s) uR ?_));exact ST.ret1 (.inl I) results114 I ⟨I,I,I⟩
theorem swoKey {α:Type}(key:α→Int):SWO (ltOf fun x y:α=>cmpI (key x) (key y)):=⟨fun x=>by simp[ltOf,cmpI_neg],fun x y z h1 h2=>by simp[ltOf,cmpI_neg] at *; omega,fun x y z h1 h2=>by simp[ltOf,cmpI_neg] at *; omega⟩
theorem sortTerms (E:World)(g:PH)(s:Own)(v:Value)(l:List Tm)(i:Nat)(hi:s[i]?=some (rowA encTm 156 v l))(hl:l.length<1099511627776)(hn:(l.map Prod.fst).Nodup) :
  Ctr Tryz.prog E 113 #[v,.func (.func 114) #[] #[]] g s (fun _ g' s'=>g=g'∧s'=s.set i (rowA encTm 156 v (sortBy Prod.fst l))) :=
 (sortRowK Tryz.sortT encTm isAgg156 sizeOf156 (fun x y=>cmpI x.1 y.1) (swoKey Prod.fst) 114 call114 cmpTerm 156 E g s v l i hi hl).mono fun _ _ _ ⟨h1,l',h2,h3,h4⟩=>⟨h1,by rw[h4,sorted_eq h2 h3 hn]⟩
theorem image_spec (E:World)(g:PH)(p q:Own)(b2 bx mb ms:Nat)(u:Value)(bk:Bool)(k:Int)(ts:Ts)(hts:TsOk ts)(i j z:Nat)(hq:p[z]?=some (pt b2 (.cells #[pp bx 0] 122 (0,0))))(hi:p[i]?=some (edP bx u mb ms bk))(hj:p[j]?=some (mp ms (prsT ts))) :
  CallV Tryz.prog E (.func (.func 111) #[] #[pp b2 0]) [vi k] g (p++(rowsT ts++q)) (fun r g' s'=>Le g g'∧∃ ts',s'=p++(rowsT ts'++q)∧((ts.find? (fun t=>decide (t.1=k))=none∧ts'=ts∧SlA encTm g' r [(k,1)])∨∃ (m:Nat) (t:Int×Value×List Tm),ts[m]?=some t∧t.1=k∧ts.find? (fun t=>decide (t.1=k))=some t∧r=t.2.1∧ts'=ts.set m (t.1,t.2.1,sortBy Prod.fst t.2.2))):=by
 refine CallV.mk (args:=[_]) (cap:=[pp b2 0]) call111 ?_;have left:∀ {n:Nat} {x:Ent},p[n]?=some x→(p++(rowsT ts++q))[n]?=some x:=fun {n x} h=>by
  rw[List.getElem?_append_left (List.getElem?_eq_some_iff.1 h).1]; exact h
 have hq':=left hq;have hi':=left hi;have hj':=left hj;generalize hs:p++(rowsT ts++q)=s at *
 rcases mget_prsT k ts with ⟨h1,h2⟩ | ⟨m,t,h1,h2,h3,h4⟩
 ·have hf:ts.find? (fun t=>decide (t.1=k))=none:=List.find?_eq_none.2 fun t ht=>by simpa using h2 t ht
  refine Ctr.of (args:=[vi k,pp b2 0]) func111 I ntmps111 (bE I) ?_;refine rZ (aT rfl (rZ (lK (qL (v:=pp bx 0) isAgg122 rfl (cO z hq' rfl)) (lU (nC rfl) (lU (fA uT150 rfl sizeOf148 rfl) (lK (qL (v:=.map (some ms)) isAgg148 rfl (cO i hi' rfl)) (lM rfl (lK (SQ.eq (v':=.tuple #[.slice none 0 0,vb false]) (SQ.lookupOk mty148 rfl rfl (MapAt.own j hj')) (by rw[h1]; rfl)) ?_))))))));refine lM I (yX I (yX I (lA I (aT I (sQ (sW I (lU (SU.not I) (tZ (SC.condT I (sW I (lW (SO.call call112 I (term_spec E g _ k 1 dC dC)) ?_)))))))))));rintro _ g1 _ ⟨rfl,rfl,hle1⟩;refine lW (bS sty151 I I I (szs_mk ⟨I,trivial⟩) dC) ?_;rintro _ _ _ ⟨b19,rfl,rfl,rfl⟩;refine SL.freeze fun g2 hle2 hb2=>?_;refine aT I (rE (tR ?_));exact ST.ret1 (.inl I) results111 I ⟨hle1.trans hle2,ts,hs.symm,.inl ⟨hf,I,SlA.lit hb2 I I⟩⟩
 ·have hrow:=rowsT_get h1 p q;have hset:=rowsT_set h1 (sortBy Prod.fst t.2.2) p q;rw[hs] at hrow hset;obtain ⟨hl1,hl2,_⟩:=hts t (List.mem_of_getElem? h1);refine Ctr.of (args:=[vi k,pp b2 0]) func111 I ntmps111 (bE I) ?_;refine rZ (aT rfl (rZ (lK (qL (v:=pp bx 0) isAgg122 rfl (cO z hq' rfl)) (lU (nC rfl) (lU (fA uT150 rfl sizeOf148 rfl) (lK (qL (v:=.map (some ms)) isAgg148 rfl (cO i hi' rfl)) (lM rfl (lK (SQ.eq (v':=.tuple #[t.2.1,vb true]) (SQ.lookupOk mty148 rfl rfl (MapAt.own j hj')) (by rw[h3]; rfl)) ?_))))))));refine lM I (yX I (yX I (lA I (aT I (sQ (sW I (lU (SU.not I) (tZ (cF I (kP (tN (sW I (lW (SO.call call113 I (sortTerms E g _ t.2.1 t.2.2 _ hrow hl1 hl2)) ?_)))))))))))));rintro _ _ _ ⟨rfl,rfl⟩;refine tZ (sW I (aT I (rE ?_)));exact ST.ret1 (.inl I) results111 I ⟨Le.refl _,_,hset,.inr ⟨m,t,h1,h2,h4,I,I⟩⟩
end Go.Proofs.YtmmghffoakhheaaGreatDoor
