/- SyRm Ed16 Ed17 R12e R12f -/
import Derived.Test.YtackilpikhkijaaGreatDoorAl03
import Derived.Test.YtackilpikhkijaaGreatDoorAl11
import Derived.Test.YtackilpikhkijaaGreatDoorAl10
set_option linter.unusedSimpArgs false
set_option linter.unusedVariables false
namespace Go.Sy
open Go Go.MapKept
section
variable {P:Program}{N:Nat}{E:World}{f:Fr}{g:PH}{s:Own}{dst:Option Tmp}{ty:TypeId}{pos:String}{af:Array Edge}{gd:Option (Nat×Bool)}
variable {t kt et:TypeId}{m r clk:Nat}{es:Array MapEntry}{vis:List MapEntry}{x y u:Operand}{l vl:List (Int×Value)}{z:Value}{b:Nat}{k:Int}{v:Value}
abbrev mx (b:Nat)(es:Array MapEntry)(clk:Nat):Ent:=pt b (.map es clk)
theorem yz (j:Nat)(hj:s[j]?=some (mx m es clk)):∀ w,At E g s w→w.heap[m]?=some (.map es clk):=fun w hw=>by
 have:=hw.own _ (List.mem_of_getElem? hj);simpa [mx,pt] using this
theorem At.openMap {w:World}{i:Nat}(hi:s[i]?=some (mp b l))(h:At E g s w):∃ es clk,iT l es clk∧At E g (s.set i (mx b es clk)) w:=by
 obtain ⟨es,clk,h1,h2⟩:=h.own _ (List.mem_of_getElem? hi);have hf:=h.fresh _ (List.mem_of_getElem? hi);exact⟨es,clk,h2,h.turn hi I ⟨I,lR _⟩ I (lR _) (fun _ _ _=>I) (by simpa [mx,pt,mp] using h1) (fun b' hb'=>⟨(hf b' hb').2,.inl hb'⟩)⟩
theorem At.closeMap {w:World}{i:Nat}(hi:s[i]?=some (mx b es clk))(hI:iT l es clk)(h:At E g s w):At E g (s.set i (mp b l)) w:=by
 have h1:=h.own _ (List.mem_of_getElem? hi);have hf:=h.fresh _ (List.mem_of_getElem? hi);exact h.turn hi I ⟨I,lR _⟩ I (lR _) (fun _ _ _=>I) ⟨es,clk,by simpa [mx,pt,mp] using h1,hI⟩ (fun b' hb'=>⟨(hf b' hb').2,.inl hb'⟩)
theorem SC.openMap {c:Code}{Q:Exit→Act→World→Prop}(i:Nat)(hi:s[i]?=some (mp b l))(h:∀ es clk,iT l es clk→SC P N E c Q f g (s.set i (mx b es clk))):SC P N E c Q f g s:=fun a w ha hw=>by
 obtain ⟨es,clk,h1,h2⟩:=hw.openMap hi;exact h es clk h1 a w ha h2
theorem ST.closeMap {e:Exit}{Q:Exit→Act→World→Prop}(i:Nat)(hi:s[i]?=some (mx b es clk))(hI:iT l es clk)(h:ST N E Q e f g (s.set i (mp b l))):ST N E Q e f g s:=fun a w ha hw=>h a w ha (hw.closeMap hi hI)
theorem SO.rangeG (hT:P.underlying t=some (.map kt et))(hx:ev f x=some (.map (some m)))(hmm:∀ w,At E g s w→w.heap[m]?=some (.map es clk)) :
  SO P N E ⟨dst,.range t x,ty,pos,af,gd⟩ f g s fun u g' s'=>∃ r,u=pp r 0∧g=g'∧s'=eP r m es clk []::s :=
 SO.of_run fun a w ha hw=>⟨pp w.heap.size 0,{ w with heap:=w.heap.push (.mapIter (some m) clk #[] clk) },g,eP w.heap.size m es clk []::s,by
  have hb:=hmm w hw;simp[execOp,ha.ev hx,Instr.range,run_underlying hT,MapKept.run_getObj_map hb],hw.alloc (e:=eP w.heap.size m es clk []) rfl rfl,_,rfl,rfl,rfl⟩
theorem SO.nextG (i:Nat)(hx:ev f x=some (pp r 0))(hi:s[i]?=some (eP r m es clk vis))(hmm:∀ w,At E g s w→w.heap[m]?=some (.map es clk))(hst:Stamped es clk)(hv:Vis es vis) :
  SO P N E ⟨dst,.next x false,ty,pos,af,gd⟩ f g s fun u g' s'=>g=g' ∧
   ((u = .tuple #[.bool false]∧s=s'∧∀ e∈es.toList,e∈vis)∨∃ e,e∈es.toList∧e.born ∉ vis.map (·.born)∧u = .tuple #[.bool true,e.key,e.val]∧s'=s.set i (eP r m es clk (vis++[e]))) :=
 SO.of_run fun a w ha hw=>by
  have hit:=hw.own _ (List.mem_of_getElem? hi);have hb:=hmm w hw;have hr:w.heap[r]?=some (.mapIter (some m) clk (vis.map (·.born)).toArray clk):=by simpa [eP] using hit
  have hget:(getObj r).run P w = .ok (.mapIter (some m) clk (vis.map (·.born)).toArray clk) w:=by simp[getObj,Sem.run,hr]
  have hold:∀ e∈es.toList,e.born<clk:=hst.1;have hall:(es.all (·.born≥clk))=true→es = #[]:=fun h=>by
   rw[Array.all_eq_true_iff_forall_mem] at h;apply Array.eq_empty_of_size_eq_zero;cases hsz:es.size with
   | zero=>rfl
   | succ q =>
    exfalso;have h0:0<es.size:=oM;have h1:=h es[0] (Array.getElem_mem h0);have h2:=hold es[0] (by simp);simp at h1;omega
  have hfl:(es.filter fun e=>!(vis.map (·.born)).toArray.contains e.born).filter (·.born<clk)=es.filter fun e=>!(vis.map (·.born)).toArray.contains e.born:=by
   apply Array.ext';simp only[Array.toList_filter];rw[List.filter_eq_self];intro e he;have:=hold e (List.mem_filter.1 he).1;simpa using this
  have hfn:(es.filter fun e=>!(vis.map (·.born)).toArray.contains e.born).filter (·.born≥clk) = #[]:=by
   apply Array.ext';simp only[Array.toList_filter];rw[List.filter_eq_nil_iff];intro e he;have:=hold e (List.mem_filter.1 he).1;simp; omega
  generalize hL:es.filter (fun e=>!(vis.map (·.born)).toArray.contains e.born)=left at hfl hfn;have hmem:∀ e,e∈left.toList↔e∈es.toList∧e.born ∉ vis.map (·.born):=fun e=>by
   rw[← hL];simp
  have hguard:(!(vis.map (·.born)).toArray.isEmpty && !es.isEmpty&&es.all (·.born≥clk))=false:=by
   cases h1:es.all (·.born≥clk) with
   | false=>simp
   | true=>rw[hall h1]; simp
  have hfresh:=hw.fresh _ (List.mem_of_getElem? hi) r rfl;by_cases hempty:left = #[]
  ·-- none is left
   refine⟨.tuple #[.bool false],w,g,s,?_,hw,I,.inl ⟨I,I,fun e he=>?_⟩⟩
   ·simp only[execOp,ha.ev hx,Instr.next,Sem.run_bind,hget,Result.andThen_ok,MapKept.run_getObj_map hb,hguard,Bool.false_eq_true,if_false,Sem.run_pure,hL,hfl,hfn,hempty];simp[choose,Sem.run,Question.forced]
   ·by_cases hin:e.born∈vis.map (·.born)
    ·obtain ⟨e',he',heq⟩:=List.mem_map.1 hin;rw[← mu hst (hv.sub e' he') he heq];exact he'
    ·have:=(hmem e).2 ⟨he,hin⟩;rw[hempty] at this;simp at this
  ·have hsz:0<left.size:=by
    rcases Nat.eq_zero_or_pos left.size with h | h
    ·exact absurd (Array.eq_empty_of_size_eq_zero h) hempty
    ·exact h
   have hcand:((if left.isEmpty then #[none] else #[])++(left ++ #[]).map some:Array (Option MapEntry))=left.map some:=by
    have:left.isEmpty=false:=by simpa using hempty
    simp[this]
   -- the entry that is drawn
   have hch:∃ (q:Nat) (w':World),(choose (.mapNext left.size)).run P w = .ok q w'∧q<left.size∧∃ n,w.drawn≤n∧w'={ w with drawn:=n }:=by
    by_cases h1:left.size≤1
    ·exact⟨0,w,by simp[choose,Sem.run,Question.forced,h1],hsz,w.drawn,lR _,I⟩
    ·exact⟨_,_,by simp[choose,Sem.run,Question.forced,h1,Question.cut]; rfl,Nat.mod_lt _ hsz,w.drawn+1,Nat.le_succ _,rfl⟩
   obtain ⟨q,w',hq1,hq2,n,hq0,hq3⟩:=hch;have hr':w'.heap[r]?=some (.mapIter (some m) clk (vis.map (·.born)).toArray clk):=by rw[hq3]; exact hr
   have hset:(setObj r (.mapIter (some m) clk ((vis.map (·.born)).toArray.push left[q].born) clk)).run P w' = .ok () { w' with heap:=w'.heap.setIfInBounds r (.mapIter (some m) clk ((vis.map (·.born)).toArray.push left[q].born) clk) }:=by
    simp[setObj,Sem.run,hr']
   have hin:left[q]∈left.toList:=by simp
   refine⟨.tuple #[.bool true,left[q].key,left[q].val],{ w' with heap:=w'.heap.setIfInBounds r (.mapIter (some m) clk ((vis.map (·.born)).toArray.push left[q].born) clk) },g,s.set i (eP r m es clk (vis++[left[q]])),?_,?_,I,.inr ⟨left[q],((hmem _).1 hin).1,((hmem _).1 hin).2,I,I⟩⟩
   ·simp only[execOp,ha.ev hx,Instr.next,Sem.run_bind,hget,Result.andThen_ok,MapKept.run_getObj_map hb,hguard,Bool.false_eq_true,if_false,Sem.run_pure,hL,hfl,hfn];rw[hcand];simp only[Array.size_map,hq1,Result.andThen_ok];have hg2:(left.map some)[q]?=some (some left[q]):=by simp[hq2]
    simp only[hg2,Sem.run_bind,hset,Result.andThen_ok,Sem.run_pure]
   ·have hw2:At E g s w':=by rw[hq3]; exact hw.drew n hq0
    have hlt:r<w'.heap.size:=by rw[hq3]; exact hfresh.2
    refine hw2.turn hi I ⟨I,(by exact lR _)⟩ I (by simp) (fun k _ hk=>by simp only[Array.getElem?_setIfInBounds_ne (fun e=>hk (by simp[eP,e]):r≠k)]) ?_ (fun b' hb'=>?_)
    ·simp[eP,hlt]
    ·simp only[eP,Option.some.injEq] at hb';subst hb';exact⟨by simpa using hlt,.inl I⟩
theorem SQ.entryG {e:MapEntry}(i:Nat)(hx:ev f x=some (pp r 0))(hi:s[i]?=some (eP r m es clk (vis++[e])))(hmm:∀ w,At E g s w→w.heap[m]?=some (.map es clk))(hst:Stamped es clk)(he:e∈es.toList) :
  SQ P N E ⟨dst,.entry x,ty,pos,af,gd⟩ f g s (.tuple #[e.key,e.val]):=fun a w ha hw=>by
 have hit:=hw.own _ (List.mem_of_getElem? hi);have hb:=hmm w hw;have hr:w.heap[r]?=some (.mapIter (some m) clk ((vis++[e]).map (·.born)).toArray clk):=by simpa [eP] using hit
 have hget:(getObj r).run P w = .ok (.mapIter (some m) clk ((vis++[e]).map (·.born)).toArray clk) w:=by simp[getObj,Sem.run,hr]
 have hback:((vis++[e]).map (·.born)).toArray.back?=some e.born:=by simp
 have hfind:es.find? (·.born == e.born)=some e:=by
  rw[← Array.find?_toList];have h1:(es.toList.find? (·.born == e.born)).isSome:=by
   rw[List.find?_isSome];exact⟨e,he,by simp⟩
  obtain ⟨e',he'⟩:=Option.isSome_iff_exists.1 h1;have h2:=List.find?_some he';have h3:=List.mem_of_find?_eq_some he';rw[he',mu hst h3 he (by simpa using h2)]
 simp[execOp,ha.ev hx,Instr.entry,hget,MapKept.run_getObj_map hb,hfind]
theorem SO.nextPG (i:Nat)(hx:ev f x=some (pp r 0))(hi:s[i]?=some (eP r m es clk vis))(hmm:∀ w,At E g s w→w.heap[m]?=some (.map es clk))(hI:iT l es clk)(hv:kf l es vis vl) :
  SO P N E ⟨dst,.next x false,ty,pos,af,gd⟩ f g s fun u g' s'=>g=g' ∧
   ((u = .tuple #[.bool false]∧s=s'∧vl.Perm l)∨∃ e p,e∈es.toList∧p∈l∧e.key=vi p.1∧e.val=p.2∧kf l es (vis++[e]) (vl++[p])∧u = .tuple #[.bool true,vi p.1,p.2]∧s'=s.set i (eP r m es clk (vis++[e]))):=by
 refine SO.mono (SO.nextG i hx hi hmm hI.2 hv.ok) ?_;rintro u g' s' ⟨rfl,h⟩;refine⟨I,?_⟩
 rcases h with ⟨h1,h2,h3⟩ | ⟨e,h1,h2,h3,h4⟩
 ·exact .inl ⟨h1,h2,hv.all hI h3⟩
 ·have hp:i5 e∈l.map eC:=by rw[← hI.1]; exact List.mem_map.2 ⟨e,h1,rfl⟩
  obtain ⟨p,hp1,hp2⟩:=List.mem_map.1 hp;simp only[i5,eC,Prod.mk.injEq] at hp2;refine .inr ⟨e,p,h1,hp1,hp2.1.symm,hp2.2.symm,⟨⟨?_,?_⟩,?_⟩,by rw[h3,hp2.1,hp2.2],h4⟩
  ·intro a ha
   rcases List.mem_append.1 ha with h5 | h5
   ·exact hv.ok.sub a h5
   ·simp at h5; rw[h5]; exact h1
  ·rw[List.map_append,List.nodup_append];refine⟨hv.ok.nodup,by simp,fun a ha b hb hab=>?_⟩;simp at hb;rw[hab,hb] at ha;exact h2 ha
  ·rw[List.map_append,List.map_append,hv.eq];simp[i5,eC,hp2.1,hp2.2]
theorem SQ.entryPG {e:MapEntry}{p:Int×Value}(i:Nat)(hx:ev f x=some (pp r 0))(hi:s[i]?=some (eP r m es clk (vis++[e])))(hmm:∀ w,At E g s w→w.heap[m]?=some (.map es clk))(hI:iT l es clk)(he:e∈es.toList)(hk:e.key=vi p.1)(hv:e.val=p.2) :
  SQ P N E ⟨dst,.entry x,ty,pos,af,gd⟩ f g s (.tuple #[vi p.1,p.2]):=by
 have:=SQ.entryG (P:=P) (N:=N) (E:=E) (f:=f) (s:=s) (dst:=dst) (ty:=ty) (pos:=pos) (af:=af) (gd:=gd) i hx hi hmm hI.2 he;rw[hk,hv] at this;exact this
def yC (k:Int)(v:Value)(p:Int×Value):Int×Value:=if p.1=k then (k,v) else p
def unK:Value→Option Int
 | .int .i64 n=>some n
 | _=>none
theorem BA (a:Int):unK (vi a)=some a:=rfl
theorem BB {x:Value}{k:Int}(h:unK x=some k):x=vi k:=by
 unfold unK at h;split at h
 ·injection h with h
  rw[h]
 ·cases h
def nE (k:Int)(v:Value)(e:MapEntry):MapEntry:=if unK e.key=some k then { e with key:=vi k,val:=v } else e
theorem qx (k:Int)(v:Value)(e:MapEntry):(nE k v e).born=e.born:=by unfold nE; split <;> rfl
theorem mO (k:Int)(v:Value):∀ (vis:List MapEntry) (vl:List (Int×Value)),vis.map i5=vl.map eC→(vis.map (nE k v)).map i5=(vl.map (yC k v)).map eC
 | [],[],_=>rfl
 | e::vis,(a,u)::vl,h=>by
  simp only[List.map_cons,List.cons.injEq,i5,eC,Prod.mk.injEq] at h;obtain ⟨⟨h1,h2⟩,h3⟩:=h;have ih:=mO k v vis vl h3;simp only[List.map_cons,List.cons.injEq];refine⟨?_,ih⟩;unfold nE yC;by_cases hk:a=k
  ·subst hk;rw[if_pos (by rw[h1]; rfl),if_pos rfl];rfl
  ·have h4:¬ unK e.key=some k:=fun h5=>by
    rw[h1,BA] at h5;injection h5 with h6
    exact hk h6
   rw[if_neg h4,if_neg hk];simp[i5,eC,h1,h2]
 | [],_::_,h=>by simp at h
 | _::_,[],h=>by simp at h
theorem SO.mapUpdateX (j:Nat)(hT:MTy P t kt et z)(hx:ev f x=some (.map (some b)))(hy:ev f y=some (vi k))(hu:ev f u=some v)(hj:s[j]?=some (mx b es clk))(hI:iT l es clk)(hk:∃ u,dK l k=some u) :
  SO P N E ⟨dst,.mapUpdate t x y u,ty,pos,af,gd⟩ f g s fun _ g' s'=>g=g'∧∃ es',s'=s.set j (mx b es' clk)∧iT (eE l k v) es' clk∧∀ vis vl,kf l es vis vl→kf (eE l k v) es' (vis.map (nE k v)) (vl.map (yC k v)) :=
 SO.of_skip fun a w ha hw=>by
  have hb:w.heap[b]?=some (.map es clk):=yz j hj w hw;have hf:=gi k es.toList l 0 hI.1;have h1:=MapKept.run_findKey (w:=w) hT.key hf;have h2:=MapKept.run_checkKey (P:=P) (w:=w) hT.key (k:=vi k) rfl false 9999;have hlen:es.toList.length=l.length:=by have:=congrArg List.length hI.1; simpa using this
  rcases mr k l 0 with ⟨hn,hne⟩ | ⟨q,u0,hs,hq,hput⟩
  ·obtain ⟨u1,hu1⟩:=hk;unfold dK at hu1;rw[hn] at hu1;cases hu1
  ·have hql:q<es.toList.length:=by rw[hlen]; exact (List.getElem?_eq_some_iff.1 hq).1
   have hqs:q<es.size:=by simpa using hql
   have hkey:(es.toList[q]).key=vi k:=by
    have h3:=congrArg (·[q]?) hI.1;simp only[List.getElem?_map,hq,Option.map_some,gE hql,Option.some.injEq,i5,eC,Prod.mk.injEq] at h3;exact h3.1
   have hje:es[q]?=some es.toList[q]:=by simp at hql; simp[hql]
   have huniq:∀ i (hi:i<es.size),es[i].key=vi k→i=q:=fun i hi he=>by
    have h5:(es.toList.map (·.key))[i]'(by simpa using hi)=(es.toList.map (·.key))[q]'(by simpa using hqs):=by
     rw[List.getElem_map,List.getElem_map,hkey];simpa using he
    exact (List.getElem_inj hI.2.2.2).1 h5
   have hmod:(es.modify q fun e=>{ e with key:=vi k,val:=v })=es.map (nE k v):=by
    apply Array.ext (by simp);intro i hi1 hi2;have hi:i<es.size:=by simpa using hi1
    rw[Array.getElem_modify,Array.getElem_map];unfold nE;by_cases e:q=i
    ·subst e;have h6:es[q].key=vi k:=by simpa using hkey
     rw[if_pos rfl,if_pos (by rw[h6]; rfl)]
    ·rw[if_neg e,if_neg (fun h=>e (huniq i hi (BB h)).symm)]
   rw[hs,Nat.zero_add] at h1;have hfr:=hw.fresh _ (List.mem_of_getElem? hj) b rfl;obtain ⟨e1,e2⟩:=MapKept.heap_set (o':=.map (es.map (nE k v)) clk) hb;have h4:=MapKept.run_keyThatStays (P:=P) (w:=w) (d:=.int .i64) (k:=vi k) rfl;have hkey':∀ h:q<es.size,es[q].key=vi k:=fun h=>by simpa using hkey
   have hMI:iT (eE l k v) (es.map (nE k v)) clk:=by
    refine⟨?_,?_⟩
    ·rw[Array.toList_map,mO k v _ _ hI.1,hput v];congr 1;apply List.ext_getElem (by simp);intro i h5 h6;have h7:i<l.length:=by simpa using h5
     have h8:i<es.size:=by
      have:es.toList.length=es.size:=by simp
      omega
     have h9:es[i].key=vi l[i].1:=by
      have h3:=congrArg (·[i]?) hI.1;simp only[List.getElem?_map,gE h7,gE (show i<es.toList.length by omega),Option.map_some,Option.some.injEq,i5,eC,Prod.mk.injEq] at h3;simpa using h3.1
     rw[List.getElem_map,List.getElem_set];unfold yC;by_cases e:q=i
     ·subst e;have h10:l[q]=(k,u0):=(List.getElem?_eq_some_iff.1 hq).2;rw[if_pos rfl,if_pos (by rw[h10])]
     ·rw[if_neg e,if_neg (fun h=>e (huniq i h8 (by rw[h9,h])).symm)]
    ·rw[← hmod];exact stamped_modify hI.2 _ _ (fun _ _=>I) (fun e' _ he'=>by
      rw[hje] at he';injection he' with he'
      rw[← he',hkey])
   refine⟨{ w with heap:=w.heap.setIfInBounds b (.map (es.map (nE k v)) clk) },g,s.set j (mx b (es.map (nE k v)) clk),?_,?_,I,es.map (nE k v),I,hMI,fun vis vl hv=>?_⟩
   ·have hr:(Instr.mapUpdate t (.map (some b)) (vi k) v).run P w = .ok () { w with heap:=w.heap.setIfInBounds b (.map (es.map (nE k v)) clk) }:=by
     rw[← hmod];simp[Instr.mapUpdate,run_underlying hT.und,MapKept.run_getObj_map hb,h2,h1,hje,hkey',h4,MapKept.run_setObj_map _ hb]
    simp[execOp,ha.ev hx,ha.ev hy,ha.ev hu,hr]
   ·refine hw.turn hj I ⟨I,lR _⟩ I (by simp) (fun q _ hne=>e2 q (fun e=>hne (by simp[mx,pt,e]))) (by simpa [mx,pt] using e1) (fun b' hb'=>?_);simp only[mx,pt,Option.some.injEq] at hb';subst hb';exact⟨by simpa using hfr.2,.inl I⟩
   ·refine⟨⟨fun e he=>?_,?_⟩,mO k v _ _ hv.eq⟩
    ·obtain ⟨e0,he0,rfl⟩:=List.mem_map.1 he;rw[Array.toList_map];exact List.mem_map.2 ⟨e0,hv.ok.sub e0 he0,I⟩
    ·rw[List.map_map,show (fun e:MapEntry=>e.born) ∘ nE k v=fun e=>e.born from funext fun e=>qx k v e];exact hv.ok.nodup
end
end Go.Sy
namespace Go.Proofs.YtackilpikhkijaaGreatDoor
open _root_.Go.Proofs.Tryz _root_.Go.Proofs.YtackilpikhkijaaGreatDoor.Tryz
open Go Go.Sy Go.Pl Go.Proofs
def Bi (x y:Side):Bool:=decide (¬ pE y x<0)
def gU (l:List Side):List Side:=l.mergeSort Bi
theorem fq (l:List Side):(gU l).Perm l:=List.mergeSort_perm l Bi
theorem o0 (l:List Side):As (gU l):=by
 have h:=List.pairwise_mergeSort (le:=Bi) (fun a b c h1 h2=>by
  unfold Bi at *;rw[decide_eq_true_iff,gw] at *;omega) (fun a b=>by
  unfold Bi;rw[Bool.or_eq_true,decide_eq_true_iff,decide_eq_true_iff,gw,gw];omega) l
 refine List.Pairwise.imp ?_ h;intro a b h1;exact of_decide_eq_true h1
theorem su {l m:List Side}(hp:m.Perm l)(ha:As m):m=gU l:=oN ha (o0 l) (hp.trans (fq l).symm)
def ie (F:Cl→Cl)(A:List Cl)(ids:List Int):List Cl:=A.map fun y=>if y.id∈ids then F y else y
section
variable {F:Cl→Cl}(hF:∀ y,(F y).id=y.id)
include hF
theorem qP {ids:List Int}{id:Int}(hid:id ∉ ids){y:Cl}:∀ {A:List Cl},(A.map Cl.id).Nodup→aA A id=some y→dZ (ie F A ids) (F y)=ie F A (ids++[id])
 | [],_,hy=>by cases hy
 | c::A,hn,hy=>by
  rw[List.map_cons,List.nodup_cons] at hn;unfold aA at hy;rw[List.find?_cons] at hy;have hs:∀ i,ie F (c::A) i=(if c.id∈i then F c else c)::ie F A i:=fun _=>rfl;rw[hs,hs];by_cases h:c.id=id
  ·rw[decide_eq_true h] at hy;injection hy with hy
   subst hy;subst h;rw[if_neg hid,if_pos (by simp)];have e1:dZ (c::ie F A ids) (F c)=F c::ie F A ids:=by simp[dZ,hF]
   rw[e1];congr 1;unfold ie;refine List.map_congr_left fun x hx=>?_;have hne:x.id≠c.id:=fun he=>hn.1 (by rw[← he]; exact List.mem_map.2 ⟨x,hx,rfl⟩);by_cases h1:x.id∈ids
   ·rw[if_pos h1,if_pos (by simp[h1])]
   ·rw[if_neg h1,if_neg (by simp[h1,hne])]
  ·rw[decide_eq_false h] at hy;have hyid:y.id=id:=by simpa using List.find?_some hy
   have ih:=qP hid hn.2 hy;have h1:(if c.id∈ids then F c else c).id=c.id:=by split <;> simp[hF]
   have e1:∀ (d:Cl) (L:List Cl),d.id=c.id→dZ (d::L) (F y)=d::dZ L (F y):=fun d L hd=>by
    have:¬ (F y).id=d.id:=by rw[hd,hF,hyid]; exact fun h'=>h h'.symm
    simp[dZ,this]
   rw[e1 _ _ h1,ih];congr 1;by_cases h2:c.id∈ids
   ·rw[if_pos h2,if_pos (by simp[h2])]
   ·rw[if_neg h2,if_neg (by simp[h2,h])]
end
theorem xF (F:Cl→Cl)(A:List Cl):ie F A []=A:=by simp[ie]
theorem xJ {F:Cl→Cl}{A:List Cl}{ids:List Int}(h:∀ c∈A,c.id∈ids):ie F A ids=A.map F:=List.map_congr_left fun c hc=>by rw[if_pos (h c hc)]
theorem xG {F:Cl→Cl}{A:List Cl}{ids:List Int}{c:Cl}(hF:∀ y,(F y).id=y.id)(h:c∈ie F A ids)(hc:c.id ∉ ids):c∈A:=by
 unfold ie at h;obtain ⟨y,hy,he⟩:=List.mem_map.1 h;split at he
 ·rename_i h1;rw[← he,hF] at hc;exact absurd h1 hc
 ·rw[← he];exact hy
theorem xH {F:Cl→Cl}(hF:∀ y,(F y).id=y.id)(A:List Cl)(ids:List Int):(ie F A ids).map Cl.id=A.map Cl.id:=by
 unfold ie;rw[List.map_map];refine List.map_congr_left fun c _=>?_;simp only[Function.comp];split
 ·exact hF c
 ·rfl
def gW (ps:List Pr):List Int:=ps.flatMap fun p=>[p.1,p.2]
theorem m3 (ps:List Pr)(p:Pr):gW (ps++[p])=gW ps++[p.1,p.2]:=by
 unfold gW;rw[List.flatMap_append];rfl
def ln (ps:List Pr):Bool:=decide (¬ (gW ps).Nodup)
theorem yl (ps:List Pr)(p:Pr):ln (ps++[p])=(ln ps||decide (p.1∈gW ps)||decide (p.2∈gW ps)||decide (p.1=p.2)):=by
 unfold ln;rw[m3,Bool.eq_iff_iff];simp only[Bool.or_eq_true,decide_eq_true_iff];have h:(gW ps++[p.1,p.2]).Nodup↔(gW ps).Nodup∧p.1 ∉ gW ps∧p.2 ∉ gW ps∧p.1≠p.2:=by
  rw[List.nodup_append];simp only[List.nodup_cons,List.mem_singleton,List.not_mem_nil,not_false_eq_true,List.nodup_nil,and_true,List.mem_cons,or_false];constructor
  ·rintro ⟨h1,h2,h3⟩;exact⟨h1,fun hm=>h3 _ hm _ (.inl I) I,fun hm=>h3 _ hm _ (.inr I) I,h2⟩
  ·rintro ⟨h1,h2,h3,h4⟩;refine⟨h1,h4,fun a ha b hb=>?_⟩
   rcases hb with rfl | rfl
   ·exact fun e=>h2 (e ▸ ha)
   ·exact fun e=>h3 (e ▸ ha)
 rw[h];by_cases h1:(gW ps).Nodup <;> by_cases h2:p.1∈gW ps <;> by_cases h3:p.2∈gW ps <;> by_cases h4:p.1=p.2 <;> simp[h1,h2,h3,h4]
def swP (p:Pr):Int×Value:=(p.2,vi p.1)
def byF (ps:List Pr)(k:Int):Option Int:=(ps.find? fun p=>decide (p.2=k)).map Prod.fst
theorem vg {ps:List Pr}{p:Pr}(h:p.2 ∉ gW ps):∀ q∈ps.map swP,q.1≠p.2:=fun q hq e=>by
 obtain ⟨r,hr,rfl⟩:=List.mem_map.1 hq;refine h ?_;unfold gW;rw[List.mem_flatMap];refine⟨r,hr,?_⟩;have e2:r.2=p.2:=e;simp[e2]
theorem sE (ps:List Pr)(k:Int):dK (ps.map swP) k=(byF ps k).map vi:=by
 induction ps with
 | nil=>rfl
 | cons p ps ih =>
  unfold byF;rw[List.map_cons,List.find?_cons];have hc:swP p=(p.2,vi p.1):=rfl;rw[hc,cG];by_cases h:k=p.2
  ·rw[if_pos h,decide_eq_true h.symm];rfl
  ·rw[if_neg h,decide_eq_false (fun e=>h e.symm),ih];rfl
theorem kI {ps:List Pr}(h:(gW ps).Nodup):(ps.map Prod.snd).Nodup:=by
 induction ps with
 | nil=>simp
 | cons p ps ih =>
  have hc:gW (p::ps)=p.1::p.2::gW ps:=rfl;rw[hc,List.nodup_cons,List.nodup_cons] at h;rw[List.map_cons,List.nodup_cons];refine⟨fun hm=>h.2.1 ?_,ih h.2.2⟩;obtain ⟨q,hq,e⟩:=List.mem_map.1 hm;unfold gW;rw[List.mem_flatMap];exact⟨q,hq,by simp[e]⟩
theorem mQ {l:List (Int×Value)}{es:Array MapEntry}{clk:Nat}{vis:List MapEntry}{vl:List (Int×Value)}(h:kf l es vis vl)(hm:iT l es clk):(vl.map Prod.fst).Nodup:=by
 have h1:(vis.map (·.key)).Nodup:=by
  rw[List.Nodup,List.pairwise_map];have h2:vis.Pairwise fun a b=>a.born≠b.born:=by
   have:=h.ok.nodup;rwa [List.Nodup,List.pairwise_map] at this
  refine List.Pairwise.imp_of_mem ?_ h2;intro a b ha hb hab he;have hk:=hm.2.2.2;obtain ⟨i,hi,rfl⟩:=List.getElem_of_mem (h.ok.sub a ha);obtain ⟨j,hj,rfl⟩:=List.getElem_of_mem (h.ok.sub b hb);have h3:(es.toList.map (·.key))[i]'(by simpa using hi)=(es.toList.map (·.key))[j]'(by simpa using hj):=by rw[List.getElem_map,List.getElem_map]; exact he
  have h4:=(List.getElem_inj hk).1 h3;subst h4;exact hab I
 have h2:vis.map (·.key)=(vl.map Prod.fst).map vi:=by
  have h3:=congrArg (List.map Prod.fst) h.eq;rw[List.map_map,List.map_map] at h3;rw[List.map_map];exact h3
 rw[h2] at h1;exact List.Pairwise.of_map vi (fun a b hab hne=>hab (by rw[hne])) h1
def yE (f:Int→Option Int)(c:Cl):Cl:=⟨c.id,c.dim,gU (c.sides.map (dQ f))⟩
def fg (A:List Cl)(id:Int):Int:=((aA A id).getD bA).dim
def qk (A:List Cl)(id:Int):List Side:=((aA A id).getD bA).sides
def iq (A:List Cl)(ps:List Pr)(p:Pr):Bool:=decide (gU ((qk A p.1).map (dQ (byF ps)))=gU ((qk A p.2).map (dQ (byF ps))))
def dw (A:List Cl)(e:Ed):Int :=
 if e.pairs.all (fun p=>(aA A p.1).isSome&&(aA A p.2).isSome) then
  if ln e.pairs then 54 else if e.pairs.any (fun p=>decide (fg A p.1≠fg A p.2)) then 21 else if e.pairs.all (iq A e.pairs) then 0 else 33
 else 30
def gD (A:List Cl)(ks:List Int):List Cl:=A.filter fun c=>!decide (c.id∈ks)
def ep (A:List Cl)(e:Ed):List Cl:=(gD A (e.pairs.map Prod.snd)).map (yE (byF e.pairs))
def gK (e:Ed)(k:Int):List Tm:=match byF e.pairs k with
 | some t=>[(t,1)]
 | none=>[(k,1)]
theorem kw {A:List Cl}(hn:(A.map Cl.id).Nodup)(ks:List Int)(k:Int):nP (gD A ks) k=gD A (ks++[k]):=by
 have h1:((gD A ks).map Cl.id).Nodup:=(List.filter_sublist.map Cl.id).nodup hn;rw[ns k h1];unfold gD;rw[List.filter_filter];refine List.filter_congr fun c _=>?_;by_cases h2:c.id∈ks <;> by_cases h3:c.id=k <;> simp[h2,h3]
set_option maxRecDepth 100000
set_option maxHeartbeats 8000000
theorem zq (r m:Nat)(es es':Array MapEntry)(clk:Nat)(vis:List MapEntry)(k:Int)(v:Value):eP r m es clk (vis.map (nE k v))=eP r m es' clk vis:=by
 unfold eP;rw[List.map_map,show (fun e:MapEntry=>e.born) ∘ nE k v=fun e=>e.born from funext fun e=>qx k v e]
theorem wU (k:Int)(v:Value)(vl:List (Int×Value)):(vl.map (yC k v)).map Prod.fst=vl.map Prod.fst:=by
 rw[List.map_map];refine List.map_congr_left fun p _=>?_;simp only[Function.comp];unfold yC;split
 ·rename_i h;exact h.symm
 ·rfl
theorem AU (x:Ent)(L R s:Own):(x::(L++(R++s))).Perm (L++((R++[x])++s)):=by
 have h:=(List.perm_middle (a:=x) (l₁:=L++R) (l₂:=s)).symm;simpa [List.append_assoc] using h
theorem AL {sl:List (Int×Value)}{L:List Int}(h:oa sl fun k=>decide (k∈L))(a b:Int):oa (eE (eE sl a (vb true)) b (vb true)) fun k=>decide (k∈L++[a,b]):=((h.put a).put b).congr fun k=>by
 by_cases h1:k=a <;> by_cases h2:k=b <;> by_cases h3:k∈L <;> simp[h1,h2,h3]
theorem BS {ps:List Pr}(h:(ps.map Prod.snd).Nodup){q:Pr}(hq:q∈ps):byF ps q.2=some q.1:=by
 unfold byF;induction ps with
 | nil=>simp at hq
 | cons p ps ih =>
  rw[List.map_cons,List.nodup_cons] at h;rw[List.find?_cons]
  rcases List.mem_cons.1 hq with rfl | hq
  ·simp
  ·have hne:¬ p.2=q.2:=fun e=>h.1 (by rw[e]; exact List.mem_map.2 ⟨q,hq,rfl⟩);rw[decide_eq_false hne];exact ih h.2 hq
theorem zM {ps:List Pr}{k:Int}(h:k ∉ ps.map Prod.snd):byF ps k=none:=by
 unfold byF;rw[List.find?_eq_none.2 fun p hp=>by
  have:p.2≠k:=fun e=>h (by rw[← e]; exact List.mem_map.2 ⟨p,hp,rfl⟩);simpa using this]
 rfl
theorem xR {e:Ed}{ts:Ts}(hk:∀ k,k∈ts.map Prod.fst↔k∈e.pairs.map Prod.snd)(hn:(e.pairs.map Prod.snd).Nodup)(ht:∀ t∈ts,∃ q∈e.pairs,q.2=t.1∧t.2.2=[(q.1,1)])(k:Int):qw ts k=gK e k:=by
 unfold qw gK;cases hf:ts.find? fun t=>decide (t.1=k) with
 | some t =>
  have h1:=List.mem_of_find?_eq_some hf;have h2:t.1=k:=by simpa using List.find?_some hf
  obtain ⟨q,hq,h3,h4⟩:=ht t h1;have h5:=BS hn hq;rw[h3,h2] at h5;rw[h5];dsimp only;rw[h4];rfl
 | none =>
  have h1:k ∉ ts.map Prod.fst:=fun hm=>by
   obtain ⟨t,ht1,ht2⟩:=List.mem_map.1 hm;have:=List.find?_eq_none.1 hf t ht1;simp[ht2] at this
  rw[zM (fun hm=>h1 ((hk k).2 hm))]
theorem xy (ts:Ts)(t:Int×Value×List Tm):gG (ts++[t])=gG ts++[(t.1,t.2.1)]:=by unfold gG; rw[List.map_append]; rfl
theorem vh (ts:Ts)(t:Int×Value×List Tm):di (ts++[t])=di ts++[rowA bV 77 t.2.1 t.2.2]:=by unfold di; rw[List.map_append]; rfl
theorem xz (ts:Ts):(gG ts).map Prod.fst=ts.map Prod.fst:=by unfold gG; rw[List.map_map]; rfl
theorem AS (rs:List Rc):(rs.map ak).map Prod.fst=rs.map Rc.id:=by rw[List.map_map]; rfl
theorem qd (E:World)(g:PH)(s:Own)(bx mb ms:Nat)(u v:Value)(e:Ed)(A:List Cl)(rs:List Rc)(hf:be A)(hn:(A.map Cl.id).Nodup)(hall:aC (aw g) A rs)(he:EdR g v e)(hpl:e.pairs.length<1099511627776) :
  Ctr Tryz.prog E 81 #[pp bx 0,v] g (edP bx u mb ms false::mp mb (rs.map ak)::mp ms []::s) (fun r g' s'=>Le g g'∧r=vi (dw A e) ∧
   (if dw A e=0 then ∃ rs' ts,aC (aw g') (ep A e) rs'∧yw ts∧(ts.map Prod.fst).Nodup∧(∀ k,qw ts k=gK e k)∧s'=edP bx u mb ms false::mp mb (rs'.map ak)::mp ms (gG ts)::(di ts++s) else ∃ h,s'=h++s)):=by
 obtain ⟨sv,pv,rfl,hsv,hpv⟩:=he;have hsvf:=SlA.form hsv;have hpvf:=SlA.form hpv;obtain ⟨sp,sc,rfl⟩:=hsvf;obtain ⟨qp,qc,rfl⟩:=hpvf;have hfnd:∀ {gg:PH} {id:Int},aC (aw gg) A rs→(aA A id).isSome=true→∃ cc rr,aA A id=some cc∧cc∈A∧dK (rs.map ak) id=some (rcv rr)∧aw gg cc rr:=fun {gg id} hal h=>by
  rcases fl (fun _ _ h=>h.1) hal id with ⟨h1,_⟩ | ⟨cc,rr,h1,h2,h3⟩
  ·unfold aA at h; rw[h1] at h; cases h
  ·exact⟨cc,rr,h1,List.mem_of_find?_eq_some h1,h2,h3⟩
 refine Ctr.of (args:=[pp bx 0,.agg #[vi e.kind,vi e.cell,vi e.dim,vi e.new,vi e.other,.slice sp e.sides.length sc,.slice qp e.pairs.length qc]]) func81 I ntmps81 (bE I) ?_;refine rZ (bW (bO I) fun b3=>?_);refine aT I (rZ (lW (SO.mkMap) ?_));rintro _ _ _ ⟨b17,rfl,rfl,rfl⟩;refine lW (SO.mkMap) ?_;rintro _ _ _ ⟨b18,rfl,rfl,rfl⟩;refine lA I (aT I (rZ (lA I (aT I (sQ (rZ (lU (fA aK I i7 I) (lK (qL (v:=.slice qp e.pairs.length qc) kY I (cO 2 I I)) (lU (eN i8 I) (lM I (tZ (bK ?_))))))))))));refine oP (ι:=Nat×List (Int×Value)×List (Int×Value)) (fun i=>[(0,pp bx 0),(3,pp b3 0),(5,.map (some b17)),(6,.map (some b18)),(7,vb (ln (e.pairs.take i.1))),(8,vb ((e.pairs.take i.1).any fun p=>decide (fg A p.1≠fg A p.2))),(20,.slice qp e.pairs.length qc),(21,vi e.pairs.length),(22,vi i.1)]) (fun _=>g)
  (fun i=>mp b18 i.2.1::mp b17 i.2.2::pt b3 (.cells (edV e (.slice sp e.sides.length sc) (.slice qp e.pairs.length qc)) 35 (0,0))::edP bx u mb ms false::mp mb (rs.map ak)::mp ms []::s)
  (fun i=>i.1≤e.pairs.length∧oa i.2.1 (fun k=>decide (k∈gW (e.pairs.take i.1)))∧(ln (e.pairs.take i.1)=false→i.2.2=(e.pairs.take i.1).map swP)∧(∀ p∈e.pairs.take i.1,(aA A p.1).isSome=true∧(aA A p.2).isSome=true)) (fun i=>e.pairs.length - i.1) (0,[],[])
  ⟨rfl,rfl,rfl,rfl,(by rw[List.take_zero]; rfl),rfl,rfl,rfl,rfl,trivial⟩ rfl rfl ⟨Nat.zero_le _,oa.nil.congr (fun k=>by simp[gW]),fun _=>rfl,fun p hp=>by simp at hp⟩ ?_
 rintro ⟨k,sl,bl⟩ ⟨hk,hsl,hbl,hfd⟩;dsimp only at hk hsl hbl hfd ⊢;refine rZ (lU (lS I I) (tZ (sQ ?_)));refine iP I (fun hlt=>?_) (fun hlt=>?_)
 ·have hkl:k<e.pairs.length:=oM;have hb1:=SlA.based hpv oM;have hgk:e.pairs[((k:Nat):Int).toNat]?=some e.pairs[k]:=gE hkl;have htk:e.pairs.take (k+1)=e.pairs.take k++[e.pairs[k]]:=tS hkl;have hd1:=yl (e.pairs.take k) e.pairs[k];have hal1:=m3 (e.pairs.take k) e.pairs[k];have hnew:=vg (ps:=e.pairs.take k) (p:=e.pairs[k]);have hany:(e.pairs.take (k+1)).any (fun p=>decide (fg A p.1≠fg A p.2))=((e.pairs.take k).any (fun p=>decide (fg A p.1≠fg A p.2))||decide (fg A e.pairs[k].1≠fg A e.pairs[k].2)):=by rw[htk,List.any_append]; simp
  have hnone:¬ ((aA A e.pairs[k].1).isSome=true∧(aA A e.pairs[k].2).isSome=true)→dw A e=30:=fun h=>by
   unfold dw;rw[if_neg];intro h2;have h3:=List.all_eq_true.1 h2 _ (gM hkl);rw[Bool.and_eq_true] at h3;exact h h3
  rw[← htk] at hd1 hal1;generalize e.pairs[k]=x at *;obtain ⟨x1,x2⟩:=x;dsimp only at hd1 hal1 hany hnone hnew;cases hx1:(aA A x1).isSome with
  | false =>
   rw[hnone (by rw[hx1]; rintro ⟨h,_⟩; cases h)];refine kP (tN (sQ (bK (rZ (lU (iA i8 iJ I I hb1 oM sL) (lK (eA isAgg60 iJ I (SlA.rd hpv) hgk) (bW (aL zeroValue60) fun b10=>?_)))))));refine oZ (sK 0 iJ I I I I I sB) ?_;refine tZ (sQ (sW I (lU (iB gr zT3 I I dC dC) (lK (qL (v:=vi x1) iT3 I (cO 0 I I)) (lW (cL call121 I (bM E g _ bx mb ms _ false x1 _ (fun _ _ h=>h.1) A rs hall 4 5 I I)) ?_)))));rintro _ _ _ ⟨rfl,rfl,rfl⟩;rw[hx1];refine lU (SU.not I) (lM I (lZ I I I (lZ I I I (lZ I I I (lZ I I I (lZ I I I (lU (wT I I) (tZ (SC.condT I (rZ (aT I (rE (tR (bR (tR (tR (bR (tR ?_))))))))))))))))));exact ST.ret1 (.inl I) results81 I ⟨Le.refl _,I,by rw[if_neg dC]; exact⟨[_,_,_,_,_,_,_],I⟩⟩
  | true =>
  cases hx2:(aA A x2).isSome with
  | false =>
   rw[hnone (by rw[hx2]; rintro ⟨_,h⟩; cases h)];refine kP (tN (sQ (bK (rZ (lU (iA i8 iJ I I hb1 oM sL) (lK (eA isAgg60 iJ I (SlA.rd hpv) hgk) (bW (aL zeroValue60) fun b10=>?_)))))));refine oZ (sK 0 iJ I I I I I sB) ?_;refine tZ (sQ (sW I (lU (iB gr zT3 I I dC dC) (lK (qL (v:=vi x1) iT3 I (cO 0 I I)) (lW (cL call121 I (bM E g _ bx mb ms _ false x1 _ (fun _ _ h=>h.1) A rs hall 4 5 I I)) ?_)))));rintro _ _ _ ⟨rfl,rfl,rfl⟩;rw[hx1];refine lU (SU.not I) (lM I (lY I I I (mV I) (lY I I I (iB gr zT3 I I dC dC) (SL.gq (gT I I I dC) (qL (v:=vi x2) iT3 I (cO 0 I I)) dC (SL.go (gT I I I dC) (cL call121 I (bM E g _ bx mb ms _ false x2 _ (fun _ _ h=>h.1) A rs hall 4 5 I I)) dC ?_)))));rintro _ _ _ ⟨rfl,rfl,rfl⟩;rw[hx2];refine lY I I I (SU.not I) (lU (wF I I) (tZ (SC.condT I (rZ (aT I (rE (tR (bR (tR (tR (bR (tR ?_))))))))))));exact ST.ret1 (.inl I) results81 I ⟨Le.refl _,I,by rw[if_neg dC]; exact⟨[_,_,_,_,_,_,_],I⟩⟩
  | true =>
  obtain ⟨c1,r1,hc1,hcm1,hg1,hr1⟩:=hfnd hall hx1;obtain ⟨c2,r2,hc2,hcm2,hg2,hr2⟩:=hfnd hall hx2;have hdm1:fg A x1=c1.dim:=by unfold fg; rw[hc1]; rfl
  have hdm2:fg A x2=c2.dim:=by unfold fg; rw[hc2]; rfl
  rw[hdm1,hdm2] at hany;obtain ⟨ri1,rd1,rp1,rn1,rk1⟩:=r1;obtain ⟨ri2,rd2,rp2,rn2,rk2⟩:=r2;obtain ⟨-,f1,-⟩:=hr1;obtain ⟨-,f2,-⟩:=hr2;dsimp only at f1 f2;subst f1 f2;refine kP (tN (sQ (bK (rZ (lU (iA i8 iJ I I hb1 oM sL) (lK (eA isAgg60 iJ I (SlA.rd hpv) hgk) (bW (aL zeroValue60) fun b10=>?_)))))));refine oZ (sK 0 iJ I I I I I sB) ?_;refine tZ (sQ (sW I (lU (iB gr zT3 I I dC dC) (lK (qL (v:=vi x1) iT3 I (cO 0 I I)) (lW (cL call121 I (bM E g _ bx mb ms _ false x1 _ (fun _ _ h=>h.1) A rs hall 4 5 I I)) ?_)))));rintro _ _ _ ⟨rfl,rfl,rfl⟩;rw[hx1];refine lU (SU.not I) (lM I (lY I I I (mV I) (lY I I I (iB gr zT3 I I dC dC) (SL.gq (gT I I I dC) (qL (v:=vi x2) iT3 I (cO 0 I I)) dC (SL.go (gT I I I dC) (cL call121 I (bM E g _ bx mb ms _ false x2 _ (fun _ _ h=>h.1) A rs hall 4 5 I I)) dC ?_)))));rintro _ _ _ ⟨rfl,rfl,rfl⟩;rw[hx2];refine lY I I I (SU.not I) (lU (wF I I) (tZ (SC.condF I (kP (tN ?_)))));refine SC.cut (ι:=Unit) (fun _=>[(0,pp bx 0),(3,pp b3 0),(5,.map (some b17)),(6,.map (some b18)),(7,vb (ln (e.pairs.take (k+1)))),(8,vb ((e.pairs.take k).any fun p=>decide (fg A p.1≠fg A p.2))),(10,pp b10 0),(20,.slice qp e.pairs.length qc),(21,vi e.pairs.length),(22,vi k)]) (fun _=>g)
   (fun _=>pt b10 (.cells #[vi x1,vi x2] 60 (0,0))::mp b18 sl::mp b17 bl::pt b3 (.cells (edV e (.slice sp e.sides.length sc) (.slice qp e.pairs.length qc)) 35 (0,0))::edP bx u mb ms false::mp mb (rs.map ak)::mp ms []::s) (fun _=>True) ?_ ?_
  ·rw[hd1];cases hd0:ln (e.pairs.take k) with
   | true =>
    refine rG (lM I (lM I (lZ I I I (lZ I I I (lZ I I I (lZ I I I (lU (wT I I) (lM I (lZ I I I (lZ I I I (lZ I I I (lZ I I I (lU (wT I I) (lM I (lZ I I I (lZ I I I (lZ I I I (lZ I I I (lZ I I I (lU (wT I I) (lA I (nL ?_))))))))))))))))))))));exact ST.mid () sB I I trivial
   | false =>
   by_cases hm1:x1∈gW (e.pairs.take k)
   ·refine rG (lM I (lM I (lY I I I (mV I) (lY I I I (iB gr zT3 I I dC dC) (SL.gq (gT I I I dC) (qL (v:=vi x1) iT3 I (cO 0 I I)) dC (SL.gq (gT I I I dC) (SQ.eq (v':=vb true) (SQ.lookup mty164 I I (cw.own 1 I)) ((hsl.get x1).trans (congrArg vb (decide_eq_true hm1)))) dC (lU (wF I I) (lM I (lZ I I I (lZ I I I (lZ I I I (lZ I I I (lU (wT I I) (lM I (lZ I I I (lZ I I I (lZ I I I (lZ I I I (lZ I I I (lU (wT I I) (lA I (nL ?_))))))))))))))))))))));exact ST.mid () ⟨rfl,rfl,rfl,rfl,(by rw[decide_eq_true hm1]; rfl),rfl,rfl,rfl,rfl,rfl,trivial⟩ rfl rfl trivial
   by_cases hm2:x2∈gW (e.pairs.take k)
   ·refine rG (lM I (lM I (lY I I I (mV I) (lY I I I (iB gr zT3 I I dC dC) (SL.gq (gT I I I dC) (qL (v:=vi x1) iT3 I (cO 0 I I)) dC (SL.gq (gT I I I dC) (SQ.eq (v':=vb false) (SQ.lookup mty164 I I (cw.own 1 I)) ((hsl.get x1).trans (congrArg vb (decide_eq_false hm1)))) dC (lU (wF I I) (lM I (lY I I I (mV I) (lY I I I (iB gr zT3 I I dC dC) (SL.gq (gT I I I dC) (qL (v:=vi x2) iT3 I (cO 0 I I)) dC (SL.gq (gT I I I dC) (SQ.eq (v':=vb true) (SQ.lookup mty164 I I (cw.own 1 I)) ((hsl.get x2).trans (congrArg vb (decide_eq_true hm2)))) dC (lU (wF I I) (lM I (lZ I I I (lZ I I I (lZ I I I (lZ I I I (lZ I I I (lU (wT I I) (lA I (nL ?_))))))))))))))))))))));exact ST.mid () ⟨rfl,rfl,rfl,rfl,(by rw[decide_eq_false hm1,decide_eq_true hm2]; rfl),rfl,rfl,rfl,rfl,rfl,trivial⟩ rfl rfl trivial
   ·refine rG (lM I (lM I (lY I I I (mV I) (lY I I I (iB gr zT3 I I dC dC) (SL.gq (gT I I I dC) (qL (v:=vi x1) iT3 I (cO 0 I I)) dC (SL.gq (gT I I I dC) (SQ.eq (v':=vb false) (SQ.lookup mty164 I I (cw.own 1 I)) ((hsl.get x1).trans (congrArg vb (decide_eq_false hm1)))) dC (lU (wF I I) (lM I (lY I I I (mV I) (lY I I I (iB gr zT3 I I dC dC) (SL.gq (gT I I I dC) (qL (v:=vi x2) iT3 I (cO 0 I I)) dC (SL.gq (gT I I I dC) (SQ.eq (v':=vb false) (SQ.lookup mty164 I I (cw.own 1 I)) ((hsl.get x2).trans (congrArg vb (decide_eq_false hm2)))) dC (lU (wF I I) (lM I (lY I I I (iB gr zT3 I I dC dC) (SL.gq (gT I I I dC) (qL (v:=vi x1) iT3 I (cO 0 I I)) dC (lY I I I (iB gr zT3 I I dC dC) (SL.gq (gT I I I dC) (qL (v:=vi x2) iT3 I (cO 0 I I)) dC (lY I I I (eQ I I) (lU (wF I I) (lA I (nL ?_))))))))))))))))))))));exact ST.mid () ⟨rfl,rfl,rfl,rfl,(by rw[decide_eq_false hm1,decide_eq_false hm2]; rfl),rfl,rfl,rfl,rfl,rfl,trivial⟩ rfl rfl trivial
  rintro _ -;try dsimp only
  refine SC.cut (ι:=Unit) (fun _=>[(0,pp bx 0),(3,pp b3 0),(5,.map (some b17)),(6,.map (some b18)),(7,vb (ln (e.pairs.take (k+1)))),(8,vb ((e.pairs.take (k+1)).any fun p=>decide (fg A p.1≠fg A p.2))),(10,pp b10 0),(20,.slice qp e.pairs.length qc),(21,vi e.pairs.length),(22,vi k)]) (fun _=>g)
   (fun _=>pt b10 (.cells #[vi x1,vi x2] 60 (0,0))::mp b18 sl::mp b17 bl::pt b3 (.cells (edV e (.slice sp e.sides.length sc) (.slice qp e.pairs.length qc)) 35 (0,0))::edP bx u mb ms false::mp mb (rs.map ak)::mp ms []::s) (fun _=>True) ?_ ?_
  ·rw[hany];generalize (e.pairs.take k).any (fun p=>decide (fg A p.1≠fg A p.2))=dm;cases dm with
   | true =>
    refine dW [] [(0,2),(1,2),(2,2),(3,2),(4,2),(5,1),(6,2),(7,1),(8,1),(9,2),(10,2),(11,2),(12,2),(13,1),(14,2),(15,1),(16,1),(17,2),(18,2),(19,2),(20,2)] Tryz.mixed kR ?_;refine pU I (mV I) (pU I (mV I) (fP I (gZ I I I dC) dC (fP I (gZ I I I dC) dC (fP I (gZ I I I dC) dC (SP.off1 I (gZ I I I dC) dC (fP I (gZ I I I dC) dC (SP.off1 I (gZ I I I dC) dC (SP.off1 I (gZ I I I dC) dC (fP I (gZ I I I dC) dC (fP I (gZ I I I dC) dC (fP I (gZ I I I dC) dC (fP I (gZ I I I dC) dC (SP.off1 I (gZ I I I dC) dC (fP I (gZ I I I dC) dC (SP.off1 I (gZ I I I dC) dC (SP.off1 I (gZ I I I dC) dC (fP I (gZ I I I dC) dC (fP I (gZ I I I dC) dC (pU I (wT I I) (pU I (aS I) (pN ?_)))))))))))))))))))));exact ST.mid () sB I I trivial
   | false =>
    refine dW [] [(0,2),(1,2),(2,2),(3,2),(4,2),(5,1),(6,2),(7,1),(8,1),(9,2),(10,2),(11,2),(12,2),(13,1),(14,2),(15,1),(16,1),(17,2),(18,2),(19,2),(20,2)] Tryz.mixed kR ?_;refine pU rfl (mV rfl) (pU rfl (mV rfl) (SP.gu rfl (gT rfl rfl rfl dC) (mV rfl) dC (SP.gu rfl (gT rfl rfl rfl dC) (nC rfl) dC (SP.gu rfl (gT rfl rfl rfl dC) (fA cX rfl dX rfl) dC (SP.gq rfl (gT rfl rfl rfl dC) (qL (v:=.map (some mb)) dY rfl (cO 4 rfl rfl)) dC (SP.gu rfl (gT rfl rfl rfl dC) (iB gr zT3 rfl rfl dC dC) dC (SP.gq rfl (gT rfl rfl rfl dC) (qL (v:=vi x1) iT3 rfl (cO 0 rfl rfl)) dC (SP.gq rfl (gT rfl rfl rfl dC) (SQ.eq (v':=.agg #[vi ri1,vi c1.dim,.slice rp1 rn1 rk1]) (SQ.lookup mty104 rfl rfl (cw.own 5 rfl)) (by rw[hg1]; rfl)) dC ?_))))))));refine SP.gu rfl (gT rfl rfl rfl dC) (SU.field aq rfl iT3 rfl rfl) dC (SP.gu rfl (gT rfl rfl rfl dC) (mV rfl) dC (SP.gu rfl (gT rfl rfl rfl dC) (nC rfl) dC (SP.gu rfl (gT rfl rfl rfl dC) (fA cX rfl dX rfl) dC (SP.gq rfl (gT rfl rfl rfl dC) (qL (v:=.map (some mb)) dY rfl (cO 4 rfl rfl)) dC (SP.gu rfl (gT rfl rfl rfl dC) (iB gr zT3 rfl rfl dC dC) dC (SP.gq rfl (gT rfl rfl rfl dC) (qL (v:=vi x2) iT3 rfl (cO 0 rfl rfl)) dC (SP.gq rfl (gT rfl rfl rfl dC) (SQ.eq (v':=.agg #[vi ri2,vi c2.dim,.slice rp2 rn2 rk2]) (SQ.lookup mty104 rfl rfl (cw.own 5 rfl)) (by rw[hg2]; rfl)) dC ?_)))))));refine SP.gu I (gT I I I dC) (SU.field aq I iT3 I I) dC (SP.gu I (gT I I I dC) (nQ I I) dC (pU I (wF I I) (pU I (aS I) (pN ?_))));exact ST.mid () sB I I trivial
  rintro _ -;try dsimp only
  refine SC.drawT 1 [] [(0,2),(1,2),(2,1),(3,2),(4,2),(5,1),(6,2),(7,2),(8,1),(9,2),(10,1),(11,0),(12,0),(13,0)] Tryz.mixed kR ?_;refine pU rfl (mV rfl) (pU rfl (iB gr zT3 rfl rfl dC dC) (pK rfl (qL (v:=vi x1) iT3 rfl (cO 0 rfl rfl)) (pU rfl (mV rfl) (pU rfl (iB gr zT3 rfl rfl dC dC) (pK rfl (qL (v:=vi x2) iT3 rfl (cO 0 rfl rfl)) (pU rfl (mV rfl) (pU rfl (iB gr zT3 rfl rfl dC dC) (pK rfl (qL (v:=vi x2) iT3 rfl (cO 0 rfl rfl)) (pU rfl (iB gr zT3 rfl rfl dC dC) (pK rfl (qL (v:=vi x1) iT3 rfl (cO 0 rfl rfl)) (SP.on rfl (SO.mapUpdate 1 mty164 rfl rfl rfl rfl) (.inr (by rintro _ _ _ ⟨rfl,rfl⟩; exact⟨by exact Le.refl _,(by exact fI _ _ _ _)⟩)) ?_)))))))))));rintro _ _ _ ⟨rfl,rfl⟩;refine SP.on rfl (SO.mapUpdate 1 mty164 rfl rfl rfl rfl) (.inr (by rintro _ _ _ ⟨rfl,rfl⟩; exact⟨by exact Le.refl _,(by exact .cons_cons _ (List.nil_sublist _))⟩)) ?_;rintro _ _ _ ⟨rfl,rfl⟩;refine SP.on rfl (SO.mapUpdate 2 mty163 rfl rfl rfl rfl) (.inr (by rintro _ _ _ ⟨rfl,rfl⟩; exact⟨by exact Le.refl _,(by exact .cons_cons _ (List.nil_sublist _))⟩)) ?_;rintro _ _ _ ⟨rfl,rfl⟩;refine pN (bN (tN (rG (lU (aD I I oM) (lM I (nL (dR (.cons _ (.refl _)) ?_)))))));exact gA (k+1,eE (eE sl x1 (vb true)) x2 (vb true),eE bl x2 (vi x1)) sB I I ⟨by dsimp only; omega,by dsimp only; rw[hal1]; exact AL hsl x1 x2,fun hd=>by
   dsimp only at hd ⊢;rw[hd1,Bool.or_eq_false_iff,Bool.or_eq_false_iff,Bool.or_eq_false_iff,decide_eq_false_iff_not,decide_eq_false_iff_not] at hd;rw[hbl hd.1.1.1,htk,List.map_append,gt _ _ _ (hnew hd.1.2)];rfl,fun p hp=>by
   dsimp only at hp;rw[htk] at hp
   rcases List.mem_append.1 hp with hp | hp
   ·exact hfd p hp
   ·simp at hp; subst hp; exact⟨hx1,hx2⟩⟩ (by dsimp only; omega)
 ·have hkk:e.pairs.take k=e.pairs:=tL oM;rw[hkk] at hsl hbl hfd ⊢;have hfa:e.pairs.all (fun p=>(aA A p.1).isSome&&(aA A p.2).isSome)=true:=List.all_eq_true.2 fun p hp=>by
   obtain ⟨h1,h2⟩:=hfd p hp;rw[h1,h2];rfl
  have hcode:dw A e=if ln e.pairs then 54 else if e.pairs.any (fun p=>decide (fg A p.1≠fg A p.2)) then 21 else if e.pairs.all (iq A e.pairs) then 0 else 33:=by unfold dw; rw[if_pos hfa]
  rw[hcode];refine xI (tX (tX (bX (tN (sQ (bK (sW I (aT I ?_))))))));refine iQ I (fun hdup=>?_) (fun hdup=>?_)
  ·rw[if_pos hdup];refine rZ (aT I (rE (bR (tR ?_))));exact ST.ret1 (.inl I) results81 I ⟨Le.refl _,I,by rw[if_neg dC]; exact⟨[_,_,_,_,_,_],I⟩⟩
  rw[if_neg (by rw[hdup]; exact Bool.false_ne_true)];refine sW I (aT I ?_);refine iQ I (fun hdim=>?_) (fun hdim=>?_)
  ·rw[if_pos hdim];refine rZ (aT I (rE (bR (tR ?_))));exact ST.ret1 (.inl I) results81 I ⟨Le.refl _,I,by rw[if_neg dC]; exact⟨[_,_,_,_,_,_],I⟩⟩
  rw[if_neg (by rw[hdim]; exact Bool.false_ne_true)];have hble:=hbl hdup;subst hble;have hnod:(gW e.pairs).Nodup:=by unfold ln at hdup; exact Decidable.not_not.1 (of_decide_eq_false hdup)
  have hsn:=kI hnod;refine kP (bN (tN (sQ (sQ (cP (List.Perm.swap _ _ _) (SC.freezeMap fun g2 hle2 hby=>?_))))));refine SC.drop (List.sublist_cons_self _ _) (rG (lU (fA aK I i7 I) (lK (qL (v:=.slice qp e.pairs.length qc) kY I (cO 0 I I)) (lU (eN i8 I) (lM I (tZ (bK ?_)))))));have hpv2:=SlA.mono hpv hle2;have hall2:=hall.mono fun _ _=>aw.mono hle2;refine oP (ι:=Nat×PH) (fun i=>[(0,pp bx 0),(3,pp b3 0),(5,.map (some b17)),(95,.slice qp e.pairs.length qc),(96,vi e.pairs.length),(97,vi i.1)]) (fun i=>i.2)
   (fun _=>pt b3 (.cells (edV e (.slice sp e.sides.length sc) (.slice qp e.pairs.length qc)) 35 (0,0))::edP bx u mb ms false::mp mb (rs.map ak)::mp ms []::s)
   (fun i=>i.1≤e.pairs.length∧Le g2 i.2∧(e.pairs.take i.1).all (iq A e.pairs)=true) (fun i=>e.pairs.length - i.1) (0,g2)
   sB rfl rfl ⟨Nat.zero_le _,Le.refl _,by simp⟩ ?_
  rintro ⟨k2,g3⟩ ⟨hk2,hle3,hak⟩;dsimp only at hk2 hle3 hak ⊢;refine rZ (lU (lS I I) (tZ (sQ ?_)));refine iP I (fun hlt2=>?_) (fun hlt2=>?_)
  ·have hkl:k2<e.pairs.length:=oM;have hb1:=SlA.based hpv2 oM;have hgk:e.pairs[((k2:Nat):Int).toNat]?=some e.pairs[k2]:=gE hkl;have htk:e.pairs.take (k2+1)=e.pairs.take k2++[e.pairs[k2]]:=tS hkl;obtain ⟨hx1,hx2⟩:=hfd _ (gM hkl);have hnot:iq A e.pairs e.pairs[k2]=false→(if e.pairs.all (iq A e.pairs) then (0:Int) else 33)=33:=fun h=>by
    rw[if_neg];intro h2;have h3:=List.all_eq_true.1 h2 _ (gM hkl);rw[h] at h3;cases h3
   have hyes:iq A e.pairs e.pairs[k2]=true→(e.pairs.take (k2+1)).all (iq A e.pairs)=true:=fun h=>by
    rw[htk,List.all_append,hak,Bool.true_and];simp[h]
   have hall3:=hall2.mono fun _ _=>aw.mono hle3;have hby3:=hby.mono hle3;generalize e.pairs[k2]=x at *;obtain ⟨x1,x2⟩:=x;dsimp only at hx1 hx2;obtain ⟨c1,r1,hc1,hcm1,hg1,hr1⟩:=hfnd hall3 hx1;obtain ⟨c2,r2,hc2,hcm2,hg2,hr2⟩:=hfnd hall3 hx2;have hal:iq A e.pairs (x1,x2)=decide (gU (c1.sides.map (dQ (byF e.pairs)))=gU (c2.sides.map (dQ (byF e.pairs)))):=by unfold iq qk; rw[hc1,hc2]; rfl
   generalize iq A e.pairs (x1,x2)=al at *;have hl1:=hf.2 c1 hcm1;have hl2:=hf.2 c2 hcm2;have hl3:(gU (c1.sides.map (dQ (byF e.pairs)))).length<1099511627776:=by rw[(fq _).length_eq,List.length_map]; exact hl1
   obtain ⟨ri1,rd1,rp1,rn1,rk1⟩:=r1;obtain ⟨ri2,rd2,rp2,rn2,rk2⟩:=r2;obtain ⟨-,-,hs1⟩:=hr1;obtain ⟨-,-,hs2⟩:=hr2;dsimp only at hs1 hs2;refine kP (tN (sQ (bK (rZ (lU (iA i8 iJ I I hb1 oM sL) (lK (eA isAgg60 iJ I (SlA.rd (SlA.mono hpv2 hle3)) hgk) (bW (aL zeroValue60) fun b12=>?_)))))));refine oZ (sK 0 iJ I I I I I sB) ?_;refine tZ (sQ ?_);refine dW [] [(0,2),(1,2),(2,2),(3,1),(4,2),(5,1),(6,1),(7,2),(8,2),(10,2),(11,2),(12,2),(13,1),(14,2),(15,1),(16,1),(17,2),(18,2),(9,0),(19,0),(20,0),(21,2)] Tryz.mixed kR ?_;refine pU rfl (mV rfl) (pU rfl (nC rfl) (pU rfl (fA cX rfl dX rfl) (pK rfl (qL (v:=.map (some mb)) dY rfl (cO 2 rfl rfl)) (pU rfl (iB gr zT3 rfl rfl dC dC) (pK rfl (qL (v:=vi x1) iT3 rfl (cO 0 rfl rfl)) (pK rfl (SQ.eq (v':=.agg #[vi ri1,vi rd1,.slice rp1 rn1 rk1]) (SQ.lookup mty104 rfl rfl (cw.own 3 rfl)) (by rw[hg1]; rfl)) ?_))))));refine pU rfl (SU.field aq rfl bw rfl rfl) (pU rfl (mV rfl) (pU rfl (mV rfl) (pU rfl (nC rfl) (pU rfl (fA cX rfl dX rfl) (pK rfl (qL (v:=.map (some mb)) dY rfl (cO 2 rfl rfl)) (pU rfl (iB gr zT3 rfl rfl dC dC) (pK rfl (qL (v:=vi x2) iT3 rfl (cO 0 rfl rfl)) (pK rfl (SQ.eq (v':=.agg #[vi ri2,vi rd2,.slice rp2 rn2 rk2]) (SQ.lookup mty104 rfl rfl (cw.own 3 rfl)) (by rw[hg2]; rfl)) ?_))))))));refine pU I (SU.field aq I bw I I) (pU I (mV I) (SP.o I (cL call126 I (iX E g3 _ _ c1.sides b17 _ (byF e.pairs) hs1 hl1 hby3 (sE _))) dC (.inr iR) ?_));rintro v110 _ _ ⟨rfl,l1,hp1,ha1,rfl⟩;have e1:=su hp1 ha1;subst e1;refine SP.freezeRow fun g4 hle4 hs4=>?_;refine SP.o I (cL call126 I (iX E g4 _ _ c2.sides b17 _ (byF e.pairs) (SlA.mono hs2 hle4) hl2 (hby3.mono hle4) (sE _))) dC (.inr iR) ?_;rintro v120 _ _ ⟨rfl,l2,hp2,ha2,rfl⟩;have e2:=su hp2 ha2;subst e2;refine SP.freezeRow fun g5 hle5 hs5=>?_;have hle45:=hle4.trans hle5;refine SP.o I (cL call95 I (vL E g5 _ _ _ (gU (c1.sides.map (dQ (byF e.pairs)))) (gU (c2.sides.map (dQ (byF e.pairs)))) (Sl.mono hs4 hle5) hs5 hl3)) dC (.inr iR) ?_;rintro _ _ _ ⟨rfl,rfl,rfl⟩;rw[← hal];refine pU I (SU.not I) (pN (tN ?_));refine iQ I (fun hq=>?_) (fun hq=>?_)
   ·rw[Bool.not_eq_true'] at hq;rw[hnot hq];refine rZ (aT I (rE (bR (tR (tR (bR (tR ?_)))))));exact ST.ret1 (.inl I) results81 I ⟨hle2.trans (hle3.trans hle45),I,by rw[if_neg dC]; exact⟨[_,_,_,_,_],I⟩⟩
   ·rw[Bool.not_eq_false'] at hq;refine kP (bN (tN (rG (lU (aD I I oM) (lM I (nL (dR (.cons _ (.refl _)) ?_)))))));exact gA (k2+1,g5) sB I I ⟨by dsimp only; omega,hle3.trans hle45,hyes hq⟩ (by dsimp only; omega)
  ·have hkk2:e.pairs.take k2=e.pairs:=tL oM;rw[hkk2] at hak;rw[if_pos hak];obtain ⟨es,clk,hes,hmi⟩:=hby
   have hes3:=hle3 _ _ hes;have hby3:Mp g3 b17 (e.pairs.map swP):=⟨es,clk,hes3,hmi⟩;have hall3:=hall2.mono fun _ _=>aw.mono hle3;refine xI (tX (tX (bX (tN (sQ (sW I (lW (SO.range underlying163 I hes3) ?_)))))));rintro _ _ _ ⟨it,rfl,rfl,rfl⟩;refine tZ (bK ?_);have hrest0:gD A []=A:=by unfold gD; rw[List.filter_eq_self]; intro c _; simp
   refine oP (ι:=List MapEntry×List (Int×Value)×PH×List Rc×Ts) (fun _=>[(0,pp bx 0),(3,pp b3 0),(5,.map (some b17)),(125,pp it 0)]) (fun i=>i.2.2.1)
    (fun i=>eP it b17 es clk i.1::pt b3 (.cells (edV e (.slice sp e.sides.length sc) (.slice qp e.pairs.length qc)) 35 (0,0))::edP bx u mb ms false::mp mb (i.2.2.2.1.map ak)::mp ms (gG i.2.2.2.2)::(di i.2.2.2.2++s))
    (fun i=>kf (e.pairs.map swP) es i.1 i.2.1∧Le g3 i.2.2.1∧aC (aw i.2.2.1) (gD A (i.2.1.map Prod.fst)) i.2.2.2.1∧i.2.2.2.2.map Prod.fst=i.2.1.map Prod.fst∧yw i.2.2.2.2∧∀ t∈i.2.2.2.2,∃ q∈e.pairs,q.2=t.1∧t.2.2=[(q.1,1)]) (fun i=>e.pairs.length - i.2.1.length)
    ([],[],g3,rs,[]) sB rfl rfl ⟨kf.nil _ _,Le.refl _,by dsimp only; rw[List.map_nil,hrest0]; exact hall3,rfl,fun t ht=>by simp at ht,fun t ht=>by simp at ht⟩ ?_
   rintro ⟨vis,vl,g4,rs1,ts⟩ ⟨hrv,hle4,hall4,hkeys,hok,htq⟩;dsimp only at hrv hle4 hall4 hkeys hok htq ⊢;have hvle:=hrv.len hmi;rw[List.length_map] at hvle;have hes4:=hle4 _ _ hes3;refine rZ (lW (SO.nextP 0 I I hes4 hmi hrv) ?_);rintro _ _ _ ⟨rfl,hcase⟩
   rcases hcase with ⟨rfl,rfl,hperm⟩ | ⟨en,pr,hen,hpr,hk1,hv1,hrv2,rfl,rfl⟩
   ·have hpk:∀ k,k∈vl.map Prod.fst↔k∈e.pairs.map Prod.snd:=fun k=>by
     rw[(hperm.map Prod.fst).mem_iff,List.map_map];exact Iff.rfl
    have hrest:gD A (vl.map Prod.fst)=gD A (e.pairs.map Prod.snd):=by
     unfold gD;refine List.filter_congr fun c _=>?_;rw[decide_eq_decide.2 (hpk c.id)]
    have htn:(ts.map Prod.fst).Nodup:=by rw[hkeys]; exact mQ hrv hmi
    have himg:=xR (e:=e) (ts:=ts) (fun k=>by rw[hkeys]; exact hpk k) hsn htq;have hby4:Mp g4 b17 (e.pairs.map swP):=⟨es,clk,hes4,hmi⟩;rw[hrest] at hall4;have hBn:((gD A (e.pairs.map Prod.snd)).map Cl.id).Nodup:=(List.filter_sublist.map Cl.id).nodup hn;have hBf:∀ c∈gD A (e.pairs.map Prod.snd),c.sides.length<1099511627776:=fun c hc=>hf.2 c (List.mem_filter.1 hc).1;have hio:ep A e=(gD A (e.pairs.map Prod.snd)).map (yE (byF e.pairs)):=rfl;rw[hio];generalize gD A (e.pairs.map Prod.snd)=B at *;have hrc:∀ y,(yE (byF e.pairs) y).id=y.id:=fun _=>rfl;refine lU (xT I I) (tZ (sQ (SC.condF I (xI (tX (tX (bX (tN (sQ (sQ (SC.drop (List.sublist_cons_self _ _) (SC.openMap 2 I fun es2 clk2 hI2=>?_))))))))))));refine SC.to (g':=g4) (s':=pt b3 (.cells (edV e (.slice sp e.sides.length sc) (.slice qp e.pairs.length qc)) 35 (0,0))::edP bx u mb ms false::mx mb es2 clk2::mp ms (gG ts)::(di ts++s)) (fun w hw=>hw) ?_;refine rG (lM I (lU (nC I) (lU (fA cX I dX I) (lK (qL (v:=.map (some mb)) dY I (cO 1 I I)) (lW (SO.rangeG underlying104 I (yz 2 I)) ?_)))));rintro _ _ _ ⟨it2,rfl,rfl,rfl⟩;refine tZ (bK ?_);refine oP (ι:=List MapEntry×List (Int×Value)×PH×List Rc×Array MapEntry) (fun _=>[(0,pp bx 0),(5,.map (some b17)),(148,pp it2 0)]) (fun i=>i.2.2.1)
     (fun i=>eP it2 mb i.2.2.2.2 clk2 i.1::pt b3 (.cells (edV e (.slice sp e.sides.length sc) (.slice qp e.pairs.length qc)) 35 (0,0))::edP bx u mb ms false::mx mb i.2.2.2.2 clk2::mp ms (gG ts)::(di ts++s))
     (fun i=>iT (i.2.2.2.1.map ak) i.2.2.2.2 clk2∧kf (i.2.2.2.1.map ak) i.2.2.2.2 i.1 i.2.1∧Le g4 i.2.2.1∧aC (aw i.2.2.1) (ie (yE (byF e.pairs)) B (i.2.1.map Prod.fst)) i.2.2.2.1) (fun i=>B.length - i.2.1.length)
     ([],[],g4,rs1,es2) sB rfl rfl ⟨hI2,kf.nil _ _,Le.refl _,by dsimp only; rw[List.map_nil,xF]; exact hall4⟩ ?_
    rintro ⟨vis2,vl2,g5,rs2,es3⟩ ⟨hI3,hrv3,hle5,hall5⟩;dsimp only at hI3 hrv3 hle5 hall5 ⊢;have hrl:=hall5.length;have hbl2:(ie (yE (byF e.pairs)) B (vl2.map Prod.fst)).length=B.length:=by unfold ie; rw[List.length_map]
    have hids:=xH hrc B (vl2.map Prod.fst);refine rZ (lW (SO.nextPG 0 I I (yz 3 I) hI3 hrv3) ?_);rintro _ _ _ ⟨rfl,hcase2⟩
    rcases hcase2 with ⟨rfl,rfl,hperm2⟩ | ⟨en2,pr2,hen2,hpr2,hk2',hv2,hrv4,rfl,rfl⟩
    ·have hmem:∀ c∈B,c.id∈vl2.map Prod.fst:=fun c hc=>by
      rw[(hperm2.map Prod.fst).mem_iff,AS];have h1:rs2.map Rc.id=(ie (yE (byF e.pairs)) B (vl2.map Prod.fst)).map Cl.id:=(iI hall5).symm;rw[h1,hids];exact List.mem_map.2 ⟨c,hc,I⟩
     rw[xJ hmem] at hall5;refine lU (xT I I) (tZ (sQ (SC.condF I (xI (tX (tX (bX (tN (rZ (aT I (rE (ST.closeMap 3 I hI3 ?_))))))))))));refine ST.to (g':=g5) (s':=edP bx u mb ms false::mp mb (rs2.map ak)::mp ms (gG ts)::(di ts++s)) (fun w hw=>hw.sublist (.cons _ (.cons _ (.refl _)))) ?_;exact ST.ret1 (.inl I) results81 I ⟨hle2.trans (hle3.trans (hle4.trans hle5)),I,by rw[if_pos I]; exact⟨rs2,ts,hall5,hok,htn,himg,I⟩⟩
    ·obtain ⟨x,hx,rfl⟩:=List.mem_map.1 hpr2;obtain ⟨cx,hcm,hcx⟩:=uJ hall5 hx;have hnk:=mQ hrv4 hI3;rw[List.map_append,List.nodup_append] at hnk;have hxn:x.id ∉ vl2.map Prod.fst:=fun hm=>hnk.2.2 _ hm _ (by simp[ak]) rfl;obtain ⟨u1,hu1⟩:∃ u1,dK (rs2.map ak) x.id=some u1:=by
      rcases fl (fun _ _ h=>h.1) hall5 x.id with ⟨h1,_⟩ | ⟨_,r9,_,h2,_⟩
      ·have:=List.find?_eq_none.1 h1 cx hcm;simp[hcx.1] at this
      ·exact⟨_,h2⟩
     have hcB:=xG hrc hcm (by rw[← hcx.1]; exact hxn);have hfc:=uy hBn hcB;have hlx:=hBf cx hcB;obtain ⟨xi,xd,xp,xn,xc⟩:=x;obtain ⟨f1,f2,hsx⟩:=hcx;dsimp only at f1 f2 hsx hxn hu1;subst f1 f2;have hput:=qP hrc hxn hBn hfc;have hvl3:=hrv4.len hI3;rw[List.length_append,List.length_singleton,List.length_map] at hvl3;refine lU (xT I I) (tZ (sQ (SC.condT I (kP (tN (bK (rZ (lK (SQ.entryPG 0 I I (yz 3 I) hI3 hen2 hk2' hv2) (lU (xT I I) (lU (xT I I) (bW (aL zeroValue53) fun b16=>?_)))))))))));refine lA I (oZ (sK 0 au I I I I I sB) ?_);refine tZ (sQ ?_);refine SC.to (g':=g5) (s':=pt b16 (.cells #[vi cx.id,vi cx.dim,.slice xp xn xc] 53 (0,0))::eP it2 mb es3 clk2 (vis2++[en2])::pt b3 (.cells (edV e (.slice sp e.sides.length sc) (.slice qp e.pairs.length qc)) 35 (0,0))::edP bx u mb ms false::mx mb es3 clk2::mp ms (gG ts)::(di ts++s)) (fun w hw=>hw) ?_;refine rG (lU (fA aq I aU I) (lK (qL (v:=.slice xp xn xc) bw I (cO 0 I I)) (lM I (lW (cL call126 I (iX E g5 _ _ cx.sides b17 _ (byF e.pairs) hsx hlx (hby4.mono hle5) (sE _))) ?_))));rintro v157 _ _ ⟨rfl,l1,hp1,ha1,rfl⟩;have e1:=su hp1 ha1;subst e1;refine fR fun g6 hle6 hs6=>?_;obtain ⟨q6,d6,rfl⟩:=Sl.form hs6;refine lU (fA aq rfl aU rfl) (oZ (SO.store1 0 aU rfl rfl rfl rfl (bE rfl) (by rfl)) ?_);refine tZ ?_;refine dW [6] [(0,2),(1,2),(2,2),(3,1),(4,2),(5,1),(6,0)] Tryz.mixed kR ?_;refine pU I (mV I) (pU I (nC I) (pU I (fA cX I dX I) (pK I (qL (v:=.map (some mb)) dY I (cO 3 I I)) (pU I (mV I) (pK I (qV 0 du au I I I) (SP.on I (SO.mapUpdateX 4 mty104 I I I I hI3 ⟨_,hu1⟩) (.inl dC) ?_))))));rintro _ _ _ ⟨rfl,es4,rfl,hI4,hrvu⟩;refine pN (bN ?_);have hrc1:=iu ⟨cx.id,cx.dim,⟨q6,(gU (cx.sides.map (dQ (byF e.pairs)))).length,d6⟩⟩ rs2;have hI5:iT ((ij rs2 ⟨cx.id,cx.dim,⟨q6,(gU (cx.sides.map (dQ (byF e.pairs)))).length,d6⟩⟩).map ak) es4 clk2:=by rw[← hrc1]; exact hI4
     have hrv5:=hrvu _ _ hrv4;refine dR (.cons _ (.refl _)) ?_;exact gA ((vis2++[en2]).map (nE cx.id (rcv ⟨cx.id,cx.dim,⟨q6,(gU (cx.sides.map (dQ (byF e.pairs)))).length,d6⟩⟩)),(vl2++[ak ⟨cx.id,cx.dim,⟨xp,xn,xc⟩⟩]).map (yC cx.id (rcv ⟨cx.id,cx.dim,⟨q6,(gU (cx.sides.map (dQ (byF e.pairs)))).length,d6⟩⟩)),g6,ij rs2 ⟨cx.id,cx.dim,⟨q6,(gU (cx.sides.map (dQ (byF e.pairs)))).length,d6⟩⟩,es4) sB rfl (by dsimp only; rw[zq _ _ _ es3]; rfl) ⟨hI5,by dsimp only; rw[← hrc1]; exact hrv5,hle5.trans hle6,by
      dsimp only;rw[wU,List.map_append];have h9:(vl2.map Prod.fst++[ak ⟨cx.id,cx.dim,⟨xp,xn,xc⟩⟩].map Prod.fst)=vl2.map Prod.fst++[cx.id]:=rfl;rw[h9,← hput];exact jj (fun _ _ h=>h.1) ⟨I,I,hs6⟩ (hall5.mono fun _ _=>aw.mono hle6)⟩ (by
      dsimp only;rw[List.length_map,List.length_append,List.length_singleton];omega)
   ·obtain ⟨q,hq,rfl⟩:=List.mem_map.1 hpr;have hnk:=mQ hrv2 hmi;rw[List.map_append,List.nodup_append] at hnk;have hqn:q.2 ∉ vl.map Prod.fst:=fun hm=>hnk.2.2 _ hm _ (by simp[swP]) rfl;have hput:∀ v,eE (gG ts) q.2 v=gG ts++[(q.2,v)]:=fun v=>gt _ _ _ fun p hp e9=>hqn (by
     rw[← hkeys,← xz,← e9];exact List.mem_map.2 ⟨p,hp,I⟩)
    have hdel:=kw hn (vl.map Prod.fst) q.2;have hvl3:=hrv2.len hmi;rw[List.length_append,List.length_singleton,List.length_map] at hvl3;obtain ⟨q1,q2⟩:=q;dsimp only at hqn hput hdel;refine lU (xT I I) (tZ (sQ (SC.condT I (kP (tN (bK (rZ (lK (SQ.entryP 0 I I hes4 hmi hen hk1 hv1) (lU (xT I I) (lU (xT I I) (lA I (aT I (sW I (lU (nC I) (lU (fA cX I dX I) (lK (qL (v:=.map (some mb)) dY I (cO 2 I I)) (lM I (lO (SO.delete 3 mty104 I I I) ?_))))))))))))))))));rintro _ _ _ ⟨rfl,rfl⟩;rw[mE];refine tZ ?_;refine dW [8] [(0,2),(1,2),(2,2),(3,1),(4,2),(5,2),(6,0),(7,0),(8,0)] Tryz.mixed kR ?_;refine pU I (mV I) (pU I (nC I) (pU I (fA cX I sizeOf127 I) (pK I (qL (v:=.map (some ms)) isAgg127 I (cO 2 I I)) (pU I (mV I) (pU I (mV I) (SP.o I (cL call87 I (jb E g4 _ q1 1 dC dC)) dC (.inr iR) ?_))))));rintro _ g5 _ ⟨rfl,rfl,hle5⟩;refine SP.o I (bS sty72 I I I (ae ⟨I,trivial⟩) dC) dC (.inr iR) ?_;rintro _ _ _ ⟨b143,rfl,rfl,rfl⟩;refine SP.to (fun w hw=>At.litRow (e:=bV) (l:=[(q1,1)]) (n:=0) hw I I dC) ?_;refine SP.on I (SO.mapUpdate 5 mty127 I I I I) (.inl dC) ?_;rintro _ _ _ ⟨rfl,rfl⟩;refine pN (bN ?_);refine ST.to (g':=g5) (s':=eP it b17 es clk (vis++[en])::pt b3 (.cells (edV e (.slice sp e.sides.length sc) (.slice qp e.pairs.length qc)) 35 (0,0))::edP bx u mb ms false::mp mb ((mB rs1 q2).map ak)::mp ms (gG (ts++[(q2,.slice (some ⟨b143,0,none⟩) 1 1,[(q1,1)])]))::(di (ts++[(q2,.slice (some ⟨b143,0,none⟩) 1 1,[(q1,1)])])++s)) (fun w1 hw1=>?_) ?_
    ·rw[xy,vh,← hput];exact hw1.perm (AU _ [eP it b17 es clk (vis++[en]),pt b3 (.cells (edV e (.slice sp e.sides.length sc) (.slice qp e.pairs.length qc)) 35 (0,0)),edP bx u mb ms false,mp mb ((mB rs1 q2).map ak),mp ms (eE (gG ts) q2 (.slice (some ⟨b143,0,none⟩) 1 1))] (di ts) s)
    exact gA (vis++[en],vl++[swP (q1,q2)],g5,mB rs1 q2,ts++[(q2,.slice (some ⟨b143,0,none⟩) 1 1,[(q1,1)])]) sB I I ⟨hrv2,hle4.trans hle5,by
     dsimp only;rw[List.map_append];have h9:vl.map Prod.fst++[swP (q1,q2)].map Prod.fst=vl.map Prod.fst++[q2]:=rfl;rw[h9,← hdel];exact (kj (fun _ _ h=>h.1) q2 hall4).mono fun _ _=>aw.mono hle5,by dsimp only; rw[List.map_append,List.map_append,hkeys]; rfl,fun t ht=>by
     rcases List.mem_append.1 ht with ht | ht
     ·exact hok t ht
     ·simp at ht; subst ht; exact⟨by simp,by simp,_,_,_,rfl⟩,fun t ht=>by
     rcases List.mem_append.1 ht with ht | ht
     ·exact htq t ht
     ·simp at ht; subst ht; exact⟨(q1,q2),hq,rfl,rfl⟩⟩ (by
     dsimp only;rw[List.length_append,List.length_singleton];omega)
set_option maxHeartbeats 4000000
theorem hE (E:World)(g:PH)(s:Own)(v u:Value)(l m:List Int)(hv:dJ g v l)(hu:dJ g u m)(hl:l.length<1099511627776) :
  Ctr Tryz.prog E 116 #[v,u] g s (fun r g' s'=>r=vb (decide (l=m))∧g=g'∧s=s'):=by
 obtain ⟨p,c,rfl⟩:=SlA.form hv;obtain ⟨q,d,rfl⟩:=SlA.form hu;refine Ctr.of (args:=[.slice p l.length c,.slice q m.length d]) func116 I ntmps116 (bE I) ?_;refine rZ (aT I (sQ (sW I (lU (eN aI I) (lM I (lU (eN aI I) (lU (nQ I I) (tZ ?_))))))));refine iP I (fun hne=>?_) (fun hne=>?_)
 ·refine rZ (aT I (rE (tR ?_)));exact ST.ret1 (.inl I) results116 I ⟨by have:l≠m:=fun e=>hne (by rw[e]); simp[this],I,I⟩
 ·refine kP (tN (sQ (rZ (aT I (bK ?_)))));have hlen:l.length=m.length:=oM;refine oP (ι:=Nat) (fun k=>[(0,.slice p l.length c),(1,.slice q m.length d),(5,vi k)]) (fun _=>g) (fun _=>s) (fun k=>k≤l.length∧l.take k=m.take k) (fun k=>l.length - k) 0
   sB rfl rfl ⟨Nat.zero_le _,by simp⟩ ?_
  rintro k ⟨hk,heq⟩;refine sQ (sW I (lM I (lU (eN aI I) (lU (lS I I) (tZ ?_)))));refine iP I (fun hlt=>?_) (fun hlt=>?_)
  ·have hkl:k<l.length:=oM;have hkm:k<m.length:=oM;have hb1:=SlA.based hv oM;have hb2:=SlA.based hu oM;have hg1:l[((k:Nat):Int).toNat]?=some l[k]:=gE hkl;have hg2:m[((k:Nat):Int).toNat]?=some m[k]:=gE hkm;refine kP (tN (sQ (bK (sQ ?_))));refine dW [] [(0,2),(1,2),(2,2),(3,1),(4,2),(5,2),(6,2),(7,1),(8,2)] Tryz.mixed kR ?_;refine pU I (mV I) (pU I (mV I) (pU I (iA aI zT3 I I hb1 oM sL) (pK I (eB iT3 I (SlA.rd hv) hg1 I) (pU I (mV I) (pU I (mV I) (pU I (iA aI zT3 I I hb2 oM sL) (pK I (eB iT3 I (SlA.rd hu) hg2 I) (pU I (nQ I I) (pN (tN ?_))))))))));refine iP I (fun hd=>?_) (fun hd=>?_)
   ·refine rZ (aT I (rE (bR (tR (tR (bR (tR ?_)))))));exact ST.ret1 (.inl I) results116 I ⟨by have:l≠m:=fun e=>hd (by simp[e]); simp[this],I,I⟩
   ·refine kP (bN (tN (rG (lM I (lU (aD I I oM) (lA I (nL ?_)))))));exact gA (k+1) sB I I ⟨oM,gY hkl hkm heq (Decidable.of_not_not hd)⟩ oM
  ·refine xI (tX (tX (bX (tN (rZ (aT I (rE ?_)))))));have hkk:k=l.length:=oM;subst hkk;have:l=m:=iM hlen heq;exact ST.ret1 (.inl I) results116 I ⟨by simp[this],I,I⟩
def dj (A:List Cl)(ks:List Int):List Cl:=A.filter fun c=>!decide (c.id∈ks)
theorem vm {A:List Cl}{k:Nat}(hk:k<A.length)(ks:List Int):dj (A.take (k+1)) ks=if A[k].id∈ks then dj (A.take k) ks else dj (A.take k) ks++[A[k]]:=by
 unfold dj;rw[tS hk,List.filter_append];by_cases h:A[k].id∈ks
 ·rw[if_pos h]; simp[h]
 ·rw[if_neg h]; simp[h]
theorem jV (E:World)(g:PH)(s:Own)(v iv:Value)(l:List Cl)(ks:List Int)(hv:ao g v l)(hf:be l)(hi:dJ g iv ks)(hkl:ks.length<1099511627776) :
  Ctr Tryz.prog E 112 #[.agg #[v],iv] g s (fun r g' s'=>g=g'∧∃ u rs,r = .agg #[u]∧aC (aw g) (dj l ks) rs∧s'=rowA encCell 53 u rs::s):=by
 obtain ⟨rs,hrs,hall⟩:=hv;have hlen:=hall.length;have hfl:=hf.1;obtain ⟨p,c,rfl⟩:=SlA.form hrs;obtain ⟨q,d,rfl⟩:=SlA.form hi;refine Ctr.of (args:=[.agg #[.slice p rs.length c],.slice q ks.length d]) func112 I ntmps112 (bE I) ?_;refine rZ (bW (bO I) fun b2=>?_);refine bW (aL zeroValue29) fun b4=>?_;refine tZ (rZ (bW (aL zeroValue29) fun b5=>?_));refine tZ (sQ (rZ (aT I (bK (SC.nilRow 53 3 ?_)))));refine oP (ι:=Nat×Value×List Rc) (fun i=>[(1,.slice q ks.length d),(2,pp b2 0),(4,pp b4 0),(5,pp b5 0),(6,vi i.1)]) (fun _=>g)
  (fun i=>rowA encCell 53 i.2.1 i.2.2::pt b5 (.cells #[i.2.1] 29 (0,0))::pt b4 (.cells #[.slice none 0 0] 29 (0,0))::pt b2 (.cells #[.slice p rs.length c] 29 (0,0))::s)
  (fun i=>i.1≤rs.length∧aC (aw g) (dj (l.take i.1) ks) i.2.2) (fun i=>rs.length - i.1) (0,.slice none 0 0,[])
  sB rfl rfl ⟨Nat.zero_le _,by simp[dj,aC]⟩ ?_
 rintro ⟨k,ov,acc⟩ ⟨hk,hacc⟩;dsimp only at hk hacc ⊢;have hal:=hacc.length;have hal2:(dj (l.take k) ks).length≤l.length:=by
  have h1:=List.length_filter_le (fun c:Cl=>!decide (c.id∈ks)) (l.take k);rw[List.length_take] at h1;unfold dj;omega
 refine sQ (sW I (lU (fA c8 I cj I) (lK (qL (v:=.slice p rs.length c) dS I (cO 3 I I)) (lU (eN aH I) (lU (lS I I) (tZ ?_))))));refine iP I (fun hlt=>?_) (fun hlt=>?_)
 ·have hkr:k<rs.length:=oM;have hkl2:k<l.length:=oM;have hb1:=SlA.based hrs oM;have hcr:=hall.get (gE hkl2) (gE hkr);have hgx:rs[((k:Nat):Int).toNat]?=some rs[k]:=gE hkr;have hsucc:=vm hkl2 ks;generalize rs[k]=x at *;generalize l[k]=cx at *;obtain ⟨xi,xd,xp,xn,xc⟩:=x;have hcr0:=hcr;obtain ⟨e1,e2,hxsl⟩:=hcr;dsimp only at e1 e2 hxsl;subst e1 e2;refine kP (tN (sQ (bK (rZ (aT I (sQ (rZ (aT I (bK ?_)))))))));refine oP (ι:=Nat) (fun j=>[(1,.slice q ks.length d),(2,pp b2 0),(4,pp b4 0),(5,pp b5 0),(6,vi k),(7,vb ((ks.take j).any fun y=>decide (cx.id=y))),(8,vi j)]) (fun _=>g)
   (fun _=>rowA encCell 53 ov acc::pt b5 (.cells #[ov] 29 (0,0))::pt b4 (.cells #[.slice none 0 0] 29 (0,0))::pt b2 (.cells #[.slice p rs.length c] 29 (0,0))::s)
   (fun j=>j≤ks.length) (fun j=>ks.length - j) 0 sB rfl rfl (Nat.zero_le _) ?_
  rintro j hj;try dsimp only at hj ⊢
  refine sQ (sW I (lM I (lU (eN aI I) (lU (lS I I) (tZ ?_)))));refine iP I (fun hlt2=>?_) (fun hlt2=>?_)
  ·have hjl:j<ks.length:=oM;have hb2:=SlA.based hi oM;have hgj:ks[((j:Nat):Int).toNat]?=some ks[j]:=gE hjl;have hany:(ks.take (j+1)).any (fun y=>decide (cx.id=y))=((ks.take j).any (fun y=>decide (cx.id=y))||decide (cx.id=ks[j])):=by rw[tS hjl,List.any_append]; simp
   generalize ks[j]=y at *;generalize (ks.take j).any (fun y=>decide (cx.id=y))=bb at *;cases bb with
   | true =>
    refine kP (tN (sQ (bK ?_)));refine dW [] [(0,2),(1,2),(2,2),(3,1),(4,2),(5,2),(6,2),(7,1),(8,2),(9,2),(10,2),(11,1),(12,2),(13,2),(14,2)] Tryz.mixed kR ?_;refine pU I (mV I) (pU I (mV I) (fP I (gZ I I I dC) dC (SP.off1 I (gZ I I I dC) dC (fP I (gZ I I I dC) dC (fP I (gZ I I I dC) dC (fP I (gZ I I I dC) dC (SP.off1 I (gZ I I I dC) dC (fP I (gZ I I I dC) dC (fP I (gZ I I I dC) dC (fP I (gZ I I I dC) dC (SP.off1 I (gZ I I I dC) dC (fP I (gZ I I I dC) dC (pU I (wT I I) (pU I (aS I) (pN (bN (tN (rG (lM I (lU (aD I I oM) (lA I (nL ?_))))))))))))))))))))));exact gA (j+1) ⟨rfl,rfl,rfl,rfl,rfl,(by rw[hany]; rfl),rfl,trivial⟩ rfl rfl oM oM
   | false =>
    refine kP (tN (sQ (bK ?_)));refine dW [] [(0,2),(1,2),(2,2),(3,1),(4,2),(5,2),(6,2),(7,1),(8,2),(9,2),(10,2),(11,1),(12,2),(13,2),(14,2)] Tryz.mixed kR ?_;refine pU I (mV I) (pU I (mV I) (SP.gu I (gT I I I dC) (fA c8 I cj I) dC (SP.gq I (gT I I I dC) (qL (v:=.slice p rs.length c) dS I (cO 3 I I)) dC (SP.gu I (gT I I I dC) (mV I) dC (SP.gu I (gT I I I dC) (iA aH au I I hb1 oM (show (k:Int)<((rs.length:Nat):Int) by omega)) dC ?_)))));refine SP.gu I (gT I I I dC) (fC aq I zT3 I hb1) dC (SP.gq I (gT I I I dC) (aZ (e:=encCell) (o:=0) iT3 I (SlA.rd hrs) hgx I) dC (SP.gu I (gT I I I dC) (mV I) dC (SP.gu I (gT I I I dC) (mV I) dC (SP.gu I (gT I I I dC) (iA aI zT3 I I hb2 oM sL) dC (SP.gq I (gT I I I dC) (eB iT3 I (SlA.rd hi) hgj I) dC (SP.gu I (gT I I I dC) (eQ I I) dC (pU I (wF I I) (pU I (aS I) (pN (bN (tN (rG (lM I (lU (aD I I oM) (lA I (nL ?_))))))))))))))));exact gA (j+1) ⟨rfl,rfl,rfl,rfl,rfl,(by rw[hany]; rfl),rfl,trivial⟩ rfl rfl oM oM
  ·have hjj:ks.take j=ks:=tL oM;have hany:(ks.any fun y=>decide (cx.id=y))=decide (cx.id∈ks):=by
    rw[Bool.eq_iff_iff,List.any_eq_true,decide_eq_true_iff];exact⟨fun ⟨y,hy,he⟩=>by rw[of_decide_eq_true he]; exact hy,fun h=>⟨_,h,decide_eq_true rfl⟩⟩
   rw[hjj,hany];refine xI (tX (tX (bX (tN (sW I (lU (SU.notP I) (tZ ?_)))))));refine iQ I (fun hg=>?_) (fun hg=>?_)
   ·have hg2:cx.id ∉ ks:=of_decide_eq_true hg;rw[if_neg hg2] at hsucc;refine dW [8,10] [(0,2),(1,1),(2,2),(3,1),(4,2),(5,2),(6,1),(7,0),(8,0),(9,2),(10,0)] Tryz.mixed kR ?_;refine pU I (fA c8 I cj I) (pK I (qL (v:=ov) dS I (cO 1 I I)) (pU I (fA c8 I cj I) (pK I (qL (v:=.slice p rs.length c) dS I (cO 3 I I)) (pU I (mV I) (pU I (iA aH au I I hb1 oM (show (k:Int)<((rs.length:Nat):Int) by omega)) ?_)))));refine pK I (eA du au I (SlA.rd hrs) hgx) (SP.o I (bS sty27 I I I (ae sB) dC) dC (.inr iR) ?_);rintro _ _ _ ⟨b45,rfl,rfl,rfl⟩;refine SP.o I (aP (e:=encCell) 0 ⟨cx.id,cx.dim,⟨xp,xn,xc⟩⟩ sty27 I I I I I oM oM) dC (.inl dC) ?_;rintro ov' _ _ ⟨rfl,rfl⟩;refine SP.facts fun ⟨w0,hw0⟩=>?_;obtain ⟨q',d',rfl⟩:=ah (e:=encCell) (l:=acc++[(⟨cx.id,cx.dim,⟨xp,xn,xc⟩⟩:Rc)]) (i:=0) hw0 rfl;clear hw0 w0;refine pU I (fA c8 I cj I) (SP.on I (sK 1 cj I I I I I sB) (.inl dC) ?_);rintro _ _ _ ⟨rfl,rfl⟩;refine pN (bN (tN (rG (lM I (lU (aD I I oM) (lA I (nL ?_)))))));exact gA (k+1,_,acc++[(⟨cx.id,cx.dim,⟨xp,xn,xc⟩⟩:Rc)]) sB I I ⟨by dsimp only; omega,by
     dsimp only;rw[hsucc];exact hacc.append ⟨hcr0,trivial⟩⟩ (by dsimp only; omega)
   ·have hg2:cx.id∈ks:=Decidable.not_not.1 (of_decide_eq_false hg);rw[if_pos hg2] at hsucc;refine kP (bN (tN (rG (lM I (lU (aD I I oM) (lA I (nL ?_)))))));exact gA (k+1,ov,acc) sB I I ⟨by dsimp only; omega,by dsimp only; rw[hsucc]; exact hacc⟩ (by dsimp only; omega)
 ·have hkk:l.take k=l:=tL oM;rw[hkk] at hacc;refine xI (tX (tX (bX (tN (sQ ?_)))));refine SC.facts fun ⟨w0,hw0⟩=>?_;obtain ⟨q2,d2,rfl⟩:=ah (i:=0) hw0 rfl;clear hw0 w0;refine rG (lK (qV 1 ar ag I I I) (oZ (sK 2 ag I I I I I sB) ?_));refine tZ (rE ?_);exact ST.retCD 2 _ (.inl I) results112 I ar ag I I (.cons_cons _ (.cons _ (.cons _ (.cons _ (.refl _))))) ⟨I,_,acc,I,hacc,I⟩
def cI (cell:Int)(ch:List Tm)(p:Int×List Tm):Int×List Tm:=if p.1=cell then (p.1,ch) else p
theorem ig (E:World)(g:PH)(s:Own)(v cv:Value)(l:List (Int×List Tm))(cell:Int)(ch:List Tm)(hv:Ims g v l)(hl:l.length<1099511627776)(hc:SlA bV g cv ch) :
  Ctr Tryz.prog E 114 #[.agg #[v],vi cell,cv] g s (fun r g' s'=>s=s'∧Le g g'∧∃ u,r = .agg #[u]∧Ims g' u (l.map (cI cell ch))):=by
 obtain ⟨rs,hrs,hall⟩:=hv;have hlen:=hall.length;obtain ⟨p,c,rfl⟩:=SlA.form hrs;obtain ⟨q,d,rfl⟩:=SlA.form hc;refine Ctr.of (args:=[.agg #[.slice p rs.length c],vi cell,.slice q ch.length d]) func114 I ntmps114 (bE I) ?_;refine rZ (bW (bO I) fun b3=>?_);refine bW (aL zeroValue44) fun b6=>?_;refine tZ (rZ (bW (aL zeroValue44) fun b7=>?_));refine tZ (sQ (rZ (aT I (bK (SC.nilRow 113 2 ?_)))));refine oP (ι:=Nat×Value×List Im) (fun i=>[(1,vi cell),(2,.slice q ch.length d),(3,pp b3 0),(6,pp b6 0),(7,pp b7 0),(8,vi i.1)]) (fun _=>g)
  (fun i=>rowA jh 113 i.2.1 i.2.2::pt b7 (.cells #[i.2.1] 44 (0,0))::pt b6 (.cells #[.slice none 0 0] 44 (0,0))::pt b3 (.cells #[.slice p rs.length c] 44 (0,0))::s)
  (fun i=>i.1≤rs.length∧aC (ImR g) ((l.take i.1).map (cI cell ch)) i.2.2) (fun i=>rs.length - i.1) (0,.slice none 0 0,[])
  sB rfl rfl ⟨Nat.zero_le _,by simp[aC]⟩ ?_
 rintro ⟨k,ov,acc⟩ ⟨hk,hacc⟩;dsimp only at hk hacc ⊢;have hal:=hacc.length;rw[List.length_map,List.length_take] at hal;refine sQ (sW I (lU (fA mA I km I) (lK (qL (v:=.slice p rs.length c) isAgg42 I (cO 3 I I)) (lU (eN uN I) (lU (lS I I) (tZ ?_))))));refine iP I (fun hlt=>?_) (fun hlt=>?_)
 ·have hkr:k<rs.length:=oM;have hkl:k<l.length:=oM;have hb1:=SlA.based hrs oM;have hcr:=hall.get (gE hkl) (gE hkr);have hgx:rs[((k:Nat):Int).toNat]?=some rs[k]:=gE hkr;have htk:=mS (cI cell ch) hkl;generalize rs[k]=x at *;generalize l[k]=cx at *;obtain ⟨xi,xp,xn,xc⟩:=x;obtain ⟨cc,ct⟩:=cx;obtain ⟨e1,hxsl⟩:=hcr;dsimp only at e1 hxsl;subst e1;refine kP (tN (sQ (bK (rZ (lU (fA mA I km I) (lK (qL (v:=.slice p rs.length c) isAgg42 I (cO 3 I I)) (lM I (lU (iA uN jU I I hb1 oM (show (k:Int)<((rs.length:Nat):Int) by omega)) ?_))))))));refine lK (eA isAgg113 jU I (SlA.rd hrs) hgx) (bW (aL zeroValue113) fun b9=>?_);refine oZ (sK 0 jU I I I I I sB) ?_;refine tZ (sQ (rZ (lU (fA lx I zT3 I) (lK (qL (v:=vi xi) iT3 I (cO 0 I I)) (lM I (lU (eQ I I) (tZ ?_)))))));refine iP I (fun he=>?_) (fun he=>?_)
  ·have hst:cI cell ch (xi,ct)=(xi,ch):=if_pos he;rw[hst] at htk;refine rG (lM rfl (lU (fA lx rfl sizeOf72 rfl) (oZ (SO.store1 0 sizeOf72 rfl rfl rfl rfl (bE rfl) (by rfl)) ?_)));refine tZ (rG (lU (fA mA I km I) (lK (qL (v:=ov) isAgg42 I (cO 2 I I)) (lK (qV 0 isAgg113 jU I I I) (lW (bS sty42 I I I (ae sB) dC) ?_)))));rintro _ _ _ ⟨b31,rfl,rfl,rfl⟩;refine lW (aP (e:=jh) 1 ⟨xi,⟨q,ch.length,d⟩⟩ sty42 I I I I I oM oM) ?_;rintro ov' _ _ ⟨rfl,rfl⟩;refine SL.facts fun ⟨w0,hw0⟩=>?_;obtain ⟨q',d',rfl⟩:=ah (e:=jh) (l:=acc++[⟨xi,⟨q,ch.length,d⟩⟩]) (i:=1) hw0 rfl;clear hw0 w0;refine lU (fA mA I km I) (oZ (sK 2 km I I I I I sB) ?_);refine nL (bN (tN (rG (lM I (lU (aD I I oM) (lA I (nL (dR (.cons _ (.refl _)) ?_))))))));exact gA (k+1,_,acc++[⟨xi,⟨q,ch.length,d⟩⟩]) sB I I ⟨by dsimp only; omega,by
    dsimp only;rw[htk];exact hacc.append ⟨⟨I,hc⟩,trivial⟩⟩ (by dsimp only; omega)
  ·have hst:cI cell ch (xi,ct)=(xi,ct):=if_neg he;rw[hst] at htk;refine kP (tN (rG (lU (fA mA I km I) (lK (qL (v:=ov) isAgg42 I (cO 2 I I)) (lK (qV 0 isAgg113 jU I I I) (lW (bS sty42 I I I (ae sB) dC) ?_))))));rintro _ _ _ ⟨b31,rfl,rfl,rfl⟩;refine lW (aP (e:=jh) 1 ⟨xi,⟨xp,xn,xc⟩⟩ sty42 I I I I I oM oM) ?_;rintro ov' _ _ ⟨rfl,rfl⟩;refine SL.facts fun ⟨w0,hw0⟩=>?_;obtain ⟨q',d',rfl⟩:=ah (e:=jh) (l:=acc++[⟨xi,⟨xp,xn,xc⟩⟩]) (i:=1) hw0 rfl;clear hw0 w0;refine lU (fA mA I km I) (oZ (sK 2 km I I I I I sB) ?_);refine nL (bN (tN (rG (lM I (lU (aD I I oM) (lA I (nL (dR (.cons _ (.refl _)) ?_))))))));exact gA (k+1,_,acc++[⟨xi,⟨xp,xn,xc⟩⟩]) sB I I ⟨by dsimp only; omega,by
    dsimp only;rw[htk];exact hacc.append ⟨⟨I,hxsl⟩,trivial⟩⟩ (by dsimp only; omega)
 ·have hkk:l.take k=l:=tL oM;rw[hkk] at hacc;refine xI (tX (tX (bX (tN (sQ (fS fun g2 hle2 hs2=>?_))))));obtain ⟨q2,d2,rfl⟩:=Sl.form hs2;refine rG (lK (qV 0 isAgg44 j9 I I I) (oZ (sK 1 j9 I I I I I sB) ?_));refine tZ (rE ?_);exact ST.retCD 1 s (.inl I) results114 I isAgg44 j9 I I uR ⟨I,hle2,_,I,acc,hs2,hacc.mono fun _ _=>ImR.mono hle2⟩
theorem fj {A:List Cl}(hf:be A)(ks:List Int):be (dj A ks):=⟨by
 have h1:=List.length_filter_le (fun c:Cl=>!decide (c.id∈ks)) A;have h2:=hf.1;unfold dj;omega,fun c hc=>hf.2 c (List.mem_filter.1 hc).1⟩
theorem Tryz.buildT46 (p:Option Addr)(n c:Nat)(b:Bool)(w:World):(Instr.build 46 #[(0,.agg #[.slice p n c]),(1,vb b)]).run Tryz.prog w = .ok (.agg #[.slice p n c,vb b]) w:=by
 have h1:(Value.agg #[Value.slice p n c]).cells = #[.slice p n c]:=rfl;have h2:(vb b).cells = #[vb b]:=rfl;simp[Instr.build,Instr.fill,h1,h2];rfl
theorem nX (E:World)(g:PH)(s:Own)(v ev:Value)(l:List Cl)(e:Ed)(hv:ao g v l)(hf:be l)(he:EdR g ev e)(code:Int)(hcode:code=if (findC l e.cell).isSome then (if 0<(aj l e.cell).length then 31 else 0) else 30) :
  Ctr Tryz.prog E 71 #[.agg #[v],ev] g s (fun r g' s'=>s=s'∧Le g g'∧Aq code (if code=0 then dj l [e.cell] else l) ((am (dj l [e.cell])).map fN) (decide (code=0)) r g'):=by
 obtain ⟨sv,pv,rfl,hsv,hpv⟩:=he;obtain ⟨sp,sc,rfl⟩:=SlA.form hsv;obtain ⟨pq,pc,rfl⟩:=SlA.form hpv;obtain ⟨p,c,rfl⟩:=hv.form;have hfr:=fj hf [e.cell];refine Ctr.of (args:=[.agg #[.slice p l.length c],.agg #[vi e.kind,vi e.cell,vi e.dim,vi e.new,vi e.other,.slice sp e.sides.length sc,.slice pq e.pairs.length pc]]) func71 I ntmps71 (bE I) ?_;refine rZ (bW (bO I) fun b2=>?_);refine bW (bO I) fun b3=>?_;refine bW (aL zeroValue29) fun b4=>?_;refine bW (aL zeroValue46) fun b5=>?_;refine aT I (sQ (rZ (lK (qV 3 ar ag I I I) (lU (fA aK I zT3 I) (lK (qL iT3 I (cO 2 I I)) (lW (cL call110 I (cU E g _ _ l e.cell hv hf)) ?_))))));rintro _ g1 _ ⟨rfl,rfl,hle1⟩;refine lU (SU.not I) (tZ ?_);refine iQ I (fun hp=>?_) (fun hp=>?_)
 ·have hc:code=30:=by rw[hcode]; rw[Bool.not_eq_true'] at hp; rw[hp]; rfl
  subst hc;refine rZ (lK (qV 3 ar ag I I I) (lU (SU.build I buildZ46) (oZ (sK 1 ag I I I I I sB) ?_)));refine oZ (sK 0 bC I I I I I sB) ?_;refine aT I (rE (tR ?_));exact ST.retCCT 1 0 s (.inl I) results71 I I I ar ag fD bC I I I I uR ⟨I,hle1,_,_,_,_,I,hv.mono hle1,fun h=>by cases h⟩
 rw[Bool.not_eq_false'] at hp;refine kP (tN (sQ (rZ (lK (qV 3 ar ag I I I) (lU (fA aK I zT3 I) (lK (qL iT3 I (cO 2 I I)) (lW (cL call77 I (dh E g1 _ _ l e.cell (hv.mono hle1) hf)) ?_)))))));rintro _ g2 _ ⟨rfl,hle2,ha2⟩;obtain ⟨qa,da,rfl⟩:=SlA.form ha2;have hle12:=hle1.trans hle2;refine lU (eN aI I) (lU (gR I I) (tZ ?_));refine iP I (fun hab=>?_) (fun hab=>?_)
 ·have hc:code=31:=by rw[hcode,hp,if_pos rfl,if_pos oM]
  subst hc;refine rZ (lK (qV 3 ar ag I I I) (lU (SU.build I buildZ46) (oZ (sK 1 ag I I I I I sB) ?_)));refine oZ (sK 0 bC I I I I I sB) ?_;refine aT I (rE (tR ?_));exact ST.retCCT 1 0 s (.inl I) results71 I I I ar ag fD bC I I I I uR ⟨I,hle12,_,_,_,_,I,hv.mono hle12,fun h=>by cases h⟩
 have hc:code=0:=by rw[hcode,hp,if_pos rfl,if_neg oM]
 subst hc;refine kP (tN (rZ (lK (qV 3 ar ag I I I) (lU (fA aK I zT3 I) (lK (qL iT3 I (cO 2 I I)) (lW (bS sty83 I I I (ae ⟨I,trivial⟩) dC) ?_))))));rintro _ _ _ ⟨b26,rfl,rfl,rfl⟩;refine SL.freeze fun g3 hle3 hb3=>?_;have hi3:dJ g3 (.slice (some ⟨b26,0,none⟩) 1 1) [e.cell]:=SlA.lit hb3 rfl rfl;refine lW (cL call112 I (jV E g3 _ _ _ l [e.cell] (hv.mono (hle12.trans hle3)) hf hi3 (by simp))) ?_;rintro _ _ _ ⟨rfl,u4,rs4,rfl,hall4,rfl⟩;refine fR fun g4 hle4 hs4=>?_;obtain ⟨q4,d4,rfl⟩:=Sl.form hs4;have hlen4:=hall4.length;have hc4:ao g4 (.slice q4 rs4.length d4) (dj l [e.cell]):=⟨rs4,hs4,hall4.mono fun _ _=>aw.mono hle4⟩;refine bW (aL zeroValue29) fun b7=>?_;refine oZ (sK 0 ag I I I I I sB) ?_;refine tZ (sQ ?_);refine dW [4,5] [(0,1),(1,1),(2,0),(3,2),(4,0),(5,0),(6,2)] Tryz.mixed kR ?_;refine pK I (qV 0 ar ag I I I) (pK I (qV 0 ar ag I I I) (SP.o I (cL call111 I (fp E g4 _ _ (dj l [e.cell]) hc4 hfr)) dC (.inr iR) ?_));rintro _ g5 _ ⟨rfl,hle5,iv,rfl,him⟩;obtain ⟨q5,n5,d5,rfl⟩:=him.form;refine pU I (SU.build I (buildT46 _ _ _ _)) (SP.on I (sK 2 ag I I I I I sB) (.inl dC) ?_);rintro _ _ _ ⟨rfl,rfl⟩;refine SP.on I (sK 1 bC I I I I I sB) (.inl dC) ?_;rintro _ _ _ ⟨rfl,rfl⟩;refine pU I (aS I) (pN (tN (rE ?_)));exact ST.retCCT 2 1 s (.inl I) results71 I I I ar ag fD bC I I I I uR ⟨I,hle12.trans (hle3.trans (hle4.trans hle5)),_,_,_,_,I,hc4.mono hle5,fun _=>him⟩
def sgF (l:List Side)(cell:Int):Int:=l.foldl (fun a x=>if x.cell=cell then x.sign else a) 0
theorem yU {l:List Side}{k:Nat}(hk:k<l.length)(cell:Int):sgF (l.take (k+1)) cell=if l[k].cell=cell then l[k].sign else sgF (l.take k) cell:=by
 unfold sgF;rw[tS hk,List.foldl_append];rfl
theorem BF (l:List Side)(cell:Int)(h:∀ x∈l,x.sign=1∨x.sign = -1):sgF l cell=0∨sgF l cell=1∨sgF l cell = -1:=by
 unfold sgF;have:∀ (l:List Side) (a:Int),(∀ x∈l,x.sign=1∨x.sign = -1)→(a=0∨a=1∨a = -1)→(l.foldl (fun a x=>if x.cell=cell then x.sign else a) a=0∨l.foldl (fun a x=>if x.cell=cell then x.sign else a) a=1∨l.foldl (fun a x=>if x.cell=cell then x.sign else a) a = -1):=by
  intro l;induction l with
  | nil=>intro a _ h; exact h
  | cons x l ih =>
   intro a h1 h2;rw[List.foldl_cons];refine ih _ (fun y hy=>h1 y (by simp[hy])) ?_;split
   ·exact .inr (h1 x (by simp))
   ·exact h2
 exact this l 0 h (.inl I)
def cJ (l:List Cl)(e:Ed):List Tm:=((((findC l e.other).getD bA).sides.filter fun x=>!decide (x.cell=e.cell))).map fun x=>(x.cell,-sgF ((findC l e.other).getD bA).sides e.cell * x.sign)
def cq (l:List Cl)(e:Ed):Int:=if (findC l e.other).isSome&&(findC l e.cell).isSome then (if aj l e.cell=[e.other]∧¬ 0<(aj l e.other).length then 0 else 32) else 30
theorem zF {l:List Side}{k:Nat}(hk:k<l.length)(cell:Int):(l.take (k+1)).filter (fun x=>!decide (x.cell=cell))=if l[k].cell=cell then (l.take k).filter (fun x=>!decide (x.cell=cell)) else (l.take k).filter (fun x=>!decide (x.cell=cell))++[l[k]]:=by
 rw[tS hk,List.filter_append];by_cases h:l[k].cell=cell
 ·rw[if_pos h]; simp[h]
 ·rw[if_neg h]; simp[h]
theorem my (E:World)(g:PH)(s:Own)(v ev:Value)(l:List Cl)(e:Ed)(hv:ao g v l)(hf:be l)(he:EdR g ev e)(hsg:∀ x∈((findC l e.other).getD bA).sides,x.sign=1∨x.sign = -1)(hlen:((findC l e.other).getD bA).sides.length≤64) :
  Ctr Tryz.prog E 74 #[.agg #[v],ev] g s (fun r g' s'=>s=s'∧Le g g'∧Aq (cq l e) (if cq l e=0 then dj l [e.cell,e.other] else l) ((((am l).map fN).map (cI e.cell (cJ l e))).map (cI e.other [])) false r g'):=by
 obtain ⟨sv,pv,rfl,hsv,hpv⟩:=he;obtain ⟨sp,sc,rfl⟩:=SlA.form hsv;obtain ⟨pq,pc,rfl⟩:=SlA.form hpv;obtain ⟨p,c,rfl⟩:=hv.form;have hal:(aj l e.cell).length<1099511627776:=Nat.lt_of_le_of_lt (by unfold aj; rw[List.length_map]; exact List.length_filter_le _ _) (bJ hf).1;refine Ctr.of (args:=[.agg #[.slice p l.length c],.agg #[vi e.kind,vi e.cell,vi e.dim,vi e.new,vi e.other,.slice sp e.sides.length sc,.slice pq e.pairs.length pc]]) func74 I ntmps74 (bE I) ?_;have hfo:(findC l e.other).isSome=true→∃ cy,findC l e.other=some cy:=fun h=>Option.isSome_iff_exists.1 h;cases ho:(findC l e.other).isSome with
 | false =>
  have hcode:cq l e=30:=by unfold cq; rw[ho]; rfl
  rw[hcode];refine rZ (bW (bO I) fun b2=>?_);refine bW (bO I) fun b3=>?_;refine bW (aL zeroValue29) fun b4=>?_;refine bW (aL zeroValue46) fun b5=>?_;refine aT I (rZ (lK (qV 3 ar ag I I I) (lU (fA aK I zT3 I) (lK (qL iT3 I (cO 2 I I)) (lW (cL call41 I (bo E g _ _ l e.other hv hf)) ?_)))));rintro _ g1 _ ⟨rfl,hle1,⟨yi,yd,yp,yn,yc⟩,rfl,hcr⟩;obtain ⟨hy1,hy2,hys⟩:=hcr;dsimp only at hy1 hy2 hys;have hyn:yn=((findC l e.other).getD bA).sides.length:=Sl.slen hys;subst hyn;have hv1:=hv.mono hle1;rw[ho];refine lM I (lU (xT I I) (lU (xT I I) (bW (aL zeroValue53) fun b7=>?_)));refine oZ (sK 0 au I I I I I sB) ?_;refine aT I (sQ (sW I (lU (SU.not I) (lM I (lZ I I I (lZ I I I (lZ I I I (lZ I I I (lZ I I I (lU (wT I I) (tZ (SC.condT I (rZ (lK (qV 4 ar ag I I I) (lU (SU.build I buildZ46) (oZ (sK 2 ag I I I I I sB) ?_))))))))))))))));refine oZ (sK 1 bC I I I I I sB) ?_;refine aT I (rE (tR ?_));exact ST.retCCT 2 1 s (.inl I) results74 I I I ar ag fD bC I I I I uR ⟨I,hle1,_,_,_,_,I,hv1,fun h=>by cases h⟩
 | true =>
 cases hcl:(findC l e.cell).isSome with
 | false =>
  have hcode:cq l e=30:=by unfold cq; rw[ho,hcl]; rfl
  rw[hcode];refine rZ (bW (bO I) fun b2=>?_);refine bW (bO I) fun b3=>?_;refine bW (aL zeroValue29) fun b4=>?_;refine bW (aL zeroValue46) fun b5=>?_;refine aT I (rZ (lK (qV 3 ar ag I I I) (lU (fA aK I zT3 I) (lK (qL iT3 I (cO 2 I I)) (lW (cL call41 I (bo E g _ _ l e.other hv hf)) ?_)))));rintro _ g1 _ ⟨rfl,hle1,⟨yi,yd,yp,yn,yc⟩,rfl,hcr⟩;obtain ⟨hy1,hy2,hys⟩:=hcr;dsimp only at hy1 hy2 hys;have hyn:yn=((findC l e.other).getD bA).sides.length:=Sl.slen hys;subst hyn;have hv1:=hv.mono hle1;rw[ho];refine lM I (lU (xT I I) (lU (xT I I) (bW (aL zeroValue53) fun b7=>?_)));refine oZ (sK 0 au I I I I I sB) ?_;refine aT I (sQ (sW I (lU (SU.not I) (lM I (SL.gq (gT I I I dC) (qV 4 ar ag I I I) dC (lY I I I (fA aK I zT3 I) (SL.gq (gT I I I dC) (qL (v:=vi e.cell) iT3 I (cO 3 I I)) dC (SL.go (gT I I I dC) (cL call110 I (cU E g1 _ _ l e.cell hv1 hf)) dC ?_))))))));rintro _ g2 _ ⟨rfl,rfl,hle2⟩;rw[hcl];refine lY I I I (SU.not I) (lU (wF I I) (tZ (SC.condT I (rZ (lK (qV 4 ar ag I I I) (lU (SU.build I buildZ46) (oZ (sK 2 ag I I I I I sB) ?_)))))));refine oZ (sK 1 bC I I I I I sB) ?_;refine aT I (rE (tR ?_));exact ST.retCCT 2 1 s (.inl I) results74 I I I ar ag fD bC I I I I uR ⟨I,hle1.trans hle2,_,_,_,_,I,hv1.mono hle2,fun h=>by cases h⟩
 | true =>
 refine rZ (bW (bO I) fun b2=>?_);refine bW (bO I) fun b3=>?_;refine bW (aL zeroValue29) fun b4=>?_;refine bW (aL zeroValue46) fun b5=>?_;refine aT I (rZ (lK (qV 3 ar ag I I I) (lU (fA aK I zT3 I) (lK (qL iT3 I (cO 2 I I)) (lW (cL call41 I (bo E g _ _ l e.other hv hf)) ?_)))));rintro _ g1 _ ⟨rfl,hle1,⟨yi,yd,yp,yn,yc⟩,rfl,hcr⟩;obtain ⟨hy1,hy2,hys⟩:=hcr;dsimp only at hy1 hy2 hys;have hyn:yn=((findC l e.other).getD bA).sides.length:=Sl.slen hys;subst hyn;have hv1:=hv.mono hle1;rw[ho];refine lM I (lU (xT I I) (lU (xT I I) (bW (aL zeroValue53) fun b7=>?_)));refine oZ (sK 0 au I I I I I sB) ?_;refine aT I (sQ (sW I (lU (SU.not I) (lM I (SL.gq (gT I I I dC) (qV 4 ar ag I I I) dC (lY I I I (fA aK I zT3 I) (SL.gq (gT I I I dC) (qL (v:=vi e.cell) iT3 I (cO 3 I I)) dC (SL.go (gT I I I dC) (cL call110 I (cU E g1 _ _ l e.cell hv1 hf)) dC ?_))))))));rintro _ g2 _ ⟨rfl,rfl,hle2⟩;rw[hcl];refine lY I I I (SU.not I) (lU (wF I I) (tZ (SC.condF I (kP (tN (sQ ?_))))));have hv2:=hv1.mono hle2;have hys2:=SlA.mono hys hle2;have hle02:=hle1.trans hle2;refine SC.cut (ι:=PH) (fun _=>[(2,pp b2 0),(3,pp b3 0),(4,pp b4 0),(5,pp b5 0),(7,pp b7 0),(48,vb (!decide (aj l e.cell=[e.other])||decide (0<(aj l e.other).length)))]) (fun g'=>g') (fun _=>pt b7 (.cells #[vi yi,vi yd,.slice yp ((findC l e.other).getD bA).sides.length yc] 53 (0,0))::pt b5 (.cells #[.slice none 0 0,vb false] 46 (0,0))::pt b4 (.cells #[.slice none 0 0] 29 (0,0))::pt b3 (.cells (edV e (.slice sp e.sides.length sc) (.slice pq e.pairs.length pc)) 35 (0,0))::pt b2 (.cells #[.slice p l.length c] 29 (0,0))::s) (fun g'=>Le g2 g') ?_ ?_
 ·by_cases hab:aj l e.cell=[e.other]
  ·refine SC.drawX [] Tryz.mixed kR ?_;refine SX.q (i:=0) I kR (qV 4 ar ag I I I) dC (SX.u (i:=1) I kR (fA aK I zT3 I) dC (SX.q (i:=2) I kR (qL (v:=vi e.cell) iT3 I (cO 3 I I)) dC (SX.u (i:=4) I kR (fA aK I zT3 I) dC (SX.q (i:=5) I kR (qL (v:=vi e.other) iT3 I (cO 3 I I)) dC ?_))))
   repeat' (first
    | (refine SB.o (i:=3) rfl (cL call77 rfl (dh E _ _ _ l e.cell (by exact hv2.mono (by assumption)) hf)) dC (.inr (by rintro v35 g3 _ ⟨rfl,hle3,ha3⟩; exact⟨by exact Le.trans (by assumption) (by assumption),(by exact .refl _)⟩)) ?_; rintro v35 g3 _ ⟨rfl,hle3,ha3⟩; first | have hleB:=hle4.trans hle3 | skip)
    | (refine SB.o (i:=3) rfl (cL call77 rfl (dh E _ _ _ l e.cell (by exact hv2) hf)) dC (.inr (by rintro v35 g3 _ ⟨rfl,hle3,ha3⟩; exact⟨by assumption,(by exact .refl _)⟩)) ?_; rintro v35 g3 _ ⟨rfl,hle3,ha3⟩; first | have hleB:=hle4.trans hle3 | skip)
    | (refine SB.o (i:=6) rfl (bS sty83 rfl rfl rfl (ae ⟨rfl,trivial⟩) dC) dC (.inr (by rintro _ _ _ ⟨b38,rfl,rfl,rfl⟩; exact⟨by exact Le.refl _,(by exact .cons _ (.refl _))⟩)) ?_; rintro _ _ _ ⟨b38,rfl,rfl,rfl⟩; refine SX.to (fun w hw=>At.litRow (e:=encInt) (l:=[e.other]) (n:=0) hw rfl rfl dC) ?_; refine SX.freezeRow fun g4 hle4 hs4=>?_; first | have hleB:=hle3.trans hle4 | skip)
    | (refine SB.o (i:=6) rfl (bS sty83 rfl rfl rfl (ae ⟨rfl,trivial⟩) dC) dC (.inr (by rintro _ _ _ ⟨b38,rfl,rfl,rfl⟩; exact⟨by assumption,(by exact .cons _ (.refl _))⟩)) ?_; rintro _ _ _ ⟨b38,rfl,rfl,rfl⟩; refine SX.to (fun w hw=>At.litRow (e:=encInt) (l:=[e.other]) (n:=0) hw rfl rfl dC) ?_; refine SX.freezeRow fun g4 hle4 hs4=>?_; first | have hleB:=hle3.trans hle4 | skip)
    | (refine SB.o (i:=7) rfl (cL call116 rfl (hE E _ _ _ _ (aj l e.cell) [e.other] (by exact SlA.mono ha3 (by assumption)) (by exact hs4) hal)) dC (.inr (by rintro _ _ _ ⟨rfl,rfl,rfl⟩; exact⟨by assumption,(by exact .refl _)⟩)) ?_; rintro _ _ _ ⟨rfl,rfl,rfl⟩; refine SX.u (i:=8) rfl kD (SU.eq (v':=vb false) (SU.not rfl) (congrArg vb (by rw[decide_eq_true hab]; rfl))) dC ?_; refine SX.u (i:=9) rfl kD (mV rfl) dC ?_; refine SX.gq (i:=10) rfl kD (gT rfl rfl rfl dC) (qV 4 ar ag rfl rfl rfl) dC ?_; refine SX.gu (i:=11) rfl kD (gT rfl rfl rfl dC) (fA aK rfl zT3 rfl) dC ?_; refine SX.gq (i:=12) rfl kD (gT rfl rfl rfl dC) (qL (v:=vi e.other) iT3 rfl (cO 3 rfl rfl)) dC ?_)
    | (refine SB.o (i:=7) rfl (cL call116 rfl (hE E _ _ _ _ (aj l e.cell) [e.other] (by exact ha3) (by exact SlA.mono hs4 (by assumption)) hal)) dC (.inr (by rintro _ _ _ ⟨rfl,rfl,rfl⟩; exact⟨by assumption,(by exact .refl _)⟩)) ?_; rintro _ _ _ ⟨rfl,rfl,rfl⟩; refine SX.u (i:=8) rfl kD (SU.eq (v':=vb false) (SU.not rfl) (congrArg vb (by rw[decide_eq_true hab]; rfl))) dC ?_; refine SX.u (i:=9) rfl kD (mV rfl) dC ?_; refine SX.gq (i:=10) rfl kD (gT rfl rfl rfl dC) (qV 4 ar ag rfl rfl rfl) dC ?_; refine SX.gu (i:=11) rfl kD (gT rfl rfl rfl dC) (fA aK rfl zT3 rfl) dC ?_; refine SX.gq (i:=12) rfl kD (gT rfl rfl rfl dC) (qL (v:=vi e.other) iT3 rfl (cO 3 rfl rfl)) dC ?_)
    | (refine SB.go (i:=13) rfl (gT rfl rfl rfl dC) (cL call77 rfl (dh E _ _ _ l e.other (hv2.mono hleB) hf)) dC (.inr (by rintro v45 g5 _ ⟨rfl,hle5,ha5⟩; exact⟨by exact Le.trans (by assumption) (by assumption),(by exact .refl _)⟩)) ?_; rintro v45 g5 _ ⟨rfl,hle5,ha5⟩; obtain ⟨q5,d5,rfl⟩:=SlA.form ha5; have hleF:=hleB.trans hle5; refine SX.gu (i:=14) rfl kD (gT rfl rfl rfl dC) (eN aI rfl) dC ?_; refine SX.gu (i:=15) rfl kD (gT rfl rfl rfl dC) (SU.eq (v':=vb (decide (0<(aj l e.other).length))) (gR rfl rfl) (congrArg vb (by simp only[gt_iff_lt,Int.natCast_pos]))) dC ?_; refine SX.u (i:=16) rfl kD (wF rfl rfl) dC ?_)
    | refine SX.br2 3 6 kD ?_ ?_
    | refine SX.br1 6 kD ?_
    | refine SX.br1 7 kD ?_
    | refine SX.br1 13 kD ?_
    | refine SX.br1 3 kD ?_
    | (refine SX.nil kD ?_; exact ST.mid _ ⟨rfl,rfl,rfl,rfl,rfl,(by rw[decide_eq_true hab]; rfl),trivial⟩ rfl rfl hleF))
  ·refine SC.drawX [] Tryz.mixed kR ?_;refine SX.q (i:=0) I kR (qV 4 ar ag I I I) dC (SX.u (i:=1) I kR (fA aK I zT3 I) dC (SX.q (i:=2) I kR (qL (v:=vi e.cell) iT3 I (cO 3 I I)) dC (SX.u (i:=4) I kR (fA aK I zT3 I) dC (SX.q (i:=5) I kR (qL (v:=vi e.other) iT3 I (cO 3 I I)) dC ?_))))
   repeat' (first
    | (refine SB.o (i:=3) rfl (cL call77 rfl (dh E _ _ _ l e.cell (by exact hv2.mono (by assumption)) hf)) dC (.inr (by rintro v35 g3 _ ⟨rfl,hle3,ha3⟩; exact⟨by exact Le.trans (by assumption) (by assumption),(by exact .refl _)⟩)) ?_; rintro v35 g3 _ ⟨rfl,hle3,ha3⟩; first | have hleB:=hle4.trans hle3 | skip)
    | (refine SB.o (i:=3) rfl (cL call77 rfl (dh E _ _ _ l e.cell (by exact hv2) hf)) dC (.inr (by rintro v35 g3 _ ⟨rfl,hle3,ha3⟩; exact⟨by assumption,(by exact .refl _)⟩)) ?_; rintro v35 g3 _ ⟨rfl,hle3,ha3⟩; first | have hleB:=hle4.trans hle3 | skip)
    | (refine SB.o (i:=6) rfl (bS sty83 rfl rfl rfl (ae ⟨rfl,trivial⟩) dC) dC (.inr (by rintro _ _ _ ⟨b38,rfl,rfl,rfl⟩; exact⟨by exact Le.refl _,(by exact .cons _ (.refl _))⟩)) ?_; rintro _ _ _ ⟨b38,rfl,rfl,rfl⟩; refine SX.to (fun w hw=>At.litRow (e:=encInt) (l:=[e.other]) (n:=0) hw rfl rfl dC) ?_; refine SX.freezeRow fun g4 hle4 hs4=>?_; first | have hleB:=hle3.trans hle4 | skip)
    | (refine SB.o (i:=6) rfl (bS sty83 rfl rfl rfl (ae ⟨rfl,trivial⟩) dC) dC (.inr (by rintro _ _ _ ⟨b38,rfl,rfl,rfl⟩; exact⟨by assumption,(by exact .cons _ (.refl _))⟩)) ?_; rintro _ _ _ ⟨b38,rfl,rfl,rfl⟩; refine SX.to (fun w hw=>At.litRow (e:=encInt) (l:=[e.other]) (n:=0) hw rfl rfl dC) ?_; refine SX.freezeRow fun g4 hle4 hs4=>?_; first | have hleB:=hle3.trans hle4 | skip)
    | (refine SB.o (i:=7) rfl (cL call116 rfl (hE E _ _ _ _ (aj l e.cell) [e.other] (by exact SlA.mono ha3 (by assumption)) (by exact hs4) hal)) dC (.inr (by rintro _ _ _ ⟨rfl,rfl,rfl⟩; exact⟨by assumption,(by exact .refl _)⟩)) ?_; rintro _ _ _ ⟨rfl,rfl,rfl⟩; refine SX.u (i:=8) rfl kD (SU.eq (v':=vb true) (SU.not rfl) (congrArg vb (by rw[decide_eq_false hab]; rfl))) dC ?_; refine SX.u (i:=9) rfl kD (mV rfl) dC ?_; refine SX.off (i:=10) rfl kD (gZ rfl rfl rfl dC) dC ?_; refine SX.off (i:=11) rfl kD (gZ rfl rfl rfl dC) dC ?_; refine SX.off (i:=12) rfl kD (gZ rfl rfl rfl dC) dC ?_)
    | (refine SB.o (i:=7) rfl (cL call116 rfl (hE E _ _ _ _ (aj l e.cell) [e.other] (by exact ha3) (by exact SlA.mono hs4 (by assumption)) hal)) dC (.inr (by rintro _ _ _ ⟨rfl,rfl,rfl⟩; exact⟨by assumption,(by exact .refl _)⟩)) ?_; rintro _ _ _ ⟨rfl,rfl,rfl⟩; refine SX.u (i:=8) rfl kD (SU.eq (v':=vb true) (SU.not rfl) (congrArg vb (by rw[decide_eq_false hab]; rfl))) dC ?_; refine SX.u (i:=9) rfl kD (mV rfl) dC ?_; refine SX.off (i:=10) rfl kD (gZ rfl rfl rfl dC) dC ?_; refine SX.off (i:=11) rfl kD (gZ rfl rfl rfl dC) dC ?_; refine SX.off (i:=12) rfl kD (gZ rfl rfl rfl dC) dC ?_)
    | (refine SB.offo (i:=13) rfl (gZ rfl rfl rfl dC) dC ⟨by assumption,(by exact .refl _)⟩ ?_; refine SX.off (i:=14) rfl kD (gZ rfl rfl rfl dC) dC ?_; refine SX.off (i:=15) rfl kD (gZ rfl rfl rfl dC) dC ?_; refine SX.u (i:=16) rfl kD (wT rfl rfl) dC ?_)
    | refine SX.br2 3 6 kD ?_ ?_
    | refine SX.br1 6 kD ?_
    | refine SX.br1 7 kD ?_
    | refine SX.br1 13 kD ?_
    | refine SX.br1 3 kD ?_
    | (refine SX.nil kD ?_; exact ST.mid _ ⟨rfl,rfl,rfl,rfl,rfl,(by rw[decide_eq_false hab]; rfl),trivial⟩ rfl rfl hleB))
 rintro g3 hle3;try dsimp only at hle3 ⊢
 have hle03:=hle02.trans hle3;refine iQ I (fun hcond=>?_) (fun hcond=>?_)
 ·have hcode:cq l e=32:=by
   unfold cq;rw[ho,hcl,Bool.and_true,if_pos rfl,if_neg];rintro ⟨h1,h2⟩;rw[decide_eq_true h1,decide_eq_false h2] at hcond;cases hcond
  rw[hcode];refine rZ (lK (qV 4 ar ag I I I) (lU (SU.build I buildZ46) (oZ (sK 2 ag I I I I I sB) ?_)));refine oZ (sK 1 bC I I I I I sB) ?_;refine aT I (rE (tR ?_));exact ST.retCCT 2 1 s (.inl I) results74 I I I ar ag fD bC I I I I uR ⟨I,hle03,_,_,_,_,I,hv2.mono hle3,fun h=>by cases h⟩
 rw[Bool.or_eq_false_iff,Bool.not_eq_false',decide_eq_true_iff,decide_eq_false_iff_not] at hcond;obtain ⟨hab,hno⟩:=hcond;have hcode:cq l e=0:=by
  unfold cq;rw[ho,hcl,Bool.and_true,if_pos rfl,if_pos ⟨hab,hno⟩]
 rw[hcode];have hch:cJ l e=((((findC l e.other).getD bA).sides.filter fun x=>!decide (x.cell=e.cell))).map fun x=>(x.cell,-sgF ((findC l e.other).getD bA).sides e.cell * x.sign):=rfl;rw[hch];have hys3:=SlA.mono hys2 hle3;have hv3:=hv2.mono hle3;generalize hS:((findC l e.other).getD bA).sides=S at *;refine kP (tN (rZ (aT I (sQ (rZ (aT I (bK ?_)))))));refine oP (ι:=Nat) (fun k=>[(2,pp b2 0),(3,pp b3 0),(4,pp b4 0),(5,pp b5 0),(7,pp b7 0),(9,vi (sgF (S.take k) e.cell)),(10,vi k)]) (fun _=>g3) (fun _=>pt b7 (.cells #[vi yi,vi yd,.slice yp S.length yc] 53 (0,0))::pt b5 (.cells #[.slice none 0 0,vb false] 46 (0,0))::pt b4 (.cells #[.slice none 0 0] 29 (0,0))::pt b3 (.cells (edV e (.slice sp e.sides.length sc) (.slice pq e.pairs.length pc)) 35 (0,0))::pt b2 (.cells #[.slice p l.length c] 29 (0,0))::s)
  (fun k=>k≤S.length) (fun k=>S.length - k) 0 sB rfl rfl (Nat.zero_le _) ?_
 rintro k hk;try dsimp only at hk ⊢
 refine sQ (sW I (lU (fA aq I aU I) (lK (qL (v:=.slice yp S.length yc) bw I (cO 0 I I)) (lU (eN aN I) (lU (lS I I) (tZ ?_))))));refine iP I (fun hlt=>?_) (fun hlt=>?_)
 ·have hkl:k<S.length:=oM;have hb1:=SlA.based hys3 oM;have hgk:S[((k:Nat):Int).toNat]?=some S[k]:=gE hkl;have hsucc:=yU hkl e.cell;generalize S[k]=x at *;obtain ⟨xc,xs⟩:=x;dsimp only at hsucc;refine kP (tN (sQ (bK (sQ ?_))));refine dW [] [(0,2),(1,1),(2,2),(3,2),(4,2),(5,1),(6,2),(7,1),(8,2)] Tryz.mixed kR ?_;refine pU I (fA aq I aU I) (pK I (qL (v:=.slice yp S.length yc) bw I (cO 0 I I)) (pU I (mV I) (pU I (iA aN aG I I hb1 oM sL) (pU I (fC cl I zT3 I hb1) (pK I (aZ (e:=encSide) (o:=0) (u:=vi xc) iT3 I (SlA.rd hys3) hgk I) (pU I (fA aK I zT3 I) (pK I (qL (v:=vi e.cell) iT3 I (cO 3 I I)) (pU I (eQ I I) (pN (tN ?_))))))))));refine iP I (fun hx=>?_) (fun hx=>?_)
  ·rw[if_pos hx] at hsucc;refine rG (lU (fA aq I aU I) (lK (qL (v:=.slice yp S.length yc) bw I (cO 0 I I)) (lM I (lU (iA aN aG I I hb1 oM sL) (lU (fC cl I zT3 I hb1) (lK (aZ (e:=encSide) (o:=1) (u:=vi xs) iT3 I (SlA.rd hys3) hgk I) (lA I (nL (bN (tN (rG (lM I (lU (aD I I oM) (lA I (nL ?_)))))))))))))));exact gA (k+1) ⟨rfl,rfl,rfl,rfl,rfl,(by rw[hsucc]; rfl),rfl,trivial⟩ rfl rfl oM oM
  ·rw[if_neg hx] at hsucc;refine kP (bN (tN (rG (lM I (lU (aD I I oM) (lA I (nL ?_)))))));exact gA (k+1) ⟨rfl,rfl,rfl,rfl,rfl,(by rw[hsucc]; rfl),rfl,trivial⟩ rfl rfl oM oM
 have hkk:S.take k=S:=tL oM;rw[hkk];have hsgv:=BF S e.cell hsg;generalize sgF S e.cell=sg at *;have hneg:IntKind.i64.wrap (0 - sg) = -sg:=by rcases hsgv with h | h | h <;> subst h <;> decide
 clear hk hlt hkk;refine xI (tX (tX (bX (tN (rZ (aT I (sQ (rZ (aT I (bK (SC.nilRow 77 3 ?_)))))))))));refine oP (ι:=Nat×PH×Value) (fun i=>[(2,pp b2 0),(3,pp b3 0),(4,pp b4 0),(5,pp b5 0),(7,pp b7 0),(9,vi sg),(11,i.2.2),(12,vi i.1)]) (fun i=>i.2.1) (fun i=>rowA bV 77 i.2.2 (((S.take i.1).filter fun x=>!decide (x.cell=e.cell)).map fun x=>(x.cell,-sg * x.sign))::pt b7 (.cells #[vi yi,vi yd,.slice yp S.length yc] 53 (0,0))::pt b5 (.cells #[.slice none 0 0,vb false] 46 (0,0))::pt b4 (.cells #[.slice none 0 0] 29 (0,0))::pt b3 (.cells (edV e (.slice sp e.sides.length sc) (.slice pq e.pairs.length pc)) 35 (0,0))::pt b2 (.cells #[.slice p l.length c] 29 (0,0))::s)
  (fun i=>i.1≤S.length∧Le g3 i.2.1) (fun i=>S.length - i.1) (0,g3,.slice none 0 0) sB rfl rfl ⟨Nat.zero_le _,Le.refl _⟩ ?_
 rintro ⟨k,g4,w⟩ ⟨hk,hle4⟩;dsimp only at hk hle4 ⊢;refine sQ (sW I (lU (fA aq I aU I) (lK (qL (v:=.slice yp S.length yc) bw I (cO 1 I I)) (lU (eN aN I) (lU (lS I I) (tZ ?_))))));refine iP I (fun hlt=>?_) (fun hlt=>?_)
 ·have hkl:k<S.length:=oM;have hys4:=SlA.mono hys3 hle4;have hb1:=SlA.based hys3 oM;have hgk:S[((k:Nat):Int).toNat]?=some S[k]:=gE hkl;have hsk:=hsg _ (gM hkl);have hsucc:=zF hkl e.cell;have hel:(((S.take k).filter fun x=>!decide (x.cell=e.cell)).map fun x=>(x.cell,-sg * x.sign)).length≤64:=by
   rw[List.length_map];have:=List.length_filter_le (fun x:Side=>!decide (x.cell=e.cell)) (S.take k);rw[List.length_take] at this;omega
  generalize S[k]=x at *;obtain ⟨xc,xs⟩:=x;dsimp only at hsucc hsk;have hpr : -9223372036854775808 ≤ -sg * xs ∧ -sg * xs≤9223372036854775807:=by rcases hsgv with h | h | h <;> rcases hsk with h' | h' <;> subst h <;> subst h' <;> decide
  refine kP (tN (sQ (bK (sQ ?_))));refine dW [] [(0,2),(1,1),(2,2),(3,2),(4,2),(5,1),(6,2),(7,1),(8,2)] Tryz.mixed kR ?_;refine pU I (fA aq I aU I) (pK I (qL (v:=.slice yp S.length yc) bw I (cO 1 I I)) (pU I (mV I) (pU I (iA aN aG I I hb1 oM sL) (pU I (fC cl I zT3 I hb1) (pK I (aZ (e:=encSide) (o:=0) (u:=vi xc) iT3 I (SlA.rd hys4) hgk I) (pU I (fA aK I zT3 I) (pK I (qL (v:=vi e.cell) iT3 I (cO 4 I I)) (pU I (nQ I I) (pN (tN ?_))))))))));refine iP I (fun hx=>?_) (fun hx=>?_)
  ·rw[if_neg hx] at hsucc;refine dW [18] [(0,2),(1,2),(2,1),(3,2),(4,2),(5,2),(6,1),(7,2),(8,2),(9,2),(10,1),(11,2),(12,2),(13,2),(14,1),(15,2),(16,0),(17,0),(18,0),(19,2)] Tryz.mixed kR ?_;refine pU I (mV I) (pU I (fA aq I aU I) (pK I (qL (v:=.slice yp S.length yc) bw I (cO 1 I I)) (pU I (mV I) (pU I (iA aN aG I I hb1 oM sL) (pU I (fC cl I zT3 I hb1) (pK I (aZ (e:=encSide) (o:=0) (u:=vi xc) iT3 I (SlA.rd hys4) hgk I) (pU I (mV I) (pU I (SU.eq (v':=vi (-sg)) (SU.neg I) (congrArg vi hneg)) (pU I (fA aq I aU I) (pK I (qL (v:=.slice yp S.length yc) bw I (cO 1 I I)) (pU I (mV I) (pU I (iA aN aG I I hb1 oM sL) (pU I (fC cl I zT3 I hb1) (pK I (aZ (e:=encSide) (o:=1) (u:=vi xs) iT3 I (SlA.rd hys4) hgk I) (pU I (SU.mul I I hpr) (SP.o I (cL call113 I (dT E g4 _ xc (-sg * xs) hpr.1 oM)) dC (.inr iR) ?_))))))))))))))));rintro _ g5 _ ⟨rfl,rfl,hle5⟩;refine SP.o I (bS sty72 I I I (ae ⟨I,trivial⟩) dC) dC (.inr iR) ?_;rintro _ _ _ ⟨b106,rfl,rfl,rfl⟩;refine SP.o I (aP (e:=bV) 0 (xc,-sg * xs) sty72 I I I I I oM oM) dC (.inl dC) ?_;rintro w' _ _ ⟨rfl,rfl⟩;refine pU I (aS I) (pN (bN (tN (rG (lM I (lU (aD I I oM) (lA I (nL ?_))))))));exact gA (k+1,g5,w') sB rfl (by dsimp only; rw[hsucc,List.map_append]; rfl) ⟨by dsimp only; omega,hle4.trans hle5⟩ (by dsimp only; omega)
  ·rw[if_pos (Decidable.not_not.1 hx)] at hsucc;refine kP (bN (tN (rG (lM I (lU (aD I I oM) (lA I (nL ?_)))))));exact gA (k+1,g4,w) sB I (by dsimp only; rw[hsucc]) ⟨by dsimp only; omega,hle4⟩ (by dsimp only; omega)
 have hkk:S.take k=S:=tL oM;rw[hkk];have hv4:=hv3.mono hle4;have hIl:((am l).map fN).length<1099511627776:=by rw[List.length_map]; exact (bJ hf).1
 have hfr:=fj hf [e.cell,e.other];refine xI (tX (tX (bX (tN (fS fun g5 hle5 hs5=>?_)))));obtain ⟨wq,wd,rfl⟩:=Sl.form hs5;have hv5:=hv4.mono hle5;refine SC.cut (ι:=Nat×PH×Option Addr×Nat×Nat) (fun i=>[(2,pp b2 0),(3,pp b3 0),(4,pp b4 0),(5,pp b5 0),(13,pp i.1 0)]) (fun i=>i.2.1) (fun i=>pt i.1 (.cells #[.slice i.2.2.1 i.2.2.2.1 i.2.2.2.2] 44 (0,0))::pt b7 (.cells #[vi yi,vi yd,.slice yp S.length yc] 53 (0,0))::pt b5 (.cells #[.slice none 0 0,vb false] 46 (0,0))::pt b4 (.cells #[.slice none 0 0] 29 (0,0))::pt b3 (.cells (edV e (.slice sp e.sides.length sc) (.slice pq e.pairs.length pc)) 35 (0,0))::pt b2 (.cells #[.slice p l.length c] 29 (0,0))::s)
  (fun i=>Le g5 i.2.1∧Ims i.2.1 (.slice i.2.2.1 i.2.2.2.1 i.2.2.2.2) ((((am l).map fN).map (cI e.cell (((S.filter fun x=>!decide (x.cell=e.cell))).map fun x=>(x.cell,-sg * x.sign)))).map (cI e.other []))) ?_ ?_
 ·refine SC.drawX [10] Tryz.mixed kR ?_;refine SX.q (i:=0) I kR (qV 4 ar ag I I I) dC (SX.u (i:=2) I kR (fA aK I zT3 I) dC (SX.q (i:=3) I kR (qL (v:=vi e.cell) iT3 I (cO 3 I I)) dC (SX.u (i:=4) I kR (mV I) dC (SX.u (i:=6) I kR (fA aK I zT3 I) dC (SX.q (i:=7) I kR (qL (v:=vi e.other) iT3 I (cO 3 I I)) dC ?_)))))
  repeat' (first
   | (refine SB.o (i:=1) rfl (cL call111 rfl (fp E g5 _ _ l hv5 hf)) dC (.inr (by rintro _ g6 _ ⟨rfl,hle6,iv,rfl,him⟩; exact⟨by assumption,(by exact .cons _ (.refl _))⟩)) ?_; rintro _ g6 _ ⟨rfl,hle6,iv,rfl,him⟩; obtain ⟨q6,n6,d6,rfl⟩:=him.form)
   | (refine SB.o (i:=1) rfl (cL call111 rfl (fp E g5 _ _ l hv5 hf)) dC (.inr (by rintro _ g6 _ ⟨rfl,hle6,iv,rfl,him⟩; exact⟨by assumption,(by exact .refl _)⟩)) ?_; rintro _ g6 _ ⟨rfl,hle6,iv,rfl,him⟩; obtain ⟨q6,n6,d6,rfl⟩:=him.form)
   | (refine SB.o (i:=5) rfl (cL call114 rfl (ig E g6 _ _ _ _ e.cell _ him hIl (Sl.mono hs5 hle6))) dC (.inr (by rintro _ g7 _ ⟨rfl,hle7,u7,rfl,him7⟩; exact⟨by exact Le.trans (by assumption) (by assumption),(by exact .cons _ (.refl _))⟩)) ?_; rintro _ g7 _ ⟨rfl,hle7,u7,rfl,him7⟩; obtain ⟨q7,n7,d7,rfl⟩:=him7.form; have hle57:=hle6.trans hle7)
   | (refine SB.o (i:=5) rfl (cL call114 rfl (ig E g6 _ _ _ _ e.cell _ him hIl (Sl.mono hs5 hle6))) dC (.inr (by rintro _ g7 _ ⟨rfl,hle7,u7,rfl,him7⟩; exact⟨by exact Le.trans (by assumption) (by assumption),(by exact .refl _)⟩)) ?_; rintro _ g7 _ ⟨rfl,hle7,u7,rfl,him7⟩; obtain ⟨q7,n7,d7,rfl⟩:=him7.form; have hle57:=hle6.trans hle7)
   | (refine SB.o (i:=8) rfl (cL call114 rfl (ig E g7 _ _ _ _ e.other [] him7 (by rw[List.length_map]; exact hIl) (Sl.nil _ _))) dC (.inr (by rintro _ g8 _ ⟨rfl,hle8,u8,rfl,him8⟩; exact⟨by exact Le.trans (by assumption) (by assumption),(by exact .cons _ (.refl _))⟩)) ?_; rintro _ g8 _ ⟨rfl,hle8,u8,rfl,him8⟩; obtain ⟨q8,n8,d8,rfl⟩:=him8.form; have hle58:=hle57.trans hle8)
   | (refine SB.o (i:=8) rfl (cL call114 rfl (ig E g7 _ _ _ _ e.other [] him7 (by rw[List.length_map]; exact hIl) (Sl.nil _ _))) dC (.inr (by rintro _ g8 _ ⟨rfl,hle8,u8,rfl,him8⟩; exact⟨by exact Le.trans (by assumption) (by assumption),(by exact .refl _)⟩)) ?_; rintro _ g8 _ ⟨rfl,hle8,u8,rfl,him8⟩; obtain ⟨q8,n8,d8,rfl⟩:=him8.form; have hle58:=hle57.trans hle8)
   | (refine SB.o (i:=9) rfl (aL zeroValue44) dC (.inr (by rintro _ _ _ ⟨b13,rfl,rfl,rfl⟩; exact⟨by exact Le.refl _,(by exact .cons _ (.refl _))⟩)) ?_; rintro _ _ _ ⟨b13,rfl,rfl,rfl⟩)
   | (refine SB.o (i:=9) rfl (aL zeroValue44) dC (.inr (by rintro _ _ _ ⟨b13,rfl,rfl,rfl⟩; exact⟨by assumption,(by exact .cons _ (.refl _))⟩)) ?_; rintro _ _ _ ⟨b13,rfl,rfl,rfl⟩)
   | (refine SB.on (i:=10) rfl (sK 0 j9 rfl rfl rfl rfl rfl sB) (.inl dC) ?_; rintro _ _ _ ⟨rfl,rfl⟩)
   | refine SX.br2 1 9 kD ?_ ?_
   | refine SX.br2 5 9 kD ?_ ?_
   | refine SX.br2 8 9 kD ?_ ?_
   | refine SX.br1 9 kD ?_
   | refine SX.br1 10 kD ?_
   | refine SX.br1 8 kD ?_
   | refine SX.br1 5 kD ?_
   | refine SX.br1 1 kD ?_
   | (refine SX.nil kD ?_; exact ST.mid (b13,g8,q8,n8,d8) sB rfl rfl ⟨hle58,him8⟩))
 rintro ⟨b13,g8,q8,n8,d8⟩ ⟨hle58,him8⟩;dsimp only at hle58 him8 ⊢;refine sQ ?_;refine SC.drawX [9,10] Tryz.mixed kR ?_;refine SX.q (i:=0) I kR (qV 5 ar ag I I I) dC (SX.u (i:=1) I kR (fA aK I zT3 I) dC (SX.q (i:=2) I kR (qL (v:=vi e.cell) iT3 I (cO 4 I I)) dC (SX.u (i:=3) I kR (fA aK I zT3 I) dC (SX.q (i:=4) I kR (qL (v:=vi e.other) iT3 I (cO 4 I I)) dC ?_))))
 repeat' (first
  | (refine SB.o (i:=5) rfl (bS sty83 rfl rfl rfl (ae sB) dC) dC (.inr (by rintro _ _ _ ⟨b122,rfl,rfl,rfl⟩; exact⟨by exact Le.refl _,(by exact .cons _ (.refl _))⟩)) ?_; rintro _ _ _ ⟨b122,rfl,rfl,rfl⟩; refine SX.to (fun w hw=>At.litRow (e:=encInt) (l:=[e.cell,e.other]) (n:=1) hw rfl rfl dC) ?_; refine SX.freezeRow fun g9 hle9 hi9=>?_)
  | (refine SB.o (i:=6) rfl (cL call112 rfl (jV E g9 _ _ _ l [e.cell,e.other] (hv5.mono (hle58.trans hle9)) hf hi9 (by simp))) dC (.inr (by rintro _ _ _ ⟨rfl,u10,rs10,rfl,hall10,rfl⟩; exact⟨by assumption,(by exact .cons _ (.refl _))⟩)) ?_; rintro _ _ _ ⟨rfl,u10,rs10,rfl,hall10,rfl⟩; refine SX.freezeRow fun g10 hle10 hs10=>?_; obtain ⟨q10,d10,rfl⟩:=Sl.form hs10; have hc10:ao g10 (.slice q10 rs10.length d10) (dj l [e.cell,e.other]):=⟨rs10,hs10,hall10.mono fun _ _=>aw.mono hle10⟩; have hle910:=hle9.trans hle10)
  | (refine SB.o (i:=7) rfl (SQ.sof (qV 0 isAgg44 j9 rfl rfl rfl)) dC (.inr (by rintro _ _ _ ⟨rfl,rfl,rfl⟩; exact⟨by exact Le.refl _,(by exact .refl _)⟩)) ?_; rintro _ _ _ ⟨rfl,rfl,rfl⟩; refine SX.u (i:=8) rfl kD (SU.build rfl (buildS46 _ _ _)) dC ?_)
  | (refine SB.o (i:=7) rfl (SQ.sof (qV 0 isAgg44 j9 rfl rfl rfl)) dC (.inr (by rintro _ _ _ ⟨rfl,rfl,rfl⟩; exact⟨by assumption,(by exact .refl _)⟩)) ?_; rintro _ _ _ ⟨rfl,rfl,rfl⟩; refine SX.u (i:=8) rfl kD (SU.build rfl (buildS46 _ _ _)) dC ?_)
  | (refine SB.ob (i:=7) rfl (SQ.sof (qV 0 isAgg44 j9 rfl rfl rfl)) dC kD ?_; rintro _ _ _ ⟨rfl,rfl,rfl⟩; refine SX.u (i:=8) rfl kD (SU.build rfl (buildS46 _ _ _)) dC ?_)
  | (refine SB.on (i:=9) rfl (sK 3 ag rfl rfl rfl rfl rfl sB) (.inl dC) ?_; rintro _ _ _ ⟨rfl,rfl⟩)
  | (refine SB.on (i:=10) rfl (sK 2 bC rfl rfl rfl rfl rfl sB) (.inl dC) ?_; rintro _ _ _ ⟨rfl,rfl⟩; refine SX.u (i:=11) rfl kD (aS rfl) dC ?_)
  | refine SX.br2 5 7 kD ?_ ?_
  | refine SX.br2 6 7 kD ?_ ?_
  | refine SX.br2 7 9 kD ?_ ?_
  | refine SX.br1 9 kD ?_
  | refine SX.br1 10 kD ?_
  | refine SX.br1 7 kD ?_
  | refine SX.br1 6 kD ?_
  | refine SX.br1 5 kD ?_
  | (refine SX.nil kD ?_; refine tN ?_; refine rE ?_; exact ST.retCCT 3 2 s (.inl rfl) results74 rfl rfl rfl ar ag fD bC rfl rfl rfl rfl uR ⟨rfl,hle03.trans (hle4.trans (hle5.trans (hle58.trans hle910))),_,_,_,_,rfl,hc10,fun _=>him8.mono hle910⟩))
end Go.Proofs.YtackilpikhkijaaGreatDoor
