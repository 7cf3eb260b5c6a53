/- 11 -/
import Derived.Test.YtdepcjnaieflmaaGreatDoorMc10
import Derived.Scope
import Derived.Shelf.SlSortCmp.NoneTotal
set_option linter.unusedSimpArgs false
set_option linter.unusedVariables false
namespace Go.Proofs.YtdepcjnaieflmaaGreatDoor
open _root_.Go.Proofs.Tryz _root_.Go.Proofs.YtdepcjnaieflmaaGreatDoor.Tryz
open Go Go.Sy Go.Pl Go.Proofs
set_option maxRecDepth 100000
set_option maxHeartbeats 1000000
theorem vH (E:World)(g:PH)(s:Own)(v:Value)(l:List Cl)(a:ai g v l)(b:aM l) :
  Ctr Tryz.prog E 45 #[.agg #[v]] g s (fun r g' s'=>r=vb (decide ((aq l).2=0))∧g=g'∧s=s'):=by
 obtain ⟨q,d,rfl⟩:=a.form;refine zb2 (args:=[.agg #[.slice q l.length d]]) func45 I ntmps45 (bE I)<|rZ (bW (bO I) fun c=>?_);refine aT I<|rZ<|lK (qV 0 an ae I I I)<|lW (SO.call call17 I<|m0 E g _ _ l a b) ?_;rintro _ _ _ ⟨rfl,rfl,rfl⟩;exact lM I<|yX I<|yX I<|lA I<|aT I<|sW I<|yE I<|aT I<|rE<|dR (s':=s) uR<|za8 (.inl I) results45 I ⟨I,I,I⟩
section
variable {P:Program}{N:Nat}{E:World}{f:Fr}{g:PH}{s:Own}{dst:Option Tmp}{ty:TypeId}{pos:String}{af:Array Edge}{gd:Option (Nat×Bool)}
variable {t kt et:TypeId}{z:Value}{b:Nat}{l:List (Int×Value)}{x y u:Operand}{k:Int}{v:Value}
theorem SO.insertK (i:Nat)(B:MTy P t kt et z)(C:ev f x=some (.map<|some b))(D:ev f y=some (vi k))(F:ev f u=some v)(m:s[i]?=some (mp b l)) :
  SO P N E ⟨dst,.insert t x y u,ty,pos,af,gd⟩ f g s fun _ g' s'=>g=g'∧s'=s.set i (mp b<|gj l k v) :=
 SO.of_skip fun a w n o=>by
  obtain ⟨es,clk,G,H⟩:=o.own _<|zg4 m;have hb:w.heap[b]?=some (.map es clk):=by simpa [mp] using G
  obtain ⟨d,c,hr,p⟩:=jd B hb H k v;have r:=o.fresh _ (zg4 m) b rfl;obtain ⟨J,K⟩:=MapKept.heap_set (o':=.map d c) hb;refine⟨_,g,s.set i<|mp b<|gj l k v,by simp[execOp,n.ev C,n.ev D,n.ev F,hr];rfl,?_,rfl,rfl⟩;refine o.turn m I ⟨I,(by exact Nat.le_refl _)⟩ I dO (fun q _ A=>K q<|fun e=>A<|by simp[mp,e]) ⟨d,c,by simpa [mp] using J,p⟩ (fun L j=>?_);simp only[mp,zg9] at j;subst j;exact⟨by simpa using r.2,.inl I⟩
end
def qw:List (Int×Value):=[(1,.func (.func 152) #[] #[]),(2,.func (.func 153) #[] #[]),(3,.func (.func 154) #[] #[]),(4,.func (.func 155) #[] #[]),(5,.func (.func 156) #[] #[])]
theorem Tryz.mtyKinds:∃ z,MTy Tryz.prog 143 3 141 z:=⟨_,rfl,rfl,fun _=>rfl⟩
theorem mX (E:World)(g:PH)(s:Own):Ctr Tryz.prog E 101 #[] g s (fun r g' s'=>s=s'∧Le g g'∧∃ b,r = .map (some b)∧Mp g' b qw):=by
 obtain ⟨z,a⟩:=Tryz.mtyKinds;refine zb2 (args:=[]) func101 I ntmps101 (bE I)<|rZ<|aT I<|rZ<|lW (SO.mkMap) ?_;rintro _ _ _ ⟨d,rfl,rfl,rfl⟩;refine lO (SO.insertK 0 a I I I I) ?_;rintro _ _ _ ⟨rfl,rfl⟩;refine lO (SO.insertK 0 a I I I I) ?_;rintro _ _ _ ⟨rfl,rfl⟩;refine lO (SO.insertK 0 a I I I I) ?_;rintro _ _ _ ⟨rfl,rfl⟩;refine lO (SO.insertK 0 a I I I I) ?_;rintro _ _ _ ⟨rfl,rfl⟩;refine lO (SO.insertK 0 a I I I I) ?_;rintro _ _ _ ⟨rfl,rfl⟩;refine lM I<|aT I<|rE ?_;refine ST.to (g':=g) (s':=mp d qw::s) (fun w e=>e) ?_;refine ST.freezeMap fun g1 c hm=>?_;exact za8 (.inl I) results101 I ⟨I,c,d,I,hm⟩
end Go.Proofs.YtdepcjnaieflmaaGreatDoor
namespace Go.Sy
open Go Go.MapKept
def T6:List (Int×Value)→Int→List (Int×Value)
 | [],_=>[]
 | (a,v)::r,k=>if k=a then r else (a,v)::T6 r k
theorem uo (k:Int):∀ (l:List (Int×Value)),(∀ p∈l,p.1≠k)→T6 l k=l
 | [],_=>rfl
 | (a,u)::r,h=>by
  have b:k≠a:=fun e=>h (a,u) dO e.symm;simp only[T6,b,if_false,uo k r (fun p hp=>h p<|by simp[hp])]
theorem Bk (k:Int):∀ (l:List (Int×Value)) (i:Nat),(fnd k l i=none∧∀ p∈l,p.1≠k)∨∃ j v,fnd k l i=some (i+j,v)∧j<l.length∧T6 l k=l.eraseIdx j
 | [],_=>.inl ⟨rfl,by simp⟩
 | (a,v)::r,i=>by
  by_cases h:k=a
  ·subst h;exact .inr ⟨0,v,by simp[fnd],by simp,by simp[T6]⟩
  ·rcases Bk k r (i+1) with ⟨b,c⟩ | ⟨j,v',b,c,d⟩
   ·refine .inl ⟨by simp[fnd,h,b],fun p hp=>?_⟩
    rcases zf3.1 hp with e | e
    ·rw[e];exact fun f=>h f.symm
    ·exact c p e
   ·exact .inr ⟨j+1,v',by simp[fnd,h,b];omega,by simpa using c,by simp[T6,h,d]⟩
theorem oB {α β:Type}(f:α→β):∀ (l:List α) (j:Nat),(l.eraseIdx j).map f=(l.map f).eraseIdx j
 | [],_=>rfl
 | _::_,0=>rfl
 | x::l,j+1=>ze4 (List.cons<|f x)<|oB f l j
section
variable {P:Program}{w:World}{t kt et ty:TypeId}{z:Value}{b:Nat}{es:Array MapEntry}{clk:Nat}{l:List (Int×Value)}
theorem qD (e:MTy P t kt et z)(hb:w.heap[b]?=some (.map es clk))(hm:vR l es clk)(k:Int) :
  ∃ c a,(Builtin.delete_ #[t,kt] ty #[.map<|some b,vi k]).run P w = .ok (.tuple #[]) { w with heap:=w.heap.setIfInBounds b (.map c a) }∧vR (T6 l k) c a:=by
 have o:=kC k es.toList l 0 hm.1;have f:=MapKept.run_findKey (w:=w) e.key o;have m:=MapKept.run_checkKey (P:=P) (w:=w) e.key (k:=vi k) rfl es.isEmpty 9999;have n:es.toList.length=l.length:=by have:=ze4 List.length hm.1;simpa using this
 rcases Bk k l 0 with ⟨hn,g⟩ | ⟨j,u,p,r,d⟩
 ·refine⟨es,clk,?_,?_⟩
  ·rw[hn] at f;simp[Builtin.delete_,run_underlying e.und,MapKept.run_getObj_map hb,m,f,MapKept.run_setObj_map _ hb,Result.andThen]
  ·rw[uo k l g];exact hm
 ·rw[p,Nat.zero_add] at f;refine⟨es.eraseIdxIfInBounds j,clk,?_,?_,stamped_erase hm.2 j⟩
  ·simp[Builtin.delete_,run_underlying e.und,MapKept.run_getObj_map hb,m,f,MapKept.run_setObj_map _ hb,Result.andThen]
  ·have i:j<es.size:=by
    have q:j<es.toList.length:=oM;simpa using q
   rw[d];unfold Array.eraseIdxIfInBounds;rw[dif_pos i,Array.toList_eraseIdx,oB,hm.1,← oB]
end
section
variable {P:Program}{N:Nat}{E:World}{ops:Array Oper}{Q:Exit→Act→World→Prop}{f:Fr}{g:PH}{s:Own}{dst:Option Tmp}{ty:TypeId}{pos:String}{af:Array Edge}{gd:Option (Nat×Bool)}
variable {t kt et:TypeId}{z:Value}{b:Nat}{l:List (Int×Value)}{x y:Operand}{k:Int}
theorem SO.delete (i:Nat)(v:MTy P t kt et z)(A:ev f x=some (.map<|some b))(B:ev f y=some (vi k))(m:s[i]?=some (mp b l)) :
  SO P N E ⟨dst,.call ⟨.builtin .delete,#[x,y],#[t,kt]⟩,ty,pos,af,gd⟩ f g s fun _ g' s'=>g=g'∧s'=s.set i (mp b<|T6 l k) :=
 SO.of_run fun a w u n=>by
  obtain ⟨es,clk,C,D⟩:=n.own _<|zg4 m;have hb:w.heap[b]?=some (.map es clk):=by simpa [mp] using C
  obtain ⟨d,c,hr,o⟩:=qD (ty:=ty) v hb D k;have p:=n.fresh _ (zg4 m) b rfl;obtain ⟨F,G⟩:=MapKept.heap_set (o':=.map d c) hb;refine⟨_,_,g,s.set i<|mp b<|T6 l k,by simp[execOp,resolve,invoke,builtin,u.ev A,u.ev B,hr];exact⟨I,I⟩,?_,I,I⟩;refine n.turn m I ⟨I,(by exact Nat.le_refl _)⟩ I dO (fun q _ r=>G q<|fun e=>r<|by simp[mp,e]) ⟨d,c,by simpa [mp] using F,o⟩ (fun H j=>?_);simp only[mp,zg9] at j;subst j;exact⟨by simpa using p.2,.inl I⟩
end
end Go.Sy
namespace Go.Sy
open Go
section
variable {P:Program}{N:Nat}{E:World}{f:Fr}{g:PH}{s:Own}{dst:Option Tmp}{ty:TypeId}{pos:String}{af:Array Edge}{gd:Option (Nat×Bool)}
theorem SQ.sof {o:Oper}{v:Value}(h:SQ P N E o f g s v):SO P N E o f g s fun v' g' s'=>v'=v∧g=g'∧s=s':=SO.mono h.so fun _ _ _ ⟨a,b,c⟩=>⟨a,b.symm,c.symm⟩
theorem SQ.loadOne {x:Operand}{T:TypeId}{b o:Nat}{v:Value}(c:∀ w,(isAgg T).run P w = .ok true w)(d:∀ w,(sizeOf T).run P w = .ok 1 w)(e:ev f x=some (pp b o))(hc:iu g s ⟨b,o,none⟩ v) :
  SQ P N E ⟨dst,.load T x,ty,pos,af,gd⟩ f g s (.agg #[v]) :=
 SQ.loadAggAt (vs:=[v]) c d e rfl fun j u a=>by
  cases j with
  | zero=>simp at a;subst a;exact hc
  | succ j=>simp at a
end
section
variable {α:Type}{k:Nat}{P:Program}{N:Nat}{E:World}{f:Fr}{g:PH}{s:Own}{dst:Option Tmp}{ty:TypeId}{pos:String}{af:Array Edge}{gd:Option (Nat×Bool)}
theorem SO.appNewA {e:Enc α k}{bytes:Nat}{x y:Operand}{t T:TypeId}{z u:Value}{p:Option Addr}{m:List α}(c:STy P t T k bytes z)(d:ev f x=some (.slice p 0 0))(i:ev f y=some u)(j:SlA e g u m)
  (hb:m.length * bytes≤140737488355328) (b:m.length≤4611686018427387904) :
  SO P N E ⟨dst,.call ⟨.builtin .append,#[x,y],#[t,t]⟩,ty,pos,af,gd⟩ f g s fun v' g' s'=>g=g'∧s'=rowA e T v' m::s:=fun a w n o =>
 aQ (e:=e) (l:=[]) (s:=rowA e T (.slice p 0 0) []::s) 0 c d i rfl j (by simpa using hb) (by simpa using b) a w n (o.emptyRow T k p)
end
section
variable {P:Program}{N:Nat}{E:World}{f:Fr}{g:PH}{s:Own}{fn:Func}{R:Value→PH→Own→Prop}{e:Exit}
theorem ST.retCCT {T U T' U':TypeId}{t j u b z k A:Nat}{cs cs':Array Value}{G l:Nat×Nat}{x:Value}(i H:Nat)(s':Own)(J:e = .ret∨e = .normal)(hr:fn.results = #[.cell t T,.cell j T',.tmp u])(K:aN f t=some (pp b 0))(m:aN f j=some (pp z 0))(L:aN f u=some x)
  (M:∀ w,(isAgg T).run P w = .ok true w) (O:∀ w,(sizeOf T).run P w = .ok k w) (n:∀ w,(isAgg T').run P w = .ok true w) (o:∀ w,(sizeOf T').run P w = .ok A w)
  (Q:s[i]?=some (pt b<|.cells cs U G)) (hc:cs.size=k) (p:s[H]?=some (pt z<|.cells cs' U' l)) (q:cs'.size=A) (r:s'.Sublist s) (S:R (.tuple #[.agg cs,.agg cs',x]) g s'):ST N E (bodyPost P fn<|ne E R) e f g s :=
 fun a w c v=>by
  have V:=cg (P:=P) v M (by rw[hc];exact O) Q;have y:=cg (P:=P) v n (by rw[q];exact o) p;have B:=c.at_ t _ K;have d:=c.at_ j _ m;have C:=c.at_ u _ L;simp only[Array.getD_eq_getD_getElem?] at B d C;have D:(results fn a.tmps).run P w = .ok (.tuple #[.agg cs,.agg cs',x]) w:=by simp[results,hr,asAddr,pp,B,d,V,y,C]
  have F:ne E R (.returned<|.tuple #[.agg cs,.agg cs',x]) w:=⟨_,g,s',rfl,v.sublist r,S⟩
  rcases J with rfl | rfl
  ·exact⟨c.defers,_,D,F⟩
  ·exact⟨c.defers,_,D,F⟩
end
end Go.Sy
namespace Go.Proofs.YtdepcjnaieflmaaGreatDoor
open _root_.Go.Proofs.Tryz _root_.Go.Proofs.YtdepcjnaieflmaaGreatDoor.Tryz
open Go Go.Sy Go.Pl Go.Proofs
def lL:List Cl→Cl→List Cl
 | [],c=>[c]
 | x::l,c=>if c.id=x.id then c::l else x::lL l c
def CQ:List Rc→Rc→List Rc
 | [],c=>[c]
 | x::l,c=>if c.id=x.id then c::l else x::CQ l c
def AG:List Cl→Int→List Cl
 | [],_=>[]
 | x::l,k=>if k=x.id then l else x::AG l k
def C2:List Rc→Int→List Rc
 | [],_=>[]
 | x::l,k=>if k=x.id then l else x::C2 l k
theorem kG (r:Rc):∀ rs:List Rc,gj (rs.map ap) r.id (rcv r)=(CQ rs r).map ap
 | []=>rfl
 | x::rs=>by
  simp only[zg6,ap,gj,CQ];by_cases h:r.id=x.id
  ·rw[zg3 h,zg3 h];rfl
  ·rw[zg2 h,zg2 h];exact ze4 _<|kG r rs
theorem Bc (k:Int):∀ rs:List Rc,T6 (rs.map ap) k=(C2 rs k).map ap
 | []=>rfl
 | x::rs=>by
  simp only[zg6,ap,T6,C2];by_cases h:k=x.id
  ·rw[zg3 h,zg3 h]
  ·rw[zg2 h,zg2 h];exact ze4 _<|Bc k rs
theorem yW {R:Cl→Rc→Prop}(b:∀ c r,R c r→r.id=c.id){c:Cl}{r:Rc}(h:R c r):∀ {B:List Cl} {rs:List Rc},ax R B rs→ax R (lL B c) (CQ rs r)
 | [],[],_=>⟨h,trivial⟩
 | x::B,y::rs,a=>by
  have e1:=b _ _ h;have e2:=b _ _ a.1;unfold lL CQ;rw[e1,e2];split
  ·exact⟨h,a.2⟩
  ·exact⟨a.1,yW b h a.2⟩
 | [],_::_,a=>a.elim
 | _::_,[],a=>a.elim
theorem y6 {R:Cl→Rc→Prop}(b:∀ c r,R c r→r.id=c.id)(k:Int):∀ {B:List Cl} {rs:List Rc},ax R B rs→ax R (AG B k) (C2 rs k)
 | [],[],_=>trivial
 | x::B,y::rs,a=>by
  have e2:=b _ _ a.1;unfold AG C2;rw[e2];split
  ·exact a.2
  ·exact⟨a.1,y6 b k a.2⟩
 | [],_::_,a=>a.elim
 | _::_,[],a=>a.elim
theorem nK {c:Cl}:∀ {B:List Cl},(∀ x∈B,x.id≠c.id)→lL B c=B++[c]
 | [],_=>rfl
 | x::B,h=>by
  have a:¬ c.id=x.id:=fun e=>h x dO e.symm;unfold lL;rw[zg2 a,nK fun y b=>h y (by simp[b])];rfl
theorem jQ {c:Rc}:∀ {B:List Rc},(∀ x∈B,x.id≠c.id)→CQ B c=B++[c]
 | [],_=>rfl
 | x::B,h=>by
  have a:¬ c.id=x.id:=fun e=>h x dO e.symm;unfold CQ;rw[zg2 a,jQ fun y b=>h y (by simp[b])];rfl
theorem xZ {c y:Cl}:∀ {B:List Cl},y∈lL B c→y=c∨y∈B
 | [],h=>by simpa [lL] using h
 | x::B,h=>by
  unfold lL at h;split at h
  ·rcases zf3.1 h with e | e
   ·exact .inl e
   ·exact .inr (by simp[e])
  ·rcases zf3.1 h with e | e
   ·exact .inr (by simp[e])
   ·rcases xZ e with e | e
    ·exact .inl e
    ·exact .inr (by simp[e])
theorem kz {c:Cl}:∀ {B:List Cl},(B.map Cl.id).Nodup→((lL B c).map Cl.id).Nodup
 | [],_=>by simp[lL]
 | x::B,h=>by
  rw[zg6,zk4] at h;unfold lL;split
  ·rename_i e;rw[zg6,zk4,e];exact h
  ·rename_i e;rw[zg6,zk4];refine⟨fun hm=>?_,kz h.2⟩;obtain ⟨y,b,a⟩:=zf4.1 hm
   rcases xZ b with e3 | e3
   ·exact e (by rw[← e3];exact a)
   ·exact h.1 (by rw[← a];exact zf4.2 ⟨y,e3,I⟩)
theorem pO (k:Int):∀ {B:List Cl},(B.map Cl.id).Nodup→AG B k=B.filter fun c=>!decide (c.id=k)
 | [],_=>rfl
 | x::B,h=>by
  rw[zg6,zk4] at h;unfold AG;by_cases e:k=x.id
  ·rw[zg3 e,zi9];have b:∀ y∈B,(!decide (y.id=k))=true:=fun y d=>by
    have:y.id≠k:=fun a=>h.1 (by rw[← e,← a];exact zf4.2 ⟨y,d,I⟩);simpa using this
   rw[List.filter_eq_self.2 b];simp[e]
  ·rw[zg2 e,zi9,pO k h.2];have:(!decide (x.id=k))=true:=by simpa using fun a=>e a.symm
   rw[zg3 this]
theorem ue {α:Type}{key:α→Int}{l m:List α}(h:l.Perm m)(hn:(l.map key).Nodup):aI key l m:=by
 refine⟨h.length_eq.symm,fun c=>?_⟩;have hp:=h.filter (fun a=>key a == c);have b:∀ q:List α,(q.map key).Nodup→(q.filter fun a=>key a == c).length≤1:=by
  intro q;induction q with
  | nil=>intro _;simp
  | cons x r ih =>
   intro hq;rw[zg6,zk4] at hq;rw[zi9];by_cases e:(key x == c)=true
   ·rw[zg3 e];have:r.filter (fun a=>key a == c)=[]:=lg fun y f g=>hq.1 (by
     have e1:key x=c:=by simpa using e
     rw[e1,← g];exact zf4.2 ⟨y,f,I⟩)
    rw[this];simp
   ·rw[zg2 e];exact ih hq.2
 have d:=b l hn
 match hl:l.filter (fun a=>key a == c),hm:m.filter (fun a=>key a == c) with
 | [],[]=>rfl
 | [],y::t=>rw[hl,hm] at hp;exact absurd hp.length_eq dO
 | x::t,[]=>rw[hl,hm] at hp;exact absurd hp.length_eq dO
 | x::t,y::u =>
  rw[hl,hm] at hp;rw[hl] at d;have i:t=[]:=zf6 (by simpa using d);subst i;have:=hp.length_eq;have j:u=[]:=zf6 (by simpa using this.symm);subst j;have:=hp.subset<|List.mem_cons_self ..;simp at this;rw[this]
theorem vO {l m:List Cl}(h:l.Perm m)(hn:(l.map Cl.id).Nodup):aa l=aa m:=by
 have:sortBy Cl.id l=sortBy Cl.id m:=(dj l).unique (dj m)<|(co l).symm.trans<|(ue h hn).trans<|co m;unfold aa;rw[this]
set_option maxRecDepth 100000
set_option maxHeartbeats 1000000
structure Ed where
 kind:Int
 cell:Int
 dim:Int
 new:Int
 other:Int
 sides:List aj
 pairs:List Pr
def EdR (g:PH)(v:Value)(e:Ed):Prop:=∃ sv pv,v = .agg #[vi e.kind,vi e.cell,vi e.dim,vi e.new,vi e.other,sv,pv]∧SlA encSide g sv e.sides∧SlA ei g pv e.pairs
theorem EdR.mono {g g':PH}{v:Value}{e:Ed}(h:EdR g v e)(hl:Le g g'):EdR g' v e:=by
 obtain ⟨sv,pv,a,b,c⟩:=h;exact⟨sv,pv,a,za5 b hl,za5 c hl⟩
abbrev edP (bx:Nat)(u:Value)(mb ms:Nat)(bk:Bool):Ent:=pt bx (bY #[u,.map<|some mb,.map<|some ms,vb bk] 187)
theorem Tryz.build187 (u:Value)(h:u.cells = #[u])(x y:Option Nat)(w:World):(Instr.build 187 #[(0,.agg #[u]),(1,.map x),(2,.map y)]).run Tryz.prog w = .ok (.agg #[u,.map x,.map y,vb false]) w:=by
 have a:∀ x,(Value.map x).cells = #[.map x]:=fun _=>rfl;have b:(Value.agg #[u]).cells = #[u]:=rfl;simp[Instr.build,Instr.fill,a,b];rfl
theorem Au {R:Cl→Rc→Prop}(d:∀ c r,R c r→r.id=c.id){tl:List Cl}{rs:List Rc}(h:ax R tl rs)(k:Int):∃ r,(ep (rs.map ap) k).getD (.agg #[vi 0,vi 0,.slice none 0 0])=rcv r∧(ep (rs.map ap) k).isSome=(ag tl k).isSome:=by
 rcases m7 d h k with ⟨b,a⟩ | ⟨c,r,b,a,e⟩
 ·exact⟨vd,by rw[a];rfl,by unfold ag;rw[b,a];rfl⟩
 ·exact⟨r,by rw[a];rfl,by unfold ag;rw[b,a];rfl⟩
theorem Br (E:World)(g:PH)(s:Own)(v:Value)(l:List aj)(a:SlA encSide g v l)(hn:l.length<1099511627776) :
  Ctr Tryz.prog E 138 #[v] g s (fun r g' s'=>g=g'∧s'=rowA encSide 80 r l::s):=by
 obtain ⟨p,c,rfl⟩:=za4 a;refine zb2 (args:=[.slice p l.length c]) func138 I ntmps138 (bE I)<|rZ<|aT I<|sQ<|sW I<|lU (SU.eqlNil a7 I I)<|tZ<|iQ I (fun hp=>?_) (fun hp=>?_)
 ·refine rZ<|aT I<|rE<|tR ?_;have hl:l=[]:=by
   cases l with
   | nil=>rfl
   | cons x r =>
    have hb:=za6 a dO;cases p with
    | none=>simp[based] at hb
    | some q=>simp at hp
  subst hl;exact ST.nilRow 80 2<|za8 (.inl I) results138 I ⟨I,I⟩
 ·refine kP<|tN<|rZ<|lW (bS sty35 I I I (ab trivial) dC) ?_;rintro _ _ _ ⟨b,rfl,rfl,rfl⟩;refine SL.emptyRow 80 2 (some ⟨b,0,none⟩)<|lM I<|lW (SO.appendE (m:=l.length) 0 l.length (l.flatMap encSide.enc) sty35 I I I I I (Sl.rd a) (encSide.length l) (encSide.ones l) oM dO oM oM) ?_;rintro r7 _ _ ⟨rfl,rfl⟩;exact aT I<|rE<|dR (s':=rowA encSide 80 r7 l::s) (.cons_cons _<|.cons _<|.refl _)<|za8 (.inl I) results138 I ⟨I,I⟩
theorem Du (E:World)(g:PH)(s:Own)(v:Value)(l:List Cl)(hv:ai g v l)(X:aM l)(J:((aa l).map Cl.id).Nodup) :
  Ctr Tryz.prog E 102 #[.agg #[v]] g s (fun r g' s'=>Le g g'∧∃ bx u Y ms rs,r=pp bx 0∧ai g' u (aa l)∧ax xE (aa l) rs∧s'=edP bx u Y ms false::mp Y (rs.map ap)::mp ms []::(qe (aa l) rs++s)):=by
 have t:=aB X;refine zb2 (args:=[.agg #[v]]) func102 I ntmps102 (bE I)<|rZ (bW (bO I) fun K=>?_);refine aT I<|rZ<|lK (qV 0 an ae I I I)<|lW (SO.call call34 I<|gU E g _ v l hv X) ?_;rintro _ g1 _ ⟨rfl,y,u,rfl,hc⟩;have L:=hc;obtain ⟨rs,n,m⟩:=hc;obtain ⟨q,d,rfl⟩:=za4 n;refine lW (SO.mkMap) ?_;rintro _ _ _ ⟨f,rfl,rfl,rfl⟩;refine lW (SO.mkMap) ?_;rintro _ _ _ ⟨j,rfl,rfl,rfl⟩;refine lU (za3 I<|build187 _ I _ _) (bW (bO I) fun b=>?_);refine aT I<|sQ<|sW I<|lU (nC I)<|lU (fA kV I ae I)<|lU (fA dA I cq I)<|lK (qL eG I<|cO 0 I I)<|lU (eN aF I)<|lM I<|tZ<|bK ?_;generalize aa l=A at *;have a0:=m.length;have a1:=t.1;refine oP (ι:=Nat×List Rc) (fun i=>[(3,pp b 0),(16,.slice q rs.length d),(17,vi rs.length),(18,vi i.1)]) (fun _=>g1)
  (fun i=>edP b (.slice q rs.length d) f j false::mp j []::mp f (i.2.map ap)::pt K (bY #[v] 29)::(qe (A.take i.1) i.2++s))
  (fun i=>i.1≤rs.length∧ax xE (A.take i.1) i.2) (fun i=>rs.length - i.1) (0,[])
  sB rfl rfl ⟨zf8 _,by simp[ax]⟩ ?_
 rintro ⟨k,acc⟩ ⟨hk,a⟩;dsimp only at hk a ⊢;have M:=a.length;refine rZ<|yL I<|tZ<|sQ<|iP I (fun N=>?_) (fun N=>?_)
 ·have z:k<rs.length:=oM;have o:k<A.length:=oM;have O:=za6 n oM;have P:=m.get (List.getElem?_eq_getElem o)<|List.getElem?_eq_getElem z;have Q:rs[((k:Nat):Int).toNat]?=some rs[k]:=List.getElem?_eq_getElem z;have B:A.take (k+1)=A.take k++[A[k]]:=tS o;have R:=t.2 _<|gM o;have C:∀ x∈acc,x.id≠A[k].id:=fun x hx=>by
   obtain ⟨i,hi,rfl⟩:=zc8 hx;have D:i<(A.take k).length:=oM;have S:i<k:=by rw[ze6] at D;omega
   have T:=(a.get (List.getElem?_eq_getElem D)<|List.getElem?_eq_getElem hi).1;rw[T,List.getElem_take];intro e;have H:=zd1.1 (List.nodup_iff_pairwise_ne.1 J) i k (by rw[ze8];omega) (by rw[ze8];omega) S;simp only[List.getElem_map] at H;exact H e
  generalize rs[k]=x at *;generalize A[k]=cx at *;obtain ⟨xi,xd,xp,xn,xc⟩:=x;obtain ⟨Z,e2,c⟩:=P;dsimp only at Z e2 c;have U:xn=cx.sides.length:=zc2 c;subst U Z e2;refine kP<|tN<|sQ<|bK<|rZ<|lU (iA aF ar I I O oM (show (k:Int)<((rs.length:Nat):Int) by omega)) ?_;refine lK (SQ.elemA dH ar I (za7 n) Q) (bW (aL zm2) fun b5=>?_);refine oZ (sK 0 ar I I I I I sB) ?_;refine tZ<|rZ<|lU (fA ao I aH I)<|lK (qL (v:=.slice xp cx.sides.length xc) bi I<|cO 0 I I)<|lW (SO.call call138 I<|Br E g1 _ _ cx.sides c R) ?_;rintro v24 _ _ ⟨rfl,rfl⟩;refine zd4 fun ⟨w0,F⟩=>?_;obtain ⟨p,d2,rfl⟩:=ah (e:=encSide) (l:=cx.sides) (i:=0) F rfl;clear F w0;refine lU (fA ao rfl aH rfl)<|oZ (SO.store1 1 aH rfl rfl rfl rfl (bE rfl)<|by rfl) ?_;refine tZ ?_;refine dW [7] [(0,2),(1,2),(2,2),(3,1),(4,2),(5,1),(6,1),(7,0)] ze5 kR ?_;refine yM I<|pU I (nC I)<|pU I (fA kV I qd I)<|pK I (qL qf I<|cO 2 I I)<|pU I (fA ao I zT3 I)<|pK I (qL iT3 I<|cO 1 I I)<|pK I (qV 1 dH ar I I I)<|SP.on I (SO.mapUpdate 4 mty64 I I I I) (.inl dC) ?_;rintro _ _ _ ⟨rfl,rfl⟩;refine pN<|bN<|tN<|rG<|yD I<|lM I<|SL.nil ?_;refine ST.to (fun w V=>?_) (g':=g1) (s':=edP b (.slice q rs.length d) f j false::mp j []::mp f ((acc++[(⟨cx.id,cx.dim,⟨p,cx.sides.length,d2⟩⟩:Rc)]).map ap)::pt K (bY #[v] 29)::(qe (A.take<|k+1) (acc++[(⟨cx.id,cx.dim,⟨p,cx.sides.length,d2⟩⟩:Rc)])++s)) ?_
  ·rw[B,pz cx _ M];have G:gj (acc.map ap) cx.id (rcv ⟨cx.id,cx.dim,⟨p,cx.sides.length,d2⟩⟩)=(acc++[(⟨cx.id,cx.dim,⟨p,cx.sides.length,d2⟩⟩:Rc)]).map ap:=by
    rw[← jQ C];exact kG ⟨cx.id,cx.dim,⟨p,cx.sides.length,d2⟩⟩ acc
   rw[← G];have T:=(V.sublist (s':=Gv cx ⟨cx.id,cx.dim,⟨p,cx.sides.length,d2⟩⟩::(edP b (.slice q rs.length d) f j false::mp j []::mp f (gj (acc.map ap) cx.id<|rcv ⟨cx.id,cx.dim,⟨p,cx.sides.length,d2⟩⟩)::pt K (bY #[v] 29)::qe (A.take k) acc)++s)<|.cons_cons _<|.cons _<|.refl _);have H:=T.perm List.perm_middle.symm;simpa using H
  exact ST.again (k+1,_) sB I I ⟨by dsimp only;omega,by
   dsimp only;rw[B];exact a.append ⟨⟨I,I,I⟩,trivial⟩⟩ (by dsimp only;omega)
 ·have W:A.take k=A:=tL oM;rw[W] at a ⊢;refine xI<|tX<|tX<|bX<|tN<|sW I<|aT I<|rE ?_;refine ST.to (g':=g1) (s':=edP b (.slice q rs.length d) f j false::mp f (acc.map ap)::mp j []::(qe A acc++s)) (fun w V=>(V.perm<|List.Perm.cons _<|zk3 _ _ _).sublist<|.cons_cons _<|.cons_cons _<|.cons_cons _<|.cons _<|.refl _) ?_;exact za8 (.inl I) results102 I ⟨y,b,_,f,j,acc,I,L,a,I⟩
theorem rk (E:World)(g:PH)(s:Own)(bx b ms:Nat)(u:Value)(bk:Bool)(k:Int)(R:Cl→Rc→Prop)(f:∀ c r,R c r→r.id=c.id)(B:List Cl)(rs:List Rc)(a:ax R B rs)(i j:Nat)(l:s[i]?=some (edP bx u b ms bk))(m:s[j]?=some (mp b<|rs.map ap)) :
  Ctr Tryz.prog E 196 #[pp bx 0,vi k] g s (fun r g' s'=>r=vb (ag B k).isSome∧g=g'∧s=s'):=by
 obtain ⟨x,d,e⟩:=Au f a k;refine zb2 (args:=[pp bx 0,vi k]) func196 I ntmps196 (bE I)<|rZ<|aT I<|sW I<|lU (nC I)<|lU (fA kV I qd I)<|lK (qL (v:=.map<|some b) qf I<|cO i l I)<|lM I<|lK (SQ.eq (v':=.tuple #[rcv x,vb (ag B k).isSome]) (SQ.lookupOk mty64 I I<|bh.own j m)<|by rw[d,e]) ?_;refine lM I (yX I<|yX I<|bW (aL zm2) fun n=>?_);refine oZ (sK 0 ar I I I I I sB) ?_;refine aT I<|sW I<|aT I<|rE<|dR (s':=s) uR ?_;exact za8 (.inl I) results196 I ⟨I,I,I⟩
theorem xw (E:World)(g:PH)(s:Own)(bx c ms:Nat)(u v:Value)(bk:Bool)(e:Ed)(B:List Cl)(rs:List Rc)(a:ax (ak g) B rs)(i j:Nat)(m:s[i]?=some (edP bx u c ms bk))(n:s[j]?=some (mp c<|rs.map ap))(t:EdR g v e)(l:e.sides.length<1099511627776) :
  Ctr Tryz.prog E 152 #[pp bx 0,v] g s (fun r g' s'=>Le g g'∧((r=vi 54∧(ag B e.cell).isSome=true∧s=s')∨(r=vi 0∧(ag B e.cell).isSome=false∧∃ d,ax (ak g') (lL B ⟨e.cell,e.dim,e.sides⟩) d∧s'=s.set j (mp c<|d.map ap)))):=by
 obtain ⟨sv,pv,rfl,f,w⟩:=t;obtain ⟨sp,p,rfl⟩:=za4 f;refine zb2 (args:=[pp bx 0,.agg #[vi e.kind,vi e.cell,vi e.dim,vi e.new,vi e.other,.slice sp e.sides.length p,pv]]) func152 I ntmps152 (bE I)<|rZ (bW (bO I) fun x=>?_);refine aT I<|sQ<|sW I<|lU (fA a6 I zT3 I)<|lK (qL iT3 I<|cO 0 I I)<|lW (SO.call call196 I<|rk E g _ bx c ms u bk e.cell _ (fun _ _ h=>h.1) B rs a (i+1) (j+1) m n) ?_;rintro _ _ _ ⟨rfl,rfl,rfl⟩;refine tZ<|iQ I (fun hp=>?_) (fun hp=>?_)
 ·exact rZ<|aT I<|rE<|tR<|dR (s':=s) uR<|za8 (.inl I) results152 I ⟨zb9 _,.inl ⟨I,hp,I⟩⟩
 ·refine kP<|tN<|sQ<|dW [14] [(0,2),(1,2),(2,2),(3,1),(4,2),(5,1),(6,2),(7,1),(8,2),(9,1),(10,2),(11,1),(12,0),(13,2),(14,0)] ze5 kR<|yM I<|pU I (nC I)<|pU I (fA kV I qd I)<|pK I (qL (v:=.map<|some c) qf I<|cO (i+1) m I)<|pU I (fA a6 I zT3 I)<|pK I (qL iT3 I<|cO 0 I I)<|pU I (fA a6 I zT3 I)<|pK I (qL iT3 I<|cO 0 I I)<|pU I (fA a6 I zT3 I)<|pK I (qL iT3 I<|cO 0 I I)<|pU I (fA a6 I aH I)<|pK I (qL (v:=.slice sp e.sides.length p) bi I<|cO 0 I I)<|SP.o I (SO.call call138 I<|Br E g _ _ e.sides f l) dC (.inr iR) ?_;rintro v21 _ _ ⟨rfl,rfl⟩;refine SP.freezeRow fun g2 b k=>?_;obtain ⟨q,d2,rfl⟩:=zc3 k;refine pU I (za3 I<|buildF37 _ _ _ I)<|SP.on I (SO.mapUpdate (j+1) mty64 I I I n) (.inl dC) ?_;rintro _ _ _ ⟨rfl,rfl⟩;refine pN<|tN<|rZ<|aT I<|rE<|dR (s':=s.set j<|mp c<|gj (rs.map ap) e.cell<|rcv ⟨e.cell,e.dim,⟨q,e.sides.length,d2⟩⟩) (.cons _<|.refl _)<|za8 (.inl I) results152 I ⟨b,.inr ⟨I,hp,CQ rs ⟨e.cell,e.dim,⟨q,e.sides.length,d2⟩⟩,yW (fun _ _ h=>h.1) ⟨I,I,k⟩ (a.mono fun _ _=>ak.mono b),?_⟩⟩;rw[← kG]
theorem wK (E:World)(g:PH)(s:Own)(bx a ms:Nat)(u v:Value)(bk:Bool)(e:Ed)(A B:List Cl)(rs:List Rc)(q:ai g u A)(w:aM A)(d:ax (ak g) B rs)(i j:Nat)(k:s[i]?=some (edP bx u a ms bk))(t:s[j]?=some (mp a<|rs.map ap))(l:j≠i)(x:EdR g v e) :
  Ctr Tryz.prog E 153 #[pp bx 0,v] g s (fun r g' s'=>Le g g'∧((r=vi 30∧(ag B e.cell).isSome=false∧s=s')∨(r=vi 31∧(ag B e.cell).isSome=true∧0<(aC A e.cell).length∧s=s')∨(r=vi 0∧(ag B e.cell).isSome=true∧aC A e.cell=[]∧s'=(s.set j<|mp a<|(C2 rs e.cell).map ap).set i (edP bx u a ms true)))):=by
 obtain ⟨sv,pv,rfl,y,z⟩:=x;obtain ⟨p,c,rfl⟩:=q.form;refine zb2 (args:=[pp bx 0,.agg #[vi e.kind,vi e.cell,vi e.dim,vi e.new,vi e.other,sv,pv]]) func153 I ntmps153 (bE I)<|rZ (bW (bO I) fun D=>?_);refine aT I<|sQ<|bK<|sW I<|lU (fA a6 I zT3 I)<|lK (qL iT3 I<|cO 0 I I)<|lW (SO.call call196 I<|rk E g _ bx a ms _ bk e.cell _ (fun _ _ h=>h.1) B rs d (i+1) (j+1) k t) ?_;rintro _ _ _ ⟨rfl,rfl,rfl⟩;refine lU (SU.not I)<|aT I<|iQ I (fun hp=>?_) (fun hp=>?_)
 ·exact rZ<|aT I<|rE<|bR<|tR<|dR (s':=s) uR<|za8 (.inl I) results153 I ⟨zb9 _,.inl ⟨I,by simpa using hp,I⟩⟩
 ·have f:(ag B e.cell).isSome=true:=by simpa using hp
  refine sQ<|dW [] [(0,2),(1,2),(2,2),(3,1),(4,2),(5,1),(6,0),(7,2),(8,2),(9,2)] ze5 kR<|yM I<|pU I (nC I)<|pU I (fA kV I ae I)<|pK I (SQ.loadOne an ae I<|cO (v:=.slice p A.length c) (i+1) k I)<|pU I (fA a6 I zT3 I)<|pK I (qL iT3 I<|cO 0 I I)<|SP.o I (SO.call call197 I<|Az E g _ _ A e.cell q w) dC (.inr iR) ?_;rintro v18 g1 _ ⟨rfl,b,C⟩;obtain ⟨F,d2,rfl⟩:=za4 C;refine pU I (eN az I)<|pU I (gR I I)<|pU I (aS I)<|pN<|tN<|iP I (fun m=>?_) (fun m=>?_)
  ·exact rZ<|aT I<|rE<|bR<|tR<|dR (s':=s) uR<|za8 (.inl I) results153 I ⟨b,.inr<|.inl ⟨I,f,oM,I⟩⟩
  ·have n:(s.set j<|mp a<|T6 (rs.map ap) e.cell)[i]?=some (edP bx (.slice p A.length c) a ms bk):=by rw[List.getElem?_set_ne l];exact k
   refine kP<|bN<|tN<|sQ<|dW [6] [(0,2),(1,2),(2,2),(3,1),(4,2),(5,1),(6,0)] ze5 kR<|yM I<|pU I (nC I)<|pU I (fA kV I qd I)<|pK I (qL (v:=.map<|some a) qf I<|cO (i+1) k I)<|pU I (fA a6 I zT3 I)<|pK I (qL iT3 I<|cO 0 I I)<|SP.on I (SO.delete (j+1) mty64 I I t) (.inl dC) ?_;rintro _ _ _ ⟨rfl,rfl⟩;refine pN<|tN<|sW I<|lU (nC I)<|lU (fA kV I zT4 I)<|oZ (SO.store1 (i+1) zT4 I I n I (bE I) I)<|tZ<|rZ<|aT I<|rE<|dR (s':=(s.set j<|mp a<|T6 (rs.map ap) e.cell).set i<|edP bx (.slice p A.length c) a ms true) (.cons _<|.refl _)<|za8 (.inl I) results153 I ⟨b,.inr<|.inr ⟨I,f,zf6 oM,by rw[← Bc]⟩⟩
theorem zD (E:World)(g:PH)(s:Own)(bx A ms:Nat)(u:Value)(bk:Bool)(B:List Cl)(rs:List Rc)(b:ax (ak g) B rs)(hn:(B.map Cl.id).Nodup)(T:aM B)(hm:Mp g A (rs.map ap))(i:Nat)(W:s[i]?=some (edP bx u A ms bk)) :
  Ctr Tryz.prog E 103 #[pp bx 0] g s (fun r g' s'=>s=s'∧Le g g'∧∃ U,r = .agg #[U]∧fQ (mns g' g) U (aa B)):=by
 obtain ⟨es,clk,m,f⟩:=hm;have X:=b.length;have Y:=T.1;refine zb2 (args:=[pp bx 0]) func103 I ntmps103 (bE I)<|rZ (bW (aL zl3) fun J=>?_);refine tZ (rZ<|bW (aL zl3) fun K=>?_);refine tZ<|sQ<|sW I<|lU (nC I)<|lU (fA kV I qd I)<|lK (qL (v:=.map<|some A) qf I<|cO (i+2) W I)<|lW (SO.range underlying64 I m) ?_;rintro _ _ _ ⟨it,rfl,rfl,rfl⟩;refine tZ<|bK<|zb6 37 3<|oP (ι:=List MapEntry×List Rc×List Cl×Value) (fun _=>[(2,pp J 0),(3,pp K 0),(10,pp it 0)]) (fun _=>g)
  (fun i=>rowA encCell 37 i.2.2.2 i.2.1::iter it A es clk i.1::pt K (bY #[i.2.2.2] 29)::pt J (bY #[.slice none 0 0] 29)::s)
  (fun i=>lT (rs.map ap) es i.1 (i.2.1.map ap)∧ax (ak g) i.2.2.1 i.2.1∧(∀ c∈i.2.2.1,c∈B)) (fun i=>rs.length - i.2.1.length)
  ([],[],[],.slice none 0 0) sB rfl rfl ⟨lT.nil _ _,trivial,by simp⟩ ?_
 rintro ⟨vis,acc,C,V⟩ ⟨o,a,j⟩;dsimp only at o a j ⊢;have D:=o.len f;simp only[ze8] at D;have Z:=a.length;refine rZ<|lW (SO.nextP 1 I I m f o) ?_;rintro _ _ _ ⟨rfl,q⟩
 rcases q with ⟨rfl,rfl,t⟩ | ⟨e,pr,he,L,M,N,k,rfl,rfl⟩
 ·have y:C.Perm B:=vk (by rw[zi7,jW a];rfl) j hn b t;have O:aa C=aa B:=vO y<|(y.map Cl.id).symm.nodup hn;have P:aM C:=⟨by have:=y.length_eq;omega,fun c hc=>T.2 c<|j c hc⟩;refine yX I (tZ<|sQ<|za1 I<|xI<|tX<|tX<|bX<|tN<|sQ<|fS fun g2 d F=>?_);obtain ⟨q2,d2,rfl⟩:=zc3 F;refine rG<|lK (qV 1 an ae I I I)<|lW (SO.call call34 I<|oO E g2 _ _ C ⟨acc,F,a.mono fun _ _=>ak.mono d⟩ P) ?_;rintro _ g3 _ ⟨rfl,G,u3,rfl,z⟩;rw[O] at z;have Q:=z.cells<|fh _ _;obtain ⟨q3,d3,rfl⟩:=Q.form;refine oZ (sK 2 ae I I I I I sB) ?_;refine tZ<|rE ?_;exact ST.retCD 2 s (.inl I) results103 I an ae I I uR ⟨I,d.trans G,_,I,z.mono<|jR d⟩
 ·obtain ⟨x,hx,rfl⟩:=zf4.1 L;obtain ⟨cx,R,S⟩:=yY b hx;refine yX I (tZ (sQ (za2 I (kP (tN (bK (rZ (lK (SQ.entryP 1 I I m f he M N) (yX I (bW (aL zm2) fun b5=>?_))))))))));refine oZ (sK 0 ar I I I I I sB)<|tZ ?_;refine SC.to (g':=g) (s':=pt b5 (bY #[vi x.id,vi x.dim,.slice x.sv.p x.sv.n x.sv.c] 37)::rowA encCell 37 V acc::iter it A es clk (vis++[e])::pt K (bY #[V] 29)::pt J (bY #[.slice none 0 0] 29)::s) (fun w hw=>hw) ?_;refine rG (lU (fA dA I cq I) (lK (qL eG I (cO 3 I I)) (lK (qV 0 dH ar I I I) (lW (bS sty27 I I I (ab sB) dC) ?_))));rintro _ _ _ ⟨a0,rfl,rfl,rfl⟩;refine lW (aP (e:=encCell) 1 x sty27 I I I I I oM oM) ?_;rintro ov' _ _ ⟨rfl,rfl⟩;refine zd4 fun ⟨w0,H⟩=>?_;obtain ⟨q',d',rfl⟩:=ah (e:=encCell) (l:=acc++[x]) (i:=1) H rfl;clear H w0;refine lU (fA dA I cq I) (oZ (sK 3 cq I I I I I sB) ?_);refine SL.nil (bN (dR (.cons _ (.refl _)) ?_));exact ST.again (vis++[e],acc++[x],C++[cx],_) sB I I ⟨by dsimp only;rw[zg7];exact k,a.append ⟨S,trivial⟩,fun c hc=>by
   rcases zf5.1 hc with h | h
   ·exact j c h
   ·simp at h;rw[h];exact R⟩ (by
   have:=k.len f;simp only[ze8,ze7,ze9] at this ⊢;omega)
abbrev Tm:=Int×Int
def Gs (n:Int):Bool:=decide (n<0)&&decide (xH n.natAbs≠[])
def fm:Enc Tm 3:=⟨fun p=>[vi p.1,vb<|Gs p.2,txt<|xH p.2.natAbs],fun _=>rfl,fun _ u hu=>by simp at hu;rcases hu with rfl | rfl | rfl <;> rfl,by decide⟩
structure Im where
 cell:Int
 sv:Sv
def li:Enc Im 2:=⟨fun r=>[vi r.cell,.slice r.sv.p r.sv.n r.sv.c],fun _=>rfl,fun _ u hu=>by simp at hu;rcases hu with rfl | rfl <;> rfl,by decide⟩
def ImR (g:PH)(c:Int×List Tm)(r:Im):Prop:=r.cell=c.1∧SlA fm g (.slice r.sv.p r.sv.n r.sv.c) c.2
theorem ImR.mono {g g':PH}(hl:Le g g'){c:Int×List Tm}{r:Im}(h:ImR g c r):ImR g' c r:=⟨h.1,za5 h.2 hl⟩
def Ims (g:PH)(v:Value)(l:List (Int×List Tm)):Prop:=∃ rs,SlA li g v rs∧ax (ImR g) l rs
theorem Ims.mono {g g':PH}{v:Value}{l:List (Int×List Tm)}(h:Ims g v l)(hl:Le g g'):Ims g' v l:=by
 obtain ⟨rs,a,b⟩:=h;exact⟨rs,za5 a hl,b.mono fun _ _=>ImR.mono hl⟩
theorem Tryz.build193 (x:Int)(b:Bool)(l:List UInt8)(w:World):(Instr.build 193 #[(0,vi x),(1,.agg #[vb b,txt l])]).run Tryz.prog w = .ok (.agg #[vi x,vb b,txt l]) w:=by
 have a:(vi x).cells = #[vi x]:=rfl;have c:(Value.agg #[vb b,txt l]).cells = #[vb b,txt l]:=rfl;simp[Instr.build,Instr.fill,a,c];rfl
theorem Tryz.build199 (x:Int)(p:Option Addr)(n c:Nat)(w:World):(Instr.build 199 #[(0,vi x),(1,.slice p n c)]).run Tryz.prog w = .ok (.agg #[vi x,.slice p n c]) w:=by
 have a:(vi x).cells = #[vi x]:=rfl;have b:(Value.slice p n c).cells = #[.slice p n c]:=rfl;simp[Instr.build,Instr.fill,a,b];rfl
theorem Tryz.buildB92 (b:Bool)(w:World):(Instr.build 92 #[(1,vb b)]).run Tryz.prog w = .ok (.agg #[.slice none 0 0,vb b]) w:=by
 have a:(vb b).cells = #[vb b]:=rfl;simp[Instr.build,Instr.fill,a];rfl
theorem Tryz.mty185:MTy Tryz.prog 185 3 188 (.slice none 0 0):=⟨underlying185,underlying3,zeroValue188⟩
theorem Tryz.sty188:STy Tryz.prog 188 193 3 32 (.agg #[vi 0,vb false,txt []]):=⟨underlying188,⟨t193,by kernel_rfl,by kernel_rfl,by kernel_rfl,by kernel_rfl⟩,rfl,by decide⟩
theorem Tryz.sty88:STy Tryz.prog 88 199 2 32 (.agg #[vi 0,.slice none 0 0]):=⟨underlying88,⟨t199,by kernel_rfl,by kernel_rfl,by kernel_rfl,by kernel_rfl⟩,rfl,by decide⟩
theorem BD (E:World)(g:PH)(s:Own)(c n:Int)(hn:n=0∨n=1∨n = -1) :
  Ctr Tryz.prog E 158 #[vi c,vi n] g s (fun r g' s'=>r = .agg (fm.enc (c,n)).toArray∧s=s'∧Le g g'):=by
 refine zb2 (args:=[vi c,vi n]) func158 I ntmps158 (bE I)<|rZ (bW (aL zeroValue193) fun b=>?_);refine tZ<|sW I<|lM I<|lW (SO.call call202 I<|Aa E g _ n hn) ?_;rintro _ g1 _ ⟨rfl,rfl,a⟩;exact lU (za3 I<|build193 _ _ _)<|oZ (sK 0 sizeOf193 I I I I I sB)<|tZ<|rE<|ST.retCD 0 s (.inl I) results158 I isAgg193 sizeOf193 I I uR ⟨I,I,a⟩
def gr (c:Cl):Int×List Tm:=(c.id,[(c.id,1)])
set_option maxHeartbeats 2000000
theorem Ctr.freezeO {P:Program}{E:World}{n:FuncId}{args:Array Value}{g:PH}{L s:Own}{R:Value→PH→Own→Prop}{A:List Cl}{rs:List Rc}(a:ax xE A rs)
  (h:∀ g1,Le g g1→ax (ak g1) A rs→Ctr P E n args g1 (L++s) R):Ctr P E n args g (L++(qe A rs++s)) R:=fun w b=>by
 have c:(L++(qe A rs++s)).Perm (qe A rs++(L++s)):=by
  rw[← zh1,← zh1];exact List.perm_append_comm.append_right s
 obtain ⟨g1,d,e,f⟩:=Go.Proofs.YtdepcjnaieflmaaGreatDoor.freezeO a<|b.perm c;exact h g1 d f w e
def sh (fv:Value)(e:Ed)(A:List Cl)(code:Int)(B:List Cl)(bk:Bool):Prop :=
 ∀ (E:World) (g:PH) (s:Own) (bx mb ms:Nat) (u v:Value) (rs:List Rc),ai g u A→ax xE A rs→EdR g v e →
  cU Tryz.prog E fv [pp bx 0,v] g (edP bx u mb ms false::mp mb (rs.map ap)::mp ms []::(qe A rs++s)) (fun r g' s'=>Le g g'∧r=vi code∧(if code=0 then ∃ rs',ax (ak g') B rs'∧s'=edP bx u mb ms bk::mp mb (rs'.map ap)::mp ms []::s else ∃ h,s'=h++s))
def gV (A:List Cl)(e:Ed):Int:=if (ag A e.cell).isSome then 54 else 0
def ky (A:List Cl)(e:Ed):Int:=if (ag A e.cell).isSome then (if 0<(aC A e.cell).length then 31 else 0) else 30
theorem Am (A:List Cl)(e:Ed)(i:e.sides.length<1099511627776):sh (.func (.func 152) #[] #[]) e A (gV A e) (lL A ⟨e.cell,e.dim,e.sides⟩) false:=by
 intro E g s bx mb ms u v rs m j k;refine cU.mk (args:=[_,_]) (cap:=[]) call152<|Ctr.freezeO (L:=[edP bx u mb ms false,mp mb<|rs.map ap,mp ms []]) j fun g1 a b=>?_;refine (xw E g1 _ bx mb ms u v false e A rs b 0 1 I I (k.mono a) i).mono ?_;rintro r g' s' ⟨c,h⟩;refine⟨a.trans c,?_⟩;unfold gV
 rcases h with ⟨rfl,d,rfl⟩ | ⟨rfl,d,f,l,rfl⟩
 ·rw[d];exact⟨I,[edP bx u mb ms false,mp mb<|rs.map ap,mp ms []],I⟩
 ·rw[d];exact⟨I,f,l,I⟩
theorem zH (A:List Cl)(i:aM A)(e:Ed):sh (.func (.func 153) #[] #[]) e A (ky A e) (AG A e.cell) true:=by
 intro E g s bx mb ms u v rs j k l;refine cU.mk (args:=[_,_]) (cap:=[]) call153<|Ctr.freezeO (L:=[edP bx u mb ms false,mp mb<|rs.map ap,mp ms []]) k fun g1 a b=>?_;refine (wK E g1 _ bx mb ms u v false e A A rs (j.mono a) i b 0 1 I I dC<|l.mono a).mono ?_;rintro r g' s' ⟨c,h⟩;refine⟨a.trans c,?_⟩;unfold ky
 rcases h with ⟨rfl,d,rfl⟩ | ⟨rfl,d,f,rfl⟩ | ⟨rfl,d,f,rfl⟩
 ·rw[d];exact⟨I,[edP bx u mb ms false,mp mb<|rs.map ap,mp ms []],I⟩
 ·rw[d,zg3 rfl,zg3 f];exact⟨I,[edP bx u mb ms false,mp mb<|rs.map ap,mp ms []],I⟩
 ·rw[d,f];exact⟨I,C2 rs e.cell,(y6 (fun _ _ h=>h.1) e.cell b).mono fun _ _=>ak.mono c,I⟩
theorem us {α:Type}(L r:List α)(k:Nat):(L++r)[L.length+k]?=r[k]?:=by
 rw[zh5 oM,Nat.add_sub_cancel_left]
def aW (code:Int)(B:List Cl):Int×List Cl :=
 if code≠0 then (code,[]) else if (aq<|aa B).2≠0 then ((aq<|aa B).2,[]) else (0,aa B)
theorem Tryz.buildZ92 (w:World):(Instr.build 92 #[]).run Tryz.prog w = .ok (.agg #[.slice none 0 0,vb false]) w:=by
 simp[Instr.build,Instr.fill];rfl
theorem ai.nil (g:PH):ai g (.slice none 0 0) []:=⟨[],zc1 g _,trivial⟩
theorem me (E:World)(g:PH)(s:Own)(v:Value)(l:List Cl)(a:ai g v l)(c:aM l)(b:Bool)(hb:decide ((aq l).2=0)=b) :
  Ctr Tryz.prog E 45 #[.agg #[v]] g s (fun r g' s'=>r=vb b∧g=g'∧s=s'):=by
 subst hb;exact vH E g s v l a c
open Go.ChangeShapes Go.WideShapes Go.ChangeAt Go.RowKit
set_option maxRecDepth 100000
section
variable {H:Type}{enc:TypeId×Value→H}{W:World}{base:Nat}{spare:Nat→Bool}{hd:Bool}
end
theorem eF (E:World)(g:PH)(s:Own)(c n:Int)(hn:n=0∨n=1∨n = -1) :
  Ctr Tryz.prog E 185 #[vi c,vi n] g s (fun r g' s'=>r = .agg (fm.enc (c,n)).toArray∧s=s'∧Le g g'):=by
 refine zb2 (args:=[vi c,vi n]) func185 I ntmps185 (bE I)<|rZ (bW (aL zeroValue193) fun b=>?_);refine tZ<|sW I<|lM I<|lW (SO.call call211 I<|tE E g _ n hn) ?_;rintro _ g1 _ ⟨rfl,rfl,a⟩;exact lU (za3 I<|build193 _ _ _)<|oZ (sK 0 sizeOf193 I I I I I sB)<|tZ<|rE<|ST.retCD 0 s (.inl I) results185 I isAgg193 sizeOf193 I I uR ⟨I,I,a⟩
theorem di (E:World)(g:PH)(s:Own)(v:Value)(l:List Cl)(id:Int)(b:ai g v l)(c:aM l) :
  Ctr Tryz.prog E 181 #[.agg #[v],vi id] g s (fun r g' s'=>r=vb (findC l id).isSome∧s=s'∧Le g g'):=by
 refine zb2 (args:=[.agg #[v],vi id]) func181 I ntmps181 (bE I)<|rZ (bW (bO I) fun d=>?_);refine aT I<|rZ<|lK (qV 0 an ae I I I)<|lM I<|lW (SO.call call55 I<|bc E g _ v l id b c) ?_;rintro _ g1 _ ⟨rfl,a,⟨e,f,i,j,yc⟩,rfl,hc⟩;refine lM I (yX I<|yX I<|bW (aL zm2) fun k=>?_);exact oZ (sK 0 ar I I I I I sB)<|aT I<|sW I<|aT I<|rE<|dR (s':=s) uR<|za8 (.inl I) results181 I ⟨I,I,a⟩
theorem oC {α β:Type}(f:α→β){l:List α}{k:Nat}(h:k<l.length):(l.take<|k+1).map f=(l.take k).map f++[f l[k]]:=by
 rw[tS h,zg7];rfl
theorem fG (E:World)(g:PH)(s:Own)(v:Value)(l:List Cl)(R:ai g v l)(L:aM l) :
  Ctr Tryz.prog E 182 #[.agg #[v]] g s (fun r g' s'=>s=s'∧Le g g'∧∃ M,r = .agg #[M]∧Ims g' M ((am l).map gr)):=by
 have S:=(bU L).1;refine zb2 (args:=[.agg #[v]]) func182 I ntmps182 (bE I)<|rZ (bW (bO I) fun U=>?_);refine bW (aL zl7) fun N=>tZ (rZ<|bW (aL zl7) fun O=>?_);refine tZ<|rZ<|lK (qV 2 an ae I I I)<|lW (SO.call call54 I<|dw E g _ v l R L) ?_;rintro v7 g1 _ ⟨rfl,t,hc⟩;obtain ⟨rs,j,q⟩:=hc;obtain ⟨p,c,rfl⟩:=za4 j;refine aT I<|sQ<|rZ<|aT I<|bK ?_;generalize am l=T at *;have V:=q.length;refine zb6 199 2<|oP (ι:=Nat×PH×Value×List Im) (fun i=>[(2,pp N 0),(3,pp O 0),(4,.slice p rs.length c),(5,vi i.1)]) (fun i=>i.2.1)
  (fun i=>rowA li 199 i.2.2.1 i.2.2.2::pt O (bY #[i.2.2.1] 90)::pt N (bY #[.slice none 0 0] 90)::pt U (bY #[v] 29)::s)
  (fun i=>i.1≤rs.length∧Le g1 i.2.1∧ax (ImR i.2.1) ((T.take i.1).map gr) i.2.2.2) (fun i=>rs.length - i.1) (0,g1,.slice none 0 0,[])
  sB rfl rfl ⟨zf8 _,zb9 _,by simp[ax]⟩ ?_
 rintro ⟨k,g2,Z,acc⟩ ⟨W,a,b⟩;dsimp only at W a b ⊢;have C:=b.length;rw[ze8,ze6] at C;refine sQ<|sW I<|lM I<|lU (eN aF I)<|yL I<|tZ<|iP I (fun D=>?_) (fun D=>?_)
 ·have u:k<rs.length:=oM;have w:k<T.length:=oM;have m:=za6 j oM;have F:=q.get (List.getElem?_eq_getElem w) (List.getElem?_eq_getElem u);have y:rs[((k:Nat):Int).toNat]?=some rs[k]:=List.getElem?_eq_getElem u;have G:=oC gr w;generalize rs[k]=x at *;generalize T[k]=cx at *;obtain ⟨xi,xd,xp,xn,xc⟩:=x;obtain ⟨P,Q,-⟩:=F;dsimp only at P Q;subst P Q;refine kP (tN (sQ (bK ?_)));refine dW [16,18] [(0,2),(1,1),(2,2),(3,2),(4,2),(5,2),(6,1),(7,2),(8,2),(9,2),(10,2),(11,1),(12,0),(13,0),(14,2),(15,0),(16,0),(17,2),(18,0)] ze5 kR<|pU I (fA ze I tj I) (pK I (qL isAgg88 I (cO 1 I I)) (yM I (yM I (pU I (iA aF ar I I m oM (show (k:Int)<((rs.length:Nat):Int) by omega)) ?_))));refine pU I (fC ao I zT3 I m) (pK I (aZ (e:=encCell) (o:=0) iT3 I (za7 (za5 j a)) y I) (yM I (yM I (pU I (iA aF ar I I m oM (show (k:Int)<((rs.length:Nat):Int) by omega)) ?_))));refine pU I (fC ao I zT3 I m) (pK I (aZ (e:=encCell) (o:=0) iT3 I (za7 (za5 j a)) y I) (SP.o I (SO.call call185 I (eF E g2 _ cx.id 1 (.inr (.inl I)))) dC (.inr iR) ?_));rintro _ g3 _ ⟨rfl,rfl,d⟩;refine SP.o I (bS sty188 I I I (ab ⟨I,trivial⟩) dC) dC (.inr iR) ?_;rintro _ _ _ ⟨n,rfl,rfl,rfl⟩;refine SP.freeze fun g4 z H=>?_;have J:SlA fm g4 (.slice (some ⟨n,0,none⟩) 1 1) [(cx.id,1)]:=SlA.lit H rfl rfl;have f:=d.trans z;refine pU I (za3 I (build199 _ _ _ _)) (SP.o I (bS sty88 I I I (ab sB) dC) dC (.inr iR) ?_);rintro _ _ _ ⟨X,rfl,rfl,rfl⟩;refine SP.o I (aP (e:=li) 0 ⟨cx.id,⟨some ⟨n,0,none⟩,1,1⟩⟩ sty88 I I I I I oM oM) dC (.inl dC) ?_;rintro ov' _ _ ⟨rfl,rfl⟩;refine zd3 fun ⟨Y,A⟩=>?_;obtain ⟨q',d',rfl⟩:=ah (e:=li) (l:=acc++[⟨cx.id,⟨some ⟨n,0,none⟩,1,1⟩⟩]) (i:=0) A rfl;clear A Y;refine pU I (fA ze I tj I) (SP.on I (sK 1 tj I I I I I sB) (.inl dC) ?_);rintro _ _ _ ⟨rfl,rfl⟩;refine pN (bN (tN (rG (lM I (yD I (lA I (SL.nil ?_)))))));exact ST.again (k+1,g4,_,acc++[⟨cx.id,⟨some ⟨n,0,none⟩,1,1⟩⟩]) sB I I ⟨by dsimp only;omega,a.trans f,by
   dsimp only;rw[G];exact (b.mono fun _ _=>ImR.mono f).append ⟨⟨I,J⟩,trivial⟩⟩ (by dsimp only;omega)
 ·have K:T.take k=T:=tL oM;rw[K] at b;refine xI (tX<|tX<|bX<|tN<|sQ<|fS fun g3 d B=>?_);obtain ⟨q3,d3,rfl⟩:=zc3 B;exact rG<|lK (qV 0 isAgg90 p8 I I I)<|oZ (sK 1 p8 I I I I I sB)<|tZ<|rE<|ST.retCD 1 s (.inl I) results182 I isAgg90 p8 I I uR ⟨I,t.trans<|a.trans d,_,I,acc,B,b.mono fun _ _=>ImR.mono d⟩
set_option maxHeartbeats 4000000
theorem Tryz.buildS92 (p:Option Addr)(n c:Nat)(w:World):(Instr.build 92 #[(0,.agg #[.slice p n c])]).run Tryz.prog w = .ok (.agg #[.slice p n c,vb false]) w:=by
 have a:(Value.agg #[Value.slice p n c]).cells = #[.slice p n c]:=rfl;simp[Instr.build,Instr.fill,a];rfl
def EI (code:Int)(D:List Cl)(ims:List (Int×List Tm))(bk:Bool)(r:Value)(g':PH):Prop:=∃ u p n c,r = .tuple #[.agg #[u],.agg #[.slice p n c,vb bk],vi code]∧ai g' u D∧(code=0→Ims g' (.slice p n c) ims)
theorem Ims.form {g:PH}{v:Value}{l:List (Int×List Tm)}(h:Ims g v l):∃ p n c,v = .slice p n c:=by
 obtain ⟨rs,a,b⟩:=h;obtain ⟨p,c,e⟩:=za4 a;exact⟨p,_,c,e⟩
theorem qG (E:World)(g:PH)(s:Own)(v ev:Value)(l:List Cl)(e:Ed)(Y:ai g v l)(S:aM l)(he:EdR g ev e)(a1:e.sides.length<1099511627776)(code:Int)(k:code=if (findC l e.cell).isSome then 54 else 0) :
  Ctr Tryz.prog E 120 #[.agg #[v],ev] g s (fun r g' s'=>s=s'∧Le g g'∧EI code (if code=0 then l++[⟨e.cell,e.dim,e.sides⟩] else l) ((am l).map gr) false r g'):=by
 obtain ⟨sv,pv,rfl,L,T⟩:=he;obtain ⟨sp,U,rfl⟩:=za4 L;obtain ⟨Z,pc,rfl⟩:=za4 T;have J:=Y;obtain ⟨rs,M,D⟩:=Y;have a0:=D.length;have a2:=S.1;obtain ⟨p,c,rfl⟩:=za4 M;refine zb2 (args:=[.agg #[.slice p rs.length c],.agg #[vi e.kind,vi e.cell,vi e.dim,vi e.new,vi e.other,.slice sp e.sides.length U,.slice Z e.pairs.length pc]]) func120 I ntmps120 (bE I)<|rZ (bW (bO I) fun b2=>?_);refine bW (bO I) fun b3=>bW (aL zl3) fun b4=>bW (aL zl5) fun b5=>aT I<|sQ<|rZ<|lK (qV 3 an ae I I I)<|lU (fA a6 I zT3 I)<|lK (qL iT3 I<|cO 2 I I)<|lW (SO.call call181 I<|di E g _ _ l e.cell J S) ?_;rintro _ g1 _ ⟨rfl,rfl,a⟩;refine tZ<|iQ I (fun hp=>?_) (fun hp=>?_)
 ·have hc:code=54:=by rw[k,hp];rfl
  subst hc;exact rZ<|lK (qV 3 an ae I I I)<|lU (za3 I buildZ92)<|oZ (sK 1 ae I I I I I sB)<|oZ (sK 0 bT I I I I I sB)<|aT I<|rE<|tR<|ST.retCCT 1 0 s (.inl I) results120 I I I an ae gt bT I I I I uR ⟨I,a,_,_,_,_,I,J.mono a,fun h=>by cases h⟩
 ·have hc:code=0:=by rw[k,hp];rfl
  subst hc;have F:=za5 M a;have G:=za5 L a;have m:=D.mono fun _ _=>ak.mono a;have V:=J.mono a;generalize g1=gg at *;refine kP<|tN<|SC.cut (ι:=Nat×Option Addr×Nat×Nat×PH) (fun i=>[(2,pp b2 0),(3,pp b3 0),(4,pp b4 0),(5,pp b5 0),(7,pp i.1 0)]) (fun i=>i.2.2.2.2) (fun i=>pt i.1 (bY #[.slice i.2.1 i.2.2.1 i.2.2.2.1] 29)::pt b5 (bY #[.slice none 0 0,vb false] 92)::pt b4 (bY #[.slice none 0 0] 29)::pt b3 (bY #[vi e.kind,vi e.cell,vi e.dim,vi e.new,vi e.other,.slice sp e.sides.length U,.slice Z e.pairs.length pc] 58)::pt b2 (bY #[.slice p rs.length c] 29)::s)
   (fun i=>Le gg i.2.2.2.2∧ai i.2.2.2.2 (.slice i.2.1 i.2.2.1 i.2.2.2.1) (l++[⟨e.cell,e.dim,e.sides⟩])) ?_ ?_
  ·refine SC.drawX [] ze5 kR ?_;refine SX.u (i:=1) I kR (fA dA I cq I) dC<|SX.q (i:=2) I kR (qL (v:=.slice p rs.length c) eG I<|cO 3 I I) dC<|SX.u (i:=4) I kR (fA a6 I zT3 I) dC<|SX.q (i:=5) I kR (qL iT3 I<|cO 2 I I) dC<|SX.u (i:=6) I kR (fA a6 I zT3 I) dC<|SX.q (i:=7) I kR (qL iT3 I<|cO 2 I I) dC<|SX.u (i:=9) I kR (fA a6 I aH I) dC<|SX.q (i:=10) I kR (qL (v:=.slice sp e.sides.length U) bi I<|cO 2 I I) dC ?_
   repeat' (first
    | (refine SB.o (i:=0) I (bS sty27 I I I (ab trivial) dC) dC (.inr iR) ?_;rintro _ _ _ ⟨W,rfl,rfl,rfl⟩;refine SX.drop (zj3 _ _) ?_)
    | (refine SB.o (i:=0) I (bS sty27 I I I (ab trivial) dC) dC (.inr iR) ?_;rintro _ _ _ ⟨W,rfl,rfl,rfl⟩;refine SX.drop (zj3 _ _) ?_)
    | (refine SB.o (i:=3) I (SO.appNewA (e:=encCell) sty27 I I F oM oM) dC (.inr iR) ?_;rintro v17 _ _ ⟨rfl,rfl⟩)
    | (refine SB.o (i:=3) I (SO.appNewA (e:=encCell) sty27 I I F oM oM) dC (.inr iR) ?_;rintro v17 _ _ ⟨rfl,rfl⟩)
    | (refine SB.o (i:=8) I (bS sty35 I I I (ab trivial) dC) dC (.inr iR) ?_;rintro _ _ _ ⟨N,rfl,rfl,rfl⟩;refine SX.drop (zj3 _ _) ?_)
    | (refine SB.o (i:=8) I (bS sty35 I I I (ab trivial) dC) dC (.inr iR) ?_;rintro _ _ _ ⟨N,rfl,rfl,rfl⟩;refine SX.drop (zj3 _ _) ?_)
    | (refine SB.o (i:=8) I (bS sty35 I I I (ab trivial) dC) dC (.inr iR) ?_;rintro _ _ _ ⟨N,rfl,rfl,rfl⟩;refine SX.drop (zj3 _ _) ?_)
    | (refine SB.o (i:=11) I (SO.appNewA (e:=encSide) sty35 I I G oM oM) dC (.inr iR) ?_;rintro v25 _ _ ⟨rfl,rfl⟩;refine SX.freezeRow fun g2 t x=>?_;obtain ⟨B,d2,rfl⟩:=za4 (e:=encSide) x;refine SX.u (i:=12) I kD (za3 I<|buildF37 _ _ _ I) dC ?_)
    | (refine SB.o (i:=11) I (SO.appNewA (e:=encSide) sty35 I I G oM oM) dC (.inr iR) ?_;rintro v25 _ _ ⟨rfl,rfl⟩;refine SX.freezeRow fun g2 t x=>?_;obtain ⟨B,d2,rfl⟩:=za4 (e:=encSide) x;refine SX.u (i:=12) I kD (za3 I<|buildF37 _ _ _ I) dC ?_)
    | (refine SB.o (i:=13) I (bS sty27 I I I (ab ⟨I,trivial⟩) dC) dC (.inr iR) ?_;rintro _ _ _ ⟨X,rfl,rfl,rfl⟩;refine SX.to (fun w y=>At.litRow (e:=encCell) (l:=[⟨e.cell,e.dim,⟨B,e.sides.length,d2⟩⟩]) (n:=0) y I I dC) ?_;refine SX.freezeRow fun g3 d K=>?_;have j:=t.trans d)
    | (refine SB.o (i:=13) I (bS sty27 I I I (ab ⟨I,trivial⟩) dC) dC (.inr iR) ?_;rintro _ _ _ ⟨X,rfl,rfl,rfl⟩;refine SX.to (fun w y=>At.litRow (e:=encCell) (l:=[⟨e.cell,e.dim,⟨B,e.sides.length,d2⟩⟩]) (n:=0) y I I dC) ?_;refine SX.freezeRow fun g3 d K=>?_;have j:=t.trans d)
    | (refine SB.o (i:=14) I (aQ (e:=encCell) (l:=rs) 0 sty27 I I I K (by simp;omega) (by simp;omega)) dC (.inr iR) ?_;rintro v28 _ _ ⟨rfl,rfl⟩;refine SX.freezeRow fun g4 f z=>?_;have b:=j.trans f;obtain ⟨R,d4,rfl⟩:=za4 (e:=encCell) z;have O:ai g4 (.slice R (rs++[(⟨e.cell,e.dim,⟨B,e.sides.length,d2⟩⟩:Rc)]).length d4) (l++[⟨e.cell,e.dim,e.sides⟩]):=⟨rs++[(⟨e.cell,e.dim,⟨B,e.sides.length,d2⟩⟩:Rc)],z,ax.append (m.mono fun _ _=>ak.mono b) (show ax (ak g4) [⟨e.cell,e.dim,e.sides⟩] [⟨e.cell,e.dim,⟨B,e.sides.length,d2⟩⟩] from ⟨⟨rfl,rfl,za5 x<|d.trans f⟩,trivial⟩)⟩;refine SX.u (i:=15) I kD (za3 I<|build29 _ I) dC ?_)
    | (refine SB.o (i:=14) I (aQ (e:=encCell) (l:=rs) 0 sty27 I I I K (by simp;omega) (by simp;omega)) dC (.inr iR) ?_;rintro v28 _ _ ⟨rfl,rfl⟩;refine SX.freezeRow fun g4 f z=>?_;have b:=j.trans f;obtain ⟨R,d4,rfl⟩:=za4 (e:=encCell) z;have O:ai g4 (.slice R (rs++[(⟨e.cell,e.dim,⟨B,e.sides.length,d2⟩⟩:Rc)]).length d4) (l++[⟨e.cell,e.dim,e.sides⟩]):=⟨rs++[(⟨e.cell,e.dim,⟨B,e.sides.length,d2⟩⟩:Rc)],z,ax.append (m.mono fun _ _=>ak.mono b) (show ax (ak g4) [⟨e.cell,e.dim,e.sides⟩] [⟨e.cell,e.dim,⟨B,e.sides.length,d2⟩⟩] from ⟨⟨rfl,rfl,za5 x<|d.trans f⟩,trivial⟩)⟩;refine SX.u (i:=15) I kD (za3 I<|build29 _ I) dC ?_)
    | (refine SB.o (i:=16) I (aL zl3) dC (.inr iR) ?_;rintro _ _ _ ⟨C,rfl,rfl,rfl⟩;first | refine SX.to (fun w y=>At.perm y<|zk3 (rowA encCell 37 v17 rs) _ _) ?_ | skip)
    | (refine SB.o (i:=16) I (aL zl3) dC (.inr iR) ?_;rintro _ _ _ ⟨C,rfl,rfl,rfl⟩;first | refine SX.to (fun w y=>At.perm y<|zk3 (rowA encCell 37 v17 rs) _ _) ?_ | skip)
    | (refine SB.o (i:=16) I (aL zl3) dC (.inr iR) ?_;rintro _ _ _ ⟨C,rfl,rfl,rfl⟩;first | refine SX.to (fun w y=>At.perm y<|zk3 (rowA encCell 37 v17 rs) _ _) ?_ | skip)
    | (refine SB.o (i:=16) I (aL zl3) dC (.inr iR) ?_;rintro _ _ _ ⟨C,rfl,rfl,rfl⟩;first | refine SX.to (fun w y=>At.perm y<|zk3 (rowA encCell 37 v17 rs) _ _) ?_ | skip)
    | (refine SB.on (i:=17) I (sK 0 ae I I I I I sB) (.inr iR) ?_;rintro _ _ _ ⟨rfl,rfl⟩)
    | refine SX.br3 0 8 16 kD ?_ ?_ ?_
    | refine SX.br3 3 8 16 kD ?_ ?_ ?_
    | refine zd8 8 16 kD ?_ ?_
    | refine zd8 11 16 kD ?_ ?_
    | refine zd8 13 16 kD ?_ ?_
    | refine zd8 14 16 kD ?_ ?_
    | refine zd7 16 kD ?_
    | refine zd7 17 kD ?_
    | refine zd7 14 kD ?_
    | refine zd7 13 kD ?_
    | refine zd7 11 kD ?_
    | refine zd7 8 kD ?_
    | refine zd8 3 16 kD ?_ ?_
    | refine zd7 3 kD ?_
    | refine zd8 3 8 kD ?_ ?_
    | refine zd8 0 16 kD ?_ ?_
    | refine zd7 0 kD ?_
    | refine zd8 0 8 kD ?_ ?_
    | (refine SX.nil kD ?_;exact za9 (C,R,(rs++[(⟨e.cell,e.dim,⟨B,e.sides.length,d2⟩⟩:Rc)]).length,d4,g4) sB I I ⟨b,O⟩))
  rintro ⟨b7,q7,n7,d7,g5⟩ ⟨A,P⟩;dsimp only at A P ⊢;refine sQ<|dW [4,5] [(0,1),(1,1),(2,0),(3,2),(4,0),(5,0),(6,2)] ze5 kR<|pK I (qV 0 an ae I I I)<|pK I (qV 4 an ae I I I)<|SP.o I (SO.call call182 I<|fG E g5 _ _ l (V.mono A) S) dC (.inr iR) ?_;rintro _ g6 _ ⟨rfl,H,iv,rfl,Q⟩;obtain ⟨q6,n6,d6,rfl⟩:=Q.form;refine pU I (za3 I<|buildS92 _ _ _)<|SP.on I (sK 2 ae I I I I I sB) (.inl dC) ?_;rintro _ _ _ ⟨rfl,rfl⟩;refine SP.on I (sK 1 bT I I I I I sB) (.inl dC) ?_;rintro _ _ _ ⟨rfl,rfl⟩;exact pU I (aS I)<|pN<|tN<|rE<|ST.retCCT 2 1 s (.inl I) results120 I I I an ae gt bT I I I I uR ⟨I,a.trans<|A.trans H,_,_,_,_,I,P.mono H,fun _=>Q⟩
end Go.Proofs.YtdepcjnaieflmaaGreatDoor
namespace Go.Sy
open Go
section
variable {P:Program}{N:Nat}{E:World}{ops:Array Oper}{Q:Exit→Act→World→Prop}{g0:PH}{s0:Own}{tail:List Nat}{f:Fr}{g:PH}{s s':Own}{L:Array Bool}{n:Nat}
theorem SX.gq [q:Quiet Q]{i d:Nat}{op:Op}{ty:TypeId}{pos:String}{af:Array Edge}{gd:Option (Nat×Bool)}{v:Value}(m:ops[i]?=some ⟨some d,op,ty,pos,af,gd⟩)(b:wm ops tail L i=true)(hg:Gd N ops f ⟨some d,op,ty,pos,af,gd⟩ true)
  (hq:SQ P N E ⟨some d,op,ty,pos,af,gd⟩ f g0 s0 v) (hd:d<N)
  (h:SX P N E ops Q g0 s0 tail (L.setIfInBounds i true) n ((d,v)::f) g s):SX P N E ops Q g0 s0 tail L (n+1) f g s:=by
 intro a w o e j r hb;simp only[wm,zj5,Bool.not_eq_true'] at b;obtain ⟨⟨⟨⟨p,t⟩,u⟩,x⟩,k⟩:=b;refine jZ m (Region.noSelect_spec o) (fun c a w y=>q.out c _ _ w (c4 a d v) y) (by simpa using x) (iG u) _ L a w e (Region.free_spec m t) (by simpa using p)
  (.inl ⟨hg a j,fun w' l=>hq a w' j l⟩) k (hb k) ?_
 exact h _ w o (ci e<|by simpa using p) (j.put hd v) r (fun _=>hb k)
theorem SX.gu [q:Quiet Q]{i d:Nat}{op:Op}{ty:TypeId}{pos:String}{af:Array Edge}{gd:Option (Nat×Bool)}{v:Value}(m:ops[i]?=some ⟨some d,op,ty,pos,af,gd⟩)(b:qu ops tail L i=true)(hg:Gd N ops f ⟨some d,op,ty,pos,af,gd⟩ true)
  (hq:SU P N ⟨some d,op,ty,pos,af,gd⟩ f v) (hd:d<N)
  (h:SX P N E ops Q g0 s0 tail (L.setIfInBounds i true) n ((d,v)::f) g s):SX P N E ops Q g0 s0 tail L (n+1) f g s:=by
 intro a w o j k r hb;simp only[qu,zj5,Bool.not_eq_true'] at b;obtain ⟨⟨p,t⟩,u⟩:=b;have e:i ∉ tail:=by simpa using u
 refine ia m (Region.noSelect_spec o) (fun c a w x=>q.out c _ _ w (c4 a d v) x) e _ L a w (Region.free_spec m t) (by simpa using p)
  (.inl ⟨hg a k,fun w'=>hq a w' k⟩) hb ?_
 exact h _ w o (ci j<|by simpa using p) (k.put hd v) r (fun l=>hb<|by rwa [ew e] at l)
theorem SX.off [q:Quiet Q]{i d:Nat}{op:Op}{ty:TypeId}{pos:String}{af:Array Edge}{gd:Option (Nat×Bool)}(l:ops[i]?=some ⟨some d,op,ty,pos,af,gd⟩)(b:qu ops tail L i=true)(hg:Gd N ops f ⟨some d,op,ty,pos,af,gd⟩ false)(hd:d<N)
  (h:SX P N E ops Q g0 s0 tail (L.setIfInBounds i true) n ((d,undef)::f) g s):SX P N E ops Q g0 s0 tail L (n+1) f g s:=by
 intro a w m j o r hb;simp only[qu,zj5,Bool.not_eq_true'] at b;obtain ⟨⟨p,t⟩,u⟩:=b;have e:i ∉ tail:=by simpa using u
 refine ia l (Region.noSelect_spec m) (fun c a w v=>q.out c _ _ w (c4 a d undef) v) e _ L a w (Region.free_spec l t) (by simpa using p)
  (.inr ⟨hg a o,rfl⟩) hb ?_
 exact h _ w m (ci j<|by simpa using p) (o.put hd undef) r (fun k=>hb<|by rwa [ew e] at k)
theorem SB.go {i d:Nat}{op:Op}{ty:TypeId}{pos:String}{af:Array Edge}{gd:Option (Nat×Bool)}{K:Value→PH→Own→Prop}(a:ops[i]?=some ⟨some d,op,ty,pos,af,gd⟩)(hg:Gd N ops f ⟨some d,op,ty,pos,af,gd⟩ true)
  (b:SO P N E ⟨some d,op,ty,pos,af,gd⟩ f g s K) (hd:d<N) (c:i∈tail∨∀ v g' s',K v g' s'→Le g0 g'∧s0.Sublist s')
  (h:∀ v g' s',K v g' s'→SX P N E ops Q g0 s0 tail (L.setIfInBounds i true) n ((d,v)::f) g' s'):SB P N E ops Q g0 s0 tail L n i f g s :=
 SB.step a hg b c fun v g' s' _ e j=>⟨_,j.put hd v,h v g' s' e⟩
theorem SB.offo {i d:Nat}{op:Op}{ty:TypeId}{pos:String}{af:Array Edge}{gd:Option (Nat×Bool)}(l:ops[i]?=some ⟨some d,op,ty,pos,af,gd⟩)
  (hg:Gd N ops f ⟨some d,op,ty,pos,af,gd⟩ false) (hd:d<N) (e:Le g0 g∧s0.Sublist s)
  (h:SX P N E ops Q g0 s0 tail (L.setIfInBounds i true) n ((d,undef)::f) g s):SB P N E ops Q g0 s0 tail L n i f g s:=by
 intro a w m c hr j k hb;unfold wpOp;simp only[l];rw[zg2 (by rw[hg a j];simp)];have b:fy tail (L.setIfInBounds i true)=false→At E g0 s0 w:=fun _=>(k.less e.1).sublist e.2;exact⟨b,h _ w m (ci c hr) (j.put hd undef) k b⟩
theorem SB.ob {i d:Nat}{op:Op}{ty:TypeId}{pos:String}{af:Array Edge}{K:Value→PH→Own→Prop}(m:ops[i]?=some ⟨some d,op,ty,pos,af,none⟩)
  (o:SO P N E ⟨some d,op,ty,pos,af,none⟩ f g s K) (hd:d<N) (c:fy tail (L.setIfInBounds i true)=true)
  (h:∀ v g' s',K v g' s'→SX P N E ops Q g0 s0 tail (L.setIfInBounds i true) n ((d,v)::f) g' s'):SB P N E ops Q g0 s0 tail L n i f g s:=by
 intro a w p e hr j q hb;unfold wpOp;simp only[m];rw[zg3<|Gd.none rfl a j];refine .inl (o a w j q Q _ fun v g' s' w' r k=>?_);have b:fy tail (L.setIfInBounds i true)=false→At E g0 s0 w':=fun l=>by rw[c] at l;cases l
 exact⟨b,h v g' s' r _ w' p (ci e hr) (j.put hd v) k b⟩
end
end Go.Sy
namespace Go.Proofs.YtdepcjnaieflmaaGreatDoor
open _root_.Go.Proofs.Tryz _root_.Go.Proofs.YtdepcjnaieflmaaGreatDoor.Tryz
open Go Go.Sy Go.Pl Go.Proofs
set_option maxRecDepth 100000
set_option maxHeartbeats 4000000
def tU (fn:Nat)(e:Ed)(A:List Cl)(code:Int)(D:List Cl)(ims:List (Int×List Tm))(bk:Bool):Prop:=∀ (E:World) (g:PH) (s:Own) (v ev:Value),ai g v A→EdR g ev e →
 Ctr Tryz.prog E fn #[.agg #[v],ev] g s (fun r g' s'=>s=s'∧Le g g'∧EI code D ims bk r g')
def fu (code:Int)(D:List Cl)(ims:List (Int×List Tm))(bk:Bool)(r:Value)(g':PH):Prop:=∃ u p n c b,r = .tuple #[.agg #[u],.agg #[.slice p n c,vb b],vi code]∧ai g' u D∧(code=0→b=bk∧Ims g' (.slice p n c) ims)∧(code≠0→b=false∧Ims g' (.slice p n c) [])
theorem Ims.nil (g:PH):Ims g (.slice none 0 0) []:=⟨[],zc1 g _,trivial⟩
theorem vN (l:List Cl):aq (aa l)=aq l:=by
 have a:am (aa l)=am l:=by unfold am;rw[fI]
 unfold aq;rw[a,fI,aw]
theorem vC (E:World)(g:PH)(s:Own)(v ev:Value)(l:List Cl)(e:Ed)(d:List (Int×List Tm))(bk:Bool)(j:ai g v l)(k:aM l)(m:EdR g ev e)(a:(aq l).2≠0) :
  Ctr Tryz.prog E 78 #[.agg #[v],ev] g s (fun r g' s'=>s=s'∧Le g g'∧fu 1 [] d bk r g'):=by
 obtain ⟨sv,pv,rfl,f,i⟩:=m;obtain ⟨sp,n,rfl⟩:=za4 f;obtain ⟨o,q,rfl⟩:=za4 i;obtain ⟨p,c,rfl⟩:=j.form;have hd:decide ((aG l).2=0)=false:=by rw[dL];exact zf9 a
 refine zb2 (args:=[.agg #[.slice p l.length c],.agg #[vi e.kind,vi e.cell,vi e.dim,vi e.new,vi e.other,.slice sp e.sides.length n,.slice o e.pairs.length q]]) func78 I ntmps78 (bE I)<|rZ (bW (bO I) fun t=>?_);refine bW (bO I) fun u=>bW (aL zl3) fun w=>bW (aL zl5) fun x=>aT I<|rZ<|lK (qV 3 an ae I I I)<|lW (SO.call call52 I<|dV E g _ _ l j k) ?_;rintro _ g1 _ ⟨rfl,rfl,b⟩;rw[hd];exact aT I<|sQ<|sW I<|lU (SU.not I)<|tZ<|za2 I<|rZ<|lU (za3 I buildE29)<|lU (za3 I buildZ92)<|oZ (sK 1 ae I I I I I sB)<|oZ (sK 0 bT I I I I I sB)<|aT I<|rE<|tR<|ST.retCCT 1 0 s (.inl I) results78 I I I an ae gt bT I I I I uR ⟨I,b,_,_,_,_,_,I,ai.nil _,(fun h=>by cases h),fun _=>⟨I,Ims.nil _⟩⟩
theorem gh (E:World)(g:PH)(s:Own)(v ev:Value)(l:List Cl)(e:Ed)(code:Int)(D:List Cl)(k:List (Int×List Tm))(bk:Bool)(L:ai g v l)(M:aM l)(R:EdR g ev e)(hr:(aq l).2=0)(N:aM D)
  (j:e.kind=1∨e.kind=2∨e.kind=3∨e.kind=4∨e.kind=5)
  (V:e.kind=1→tU 120 e (aa l) code D k bk) (W:e.kind=2→tU 121 e (aa l) code D k bk) (X:e.kind=3→tU 122 e (aa l) code D k bk) (Y:e.kind=4→tU 123 e (aa l) code D k bk) (Z:e.kind=5→tU 124 e (aa l) code D k bk) :
  Ctr Tryz.prog E 78 #[.agg #[v],ev] g s (fun r g' s'=>s=s'∧Le g g'∧fu (aW code D).1 (aW code D).2 k bk r g'):=by
 have O:=R;obtain ⟨sv,pv,rfl,P,Q⟩:=R;obtain ⟨sp,sc,rfl⟩:=za4 P;obtain ⟨pq,pc,rfl⟩:=za4 Q;obtain ⟨p,c,rfl⟩:=L.form;have hd:decide ((aG l).2=0)=true:=by rw[dL];exact zg1 hr
 refine zb2 (args:=[.agg #[.slice p l.length c],.agg #[vi e.kind,vi e.cell,vi e.dim,vi e.new,vi e.other,.slice sp e.sides.length sc,.slice pq e.pairs.length pc]]) func78 I ntmps78 (bE I)<|rZ (bW (bO I) fun b2=>?_);refine bW (bO I) fun b3=>bW (aL zl3) fun S=>bW (aL zl5) fun T=>aT I<|rZ<|lK (qV 3 an ae I I I)<|lW (SO.call call52 I<|dV E g _ _ l L M) ?_;rintro _ g1 _ ⟨rfl,rfl,n⟩;rw[hd];refine aT I<|sQ<|sW I<|lU (SU.not I)<|tZ<|za1 I<|kP<|tN<|rZ<|lK (qV 3 an ae I I I)<|lW (SO.call call77 I<|cd E g1 _ _ l (L.mono n) M) ?_;rintro _ g2 _ ⟨rfl,C,u2,rfl,hA⟩;obtain ⟨p2,c2,rfl⟩:=hA.form;refine bW (aL zl3) fun b8=>oZ (sK 0 ae I I I I I sB)<|tZ (rZ<|bW (aL zl3) fun U=>?_);refine tZ (rZ<|bW (aL zl5) fun G=>?_);refine tZ<|rZ<|aT I ?_;have a0:=aB M;have q:=O.mono<|n.trans C;generalize aa l=A at *;refine SC.cut (ι:=PH×Value×Option Addr×Nat×Nat) (fun _=>[(4,pp S 0),(5,pp T 0),(9,pp U 0),(10,pp G 0),(11,vi code)]) (fun i=>i.1) (fun i=>pt G (bY #[.slice i.2.2.1 i.2.2.2.1 i.2.2.2.2,vb bk] 92)::pt U (bY #[i.2.1] 29)::pt T (bY #[.slice none 0 0,vb false] 92)::pt S (bY #[.slice none 0 0] 29)::s)
  (fun i=>Le g2 i.1∧ai i.1 i.2.1 D∧(code=0→Ims i.1 (.slice i.2.2.1 i.2.2.2.1 i.2.2.2.2) k)) ?_ ?_
 ·rcases j with j | j | j | j | j
  ·refine rZ<|lU (fA a6 I zT3 I)<|lK (qL iT3 I<|cO 5 I I)<|tZ<|bK<|rZ<|lU (SU.eq (v':=vb true) (eQ I I)<|ze4 vb<|zg1 j)<|aT I<|za2 I<|rG<|lK (qV 2 an ae I I I)<|lK (qV 5 jX eE I I I)<|lW (SO.call call120 I<|V j E g2 _ _ _ hA q) ?_;rintro _ g3 _ ⟨rfl,b,H,x,y,z,rfl,a,d⟩;obtain ⟨pu,J,rfl⟩:=a.form;exact lM I<|yX I<|yX I<|yX I<|oZ (sK 1 ae I I I I I sB)<|oZ (sK 0 bT I I I I I sB)<|lA I<|SL.nil<|bN<|dR (.cons_cons _<|.cons_cons _<|.cons _<|.cons_cons _<|.cons_cons _<|.cons _<|.cons _<|.refl _)<|za9 (g3,_,x,y,z) sB I I ⟨b,a,d⟩
  ·refine rZ<|lU (fA a6 I zT3 I)<|lK (qL iT3 I<|cO 5 I I)<|tZ<|bK<|rZ<|lU (SU.eq (v':=vb false) (eQ I I)<|ze4 vb<|zf9 oM)<|aT I<|za1 I<|rZ<|lU (SU.eq (v':=vb true) (eQ I I)<|ze4 vb<|zg1 j)<|aT I<|za2 I<|rG<|lK (qV 2 an ae I I I)<|lK (qV 5 jX eE I I I)<|lW (SO.call call121 I<|W j E g2 _ _ _ hA q) ?_;rintro _ g3 _ ⟨rfl,b,H,x,y,z,rfl,a,d⟩;obtain ⟨pu,J,rfl⟩:=a.form;exact lM I<|yX I<|yX I<|yX I<|oZ (sK 1 ae I I I I I sB)<|oZ (sK 0 bT I I I I I sB)<|lA I<|SL.nil<|bN<|dR (.cons_cons _<|.cons_cons _<|.cons _<|.cons_cons _<|.cons_cons _<|.cons _<|.cons _<|.refl _)<|za9 (g3,_,x,y,z) sB I I ⟨b,a,d⟩
  ·refine rZ<|lU (fA a6 I zT3 I)<|lK (qL iT3 I<|cO 5 I I)<|tZ<|bK<|rZ<|lU (SU.eq (v':=vb false) (eQ I I)<|ze4 vb<|zf9 oM)<|aT I<|za1 I<|rZ<|lU (SU.eq (v':=vb false) (eQ I I)<|ze4 vb<|zf9 oM)<|aT I<|za1 I<|rZ<|lU (SU.eq (v':=vb true) (eQ I I)<|ze4 vb<|zg1 j)<|aT I<|za2 I<|rG<|lK (qV 2 an ae I I I)<|lK (qV 5 jX eE I I I)<|lW (SO.call call122 I<|X j E g2 _ _ _ hA q) ?_;rintro _ g3 _ ⟨rfl,b,H,x,y,z,rfl,a,d⟩;obtain ⟨pu,J,rfl⟩:=a.form;exact lM I<|yX I<|yX I<|yX I<|oZ (sK 1 ae I I I I I sB)<|oZ (sK 0 bT I I I I I sB)<|lA I<|SL.nil<|bN<|dR (.cons_cons _<|.cons_cons _<|.cons _<|.cons_cons _<|.cons_cons _<|.cons _<|.cons _<|.refl _)<|za9 (g3,_,x,y,z) sB I I ⟨b,a,d⟩
  ·refine rZ<|lU (fA a6 I zT3 I)<|lK (qL iT3 I<|cO 5 I I)<|tZ<|bK<|rZ<|lU (SU.eq (v':=vb false) (eQ I I)<|ze4 vb<|zf9 oM)<|aT I<|za1 I<|rZ<|lU (SU.eq (v':=vb false) (eQ I I)<|ze4 vb<|zf9 oM)<|aT I<|za1 I<|rZ<|lU (SU.eq (v':=vb false) (eQ I I)<|ze4 vb<|zf9 oM)<|aT I<|za1 I<|rZ<|lU (SU.eq (v':=vb true) (eQ I I)<|ze4 vb<|zg1 j)<|aT I<|za2 I<|rG<|lK (qV 2 an ae I I I)<|lK (qV 5 jX eE I I I)<|lW (SO.call call123 I<|Y j E g2 _ _ _ hA q) ?_;rintro _ g3 _ ⟨rfl,b,H,x,y,z,rfl,a,d⟩;obtain ⟨pu,J,rfl⟩:=a.form;exact lM I<|yX I<|yX I<|yX I<|oZ (sK 1 ae I I I I I sB)<|oZ (sK 0 bT I I I I I sB)<|lA I<|SL.nil<|bN<|dR (.cons_cons _<|.cons_cons _<|.cons _<|.cons_cons _<|.cons_cons _<|.cons _<|.cons _<|.refl _)<|za9 (g3,_,x,y,z) sB I I ⟨b,a,d⟩
  ·refine rZ<|lU (fA a6 I zT3 I)<|lK (qL iT3 I<|cO 5 I I)<|tZ<|bK<|rZ<|lU (SU.eq (v':=vb false) (eQ I I)<|ze4 vb<|zf9 oM)<|aT I<|za1 I<|rZ<|lU (SU.eq (v':=vb false) (eQ I I)<|ze4 vb<|zf9 oM)<|aT I<|za1 I<|rZ<|lU (SU.eq (v':=vb false) (eQ I I)<|ze4 vb<|zf9 oM)<|aT I<|za1 I<|rZ<|lU (SU.eq (v':=vb false) (eQ I I)<|ze4 vb<|zf9 oM)<|aT I<|za1 I<|rZ<|lU (SU.eq (v':=vb true) (eQ I I)<|ze4 vb<|zg1 j)<|aT I<|za2 I<|rG<|lK (qV 2 an ae I I I)<|lK (qV 5 jX eE I I I)<|lW (SO.call call124 I<|Z j E g2 _ _ _ hA q) ?_;rintro _ g3 _ ⟨rfl,b,H,x,y,z,rfl,a,d⟩;obtain ⟨pu,J,rfl⟩:=a.form;exact lM I<|yX I<|yX I<|yX I<|oZ (sK 1 ae I I I I I sB)<|oZ (sK 0 bT I I I I I sB)<|lA I<|SL.nil<|bN<|dR (.cons_cons _<|.cons_cons _<|.cons _<|.cons_cons _<|.cons_cons _<|.cons _<|.cons _<|.refl _)<|za9 (g3,_,x,y,z) sB I I ⟨b,a,d⟩
 rintro ⟨g3,H,x,y,z⟩ ⟨b,a,d⟩;dsimp only at b a d ⊢;have m:=n.trans<|C.trans b;obtain ⟨pu,J,rfl⟩:=a.form;refine sQ<|sW I<|yE I<|tZ<|iP I (fun K=>?_) (fun K=>?_)
 ·subst K;have t:aW 0 D=if (aq D).2≠0 then ((aq D).2,[]) else (0,aa D):=by unfold aW;rw[vN];rfl
  rw[t];refine rG<|lK (qV 1 an ae I I I)<|lW (SO.call call106 I<|mq E g3 _ _ D a N) ?_;rintro _ g4 _ ⟨rfl,rfl,f⟩;rw[dL];refine lM I<|yX I<|yX I<|aT I<|sQ<|sW I<|lU (nQ I I)<|tZ<|iP I (fun hz=>?_) (fun hz=>?_)
  ·have F:(if (aq D).2≠0 then ((aq D).2,[]) else ((0:Int),aa D))=((aq D).2,[]):=zg3 hz;rw[F];exact rZ<|lU (za3 I buildE29)<|lU (za3 I buildZ92)<|lM I<|oZ (sK 3 ae I I I I I sB)<|oZ (sK 2 bT I I I I I sB)<|aT I<|rE<|tR<|ST.retCCT 3 2 s (.inl I) results78 I I I an ae gt bT I I I I uR ⟨I,m.trans f,_,_,_,_,_,I,ai.nil _,fun h=>absurd h hz,fun _=>⟨I,Ims.nil _⟩⟩
  ·have F:(if (aq D).2≠0 then ((aq D).2,[]) else ((0:Int),aa D))=(0,aa D):=zg2 hz;rw[F];refine kP<|tN<|sQ ?_;refine SC.drawX [2,3,4] ze5 kR ?_
   repeat' (first
    | (refine SB.o (i:=0) I (SQ.sof<|qV 1 an ae I I I) dC (.inr iR) ?_;rintro _ _ _ ⟨rfl,rfl,rfl⟩)
    | (refine SB.ob (i:=0) I (SQ.sof<|qV 1 an ae I I I) dC kD ?_;rintro _ _ _ ⟨rfl,rfl,rfl⟩)
    | (refine SB.o (i:=1) I (SO.call call77 I<|cd E g4 _ _ D (a.mono f) N) dC (.inr iR) ?_;rintro _ g5 _ ⟨rfl,w,u5,rfl,B⟩;obtain ⟨p5,c5,rfl⟩:=B.form)
    | (refine SB.ob (i:=1) I (SO.call call77 I<|cd E g4 _ _ D (a.mono f) N) dC kD ?_;rintro _ g5 _ ⟨rfl,w,u5,rfl,B⟩;obtain ⟨p5,c5,rfl⟩:=B.form)
    | (refine SB.o (i:=2) I (SQ.sof<|qV 0 gt bT I I I) dC (.inl dC) ?_;rintro _ _ _ ⟨rfl,rfl,rfl⟩)
    | (refine SB.on (i:=3) I (sK 3 ae I I I I I sB) (.inl dC) ?_;rintro _ _ _ ⟨rfl,rfl⟩)
    | (refine SB.on (i:=4) I (sK 2 bT I I I I I sB) (.inl dC) ?_;rintro _ _ _ ⟨rfl,rfl⟩;refine SX.u (i:=5) I kD (aS I) dC ?_)
    | refine zd8 0 2 kD ?_ ?_
    | refine zd8 1 2 kD ?_ ?_
    | refine zd8 2 3 kD ?_ ?_
    | refine zd7 3 kD ?_
    | refine zd7 4 kD ?_
    | refine zd7 2 kD ?_
    | refine zd7 1 kD ?_
    | refine zd7 0 kD ?_
    | (refine SX.nil kD ?_;refine tN ?_;refine rE ?_;exact ST.retCCT 3 2 s (.inl I) results78 I I I an ae gt bT I I I I uR ⟨I,m.trans (f.trans w),_,_,_,_,_,I,B,fun _=>⟨I,(d I).mono (f.trans w)⟩,fun h=>absurd I h⟩))
 ·have t:aW code D=(code,[]):=zg3 K;rw[t];refine kP<|tN<|sQ<|sW I<|lU (nQ I I)<|tZ<|iP I (fun hz=>?_) (fun hz=>?_)
  ·exact rZ<|lU (za3 I buildE29)<|lU (za3 I buildZ92)<|lM I<|oZ (sK 3 ae I I I I I sB)<|oZ (sK 2 bT I I I I I sB)<|aT I<|rE<|tR<|ST.retCCT 3 2 s (.inl I) results78 I I I an ae gt bT I I I I uR ⟨I,m,_,_,_,_,_,I,ai.nil _,fun h=>absurd h K,fun _=>⟨I,Ims.nil _⟩⟩
  ·exact absurd K hz
theorem tF (E:World)(g:PH)(s:Own)(v ev:Value)(l:List Cl)(e:Ed)(d:List (Int×List Tm))(bk:Bool)(f:ai g v l)(t:aM l)(w:EdR g ev e)(hr:(aq l).2=0)
  (i:e.kind≠1) (j:e.kind≠2) (k:e.kind≠3) (m:e.kind≠4) (n:e.kind≠5) :
  Ctr Tryz.prog E 78 #[.agg #[v],ev] g s (fun r g' s'=>s=s'∧Le g g'∧fu 1 [] d bk r g'):=by
 obtain ⟨sv,pv,rfl,o,q⟩:=w;obtain ⟨sp,x,rfl⟩:=za4 o;obtain ⟨y,z,rfl⟩:=za4 q;obtain ⟨p,c,rfl⟩:=f.form;have hd:decide ((aG l).2=0)=true:=by rw[dL];exact zg1 hr
 refine zb2 (args:=[.agg #[.slice p l.length c],.agg #[vi e.kind,vi e.cell,vi e.dim,vi e.new,vi e.other,.slice sp e.sides.length x,.slice y e.pairs.length z]]) func78 I ntmps78 (bE I)<|rZ (bW (bO I) fun B=>?_);refine bW (bO I) fun C=>bW (aL zl3) fun D=>bW (aL zl5) fun F=>aT I<|rZ<|lK (qV 3 an ae I I I)<|lW (SO.call call52 I<|dV E g _ _ l f t) ?_;rintro _ g1 _ ⟨rfl,rfl,a⟩;rw[hd];refine aT I<|sQ<|sW I<|lU (SU.not I)<|tZ<|za1 I<|kP<|tN<|rZ<|lK (qV 3 an ae I I I)<|lW (SO.call call77 I<|cd E g1 _ _ l (f.mono a) t) ?_;rintro _ g2 _ ⟨rfl,b,G,rfl,hA⟩;obtain ⟨H,c2,rfl⟩:=hA.form;refine bW (aL zl3) fun J=>oZ (sK 0 ae I I I I I sB)<|tZ (rZ<|bW (aL zl3) fun K=>?_);refine tZ (rZ<|bW (aL zl5) fun A=>?_);refine tZ<|rZ<|aT I<|sQ<|rZ<|lU (fA a6 I zT3 I)<|lK (qL iT3 I<|cO 5 I I)<|tZ<|bK<|rZ<|lU (SU.eq (v':=vb false) (eQ I I)<|ze4 vb<|zf9 i)<|aT I<|za1 I<|rZ<|lU (SU.eq (v':=vb false) (eQ I I)<|ze4 vb<|zf9 j)<|aT I<|za1 I<|sQ<|rG<|lU (SU.eq (v':=vb false) (eQ I I)<|ze4 vb<|zf9 k)<|aT I<|za1 I<|rZ<|lU (SU.eq (v':=vb false) (eQ I I)<|ze4 vb<|zf9 m)<|aT I<|za1 I<|rZ<|lU (SU.eq (v':=vb false) (eQ I I)<|ze4 vb<|zf9 n)<|aT I<|za1 I<|kP<|bN<|tN<|sQ<|sW I<|yE I<|tZ<|iP I (fun u=>?_) (fun u=>?_)
 ·cases u
 ·refine kP<|tN<|sQ<|sW I<|lU (nQ I I)<|tZ<|iP I (fun hz=>?_) (fun hz=>?_)
  ·exact rZ<|lU (za3 I buildE29)<|lU (za3 I buildZ92)<|lM I<|oZ (sK 4 ae I I I I I sB)<|oZ (sK 3 bT I I I I I sB)<|aT I<|rE<|tR<|ST.retCCT 4 3 s (.inl I) results78 I I I an ae gt bT I I I I uR ⟨I,a.trans b,_,_,_,_,_,I,ai.nil _,(fun h=>by cases h),fun _=>⟨I,Ims.nil _⟩⟩
  ·exact absurd dC hz
def GU (S:Int→List Int)(m:List Pr)(a y:Int):Prop:=∃ h,FI m a=some h∧y∈S h∧y≠a∧(FI m y).isSome=true
inductive Gx (S:Int→List Int)(m:List Pr):Int→Int→Prop
 | one (a y:Int) (h:GU S m a y):Gx S m a y
 | cons (a y z:Int) (h:GU S m a y) (h2:Gx S m y z):Gx S m a z
section
variable {S:Int→List Int}{m:List Pr}{low a:Int}{v w met:List Int}
end
section
variable {S:Int→List Int}{m:List Pr}(hm:(m.map Prod.fst).Nodup)
include hm
end
end Go.Proofs.YtdepcjnaieflmaaGreatDoor
namespace Go.Sy
open Go Go.MapKept
section
variable {P:Program}{N:Nat}{E:World}{f:Fr}{g:PH}{s:Own}{dst:Option Tmp}{ty:TypeId}{pos:String}{af:Array Edge}{gd:Option (Nat×Bool)}
end
end Go.Sy
namespace Go.Proofs.YtdepcjnaieflmaaGreatDoor
open _root_.Go.Proofs.Tryz _root_.Go.Proofs.YtdepcjnaieflmaaGreatDoor.Tryz
open Go Go.Sy Go.Pl Go.Proofs
set_option maxRecDepth 100000
set_option maxHeartbeats 2000000
set_option maxHeartbeats 4000000
section
variable {l:List Cl}(hl:(aq l).2=0)
include hl
end
section
variable {l:List Cl}(hl:(aq l).2=0)
include hl
end
end Go.Proofs.YtdepcjnaieflmaaGreatDoor
namespace Go.Sy
open Go Go.MapKept
instance quiet_scope {Q:Exit→Act→World→Prop}[h:Quiet Q]:Quiet (Exit.noGoto Q):=⟨fun c a a' w hd hq=>h.out c a a' w hd hq⟩
section
variable {P:Program}{N:Nat}{E:World}{Q:Exit→Act→World→Prop}{f:Fr}{g:PH}{s:Own}
theorem SC.scope {c:Code}(h:SC P N E c (Exit.noGoto Q) f g s):SC P N E (.scope c) Q f g s:=fun a w b d=>wp_scope_straight (h a w b d)
theorem ST.scopeN (h:ST N E Q .normal f g s):ST N E (Exit.noGoto Q) .normal f g s:=h
end
end Go.Sy
namespace Go.Proofs.YtdepcjnaieflmaaGreatDoor
open _root_.Go.Proofs.Tryz _root_.Go.Proofs.YtdepcjnaieflmaaGreatDoor.Tryz
open Go Go.Sy Go.Pl Go.Proofs
section
variable {l:List Cl}(hl:(aq l).2=0)
include hl
end
open Go Go.Sy Go.Pl Go.Proofs Go.Shelf Go.Sort
set_option maxRecDepth 100000
theorem ry {α:Type}[Inhabited α]{k:Nat}(en:Enc α k)(l:List α):(flatK en.enc k l.toArray).toList=l.flatMap en.enc:=by
 apply List.ext_getElem?;intro t;by_cases a:t<l.length * k
 ·have b:t / k<l.length:=by rw[Nat.div_lt_iff_lt_mul en.pos];exact a
  have i:t % k<k:=Nat.mod_lt _ en.pos;have j:l[t / k]?=some l[t / k]:=List.getElem?_eq_getElem b;have c:t % k<(en.enc l[t / k]).length:=by rw[en.len];exact i
  have d:=Enc.get (e:=en) (l:=l) j<|List.getElem?_eq_getElem c;rw[show t / k * k+t % k=t from Nat.div_add_mod' t k] at d;rw[d];have f:t<(flatK en.enc k l.toArray).size:=by simpa using a
  rw[Array.getElem?_toList,Array.getElem?_eq_getElem f];have g:=get_flatK en.enc k l.toArray t (by simpa using a);rw[getElem!_pos _ t f] at g;rw[g];have m:l.toArray[t / k]! = l[t / k]:=by rw[getElem!_pos l.toArray (t / k) (by simpa using b)];simp
  rw[m,getElem!_pos (en.enc l[t / k]) (t % k) c]
 ·rw[List.getElem?_eq_none (by simp;omega),List.getElem?_eq_none (by rw[Enc.length];omega)]
def GA (P:Program)(fn:Nat){α:Type}(enc:α→List Value)(cf:α→α→Int):Prop:=∀ (E:World) (g:PH) (s:Own) (x y:α),
 Ctr P E fn #[.agg (enc x).toArray,.agg (enc y).toArray] g s (fun r g' s'=>r = .int .i64 (cf x y)∧g=g'∧s=s')
theorem xQ {P:Program}{ρ:Ren}(L:SlLaysF0.n6 P ρ){α:Type}[Inhabited α]{k:Nat}(en:Enc α k)(aE:∀ w,(isAgg<|ρ.t 24).run P w = .ok true w)(zE:∀ w,(Go.sizeOf<|ρ.t 24).run P w = .ok k w)(cf:α→α→Int)(Z:SWO (ltOf cf))(fn:Nat)
  (eg:∀ args w,(callFunc fn args).run P w = .ok (.enter fn args) w) (C:GA P fn en.enc cf) (T:TypeId) (E:World) (g:PH) (s:Own) (v:Value) (l:List α) (i:Nat) (A:s[i]?=some (rowA en T v l)) (hl:l.length<1099511627776) :
  Ctr P E (ρ.f 6) #[v,.func (.func fn) #[] #[]] g s (fun _ g' s'=>g=g'∧∃ l':List α,l'.Perm l∧(l'.Pairwise fun x y=>¬ cf y x<0)∧s'=s.set i (rowA en T v l')):=by
 intro w K;obtain ⟨M,h2⟩:=gX K A
 rcases h2 with ⟨p,rfl,hn⟩ | ⟨b,cap,cur,rfl,hb,a0,N,O,ht⟩
 ·have D:l=[]:=zf6 hn;subst D;refine (AnyF.slices_SortFunc_none L p 0 (.func (.func fn) #[] #[]) w).mono ?_;rintro e w' ⟨rfl,rfl⟩;exact⟨_,g,s,I,K,I,[],.nil,.nil,(nG A).symm⟩
 ·have a1:=K.fresh _ (zg4 A) b rfl;have d:=(Array.getElem?_eq_some_iff.1 hb).1;have Q:=ry en l;have r:CmpLays P fn #[] en.enc k cf b 0 l.toArray.size w:=by
   intro m os dk R x y;refine (C (sortWorldK en.enc k w b 0 m dk os) (xA _) [] x y _ (Ey _)).mono ?_;rintro e w' ⟨v',g',s',rfl,S,rfl,rfl,rfl⟩;exact⟨I,yQ S⟩
  have hH:HoldsK en.enc k w b 0 l.toArray:=by
   intro j B;have F:j<l.length * k:=by simpa using B
   refine⟨?_,by simp[World.frozen?,hb]⟩;have M:(cur.toList.take<|l.length * k)[j]?=(flatK en.enc k l.toArray).toList[j]?:=by rw[ht,Q]
   rw[List.getElem?_take_of_lt F] at M;have R:j<(flatK en.enc k l.toArray).size:=by simpa using F
   simp only[World.cell?,hb,Nat.zero_add];simp only[Option.isSome_none,Bool.false_eq_true,if_false];rw[← Array.getElem?_toList,M,Array.getElem?_toList,Array.getElem?_eq_getElem R,getElem!_pos _ j R];rfl
  refine (AnyQ.slices_SortFunc L k aE zE en.enc en.len en.one cf Z fn #[] b 0 (cap+1) l.toArray w eg r hH d (by simp;omega)).mono ?_;rintro e w' ⟨rfl,a,n,os,hp,U,rfl⟩;obtain ⟨a⟩:=a;have c:a.length=l.length:=by have:=hp.1;simpa using this
  have u:a.Perm l:=by
   have o:=hp.2.2;simp only[List.size_toArray,List.extract_toArray] at o;simpa [List.extract_eq_take_drop,c,tL<|Nat.le_of_eq c] using o
  have G:a.Pairwise fun x y=>¬ cf y x<0:=by
   rw[zd1];intro i j A B V;have o:=U i j (zf8 _) V (by simp;omega);simp only[ltOf,decide_eq_false_iff_not] at o;simpa [A,B] using o
  have W:=ry en a;have a2:(flatK en.enc k a.toArray).size=l.length * k:=by simp[c]
  refine⟨_,g,s.set i<|rowA en T (.slice (some ⟨b,0,none⟩) l.length<|cap+1) a,I,?_,I,a,u,G,I⟩;have o:(sortWorldK en.enc k w b 0 n a.toArray os).heap[b]?=some (.cells (putCells id 0 (flatK en.enc k a.toArray) cur) T (0,0)):=by
   show (grow (putRow id (Sort.ahead w n) b 0<|flatK en.enc k a.toArray) os).heap[b]?=_;rw[heap_grow_old _ _ (by simpa using d)];simp[putRow,mapBlock,Sort.ahead,Array.getElem?_modify,hb,onCells]
  exact K.turn (i:=i) (w':=sortWorldK en.enc k w b 0 n a.toArray os) (e':=rowA en T (.slice (some ⟨b,0,none⟩) l.length (cap+1)) a) A I ⟨I,Nat.le_add_right _ _⟩ I (by simp[sortWorldK,grow,putRowK,putRow,mapBlock,Sort.ahead]) (fun q hq X=>by
    have H:b≠q:=fun e=>X (by rw[e];rfl);show (grow (putRow id (Sort.ahead w n) b 0 (flatK en.enc k a.toArray)) os).heap[q]?=_;rw[heap_grow_old _ _ (by simpa using hq)];simp[putRow,mapBlock,Sort.ahead,Array.getElem?_modify,H]) (by
    have:=eu (w:=sortWorldK en.enc k w b 0 n a.toArray os) (T:=T) (k:=k) (n:=a.length) (b:=b) (cap:=cap) (xs:=a.flatMap en.enc) (by rw[en.length]) o oM N (by simp[putCells];simpa using O) (by
     rw[← W];apply List.ext_getElem?;intro j;by_cases B:j<a.length * k
     ·have z:j<(flatK en.enc k a.toArray).size:=by simpa using B
      have Y:j<cur.size:=by
       have:a.length * k≤(cap+1) * k:=Nat.mul_le_mul_right _ oM;omega
      rw[List.getElem?_take_of_lt B,Array.getElem?_toList,Array.getElem?_toList,Array.getElem?_eq_getElem z];simp only[putCells,Array.getElem?_mapIdx,Array.getElem?_eq_getElem Y,Option.map_some,zf8,true_and,Nat.zero_add,Nat.sub_zero];rw[zg3 z,getElem!_pos _ j z];rfl
     ·rw[List.getElem?_take_eq_none oM,List.getElem?_eq_none (by simp;omega)])
    rw[show rowA en T (.slice (some ⟨b,0,none⟩) l.length (cap+1)) a=row T k (.slice (some ⟨b,0,none⟩) a.length (cap+1)) a.length (a.flatMap en.enc) by simp only[rowA,c]];exact this) (fun b' J=>by
    simp only[rowA,row,nu,zg9] at J;subst J;exact⟨(Array.getElem?_eq_some_iff.1 o).1,.inl I⟩)
set_option maxHeartbeats 2000000
abbrev Ts:=List (Int×Value×List Tm)
def fU (ts:Ts):Own:=ts.map fun t=>rowA fm 193 t.2.1 t.2.2
def vQ (ts:Ts):List (Int×Value):=ts.map fun t=>(t.1,t.2.1)
theorem um (k:Int):∀ a:Ts,(ep (vQ a) k=none∧∀ t∈a,t.1≠k)∨∃ (m:Nat) (t:Int×Value×List Tm),a[m]?=some t∧t.1=k∧ep (vQ a) k=some t.2.1∧a.find? (fun t=>decide (t.1=k))=some t
 | []=>.inl ⟨rfl,by simp⟩
 | t::a=>by
  have hc:vQ (t::a)=(t.1,t.2.1)::vQ a:=rfl;rw[hc,c8];by_cases h:k=t.1
  ·rw[zg3 h];exact .inr ⟨0,t,I,h.symm,I,by rw[zi8,zg1 h.symm]⟩
  ·rw[zg2 h]
   rcases um k a with ⟨b,c⟩ | ⟨m,u,b,c,f,g⟩
   ·exact .inl ⟨b,fun x d=>by
     rcases zf3.1 d with rfl | d
     ·exact fun e=>h e.symm
     ·exact c x d⟩
   ·exact .inr ⟨m+1,u,b,c,f,by rw[zi8,zf9 (fun e=>h e.symm)];exact g⟩
theorem BP {a:Ts}{m:Nat}{t:Int×Value×List Tm}(h:a[m]?=some t)(p q:Own):(p++(fU a++q))[p.length+m]?=some (rowA fm 193 t.2.1 t.2.2):=by
 have b:=(zf7.1 h).1;rw[us,zh4 (by simpa [fU] using b)];simp[fU,h]
theorem BO {a:Ts}{m:Nat}{t:Int×Value×List Tm}(h:a[m]?=some t)(l':List Tm)(p q:Own):(p++(fU a++q)).set (p.length+m) (rowA fm 193 t.2.1 l')=p++(fU (a.set m (t.1,t.2.1,l'))++q):=by
 have b:=(zf7.1 h).1;rw[List.set_append_right _ _ oM,Nat.add_sub_cancel_left,List.set_append_left _ _ (by simpa [fU] using b)];simp[fU,List.map_set]
theorem freezeRowsT {E:World}{w:World}:∀ (e:Ts) (g:PH) (s:Own),At E g (fU e++s) w→∃ g',Le g g'∧At E g' s w∧∀ t∈e,SlA fm g' t.2.1 t.2.2
 | [],g,s,h=>⟨g,zb9 g,h,by simp⟩
 | (a,v,l)::r,g,s,h=>by
  have f:At E g (row 193 3 v l.length (l.flatMap fm.enc)::(fU r++s)) w:=h;obtain ⟨g1,c,i,j⟩:=f.freezeRow;obtain ⟨g2,b,k,m⟩:=freezeRowsT r g1 s i;refine⟨g2,c.trans b,k,fun t d=>?_⟩
  rcases zf3.1 d with rfl | d
  ·exact Sl.mono j b
  ·exact m t d
theorem SC.freezeRowsT {P:Program}{N:Nat}{E:World}{c:Code}{Q:Exit→Act→World→Prop}{f:Fr}{g:PH}{p q:Own}{b:Ts}(h:∀ g',Le g g'→(∀ t∈b,SlA fm g' t.2.1 t.2.2)→SC P N E c Q f g' (p++q)):SC P N E c Q f g (p++(fU b++q)):=fun a w d e=>by
 have i:(p++(fU b++q)).Perm (fU b++(p++q)):=by
  rw[← zh1,← zh1];exact List.perm_append_comm.append_right q
 obtain ⟨g',j,k,l⟩:=Go.Proofs.YtdepcjnaieflmaaGreatDoor.freezeRowsT b g (p++q)<|e.perm i;exact h g' j l a w d k
def EH (ts:Ts):Prop:=∀ t∈ts,t.2.2.length<1099511627776∧(t.2.2.map Prod.fst).Nodup∧∃ p n c,t.2.1 = .slice p n c
def EF (ts:Ts)(k:Int):List Tm:=match ts.find? (fun t=>decide (t.1=k)) with
 | some t=>sortBy Prod.fst t.2.2
 | none=>[(k,1)]
theorem BI {l l':List Tm}(hp:l'.Perm l)(a:l'.Pairwise fun x y=>¬ ij y.1 x.1<0)(hn:(l.map Prod.fst).Nodup):l'=sortBy Prod.fst l:=by
 have b:Srt Prod.fst l':=a.imp fun h=>by rw[ff] at h;omega
 exact bJ b<|ue hp.symm hn
def Tryz.sortT_ren:Ren :=
 {
  f:=fun x =>
   match x with
   | 6=>159
   | 15=>97
   | 14=>203
   | 28=>149
   | 29=>150
   | 20=>223
   | 21=>224
   | 22=>225
   | 23=>226
   | 24=>227
   | 25=>228
   | 26=>229
   | 27=>230
   | 46=>240
   | 47=>191
   | 48=>192
   | 49=>241
   | 50=>242
   | 57=>257
   | n=>n,
  t:=fun x =>
   match x with
   | 22=>188
   | 24=>193
   | 25=>196
   | 3=>3
   | 39=>138
   | 0=>0
   | 53=>181
   | 55=>183
   | 4=>4
   | 46=>175
   | 45=>174
   | 50=>108
   | 5=>5
   | 9=>9
   | 66=>217
   | 70=>221
   | 76=>234
   | 77=>235
   | n=>n,
  g:=fun x =>
   have n:=x;
   n }
theorem Tryz.sortT:SlLaysF0.n6 Tryz.prog Tryz.sortT_ren :=
  {
  mixed:=Eq.refl true,
  f6 :=
   Exists.intro "slices.SortFunc[[]cocycle/api.Term,cocycle/api.Term]"
    ⟨zg5 (id (Eq.refl true)),
     zb8 func159
      (ze4 some
       kR)⟩,
  f14 :=
   Exists.intro "slices.pdqsortCmpFunc[cocycle/api.Term]"
    ⟨zg5 (id (Eq.refl true)),
     zb8 func203
      (ze4 some
       kR)⟩,
  f15:=zb8 func97<|ze4 some kR,
  f20 :=
   Exists.intro "slices.insertionSortCmpFunc[cocycle/api.Term]"
    ⟨zg5 (id (Eq.refl true)),
     zb8 func223
      (ze4 some
       kR)⟩,
  f21 :=
   Exists.intro "slices.heapSortCmpFunc[cocycle/api.Term]"
    ⟨zg5 (id (Eq.refl true)),
     zb8 func224
      (ze4 some
       kR)⟩,
  f22 :=
   Exists.intro "slices.breakPatternsCmpFunc[cocycle/api.Term]"
    ⟨zg5 (id (Eq.refl true)),
     zb8 func225
      (ze4 some
       kR)⟩,
  f23 :=
   Exists.intro "slices.choosePivotCmpFunc[cocycle/api.Term]"
    ⟨zg5 (id (Eq.refl true)),
     zb8 func226
      (ze4 some
       kR)⟩,
  f24 :=
   Exists.intro "slices.reverseRangeCmpFunc[cocycle/api.Term]"
    ⟨zg5 (id (Eq.refl true)),
     zb8 func227
      (ze4 some
       kR)⟩,
  f25 :=
   Exists.intro "slices.partialInsertionSortCmpFunc[cocycle/api.Term]"
    ⟨zg5 (id (Eq.refl true)),
     zb8 func228
      (ze4 some
       kR)⟩,
  f26 :=
   Exists.intro "slices.partitionEqualCmpFunc[cocycle/api.Term]"
    ⟨zg5 (id (Eq.refl true)),
     zb8 func229
      (ze4 some
       kR)⟩,
  f27 :=
   Exists.intro "slices.partitionCmpFunc[cocycle/api.Term]"
    ⟨zg5 (id (Eq.refl true)),
     zb8 func230
      (ze4 some
       kR)⟩,
  f28:=zb8 func149<|ze4 some kR,
  f29:=zb8 func150<|ze4 some kR,
  f46 :=
   Exists.intro "slices.siftDownCmpFunc[cocycle/api.Term]"
    ⟨zg5 (id (Eq.refl true)),
     zb8 func240
      (ze4 some
       kR)⟩,
  f47:=zb8 func191<|ze4 some kR,
  f48:=zb8 func192<|ze4 some kR,
  f49 :=
   Exists.intro "slices.medianAdjacentCmpFunc[cocycle/api.Term]"
    ⟨zg5 (id (Eq.refl true)),
     zb8 func241
      (ze4 some
       kR)⟩,
  f50 :=
   Exists.intro "slices.medianCmpFunc[cocycle/api.Term]"
    ⟨zg5 (id (Eq.refl true)),
     zb8 func242
      (ze4 some
       kR)⟩,
  f57 :=
   Exists.intro "slices.order2CmpFunc[cocycle/api.Term]"
    ⟨zg5 (id (Eq.refl true)),
     zb8 func257
      (ze4 some
       kR)⟩,
  t0:=uT0,a0:=isAgg0,z0:=sizeOf0,v0:=zm4,t3:=uT3,
  a3:=iT3,z3:=zT3,v3:=zl4,t4:=uT4,a4:=isAgg4,
  z4:=zT4,v4:=zl9,t5:=uT5,a5:=isAgg5,z5:=sizeOf5,
  v5:=zeroValue5,t9:=uT9,a9:=isAgg9,z9:=sizeOf9,v9:=zeroValue9,
  t22:=underlying188,a22:=isAgg188,z22:=sizeOf188,v22:=zeroValue188,
  t25:=underlying196,a25:=isAgg196,z25:=sizeOf196,v25:=zeroValue196,
  t39:=jL,a39:=isAgg138,z39:=sizeOf138,v39:=zeroValue138,
  t45:=underlying174,a45:=isAgg174,z45:=sizeOf174,v45:=zeroValue174,
  t46:=underlying175,a46:=isAgg175,z46:=sizeOf175,v46:=zeroValue175,
  t50:=underlying108,a50:=isAgg108,z50:=sizeOf108,v50:=zeroValue108,
  t53:=underlying181,a53:=isAgg181,z53:=sizeOf181,v53:=zeroValue181,
  t55:=ng,a55:=isAgg183,z55:=sizeOf183,v55:=zeroValue183,
  t66:=underlying217,a66:=isAgg217,z66:=sizeOf217,v66:=zeroValue217,
  t70:=underlying221,a70:=isAgg221,z70:=sizeOf221,v70:=zeroValue221,
  t76:=underlying234,a76:=isAgg234,z76:=sizeOf234,v76:=zeroValue234,
  t77:=underlying235,a77:=isAgg235,z77:=sizeOf235,v77:=zeroValue235 }
theorem Fp:GA Tryz.prog 160 fm.enc (fun x y=>ij x.1 y.1):=by
 intro E g s x y;obtain ⟨a,c⟩:=x;obtain ⟨b,d⟩:=y;refine zb2 (args:=[.agg #[vi a,vb<|Gs c,txt<|xH c.natAbs],.agg #[vi b,vb<|Gs d,txt<|xH d.natAbs]]) func160 I ntmps160 (bE I)<|rZ (bW (bO I) fun e=>?_);refine bW (bO I) fun f=>aT I<|rZ<|lU (fA underlying193 I zT3 I)<|lK (qL (v:=vi a) iT3 I<|cO 1 I I)<|lU (fA underlying193 I zT3 I)<|lK (qL (v:=vi b) iT3 I<|cO 0 I I)<|lW (SO.call call44 I<|dM E g _ a b) ?_;rintro _ _ _ ⟨rfl,rfl,rfl⟩;exact aT I<|rE<|dR (s':=s) uR<|za8 (.inl I) results160 I ⟨I,I,I⟩
theorem FZ {α:Type}(key:α→Int):SWO (ltOf fun x y:α=>ij (key x)<|key y):=⟨fun x=>by simp[ltOf,ff],fun x y z a b=>by simp[ltOf,ff] at *;omega,fun x y z a b=>by simp[ltOf,ff] at *;omega⟩
theorem BJ (E:World)(g:PH)(s:Own)(v:Value)(l:List Tm)(i:Nat)(a:s[i]?=some (rowA fm 193 v l))(hl:l.length<1099511627776)(hn:(l.map Prod.fst).Nodup) :
  Ctr Tryz.prog E 159 #[v,.func (.func 160) #[] #[]] g s (fun _ g' s'=>g=g'∧s'=s.set i (rowA fm 193 v<|sortBy Prod.fst l)) :=
 (xQ Tryz.sortT fm isAgg193 sizeOf193 (fun x y=>ij x.1 y.1) (FZ Prod.fst) 160 call160 Fp 193 E g s v l i a hl).mono fun _ _ _ ⟨b,l',c,d,e⟩=>⟨b,by rw[e,BI c d hn]⟩
theorem z7 (E:World)(g:PH)(p q:Own)(f bx J ms:Nat)(u:Value)(bk:Bool)(k:Int)(a:Ts)(B:EH a)(i j z:Nat)(hq:p[z]?=some (pt f<|.cells #[pp bx 0] 145 (0,0)))(K:p[i]?=some (edP bx u J ms bk))(L:p[j]?=some (mp ms<|vQ a)) :
  cU Tryz.prog E (.func (.func 157) #[] #[pp f 0]) [vi k] g (p++(fU a++q)) (fun r g' s'=>Le g g'∧∃ d,s'=p++(fU d++q)∧((a.find? (fun t=>decide (t.1=k))=none∧d=a∧SlA fm g' r [(k,1)])∨∃ (m:Nat) (t:Int×Value×List Tm),a[m]?=some t∧t.1=k∧a.find? (fun t=>decide (t.1=k))=some t∧r=t.2.1∧d=a.set m (t.1,t.2.1,sortBy Prod.fst t.2.2))):=by
 refine cU.mk (args:=[_]) (cap:=[pp f 0]) call157 ?_;have left:∀ {n:Nat} {x:Ent},p[n]?=some x→(p++(fU a++q))[n]?=some x:=fun {n x} h=>by
  rw[zh4 (zf7.1 h).1];exact h
 have l:=left hq;have o:=left K;have w:=left L;generalize H:p++(fU a++q)=s at *
 rcases um k a with ⟨e,C⟩ | ⟨m,t,e,C,M,N⟩
 ·have O:a.find? (fun t=>decide (t.1=k))=none:=List.find?_eq_none.2 fun t P=>by simpa using C t P
  refine zb2 (args:=[vi k,pp f 0]) func157 I ntmps157 (bE I)<|rZ<|aT I<|rZ<|lK (qL (v:=pp bx 0) isAgg145 I<|cO z l I)<|lU (nC I)<|lU (fA kV I sizeOf185 I)<|lK (qL (v:=.map<|some ms) isAgg185 I<|cO i o I)<|lM I<|lK (SQ.eq (v':=.tuple #[.slice none 0 0,vb false]) (SQ.lookupOk mty185 I I<|bh.own j w) (by rw[e];rfl)) ?_;refine lM I<|yX I<|yX I<|lA I<|aT I<|sQ<|sW I<|lU (SU.not I)<|tZ<|za2 I<|sW I<|lW (SO.call call158 I<|BD E g _ k 1<|.inr<|.inl I) ?_;rintro _ g1 _ ⟨rfl,rfl,y⟩;refine lW (bS sty188 I I I (ab ⟨I,trivial⟩) dC) ?_;rintro _ _ _ ⟨Q,rfl,rfl,rfl⟩;refine zb5 fun g2 A D=>?_;exact aT I<|rE<|tR<|za8 (.inl I) results157 I ⟨y.trans A,a,H.symm,.inl ⟨O,I,SlA.lit D I I⟩⟩
 ·have b:=BP e p q;have c:=BO e (sortBy Prod.fst t.2.2) p q;rw[H] at b c;obtain ⟨F,G,_⟩:=B t<|zg4 e;refine zb2 (args:=[vi k,pp f 0]) func157 I ntmps157 (bE I)<|rZ<|aT I<|rZ<|lK (qL (v:=pp bx 0) isAgg145 I<|cO z l I)<|lU (nC I)<|lU (fA kV I sizeOf185 I)<|lK (qL (v:=.map<|some ms) isAgg185 I<|cO i o I)<|lM I<|lK (SQ.eq (v':=.tuple #[t.2.1,vb true]) (SQ.lookupOk mty185 I I<|bh.own j w) (by rw[M];rfl)) ?_;refine lM I<|yX I<|yX I<|lA I<|aT I<|sQ<|sW I<|lU (SU.not I)<|tZ<|za1 I<|kP<|tN<|sW I<|lW (SO.call call159 I<|BJ E g _ t.2.1 t.2.2 _ b F G) ?_;rintro _ _ _ ⟨rfl,rfl⟩;exact tZ<|sW I<|aT I<|rE<|za8 (.inl I) results157 I ⟨zb9 _,_,c,.inr ⟨m,t,e,C,N,I,I⟩⟩
theorem zA (l:List Tm):sortBy Prod.fst (sortBy Prod.fst l)=sortBy Prod.fst l:=(bJ (dj l)<|aI.refl _).symm
def jD (ts:Ts)(ids:List Int):Ts:=ts.map fun t=>if t.1∈ids then (t.1,t.2.1,sortBy Prod.fst t.2.2) else t
theorem C6 (a:Ts):jD a []=a:=by simp[jD]
theorem BC {a:Ts}{ids:List Int}{k:Int}(h:(jD a ids).find? (fun t=>decide (t.1=k))=none):∀ t∈a,t.1≠k:=fun t b e=>by
 have c:=List.find?_eq_none.1 h _<|zf4.2 ⟨t,b,rfl⟩;apply c;split <;> exact zg1 e
theorem BB {b:Ts}{ids:List Int}{k:Int}(h:∀ t∈b,t.1≠k):jD b (ids++[k])=jD b ids:=by
 unfold jD;apply zc9;intro t d;have c:=h t d;by_cases a:t.1∈ids
 ·rw[zg3 a,zg3 (by simp[a])]
 ·rw[zg2 a,zg2 (by simp[a,c])]
theorem C7 {b:Ts}{ids:List Int}{m:Nat}{a:Int×Value×List Tm}(h:(jD b ids)[m]?=some a):∃ t,b[m]?=some t∧t.1=a.1∧t.2.1=a.2.1∧sortBy Prod.fst a.2.2=sortBy Prod.fst t.2.2:=by
 unfold jD at h;rw[zi2] at h;cases c:b[m]? with
 | none=>rw[c] at h;cases h
 | some t =>
  rw[c] at h;simp only[Option.map_some,zg9] at h;subst h;refine⟨t,I,?_,?_,?_⟩
  ·split <;> rfl
  ·split <;> rfl
  ·split
   ·exact zA _
   ·rfl
theorem Bz {a:Ts}(hn:(a.map Prod.fst).Nodup){ids:List Int}{k:Int}{m:Nat}{c:Int×Value×List Tm}(h:(jD a ids)[m]?=some c)(o:c.1=k):(jD a ids).set m (c.1,c.2.1,sortBy Prod.fst c.2.2)=jD a (ids++[k]):=by
 obtain ⟨t,f,g,p,q⟩:=C7 h;apply List.ext_getElem?;intro n;rw[List.getElem?_set];by_cases e:m=n
 ·subst e;have r:=(zf7.1 h).1;rw[zg3 rfl,zg3 r];unfold jD;rw[zi2,f,Option.map_some,zg3 (by simp[g,o]),← q,← g,← p]
 ·rw[zg2 e];unfold jD;rw[zi2,zi2];cases d:a[n]? with
  | none=>rfl
  | some u =>
   have i:u.1≠k:=fun s=>by
    have j:=(zf7.1 f).1;have l:=(zf7.1 d).1;have b:(a.map Prod.fst)[m]'(by simpa using j)=(a.map Prod.fst)[n]'(by simpa using l):=by
     rw[List.getElem_map,List.getElem_map,(zf7.1 f).2,(zf7.1 d).2,g,o,s]
    exact e<|(List.getElem_inj hn).1 b
   rw[Option.map_some,Option.map_some];by_cases b:u.1∈ids
   ·rw[zg3 b,zg3 (by simp[b])]
   ·rw[zg2 b,zg2 (by simp[b,i])]
theorem AU {a:Ts}(h:EH a)(ids:List Int):EH (jD a ids):=fun t e=>by
 obtain ⟨u,f,rfl⟩:=zf4.1 e;obtain ⟨b,c,d⟩:=h u f;split
 ·exact⟨by rw[eI];exact b,((fE u.2.2).map Prod.fst).symm.nodup c,d⟩
 ·exact⟨b,c,d⟩
theorem C5 (a:Ts)(ids:List Int):vQ (jD a ids)=vQ a:=by
 unfold vQ jD;rw[zi7];apply zc9;intro t _;simp only[Function.comp];split <;> rfl
theorem uY {α β γ:Type}{R:α→γ→Prop}{S:β→γ→Prop}{f:α→β}:∀ {l:List α} {m:List γ},(∀ a c,a∈l→R a c→S (f a) c)→ax R l m→ax S (l.map f) m
 | [],[],_,_=>trivial
 | a::l,c::m,h,⟨b,d⟩=>⟨h a c dO b,uY (fun x y e=>h x y<|by simp[e]) d⟩
 | [],_::_,_,h=>h.elim
 | _::_,[],_,h=>h.elim
def ImS (ts:Ts)(g:PH)(c:Cl)(r:Im):Prop:=r.cell=c.id∧match ts.find? (fun t=>decide (t.1=c.id)) with
 | some t=>.slice r.sv.p r.sv.n r.sv.c=t.2.1
 | none=>SlA fm g (.slice r.sv.p r.sv.n r.sv.c) [(c.id,1)]
theorem ImS.mono {a:Ts}{g g':PH}(hl:Le g g'){c:Cl}{r:Im}(h:ImS a g c r):ImS a g' c r:=by
 refine⟨h.1,?_⟩;have b:=h.2
 revert b
 cases a.find? (fun t=>decide (t.1=c.id)) with
 | some t=>exact id
 | none=>exact fun b=>za5 b hl
theorem ImS.done {a:Ts}{g:PH}{F:List Cl}(e:∀ t∈jD a (F.map Cl.id),SlA fm g t.2.1 t.2.2){c:Cl}(hc:c∈F){r:Im}(h:ImS a g c r):ImR g (c.id,EF a c.id) r:=by
 refine⟨h.1,?_⟩;have b:=h.2;unfold EF;dsimp only
 revert b
 cases d:a.find? (fun t=>decide (t.1=c.id)) with
 | some t =>
  intro b;have f:=zk8 d;have i:t.1=c.id:=by simpa using List.find?_some d
  dsimp only at b ⊢;rw[b];exact e (t.1,t.2.1,sortBy Prod.fst t.2.2)<|zf4.2 ⟨t,f,by rw[zg3 (by rw[i];exact zf4.2 ⟨c,hc,I⟩)]⟩
 | none=>exact id
theorem BA {a:Ts}{ids:List Int}{k:Int}{b:Int×Value×List Tm}(h:(jD a ids).find? (fun t=>decide (t.1=k))=some b):∃ t,a.find? (fun t=>decide (t.1=k))=some t∧t.2.1=b.2.1:=by
 unfold jD at h;rw[List.find?_map] at h;rw[Option.map_eq_some_iff] at h;obtain ⟨t,c,d⟩:=h;refine⟨t,?_,?_⟩
 ·rw[← c];congr 1;funext u;simp only[Function.comp];split <;> rfl
 ·rw[← d];split <;> rfl
theorem Co {a e:Ts}(j:(a.map Prod.fst).Nodup)(k:EH a){ids:List Int}{b:Cl}{g2:PH}{v:Value}
  (h:((jD a ids).find? (fun t=>decide (t.1=b.id))=none∧e=jD a ids∧SlA fm g2 v [(b.id,1)])∨∃ (m:Nat) (t:Int×Value×List Tm),(jD a ids)[m]?=some t∧t.1=b.id∧(jD a ids).find? (fun t=>decide (t.1=b.id))=some t∧v=t.2.1∧e=(jD a ids).set m (t.1,t.2.1,sortBy Prod.fst t.2.2)) :
  ∃ q n d,v = .slice q n d∧e=jD a (ids++[b.id])∧ImS a g2 b ⟨b.id,⟨q,n,d⟩⟩:=by
 rcases h with ⟨g,rfl,i⟩ | ⟨m,t,g,s,i,rfl,rfl⟩
 ·obtain ⟨p,c,rfl⟩:=za4 i;have f:=BC g;refine⟨p,_,c,I,(BB f).symm,I,?_⟩;rw[show a.find? (fun t=>decide (t.1=b.id))=none from List.find?_eq_none.2 fun t w=>by simpa using f t w];exact i
 ·obtain ⟨_,_,p,n,c,r⟩:=AU k ids t<|zg4 g;obtain ⟨u,l,o⟩:=BA i;refine⟨p,n,c,r,Bz j g s,I,?_⟩;rw[l];dsimp only;rw[o,r]
theorem BH (E:World)(g:PH)(n t:Own)(bx Y ms:Nat)(u v:Value)(bk:Bool)(A D:List Cl)(d:Ts)(K:EH d)(Z:(d.map Prod.fst).Nodup)(hu:ai g u A)(hv:ai g v D)(hA:A.length<1099511627776)(hD:D.length<1099511627776)(i j:Nat)(C:n[i]?=some (edP bx u Y ms bk))(a0:n[j]?=some (mp ms<|vQ d)) :
  Ctr Tryz.prog E 104 #[pp bx 0,.agg #[v]] g (n++(fU d++t)) (fun r g' s'=>s'=n++t∧Le g g'∧∃ iv,r = .agg #[iv,vb bk]∧Ims g' iv ((if bk then D else A).map fun c=>(c.id,EF d c.id))):=by
 have V:(n++(fU d++t))[i]?=some (edP bx u Y ms bk):=by rw[zh4 (zf7.1 C).1];exact C
 obtain ⟨pu,W,rfl⟩:=hu.form;obtain ⟨pv,y,rfl⟩:=hv.form;refine zb2 (args:=[pp bx 0,.agg #[.slice pv D.length y]]) func104 I ntmps104 (bE I)<|rZ (bW (bO I) fun z=>?_);refine bW (bO I) fun L=>bW (aL zl5) fun J=>tZ (rZ<|lK (qL isAgg145 I<|cO 2 I I)<|lU (nC I)<|lU (fA kV I ae I)<|lK (SQ.loadOne an ae I<|cO (v:=.slice pu A.length W) (i+3) V I)<|bW (aL zl3) fun M=>?_);refine oZ (sK 0 ae I I I I I sB)<|tZ<|SC.cut (ι:=Unit) (fun _=>[(2,pp z 0),(3,pp L 0),(4,pp J 0),(5,pp M 0)]) (fun _=>g) (fun _=>pt M (bY #[if bk then .slice pv D.length y else .slice pu A.length W] 29)::pt J (bY #[.slice none 0 0,vb false] 92)::pt L (bY #[.slice pv D.length y] 29)::pt z (bY #[pp bx 0] 145)::(n++(fU d++t))) (fun _=>True) ?_ ?_
 ·refine rZ<|lK (qL isAgg145 I<|cO 3 I I)<|lU (nC I)<|lU (fA kV I zT4 I)<|lK (qL (v:=vb bk) isAgg4 I<|cO (i+4) V I)<|tZ ?_;cases bk with
  | true =>
   exact za2 I<|rG<|lK (qV 2 an ae I I I)<|oZ (sK 0 ae I I I I I sB)<|SL.nil<|za9 () sB I I trivial
  | false =>
   exact za1 I<|kP<|za9 () sB I I trivial
 rintro _ -;try dsimp only
 have hF:ai g (if bk then .slice pv D.length y else .slice pu A.length W) (if bk then D else A):=by cases bk <;> assumption
 have b8:(if bk then D else A).length<1099511627776:=by cases bk <;> assumption
 generalize (if bk=true then D else A)=F at *;generalize (if bk=true then Value.slice pv D.length y else Value.slice pu A.length W)=w at *;obtain ⟨rs,G,B⟩:=hF;have c0:=B.length;obtain ⟨p,c,rfl⟩:=za4 G;refine rZ (lK (qL isAgg145 I<|cO 3 I I)<|lU (nC I)<|lU (fA kV I zT4 I)<|lK (qL (v:=vb bk) isAgg4 I<|cO (i+4) V I)<|lU (za3 I<|buildB92 _)<|bW (aL zl5) fun X=>?_);refine oZ (sK 0 bT I I I I I sB)<|tZ<|rZ<|lU (SU.mkFunc I)<|aT I<|sQ<|rZ<|lU (fA dA I cq I)<|lK (qL eG I<|cO 1 I I)<|lU (eN aF I)<|lM I<|tZ<|bK ?_;clear V;refine zb6 199 2<|oP (ι:=Nat×PH×Value×List Im) (fun i=>[(2,pp z 0),(4,pp J 0),(6,pp X 0),(7,.func (.func 157) #[] #[pp z 0]),(26,.slice p rs.length c),(27,vi rs.length),(28,vi i.1)]) (fun i=>i.2.1)
  (fun i=>rowA li 199 i.2.2.1 i.2.2.2::pt X (bY #[i.2.2.1,vb bk] 92)::pt M (bY #[.slice p rs.length c] 29)::pt J (bY #[.slice none 0 0,vb false] 92)::pt L (bY #[.slice pv D.length y] 29)::pt z (bY #[pp bx 0] 145)::(n++(fU (jD d<|(F.take i.1).map Cl.id)++t)))
  (fun i=>i.1≤rs.length∧Le g i.2.1∧ax (ImS d i.2.1) (F.take i.1) i.2.2.2) (fun i=>rs.length - i.1) (0,g,.slice none 0 0,[])
  sB rfl (by dsimp only;rw[List.take_zero,List.map_nil,C6];rfl) ⟨zf8 _,zb9 g,by simp[ax]⟩ ?_
 rintro ⟨k,g1,ov,acc⟩ ⟨hk,s,b⟩;dsimp only at hk s b ⊢;have a1:=b.length;rw[ze6] at a1;refine rZ<|yL I<|tZ<|sQ<|iP I (fun a2=>?_) (fun a2=>?_)
 ·have N:k<rs.length:=oM;have O:k<F.length:=oM;have a3:=za6 G oM;have a4:=B.get (List.getElem?_eq_getElem O) (List.getElem?_eq_getElem N);have a5:rs[((k:Nat):Int).toNat]?=some rs[k]:=List.getElem?_eq_getElem N;have P:F.take (k+1)=F.take k++[F[k]]:=tS O;generalize rs[k]=x at *;generalize F[k]=cx at *;obtain ⟨xi,xd,xp,xn,xc⟩:=x;obtain ⟨e1,e2,-⟩:=a4;dsimp only at e1 e2;subst e1 e2;refine kP (tN (sQ (bK (rZ (lU (iA aF ar I I a3 oM (show (k:Int)<((rs.length:Nat):Int) by omega)) ?_)))));refine lK (SQ.elemA dH ar I (za7 (za5 G s)) a5) (bW (aL zm2) fun b9=>?_);refine oZ (sK 0 ar I I I I I sB) ?_;refine tZ ?_;refine SC.drawT 3 [11,14] [(0,2),(1,2),(2,1),(3,2),(4,1),(5,2),(6,2),(7,1),(8,0),(9,2),(10,0),(11,0),(12,2),(13,2),(14,0)] ze5 kR ?_;refine pU I (fA underlying92 I p8 I) (pU I (fA ze I tj I) (pK I (qL isAgg88 I (cO 2 I I)) (pU I (fA ao I zT3 I) (pK I (qL iT3 I (cO 0 I I)) (yM I (pU I (fA ao I zT3 I) (pK I (qL iT3 I (cO 0 I I)) (SP.o I (SO.callV I I (z7 E g1 (pt b9 (bY #[vi cx.id,vi cx.dim,.slice xp xn xc] 37)::rowA li 199 ov acc::pt X (bY #[ov,vb bk] 92)::pt M (bY #[.slice p rs.length c] 29)::pt J (bY #[.slice none 0 0,vb false] 92)::pt L (bY #[.slice pv D.length y] 29)::pt z (bY #[pp bx 0] 145)::n) t z bx Y ms _ bk cx.id (jD d ((F.take k).map Cl.id)) (AU K _) (i+7) (j+7) 6 I C (by rw[C5];exact a0))) dC (.inr (by rintro v40 g2 _ ⟨a,a9,rfl,f⟩;exact⟨by assumption,(by exact .cons_cons _ (.cons_cons _ (.cons_cons _ (List.nil_sublist _))))⟩)) ?_))))))));rintro v40 g2 _ ⟨a,a9,rfl,f⟩;obtain ⟨Q,n2,d2,rfl,R,S⟩:=Co Z K f;subst R;refine pU rfl (za3 rfl (build199 _ _ _ _)) (SP.o rfl (bS sty88 rfl rfl rfl (ab sB) dC) dC (.inr (by rintro _ _ _ ⟨b0,rfl,rfl,rfl⟩;exact⟨by assumption,(by exact .cons _ (.cons_cons _ (.cons_cons _ (.cons_cons _ (List.nil_sublist _)))))⟩)) ?_);rintro _ _ _ ⟨b0,rfl,rfl,rfl⟩;refine SP.o I (aP (e:=li) 1 ⟨cx.id,⟨Q,n2,d2⟩⟩ sty88 I I I I I oM oM) dC (.inl dC) ?_;rintro ov' _ _ ⟨rfl,rfl⟩;refine zd3 fun ⟨w0,T⟩=>?_;obtain ⟨q',d',rfl⟩:=ah (e:=li) (l:=acc++[⟨cx.id,⟨Q,n2,d2⟩⟩]) (i:=1) T rfl;clear T w0;refine pU rfl (fA underlying92 rfl p8 rfl) (pU rfl (fA ze rfl tj rfl) (SP.on rfl (SO.store1 2 tj rfl rfl rfl rfl (bE rfl) (by rfl)) (.inl dC) ?_));rintro _ _ _ ⟨rfl,rfl⟩;refine pN (bN (tN (rG (yD I (lM I (SL.nil (dR (.cons _ (.refl _)) ?_)))))));exact ST.again (k+1,g2,_,acc++[⟨cx.id,⟨Q,n2,d2⟩⟩]) sB I (by dsimp only;rw[P,zg7];rfl) ⟨by dsimp only;omega,s.trans a,by
   dsimp only;rw[P];exact (b.mono fun _ _=>ImS.mono a).append ⟨S,trivial⟩⟩ (by dsimp only;omega)
 ·have b1:F.take k=F:=tL oM;rw[b1] at b ⊢;refine xI (tX<|tX<|bX<|tN<|sQ<|fS fun g2 a U=>?_);obtain ⟨Q,d2,rfl⟩:=zc3 U;refine SC.freezeRowsT (p:=pt X (bY #[.slice Q acc.length d2,vb bk] 92)::pt M (bY #[.slice p rs.length c] 29)::pt J (bY #[.slice none 0 0,vb false] 92)::pt L (bY #[.slice pv D.length y] 29)::pt z (bY #[pp bx 0] 145)::n) (q:=t) fun g3 m b7=>?_;refine rG<|lK (qV 0 gt bT I I I)<|oZ (sK 2 bT I I I I I sB)<|tZ<|rE ?_;have H:ax (ImR g3) (F.map fun c=>(c.id,EF d c.id)) acc:=uY (fun c r hc hr=>ImS.done b7 hc<|hr.mono<|a.trans m) b;exact ST.retCD 2 (n++t) (.inl I) results104 I gt bT I I uR ⟨I,s.trans<|a.trans m,_,I,acc,za5 U m,H⟩
abbrev edV (e:Ed)(sv pv:Value):Array Value:=#[vi e.kind,vi e.cell,vi e.dim,vi e.new,vi e.other,sv,pv]
def lC (A:List Cl)(e:Ed):List aj:=((ag A e.other).getD aA).sides
def sd (A:List Cl)(e:Ed):Int:=if (ag A e.cell).isSome&&(ag A e.other).isSome then (if aC A e.cell=[e.other]∧¬ 0<(aC A e.other).length then 0 else 32) else 30
set_option maxHeartbeats 4000000
def FR (l:List aj)(cell:Int):Int:=((l.find? fun x=>decide (x.cell=cell)).map aj.sign).getD 0
def wk (e:Ed)(y:Cl):Cl:=⟨y.id,y.dim,y.sides++[⟨e.other,FR y.sides e.cell⟩]⟩
def fY (A:List Cl)(e:Ed)(ids:List Int):List Cl:=A.map fun y=>if y.id∈ids then wk e y else y
def kJ (l:List aj)(b:Bool):aj:=(l.find? fun x=>decide (0<x.sign) == b).getD ⟨0,0⟩
def eO (A:List Cl)(e:Ed):Int:=match ag A e.cell with
 | none=>30
 | some c=>if c.dim≠1 then 21 else if min e.new e.other<1∨e.new=e.other then 1 else if (ag A e.new).isSome||(ag A e.other).isSome then 54 else 0
def nE (A:List Cl)(e:Ed):List Cl :=
 lL (lL (lL (fY A e<|aC A e.cell) ⟨e.new,0,[]⟩) ⟨e.other,1,[⟨e.new,-1⟩,kJ ((ag A e.cell).getD aA).sides true]⟩) ⟨e.cell,1,[kJ ((ag A e.cell).getD aA).sides false,⟨e.new,1⟩]⟩
theorem Tryz.buildI37 (x:Int)(w:World):(Instr.build 37 #[(0,vi x)]).run Tryz.prog w = .ok (.agg #[vi x,vi 0,.slice none 0 0]) w:=by
 have a:(vi x).cells = #[vi x]:=rfl;simp[Instr.build,Instr.fill,a];rfl
end Go.Proofs.YtdepcjnaieflmaaGreatDoor
