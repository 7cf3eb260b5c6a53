/- 2 -/
import Derived.Test.YtbbppeihhkhkcaaGreatDoorAn01
import Derived.Test.YtbbppeihhkhkcaaGreatDoorProg
import Derived.KernelRfl
import Derived.MapKept
set_option linter.unusedSimpArgs false
set_option linter.unusedVariables false
namespace Go.Sy
open Go
section
variable {P:Program}{N:Nat}{E:World}{ops:Array Oper}{Q:Exit→Act→World→Prop}{f:Fr}{g g':PH}{s:Own}
theorem ST.less {e:Exit}(hl:Le g' g)(h:ST N E Q e f g' s):ST N E Q e f g s:=fun a w b c=>h a w b (c.less hl)
theorem SC.freeze {c:Code}{b:Nat}{o:Obj}(h:∀ g',Le g g'→g' b=some o→SC P N E c Q f g' s):SC P N E c Q f g (pt b o::s):=fun a w i d=>by
 have e:=d.own (pt b o) (by simp);simp only[pt,Option.bind_some] at e;obtain ⟨j,k⟩:=d.freeze (b:=b) rfl e;exact h _ k (fc _ _ _) a w i j
theorem SL.freeze {l:List Oper}{b:Nat}{o:Obj}(h:∀ g',Le g g'→g' b=some o→SL P N E ops Q l f g' s):SL P N E ops Q l f g (pt b o::s):=fun a w e c=>by
 have d:=c.own (pt b o) (by simp);simp only[pt,Option.bind_some] at d;obtain ⟨i,j⟩:=c.freeze (b:=b) rfl d;exact h _ j (fc _ _ _) a w e i
theorem ST.freeze {e:Exit}{b:Nat}{o:Obj}(h:∀ g',Le g g'→g' b=some o→ST N E Q e f g' s):ST N E Q e f g (pt b o::s):=fun a w i c=>by
 have d:=c.own (pt b o) (by simp);simp only[pt,Option.bind_some] at d;obtain ⟨j,k⟩:=c.freeze (b:=b) rfl d;exact h _ k (fc _ _ _) a w i j
theorem SC.freezeRow {c:Code}{T:TypeId}{k n:Nat}{v:Value}{xs:List Value}(h:∀ g',Le g g'→Sl g' k v n xs→SC P N E c Q f g' s):SC P N E c Q f g (row T k v n xs::s):=fun a w b d=>by
 obtain ⟨g',e,i,j⟩:=d.freezeRow;exact h g' e j a w b i
theorem SL.freezeRow {l:List Oper}{T:TypeId}{k n:Nat}{v:Value}{xs:List Value}(h:∀ g',Le g g'→Sl g' k v n xs→SL P N E ops Q l f g' s):SL P N E ops Q l f g (row T k v n xs::s):=fun a w b c=>by
 obtain ⟨g',d,e,i⟩:=c.freezeRow;exact h g' d i a w b e
theorem ST.freezeRow {e:Exit}{T:TypeId}{k n:Nat}{v:Value}{xs:List Value}(h:∀ g',Le g g'→Sl g' k v n xs→ST N E Q e f g' s):ST N E Q e f g (row T k v n xs::s):=fun a w b c=>by
 obtain ⟨g',d,i,j⟩:=c.freezeRow;exact h g' d j a w b i
end
theorem Ctr.facts {P:Program}{E:World}{n:FuncId}{args:Array Value}{g:PH}{s:Own}{R:Value→PH→Own→Prop}(h:(∃ w,At E g s w)→Ctr P E n args g s R):Ctr P E n args g s R:=fun w a=>h ⟨w,a⟩ w a
structure Enc (α:Type)(k:Nat) where
 enc:α→List Value
 len:∀ a,(enc a).length=k
 one:∀ a,∀ u∈enc a,u.oneCell'=true
 pos:0<k
section
variable {α:Type}{k:Nat}(e:Enc α k)
theorem Enc.length (l:List α):(l.flatMap e.enc).length=l.length * k:=by
 induction l with
 | nil=>simp
 | cons a r ih=>simp[ih,e.len,Nat.succ_mul]; omega
theorem Enc.get {l:List α}{i j:Nat}{a:α}{v:Value}(b:l[i]?=some a)(c:(e.enc a)[j]?=some v):(l.flatMap e.enc)[i * k+j]?=some v:=by
 induction l generalizing i with
 | nil=>simp at b
 | cons x r ih =>
  have d:j<k:=by rw[← e.len a]; exact (zf7.1 c).1
  simp only[zh7];cases i with
  | zero =>
   simp only[List.getElem?_cons_zero,zg9] at b;subst b;rw[zh4 (by rw[e.len]; omega)];simpa using c
  | succ i =>
   simp only[List.getElem?_cons_succ] at b;rw[zh5 (by rw[e.len,Nat.succ_mul]; omega),e.len,show (i+1) * k+j - k=i * k+j by rw[Nat.succ_mul]; omega];exact ih b
theorem Enc.ones (l:List α):∀ u∈l.flatMap e.enc,u.oneCell'=true:=by
 intro u b;obtain ⟨a,_,h⟩:=List.mem_flatMap.1 b;exact e.one a u h
theorem Enc.set {l:List α}{i:Nat}{a:α}(b:i<l.length):(l.flatMap e.enc).take (i * k)++e.enc a++(l.flatMap e.enc).drop (i * k+k)=(l.set i a).flatMap e.enc:=by
 induction l generalizing i with
 | nil=>simp at b
 | cons x r ih =>
  cases i with
  | zero =>
   simp only[Nat.zero_mul,List.take_zero,List.nil_append,Nat.zero_add,zh7,List.set_cons_zero];rw[List.drop_append_of_le_length (by rw[e.len]; omega),List.drop_of_length_le (by rw[e.len]; omega)];simp
  | succ i =>
   simp only[zh7,List.set_cons_succ];rw[← ih (by simpa using b)];rw[List.take_append,List.drop_append,e.len,tL (by rw[e.len,Nat.succ_mul]; omega),List.drop_of_length_le (by rw[e.len,Nat.succ_mul]; omega)];rw[show (i+1) * k - k=i * k by rw[Nat.succ_mul]; omega,show (i+1) * k+k - k=i * k+k by rw[Nat.succ_mul]; omega];simp
theorem o7 {β:Type}(L ys:List β)(o m:Nat)(b:o≤L.length)(hm:o+ys.length≤m):(L.take o++ys++L.drop (o+ys.length)).take m=(L.take m).take o++ys++(L.take m).drop (o+ys.length):=by
 have a:(L.take o++ys).length=o+ys.length:=by simp[Nat.min_eq_left b]
 rw[List.take_append,a,tL oM,List.drop_take,List.take_take,Nat.min_eq_left oM]
def rowA (T:TypeId)(v:Value)(l:List α):Ent:=row T k v l.length (l.flatMap e.enc)
def SlA (g:PH)(v:Value)(l:List α):Prop:=Sl g k v l.length (l.flatMap e.enc)
end
section
variable {α:Type}{k:Nat}{e:Enc α k}{P:Program}{N:Nat}{E:World}{ops:Array Oper}{f:Fr}{g:PH}{s:Own}{dst:Option Tmp}{ty:TypeId}{pos:String}{af:Array Edge}{gd:Option (Nat×Bool)}
theorem SlA.mono {g':PH}{v:Value}{l:List α}(h:SlA e g v l)(hl:Le g g'):SlA e g' v l:=Sl.mono h hl
theorem SlA.form {v:Value}{l:List α}(h:SlA e g v l):∃ p c,v = .slice p l.length c:=zc3 h
theorem SlA.based {v:Value}{l:List α}(h:SlA e g v l)(hn:0<l.length):based v=true:=Sl.based h hn e.pos
theorem SQ.elemA {x:Operand}{T:TypeId}{v:Value}{l:List α}{a:α}{j:Nat}(b:∀ w,(isAgg T).run P w = .ok true w)(c:∀ w,(sizeOf T).run P w = .ok k w)(d:ev f x=some (nE v<|j * k))(hr:Rd g s v (l.flatMap e.enc))(h:l[j]?=some a) :
  SQ P N E ⟨dst,.load T x,ty,pos,af,gd⟩ f g s (.agg (e.enc a).toArray) :=
 SQ.loadAggC b c d hr (e.len a) e.pos fun _ _ i=>e.get h i
theorem SQ.partA {x:Operand}{T:TypeId}{v:Value}{l:List α}{a:α}{j o:Nat}{u:Value}(b:∀ w,(isAgg T).run P w = .ok false w)(c:ev f x=some (nE v<|j * k+o))(hr:Rd g s v (l.flatMap e.enc))(d:l[j]?=some a)(h:(e.enc a)[o]?=some u) :
  SQ P N E ⟨dst,.load T x,ty,pos,af,gd⟩ f g s u:=SQ.loadC b c hr<|e.get d h
theorem SQ.elem1 {e:Enc α 1}{x:Operand}{T:TypeId}{v:Value}{l:List α}{a:α}{j:Nat}{u:Value}(b:∀ w,(isAgg T).run P w = .ok false w)(c:ev f x=some (nE v<|j * 1))(hr:Rd g s v (l.flatMap e.enc))(d:l[j]?=some a)(h:e.enc a=[u]) :
  SQ P N E ⟨dst,.load T x,ty,pos,af,gd⟩ f g s u:=SQ.loadC b c hr (by have:=e.get (j:=0) d (v:=u) (by rw[h]; rfl); simpa using this)
theorem SlA.rd {v:Value}{l:List α}(h:SlA e g v l):Rd g s v (l.flatMap e.enc):=Sl.rd h
theorem Rd.rowA {T:TypeId}{v:Value}{l:List α}(i:Nat)(a:s[i]?=some (rowA e T v l)):Rd g s v (l.flatMap e.enc):=Rd.row i a
theorem ag {w:World}{T:TypeId}{v:Value}{l:List α}{i:Nat}(h:At E g s w)(a:s[i]?=some (rowA e T v l)):∃ p c,v = .slice p l.length c:=(Dp h a).1
theorem bw {w:World}{T:TypeId}{v:Value}{l:List α}{i:Nat}(h:At E g s w)(a:s[i]?=some (rowA e T v l))(hn:0<l.length):∃ b c,v = .slice (some ⟨b,0,none⟩) l.length c:=by
 obtain ⟨_,d⟩:=gX h a
 rcases d with ⟨p,rfl,f⟩ | ⟨b,cap,j,rfl,_⟩
 ·omega
 ·exact⟨b,cap+1,I⟩
theorem SO.setA {x y:Operand}{T U:TypeId}{v u:Value}{l:List α}{a:α}{j:Nat}(i:Nat)(J:∀ w,(sizeOf T).run P w = .ok k w)(D:ev f x=some (nE v<|j * k))(K:ev f y=some u)(q:s[i]?=some (rowA e U v l))(F:j<l.length)(r:u.cells.toList=e.enc a) :
  SO P N E ⟨dst,.store T x y,ty,pos,af,gd⟩ f g s fun _ g' s'=>g=g'∧s'=s.set i (rowA e U v<|l.set j a) :=
 SO.of_skip fun ac w G t=>by
  obtain ⟨H,L⟩:=gX t q;have z:=t.fresh _<|zg4 q
  rcases L with ⟨p,rfl,hn⟩ | ⟨b,cap,c,rfl,hb,h,A,M,O⟩
  ·omega
  ·simp only[nE,Nat.zero_add] at D;have d:u.cells.size=k:=by rw[← Array.length_toList,r,e.len]
   have Q:j * k+k≤l.length * k:=by rw[← Nat.succ_mul]; exact Nat.mul_le_mul_right k F
   have R:l.length * k≤(cap+1) * k:=Nat.mul_le_mul_right k h;have B:=run_storeCells_at P b (j * k) U u.cells.toList 0 c w hb (by simp[d]; omega) (by rw[r]; exact e.one a);refine⟨w.setRow b (c.toList.take (j * k+0)++u.cells.toList++c.toList.drop (j * k+0+u.cells.toList.length)).toArray,g,s.set i<|rowA e U (.slice (some ⟨b,0,none⟩) l.length<|cap+1)<|l.set j a,?_,?_,I,I⟩
   ·simp[execOp,G.ev D,G.ev K,Instr.storeAt,Instr.sureAddr,storeVar,J w,d];rw[B];simp[d]
   ·refine t.turn q I ⟨I,(by exact Nat.le_refl _)⟩ I (by simp) (fun k' _ C=>setRow_other w b k' _<|fun e1=>C<|by simp[rowA,row,nA,e1]) ?_ (fun b' m=>?_)
    ·have S:=setRow_heap w b c (c.toList.take (j * k+0)++u.cells.toList++c.toList.drop (j * k+0+u.cells.toList.length)).toArray U (0,0) hb;have o:=e.set (l:=l) (a:=a) F;have:=ei (T:=U) (k:=k) (n:=l.length) (xs:=(l.set j a).flatMap e.enc) (by rw[e.length]; simp) S h A (by simp[d]; omega) (by
      rw[← o,← O,r];have:=o7 c.toList (e.enc a) (j * k) (l.length * k) (by simp; omega) (by rw[e.len]; omega);simpa only[Nat.add_zero,e.len] using this)
     simpa [rowA] using this
    ·simp only[rowA,row,nA,zg9] at m;subst m;exact⟨by simpa using (z b I).2,.inl I⟩
end
theorem fS:type_of% @SC.freezeRow:=@SC.freezeRow
theorem fT:type_of% @ST.freezeRow:=@ST.freezeRow
theorem aZ:type_of% @SQ.partA:=@SQ.partA
theorem eB:type_of% @SQ.elem1:=@SQ.elem1
end Go.Sy
namespace Go.Pl
section
variable {α:Type}(key:α→Int)
def aI (l l':List α):Prop:=l'.length=l.length∧∀ c,l'.filter (fun a=>key a == c)=l.filter (fun a=>key a == c)
def Srt (l:List α):Prop:=l.Pairwise fun a b=>key a≤key b
end
section
variable {α:Type}{key:α→Int}
theorem aI.refl (l:List α):aI key l l:=⟨rfl,fun _=>rfl⟩
theorem aI.trans {a b c:List α}(h:aI key a b)(k:aI key b c):aI key a c:=⟨k.1.trans h.1,fun x=>(k.2 x).trans<|h.2 x⟩
theorem aI.symm {a b:List α}(h:aI key a b):aI key b a:=⟨h.1.symm,fun x=>(h.2 x).symm⟩
theorem aI.append {a a' b b':List α}(h:aI key a a')(k:aI key b b'):aI key (a++b) (a'++b'):=⟨by simp[h.1,k.1],fun c=>by simp[h.2 c,k.2 c]⟩
theorem aI.mem {l l':List α}(h:aI key l l'){x:α}(b:x∈l'):x∈l:=by
 have:x∈l'.filter (fun a=>key a == key x):=by simp[b]
 rw[h.2] at this;exact (List.mem_filter.1 this).1
theorem aI.mem_iff {l l':List α}(h:aI key l l')(x:α):x∈l'↔x∈l:=⟨h.mem,h.symm.mem⟩
theorem lj {l:List α}{c:Int}(h:∀ x∈l,key x≠c):l.filter (fun a=>key a == c)=[]:=by
 rw[List.filter_eq_nil_iff];intro x b;simpa using h x b
theorem aI.swap {a b:List α}(h:∀ x∈a,∀ y∈b,key x≠key y):aI key (a++b) (b++a):=by
 refine⟨by simp[Nat.add_comm],fun c=>?_⟩;simp only[List.filter_append];by_cases f:∃ x∈a,key x=c
 ·obtain ⟨x,d,rfl⟩:=f;rw[lj (l:=b) (fun y g=>fun e=>h x d y g e.symm)];simp
 ·rw[lj (l:=a) (fun x d=>fun e=>f ⟨x,d,e⟩)];simp
theorem Srt.append_iff {a b:List α}:Srt key (a++b)↔Srt key a∧Srt key b∧∀ x∈a,∀ y∈b,key x≤key y:=List.pairwise_append
theorem Srt.nil:Srt key []:=List.Pairwise.nil
theorem Srt.one (a:α):Srt key [a]:=List.pairwise_singleton _ _
theorem Srt.cons_iff {a:α}{l:List α}:Srt key (a::l)↔(∀ x∈l,key a≤key x)∧Srt key l:=List.pairwise_cons
theorem Srt.unique:∀ {l m:List α},Srt key l→Srt key m→aI key l m→l=m
 | [],m,_,_,h=>by
  have:=h.1;simp only[List.length_nil] at this;exact (List.eq_nil_of_length_eq_zero this).symm
 | a::l,[],_,_,h=>by have:=h.1; simp at this
 | a::l,b::m,hl,hm,h=>by
  have d:key a=key b:=by
   have f:b∈a::l:=h.mem<|List.mem_cons_self ..;have g:a∈b::m:=h.symm.mem<|List.mem_cons_self ..;have j:key a≤key b:=by
    rcases List.mem_cons.1 f with e | e
    ·rw[e]; exact Int.le_refl _
    ·exact (Srt.cons_iff.1 hl).1 b e
   have k:key b≤key a:=by
    rcases List.mem_cons.1 g with e | e
    ·rw[e]; exact Int.le_refl _
    ·exact (Srt.cons_iff.1 hm).1 a e
   omega
  have i:a=b:=by
   have:=h.2<|key a;simp only[List.filter_cons,beq_self_eq_true,if_true,← d] at this;injection this with e1
   exact e1.symm
  subst i;have:aI key l m:=by
   refine⟨by have:=h.1; simpa using this,fun c=>?_⟩;have:=h.2 c;simp only[List.filter_cons] at this;split at this
   ·injection this
   ·exact this
  rw[Srt.unique (Srt.cons_iff.1 hl).2 (Srt.cons_iff.1 hm).2 this]
def ins (key:α→Int)(x:α):List α→List α
 | []=>[x]
 | y::r=>if key x≤key y then x::y::r else y::ins key x r
def sortBy (key:α→Int):List α→List α
 | []=>[]
 | x::r=>ins key x<|sortBy key r
theorem sO (x:α):∀ l:List α,aI key (x::l) (ins key x l)
 | []=>aI.refl _
 | y::r=>by
  unfold ins;split
  ·exact aI.refl _
  ·rename_i h;have c:aI key (x::y::r) (y::x::r):=by
    have:=aI.append (aI.swap (key:=key) (a:=[x]) (b:=[y]) (by simp; omega))<|aI.refl (key:=key) r;simpa using this
   have d:=aI.append (aI.refl (key:=key) [y])<|sO x r;exact c.trans (by simpa using d)
theorem Be (x:α):∀ l:List α,Srt key l→Srt key (ins key x l)
 | [],_=>Srt.one x
 | y::r,h=>by
  unfold ins;split
  ·rename_i a;exact Srt.cons_iff.2 ⟨fun z hz=>by
    rcases List.mem_cons.1 hz with e | e
    ·rw[e]; exact a
    ·exact Int.le_trans a ((Srt.cons_iff.1 h).1 z e),h⟩
  ·rename_i b;obtain ⟨c,d⟩:=Srt.cons_iff.1 h;refine Srt.cons_iff.2 ⟨fun z hz=>?_,Be x r d⟩
   rcases List.mem_cons.1 ((sO x r).mem hz) with e | e
   ·rw[e]; omega
   ·exact c z e
theorem co:∀ l:List α,aI key l (sortBy key l)
 | []=>aI.refl _
 | x::r=>(by simpa using aI.append (aI.refl (key:=key) [x]) (co r):aI key (x::r) (x::sortBy key r)).trans<|sO x _
theorem di:∀ l:List α,Srt key (sortBy key l)
 | []=>Srt.nil
 | x::r=>Be x _<|di r
theorem ez (l:List α):(sortBy key l).length=l.length:=(co l).1
theorem fD (l:List α)(x:α):x∈sortBy key l↔x∈l:=(co l).mem_iff x
theorem bI {l m:List α}(a:Srt key m)(h:aI key l m):m=sortBy key l:=(di l).unique a ((co l).symm.trans h) |>.symm
theorem aI.map {β:Type}{f:β→α}{l m:List β}(h:aI (key ∘ f) l m):aI key (l.map f) (m.map f):=by
 refine⟨by simp[h.1],fun c=>?_⟩;have:=h.2 c;rw[List.filter_map,List.filter_map];exact congrArg (List.map f) this
theorem Srt.map {β:Type}{f:β→α}{l:List β}(h:Srt (key ∘ f) l):Srt key (l.map f):=by
 unfold Srt;rw[List.pairwise_map];exact h
theorem mU {β:Type}{f:β→α}(l:List β):sortBy key (l.map f)=(sortBy (key ∘ f) l).map f :=
 (bI (di (key:=key ∘ f) l).map (co (key:=key ∘ f) l).map).symm
end
section
variable {α:Type}(key:α→Int)
inductive FC (B:Nat):List α→Prop
 | nil:FC B []
 | cons {c d:List α}:c.length=B→Srt key c→FC B d→FC B (c++d)
end
section
variable {α:Type}{key:α→Int}{B:Nat}
theorem FC.snoc {d c:List α}(h:FC key B d)(a:c.length=B)(b:Srt key c):FC key B (d++c):=by
 induction h with
 | nil=>simpa using FC.cons a b FC.nil
 | cons e f _ ih=>rw[List.append_assoc]; exact FC.cons e f ih
theorem FC.front {d:List α}(h:FC key B d)(hd:0<d.length):∃ c r,d=c++r∧c.length=B∧Srt key c∧FC key B r:=by
 cases h with
 | nil=>simp at hd
 | cons a b e=>exact⟨_,_,rfl,a,b,e⟩
end
def ie (x y:Int):Int:=if x<y then -1 else if y<x then 1 else 0
theorem ff {x y:Int}:ie x y<0↔x<y:=by unfold ie; split <;> (try split)<;>simp_all <;> omega
end Go.Pl
namespace Go.Proofs.YtbbppeihhkhkcaaGreatDoor
open Go Go.Sy Go.Pl Go.Proofs
set_option maxRecDepth 100000
theorem Tryz.mixed:Tryz.prog.follows .mixedOrders=true:=by kernel_rfl
theorem Tryz.sty52:STy Tryz.prog 52 3 1 8 (vi 0):=⟨Tryz.underlying52,⟨Tryz.t3,by kernel_rfl,by kernel_rfl,by kernel_rfl,by kernel_rfl⟩,rfl,by decide⟩
theorem Tryz.sty22:STy Tryz.prog 22 52 1 24 (.slice none 0 0):=⟨Tryz.underlying22,⟨Tryz.t52,by kernel_rfl,by kernel_rfl,by kernel_rfl,by kernel_rfl⟩,rfl,by decide⟩
theorem Tryz.sty39:STy Tryz.prog 39 75 2 16 (.agg #[vi 0,vi 0]):=⟨Tryz.underlying39,⟨Tryz.t75,by kernel_rfl,by kernel_rfl,by kernel_rfl,by kernel_rfl⟩,rfl,by decide⟩
theorem Tryz.sty27:STy Tryz.prog 27 56 3 40 (.agg #[vi 0,vi 0,.slice none 0 0]):=⟨Tryz.underlying27,⟨Tryz.t56,by kernel_rfl,by kernel_rfl,by kernel_rfl,by kernel_rfl⟩,rfl,by decide⟩
theorem bD {a b:Int}(h:a=b):some (vi a)=some (vi b):=by rw[h]
def encInt:Enc Int 1:=⟨fun n=>[vi n],fun _=>rfl,fun _ u hu=>by simp at hu; subst hu; rfl,by decide⟩
structure ak where
 cell:Int
 sign:Int
 deriving DecidableEq
def encSide:Enc ak 2:=⟨fun p=>[vi p.cell,vi p.sign],fun _=>rfl,fun _ u hu=>by simp at hu; rcases hu with rfl | rfl <;> rfl,by decide⟩
structure Sv where
 p:Option Addr
 n:Nat
 c:Nat
def dL:Enc Sv 1:=⟨fun x=>[.slice x.p x.n x.c],fun _=>rfl,fun _ u hu=>by simp at hu; subst hu; rfl,by decide⟩
structure Rc where
 id:Int
 dim:Int
 sv:Sv
def encCell:Enc Rc 3:=⟨fun r=>[vi r.id,vi r.dim,.slice r.sv.p r.sv.n r.sv.c],fun _=>rfl,fun _ u hu=>by simp at hu; rcases hu with rfl | rfl | rfl <;> rfl,by decide⟩
abbrev dp (g:PH)(v:Value)(l:List Int):Prop:=SlA encInt g v l
def nr {α:Type}{k:Nat}(E:World)(cv:Value)(e:Enc α k)(key:α→Int)(g:PH):Prop :=
 ∀ g' s a b,Le g g'→cz Tryz.prog E cv [.agg (e.enc a).toArray,.agg (e.enc b).toArray] g' s (fun r g'' s''=>r=vi (ie (key a)<|key b)∧g'=g''∧s=s'')
theorem bM {α:Type}{u w:List α}{a:α}{j:Nat}(h:j=u.length):(u++a::w)[j]?=some a:=by subst h; simp
theorem dN {α:Type}{u w:List α}{a b:α}{j:Nat}(h:j=u.length):(u++a::w).set j b=u++b::w:=by subst h; simp
theorem lz (x:Int)(c:0≤x)(h:x<9223372036854775808):IntKind.i64.wrap ((IntKind.u64.wrap x).fdiv<|2 ^ min (1:Int).toNat IntKind.u64.bits)=x / 2:=by
 have a:IntKind.u64.wrap x=x:=IntWalk.u64_in _ oM;rw[a];have b:((2:Int) ^ min (1:Int).toNat IntKind.u64.bits)=2:=by decide
 rw[b,Int.fdiv_eq_ediv_of_nonneg _ dC];rw[zl2 _ oM]
theorem SU.eq {P:Program}{N:Nat}{o:Oper}{f:Fr}{v v':Value}(h:SU P N o f v)(e:v=v'):SU P N o f v':=e ▸ h
theorem SQ.eq {P:Program}{N:Nat}{E:World}{o:Oper}{f:Fr}{g:PH}{s:Own}{v v':Value}(h:SQ P N E o f g s v)(e:v=v'):SQ P N E o f g s v':=e ▸ h
open _root_.Go.Proofs.Tryz _root_.Go.Proofs.YtbbppeihhkhkcaaGreatDoor.Tryz
theorem rj (E:World)(g:PH)(s:Own)(a:Int):Ctr Tryz.prog E 159 #[vi a] g s (fun r g' s'=>r=vb false∧g=g'∧s=s'):=by
 exact zb2 (args:=[vi a]) func159 I ntmps159 (bE I)<|rZ<|aT I<|sW I<|lM I<|lU (nQ I I)<|aT I<|rE<|za8 (.inl I) results159 I ⟨by simp,I,I⟩
theorem dH (E:World)(g:PH)(s:Own)(a b:Int):Ctr Tryz.prog E 90 #[vi a,vi b] g s (fun r g' s'=>r=vi (ie a b)∧g=g'∧s=s'):=by
 refine zb2 (args:=[vi a,vi b]) func90 I ntmps90 (bE I)<|rZ<|aT I<|sW I<|lW (SO.call call159 I<|rj E g s a) ?_;rintro _ _ _ ⟨rfl,rfl,rfl⟩;refine aT I<|sW I<|lW (SO.call call159 I<|rj E g s b) ?_;rintro _ _ _ ⟨rfl,rfl,rfl⟩;refine aT I<|sQ<|sW I<|tZ<|za1 I<|kP<|tN<|sQ<|sW I<|tZ<|za1 I<|kP<|tN<|sQ<|sW I<|lM I<|yL I<|tZ<|iP I (fun c=>?_) (fun c=>?_)
 ·exact rZ<|aT I<|rE<|tR<|za8 (.inl I) results90 I ⟨by unfold ie; rw[zg3 c],I,I⟩
 ·refine kP<|tN<|sQ<|sW I<|lM I<|lU (gR I I)<|tZ<|iP I (fun d=>?_) (fun d=>?_)
  ·exact rZ<|aT I<|rE<|tR<|za8 (.inl I) results90 I ⟨by unfold ie; rw[zg2 c,zg3 d],I,I⟩
  ·exact kP<|tN<|rZ<|aT I<|rE<|za8 (.inl I) results90 I ⟨by unfold ie; rw[zg2 c,zg2 d],I,I⟩
theorem lQ:type_of% @Tryz.call32:=@Tryz.call32
theorem jB:type_of% @Tryz.isAgg125:=@Tryz.isAgg125
theorem bl:type_of% @Tryz.isAgg126:=@Tryz.isAgg126
theorem eh:type_of% @Tryz.isAgg27:=@Tryz.isAgg27
theorem aj:type_of% @Tryz.isAgg29:=@Tryz.isAgg29
theorem iT3:type_of% @Tryz.isAgg3:=@Tryz.isAgg3
theorem gw:type_of% @Tryz.isAgg35:=@Tryz.isAgg35
theorem br:type_of% @Tryz.isAgg39:=@Tryz.isAgg39
theorem nB:type_of% @Tryz.isAgg40:=@Tryz.isAgg40
theorem j3:type_of% @Tryz.isAgg42:=@Tryz.isAgg42
theorem hZ:type_of% @Tryz.isAgg52:=@Tryz.isAgg52
theorem dT:type_of% @Tryz.isAgg56:=@Tryz.isAgg56
theorem jn:type_of% @Tryz.isAgg75:=@Tryz.isAgg75
theorem jx:type_of% @Tryz.sizeOf125:=@Tryz.sizeOf125
theorem cq:type_of% @Tryz.sizeOf27:=@Tryz.sizeOf27
theorem ae:type_of% @Tryz.sizeOf29:=@Tryz.sizeOf29
theorem zT3:type_of% @Tryz.sizeOf3:=@Tryz.sizeOf3
theorem th:type_of% @Tryz.sizeOf31:=@Tryz.sizeOf31
theorem p8:type_of% @Tryz.sizeOf33:=@Tryz.sizeOf33
theorem bQ:type_of% @Tryz.sizeOf35:=@Tryz.sizeOf35
theorem aM:type_of% @Tryz.sizeOf39:=@Tryz.sizeOf39
theorem zT4:type_of% @Tryz.sizeOf4:=@Tryz.sizeOf4
theorem kH:type_of% @Tryz.sizeOf40:=@Tryz.sizeOf40
theorem eu:type_of% @Tryz.sizeOf42:=@Tryz.sizeOf42
theorem fY:type_of% @Tryz.sizeOf52:=@Tryz.sizeOf52
theorem aw:type_of% @Tryz.sizeOf56:=@Tryz.sizeOf56
theorem aY:type_of% @Tryz.sizeOf75:=@Tryz.sizeOf75
theorem p4:type_of% @Tryz.sizeOf76:=@Tryz.sizeOf76
theorem vM:type_of% @Tryz.sizeOf80:=@Tryz.sizeOf80
theorem uT0:type_of% @Tryz.underlying0:=@Tryz.underlying0
theorem kI:type_of% @Tryz.underlying135:=@Tryz.underlying135
theorem nj:type_of% @Tryz.underlying145:=@Tryz.underlying145
theorem kY:type_of% @Tryz.underlying156:=@Tryz.underlying156
theorem jN:type_of% @Tryz.underlying203:=@Tryz.underlying203
theorem eL:type_of% @Tryz.underlying22:=@Tryz.underlying22
theorem tf:type_of% @Tryz.underlying222:=@Tryz.underlying222
theorem mL:type_of% @Tryz.underlying24:=@Tryz.underlying24
theorem aB:type_of% @Tryz.underlying27:=@Tryz.underlying27
theorem dn:type_of% @Tryz.underlying29:=@Tryz.underlying29
theorem uT3:type_of% @Tryz.underlying3:=@Tryz.underlying3
theorem y7:type_of% @Tryz.underlying33:=@Tryz.underlying33
theorem be:type_of% @Tryz.underlying39:=@Tryz.underlying39
theorem uT4:type_of% @Tryz.underlying4:=@Tryz.underlying4
theorem mJ:type_of% @Tryz.underlying40:=@Tryz.underlying40
theorem a6:type_of% @Tryz.underlying42:=@Tryz.underlying42
theorem ir:type_of% @Tryz.underlying44:=@Tryz.underlying44
theorem uT5:type_of% @Tryz.underlying5:=@Tryz.underlying5
theorem az:type_of% @Tryz.underlying52:=@Tryz.underlying52
theorem ao:type_of% @Tryz.underlying56:=@Tryz.underlying56
theorem tQ:type_of% @Tryz.underlying62:=@Tryz.underlying62
theorem c4:type_of% @Tryz.underlying75:=@Tryz.underlying75
theorem qw:type_of% @Tryz.underlying76:=@Tryz.underlying76
theorem uT9:type_of% @Tryz.underlying9:=@Tryz.underlying9
end Go.Proofs.YtbbppeihhkhkcaaGreatDoor
namespace Go.Sy
open Go
section
variable {P:Program}{N:Nat}{E:World}{f:Fr}{g:PH}{s:Own}{dst:Option Tmp}{ty:TypeId}{pos:String}{af:Array Edge}{gd:Option (Nat×Bool)}
theorem SQ.loadVarK {x:Operand}{T U:TypeId}{b k:Nat}{cs:Array Value}{fr:Nat×Nat}(i:Nat)(a:∀ w,(isAgg T).run P w = .ok true w)(c:∀ w,(sizeOf T).run P w = .ok k w)(d:ev f x=some (pp b 0))
  (e:s[i]?=some (pt b<|.cells cs U fr)) (h:cs.size=k):SQ P N E ⟨dst,.load T x,ty,pos,af,gd⟩ f g s (.agg cs):=SQ.loadVar i a (by rw[h]; exact c) d e
theorem SO.storeAllK {T U:TypeId}{x y:Operand}{b k:Nat}{cs:Array Value}{v:Value}(i:Nat)(c:∀ w,(sizeOf T).run P w = .ok k w)(d:ev f x=some (pp b 0))(e:ev f y=some v)(h:s[i]?=some (pt b<|.cells cs U (0,0)))
  (a:cs.size=k) (j:v.cells.size=k) (l:EH v.cells.toList) :
  SO P N E ⟨dst,.store T x y,ty,pos,af,gd⟩ f g s fun _ g' s'=>g=g'∧s'=s.set i (pt b<|.cells v.cells U (0,0)) :=
 SO.storeAll i (by rw[a]; exact c) d e h (by rw[j,a]) (mD l)
theorem SO.appendE {x y:Operand}{t e:TypeId}{k bytes n m:Nat}{z v u:Value}{xs ys:List Value}(i n':Nat)(xs':List Value)(c:STy P t e k bytes z)(d:ev f x=some v)(h:s[i]?=some (row e k v n xs))(j:ev f y=some u)
  (l:isSl u=true) (hm:slen u=m) (hr:Rd g s u ys) (hl:ys.length=m * k) (o:∀ q∈ys,q.oneCell'=true) (hn:n+m=n') (b:xs++ys=xs') (hb:n' * bytes≤140737488355328) (a:n'≤4611686018427387904) :
  SO P N E ⟨dst,.call ⟨.builtin .append,#[x,y],#[t,t]⟩,ty,pos,af,gd⟩ f g s fun v' g' s'=>g=g'∧s'=s.set i (row e k v' n' xs'):=by
 subst hn;subst b;exact SO.append i c d h j l hm hr hl o hb a
end
section
variable {P:Program}{N:Nat}{E:World}{fn:Func}{R:Value→PH→Own→Prop}{e:Exit}{f:Fr}{g:PH}{s:Own}
theorem ST.retCD {T U:TypeId}{t b k:Nat}{cs:Array Value}{fr:Nat×Nat}(i:Nat)(s':Own)(n:e = .ret∨e = .normal)(hr:fn.results = #[.cell t T])(o:aN f t=some (pp b 0))(p:∀ w,(isAgg T).run P w = .ok true w)(q:∀ w,(sizeOf T).run P w = .ok k w)
  (r:s[i]?=some (pt b<|.cells cs U fr)) (u:cs.size=k) (c:s'.Sublist s) (v:R (.agg cs) g s'):ST N E (bodyPost P fn<|nh E R) e f g s :=
 fun a w d h=>by
  have x:=cd (P:=P) h p (by rw[u]; exact q) r;have j:=d.at_ t _ o;simp only[Array.getD_eq_getD_getElem?] at j;have l:(results fn a.tmps).run P w = .ok (.agg cs) w:=by simp[results,hr,asAddr,pp,j,x]
  have m:nh E R (.returned<|.agg cs) w:=⟨.agg cs,g,s',rfl,h.sublist c,v⟩
  rcases n with rfl | rfl
  ·exact⟨d.defers,_,l,m⟩
  ·exact⟨d.defers,_,l,m⟩
theorem ST.retCD1 {T U:TypeId}{t u b k:Nat}{cs:Array Value}{fr:Nat×Nat}{x:Value}(i:Nat)(s':Own)(o:e = .ret∨e = .normal)(hr:fn.results = #[.cell t T,.tmp u])(p:aN f t=some (pp b 0))(q:aN f u=some x)
  (r:∀ w,(isAgg T).run P w = .ok true w) (v:∀ w,(sizeOf T).run P w = .ok k w)
  (y:s[i]?=some (pt b<|.cells cs U fr)) (z:cs.size=k) (d:s'.Sublist s) (A:R (.tuple #[.agg cs,x]) g s'):ST N E (bodyPost P fn<|nh E R) e f g s :=
 fun a w c h=>by
  have B:=cd (P:=P) h r (by rw[z]; exact v) y;have j:=c.at_ t _ p;have l:=c.at_ u _ q;simp only[Array.getD_eq_getD_getElem?] at j l;have m:(results fn a.tmps).run P w = .ok (.tuple #[.agg cs,x]) w:=by simp[results,hr,asAddr,pp,j,B,l]
  have n:nh E R (.returned<|.tuple #[.agg cs,x]) w:=⟨_,g,s',rfl,h.sublist d,A⟩
  rcases o with rfl | rfl
  ·exact⟨c.defers,_,m,n⟩
  ·exact⟨c.defers,_,m,n⟩
end
theorem qV:type_of% @SQ.loadVarK:=@SQ.loadVarK
theorem sK:type_of% @SO.storeAllK:=@SO.storeAllK
end Go.Sy
namespace Go.Sy
open Go
theorem Enc.setPart {α:Type}{k:Nat}(e:Enc α k):∀ {l:List α} {j o:Nat} {a a':α} {u:Value},l[j]?=some a→o<k→e.enc a'=(e.enc a).set o u→(l.flatMap e.enc).set (j * k+o) u=(l.set j a').flatMap e.enc
 | [],_,_,_,_,_,h,_,_=>by simp at h
 | x::r,0,o,a,a',u,h,b,c=>by
  simp only[List.getElem?_cons_zero,zg9] at h;subst h;simp only[zh7,List.set_cons_zero,Nat.zero_mul,Nat.zero_add,c];rw[List.set_append_left _ _ (by rw[e.len]; exact b)]
 | x::r,j+1,o,a,a',u,h,b,c=>by
  simp only[List.getElem?_cons_succ] at h;simp only[zh7,List.set_cons_succ];rw[List.set_append_right _ _ (by rw[e.len,Nat.succ_mul]; omega),e.len,show (j+1) * k+o - k=j * k+o by rw[Nat.succ_mul]; omega,Enc.setPart e h b c]
section
variable {α:Type}{k:Nat}{e:Enc α k}{P:Program}{N:Nat}{E:World}{f:Fr}{g:PH}{s:Own}{dst:Option Tmp}{ty:TypeId}{pos:String}{af:Array Edge}{gd:Option (Nat×Bool)}
theorem SO.partA {x y:Operand}{T U:TypeId}{v u:Value}{l:List α}{a:α}{j o:Nat}(i:Nat)(a':α)(K:∀ w,(sizeOf T).run P w = .ok 1 w)(F:ev f x=some (nE v<|j * k+o))(L:ev f y=some u)(r:s[i]?=some (rowA e U v l))(G:l[j]?=some a)
  (M:u.cells = #[u]) (t:u.oneCell'=true) (O:o<k) (Q:e.enc a'=(e.enc a).set o u) :
  SO P N E ⟨dst,.store T x y,ty,pos,af,gd⟩ f g s fun _ g' s'=>g=g'∧s'=s.set i (rowA e U v<|l.set j a') :=
 SO.of_skip fun ac w d z=>by
  obtain ⟨H,R⟩:=gX z r;have A:=z.fresh _<|zg4 r;have S:=(zf7.1 G).1
  rcases R with ⟨p,rfl,hn⟩ | ⟨b,cap,c,rfl,hb,h,B,V,W⟩
  ·omega
  ·simp only[nE,Nat.zero_add] at F;have X:j * k+k≤l.length * k:=by rw[← Nat.succ_mul]; exact Nat.mul_le_mul_right k S
   have Y:l.length * k≤(cap+1) * k:=Nat.mul_le_mul_right k h;have C:=run_storeCells_at P b (j * k+o) U [u] 0 c w hb (by simp; omega) (by simpa using t);refine⟨w.setRow b (c.toList.take (j * k+o+0)++[u]++c.toList.drop (j * k+o+0+[u].length)).toArray,g,s.set i<|rowA e U (.slice (some ⟨b,0,none⟩) l.length<|cap+1)<|l.set j a',?_,?_,I,I⟩
   ·simp[execOp,d.ev F,d.ev L,Instr.storeAt,Instr.sureAddr,storeVar,K w,M];rw[C];simp
   ·refine z.turn r I ⟨I,(by exact Nat.le_refl _)⟩ I (by simp) (fun k' _ D=>setRow_other w b k' _<|fun e1=>D<|by simp[rowA,row,nA,e1]) ?_ (fun b' m=>?_)
    ·have Z:=setRow_heap w b c (c.toList.take (j * k+o+0)++[u]++c.toList.drop (j * k+o+0+[u].length)).toArray U (0,0) hb;have q:=e.setPart (u:=u) G O Q;have:=ei (T:=U) (k:=k) (n:=l.length) (xs:=(l.set j a').flatMap e.enc) (by rw[e.length]; simp) Z h B (by simp; omega) (by
      rw[← q,← W];have J:=o7 c.toList [u] (j * k+o) (l.length * k) (by simp; omega) (by simp; omega);simp only[Nat.add_zero,ze9] at J ⊢;rw[J,List.set_eq_take_append_cons_drop,zg3 (by simp; omega)];simp)
     simpa [rowA] using this
    ·simp only[rowA,row,nA,zg9] at m;subst m;exact⟨by simpa using (A b I).2,.inl I⟩
def evps (f:Fr):List (Nat×Operand)→Option (List<|Nat×Value)
 | []=>some []
 | (i,x)::r=>match ev f x with
  | some v=>match evps f r with
   | some vs=>some<|(i,v)::vs
   | none=>none
  | none=>none
theorem Ok.evps {a:Act}(h:Ok N f a):∀ {l:List (Nat×Operand)} {vs:List (Nat×Value)},Sy.evps f l=some vs→l.map (fun p=>(p.1,a.eval p.2))=vs
 | [],vs,b=>by simp only[Sy.evps,zg9] at b; subst b; rfl
 | (i,x)::r,vs,b=>by
  simp only[Sy.evps] at b;split at b
  ·rename_i v c;split at b
   ·rename_i vs' hr;simp only[zg9] at b;subst b;simp[h.ev c,Ok.evps h hr]
   ·cases b
  ·cases b
theorem SU.build {T:TypeId}{ps:List (Nat×Operand)}{vs:List (Nat×Value)}{v:Value}(b:evps f ps=some vs)(hr:∀ w,(Instr.build T vs.toArray).run P w = .ok v w):SU P N ⟨dst,.build T ps.toArray,ty,pos,af,gd⟩ f v:=fun a w c=>by
 simp only[execOp,List.map_toArray,c.evps b,Sem.run_bind,hr w,zd2];rfl
end
def ax {α β:Type}(R:α→β→Prop):List α→List β→Prop
 | [],[]=>True
 | a::l,b::m=>R a b∧ax R l m
 | _,_=>False
section
variable {α β:Type}{R R':α→β→Prop}
theorem ax.length:∀ {l:List α} {m:List β},ax R l m→l.length=m.length
 | [],[],_=>rfl
 | _::_,_::_,h=>by simp[ax.length h.2]
 | [],_::_,h=>h.elim
 | _::_,[],h=>h.elim
theorem ax.mono (hr:∀ a b,R a b→R' a b):∀ {l:List α} {m:List β},ax R l m→ax R' l m
 | [],[],_=>trivial
 | _::_,_::_,h=>⟨hr _ _ h.1,ax.mono hr h.2⟩
 | [],_::_,h=>h.elim
 | _::_,[],h=>h.elim
theorem ax.get:∀ {l:List α} {m:List β} {i:Nat} {a:α} {b:β},ax R l m→l[i]?=some a→m[i]?=some b→R a b
 | x::l,y::m,0,a,b,h,c,hb=>by simp at c hb; subst c; subst hb; exact h.1
 | x::l,y::m,i+1,a,b,h,c,hb=>ax.get (i:=i) h.2 (by simpa using c) (by simpa using hb)
 | [],[],_,_,_,_,c,_=>by simp at c
 | [],_::_,_,_,_,h,_,_=>h.elim
 | _::_,[],_,_,_,h,_,_=>h.elim
theorem ax.append:∀ {l l':List α} {m m':List β},ax R l m→ax R l' m'→ax R (l++l') (m++m')
 | [],_,[],_,_,a=>a
 | _::_,_,_::_,_,h,a=>⟨h.1,ax.append h.2 a⟩
 | [],_,_::_,_,h,_=>h.elim
 | _::_,_,[],_,h,_=>h.elim
theorem ax.cons_right {l:List α}{b:β}{m:List β}(h:ax R l (b::m)):∃ a l',l=a::l'∧R a b∧ax R l' m:=by
 cases l with
 | nil=>exact h.elim
 | cons a l'=>exact⟨a,l',rfl,h.1,h.2⟩
theorem ax.nil_right {l:List α}(h:ax R l []):l=[]:=by
 cases l with
 | nil=>rfl
 | cons a l'=>exact h.elim
end
end Go.Sy
namespace Go.Sy
open Go Go.MapKept
structure MTy (P:Program)(t kt et:TypeId)(z:Value):Prop where
 und:P.underlying t=some (.map kt et)
 key:P.underlying kt=some (.int .i64)
 zero:∀ w,(zeroValue et).run P w = .ok z w
def li (p:Int×Value):Value×Value:=(vi p.1,p.2)
def nD (e:MapEntry):Value×Value:=(e.key,e.val)
def vO (l:List (Int×Value))(es:Array MapEntry)(clk:Nat):Prop:=es.toList.map nD=l.map li∧Stamped es clk
def mp (b:Nat)(l:List (Int×Value)):Ent:=⟨some b,fun oo=>∃ es clk,oo=some (.map es clk)∧vO l es clk⟩
def Mp (g:PH)(b:Nat)(l:List (Int×Value)):Prop:=∃ es clk,g b=some (.map es clk)∧vO l es clk
theorem Mp.mono {g g':PH}{b:Nat}{l:List (Int×Value)}(h:Mp g b l)(hl:Le g g'):Mp g' b l:=by
 obtain ⟨es,clk,a,c⟩:=h;exact⟨es,clk,hl _ _ a,c⟩
def fnd (k:Int):List (Int×Value)→Nat→Option (Nat×Value)
 | [],_=>none
 | (a,v)::r,i=>if k=a then some (i,v) else fnd k r (i+1)
def ex (l:List (Int×Value))(k:Int):Option Value:=(fnd k l 0).map (·.2)
def gr (l:List (Int×Value))(k:Int)(v:Value):List (Int×Value) :=
 match l with
 | []=>[(k,v)]
 | (a,u)::r=>if k=a then (k,v)::r else (a,u)::gr r k v
theorem me (k:Int):∀ (l:List (Int×Value)) (i:Nat),(fnd k l i).map (·.2)=ex l k
 | [],_=>rfl
 | (a,v)::r,i=>by
  unfold ex;simp only[fnd];split
  ·rfl
  ·rw[me k r<|i+1,me k r<|0+1]
theorem cZ (a:Int)(v:Value)(r:List (Int×Value))(k:Int):ex ((a,v)::r) k=if k=a then some v else ex r k:=by
 unfold ex;simp only[fnd];split
 ·rfl
 ·exact me k r 1
theorem kF (k:Int):∀ (es:List MapEntry) (l:List (Int×Value)) (i:Nat),es.map nD=l.map li→Instr.findNow (.int .i64) (vi k) es i=some (fnd k l i)
 | [],[],_,_=>rfl
 | [],_::_,_,h=>by simp at h
 | _::_,[],_,h=>by simp at h
 | e::es,(a,v)::l,i,h=>by
  simp only[zg6,List.cons.injEq,nD,li,Prod.mk.injEq] at h;obtain ⟨⟨c,d⟩,f⟩:=h;simp only[Instr.findNow,c,Instr.sameNow,if_true,fnd];by_cases b:k=a
  ·simp[b,d]
  ·have:(k == a)=false:=by simpa using b
   rw[this];simp only[b,if_false];exact kF k es l (i+1) f
section
variable {P:Program}{w:World}{t kt et:TypeId}{z:Value}{b:Nat}{es:Array MapEntry}{clk:Nat}{l:List (Int×Value)}
theorem kQ (a:MTy P t kt et z)(hb:w.heap[b]?=some (.map es clk))(hm:vO l es clk)(k:Int)(ok:Bool) :
  (Instr.lookup t (.map<|some b) (vi k) ok).run P w = .ok (if ok then .tuple #[(ex l k).getD z,.bool (ex l k).isSome] else (ex l k).getD z) w:=by
 have c:=kF k es.toList l 0 hm.1;have d:=MapKept.run_findKey (w:=w) a.key c;have e:=MapKept.run_checkKey (P:=P) (w:=w) a.key (k:=vi k) rfl es.isEmpty 9999;unfold Instr.lookup;simp only[Sem.run_bind,run_underlying a.und,zd2,MapKept.run_getObj_map hb,Sem.run_pure,e,d];unfold ex;cases f:fnd k l 0 with
 | none=>simp[a.zero w]
 | some q=>obtain ⟨i,v⟩:=q; simp
theorem yr (k:Int):∀ (l:List (Int×Value)) (i:Nat),(fnd k l i=none∧∀ p∈l,p.1≠k)∨∃ j v,fnd k l i=some (i+j,v)∧l[j]?=some (k,v)∧∀ u,gr l k u=l.set j (k,u)
 | [],_=>.inl ⟨rfl,by simp⟩
 | (a,v)::r,i=>by
  by_cases h:k=a
  ·subst h;exact .inr ⟨0,v,by simp[fnd],I,by simp[gr]⟩
  ·rcases yr k r (i+1) with ⟨b,c⟩ | ⟨j,v',b,c,d⟩
   ·refine .inl ⟨by simp[fnd,h,b],fun p f=>?_⟩
    rcases zf3.1 f with e | e
    ·rw[e]; exact fun e2=>h e2.symm
    ·exact c p e
   ·exact .inr ⟨j+1,v',by simp[fnd,h,b]; omega,by simpa using c,by simp[gr,h,d]⟩
theorem mc (k:Int)(v:Value):∀ (l:List (Int×Value)),(∀ p∈l,p.1≠k)→gr l k v=l++[(k,v)]
 | [],_=>rfl
 | (a,u)::r,h=>by
  have b:k≠a:=fun e=>h (a,u) (by simp) e.symm;simp only[gr,b,if_false,List.cons_append,mc k v r (fun p c=>h p<|by simp[c])]
theorem jc (y:MTy P t kt et z)(hb:w.heap[b]?=some (.map es clk))(hm:vO l es clk)(k:Int)(v:Value) :
  ∃ es' clk',(Instr.mapUpdate t (.map<|some b) (vi k) v).run P w = .ok () { w with heap:=w.heap.setIfInBounds b (.map es' clk') }∧vO (gr l k v) es' clk':=by
 have E:=kF k es.toList l 0 hm.1;have A:=MapKept.run_findKey (w:=w) y.key E;have B:=MapKept.run_checkKey (P:=P) (w:=w) y.key (k:=vi k) rfl false 9999;have m:es.toList.length=l.length:=by have:=ze4 List.length hm.1; simpa using this
 rcases yr k l 0 with ⟨hn,n⟩ | ⟨j,u,F,C,o⟩
 ·refine⟨es.push { key:=vi k,val:=v,born:=clk },clk+1,?_,?_,?_⟩
  ·rw[hn] at A;simp[Instr.mapUpdate,run_underlying y.und,MapKept.run_getObj_map hb,B,A,MapKept.run_setObj_map _ hb]
  ·rw[mc k v l n];simp[hm.1,nD,li]
  ·refine stamped_push hm.2 ?_;intro x G e;have:nD x∈l.map li:=by rw[← hm.1]; exact zf4.2 ⟨x,G,I⟩
   obtain ⟨p,H,g⟩:=zf4.1 this;simp only[li,nD,Prod.mk.injEq] at g;refine n p H ?_;rw[e] at g;simpa using g.1
 ·have a:j<es.toList.length:=by rw[m]; exact (zf7.1 C).1
  have f:(es.toList[j]).key=vi k:=by
   have r:=ze4 (·[j]?) hm.1;simp only[zi2,C,Option.map_some,List.getElem?_eq_getElem a,zg9,nD,li,Prod.mk.injEq] at r;exact r.1
  have s:es[j]?=some es.toList[j]:=by simp at a; simp[a]
  rw[F,Nat.zero_add] at A;refine⟨es.modify j fun e=>{ e with key:=vi k,val:=v },clk,?_,?_,?_⟩
  ·have J:=MapKept.run_keyThatStays (P:=P) (w:=w) (d:=.int .i64) (k:=vi k) rfl;have i:∀ h:j<es.size,es[j].key=vi k:=fun h=>by simpa using f
   simp[Instr.mapUpdate,run_underlying y.und,MapKept.run_getObj_map hb,B,A,s,i,J,MapKept.run_setObj_map _ hb]
  ·rw[o v];apply List.ext_getElem?;intro q;have r:=ze4 (·[q]?) hm.1;simp only[zi2] at r;rw[zi2,zi2,List.getElem?_set,Array.toList_modify,List.getElem?_modify];by_cases D:j=q
   ·subst D;have:j<l.length:=oM;simp[this,List.getElem?_eq_getElem a,nD,li]
   ·simp only[D,if_false];simpa using r
  ·exact stamped_modify hm.2 _ _ (fun _ _=>I) (fun e' _ c=>by
    rw[s] at c;injection c with c
    rw[← c,f])
end
section
variable {P:Program}{N:Nat}{E:World}{ops:Array Oper}{Q:Exit→Act→World→Prop}{f:Fr}{g:PH}{s:Own}{dst:Option Tmp}{ty:TypeId}{pos:String}{af:Array Edge}{gd:Option (Nat×Bool)}
variable {t kt et:TypeId}{z:Value}{b:Nat}{l:List (Int×Value)}{x y u:Operand}{k:Int}{v:Value}
def bh (g:PH)(s:Own)(b:Nat)(l:List (Int×Value)):Prop:=∀ E w,At E g s w→∃ es clk,w.heap[b]?=some (.map es clk)∧vO l es clk
theorem bh.own (i:Nat)(a:s[i]?=some (mp b l)):bh g s b l:=fun E w c=>by
 obtain ⟨es,clk,d,e⟩:=c.own _<|zg4 a;exact⟨es,clk,by simpa [mp] using d,e⟩
theorem bh.known (h:Mp g b l):bh g s b l:=fun E w a=>by
 obtain ⟨es,clk,c,d⟩:=h;exact⟨es,clk,a.known _ _ c,d⟩
theorem SQ.lookup (d:MTy P t kt et z)(e:ev f x=some (.map<|some b))(h:ev f y=some (vi k))(hm:bh g s b l):SQ P N E ⟨dst,.lookup t x y false,ty,pos,af,gd⟩ f g s ((ex l k).getD z):=fun a w c i=>by
 obtain ⟨es,clk,j,m⟩:=hm E w i;simp[execOp,c.ev e,c.ev h,kQ d j m]
theorem SQ.lookupOk (d:MTy P t kt et z)(e:ev f x=some (.map<|some b))(h:ev f y=some (vi k))(hm:bh g s b l):SQ P N E ⟨dst,.lookup t x y true,ty,pos,af,gd⟩ f g s (.tuple #[(ex l k).getD z,.bool (ex l k).isSome]):=fun a w c i=>by
 obtain ⟨es,clk,j,m⟩:=hm E w i;simp[execOp,c.ev e,c.ev h,kQ d j m]
theorem SQ.lenMap (d:P.underlying t=some (.map kt et))(e:ev f x=some (.map<|some b))(hm:bh g s b l):SQ P N E ⟨dst,.call ⟨.builtin .len,#[x],#[t]⟩,ty,pos,af,gd⟩ f g s (vi l.length):=fun a w h i=>by
 obtain ⟨es,clk,j,k⟩:=hm E w i;have c:es.toList.length=l.length:=by have:=ze4 List.length k.1; simpa using this
 simp at c;simp[execOp,resolve,invoke,builtin,h.ev e,Builtin.len_,run_underlying d,MapKept.run_getObj_map j,goInt,c]
theorem SO.mkMap {T:TypeId}:SO P N E ⟨dst,.makeMap T none,ty,pos,af,gd⟩ f g s fun u g' s'=>∃ b,u = .map (some b)∧g=g'∧s'=mp b []::s :=
 SO.of_run fun a w _ c=>⟨.map<|some w.heap.size,_,g,_,by simp[execOp,Instr.makeMap],c.alloc (e:=mp w.heap.size []) rfl ⟨#[],0,rfl,rfl,stamped_empty 0⟩,_,rfl,rfl,rfl⟩
theorem SO.mapUpdate (i:Nat)(A:MTy P t kt et z)(B:ev f x=some (.map<|some b))(C:ev f y=some (vi k))(D:ev f u=some v)(j:s[i]?=some (mp b l)) :
  SO P N E ⟨dst,.mapUpdate t x y u,ty,pos,af,gd⟩ f g s fun _ g' s'=>g=g'∧s'=s.set i (mp b<|gr l k v) :=
 SO.of_skip fun a w m n=>by
  obtain ⟨es,clk,F,G⟩:=n.own _<|zg4 j;have hb:w.heap[b]?=some (.map es clk):=by simpa [mp] using F
  obtain ⟨d,c,hr,o⟩:=jc A hb G k v;have p:=n.fresh _ (zg4 j) b rfl;obtain ⟨e1,e2⟩:=MapKept.heap_set (o':=.map d c) hb;refine⟨_,g,s.set i<|mp b<|gr l k v,by simp[execOp,m.ev B,m.ev C,m.ev D,hr]; rfl,?_,rfl,rfl⟩;refine n.turn j I ⟨I,(by exact Nat.le_refl _)⟩ I (by simp) (fun q _ r=>e2 q<|fun e=>r<|by simp[mp,e]) ⟨d,c,by simpa [mp] using e1,o⟩ (fun b' h=>?_);simp only[mp,zg9] at h;subst h;exact⟨by simpa using p.2,.inl I⟩
theorem At.freezeMap {w:World}(h:At E g (mp b l::s) w):∃ g',Le g g'∧At E g' s w∧Mp g' b l:=by
 obtain ⟨es,clk,a,c⟩:=h.own _<|List.mem_cons_self ..;have hb:w.heap[b]?=some (.map es clk):=by simpa [mp] using a
 obtain ⟨d,e⟩:=h.freeze (b:=b) rfl hb;exact⟨_,e,d,es,clk,fc _ _ _,c⟩
theorem SC.freezeMap {c:Code}(h:∀ g',Le g g'→Mp g' b l→SC P N E c Q f g' s):SC P N E c Q f g (mp b l::s):=fun a w d e=>by
 obtain ⟨g',i,j,k⟩:=e.freezeMap;exact h g' i k a w d j
theorem SL.freezeMap {l':List Oper}(h:∀ g',Le g g'→Mp g' b l→SL P N E ops Q l' f g' s):SL P N E ops Q l' f g (mp b l::s):=fun a w c d=>by
 obtain ⟨g',e,i,j⟩:=d.freezeMap;exact h g' e j a w c i
theorem ST.freezeMap {e:Exit}(h:∀ g',Le g g'→Mp g' b l→ST N E Q e f g' s):ST N E Q e f g (mp b l::s):=fun a w c d=>by
 obtain ⟨g',i,j,k⟩:=d.freezeMap;exact h g' i k a w c j
end
def iter (r m:Nat)(es:Array MapEntry)(clk:Nat)(vis:List MapEntry):Ent:=⟨some r,fun oo=>oo=some (.mapIter (some m) clk (vis.map (·.born)).toArray clk)⟩
structure Vis (es:Array MapEntry)(vis:List MapEntry):Prop where
 sub:∀ e∈vis,e∈es.toList
 nodup:(vis.map (·.born)).Nodup
theorem yN {es:Array MapEntry}{clk:Nat}(h:Stamped es clk){a b:MapEntry}(l:a∈es.toList)(hb:b∈es.toList)(e:a.born=b.born):a=b:=by
 have m:=h.2.1;obtain ⟨i,f,rfl⟩:=zc8 l;obtain ⟨j,g,rfl⟩:=zc8 hb;have:i=j:=by
  have k:=List.nodup_iff_pairwise_ne.1 m;by_cases c:i=j
  ·exact c
  ·exfalso
   rcases Nat.lt_or_gt_of_ne c with d | d
   ·have:=zd1.1 k i j (by simpa using f) (by simpa using g) d;simp at this; exact this (by simpa using e)
   ·have:=zd1.1 k j i (by simpa using g) (by simpa using f) d;simp at this; exact this (by simpa using e.symm)
 subst this;rfl
section
variable {P:Program}{N:Nat}{E:World}{f:Fr}{g:PH}{s:Own}{dst:Option Tmp}{ty:TypeId}{pos:String}{af:Array Edge}{gd:Option (Nat×Bool)}
variable {t kt et:TypeId}{m r clk:Nat}{es:Array MapEntry}{vis:List MapEntry}{x:Operand}
theorem SO.range (c:P.underlying t=some (.map kt et))(d:ev f x=some (.map<|some m))(hm:g m=some (.map es clk)) :
  SO P N E ⟨dst,.range t x,ty,pos,af,gd⟩ f g s fun u g' s'=>∃ r,u=pp r 0∧g=g'∧s'=iter r m es clk []::s :=
 SO.of_run fun a w h b=>⟨pp w.heap.size 0,{ w with heap:=w.heap.push (.mapIter (some m) clk #[] clk) },g,iter w.heap.size m es clk []::s,by
  have hb:=b.known _ _ hm;simp[execOp,h.ev d,Instr.range,run_underlying c,MapKept.run_getObj_map hb],b.alloc (e:=iter w.heap.size m es clk []) rfl rfl,_,rfl,rfl,rfl⟩
theorem SO.next (i:Nat)(Z:ev f x=some (pp r 0))(M:s[i]?=some (iter r m es clk vis))(hm:g m=some (.map es clk))(D:Stamped es clk)(hv:Vis es vis) :
  SO P N E ⟨dst,.next x false,ty,pos,af,gd⟩ f g s fun u g' s'=>g=g' ∧
   ((u = .tuple #[.bool false]∧s=s'∧∀ e∈es.toList,e∈vis)∨∃ e,e∈es.toList∧e.born ∉ vis.map (·.born)∧u = .tuple #[.bool true,e.key,e.val]∧s'=s.set i (iter r m es clk<|vis++[e])) :=
 SO.of_run fun a w ha F=>by
  have O:=F.own _<|zg4 M;have hb:=F.known _ _ hm;have hr:w.heap[r]?=some (.mapIter (some m) clk (vis.map (·.born)).toArray clk):=by simpa [iter] using O
  have p:(getObj r).run P w = .ok (.mapIter (some m) clk (vis.map (·.born)).toArray clk) w:=by simp[getObj,Sem.run,hr]
  have d:∀ e∈es.toList,e.born<clk:=D.1;have G:(es.all (·.born≥clk))=true→es = #[]:=fun h=>by
   rw[Array.all_eq_true_iff_forall_mem] at h;apply Array.eq_empty_of_size_eq_zero;cases t:es.size with
   | zero=>rfl
   | succ q =>
    exfalso;have h0:0<es.size:=oM;have B:=h es[0] (Array.getElem_mem h0);have h2:=d es[0] (by simp);simp at B;omega
  have v:(es.filter fun e=>!(vis.map (·.born)).toArray.contains e.born).filter (·.born<clk)=es.filter fun e=>!(vis.map (·.born)).toArray.contains e.born:=by
   apply Array.ext';simp only[Array.toList_filter];rw[List.filter_eq_self];intro e C;have:=d e (zh6.1 C).1;simpa using this
  have y:(es.filter fun e=>!(vis.map (·.born)).toArray.contains e.born).filter (·.born≥clk) = #[]:=by
   apply Array.ext';simp only[Array.toList_filter];rw[List.filter_eq_nil_iff];intro e C;have:=d e (zh6.1 C).1;simp; omega
  generalize Q:es.filter (fun e=>!(vis.map (·.born)).toArray.contains e.born)=left at v y;have j:∀ e,e∈left.toList↔e∈es.toList∧e.born ∉ vis.map (·.born):=fun e=>by
   rw[← Q];simp
  have c:(!(vis.map (·.born)).toArray.isEmpty && !es.isEmpty&&es.all (·.born≥clk))=false:=by
   cases B:es.all (·.born≥clk) with
   | false=>simp
   | true=>rw[G B]; simp
  have o:=F.fresh _ (zg4 M) r rfl;by_cases b:left = #[]
  ·-- none is left
   refine⟨.tuple #[.bool false],w,g,s,?_,F,I,.inl ⟨I,I,fun e C=>?_⟩⟩
   ·simp only[execOp,ha.ev Z,Instr.next,Sem.run_bind,p,zd2,MapKept.run_getObj_map hb,c,Bool.false_eq_true,if_false,Sem.run_pure,Q,v,y,b];simp[choose,Sem.run,Question.forced]
   ·by_cases l:e.born∈vis.map (·.born)
    ·obtain ⟨e',H,R⟩:=zf4.1 l;rw[← yN D (hv.sub e' H) C R];exact H
    ·have:=(j e).2 ⟨C,l⟩;rw[b] at this;simp at this
  ·have t:0<left.size:=by
    rcases Nat.eq_zero_or_pos left.size with h | h
    ·exact absurd (Array.eq_empty_of_size_eq_zero h) b
    ·exact h
   have z:((if left.isEmpty then #[none] else #[])++(left ++ #[]).map some:Array (Option MapEntry))=left.map some:=by
    have:left.isEmpty=false:=by simpa using b
    simp[this]
   -- the entry that is drawn
   have S:∃ (q:Nat) (w':World),(choose<|.mapNext left.size).run P w = .ok q w'∧q<left.size∧∃ n,w.drawn≤n∧w'={ w with drawn:=n }:=by
    by_cases B:left.size≤1
    ·exact⟨0,w,by simp[choose,Sem.run,Question.forced,B],t,w.drawn,Nat.le_refl _,I⟩
    ·exact⟨_,_,by simp[choose,Sem.run,Question.forced,B,Question.cut]; rfl,Nat.mod_lt _ t,w.drawn+1,Nat.le_succ _,rfl⟩
   obtain ⟨q,w',T,U,n,V,A⟩:=S;have W:w'.heap[r]?=some (.mapIter (some m) clk (vis.map (·.born)).toArray clk):=by rw[A]; exact hr
   have J:(setObj r (.mapIter (some m) clk ((vis.map (·.born)).toArray.push left[q].born) clk)).run P w' = .ok () { w' with heap:=w'.heap.setIfInBounds r (.mapIter (some m) clk ((vis.map (·.born)).toArray.push left[q].born) clk) }:=by
    simp[setObj,Sem.run,W]
   have l:left[q]∈left.toList:=by simp
   refine⟨.tuple #[.bool true,left[q].key,left[q].val],{ w' with heap:=w'.heap.setIfInBounds r (.mapIter (some m) clk ((vis.map (·.born)).toArray.push left[q].born) clk) },g,s.set i<|iter r m es clk<|vis++[left[q]],?_,?_,I,.inr ⟨left[q],((j _).1 l).1,((j _).1 l).2,I,I⟩⟩
   ·simp only[execOp,ha.ev Z,Instr.next,Sem.run_bind,p,zd2,MapKept.run_getObj_map hb,c,Bool.false_eq_true,if_false,Sem.run_pure,Q,v,y];rw[z];simp only[Array.size_map,T,zd2];have X:(left.map some)[q]?=some (some left[q]):=by simp[U]
    simp only[X,Sem.run_bind,J,zd2,Sem.run_pure]
   ·have Y:At E g s w':=by rw[A]; exact F.drew n V
    have K:r<w'.heap.size:=by rw[A]; exact o.2
    refine Y.turn M I ⟨I,(by exact Nat.le_refl _)⟩ I (by simp) (fun k _ hk=>by simp only[Array.getElem?_setIfInBounds_ne (fun e=>hk (by simp[iter,e]):r≠k)]) ?_ (fun b' L=>?_)
    ·simp[iter,K]
    ·simp only[iter,zg9] at L;subst L;exact⟨by simpa using K,.inl I⟩
theorem SQ.entry {e:MapEntry}(i:Nat)(o:ev f x=some (pp r 0))(p:s[i]?=some (iter r m es clk<|vis++[e]))(hm:g m=some (.map es clk))(h:Stamped es clk)(l:e∈es.toList) :
  SQ P N E ⟨dst,.entry x,ty,pos,af,gd⟩ f g s (.tuple #[e.key,e.val]):=fun a w q n=>by
 have j:=n.own _<|zg4 p;have hb:=n.known _ _ hm;have hr:w.heap[r]?=some (.mapIter (some m) clk ((vis++[e]).map (·.born)).toArray clk):=by simpa [iter] using j
 have d:(getObj r).run P w = .ok (.mapIter (some m) clk ((vis++[e]).map (·.born)).toArray clk) w:=by simp[getObj,Sem.run,hr]
 have k:((vis++[e]).map (·.born)).toArray.back?=some e.born:=by simp
 have b:es.find? (·.born == e.born)=some e:=by
  rw[← Array.find?_toList];have t:(es.toList.find? (·.born == e.born)).isSome:=by
   rw[List.find?_isSome];exact⟨e,l,by simp⟩
  obtain ⟨e',c⟩:=zi1.1 t;have u:=List.find?_some c;have v:=zk8 c;rw[c,yN h v l (by simpa using u)]
 simp[execOp,q.ev o,Instr.entry,d,MapKept.run_getObj_map hb,b]
end
theorem za3:type_of% @SU.build:=@SU.build
theorem zb5:type_of% @SL.freeze:=@SL.freeze
theorem zd6:type_of% @SL.freezeRow:=@SL.freezeRow
end Go.Sy
namespace Go.Pl
open Go.Sy
theorem ax.ins {α β:Type}{R:α→β→Prop}{f:α→Int}{h:β→Int}(d:∀ a b,R a b→f a=h b){a:α}{b:β}(c:R a b):∀ {l:List α} {m:List β},ax R l m→ax R (ins f a l) (ins h b m)
 | [],[],_=>⟨c,trivial⟩
 | x::l,y::m,hl=>by
  unfold Pl.ins;rw[d a b c,d x y hl.1];split
  ·exact⟨c,hl⟩
  ·exact⟨hl.1,ax.ins d c hl.2⟩
 | [],_::_,hl=>hl.elim
 | _::_,[],hl=>hl.elim
theorem ax.sortBy {α β:Type}{R:α→β→Prop}{f:α→Int}{h:β→Int}(c:∀ a b,R a b→f a=h b):∀ {l:List α} {m:List β},ax R l m→ax R (sortBy f l) (sortBy h m)
 | [],[],_=>trivial
 | _::_,_::_,hl=>ax.ins c hl.1<|ax.sortBy c hl.2
 | [],_::_,hl=>hl.elim
 | _::_,[],hl=>hl.elim
end Go.Pl
namespace Go.Proofs.YtbbppeihhkhkcaaGreatDoor
open _root_.Go.Proofs.Tryz _root_.Go.Proofs.YtbbppeihhkhkcaaGreatDoor.Tryz
open Go Go.Sy Go.Pl Go.Proofs
set_option maxRecDepth 100000
def bU (a b:Int):Int:=(IntKind.i64.wrap<|a.tmod b+b).tmod b
theorem bB (E:World)(g:PH)(s:Own)(a b:Int)(hb:b≠0):Ctr Tryz.prog E 32 #[vi a,vi b] g s
  (fun r g' s'=>r=vi (bU a b)∧g=g'∧s=s'):=by
 exact zb2 (args:=[vi a,vi b]) func32 I ntmps32 (bE I)<|rZ<|aT I<|sW I<|lM I<|lU (zd9 I I oM)<|lM I<|lU (ze2 I I)<|lM I<|lU (zd9 I I oM)<|aT I<|rE<|za8 (.inl I) results32 I ⟨I,I,I⟩
theorem un (E:World)(g:PH)(s:Own)(v u:Value)(l m:List Int)(i:dp g v l)(j:dp g u m)(hl:l.length<4611686018427387904):Ctr Tryz.prog E 68 #[v,u] g s
  (fun r g' s'=>r=vb (decide (l=m))∧g=g'∧s=s'):=by
 obtain ⟨p,c,rfl⟩:=SlA.form i;obtain ⟨q,d,rfl⟩:=SlA.form j;refine zb2 (args:=[.slice p l.length c,.slice q m.length d]) func68 I ntmps68 (bE I)<|rZ<|aT I<|sQ<|sW I<|lU (eN az I)<|lM I<|lU (eN az I)<|lU (nQ I I)<|tZ<|iP I (fun b=>?_) (fun b=>?_)
 ·exact rZ<|aT I<|rE<|tR<|za8 (.inl I) results68 I ⟨by have:l≠m:=fun e=>b (by rw[e]); simp[this],I,I⟩
 ·refine kP<|tN<|sQ<|rZ<|aT I<|bK ?_;have t:l.length=m.length:=oM;refine oP (ι:=Nat) (fun k=>[(0,.slice p l.length c),(1,.slice q m.length d),(5,vi k)]) (fun _=>g) (fun _=>s) (fun k=>k≤l.length∧l.take k=m.take k) (fun k=>l.length - k) 0
   sB rfl rfl ⟨zf8 _,by simp⟩ ?_
  rintro k ⟨y,a⟩;refine sQ<|sW I<|lM I<|lU (eN az I)<|yL I<|tZ<|iP I (fun n=>?_) (fun n=>?_)
  ·have f:k<l.length:=oM;have h:k<m.length:=oM;have w:=SlA.based i oM;have x:=SlA.based j oM;refine kP<|tN<|sQ<|bK<|sQ<|dW [] [(0,2),(1,2),(2,2),(3,1),(4,2),(5,2),(6,2),(7,1),(8,2)] Tryz.mixed kR<|yM I<|yM I<|pU I (iA az zT3 I I (by assumption) oM<|by (simp[slen]; omega)) ?_;refine pQ I (eB iT3 I (SlA.rd i) (List.getElem?_eq_getElem f) I) dC ?_;refine yM I<|yM I<|pU I (iA az zT3 I I (by assumption) oM<|by (simp[slen]; omega)) ?_;refine pQ I (eB iT3 I (SlA.rd j) (List.getElem?_eq_getElem h) I) dC ?_;refine pU I (nQ I I)<|pN<|tN ?_;refine iP I (fun hd=>?_) (fun hd=>?_)
   ·exact rZ<|aT I<|rE<|bR<|tR<|tR<|bR<|tR<|za8 (.inl I) results68 I ⟨by have:l≠m:=fun e=>hd (by simp[e]); simp[this],I,I⟩
   ·exact kP<|bN<|tN<|rG<|lM I<|yD I<|lA I<|SL.nil<|ST.again (k+1) sB I I ⟨oM,by rw[tS f,tS h,a,zh2 hd]⟩ oM
  ·refine xI<|tX<|tX<|bX<|tN<|rZ<|aT I<|rE ?_;have o:k=l.length:=oM;subst o;have:l=m:=by rw[tL<|Nat.le_refl _,tL oM] at a; exact a
   exact za8 (.inl I) results68 I ⟨by simp[this],I,I⟩
inductive SoI:(α:Type)→(k:Nat)→Enc α k→(T TS f1 f2 f3 f4 f5 f6 f7 f8 f9 f10:Nat)→Prop
 | c:SoI Rc 3 encCell 56 27 283 263 201 211 158 88 177 90 176 117
 | s:SoI ak 2 encSide 75 39 301 292 269 270 227 178 179 90 110 119
abbrev SoI.en {α:Type}{k:Nat}{e:Enc α k}{T TS f1 f2 f3 f4 f5 f6 f7 f8 f9 f10:Nat}(_:SoI α k e T TS f1 f2 f3 f4 f5 f6 f7 f8 f9 f10):Enc α k:=e
abbrev SoI.ty {α:Type}{k:Nat}{e:Enc α k}{T TS f1 f2 f3 f4 f5 f6 f7 f8 f9 f10:Nat}(_:SoI α k e T TS f1 f2 f3 f4 f5 f6 f7 f8 f9 f10):TypeId:=T
theorem SoI.uS {α:Type}{k:Nat}{e:Enc α k}{T TS f1 f2 f3 f4 f5 f6 f7 f8 f9 f10:Nat}(w:SoI α k e T TS f1 f2 f3 f4 f5 f6 f7 f8 f9 f10):Tryz.prog.underlying TS=some (.slice T):=by
 cases w
 ·exact aB
 ·exact be
theorem SoI.zE {α:Type}{k:Nat}{e:Enc α k}{T TS f1 f2 f3 f4 f5 f6 f7 f8 f9 f10:Nat}(w:SoI α k e T TS f1 f2 f3 f4 f5 f6 f7 f8 f9 f10):∀ w,(sizeOf T).run Tryz.prog w = .ok k w:=by
 cases w
 ·exact aw
 ·exact aY
theorem SoI.aE {α:Type}{k:Nat}{e:Enc α k}{T TS f1 f2 f3 f4 f5 f6 f7 f8 f9 f10:Nat}(w:SoI α k e T TS f1 f2 f3 f4 f5 f6 f7 f8 f9 f10):∀ w,(isAgg T).run Tryz.prog w = .ok true w:=by
 cases w
 ·exact dT
 ·exact jn
theorem SoI.kf1 {α:Type}{k:Nat}{e:Enc α k}{T TS f1 f2 f3 f4 f5 f6 f7 f8 f9 f10:Nat}(w:SoI α k e T TS f1 f2 f3 f4 f5 f6 f7 f8 f9 f10):∀ args w,(callFunc f1 args).run Tryz.prog w = .ok (.enter f1 args) w:=by
 cases w
 ·exact call283
 ·exact call301
theorem SoI.kf2 {α:Type}{k:Nat}{e:Enc α k}{T TS f1 f2 f3 f4 f5 f6 f7 f8 f9 f10:Nat}(w:SoI α k e T TS f1 f2 f3 f4 f5 f6 f7 f8 f9 f10):∀ args w,(callFunc f2 args).run Tryz.prog w = .ok (.enter f2 args) w:=by
 cases w
 ·exact call263
 ·exact call292
theorem SoI.kf3 {α:Type}{k:Nat}{e:Enc α k}{T TS f1 f2 f3 f4 f5 f6 f7 f8 f9 f10:Nat}(w:SoI α k e T TS f1 f2 f3 f4 f5 f6 f7 f8 f9 f10):∀ args w,(callFunc f3 args).run Tryz.prog w = .ok (.enter f3 args) w:=by
 cases w
 ·exact call201
 ·exact call269
theorem SoI.kf4 {α:Type}{k:Nat}{e:Enc α k}{T TS f1 f2 f3 f4 f5 f6 f7 f8 f9 f10:Nat}(w:SoI α k e T TS f1 f2 f3 f4 f5 f6 f7 f8 f9 f10):∀ args w,(callFunc f4 args).run Tryz.prog w = .ok (.enter f4 args) w:=by
 cases w
 ·exact call211
 ·exact call270
theorem SoI.kf5 {α:Type}{k:Nat}{e:Enc α k}{T TS f1 f2 f3 f4 f5 f6 f7 f8 f9 f10:Nat}(w:SoI α k e T TS f1 f2 f3 f4 f5 f6 f7 f8 f9 f10):∀ args w,(callFunc f5 args).run Tryz.prog w = .ok (.enter f5 args) w:=by
 cases w
 ·exact call158
 ·exact call227
theorem mT {α:Type}{k:Nat}{e:Enc α k}{T TS f1 f2 f3 f4 f5 f6 f7 f8 f9 f10:Nat}(w:SoI α k e T TS f1 f2 f3 f4 f5 f6 f7 f8 f9 f10)(E:World)(g:PH)(s:Own)(v cv:Value)(p A x B q:List α)(G:A.length=B.length)(hn:(p++A++x++B++q).length<2305843009213693952)(a b n:Int)(H:a=p.length)(hb:b=p.length+A.length+x.length)(u:n=A.length) :
  Ctr Tryz.prog E f1 #[v,vi a,vi b,vi n,cv] g (rowA e T v (p++A++x++B++q)::s) (fun _ g' s'=>g=g'∧s'=rowA e T v (p++B++x++A++q)::s):=by
 have uS:=w.uS;have zE:=w.zE;have aE:=w.aE;have w2:=w;cases w2
 all_goals
  subst H hb u;simp only[ze7] at hn;refine Ctr.facts fun ⟨w0,h⟩=>?_;obtain ⟨m,o,rfl⟩:=ag (i:=0) h rfl;have j:A≠[]→based (.slice m (p++A++x++B++q).length o)=true:=fun y=>by
   obtain ⟨b0,c0,J⟩:=bw (i:=0) h rfl (by simp; have:=List.length_pos_iff.2 y; omega);rw[J]; rfl
  clear h w0;generalize K:(p++A++x++B++q).length=L at *;generalize z:Value.slice m L o=v at *;have d:slen v=L:=by rw[← z]; rfl
  simp only[ze7] at K
  first | refine zb2 (args:=[v,vi p.length,vi<|p.length+A.length+x.length,vi A.length,cv]) func283 rfl ntmps283 (bE rfl) ?_ | refine zb2 (args:=[v,vi p.length,vi<|p.length+A.length+x.length,vi A.length,cv]) func301 rfl ntmps301 (bE rfl) ?_
  refine rZ<|aT I<|bK<|oP (ι:=type_of% q×type_of% q×type_of% q×type_of% q) (fun i=>[(0,v),(1,vi p.length),(2,vi<|p.length+A.length+x.length),(3,vi A.length),(4,cv),(10,vi i.1.length)]) (fun _=>g) (fun i=>rowA w.en w.ty v (p++i.2.2.1++i.2.1++x++i.1++i.2.2.2++q)::s) (fun i=>A=i.1++i.2.1∧B=i.2.2.1++i.2.2.2∧i.1.length=i.2.2.1.length) (fun i=>i.2.1.length) ([],A,[],B) sB I (by simp) ⟨I,I,I⟩ ?_;rintro ⟨A1,A2,B1,B2⟩ ⟨hA,hB,r⟩;dsimp only at hA hB r ⊢;have c:A.length=A1.length+A2.length:=by rw[hA]; simp
  have l:B.length=B1.length+B2.length:=by rw[hB]; simp
  refine sQ<|sW I<|lM I<|yL I<|tZ<|iP I (fun C=>?_) (fun C=>?_)
  ·cases A2 with
   | nil=>simp at c; omega
   | cons ea A2 =>
   cases B2 with
   | nil=>simp at c l; omega
   | cons eb B2 =>
   simp only[zf1] at c l;have f:=j (by rw[hA]; simp);have D:(p++B1++(ea::A2)++x++A1++(eb::B2)++q)[((p.length:Int)+(A1.length:Int)).toNat]?=some ea:=by
    have:p++B1++(ea::A2)++x++A1++(eb::B2)++q=(p++B1)++ea::(A2++x++A1++(eb::B2)++q):=by simp
    rw[this]; exact bM (by simp; omega)
   have F:(p++B1++(ea::A2)++x++A1++(eb::B2)++q)[((p.length:Int)+A.length+x.length+(A1.length:Int)).toNat]?=some eb:=by
    have:p++B1++(ea::A2)++x++A1++(eb::B2)++q=(p++B1++(ea::A2)++x++A1)++eb::(B2++q):=by simp
    rw[this]; exact bM (by simp; omega)
   refine kP<|tN<|sQ<|bK<|dW [21,23] [(0,2),(1,2),(2,2),(3,2),(4,2),(5,2),(6,2),(7,2),(8,2),(9,2),(10,2),(11,2),(12,2),(13,1),(14,2),(15,2),(16,2),(17,2),(18,2),(19,1),(20,2),(21,0),(22,2),(23,0)] Tryz.mixed kR<|yM I<|yM I<|yM I<|pU I (aD I I oM)<|yM I<|yM I<|yM I<|pU I (aD I I oM)<|yM I<|yM I<|yM I<|pU I (aD I I oM)<|pU I (iA uS zE I I f oM (by rw[d]; omega)) ?_;refine pK I (SQ.elemA aE zE I (Rd.rowA 0 I) F)<|yM I<|yM I<|yM I<|pU I (aD I I oM)<|pU I (iA uS zE I I f oM (by rw[d]; omega)) ?_;refine pK I (SQ.elemA aE zE I (Rd.rowA 0 I) D)<|pU I (iA uS zE I I f oM (by rw[d]; omega)) ?_;refine SP.on I (SO.setA (a:=eb) 0 zE I I I (by simp; omega) I) (.inl dC) ?_;rintro _ _ _ ⟨rfl,rfl⟩;refine pU I (iA uS zE I I f oM (by rw[d]; omega)) ?_;refine SP.on I (SO.setA (a:=ea) 0 zE I I I (by simp; omega) I) (.inl dC) ?_;rintro _ _ _ ⟨rfl,rfl⟩;refine pN<|bN<|tN<|rG<|lM I<|yD I<|lA I<|SL.nil ?_;have t:((p++B1++(ea::A2)++x++A1++(eb::B2)++q).set ((p.length:Int)+(A1.length:Int)).toNat eb).set ((p.length:Int)+A.length+x.length+(A1.length:Int)).toNat ea=p++(B1++[eb])++A2++x++(A1++[ea])++B2++q:=by
    have M:p++B1++(ea::A2)++x++A1++(eb::B2)++q=(p++B1)++ea::(A2++x++A1++(eb::B2)++q):=by simp
    rw[M,dN (by simp; omega)];have N:(p++B1)++eb::(A2++x++A1++(eb::B2)++q)=(p++B1++eb::(A2++x++A1))++eb::(B2++q):=by simp
    rw[N,dN (by simp; omega)];simp
   exact ST.again (A1++[ea],A2,B1++[eb],B2) ⟨I,I,I,I,I,bD (by simp),trivial⟩ I (by dsimp only; rw[← t]; rfl) ⟨by simp[hA],by simp[hB],by simp[r]⟩ (by simp)
  ·refine xI<|tX<|tX<|bX ?_;cases A2 with
   | cons ea A2=>simp at c; omega
   | nil =>
   cases B2 with
   | cons ea A2=>simp at c l; omega
   | nil =>
   exact ST.ret0 (.inr I) (by exact results283) ⟨I,by simp[hA,hB]⟩
theorem Fa {α:Type}{k:Nat}{e:Enc α k}{T TS f1 f2 f3 f4 f5 f6 f7 f8 f9 f10:Nat}(w:SoI α k e T TS f1 f2 f3 f4 f5 f6 f7 f8 f9 f10)(E:World)(g:PH)(s:Own)(v cv:Value)(p U V q:List α)(y:0<U.length)(z:0<V.length)(hn:(p++U++V++q).length<2305843009213693952)(a m b:Int)(C:a=p.length)(hm:m=p.length+U.length)(hb:b=p.length+U.length+V.length) :
  Ctr Tryz.prog E f2 #[v,vi a,vi m,vi b,cv] g (rowA e T v (p++U++V++q)::s) (fun _ g' s'=>g=g'∧s'=rowA e T v (p++V++U++q)::s):=by
 have uS:=w.uS;have zE:=w.zE;have aE:=w.aE;have kf1:=w.kf1;have w2:=w;cases w2
 all_goals
  simp only[ze7] at hn
  first | refine zb2 (args:=[v,vi a,vi m,vi b,cv]) func263 rfl ntmps263 (bE rfl) ?_ | refine zb2 (args:=[v,vi a,vi m,vi b,cv]) func292 rfl ntmps292 (bE rfl) ?_
  refine sW I<|lM I<|lU (sU I I oM)<|aT I<|sW I<|lM I<|lU (sU I I oM)<|aT I<|SC.cut (ι:=type_of% q×type_of% q×type_of% q×type_of% q) (fun i=>[(0,v),(1,vi a),(2,vi m),(3,vi b),(4,cv),(10,vi i.2.1.length),(11,vi i.2.2.1.length)]) (fun _=>g) (fun i=>rowA w.en w.ty v (i.1++i.2.1++i.2.2.1++i.2.2.2)::s) (fun i=>p++V++U++q=i.1++i.2.2.1++i.2.1++i.2.2.2∧(m=i.1.length+i.2.1.length∧0<i.2.1.length∧i.2.1.length=i.2.2.1.length)) ?_ ?_
  ·refine bK<|oP (ι:=type_of% q×type_of% q×type_of% q×type_of% q) (fun i=>[(0,v),(1,vi a),(2,vi m),(3,vi b),(4,cv),(10,vi i.2.1.length),(11,vi i.2.2.1.length)]) (fun _=>g) (fun i=>rowA w.en w.ty v (i.1++i.2.1++i.2.2.1++i.2.2.2)::s) (fun i=>p++V++U++q=i.1++i.2.2.1++i.2.1++i.2.2.2∧(m=i.1.length+i.2.1.length∧0<i.2.1.length∧0<i.2.2.1.length)) (fun i=>i.2.1.length+i.2.2.1.length) (p,U,V,q) ⟨I,I,I,I,I,bD lN,bD lN,trivial⟩ I I ⟨I,lN,y,z⟩ ?_;rintro ⟨p1,U1,V1,q1⟩ ⟨c,d,f,o⟩;dsimp only at c d f o ⊢;have l:p.length+V.length+U.length+q.length=p1.length+V1.length+U1.length+q1.length:=by have:=congrArg List.length c; simp at this; omega
   refine sQ<|sW I<|lM I<|lU (nQ I I)<|tZ<|iP I (fun r=>?_) (fun r=>?_)
   ·refine kP<|tN<|bK<|sW I<|lM I<|lU (gR I I)<|tZ<|iP I (fun t=>?_) (fun t=>?_)
    ·obtain ⟨Ua,Ub,h,u⟩:∃ Ua Ub,U1=Ua++Ub∧Ua.length=V1.length:=⟨U1.take V1.length,U1.drop V1.length,by simp,lN⟩;have A:U1.length=Ua.length+Ub.length:=by rw[h]; simp
     have e1:p1++U1++V1++q1=p1++Ua++Ub++V1++q1:=by rw[h]; simp
     rw[e1];refine sW I<|lM I<|lM I<|lU (sU I I oM)<|lM I<|lM I<|lM I<|lW (SO.call kf1 I<|mT w E g s v cv p1 Ua Ub V1 q1 u lN _ _ _ lN lN lN) ?_;rintro _ _ _ ⟨rfl,rfl⟩;exact tZ<|rG<|lM I<|lM I<|lU (sU I I oM)<|lA I<|SL.nil<|bN<|ST.again (p1++V1,Ub,Ua,q1) ⟨I,I,I,I,I,bD lN,bD lN,trivial⟩ I (by simp) ⟨by rw[c,h]; simp,lN,lN,lN⟩ lN
    ·obtain ⟨Va,Vb,j,x⟩:∃ Va Vb,V1=Va++Vb∧Vb.length=U1.length:=⟨V1.take<|V1.length - U1.length,V1.drop<|V1.length - U1.length,by simp,lN⟩;have B:V1.length=Va.length+Vb.length:=by rw[j]; simp
     have e1:p1++U1++V1++q1=p1++U1++Va++Vb++q1:=by rw[j]; simp
     rw[e1];refine sW I<|lM I<|lM I<|lU (sU I I oM)<|lM I<|lM I<|yD I<|lM I<|lU (sU I I oM)<|lM I<|lM I<|lW (SO.call kf1 I<|mT w E g s v cv p1 U1 Va Vb q1 x.symm lN _ _ _ lN lN lN) ?_;rintro _ _ _ ⟨rfl,rfl⟩;exact tZ<|rG<|lM I<|lM I<|lU (sU I I oM)<|lA I<|SL.nil<|bN<|ST.again (p1,Vb,Va,U1++q1) ⟨I,I,I,I,I,bD lN,bD lN,trivial⟩ I (by simp) ⟨by rw[c,j]; simp,lN,lN,lN⟩ lN
   ·exact xI<|tX<|tX<|bX<|za9 (p1,U1,V1,q1) sB I I ⟨c,d,f,lN⟩
  ·rintro ⟨p1,U1,V1,q1⟩ ⟨c,d,f,n⟩;dsimp only at c d f n ⊢;have l:p.length+V.length+U.length+q.length=p1.length+V1.length+U1.length+q1.length:=by have:=ze4 List.length c; simp at this; omega
   have e1:p1++U1++V1++q1=p1++U1++[]++V1++q1:=by simp
   rw[e1];refine rG<|lM I<|lM I<|lM I<|lU (sU I I oM)<|lM I<|lM I<|lM I<|lW (SO.call kf1 I<|mT w E g s v cv p1 U1 [] V1 q1 n lN _ _ _ lN lN lN) ?_;rintro _ _ _ ⟨rfl,rfl⟩;exact SL.nil<|ST.ret0 (.inr I) (by exact results263) ⟨I,by rw[c]; simp⟩
theorem rk {α:Type}{k:Nat}{e:Enc α k}{T TS f1 f2 f3 f4 f5 f6 f7 f8 f9 f10:Nat}(w:SoI α k e T TS f1 f2 f3 f4 f5 f6 f7 f8 f9 f10)(E:World)(g:PH)(s:Own)(v cv:Value)(key:α→Int)(U:nr E cv e key g)(p m q:List α)(hn:(p++m++q).length<2305843009213693952)(a b:Int)(ha:a=p.length)(hb:b=p.length+m.length) :
  Ctr Tryz.prog E f3 #[v,vi a,vi b,cv] g (rowA e T v (p++m++q)::s) (fun _ g' s'=>g=g'∧∃ m',aI key m m'∧Srt key m'∧s'=rowA e T v (p++m'++q)::s):=by
 have uS:=w.uS;have zE:=w.zE;have aE:=w.aE;have w2:=w;cases w2
 all_goals
  refine Ctr.facts fun ⟨w0,F⟩=>?_;have G:m≠[]→based v=true:=fun P=>by
   obtain ⟨b0,c0,Q⟩:=bw (i:=0) F rfl (by simp; have:=List.length_pos_iff.2 P; omega);rw[Q]; rfl
  have d:slen v=(p++m++q).length:=by
   obtain ⟨V,W,Q⟩:=ag (i:=0) F rfl;rw[Q]; rfl
  clear F w0;simp only[ze7] at hn d
  first | refine zb2 (args:=[v,vi a,vi b,cv]) func201 rfl ntmps201 (bE rfl) ?_ | refine zb2 (args:=[v,vi a,vi b,cv]) func269 rfl ntmps269 (bE rfl) ?_
  refine sW I<|yD I<|aT I<|bK<|oP (ι:=type_of% q×type_of% q×type_of% q) (fun i=>[(0,v),(1,vi a),(2,vi b),(3,cv),(8,vi<|p.length+1+i.1.length)]) (fun _=>g) (fun i=>rowA w.en w.ty v (p++(i.2.1++i.2.2)++q)::s) (fun i=>Srt key i.2.1∧aI key m (i.2.1++i.2.2)∧(i.2.1.length=i.1.length+1∨(m=[]∧i.1=[]))) (fun i=>i.2.2.length) ([],m.take 1,m.drop 1) ⟨I,I,I,I,bD (by simp; omega),trivial⟩ I (by rw[List.take_append_drop]) ⟨by cases m with | nil=>exact Srt.nil | cons x r=>exact Srt.one x,by rw[List.take_append_drop]; exact aI.refl m,by cases m with | nil=>exact .inr ⟨I,I⟩ | cons x r=>exact .inl (by simp)⟩ ?_;rintro ⟨cn,S1,T1⟩ ⟨f,o,H⟩;dsimp only at f o H ⊢;have j:S1.length+T1.length=m.length:=by have:=o.1; simpa using this
  refine sQ<|sW I<|lM I<|yL I<|tZ<|iP I (fun R=>?_) (fun R=>?_)
  ·have J:S1.length=cn.length+1:=by
    rcases H with h | ⟨h,X⟩
    ·exact h
    ·rw[h] at hb; simp at hb; omega
   cases T1 with
   | nil=>simp at j; omega
   | cons x T1 =>
   simp only[List.length_cons] at j;have l:=G (by intro e; rw[e] at j; simp at j);refine kP<|tN<|SC.cut (ι:=type_of% q×type_of% q) (fun i=>[(0,v),(1,vi a),(2,vi b),(3,cv),(8,vi<|p.length+1+cn.length)]) (fun _=>g) (fun i=>rowA w.en w.ty v (p++(i.1++x::i.2++T1)++q)::s) (fun i=>S1=i.1++i.2∧(∀ y∈i.1,key y≤key x)∧(∀ y∈i.2,key x<key y)) ?_ ?_
   ·refine bK<|sW I<|aT I<|bK<|oP (ι:=type_of% q×type_of% q) (fun i=>[(0,v),(1,vi a),(2,vi b),(3,cv),(8,vi<|p.length+1+cn.length),(9,vi<|p.length+i.1.length)]) (fun _=>g) (fun i=>rowA w.en w.ty v (p++(i.1++x::i.2++T1)++q)::s) (fun i=>S1=i.1++i.2∧(∀ y∈i.2,key x<key y)) (fun i=>i.1.length) (S1,[]) ⟨I,I,I,I,I,bD (by rw[J]; simp; omega),trivial⟩ I (by simp) ⟨by simp,by simp⟩ ?_;rintro ⟨A,B⟩ ⟨t,hB⟩;dsimp only at t hB ⊢;have S:S1.length=A.length+B.length:=by rw[t]; simp
    have K:(p++(A++x::B++T1)++q)[((p.length:Int)+A.length).toNat]?=some x:=by
     have:p++(A++x::B++T1)++q=(p++A)++x::(B++T1++q):=by simp
     rw[this]; exact bM (by simp; omega)
    rcases List.eq_nil_or_concat A with c | ⟨A0,y,c⟩
    ·subst c;refine sQ<|SC.cutB 34 (false) ?_ ?_
     ·refine dW [] [(0,2),(1,2),(2,2),(3,2),(4,2),(5,2),(6,2),(7,2),(8,1),(9,2),(10,2),(11,2),(12,2),(13,1),(14,0),(15,2),(16,2)] Tryz.mixed kR<|yM I<|yM I<|pU I (gR I I)<|yM I<|SP.split ?_ ?_
      ·intro C;exfalso;simp at C; omega
      ·intro C;refine yG I<|yG I<|yG I<|yG I<|yI I<|yG I<|yG I<|yG I<|yG I<|yI I<|fO I (gZ I I I dC) dC ⟨by exact zb9 _,(by exact .refl _)⟩ ?_;refine yG I<|pU I (wF I I)<|pN ?_;exact zb1 (I) mI
     exact za1 I<|xI<|tX<|tX<|bX<|bN<|za9 ([],B) sB I I ⟨t,by simp,hB⟩
    ·rw[List.concat_eq_append] at c;have Y:A.length=A0.length+1:=by rw[c]; simp
     have L:(p++(A++x::B++T1)++q)[((p.length:Int)+A.length - 1).toNat]?=some y:=by
      have:p++(A++x::B++T1)++q=(p++A0)++y::(x::B++T1++q):=by rw[c]; simp
      rw[this]; exact bM lN
     refine sQ<|SC.cutB 34 (decide (key x<key y)) ?_ ?_
     ·refine dW [] [(0,2),(1,2),(2,2),(3,2),(4,2),(5,2),(6,2),(7,2),(8,1),(9,2),(10,2),(11,2),(12,2),(13,1),(14,0),(15,2),(16,2)] Tryz.mixed kR<|yM I<|yM I<|pU I (gR I I)<|yM I<|SP.split ?_ ?_
      ·intro C;refine yJ I<|yJ I<|yJ I<|zb3 I (gT I I I dC) (iA uS zE I I l oM (by rw[d]; omega)) dC ?_;refine SP.gq I (gT I I I dC) (SQ.elemA aE zE I (Rd.rowA 0 I) K) dC<|yJ I<|yJ I<|zb3 I (gT I I I dC) (sU I I oM) dC<|zb3 I (gT I I I dC) (iA uS zE I I l oM (by rw[d]; omega)) dC ?_;refine SP.gq I (gT I I I dC) (SQ.elemA aE zE I (Rd.rowA 0 I) L) dC<|SP.go I (gT I I I dC) (SO.callV I I<|U _ _ _ _<|zb9 _) dC (.inr iR) ?_;rintro _ _ _ ⟨rfl,rfl,rfl⟩;exact zb3 I (gT I I I dC) (lS I I) dC<|pU I (wT I I)<|pN<|zb1 (by rw[decide_eq_decide.2<|ff (x:=key x) (y:=key y)]; rfl) mI
      ·intro C;exfalso;omega
     refine iP I (fun M=>?_) (fun M=>?_)
     ·refine kP<|tN<|sQ<|bK<|dW [15,17] [(0,2),(1,2),(2,2),(3,2),(4,2),(5,2),(6,2),(7,2),(8,2),(9,1),(10,2),(11,2),(12,2),(13,1),(14,2),(15,0),(16,2),(17,0)] Tryz.mixed kR<|yM I<|yM I<|yM I<|yM I<|pU I (sU I I oM)<|yM I<|yM I<|pU I (sU I I oM)<|pU I (iA uS zE I I l oM (by rw[d]; omega)) ?_;refine pK I (SQ.elemA aE zE I (Rd.rowA 0 I) L)<|yM I<|yM I<|pU I (iA uS zE I I l oM (by rw[d]; omega)) ?_;refine pK I (SQ.elemA aE zE I (Rd.rowA 0 I) K)<|pU I (iA uS zE I I l oM (by rw[d]; omega)) ?_;refine SP.on I (SO.setA (a:=y) 0 zE I I I lN I) (.inl dC) ?_;rintro _ _ _ ⟨rfl,rfl⟩;refine pU I (iA uS zE I I l oM (by rw[d]; omega)) ?_;refine SP.on I (SO.setA (a:=x) 0 zE I I I (by rw[zi5]; (first | with_reducible rfl | ((try dsimp only); (try simp only[ze7,zf1,zc5,ze9,ze6,zf2])<;>omega))) rfl) (.inl dC) ?_;rintro _ _ _ ⟨rfl,rfl⟩;refine pN<|bN<|tN<|rG<|lM I<|lU (sU I I oM)<|lA I<|SL.nil ?_;have N:((p++(A++x::B++T1)++q).set ((p.length:Int)+A.length).toNat y).set ((p.length:Int)+A.length - 1).toNat x=p++(A0++x::(y::B)++T1)++q:=by
       have D:p++(A++x::B++T1)++q=(p++A)++x::(B++T1++q):=by simp
       rw[D,dN lN];have n:(p++A)++y::(B++T1++q)=(p++A0)++y::(y::B++T1++q):=by rw[c]; simp
       rw[n,dN lN];simp
      exact ST.again (A0,y::B) ⟨I,I,I,I,I,bD lN,trivial⟩ I (by dsimp only; rw[← N]; rfl) ⟨by rw[t,c]; simp,by simpa using ⟨M,hB⟩⟩ lN
     ·refine xI (tX (tX (bX (bN ?_))));exact za9 (A,B) sB I I ⟨t,by
       intro z hz;rw[c] at hz t;rw[t] at f;have D:=(Srt.append_iff.1 (Srt.append_iff.1 f).1).2.2
       rcases zf5.1 hz with n | n
       ·exact Int.le_trans (D z n y<|by simp) oM
       ·simp at n; rw[n]; omega,hB⟩
   ·rintro ⟨A,B⟩ ⟨t,hA,hB⟩;dsimp only at t hA hB ⊢;refine rG<|lM I<|yD I<|lA I<|SL.nil ?_;have S:S1.length=A.length+B.length:=by rw[t]; simp
    rw[t] at f o;exact ST.again (x::cn,A++x::B,T1) ⟨I,I,I,I,bD lN,trivial⟩ I I ⟨by
      have D:=Srt.append_iff.1 f;refine Srt.append_iff.2 ⟨D.1,Srt.cons_iff.2 ⟨fun z hz=>Int.le_of_lt<|hB z hz,D.2.1⟩,fun z hz u O=>?_⟩
      rcases zf3.1 O with n | n
      ·rw[n]; exact hA z hz
      ·exact D.2.2 z hz u n,by
      refine o.trans ?_;have D:aI key (B++[x]) ([x]++B):=aI.swap (fun z hz u O=>by simp at O; subst O; have:=hB z hz; omega);have n:=aI.append (aI.append (aI.refl (key:=key) A) D) (aI.refl (key:=key) T1);simpa using n,.inl lN⟩ lN
  ·refine xI<|tX<|tX<|bX ?_;have Z:T1=[]:=by
    rcases H with h | ⟨h,X⟩
    ·exact zf6 oM
    ·subst h; simp at j; exact j.2
   subst Z;exact ST.ret0 (.inr I) (by exact results201) ⟨I,S1,by simpa using o,f,by simp⟩
theorem BD {α:Type}{key:α→Int}{V1 M1 M2 V2:List α}{x y:α}(a:Srt key (V1++(M1++y::M2)++V2))(b:∀ z∈V1,key z<key x)(c:key y<key x):∀ z∈V1++M1++[y],key z<key x:=by
 intro z hz;have d:=(Srt.append_iff.1 (Srt.append_iff.1 (Srt.append_iff.1 a).1).2.1).2.2;simp only[zf5,zh9] at hz
 rcases hz with (hz | hz) | hz
 ·exact b z hz
 ·have:=d z hz y (by simp); omega
 ·rw[hz]; exact c
theorem zq {α:Type}{key:α→Int}{V1 M1 M2 V2:List α}{x y:α}(a:Srt key (V1++(M1++y::M2)++V2))(b:∀ z∈V2,key x≤key z)(c:key x≤key y):∀ z∈(y::M2)++V2,key x≤key z:=by
 intro z hz;have d:=(Srt.append_iff.1 (Srt.append_iff.1 (Srt.append_iff.1 a).1).2.1).2.1;simp only[zf5,zf3] at hz
 rcases hz with (hz | hz) | hz
 ·rw[hz]; exact c
 ·have:=(Srt.cons_iff.1 d).1 z hz; omega
 ·exact b z hz
theorem pJ {α:Type}(M:List α)(h:M≠[]):∃ M1 y M2,M=M1++y::M2∧M1.length=M.length / 2:=by
 have hl:=List.length_pos_iff.2 h;have a:M.length / 2<M.length:=oM;exact⟨M.take<|M.length / 2,M[M.length / 2],M.drop<|M.length / 2+1,by simp,by rw[ze6]; omega⟩
set_option maxHeartbeats 1000000 in
theorem ER {α:Type}{k:Nat}{e:Enc α k}{T TS f1 f2 f3 f4 f5 f6 f7 f8 f9 f10:Nat}(w:SoI α k e T TS f1 f2 f3 f4 f5 f6 f7 f8 f9 f10)(E:World)(g:PH)(s:Own)(v cv:Value)(key:α→Int)(R:nr E cv e key g)(p V q:List α)(x:α)(l:Srt key V)(hn:(p++[x]++V++q).length<2305843009213693952)
  (a m b:Int) (ha:a=p.length) (hm:m=p.length+1) (hb:b=p.length+1+V.length) :
  Ctr Tryz.prog E f4 #[v,vi a,vi m,vi b,cv] g (rowA e T v (p++[x]++V++q)::s) (fun _ g' s'=>g=g'∧∃ W,aI key ([x]++V) W∧Srt key W∧s'=rowA e T v (p++W++q)::s):=by
 have uS:=w.uS;have zE:=w.zE;have aE:=w.aE;have w2:=w;cases w2
 all_goals
  refine Ctr.facts fun ⟨w0,r⟩=>?_;have j:based v=true:=by
   obtain ⟨b0,c0,H⟩:=bw (i:=0) r rfl lN;rw[H]; rfl
  have d:slen v=(p++[x]++V++q).length:=by
   obtain ⟨S,U,H⟩:=ag (i:=0) r rfl;rw[H]; rfl
  clear r w0;simp only[ze7,ze9] at hn d;have J:(p++[x]++V++q)[a.toNat]?=some x:=by
   have:p++[x]++V++q=p++x::(V++q):=by simp
   rw[this]; exact bM oM
  first | refine zb2 (args:=[v,vi a,vi m,vi b,cv]) func211 rfl ntmps211 (bE rfl) ?_ | refine zb2 (args:=[v,vi a,vi m,vi b,cv]) func270 rfl ntmps270 (bE rfl) ?_
  refine sQ<|sW I<|lM I<|lU (sU I I oM)<|yE I<|tZ<|iP I (fun C=>?_) (fun C=>?_)
  ·refine sW I<|aT I<|sW I<|aT I<|SC.cut (ι:=type_of% q×type_of% q) (fun i=>[(0,v),(1,vi a),(2,vi m),(3,vi b),(4,cv),(10,vi<|m+i.1.length)]) (fun _=>g) (fun _=>rowA w.en w.ty v (p++[x]++V++q)::s) (fun i=>V=i.1++i.2∧(∀ y∈i.1,key y<key x)∧(∀ y∈i.2,key x≤key y)) ?_ ?_
   ·refine bK<|oP (ι:=type_of% q×type_of% q×type_of% q) (fun i=>[(0,v),(1,vi a),(2,vi m),(3,vi b),(4,cv),(10,vi<|m+i.1.length),(11,vi<|m+i.1.length+i.2.1.length)]) (fun _=>g) (fun _=>rowA w.en w.ty v (p++[x]++V++q)::s) (fun i=>V=i.1++i.2.1++i.2.2∧(∀ y∈i.1,key y<key x)∧(∀ y∈i.2.2,key x≤key y)) (fun i=>i.2.1.length) ([],V,[]) ⟨I,I,I,I,I,bD lN,bD lN,trivial⟩ I I ⟨by simp,by simp,by simp⟩ ?_;rintro ⟨V1,M,V2⟩ ⟨h,c,f⟩;dsimp only at h c f ⊢;have K:V.length=V1.length+M.length+V2.length:=by rw[h]; (first | with_reducible rfl | ((try dsimp only); (try simp only[List.length_append,List.length_cons,List.length_nil,List.length_singleton,List.length_take,List.length_drop])<;>omega))
    refine sQ<|sW I<|lM I<|yL I<|tZ<|iP I (fun n=>?_) (fun n=>?_)
    ·obtain ⟨M1,y,M2,D,X⟩:=pJ M (by intro e; rw[e] at n; simp at n);have Y:M.length=M1.length+1+M2.length:=by rw[D]; simp; omega
     have L:(p++[x]++V++q)[((m+V1.length+(m+V1.length+M.length)) / 2).toNat]?=some y:=by
      have:p++[x]++V++q=(p++[x]++V1++M1)++y::(M2++V2++q):=by rw[h,D]; simp
      rw[this]; exact bM lN
     rw[D] at h;rw[h] at l;refine kP<|tN<|bK<|sW I<|lM I<|yD I<|lU (ze1 uT3 jN I)<|lU (SU.shr I I dC)<|lU (SU.eq (ze1 jN uT3 I)<|ze4 vi<|lz _ oM oM)<|aT I<|sQ<|dW [] [(0,2),(1,2),(2,2),(3,2),(4,1),(5,2),(6,2),(7,2),(8,1),(9,0),(10,2)] Tryz.mixed kR<|yM I<|yM I<|yM I<|pU I (iA uS zE I I j oM (by rw[d]; omega)) ?_;refine pK I (SQ.elemA aE zE I (Rd.rowA 0 I) L)<|yM I<|yM I<|pU I (iA uS zE I I j oM (by rw[d]; omega)) ?_;refine pK I (SQ.elemA aE zE I (Rd.rowA 0 I) J)<|SP.o I (SO.callV I I<|R _ _ _ _<|zb9 _) dC (.inr iR) ?_;rintro _ _ _ ⟨rfl,rfl,rfl⟩;refine pU I (lS I I)<|pN<|tN<|iP I (fun t=>?_) (fun t=>?_)
     ·exact rG<|lM I<|yD I<|lA I<|SL.nil<|bN<|ST.again (V1++M1++[y],M2,V2) ⟨I,I,I,I,I,bD lN,bD lN,trivial⟩ I I ⟨by rw[h]; simp,BD l c<|ff.1 t,f⟩ lN
     ·exact rG<|lM I<|lA I<|SL.nil<|bN<|ST.again (V1,M1,(y::M2)++V2) ⟨I,I,I,I,I,I,bD lN,trivial⟩ I I ⟨by rw[h]; simp,c,zq l f (by have:=mt ff.2 t; omega)⟩ lN
    ·refine xI<|tX<|tX<|bX ?_;have D:M=[]:=zf6 oM;subst D;exact za9 (V1,V2) sB I I ⟨by simpa using h,c,f⟩
   ·rintro ⟨V1,V2⟩ ⟨h,c,f⟩;dsimp only at h c f ⊢;have K:V.length=V1.length+V2.length:=by rw[h]; simp
    refine sQ<|sW I<|aT I<|bK<|oP (ι:=type_of% q×type_of% q) (fun i=>[(0,v),(1,vi a),(2,vi m),(3,vi b),(4,cv),(10,vi<|m+V1.length),(13,vi<|a+i.1.length)]) (fun _=>g) (fun i=>rowA w.en w.ty v (p++i.1++x::i.2++V2++q)::s) (fun i=>V1=i.1++i.2) (fun i=>i.2.length) ([],V1) ⟨I,I,I,I,I,I,bD lN,trivial⟩ I (by rw[h]; simp) (by simp) ?_;rintro ⟨A,B⟩ hA;dsimp only at hA ⊢;have F:V1.length=A.length+B.length:=by rw[hA]; simp
    refine sQ<|sW I<|lM I<|lU (sU I I oM)<|yL I<|tZ<|iP I (fun n=>?_) (fun n=>?_)
    ·cases B with
     | nil=>simp at F; omega
     | cons y B =>
     simp only[zf1] at F;have N:(p++A++x::(y::B)++V2++q)[(a+A.length).toNat]?=some x:=by
      have:p++A++x::(y::B)++V2++q=(p++A)++x::(y::B++V2++q):=by simp
      rw[this]; exact bM lN
     have O:(p++A++x::(y::B)++V2++q)[(a+A.length+1).toNat]?=some y:=by
      have:p++A++x::(y::B)++V2++q=(p++A++[x])++y::(B++V2++q):=by simp
      rw[this]; exact bM lN
     refine kP<|tN<|sQ<|bK<|dW [15,17] [(0,2),(1,2),(2,2),(3,2),(4,2),(5,2),(6,2),(7,2),(8,2),(9,1),(10,2),(11,2),(12,2),(13,1),(14,2),(15,0),(16,2),(17,0)] Tryz.mixed kR<|yM I<|yM I<|yM I<|yM I<|pU I (aD I I oM)<|yM I<|yM I<|pU I (aD I I oM)<|pU I (iA uS zE I I j oM (by rw[d]; omega)) ?_;refine pK I (SQ.elemA aE zE I (Rd.rowA 0 I) O)<|yM I<|yM I<|pU I (iA uS zE I I j oM (by rw[d]; omega)) ?_;refine pK I (SQ.elemA aE zE I (Rd.rowA 0 I) N)<|pU I (iA uS zE I I j oM (by rw[d]; omega)) ?_;refine SP.on I (SO.setA (a:=y) 0 zE I I I lN I) (.inl dC) ?_;rintro _ _ _ ⟨rfl,rfl⟩;refine pU I (iA uS zE I I j oM (by rw[d]; omega)) ?_;refine SP.on I (SO.setA (a:=x) 0 zE I I I (by rw[zi5]; (first | with_reducible rfl | ((try dsimp only); (try simp only[ze7,zf1,zc5,ze9,ze6,zf2])<;>omega))) rfl) (.inl dC) ?_;rintro _ _ _ ⟨rfl,rfl⟩;refine pN<|bN<|tN<|rG<|lM I<|yD I<|lA I<|SL.nil ?_;have G:((p++A++x::(y::B)++V2++q).set (a+A.length).toNat y).set (a+A.length+1).toNat x=p++(A++[y])++x::B++V2++q:=by
      have e1:p++A++x::(y::B)++V2++q=(p++A)++x::(y::B++V2++q):=by simp
      rw[e1,dN lN];have e2:(p++A)++y::(y::B++V2++q)=(p++A++[y])++y::(B++V2++q):=by simp
      rw[e2,dN lN];simp
     exact ST.again (A++[y],B) ⟨I,I,I,I,I,I,bD lN,trivial⟩ I (by dsimp only; rw[← G]; rfl) (by rw[hA]; simp) lN
    ·refine xI<|tX<|tX<|bX<|tN<|rE<|tR ?_;have hB:B=[]:=zf6 oM;subst hB;have P:A=V1:=by simpa using hA.symm
     subst P;exact ST.ret0 (.inl I) (by exact results211) ⟨I,A++x::V2,by
      rw[h];have C:=aI.append (aI.swap (key:=key) (a:=[x]) (b:=A) (fun z hz u Q=>by simp at hz; subst hz; have:=c u Q; omega))<|aI.refl (key:=key) V2;simpa using C,by
      rw[h] at l;obtain ⟨C,Z,h3⟩:=Srt.append_iff.1 l;exact Srt.append_iff.2 ⟨C,Srt.cons_iff.2 ⟨f,Z⟩,fun z hz u Q=>by
       rcases zf3.1 Q with e | e
       ·rw[e]; exact Int.le_of_lt<|c z hz
       ·exact h3 z hz u e⟩,by simp⟩
  ·omega
set_option maxHeartbeats 1000000 in
theorem Dc {α:Type}{k:Nat}{e:Enc α k}{T TS f1 f2 f3 f4 f5 f6 f7 f8 f9 f10:Nat}(w:SoI α k e T TS f1 f2 f3 f4 f5 f6 f7 f8 f9 f10)(E:World)(g:PH)(s:Own)(v cv:Value)(key:α→Int)(X:nr E cv e key g)(p U q:List α)(y:α)(t:Srt key U)(Y:1<U.length)(hn:(p++U++[y]++q).length<2305843009213693952)
  (a m b:Int) (ha:a=p.length) (hm:m=p.length+U.length) (hb:b=p.length+U.length+1) :
  Ctr Tryz.prog E f4 #[v,vi a,vi m,vi b,cv] g (rowA e T v (p++U++[y]++q)::s) (fun _ g' s'=>g=g'∧∃ W,aI key (U++[y]) W∧Srt key W∧s'=rowA e T v (p++W++q)::s):=by
 have uS:=w.uS;have zE:=w.zE;have aE:=w.aE;have w2:=w;cases w2
 all_goals
  refine Ctr.facts fun ⟨w0,x⟩=>?_;have r:based v=true:=by
   obtain ⟨b0,c0,K⟩:=bw (i:=0) x rfl lN;rw[K]; rfl
  have h:slen v=(p++U++[y]++q).length:=by
   obtain ⟨Z,a0,K⟩:=ag (i:=0) x rfl;rw[K]; rfl
  clear x w0;simp only[ze7,ze9] at hn h;have L:(p++U++[y]++q)[m.toNat]?=some y:=by
   have:p++U++[y]++q=(p++U)++y::q:=by simp
   rw[this]; exact bM lN
  first | refine zb2 (args:=[v,vi a,vi m,vi b,cv]) func211 rfl ntmps211 (bE rfl) ?_ | refine zb2 (args:=[v,vi a,vi m,vi b,cv]) func270 rfl ntmps270 (bE rfl) ?_
  refine sQ<|sW I<|lM I<|lU (sU I I oM)<|yE I<|tZ<|iP I (fun F=>?_) (fun F=>?_)
  ·omega
  ·refine kP<|tN<|sQ<|sW I<|lM I<|lU (sU I I oM)<|yE I<|tZ<|iP I (fun N=>?_) (fun N=>?_)
   ·refine sW I<|aT I<|sW I<|aT I<|SC.cut (ι:=type_of% q×type_of% q) (fun i=>[(0,v),(1,vi a),(2,vi m),(3,vi b),(4,cv),(14,vi<|a+i.1.length)]) (fun _=>g) (fun _=>rowA w.en w.ty v (p++U++[y]++q)::s) (fun i=>U=i.1++i.2∧(∀ z∈i.1,key z≤key y)∧(∀ z∈i.2,key y<key z)) ?_ ?_
    ·refine bK<|oP (ι:=type_of% q×type_of% q×type_of% q) (fun i=>[(0,v),(1,vi a),(2,vi m),(3,vi b),(4,cv),(14,vi<|a+i.1.length),(15,vi<|a+i.1.length+i.2.1.length)]) (fun _=>g) (fun _=>rowA w.en w.ty v (p++U++[y]++q)::s) (fun i=>U=i.1++i.2.1++i.2.2∧(∀ z∈i.1,key z≤key y)∧(∀ z∈i.2.2,key y<key z)) (fun i=>i.2.1.length) ([],U,[]) ⟨I,I,I,I,I,bD lN,bD lN,trivial⟩ I I ⟨by simp,by simp,by simp⟩ ?_;rintro ⟨U1,M,U2⟩ ⟨n,j,f⟩;dsimp only at n j f ⊢;have O:U.length=U1.length+M.length+U2.length:=by rw[n]; (first | with_reducible rfl | ((try dsimp only); (try simp only[List.length_append,List.length_cons,List.length_nil,List.length_singleton,List.length_take,List.length_drop])<;>omega))
     refine sQ<|sW I<|lM I<|yL I<|tZ<|iP I (fun l=>?_) (fun l=>?_)
     ·obtain ⟨M1,z,M2,G,a1⟩:=pJ M (by intro e; rw[e] at l; simp at l);have a2:M.length=M1.length+1+M2.length:=by rw[G]; simp; omega
      have P:(p++U++[y]++q)[((a+U1.length+(a+U1.length+M.length)) / 2).toNat]?=some z:=by
       have:p++U++[y]++q=(p++U1++M1)++z::(M2++U2++[y]++q):=by rw[n,G]; simp
       rw[this]; exact bM lN
      rw[G] at n;rw[n] at t;have H:=Srt.append_iff.1 (Srt.append_iff.1 (Srt.append_iff.1 t).1).2.1;refine kP<|tN<|bK<|sW I<|lM I<|yD I<|lU (ze1 uT3 jN I)<|lU (SU.shr I I dC)<|lU (SU.eq (ze1 jN uT3 I)<|ze4 vi<|lz _ oM oM)<|aT I<|sQ<|dW [] [(0,2),(1,2),(2,2),(3,2),(4,1),(5,2),(6,2),(7,2),(8,1),(9,0),(10,2),(11,2)] Tryz.mixed kR<|yM I<|yM I<|yM I<|pU I (iA uS zE I I r oM (by rw[h]; omega)) ?_;refine pK I (SQ.elemA aE zE I (Rd.rowA 0 I) L)<|yM I<|yM I<|pU I (iA uS zE I I r oM (by rw[h]; omega)) ?_;refine pK I (SQ.elemA aE zE I (Rd.rowA 0 I) P)<|SP.o I (SO.callV I I<|X _ _ _ _<|zb9 _) dC (.inr iR) ?_;rintro _ _ _ ⟨rfl,rfl,rfl⟩;refine pU I (lS I I)<|pU I (SU.notP I)<|pN<|tN<|iP I (fun C=>?_) (fun C=>?_)
      ·refine rG<|lM I<|yD I<|lA I<|SL.nil<|bN ?_;have D:key z≤key y:=by have:=mt ff.2 C; omega
       exact ST.again (U1++M1++[z],M2,U2) ⟨I,I,I,I,I,bD lN,bD lN,trivial⟩ I I ⟨by rw[n]; simp,by
        intro u c;simp only[zf5,zh9] at c
        rcases c with (c | c) | c
        ·exact j u c
        ·have:=H.2.2 u c z (by simp); omega
        ·rw[c]; exact D,f⟩ lN
      ·refine rG (lM I (lA I (SL.nil (bN ?_))));have D:key y<key z:=ff.1 (zh2 C);exact ST.again (U1,M1,(z::M2)++U2) ⟨I,I,I,I,I,I,bD lN,trivial⟩ I I ⟨by rw[n]; simp,j,by
        intro u c;simp only[zf5,zf3] at c
        rcases c with (c | c) | c
        ·rw[c]; exact D
        ·have:=(Srt.cons_iff.1 H.2.1).1 u c; omega
        ·exact f u c⟩ lN
     ·refine xI<|tX<|tX<|bX ?_;have G:M=[]:=zf6 oM;subst G;exact za9 (U1,U2) sB I I ⟨by simpa using n,j,f⟩
    ·rintro ⟨U1,U2⟩ ⟨n,j,f⟩;dsimp only at n j f ⊢;have O:U.length=U1.length+U2.length:=by rw[n]; simp
     refine sQ<|sW I<|aT I<|bK<|oP (ι:=type_of% q×type_of% q) (fun i=>[(0,v),(1,vi a),(2,vi m),(3,vi b),(4,cv),(14,vi<|a+U1.length),(17,vi<|a+U1.length+i.1.length)]) (fun _=>g) (fun i=>rowA w.en w.ty v (p++U1++i.1++y::i.2++q)::s) (fun i=>U2=i.1++i.2) (fun i=>i.1.length) (U2,[]) ⟨I,I,I,I,I,I,bD lN,trivial⟩ I (by rw[n]; simp) (by simp) ?_;rintro ⟨A,B⟩ hA;dsimp only at hA ⊢;have a3:U2.length=A.length+B.length:=by rw[hA]; simp
     refine sQ<|sW I<|lM I<|lU (gR I I)<|tZ<|iP I (fun l=>?_) (fun l=>?_)
     ·rcases List.eq_nil_or_concat A with d | ⟨A0,z,d⟩
      ·rw[d] at l; simp at l
      rw[List.concat_eq_append] at d;have V:A.length=A0.length+1:=by rw[d]; simp
      have Q:(p++U1++A++y::B++q)[(a+U1.length+A.length).toNat]?=some y:=by
       have:p++U1++A++y::B++q=(p++U1++A)++y::(B++q):=by simp
       rw[this]; exact bM lN
      have R:(p++U1++A++y::B++q)[(a+U1.length+A.length - 1).toNat]?=some z:=by
       have:p++U1++A++y::B++q=(p++U1++A0)++z::(y::B++q):=by rw[d]; simp
       rw[this]; exact bM lN
      refine kP<|tN<|sQ<|bK<|dW [15,17] [(0,2),(1,2),(2,2),(3,2),(4,2),(5,2),(6,2),(7,2),(8,2),(9,1),(10,2),(11,2),(12,2),(13,1),(14,2),(15,0),(16,2),(17,0)] Tryz.mixed kR<|yM I<|yM I<|yM I<|yM I<|pU I (sU I I oM)<|yM I<|yM I<|pU I (sU I I oM)<|pU I (iA uS zE I I r oM (by rw[h]; omega)) ?_;refine pK I (SQ.elemA aE zE I (Rd.rowA 0 I) R)<|yM I<|yM I<|pU I (iA uS zE I I r oM (by rw[h]; omega)) ?_;refine pK I (SQ.elemA aE zE I (Rd.rowA 0 I) Q)<|pU I (iA uS zE I I r oM (by rw[h]; omega)) ?_;refine SP.on I (SO.setA (a:=z) 0 zE I I I lN I) (.inl dC) ?_;rintro _ _ _ ⟨rfl,rfl⟩;refine pU I (iA uS zE I I r oM (by rw[h]; omega)) ?_;refine SP.on I (SO.setA (a:=y) 0 zE I I I (by rw[zi5]; (first | with_reducible rfl | ((try dsimp only); (try simp only[ze7,zf1,zc5,ze9,ze6,zf2])<;>omega))) rfl) (.inl dC) ?_;rintro _ _ _ ⟨rfl,rfl⟩;refine pN<|bN<|tN<|rG<|lM I<|lU (sU I I oM)<|lA I<|SL.nil ?_;have J:((p++U1++A++y::B++q).set (a+U1.length+A.length).toNat z).set (a+U1.length+A.length - 1).toNat y=p++U1++A0++y::(z::B)++q:=by
       have e1:p++U1++A++y::B++q=(p++U1++A)++y::(B++q):=by simp
       rw[e1,dN lN];have e2:(p++U1++A)++z::(B++q)=(p++U1++A0)++z::(z::B++q):=by rw[d]; simp
       rw[e2,dN lN];simp
      exact ST.again (A0,z::B) ⟨I,I,I,I,I,I,bD lN,trivial⟩ I (by dsimp only; rw[← J]; rfl) (by rw[hA,d]; simp) lN
     ·refine xI<|tX<|tX<|bX<|tN<|rE<|tR ?_;have d:A=[]:=zf6 oM;subst d;have S:B=U2:=by simpa using hA.symm
      subst S;exact ST.ret0 (.inl I) (by exact results211) ⟨I,U1++y::B,by
       rw[n];have F:=aI.append (aI.refl (key:=key) U1)<|aI.swap (key:=key) (a:=B) (b:=[y]) (fun z hz u c=>by simp at c; subst c; have:=f z hz; omega);simpa using F,by
       rw[n] at t;obtain ⟨F,N,h3⟩:=Srt.append_iff.1 t;exact Srt.append_iff.2 ⟨F,Srt.cons_iff.2 ⟨fun z hz=>Int.le_of_lt (f z hz),N⟩,fun z hz u c=>by
        rcases zf3.1 c with e | e
        ·rw[e]; exact j z hz
        ·exact h3 z hz u e⟩,by simp⟩
   ·omega
def PTG {α:Type}(key:α→Int)(U V:List α)(i j:Int):Prop:=∃ x y,U[i.toNat]?=some x∧V[j.toNat]?=some y∧key y<key x
def PFG {α:Type}(key:α→Int)(U V:List α)(i j:Int):Prop:=∃ x y,U[i.toNat]?=some x∧V[j.toNat]?=some y∧key x≤key y
theorem nH {α:Type}{key:α→Int}{l:List α}(b:Srt key l){i j:Nat}{x y:α}(c:l[i]?=some x)(d:l[j]?=some y)(h:i≤j):key x≤key y:=by
 obtain ⟨e,rfl⟩:=zf7.1 c;obtain ⟨f,rfl⟩:=zf7.1 d
 rcases Nat.lt_or_eq_of_le h with a | a
 ·exact zd1.1 b i j e f a
 ·subst a; exact Int.le_refl _
theorem EQ {α:Type}{key:α→Int}{U V:List α}(c:Srt key U)(d:Srt key V){i j:Nat}(h:PTG key U V i (j - 1))(l:0<j):∀ x∈U.drop i,∀ y∈V.take j,key y<key x:=by
 obtain ⟨x0,y0,e,f,m⟩:=h;intro x g y k;obtain ⟨k1,b⟩:=List.mem_iff_getElem?.1 g;obtain ⟨k2,a⟩:=List.mem_iff_getElem?.1 k;rw[zi4] at b;rw[zi3] at a;split at a
 ·have e1:=nH c e b oM;have e2:=nH d a f oM;omega
 ·cases a
theorem EP {α:Type}{key:α→Int}{U V:List α}(c:Srt key U)(d:Srt key V){i j:Nat}(h:PFG key U V (i - 1) j)(l:0<i):∀ x∈U.take i,∀ y∈V.drop j,key x≤key y:=by
 obtain ⟨x0,y0,e,f,m⟩:=h;intro x g y k;obtain ⟨k1,a⟩:=List.mem_iff_getElem?.1 g;obtain ⟨k2,b⟩:=List.mem_iff_getElem?.1 k;rw[zi4] at b;rw[zi3] at a;split at a
 ·have e1:=nH c a e oM;have e2:=nH d f b oM;omega
 ·cases a
set_option maxHeartbeats 1000000 in
theorem tW {α:Type}{k:Nat}{e:Enc α k}{T TS f1 f2 f3 f4 f5 f6 f7 f8 f9 f10:Nat}(w:SoI α k e T TS f1 f2 f3 f4 f5 f6 f7 f8 f9 f10)(E:World)(g:PH)(v cv:Value)(key:α→Int)(hc:nr E cv e key g):∀ (n:Nat) (s:Own) (p U V q:List α) (_:U.length+V.length=n) (t:Srt key U) (u:Srt key V) (b1:0<U.length) (b2:0<V.length) (hn:(p++U++V++q).length<2305843009213693952)
  (a m b:Int) (ha:a=p.length) (hm:m=p.length+U.length) (hb:b=p.length+U.length+V.length),
  Ctr Tryz.prog E f4 #[v,vi a,vi m,vi b,cv] g (rowA e T v (p++U++V++q)::s) (fun _ g' s'=>g=g'∧∃ W,aI key (U++V) W∧Srt key W∧s'=rowA e T v (p++W++q)::s):=by
 have uS:=w.uS;have zE:=w.zE;have aE:=w.aE;have kf2:=w.kf2;have kf4:=w.kf4;have w2:=w;cases w2
 all_goals
  intro n;induction n using Nat.strongRecOn with
  | _ n ih =>
  intro s p U V q d4 t u b1 b2 hn a m b ha hm hb;by_cases b3:U.length=1
  ·obtain ⟨x,rfl⟩:=List.length_eq_one_iff.1 b3;exact ER w E g s v cv key hc p V q x u hn a m b ha hm hb
  by_cases b4:V.length=1
  ·obtain ⟨y,rfl⟩:=List.length_eq_one_iff.1 b4;exact Dc w E g s v cv key hc p U q y t oM hn a m b ha hm hb
  refine Ctr.facts fun ⟨w0,N⟩=>?_;have Z:based v=true:=by
   obtain ⟨b0,c0,O⟩:=bw (i:=0) N rfl lN;rw[O]; rfl
  have P:slen v=(p++U++V++q).length:=by
   obtain ⟨d5,d6,O⟩:=ag (i:=0) N rfl;rw[O]; rfl
  clear N w0;simp only[ze7] at hn P;have b5:∀ (c:Int) (x:_),0≤c→U[c.toNat]?=some x→(p++U++V++q)[(a+c).toNat]?=some x:=fun c x h0 d=>by
   have Q:=(zf7.1 d).1;rw[zh1,zh1,zh5 oM,zh4 oM,show (a+c).toNat - p.length=c.toNat by omega];exact d
  have b6:∀ (c:Int) (x:_),0≤c→V[c.toNat]?=some x→(p++U++V++q)[(m+c).toNat]?=some x:=fun c x h0 d=>by
   have Q:=(zf7.1 d).1;rw[zh4 lN,zh5 lN,show (m+c).toNat - (p++U).length=c.toNat by exact lN];exact d
  first | refine zb2 (args:=[v,vi a,vi m,vi b,cv]) func211 rfl ntmps211 (bE rfl) ?_ | refine zb2 (args:=[v,vi a,vi m,vi b,cv]) func270 rfl ntmps270 (bE rfl) ?_
  refine sQ<|sW I<|lM I<|lU (sU I I oM)<|yE I<|tZ<|iP I (fun h1=>?_) (fun h1=>?_)
  ·omega
  refine kP<|tN<|sQ<|sW I<|lM I<|lU (sU I I oM)<|yE I<|tZ<|iP I (fun h2=>?_) (fun h2=>?_)
  ·omega
  refine kP<|tN<|sW I<|lM I<|yD I<|lU (ze1 uT3 jN I)<|lU (SU.shr I I dC)<|lU (SU.eq (ze1 jN uT3 I)<|ze4 vi<|lz _ oM oM)<|aT I<|sW I<|lM I<|yD I<|aT I<|rZ<|lA I<|aT I ?_;generalize d2:(a+b) / 2=mid;refine SC.cut (ι:=Int×Int) (fun i=>[(0,v),(1,vi a),(2,vi m),(3,vi b),(4,cv),(18,vi mid),(19,vi<|mid+m),(20,vi i.1),(21,vi i.2)]) (fun _=>g) (fun _=>rowA w.en w.ty v (p++U++V++q)::s) (fun i=>(mid<m→i.1=mid+m - b∧i.2=mid)∧(¬ mid<m→i.1=a∧i.2=m)) ?_ ?_
  ·refine sW I<|lM I<|lU (gR I I)<|tZ<|iP I (fun J=>?_) (fun J=>?_)
   ·exact sW I<|lM I<|lU (sU I I oM)<|aT I<|rG<|lM I<|lA I<|SL.nil<|za9 (mid+m - b,mid) sB I I ⟨fun _=>⟨I,I⟩,fun h=>absurd J h⟩
   ·exact sW I<|aT I<|rG<|lM I<|lA I<|SL.nil<|za9 (a,m) sB I I ⟨fun h=>absurd h J,fun _=>⟨I,I⟩⟩
  rintro ⟨f,r0⟩ ⟨K,L⟩;dsimp only at K L ⊢;have d7:a≤f∧f≤r0∧r0≤m∧r0≤mid∧mid - f≤V.length:=by
   by_cases h:mid<m
   ·have:=K h; omega
   ·have:=L h; omega
  refine sW I<|lU (sU I I oM)<|aT I<|SC.cut (ι:=Int) (fun i=>[(0,v),(1,vi a),(2,vi m),(3,vi b),(4,cv),(18,vi mid),(19,vi<|mid+m),(20,vi i)]) (fun _=>g) (fun _=>rowA w.en w.ty v (p++U++V++q)::s) (fun i=>f≤i∧i≤r0∧(i=f∨PFG key U V (i - 1 - a) (mid - i))∧(i=r0∨PTG key U V (i - a) (mid - 1 - i))) ?_ ?_
  ·refine bK<|oP (ι:=Int×Int) (fun i=>[(0,v),(1,vi a),(2,vi m),(3,vi b),(4,cv),(18,vi mid),(19,vi<|mid+m),(20,vi i.1),(21,vi i.2),(22,vi<|mid+m - 1)]) (fun _=>g) (fun _=>rowA w.en w.ty v (p++U++V++q)::s) (fun i=>f≤i.1∧i.1≤i.2∧i.2≤r0∧(i.1=f∨PFG key U V (i.1 - 1 - a) (mid - i.1))∧(i.2=r0∨PTG key U V (i.2 - a) (mid - 1 - i.2))) (fun i=>(i.2 - i.1).toNat) (f,r0) sB I I ⟨lN,lN,lN,.inl I,.inl I⟩ ?_;rintro ⟨st,r⟩ ⟨R,a0,a1,z,A⟩;dsimp only at R a0 a1 z A ⊢;refine sQ<|sW I<|lM I<|yL I<|tZ<|iP I (fun Q=>?_) (fun Q=>?_)
   ·obtain ⟨x,d⟩:∃ x,U[((st+r) / 2 - a).toNat]?=some x:=⟨_,List.getElem?_eq_getElem oM⟩;obtain ⟨y,l⟩:∃ y,V[(mid - 1 - (st+r) / 2).toNat]?=some y:=⟨_,List.getElem?_eq_getElem oM⟩;have a2:=b5 _ x oM d;have a3:=b6 _ y oM l;rw[show a+((st+r) / 2 - a)=(st+r) / 2 by omega] at a2;rw[show m+(mid - 1 - (st+r) / 2)=mid+m - 1 - (st+r) / 2 by omega] at a3;refine kP<|tN<|bK<|sW I<|lM I<|yD I<|lU (ze1 uT3 jN I)<|lU (SU.shr I I dC)<|lU (SU.eq (ze1 jN uT3 I)<|ze4 vi<|lz _ oM oM)<|aT I<|sQ ?_;refine dW [] [(0,2),(1,2),(2,2),(3,2),(4,2),(5,2),(6,1),(7,2),(8,2),(9,2),(10,1),(11,0),(12,2),(13,2)] Tryz.mixed kR ?_;refine yM I<|yM I<|yM I<|yM I<|pU I (sU I I oM)<|pU I (iA uS zE I I Z oM (by rw[P]; omega)) ?_;refine pK I (SQ.elemA aE zE I (Rd.rowA 0 I) a3)<|yM I<|yM I<|pU I (iA uS zE I I Z oM (by rw[P]; omega)) ?_;refine pK I (SQ.elemA aE zE I (Rd.rowA 0 I) a2)<|SP.o I (SO.callV I I<|hc _ _ _ _<|zb9 _) dC (.inr iR) ?_;rintro _ _ _ ⟨rfl,rfl,rfl⟩;refine pU I (lS I I)<|pU I (SU.notP I)<|pN<|tN ?_;refine iP I (fun S=>?_) (fun S=>?_)
    ·refine rG (lM I (yD I (lA I (SL.nil (bN ?_)))));exact ST.again ((st+r) / 2+1,r) sB I I ⟨lN,lN,lN,.inr ⟨x,y,by
      rw[show (st+r) / 2+1 - 1 - a=(st+r) / 2 - a by omega]; exact d,by
      rw[show mid - ((st+r) / 2+1)=mid - 1 - (st+r) / 2 by omega]; exact l,by have:=mt ff.2 S; omega⟩,A⟩ lN
    ·exact rG<|lM I<|lA I<|SL.nil<|bN<|ST.again (st,(st+r) / 2) sB I I ⟨lN,lN,lN,z,.inr ⟨x,y,d,l,ff.1<|zh2 S⟩⟩ lN
   ·refine xI<|tX<|tX<|bX ?_;have b7:st=r:=oM;subst b7;exact za9 st sB I I ⟨R,a1,z,A⟩
  rintro st ⟨R,a0,z,A⟩;try dsimp only
  -- the four pieces
  obtain ⟨i,hi⟩:∃ i:Nat,st=a+i:=⟨(st - a).toNat,oM⟩;obtain ⟨j,hj⟩:∃ j:Nat,mid=st+j:=⟨(mid - st).toNat,oM⟩;have H1:∀ x∈U.drop i,∀ y∈V.take j,key y<key x:=by
   rcases A with h | h
   ·intro x d y l;have e1:=List.length_pos_of_mem d;have e2:=List.length_pos_of_mem l;simp only[zf2,ze6] at e1 e2;exfalso;by_cases hh:mid<m
    ·have:=K hh; omega
    ·have:=L hh; omega
   ·by_cases b8:0<j
    ·refine EQ t u ?_ b8;rw[show st - a=(i:Int) by omega,show mid - 1 - st=(j:Int) - 1 by omega] at h;exact h
    ·intro x d y l;have e2:=List.length_pos_of_mem l;simp only[ze6] at e2;omega
  have H2:∀ x∈U.take i,∀ y∈V.drop j,key x≤key y:=by
   rcases z with h | h
   ·intro x d y l;have e1:=List.length_pos_of_mem d;have e2:=List.length_pos_of_mem l;simp only[zf2,ze6] at e1 e2;exfalso;by_cases hh:mid<m
    ·have:=K hh; omega
    ·have:=L hh; omega
   ·by_cases b9:0<i
    ·refine EP t u ?_ b9;rw[show st - 1 - a=(i:Int) - 1 by omega,show mid - st=(j:Int) by omega] at h;exact h
    ·intro x d y l;have e2:=List.length_pos_of_mem d;simp only[ze6] at e2;omega
  have d8:i≤U.length:=oM;have d9:j≤V.length:=oM;have a4:U=U.take i++U.drop i:=(zj4 i U).symm;have a5:V=V.take j++V.drop j:=(zj4 j V).symm;have l1:(U.take i).length=i:=lN;have l2:(U.drop i).length=U.length - i:=lN;have l3:(V.take j).length=j:=lN;have l4:(V.drop j).length=V.length - j:=lN;have B:=t;have C:=u;rw[a4] at B;rw[a5] at C;obtain ⟨c1,c2,c3⟩:=Srt.append_iff.1 B;obtain ⟨c5,c6,c7⟩:=Srt.append_iff.1 C;have a9:p++U++V++q=p++U.take i++U.drop i++V.take j++V.drop j++q:=by
   conv=>lhs; rw[a4,a5]
   simp
  have c9:aI key (U++V) ((U.take i++V.take j)++(U.drop i++V.drop j)):=by
   have e:U++V=(U.take i++(U.drop i++V.take j))++V.drop j:=by
    rw[← zh1 (U.take i),zj4,zh1,zj4]
   rw[e];have h:=aI.append (aI.append (aI.refl (key:=key)<|U.take i)<|aI.swap (key:=key) (a:=U.drop i) (b:=V.take j) (fun x d y l=>by have:=H1 x d y l; omega))<|aI.refl (key:=key)<|V.drop j;simpa using h
  clear B C;generalize U.take i=U1 at *;generalize U.drop i=U2 at *;generalize V.take j=V1 at *;generalize V.drop j=V2 at *;rw[a9];refine sW I<|lM I<|lU (sU I I oM)<|aT I<|SC.cut (ι:=Unit) (fun _=>[(0,v),(1,vi a),(2,vi m),(3,vi b),(4,cv),(18,vi mid),(20,vi st),(24,vi<|mid+m - st)]) (fun _=>g) (fun _=>rowA w.en w.ty v (p++U1++V1++(U2++V2++q))::s) (fun _=>True) ?_ ?_
  ·refine SC.cutB 185 (decide (st<m∧m<mid+m - st)) ?_ ?_
   ·refine rG<|lM I<|lM I<|yL I<|lM I<|sP ?_ ?_
    ·intro D;exact yC I<|yC I<|lY I I I (lS I I)<|yP I<|SL.nil<|zb1 (by simp[aN,D]) mI
    ·intro D;exact yA I<|yA I<|yA I<|yF I<|SL.nil<|zb1 (by simp[aN,D]) mI
   refine iP I (fun J=>?_) (fun J=>?_)
   ·have e1:p++U1++U2++V1++V2++q=p++U1++U2++V1++(V2++q):=by simp
    rw[e1];refine rG<|lM I<|lM I<|lM I<|lM I<|lM I<|lW (SO.call kf2 I<|Fa w E g s v cv (p++U1) U2 V1 (V2++q) oM oM lN _ _ _ lN lN lN) ?_;rintro _ _ _ ⟨rfl,rfl⟩;exact SL.nil<|za9 () sB I (by simp) trivial
   ·exact kP<|za9 () sB I (by
     have:U2=[]∨V1=[]:=by
      by_cases h:st<m
      ·right; exact zf6 oM
      ·left; exact zf6 oM
     rcases this with h | h <;> simp[h]) trivial
  rintro ⟨⟩ -;try dsimp only
  refine SC.cut (ι:=type_of% q) (fun _=>[(0,v),(1,vi a),(2,vi m),(3,vi b),(4,cv),(18,vi mid),(20,vi st),(24,vi<|mid+m - st)]) (fun _=>g) (fun W1=>rowA w.en w.ty v (p++W1++U2++V2++q)::s) (fun W1=>aI key (U1++V1) W1∧Srt key W1) ?_ ?_
  ·refine SC.cutB 199 (decide (a<st∧st<mid)) ?_ ?_
   ·refine rG<|lM I<|lM I<|yL I<|lM I<|sP ?_ ?_
    ·intro F;exact yC I<|yC I<|lY I I I (lS I I)<|yP I<|SL.nil<|zb1 (by simp[aN,F]) mI
    ·intro F;exact yA I<|yA I<|yA I<|yF I<|SL.nil<|zb1 (by simp[aN,F]) mI
   refine iP I (fun J=>?_) (fun J=>?_)
   ·refine rG<|lM I<|lM I<|lM I<|lM I<|lM I<|lW (SO.call kf4 I<|ih (U1.length+V1.length) oM s p U1 V1 (U2++V2++q) I c1 c5 oM oM lN _ _ _ lN lN lN) ?_;rintro _ _ _ ⟨rfl,W1,G,X,rfl⟩;exact SL.nil<|za9 W1 sB I (by simp) ⟨G,X⟩
   ·refine kP ?_;have O:U1=[]∨V1=[]:=by
     by_cases h:a<st
     ·right; exact zf6 oM
     ·left; exact zf6 oM
    exact za9 (U1++V1) sB rfl (by simp) ⟨aI.refl _,by rcases O with h | h <;> simpa [h]⟩
  rintro W1 ⟨G,X⟩;try dsimp only
  have d3:W1.length=U1.length+V1.length:=by have:=G.1; simpa using this
  have M:∀ W2,aI key (U2++V2) W2→Srt key W2→aI key (U++V) (W1++W2)∧Srt key (W1++W2):=fun W2 Y h6=>by
   refine⟨c9.trans<|G.append Y,Srt.append_iff.2 ⟨X,h6,fun x d y l=>?_⟩⟩;have e1:=G.mem d;have e2:=Y.mem l
   rcases zf5.1 e1 with e1 | e1 <;> rcases zf5.1 e2 with e2 | e2
   ·exact c3 x e1 y e2
   ·exact H2 x e1 y e2
   ·exact Int.le_of_lt<|H1 y e2 x e1
   ·exact c7 x e1 y e2
  refine SC.cutB 213 (decide (mid<mid+m - st∧mid+m - st<b)) ?_ ?_
  ·refine rG<|lM I<|lM I<|yL I<|lM I<|sP ?_ ?_
   ·intro H;exact yC I<|yC I<|lY I I I (lS I I)<|yP I<|SL.nil<|zb1 (by simp[aN,H]) mI
   ·intro H;exact yA I<|yA I<|yA I<|yF I<|SL.nil<|zb1 (by simp[aN,H]) mI
  refine iP I (fun J=>?_) (fun J=>?_)
  ·refine rG<|lM I<|lM I<|lM I<|lM I<|lM I<|lW (SO.call kf4 I<|ih (U2.length+V2.length) oM s (p++W1) U2 V2 q I c2 c6 oM oM lN _ _ _ lN lN lN) ?_;rintro _ _ _ ⟨rfl,W2,d0,d1,rfl⟩;refine SL.nil ?_;obtain ⟨Y,h6⟩:=M W2 d0 d1;exact ST.ret0 (.inr I) (by exact results211) ⟨I,W1++W2,Y,h6,by simp⟩
  ·refine kP ?_;have O:U2=[]∨V2=[]:=by
    by_cases h:mid<mid+m - st
    ·right; exact zf6 oM
    ·left; exact zf6 oM
   obtain ⟨Y,h6⟩:=M (U2++V2) (aI.refl _) (by rcases O with h | h <;> simpa [h]);exact ST.ret0 (.inr I) (by exact results211) ⟨I,W1++(U2++V2),Y,h6,by simp⟩
theorem za4:type_of% @SlA.form:=@SlA.form
theorem za5:type_of% @SlA.mono:=@SlA.mono
theorem za6:type_of% @SlA.based:=@SlA.based
theorem za7:type_of% @SlA.rd:=@SlA.rd
theorem zb7:type_of% @Rd.rowA:=@Rd.rowA
theorem ze5:type_of% @Tryz.mixed:=@Tryz.mixed
theorem zl3:type_of% @Tryz.zeroValue105:=@Tryz.zeroValue105
theorem zl4:type_of% @Tryz.zeroValue35:=@Tryz.zeroValue35
theorem zl5:type_of% @Tryz.zeroValue4:=@Tryz.zeroValue4
theorem zl6:type_of% @Tryz.zeroValue0:=@Tryz.zeroValue0
theorem zl7:type_of% @Tryz.zeroValue56:=@Tryz.zeroValue56
theorem zl8:type_of% @Tryz.zeroValue33:=@Tryz.zeroValue33
theorem zl9:type_of% @Tryz.zeroValue29:=@Tryz.zeroValue29
theorem zm1:type_of% @Tryz.zeroValue75:=@Tryz.zeroValue75
theorem zm2:type_of% @Tryz.zeroValue126:=@Tryz.zeroValue126
theorem zm3:type_of% @Tryz.zeroValue42:=@Tryz.zeroValue42
theorem zm4:type_of% @Tryz.zeroValue3:=@Tryz.zeroValue3
end Go.Proofs.YtbbppeihhkhkcaaGreatDoor
