/- 2 -/
import Derived.Test.YtpmoadbbfobbcaaGreatDoorMe01
import Derived.Test.YtpmoadbbfobbcaaGreatDoorProg
import Derived.KernelRfl
import Derived.MapKept
set_option linter.unusedSimpArgs false
set_option linter.unusedVariables false
set_option linter.defProp false
namespace Go.Sy
open Go
variable {v u:Value}{T:TypeId}{k j i b n:Nat}{x:Operand}{P:Program}{E:World}{g:PH}{s:Own}{e:Exit}{o:Obj}{xs:List Value}
section
variable {N:Nat}{ops:Array Oper}{Q:Exit→Act→World→Prop}{f:Fr}{g':PH}
theorem ST.less (hl:Le g' g)(h:ST N E Q e f g' s):ST N E Q e f g s:=fun a w b c=>h a w b<|c.less hl
theorem SC.freeze {c:Code}(h:∀ g',Le g g'→g' b=some o→SC P N E c Q f g' s):SC P N E c Q f g<|pt b o::s:=fun a w i d=>by
 have e:=d.own (pt b o) dO;simp only[pt,Option.bind_some] at e;obtain ⟨j,k⟩:=d.freeze (b:=b) rfl e;exact h _ k (fw _ _ _) a w i j
theorem SL.freeze {l:List Oper}(h:∀ g',Le g g'→g' b=some o→SL P N E ops Q l f g' s):SL P N E ops Q l f g<|pt b o::s:=fun a w e c=>by
 have d:=c.own (pt b o) dO;simp only[pt,Option.bind_some] at d;obtain ⟨i,j⟩:=c.freeze (b:=b) rfl d;exact h _ j (fw _ _ _) a w e i
theorem ST.freeze (h:∀ g',Le g g'→g' b=some o→ST N E Q e f g' s):ST N E Q e f g<|pt b o::s:=fun a w i c=>by
 have d:=c.own (pt b o) dO;simp only[pt,Option.bind_some] at d;obtain ⟨j,k⟩:=c.freeze (b:=b) rfl d;exact h _ k (fw _ _ _) a w i j
theorem SC.freezeRow {c:Code}(h:∀ g',Le g g'→Sl g' k v n xs→SC P N E c Q f g' s):SC P N E c Q f g<|row T k v n xs::s:=fun a w b d=>by
 obtain ⟨g',e,i,j⟩:=d.freezeRow;exact h g' e j a w b i
theorem SL.freezeRow {l:List Oper}(h:∀ g',Le g g'→Sl g' k v n xs→SL P N E ops Q l f g' s):SL P N E ops Q l f g<|row T k v n xs::s:=fun a w b c=>by
 obtain ⟨g',d,e,i⟩:=c.freezeRow;exact h g' d i a w b e
theorem ST.freezeRow (h:∀ g',Le g g'→Sl g' k v n xs→ST N E Q e f g' s):ST N E Q e f g<|row T k v n xs::s:=fun a w b c=>by
 obtain ⟨g',d,i,j⟩:=c.freezeRow;exact h g' d j a w b i
end
theorem Ctr.facts {n:FuncId}{args:Array Value}{R:Value→PH→Own→Prop}(h:(∃ w,At E g s w)→Ctr P E n args g s R):Ctr P E n args g s R:=fun w a=>h ⟨w,a⟩ w a
structure Enc (α:Type)(k:Nat) where
 enc:α→List Value
 len:∀ a,(enc a).length=k
 one:∀ a,∀ u∈enc a,u.oneCell'=true
 pos:0<k
section
variable {α:Type}(e:Enc α k)
theorem Enc.length (l:List α):(l.flatMap e.enc).length=l.length * k:=by
 induction l with
 | nil=>simp
 | cons a r ih=>simp[ih,e.len,Nat.succ_mul];omega
theorem Enc.get {l:List α}{a:α}(b:l[i]?=some a)(c:(e.enc a)[j]?=some v):(l.flatMap e.enc)[i * k+j]?=some v:=by
 induction l generalizing i with
 | nil=>simp at b
 | cons x r ih =>
  have d:j<k:=by rw[← e.len a];exact (zf6.1 c).1
  simp only[zh6];cases i with
  | zero =>
   simp only[List.getElem?_cons_zero,zg8] at b;subst b;rw[zh3<|by rw[e.len];omega];simpa using c
  | succ i =>
   simp only[List.getElem?_cons_succ] at b;rw[zh4<|by rw[e.len,Nat.succ_mul];omega,e.len,show (i+1) * k+j - k=i * k+j by rw[Nat.succ_mul];omega];exact ih b
theorem Enc.ones (l:List α):∀ u∈l.flatMap e.enc,u.oneCell'=true:=by
 intro u b;obtain ⟨a,_,h⟩:=List.mem_flatMap.1 b;exact e.one a u h
theorem Enc.set {l:List α}{a:α}(b:i<l.length):(l.flatMap e.enc).take (i * k)++e.enc a++(l.flatMap e.enc).drop (i * k+k)=(l.set i a).flatMap e.enc:=by
 induction l generalizing i with
 | nil=>simp at b
 | cons x r ih =>
  cases i with
  | zero =>
   simp only[Nat.zero_mul,List.take_zero,Ix,Nat.zero_add,zh6,List.set_cons_zero];rw[List.drop_append_of_le_length<|by rw[e.len];omega,List.drop_of_length_le<|by rw[e.len];omega];simp
  | succ i =>
   simp only[zh6,List.set_cons_succ];rw[← ih (by simpa using b)];rw[List.take_append,List.drop_append,e.len,tL<|by rw[e.len,Nat.succ_mul];omega,List.drop_of_length_le<|by rw[e.len,Nat.succ_mul];omega];rw[show (i+1) * k - k=i * k by rw[Nat.succ_mul];omega,show (i+1) * k+k - k=i * k+k by rw[Nat.succ_mul];omega];simp
theorem qj {β:Type}(L ys:List β)(o m:Nat)(b:o≤L.length)(hm:o+ys.length≤m):(L.take o++ys++L.drop (o+ys.length)).take m=(L.take m).take o++ys++(L.take m).drop (o+ys.length):=by
 have a:(L.take o++ys).length=o+ys.length:=by simp[Nat.min_eq_left b]
 rw[List.take_append,a,tL oM,List.drop_take,List.take_take,Nat.min_eq_left oM]
def rowA (T:TypeId)(v:Value)(l:List α):Ent:=row T k v l.length<|l.flatMap e.enc
def SlA (g:PH)(v:Value)(l:List α):Prop:=Sl g k v l.length<|l.flatMap e.enc
end
section
variable {α:Type}{e:Enc α k}{N:Nat}{ops:Array Oper}{f:Fr}{dst:Option Tmp}{ty:TypeId}{pos:String}{af:Array Edge}{gd:Option<|Nat×Bool}
theorem SlA.mono {g':PH}{l:List α}(h:SlA e g v l)(hl:Le g g'):SlA e g' v l:=Sl.mono h hl
theorem SlA.form {l:List α}(h:SlA e g v l):∃ p c,v = .slice p l.length c:=zc3 h
theorem SlA.based {l:List α}(h:SlA e g v l)(hn:0<l.length):based v=true:=Sl.based h hn e.pos
theorem SQ.elemA {l:List α}{a:α}(b:∀ w,(isAgg T).run P w = .ok true w)(c:∀ w,(sizeOf T).run P w = .ok k w)(d:ev f x=some (oa v<|j * k))(hr:Rd g s v<|l.flatMap e.enc)(i:l[j]?=some a) :
  SQ P N E ⟨dst,.load T x,ty,pos,af,gd⟩ f g s (.agg (e.enc a).toArray) :=
 SQ.loadAggC b c d hr (e.len a) e.pos fun _ _ m=>e.get i m
theorem SQ.partA {l:List α}{a:α}{o:Nat}(b:∀ w,(isAgg T).run P w = .ok false w)(c:ev f x=some (oa v<|j * k+o))(hr:Rd g s v<|l.flatMap e.enc)(d:l[j]?=some a)(i:(e.enc a)[o]?=some u) :
  SQ P N E ⟨dst,.load T x,ty,pos,af,gd⟩ f g s u:=SQ.loadC b c hr<|e.get d i
theorem SQ.elem1 {e:Enc α 1}{l:List α}{a:α}(b:∀ w,(isAgg T).run P w = .ok false w)(c:ev f x=some (oa v<|j * 1))(hr:Rd g s v<|l.flatMap e.enc)(d:l[j]?=some a)(i:e.enc a=[u]) :
  SQ P N E ⟨dst,.load T x,ty,pos,af,gd⟩ f g s u:=SQ.loadC b c hr (by have:=e.get (j:=0) d (v:=u) (by rw[i];rfl);simpa using this)
theorem SlA.rd {l:List α}(h:SlA e g v l):Rd g s v<|l.flatMap e.enc:=Sl.rd h
theorem Rd.rowA {l:List α}(i:Nat)(a:s[i]?=some (rowA e T v l)):Rd g s v<|l.flatMap e.enc:=Rd.row i a
theorem ag {w:World}{l:List α}(h:At E g s w)(a:s[i]?=some (rowA e T v l)):∃ p c,v = .slice p l.length c:=(EH h a).1
theorem bI {w:World}{l:List α}(h:At E g s w)(a:s[i]?=some (rowA e T v l))(hn:0<l.length):∃ b c,v = .slice (some ⟨b,0,none⟩) l.length c:=by
 obtain ⟨_,d⟩:=ia h a
 rcases d with ⟨p,rfl,f⟩ | ⟨b,cap,cur,rfl,_⟩
 ·omega
 ·exact⟨b,cap+1,I⟩
theorem SO.setA {y:Operand}{U:TypeId}{l:List α}{a:α}(i:Nat)(J:∀ w,(sizeOf T).run P w = .ok k w)(D:ev f x=some (oa v<|j * k))(K:ev f y=some u)(q:s[i]?=some (rowA e U v l))(F:j<l.length)(r:u.cells.toList=e.enc a) :
  SO P N E ⟨dst,.store T x y,ty,pos,af,gd⟩ f g s fun _ g' s'=>g=g'∧s'=s.set i (rowA e U v<|l.set j a) :=
 Jr fun ac w G t=>by
  obtain ⟨H,L⟩:=ia t q;have z:=t.fresh _<|zg3 q
  rcases L with ⟨p,rfl,hn⟩ | ⟨b,cap,cur,rfl,hb,d,A,M,O⟩
  ·omega
  ·simp only[oa,Nat.zero_add] at D;have c:u.cells.size=k:=by rw[← Array.length_toList,r,e.len]
   have Q:j * k+k≤l.length * k:=by rw[← Nat.succ_mul];exact Nat.mul_le_mul_right k F
   have R:l.length * k≤(cap+1) * k:=Nat.mul_le_mul_right k d;have B:=run_storeCells_at P b (j * k) U u.cells.toList 0 cur w hb (by simp[c];omega) (by rw[r];exact e.one a);refine⟨w.setRow b (cur.toList.take (j * k+0)++u.cells.toList++cur.toList.drop (j * k+0+u.cells.toList.length)).toArray,g,s.set i<|rowA e U (.slice (some ⟨b,0,none⟩) l.length<|cap+1)<|l.set j a,?_,?_,I,I⟩
   ·simp[execOp,G.ev D,G.ev K,Instr.storeAt,Instr.sureAddr,storeVar,J w,c];rw[B];simp[c]
   ·refine t.turn q I ⟨I,(by exact dm _)⟩ I dO (fun S _ C=>setRow_other w b S _<|fun V=>C<|by simp[rowA,row,jV,V]) ?_ (fun X m=>?_)
    ·have W:=setRow_heap w b cur (cur.toList.take (j * k+0)++u.cells.toList++cur.toList.drop (j * k+0+u.cells.toList.length)).toArray U (0,0) hb;have o:=e.set (l:=l) (a:=a) F;have:=eH (T:=U) (k:=k) (n:=l.length) (xs:=(l.set j a).flatMap e.enc) (by rw[e.length];simp) W d A (by simp[c];omega) (by
      rw[← o,← O,r];have:=qj cur.toList (e.enc a) (j * k) (l.length * k) (by simp;omega) (by rw[e.len];omega);simpa only[Nat.add_zero,e.len] using this)
     simpa [rowA] using this
    ·simp only[rowA,row,jV,zg8] at m;subst m;exact⟨by simpa using (z b I).2,.inl I⟩
end
def fS:=@SC.freezeRow
def fT:=@ST.freezeRow
def aZ:=@SQ.partA
def eB:=@SQ.elem1
def I2:=@SC.freeze
def I6:=@ST.freeze
def IM:=@SO.setA
def Iu:=@ST.less
def Ji:=@Ctr.facts
def iN:=@SQ.elemA
end Go.Sy
namespace Go.Pl
section
variable {α:Type}(key:α→Int)
def aN (l l':List α):Prop:=l'.length=l.length∧∀ c,l'.filter (fun a=>key a == c)=l.filter (fun a=>key a == c)
def Srt (l:List α):Prop:=l.Pairwise fun a b=>key a≤key b
end
section
variable {α:Type}{key:α→Int}
theorem aN.refl (l:List α):aN key l l:=⟨rfl,fun _=>rfl⟩
theorem aN.trans {a b c:List α}(h:aN key a b)(k:aN key b c):aN key a c:=⟨k.1.trans h.1,fun x=>(k.2 x).trans<|h.2 x⟩
theorem aN.symm {a b:List α}(h:aN key a b):aN key b a:=⟨h.1.symm,fun x=>(h.2 x).symm⟩
theorem aN.append {a d b e:List α}(h:aN key a d)(k:aN key b e):aN key (a++b)<|d++e:=⟨by simp[h.1,k.1],fun c=>by simp[h.2 c,k.2 c]⟩
theorem aN.mem {l l':List α}(h:aN key l l'){x:α}(b:x∈l'):x∈l:=by
 have:x∈l'.filter (fun a=>key a == key x):=by simp[b]
 rw[h.2] at this;exact (List.mem_filter.1 this).1
theorem aN.mem_iff {l l':List α}(h:aN key l l')(x:α):x∈l'↔x∈l:=⟨h.mem,h.symm.mem⟩
theorem lL {l:List α}{c:Int}(h:∀ x∈l,key x≠c):l.filter (fun a=>key a == c)=[]:=by
 rw[List.filter_eq_nil_iff];intro x b;simpa using h x b
theorem aN.swap {a b:List α}(h:∀ x∈a,∀ y∈b,key x≠key y):aN key (a++b)<|b++a:=by
 refine⟨by simp[Nat.add_comm],fun c=>?_⟩;simp only[List.filter_append];by_cases hc:∃ x∈a,key x=c
 ·obtain ⟨x,d,rfl⟩:=hc;rw[lL (l:=b) fun y f=>fun e=>h x d y f e.symm];simp
 ·rw[lL (l:=a) fun x d=>fun e=>hc ⟨x,d,e⟩];simp
theorem Srt.append_iff {a b:List α}:Srt key (a++b)↔Srt key a∧Srt key b∧∀ x∈a,∀ y∈b,key x≤key y:=List.pairwise_append
theorem Srt.nil:Srt key []:=List.Pairwise.nil
theorem Srt.one (a:α):Srt key [a]:=List.pairwise_singleton _ _
theorem Srt.cons_iff {a:α}{l:List α}:Srt key (a::l)↔(∀ x∈l,key a≤key x)∧Srt key l:=List.pairwise_cons
theorem Srt.unique:∀ {l m:List α},Srt key l→Srt key m→aN key l m→l=m
 | [],m,_,_,h=>by
  have:=h.1;simp only[List.length_nil] at this;exact (List.eq_nil_of_length_eq_zero this).symm
 | a::l,[],_,_,h=>by have:=h.1;simp at this
 | a::l,b::m,hl,hm,h=>by
  have d:key a=key b:=by
   have f:b∈a::l:=h.mem<|List.mem_cons_self ..;have g:a∈b::m:=h.symm.mem<|List.mem_cons_self ..;have j:key a≤key b:=by
    rcases List.mem_cons.1 f with e | e
    ·rw[e];exact Int.le_refl _
    ·exact (Srt.cons_iff.1 hl).1 b e
   have k:key b≤key a:=by
    rcases List.mem_cons.1 g with e | e
    ·rw[e];exact Int.le_refl _
    ·exact (Srt.cons_iff.1 hm).1 a e
   omega
  have i:a=b:=by
   have:=h.2<|key a;simp only[List.filter_cons,beq_self_eq_true,if_true,← d] at this;injection this with e1
   exact e1.symm
  subst i;have:aN key l m:=by
   refine⟨by have:=h.1;simpa using this,fun c=>?_⟩;have:=h.2 c;simp only[List.filter_cons] at this;split at this
   ·injection this
   ·exact this
  rw[Srt.unique (Srt.cons_iff.1 hl).2 (Srt.cons_iff.1 hm).2 this]
def ins (key:α→Int)(x:α):List α→List α
 | []=>[x]
 | y::r=>if key x≤key y then x::y::r else y::ins key x r
def sortBy (key:α→Int):List α→List α
 | []=>[]
 | x::r=>ins key x<|sortBy key r
theorem tQ (x:α):∀ l:List α,aN key (x::l) (ins key x l)
 | []=>aN.refl _
 | y::r=>by
  unfold ins;split
  ·exact aN.refl _
  ·rename_i h;have c:aN key (x::y::r)<|y::x::r:=by
    have:=aN.append (aN.swap (key:=key) (a:=[x]) (b:=[y])<|by simp;omega)<|aN.refl (key:=key) r;simpa using this
   have d:=aN.append (aN.refl (key:=key) [y])<|tQ x r;exact c.trans (by simpa using d)
theorem CA (x:α):∀ l:List α,Srt key l→Srt key (ins key x l)
 | [],_=>Srt.one x
 | y::r,h=>by
  unfold ins;split
  ·rename_i a;exact Srt.cons_iff.2 ⟨fun z hz=>by
    rcases List.mem_cons.1 hz with e | e
    ·rw[e];exact a
    ·exact Int.le_trans a<|(Srt.cons_iff.1 h).1 z e,h⟩
  ·rename_i b;obtain ⟨c,d⟩:=Srt.cons_iff.1 h;refine Srt.cons_iff.2 ⟨fun z hz=>?_,CA x r d⟩
   rcases List.mem_cons.1 ((tQ x r).mem hz) with e | e
   ·rw[e];omega
   ·exact c z e
theorem cI:∀ l:List α,aN key l (sortBy key l)
 | []=>aN.refl _
 | x::r=>(by simpa using aN.append (aN.refl (key:=key) [x]) (cI r):aN key (x::r)<|x::sortBy key r).trans<|tQ x _
theorem c8:∀ l:List α,Srt key (sortBy key l)
 | []=>Srt.nil
 | x::r=>CA x _<|c8 r
theorem dF (l:List α):(sortBy key l).length=l.length:=(cI l).1
theorem er (l:List α)(x:α):x∈sortBy key l↔x∈l:=(cI l).mem_iff x
theorem bl {l m:List α}(a:Srt key m)(h:aN key l m):m=sortBy key l:=(c8 l).unique a ((cI l).symm.trans h) |>.symm
theorem aN.map {β:Type}{f:β→α}{l m:List β}(h:aN (key ∘ f) l m):aN key (l.map f)<|m.map f:=by
 refine⟨by simp[h.1],fun c=>?_⟩;have:=h.2 c;rw[List.filter_map,List.filter_map];exact congrArg (List.map f) this
theorem Srt.map {β:Type}{f:β→α}{l:List β}(h:Srt (key ∘ f) l):Srt key<|l.map f:=by
 unfold Srt;rw[List.pairwise_map];exact h
theorem nn {β:Type}{f:β→α}(l:List β):sortBy key (l.map f)=(sortBy (key ∘ f) l).map f :=
 (bl (c8 (key:=key ∘ f) l).map (cI (key:=key ∘ f) l).map).symm
end
section
variable {α:Type}(key:α→Int)
inductive FC (B:Nat):List α→Prop
 | nil:FC B []
 | cons {c d:List α}:c.length=B→Srt key c→FC B d→FC B (c++d)
end
section
variable {α:Type}{key:α→Int}{B:Nat}
theorem FC.snoc {d c:List α}(h:FC key B d)(hc:c.length=B)(a:Srt key c):FC key B<|d++c:=by
 induction h with
 | nil=>simpa using FC.cons hc a FC.nil
 | cons b e _ ih=>rw[List.append_assoc];exact FC.cons b e ih
theorem FC.front {d:List α}(h:FC key B d)(hd:0<d.length):∃ c r,d=c++r∧c.length=B∧Srt key c∧FC key B r:=by
 cases h with
 | nil=>simp at hd
 | cons a b e=>exact⟨_,_,rfl,a,b,e⟩
end
def iI (x y:Int):Int:=if x<y then -1 else if y<x then 1 else 0
theorem fy {x y:Int}:iI x y<0↔x<y:=by unfold iI;split <;> (try split)<;>simp_all <;> omega
end Go.Pl
namespace Go.Proofs.YtpmoadbbfobbcaaGreatDoor
open Go Go.Sy Go.Pl Go.Proofs
set_option maxRecDepth 100000
theorem Tryz.mixed:Tryz.prog.follows .mixedOrders=true:=by kernel_rfl
theorem Tryz.sty43:STy Tryz.prog 43 3 1 8<|vi 0:=⟨Tryz.underlying43,⟨Tryz.t3,by kernel_rfl,by kernel_rfl,by kernel_rfl,by kernel_rfl⟩,rfl,by decide⟩
theorem Tryz.sty22:STy Tryz.prog 22 43 1 24<|.slice none 0 0:=⟨Tryz.underlying22,⟨Tryz.t43,by kernel_rfl,by kernel_rfl,by kernel_rfl,by kernel_rfl⟩,rfl,by decide⟩
theorem Tryz.sty45:STy Tryz.prog 45 87 2 16<|.agg #[vi 0,vi 0]:=⟨Tryz.underlying45,⟨Tryz.t87,by kernel_rfl,by kernel_rfl,by kernel_rfl,by kernel_rfl⟩,rfl,by decide⟩
theorem Tryz.sty27:STy Tryz.prog 27 61 3 40<|.agg #[vi 0,vi 0,.slice none 0 0]:=⟨Tryz.underlying27,⟨Tryz.t61,by kernel_rfl,by kernel_rfl,by kernel_rfl,by kernel_rfl⟩,rfl,by decide⟩
theorem bP {a b:Int}(h:a=b):some (vi a)=some (vi b):=by rw[h]
def encInt:Enc Int 1:=⟨fun n=>[vi n],fun _=>rfl,fun _ u hu=>by simp at hu;subst hu;rfl,by decide⟩
structure ak where
 cell:Int
 sign:Int
 deriving DecidableEq
def encSide:Enc ak 2:=⟨fun p=>[vi p.cell,vi p.sign],fun _=>rfl,fun _ u hu=>by simp at hu;rcases hu with rfl | rfl <;> rfl,by decide⟩
structure Sv where
 p:Option Addr
 n:Nat
 c:Nat
def ec:Enc Sv 1:=⟨fun x=>[.slice x.p x.n x.c],fun _=>rfl,fun _ u hu=>by simp at hu;subst hu;rfl,by decide⟩
structure Rc where
 id:Int
 dim:Int
 sv:Sv
def encCell:Enc Rc 3:=⟨fun r=>[vi r.id,vi r.dim,.slice r.sv.p r.sv.n r.sv.c],fun _=>rfl,fun _ u hu=>by simp at hu;rcases hu with rfl | rfl | rfl <;> rfl,by decide⟩
abbrev dA (g:PH)(v:Value)(l:List Int):Prop:=SlA encInt g v l
def nS {α:Type}{k:Nat}(E:World)(cv:Value)(e:Enc α k)(key:α→Int)(g:PH):Prop :=
 ∀ g' s a b,Le g g'→cQ Tryz.prog E cv [.agg (e.enc a).toArray,.agg (e.enc b).toArray] g' s (fun r g'' s''=>r=vi (iI (key a)<|key b)∧g'=g''∧s=s'')
theorem bV {α:Type}{u w:List α}{a:α}{j:Nat}(h:j=u.length):(u++a::w)[j]?=some a:=by subst h;simp
theorem ee {α:Type}{u w:List α}{a b:α}{j:Nat}(h:j=u.length):(u++a::w).set j b=u++b::w:=by subst h;simp
theorem mg (x:Int)(c:0≤x)(h:x<9223372036854775808):IntKind.i64.wrap ((IntKind.u64.wrap x).fdiv<|2 ^ min (1:Int).toNat IntKind.u64.bits)=x / 2:=by
 have a:IntKind.u64.wrap x=x:=IntWalk.u64_in _ oM;rw[a];have b:((2:Int) ^ min (1:Int).toNat IntKind.u64.bits)=2:=by decide
 rw[b,Int.fdiv_eq_ediv_of_nonneg _ dC];rw[zl1 _ oM]
theorem SU.eq {P:Program}{N:Nat}{o:Oper}{f:Fr}{v v':Value}(h:SU P N o f v)(e:v=v'):SU P N o f v':=e ▸ h
theorem SQ.eq {P:Program}{N:Nat}{E:World}{o:Oper}{f:Fr}{g:PH}{s:Own}{v v':Value}(h:SQ P N E o f g s v)(e:v=v'):SQ P N E o f g s v':=e ▸ h
open _root_.Go.Proofs.Tryz _root_.Go.Proofs.YtpmoadbbfobbcaaGreatDoor.Tryz
variable (E:World)(g:PH)(s:Own)
theorem sr (a:Int):Ctr Tryz.prog E 85 #[vi a] g s fun r g' s'=>r=vb false∧g=g'∧s=s':=by
 exact zb2 (args:=[vi a]) func85 I ntmps85 (bE I)<|rZ<|aT I<|sW I<|lM I<|lU (nQ I I)<|aT I<|rE<|za8 (.inl I) results85 I ⟨by simp,I,I⟩
theorem dV (a b:Int):Ctr Tryz.prog E 30 #[vi a,vi b] g s fun r g' s'=>r=vi (iI a b)∧g=g'∧s=s':=by
 refine zb2 (args:=[vi a,vi b]) func30 I ntmps30 (bE I)<|rZ<|aT I<|sW I<|lW (bt call85 I<|sr E g s a) ?_;rintro _ _ _ ⟨rfl,rfl,rfl⟩;refine aT I<|sW I<|lW (bt call85 I<|sr E g s b) ?_;rintro _ _ _ ⟨rfl,rfl,rfl⟩;refine aT I<|sQ<|sW I<|tZ<|za1 I<|kP<|tN<|sQ<|sW I<|tZ<|za1 I<|kP<|tN<|sQ<|sW I<|lM I<|yL I<|tZ<|iP I (fun c=>?_) (fun c=>?_)
 ·exact rZ<|aT I<|rE<|tR<|za8 (.inl I) results30 I ⟨by unfold iI;rw[zg2 c],I,I⟩
 ·refine kP<|tN<|sQ<|sW I<|lM I<|lU (gR I I)<|tZ<|iP I (fun d=>?_) (fun d=>?_)
  ·exact rZ<|aT I<|rE<|tR<|za8 (.inl I) results30 I ⟨by unfold iI;rw[zg1 c,zg2 d],I,I⟩
  ·exact kP<|tN<|rZ<|aT I<|rE<|za8 (.inl I) results30 I ⟨by unfold iI;rw[zg1 c,zg1 d],I,I⟩
def my:=@Tryz.call62
def ei:=@Tryz.isAgg27
def aj:=@Tryz.isAgg29
def iT3:=@Tryz.isAgg3
def iE:=@Tryz.isAgg43
def bg:=@Tryz.isAgg45
def mA:=@Tryz.isAgg46
def jS:=@Tryz.isAgg48
def ru:=@Tryz.isAgg56
def eE:=@Tryz.isAgg57
def dT:=@Tryz.isAgg61
def gX:=@Tryz.isAgg74
def iV:=@Tryz.isAgg87
def cg:=@Tryz.sizeOf27
def ae:=@Tryz.sizeOf29
def zT3:=@Tryz.sizeOf3
def zT4:=@Tryz.sizeOf4
def gy:=@Tryz.sizeOf43
def aI:=@Tryz.sizeOf45
def jP:=@Tryz.sizeOf46
def dY:=@Tryz.sizeOf48
def rm:=@Tryz.sizeOf56
def xh:=@Tryz.sizeOf57
def ar:=@Tryz.sizeOf61
def un:=@Tryz.sizeOf70
def qR:=@Tryz.sizeOf72
def bZ:=@Tryz.sizeOf74
def aV:=@Tryz.sizeOf87
def qQ:=@Tryz.sizeOf88
def uT0:=@Tryz.underlying0
def ek:=@Tryz.underlying113
def j7:=@Tryz.underlying126
def qZ:=@Tryz.underlying139
def nK:=@Tryz.underlying179
def ly:=@Tryz.underlying183
def fe:=@Tryz.underlying22
def uk:=@Tryz.underlying238
def ne:=@Tryz.underlying24
def aB:=@Tryz.underlying27
def dw:=@Tryz.underlying29
def uT3:=@Tryz.underlying3
def nF:=@Tryz.underlying32
def uT4:=@Tryz.underlying4
def aA:=@Tryz.underlying43
def aW:=@Tryz.underlying45
def ld:=@Tryz.underlying46
def aO:=@Tryz.underlying48
def uT5:=@Tryz.underlying5
def ap:=@Tryz.underlying61
def AC:=@Tryz.underlying72
def uo:=@Tryz.underlying83
def dh:=@Tryz.underlying87
def rq:=@Tryz.underlying88
def uT9:=@Tryz.underlying9
end Go.Proofs.YtpmoadbbfobbcaaGreatDoor
namespace Go.Sy
open Go
variable {T U ty t kt et:TypeId}{b k N clk:Nat}{P:Program}{g:PH}{x y:Operand}{E:World}{f:Fr}{s:Own}{v z:Value}{dst:Option Tmp}{pos:String}{af:Array Edge}{gd:Option<|Nat×Bool}{cs:Array Value}{l:List<|Int×Value}{es:Array MapEntry}
theorem SQ.loadVarK {a:Nat×Nat}(i:Nat)(c:∀ w,(isAgg T).run P w = .ok true w)(d:∀ w,(sizeOf T).run P w = .ok k w)(e:ev f x=some (pp b 0))
  (j:s[i]?=some (pt b<|.cells cs U a)) (hc:cs.size=k):SQ P N E ⟨dst,.load T x,ty,pos,af,gd⟩ f g s<|.agg cs:=SQ.loadVar i c (by rw[hc];exact d) e j
theorem SO.storeAllK (i:Nat)(a:∀ w,(sizeOf T).run P w = .ok k w)(c:ev f x=some (pp b 0))(d:ev f y=some v)(e:s[i]?=some (pt b<|.cells cs U (0,0)))
  (hc:cs.size=k) (j:v.cells.size=k) (l:FW v.cells.toList) :
  SO P N E ⟨dst,.store T x y,ty,pos,af,gd⟩ f g s fun _ g' s'=>g=g'∧s'=s.set i (pt b<|.cells v.cells U (0,0)) :=
 SO.storeAll i (by rw[hc];exact a) c d e (by rw[j,hc])<|m6 l
theorem SO.appendE {e:TypeId}{bytes n m:Nat}{u:Value}{xs c:List Value}(i d:Nat)(a:List Value)(l:STy P t e k bytes z)(o:ev f x=some v)(p:s[i]?=some (row e k v n xs))(r:ev f y=some u)
  (w:isSl u=true) (hm:slen u=m) (hr:Rd g s u c) (hl:c.length=m * k) (A:∀ q∈c,q.oneCell'=true) (hn:n+m=d) (j:xs++c=a) (hb:d * bytes≤140737488355328) (b:d≤4611686018427387904) :
  SO P N E ⟨dst,.call ⟨.builtin .append,#[x,y],#[t,t]⟩,ty,pos,af,gd⟩ f g s fun v' g' s'=>g=g'∧s'=s.set i (row e k v' d a):=by
 subst hn;subst j;exact SO.append i l o p r w hm hr hl A hb b
section
variable {fn:Func}{R:Value→PH→Own→Prop}{e:Exit}
theorem ST.retCD {t:Nat}{o:Nat×Nat}(i:Nat)(s':Own)(p:e = .ret∨e = .normal)(hr:fn.results = #[.cell t T])(q:aU f t=some (pp b 0))(r:∀ w,(isAgg T).run P w = .ok true w)(u:∀ w,(sizeOf T).run P w = .ok k w)
  (v:s[i]?=some (pt b<|.cells cs U o)) (hc:cs.size=k) (c:s'.Sublist s) (x:R (.agg cs) g s'):ST N E (bodyPost P fn<|nI E R) e f g s :=
 fun a w d j=>by
  have y:=cw (P:=P) j r (by rw[hc];exact u) v;have l:=d.at_ t _ q;simp only[Array.getD_eq_getD_getElem?] at l;have m:(results fn a.tmps).run P w = .ok (.agg cs) w:=by simp[results,hr,asAddr,pp,l,y]
  have n:nI E R (.returned<|.agg cs) w:=⟨.agg cs,g,s',rfl,j.sublist c,x⟩
  rcases p with rfl | rfl
  ·exact⟨d.defers,_,m,n⟩
  ·exact⟨d.defers,_,m,n⟩
theorem ST.retCD1 {t u:Nat}{p:Nat×Nat}{x:Value}(i:Nat)(s':Own)(q:e = .ret∨e = .normal)(hr:fn.results = #[.cell t T,.tmp u])(r:aU f t=some (pp b 0))(v:aU f u=some x)
  (y:∀ w,(isAgg T).run P w = .ok true w) (z:∀ w,(sizeOf T).run P w = .ok k w)
  (A:s[i]?=some (pt b<|.cells cs U p)) (hc:cs.size=k) (d:s'.Sublist s) (B:R (.tuple #[.agg cs,x]) g s'):ST N E (bodyPost P fn<|nI E R) e f g s :=
 fun a w c j=>by
  have C:=cw (P:=P) j y (by rw[hc];exact z) A;have l:=c.at_ t _ r;have m:=c.at_ u _ v;simp only[Array.getD_eq_getD_getElem?] at l m;have n:(results fn a.tmps).run P w = .ok (.tuple #[.agg cs,x]) w:=by simp[results,hr,asAddr,pp,l,C,m]
  have o:nI E R (.returned<|.tuple #[.agg cs,x]) w:=⟨_,g,s',rfl,j.sublist d,B⟩
  rcases q with rfl | rfl
  ·exact⟨c.defers,_,n,o⟩
  ·exact⟨c.defers,_,n,o⟩
end
def qV:=@SQ.loadVarK
def sK:=@SO.storeAllK
def I8:=@ST.retCD1
def IU:=@SO.appendE
def kn:=@ST.retCD
theorem Enc.setPart {α:Type}{k:Nat}(e:Enc α k):∀ {l:List α} {j o:Nat} {a b:α} {u:Value},l[j]?=some a→o<k→e.enc b=(e.enc a).set o u→(l.flatMap e.enc).set (j * k+o) u=(l.set j b).flatMap e.enc
 | [],_,_,_,_,_,h,_,_=>by simp at h
 | x::r,0,o,a,b,u,h,c,d=>by
  simp only[List.getElem?_cons_zero,zg8] at h;subst h;simp only[zh6,List.set_cons_zero,Nat.zero_mul,Nat.zero_add,d];rw[List.set_append_left _ _<|by rw[e.len];exact c]
 | x::r,j+1,o,a,b,u,h,c,d=>by
  simp only[List.getElem?_cons_succ] at h;simp only[zh6,List.set_cons_succ];rw[List.set_append_right _ _<|by rw[e.len,Nat.succ_mul];omega,e.len,show (j+1) * k+o - k=j * k+o by rw[Nat.succ_mul];omega,Enc.setPart e h c d]
section
variable {α:Type}{e:Enc α k}
theorem SO.partA {u:Value}{l:List α}{a:α}{j o:Nat}(i:Nat)(r:α)(L:∀ w,(sizeOf T).run P w = .ok 1 w)(G:ev f x=some (oa v<|j * k+o))(M:ev f y=some u)(t:s[i]?=some (rowA e U v l))(H:l[j]?=some a)
  (O:u.cells = #[u]) (z:u.oneCell'=true) (Q:o<k) (R:e.enc r=(e.enc a).set o u) :
  SO P N E ⟨dst,.store T x y,ty,pos,af,gd⟩ f g s fun _ g' s'=>g=g'∧s'=s.set i (rowA e U v<|l.set j r) :=
 Jr fun ac w c A=>by
  obtain ⟨J,S⟩:=ia A t;have B:=A.fresh _<|zg3 t;have V:=(zf6.1 H).1
  rcases S with ⟨p,rfl,hn⟩ | ⟨b,cap,cur,rfl,hb,d,C,W,X⟩
  ·omega
  ·simp only[oa,Nat.zero_add] at G;have Y:j * k+k≤l.length * k:=by rw[← Nat.succ_mul];exact Nat.mul_le_mul_right k V
   have Z:l.length * k≤(cap+1) * k:=Nat.mul_le_mul_right k d;have D:=run_storeCells_at P b (j * k+o) U [u] 0 cur w hb (by simp;omega) (by simpa using z);refine⟨w.setRow b (cur.toList.take (j * k+o+0)++[u]++cur.toList.drop (j * k+o+0+[u].length)).toArray,g,s.set i<|rowA e U (.slice (some ⟨b,0,none⟩) l.length<|cap+1)<|l.set j r,?_,?_,I,I⟩
   ·simp[execOp,c.ev G,c.ev M,Instr.storeAt,Instr.sureAddr,storeVar,L w,O];rw[D];simp
   ·refine A.turn t I ⟨I,(by exact dm _)⟩ I dO (fun k' _ F=>setRow_other w b k' _<|fun e1=>F<|by simp[rowA,row,jV,e1]) ?_ (fun b' m=>?_)
    ·have h5:=setRow_heap w b cur (cur.toList.take (j * k+o+0)++[u]++cur.toList.drop (j * k+o+0+[u].length)).toArray U (0,0) hb;have q:=e.setPart (u:=u) H Q R;have:=eH (T:=U) (k:=k) (n:=l.length) (xs:=(l.set j r).flatMap e.enc) (by rw[e.length];simp) h5 d C (by simp;omega) (by
      rw[← q,← X];have K:=qj cur.toList [u] (j * k+o) (l.length * k) (by simp;omega) (by simp;omega);simp only[Nat.add_zero,ze8] at K ⊢;rw[K,List.set_eq_take_append_cons_drop,zg2<|by simp;omega];simp)
     simpa [rowA] using this
    ·simp only[rowA,row,jV,zg8] at m;subst m;exact⟨by simpa using (B b I).2,.inl I⟩
def evps (f:Fr):List (Nat×Operand)→Option (List<|Nat×Value)
 | []=>some []
 | (i,x)::r=>match ev f x with
  | some v=>match evps f r with
   | some vs=>some<|(i,v)::vs
   | none=>none
  | none=>none
theorem Ok.evps {a:Act}(h:Ok N f a):∀ {l:List<|Nat×Operand} {vs:List<|Nat×Value},Sy.evps f l=some vs→l.map (fun p=>(p.1,a.eval p.2))=vs
 | [],vs,b=>by simp only[Sy.evps,zg8] at b;subst b;rfl
 | (i,x)::r,vs,b=>by
  simp only[Sy.evps] at b;split at b
  ·rename_i v c;split at b
   ·rename_i vs' hr;simp only[zg8] at b;subst b;simp[h.ev c,Ok.evps h hr]
   ·cases b
  ·cases b
theorem SU.build {ps:List<|Nat×Operand}{vs:List<|Nat×Value}(hp:evps f ps=some vs)(hr:∀ w,(Instr.build T vs.toArray).run P w = .ok v w):SU P N ⟨dst,.build T ps.toArray,ty,pos,af,gd⟩ f v:=fun a w b=>by
 simp only[execOp,List.map_toArray,b.evps hp,Sem.run_bind,hr w,zd2];rfl
end
def ay {α β:Type}(R:α→β→Prop):List α→List β→Prop
 | [],[]=>True
 | a::l,b::m=>R a b∧ay R l m
 | _,_=>False
section
variable {α β:Type}{R R':α→β→Prop}
theorem ay.length:∀ {l:List α} {m:List β},ay R l m→l.length=m.length
 | [],[],_=>rfl
 | _::_,_::_,h=>by simp[ay.length h.2]
 | [],_::_,h=>h.elim
 | _::_,[],h=>h.elim
theorem ay.mono (hr:∀ a b,R a b→R' a b):∀ {l:List α} {m:List β},ay R l m→ay R' l m
 | [],[],_=>trivial
 | _::_,_::_,h=>⟨hr _ _ h.1,ay.mono hr h.2⟩
 | [],_::_,h=>h.elim
 | _::_,[],h=>h.elim
theorem ay.get:∀ {l:List α} {m:List β} {i:Nat} {a:α} {b:β},ay R l m→l[i]?=some a→m[i]?=some b→R a b
 | x::l,y::m,0,a,b,h,c,hb=>by simp at c hb;subst c;subst hb;exact h.1
 | x::l,y::m,i+1,a,b,h,c,hb=>ay.get (i:=i) h.2 (by simpa using c) (by simpa using hb)
 | [],[],_,_,_,_,c,_=>by simp at c
 | [],_::_,_,_,_,h,_,_=>h.elim
 | _::_,[],_,_,_,h,_,_=>h.elim
theorem ay.append:∀ {l l':List α} {m b:List β},ay R l m→ay R l' b→ay R (l++l') (m++b)
 | [],_,[],_,_,a=>a
 | _::_,_,_::_,_,h,a=>⟨h.1,ay.append h.2 a⟩
 | [],_,_::_,_,h,_=>h.elim
 | _::_,_,[],_,h,_=>h.elim
theorem ay.cons_right {l:List α}{b:β}{m:List β}(h:ay R l<|b::m):∃ a l',l=a::l'∧R a b∧ay R l' m:=by
 cases l with
 | nil=>exact h.elim
 | cons a l'=>exact⟨a,l',rfl,h.1,h.2⟩
theorem ay.nil_right {l:List α}(h:ay R l []):l=[]:=by
 cases l with
 | nil=>rfl
 | cons a l'=>exact h.elim
end
def JF:=@SO.partA
open Go Go.MapKept
structure MTy (P:Program)(t kt et:TypeId)(z:Value):Prop where
 und:P.underlying t=some (.map kt et)
 key:P.underlying kt=some (.int .i64)
 zero:∀ w,(zeroValue et).run P w = .ok z w
def lH (p:Int×Value):Value×Value:=(vi p.1,p.2)
def n9 (e:MapEntry):Value×Value:=(e.key,e.val)
def xq (l:List<|Int×Value)(es:Array MapEntry)(clk:Nat):Prop:=es.toList.map n9=l.map lH∧Stamped es clk
def mp (b:Nat)(l:List<|Int×Value):Ent:=⟨some b,fun oo=>∃ es clk,oo=some (.map es clk)∧xq l es clk⟩
def Mp (g:PH)(b:Nat)(l:List<|Int×Value):Prop:=∃ es clk,g b=some (.map es clk)∧xq l es clk
theorem Mp.mono {g':PH}(h:Mp g b l)(hl:Le g g'):Mp g' b l:=by
 obtain ⟨es,clk,a,c⟩:=h;exact⟨es,clk,hl _ _ a,c⟩
def fnd (k:Int):List (Int×Value)→Nat→Option (Nat×Value)
 | [],_=>none
 | (a,v)::r,i=>if k=a then some (i,v) else fnd k r<|i+1
def eU (l:List<|Int×Value)(k:Int):Option Value:=(fnd k l 0).map (·.2)
def gS (l:List<|Int×Value)(k:Int)(v:Value):List (Int×Value) :=
 match l with
 | []=>[(k,v)]
 | (a,u)::r=>if k=a then (k,v)::r else (a,u)::gS r k v
theorem mO (k:Int):∀ (l:List<|Int×Value) (i:Nat),(fnd k l i).map (·.2)=eU l k
 | [],_=>rfl
 | (a,v)::r,i=>by
  unfold eU;simp only[fnd];split
  ·rfl
  ·rw[mO k r<|i+1,mO k r<|0+1]
theorem dv (a:Int)(v:Value)(r:List<|Int×Value)(k:Int):eU ((a,v)::r) k=if k=a then some v else eU r k:=by
 unfold eU;simp only[fnd];split
 ·rfl
 ·exact mO k r 1
theorem kY (k:Int):∀ (es:List MapEntry) (l:List<|Int×Value) (i:Nat),es.map n9=l.map lH→Instr.findNow (.int .i64) (vi k) es i=some (fnd k l i)
 | [],[],_,_=>rfl
 | [],_::_,_,h=>by simp at h
 | _::_,[],_,h=>by simp at h
 | e::es,(a,v)::l,i,h=>by
  simp only[zg5,List.cons.injEq,n9,lH,Prod.mk.injEq] at h;obtain ⟨⟨c,d⟩,f⟩:=h;simp only[Instr.findNow,c,Instr.sameNow,if_true,fnd];by_cases b:k=a
  ·simp[b,d]
  ·have:(k == a)=false:=by simpa using b
   rw[this];simp only[b,if_false];exact kY k es l (i+1) f
section
variable {w:World}
theorem ll (a:MTy P t kt et z)(hb:w.heap[b]?=some (.map es clk))(hm:xq l es clk)(k:Int)(ok:Bool) :
  (Instr.lookup t (.map<|some b) (vi k) ok).run P w = .ok (if ok then .tuple #[(eU l k).getD z,.bool (eU l k).isSome] else (eU l k).getD z) w:=by
 have c:=kY k es.toList l 0 hm.1;have d:=MapKept.run_findKey (w:=w) a.key c;have e:=MapKept.run_checkKey (P:=P) (w:=w) a.key (k:=vi k) rfl es.isEmpty 9999;unfold Instr.lookup;simp only[Sem.run_bind,run_underlying a.und,zd2,MapKept.run_getObj_map hb,Sem.run_pure,e,d];unfold eU;cases hc:fnd k l 0 with
 | none=>simp[a.zero w]
 | some q=>obtain ⟨i,v⟩:=q;simp
theorem Ab (k:Int):∀ (l:List<|Int×Value) (i:Nat),(fnd k l i=none∧∀ p∈l,p.1≠k)∨∃ j v,fnd k l i=some (i+j,v)∧l[j]?=some (k,v)∧∀ u,gS l k u=l.set j (k,u)
 | [],_=>.inl ⟨rfl,by simp⟩
 | (a,v)::r,i=>by
  by_cases h:k=a
  ·subst h;exact .inr ⟨0,v,by simp[fnd],I,by simp[gS]⟩
  ·rcases Ab k r (i+1) with ⟨b,c⟩ | ⟨j,v',b,c,d⟩
   ·refine .inl ⟨by simp[fnd,h,b],fun p hp=>?_⟩
    rcases zf2.1 hp with e | e
    ·rw[e];exact fun f=>h f.symm
    ·exact c p e
   ·exact .inr ⟨j+1,v',by simp[fnd,h,b];omega,by simpa using c,by simp[gS,h,d]⟩
theorem mM (k:Int)(v:Value):∀ (l:List<|Int×Value),(∀ p∈l,p.1≠k)→gS l k v=l++[(k,v)]
 | [],_=>rfl
 | (a,u)::r,h=>by
  have b:k≠a:=fun e=>h (a,u) dO e.symm;simp only[gS,b,if_false,List.cons_append,mM k v r fun p hp=>h p<|by simp[hp]]
theorem jv (B:MTy P t kt et z)(hb:w.heap[b]?=some (.map es clk))(hm:xq l es clk)(k:Int)(v:Value) :
  ∃ n f,(Instr.mapUpdate t (.map<|some b) (vi k) v).run P w = .ok () { w with heap:=w.heap.setIfInBounds b (.map n f) }∧xq (gS l k v) n f:=by
 have F:=kY k es.toList l 0 hm.1;have C:=MapKept.run_findKey (w:=w) B.key F;have D:=MapKept.run_checkKey (P:=P) (w:=w) B.key (k:=vi k) rfl false 9999;have o:es.toList.length=l.length:=by have:=ze3 List.length hm.1;simpa using this
 rcases Ab k l 0 with ⟨hn,r⟩ | ⟨j,u,G,E,s⟩
 ·refine⟨es.push { key:=vi k,val:=v,born:=clk },clk+1,?_,?_,?_⟩
  ·rw[hn] at C;simp[Instr.mapUpdate,run_underlying B.und,MapKept.run_getObj_map hb,D,C,MapKept.run_setObj_map _ hb]
  ·rw[mM k v l r];simp[hm.1,n9,lH]
  ·refine stamped_push hm.2 ?_;intro x H e;have:n9 x∈l.map lH:=by rw[← hm.1];exact zf3.2 ⟨x,H,I⟩
   obtain ⟨p,hp,i⟩:=zf3.1 this;simp only[lH,n9,Prod.mk.injEq] at i;refine r p hp ?_;rw[e] at i;simpa using i.1
 ·have a:j<es.toList.length:=by rw[o];exact (zf6.1 E).1
  have g:(es.toList[j]).key=vi k:=by
   have y:=ze3 (·[j]?) hm.1;simp only[zi1,E,Option.map_some,bd a,zg8,n9,lH,Prod.mk.injEq] at y;exact y.1
  have A:es[j]?=some es.toList[j]:=by simp at a;simp[a]
  rw[G,Nat.zero_add] at C;refine⟨es.modify j fun e=>{ e with key:=vi k,val:=v },clk,?_,?_,?_⟩
  ·have J:=MapKept.run_keyThatStays (P:=P) (w:=w) (d:=.int .i64) (k:=vi k) rfl;have m:∀ h:j<es.size,es[j].key=vi k:=fun h=>by simpa using g
   simp[Instr.mapUpdate,run_underlying B.und,MapKept.run_getObj_map hb,D,C,A,m,J,MapKept.run_setObj_map _ hb]
  ·rw[s v];apply List.ext_getElem?;intro q;have y:=ze3 (·[q]?) hm.1;simp only[zi1] at y;rw[zi1,zi1,List.getElem?_set,Array.toList_modify,List.getElem?_modify];by_cases hq:j=q
   ·subst hq;have:j<l.length:=oM;simp[this,bd a,n9,lH]
   ·simp only[hq,if_false];simpa using y
  ·exact stamped_modify hm.2 _ _ (fun _ _=>I) (fun e' _ c=>by
    rw[A] at c;injection c with c
    rw[← c,g])
end
section
variable {ops:Array Oper}{Q:Exit→Act→World→Prop}
variable {u:Operand}{k:Int}
def bo (g:PH)(s:Own)(b:Nat)(l:List<|Int×Value):Prop:=∀ E w,At E g s w→∃ es clk,w.heap[b]?=some (.map es clk)∧xq l es clk
theorem bo.own (i:Nat)(a:s[i]?=some (mp b l)):bo g s b l:=fun E w c=>by
 obtain ⟨es,clk,d,e⟩:=c.own _<|zg3 a;exact⟨es,clk,by simpa [mp] using d,e⟩
theorem bo.known (h:Mp g b l):bo g s b l:=fun E w a=>by
 obtain ⟨es,clk,c,d⟩:=h;exact⟨es,clk,a.known _ _ c,d⟩
theorem SQ.lookup (d:MTy P t kt et z)(e:ev f x=some (.map<|some b))(i:ev f y=some (vi k))(hm:bo g s b l):SQ P N E ⟨dst,.lookup t x y false,ty,pos,af,gd⟩ f g s<|(eU l k).getD z:=fun a w c j=>by
 obtain ⟨es,clk,m,n⟩:=hm E w j;simp[execOp,c.ev e,c.ev i,ll d m n]
theorem SQ.lookupOk (d:MTy P t kt et z)(e:ev f x=some (.map<|some b))(i:ev f y=some (vi k))(hm:bo g s b l):SQ P N E ⟨dst,.lookup t x y true,ty,pos,af,gd⟩ f g s<|.tuple #[(eU l k).getD z,.bool (eU l k).isSome]:=fun a w c j=>by
 obtain ⟨es,clk,m,n⟩:=hm E w j;simp[execOp,c.ev e,c.ev i,ll d m n]
theorem SQ.lenMap (d:P.underlying t=some (.map kt et))(e:ev f x=some (.map<|some b))(hm:bo g s b l):SQ P N E ⟨dst,.call ⟨.builtin .len,#[x],#[t]⟩,ty,pos,af,gd⟩ f g s<|vi l.length:=fun a w i j=>by
 obtain ⟨es,clk,k,m⟩:=hm E w j;have c:es.toList.length=l.length:=by have:=ze3 List.length m.1;simpa using this
 simp at c;simp[execOp,resolve,invoke,builtin,i.ev e,Builtin.len_,run_underlying d,MapKept.run_getObj_map k,goInt,c]
theorem SO.mkMap:SO P N E ⟨dst,.makeMap T none,ty,pos,af,gd⟩ f g s fun u g' s'=>∃ b,u = .map (some b)∧g=g'∧s'=mp b []::s :=
 IH fun a w _ c=>⟨.map<|some w.heap.size,_,g,_,by simp[execOp,Instr.makeMap],c.alloc (e:=mp w.heap.size []) rfl ⟨#[],0,rfl,rfl,stamped_empty 0⟩,_,rfl,rfl,rfl⟩
theorem SO.mapUpdate (i:Nat)(B:MTy P t kt et z)(C:ev f x=some (.map<|some b))(D:ev f y=some (vi k))(F:ev f u=some v)(m:s[i]?=some (mp b l)) :
  SO P N E ⟨dst,.mapUpdate t x y u,ty,pos,af,gd⟩ f g s fun _ g' s'=>g=g'∧s'=s.set i (mp b<|gS l k v) :=
 Jr fun a w n o=>by
  obtain ⟨es,clk,G,H⟩:=o.own _<|zg3 m;have hb:w.heap[b]?=some (.map es clk):=by simpa [mp] using G
  obtain ⟨d,c,hr,p⟩:=jv B hb H k v;have r:=o.fresh _ (zg3 m) b rfl;obtain ⟨J,K⟩:=MapKept.heap_set (o':=.map d c) hb;refine⟨_,g,s.set i<|mp b<|gS l k v,by simp[execOp,n.ev C,n.ev D,n.ev F,hr];rfl,?_,rfl,rfl⟩;refine o.turn m I ⟨I,(by exact dm _)⟩ I dO (fun q _ A=>K q<|fun e=>A<|by simp[mp,e]) ⟨d,c,by simpa [mp] using J,p⟩ fun L j=>?_;simp only[mp,zg8] at j;subst j;exact⟨by simpa using r.2,.inl I⟩
theorem At.freezeMap {w:World}(h:At E g (mp b l::s) w):∃ g',Le g g'∧At E g' s w∧Mp g' b l:=by
 obtain ⟨es,clk,a,c⟩:=h.own _<|List.mem_cons_self ..;have hb:w.heap[b]?=some (.map es clk):=by simpa [mp] using a
 obtain ⟨d,e⟩:=h.freeze (b:=b) rfl hb;exact⟨_,e,d,es,clk,fw _ _ _,c⟩
theorem SC.freezeMap {c:Code}(h:∀ g',Le g g'→Mp g' b l→SC P N E c Q f g' s):SC P N E c Q f g<|mp b l::s:=fun a w d e=>by
 obtain ⟨g',i,j,k⟩:=e.freezeMap;exact h g' i k a w d j
theorem SL.freezeMap {l':List Oper}(h:∀ g',Le g g'→Mp g' b l→SL P N E ops Q l' f g' s):SL P N E ops Q l' f g<|mp b l::s:=fun a w c d=>by
 obtain ⟨g',e,i,j⟩:=d.freezeMap;exact h g' e j a w c i
theorem ST.freezeMap {e:Exit}(h:∀ g',Le g g'→Mp g' b l→ST N E Q e f g' s):ST N E Q e f g<|mp b l::s:=fun a w c d=>by
 obtain ⟨g',i,j,k⟩:=d.freezeMap;exact h g' i k a w c j
end
def iter (r m:Nat)(es:Array MapEntry)(clk:Nat)(vis:List MapEntry):Ent:=⟨some r,fun oo=>oo=some (.mapIter (some m) clk (vis.map (·.born)).toArray clk)⟩
structure Vis (es:Array MapEntry)(vis:List MapEntry):Prop where
 sub:∀ e∈vis,e∈es.toList
 nodup:(vis.map (·.born)).Nodup
theorem An (h:Stamped es clk){a b:MapEntry}(l:a∈es.toList)(hb:b∈es.toList)(e:a.born=b.born):a=b:=by
 have m:=h.2.1;obtain ⟨i,f,rfl⟩:=zc8 l;obtain ⟨j,g,rfl⟩:=zc8 hb;have:i=j:=by
  have k:=List.nodup_iff_pairwise_ne.1 m;by_cases c:i=j
  ·exact c
  ·exfalso
   rcases Nat.lt_or_gt_of_ne c with d | d
   ·have:=zd1.1 k i j (by simpa using f) (by simpa using g) d;simp at this;exact this (by simpa using e)
   ·have:=zd1.1 k j i (by simpa using g) (by simpa using f) d;simp at this;exact this (by simpa using e.symm)
 subst this;rfl
section
variable {m r:Nat}{vis:List MapEntry}
theorem SO.range (c:P.underlying t=some (.map kt et))(d:ev f x=some (.map<|some m))(hm:g m=some (.map es clk)) :
  SO P N E ⟨dst,.range t x,ty,pos,af,gd⟩ f g s fun u g' s'=>∃ r,u=pp r 0∧g=g'∧s'=iter r m es clk []::s :=
 IH fun a w i b=>⟨pp w.heap.size 0,{ w with heap:=w.heap.push (.mapIter (some m) clk #[] clk) },g,iter w.heap.size m es clk []::s,by
  have hb:=b.known _ _ hm;simp[execOp,i.ev d,Instr.range,run_underlying c,MapKept.run_getObj_map hb],b.alloc (e:=iter w.heap.size m es clk []) rfl rfl,_,rfl,rfl,rfl⟩
theorem SO.next (i:Nat)(Z:ev f x=some (pp r 0))(M:s[i]?=some (iter r m es clk vis))(hm:g m=some (.map es clk))(D:Stamped es clk)(hv:Vis es vis) :
  SO P N E ⟨dst,.next x false,ty,pos,af,gd⟩ f g s fun u g' s'=>g=g' ∧
   ((u = .tuple #[.bool false]∧s=s'∧∀ e∈es.toList,e∈vis)∨∃ e,e∈es.toList∧e.born ∉ vis.map (·.born)∧u = .tuple #[.bool true,e.key,e.val]∧s'=s.set i (iter r m es clk<|vis++[e])) :=
 IH fun a w ha F=>by
  have O:=F.own _<|zg3 M;have hb:=F.known _ _ hm;have hr:w.heap[r]?=some (.mapIter (some m) clk (vis.map (·.born)).toArray clk):=by simpa [iter] using O
  have p:(getObj r).run P w = .ok (.mapIter (some m) clk (vis.map (·.born)).toArray clk) w:=by simp[getObj,Sem.run,hr]
  have d:∀ e∈es.toList,e.born<clk:=D.1;have G:(es.all (·.born≥clk))=true→es = #[]:=fun h=>by
   rw[Array.all_eq_true_iff_forall_mem] at h;apply Array.eq_empty_of_size_eq_zero;cases t:es.size with
   | zero=>rfl
   | succ q =>
    exfalso;have h0:0<es.size:=oM;have B:=h es[0]<|Array.getElem_mem h0;have h2:=d es[0] dO;simp at B;omega
  have v:(es.filter fun e=>!(vis.map (·.born)).toArray.contains e.born).filter (·.born<clk)=es.filter fun e=>!(vis.map (·.born)).toArray.contains e.born:=by
   apply Array.ext';simp only[Array.toList_filter];rw[List.filter_eq_self];intro e C;have:=d e (zh5.1 C).1;simpa using this
  have y:(es.filter fun e=>!(vis.map (·.born)).toArray.contains e.born).filter (·.born≥clk) = #[]:=by
   apply Array.ext';simp only[Array.toList_filter];rw[List.filter_eq_nil_iff];intro e C;have:=d e (zh5.1 C).1;simp;omega
  generalize Q:es.filter (fun e=>!(vis.map (·.born)).toArray.contains e.born)=left at v y;have j:∀ e,e∈left.toList↔e∈es.toList∧e.born ∉ vis.map (·.born):=fun e=>by
   rw[← Q];simp
  have c:(!(vis.map (·.born)).toArray.isEmpty && !es.isEmpty&&es.all (·.born≥clk))=false:=by
   cases B:es.all (·.born≥clk) with
   | false=>simp
   | true=>rw[G B];simp
  have o:=F.fresh _ (zg3 M) r rfl;by_cases b:left = #[]
  ·-- none is left
   refine⟨.tuple #[.bool false],w,g,s,?_,F,I,.inl ⟨I,I,fun e C=>?_⟩⟩
   ·simp only[execOp,ha.ev Z,Instr.next,Sem.run_bind,p,zd2,MapKept.run_getObj_map hb,c,Bool.false_eq_true,if_false,Sem.run_pure,Q,v,y,b];simp[choose,Sem.run,Question.forced]
   ·by_cases l:e.born∈vis.map (·.born)
    ·obtain ⟨e',H,R⟩:=zf3.1 l;rw[← An D (hv.sub e' H) C R];exact H
    ·have:=(j e).2 ⟨C,l⟩;rw[b] at this;simp at this
  ·have t:0<left.size:=by
    rcases Nat.eq_zero_or_pos left.size with h | h
    ·exact absurd (Array.eq_empty_of_size_eq_zero h) b
    ·exact h
   have z:((if left.isEmpty then #[none] else #[])++(left ++ #[]).map some:Array<|Option MapEntry)=left.map some:=by
    have:left.isEmpty=false:=by simpa using b
    simp[this]
   -- the entry that is drawn
   have S:∃ (q:Nat) (w':World),(choose<|.mapNext left.size).run P w = .ok q w'∧q<left.size∧∃ n,w.drawn≤n∧w'={ w with drawn:=n }:=by
    by_cases B:left.size≤1
    ·exact⟨0,w,by simp[choose,Sem.run,Question.forced,B],t,w.drawn,dm _,I⟩
    ·exact⟨_,_,by simp[choose,Sem.run,Question.forced,B,Question.cut];rfl,Ja _ t,w.drawn+1,Nat.le_succ _,rfl⟩
   obtain ⟨q,w',T,U,n,V,A⟩:=S;have W:w'.heap[r]?=some (.mapIter (some m) clk (vis.map (·.born)).toArray clk):=by rw[A];exact hr
   have J:(setObj r<|.mapIter (some m) clk ((vis.map (·.born)).toArray.push left[q].born) clk).run P w' = .ok () { w' with heap:=w'.heap.setIfInBounds r (.mapIter (some m) clk ((vis.map (·.born)).toArray.push left[q].born) clk) }:=by
    simp[setObj,Sem.run,W]
   have l:left[q]∈left.toList:=by simp
   refine⟨.tuple #[.bool true,left[q].key,left[q].val],{ w' with heap:=w'.heap.setIfInBounds r (.mapIter (some m) clk ((vis.map (·.born)).toArray.push left[q].born) clk) },g,s.set i<|iter r m es clk<|vis++[left[q]],?_,?_,I,.inr ⟨left[q],((j _).1 l).1,((j _).1 l).2,I,I⟩⟩
   ·simp only[execOp,ha.ev Z,Instr.next,Sem.run_bind,p,zd2,MapKept.run_getObj_map hb,c,Bool.false_eq_true,if_false,Sem.run_pure,Q,v,y];rw[z];simp only[Array.size_map,T,zd2];have X:(left.map some)[q]?=some (some left[q]):=by simp[U]
    simp only[X,Sem.run_bind,J,zd2,Sem.run_pure]
   ·have Y:At E g s w':=by rw[A];exact F.drew n V
    have K:r<w'.heap.size:=by rw[A];exact o.2
    refine Y.turn M I ⟨I,(by exact dm _)⟩ I dO (fun k _ hk=>by simp only[Array.getElem?_setIfInBounds_ne (fun e=>hk (by simp[iter,e]):r≠k)]) ?_ (fun b' L=>?_)
    ·simp[iter,K]
    ·simp only[iter,zg8] at L;subst L;exact⟨by simpa using K,.inl I⟩
theorem SQ.entry {e:MapEntry}(i:Nat)(p:ev f x=some (pp r 0))(q:s[i]?=some (iter r m es clk<|vis++[e]))(hm:g m=some (.map es clk))(j:Stamped es clk)(n:e∈es.toList) :
  SQ P N E ⟨dst,.entry x,ty,pos,af,gd⟩ f g s<|.tuple #[e.key,e.val]:=fun a w t o=>by
 have k:=o.own _<|zg3 q;have hb:=o.known _ _ hm;have hr:w.heap[r]?=some (.mapIter (some m) clk ((vis++[e]).map (·.born)).toArray clk):=by simpa [iter] using k
 have d:(getObj r).run P w = .ok (.mapIter (some m) clk ((vis++[e]).map (·.born)).toArray clk) w:=by simp[getObj,Sem.run,hr]
 have l:((vis++[e]).map (·.born)).toArray.back?=some e.born:=by simp
 have b:es.find? (·.born == e.born)=some e:=by
  rw[← Array.find?_toList];have u:(es.toList.find? (·.born == e.born)).isSome:=by
   rw[List.find?_isSome];exact⟨e,n,by simp⟩
  obtain ⟨e',c⟩:=zh9.1 u;have v:=List.find?_some c;have y:=zk7 c;rw[c,An j y n<|by simpa using v]
 simp[execOp,t.ev p,Instr.entry,d,MapKept.run_getObj_map hb,b]
end
def za3:=@SU.build
def zb5:=@SL.freeze
def zd6:=@SL.freezeRow
def H6:=@SQ.lookup
def I4:=@SO.range
def IB:=@SC.freezeMap
def Io:=@SO.mkMap
def Ju:=@ST.freezeMap
def qn:=@SQ.lookupOk
def tn:=@SO.mapUpdate
end Go.Sy
namespace Go.Pl
open Go.Sy
theorem ay.ins {α β:Type}{R:α→β→Prop}{f:α→Int}{h:β→Int}(d:∀ a b,R a b→f a=h b){a:α}{b:β}(c:R a b):∀ {l:List α} {m:List β},ay R l m→ay R (ins f a l) (ins h b m)
 | [],[],_=>⟨c,trivial⟩
 | x::l,y::m,hl=>by
  unfold Pl.ins;rw[d a b c,d x y hl.1];split
  ·exact⟨c,hl⟩
  ·exact⟨hl.1,ay.ins d c hl.2⟩
 | [],_::_,hl=>hl.elim
 | _::_,[],hl=>hl.elim
theorem ay.sortBy {α β:Type}{R:α→β→Prop}{f:α→Int}{h:β→Int}(c:∀ a b,R a b→f a=h b):∀ {l:List α} {m:List β},ay R l m→ay R (sortBy f l) (sortBy h m)
 | [],[],_=>trivial
 | _::_,_::_,hl=>ay.ins c hl.1<|ay.sortBy c hl.2
 | [],_::_,hl=>hl.elim
 | _::_,[],hl=>hl.elim
end Go.Pl
namespace Go.Proofs.YtpmoadbbfobbcaaGreatDoor
open _root_.Go.Proofs.Tryz _root_.Go.Proofs.YtpmoadbbfobbcaaGreatDoor.Tryz
open Go Go.Sy Go.Pl Go.Proofs
set_option maxRecDepth 100000
def ci (a b:Int):Int:=(IntKind.i64.wrap<|a.tmod b+b).tmod b
variable (E:World)(g:PH)(s:Own)
theorem bL (a b:Int)(hb:b≠0):Ctr Tryz.prog E 62 #[vi a,vi b] g s
  (fun r g' s'=>r=vi (ci a b)∧g=g'∧s=s'):=by
 exact zb2 (args:=[vi a,vi b]) func62 I ntmps62 (bE I)<|rZ<|aT I<|sW I<|lM I<|lU (zd9 I I oM)<|lM I<|lU (ze2 I I)<|lM I<|lU (zd9 I I oM)<|aT I<|rE<|za8 (.inl I) results62 I ⟨I,I,I⟩
theorem vI (v u:Value)(l m:List Int)(j:dA g v l)(n:dA g u m)(hl:l.length<4611686018427387904):Ctr Tryz.prog E 16 #[v,u] g s
  (fun r g' s'=>r=vb (decide<|l=m)∧g=g'∧s=s'):=by
 obtain ⟨p,c,rfl⟩:=SlA.form j;obtain ⟨q,d,rfl⟩:=SlA.form n;refine zb2 (args:=[.slice p l.length c,.slice q m.length d]) func16 I ntmps16 (bE I)<|rZ<|aT I<|sQ<|sW I<|lU (eN aA I)<|lM I<|lU (eN aA I)<|lU (nQ I I)<|tZ<|iP I (fun b=>?_) (fun b=>?_)
 ·exact rZ<|aT I<|rE<|tR<|za8 (.inl I) results16 I ⟨by have:l≠m:=fun e=>b (by rw[e]);simp[this],I,I⟩
 ·refine kP<|tN<|sQ<|rZ<|aT I<|bK ?_;have w:l.length=m.length:=oM;refine oP (ι:=Nat) (fun k=>[(0,.slice p l.length c),(1,.slice q m.length d),(5,vi k)]) (fun _=>g) (fun _=>s) (fun k=>k≤l.length∧l.take k=m.take k) (fun k=>l.length - k) 0
   sB rfl rfl ⟨zf7 _,by simp⟩ ?_
  rintro k ⟨z,a⟩;refine sQ<|sW I<|lM I<|lU (eN aA I)<|yL I<|tZ<|iP I (fun o=>?_) (fun o=>?_)
  ·have f:k<l.length:=oM;have i:k<m.length:=oM;have x:=SlA.based j oM;have y:=SlA.based n oM;refine kP<|tN<|sQ<|bK<|sQ<|dW [] [(0,2),(1,2),(2,2),(3,1),(4,2),(5,2),(6,2),(7,1),(8,2)] Tryz.mixed kR<|yM I<|yM I<|pU I (iA aA zT3 I I io oM<|by (simp[slen];omega))<|pQ I (eB iT3 I (SlA.rd j) (bd f) I) dC ?_;refine yM I<|yM I<|pU I (iA aA zT3 I I io oM<|by (simp[slen];omega))<|pQ I (eB iT3 I (SlA.rd n) (bd i) I) dC ?_;refine pU I (nQ I I)<|du<|tN (iP I (fun hd=>?_) fun hd=>?_)
   ·exact rZ<|aT I<|rE<|bR<|tR<|tR<|bR<|tR<|za8 (.inl I) results16 I ⟨by have:l≠m:=fun e=>hd (by simp[e]);simp[this],I,I⟩
   ·exact kP<|bN<|tN<|rG<|lM I<|yD I<|lA I<|cp<|ct (k+1) sB I I ⟨oM,by rw[tS f,tS i,a,zh1 hd]⟩ oM
  ·refine xI<|tX<|tX<|bX<|tN<|rZ<|aT I<|rE ?_;have t:k=l.length:=oM;subst t;have:l=m:=by rw[tL<|dm _,tL oM] at a;exact a
   exact za8 (.inl I) results16 I ⟨by simp[this],I,I⟩
inductive SoI:(α:Type)→(k:Nat)→Enc α k→(T TS f1 f2 f3 f4 f5 f6:Nat)→Prop
 | c:SoI Rc 3 encCell 61 27 213 192 133 143 84 28
 | s:SoI ak 2 encSide 87 45 241 231 210 211 186 131
variable {k T TS f1 f2 f3 f4 f5 f6 i j:Nat}
abbrev SoI.en {α:Type}{e:Enc α k}(_:SoI α k e T TS f1 f2 f3 f4 f5 f6):Enc α k:=e
abbrev SoI.ty {α:Type}{e:Enc α k}(_:SoI α k e T TS f1 f2 f3 f4 f5 f6):TypeId:=T
section
variable {α:Type}{e:Enc α k}(w:SoI α k e T TS f1 f2 f3 f4 f5 f6)
include w
theorem SoI.uS:Tryz.prog.underlying TS=some (.slice T):=by
 cases w
 ·exact aB
 ·exact aW
theorem SoI.zE:∀ w,(sizeOf T).run Tryz.prog w = .ok k w:=by
 cases w
 ·exact ar
 ·exact aV
theorem SoI.aE:∀ w,(isAgg T).run Tryz.prog w = .ok true w:=by
 cases w
 ·exact dT
 ·exact iV
theorem SoI.kf1:∀ args w,(callFunc f1 args).run Tryz.prog w = .ok (.enter f1 args) w:=by
 cases w
 ·exact call213
 ·exact call241
theorem SoI.kf2:∀ args w,(callFunc f2 args).run Tryz.prog w = .ok (.enter f2 args) w:=by
 cases w
 ·exact call192
 ·exact call231
theorem SoI.kf3:∀ args w,(callFunc f3 args).run Tryz.prog w = .ok (.enter f3 args) w:=by
 cases w
 ·exact call133
 ·exact call210
theorem SoI.kf4:∀ args w,(callFunc f4 args).run Tryz.prog w = .ok (.enter f4 args) w:=by
 cases w
 ·exact call143
 ·exact call211
theorem SoI.kf5:∀ args w,(callFunc f5 args).run Tryz.prog w = .ok (.enter f5 args) w:=by
 cases w
 ·exact call84
 ·exact call186
theorem nm (E:World)(g:PH)(s:Own)(v z:Value)(p A x B q:List α)(M:A.length=B.length)(hn:(p++A++x++B++q).length<2305843009213693952)(a b n:Int)(N:a=p.length)(hb:b=p.length+A.length+x.length)(C:n=A.length) :
  Ctr Tryz.prog E f1 #[v,vi a,vi b,vi n,z] g (rowA e T v (p++A++x++B++q)::s) fun _ g' s'=>g=g'∧s'=rowA e T v (p++B++x++A++q)::s:=by
 have uS:=w.uS;have zE:=w.zE;have aE:=w.aE;have w2:=w;cases w2
 all_goals
  subst N hb C;simp only[ze6] at hn;refine Ctr.facts fun ⟨O,l⟩=>?_;obtain ⟨r,t,rfl⟩:=ag (i:=0) l rfl;have m:A≠[]→based (.slice r (p++A++x++B++q).length t)=true:=fun D=>by
   obtain ⟨U,V,P⟩:=bI (i:=0) l rfl (by simp;have:=List.length_pos_iff.2 D;omega);rw[P];rfl
  clear l O;generalize Q:(p++A++x++B++q).length=L at *;generalize F:Value.slice r L t=v at *;have j:slen v=L:=by rw[← F];rfl
  simp only[ze6] at Q
  first | refine zb2 (args:=[v,vi p.length,vi<|p.length+A.length+x.length,vi A.length,z]) func213 rfl ntmps213 (bE rfl) ?_ | refine zb2 (args:=[v,vi p.length,vi<|p.length+A.length+x.length,vi A.length,z]) func241 rfl ntmps241 (bE rfl) ?_
  refine rZ<|aT I<|bK<|oP (ι:=type_of% q×type_of% q×type_of% q×type_of% q) (fun i=>[(0,v),(1,vi p.length),(2,vi<|p.length+A.length+x.length),(3,vi A.length),(4,z),(10,vi i.1.length)]) (fun _=>g) (fun i=>rowA w.en w.ty v (p++i.2.2.1++i.2.1++x++i.1++i.2.2.2++q)::s) (fun i=>A=i.1++i.2.1∧B=i.2.2.1++i.2.2.2∧i.1.length=i.2.2.1.length) (fun i=>i.2.1.length) ([],A,[],B) sB I dO ⟨I,I,I⟩ ?_;rintro ⟨A1,A2,B1,B2⟩ ⟨hA,hB,u⟩;dsimp only at hA hB u ⊢;have f:A.length=A1.length+A2.length:=by rw[hA];simp
  have o:B.length=B1.length+B2.length:=by rw[hB];simp
  refine sQ<|sW I<|lM I<|yL I<|tZ<|iP I (fun G=>?_) (fun G=>?_)
  ·cases A2 with
   | nil=>simp at f;omega
   | cons d A2 =>
   cases B2 with
   | nil=>simp at f o;omega
   | cons c B2 =>
   simp only[ze9] at f o;have k:=m (by rw[hA];simp);have H:(p++B1++(d::A2)++x++A1++(c::B2)++q)[((p.length:Int)+(A1.length:Int)).toNat]?=some d:=by
    have:p++B1++(d::A2)++x++A1++(c::B2)++q=(p++B1)++d::(A2++x++A1++(c::B2)++q):=by simp
    rw[this];exact bV (by simp;omega)
   have J:(p++B1++(d::A2)++x++A1++(c::B2)++q)[((p.length:Int)+A.length+x.length+(A1.length:Int)).toNat]?=some c:=by
    have:p++B1++(d::A2)++x++A1++(c::B2)++q=(p++B1++(d::A2)++x++A1)++c::(B2++q):=by simp
    rw[this];exact bV (by simp;omega)
   refine kP<|tN<|sQ<|bK<|dW [21,23] [(0,2),(1,2),(2,2),(3,2),(4,2),(5,2),(6,2),(7,2),(8,2),(9,2),(10,2),(11,2),(12,2),(13,1),(14,2),(15,2),(16,2),(17,2),(18,2),(19,1),(20,2),(21,0),(22,2),(23,0)] Tryz.mixed kR<|yM I<|yM I<|yM I<|pU I (aD I I oM)<|yM I<|yM I<|yM I<|pU I (aD I I oM)<|yM I<|yM I<|yM I<|pU I (aD I I oM)<|pU I (iA uS zE I I k oM<|by rw[j];omega) ?_;refine gB I (SQ.elemA aE zE I (Rd.rowA 0 I) J)<|yM I<|yM I<|yM I<|pU I (aD I I oM)<|pU I (iA uS zE I I k oM<|by rw[j];omega) ?_;refine gB I (SQ.elemA aE zE I (Rd.rowA 0 I) H)<|pU I (iA uS zE I I k oM<|by rw[j];omega)<|H8 I (SO.setA (a:=c) 0 zE I I I (by simp;omega) I) (.inl dC) ?_;rintro _ _ _ ⟨rfl,rfl⟩;refine pU I (iA uS zE I I k oM<|by rw[j];omega)<|H8 I (SO.setA (a:=d) 0 zE I I I (by simp;omega) I) (.inl dC) ?_;rintro _ _ _ ⟨rfl,rfl⟩;refine du<|bN<|tN<|rG<|lM I<|yD I<|lA I<|cp ?_;have y:((p++B1++(d::A2)++x++A1++(c::B2)++q).set ((p.length:Int)+(A1.length:Int)).toNat c).set ((p.length:Int)+A.length+x.length+(A1.length:Int)).toNat d=p++(B1++[c])++A2++x++(A1++[d])++B2++q:=by
    have R:p++B1++(d::A2)++x++A1++(c::B2)++q=(p++B1)++d::(A2++x++A1++(c::B2)++q):=by simp
    rw[R,ee<|by simp;omega];have S:(p++B1)++c::(A2++x++A1++(c::B2)++q)=(p++B1++c::(A2++x++A1))++c::(B2++q):=by simp
    rw[S,ee<|by simp;omega];simp
   exact ct (A1++[d],A2,B1++[c],B2) ⟨I,I,I,I,I,bP dO,trivial⟩ I (by dsimp only;rw[← y];rfl) ⟨by simp[hA],by simp[hB],by simp[u]⟩ dO
  ·refine xI<|tX<|tX<|bX ?_;cases A2 with
   | cons d A2=>simp at f;omega
   | nil =>
   cases B2 with
   | cons d A2=>simp at f o;omega
   | nil =>
   exact Iv (.inr I) (by exact results213) ⟨I,by simp[hA,hB]⟩
theorem Gt (E:World)(g:PH)(s:Own)(v l:Value)(p U V q:List α)(B:0<U.length)(C:0<V.length)(hn:(p++U++V++q).length<2305843009213693952)(a m b:Int)(G:a=p.length)(hm:m=p.length+U.length)(hb:b=p.length+U.length+V.length) :
  Ctr Tryz.prog E f2 #[v,vi a,vi m,vi b,l] g (rowA e T v (p++U++V++q)::s) fun _ g' s'=>g=g'∧s'=rowA e T v (p++V++U++q)::s:=by
 have uS:=w.uS;have zE:=w.zE;have aE:=w.aE;have kf1:=w.kf1;have w2:=w;cases w2
 all_goals
  simp only[ze6] at hn
  first | refine zb2 (args:=[v,vi a,vi m,vi b,l]) func192 rfl ntmps192 (bE rfl) ?_ | refine zb2 (args:=[v,vi a,vi m,vi b,l]) func231 rfl ntmps231 (bE rfl) ?_
  refine sW I<|lM I<|lU (sU I I oM)<|aT I<|sW I<|lM I<|lU (sU I I oM)<|aT I<|lu (ι:=type_of% q×type_of% q×type_of% q×type_of% q) (fun i=>[(0,v),(1,vi a),(2,vi m),(3,vi b),(4,l),(10,vi i.2.1.length),(11,vi i.2.2.1.length)]) (fun _=>g) (fun i=>rowA w.en w.ty v (i.1++i.2.1++i.2.2.1++i.2.2.2)::s) (fun i=>p++V++U++q=i.1++i.2.2.1++i.2.1++i.2.2.2∧(m=i.1.length+i.2.1.length∧0<i.2.1.length∧i.2.1.length=i.2.2.1.length)) ?_ ?_
  ·refine bK<|oP (ι:=type_of% q×type_of% q×type_of% q×type_of% q) (fun i=>[(0,v),(1,vi a),(2,vi m),(3,vi b),(4,l),(10,vi i.2.1.length),(11,vi i.2.2.1.length)]) (fun _=>g) (fun i=>rowA w.en w.ty v (i.1++i.2.1++i.2.2.1++i.2.2.2)::s) (fun i=>p++V++U++q=i.1++i.2.2.1++i.2.1++i.2.2.2∧(m=i.1.length+i.2.1.length∧0<i.2.1.length∧0<i.2.2.1.length)) (fun i=>i.2.1.length+i.2.2.1.length) (p,U,V,q) ⟨I,I,I,I,I,bP lN,bP lN,trivial⟩ I I ⟨I,lN,B,C⟩ ?_;rintro ⟨d,U1,V1,f⟩ ⟨c,j,k,u⟩;dsimp only at c j k u ⊢;have r:p.length+V.length+U.length+q.length=d.length+V1.length+U1.length+f.length:=by have:=congrArg List.length c;simp at this;omega
   refine sQ<|sW I<|lM I<|lU (nQ I I)<|tZ<|iP I (fun x=>?_) (fun x=>?_)
   ·refine kP<|tN<|bK<|sW I<|lM I<|lU (gR I I)<|tZ<|iP I (fun y=>?_) (fun y=>?_)
    ·obtain ⟨Ua,Ub,n,z⟩:∃ Ua Ub,U1=Ua++Ub∧Ua.length=V1.length:=⟨U1.take V1.length,U1.drop V1.length,by simp,lN⟩;have D:U1.length=Ua.length+Ub.length:=by rw[n];simp
     have e1:d++U1++V1++f=d++Ua++Ub++V1++f:=by rw[n];simp
     rw[e1];refine sW I<|lM I<|lM I<|lU (sU I I oM)<|lM I<|lM I<|lM I<|lW (bt kf1 I<|nm w E g s v l d Ua Ub V1 f z lN _ _ _ lN lN lN) ?_;rintro _ _ _ ⟨rfl,rfl⟩;exact tZ<|rG<|lM I<|lM I<|lU (sU I I oM)<|lA I<|cp<|bN<|ct (d++V1,Ub,Ua,f) ⟨I,I,I,I,I,bP lN,bP lN,trivial⟩ I dO ⟨by rw[c,n];simp,lN,lN,lN⟩ lN
    ·obtain ⟨Va,Vb,o,A⟩:∃ Va Vb,V1=Va++Vb∧Vb.length=U1.length:=⟨V1.take<|V1.length - U1.length,V1.drop<|V1.length - U1.length,by simp,lN⟩;have F:V1.length=Va.length+Vb.length:=by rw[o];simp
     have e1:d++U1++V1++f=d++U1++Va++Vb++f:=by rw[o];simp
     rw[e1];refine sW I<|lM I<|lM I<|lU (sU I I oM)<|lM I<|lM I<|yD I<|lM I<|lU (sU I I oM)<|lM I<|lM I<|lW (bt kf1 I<|nm w E g s v l d U1 Va Vb f A.symm lN _ _ _ lN lN lN) ?_;rintro _ _ _ ⟨rfl,rfl⟩;exact tZ<|rG<|lM I<|lM I<|lU (sU I I oM)<|lA I<|cp<|bN<|ct (d,Vb,Va,U1++f) ⟨I,I,I,I,I,bP lN,bP lN,trivial⟩ I dO ⟨by rw[c,o];simp,lN,lN,lN⟩ lN
   ·exact xI<|tX<|tX<|bX<|za9 (d,U1,V1,f) sB I I ⟨c,j,k,lN⟩
  ·rintro ⟨d,U1,V1,f⟩ ⟨c,j,k,t⟩;dsimp only at c j k t ⊢;have r:p.length+V.length+U.length+q.length=d.length+V1.length+U1.length+f.length:=by have:=ze3 List.length c;simp at this;omega
   have e1:d++U1++V1++f=d++U1++[]++V1++f:=by simp
   rw[e1];refine rG<|lM I<|lM I<|lM I<|lU (sU I I oM)<|lM I<|lM I<|lM I<|lW (bt kf1 I<|nm w E g s v l d U1 [] V1 f t lN _ _ _ lN lN lN) ?_;rintro _ _ _ ⟨rfl,rfl⟩;exact cp<|Iv (.inr I) (by exact results192) ⟨I,by rw[c];simp⟩
theorem su (E:World)(g:PH)(s:Own)(v D:Value)(key:α→Int)(hc:nS E D e key g)(p m q:List α)(hn:(p++m++q).length<2305843009213693952)(a b:Int)(ha:a=p.length)(hb:b=p.length+m.length) :
  Ctr Tryz.prog E f3 #[v,vi a,vi b,D] g (rowA e T v (p++m++q)::s) fun _ g' s'=>g=g'∧∃ Q,aN key m Q∧Srt key Q∧s'=rowA e T v (p++Q++q)::s:=by
 have uS:=w.uS;have zE:=w.zE;have aE:=w.aE;have w2:=w;cases w2
 all_goals
  refine Ctr.facts fun ⟨W,F⟩=>?_;have G:m≠[]→based v=true:=fun R=>by
   obtain ⟨b0,c0,S⟩:=bI (i:=0) F rfl (by simp;have:=List.length_pos_iff.2 R;omega);rw[S];rfl
  have d:slen v=(p++m++q).length:=by
   obtain ⟨X,Y,S⟩:=ag (i:=0) F rfl;rw[S];rfl
  clear F W;simp only[ze6] at hn d
  first | refine zb2 (args:=[v,vi a,vi b,D]) func133 rfl ntmps133 (bE rfl) ?_ | refine zb2 (args:=[v,vi a,vi b,D]) func210 rfl ntmps210 (bE rfl) ?_
  refine sW I<|yD I<|aT I<|bK<|oP (ι:=type_of% q×type_of% q×type_of% q) (fun i=>[(0,v),(1,vi a),(2,vi b),(3,D),(8,vi<|p.length+1+i.1.length)]) (fun _=>g) (fun i=>rowA w.en w.ty v (p++(i.2.1++i.2.2)++q)::s) (fun i=>Srt key i.2.1∧aN key m (i.2.1++i.2.2)∧(i.2.1.length=i.1.length+1∨(m=[]∧i.1=[]))) (fun i=>i.2.2.length) ([],m.take 1,m.drop 1) ⟨I,I,I,I,bP<|by simp;omega,trivial⟩ I (by rw[Je]) ⟨by cases m with | nil=>exact Srt.nil | cons x r=>exact Srt.one x,by rw[Je];exact aN.refl m,by cases m with | nil=>exact .inr ⟨I,I⟩ | cons x r=>exact .inl dO⟩ ?_;rintro ⟨cn,S1,T1⟩ ⟨f,n,H⟩;dsimp only at f n H ⊢;have j:S1.length+T1.length=m.length:=by have:=n.1;simpa using this
  refine sQ<|sW I<|lM I<|yL I<|tZ<|iP I (fun U=>?_) (fun U=>?_)
  ·have J:S1.length=cn.length+1:=by
    rcases H with h | ⟨h,Z⟩
    ·exact h
    ·rw[h] at hb;simp at hb;omega
   cases T1 with
   | nil=>simp at j;omega
   | cons x T1 =>
   simp only[List.length_cons] at j;have k:=G (by intro e;rw[e] at j;simp at j);refine kP<|tN<|lu (ι:=type_of% q×type_of% q) (fun i=>[(0,v),(1,vi a),(2,vi b),(3,D),(8,vi<|p.length+1+cn.length)]) (fun _=>g) (fun i=>rowA w.en w.ty v (p++(i.1++x::i.2++T1)++q)::s) (fun i=>S1=i.1++i.2∧(∀ y∈i.1,key y≤key x)∧(∀ y∈i.2,key x<key y)) ?_ ?_
   ·refine bK<|sW I<|aT I<|bK<|oP (ι:=type_of% q×type_of% q) (fun i=>[(0,v),(1,vi a),(2,vi b),(3,D),(8,vi<|p.length+1+cn.length),(9,vi<|p.length+i.1.length)]) (fun _=>g) (fun i=>rowA w.en w.ty v (p++(i.1++x::i.2++T1)++q)::s) (fun i=>S1=i.1++i.2∧(∀ y∈i.2,key x<key y)) (fun i=>i.1.length) (S1,[]) ⟨I,I,I,I,I,bP<|by rw[J];simp;omega,trivial⟩ I dO ⟨by simp,by simp⟩ ?_;rintro ⟨A,B⟩ ⟨o,hB⟩;dsimp only at o hB ⊢;have V:S1.length=A.length+B.length:=by rw[o];simp
    have L:(p++(A++x::B++T1)++q)[((p.length:Int)+A.length).toNat]?=some x:=by
     have:p++(A++x::B++T1)++q=(p++A)++x::(B++T1++q):=by simp
     rw[this];exact bV (by simp;omega)
    rcases List.eq_nil_or_concat A with c | ⟨A0,y,c⟩
    ·subst c;refine sQ<|BY 34 (false) ?_ ?_
     ·refine dW [] [(0,2),(1,2),(2,2),(3,2),(4,2),(5,2),(6,2),(7,2),(8,1),(9,2),(10,2),(11,2),(12,2),(13,1),(14,0),(15,2),(16,2)] Tryz.mixed kR<|yM I<|yM I<|pU I (gR I I)<|yM I<|Jf ?_ ?_
      ·intro t;exfalso;simp at t;omega
      ·intro t;refine yG I<|yG I<|yG I<|yG I<|yI I<|yG I<|yG I<|yG I<|yG I<|yI I<|fO I (gZ I I I dC) dC ⟨by exact zb9 _,(by exact .refl _)⟩ ?_;refine yG I<|pU I (wF I I)<|du ?_;exact zb1 (I) mI
     exact za1 I<|xI<|tX<|tX<|bX<|bN<|za9 ([],B) sB I I ⟨o,by simp,hB⟩
    ·rw[List.concat_eq_append] at c;have a0:A.length=A0.length+1:=by rw[c];simp
     have M:(p++(A++x::B++T1)++q)[((p.length:Int)+A.length - 1).toNat]?=some y:=by
      have:p++(A++x::B++T1)++q=(p++A0)++y::(x::B++T1++q):=by rw[c];simp
      rw[this];exact bV lN
     refine sQ<|BY 34 (decide<|key x<key y) ?_ ?_
     ·refine dW [] [(0,2),(1,2),(2,2),(3,2),(4,2),(5,2),(6,2),(7,2),(8,1),(9,2),(10,2),(11,2),(12,2),(13,1),(14,0),(15,2),(16,2)] Tryz.mixed kR<|yM I<|yM I<|pU I (gR I I)<|yM I<|Jf ?_ ?_
      ·intro t;refine yJ I<|yJ I<|yJ I<|zb3 I (gT I I I dC) (iA uS zE I I k oM<|by rw[d];omega) dC ?_;refine By I (gT I I I dC) (SQ.elemA aE zE I (Rd.rowA 0 I) L) dC<|yJ I<|yJ I<|zb3 I (gT I I I dC) (sU I I oM) dC<|zb3 I (gT I I I dC) (iA uS zE I I k oM<|by rw[d];omega) dC ?_;refine By I (gT I I I dC) (SQ.elemA aE zE I (Rd.rowA 0 I) M) dC<|Jo I (gT I I I dC) (DO I I<|hc _ _ _ _<|zb9 _) dC (.inr iR) ?_;rintro _ _ _ ⟨rfl,rfl,rfl⟩;exact zb3 I (gT I I I dC) (lS I I) dC<|pU I (wT I I)<|du<|zb1 (by rw[decide_eq_decide.2<|fy (x:=key x) (y:=key y)];rfl) mI
      ·intro t;exfalso;omega
     refine iP I (fun N=>?_) (fun N=>?_)
     ·refine kP<|tN<|sQ<|bK<|dW [15,17] [(0,2),(1,2),(2,2),(3,2),(4,2),(5,2),(6,2),(7,2),(8,2),(9,1),(10,2),(11,2),(12,2),(13,1),(14,2),(15,0),(16,2),(17,0)] Tryz.mixed kR<|yM I<|yM I<|yM I<|yM I<|pU I (sU I I oM)<|yM I<|yM I<|pU I (sU I I oM)<|pU I (iA uS zE I I k oM<|by rw[d];omega) ?_;refine gB I (SQ.elemA aE zE I (Rd.rowA 0 I) M)<|yM I<|yM I<|pU I (iA uS zE I I k oM<|by rw[d];omega) ?_;refine gB I (SQ.elemA aE zE I (Rd.rowA 0 I) L)<|pU I (iA uS zE I I k oM<|by rw[d];omega)<|H8 I (SO.setA (a:=y) 0 zE I I I lN I) (.inl dC) ?_;rintro _ _ _ ⟨rfl,rfl⟩;refine pU I (iA uS zE I I k oM<|by rw[d];omega) ?_;refine H8 I (SO.setA (a:=x) 0 zE I I I (by rw[zi4];(first | with_reducible rfl | ((try dsimp only);(try simp only[ze6,ze9,zc5,ze8,ze5,zf1])<;>omega))) rfl) (.inl dC) ?_;rintro _ _ _ ⟨rfl,rfl⟩;refine du<|bN<|tN<|rG<|lM I<|lU (sU I I oM)<|lA I<|cp ?_;have O:((p++(A++x::B++T1)++q).set ((p.length:Int)+A.length).toNat y).set ((p.length:Int)+A.length - 1).toNat x=p++(A0++x::(y::B)++T1)++q:=by
       have C:p++(A++x::B++T1)++q=(p++A)++x::(B++T1++q):=by simp
       rw[C,ee lN];have l:(p++A)++y::(B++T1++q)=(p++A0)++y::(y::B++T1++q):=by rw[c];simp
       rw[l,ee lN];simp
      exact ct (A0,y::B) ⟨I,I,I,I,I,bP lN,trivial⟩ I (by dsimp only;rw[← O];rfl) ⟨by rw[o,c];simp,by simpa using ⟨N,hB⟩⟩ lN
     ·refine xI<|tX<|tX<|bX<|bN ?_;exact za9 (A,B) sB I I ⟨o,by
       intro z hz;rw[c] at hz o;rw[o] at f;have C:=(Srt.append_iff.1 (Srt.append_iff.1 f).1).2.2
       rcases zf4.1 hz with l | l
       ·exact Int.le_trans (C z l y<|by simp) oM
       ·simp at l;rw[l];omega,hB⟩
   ·rintro ⟨A,B⟩ ⟨o,hA,hB⟩;dsimp only at o hA hB ⊢;refine rG<|lM I<|yD I<|lA I<|cp ?_;have V:S1.length=A.length+B.length:=by rw[o];simp
    rw[o] at f n;exact ct (x::cn,A++x::B,T1) ⟨I,I,I,I,bP lN,trivial⟩ I I ⟨by
      have C:=Srt.append_iff.1 f;refine Srt.append_iff.2 ⟨C.1,Srt.cons_iff.2 ⟨fun z hz=>Int.le_of_lt<|hB z hz,C.2.1⟩,fun z hz u P=>?_⟩
      rcases zf2.1 P with l | l
      ·rw[l];exact hA z hz
      ·exact C.2.2 z hz u l,by
      refine n.trans ?_;have C:aN key (B++[x])<|[x]++B:=aN.swap (fun z hz u P=>by simp at P;subst P;have:=hB z hz;omega);have l:=aN.append (aN.append (aN.refl (key:=key) A) C)<|aN.refl (key:=key) T1;simpa using l,.inl lN⟩ lN
  ·refine xI<|tX<|tX<|bX ?_;have hT:T1=[]:=by
    rcases H with h | ⟨h,Z⟩
    ·exact zf5 oM
    ·subst h;simp at j;exact j.2
   subst hT;exact Iv (.inr I) (by exact results133) ⟨I,S1,by simpa using n,f,by simp⟩
end
theorem CZ {α:Type}{key:α→Int}{V1 M1 M2 V2:List α}{x y:α}(a:Srt key<|V1++(M1++y::M2)++V2)(b:∀ z∈V1,key z<key x)(c:key y<key x):∀ z∈V1++M1++[y],key z<key x:=by
 intro z hz;have d:=(Srt.append_iff.1 (Srt.append_iff.1 (Srt.append_iff.1 a).1).2.1).2.2;simp only[zf4,zh8] at hz
 rcases hz with (hz | hz) | hz
 ·exact b z hz
 ·have:=d z hz y dO;omega
 ·rw[hz];exact c
theorem AK {α:Type}{key:α→Int}{V1 M1 M2 V2:List α}{x y:α}(a:Srt key<|V1++(M1++y::M2)++V2)(b:∀ z∈V2,key x≤key z)(c:key x≤key y):∀ z∈(y::M2)++V2,key x≤key z:=by
 intro z hz;have d:=(Srt.append_iff.1 (Srt.append_iff.1 (Srt.append_iff.1 a).1).2.1).2.1;simp only[zf4,zf2] at hz
 rcases hz with (hz | hz) | hz
 ·rw[hz];exact c
 ·have:=(Srt.cons_iff.1 d).1 z hz;omega
 ·exact b z hz
theorem qG {α:Type}(M:List α)(h:M≠[]):∃ M1 y M2,M=M1++y::M2∧M1.length=M.length / 2:=by
 have hl:=List.length_pos_iff.2 h;have a:M.length / 2<M.length:=oM;exact⟨M.take<|M.length / 2,M[M.length / 2],M.drop<|M.length / 2+1,by simp,by rw[ze5];omega⟩
section
variable {α:Type}{e:Enc α k}(w:SoI α k e T TS f1 f2 f3 f4 f5 f6)
include w
set_option maxHeartbeats 1000000 in
theorem Ga (E:World)(g:PH)(s:Own)(v r:Value)(key:α→Int)(hc:nS E r e key g)(p V q:List α)(x:α)(l:Srt key V)(hn:(p++[x]++V++q).length<2305843009213693952)
  (a m b:Int) (ha:a=p.length) (hm:m=p.length+1) (hb:b=p.length+1+V.length) :
  Ctr Tryz.prog E f4 #[v,vi a,vi m,vi b,r] g (rowA e T v (p++[x]++V++q)::s) fun _ g' s'=>g=g'∧∃ W,aN key ([x]++V) W∧Srt key W∧s'=rowA e T v (p++W++q)::s:=by
 have uS:=w.uS;have zE:=w.zE;have aE:=w.aE;have w2:=w;cases w2
 all_goals
  refine Ctr.facts fun ⟨U,t⟩=>?_;have k:based v=true:=by
   obtain ⟨b0,c0,J⟩:=bI (i:=0) t rfl lN;rw[J];rfl
  have d:slen v=(p++[x]++V++q).length:=by
   obtain ⟨X,Y,J⟩:=ag (i:=0) t rfl;rw[J];rfl
  clear t U;simp only[ze6,ze8] at hn d;have L:(p++[x]++V++q)[a.toNat]?=some x:=by
   have:p++[x]++V++q=p++x::(V++q):=by simp
   rw[this];exact bV oM
  first | refine zb2 (args:=[v,vi a,vi m,vi b,r]) func143 rfl ntmps143 (bE rfl) ?_ | refine zb2 (args:=[v,vi a,vi m,vi b,r]) func211 rfl ntmps211 (bE rfl) ?_
  refine sQ<|sW I<|lM I<|lU (sU I I oM)<|yE I<|tZ<|iP I (fun D=>?_) (fun D=>?_)
  ·refine sW I<|aT I<|sW I<|aT I<|lu (ι:=type_of% q×type_of% q) (fun i=>[(0,v),(1,vi a),(2,vi m),(3,vi b),(4,r),(10,vi<|m+i.1.length)]) (fun _=>g) (fun _=>rowA w.en w.ty v (p++[x]++V++q)::s) (fun i=>V=i.1++i.2∧(∀ y∈i.1,key y<key x)∧(∀ y∈i.2,key x≤key y)) ?_ ?_
   ·refine bK<|oP (ι:=type_of% q×type_of% q×type_of% q) (fun i=>[(0,v),(1,vi a),(2,vi m),(3,vi b),(4,r),(10,vi<|m+i.1.length),(11,vi<|m+i.1.length+i.2.1.length)]) (fun _=>g) (fun _=>rowA w.en w.ty v (p++[x]++V++q)::s) (fun i=>V=i.1++i.2.1++i.2.2∧(∀ y∈i.1,key y<key x)∧(∀ y∈i.2.2,key x≤key y)) (fun i=>i.2.1.length) ([],V,[]) ⟨I,I,I,I,I,bP lN,bP lN,trivial⟩ I I ⟨by simp,by simp,by simp⟩ ?_;rintro ⟨V1,M,V2⟩ ⟨j,c,f⟩;dsimp only at j c f ⊢;have N:V.length=V1.length+M.length+V2.length:=by rw[j];(first | with_reducible rfl | ((try dsimp only);(try simp only[IS,List.length_cons,List.length_nil,List.length_singleton,List.length_take,List.length_drop])<;>omega))
    refine sQ<|sW I<|lM I<|yL I<|tZ<|iP I (fun n=>?_) (fun n=>?_)
    ·obtain ⟨M1,y,M2,F,Z⟩:=qG M (by intro e;rw[e] at n;simp at n);have a0:M.length=M1.length+1+M2.length:=by rw[F];simp;omega
     have O:(p++[x]++V++q)[((m+V1.length+(m+V1.length+M.length)) / 2).toNat]?=some y:=by
      have:p++[x]++V++q=(p++[x]++V1++M1)++y::(M2++V2++q):=by rw[j,F];simp
      rw[this];exact bV lN
     rw[F] at j;rw[j] at l;refine kP<|tN<|bK<|sW I<|lM I<|yD I<|lU (ze1 uT3 j7 I)<|lU (I0 I I dC)<|lU (SU.eq (ze1 j7 uT3 I)<|ze3 vi<|mg _ oM oM)<|aT I<|sQ<|dW [] [(0,2),(1,2),(2,2),(3,2),(4,1),(5,2),(6,2),(7,2),(8,1),(9,0),(10,2)] Tryz.mixed kR<|yM I<|yM I<|yM I<|pU I (iA uS zE I I k oM<|by rw[d];omega) ?_;refine gB I (SQ.elemA aE zE I (Rd.rowA 0 I) O)<|yM I<|yM I<|pU I (iA uS zE I I k oM<|by rw[d];omega) ?_;refine gB I (SQ.elemA aE zE I (Rd.rowA 0 I) L)<|mf I (DO I I<|hc _ _ _ _<|zb9 _) dC (.inr iR) ?_;rintro _ _ _ ⟨rfl,rfl,rfl⟩;refine pU I (lS I I)<|du<|tN<|iP I (fun C=>?_) (fun C=>?_)
     ·exact rG<|lM I<|yD I<|lA I<|cp<|bN<|ct (V1++M1++[y],M2,V2) ⟨I,I,I,I,I,bP lN,bP lN,trivial⟩ I I ⟨by rw[j];simp,CZ l c<|fy.1 C,f⟩ lN
     ·exact rG<|lM I<|lA I<|cp<|bN<|ct (V1,M1,(y::M2)++V2) ⟨I,I,I,I,I,I,bP lN,trivial⟩ I I ⟨by rw[j];simp,c,AK l f<|by have:=mt fy.2 C;omega⟩ lN
    ·refine xI<|tX<|tX<|bX ?_;have F:M=[]:=zf5 oM;subst F;exact za9 (V1,V2) sB I I ⟨by simpa using j,c,f⟩
   ·rintro ⟨V1,V2⟩ ⟨j,c,f⟩;dsimp only at j c f ⊢;have N:V.length=V1.length+V2.length:=by rw[j];simp
    refine sQ<|sW I<|aT I<|bK<|oP (ι:=type_of% q×type_of% q) (fun i=>[(0,v),(1,vi a),(2,vi m),(3,vi b),(4,r),(10,vi<|m+V1.length),(13,vi<|a+i.1.length)]) (fun _=>g) (fun i=>rowA w.en w.ty v (p++i.1++x::i.2++V2++q)::s) (fun i=>V1=i.1++i.2) (fun i=>i.2.length) ([],V1) ⟨I,I,I,I,I,I,bP lN,trivial⟩ I (by rw[j];simp) dO ?_;rintro ⟨A,B⟩ hA;dsimp only at hA ⊢;have G:V1.length=A.length+B.length:=by rw[hA];simp
    refine sQ<|sW I<|lM I<|lU (sU I I oM)<|yL I<|tZ<|iP I (fun n=>?_) (fun n=>?_)
    ·cases B with
     | nil=>simp at G;omega
     | cons y B =>
     simp only[ze9] at G;have P:(p++A++x::(y::B)++V2++q)[(a+A.length).toNat]?=some x:=by
      have:p++A++x::(y::B)++V2++q=(p++A)++x::(y::B++V2++q):=by simp
      rw[this];exact bV lN
     have Q:(p++A++x::(y::B)++V2++q)[(a+A.length+1).toNat]?=some y:=by
      have:p++A++x::(y::B)++V2++q=(p++A++[x])++y::(B++V2++q):=by simp
      rw[this];exact bV lN
     refine kP<|tN<|sQ<|bK<|dW [15,17] [(0,2),(1,2),(2,2),(3,2),(4,2),(5,2),(6,2),(7,2),(8,2),(9,1),(10,2),(11,2),(12,2),(13,1),(14,2),(15,0),(16,2),(17,0)] Tryz.mixed kR<|yM I<|yM I<|yM I<|yM I<|pU I (aD I I oM)<|yM I<|yM I<|pU I (aD I I oM)<|pU I (iA uS zE I I k oM<|by rw[d];omega) ?_;refine gB I (SQ.elemA aE zE I (Rd.rowA 0 I) Q)<|yM I<|yM I<|pU I (iA uS zE I I k oM<|by rw[d];omega) ?_;refine gB I (SQ.elemA aE zE I (Rd.rowA 0 I) P)<|pU I (iA uS zE I I k oM<|by rw[d];omega)<|H8 I (SO.setA (a:=y) 0 zE I I I lN I) (.inl dC) ?_;rintro _ _ _ ⟨rfl,rfl⟩;refine pU I (iA uS zE I I k oM<|by rw[d];omega) ?_;refine H8 I (SO.setA (a:=x) 0 zE I I I (by rw[zi4];(first | with_reducible rfl | ((try dsimp only);(try simp only[ze6,ze9,zc5,ze8,ze5,zf1])<;>omega))) rfl) (.inl dC) ?_;rintro _ _ _ ⟨rfl,rfl⟩;refine du<|bN<|tN<|rG<|lM I<|yD I<|lA I<|cp ?_;have H:((p++A++x::(y::B)++V2++q).set (a+A.length).toNat y).set (a+A.length+1).toNat x=p++(A++[y])++x::B++V2++q:=by
      have e1:p++A++x::(y::B)++V2++q=(p++A)++x::(y::B++V2++q):=by simp
      rw[e1,ee lN];have e2:(p++A)++y::(y::B++V2++q)=(p++A++[y])++y::(B++V2++q):=by simp
      rw[e2,ee lN];simp
     exact ct (A++[y],B) ⟨I,I,I,I,I,I,bP lN,trivial⟩ I (by dsimp only;rw[← H];rfl) (by rw[hA];simp) lN
    ·refine xI<|tX<|tX<|bX<|tN<|rE<|tR ?_;have hB:B=[]:=zf5 oM;subst hB;have R:A=V1:=by simpa using hA.symm
     subst R;exact Iv (.inl I) (by exact results143) ⟨I,A++x::V2,by
      rw[j];have D:=aN.append (aN.swap (key:=key) (a:=[x]) (b:=A) fun z hz u S=>by simp at hz;subst hz;have:=c u S;omega)<|aN.refl (key:=key) V2;simpa using D,by
      rw[j] at l;obtain ⟨D,h2,h3⟩:=Srt.append_iff.1 l;exact Srt.append_iff.2 ⟨D,Srt.cons_iff.2 ⟨f,h2⟩,fun z hz u S=>by
       rcases zf2.1 S with e | e
       ·rw[e];exact Int.le_of_lt<|c z hz
       ·exact h3 z hz u e⟩,by simp⟩
  ·omega
set_option maxHeartbeats 1000000 in
theorem Ew (E:World)(g:PH)(s:Own)(v x:Value)(key:α→Int)(hc:nS E x e key g)(p U q:List α)(y:α)(t:Srt key U)(Z:1<U.length)(hn:(p++U++[y]++q).length<2305843009213693952)
  (a m b:Int) (ha:a=p.length) (hm:m=p.length+U.length) (hb:b=p.length+U.length+1) :
  Ctr Tryz.prog E f4 #[v,vi a,vi m,vi b,x] g (rowA e T v (p++U++[y]++q)::s) fun _ g' s'=>g=g'∧∃ W,aN key (U++[y]) W∧Srt key W∧s'=rowA e T v (p++W++q)::s:=by
 have uS:=w.uS;have zE:=w.zE;have aE:=w.aE;have w2:=w;cases w2
 all_goals
  refine Ctr.facts fun ⟨w0,C⟩=>?_;have r:based v=true:=by
   obtain ⟨b0,c0,N⟩:=bI (i:=0) C rfl lN;rw[N];rfl
  have j:slen v=(p++U++[y]++q).length:=by
   obtain ⟨a0,a1,N⟩:=ag (i:=0) C rfl;rw[N];rfl
  clear C w0;simp only[ze6,ze8] at hn j;have O:(p++U++[y]++q)[m.toNat]?=some y:=by
   have:p++U++[y]++q=(p++U)++y::q:=by simp
   rw[this];exact bV lN
  first | refine zb2 (args:=[v,vi a,vi m,vi b,x]) func143 rfl ntmps143 (bE rfl) ?_ | refine zb2 (args:=[v,vi a,vi m,vi b,x]) func211 rfl ntmps211 (bE rfl) ?_
  refine sQ<|sW I<|lM I<|lU (sU I I oM)<|yE I<|tZ<|iP I (fun G=>?_) (fun G=>?_)
  ·omega
  ·refine kP<|tN<|sQ<|sW I<|lM I<|lU (sU I I oM)<|yE I<|tZ<|iP I (fun P=>?_) (fun P=>?_)
   ·refine sW I<|aT I<|sW I<|aT I<|lu (ι:=type_of% q×type_of% q) (fun i=>[(0,v),(1,vi a),(2,vi m),(3,vi b),(4,x),(14,vi<|a+i.1.length)]) (fun _=>g) (fun _=>rowA w.en w.ty v (p++U++[y]++q)::s) (fun i=>U=i.1++i.2∧(∀ z∈i.1,key z≤key y)∧(∀ z∈i.2,key y<key z)) ?_ ?_
    ·refine bK<|oP (ι:=type_of% q×type_of% q×type_of% q) (fun i=>[(0,v),(1,vi a),(2,vi m),(3,vi b),(4,x),(14,vi<|a+i.1.length),(15,vi<|a+i.1.length+i.2.1.length)]) (fun _=>g) (fun _=>rowA w.en w.ty v (p++U++[y]++q)::s) (fun i=>U=i.1++i.2.1++i.2.2∧(∀ z∈i.1,key z≤key y)∧(∀ z∈i.2.2,key y<key z)) (fun i=>i.2.1.length) ([],U,[]) ⟨I,I,I,I,I,bP lN,bP lN,trivial⟩ I I ⟨by simp,by simp,by simp⟩ ?_;rintro ⟨U1,M,U2⟩ ⟨n,k,f⟩;dsimp only at n k f ⊢;have Q:U.length=U1.length+M.length+U2.length:=by rw[n];(first | with_reducible rfl | ((try dsimp only);(try simp only[IS,List.length_cons,List.length_nil,List.length_singleton,List.length_take,List.length_drop])<;>omega))
     refine sQ<|sW I<|lM I<|yL I<|tZ<|iP I (fun l=>?_) (fun l=>?_)
     ·obtain ⟨M1,z,M2,H,a2⟩:=qG M (by intro e;rw[e] at l;simp at l);have a3:M.length=M1.length+1+M2.length:=by rw[H];simp;omega
      have R:(p++U++[y]++q)[((a+U1.length+(a+U1.length+M.length)) / 2).toNat]?=some z:=by
       have:p++U++[y]++q=(p++U1++M1)++z::(M2++U2++[y]++q):=by rw[n,H];simp
       rw[this];exact bV lN
      rw[H] at n;rw[n] at t;have J:=Srt.append_iff.1 (Srt.append_iff.1 (Srt.append_iff.1 t).1).2.1;refine kP<|tN<|bK<|sW I<|lM I<|yD I<|lU (ze1 uT3 j7 I)<|lU (I0 I I dC)<|lU (SU.eq (ze1 j7 uT3 I)<|ze3 vi<|mg _ oM oM)<|aT I<|sQ<|dW [] [(0,2),(1,2),(2,2),(3,2),(4,1),(5,2),(6,2),(7,2),(8,1),(9,0),(10,2),(11,2)] Tryz.mixed kR<|yM I<|yM I<|yM I<|pU I (iA uS zE I I r oM<|by rw[j];omega) ?_;refine gB I (SQ.elemA aE zE I (Rd.rowA 0 I) O)<|yM I<|yM I<|pU I (iA uS zE I I r oM<|by rw[j];omega) ?_;refine gB I (SQ.elemA aE zE I (Rd.rowA 0 I) R)<|mf I (DO I I<|hc _ _ _ _<|zb9 _) dC (.inr iR) ?_;rintro _ _ _ ⟨rfl,rfl,rfl⟩;refine pU I (lS I I)<|pU I (IN I)<|du<|tN<|iP I (fun D=>?_) (fun D=>?_)
      ·refine rG<|lM I<|yD I<|lA I<|cp<|bN ?_;have F:key z≤key y:=by have:=mt fy.2 D;omega
       exact ct (U1++M1++[z],M2,U2) ⟨I,I,I,I,I,bP lN,bP lN,trivial⟩ I I ⟨by rw[n];simp,by
        intro u c;simp only[zf4,zh8] at c
        rcases c with (c | c) | c
        ·exact k u c
        ·have:=J.2.2 u c z dO;omega
        ·rw[c];exact F,f⟩ lN
      ·refine rG<|lM I<|lA I<|cp<|bN ?_;have F:key y<key z:=fy.1<|zh1 D;exact ct (U1,M1,(z::M2)++U2) ⟨I,I,I,I,I,I,bP lN,trivial⟩ I I ⟨by rw[n];simp,k,by
        intro u c;simp only[zf4,zf2] at c
        rcases c with (c | c) | c
        ·rw[c];exact F
        ·have:=(Srt.cons_iff.1 J.2.1).1 u c;omega
        ·exact f u c⟩ lN
     ·refine xI<|tX<|tX<|bX ?_;have H:M=[]:=zf5 oM;subst H;exact za9 (U1,U2) sB I I ⟨by simpa using n,k,f⟩
    ·rintro ⟨U1,U2⟩ ⟨n,k,f⟩;dsimp only at n k f ⊢;have Q:U.length=U1.length+U2.length:=by rw[n];simp
     refine sQ<|sW I<|aT I<|bK<|oP (ι:=type_of% q×type_of% q) (fun i=>[(0,v),(1,vi a),(2,vi m),(3,vi b),(4,x),(14,vi<|a+U1.length),(17,vi<|a+U1.length+i.1.length)]) (fun _=>g) (fun i=>rowA w.en w.ty v (p++U1++i.1++y::i.2++q)::s) (fun i=>U2=i.1++i.2) (fun i=>i.1.length) (U2,[]) ⟨I,I,I,I,I,I,bP lN,trivial⟩ I (by rw[n];simp) dO ?_;rintro ⟨A,B⟩ hA;dsimp only at hA ⊢;have a4:U2.length=A.length+B.length:=by rw[hA];simp
     refine sQ<|sW I<|lM I<|lU (gR I I)<|tZ<|iP I (fun l=>?_) (fun l=>?_)
     ·rcases List.eq_nil_or_concat A with d | ⟨A0,z,d⟩
      ·rw[d] at l;simp at l
      rw[List.concat_eq_append] at d;have Y:A.length=A0.length+1:=by rw[d];simp
      have S:(p++U1++A++y::B++q)[(a+U1.length+A.length).toNat]?=some y:=by
       have:p++U1++A++y::B++q=(p++U1++A)++y::(B++q):=by simp
       rw[this];exact bV lN
      have V:(p++U1++A++y::B++q)[(a+U1.length+A.length - 1).toNat]?=some z:=by
       have:p++U1++A++y::B++q=(p++U1++A0)++z::(y::B++q):=by rw[d];simp
       rw[this];exact bV lN
      refine kP<|tN<|sQ<|bK<|dW [15,17] [(0,2),(1,2),(2,2),(3,2),(4,2),(5,2),(6,2),(7,2),(8,2),(9,1),(10,2),(11,2),(12,2),(13,1),(14,2),(15,0),(16,2),(17,0)] Tryz.mixed kR<|yM I<|yM I<|yM I<|yM I<|pU I (sU I I oM)<|yM I<|yM I<|pU I (sU I I oM)<|pU I (iA uS zE I I r oM<|by rw[j];omega) ?_;refine gB I (SQ.elemA aE zE I (Rd.rowA 0 I) V)<|yM I<|yM I<|pU I (iA uS zE I I r oM<|by rw[j];omega) ?_;refine gB I (SQ.elemA aE zE I (Rd.rowA 0 I) S)<|pU I (iA uS zE I I r oM<|by rw[j];omega)<|H8 I (SO.setA (a:=z) 0 zE I I I lN I) (.inl dC) ?_;rintro _ _ _ ⟨rfl,rfl⟩;refine pU I (iA uS zE I I r oM<|by rw[j];omega) ?_;refine H8 I (SO.setA (a:=y) 0 zE I I I (by rw[zi4];(first | with_reducible rfl | ((try dsimp only);(try simp only[ze6,ze9,zc5,ze8,ze5,zf1])<;>omega))) rfl) (.inl dC) ?_;rintro _ _ _ ⟨rfl,rfl⟩;refine du<|bN<|tN<|rG<|lM I<|lU (sU I I oM)<|lA I<|cp ?_;have L:((p++U1++A++y::B++q).set (a+U1.length+A.length).toNat z).set (a+U1.length+A.length - 1).toNat y=p++U1++A0++y::(z::B)++q:=by
       have e1:p++U1++A++y::B++q=(p++U1++A)++y::(B++q):=by simp
       rw[e1,ee lN];have e2:(p++U1++A)++z::(B++q)=(p++U1++A0)++z::(z::B++q):=by rw[d];simp
       rw[e2,ee lN];simp
      exact ct (A0,z::B) ⟨I,I,I,I,I,I,bP lN,trivial⟩ I (by dsimp only;rw[← L];rfl) (by rw[hA,d];simp) lN
     ·refine xI<|tX<|tX<|bX<|tN<|rE<|tR ?_;have d:A=[]:=zf5 oM;subst d;have X:B=U2:=by simpa using hA.symm
      subst X;exact Iv (.inl I) (by exact results143) ⟨I,U1++y::B,by
       rw[n];have G:=aN.append (aN.refl (key:=key) U1)<|aN.swap (key:=key) (a:=B) (b:=[y]) (fun z hz u c=>by simp at c;subst c;have:=f z hz;omega);simpa using G,by
       rw[n] at t;obtain ⟨G,P,h3⟩:=Srt.append_iff.1 t;exact Srt.append_iff.2 ⟨G,Srt.cons_iff.2 ⟨fun z hz=>Int.le_of_lt<|f z hz,P⟩,fun z hz u c=>by
        rcases zf2.1 c with e | e
        ·rw[e];exact k z hz
        ·exact h3 z hz u e⟩,by simp⟩
   ·omega
end
def PTG {α:Type}(key:α→Int)(U V:List α)(i j:Int):Prop:=∃ x y,U[i.toNat]?=some x∧V[j.toNat]?=some y∧key y<key x
def PFG {α:Type}(key:α→Int)(U V:List α)(i j:Int):Prop:=∃ x y,U[i.toNat]?=some x∧V[j.toNat]?=some y∧key x≤key y
theorem od {α:Type}{key:α→Int}{l:List α}(b:Srt key l){x y:α}(c:l[i]?=some x)(d:l[j]?=some y)(h:i≤j):key x≤key y:=by
 obtain ⟨e,rfl⟩:=zf6.1 c;obtain ⟨f,rfl⟩:=zf6.1 d
 rcases Nat.lt_or_eq_of_le h with a | a
 ·exact zd1.1 b i j e f a
 ·subst a;exact Int.le_refl _
theorem F9 {α:Type}{key:α→Int}{U V:List α}(c:Srt key U)(d:Srt key V)(h:PTG key U V i<|j - 1)(l:0<j):∀ x∈U.drop i,∀ y∈V.take j,key y<key x:=by
 obtain ⟨m,n,e,f,o⟩:=h;intro x g y k;obtain ⟨k1,b⟩:=List.mem_iff_getElem?.1 g;obtain ⟨k2,a⟩:=List.mem_iff_getElem?.1 k;rw[zi3] at b;rw[zi2] at a;split at a
 ·have e1:=od c e b oM;have e2:=od d a f oM;omega
 ·cases a
theorem F7 {α:Type}{key:α→Int}{U V:List α}(c:Srt key U)(d:Srt key V)(h:PFG key U V (i - 1) j)(l:0<i):∀ x∈U.take i,∀ y∈V.drop j,key x≤key y:=by
 obtain ⟨m,n,e,f,o⟩:=h;intro x g y k;obtain ⟨k1,a⟩:=List.mem_iff_getElem?.1 g;obtain ⟨k2,b⟩:=List.mem_iff_getElem?.1 k;rw[zi3] at b;rw[zi2] at a;split at a
 ·have e1:=od c a e oM;have e2:=od d f b oM;omega
 ·cases a
section
variable {α:Type}{e:Enc α k}(w:SoI α k e T TS f1 f2 f3 f4 f5 f6)
include w
set_option maxHeartbeats 1000000 in
theorem vk (E:World)(g:PH)(v l:Value)(key:α→Int)(hc:nS E l e key g):∀ (n:Nat) (s:Own) (p U V q:List α) (_:U.length+V.length=n) (t:Srt key U) (u:Srt key V) (b2:0<U.length) (b3:0<V.length) (hn:(p++U++V++q).length<2305843009213693952)
  (a m b:Int) (ha:a=p.length) (hm:m=p.length+U.length) (hb:b=p.length+U.length+V.length),
  Ctr Tryz.prog E f4 #[v,vi a,vi m,vi b,l] g (rowA e T v (p++U++V++q)::s) (fun _ g' s'=>g=g'∧∃ W,aN key (U++V) W∧Srt key W∧s'=rowA e T v (p++W++q)::s):=by
 have uS:=w.uS;have zE:=w.zE;have aE:=w.aE;have kf2:=w.kf2;have kf4:=w.kf4;have w2:=w;cases w2
 all_goals
  intro n;induction n using Nat.strongRecOn with
  | _ n ih =>
  intro s p U V q d4 t u b2 b3 hn a m b ha hm hb;by_cases b4:U.length=1
  ·obtain ⟨x,rfl⟩:=List.length_eq_one_iff.1 b4;exact Ga w E g s v l key hc p V q x u hn a m b ha hm hb
  by_cases b5:V.length=1
  ·obtain ⟨y,rfl⟩:=List.length_eq_one_iff.1 b5;exact Ew w E g s v l key hc p U q y t oM hn a m b ha hm hb
  refine Ctr.facts fun ⟨w0,P⟩=>?_;have a0:based v=true:=by
   obtain ⟨b0,c0,Q⟩:=bI (i:=0) P rfl lN;rw[Q];rfl
  have R:slen v=(p++U++V++q).length:=by
   obtain ⟨d5,d6,Q⟩:=ag (i:=0) P rfl;rw[Q];rfl
  clear P w0;simp only[ze6] at hn R;have b6:∀ (c:Int) (x:_),0≤c→U[c.toNat]?=some x→(p++U++V++q)[(a+c).toNat]?=some x:=fun c x h0 d=>by
   have S:=(zf6.1 d).1;rw[zg9,zg9,zh4 oM,zh3 oM,show (a+c).toNat - p.length=c.toNat by omega];exact d
  have b7:∀ (c:Int) (x:_),0≤c→V[c.toNat]?=some x→(p++U++V++q)[(m+c).toNat]?=some x:=fun c x h0 d=>by
   have S:=(zf6.1 d).1;rw[zh3 lN,zh4 lN,show (m+c).toNat - (p++U).length=c.toNat by exact lN];exact d
  first | refine zb2 (args:=[v,vi a,vi m,vi b,l]) func143 rfl ntmps143 (bE rfl) ?_ | refine zb2 (args:=[v,vi a,vi m,vi b,l]) func211 rfl ntmps211 (bE rfl) ?_
  refine sQ<|sW I<|lM I<|lU (sU I I oM)<|yE I<|tZ<|iP I (fun h1=>?_) (fun h1=>?_)
  ·omega
  refine kP<|tN<|sQ<|sW I<|lM I<|lU (sU I I oM)<|yE I<|tZ<|iP I (fun h2=>?_) (fun h2=>?_)
  ·omega
  refine kP<|tN<|sW I<|lM I<|yD I<|lU (ze1 uT3 j7 I)<|lU (I0 I I dC)<|lU (SU.eq (ze1 j7 uT3 I)<|ze3 vi<|mg _ oM oM)<|aT I<|sW I<|lM I<|yD I<|aT I<|rZ<|lA I<|aT I ?_;generalize d2:(a+b) / 2=mid;refine lu (ι:=Int×Int) (fun i=>[(0,v),(1,vi a),(2,vi m),(3,vi b),(4,l),(18,vi mid),(19,vi<|mid+m),(20,vi i.1),(21,vi i.2)]) (fun _=>g) (fun _=>rowA w.en w.ty v (p++U++V++q)::s) (fun i=>(mid<m→i.1=mid+m - b∧i.2=mid)∧(¬ mid<m→i.1=a∧i.2=m)) ?_ ?_
  ·refine sW I<|lM I<|lU (gR I I)<|tZ<|iP I (fun J=>?_) (fun J=>?_)
   ·exact sW I<|lM I<|lU (sU I I oM)<|aT I<|rG<|lM I<|lA I<|cp<|za9 (mid+m - b,mid) sB I I ⟨fun _=>⟨I,I⟩,fun h=>absurd J h⟩
   ·exact sW I<|aT I<|rG<|lM I<|lA I<|cp<|za9 (a,m) sB I I ⟨fun h=>absurd h J,fun _=>⟨I,I⟩⟩
  rintro ⟨f,N⟩ ⟨L,M⟩;dsimp only at L M ⊢;have d7:a≤f∧f≤N∧N≤m∧N≤mid∧mid - f≤V.length:=by
   by_cases h:mid<m
   ·have:=L h;omega
   ·have:=M h;omega
  refine sW I<|lU (sU I I oM)<|aT I<|lu (ι:=Int) (fun i=>[(0,v),(1,vi a),(2,vi m),(3,vi b),(4,l),(18,vi mid),(19,vi<|mid+m),(20,vi i)]) (fun _=>g) (fun _=>rowA w.en w.ty v (p++U++V++q)::s) (fun i=>f≤i∧i≤N∧(i=f∨PFG key U V (i - 1 - a) (mid - i))∧(i=N∨PTG key U V (i - a) (mid - 1 - i))) ?_ ?_
  ·refine bK<|oP (ι:=Int×Int) (fun i=>[(0,v),(1,vi a),(2,vi m),(3,vi b),(4,l),(18,vi mid),(19,vi<|mid+m),(20,vi i.1),(21,vi i.2),(22,vi<|mid+m - 1)]) (fun _=>g) (fun _=>rowA w.en w.ty v (p++U++V++q)::s) (fun i=>f≤i.1∧i.1≤i.2∧i.2≤N∧(i.1=f∨PFG key U V (i.1 - 1 - a) (mid - i.1))∧(i.2=N∨PTG key U V (i.2 - a) (mid - 1 - i.2))) (fun i=>(i.2 - i.1).toNat) (f,N) sB I I ⟨lN,lN,lN,.inl I,.inl I⟩ ?_;rintro ⟨st,r⟩ ⟨X,a1,a2,z,A⟩;dsimp only at X a1 a2 z A ⊢;refine sQ<|sW I<|lM I<|yL I<|tZ<|iP I (fun S=>?_) (fun S=>?_)
   ·obtain ⟨x,d⟩:∃ x,U[((st+r) / 2 - a).toNat]?=some x:=⟨_,bd oM⟩;obtain ⟨y,k⟩:∃ y,V[(mid - 1 - (st+r) / 2).toNat]?=some y:=⟨_,bd oM⟩;have a3:=b6 _ x oM d;have a4:=b7 _ y oM k;rw[show a+((st+r) / 2 - a)=(st+r) / 2 by omega] at a3;rw[show m+(mid - 1 - (st+r) / 2)=mid+m - 1 - (st+r) / 2 by omega] at a4;refine kP<|tN<|bK<|sW I<|lM I<|yD I<|lU (ze1 uT3 j7 I)<|lU (I0 I I dC)<|lU (SU.eq (ze1 j7 uT3 I)<|ze3 vi<|mg _ oM oM)<|aT I<|sQ<|dW [] [(0,2),(1,2),(2,2),(3,2),(4,2),(5,2),(6,1),(7,2),(8,2),(9,2),(10,1),(11,0),(12,2),(13,2)] Tryz.mixed kR ?_;refine yM I<|yM I<|yM I<|yM I<|pU I (sU I I oM)<|pU I (iA uS zE I I a0 oM<|by rw[R];omega) ?_;refine gB I (SQ.elemA aE zE I (Rd.rowA 0 I) a4)<|yM I<|yM I<|pU I (iA uS zE I I a0 oM<|by rw[R];omega) ?_;refine gB I (SQ.elemA aE zE I (Rd.rowA 0 I) a3)<|mf I (DO I I<|hc _ _ _ _<|zb9 _) dC (.inr iR) ?_;rintro _ _ _ ⟨rfl,rfl,rfl⟩;refine pU I (lS I I)<|pU I (IN I)<|du<|tN (iP I (fun Y=>?_) fun Y=>?_)
    ·refine rG<|lM I<|yD I<|lA I<|cp<|bN ?_;exact ct ((st+r) / 2+1,r) sB I I ⟨lN,lN,lN,.inr ⟨x,y,by
      rw[show (st+r) / 2+1 - 1 - a=(st+r) / 2 - a by omega];exact d,by
      rw[show mid - ((st+r) / 2+1)=mid - 1 - (st+r) / 2 by omega];exact k,by have:=mt fy.2 Y;omega⟩,A⟩ lN
    ·exact rG<|lM I<|lA I<|cp<|bN<|ct (st,(st+r) / 2) sB I I ⟨lN,lN,lN,z,.inr ⟨x,y,d,k,fy.1<|zh1 Y⟩⟩ lN
   ·refine xI<|tX<|tX<|bX ?_;have b8:st=r:=oM;subst b8;exact za9 st sB I I ⟨X,a2,z,A⟩
  rintro st ⟨X,a1,z,A⟩;try dsimp only
  -- the four pieces
  obtain ⟨i,hi⟩:∃ i:Nat,st=a+i:=⟨(st - a).toNat,oM⟩;obtain ⟨j,hj⟩:∃ j:Nat,mid=st+j:=⟨(mid - st).toNat,oM⟩;have H1:∀ x∈U.drop i,∀ y∈V.take j,key y<key x:=by
   rcases A with h | h
   ·intro x d y k;have e1:=List.length_pos_of_mem d;have e2:=List.length_pos_of_mem k;simp only[zf1,ze5] at e1 e2;exfalso;by_cases hh:mid<m
    ·have:=L hh;omega
    ·have:=M hh;omega
   ·by_cases b9:0<j
    ·refine F9 t u ?_ b9;rw[show st - a=(i:Int) by omega,show mid - 1 - st=(j:Int) - 1 by omega] at h;exact h
    ·intro x d y k;have e2:=List.length_pos_of_mem k;simp only[ze5] at e2;omega
  have H2:∀ x∈U.take i,∀ y∈V.drop j,key x≤key y:=by
   rcases z with h | h
   ·intro x d y k;have e1:=List.length_pos_of_mem d;have e2:=List.length_pos_of_mem k;simp only[zf1,ze5] at e1 e2;exfalso;by_cases hh:mid<m
    ·have:=L hh;omega
    ·have:=M hh;omega
   ·by_cases c1:0<i
    ·refine F7 t u ?_ c1;rw[show st - 1 - a=(i:Int) - 1 by omega,show mid - st=(j:Int) by omega] at h;exact h
    ·intro x d y k;have e2:=List.length_pos_of_mem d;simp only[ze5] at e2;omega
  have d8:i≤U.length:=oM;have d9:j≤V.length:=oM;have a5:U=U.take i++U.drop i:=(zj3 i U).symm;have a9:V=V.take j++V.drop j:=(zj3 j V).symm;have l1:(U.take i).length=i:=lN;have l2:(U.drop i).length=U.length - i:=lN;have l3:(V.take j).length=j:=lN;have l4:(V.drop j).length=V.length - j:=lN;have B:=t;have C:=u;rw[a5] at B;rw[a9] at C;obtain ⟨c2,c3,c4⟩:=Srt.append_iff.1 B;obtain ⟨c5,c6,c7⟩:=Srt.append_iff.1 C;have b1:p++U++V++q=p++U.take i++U.drop i++V.take j++V.drop j++q:=by
   conv=>lhs;rw[a5,a9]
   simp
  have c9:aN key (U++V)<|(U.take i++V.take j)++(U.drop i++V.drop j):=by
   have e:U++V=(U.take i++(U.drop i++V.take j))++V.drop j:=by
    rw[← zg9 (U.take i),zj3,zg9,zj3]
   rw[e];have h:=aN.append (aN.append (aN.refl (key:=key)<|U.take i)<|aN.swap (key:=key) (a:=U.drop i) (b:=V.take j) fun x d y k=>by have:=H1 x d y k;omega)<|aN.refl (key:=key)<|V.drop j;simpa using h
  clear B C;generalize U.take i=U1 at *;generalize U.drop i=U2 at *;generalize V.take j=V1 at *;generalize V.drop j=V2 at *;rw[b1];refine sW I<|lM I<|lU (sU I I oM)<|aT I<|lu (ι:=Unit) (fun _=>[(0,v),(1,vi a),(2,vi m),(3,vi b),(4,l),(18,vi mid),(20,vi st),(24,vi<|mid+m - st)]) (fun _=>g) (fun _=>rowA w.en w.ty v (p++U1++V1++(U2++V2++q))::s) (fun _=>True) ?_ ?_
  ·refine BY 185 (decide<|st<m∧m<mid+m - st) ?_ ?_
   ·refine rG<|lM I<|lM I<|yL I<|lM I<|sP ?_ ?_
    ·intro D;exact yC I<|yC I<|lY I I I (lS I I)<|yP I<|cp<|zb1 (by simp[aU,D]) mI
    ·intro D;exact yA I<|yA I<|yA I<|yF I<|cp<|zb1 (by simp[aU,D]) mI
   refine iP I (fun J=>?_) (fun J=>?_)
   ·have e1:p++U1++U2++V1++V2++q=p++U1++U2++V1++(V2++q):=by simp
    rw[e1];refine rG<|lM I<|lM I<|lM I<|lM I<|lM I<|lW (bt kf2 I<|Gt w E g s v l (p++U1) U2 V1 (V2++q) oM oM lN _ _ _ lN lN lN) ?_;rintro _ _ _ ⟨rfl,rfl⟩;exact cp<|za9 () sB I dO trivial
   ·exact kP<|za9 () sB I (by
     have:U2=[]∨V1=[]:=by
      by_cases h:st<m
      ·right;exact zf5 oM
      ·left;exact zf5 oM
     rcases this with h | h <;> simp[h]) trivial
  rintro ⟨⟩ -;try dsimp only
  refine lu (ι:=type_of% q) (fun _=>[(0,v),(1,vi a),(2,vi m),(3,vi b),(4,l),(18,vi mid),(20,vi st),(24,vi<|mid+m - st)]) (fun _=>g) (fun W1=>rowA w.en w.ty v (p++W1++U2++V2++q)::s) (fun W1=>aN key (U1++V1) W1∧Srt key W1) ?_ ?_
  ·refine BY 199 (decide<|a<st∧st<mid) ?_ ?_
   ·refine rG<|lM I<|lM I<|yL I<|lM I<|sP ?_ ?_
    ·intro F;exact yC I<|yC I<|lY I I I (lS I I)<|yP I<|cp<|zb1 (by simp[aU,F]) mI
    ·intro F;exact yA I<|yA I<|yA I<|yF I<|cp<|zb1 (by simp[aU,F]) mI
   refine iP I (fun J=>?_) (fun J=>?_)
   ·refine rG<|lM I<|lM I<|lM I<|lM I<|lM I<|lW (bt kf4 I<|ih (U1.length+V1.length) oM s p U1 V1 (U2++V2++q) I c2 c5 oM oM lN _ _ _ lN lN lN) ?_;rintro _ _ _ ⟨rfl,W1,G,Z,rfl⟩;exact cp<|za9 W1 sB I dO ⟨G,Z⟩
   ·refine kP ?_;have Q:U1=[]∨V1=[]:=by
     by_cases h:a<st
     ·right;exact zf5 oM
     ·left;exact zf5 oM
    exact za9 (U1++V1) sB rfl dO ⟨aN.refl _,by rcases Q with h | h <;> simpa [h]⟩
  rintro W1 ⟨G,Z⟩;try dsimp only
  have d3:W1.length=U1.length+V1.length:=by have:=G.1;simpa using this
  have O:∀ W2,aN key (U2++V2) W2→Srt key W2→aN key (U++V) (W1++W2)∧Srt key (W1++W2):=fun W2 h5 h6=>by
   refine⟨c9.trans<|G.append h5,Srt.append_iff.2 ⟨Z,h6,fun x d y k=>?_⟩⟩;have e1:=G.mem d;have e2:=h5.mem k
   rcases zf4.1 e1 with e1 | e1 <;> rcases zf4.1 e2 with e2 | e2
   ·exact c4 x e1 y e2
   ·exact H2 x e1 y e2
   ·exact Int.le_of_lt<|H1 y e2 x e1
   ·exact c7 x e1 y e2
  refine BY 213 (decide<|mid<mid+m - st∧mid+m - st<b) ?_ ?_
  ·refine rG<|lM I<|lM I<|yL I<|lM I<|sP ?_ ?_
   ·intro H;exact yC I<|yC I<|lY I I I (lS I I)<|yP I<|cp<|zb1 (by simp[aU,H]) mI
   ·intro H;exact yA I<|yA I<|yA I<|yF I<|cp<|zb1 (by simp[aU,H]) mI
  refine iP I (fun J=>?_) (fun J=>?_)
  ·refine rG<|lM I<|lM I<|lM I<|lM I<|lM I<|lW (bt kf4 I<|ih (U2.length+V2.length) oM s (p++W1) U2 V2 q I c3 c6 oM oM lN _ _ _ lN lN lN) ?_;rintro _ _ _ ⟨rfl,W2,d0,d1,rfl⟩;refine cp ?_;obtain ⟨h5,h6⟩:=O W2 d0 d1;exact Iv (.inr I) (by exact results143) ⟨I,W1++W2,h5,h6,by simp⟩
  ·refine kP ?_;have Q:U2=[]∨V2=[]:=by
    by_cases h:mid<mid+m - st
    ·right;exact zf5 oM
    ·left;exact zf5 oM
   obtain ⟨h5,h6⟩:=O (U2++V2) (aN.refl _) (by rcases Q with h | h <;> simpa [h]);exact Iv (.inr I) (by exact results143) ⟨I,W1++(U2++V2),h5,h6,by simp⟩
end
def za4:=@SlA.form
def za5:=@SlA.mono
def za6:=@SlA.based
def za7:=@SlA.rd
def zb7:=@Rd.rowA
def ze4:=@Tryz.mixed
def zl2:=@Tryz.zeroValue48
def zl3:=@Tryz.zeroValue57
def zl4:=@Tryz.zeroValue74
def zl5:=@Tryz.zeroValue77
def zl6:=@Tryz.zeroValue61
def zl7:=@Tryz.zeroValue3
def zl8:=@Tryz.zeroValue72
def zl9:=@Tryz.zeroValue29
def zm1:=@Tryz.zeroValue87
def zm2:=@Tryz.zeroValue4
def zm3:=@Tryz.zeroValue0
end Go.Proofs.YtpmoadbbfobbcaaGreatDoor
