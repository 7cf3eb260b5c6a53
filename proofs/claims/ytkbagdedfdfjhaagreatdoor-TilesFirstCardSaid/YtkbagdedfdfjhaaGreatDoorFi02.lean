/- 2 -/
import Derived.Test.YtkbagdedfdfjhaaGreatDoorFi01
import Derived.Below
import Derived.Test.YtkbagdedfdfjhaaGreatDoorProg
import Derived.KernelRfl
import Derived.MapKept
set_option linter.unusedSimpArgs false
set_option linter.unusedVariables false
namespace Go.Sy
open Go
section
variable {P:Program}{N:Nat}{E:World}{ops:Array Oper}{Q:Exit→Act→World→Prop}{f:Fr}{g g':PH}{s:Own}
theorem ST.less {e:Exit}(hl:Le g' g)(h:ST N E Q e f g' s):ST N E Q e f g s:=fun a w ha hw=>h a w ha (hw.less hl)
theorem SC.freeze {c:Code}{b:Nat}{o:Obj}(h:∀ g',Le g g'→g' b=some o→SC P N E c Q f g' s):SC P N E c Q f g (pt b o::s):=fun a w ha hw=>by
 have h1:=hw.own (pt b o) (by simp);simp only[pt,Option.bind_some] at h1;obtain ⟨h2,h3⟩:=hw.freeze (b:=b) rfl h1;exact h _ h3 (fw _ _ _) a w ha h2
theorem SL.freeze {l:List Oper}{b:Nat}{o:Obj}(h:∀ g',Le g g'→g' b=some o→SL P N E ops Q l f g' s):SL P N E ops Q l f g (pt b o::s):=fun a w ha hw=>by
 have h1:=hw.own (pt b o) (by simp);simp only[pt,Option.bind_some] at h1;obtain ⟨h2,h3⟩:=hw.freeze (b:=b) rfl h1;exact h _ h3 (fw _ _ _) a w ha h2
theorem ST.freeze {e:Exit}{b:Nat}{o:Obj}(h:∀ g',Le g g'→g' b=some o→ST N E Q e f g' s):ST N E Q e f g (pt b o::s):=fun a w ha hw=>by
 have h1:=hw.own (pt b o) (by simp);simp only[pt,Option.bind_some] at h1;obtain ⟨h2,h3⟩:=hw.freeze (b:=b) rfl h1;exact h _ h3 (fw _ _ _) a w ha h2
theorem SC.freezeRow {c:Code}{T:TypeId}{k n:Nat}{v:Value}{xs:List Value}(h:∀ g',Le g g'→Sl g' k v n xs→SC P N E c Q f g' s):SC P N E c Q f g (row T k v n xs::s):=fun a w ha hw=>by
 obtain ⟨g',h1,h2,h3⟩:=hw.freezeRow;exact h g' h1 h3 a w ha h2
theorem SL.freezeRow {l:List Oper}{T:TypeId}{k n:Nat}{v:Value}{xs:List Value}(h:∀ g',Le g g'→Sl g' k v n xs→SL P N E ops Q l f g' s):SL P N E ops Q l f g (row T k v n xs::s):=fun a w ha hw=>by
 obtain ⟨g',h1,h2,h3⟩:=hw.freezeRow;exact h g' h1 h3 a w ha h2
theorem ST.freezeRow {e:Exit}{T:TypeId}{k n:Nat}{v:Value}{xs:List Value}(h:∀ g',Le g g'→Sl g' k v n xs→ST N E Q e f g' s):ST N E Q e f g (row T k v n xs::s):=fun a w ha hw=>by
 obtain ⟨g',h1,h2,h3⟩:=hw.freezeRow;exact h g' h1 h3 a w ha h2
end
theorem Ctr.facts {P:Program}{E:World}{n:FuncId}{args:Array Value}{g:PH}{s:Own}{R:Value→PH→Own→Prop}(h:(∃ w,At E g s w)→Ctr P E n args g s R):Ctr P E n args g s R:=fun w hw=>h ⟨w,hw⟩ w hw
structure Enc (α:Type)(k:Nat) where
 enc:α→List Value
 len:∀ a,(enc a).length=k
 one:∀ a,∀ u∈enc a,u.oneCell'=true
 pos:0<k
section
variable {α:Type}{k:Nat}(e:Enc α k)
theorem Enc.length (l:List α):(l.flatMap e.enc).length=l.length * k:=by
 induction l with
 | nil=>simp
 | cons a r ih=>simp[ih,e.len,Nat.succ_mul]; omega
theorem Enc.get {l:List α}{i j:Nat}{a:α}{v:Value}(ha:l[i]?=some a)(hv:(e.enc a)[j]?=some v):(l.flatMap e.enc)[i * k+j]?=some v:=by
 induction l generalizing i with
 | nil=>simp at ha
 | cons x r ih =>
  have hj:j<k:=by rw[← e.len a]; exact (zf2.1 hv).1
  simp only[zh2];cases i with
  | zero =>
   simp only[List.getElem?_cons_zero,zg4] at ha;subst ha;rw[zg8 (by rw[e.len]; omega)];simpa using hv
  | succ i =>
   simp only[List.getElem?_cons_succ] at ha;rw[zg9 (by rw[e.len,Nat.succ_mul]; omega),e.len,show (i+1) * k+j - k=i * k+j by rw[Nat.succ_mul]; omega];exact ih ha
theorem Enc.ones (l:List α):∀ u∈l.flatMap e.enc,u.oneCell'=true:=by
 intro u hu;obtain ⟨a,_,h⟩:=List.mem_flatMap.1 hu;exact e.one a u h
theorem Enc.set {l:List α}{i:Nat}{a:α}(hi:i<l.length):(l.flatMap e.enc).take (i * k)++e.enc a++(l.flatMap e.enc).drop (i * k+k)=(l.set i a).flatMap e.enc:=by
 induction l generalizing i with
 | nil=>simp at hi
 | cons x r ih =>
  cases i with
  | zero =>
   simp only[Nat.zero_mul,List.take_zero,List.nil_append,Nat.zero_add,zh2,List.set_cons_zero];rw[List.drop_append_of_le_length (by rw[e.len]; omega),List.drop_of_length_le (by rw[e.len]; omega)];simp
  | succ i =>
   simp only[zh2,List.set_cons_succ];rw[← ih (by simpa using hi)];rw[List.take_append,List.drop_append,e.len,tL (by rw[e.len,Nat.succ_mul]; omega),List.drop_of_length_le (by rw[e.len,Nat.succ_mul]; omega)];rw[show (i+1) * k - k=i * k by rw[Nat.succ_mul]; omega,show (i+1) * k+k - k=i * k+k by rw[Nat.succ_mul]; omega];simp
theorem pl {β:Type}(L ys:List β)(o m:Nat)(ho:o≤L.length)(hm:o+ys.length≤m):(L.take o++ys++L.drop (o+ys.length)).take m=(L.take m).take o++ys++(L.take m).drop (o+ys.length):=by
 have hlen:(L.take o++ys).length=o+ys.length:=by simp[Nat.min_eq_left ho]
 rw[List.take_append,hlen,tL oM,List.drop_take,List.take_take,Nat.min_eq_left oM]
def rowA (T:TypeId)(v:Value)(l:List α):Ent:=row T k v l.length (l.flatMap e.enc)
def SlA (g:PH)(v:Value)(l:List α):Prop:=Sl g k v l.length (l.flatMap e.enc)
end
section
variable {α:Type}{k:Nat}{e:Enc α k}{P:Program}{N:Nat}{E:World}{ops:Array Oper}{f:Fr}{g:PH}{s:Own}{dst:Option Tmp}{ty:TypeId}{pos:String}{af:Array Edge}{gd:Option (Nat×Bool)}
theorem SlA.mono {g':PH}{v:Value}{l:List α}(h:SlA e g v l)(hl:Le g g'):SlA e g' v l:=Sl.mono h hl
theorem SlA.form {v:Value}{l:List α}(h:SlA e g v l):∃ p c,v = .slice p l.length c:=Sl.form h
theorem SlA.based {v:Value}{l:List α}(h:SlA e g v l)(hn:0<l.length):based v=true:=Sl.based h hn e.pos
theorem SQ.elemA {x:Operand}{T:TypeId}{v:Value}{l:List α}{a:α}{j:Nat}(hT:∀ w,(isAgg T).run P w = .ok true w)(hk:∀ w,(sizeOf T).run P w = .ok k w)(hx:ev f x=some (qx v (j * k)))(hr:Rd g s v (l.flatMap e.enc))(ha:l[j]?=some a) :
  SQ P N E ⟨dst,.load T x,ty,pos,af,gd⟩ f g s (.agg (e.enc a).toArray) :=
 SQ.loadAggC hT hk hx hr (e.len a) e.pos fun _ _ hv=>e.get ha hv
theorem SQ.partA {x:Operand}{T:TypeId}{v:Value}{l:List α}{a:α}{j o:Nat}{u:Value}(hT:∀ w,(isAgg T).run P w = .ok false w)(hx:ev f x=some (qx v (j * k+o)))(hr:Rd g s v (l.flatMap e.enc))(ha:l[j]?=some a)(hu:(e.enc a)[o]?=some u) :
  SQ P N E ⟨dst,.load T x,ty,pos,af,gd⟩ f g s u:=SQ.loadC hT hx hr (e.get ha hu)
theorem SQ.elem1 {e:Enc α 1}{x:Operand}{T:TypeId}{v:Value}{l:List α}{a:α}{j:Nat}{u:Value}(hT:∀ w,(isAgg T).run P w = .ok false w)(hx:ev f x=some (qx v (j * 1)))(hr:Rd g s v (l.flatMap e.enc))(ha:l[j]?=some a)(hu:e.enc a=[u]) :
  SQ P N E ⟨dst,.load T x,ty,pos,af,gd⟩ f g s u:=SQ.loadC hT hx hr (by have:=e.get (j:=0) ha (v:=u) (by rw[hu]; rfl); simpa using this)
theorem SlA.rd {v:Value}{l:List α}(h:SlA e g v l):Rd g s v (l.flatMap e.enc):=Sl.rd h
theorem Rd.rowA {T:TypeId}{v:Value}{l:List α}(i:Nat)(hi:s[i]?=some (rowA e T v l)):Rd g s v (l.flatMap e.enc):=Rd.row i hi
theorem ah {w:World}{T:TypeId}{v:Value}{l:List α}{i:Nat}(h:At E g s w)(hi:s[i]?=some (rowA e T v l)):∃ p c,v = .slice p l.length c:=(DM h hi).1
theorem ck {w:World}{T:TypeId}{v:Value}{l:List α}{i:Nat}(h:At E g s w)(hi:s[i]?=some (rowA e T v l))(hn:0<l.length):∃ b c,v = .slice (some ⟨b,0,none⟩) l.length c:=by
 obtain ⟨_,h2⟩:=ge h hi
 rcases h2 with ⟨p,rfl,hn'⟩ | ⟨b,cap,cur,rfl,_⟩
 ·omega
 ·exact⟨b,cap+1,I⟩
theorem SO.setA {x y:Operand}{T U:TypeId}{v u:Value}{l:List α}{a:α}{j:Nat}(i:Nat)(hk:∀ w,(sizeOf T).run P w = .ok k w)(hx:ev f x=some (qx v (j * k)))(hy:ev f y=some u)(hi:s[i]?=some (rowA e U v l))(hj:j<l.length)(hu:u.cells.toList=e.enc a) :
  SO P N E ⟨dst,.store T x y,ty,pos,af,gd⟩ f g s fun _ g' s'=>g=g'∧s'=s.set i (rowA e U v (l.set j a)) :=
 SO.of_skip fun ac w ha hw=>by
  obtain ⟨hlen,h2⟩:=ge hw hi;have hfr:=hw.fresh _ (zf8 hi)
  rcases h2 with ⟨p,rfl,hn⟩ | ⟨b,cap,cur,rfl,hb,hle,hcm,hcs,ht⟩
  ·omega
  ·simp only[qx,Nat.zero_add] at hx;have husz:u.cells.size=k:=by rw[← Array.length_toList,hu,e.len]
   have hjk:j * k+k≤l.length * k:=by rw[← Nat.succ_mul]; exact Nat.mul_le_mul_right k hj
   have hlk:l.length * k≤(cap+1) * k:=Nat.mul_le_mul_right k hle;have hst:=run_storeCells_at P b (j * k) U u.cells.toList 0 cur w hb (by simp[husz]; omega) (by rw[hu]; exact e.one a);refine⟨w.setRow b (cur.toList.take (j * k+0)++u.cells.toList++cur.toList.drop (j * k+0+u.cells.toList.length)).toArray,g,s.set i (rowA e U (.slice (some ⟨b,0,none⟩) l.length (cap+1)) (l.set j a)),?_,?_,I,I⟩
   ·simp[execOp,ha.ev hx,ha.ev hy,Instr.storeAt,Instr.sureAddr,storeVar,hk w,husz];rw[hst];simp[husz]
   ·refine hw.turn hi I ⟨I,(by exact lR _)⟩ I (by simp) (fun k' _ hk'=>setRow_other w b k' _ (fun e1=>hk' (by simp[rowA,row,nU,e1]))) ?_ (fun b' hb'=>?_)
    ·have h5:=setRow_heap w b cur (cur.toList.take (j * k+0)++u.cells.toList++cur.toList.drop (j * k+0+u.cells.toList.length)).toArray U (0,0) hb;have hset:=e.set (l:=l) (a:=a) hj;have:=dN (T:=U) (k:=k) (n:=l.length) (xs:=(l.set j a).flatMap e.enc) (by rw[e.length]; simp) h5 hle hcm (by simp[husz]; omega) (by
      rw[← hset,← ht,hu];have:=pl cur.toList (e.enc a) (j * k) (l.length * k) (by simp; omega) (by rw[e.len]; omega);simpa only[Nat.add_zero,e.len] using this)
     simpa [rowA] using this
    ·simp only[rowA,row,nU,zg4] at hb';subst hb';exact⟨by simpa using (hfr b I).2,.inl I⟩
end
theorem fS:type_of% @SC.freezeRow:=@SC.freezeRow
theorem fR:type_of% @SL.freezeRow:=@SL.freezeRow
theorem fT:type_of% @ST.freezeRow:=@ST.freezeRow
theorem eA:type_of% @SQ.elemA:=@SQ.elemA
theorem aZ:type_of% @SQ.partA:=@SQ.partA
theorem eB:type_of% @SQ.elem1:=@SQ.elem1
theorem sT:type_of% @SO.setA:=@SO.setA
end Go.Sy
namespace Go.Pl
section
variable {α:Type}(key:α→Int)
def aJ (l l':List α):Prop:=l'.length=l.length∧∀ c,l'.filter (fun a=>key a == c)=l.filter (fun a=>key a == c)
def Srt (l:List α):Prop:=l.Pairwise fun a b=>key a≤key b
end
section
variable {α:Type}{key:α→Int}
theorem aJ.refl (l:List α):aJ key l l:=⟨rfl,fun _=>rfl⟩
theorem aJ.trans {a b c:List α}(h:aJ key a b)(k:aJ key b c):aJ key a c:=⟨k.1.trans h.1,fun x=>(k.2 x).trans (h.2 x)⟩
theorem aJ.symm {a b:List α}(h:aJ key a b):aJ key b a:=⟨h.1.symm,fun x=>(h.2 x).symm⟩
theorem aJ.append {a a' b b':List α}(h:aJ key a a')(k:aJ key b b'):aJ key (a++b) (a'++b'):=⟨by simp[h.1,k.1],fun c=>by simp[h.2 c,k.2 c]⟩
theorem aJ.mem {l l':List α}(h:aJ key l l'){x:α}(hx:x∈l'):x∈l:=by
 have:x∈l'.filter (fun a=>key a == key x):=by simp[hx]
 rw[h.2] at this;exact (List.mem_filter.1 this).1
theorem aJ.mem_iff {l l':List α}(h:aJ key l l')(x:α):x∈l'↔x∈l:=⟨h.mem,h.symm.mem⟩
theorem pO {l:List α}{c:Int}(h:∀ x∈l,key x≠c):l.filter (fun a=>key a == c)=[]:=by
 rw[List.filter_eq_nil_iff];intro x hx;simpa using h x hx
theorem aJ.swap {a b:List α}(h:∀ x∈a,∀ y∈b,key x≠key y):aJ key (a++b) (b++a):=by
 refine⟨by simp[Nat.add_comm],fun c=>?_⟩;simp only[List.filter_append];by_cases hc:∃ x∈a,key x=c
 ·obtain ⟨x,hx,rfl⟩:=hc;rw[pO (l:=b) (fun y hy=>fun e=>h x hx y hy e.symm)];simp
 ·rw[pO (l:=a) (fun x hx=>fun e=>hc ⟨x,hx,e⟩)];simp
theorem Srt.append_iff {a b:List α}:Srt key (a++b)↔Srt key a∧Srt key b∧∀ x∈a,∀ y∈b,key x≤key y:=List.pairwise_append
theorem Srt.nil:Srt key []:=List.Pairwise.nil
theorem Srt.one (a:α):Srt key [a]:=List.pairwise_singleton _ _
theorem Srt.cons_iff {a:α}{l:List α}:Srt key (a::l)↔(∀ x∈l,key a≤key x)∧Srt key l:=List.pairwise_cons
theorem Srt.unique:∀ {l m:List α},Srt key l→Srt key m→aJ key l m→l=m
 | [],m,_,_,h=>by
  have:=h.1;simp only[List.length_nil] at this;exact (List.eq_nil_of_length_eq_zero this).symm
 | a::l,[],_,_,h=>by have:=h.1; simp at this
 | a::l,b::m,hl,hm,h=>by
  have hab:key a=key b:=by
   have h1:b∈a::l:=h.mem (List.mem_cons_self ..);have h2:a∈b::m:=h.symm.mem (List.mem_cons_self ..);have h3:key a≤key b:=by
    rcases List.mem_cons.1 h1 with e | e
    ·rw[e]; exact Int.le_refl _
    ·exact (Srt.cons_iff.1 hl).1 b e
   have h4:key b≤key a:=by
    rcases List.mem_cons.1 h2 with e | e
    ·rw[e]; exact Int.le_refl _
    ·exact (Srt.cons_iff.1 hm).1 a e
   omega
  have he:a=b:=by
   have:=h.2 (key a);simp only[List.filter_cons,beq_self_eq_true,if_true,← hab] at this;injection this with e1
   exact e1.symm
  subst he;have:aJ key l m:=by
   refine⟨by have:=h.1; simpa using this,fun c=>?_⟩;have:=h.2 c;simp only[List.filter_cons] at this;split at this
   ·injection this
   ·exact this
  rw[Srt.unique (Srt.cons_iff.1 hl).2 (Srt.cons_iff.1 hm).2 this]
def ins (key:α→Int)(x:α):List α→List α
 | []=>[x]
 | y::r=>if key x≤key y then x::y::r else y::ins key x r
def sortBy (key:α→Int):List α→List α
 | []=>[]
 | x::r=>ins key x (sortBy key r)
theorem sz (x:α):∀ l:List α,aJ key (x::l) (ins key x l)
 | []=>aJ.refl _
 | y::r=>by
  unfold ins;split
  ·exact aJ.refl _
  ·rename_i h;have h1:aJ key (x::y::r) (y::x::r):=by
    have:=aJ.append (aJ.swap (key:=key) (a:=[x]) (b:=[y]) (by simp; omega)) (aJ.refl (key:=key) r);simpa using this
   have h2:=aJ.append (aJ.refl (key:=key) [y]) (sz x r);exact h1.trans (by simpa using h2)
theorem Bi (x:α):∀ l:List α,Srt key l→Srt key (ins key x l)
 | [],_=>Srt.one x
 | y::r,h=>by
  unfold ins;split
  ·rename_i hle;exact Srt.cons_iff.2 ⟨fun z hz=>by
    rcases List.mem_cons.1 hz with e | e
    ·rw[e]; exact hle
    ·exact Int.le_trans hle ((Srt.cons_iff.1 h).1 z e),h⟩
  ·rename_i hlt;obtain ⟨h1,h2⟩:=Srt.cons_iff.1 h;refine Srt.cons_iff.2 ⟨fun z hz=>?_,Bi x r h2⟩
   rcases List.mem_cons.1 ((sz x r).mem hz) with e | e
   ·rw[e]; omega
   ·exact h1 z e
theorem eW:∀ l:List α,aJ key l (sortBy key l)
 | []=>aJ.refl _
 | x::r=>(by simpa using aJ.append (aJ.refl (key:=key) [x]) (eW r):aJ key (x::r) (x::sortBy key r)).trans (sz x _)
theorem dH:∀ l:List α,Srt key (sortBy key l)
 | []=>Srt.nil
 | x::r=>Bi x _ (dH r)
theorem fL (l:List α):(sortBy key l).length=l.length:=(eW l).1
theorem dh (l:List α)(x:α):x∈sortBy key l↔x∈l:=(eW l).mem_iff x
theorem dS {l m:List α}(hs:Srt key m)(h:aJ key l m):m=sortBy key l:=(dH l).unique hs ((eW l).symm.trans h) |>.symm
theorem aJ.map {β:Type}{f:β→α}{l m:List β}(h:aJ (key ∘ f) l m):aJ key (l.map f) (m.map f):=by
 refine⟨by simp[h.1],fun c=>?_⟩;have:=h.2 c;rw[List.filter_map,List.filter_map];exact congrArg (List.map f) this
theorem Srt.map {β:Type}{f:β→α}{l:List β}(h:Srt (key ∘ f) l):Srt key (l.map f):=by
 unfold Srt;rw[List.pairwise_map];exact h
theorem zo {β:Type}{f:β→α}(l:List β):sortBy key (l.map f)=(sortBy (key ∘ f) l).map f :=
 (dS (dH (key:=key ∘ f) l).map (eW (key:=key ∘ f) l).map).symm
end
section
variable {α:Type}(key:α→Int)
inductive FC (B:Nat):List α→Prop
 | nil:FC B []
 | cons {c d:List α}:c.length=B→Srt key c→FC B d→FC B (c++d)
end
section
variable {α:Type}{key:α→Int}{B:Nat}
theorem FC.snoc {d c:List α}(h:FC key B d)(hc:c.length=B)(hs:Srt key c):FC key B (d++c):=by
 induction h with
 | nil=>simpa using FC.cons hc hs FC.nil
 | cons h1 h2 _ ih=>rw[List.append_assoc]; exact FC.cons h1 h2 ih
theorem FC.front {d:List α}(h:FC key B d)(hd:0<d.length):∃ c r,d=c++r∧c.length=B∧Srt key c∧FC key B r:=by
 cases h with
 | nil=>simp at hd
 | cons h1 h2 h3=>exact⟨_,_,rfl,h1,h2,h3⟩
end
def mU (x y:Int):Int:=if x<y then -1 else if y<x then 1 else 0
theorem iT {x y:Int}:mU x y<0↔x<y:=by unfold mU; split <;> (try split)<;>simp_all <;> omega
end Go.Pl
namespace Go.Proofs.YtkbagdedfdfjhaaGreatDoor
open Go Go.Sy Go.Pl Go.Proofs
set_option maxRecDepth 100000
theorem Tryz.mixed:Tryz.prog.follows .mixedOrders=true:=by kernel_rfl
theorem Tryz.sty25:STy Tryz.prog 25 3 1 8 (vi 0):=⟨Tryz.underlying25,⟨Tryz.t3,by kernel_rfl,by kernel_rfl,by kernel_rfl,by kernel_rfl⟩,rfl,by decide⟩
theorem Tryz.sty22:STy Tryz.prog 22 25 1 24 (.slice none 0 0):=⟨Tryz.underlying22,⟨Tryz.t25,by kernel_rfl,by kernel_rfl,by kernel_rfl,by kernel_rfl⟩,rfl,by decide⟩
theorem Tryz.sty76:STy Tryz.prog 76 94 2 16 (.agg #[vi 0,vi 0]):=⟨Tryz.underlying76,⟨Tryz.t94,by kernel_rfl,by kernel_rfl,by kernel_rfl,by kernel_rfl⟩,rfl,by decide⟩
theorem Tryz.sty28:STy Tryz.prog 28 78 3 40 (.agg #[vi 0,vi 0,.slice none 0 0]):=⟨Tryz.underlying28,⟨Tryz.t78,by kernel_rfl,by kernel_rfl,by kernel_rfl,by kernel_rfl⟩,rfl,by decide⟩
theorem bP {a b:Int}(h:a=b):some (vi a)=some (vi b):=by rw[h]
def encInt:Enc Int 1:=⟨fun n=>[vi n],fun _=>rfl,fun _ u hu=>by simp at hu; subst hu; rfl,by decide⟩
structure ai where
 cell:Int
 sign:Int
 deriving DecidableEq
def encSide:Enc ai 2:=⟨fun p=>[vi p.cell,vi p.sign],fun _=>rfl,fun _ u hu=>by simp at hu; rcases hu with rfl | rfl <;> rfl,by decide⟩
structure Sv where
 p:Option Addr
 n:Nat
 c:Nat
def encSv:Enc Sv 1:=⟨fun x=>[.slice x.p x.n x.c],fun _=>rfl,fun _ u hu=>by simp at hu; subst hu; rfl,by decide⟩
structure Rc where
 id:Int
 dim:Int
 sv:Sv
def encCell:Enc Rc 3:=⟨fun r=>[vi r.id,vi r.dim,.slice r.sv.p r.sv.n r.sv.c],fun _=>rfl,fun _ u hu=>by simp at hu; rcases hu with rfl | rfl | rfl <;> rfl,by decide⟩
abbrev bT (g:PH)(v:Value)(l:List Int):Prop:=SlA encInt g v l
def oB {α:Type}{k:Nat}(E:World)(cv:Value)(e:Enc α k)(key:α→Int)(g:PH):Prop :=
 ∀ g' s a b,Le g g'→cI Tryz.prog E cv [.agg (e.enc a).toArray,.agg (e.enc b).toArray] g' s (fun r g'' s''=>r=vi (mU (key a) (key b))∧g'=g''∧s=s'')
theorem bV {α:Type}{u w:List α}{a:α}{j:Nat}(h:j=u.length):(u++a::w)[j]?=some a:=by subst h; simp
theorem dq {α:Type}{u w:List α}{a b:α}{j:Nat}(h:j=u.length):(u++a::w).set j b=u++b::w:=by subst h; simp
theorem jI (x:Int)(h0:0≤x)(h:x<9223372036854775808):IntKind.i64.wrap ((IntKind.u64.wrap x).fdiv (2 ^ min (1:Int).toNat IntKind.u64.bits))=x / 2:=by
 have h1:IntKind.u64.wrap x=x:=IntWalk.u64_in _ oM;rw[h1];have h2:((2:Int) ^ min (1:Int).toNat IntKind.u64.bits)=2:=by decide
 rw[h2,Int.fdiv_eq_ediv_of_nonneg _ dC];rw[zk8 _ oM]
theorem SU.eq {P:Program}{N:Nat}{o:Oper}{f:Fr}{v v':Value}(h:SU P N o f v)(e:v=v'):SU P N o f v':=e ▸ h
theorem SQ.eq {P:Program}{N:Nat}{E:World}{o:Oper}{f:Fr}{g:PH}{s:Own}{v v':Value}(h:SQ P N E o f g s v)(e:v=v'):SQ P N E o f g s v':=e ▸ h
open _root_.Go.Proofs.Tryz _root_.Go.Proofs.YtkbagdedfdfjhaaGreatDoor.Tryz
theorem j3 (E:World)(g:PH)(s:Own)(a:Int):Ctr Tryz.prog E 135 #[vi a] g s (fun r g' s'=>r=vb false∧g=g'∧s=s'):=by
 refine za9 (args:=[vi a]) func135 I ntmps135 (bE I) ?_;refine rZ (aT I (sW I (lM I (lU (nQ I I) (aT I (rE ?_))))));exact za6 (.inl I) results135 I ⟨by simp,I,I⟩
theorem gH (E:World)(g:PH)(s:Own)(a b:Int):Ctr Tryz.prog E 90 #[vi a,vi b] g s (fun r g' s'=>r=vi (mU a b)∧g=g'∧s=s'):=by
 refine za9 (args:=[vi a,vi b]) func90 I ntmps90 (bE I) ?_;refine rZ (aT I (sW I (lW (cL call135 I (j3 E g s a)) ?_)));rintro _ _ _ ⟨rfl,rfl,rfl⟩;refine aT I (sW I (lW (cL call135 I (j3 E g s b)) ?_));rintro _ _ _ ⟨rfl,rfl,rfl⟩;refine aT I (sQ (sW I (tZ (cF I (kP (tN (sQ (sW I (tZ (cF I (kP (tN (sQ (sW I (lM I (yL I (tZ ?_)))))))))))))))));refine iP I (fun h1=>?_) (fun h1=>?_)
 ·refine rZ (aT I (rE (tR ?_)));exact za6 (.inl I) results90 I ⟨by unfold mU; rw[zf7 h1],I,I⟩
 ·refine kP (tN (sQ (sW I (lM I (lU (gR I I) (tZ ?_))))));refine iP I (fun h2=>?_) (fun h2=>?_)
  ·refine rZ (aT I (rE (tR ?_)));exact za6 (.inl I) results90 I ⟨by unfold mU; rw[zf6 h1,zf7 h2],I,I⟩
  ·refine kP (tN (rZ (aT I (rE ?_))));exact za6 (.inl I) results90 I ⟨by unfold mU; rw[zf6 h1,zf6 h2],I,I⟩
theorem kT8:type_of% @Tryz.call8:=@Tryz.call8
theorem dx:type_of% @Tryz.isAgg25:=@Tryz.isAgg25
theorem ii:type_of% @Tryz.isAgg28:=@Tryz.isAgg28
theorem iT3:type_of% @Tryz.isAgg3:=@Tryz.isAgg3
theorem bq:type_of% @Tryz.isAgg30:=@Tryz.isAgg30
theorem p4:type_of% @Tryz.isAgg62:=@Tryz.isAgg62
theorem dE:type_of% @Tryz.isAgg76:=@Tryz.isAgg76
theorem gJ:type_of% @Tryz.isAgg78:=@Tryz.isAgg78
theorem mT:type_of% @Tryz.isAgg94:=@Tryz.isAgg94
theorem dX:type_of% @Tryz.sizeOf121:=@Tryz.sizeOf121
theorem ee:type_of% @Tryz.sizeOf160:=@Tryz.sizeOf160
theorem sV:type_of% @Tryz.sizeOf22:=@Tryz.sizeOf22
theorem bZ:type_of% @Tryz.sizeOf25:=@Tryz.sizeOf25
theorem ek:type_of% @Tryz.sizeOf28:=@Tryz.sizeOf28
theorem zT3:type_of% @Tryz.sizeOf3:=@Tryz.sizeOf3
theorem aw:type_of% @Tryz.sizeOf30:=@Tryz.sizeOf30
theorem zT4:type_of% @Tryz.sizeOf4:=@Tryz.sizeOf4
theorem qu:type_of% @Tryz.sizeOf58:=@Tryz.sizeOf58
theorem fD:type_of% @Tryz.sizeOf62:=@Tryz.sizeOf62
theorem cA:type_of% @Tryz.sizeOf76:=@Tryz.sizeOf76
theorem aK:type_of% @Tryz.sizeOf78:=@Tryz.sizeOf78
theorem tu:type_of% @Tryz.sizeOf85:=@Tryz.sizeOf85
theorem cq:type_of% @Tryz.sizeOf94:=@Tryz.sizeOf94
theorem mY:type_of% @Tryz.underlying121:=@Tryz.underlying121
theorem iU:type_of% @Tryz.underlying133:=@Tryz.underlying133
theorem ol:type_of% @Tryz.underlying160:=@Tryz.underlying160
theorem bw:type_of% @Tryz.underlying162:=@Tryz.underlying162
theorem lT:type_of% @Tryz.underlying203:=@Tryz.underlying203
theorem bH:type_of% @Tryz.underlying22:=@Tryz.underlying22
theorem kZ:type_of% @Tryz.underlying24:=@Tryz.underlying24
theorem ak:type_of% @Tryz.underlying25:=@Tryz.underlying25
theorem aO:type_of% @Tryz.underlying28:=@Tryz.underlying28
theorem uT3:type_of% @Tryz.underlying3:=@Tryz.underlying3
theorem fq:type_of% @Tryz.underlying30:=@Tryz.underlying30
theorem uT4:type_of% @Tryz.underlying4:=@Tryz.underlying4
theorem nS:type_of% @Tryz.underlying40:=@Tryz.underlying40
theorem uT5:type_of% @Tryz.underlying5:=@Tryz.underlying5
theorem gI:type_of% @Tryz.underlying62:=@Tryz.underlying62
theorem xh:type_of% @Tryz.underlying75:=@Tryz.underlying75
theorem cM:type_of% @Tryz.underlying76:=@Tryz.underlying76
theorem ar:type_of% @Tryz.underlying78:=@Tryz.underlying78
theorem pY:type_of% @Tryz.underlying81:=@Tryz.underlying81
theorem qv:type_of% @Tryz.underlying87:=@Tryz.underlying87
theorem uT9:type_of% @Tryz.underlying9:=@Tryz.underlying9
theorem dK:type_of% @Tryz.underlying94:=@Tryz.underlying94
end Go.Proofs.YtkbagdedfdfjhaaGreatDoor
namespace Go.Sy
open Go
section
variable {P:Program}{N:Nat}{E:World}{f:Fr}{g:PH}{s:Own}{dst:Option Tmp}{ty:TypeId}{pos:String}{af:Array Edge}{gd:Option (Nat×Bool)}
theorem SQ.loadVarK {x:Operand}{T U:TypeId}{b k:Nat}{cs:Array Value}{fr:Nat×Nat}(i:Nat)(hT:∀ w,(isAgg T).run P w = .ok true w)(hk:∀ w,(sizeOf T).run P w = .ok k w)(hx:ev f x=some (pp b 0))
  (hs:s[i]?=some (pt b (.cells cs U fr))) (hc:cs.size=k):SQ P N E ⟨dst,.load T x,ty,pos,af,gd⟩ f g s (.agg cs):=SQ.loadVar i hT (by rw[hc]; exact hk) hx hs
theorem SO.storeAllK {T U:TypeId}{x y:Operand}{b k:Nat}{cs:Array Value}{v:Value}(i:Nat)(hk:∀ w,(sizeOf T).run P w = .ok k w)(hx:ev f x=some (pp b 0))(hy:ev f y=some v)(hi:s[i]?=some (pt b (.cells cs U (0,0))))
  (hc:cs.size=k) (hv:v.cells.size=k) (h1:FE v.cells.toList) :
  SO P N E ⟨dst,.store T x y,ty,pos,af,gd⟩ f g s fun _ g' s'=>g=g'∧s'=s.set i (pt b (.cells v.cells U (0,0))) :=
 SO.storeAll i (by rw[hc]; exact hk) hx hy hi (by rw[hv,hc]) (oa h1)
theorem SO.appendE {x y:Operand}{t e:TypeId}{k bytes n m:Nat}{z v u:Value}{xs ys:List Value}(i n':Nat)(xs':List Value)(hT:STy P t e k bytes z)(hx:ev f x=some v)(hi:s[i]?=some (row e k v n xs))(hy:ev f y=some u)
  (hu:isSl u=true) (hm:slen u=m) (hr:Rd g s u ys) (hl:ys.length=m * k) (h1:∀ q∈ys,q.oneCell'=true) (hn:n+m=n') (hxs:xs++ys=xs') (hb:n' * bytes≤140737488355328) (hlen:n'≤4611686018427387904) :
  SO P N E ⟨dst,.call ⟨.builtin .append,#[x,y],#[t,t]⟩,ty,pos,af,gd⟩ f g s fun v' g' s'=>g=g'∧s'=s.set i (row e k v' n' xs'):=by
 subst hn;subst hxs;exact SO.append i hT hx hi hy hu hm hr hl h1 hb hlen
end
section
variable {P:Program}{N:Nat}{E:World}{fn:Func}{R:Value→PH→Own→Prop}{e:Exit}{f:Fr}{g:PH}{s:Own}
theorem ST.retCD {T U:TypeId}{t b k:Nat}{cs:Array Value}{fr:Nat×Nat}(i:Nat)(s':Own)(he:e = .ret∨e = .normal)(hr:fn.results = #[.cell t T])(hv:bk f t=some (pp b 0))(hT:∀ w,(isAgg T).run P w = .ok true w)(hk:∀ w,(sizeOf T).run P w = .ok k w)
  (hs:s[i]?=some (pt b (.cells cs U fr))) (hc:cs.size=k) (hs':s'.Sublist s) (hR:R (.agg cs) g s'):ST N E (bodyPost P fn (qA E R)) e f g s :=
 fun a w ha hw=>by
  have h1:=eE (P:=P) hw hT (by rw[hc]; exact hk) hs;have h2:=ha.at_ t _ hv;simp only[Array.getD_eq_getD_getElem?] at h2;have h3:(results fn a.tmps).run P w = .ok (.agg cs) w:=by simp[results,hr,asAddr,pp,h2,h1]
  have h4:qA E R (.returned (.agg cs)) w:=⟨.agg cs,g,s',rfl,hw.sublist hs',hR⟩
  rcases he with rfl | rfl
  ·exact⟨ha.defers,_,h3,h4⟩
  ·exact⟨ha.defers,_,h3,h4⟩
theorem ST.retCD1 {T U:TypeId}{t u b k:Nat}{cs:Array Value}{fr:Nat×Nat}{x:Value}(i:Nat)(s':Own)(he:e = .ret∨e = .normal)(hr:fn.results = #[.cell t T,.tmp u])(hv:bk f t=some (pp b 0))(hu:bk f u=some x)
  (hT:∀ w,(isAgg T).run P w = .ok true w) (hk:∀ w,(sizeOf T).run P w = .ok k w)
  (hs:s[i]?=some (pt b (.cells cs U fr))) (hc:cs.size=k) (hs':s'.Sublist s) (hR:R (.tuple #[.agg cs,x]) g s'):ST N E (bodyPost P fn (qA E R)) e f g s :=
 fun a w ha hw=>by
  have h1:=eE (P:=P) hw hT (by rw[hc]; exact hk) hs;have h2:=ha.at_ t _ hv;have h5:=ha.at_ u _ hu;simp only[Array.getD_eq_getD_getElem?] at h2 h5;have h3:(results fn a.tmps).run P w = .ok (.tuple #[.agg cs,x]) w:=by simp[results,hr,asAddr,pp,h2,h1,h5]
  have h4:qA E R (.returned (.tuple #[.agg cs,x])) w:=⟨_,g,s',rfl,hw.sublist hs',hR⟩
  rcases he with rfl | rfl
  ·exact⟨ha.defers,_,h3,h4⟩
  ·exact⟨ha.defers,_,h3,h4⟩
end
theorem qV:type_of% @SQ.loadVarK:=@SQ.loadVarK
theorem sK:type_of% @SO.storeAllK:=@SO.storeAllK
end Go.Sy
namespace Go.Sy
open Go
theorem Enc.setPart {α:Type}{k:Nat}(e:Enc α k):∀ {l:List α} {j o:Nat} {a a':α} {u:Value},l[j]?=some a→o<k→e.enc a'=(e.enc a).set o u→(l.flatMap e.enc).set (j * k+o) u=(l.set j a').flatMap e.enc
 | [],_,_,_,_,_,h,_,_=>by simp at h
 | x::r,0,o,a,a',u,h,ho,he=>by
  simp only[List.getElem?_cons_zero,zg4] at h;subst h;simp only[zh2,List.set_cons_zero,Nat.zero_mul,Nat.zero_add,he];rw[List.set_append_left _ _ (by rw[e.len]; exact ho)]
 | x::r,j+1,o,a,a',u,h,ho,he=>by
  simp only[List.getElem?_cons_succ] at h;simp only[zh2,List.set_cons_succ];rw[List.set_append_right _ _ (by rw[e.len,Nat.succ_mul]; omega),e.len,show (j+1) * k+o - k=j * k+o by rw[Nat.succ_mul]; omega,Enc.setPart e h ho he]
section
variable {α:Type}{k:Nat}{e:Enc α k}{P:Program}{N:Nat}{E:World}{f:Fr}{g:PH}{s:Own}{dst:Option Tmp}{ty:TypeId}{pos:String}{af:Array Edge}{gd:Option (Nat×Bool)}
theorem SO.partA {x y:Operand}{T U:TypeId}{v u:Value}{l:List α}{a:α}{j o:Nat}(i:Nat)(a':α)(hk:∀ w,(sizeOf T).run P w = .ok 1 w)(hx:ev f x=some (qx v (j * k+o)))(hy:ev f y=some u)(hi:s[i]?=some (rowA e U v l))(ha:l[j]?=some a)
  (hu:u.cells = #[u]) (hu1:u.oneCell'=true) (ho:o<k) (he:e.enc a'=(e.enc a).set o u) :
  SO P N E ⟨dst,.store T x y,ty,pos,af,gd⟩ f g s fun _ g' s'=>g=g'∧s'=s.set i (rowA e U v (l.set j a')) :=
 SO.of_skip fun ac w hac hw=>by
  obtain ⟨hlen,h2⟩:=ge hw hi;have hfr:=hw.fresh _ (zf8 hi);have hj:=(zf2.1 ha).1
  rcases h2 with ⟨p,rfl,hn⟩ | ⟨b,cap,cur,rfl,hb,hle,hcm,hcs,ht⟩
  ·omega
  ·simp only[qx,Nat.zero_add] at hx;have hjk:j * k+k≤l.length * k:=by rw[← Nat.succ_mul]; exact Nat.mul_le_mul_right k hj
   have hlk:l.length * k≤(cap+1) * k:=Nat.mul_le_mul_right k hle;have hst:=run_storeCells_at P b (j * k+o) U [u] 0 cur w hb (by simp; omega) (by simpa using hu1);refine⟨w.setRow b (cur.toList.take (j * k+o+0)++[u]++cur.toList.drop (j * k+o+0+[u].length)).toArray,g,s.set i (rowA e U (.slice (some ⟨b,0,none⟩) l.length (cap+1)) (l.set j a')),?_,?_,I,I⟩
   ·simp[execOp,hac.ev hx,hac.ev hy,Instr.storeAt,Instr.sureAddr,storeVar,hk w,hu];rw[hst];simp
   ·refine hw.turn hi I ⟨I,(by exact lR _)⟩ I (by simp) (fun k' _ hk'=>setRow_other w b k' _ (fun e1=>hk' (by simp[rowA,row,nU,e1]))) ?_ (fun b' hb'=>?_)
    ·have h5:=setRow_heap w b cur (cur.toList.take (j * k+o+0)++[u]++cur.toList.drop (j * k+o+0+[u].length)).toArray U (0,0) hb;have hset:=e.setPart (u:=u) ha ho he;have:=dN (T:=U) (k:=k) (n:=l.length) (xs:=(l.set j a').flatMap e.enc) (by rw[e.length]; simp) h5 hle hcm (by simp; omega) (by
      rw[← hset,← ht];have h6:=pl cur.toList [u] (j * k+o) (l.length * k) (by simp; omega) (by simp; omega);simp only[Nat.add_zero,ze4] at h6 ⊢;rw[h6,List.set_eq_take_append_cons_drop,zf7 (by simp; omega)];simp)
     simpa [rowA] using this
    ·simp only[rowA,row,nU,zg4] at hb';subst hb';exact⟨by simpa using (hfr b I).2,.inl I⟩
def evps (f:Fr):List (Nat×Operand)→Option (List (Nat×Value))
 | []=>some []
 | (i,x)::r=>match ev f x with
  | some v=>match evps f r with
   | some vs=>some ((i,v)::vs)
   | none=>none
  | none=>none
theorem Ok.evps {a:Act}(h:Ok N f a):∀ {l:List (Nat×Operand)} {vs:List (Nat×Value)},Sy.evps f l=some vs→l.map (fun p=>(p.1,a.eval p.2))=vs
 | [],vs,hv=>by simp only[Sy.evps,zg4] at hv; subst hv; rfl
 | (i,x)::r,vs,hv=>by
  simp only[Sy.evps] at hv;split at hv
  ·rename_i v hx;split at hv
   ·rename_i vs' hr;simp only[zg4] at hv;subst hv;simp[h.ev hx,Ok.evps h hr]
   ·cases hv
  ·cases hv
theorem SU.build {T:TypeId}{ps:List (Nat×Operand)}{vs:List (Nat×Value)}{v:Value}(hp:evps f ps=some vs)(hr:∀ w,(Instr.build T vs.toArray).run P w = .ok v w):SU P N ⟨dst,.build T ps.toArray,ty,pos,af,gd⟩ f v:=fun a w ha=>by
 simp only[execOp,List.map_toArray,ha.evps hp,Sem.run_bind,hr w,zc7];rfl
end
def aB {α β:Type}(R:α→β→Prop):List α→List β→Prop
 | [],[]=>True
 | a::l,b::m=>R a b∧aB R l m
 | _,_=>False
section
variable {α β:Type}{R R':α→β→Prop}
theorem aB.length:∀ {l:List α} {m:List β},aB R l m→l.length=m.length
 | [],[],_=>rfl
 | _::_,_::_,h=>by simp[aB.length h.2]
 | [],_::_,h=>h.elim
 | _::_,[],h=>h.elim
theorem aB.mono (hr:∀ a b,R a b→R' a b):∀ {l:List α} {m:List β},aB R l m→aB R' l m
 | [],[],_=>trivial
 | _::_,_::_,h=>⟨hr _ _ h.1,aB.mono hr h.2⟩
 | [],_::_,h=>h.elim
 | _::_,[],h=>h.elim
theorem aB.get:∀ {l:List α} {m:List β} {i:Nat} {a:α} {b:β},aB R l m→l[i]?=some a→m[i]?=some b→R a b
 | x::l,y::m,0,a,b,h,ha,hb=>by simp at ha hb; subst ha; subst hb; exact h.1
 | x::l,y::m,i+1,a,b,h,ha,hb=>aB.get (i:=i) h.2 (by simpa using ha) (by simpa using hb)
 | [],[],_,_,_,_,ha,_=>by simp at ha
 | [],_::_,_,_,_,h,_,_=>h.elim
 | _::_,[],_,_,_,h,_,_=>h.elim
theorem aB.append:∀ {l l':List α} {m m':List β},aB R l m→aB R l' m'→aB R (l++l') (m++m')
 | [],_,[],_,_,h'=>h'
 | _::_,_,_::_,_,h,h'=>⟨h.1,aB.append h.2 h'⟩
 | [],_,_::_,_,h,_=>h.elim
 | _::_,_,[],_,h,_=>h.elim
theorem aB.cons_right {l:List α}{b:β}{m:List β}(h:aB R l (b::m)):∃ a l',l=a::l'∧R a b∧aB R l' m:=by
 cases l with
 | nil=>exact h.elim
 | cons a l'=>exact⟨a,l',rfl,h.1,h.2⟩
theorem aB.nil_right {l:List α}(h:aB R l []):l=[]:=by
 cases l with
 | nil=>rfl
 | cons a l'=>exact h.elim
end
end Go.Sy
namespace Go.Sy
open Go Go.MapKept
structure MTy (P:Program)(t kt et:TypeId)(z:Value):Prop where
 und:P.underlying t=some (.map kt et)
 key:P.underlying kt=some (.int .i64)
 zero:∀ w,(zeroValue et).run P w = .ok z w
def kM (p:Int×Value):Value×Value:=(vi p.1,p.2)
def nj (e:MapEntry):Value×Value:=(e.key,e.val)
def yZ (l:List (Int×Value))(es:Array MapEntry)(clk:Nat):Prop:=es.toList.map nj=l.map kM∧Stamped es clk
def mp (b:Nat)(l:List (Int×Value)):Ent:=⟨some b,fun oo=>∃ es clk,oo=some (.map es clk)∧yZ l es clk⟩
def Mp (g:PH)(b:Nat)(l:List (Int×Value)):Prop:=∃ es clk,g b=some (.map es clk)∧yZ l es clk
theorem Mp.mono {g g':PH}{b:Nat}{l:List (Int×Value)}(h:Mp g b l)(hl:Le g g'):Mp g' b l:=by
 obtain ⟨es,clk,h1,h2⟩:=h;exact⟨es,clk,hl _ _ h1,h2⟩
def fnd (k:Int):List (Int×Value)→Nat→Option (Nat×Value)
 | [],_=>none
 | (a,v)::r,i=>if k=a then some (i,v) else fnd k r (i+1)
def ft (l:List (Int×Value))(k:Int):Option Value:=(fnd k l 0).map (·.2)
def kh (l:List (Int×Value))(k:Int)(v:Value):List (Int×Value) :=
 match l with
 | []=>[(k,v)]
 | (a,u)::r=>if k=a then (k,v)::r else (a,u)::kh r k v
theorem oS (k:Int):∀ (l:List (Int×Value)) (i:Nat),(fnd k l i).map (·.2)=ft l k
 | [],_=>rfl
 | (a,v)::r,i=>by
  unfold ft;simp only[fnd];split
  ·rfl
  ·rw[oS k r (i+1),oS k r (0+1)]
theorem Ea (k:Int):ft [] k=none:=rfl
theorem cd (a:Int)(v:Value)(r:List (Int×Value))(k:Int):ft ((a,v)::r) k=if k=a then some v else ft r k:=by
 unfold ft;simp only[fnd];split
 ·rfl
 ·exact oS k r 1
theorem Cj (l:List (Int×Value))(k:Int)(v:Value)(j:Int):ft (kh l k v) j=if j=k then some v else ft l j:=by
 induction l with
 | nil=>simp[kh,cd,Ea]
 | cons p r ih =>
  obtain ⟨a,u⟩:=p;simp only[kh];split
  ·rename_i h;subst h;simp only[cd];split <;> simp_all
  ·rename_i h;simp only[cd,ih];by_cases hj:j=a
   ·subst hj;simp[Ne.symm h]
   ·simp[hj]
theorem mN (k:Int):∀ (es:List MapEntry) (l:List (Int×Value)) (i:Nat),es.map nj=l.map kM→Instr.findNow (.int .i64) (vi k) es i=some (fnd k l i)
 | [],[],_,_=>rfl
 | [],_::_,_,h=>by simp at h
 | _::_,[],_,h=>by simp at h
 | e::es,(a,v)::l,i,h=>by
  simp only[zg1,List.cons.injEq,nj,kM,Prod.mk.injEq] at h;obtain ⟨⟨h1,h2⟩,h3⟩:=h;simp only[Instr.findNow,h1,Instr.sameNow,if_true,fnd];by_cases hk:k=a
  ·simp[hk,h2]
  ·have:(k == a)=false:=by simpa using hk
   rw[this];simp only[hk,if_false];exact mN k es l (i+1) h3
section
variable {P:Program}{w:World}{t kt et:TypeId}{z:Value}{b:Nat}{es:Array MapEntry}{clk:Nat}{l:List (Int×Value)}
theorem ky (hT:MTy P t kt et z)(hb:w.heap[b]?=some (.map es clk))(hm:yZ l es clk)(k:Int)(ok:Bool) :
  (Instr.lookup t (.map (some b)) (vi k) ok).run P w = .ok (if ok then .tuple #[(ft l k).getD z,.bool (ft l k).isSome] else (ft l k).getD z) w:=by
 have hf:=mN k es.toList l 0 hm.1;have h1:=MapKept.run_findKey (w:=w) hT.key hf;have h2:=MapKept.run_checkKey (P:=P) (w:=w) hT.key (k:=vi k) rfl es.isEmpty 9999;unfold Instr.lookup;simp only[Sem.run_bind,run_underlying hT.und,zc7,MapKept.run_getObj_map hb,Sem.run_pure,h2,h1];unfold ft;cases hc:fnd k l 0 with
 | none=>simp[hT.zero w]
 | some q=>obtain ⟨i,v⟩:=q; simp
theorem yh (k:Int):∀ (l:List (Int×Value)) (i:Nat),(fnd k l i=none∧∀ p∈l,p.1≠k)∨∃ j v,fnd k l i=some (i+j,v)∧l[j]?=some (k,v)∧∀ u,kh l k u=l.set j (k,u)
 | [],_=>.inl ⟨rfl,by simp⟩
 | (a,v)::r,i=>by
  by_cases h:k=a
  ·subst h;exact .inr ⟨0,v,by simp[fnd],I,by simp[kh]⟩
  ·rcases yh k r (i+1) with ⟨h1,h2⟩ | ⟨j,v',h1,h2,h3⟩
   ·refine .inl ⟨by simp[fnd,h,h1],fun p hp=>?_⟩
    rcases ze7.1 hp with e | e
    ·rw[e]; exact fun e2=>h e2.symm
    ·exact h2 p e
   ·exact .inr ⟨j+1,v',by simp[fnd,h,h1]; omega,by simpa using h2,by simp[kh,h,h3]⟩
theorem jy (k:Int)(v:Value):∀ (l:List (Int×Value)),(∀ p∈l,p.1≠k)→kh l k v=l++[(k,v)]
 | [],_=>rfl
 | (a,u)::r,h=>by
  have h1:k≠a:=fun e=>h (a,u) (by simp) e.symm;simp only[kh,h1,if_false,List.cons_append,jy k v r (fun p hp=>h p (by simp[hp]))]
theorem mW (hT:MTy P t kt et z)(hb:w.heap[b]?=some (.map es clk))(hm:yZ l es clk)(k:Int)(v:Value) :
  ∃ es' clk',(Instr.mapUpdate t (.map (some b)) (vi k) v).run P w = .ok () { w with heap:=w.heap.setIfInBounds b (.map es' clk') }∧yZ (kh l k v) es' clk':=by
 have hf:=mN k es.toList l 0 hm.1;have h1:=MapKept.run_findKey (w:=w) hT.key hf;have h2:=MapKept.run_checkKey (P:=P) (w:=w) hT.key (k:=vi k) rfl false 9999;have hlen:es.toList.length=l.length:=by have:=zd8 List.length hm.1; simpa using this
 rcases yh k l 0 with ⟨hn,hne⟩ | ⟨j,u,hs,hj,hput⟩
 ·refine⟨es.push { key:=vi k,val:=v,born:=clk },clk+1,?_,?_,?_⟩
  ·rw[hn] at h1;simp[Instr.mapUpdate,run_underlying hT.und,MapKept.run_getObj_map hb,h2,h1,MapKept.run_setObj_map _ hb]
  ·rw[jy k v l hne];simp[hm.1,nj,kM]
  ·refine stamped_push hm.2 ?_;intro x hx e;have:nj x∈l.map kM:=by rw[← hm.1]; exact ze8.2 ⟨x,hx,I⟩
   obtain ⟨p,hp,hpe⟩:=ze8.1 this;simp only[kM,nj,Prod.mk.injEq] at hpe;refine hne p hp ?_;rw[e] at hpe;simpa using hpe.1
 ·have hjl:j<es.toList.length:=by rw[hlen]; exact (zf2.1 hj).1
  have hkey:(es.toList[j]).key=vi k:=by
   have h3:=zd8 (·[j]?) hm.1;simp only[zh6,hj,Option.map_some,gE hjl,zg4,nj,kM,Prod.mk.injEq] at h3;exact h3.1
  have hje:es[j]?=some es.toList[j]:=by simp at hjl; simp[hjl]
  rw[hs,Nat.zero_add] at h1;refine⟨es.modify j fun e=>{ e with key:=vi k,val:=v },clk,?_,?_,?_⟩
  ·have h4:=MapKept.run_keyThatStays (P:=P) (w:=w) (d:=.int .i64) (k:=vi k) rfl;have hkey':∀ h:j<es.size,es[j].key=vi k:=fun h=>by simpa using hkey
   simp[Instr.mapUpdate,run_underlying hT.und,MapKept.run_getObj_map hb,h2,h1,hje,hkey',h4,MapKept.run_setObj_map _ hb]
  ·rw[hput v];apply List.ext_getElem?;intro q;have h3:=zd8 (·[q]?) hm.1;simp only[zh6] at h3;rw[zh6,zh6,List.getElem?_set,Array.toList_modify,List.getElem?_modify];by_cases hq:j=q
   ·subst hq;have:j<l.length:=oM;simp[this,gE hjl,nj,kM]
   ·simp only[hq,if_false];simpa using h3
  ·exact stamped_modify hm.2 _ _ (fun _ _=>I) (fun e' _ he'=>by
    rw[hje] at he';injection he' with he'
    rw[← he',hkey])
end
section
variable {P:Program}{N:Nat}{E:World}{ops:Array Oper}{Q:Exit→Act→World→Prop}{f:Fr}{g:PH}{s:Own}{dst:Option Tmp}{ty:TypeId}{pos:String}{af:Array Edge}{gd:Option (Nat×Bool)}
variable {t kt et:TypeId}{z:Value}{b:Nat}{l:List (Int×Value)}{x y u:Operand}{k:Int}{v:Value}
def cG (g:PH)(s:Own)(b:Nat)(l:List (Int×Value)):Prop:=∀ E w,At E g s w→∃ es clk,w.heap[b]?=some (.map es clk)∧yZ l es clk
theorem cG.own (i:Nat)(hi:s[i]?=some (mp b l)):cG g s b l:=fun E w hw=>by
 obtain ⟨es,clk,h1,h2⟩:=hw.own _ (zf8 hi);exact⟨es,clk,by simpa [mp] using h1,h2⟩
theorem cG.known (h:Mp g b l):cG g s b l:=fun E w hw=>by
 obtain ⟨es,clk,h1,h2⟩:=h;exact⟨es,clk,hw.known _ _ h1,h2⟩
theorem SQ.lookup (hT:MTy P t kt et z)(hx:ev f x=some (.map (some b)))(hy:ev f y=some (vi k))(hm:cG g s b l):SQ P N E ⟨dst,.lookup t x y false,ty,pos,af,gd⟩ f g s ((ft l k).getD z):=fun a w ha hw=>by
 obtain ⟨es,clk,h1,h2⟩:=hm E w hw;simp[execOp,ha.ev hx,ha.ev hy,ky hT h1 h2]
theorem SQ.lookupOk (hT:MTy P t kt et z)(hx:ev f x=some (.map (some b)))(hy:ev f y=some (vi k))(hm:cG g s b l):SQ P N E ⟨dst,.lookup t x y true,ty,pos,af,gd⟩ f g s (.tuple #[(ft l k).getD z,.bool (ft l k).isSome]):=fun a w ha hw=>by
 obtain ⟨es,clk,h1,h2⟩:=hm E w hw;simp[execOp,ha.ev hx,ha.ev hy,ky hT h1 h2]
theorem SQ.lenMap (hT:P.underlying t=some (.map kt et))(hx:ev f x=some (.map (some b)))(hm:cG g s b l):SQ P N E ⟨dst,.call ⟨.builtin .len,#[x],#[t]⟩,ty,pos,af,gd⟩ f g s (vi l.length):=fun a w ha hw=>by
 obtain ⟨es,clk,h1,h2⟩:=hm E w hw;have hlen:es.toList.length=l.length:=by have:=zd8 List.length h2.1; simpa using this
 simp at hlen;simp[execOp,resolve,invoke,builtin,ha.ev hx,Builtin.len_,run_underlying hT,MapKept.run_getObj_map h1,goInt,hlen]
theorem SO.mkMap {T:TypeId}:SO P N E ⟨dst,.makeMap T none,ty,pos,af,gd⟩ f g s fun u g' s'=>∃ b,u = .map (some b)∧g=g'∧s'=mp b []::s :=
 SO.of_run fun a w _ hw=>⟨.map (some w.heap.size),_,g,_,by simp[execOp,Instr.makeMap],hw.alloc (e:=mp w.heap.size []) rfl ⟨#[],0,rfl,rfl,stamped_empty 0⟩,_,rfl,rfl,rfl⟩
theorem SO.mapUpdate (i:Nat)(hT:MTy P t kt et z)(hx:ev f x=some (.map (some b)))(hy:ev f y=some (vi k))(hu:ev f u=some v)(hi:s[i]?=some (mp b l)) :
  SO P N E ⟨dst,.mapUpdate t x y u,ty,pos,af,gd⟩ f g s fun _ g' s'=>g=g'∧s'=s.set i (mp b (kh l k v)) :=
 SO.of_skip fun a w ha hw=>by
  obtain ⟨es,clk,h1,h2⟩:=hw.own _ (zf8 hi);have hb:w.heap[b]?=some (.map es clk):=by simpa [mp] using h1
  obtain ⟨es',clk',hr,hm'⟩:=mW hT hb h2 k v;have hfr:=hw.fresh _ (zf8 hi) b rfl;obtain ⟨e1,e2⟩:=MapKept.heap_set (o':=.map es' clk') hb;refine⟨_,g,s.set i (mp b (kh l k v)),by simp[execOp,ha.ev hx,ha.ev hy,ha.ev hu,hr]; rfl,?_,rfl,rfl⟩;refine hw.turn hi I ⟨I,(by exact lR _)⟩ I (by simp) (fun q _ hne=>e2 q (fun e=>hne (by simp[mp,e]))) ⟨es',clk',by simpa [mp] using e1,hm'⟩ (fun b' hb'=>?_);simp only[mp,zg4] at hb';subst hb';exact⟨by simpa using hfr.2,.inl I⟩
theorem At.freezeMap {w:World}(h:At E g (mp b l::s) w):∃ g',Le g g'∧At E g' s w∧Mp g' b l:=by
 obtain ⟨es,clk,h1,h2⟩:=h.own _ (List.mem_cons_self ..);have hb:w.heap[b]?=some (.map es clk):=by simpa [mp] using h1
 obtain ⟨h3,h4⟩:=h.freeze (b:=b) rfl hb;exact⟨_,h4,h3,es,clk,fw _ _ _,h2⟩
theorem SC.freezeMap {c:Code}(h:∀ g',Le g g'→Mp g' b l→SC P N E c Q f g' s):SC P N E c Q f g (mp b l::s):=fun a w ha hw=>by
 obtain ⟨g',h1,h2,h3⟩:=hw.freezeMap;exact h g' h1 h3 a w ha h2
theorem SL.freezeMap {l':List Oper}(h:∀ g',Le g g'→Mp g' b l→SL P N E ops Q l' f g' s):SL P N E ops Q l' f g (mp b l::s):=fun a w ha hw=>by
 obtain ⟨g',h1,h2,h3⟩:=hw.freezeMap;exact h g' h1 h3 a w ha h2
theorem ST.freezeMap {e:Exit}(h:∀ g',Le g g'→Mp g' b l→ST N E Q e f g' s):ST N E Q e f g (mp b l::s):=fun a w ha hw=>by
 obtain ⟨g',h1,h2,h3⟩:=hw.freezeMap;exact h g' h1 h3 a w ha h2
end
def j6 (r m:Nat)(es:Array MapEntry)(clk:Nat)(vis:List MapEntry):Ent:=⟨some r,fun oo=>oo=some (.mapIter (some m) clk (vis.map (·.born)).toArray clk)⟩
structure Vis (es:Array MapEntry)(vis:List MapEntry):Prop where
 sub:∀ e∈vis,e∈es.toList
 nodup:(vis.map (·.born)).Nodup
theorem yK {es:Array MapEntry}{clk:Nat}(h:Stamped es clk){a b:MapEntry}(ha:a∈es.toList)(hb:b∈es.toList)(he:a.born=b.born):a=b:=by
 have h1:=h.2.1;obtain ⟨i,hi,rfl⟩:=zc4 ha;obtain ⟨j,hj,rfl⟩:=zc4 hb;have:i=j:=by
  have h2:=List.nodup_iff_pairwise_ne.1 h1;by_cases hij:i=j
  ·exact hij
  ·exfalso
   rcases Nat.lt_or_gt_of_ne hij with h3 | h3
   ·have:=zc6.1 h2 i j (by simpa using hi) (by simpa using hj) h3;simp at this; exact this (by simpa using he)
   ·have:=zc6.1 h2 j i (by simpa using hj) (by simpa using hi) h3;simp at this; exact this (by simpa using he.symm)
 subst this;rfl
section
variable {P:Program}{N:Nat}{E:World}{f:Fr}{g:PH}{s:Own}{dst:Option Tmp}{ty:TypeId}{pos:String}{af:Array Edge}{gd:Option (Nat×Bool)}
variable {t kt et:TypeId}{m r clk:Nat}{es:Array MapEntry}{vis:List MapEntry}{x:Operand}
theorem SO.range (hT:P.underlying t=some (.map kt et))(hx:ev f x=some (.map (some m)))(hm:g m=some (.map es clk)) :
  SO P N E ⟨dst,.range t x,ty,pos,af,gd⟩ f g s fun u g' s'=>∃ r,u=pp r 0∧g=g'∧s'=j6 r m es clk []::s :=
 SO.of_run fun a w ha hw=>⟨pp w.heap.size 0,{ w with heap:=w.heap.push (.mapIter (some m) clk #[] clk) },g,j6 w.heap.size m es clk []::s,by
  have hb:=hw.known _ _ hm;simp[execOp,ha.ev hx,Instr.range,run_underlying hT,MapKept.run_getObj_map hb],hw.alloc (e:=j6 w.heap.size m es clk []) rfl rfl,_,rfl,rfl,rfl⟩
theorem SO.next (i:Nat)(hx:ev f x=some (pp r 0))(hi:s[i]?=some (j6 r m es clk vis))(hm:g m=some (.map es clk))(hst:Stamped es clk)(hv:Vis es vis) :
  SO P N E ⟨dst,.next x false,ty,pos,af,gd⟩ f g s fun u g' s'=>g=g' ∧
   ((u = .tuple #[.bool false]∧s=s'∧∀ e∈es.toList,e∈vis)∨∃ e,e∈es.toList∧e.born ∉ vis.map (·.born)∧u = .tuple #[.bool true,e.key,e.val]∧s'=s.set i (j6 r m es clk (vis++[e]))) :=
 SO.of_run fun a w ha hw=>by
  have hit:=hw.own _ (zf8 hi);have hb:=hw.known _ _ hm;have hr:w.heap[r]?=some (.mapIter (some m) clk (vis.map (·.born)).toArray clk):=by simpa [j6] using hit
  have hget:(getObj r).run P w = .ok (.mapIter (some m) clk (vis.map (·.born)).toArray clk) w:=by simp[getObj,Sem.run,hr]
  have hold:∀ e∈es.toList,e.born<clk:=hst.1;have hall:(es.all (·.born≥clk))=true→es = #[]:=fun h=>by
   rw[Array.all_eq_true_iff_forall_mem] at h;apply Array.eq_empty_of_size_eq_zero;cases hsz:es.size with
   | zero=>rfl
   | succ q =>
    exfalso;have h0:0<es.size:=oM;have h1:=h es[0] (Array.getElem_mem h0);have h2:=hold es[0] (by simp);simp at h1;omega
  have hfl:(es.filter fun e=>!(vis.map (·.born)).toArray.contains e.born).filter (·.born<clk)=es.filter fun e=>!(vis.map (·.born)).toArray.contains e.born:=by
   apply Array.ext';simp only[Array.toList_filter];rw[List.filter_eq_self];intro e he;have:=hold e (zh1.1 he).1;simpa using this
  have hfn:(es.filter fun e=>!(vis.map (·.born)).toArray.contains e.born).filter (·.born≥clk) = #[]:=by
   apply Array.ext';simp only[Array.toList_filter];rw[List.filter_eq_nil_iff];intro e he;have:=hold e (zh1.1 he).1;simp; omega
  generalize hL:es.filter (fun e=>!(vis.map (·.born)).toArray.contains e.born)=left at hfl hfn;have hmem:∀ e,e∈left.toList↔e∈es.toList∧e.born ∉ vis.map (·.born):=fun e=>by
   rw[← hL];simp
  have hguard:(!(vis.map (·.born)).toArray.isEmpty && !es.isEmpty&&es.all (·.born≥clk))=false:=by
   cases h1:es.all (·.born≥clk) with
   | false=>simp
   | true=>rw[hall h1]; simp
  have hfresh:=hw.fresh _ (zf8 hi) r rfl;by_cases hempty:left = #[]
  ·-- none is left
   refine⟨.tuple #[.bool false],w,g,s,?_,hw,I,.inl ⟨I,I,fun e he=>?_⟩⟩
   ·simp only[execOp,ha.ev hx,Instr.next,Sem.run_bind,hget,zc7,MapKept.run_getObj_map hb,hguard,Bool.false_eq_true,if_false,Sem.run_pure,hL,hfl,hfn,hempty];simp[choose,Sem.run,Question.forced]
   ·by_cases hin:e.born∈vis.map (·.born)
    ·obtain ⟨e',he',heq⟩:=ze8.1 hin;rw[← yK hst (hv.sub e' he') he heq];exact he'
    ·have:=(hmem e).2 ⟨he,hin⟩;rw[hempty] at this;simp at this
  ·have hsz:0<left.size:=by
    rcases Nat.eq_zero_or_pos left.size with h | h
    ·exact absurd (Array.eq_empty_of_size_eq_zero h) hempty
    ·exact h
   have hcand:((if left.isEmpty then #[none] else #[])++(left ++ #[]).map some:Array (Option MapEntry))=left.map some:=by
    have:left.isEmpty=false:=by simpa using hempty
    simp[this]
   -- the entry that is drawn
   have hch:∃ (q:Nat) (w':World),(choose (.mapNext left.size)).run P w = .ok q w'∧q<left.size∧∃ n,w.drawn≤n∧w'={ w with drawn:=n }:=by
    by_cases h1:left.size≤1
    ·exact⟨0,w,by simp[choose,Sem.run,Question.forced,h1],hsz,w.drawn,lR _,I⟩
    ·exact⟨_,_,by simp[choose,Sem.run,Question.forced,h1,Question.cut]; rfl,Nat.mod_lt _ hsz,w.drawn+1,Nat.le_succ _,rfl⟩
   obtain ⟨q,w',hq1,hq2,n,hq0,hq3⟩:=hch;have hr':w'.heap[r]?=some (.mapIter (some m) clk (vis.map (·.born)).toArray clk):=by rw[hq3]; exact hr
   have hset:(setObj r (.mapIter (some m) clk ((vis.map (·.born)).toArray.push left[q].born) clk)).run P w' = .ok () { w' with heap:=w'.heap.setIfInBounds r (.mapIter (some m) clk ((vis.map (·.born)).toArray.push left[q].born) clk) }:=by
    simp[setObj,Sem.run,hr']
   have hin:left[q]∈left.toList:=by simp
   refine⟨.tuple #[.bool true,left[q].key,left[q].val],{ w' with heap:=w'.heap.setIfInBounds r (.mapIter (some m) clk ((vis.map (·.born)).toArray.push left[q].born) clk) },g,s.set i (j6 r m es clk (vis++[left[q]])),?_,?_,I,.inr ⟨left[q],((hmem _).1 hin).1,((hmem _).1 hin).2,I,I⟩⟩
   ·simp only[execOp,ha.ev hx,Instr.next,Sem.run_bind,hget,zc7,MapKept.run_getObj_map hb,hguard,Bool.false_eq_true,if_false,Sem.run_pure,hL,hfl,hfn];rw[hcand];simp only[Array.size_map,hq1,zc7];have hg2:(left.map some)[q]?=some (some left[q]):=by simp[hq2]
    simp only[hg2,Sem.run_bind,hset,zc7,Sem.run_pure]
   ·have hw2:At E g s w':=by rw[hq3]; exact hw.drew n hq0
    have hlt:r<w'.heap.size:=by rw[hq3]; exact hfresh.2
    refine hw2.turn hi I ⟨I,(by exact lR _)⟩ I (by simp) (fun k _ hk=>by simp only[Array.getElem?_setIfInBounds_ne (fun e=>hk (by simp[j6,e]):r≠k)]) ?_ (fun b' hb'=>?_)
    ·simp[j6,hlt]
    ·simp only[j6,zg4] at hb';subst hb';exact⟨by simpa using hlt,.inl I⟩
theorem SQ.entry {e:MapEntry}(i:Nat)(hx:ev f x=some (pp r 0))(hi:s[i]?=some (j6 r m es clk (vis++[e])))(hm:g m=some (.map es clk))(hst:Stamped es clk)(he:e∈es.toList) :
  SQ P N E ⟨dst,.entry x,ty,pos,af,gd⟩ f g s (.tuple #[e.key,e.val]):=fun a w ha hw=>by
 have hit:=hw.own _ (zf8 hi);have hb:=hw.known _ _ hm;have hr:w.heap[r]?=some (.mapIter (some m) clk ((vis++[e]).map (·.born)).toArray clk):=by simpa [j6] using hit
 have hget:(getObj r).run P w = .ok (.mapIter (some m) clk ((vis++[e]).map (·.born)).toArray clk) w:=by simp[getObj,Sem.run,hr]
 have hback:((vis++[e]).map (·.born)).toArray.back?=some e.born:=by simp
 have hfind:es.find? (·.born == e.born)=some e:=by
  rw[← Array.find?_toList];have h1:(es.toList.find? (·.born == e.born)).isSome:=by
   rw[List.find?_isSome];exact⟨e,he,by simp⟩
  obtain ⟨e',he'⟩:=zh5.1 h1;have h2:=List.find?_some he';have h3:=zk3 he';rw[he',yK hst h3 he (by simpa using h2)]
 simp[execOp,ha.ev hx,Instr.entry,hget,MapKept.run_getObj_map hb,hfind]
end
theorem za1:type_of% @SU.build:=@SU.build
theorem zb3:type_of% @SL.freeze:=@SL.freeze
end Go.Sy
namespace Go.Pl
open Go.Sy
theorem aB.ins {α β:Type}{R:α→β→Prop}{f:α→Int}{h:β→Int}(hk:∀ a b,R a b→f a=h b){a:α}{b:β}(hab:R a b):∀ {l:List α} {m:List β},aB R l m→aB R (ins f a l) (ins h b m)
 | [],[],_=>⟨hab,trivial⟩
 | x::l,y::m,hl=>by
  unfold Pl.ins;rw[hk a b hab,hk x y hl.1];split
  ·exact⟨hab,hl⟩
  ·exact⟨hl.1,aB.ins hk hab hl.2⟩
 | [],_::_,hl=>hl.elim
 | _::_,[],hl=>hl.elim
theorem aB.sortBy {α β:Type}{R:α→β→Prop}{f:α→Int}{h:β→Int}(hk:∀ a b,R a b→f a=h b):∀ {l:List α} {m:List β},aB R l m→aB R (sortBy f l) (sortBy h m)
 | [],[],_=>trivial
 | _::_,_::_,hl=>aB.ins hk hl.1 (aB.sortBy hk hl.2)
 | [],_::_,hl=>hl.elim
 | _::_,[],hl=>hl.elim
end Go.Pl
namespace Go.Proofs.YtkbagdedfdfjhaaGreatDoor
open _root_.Go.Proofs.Tryz _root_.Go.Proofs.YtkbagdedfdfjhaaGreatDoor.Tryz
open Go Go.Sy Go.Pl Go.Proofs
set_option maxRecDepth 100000
def bU (a b:Int):Int:=(IntKind.i64.wrap (a.tmod b+b)).tmod b
theorem aW (E:World)(g:PH)(s:Own)(a b:Int)(hb:b≠0):Ctr Tryz.prog E 8 #[vi a,vi b] g s
  (fun r g' s'=>r=vi (bU a b)∧g=g'∧s=s'):=by
 refine za9 (args:=[vi a,vi b]) func8 I ntmps8 (bE I) ?_;refine rZ (aT I (sW I (lM I (lU (zd4 I I oM) (lM I (lU (zd6 I I) (lM I (lU (zd4 I I oM) (aT I (rE ?_))))))))));exact za6 (.inl I) results8 I ⟨I,I,I⟩
theorem uf (E:World)(g:PH)(s:Own)(v u:Value)(l m:List Int)(hv:bT g v l)(hu:bT g u m)(hl:l.length<4611686018427387904):Ctr Tryz.prog E 12 #[v,u] g s
  (fun r g' s'=>r=vb (decide (l=m))∧g=g'∧s=s'):=by
 obtain ⟨p,c,rfl⟩:=SlA.form hv;obtain ⟨q,d,rfl⟩:=SlA.form hu;refine za9 (args:=[.slice p l.length c,.slice q m.length d]) func12 I ntmps12 (bE I) ?_;refine rZ (aT I (sQ (sW I (lU (eN ak I) (lM I (lU (eN ak I) (lU (nQ I I) (tZ ?_))))))));refine iP I (fun hne=>?_) (fun hne=>?_)
 ·refine rZ (aT I (rE (tR ?_)));exact za6 (.inl I) results12 I ⟨by have:l≠m:=fun e=>hne (by rw[e]); simp[this],I,I⟩
 ·refine kP (tN (sQ (rZ (aT I (bK ?_)))));have hlen:l.length=m.length:=oM;refine oP (ι:=Nat) (fun k=>[(0,.slice p l.length c),(1,.slice q m.length d),(5,vi k)]) (fun _=>g) (fun _=>s) (fun k=>k≤l.length∧l.take k=m.take k) (fun k=>l.length - k) 0
   sB rfl rfl ⟨zf3 _,by simp⟩ ?_
  rintro k ⟨hk,heq⟩;refine sQ (sW I (lM I (lU (eN ak I) (yL I (tZ ?_)))));refine iP I (fun hlt=>?_) (fun hlt=>?_)
  ·have hkl:k<l.length:=oM;have hkm:k<m.length:=oM;have hb1:=SlA.based hv oM;have hb2:=SlA.based hu oM;refine kP (tN (sQ (bK (sQ ?_))));refine dW [] [(0,2),(1,2),(2,2),(3,1),(4,2),(5,2),(6,2),(7,1),(8,2)] Tryz.mixed kR ?_;refine yM I (yM I (pU I (iA ak zT3 I I (by assumption) oM (by (simp[slen]; omega))) ?_));refine pQ I (eB iT3 I (SlA.rd hv) (gE hkl) I) dC ?_;refine yM I (yM I (pU I (iA ak zT3 I I (by assumption) oM (by (simp[slen]; omega))) ?_));refine pQ I (eB iT3 I (SlA.rd hu) (gE hkm) I) dC ?_;refine pU I (nQ I I) (pN (tN ?_));refine iP I (fun hd=>?_) (fun hd=>?_)
   ·refine rZ (aT I (rE (bR (tR (tR (bR (tR ?_)))))));exact za6 (.inl I) results12 I ⟨by have:l≠m:=fun e=>hd (by simp[e]); simp[this],I,I⟩
   ·refine kP (bN (tN (rG (lM I (yD I (lA I (nL ?_)))))));exact gA (k+1) sB I I ⟨oM,by rw[tS hkl,tS hkm,heq,zg6 hd]⟩ oM
  ·refine xI (tX (tX (bX (tN (rZ (aT I (rE ?_)))))));have hkk:k=l.length:=oM;subst hkk;have:l=m:=by rw[tL (lR _),tL oM] at heq; exact heq
   exact za6 (.inl I) results12 I ⟨by simp[this],I,I⟩
inductive SoI:(α:Type)→(k:Nat)→Enc α k→(T TS f1 f2 f3 f4 f5 f6:Nat)→Prop
 | c:SoI Rc 3 encCell 78 28 232 214 172 173 134 88
 | s:SoI ai 2 encSide 94 76 233 215 174 175 136 92
abbrev SoI.en {α:Type}{k:Nat}{e:Enc α k}{T TS f1 f2 f3 f4 f5 f6:Nat}(_:SoI α k e T TS f1 f2 f3 f4 f5 f6):Enc α k:=e
abbrev SoI.ty {α:Type}{k:Nat}{e:Enc α k}{T TS f1 f2 f3 f4 f5 f6:Nat}(_:SoI α k e T TS f1 f2 f3 f4 f5 f6):TypeId:=T
section
variable {α:Type}{k:Nat}{e:Enc α k}{T TS f1 f2 f3 f4 f5 f6:Nat}(w:SoI α k e T TS f1 f2 f3 f4 f5 f6)
include w
theorem SoI.uS:Tryz.prog.underlying TS=some (.slice T):=by
 cases w
 ·exact aO
 ·exact cM
theorem SoI.zE:∀ w,(sizeOf T).run Tryz.prog w = .ok k w:=by
 cases w
 ·exact aK
 ·exact cq
theorem SoI.aE:∀ w,(isAgg T).run Tryz.prog w = .ok true w:=by
 cases w
 ·exact gJ
 ·exact mT
theorem SoI.kf1:∀ args w,(callFunc f1 args).run Tryz.prog w = .ok (.enter f1 args) w:=by
 cases w
 ·exact call232
 ·exact call233
theorem SoI.kf2:∀ args w,(callFunc f2 args).run Tryz.prog w = .ok (.enter f2 args) w:=by
 cases w
 ·exact call214
 ·exact call215
theorem SoI.kf3:∀ args w,(callFunc f3 args).run Tryz.prog w = .ok (.enter f3 args) w:=by
 cases w
 ·exact call172
 ·exact call174
theorem SoI.kf4:∀ args w,(callFunc f4 args).run Tryz.prog w = .ok (.enter f4 args) w:=by
 cases w
 ·exact call173
 ·exact call175
theorem SoI.kf5:∀ args w,(callFunc f5 args).run Tryz.prog w = .ok (.enter f5 args) w:=by
 cases w
 ·exact call134
 ·exact call136
theorem mu (E:World)(g:PH)(s:Own)(v cv:Value)(p A x B q:List α)(hAB:A.length=B.length)(hn:(p++A++x++B++q).length<2305843009213693952)(a b n:Int)(ha:a=p.length)(hb:b=p.length+A.length+x.length)(hnn:n=A.length) :
  Ctr Tryz.prog E f1 #[v,vi a,vi b,vi n,cv] g (rowA e T v (p++A++x++B++q)::s) (fun _ g' s'=>g=g'∧s'=rowA e T v (p++B++x++A++q)::s):=by
 have uS:=w.uS;have zE:=w.zE;have aE:=w.aE;have w2:=w;cases w2
 all_goals
  subst ha hb hnn;simp only[ze2] at hn;refine Ctr.facts fun ⟨w0,hw0⟩=>?_;obtain ⟨pp0,cc0,rfl⟩:=ah (i:=0) hw0 rfl;have hbase:A≠[]→based (.slice pp0 (p++A++x++B++q).length cc0)=true:=fun hne=>by
   obtain ⟨b0,c0,he⟩:=ck (i:=0) hw0 rfl (by simp; have:=List.length_pos_iff.2 hne; omega);rw[he]; rfl
  clear hw0 w0;generalize hL:(p++A++x++B++q).length=L at *;generalize hvv:Value.slice pp0 L cc0=v at *;have hsl:slen v=L:=by rw[← hvv]; rfl
  simp only[ze2] at hL
  first | refine za9 (args:=[v,vi p.length,vi (p.length+A.length+x.length),vi A.length,cv]) func232 rfl ntmps232 (bE rfl) ?_ | refine za9 (args:=[v,vi p.length,vi (p.length+A.length+x.length),vi A.length,cv]) func233 rfl ntmps233 (bE rfl) ?_
  refine rZ (aT I (bK ?_));refine oP (ι:=type_of% q×type_of% q×type_of% q×type_of% q) (fun i=>[(0,v),(1,vi p.length),(2,vi (p.length+A.length+x.length)),(3,vi A.length),(4,cv),(10,vi i.1.length)]) (fun _=>g) (fun i=>rowA w.en w.ty v (p++i.2.2.1++i.2.1++x++i.1++i.2.2.2++q)::s) (fun i=>A=i.1++i.2.1∧B=i.2.2.1++i.2.2.2∧i.1.length=i.2.2.1.length) (fun i=>i.2.1.length) ([],A,[],B) sB I (by simp) ⟨I,I,I⟩ ?_;rintro ⟨A1,A2,B1,B2⟩ ⟨hA,hB,h12⟩;dsimp only at hA hB h12 ⊢;have hlA:A.length=A1.length+A2.length:=by rw[hA]; simp
  have hlB:B.length=B1.length+B2.length:=by rw[hB]; simp
  refine sQ (sW I (lM I (yL I (tZ ?_))));refine iP I (fun hlt=>?_) (fun hlt=>?_)
  ·cases A2 with
   | nil=>simp at hlA; omega
   | cons ea A2 =>
   cases B2 with
   | nil=>simp at hlA hlB; omega
   | cons eb B2 =>
   simp only[ze5] at hlA hlB;have hbs:=hbase (by rw[hA]; simp);have hga:(p++B1++(ea::A2)++x++A1++(eb::B2)++q)[((p.length:Int)+(A1.length:Int)).toNat]?=some ea:=by
    have:p++B1++(ea::A2)++x++A1++(eb::B2)++q=(p++B1)++ea::(A2++x++A1++(eb::B2)++q):=by simp
    rw[this]; exact bV (by simp; omega)
   have hgb:(p++B1++(ea::A2)++x++A1++(eb::B2)++q)[((p.length:Int)+A.length+x.length+(A1.length:Int)).toNat]?=some eb:=by
    have:p++B1++(ea::A2)++x++A1++(eb::B2)++q=(p++B1++(ea::A2)++x++A1)++eb::(B2++q):=by simp
    rw[this]; exact bV (by simp; omega)
   refine kP (tN (sQ (bK ?_)));refine dW [21,23] [(0,2),(1,2),(2,2),(3,2),(4,2),(5,2),(6,2),(7,2),(8,2),(9,2),(10,2),(11,2),(12,2),(13,1),(14,2),(15,2),(16,2),(17,2),(18,2),(19,1),(20,2),(21,0),(22,2),(23,0)] Tryz.mixed kR ?_;refine yM I (yM I (yM I (pU I (aD I I oM) (yM I (yM I (yM I (pU I (aD I I oM) (yM I (yM I (yM I (pU I (aD I I oM) (pU I (iA uS zE I I hbs oM (by rw[hsl]; omega)) ?_))))))))))));refine pK I (eA aE zE I (Rd.rowA 0 I) hgb) (yM I (yM I (yM I (pU I (aD I I oM) (pU I (iA uS zE I I hbs oM (by rw[hsl]; omega)) ?_)))));refine pK I (eA aE zE I (Rd.rowA 0 I) hga) (pU I (iA uS zE I I hbs oM (by rw[hsl]; omega)) ?_);refine SP.on I (sT (a:=eb) 0 zE I I I (by simp; omega) I) (.inl dC) ?_;rintro _ _ _ ⟨rfl,rfl⟩;refine pU I (iA uS zE I I hbs oM (by rw[hsl]; omega)) ?_;refine SP.on I (sT (a:=ea) 0 zE I I I (by simp; omega) I) (.inl dC) ?_;rintro _ _ _ ⟨rfl,rfl⟩;refine pN (bN (tN (rG (lM I (yD I (lA I (nL ?_)))))));have hset:((p++B1++(ea::A2)++x++A1++(eb::B2)++q).set ((p.length:Int)+(A1.length:Int)).toNat eb).set ((p.length:Int)+A.length+x.length+(A1.length:Int)).toNat ea=p++(B1++[eb])++A2++x++(A1++[ea])++B2++q:=by
    have h1:p++B1++(ea::A2)++x++A1++(eb::B2)++q=(p++B1)++ea::(A2++x++A1++(eb::B2)++q):=by simp
    rw[h1,dq (by simp; omega)];have h2:(p++B1)++eb::(A2++x++A1++(eb::B2)++q)=(p++B1++eb::(A2++x++A1))++eb::(B2++q):=by simp
    rw[h2,dq (by simp; omega)];simp
   exact gA (A1++[ea],A2,B1++[eb],B2) ⟨I,I,I,I,I,bP (by simp),trivial⟩ I (by dsimp only; rw[← hset]; rfl) ⟨by simp[hA],by simp[hB],by simp[h12]⟩ (by simp)
  ·refine xI (tX (tX (bX ?_)));cases A2 with
   | cons ea A2=>simp at hlA; omega
   | nil =>
   cases B2 with
   | cons ea A2=>simp at hlA hlB; omega
   | nil =>
   exact ST.ret0 (.inr I) (by exact results232) ⟨I,by simp[hA,hB]⟩
theorem F6 (E:World)(g:PH)(s:Own)(v cv:Value)(p U V q:List α)(hU:0<U.length)(hV:0<V.length)(hn:(p++U++V++q).length<2305843009213693952)(a m b:Int)(ha:a=p.length)(hm:m=p.length+U.length)(hb:b=p.length+U.length+V.length) :
  Ctr Tryz.prog E f2 #[v,vi a,vi m,vi b,cv] g (rowA e T v (p++U++V++q)::s) (fun _ g' s'=>g=g'∧s'=rowA e T v (p++V++U++q)::s):=by
 have uS:=w.uS;have zE:=w.zE;have aE:=w.aE;have kf1:=w.kf1;have w2:=w;cases w2
 all_goals
  simp only[ze2] at hn
  first | refine za9 (args:=[v,vi a,vi m,vi b,cv]) func214 rfl ntmps214 (bE rfl) ?_ | refine za9 (args:=[v,vi a,vi m,vi b,cv]) func215 rfl ntmps215 (bE rfl) ?_
  refine sW I (lM I (lU (sU I I oM) (aT I (sW I (lM I (lU (sU I I oM) (aT I ?_)))))));refine SC.cut (ι:=type_of% q×type_of% q×type_of% q×type_of% q) (fun i=>[(0,v),(1,vi a),(2,vi m),(3,vi b),(4,cv),(10,vi i.2.1.length),(11,vi i.2.2.1.length)]) (fun _=>g) (fun i=>rowA w.en w.ty v (i.1++i.2.1++i.2.2.1++i.2.2.2)::s) (fun i=>p++V++U++q=i.1++i.2.2.1++i.2.1++i.2.2.2∧(m=i.1.length+i.2.1.length∧0<i.2.1.length∧i.2.1.length=i.2.2.1.length)) ?_ ?_
  ·refine bK ?_;refine oP (ι:=type_of% q×type_of% q×type_of% q×type_of% q) (fun i=>[(0,v),(1,vi a),(2,vi m),(3,vi b),(4,cv),(10,vi i.2.1.length),(11,vi i.2.2.1.length)]) (fun _=>g) (fun i=>rowA w.en w.ty v (i.1++i.2.1++i.2.2.1++i.2.2.2)::s) (fun i=>p++V++U++q=i.1++i.2.2.1++i.2.1++i.2.2.2∧(m=i.1.length+i.2.1.length∧0<i.2.1.length∧0<i.2.2.1.length)) (fun i=>i.2.1.length+i.2.2.1.length) (p,U,V,q) ⟨I,I,I,I,I,bP lN,bP lN,trivial⟩ I I ⟨I,lN,hU,hV⟩ ?_;rintro ⟨p1,U1,V1,q1⟩ ⟨heq,hm1,hU1,hV1⟩;dsimp only at heq hm1 hU1 hV1 ⊢;have hlen:p.length+V.length+U.length+q.length=p1.length+V1.length+U1.length+q1.length:=by have:=congrArg List.length heq; simp at this; omega
   refine sQ (sW I (lM I (lU (nQ I I) (tZ ?_))));refine iP I (fun hne=>?_) (fun hne=>?_)
   ·refine kP (tN (bK (sW I (lM I (lU (gR I I) (tZ ?_))))));refine iP I (fun hgt=>?_) (fun hgt=>?_)
    ·obtain ⟨Ua,Ub,hUe,hUa⟩:∃ Ua Ub,U1=Ua++Ub∧Ua.length=V1.length:=⟨U1.take V1.length,U1.drop V1.length,by simp,lN⟩;have hUl:U1.length=Ua.length+Ub.length:=by rw[hUe]; simp
     have e1:p1++U1++V1++q1=p1++Ua++Ub++V1++q1:=by rw[hUe]; simp
     rw[e1];refine sW I (lM I (lM I (lU (sU I I oM) (lM I (lM I (lM I (lW (cL kf1 I (mu w E g s v cv p1 Ua Ub V1 q1 hUa lN _ _ _ lN lN lN)) ?_)))))));rintro _ _ _ ⟨rfl,rfl⟩;refine tZ (rG (lM I (lM I (lU (sU I I oM) (lA I (nL (bN ?_)))))));exact gA (p1++V1,Ub,Ua,q1) ⟨I,I,I,I,I,bP lN,bP lN,trivial⟩ I (by simp) ⟨by rw[heq,hUe]; simp,lN,lN,lN⟩ lN
    ·obtain ⟨Va,Vb,hVe,hVb⟩:∃ Va Vb,V1=Va++Vb∧Vb.length=U1.length:=⟨V1.take (V1.length - U1.length),V1.drop (V1.length - U1.length),by simp,lN⟩;have hVl:V1.length=Va.length+Vb.length:=by rw[hVe]; simp
     have e1:p1++U1++V1++q1=p1++U1++Va++Vb++q1:=by rw[hVe]; simp
     rw[e1];refine sW I (lM I (lM I (lU (sU I I oM) (lM I (lM I (yD I (lM I (lU (sU I I oM) (lM I (lM I (lW (cL kf1 I (mu w E g s v cv p1 U1 Va Vb q1 hVb.symm lN _ _ _ lN lN lN)) ?_)))))))))));rintro _ _ _ ⟨rfl,rfl⟩;refine tZ (rG (lM I (lM I (lU (sU I I oM) (lA I (nL (bN ?_)))))));exact gA (p1,Vb,Va,U1++q1) ⟨I,I,I,I,I,bP lN,bP lN,trivial⟩ I (by simp) ⟨by rw[heq,hVe]; simp,lN,lN,lN⟩ lN
   ·refine xI (tX (tX (bX ?_)));exact za7 (p1,U1,V1,q1) sB I I ⟨heq,hm1,hU1,lN⟩
  ·rintro ⟨p1,U1,V1,q1⟩ ⟨heq,hm1,hU1,hUV⟩;dsimp only at heq hm1 hU1 hUV ⊢;have hlen:p.length+V.length+U.length+q.length=p1.length+V1.length+U1.length+q1.length:=by have:=zd8 List.length heq; simp at this; omega
   have e1:p1++U1++V1++q1=p1++U1++[]++V1++q1:=by simp
   rw[e1];refine rG (lM I (lM I (lM I (lU (sU I I oM) (lM I (lM I (lM I (lW (cL kf1 I (mu w E g s v cv p1 U1 [] V1 q1 hUV lN _ _ _ lN lN lN)) ?_))))))));rintro _ _ _ ⟨rfl,rfl⟩;refine nL ?_;exact ST.ret0 (.inr I) (by exact results214) ⟨I,by rw[heq]; simp⟩
theorem rh (E:World)(g:PH)(s:Own)(v cv:Value)(key:α→Int)(hc:oB E cv e key g)(p m q:List α)(hn:(p++m++q).length<2305843009213693952)(a b:Int)(ha:a=p.length)(hb:b=p.length+m.length) :
  Ctr Tryz.prog E f3 #[v,vi a,vi b,cv] g (rowA e T v (p++m++q)::s) (fun _ g' s'=>g=g'∧∃ m',aJ key m m'∧Srt key m'∧s'=rowA e T v (p++m'++q)::s):=by
 have uS:=w.uS;have zE:=w.zE;have aE:=w.aE;have w2:=w;cases w2
 all_goals
  refine Ctr.facts fun ⟨w0,hw0⟩=>?_;have hbase:m≠[]→based v=true:=fun hne=>by
   obtain ⟨b0,c0,he⟩:=ck (i:=0) hw0 rfl (by simp; have:=List.length_pos_iff.2 hne; omega);rw[he]; rfl
  have hsl:slen v=(p++m++q).length:=by
   obtain ⟨pp0,cc0,he⟩:=ah (i:=0) hw0 rfl;rw[he]; rfl
  clear hw0 w0;simp only[ze2] at hn hsl
  first | refine za9 (args:=[v,vi a,vi b,cv]) func172 rfl ntmps172 (bE rfl) ?_ | refine za9 (args:=[v,vi a,vi b,cv]) func174 rfl ntmps174 (bE rfl) ?_
  refine sW I (yD I (aT I (bK ?_)));refine oP (ι:=type_of% q×type_of% q×type_of% q) (fun i=>[(0,v),(1,vi a),(2,vi b),(3,cv),(8,vi (p.length+1+i.1.length))]) (fun _=>g) (fun i=>rowA w.en w.ty v (p++(i.2.1++i.2.2)++q)::s) (fun i=>Srt key i.2.1∧aJ key m (i.2.1++i.2.2)∧(i.2.1.length=i.1.length+1∨(m=[]∧i.1=[]))) (fun i=>i.2.2.length) ([],m.take 1,m.drop 1) ⟨I,I,I,I,bP (by simp; omega),trivial⟩ I (by rw[List.take_append_drop]) ⟨by cases m with | nil=>exact Srt.nil | cons x r=>exact Srt.one x,by rw[List.take_append_drop]; exact aJ.refl m,by cases m with | nil=>exact .inr ⟨I,I⟩ | cons x r=>exact .inl (by simp)⟩ ?_;rintro ⟨cn,S1,T1⟩ ⟨hs1,hst,hcn⟩;dsimp only at hs1 hst hcn ⊢;have hlm:S1.length+T1.length=m.length:=by have:=hst.1; simpa using this
  refine sQ (sW I (lM I (yL I (tZ ?_))));refine iP I (fun hlt=>?_) (fun hlt=>?_)
  ·have hcn1:S1.length=cn.length+1:=by
    rcases hcn with h | ⟨h,h'⟩
    ·exact h
    ·rw[h] at hb; simp at hb; omega
   cases T1 with
   | nil=>simp at hlm; omega
   | cons x T1 =>
   simp only[List.length_cons] at hlm;have hbs:=hbase (by intro e; rw[e] at hlm; simp at hlm);refine kP (tN ?_);refine SC.cut (ι:=type_of% q×type_of% q) (fun i=>[(0,v),(1,vi a),(2,vi b),(3,cv),(8,vi (p.length+1+cn.length))]) (fun _=>g) (fun i=>rowA w.en w.ty v (p++(i.1++x::i.2++T1)++q)::s) (fun i=>S1=i.1++i.2∧(∀ y∈i.1,key y≤key x)∧(∀ y∈i.2,key x<key y)) ?_ ?_
   ·refine bK (sW I (aT I (bK ?_)));refine oP (ι:=type_of% q×type_of% q) (fun i=>[(0,v),(1,vi a),(2,vi b),(3,cv),(8,vi (p.length+1+cn.length)),(9,vi (p.length+i.1.length))]) (fun _=>g) (fun i=>rowA w.en w.ty v (p++(i.1++x::i.2++T1)++q)::s) (fun i=>S1=i.1++i.2∧(∀ y∈i.2,key x<key y)) (fun i=>i.1.length) (S1,[]) ⟨I,I,I,I,I,bP (by rw[hcn1]; simp; omega),trivial⟩ I (by simp) ⟨by simp,by simp⟩ ?_;rintro ⟨A,B⟩ ⟨hS,hB⟩;dsimp only at hS hB ⊢;have hlS:S1.length=A.length+B.length:=by rw[hS]; simp
    have hgx:(p++(A++x::B++T1)++q)[((p.length:Int)+A.length).toNat]?=some x:=by
     have:p++(A++x::B++T1)++q=(p++A)++x::(B++T1++q):=by simp
     rw[this]; exact bV (by simp; omega)
    rcases List.eq_nil_or_concat A with hA0 | ⟨A0,y,hA0⟩
    ·subst hA0;refine sQ ?_;refine SC.cutB 34 (false) ?_ ?_
     ·refine dW [] [(0,2),(1,2),(2,2),(3,2),(4,2),(5,2),(6,2),(7,2),(8,1),(9,2),(10,2),(11,2),(12,2),(13,1),(14,0),(15,2),(16,2)] Tryz.mixed kR ?_;refine yM I (yM I (pU I (gR I I) (yM I ?_)));refine SP.split ?_ ?_
      ·intro h21;exfalso;simp at h21; omega
      ·intro h21;refine yG I (yG I (yG I (yG I (yI I (yG I (yG I (yG I (yG I (yI I (fO I (gZ I I I dC) dC ⟨by exact zb7 _,(by exact .refl _)⟩ ?_))))))))));refine yG I (pU I (wF I I) (pN ?_));exact za8 (I) mI
     refine cF I (xI (tX (tX (bX (bN ?_)))));exact za7 ([],B) sB I I ⟨hS,by simp,hB⟩
    ·rw[List.concat_eq_append] at hA0;have hAl:A.length=A0.length+1:=by rw[hA0]; simp
     have hgy:(p++(A++x::B++T1)++q)[((p.length:Int)+A.length - 1).toNat]?=some y:=by
      have:p++(A++x::B++T1)++q=(p++A0)++y::(x::B++T1++q):=by rw[hA0]; simp
      rw[this]; exact bV lN
     refine sQ ?_;refine SC.cutB 34 (decide (key x<key y)) ?_ ?_
     ·refine dW [] [(0,2),(1,2),(2,2),(3,2),(4,2),(5,2),(6,2),(7,2),(8,1),(9,2),(10,2),(11,2),(12,2),(13,1),(14,0),(15,2),(16,2)] Tryz.mixed kR ?_;refine yM I (yM I (pU I (gR I I) (yM I ?_)));refine SP.split ?_ ?_
      ·intro h21;refine yJ I (yJ I (yJ I (zb1 I (gT I I I dC) (iA uS zE I I hbs oM (by rw[hsl]; omega)) dC ?_)));refine SP.gq I (gT I I I dC) (eA aE zE I (Rd.rowA 0 I) hgx) dC (yJ I (yJ I (zb1 I (gT I I I dC) (sU I I oM) dC (zb1 I (gT I I I dC) (iA uS zE I I hbs oM (by rw[hsl]; omega)) dC ?_))));refine SP.gq I (gT I I I dC) (eA aE zE I (Rd.rowA 0 I) hgy) dC (SP.go I (gT I I I dC) (SO.callV I I (hc _ _ _ _ (zb7 _))) dC (.inr iR) ?_);rintro _ _ _ ⟨rfl,rfl,rfl⟩;refine zb1 I (gT I I I dC) (lS I I) dC (pU I (wT I I) (pN ?_));exact za8 (by rw[decide_eq_decide.2 (iT (x:=key x) (y:=key y))]; rfl) mI
      ·intro h21;exfalso;omega
     refine iP I (fun hxy=>?_) (fun hxy=>?_)
     ·refine kP (tN (sQ (bK ?_)));refine dW [15,17] [(0,2),(1,2),(2,2),(3,2),(4,2),(5,2),(6,2),(7,2),(8,2),(9,1),(10,2),(11,2),(12,2),(13,1),(14,2),(15,0),(16,2),(17,0)] Tryz.mixed kR ?_;refine yM I (yM I (yM I (yM I (pU I (sU I I oM) (yM I (yM I (pU I (sU I I oM) (pU I (iA uS zE I I hbs oM (by rw[hsl]; omega)) ?_))))))));refine pK I (eA aE zE I (Rd.rowA 0 I) hgy) (yM I (yM I (pU I (iA uS zE I I hbs oM (by rw[hsl]; omega)) ?_)));refine pK I (eA aE zE I (Rd.rowA 0 I) hgx) (pU I (iA uS zE I I hbs oM (by rw[hsl]; omega)) ?_);refine SP.on I (sT (a:=y) 0 zE I I I lN I) (.inl dC) ?_;rintro _ _ _ ⟨rfl,rfl⟩;refine pU I (iA uS zE I I hbs oM (by rw[hsl]; omega)) ?_;refine SP.on I (sT (a:=x) 0 zE I I I (by rw[zh9]; (first | with_reducible rfl | ((try dsimp only); (try simp only[ze2,ze5,zc1,ze4,ze1,ze6])<;>omega))) rfl) (.inl dC) ?_;rintro _ _ _ ⟨rfl,rfl⟩;refine pN (bN (tN (rG (lM I (lU (sU I I oM) (lA I (nL ?_)))))));have hset:((p++(A++x::B++T1)++q).set ((p.length:Int)+A.length).toNat y).set ((p.length:Int)+A.length - 1).toNat x=p++(A0++x::(y::B)++T1)++q:=by
       have h1:p++(A++x::B++T1)++q=(p++A)++x::(B++T1++q):=by simp
       rw[h1,dq lN];have h2:(p++A)++y::(B++T1++q)=(p++A0)++y::(y::B++T1++q):=by rw[hA0]; simp
       rw[h2,dq lN];simp
      exact gA (A0,y::B) ⟨I,I,I,I,I,bP lN,trivial⟩ I (by dsimp only; rw[← hset]; rfl) ⟨by rw[hS,hA0]; simp,by simpa using ⟨hxy,hB⟩⟩ lN
     ·refine xI (tX (tX (bX (bN ?_))));exact za7 (A,B) sB I I ⟨hS,by
       intro z hz;rw[hA0] at hz hS;rw[hS] at hs1;have h1:=(Srt.append_iff.1 (Srt.append_iff.1 hs1).1).2.2
       rcases ze9.1 hz with h2 | h2
       ·exact Int.le_trans (h1 z h2 y (by simp)) oM
       ·simp at h2; rw[h2]; omega,hB⟩
   ·rintro ⟨A,B⟩ ⟨hS,hA,hB⟩;dsimp only at hS hA hB ⊢;refine rG (lM I (yD I (lA I (nL ?_))));have hlS:S1.length=A.length+B.length:=by rw[hS]; simp
    rw[hS] at hs1 hst;exact gA (x::cn,A++x::B,T1) ⟨I,I,I,I,bP lN,trivial⟩ I I ⟨by
      have h1:=Srt.append_iff.1 hs1;refine Srt.append_iff.2 ⟨h1.1,Srt.cons_iff.2 ⟨fun z hz=>Int.le_of_lt (hB z hz),h1.2.1⟩,fun z hz u hu=>?_⟩
      rcases ze7.1 hu with h2 | h2
      ·rw[h2]; exact hA z hz
      ·exact h1.2.2 z hz u h2,by
      refine hst.trans ?_;have h1:aJ key (B++[x]) ([x]++B):=aJ.swap (fun z hz u hu=>by simp at hu; subst hu; have:=hB z hz; omega);have h2:=aJ.append (aJ.append (aJ.refl (key:=key) A) h1) (aJ.refl (key:=key) T1);simpa using h2,.inl lN⟩ lN
  ·refine xI (tX (tX (bX ?_)));have hT:T1=[]:=by
    rcases hcn with h | ⟨h,h'⟩
    ·exact zf1 oM
    ·subst h; simp at hlm; exact hlm.2
   subst hT;exact ST.ret0 (.inr I) (by exact results172) ⟨I,S1,by simpa using hst,hs1,by simp⟩
end
theorem BM {α:Type}{key:α→Int}{V1 M1 M2 V2:List α}{x y:α}(hs:Srt key (V1++(M1++y::M2)++V2))(h1:∀ z∈V1,key z<key x)(hy:key y<key x):∀ z∈V1++M1++[y],key z<key x:=by
 intro z hz;have h2:=(Srt.append_iff.1 (Srt.append_iff.1 (Srt.append_iff.1 hs).1).2.1).2.2;simp only[ze9,zh4] at hz
 rcases hz with (hz | hz) | hz
 ·exact h1 z hz
 ·have:=h2 z hz y (by simp); omega
 ·rw[hz]; exact hy
theorem zg {α:Type}{key:α→Int}{V1 M1 M2 V2:List α}{x y:α}(hs:Srt key (V1++(M1++y::M2)++V2))(h1:∀ z∈V2,key x≤key z)(hy:key x≤key y):∀ z∈(y::M2)++V2,key x≤key z:=by
 intro z hz;have h2:=(Srt.append_iff.1 (Srt.append_iff.1 (Srt.append_iff.1 hs).1).2.1).2.1;simp only[ze9,ze7] at hz
 rcases hz with (hz | hz) | hz
 ·rw[hz]; exact hy
 ·have:=(Srt.cons_iff.1 h2).1 z hz; omega
 ·exact h1 z hz
theorem pL {α:Type}(M:List α)(h:M≠[]):∃ M1 y M2,M=M1++y::M2∧M1.length=M.length / 2:=by
 have hl:=List.length_pos_iff.2 h;have hlt:M.length / 2<M.length:=oM;exact⟨M.take (M.length / 2),M[M.length / 2],M.drop (M.length / 2+1),by simp,by rw[ze1]; omega⟩
section
variable {α:Type}{k:Nat}{e:Enc α k}{T TS f1 f2 f3 f4 f5 f6:Nat}(w:SoI α k e T TS f1 f2 f3 f4 f5 f6)
include w
set_option maxHeartbeats 1000000 in
theorem FT (E:World)(g:PH)(s:Own)(v cv:Value)(key:α→Int)(hc:oB E cv e key g)(p V q:List α)(x:α)(hsV:Srt key V)(hn:(p++[x]++V++q).length<2305843009213693952)
  (a m b:Int) (ha:a=p.length) (hm:m=p.length+1) (hb:b=p.length+1+V.length) :
  Ctr Tryz.prog E f4 #[v,vi a,vi m,vi b,cv] g (rowA e T v (p++[x]++V++q)::s) (fun _ g' s'=>g=g'∧∃ W,aJ key ([x]++V) W∧Srt key W∧s'=rowA e T v (p++W++q)::s):=by
 have uS:=w.uS;have zE:=w.zE;have aE:=w.aE;have w2:=w;cases w2
 all_goals
  refine Ctr.facts fun ⟨w0,hw0⟩=>?_;have hbs:based v=true:=by
   obtain ⟨b0,c0,he⟩:=ck (i:=0) hw0 rfl lN;rw[he]; rfl
  have hsl:slen v=(p++[x]++V++q).length:=by
   obtain ⟨pp0,cc0,he⟩:=ah (i:=0) hw0 rfl;rw[he]; rfl
  clear hw0 w0;simp only[ze2,ze4] at hn hsl;have hgx:(p++[x]++V++q)[a.toNat]?=some x:=by
   have:p++[x]++V++q=p++x::(V++q):=by simp
   rw[this]; exact bV oM
  first | refine za9 (args:=[v,vi a,vi m,vi b,cv]) func173 rfl ntmps173 (bE rfl) ?_ | refine za9 (args:=[v,vi a,vi m,vi b,cv]) func175 rfl ntmps175 (bE rfl) ?_
  refine sQ (sW I (lM I (lU (sU I I oM) (yE I (tZ ?_)))));refine iP I (fun h1=>?_) (fun h1=>?_)
  ·refine sW I (aT I (sW I (aT I ?_)));refine SC.cut (ι:=type_of% q×type_of% q) (fun i=>[(0,v),(1,vi a),(2,vi m),(3,vi b),(4,cv),(10,vi (m+i.1.length))]) (fun _=>g) (fun _=>rowA w.en w.ty v (p++[x]++V++q)::s) (fun i=>V=i.1++i.2∧(∀ y∈i.1,key y<key x)∧(∀ y∈i.2,key x≤key y)) ?_ ?_
   ·refine bK ?_;refine oP (ι:=type_of% q×type_of% q×type_of% q) (fun i=>[(0,v),(1,vi a),(2,vi m),(3,vi b),(4,cv),(10,vi (m+i.1.length)),(11,vi (m+i.1.length+i.2.1.length))]) (fun _=>g) (fun _=>rowA w.en w.ty v (p++[x]++V++q)::s) (fun i=>V=i.1++i.2.1++i.2.2∧(∀ y∈i.1,key y<key x)∧(∀ y∈i.2.2,key x≤key y)) (fun i=>i.2.1.length) ([],V,[]) ⟨I,I,I,I,I,bP lN,bP lN,trivial⟩ I I ⟨by simp,by simp,by simp⟩ ?_;rintro ⟨V1,M,V2⟩ ⟨hV,hlo,hhi⟩;dsimp only at hV hlo hhi ⊢;have hVl:V.length=V1.length+M.length+V2.length:=by rw[hV]; (first | with_reducible rfl | ((try dsimp only); (try simp only[List.length_append,List.length_cons,List.length_nil,List.length_singleton,List.length_take,List.length_drop])<;>omega))
    refine sQ (sW I (lM I (yL I (tZ ?_))));refine iP I (fun hlt=>?_) (fun hlt=>?_)
    ·obtain ⟨M1,y,M2,hM,hM1⟩:=pL M (by intro e; rw[e] at hlt; simp at hlt);have hMl:M.length=M1.length+1+M2.length:=by rw[hM]; simp; omega
     have hgy:(p++[x]++V++q)[((m+V1.length+(m+V1.length+M.length)) / 2).toNat]?=some y:=by
      have:p++[x]++V++q=(p++[x]++V1++M1)++y::(M2++V2++q):=by rw[hV,hM]; simp
      rw[this]; exact bV lN
     rw[hM] at hV;rw[hV] at hsV;refine kP (tN (bK (sW I (lM I (yD I (lU (zd5 uT3 iU I) (lU (SU.shr I I dC) (lU (SU.eq (zd5 iU uT3 I) (zd8 vi (jI _ oM oM))) (aT I (sQ ?_))))))))));refine dW [] [(0,2),(1,2),(2,2),(3,2),(4,1),(5,2),(6,2),(7,2),(8,1),(9,0),(10,2)] Tryz.mixed kR ?_;refine yM I (yM I (yM I (pU I (iA uS zE I I hbs oM (by rw[hsl]; omega)) ?_)));refine pK I (eA aE zE I (Rd.rowA 0 I) hgy) (yM I (yM I (pU I (iA uS zE I I hbs oM (by rw[hsl]; omega)) ?_)));refine pK I (eA aE zE I (Rd.rowA 0 I) hgx) (SP.o I (SO.callV I I (hc _ _ _ _ (zb7 _))) dC (.inr iR) ?_);rintro _ _ _ ⟨rfl,rfl,rfl⟩;refine pU I (lS I I) (pN (tN ?_));refine iP I (fun hyx=>?_) (fun hyx=>?_)
     ·refine rG (lM I (yD I (lA I (nL (bN ?_)))));exact gA (V1++M1++[y],M2,V2) ⟨I,I,I,I,I,bP lN,bP lN,trivial⟩ I I ⟨by rw[hV]; simp,BM hsV hlo (iT.1 hyx),hhi⟩ lN
     ·refine rG (lM I (lA I (nL (bN ?_))));exact gA (V1,M1,(y::M2)++V2) ⟨I,I,I,I,I,I,bP lN,trivial⟩ I I ⟨by rw[hV]; simp,hlo,zg hsV hhi (by have:=mt iT.2 hyx; omega)⟩ lN
    ·refine xI (tX (tX (bX ?_)));have hM:M=[]:=zf1 oM;subst hM;exact za7 (V1,V2) sB I I ⟨by simpa using hV,hlo,hhi⟩
   ·rintro ⟨V1,V2⟩ ⟨hV,hlo,hhi⟩;dsimp only at hV hlo hhi ⊢;have hVl:V.length=V1.length+V2.length:=by rw[hV]; simp
    refine sQ (sW I (aT I (bK ?_)));refine oP (ι:=type_of% q×type_of% q) (fun i=>[(0,v),(1,vi a),(2,vi m),(3,vi b),(4,cv),(10,vi (m+V1.length)),(13,vi (a+i.1.length))]) (fun _=>g) (fun i=>rowA w.en w.ty v (p++i.1++x::i.2++V2++q)::s) (fun i=>V1=i.1++i.2) (fun i=>i.2.length) ([],V1) ⟨I,I,I,I,I,I,bP lN,trivial⟩ I (by rw[hV]; simp) (by simp) ?_;rintro ⟨A,B⟩ hA;dsimp only at hA ⊢;have hAl:V1.length=A.length+B.length:=by rw[hA]; simp
    refine sQ (sW I (lM I (lU (sU I I oM) (yL I (tZ ?_)))));refine iP I (fun hlt=>?_) (fun hlt=>?_)
    ·cases B with
     | nil=>simp at hAl; omega
     | cons y B =>
     simp only[ze5] at hAl;have hg1:(p++A++x::(y::B)++V2++q)[(a+A.length).toNat]?=some x:=by
      have:p++A++x::(y::B)++V2++q=(p++A)++x::(y::B++V2++q):=by simp
      rw[this]; exact bV lN
     have hg2:(p++A++x::(y::B)++V2++q)[(a+A.length+1).toNat]?=some y:=by
      have:p++A++x::(y::B)++V2++q=(p++A++[x])++y::(B++V2++q):=by simp
      rw[this]; exact bV lN
     refine kP (tN (sQ (bK ?_)));refine dW [15,17] [(0,2),(1,2),(2,2),(3,2),(4,2),(5,2),(6,2),(7,2),(8,2),(9,1),(10,2),(11,2),(12,2),(13,1),(14,2),(15,0),(16,2),(17,0)] Tryz.mixed kR ?_;refine yM I (yM I (yM I (yM I (pU I (aD I I oM) (yM I (yM I (pU I (aD I I oM) (pU I (iA uS zE I I hbs oM (by rw[hsl]; omega)) ?_))))))));refine pK I (eA aE zE I (Rd.rowA 0 I) hg2) (yM I (yM I (pU I (iA uS zE I I hbs oM (by rw[hsl]; omega)) ?_)));refine pK I (eA aE zE I (Rd.rowA 0 I) hg1) (pU I (iA uS zE I I hbs oM (by rw[hsl]; omega)) ?_);refine SP.on I (sT (a:=y) 0 zE I I I lN I) (.inl dC) ?_;rintro _ _ _ ⟨rfl,rfl⟩;refine pU I (iA uS zE I I hbs oM (by rw[hsl]; omega)) ?_;refine SP.on I (sT (a:=x) 0 zE I I I (by rw[zh9]; (first | with_reducible rfl | ((try dsimp only); (try simp only[ze2,ze5,zc1,ze4,ze1,ze6])<;>omega))) rfl) (.inl dC) ?_;rintro _ _ _ ⟨rfl,rfl⟩;refine pN (bN (tN (rG (lM I (yD I (lA I (nL ?_)))))));have hset:((p++A++x::(y::B)++V2++q).set (a+A.length).toNat y).set (a+A.length+1).toNat x=p++(A++[y])++x::B++V2++q:=by
      have e1:p++A++x::(y::B)++V2++q=(p++A)++x::(y::B++V2++q):=by simp
      rw[e1,dq lN];have e2:(p++A)++y::(y::B++V2++q)=(p++A++[y])++y::(B++V2++q):=by simp
      rw[e2,dq lN];simp
     exact gA (A++[y],B) ⟨I,I,I,I,I,I,bP lN,trivial⟩ I (by dsimp only; rw[← hset]; rfl) (by rw[hA]; simp) lN
    ·refine xI (tX (tX (bX (tN (rE (tR ?_))))));have hB:B=[]:=zf1 oM;subst hB;have hA':A=V1:=by simpa using hA.symm
     subst hA';exact ST.ret0 (.inl I) (by exact results173) ⟨I,A++x::V2,by
      rw[hV];have h1:=aJ.append (aJ.swap (key:=key) (a:=[x]) (b:=A) (fun z hz u hu=>by simp at hz; subst hz; have:=hlo u hu; omega)) (aJ.refl (key:=key) V2);simpa using h1,by
      rw[hV] at hsV;obtain ⟨h1,h2,h3⟩:=Srt.append_iff.1 hsV;exact Srt.append_iff.2 ⟨h1,Srt.cons_iff.2 ⟨hhi,h2⟩,fun z hz u hu=>by
       rcases ze7.1 hu with e | e
       ·rw[e]; exact Int.le_of_lt (hlo z hz)
       ·exact h3 z hz u e⟩,by simp⟩
  ·omega
set_option maxHeartbeats 1000000 in
theorem Dy (E:World)(g:PH)(s:Own)(v cv:Value)(key:α→Int)(hc:oB E cv e key g)(p U q:List α)(y:α)(hsU:Srt key U)(hU1:1<U.length)(hn:(p++U++[y]++q).length<2305843009213693952)
  (a m b:Int) (ha:a=p.length) (hm:m=p.length+U.length) (hb:b=p.length+U.length+1) :
  Ctr Tryz.prog E f4 #[v,vi a,vi m,vi b,cv] g (rowA e T v (p++U++[y]++q)::s) (fun _ g' s'=>g=g'∧∃ W,aJ key (U++[y]) W∧Srt key W∧s'=rowA e T v (p++W++q)::s):=by
 have uS:=w.uS;have zE:=w.zE;have aE:=w.aE;have w2:=w;cases w2
 all_goals
  refine Ctr.facts fun ⟨w0,hw0⟩=>?_;have hbs:based v=true:=by
   obtain ⟨b0,c0,he⟩:=ck (i:=0) hw0 rfl lN;rw[he]; rfl
  have hsl:slen v=(p++U++[y]++q).length:=by
   obtain ⟨pp0,cc0,he⟩:=ah (i:=0) hw0 rfl;rw[he]; rfl
  clear hw0 w0;simp only[ze2,ze4] at hn hsl;have hgy:(p++U++[y]++q)[m.toNat]?=some y:=by
   have:p++U++[y]++q=(p++U)++y::q:=by simp
   rw[this]; exact bV lN
  first | refine za9 (args:=[v,vi a,vi m,vi b,cv]) func173 rfl ntmps173 (bE rfl) ?_ | refine za9 (args:=[v,vi a,vi m,vi b,cv]) func175 rfl ntmps175 (bE rfl) ?_
  refine sQ (sW I (lM I (lU (sU I I oM) (yE I (tZ ?_)))));refine iP I (fun h1=>?_) (fun h1=>?_)
  ·omega
  ·refine kP (tN (sQ (sW I (lM I (lU (sU I I oM) (yE I (tZ ?_)))))));refine iP I (fun h2=>?_) (fun h2=>?_)
   ·refine sW I (aT I (sW I (aT I ?_)));refine SC.cut (ι:=type_of% q×type_of% q) (fun i=>[(0,v),(1,vi a),(2,vi m),(3,vi b),(4,cv),(14,vi (a+i.1.length))]) (fun _=>g) (fun _=>rowA w.en w.ty v (p++U++[y]++q)::s) (fun i=>U=i.1++i.2∧(∀ z∈i.1,key z≤key y)∧(∀ z∈i.2,key y<key z)) ?_ ?_
    ·refine bK ?_;refine oP (ι:=type_of% q×type_of% q×type_of% q) (fun i=>[(0,v),(1,vi a),(2,vi m),(3,vi b),(4,cv),(14,vi (a+i.1.length)),(15,vi (a+i.1.length+i.2.1.length))]) (fun _=>g) (fun _=>rowA w.en w.ty v (p++U++[y]++q)::s) (fun i=>U=i.1++i.2.1++i.2.2∧(∀ z∈i.1,key z≤key y)∧(∀ z∈i.2.2,key y<key z)) (fun i=>i.2.1.length) ([],U,[]) ⟨I,I,I,I,I,bP lN,bP lN,trivial⟩ I I ⟨by simp,by simp,by simp⟩ ?_;rintro ⟨U1,M,U2⟩ ⟨hU,hlo,hhi⟩;dsimp only at hU hlo hhi ⊢;have hUl:U.length=U1.length+M.length+U2.length:=by rw[hU]; (first | with_reducible rfl | ((try dsimp only); (try simp only[List.length_append,List.length_cons,List.length_nil,List.length_singleton,List.length_take,List.length_drop])<;>omega))
     refine sQ (sW I (lM I (yL I (tZ ?_))));refine iP I (fun hlt=>?_) (fun hlt=>?_)
     ·obtain ⟨M1,z,M2,hM,hM1⟩:=pL M (by intro e; rw[e] at hlt; simp at hlt);have hMl:M.length=M1.length+1+M2.length:=by rw[hM]; simp; omega
      have hgz:(p++U++[y]++q)[((a+U1.length+(a+U1.length+M.length)) / 2).toNat]?=some z:=by
       have:p++U++[y]++q=(p++U1++M1)++z::(M2++U2++[y]++q):=by rw[hU,hM]; simp
       rw[this]; exact bV lN
      rw[hM] at hU;rw[hU] at hsU;have hs3:=Srt.append_iff.1 (Srt.append_iff.1 (Srt.append_iff.1 hsU).1).2.1;refine kP (tN (bK (sW I (lM I (yD I (lU (zd5 uT3 iU I) (lU (SU.shr I I dC) (lU (SU.eq (zd5 iU uT3 I) (zd8 vi (jI _ oM oM))) (aT I (sQ ?_))))))))));refine dW [] [(0,2),(1,2),(2,2),(3,2),(4,1),(5,2),(6,2),(7,2),(8,1),(9,0),(10,2),(11,2)] Tryz.mixed kR ?_;refine yM I (yM I (yM I (pU I (iA uS zE I I hbs oM (by rw[hsl]; omega)) ?_)));refine pK I (eA aE zE I (Rd.rowA 0 I) hgy) (yM I (yM I (pU I (iA uS zE I I hbs oM (by rw[hsl]; omega)) ?_)));refine pK I (eA aE zE I (Rd.rowA 0 I) hgz) (SP.o I (SO.callV I I (hc _ _ _ _ (zb7 _))) dC (.inr iR) ?_);rintro _ _ _ ⟨rfl,rfl,rfl⟩;refine pU I (lS I I) (pU I (SU.notP I) (pN (tN ?_)));refine iP I (fun hyz=>?_) (fun hyz=>?_)
      ·refine rG (lM I (yD I (lA I (nL (bN ?_)))));have hzy:key z≤key y:=by have:=mt iT.2 hyz; omega
       exact gA (U1++M1++[z],M2,U2) ⟨I,I,I,I,I,bP lN,bP lN,trivial⟩ I I ⟨by rw[hU]; simp,by
        intro u hu;simp only[ze9,zh4] at hu
        rcases hu with (hu | hu) | hu
        ·exact hlo u hu
        ·have:=hs3.2.2 u hu z (by simp); omega
        ·rw[hu]; exact hzy,hhi⟩ lN
      ·refine rG (lM I (lA I (nL (bN ?_))));have hzy:key y<key z:=iT.1 (zg6 hyz);exact gA (U1,M1,(z::M2)++U2) ⟨I,I,I,I,I,I,bP lN,trivial⟩ I I ⟨by rw[hU]; simp,hlo,by
        intro u hu;simp only[ze9,ze7] at hu
        rcases hu with (hu | hu) | hu
        ·rw[hu]; exact hzy
        ·have:=(Srt.cons_iff.1 hs3.2.1).1 u hu; omega
        ·exact hhi u hu⟩ lN
     ·refine xI (tX (tX (bX ?_)));have hM:M=[]:=zf1 oM;subst hM;exact za7 (U1,U2) sB I I ⟨by simpa using hU,hlo,hhi⟩
    ·rintro ⟨U1,U2⟩ ⟨hU,hlo,hhi⟩;dsimp only at hU hlo hhi ⊢;have hUl:U.length=U1.length+U2.length:=by rw[hU]; simp
     refine sQ (sW I (aT I (bK ?_)));refine oP (ι:=type_of% q×type_of% q) (fun i=>[(0,v),(1,vi a),(2,vi m),(3,vi b),(4,cv),(14,vi (a+U1.length)),(17,vi (a+U1.length+i.1.length))]) (fun _=>g) (fun i=>rowA w.en w.ty v (p++U1++i.1++y::i.2++q)::s) (fun i=>U2=i.1++i.2) (fun i=>i.1.length) (U2,[]) ⟨I,I,I,I,I,I,bP lN,trivial⟩ I (by rw[hU]; simp) (by simp) ?_;rintro ⟨A,B⟩ hA;dsimp only at hA ⊢;have hAl:U2.length=A.length+B.length:=by rw[hA]; simp
     refine sQ (sW I (lM I (lU (gR I I) (tZ ?_))));refine iP I (fun hlt=>?_) (fun hlt=>?_)
     ·rcases List.eq_nil_or_concat A with hA0 | ⟨A0,z,hA0⟩
      ·rw[hA0] at hlt; simp at hlt
      rw[List.concat_eq_append] at hA0;have hA0l:A.length=A0.length+1:=by rw[hA0]; simp
      have hg1:(p++U1++A++y::B++q)[(a+U1.length+A.length).toNat]?=some y:=by
       have:p++U1++A++y::B++q=(p++U1++A)++y::(B++q):=by simp
       rw[this]; exact bV lN
      have hg2:(p++U1++A++y::B++q)[(a+U1.length+A.length - 1).toNat]?=some z:=by
       have:p++U1++A++y::B++q=(p++U1++A0)++z::(y::B++q):=by rw[hA0]; simp
       rw[this]; exact bV lN
      refine kP (tN (sQ (bK ?_)));refine dW [15,17] [(0,2),(1,2),(2,2),(3,2),(4,2),(5,2),(6,2),(7,2),(8,2),(9,1),(10,2),(11,2),(12,2),(13,1),(14,2),(15,0),(16,2),(17,0)] Tryz.mixed kR ?_;refine yM I (yM I (yM I (yM I (pU I (sU I I oM) (yM I (yM I (pU I (sU I I oM) (pU I (iA uS zE I I hbs oM (by rw[hsl]; omega)) ?_))))))));refine pK I (eA aE zE I (Rd.rowA 0 I) hg2) (yM I (yM I (pU I (iA uS zE I I hbs oM (by rw[hsl]; omega)) ?_)));refine pK I (eA aE zE I (Rd.rowA 0 I) hg1) (pU I (iA uS zE I I hbs oM (by rw[hsl]; omega)) ?_);refine SP.on I (sT (a:=z) 0 zE I I I lN I) (.inl dC) ?_;rintro _ _ _ ⟨rfl,rfl⟩;refine pU I (iA uS zE I I hbs oM (by rw[hsl]; omega)) ?_;refine SP.on I (sT (a:=y) 0 zE I I I (by rw[zh9]; (first | with_reducible rfl | ((try dsimp only); (try simp only[ze2,ze5,zc1,ze4,ze1,ze6])<;>omega))) rfl) (.inl dC) ?_;rintro _ _ _ ⟨rfl,rfl⟩;refine pN (bN (tN (rG (lM I (lU (sU I I oM) (lA I (nL ?_)))))));have hset:((p++U1++A++y::B++q).set (a+U1.length+A.length).toNat z).set (a+U1.length+A.length - 1).toNat y=p++U1++A0++y::(z::B)++q:=by
       have e1:p++U1++A++y::B++q=(p++U1++A)++y::(B++q):=by simp
       rw[e1,dq lN];have e2:(p++U1++A)++z::(B++q)=(p++U1++A0)++z::(z::B++q):=by rw[hA0]; simp
       rw[e2,dq lN];simp
      exact gA (A0,z::B) ⟨I,I,I,I,I,I,bP lN,trivial⟩ I (by dsimp only; rw[← hset]; rfl) (by rw[hA,hA0]; simp) lN
     ·refine xI (tX (tX (bX (tN (rE (tR ?_))))));have hA0:A=[]:=zf1 oM;subst hA0;have hB':B=U2:=by simpa using hA.symm
      subst hB';exact ST.ret0 (.inl I) (by exact results173) ⟨I,U1++y::B,by
       rw[hU];have h1:=aJ.append (aJ.refl (key:=key) U1) (aJ.swap (key:=key) (a:=B) (b:=[y]) (fun z hz u hu=>by simp at hu; subst hu; have:=hhi z hz; omega));simpa using h1,by
       rw[hU] at hsU;obtain ⟨h1,h2,h3⟩:=Srt.append_iff.1 hsU;exact Srt.append_iff.2 ⟨h1,Srt.cons_iff.2 ⟨fun z hz=>Int.le_of_lt (hhi z hz),h2⟩,fun z hz u hu=>by
        rcases ze7.1 hu with e | e
        ·rw[e]; exact hlo z hz
        ·exact h3 z hz u e⟩,by simp⟩
   ·omega
end
def PTG {α:Type}(key:α→Int)(U V:List α)(i j:Int):Prop:=∃ x y,U[i.toNat]?=some x∧V[j.toNat]?=some y∧key y<key x
def PFG {α:Type}(key:α→Int)(U V:List α)(i j:Int):Prop:=∃ x y,U[i.toNat]?=some x∧V[j.toNat]?=some y∧key x≤key y
theorem nr {α:Type}{key:α→Int}{l:List α}(hs:Srt key l){i j:Nat}{x y:α}(hi:l[i]?=some x)(hj:l[j]?=some y)(h:i≤j):key x≤key y:=by
 obtain ⟨h1,rfl⟩:=zf2.1 hi;obtain ⟨h2,rfl⟩:=zf2.1 hj
 rcases Nat.lt_or_eq_of_le h with h3 | h3
 ·exact zc6.1 hs i j h1 h2 h3
 ·subst h3; exact Int.le_refl _
theorem DO {α:Type}{key:α→Int}{U V:List α}(hU:Srt key U)(hV:Srt key V){i j:Nat}(h:PTG key U V i (j - 1))(hj:0<j):∀ x∈U.drop i,∀ y∈V.take j,key y<key x:=by
 obtain ⟨x0,y0,h1,h2,h3⟩:=h;intro x hx y hy;obtain ⟨k1,hk1⟩:=List.mem_iff_getElem?.1 hx;obtain ⟨k2,hk2⟩:=List.mem_iff_getElem?.1 hy;rw[zh8] at hk1;rw[zh7] at hk2;split at hk2
 ·have e1:=nr hU h1 hk1 oM;have e2:=nr hV hk2 h2 oM;omega
 ·cases hk2
theorem FR {α:Type}{key:α→Int}{U V:List α}(hU:Srt key U)(hV:Srt key V){i j:Nat}(h:PFG key U V (i - 1) j)(hi:0<i):∀ x∈U.take i,∀ y∈V.drop j,key x≤key y:=by
 obtain ⟨x0,y0,h1,h2,h3⟩:=h;intro x hx y hy;obtain ⟨k1,hk1⟩:=List.mem_iff_getElem?.1 hx;obtain ⟨k2,hk2⟩:=List.mem_iff_getElem?.1 hy;rw[zh8] at hk2;rw[zh7] at hk1;split at hk1
 ·have e1:=nr hU hk1 h1 oM;have e2:=nr hV h2 hk2 oM;omega
 ·cases hk1
section
variable {α:Type}{k:Nat}{e:Enc α k}{T TS f1 f2 f3 f4 f5 f6:Nat}(w:SoI α k e T TS f1 f2 f3 f4 f5 f6)
include w
set_option maxHeartbeats 1000000 in
theorem tG (E:World)(g:PH)(v cv:Value)(key:α→Int)(hc:oB E cv e key g):∀ (n:Nat) (s:Own) (p U V q:List α) (_:U.length+V.length=n) (hsU:Srt key U) (hsV:Srt key V) (hU0:0<U.length) (hV0:0<V.length) (hn:(p++U++V++q).length<2305843009213693952)
  (a m b:Int) (ha:a=p.length) (hm:m=p.length+U.length) (hb:b=p.length+U.length+V.length),
  Ctr Tryz.prog E f4 #[v,vi a,vi m,vi b,cv] g (rowA e T v (p++U++V++q)::s) (fun _ g' s'=>g=g'∧∃ W,aJ key (U++V) W∧Srt key W∧s'=rowA e T v (p++W++q)::s):=by
 have uS:=w.uS;have zE:=w.zE;have aE:=w.aE;have kf2:=w.kf2;have kf4:=w.kf4;have w2:=w;cases w2
 all_goals
  intro n;induction n using Nat.strongRecOn with
  | _ n ih =>
  intro s p U V q hnn hsU hsV hU0 hV0 hn a m b ha hm hb;by_cases hU1:U.length=1
  ·obtain ⟨x,rfl⟩:=List.length_eq_one_iff.1 hU1;exact FT w E g s v cv key hc p V q x hsV hn a m b ha hm hb
  by_cases hV1:V.length=1
  ·obtain ⟨y,rfl⟩:=List.length_eq_one_iff.1 hV1;exact Dy w E g s v cv key hc p U q y hsU oM hn a m b ha hm hb
  refine Ctr.facts fun ⟨w0,hw0⟩=>?_;have hbs:based v=true:=by
   obtain ⟨b0,c0,he⟩:=ck (i:=0) hw0 rfl lN;rw[he]; rfl
  have hsl:slen v=(p++U++V++q).length:=by
   obtain ⟨pp0,cc0,he⟩:=ah (i:=0) hw0 rfl;rw[he]; rfl
  clear hw0 w0;simp only[ze2] at hn hsl;have hgU:∀ (c:Int) (x:_),0≤c→U[c.toNat]?=some x→(p++U++V++q)[(a+c).toNat]?=some x:=fun c x h0 hx=>by
   have hlt:=(zf2.1 hx).1;rw[zg5,zg5,zg9 oM,zg8 oM,show (a+c).toNat - p.length=c.toNat by omega];exact hx
  have hgV:∀ (c:Int) (x:_),0≤c→V[c.toNat]?=some x→(p++U++V++q)[(m+c).toNat]?=some x:=fun c x h0 hx=>by
   have hlt:=(zf2.1 hx).1;rw[zg8 lN,zg9 lN,show (m+c).toNat - (p++U).length=c.toNat by exact lN];exact hx
  first | refine za9 (args:=[v,vi a,vi m,vi b,cv]) func173 rfl ntmps173 (bE rfl) ?_ | refine za9 (args:=[v,vi a,vi m,vi b,cv]) func175 rfl ntmps175 (bE rfl) ?_
  refine sQ (sW I (lM I (lU (sU I I oM) (yE I (tZ ?_)))));refine iP I (fun h1=>?_) (fun h1=>?_)
  ·omega
  refine kP (tN (sQ (sW I (lM I (lU (sU I I oM) (yE I (tZ ?_)))))));refine iP I (fun h2=>?_) (fun h2=>?_)
  ·omega
  refine kP (tN (sW I (lM I (yD I (lU (zd5 uT3 iU I) (lU (SU.shr I I dC) (lU (SU.eq (zd5 iU uT3 I) (zd8 vi (jI _ oM oM))) (aT I (sW I (lM I (yD I (aT I (rZ (lA I (aT I ?_)))))))))))))));generalize hmid:(a+b) / 2=mid;refine SC.cut (ι:=Int×Int) (fun i=>[(0,v),(1,vi a),(2,vi m),(3,vi b),(4,cv),(18,vi mid),(19,vi (mid+m)),(20,vi i.1),(21,vi i.2)]) (fun _=>g) (fun _=>rowA w.en w.ty v (p++U++V++q)::s) (fun i=>(mid<m→i.1=mid+m - b∧i.2=mid)∧(¬ mid<m→i.1=a∧i.2=m)) ?_ ?_
  ·refine sW I (lM I (lU (gR I I) (tZ ?_)));refine iP I (fun h3=>?_) (fun h3=>?_)
   ·refine sW I (lM I (lU (sU I I oM) (aT I (rG (lM I (lA I (nL ?_)))))));exact za7 (mid+m - b,mid) sB I I ⟨fun _=>⟨I,I⟩,fun h=>absurd h3 h⟩
   ·refine sW I (aT I (rG (lM I (lA I (nL ?_)))));exact za7 (a,m) sB I I ⟨fun h=>absurd h h3,fun _=>⟨I,I⟩⟩
  rintro ⟨st0,r0⟩ ⟨hc1,hc2⟩;dsimp only at hc1 hc2 ⊢;have hb0:a≤st0∧st0≤r0∧r0≤m∧r0≤mid∧mid - st0≤V.length:=by
   by_cases h:mid<m
   ·have:=hc1 h; omega
   ·have:=hc2 h; omega
  refine sW I (lU (sU I I oM) (aT I ?_));refine SC.cut (ι:=Int) (fun i=>[(0,v),(1,vi a),(2,vi m),(3,vi b),(4,cv),(18,vi mid),(19,vi (mid+m)),(20,vi i)]) (fun _=>g) (fun _=>rowA w.en w.ty v (p++U++V++q)::s) (fun i=>st0≤i∧i≤r0∧(i=st0∨PFG key U V (i - 1 - a) (mid - i))∧(i=r0∨PTG key U V (i - a) (mid - 1 - i))) ?_ ?_
  ·refine bK ?_;refine oP (ι:=Int×Int) (fun i=>[(0,v),(1,vi a),(2,vi m),(3,vi b),(4,cv),(18,vi mid),(19,vi (mid+m)),(20,vi i.1),(21,vi i.2),(22,vi (mid+m - 1))]) (fun _=>g) (fun _=>rowA w.en w.ty v (p++U++V++q)::s) (fun i=>st0≤i.1∧i.1≤i.2∧i.2≤r0∧(i.1=st0∨PFG key U V (i.1 - 1 - a) (mid - i.1))∧(i.2=r0∨PTG key U V (i.2 - a) (mid - 1 - i.2))) (fun i=>(i.2 - i.1).toNat) (st0,r0) sB I I ⟨lN,lN,lN,.inl I,.inl I⟩ ?_;rintro ⟨st,r⟩ ⟨hj1,hj2,hj3,hj4,hj5⟩;dsimp only at hj1 hj2 hj3 hj4 hj5 ⊢;refine sQ (sW I (lM I (yL I (tZ ?_))));refine iP I (fun hlt=>?_) (fun hlt=>?_)
   ·obtain ⟨x,hx⟩:∃ x,U[((st+r) / 2 - a).toNat]?=some x:=⟨_,gE oM⟩;obtain ⟨y,hy⟩:∃ y,V[(mid - 1 - (st+r) / 2).toNat]?=some y:=⟨_,gE oM⟩;have hgx:=hgU _ x oM hx;have hgy:=hgV _ y oM hy;rw[show a+((st+r) / 2 - a)=(st+r) / 2 by omega] at hgx;rw[show m+(mid - 1 - (st+r) / 2)=mid+m - 1 - (st+r) / 2 by omega] at hgy;refine kP (tN (bK (sW I (lM I (yD I (lU (zd5 uT3 iU I) (lU (SU.shr I I dC) (lU (SU.eq (zd5 iU uT3 I) (zd8 vi (jI _ oM oM))) (aT I (sQ ?_))))))))));refine dW [] [(0,2),(1,2),(2,2),(3,2),(4,2),(5,2),(6,1),(7,2),(8,2),(9,2),(10,1),(11,0),(12,2),(13,2)] Tryz.mixed kR ?_;refine yM I (yM I (yM I (yM I (pU I (sU I I oM) (pU I (iA uS zE I I hbs oM (by rw[hsl]; omega)) ?_)))));refine pK I (eA aE zE I (Rd.rowA 0 I) hgy) (yM I (yM I (pU I (iA uS zE I I hbs oM (by rw[hsl]; omega)) ?_)));refine pK I (eA aE zE I (Rd.rowA 0 I) hgx) (SP.o I (SO.callV I I (hc _ _ _ _ (zb7 _))) dC (.inr iR) ?_);rintro _ _ _ ⟨rfl,rfl,rfl⟩;refine pU I (lS I I) (pU I (SU.notP I) (pN (tN ?_)));refine iP I (fun hyx=>?_) (fun hyx=>?_)
    ·refine rG (lM I (yD I (lA I (nL (bN ?_)))));exact gA ((st+r) / 2+1,r) sB I I ⟨lN,lN,lN,.inr ⟨x,y,by
      rw[show (st+r) / 2+1 - 1 - a=(st+r) / 2 - a by omega]; exact hx,by
      rw[show mid - ((st+r) / 2+1)=mid - 1 - (st+r) / 2 by omega]; exact hy,by have:=mt iT.2 hyx; omega⟩,hj5⟩ lN
    ·refine rG (lM I (lA I (nL (bN ?_))));exact gA (st,(st+r) / 2) sB I I ⟨lN,lN,lN,hj4,.inr ⟨x,y,hx,hy,iT.1 (zg6 hyx)⟩⟩ lN
   ·refine xI (tX (tX (bX ?_)));have hsr:st=r:=oM;subst hsr;exact za7 st sB I I ⟨hj1,hj3,hj4,hj5⟩
  rintro st ⟨hj1,hj2,hj4,hj5⟩;try dsimp only
  -- the four pieces
  obtain ⟨i,hi⟩:∃ i:Nat,st=a+i:=⟨(st - a).toNat,oM⟩;obtain ⟨j,hj⟩:∃ j:Nat,mid=st+j:=⟨(mid - st).toNat,oM⟩;have H1:∀ x∈U.drop i,∀ y∈V.take j,key y<key x:=by
   rcases hj5 with h | h
   ·intro x hx y hy;have e1:=List.length_pos_of_mem hx;have e2:=List.length_pos_of_mem hy;simp only[ze6,ze1] at e1 e2;exfalso;by_cases hh:mid<m
    ·have:=hc1 hh; omega
    ·have:=hc2 hh; omega
   ·by_cases hj0:0<j
    ·refine DO hsU hsV ?_ hj0;rw[show st - a=(i:Int) by omega,show mid - 1 - st=(j:Int) - 1 by omega] at h;exact h
    ·intro x hx y hy;have e2:=List.length_pos_of_mem hy;simp only[ze1] at e2;omega
  have H2:∀ x∈U.take i,∀ y∈V.drop j,key x≤key y:=by
   rcases hj4 with h | h
   ·intro x hx y hy;have e1:=List.length_pos_of_mem hx;have e2:=List.length_pos_of_mem hy;simp only[ze6,ze1] at e1 e2;exfalso;by_cases hh:mid<m
    ·have:=hc1 hh; omega
    ·have:=hc2 hh; omega
   ·by_cases hi0:0<i
    ·refine FR hsU hsV ?_ hi0;rw[show st - 1 - a=(i:Int) - 1 by omega,show mid - st=(j:Int) by omega] at h;exact h
    ·intro x hx y hy;have e2:=List.length_pos_of_mem hx;simp only[ze1] at e2;omega
  have hil:i≤U.length:=oM;have hjl:j≤V.length:=oM;have hUe:U=U.take i++U.drop i:=(zi8 i U).symm;have hVe:V=V.take j++V.drop j:=(zi8 j V).symm;have l1:(U.take i).length=i:=lN;have l2:(U.drop i).length=U.length - i:=lN;have l3:(V.take j).length=j:=lN;have l4:(V.drop j).length=V.length - j:=lN;have hsU':=hsU;have hsV':=hsV;rw[hUe] at hsU';rw[hVe] at hsV';obtain ⟨su1,su2,su3⟩:=Srt.append_iff.1 hsU';obtain ⟨sv1,sv2,sv3⟩:=Srt.append_iff.1 hsV';have hrow:p++U++V++q=p++U.take i++U.drop i++V.take j++V.drop j++q:=by
   conv=>lhs; rw[hUe,hVe]
   simp
  have hst:aJ key (U++V) ((U.take i++V.take j)++(U.drop i++V.drop j)):=by
   have e:U++V=(U.take i++(U.drop i++V.take j))++V.drop j:=by
    rw[← zg5 (U.take i),zi8,zg5,zi8]
   rw[e];have h:=aJ.append (aJ.append (aJ.refl (key:=key) (U.take i)) (aJ.swap (key:=key) (a:=U.drop i) (b:=V.take j) (fun x hx y hy=>by have:=H1 x hx y hy; omega))) (aJ.refl (key:=key) (V.drop j));simpa using h
  clear hsU' hsV';generalize U.take i=U1 at *;generalize U.drop i=U2 at *;generalize V.take j=V1 at *;generalize V.drop j=V2 at *;rw[hrow];refine sW I (lM I (lU (sU I I oM) (aT I ?_)));refine SC.cut (ι:=Unit) (fun _=>[(0,v),(1,vi a),(2,vi m),(3,vi b),(4,cv),(18,vi mid),(20,vi st),(24,vi (mid+m - st))]) (fun _=>g) (fun _=>rowA w.en w.ty v (p++U1++V1++(U2++V2++q))::s) (fun _=>True) ?_ ?_
  ·refine SC.cutB 185 (decide (st<m∧m<mid+m - st)) ?_ ?_
   ·refine rG (lM I (lM I (yL I (lM I ?_))));refine sP ?_ ?_
    ·intro h181;refine yC I (yC I (lY I I I (lS I I) (yP I (nL ?_))));exact za8 (by simp[bk,h181]) mI
    ·intro h181;refine yA I (yA I (yA I (yF I (nL ?_))));exact za8 (by simp[bk,h181]) mI
   refine iP I (fun h3=>?_) (fun h3=>?_)
   ·have e1:p++U1++U2++V1++V2++q=p++U1++U2++V1++(V2++q):=by simp
    rw[e1];refine rG (lM I (lM I (lM I (lM I (lM I (lW (cL kf2 I (F6 w E g s v cv (p++U1) U2 V1 (V2++q) oM oM lN _ _ _ lN lN lN)) ?_))))));rintro _ _ _ ⟨rfl,rfl⟩;refine nL ?_;exact za7 () sB I (by simp) trivial
   ·refine kP ?_;exact za7 () sB I (by
     have:U2=[]∨V1=[]:=by
      by_cases h:st<m
      ·right; exact zf1 oM
      ·left; exact zf1 oM
     rcases this with h | h <;> simp[h]) trivial
  rintro ⟨⟩ -;try dsimp only
  refine SC.cut (ι:=type_of% q) (fun _=>[(0,v),(1,vi a),(2,vi m),(3,vi b),(4,cv),(18,vi mid),(20,vi st),(24,vi (mid+m - st))]) (fun _=>g) (fun W1=>rowA w.en w.ty v (p++W1++U2++V2++q)::s) (fun W1=>aJ key (U1++V1) W1∧Srt key W1) ?_ ?_
  ·refine SC.cutB 199 (decide (a<st∧st<mid)) ?_ ?_
   ·refine rG (lM I (lM I (yL I (lM I ?_))));refine sP ?_ ?_
    ·intro h195;refine yC I (yC I (lY I I I (lS I I) (yP I (nL ?_))));exact za8 (by simp[bk,h195]) mI
    ·intro h195;refine yA I (yA I (yA I (yF I (nL ?_))));exact za8 (by simp[bk,h195]) mI
   refine iP I (fun h3=>?_) (fun h3=>?_)
   ·refine rG (lM I (lM I (lM I (lM I (lM I (lW (cL kf4 I (ih (U1.length+V1.length) oM s p U1 V1 (U2++V2++q) I su1 sv1 oM oM lN _ _ _ lN lN lN)) ?_))))));rintro _ _ _ ⟨rfl,W1,hW1,hW2,rfl⟩;refine nL ?_;exact za7 W1 sB I (by simp) ⟨hW1,hW2⟩
   ·refine kP ?_;have he:U1=[]∨V1=[]:=by
     by_cases h:a<st
     ·right; exact zf1 oM
     ·left; exact zf1 oM
    exact za7 (U1++V1) sB rfl (by simp) ⟨aJ.refl _,by rcases he with h | h <;> simpa [h]⟩
  rintro W1 ⟨hW1,hW2⟩;try dsimp only
  have hW1l:W1.length=U1.length+V1.length:=by have:=hW1.1; simpa using this
  have hfin:∀ W2,aJ key (U2++V2) W2→Srt key W2→aJ key (U++V) (W1++W2)∧Srt key (W1++W2):=fun W2 h5 h6=>by
   refine⟨hst.trans (hW1.append h5),Srt.append_iff.2 ⟨hW2,h6,fun x hx y hy=>?_⟩⟩;have e1:=hW1.mem hx;have e2:=h5.mem hy
   rcases ze9.1 e1 with e1 | e1 <;> rcases ze9.1 e2 with e2 | e2
   ·exact su3 x e1 y e2
   ·exact H2 x e1 y e2
   ·exact Int.le_of_lt (H1 y e2 x e1)
   ·exact sv3 x e1 y e2
  refine SC.cutB 213 (decide (mid<mid+m - st∧mid+m - st<b)) ?_ ?_
  ·refine rG (lM I (lM I (yL I (lM I ?_))));refine sP ?_ ?_
   ·intro h209;refine yC I (yC I (lY I I I (lS I I) (yP I (nL ?_))));exact za8 (by simp[bk,h209]) mI
   ·intro h209;refine yA I (yA I (yA I (yF I (nL ?_))));exact za8 (by simp[bk,h209]) mI
  refine iP I (fun h3=>?_) (fun h3=>?_)
  ·refine rG (lM I (lM I (lM I (lM I (lM I (lW (cL kf4 I (ih (U2.length+V2.length) oM s (p++W1) U2 V2 q I su2 sv2 oM oM lN _ _ _ lN lN lN)) ?_))))));rintro _ _ _ ⟨rfl,W2,hW3,hW4,rfl⟩;refine nL ?_;obtain ⟨h5,h6⟩:=hfin W2 hW3 hW4;exact ST.ret0 (.inr I) (by exact results173) ⟨I,W1++W2,h5,h6,by simp⟩
  ·refine kP ?_;have he:U2=[]∨V2=[]:=by
    by_cases h:mid<mid+m - st
    ·right; exact zf1 oM
    ·left; exact zf1 oM
   obtain ⟨h5,h6⟩:=hfin (U2++V2) (aJ.refl _) (by rcases he with h | h <;> simpa [h]);exact ST.ret0 (.inr I) (by exact results173) ⟨I,W1++(U2++V2),h5,h6,by simp⟩
end
theorem za2:type_of% @SlA.form:=@SlA.form
theorem za3:type_of% @SlA.mono:=@SlA.mono
theorem za4:type_of% @SlA.based:=@SlA.based
theorem za5:type_of% @SlA.rd:=@SlA.rd
theorem zb5:type_of% @Rd.rowA:=@Rd.rowA
theorem zd9:type_of% @Tryz.mixed:=@Tryz.mixed
theorem zk9:type_of% @Tryz.zeroValue94:=@Tryz.zeroValue94
theorem zl1:type_of% @Tryz.zeroValue78:=@Tryz.zeroValue78
theorem zl2:type_of% @Tryz.zeroValue62:=@Tryz.zeroValue62
theorem zl3:type_of% @Tryz.zeroValue121:=@Tryz.zeroValue121
theorem zl4:type_of% @Tryz.zeroValue30:=@Tryz.zeroValue30
theorem zl5:type_of% @Tryz.zeroValue88:=@Tryz.zeroValue88
theorem zl6:type_of% @Tryz.zeroValue3:=@Tryz.zeroValue3
end Go.Proofs.YtkbagdedfdfjhaaGreatDoor
