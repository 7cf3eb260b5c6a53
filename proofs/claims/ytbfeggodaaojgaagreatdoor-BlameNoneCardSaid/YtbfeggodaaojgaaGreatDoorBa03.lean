/-
  An evaluator for runs on known data, which the kernel can carry out: names, values, memory, lowered code, and the evaluator itself. No condition.
-/
import Derived.Orders
import Derived.KernelRfl
set_option linter.all false
section
set_option linter.all false
namespace Go.Ev
open Go

/-! Names of temporaries and blocks: numbers in a form that a trie reads sign by sign. -/
inductive Pos where
  | e
  | l (p : Pos)
  | r (p : Pos)

def Pos.succ : Pos → Pos
  | .e => .l .e
  | .l p => .r p
  | .r p => .l p.succ
def Pos.of : Nat → Pos
  | 0 => .e
  | n + 1 => (Pos.of n).succ
def Pos.nat : Pos → Nat
  | .e => 0
  | .l p => 2 * p.nat + 1
  | .r p => 2 * p.nat + 2

inductive Cap where
  | k (c : Nat)
  | r (i : Nat)

/-- Values under names; lists of values are made of nil and cons. -/
inductive SV where
  | bool (b : Bool)
  | int (k : IntKind) (n : Int)
  | str (l : List Nat)
  | ptr (b : Pos) (o : Nat)
  | nilp
  | slice (b : Pos) (o n : Nat) (c : Cap)
  | emp (b : Pos) (i : Nat)
  | nils
  | map (b : Pos)
  | nilm
  | func (fn : Nat) (f c : SV)
  | yld (b : Pos)
  | nilf
  | iface (t : Nat) (v : SV)
  | nili
  | agg (l : SV)
  | tup (l : SV)
  | nil
  | cons (h t : SV)

inductive Tr (α : Type) where
  | leaf
  | nodeN (l r : Tr α)
  | nodeS (l : Tr α) (v : α) (r : Tr α)

def Tr.get {α : Type} : Pos → Tr α → Option α
  | _, .leaf => none
  | .e, .nodeN _ _ => none
  | .e, .nodeS _ v _ => some v
  | .l p, .nodeN l _ => Tr.get p l
  | .l p, .nodeS l _ _ => Tr.get p l
  | .r p, .nodeN _ r => Tr.get p r
  | .r p, .nodeS _ _ r => Tr.get p r
def Tr.put {α : Type} : Pos → Tr α → α → Tr α
  | .e, .leaf, x => .nodeS .leaf x .leaf
  | .e, .nodeN l r, x => .nodeS l x r
  | .e, .nodeS l _ r, x => .nodeS l x r
  | .l p, .leaf, x => .nodeN (Tr.put p .leaf x) .leaf
  | .l p, .nodeN l r, x => .nodeN (Tr.put p l x) r
  | .l p, .nodeS l v r, x => .nodeS (Tr.put p l x) v r
  | .r p, .leaf, x => .nodeN .leaf (Tr.put p .leaf x)
  | .r p, .nodeN l r, x => .nodeN l (Tr.put p r x)
  | .r p, .nodeS l v r, x => .nodeS l v (Tr.put p r x)
/-- What stands at a name is dropped. -/
def Tr.del {α : Type} : Pos → Tr α → Tr α
  | _, .leaf => .leaf
  | .e, .nodeN l r => .nodeN l r
  | .e, .nodeS l _ r => .nodeN l r
  | .l p, .nodeN l r => .nodeN (Tr.del p l) r
  | .l p, .nodeS l v r => .nodeS (Tr.del p l) v r
  | .r p, .nodeN l r => .nodeN l (Tr.del p r)
  | .r p, .nodeS l v r => .nodeS l v (Tr.del p r)

def Tr.getK {α : Type} (p : Pos) : Tr α → (α → Prop) → Prop := @Pos.rec (fun _ => Tr α → (α → Prop) → Prop)
  (fun t c => @Tr.rec α (fun _ => Prop) False (fun _ _ _ _ => False) (fun _ v _ _ _ => c v) t)
  (fun _ ih t c => @Tr.rec α (fun _ => Prop) False (fun l _ _ _ => ih l c) (fun l _ _ _ _ => ih l c) t)
  (fun _ ih t c => @Tr.rec α (fun _ => Prop) False (fun _ r _ _ => ih r c) (fun _ _ r _ _ => ih r c) t) p
def Tr.putK {α : Type} (p : Pos) : Tr α → α → (Tr α → Prop) → Prop := @Pos.rec (fun _ => Tr α → α → (Tr α → Prop) → Prop)
  (fun t x c => @Tr.rec α (fun _ => Prop) (c (.nodeS .leaf x .leaf)) (fun l r _ _ => c (.nodeS l x r)) (fun l _ r _ _ => c (.nodeS l x r)) t)
  (fun _ ih t x c => @Tr.rec α (fun _ => Prop) (ih .leaf x fun l => c (.nodeN l .leaf)) (fun l r _ _ => ih l x fun l => c (.nodeN l r)) (fun l v r _ _ => ih l x fun l => c (.nodeS l v r)) t)
  (fun _ ih t x c => @Tr.rec α (fun _ => Prop) (ih .leaf x fun r => c (.nodeN .leaf r)) (fun l r _ _ => ih r x fun r => c (.nodeN l r)) (fun l v r _ _ => ih r x fun r => c (.nodeS l v r)) t) p
def Tr.delK {α : Type} (p : Pos) : Tr α → (Tr α → Prop) → Prop := @Pos.rec (fun _ => Tr α → (Tr α → Prop) → Prop)
  (fun t c => @Tr.rec α (fun _ => Prop) (c .leaf) (fun l r _ _ => c (.nodeN l r)) (fun l _ r _ _ => c (.nodeN l r)) t)
  (fun _ ih t c => @Tr.rec α (fun _ => Prop) (c .leaf) (fun l r _ _ => ih l fun l => c (.nodeN l r)) (fun l v r _ _ => ih l fun l => c (.nodeS l v r)) t)
  (fun _ ih t c => @Tr.rec α (fun _ => Prop) (c .leaf) (fun l r _ _ => ih r fun r => c (.nodeN l r)) (fun l v r _ _ => ih r fun r => c (.nodeS l v r)) t) p
def Pos.succK (p : Pos) : (Pos → Prop) → Prop := @Pos.rec (fun _ => (Pos → Prop) → Prop) (fun c => c (.l .e)) (fun p _ c => c (.r p)) (fun _ ih c => ih fun p => c (.l p)) p

abbrev Fm := Tr SV

/-! Lowered code. -/
inductive LX where
  | tmp (p : Pos)
  | const (v : SV)
inductive LXs where
  | nil
  | cons (x : LX) (r : LXs)
/-- Parts of a struct, an array, a slice: place, size, what. -/
inductive LPs where
  | nil
  | cons (o k : Nat) (x : LX) (r : LPs)
inductive OX where
  | no
  | yes (x : LX)
/-- How cells that are read make a value: one cell, or k of them. -/
inductive Rd where
  | one
  | many (k : Nat)
inductive SlT where
  | str
  | sl (z : Nat)
  | arr (n z : Nat)
inductive AdT where
  | sl (z : Nat)
  | arr (n z : Nat)
/-- How values of a type are compared: one cell; a value that may be nil; part by part. -/
inductive QT where
  | scb
  | sci
  | sct
  | nlp
  | nls
  | nlm
  | nlf
  | nli
  | nil
  | fld (o : Nat) (rd : Rd) (e r : QT)
  | ar (n z : Nat) (rd : Rd) (e : QT)
inductive LO where
  | mv (x : LX)
  | pick (c x y : LX)
  | chk (x : LX)
  | bin (op : BinOp) (x y : LX)
  | eq (t : QT) (neg : Bool) (x y : LX)
  | un (op : UnOp) (x : LX)
  | conv (k : IntKind) (x : LX)
  | sid (x : LX)
  | ifc (t : Nat) (x : LX)
  | fun_ (fn : Nat) (f c : LXs)
  | ext (x : LX) (i : Nat)
  | build (z : SV) (ps : LPs)
  | fa (o : Nat) (x : LX)
  | fld (o : Nat) (rd : Rd) (x : LX)
  | ia (t : AdT) (x i : LX)
  | ix (n z : Nat) (rd : Rd) (x i : LX)
  | ixs (x i : LX)
  | lens (x : LX)
  | lent (x : LX)
  | lenc (n : Nat)
  | capv (x : LX)
  | mm (mx : Bool) (x y : LX)
  | arr (n : Nat) (x : LX)
  -- readings
  | load (rd : Rd) (x : LX)
  | slc (t : SlT) (x : LX) (lo hi mx : OX)
  | lkp (t : QT) (z : SV) (ok : Bool) (x k : LX)
  | lenm (x : LX)
  | txt (x : LX)
  | ent (x : LX)
  -- new blocks
  | alloc (z : SV)
  | box (x : LX)
  | bsl (n : Nat) (z : SV) (ps : LPs)
  | mkm
  | mks (z b : Nat) (zc : SV) (x y : LX)
  | byts (x : LX)
  -- effects
  | store (k : Nat) (x y : LX)
  | mput (t : QT) (x k y : LX)
  | app (z b : Nat) (x y : LX)
  | appz (z b : Nat) (zc : SV) (x y : LX)
  | cpy (z : Nat) (x y : LX)
  | clr (z : Nat) (zc : SV) (x : LX)
  | call (f : LX) (l : LXs)
  | rng (st : Bool) (x : LX)
  | nxt (st : Bool) (x : LX)
  | ment (t : QT) (z : SV) (x k : LX)
  | mset (x s y : LX)
  | mdel (t : QT) (x k : LX)
  | rec_
  | dfr (f : LX) (l : LXs)

inductive Gd where
  | no
  | on (p : Pos) (b : Bool)
inductive Ds where
  | no
  | to (p : Pos)
/-- What is looked at again behind an effect: readings that may come before or behind it. -/
inductive Re where
  | nil
  | cons (g : Gd) (d : Pos) (o : LO) (r : Re)
inductive Ps where
  | nil
  | cons (p : Pos) (r : Ps)
/-- A region's operations; hd: whose new blocks are out of sight while an effect comes about. -/
inductive LR where
  | nil
  | q (g : Gd) (d : Ds) (o : LO) (r : LR)
  | a (g : Gd) (d : Ds) (o : LO) (r : LR)
  | s (g : Gd) (d : Ds) (o : LO) (re : Re) (hd : Ps) (r : LR)
inductive LC where
  | skip
  | reg (r : LR)
  | seq (a b : LC)
  | cond (x : LX) (a b : LC)
  | block (id : Nat) (b : LC)
  | loop (b : LC)
  | rf (f : LX) (ps : Ps) (a b : LC)
  | exit (id : Nat)
  | scope (b : LC)
  | label (l : Nat)
  | goto (l : Nat)
  | ret
  | bad
/-- How a frame leaves: at its end, or by a jump. -/
inductive LJ where
  | no
  | ret
  | exit (id : Nat)
  | goto (l : Nat)
inductive LS where
  | ready
  | busy
  | done
  | gone
/-- The results of a function: temporaries, and variables. -/
inductive RS where
  | nil
  | tmp (p : Pos) (r : RS)
  | cell (p : Pos) (rd : Rd) (r : RS)
structure LF where
  ps : Ps
  res : RS
  code : LC
/-- In what a frame runs: a call, a deferred call of a frame that returns, the round of a loop. -/
inductive Cx where
  | plain
  | dfr
  | round (b : Pos)
inductive LT where
  | nil
  | code (c : LC) (k : LT)
  | blk (id : Nat) (k : LT)
  | lp (b : LC) (k : LT)
  | scp (b : LC) (k : LT)
  | erf (b : Pos) (k : LT)
  | beg (k : LT)
/-- Deferred calls. -/
inductive LD where
  | nil
  | coll (b : Pos) (r : LD)
  | call (fn : Nat) (l : SV) (r : LD)

/-! Memory. -/
inductive ES where
  | nil
  | cons (k v : SV) (b : Nat) (r : ES)
inductive SO where
  | cells (l : SV)
  | grow (l : SV) (z : Nat)
  | mp (es : ES) (clk : Nat)
  | mit (m : Pos) (since : Nat) (seen : List Nat) (last : Nat)
  | mi0
  | sit (s : List Nat) (pos : Nat)
  | loop (st : LS) (pd : LJ) (fr : Fm) (ps : Ps) (a b : LC)
  | defd (l : LD)
  | gone
abbrev Mem := Tr SO

/-! The evaluator. Everything ends in a proposition: what is lacking makes it False. -/
def bK (b : Bool) (t e : Prop) : Prop := @Bool.rec (fun _ => Prop) e t b
def natK (n : Nat) (c : Nat → Prop) : Prop := @Nat.rec (fun _ => Prop) (c 0) (fun m _ => c (Nat.succ m)) n
def intF (i : Int) (c : Int → Prop) : Prop := @Int.rec (fun _ => Prop) (fun n => natK n fun n => c (.ofNat n)) (fun n => natK n fun n => c (.negSucc n)) i
def intN (i : Int) (c : Nat → Prop) : Prop := @Int.rec (fun _ => Prop) (fun n => natK n c) (fun _ => False) i
def SV.onBool (c : Bool → Prop) (v : SV) : Prop := @SV.rec (fun _ => Prop) (fun b => c b) (fun _ _ => False) (fun _ => False) (fun _ _ => False) (False) (fun _ _ _ _ => False) (fun _ _ => False) (False) (fun _ => False) (False) (fun _ _ _ _ _ => False) (fun _ => False) (False) (fun _ _ _ => False) (False) (fun _ _ => False) (fun _ _ => False) (False) (fun _ _ _ _ => False) v
def SV.onInt (c : IntKind → Int → Prop) (v : SV) : Prop := @SV.rec (fun _ => Prop) (fun _ => False) (fun k n => c k n) (fun _ => False) (fun _ _ => False) (False) (fun _ _ _ _ => False) (fun _ _ => False) (False) (fun _ => False) (False) (fun _ _ _ _ _ => False) (fun _ => False) (False) (fun _ _ _ => False) (False) (fun _ _ => False) (fun _ _ => False) (False) (fun _ _ _ _ => False) v
def SV.onStr (c : List Nat → Prop) (v : SV) : Prop := @SV.rec (fun _ => Prop) (fun _ => False) (fun _ _ => False) (fun l => c l) (fun _ _ => False) (False) (fun _ _ _ _ => False) (fun _ _ => False) (False) (fun _ => False) (False) (fun _ _ _ _ _ => False) (fun _ => False) (False) (fun _ _ _ => False) (False) (fun _ _ => False) (fun _ _ => False) (False) (fun _ _ _ _ => False) v
def SV.onPtr (c : Pos → Nat → Prop) (v : SV) : Prop := @SV.rec (fun _ => Prop) (fun _ => False) (fun _ _ => False) (fun _ => False) (fun b o => c b o) (False) (fun _ _ _ _ => False) (fun _ _ => False) (False) (fun _ => False) (False) (fun _ _ _ _ _ => False) (fun _ => False) (False) (fun _ _ _ => False) (False) (fun _ _ => False) (fun _ _ => False) (False) (fun _ _ _ _ => False) v
def SV.onSlice (c : Pos → Nat → Nat → Cap → Prop) (v : SV) : Prop := @SV.rec (fun _ => Prop) (fun _ => False) (fun _ _ => False) (fun _ => False) (fun _ _ => False) (False) (fun b o n q => c b o n q) (fun _ _ => False) (False) (fun _ => False) (False) (fun _ _ _ _ _ => False) (fun _ => False) (False) (fun _ _ _ => False) (False) (fun _ _ => False) (fun _ _ => False) (False) (fun _ _ _ _ => False) v
def SV.onMap (c : Pos → Prop) (v : SV) : Prop := @SV.rec (fun _ => Prop) (fun _ => False) (fun _ _ => False) (fun _ => False) (fun _ _ => False) (False) (fun _ _ _ _ => False) (fun _ _ => False) (False) (fun b => c b) (False) (fun _ _ _ _ _ => False) (fun _ => False) (False) (fun _ _ _ => False) (False) (fun _ _ => False) (fun _ _ => False) (False) (fun _ _ _ _ => False) v
def SV.onFunc (c : Nat → SV → SV → Prop) (v : SV) : Prop := @SV.rec (fun _ => Prop) (fun _ => False) (fun _ _ => False) (fun _ => False) (fun _ _ => False) (False) (fun _ _ _ _ => False) (fun _ _ => False) (False) (fun _ => False) (False) (fun fn g q _ _ => c fn g q) (fun _ => False) (False) (fun _ _ _ => False) (False) (fun _ _ => False) (fun _ _ => False) (False) (fun _ _ _ _ => False) v
def SV.onYld (c : Pos → Prop) (v : SV) : Prop := @SV.rec (fun _ => Prop) (fun _ => False) (fun _ _ => False) (fun _ => False) (fun _ _ => False) (False) (fun _ _ _ _ => False) (fun _ _ => False) (False) (fun _ => False) (False) (fun _ _ _ _ _ => False) (fun b => c b) (False) (fun _ _ _ => False) (False) (fun _ _ => False) (fun _ _ => False) (False) (fun _ _ _ _ => False) v
def SV.onAgg (c : SV → Prop) (v : SV) : Prop := @SV.rec (fun _ => Prop) (fun _ => False) (fun _ _ => False) (fun _ => False) (fun _ _ => False) (False) (fun _ _ _ _ => False) (fun _ _ => False) (False) (fun _ => False) (False) (fun _ _ _ _ _ => False) (fun _ => False) (False) (fun _ _ _ => False) (False) (fun l _ => c l) (fun _ _ => False) (False) (fun _ _ _ _ => False) v
def SV.onTup (c : SV → Prop) (v : SV) : Prop := @SV.rec (fun _ => Prop) (fun _ => False) (fun _ _ => False) (fun _ => False) (fun _ _ => False) (False) (fun _ _ _ _ => False) (fun _ _ => False) (False) (fun _ => False) (False) (fun _ _ _ _ _ => False) (fun _ => False) (False) (fun _ _ _ => False) (False) (fun _ _ => False) (fun l _ => c l) (False) (fun _ _ _ _ => False) v
def SV.onCons (c : SV → SV → Prop) (v : SV) : Prop := @SV.rec (fun _ => Prop) (fun _ => False) (fun _ _ => False) (fun _ => False) (fun _ _ => False) (False) (fun _ _ _ _ => False) (fun _ _ => False) (False) (fun _ => False) (False) (fun _ _ _ _ _ => False) (fun _ => False) (False) (fun _ _ _ => False) (False) (fun _ _ => False) (fun _ _ => False) (False) (fun h t _ _ => c h t) v
def SV.onIface (c : Nat → SV → Prop) (v : SV) : Prop := @SV.rec (fun _ => Prop) (fun _ => False) (fun _ _ => False) (fun _ => False) (fun _ _ => False) (False) (fun _ _ _ _ => False) (fun _ _ => False) (False) (fun _ => False) (False) (fun _ _ _ _ _ => False) (fun _ => False) (False) (fun t v _ => c t v) (False) (fun _ _ => False) (fun _ _ => False) (False) (fun _ _ _ _ => False) v
def nthK (l : SV) : Nat → (SV → Prop) → Prop := @SV.rec (fun _ => Nat → (SV → Prop) → Prop) (fun _ => fun _ _ => False) (fun _ _ => fun _ _ => False) (fun _ => fun _ _ => False) (fun _ _ => fun _ _ => False) (fun _ _ => False) (fun _ _ _ _ => fun _ _ => False) (fun _ _ => fun _ _ => False) (fun _ _ => False) (fun _ => fun _ _ => False) (fun _ _ => False) (fun _ _ _ _ _ => fun _ _ => False) (fun _ => fun _ _ => False) (fun _ _ => False) (fun _ _ _ => fun _ _ => False) (fun _ _ => False) (fun _ _ => fun _ _ => False) (fun _ _ => fun _ _ => False) (fun _ _ => False) (fun h _ _ ih o c => @Nat.rec (fun _ => Prop) (c h) (fun o _ => ih o c) o) l
def dropK (o : Nat) : SV → (SV → Prop) → Prop := @Nat.rec (fun _ => SV → (SV → Prop) → Prop) (fun l c => c l) (fun _ ih l c => SV.onCons (fun _ t => ih t c) l) o
def takeK (k : Nat) : SV → (SV → Prop) → Prop := @Nat.rec (fun _ => SV → (SV → Prop) → Prop) (fun _ c => c .nil) (fun _ ih l c => SV.onCons (fun h t => ih t fun r => c (.cons h r)) l) k
def rangeK (l : SV) (o k : Nat) (c : SV → Prop) : Prop := dropK o l fun r => takeK k r c
def overK (x : SV) : SV → (SV → Prop) → Prop := @SV.rec (fun _ => SV → (SV → Prop) → Prop) (fun _ => fun _ _ => False) (fun _ _ => fun _ _ => False) (fun _ => fun _ _ => False) (fun _ _ => fun _ _ => False) (fun _ _ => False) (fun _ _ _ _ => fun _ _ => False) (fun _ _ => fun _ _ => False) (fun _ _ => False) (fun _ => fun _ _ => False) (fun _ _ => False) (fun _ _ _ _ _ => fun _ _ => False) (fun _ => fun _ _ => False) (fun _ _ => False) (fun _ _ _ => fun _ _ => False) (fun _ _ => False) (fun _ _ => fun _ _ => False) (fun _ _ => fun _ _ => False) (fun l c => c l) (fun h _ _ ih l c => SV.onCons (fun _ r => ih r fun r => c (.cons h r)) l) x
def setK (o : Nat) : SV → SV → (SV → Prop) → Prop := @Nat.rec (fun _ => SV → SV → (SV → Prop) → Prop) (fun x l c => overK x l c) (fun _ ih x l c => SV.onCons (fun h r => ih x r fun r => c (.cons h r)) l) o
def appK (l : SV) : SV → (SV → Prop) → Prop := @SV.rec (fun _ => SV → (SV → Prop) → Prop) (fun _ => fun _ _ => False) (fun _ _ => fun _ _ => False) (fun _ => fun _ _ => False) (fun _ _ => fun _ _ => False) (fun _ _ => False) (fun _ _ _ _ => fun _ _ => False) (fun _ _ => fun _ _ => False) (fun _ _ => False) (fun _ => fun _ _ => False) (fun _ _ => False) (fun _ _ _ _ _ => fun _ _ => False) (fun _ => fun _ _ => False) (fun _ _ => False) (fun _ _ _ => fun _ _ => False) (fun _ _ => False) (fun _ _ => fun _ _ => False) (fun _ _ => fun _ _ => False) (fun x c => c x) (fun h _ _ ih x c => ih x fun r => c (.cons h r)) l
def lenIs (l : SV) : Nat → Prop → Prop := @SV.rec (fun _ => Nat → Prop → Prop) (fun _ => fun _ _ => False) (fun _ _ => fun _ _ => False) (fun _ => fun _ _ => False) (fun _ _ => fun _ _ => False) (fun _ _ => False) (fun _ _ _ _ => fun _ _ => False) (fun _ _ => fun _ _ => False) (fun _ _ => False) (fun _ => fun _ _ => False) (fun _ _ => False) (fun _ _ _ _ _ => fun _ _ => False) (fun _ => fun _ _ => False) (fun _ _ => False) (fun _ _ _ => fun _ _ => False) (fun _ _ => False) (fun _ _ => fun _ _ => False) (fun _ _ => fun _ _ => False) (fun k c => @Nat.rec (fun _ => Prop) c (fun _ _ => False) k) (fun _ _ _ ih k c => @Nat.rec (fun _ => Prop) False (fun k _ => ih k c) k) l
def lenK (l : SV) : Nat → (Nat → Prop) → Prop := @SV.rec (fun _ => Nat → (Nat → Prop) → Prop) (fun _ => fun _ _ => False) (fun _ _ => fun _ _ => False) (fun _ => fun _ _ => False) (fun _ _ => fun _ _ => False) (fun _ _ => False) (fun _ _ _ _ => fun _ _ => False) (fun _ _ => fun _ _ => False) (fun _ _ => False) (fun _ => fun _ _ => False) (fun _ _ => False) (fun _ _ _ _ _ => fun _ _ => False) (fun _ => fun _ _ => False) (fun _ _ => False) (fun _ _ _ => fun _ _ => False) (fun _ _ => False) (fun _ _ => fun _ _ => False) (fun _ _ => fun _ _ => False) (fun n c => c n) (fun _ _ _ ih n c => natK (Nat.succ n) fun n => ih n c) l
def oneK (v : SV) (c : Prop) : Prop := @SV.rec (fun _ => Prop) (fun _ => c) (fun _ _ => c) (fun _ => c) (fun _ _ => c) (c) (fun _ _ _ _ => c) (fun _ _ => c) (c) (fun _ => c) (c) (fun _ _ _ _ _ => c) (fun _ => c) (c) (fun _ _ _ => c) (c) (fun _ _ => False) (fun _ _ => False) (False) (fun _ _ _ _ => False) v
def onesK (l : SV) : Prop → Prop := @SV.rec (fun _ => Prop → Prop) (fun _ => fun _ => False) (fun _ _ => fun _ => False) (fun _ => fun _ => False) (fun _ _ => fun _ => False) (fun _ => False) (fun _ _ _ _ => fun _ => False) (fun _ _ => fun _ => False) (fun _ => False) (fun _ => fun _ => False) (fun _ => False) (fun _ _ _ _ _ => fun _ => False) (fun _ => fun _ => False) (fun _ => False) (fun _ _ _ => fun _ => False) (fun _ => False) (fun _ _ => fun _ => False) (fun _ _ => fun _ => False) (fun c => c) (fun h _ _ ih c => oneK h (ih c)) l
def cellsK (v : SV) (c : SV → Prop) : Prop := @SV.rec (fun _ => Prop) (fun b => c (.cons (.bool b) .nil)) (fun k n => c (.cons (.int k n) .nil)) (fun l => c (.cons (.str l) .nil)) (fun b o => c (.cons (.ptr b o) .nil)) (c (.cons .nilp .nil)) (fun b o n q => c (.cons (.slice b o n q) .nil)) (fun b i => c (.cons (.emp b i) .nil)) (c (.cons .nils .nil)) (fun b => c (.cons (.map b) .nil)) (c (.cons .nilm .nil)) (fun fn g q _ _ => c (.cons (.func fn g q) .nil)) (fun b => c (.cons (.yld b) .nil)) (c (.cons .nilf .nil)) (fun t v _ => c (.cons (.iface t v) .nil)) (c (.cons .nili .nil)) (fun l _ => c l) (fun _ _ => False) (False) (fun _ _ _ _ => False) v
def repK (z : SV) (n : Nat) : (SV → Prop) → Prop := @Nat.rec (fun _ => (SV → Prop) → Prop) (fun c => c .nil) (fun _ ih c => ih fun r => appK z r c) n
def partK (rd : Rd) : SV → Nat → (SV → Prop) → Prop := @Rd.rec (fun _ => SV → Nat → (SV → Prop) → Prop) nthK (fun k l o c => rangeK l o k fun x => c (.agg x)) rd
def evK (x : LX) (fr : Fm) (c : SV → Prop) : Prop := @LX.rec (fun _ => Prop) (fun p => Tr.getK p fr c) (fun v => c v) x
def evsK (l : LXs) : Fm → (SV → Prop) → Prop := @LXs.rec (fun _ => Fm → (SV → Prop) → Prop) (fun _ c => c .nil) (fun x _ ih fr c => evK x fr fun v => ih fr fun r => c (.cons v r)) l
def fillK (l : LPs) : SV → Fm → (SV → Prop) → Prop := @LPs.rec (fun _ => SV → Fm → (SV → Prop) → Prop) (fun z _ c => c z)
  (fun o k x _ ih z fr c => evK x fr fun v => cellsK v fun cs => lenIs cs k (setK o cs z fun z => ih z fr c)) l
/-! Numbers. -/
def hiN : IntKind → Nat
  | .i8 => 127 | .i16 => 32767 | .i32 => 2147483647 | .i64 => 9223372036854775807
  | .u8 => 255 | .u16 => 65535 | .u32 => 4294967295 | .u64 => 18446744073709551615
def loN : IntKind → Nat
  | .i8 => 128 | .i16 => 32768 | .i32 => 2147483648 | .i64 => 9223372036854775808
  | _ => 0
def knN : IntKind → Nat
  | .i8 => 0 | .i16 => 1 | .i32 => 2 | .i64 => 3 | .u8 => 4 | .u16 => 5 | .u32 => 6 | .u64 => 7
def kK (j k : IntKind) (c : Prop) : Prop := bK (Nat.beq (knN j) (knN k)) c False
def wrapK (k : IntKind) (i : Int) (c : Int → Prop) : Prop :=
  intF i fun i => @Int.rec (fun _ => Prop) (fun a => bK (Nat.ble a (hiN k)) (c (.ofNat a)) (intF (k.wrap (.ofNat a)) c)) (fun a => bK (Nat.blt a (loN k)) (c (.negSucc a)) (intF (k.wrap (.negSucc a)) c)) i
def ltK (a b : Int) (c : Bool → Prop) : Prop := @Int.rec (fun _ => Prop)
  (fun m => @Int.rec (fun _ => Prop) (fun n => bK (Nat.blt m n) (c true) (c false)) (fun _ => c false) b)
  (fun m => @Int.rec (fun _ => Prop) (fun _ => c true) (fun n => bK (Nat.blt n m) (c true) (c false)) b) a
def eqK (a b : Int) (c : Bool → Prop) : Prop := @Int.rec (fun _ => Prop)
  (fun m => @Int.rec (fun _ => Prop) (fun n => bK (Nat.beq m n) (c true) (c false)) (fun _ => c false) b)
  (fun m => @Int.rec (fun _ => Prop) (fun _ => c false) (fun n => bK (Nat.beq m n) (c true) (c false)) b) a
def notK (c : Bool → Prop) (b : Bool) : Prop := bK b (c false) (c true)
def bits (f : BinOp) (k : IntKind) (a b : Int) : Int :=
  match f with
  | .and => k.wrap (BitVec.ofInt k.bits a &&& BitVec.ofInt k.bits b).toNat
  | .or => k.wrap (BitVec.ofInt k.bits a ||| BitVec.ofInt k.bits b).toNat
  | .xor => k.wrap (BitVec.ofInt k.bits a ^^^ BitVec.ofInt k.bits b).toNat
  | _ => k.wrap (BitVec.ofInt k.bits a &&& ~~~ BitVec.ofInt k.bits b).toNat
def natA (i : Int) (c : Nat → Prop) (d : Prop) : Prop := @Int.rec (fun _ => Prop) c (fun _ => d) i
def inHi (k : IntKind) (a b : Nat) (c d : Prop) : Prop := bK (Nat.ble a (hiN k)) (bK (Nat.ble b (hiN k)) c d) d
def bitK (f : BinOp) (g : Nat → Nat → Nat) (k : IntKind) (a b : Int) (c : Int → Prop) : Prop :=
  natA a (fun m => natA b (fun n => inHi k m n (natK (g m n) fun r => c (.ofNat r)) (intF (bits f k a b) c)) (intF (bits f k a b) c)) (intF (bits f k a b) c)
abbrev BI := IntKind → Int → IntKind → Int → (SV → Prop) → Prop
def biAdd : BI := fun k a j b c => kK k j (wrapK k (Int.add a b) fun r => c (.int k r))
def biSub : BI := fun k a j b c => kK k j (wrapK k (Int.sub a b) fun r => c (.int k r))
def biMul : BI := fun k a j b c => kK k j (wrapK k (Int.mul a b) fun r => c (.int k r))
def biQuo : BI := fun k a j b c => kK k j (eqK b 0 fun z => bK z False (wrapK k (Int.tdiv a b) fun r => c (.int k r)))
def biRem : BI := fun k a j b c => kK k j (eqK b 0 fun z => bK z False (intF (Int.tmod a b) fun r => c (.int k r)))
def biAnd : BI := fun k a j b c => kK k j (bitK .and Nat.land k a b fun r => c (.int k r))
def biOr : BI := fun k a j b c => kK k j (bitK .or Nat.lor k a b fun r => c (.int k r))
def biXor : BI := fun k a j b c => kK k j (bitK .xor Nat.xor k a b fun r => c (.int k r))
def biAndNot : BI := fun k a j b c => kK k j (intF (bits .andNot k a b) fun r => c (.int k r))
def biShl : BI := fun k a _ b c => intN b fun n => wrapK k (Int.mul a (.ofNat (Nat.pow 2 (Nat.min n k.bits)))) fun r => c (.int k r)
def biShr : BI := fun k a _ b c => intN b fun n => intF (Int.fdiv a (.ofNat (Nat.pow 2 (Nat.min n k.bits)))) fun r => c (.int k r)
def biEql : BI := fun k a j b c => kK k j (eqK a b fun r => c (.bool r))
def biNeq : BI := fun k a j b c => kK k j (eqK a b (notK fun r => c (.bool r)))
def biLss : BI := fun k a j b c => kK k j (ltK a b fun r => c (.bool r))
def biLeq : BI := fun k a j b c => kK k j (ltK b a (notK fun r => c (.bool r)))
def biGtr : BI := fun k a j b c => kK k j (ltK b a fun r => c (.bool r))
def biGeq : BI := fun k a j b c => kK k j (ltK a b (notK fun r => c (.bool r)))
def binI (f : BinOp) : BI := @BinOp.rec (fun _ => BI) biAdd biSub biMul biQuo biRem biAnd biOr biXor biShl biShr biAndNot biEql biNeq biLss biLeq biGtr biGeq f
/-! Texts. -/
def tappK (l : List Nat) : List Nat → (List Nat → Prop) → Prop := @List.rec Nat (fun _ => List Nat → (List Nat → Prop) → Prop) (fun m c => c m) (fun a _ ih m c => ih m fun r => c (a :: r)) l
def teqK (l : List Nat) : List Nat → (Bool → Prop) → Prop := @List.rec Nat (fun _ => List Nat → (Bool → Prop) → Prop)
  (fun m c => @List.rec Nat (fun _ => Prop) (c true) (fun _ _ _ => c false) m)
  (fun a _ ih m c => @List.rec Nat (fun _ => Prop) (c false) (fun b r _ => bK (Nat.beq a b) (ih r c) (c false)) m) l
def tltK (l : List Nat) : List Nat → (Bool → Prop) → Prop := @List.rec Nat (fun _ => List Nat → (Bool → Prop) → Prop)
  (fun m c => @List.rec Nat (fun _ => Prop) (c false) (fun _ _ _ => c true) m)
  (fun a _ ih m c => @List.rec Nat (fun _ => Prop) (c false) (fun b r _ => bK (Nat.blt a b) (c true) (bK (Nat.beq a b) (ih r c) (c false))) m) l
def tlenK (l : List Nat) : Nat → (Nat → Prop) → Prop := @List.rec Nat (fun _ => Nat → (Nat → Prop) → Prop) (fun n c => c n) (fun _ _ ih n c => natK (Nat.succ n) fun n => ih n c) l
def tnthK (l : List Nat) : Nat → (Nat → Prop) → Prop := @List.rec Nat (fun _ => Nat → (Nat → Prop) → Prop) (fun _ _ => False) (fun a _ ih n c => @Nat.rec (fun _ => Prop) (c a) (fun n _ => ih n c) n) l
def tdropK (n : Nat) : List Nat → (List Nat → Prop) → Prop := @Nat.rec (fun _ => List Nat → (List Nat → Prop) → Prop) (fun l c => c l) (fun _ ih l c => @List.rec Nat (fun _ => Prop) False (fun _ r _ => ih r c) l) n
def ttakeK (n : Nat) : List Nat → (List Nat → Prop) → Prop := @Nat.rec (fun _ => List Nat → (List Nat → Prop) → Prop) (fun _ c => c []) (fun _ ih l c => @List.rec Nat (fun _ => Prop) False (fun a r _ => ih r fun r => c (a :: r)) l) n
abbrev BT := List Nat → List Nat → (SV → Prop) → Prop
def btNo : BT := fun _ _ _ => False
def btAdd : BT := fun a b c => tappK a b fun r => tlenK r 0 fun n => bK (Nat.ble n 9223372036854775807) (c (.str r)) False
def btEql : BT := fun a b c => teqK a b fun r => c (.bool r)
def btNeq : BT := fun a b c => teqK a b (notK fun r => c (.bool r))
def btLss : BT := fun a b c => tltK a b fun r => c (.bool r)
def btLeq : BT := fun a b c => tltK b a (notK fun r => c (.bool r))
def btGtr : BT := fun a b c => tltK b a fun r => c (.bool r)
def btGeq : BT := fun a b c => tltK a b (notK fun r => c (.bool r))
def binT (f : BinOp) : BT := @BinOp.rec (fun _ => BT) btAdd btNo btNo btNo btNo btNo btNo btNo btNo btNo btNo btEql btNeq btLss btLeq btGtr btGeq f
def SV.onNil (c : Prop) (v : SV) : Prop := @SV.rec (fun _ => Prop) (fun _ => False) (fun _ _ => False) (fun _ => False) (fun _ _ => False) (False) (fun _ _ _ _ => False) (fun _ _ => False) (False) (fun _ => False) (False) (fun _ _ _ _ _ => False) (fun _ => False) (False) (fun _ _ _ => False) (False) (fun _ _ => False) (fun _ _ => False) (c) (fun _ _ _ _ => False) v
def SV.onNilp0 (c : Prop) (v : SV) : Prop := @SV.rec (fun _ => Prop) (fun _ => False) (fun _ _ => False) (fun _ => False) (fun _ _ => False) (c) (fun _ _ _ _ => False) (fun _ _ => False) (False) (fun _ => False) (False) (fun _ _ _ _ _ => False) (fun _ => False) (False) (fun _ _ _ => False) (False) (fun _ _ => False) (fun _ _ => False) (False) (fun _ _ _ _ => False) v
def SV.onNils0 (c : Prop) (v : SV) : Prop := @SV.rec (fun _ => Prop) (fun _ => False) (fun _ _ => False) (fun _ => False) (fun _ _ => False) (False) (fun _ _ _ _ => False) (fun _ _ => False) (c) (fun _ => False) (False) (fun _ _ _ _ _ => False) (fun _ => False) (False) (fun _ _ _ => False) (False) (fun _ _ => False) (fun _ _ => False) (False) (fun _ _ _ _ => False) v
def SV.onNilm0 (c : Prop) (v : SV) : Prop := @SV.rec (fun _ => Prop) (fun _ => False) (fun _ _ => False) (fun _ => False) (fun _ _ => False) (False) (fun _ _ _ _ => False) (fun _ _ => False) (False) (fun _ => False) (c) (fun _ _ _ _ _ => False) (fun _ => False) (False) (fun _ _ _ => False) (False) (fun _ _ => False) (fun _ _ => False) (False) (fun _ _ _ _ => False) v
def SV.onNilf0 (c : Prop) (v : SV) : Prop := @SV.rec (fun _ => Prop) (fun _ => False) (fun _ _ => False) (fun _ => False) (fun _ _ => False) (False) (fun _ _ _ _ => False) (fun _ _ => False) (False) (fun _ => False) (False) (fun _ _ _ _ _ => False) (fun _ => False) (c) (fun _ _ _ => False) (False) (fun _ _ => False) (fun _ _ => False) (False) (fun _ _ _ _ => False) v
def SV.onNili0 (c : Prop) (v : SV) : Prop := @SV.rec (fun _ => Prop) (fun _ => False) (fun _ _ => False) (fun _ => False) (fun _ _ => False) (False) (fun _ _ _ _ => False) (fun _ _ => False) (False) (fun _ => False) (False) (fun _ _ _ _ _ => False) (fun _ => False) (False) (fun _ _ _ => False) (c) (fun _ _ => False) (fun _ _ => False) (False) (fun _ _ _ _ => False) v
def SV.onEmp0 (c : Prop) (v : SV) : Prop := @SV.rec (fun _ => Prop) (fun _ => False) (fun _ _ => False) (fun _ => False) (fun _ _ => False) (False) (fun _ _ _ _ => False) (fun _ _ => c) (False) (fun _ => False) (False) (fun _ _ _ _ _ => False) (fun _ => False) (False) (fun _ _ _ => False) (False) (fun _ _ => False) (fun _ _ => False) (False) (fun _ _ _ _ => False) v
def posK (p : Pos) : Pos → Prop → Prop := @Pos.rec (fun _ => Pos → Prop → Prop)
  (fun q c => @Pos.rec (fun _ => Prop) c (fun _ _ => False) (fun _ _ => False) q)
  (fun _ ih q c => @Pos.rec (fun _ => Prop) False (fun q _ => ih q c) (fun _ _ => False) q)
  (fun _ ih q c => @Pos.rec (fun _ => Prop) False (fun _ _ => False) (fun q _ => ih q c) q) p
def capK (a b : Cap) (c : Prop) : Prop := @Cap.rec (fun _ => Prop)
  (fun m => @Cap.rec (fun _ => Prop) (fun n => bK (Nat.beq m n) c False) (fun _ => False) b)
  (fun m => @Cap.rec (fun _ => Prop) (fun _ => False) (fun n => bK (Nat.beq m n) c False) b) a
def sameK (a : SV) : SV → Prop → Prop := @SV.rec (fun _ => SV → Prop → Prop) (fun a b c => SV.onBool (fun b => bK a (bK b c False) (bK b False c)) b) (fun k a b c => SV.onInt (fun j b => kK k j (eqK a b fun r => bK r c False)) b) (fun a b c => SV.onStr (fun b => teqK a b fun r => bK r c False) b) (fun p o b c => SV.onPtr (fun q u => posK p q (bK (Nat.beq o u) c False)) b) (fun b c => SV.onNilp0 c b) (fun p o n a b c => SV.onSlice (fun q u m d => posK p q (bK (Nat.beq o u) (bK (Nat.beq n m) (capK a d c) False) False)) b) (fun _ _ => fun _ _ => False) (fun b c => SV.onNils0 c b) (fun p b c => SV.onMap (fun q => posK p q c) b) (fun b c => SV.onNilm0 c b) (fun n _ _ ihg ihq b c => SV.onFunc (fun m g q => bK (Nat.beq n m) (ihg g (ihq q c)) False) b) (fun p b c => SV.onYld (fun q => posK p q c) b) (fun b c => SV.onNilf0 c b) (fun n _ ih b c => SV.onIface (fun m v => bK (Nat.beq n m) (ih v c) False) b) (fun b c => SV.onNili0 c b) (fun _ ih b c => SV.onAgg (fun m => ih m c) b) (fun _ ih b c => SV.onTup (fun m => ih m c) b) (fun b c => SV.onNil c b) (fun _ _ ihh iht b c => SV.onCons (fun h t => ihh h (iht t c)) b) a
def scBit (a : SV) : SV → Prop → Prop := @SV.rec (fun _ => SV → Prop → Prop) (fun a b c => SV.onBool (fun b => bK a (bK b c False) (bK b False c)) b) (fun k a b c => SV.onInt (fun j b => kK k j (eqK a b fun r => bK r c False)) b) (fun a b c => SV.onStr (fun b => teqK a b fun r => bK r c False) b) (fun _ _ => fun _ _ => False) (fun _ _ => False) (fun _ _ _ _ => fun _ _ => False) (fun _ _ => fun _ _ => False) (fun _ _ => False) (fun _ => fun _ _ => False) (fun _ _ => False) (fun _ _ _ _ _ => fun _ _ => False) (fun _ => fun _ _ => False) (fun _ _ => False) (fun _ _ _ => fun _ _ => False) (fun _ _ => False) (fun _ _ => fun _ _ => False) (fun _ _ => fun _ _ => False) (fun _ _ => False) (fun _ _ _ _ => fun _ _ => False) a
def liBit (a : SV) : SV → Prop → Prop := @SV.rec (fun _ => SV → Prop → Prop) (fun _ => fun _ _ => False) (fun _ _ => fun _ _ => False) (fun _ => fun _ _ => False) (fun _ _ => fun _ _ => False) (fun _ _ => False) (fun _ _ _ _ => fun _ _ => False) (fun _ _ => fun _ _ => False) (fun _ _ => False) (fun _ => fun _ _ => False) (fun _ _ => False) (fun _ _ _ _ _ => fun _ _ => False) (fun _ => fun _ _ => False) (fun _ _ => False) (fun _ _ _ => fun _ _ => False) (fun _ _ => False) (fun _ _ => fun _ _ => False) (fun _ _ => fun _ _ => False) (fun b c => SV.onNil c b) (fun x _ _ ih b c => SV.onCons (fun y t => scBit x y (ih t c)) b) a
def bitsK (a : SV) : SV → Prop → Prop := @SV.rec (fun _ => SV → Prop → Prop) (fun a b c => SV.onBool (fun b => bK a (bK b c False) (bK b False c)) b) (fun k a b c => SV.onInt (fun j b => kK k j (eqK a b fun r => bK r c False)) b) (fun a b c => SV.onStr (fun b => teqK a b fun r => bK r c False) b) (fun _ _ => fun _ _ => False) (fun _ _ => False) (fun _ _ _ _ => fun _ _ => False) (fun _ _ => fun _ _ => False) (fun _ _ => False) (fun _ => fun _ _ => False) (fun _ _ => False) (fun _ _ _ _ _ => fun _ _ => False) (fun _ => fun _ _ => False) (fun _ _ => False) (fun _ _ _ => fun _ _ => False) (fun _ _ => False) (fun l _ b c => SV.onAgg (fun m => liBit l m c) b) (fun _ _ => fun _ _ => False) (fun _ _ => False) (fun _ _ _ _ => fun _ _ => False) a
/-! Memory. -/
def SO.onRow (c : SV → Prop) (o : SO) : Prop := @SO.rec (fun _ => Prop) (fun l => c l) (fun l _ => c l) (fun _ _ => False) (fun _ _ _ _ => False) (False) (fun _ _ => False) (fun _ _ _ _ _ _ => False) (fun _ => False) (False) o
def SO.onGrow (c : SV → Nat → Prop) (o : SO) : Prop := @SO.rec (fun _ => Prop) (fun _ => False) (fun l z => c l z) (fun _ _ => False) (fun _ _ _ _ => False) (False) (fun _ _ => False) (fun _ _ _ _ _ _ => False) (fun _ => False) (False) o
/-- A row's cells, and how to put others in their place. -/
def SO.onSet (c : SV → (SV → SO) → Prop) (o : SO) : Prop := @SO.rec (fun _ => Prop) (fun l => c l .cells) (fun l z => c l fun l => .grow l z) (fun _ _ => False) (fun _ _ _ _ => False) (False) (fun _ _ => False) (fun _ _ _ _ _ _ => False) (fun _ => False) (False) o
def SO.onMp (c : ES → Nat → Prop) (o : SO) : Prop := @SO.rec (fun _ => Prop) (fun _ => False) (fun _ _ => False) (fun es k => c es k) (fun _ _ _ _ => False) (False) (fun _ _ => False) (fun _ _ _ _ _ _ => False) (fun _ => False) (False) o
def SO.onMit (c : Pos → Nat → List Nat → Nat → Prop) (o : SO) : Prop := @SO.rec (fun _ => Prop) (fun _ => False) (fun _ _ => False) (fun _ _ => False) (fun m a s l => c m a s l) (False) (fun _ _ => False) (fun _ _ _ _ _ _ => False) (fun _ => False) (False) o
def SO.onIt (c : Pos → Nat → List Nat → Nat → Prop) (d : List Nat → Nat → Prop) (e : Prop) (o : SO) : Prop := @SO.rec (fun _ => Prop) (fun _ => False) (fun _ _ => False) (fun _ _ => False) (fun m a s l => c m a s l) (e) (fun s p => d s p) (fun _ _ _ _ _ _ => False) (fun _ => False) (False) o
def SO.onLoop (c : LS → LJ → Fm → Ps → LC → LC → Prop) (o : SO) : Prop := @SO.rec (fun _ => Prop) (fun _ => False) (fun _ _ => False) (fun _ _ => False) (fun _ _ _ _ => False) (False) (fun _ _ => False) (fun s p f q a b => c s p f q a b) (fun _ => False) (False) o
def SO.onDefd (c : LD → Prop) (o : SO) : Prop := @SO.rec (fun _ => Prop) (fun _ => False) (fun _ _ => False) (fun _ _ => False) (fun _ _ _ _ => False) (False) (fun _ _ => False) (fun _ _ _ _ _ _ => False) (fun l => c l) (False) o
def isNP (v : SV) (c : Bool → Prop) : Prop := @SV.rec (fun _ => Prop) (fun _ => False) (fun _ _ => False) (fun _ => False) (fun _ _ => c false) (c true) (fun _ _ _ _ => False) (fun _ _ => False) (False) (fun _ => False) (False) (fun _ _ _ _ _ => False) (fun _ => False) (False) (fun _ _ _ => False) (False) (fun _ _ => False) (fun _ _ => False) (False) (fun _ _ _ _ => False) v
def isNS (v : SV) (c : Bool → Prop) : Prop := @SV.rec (fun _ => Prop) (fun _ => False) (fun _ _ => False) (fun _ => False) (fun _ _ => False) (False) (fun _ _ _ _ => c false) (fun _ _ => c false) (c true) (fun _ => False) (False) (fun _ _ _ _ _ => False) (fun _ => False) (False) (fun _ _ _ => False) (False) (fun _ _ => False) (fun _ _ => False) (False) (fun _ _ _ _ => False) v
def isNM (v : SV) (c : Bool → Prop) : Prop := @SV.rec (fun _ => Prop) (fun _ => False) (fun _ _ => False) (fun _ => False) (fun _ _ => False) (False) (fun _ _ _ _ => False) (fun _ _ => False) (False) (fun _ => c false) (c true) (fun _ _ _ _ _ => False) (fun _ => False) (False) (fun _ _ _ => False) (False) (fun _ _ => False) (fun _ _ => False) (False) (fun _ _ _ _ => False) v
def isNF (v : SV) (c : Bool → Prop) : Prop := @SV.rec (fun _ => Prop) (fun _ => False) (fun _ _ => False) (fun _ => False) (fun _ _ => False) (False) (fun _ _ _ _ => False) (fun _ _ => False) (False) (fun _ => False) (False) (fun _ _ _ _ _ => c false) (fun _ => c false) (c true) (fun _ _ _ => False) (False) (fun _ _ => False) (fun _ _ => False) (False) (fun _ _ _ _ => False) v
def isNI (v : SV) (c : Bool → Prop) : Prop := @SV.rec (fun _ => Prop) (fun _ => False) (fun _ _ => False) (fun _ => False) (fun _ _ => False) (False) (fun _ _ _ _ => False) (fun _ _ => False) (False) (fun _ => False) (False) (fun _ _ _ _ _ => False) (fun _ => False) (False) (fun _ _ _ => c false) (c true) (fun _ _ => False) (fun _ _ => False) (False) (fun _ _ _ _ => False) v
abbrev EqK := SV → SV → (Bool → Prop) → Prop
def eqFld (o : Nat) (rd : Rd) (e r : EqK) : EqK := fun a b c => SV.onAgg (fun la => SV.onAgg (fun lb => partK rd la o fun x => partK rd lb o fun y => e x y fun t => bK t (r a b c) (c false)) b) a
def eqAr (n z : Nat) (rd : Rd) (e : EqK) : EqK := fun a b c => SV.onAgg (fun la => SV.onAgg (fun lb =>
  @Nat.rec (fun _ => Nat → Prop) (fun _ => c true) (fun _ ih o => partK rd la o fun x => partK rd lb o fun y => e x y fun t => bK t (natK (Nat.add o z) ih) (c false)) n 0) b) a
/-- Equality of values one of which is nil. -/
def eqN (f : SV → (Bool → Prop) → Prop) : EqK := fun a b c => f a fun r => f b fun s => bK r (c s) (bK s (c false) False)
def eqB : EqK := fun a b c => SV.onBool (fun a => SV.onBool (fun b => bK a (bK b (c true) (c false)) (bK b (c false) (c true))) b) a
def eqI : EqK := fun a b c => SV.onInt (fun k a => SV.onInt (fun j b => kK k j (eqK a b c)) b) a
def eqS : EqK := fun a b c => SV.onStr (fun a => SV.onStr (fun b => teqK a b c) b) a
def eqT (t : QT) : EqK := @QT.rec (fun _ => EqK) eqB eqI eqS (eqN isNP) (eqN isNS) (eqN isNM) (eqN isNF) (eqN isNI) (fun a b c => SV.onAgg (fun _ => SV.onAgg (fun _ => c true) b) a) (fun o rd _ _ e r => eqFld o rd e r) (fun n z rd _ e => eqAr n z rd e) t
/-- A key is of its type's shape. -/
abbrev KyK := SV → Prop → Prop
def kyFld (o : Nat) (rd : Rd) (e r : KyK) : KyK := fun a c => SV.onAgg (fun l => partK rd l o fun x => e x (r a c)) a
def kyAr (n z : Nat) (rd : Rd) (e : KyK) : KyK := fun a c => SV.onAgg (fun l => @Nat.rec (fun _ => Nat → Prop) (fun _ => c) (fun _ ih o => partK rd l o fun x => e x (natK (Nat.add o z) ih)) n 0) a
def keyK (t : QT) : KyK := @QT.rec (fun _ => KyK) (fun a c => SV.onBool (fun _ => c) a) (fun a c => SV.onInt (fun _ _ => c) a) (fun a c => SV.onStr (fun _ => c) a) (fun _ _ => False) (fun _ _ => False) (fun _ _ => False) (fun _ _ => False) (fun _ _ => False)
  (fun a c => SV.onAgg (fun _ => c) a) (fun o rd _ _ e r => kyFld o rd e r) (fun n z rd _ e => kyAr n z rd e) t
/-- The value at a key; what comes if there is none. -/
def ES.findK (es : ES) : QT → SV → (SV → Prop) → Prop → Prop := @ES.rec (fun _ => QT → SV → (SV → Prop) → Prop → Prop) (fun _ _ _ d => d)
  (fun k v _ _ ih t x c d => eqT t x k fun r => bK r (c v) (ih t x c d)) es
/-- An entry's value is turned; with its stamp; what comes if there is none. -/
def ES.putK (es : ES) : QT → SV → SV → (ES → SV → Nat → Prop) → Prop → Prop := @ES.rec (fun _ => QT → SV → SV → (ES → SV → Nat → Prop) → Prop → Prop) (fun _ _ _ _ d => d)
  (fun k v b r ih t x y c d => eqT t x k fun q => bK q (bitsK x k (c (.cons k y b r) v b)) (ih t x y (fun r' => c (.cons k v b r')) d)) es
def ES.endK (es : ES) : SV → SV → Nat → (ES → Prop) → Prop := @ES.rec (fun _ => SV → SV → Nat → (ES → Prop) → Prop) (fun k v b c => c (.cons k v b .nil))
  (fun k v b _ ih x y n c => ih x y n fun r => c (.cons k v b r)) es
def ES.stampK (es : ES) : Nat → SV → (ES → Prop) → Prop := @ES.rec (fun _ => Nat → SV → (ES → Prop) → Prop) (fun _ _ _ => False)
  (fun k v b r ih s y c => bK (Nat.beq b s) (c (.cons k y b r)) (ih s y fun r => c (.cons k v b r))) es
def ES.delK (es : ES) : QT → SV → (ES → Prop) → Prop := @ES.rec (fun _ => QT → SV → (ES → Prop) → Prop) (fun _ _ c => c .nil)
  (fun k v b r ih t x c => eqT t x k fun q => bK q (c r) (ih t x fun r => c (.cons k v b r))) es
def ES.lenK (es : ES) : Nat → (Nat → Prop) → Prop := @ES.rec (fun _ => Nat → (Nat → Prop) → Prop) (fun n c => c n) (fun _ _ _ _ ih n c => natK (Nat.succ n) fun n => ih n c) es
def ES.atK (es : ES) : Nat → (SV → SV → Prop) → Prop := @ES.rec (fun _ => Nat → (SV → SV → Prop) → Prop) (fun _ _ => False)
  (fun k v b _ ih s c => bK (Nat.beq b s) (c k v) (ih s c)) es
def memK (l : List Nat) : Nat → Prop → Prop → Prop := @List.rec Nat (fun _ => Nat → Prop → Prop → Prop) (fun _ _ d => d) (fun a _ ih n c d => bK (Nat.beq a n) c (ih n c d)) l
/-- The entries that were not seen, all stamped before a time: each of them may be next. Where fst holds, the first of them alone is taken. -/
def ES.leftK (fst : Bool) (es : ES) : List Nat → Nat → (SV → SV → Nat → Prop → Prop) → Prop → Prop := @ES.rec (fun _ => List Nat → Nat → (SV → SV → Nat → Prop → Prop) → Prop → Prop) (fun _ _ _ d => d)
  (fun k v b _ ih seen since c d => memK seen b (ih seen since c d) (bK (Nat.blt b since) (c k v b (bK fst d (ih seen since c d))) False)) es

/-! Operations that only compute or read. -/
abbrev QK := Fm → Mem → (SV → Prop) → Prop
def qMv (x : LX) : QK := fun fr _ c => evK x fr c
def qPick (b x y : LX) : QK := fun fr _ c => evK b fr fun v => SV.onBool (fun t => bK t (evK x fr c) (evK y fr c)) v
def chkK (v : SV) (c : SV → Prop) : Prop := @SV.rec (fun _ => Prop) (fun _ => False) (fun _ _ => False) (fun _ => False) (fun b o => c (.ptr b o)) (False) (fun _ _ _ _ => False) (fun _ _ => False) (False) (fun _ => False) (False) (fun fn g q _ _ => c (.func fn g q)) (fun b => c (.yld b)) (False) (fun _ _ _ => False) (False) (fun _ _ => False) (fun _ _ => False) (False) (fun _ _ _ _ => False) v
def qChk (x : LX) : QK := fun fr _ c => evK x fr fun v => chkK v c
def binV (f : BinOp) (v : SV) : SV → (SV → Prop) → Prop := @SV.rec (fun _ => SV → (SV → Prop) → Prop) (fun _ => fun _ _ => False) (fun k a u c => SV.onInt (fun j b => binI f k a j b c) u) (fun a u c => SV.onStr (fun b => binT f a b c) u) (fun _ _ => fun _ _ => False) (fun _ _ => False) (fun _ _ _ _ => fun _ _ => False) (fun _ _ => fun _ _ => False) (fun _ _ => False) (fun _ => fun _ _ => False) (fun _ _ => False) (fun _ _ _ _ _ => fun _ _ => False) (fun _ => fun _ _ => False) (fun _ _ => False) (fun _ _ _ => fun _ _ => False) (fun _ _ => False) (fun _ _ => fun _ _ => False) (fun _ _ => fun _ _ => False) (fun _ _ => False) (fun _ _ _ _ => fun _ _ => False) v
def unB (f : UnOp) (b : Bool) (c : SV → Prop) : Prop := @UnOp.rec (fun _ => Prop) False False (notK (fun r => c (.bool r)) b) False f
def unI (f : UnOp) (k : IntKind) (n : Int) (c : SV → Prop) : Prop := @UnOp.rec (fun _ => Prop) (wrapK k (Int.sub 0 n) fun r => c (.int k r)) (intF (bits .xor k (if k.signed then -1 else k.max) n) fun r => c (.int k r)) False False f
def unV (v : SV) : UnOp → (SV → Prop) → Prop := @SV.rec (fun _ => UnOp → (SV → Prop) → Prop) (fun b f c => unB f b c) (fun k n f c => unI f k n c) (fun _ => fun _ _ => False) (fun _ _ => fun _ _ => False) (fun _ _ => False) (fun _ _ _ _ => fun _ _ => False) (fun _ _ => fun _ _ => False) (fun _ _ => False) (fun _ => fun _ _ => False) (fun _ _ => False) (fun _ _ _ _ _ => fun _ _ => False) (fun _ => fun _ _ => False) (fun _ _ => False) (fun _ _ _ => fun _ _ => False) (fun _ _ => False) (fun _ _ => fun _ _ => False) (fun _ _ => fun _ _ => False) (fun _ _ => False) (fun _ _ _ _ => fun _ _ => False) v
def lenV (v : SV) : (SV → Prop) → Prop := @SV.rec (fun _ => (SV → Prop) → Prop) (fun _ => fun _ => False) (fun _ _ => fun _ => False) (fun _ => fun _ => False) (fun _ _ => fun _ => False) (fun _ => False) (fun _ _ n _ c => c (.int .i64 (.ofNat n))) (fun _ _ c => c (.int .i64 (.ofNat 0))) (fun c => c (.int .i64 (.ofNat 0))) (fun _ => fun _ => False) (fun _ => False) (fun _ _ _ _ _ => fun _ => False) (fun _ => fun _ => False) (fun _ => False) (fun _ _ _ => fun _ => False) (fun _ => False) (fun _ _ => fun _ => False) (fun _ _ => fun _ => False) (fun _ => False) (fun _ _ _ _ => fun _ => False) v
def capV (v : SV) : (SV → Prop) → Prop := @SV.rec (fun _ => (SV → Prop) → Prop) (fun _ => fun _ => False) (fun _ _ => fun _ => False) (fun _ => fun _ => False) (fun _ _ => fun _ => False) (fun _ => False) (fun _ _ _ q c => @Cap.rec (fun _ => Prop) (fun n => c (.int .i64 (.ofNat n))) (fun _ => False) q) (fun _ _ => fun _ => False) (fun c => c (.int .i64 (.ofNat 0))) (fun _ => fun _ => False) (fun _ => False) (fun _ _ _ _ _ => fun _ => False) (fun _ => fun _ => False) (fun _ => False) (fun _ _ _ => fun _ => False) (fun _ => False) (fun _ _ => fun _ => False) (fun _ _ => fun _ => False) (fun _ => False) (fun _ _ _ _ => fun _ => False) v
def qCapv (x : LX) : QK := fun fr _ c => evK x fr fun v => capV v c
def qBin (f : BinOp) (x y : LX) : QK := fun fr _ c => evK x fr fun v => evK y fr fun u => binV f v u c
def qEq (t : QT) (neg : Bool) (x y : LX) : QK := fun fr _ c => evK x fr fun v => evK y fr fun u => eqT t v u fun r => bK neg (notK (fun r => c (.bool r)) r) (c (.bool r))
def qUn (f : UnOp) (x : LX) : QK := fun fr _ c => evK x fr fun v => unV v f c
def qConv (k : IntKind) (x : LX) : QK := fun fr _ c => evK x fr fun v => SV.onInt (fun _ n => wrapK k n fun r => c (.int k r)) v
def qSid (x : LX) : QK := fun fr _ c => evK x fr fun v => SV.onStr (fun l => c (.str l)) v
def qIfc (t : Nat) (x : LX) : QK := fun fr _ c => evK x fr fun v => c (.iface t v)
def qFun (fn : Nat) (f q : LXs) : QK := fun fr _ c => evsK f fr fun l => evsK q fr fun m => c (.func fn l m)
def qExt (x : LX) (i : Nat) : QK := fun fr _ c => evK x fr fun v => SV.onTup (fun l => nthK l i c) v
def qBuild (z : SV) (ps : LPs) : QK := fun fr _ c => fillK ps z fr fun l => c (.agg l)
def qFa (o : Nat) (x : LX) : QK := fun fr _ c => evK x fr fun v => SV.onPtr (fun b u => natK (Nat.add u o) fun u => c (.ptr b u)) v
def qFld (o : Nat) (rd : Rd) (x : LX) : QK := fun fr _ c => evK x fr fun v => SV.onAgg (fun l => partK rd l o c) v
def iaSl (z : Nat) (v : SV) (i : Nat) (c : SV → Prop) : Prop := SV.onSlice (fun b o n _ => bK (Nat.blt i n) (natK (Nat.add o (Nat.mul i z)) fun o => c (.ptr b o)) False) v
def iaArr (n z : Nat) (v : SV) (i : Nat) (c : SV → Prop) : Prop := bK (Nat.blt i n) (SV.onPtr (fun b o => natK (Nat.add o (Nat.mul i z)) fun o => c (.ptr b o)) v) False
def iaK (t : AdT) : SV → Nat → (SV → Prop) → Prop := @AdT.rec (fun _ => SV → Nat → (SV → Prop) → Prop) iaSl iaArr t
def idxK (v : SV) (c : Nat → Prop) : Prop := SV.onInt (fun _ i => intN i c) v
def qIa (t : AdT) (x i : LX) : QK := fun fr _ c => evK x fr fun v => evK i fr fun j => idxK j fun j => iaK t v j c
def qIx (n z : Nat) (rd : Rd) (x i : LX) : QK := fun fr _ c => evK x fr fun v => evK i fr fun j => idxK j fun j => bK (Nat.blt j n) (SV.onAgg (fun l => natK (Nat.mul j z) fun o => partK rd l o c) v) False
def qIxs (x i : LX) : QK := fun fr _ c => evK x fr fun v => evK i fr fun j => idxK j fun j => SV.onStr (fun l => tnthK l j fun b => natK (Nat.mod b 256) fun b => c (.int .u8 (.ofNat b))) v
def qLens (x : LX) : QK := fun fr _ c => evK x fr fun v => lenV v c
def qLent (x : LX) : QK := fun fr _ c => evK x fr fun v => SV.onStr (fun l => tlenK l 0 fun n => c (.int .i64 (.ofNat n))) v
def qLenc (n : Nat) : QK := fun _ _ c => c (.int .i64 (.ofNat n))
def mmK (mx : Bool) (v u : SV) (c : SV → Prop) : Prop := SV.onInt (fun k a => SV.onInt (fun j b => kK k j (ltK a b fun r => bK r (bK mx (c (.int k b)) (c (.int k a))) (bK mx (c (.int k a)) (ltK b a fun r => bK r (c (.int k b)) (c (.int k a)))))) u) v
def qMm (mx : Bool) (x y : LX) : QK := fun fr _ c => evK x fr fun v => evK y fr fun u => mmK mx v u c
def qArr (n : Nat) (x : LX) : QK := fun fr _ c => evK x fr fun v => SV.onSlice (fun b o m _ => bK (Nat.ble n m) (c (.ptr b o)) False) v
def qLoad (rd : Rd) (x : LX) : QK := fun fr m c => evK x fr fun v => SV.onPtr (fun b o => Tr.getK b m fun ob => SO.onRow (fun l => partK rd l o c) ob) v
def oxK (x : OX) : Nat → Fm → (Nat → Prop) → Prop := @OX.rec (fun _ => Nat → Fm → (Nat → Prop) → Prop) (fun d _ c => c d) (fun x _ fr c => evK x fr fun v => idxK v c) x
def oxIs (x : OX) (no yes : Prop) : Prop := @OX.rec (fun _ => Prop) no (fun _ => yes) x
/-- Where a slice begins that is cut out of another one. -/
def begK (l m o z : Nat) (c : Nat → Prop) : Prop := bK (Nat.beq m l) (c o) (natK (Nat.add o (Nat.mul l z)) c)
def cutK (z : Nat) (b : Pos) (o l h m : Nat) (c : SV → Prop) : Prop := natK (Nat.sub h l) fun n => natK (Nat.sub m l) fun q => begK l m o z fun o => c (.slice b o n (.k q))
def slKnown (z n q : Nat) (b : Pos) (o : Nat) (lo hi mx : OX) (fr : Fm) (c : SV → Prop) : Prop :=
  oxK mx q fr fun m => bK (Nat.ble m q) (oxK hi n fr fun h => bK (Nat.ble h m) (oxK lo 0 fr fun l => bK (Nat.ble l h) (cutK z b o l h m c) False) False) False
/-- The block is at hand, and holds what the slice shows. -/
def heldK (b : Pos) (o n z i : Nat) (m : Mem) (c : Prop) : Prop := bK (Nat.beq o (Nat.mul i z)) (bK (Nat.ble 1 z) (Tr.getK b m fun ob => SO.onGrow (fun l z' => bK (Nat.beq z z') (rangeK l o (Nat.mul n z) fun _ => c) False) ob) False) False
def slRest (z n i : Nat) (b : Pos) (o : Nat) (lo hi mx : OX) (fr : Fm) (c : SV → Prop) : Prop :=
  oxIs mx
    (oxK hi n fr fun h => bK (Nat.ble h n) (oxK lo 0 fr fun l => bK (Nat.ble l h) (bK (Nat.blt l n) (natK (Nat.sub h l) fun k => natK (Nat.add i l) fun j => natK (Nat.add o (Nat.mul l z)) fun u => c (.slice b u k (.r j))) (natK (Nat.add i l) fun j => @Nat.rec (fun _ => Prop) (c (.slice b o n (.r i))) (fun _ _ => c (.emp b j)) l)) False) False)
    (oxK mx 0 fr fun m => bK (Nat.ble m n) (oxK hi n fr fun h => bK (Nat.ble h m) (oxK lo 0 fr fun l => bK (Nat.ble l h) (cutK z b o l h m c) False) False) False)
def slNo (lo hi mx : OX) (fr : Fm) (c : Prop) : Prop := oxK lo 0 fr fun l => oxK hi 0 fr fun h => oxK mx 0 fr fun m => bK (Nat.beq l 0) (bK (Nat.beq h 0) (bK (Nat.beq m 0) c False) False) False
def slSl (z : Nat) (v : SV) : OX → OX → OX → Fm → Mem → (SV → Prop) → Prop := @SV.rec (fun _ => OX → OX → OX → Fm → Mem → (SV → Prop) → Prop) (fun _ => fun _ _ _ _ _ _ => False) (fun _ _ => fun _ _ _ _ _ _ => False) (fun _ => fun _ _ _ _ _ _ => False) (fun _ _ => fun _ _ _ _ _ _ => False) (fun _ _ _ _ _ _ => False) (fun b o n q lo hi mx fr m c => @Cap.rec (fun _ => Prop) (fun q => slKnown z n q b o lo hi mx fr c) (fun i => heldK b o n z i m (slRest z n i b o lo hi mx fr c)) q) (fun b i lo hi mx fr _ c => oxIs mx (slNo lo hi mx fr (c (.emp b i))) False) (fun lo hi mx fr _ c => slNo lo hi mx fr (c .nils)) (fun _ => fun _ _ _ _ _ _ => False) (fun _ _ _ _ _ _ => False) (fun _ _ _ _ _ => fun _ _ _ _ _ _ => False) (fun _ => fun _ _ _ _ _ _ => False) (fun _ _ _ _ _ _ => False) (fun _ _ _ => fun _ _ _ _ _ _ => False) (fun _ _ _ _ _ _ => False) (fun _ _ => fun _ _ _ _ _ _ => False) (fun _ _ => fun _ _ _ _ _ _ => False) (fun _ _ _ _ _ _ => False) (fun _ _ _ _ => fun _ _ _ _ _ _ => False) v
def slStr (v : SV) (lo hi mx : OX) (fr : Fm) (_ : Mem) (c : SV → Prop) : Prop :=
  SV.onStr (fun t => oxIs mx (tlenK t 0 fun n => oxK hi n fr fun h => bK (Nat.ble h n) (oxK lo 0 fr fun l => bK (Nat.ble l h) (tdropK l t fun r => natK (Nat.sub h l) fun k => ttakeK k r fun r => c (.str r)) False) False) False) v
def slArr (n z : Nat) (v : SV) (lo hi mx : OX) (fr : Fm) (_ : Mem) (c : SV → Prop) : Prop := SV.onPtr (fun b o => slKnown z n n b o lo hi mx fr c) v
def slK (t : SlT) : SV → OX → OX → OX → Fm → Mem → (SV → Prop) → Prop := @SlT.rec (fun _ => SV → OX → OX → OX → Fm → Mem → (SV → Prop) → Prop) slStr slSl slArr t
def qSlc (t : SlT) (x : LX) (lo hi mx : OX) : QK := fun fr m c => evK x fr fun v => slK t v lo hi mx fr m c
def okK (ok : Bool) (b : Bool) (v : SV) (c : SV → Prop) : Prop := bK ok (c (.tup (.cons v (.cons (.bool b) .nil)))) (c v)
def lkpV (v : SV) : QT → SV → SV → Bool → Mem → (SV → Prop) → Prop := @SV.rec (fun _ => QT → SV → SV → Bool → Mem → (SV → Prop) → Prop) (fun _ => fun _ _ _ _ _ _ => False) (fun _ _ => fun _ _ _ _ _ _ => False) (fun _ => fun _ _ _ _ _ _ => False) (fun _ _ => fun _ _ _ _ _ _ => False) (fun _ _ _ _ _ _ => False) (fun _ _ _ _ => fun _ _ _ _ _ _ => False) (fun _ _ => fun _ _ _ _ _ _ => False) (fun _ _ _ _ _ _ => False) (fun b t k z ok m c => Tr.getK b m fun ob => SO.onMp (fun es _ => keyK t k <| ES.findK es t k (fun v => okK ok true v c) (okK ok false z c)) ob) (fun t k z ok _ c => keyK t k (okK ok false z c)) (fun _ _ _ _ _ => fun _ _ _ _ _ _ => False) (fun _ => fun _ _ _ _ _ _ => False) (fun _ _ _ _ _ _ => False) (fun _ _ _ => fun _ _ _ _ _ _ => False) (fun _ _ _ _ _ _ => False) (fun _ _ => fun _ _ _ _ _ _ => False) (fun _ _ => fun _ _ _ _ _ _ => False) (fun _ _ _ _ _ _ => False) (fun _ _ _ _ => fun _ _ _ _ _ _ => False) v
def lenM (v : SV) : Mem → (SV → Prop) → Prop := @SV.rec (fun _ => Mem → (SV → Prop) → Prop) (fun _ => fun _ _ => False) (fun _ _ => fun _ _ => False) (fun _ => fun _ _ => False) (fun _ _ => fun _ _ => False) (fun _ _ => False) (fun _ _ _ _ => fun _ _ => False) (fun _ _ => fun _ _ => False) (fun _ _ => False) (fun b m c => Tr.getK b m fun ob => SO.onMp (fun es _ => ES.lenK es 0 fun n => c (.int .i64 (.ofNat n))) ob) (fun _ c => c (.int .i64 (.ofNat 0))) (fun _ _ _ _ _ => fun _ _ => False) (fun _ => fun _ _ => False) (fun _ _ => False) (fun _ _ _ => fun _ _ => False) (fun _ _ => False) (fun _ _ => fun _ _ => False) (fun _ _ => fun _ _ => False) (fun _ _ => False) (fun _ _ _ _ => fun _ _ => False) v
/-- The bytes of cells. -/
def bytK (v : SV) : (List Nat → Prop) → Prop := @SV.rec (fun _ => (List Nat → Prop) → Prop) (fun _ => fun _ => False) (fun _ _ => fun _ => False) (fun _ => fun _ => False) (fun _ _ => fun _ => False) (fun _ => False) (fun _ _ _ _ => fun _ => False) (fun _ _ => fun _ => False) (fun _ => False) (fun _ => fun _ => False) (fun _ => False) (fun _ _ _ _ _ => fun _ => False) (fun _ => fun _ => False) (fun _ => False) (fun _ _ _ => fun _ => False) (fun _ => False) (fun _ _ => fun _ => False) (fun _ _ => fun _ => False) (fun c => c []) (fun h _ _ ih c => SV.onInt (fun k n => kK k .u8 (intN n fun n => bK (Nat.blt n 256) (ih fun r => c (n :: r)) False)) h) v
def txtV (v : SV) : Mem → (SV → Prop) → Prop := @SV.rec (fun _ => Mem → (SV → Prop) → Prop) (fun _ => fun _ _ => False) (fun _ _ => fun _ _ => False) (fun _ => fun _ _ => False) (fun _ _ => fun _ _ => False) (fun _ _ => False) (fun b o n _ m c => Tr.getK b m fun ob => SO.onRow (fun l => rangeK l o n fun r => bytK r fun t => c (.str t)) ob) (fun _ _ => fun _ _ => False) (fun _ c => c (.str [])) (fun _ => fun _ _ => False) (fun _ _ => False) (fun _ _ _ _ _ => fun _ _ => False) (fun _ => fun _ _ => False) (fun _ _ => False) (fun _ _ _ => fun _ _ => False) (fun _ _ => False) (fun _ _ => fun _ _ => False) (fun _ _ => fun _ _ => False) (fun _ _ => False) (fun _ _ _ _ => fun _ _ => False) v
def qLkp (t : QT) (z : SV) (ok : Bool) (x k : LX) : QK := fun fr m c => evK x fr fun v => evK k fr fun u => lkpV v t u z ok m c
def qLenm (x : LX) : QK := fun fr m c => evK x fr fun v => lenM v m c
def qTxt (x : LX) : QK := fun fr m c => evK x fr fun v => txtV v m c
def lastK (l : List Nat) (c : Nat → Prop) : Prop := @List.rec Nat (fun _ => (Nat → Prop) → Prop) (fun _ => False) (fun a r ih c => @List.rec Nat (fun _ => Prop) (c a) (fun _ _ _ => ih c) r) l c
def qEnt (x : LX) : QK := fun fr m c => evK x fr fun v => SV.onPtr (fun b o => bK (Nat.beq o 0) (Tr.getK b m fun ob => SO.onMit (fun p _ seen last => lastK seen fun s => Tr.getK p m fun ob => SO.onMp (fun es k => bK (Nat.beq k last) (ES.atK es s fun k v => c (.tup (.cons k (.cons v .nil)))) False) ob) ob) False) v
def qK (o : LO) : QK := @LO.rec (fun _ => QK) qMv qPick qChk qBin qEq qUn qConv qSid qIfc qFun qExt qBuild qFa qFld qIa qIx qIxs qLens qLent qLenc qCapv qMm qArr qLoad qSlc qLkp qLenm qTxt qEnt (fun _ => fun _ _ _ => False) (fun _ => fun _ _ _ => False) (fun _ _ _ => fun _ _ _ => False) (fun _ _ _ => False) (fun _ _ _ _ _ => fun _ _ _ => False) (fun _ => fun _ _ _ => False) (fun _ _ _ => fun _ _ _ => False) (fun _ _ _ _ => fun _ _ _ => False) (fun _ _ _ _ => fun _ _ _ => False) (fun _ _ _ _ _ => fun _ _ _ => False) (fun _ _ _ => fun _ _ _ => False) (fun _ _ _ => fun _ _ _ => False) (fun _ _ => fun _ _ _ => False) (fun _ _ => fun _ _ _ => False) (fun _ _ => fun _ _ _ => False) (fun _ _ _ _ => fun _ _ _ => False) (fun _ _ _ => fun _ _ _ => False) (fun _ _ _ => fun _ _ _ => False) (fun _ _ _ => False) (fun _ _ => fun _ _ _ => False) o
/-! Operations that make a block. -/
abbrev AK := Fm → Pos → (SO → SV → Prop) → Prop
def aAlloc (z : SV) : AK := fun _ n c => c (.cells z) (.ptr n 0)
def aBox (x : LX) : AK := fun fr n c => evK x fr fun v => cellsK v fun l => c (.cells l) (.ptr n 0)
def aBsl (k : Nat) (z : SV) (ps : LPs) : AK := fun fr n c => fillK ps z fr fun l => c (.cells l) (.slice n 0 k (.k k))
def aMkm : AK := fun _ n c => c (.mp .nil 0) (.map n)
def mostB : Nat := 281474976710656
def aMks (_z b : Nat) (zc : SV) (x y : LX) : AK := fun fr n c => evK x fr fun u => evK y fr fun v => idxK u fun l => idxK v fun q => bK (Nat.ble l q) (bK (Nat.ble (Nat.mul b q) mostB) (repK zc q fun r => c (.cells r) (.slice n 0 l (.k q))) False) False
def intsK (l : List Nat) : (SV → Prop) → Prop := @List.rec Nat (fun _ => (SV → Prop) → Prop) (fun c => c .nil) (fun a _ ih c => natK (Nat.mod a 256) fun a => ih fun r => c (.cons (.int .u8 (.ofNat a)) r)) l
def aByts (x : LX) : AK := fun fr n c => evK x fr fun v => SV.onStr (fun l => intsK l fun r => tlenK l 0 fun k => c (.grow r 1) (.slice n 0 k (.r 0))) v
def aK (o : LO) : AK := @LO.rec (fun _ => AK) (fun _ => fun _ _ _ => False) (fun _ _ _ => fun _ _ _ => False) (fun _ => fun _ _ _ => False) (fun _ _ _ => fun _ _ _ => False) (fun _ _ _ _ => fun _ _ _ => False) (fun _ _ => fun _ _ _ => False) (fun _ _ => fun _ _ _ => False) (fun _ => fun _ _ _ => False) (fun _ _ => fun _ _ _ => False) (fun _ _ _ => fun _ _ _ => False) (fun _ _ => fun _ _ _ => False) (fun _ _ => fun _ _ _ => False) (fun _ _ => fun _ _ _ => False) (fun _ _ _ => fun _ _ _ => False) (fun _ _ _ => fun _ _ _ => False) (fun _ _ _ _ _ => fun _ _ _ => False) (fun _ _ => fun _ _ _ => False) (fun _ => fun _ _ _ => False) (fun _ => fun _ _ _ => False) (fun _ => fun _ _ _ => False) (fun _ => fun _ _ _ => False) (fun _ _ _ => fun _ _ _ => False) (fun _ _ => fun _ _ _ => False) (fun _ _ => fun _ _ _ => False) (fun _ _ _ _ _ => fun _ _ _ => False) (fun _ _ _ _ _ => fun _ _ _ => False) (fun _ => fun _ _ _ => False) (fun _ => fun _ _ _ => False) (fun _ => fun _ _ _ => False) aAlloc aBox aBsl aMkm aMks aByts (fun _ _ _ => fun _ _ _ => False) (fun _ _ _ _ => fun _ _ _ => False) (fun _ _ _ _ => fun _ _ _ => False) (fun _ _ _ _ _ => fun _ _ _ => False) (fun _ _ _ => fun _ _ _ => False) (fun _ _ _ => fun _ _ _ => False) (fun _ _ => fun _ _ _ => False) (fun _ _ => fun _ _ _ => False) (fun _ _ => fun _ _ _ => False) (fun _ _ _ _ => fun _ _ _ => False) (fun _ _ _ => fun _ _ _ => False) (fun _ _ _ => fun _ _ _ => False) (fun _ _ _ => False) (fun _ _ => fun _ _ _ => False) o
/-! Operations with effects. -/
abbrev Co := SV → Mem → Pos → Prop → Prop
abbrev Cl := Nat → SV → Mem → Pos → Co → Prop → Prop
abbrev Rl := Pos → SV → Mem → Pos → Co → Prop → Prop
abbrev SK := Fm → Mem → Pos → LD → (SV → Mem → Pos → LD → Prop) → Prop
/-- The same, where what is to be shown afterwards goes along. -/
abbrev SKL := Fm → Mem → Pos → LD → (SV → Mem → Pos → LD → Prop → Prop) → Prop → Prop
def up (s : SK) : SKL := fun fr m n d c k => s fr m n d fun v m n d => c v m n d k
def undef_ : SV := .tup .nil
def sStore (k : Nat) (x y : LX) : SK := fun fr m n d c => evK x fr fun u => evK y fr fun v => cellsK v fun l => lenIs l k (onesK l (SV.onPtr (fun b o => Tr.getK b m fun ob => SO.onSet (fun cs mk => setK o l cs fun cs => Tr.putK b m (mk cs) fun m => c undef_ m n d) ob) u))
def sMput (et : QT) (x k y : LX) : SK := fun fr m n d c => evK x fr fun u => evK k fr fun v => evK y fr fun w => SV.onMap (fun b => Tr.getK b m fun ob => SO.onMp (fun es t => keyK et v <|
  ES.putK es et v w (fun es _ _ => Tr.putK b m (.mp es t) fun m => c undef_ m n d) (ES.endK es v w t fun es => natK (Nat.succ t) fun t => Tr.putK b m (.mp es t) fun m => c undef_ m n d)) ob) u
/-- The cells that a slice or a text shows, and how many elements it has. -/
def srcK (v : SV) : Mem → Nat → (SV → Nat → Prop) → Prop := @SV.rec (fun _ => Mem → Nat → (SV → Nat → Prop) → Prop) (fun _ => fun _ _ _ => False) (fun _ _ => fun _ _ _ => False) (fun t _ z c => bK (Nat.beq z 1) (intsK t fun r => tlenK t 0 fun n => c r n) False) (fun _ _ => fun _ _ _ => False) (fun _ _ _ => False) (fun b o n _ m z c => Tr.getK b m fun ob => SO.onRow (fun l => rangeK l o (Nat.mul n z) fun r => onesK r (c r n)) ob) (fun _ _ _ _ c => c .nil 0) (fun _ _ c => c .nil 0) (fun _ => fun _ _ _ => False) (fun _ _ _ => False) (fun _ _ _ _ _ => fun _ _ _ => False) (fun _ => fun _ _ _ => False) (fun _ _ _ => False) (fun _ _ _ => fun _ _ _ => False) (fun _ _ _ => False) (fun _ _ => fun _ _ _ => False) (fun _ _ => fun _ _ _ => False) (fun _ _ _ => False) (fun _ _ _ _ => fun _ _ _ => False) v
def roomK (t b : Nat) (c : Prop) : Prop := bK (Nat.ble (Nat.mul (Nat.add (Nat.mul 2 t) 1024) b) mostB) c False
/-- A new row for an append that does not fit. -/
def apNew (z b t : Nat) (old ly : SV) (m : Mem) (n : Pos) (c : SV → Mem → Pos → Prop) : Prop :=
  roomK t b (appK old ly fun r => Tr.putK n m (.grow r z) fun m => Pos.succK n fun n' => c (.slice n 0 t (.r 0)) m n')
def apFit (z b o k t q : Nat) (p : Pos) (ly : SV) (m : Mem) (n : Pos) (c : SV → Mem → Pos → Prop) : Prop :=
  Tr.getK p m fun ob => bK (Nat.ble t q)
    (SO.onSet (fun l mk => setK (Nat.add o (Nat.mul k z)) ly l fun l => Tr.putK p m (mk l) fun m => c (.slice p o t (.k q)) m n) ob)
    (SO.onRow (fun l => rangeK l o (Nat.mul k z) fun r => apNew z b t r ly m n c) ob)
def apRest (z b o k t i : Nat) (p : Pos) (ly : SV) (m : Mem) (n : Pos) (c : SV → Mem → Pos → Prop) : Prop :=
  bK (Nat.beq o 0) (bK (Nat.beq i 0) (Tr.getK p m fun ob => SO.onGrow (fun l z' => bK (Nat.beq z z') (rangeK l 0 (Nat.mul k z) fun r => Tr.delK p m fun m => apNew z b t r ly m n c) False) ob) False) False
def apV (v : SV) : Nat → Nat → SV → Nat → Mem → Pos → (SV → Mem → Pos → Prop) → Prop := @SV.rec (fun _ => Nat → Nat → SV → Nat → Mem → Pos → (SV → Mem → Pos → Prop) → Prop) (fun _ => fun _ _ _ _ _ _ _ => False) (fun _ _ => fun _ _ _ _ _ _ _ => False) (fun _ => fun _ _ _ _ _ _ _ => False) (fun _ _ => fun _ _ _ _ _ _ _ => False) (fun _ _ _ _ _ _ _ => False) (fun p o j q z b ly k m n c => natK (Nat.add j k) fun t => @Cap.rec (fun _ => Prop) (fun q => apFit z b o j t q p ly m n c) (fun i => @Nat.rec (fun _ => Prop) (heldK p o j z i m (c (.slice p o j (.r i)) m n)) (fun _ _ => apRest z b o j t i p ly m n c) k) q) (fun p j _ _ _ k m n c => @Nat.rec (fun _ => Prop) (c (.emp p j) m n) (fun _ _ => False) k) (fun z b ly k m n c => natK k fun k => @Nat.rec (fun _ => Prop) (c .nils m n) (fun _ _ => apNew z b k .nil ly m n c) k) (fun _ => fun _ _ _ _ _ _ _ => False) (fun _ _ _ _ _ _ _ => False) (fun _ _ _ _ _ => fun _ _ _ _ _ _ _ => False) (fun _ => fun _ _ _ _ _ _ _ => False) (fun _ _ _ _ _ _ _ => False) (fun _ _ _ => fun _ _ _ _ _ _ _ => False) (fun _ _ _ _ _ _ _ => False) (fun _ _ => fun _ _ _ _ _ _ _ => False) (fun _ _ => fun _ _ _ _ _ _ _ => False) (fun _ _ _ _ _ _ _ => False) (fun _ _ _ _ => fun _ _ _ _ _ _ _ => False) v
def sApp (z b : Nat) (x y : LX) : SK := fun fr m n d c => evK x fr fun u => evK y fr fun v => srcK v m z fun ly k => apV u z b ly k m n fun r m n => c r m n d
def sAppz (z b : Nat) (zc : SV) (x y : LX) : SK := fun fr m n d c => evK x fr fun u => evK y fr fun v => idxK v fun k => bK (Nat.ble (Nat.mul k b) mostB) (repK zc k fun ly => onesK ly (apV u z b ly k m n fun r m n => c r m n d)) False
def cpV (v : SV) : Nat → SV → Nat → Mem → (SV → Mem → Prop) → Prop := @SV.rec (fun _ => Nat → SV → Nat → Mem → (SV → Mem → Prop) → Prop) (fun _ => fun _ _ _ _ _ => False) (fun _ _ => fun _ _ _ _ _ => False) (fun _ => fun _ _ _ _ _ => False) (fun _ _ => fun _ _ _ _ _ => False) (fun _ _ _ _ _ => False) (fun b o n _ z ly k m c => natK (Nat.min k n) fun k => Tr.getK b m fun ob => SO.onSet (fun l mk => takeK (Nat.mul k z) ly fun r => setK o r l fun l => Tr.putK b m (mk l) fun m => c (.int .i64 (.ofNat k)) m) ob) (fun _ _ _ _ _ m c => c (.int .i64 (.ofNat 0)) m) (fun _ _ _ m c => c (.int .i64 (.ofNat 0)) m) (fun _ => fun _ _ _ _ _ => False) (fun _ _ _ _ _ => False) (fun _ _ _ _ _ => fun _ _ _ _ _ => False) (fun _ => fun _ _ _ _ _ => False) (fun _ _ _ _ _ => False) (fun _ _ _ => fun _ _ _ _ _ => False) (fun _ _ _ _ _ => False) (fun _ _ => fun _ _ _ _ _ => False) (fun _ _ => fun _ _ _ _ _ => False) (fun _ _ _ _ _ => False) (fun _ _ _ _ => fun _ _ _ _ _ => False) v
def sCpy (z : Nat) (x y : LX) : SK := fun fr m n d c => evK x fr fun u => evK y fr fun v => srcK v m z fun ly k => cpV u z ly k m fun r m => c r m n d
def clV (v : SV) : Nat → SV → Mem → (Mem → Prop) → Prop := @SV.rec (fun _ => Nat → SV → Mem → (Mem → Prop) → Prop) (fun _ => fun _ _ _ _ => False) (fun _ _ => fun _ _ _ _ => False) (fun _ => fun _ _ _ _ => False) (fun _ _ => fun _ _ _ _ => False) (fun _ _ _ _ => False) (fun b o n _ z zc m c => Tr.getK b m fun ob => SO.onSet (fun l mk => repK zc n fun r => onesK r (setK o r l fun l => Tr.putK b m (mk l) c)) ob) (fun _ _ _ _ m c => c m) (fun _ _ m c => c m) (fun _ => fun _ _ _ _ => False) (fun _ _ _ _ => False) (fun _ _ _ _ _ => fun _ _ _ _ => False) (fun _ => fun _ _ _ _ => False) (fun _ _ _ _ => False) (fun _ _ _ => fun _ _ _ _ => False) (fun _ _ _ _ => False) (fun _ _ => fun _ _ _ _ => False) (fun _ _ => fun _ _ _ _ => False) (fun _ _ _ _ => False) (fun _ _ _ _ => fun _ _ _ _ => False) v
def sClr (z : Nat) (zc : SV) (x : LX) : SK := fun fr m n d c => evK x fr fun u => clV u z zc m fun m => c undef_ m n d
def rgV (v : SV) : Bool → Mem → (SO → Prop) → Prop := @SV.rec (fun _ => Bool → Mem → (SO → Prop) → Prop) (fun _ => fun _ _ _ => False) (fun _ _ => fun _ _ _ => False) (fun t st _ c => bK st (c (.sit t 0)) False) (fun _ _ => fun _ _ _ => False) (fun _ _ _ => False) (fun _ _ _ _ => fun _ _ _ => False) (fun _ _ => fun _ _ _ => False) (fun _ _ _ => False) (fun b st m c => bK st False (Tr.getK b m fun ob => SO.onMp (fun _ t => c (.mit b t [] t)) ob)) (fun st _ c => bK st False (c .mi0)) (fun _ _ _ _ _ => fun _ _ _ => False) (fun _ => fun _ _ _ => False) (fun _ _ _ => False) (fun _ _ _ => fun _ _ _ => False) (fun _ _ _ => False) (fun _ _ => fun _ _ _ => False) (fun _ _ => fun _ _ _ => False) (fun _ _ _ => False) (fun _ _ _ _ => fun _ _ _ => False) v
def sRng (st : Bool) (x : LX) : SK := fun fr m n d c => evK x fr fun v => rgV v st m fun ob => Tr.putK n m ob fun m => Pos.succK n fun n' => c (.ptr n 0) m n' d
def over : SV := .tup (.cons (.bool false) .nil)
def snocK (l : List Nat) : Nat → (List Nat → Prop) → Prop := @List.rec Nat (fun _ => Nat → (List Nat → Prop) → Prop) (fun n c => c [n]) (fun a _ ih n c => ih n fun r => c (a :: r)) l
def anyLeft (es : ES) : List Nat → Prop → Prop → Prop := @ES.rec (fun _ => List Nat → Prop → Prop → Prop) (fun _ _ d => d) (fun _ _ b _ ih seen c d => memK seen b (ih seen c d) c) es
/-- No entry was stored since a stamp, or something is left that stood before. -/
def oldK (es : ES) : Nat → Prop → Prop := @ES.rec (fun _ => Nat → Prop → Prop) (fun _ c => c) (fun _ _ b _ ih l c => bK (Nat.blt b l) (ih l c) False) es
def nxMap (fst : Bool) (b p : Pos) (since : Nat) (seen : List Nat) (last : Nat) (m : Mem) (c : SV → Mem → Prop → Prop) (d : Prop) : Prop :=
  Tr.getK p m fun ob => SO.onMp (fun es t => oldK es last (anyLeft es seen
    (ES.leftK fst es seen since (fun k v s d => snocK seen s fun seen => Tr.putK b m (.mit p since seen t) fun m => c (.tup (.cons (.bool true) (.cons k (.cons v .nil)))) m d) d)
    (c over m d))) ob
def nxStr (b : Pos) (s : List Nat) (pos : Nat) (m : Mem) (c : SV → Mem → Prop) : Prop :=
  tlenK s 0 fun n => bK (Nat.blt pos n) (tnthK s pos fun a => bK (Nat.blt a 128) (natK (Nat.succ pos) fun q => Tr.putK b m (.sit s q) fun m => c (.tup (.cons (.bool true) (.cons (.int .i64 (.ofNat pos)) (.cons (.int .i32 (.ofNat a)) .nil)))) m) False) (c over m)
def sNxt (fst st : Bool) (x : LX) : SKL := fun fr m n d c k => evK x fr fun v => SV.onPtr (fun b o => bK (Nat.beq o 0) (Tr.getK b m fun ob => SO.onIt (fun p a s l => bK st False (nxMap fst b p a s l m (fun r m k => c r m n d k) k)) (fun s p => bK st (nxStr b s p m fun r m => c r m n d k) False) (bK st False (c over m n d k)) ob) False) v
def sMent (et : QT) (z : SV) (x k : LX) : SK := fun fr m n d c => evK x fr fun u => evK k fr fun v => SV.onMap (fun b => Tr.getK b m fun ob => SO.onMp (fun es t => keyK et v <|
  ES.findK es et v (fun old => ES.putK es et v old (fun es y s => Tr.putK b m (.mp es t) fun m => c (.tup (.cons y (.cons (.int .i64 (.ofNat s)) .nil))) m n d) False)
    (ES.endK es v z t fun es => natK (Nat.succ t) fun t' => Tr.putK b m (.mp es t') fun m => c (.tup (.cons z (.cons (.int .i64 (.ofNat t)) .nil))) m n d)) ob) u
def sMset (x s y : LX) : SK := fun fr m n d c => evK x fr fun u => evK s fr fun v => evK y fr fun w => SV.onMap (fun b => idxK v fun st => Tr.getK b m fun ob => SO.onMp (fun es t => ES.stampK es st w fun es => Tr.putK b m (.mp es t) fun m => c undef_ m n d) ob) u
def mdV (v : SV) : QT → SV → Mem → (Mem → Prop) → Prop := @SV.rec (fun _ => QT → SV → Mem → (Mem → Prop) → Prop) (fun _ => fun _ _ _ _ => False) (fun _ _ => fun _ _ _ _ => False) (fun _ => fun _ _ _ _ => False) (fun _ _ => fun _ _ _ _ => False) (fun _ _ _ _ => False) (fun _ _ _ _ => fun _ _ _ _ => False) (fun _ _ => fun _ _ _ _ => False) (fun _ _ _ _ => False) (fun b et k m c => Tr.getK b m fun ob => SO.onMp (fun es t => keyK et k <| ES.delK es et k fun es => Tr.putK b m (.mp es t) c) ob) (fun et k m c => keyK et k (c m)) (fun _ _ _ _ _ => fun _ _ _ _ => False) (fun _ => fun _ _ _ _ => False) (fun _ _ _ _ => False) (fun _ _ _ => fun _ _ _ _ => False) (fun _ _ _ _ => False) (fun _ _ => fun _ _ _ _ => False) (fun _ _ => fun _ _ _ _ => False) (fun _ _ _ _ => False) (fun _ _ _ _ => fun _ _ _ _ => False) v
def sMdel (et : QT) (x k : LX) : SK := fun fr m n d c => evK x fr fun u => evK k fr fun v => mdV u et v m fun m => c undef_ m n d
/-- A function value is called. -/
def callV (v : SV) : Cl → Rl → SV → Mem → Pos → Co → Prop → Prop := @SV.rec (fun _ => Cl → Rl → SV → Mem → Pos → Co → Prop → Prop) (fun _ => fun _ _ _ _ _ _ _ => False) (fun _ _ => fun _ _ _ _ _ _ _ => False) (fun _ => fun _ _ _ _ _ _ _ => False) (fun _ _ => fun _ _ _ _ _ _ _ => False) (fun _ _ _ _ _ _ _ => False) (fun _ _ _ _ => fun _ _ _ _ _ _ _ => False) (fun _ _ => fun _ _ _ _ _ _ _ => False) (fun _ _ _ _ _ _ _ => False) (fun _ => fun _ _ _ _ _ _ _ => False) (fun _ _ _ _ _ _ _ => False) (fun fn g q _ _ cl _ l m n c k => appK l q fun l => appK g l fun l => cl fn l m n c k) (fun b _ rl l m n c k => rl b l m n c k) (fun _ _ _ _ _ _ _ => False) (fun _ _ _ => fun _ _ _ _ _ _ _ => False) (fun _ _ _ _ _ _ _ => False) (fun _ _ => fun _ _ _ _ _ _ _ => False) (fun _ _ => fun _ _ _ _ _ _ _ => False) (fun _ _ _ _ _ _ _ => False) (fun _ _ _ _ => fun _ _ _ _ _ _ _ => False) v
def sCall (cl : Cl) (rl : Rl) (f : LX) (l : LXs) : SKL := fun fr m n d c k => evK f fr fun v => evsK l fr fun l => callV v cl rl l m n (fun r m n k => c r m n d k) k
def sRec (cx : Cx) : SK := fun _ m n d c => @Cx.rec (fun _ => Prop) (c .nili m n d) (c .nili m n d) (fun _ => False) cx
def sDfr (cx : Cx) (f : LX) (l : LXs) : SK := fun fr m n d c => evK f fr fun v => evsK l fr fun l => SV.onFunc (fun fn g q => appK l q fun l => appK g l fun l => @Cx.rec (fun _ => Prop) (c undef_ m n (.call fn l d)) (c undef_ m n (.call fn l d)) (fun _ => False) cx) v
def sK (fst : Bool) (cl : Cl) (rl : Rl) (cx : Cx) (o : LO) : SKL := @LO.rec (fun _ => SKL) (fun _ => fun _ _ _ _ _ _ => False) (fun _ _ _ => fun _ _ _ _ _ _ => False) (fun _ => fun _ _ _ _ _ _ => False) (fun _ _ _ => fun _ _ _ _ _ _ => False) (fun _ _ _ _ => fun _ _ _ _ _ _ => False) (fun _ _ => fun _ _ _ _ _ _ => False) (fun _ _ => fun _ _ _ _ _ _ => False) (fun _ => fun _ _ _ _ _ _ => False) (fun _ _ => fun _ _ _ _ _ _ => False) (fun _ _ _ => fun _ _ _ _ _ _ => False) (fun _ _ => fun _ _ _ _ _ _ => False) (fun _ _ => fun _ _ _ _ _ _ => False) (fun _ _ => fun _ _ _ _ _ _ => False) (fun _ _ _ => fun _ _ _ _ _ _ => False) (fun _ _ _ => fun _ _ _ _ _ _ => False) (fun _ _ _ _ _ => fun _ _ _ _ _ _ => False) (fun _ _ => fun _ _ _ _ _ _ => False) (fun _ => fun _ _ _ _ _ _ => False) (fun _ => fun _ _ _ _ _ _ => False) (fun _ => fun _ _ _ _ _ _ => False) (fun _ => fun _ _ _ _ _ _ => False) (fun _ _ _ => fun _ _ _ _ _ _ => False) (fun _ _ => fun _ _ _ _ _ _ => False) (fun _ _ => fun _ _ _ _ _ _ => False) (fun _ _ _ _ _ => fun _ _ _ _ _ _ => False) (fun _ _ _ _ _ => fun _ _ _ _ _ _ => False) (fun _ => fun _ _ _ _ _ _ => False) (fun _ => fun _ _ _ _ _ _ => False) (fun _ => fun _ _ _ _ _ _ => False) (fun _ => fun _ _ _ _ _ _ => False) (fun _ => fun _ _ _ _ _ _ => False) (fun _ _ _ => fun _ _ _ _ _ _ => False) (fun _ _ _ _ _ _ => False) (fun _ _ _ _ _ => fun _ _ _ _ _ _ => False) (fun _ => fun _ _ _ _ _ _ => False) (fun a b c => up (sStore a b c)) (fun a b c d => up (sMput a b c d)) (fun a b c d => up (sApp a b c d)) (fun a b c d e => up (sAppz a b c d e)) (fun a b c => up (sCpy a b c)) (fun a b c => up (sClr a b c)) (sCall cl rl) (fun a b => up (sRng a b)) (sNxt fst) (fun a b c d => up (sMent a b c d)) (fun a b c => up (sMset a b c)) (fun a b c => up (sMdel a b c)) (up (sRec cx)) (fun a b => up (sDfr cx a b)) o
def gdV (v : SV) : Bool → Prop → Prop → Prop := @SV.rec (fun _ => Bool → Prop → Prop → Prop) (fun b t on off => bK b (bK t on off) (bK t off on)) (fun _ _ => fun _ _ _ => False) (fun _ => fun _ _ _ => False) (fun _ _ => fun _ _ _ => False) (fun _ _ _ => False) (fun _ _ _ _ => fun _ _ _ => False) (fun _ _ => fun _ _ _ => False) (fun _ _ _ => False) (fun _ => fun _ _ _ => False) (fun _ _ _ => False) (fun _ _ _ _ _ => fun _ _ _ => False) (fun _ => fun _ _ _ => False) (fun _ _ _ => False) (fun _ _ _ => fun _ _ _ => False) (fun _ _ _ => False) (fun _ _ => fun _ _ _ => False) (fun _ _ _ _ off => off) (fun _ _ _ => False) (fun _ _ _ _ => fun _ _ _ => False) v
def gdK (g : Gd) (fr : Fm) (on off : Prop) : Prop := @Gd.rec (fun _ => Prop) on (fun p t => Tr.getK p fr fun v => gdV v t on off) g
def dsK (d : Ds) (fr : Fm) (v : SV) (c : Fm → Prop) : Prop := @Ds.rec (fun _ => Prop) (c fr) (fun p => Tr.putK p fr v c) d
def reK (r : Re) : Fm → Mem → Prop → Prop := @Re.rec (fun _ => Fm → Mem → Prop → Prop) (fun _ _ c => c)
  (fun g d o _ ih fr m c => gdK g fr (qK o fr m fun v => Tr.getK d fr fun u => sameK v u (ih fr m c)) (ih fr m c)) r
abbrev RK := Fm → Mem → Pos → LD → (Fm → Mem → Pos → LD → Prop → Prop) → Prop → Prop
def rkQ (g : Gd) (d : Ds) (o : LO) (ih : RK) : RK := fun fr m n ld c k => gdK g fr (qK o fr m fun v => dsK d fr v fun fr => ih fr m n ld c k) (dsK d fr undef_ fun fr => ih fr m n ld c k)
def rkA (g : Gd) (d : Ds) (o : LO) (ih : RK) : RK := fun fr m n ld c k => gdK g fr (aK o fr n fun ob v => Tr.putK n m ob fun m => Pos.succK n fun n' => dsK d fr v fun fr => ih fr m n' ld c k) (dsK d fr undef_ fun fr => ih fr m n ld c k)
abbrev Bk := Mem → (Mem → Prop) → Prop
/-- The block that a value names. -/
def nameK (v : SV) (c : Pos → Prop) (d : Prop) : Prop := @SV.rec (fun _ => Prop) (fun _ => False) (fun _ _ => False) (fun _ => False) (fun b _ => c b) (False) (fun b _ _ _ => c b) (fun _ _ => False) (False) (fun b => c b) (False) (fun _ _ _ _ _ => False) (fun _ => False) (False) (fun _ _ _ => False) (False) (fun _ _ => False) (fun _ _ => d) (False) (fun _ _ _ _ => False) v
/-- Blocks are taken out of the memory; how they come back. -/
def hideK (h : Ps) : Fm → Mem → (Mem → Bk → Prop) → Prop := @Ps.rec (fun _ => Fm → Mem → (Mem → Bk → Prop) → Prop) (fun _ m c => c m fun m c => c m)
  (fun p _ ih fr m c => Tr.getK p fr fun v => nameK v (fun q => Tr.getK q m fun ob => Tr.delK q m fun m => ih fr m fun m bk => c m fun m c => bk m fun m => Tr.putK q m ob c) (ih fr m c)) h
def rkS (fst : Bool) (cl : Cl) (rl : Rl) (cx : Cx) (g : Gd) (d : Ds) (o : LO) (re : Re) (hd : Ps) (ih : RK) : RK := fun fr m n ld c k =>
  gdK g fr (hideK hd fr m fun m bk => sK fst cl rl cx o fr m n ld (fun v m n ld k => reK re fr m (bk m fun m => dsK d fr v fun fr => ih fr m n ld c k)) k) (dsK d fr undef_ fun fr => ih fr m n ld c k)
def regK (fst : Bool) (cl : Cl) (rl : Rl) (cx : Cx) (r : LR) : RK := @LR.rec (fun _ => RK) (fun fr m n ld c k => c fr m n ld k) (fun g d o _ ih => rkQ g d o ih) (fun g d o _ ih => rkA g d o ih) (fun g d o re hd _ ih => rkS fst cl rl cx g d o re hd ih) r
/-! Control. -/
abbrev Lv := LJ → Fm → Mem → Pos → LD → Prop → Prop
abbrev ET := Cx → LT → Fm → Mem → Pos → LD → Lv → Prop → Prop
def exitK (id : Nat) (k : LT) (c : LT → Prop) (d : Prop) : Prop := @LT.rec (fun _ => Prop) d (fun _ _ ih => ih) (fun j k ih => bK (Nat.beq j id) (c k) ih) (fun _ _ ih => ih) (fun _ _ ih => ih) (fun _ _ ih => ih) (fun _ ih => ih) k
def labK (l : Nat) (x : LC) : (LC → Prop) → Prop → Prop := @LC.rec (fun _ => (LC → Prop) → Prop → Prop) (fun _ d => d) (fun _ _ d => d) (fun _ b iha ihb c d => iha (fun r => c (.seq r b)) (ihb c d))
  (fun _ _ _ _ _ _ d => d) (fun _ _ _ _ d => d) (fun _ _ _ d => d) (fun _ _ _ _ _ _ _ d => d) (fun _ _ d => d) (fun _ _ _ d => d) (fun j c d => bK (Nat.beq j l) (c .skip) d) (fun _ _ d => d) (fun _ d => d) (fun _ d => d) x
def gotoK (l : Nat) (k : LT) (c : LT → Prop) (d : Prop) : Prop := @LT.rec (fun _ => Prop) d (fun _ _ ih => ih) (fun _ _ ih => ih) (fun _ _ ih => ih) (fun b k ih => labK l b (fun r => c (.code r (.scp b k))) ih) (fun _ _ ih => ih) (fun _ ih => ih) k
def psK (ps : Ps) : SV → Fm → (Fm → Prop) → Prop := @Ps.rec (fun _ => SV → Fm → (Fm → Prop) → Prop) (fun l fr c => SV.onNil (c fr) l) (fun p _ ih l fr c => SV.onCons (fun h t => Tr.putK p fr h fun fr => ih t fr c) l) ps
/-- Arguments fill the first temporaries; there may be more of these. -/
def entK (ps : Ps) : SV → Fm → (Fm → Prop) → Prop := @Ps.rec (fun _ => SV → Fm → (Fm → Prop) → Prop) (fun l fr c => SV.onNil (c fr) l)
  (fun p _ ih l fr c => @SV.rec (fun _ => Prop) (fun _ => False) (fun _ _ => False) (fun _ => False) (fun _ _ => False) (False) (fun _ _ _ _ => False) (fun _ _ => False) (False) (fun _ => False) (False) (fun _ _ _ _ _ => False) (fun _ => False) (False) (fun _ _ _ => False) (False) (fun _ _ => False) (fun _ _ => False) (c fr) (fun h t _ _ => Tr.putK p fr h fun fr => ih t fr c) l) ps
def retK (j : LJ) (c : Prop) : Prop := @LJ.rec (fun _ => Prop) c c (fun _ => False) (fun _ => False) j
/-- One result stands alone, several ones are a tuple. -/
def oneRes (l : SV) : (SV → Prop) → Prop := @SV.rec (fun _ => (SV → Prop) → Prop) (fun _ => fun _ => False) (fun _ _ => fun _ => False) (fun _ => fun _ => False) (fun _ _ => fun _ => False) (fun _ => False) (fun _ _ _ _ => fun _ => False) (fun _ _ => fun _ => False) (fun _ => False) (fun _ => fun _ => False) (fun _ => False) (fun _ _ _ _ _ => fun _ => False) (fun _ => fun _ => False) (fun _ => False) (fun _ _ _ => fun _ => False) (fun _ => False) (fun _ _ => fun _ => False) (fun _ _ => fun _ => False) (fun c => c (.tup .nil)) (fun h t _ _ c => @SV.rec (fun _ => Prop) (fun _ => False) (fun _ _ => False) (fun _ => False) (fun _ _ => False) (False) (fun _ _ _ _ => False) (fun _ _ => False) (False) (fun _ => False) (False) (fun _ _ _ _ _ => False) (fun _ => False) (False) (fun _ _ _ => False) (False) (fun _ _ => False) (fun _ _ => False) (c h) (fun u v _ _ => c (.tup (.cons h (.cons u v)))) t) l
def resK (r : RS) : Fm → Mem → (SV → Prop) → Prop := @RS.rec (fun _ => Fm → Mem → (SV → Prop) → Prop) (fun _ _ c => c .nil)
  (fun p _ ih fr m c => Tr.getK p fr fun v => ih fr m fun l => c (.cons v l))
  (fun p rd _ ih fr m c => qLoad rd (.tmp p) fr m fun v => ih fr m fun l => c (.cons v l)) r
/-- A function is entered and runs to its end. -/
def body (ev : ET) (cx : Cx) (f : LF) (l : SV) (m : Mem) (n : Pos) (c : Fm → Mem → Pos → LD → Prop → Prop) (k : Prop) : Prop :=
  @LF.rec (fun _ => Prop) (fun ps _ code => entK ps l .leaf fun fr => ev cx (.code code .nil) fr m n .nil (fun j fr m n ld k => retK j (c fr m n ld k)) k) f
def noLD (ld : LD) (c : Prop) : Prop := @LD.rec (fun _ => Prop) c (fun _ _ _ => False) (fun _ _ _ _ => False) ld
/-- The deferred calls of a frame that returns. -/
def unwK (P : Program) (low : Program → Nat → Option LF) (ev : ET) (ld : LD) : Mem → Pos → (Mem → Pos → Prop → Prop) → Prop → Prop := @LD.rec (fun _ => Mem → Pos → (Mem → Pos → Prop → Prop) → Prop → Prop)
  (fun m n c k => c m n k)
  (fun b _ ih m n c k => Tr.getK b m fun ob => SO.onDefd (fun l => noLD l (Tr.putK b m .gone fun m => ih m n c k)) ob)
  (fun fn l _ ih m n c k => @Option.rec LF (fun _ => Prop) False (fun f => body ev .dfr f l m n (fun fr m n ld k => noLD ld (@LF.rec (fun _ => Prop) (fun _ rs _ => resK rs fr m fun _ => ih m n c k) f)) k) (low P fn)) ld
def callF (P : Program) (low : Program → Nat → Option LF) (ev : ET) : Cl := fun fn l m n c k =>
  @Option.rec LF (fun _ => Prop) False (fun f => body ev .plain f l m n (fun fr m n ld k => unwK P low ev ld m n (fun m n k => @LF.rec (fun _ => Prop) (fun _ rs _ => resK rs fr m fun l => oneRes l fun v => c v m n k) f) k) k) (low P fn)
def doneK (j : LJ) (c : Bool → LS → Prop) : Prop := @LJ.rec (fun _ => Prop) (c true .ready) (c false .done) (fun _ => c false .done) (fun _ => c false .done) j
def roundF (ev : ET) : Rl := fun b l m n c k => Tr.getK b m fun ob => SO.onLoop (fun _ _ fr ps x y => psK ps l fr fun fr =>
  ev (.round b) (.code x (.beg (.code y .nil))) fr m n .nil (fun j _ m n ld k => noLD ld (Tr.getK b m fun ob => SO.onLoop (fun _ _ fr ps x y => doneK j fun t st => Tr.putK b m (.loop st j fr ps x y) fun m => c (.bool t) m n k) ob)) k) ob
abbrev St := Fm → Mem → Pos → LD → Lv → Prop → Prop
def cReg (fst : Bool) (cl : Cl) (rl : Rl) (ev : ET) (cx : Cx) (t : LT) (r : LR) : St := fun fr m n ld lv k => regK fst cl rl cx r fr m n ld (fun fr m n ld k => ev cx t fr m n ld lv k) k
def cCond (ev : ET) (cx : Cx) (t : LT) (x : LX) (a b : LC) : St := fun fr m n ld lv k => evK x fr fun v => SV.onBool (fun q => bK q (ev cx (.code a t) fr m n ld lv k) (ev cx (.code b t) fr m n ld lv k)) v
def cExit (ev : ET) (cx : Cx) (t : LT) (id : Nat) : St := fun fr m n ld lv k => exitK id t (fun t => ev cx t fr m n ld lv k) (lv (.exit id) fr m n ld k)
def cGoto (ev : ET) (cx : Cx) (t : LT) (id : Nat) : St := fun fr m n ld lv k => gotoK id t (fun t => ev cx t fr m n ld lv k) (lv (.goto id) fr m n ld k)
def cRf (cl : Cl) (rl : Rl) (ev : ET) (cx : Cx) (t : LT) (f : LX) (ps : Ps) (a b : LC) : St := fun fr m n ld lv k =>
  @Cx.rec (fun _ => Prop) (evK f fr fun v => Tr.putK n m (.defd .nil) fun m => Pos.succK n fun n1 => Tr.putK n1 m (.loop .ready .no fr ps a b) fun m => Pos.succK n1 fun n2 => callV v cl (fun _ _ _ _ _ _ => False) (.cons (.yld n1) .nil) m n2 (fun _ m n3 k => ev cx (.erf n1 t) fr m n3 (.coll n ld) lv k) k) False (fun _ => False) cx
def itCode (fst : Bool) (cl : Cl) (rl : Rl) (ev : ET) (cx : Cx) (t : LT) (x : LC) : St := @LC.rec (fun _ => St) (ev cx t) (fun r => cReg fst cl rl ev cx t r) (fun a b _ _ => ev cx (.code a (.code b t))) (fun x a b _ _ => cCond ev cx t x a b)
  (fun id b _ => ev cx (.code b (.blk id t))) (fun b _ => ev cx (.code b (.lp b t))) (fun f ps a b _ _ => cRf cl rl ev cx t f ps a b) (fun id => cExit ev cx t id) (fun b _ => ev cx (.code b (.scp b t))) (fun _ => ev cx t) (fun l => cGoto ev cx t l)
  (fun fr m n ld lv k => lv .ret fr m n ld k) (fun _ _ _ _ _ _ => False) x
def pendK (ev : ET) (cx : Cx) (t : LT) (j : LJ) : St := @LJ.rec (fun _ => St) (ev cx t) (ev cx (.code .ret t)) (fun id => ev cx (.code (.exit id) t)) (fun l => ev cx (.code (.goto l) t)) j
def notBusy (s : LS) (c : Prop) : Prop := @LS.rec (fun _ => Prop) c False c c s
def isReady (s : LS) (c : Prop) : Prop := @LS.rec (fun _ => Prop) c False False False s
def itErf (ev : ET) (cx : Cx) (b : Pos) (t : LT) : St := fun fr m n ld lv k => Tr.getK b m fun ob => SO.onLoop (fun s j f ps x y => notBusy s (Tr.putK b m (.loop .gone j f ps x y) fun m => pendK ev cx t j fr m n ld lv k)) ob
def itBeg (ev : ET) (cx : Cx) (t : LT) : St := fun fr m n ld lv k => @Cx.rec (fun _ => Prop) False False (fun b => Tr.getK b m fun ob => SO.onLoop (fun s j f ps x y => isReady s (Tr.putK b m (.loop .busy j f ps x y) fun m => ev cx t fr m n ld lv k)) ob) cx
def stepT (fst : Bool) (cl : Cl) (rl : Rl) (ev : ET) : ET := fun cx t => @LT.rec (fun _ => St) (fun fr m n ld lv k => lv .no fr m n ld k) (fun x t _ => itCode fst cl rl ev cx t x) (fun _ t _ => ev cx t) (fun b t _ => ev cx (.code b (.lp b t))) (fun _ t _ => ev cx t) (fun b t _ => itErf ev cx b t) (fun t _ => itBeg ev cx t) t
/-! Calls of functions that go over a map in any order: they are run in one order for their result, and then in all orders, from the memory that they reach alone. -/
abbrev Vis := Pos → Mem → (Mem → Prop) → Prop
/-- What a value reaches is taken over into r. -/
def reachV (v : SV) : Vis → Mem → (Mem → Prop) → Prop := @SV.rec (fun _ => Vis → Mem → (Mem → Prop) → Prop) (fun _ => fun _ r c => c r) (fun _ _ => fun _ r c => c r) (fun _ => fun _ r c => c r) (fun b _ vis r c => vis b r c) (fun _ r c => c r) (fun b _ _ _ vis r c => vis b r c) (fun b _ vis r c => vis b r c) (fun _ r c => c r) (fun b vis r c => vis b r c) (fun _ r c => c r) (fun _ _ _ ihf ihc vis r c => ihf vis r fun r => ihc vis r c) (fun b vis r c => vis b r c) (fun _ r c => c r) (fun _ _ ih vis r c => ih vis r c) (fun _ r c => c r) (fun _ ih vis r c => ih vis r c) (fun _ ih vis r c => ih vis r c) (fun _ r c => c r) (fun _ _ ihh iht vis r c => ihh vis r fun r => iht vis r c) v
def reachE (es : ES) : Vis → Mem → (Mem → Prop) → Prop := @ES.rec (fun _ => Vis → Mem → (Mem → Prop) → Prop) (fun _ r c => c r) (fun k v _ _ ih vis r c => reachV k vis r fun r => reachV v vis r fun r => ih vis r c) es
def reachO (o : SO) : Vis → Mem → (Mem → Prop) → Prop := @SO.rec (fun _ => Vis → Mem → (Mem → Prop) → Prop) (fun l => reachV l) (fun l _ => reachV l) (fun es _ => reachE es) (fun p _ _ _ vis r c => vis p r c) (fun _ r c => c r) (fun _ _ _ r c => c r) (fun _ _ _ _ _ _ _ r c => c r) (fun _ _ r c => c r) (fun _ r c => c r) o
def Tr.ifK {α : Type} (p : Pos) : Tr α → (α → Prop) → Prop → Prop := @Pos.rec (fun _ => Tr α → (α → Prop) → Prop → Prop)
  (fun t c d => @Tr.rec α (fun _ => Prop) d (fun _ _ _ _ => d) (fun _ v _ _ _ => c v) t)
  (fun _ ih t c d => @Tr.rec α (fun _ => Prop) d (fun l _ _ _ => ih l c d) (fun l _ _ _ _ => ih l c d) t)
  (fun _ ih t c d => @Tr.rec α (fun _ => Prop) d (fun _ r _ _ => ih r c d) (fun _ _ r _ _ => ih r c d) t) p
def visK (m : Mem) (fuel : Nat) : Vis := @Nat.rec (fun _ => Vis) (fun _ _ _ => False) (fun _ ih b r c => Tr.ifK b r (fun _ => c r) (Tr.ifK b m (fun ob => Tr.putK b r ob fun r => reachO ob ih r c) (c r))) fuel
def minusK (r : Mem) : Mem → (Mem → Prop) → Prop := @Tr.rec SO (fun _ => Mem → (Mem → Prop) → Prop) (fun m c => c m)
  (fun _ _ ihl ihr m c => @Tr.rec SO (fun _ => Prop) (c .leaf) (fun l r _ _ => ihl l fun l => ihr r fun r => c (.nodeN l r)) (fun l v r _ _ => ihl l fun l => ihr r fun r => c (.nodeS l v r)) m)
  (fun _ _ _ ihl ihr m c => @Tr.rec SO (fun _ => Prop) (c .leaf) (fun l r _ _ => ihl l fun l => ihr r fun r => c (.nodeN l r)) (fun l _ r _ _ => ihl l fun l => ihr r fun r => c (.nodeN l r)) m) r
def plusK (r : Mem) : Mem → (Mem → Prop) → Prop := @Tr.rec SO (fun _ => Mem → (Mem → Prop) → Prop) (fun m c => c m)
  (fun _ _ ihl ihr m c => @Tr.rec SO (fun _ => Prop) (ihl .leaf fun l => ihr .leaf fun r => c (.nodeN l r)) (fun l r _ _ => ihl l fun l => ihr r fun r => c (.nodeN l r)) (fun l v r _ _ => ihl l fun l => ihr r fun r => c (.nodeS l v r)) m)
  (fun _ x _ ihl ihr m c => @Tr.rec SO (fun _ => Prop) (ihl .leaf fun l => ihr .leaf fun r => c (.nodeS l x r)) (fun l r _ _ => ihl l fun l => ihr r fun r => c (.nodeS l x r)) (fun l _ r _ _ => ihl l fun l => ihr r fun r => c (.nodeS l x r)) m) r
/-- Two values under names are gone through side by side: which name stands for which. -/
abbrev Gu := Pos → Pos → Tr Pos → (Tr Pos → Prop) → Prop
def gueV (a : SV) : SV → Gu → Tr Pos → (Tr Pos → Prop) → Prop := @SV.rec (fun _ => SV → Gu → Tr Pos → (Tr Pos → Prop) → Prop) (fun _ => fun _ _ t c => c t) (fun _ _ => fun _ _ t c => c t) (fun _ => fun _ _ t c => c t) (fun p _ b g t c => SV.onPtr (fun q _ => g p q t c) b) (fun _ _ t c => c t) (fun p _ _ _ b g t c => SV.onSlice (fun q _ _ _ => g p q t c) b) (fun p _ b g t c => @SV.rec (fun _ => Prop) (fun _ => False) (fun _ _ => False) (fun _ => False) (fun _ _ => False) (False) (fun _ _ _ _ => False) (fun q _ => g p q t c) (False) (fun _ => False) (False) (fun _ _ _ _ _ => False) (fun _ => False) (False) (fun _ _ _ => False) (False) (fun _ _ => False) (fun _ _ => False) (False) (fun _ _ _ _ => False) b) (fun _ _ t c => c t) (fun p b g t c => SV.onMap (fun q => g p q t c) b) (fun _ _ t c => c t) (fun _ _ _ ihf ihc b g t c => SV.onFunc (fun _ f d => ihf f g t fun t => ihc d g t c) b) (fun p b g t c => SV.onYld (fun q => g p q t c) b) (fun _ _ t c => c t) (fun _ _ ih b g t c => SV.onIface (fun _ v => ih v g t c) b) (fun _ _ t c => c t) (fun _ ih b g t c => SV.onAgg (fun v => ih v g t c) b) (fun _ ih b g t c => SV.onTup (fun v => ih v g t c) b) (fun _ _ t c => c t) (fun _ _ ihh iht b g t c => SV.onCons (fun h l => ihh h g t fun t => iht l g t c) b) a
def gueE (es : ES) : ES → Gu → Tr Pos → (Tr Pos → Prop) → Prop := @ES.rec (fun _ => ES → Gu → Tr Pos → (Tr Pos → Prop) → Prop) (fun _ _ t c => c t)
  (fun k v _ _ ih fs g t c => @ES.rec (fun _ => Prop) False (fun k' v' _ r' _ => gueV k k' g t fun t => gueV v v' g t fun t => ih r' g t c) fs) es
def gueO (o : SO) : SO → Gu → Tr Pos → (Tr Pos → Prop) → Prop := @SO.rec (fun _ => SO → Gu → Tr Pos → (Tr Pos → Prop) → Prop)
  (fun l p g t c => SO.onSet (fun l' _ => gueV l l' g t c) p) (fun l _ p g t c => SO.onSet (fun l' _ => gueV l l' g t c) p) (fun es _ p g t c => SO.onMp (fun es' _ => gueE es es' g t c) p)
  (fun _ _ _ _ _ _ t c => c t) (fun _ _ t c => c t) (fun _ _ _ _ t c => c t) (fun _ _ _ _ _ _ _ _ t c => c t) (fun _ _ _ t c => c t) (fun _ _ t c => c t) o
def gueN (r0 r1 : Mem) (fuel : Nat) : Gu := @Nat.rec (fun _ => Gu) (fun _ _ _ _ => False) (fun _ ih p q t c => Tr.ifK p t (fun _ => c t) (Tr.putK p t q fun t => Tr.ifK p r0 (fun o => Tr.ifK q r1 (fun o' => gueO o o' ih t c) (c t)) (c t))) fuel
/-- One name stands for another. -/
def nmK (t : Tr Pos) (p q : Pos) (c : Prop) : Prop := Tr.getK p t fun u => posK u q c
def vrfV (t : Tr Pos) (a : SV) : SV → Prop → Prop := @SV.rec (fun _ => SV → Prop → Prop) (fun a b c => SV.onBool (fun b => bK a (bK b c False) (bK b False c)) b) (fun k a b c => SV.onInt (fun j b => kK k j (eqK a b fun r => bK r c False)) b) (fun a b c => SV.onStr (fun b => teqK a b fun r => bK r c False) b) (fun p o b c => SV.onPtr (fun q u => nmK t p q (bK (Nat.beq o u) c False)) b) (fun b c => SV.onNilp0 c b) (fun p o n a b c => SV.onSlice (fun q u m d => nmK t p q (bK (Nat.beq o u) (bK (Nat.beq n m) (capK a d c) False) False)) b) (fun p i b c => @SV.rec (fun _ => Prop) (fun _ => False) (fun _ _ => False) (fun _ => False) (fun _ _ => False) (False) (fun _ _ _ _ => False) (fun q j => nmK t p q (bK (Nat.beq i j) c False)) (False) (fun _ => False) (False) (fun _ _ _ _ _ => False) (fun _ => False) (False) (fun _ _ _ => False) (False) (fun _ _ => False) (fun _ _ => False) (False) (fun _ _ _ _ => False) b) (fun b c => SV.onNils0 c b) (fun p b c => SV.onMap (fun q => nmK t p q c) b) (fun b c => SV.onNilm0 c b) (fun n _ _ ihg ihq b c => SV.onFunc (fun m g q => bK (Nat.beq n m) (ihg g (ihq q c)) False) b) (fun p b c => SV.onYld (fun q => nmK t p q c) b) (fun b c => SV.onNilf0 c b) (fun n _ ih b c => SV.onIface (fun m v => bK (Nat.beq n m) (ih v c) False) b) (fun b c => SV.onNili0 c b) (fun _ ih b c => SV.onAgg (fun m => ih m c) b) (fun _ ih b c => SV.onTup (fun m => ih m c) b) (fun b c => SV.onNil c b) (fun _ _ ihh iht b c => SV.onCons (fun h t => ihh h (iht t c)) b) a
def vrfE (t : Tr Pos) (es : ES) : ES → Prop → Prop := @ES.rec (fun _ => ES → Prop → Prop) (fun fs c => @ES.rec (fun _ => Prop) c (fun _ _ _ _ _ => False) fs)
  (fun k v b _ ih fs c => @ES.rec (fun _ => Prop) False (fun k' v' b' r' _ => vrfV t k k' (vrfV t v v' (bK (Nat.beq b b') (ih r' c) False))) fs) es
def vrfO (t : Tr Pos) (o : SO) : SO → Prop → Prop := @SO.rec (fun _ => SO → Prop → Prop)
  (fun l p c => @SO.rec (fun _ => Prop) (fun l' => vrfV t l l' c) (fun _ _ => False) (fun _ _ => False) (fun _ _ _ _ => False) False (fun _ _ => False) (fun _ _ _ _ _ _ => False) (fun _ => False) False p)
  (fun l z p c => @SO.rec (fun _ => Prop) (fun _ => False) (fun l' z' => vrfV t l l' (bK (Nat.beq z z') c False)) (fun _ _ => False) (fun _ _ _ _ => False) False (fun _ _ => False) (fun _ _ _ _ _ _ => False) (fun _ => False) False p)
  (fun es s p c => @SO.rec (fun _ => Prop) (fun _ => False) (fun _ _ => False) (fun es' s' => vrfE t es es' (bK (Nat.beq s s') c False)) (fun _ _ _ _ => False) False (fun _ _ => False) (fun _ _ _ _ _ _ => False) (fun _ => False) False p)
  (fun _ _ _ _ _ _ => False) (fun _ _ => False) (fun _ _ _ _ => False) (fun _ _ _ _ _ _ _ _ => False) (fun _ _ _ => False) (fun _ _ => False) o
/-- The blocks of r0 are those of r1 under the names of t; s is t from here on. -/
def vrfM (t : Tr Pos) (r1 : Mem) (r0 : Mem) : Tr Pos → Prop → Prop := @Tr.rec SO (fun _ => Tr Pos → Prop → Prop) (fun _ c => c)
  (fun _ _ ihl ihr s c => @Tr.rec Pos (fun _ => Prop) (ihl .leaf (ihr .leaf c)) (fun l r _ _ => ihl l (ihr r c)) (fun l _ r _ _ => ihl l (ihr r c)) s)
  (fun _ o _ ihl ihr s c => @Tr.rec Pos (fun _ => Prop) False (fun _ _ _ _ => False) (fun l q r _ _ => Tr.getK q r1 fun o' => vrfO t o o' (ihl l (ihr r c))) s) r0
def posN (p : Pos) : (Nat → Prop) → Prop := @Pos.rec (fun _ => (Nat → Prop) → Prop) (fun c => c 0) (fun _ ih c => ih fun x => natK (Nat.succ (Nat.mul 2 x)) c) (fun _ ih c => ih fun x => natK (Nat.succ (Nat.succ (Nat.mul 2 x))) c) p
def oldP (n n' : Nat) (p q : Pos) (c : Prop) : Prop := posN p fun x => posN q fun y => bK (Nat.blt x n') (bK (Nat.beq x y) c (bK (Nat.ble n x) c False)) False
/-- No two names stand for one; a name below n stands for itself; all are below n'. -/
def vrfP (n n' : Nat) (s : Tr Pos) : (Pos → Pos) → Tr Pos → (Tr Pos → Prop) → Prop := @Tr.rec Pos (fun _ => (Pos → Pos) → Tr Pos → (Tr Pos → Prop) → Prop) (fun _ u c => c u)
  (fun _ _ ihl ihr f u c => ihl (fun p => f (.l p)) u fun u => ihr (fun p => f (.r p)) u c)
  (fun _ q _ ihl ihr f u c => Tr.ifK q u (fun _ => False) (Tr.putK q u q fun u => oldP n n' (f .e) q (ihl (fun p => f (.l p)) u fun u => ihr (fun p => f (.r p)) u c))) s
/-- A name far behind another. -/
def jumpK (p : Pos) : Nat → (Pos → Prop) → Prop := @Pos.rec (fun _ => Nat → (Pos → Prop) → Prop) (fun j c => @Nat.rec (fun _ => (Pos → Prop) → Prop) (fun c => c (.l .e)) (fun _ ih c => ih fun p => c (.l p)) j c)
  (fun p ih j c => @Nat.rec (fun _ => Prop) (Pos.succK (.l p) c) (fun j _ => ih j fun p => c (.l p)) j) (fun p ih j c => @Nat.rec (fun _ => Prop) (Pos.succK (.r p) c) (fun j _ => ih j fun p => c (.r p)) j) p
def farN : Nat := 1000000
def detC (runF runA : Cl) : Cl := fun fn l m n c k =>
  reachV l (visK m farN) .leaf fun r => runF fn l r n (fun v0 r0 n0 _ =>
    reachV (.cons v0 l) (visK r0 farN) .leaf fun r0' => jumpK n0 10 fun n' => posN n' fun x' => posN n fun x => bK (Nat.ble x x')
      (runA fn l r n (fun v r1 _ k => gueV (.cons v0 l) (.cons v l) (gueN r0' r1 farN) .leaf fun t => vrfV t v0 v (vrfP x x' t (fun p => p) .leaf fun _ => vrfM t r1 r0' t k))
        (minusK r m fun m => plusK r0' m fun m => c v0 m n' k)) False) False
def callD (P : Program) (low : Program → Nat → Option LF) (dets : List Nat) (ev : Bool → ET) (fst : Bool) : Cl := fun fn l m n c k =>
  bK fst (callF P low (ev true) fn l m n c k) (memK dets fn (detC (callF P low (ev true)) (callF P low (ev false)) fn l m n c k) (callF P low (ev false) fn l m n c k))
def evalT (P : Program) (low : Program → Nat → Option LF) (dets : List Nat) (fuel : Nat) : Bool → ET := @Nat.rec (fun _ => Bool → ET) (fun _ _ _ _ _ _ _ _ _ => False) (fun _ ih fst => stepT fst (callD P low dets ih fst) (roundF (ih fst)) (ih fst)) fuel
def runC (P : Program) (low : Program → Nat → Option LF) (dets : List Nat) (fuel : Nat) : Cl := callD P low dets (evalT P low dets fuel) false
/-! Lowering. -/
def ofVs (f : Value → Option SV) : List Value → Option SV
  | [] => some .nil
  | v :: r => match f v, ofVs f r with
    | some x, some y => some (.cons x y)
    | _, _ => none
/-- A constant. -/
def ofV : Nat → Value → Option SV
  | 0, _ => none
  | n + 1, v => match v with
    | .bool b => some (.bool b)
    | .int k i => some (.int k i)
    | .string s => some (.str (s.data.toList.map UInt8.toNat))
    | .pointer none => some .nilp
    | .slice none 0 0 => some .nils
    | .map none => some .nilm
    | .nilFunc => some .nilf
    | .nilIface => some .nili
    | .agg cs => (ofVs (ofV n) cs.toList).map .agg
    | .tuple cs => (ofVs (ofV n) cs.toList).map .tup
    | .iface t v => (ofV n v).map (.iface t)
    | .func (.func f) l c => match ofVs (ofV n) l.toList, ofVs (ofV n) c.toList with
      | some x, some y => some (.func f x y)
      | _, _ => none
    | _ => none
def lowX : Operand → Option LX
  | .tmp t => some (.tmp (Pos.of t))
  | .const v => (ofV 3 v).map .const
  | .func f => some (.const (.func f .nil .nil))
  | .global _ => none
def lowXs : List Operand → Option LXs
  | [] => some .nil
  | x :: r => match lowX x, lowXs r with
    | some y, some l => some (.cons y l)
    | _, _ => none
def lowOX : Option Operand → Option OX
  | none => some .no
  | some x => (lowX x).map .yes
section
variable (P : Program)
def szT (t : TypeId) : Option Nat := (P.info? t).map (·.size)
def byT (t : TypeId) : Option Nat := (P.info? t).map (·.bytes)
def rdT (t : TypeId) : Option Rd :=
  match P.underlying t with
  | some (.struct _) | some (.array _ _) => (szT P t).map .many
  | some _ => some .one
  | none => none
/-- The cells of a type's zero value. -/
def zcT (t : TypeId) : Option SV :=
  match P.info? t with
  | some i => match i.zero with
    | some v => if v.cells.size = i.size then ofVs (ofV 3) v.cells.toList else none
    | none => none
  | none => none
def zvT (t : TypeId) : Option SV :=
  match P.info? t with
  | some { zero := some v, .. } => ofV 3 v
  | _ => none
def rep : Nat → SV → SV
  | 0, _ => .nil
  | n + 1, z => app z (rep n z)
where app : SV → SV → SV
  | .cons h t, x => .cons h (app t x)
  | _, x => x
def lowPs (place : Nat → Option (Nat × Nat)) : List (Nat × Operand) → Option LPs
  | [] => some .nil
  | (i, x) :: r => match place i, lowX x, lowPs place r with
    | some (o, k), some y, some l => some (.cons o k y l)
    | _, _, _ => none
def isC : Operand → Bool
  | .const _ => true
  | _ => false
def etFs (f : TypeId → Option QT) : List Field → Option QT
  | [] => some .nil
  | x :: r => if x.name == "_" then none else match rdT P x.type, f x.type, etFs f r with
    | some rd, some e, some q => some (.fld x.offset rd e q)
    | _, _, _ => none
/-- How values of a type without addresses are compared. -/
def etT : Nat → TypeId → Option QT
  | 0, _ => none
  | n + 1, t => match P.underlying t with
    | some .bool => some .scb
    | some (.int _) => some .sci
    | some .string => some .sct
    | some (.struct fs) => if P.stoodInHeld t then none else etFs P (etT n) fs.toList
    | some (.array k e) => match szT P e, rdT P e, etT n e with
      | some z, some rd, some q => some (.ar k z rd q)
      | _, _, _ => none
    | _ => none
def lowEq (t : TypeId) (x y : Operand) : Option QT :=
  match P.underlying t with
  | some (.pointer _) => some .nlp
  | some (.slice _) => some .nls
  | some (.map _ _) => some .nlm
  | some (.func _ _ _) => some .nlf
  | some (.interface _) => if isC x || isC y then some .nli else none
  | some .bool => some .scb
  | some (.struct _) | some (.array _ _) => if P.eqGuardType P.depth t then none else etT P 5 t
  | _ => none
def lowBin (f : BinOp) (t : TypeId) (x y : Operand) (a b : LX) : Option LO :=
  match P.underlying t with
  | some (.int _) | some .string => some (.bin f a b)
  | _ => match f with
    | .eql => (lowEq P t x y).map fun e => .eq e false a b
    | .neq => (lowEq P t x y).map fun e => .eq e true a b
    | _ => none
def keyT (t : TypeId) : Option QT :=
  match P.underlying t with
  | some (.map k _) => etT P 5 k
  | _ => none
def elT (t : TypeId) : Option TypeId :=
  match P.underlying t with
  | some (.slice e) => some e
  | _ => none
def valT (t : TypeId) : Option TypeId :=
  match P.underlying t with
  | some (.map _ e) => some e
  | _ => none
def lowApp (t u : TypeId) (a b : LX) : Option LO :=
  match elT P t with
  | some e => match szT P e, byT P e, P.underlying u with
    | some z, some k, some (.int _) => if k = 0 || z = 0 then none else (zcT P e).map fun zc => .appz z k zc a b
    | some z, some k, some _ => if k = 0 || z = 0 || (zcT P e).isNone then none else some (.app z k a b)
    | _, _, _ => none
  | none => none
def lowLen (t : TypeId) (a : LX) : Option LO :=
  match P.underlying t with
  | some .string => some (.lent a)
  | some (.slice _) => some (.lens a)
  | some (.map _ _) => some (.lenm a)
  | some (.array n _) => some (.lenc n)
  | some (.pointer e) => match P.underlying e with
    | some (.array n _) => some (.lenc n)
    | _ => none
  | _ => none
def lowCall (c : Call) : Option LO :=
  match c.callee with
  | .value f => match lowX f, lowXs c.args.toList with
    | some x, some l => some (.call x l)
    | _, _ => none
  | .invoke _ _ => none
  | .builtin b => match b, c.args.toList, c.argTypes.toList with
    | .len, [x], [t] => (lowX x).bind (lowLen P t)
    | .cap, [x], [t] => match P.underlying t with
      | some (.slice _) => (lowX x).map .capv
      | _ => none
    | .max, [x, y], _ => match lowX x, lowX y with
      | some a, some b => some (.mm true a b)
      | _, _ => none
    | .min, [x, y], _ => match lowX x, lowX y with
      | some a, some b => some (.mm false a b)
      | _, _ => none
    | .append, [x, y], [t, u] => match lowX x, lowX y with
      | some a, some b => lowApp P t u a b
      | _, _ => none
    | .copy, [x, y], t :: _ => match lowX x, lowX y, (elT P t).bind (szT P) with
      | some a, some b, some z => some (.cpy z a b)
      | _, _, _ => none
    | .clear, [x], t :: _ => match lowX x, elT P t, (elT P t).bind (szT P), (elT P t).bind (zcT P) with
      | some a, some _, some z, some zc => some (.clr z zc a)
      | _, _, _, _ => none
    | .delete, [x, y], t :: _ => match lowX x, lowX y with
      | some a, some b => (keyT P t).map fun e => .mdel e a b
      | _, _ => none
    | .recover, [], _ => some .rec_
    | _, _, _ => none
def lowConv (s d : TypeId) (a : LX) : Option LO :=
  match P.underlying s, P.underlying d with
  | some (.int _), some (.int k) => some (.conv k a)
  | some .string, some .string => some (.sid a)
  | some .string, some (.slice e) => match P.underlying e with
    | some (.int .u8) => if szT P e = some 1 then some (.byts a) else none
    | _ => none
  | some (.slice e), some .string => match P.underlying e with
    | some (.int .u8) => some (.txt a)
    | _ => none
  | _, _ => none
def fldT (s : TypeId) (i : Nat) : Option Field :=
  match P.underlying s with
  | some (.struct fs) => fs[i]?
  | _ => none
def lowO (o : Op) : Option LO :=
  match o with
  | .move x | .assign x => (lowX x).map .mv
  | .pick c x y => match lowX c, lowX x, lowX y with
    | some a, some b, some d => some (.pick a b d)
    | _, _, _ => none
  | .alloc t => (zcT P t).map .alloc
  | .box _ x => (lowX x).map .box
  | .build t ps => match P.underlying t, zcT P t with
    | some (.struct fs), some z => match fs.toList.mapM (fun f => (P.info? f.type).map fun i => (f.offset, i.size)) with
      | some pl => (lowPs (fun i => pl.toArray[i]?) ps.toList).map (.build z)
      | none => none
    | some (.array _ e), some z => match szT P e with
      | some k => (lowPs (fun i => some (i * k, k)) ps.toList).map (.build z)
      | none => none
    | _, _ => none
  | .buildSlice t n ps => match elT P t with
    | some e => match szT P e, zcT P e with
      | some k, some z => if n * k > 2 ^ 24 then none else (lowPs (fun i => some (i * k, k)) ps.toList).map (.bsl n (rep n z))
      | _, _ => none
    | none => none
  | .load t x => match rdT P t, lowX x with
    | some r, some a => some (.load r a)
    | _, _ => none
  | .store t x y => match szT P t, lowX x, lowX y with
    | some k, some a, some b => some (.store k a b)
    | _, _, _ => none
  | .nilCheck x => (lowX x).map .chk
  | .binOp f t x y _ => match lowX x, lowX y with
    | some a, some b => lowBin P f t x y a b
    | _, _ => none
  | .unOp f _ x => (lowX x).map (.un f)
  | .convert s d x => (lowX x).bind (lowConv P s d)
  | .sliceToArrayPointer t x => match P.underlying t, lowX x with
    | some (.array n _), some a => some (.arr n a)
    | _, _ => none
  | .makeInterface t x => match P.underlying t with
    | some (.interface _) => none
    | some _ => (lowX x).map (.ifc t)
    | none => none
  | .makeFunc (.func f) l c => match lowXs l.toList, lowXs c.toList with
    | some x, some y => some (.fun_ f x y)
    | _, _ => none
  | .makeMap _ none => some .mkm
  | .makeSlice t x y => match elT P t with
    | some e => match szT P e, byT P e, zcT P e, lowX x, lowX y with
      | some z, some b, some zc, some a, some q => if b = 0 then none else some (.mks z b zc a q)
      | _, _, _, _, _ => none
    | none => none
  | .slice t x lo hi mx => if mx.isSome && hi.isNone then none else match lowX x, lowOX lo, lowOX hi, lowOX mx, P.underlying t with
    | some a, some l, some h, some m, some .string => some (.slc .str a l h m)
    | some a, some l, some h, some m, some (.slice e) => (szT P e).map fun z => .slc (.sl z) a l h m
    | some a, some l, some h, some m, some (.array n e) => (szT P e).map fun z => .slc (.arr n z) a l h m
    | _, _, _, _, _ => none
  | .fieldAddr s x i => match fldT P s i, lowX x with
    | some f, some a => match szT P f.type with
      | some (_ + 1) => some (.fa f.offset a)
      | _ => none
    | _, _ => none
  | .field s x i => match fldT P s i, lowX x with
    | some f, some a => (rdT P f.type).map fun r => .fld f.offset r a
    | _, _ => none
  | .indexAddr t x i => match P.underlying t, lowX x, lowX i with
    | some (.slice e), some a, some b => (szT P e).map fun z => .ia (.sl z) a b
    | some (.array n e), some a, some b => (szT P e).map fun z => .ia (.arr n z) a b
    | _, _, _ => none
  | .index t x i => match P.underlying t, lowX x, lowX i with
    | some .string, some a, some b => some (.ixs a b)
    | some (.array n e), some a, some b => match szT P e, rdT P e with
      | some z, some r => some (.ix n z r a b)
      | _, _ => none
    | _, _, _ => none
  | .lookup t x k ok => match (valT P t).bind (zvT P), lowX x, lowX k with
    | some z, some a, some b => (keyT P t).map fun e => .lkp e z ok a b
    | _, _, _ => none
  | .mapUpdate t x k y | .insert t x k y => match lowX x, lowX k, lowX y with
    | some a, some b, some c => (keyT P t).map fun e => .mput e a b c
    | _, _, _ => none
  | .mapEntry t x k => match (valT P t).bind (zvT P), lowX x, lowX k with
    | some z, some a, some b => (keyT P t).map fun e => .ment e z a b
    | _, _, _ => none
  | .entryStore _ x s y => match lowX x, lowX s, lowX y with
    | some a, some b, some c => some (.mset a b c)
    | _, _, _ => none
  | .range t x => match P.underlying t with
    | some .string => (lowX x).map (.rng true)
    | some (.map _ _) => (lowX x).map (.rng false)
    | _ => none
  | .next x s => (lowX x).map (.nxt s)
  | .entry x => (lowX x).map .ent
  | .extract x i => (lowX x).map fun a => .ext a i
  | .call c => lowCall P c
  | .defer c => match c.callee with
    | .value f => match lowX f, lowXs c.args.toList with
      | some x, some l => some (.dfr x l)
      | _, _ => none
    | _ => none
  | _ => none
/-- What kind of step an operation is: it computes or reads; makes a block; has effects. -/
inductive Kd where
  | q | a | s
  deriving DecidableEq
def kd : LO → Kd
  | .alloc .. | .box .. | .bsl .. | .mkm | .mks .. | .byts .. => .a
  | .store .. | .mput .. | .app .. | .appz .. | .cpy .. | .clr .. | .call .. | .rng .. | .nxt .. | .ment .. | .mset .. | .mdel .. | .rec_ | .dfr .. => .s
  | _ => .q
/-- A lowered operation of a region: guard, place, the operation. -/
structure RO where
  g : Gd
  d : Ds
  o : LO
def lowG (ops : Array Oper) : Option (Nat × Bool) → Option Gd
  | none => some .no
  | some (j, b) => match (ops[j]?).bind (·.dst) with
    | some t => some (.on (Pos.of t) b)
    | none => none
def lowD (N : Nat) : Option Tmp → Option Ds
  | none => some .no
  | some d => if d < N then some (.to (Pos.of d)) else none
def lowR (N : Nat) (ops : Array Oper) (o : Oper) : Option RO :=
  match lowG ops o.guard, lowD N o.dst, lowO P o.op with
  | some g, some d, some x => some ⟨g, d, x⟩
  | _, _, _ => none
def lowRs (N : Nat) (ops : Array Oper) : List Oper → Option (List RO)
  | [] => some []
  | o :: r => match lowR P N ops o, lowRs N ops r with
    | some x, some l => some (x :: l)
    | _, _ => none
def addR (x : RO) (re : Re) (hd : Ps) (r : LR) : LR :=
  match kd x.o with
  | .q => .q x.g x.d x.o r
  | .a => .a x.g x.d x.o r
  | .s => .s x.g x.d x.o re hd r
def lineR : List RO → LR
  | [] => .nil
  | x :: r => addR x .nil .nil (lineR r)
/-- The order in which a region of drawn order is gone through: readings as soon as they can be, then new blocks, then effects. -/
def pickR (bf : Array Nat) (ks : Array Kd) (n : Nat) : Nat → Nat → List Nat → Option (List Nat)
  | 0, done, acc => if done = 2 ^ n - 1 then some acc.reverse else none
  | f + 1, done, acc =>
    let free i := !done.testBit i && (bf.getD i 0 &&& done == bf.getD i 0)
    let next := match (List.range n).find? fun i => ks.getD i .s == .q && free i with
      | some i => some i
      | none => match (List.range n).find? fun i => ks.getD i .s == .a && free i with
        | some i => some i
        | none => (List.range n).find? free
    match next with
    | some i => pickR bf ks n f (done ||| 2 ^ i) (i :: acc)
    | none => none
/-- Names of temporaries. -/
def LX.nm : LX → List Nat
  | .tmp p => [p.nat]
  | .const _ => []
def LXs.nm : LXs → List Nat
  | .nil => []
  | .cons x r => x.nm ++ r.nm
def LPs.nm : LPs → List Nat
  | .nil => []
  | .cons _ _ x r => x.nm ++ r.nm
def OX.nm : OX → List Nat
  | .no => []
  | .yes x => x.nm
def LO.nm : LO → List Nat
  | .mv x | .chk x | .un _ x | .conv _ x | .sid x | .ifc _ x | .ext x _ | .fa _ x | .fld _ _ x | .lens x | .lent x | .capv x | .arr _ x | .load _ x | .lenm x | .txt x | .ent x | .box x | .byts x | .clr _ _ x | .rng _ x | .nxt _ x => x.nm
  | .pick c x y | .mput _ c x y | .mset c x y => c.nm ++ (x.nm ++ y.nm)
  | .bin _ x y | .eq _ _ x y | .ia _ x y | .ix _ _ _ x y | .ixs x y | .mm _ x y | .lkp _ _ _ x y | .mks _ _ _ x y | .store _ x y | .app _ _ x y | .appz _ _ _ x y | .cpy _ x y | .ment _ _ x y | .mdel _ x y => x.nm ++ y.nm
  | .fun_ _ a b => a.nm ++ b.nm
  | .build _ ps | .bsl _ _ ps => ps.nm
  | .slc _ x a b d => x.nm ++ (a.nm ++ (b.nm ++ d.nm))
  | .call f l | .dfr f l => f.nm ++ l.nm
  | .lenc _ | .alloc _ | .mkm | .rec_ => []
def Gd.nm : Gd → List Nat
  | .no => []
  | .on p _ => [p.nat]
def Ds.nm : Ds → List Nat
  | .no => []
  | .to p => [p.nat]
def RO.look (x : RO) : List Nat := x.g.nm ++ x.o.nm
/-- It does not look at memory. -/
def pureQ : LO → Bool
  | .load .. | .slc .. | .lkp .. | .lenm .. | .txt .. | .ent .. => false
  | x => kd x == .q
/-- i is before j in each order. -/
def befB (bf : Array Nat) (i j : Nat) : Bool := (bf.getD j 0).testBit i
/-- Whatever writes what x looks at is before x. -/
def firmR (rs : Array RO) (bf : Array Nat) (i : Nat) (x : RO) : Bool :=
  (List.range rs.size).all fun j => befB bf j i || match rs[j]? with
    | some y => y.d.nm.all fun t => !x.look.contains t
    | none => true
def isA (rs : Array RO) (i : Nat) : Bool := match rs[i]? with
  | some x => kd x.o == .a
  | none => true
/-- New blocks that may stand or not when s comes about. -/
def openR (rs : Array RO) (bf : Array Nat) (s : Nat) (done : List Nat) : List Nat := done.filter fun a => isA rs a && !befB bf a s
/-- What is looked at again behind effect s: readings that are not ahead of it for sure. -/
def reOf (rs : Array RO) (bf : Array Nat) (s : Nat) : List Nat → Option Re
  | [] => some .nil
  | i :: r => match rs[i]?, reOf rs bf s r with
    | some x, some re =>
      if kd x.o == .q && !pureQ x.o && !befB bf i s then
        match x.d with
        | .to d => if firmR rs bf i x then some (.cons x.g d x.o re) else none
        | .no => none
      else some re
    | _, _ => none
def hdOf (rs : Array RO) : List Nat → Option Ps
  | [] => some .nil
  | i :: r => match rs[i]?, hdOf rs r with
    | some x, some l => match x.d with
      | .to d => some (.cons d l)
      | .no => none
    | _, _ => none
def mixR (rs : Array RO) (bf : Array Nat) : List Nat → List Nat → Option LR
  | _, [] => some .nil
  | done, i :: r => match rs[i]? with
    | none => none
    | some x => match (if kd x.o == .s then reOf rs bf i done else some .nil), (if kd x.o == .s then hdOf rs (openR rs bf i done) else some .nil), mixR rs bf (i :: done) r with
      | some re, some hd, some l => some (addR x re hd l)
      | _, _, _ => none
/-- A reading is behind all new blocks that were made ahead of it; what comes behind an effect is behind it in each order. -/
def restR (rs : Array RO) (bf : Array Nat) : List Nat → List Nat → Bool
  | _, [] => true
  | done, i :: r => (match rs[i]? with
    | none => false
    | some x => match kd x.o with
      | .a => true
      | .q => pureQ x.o || done.all fun a => !isA rs a || befB bf a i
      | .s => r.all fun j => befB bf i j) && restR rs bf (i :: done) r
def pairR (rs : Array RO) (bf : Array Nat) : Bool :=
  (List.range rs.size).all fun j => (List.range rs.size).all fun i => match rs[i]?, rs[j]? with
    | some a, some b => if i = j then a.d.nm.all (fun t => !a.look.contains t) else
      a.d.nm.all (fun t => !b.d.nm.contains t) && (befB bf i j || befB bf j i || (!(kd a.o == .s && kd b.o == .s) && a.d.nm.all fun t => !b.look.contains t))
    | _, _ => false
/-- Each order keeps what the edges ask, and they go back. -/
def edgeR (ops : Array Oper) (bf : Array Nat) : Bool :=
  (List.range ops.size).all fun i => match ops[i]? with
    | some o => o.after.all (fun e => !Region.binds .any e || decide (e.on < i)) &&
      (List.range ops.size).all fun j => !befB bf j i || o.after.any fun e => Region.binds .any e && (e.on == j || befB bf j e.on)
    | none => false
/-- An order that keeps what must be kept. -/
def linR (bf : Array Nat) (n : Nat) : List Nat → List Nat → Bool
  | done, [] => (List.range n).all done.contains
  | done, i :: r => decide (i < n) && (!done.contains i && ((List.range n).all (fun j => !befB bf j i || done.contains j) && linR bf n (i :: done) r))
def fineR (ops : Array Oper) (rs : Array RO) (bf : Array Nat) (l : List Nat) : Bool :=
  pairR rs bf && (edgeR ops bf && (linR bf ops.size [] l && restR rs bf [] l))
def lowReg (N : Nat) (ops : Array Oper) (draw : Bool) : Option LR :=
  match lowRs P N ops ops.toList with
  | none => none
  | some rs =>
    if draw then
      let bf := Region.before ops
      let ks := (rs.map fun x => kd x.o).toArray
      match pickR bf ks ops.size ops.size 0 [] with
      | some l => if fineR ops rs.toArray bf l then mixR rs.toArray bf [] l else none
      | none => none
    else some (lineR rs)
def lowPs' (N : Nat) : List Tmp → Option Ps
  | [] => some .nil
  | t :: r => if t < N then (lowPs' N r).map (.cons (Pos.of t)) else none
def lowC (N : Nat) : Code → LC
  | .skip => .skip
  | .region _ ops draw => match lowReg P N ops draw with
    | some r => .reg r
    | none => .bad
  | .seq a b => .seq (lowC N a) (lowC N b)
  | .cond c a b => match lowX c with
    | some x => .cond x (lowC N a) (lowC N b)
    | none => .bad
  | .block id b => .block id (lowC N b)
  | .loop b => .loop (lowC N b)
  | .rangeFunc f ps a b => match lowX f, lowPs' N ps.toList with
    | some x, some l => .rf x l (lowC N a) (lowC N b)
    | _, _ => .bad
  | .exit id => .exit id
  | .scope b => .scope (lowC N b)
  | .label l => .label l
  | .goto l => .goto l
  | .ret => .ret
  | .refuse _ => .bad
def lowRes : List ResultVar → Option RS
  | [] => some .nil
  | .tmp t :: r => (lowRes r).map (.tmp (Pos.of t))
  | .cell a t :: r => match rdT P t, lowRes r with
    | some rd, some l => some (.cell (Pos.of a) rd l)
    | _, _ => none
def firstPs : Nat → Nat → Ps
  | 0, _ => .nil
  | n + 1, k => .cons (Pos.of k) (firstPs n (k + 1))
def lowF (f : Nat) : Option LF :=
  match P.funcs[f]? with
  | some fn => match fn.body, lowRes P fn.results.toList with
    | some c, some rs => if fn.name == "runtime.NumGoroutine" then none else some ⟨firstPs fn.ntmps 0, rs, lowC P fn.ntmps c⟩
    | _, _ => none
  | none => none
end
end Go.Ev
end
