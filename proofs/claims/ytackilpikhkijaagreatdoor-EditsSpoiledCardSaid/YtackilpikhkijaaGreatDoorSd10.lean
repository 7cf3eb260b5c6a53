/- 10 -/
import Derived.Test.YtackilpikhkijaaGreatDoorSd09
import Derived.Laws.BytesString
import Derived.Laws.Strings
import Derived.Shelf.Strings.Trim
import Derived.ChangeKeysEq
set_option linter.unusedSimpArgs false
set_option linter.unusedVariables false
namespace Go.Proofs.YtackilpikhkijaaGreatDoor
open _root_.Go.Proofs.Tryz _root_.Go.Proofs.YtackilpikhkijaaGreatDoor.Tryz
open Go Go.Sy Go.Pl Go.Proofs
set_option maxRecDepth 100000
set_option maxHeartbeats 1000000
theorem nm {α β:Type}{l:List α}{k:Nat}(h:k<l.length)(p:α→Bool)(f:α→β):((l.take<|k+1).filter p).map f=((l.take k).filter p).map f++(if p l[k] then [f l[k]] else []):=by
 rw[tS h,zh9,zg8];congr 1;simp only[zj1,List.filter_nil];split <;> rfl
theorem s8 {α β:Type}(l:List α)(k:Nat)(p:α→Bool)(f:α→β):(((l.take k).filter p).map f).length≤k:=by
 rw[ze9];refine zl2 (zc6 _ _) ?_;rw[ze7]; omega
theorem Tryz.buildE53 (w:World):(Instr.build 53 #[]).run Tryz.prog w = .ok (.agg #[vi 0,vi 0,.slice none 0 0]) w:=by
 simp[Instr.build,Instr.fill];rfl
def zB (l:List Cl)(d:Int):List Int:=((am l).filter fun c=>decide (c.dim=d)).map Cl.id
theorem SU.maxI {P:Program}{N:Nat}{f:Fr}{dst:Option Tmp}{ty:TypeId}{pos:String}{af:Array Edge}{gd:Option (Nat×Bool)}{x y:Operand}{T U:TypeId}{m n:Int}(hx:ev f x=some (vi m))(hy:ev f y=some (vi n)) :
  SU P N ⟨dst,.call ⟨.builtin .max,#[x,y],#[T,U]⟩,ty,pos,af,gd⟩ f (vi<|max m n):=fun a w ha=>by
 have h:=run_max_int2 (P:=P) (w:=w) #[T,U] ty .i64 .i64 m n;have h2:(if m<n then n else m)=max m n:=by split <;> omega
 rw[h2] at h;simp[execOp,resolve,invoke,builtin,ha.ev hx,ha.ev hy,h]
theorem nM (E:World)(g:PH)(s:Own)(v:Value)(l:List Cl)(d:Int)(hv:ao g v l)(hf:bo l) :
  Ctr Tryz.prog E 38 #[.agg #[v],vi d] g s (fun r g' s'=>s=s'∧Le g g'∧dQ g' r (zB l d)):=by
 have hft:=bP hf;have hfl:=hft.1;obtain ⟨p,c,rfl⟩:=hv.form;refine zb2 (args:=[.agg #[.slice p l.length c],vi d]) func38 I ntmps38 (bE I)<|rZ (bW (bO I) fun b2=>?_);refine aT I<|rZ<|aT I<|rZ<|lK (qV 0 aw ah I I I)<|lW (cL call66 I<|dq E g _ _ l hv hf) ?_;rintro v9 g1 _ ⟨rfl,hle,hc⟩;obtain ⟨rs,hrs,hall⟩:=hc;obtain ⟨q,dd,rfl⟩:=hrs.form;refine aT I<|sQ<|rZ<|aT I<|bK ?_;have hrl:=hall.length;unfold zB;generalize am l=A at *;refine zb6 3 1<|oP (ι:=Value×Nat) (fun i=>[(1,vi d),(5,i.1),(6,.slice q rs.length dd),(7,vi i.2)]) (fun _=>g1) (fun i=>rowA encInt 3 i.1 (((A.take i.2).filter fun c=>decide (c.dim=d)).map Cl.id)::pt b2 (.cells #[.slice p l.length c] 29 (0,0))::s)
  (fun i=>i.2≤A.length) (fun i=>A.length - i.2) (.slice none 0 0,0) sB rfl rfl (zf9 _) ?_
 rintro ⟨ov,k⟩ hk;dsimp only at hk ⊢;refine sQ<|sW I<|lM I<|lU (eN aI I)<|yL I<|tZ<|iP I (fun hlt=>?_) (fun hlt=>?_)
 ·have hkl:k<A.length:=oM;have hkr:k<rs.length:=oM;have hb1:=hrs.based oM;have hcr:=hall.get (gE hkl)<|gE hkr;have hgr:rs[((k:Nat):Int).toNat]?=some rs[k]:=gE hkr;have hsucc:=nm hkl (fun c=>decide (c.dim=d)) Cl.id;have hlek:=s8 A k (fun c=>decide (c.dim=d)) Cl.id;have hxl:=hft.2 _<|gM hkl;generalize A[k]=x at *;generalize rs[k]=r at *;refine kP<|tN<|sQ<|bK<|sW I<|lM I<|lU (iA aI au I I hb1 oM sL)<|lU (fC aq I zT3 I hb1)<|lK (aZ (e:=encCell) (o:=1) (u:=vi x.dim) iT3 I hrs.rd hgr (by rw[← hcr.2.1]; rfl)) ?_;refine lM I<|yE I<|tZ<|iP I (fun hd=>?_) (fun hd=>?_)
  ·refine rG<|lM I<|lM I<|lM I<|lU (iA aI au I I hb1 oM sL)<|lU (fC aq I zT3 I hb1)<|lK (aZ (e:=encCell) (o:=0) (u:=vi x.id) iT3 I hrs.rd hgr (by rw[← hcr.1]; rfl)) ?_;refine lW (bS sty83 I I I (ae sB) dC) ?_;rintro _ _ _ ⟨b29,rfl,rfl,rfl⟩;refine lW (aP (e:=encInt) 0 x.id sty83 I I I I I oM oM) ?_;rintro ov' _ _ ⟨rfl,rfl⟩;refine lA I<|nL<|bN<|tN<|rG<|lM I<|yD I<|lA I<|nL ?_;refine ST.to (fun w hw=>?_) (g':=g1) (s':=rowA encInt 3 ov' (((A.take<|k+1).filter fun c=>decide (c.dim=d)).map Cl.id)::pt b2 (.cells #[.slice p l.length c] 29 (0,0))::s) ?_
   ·rw[hsucc,zg4<|zg2 hd]; exact hw
   exact gA (ov',k+1) sB I I (by dsimp only; omega) lN
  ·refine kP<|bN<|tN<|rG<|lM I<|yD I<|lA I<|nL ?_;refine ST.to (fun w hw=>?_) (g':=g1) (s':=rowA encInt 3 ov (((A.take<|k+1).filter fun c=>decide (c.dim=d)).map Cl.id)::pt b2 (.cells #[.slice p l.length c] 29 (0,0))::s) ?_
   ·rw[hsucc,zg3 (by rw[zg1 hd]; simp),zc7]; exact hw
   exact gA (ov,k+1) sB I I (by dsimp only; omega) lN
 ·have hkk:A.take k=A:=tL oM;rw[hkk];refine xI (tX<|tX<|bX<|tN<|sW I<|aT I<|rE<|fT fun g2 hle2 hs2=>?_);exact dR (s':=s) uR<|za8 (.inl I) results38 I ⟨I,hle.trans hle2,hs2⟩
theorem tP (E:World)(g:PH)(s:Own)(c:Cl)(r:Rc)(id:Int)(hc:ar g c r)(hl:c.sides.length<1099511627776) :
  Ctr Tryz.prog E 120 #[rcv r,vi id] g s (fun x g' s'=>x=vb (mw c id)∧g=g'∧s=s'):=by
 obtain ⟨ri,rd,⟨rp,rn,rc⟩⟩:=r;have hs:SlA encSide g (.slice rp rn rc) c.sides:=hc.2.2;have hn:rn=c.sides.length:=zc2 hs;subst hn;refine zb2 (args:=[rcv ⟨ri,rd,⟨rp,c.sides.length,rc⟩⟩,vi id]) func120 I ntmps120 (bE I)<|rZ (bW (bO I) fun b2=>?_);refine aT I<|sQ<|rZ<|aT I<|bK<|oP (ι:=Nat) (fun k=>[(1,vi id),(2,pp b2 0),(5,vi k)]) (fun _=>g) (fun _=>pt b2 (.cells #[vi ri,vi rd,.slice rp c.sides.length rc] 53 (0,0))::s)
  (fun k=>k≤c.sides.length∧(c.sides.take k).any (fun x=>decide (x.cell=id))=false) (fun k=>c.sides.length - k) 0 sB rfl rfl ⟨zf9 _,rfl⟩ ?_
 rintro k ⟨hk,hno⟩;refine sQ<|sW I<|lU (fA aq I aJ I)<|lK (qL (v:=.slice rp c.sides.length rc) aX I<|cO 0 I I)<|lU (eN aM I)<|yL I<|tZ<|iP I (fun hlt=>?_) (fun hlt=>?_)
 ·have hkl:k<c.sides.length:=oM;have hb1:=hs.based oM;have hgk:c.sides[((k:Nat):Int).toNat]?=some c.sides[k]:=gE hkl;have htk:(c.sides.take<|k+1).any (fun x=>decide (x.cell=id))=((c.sides.take k).any (fun x=>decide (x.cell=id))||decide (c.sides[k].cell=id)):=by
   rw[tS hkl,List.any_append]; simp
  have hmem:c.sides[k]∈c.sides:=gM hkl;generalize c.sides[k]=x at *;refine kP<|tN<|sQ<|bK<|rZ<|lU (fA aq I aJ I)<|lK (qL (v:=.slice rp c.sides.length rc) aX I<|cO 0 I I)<|lM I<|lU (iA aM aH I I hb1 oM sL)<|lU (fC bZ I zT3 I hb1)<|lK (aZ (e:=encSide) (o:=0) (u:=vi x.cell) iT3 I hs.rd hgk I)<|lM I<|yE I<|tZ<|iP I (fun he=>?_) (fun he=>?_)
  ·exact rZ<|aT I<|rE<|bR<|tR<|tR<|bR<|tR<|dR (s':=s) uR<|za8 (.inl I) results120 I ⟨by rw[show mw c id=true from zk2.2 ⟨x,hmem,zg2 he⟩],I,I⟩
  ·exact kP<|bN<|tN<|rG<|lM I<|yD I<|lA I<|nL<|gA (k+1) sB I I ⟨oM,by rw[htk,hno,zg1 he]; rfl⟩ oM
 ·have hkk:c.sides.take k=c.sides:=tL oM;rw[hkk] at hno;exact xI<|tX<|tX<|bX<|tN<|rZ<|aT I<|rE<|dR (s':=s) uR<|za8 (.inl I) results120 I ⟨by rw[show mw c id=false from hno],I,I⟩
theorem du (E:World)(g:PH)(s:Own)(v:Value)(l:List Cl)(id:Int)(hv:ao g v l)(hf:bo l) :
  Ctr Tryz.prog E 77 #[.agg #[v],vi id] g s (fun r g' s'=>s=s'∧Le g g'∧dQ g' r (aj l id)):=by
 have hft:=bP hf;have hfl:=hft.1;obtain ⟨p,c,rfl⟩:=hv.form;refine zb2 (args:=[.agg #[.slice p l.length c],vi id]) func77 I ntmps77 (bE I)<|rZ (bW (bO I) fun b2=>?_);refine aT I<|rZ<|aT I<|rZ<|lK (qV 0 aw ah I I I)<|lW (cL call66 I<|dq E g _ _ l hv hf) ?_;rintro v9 g1 _ ⟨rfl,hle,hc⟩;obtain ⟨rs,hrs,hall⟩:=hc;obtain ⟨q,dd,rfl⟩:=hrs.form;refine aT I<|sQ<|rZ<|aT I<|bK ?_;have hrl:=hall.length;unfold aj;generalize am l=A at *;refine zb6 3 1<|oP (ι:=Value×Nat) (fun i=>[(1,vi id),(5,i.1),(6,.slice q rs.length dd),(7,vi i.2)]) (fun _=>g1) (fun i=>rowA encInt 3 i.1 (((A.take i.2).filter fun c=>mw c id).map Cl.id)::pt b2 (.cells #[.slice p l.length c] 29 (0,0))::s)
  (fun i=>i.2≤A.length) (fun i=>A.length - i.2) (.slice none 0 0,0) sB rfl rfl (zf9 _) ?_
 rintro ⟨ov,k⟩ hk;dsimp only at hk ⊢;refine sQ<|sW I<|lM I<|lU (eN aI I)<|yL I<|tZ<|iP I (fun hlt=>?_) (fun hlt=>?_)
 ·have hkl:k<A.length:=oM;have hkr:k<rs.length:=oM;have hb1:=hrs.based oM;have hcr:=hall.get (gE hkl)<|gE hkr;have hgr:rs[((k:Nat):Int).toNat]?=some rs[k]:=gE hkr;have hsucc:=nm hkl (fun c=>mw c id) Cl.id;have hlek:=s8 A k (fun c=>mw c id) Cl.id;have hxl:=hft.2 _<|gM hkl;generalize A[k]=x at *;generalize rs[k]=r at *;refine kP<|tN<|sQ<|bK<|sW I<|lM I<|lU (iA aI au I I hb1 oM sL)<|lK (eA dn au I hrs.rd hgr)<|lM I<|lW (cL call120 I<|tP E g1 _ x r id hcr hxl) ?_;rintro _ _ _ ⟨rfl,rfl,rfl⟩;refine tZ<|iQ I (fun hd=>?_) (fun hd=>?_)
  ·refine rG<|lM I<|lM I<|lM I<|lU (iA aI au I I hb1 oM sL)<|lU (fC aq I zT3 I hb1)<|lK (aZ (e:=encCell) (o:=0) (u:=vi x.id) iT3 I hrs.rd hgr (by rw[← hcr.1]; rfl)) ?_;refine lW (bS sty83 I I I (ae sB) dC) ?_;rintro _ _ _ ⟨b28,rfl,rfl,rfl⟩;refine lW (aP (e:=encInt) 0 x.id sty83 I I I I I oM oM) ?_;rintro ov' _ _ ⟨rfl,rfl⟩;refine lA I<|nL<|bN<|tN<|rG<|lM I<|yD I<|lA I<|nL ?_;refine ST.to (fun w hw=>?_) (g':=g1) (s':=rowA encInt 3 ov' (((A.take<|k+1).filter fun c=>mw c id).map Cl.id)::pt b2 (.cells #[.slice p l.length c] 29 (0,0))::s) ?_
   ·rw[hsucc,zg4<|hd]; exact hw
   exact gA (ov',k+1) sB I I (by dsimp only; omega) lN
  ·refine kP<|bN<|tN<|rG<|lM I<|yD I<|lA I<|nL ?_;refine ST.to (fun w hw=>?_) (g':=g1) (s':=rowA encInt 3 ov (((A.take<|k+1).filter fun c=>mw c id).map Cl.id)::pt b2 (.cells #[.slice p l.length c] 29 (0,0))::s) ?_
   ·rw[hsucc,zg3 (by rw[hd]; simp),zc7]; exact hw
   exact gA (ov,k+1) sB I I (by dsimp only; omega) lN
 ·have hkk:A.take k=A:=tL oM;rw[hkk];refine xI (tX<|tX<|bX<|tN<|sW I<|aT I<|rE<|fT fun g2 hle2 hs2=>?_);exact dR (s':=s) uR<|za8 (.inl I) results77 I ⟨I,hle.trans hle2,hs2⟩
theorem bw (E:World)(g:PH)(s:Own)(v:Value)(l:List Cl)(id:Int)(hv:ao g v l)(hf:bo l) :
  Ctr Tryz.prog E 41 #[.agg #[v],vi id] g s (fun r g' s'=>s=s'∧Le g g'∧∃ x,r = .tuple #[rcv x,vb (findC l id).isSome]∧ar g' ((findC l id).getD bD) x):=by
 have hft:=bP hf;have hfl:=hft.1;obtain ⟨p,c,rfl⟩:=hv.form;have hsrt:=gL l;have hnd:=lx l;refine zb2 (args:=[.agg #[.slice p l.length c],vi id]) func41 I ntmps41 (bE I)<|rZ (bW (bO I) fun b2=>?_);refine bW (aL zl8) fun b4=>aT I<|rZ<|lK (qV 1 aw ah I I I)<|lW (cL call66 I<|dq E g _ _ l hv hf) ?_;rintro v9 g1 _ ⟨rfl,hle,hc⟩;obtain ⟨rs,hrs,hall⟩:=hc;have hcs:ao g1 _ (am l):=⟨rs,hrs,hall⟩;obtain ⟨q,dd,rfl⟩:=hrs.form;refine aT I<|sW I<|lM I<|lW (cL call67 I<|gW E g1 _ _ (am l) id hcs hfl hsrt) ?_;rintro _ _ _ ⟨rfl,rfl,rfl⟩;refine aT I<|sQ<|sW I<|yL I<|tZ ?_;have hrl:=hall.length;unfold findC;generalize am l=A at *;have haf:=pC hsrt id;refine iP I (fun hneg=>?_) (fun hneg=>?_)
 ·rcases haf with ⟨h1,h2⟩ | ⟨x,k,h1,h2,h3⟩
  ·have hno:(A.find? fun c=>decide (c.id=id))=none:=h1;exact rZ<|lU (za3 I<|buildE53)<|oZ (sK 0 au I I I I I sB)<|aT I<|rE<|tR<|ST.retCD1 0 s (.inl I) results41 I I dn au I I uR ⟨I,hle,rU,by rw[hno]; rfl,by rw[hno]; exact wR g1⟩
  ·rw[h2] at hneg; omega
 ·rcases haf with ⟨h1,h2⟩ | ⟨x,k,h1,h2,h3⟩
  ·rw[h2] at hneg; omega
  ·have hyes:(A.find? fun c=>decide (c.id=id))=some x:=h1;rw[h2];have hkl:k<A.length:=(zf8.1 h3).1;have hkr:k<rs.length:=oM;have hb1:=hrs.based oM;have hcr:=hall.get h3<|gE hkr;have hgr:rs[((k:Nat):Int).toNat]?=some rs[k]:=gE hkr;generalize rs[k]=r at *;obtain ⟨ri,rd,⟨rp,rn,rc⟩⟩:=r;exact kP<|tN<|sW I<|lM I<|lU (iA aI au I I hb1 oM sL)<|lK (eA dn au I hrs.rd hgr)<|oZ (sK 0 au I I I I I sB)<|aT I<|rE<|ST.retCD1 0 s (.inl I) results41 I I dn au I I uR ⟨I,hle,⟨ri,rd,⟨rp,rn,rc⟩⟩,by rw[hyes]; rfl,by rw[hyes]; exact hcr⟩
end Go.Proofs.YtackilpikhkijaaGreatDoor
namespace Go.Sy
open Go
section
variable {α:Type}{k:Nat}{P:Program}{N:Nat}{E:World}{f:Fr}{g:PH}{s:Own}{dst:Option Tmp}{ty:TypeId}{pos:String}{af:Array Edge}{gd:Option (Nat×Bool)}
theorem SO.makeC {x y:Operand}{t T:TypeId}{bytes n:Nat}{z:Value}(e:Enc α k)(hT:STy P t T k bytes z)(hx:ev f x=some (vi 0))(hy:ev f y=some (vi n))(hb:n * bytes≤140737488355328)(hlen:n≤4611686018427387904) :
  SO P N E ⟨dst,.makeSlice t x y,ty,pos,af,gd⟩ f g s fun v' g' s'=>g=g'∧s'=rowA e T v' []::s :=
 SO.of_run fun ac w ha hw=>by
  obtain ⟨ti,ht1,ht2,ht3,ht4⟩:=hT.info;have hbi:(ti.bytes:Int) * ((n:Nat):Int)≤281474976710656:=by
   rw[ht4,← Int.natCast_mul,Nat.mul_comm]; omega
  have h5:=run_make (P:=P) w t T ti z hT.und ht1 ht2 .i64 .i64 0 n oM oM hbi oM;simp only[Int.toNat_natCast] at h5;rw[ht3] at h5;have hrun:(execOp ac.eval ⟨dst,.makeSlice t x y,ty,pos,af,gd⟩).run P w = .ok (.value<|.slice (some ⟨w.heap.size,0,none⟩) 0 n) (w.alloc<|.cells (madeCells z.cells<|n * k) T):=by
   simp[execOp,ha.ev hx,ha.ev hy,h5]
  have hnew:(w.alloc<|.cells (madeCells z.cells<|n * k) T).heap[w.heap.size]?=some (.cells (madeCells z.cells<|n * k) T (0,0)):=heap_alloc_new w _;refine⟨_,_,g,_,hrun,?_,I,I⟩;cases n with
  | zero =>
   have h6:=hw.emptyRow T k<|some ⟨w.heap.size,0,none⟩;have h7:=h6.alloc (e:=pt w.heap.size<|.cells (madeCells z.cells<|0 * k) T (0,0)) (o:=.cells (madeCells z.cells<|0 * k) T (0,0)) rfl rfl;exact h7.sublist<|zj4 _ _
  | succ n =>
   have hsz:(madeCells z.cells<|(n+1) * k).size=(n+1) * k:=by simp[madeCells]
   exact hw.alloc (e:=rowA e T (.slice (some ⟨w.heap.size,0,none⟩) 0<|n+1) []) (o:=.cells (madeCells z.cells<|(n+1) * k) T (0,0)) I ⟨by simp,.inr ⟨_,n,_,I,I,by simp,by unfold maxLen; omega,hsz,by simp⟩⟩
def qk:Enc Int 1:=⟨fun n=>[.int .u8 n],fun _=>rfl,fun _ u hu=>by simp at hu; subst hu; rfl,by decide⟩
def B9:Enc Int 1:=⟨fun n=>[.int .u64 n],fun _=>rfl,fun _ u hu=>by simp at hu; subst hu; rfl,by decide⟩
def byt (l:List Int):List UInt8:=l.map fun n=>UInt8.ofNat n.toNat
def txt (l:List UInt8):Value:=.string ⟨l.toArray⟩
theorem yY (l:List Int):∀ s:ByteArray,l.foldl (fun r n=>r.push<|UInt8.ofNat n.toNat) s=⟨s.data++(byt l).toArray⟩:=by
 induction l with
 | nil=>intro s; simp[byt]
 | cons a t ih =>
  intro s;simp only[zj2];rw[ih];simp[byt,ByteArray.push]
theorem wn (l:List Int):l.flatMap qk.enc=l.map (Value.int .u8):=by
 induction l with
 | nil=>rfl
 | cons a t ih=>simp only[zh8,zg7,ih]; rfl
theorem SQ.bytesText {x:Operand}{S D e:TypeId}{p:Option Addr}{c:Nat}{l:List Int}(hs:P.underlying S=some (.slice e))(he:P.underlying e=some (.int .u8))(hd:P.underlying D=some .string)
  (hx:ev f x=some (.slice p l.length c)) (hr:Rd g s (.slice p l.length c) (l.flatMap qk.enc)) :
  SQ P N E ⟨dst,.convert S D x,ty,pos,af,gd⟩ f g s (txt<|byt l):=fun a w ha hw=>by
 have h1:(convert S D<|.slice p l.length c).run P w = .ok (txt<|byt l) w:=by
  rw[run_convert_bytes_string w S D e p l.length c hs he hd];rw[wn] at hr;cases l with
  | nil =>
   cases p with
   | none=>simp[Conv.bytesToString,txt,byt]; rfl
   | some a =>
    have h2:=run_bytesToString (P:=P) w a 0 c [] (by simp[loadCells]; exact cX (P:=P) (w:=w) (b:=a.block) (o:=a.off) 0 0 [] #[] I (fun j y hy=>by simp at hy));rw[zc5,h2];rfl
  | cons n t =>
   obtain ⟨q,n',c',he1,hsp,hc0⟩:=hr E w hw 0 (.int .u8 n) rfl;injection he1 with he1 he2 he3
   subst he1;obtain ⟨qb,qo,qs⟩:=q;dsimp only at hsp;subst hsp;have h2:=run_bytesToString (P:=P) w ⟨qb,qo,none⟩ (n::t).length c (n::t) (by
    have:=cX (P:=P) (w:=w) (b:=qb) (o:=qo) (n::t).length 0 ((n::t).map (Value.int .u8)) #[] (by simp) (fun j y hy=>by
     obtain ⟨q',n2,c2,he4,_,hc1⟩:=hr E w hw j y hy;injection he4 with he4
     injection he4 with he4
     subst he4;simpa using hc1)
    simpa [loadCells] using this)
   rw[h2,yY];simp[txt]
 simp[execOp,ha.ev hx,h1]
theorem uA (l:List UInt8):(⟨l.toArray⟩:ByteArray).toList=l:=by rw[ByteArray.toList_eq]
theorem SU.neqT {x y:Operand}{T U:TypeId}{l m:List UInt8}(hx:ev f x=some (txt l))(hy:ev f y=some (txt m)) :
  SU P N ⟨dst,.binOp .neq T x y U,ty,pos,af,gd⟩ f (.bool<|decide (l≠m)):=fun ac w ha=>by
 have hg:(eqGuard .neq T x y (txt l)<|txt m).run P w = .ok () w:=by simp[eqGuard,txt]
 have hb:(binOp .neq T (txt l)<|txt m).run P w = .ok (.bool<|decide (l≠m)) w:=by
  unfold txt;rw[binOp_string_neq,uA,uA];by_cases h:l=m <;> simp[h,bne] <;> rfl
 simp only[execOp,ha.ev hx,ha.ev hy,Sem.run_bind,hg,zd2,hb];rfl
end
end Go.Sy
namespace Go.Proofs.YtackilpikhkijaaGreatDoor
open _root_.Go.Proofs.Tryz _root_.Go.Proofs.YtackilpikhkijaaGreatDoor.Tryz
open Go Go.Sy Go.Pl Go.Proofs Go.Shelf
set_option maxRecDepth 100000
set_option maxHeartbeats 1000000
theorem Cg {f:Fr}{t:Nat}{a b:Int}(h:bg f t=some (vi a))(e:a=b):bg f t=some (vi b):=e ▸ h
theorem Tryz.sty182:STy Tryz.prog 182 114 1 8 (.int .u64 0):=⟨underlying182,⟨t114,by kernel_rfl,by kernel_rfl,by kernel_rfl,by kernel_rfl⟩,rfl,by decide⟩
theorem Tryz.sty151:STy Tryz.prog 151 5 1 1 (.int .u8 0):=⟨underlying151,⟨t5,by kernel_rfl,by kernel_rfl,by kernel_rfl,by kernel_rfl⟩,rfl,by decide⟩
def eL (l:List Int):List Int:=(l.reverse.dropWhile (· == 0)).reverse
theorem oN {m:List Int}(h:0<m.length)(h0:m.getD (m.length - 1) 1=0):eL (m.take<|m.length - 1)=eL m:=by
 rcases List.eq_nil_or_concat m with rfl | ⟨a,x,rfl⟩
 ·simp at h
 ·have hx:x=0:=by simpa [zh4] using h0
  subst hx;simp[eL]
theorem oL {m:List Int}(h:(decide ((m.length:Int)>0)&&decide (m.getD (m.length - 1) 1=0))=false):eL m=m:=by
 rcases List.eq_nil_or_concat m with rfl | ⟨a,x,rfl⟩
 ·rfl
 ·have hx:x≠0:=by simpa [zh4] using h
  simp[eL,hx]
theorem yg (E:World)(g:PH)(s:Own)(v:Value)(l:List Int)(hv:SlA B9 g v l)(hl:l.length<1099511627776) :
  Ctr Tryz.prog E 182 #[v] g s (fun r g' s'=>g=g'∧s=s'∧SlA B9 g r (eL l)):=by
 refine zb2 (args:=[v]) func182 I ntmps182 (bE I)<|rZ<|aT I<|sQ<|bK<|oP (ι:=Value×List Int) (fun i=>[(0,i.1)]) (fun _=>g) (fun _=>s) (fun i=>SlA B9 g i.1 i.2∧eL i.2=eL l∧i.2.length≤l.length) (fun i=>i.2.length) (v,l) ⟨I,trivial⟩ I I ⟨hv,I,lR _⟩ ?_;rintro ⟨v1,m⟩ ⟨hm,htr,hle⟩;dsimp only at hm htr hle ⊢;obtain ⟨p,c,rfl⟩:=za4 hm;have hcap:=(SlA.cap hm).2;have f1:(m.length:Int)>0→(decide ((m.length:Int)>0)&&decide (m.getD (m.length - 1) 1=0))=decide (m.getD (m.length - 1) 1=0):=fun h=>by rw[zg2 h,Bool.true_and]
 have f2:¬ (m.length:Int)>0→(decide ((m.length:Int)>0)&&decide (m.getD (m.length - 1) 1=0))=false:=fun h=>by simp only[h,decide_false,Bool.false_and]
 have hgl:(m.length:Int)>0→m[((m.length:Int) - 1).toNat]?=some (m.getD (m.length - 1) 1):=fun h=>by
  have h1:((m.length:Int) - 1).toNat=m.length - 1:=oM;have h2:m.length - 1<m.length:=oM;rw[h1,zh4,gE h2]; rfl
 have hbs:(m.length:Int)>0→based (.slice p m.length c)=true:=fun h=>za6 hm oM;refine sQ<|SC.cutB 14 ((decide ((m.length:Int)>0)&&decide (m.getD (m.length - 1) 1=0))) ?_ ?_
 ·refine rG<|lM I<|lU (eN qd I)<|lU (gR I I)<|lM I<|sP ?_ ?_
  ·intro h6;exact yC I<|yC I<|lY I I I (eN qd I)<|lY I I I (sU I I oM)<|lY I I I (iA qd sizeOf114 I I (hbs h6) oM sL)<|SL.gq (gT I I I dC) (eB isAgg114 I (za7 hm) (hgl h6) I) dC<|lY I I I (eQ I I)<|yP I<|nL<|zb1 (by (rw[f1 h6]; rfl)) mI
  ·intro h6;exact yA I<|yA I<|yA I<|yA I<|yA I<|yA I<|yA I<|yF I<|nL<|zb1 (by (rw[f2 h6]; rfl)) mI
 refine iQ I (fun hc=>?_) (fun hc=>?_)
 ·rw[zj6,zj9,zj9] at hc;obtain ⟨hpos,hlast⟩:=hc;have h1:((m.length:Int) - 1).toNat=m.length - 1:=oM;refine kP<|tN<|bK<|rG<|lM I<|lM I<|lU (eN qd I)<|lU (sU I I oM)<|lU (SU.sliceH qd sizeOf114 I I oM oM)<|lA I<|nL<|bN<|gA (sliced p 0 ((m.length:Int) - 1).toNat c 1,m.take<|m.length - 1) ⟨I,trivial⟩ I I ⟨?_,?_,?_⟩ (by dsimp only; rw[ze7]; omega)
  ·have:=SlA.cut hm (l:=0) (m:=m.length - 1) (zf9 _) oM;dsimp only;rw[h1];simpa using this
  ·dsimp only; rw[oN oM hlast]; exact htr
  ·dsimp only; rw[ze7]; omega
 ·exact xI<|tX<|tX<|bX<|tN<|sW I<|aT I<|rE<|za8 (.inl I) results182 I ⟨I,I,by rw[← htr,oL hc]; exact hm⟩
theorem sC (E:World)(g:PH)(s:Own)(v:Value)(l:List Int)(hv:SlA encInt g v l)(hl:l.length<1099511627776) :
  Ctr Tryz.prog E 108 #[v] g s (fun r g' s'=>g=g'∧s=s'∧SlA encInt g r (eL l)):=by
 refine zb2 (args:=[v]) func108 I ntmps108 (bE I)<|rZ<|aT I<|sQ<|bK<|oP (ι:=Value×List Int) (fun i=>[(0,i.1)]) (fun _=>g) (fun _=>s) (fun i=>SlA encInt g i.1 i.2∧eL i.2=eL l∧i.2.length≤l.length) (fun i=>i.2.length) (v,l) ⟨I,trivial⟩ I I ⟨hv,I,lR _⟩ ?_;rintro ⟨v1,m⟩ ⟨hm,htr,hle⟩;dsimp only at hm htr hle ⊢;obtain ⟨p,c,rfl⟩:=za4 hm;have hcap:=(SlA.cap hm).2;have f1:(m.length:Int)>0→(decide ((m.length:Int)>0)&&decide (m.getD (m.length - 1) 1=0))=decide (m.getD (m.length - 1) 1=0):=fun h=>by rw[zg2 h,Bool.true_and]
 have f2:¬ (m.length:Int)>0→(decide ((m.length:Int)>0)&&decide (m.getD (m.length - 1) 1=0))=false:=fun h=>by simp only[h,decide_false,Bool.false_and]
 have hgl:(m.length:Int)>0→m[((m.length:Int) - 1).toNat]?=some (m.getD (m.length - 1) 1):=fun h=>by
  have h1:((m.length:Int) - 1).toNat=m.length - 1:=oM;have h2:m.length - 1<m.length:=oM;rw[h1,zh4,gE h2]; rfl
 have hbs:(m.length:Int)>0→based (.slice p m.length c)=true:=fun h=>za6 hm oM;refine sQ<|SC.cutB 14 ((decide ((m.length:Int)>0)&&decide (m.getD (m.length - 1) 1=0))) ?_ ?_
 ·refine rG<|lM I<|lU (eN aK I)<|lU (gR I I)<|lM I<|sP ?_ ?_
  ·intro h6;exact yC I<|yC I<|lY I I I (eN aK I)<|lY I I I (sU I I oM)<|lY I I I (iA aK zT3 I I (hbs h6) oM sL)<|SL.gq (gT I I I dC) (eB iT3 I (za7 hm) (hgl h6) I) dC<|lY I I I (eQ I I)<|yP I<|nL<|zb1 (by (rw[f1 h6]; rfl)) mI
  ·intro h6;exact yA I<|yA I<|yA I<|yA I<|yA I<|yA I<|yA I<|yF I<|nL<|zb1 (by (rw[f2 h6]; rfl)) mI
 refine iQ I (fun hc=>?_) (fun hc=>?_)
 ·rw[zj6,zj9,zj9] at hc;obtain ⟨hpos,hlast⟩:=hc;have h1:((m.length:Int) - 1).toNat=m.length - 1:=oM;refine kP<|tN<|bK<|rG<|lM I<|lM I<|lU (eN aK I)<|lU (sU I I oM)<|lU (SU.sliceH aK zT3 I I oM oM)<|lA I<|nL<|bN<|gA (sliced p 0 ((m.length:Int) - 1).toNat c 1,m.take<|m.length - 1) ⟨I,trivial⟩ I I ⟨?_,?_,?_⟩ (by dsimp only; rw[ze7]; omega)
  ·have:=SlA.cut hm (l:=0) (m:=m.length - 1) (zf9 _) oM;dsimp only;rw[h1];simpa using this
  ·dsimp only; rw[oN oM hlast]; exact htr
  ·dsimp only; rw[ze7]; omega
 ·exact xI<|tX<|tX<|bX<|tN<|sW I<|aT I<|rE<|za8 (.inl I) results108 I ⟨I,I,by rw[← htr,oL hc]; exact hm⟩
theorem qH (E:World)(g:PH)(s:Own)(v:Value)(hv:v.cells = #[v]) :
  Ctr Tryz.prog E 183 #[v] g s (fun r g' s'=>s=s'∧Le g g'∧∃ b,r = .func (.func 207) #[] #[pp b 0]∧g' b=some (.cells #[v] 182 (0,0))):=by
 refine zb2 (args:=[v]) func183 I ntmps183 (bE I)<|rZ (bW (bO I) fun b1=>?_);refine aT I<|rZ<|lU (SU.mkFunc I)<|aT I<|rE ?_;rw[hv];refine ST.freeze fun g1 hle hb=>?_;exact za8 (.inl I) results183 I ⟨I,hle,_,I,hb⟩
def qN (l:List Int):List (Nat×Int):=(l.zipIdx.map fun p=>(p.2,p.1)).reverse
theorem nK (l:List Int):(qN l).length=l.length:=by simp[qN]
theorem zZ {l:List Int}{k:Nat}(h:k<l.length):(qN l)[l.length - 1 - k]?=some (k,l[k]):=by
 unfold qN;rw[List.getElem?_reverse (by simp; omega)];simp only[ze9,List.length_zipIdx];rw[show l.length - 1 - (l.length - 1 - k)=k by omega];simp[h]
theorem oG (E:World)(g0:PH)(b:Nat)(v:Value)(l:List Int)(hb:g0 b=some (.cells #[v] 182 (0,0)))(hv:SlA B9 g0 v l)(hl:l.length<1099511627776) :
  Ck Tryz.prog E 207 [pp b 0] (fun x:Nat×Int=>[vi x.1,.int .u64 x.2]) (qN l) g0:=by
 intro k ι G S J i0 h0 hmono hY sx;obtain ⟨p,c,rfl⟩:=za4 hv;refine Ctr.ofX (args:=[.func (.yield k) #[] #[],pp b 0]) func207 I ntmps207 (bE I)<|XC.seq<|XC.region<|XL.q (qL (v:=.slice p l.length c) isAgg182 I<|cK (hmono _ _ h0 _ _ hb) I) dC<|XL.u (eN qd I) dC<|XL.u (sU I I oM) dC<|XL.u (aS I) dC<|XL.nil<|XT.thenN<|XC.block<|XC.loop (ι:=ι×Nat) (fun i=>[(0,.func (.yield k) #[] #[]),(1,pp b 0),(3,vi<|(i.2:Int) - 1)]) (fun i=>G i.1) (fun i=>S i.1++sx) (fun i=>i.2≤l.length∧J ((qN l).take<|l.length - i.2) i.1) (fun i=>i.2) (i0,l.length)
  sB rfl rfl ⟨lR _,by simpa using h0⟩ ?_
 rintro ⟨j,n⟩ ⟨hn,hJ⟩;dsimp only at hn hJ ⊢;have hle:=hmono _ _ hJ;refine XC.seq<|XC.seq<|XC.region<|XL.u (mV I) dC<|XL.u (gQ I I) dC<|XL.nil<|XT.thenN<|XC.ifP I (fun hge=>?_) (fun hge=>?_)
 ·have hn1:n - 1<l.length:=oM;have hv':=za5 hv hle;have hb1:=za6 hv' oM;have hgx:l[((n:Int) - 1).toNat]?=some l[n - 1]:=by rw[show ((n:Int) - 1).toNat=n - 1 by omega]; exact gE hn1
  have hrg:=zZ hn1;rw[show l.length - 1 - (n - 1)=l.length - n by omega] at hrg;have hsp:qN l=(qN l).take (l.length - n)++(n - 1,l[n - 1])::(qN l).drop (l.length - n+1):=by
   obtain ⟨h1,h2⟩:=zf8.1 hrg;rw[← h2,List.getElem_cons_drop,zj5]
  have hy:=hY _ _ _ j sx hsp hJ;have htk:(qN l).take (l.length - (n - 1))=(qN l).take (l.length - n)++[(n - 1,l[n - 1])]:=by
   obtain ⟨h1,h2⟩:=zf8.1 hrg;rw[show l.length - (n - 1)=l.length - n+1 by omega,tS h1,h2]
  generalize l[n - 1]=x at *;have hvn:vi ((n - 1:Nat):Int)=vi ((n:Int) - 1):=ze5 vi oM;dsimp only at hy;rw[hvn] at hy;refine XC.skip<|XT.thenN<|XC.seq<|XC.block<|XC.seq<|XC.region<|XL.u (mV I) dC<|XL.u (mV I) dC<|XL.q (qL (v:=.slice p l.length c) isAgg182 I<|cK (hle _ _ hb) I) dC<|XL.u (mV I) dC<|XL.u (iA qd sizeOf114 I I hb1 oM sL) dC<|XL.q (eB isAgg114 I (za7 hv') hgx I) dC<|XL.x (XO.yield I I hy) dC ?_;rintro _ _ _ ⟨rfl,j',hJ',rfl,rfl⟩;exact XL.u (SU.not I) dC<|XL.nil<|XT.thenN<|XC.condF I<|XC.skip<|XT.blockN<|XT.thenN<|XC.region<|XL.u (mV I) dC<|XL.u (sU I I oM) dC<|XL.u (aS I) dC<|XL.nil<|XT.again (j',n - 1) ⟨I,I,Cg I oM,trivial⟩ I I ⟨by dsimp only; omega,by dsimp only; rw[htk]; exact hJ'⟩ (by dsimp only; omega)
 ·have hn0:n=0:=oM;subst hn0;exact XC.exit<|XT.thenX<|XT.thenX<|XT.blockX<|XT.leave0 (.inr I)<|ST.ret0 (.inr I) results207 ⟨j,by have:=hJ; rwa [tL (by rw[nK]; omega)] at this,I,I⟩
def uf:Ren :=
 {
  f:=fun x =>
   match x with
   | 161=>184
   | 231=>208
   | 227=>209
   | 233=>210
   | 235=>211
   | 228=>220
   | 197=>221
   | 151=>222
   | 260=>226
   | 152=>227
   | 137=>228
   | 119=>229
   | 224=>230
   | 225=>231
   | 217=>232
   | 266=>233
   | n=>n,
  t:=fun x =>
   match x with
   | 9=>9
   | 4=>4
   | 3=>3
   | 5=>5
   | 117=>235
   | 116=>234
   | 0=>0
   | 124=>238
   | 105=>246
   | 21=>21
   | 119=>251
   | 46=>170
   | 139=>254
   | 138=>253
   | n=>n,
  g:=fun x =>
   match x with
   | 3=>0
   | 4=>1
   | n=>n }
theorem Tryz.lays161:Lays.n161 Tryz.prog uf :=
  {
  mixed:=Eq.refl true,f119:=zb8 func229<|ze5 some kR,
  f137:=zb8 func228<|ze5 some kR,
  f151:=zb8 func222<|ze5 some kR,
  f152:=zb8 func227<|ze5 some kR,
  f161:=zb8 func184<|ze5 some kR,
  f197:=zb8 func221<|ze5 some kR,
  f217:=zb8 func232<|ze5 some kR,
  f224:=zb8 func230<|ze5 some kR,
  f225:=zb8 func231<|ze5 some kR,
  f227:=zb8 func209<|ze5 some kR,
  f228:=zb8 func220<|ze5 some kR,
  f231:=zb8 func208<|ze5 some kR,
  f233:=zb8 func210<|ze5 some kR,
  f235:=zb8 func211<|ze5 some kR,
  f260:=zb8 func226<|ze5 some kR,
  f266:=zb8 func233<|ze5 some kR,t0:=underlying0,
  a0:=isAgg0,z0:=sizeOf0,v0:=zeroValue0,t3:=uT3,a3:=iT3,
  z3:=zT3,v3:=zeroValue3,t4:=uT4,a4:=isAgg4,z4:=zT4,
  v4:=zeroValue4,t5:=uT5,a5:=isAgg5,z5:=sizeOf5,v5:=zeroValue5,
  t9:=uT9,a9:=isAgg9,z9:=sizeOf9,v9:=zeroValue9,t21:=underlying21,
  a21:=isAgg21,z21:=sizeOf21,v21:=zeroValue21,t46:=fG,a46:=isAgg170,
  z46:=sizeOf170,v46:=zeroValue170,t105:=underlying246,a105:=isAgg246,
  z105:=sizeOf246,v105:=zeroValue246,t116:=underlying234,a116:=isAgg234,
  z116:=sizeOf234,t117:=underlying235,a117:=isAgg235,z117:=sizeOf235,
  v117:=zeroValue235,t119:=underlying251,a119:=isAgg251,z119:=sizeOf251,
  t124:=underlying238,a124:=isAgg238,z124:=sizeOf238,v124:=zeroValue238,
  t138:=underlying253,a138:=isAgg253,z138:=sizeOf253,v138:=zeroValue253,
  t139:=underlying254,a139:=isAgg254,z139:=sizeOf254,v139:=zeroValue254,
  g3:=kR,g4:=kR }
def l8 (l:List UInt8):List UInt8:=l.dropWhile (· == 0)
theorem qr (E:World)(g:PH)(s:Own)(l:List UInt8) :
  Ctr Tryz.prog E 184 #[txt l,txt [0]] g s (fun r g' s'=>r=txt (l8 l)∧g=g'∧s=s'):=by
 intro w hw;refine (Any.strings_TrimLeft_one lays161 ⟨l.toArray⟩ 0 dC w).mono ?_;rintro e w' ⟨rfl,rfl⟩;exact⟨_,g,s,I,hw,I,I,I⟩
def by4 (x:Int):List Int:=[IntKind.u8.wrap<|x.fdiv<|2 ^ min (24:Int).toNat IntKind.u64.bits,IntKind.u8.wrap<|x.fdiv<|2 ^ min (16:Int).toNat IntKind.u64.bits,IntKind.u8.wrap<|x.fdiv<|2 ^ min (8:Int).toNat IntKind.u64.bits,IntKind.u8.wrap x]
def byP (x:Nat×Int):List Int:=by4 x.2
theorem wB (l:List (Nat×Int)):(l.flatMap byP).length=4 * l.length:=by
 induction l with
 | nil=>rfl
 | cons a t ih=>simp only[zh8,ze8,ih,zf2,byP,by4,zc5]; omega
theorem uB (l:List Int):(eL l).length≤l.length:=by
 unfold eL;rw[List.length_reverse];have:=(List.dropWhile_sublist (l:=l.reverse) (· == 0)).length_le;simpa using this
def mB (l:List Int):List UInt8:=l8 (byt<|(qN<|eL l).flatMap byP)
def zq (neg:Bool)(bs:List UInt8):Value:=.agg #[vb<|neg&&decide (bs≠[]),txt bs]
theorem Tryz.build75 (a:Bool)(l:List UInt8)(w:World):(Instr.build 75 #[(0,vb a),(1,txt l)]).run Tryz.prog w = .ok (.agg #[vb a,txt l]) w:=by
 have h1:(vb a).cells = #[vb a]:=rfl;have h2:(txt l).cells = #[txt l]:=rfl;simp[Instr.build,Instr.fill,h1,h2];rfl
theorem sH (E:World)(g:PH)(s:Own)(v:Value)(l:List Int)(neg:Bool)(hv:SlA B9 g v l)(hl:l.length<1099511627776) :
  Ctr Tryz.prog E 148 #[v,vb neg] g s (fun r g' s'=>r=zq neg (mB l)∧s=s'∧Le g g'):=by
 have htl:=uB l;refine Ctr.ofX (args:=[v,vb neg]) func148 I ntmps148 (bE I)<|XC.seq<|XC.region<|XL.o (aL zeroValue75) dC ?_;rintro _ _ _ ⟨b4,rfl,rfl,rfl⟩;refine XL.nil<|XT.thenN<|XC.seq<|XC.region<|XL.u (mV I) dC<|XL.o (cL call182 I<|yg E g _ v l hv hl) dC ?_;rintro v10 _ _ ⟨rfl,rfl,hm⟩;obtain ⟨q,d,rfl⟩:=za4 hm;refine XL.u (aS I) dC<|XL.nil<|XT.thenN<|XC.seq<|XC.region<|XL.u (mV I) dC<|XL.u (eN qd I) dC<|XL.u (SU.eq (v':=vi<|(4 * (eL l).length:Nat)) (SU.mul I I oM)<|ze5 vi oM) dC<|XL.o (SO.makeC qk sty151 I I oM oM) dC ?_;rintro v14 _ _ ⟨rfl,rfl⟩;refine XL.facts fun ⟨w0,hw0⟩=>?_;obtain ⟨p14,c14,rfl⟩:=ag (i:=0) hw0 rfl;clear hw0 w0;refine XL.o (aL zeroValue151) dC ?_;rintro _ _ _ ⟨b5,rfl,rfl,rfl⟩;refine XL.on (sK 0 sizeOf151 I I I I I sB) ?_;rintro _ _ _ ⟨rfl,rfl⟩;refine XL.nil<|XT.thenN<|XC.seq<|XC.seq<|XC.region<|XL.u (mV I) dC<|XL.o (cL call183 I<|qH E _ _ _ I) dC ?_;rintro _ g1 _ ⟨rfl,hle,bb,rfl,hbb⟩;refine XL.nil<|XT.thenN<|XC.block<|XC.to (g':=g1) (s':=rowA qk 5 (.slice p14 0 c14) []::pt b5 (.cells #[.slice p14 0 c14] 151 (0,0))::pt b4 (.cells #[vb false,txt []] 75 (0,0))::s) (fun w hw=>hw.perm<|zk4 _ _ _)<|XC.rangeFunc (α:=Nat×Int) (ι:=Value×List Int) (encs:=fun x=>[vi x.1,.int .u64 x.2]) (xs:=qN<|eL l) (g0:=g1) (fun _=>g1) (fun i=>rowA qk 5 i.1 i.2::pt b5 (.cells #[i.1] 151 (0,0))::pt b4 (.cells #[vb false,txt []] 75 (0,0))::[]) (fun pre i=>i.2=pre.flatMap byP) (.slice p14 0 c14,[]) s
  (fun x=>[(18,.int .u64 x.2),(17,vi x.1),(5,pp b5 0)]) (fun _ x _=>[(7,.int .u64 x.2),(5,pp b5 0)]) rfl rfl call207 (fun _=>rfl) rfl rfl (oG E g1 bb _ _ hbb (za5 hm hle) oM) (fun _ _ _=>zb9 _) rfl
  (fun x a h=>BK (h.sub (g:=[(5,pp b5 0)]) ⟨rfl,trivial⟩) dC dC) ?_ ?_ ?_
 ·intro k pre x i sx hJ;exact XC.region<|XL.u (aS I) dC<|XL.nil<|XT.assignEnd sB
 ·rintro k pre ⟨xi,x⟩ suf ⟨bv,bs⟩ sx hxs hJ;dsimp only at hJ ⊢;have hpl:pre.length<(eL l).length:=by
   have:=ze5 List.length hxs;rw[nK,ze8,zf2] at this;omega
  have hbl:bs.length=4 * pre.length:=by rw[hJ,wB]
  refine XC.facts fun ⟨w0,hw0⟩=>?_;obtain ⟨q2,d2,rfl⟩:=ag (i:=0) hw0 rfl;clear hw0 w0;refine XC.block<|XC.region<|XL.q (qL (v:=.slice q2 bs.length d2) isAgg151 I<|cO 1 I I) dC<|XL.u (mV I) dC<|XL.u (SU.shr I I dC) dC<|XL.u (ze2 lT uT5 I) dC<|XL.u (mV I) dC<|XL.u (SU.shr I I dC) dC<|XL.u (ze2 lT uT5 I) dC<|XL.u (mV I) dC<|XL.u (SU.shr I I dC) dC<|XL.u (ze2 lT uT5 I) dC<|XL.u (mV I) dC<|XL.u (ze2 lT uT5 I) dC<|XL.o (bS sty151 I I I (ae sB) dC) dC ?_;rintro _ _ _ ⟨b31,rfl,rfl,rfl⟩;refine XL.to (fun w hw=>At.litRow (e:=qk) (l:=by4 x) (n:=3) hw I I dC)<|XL.o (SO.appendE (m:=4) 1 (bs++by4 x).length ((bs++by4 x).flatMap qk.enc) sty151 I I I I I (zb7 0 I) (qk.length<|by4 x) (qk.ones _) (by simp[by4]) (by simp) (by simp[by4]; omega) (by simp[by4]; omega)) dC ?_;rintro v32 _ _ ⟨rfl,rfl⟩;refine XL.facts fun ⟨w0,hw0⟩=>?_;obtain ⟨q3,d3,rfl⟩:=ag (e:=qk) (l:=bs++by4 x) (i:=1) hw0 rfl;clear hw0 w0;refine XL.on (sK 2 sizeOf151 I I I I I sB) ?_;rintro _ _ _ ⟨rfl,rfl⟩;exact XL.nil<|XT.blockN<|XT.drop (zj4 _ _)<|XT.roundEnd (.slice q3 (bs++by4 x).length d3,bs++by4 x) I I (by dsimp only; rw[List.flatMap_append,hJ]; simp[byP])
 ·rintro D ⟨bv,bs⟩ hJ;dsimp only at hJ ⊢;refine XT.facts fun ⟨w0,hw0⟩=>?_;obtain ⟨q2,d2,rfl⟩:=ag (i:=1) hw0 rfl;clear hw0 w0;refine XT.blockN<|XT.thenN<|XC.seq<|XC.region<|XL.q (qL (v:=.slice q2 bs.length d2) isAgg151 I<|cO 2 I I) dC<|XL.q (SQ.bytesText underlying151 uT5 uT9 I<|zb7 1 I) dC<|XL.o (cL call184 I<|qr E g1 _<|byt bs) dC ?_;rintro _ _ _ ⟨rfl,rfl,rfl⟩;refine XL.u (aS I) dC<|XL.nil<|XT.thenN ?_;have hbs:l8 (byt bs)=mB l:=by unfold mB; rw[hJ]
  rw[hbs];generalize mB l=T at *;cases neg
  ·refine XC.seq<|XC.region<|XL.u (mV I) dC<|XL.u (mV I) dC<|XL.off (gZ I I I dC) dC<|XL.off (gZ I I I dC) dC<|XL.u (wF I I) dC<|XL.u (mV I) dC<|XL.u (za3 I<|build75 _ _) dC<|XL.on (sK 3 qM I I I I I sB) ?_;rintro _ _ _ ⟨rfl,rfl⟩;exact XL.nil<|XT.thenN<|XC.ret<|XT.leave1 (.inl I)<|ST.retCD 2 s (.inl I) results148 I isAgg75 qM I I (.cons _<|.cons _<|.cons _<|.refl _) ⟨I,I,hle⟩
  ·refine XC.seq<|XC.region<|XL.u (mV I) dC<|XL.u (mV I) dC<|XL.gu (gT I I I dC) (mV I) dC<|XL.gu (gT I I I dC) (SU.neqT I I) dC<|XL.u (wT I I) dC<|XL.u (mV I) dC<|XL.u (za3 I<|build75 _ _) dC<|XL.on (sK 3 qM I I I I I sB) ?_;rintro _ _ _ ⟨rfl,rfl⟩;exact XL.nil<|XT.thenN<|XC.ret<|XT.leave1 (.inl I)<|ST.retCD 2 s (.inl I) results148 I isAgg75 qM I I (.cons _<|.cons _<|.cons _<|.refl _) ⟨I,I,hle⟩
open Go Go.Sy Go.Pl Go.Proofs
theorem SU.negK {P:Program}{N:Nat}{f:Fr}{dst:Option Tmp}{ty:TypeId}{pos:String}{af:Array Edge}{gd:Option (Nat×Bool)}{x:Operand}{T:TypeId}{k:IntKind}{n:Int}(hx:ev f x=some (.int k n)):SU P N ⟨dst,.unOp .neg T x,ty,pos,af,gd⟩ f (.int k<|k.wrap<|0 - n):=fun a w ha=>by
 simp only[execOp,ha.ev hx]; rfl
theorem A9 (n:Int):IntKind.u64.wrap n=n % 18446744073709551616:=by simp[IntKind.wrap,IntKind.bits,IntKind.signed]
theorem Cw (m:Nat)(h:m<18446744073709551616):IntKind.u64.wrap (BitVec.ofInt IntKind.u64.bits (m:Int) &&& BitVec.ofInt IntKind.u64.bits 4294967295).toNat=((m % 4294967296:Nat):Int):=by
 have h1:(BitVec.ofInt IntKind.u64.bits (m:Int) &&& BitVec.ofInt IntKind.u64.bits 4294967295).toNat=m % 4294967296:=by
  have hb:IntKind.u64.bits=64:=rfl;rw[hb,BitVec.toNat_and];have e1:(BitVec.ofInt 64 (m:Int)).toNat=m:=by
   rw[BitVec.toNat_ofInt];omega
  have e2:(BitVec.ofInt 64 4294967295).toNat=2 ^ 32 - 1:=by decide
  rw[e1,e2,Nat.and_two_pow_sub_one_eq_mod]
 rw[h1];exact IntWalk.u64_in _ oM
theorem CV (m:Nat):((m:Nat):Int).fdiv (2 ^ min (32:Int).toNat IntKind.u64.bits)=((m / 4294967296:Nat):Int):=by
 have h1:((2:Int) ^ min (32:Int).toNat IntKind.u64.bits)=4294967296:=by decide
 rw[h1,Int.fdiv_eq_ediv_of_nonneg _ dC];omega
theorem Tryz.buildE75 (w:World):(Instr.build 75 #[]).run Tryz.prog w = .ok (.agg #[vb false,txt []]) w:=by
 simp[Instr.build,Instr.fill];rfl
def wP (n:Int):List Int:=[((n.natAbs % 4294967296:Nat):Int),((n.natAbs / 4294967296:Nat):Int)]
theorem Ar (E:World)(g:PH)(s:Own)(n:Int)(h0 : -9223372036854775808≤n)(h1:n<9223372036854775808) :
  Ctr Tryz.prog E 129 #[vi n] g s (fun r g' s'=>r=zq (decide (n<0)) (mB<|wP n)∧s=s'∧Le g g'):=by
 refine zb2 (args:=[vi n]) func129 I ntmps129 (bE I)<|rZ (bW (aL zeroValue75) fun b2=>?_);refine tZ<|sW I<|lU (ze2 uT3 lT I)<|aT I<|SC.cut (ι:=Unit) (fun _=>[(0,vi n),(2,pp b2 0),(3,.int .u64 (n.natAbs:Int))]) (fun _=>g) (fun _=>pt b2 (.cells #[vb false,txt []] 75 (0,0))::s) (fun _=>True) ?_ ?_
 ·refine sW I<|yL I<|tZ<|iP I (fun hn=>?_) (fun hn=>?_)
  ·have hw:IntKind.u64.wrap (0 - IntKind.u64.wrap n)=(n.natAbs:Int):=by
    rw[A9,A9]; omega
   exact rG<|lM I<|lU (SU.negK I)<|lA I<|nL<|za9 () ⟨I,I,by rw[← hw]; rfl,trivial⟩ rfl rfl trivial
  ·have hw:IntKind.u64.wrap n=(n.natAbs:Int):=by
    rw[A9]; omega
   exact kP<|za9 () ⟨I,I,by rw[← hw]; rfl,trivial⟩ rfl rfl trivial
 rintro _ -;try dsimp only
 refine sW I<|lU (SU.eq (v':=.int .u64 ((n.natAbs % 4294967296:Nat):Int)) (SU.and I I)<|ze5 _<|Cw _ oM)<|lM I<|lU (SU.eq (v':=.int .u64 ((n.natAbs / 4294967296:Nat):Int)) (SU.shr I I dC)<|ze5 _<|CV _)<|lW (bS sty182 I I I (ae sB) dC) ?_;rintro _ _ _ ⟨b14,rfl,rfl,rfl⟩;refine zb5 fun g1 hle1 hb=>?_;refine lM I<|yL I<|lW (cL call148 I<|sH E g1 _ _ (wP n) _ (SlA.lit hb I I)<|by simp[wP]) ?_;rintro _ g2 _ ⟨rfl,rfl,hle2⟩;refine oZ (sK 0 qM I I I I I sB) ?_;refine tZ<|rE ?_;exact ST.retCD 0 s (.inl I) results129 I isAgg75 qM I I uR ⟨I,I,hle1.trans hle2⟩
def hiB (x:Int):Int:=IntKind.u8.wrap (IntKind.i64.wrap<|x.tdiv 256)
def loB (x:Int):Int:=IntKind.u8.wrap (x.tmod 256)
def eU:List Int→List Int
 | []=>[]
 | x::D=>eU D++((if decide (D≠[])||decide (x≥256) then [hiB x] else [])++[loB x])
theorem rK:∀ D:List Int,(eU D).length≤2 * D.length
 | []=>by simp[eU]
 | x::D=>by
  have:=rK D;simp only[eU,ze8,zf2,zc5];split <;> simp <;> omega
theorem sA (E:World)(g:PH)(s:Own)(v:Value)(neg:Bool)(l:List Int)(hv:SlA encInt g v l)(hl:l.length<1099511627776) :
  Ctr Tryz.prog E 61 #[vb neg,v] g s (fun r g' s'=>r = .agg #[vb<|neg&&decide (eL l≠[]),txt<|byt<|eU<|eL l]∧s=s'∧Le g g'):=by
 have htl:=uB l;refine zb2 (args:=[vb neg,v]) func61 I ntmps61 (bE I)<|rZ (bW (aL zeroValue75) fun b4=>?_);refine tZ<|sW I<|lW (cL call108 I<|sC E g _ v l hv hl) ?_;rintro v8 _ _ ⟨rfl,rfl,hm⟩;obtain ⟨q,d,rfl⟩:=za4 hm;refine aT I<|sQ<|sW I<|lU (eN aK I)<|yE I<|tZ ?_;generalize eL l=t at *;refine iP I (fun hz=>?_) (fun hz=>?_)
 ·have ht0:t=[]:=zf7 oM;subst ht0;exact rZ<|lU (za3 I<|buildE75)<|oZ (sK 0 qM I I I I I sB)<|tZ<|rE<|tR<|ST.retCD 0 s (.inl I) results61 I isAgg75 qM I I uR ⟨by cases neg <;> rfl,I,zb9 g⟩
 ·refine kP<|tN<|rZ<|aT I<|sQ<|sW I<|lU (eN aK I)<|lU (sU I I oM)<|aT I<|bK<|zb6 5 1<|oP (ι:=Nat×Value) (fun i=>[(0,vb neg),(1,.slice q t.length d),(4,pp b4 0),(5,i.2),(6,vi<|(i.1:Int) - 1)]) (fun _=>g) (fun i=>rowA qk 5 i.2 (eU<|t.drop i.1)::pt b4 (.cells #[vb false,txt []] 75 (0,0))::s) (fun i=>i.1≤t.length) (fun i=>i.1) (t.length,.slice none 0 0)
   sB rfl (by dsimp only; rw[List.drop_length]; rfl) (lR _) ?_
  rintro ⟨n,bv⟩ hn;dsimp only at hn ⊢;refine sQ<|sW I<|lU (gQ I I)<|tZ<|iP I (fun hge=>?_) (fun hge=>?_)
  ·have hn1:n - 1<t.length:=oM;have hb1:=za6 hm oM;have hgx:t[((n:Int) - 1).toNat]?=some t[n - 1]:=by rw[show ((n:Int) - 1).toNat=n - 1 by omega]; exact gE hn1
   have hdr:t.drop (n - 1)=t[n - 1]::t.drop n:=by
    have:=zg9 hn1;rwa [show n - 1+1=n by omega] at this
   have hne:decide (t.drop n≠[])=decide ((n:Int) - 1<(t.length:Int) - 1):=by
    rw[decide_eq_decide];constructor
    ·intro h;have:=List.length_pos_iff.2 h;rw[zf3] at this;omega
    ·intro h e;have:=ze5 List.length e;rw[zf3,zc5] at this;omega
   have hlb:=rK<|t.drop n;rw[zf3] at hlb;generalize t[n - 1]=x at *;have hst:eU (t.drop<|n - 1)=eU (t.drop n)++((if decide ((n:Int) - 1<(t.length:Int) - 1)||decide (x≥256) then [hiB x] else [])++[loB x]):=by rw[hdr,eU,hne]
   generalize eU (t.drop n)=B at *;have f1:(n:Int) - 1<(t.length:Int) - 1→(decide ((n:Int) - 1<(t.length:Int) - 1)||decide (x≥256))=true:=fun h=>by rw[zg2 h,Bool.true_or]
   have f2:¬ (n:Int) - 1<(t.length:Int) - 1→(decide ((n:Int) - 1<(t.length:Int) - 1)||decide (x≥256))=decide (x≥256):=fun h=>by rw[zg1 h,Bool.false_or]
   refine kP<|tN<|sQ<|bK<|SC.cut (ι:=Value) (fun i=>[(0,vb neg),(1,.slice q t.length d),(4,pp b4 0),(5,i),(6,vi<|(n:Int) - 1)]) (fun _=>g) (fun i=>rowA qk 5 i (B++(if decide ((n:Int) - 1<(t.length:Int) - 1)||decide (x≥256) then [hiB x] else []))::pt b4 (.cells #[vb false,txt []] 75 (0,0))::s) (fun _=>True) ?_ ?_
   ·refine SC.cutB 31 ((decide ((n:Int) - 1<(t.length:Int) - 1)||decide (x≥256))) ?_ ?_
    ·refine rG<|lM I<|lM I<|lU (eN aK I)<|lU (sU I I oM)<|yL I<|lM I<|sP ?_ ?_
     ·intro h25;exact yA I<|yA I<|yA I<|yA I<|yA I<|yP I<|nL<|zb1 (by (rw[f1 h25]; rfl)) mI
     ·intro h25;exact yC I<|yC I<|lY I I I (iA aK zT3 I I hb1 oM sL)<|SL.gq (gT I I I dC) (eB iT3 I (za7 hm) hgx I) dC<|lY I I I (gQ I I)<|yF I<|nL<|zb1 (by (rw[f2 h25]; rfl)) mI
    refine iQ I (fun hc=>?_) (fun hc=>?_)
    ·refine rG<|lM I<|lM I<|lM I<|lU (iA aK zT3 I I hb1 oM sL)<|lK (eB iT3 I (za7 hm) hgx I)<|lU (SU.quo I I dC)<|lU (SU.eq (v':=.int .u8<|hiB x) (ze2 uT3 uT5 I) I)<|lW (bS sty151 I I I (ae sB) dC) ?_;rintro _ _ _ ⟨b39,rfl,rfl,rfl⟩;refine lW (aP (e:=qk) 0 (hiB x) sty151 I I I I I oM oM) ?_;rintro bv' _ _ ⟨rfl,rfl⟩;exact lA I<|nL<|za9 bv' sB I (by rw[zg4 hc]; rfl) trivial
    ·exact kP<|za9 bv sB I (by rw[zg3 (by rw[hc]; simp),zc7]) trivial
   rintro bv2 -;try dsimp only
   have hB2:(B++(if decide ((n:Int) - 1<(t.length:Int) - 1)||decide (x≥256) then [hiB x] else [])).length≤B.length+1:=by
    rw[ze8]; split <;> simp
   rw[← zh2] at hst;generalize (B++(if decide ((n:Int) - 1<(t.length:Int) - 1)||decide (x≥256) then [hiB x] else []))=B2 at *;refine rG<|lM I<|lM I<|lM I<|lU (iA aK zT3 I I hb1 oM sL)<|lK (eB iT3 I (za7 hm) hgx I)<|lU (ze1 I I dC)<|lU (SU.eq (v':=.int .u8<|loB x) (ze2 uT3 uT5 I) I)<|lW (bS sty151 I I I (ae sB) dC) ?_;rintro _ _ _ ⟨b48,rfl,rfl,rfl⟩;refine lW (aP (e:=qk) 0 (loB x) sty151 I I I I I oM oM) ?_;rintro bv3 _ _ ⟨rfl,rfl⟩;exact lA I<|nL<|bN<|tN<|rG<|lM I<|lU (sU I I oM)<|lA I<|nL<|gA (n - 1,bv3) ⟨I,I,I,I,Cg I oM,trivial⟩ I (by dsimp only; rw[hst]; rfl) (by dsimp only; omega) (by dsimp only; omega)
  ·have hn0:n=0:=oM;subst hn0;refine zd5 fun ⟨w0,hw0⟩=>?_;obtain ⟨q2,d2,rfl⟩:=ag (i:=0) hw0 rfl;clear hw0 w0;rw[List.drop_zero] at *;exact xI<|tX<|tX<|bX<|tN<|sW I<|lM I<|lK (SQ.bytesText underlying151 uT5 uT9 I<|zb7 0 I)<|lU (za3 I<|build75 _ _)<|oZ (sK 1 qM I I I I I sB)<|tZ<|rE<|ST.retCD 1 s (.inl I) results61 I isAgg75 qM I I uR ⟨by rw[show decide (t≠[])=true from zg2 (fun e:t=[]=>hz (by rw[e]; rfl)),Bool.and_true]; rfl,rfl,zb9 g⟩
def ll (m:Nat):List Int:=if h:m=0 then [] else ((m % 65536:Nat):Int)::ll (m / 65536)
termination_by m
decreasing_by omega
theorem e6:ll 0=[]:=by unfold ll; rfl
theorem gh {m:Nat}(h:m≠0):ll m=((m % 65536:Nat):Int)::ll (m / 65536):=by rw[ll,dif_neg h]
theorem nR:∀ (k m:Nat),m<65536 ^ k→(ll m).length≤k
 | 0,m,h=>by
  have:m=0:=by simpa using h
  subst this; rw[e6]; simp
 | k+1,m,h=>by
  by_cases h0:m=0
  ·subst h0; rw[e6]; simp
  ·rw[gh h0,zf2];have:=nR k (m / 65536) (by rw[Nat.div_lt_iff_lt_mul dC]; rwa [Nat.pow_succ] at h);omega
theorem ze (m:Nat):eL (ll m)=ll m:=by
 have key:∀ m,ll m=[]∨∃ a x,ll m=a++[x]∧x≠0:=by
  intro m;induction m using Nat.strongRecOn with
  | _ m ih =>
   by_cases h0:m=0
   ·left; subst h0; exact e6
   ·right;rw[gh h0]
    rcases ih (m / 65536) oM with h | ⟨a,x,h,hx⟩
    ·refine⟨[],_,by rw[h]; rfl,?_⟩;by_cases h1:m / 65536=0
     ·omega
     ·rw[gh h1] at h; cases h
    ·exact⟨_::a,x,by rw[h]; rfl,hx⟩
 rcases key m with h | ⟨a,x,h,hx⟩
 ·rw[h]; rfl
 ·rw[h]; simp[eL,hx]
theorem tQ (E:World)(g:PH)(s:Own)(n:Int)(h0 : -9223372036854775808≤n)(h1:n<9223372036854775808) :
  Ctr Tryz.prog E 28 #[vi n] g s (fun r g' s'=>r = .agg #[vb<|decide (n<0)&&decide (ll n.natAbs≠[]),txt<|byt<|eU<|ll n.natAbs]∧s=s'∧Le g g'):=by
 have hdl:=nR 4 n.natAbs oM;refine zb2 (args:=[vi n]) func28 I ntmps28 (bE I)<|rZ (bW (aL zeroValue75) fun b2=>?_);refine tZ<|rZ<|aT I<|sW I<|lU (ze2 uT3 lT I)<|aT I<|SC.cut (ι:=Unit) (fun _=>[(0,vi n),(2,pp b2 0),(3,.slice none 0 0),(4,.int .u64 (n.natAbs:Int))]) (fun _=>g) (fun _=>pt b2 (.cells #[vb false,txt []] 75 (0,0))::s) (fun _=>True) ?_ ?_
 ·refine sW I<|yL I<|tZ<|iP I (fun hn=>?_) (fun hn=>?_)
  ·have hw:IntKind.u64.wrap (0 - IntKind.u64.wrap n)=(n.natAbs:Int):=by
    rw[A9,A9]; omega
   exact rG<|lM I<|lU (SU.negK I)<|lA I<|nL<|za9 () ⟨I,I,I,by rw[← hw]; rfl,trivial⟩ rfl rfl trivial
  ·have hw:IntKind.u64.wrap n=(n.natAbs:Int):=by
    rw[A9]; omega
   exact kP<|za9 () ⟨I,I,I,by rw[← hw]; rfl,trivial⟩ rfl rfl trivial
 rintro _ -;try dsimp only
 refine sQ<|bK<|zb6 3 1<|oP (ι:=Nat×Value×List Int) (fun i=>[(0,vi n),(2,pp b2 0),(3,i.2.1),(4,.int .u64 (i.1:Int))]) (fun _=>g) (fun i=>rowA encInt 3 i.2.1 i.2.2::pt b2 (.cells #[vb false,txt []] 75 (0,0))::s) (fun i=>i.2.2++ll i.1=ll n.natAbs∧i.1≤n.natAbs) (fun i=>i.1) (n.natAbs,.slice none 0 0,[])
  sB rfl rfl ⟨rfl,lR _⟩ ?_
 rintro ⟨m,bv,D⟩ ⟨hD,hm⟩;dsimp only at hD hm ⊢;have hDl:D.length≤4:=by have:=ze5 List.length hD; rw[ze8] at this; omega
 refine sQ<|sW I<|lU (gR I I)<|tZ<|iP I (fun hpos=>?_) (fun hpos=>?_)
 ·have hm0:m≠0:=oM;have hds:=gh hm0;refine kP<|tN<|bK<|sW I<|lM I<|lU (ze1 I I dC)<|lU (SU.eq (v':=vi ((m % 65536:Nat):Int)) (ze2 lT uT3 I)<|ze5 vi (by rw[show ((m:Int)).tmod 65536=((m % 65536:Nat):Int) by rw[Int.tmod_eq_emod_of_nonneg oM]; omega]; exact zl3 _ oM)) ?_;refine lW (bS sty83 I I I (ae sB) dC) ?_;rintro _ _ _ ⟨b17,rfl,rfl,rfl⟩;refine lW (aP (e:=encInt) 0 ((m % 65536:Nat):Int) sty83 I I I I I oM oM) ?_;rintro bv' _ _ ⟨rfl,rfl⟩;refine aT I<|rG<|lM I<|lU (SU.eq (v':=.int .u64 ((m / 65536:Nat):Int)) (SU.quo I I dC)<|ze5 _ (by rw[show ((m:Int)).tdiv 65536=((m / 65536:Nat):Int) by rw[Int.tdiv_eq_ediv_of_nonneg oM]; omega]; exact IntWalk.u64_in _ oM)) ?_;refine lA I<|nL<|bN ?_;exact gA (m / 65536,bv',D++[((m % 65536:Nat):Int)]) sB I I ⟨by dsimp only; rw[← hD,hds]; simp,by dsimp only; omega⟩ (by dsimp only; omega)
 ·have hm0:m=0:=oM;subst hm0;rw[e6,zc7] at hD;subst hD;refine xI (tX<|tX<|bX<|tN<|sQ<|fS fun g1 hle1 hs1=>?_);refine rG<|lM I<|yL I<|lM I<|lW (cL call61 I<|sA E g1 _ bv _ (ll n.natAbs) hs1 oM) ?_;rintro _ g2 _ ⟨rfl,rfl,hle2⟩;exact oZ (sK 0 qM I I I I I sB)<|tZ<|rE<|ST.retCD 0 s (.inl I) results28 I isAgg75 qM I I uR ⟨by rw[ze]; rfl,rfl,hle1.trans hle2⟩
theorem iZ {a b:Nat}(h:a % 256=b % 256):UInt8.ofNat a=UInt8.ofNat b:=by
 apply UInt8.toNat.inj;simpa using h
theorem u8w (k:Nat):IntKind.u8.wrap (k:Int)=((k % 256:Nat):Int):=by simp[IntKind.wrap,IntKind.bits,IntKind.signed]
theorem pM (k:Nat):UInt8.ofNat (IntKind.u8.wrap (k:Int)).toNat=UInt8.ofNat k:=by
 rw[u8w,Int.toNat_natCast]; exact iZ oM
theorem pS (k e:Nat):(k:Int).fdiv ((e:Nat):Int)=((k / e:Nat):Int):=by
 rw[Int.fdiv_eq_ediv_of_nonneg _ oM]; simp
theorem xC (k:Nat):byt (by4 (k:Int))=[UInt8.ofNat<|k / 16777216,UInt8.ofNat<|k / 65536,UInt8.ofNat<|k / 256,UInt8.ofNat k]:=by
 have h1:((2:Int) ^ min (24:Int).toNat IntKind.u64.bits)=((16777216:Nat):Int):=by decide
 have h2:((2:Int) ^ min (16:Int).toNat IntKind.u64.bits)=((65536:Nat):Int):=by decide
 have h3:((2:Int) ^ min (8:Int).toNat IntKind.u64.bits)=((256:Nat):Int):=by decide
 unfold by4;rw[h1,h2,h3,pS,pS,pS];simp only[byt,zg7,List.map_nil,pM]
def beK:Nat→Nat→List UInt8
 | 0,_=>[]
 | k+1,m=>beK k (m / 65536)++[UInt8.ofNat<|m / 256,UInt8.ofNat m]
def qP (m:Nat):List UInt8:=l8 (beK 4 m)
theorem pZ:∀ k,l8 (beK k 0)=[]
 | 0=>rfl
 | k+1=>by
  have ih:=pZ k;unfold l8 at *;rw[beK,List.dropWhile_append,ih];rfl
theorem uN {a:Nat}(h0:a≠0)(h:a<256):UInt8.ofNat a≠0:=fun e=>by
 have:=ze5 UInt8.toNat e;simp at this;omega
theorem lG:∀ (k m:Nat),m<65536 ^ k→byt (eU<|ll m)=l8 (beK k m)
 | 0,m,h=>by
  have:m=0:=by simpa using h
  subst this; rw[e6]; rfl
 | k+1,m,h=>by
  by_cases h0:m=0
  ·subst h0; rw[e6,pZ]; rfl
  ·have ih:=lG k (m / 65536) (by rw[Nat.div_lt_iff_lt_mul dC]; rwa [Nat.pow_succ] at h);rw[gh h0,beK];have hlo:UInt8.ofNat (loB ((m % 65536:Nat):Int)).toNat=UInt8.ofNat m:=by
    unfold loB;rw[show (((m % 65536:Nat):Int)).tmod 256=((m % 65536 % 256:Nat):Int) by rw[Int.tmod_eq_emod_of_nonneg oM]; omega,pM];exact iZ oM
   have hhi:UInt8.ofNat (hiB ((m % 65536:Nat):Int)).toNat=UInt8.ofNat (m % 65536 / 256):=by
    unfold hiB;rw[show (((m % 65536:Nat):Int)).tdiv 256=((m % 65536 / 256:Nat):Int) by rw[Int.tdiv_eq_ediv_of_nonneg oM]; omega,zl3 _ oM,pM]
   by_cases h1:m / 65536=0
   ·rw[h1,e6];have hz:=pZ k;unfold l8 at *;rw[List.dropWhile_append,hz];have hm:m % 65536=m:=oM;rw[hm] at hlo hhi ⊢;simp only[eU,List.nil_append,ne_eq,not_true_eq_false,decide_false,Bool.false_or,List.isEmpty_nil,if_true];by_cases h2:(m:Int)≥256
    ·have hne:(UInt8.ofNat (m / 256) == 0)=false:=by simpa using uN (a:=m / 256) oM oM
     rw[zg2 h2,zg4 rfl,List.dropWhile_cons,hne];simp only[byt,zg8,zg7,List.map_nil,hlo,hhi];rfl
    ·have hq:m / 256=0:=oM;have hne:(UInt8.ofNat m == 0)=false:=by simpa using uN (a:=m) h0 oM
     rw[zg1 h2,zg3 (by simp),hq,List.dropWhile_cons,show (UInt8.ofNat 0 == 0)=true from rfl,zg4 rfl,List.dropWhile_cons,hne];simp only[byt,List.nil_append,zg7,List.map_nil,hlo];rfl
   ·have hD:ll (m / 65536)≠[]:=by rw[gh h1]; simp
    have hne:byt (eU<|ll<|m / 65536)≠[]:=by
     rw[gh h1];simp[byt,eU]
    have hq:UInt8.ofNat (m % 65536 / 256)=UInt8.ofNat (m / 256):=iZ oM;rw[ih] at hne;unfold l8 at *;rw[List.dropWhile_append];have he:(List.dropWhile (fun x=>x == 0)<|beK k<|m / 65536).isEmpty=false:=by simpa using hne
    rw[he];simp only[eU,Bool.false_eq_true,if_false];rw[zg2 hD,Bool.true_or,zg4 rfl];rw[← ih];simp only[byt,zg8,zg7,List.map_nil,hlo,hhi,hq];rfl
theorem Ct {a:Int}(h:a≠0):eL [a,0]=[a]:=by simp[eL,h]
theorem Cs {a b:Int}(h:b≠0):eL [a,b]=[a,b]:=by simp[eL,h]
theorem tt (n:Int)(h:n.natAbs<18446744073709551616):mB (wP n)=qP n.natAbs:=by
 obtain ⟨m,hm⟩:∃ m,m=n.natAbs:=⟨_,rfl⟩;unfold wP;rw[← hm] at h ⊢;have hlo:=xC<|m % 4294967296;have hhi:=xC<|m / 4294967296;have hbe:beK 4 m=[UInt8.ofNat<|m / 4294967296 / 16777216,UInt8.ofNat<|m / 4294967296 / 65536,UInt8.ofNat<|m / 4294967296 / 256,UInt8.ofNat<|m / 4294967296,UInt8.ofNat<|m % 4294967296 / 16777216,UInt8.ofNat<|m % 4294967296 / 65536,UInt8.ofNat<|m % 4294967296 / 256,UInt8.ofNat<|m % 4294967296]:=by
  simp only[beK,List.nil_append,List.cons_append];refine congr (ze5 List.cons ?_)<|congr (ze5 List.cons ?_)<|congr (ze5 List.cons ?_)<|congr (ze5 List.cons ?_)<|congr (ze5 List.cons ?_)<|congr (ze5 List.cons ?_)<|congr (ze5 List.cons ?_)<|congr (ze5 List.cons ?_) I
  all_goals exact iZ oM
 unfold qP mB;rw[hbe];by_cases h1:m / 4294967296=0
 ·by_cases h2:m % 4294967296=0
  ·rw[h1,h2]; rfl
  ·have ht:eL [((m % 4294967296:Nat):Int),((m / 4294967296:Nat):Int)]=[((m % 4294967296:Nat):Int)]:=by
    rw[h1];exact Ct oM
   rw[ht];show l8 (byt<|by4 _++[])=_;rw[zc7,hlo,h1];rfl
 ·have ht:eL [((m % 4294967296:Nat):Int),((m / 4294967296:Nat):Int)]=[((m % 4294967296:Nat):Int),((m / 4294967296:Nat):Int)]:=by
   exact Cs oM
  rw[ht];show l8 (byt<|by4 _++(by4 _++[]))=_;rw[zc7];have:byt (by4 ((m / 4294967296:Nat):Int)++by4 ((m % 4294967296:Nat):Int))=byt (by4 ((m / 4294967296:Nat):Int))++byt (by4 ((m % 4294967296:Nat):Int)):=by simp[byt]
  rw[this,hhi,hlo];rfl
def Bi (n:Int):Value:=zq (decide (n<0)) (qP n.natAbs)
theorem yT (E:World)(g:PH)(s:Own)(n:Int)(h0 : -9223372036854775808≤n)(h1:n<9223372036854775808) :
  Ctr Tryz.prog E 129 #[vi n] g s (fun r g' s'=>r=Bi n∧s=s'∧Le g g') :=
 (Ar E g s n h0 h1).mono fun _ _ _ ⟨h2,h3⟩=>⟨by rw[h2,tt _ oM]; rfl,h3⟩
theorem Az (m:Nat):decide (ll m≠[])=decide (m≠0):=by
 rw[decide_eq_decide];by_cases h:m=0
 ·subst h; rw[e6]; simp
 ·rw[gh h]; simp[h]
theorem Ai {m:Nat}(h:m<18446744073709551616):decide (qP m≠[])=decide (m≠0):=by
 rw[show qP m=byt (eU<|ll m) from (lG 4 m oM).symm,decide_eq_decide];by_cases h0:m=0
 ·subst h0; rw[e6]; simp[eU,byt]
 ·rw[gh h0]; simp[h0,eU,byt]
theorem mg (E:World)(g:PH)(s:Own)(n:Int)(h0 : -9223372036854775808≤n)(h1:n<9223372036854775808) :
  Ctr Tryz.prog E 28 #[vi n] g s (fun r g' s'=>r=Bi n∧s=s'∧Le g g') :=
 (tQ E g s n h0 h1).mono fun _ _ _ ⟨h2,h3⟩=>⟨by
  rw[h2,lG 4 _ oM,Az];unfold Bi zq;rw[Ai oM];rfl,h3⟩
def ff (l:List Cl):List Int:=l.flatMap fun c=>c.sides.map Side.cell
theorem tH (A:List Cl)(k:Int):(ff A).contains k=j5 A k:=by
 rw[Bool.eq_iff_iff];simp[ff,j5,mw]
theorem sr {A:List Cl}{k:Nat}(h:k<A.length):ff (A.take<|k+1)=ff (A.take k)++A[k].sides.map Side.cell:=by
 unfold ff;rw[tS h,List.flatMap_append];simp only[zh8,List.flatMap_nil,zc7]
theorem Au {A:List Cl}{id:Int}(h:aB A id=none)(m:List Int):gt A (m++[id])=gt A m:=by
 unfold gt;refine zc9 fun c hc=>?_;have:=List.find?_eq_none.1 h c hc;simp only[zj8] at this;simp[this]
theorem ym {ss:List Side}{j:Nat}(h:j<ss.length)(m:List Int):m++(ss.take<|j+1).map Side.cell=(m++(ss.take j).map Side.cell)++[ss[j].cell]:=by
 rw[tS h,zg8,zh2]; rfl
theorem sD (E:World)(g:PH)(s:Own)(v:Value)(l:List Cl)(hv:ao g v l)(hf:bo l) :
  Ctr Tryz.prog E 42 #[.agg #[v]] g s (fun r g' s'=>s=s'∧Le g g'∧dQ g' r (tw l)):=by
 have hft:=bP hf;have hfl:=hft.1;have hsrt:=gL l;have hnd:=lx l;refine zb2 (args:=[.agg #[v]]) func42 I ntmps42 (bE I)<|rZ (bW (bO I) fun b1=>?_);refine aT I<|rZ<|aT I<|rZ<|lK (qV 0 aw ah I I I)<|lW (cL call66 I<|dq E g _ _ l hv hf) ?_;rintro v11 g1 _ ⟨rfl,hle,hc⟩;obtain ⟨rs,hrs,hall⟩:=hc;have hcs:ao g1 _ (am l):=⟨rs,hrs,hall⟩;obtain ⟨q,dd,rfl⟩:=hrs.form;have hrl:=hall.length;refine aT I<|sW I<|lU (eN aI I)<|lW (mK iJ false sty124 I I I oM oM) ?_;rintro _ _ _ ⟨b14,rfl,rfl,rfl⟩;refine aT I<|sQ<|rZ<|aT I<|bK ?_;unfold tw;generalize am l=A at *;refine SC.to (g':=g1) (s':=rowA iJ 4 (.slice (some ⟨b14,0,none⟩) rs.length rs.length) (gt A<|ff<|A.take 0)::pt b1 (.cells #[v] 29 (0,0))::s) (fun w hw=>by rw[show ff (A.take 0)=[] from I,y5,hrl]; exact hw) ?_;refine oP (ι:=Nat) (fun i=>[(3,.slice none 0 0),(4,.slice q rs.length dd),(5,.slice (some ⟨b14,0,none⟩) rs.length rs.length),(6,vi i)]) (fun _=>g1)
  (fun i=>rowA iJ 4 (.slice (some ⟨b14,0,none⟩) rs.length rs.length) (gt A<|ff<|A.take i)::pt b1 (.cells #[v] 29 (0,0))::s)
  (fun i=>i≤A.length) (fun i=>A.length - i) 0 sB rfl rfl (zf9 _) ?_
 intro k hk;refine sQ<|sW I<|lM I<|lU (eN aI I)<|yL I<|tZ<|iP I (fun hlt=>?_) (fun hlt=>?_)
 ·have hkl:k<A.length:=oM;have hkr:k<rs.length:=oM;have hb1:=hrs.based oM;have hcr:=hall.get (gE hkl)<|gE hkr;have hgr:rs[((k:Nat):Int).toNat]?=some rs[k]:=gE hkr;have hsucc:=sr hkl;have hxl:=hft.2 _<|gM hkl;generalize A[k]=x at *;generalize rs[k]=r at *;generalize ff (A.take k)=m at *;obtain ⟨ri,rd,rp,rn,rc⟩:=r;have hsv:SlA encSide g1 (.slice rp rn rc) x.sides:=hcr.2.2;have hxn:rn=x.sides.length:=by obtain ⟨q,cc,hq⟩:=za4 hsv; simp at hq; exact hq.2.1
  subst hxn;refine kP<|tN<|sQ<|bK<|rZ<|aT I<|bK<|oP (ι:=Nat) (fun j=>[(3,.slice none 0 0),(4,.slice q rs.length dd),(5,.slice (some ⟨b14,0,none⟩) rs.length rs.length),(6,vi k),(7,vi j)]) (fun _=>g1)
   (fun j=>rowA iJ 4 (.slice (some ⟨b14,0,none⟩) rs.length rs.length) (gt A<|m++(x.sides.take j).map Side.cell)::pt b1 (.cells #[v] 29 (0,0))::s)
   (fun j=>j≤x.sides.length) (fun j=>x.sides.length - j) 0 sB rfl (by simp) (zf9 _) ?_
  intro j hj;refine sQ<|sW I<|lM I<|lM I<|lU (iA aI au I I hb1 oM sL)<|lU (fC aq I aJ I hb1)<|lK (aZ (e:=encCell) (o:=2) (u:=.slice rp x.sides.length rc) aX I hrs.rd hgr I)<|lU (eN aM I)<|yL I<|tZ<|iP I (fun hlt2=>?_) (fun hlt2=>?_)
  ·have hjl:j<x.sides.length:=oM;have hb2:=za6 hsv oM;have hgj:x.sides[((j:Nat):Int).toNat]?=some x.sides[j]:=gE hjl;have hms:=ym hjl m;generalize m++(x.sides.take j).map Side.cell=m2 at *;generalize x.sides[j]=z at *;have hfl2:(gt A m2).length=A.length:=by simp[gt]
   rcases pC hsrt z.cell with ⟨hf0,hat⟩ | ⟨c,kk,hf0,hat,hck⟩
   ·refine kP<|tN<|sQ<|bK<|sW I<|lM I<|lM I<|lU (iA aI au I I hb1 oM sL)<|lU (fC aq I aJ I hb1)<|lK (aZ (e:=encCell) (o:=2) (u:=.slice rp x.sides.length rc) aX I hrs.rd hgr I)<|lM I<|lU (iA aM aH I I hb2 oM sL)<|lU (fC bZ I zT3 I hb2)<|lK (aZ (o:=0) (u:=vi z.cell) iT3 I hsv.rd hgj I)<|lW (cL call67 I<|gW E g1 _ _ A z.cell hcs hfl hsrt) ?_;rintro _ _ _ ⟨rfl,rfl,rfl⟩;rw[hat];exact aT I<|sW I<|lU (SU.eq (v':=vb false) (gQ I I)<|ze5 vb<|zg1 oM)<|tZ<|za1 I<|kP<|bN<|tN<|rG<|lM I<|yD I<|lA I<|nL<|gA (j+1) sB I (by rw[hms,Au hf0]) oM oM
   ·have hkl2:kk<A.length:=(zf8.1 hck).1;have hset:(gt A m2).set kk true=gt A (m2++[z.cell]):=by rw[yZ hnd hck,(gG hf0).2]
    refine kP<|tN<|sQ<|bK<|sW I<|lM I<|lM I<|lU (iA aI au I I hb1 oM sL)<|lU (fC aq I aJ I hb1)<|lK (aZ (e:=encCell) (o:=2) (u:=.slice rp x.sides.length rc) aX I hrs.rd hgr I)<|lM I<|lU (iA aM aH I I hb2 oM sL)<|lU (fC bZ I zT3 I hb2)<|lK (aZ (o:=0) (u:=vi z.cell) iT3 I hsv.rd hgj I)<|lW (cL call67 I<|gW E g1 _ _ A z.cell hcs hfl hsrt) ?_;rintro _ _ _ ⟨rfl,rfl,rfl⟩;rw[hat];refine aT I<|sW I<|lU (SU.eq (v':=vb true) (gQ I I)<|ze5 vb<|zg2 oM)<|tZ<|za2 I<|rG<|lM I<|lM I<|lU (iA underlying124 zT4 I I I oM sL)<|oZ (sT (e:=iJ) (a:=true) 0 zT4 I I I (by rw[hfl2]; omega) I) ?_;exact nL<|bN<|tN<|rG<|lM I<|yD I<|lA I<|nL<|gA (j+1) sB I (by rw[hms,← hset]; rfl) oM oM
  ·have hjj:x.sides.take j=x.sides:=tL oM;rw[hjj,← hsucc];exact xI<|tX<|tX<|bX<|bN<|tN<|rG<|lM I<|yD I<|lA I<|nL<|gA (k+1) sB I I oM oM
 ·have hkk:A.take k=A:=tL oM;rw[hkk];refine xI<|tX<|tX<|bX<|tN<|sQ<|rZ<|aT I<|bK<|cP (zk4 _ _ _)<|cP (zk4 _ _ _)<|zb6 3 1<|oP (ι:=Value×Nat) (fun i=>[(3,i.1),(4,.slice q rs.length dd),(5,.slice (some ⟨b14,0,none⟩) rs.length rs.length),(9,vi i.2)]) (fun _=>g1)
   (fun i=>rowA encInt 3 i.1 (((A.take i.2).filter fun c=>!j5 A c.id).map Cl.id)::rowA iJ 4 (.slice (some ⟨b14,0,none⟩) rs.length rs.length) (gt A<|ff A)::pt b1 (.cells #[v] 29 (0,0))::s)
   (fun i=>i.2≤A.length) (fun i=>A.length - i.2) (.slice none 0 0,0) sB rfl rfl (zf9 _) ?_
  rintro ⟨ov,i⟩ hi;dsimp only at hi ⊢;refine sQ<|sW I<|lM I<|lU (eN aI I)<|yL I<|tZ<|iP I (fun hlt3=>?_) (fun hlt3=>?_)
  ·have hil:i<A.length:=oM;have hir:i<rs.length:=oM;have hb1:=hrs.based oM;have hcr:=hall.get (gE hil)<|gE hir;have hgr:rs[((i:Nat):Int).toNat]?=some rs[i]:=gE hir;have hsucc:=nm hil (fun c=>!j5 A c.id) Cl.id;have hlek:=s8 A i (fun c=>!j5 A c.id) Cl.id;have hgf:(gt A<|ff A)[((i:Nat):Int).toNat]?=some (j5 A A[i].id):=by rw[← tH]; exact y6<|gE hil
   generalize A[i]=x at *;generalize rs[i]=r at *;refine kP<|tN<|sQ<|bK<|sW I<|lM I<|lU (iA underlying124 zT4 I I I oM sL)<|lK (eB (e:=iJ) isAgg4 I (zb7 1 I) hgf I)<|lU (SU.not I)<|tZ<|iQ I (fun htop=>?_) (fun htop=>?_)
   ·refine rG<|lM I<|lM I<|lM I<|lU (iA aI au I I hb1 oM sL)<|lU (fC aq I zT3 I hb1)<|lK (aZ (e:=encCell) (o:=0) (u:=vi x.id) iT3 I hrs.rd hgr (by rw[← hcr.1]; rfl)) ?_;refine lW (bS sty83 I I I (ae sB) dC) ?_;rintro _ _ _ ⟨b64,rfl,rfl,rfl⟩;refine lW (aP (e:=encInt) 0 x.id sty83 I I I I I oM oM) ?_;rintro ov' _ _ ⟨rfl,rfl⟩;refine lA I<|nL<|bN<|tN<|rG<|lM I<|yD I<|lA I<|nL ?_;refine ST.to (fun w hw=>?_) (g':=g1) (s':=rowA encInt 3 ov' (((A.take<|i+1).filter fun c=>!j5 A c.id).map Cl.id)::rowA iJ 4 (.slice (some ⟨b14,0,none⟩) rs.length rs.length) (gt A<|ff A)::pt b1 (.cells #[v] 29 (0,0))::s) ?_
    ·rw[hsucc,zg4 (by simpa using htop)]; exact hw
    exact gA (ov',i+1) sB I I (by dsimp only; omega) lN
   ·refine kP<|bN<|tN<|rG<|lM I<|yD I<|lA I<|nL ?_;refine ST.to (fun w hw=>?_) (g':=g1) (s':=rowA encInt 3 ov (((A.take<|i+1).filter fun c=>!j5 A c.id).map Cl.id)::rowA iJ 4 (.slice (some ⟨b14,0,none⟩) rs.length rs.length) (gt A<|ff A)::pt b1 (.cells #[v] 29 (0,0))::s) ?_
    ·rw[hsucc,zg3 (by simpa using htop),zc7]; exact hw
    exact gA (ov,i+1) sB I I (by dsimp only; omega) lN
  ·have hii:A.take i=A:=tL oM;rw[hii];refine xI (tX<|tX<|bX<|tN<|sW I<|aT I<|rE<|fT fun g2 hle2 hs2=>?_);exact dR (s':=s) uR<|za8 (.inl I) results42 I ⟨I,hle.trans hle2,hs2⟩
def lm (L S:Nat)(l:List Cl):Prop:=l.length≤L∧∀ c∈l,c.sides.length≤S
theorem m9.room {l:List Cl}(h:m9 l):lm 5000 1000000 l:=h
theorem lm.mono {L S L' S':Nat}{l:List Cl}(h:lm L S l)(h1:L≤L')(h2:S≤S'):lm L' S' l:=⟨zl2 h.1 h1,fun c hc=>zl2 (h.2 c hc) h2⟩
theorem lm.fits {L S:Nat}{l:List Cl}(h:lm L S l)(h1:L<1099511627776)(h2:S<1099511627776):bo l:=⟨by have:=h.1; omega,fun c hc=>by have:=h.2 c hc; omega⟩
theorem lm.pick {L S:Nat}{l:List Cl}(h:lm L S l)(n:Int):(ei l n).sides.length≤S:=by
 unfold ei;rw[zh4];cases hc:l[(a7 n l.length).toNat]? with
 | none=>simp[C2]
 | some c=>exact h.2 c<|zg5 hc
theorem lm.set {L S:Nat}{l:List Cl}(h:lm L S l)(k:Nat){c:Cl}(hc:c.sides.length≤2 * S+1):lm (L+1) (2 * S+1) (l.set k c):=by
 refine⟨by rw[zi6]; have:=h.1; omega,fun d hd=>?_⟩
 rcases List.mem_or_eq_of_mem_set hd with hd | rfl
 ·have:=h.2 d hd; omega
 ·omega
theorem lm.snoc {L S:Nat}{l:List Cl}(h:lm L S l){c:Cl}(hc:c.sides.length≤2 * S+1):lm (L+1) (2 * S+1) (l++[c]):=by
 refine⟨by rw[ze8,zf1]; have:=h.1; omega,fun d hd=>?_⟩
 rcases zf6.1 hd with hd | hd
 ·have:=h.2 d hd; omega
 ·simp at hd; subst hd; omega
theorem zY {L S:Nat}{p:Prop}[Decidable p]{a b:List Cl}(ha:lm L S a)(hb:lm L S b):lm L S (if p then a else b):=by split <;> assumption
theorem tA {L S:Nat}{l:List Cl}(h:lm L S l)(q0 q1 q2:Int):lm (L+1) (2 * S+1) (mC l q0 q1 q2):=by
 unfold mC;split
 ·exact⟨by simp,by simp⟩
 ·have hx:=h.pick q1;have hy:=h.pick q2;generalize ei l q1=x at *;generalize a7 q0 13=m;unfold th
  repeat' with_reducible refine zY ?_ ?_
  ·exact h.set _ (c:=⟨_,_,x.sides⟩) (by show x.sides.length≤_; omega)
  ·exact h.set _ (c:=⟨_,_,x.sides⟩) (by show x.sides.length≤_; omega)
  ·exact⟨by have:=List.length_eraseIdx_le l (a7 q1 l.length).toNat; have:=h.1; omega,fun c hc=>by have:=h.2 c<|List.mem_of_mem_eraseIdx hc; omega⟩
  ·exact h.set _ (by simp only[jP,zi6]; omega)
  ·exact h.set _ (by simp only[jP,zi6]; omega)
  ·exact h.set _ (by simp only[jP,zi6]; omega)
  ·exact h.set _ (by simp only[jP]; have:=List.length_eraseIdx_le x.sides<|eh x q2; omega)
  ·exact h.set _ (by simp only[jP,ze8,zf1]; omega)
  ·exact h.snoc (c:=x) oM
  ·exact h.set _ (by simp only[jP,ze8]; omega)
  ·exact h.set _ (by simp only[jP,ze9]; omega)
  ·exact h.snoc (c:=⟨_,_,x.sides⟩) (by show x.sides.length≤_; omega)
  ·exact⟨by have:=h.1; omega,fun c hc=>by have:=h.2 c hc; omega⟩
open Go.ChangeShapes Go.WideShapes Go.ChangeAt Go.RowKit
set_option maxRecDepth 100000
section
variable {H:Type}{enc:TypeId×Value→H}{W:World}{base:Nat}{spare:Nat→Bool}{hd:Bool}
end
theorem xu {α β:Type}{ka:α→Int}{kb:β→Int}{f:α→β}(h:∀ a,kb (f a)=ka a)(x:α):∀ l:List α,ins kb (f x) (l.map f)=(ins ka x l).map f
 | []=>rfl
 | y::r=>by
  simp only[zg7,ins,h];split
  ·rfl
  ·rw[xu h x r]; rfl
theorem lB {α β:Type}{ka:α→Int}{kb:β→Int}{f:α→β}(h:∀ a,kb (f a)=ka a):∀ l:List α,sortBy kb (l.map f)=(sortBy ka l).map f
 | []=>rfl
 | x::r=>by
  simp only[zg7,sortBy];rw[lB h r,xu h]
theorem jp {α:Type}{key:α→Int}(l:List α):(sortBy key l).Perm l:=by
 induction l with
 | nil=>exact .refl _
 | cons x r ih =>
  have h:∀ m:List α,(ins key x m).Perm (x::m):=by
   intro m;induction m with
   | nil=>exact .refl _
   | cons y t iht =>
    simp only[ins];split
    ·exact .refl _
    ·exact (List.Perm.cons _ iht).trans<|zk4 _ _ _
  exact (h _).trans<|List.Perm.cons _ ih
theorem tE {α:Type}{key:α→Int}{l m:List α}(h:l.Perm m)(hn:(l.map key).Nodup):sortBy key l=sortBy key m:=by
 have hst:∀ q:List α,(q.map key).Nodup→(sortBy key q).Pairwise fun a b=>key a<key b:=fun q hq=>by
  have h1:=cD (key:=key) q;have h2:((sortBy key q).map key).Nodup:=((jp q).map key).symm.nodup hq;have h3:(sortBy key q).Pairwise fun a b=>key a≠key b:=by
   rw[List.nodup_iff_pairwise_ne,zk8] at h2;exact h2
  exact (h1.and h3).imp fun h=>by omega
 have hm:(m.map key).Nodup:=(h.map key).nodup hn;refine List.Perm.eq_of_pairwise (le:=fun a b=>key a<key b) (fun a b _ _ h1 h2=>by omega) (hst l hn) (hst m hm) ?_;exact (jp l).trans<|h.trans (jp m).symm
theorem ShL.length {l m:List Cl}(h:ShL l m):l.length=m.length:=by
 obtain ⟨l1,hp,ha⟩:=h;rw[← hp.length_eq,ha.length]
abbrev Pr:=Int×Int
def Ring (adj:Pr→Pr→Bool)(l:List Pr):Prop:=l≠[]∧∀ x∈l,∃ y∈l,y≠x∧adj x y=true
def Cyc (adj:Pr→Pr→Bool)(m:List Pr):Prop:=∃ l,Ring adj l∧∀ x∈l,x∈m
inductive Pth (adj:Pr→Pr→Bool)(m:List Pr):Pr→Pr→Prop
 | one (x y:Pr) (hy:y∈m) (hne:y≠x) (ha:adj x y=true):Pth adj m x y
 | cons (x y z:Pr) (hy:y∈m) (hne:y≠x) (ha:adj x y=true) (h:Pth adj m y z):Pth adj m x z
def adjS (S:Int→List Int)(x y:Pr):Bool:=(S x.2).contains y.1
section
variable {p:Pr}{S:Int→List Int}{T:List Pr}
end
def C0 (l:List Cl)(h:Int):List Int:=((findC l h).getD bD).sides.map Side.cell
structure Vd (l:List Cl)(T:List Pr):Prop where
 once:(T.map Prod.fst++T.map Prod.snd).Nodup
 side:∀ q∈T,q.1∈C0 l q.2
 free:¬ Cyc (adjS<|C0 l) T
section
variable {l:List Cl}(hl:(aN l).2=0)
include hl
end
structure Gd8 (l:List Cl):Prop where
 right:Rt (aa l)
 ids:∀ c∈l,0<c.id∧c.id≤4000
def dJ:Enc Pr 2:=⟨fun p=>[vi p.1,vi p.2],fun _=>rfl,fun _ u hu=>by simp at hu; rcases hu with rfl | rfl <;> rfl,by decide⟩
theorem SU.indexAddrC {P:Program}{N:Nat}{f:Fr}{dst:Option Tmp}{ty:TypeId}{pos:String}{af:Array Edge}{gd:Option (Nat×Bool)}{x y:Operand}{T e:TypeId}{k n o:Nat}{i:Int}{v:Value}(hT:P.underlying T=some (.array n e))(hs:∀ w,(sizeOf e).run P w = .ok k w)
  (hx:ev f x=some (kG v o)) (hb:based v=true) (hy:ev f y=some (vi i)) (h0:0≤i) (h1:i<n) :
  SU P N ⟨dst,.indexAddr T x y,ty,pos,af,gd⟩ f (kG v<|o+i.toNat * k):=by
 cases v <;> simp[based] at hb
 rename_i p m c;cases p <;> simp at hb
 simp only[kG] at hx ⊢;have:=iB (P:=P) (N:=N) (dst:=dst) (ty:=ty) (pos:=pos) (af:=af) (gd:=gd) hT hs hx hy h0 h1;rwa [Nat.add_assoc] at this
theorem Tryz.sty33:STy Tryz.prog 33 60 2 16 (.agg #[vi 0,vi 0]):=⟨underlying33,⟨t60,by kernel_rfl,by kernel_rfl,by kernel_rfl,by kernel_rfl⟩,rfl,by decide⟩
theorem Tryz.build60 (a b:Int)(w:World):(Instr.build 60 #[(0,vi a),(1,vi b)]).run Tryz.prog w = .ok (.agg #[vi a,vi b]) w:=by
 have h1:∀ n,(vi n).cells = #[vi n]:=fun _=>rfl;simp[Instr.build,Instr.fill,h1];rfl
end Go.Proofs.YtackilpikhkijaaGreatDoor
namespace Go.Sy
open Go Go.MapKept
def mpE (b:Nat)(l:List (Int×Value))(j:Nat)(st:Int):Ent:=⟨some b,fun oo=>∃ es clk,oo=some (.map es clk)∧i4 l es clk∧∃ e,es[j]?=some e∧(e.born:Int)=st⟩
section
variable {P:Program}{w:World}{t kt et:TypeId}{z:Value}{b:Nat}{es:Array MapEntry}{clk:Nat}{l:List (Int×Value)}
theorem mQ (hT:MTy P t kt et z)(hb:w.heap[b]?=some (.map es clk))(hm:i4 l es clk)(k:Int) :
  ∃ es' clk' st j l',(Instr.mapEntry t (.map<|some b)<|vi k).run P w = .ok (.tuple #[(dS l k).getD z,vi st]) { w with heap:=w.heap.setIfInBounds b (.map es' clk') }∧i4 l' es' clk'∧(∃ e,es'[j]?=some e∧(e.born:Int)=st)∧(∃ u,l'[j]?=some (k,u))∧∀ u,eR l k u=l'.set j (k,u):=by
 have hf:=gx k es.toList l 0 hm.1;have h1:=MapKept.run_findKey (w:=w) hT.key hf;have h2:=MapKept.run_checkKey (P:=P) (w:=w) hT.key (k:=vi k) rfl false 9999;have hlen:es.toList.length=l.length:=by have:=ze5 List.length hm.1; simpa using this
 have hsz:es.size=l.length:=by simpa using hlen
 rcases mO k l 0 with ⟨hn,hne⟩ | ⟨j,u,hs,hj,hput⟩
 ·refine⟨es.push { key:=vi k,val:=z,born:=clk },clk+1,clk,l.length,l++[(k,z)],?_,⟨?_,?_⟩,?_,?_,?_⟩
  ·have hg:dS l k=none:=by unfold dS; rw[hn]; rfl
   rw[hn] at h1;rw[hg];simp[Instr.mapEntry,run_underlying hT.und,MapKept.run_getObj_map hb,h2,h1,hT.zero w,MapKept.run_setObj_map _ hb,goInt]
  ·simp[hm.1,jb,eO]
  ·refine stamped_push hm.2 ?_;intro x hx e;have:jb x∈l.map eO:=by rw[← hm.1]; exact zf5.2 ⟨x,hx,I⟩
   obtain ⟨p,hp,hpe⟩:=zf5.1 this;simp only[eO,jb,Prod.mk.injEq] at hpe;refine hne p hp ?_;rw[e] at hpe;simpa using hpe.1
  ·refine⟨{ key:=vi k,val:=z,born:=clk },?_,I⟩;rw[← hsz];simp
  ·exact⟨z,by simp⟩
  ·intro u;rw[gD k u l hne];simp
 ·have hjl:j<es.toList.length:=by rw[hlen]; exact (zf8.1 hj).1
  have hkey:(es.toList[j]).key=vi k:=by
   have h3:=ze5 (·[j]?) hm.1;simp only[zi3,hj,Option.map_some,gE hjl,zh1,jb,eO,Prod.mk.injEq] at h3;exact h3.1
  have hje:es[j]?=some es.toList[j]:=by simp at hjl; simp[hjl]
  have hg:dS l k=some u:=by unfold dS; rw[hs]; rfl
  rw[hs,Nat.zero_add] at h1;have hkey':∀ h:j<es.size,es[j].key=vi k:=fun h=>by simpa using hkey
  refine⟨es.modify j fun e=>{ e with key:=vi k },clk,(es.toList[j].born:Nat),j,l,?_,⟨?_,?_⟩,?_,⟨u,hj⟩,hput⟩
  ·have h4:=MapKept.run_keyThatStays (P:=P) (w:=w) (d:=.int .i64) (k:=vi k) rfl;rw[hg];simp[Instr.mapEntry,run_underlying hT.und,MapKept.run_getObj_map hb,h2,h1,hje,hkey',h4,MapKept.run_setObj_map _ hb,goInt]
  ·apply List.ext_getElem?;intro q;have h3:=ze5 (·[q]?) hm.1;simp only[zi3] at h3;rw[zi3,zi3,Array.toList_modify,List.getElem?_modify];by_cases hq:j=q
   ·subst hq;rw[← h3];simp only[gE hjl,if_true,Option.map_some,jb];rw[hkey];rfl
   ·simp only[hq,if_false];simpa using h3
  ·exact stamped_modify hm.2 _ _ (fun _ _=>I) (fun e' _ he'=>by
    rw[hje] at he';injection he' with he'
    rw[← he',hkey])
  ·refine⟨{ es.toList[j] with key:=vi k },?_,I⟩;rw[Array.getElem?_modify,zg4 rfl,hje];rfl
theorem li (hb:w.heap[b]?=some (.map es clk))(hm:i4 l es clk){j:Nat}{e:MapEntry}(he:es[j]?=some e){k:Int}(hk:∃ u,l[j]?=some (k,u))(v:Value) :
  ∃ es' clk',(Instr.entryStore t (.map<|some b) (vi (e.born:Int)) v).run P w = .ok () { w with heap:=w.heap.setIfInBounds b (.map es' clk') }∧i4 (l.set j (k,v)) es' clk':=by
 obtain ⟨u,hu⟩:=hk;have hlen:es.toList.length=l.length:=by have:=ze5 List.length hm.1; simpa using this
 obtain ⟨hj,hje⟩:=Array.getElem?_eq_some_iff.1 he;have hidx:es.findIdx? (fun x=>(x.born:Int) == (e.born:Int))=some j:=by
  rw[Array.findIdx?_eq_some_iff_getElem];refine⟨hj,by rw[hje]; simp,fun i hi h=>?_⟩;have hnd:=hm.2.2.1;have h5:(es[i]'oM).born=es[j].born:=by
   have h':(((es[i]'oM).born:Nat):Int)=(e.born:Int):=by simpa using h
   rw[hje];omega
  have h6:(es.toList.map (·.born))[i]'(by simp; omega)=(es.toList.map (·.born))[j]'(by simp; omega):=by simpa using h5
  have:=(List.getElem_inj hnd).1 h6;omega
 refine⟨es.modify j fun x=>{ x with val:=v },clk,?_,?_,?_⟩
 ·simp[Instr.entryStore,MapKept.run_getObj_map hb,asInt,asIntOf,hidx,MapKept.run_setObj_map _ hb]
 ·apply List.ext_getElem?;intro q;have h3:=ze5 (·[q]?) hm.1;simp only[zi3] at h3;rw[zi3,zi3,List.getElem?_set,Array.toList_modify,List.getElem?_modify];by_cases hq:j=q
  ·subst hq;have hjl:j<l.length:=(zf8.1 hu).1;have hjt:j<es.toList.length:=oM;rw[hu,gE hjt] at h3;simp only[Option.map_some,zh1,jb,eO,Prod.mk.injEq] at h3;simp only[gE hjt,if_true,hjl,Option.map_some,eO];show some (es.toList[j].key,v)=some (vi k,v);rw[h3.1]
  ·simp only[hq,if_false];simpa using h3
 ·exact stamped_modify hm.2 _ _ (fun _ _=>I) (fun e' _ he'=>I)
end
section
variable {P:Program}{N:Nat}{E:World}{f:Fr}{g:PH}{s:Own}{dst:Option Tmp}{ty:TypeId}{pos:String}{af:Array Edge}{gd:Option (Nat×Bool)}
variable {t kt et:TypeId}{z:Value}{b:Nat}{l:List (Int×Value)}{x y u:Operand}{k:Int}{v:Value}
theorem SO.mapEntry (i:Nat)(hT:MTy P t kt et z)(hx:ev f x=some (.map<|some b))(hy:ev f y=some (vi k))(hi:s[i]?=some (mp b l)) :
  SO P N E ⟨dst,.mapEntry t x y,ty,pos,af,gd⟩ f g s fun v' g' s'=>∃ st j l',v' = .tuple #[(dS l k).getD z,vi st]∧g=g'∧s'=s.set i (mpE b l' j st)∧(∃ u,l'[j]?=some (k,u))∧∀ u,eR l k u=l'.set j (k,u) :=
 SO.of_run fun a w ha hw=>by
  obtain ⟨es,clk,h1,h2⟩:=hw.own _<|zg5 hi;have hb:w.heap[b]?=some (.map es clk):=by simpa [mp] using h1
  obtain ⟨es',clk',st,j,l',hr,hm',he,hk,hp⟩:=mQ hT hb h2 k;have hfr:=hw.fresh _ (zg5 hi) b rfl;obtain ⟨e1,e2⟩:=MapKept.heap_set (o':=.map es' clk') hb;refine⟨_,_,g,s.set i<|mpE b l' j st,by simp[execOp,ha.ev hx,ha.ev hy,hr]; rfl,?_,st,j,l',rfl,rfl,rfl,hk,hp⟩;refine hw.turn hi I ⟨I,(by exact lR _)⟩ I (by simp) (fun q _ hne=>e2 q<|fun e=>hne<|by simp[mp,e]) ⟨es',clk',by simpa [mpE] using e1,hm',he⟩ (fun b' hb'=>?_);simp only[mpE,zh1] at hb';subst hb';exact⟨by simpa using hfr.2,.inl I⟩
theorem SO.entryStore {j:Nat}{st:Int}(i:Nat)(hx:ev f x=some (.map<|some b))(hy:ev f y=some (vi st))(hu:ev f u=some v)(hi:s[i]?=some (mpE b l j st))(hk:∃ u,l[j]?=some (k,u)) :
  SO P N E ⟨dst,.entryStore t x y u,ty,pos,af,gd⟩ f g s fun _ g' s'=>g=g'∧s'=s.set i (mp b<|l.set j (k,v)) :=
 SO.of_skip fun a w ha hw=>by
  obtain ⟨es,clk,h1,h2,e,he,hst⟩:=hw.own _<|zg5 hi;have hb:w.heap[b]?=some (.map es clk):=by simpa [mpE] using h1
  subst hst;obtain ⟨es',clk',hr,hm'⟩:=li (P:=P) (t:=t) hb h2 he hk v;have hfr:=hw.fresh _ (zg5 hi) b rfl;obtain ⟨e1,e2⟩:=MapKept.heap_set (o':=.map es' clk') hb;refine⟨_,g,s.set i<|mp b<|l.set j (k,v),by simp[execOp,ha.ev hx,ha.ev hy,ha.ev hu,hr]; rfl,?_,rfl,rfl⟩;refine hw.turn hi I ⟨I,(by exact lR _)⟩ I (by simp) (fun q _ hne=>e2 q<|fun e=>hne<|by simp[mpE,e]) ⟨es',clk',by simpa [mp] using e1,hm'⟩ (fun b' hb'=>?_);simp only[mp,zh1] at hb';subst hb';exact⟨by simpa using hfr.2,.inl I⟩
end
end Go.Sy
namespace Go.Sy
open Go
section
variable {P:Program}{M:Md}{N:Nat}{E:World}{Q:Exit→Act→World→Prop}{f:Fr}{g:PH}{s:Own}{dst:Option Tmp}{ty:TypeId}{pos:String}{af:Array Edge}{gd:Option (Nat×Bool)}
end
end Go.Sy
namespace Go.Proofs.YtackilpikhkijaaGreatDoor
open _root_.Go.Proofs.Tryz _root_.Go.Proofs.YtackilpikhkijaaGreatDoor.Tryz
open Go Go.Sy Go.Pl Go.Proofs
set_option maxRecDepth 100000
set_option maxHeartbeats 1000000
set_option maxHeartbeats 2000000
theorem sJ (E:World)(g:PH)(s:Own)(v:Value)(l:List Cl)(hv:ao g v l)(hf:bo l) :
  Ctr Tryz.prog E 46 #[.agg #[v]] g s (fun r g' s'=>r=vb (decide ((aN l).2=0))∧g=g'∧s=s'):=by
 obtain ⟨q,d,rfl⟩:=hv.form;refine zb2 (args:=[.agg #[.slice q l.length d]]) func46 I ntmps46 (bE I)<|rZ (bW (bO I) fun b1=>?_);refine aT I<|rZ<|lK (qV 0 aw ah I I I)<|lW (cL call49 I<|pl E g _ _ l hv hf) ?_;rintro _ _ _ ⟨rfl,rfl,rfl⟩;exact lM I<|yX I<|yX I<|lA I<|aT I<|sW I<|yE I<|aT I<|rE<|dR (s':=s) uR<|za8 (.inl I) results46 I ⟨I,I,I⟩
section
variable {P:Program}{N:Nat}{E:World}{f:Fr}{g:PH}{s:Own}{dst:Option Tmp}{ty:TypeId}{pos:String}{af:Array Edge}{gd:Option (Nat×Bool)}
variable {t kt et:TypeId}{z:Value}{b:Nat}{l:List (Int×Value)}{x y u:Operand}{k:Int}{v:Value}
theorem SO.insertK (i:Nat)(hT:MTy P t kt et z)(hx:ev f x=some (.map<|some b))(hy:ev f y=some (vi k))(hu:ev f u=some v)(hi:s[i]?=some (mp b l)) :
  SO P N E ⟨dst,.insert t x y u,ty,pos,af,gd⟩ f g s fun _ g' s'=>g=g'∧s'=s.set i (mp b<|eR l k v) :=
 SO.of_skip fun a w ha hw=>by
  obtain ⟨es,clk,h1,h2⟩:=hw.own _<|zg5 hi;have hb:w.heap[b]?=some (.map es clk):=by simpa [mp] using h1
  obtain ⟨es',clk',hr,hm'⟩:=iS hT hb h2 k v;have hfr:=hw.fresh _ (zg5 hi) b rfl;obtain ⟨e1,e2⟩:=MapKept.heap_set (o':=.map es' clk') hb;refine⟨_,g,s.set i<|mp b<|eR l k v,by simp[execOp,ha.ev hx,ha.ev hy,ha.ev hu,hr]; rfl,?_,rfl,rfl⟩;refine hw.turn hi I ⟨I,(by exact lR _)⟩ I (by simp) (fun q _ hne=>e2 q<|fun e=>hne<|by simp[mp,e]) ⟨es',clk',by simpa [mp] using e1,hm'⟩ (fun b' hb'=>?_);simp only[mp,zh1] at hb';subst hb';exact⟨by simpa using hfr.2,.inl I⟩
end
def ln:List (Int×Value):=[(1,.func (.func 78) #[] #[]),(2,.func (.func 79) #[] #[]),(3,.func (.func 80) #[] #[]),(4,.func (.func 81) #[] #[]),(5,.func (.func 82) #[] #[])]
theorem Tryz.mtyKinds:∃ z,MTy Tryz.prog 94 3 92 z:=⟨_,rfl,rfl,fun _=>rfl⟩
theorem lE (E:World)(g:PH)(s:Own):Ctr Tryz.prog E 45 #[] g s (fun r g' s'=>s=s'∧Le g g'∧∃ b,r = .map (some b)∧Mp g' b ln):=by
 obtain ⟨z,hty⟩:=Tryz.mtyKinds;refine zb2 (args:=[]) func45 I ntmps45 (bE I)<|rZ<|aT I<|rZ<|lW (SO.mkMap) ?_;rintro _ _ _ ⟨b1,rfl,rfl,rfl⟩;refine lO (SO.insertK 0 hty I I I I) ?_;rintro _ _ _ ⟨rfl,rfl⟩;refine lO (SO.insertK 0 hty I I I I) ?_;rintro _ _ _ ⟨rfl,rfl⟩;refine lO (SO.insertK 0 hty I I I I) ?_;rintro _ _ _ ⟨rfl,rfl⟩;refine lO (SO.insertK 0 hty I I I I) ?_;rintro _ _ _ ⟨rfl,rfl⟩;refine lO (SO.insertK 0 hty I I I I) ?_;rintro _ _ _ ⟨rfl,rfl⟩;refine lM I<|aT I<|rE ?_;refine ST.to (g':=g) (s':=mp b1 ln::s) (fun w hw=>hw) ?_;refine ST.freezeMap fun g1 hle1 hm=>?_;exact za8 (.inl I) results45 I ⟨I,hle1,b1,I,hm⟩
end Go.Proofs.YtackilpikhkijaaGreatDoor
namespace Go.Sy
open Go Go.MapKept
def qO:List (Int×Value)→Int→List (Int×Value)
 | [],_=>[]
 | (a,v)::r,k=>if k=a then r else (a,v)::qO r k
theorem rq (k:Int):∀ (l:List (Int×Value)),(∀ p∈l,p.1≠k)→qO l k=l
 | [],_=>rfl
 | (a,u)::r,h=>by
  have h1:k≠a:=fun e=>h (a,u) (by simp) e.symm;simp only[qO,h1,if_false,rq k r (fun p hp=>h p<|by simp[hp])]
theorem xx (k:Int):∀ (l:List (Int×Value)) (i:Nat),(fnd k l i=none∧∀ p∈l,p.1≠k)∨∃ j v,fnd k l i=some (i+j,v)∧j<l.length∧qO l k=l.eraseIdx j
 | [],_=>.inl ⟨rfl,by simp⟩
 | (a,v)::r,i=>by
  by_cases h:k=a
  ·subst h;exact .inr ⟨0,v,by simp[fnd],by simp,by simp[qO]⟩
  ·rcases xx k r (i+1) with ⟨h1,h2⟩ | ⟨j,v',h1,h2,h3⟩
   ·refine .inl ⟨by simp[fnd,h,h1],fun p hp=>?_⟩
    rcases zf4.1 hp with e | e
    ·rw[e]; exact fun e2=>h e2.symm
    ·exact h2 p e
   ·exact .inr ⟨j+1,v',by simp[fnd,h,h1]; omega,by simpa using h2,by simp[qO,h,h3]⟩
theorem ng {α β:Type}(f:α→β):∀ (l:List α) (j:Nat),(l.eraseIdx j).map f=(l.map f).eraseIdx j
 | [],_=>rfl
 | _::_,0=>rfl
 | x::l,j+1=>ze5 (List.cons<|f x)<|ng f l j
section
variable {P:Program}{w:World}{t kt et ty:TypeId}{z:Value}{b:Nat}{es:Array MapEntry}{clk:Nat}{l:List (Int×Value)}
theorem oB (hT:MTy P t kt et z)(hb:w.heap[b]?=some (.map es clk))(hm:i4 l es clk)(k:Int) :
  ∃ es' clk',(Builtin.delete_ #[t,kt] ty #[.map<|some b,vi k]).run P w = .ok (.tuple #[]) { w with heap:=w.heap.setIfInBounds b (.map es' clk') }∧i4 (qO l k) es' clk':=by
 have hf:=gx k es.toList l 0 hm.1;have h1:=MapKept.run_findKey (w:=w) hT.key hf;have h2:=MapKept.run_checkKey (P:=P) (w:=w) hT.key (k:=vi k) rfl es.isEmpty 9999;have hlen:es.toList.length=l.length:=by have:=ze5 List.length hm.1; simpa using this
 rcases xx k l 0 with ⟨hn,hne⟩ | ⟨j,u,hs,hj,hdel⟩
 ·refine⟨es,clk,?_,?_⟩
  ·rw[hn] at h1;simp[Builtin.delete_,run_underlying hT.und,MapKept.run_getObj_map hb,h2,h1,MapKept.run_setObj_map _ hb,Result.andThen]
  ·rw[rq k l hne];exact hm
 ·rw[hs,Nat.zero_add] at h1;refine⟨es.eraseIdxIfInBounds j,clk,?_,?_,stamped_erase hm.2 j⟩
  ·simp[Builtin.delete_,run_underlying hT.und,MapKept.run_getObj_map hb,h2,h1,MapKept.run_setObj_map _ hb,Result.andThen]
  ·have hjs:j<es.size:=by
    have h3:j<es.toList.length:=oM;simpa using h3
   rw[hdel];unfold Array.eraseIdxIfInBounds;rw[dif_pos hjs,Array.toList_eraseIdx,ng,hm.1,← ng]
end
section
variable {P:Program}{N:Nat}{E:World}{ops:Array Oper}{Q:Exit→Act→World→Prop}{f:Fr}{g:PH}{s:Own}{dst:Option Tmp}{ty:TypeId}{pos:String}{af:Array Edge}{gd:Option (Nat×Bool)}
variable {t kt et:TypeId}{z:Value}{b:Nat}{l:List (Int×Value)}{x y:Operand}{k:Int}
theorem SO.delete (i:Nat)(hT:MTy P t kt et z)(hx:ev f x=some (.map<|some b))(hy:ev f y=some (vi k))(hi:s[i]?=some (mp b l)) :
  SO P N E ⟨dst,.call ⟨.builtin .delete,#[x,y],#[t,kt]⟩,ty,pos,af,gd⟩ f g s fun _ g' s'=>g=g'∧s'=s.set i (mp b<|qO l k) :=
 SO.of_run fun a w ha hw=>by
  obtain ⟨es,clk,h1,h2⟩:=hw.own _<|zg5 hi;have hb:w.heap[b]?=some (.map es clk):=by simpa [mp] using h1
  obtain ⟨es',clk',hr,hm'⟩:=oB (ty:=ty) hT hb h2 k;have hfr:=hw.fresh _ (zg5 hi) b rfl;obtain ⟨e1,e2⟩:=MapKept.heap_set (o':=.map es' clk') hb;refine⟨_,_,g,s.set i<|mp b<|qO l k,by simp[execOp,resolve,invoke,builtin,ha.ev hx,ha.ev hy,hr]; exact⟨I,I⟩,?_,I,I⟩;refine hw.turn hi I ⟨I,(by exact lR _)⟩ I (by simp) (fun q _ hne=>e2 q<|fun e=>hne<|by simp[mp,e]) ⟨es',clk',by simpa [mp] using e1,hm'⟩ (fun b' hb'=>?_);simp only[mp,zh1] at hb';subst hb';exact⟨by simpa using hfr.2,.inl I⟩
end
end Go.Sy
namespace Go.Sy
open Go
section
variable {P:Program}{N:Nat}{E:World}{f:Fr}{g:PH}{s:Own}{dst:Option Tmp}{ty:TypeId}{pos:String}{af:Array Edge}{gd:Option (Nat×Bool)}
theorem SQ.sof {o:Oper}{v:Value}(h:SQ P N E o f g s v):SO P N E o f g s fun v' g' s'=>v'=v∧g=g'∧s=s':=SO.mono h.so fun _ _ _ ⟨h1,h2,h3⟩=>⟨h1,h2.symm,h3.symm⟩
theorem SQ.loadOne {x:Operand}{T:TypeId}{b o:Nat}{v:Value}(hT:∀ w,(isAgg T).run P w = .ok true w)(hk:∀ w,(sizeOf T).run P w = .ok 1 w)(hx:ev f x=some (pp b o))(hc:hE g s ⟨b,o,none⟩ v) :
  SQ P N E ⟨dst,.load T x,ty,pos,af,gd⟩ f g s (.agg #[v]) :=
 SQ.loadAggAt (vs:=[v]) hT hk hx rfl fun j u hu=>by
  cases j with
  | zero=>simp at hu; subst hu; exact hc
  | succ j=>simp at hu
end
section
variable {α:Type}{k:Nat}{P:Program}{N:Nat}{E:World}{f:Fr}{g:PH}{s:Own}{dst:Option Tmp}{ty:TypeId}{pos:String}{af:Array Edge}{gd:Option (Nat×Bool)}
theorem SO.appNewA {e:Enc α k}{bytes:Nat}{x y:Operand}{t T:TypeId}{z u:Value}{p:Option Addr}{m:List α}(hT:STy P t T k bytes z)(hx:ev f x=some (.slice p 0 0))(hy:ev f y=some u)(hu:SlA e g u m)
  (hb:m.length * bytes≤140737488355328) (hlen:m.length≤4611686018427387904) :
  SO P N E ⟨dst,.call ⟨.builtin .append,#[x,y],#[t,t]⟩,ty,pos,af,gd⟩ f g s fun v' g' s'=>g=g'∧s'=rowA e T v' m::s:=fun a w ha hw =>
 aQ (e:=e) (l:=[]) (s:=rowA e T (.slice p 0 0) []::s) 0 hT hx hy rfl hu (by simpa using hb) (by simpa using hlen) a w ha (hw.emptyRow T k p)
end
section
variable {P:Program}{N:Nat}{E:World}{f:Fr}{g:PH}{s:Own}{fn:Func}{R:Value→PH→Own→Prop}{e:Exit}
theorem ST.retCCT {T U T' U':TypeId}{t t' u b b' k k':Nat}{cs cs':Array Value}{fr fr':Nat×Nat}{x:Value}(i i':Nat)(s':Own)(he:e = .ret∨e = .normal)(hr:fn.results = #[.cell t T,.cell t' T',.tmp u])(hv:bg f t=some (pp b 0))(hv':bg f t'=some (pp b' 0))(hu:bg f u=some x)
  (hT:∀ w,(isAgg T).run P w = .ok true w) (hk:∀ w,(sizeOf T).run P w = .ok k w) (hT':∀ w,(isAgg T').run P w = .ok true w) (hk':∀ w,(sizeOf T').run P w = .ok k' w)
  (hs:s[i]?=some (pt b<|.cells cs U fr)) (hc:cs.size=k) (hsb:s[i']?=some (pt b'<|.cells cs' U' fr')) (hc':cs'.size=k') (hs':s'.Sublist s) (hR:R (.tuple #[.agg cs,.agg cs',x]) g s'):ST N E (bodyPost P fn<|mX E R) e f g s :=
 fun a w ha hw=>by
  have h1:=ee (P:=P) hw hT (by rw[hc]; exact hk) hs;have h1':=ee (P:=P) hw hT' (by rw[hc']; exact hk') hsb;have h2:=ha.at_ t _ hv;have h2':=ha.at_ t' _ hv';have h5:=ha.at_ u _ hu;simp only[Array.getD_eq_getD_getElem?] at h2 h2' h5;have h3:(results fn a.tmps).run P w = .ok (.tuple #[.agg cs,.agg cs',x]) w:=by simp[results,hr,asAddr,pp,h2,h2',h1,h1',h5]
  have h4:mX E R (.returned<|.tuple #[.agg cs,.agg cs',x]) w:=⟨_,g,s',rfl,hw.sublist hs',hR⟩
  rcases he with rfl | rfl
  ·exact⟨ha.defers,_,h3,h4⟩
  ·exact⟨ha.defers,_,h3,h4⟩
end
end Go.Sy
namespace Go.Proofs.YtackilpikhkijaaGreatDoor
open _root_.Go.Proofs.Tryz _root_.Go.Proofs.YtackilpikhkijaaGreatDoor.Tryz
open Go Go.Sy Go.Pl Go.Proofs
def em:List Cl→Cl→List Cl
 | [],c=>[c]
 | x::l,c=>if c.id=x.id then c::l else x::em l c
def iw:List Rc→Rc→List Rc
 | [],c=>[c]
 | x::l,c=>if c.id=x.id then c::l else x::iw l c
def ox:List Cl→Int→List Cl
 | [],_=>[]
 | x::l,k=>if k=x.id then l else x::ox l k
def mW:List Rc→Int→List Rc
 | [],_=>[]
 | x::l,k=>if k=x.id then l else x::mW l k
theorem iI (r:Rc):∀ rs:List Rc,eR (rs.map ak) r.id (rcv r)=(iw rs r).map ak
 | []=>rfl
 | x::rs=>by
  simp only[zg7,ak,eR,iw];by_cases h:r.id=x.id
  ·rw[zg4 h,zg4 h]; rfl
  ·rw[zg3 h,zg3 h];exact ze5 _<|iI r rs
theorem mZ (k:Int):∀ rs:List Rc,qO (rs.map ak) k=(mW rs k).map ak
 | []=>rfl
 | x::rs=>by
  simp only[zg7,ak,qO,mW];by_cases h:k=x.id
  ·rw[zg4 h,zg4 h]
  ·rw[zg3 h,zg3 h];exact ze5 _<|mZ k rs
theorem jr {R:Cl→Rc→Prop}(hR:∀ c r,R c r→r.id=c.id){c:Cl}{r:Rc}(h:R c r):∀ {B:List Cl} {rs:List Rc},aA R B rs→aA R (em B c) (iw rs r)
 | [],[],_=>⟨h,trivial⟩
 | x::B,y::rs,h2=>by
  have e1:=hR _ _ h;have e2:=hR _ _ h2.1;unfold em iw;rw[e1,e2];split
  ·exact⟨h,h2.2⟩
  ·exact⟨h2.1,jr hR h h2.2⟩
 | [],_::_,h2=>h2.elim
 | _::_,[],h2=>h2.elim
theorem kA {R:Cl→Rc→Prop}(hR:∀ c r,R c r→r.id=c.id)(k:Int):∀ {B:List Cl} {rs:List Rc},aA R B rs→aA R (ox B k) (mW rs k)
 | [],[],_=>trivial
 | x::B,y::rs,h2=>by
  have e2:=hR _ _ h2.1;unfold ox mW;rw[e2];split
  ·exact h2.2
  ·exact⟨h2.1,kA hR k h2.2⟩
 | [],_::_,h2=>h2.elim
 | _::_,[],h2=>h2.elim
theorem mL {c:Cl}:∀ {B:List Cl},(∀ x∈B,x.id≠c.id)→em B c=B++[c]
 | [],_=>rfl
 | x::B,h=>by
  have h1:¬ c.id=x.id:=fun e=>h x (by simp) e.symm;unfold em;rw[zg3 h1,mL fun y hy=>h y (by simp[hy])];rfl
theorem uK {c:Rc}:∀ {B:List Rc},(∀ x∈B,x.id≠c.id)→iw B c=B++[c]
 | [],_=>rfl
 | x::B,h=>by
  have h1:¬ c.id=x.id:=fun e=>h x (by simp) e.symm;unfold iw;rw[zg3 h1,uK fun y hy=>h y (by simp[hy])];rfl
theorem uL {c y:Cl}:∀ {B:List Cl},y∈em B c→y=c∨y∈B
 | [],h=>by simpa [em] using h
 | x::B,h=>by
  unfold em at h;split at h
  ·rcases zf4.1 h with e | e
   ·exact .inl e
   ·exact .inr (by simp[e])
  ·rcases zf4.1 h with e | e
   ·exact .inr (by simp[e])
   ·rcases uL e with e | e
    ·exact .inl e
    ·exact .inr (by simp[e])
theorem fu {c:Cl}:∀ {B:List Cl},(B.map Cl.id).Nodup→((em B c).map Cl.id).Nodup
 | [],_=>by simp[em]
 | x::B,h=>by
  rw[zg7,zk6] at h;unfold em;split
  ·rename_i e;rw[zg7,zk6,e];exact h
  ·rename_i e;rw[zg7,zk6];refine⟨fun hm=>?_,fu h.2⟩;obtain ⟨y,hy,e2⟩:=zf5.1 hm
   rcases uL hy with e3 | e3
   ·exact e (by rw[← e3]; exact e2)
   ·exact h.1 (by rw[← e2]; exact zf5.2 ⟨y,e3,I⟩)
theorem nS (k:Int):∀ {B:List Cl},(B.map Cl.id).Nodup→ox B k=B.filter fun c=>!decide (c.id=k)
 | [],_=>rfl
 | x::B,h=>by
  rw[zg7,zk6] at h;unfold ox;by_cases e:k=x.id
  ·rw[zg4 e,zj1];have h1:∀ y∈B,(!decide (y.id=k))=true:=fun y hy=>by
    have:y.id≠k:=fun e2=>h.1 (by rw[← e,← e2]; exact zf5.2 ⟨y,hy,I⟩);simpa using this
   rw[List.filter_eq_self.2 h1];simp[e]
  ·rw[zg3 e,zj1,nS k h.2];have:(!decide (x.id=k))=true:=by simpa using fun e2=>e e2.symm
   rw[zg4 this]
theorem qW {α:Type}{key:α→Int}{l m:List α}(h:l.Perm m)(hn:(l.map key).Nodup):aG key l m:=by
 refine⟨h.length_eq.symm,fun c=>?_⟩;have hp:=h.filter (fun a=>key a == c);have hone:∀ q:List α,(q.map key).Nodup→(q.filter fun a=>key a == c).length≤1:=by
  intro q;induction q with
  | nil=>intro _; simp
  | cons x r ih =>
   intro hq;rw[zg7,zk6] at hq;rw[zj1];by_cases e:(key x == c)=true
   ·rw[zg4 e];have:r.filter (fun a=>key a == c)=[]:=ki fun y hy e2=>hq.1 (by
     have e1:key x=c:=by simpa using e
     rw[e1,← e2];exact zf5.2 ⟨y,hy,I⟩)
    rw[this];simp
   ·rw[zg3 e];exact ih hq.2
 have h1:=hone l hn
 match hl:l.filter (fun a=>key a == c),hm:m.filter (fun a=>key a == c) with
 | [],[]=>rfl
 | [],y::t=>rw[hl,hm] at hp; exact absurd hp.length_eq (by simp)
 | x::t,[]=>rw[hl,hm] at hp; exact absurd hp.length_eq (by simp)
 | x::t,y::u =>
  rw[hl,hm] at hp;rw[hl] at h1;have ht:t=[]:=zf7 (by simpa using h1);subst ht;have:=hp.length_eq;have hu:u=[]:=zf7 (by simpa using this.symm);subst hu;have:=hp.subset<|List.mem_cons_self ..;simp at this;rw[this]
theorem sX {l m:List Cl}(h:l.Perm m)(hn:(l.map Cl.id).Nodup):aa l=aa m:=by
 have:sortBy Cl.id l=sortBy Cl.id m:=(cD l).unique (cD m)<|(dV l).symm.trans<|(qW h hn).trans<|dV m;unfold aa;rw[this]
end Go.Proofs.YtackilpikhkijaaGreatDoor
