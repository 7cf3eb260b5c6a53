/- 12 -/
import Derived.Test.YtmmghffoakhheaaGreatDoorRe11
import Derived.Shelf.SlSortCmp.NoneTotal
set_option linter.unusedSimpArgs false
set_option linter.unusedVariables false
namespace Go.Proofs.YtmmghffoakhheaaGreatDoor
open _root_.Go.Proofs.Tryz _root_.Go.Proofs.YtmmghffoakhheaaGreatDoor.Tryz
open Go Go.Sy Go.Pl Go.Proofs
set_option maxRecDepth 100000
set_option maxHeartbeats 4000000
theorem Tryz.buildS89 (p:Option Addr)(n c:Nat)(w:World):(Instr.build 89 #[(0,.agg #[.slice p n c])]).run Tryz.prog w = .ok (.agg #[.slice p n c,vb false]) w:=by
 have h1:(Value.agg #[Value.slice p n c]).cells = #[.slice p n c]:=rfl;simp[Instr.build,Instr.fill,h1];rfl
def CR (code:Int)(D:List Cl)(ims:List (Int×List Tm))(bk:Bool)(r:Value)(g':PH):Prop:=∃ u p n c,r = .tuple #[.agg #[u],.agg #[.slice p n c,vb bk],vi code]∧ak g' u D∧(code=0→Ims g' (.slice p n c) ims)
theorem Ims.form {g:PH}{v:Value}{l:List (Int×List Tm)}(h:Ims g v l):∃ p n c,v = .slice p n c:=by
 obtain ⟨rs,h1,h2⟩:=h;obtain ⟨p,c,e⟩:=za3 h1;exact⟨p,_,c,e⟩
theorem pz (E:World)(g:PH)(s:Own)(v ev:Value)(l:List Cl)(e:Ed)(hv:ak g v l)(hf:a8 l)(he:EdR g ev e)(hes:e.sides.length<1099511627776)(code:Int)(hcode:code=if (findC l e.cell).isSome then 54 else 0) :
  Ctr Tryz.prog E 77 #[.agg #[v],ev] g s (fun r g' s'=>s=s'∧Le g g'∧CR code (if code=0 then l++[⟨e.cell,e.dim,e.sides⟩] else l) ((aW l).map e6) false r g'):=by
 obtain ⟨sv,pv,rfl,hsv,hpv⟩:=he;obtain ⟨sp,sc,rfl⟩:=za3 hsv;obtain ⟨pq,pc,rfl⟩:=za3 hpv;have hv0:=hv;obtain ⟨rs,hrs,hall⟩:=hv;have hlen:=hall.length;have hfl:=hf.1;obtain ⟨p,c,rfl⟩:=za3 hrs;refine zb1 (args:=[.agg #[.slice p rs.length c],.agg #[vi e.kind,vi e.cell,vi e.dim,vi e.new,vi e.other,.slice sp e.sides.length sc,.slice pq e.pairs.length pc]]) func77 I ntmps77 (bE I)<|rZ (bW (bO I) fun b2=>?_);refine bW (bO I) fun b3=>bW (aL zl6) fun b4=>bW (aL zl1) fun b5=>aT I<|sQ<|rZ<|lK (qV 3 ar ag I I I)<|lU (fA aJ I zT3 I)<|lK (qL iT3 I<|cO 2 I I)<|lW (SO.call call116 I<|cU E g _ _ l e.cell hv0 hf) ?_;rintro _ g1 _ ⟨rfl,rfl,hle1⟩;refine tZ<|iQ I (fun hp=>?_) (fun hp=>?_)
 ·have hc:code=54:=by rw[hcode,hp]; rfl
  subst hc;exact rZ<|lK (qV 3 ar ag I I I)<|lU (za2 I buildZ89)<|oZ (sK 1 ag I I I I I sB)<|oZ (sK 0 bD I I I I I sB)<|aT I<|rE<|tR<|ST.retCCT 1 0 s (.inl I) results77 I I I ar ag fw bD I I I I uR ⟨I,hle1,_,_,_,_,I,hv0.mono hle1,fun h=>by cases h⟩
 ·have hc:code=0:=by rw[hcode,hp]; rfl
  subst hc;have hrs1:=za4 hrs hle1;have hsv1:=za4 hsv hle1;have hall1:=hall.mono fun _ _=>ay.mono hle1;have hv1:=hv0.mono hle1;generalize g1=gg at *;refine kP<|tN<|SC.cut (ι:=Nat×Option Addr×Nat×Nat×PH) (fun i=>[(2,pp b2 0),(3,pp b3 0),(4,pp b4 0),(5,pp b5 0),(7,pp i.1 0)]) (fun i=>i.2.2.2.2) (fun i=>pt i.1 (.cells #[.slice i.2.1 i.2.2.1 i.2.2.2.1] 29 (0,0))::pt b5 (.cells #[.slice none 0 0,vb false] 89 (0,0))::pt b4 (.cells #[.slice none 0 0] 29 (0,0))::pt b3 (.cells #[vi e.kind,vi e.cell,vi e.dim,vi e.new,vi e.other,.slice sp e.sides.length sc,.slice pq e.pairs.length pc] 39 (0,0))::pt b2 (.cells #[.slice p rs.length c] 29 (0,0))::s)
   (fun i=>Le gg i.2.2.2.2∧ak i.2.2.2.2 (.slice i.2.1 i.2.2.1 i.2.2.2.1) (l++[⟨e.cell,e.dim,e.sides⟩])) ?_ ?_
  ·refine SC.drawX [] ze3 kR ?_;refine SX.u (i:=1) I kR (fA du I di I) dC<|SX.q (i:=2) I kR (qL (v:=.slice p rs.length c) dU I<|cO 3 I I) dC<|SX.u (i:=4) I kR (fA aJ I zT3 I) dC<|SX.q (i:=5) I kR (qL iT3 I<|cO 2 I I) dC<|SX.u (i:=6) I kR (fA aJ I zT3 I) dC<|SX.q (i:=7) I kR (qL iT3 I<|cO 2 I I) dC<|SX.u (i:=9) I kR (fA aJ I aO I) dC<|SX.q (i:=10) I kR (qL (v:=.slice sp e.sides.length sc) bh I<|cO 2 I I) dC ?_
   repeat' (first
    | (refine SB.o (i:=0) I (bS sty27 I I I (ab trivial) dC) dC (.inr iR) ?_; rintro _ _ _ ⟨b14,rfl,rfl,rfl⟩; refine SX.drop (zj1 _ _) ?_)
    | (refine SB.o (i:=0) I (bS sty27 I I I (ab trivial) dC) dC (.inr iR) ?_; rintro _ _ _ ⟨b14,rfl,rfl,rfl⟩; refine SX.drop (zj1 _ _) ?_)
    | (refine SB.o (i:=3) I (SO.appNewA (e:=encCell) sty27 I I hrs1 oM oM) dC (.inr iR) ?_; rintro v17 _ _ ⟨rfl,rfl⟩)
    | (refine SB.o (i:=3) I (SO.appNewA (e:=encCell) sty27 I I hrs1 oM oM) dC (.inr iR) ?_; rintro v17 _ _ ⟨rfl,rfl⟩)
    | (refine SB.o (i:=8) I (bS sty37 I I I (ab trivial) dC) dC (.inr iR) ?_; rintro _ _ _ ⟨b22,rfl,rfl,rfl⟩; refine SX.drop (zj1 _ _) ?_)
    | (refine SB.o (i:=8) I (bS sty37 I I I (ab trivial) dC) dC (.inr iR) ?_; rintro _ _ _ ⟨b22,rfl,rfl,rfl⟩; refine SX.drop (zj1 _ _) ?_)
    | (refine SB.o (i:=8) I (bS sty37 I I I (ab trivial) dC) dC (.inr iR) ?_; rintro _ _ _ ⟨b22,rfl,rfl,rfl⟩; refine SX.drop (zj1 _ _) ?_)
    | (refine SB.o (i:=11) I (SO.appNewA (e:=encSide) sty37 I I hsv1 oM oM) dC (.inr iR) ?_; rintro v25 _ _ ⟨rfl,rfl⟩; refine SX.freezeRow fun g2 hle2 hs2=>?_; obtain ⟨q2,d2,rfl⟩:=za3 (e:=encSide) hs2; refine SX.u (i:=12) I kD (za2 I<|buildF54 _ _ _ I) dC ?_)
    | (refine SB.o (i:=11) I (SO.appNewA (e:=encSide) sty37 I I hsv1 oM oM) dC (.inr iR) ?_; rintro v25 _ _ ⟨rfl,rfl⟩; refine SX.freezeRow fun g2 hle2 hs2=>?_; obtain ⟨q2,d2,rfl⟩:=za3 (e:=encSide) hs2; refine SX.u (i:=12) I kD (za2 I<|buildF54 _ _ _ I) dC ?_)
    | (refine SB.o (i:=13) I (bS sty27 I I I (ab ⟨I,trivial⟩) dC) dC (.inr iR) ?_; rintro _ _ _ ⟨b27,rfl,rfl,rfl⟩; refine SX.to (fun w hw=>At.litRow (e:=encCell) (l:=[⟨e.cell,e.dim,⟨q2,e.sides.length,d2⟩⟩]) (n:=0) hw I I dC) ?_; refine SX.freezeRow fun g3 hle3 hs3=>?_; have hle23:=hle2.trans hle3)
    | (refine SB.o (i:=13) I (bS sty27 I I I (ab ⟨I,trivial⟩) dC) dC (.inr iR) ?_; rintro _ _ _ ⟨b27,rfl,rfl,rfl⟩; refine SX.to (fun w hw=>At.litRow (e:=encCell) (l:=[⟨e.cell,e.dim,⟨q2,e.sides.length,d2⟩⟩]) (n:=0) hw I I dC) ?_; refine SX.freezeRow fun g3 hle3 hs3=>?_; have hle23:=hle2.trans hle3)
    | (refine SB.o (i:=14) I (aQ (e:=encCell) (l:=rs) 0 sty27 I I I hs3 (by simp; omega) (by simp; omega)) dC (.inr iR) ?_; rintro v28 _ _ ⟨rfl,rfl⟩; refine SX.freezeRow fun g4 hle4 hs4=>?_; have hle24:=hle23.trans hle4; obtain ⟨q4,d4,rfl⟩:=za3 (e:=encCell) hs4; have hc4:ak g4 (.slice q4 (rs++[(⟨e.cell,e.dim,⟨q2,e.sides.length,d2⟩⟩:Rc)]).length d4) (l++[⟨e.cell,e.dim,e.sides⟩]):=⟨rs++[(⟨e.cell,e.dim,⟨q2,e.sides.length,d2⟩⟩:Rc)],hs4,az.append (hall1.mono fun _ _=>ay.mono hle24) (show az (ay g4) [⟨e.cell,e.dim,e.sides⟩] [⟨e.cell,e.dim,⟨q2,e.sides.length,d2⟩⟩] from ⟨⟨rfl,rfl,za4 hs2<|hle3.trans hle4⟩,trivial⟩)⟩; refine SX.u (i:=15) I kD (za2 I<|build29 _ I) dC ?_)
    | (refine SB.o (i:=14) I (aQ (e:=encCell) (l:=rs) 0 sty27 I I I hs3 (by simp; omega) (by simp; omega)) dC (.inr iR) ?_; rintro v28 _ _ ⟨rfl,rfl⟩; refine SX.freezeRow fun g4 hle4 hs4=>?_; have hle24:=hle23.trans hle4; obtain ⟨q4,d4,rfl⟩:=za3 (e:=encCell) hs4; have hc4:ak g4 (.slice q4 (rs++[(⟨e.cell,e.dim,⟨q2,e.sides.length,d2⟩⟩:Rc)]).length d4) (l++[⟨e.cell,e.dim,e.sides⟩]):=⟨rs++[(⟨e.cell,e.dim,⟨q2,e.sides.length,d2⟩⟩:Rc)],hs4,az.append (hall1.mono fun _ _=>ay.mono hle24) (show az (ay g4) [⟨e.cell,e.dim,e.sides⟩] [⟨e.cell,e.dim,⟨q2,e.sides.length,d2⟩⟩] from ⟨⟨rfl,rfl,za4 hs2<|hle3.trans hle4⟩,trivial⟩)⟩; refine SX.u (i:=15) I kD (za2 I<|build29 _ I) dC ?_)
    | (refine SB.o (i:=16) I (aL zl6) dC (.inr iR) ?_; rintro _ _ _ ⟨b16,rfl,rfl,rfl⟩; first | refine SX.to (fun w hw=>At.perm hw<|zk1 (rowA encCell 54 v17 rs) _ _) ?_ | skip)
    | (refine SB.o (i:=16) I (aL zl6) dC (.inr iR) ?_; rintro _ _ _ ⟨b16,rfl,rfl,rfl⟩; first | refine SX.to (fun w hw=>At.perm hw<|zk1 (rowA encCell 54 v17 rs) _ _) ?_ | skip)
    | (refine SB.o (i:=16) I (aL zl6) dC (.inr iR) ?_; rintro _ _ _ ⟨b16,rfl,rfl,rfl⟩; first | refine SX.to (fun w hw=>At.perm hw<|zk1 (rowA encCell 54 v17 rs) _ _) ?_ | skip)
    | (refine SB.o (i:=16) I (aL zl6) dC (.inr iR) ?_; rintro _ _ _ ⟨b16,rfl,rfl,rfl⟩; first | refine SX.to (fun w hw=>At.perm hw<|zk1 (rowA encCell 54 v17 rs) _ _) ?_ | skip)
    | (refine SB.on (i:=17) I (sK 0 ag I I I I I sB) (.inr iR) ?_; rintro _ _ _ ⟨rfl,rfl⟩)
    | refine SX.br3 0 8 16 kD ?_ ?_ ?_
    | refine SX.br3 3 8 16 kD ?_ ?_ ?_
    | refine zd7 8 16 kD ?_ ?_
    | refine zd7 11 16 kD ?_ ?_
    | refine zd7 13 16 kD ?_ ?_
    | refine zd7 14 16 kD ?_ ?_
    | refine zd6 16 kD ?_
    | refine zd6 17 kD ?_
    | refine zd6 14 kD ?_
    | refine zd6 13 kD ?_
    | refine zd6 11 kD ?_
    | refine zd6 8 kD ?_
    | refine zd7 3 16 kD ?_ ?_
    | refine zd6 3 kD ?_
    | refine zd7 3 8 kD ?_ ?_
    | refine zd7 0 16 kD ?_ ?_
    | refine zd6 0 kD ?_
    | refine zd7 0 8 kD ?_ ?_
    | (refine SX.nil kD ?_; exact za8 (b16,q4,(rs++[(⟨e.cell,e.dim,⟨q2,e.sides.length,d2⟩⟩:Rc)]).length,d4,g4) sB I I ⟨hle24,hc4⟩))
  rintro ⟨b7,q7,n7,d7,g5⟩ ⟨hle5,hc5⟩;dsimp only at hle5 hc5 ⊢;refine sQ<|dW [4,5] [(0,1),(1,1),(2,0),(3,2),(4,0),(5,0),(6,2)] ze3 kR<|pK I (qV 0 ar ag I I I)<|pK I (qV 4 ar ag I I I)<|SP.o I (SO.call call117 I<|fq E g5 _ _ l (hv1.mono hle5) hf) dC (.inr iR) ?_;rintro _ g6 _ ⟨rfl,hle6,iv,rfl,him⟩;obtain ⟨q6,n6,d6,rfl⟩:=him.form;refine pU I (za2 I<|buildS89 _ _ _)<|SP.on I (sK 2 ag I I I I I sB) (.inl dC) ?_;rintro _ _ _ ⟨rfl,rfl⟩;refine SP.on I (sK 1 bD I I I I I sB) (.inl dC) ?_;rintro _ _ _ ⟨rfl,rfl⟩;exact pU I (aS I)<|pN<|tN<|rE<|ST.retCCT 2 1 s (.inl I) results77 I I I ar ag fw bD I I I I uR ⟨I,hle1.trans<|hle5.trans hle6,_,_,_,_,I,hc5.mono hle6,fun _=>him⟩
end Go.Proofs.YtmmghffoakhheaaGreatDoor
namespace Go.Sy
open Go
section
variable {P:Program}{N:Nat}{E:World}{ops:Array Oper}{Q:Exit→Act→World→Prop}{g0:PH}{s0:Own}{tail:List Nat}{f:Fr}{g:PH}{s s':Own}{L:Array Bool}{n:Nat}
theorem SX.gq [hQ:Quiet Q]{i d:Nat}{op:Op}{ty:TypeId}{pos:String}{af:Array Edge}{gd:Option (Nat×Bool)}{v:Value}(hi:ops[i]?=some ⟨some d,op,ty,pos,af,gd⟩)(hok:uy ops tail L i=true)(hg:Gd N ops f ⟨some d,op,ty,pos,af,gd⟩ true)
  (hq:SQ P N E ⟨some d,op,ty,pos,af,gd⟩ f g0 s0 v) (hd:d<N)
  (h:SX P N E ops Q g0 s0 tail (L.setIfInBounds i true) n ((d,v)::f) g s):SX P N E ops Q g0 s0 tail L (n+1) f g s:=by
 intro a w hs hcl ha hw hb;simp only[uy,zj3,Bool.not_eq_true'] at hok;obtain ⟨⟨⟨⟨h1,h2⟩,h3⟩,h4⟩,h5⟩:=hok;refine jK hi (Region.noSelect_spec hs) (fun c a w hh=>hQ.out c _ _ w (cz a d v) hh) (by simpa using h4) (ie h3) _ L a w hcl (Region.free_spec hi h2) (by simpa using h1)
  (.inl ⟨hg a ha,fun w' hw'=>hq a w' ha hw'⟩) h5 (hb h5) ?_
 exact h _ w hs (bU hcl<|by simpa using h1) (ha.put hd v) hw (fun _=>hb h5)
theorem SX.gu [hQ:Quiet Q]{i d:Nat}{op:Op}{ty:TypeId}{pos:String}{af:Array Edge}{gd:Option (Nat×Bool)}{v:Value}(hi:ops[i]?=some ⟨some d,op,ty,pos,af,gd⟩)(hok:pd ops tail L i=true)(hg:Gd N ops f ⟨some d,op,ty,pos,af,gd⟩ true)
  (hq:SU P N ⟨some d,op,ty,pos,af,gd⟩ f v) (hd:d<N)
  (h:SX P N E ops Q g0 s0 tail (L.setIfInBounds i true) n ((d,v)::f) g s):SX P N E ops Q g0 s0 tail L (n+1) f g s:=by
 intro a w hs hcl ha hw hb;simp only[pd,zj3,Bool.not_eq_true'] at hok;obtain ⟨⟨h1,h2⟩,h4⟩:=hok;have hit:i ∉ tail:=by simpa using h4
 refine gx hi (Region.noSelect_spec hs) (fun c a w hh=>hQ.out c _ _ w (cz a d v) hh) hit _ L a w (Region.free_spec hi h2) (by simpa using h1)
  (.inl ⟨hg a ha,fun w'=>hq a w' ha⟩) hb ?_
 exact h _ w hs (bU hcl<|by simpa using h1) (ha.put hd v) hw (fun hb'=>hb<|by rwa [dL hit] at hb')
theorem SX.off [hQ:Quiet Q]{i d:Nat}{op:Op}{ty:TypeId}{pos:String}{af:Array Edge}{gd:Option (Nat×Bool)}(hi:ops[i]?=some ⟨some d,op,ty,pos,af,gd⟩)(hok:pd ops tail L i=true)(hg:Gd N ops f ⟨some d,op,ty,pos,af,gd⟩ false)(hd:d<N)
  (h:SX P N E ops Q g0 s0 tail (L.setIfInBounds i true) n ((d,undef)::f) g s):SX P N E ops Q g0 s0 tail L (n+1) f g s:=by
 intro a w hs hcl ha hw hb;simp only[pd,zj3,Bool.not_eq_true'] at hok;obtain ⟨⟨h1,h2⟩,h4⟩:=hok;have hit:i ∉ tail:=by simpa using h4
 refine gx hi (Region.noSelect_spec hs) (fun c a w hh=>hQ.out c _ _ w (cz a d undef) hh) hit _ L a w (Region.free_spec hi h2) (by simpa using h1)
  (.inr ⟨hg a ha,rfl⟩) hb ?_
 exact h _ w hs (bU hcl<|by simpa using h1) (ha.put hd undef) hw (fun hb'=>hb<|by rwa [dL hit] at hb')
theorem SB.go {i d:Nat}{op:Op}{ty:TypeId}{pos:String}{af:Array Edge}{gd:Option (Nat×Bool)}{K:Value→PH→Own→Prop}(hi:ops[i]?=some ⟨some d,op,ty,pos,af,gd⟩)(hg:Gd N ops f ⟨some d,op,ty,pos,af,gd⟩ true)
  (ho:SO P N E ⟨some d,op,ty,pos,af,gd⟩ f g s K) (hd:d<N) (hk:i∈tail∨∀ v g' s',K v g' s'→Le g0 g'∧s0.Sublist s')
  (h:∀ v g' s',K v g' s'→SX P N E ops Q g0 s0 tail (L.setIfInBounds i true) n ((d,v)::f) g' s'):SB P N E ops Q g0 s0 tail L n i f g s :=
 SB.step hi hg ho hk fun v g' s' _ hK ha=>⟨_,ha.put hd v,h v g' s' hK⟩
theorem SB.offo {i d:Nat}{op:Op}{ty:TypeId}{pos:String}{af:Array Edge}{gd:Option (Nat×Bool)}(hi:ops[i]?=some ⟨some d,op,ty,pos,af,gd⟩)
  (hg:Gd N ops f ⟨some d,op,ty,pos,af,gd⟩ false) (hd:d<N) (hk:Le g0 g∧s0.Sublist s)
  (h:SX P N E ops Q g0 s0 tail (L.setIfInBounds i true) n ((d,undef)::f) g s):SB P N E ops Q g0 s0 tail L n i f g s:=by
 intro a w hs hcl hr ha hw hb;unfold wpOp;simp only[hi];rw[zf9 (by rw[hg a ha]; simp)];have hb':fe tail (L.setIfInBounds i true)=false→At E g0 s0 w:=fun _=>(hw.less hk.1).sublist hk.2;exact⟨hb',h _ w hs (bU hcl hr) (ha.put hd undef) hw hb'⟩
theorem SB.ob {i d:Nat}{op:Op}{ty:TypeId}{pos:String}{af:Array Edge}{K:Value→PH→Own→Prop}(hi:ops[i]?=some ⟨some d,op,ty,pos,af,none⟩)
  (ho:SO P N E ⟨some d,op,ty,pos,af,none⟩ f g s K) (hd:d<N) (hbt:fe tail (L.setIfInBounds i true)=true)
  (h:∀ v g' s',K v g' s'→SX P N E ops Q g0 s0 tail (L.setIfInBounds i true) n ((d,v)::f) g' s'):SB P N E ops Q g0 s0 tail L n i f g s:=by
 intro a w hs hcl hr ha hw hb;unfold wpOp;simp only[hi];rw[zg1<|Gd.none rfl a ha];refine .inl (ho a w ha hw Q _ fun v g' s' w' hK hw'=>?_);have hb':fe tail (L.setIfInBounds i true)=false→At E g0 s0 w':=fun h0=>by rw[hbt] at h0; cases h0
 exact⟨hb',h v g' s' hK _ w' hs (bU hcl hr) (ha.put hd v) hw' hb'⟩
end
end Go.Sy
namespace Go.Proofs.YtmmghffoakhheaaGreatDoor
open _root_.Go.Proofs.Tryz _root_.Go.Proofs.YtmmghffoakhheaaGreatDoor.Tryz
open Go Go.Sy Go.Pl Go.Proofs
set_option maxRecDepth 100000
set_option maxHeartbeats 4000000
def sk (fn:Nat)(e:Ed)(A:List Cl)(code:Int)(D:List Cl)(ims:List (Int×List Tm))(bk:Bool):Prop:=∀ (E:World) (g:PH) (s:Own) (v ev:Value),ak g v A→EdR g ev e →
 Ctr Tryz.prog E fn #[.agg #[v],ev] g s (fun r g' s'=>s=s'∧Le g g'∧CR code D ims bk r g')
def eV (code:Int)(D:List Cl)(ims:List (Int×List Tm))(bk:Bool)(r:Value)(g':PH):Prop:=∃ u p n c b,r = .tuple #[.agg #[u],.agg #[.slice p n c,vb b],vi code]∧ak g' u D∧(code=0→b=bk∧Ims g' (.slice p n c) ims)∧(code≠0→b=false∧Ims g' (.slice p n c) [])
theorem Ims.nil (g:PH):Ims g (.slice none 0 0) []:=⟨[],zb9 g _,trivial⟩
theorem fH (l:List Cl):aq (aa l)=aq l:=by
 have ht:aW (aa l)=aW l:=by unfold aW; rw[gz]
 unfold aq;rw[ht,gz,aN]
theorem tV (E:World)(g:PH)(s:Own)(v ev:Value)(l:List Cl)(e:Ed)(ims:List (Int×List Tm))(bk:Bool)(hv:ak g v l)(hf:a8 l)(he:EdR g ev e)(hbad:(aq l).2≠0) :
  Ctr Tryz.prog E 45 #[.agg #[v],ev] g s (fun r g' s'=>s=s'∧Le g g'∧eV 1 [] ims bk r g'):=by
 obtain ⟨sv,pv,rfl,hsv,hpv⟩:=he;obtain ⟨sp,sc,rfl⟩:=za3 hsv;obtain ⟨pq,pc,rfl⟩:=za3 hpv;obtain ⟨p,c,rfl⟩:=hv.form;have hd:decide ((dj l).2=0)=false:=by rw[eI]; exact zf7 hbad
 refine zb1 (args:=[.agg #[.slice p l.length c],.agg #[vi e.kind,vi e.cell,vi e.dim,vi e.new,vi e.other,.slice sp e.sides.length sc,.slice pq e.pairs.length pc]]) func45 I ntmps45 (bE I)<|rZ (bW (bO I) fun b2=>?_);refine bW (bO I) fun b3=>bW (aL zl6) fun b4=>bW (aL zl1) fun b5=>aT I<|rZ<|lK (qV 3 ar ag I I I)<|lW (SO.call call37 I<|ga E g _ _ l hv hf) ?_;rintro _ g1 _ ⟨rfl,rfl,hle1⟩;rw[hd];exact aT I<|sQ<|sW I<|lU (SU.not I)<|tZ<|za1 I<|rZ<|lU (za2 I buildE29)<|lU (za2 I buildZ89)<|oZ (sK 1 ag I I I I I sB)<|oZ (sK 0 bD I I I I I sB)<|aT I<|rE<|tR<|ST.retCCT 1 0 s (.inl I) results45 I I I ar ag fw bD I I I I uR ⟨I,hle1,_,_,_,_,_,I,ak.nil _,(fun h=>by cases h),fun _=>⟨I,Ims.nil _⟩⟩
theorem fF (E:World)(g:PH)(s:Own)(v ev:Value)(l:List Cl)(e:Ed)(code:Int)(D:List Cl)(ims:List (Int×List Tm))(bk:Bool)(hv:ak g v l)(hf:a8 l)(he:EdR g ev e)(hr:(aq l).2=0)(hD:a8 D)
  (hk:e.kind=1∨e.kind=2∨e.kind=3∨e.kind=4∨e.kind=5)
  (h1:e.kind=1→sk 77 e (aa l) code D ims bk) (h2:e.kind=2→sk 78 e (aa l) code D ims bk) (h3:e.kind=3→sk 79 e (aa l) code D ims bk) (h4:e.kind=4→sk 80 e (aa l) code D ims bk) (h5:e.kind=5→sk 81 e (aa l) code D ims bk) :
  Ctr Tryz.prog E 45 #[.agg #[v],ev] g s (fun r g' s'=>s=s'∧Le g g'∧eV (aH code D).1 (aH code D).2 ims bk r g'):=by
 have he0:=he;obtain ⟨sv,pv,rfl,hsv,hpv⟩:=he;obtain ⟨sp,sc,rfl⟩:=za3 hsv;obtain ⟨pq,pc,rfl⟩:=za3 hpv;obtain ⟨p,c,rfl⟩:=hv.form;have hd:decide ((dj l).2=0)=true:=by rw[eI]; exact zf8 hr
 refine zb1 (args:=[.agg #[.slice p l.length c],.agg #[vi e.kind,vi e.cell,vi e.dim,vi e.new,vi e.other,.slice sp e.sides.length sc,.slice pq e.pairs.length pc]]) func45 I ntmps45 (bE I)<|rZ (bW (bO I) fun b2=>?_);refine bW (bO I) fun b3=>bW (aL zl6) fun b4=>bW (aL zl1) fun b5=>aT I<|rZ<|lK (qV 3 ar ag I I I)<|lW (SO.call call37 I<|ga E g _ _ l hv hf) ?_;rintro _ g1 _ ⟨rfl,rfl,hle1⟩;rw[hd];refine aT I<|sQ<|sW I<|lU (SU.not I)<|tZ<|cF I<|kP<|tN<|rZ<|lK (qV 3 ar ag I I I)<|lW (SO.call call47 I<|dZ E g1 _ _ l (hv.mono hle1) hf) ?_;rintro _ g2 _ ⟨rfl,hle2,u2,rfl,hA⟩;obtain ⟨p2,c2,rfl⟩:=hA.form;refine bW (aL zl6) fun b8=>oZ (sK 0 ag I I I I I sB)<|tZ (rZ<|bW (aL zl6) fun b9=>?_);refine tZ (rZ<|bW (aL zl1) fun b10=>?_);refine tZ<|rZ<|aT I ?_;have hAl:=ba hf;have he2:=he0.mono<|hle1.trans hle2;generalize aa l=A at *;refine SC.cut (ι:=PH×Value×Option Addr×Nat×Nat) (fun _=>[(4,pp b4 0),(5,pp b5 0),(9,pp b9 0),(10,pp b10 0),(11,vi code)]) (fun i=>i.1) (fun i=>pt b10 (.cells #[.slice i.2.2.1 i.2.2.2.1 i.2.2.2.2,vb bk] 89 (0,0))::pt b9 (.cells #[i.2.1] 29 (0,0))::pt b5 (.cells #[.slice none 0 0,vb false] 89 (0,0))::pt b4 (.cells #[.slice none 0 0] 29 (0,0))::s)
  (fun i=>Le g2 i.1∧ak i.1 i.2.1 D∧(code=0→Ims i.1 (.slice i.2.2.1 i.2.2.2.1 i.2.2.2.2) ims)) ?_ ?_
 ·rcases hk with hk | hk | hk | hk | hk
  ·refine rZ<|lU (fA aJ I zT3 I)<|lK (qL iT3 I<|cO 5 I I)<|tZ<|bK<|rZ<|lU (SU.eq (v':=vb true) (eQ I I)<|ze2 vb<|zf8 hk)<|aT I<|za1 I<|rG<|lK (qV 2 ar ag I I I)<|lK (qV 5 jB ft I I I)<|lW (SO.call call77 I<|h1 hk E g2 _ _ _ hA he2) ?_;rintro _ g3 _ ⟨rfl,hle3,u3,p3,n3,c3,rfl,hc3,him3⟩;obtain ⟨pu,cu,rfl⟩:=hc3.form;exact lM I<|yX I<|yX I<|yX I<|oZ (sK 1 ag I I I I I sB)<|oZ (sK 0 bD I I I I I sB)<|lA I<|nL<|bN<|dR (.cons_cons _<|.cons_cons _<|.cons _<|.cons_cons _<|.cons_cons _<|.cons _<|.cons _<|.refl _)<|za8 (g3,_,p3,n3,c3) sB I I ⟨hle3,hc3,him3⟩
  ·refine rZ<|lU (fA aJ I zT3 I)<|lK (qL iT3 I<|cO 5 I I)<|tZ<|bK<|rZ<|lU (SU.eq (v':=vb false) (eQ I I)<|ze2 vb<|zf7 oM)<|aT I<|cF I<|rZ<|lU (SU.eq (v':=vb true) (eQ I I)<|ze2 vb<|zf8 hk)<|aT I<|za1 I<|rG<|lK (qV 2 ar ag I I I)<|lK (qV 5 jB ft I I I)<|lW (SO.call call78 I<|h2 hk E g2 _ _ _ hA he2) ?_;rintro _ g3 _ ⟨rfl,hle3,u3,p3,n3,c3,rfl,hc3,him3⟩;obtain ⟨pu,cu,rfl⟩:=hc3.form;exact lM I<|yX I<|yX I<|yX I<|oZ (sK 1 ag I I I I I sB)<|oZ (sK 0 bD I I I I I sB)<|lA I<|nL<|bN<|dR (.cons_cons _<|.cons_cons _<|.cons _<|.cons_cons _<|.cons_cons _<|.cons _<|.cons _<|.refl _)<|za8 (g3,_,p3,n3,c3) sB I I ⟨hle3,hc3,him3⟩
  ·refine rZ<|lU (fA aJ I zT3 I)<|lK (qL iT3 I<|cO 5 I I)<|tZ<|bK<|rZ<|lU (SU.eq (v':=vb false) (eQ I I)<|ze2 vb<|zf7 oM)<|aT I<|cF I<|rZ<|lU (SU.eq (v':=vb false) (eQ I I)<|ze2 vb<|zf7 oM)<|aT I<|cF I<|rZ<|lU (SU.eq (v':=vb true) (eQ I I)<|ze2 vb<|zf8 hk)<|aT I<|za1 I<|rG<|lK (qV 2 ar ag I I I)<|lK (qV 5 jB ft I I I)<|lW (SO.call call79 I<|h3 hk E g2 _ _ _ hA he2) ?_;rintro _ g3 _ ⟨rfl,hle3,u3,p3,n3,c3,rfl,hc3,him3⟩;obtain ⟨pu,cu,rfl⟩:=hc3.form;exact lM I<|yX I<|yX I<|yX I<|oZ (sK 1 ag I I I I I sB)<|oZ (sK 0 bD I I I I I sB)<|lA I<|nL<|bN<|dR (.cons_cons _<|.cons_cons _<|.cons _<|.cons_cons _<|.cons_cons _<|.cons _<|.cons _<|.refl _)<|za8 (g3,_,p3,n3,c3) sB I I ⟨hle3,hc3,him3⟩
  ·refine rZ<|lU (fA aJ I zT3 I)<|lK (qL iT3 I<|cO 5 I I)<|tZ<|bK<|rZ<|lU (SU.eq (v':=vb false) (eQ I I)<|ze2 vb<|zf7 oM)<|aT I<|cF I<|rZ<|lU (SU.eq (v':=vb false) (eQ I I)<|ze2 vb<|zf7 oM)<|aT I<|cF I<|rZ<|lU (SU.eq (v':=vb false) (eQ I I)<|ze2 vb<|zf7 oM)<|aT I<|cF I<|rZ<|lU (SU.eq (v':=vb true) (eQ I I)<|ze2 vb<|zf8 hk)<|aT I<|za1 I<|rG<|lK (qV 2 ar ag I I I)<|lK (qV 5 jB ft I I I)<|lW (SO.call call80 I<|h4 hk E g2 _ _ _ hA he2) ?_;rintro _ g3 _ ⟨rfl,hle3,u3,p3,n3,c3,rfl,hc3,him3⟩;obtain ⟨pu,cu,rfl⟩:=hc3.form;exact lM I<|yX I<|yX I<|yX I<|oZ (sK 1 ag I I I I I sB)<|oZ (sK 0 bD I I I I I sB)<|lA I<|nL<|bN<|dR (.cons_cons _<|.cons_cons _<|.cons _<|.cons_cons _<|.cons_cons _<|.cons _<|.cons _<|.refl _)<|za8 (g3,_,p3,n3,c3) sB I I ⟨hle3,hc3,him3⟩
  ·refine rZ<|lU (fA aJ I zT3 I)<|lK (qL iT3 I<|cO 5 I I)<|tZ<|bK<|rZ<|lU (SU.eq (v':=vb false) (eQ I I)<|ze2 vb<|zf7 oM)<|aT I<|cF I<|rZ<|lU (SU.eq (v':=vb false) (eQ I I)<|ze2 vb<|zf7 oM)<|aT I<|cF I<|rZ<|lU (SU.eq (v':=vb false) (eQ I I)<|ze2 vb<|zf7 oM)<|aT I<|cF I<|rZ<|lU (SU.eq (v':=vb false) (eQ I I)<|ze2 vb<|zf7 oM)<|aT I<|cF I<|rZ<|lU (SU.eq (v':=vb true) (eQ I I)<|ze2 vb<|zf8 hk)<|aT I<|za1 I<|rG<|lK (qV 2 ar ag I I I)<|lK (qV 5 jB ft I I I)<|lW (SO.call call81 I<|h5 hk E g2 _ _ _ hA he2) ?_;rintro _ g3 _ ⟨rfl,hle3,u3,p3,n3,c3,rfl,hc3,him3⟩;obtain ⟨pu,cu,rfl⟩:=hc3.form;exact lM I<|yX I<|yX I<|yX I<|oZ (sK 1 ag I I I I I sB)<|oZ (sK 0 bD I I I I I sB)<|lA I<|nL<|bN<|dR (.cons_cons _<|.cons_cons _<|.cons _<|.cons_cons _<|.cons_cons _<|.cons _<|.cons _<|.refl _)<|za8 (g3,_,p3,n3,c3) sB I I ⟨hle3,hc3,him3⟩
 rintro ⟨g3,u3,p3,n3,c3⟩ ⟨hle3,hc3,him3⟩;dsimp only at hle3 hc3 him3 ⊢;have hle13:=hle1.trans<|hle2.trans hle3;obtain ⟨pu,cu,rfl⟩:=hc3.form;refine sQ<|sW I<|yE I<|tZ<|iP I (fun h0=>?_) (fun h0=>?_)
 ·subst h0;have hout:aH 0 D=if (aq D).2≠0 then ((aq D).2,[]) else (0,aa D):=by unfold aH; rw[fH]; rfl
  rw[hout];refine rG<|lK (qV 1 ar ag I I I)<|lW (SO.call call67 I<|gb E g3 _ _ D hc3 hD) ?_;rintro _ g4 _ ⟨rfl,rfl,hle4⟩;rw[eI];refine lM I<|yX I<|yX I<|aT I<|sQ<|sW I<|lU (nQ I I)<|tZ<|iP I (fun hz=>?_) (fun hz=>?_)
  ·have he3:(if (aq D).2≠0 then ((aq D).2,[]) else ((0:Int),aa D))=((aq D).2,[]):=zg1 hz;rw[he3];exact rZ<|lU (za2 I buildE29)<|lU (za2 I buildZ89)<|lM I<|oZ (sK 3 ag I I I I I sB)<|oZ (sK 2 bD I I I I I sB)<|aT I<|rE<|tR<|ST.retCCT 3 2 s (.inl I) results45 I I I ar ag fw bD I I I I uR ⟨I,hle13.trans hle4,_,_,_,_,_,I,ak.nil _,fun h=>absurd h hz,fun _=>⟨I,Ims.nil _⟩⟩
  ·have he3:(if (aq D).2≠0 then ((aq D).2,[]) else ((0:Int),aa D))=(0,aa D):=zf9 hz;rw[he3];refine kP<|tN<|sQ ?_;refine SC.drawX [2,3,4] ze3 kR ?_
   repeat' (first
    | (refine SB.o (i:=0) I (SQ.sof<|qV 1 ar ag I I I) dC (.inr iR) ?_; rintro _ _ _ ⟨rfl,rfl,rfl⟩)
    | (refine SB.ob (i:=0) I (SQ.sof<|qV 1 ar ag I I I) dC kD ?_; rintro _ _ _ ⟨rfl,rfl,rfl⟩)
    | (refine SB.o (i:=1) I (SO.call call47 I<|dZ E g4 _ _ D (hc3.mono hle4) hD) dC (.inr iR) ?_; rintro _ g5 _ ⟨rfl,hle5,u5,rfl,hA5⟩; obtain ⟨p5,c5,rfl⟩:=hA5.form)
    | (refine SB.ob (i:=1) I (SO.call call47 I<|dZ E g4 _ _ D (hc3.mono hle4) hD) dC kD ?_; rintro _ g5 _ ⟨rfl,hle5,u5,rfl,hA5⟩; obtain ⟨p5,c5,rfl⟩:=hA5.form)
    | (refine SB.o (i:=2) I (SQ.sof<|qV 0 fw bD I I I) dC (.inl dC) ?_; rintro _ _ _ ⟨rfl,rfl,rfl⟩)
    | (refine SB.on (i:=3) I (sK 3 ag I I I I I sB) (.inl dC) ?_; rintro _ _ _ ⟨rfl,rfl⟩)
    | (refine SB.on (i:=4) I (sK 2 bD I I I I I sB) (.inl dC) ?_; rintro _ _ _ ⟨rfl,rfl⟩; refine SX.u (i:=5) I kD (aS I) dC ?_)
    | refine zd7 0 2 kD ?_ ?_
    | refine zd7 1 2 kD ?_ ?_
    | refine zd7 2 3 kD ?_ ?_
    | refine zd6 3 kD ?_
    | refine zd6 4 kD ?_
    | refine zd6 2 kD ?_
    | refine zd6 1 kD ?_
    | refine zd6 0 kD ?_
    | (refine SX.nil kD ?_; refine tN ?_; refine rE ?_; exact ST.retCCT 3 2 s (.inl I) results45 I I I ar ag fw bD I I I I uR ⟨I,hle13.trans (hle4.trans hle5),_,_,_,_,_,I,hA5,fun _=>⟨I,(him3 I).mono (hle4.trans hle5)⟩,fun h=>absurd I h⟩))
 ·have hout:aH code D=(code,[]):=zg1 h0;rw[hout];refine kP<|tN<|sQ<|sW I<|lU (nQ I I)<|tZ<|iP I (fun hz=>?_) (fun hz=>?_)
  ·exact rZ<|lU (za2 I buildE29)<|lU (za2 I buildZ89)<|lM I<|oZ (sK 3 ag I I I I I sB)<|oZ (sK 2 bD I I I I I sB)<|aT I<|rE<|tR<|ST.retCCT 3 2 s (.inl I) results45 I I I ar ag fw bD I I I I uR ⟨I,hle13,_,_,_,_,_,I,ak.nil _,fun h=>absurd h h0,fun _=>⟨I,Ims.nil _⟩⟩
  ·exact absurd h0 hz
theorem rS (E:World)(g:PH)(s:Own)(v ev:Value)(l:List Cl)(e:Ed)(ims:List (Int×List Tm))(bk:Bool)(hv:ak g v l)(hf:a8 l)(he:EdR g ev e)(hr:(aq l).2=0)
  (hk1:e.kind≠1) (hk2:e.kind≠2) (hk3:e.kind≠3) (hk4:e.kind≠4) (hk5:e.kind≠5) :
  Ctr Tryz.prog E 45 #[.agg #[v],ev] g s (fun r g' s'=>s=s'∧Le g g'∧eV 1 [] ims bk r g'):=by
 obtain ⟨sv,pv,rfl,hsv,hpv⟩:=he;obtain ⟨sp,sc,rfl⟩:=za3 hsv;obtain ⟨pq,pc,rfl⟩:=za3 hpv;obtain ⟨p,c,rfl⟩:=hv.form;have hd:decide ((dj l).2=0)=true:=by rw[eI]; exact zf8 hr
 refine zb1 (args:=[.agg #[.slice p l.length c],.agg #[vi e.kind,vi e.cell,vi e.dim,vi e.new,vi e.other,.slice sp e.sides.length sc,.slice pq e.pairs.length pc]]) func45 I ntmps45 (bE I)<|rZ (bW (bO I) fun b2=>?_);refine bW (bO I) fun b3=>bW (aL zl6) fun b4=>bW (aL zl1) fun b5=>aT I<|rZ<|lK (qV 3 ar ag I I I)<|lW (SO.call call37 I<|ga E g _ _ l hv hf) ?_;rintro _ g1 _ ⟨rfl,rfl,hle1⟩;rw[hd];refine aT I<|sQ<|sW I<|lU (SU.not I)<|tZ<|cF I<|kP<|tN<|rZ<|lK (qV 3 ar ag I I I)<|lW (SO.call call47 I<|dZ E g1 _ _ l (hv.mono hle1) hf) ?_;rintro _ g2 _ ⟨rfl,hle2,u2,rfl,hA⟩;obtain ⟨p2,c2,rfl⟩:=hA.form;refine bW (aL zl6) fun b8=>oZ (sK 0 ag I I I I I sB)<|tZ (rZ<|bW (aL zl6) fun b9=>?_);refine tZ (rZ<|bW (aL zl1) fun b10=>?_);refine tZ<|rZ<|aT I<|sQ<|rZ<|lU (fA aJ I zT3 I)<|lK (qL iT3 I<|cO 5 I I)<|tZ<|bK<|rZ<|lU (SU.eq (v':=vb false) (eQ I I)<|ze2 vb<|zf7 hk1)<|aT I<|cF I<|rZ<|lU (SU.eq (v':=vb false) (eQ I I)<|ze2 vb<|zf7 hk2)<|aT I<|cF I<|sQ<|rG<|lU (SU.eq (v':=vb false) (eQ I I)<|ze2 vb<|zf7 hk3)<|aT I<|cF I<|rZ<|lU (SU.eq (v':=vb false) (eQ I I)<|ze2 vb<|zf7 hk4)<|aT I<|cF I<|rZ<|lU (SU.eq (v':=vb false) (eQ I I)<|ze2 vb<|zf7 hk5)<|aT I<|cF I<|kP<|bN<|tN<|sQ<|sW I<|yE I<|tZ<|iP I (fun h0=>?_) (fun h0=>?_)
 ·cases h0
 ·refine kP<|tN<|sQ<|sW I<|lU (nQ I I)<|tZ<|iP I (fun hz=>?_) (fun hz=>?_)
  ·exact rZ<|lU (za2 I buildE29)<|lU (za2 I buildZ89)<|lM I<|oZ (sK 4 ag I I I I I sB)<|oZ (sK 3 bD I I I I I sB)<|aT I<|rE<|tR<|ST.retCCT 4 3 s (.inl I) results45 I I I ar ag fw bD I I I I uR ⟨I,hle1.trans hle2,_,_,_,_,_,I,ak.nil _,(fun h=>by cases h),fun _=>⟨I,Ims.nil _⟩⟩
  ·exact absurd dC hz
theorem oe (E:World)(g:PH)(s:Own)(sv pv:Value)(e:Ed)(id:Int)(hsv:sv.cells = #[sv])(hpv:SlA ax g pv e.pairs)(hpl:e.pairs.length<1099511627776) :
  Ctr Tryz.prog E 46 #[.agg #[vi e.kind,vi e.cell,vi e.dim,vi e.new,vi e.other,sv,pv],vi id] g s (fun r g' s'=>r=vi (fK e id)∧g=g'∧s=s'):=by
 obtain ⟨p,c,rfl⟩:=za3 hpv;refine zb1 (args:=[.agg #[vi e.kind,vi e.cell,vi e.dim,vi e.new,vi e.other,sv,.slice p e.pairs.length c],vi id]) func46 I ntmps46 (bE I)<|rZ (bW (bO I) fun b2=>?_);refine aT I<|sQ<|rZ<|aT I<|bK<|SC.loop (ι:=Nat) (fun k=>[(1,vi id),(2,pp b2 0),(5,vi k)]) (fun _=>g) (fun _=>pt b2 (.cells #[vi e.kind,vi e.cell,vi e.dim,vi e.new,vi e.other,sv,.slice p e.pairs.length c] 39 (0,0))::s)
  (fun k=>k≤e.pairs.length∧(e.kind=4→∀ j (hj:j<k) (hl:j<e.pairs.length),e.pairs[j].2≠id)) (fun k=>e.pairs.length - k) 0 sB rfl rfl ⟨zf6 _,fun _ j hj=>absurd hj oM⟩ ?_
 rintro k ⟨hk,hno⟩;try dsimp only at hk hno ⊢
 by_cases hlt:(k:Int)<((e.pairs.length:Nat):Int)
 ·have hkl:k<e.pairs.length:=oM;have hb1:=za5 hpv oM;have hgk:e.pairs[((k:Nat):Int).toNat]?=some e.pairs[k]:=gE hkl;have hfound:=fun h4 h=>sZ (e:=e) (id:=id) h4 hkl h (fun j hj=>hno h4 j hj oM);have hsucc:(e.kind=4→e.pairs[k].2≠id)→e.kind=4→∀ j (hj:j<k+1) (hl:j<e.pairs.length),e.pairs[j].2≠id:=fun h h4 j hj hl=>by
   by_cases hjk:j=k
   ·subst hjk; exact h h4
   ·exact hno h4 j oM hl
  generalize e.pairs[k]=x at *;obtain ⟨x1,x2⟩:=x;dsimp only at hfound hsucc;refine sQ<|sW I<|lU (fA aJ I iW I)<|lK (qL (v:=.slice p e.pairs.length c) jr I<|cO 0 I I)<|lU (eN cC I)<|lU (SU.eq (v':=vb true) (lS I I)<|ze2 vb<|zf8 hlt)<|lM I<|lY I I I (fA aJ I zT3 I)<|SL.gq (gT I I I dC) (qL (v:=vi e.kind) iT3 I<|cO 0 I I) dC<|lY I I I (eQ I I)<|yP I<|tZ<|iP I (fun h4=>?_) (fun h4=>?_)
  ·refine kP<|tN<|sQ<|bK<|rZ<|lU (fA aJ I iW I)<|lK (qL (v:=.slice p e.pairs.length c) jr I<|cO 0 I I)<|lM I<|lU (iA cC bM I I hb1 oM sL)<|lU (SU.indexAddrC cN zT3 I hb1 I dC dC)<|lK (aZ (e:=ax) (o:=1) (u:=vi x2) iT3 I (za6 hpv) hgk I)<|lM I<|yE I<|tZ<|iP I (fun hx=>?_) (fun hx=>?_)
   ·exact rZ<|lU (fA aJ I iW I)<|lK (qL (v:=.slice p e.pairs.length c) jr I<|cO 0 I I)<|lM I<|lU (iA cC bM I I hb1 oM sL)<|lU (SU.indexAddrC cN zT3 I hb1 I dC dC)<|lK (aZ (e:=ax) (o:=0) (u:=vi x1) iT3 I (za6 hpv) hgk I)<|aT I<|rE<|bR<|tR<|tR<|bR<|tR<|dR (s':=s) uR<|za7 (.inl I) results46 I ⟨by rw[hfound h4 hx],I,I⟩
   ·exact kP<|bN<|tN<|rG<|lM I<|yD I<|lA I<|nL<|ST.again (k+1) sB I I ⟨oM,hsucc fun _=>hx⟩ oM
  ·exact xI<|tX<|tX<|bX<|tN<|sW I<|aT I<|rE<|dR (s':=s) uR<|za7 (.inl I) results46 I ⟨by rw[rg fun h=>absurd h h4],I,I⟩
 ·refine sQ (sW I (lU (fA aJ I iW I) (lK (qL (v:=.slice p e.pairs.length c) jr I (cO 0 I I)) (lU (eN cC I) (lU (SU.eq (v':=vb false) (lS I I) (ze2 vb (zf7 hlt))) (lM I (yA I (yA I (yA I (yF I (tZ (cF I (xI (tX (tX (bX (tN (sW I (aT I (rE (dR (s':=s) uR ?_)))))))))))))))))))));exact za7 (.inl I) results46 I ⟨by
   rw[rg fun h4 x hx=>?_];obtain ⟨j,hj,rfl⟩:=zc7 hx;exact hno h4 j oM hj,I,I⟩
def qN (l:List Cl)(e:Ed)(code:Int)(D:List Cl):Prop:=∀ (E:World) (g:PH) (s:Own) (v ev:Value),ak g v l→EdR g ev e →
 Ctr Tryz.prog E 45 #[.agg #[v],ev] g s (fun r g' s'=>s=s'∧Le g g'∧uB code D r g')
theorem pw (E:World)(g:PH)(s:Own)(v mv ev:Value)(l:List Cl)(m:List Pr)(e:Ed)(code:Int)(D:List Cl)(hv:ak g v l)(hm:SlA ax g mv m)(he:EdR g ev e)(hml:m.length<499999999999)(hpl:e.pairs.length<1099511627776)(ha:qN l e code D)(hD:code=0→a8 D∧D.length≤8000) :
  Ctr Tryz.prog E 21 #[.agg #[v],mv,ev] g s (fun r g' s'=>s=s'∧Le g g'∧zo (bZ m e code D) r g'):=by
 have he0:=he;obtain ⟨sv,pv,rfl,hsv,hpv⟩:=he;obtain ⟨sp,sc,rfl⟩:=za3 hsv;obtain ⟨pq,pc,rfl⟩:=za3 hpv;obtain ⟨p,c,rfl⟩:=hv.form;obtain ⟨q,d,rfl⟩:=za3 hm;refine zb1 (args:=[.agg #[.slice p l.length c],.slice q m.length d,.agg #[vi e.kind,vi e.cell,vi e.dim,vi e.new,vi e.other,.slice sp e.sides.length sc,.slice pq e.pairs.length pc]]) func21 I ntmps21 (bE I)<|rZ (bW (bO I) fun b3=>?_);refine bW (bO I) fun b5=>bW (aL zl6) fun b6=>lA I<|aT I<|rZ<|lK (qV 2 ar ag I I I)<|lK (qV 1 jB ft I I I)<|lW (SO.call call45 I<|ha E g _ _ _ hv he0) ?_;rintro _ g1 _ ⟨rfl,hle1,u1,p1,n1,c1,k1,rfl,hu1⟩;obtain ⟨pu,cu,rfl⟩:=hu1.form;refine lM I (yX I<|yX I<|yX I<|bW (aL zl6) fun b9=>?_);refine bW (aL zl1) fun b10=>oZ (sK 1 ag I I I I I sB)<|oZ (sK 0 bD I I I I I sB)<|aT I<|sQ<|sW I<|lU (nQ I I)<|tZ<|iP I (fun hc0=>?_) (fun hc0=>?_)
 ·have ho:bZ m e code D=(code,[],[]):=zg1 hc0;rw[ho];exact rZ<|lU (za2 I buildE29)<|lM I<|oZ (sK 2 ag I I I I I sB)<|lA I<|aT I<|rE<|tR<|ST.retCTT 2 s (.inl I) results21 I I I ar ag I I uR ⟨I,hle1,_,_,I,ak.nil _,zb9 _ _⟩
 ·have hc:code=0:=Decidable.not_not.1 hc0;subst hc;obtain ⟨hDf,hDl⟩:=hD rfl;have ho:bZ m e 0 D=(0,D,eF D<|m.map fun p=>(fK e p.1,fK e p.2)):=rfl;rw[ho];have hm1:=za4 hm hle1;have hpv1:=za4 hpv hle1;refine kP<|tN<|rZ<|aT I<|sQ<|rZ<|aT I<|bK<|zb5 44 2<|SC.loop (ι:=Nat×Value) (fun i=>[(1,.slice q m.length d),(5,pp b5 0),(6,pp b6 0),(9,pp b9 0),(12,i.2),(13,vi i.1)]) (fun _=>g1)
   (fun i=>rowA ax 44 i.2 ((m.take i.1).map fun p=>(fK e p.1,fK e p.2))::pt b10 (.cells #[.slice p1 n1 c1,vb k1] 89 (0,0))::pt b9 (.cells #[.slice pu D.length cu] 29 (0,0))::pt b6 (.cells #[.slice none 0 0] 29 (0,0))::pt b5 (.cells #[vi e.kind,vi e.cell,vi e.dim,vi e.new,vi e.other,.slice sp e.sides.length sc,.slice pq e.pairs.length pc] 39 (0,0))::pt b3 (.cells #[.slice p l.length c] 29 (0,0))::s)
   (fun i=>i.1≤m.length) (fun i=>m.length - i.1) (0,.slice none 0 0) sB rfl rfl (zf6 _) ?_
  rintro ⟨k,lv⟩ hk;dsimp only at hk ⊢;refine sQ<|sW I<|lM I<|lU (eN cC I)<|yL I<|tZ<|iP I (fun hlt=>?_) (fun hlt=>?_)
  ·have hkl:k<m.length:=oM;have hb1:=za5 hm1 oM;have hgk:m[((k:Nat):Int).toNat]?=some m[k]:=gE hkl;have htk:(m.take<|k+1).map (fun p=>(fK e p.1,fK e p.2))=(m.take k).map (fun p=>(fK e p.1,fK e p.2))++[(fK e m[k].1,fK e m[k].2)]:=by rw[tS hkl,zg5]; rfl
   have hll:((m.take k).map fun p=>(fK e p.1,fK e p.2)).length=k:=by rw[ze6,ze4]; omega
   generalize m[k]=x at *;obtain ⟨x1,x2⟩:=x;dsimp only at htk;refine kP<|tN<|sQ<|bK<|dW [17] [(0,2),(1,1),(2,2),(3,2),(4,2),(5,2),(6,1),(8,1),(9,2),(10,2),(11,2),(12,2),(13,1),(7,0),(14,0),(15,2),(16,0),(17,0),(18,2)] ze3 kR<|yM I<|pK I (qV 4 jB ft I I I)<|yM I<|yM I<|pU I (iA cC bM I I hb1 oM sL)<|pU I (SU.indexAddrC cN zT3 I hb1 I dC dC)<|pK I (aZ (e:=ax) (o:=0) (u:=vi x1) iT3 I (za6 hm1) hgk I)<|pK I (qV 4 jB ft I I I)<|yM I<|yM I<|pU I (iA cC bM I I hb1 oM sL)<|pU I (SU.indexAddrC cN zT3 I hb1 I dC dC)<|pK I (aZ (e:=ax) (o:=1) (u:=vi x2) iT3 I (za6 hm1) hgk I)<|SP.o I (SO.call call46 I<|oe E g1 _ _ _ e x1 I hpv1 hpl) dC (.inr iR) ?_;rintro _ _ _ ⟨rfl,rfl,rfl⟩;refine SP.o I (SO.call call46 I<|oe E g1 _ _ _ e x2 I hpv1 hpl) dC (.inr iR) ?_;rintro _ _ _ ⟨rfl,rfl,rfl⟩;refine pU I (za2 I<|build44 _ _)<|SP.o I (bS sty31 I I I (ab sB) dC) dC (.inr iR) ?_;rintro _ _ _ ⟨b47,rfl,rfl,rfl⟩;refine SP.o I (aP (e:=ax) 0 (fK e x1,fK e x2) sty31 I I I I I oM oM) dC (.inl dC) ?_;rintro lv' _ _ ⟨rfl,rfl⟩;exact pU I (aS I)<|pN<|bN<|tN<|rG<|lM I<|yD I<|lA I<|nL<|ST.again (k+1,lv') sB I (by dsimp only; rw[htk]; rfl) (by dsimp only; omega) (by dsimp only; omega)
  ·have hkk:m.take k=m:=tL oM;rw[hkk];refine xI (tX<|tX<|bX<|tN<|sQ<|fS fun g2 hle2 hs2=>?_);refine dW [4] [(0,1),(1,1),(2,2),(3,0),(4,0),(5,2),(6,2)] ze3 kR<|pK I (qV 1 ar ag I I I)<|pK I (qV 1 ar ag I I I)<|yM I<|SP.o I (SO.call call16 I<|lp E g2 _ _ _ D _ (hu1.mono hle2) hDf oM hs2 (by rw[ze6]; omega)) dC (.inr iR) ?_;rintro v52 g3 _ ⟨rfl,hle3,hx3⟩;refine SP.on I (sK 2 ag I I I I I sB) (.inl dC) ?_;rintro _ _ _ ⟨rfl,rfl⟩;exact pU I (aS I)<|pU I (aS I)<|pN<|tN<|rE<|ST.retCTT 2 s (.inl I) results21 I I I ar ag I I uR ⟨I,hle1.trans<|hle2.trans hle3,_,_,I,hu1.mono<|hle2.trans hle3,hx3⟩
end Go.Proofs.YtmmghffoakhheaaGreatDoor
namespace Go.Sy
open Go
section
variable {E:World}{g g':PH}{es s:Own}{w w':World}
end
end Go.Sy
namespace Go.Proofs.YtmmghffoakhheaaGreatDoor
open _root_.Go.Proofs.Tryz _root_.Go.Proofs.YtmmghffoakhheaaGreatDoor.Tryz
open Go Go.Sy Go.Pl Go.Proofs
set_option maxRecDepth 100000
set_option maxHeartbeats 4000000
theorem BE {l:List Cl}(h:Rt (aa l)):aq l=(0,0):=by
 have hf:=h.few;rw[aN] at hf;exact wO hf h.pos h.asc (fun x hx=>(h.form x hx).ok) h.around
theorem r4 (sp:Nat)(L:List Int)(G:List Nat)(bs:Nat):(aq<|fh sp L G bs).2=0:=by rw[BE (mO sp L G bs).1]
section
variable {l:List Cl}(hl:(aq l).2=0)
include hl
omit hl in
end
open Go.ChangeShapes Go.WideShapes Go.ChangeAt Go.RowKit
set_option maxRecDepth 100000
section
variable {H:Type}{enc:TypeId×Value→H}{W:World}{base:Nat}{spare:Nat→Bool}{hd:Bool}
end
open Go Go.Sy Go.Pl Go.Proofs Go.Shelf Go.Sort
theorem qw {α:Type}[Inhabited α]{k:Nat}(en:Enc α k)(l:List α):(flatK en.enc k l.toArray).toList=l.flatMap en.enc:=by
 apply List.ext_getElem?;intro t;by_cases ht:t<l.length * k
 ·have h1:t / k<l.length:=by rw[Nat.div_lt_iff_lt_mul en.pos]; exact ht
  have h2:t % k<k:=Nat.mod_lt _ en.pos;have h3:l[t / k]?=some l[t / k]:=gE h1;have h4:t % k<(en.enc l[t / k]).length:=by rw[en.len]; exact h2
  have h5:=Enc.get (e:=en) (l:=l) h3<|gE h4;rw[show t / k * k+t % k=t from Nat.div_add_mod' t k] at h5;rw[h5];have hs:t<(flatK en.enc k l.toArray).size:=by simpa using ht
  rw[Array.getElem?_toList,Array.getElem?_eq_getElem hs];have h6:=get_flatK en.enc k l.toArray t (by simpa using ht);rw[getElem!_pos _ t hs] at h6;rw[h6];have h7:l.toArray[t / k]! = l[t / k]:=by rw[getElem!_pos l.toArray (t / k) (by simpa using h1)]; simp
  rw[h7,getElem!_pos (en.enc l[t / k]) (t % k) h4]
 ·rw[List.getElem?_eq_none (by simp; omega),List.getElem?_eq_none (by rw[Enc.length]; omega)]
def EH (P:Program)(fn:Nat){α:Type}(enc:α→List Value)(cf:α→α→Int):Prop:=∀ (E:World) (g:PH) (s:Own) (x y:α),
 Ctr P E fn #[.agg (enc x).toArray,.agg (enc y).toArray] g s (fun r g' s'=>r = .int .i64 (cf x y)∧g=g'∧s=s')
theorem wi {P:Program}{ρ:Ren}(L:SlLaysF0.n6 P ρ){α:Type}[Inhabited α]{k:Nat}(en:Enc α k)(aE:∀ w,(isAgg<|ρ.t 24).run P w = .ok true w)(zE:∀ w,(Go.sizeOf<|ρ.t 24).run P w = .ok k w)(cf:α→α→Int)(hO:SWO (ltOf cf))(fn:Nat)
  (eg:∀ args w,(callFunc fn args).run P w = .ok (.enter fn args) w) (hcmp:EH P fn en.enc cf) (T:TypeId) (E:World) (g:PH) (s:Own) (v:Value) (l:List α) (i:Nat) (hi:s[i]?=some (rowA en T v l)) (hl:l.length<1099511627776) :
  Ctr P E (ρ.f 6) #[v,.func (.func fn) #[] #[]] g s (fun _ g' s'=>g=g'∧∃ l':List α,l'.Perm l∧(l'.Pairwise fun x y=>¬ cf y x<0)∧s'=s.set i (rowA en T v l')):=by
 intro w hw;obtain ⟨h1,h2⟩:=kr hw hi
 rcases h2 with ⟨p,rfl,hn⟩ | ⟨b,cap,cur,rfl,hb,hle,hcm,hcs,ht⟩
 ·have hnil:l=[]:=zf4 hn;subst hnil;refine (AnyF.slices_SortFunc_none L p 0 (.func (.func fn) #[] #[]) w).mono ?_;rintro e w' ⟨rfl,rfl⟩;exact⟨_,g,s,I,hw,I,[],.nil,.nil,(m6 hi).symm⟩
 ·have hfr:=hw.fresh _ (zg2 hi) b rfl;have hblt:=(Array.getElem?_eq_some_iff.1 hb).1;have hfl:=qw en l;have hcmp':CmpLays P fn #[] en.enc k cf b 0 l.toArray.size w:=by
   intro m os dk hs x y;refine (hcmp (sortWorldK en.enc k w b 0 m dk os) (A9 _) [] x y _ (Ey _)).mono ?_;rintro e w' ⟨v',g',s',rfl,hat,rfl,rfl,rfl⟩;exact⟨I,Cr hat⟩
  have hH:HoldsK en.enc k w b 0 l.toArray:=by
   intro j hj;have hj':j<l.length * k:=by simpa using hj
   refine⟨?_,by simp[World.frozen?,hb]⟩;have h1:(cur.toList.take<|l.length * k)[j]?=(flatK en.enc k l.toArray).toList[j]?:=by rw[ht,hfl]
   rw[List.getElem?_take_of_lt hj'] at h1;have hs:j<(flatK en.enc k l.toArray).size:=by simpa using hj'
   simp only[World.cell?,hb,Nat.zero_add];simp only[Option.isSome_none,Bool.false_eq_true,if_false];rw[← Array.getElem?_toList,h1,Array.getElem?_toList,Array.getElem?_eq_getElem hs,getElem!_pos _ j hs];rfl
  refine (AnyQ.slices_SortFunc L k aE zE en.enc en.len en.one cf hO fn #[] b 0 (cap+1) l.toArray w eg hcmp' hH hblt (by simp; omega)).mono ?_;rintro e w' ⟨rfl,d',n,os,hp,hsd,rfl⟩;obtain ⟨d'⟩:=d';have hdl:d'.length=l.length:=by have:=hp.1; simpa using this
  have hperm:d'.Perm l:=by
   have h5:=hp.2.2;simp only[List.size_toArray,List.extract_toArray] at h5;simpa [List.extract_eq_take_drop,hdl,tL<|Nat.le_of_eq hdl] using h5
  have hsrt:d'.Pairwise fun x y=>¬ cf y x<0:=by
   rw[zc9];intro i j hi hj hij;have h5:=hsd i j (zf6 _) hij (by simp; omega);simp only[ltOf,decide_eq_false_iff_not] at h5;simpa [hi,hj] using h5
  have hfd:=qw en d';have hfs:(flatK en.enc k d'.toArray).size=l.length * k:=by simp[hdl]
  refine⟨_,g,s.set i<|rowA en T (.slice (some ⟨b,0,none⟩) l.length<|cap+1) d',I,?_,I,d',hperm,hsrt,I⟩;have h5:(sortWorldK en.enc k w b 0 n d'.toArray os).heap[b]?=some (.cells (putCells id 0 (flatK en.enc k d'.toArray) cur) T (0,0)):=by
   show (grow (putRow id (Sort.ahead w n) b 0<|flatK en.enc k d'.toArray) os).heap[b]?=_;rw[heap_grow_old _ _ (by simpa using hblt)];simp[putRow,mapBlock,Sort.ahead,Array.getElem?_modify,hb,onCells]
  exact hw.turn (i:=i) (w':=sortWorldK en.enc k w b 0 n d'.toArray os) (e':=rowA en T (.slice (some ⟨b,0,none⟩) l.length (cap+1)) d') hi I ⟨I,Nat.le_add_right _ _⟩ I (by simp[sortWorldK,grow,putRowK,putRow,mapBlock,Sort.ahead]) (fun q hq hne=>by
    have hne':b≠q:=fun e=>hne (by rw[e]; rfl);show (grow (putRow id (Sort.ahead w n) b 0 (flatK en.enc k d'.toArray)) os).heap[q]?=_;rw[heap_grow_old _ _ (by simpa using hq)];simp[putRow,mapBlock,Sort.ahead,Array.getElem?_modify,hne']) (by
    have:=iu (w:=sortWorldK en.enc k w b 0 n d'.toArray os) (T:=T) (k:=k) (n:=d'.length) (b:=b) (cap:=cap) (xs:=d'.flatMap en.enc) (by rw[en.length]) h5 oM hcm (by simp[putCells]; simpa using hcs) (by
     rw[← hfd];apply List.ext_getElem?;intro j;by_cases hj:j<d'.length * k
     ·have hj2:j<(flatK en.enc k d'.toArray).size:=by simpa using hj
      have hj3:j<cur.size:=by
       have:d'.length * k≤(cap+1) * k:=Nat.mul_le_mul_right _ oM;omega
      rw[List.getElem?_take_of_lt hj,Array.getElem?_toList,Array.getElem?_toList,Array.getElem?_eq_getElem hj2];simp only[putCells,Array.getElem?_mapIdx,Array.getElem?_eq_getElem hj3,Option.map_some,zf6,true_and,Nat.zero_add,Nat.sub_zero];rw[zg1 hj2,getElem!_pos _ j hj2];rfl
     ·rw[List.getElem?_take_eq_none oM,List.getElem?_eq_none (by simp; omega)])
    rw[show rowA en T (.slice (some ⟨b,0,none⟩) l.length (cap+1)) d'=row T k (.slice (some ⟨b,0,none⟩) d'.length (cap+1)) d'.length (d'.flatMap en.enc) by simp only[rowA,hdl]];exact this) (fun b' hb'=>by
    simp only[rowA,row,rK,zg7] at hb';subst hb';exact⟨(Array.getElem?_eq_some_iff.1 h5).1,.inl I⟩)
set_option maxHeartbeats 2000000
abbrev Ts:=List (Int×Value×List Tm)
def db (ts:Ts):Own:=ts.map fun t=>rowA dw 156 t.2.1 t.2.2
def gD (ts:Ts):List (Int×Value):=ts.map fun t=>(t.1,t.2.1)
theorem s7 (k:Int):∀ ts:Ts,(dF (gD ts) k=none∧∀ t∈ts,t.1≠k)∨∃ (m:Nat) (t:Int×Value×List Tm),ts[m]?=some t∧t.1=k∧dF (gD ts) k=some t.2.1∧ts.find? (fun t=>decide (t.1=k))=some t
 | []=>.inl ⟨rfl,by simp⟩
 | t::ts=>by
  have hc:gD (t::ts)=(t.1,t.2.1)::gD ts:=rfl;rw[hc,cB];by_cases h:k=t.1
  ·rw[zg1 h];exact .inr ⟨0,t,I,h.symm,I,by rw[zi5,zf8 h.symm]⟩
  ·rw[zf9 h]
   rcases s7 k ts with ⟨h1,h2⟩ | ⟨m,u,h1,h2,h3,h4⟩
   ·exact .inl ⟨h1,fun x hx=>by
     rcases zf1.1 hx with rfl | hx
     ·exact fun e=>h e.symm
     ·exact h2 x hx⟩
   ·exact .inr ⟨m+1,u,h1,h2,h3,by rw[zi5,zf7 (fun e=>h e.symm)]; exact h4⟩
theorem zU {ts:Ts}{m:Nat}{t:Int×Value×List Tm}(h:ts[m]?=some t)(p q:Own):(p++(db ts++q))[p.length+m]?=some (rowA dw 156 t.2.1 t.2.2):=by
 have hj:=(zf5.1 h).1;rw[nH,zh2 (by simpa [db] using hj)];simp[db,h]
theorem zT {ts:Ts}{m:Nat}{t:Int×Value×List Tm}(h:ts[m]?=some t)(l':List Tm)(p q:Own):(p++(db ts++q)).set (p.length+m) (rowA dw 156 t.2.1 l')=p++(db (ts.set m (t.1,t.2.1,l'))++q):=by
 have hj:=(zf5.1 h).1;rw[List.set_append_right _ _ oM,Nat.add_sub_cancel_left,List.set_append_left _ _ (by simpa [db] using hj)];simp[db,List.map_set]
theorem freezeRowsT {E:World}{w:World}:∀ (ts:Ts) (g:PH) (s:Own),At E g (db ts++s) w→∃ g',Le g g'∧At E g' s w∧∀ t∈ts,SlA dw g' t.2.1 t.2.2
 | [],g,s,h=>⟨g,zb8 g,h,by simp⟩
 | (a,v,l)::r,g,s,h=>by
  have h':At E g (row 156 3 v l.length (l.flatMap dw.enc)::(db r++s)) w:=h;obtain ⟨g1,hl1,h1,h2⟩:=h'.freezeRow;obtain ⟨g2,hl2,h3,h4⟩:=freezeRowsT r g1 s h1;refine⟨g2,hl1.trans hl2,h3,fun t ht=>?_⟩
  rcases zf1.1 ht with rfl | ht
  ·exact Sl.mono h2 hl2
  ·exact h4 t ht
theorem SC.freezeRowsT {P:Program}{N:Nat}{E:World}{c:Code}{Q:Exit→Act→World→Prop}{f:Fr}{g:PH}{p q:Own}{ts:Ts}(h:∀ g',Le g g'→(∀ t∈ts,SlA dw g' t.2.1 t.2.2)→SC P N E c Q f g' (p++q)):SC P N E c Q f g (p++(db ts++q)):=fun a w ha hw=>by
 have h0:(p++(db ts++q)).Perm (db ts++(p++q)):=by
  rw[← zg8,← zg8];exact List.perm_append_comm.append_right q
 obtain ⟨g',h1,h2,h3⟩:=Go.Proofs.YtmmghffoakhheaaGreatDoor.freezeRowsT ts g (p++q)<|hw.perm h0;exact h g' h1 h3 a w ha h2
def A4 (ts:Ts):Prop:=∀ t∈ts,t.2.2.length<1099511627776∧(t.2.2.map Prod.fst).Nodup∧∃ p n c,t.2.1 = .slice p n c
def sw (ts:Ts)(k:Int):List Tm:=match ts.find? (fun t=>decide (t.1=k)) with
 | some t=>sortBy Prod.fst t.2.2
 | none=>[(k,1)]
theorem zL {l l':List Tm}(hp:l'.Perm l)(hs:l'.Pairwise fun x y=>¬ jv y.1 x.1<0)(hn:(l.map Prod.fst).Nodup):l'=sortBy Prod.fst l:=by
 have h1:Srt Prod.fst l':=hs.imp fun h=>by rw[cA] at h; omega
 exact bG h1<|sG hp.symm hn
def Tryz.sortT_ren:Ren :=
 {
  f:=fun x =>
   match x with
   | 6=>113
   | 15=>145
   | 14=>144
   | 28=>163
   | 29=>164
   | 20=>155
   | 21=>156
   | 22=>157
   | 23=>158
   | 24=>159
   | 25=>160
   | 26=>161
   | 27=>162
   | 46=>174
   | 47=>175
   | 48=>176
   | 49=>177
   | 50=>178
   | 57=>194
   | n=>n,
  t:=fun x =>
   match x with
   | 22=>151
   | 24=>156
   | 25=>159
   | 3=>3
   | 39=>184
   | 0=>0
   | 53=>201
   | 55=>189
   | 4=>4
   | 46=>195
   | 45=>194
   | 50=>138
   | 5=>5
   | 9=>9
   | 66=>213
   | 70=>217
   | 76=>232
   | 77=>233
   | n=>n,
  g:=fun x =>
   have n:=x;
   n }
theorem Tryz.sortT:SlLaysF0.n6 Tryz.prog Tryz.sortT_ren :=
  {
  mixed:=Eq.refl true,
  f6 :=
   Exists.intro "slices.SortFunc[[]cocycle/api.Term,cocycle/api.Term]"
    ⟨zg3 (id (Eq.refl true)),
     zb7 func113
      (ze2 some
       kR)⟩,
  f14 :=
   Exists.intro "slices.pdqsortCmpFunc[cocycle/api.Term]"
    ⟨zg3 (id (Eq.refl true)),
     zb7 func144
      (ze2 some
       kR)⟩,
  f15:=zb7 func145<|ze2 some kR,
  f20 :=
   Exists.intro "slices.insertionSortCmpFunc[cocycle/api.Term]"
    ⟨zg3 (id (Eq.refl true)),
     zb7 func155
      (ze2 some
       kR)⟩,
  f21 :=
   Exists.intro "slices.heapSortCmpFunc[cocycle/api.Term]"
    ⟨zg3 (id (Eq.refl true)),
     zb7 func156
      (ze2 some
       kR)⟩,
  f22 :=
   Exists.intro "slices.breakPatternsCmpFunc[cocycle/api.Term]"
    ⟨zg3 (id (Eq.refl true)),
     zb7 func157
      (ze2 some
       kR)⟩,
  f23 :=
   Exists.intro "slices.choosePivotCmpFunc[cocycle/api.Term]"
    ⟨zg3 (id (Eq.refl true)),
     zb7 func158
      (ze2 some
       kR)⟩,
  f24 :=
   Exists.intro "slices.reverseRangeCmpFunc[cocycle/api.Term]"
    ⟨zg3 (id (Eq.refl true)),
     zb7 func159
      (ze2 some
       kR)⟩,
  f25 :=
   Exists.intro "slices.partialInsertionSortCmpFunc[cocycle/api.Term]"
    ⟨zg3 (id (Eq.refl true)),
     zb7 func160
      (ze2 some
       kR)⟩,
  f26 :=
   Exists.intro "slices.partitionEqualCmpFunc[cocycle/api.Term]"
    ⟨zg3 (id (Eq.refl true)),
     zb7 func161
      (ze2 some
       kR)⟩,
  f27 :=
   Exists.intro "slices.partitionCmpFunc[cocycle/api.Term]"
    ⟨zg3 (id (Eq.refl true)),
     zb7 func162
      (ze2 some
       kR)⟩,
  f28:=zb7 func163<|ze2 some kR,
  f29:=zb7 func164<|ze2 some kR,
  f46 :=
   Exists.intro "slices.siftDownCmpFunc[cocycle/api.Term]"
    ⟨zg3 (id (Eq.refl true)),
     zb7 func174
      (ze2 some
       kR)⟩,
  f47:=zb7 func175<|ze2 some kR,
  f48:=zb7 func176<|ze2 some kR,
  f49 :=
   Exists.intro "slices.medianAdjacentCmpFunc[cocycle/api.Term]"
    ⟨zg3 (id (Eq.refl true)),
     zb7 func177
      (ze2 some
       kR)⟩,
  f50 :=
   Exists.intro "slices.medianCmpFunc[cocycle/api.Term]"
    ⟨zg3 (id (Eq.refl true)),
     zb7 func178
      (ze2 some
       kR)⟩,
  f57 :=
   Exists.intro "slices.order2CmpFunc[cocycle/api.Term]"
    ⟨zg3 (id (Eq.refl true)),
     zb7 func194
      (ze2 some
       kR)⟩,
  t0:=underlying0,a0:=isAgg0,z0:=sizeOf0,v0:=zeroValue0,t3:=uT3,
  a3:=iT3,z3:=zT3,v3:=zeroValue3,t4:=underlying4,a4:=isAgg4,
  z4:=zT4,v4:=zeroValue4,t5:=uT5,a5:=isAgg5,z5:=sizeOf5,
  v5:=zeroValue5,t9:=underlying9,a9:=isAgg9,z9:=sizeOf9,v9:=zeroValue9,
  t22:=underlying151,a22:=isAgg151,z22:=sizeOf151,v22:=zeroValue151,
  t25:=underlying159,a25:=isAgg159,z25:=sizeOf159,v25:=zeroValue159,
  t39:=gJ,a39:=isAgg184,z39:=sizeOf184,v39:=zeroValue184,
  t45:=underlying194,a45:=isAgg194,z45:=sizeOf194,v45:=zeroValue194,
  t46:=underlying195,a46:=isAgg195,z46:=sizeOf195,v46:=zeroValue195,
  t50:=underlying138,a50:=isAgg138,z50:=sizeOf138,v50:=zeroValue138,
  t53:=underlying201,a53:=isAgg201,z53:=sizeOf201,v53:=zeroValue201,
  t55:=o5,a55:=isAgg189,z55:=sizeOf189,v55:=zeroValue189,
  t66:=underlying213,a66:=isAgg213,z66:=sizeOf213,v66:=zeroValue213,
  t70:=underlying217,a70:=isAgg217,z70:=sizeOf217,v70:=zeroValue217,
  t76:=underlying232,a76:=isAgg232,z76:=sizeOf232,v76:=zeroValue232,
  t77:=underlying233,a77:=isAgg233,z77:=sizeOf233,v77:=zeroValue233 }
theorem DK:EH Tryz.prog 114 dw.enc (fun x y=>jv x.1 y.1):=by
 intro E g s x y;obtain ⟨x1,x2⟩:=x;obtain ⟨y1,y2⟩:=y;refine zb1 (args:=[.agg #[vi x1,vb<|EC x2,txt<|yt x2.natAbs],.agg #[vi y1,vb<|EC y2,txt<|yt y2.natAbs]]) func114 I ntmps114 (bE I)<|rZ (bW (bO I) fun b2=>?_);refine bW (bO I) fun b3=>aT I<|rZ<|lU (fA underlying156 I zT3 I)<|lK (qL (v:=vi x1) iT3 I<|cO 1 I I)<|lU (fA underlying156 I zT3 I)<|lK (qL (v:=vi y1) iT3 I<|cO 0 I I)<|lW (SO.call call115 I<|fG E g _ x1 y1) ?_;rintro _ _ _ ⟨rfl,rfl,rfl⟩;exact aT I<|rE<|dR (s':=s) uR<|za7 (.inl I) results114 I ⟨I,I,I⟩
theorem D9 {α:Type}(key:α→Int):SWO (ltOf fun x y:α=>jv (key x)<|key y):=⟨fun x=>by simp[ltOf,cA],fun x y z h1 h2=>by simp[ltOf,cA] at *; omega,fun x y z h1 h2=>by simp[ltOf,cA] at *; omega⟩
theorem zM (E:World)(g:PH)(s:Own)(v:Value)(l:List Tm)(i:Nat)(hi:s[i]?=some (rowA dw 156 v l))(hl:l.length<1099511627776)(hn:(l.map Prod.fst).Nodup) :
  Ctr Tryz.prog E 113 #[v,.func (.func 114) #[] #[]] g s (fun _ g' s'=>g=g'∧s'=s.set i (rowA dw 156 v<|sortBy Prod.fst l)) :=
 (wi Tryz.sortT dw isAgg156 sizeOf156 (fun x y=>jv x.1 y.1) (D9 Prod.fst) 114 call114 DK 156 E g s v l i hi hl).mono fun _ _ _ ⟨h1,l',h2,h3,h4⟩=>⟨h1,by rw[h4,zL h2 h3 hn]⟩
theorem xL (E:World)(g:PH)(p q:Own)(b2 bx mb ms:Nat)(u:Value)(bk:Bool)(k:Int)(ts:Ts)(hts:A4 ts)(i j z:Nat)(hq:p[z]?=some (pt b2<|.cells #[pp bx 0] 122 (0,0)))(hi:p[i]?=some (edP bx u mb ms bk))(hj:p[j]?=some (mp ms<|gD ts)) :
  cX Tryz.prog E (.func (.func 111) #[] #[pp b2 0]) [vi k] g (p++(db ts++q)) (fun r g' s'=>Le g g'∧∃ ts',s'=p++(db ts'++q)∧((ts.find? (fun t=>decide (t.1=k))=none∧ts'=ts∧SlA dw g' r [(k,1)])∨∃ (m:Nat) (t:Int×Value×List Tm),ts[m]?=some t∧t.1=k∧ts.find? (fun t=>decide (t.1=k))=some t∧r=t.2.1∧ts'=ts.set m (t.1,t.2.1,sortBy Prod.fst t.2.2))):=by
 refine cX.mk (args:=[_]) (cap:=[pp b2 0]) call111 ?_;have left:∀ {n:Nat} {x:Ent},p[n]?=some x→(p++(db ts++q))[n]?=some x:=fun {n x} h=>by
  rw[zh2 (zf5.1 h).1]; exact h
 have hq':=left hq;have hi':=left hi;have hj':=left hj;generalize hs:p++(db ts++q)=s at *
 rcases s7 k ts with ⟨h1,h2⟩ | ⟨m,t,h1,h2,h3,h4⟩
 ·have hf:ts.find? (fun t=>decide (t.1=k))=none:=List.find?_eq_none.2 fun t ht=>by simpa using h2 t ht
  refine zb1 (args:=[vi k,pp b2 0]) func111 I ntmps111 (bE I)<|rZ<|aT I<|rZ<|lK (qL (v:=pp bx 0) isAgg122 I<|cO z hq' I)<|lU (nC I)<|lU (fA ce I sizeOf148 I)<|lK (qL (v:=.map<|some ms) isAgg148 I<|cO i hi' I)<|lM I<|lK (SQ.eq (v':=.tuple #[.slice none 0 0,vb false]) (SQ.lookupOk mty148 I I<|bo.own j hj') (by rw[h1]; rfl)) ?_;refine lM I<|yX I<|yX I<|lA I<|aT I<|sQ<|sW I<|lU (SU.not I)<|tZ<|za1 I<|sW I<|lW (SO.call call112 I<|iq E g _ k 1 dC dC) ?_;rintro _ g1 _ ⟨rfl,rfl,hle1⟩;refine lW (bS sty151 I I I (ab ⟨I,trivial⟩) dC) ?_;rintro _ _ _ ⟨b19,rfl,rfl,rfl⟩;refine zb4 fun g2 hle2 hb2=>?_;exact aT I<|rE<|tR<|za7 (.inl I) results111 I ⟨hle1.trans hle2,ts,hs.symm,.inl ⟨hf,I,SlA.lit hb2 I I⟩⟩
 ·have hrow:=zU h1 p q;have hset:=zT h1 (sortBy Prod.fst t.2.2) p q;rw[hs] at hrow hset;obtain ⟨hl1,hl2,_⟩:=hts t<|zg2 h1;refine zb1 (args:=[vi k,pp b2 0]) func111 I ntmps111 (bE I)<|rZ<|aT I<|rZ<|lK (qL (v:=pp bx 0) isAgg122 I<|cO z hq' I)<|lU (nC I)<|lU (fA ce I sizeOf148 I)<|lK (qL (v:=.map<|some ms) isAgg148 I<|cO i hi' I)<|lM I<|lK (SQ.eq (v':=.tuple #[t.2.1,vb true]) (SQ.lookupOk mty148 I I<|bo.own j hj') (by rw[h3]; rfl)) ?_;refine lM I<|yX I<|yX I<|lA I<|aT I<|sQ<|sW I<|lU (SU.not I)<|tZ<|cF I<|kP<|tN<|sW I<|lW (SO.call call113 I<|zM E g _ t.2.1 t.2.2 _ hrow hl1 hl2) ?_;rintro _ _ _ ⟨rfl,rfl⟩;exact tZ<|sW I<|aT I<|rE<|za7 (.inl I) results111 I ⟨zb8 _,_,hset,.inr ⟨m,t,h1,h2,h4,I,I⟩⟩
theorem xj (l:List Tm):sortBy Prod.fst (sortBy Prod.fst l)=sortBy Prod.fst l:=(bG (ck l)<|aA.refl _).symm
def jA (ts:Ts)(ids:List Int):Ts:=ts.map fun t=>if t.1∈ids then (t.1,t.2.1,sortBy Prod.fst t.2.2) else t
theorem Bl (ts:Ts):jA ts []=ts:=by simp[jA]
theorem zz {ts:Ts}{ids:List Int}{k:Int}(h:(jA ts ids).find? (fun t=>decide (t.1=k))=none):∀ t∈ts,t.1≠k:=fun t ht e=>by
 have h1:=List.find?_eq_none.1 h _<|zf2.2 ⟨t,ht,rfl⟩;apply h1;split <;> exact zf8 e
theorem zy {ts:Ts}{ids:List Int}{k:Int}(h:∀ t∈ts,t.1≠k):jA ts (ids++[k])=jA ts ids:=by
 unfold jA;apply zc8;intro t ht;have hne:=h t ht;by_cases h1:t.1∈ids
 ·rw[zg1 h1,zg1 (by simp[h1])]
 ·rw[zf9 h1,zf9 (by simp[h1,hne])]
theorem Bm {ts:Ts}{ids:List Int}{m:Nat}{t':Int×Value×List Tm}(h:(jA ts ids)[m]?=some t'):∃ t,ts[m]?=some t∧t.1=t'.1∧t.2.1=t'.2.1∧sortBy Prod.fst t'.2.2=sortBy Prod.fst t.2.2:=by
 unfold jA at h;rw[zh9] at h;cases ht:ts[m]? with
 | none=>rw[ht] at h; cases h
 | some t =>
  rw[ht] at h;simp only[Option.map_some,zg7] at h;subst h;refine⟨t,I,?_,?_,?_⟩
  ·split <;> rfl
  ·split <;> rfl
  ·split
   ·exact xj _
   ·rfl
theorem zw {ts:Ts}(hn:(ts.map Prod.fst).Nodup){ids:List Int}{k:Int}{m:Nat}{t':Int×Value×List Tm}(h:(jA ts ids)[m]?=some t')(hk:t'.1=k):(jA ts ids).set m (t'.1,t'.2.1,sortBy Prod.fst t'.2.2)=jA ts (ids++[k]):=by
 obtain ⟨t,h1,h2,h3,h4⟩:=Bm h;apply List.ext_getElem?;intro n;rw[List.getElem?_set];by_cases e:m=n
 ·subst e;have hj:=(zf5.1 h).1;rw[zg1 rfl,zg1 hj];unfold jA;rw[zh9,h1,Option.map_some,zg1 (by simp[h2,hk]),← h4,← h2,← h3]
 ·rw[zf9 e];unfold jA;rw[zh9,zh9];cases hn2:ts[n]? with
  | none=>rfl
  | some u =>
   have hne:u.1≠k:=fun e2=>by
    have hm1:=(zf5.1 h1).1;have hn1:=(zf5.1 hn2).1;have h5:(ts.map Prod.fst)[m]'(by simpa using hm1)=(ts.map Prod.fst)[n]'(by simpa using hn1):=by
     rw[List.getElem_map,List.getElem_map,(zf5.1 h1).2,(zf5.1 hn2).2,h2,hk,e2]
    exact e<|(List.getElem_inj hn).1 h5
   rw[Option.map_some,Option.map_some];by_cases h5:u.1∈ids
   ·rw[zg1 h5,zg1 (by simp[h5])]
   ·rw[zf9 h5,zf9 (by simp[h5,hne])]
theorem yO {ts:Ts}(h:A4 ts)(ids:List Int):A4 (jA ts ids):=fun t ht=>by
 obtain ⟨u,hu,rfl⟩:=zf2.1 ht;obtain ⟨h1,h2,h3⟩:=h u hu;split
 ·exact⟨by rw[eS]; exact h1,((n9 u.2.2).map Prod.fst).symm.nodup h2,h3⟩
 ·exact⟨h1,h2,h3⟩
theorem Bk (ts:Ts)(ids:List Int):gD (jA ts ids)=gD ts:=by
 unfold gD jA;rw[zi4];apply zc8;intro t _;simp only[Function.comp];split <;> rfl
theorem tA {α β γ:Type}{R:α→γ→Prop}{S:β→γ→Prop}{f:α→β}:∀ {l:List α} {m:List γ},(∀ a c,a∈l→R a c→S (f a) c)→az R l m→az S (l.map f) m
 | [],[],_,_=>trivial
 | a::l,c::m,h,⟨h1,h2⟩=>⟨h a c (by simp) h1,tA (fun x y hx=>h x y<|by simp[hx]) h2⟩
 | [],_::_,_,h=>h.elim
 | _::_,[],_,h=>h.elim
def ImS (ts:Ts)(g:PH)(c:Cl)(r:Im):Prop:=r.cell=c.id∧match ts.find? (fun t=>decide (t.1=c.id)) with
 | some t=>.slice r.sv.p r.sv.n r.sv.c=t.2.1
 | none=>SlA dw g (.slice r.sv.p r.sv.n r.sv.c) [(c.id,1)]
theorem ImS.mono {ts:Ts}{g g':PH}(hl:Le g g'){c:Cl}{r:Im}(h:ImS ts g c r):ImS ts g' c r:=by
 refine⟨h.1,?_⟩;have h2:=h.2
 revert h2
 cases ts.find? (fun t=>decide (t.1=c.id)) with
 | some t=>exact id
 | none=>exact fun h2=>za4 h2 hl
theorem ImS.done {ts:Ts}{g:PH}{F:List Cl}(hk:∀ t∈jA ts (F.map Cl.id),SlA dw g t.2.1 t.2.2){c:Cl}(hc:c∈F){r:Im}(h:ImS ts g c r):ImR g (c.id,sw ts c.id) r:=by
 refine⟨h.1,?_⟩;have h2:=h.2;unfold sw;dsimp only
 revert h2
 cases hf:ts.find? (fun t=>decide (t.1=c.id)) with
 | some t =>
  intro h2;have h3:=zk7 hf;have h4:t.1=c.id:=by simpa using List.find?_some hf
  dsimp only at h2 ⊢;rw[h2];exact hk (t.1,t.2.1,sortBy Prod.fst t.2.2)<|zf2.2 ⟨t,h3,by rw[zg1 (by rw[h4]; exact zf2.2 ⟨c,hc,I⟩)]⟩
 | none=>exact id
theorem zx {ts:Ts}{ids:List Int}{k:Int}{t':Int×Value×List Tm}(h:(jA ts ids).find? (fun t=>decide (t.1=k))=some t'):∃ t,ts.find? (fun t=>decide (t.1=k))=some t∧t.2.1=t'.2.1:=by
 unfold jA at h;rw[List.find?_map] at h;rw[Option.map_eq_some_iff] at h;obtain ⟨t,h1,h2⟩:=h;refine⟨t,?_,?_⟩
 ·rw[← h1];congr 1;funext u;simp only[Function.comp];split <;> rfl
 ·rw[← h2];split <;> rfl
theorem Au {ts ts2:Ts}(htn:(ts.map Prod.fst).Nodup)(hok:A4 ts){ids:List Int}{cx:Cl}{g2:PH}{v:Value}
  (h:((jA ts ids).find? (fun t=>decide (t.1=cx.id))=none∧ts2=jA ts ids∧SlA dw g2 v [(cx.id,1)])∨∃ (m:Nat) (t:Int×Value×List Tm),(jA ts ids)[m]?=some t∧t.1=cx.id∧(jA ts ids).find? (fun t=>decide (t.1=cx.id))=some t∧v=t.2.1∧ts2=(jA ts ids).set m (t.1,t.2.1,sortBy Prod.fst t.2.2)) :
  ∃ q n d,v = .slice q n d∧ts2=jA ts (ids++[cx.id])∧ImS ts g2 cx ⟨cx.id,⟨q,n,d⟩⟩:=by
 rcases h with ⟨h1,rfl,h3⟩ | ⟨m,t,h1,h2,h3,rfl,rfl⟩
 ·obtain ⟨p,c,rfl⟩:=za3 h3;have hne:=zz h1;refine⟨p,_,c,I,(zy hne).symm,I,?_⟩;rw[show ts.find? (fun t=>decide (t.1=cx.id))=none from List.find?_eq_none.2 fun t ht=>by simpa using hne t ht];exact h3
 ·obtain ⟨_,_,p,n,c,hv⟩:=yO hok ids t<|zg2 h1;obtain ⟨u,hu1,hu2⟩:=zx h3;refine⟨p,n,c,hv,zw htn h1 h2,I,?_⟩;rw[hu1];dsimp only;rw[hu2,hv]
theorem zI (E:World)(g:PH)(p0 q0:Own)(bx mb ms:Nat)(u v:Value)(bk:Bool)(A D:List Cl)(ts:Ts)(hts:A4 ts)(htn:(ts.map Prod.fst).Nodup)(hu:ak g u A)(hv:ak g v D)(hA:A.length<1099511627776)(hD:D.length<1099511627776)(i j:Nat)(hi0:p0[i]?=some (edP bx u mb ms bk))(hj0:p0[j]?=some (mp ms<|gD ts)) :
  Ctr Tryz.prog E 76 #[pp bx 0,.agg #[v]] g (p0++(db ts++q0)) (fun r g' s'=>s'=p0++q0∧Le g g'∧∃ iv,r = .agg #[iv,vb bk]∧Ims g' iv ((if bk then D else A).map fun c=>(c.id,sw ts c.id))):=by
 have hi:(p0++(db ts++q0))[i]?=some (edP bx u mb ms bk):=by rw[zh2 (zf5.1 hi0).1]; exact hi0
 obtain ⟨pu,cu,rfl⟩:=hu.form;obtain ⟨pv,cv,rfl⟩:=hv.form;refine zb1 (args:=[pp bx 0,.agg #[.slice pv D.length cv]]) func76 I ntmps76 (bE I)<|rZ (bW (bO I) fun b2=>?_);refine bW (bO I) fun b3=>bW (aL zl1) fun b4=>tZ (rZ<|lK (qL isAgg122 I<|cO 2 I I)<|lU (nC I)<|lU (fA ce I ag I)<|lK (SQ.loadOne ar ag I<|cO (v:=.slice pu A.length cu) (i+3) hi I)<|bW (aL zl6) fun b5=>?_);refine oZ (sK 0 ag I I I I I sB)<|tZ<|SC.cut (ι:=Unit) (fun _=>[(2,pp b2 0),(3,pp b3 0),(4,pp b4 0),(5,pp b5 0)]) (fun _=>g) (fun _=>pt b5 (.cells #[if bk then .slice pv D.length cv else .slice pu A.length cu] 29 (0,0))::pt b4 (.cells #[.slice none 0 0,vb false] 89 (0,0))::pt b3 (.cells #[.slice pv D.length cv] 29 (0,0))::pt b2 (.cells #[pp bx 0] 122 (0,0))::(p0++(db ts++q0))) (fun _=>True) ?_ ?_
 ·refine rZ<|lK (qL isAgg122 I<|cO 3 I I)<|lU (nC I)<|lU (fA ce I zT4 I)<|lK (qL (v:=vb bk) isAgg4 I<|cO (i+4) hi I)<|tZ ?_;cases bk with
  | true =>
   exact za1 I<|rG<|lK (qV 2 ar ag I I I)<|oZ (sK 0 ag I I I I I sB)<|nL<|za8 () sB I I trivial
  | false =>
   exact cF I<|kP<|za8 () sB I I trivial
 rintro _ -;try dsimp only
 have hF:ak g (if bk then .slice pv D.length cv else .slice pu A.length cu) (if bk then D else A):=by cases bk <;> assumption
 have hFl:(if bk then D else A).length<1099511627776:=by cases bk <;> assumption
 generalize (if bk=true then D else A)=F at *;generalize (if bk=true then Value.slice pv D.length cv else Value.slice pu A.length cu)=w at *;obtain ⟨rs,hrs,hall⟩:=hF;have hrl:=hall.length;obtain ⟨p,c,rfl⟩:=za3 hrs;refine rZ (lK (qL isAgg122 I<|cO 3 I I)<|lU (nC I)<|lU (fA ce I zT4 I)<|lK (qL (v:=vb bk) isAgg4 I<|cO (i+4) hi I)<|lU (za2 I<|buildB89 _)<|bW (aL zl1) fun b6=>?_);refine oZ (sK 0 bD I I I I I sB)<|tZ<|rZ<|lU (SU.mkFunc I)<|aT I<|sQ<|rZ<|lU (fA du I di I)<|lK (qL dU I<|cO 1 I I)<|lU (eN aF I)<|lM I<|tZ<|bK ?_;clear hi;refine zb5 162 2<|SC.loop (ι:=Nat×PH×Value×List Im) (fun i=>[(2,pp b2 0),(4,pp b4 0),(6,pp b6 0),(7,.func (.func 111) #[] #[pp b2 0]),(26,.slice p rs.length c),(27,vi rs.length),(28,vi i.1)]) (fun i=>i.2.1)
  (fun i=>rowA jp 162 i.2.2.1 i.2.2.2::pt b6 (.cells #[i.2.2.1,vb bk] 89 (0,0))::pt b5 (.cells #[.slice p rs.length c] 29 (0,0))::pt b4 (.cells #[.slice none 0 0,vb false] 89 (0,0))::pt b3 (.cells #[.slice pv D.length cv] 29 (0,0))::pt b2 (.cells #[pp bx 0] 122 (0,0))::(p0++(db (jA ts<|(F.take i.1).map Cl.id)++q0)))
  (fun i=>i.1≤rs.length∧Le g i.2.1∧az (ImS ts i.2.1) (F.take i.1) i.2.2.2) (fun i=>rs.length - i.1) (0,g,.slice none 0 0,[])
  sB rfl (by dsimp only; rw[List.take_zero,List.map_nil,Bl]; rfl) ⟨zf6 _,zb8 g,by simp[az]⟩ ?_
 rintro ⟨k,g1,ov,acc⟩ ⟨hk,hle,hacc⟩;dsimp only at hk hle hacc ⊢;have hal:=hacc.length;rw[ze4] at hal;refine rZ<|yL I<|tZ<|sQ<|iP I (fun hlt=>?_) (fun hlt=>?_)
 ·have hkr:k<rs.length:=oM;have hkl:k<F.length:=oM;have hb1:=za5 hrs oM;have hcr:=hall.get (gE hkl) (gE hkr);have hgx:rs[((k:Nat):Int).toNat]?=some rs[k]:=gE hkr;have htk:F.take (k+1)=F.take k++[F[k]]:=tS hkl;generalize rs[k]=x at *;generalize F[k]=cx at *;obtain ⟨xi,xd,xp,xn,xc⟩:=x;obtain ⟨e1,e2,-⟩:=hcr;dsimp only at e1 e2;subst e1 e2;refine kP (tN (sQ (bK (rZ (lU (iA aF au I I hb1 oM (show (k:Int)<((rs.length:Nat):Int) by omega)) ?_)))));refine lK (eA bQ au I (za6 (za4 hrs hle)) hgx) (bW (aL zl3) fun b9=>?_);refine oZ (sK 0 au I I I I I sB) ?_;refine tZ ?_;refine SC.drawT 3 [11,14] [(0,2),(1,2),(2,1),(3,2),(4,1),(5,2),(6,2),(7,1),(8,0),(9,2),(10,0),(11,0),(12,2),(13,2),(14,0)] ze3 kR ?_;refine pU I (fA underlying89 I mR I) (pU I (fA uh I oV I) (pK I (qL isAgg85 I (cO 2 I I)) (pU I (fA aw I zT3 I) (pK I (qL iT3 I (cO 0 I I)) (yM I (pU I (fA aw I zT3 I) (pK I (qL iT3 I (cO 0 I I)) (SP.o I (SO.callV I I (xL E g1 (pt b9 (.cells #[vi cx.id,vi cx.dim,.slice xp xn xc] 54 (0,0))::rowA jp 162 ov acc::pt b6 (.cells #[ov,vb bk] 89 (0,0))::pt b5 (.cells #[.slice p rs.length c] 29 (0,0))::pt b4 (.cells #[.slice none 0 0,vb false] 89 (0,0))::pt b3 (.cells #[.slice pv D.length cv] 29 (0,0))::pt b2 (.cells #[pp bx 0] 122 (0,0))::p0) q0 b2 bx mb ms _ bk cx.id (jA ts ((F.take k).map Cl.id)) (yO hts _) (i+7) (j+7) 6 I hi0 (by rw[Bk]; exact hj0))) dC (.inr (by rintro v40 g2 _ ⟨hle2,ts2,rfl,hcase⟩; exact⟨by assumption,(by exact .cons_cons _ (.cons_cons _ (.cons_cons _ (List.nil_sublist _))))⟩)) ?_))))))));rintro v40 g2 _ ⟨hle2,ts2,rfl,hcase⟩;obtain ⟨q2,n2,d2,rfl,hts2,him2⟩:=Au htn hts hcase;subst hts2;refine pU rfl (za2 rfl (build162 _ _ _ _)) (SP.o rfl (bS sty85 rfl rfl rfl (ab sB) dC) dC (.inr (by rintro _ _ _ ⟨b42,rfl,rfl,rfl⟩; exact⟨by assumption,(by exact .cons _ (.cons_cons _ (.cons_cons _ (.cons_cons _ (List.nil_sublist _)))))⟩)) ?_);rintro _ _ _ ⟨b42,rfl,rfl,rfl⟩;refine SP.o I (aP (e:=jp) 1 ⟨cx.id,⟨q2,n2,d2⟩⟩ sty85 I I I I I oM oM) dC (.inl dC) ?_;rintro ov' _ _ ⟨rfl,rfl⟩;refine zd2 fun ⟨w0,hw0⟩=>?_;obtain ⟨q',d',rfl⟩:=aj (e:=jp) (l:=acc++[⟨cx.id,⟨q2,n2,d2⟩⟩]) (i:=1) hw0 rfl;clear hw0 w0;refine pU rfl (fA underlying89 rfl mR rfl) (pU rfl (fA uh rfl oV rfl) (SP.on rfl (SO.store1 2 oV rfl rfl rfl rfl (bE rfl) (by rfl)) (.inl dC) ?_));rintro _ _ _ ⟨rfl,rfl⟩;refine pN (bN (tN (rG (yD I (lM I (nL (dR (.cons _ (.refl _)) ?_)))))));exact ST.again (k+1,g2,_,acc++[⟨cx.id,⟨q2,n2,d2⟩⟩]) sB I (by dsimp only; rw[htk,zg5]; rfl) ⟨by dsimp only; omega,hle.trans hle2,by
   dsimp only;rw[htk];exact (hacc.mono fun _ _=>ImS.mono hle2).append ⟨him2,trivial⟩⟩ (by dsimp only; omega)
 ·have hkk:F.take k=F:=tL oM;rw[hkk] at hacc ⊢;refine xI (tX<|tX<|bX<|tN<|sQ<|fS fun g2 hle2 hs2=>?_);obtain ⟨q2,d2,rfl⟩:=zc2 hs2;refine SC.freezeRowsT (p:=pt b6 (.cells #[.slice q2 acc.length d2,vb bk] 89 (0,0))::pt b5 (.cells #[.slice p rs.length c] 29 (0,0))::pt b4 (.cells #[.slice none 0 0,vb false] 89 (0,0))::pt b3 (.cells #[.slice pv D.length cv] 29 (0,0))::pt b2 (.cells #[pp bx 0] 122 (0,0))::p0) (q:=q0) fun g3 hle3 hfr=>?_;refine rG<|lK (qV 0 fw bD I I I)<|oZ (sK 2 bD I I I I I sB)<|tZ<|rE ?_;have hdone:az (ImR g3) (F.map fun c=>(c.id,sw ts c.id)) acc:=tA (fun c r hc hr=>ImS.done hfr hc<|hr.mono<|hle2.trans hle3) hacc;exact ST.retCD 2 (p0++q0) (.inl I) results76 I fw bD I I uR ⟨I,hle.trans<|hle2.trans hle3,_,I,acc,za4 hs2 hle3,hdone⟩
def vR (p:Side→Bool)(l:List Side):Int:=if l.any p then ((l.findIdx p:Nat):Int) else -1
theorem wI {p:Side→Bool}{l:List Side}{k:Nat}(hk:k<l.length)(h0:∀ j (hj:j<k),p (l[j]'oM)=false)(h1:p l[k]=true):vR p l=k:=by
 unfold vR;rw[zg1<|zj8.2 ⟨_,gM hk,h1⟩,List.findIdx_eq hk |>.2 ⟨h1,fun j hj=>by rw[h0 j hj]⟩]
theorem wH {p:Side→Bool}{l:List Side}(h0:∀ j (hj:j<l.length),p l[j]=false):vR p l = -1:=by
 unfold vR;rw[zf9];intro h;obtain ⟨x,hx,h1⟩:=zj8.1 h;obtain ⟨j,hj,rfl⟩:=zc7 hx;rw[h0 j hj] at h1;cases h1
theorem td (E:World)(g:PH)(s:Own)(v fv:Value)(l:List Side)(p:Side→Bool)(hv:SlA encSide g v l)(hl:l.length<1099511627776)(hfv:fv.cells = #[fv])(hc:∀ x:Side,cX Tryz.prog E fv [.agg #[vi x.cell,vi x.sign]] g s (fun r g' s'=>r=vb (p x)∧g=g'∧s=s')) :
  Ctr Tryz.prog E 136 #[v,fv] g s (fun r g' s'=>r=vi (vR p l)∧g=g'∧s=s'):=by
 obtain ⟨q,c,rfl⟩:=za3 hv;refine zb1 (args:=[.slice q l.length c,fv]) func136 I ntmps136 (bE I)<|rZ<|aT I<|sQ<|sW I<|lU (eN aI I)<|lM I<|tZ<|bK<|SC.loop (ι:=Nat) (fun k=>[(0,.slice q l.length c),(1,fv),(7,vi l.length),(8,vi k)]) (fun _=>g) (fun _=>s)
  (fun k=>k≤l.length∧∀ j (hj:j<k) (hl:j<l.length),p l[j]=false) (fun k=>l.length - k) 0 sB rfl rfl ⟨zf6 _,fun j hj=>absurd hj oM⟩ ?_
 rintro k ⟨hk,hno⟩;try dsimp only at hk hno ⊢
 refine rZ<|yL I<|tZ<|sQ<|iP I (fun hlt=>?_) (fun hlt=>?_)
 ·have hkl:k<l.length:=oM;have hb1:=za5 hv oM;have hgk:l[((k:Nat):Int).toNat]?=some l[k]:=gE hkl;have hhere:=fun h=>wI (p:=p) hkl (fun j hj=>hno j hj oM) h;have hsucc:p l[k]=false→∀ j (hj:j<k+1) (hl:j<l.length),p l[j]=false:=fun h j hj hl=>by
   by_cases e:j=k
   ·subst e; exact h
   ·exact hno j oM hl
  generalize l[k]=x at *;refine kP<|tN<|sQ<|bK<|sW I<|aT I<|sW I<|lM I<|lM I<|lU (iA aI aB I I hb1 oM sL)<|lK (eA dT aB I (za6 hv) hgk)<|lW (SO.callV I I<|hc x) ?_;rintro _ _ _ ⟨rfl,rfl,rfl⟩;refine tZ<|iQ I (fun hp=>?_) (fun hp=>?_)
  ·exact sW I<|aT I<|rE<|bR<|tR<|tR<|bR<|tR<|za7 (.inl I) results136 I ⟨by rw[hhere hp],I,I⟩
  ·exact kP<|bN<|tN<|rG<|yD I<|lM I<|nL<|ST.again (k+1) sB I I ⟨oM,hsucc hp⟩ oM
 ·exact xI<|tX<|tX<|bX<|tN<|rZ<|aT I<|rE<|za7 (.inl I) results136 I ⟨by rw[wH fun j hj=>hno j oM hj],I,I⟩
abbrev edV (e:Ed)(sv pv:Value):Array Value:=#[vi e.kind,vi e.cell,vi e.dim,vi e.new,vi e.other,sv,pv]
theorem BZ (E:World)(g:PH)(s:Own)(b3:Nat)(e:Ed)(sv pv:Value)(x:Side)(q:Nat)(hq:s[q]?=some (pt b3<|.cells (edV e sv pv) 39 (0,0))) :
  cX Tryz.prog E (.func (.func 142) #[] #[pp b3 0]) [.agg #[vi x.cell,vi x.sign]] g s (fun r g' s'=>r=vb (decide (x.cell=e.cell))∧g=g'∧s=s'):=by
 refine cX.mk (args:=[_]) (cap:=[pp b3 0]) call142<|zb1 (args:=[.agg #[vi x.cell,vi x.sign],pp b3 0]) func142 I ntmps142 (bE I)<|rZ (bW (bO I) fun b2=>?_);exact aT I<|rZ<|lU (fA co I zT3 I)<|lK (qL (v:=vi x.cell) iT3 I<|cO 0 I I)<|lU (fA aJ I zT3 I)<|lK (qL (v:=vi e.cell) iT3 I<|cO (q+1) hq I)<|yE I<|aT I<|rE<|dR (s':=s) uR<|za7 (.inl I) results142 I ⟨I,I,I⟩
def be (A:List Cl)(e:Ed):List Side:=((ao A e.other).getD bg).sides
def lE (l:List Side)(i:Nat):Int:=(l[i]?.map Side.sign).getD 0
def em (A:List Cl)(e:Ed):List Tm:=((be A e).eraseIdx<|(be A e).findIdx fun x=>decide (x.cell=e.cell)).map fun x=>(x.cell,-lE (be A e) ((be A e).findIdx fun x=>decide (x.cell=e.cell)) * x.sign)
def dH (A:List Cl)(e:Ed):Int:=if (ao A e.cell).isSome&&(ao A e.other).isSome then (if ah A e.cell=[e.other]∧¬ 0<(ah A e.other).length then 0 else 32) else 30
theorem xX {l:List Side}{i k:Nat}(hk:k<l.length)(h:i≠k):(l.take<|k+1).eraseIdx i=(l.take k).eraseIdx i++[l[k]]:=by
 rw[tS hk];by_cases h2:i<k
 ·rw[List.eraseIdx_append_of_lt_length (by rw[ze4]; omega)]
 ·rw[List.eraseIdx_of_length_le (l:=l.take k) (by rw[ze4]; omega),List.eraseIdx_of_length_le (by rw[ze5,ze4,ze7]; omega)]
theorem xY {l:List Side}{k:Nat}(hk:k<l.length):(l.take<|k+1).eraseIdx k=(l.take k).eraseIdx k:=by
 rw[tS hk,List.eraseIdx_of_length_le (l:=l.take k) (by rw[ze4]; omega),List.eraseIdx_append_of_length_le (by rw[ze4]; omega)];rw[ze4,show k - min k l.length=0 by omega];simp
theorem sa (E:World)(g:PH)(s:Own)(bx mb ms:Nat)(u v:Value)(e:Ed)(A:List Cl)(rs:List Rc)(hu:ak g u A)(hf:a8 A)(hall:az (ay g) A rs)(he:EdR g v e)
  (hsg:∀ x∈be A e,x.sign=1∨x.sign = -1) (hlen:(be A e).length≤64) (hmem:ah A e.cell=[e.other]→(be A e).any (fun x=>decide (x.cell=e.cell))=true) :
  Ctr Tryz.prog E 109 #[pp bx 0,v] g (edP bx u mb ms false::mp mb (rs.map am)::mp ms []::s) (fun r g' s'=>Le g g'∧r=vi (dH A e) ∧
   (if dH A e=0 then ∃ v1 p n c,v1 = .slice p n c∧s'=edP bx u mb ms false::mp mb ((ni (ni rs e.cell) e.other).map am)::mp ms (gD [(e.cell,v1,em A e),(e.other,.slice none 0 0,[])])::(db [(e.cell,v1,em A e),(e.other,.slice none 0 0,[])]++s) else ∃ h,s'=h++s)):=by
 obtain ⟨sv,pv,rfl,hsv,hpv⟩:=he;obtain ⟨p,c,rfl⟩:=hu.form;have hal:(ah A e.cell).length<1099511627776:=Nat.lt_of_le_of_lt (by unfold ah; rw[ze6]; exact zc5 _ _) (bL hf).1;have hsvf:=za3 hsv;have hpvf:=za3 hpv;obtain ⟨sp,sc,rfl⟩:=hsvf;obtain ⟨qp,qc,rfl⟩:=hpvf;refine zb1 (args:=[pp bx 0,.agg #[vi e.kind,vi e.cell,vi e.dim,vi e.new,vi e.other,.slice sp e.sides.length sc,.slice qp e.pairs.length qc]]) func109 I ntmps109 (bE I) ?_;cases hc:(ao A e.cell).isSome with
 | false =>
  have hcode:dH A e=30:=by unfold dH; rw[hc]; rfl
  rw[hcode];refine rZ (bW (bO I) fun b3=>?_);refine aT I<|sQ<|sW I<|lU (fA aJ I zT3 I)<|lK (qL (v:=vi e.cell) iT3 I<|cO 0 I I)<|lW (SO.call call135 I<|bJ E g _ bx mb ms _ false e.cell _ (fun _ _ h=>h.1) A rs hall 1 2 I I) ?_;rintro _ _ _ ⟨rfl,rfl,rfl⟩;refine lU (SU.eq (v':=vb true) (SU.not I)<|ze2 vb (by rw[hc]; rfl)) ?_;exact lM I<|yA I<|yA I<|yA I<|yA I<|yA I<|yP I<|tZ<|za1 I<|rZ<|aT I<|rE<|tR<|za7 (.inl I) results109 I ⟨zb8 _,I,by rw[zf9 dC]; exact⟨[_,_,_,_],I⟩⟩
 | true =>
  cases ho:(ao A e.other).isSome with
  | false =>
   have hcode:dH A e=30:=by unfold dH; rw[hc,ho]; rfl
   rw[hcode];refine rZ (bW (bO I) fun b3=>?_);refine aT I<|sQ<|sW I<|lU (fA aJ I zT3 I)<|lK (qL (v:=vi e.cell) iT3 I<|cO 0 I I)<|lW (SO.call call135 I<|bJ E g _ bx mb ms _ false e.cell _ (fun _ _ h=>h.1) A rs hall 1 2 I I) ?_;rintro _ _ _ ⟨rfl,rfl,rfl⟩;refine lU (SU.eq (v':=vb false) (SU.not I)<|ze2 vb (by rw[hc]; rfl)) ?_;refine lM I<|yC I<|lY I I I (fA aJ I zT3 I)<|SL.gq (gT I I I dC) (qL (v:=vi e.other) iT3 I<|cO 0 I I) dC<|ze1 (gT I I I dC) (SO.call call135 I<|bJ E g _ bx mb ms _ false e.other _ (fun _ _ h=>h.1) A rs hall 1 2 I I) dC ?_;rintro _ _ _ ⟨rfl,rfl,rfl⟩;refine lY I I I (SU.eq (v':=vb true) (SU.not I)<|ze2 vb (by rw[ho]; rfl)) ?_;exact yF I<|tZ<|za1 I<|rZ<|aT I<|rE<|tR<|za7 (.inl I) results109 I ⟨zb8 _,I,by rw[zf9 dC]; exact⟨[_,_,_,_],I⟩⟩
  | true =>
   refine rZ (bW (bO I) fun b3=>?_);refine aT I<|sQ<|sW I<|lU (fA aJ I zT3 I)<|lK (qL (v:=vi e.cell) iT3 I<|cO 0 I I)<|lW (SO.call call135 I<|bJ E g _ bx mb ms _ false e.cell _ (fun _ _ h=>h.1) A rs hall 1 2 I I) ?_;rintro _ _ _ ⟨rfl,rfl,rfl⟩;refine lU (SU.eq (v':=vb false) (SU.not I)<|ze2 vb (by rw[hc]; rfl)) ?_;refine lM I<|yC I<|lY I I I (fA aJ I zT3 I)<|SL.gq (gT I I I dC) (qL (v:=vi e.other) iT3 I<|cO 0 I I) dC<|ze1 (gT I I I dC) (SO.call call135 I<|bJ E g _ bx mb ms _ false e.other _ (fun _ _ h=>h.1) A rs hall 1 2 I I) dC ?_;rintro _ _ _ ⟨rfl,rfl,rfl⟩;refine lY I I I (SU.eq (v':=vb false) (SU.not I)<|ze2 vb (by rw[ho]; rfl)) ?_;refine yF I<|tZ<|cF I<|kP<|tN<|sQ<|SC.cut (ι:=PH) (fun _=>[(0,pp bx 0),(3,pp b3 0),(44,vb<|!decide (ah A e.cell=[e.other])||decide (0<(ah A e.other).length))]) (fun g'=>g') (fun _=>pt b3 (.cells (edV e (.slice sp e.sides.length sc)<|.slice qp e.pairs.length qc) 39 (0,0))::edP bx (.slice p A.length c) mb ms false::mp mb (rs.map am)::mp ms []::s) (fun g'=>Le g g') ?_ ?_
   ·by_cases hab:ah A e.cell=[e.other]
    ·refine SC.drawX [] ze3 kR ?_;refine SX.u (i:=0) I kR (mV I) dC<|SX.u (i:=1) I kR (nC I) dC<|SX.u (i:=2) I kR (fA ce I ag I) dC<|SX.q (i:=3) I kR (SQ.loadOne ar ag I<|cO (v:=.slice p A.length c) 1 I I) dC<|SX.u (i:=4) I kR (fA aJ I zT3 I) dC<|SX.q (i:=5) I kR (qL (v:=vi e.cell) iT3 I<|cO 0 I I) dC<|SX.u (i:=7) I kR (fA aJ I zT3 I) dC<|SX.q (i:=8) I kR (qL (v:=vi e.other) iT3 I<|cO 0 I I) dC ?_
     repeat' (first
      | (refine SB.o (i:=6) rfl (SO.call call55 rfl<|eD E _ _ _ A e.cell (by exact hu.mono<|by assumption) hf) dC (.inr (by rintro v28 g1 _ ⟨rfl,hle1,ha1⟩; exact⟨by exact Le.trans (by assumption) (by assumption),(by exact .refl _)⟩)) ?_; rintro v28 g1 _ ⟨rfl,hle1,ha1⟩; first | have hleB:=hle2.trans hle1 | skip)
      | (refine SB.o (i:=6) I (SO.call call55 I<|eD E _ _ _ A e.cell (by exact hu) hf) dC (.inr iR) ?_; rintro v28 g1 _ ⟨rfl,hle1,ha1⟩; first | have hleB:=hle2.trans hle1 | skip)
      | (refine SB.o (i:=9) I (bS sty22 I I I (ab ⟨I,trivial⟩) dC) dC (.inr iR) ?_; rintro _ _ _ ⟨b31,rfl,rfl,rfl⟩; refine SX.to (fun w hw=>At.litRow (e:=ae) (l:=[e.other]) (n:=0) hw I I dC) ?_; refine SX.freezeRow fun g2 hle2 hs2=>?_; first | have hleB:=hle1.trans hle2 | skip)
      | (refine SB.o (i:=9) I (bS sty22 I I I (ab ⟨I,trivial⟩) dC) dC (.inr iR) ?_; rintro _ _ _ ⟨b31,rfl,rfl,rfl⟩; refine SX.to (fun w hw=>At.litRow (e:=ae) (l:=[e.other]) (n:=0) hw I I dC) ?_; refine SX.freezeRow fun g2 hle2 hs2=>?_; first | have hleB:=hle1.trans hle2 | skip)
      | (refine SB.o (i:=10) I (SO.call call141 I<|ld E _ _ _ _ (ah A e.cell) [e.other] (by exact za4 ha1<|by assumption) (by exact hs2) hal) dC (.inr iR) ?_; rintro _ _ _ ⟨rfl,rfl,rfl⟩; refine SX.u (i:=11) I kD (SU.eq (v':=vb false) (SU.not I)<|ze2 vb (by rw[zf8 hab]; rfl)) dC ?_; refine SX.u (i:=12) I kD (mV I) dC ?_; refine SX.gu (i:=13) I kD (gT I I I dC) (mV I) dC ?_; refine SX.gu (i:=14) I kD (gT I I I dC) (nC I) dC ?_; refine SX.gu (i:=15) I kD (gT I I I dC) (fA ce I ag I) dC ?_; refine SX.gq (i:=16) I kD (gT I I I dC) (SQ.loadOne ar ag I<|cO (v:=.slice p A.length c) 1 I I) dC ?_; refine SX.gu (i:=17) I kD (gT I I I dC) (fA aJ I zT3 I) dC ?_; refine SX.gq (i:=18) I kD (gT I I I dC) (qL (v:=vi e.other) iT3 I<|cO 0 I I) dC ?_)
      | (refine SB.o (i:=10) I (SO.call call141 I<|ld E _ _ _ _ (ah A e.cell) [e.other] (by exact ha1) (by exact za4 hs2<|by assumption) hal) dC (.inr iR) ?_; rintro _ _ _ ⟨rfl,rfl,rfl⟩; refine SX.u (i:=11) I kD (SU.eq (v':=vb false) (SU.not I)<|ze2 vb (by rw[zf8 hab]; rfl)) dC ?_; refine SX.u (i:=12) I kD (mV I) dC ?_; refine SX.gu (i:=13) I kD (gT I I I dC) (mV I) dC ?_; refine SX.gu (i:=14) I kD (gT I I I dC) (nC I) dC ?_; refine SX.gu (i:=15) I kD (gT I I I dC) (fA ce I ag I) dC ?_; refine SX.gq (i:=16) I kD (gT I I I dC) (SQ.loadOne ar ag I<|cO (v:=.slice p A.length c) 1 I I) dC ?_; refine SX.gu (i:=17) I kD (gT I I I dC) (fA aJ I zT3 I) dC ?_; refine SX.gq (i:=18) I kD (gT I I I dC) (qL (v:=vi e.other) iT3 I<|cO 0 I I) dC ?_)
      | (refine SB.go (i:=19) rfl (gT rfl rfl rfl dC) (SO.call call55 rfl<|eD E _ _ _ A e.other (hu.mono hleB) hf) dC (.inr (by rintro v41 g5 _ ⟨rfl,hle5,ha5⟩; exact⟨by exact Le.trans (by assumption) (by assumption),(by exact .refl _)⟩)) ?_; rintro v41 g5 _ ⟨rfl,hle5,ha5⟩; obtain ⟨q5,d5,rfl⟩:=za3 ha5; have hleF:=hleB.trans hle5; refine SX.gu (i:=20) I kD (gT I I I dC) (eN aG I) dC ?_; refine SX.gu (i:=21) I kD (gT I I I dC) (SU.eq (v':=vb<|decide (0<(ah A e.other).length)) (gR I I)<|ze2 vb<|by simp only[gt_iff_lt,Int.natCast_pos]) dC ?_; refine SX.u (i:=22) I kD (wF I I) dC ?_)
      | refine zd7 6 9 kD ?_ ?_
      | refine zd6 9 kD ?_
      | refine zd6 10 kD ?_
      | refine zd6 19 kD ?_
      | refine zd6 6 kD ?_
      | (refine SX.nil kD ?_; exact za8 _ ⟨I,I,(by rw[zf8 hab]; rfl),trivial⟩ rfl rfl hleF))
    ·refine SC.drawX [] ze3 kR ?_;refine SX.u (i:=0) I kR (mV I) dC<|SX.u (i:=1) I kR (nC I) dC<|SX.u (i:=2) I kR (fA ce I ag I) dC<|SX.q (i:=3) I kR (SQ.loadOne ar ag I<|cO (v:=.slice p A.length c) 1 I I) dC<|SX.u (i:=4) I kR (fA aJ I zT3 I) dC<|SX.q (i:=5) I kR (qL (v:=vi e.cell) iT3 I<|cO 0 I I) dC<|SX.u (i:=7) I kR (fA aJ I zT3 I) dC<|SX.q (i:=8) I kR (qL (v:=vi e.other) iT3 I<|cO 0 I I) dC ?_
     repeat' (first
      | (refine SB.o (i:=6) rfl (SO.call call55 rfl<|eD E _ _ _ A e.cell (by exact hu.mono<|by assumption) hf) dC (.inr (by rintro v28 g1 _ ⟨rfl,hle1,ha1⟩; exact⟨by exact Le.trans (by assumption) (by assumption),(by exact .refl _)⟩)) ?_; rintro v28 g1 _ ⟨rfl,hle1,ha1⟩; first | have hleB:=hle2.trans hle1 | skip)
      | (refine SB.o (i:=6) I (SO.call call55 I<|eD E _ _ _ A e.cell (by exact hu) hf) dC (.inr iR) ?_; rintro v28 g1 _ ⟨rfl,hle1,ha1⟩; first | have hleB:=hle2.trans hle1 | skip)
      | (refine SB.o (i:=9) I (bS sty22 I I I (ab ⟨I,trivial⟩) dC) dC (.inr iR) ?_; rintro _ _ _ ⟨b31,rfl,rfl,rfl⟩; refine SX.to (fun w hw=>At.litRow (e:=ae) (l:=[e.other]) (n:=0) hw I I dC) ?_; refine SX.freezeRow fun g2 hle2 hs2=>?_; first | have hleB:=hle1.trans hle2 | skip)
      | (refine SB.o (i:=9) I (bS sty22 I I I (ab ⟨I,trivial⟩) dC) dC (.inr iR) ?_; rintro _ _ _ ⟨b31,rfl,rfl,rfl⟩; refine SX.to (fun w hw=>At.litRow (e:=ae) (l:=[e.other]) (n:=0) hw I I dC) ?_; refine SX.freezeRow fun g2 hle2 hs2=>?_; first | have hleB:=hle1.trans hle2 | skip)
      | (refine SB.o (i:=10) I (SO.call call141 I<|ld E _ _ _ _ (ah A e.cell) [e.other] (by exact za4 ha1<|by assumption) (by exact hs2) hal) dC (.inr iR) ?_; rintro _ _ _ ⟨rfl,rfl,rfl⟩; refine SX.u (i:=11) I kD (SU.eq (v':=vb true) (SU.not I)<|ze2 vb (by rw[zf7 hab]; rfl)) dC ?_; refine SX.u (i:=12) I kD (mV I) dC ?_; refine SX.off (i:=13) I kD (gZ I I I dC) dC ?_; refine SX.off (i:=14) I kD (gZ I I I dC) dC ?_; refine SX.off (i:=15) I kD (gZ I I I dC) dC ?_; refine SX.off (i:=16) I kD (gZ I I I dC) dC ?_; refine SX.off (i:=17) I kD (gZ I I I dC) dC ?_; refine SX.off (i:=18) I kD (gZ I I I dC) dC ?_)
      | (refine SB.o (i:=10) I (SO.call call141 I<|ld E _ _ _ _ (ah A e.cell) [e.other] (by exact ha1) (by exact za4 hs2<|by assumption) hal) dC (.inr iR) ?_; rintro _ _ _ ⟨rfl,rfl,rfl⟩; refine SX.u (i:=11) I kD (SU.eq (v':=vb true) (SU.not I)<|ze2 vb (by rw[zf7 hab]; rfl)) dC ?_; refine SX.u (i:=12) I kD (mV I) dC ?_; refine SX.off (i:=13) I kD (gZ I I I dC) dC ?_; refine SX.off (i:=14) I kD (gZ I I I dC) dC ?_; refine SX.off (i:=15) I kD (gZ I I I dC) dC ?_; refine SX.off (i:=16) I kD (gZ I I I dC) dC ?_; refine SX.off (i:=17) I kD (gZ I I I dC) dC ?_; refine SX.off (i:=18) I kD (gZ I I I dC) dC ?_)
      | (refine SB.offo (i:=19) I (gZ I I I dC) dC ⟨by assumption,(by exact .refl _)⟩ ?_; refine SX.off (i:=20) I kD (gZ I I I dC) dC ?_; refine SX.off (i:=21) I kD (gZ I I I dC) dC ?_; refine SX.u (i:=22) I kD (wT I I) dC ?_)
      | refine zd7 6 9 kD ?_ ?_
      | refine zd6 9 kD ?_
      | refine zd6 10 kD ?_
      | refine zd6 19 kD ?_
      | refine zd6 6 kD ?_
      | (refine SX.nil kD ?_; exact za8 _ ⟨I,I,(by rw[zf7 hab]; rfl),trivial⟩ rfl rfl hleB))
   rintro g1 hle1;try dsimp only at hle1 ⊢
   refine iQ I (fun hcond=>?_) (fun hcond=>?_)
   ·have hcode:dH A e=32:=by
     unfold dH;rw[hc,ho,Bool.and_true,zg1 rfl,zf9];rintro ⟨h1,h2⟩;rw[zf8 h1,zf7 h2] at hcond;cases hcond
    rw[hcode];exact rZ<|aT I<|rE<|tR<|za7 (.inl I) results109 I ⟨hle1,I,by rw[zf9 dC]; exact⟨[_,_,_,_],I⟩⟩
   ·rw[Bool.or_eq_false_iff,Bool.not_eq_false',zj6,decide_eq_false_iff_not] at hcond;obtain ⟨hab,hno⟩:=hcond;have hcode:dH A e=0:=by
     unfold dH;rw[hc,ho,Bool.and_true,zg1 rfl,zg1 ⟨hab,hno⟩]
    have hany:=hmem hab;have hne:¬ e.other=e.cell:=fun h=>hno (by rw[h,hab]; simp);rw[hcode];have hall1:=hall.mono fun _ _=>ay.mono hle1
    rcases gj (fun _ _ h=>h.1) hall1 e.other with ⟨h1,_⟩ | ⟨cy,ry,h1,h2,h3⟩
    ·unfold ao at ho;rw[h1] at ho;cases ho
    have hcs:be A e=cy.sides:=by unfold be ao; rw[h1]; rfl
    have hch:em A e=(cy.sides.eraseIdx<|cy.sides.findIdx fun x=>decide (x.cell=e.cell)).map fun x=>(x.cell,-lE cy.sides (cy.sides.findIdx fun x=>decide (x.cell=e.cell)) * x.sign):=by unfold em; rw[hcs]
    rw[hch];rw[hcs] at hsg hlen hany;obtain ⟨yi,yd,yp,yn,yc⟩:=ry;obtain ⟨-,-,hys⟩:=h3;dsimp only at hys;have hyn:yn=cy.sides.length:=zc1 hys;subst hyn;have hidx:vR (fun x=>decide (x.cell=e.cell)) cy.sides=((cy.sides.findIdx fun x=>decide (x.cell=e.cell):Nat):Int):=zg1 hany;have hil:(cy.sides.findIdx fun x=>decide (x.cell=e.cell))<cy.sides.length:=by
     obtain ⟨x,hx,hx2⟩:=zj8.1 hany;exact List.findIdx_lt_length_of_exists ⟨x,hx,hx2⟩
    generalize hi0:(cy.sides.findIdx fun x=>decide (x.cell=e.cell))=i0 at *;have hgi:cy.sides[((i0:Nat):Int).toNat]?=some cy.sides[i0]:=gE hil;have hcsg:lE cy.sides i0=cy.sides[i0].sign:=by unfold lE; rw[gE hil]; rfl
    have hs1:=hsg _<|gM hil;rw[hcsg];generalize cy.sides[i0]=z at *;obtain ⟨zc,zs⟩:=z;dsimp only at hs1 hcsg ⊢;have hneg:IntKind.i64.wrap (0 - zs) = -zs:=by rcases hs1 with h | h <;> subst h <;> decide
    have hby:=za5 hys oM;refine kP<|tN<|sQ<|dW [] [(0,2),(1,2),(2,2),(3,1),(4,2),(5,1),(6,1),(7,2),(8,2)] ze3 kR<|yM I<|pU I (nC I)<|pU I (fA ce I ec I)<|pK I (qL (v:=.map<|some mb) ee I<|cO 1 I I)<|pU I (fA aJ I zT3 I)<|pK I (qL (v:=vi e.other) iT3 I<|cO 0 I I)<|pK I (SQ.eq (v':=.agg #[vi yi,vi yd,.slice yp cy.sides.length yc]) (SQ.lookup mty125 I I<|bo.own 2 I) (by rw[h2]; rfl)) ?_;refine pU I (SU.field aw I bh I I)<|pU I (aS I)<|pN<|tN<|sW I<|lU (SU.mkFunc I)<|lW (SO.call call136 I<|td E g1 _ _ _ cy.sides (fun x=>decide (x.cell=e.cell)) hys oM I<|fun x=>BZ E g1 _ b3 e _ _ x 0 I) ?_;rintro _ _ _ ⟨rfl,rfl,rfl⟩;rw[hidx];refine aT I<|rZ<|aT I<|sQ<|sW I<|lU (eN aI I)<|lM I<|tZ<|bK<|zb5 156 3<|SC.loop (ι:=Nat×PH×Value) (fun i=>[(0,pp bx 0),(3,pp b3 0),(5,.slice yp cy.sides.length yc),(6,vi i0),(7,i.2.2),(56,.slice yp cy.sides.length yc),(57,vi cy.sides.length),(58,vi i.1)]) (fun i=>i.2.1)
     (fun i=>rowA dw 156 i.2.2 (((cy.sides.take i.1).eraseIdx i0).map fun x=>(x.cell,-zs * x.sign))::pt b3 (.cells (edV e (.slice sp e.sides.length sc)<|.slice qp e.pairs.length qc) 39 (0,0))::edP bx (.slice p A.length c) mb ms false::mp mb (rs.map am)::mp ms []::s)
     (fun i=>i.1≤cy.sides.length∧Le g1 i.2.1) (fun i=>cy.sides.length - i.1) (0,g1,.slice none 0 0) sB rfl rfl ⟨zf6 _,zb8 _⟩ ?_
    rintro ⟨k,g2,w⟩ ⟨hk,hle2⟩;dsimp only at hk hle2 ⊢;refine rZ<|yL I<|tZ<|sQ<|iP I (fun hlt=>?_) (fun hlt=>?_)
    ·have hkl:k<cy.sides.length:=oM;have hys2:=za4 hys hle2;have hgk:cy.sides[((k:Nat):Int).toNat]?=some cy.sides[k]:=gE hkl;have hsk:=hsg _<|gM hkl;have hes:i0≠k→((cy.sides.take<|k+1).eraseIdx i0).map (fun x=>(x.cell,-zs * x.sign))=((cy.sides.take k).eraseIdx i0).map (fun x=>(x.cell,-zs * x.sign))++[(cy.sides[k].cell,-zs * cy.sides[k].sign)]:=fun h=>by rw[xX hkl h,zg5]; rfl
     have hee:i0=k→((cy.sides.take<|k+1).eraseIdx i0).map (fun x=>(x.cell,-zs * x.sign))=((cy.sides.take k).eraseIdx i0).map (fun x=>(x.cell,-zs * x.sign)):=fun h=>by subst h; rw[xY hkl]
     have hel:(((cy.sides.take k).eraseIdx i0).map<|fun x=>(x.cell,-zs * x.sign)).length≤64:=by
      rw[ze6];have:=List.length_eraseIdx_le (cy.sides.take k) i0;rw[ze4] at this;omega
     generalize cy.sides[k]=y at *;obtain ⟨yc1,ys1⟩:=y;dsimp only at hsk hes;have hpr : -9223372036854775808 ≤ -zs * ys1 ∧ -zs * ys1≤9223372036854775807:=by rcases hs1 with h | h <;> rcases hsk with h' | h' <;> subst h <;> subst h' <;> decide
     refine kP<|tN<|sQ<|bK<|sW I<|lU (iA aI aB I I hby oM sL)<|lK (eA dT aB I (za6 hys2) hgk) (bW (aL zl4) fun b9=>?_);refine lA I<|oZ (sK 0 aB I I I I I sB)<|tZ<|sW I<|lM I<|lU (nQ I I)<|tZ<|iP I (fun hki=>?_) (fun hki=>?_)
     ·have hes':=hes oM;refine dW [14] [(0,2),(1,2),(2,1),(3,2),(4,2),(5,2),(6,2),(7,1),(8,2),(9,2),(10,1),(11,2),(12,0),(13,0),(14,0),(15,2)] ze3 kR<|yM I<|pU I (fA co I zT3 I)<|pK I (qL (v:=vi yc1) iT3 I<|cO 0 I I)<|yM I<|yM I<|pU I (iA aI aB I I hby oM sL)<|pU I (fC co I zT3 I hby)<|pK I (aZ (e:=encSide) (o:=1) (u:=vi zs) iT3 I (za6 hys2) hgi I)<|pU I (SU.eq (v':=vi<|-zs) (SU.neg I)<|ze2 vi hneg)<|pU I (fA co I zT3 I)<|pK I (qL (v:=vi ys1) iT3 I<|cO 0 I I)<|pU I (SU.mul I I hpr)<|SP.o I (SO.call call112 I<|iq E g2 _ yc1 (-zs * ys1) hpr.1 oM) dC (.inr iR) ?_;rintro _ g3 _ ⟨rfl,rfl,hle3⟩;refine SP.o I (bS sty151 I I I (ab ⟨I,trivial⟩) dC) dC (.inr iR) ?_;rintro _ _ _ ⟨b79,rfl,rfl,rfl⟩;refine SP.o I (aP (e:=dw) 1 (yc1,-zs * ys1) sty151 I I I I I oM oM) dC (.inl dC) ?_;rintro w' _ _ ⟨rfl,rfl⟩;exact pU I (aS I)<|pN<|bN<|tN<|rG<|yD I<|lM I<|nL<|dR (.cons _<|.refl _)<|ST.again (k+1,g3,w') sB I (by dsimp only; rw[hes']; rfl) ⟨by dsimp only; omega,hle2.trans hle3⟩ (by dsimp only; omega)
     ·have hee':=hee oM;exact kP<|bN<|tN<|rG<|yD I<|lM I<|nL<|dR (.cons _<|.refl _)<|ST.again (k+1,g2,w) sB I (by dsimp only; rw[hee']) ⟨by dsimp only; omega,hle2⟩ (by dsimp only; omega)
    ·have hkk:cy.sides.take k=cy.sides:=tL oM;rw[hkk];have hput:dS (dS [] e.cell w) e.other (.slice none 0 0)=gD [(e.cell,w,(cy.sides.eraseIdx i0).map fun x=>(x.cell,-zs * x.sign)),(e.other,.slice none 0 0,[])]:=by
      show dS [(e.cell,w)] e.other _=_;unfold dS;rw[zf9 hne];rfl
     refine xI<|tX<|tX<|bX<|tN<|sQ<|SC.drawT 3 [] [(0,2),(1,2),(2,2),(3,1),(4,2),(5,1),(6,2),(7,2),(8,2),(9,1),(10,2),(11,1),(12,2),(13,0),(14,2),(15,0),(16,0),(17,2),(18,0)] ze3 kR<|yM rfl<|pU rfl (nC rfl)<|pU rfl (fA ce rfl sizeOf148 rfl)<|pK rfl (qL (v:=.map<|some ms) isAgg148 rfl<|cO 2 rfl rfl)<|pU rfl (fA aJ rfl zT3 rfl)<|pK rfl (qL (v:=vi e.cell) iT3 rfl<|cO 1 rfl rfl)<|yM rfl<|pU rfl (nC rfl)<|pU rfl (fA ce rfl sizeOf148 rfl)<|pK rfl (qL (v:=.map<|some ms) isAgg148 rfl<|cO 2 rfl rfl)<|pU rfl (fA aJ rfl zT3 rfl)<|pK rfl (qL (v:=vi e.other) iT3 rfl<|cO 1 rfl rfl)<|yM rfl<|SP.o rfl (SO.mapEntry 4 mty148 rfl rfl rfl) dC (.inr (by rintro _ _ _ ⟨st1,j1,l1,rfl,rfl,rfl,hk1,hp1⟩; exact⟨by exact zb8 _,(by exact eH _ _ _ _)⟩)) ?_;rintro _ _ _ ⟨st1,j1,l1,rfl,rfl,rfl,hk1,hp1⟩;refine pU rfl (xT rfl rfl)<|SP.on rfl (SO.entryStore 4 rfl rfl rfl rfl hk1) (.inr (by rintro _ _ _ ⟨rfl,rfl⟩; exact⟨by exact zb8 _,(by exact .cons_cons _<|.cons_cons _<|.cons_cons _<|List.nil_sublist _)⟩)) ?_;rintro _ _ _ ⟨rfl,rfl⟩;rw[← hp1];refine SP.o rfl (SO.mapEntry 4 mty148 rfl rfl rfl) dC (.inr (by rintro _ _ _ ⟨st2,j2,l2,rfl,rfl,rfl,hk2,hp2⟩; exact⟨by exact zb8 _,(by exact .cons_cons _<|.cons_cons _<|.cons_cons _<|List.nil_sublist _)⟩)) ?_;rintro _ _ _ ⟨st2,j2,l2,rfl,rfl,rfl,hk2,hp2⟩;refine pU rfl (xT rfl rfl)<|SP.on rfl (SO.entryStore 4 rfl rfl rfl rfl hk2) (.inr (by rintro _ _ _ ⟨rfl,rfl⟩; exact⟨by exact zb8 _,(by exact .cons_cons _<|.cons_cons _<|.cons_cons _<|List.nil_sublist _)⟩)) ?_;rintro _ _ _ ⟨rfl,rfl⟩;rw[← hp2,hput];refine pN<|tN<|sQ ?_;refine dW [6] [(0,2),(1,2),(2,2),(3,1),(4,2),(5,1),(6,0)] ze3 kR ?_;refine yM I<|pU I (nC I)<|pU I (fA ce I ec I)<|pK I (qL (v:=.map<|some mb) ee I<|cO 2 I I)<|pU I (fA aJ I zT3 I)<|pK I (qL (v:=vi e.cell) iT3 I<|cO 1 I I)<|SP.on I (SO.delete 3 mty125 I I I) (.inl dC) ?_;rintro _ _ _ ⟨rfl,rfl⟩;refine pN<|tN<|sQ ?_;refine dW [6] [(0,2),(1,2),(2,2),(3,1),(4,2),(5,1),(6,0)] ze3 kR ?_;refine yM I<|pU I (nC I)<|pU I (fA ce I ec I)<|pK I (qL (v:=.map<|some mb) ee I<|cO 2 I I)<|pU I (fA aJ I zT3 I)<|pK I (qL (v:=vi e.other) iT3 I<|cO 1 I I)<|SP.on I (SO.delete 3 mty125 I I I) (.inl dC) ?_;rintro _ _ _ ⟨rfl,rfl⟩;rw[nn,nn];refine pN (tN<|rZ<|aT rfl<|rE<|ST.facts fun ⟨w0,hw0⟩=>?_);obtain ⟨wp,wc,hwf⟩:=aj (e:=dw) (l:=(cy.sides.eraseIdx i0).map fun x=>(x.cell,-zs * x.sign)) (i:=0) hw0 rfl;clear hw0 w0;refine ST.nilRow 156 3 ?_;refine ST.to (g':=g2) (s':=edP bx (.slice p A.length c) mb ms false::mp mb ((ni (ni rs e.cell) e.other).map am)::mp ms (gD [(e.cell,w,(cy.sides.eraseIdx i0).map fun x=>(x.cell,-zs * x.sign)),(e.other,.slice none 0 0,[])])::(db [(e.cell,w,(cy.sides.eraseIdx i0).map fun x=>(x.cell,-zs * x.sign)),(e.other,.slice none 0 0,[])]++s)) (fun w1 hw1=>?_) ?_
     ·have h5:=hw1.sublist (s':=rowA dw 156 (.slice none 0 0) []::rowA dw 156 w ((cy.sides.eraseIdx i0).map fun x=>(x.cell,-zs * x.sign))::([edP bx (.slice p A.length c) mb ms false,mp mb<|(ni (ni rs e.cell) e.other).map am,mp ms<|gD [(e.cell,w,(cy.sides.eraseIdx i0).map fun x=>(x.cell,-zs * x.sign)),(e.other,.slice none 0 0,[])]]++s))<|.cons_cons _<|.cons_cons _<|.cons _<|.refl _;refine h5.perm<|(zk1 _ _ _).trans ?_;have h6:∀ (x y:Ent) (L:Own),(x::y::(L++s)).Perm (L++(x::y::s)):=fun x y L=>(List.perm_append_comm (l₁:=[x,y]) (l₂:=L)).append_right s |>.trans (by simp);exact h6 _ _ _
     exact za7 (.inl I) results109 I ⟨hle1.trans hle2,I,by rw[zg1 I]; exact⟨w,wp,_,wc,hwf,I⟩⟩
theorem SU.min2 {P:Program}{N:Nat}{f:Fr}{dst:Option Tmp}{ty:TypeId}{pos:String}{af:Array Edge}{gd:Option (Nat×Bool)}{x y:Operand}{T U:TypeId}{m n:Int}(hx:ev f x=some (vi m))(hy:ev f y=some (vi n)) :
  SU P N ⟨dst,.call ⟨.builtin .min,#[x,y],#[T,U]⟩,ty,pos,af,gd⟩ f (vi<|min m n):=fun a w ha=>by
 have h:=run_min_int2 (P:=P) (w:=w) #[T,U] ty .i64 .i64 m n;have h2:(if n<m then n else m)=min m n:=by split <;> omega
 rw[h2] at h;simp[execOp,resolve,invoke,builtin,ha.ev hx,ha.ev hy,h]
theorem re (id:Int):∀ {B:List Cl} {rs:List Rc},az j7 B rs→(ao B id=none∧dF (rs.map am) id=none)∨∃ (m:Nat) (c:Cl) (r:Rc),ao B id=some c∧c.id=id∧dF (rs.map am) id=some (rcv r)∧j7 c r∧(fI B rs)[m]?=some (Bg c r) ∧
  ∀ c' r',c'.id=id→r'.id=id→j7 c' r'→(fI B rs).set m (Bg c' r')=fI (dK B c') (iC rs r')∧az j7 (dK B c') (iC rs r')
 | [],[],_=>.inl ⟨rfl,rfl⟩
 | c::B,r::rs,⟨h1,h2⟩=>by
  have hm:(r::rs).map am=(r.id,rcv r)::rs.map am:=rfl;rw[hm,cB];unfold ao;rw[zi5];by_cases e:c.id=id
  ·rw[zf8 e,zg1 (by rw[h1.1,e])];refine .inr ⟨0,c,r,I,e,I,h1,I,fun c' r' e1 e2 h3=>?_⟩;have e3:dK (c::B) c'=c'::B:=by simp[dK,e,e1]
   have e4:iC (r::rs) r'=r'::rs:=by simp[iC,h1.1,e,e2]
   rw[e3,e4];exact⟨I,h3,h2⟩
  ·rw[zf7 e,zf9 (by rw[h1.1]; exact fun h=>e h.symm)]
   rcases re id h2 with ⟨h3,h4⟩ | ⟨m,c0,r0,h3,h4,h5,h6,h7,h8⟩
   ·exact .inl ⟨h3,h4⟩
   ·refine .inr ⟨m+1,c0,r0,h3,h4,h5,h6,h7,fun c' r' e1 e2 h9=>?_⟩;have e':¬ id=c.id:=fun h=>e h.symm;have e3:dK (c::B) c'=c::dK B c':=by simp[dK,e',e1]
    have e4:iC (r::rs) r'=r::iC rs r':=by simp[iC,h1.1,e',e2]
    rw[e3,e4];obtain ⟨h10,h11⟩:=h8 c' r' e1 e2 h9;exact⟨by show Bg c r::(fI B rs).set m _=_; rw[h10]; rfl,h1,h11⟩
 | [],_::_,h=>h.elim
 | _::_,[],h=>h.elim
def CK (l:List Side)(cell:Int):Int:=((l.find? fun x=>decide (x.cell=cell)).map Side.sign).getD 0
def ex (e:Ed)(y:Cl):Cl:=⟨y.id,y.dim,y.sides++[⟨e.other,CK y.sides e.cell⟩]⟩
def aX (A:List Cl)(e:Ed)(ids:List Int):List Cl:=A.map fun y=>if y.id∈ids then ex e y else y
theorem nZ {e:Ed}{ids:List Int}{id:Int}(hid:id ∉ ids){y:Cl}:∀ {A:List Cl},(A.map Cl.id).Nodup→ao A id=some y→dK (aX A e ids) (ex e y)=aX A e (ids++[id])
 | [],_,hy=>by cases hy
 | c::A,hn,hy=>by
  rw[zg4,zk3] at hn;unfold ao at hy;rw[zi5] at hy;have hs:∀ i,aX (c::A) e i=(if c.id∈i then ex e c else c)::aX A e i:=fun _=>rfl;rw[hs,hs];by_cases h:c.id=id
  ·rw[zf8 h] at hy;injection hy with hy
   subst hy;subst h;rw[zf9 hid,zg1 (by simp)];have e1:dK (c::aX A e ids) (ex e c)=ex e c::aX A e ids:=by simp[dK,ex]
   rw[e1];congr 1;unfold aX;refine zc8 fun x hx=>?_;have hne:x.id≠c.id:=fun he=>hn.1 (by rw[← he]; exact zf2.2 ⟨x,hx,I⟩);by_cases h1:x.id∈ids
   ·rw[zg1 h1,zg1 (by simp[h1])]
   ·rw[zf9 h1,zf9 (by simp[h1,hne])]
  ·rw[zf7 h] at hy;have hyid:y.id=id:=by simpa using List.find?_some hy
   have ih:=nZ (e:=e) hid hn.2 hy;have h1:(if c.id∈ids then ex e c else c).id=c.id:=by split <;> rfl
   have e1:∀ (d:Cl) (L:List Cl),d.id=c.id→dK (d::L) (ex e y)=d::dK L (ex e y):=fun d L hd=>by
    have:¬ (ex e y).id=d.id:=by rw[hd]; show ¬ y.id=c.id; rw[hyid]; exact fun h'=>h h'.symm
    simp[dK,this]
   rw[e1 _ _ h1,ih];congr 1;by_cases h2:c.id∈ids
   ·rw[zg1 h2,zg1 (by simp[h2])]
   ·rw[zf9 h2,zf9 (by simp[h2,h])]
theorem mC {A:List Cl}{e:Ed}{ids:List Int}{id:Int}(hid:id ∉ ids):ao (aX A e ids) id=ao A id:=by
 unfold ao aX;rw[List.find?_map];have h1:((fun c:Cl=>decide (c.id=id)) ∘ fun y=>if y.id∈ids then ex e y else y)=fun c:Cl=>decide (c.id=id):=by
  funext c;simp only[Function.comp];split <;> rfl
 rw[h1];cases h:A.find? fun c=>decide (c.id=id) with
 | none=>rfl
 | some c =>
  have:c.id=id:=by simpa using List.find?_some h
  rw[Option.map_some,zf9 (by rw[this]; exact hid)]
def iY (l:List Side)(b:Bool):Side:=(l.find? fun x=>decide (0<x.sign) == b).getD ⟨0,0⟩
def a6 (A:List Cl)(e:Ed):Int:=match ao A e.cell with
 | none=>30
 | some c=>if c.dim≠1 then 21 else if min e.new e.other<1∨e.new=e.other then 1 else if (ao A e.new).isSome||(ao A e.other).isSome then 54 else 0
def eK (A:List Cl)(e:Ed):List Cl :=
 dK (dK (dK (aX A e<|ah A e.cell) ⟨e.new,0,[]⟩) ⟨e.other,1,[⟨e.new,-1⟩,iY ((ao A e.cell).getD bg).sides true]⟩) ⟨e.cell,1,[iY ((ao A e.cell).getD bg).sides false,⟨e.new,1⟩]⟩
theorem DE (E:World)(g:PH)(s:Own)(q:Option Addr)(c:Nat)(fv:Value)(l:List Side)(p:Side→Bool)(hv:Rd g s (.slice q l.length c) (l.flatMap encSide.enc))(hb:0<l.length→based (.slice q l.length c)=true)(hl:l.length<1099511627776)(hfv:fv.cells = #[fv])(hc:∀ x:Side,cX Tryz.prog E fv [.agg #[vi x.cell,vi x.sign]] g s (fun r g' s'=>r=vb (p x)∧g=g'∧s=s')) :
  Ctr Tryz.prog E 136 #[.slice q l.length c,fv] g s (fun r g' s'=>r=vi (vR p l)∧g=g'∧s=s'):=by
 refine zb1 (args:=[.slice q l.length c,fv]) func136 I ntmps136 (bE I)<|rZ<|aT I<|sQ<|sW I<|lU (eN aI I)<|lM I<|tZ<|bK<|SC.loop (ι:=Nat) (fun k=>[(0,.slice q l.length c),(1,fv),(7,vi l.length),(8,vi k)]) (fun _=>g) (fun _=>s)
  (fun k=>k≤l.length∧∀ j (hj:j<k) (hl:j<l.length),p l[j]=false) (fun k=>l.length - k) 0 sB rfl rfl ⟨zf6 _,fun j hj=>absurd hj oM⟩ ?_
 rintro k ⟨hk,hno⟩;try dsimp only at hk hno ⊢
 refine rZ<|yL I<|tZ<|sQ<|iP I (fun hlt=>?_) (fun hlt=>?_)
 ·have hkl:k<l.length:=oM;have hb1:=hb oM;have hgk:l[((k:Nat):Int).toNat]?=some l[k]:=gE hkl;have hhere:=fun h=>wI (p:=p) hkl (fun j hj=>hno j hj oM) h;have hsucc:p l[k]=false→∀ j (hj:j<k+1) (hl:j<l.length),p l[j]=false:=fun h j hj hl=>by
   by_cases e:j=k
   ·subst e; exact h
   ·exact hno j oM hl
  generalize l[k]=x at *;refine kP<|tN<|sQ<|bK<|sW I<|aT I<|sW I<|lM I<|lM I<|lU (iA aI aB I I hb1 oM sL)<|lK (eA dT aB I hv hgk)<|lW (SO.callV I I<|hc x) ?_;rintro _ _ _ ⟨rfl,rfl,rfl⟩;refine tZ<|iQ I (fun hp=>?_) (fun hp=>?_)
  ·exact sW I<|aT I<|rE<|bR<|tR<|tR<|bR<|tR<|za7 (.inl I) results136 I ⟨by rw[hhere hp],I,I⟩
  ·exact kP<|bN<|tN<|rG<|yD I<|lM I<|nL<|ST.again (k+1) sB I I ⟨oM,hsucc hp⟩ oM
 ·exact xI<|tX<|tX<|bX<|tN<|rZ<|aT I<|rE<|za7 (.inl I) results136 I ⟨by rw[wH fun j hj=>hno j oM hj],I,I⟩
theorem BX (E:World)(g:PH)(s:Own)(b3:Nat)(e:Ed)(sv pv:Value)(x:Side)(q:Nat)(hq:s[q]?=some (pt b3<|.cells (edV e sv pv) 39 (0,0))) :
  cX Tryz.prog E (.func (.func 137) #[] #[pp b3 0]) [.agg #[vi x.cell,vi x.sign]] g s (fun r g' s'=>r=vb (decide (x.cell=e.cell))∧g=g'∧s=s'):=by
 refine cX.mk (args:=[_]) (cap:=[pp b3 0]) call137<|zb1 (args:=[.agg #[vi x.cell,vi x.sign],pp b3 0]) func137 I ntmps137 (bE I)<|rZ (bW (bO I) fun b2=>?_);exact aT I<|rZ<|lU (fA co I zT3 I)<|lK (qL (v:=vi x.cell) iT3 I<|cO 0 I I)<|lU (fA aJ I zT3 I)<|lK (qL (v:=vi e.cell) iT3 I<|cO (q+1) hq I)<|yE I<|aT I<|rE<|dR (s':=s) uR<|za7 (.inl I) results137 I ⟨I,I,I⟩
theorem DD (E:World)(g:PH)(s:Own)(x:Side) :
  cX Tryz.prog E (.func (.func 138) #[] #[]) [.agg #[vi x.cell,vi x.sign]] g s (fun r g' s'=>r=vb (decide (0<x.sign))∧g=g'∧s=s'):=by
 refine cX.mk (args:=[_]) (cap:=[]) call138<|zb1 (args:=[.agg #[vi x.cell,vi x.sign]]) func138 I ntmps138 (bE I)<|rZ (bW (bO I) fun b1=>?_);exact aT I<|rZ<|lU (fA co I zT3 I)<|lK (qL (v:=vi x.sign) iT3 I<|cO 0 I I)<|lU (gR I I)<|aT I<|rE<|dR (s':=s) uR<|za7 (.inl I) results138 I ⟨I,I,I⟩
end Go.Proofs.YtmmghffoakhheaaGreatDoor
