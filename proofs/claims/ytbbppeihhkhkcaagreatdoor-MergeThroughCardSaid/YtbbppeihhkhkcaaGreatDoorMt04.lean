/- 4 -/
import Derived.Test.YtbbppeihhkhkcaaGreatDoorMt03
import Derived.Test.YtbbppeihhkhkcaaGreatDoorMt02
import Derived.Shelf.Sort.Plain
import Derived.Shelf.Slices.In.SortNone
import Derived.Sort.OwnSortedInts
set_option linter.unusedSimpArgs false
set_option linter.unusedVariables false
namespace Go.Sy
open Go
def mns (g' g:PH):PH:=fun b=>match g b with | none=>g' b | some _=>none
theorem qu {g' g:PH}{b:Nat}(h:g b=none):mns g' g b=g' b:=by simp only[mns,h]
theorem qr {g' g:PH}{b:Nat}{o:Obj}(h:mns g' g b=some o):g b=none∧g' b=some o:=by
 unfold mns at h;split at h
 ·rename_i e; exact⟨e,h⟩
 ·cases h
theorem eG (g' g:PH):Le (mns g' g) g':=fun _ _ h=>(qr h).2
theorem fQ {g g' g'':PH}(h:Le g' g''):Le (mns g' g) (mns g'' g):=fun b o hb=>by
 obtain ⟨h1,h2⟩:=qr hb;rw[qu h1]; exact h _ _ h2
theorem i8 {g0 g g':PH}(h:Le g0 g):Le (mns g' g) (mns g' g0):=fun b o hb=>by
 obtain ⟨h1,h2⟩:=qr hb;have:g0 b=none:=by
  cases h3:g0 b with
  | none=>rfl
  | some x=>rw[h _ _ h3] at h1; cases h1
 rw[qu this]; exact h2
section
variable {α:Type}{k:Nat}{e:Enc α k}{T U:TypeId}{g g':PH}{s:Own}{v:Value}{l:List α}
def RK (e:Enc α k)(T:TypeId)(g:PH)(v:Value)(l:List α):Prop:=(∃ p,v = .slice p 0 0∧l=[]) ∨
 ∃ b cap cur,v = .slice (some ⟨b,0,none⟩) l.length (cap+1)∧g b=some (.cells cur T (0,0))∧l.length≤cap+1∧cur.size=(cap+1) * k∧cur.toList.take (l.length * k)=l.flatMap e.enc
theorem RK.mono (h:RK e T g v l)(hl:Le g g'):RK e T g' v l:=by
 rcases h with h | ⟨b,cap,cur,h1,h2,h3⟩
 ·exact .inl h
 ·exact .inr ⟨b,cap,cur,h1,hl _ _ h2,h3⟩
theorem RK.sl (h:RK e T g v l):SlA e g v l:=by
 rcases h with ⟨p,rfl,rfl⟩ | ⟨b,cap,cur,rfl,h2,h3,h4,h5⟩
 ·exact⟨p,0,I,⟨by simp,Nat.le_refl _⟩,fun h=>absurd I h⟩
 ·refine⟨_,_,I,⟨e.length l,h3⟩,fun _=>⟨b,0,cur,T,(0,0),I,h2,fun j x hj=>?_⟩⟩;rw[← h5,zh7] at hj;split at hj
  ·simpa using hj
  ·cases hj
theorem RK.form (h:RK e T g v l):∃ p c,v = .slice p l.length c:=h.sl.form
theorem RK.nil (e:Enc α k)(T:TypeId)(g:PH):RK e T g (.slice none 0 0) []:=.inl ⟨none,rfl,rfl⟩
theorem At.freezeRowK {E:World}{w:World}(h:At E g (rowA e T v l::s) w):∃ g',Le g g'∧At E g' s w∧RK e T (mns g' g) v l:=by
 obtain ⟨hlen,h1⟩:=fE (i:=0) h rfl
 rcases h1 with ⟨p,rfl,h0⟩ | ⟨b,cap,cur,rfl,hb,hle,_,hsz,htake⟩
 ·exact⟨g,zb8 g,h.sublist (zi7 _ _),.inl ⟨p,I,zf1 h0⟩⟩
 ·have hf:=h.fresh _ (List.mem_cons_self ..) b rfl;obtain ⟨h2,h3⟩:=h.freeze (b:=b) rfl hb;exact⟨_,h3,h2,.inr ⟨b,cap,cur,I,by rw[qu hf.1]; exact eh _ _ _,hle,hsz,htake⟩⟩
variable {P:Program}{N:Nat}{E:World}{ops:Array Oper}{Q:Exit→Act→World→Prop}{f:Fr}
theorem SL.freezeRowK {o:List Oper}(h:∀ g',Le g g'→RK e T (mns g' g) v l→SL P N E ops Q o f g' s):SL P N E ops Q o f g (rowA e T v l::s):=fun a w ha hw=>by
 obtain ⟨g',h1,h2,h3⟩:=hw.freezeRowK;exact h g' h1 h3 a w ha h2
end
section
variable {P:Program}{N:Nat}{E:World}{f:Fr}{g:PH}{s:Own}{dst:Option Tmp}{ty:TypeId}{pos:String}{af:Array Edge}{gd:Option (Nat×Bool)}
end
section
variable {α:Type}{k:Nat}{e:Enc α k}{T U:TypeId}{g:PH}{v:Value}{l:List α}
end
end Go.Sy
namespace Go.Proofs.YtbbppeihhkhkcaaGreatDoor
open _root_.Go.Proofs.Tryz _root_.Go.Proofs.YtbbppeihhkhkcaaGreatDoor.Tryz
open Go Go.Sy Go.Pl Go.Proofs
set_option maxRecDepth 100000
structure Cl where
 id:Int
 dim:Int
 sides:List ae
 deriving DecidableEq
def am (g:PH)(c:Cl)(r:Rc):Prop:=r.id=c.id∧r.dim=c.dim∧SlA encSide g (.slice r.sv.p r.sv.n r.sv.c) c.sides
theorem am.mono {g g':PH}(hl:Le g g'){c:Cl}{r:Rc}(h:am g c r):am g' c r:=⟨h.1,h.2.1,h.2.2.mono hl⟩
def aj (g:PH)(v:Value)(l:List Cl):Prop:=∃ rs,SlA encCell g v rs∧az (am g) l rs
theorem aj.mono {g g':PH}{v:Value}{l:List Cl}(h:aj g v l)(hl:Le g g'):aj g' v l:=by
 obtain ⟨rs,h1,h2⟩:=h;exact⟨rs,h1.mono hl,h2.mono fun _ _=>am.mono hl⟩
theorem aj.form {g:PH}{v:Value}{l:List Cl}(h:aj g v l):∃ p c,v = .slice p l.length c:=by
 obtain ⟨rs,h1,h2⟩:=h;rw[h2.length];exact h1.form
def dx (g:PH)(c:Cl)(r:Rc):Prop:=r.id=c.id∧r.dim=c.dim∧RK encSide 75 g (.slice r.sv.p r.sv.n r.sv.c) c.sides
theorem dx.mono {g g':PH}(hl:Le g g'){c:Cl}{r:Rc}(h:dx g c r):dx g' c r:=⟨h.1,h.2.1,h.2.2.mono hl⟩
theorem dx.cr {g g':PH}(hl:Le g g'){c:Cl}{r:Rc}(h:dx g c r):am g' c r:=⟨h.1,h.2.1,h.2.2.sl.mono hl⟩
def eU (g:PH)(v:Value)(l:List Cl):Prop:=∃ rs,RK encCell 56 g v rs∧az (dx g) l rs
theorem eU.mono {g g':PH}{v:Value}{l:List Cl}(h:eU g v l)(hl:Le g g'):eU g' v l:=by
 obtain ⟨rs,h1,h2⟩:=h;exact⟨rs,h1.mono hl,h2.mono fun _ _=>dx.mono hl⟩
theorem eU.cells {g g':PH}{v:Value}{l:List Cl}(h:eU g v l)(hl:Le g g'):aj g' v l:=by
 obtain ⟨rs,h1,h2⟩:=h;exact⟨rs,h1.sl.mono hl,h2.mono fun _ _=>dx.cr hl⟩
def bd (l:List Cl):Prop:=l.length<1099511627776∧∀ c∈l,c.sides.length<1099511627776
def bo (c:Cl):Cl:=⟨c.id,c.dim,sortBy ae.cell c.sides⟩
def aa (l:List Cl):List Cl:=(sortBy Cl.id l).map bo
theorem Tryz.build29 (x:Value)(h:x.cells = #[x])(w:World):(Instr.build 29 #[(0,x)]).run Tryz.prog w = .ok (.agg #[x]) w:=by
 have hz:(Value.agg #[Value.slice none 0 0]).cells = #[.slice none 0 0]:=rfl;simp[Instr.build,Instr.fill,h,hz]
theorem Df (x y:ae)(w:World):(binOp .neq 75 (.agg (encSide.enc x).toArray) (.agg (encSide.enc y).toArray)).run Tryz.prog w = .ok (.bool (decide (x≠y))) w:=by
 have hu:Tryz.prog.underlying 75=some (.struct (Tryz.prog.fieldsOf 75)):=by kernel_rfl
 have hf:(Tryz.prog.fieldsOf 75).toList=(Tryz.prog.fieldsOf 75).toList:=rfl;rw[run_neq_struct,run_equalIn_agg w 9999 75 _ _ hu stoodInHeld75]
 have hfs : ∃ f1 f2,(Tryz.prog.fieldsOf 75).toList = [f1,f2] ∧ f1.name ≠ "_" ∧ f2.name ≠ "_" ∧ f1.type = 3 ∧ f2.type = 3 ∧ f1.offset = 0 ∧ f2.offset = 1:=⟨_,_,rfl,by decide,by decide,rfl,rfl,rfl,rfl⟩
 obtain ⟨f1,f2,e,n1,n2,t1,t2,o1,o2⟩:=hfs;obtain ⟨a,b⟩:=x;obtain ⟨c,d⟩:=y;rw[e];have h1:=run_equalIn_int (P:=Tryz.prog) w 9998 3 .i64 .i64 a c uT3;have h2:=run_equalIn_int (P:=Tryz.prog) w 9998 3 .i64 .i64 b d uT3;simp only[Op.eqFields,n1,n2,t1,t2,o1,o2,encSide,part,ne_eq,not_false_eq_true,if_true,Sem.run_bind,iT3,zc9];simp[h1,h2];by_cases hac:a=c <;> by_cases hbd:b=d <;> simp[hac,hbd]
theorem DW (E:World)(g:PH):yt E (.func (.func 118) #[] #[]) Rc.id g:=by
 intro g s a hle;refine bM.mk (cap:=[]) call118 ?_;refine zb1 (args:=[.agg (encCell.enc a).toArray]) func118 I ntmps118 (bE I) ?_;refine rZ (bW (bO I) fun b1=>?_);refine aT I (rZ (lU (fA ay I zT3 I) (lK (qL iT3 I (cO 0 I I)) (aT I (rE (dR (s':=s) uR ?_))))));exact za7 (.inl I) results118 I ⟨I,I,I⟩
theorem yY (E:World)(g:PH):yr E (.func (.func 120) #[] #[]) ae.cell g:=by
 intro g s a hle;refine bM.mk (cap:=[]) call120 ?_;refine zb1 (args:=[.agg (encSide.enc a).toArray]) func120 I ntmps120 (bE I) ?_;refine rZ (bW (bO I) fun b1=>?_);refine aT I (rZ (lU (fA dp I zT3 I) (lK (qL iT3 I (cO 0 I I)) (aT I (rE (dR (s':=s) uR ?_))))));exact za7 (.inl I) results120 I ⟨I,I,I⟩
theorem nk (E:World)(g:PH)(s:Own)(v:Value)(l:List Cl)(hv:aj g v l)(hf:bd l) :
  Ctr Tryz.prog E 53 #[.agg #[v]] g s (fun r g' s'=>s=s'∧Le g g'∧∃ u,r = .agg #[u]∧eU (mns g' g) u (aa l)):=by
 obtain ⟨rs,hrs,hall⟩:=hv;have hlen:=hall.length;have hfl:=hf.1;have hall':=az.sortBy (f:=Cl.id) (h:=Rc.id) (fun a b h=>h.1.symm) hall;obtain ⟨p,c,rfl⟩:=za3 hrs;refine zb1 (args:=[.agg #[.slice p rs.length c]]) func53 I ntmps53 (bE I) ?_;refine rZ (bW (bO I) fun b1=>?_);refine bW (aL zk7) fun b2=>?_;refine tZ (rZ (lU (fA ec I dF I) (lK (qL fw I (cO 1 I I)) (lW (SO.call call117 I (yy E g _ _ 118 #[] Rc.id (DW E g) rs hrs oM)) ?_))));rintro r3 _ _ ⟨rfl,rfl⟩;refine zd1 fun ⟨w0,hw0⟩=>?_;obtain ⟨q,d,rfl⟩:=ah (i:=0) hw0 rfl;have hbq:0<(sortBy Rc.id rs).length→based (.slice q (sortBy Rc.id rs).length d)=true:=fun h=>(by obtain ⟨b0,c0,he⟩:=aW (i:=0) hw0 rfl h; rw[he]; rfl);clear hw0 w0;refine aT I (sQ (sW I (lU (eN aB I) (lM I (tZ (bK ?_))))));have hsl:(sortBy Rc.id rs).length=rs.length:=cq rs;refine oP (ι:=PH×List Rc×List Rc×List Cl×List Cl) (fun i=>[(2,pp b2 0),(3,.slice q (sortBy Rc.id rs).length d),(9,vi (sortBy Rc.id rs).length),(10,vi i.2.1.length)]) (fun i=>i.1)
  (fun i=>rowA encCell 56 (.slice q (sortBy Rc.id rs).length d) (i.2.1++i.2.2.1)::pt b2 (.cells #[.slice none 0 0] 29 (0,0))::pt b1 (.cells #[.slice p rs.length c] 29 (0,0))::s)
  (fun i=>Le g i.1∧az (dx (mns i.1 g)) i.2.2.2.1 i.2.1∧az (am g) i.2.2.2.2 i.2.2.1∧aa l=i.2.2.2.1++i.2.2.2.2.map bo∧(i.2.1.length+i.2.2.1.length=(sortBy Rc.id rs).length∧∀ x∈i.2.2.2.2,x∈l)) (fun i=>i.2.2.1.length)
  (g,[],sortBy Rc.id rs,[],sortBy Cl.id l) sB rfl rfl ⟨zb8 g,trivial,hall',by simp[aa],by simp,fun x hx=>(dD l x).1 hx⟩ ?_
 rintro ⟨g1,ds,rest,dl,rl⟩ ⟨hle,hd,hr,hcan,hlen1,hmem⟩;dsimp only at hle hd hr hcan hlen1 hmem ⊢;have hrl:=hr.length;refine rZ (yL I (tZ (sQ ?_)));refine iP I (fun hlt=>?_) (fun hlt=>?_)
 ·cases rest with
  | nil=>simp at hlen1; omega
  | cons x rest =>
  obtain ⟨cx,rl',hrle,hcx,hr'⟩:=hr.cons_right;subst hrle;have hxl:cx.sides.length<1099511627776:=hf.2 cx (hmem cx (by simp));simp only[ze5] at hlen1;have hgx:(ds++x::rest)[((ds.length:Nat):Int).toNat]?=some x:=aK oM;have hbs:based (.slice q (sortBy Rc.id rs).length d)=true:=hbq oM;refine kP (tN (sQ (bK (sW I (aT I (rG (lM I (lM I (lM I (lM I (lU (iA aB ao I I hbs oM sL) (lU (fC ay I bJ I hbs) (lK (aZ (o:=2) cI I (zb6 0 I) hgx I) (lW (SO.call call119 I (yx E g1 _ _ 120 #[] ae.cell (yY E g1) cx.sides (hcx.2.2.mono hle) hxl)) ?_))))))))))))));rintro r20 _ _ ⟨rfl,rfl⟩;refine SL.freezeRowK fun g2 hle2 hs2=>?_;obtain ⟨q2,d2,rfl⟩:=hs2.form;refine lU (iA aB ao I I hbs oM sL) (lU (fC ay I bJ I hbs) (oZ (SO.partA (o:=2) 0 ⟨x.id,x.dim,q2,_,d2⟩ bJ I I I hgx I I dC I) (nL (bN (tN (rG (yD I (lM I (nL ?_)))))))));exact ST.again (g2,ds++[⟨x.id,x.dim,q2,(sortBy ae.cell cx.sides).length,d2⟩],rest,dl++[bo cx],rl') ⟨I,I,I,aC lN,trivial⟩ I (by
    dsimp only;rw[show (ds++x::rest).set ((ds.length:Nat):Int).toNat ⟨x.id,x.dim,q2,(sortBy ae.cell cx.sides).length,d2⟩=ds++[⟨x.id,x.dim,q2,(sortBy ae.cell cx.sides).length,d2⟩]++rest by rw[bw oM]; simp];rfl) ⟨hle.trans hle2,(hd.mono fun _ _=>dx.mono (fQ hle2)).append ⟨(by exact⟨hcx.1,hcx.2.1,hs2.mono (i8 hle)⟩:dx (mns g2 g) (bo cx) ⟨x.id,x.dim,q2,(sortBy ae.cell cx.sides).length,d2⟩),trivial⟩,hr',by rw[hcan]; simp,lN,fun y hy=>hmem y (by simp[hy])⟩ lN
 ·have hr0:rest=[]:=zf1 oM;subst hr0;have hrl0:rl=[]:=hr.nil_right;subst hrl0;refine xI (tX (tX (bX (tN (rZ (SL.freezeRowK fun g2 hle2 hs2=>?_))))));refine lM I (lU (za2 I (build29 _ I)) (oZ (sK 0 ak I I I I I sB) ?_));refine tZ (rE ?_);refine ST.retCD 0 s (.inl I) results53 I aA ak I I (.cons _ (.cons _ (.refl _))) ⟨I,hle.trans hle2,_,I,ds,?_,?_⟩
  ·simpa using hs2.mono (i8 hle)
  ·rw[hcan];simpa using hd.mono fun _ _=>dx.mono (fQ hle2)
theorem dX (E:World)(g:PH)(s:Own)(v:Value)(l:List Cl)(hv:aj g v l)(hf:bd l) :
  Ctr Tryz.prog E 53 #[.agg #[v]] g s (fun r g' s'=>s=s'∧Le g g'∧∃ u,r = .agg #[u]∧aj g' u (aa l)) :=
 (nk E g s v l hv hf).mono fun _ _ _ ⟨h1,h2,u,h3,h4⟩=>⟨h1,h2,u,h3,h4.cells (eG _ _)⟩
theorem jf {α:Type}{l m:List α}{k:Nat}(h1:k<l.length)(h2:k<m.length)(h:l.take k=m.take k)(he:l[k]=m[k]):l.take (k+1)=m.take (k+1):=by
 rw[tS h1,tS h2,h,he]
theorem jO {α:Type}{l m:List α}(hl:l.length=m.length)(h:l.take l.length=m.take l.length):l=m:=by
 rw[tL (Nat.le_refl _),tL oM] at h;exact h
theorem SU.neqSide {N:Nat}{f:Fr}{dst:Option Tmp}{ty:TypeId}{pos:String}{af:Array Edge}{gd:Option (Nat×Bool)}{x y:Operand}{a b:ae}{U:TypeId}(hx:ev f x=some (.agg (encSide.enc a).toArray))(hy:ev f y=some (.agg (encSide.enc b).toArray)) :
  SU Tryz.prog N ⟨dst,.binOp .neq 75 x y U,ty,pos,af,gd⟩ f (.bool (decide (a≠b))):=fun ac w ha=>by
 have hg:=run_eqGuard_agg (P:=Tryz.prog) w .neq 75 x y (encSide.enc a).toArray (encSide.enc b).toArray eqGuardType75;simp only[execOp,ha.ev hx,ha.ev hy,Sem.run_bind,hg,zc9,Df];rfl
theorem pw (E:World)(g:PH)(s:Own)(v u:Value)(l m:List ae)(hv:SlA encSide g v l)(hu:SlA encSide g u m)(hl:l.length<1099511627776) :
  Ctr Tryz.prog E 148 #[v,u] g s (fun r g' s'=>r=vb (decide (l=m))∧g=g'∧s=s'):=by
 obtain ⟨p,c,rfl⟩:=hv.form;obtain ⟨q,d,rfl⟩:=hu.form;refine zb1 (args:=[.slice p l.length c,.slice q m.length d]) func148 I ntmps148 (bE I) ?_;refine rZ (aT I (sQ (sW I (lU (eN bh I) (lM I (lU (eN bh I) (lU (nQ I I) (tZ ?_))))))));refine iP I (fun hne=>?_) (fun hne=>?_)
 ·refine rZ (aT I (rE (tR ?_)));exact za7 (.inl I) results148 I ⟨by have:l≠m:=fun e=>hne (by rw[e]); simp[this],I,I⟩
 ·refine kP (tN (sQ (sW I (lU (eN bh I) (lM I (tZ (bK ?_)))))));have hlen:l.length=m.length:=oM;refine oP (ι:=Nat) (fun k=>[(0,.slice p l.length c),(1,.slice q m.length d),(12,vi l.length),(13,vi k)]) (fun _=>g) (fun _=>s) (fun k=>k≤l.length∧l.take k=m.take k) (fun k=>l.length - k) 0
   sB rfl rfl ⟨zf3 _,by simp⟩ ?_
  rintro k ⟨hk,heq⟩;refine rZ (yL I (tZ (sQ ?_)));refine iP I (fun hlt=>?_) (fun hlt=>?_)
  ·have hkl:k<l.length:=oM;have hkm:k<m.length:=oM;have hb1:=hv.based oM;have hb2:=hu.based oM;refine kP (tN (sQ (bK (sW I (aT I (sQ ?_))))));refine dW [] [(0,2),(1,2),(2,2),(3,1),(4,2),(5,2),(6,2),(7,1),(8,2)] zd9 kR ?_;refine yM I (yM I (pU I (iA bh aH I I hb1 oM sL) ?_));refine pQ I (SQ.elemA fj aH I hv.rd (List.getElem?_eq_getElem hkl)) dC ?_;refine yM I (yM I (pU I (iA bh aH I I hb2 oM sL) ?_));refine pQ I (SQ.elemA fj aH I hu.rd (List.getElem?_eq_getElem hkm)) dC ?_;refine pU I (SU.neqSide I I) (pN (tN ?_));refine iP I (fun hd=>?_) (fun hd=>?_)
   ·refine rZ (aT I (rE (bR (tR (tR (bR (tR ?_)))))));exact za7 (.inl I) results148 I ⟨by have:l≠m:=fun e=>hd (by simp[e]); simp[this],I,I⟩
   ·refine kP (bN (tN (rG (yD I (lM I (nL ?_))))));exact ST.again (k+1) sB I I ⟨oM,jf hkl hkm heq (zg6 hd)⟩ oM
  ·refine xI (tX (tX (bX (tN (rZ (aT I (rE ?_)))))));have hkk:k=l.length:=oM;subst hkk;have:l=m:=jO hlen heq;exact za7 (.inl I) results148 I ⟨by simp[this],I,I⟩
theorem AU {x y:Cl}:x=y↔x.id=y.id∧x.dim=y.dim∧x.sides=y.sides:=by
 cases x; cases y; simp
theorem rH (E:World)(g:PH)(s:Own)(a b:Cl)(ra rb:Rc)(ha:am g a ra)(hb:am g b rb)(hl:a.sides.length<1099511627776) :
  Ctr Tryz.prog E 82 #[.agg (encCell.enc ra).toArray,.agg (encCell.enc rb).toArray] g s (fun r g' s'=>r=vb (decide (a=b))∧g=g'∧s=s'):=by
 obtain ⟨i1,d1,⟨p1,n1,c1⟩⟩:=ra;obtain ⟨i2,d2,⟨p2,n2,c2⟩⟩:=rb;obtain ⟨rfl,rfl,hs1⟩:=ha;obtain ⟨rfl,rfl,hs2⟩:=hb;refine zb1 (args:=[.agg (encCell.enc ⟨a.id,a.dim,⟨p1,n1,c1⟩⟩).toArray,.agg (encCell.enc ⟨b.id,b.dim,⟨p2,n2,c2⟩⟩).toArray]) func82 I ntmps82 (bE I) ?_;refine rZ (bW (bO I) fun b2=>?_);refine bW (bO I) fun b3=>?_;refine aT I ?_;refine SC.cutB 4 (decide (a=b)) ?_ ?_
 ·refine rG (lU (fA ay I zT3 I) (lK (qL iT3 I (cO 1 I I)) (lU (fA ay I zT3 I) (lK (qL iT3 I (cO 0 I I)) (yE I (lM I ?_))))));refine sP ?_ ?_
  ·intro h10;refine lY I I I (fA ay I zT3 I) (SL.gq (gT I I I dC) (qL iT3 I (cO 1 I I)) dC (lY I I I (fA ay I zT3 I) (SL.gq (gT I I I dC) (qL iT3 I (cO 0 I I)) dC (lY I I I (eQ I I) (yP I (lM I ?_))))));refine sP ?_ ?_
   ·intro h17;refine lY I I I (fA ay I bJ I) (SL.gq (gT I I I dC) (qL cI I (cO 1 I I)) dC (lY I I I (fA ay I bJ I) (SL.gq (gT I I I dC) (qL cI I (cO 0 I I)) dC (SL.go (gT I I I dC) (SO.call call148 I (pw E g _ _ _ a.sides b.sides hs1 hs2 hl)) dC ?_))));rintro _ _ _ ⟨rfl,rfl,rfl⟩;refine yP I (lA I (nL ?_));exact za9 (by simp_all[aN,AU]) mI
   ·intro h17;refine yA I (yA I (yA I (yA I (yA I (yF I (lA I (nL ?_)))))));exact za9 (by simp_all[aN,AU]) mI
  ·intro h10;refine yA I (yA I (yA I (yA I (yA I (yF I (lM I (yA I (yA I (yA I (yA I (yA I (yF I (lA I (nL ?_))))))))))))));exact za9 (by simp_all[aN,AU]) mI
 refine rE (dR (s':=s) uR ?_);exact za7 (.inl I) results82 I ⟨I,I,I⟩
theorem oD (E:World)(g:PH)(s:Own)(v u:Value)(l m:List Cl)(hv:aj g v l)(hu:aj g u m)(hl:bd l) :
  Ctr Tryz.prog E 81 #[v,u,.func (.func 82) #[] #[]] g s (fun r g' s'=>r=vb (decide (l=m))∧g=g'∧s=s'):=by
 obtain ⟨rs,hrs,hal⟩:=hv;obtain ⟨ts,hts,hbl⟩:=hu;have hl1:=hal.length;have hl2:=hbl.length;have hfl:=hl.1;obtain ⟨p,c,rfl⟩:=hrs.form;obtain ⟨q,d,rfl⟩:=hts.form;refine zb1 (args:=[.slice p rs.length c,.slice q ts.length d,.func (.func 82) #[] #[]]) func81 I ntmps81 (bE I) ?_;refine rZ (aT I (sQ (sW I (lU (eN aB I) (lM I (lU (eN aB I) (lU (nQ I I) (tZ ?_))))))));refine iP I (fun hne=>?_) (fun hne=>?_)
 ·refine rZ (aT I (rE (tR ?_)));exact za7 (.inl I) results81 I ⟨by have:l≠m:=fun e=>hne (by rw[← hl1,← hl2,e]); simp[this],I,I⟩
 ·refine kP (tN (sQ (sW I (lU (eN aB I) (lM I (tZ (bK ?_)))))));have hlen:l.length=m.length:=oM;refine oP (ι:=Nat) (fun k=>[(1,.slice q ts.length d),(2,.func (.func 82) #[] #[]),(15,.slice p rs.length c),(16,vi rs.length),(17,vi k)]) (fun _=>g) (fun _=>s) (fun k=>k≤l.length∧l.take k=m.take k) (fun k=>l.length - k) 0
   sB rfl rfl ⟨zf3 _,by simp⟩ ?_
  rintro k ⟨hk,heq⟩;refine rZ (yL I (tZ (sQ ?_)));refine iP I (fun hlt=>?_) (fun hlt=>?_)
  ·have hkl:k<l.length:=oM;have hkm:k<m.length:=oM;have hkr:k<rs.length:=oM;have hkt:k<ts.length:=oM;have hb1:=hrs.based oM;have hb2:=hts.based oM;refine kP (tN (sQ (bK (sW I (lU (iA aB ao I I hb1 oM sL) ?_)))));refine SL.q (SQ.elemA cz ao I hrs.rd (List.getElem?_eq_getElem hkr)) dC ?_;refine bW (aL zk8) fun b8=>?_;refine lA I (oZ (sK 0 ao I I I I I sB) ?_);refine tZ (sW I (lM I (lU (iA aB ao I I hb2 oM sL) ?_)));refine SL.q (SQ.elemA cz ao I hts.rd (List.getElem?_eq_getElem hkt)) dC ?_;refine bW (aL zk8) fun b9=>?_;refine oZ (sK 0 ao I I I I I sB) ?_;refine tZ (sW I (lK (qV 1 cz ao I I I) (lK (qV 0 cz ao I I I) ?_)));refine SL.o (SO.callV I I (bM.mk (cap:=[]) call82 (rH E g _ l[k] m[k] rs[k] ts[k] (hal.get (List.getElem?_eq_getElem hkl) (List.getElem?_eq_getElem hkr)) (hbl.get (List.getElem?_eq_getElem hkm) (List.getElem?_eq_getElem hkt)) (hl.2 _ (gM hkl))))) dC ?_;rintro _ _ _ ⟨rfl,rfl,rfl⟩;refine lU (SU.notP I) (tZ ?_);refine iP I (fun hd=>?_) (fun hd=>?_)
   ·refine rZ (aT I (rE (bR (tR (tR (bR (tR (dR (s':=s) uR ?_))))))));exact za7 (.inl I) results81 I ⟨by have:l≠m:=fun e=>hd (by simp[e]); simp[this],I,I⟩
   ·refine kP (bN (tN (rG (yD I (lM I (nL (dR (s':=s) uR ?_)))))));exact ST.again (k+1) sB I I ⟨oM,jf hkl hkm heq (zg6 hd)⟩ oM
  ·refine xI (tX (tX (bX (tN (rZ (aT I (rE ?_)))))));have hkk:k=l.length:=oM;subst hkk;have:l=m:=jO hlen heq;exact za7 (.inl I) results81 I ⟨by simp[this],I,I⟩
theorem aF {l:List Cl}(h:bd l):bd (aa l):=by
 refine⟨by simp[aa,cq]; exact h.1,fun c hc=>?_⟩;simp only[aa,ze8] at hc;obtain ⟨c0,h0,rfl⟩:=hc;simp only[bo,cq];exact h.2 c0 ((dD l c0).1 h0)
theorem po (E:World)(g:PH)(s:Own)(v u:Value)(l m:List Cl)(hv:aj g v l)(hu:aj g u m)(hl:bd l)(hm:bd m) :
  Ctr Tryz.prog E 21 #[.agg #[v],.agg #[u]] g s (fun r g' s'=>r=vb (decide (aa l=aa m))∧g=g'∧s=s'):=by
 refine zb1 (args:=[.agg #[v],.agg #[u]]) func21 I ntmps21 (bE I) ?_;refine rZ (bW (bO I) fun b2=>?_);refine bW (bO I) fun b3=>?_;refine aT I (sQ ?_);refine dW [] [(0,1),(3,1),(1,0),(2,2),(4,0),(5,2),(6,0),(7,2)] zd9 kR ?_;refine pK I (qV 1 aA ak I I I) (pK I (qV 0 aA ak I I I) (SP.o I (SO.call call53 I (dX E g _ v l hv hl)) dC (.inr iR) ?_));rintro _ g1 _ ⟨rfl,hle1,x1,rfl,hc1⟩;refine pU rfl (SU.field ec rfl fw rfl rfl) (SP.o rfl (SO.call call53 rfl (dX E g1 _ u m (hu.mono hle1) hm)) dC (.inr (by rintro _ g2 _ ⟨rfl,hle2,x2,rfl,hc2⟩; exact⟨by exact Le.trans (by assumption) (by assumption),(by exact .refl _)⟩)) ?_);rintro _ g2 _ ⟨rfl,hle2,x2,rfl,hc2⟩;refine pU rfl (SU.field ec rfl fw rfl rfl) (SP.o rfl (SO.call call81 rfl (oD E g2 _ x1 x2 (aa l) (aa m) (hc1.mono hle2) hc2 (aF hl))) dC (.inr (by rintro _ _ _ ⟨rfl,rfl,rfl⟩; exact⟨by exact Le.trans (by assumption) (by assumption),(by exact .refl _)⟩)) ?_);rintro _ _ _ ⟨rfl,rfl,rfl⟩;refine pU I (aS I) (pN (tN (rE ?_)));refine dR (s':=s) (.cons _ (.cons _ (.refl _))) (ST.less (hle1.trans hle2) ?_);exact za7 (.inl I) results21 I ⟨I,I,I⟩
theorem Tryz.mty125:MTy Tryz.prog 125 3 56 (.agg #[vi 0,vi 0,.slice none 0 0]):=⟨underlying125,underlying3,zk8⟩
def ff (acc:List Cl)(c:Cl):List Cl:=if acc.any (fun x=>x.id == c.id) then acc else acc++[c]
theorem qD {acc:List Cl}{c:Cl}(h:acc.any (fun x=>x.id == c.id)=true):ff acc c=acc:=zf7 h
theorem kz {acc:List Cl}{c:Cl}(h:acc.any (fun x=>x.id == c.id)=false):ff acc c=acc++[c]:=zf6 (by rw[h]; simp)
def ai (l:List Cl):List Cl:=(aa l).foldl ff []
def rcv (r:Rc):Value:=.agg (encCell.enc r).toArray
def an (r:Rc):Int×Value:=(r.id,rcv r)
def A6 (R:Cl→Rc→Prop)(g:PH)(v:Value)(tl:List Cl):Prop :=
 ∃ b m iv rs,v=pp b 0∧g b=some (.cells #[.map (some m),iv] 135 (0,0))∧Mp g m (rs.map an)∧de g iv (tl.map Cl.id)∧az R tl rs
def Tab (g:PH)(v:Value)(tl:List Cl):Prop:=A6 (am g) g v tl
theorem A6.mono {R R':Cl→Rc→Prop}{g g':PH}{v:Value}{tl:List Cl}(h:A6 R g v tl)(hl:Le g g')(hr:∀ c r,R c r→R' c r):A6 R' g' v tl:=by
 obtain ⟨b,m,iv,rs,h1,h2,h3,h4,h5⟩:=h;exact⟨b,m,iv,rs,h1,hl _ _ h2,h3.mono hl,h4.mono hl,h5.mono hr⟩
theorem Tab.mono {g g':PH}{v:Value}{tl:List Cl}(h:Tab g v tl)(hl:Le g g'):Tab g' v tl:=by
 obtain ⟨b,m,iv,rs,h1,h2,h3,h4,h5⟩:=h;exact⟨b,m,iv,rs,h1,hl _ _ h2,h3.mono hl,h4.mono hl,h5.mono fun _ _=>am.mono hl⟩
theorem lz (rs:List Rc)(k:Int):dB (rs.map an) k=(rs.find? (fun r=>r.id == k)).map rcv:=by
 induction rs with
 | nil=>rfl
 | cons r t ih =>
  simp only[zg1,an,cd,zi3];by_cases h:k=r.id
  ·subst h; simp
  ·have:(r.id == k)=false:=by simpa using fun e=>h e.symm
   rw[this,zf6 h,← ih]
theorem Cg {g:PH}{tl:List Cl}{rs:List Rc}(h:az (am g) tl rs)(k:Int):tl.any (fun x=>x.id == k)=rs.any (fun r=>r.id == k):=by
 induction tl generalizing rs with
 | nil=>cases rs with | nil=>rfl | cons _ _=>exact h.elim
 | cons c t ih =>
  cases rs with
  | nil=>exact h.elim
  | cons r rs=>simp only[List.any_cons,h.1.1,ih h.2]
theorem jc {g:PH}{tl:List Cl}{rs:List Rc}(h:az (am g) tl rs):tl.map Cl.id=rs.map Rc.id:=by
 induction tl generalizing rs with
 | nil=>cases rs with | nil=>rfl | cons _ _=>exact h.elim
 | cons c t ih =>
  cases rs with
  | nil=>exact h.elim
  | cons r rs=>simp only[zg1,h.1.1,ih h.2]
theorem fh (l:List Cl):∀ acc:List Cl,(l.foldl ff acc).length≤acc.length+l.length:=by
 induction l with
 | nil=>intro acc; simp
 | cons c r ih =>
  intro acc;simp only[zi5];have h1:=ih (ff acc c);have h2:(ff acc c).length≤acc.length+1:=by unfold ff; split <;> simp
  simp only[ze5];omega
theorem Tryz.build135 (x:Value)(h:x.cells = #[x])(w:World):(Instr.build 135 #[(0,x)]).run Tryz.prog w = .ok (.agg #[x,.slice none 0 0]) w:=by
 have hz:(Value.agg #[Value.map none,Value.slice none 0 0]).cells = #[.map none,.slice none 0 0]:=rfl;simp[Instr.build,Instr.fill,h,hz]
theorem tF (E:World)(g:PH)(s:Own)(v:Value)(l:List Cl)(hv:aj g v l)(hf:bd l) :
  Ctr Tryz.prog E 52 #[.agg #[v]] g s (fun r g' s'=>s=s'∧Le g g'∧A6 (dx (mns g' g)) g' r (ai l)):=by
 have hfc:=aF hf;refine zb1 (args:=[.agg #[v]]) func52 I ntmps52 (bE I) ?_;refine rZ (bW (bO I) fun b1=>?_);refine aT I (rZ (lW (SO.mkMap) ?_));rintro _ _ _ ⟨m,rfl,rfl,rfl⟩;refine lU (za2 I (build135 _ I)) (bW (bO I) fun b10=>?_);refine aT I (sQ (rZ (lK (qV 2 aA ak I I I) (lW (SO.call call53 I (nk E g _ v l hv hf)) ?_))));rintro _ g1 _ ⟨rfl,hle,u,rfl,hc⟩;obtain ⟨rs,hrsK,hall⟩:=hc;have hrs:=hrsK.sl.mono (eG _ _);obtain ⟨p,c,rfl⟩:=hrs.form;refine lU (SU.field ec I fw I I) (lU (eN aB I) (lM I (tZ (bK ?_))));have hlen:=hall.length;have hfl:=hfc.1;refine zb5 3 1 ?_;refine oP (ι:=Value×Nat×List Rc) (fun i=>[(3,pp b10 0),(13,.slice p rs.length c),(14,vi rs.length),(15,vi i.2.1)]) (fun _=>g1)
  (fun i=>rowA encInt 3 i.1 (i.2.2.map Rc.id)::pt b10 (.cells #[.map (some m),i.1] 135 (0,0))::mp m (i.2.2.map an)::pt b1 (.cells #[v] 29 (0,0))::s)
  (fun i=>i.2.1≤rs.length∧az (dx (mns g1 g)) (((aa l).take i.2.1).foldl ff []) i.2.2) (fun i=>rs.length - i.2.1) (.slice none 0 0,0,[])
  sB rfl rfl ⟨zf3 _,by simp[az]⟩ ?_
 rintro ⟨iv,k,acc⟩ ⟨hk,hacc⟩;dsimp only at hk hacc ⊢;refine rZ (yL I (tZ (sQ ?_)));refine iP I (fun hlt=>?_) (fun hlt=>?_)
 ·have hkr:k<rs.length:=oM;have hkl:k<(aa l).length:=oM;have hb1:=hrs.based oM;have hcr:=hall.get (List.getElem?_eq_getElem hkl) (List.getElem?_eq_getElem hkr);have hany:=Cg (hacc.mono fun _ _=>dx.cr (eG _ _)) (aa l)[k].id;have htake:((aa l).take (k+1)).foldl ff []=ff (((aa l).take k).foldl ff []) (aa l)[k]:=by
   rw[tS hkl,zi6]; rfl
  have hal:=hacc.length;have hal2:=fh ((aa l).take k) [];simp only[ze1,zc3] at hal2;generalize hcl:(aa l)[k]=cx at *;generalize hrx:rs[k]=x at *;have hgx:rs[((k:Nat):Int).toNat]?=some x:=by rw[← hrx]; exact List.getElem?_eq_getElem hkr
  cases hget:acc.find? (fun r=>r.id == x.id) with
  | some y =>
   refine kP (tN (sQ (bK (rZ (lU (iA aB ao I I hb1 oM sL) (lK (SQ.elemA cz ao I hrs.rd hgx) (bW (aL zk8) fun b5=>?_)))))));refine oZ (sK 0 ao I I I I I sB) ?_;refine tZ (sQ ?_);refine dW [] [(0,2),(1,2),(2,2),(3,1),(4,2),(5,1),(6,1),(7,2),(8,2),(9,2),(10,0),(11,0),(12,2)] zd9 kR ?_;refine yM I (pU I (nC I) (pU I (fA jy I iy I) (pK I (qL iE I (cO 2 I I)) (pU I (fA ay I zT3 I) (pK I (qL iT3 I (cO 0 I I)) (pK I (SQ.eq (SQ.lookupOk mty125 I I (a8.own 3 I)) (by (rw[lz,hget]; done))) ?_))))));refine yM I (pU I (xT I I) (pU I (xT I I) (SP.o I (aL zk8) dC (.inr iR) ?_)));rintro _ _ _ ⟨b6,rfl,rfl,rfl⟩;refine SP.on I (sK 0 ao I I I I I sB) (.inr iR) ?_;rintro _ _ _ ⟨rfl,rfl⟩;refine pU I (aS I) (pN (tN (sW I (lU (SU.not I) (tZ (cF I (kP (bN (tN (rG (yD I (lM I (nL (dR (s':=rowA encInt 3 iv (acc.map Rc.id)::pt b10 (.cells #[.map (some m),iv] 135 (0,0))::mp m (acc.map an)::pt b1 (.cells #[v] 29 (0,0))::s) (.cons _ (.cons _ (.refl _))) ?_))))))))))))));have h1:acc.any (fun r=>r.id == cx.id)=true:=by
    rw[zj5];exact⟨y,zk3 hget,by have:=List.find?_some hget; rw[← hcr.1]; exact this⟩
   exact ST.again (iv,k+1,acc) sB I I ⟨lN,by dsimp only; rw[htake,qD (hany.trans h1)]; exact hacc⟩ lN
  | none =>
   refine kP (tN (sQ (bK (rZ (lU (iA aB ao I I hb1 oM sL) (lK (SQ.elemA cz ao I hrs.rd hgx) (bW (aL zk8) fun b5=>?_)))))));refine oZ (sK 0 ao I I I I I sB) ?_;refine tZ (sQ ?_);refine dW [] [(0,2),(1,2),(2,2),(3,1),(4,2),(5,1),(6,1),(7,2),(8,2),(9,2),(10,0),(11,0),(12,2)] zd9 kR ?_;refine yM I (pU I (nC I) (pU I (fA jy I iy I) (pK I (qL iE I (cO 2 I I)) (pU I (fA ay I zT3 I) (pK I (qL iT3 I (cO 0 I I)) (pK I (SQ.eq (SQ.lookupOk mty125 I I (a8.own 3 I)) (by (rw[lz,hget]; done))) ?_))))));refine yM I (pU I (xT I I) (pU I (xT I I) (SP.o I (aL zk8) dC (.inr iR) ?_)));rintro _ _ _ ⟨b6,rfl,rfl,rfl⟩;refine SP.on I (sK 0 ao I I I I I sB) (.inr iR) ?_;rintro _ _ _ ⟨rfl,rfl⟩;refine pU I (aS I) (pN (tN (sW I (lU (SU.not I) (tZ (za1 I (sQ ?_)))))));refine dW [7] [(0,2),(1,2),(2,2),(3,1),(4,2),(5,1),(6,1),(7,0)] zd9 kR ?_;refine yM I (pU I (nC I) (pU I (fA jy I iy I) (pK I (qL iE I (cO 3 I I)) (pU I (fA ay I zT3 I) (pK I (qL iT3 I (cO 1 I I)) (pK I (qV 1 cz ao I I I) (SP.on I (SO.mapUpdate 4 mty125 I I I I) (.inl dC) ?_)))))));rintro _ _ _ ⟨rfl,rfl⟩;refine pN (tN ?_);refine dW [8,9,10,11] [(0,2),(1,2),(2,2),(3,2),(4,1),(5,2),(6,1),(7,0),(8,0),(9,0),(10,0),(11,0)] zd9 kR ?_;refine yM I (yM I (pU I (nC I) (pU I (fA jy I eZ I) (pK I (qL fH I (cO 3 I I)) (pU I (fA ay I zT3 I) (pK I (qL iT3 I (cO 1 I I)) (SP.o I (bS sty52 I I I (ag sB) dC) dC (.inr iR) ?_)))))));rintro _ _ _ ⟨b45,rfl,rfl,rfl⟩;refine SP.o I (SO.app1 2 (((acc++[x]).map Rc.id).flatMap encInt.enc) ((acc++[x]).map Rc.id).length sty52 I I I I I ⟨I,trivial⟩ (by simp[encInt]; rfl) (by simp) (by simp; omega) (by simp; omega)) dC (.inl dC) ?_;rintro iv' _ _ ⟨rfl,rfl⟩;refine SP.facts fun ⟨w0,hw0⟩=>?_;obtain ⟨q',d',rfl⟩:=ah (e:=encInt) (l:=(acc++[x]).map Rc.id) (i:=2) hw0 rfl;clear hw0 w0;refine oU rfl (nC rfl) dC (.inl dC) (oU rfl (fA jy rfl eZ rfl) dC (.inl dC) (SP.on rfl (SO.store1 3 eZ rfl rfl rfl rfl (bE rfl) (by rfl)) (.inl dC) ?_));rintro _ _ _ ⟨rfl,rfl⟩;refine pN (bN (tN (rG (yD I (lM I (nL ?_))))));have h1:acc.any (fun r=>r.id == cx.id)=false:=by
    rw[zk2];intro y hy;have:=List.find?_eq_none.1 hget y hy;rw[← hcr.1]; exact this
   have hmp:fe (acc.map an) x.id (rcv x)=(acc++[x]).map an:=by
    rw[kK _ _ _ (fun q hq=>by
     obtain ⟨y,hy,rfl⟩:=ze8.1 hq;have:=List.find?_eq_none.1 hget y hy;simpa [an] using this)]
    simp[an]
   refine dR (s':=rowA encInt 3 (.slice q' ((acc++[x]).map Rc.id).length d') ((acc++[x]).map Rc.id)::pt b10 (.cells #[.map (some m),.slice q' ((acc++[x]).map Rc.id).length d'] 135 (0,0))::mp m ((acc++[x]).map an)::pt b1 (.cells #[v] 29 (0,0))::s) ?_ ?_
   ·rw[← hmp]; exact .cons _ (.cons _ (.refl _))
   exact ST.again (.slice q' ((acc++[x]).map Rc.id).length d',k+1,acc++[x]) sB I I ⟨lN,by dsimp only; rw[htake,kz (hany.trans h1)]; exact hacc.append ⟨hcr,trivial⟩⟩ lN
 ·refine xI (tX (tX (bX (tN (sW I (aT I (rE ?_)))))));have hkk:k=rs.length:=oM;have htk:(aa l).take k=aa l:=tL oM;rw[htk] at hacc;refine fT fun g2 h2 hrow=>?_;refine ST.freeze fun g3 h3 hb=>?_;refine ST.freezeMap fun g4 h4 hm=>?_;refine dR (s':=s) uR ?_;have hI:de g4 iv ((ai l).map Cl.id):=by
   rw[show (ai l).map Cl.id=acc.map Rc.id from jc (hacc.mono fun _ _=>dx.cr (eG _ _))];exact Sl.mono hrow (h3.trans h4)
  exact za7 (.inl I) results52 I ⟨I,hle.trans (h2.trans (h3.trans h4)),b10,m,iv,acc,I,h4 _ _ hb,hm,hI,hacc.mono fun _ _=>dx.mono (fQ (h2.trans (h3.trans h4)))⟩
theorem mO (E:World)(g:PH)(s:Own)(v:Value)(l:List Cl)(hv:aj g v l)(hf:bd l) :
  Ctr Tryz.prog E 52 #[.agg #[v]] g s (fun r g' s'=>s=s'∧Le g g'∧Tab g' r (ai l)) :=
 (tF E g s v l hv hf).mono fun _ _ _ ⟨h1,h2,h3⟩=>⟨h1,h2,h3.mono (zb8 _) fun _ _=>dx.cr (eG _ _)⟩
theorem xb {acc:List Cl}{c:Cl}(h:(acc.map Cl.id).Nodup):((ff acc c).map Cl.id).Nodup:=by
 unfold ff;split
 ·exact h
 ·rename_i hc;rw[zg2,List.nodup_append];refine⟨h,by simp,fun a ha b hb e=>?_⟩;simp at hb;subst hb;obtain ⟨x,hx,hxe⟩:=ze8.1 ha;apply hc;rw[zj5];exact⟨x,hx,by simp[hxe,e]⟩
theorem uq (l:List Cl):∀ acc:List Cl,(acc.map Cl.id).Nodup→((l.foldl ff acc).map Cl.id).Nodup:=by
 induction l with
 | nil=>intro acc h; exact h
 | cons c r ih=>intro acc h; exact ih _ (xb h)
theorem jr (l:List Cl):((ai l).map Cl.id).Nodup:=uq _ [] (by simp)
theorem rM (l:List Cl):∀ (acc:List Cl) (x:Cl),x∈l.foldl ff acc→x∈acc∨x∈l:=by
 induction l with
 | nil=>intro acc x h; exact .inl h
 | cons c r ih =>
  intro acc x h
  rcases ih _ x h with h1 | h1
  ·unfold ff at h1;split at h1
   ·exact .inl h1
   ·rcases ze9.1 h1 with h2 | h2
    ·exact .inl h2
    ·right; simp at h2; simp[h2]
  ·exact .inr (by simp[h1])
theorem qg {l:List Cl}{x:Cl}(h:x∈ai l):x∈aa l:=(rM _ [] x h).resolve_left (by simp)
theorem ep {l:List Cl}(h:bd l):bd (ai l):=by
 have hc:=aF h;refine⟨?_,fun c hm=>hc.2 c (qg hm)⟩;have:=fh (aa l) [];unfold ai;have h1:=hc.1;simp at this;omega
theorem xz {rs:List Rc}(h:(rs.map Rc.id).Nodup){k:Nat}{r:Rc}(hk:rs[k]?=some r):rs.find? (fun x=>x.id == r.id)=some r:=by
 induction rs generalizing k with
 | nil=>simp at hk
 | cons y t ih =>
  simp only[zg1,zj8] at h;cases k with
  | zero=>simp at hk; subst hk; simp
  | succ k =>
   simp only[List.getElem?_cons_succ] at hk;have hne:(y.id == r.id)=false:=by
    simp only[beq_eq_false_iff_ne,ne_eq];intro e;exact h.1 (by rw[e]; exact ze8.2 ⟨r,zf8 hk,I⟩)
   rw[zi3,hne];exact ih h.2 hk
def rh (E:World)(pv:Value)(p:Cl→Bool)(tl:List Cl)(g:PH):Prop :=
 ∀ g' s c r,Le g g'→c∈tl→am g' c r→bM Tryz.prog E pv [rcv r] g' s (fun x g'' s''=>x=vb (p c)∧g'=g''∧s=s'')
theorem vJ (R:Cl→Rc→Prop)(E:World)(g:PH)(s:Own)(v pv:Value)(tl:List Cl)(p:Cl→Bool)(hR:∀ c r,R c r→am g c r)(hv:A6 R g v tl)(hnd:(tl.map Cl.id).Nodup)(hf:bd tl)(hp:rh E pv p tl g) :
  Ctr Tryz.prog E 91 #[v,pv] g s (fun r g' s'=>s=s'∧Le g g'∧∃ u rs,r = .agg #[u]∧RK encCell 56 (mns g' g) u rs∧az R (tl.filter p) rs):=by
 obtain ⟨b,m,iv,rs,rfl,hb,hm,hI,hall⟩:=hv;have hids:=jc (hall.mono hR);have hlen:=hall.length;have hfl:=hf.1;have hnr:(rs.map Rc.id).Nodup:=by rw[← hids]; exact hnd
 obtain ⟨q,d,rfl⟩:=hI.form;refine zb1 (args:=[pp b 0,pv]) func91 I ntmps91 (bE I) ?_;refine rZ (bW (aL zk7) fun b4=>?_);refine tZ (rZ (bW (aL zk7) fun b5=>?_));refine tZ (sQ (sW I (lU (nC I) (lU (fA jy I eZ I) (lK (qL fH I (cK hb I)) (lU (eN aG I) (lM I (tZ (bK (zb5 56 3 ?_))))))))));simp only[ze3] at hI hb ⊢;refine oP (ι:=Value×Nat×List Rc) (fun i=>[(0,pp b 0),(1,pv),(4,pp b4 0),(5,pp b5 0),(11,.slice q tl.length d),(12,vi tl.length),(13,vi i.2.1)]) (fun _=>g)
  (fun i=>rowA encCell 56 i.1 i.2.2::pt b5 (.cells #[i.1] 29 (0,0))::pt b4 (.cells #[.slice none 0 0] 29 (0,0))::s)
  (fun i=>i.2.1≤tl.length∧az R ((tl.take i.2.1).filter p) i.2.2) (fun i=>tl.length - i.2.1) (.slice none 0 0,0,[])
  sB rfl rfl ⟨zf3 _,by simp[az]⟩ ?_
 rintro ⟨ov,k,acc⟩ ⟨hk,hacc⟩;dsimp only at hk hacc ⊢;refine rZ (yL I (tZ (sQ ?_)));refine iP I (fun hlt=>?_) (fun hlt=>?_)
 ·have hkl:k<tl.length:=oM;have hkr:k<rs.length:=oM;have hbi:=hI.based (by simp; omega);have hcR:=hall.get (List.getElem?_eq_getElem hkl) (List.getElem?_eq_getElem hkr);have hcr:=hR _ _ hcR;have hmem:tl[k]∈tl:=gM hkl;have hget:dB (rs.map an) tl[k].id=some (rcv rs[k]):=by
   rw[lz,← hcr.1,xz hnr (List.getElem?_eq_getElem hkr)]; rfl
  have htake:(tl.take (k+1)).filter p=(tl.take k).filter p++(if p tl[k] then [tl[k]] else []):=by
   rw[tS hkl,zh3];simp only[zi4,List.filter_nil]
  have hgi:(tl.map Cl.id)[((k:Nat):Int).toNat]?=some tl[k].id:=by simp[hkl]
  have hal:=hacc.length;have hal2:((tl.take k).filter p).length≤k:=zk4 (zc4 _ _) (by simp; omega);generalize htk:tl[k]=c at *;generalize hrk:rs[k]=r at *;refine kP (tN (sQ (bK (rZ (lU (iA aG zT3 I I hbi oM sL) (lK (eB iT3 I hI.rd hgi I) (aT I (sW I (lM I (lU (nC I) (lU (fA jy I iy I) (lK (qL iE I (cK hb I)) (lM I (lK (SQ.eq (SQ.lookup mty125 I I (a8.known hm)) (by (rw[hget]; done))) ?_))))))))))))));refine lW (SO.callV I I (hp g _ c r (zb8 g) hmem hcr)) ?_;rintro _ _ _ ⟨rfl,rfl,rfl⟩;refine tZ ?_;refine iQ I (fun hpc=>?_) (fun hpc=>?_)
  ·refine dW [9,10,11] [(0,2),(1,1),(2,2),(3,2),(4,2),(5,1),(6,2),(7,1),(8,0),(9,0),(10,0),(11,0)] zd9 kR ?_;refine pU I (fA ec I dF I) (pK I (qL fw I (cO 1 I I)) (yM I (pU I (nC I) (pU I (fA jy I iy I) (pK I (qL iE I (cK hb I)) (yM I (pK I (SQ.eq (SQ.lookup mty125 I I (a8.known hm)) (by (rw[hget]; done))) ?_)))))));refine SP.o I (bS sty27 I I I (ag sB) dC) dC (.inr iR) ?_;rintro _ _ _ ⟨b33,rfl,rfl,rfl⟩;refine SP.o I (SO.app1 0 ((acc++[r]).flatMap encCell.enc) (acc++[r]).length sty27 I I I I I sB (by (simp[encCell]; rfl)) (by simp) lN lN) dC (.inl dC) ?_;rintro ov' _ _ ⟨rfl,rfl⟩;refine SP.facts fun ⟨w0,hw0⟩=>?_;obtain ⟨q',d',rfl⟩:=ah (e:=encCell) (l:=acc++[r]) (i:=0) hw0 rfl;clear hw0 w0;refine oU I (fA ec I dF I) dC (.inl dC) (SP.on I (sK 1 dF I I I I I sB) (.inl dC) ?_);rintro _ _ _ ⟨rfl,rfl⟩;refine pN (bN (tN (rG (yD I (lM I (nL ?_))))));exact ST.again (.slice q' (acc++[r]).length d',k+1,acc++[r]) sB I I ⟨lN,by dsimp only; rw[htake,hpc]; exact hacc.append ⟨hcR,trivial⟩⟩ lN
  ·refine kP (bN (tN (rG (yD I (lM I (nL ?_))))));exact ST.again (ov,k+1,acc) sB I I ⟨lN,by dsimp only; rw[htake,hpc]; simpa using hacc⟩ lN
 ·have hkk:tl.take k=tl:=tL oM;rw[hkk] at hacc;refine xI (tX (tX (bX (tN (rZ (SL.freezeRowK fun g2 hle2 hs2=>?_))))));obtain ⟨q2,d2,rfl⟩:=hs2.form;refine lK (qV 0 aA ak I I I) (oZ (sK 1 ak I I I I I sB) ?_);refine tZ (rE ?_);exact ST.retCD 1 s (.inl I) results91 I aA ak I I uR ⟨I,hle2,_,acc,I,hs2,hacc⟩
theorem z6 (E:World)(g:PH)(s:Own)(v pv:Value)(tl:List Cl)(p:Cl→Bool)(hv:Tab g v tl)(hnd:(tl.map Cl.id).Nodup)(hf:bd tl)(hp:rh E pv p tl g) :
  Ctr Tryz.prog E 91 #[v,pv] g s (fun r g' s'=>s=s'∧Le g g'∧∃ u,r = .agg #[u]∧aj g' u (tl.filter p)) :=
 (vJ (am g) E g s v pv tl p (fun _ _ h=>h) hv hnd hf hp).mono fun _ _ _ ⟨h1,h2,u,rs,h3,h4,h5⟩=>⟨h1,h2,u,h3,rs,h4.sl.mono (eG _ _),h5.mono fun _ _=>am.mono h2⟩
theorem uJ {l:List Cl}(p:Cl→Bool)(h:bd l):bd (l.filter p) :=
 ⟨Nat.lt_of_le_of_lt (zc4 _ _) h.1,fun c hc=>h.2 c (zh1.1 hc).1⟩
theorem xf (E:World)(g:PH)(s:Own)(v pv:Value)(tl:List Cl)(p:Cl→Bool)(hv:Tab g v tl)(hnd:(tl.map Cl.id).Nodup)(hf:bd tl)(hp:rh E pv p tl g) :
  Ctr Tryz.prog E 214 #[v,pv] g s (fun r g' s'=>s=s'∧Le g g'∧de g' r ((tl.filter p).map Cl.id)):=by
 have hff:=(uJ p hf).1;refine zb1 (args:=[v,pv]) func214 I ntmps214 (bE I) ?_;refine rZ (aT I (rZ (aT I (sQ (sW I (lM I (lW (SO.call call91 I (z6 E g _ v pv tl p hv hnd hf hp)) ?_)))))));rintro _ g1 _ ⟨rfl,hle,u,rfl,rs,hrs,hall⟩;obtain ⟨q,d,rfl⟩:=hrs.form;have hlen:=hall.length;refine lU (SU.field ec I fw I I) (lU (eN aB I) (lM I (tZ (bK ?_))));have hids:=jc hall;refine zb5 3 1 ?_;refine oP (ι:=Value×Nat) (fun i=>[(5,i.1),(11,.slice q rs.length d),(12,vi rs.length),(13,vi i.2)]) (fun _=>g1)
  (fun i=>rowA encInt 3 i.1 ((rs.take i.2).map Rc.id)::s)
  (fun i=>i.2≤rs.length) (fun i=>rs.length - i.2) (.slice none 0 0,0)
  sB rfl rfl (zf3 _) ?_
 rintro ⟨ov,k⟩ hk;dsimp only at hk ⊢;refine rZ (yL I (tZ (sQ ?_)));refine iP I (fun hlt=>?_) (fun hlt=>?_)
 ·have hkr:k<rs.length:=oM;have hb1:=hrs.based oM;have htake:(rs.take (k+1)).map Rc.id=(rs.take k).map Rc.id++[rs[k].id]:=by rw[tS hkr,zg2]; rfl
  have hgx:rs[((k:Nat):Int).toNat]?=some rs[k]:=List.getElem?_eq_getElem hkr;have htl:((rs.take k).map Rc.id).length=k:=by simp; omega
  generalize hx:rs[k]=x at *;refine kP (tN (sQ (bK (rZ (lU (iA aB ao I I hb1 oM sL) (lK (SQ.elemA cz ao I hrs.rd hgx) (bW (aL zk8) fun b7=>?_)))))));refine oZ (sK 0 ao I I I I I sB) ?_;refine tZ (rG (lM I (lU (fA ay I zT3 I) (lK (qL iT3 I (cO 0 I I)) (lW (bS sty52 I I I (ag sB) dC) ?_)))));rintro _ _ _ ⟨b20,rfl,rfl,rfl⟩;refine lW (SO.app1 1 (((rs.take (k+1)).map Rc.id).flatMap encInt.enc) ((rs.take (k+1)).map Rc.id).length sty52 I I I I I ⟨I,trivial⟩ (by rw[htake]; simp[encInt]; rfl) (by rw[htake]; simp) lN lN) ?_;rintro ov' _ _ ⟨rfl,rfl⟩;refine lA I (nL (bN (tN (rG (yD I (lM I (nL (dR (s':=rowA encInt 3 ov' ((rs.take (k+1)).map Rc.id)::s) (.cons _ (.refl _)) ?_))))))));exact ST.again (ov',k+1) sB I I lN lN
 ·refine xI (tX (tX (bX (tN (sW I (aT I (rE ?_)))))));have hkk:rs.take k=rs:=tL oM;rw[hkk];refine fT fun g2 h2 hrow=>?_;exact za7 (.inl I) results214 I ⟨I,hle.trans h2,by rw[hids]; exact hrow⟩
def AV (E:World)(pv:Value)(q:ae→Bool)(g:PH):Prop :=
 ∀ g' s a,Le g g'→bM Tryz.prog E pv [.agg (encSide.enc a).toArray] g' s (fun x g'' s''=>x=vb (q a)∧g'=g''∧s=s'')
theorem xq (E:World)(g:PH)(s:Own)(v:Value)(kn:FuncId)(kc:Array Value)(l:List ae)(q:ae→Bool)(hv:SlA encSide g v l)(hl:l.length<1099511627776)(hp:AV E (.func (.func kn) #[] kc) q g) :
  Ctr Tryz.prog E 168 #[v,.func (.func kn) #[] kc] g s (fun r g' s'=>(∃ n:Int,r=vi n∧decide (n≥0)=l.any q)∧g=g'∧s=s'):=by
 obtain ⟨p,c,rfl⟩:=hv.form;refine zb1 (args:=[.slice p l.length c,.func (.func kn) #[] kc]) func168 I ntmps168 (bE I) ?_;refine rZ (aT I (sQ (sW I (lU (eN bh I) (lM I (tZ (bK ?_)))))));refine oP (ι:=Nat) (fun k=>[(0,.slice p l.length c),(1,.func (.func kn) #[] kc),(7,vi l.length),(8,vi k)]) (fun _=>g) (fun _=>s) (fun k=>k≤l.length∧(l.take k).any q=false) (fun k=>l.length - k) 0
  sB rfl rfl ⟨zf3 _,by simp⟩ ?_
 rintro k ⟨hk,hno⟩;refine rZ (yL I (tZ (sQ ?_)));refine iP I (fun hlt=>?_) (fun hlt=>?_)
 ·have hkl:k<l.length:=oM;have hb1:=hv.based oM;refine kP (tN (sQ (bK (sW I (aT I (sW I (lM I (lM I (lU (iA bh aH I I hb1 oM sL) ?_)))))))));refine SL.q (SQ.elemA fj aH I hv.rd (List.getElem?_eq_getElem hkl)) dC ?_;refine lW (SO.callV I I (hp g _ l[k] (zb8 g))) ?_;rintro _ _ _ ⟨rfl,rfl,rfl⟩;refine tZ ?_;refine iQ I (fun hq=>?_) (fun hq=>?_)
  ·refine sW I (aT I (rE (bR (tR (tR (bR (tR ?_)))))));have hany:l.any q=true:=zj5.2 ⟨l[k],gM hkl,hq⟩;exact za7 (.inl I) results168 I ⟨⟨k,I,by rw[hany]; simp⟩,I,I⟩
  ·refine kP (bN (tN (rG (yD I (lM I (nL ?_))))));exact ST.again (k+1) sB I I ⟨oM,by rw[tS hkl,List.any_append,hno]; simpa using hq⟩ oM
 ·refine xI (tX (tX (bX (tN (rZ (aT I (rE ?_)))))));have hkk:l.take k=l:=tL oM;rw[hkk] at hno;exact za7 (.inl I) results168 I ⟨⟨-1,I,by rw[hno]; rfl⟩,rfl,rfl⟩
theorem kY (E:World)(g:PH)(s:Own)(v:Value)(kn:FuncId)(kc:Array Value)(l:List ae)(q:ae→Bool)(hv:SlA encSide g v l)(hl:l.length<1099511627776)(hp:AV E (.func (.func kn) #[] kc) q g) :
  Ctr Tryz.prog E 149 #[v,.func (.func kn) #[] kc] g s (fun r g' s'=>r=vb (l.any q)∧g=g'∧s=s'):=by
 refine zb1 (args:=[v,.func (.func kn) #[] kc]) func149 I ntmps149 (bE I) ?_;refine rZ (aT I (sW I (lM I (lW (SO.call call168 I (xq E g _ v kn kc l q hv hl hp)) ?_))));rintro _ _ _ ⟨⟨n,rfl,hn⟩,rfl,rfl⟩;refine lU (gQ I I) (aT I (rE ?_));exact za7 (.inl I) results149 I ⟨by rw[hn],I,I⟩
def Ea (c:Cl)(id:Int):Bool:=c.sides.any fun x=>decide (x.cell=id)
theorem hasP (E:World)(g:PH)(b:Nat)(id:Int)(hb:g b=some (.cells #[vi id] 3 (0,0))):AV E (.func (.func 264) #[] #[pp b 0]) (fun x=>decide (x.cell=id)) g:=by
 intro g s a hle;refine bM.mk (cap:=[pp b 0]) call264 ?_;have hb':=hle _ _ hb;refine zb1 (args:=[.agg (encSide.enc a).toArray,pp b 0]) func264 I ntmps264 (bE I) ?_;refine rZ (bW (bO I) fun b2=>?_);refine aT I (rZ (lU (fA dp I zT3 I) (lK (qL iT3 I (cO 0 I I)) (lK (qL iT3 I (cK hb' I)) (yE I (aT I (rE (dR (s':=s) uR ?_))))))));exact za7 (.inl I) results264 I ⟨I,I,I⟩
theorem BW (E:World)(g:PH)(s:Own)(c:Cl)(r:Rc)(id:Int)(hc:am g c r)(hl:c.sides.length<1099511627776) :
  Ctr Tryz.prog E 216 #[rcv r,vi id] g s (fun r g' s'=>r=vb (Ea c id)∧g=g'∧s=s'):=by
 refine zb1 (args:=[rcv r,vi id]) func216 I ntmps216 (bE I) ?_;refine rZ (bW (bO I) fun b2=>?_);refine bW (bO I) fun b3=>?_;refine zb4 fun g1 hle hb=>?_;refine aT I (rZ (lU (fA ay I bJ I) (lK (qL cI I (cO 0 I I)) (lU (SU.mkFunc I) (lW (SO.call call149 I (kY E g1 _ _ 264 #[pp b3 0] c.sides _ (hc.2.2.mono hle) hl (hasP E g1 b3 id hb))) ?_)))));rintro _ _ _ ⟨rfl,rfl,rfl⟩;refine aT I (rE ?_);refine dR (s':=s) (.cons _ (.refl _)) (ST.less hle ?_);exact za7 (.inl I) results216 I ⟨I,I,I⟩
theorem EF (E:World)(g:PH)(b:Nat)(id:Int)(tl:List Cl)(hf:bd tl)(hb:g b=some (.cells #[vi id] 3 (0,0))):rh E (.func (.func 215) #[] #[pp b 0]) (fun c=>Ea c id) tl g:=by
 intro g s c r hle hm hc;refine bM.mk (cap:=[pp b 0]) call215 ?_;have hb':=hle _ _ hb;refine zb1 (args:=[rcv r,pp b 0]) func215 I ntmps215 (bE I) ?_;refine rZ (bW (bO I) fun b2=>?_);refine aT I (rZ (lK (qV 0 cz ao I I I) (lK (qL iT3 I (cK hb' I)) (lW (SO.call call216 I (BW E g _ c r id hc (hf.2 c hm))) ?_))));rintro _ _ _ ⟨rfl,rfl,rfl⟩;refine aT I (rE (dR (s':=s) uR ?_));exact za7 (.inl I) results215 I ⟨I,I,I⟩
def oh (l:List Cl)(id:Int):List Int:=((ai l).filter fun c=>Ea c id).map Cl.id
theorem xU (E:World)(g:PH)(s:Own)(v:Value)(l:List Cl)(id:Int)(hv:aj g v l)(hf:bd l) :
  Ctr Tryz.prog E 167 #[.agg #[v],vi id] g s (fun r g' s'=>s=s'∧Le g g'∧de g' r (oh l id)):=by
 refine zb1 (args:=[.agg #[v],vi id]) func167 I ntmps167 (bE I) ?_;refine rZ (bW (bO I) fun b2=>?_);refine bW (bO I) fun b3=>?_;refine zb4 fun g1 hle hb=>?_;refine aT I (rZ (lK (qV 0 aA ak I I I) (lW (SO.call call52 I (mO E g1 _ v l (hv.mono hle) hf)) ?_)));rintro tv g2 _ ⟨rfl,hle2,ht⟩;refine lU (SU.mkFunc I) (lW (SO.call call214 I (xf E g2 _ tv _ _ _ ht (jr l) (ep hf) (EF E g2 b3 id _ (ep hf) (hle2 _ _ hb)))) ?_);rintro r8 g3 _ ⟨rfl,hle3,hr⟩;refine aT I (rE (dR (s':=s) uR ?_));exact za7 (.inl I) results167 I ⟨I,hle.trans (hle2.trans hle3),hr⟩
theorem Tryz.mty143:MTy Tryz.prog 143 3 4 (vb false):=⟨underlying143,underlying3,zl3⟩
def xV:Rc:=⟨0,0,none,0,0⟩
def bi:Cl:=⟨0,0,[]⟩
theorem pI {R:Cl→Rc→Prop}(hR:∀ c r,R c r→r.id=c.id){tl:List Cl}{rs:List Rc}(h:az R tl rs)(k:Int):(tl.find? (fun c=>decide (c.id=k))=none∧dB (rs.map an) k=none)∨∃ c r,tl.find? (fun c=>decide (c.id=k))=some c∧dB (rs.map an) k=some (rcv r)∧R c r:=by
 induction tl generalizing rs with
 | nil=>cases rs with | nil=>exact .inl ⟨rfl,rfl⟩ | cons _ _=>exact h.elim
 | cons c t ih =>
  cases rs with
  | nil=>exact h.elim
  | cons r rs =>
   simp only[zg1,an,cd,zi3];by_cases hk:c.id=k
   ·right;have:k=r.id:=by rw[hR _ _ h.1,hk]
    exact⟨c,r,by simp[hk],by rw[zf7 this],h.1⟩
   ·have hk2:¬ k=r.id:=by rw[hR _ _ h.1]; exact fun e=>hk e.symm
    simp only[hk,decide_false,zf6 hk2];exact ih h.2
theorem AJ {g:PH}{tl:List Cl}{rs:List Rc}(h:az (am g) tl rs)(k:Int):(tl.find? (fun c=>decide (c.id=k))=none∧dB (rs.map an) k=none)∨∃ c r,tl.find? (fun c=>decide (c.id=k))=some c∧dB (rs.map an) k=some (rcv r)∧am g c r:=pI (fun _ _ h=>h.1) h k
theorem cH {g:PH}{tl:List Cl}{rs:List Rc}(h:az (am g) tl rs)(hw:∀ g,am g bi xV)(k:Int):∃ r,(dB (rs.map an) k).getD (.agg #[vi 0,vi 0,.slice none 0 0])=rcv r∧(dB (rs.map an) k).isSome=(tl.find? (fun c=>decide (c.id=k))).isSome∧am g ((tl.find? (fun c=>decide (c.id=k))).getD bi) r:=by
 rcases AJ h k with ⟨h1,h2⟩ | ⟨c,r,h1,h2,h3⟩
 ·exact⟨xV,by rw[h2]; rfl,by rw[h1,h2]; rfl,by rw[h1]; exact hw g⟩
 ·exact⟨r,by rw[h2]; rfl,by rw[h1,h2]; rfl,by rw[h1]; exact h3⟩
theorem fD (g:PH):am g bi xV:=⟨rfl,rfl,zb9 g _⟩
def findC (l:List Cl)(id:Int):Option Cl:=(ai l).find? fun c=>decide (c.id=id)
def Ek (tl:List Cl)(k:Int):Bool:=tl.any fun c=>Ea c k
def CS (l:List Cl):List Int:=((ai l).filter fun c=>!Ek (ai l) c.id).map Cl.id
theorem ws {g:PH}{tl:List Cl}{rs:List Rc}(h:az (am g) tl rs){r:Rc}(hr:r∈rs):∃ c,c∈tl∧am g c r:=by
 obtain ⟨i,hi,rfl⟩:=zc6 hr;have hl:=h.length;have hi':i<tl.length:=oM;exact⟨tl[i],gM hi',h.get (List.getElem?_eq_getElem hi') (List.getElem?_eq_getElem hi)⟩
theorem BG {tl:List Cl}(h:(tl.map Cl.id).Nodup){a b:Cl}(ha:a∈tl)(hb:b∈tl)(e:a.id=b.id):a=b:=by
 induction tl with
 | nil=>simp at ha
 | cons c t ih =>
  simp only[zg1,zj8] at h
  rcases ze7.1 ha with rfl | ha' <;> rcases ze7.1 hb with rfl | hb'
  ·rfl
  ·exact absurd (ze8.2 ⟨b,hb',e.symm⟩) h.1
  ·exact absurd (ze8.2 ⟨a,ha',e⟩) h.1
  ·exact ih h.2 ha' hb'
theorem uo {vc tl:List Cl}(hs:∀ c∈vc,c∈tl)(hp:(vc.map Cl.id).Perm (tl.map Cl.id))(hn:(tl.map Cl.id).Nodup):vc.Perm tl:=by
 have hn2:(vc.map Cl.id).Nodup:=hp.symm.nodup hn;refine (List.perm_ext_iff_of_nodup (List.Pairwise.of_map Cl.id (fun a b hab e=>hab (by rw[e])) hn2) (List.Pairwise.of_map Cl.id (fun a b hab e=>hab (by rw[e])) hn)).2 fun c=>⟨hs c,fun hc=>?_⟩;obtain ⟨c',h1,h2⟩:=ze8.1 (hp.symm.subset (ze8.2 ⟨c,hc,rfl⟩));rw[← BG hn (hs c' h1) hc h2];exact h1
theorem sO {g:PH}{vl:List (Int×Value)}{rs:List Rc}{vc tl:List Cl}(hv:vl.map Prod.fst=vc.map Cl.id)(hs:∀ c∈vc,c∈tl)(hn:(tl.map Cl.id).Nodup)(hall:az (am g) tl rs)(hp:vl.Perm (rs.map an)):vc.Perm tl:=by
 refine uo hs ?_ hn;have h1:=hp.map Prod.fst;rw[hv,zi2] at h1;rw[jc hall];exact h1
theorem Eu {f:Fr}{t:Nat}{a b:Int}(h:aN f t=some (vi a))(e:a=b):aN f t=some (vi b):=e ▸ h
theorem mw {α:Type}{s:List α}{i:Nat}{a:α}(h:s[i]?=some a):s.set i a=s:=by
 apply List.ext_getElem?;intro j;rw[List.getElem?_set];split
 ·rename_i e;subst e;split
  ·exact h.symm
  ·rename_i h2;rw[List.getElem?_eq_none oM]
 ·rfl
def ab (tl:List Cl)(id:Int):Option Cl:=tl.find? fun c=>decide (c.id=id)
def dq (tl:List Cl):Nat→Int→List Int→List Int
 | 0,_,vis=>vis
 | n+1,id,vis =>
  match ab tl id with
  | none=>vis
  | some c=>if vis.contains id then vis else c.sides.foldl (fun v x=>dq tl n x.cell v) (vis++[id])
theorem nI (tl:List Cl)(n:Nat)(id:Int)(vis:List Int):dq tl (n+1) id vis=(match ab tl id with
  | none=>vis
  | some c=>if vis.contains id then vis else c.sides.foldl (fun v x=>dq tl n x.cell v) (vis++[id])):=rfl
def nY (tl:List Cl)(vis:List Int):Nat:=(tl.filter fun c=>!vis.contains c.id).length
def mY (tl:List Cl)(ids:List Int):List Int:=ids.foldl (fun v id=>dq tl (tl.length+1) id v) []
theorem oN (tl:List Cl):∀ (n:Nat) (id:Int) (vis:List Int) (x:Int),x∈vis→x∈dq tl n id vis
 | 0,_,_,_,h=>h
 | n+1,id,vis,x,h=>by
  unfold dq;split
  ·exact h
  ·split
   ·exact h
   ·rename_i c _ _;have:∀ (l:List ae) (v:List Int),x∈v→x∈l.foldl (fun v y=>dq tl n y.cell v) v:=by
     intro l;induction l with
     | nil=>intro v hv; exact hv
     | cons y t ih=>intro v hv; exact ih _ (oN tl n y.cell v x hv)
    exact this _ _ (by simp[h])
theorem nj {tl:List Cl}{v v':List Int}(h:∀ x∈v,x∈v'):nY tl v'≤nY tl v:=by
 unfold nY;rw[← List.countP_eq_length_filter,← List.countP_eq_length_filter];apply List.countP_mono_left;intro c _ hp;simp at hp ⊢;exact fun e=>hp (h _ e)
theorem zh {tl:List Cl}{v:List Int}{c:Cl}(hc:c∈tl)(hn:v.contains c.id=false):nY tl (v++[c.id])<nY tl v:=by
 induction tl with
 | nil=>simp at hc
 | cons d t ih =>
  have hm:nY t (v++[c.id])≤nY t v:=nj (fun x hx=>by simp[hx]);have e1:∀ u:List Int,nY (d::t) u=(if u.contains d.id then 0 else 1)+nY t u:=fun u=>by
   unfold nY;rw[zi4];cases u.contains d.id <;> simp <;> omega
  rw[e1,e1]
  rcases ze7.1 hc with rfl | hc'
  ·have:(v++[c.id]).contains c.id=true:=by simp
   rw[this,hn];simp;omega
  ·have:=ih hc';cases h1:v.contains d.id
   ·cases h2:(v++[c.id]).contains d.id <;> simp <;> omega
   ·have h2:(v++[c.id]).contains d.id=true:=by simp at h1 ⊢; exact .inl h1
    rw[h2];simp;exact this
def fX (vis:List Int):List (Int×Value):=vis.map fun k=>(k,vb true)
theorem vA (vis:List Int):EO (fX vis) (fun k=>vis.contains k):=by
 intro k;induction vis with
 | nil=>rfl
 | cons a t ih =>
  simp only[fX,zg1,cd] at ih ⊢;by_cases h:k=a
  ·simp[h]
  ·have h2:(k == a)=false:=by simpa using h
   rw[zf6 h,ih];simp[h]
theorem qi {vis:List Int}{id:Int}(h:vis.contains id=false):fe (fX vis) id (vb true)=fX (vis++[id]):=by
 rw[kK _ _ _ (fun p hp=>by
  obtain ⟨a,ha,rfl⟩:=ze8.1 hp;intro e;simp at h;exact h (by rw[← e]; exact ha))]
 simp[fX]
theorem au {tl:List Cl}{id:Int}{c:Cl}(h:ab tl id=some c):c∈tl∧c.id=id:=⟨zk3 h,by simpa using List.find?_some h⟩
theorem e8 {α:Type}{l:List α}{j:Nat}{y:α}(h:l[j]?=some y):l.take (j+1)=l.take j++[y]:=by
 obtain ⟨h1,h2⟩:=zf2.1 h;rw[tS h1,h2]
theorem y8 {α:Type}{s:List α}{i:Nat}{a:α}(h:s[i]?=some a)(b:α):(s.set i b)[i]?=some b:=by
 have:=(zf2.1 h).1;simp[this]
theorem wW (E:World)(g:PH)(bt bm bf m:Nat)(tv:Value)(tl:List Cl)(hv:Tab g tv tl)(hf:bd tl)(h2:g bt=some (.cells #[tv] 105 (0,0)))(h5:g bm=some (.cells #[.map (some m)] 143 (0,0)))
  (h6:g bf=some (.cells #[.func (.func 160) #[] #[pp bt 0,pp bm 0,pp bf 0]] 169 (0,0))):∀ (n:Nat) (id:Int) (vis:List Int) (s:Own) (i:Nat),nY tl vis<n→s[i]?=some (mp m (fX vis)) →
  Ctr Tryz.prog E 160 #[vi id,pp bt 0,pp bm 0,pp bf 0] g s (fun _ g' s'=>g=g'∧s'=s.set i (mp m (fX (dq tl n id vis)))):=by
 intro n;induction n with
 | zero=>intro id vis s i h; omega
 | succ n ih =>
 intro id vis s i hcnt hi;have hv':=hv;obtain ⟨b,mt,iv,rs,rfl,hb,hm,hI,hall⟩:=hv';obtain ⟨x,hx1,hx2,hx3⟩:=cH hall fD id;obtain ⟨xi,xd,xp,xn,xc⟩:=x;have hxs:SlA encSide g (.slice xp xn xc) ((ab tl id).getD bi).sides:=hx3.2.2;have hxn:xn=((ab tl id).getD bi).sides.length:=zc1 hxs;subst hxn;refine zb1 (args:=[vi id,pp bt 0,pp bm 0,pp bf 0]) func160 I ntmps160 (bE I) ?_;refine rZ (lK (qL isAgg105 I (cK h2 I)) (lU (nC I) (lU (fA jy I iy I) (lK (qL iE I (cK hb I)) (lM I (lK (SQ.eq (v':=.tuple #[rcv ⟨xi,xd,xp,((ab tl id).getD bi).sides.length,xc⟩,vb (decide ((ab tl id).isSome=true))]) (SQ.lookupOk mty125 I I (a8.known hm)) (by rw[hx1,hx2,Bool.decide_eq_true]; rfl)) ?_))))));refine lM I (yX I (yX I (bW (aL zk8) fun b5=>?_)));refine oZ (sK 0 ao I I I I I sB) ?_;refine aT I (sQ ?_);refine SC.cutB 24 (!(ab tl id).isSome||vis.contains id) ?_ ?_
 ·refine rG (lM I (lU (SU.notP I) (lM I ?_)));refine sP ?_ ?_
  ·intro h20;refine yA I (yA I (yA I (yP I (nL ?_))));exact za9 (by simp_all[aN]) mI
  ·intro h20;refine SL.gq (gT I I I dC) (qL isAgg143 I (cK h5 I)) dC (yC I (SL.gq (gT I I I dC) (SQ.eq (v':=vb (decide (vis.contains id=true))) (SQ.lookup mty143 I I (a8.own (i+1) hi)) (by rw[(vA vis).get id]; simp)) dC ?_));refine yF I (nL ?_);exact za9 (by simp_all[aN]) mI
 refine iQ I (fun hstop=>?_) (fun hstop=>?_)
 ·refine rE (tR (dR (s':=s) uR ?_));have hr:dq tl (n+1) id vis=vis:=by
   unfold dq;cases h:ab tl id with
   | none=>rfl
   | some c =>
    rw[h] at hstop;simp only[Option.isSome_some,Bool.not_true,Bool.false_or] at hstop;simp only[hstop,if_true]
  exact ST.ret0 (.inl I) results160 ⟨I,by rw[hr,mw hi]⟩
 ·obtain ⟨c,hc⟩:∃ c,ab tl id=some c:=by
   cases h:ab tl id with
   | none=>rw[h] at hstop; simp at hstop
   | some c=>exact⟨c,rfl⟩
  obtain ⟨hcm,hcid⟩:=au hc;have hnv:vis.contains id=false:=by rw[hc] at hstop; simpa using hstop
  have hcl:=hf.2 c hcm;have hcnt2:nY tl (vis++[id])<n:=by
   have:=zh hcm (by rw[hcid]; exact hnv);rw[hcid] at this;omega
  simp only[hc,Option.getD_some] at hxs ⊢;refine kP (tN (rZ (lK (qL isAgg143 I (cK h5 I)) (lM I (lO (SO.mapUpdate (i+1) mty143 I I I hi) ?_)))));rintro _ _ _ ⟨rfl,rfl⟩;rw[qi hnv];refine tZ (rZ (lU (fA ay I bJ I) (lK (qL cI I (cO 0 I I)) (lU (eN bh I) (lM I (tZ (bK (SC.drop (s':=s.set i (mp m (fX (vis++[id])))) (.cons _ (.refl _)) ?_))))))));refine oP (ι:=Nat×List Int) (fun q=>[(3,pp bf 0),(28,.slice xp c.sides.length xc),(29,vi c.sides.length),(30,vi q.1)]) (fun _=>g)
   (fun q=>s.set i (mp m (fX q.2))) (fun q=>q.1≤c.sides.length∧q.2=(c.sides.take q.1).foldl (fun v x=>dq tl n x.cell v) (vis++[id])∧nY tl q.2<n) (fun q=>c.sides.length - q.1)
   (0,vis++[id]) sB rfl rfl ⟨zf3 _,by simp,hcnt2⟩ ?_
  rintro ⟨j,vj⟩ ⟨hj,hvj,hcj⟩;dsimp only at hj hvj hcj ⊢;refine rZ (yL I (tZ (sQ ?_)));refine iP I (fun hlt=>?_) (fun hlt=>?_)
  ·have hjl:j<c.sides.length:=oM;have hb1:=hxs.based oM;have hjx:c.sides[((j:Nat):Int).toNat]?=some c.sides[j]:=List.getElem?_eq_getElem hjl;generalize c.sides[j]=y at *;refine kP (tN (sQ (bK (rZ (lU (iA bh aH I I hb1 oM sL) (lK (SQ.elemA fj aH I hxs.rd hjx) (bW (aL zl2) fun b8=>?_)))))));refine oZ (sK 0 aH I I I I I sB) ?_;refine tZ (rG (lK (qL isAgg169 I (cK h6 I)) (lU (fA dp I zT3 I) (lK (qL iT3 I (cO 0 I I)) (lW (SO.callV I I (bM.mk (cap:=[pp bt 0,pp bm 0,pp bf 0]) call160 (ih y.cell vj _ (i+1) hcj (y8 hi _)))) ?_)))));rintro _ _ _ ⟨rfl,rfl⟩;refine nL (bN (tN (rG (yD I (lM I (nL (dR (s':=s.set i (mp m (fX (dq tl n y.cell vj)))) (by rw[List.set_cons_zero,List.set_cons_succ,List.set_set]; exact .cons _ (.refl _)) ?_)))))));exact ST.again (j+1,dq tl n y.cell vj) sB I I ⟨lN,by
    rw[e8 (j:=j) hjx,zi6,← hvj]; rfl,Nat.lt_of_le_of_lt (nj fun x hx=>oN tl n _ _ x hx) hcj⟩ lN
  ·refine xI (tX (tX (bX ?_)));have hjj:c.sides.take j=c.sides:=tL oM;have hr:dq tl (n+1) id vis=vj:=by
    rw[hjj] at hvj;rw[hvj,nI,hc];simp only[hnv,Bool.false_eq_true,if_false]
   exact ST.ret0 (.inr I) results160 ⟨I,by rw[hr]⟩
theorem zj (tl:List Cl)(v:List Int):nY tl v≤tl.length:=zc4 _ _
theorem s8 (E:World)(g:PH)(s:Own)(v iv:Value)(tl:List Cl)(ids:List Int)(hv:Tab g v tl)(hf:bd tl)(hi:de g iv ids)(hl:ids.length<1099511627776) :
  Ctr Tryz.prog E 93 #[v,iv] g s (fun r g' s'=>∃ m,r = .map (some m)∧Le g g'∧s'=mp m (fX (mY tl ids))::s):=by
 obtain ⟨p,c,rfl⟩:=za3 hi;have hvc:v.cells = #[v]:=by obtain ⟨b,_,_,_,rfl,_⟩:=hv; rfl
 refine zb1 (args:=[v,.slice p ids.length c]) func93 I ntmps93 (bE I) ?_;refine rZ (bW (bO I) fun b2=>?_);refine zb4 fun g1 hle hb2=>?_;rw[hvc] at hb2;refine aT I (rZ (lW (SO.mkMap) ?_));rintro _ _ _ ⟨m,rfl,rfl,rfl⟩;refine bW (aL zeroValue143) fun b5=>?_;refine oZ (sK 0 sizeOf143 I I I I I ⟨I,trivial⟩) (zb4 fun g2 hle2 hb5=>?_);refine tZ (rZ (bW (aL zeroValue169) fun b6=>?_));refine tZ (rZ (lU (SU.mkFunc I) (oZ (sK 0 sizeOf169 I I I I I ⟨I,trivial⟩) (zb4 fun g3 hle3 hb6=>?_))));refine tZ (sQ (sW I (lU (eN aG I) (lM I (tZ (bK ?_))))));have hv3:=hv.mono (hle.trans (hle2.trans hle3));have hi3:=hi.mono (hle.trans (hle2.trans hle3));refine oP (ι:=Nat×List Int) (fun q=>[(5,pp b5 0),(6,pp b6 0),(11,.slice p ids.length c),(12,vi ids.length),(13,vi q.1)]) (fun _=>g3)
  (fun q=>mp m (fX q.2)::s) (fun q=>q.1≤ids.length∧q.2=(ids.take q.1).foldl (fun v id=>dq tl (tl.length+1) id v) []) (fun q=>ids.length - q.1)
  (0,[]) sB rfl rfl ⟨zf3 _,by simp⟩ ?_
 rintro ⟨j,vj⟩ ⟨hj,hvj⟩;dsimp only at hj hvj ⊢;refine rZ (yL I (tZ (sQ ?_)));refine iP I (fun hlt=>?_) (fun hlt=>?_)
 ·have hjl:j<ids.length:=oM;have hb1:=za5 hi oM;have hjx:ids[((j:Nat):Int).toNat]?=some ids[j]:=List.getElem?_eq_getElem hjl;generalize ids[j]=y at *;refine kP (tN (sQ (bK (rZ (lU (iA aG zT3 I I hb1 oM sL) (lK (eB iT3 I (za6 hi3) hjx I) (aT I (rG (lK (qL isAgg169 I (cK hb6 I)) (lM I (lW (SO.callV I I (bM.mk (cap:=[pp b2 0,pp b5 0,pp b6 0]) call160 (wW E g3 b2 b5 b6 m v tl hv3 hf ((hle2.trans hle3) _ _ hb2) (hle3 _ _ hb5) hb6 (tl.length+1) y vj _ 0 (zk5 (zj _ _)) I))) ?_)))))))))));rintro _ _ _ ⟨rfl,rfl⟩;refine nL (bN (tN (rG (yD I (lM I (nL ?_))))));exact ST.again (j+1,dq tl (tl.length+1) y vj) sB I I ⟨lN,by rw[e8 (j:=j) hjx,zi6,← hvj]; rfl⟩ lN
 ·refine xI (tX (tX (bX (tN (rZ (lK (qL isAgg143 I (cK (hle3 _ _ hb5) I)) (aT I (rE ?_))))))));have hjj:ids.take j=ids:=tL oM;rw[hjj] at hvj;exact za7 (.inl I) results93 I ⟨m,I,hle.trans (hle2.trans hle3),by rw[hvj]; rfl⟩
open Go Go.Sy Go.Pl Go.Proofs Go.Shelf Go.Sort
def uz:Ren :=
 {
  f:=fun x =>
   match x with
   | 189=>132
   | 125=>156
   | 257=>188
   | 128=>209
   | 129=>210
   | 294=>235
   | 295=>236
   | 296=>237
   | 297=>238
   | 298=>239
   | 299=>240
   | 216=>241
   | 300=>242
   | 301=>243
   | 328=>276
   | 329=>259
   | 330=>260
   | 331=>277
   | 332=>278
   | 215=>159
   | 343=>296
   | n=>n,
  t:=fun x =>
   match x with
   | 28=>52
   | 3=>3
   | 46=>203
   | 0=>0
   | 51=>239
   | 53=>145
   | 4=>4
   | 183=>233
   | 182=>232
   | 131=>149
   | 5=>5
   | 9=>9
   | 218=>270
   | 222=>274
   | 228=>292
   | 229=>293
   | n=>n,
  g:=fun x =>
   have n:=x;
   n }
theorem Tryz.lays189:Lays.n189 Tryz.prog uz :=
  {
  mixed:=Eq.refl true,f125:=zb7 func156 (zd8 some kR),
  f128:=zb7 func209 (zd8 some kR),
  f129:=zb7 func210 (zd8 some kR),
  f189:=zb7 func132 (zd8 some kR),
  f215:=zb7 func159 (zd8 some kR),
  f216:=zb7 func241 (zd8 some kR),
  f257:=zb7 func188 (zd8 some kR),
  f294:=zb7 func235 (zd8 some kR),
  f295:=zb7 func236 (zd8 some kR),
  f296:=zb7 func237 (zd8 some kR),
  f297:=zb7 func238 (zd8 some kR),
  f298:=zb7 func239 (zd8 some kR),
  f299:=zb7 func240 (zd8 some kR),
  f300:=zb7 func242 (zd8 some kR),
  f301:=zb7 func243 (zd8 some kR),
  f328:=zb7 func276 (zd8 some kR),
  f329:=zb7 func259 (zd8 some kR),
  f330:=zb7 func260 (zd8 some kR),
  f331:=zb7 func277 (zd8 some kR),
  f332:=zb7 func278 (zd8 some kR),
  f343:=zb7 func296 (zd8 some kR),t0:=uT0,
  a0:=isAgg0,z0:=sizeOf0,v0:=zk9,t3:=uT3,a3:=iT3,
  z3:=zT3,v3:=zl5,t4:=uT4,a4:=isAgg4,z4:=sizeOf4,
  v4:=zl3,t5:=uT5,a5:=isAgg5,z5:=sizeOf5,v5:=zeroValue5,
  t9:=underlying9,a9:=isAgg9,z9:=sizeOf9,v9:=zeroValue9,t28:=aG,
  a28:=fH,z28:=eZ,v28:=zeroValue52,t46:=eV,a46:=isAgg203,
  z46:=sizeOf203,v46:=zeroValue203,t51:=underlying239,a51:=isAgg239,
  z51:=sizeOf239,v51:=zeroValue239,t53:=n5,a53:=isAgg145,
  z53:=sizeOf145,v53:=zeroValue145,t131:=underlying149,a131:=isAgg149,
  z131:=sizeOf149,v131:=zeroValue149,t182:=underlying232,a182:=isAgg232,
  z182:=sizeOf232,v182:=zeroValue232,t183:=underlying233,a183:=isAgg233,
  z183:=sizeOf233,v183:=zeroValue233,t218:=underlying270,a218:=isAgg270,
  z218:=sizeOf270,v218:=zeroValue270,t222:=underlying274,a222:=isAgg274,
  z222:=sizeOf274,v222:=zeroValue274,t228:=underlying292,a228:=isAgg292,
  z228:=sizeOf292,v228:=zeroValue292,t229:=underlying293,a229:=isAgg293,
  z229:=sizeOf293,v229:=zeroValue293 }
def dQ (l:List Int):List Int:=l.mergeSort fun x y=>decide (x≤y)
theorem e9 (l:List Int):(dQ l).length=l.length:=List.length_mergeSort ..
theorem oK (l:List Int):(dQ l).Perm l:=List.mergeSort_perm ..
theorem nh (l:List Int):l.flatMap encInt.enc=l.map (Value.int .i64):=by
 induction l with
 | nil=>rfl
 | cons a t ih=>simp only[zh2,zg1,ih]; rfl
theorem qO (E:World)(g:PH)(s:Own)(v:Value)(l:List Int)(i:Nat)(hi:s[i]?=some (rowA encInt 3 v l))(hl:l.length<17592186044416) :
  Ctr Tryz.prog E 132 #[v] g s (fun _ g' s'=>g=g'∧s'=s.set i (rowA encInt 3 v (dQ l))):=by
 intro w hw;obtain ⟨h1,h2⟩:=fE hw hi
 rcases h2 with ⟨p,rfl,hn⟩ | ⟨b,cap,cur,rfl,hb,hle,hcm,hcs,ht⟩
 ·have hl0:l=[]:=zf1 hn;subst hl0;refine (Any.slices_Sort_int_none lays189 p 0 w).mono ?_;rintro e w' ⟨rfl,rfl⟩;refine⟨_,g,s,I,hw,I,?_⟩;have:dQ []=[]:=by simp[dQ]
  rw[this];exact (mw hi).symm
 ·have ht':cur.toList.take l.length=l.map (Value.int .i64):=by rw[← nh]; simpa using ht
  refine (Any.slices_Sort_int lays189 b 0 (cap+1) l w (holds_of_blockI hb ht') (Array.getElem?_eq_some_iff.1 hb).1 oM).mono ?_;rintro e w' ⟨rfl,n,os,rfl⟩;have hfr:=hw.fresh _ (zf8 hi) b rfl;refine⟨_,g,_,I,?_,I,I⟩;obtain ⟨q1,q2,q3,q4,q5⟩:=grownBy_sortedI (w:=w) (g:=b) (n:=n) (os:=os) (dQ l).toArray;refine hw.turn hi I ⟨I,(by exact Nat.le_add_right _ _)⟩ I q4 (fun k hk hne=>q5 k hk hne) ?_ ?_
  ·have h5:=heap_sortedI (n:=n) (os:=os) (dQ l).toArray hb;have hlen:=e9 l;have:=dw (w:=grow (putRow (Value.int .i64) (Sort.ahead w n) b 0 (dQ l).toArray) os) (T:=3) (k:=1) (n:=(dQ l).length) (b:=b) (cap:=cap) (xs:=(dQ l).flatMap encInt.enc) (by rw[encInt.length]) h5 oM hcm (by simp[putCells]; simpa using hcs) (by
    rw[nh,Nat.mul_one];exact take_putCellsI cur (dQ l) (by rw[hlen,hcs]; omega))
   rw[hlen] at this;rw[show rowA encInt 3 (.slice (some ⟨b,0,none⟩) l.length (cap+1)) (dQ l)=row 3 1 (.slice (some ⟨b,0,none⟩) l.length (cap+1)) l.length ((dQ l).flatMap encInt.enc) by simp only[rowA,hlen]];exact this
  ·intro b' hb';simp only[rowA,row,mh,zg4] at hb';subst hb';exact⟨Nat.lt_of_lt_of_le (Array.getElem?_eq_some_iff.1 hb).1 q4,.inl I⟩
def eR (c:Cl):Bool:=decide (c.dim<0)||decide (c.dim>8)
def aR (c:Cl):Bool:=(decide (c.dim=0)&&decide ((c.sides.length:Int)>0))||(decide (c.dim=1)&&decide ((c.sides.length:Int)≠2))||(decide (c.dim>1)&&(decide ((c.sides.length:Int)<2)||decide ((c.sides.length:Int)>64)))
def bL (tl:List Cl)(c:Cl)(i:Nat)(x:ae):Bool:=!(ab tl x.cell).isSome||decide (((ab tl x.cell).getD bi).dim≠c.dim - 1)||(decide (i>0)&&decide ((c.sides[i - 1]?.map ae.cell)=some x.cell))
section
variable {tl:List Cl}{c p:Cl}{i:Nat}{x:ae}
theorem nn (h:¬ (ab tl x.cell).isSome=true):bL tl c i x=true:=by
 have:(ab tl x.cell).isSome=false:=by simpa using h
 simp[bL,this]
theorem su (h:(ab tl x.cell).isSome=true)(h2:((ab tl x.cell).getD bi).dim≠c.dim - 1):bL tl c i x=true:=by
 simp only[bL,h,h2,Bool.not_true,Bool.false_or,ne_eq,not_false_eq_true,decide_true,Bool.true_or]
theorem sr (h:(ab tl x.cell).isSome=true)(h2:¬ ((ab tl x.cell).getD bi).dim≠c.dim - 1)(h3:¬ (i:Int)>0):bL tl c i x=false:=by
 have h4:¬ i>0:=oM;simp only[bL,h,h2,h4,Bool.not_true,Bool.false_or,decide_false,Bool.false_and]
theorem sn {q:ae}(h:(ab tl x.cell).isSome=true)(h2:¬ ((ab tl x.cell).getD bi).dim≠c.dim - 1)(h3:(i:Int)>0)(hq:c.sides[i - 1]?=some q):bL tl c i x=decide (q.cell=x.cell):=by
 have h4:i>0:=oM;simp only[bL,h,h2,h4,hq,Bool.not_true,Bool.false_or,decide_false,decide_true,Bool.true_and,Option.map_some,zg4]
end
def ia (tl:List Cl)(c:Cl)(i:Nat):Bool:=match c.sides[i]? with
 | some x=>bL tl c i x
 | none=>false
def bB (x:ae):Bool:=decide (x.sign≠1)&&decide (x.sign ≠ -1)
theorem rD {x:ae}(h:x.sign≠1):bB x=decide (x.sign ≠ -1):=by simp[bB,h]
theorem rC {x:ae}(h:¬ x.sign≠1):bB x=false:=by simp[bB,h]
def mg (l:List ae):Int:=(l.map ae.sign).sum
def bV (tl:List Cl)(c:Cl):Int :=
 if eR c then 21 else if aR c then 22 else if (List.range c.sides.length).any (ia tl c) then 22 else if c.sides.any bB then 23 else if (decide (c.dim=1)&&decide (mg c.sides≠0)) then 23 else 0
theorem wK {l:List ae}(h:l.any bB=false):mg l≤l.length ∧ -(l.length:Int)≤mg l:=by
 induction l with
 | nil=>simp[mg]
 | cons x t ih =>
  simp only[List.any_cons,Bool.or_eq_false_iff] at h;have:=ih h.2;have hx:x.sign=1∨x.sign = -1:=by
   have h1:=h.1;simp only[bB,Bool.and_eq_false_iff,decide_eq_false_iff_not,ne_eq,Decidable.not_not] at h1;exact h1
  simp only[mg,zg1,List.sum_cons,ze5] at this ⊢;omega
theorem Aq (E:World)(g:PH)(s:Own)(v:Value)(tl:List Cl)(c:Cl)(r:Rc)(hv:Tab g v tl)(hc:am g c r)(hl:c.sides.length<1099511627776) :
  Ctr Tryz.prog E 54 #[v,rcv r] g s (fun r g' s'=>r=vi (bV tl c)∧g=g'∧s=s'):=by
 obtain ⟨b,mt,iv,rs,rfl,hb,hm,hI,hall⟩:=hv;obtain ⟨ri,rd,rp,rn,rcap⟩:=r;have hcs:SlA encSide g (.slice rp rn rcap) c.sides:=hc.2.2;have hrn:rn=c.sides.length:=zc1 hcs;have hrd:rd=c.dim:=hc.2.1;subst hrn hrd;have hx0:=fun h=>hcs.based h;refine zb1 (args:=[pp b 0,rcv ⟨ri,c.dim,rp,c.sides.length,rcap⟩]) func54 I ntmps54 (bE I) ?_;refine rZ (bW (bO I) fun b3=>?_);refine aT I (rZ (lU (fA ay I bJ I) (lK (qL cI I (cO 0 I I)) (lU (eN bh I) (aT I (sQ (bK ?_)))))));refine SC.cutB 16 (eR c) ?_ ?_
 ·refine rG (lU (fA ay I zT3 I) (lK (qL iT3 I (cO 0 I I)) (yL I (lM I ?_))));refine sP ?_ ?_
  ·intro h20;refine yA I (yA I (yA I (yP I (lA I (nL ?_)))));exact za9 (by simp_all[aN,eR] <;> omega) mI
  ·intro h20;refine lY I I I (fA ay I zT3 I) (SL.gq (gT I I I dC) (qL iT3 I (cO 0 I I)) dC (lY I I I (SU.gtr I I) (yF I (lA I (nL ?_)))));exact za9 (by simp_all[aN,eR] <;> omega) mI
 refine iQ I (fun hdb=>?_) (fun hdb=>?_)
 ·refine rZ (aT I (rE (bR (tR (dR (s':=s) uR ?_)))));exact za7 (.inl I) results54 I ⟨by unfold bV; rw[zf7 hdb],I,I⟩
 ·have hd8:0≤c.dim∧c.dim≤8:=by simp[eR] at hdb; omega
  refine SC.cutB 25 (aR c) ?_ ?_
  ·refine rG (lU (fA ay I zT3 I) (lK (qL iT3 I (cO 0 I I)) (yE I (lM I ?_))));refine sP ?_ ?_
   ·intro h29;refine yC I (lY I I I (SU.gtr I I) (yP I (lM I ?_)));refine sP ?_ ?_
    ·intro h33;refine yA I (yA I (yA I (yA I (yB I (yB I (yA I (yP I (lM I (yA I (yA I (yA I (yA I (yB I (yB I (yB I (yB I (yB I (yB I (yA I (yP I (lA I (nL ?_))))))))))))))))))))));exact za9 (by simp_all[aN,aR] <;> omega) mI
    ·intro h33;refine lY I I I (fA ay I zT3 I) (SL.gq (gT I I I dC) (qL iT3 I (cO 0 I I)) dC (lY I I I (eQ I I) (yC I ?_)));refine sP ?_ ?_
     ·intro h37;refine yC I (lY I I I (nQ I I) (lY I I I (wT I I) (yF I (lM I ?_))));refine sP ?_ ?_
      ·intro h42;refine yA I (yA I (yA I (yA I (yB I (yB I (yB I (yB I (yB I (yB I (yA I (yP I (lA I (nL ?_)))))))))))));exact za9 (by simp_all[aN,aR] <;> omega) mI
      ·intro h42;refine lY I I I (fA ay I zT3 I) (SL.gq (gT I I I dC) (qL iT3 I (cO 0 I I)) dC (lY I I I (SU.gtr I I) (yC I ?_)));refine sP ?_ ?_
       ·intro h46;refine yC I (lY I I I (lS I I) (yC I ?_));refine sP ?_ ?_
        ·intro h49;refine yA I (yA I (lY I I I (wT I I) (lY I I I (wT I I) (yF I (lA I (nL ?_))))));exact za9 (by simp_all[aN,aR] <;> omega) mI
        ·intro h49;refine yC I (lY I I I (SU.gtr I I) (lY I I I (wF I I) (lY I I I (wT I I) (yF I (lA I (nL ?_))))));exact za9 (by simp_all[aN,aR] <;> omega) mI
       ·intro h46;refine yA I (yA I (yA I (yB I (yB I (yA I (lY I I I (wF I I) (yF I (lA I (nL ?_)))))))));exact za9 (by simp_all[aN,aR] <;> omega) mI
     ·intro h37;refine yA I (yA I (lY I I I (wF I I) (yF I (lM I (lY I I I (fA ay I zT3 I) (SL.gq (gT I I I dC) (qL iT3 I (cO 0 I I)) dC (lY I I I (SU.gtr I I) (yC I ?_))))))));refine sP ?_ ?_
      ·intro h46;refine yC I (lY I I I (lS I I) (yC I ?_));refine sP ?_ ?_
       ·intro h49;refine yA I (yA I (lY I I I (wT I I) (lY I I I (wT I I) (yF I (lA I (nL ?_))))));exact za9 (by simp_all[aN,aR] <;> omega) mI
       ·intro h49;refine yC I (lY I I I (SU.gtr I I) (lY I I I (wF I I) (lY I I I (wT I I) (yF I (lA I (nL ?_))))));exact za9 (by simp_all[aN,aR] <;> omega) mI
      ·intro h46;refine yA I (yA I (yA I (yB I (yB I (yA I (lY I I I (wF I I) (yF I (lA I (nL ?_)))))))));exact za9 (by simp_all[aN,aR] <;> omega) mI
   ·intro h29;refine yA I (yA I (yF I (lM I (lY I I I (fA ay I zT3 I) (SL.gq (gT I I I dC) (qL iT3 I (cO 0 I I)) dC (lY I I I (eQ I I) (yC I ?_)))))));refine sP ?_ ?_
    ·intro h37;refine yC I (lY I I I (nQ I I) (lY I I I (wT I I) (yF I (lM I ?_))));refine sP ?_ ?_
     ·intro h42;refine yA I (yA I (yA I (yA I (yB I (yB I (yB I (yB I (yB I (yB I (yA I (yP I (lA I (nL ?_)))))))))))));exact za9 (by simp_all[aN,aR] <;> omega) mI
     ·intro h42;refine lY I I I (fA ay I zT3 I) (SL.gq (gT I I I dC) (qL iT3 I (cO 0 I I)) dC (lY I I I (SU.gtr I I) (yC I ?_)));refine sP ?_ ?_
      ·intro h46;refine yC I (lY I I I (lS I I) (yC I ?_));refine sP ?_ ?_
       ·intro h49;refine yA I (yA I (lY I I I (wT I I) (lY I I I (wT I I) (yF I (lA I (nL ?_))))));exact za9 (by simp_all[aN,aR] <;> omega) mI
       ·intro h49;refine yC I (lY I I I (SU.gtr I I) (lY I I I (wF I I) (lY I I I (wT I I) (yF I (lA I (nL ?_))))));exact za9 (by simp_all[aN,aR] <;> omega) mI
      ·intro h46;refine yA I (yA I (yA I (yB I (yB I (yA I (lY I I I (wF I I) (yF I (lA I (nL ?_)))))))));exact za9 (by simp_all[aN,aR] <;> omega) mI
    ·intro h37;refine yA I (yA I (lY I I I (wF I I) (yF I (lM I (lY I I I (fA ay I zT3 I) (SL.gq (gT I I I dC) (qL iT3 I (cO 0 I I)) dC (lY I I I (SU.gtr I I) (yC I ?_))))))));refine sP ?_ ?_
     ·intro h46;refine yC I (lY I I I (lS I I) (yC I ?_));refine sP ?_ ?_
      ·intro h49;refine yA I (yA I (lY I I I (wT I I) (lY I I I (wT I I) (yF I (lA I (nL ?_))))));exact za9 (by simp_all[aN,aR] <;> omega) mI
      ·intro h49;refine yC I (lY I I I (SU.gtr I I) (lY I I I (wF I I) (lY I I I (wT I I) (yF I (lA I (nL ?_))))));exact za9 (by simp_all[aN,aR] <;> omega) mI
     ·intro h46;refine yA I (yA I (yA I (yB I (yB I (yA I (lY I I I (wF I I) (yF I (lA I (nL ?_)))))))));exact za9 (by simp_all[aN,aR] <;> omega) mI
  refine iQ I (fun hcb=>?_) (fun hcb=>?_)
  ·refine rZ (aT I (rE (bR (tR (dR (s':=s) uR ?_)))));exact za7 (.inl I) results54 I ⟨by unfold bV; rw[zf6 (by simp[hdb]),zf7 hcb],I,I⟩
  ·have hn64:c.sides.length≤64:=by
    simp[aR] at hcb
    rcases Int.lt_trichotomy c.dim 1 with h | h | h
    ·have:c.dim=0:=oM;have:=hcb.1.1 this;simp[this]
    ·have:=hcb.1.2 h;omega
    ·have:=hcb.2 h;omega
   refine kP (bN (tN (sQ (rZ (lU (fA ay I bJ I) (lK (qL cI I (cO 0 I I)) (lU (eN bh I) (lM I (tZ (bK ?_))))))))));refine oP (ι:=Nat) (fun k=>[(0,pp b 0),(3,pp b3 0),(5,vi c.sides.length),(56,.slice rp c.sides.length rcap),(57,vi c.sides.length),(58,vi k)]) (fun _=>g)
    (fun _=>pt b3 (.cells #[vi ri,vi c.dim,.slice rp c.sides.length rcap] 56 (0,0))::s) (fun k=>k≤c.sides.length∧(List.range k).any (ia tl c)=false) (fun k=>c.sides.length - k) 0
    sB rfl rfl ⟨zf3 _,by simp⟩ ?_
   rintro k ⟨hk,hno⟩;try dsimp only
   refine rZ (yL I (tZ (sQ ?_)));refine iP I (fun hlt=>?_) (fun hlt=>?_)
   ·have hkl:k<c.sides.length:=oM;have hb1:=hx0 oM;have hjx:c.sides[((k:Nat):Int).toNat]?=some c.sides[k]:=List.getElem?_eq_getElem hkl;have hjx':c.sides[k]?=some c.sides[k]:=List.getElem?_eq_getElem hkl;generalize c.sides[k]=y at *;obtain ⟨x,hx1,hx2,hx3⟩:=cH hall fD y.cell;obtain ⟨xi,xd,xp,xn,xc⟩:=x;have hxd:xd=((ab tl y.cell).getD bi).dim:=hx3.2.1;subst hxd;have hprev:(k:Int)>0→c.sides[((k:Int) - 1).toNat]?=some (c.sides.getD (k - 1) y):=fun h=>by
     have h1:((k:Int) - 1).toNat=k - 1:=oM;have h2:k - 1<c.sides.length:=oM;rw[h1,List.getElem?_eq_getElem h2,zg7,List.getElem?_eq_getElem h2];rfl
    have hprev2:(k:Int)>0→c.sides[k - 1]?=some (c.sides.getD (k - 1) y):=fun h=>by
     have h2:k - 1<c.sides.length:=oM;rw[List.getElem?_eq_getElem h2,zg7,List.getElem?_eq_getElem h2];rfl
    refine kP (tN (sQ (bK (sW I (lU (iA bh aH I I hb1 oM sL) (lK (SQ.elemA fj aH I hcs.rd hjx) (bW (aL zl2) fun b7=>?_)))))));refine lA I (oZ (sK 0 aH I I I I I sB) ?_);refine tZ (sQ ?_);refine dW [11,12] [(0,2),(1,2),(2,2),(3,1),(4,2),(5,1),(6,1),(7,2),(8,2),(9,2),(10,0),(11,0),(12,0)] zd9 kR ?_;refine yM I (pU I (nC I) (pU I (fA jy I iy I) (pK I (qL iE I (cK hb I)) (pU I (fA dp I zT3 I) (pK I (qL iT3 I (cO 0 I I)) (pK I (SQ.eq (v':=.tuple #[rcv ⟨xi,((ab tl y.cell).getD bi).dim,xp,xn,xc⟩,vb (decide ((ab tl y.cell).isSome=true))]) (SQ.lookupOk mty125 I I (a8.known hm)) (by rw[hx1,hx2,Bool.decide_eq_true]; rfl)) ?_))))));refine yM I (pU I (xT I I) (pU I (xT I I) (SP.o I (aL zk8) dC (.inr iR) ?_)));rintro _ _ _ ⟨b8,rfl,rfl,rfl⟩;refine SP.on I (sK 0 ao I I I I I sB) (.inl dC) ?_;rintro _ _ _ ⟨rfl,rfl⟩;refine oU I (aS I) dC (.inl dC) (pN (tN ?_));refine SC.cutB 98 (bL tl c k y) ?_ ?_
    ·refine dW [] [(0,2),(1,2),(2,2),(3,2),(4,1),(5,2),(6,1),(7,2),(8,2),(9,2),(10,2),(11,2),(12,2),(13,2),(14,2),(15,1),(16,2),(17,2),(18,2),(19,2),(20,1),(21,2),(22,1),(23,2),(24,2),(25,2)] zd9 kR ?_;refine yM I (pU I (SU.notP I) (yM I ?_));refine SP.split ?_ ?_
     ·intro h75;refine yG I (yI I (yG I (yI I (yG I (yG I (pU I (wT I I) (yM I (yG I (yG I (yG I (yH I (SP.off1 I (zb3 I I I dC) dC (yH I (yH I (yH I (yH I (SP.off1 I (zb3 I I I dC) dC (yH I (SP.off1 I (zb3 I I I dC) dC (yH I (yG I (pU I (wT I I) (pN ?_)))))))))))))))))))))));exact za9 (by exact zd8 (fun b=>some (Value.bool b)) (nn h75).symm) mI
     ·intro h75;refine zb2 I (gT I I I dC) (fA ay I zT3 I) dC (SP.gq I (gT I I I dC) (qL iT3 I (cO 0 I I)) dC (zb2 I (gT I I I dC) (fA ay I zT3 I) dC (SP.gq I (gT I I I dC) (qL iT3 I (cO 2 I I)) dC (zb2 I (gT I I I dC) (sU I I oM) dC (zb2 I (gT I I I dC) (nQ I I) dC (pU I (wF I I) (yM I ?_)))))));refine SP.split ?_ ?_
      ·intro h83;refine yG I (yG I (yG I (yH I (SP.off1 I (zb3 I I I dC) dC (yH I (yH I (yH I (yH I (SP.off1 I (zb3 I I I dC) dC (yH I (SP.off1 I (zb3 I I I dC) dC (yH I (yG I (pU I (wT I I) (pN ?_)))))))))))))));exact za9 (by exact zd8 (fun b=>some (Value.bool b)) (su (zg6 h75) h83).symm) mI
      ·intro h83;refine yJ I (zb2 I (gT I I I dC) (SU.gtr I I) dC (yJ I ?_));refine SP.split ?_ ?_
       ·intro h86;refine zb2 I (gT I I I dC) (fA ay I bJ I) dC (SP.gq I (gT I I I dC) (qL cI I (cO 2 I I)) dC (yJ I (zb2 I (gT I I I dC) (sU I I oM) dC (zb2 I (gT I I I dC) (iA bh aH I I (by assumption) oM (by (simp[slen]; omega))) dC ?_))));refine zb2 I (gT I I I dC) (fC dp I zT3 I (by assumption)) dC ?_;refine SP.gq I (gT I I I dC) (aZ (o:=0) iT3 I hcs.rd (hprev h86) I) dC (zb2 I (gT I I I dC) (fA dp I zT3 I) dC (SP.gq I (gT I I I dC) (qL iT3 I (cO 1 I I)) dC (zb2 I (gT I I I dC) (eQ I I) dC (zb2 I (gT I I I dC) (wT I I) dC (pU I (wF I I) (pN ?_))))));exact za9 (by exact zd8 (fun b=>some (Value.bool b)) (sn (zg6 h75) h83 h86 (hprev2 h86)).symm) mI
       ·intro h86;refine yG I (yI I (yG I (yG I (yG I (yG I (yI I (yG I (yI I (yG I (zb2 I (gT I I I dC) (wF I I) dC (pU I (wF I I) (pN ?_))))))))))));exact za9 (by exact zd8 (fun b=>some (Value.bool b)) (sr (zg6 h75) h83 h86).symm) mI
    have hbat:ia tl c k=bL tl c k y:=by unfold ia; rw[hjx']
    refine iQ I (fun hbad=>?_) (fun hbad=>?_)
    ·refine rZ (aT I (rE (bR (tR (tR (bR (tR (dR (s':=s) uR ?_))))))));have hany:(List.range c.sides.length).any (ia tl c)=true:=zj5.2 ⟨k,List.mem_range.2 hkl,by rw[hbat]; exact hbad⟩;exact za7 (.inl I) results54 I ⟨by unfold bV; rw[zf6 (by simp[hdb]),zf6 (by simp[hcb]),zf7 hany],I,I⟩
    ·refine kP (bN (tN (rG (yD I (lM I (nL (dR (s':=pt b3 (.cells #[vi ri,vi c.dim,.slice rp c.sides.length rcap] 56 (0,0))::s) (.cons _ (.cons _ (.refl _))) ?_)))))));exact ST.again (k+1) sB I I ⟨oM,by rw[List.range_succ,List.any_append,hno]; simp[hbat,hbad]⟩ oM
   ·refine xI (tX (tX (bX (tN (rZ (aT I (sQ (rZ (lU (fA ay I bJ I) (lK (qL cI I (cO 0 I I)) (lU (eN bh I) (lM I (tZ (bK ?_))))))))))))));have hkk:k=c.sides.length:=oM;subst hkk;refine oP (ι:=Nat) (fun k=>[(3,pp b3 0),(10,vi (mg (c.sides.take k))),(101,.slice rp c.sides.length rcap),(102,vi c.sides.length),(103,vi k)]) (fun _=>g)
     (fun _=>pt b3 (.cells #[vi ri,vi c.dim,.slice rp c.sides.length rcap] 56 (0,0))::s) (fun k=>k≤c.sides.length∧(c.sides.take k).any bB=false) (fun k=>c.sides.length - k) 0
     sB rfl rfl ⟨zf3 _,by simp⟩ ?_
    rintro k ⟨hk2,hns⟩;try dsimp only
    have hsb:=wK hns;have htl:(c.sides.take k).length=k:=by simp; omega
    refine rZ (yL I (tZ (sQ ?_)));refine iP I (fun hlt2=>?_) (fun hlt2=>?_)
    ·have hkl:k<c.sides.length:=oM;have hb1:=hx0 oM;have hjx:c.sides[((k:Nat):Int).toNat]?=some c.sides[k]:=List.getElem?_eq_getElem hkl;have htk:c.sides.take (k+1)=c.sides.take k++[c.sides[k]]:=tS hkl;have hmemy:c.sides[k]∈c.sides:=gM hkl;generalize c.sides[k]=y at *;refine kP (tN (sQ (bK (rZ (lU (iA bh aH I I hb1 oM sL) (lK (SQ.elemA fj aH I hcs.rd hjx) (bW (aL zl2) fun b12=>?_)))))));refine oZ (sK 0 aH I I I I I sB) ?_;refine tZ (sQ ?_);refine SC.cutB 114 (bB y) ?_ ?_
     ·refine rG (lU (fA dp I zT3 I) (lK (qL iT3 I (cO 0 I I)) (lU (nQ I I) (lM I ?_))));refine sP ?_ ?_
      ·intro h110;refine lY I I I (fA dp I zT3 I) (SL.gq (gT I I I dC) (qL iT3 I (cO 0 I I)) dC (lY I I I (nQ I I) (yP I (nL ?_))));exact za9 (by exact zd8 (fun b=>some (Value.bool b)) (rD h110).symm) mI
      ·intro h110;refine yA I (yA I (yA I (yF I (nL ?_))));exact za9 (by exact zd8 (fun b=>some (Value.bool b)) (rC h110).symm) mI
     refine iQ I (fun hsg=>?_) (fun hsg=>?_)
     ·refine rZ (aT I (rE (tR (bR (tR (tR (bR (tR (dR (s':=s) uR ?_)))))))));have hany:c.sides.any bB=true:=zj5.2 ⟨y,hmemy,hsg⟩;exact za7 (.inl I) results54 I ⟨by unfold bV; rw[zf6 (by simp[hdb]),zf6 (by simp[hcb]),zf6 (by simp[hno]),zf7 hany],I,I⟩
     ·have hyb:y.sign=1∨y.sign = -1:=by
       simp only[bB,Bool.and_eq_false_iff,decide_eq_false_iff_not,ne_eq,Decidable.not_not] at hsg;exact hsg
      refine kP (tN (rG (lM I (lU (fA dp I zT3 I) (lK (qL iT3 I (cO 0 I I)) (lU (aD (m:=mg (c.sides.take k)) (n:=y.sign) I I oM) (lA I (nL (bN (tN (rG (yD I (lM I (nL (dR (s':=pt b3 (.cells #[vi ri,vi c.dim,.slice rp c.sides.length rcap] 56 (0,0))::s) (.cons _ (.refl _)) ?_)))))))))))))));exact ST.again (k+1) ⟨I,Eu I (by rw[htk]; simp[mg]),I,I,I,trivial⟩ I I ⟨oM,by rw[htk,List.any_append,hns]; simp[hsg]⟩ oM
    ·have hkk:c.sides.take k=c.sides:=tL oM;rw[hkk] at hns;rw[hkk];refine xI (tX (tX (bX (tN (sQ ?_)))));refine SC.cutB 126 ((decide (c.dim=1)&&decide (mg c.sides≠0))) ?_ ?_
     ·refine rG (lU (fA ay I zT3 I) (lK (qL iT3 I (cO 0 I I)) (yE I (lM I ?_))));refine sP ?_ ?_
      ·intro h123;refine yC I (lY I I I (nQ I I) (yP I (nL ?_)));exact za9 (by simp_all[aN]) mI
      ·intro h123;refine yA I (yA I (yF I (nL ?_)));exact za9 (by simp_all[aN]) mI
     refine iQ I (fun hend=>?_) (fun hend=>?_)
     ·refine rZ (aT I (rE (tR (dR (s':=s) uR ?_))));exact za7 (.inl I) results54 I ⟨by unfold bV; rw[zf6 (by simp[hdb]),zf6 (by simp[hcb]),zf6 (by simp[hno]),zf6 (by simp[hns]),zf7 hend],I,I⟩
     ·refine kP (tN (rZ (aT I (rE (dR (s':=s) uR ?_)))));exact za7 (.inl I) results54 I ⟨by unfold bV; rw[zf6 (by simp[hdb]),zf6 (by simp[hcb]),zf6 (by simp[hno]),zf6 (by simp[hns]),zf6 (by rw[hend]; simp)],I,I⟩
theorem Tryz.mty167:MTy Tryz.prog 167 3 3 (vi 0):=⟨underlying167,underlying3,zl5⟩
theorem Tryz.mty168:MTy Tryz.prog 168 3 52 (.slice none 0 0):=⟨underlying168,underlying3,zeroValue52⟩
abbrev Ms:=List (Int×Value×List Int)
def eX (ms:Ms):Own:=ms.map fun t=>rowA encInt 3 t.2.1 t.2.2
def iJ (ms:Ms):List (Int×Value):=ms.map fun t=>(t.1,t.2.1)
def fI (ms:Ms):List (Int×List Int):=ms.map fun t=>(t.1,t.2.2)
def fk:List (Int×List Int)→Int→Int→List (Int×List Int)
 | [],k,x=>[(k,[x])]
 | (a,l)::r,k,x=>if k=a then (a,l++[x])::r else (a,l)::fk r k x
def eH:List (Int×Int)→Int→Int→List (Int×Int)
 | [],k,x=>[(k,x)]
 | (a,z)::r,k,x=>if k=a then (a,z+x)::r else (a,z)::eH r k x
def dM:List (Int×Int)→Int→Int
 | [],_=>0
 | (a,z)::r,k=>if k=a then z else dM r k
def e6 (zl:List (Int×Int)):List (Int×Value):=zl.map fun p=>(p.1,vi p.2)
theorem ko (zl:List (Int×Int))(k:Int):(dB (e6 zl) k).getD (vi 0)=vi (dM zl k):=by
 induction zl with
 | nil=>rfl
 | cons p r ih =>
  obtain ⟨a,z⟩:=p;simp only[e6,zg1,cd,dM] at ih ⊢;split
  ·rfl
  ·exact ih
theorem qC (zl:List (Int×Int))(k x:Int):fe (e6 zl) k (vi (dM zl k+x))=e6 (eH zl k x):=by
 induction zl with
 | nil=>simp[e6,fe,eH,dM]
 | cons p r ih =>
  obtain ⟨a,z⟩:=p;simp only[e6,zg1,fe,dM,eH] at ih ⊢;split
  ·rename_i h; subst h; rfl
  ·simp only[zg1,ih]
theorem lD {zl:List (Int×Int)}{B:Int}(hB:0≤B)(h:∀ p∈zl,-B≤p.2∧p.2≤B)(k:Int) : -B≤dM zl k∧dM zl k≤B:=by
 induction zl with
 | nil=>simp only[dM]; omega
 | cons p r ih =>
  obtain ⟨a,z⟩:=p;simp only[dM];split
  ·exact h (a,z) (by simp)
  ·exact ih fun q hq=>h q (by simp[hq])
theorem lJ {zl:List (Int×Int)}{B:Int}(hB:0≤B)(h:∀ p∈zl,-B≤p.2∧p.2≤B)(k:Int){x:Int}(hx : -1≤x∧x≤1):∀ p∈eH zl k x,-(B+1)≤p.2∧p.2≤B+1:=by
 induction zl with
 | nil =>
  intro p hp;simp only[eH,zh4] at hp;subst hp;dsimp only;omega
 | cons q r ih =>
  obtain ⟨a,z⟩:=q;intro p hp;simp only[eH] at hp;have h0:=h (a,z) (by simp);dsimp only at h0;split at hp
  ·rcases ze7.1 hp with rfl | hp
   ·dsimp only; omega
   ·have:=h p (by simp[hp]); omega
  ·rcases ze7.1 hp with rfl | hp
   ·dsimp only; omega
   ·exact ih (fun q hq=>h q (by simp[hq])) p hp
theorem EK (ms:Ms)(k:Int):∃ (ms':Ms) (j:Nat) (v:Value) (l:List Int),ms'[j]?=some (k,v,l)∧(dB (iJ ms) k).getD (.slice none 0 0)=v∧(∀ v' x,fe (iJ ms) k v'=iJ (ms'.set j (k,v',l++[x]))) ∧
  (∀ v' x,fI (ms'.set j (k,v',l++[x]))=fk (fI ms) k x)∧(∀ B,(∀ t∈ms,t.2.2.length≤B)→∀ t∈ms',t.2.2.length≤B)∧∀ E g (hd s:Own) w,At E g (hd++(eX ms++s)) w→At E g (hd++(eX ms'++s)) w:=by
 induction ms with
 | nil =>
  refine⟨[(k,.slice none 0 0,[])],0,.slice none 0 0,[],I,I,fun v' x=>I,fun v' x=>by simp[fI,fk],fun B _ t ht=>by simp at ht; subst ht; simp,fun E g hd s w h=>?_⟩;have h1:=h.nilRow 3 1;refine h1.perm ?_;simp only[eX,List.map_nil,List.nil_append,zg1,List.singleton_append];exact List.perm_middle.symm
 | cons p r ih =>
  obtain ⟨a,u,l0⟩:=p;by_cases hk:k=a
  ·subst hk;refine⟨(k,u,l0)::r,0,u,l0,I,by simp[iJ,cd],fun v' x=>by simp[iJ,fe],fun v' x=>by simp[fI,fk],fun B h=>h,fun E g hd s w h=>h⟩
  ·obtain ⟨ms',j,v,l,h1,h2,h3,h4,h6,h5⟩:=ih;refine⟨(a,u,l0)::ms',j+1,v,l,by simpa using h1,?_,fun v' x=>?_,fun v' x=>?_,fun B h t ht=>?_,fun E g hd s w h=>?_⟩
   ·rw[← h2];simp[iJ,cd,hk]
   ·have:=h3 v' x;simp only[iJ,zg1,fe,List.set_cons_succ] at this ⊢;rw[zf6 hk,this]
   ·have:=h4 v' x;simp only[fI,zg1,fk,List.set_cons_succ] at this ⊢;rw[zf6 hk,this]
   ·rcases ze7.1 ht with rfl | ht
    ·exact h _ (by simp)
    ·exact h6 B (fun t ht=>h t (by simp[ht])) t ht
   ·have:=h5 E g (hd++[rowA encInt 3 u l0]) s w (by simpa [eX] using h);simpa [eX] using this
theorem SC.to {P:Program}{N:Nat}{E:World}{c:Code}{Q:Exit→Act→World→Prop}{f:Fr}{g g':PH}{s s':Own}(h:∀ w,At E g s w→At E g' s' w)(hc:SC P N E c Q f g' s'):SC P N E c Q f g s:=fun a w ha hw=>hc a w ha (h w hw)
theorem ST.to {N:Nat}{E:World}{e:Exit}{Q:Exit→Act→World→Prop}{f:Fr}{g g':PH}{s s':Own}(h:∀ w,At E g s w→At E g' s' w)(hc:ST N E Q e f g' s'):ST N E Q e f g s:=fun a w ha hw=>hc a w ha (h w hw)
theorem SL.to {P:Program}{N:Nat}{E:World}{ops:Array Oper}{l:List Oper}{Q:Exit→Act→World→Prop}{f:Fr}{g g':PH}{s s':Own}(h:∀ w,At E g s w→At E g' s' w)(hc:SL P N E ops Q l f g' s'):SL P N E ops Q l f g s:=fun a w ha hw=>hc a w ha (h w hw)
theorem je {α:Type}(s:List α)(n j:Nat)(x:α):(s.take n).Sublist (s.set (j+n) x):=by
 rw[show s.take n=(s.set (j+n) x).take n by rw[List.take_set_of_le oM]];exact List.take_sublist _ _
theorem SC.drawT {P:Program}{N:Nat}{E:World}{ops:Array Oper}{Q:Exit→Act→World→Prop}{f:Fr}{g:PH}{s:Own}{id:Nat}(n:Nat)(tail:List Nat)(plan:List (Nat×Nat))(hm:P.follows .mixedOrders=true)(hok:tH ops tail plan=true)
  (h:SP P N E ops Q g (s.take n) tail plan f g s):SC P N E (.region id ops true) Q f g s:=by
 intro a w ha hw;unfold tH at hok;simp only[zi9,beq_iff_eq] at hok;refine wp_region_any hm (gH _ _ _ _ (S:=At E g (s.take n)) (tail:=tail) ?_);have:=h (Array.replicate ops.size false) a { w with drawn:=w.drawn+1 } hok.1.1 (ik _) hok.2 ha (hw.drew _ (Nat.le_succ _)) (fun _=>(hw.sublist (List.take_sublist n s)).drew _ (Nat.le_succ _));rw[hok.1.2] at this;exact this
theorem qk {ms:Ms}{j:Nat}{k:Int}{v:Value}{l:List Int}(h:ms[j]?=some (k,v,l))(s:Own):(eX ms++s)[j]?=some (rowA encInt 3 v l):=by
 have hj:=(zf2.1 h).1;rw[zg8 (by simpa [eX] using hj)];simp[eX,h]
theorem qj {ms:Ms}{j:Nat}{k:Int}{v v':Value}{l l':List Int}(h:ms[j]?=some (k,v,l))(s:Own):(eX ms++s).set j (rowA encInt 3 v' l')=eX (ms.set j (k,v',l'))++s:=by
 have hj:=(zf2.1 h).1;rw[List.set_append_left _ _ (by simpa [eX] using hj)];simp[eX,List.map_set]
theorem freezeRows {E:World}{w:World}:∀ (ms:Ms) (g:PH) (s:Own),At E g (eX ms++s) w→∃ g',Le g g'∧At E g' s w∧∀ t∈ms,de g' t.2.1 t.2.2
 | [],g,s,h=>⟨g,zb8 g,h,by simp⟩
 | (a,v,l)::r,g,s,h=>by
  have h':At E g (row 3 1 v l.length (l.flatMap encInt.enc)::(eX r++s)) w:=h;obtain ⟨g1,hl1,h1,h2⟩:=h'.freezeRow;obtain ⟨g2,hl2,h3,h4⟩:=freezeRows r g1 s h1;refine⟨g2,hl1.trans hl2,h3,fun t ht=>?_⟩
  rcases ze7.1 ht with rfl | ht
  ·exact Sl.mono h2 hl2
  ·exact h4 t ht
theorem SC.freezeRows {P:Program}{N:Nat}{E:World}{c:Code}{Q:Exit→Act→World→Prop}{f:Fr}{g:PH}{s:Own}{ms:Ms}(h:∀ g',Le g g'→(∀ t∈ms,de g' t.2.1 t.2.2)→SC P N E c Q f g' s):SC P N E c Q f g (eX ms++s):=fun a w ha hw=>by
 obtain ⟨g',h1,h2,h3⟩:=Go.Proofs.YtbbppeihhkhkcaaGreatDoor.freezeRows ms g s hw;exact h g' h1 h3 a w ha h2
def dfs (adj:Int→Option (List Int)):Nat→Int→List Int→List Int
 | 0,_,vis=>vis
 | n+1,id,vis =>
  match adj id with
  | none=>vis
  | some l=>if vis.contains id then vis else l.foldl (fun v x=>dfs adj n x v) (vis++[id])
theorem ja (adj:Int→Option (List Int))(n:Nat)(id:Int)(vis:List Int):dfs adj (n+1) id vis=(match adj id with
  | none=>vis
  | some l=>if vis.contains id then vis else l.foldl (fun v x=>dfs adj n x v) (vis++[id])):=rfl
theorem p8 (adj:Int→Option (List Int)):∀ (n:Nat) (id:Int) (vis:List Int) (x:Int),x∈vis→x∈dfs adj n id vis
 | 0,_,_,_,h=>h
 | n+1,id,vis,x,h=>by
  unfold dfs;split
  ·exact h
  ·split
   ·exact h
   ·have:∀ (l:List Int) (v:List Int),x∈v→x∈l.foldl (fun v y=>dfs adj n y v) v:=by
     intro l;induction l with
     | nil=>intro v hv; exact hv
     | cons y t ih=>intro v hv; exact ih _ (p8 adj n y v x hv)
    exact this _ _ (by simp[h])
def ew:List (Int×List Int)→Int→List Int
 | [],_=>[]
 | (a,l)::r,k=>if k=a then l else ew r k
def A4 (jl:List (Int×List Int))(k:Int):Bool:=jl.any fun p=>decide (p.1=k)
theorem rX {jl:List (Int×List Int)}{k:Int}(h:A4 jl k=false):ew jl k=[]:=by
 induction jl with
 | nil=>rfl
 | cons p r ih =>
  obtain ⟨a,l⟩:=p;simp only[A4,List.any_cons,Bool.or_eq_false_iff,decide_eq_false_iff_not] at h;simp only[ew];rw[zf6 (fun e=>h.1 e.symm)];exact ih h.2
def mG (jl:List (Int×List Int))(vis:List Int):Nat:=(jl.filter fun p=>!vis.contains p.1).length
theorem iW {tl:List (Int×List Int)}{v v':List Int}(h:∀ x∈v,x∈v'):mG tl v'≤mG tl v:=by
 unfold mG;rw[← List.countP_eq_length_filter,← List.countP_eq_length_filter];apply List.countP_mono_left;intro c _ hp;simp at hp ⊢;exact fun e=>hp (h _ e)
theorem zg {tl:List (Int×List Int)}{v:List Int}{k:Int}(hc:A4 tl k=true)(hn:v.contains k=false):mG tl (v++[k])<mG tl v:=by
 induction tl with
 | nil=>simp[A4] at hc
 | cons d t ih =>
  have hm:mG t (v++[k])≤mG t v:=iW (fun x hx=>by simp[hx]);have e1:∀ u:List Int,mG (d::t) u=(if u.contains d.1 then 0 else 1)+mG t u:=fun u=>by
   unfold mG;rw[zi4];cases u.contains d.1 <;> simp <;> omega
  rw[e1,e1];simp only[A4,List.any_cons,zj1,zj2] at hc
  rcases hc with rfl | hc'
  ·have:(v++[d.1]).contains d.1=true:=by simp
   rw[this,hn];simp;omega
  ·have:=ih hc';cases h1:v.contains d.1
   ·cases h2:(v++[k]).contains d.1 <;> simp <;> omega
   ·have h2:(v++[k]).contains d.1=true:=by simp at h1 ⊢; exact .inl h1
    rw[h2];simp;exact this
theorem Af {g:PH}(js:Ms)(h:∀ t∈js,de g t.2.1 t.2.2)(k:Int):∃ v,(dB (iJ js) k).getD (.slice none 0 0)=v∧de g v (ew (fI js) k):=by
 induction js with
 | nil=>exact⟨_,rfl,zb9 g _⟩
 | cons p r ih =>
  obtain ⟨a,u,l⟩:=p;by_cases hk:k=a
  ·subst hk;exact⟨u,by simp[iJ,cd],by simpa [fI,ew] using h (k,u,l) (by simp)⟩
  ·obtain ⟨v,h1,h2⟩:=ih fun t ht=>h t (by simp[ht]);exact⟨v,by simpa [iJ,cd,hk] using h1,by simpa [fI,ew,hk] using h2⟩
def jd (jl:List (Int×List Int))(i:Int):Option (List Int):=some (ew jl i)
theorem wC (E:World)(g:PH)(bs bj bf m mj:Nat)(js:Ms)(hj:Mp g mj (iJ js))(hjs:∀ t∈js,de g t.2.1 t.2.2)(hlen:∀ t∈js,t.2.2.length<1099511627776)(h1:g bs=some (.cells #[.map (some m)] 143 (0,0)))(h2:g bj=some (.cells #[.map (some mj)] 168 (0,0)))
  (h3:g bf=some (.cells #[.func (.func 121) #[] #[pp bs 0,pp bj 0,pp bf 0]] 169 (0,0))):∀ (n:Nat) (id:Int) (vis:List Int) (s:Own) (i:Nat),mG (fI js) vis<n→s[i]?=some (mp m (fX vis)) →
  Ctr Tryz.prog E 121 #[vi id,pp bs 0,pp bj 0,pp bf 0] g s (fun _ g' s'=>g=g'∧s'=s.set i (mp m (fX (dfs (jd (fI js)) n id vis)))):=by
 intro n;induction n with
 | zero=>intro id vis s i h; omega
 | succ n ih =>
 intro id vis s i hcnt hi;obtain ⟨v,hv1,hv2⟩:=Af js hjs id;have hvl:(ew (fI js) id).length<1099511627776:=by
  have:∀ q:Ms,(∀ t∈q,t.2.2.length<1099511627776)→(ew (fI q) id).length<1099511627776:=by
   intro q hq;induction q with
   | nil=>simp[fI,ew]
   | cons p r ihq =>
    obtain ⟨a,u,l⟩:=p;simp only[fI,zg1,ew];split
    ·exact hq (a,u,l) (by simp)
    ·exact ihq fun t ht=>hq t (by simp[ht])
  exact this js hlen
 generalize hL:ew (fI js) id=L at hv2 hvl;obtain ⟨p,cp,rfl⟩:=za3 hv2;refine zb1 (args:=[vi id,pp bs 0,pp bj 0,pp bf 0]) func121 I ntmps121 (bE I) ?_;refine rZ (lK (qL isAgg143 I (cK h1 I)) (lM I (lK (SQ.eq (v':=vb (vis.contains id)) (SQ.lookup mty143 I I (a8.own i hi)) ((vA vis).get id)) (lU (SU.not I) (tZ ?_)))));refine iQ I (fun hc=>?_) (fun hc=>?_)
 ·have hnv:vis.contains id=false:=by simpa using hc
  refine rZ (lK (qL isAgg143 I (cK h1 I)) (lM I (lO (SO.mapUpdate i mty143 I I I hi) ?_)));rintro _ _ _ ⟨rfl,rfl⟩;rw[qi hnv];refine tZ (rZ (lK (qL isAgg168 I (cK h2 I)) (lM I (lK (SQ.eq (SQ.lookup mty168 I I (a8.known hj)) hv1) (lU (eN aG I) (lM I (tZ (bK ?_))))))));refine oP (ι:=Nat×List Int) (fun q=>[(3,pp bf 0),(15,.slice p L.length cp),(16,vi L.length),(17,vi q.1)]) (fun _=>g)
   (fun q=>s.set i (mp m (fX q.2))) (fun q=>q.1≤L.length∧q.2=(L.take q.1).foldl (fun v x=>dfs (jd (fI js)) n x v) (vis++[id])∧(0<L.length→mG (fI js) q.2<n)) (fun q=>L.length - q.1)
   (0,vis++[id]) sB rfl rfl ⟨zf3 _,by simp,fun hpos=>?_⟩ ?_
  ·cases hh:A4 (fI js) id with
   | false =>
    rw[rX hh] at hL;rw[← hL] at hpos;simp at hpos
   | true =>
    have:=zg hh hnv;dsimp only;omega
  rintro ⟨j,vj⟩ ⟨hj1,hvj,hcj⟩;dsimp only at hj1 hvj hcj ⊢;refine rZ (yL I (tZ (sQ ?_)));refine iP I (fun hlt=>?_) (fun hlt=>?_)
  ·have hjl:j<L.length:=oM;have hb1:=za5 hv2 oM;have hjx:L[((j:Nat):Int).toNat]?=some L[j]:=List.getElem?_eq_getElem hjl;have hjx':L[j]?=some L[j]:=List.getElem?_eq_getElem hjl;generalize L[j]=y at *;refine kP (tN (sQ (bK (rZ (lU (iA aG zT3 I I hb1 oM sL) (lK (eB iT3 I (za6 hv2) hjx I) (aT I (rG (lK (qL isAgg169 I (cK h3 I)) (lM I (lW (SO.callV I I (bM.mk (cap:=[pp bs 0,pp bj 0,pp bf 0]) call121 (ih y vj _ i (hcj oM) (y8 hi _)))) ?_)))))))))));rintro _ _ _ ⟨rfl,rfl⟩;refine nL (bN (tN (rG (yD I (lM I (nL ?_))))));exact ST.again (j+1,dfs (jd (fI js)) n y vj) sB I (by rw[List.set_set]) ⟨lN,by
    rw[e8 hjx',zi6,← hvj]; rfl,fun h=>Nat.lt_of_le_of_lt (iW fun x hx=>p8 _ n _ _ x hx) (hcj h)⟩ lN
  ·refine xI (tX (tX (bX ?_)));have hjj:L.take j=L:=tL oM;have hr:dfs (jd (fI js)) (n+1) id vis=vj:=by
    rw[hjj] at hvj;rw[hvj,ja];simp only[jd,hL,hnv,Bool.false_eq_true,if_false]
   exact ST.ret0 (.inr I) results121 ⟨I,by rw[hr]⟩
 ·refine kP ?_;have hin:vis.contains id=true:=by simpa using hc
  have hr:dfs (jd (fI js)) (n+1) id vis=vis:=by
   rw[ja];simp only[jd,hin,if_true]
  exact ST.ret0 (.inr I) results121 ⟨I,by rw[hr,mw hi]⟩
inductive Rch (adj:Int→Option (List Int)):Int→Int→Prop
 | refl (a:Int) (h:adj a≠none):Rch adj a a
 | step (a b c:Int) (l:List Int) (h:adj a=some l) (hb:b∈l) (r:Rch adj b c):Rch adj a c
theorem Rch.node {adj:Int→Option (List Int)}{a b:Int}(h:Rch adj a b):adj a≠none:=by
 cases h with
 | refl _ h=>exact h
 | step _ _ _ l h _ _=>rw[h]; simp
theorem ni (adj:Int→Option (List Int)):∀ (n:Nat) (id:Int) (vis:List Int) (x:Int),x∈dfs adj n id vis→x∈vis∨Rch adj id x
 | 0,_,_,_,h=>.inl h
 | n+1,id,vis,x,h=>by
  rw[ja] at h;cases ha:adj id with
  | none=>rw[ha] at h; exact .inl h
  | some l =>
   rw[ha] at h;dsimp only at h;split at h
   ·exact .inl h
   ·have key:∀ (q:List Int) (v:List Int),(∀ y∈q,y∈l)→x∈q.foldl (fun v y=>dfs adj n y v) v→x∈v∨Rch adj id x:=by
     intro q;induction q with
     | nil=>intro v _ hx; exact .inl hx
     | cons y t ih =>
      intro v hq hx
      rcases ih _ (fun z hz=>hq z (by simp[hz])) hx with h1 | h1
      ·rcases ni adj n y v x h1 with h2 | h2
       ·exact .inl h2
       ·exact .inr (.step id y x l ha (hq y (by simp)) h2)
      ·exact .inr h1
    rcases key l _ (fun y hy=>hy) h with h1 | h1
    ·rcases ze9.1 h1 with h2 | h2
     ·exact .inl h2
     ·simp at h2;subst h2;exact .inr (.refl _ (by rw[ha]; simp))
    ·exact .inr h1
theorem iV (adj:Int→Option (List Int)):∀ (n:Nat) (id:Int) (vis:List Int),vis.Nodup→(dfs adj n id vis).Nodup
 | 0,_,_,h=>h
 | n+1,id,vis,h=>by
  rw[ja];cases adj id with
  | none=>exact h
  | some l =>
   dsimp only;split
   ·exact h
   ·rename_i hc;have key:∀ (q:List Int) (v:List Int),v.Nodup→(q.foldl (fun v y=>dfs adj n y v) v).Nodup:=by
     intro q;induction q with
     | nil=>intro v hv; exact hv
     | cons y t ih=>intro v hv; exact ih _ (iV adj n y v hv)
    refine key l _ ?_;rw[List.nodup_append];refine⟨h,by simp,fun a ha b hb e=>hc ?_⟩;simp at hb;subst hb;simpa [← e] using ha
theorem jo (adj:Int→Option (List Int))(cnt:List Int→Nat)(hm:∀ v v',(∀ x∈v,x∈v')→cnt v'≤cnt v)(hs:∀ v k l,adj k=some l→l≠[]→v.contains k=false→cnt (v++[k])<cnt v) :
  ∀ (n:Nat) (id:Int) (vis:List Int),cnt vis<n→(adj id≠none→id∈dfs adj n id vis)∧∀ x∈dfs adj n id vis,x ∉ vis→∀ l,adj x=some l→∀ y∈l,adj y≠none→y∈dfs adj n id vis
 | 0,_,_,h=>absurd h oM
 | n+1,id,vis,hc=>by
  rw[ja];cases ha:adj id with
  | none=>exact⟨fun h=>absurd rfl h,fun x hx hn=>absurd hx hn⟩
  | some l =>
   dsimp only;split
   ·rename_i hin;exact⟨fun _=>by simpa using hin,fun x hx hn=>absurd hx hn⟩
   ·rename_i hin;have hin':vis.contains id=false:=by simpa using hin
    have key:∀ (q:List Int) (v:List Int),(∀ x∈vis++[id],x∈v)→(∀ x∈v,x ∉ vis++[id]→∀ l,adj x=some l→∀ y∈l,adj y≠none→y∈v)→(q≠[]→cnt v<n) →
      (∀ x∈v,x∈q.foldl (fun v y=>dfs adj n y v) v)∧(∀ y∈q,adj y≠none→y∈q.foldl (fun v y=>dfs adj n y v) v) ∧
      ∀ x∈q.foldl (fun v y=>dfs adj n y v) v,x ∉ vis++[id]→∀ l,adj x=some l→∀ y∈l,adj y≠none→y∈q.foldl (fun v y=>dfs adj n y v) v:=by
     intro q;induction q with
     | nil=>intro v _ h2 _; exact⟨fun x hx=>hx,by simp,h2⟩
     | cons y t ih =>
      intro v h1 h2 h3;have hcv:=h3 (by simp);obtain ⟨d1,d2⟩:=jo adj cnt hm hs n y v hcv;have hsub:=p8 adj n y v;have hcl:∀ x∈dfs adj n y v,x ∉ vis++[id]→∀ l,adj x=some l→∀ z∈l,adj z≠none→z∈dfs adj n y v:=by
       intro x hx hn l hl z hz hzn;by_cases hxv:x∈v
       ·exact hsub z (h2 x hxv hn l hl z hz hzn)
       ·exact d2 x hx hxv l hl z hz hzn
      obtain ⟨e1,e2,e3⟩:=ih (dfs adj n y v) (fun x hx=>hsub x (h1 x hx)) hcl (fun _=>Nat.lt_of_le_of_lt (hm _ _ hsub) hcv);simp only[zi5];refine⟨fun x hx=>e1 x (hsub x hx),fun z hz hzn=>?_,e3⟩
      rcases ze7.1 hz with rfl | hz
      ·exact e1 z (d1 hzn)
      ·exact e2 z hz hzn
    obtain ⟨k1,k2,k3⟩:=key l (vis++[id]) (fun x hx=>hx) (fun x hx hn=>absurd hx hn) (fun hl=>by have:=hs vis id l ha hl hin'; omega);refine⟨fun _=>k1 id (by simp),fun x hx hn l' hl' y hy hyn=>?_⟩;by_cases hxv:x∈vis++[id]
    ·rcases ze9.1 hxv with h | h
     ·exact absurd h hn
     ·simp at h;subst h;rw[ha] at hl';injection hl' with hl'
      subst hl';exact k2 y hy hyn
    ·exact k3 x hx hxv l' hl' y hy hyn
theorem tr {adj:Int→Option (List Int)}{cnt:List Int→Nat}(hm:∀ v v',(∀ x∈v,x∈v')→cnt v'≤cnt v)(hs:∀ v k l,adj k=some l→l≠[]→v.contains k=false→cnt (v++[k])<cnt v){n:Nat}{id:Int}(hc:cnt []<n)(hn:adj id≠none)(x:Int) :
  x∈dfs adj n id []↔Rch adj id x:=by
 obtain ⟨d1,d2⟩:=jo adj cnt hm hs n id [] hc;refine⟨fun h=>(ni adj n id [] x h).resolve_left (by simp),fun h=>?_⟩;have key:∀ a b,Rch adj a b→a∈dfs adj n id []→b∈dfs adj n id []:=by
  intro a b hr;induction hr with
  | refl a _=>exact fun h=>h
  | step a b c l hl hb r ih=>exact fun h=>ih (d2 a h (by simp) l hl b hb r.node)
 exact key id x h (d1 hn)
theorem Rch.mono {adj adj':Int→Option (List Int)}(h:∀ x l,adj x=some l→∀ y∈l,∃ l',adj' x=some l'∧y∈l')(hn:∀ x,adj x≠none→adj' x≠none){a b:Int}(hr:Rch adj a b):Rch adj' a b:=by
 induction hr with
 | refl a h1=>exact .refl a (hn a h1)
 | step a b c l hl hb _ ih =>
  obtain ⟨l',h1,h2⟩:=h a l hl b hb;exact .step a b c l' h1 h2 ih
theorem j5 (jl:List (Int×List Int)):∀ v k l,jd jl k=some l→l≠[]→v.contains k=false→mG jl (v++[k])<mG jl v:=by
 intro v k l hl hne hv;refine zg ?_ hv;cases h:A4 jl k with
 | true=>rfl
 | false =>
  rw[jd,rX h] at hl;injection hl with hl
  exact absurd hl.symm hne
theorem rY (jl:List (Int×List Int))(a b x:Int):ew (fk jl a b) x=if x=a then ew jl x++[b] else ew jl x:=by
 induction jl with
 | nil=>simp[fk,ew]
 | cons p r ih =>
  obtain ⟨k,l⟩:=p;simp only[fk];by_cases h:a=k
  ·subst h;simp only[if_true,ew];split <;> rfl
  ·rw[zf6 h];simp only[ew,ih];by_cases hx:x=k
   ·subst hx;rw[zf7 rfl,zf7 rfl,zf6 (fun e=>h e.symm)]
   ·rw[zf6 hx,zf6 hx]
end Go.Proofs.YtbbppeihhkhkcaaGreatDoor
