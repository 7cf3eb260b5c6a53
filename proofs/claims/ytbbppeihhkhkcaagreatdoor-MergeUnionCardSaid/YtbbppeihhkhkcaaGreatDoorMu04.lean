/- 4 -/
import Derived.Test.YtbbppeihhkhkcaaGreatDoorMu03
import Derived.Test.YtbbppeihhkhkcaaGreatDoorMu02
import Derived.Shelf.Sort.Plain
import Derived.Shelf.Slices.In.SortNone
import Derived.Sort.OwnSortedInts
set_option linter.unusedSimpArgs false
set_option linter.unusedVariables false
namespace Go.Sy
open Go
def mns (g' g:PH):PH:=fun b=>match g b with | none=>g' b | some _=>none
theorem qx {g' g:PH}{b:Nat}(h:g b=none):mns g' g b=g' b:=by simp only[mns,h]
theorem qw {g' g:PH}{b:Nat}{o:Obj}(h:mns g' g b=some o):g b=none∧g' b=some o:=by
 unfold mns at h;split at h
 ·rename_i e; exact⟨e,h⟩
 ·cases h
theorem dT (g' g:PH):Le (mns g' g) g':=fun _ _ h=>(qw h).2
theorem ge {g g' g'':PH}(h:Le g' g''):Le (mns g' g) (mns g'' g):=fun b o hb=>by
 obtain ⟨h1,h2⟩:=qw hb;rw[qx h1]; exact h _ _ h2
theorem ig {g0 g g':PH}(h:Le g0 g):Le (mns g' g) (mns g' g0):=fun b o hb=>by
 obtain ⟨h1,h2⟩:=qw hb;have:g0 b=none:=by
  cases h3:g0 b with
  | none=>rfl
  | some x=>rw[h _ _ h3] at h1; cases h1
 rw[qx this]; exact h2
section
variable {α:Type}{k:Nat}{e:Enc α k}{T U:TypeId}{g g':PH}{s:Own}{v:Value}{l:List α}
def RK (e:Enc α k)(T:TypeId)(g:PH)(v:Value)(l:List α):Prop:=(∃ p,v = .slice p 0 0∧l=[]) ∨
 ∃ b cap cur,v = .slice (some ⟨b,0,none⟩) l.length (cap+1)∧g b=some (.cells cur T (0,0))∧l.length≤cap+1∧cur.size=(cap+1) * k∧cur.toList.take (l.length * k)=l.flatMap e.enc
theorem RK.mono (h:RK e T g v l)(hl:Le g g'):RK e T g' v l:=by
 rcases h with h | ⟨b,cap,cur,h1,h2,h3⟩
 ·exact .inl h
 ·exact .inr ⟨b,cap,cur,h1,hl _ _ h2,h3⟩
theorem RK.sl (h:RK e T g v l):SlA e g v l:=by
 rcases h with ⟨p,rfl,rfl⟩ | ⟨b,cap,cur,rfl,h2,h3,h4,h5⟩
 ·exact⟨p,0,I,⟨by simp,Nat.le_refl _⟩,fun h=>absurd I h⟩
 ·refine⟨_,_,I,⟨e.length l,h3⟩,fun _=>⟨b,0,cur,T,(0,0),I,h2,fun j x hj=>?_⟩⟩;rw[← h5,zh8] at hj;split at hj
  ·simpa using hj
  ·cases hj
theorem RK.form (h:RK e T g v l):∃ p c,v = .slice p l.length c:=h.sl.form
theorem RK.nil (e:Enc α k)(T:TypeId)(g:PH):RK e T g (.slice none 0 0) []:=.inl ⟨none,rfl,rfl⟩
theorem At.freezeRowK {E:World}{w:World}(h:At E g (rowA e T v l::s) w):∃ g',Le g g'∧At E g' s w∧RK e T (mns g' g) v l:=by
 obtain ⟨hlen,h1⟩:=fM (i:=0) h rfl
 rcases h1 with ⟨p,rfl,h0⟩ | ⟨b,cap,cur,rfl,hb,hle,_,hsz,htake⟩
 ·exact⟨g,zb8 g,h.sublist (zi8 _ _),.inl ⟨p,I,zf2 h0⟩⟩
 ·have hf:=h.fresh _ (List.mem_cons_self ..) b rfl;obtain ⟨h2,h3⟩:=h.freeze (b:=b) rfl hb;exact⟨_,h3,h2,.inr ⟨b,cap,cur,I,by rw[qx hf.1]; exact eo _ _ _,hle,hsz,htake⟩⟩
variable {P:Program}{N:Nat}{E:World}{ops:Array Oper}{Q:Exit→Act→World→Prop}{f:Fr}
theorem SL.freezeRowK {o:List Oper}(h:∀ g',Le g g'→RK e T (mns g' g) v l→SL P N E ops Q o f g' s):SL P N E ops Q o f g (rowA e T v l::s):=fun a w ha hw=>by
 obtain ⟨g',h1,h2,h3⟩:=hw.freezeRowK;exact h g' h1 h3 a w ha h2
end
section
variable {P:Program}{N:Nat}{E:World}{f:Fr}{g:PH}{s:Own}{dst:Option Tmp}{ty:TypeId}{pos:String}{af:Array Edge}{gd:Option (Nat×Bool)}
end
section
variable {α:Type}{k:Nat}{e:Enc α k}{T U:TypeId}{g:PH}{v:Value}{l:List α}
end
end Go.Sy
namespace Go.Proofs.YtbbppeihhkhkcaaGreatDoor
open _root_.Go.Proofs.Tryz _root_.Go.Proofs.YtbbppeihhkhkcaaGreatDoor.Tryz
open Go Go.Sy Go.Pl Go.Proofs
set_option maxRecDepth 100000
structure Cl where
 id:Int
 dim:Int
 sides:List ah
 deriving DecidableEq
def ak (g:PH)(c:Cl)(r:Rc):Prop:=r.id=c.id∧r.dim=c.dim∧SlA encSide g (.slice r.sv.p r.sv.n r.sv.c) c.sides
theorem ak.mono {g g':PH}(hl:Le g g'){c:Cl}{r:Rc}(h:ak g c r):ak g' c r:=⟨h.1,h.2.1,h.2.2.mono hl⟩
def aj (g:PH)(v:Value)(l:List Cl):Prop:=∃ rs,SlA encCell g v rs∧az (ak g) l rs
theorem aj.mono {g g':PH}{v:Value}{l:List Cl}(h:aj g v l)(hl:Le g g'):aj g' v l:=by
 obtain ⟨rs,h1,h2⟩:=h;exact⟨rs,h1.mono hl,h2.mono fun _ _=>ak.mono hl⟩
theorem aj.form {g:PH}{v:Value}{l:List Cl}(h:aj g v l):∃ p c,v = .slice p l.length c:=by
 obtain ⟨rs,h1,h2⟩:=h;rw[h2.length];exact h1.form
def dB (g:PH)(c:Cl)(r:Rc):Prop:=r.id=c.id∧r.dim=c.dim∧RK encSide 75 g (.slice r.sv.p r.sv.n r.sv.c) c.sides
theorem dB.mono {g g':PH}(hl:Le g g'){c:Cl}{r:Rc}(h:dB g c r):dB g' c r:=⟨h.1,h.2.1,h.2.2.mono hl⟩
theorem dB.cr {g g':PH}(hl:Le g g'){c:Cl}{r:Rc}(h:dB g c r):ak g' c r:=⟨h.1,h.2.1,h.2.2.sl.mono hl⟩
def eJ (g:PH)(v:Value)(l:List Cl):Prop:=∃ rs,RK encCell 56 g v rs∧az (dB g) l rs
theorem eJ.mono {g g':PH}{v:Value}{l:List Cl}(h:eJ g v l)(hl:Le g g'):eJ g' v l:=by
 obtain ⟨rs,h1,h2⟩:=h;exact⟨rs,h1.mono hl,h2.mono fun _ _=>dB.mono hl⟩
theorem eJ.cells {g g':PH}{v:Value}{l:List Cl}(h:eJ g v l)(hl:Le g g'):aj g' v l:=by
 obtain ⟨rs,h1,h2⟩:=h;exact⟨rs,h1.sl.mono hl,h2.mono fun _ _=>dB.cr hl⟩
def aY (l:List Cl):Prop:=l.length<1099511627776∧∀ c∈l,c.sides.length<1099511627776
def bo (c:Cl):Cl:=⟨c.id,c.dim,sortBy ah.cell c.sides⟩
def aa (l:List Cl):List Cl:=(sortBy Cl.id l).map bo
theorem Tryz.build29 (x:Value)(h:x.cells = #[x])(w:World):(Instr.build 29 #[(0,x)]).run Tryz.prog w = .ok (.agg #[x]) w:=by
 have hz:(Value.agg #[Value.slice none 0 0]).cells = #[.slice none 0 0]:=rfl;simp[Instr.build,Instr.fill,h,hz]
theorem Dj (x y:ah)(w:World):(binOp .neq 75 (.agg (encSide.enc x).toArray) (.agg (encSide.enc y).toArray)).run Tryz.prog w = .ok (.bool (decide (x≠y))) w:=by
 have hu:Tryz.prog.underlying 75=some (.struct (Tryz.prog.fieldsOf 75)):=by kernel_rfl
 have hf:(Tryz.prog.fieldsOf 75).toList=(Tryz.prog.fieldsOf 75).toList:=rfl;rw[run_neq_struct,run_equalIn_agg w 9999 75 _ _ hu stoodInHeld75]
 have hfs : ∃ f1 f2,(Tryz.prog.fieldsOf 75).toList = [f1,f2] ∧ f1.name ≠ "_" ∧ f2.name ≠ "_" ∧ f1.type = 3 ∧ f2.type = 3 ∧ f1.offset = 0 ∧ f2.offset = 1:=⟨_,_,rfl,by decide,by decide,rfl,rfl,rfl,rfl⟩
 obtain ⟨f1,f2,e,n1,n2,t1,t2,o1,o2⟩:=hfs;obtain ⟨a,b⟩:=x;obtain ⟨c,d⟩:=y;rw[e];have h1:=run_equalIn_int (P:=Tryz.prog) w 9998 3 .i64 .i64 a c uT3;have h2:=run_equalIn_int (P:=Tryz.prog) w 9998 3 .i64 .i64 b d uT3;simp only[Op.eqFields,n1,n2,t1,t2,o1,o2,encSide,part,ne_eq,not_false_eq_true,if_true,Sem.run_bind,iT3,zc9];simp[h1,h2];by_cases hac:a=c <;> by_cases hbd:b=d <;> simp[hac,hbd]
theorem D1 (E:World)(g:PH):yw E (.func (.func 118) #[] #[]) Rc.id g:=by
 intro g s a hle;refine bM.mk (cap:=[]) call118 ?_;refine zb1 (args:=[.agg (encCell.enc a).toArray]) func118 I ntmps118 (bE I) ?_;refine rZ (bW (bO I) fun b1=>?_);refine aT I (rZ (lU (fA ay I zT3 I) (lK (qL iT3 I (cO 0 I I)) (aT I (rE (dR (s':=s) uR ?_))))));exact za7 (.inl I) results118 I ⟨I,I,I⟩
theorem y7 (E:World)(g:PH):yv E (.func (.func 120) #[] #[]) ah.cell g:=by
 intro g s a hle;refine bM.mk (cap:=[]) call120 ?_;refine zb1 (args:=[.agg (encSide.enc a).toArray]) func120 I ntmps120 (bE I) ?_;refine rZ (bW (bO I) fun b1=>?_);refine aT I (rZ (lU (fA dw I zT3 I) (lK (qL iT3 I (cO 0 I I)) (aT I (rE (dR (s':=s) uR ?_))))));exact za7 (.inl I) results120 I ⟨I,I,I⟩
theorem kX (E:World)(g:PH)(s:Own)(v:Value)(l:List Cl)(hv:aj g v l)(hf:aY l) :
  Ctr Tryz.prog E 53 #[.agg #[v]] g s (fun r g' s'=>s=s'∧Le g g'∧∃ u,r = .agg #[u]∧eJ (mns g' g) u (aa l)):=by
 obtain ⟨rs,hrs,hall⟩:=hv;have hlen:=hall.length;have hfl:=hf.1;have hall':=az.sortBy (f:=Cl.id) (h:=Rc.id) (fun a b h=>h.1.symm) hall;obtain ⟨p,c,rfl⟩:=za3 hrs;refine zb1 (args:=[.agg #[.slice p rs.length c]]) func53 I ntmps53 (bE I) ?_;refine rZ (bW (bO I) fun b1=>?_);refine bW (aL zk8) fun b2=>?_;refine tZ (rZ (lU (fA dG I cQ I) (lK (qL fp I (cO 1 I I)) (lW (SO.call call117 I (yN E g _ _ 118 #[] Rc.id (D1 E g) rs hrs oM)) ?_))));rintro r3 _ _ ⟨rfl,rfl⟩;refine zd2 fun ⟨w0,hw0⟩=>?_;obtain ⟨q,d,rfl⟩:=ae (i:=0) hw0 rfl;have hbq:0<(sortBy Rc.id rs).length→based (.slice q (sortBy Rc.id rs).length d)=true:=fun h=>(by obtain ⟨b0,c0,he⟩:=aX (i:=0) hw0 rfl h; rw[he]; rfl);clear hw0 w0;refine aT I (sQ (sW I (lU (eN aC I) (lM I (tZ (bK ?_))))));have hsl:(sortBy Rc.id rs).length=rs.length:=cw rs;refine oP (ι:=PH×List Rc×List Rc×List Cl×List Cl) (fun i=>[(2,pp b2 0),(3,.slice q (sortBy Rc.id rs).length d),(9,vi (sortBy Rc.id rs).length),(10,vi i.2.1.length)]) (fun i=>i.1)
  (fun i=>rowA encCell 56 (.slice q (sortBy Rc.id rs).length d) (i.2.1++i.2.2.1)::pt b2 (.cells #[.slice none 0 0] 29 (0,0))::pt b1 (.cells #[.slice p rs.length c] 29 (0,0))::s)
  (fun i=>Le g i.1∧az (dB (mns i.1 g)) i.2.2.2.1 i.2.1∧az (ak g) i.2.2.2.2 i.2.2.1∧aa l=i.2.2.2.1++i.2.2.2.2.map bo∧(i.2.1.length+i.2.2.1.length=(sortBy Rc.id rs).length∧∀ x∈i.2.2.2.2,x∈l)) (fun i=>i.2.2.1.length)
  (g,[],sortBy Rc.id rs,[],sortBy Cl.id l) sB rfl rfl ⟨zb8 g,trivial,hall',by simp[aa],by simp,fun x hx=>(ec l x).1 hx⟩ ?_
 rintro ⟨g1,ds,rest,dl,rl⟩ ⟨hle,hd,hr,hcan,hlen1,hmem⟩;dsimp only at hle hd hr hcan hlen1 hmem ⊢;have hrl:=hr.length;refine rZ (yL I (tZ (sQ ?_)));refine iP I (fun hlt=>?_) (fun hlt=>?_)
 ·cases rest with
  | nil=>simp at hlen1; omega
  | cons x rest =>
  obtain ⟨cx,rl',hrle,hcx,hr'⟩:=hr.cons_right;subst hrle;have hxl:cx.sides.length<1099511627776:=hf.2 cx (hmem cx (by simp));simp only[ze6] at hlen1;have hgx:(ds++x::rest)[((ds.length:Nat):Int).toNat]?=some x:=aK oM;have hbs:based (.slice q (sortBy Rc.id rs).length d)=true:=hbq oM;refine kP (tN (sQ (bK (sW I (aT I (rG (lM I (lM I (lM I (lM I (lU (iA aC ao I I hbs oM sL) (lU (fC ay I bJ I hbs) (lK (aZ (o:=2) cI I (zb6 0 I) hgx I) (lW (SO.call call119 I (yK E g1 _ _ 120 #[] ah.cell (y7 E g1) cx.sides (hcx.2.2.mono hle) hxl)) ?_))))))))))))));rintro r20 _ _ ⟨rfl,rfl⟩;refine SL.freezeRowK fun g2 hle2 hs2=>?_;obtain ⟨q2,d2,rfl⟩:=hs2.form;refine lU (iA aC ao I I hbs oM sL) (lU (fC ay I bJ I hbs) (oZ (SO.partA (o:=2) 0 ⟨x.id,x.dim,q2,_,d2⟩ bJ I I I hgx I I dC I) (nL (bN (tN (rG (yD I (lM I (nL ?_)))))))));exact ST.again (g2,ds++[⟨x.id,x.dim,q2,(sortBy ah.cell cx.sides).length,d2⟩],rest,dl++[bo cx],rl') ⟨I,I,I,aF lN,trivial⟩ I (by
    dsimp only;rw[show (ds++x::rest).set ((ds.length:Nat):Int).toNat ⟨x.id,x.dim,q2,(sortBy ah.cell cx.sides).length,d2⟩=ds++[⟨x.id,x.dim,q2,(sortBy ah.cell cx.sides).length,d2⟩]++rest by rw[bw oM]; simp];rfl) ⟨hle.trans hle2,(hd.mono fun _ _=>dB.mono (ge hle2)).append ⟨(by exact⟨hcx.1,hcx.2.1,hs2.mono (ig hle)⟩:dB (mns g2 g) (bo cx) ⟨x.id,x.dim,q2,(sortBy ah.cell cx.sides).length,d2⟩),trivial⟩,hr',by rw[hcan]; simp,lN,fun y hy=>hmem y (by simp[hy])⟩ lN
 ·have hr0:rest=[]:=zf2 oM;subst hr0;have hrl0:rl=[]:=hr.nil_right;subst hrl0;refine xI (tX (tX (bX (tN (rZ (SL.freezeRowK fun g2 hle2 hs2=>?_))))));refine lM I (lU (za2 I (build29 _ I)) (oZ (sK 0 an I I I I I sB) ?_));refine tZ (rE ?_);refine ST.retCD 0 s (.inl I) results53 I aA an I I (.cons _ (.cons _ (.refl _))) ⟨I,hle.trans hle2,_,I,ds,?_,?_⟩
  ·simpa using hs2.mono (ig hle)
  ·rw[hcan];simpa using hd.mono fun _ _=>dB.mono (ge hle2)
theorem ee (E:World)(g:PH)(s:Own)(v:Value)(l:List Cl)(hv:aj g v l)(hf:aY l) :
  Ctr Tryz.prog E 53 #[.agg #[v]] g s (fun r g' s'=>s=s'∧Le g g'∧∃ u,r = .agg #[u]∧aj g' u (aa l)) :=
 (kX E g s v l hv hf).mono fun _ _ _ ⟨h1,h2,u,h3,h4⟩=>⟨h1,h2,u,h3,h4.cells (dT _ _)⟩
theorem jh {α:Type}{l m:List α}{k:Nat}(h1:k<l.length)(h2:k<m.length)(h:l.take k=m.take k)(he:l[k]=m[k]):l.take (k+1)=m.take (k+1):=by
 rw[tS h1,tS h2,h,he]
theorem jQ {α:Type}{l m:List α}(hl:l.length=m.length)(h:l.take l.length=m.take l.length):l=m:=by
 rw[tL (Nat.le_refl _),tL oM] at h;exact h
theorem SU.neqSide {N:Nat}{f:Fr}{dst:Option Tmp}{ty:TypeId}{pos:String}{af:Array Edge}{gd:Option (Nat×Bool)}{x y:Operand}{a b:ah}{U:TypeId}(hx:ev f x=some (.agg (encSide.enc a).toArray))(hy:ev f y=some (.agg (encSide.enc b).toArray)) :
  SU Tryz.prog N ⟨dst,.binOp .neq 75 x y U,ty,pos,af,gd⟩ f (.bool (decide (a≠b))):=fun ac w ha=>by
 have hg:=run_eqGuard_agg (P:=Tryz.prog) w .neq 75 x y (encSide.enc a).toArray (encSide.enc b).toArray eqGuardType75;simp only[execOp,ha.ev hx,ha.ev hy,Sem.run_bind,hg,zc9,Dj];rfl
theorem py (E:World)(g:PH)(s:Own)(v u:Value)(l m:List ah)(hv:SlA encSide g v l)(hu:SlA encSide g u m)(hl:l.length<1099511627776) :
  Ctr Tryz.prog E 148 #[v,u] g s (fun r g' s'=>r=vb (decide (l=m))∧g=g'∧s=s'):=by
 obtain ⟨p,c,rfl⟩:=hv.form;obtain ⟨q,d,rfl⟩:=hu.form;refine zb1 (args:=[.slice p l.length c,.slice q m.length d]) func148 I ntmps148 (bE I) ?_;refine rZ (aT I (sQ (sW I (lU (eN bh I) (lM I (lU (eN bh I) (lU (nQ I I) (tZ ?_))))))));refine iP I (fun hne=>?_) (fun hne=>?_)
 ·refine rZ (aT I (rE (tR ?_)));exact za7 (.inl I) results148 I ⟨by have:l≠m:=fun e=>hne (by rw[e]); simp[this],I,I⟩
 ·refine kP (tN (sQ (sW I (lU (eN bh I) (lM I (tZ (bK ?_)))))));have hlen:l.length=m.length:=oM;refine oP (ι:=Nat) (fun k=>[(0,.slice p l.length c),(1,.slice q m.length d),(12,vi l.length),(13,vi k)]) (fun _=>g) (fun _=>s) (fun k=>k≤l.length∧l.take k=m.take k) (fun k=>l.length - k) 0
   sB rfl rfl ⟨zf4 _,by simp⟩ ?_
  rintro k ⟨hk,heq⟩;refine rZ (yL I (tZ (sQ ?_)));refine iP I (fun hlt=>?_) (fun hlt=>?_)
  ·have hkl:k<l.length:=oM;have hkm:k<m.length:=oM;have hb1:=hv.based oM;have hb2:=hu.based oM;refine kP (tN (sQ (bK (sW I (aT I (sQ ?_))))));refine dW [] [(0,2),(1,2),(2,2),(3,1),(4,2),(5,2),(6,2),(7,1),(8,2)] ze1 kR ?_;refine yM I (yM I (pU I (iA bh aH I I hb1 oM sL) ?_));refine pQ I (SQ.elemA fw aH I hv.rd (List.getElem?_eq_getElem hkl)) dC ?_;refine yM I (yM I (pU I (iA bh aH I I hb2 oM sL) ?_));refine pQ I (SQ.elemA fw aH I hu.rd (List.getElem?_eq_getElem hkm)) dC ?_;refine pU I (SU.neqSide I I) (pN (tN ?_));refine iP I (fun hd=>?_) (fun hd=>?_)
   ·refine rZ (aT I (rE (bR (tR (tR (bR (tR ?_)))))));exact za7 (.inl I) results148 I ⟨by have:l≠m:=fun e=>hd (by simp[e]); simp[this],I,I⟩
   ·refine kP (bN (tN (rG (yD I (lM I (nL ?_))))));exact ST.again (k+1) sB I I ⟨oM,jh hkl hkm heq (zg7 hd)⟩ oM
  ·refine xI (tX (tX (bX (tN (rZ (aT I (rE ?_)))))));have hkk:k=l.length:=oM;subst hkk;have:l=m:=jQ hlen heq;exact za7 (.inl I) results148 I ⟨by simp[this],I,I⟩
theorem A4 {x y:Cl}:x=y↔x.id=y.id∧x.dim=y.dim∧x.sides=y.sides:=by
 cases x; cases y; simp
theorem m9 (E:World)(g:PH)(s:Own)(a b:Cl)(ra rb:Rc)(ha:ak g a ra)(hb:ak g b rb)(hl:a.sides.length<1099511627776) :
  Ctr Tryz.prog E 82 #[.agg (encCell.enc ra).toArray,.agg (encCell.enc rb).toArray] g s (fun r g' s'=>r=vb (decide (a=b))∧g=g'∧s=s'):=by
 obtain ⟨i1,d1,⟨p1,n1,c1⟩⟩:=ra;obtain ⟨i2,d2,⟨p2,n2,c2⟩⟩:=rb;obtain ⟨rfl,rfl,hs1⟩:=ha;obtain ⟨rfl,rfl,hs2⟩:=hb;refine zb1 (args:=[.agg (encCell.enc ⟨a.id,a.dim,⟨p1,n1,c1⟩⟩).toArray,.agg (encCell.enc ⟨b.id,b.dim,⟨p2,n2,c2⟩⟩).toArray]) func82 I ntmps82 (bE I) ?_;refine rZ (bW (bO I) fun b2=>?_);refine bW (bO I) fun b3=>?_;refine aT I ?_;refine SC.cutB 4 (decide (a=b)) ?_ ?_
 ·refine rG (lU (fA ay I zT3 I) (lK (qL iT3 I (cO 1 I I)) (lU (fA ay I zT3 I) (lK (qL iT3 I (cO 0 I I)) (yE I (lM I ?_))))));refine sP ?_ ?_
  ·intro h10;refine lY I I I (fA ay I zT3 I) (SL.gq (gT I I I dC) (qL iT3 I (cO 1 I I)) dC (lY I I I (fA ay I zT3 I) (SL.gq (gT I I I dC) (qL iT3 I (cO 0 I I)) dC (lY I I I (eQ I I) (yP I (lM I ?_))))));refine sP ?_ ?_
   ·intro h17;refine lY I I I (fA ay I bJ I) (SL.gq (gT I I I dC) (qL cI I (cO 1 I I)) dC (lY I I I (fA ay I bJ I) (SL.gq (gT I I I dC) (qL cI I (cO 0 I I)) dC (SL.go (gT I I I dC) (SO.call call148 I (py E g _ _ _ a.sides b.sides hs1 hs2 hl)) dC ?_))));rintro _ _ _ ⟨rfl,rfl,rfl⟩;refine yP I (lA I (nL ?_));exact za9 (by simp_all[aN,A4]) mI
   ·intro h17;refine yA I (yA I (yA I (yA I (yA I (yF I (lA I (nL ?_)))))));exact za9 (by simp_all[aN,A4]) mI
  ·intro h10;refine yA I (yA I (yA I (yA I (yA I (yF I (lM I (yA I (yA I (yA I (yA I (yA I (yF I (lA I (nL ?_))))))))))))));exact za9 (by simp_all[aN,A4]) mI
 refine rE (dR (s':=s) uR ?_);exact za7 (.inl I) results82 I ⟨I,I,I⟩
theorem oH (E:World)(g:PH)(s:Own)(v u:Value)(l m:List Cl)(hv:aj g v l)(hu:aj g u m)(hl:aY l) :
  Ctr Tryz.prog E 81 #[v,u,.func (.func 82) #[] #[]] g s (fun r g' s'=>r=vb (decide (l=m))∧g=g'∧s=s'):=by
 obtain ⟨rs,hrs,hal⟩:=hv;obtain ⟨ts,hts,hbl⟩:=hu;have hl1:=hal.length;have hl2:=hbl.length;have hfl:=hl.1;obtain ⟨p,c,rfl⟩:=hrs.form;obtain ⟨q,d,rfl⟩:=hts.form;refine zb1 (args:=[.slice p rs.length c,.slice q ts.length d,.func (.func 82) #[] #[]]) func81 I ntmps81 (bE I) ?_;refine rZ (aT I (sQ (sW I (lU (eN aC I) (lM I (lU (eN aC I) (lU (nQ I I) (tZ ?_))))))));refine iP I (fun hne=>?_) (fun hne=>?_)
 ·refine rZ (aT I (rE (tR ?_)));exact za7 (.inl I) results81 I ⟨by have:l≠m:=fun e=>hne (by rw[← hl1,← hl2,e]); simp[this],I,I⟩
 ·refine kP (tN (sQ (sW I (lU (eN aC I) (lM I (tZ (bK ?_)))))));have hlen:l.length=m.length:=oM;refine oP (ι:=Nat) (fun k=>[(1,.slice q ts.length d),(2,.func (.func 82) #[] #[]),(15,.slice p rs.length c),(16,vi rs.length),(17,vi k)]) (fun _=>g) (fun _=>s) (fun k=>k≤l.length∧l.take k=m.take k) (fun k=>l.length - k) 0
   sB rfl rfl ⟨zf4 _,by simp⟩ ?_
  rintro k ⟨hk,heq⟩;refine rZ (yL I (tZ (sQ ?_)));refine iP I (fun hlt=>?_) (fun hlt=>?_)
  ·have hkl:k<l.length:=oM;have hkm:k<m.length:=oM;have hkr:k<rs.length:=oM;have hkt:k<ts.length:=oM;have hb1:=hrs.based oM;have hb2:=hts.based oM;refine kP (tN (sQ (bK (sW I (lU (iA aC ao I I hb1 oM sL) ?_)))));refine SL.q (SQ.elemA ct ao I hrs.rd (List.getElem?_eq_getElem hkr)) dC ?_;refine bW (aL zl2) fun b8=>?_;refine lA I (oZ (sK 0 ao I I I I I sB) ?_);refine tZ (sW I (lM I (lU (iA aC ao I I hb2 oM sL) ?_)));refine SL.q (SQ.elemA ct ao I hts.rd (List.getElem?_eq_getElem hkt)) dC ?_;refine bW (aL zl2) fun b9=>?_;refine oZ (sK 0 ao I I I I I sB) ?_;refine tZ (sW I (lK (qV 1 ct ao I I I) (lK (qV 0 ct ao I I I) ?_)));refine SL.o (SO.callV I I (bM.mk (cap:=[]) call82 (m9 E g _ l[k] m[k] rs[k] ts[k] (hal.get (List.getElem?_eq_getElem hkl) (List.getElem?_eq_getElem hkr)) (hbl.get (List.getElem?_eq_getElem hkm) (List.getElem?_eq_getElem hkt)) (hl.2 _ (gM hkl))))) dC ?_;rintro _ _ _ ⟨rfl,rfl,rfl⟩;refine lU (SU.notP I) (tZ ?_);refine iP I (fun hd=>?_) (fun hd=>?_)
   ·refine rZ (aT I (rE (bR (tR (tR (bR (tR (dR (s':=s) uR ?_))))))));exact za7 (.inl I) results81 I ⟨by have:l≠m:=fun e=>hd (by simp[e]); simp[this],I,I⟩
   ·refine kP (bN (tN (rG (yD I (lM I (nL (dR (s':=s) uR ?_)))))));exact ST.again (k+1) sB I I ⟨oM,jh hkl hkm heq (zg7 hd)⟩ oM
  ·refine xI (tX (tX (bX (tN (rZ (aT I (rE ?_)))))));have hkk:k=l.length:=oM;subst hkk;have:l=m:=jQ hlen heq;exact za7 (.inl I) results81 I ⟨by simp[this],I,I⟩
theorem aG {l:List Cl}(h:aY l):aY (aa l):=by
 refine⟨by simp[aa,cw]; exact h.1,fun c hc=>?_⟩;simp only[aa,ze9] at hc;obtain ⟨c0,h0,rfl⟩:=hc;simp only[bo,cw];exact h.2 c0 ((ec l c0).1 h0)
theorem xH (E:World)(g:PH)(s:Own)(v u:Value)(l m:List Cl)(hv:aj g v l)(hu:aj g u m)(hl:aY l)(hm:aY m) :
  Ctr Tryz.prog E 21 #[.agg #[v],.agg #[u]] g s (fun r g' s'=>r=vb (decide (aa l=aa m))∧g=g'∧s=s'):=by
 refine zb1 (args:=[.agg #[v],.agg #[u]]) func21 I ntmps21 (bE I) ?_;refine rZ (bW (bO I) fun b2=>?_);refine bW (bO I) fun b3=>?_;refine aT I (sQ ?_);refine dW [] [(0,1),(3,1),(1,0),(2,2),(4,0),(5,2),(6,0),(7,2)] ze1 kR ?_;refine pK I (qV 1 aA an I I I) (pK I (qV 0 aA an I I I) (SP.o I (SO.call call53 I (ee E g _ v l hv hl)) dC (.inr iR) ?_));rintro _ g1 _ ⟨rfl,hle1,x1,rfl,hc1⟩;refine pU rfl (SU.field dG rfl fp rfl rfl) (SP.o rfl (SO.call call53 rfl (ee E g1 _ u m (hu.mono hle1) hm)) dC (.inr (by rintro _ g2 _ ⟨rfl,hle2,x2,rfl,hc2⟩; exact⟨by exact Le.trans (by assumption) (by assumption),(by exact .refl _)⟩)) ?_);rintro _ g2 _ ⟨rfl,hle2,x2,rfl,hc2⟩;refine pU rfl (SU.field dG rfl fp rfl rfl) (SP.o rfl (SO.call call81 rfl (oH E g2 _ x1 x2 (aa l) (aa m) (hc1.mono hle2) hc2 (aG hl))) dC (.inr (by rintro _ _ _ ⟨rfl,rfl,rfl⟩; exact⟨by exact Le.trans (by assumption) (by assumption),(by exact .refl _)⟩)) ?_);rintro _ _ _ ⟨rfl,rfl,rfl⟩;refine pU I (aS I) (pN (tN (rE ?_)));refine dR (s':=s) (.cons _ (.cons _ (.refl _))) (ST.less (hle1.trans hle2) ?_);exact za7 (.inl I) results21 I ⟨I,I,I⟩
theorem Tryz.mty125:MTy Tryz.prog 125 3 56 (.agg #[vi 0,vi 0,.slice none 0 0]):=⟨underlying125,underlying3,zl2⟩
def fq (acc:List Cl)(c:Cl):List Cl:=if acc.any (fun x=>x.id == c.id) then acc else acc++[c]
theorem qG {acc:List Cl}{c:Cl}(h:acc.any (fun x=>x.id == c.id)=true):fq acc c=acc:=zf8 h
theorem kC {acc:List Cl}{c:Cl}(h:acc.any (fun x=>x.id == c.id)=false):fq acc c=acc++[c]:=zf7 (by rw[h]; simp)
def ai (l:List Cl):List Cl:=(aa l).foldl fq []
def rcv (r:Rc):Value:=.agg (encCell.enc r).toArray
def am (r:Rc):Int×Value:=(r.id,rcv r)
def Bc (R:Cl→Rc→Prop)(g:PH)(v:Value)(tl:List Cl):Prop :=
 ∃ b m iv rs,v=pp b 0∧g b=some (.cells #[.map (some m),iv] 135 (0,0))∧Mp g m (rs.map am)∧df g iv (tl.map Cl.id)∧az R tl rs
def Tab (g:PH)(v:Value)(tl:List Cl):Prop:=Bc (ak g) g v tl
theorem Bc.mono {R R':Cl→Rc→Prop}{g g':PH}{v:Value}{tl:List Cl}(h:Bc R g v tl)(hl:Le g g')(hr:∀ c r,R c r→R' c r):Bc R' g' v tl:=by
 obtain ⟨b,m,iv,rs,h1,h2,h3,h4,h5⟩:=h;exact⟨b,m,iv,rs,h1,hl _ _ h2,h3.mono hl,h4.mono hl,h5.mono hr⟩
theorem Tab.mono {g g':PH}{v:Value}{tl:List Cl}(h:Tab g v tl)(hl:Le g g'):Tab g' v tl:=by
 obtain ⟨b,m,iv,rs,h1,h2,h3,h4,h5⟩:=h;exact⟨b,m,iv,rs,h1,hl _ _ h2,h3.mono hl,h4.mono hl,h5.mono fun _ _=>ak.mono hl⟩
theorem gU (rs:List Rc)(k:Int):dp (rs.map am) k=(rs.find? (fun r=>r.id == k)).map rcv:=by
 induction rs with
 | nil=>rfl
 | cons r t ih =>
  simp only[zg2,am,cd,zi4];by_cases h:k=r.id
  ·subst h; simp
  ·have:(r.id == k)=false:=by simpa using fun e=>h e.symm
   rw[this,zf7 h,← ih]
theorem Co {g:PH}{tl:List Cl}{rs:List Rc}(h:az (ak g) tl rs)(k:Int):tl.any (fun x=>x.id == k)=rs.any (fun r=>r.id == k):=by
 induction tl generalizing rs with
 | nil=>cases rs with | nil=>rfl | cons _ _=>exact h.elim
 | cons c t ih =>
  cases rs with
  | nil=>exact h.elim
  | cons r rs=>simp only[List.any_cons,h.1.1,ih h.2]
theorem gg {g:PH}{tl:List Cl}{rs:List Rc}(h:az (ak g) tl rs):tl.map Cl.id=rs.map Rc.id:=by
 induction tl generalizing rs with
 | nil=>cases rs with | nil=>rfl | cons _ _=>exact h.elim
 | cons c t ih =>
  cases rs with
  | nil=>exact h.elim
  | cons r rs=>simp only[zg2,h.1.1,ih h.2]
theorem fu (l:List Cl):∀ acc:List Cl,(l.foldl fq acc).length≤acc.length+l.length:=by
 induction l with
 | nil=>intro acc; simp
 | cons c r ih =>
  intro acc;simp only[zi6];have h1:=ih (fq acc c);have h2:(fq acc c).length≤acc.length+1:=by unfold fq; split <;> simp
  simp only[ze6];omega
theorem Tryz.build135 (x:Value)(h:x.cells = #[x])(w:World):(Instr.build 135 #[(0,x)]).run Tryz.prog w = .ok (.agg #[x,.slice none 0 0]) w:=by
 have hz:(Value.agg #[Value.map none,Value.slice none 0 0]).cells = #[.map none,.slice none 0 0]:=rfl;simp[Instr.build,Instr.fill,h,hz]
theorem tH (E:World)(g:PH)(s:Own)(v:Value)(l:List Cl)(hv:aj g v l)(hf:aY l) :
  Ctr Tryz.prog E 52 #[.agg #[v]] g s (fun r g' s'=>s=s'∧Le g g'∧Bc (dB (mns g' g)) g' r (ai l)):=by
 have hfc:=aG hf;refine zb1 (args:=[.agg #[v]]) func52 I ntmps52 (bE I) ?_;refine rZ (bW (bO I) fun b1=>?_);refine aT I (rZ (lW (SO.mkMap) ?_));rintro _ _ _ ⟨m,rfl,rfl,rfl⟩;refine lU (za2 I (build135 _ I)) (bW (bO I) fun b10=>?_);refine aT I (sQ (rZ (lK (qV 2 aA an I I I) (lW (SO.call call53 I (kX E g _ v l hv hf)) ?_))));rintro _ g1 _ ⟨rfl,hle,u,rfl,hc⟩;obtain ⟨rs,hrsK,hall⟩:=hc;have hrs:=hrsK.sl.mono (dT _ _);obtain ⟨p,c,rfl⟩:=hrs.form;refine lU (SU.field dG I fp I I) (lU (eN aC I) (lM I (tZ (bK ?_))));have hlen:=hall.length;have hfl:=hfc.1;refine zb5 3 1 ?_;refine oP (ι:=Value×Nat×List Rc) (fun i=>[(3,pp b10 0),(13,.slice p rs.length c),(14,vi rs.length),(15,vi i.2.1)]) (fun _=>g1)
  (fun i=>rowA encInt 3 i.1 (i.2.2.map Rc.id)::pt b10 (.cells #[.map (some m),i.1] 135 (0,0))::mp m (i.2.2.map am)::pt b1 (.cells #[v] 29 (0,0))::s)
  (fun i=>i.2.1≤rs.length∧az (dB (mns g1 g)) (((aa l).take i.2.1).foldl fq []) i.2.2) (fun i=>rs.length - i.2.1) (.slice none 0 0,0,[])
  sB rfl rfl ⟨zf4 _,by simp[az]⟩ ?_
 rintro ⟨iv,k,acc⟩ ⟨hk,hacc⟩;dsimp only at hk hacc ⊢;refine rZ (yL I (tZ (sQ ?_)));refine iP I (fun hlt=>?_) (fun hlt=>?_)
 ·have hkr:k<rs.length:=oM;have hkl:k<(aa l).length:=oM;have hb1:=hrs.based oM;have hcr:=hall.get (List.getElem?_eq_getElem hkl) (List.getElem?_eq_getElem hkr);have hany:=Co (hacc.mono fun _ _=>dB.cr (dT _ _)) (aa l)[k].id;have htake:((aa l).take (k+1)).foldl fq []=fq (((aa l).take k).foldl fq []) (aa l)[k]:=by
   rw[tS hkl,zi7]; rfl
  have hal:=hacc.length;have hal2:=fu ((aa l).take k) [];simp only[ze2,zc3] at hal2;generalize hcl:(aa l)[k]=cx at *;generalize hrx:rs[k]=x at *;have hgx:rs[((k:Nat):Int).toNat]?=some x:=by rw[← hrx]; exact List.getElem?_eq_getElem hkr
  cases hget:acc.find? (fun r=>r.id == x.id) with
  | some y =>
   refine kP (tN (sQ (bK (rZ (lU (iA aC ao I I hb1 oM sL) (lK (SQ.elemA ct ao I hrs.rd hgx) (bW (aL zl2) fun b5=>?_)))))));refine oZ (sK 0 ao I I I I I sB) ?_;refine tZ (sQ ?_);refine dW [] [(0,2),(1,2),(2,2),(3,1),(4,2),(5,1),(6,1),(7,2),(8,2),(9,2),(10,0),(11,0),(12,2)] ze1 kR ?_;refine yM I (pU I (nC I) (pU I (fA e8 I e6 I) (pK I (qL fe I (cO 2 I I)) (pU I (fA ay I zT3 I) (pK I (qL iT3 I (cO 0 I I)) (pK I (SQ.eq (SQ.lookupOk mty125 I I (aR.own 3 I)) (by (rw[gU,hget]; done))) ?_))))));refine yM I (pU I (xT I I) (pU I (xT I I) (SP.o I (aL zl2) dC (.inr iR) ?_)));rintro _ _ _ ⟨b6,rfl,rfl,rfl⟩;refine SP.on I (sK 0 ao I I I I I sB) (.inr iR) ?_;rintro _ _ _ ⟨rfl,rfl⟩;refine pU I (aS I) (pN (tN (sW I (lU (SU.not I) (tZ (cF I (kP (bN (tN (rG (yD I (lM I (nL (dR (s':=rowA encInt 3 iv (acc.map Rc.id)::pt b10 (.cells #[.map (some m),iv] 135 (0,0))::mp m (acc.map am)::pt b1 (.cells #[v] 29 (0,0))::s) (.cons _ (.cons _ (.refl _))) ?_))))))))))))));have h1:acc.any (fun r=>r.id == cx.id)=true:=by
    rw[zj6];exact⟨y,zk4 hget,by have:=List.find?_some hget; rw[← hcr.1]; exact this⟩
   exact ST.again (iv,k+1,acc) sB I I ⟨lN,by dsimp only; rw[htake,qG (hany.trans h1)]; exact hacc⟩ lN
  | none =>
   refine kP (tN (sQ (bK (rZ (lU (iA aC ao I I hb1 oM sL) (lK (SQ.elemA ct ao I hrs.rd hgx) (bW (aL zl2) fun b5=>?_)))))));refine oZ (sK 0 ao I I I I I sB) ?_;refine tZ (sQ ?_);refine dW [] [(0,2),(1,2),(2,2),(3,1),(4,2),(5,1),(6,1),(7,2),(8,2),(9,2),(10,0),(11,0),(12,2)] ze1 kR ?_;refine yM I (pU I (nC I) (pU I (fA e8 I e6 I) (pK I (qL fe I (cO 2 I I)) (pU I (fA ay I zT3 I) (pK I (qL iT3 I (cO 0 I I)) (pK I (SQ.eq (SQ.lookupOk mty125 I I (aR.own 3 I)) (by (rw[gU,hget]; done))) ?_))))));refine yM I (pU I (xT I I) (pU I (xT I I) (SP.o I (aL zl2) dC (.inr iR) ?_)));rintro _ _ _ ⟨b6,rfl,rfl,rfl⟩;refine SP.on I (sK 0 ao I I I I I sB) (.inr iR) ?_;rintro _ _ _ ⟨rfl,rfl⟩;refine pU I (aS I) (pN (tN (sW I (lU (SU.not I) (tZ (za1 I (sQ ?_)))))));refine dW [7] [(0,2),(1,2),(2,2),(3,1),(4,2),(5,1),(6,1),(7,0)] ze1 kR ?_;refine yM I (pU I (nC I) (pU I (fA e8 I e6 I) (pK I (qL fe I (cO 3 I I)) (pU I (fA ay I zT3 I) (pK I (qL iT3 I (cO 1 I I)) (pK I (qV 1 ct ao I I I) (SP.on I (SO.mapUpdate 4 mty125 I I I I) (.inl dC) ?_)))))));rintro _ _ _ ⟨rfl,rfl⟩;refine pN (tN ?_);refine dW [8,9,10,11] [(0,2),(1,2),(2,2),(3,2),(4,1),(5,2),(6,1),(7,0),(8,0),(9,0),(10,0),(11,0)] ze1 kR ?_;refine yM I (yM I (pU I (nC I) (pU I (fA e8 I eK I) (pK I (qL fx I (cO 3 I I)) (pU I (fA ay I zT3 I) (pK I (qL iT3 I (cO 1 I I)) (SP.o I (bS sty52 I I I (ag sB) dC) dC (.inr iR) ?_)))))));rintro _ _ _ ⟨b45,rfl,rfl,rfl⟩;refine SP.o I (SO.app1 2 (((acc++[x]).map Rc.id).flatMap encInt.enc) ((acc++[x]).map Rc.id).length sty52 I I I I I ⟨I,trivial⟩ (by simp[encInt]; rfl) (by simp) (by simp; omega) (by simp; omega)) dC (.inl dC) ?_;rintro iv' _ _ ⟨rfl,rfl⟩;refine zd1 fun ⟨w0,hw0⟩=>?_;obtain ⟨q',d',rfl⟩:=ae (e:=encInt) (l:=(acc++[x]).map Rc.id) (i:=2) hw0 rfl;clear hw0 w0;refine oU rfl (nC rfl) dC (.inl dC) (oU rfl (fA e8 rfl eK rfl) dC (.inl dC) (SP.on rfl (SO.store1 3 eK rfl rfl rfl rfl (bE rfl) (by rfl)) (.inl dC) ?_));rintro _ _ _ ⟨rfl,rfl⟩;refine pN (bN (tN (rG (yD I (lM I (nL ?_))))));have h1:acc.any (fun r=>r.id == cx.id)=false:=by
    rw[zk3];intro y hy;have:=List.find?_eq_none.1 hget y hy;rw[← hcr.1]; exact this
   have hmp:fo (acc.map am) x.id (rcv x)=(acc++[x]).map am:=by
    rw[kQ _ _ _ (fun q hq=>by
     obtain ⟨y,hy,rfl⟩:=ze9.1 hq;have:=List.find?_eq_none.1 hget y hy;simpa [am] using this)]
    simp[am]
   refine dR (s':=rowA encInt 3 (.slice q' ((acc++[x]).map Rc.id).length d') ((acc++[x]).map Rc.id)::pt b10 (.cells #[.map (some m),.slice q' ((acc++[x]).map Rc.id).length d'] 135 (0,0))::mp m ((acc++[x]).map am)::pt b1 (.cells #[v] 29 (0,0))::s) ?_ ?_
   ·rw[← hmp]; exact .cons _ (.cons _ (.refl _))
   exact ST.again (.slice q' ((acc++[x]).map Rc.id).length d',k+1,acc++[x]) sB I I ⟨lN,by dsimp only; rw[htake,kC (hany.trans h1)]; exact hacc.append ⟨hcr,trivial⟩⟩ lN
 ·refine xI (tX (tX (bX (tN (sW I (aT I (rE ?_)))))));have hkk:k=rs.length:=oM;have htk:(aa l).take k=aa l:=tL oM;rw[htk] at hacc;refine fT fun g2 h2 hrow=>?_;refine ST.freeze fun g3 h3 hb=>?_;refine ST.freezeMap fun g4 h4 hm=>?_;refine dR (s':=s) uR ?_;have hI:df g4 iv ((ai l).map Cl.id):=by
   rw[show (ai l).map Cl.id=acc.map Rc.id from gg (hacc.mono fun _ _=>dB.cr (dT _ _))];exact Sl.mono hrow (h3.trans h4)
  exact za7 (.inl I) results52 I ⟨I,hle.trans (h2.trans (h3.trans h4)),b10,m,iv,acc,I,h4 _ _ hb,hm,hI,hacc.mono fun _ _=>dB.mono (ge (h2.trans (h3.trans h4)))⟩
theorem jC (E:World)(g:PH)(s:Own)(v:Value)(l:List Cl)(hv:aj g v l)(hf:aY l) :
  Ctr Tryz.prog E 52 #[.agg #[v]] g s (fun r g' s'=>s=s'∧Le g g'∧Tab g' r (ai l)) :=
 (tH E g s v l hv hf).mono fun _ _ _ ⟨h1,h2,h3⟩=>⟨h1,h2,h3.mono (zb8 _) fun _ _=>dB.cr (dT _ _)⟩
theorem xj {acc:List Cl}{c:Cl}(h:(acc.map Cl.id).Nodup):((fq acc c).map Cl.id).Nodup:=by
 unfold fq;split
 ·exact h
 ·rename_i hc;rw[zg3,List.nodup_append];refine⟨h,by simp,fun a ha b hb e=>?_⟩;simp at hb;subst hb;obtain ⟨x,hx,hxe⟩:=ze9.1 ha;apply hc;rw[zj6];exact⟨x,hx,by simp[hxe,e]⟩
theorem us (l:List Cl):∀ acc:List Cl,(acc.map Cl.id).Nodup→((l.foldl fq acc).map Cl.id).Nodup:=by
 induction l with
 | nil=>intro acc h; exact h
 | cons c r ih=>intro acc h; exact ih _ (xj h)
theorem dZ (l:List Cl):((ai l).map Cl.id).Nodup:=us _ [] (by simp)
theorem rO (l:List Cl):∀ (acc:List Cl) (x:Cl),x∈l.foldl fq acc→x∈acc∨x∈l:=by
 induction l with
 | nil=>intro acc x h; exact .inl h
 | cons c r ih =>
  intro acc x h
  rcases ih _ x h with h1 | h1
  ·unfold fq at h1;split at h1
   ·exact .inl h1
   ·rcases zf1.1 h1 with h2 | h2
    ·exact .inl h2
    ·right; simp at h2; simp[h2]
  ·exact .inr (by simp[h1])
theorem qj {l:List Cl}{x:Cl}(h:x∈ai l):x∈aa l:=(rO _ [] x h).resolve_left (by simp)
theorem dz {l:List Cl}(h:aY l):aY (ai l):=by
 have hc:=aG h;refine⟨?_,fun c hm=>hc.2 c (qj hm)⟩;have:=fu (aa l) [];unfold ai;have h1:=hc.1;simp at this;omega
theorem lJ {rs:List Rc}(h:(rs.map Rc.id).Nodup){k:Nat}{r:Rc}(hk:rs[k]?=some r):rs.find? (fun x=>x.id == r.id)=some r:=by
 induction rs generalizing k with
 | nil=>simp at hk
 | cons y t ih =>
  simp only[zg2,zj9] at h;cases k with
  | zero=>simp at hk; subst hk; simp
  | succ k =>
   simp only[List.getElem?_cons_succ] at hk;have hne:(y.id == r.id)=false:=by
    simp only[beq_eq_false_iff_ne,ne_eq];intro e;exact h.1 (by rw[e]; exact ze9.2 ⟨r,zf9 hk,I⟩)
   rw[zi4,hne];exact ih h.2 hk
def rm (E:World)(pv:Value)(p:Cl→Bool)(tl:List Cl)(g:PH):Prop :=
 ∀ g' s c r,Le g g'→c∈tl→ak g' c r→bM Tryz.prog E pv [rcv r] g' s (fun x g'' s''=>x=vb (p c)∧g'=g''∧s=s'')
theorem vL (R:Cl→Rc→Prop)(E:World)(g:PH)(s:Own)(v pv:Value)(tl:List Cl)(p:Cl→Bool)(hR:∀ c r,R c r→ak g c r)(hv:Bc R g v tl)(hnd:(tl.map Cl.id).Nodup)(hf:aY tl)(hp:rm E pv p tl g) :
  Ctr Tryz.prog E 91 #[v,pv] g s (fun r g' s'=>s=s'∧Le g g'∧∃ u rs,r = .agg #[u]∧RK encCell 56 (mns g' g) u rs∧az R (tl.filter p) rs):=by
 obtain ⟨b,m,iv,rs,rfl,hb,hm,hI,hall⟩:=hv;have hids:=gg (hall.mono hR);have hlen:=hall.length;have hfl:=hf.1;have hnr:(rs.map Rc.id).Nodup:=by rw[← hids]; exact hnd
 obtain ⟨q,d,rfl⟩:=hI.form;refine zb1 (args:=[pp b 0,pv]) func91 I ntmps91 (bE I) ?_;refine rZ (bW (aL zk8) fun b4=>?_);refine tZ (rZ (bW (aL zk8) fun b5=>?_));refine tZ (sQ (sW I (lU (nC I) (lU (fA e8 I eK I) (lK (qL fx I (cK hb I)) (lU (eN aB I) (lM I (tZ (bK (zb5 56 3 ?_))))))))));simp only[ze4] at hI hb ⊢;refine oP (ι:=Value×Nat×List Rc) (fun i=>[(0,pp b 0),(1,pv),(4,pp b4 0),(5,pp b5 0),(11,.slice q tl.length d),(12,vi tl.length),(13,vi i.2.1)]) (fun _=>g)
  (fun i=>rowA encCell 56 i.1 i.2.2::pt b5 (.cells #[i.1] 29 (0,0))::pt b4 (.cells #[.slice none 0 0] 29 (0,0))::s)
  (fun i=>i.2.1≤tl.length∧az R ((tl.take i.2.1).filter p) i.2.2) (fun i=>tl.length - i.2.1) (.slice none 0 0,0,[])
  sB rfl rfl ⟨zf4 _,by simp[az]⟩ ?_
 rintro ⟨ov,k,acc⟩ ⟨hk,hacc⟩;dsimp only at hk hacc ⊢;refine rZ (yL I (tZ (sQ ?_)));refine iP I (fun hlt=>?_) (fun hlt=>?_)
 ·have hkl:k<tl.length:=oM;have hkr:k<rs.length:=oM;have hbi:=hI.based (by simp; omega);have hcR:=hall.get (List.getElem?_eq_getElem hkl) (List.getElem?_eq_getElem hkr);have hcr:=hR _ _ hcR;have hmem:tl[k]∈tl:=gM hkl;have hget:dp (rs.map am) tl[k].id=some (rcv rs[k]):=by
   rw[gU,← hcr.1,lJ hnr (List.getElem?_eq_getElem hkr)]; rfl
  have htake:(tl.take (k+1)).filter p=(tl.take k).filter p++(if p tl[k] then [tl[k]] else []):=by
   rw[tS hkl,zh4];simp only[zi5,List.filter_nil]
  have hgi:(tl.map Cl.id)[((k:Nat):Int).toNat]?=some tl[k].id:=by simp[hkl]
  have hal:=hacc.length;have hal2:((tl.take k).filter p).length≤k:=zk5 (zc4 _ _) (by simp; omega);generalize htk:tl[k]=c at *;generalize hrk:rs[k]=r at *;refine kP (tN (sQ (bK (rZ (lU (iA aB zT3 I I hbi oM sL) (lK (eB iT3 I hI.rd hgi I) (aT I (sW I (lM I (lU (nC I) (lU (fA e8 I e6 I) (lK (qL fe I (cK hb I)) (lM I (lK (SQ.eq (SQ.lookup mty125 I I (aR.known hm)) (by (rw[hget]; done))) ?_))))))))))))));refine lW (SO.callV I I (hp g _ c r (zb8 g) hmem hcr)) ?_;rintro _ _ _ ⟨rfl,rfl,rfl⟩;refine tZ ?_;refine iQ I (fun hpc=>?_) (fun hpc=>?_)
  ·refine dW [9,10,11] [(0,2),(1,1),(2,2),(3,2),(4,2),(5,1),(6,2),(7,1),(8,0),(9,0),(10,0),(11,0)] ze1 kR ?_;refine pU I (fA dG I cQ I) (pK I (qL fp I (cO 1 I I)) (yM I (pU I (nC I) (pU I (fA e8 I e6 I) (pK I (qL fe I (cK hb I)) (yM I (pK I (SQ.eq (SQ.lookup mty125 I I (aR.known hm)) (by (rw[hget]; done))) ?_)))))));refine SP.o I (bS sty27 I I I (ag sB) dC) dC (.inr iR) ?_;rintro _ _ _ ⟨b33,rfl,rfl,rfl⟩;refine SP.o I (SO.app1 0 ((acc++[r]).flatMap encCell.enc) (acc++[r]).length sty27 I I I I I sB (by (simp[encCell]; rfl)) (by simp) lN lN) dC (.inl dC) ?_;rintro ov' _ _ ⟨rfl,rfl⟩;refine zd1 fun ⟨w0,hw0⟩=>?_;obtain ⟨q',d',rfl⟩:=ae (e:=encCell) (l:=acc++[r]) (i:=0) hw0 rfl;clear hw0 w0;refine oU I (fA dG I cQ I) dC (.inl dC) (SP.on I (sK 1 cQ I I I I I sB) (.inl dC) ?_);rintro _ _ _ ⟨rfl,rfl⟩;refine pN (bN (tN (rG (yD I (lM I (nL ?_))))));exact ST.again (.slice q' (acc++[r]).length d',k+1,acc++[r]) sB I I ⟨lN,by dsimp only; rw[htake,hpc]; exact hacc.append ⟨hcR,trivial⟩⟩ lN
  ·refine kP (bN (tN (rG (yD I (lM I (nL ?_))))));exact ST.again (ov,k+1,acc) sB I I ⟨lN,by dsimp only; rw[htake,hpc]; simpa using hacc⟩ lN
 ·have hkk:tl.take k=tl:=tL oM;rw[hkk] at hacc;refine xI (tX (tX (bX (tN (rZ (SL.freezeRowK fun g2 hle2 hs2=>?_))))));obtain ⟨q2,d2,rfl⟩:=hs2.form;refine lK (qV 0 aA an I I I) (oZ (sK 1 an I I I I I sB) ?_);refine tZ (rE ?_);exact ST.retCD 1 s (.inl I) results91 I aA an I I uR ⟨I,hle2,_,acc,I,hs2,hacc⟩
theorem Ad (E:World)(g:PH)(s:Own)(v pv:Value)(tl:List Cl)(p:Cl→Bool)(hv:Tab g v tl)(hnd:(tl.map Cl.id).Nodup)(hf:aY tl)(hp:rm E pv p tl g) :
  Ctr Tryz.prog E 91 #[v,pv] g s (fun r g' s'=>s=s'∧Le g g'∧∃ u,r = .agg #[u]∧aj g' u (tl.filter p)) :=
 (vL (ak g) E g s v pv tl p (fun _ _ h=>h) hv hnd hf hp).mono fun _ _ _ ⟨h1,h2,u,rs,h3,h4,h5⟩=>⟨h1,h2,u,h3,rs,h4.sl.mono (dT _ _),h5.mono fun _ _=>ak.mono h2⟩
theorem uN {l:List Cl}(p:Cl→Bool)(h:aY l):aY (l.filter p) :=
 ⟨Nat.lt_of_le_of_lt (zc4 _ _) h.1,fun c hc=>h.2 c (zh2.1 hc).1⟩
theorem xl (E:World)(g:PH)(s:Own)(v pv:Value)(tl:List Cl)(p:Cl→Bool)(hv:Tab g v tl)(hnd:(tl.map Cl.id).Nodup)(hf:aY tl)(hp:rm E pv p tl g) :
  Ctr Tryz.prog E 214 #[v,pv] g s (fun r g' s'=>s=s'∧Le g g'∧df g' r ((tl.filter p).map Cl.id)):=by
 have hff:=(uN p hf).1;refine zb1 (args:=[v,pv]) func214 I ntmps214 (bE I) ?_;refine rZ (aT I (rZ (aT I (sQ (sW I (lM I (lW (SO.call call91 I (Ad E g _ v pv tl p hv hnd hf hp)) ?_)))))));rintro _ g1 _ ⟨rfl,hle,u,rfl,rs,hrs,hall⟩;obtain ⟨q,d,rfl⟩:=hrs.form;have hlen:=hall.length;refine lU (SU.field dG I fp I I) (lU (eN aC I) (lM I (tZ (bK ?_))));have hids:=gg hall;refine zb5 3 1 ?_;refine oP (ι:=Value×Nat) (fun i=>[(5,i.1),(11,.slice q rs.length d),(12,vi rs.length),(13,vi i.2)]) (fun _=>g1)
  (fun i=>rowA encInt 3 i.1 ((rs.take i.2).map Rc.id)::s)
  (fun i=>i.2≤rs.length) (fun i=>rs.length - i.2) (.slice none 0 0,0)
  sB rfl rfl (zf4 _) ?_
 rintro ⟨ov,k⟩ hk;dsimp only at hk ⊢;refine rZ (yL I (tZ (sQ ?_)));refine iP I (fun hlt=>?_) (fun hlt=>?_)
 ·have hkr:k<rs.length:=oM;have hb1:=hrs.based oM;have htake:(rs.take (k+1)).map Rc.id=(rs.take k).map Rc.id++[rs[k].id]:=by rw[tS hkr,zg3]; rfl
  have hgx:rs[((k:Nat):Int).toNat]?=some rs[k]:=List.getElem?_eq_getElem hkr;have htl:((rs.take k).map Rc.id).length=k:=by simp; omega
  generalize hx:rs[k]=x at *;refine kP (tN (sQ (bK (rZ (lU (iA aC ao I I hb1 oM sL) (lK (SQ.elemA ct ao I hrs.rd hgx) (bW (aL zl2) fun b7=>?_)))))));refine oZ (sK 0 ao I I I I I sB) ?_;refine tZ (rG (lM I (lU (fA ay I zT3 I) (lK (qL iT3 I (cO 0 I I)) (lW (bS sty52 I I I (ag sB) dC) ?_)))));rintro _ _ _ ⟨b20,rfl,rfl,rfl⟩;refine lW (SO.app1 1 (((rs.take (k+1)).map Rc.id).flatMap encInt.enc) ((rs.take (k+1)).map Rc.id).length sty52 I I I I I ⟨I,trivial⟩ (by rw[htake]; simp[encInt]; rfl) (by rw[htake]; simp) lN lN) ?_;rintro ov' _ _ ⟨rfl,rfl⟩;refine lA I (nL (bN (tN (rG (yD I (lM I (nL (dR (s':=rowA encInt 3 ov' ((rs.take (k+1)).map Rc.id)::s) (.cons _ (.refl _)) ?_))))))));exact ST.again (ov',k+1) sB I I lN lN
 ·refine xI (tX (tX (bX (tN (sW I (aT I (rE ?_)))))));have hkk:rs.take k=rs:=tL oM;rw[hkk];refine fT fun g2 h2 hrow=>?_;exact za7 (.inl I) results214 I ⟨I,hle.trans h2,by rw[hids]; exact hrow⟩
def A5 (E:World)(pv:Value)(q:ah→Bool)(g:PH):Prop :=
 ∀ g' s a,Le g g'→bM Tryz.prog E pv [.agg (encSide.enc a).toArray] g' s (fun x g'' s''=>x=vb (q a)∧g'=g''∧s=s'')
theorem xy (E:World)(g:PH)(s:Own)(v:Value)(kn:FuncId)(kc:Array Value)(l:List ah)(q:ah→Bool)(hv:SlA encSide g v l)(hl:l.length<1099511627776)(hp:A5 E (.func (.func kn) #[] kc) q g) :
  Ctr Tryz.prog E 168 #[v,.func (.func kn) #[] kc] g s (fun r g' s'=>(∃ n:Int,r=vi n∧decide (n≥0)=l.any q)∧g=g'∧s=s'):=by
 obtain ⟨p,c,rfl⟩:=hv.form;refine zb1 (args:=[.slice p l.length c,.func (.func kn) #[] kc]) func168 I ntmps168 (bE I) ?_;refine rZ (aT I (sQ (sW I (lU (eN bh I) (lM I (tZ (bK ?_)))))));refine oP (ι:=Nat) (fun k=>[(0,.slice p l.length c),(1,.func (.func kn) #[] kc),(7,vi l.length),(8,vi k)]) (fun _=>g) (fun _=>s) (fun k=>k≤l.length∧(l.take k).any q=false) (fun k=>l.length - k) 0
  sB rfl rfl ⟨zf4 _,by simp⟩ ?_
 rintro k ⟨hk,hno⟩;refine rZ (yL I (tZ (sQ ?_)));refine iP I (fun hlt=>?_) (fun hlt=>?_)
 ·have hkl:k<l.length:=oM;have hb1:=hv.based oM;refine kP (tN (sQ (bK (sW I (aT I (sW I (lM I (lM I (lU (iA bh aH I I hb1 oM sL) ?_)))))))));refine SL.q (SQ.elemA fw aH I hv.rd (List.getElem?_eq_getElem hkl)) dC ?_;refine lW (SO.callV I I (hp g _ l[k] (zb8 g))) ?_;rintro _ _ _ ⟨rfl,rfl,rfl⟩;refine tZ ?_;refine iQ I (fun hq=>?_) (fun hq=>?_)
  ·refine sW I (aT I (rE (bR (tR (tR (bR (tR ?_)))))));have hany:l.any q=true:=zj6.2 ⟨l[k],gM hkl,hq⟩;exact za7 (.inl I) results168 I ⟨⟨k,I,by rw[hany]; simp⟩,I,I⟩
  ·refine kP (bN (tN (rG (yD I (lM I (nL ?_))))));exact ST.again (k+1) sB I I ⟨oM,by rw[tS hkl,List.any_append,hno]; simpa using hq⟩ oM
 ·refine xI (tX (tX (bX (tN (rZ (aT I (rE ?_)))))));have hkk:l.take k=l:=tL oM;rw[hkk] at hno;exact za7 (.inl I) results168 I ⟨⟨-1,I,by rw[hno]; rfl⟩,rfl,rfl⟩
theorem ld (E:World)(g:PH)(s:Own)(v:Value)(kn:FuncId)(kc:Array Value)(l:List ah)(q:ah→Bool)(hv:SlA encSide g v l)(hl:l.length<1099511627776)(hp:A5 E (.func (.func kn) #[] kc) q g) :
  Ctr Tryz.prog E 149 #[v,.func (.func kn) #[] kc] g s (fun r g' s'=>r=vb (l.any q)∧g=g'∧s=s'):=by
 refine zb1 (args:=[v,.func (.func kn) #[] kc]) func149 I ntmps149 (bE I) ?_;refine rZ (aT I (sW I (lM I (lW (SO.call call168 I (xy E g _ v kn kc l q hv hl hp)) ?_))));rintro _ _ _ ⟨⟨n,rfl,hn⟩,rfl,rfl⟩;refine lU (gQ I I) (aT I (rE ?_));exact za7 (.inl I) results149 I ⟨by rw[hn],I,I⟩
def Eg (c:Cl)(id:Int):Bool:=c.sides.any fun x=>decide (x.cell=id)
theorem hasP (E:World)(g:PH)(b:Nat)(id:Int)(hb:g b=some (.cells #[vi id] 3 (0,0))):A5 E (.func (.func 264) #[] #[pp b 0]) (fun x=>decide (x.cell=id)) g:=by
 intro g s a hle;refine bM.mk (cap:=[pp b 0]) call264 ?_;have hb':=hle _ _ hb;refine zb1 (args:=[.agg (encSide.enc a).toArray,pp b 0]) func264 I ntmps264 (bE I) ?_;refine rZ (bW (bO I) fun b2=>?_);refine aT I (rZ (lU (fA dw I zT3 I) (lK (qL iT3 I (cO 0 I I)) (lK (qL iT3 I (cK hb' I)) (yE I (aT I (rE (dR (s':=s) uR ?_))))))));exact za7 (.inl I) results264 I ⟨I,I,I⟩
theorem B7 (E:World)(g:PH)(s:Own)(c:Cl)(r:Rc)(id:Int)(hc:ak g c r)(hl:c.sides.length<1099511627776) :
  Ctr Tryz.prog E 216 #[rcv r,vi id] g s (fun r g' s'=>r=vb (Eg c id)∧g=g'∧s=s'):=by
 refine zb1 (args:=[rcv r,vi id]) func216 I ntmps216 (bE I) ?_;refine rZ (bW (bO I) fun b2=>?_);refine bW (bO I) fun b3=>?_;refine zb4 fun g1 hle hb=>?_;refine aT I (rZ (lU (fA ay I bJ I) (lK (qL cI I (cO 0 I I)) (lU (SU.mkFunc I) (lW (SO.call call149 I (ld E g1 _ _ 264 #[pp b3 0] c.sides _ (hc.2.2.mono hle) hl (hasP E g1 b3 id hb))) ?_)))));rintro _ _ _ ⟨rfl,rfl,rfl⟩;refine aT I (rE ?_);refine dR (s':=s) (.cons _ (.refl _)) (ST.less hle ?_);exact za7 (.inl I) results216 I ⟨I,I,I⟩
theorem EK (E:World)(g:PH)(b:Nat)(id:Int)(tl:List Cl)(hf:aY tl)(hb:g b=some (.cells #[vi id] 3 (0,0))):rm E (.func (.func 215) #[] #[pp b 0]) (fun c=>Eg c id) tl g:=by
 intro g s c r hle hm hc;refine bM.mk (cap:=[pp b 0]) call215 ?_;have hb':=hle _ _ hb;refine zb1 (args:=[rcv r,pp b 0]) func215 I ntmps215 (bE I) ?_;refine rZ (bW (bO I) fun b2=>?_);refine aT I (rZ (lK (qV 0 ct ao I I I) (lK (qL iT3 I (cK hb' I)) (lW (SO.call call216 I (B7 E g _ c r id hc (hf.2 c hm))) ?_))));rintro _ _ _ ⟨rfl,rfl,rfl⟩;refine aT I (rE (dR (s':=s) uR ?_));exact za7 (.inl I) results215 I ⟨I,I,I⟩
def ot (l:List Cl)(id:Int):List Int:=((ai l).filter fun c=>Eg c id).map Cl.id
theorem xY (E:World)(g:PH)(s:Own)(v:Value)(l:List Cl)(id:Int)(hv:aj g v l)(hf:aY l) :
  Ctr Tryz.prog E 167 #[.agg #[v],vi id] g s (fun r g' s'=>s=s'∧Le g g'∧df g' r (ot l id)):=by
 refine zb1 (args:=[.agg #[v],vi id]) func167 I ntmps167 (bE I) ?_;refine rZ (bW (bO I) fun b2=>?_);refine bW (bO I) fun b3=>?_;refine zb4 fun g1 hle hb=>?_;refine aT I (rZ (lK (qV 0 aA an I I I) (lW (SO.call call52 I (jC E g1 _ v l (hv.mono hle) hf)) ?_)));rintro tv g2 _ ⟨rfl,hle2,ht⟩;refine lU (SU.mkFunc I) (lW (SO.call call214 I (xl E g2 _ tv _ _ _ ht (dZ l) (dz hf) (EK E g2 b3 id _ (dz hf) (hle2 _ _ hb)))) ?_);rintro r8 g3 _ ⟨rfl,hle3,hr⟩;refine aT I (rE (dR (s':=s) uR ?_));exact za7 (.inl I) results167 I ⟨I,hle.trans (hle2.trans hle3),hr⟩
theorem Tryz.mty143:MTy Tryz.prog 143 3 4 (vb false):=⟨underlying143,underlying3,zl3⟩
def xZ:Rc:=⟨0,0,none,0,0⟩
def bi:Cl:=⟨0,0,[]⟩
theorem pO {R:Cl→Rc→Prop}(hR:∀ c r,R c r→r.id=c.id){tl:List Cl}{rs:List Rc}(h:az R tl rs)(k:Int):(tl.find? (fun c=>decide (c.id=k))=none∧dp (rs.map am) k=none)∨∃ c r,tl.find? (fun c=>decide (c.id=k))=some c∧dp (rs.map am) k=some (rcv r)∧R c r:=by
 induction tl generalizing rs with
 | nil=>cases rs with | nil=>exact .inl ⟨rfl,rfl⟩ | cons _ _=>exact h.elim
 | cons c t ih =>
  cases rs with
  | nil=>exact h.elim
  | cons r rs =>
   simp only[zg2,am,cd,zi4];by_cases hk:c.id=k
   ·right;have:k=r.id:=by rw[hR _ _ h.1,hk]
    exact⟨c,r,by simp[hk],by rw[zf8 this],h.1⟩
   ·have hk2:¬ k=r.id:=by rw[hR _ _ h.1]; exact fun e=>hk e.symm
    simp only[hk,decide_false,zf7 hk2];exact ih h.2
theorem AP {g:PH}{tl:List Cl}{rs:List Rc}(h:az (ak g) tl rs)(k:Int):(tl.find? (fun c=>decide (c.id=k))=none∧dp (rs.map am) k=none)∨∃ c r,tl.find? (fun c=>decide (c.id=k))=some c∧dp (rs.map am) k=some (rcv r)∧ak g c r:=pO (fun _ _ h=>h.1) h k
theorem cg {g:PH}{tl:List Cl}{rs:List Rc}(h:az (ak g) tl rs)(hw:∀ g,ak g bi xZ)(k:Int):∃ r,(dp (rs.map am) k).getD (.agg #[vi 0,vi 0,.slice none 0 0])=rcv r∧(dp (rs.map am) k).isSome=(tl.find? (fun c=>decide (c.id=k))).isSome∧ak g ((tl.find? (fun c=>decide (c.id=k))).getD bi) r:=by
 rcases AP h k with ⟨h1,h2⟩ | ⟨c,r,h1,h2,h3⟩
 ·exact⟨xZ,by rw[h2]; rfl,by rw[h1,h2]; rfl,by rw[h1]; exact hw g⟩
 ·exact⟨r,by rw[h2]; rfl,by rw[h1,h2]; rfl,by rw[h1]; exact h3⟩
theorem eU (g:PH):ak g bi xZ:=⟨rfl,rfl,zb9 g _⟩
def findC (l:List Cl)(id:Int):Option Cl:=(ai l).find? fun c=>decide (c.id=id)
def Es (tl:List Cl)(k:Int):Bool:=tl.any fun c=>Eg c k
def CY (l:List Cl):List Int:=((ai l).filter fun c=>!Es (ai l) c.id).map Cl.id
theorem wu {g:PH}{tl:List Cl}{rs:List Rc}(h:az (ak g) tl rs){r:Rc}(hr:r∈rs):∃ c,c∈tl∧ak g c r:=by
 obtain ⟨i,hi,rfl⟩:=zc6 hr;have hl:=h.length;have hi':i<tl.length:=oM;exact⟨tl[i],gM hi',h.get (List.getElem?_eq_getElem hi') (List.getElem?_eq_getElem hi)⟩
theorem BM {tl:List Cl}(h:(tl.map Cl.id).Nodup){a b:Cl}(ha:a∈tl)(hb:b∈tl)(e:a.id=b.id):a=b:=by
 induction tl with
 | nil=>simp at ha
 | cons c t ih =>
  simp only[zg2,zj9] at h
  rcases ze8.1 ha with rfl | ha' <;> rcases ze8.1 hb with rfl | hb'
  ·rfl
  ·exact absurd (ze9.2 ⟨b,hb',e.symm⟩) h.1
  ·exact absurd (ze9.2 ⟨a,ha',e⟩) h.1
  ·exact ih h.2 ha' hb'
theorem ur {vc tl:List Cl}(hs:∀ c∈vc,c∈tl)(hp:(vc.map Cl.id).Perm (tl.map Cl.id))(hn:(tl.map Cl.id).Nodup):vc.Perm tl:=by
 have hn2:(vc.map Cl.id).Nodup:=hp.symm.nodup hn;refine (List.perm_ext_iff_of_nodup (List.Pairwise.of_map Cl.id (fun a b hab e=>hab (by rw[e])) hn2) (List.Pairwise.of_map Cl.id (fun a b hab e=>hab (by rw[e])) hn)).2 fun c=>⟨hs c,fun hc=>?_⟩;obtain ⟨c',h1,h2⟩:=ze9.1 (hp.symm.subset (ze9.2 ⟨c,hc,rfl⟩));rw[← BM hn (hs c' h1) hc h2];exact h1
theorem sY {g:PH}{vl:List (Int×Value)}{rs:List Rc}{vc tl:List Cl}(hv:vl.map Prod.fst=vc.map Cl.id)(hs:∀ c∈vc,c∈tl)(hn:(tl.map Cl.id).Nodup)(hall:az (ak g) tl rs)(hp:vl.Perm (rs.map am)):vc.Perm tl:=by
 refine ur hs ?_ hn;have h1:=hp.map Prod.fst;rw[hv,zi3] at h1;rw[gg hall];exact h1
theorem Ez {f:Fr}{t:Nat}{a b:Int}(h:aN f t=some (vi a))(e:a=b):aN f t=some (vi b):=e ▸ h
theorem mB {α:Type}{s:List α}{i:Nat}{a:α}(h:s[i]?=some a):s.set i a=s:=by
 apply List.ext_getElem?;intro j;rw[List.getElem?_set];split
 ·rename_i e;subst e;split
  ·exact h.symm
  ·rename_i h2;rw[List.getElem?_eq_none oM]
 ·rfl
def ab (tl:List Cl)(id:Int):Option Cl:=tl.find? fun c=>decide (c.id=id)
def dx (tl:List Cl):Nat→Int→List Int→List Int
 | 0,_,vis=>vis
 | n+1,id,vis =>
  match ab tl id with
  | none=>vis
  | some c=>if vis.contains id then vis else c.sides.foldl (fun v x=>dx tl n x.cell v) (vis++[id])
theorem nK (tl:List Cl)(n:Nat)(id:Int)(vis:List Int):dx tl (n+1) id vis=(match ab tl id with
  | none=>vis
  | some c=>if vis.contains id then vis else c.sides.foldl (fun v x=>dx tl n x.cell v) (vis++[id])):=rfl
def n5 (tl:List Cl)(vis:List Int):Nat:=(tl.filter fun c=>!vis.contains c.id).length
def m0 (tl:List Cl)(ids:List Int):List Int:=ids.foldl (fun v id=>dx tl (tl.length+1) id v) []
theorem oT (tl:List Cl):∀ (n:Nat) (id:Int) (vis:List Int) (x:Int),x∈vis→x∈dx tl n id vis
 | 0,_,_,_,h=>h
 | n+1,id,vis,x,h=>by
  unfold dx;split
  ·exact h
  ·split
   ·exact h
   ·rename_i c _ _;have:∀ (l:List ah) (v:List Int),x∈v→x∈l.foldl (fun v y=>dx tl n y.cell v) v:=by
     intro l;induction l with
     | nil=>intro v hv; exact hv
     | cons y t ih=>intro v hv; exact ih _ (oT tl n y.cell v x hv)
    exact this _ _ (by simp[h])
theorem nn {tl:List Cl}{v v':List Int}(h:∀ x∈v,x∈v'):n5 tl v'≤n5 tl v:=by
 unfold n5;rw[← List.countP_eq_length_filter,← List.countP_eq_length_filter];apply List.countP_mono_left;intro c _ hp;simp at hp ⊢;exact fun e=>hp (h _ e)
theorem zm {tl:List Cl}{v:List Int}{c:Cl}(hc:c∈tl)(hn:v.contains c.id=false):n5 tl (v++[c.id])<n5 tl v:=by
 induction tl with
 | nil=>simp at hc
 | cons d t ih =>
  have hm:n5 t (v++[c.id])≤n5 t v:=nn (fun x hx=>by simp[hx]);have e1:∀ u:List Int,n5 (d::t) u=(if u.contains d.id then 0 else 1)+n5 t u:=fun u=>by
   unfold n5;rw[zi5];cases u.contains d.id <;> simp <;> omega
  rw[e1,e1]
  rcases ze8.1 hc with rfl | hc'
  ·have:(v++[c.id]).contains c.id=true:=by simp
   rw[this,hn];simp;omega
  ·have:=ih hc';cases h1:v.contains d.id
   ·cases h2:(v++[c.id]).contains d.id <;> simp <;> omega
   ·have h2:(v++[c.id]).contains d.id=true:=by simp at h1 ⊢; exact .inl h1
    rw[h2];simp;exact this
def gj (vis:List Int):List (Int×Value):=vis.map fun k=>(k,vb true)
theorem vC (vis:List Int):ET (gj vis) (fun k=>vis.contains k):=by
 intro k;induction vis with
 | nil=>rfl
 | cons a t ih =>
  simp only[gj,zg2,cd] at ih ⊢;by_cases h:k=a
  ·simp[h]
  ·have h2:(k == a)=false:=by simpa using h
   rw[zf7 h,ih];simp[h]
theorem qm {vis:List Int}{id:Int}(h:vis.contains id=false):fo (gj vis) id (vb true)=gj (vis++[id]):=by
 rw[kQ _ _ _ (fun p hp=>by
  obtain ⟨a,ha,rfl⟩:=ze9.1 hp;intro e;simp at h;exact h (by rw[← e]; exact ha))]
 simp[gj]
theorem ar {tl:List Cl}{id:Int}{c:Cl}(h:ab tl id=some c):c∈tl∧c.id=id:=⟨zk4 h,by simpa using List.find?_some h⟩
theorem fj {α:Type}{l:List α}{j:Nat}{y:α}(h:l[j]?=some y):l.take (j+1)=l.take j++[y]:=by
 obtain ⟨h1,h2⟩:=zf3.1 h;rw[tS h1,h2]
theorem zf {α:Type}{s:List α}{i:Nat}{a:α}(h:s[i]?=some a)(b:α):(s.set i b)[i]?=some b:=by
 have:=(zf3.1 h).1;simp[this]
theorem w4 (E:World)(g:PH)(bt bm bf m:Nat)(tv:Value)(tl:List Cl)(hv:Tab g tv tl)(hf:aY tl)(h2:g bt=some (.cells #[tv] 105 (0,0)))(h5:g bm=some (.cells #[.map (some m)] 143 (0,0)))
  (h6:g bf=some (.cells #[.func (.func 160) #[] #[pp bt 0,pp bm 0,pp bf 0]] 169 (0,0))):∀ (n:Nat) (id:Int) (vis:List Int) (s:Own) (i:Nat),n5 tl vis<n→s[i]?=some (mp m (gj vis)) →
  Ctr Tryz.prog E 160 #[vi id,pp bt 0,pp bm 0,pp bf 0] g s (fun _ g' s'=>g=g'∧s'=s.set i (mp m (gj (dx tl n id vis)))):=by
 intro n;induction n with
 | zero=>intro id vis s i h; omega
 | succ n ih =>
 intro id vis s i hcnt hi;have hv':=hv;obtain ⟨b,mt,iv,rs,rfl,hb,hm,hI,hall⟩:=hv';obtain ⟨x,hx1,hx2,hx3⟩:=cg hall eU id;obtain ⟨xi,xd,xp,xn,xc⟩:=x;have hxs:SlA encSide g (.slice xp xn xc) ((ab tl id).getD bi).sides:=hx3.2.2;have hxn:xn=((ab tl id).getD bi).sides.length:=zc1 hxs;subst hxn;refine zb1 (args:=[vi id,pp bt 0,pp bm 0,pp bf 0]) func160 I ntmps160 (bE I) ?_;refine rZ (lK (qL isAgg105 I (cK h2 I)) (lU (nC I) (lU (fA e8 I e6 I) (lK (qL fe I (cK hb I)) (lM I (lK (SQ.eq (v':=.tuple #[rcv ⟨xi,xd,xp,((ab tl id).getD bi).sides.length,xc⟩,vb (decide ((ab tl id).isSome=true))]) (SQ.lookupOk mty125 I I (aR.known hm)) (by rw[hx1,hx2,Bool.decide_eq_true]; rfl)) ?_))))));refine lM I (yX I (yX I (bW (aL zl2) fun b5=>?_)));refine oZ (sK 0 ao I I I I I sB) ?_;refine aT I (sQ ?_);refine SC.cutB 24 (!(ab tl id).isSome||vis.contains id) ?_ ?_
 ·refine rG (lM I (lU (SU.notP I) (lM I ?_)));refine sP ?_ ?_
  ·intro h20;refine yA I (yA I (yA I (yP I (nL ?_))));exact za9 (by simp_all[aN]) mI
  ·intro h20;refine SL.gq (gT I I I dC) (qL isAgg143 I (cK h5 I)) dC (yC I (SL.gq (gT I I I dC) (SQ.eq (v':=vb (decide (vis.contains id=true))) (SQ.lookup mty143 I I (aR.own (i+1) hi)) (by rw[(vC vis).get id]; simp)) dC ?_));refine yF I (nL ?_);exact za9 (by simp_all[aN]) mI
 refine iQ I (fun hstop=>?_) (fun hstop=>?_)
 ·refine rE (tR (dR (s':=s) uR ?_));have hr:dx tl (n+1) id vis=vis:=by
   unfold dx;cases h:ab tl id with
   | none=>rfl
   | some c =>
    rw[h] at hstop;simp only[Option.isSome_some,Bool.not_true,Bool.false_or] at hstop;simp only[hstop,if_true]
  exact ST.ret0 (.inl I) results160 ⟨I,by rw[hr,mB hi]⟩
 ·obtain ⟨c,hc⟩:∃ c,ab tl id=some c:=by
   cases h:ab tl id with
   | none=>rw[h] at hstop; simp at hstop
   | some c=>exact⟨c,rfl⟩
  obtain ⟨hcm,hcid⟩:=ar hc;have hnv:vis.contains id=false:=by rw[hc] at hstop; simpa using hstop
  have hcl:=hf.2 c hcm;have hcnt2:n5 tl (vis++[id])<n:=by
   have:=zm hcm (by rw[hcid]; exact hnv);rw[hcid] at this;omega
  simp only[hc,Option.getD_some] at hxs ⊢;refine kP (tN (rZ (lK (qL isAgg143 I (cK h5 I)) (lM I (lO (SO.mapUpdate (i+1) mty143 I I I hi) ?_)))));rintro _ _ _ ⟨rfl,rfl⟩;rw[qm hnv];refine tZ (rZ (lU (fA ay I bJ I) (lK (qL cI I (cO 0 I I)) (lU (eN bh I) (lM I (tZ (bK (SC.drop (s':=s.set i (mp m (gj (vis++[id])))) (.cons _ (.refl _)) ?_))))))));refine oP (ι:=Nat×List Int) (fun q=>[(3,pp bf 0),(28,.slice xp c.sides.length xc),(29,vi c.sides.length),(30,vi q.1)]) (fun _=>g)
   (fun q=>s.set i (mp m (gj q.2))) (fun q=>q.1≤c.sides.length∧q.2=(c.sides.take q.1).foldl (fun v x=>dx tl n x.cell v) (vis++[id])∧n5 tl q.2<n) (fun q=>c.sides.length - q.1)
   (0,vis++[id]) sB rfl rfl ⟨zf4 _,by simp,hcnt2⟩ ?_
  rintro ⟨j,vj⟩ ⟨hj,hvj,hcj⟩;dsimp only at hj hvj hcj ⊢;refine rZ (yL I (tZ (sQ ?_)));refine iP I (fun hlt=>?_) (fun hlt=>?_)
  ·have hjl:j<c.sides.length:=oM;have hb1:=hxs.based oM;have hjx:c.sides[((j:Nat):Int).toNat]?=some c.sides[j]:=List.getElem?_eq_getElem hjl;generalize c.sides[j]=y at *;refine kP (tN (sQ (bK (rZ (lU (iA bh aH I I hb1 oM sL) (lK (SQ.elemA fw aH I hxs.rd hjx) (bW (aL zl4) fun b8=>?_)))))));refine oZ (sK 0 aH I I I I I sB) ?_;refine tZ (rG (lK (qL isAgg169 I (cK h6 I)) (lU (fA dw I zT3 I) (lK (qL iT3 I (cO 0 I I)) (lW (SO.callV I I (bM.mk (cap:=[pp bt 0,pp bm 0,pp bf 0]) call160 (ih y.cell vj _ (i+1) hcj (zf hi _)))) ?_)))));rintro _ _ _ ⟨rfl,rfl⟩;refine nL (bN (tN (rG (yD I (lM I (nL (dR (s':=s.set i (mp m (gj (dx tl n y.cell vj)))) (by rw[List.set_cons_zero,List.set_cons_succ,List.set_set]; exact .cons _ (.refl _)) ?_)))))));exact ST.again (j+1,dx tl n y.cell vj) sB I I ⟨lN,by
    rw[fj (j:=j) hjx,zi7,← hvj]; rfl,Nat.lt_of_le_of_lt (nn fun x hx=>oT tl n _ _ x hx) hcj⟩ lN
  ·refine xI (tX (tX (bX ?_)));have hjj:c.sides.take j=c.sides:=tL oM;have hr:dx tl (n+1) id vis=vj:=by
    rw[hjj] at hvj;rw[hvj,nK,hc];simp only[hnv,Bool.false_eq_true,if_false]
   exact ST.ret0 (.inr I) results160 ⟨I,by rw[hr]⟩
theorem zo (tl:List Cl)(v:List Int):n5 tl v≤tl.length:=zc4 _ _
theorem tf (E:World)(g:PH)(s:Own)(v iv:Value)(tl:List Cl)(ids:List Int)(hv:Tab g v tl)(hf:aY tl)(hi:df g iv ids)(hl:ids.length<1099511627776) :
  Ctr Tryz.prog E 93 #[v,iv] g s (fun r g' s'=>∃ m,r = .map (some m)∧Le g g'∧s'=mp m (gj (m0 tl ids))::s):=by
 obtain ⟨p,c,rfl⟩:=za3 hi;have hvc:v.cells = #[v]:=by obtain ⟨b,_,_,_,rfl,_⟩:=hv; rfl
 refine zb1 (args:=[v,.slice p ids.length c]) func93 I ntmps93 (bE I) ?_;refine rZ (bW (bO I) fun b2=>?_);refine zb4 fun g1 hle hb2=>?_;rw[hvc] at hb2;refine aT I (rZ (lW (SO.mkMap) ?_));rintro _ _ _ ⟨m,rfl,rfl,rfl⟩;refine bW (aL zeroValue143) fun b5=>?_;refine oZ (sK 0 sizeOf143 I I I I I ⟨I,trivial⟩) (zb4 fun g2 hle2 hb5=>?_);refine tZ (rZ (bW (aL zeroValue169) fun b6=>?_));refine tZ (rZ (lU (SU.mkFunc I) (oZ (sK 0 sizeOf169 I I I I I ⟨I,trivial⟩) (zb4 fun g3 hle3 hb6=>?_))));refine tZ (sQ (sW I (lU (eN aB I) (lM I (tZ (bK ?_))))));have hv3:=hv.mono (hle.trans (hle2.trans hle3));have hi3:=hi.mono (hle.trans (hle2.trans hle3));refine oP (ι:=Nat×List Int) (fun q=>[(5,pp b5 0),(6,pp b6 0),(11,.slice p ids.length c),(12,vi ids.length),(13,vi q.1)]) (fun _=>g3)
  (fun q=>mp m (gj q.2)::s) (fun q=>q.1≤ids.length∧q.2=(ids.take q.1).foldl (fun v id=>dx tl (tl.length+1) id v) []) (fun q=>ids.length - q.1)
  (0,[]) sB rfl rfl ⟨zf4 _,by simp⟩ ?_
 rintro ⟨j,vj⟩ ⟨hj,hvj⟩;dsimp only at hj hvj ⊢;refine rZ (yL I (tZ (sQ ?_)));refine iP I (fun hlt=>?_) (fun hlt=>?_)
 ·have hjl:j<ids.length:=oM;have hb1:=za5 hi oM;have hjx:ids[((j:Nat):Int).toNat]?=some ids[j]:=List.getElem?_eq_getElem hjl;generalize ids[j]=y at *;refine kP (tN (sQ (bK (rZ (lU (iA aB zT3 I I hb1 oM sL) (lK (eB iT3 I (za6 hi3) hjx I) (aT I (rG (lK (qL isAgg169 I (cK hb6 I)) (lM I (lW (SO.callV I I (bM.mk (cap:=[pp b2 0,pp b5 0,pp b6 0]) call160 (w4 E g3 b2 b5 b6 m v tl hv3 hf ((hle2.trans hle3) _ _ hb2) (hle3 _ _ hb5) hb6 (tl.length+1) y vj _ 0 (zk6 (zo _ _)) I))) ?_)))))))))));rintro _ _ _ ⟨rfl,rfl⟩;refine nL (bN (tN (rG (yD I (lM I (nL ?_))))));exact ST.again (j+1,dx tl (tl.length+1) y vj) sB I I ⟨lN,by rw[fj (j:=j) hjx,zi7,← hvj]; rfl⟩ lN
 ·refine xI (tX (tX (bX (tN (rZ (lK (qL isAgg143 I (cK (hle3 _ _ hb5) I)) (aT I (rE ?_))))))));have hjj:ids.take j=ids:=tL oM;rw[hjj] at hvj;exact za7 (.inl I) results93 I ⟨m,I,hle.trans (hle2.trans hle3),by rw[hvj]; rfl⟩
open Go Go.Sy Go.Pl Go.Proofs Go.Shelf Go.Sort
def uD:Ren :=
 {
  f:=fun x =>
   match x with
   | 189=>132
   | 125=>156
   | 257=>188
   | 128=>209
   | 129=>210
   | 294=>235
   | 295=>236
   | 296=>237
   | 297=>238
   | 298=>239
   | 299=>240
   | 216=>241
   | 300=>242
   | 301=>243
   | 328=>276
   | 329=>259
   | 330=>260
   | 331=>277
   | 332=>278
   | 215=>159
   | 343=>296
   | n=>n,
  t:=fun x =>
   match x with
   | 28=>52
   | 3=>3
   | 46=>203
   | 0=>0
   | 51=>239
   | 53=>145
   | 4=>4
   | 183=>233
   | 182=>232
   | 131=>149
   | 5=>5
   | 9=>9
   | 218=>270
   | 222=>274
   | 228=>292
   | 229=>293
   | n=>n,
  g:=fun x =>
   have n:=x;
   n }
theorem Tryz.lays189:Lays.n189 Tryz.prog uD :=
  {
  mixed:=Eq.refl true,f125:=zb7 func156 (zd9 some kR),
  f128:=zb7 func209 (zd9 some kR),
  f129:=zb7 func210 (zd9 some kR),
  f189:=zb7 func132 (zd9 some kR),
  f215:=zb7 func159 (zd9 some kR),
  f216:=zb7 func241 (zd9 some kR),
  f257:=zb7 func188 (zd9 some kR),
  f294:=zb7 func235 (zd9 some kR),
  f295:=zb7 func236 (zd9 some kR),
  f296:=zb7 func237 (zd9 some kR),
  f297:=zb7 func238 (zd9 some kR),
  f298:=zb7 func239 (zd9 some kR),
  f299:=zb7 func240 (zd9 some kR),
  f300:=zb7 func242 (zd9 some kR),
  f301:=zb7 func243 (zd9 some kR),
  f328:=zb7 func276 (zd9 some kR),
  f329:=zb7 func259 (zd9 some kR),
  f330:=zb7 func260 (zd9 some kR),
  f331:=zb7 func277 (zd9 some kR),
  f332:=zb7 func278 (zd9 some kR),
  f343:=zb7 func296 (zd9 some kR),t0:=uT0,
  a0:=isAgg0,z0:=sizeOf0,v0:=zl8,t3:=uT3,a3:=iT3,
  z3:=zT3,v3:=zk9,t4:=uT4,a4:=isAgg4,z4:=sizeOf4,
  v4:=zl3,t5:=uT5,a5:=isAgg5,z5:=sizeOf5,v5:=zeroValue5,
  t9:=underlying9,a9:=isAgg9,z9:=sizeOf9,v9:=zeroValue9,t28:=aB,
  a28:=fx,z28:=eK,v28:=zeroValue52,t46:=e7,a46:=isAgg203,
  z46:=sizeOf203,v46:=zeroValue203,t51:=underlying239,a51:=isAgg239,
  z51:=sizeOf239,v51:=zeroValue239,t53:=oc,a53:=isAgg145,
  z53:=sizeOf145,v53:=zeroValue145,t131:=underlying149,a131:=isAgg149,
  z131:=sizeOf149,v131:=zeroValue149,t182:=underlying232,a182:=isAgg232,
  z182:=sizeOf232,v182:=zeroValue232,t183:=underlying233,a183:=isAgg233,
  z183:=sizeOf233,v183:=zeroValue233,t218:=underlying270,a218:=isAgg270,
  z218:=sizeOf270,v218:=zeroValue270,t222:=underlying274,a222:=isAgg274,
  z222:=sizeOf274,v222:=zeroValue274,t228:=underlying292,a228:=isAgg292,
  z228:=sizeOf292,v228:=zeroValue292,t229:=underlying293,a229:=isAgg293,
  z229:=sizeOf293,v229:=zeroValue293 }
def dU (l:List Int):List Int:=l.mergeSort fun x y=>decide (x≤y)
theorem fk (l:List Int):(dU l).length=l.length:=List.length_mergeSort ..
theorem oO (l:List Int):(dU l).Perm l:=List.mergeSort_perm ..
theorem nk (l:List Int):l.flatMap encInt.enc=l.map (Value.int .i64):=by
 induction l with
 | nil=>rfl
 | cons a t ih=>simp only[zh3,zg2,ih]; rfl
theorem qR (E:World)(g:PH)(s:Own)(v:Value)(l:List Int)(i:Nat)(hi:s[i]?=some (rowA encInt 3 v l))(hl:l.length<17592186044416) :
  Ctr Tryz.prog E 132 #[v] g s (fun _ g' s'=>g=g'∧s'=s.set i (rowA encInt 3 v (dU l))):=by
 intro w hw;obtain ⟨h1,h2⟩:=fM hw hi
 rcases h2 with ⟨p,rfl,hn⟩ | ⟨b,cap,cur,rfl,hb,hle,hcm,hcs,ht⟩
 ·have hl0:l=[]:=zf2 hn;subst hl0;refine (Any.slices_Sort_int_none lays189 p 0 w).mono ?_;rintro e w' ⟨rfl,rfl⟩;refine⟨_,g,s,I,hw,I,?_⟩;have:dU []=[]:=by simp[dU]
  rw[this];exact (mB hi).symm
 ·have ht':cur.toList.take l.length=l.map (Value.int .i64):=by rw[← nk]; simpa using ht
  refine (Any.slices_Sort_int lays189 b 0 (cap+1) l w (holds_of_blockI hb ht') (Array.getElem?_eq_some_iff.1 hb).1 oM).mono ?_;rintro e w' ⟨rfl,n,os,rfl⟩;have hfr:=hw.fresh _ (zf9 hi) b rfl;refine⟨_,g,_,I,?_,I,I⟩;obtain ⟨q1,q2,q3,q4,q5⟩:=grownBy_sortedI (w:=w) (g:=b) (n:=n) (os:=os) (dU l).toArray;refine hw.turn hi I ⟨I,(by exact Nat.le_add_right _ _)⟩ I q4 (fun k hk hne=>q5 k hk hne) ?_ ?_
  ·have h5:=heap_sortedI (n:=n) (os:=os) (dU l).toArray hb;have hlen:=fk l;have:=dA (w:=grow (putRow (Value.int .i64) (Sort.ahead w n) b 0 (dU l).toArray) os) (T:=3) (k:=1) (n:=(dU l).length) (b:=b) (cap:=cap) (xs:=(dU l).flatMap encInt.enc) (by rw[encInt.length]) h5 oM hcm (by simp[putCells]; simpa using hcs) (by
    rw[nk,Nat.mul_one];exact take_putCellsI cur (dU l) (by rw[hlen,hcs]; omega))
   rw[hlen] at this;rw[show rowA encInt 3 (.slice (some ⟨b,0,none⟩) l.length (cap+1)) (dU l)=row 3 1 (.slice (some ⟨b,0,none⟩) l.length (cap+1)) l.length ((dU l).flatMap encInt.enc) by simp only[rowA,hlen]];exact this
  ·intro b' hb';simp only[rowA,row,mq,zg5] at hb';subst hb';exact⟨Nat.lt_of_lt_of_le (Array.getElem?_eq_some_iff.1 hb).1 q4,.inl I⟩
def eY (c:Cl):Bool:=decide (c.dim<0)||decide (c.dim>8)
def aU (c:Cl):Bool:=(decide (c.dim=0)&&decide ((c.sides.length:Int)>0))||(decide (c.dim=1)&&decide ((c.sides.length:Int)≠2))||(decide (c.dim>1)&&(decide ((c.sides.length:Int)<2)||decide ((c.sides.length:Int)>64)))
def bL (tl:List Cl)(c:Cl)(i:Nat)(x:ah):Bool:=!(ab tl x.cell).isSome||decide (((ab tl x.cell).getD bi).dim≠c.dim - 1)||(decide (i>0)&&decide ((c.sides[i - 1]?.map ah.cell)=some x.cell))
section
variable {tl:List Cl}{c p:Cl}{i:Nat}{x:ah}
theorem nq (h:¬ (ab tl x.cell).isSome=true):bL tl c i x=true:=by
 have:(ab tl x.cell).isSome=false:=by simpa using h
 simp[bL,this]
theorem sG (h:(ab tl x.cell).isSome=true)(h2:((ab tl x.cell).getD bi).dim≠c.dim - 1):bL tl c i x=true:=by
 simp only[bL,h,h2,Bool.not_true,Bool.false_or,ne_eq,not_false_eq_true,decide_true,Bool.true_or]
theorem sF (h:(ab tl x.cell).isSome=true)(h2:¬ ((ab tl x.cell).getD bi).dim≠c.dim - 1)(h3:¬ (i:Int)>0):bL tl c i x=false:=by
 have h4:¬ i>0:=oM;simp only[bL,h,h2,h4,Bool.not_true,Bool.false_or,decide_false,Bool.false_and]
theorem sz {q:ah}(h:(ab tl x.cell).isSome=true)(h2:¬ ((ab tl x.cell).getD bi).dim≠c.dim - 1)(h3:(i:Int)>0)(hq:c.sides[i - 1]?=some q):bL tl c i x=decide (q.cell=x.cell):=by
 have h4:i>0:=oM;simp only[bL,h,h2,h4,hq,Bool.not_true,Bool.false_or,decide_false,decide_true,Bool.true_and,Option.map_some,zg5]
end
def il (tl:List Cl)(c:Cl)(i:Nat):Bool:=match c.sides[i]? with
 | some x=>bL tl c i x
 | none=>false
def bB (x:ah):Bool:=decide (x.sign≠1)&&decide (x.sign ≠ -1)
theorem rJ {x:ah}(h:x.sign≠1):bB x=decide (x.sign ≠ -1):=by simp[bB,h]
theorem rI {x:ah}(h:¬ x.sign≠1):bB x=false:=by simp[bB,h]
def mo (l:List ah):Int:=(l.map ah.sign).sum
def bV (tl:List Cl)(c:Cl):Int :=
 if eY c then 21 else if aU c then 22 else if (List.range c.sides.length).any (il tl c) then 22 else if c.sides.any bB then 23 else if (decide (c.dim=1)&&decide (mo c.sides≠0)) then 23 else 0
theorem wP {l:List ah}(h:l.any bB=false):mo l≤l.length ∧ -(l.length:Int)≤mo l:=by
 induction l with
 | nil=>simp[mo]
 | cons x t ih =>
  simp only[List.any_cons,Bool.or_eq_false_iff] at h;have:=ih h.2;have hx:x.sign=1∨x.sign = -1:=by
   have h1:=h.1;simp only[bB,Bool.and_eq_false_iff,decide_eq_false_iff_not,ne_eq,Decidable.not_not] at h1;exact h1
  simp only[mo,zg2,List.sum_cons,ze6] at this ⊢;omega
theorem Aw (E:World)(g:PH)(s:Own)(v:Value)(tl:List Cl)(c:Cl)(r:Rc)(hv:Tab g v tl)(hc:ak g c r)(hl:c.sides.length<1099511627776) :
  Ctr Tryz.prog E 54 #[v,rcv r] g s (fun r g' s'=>r=vi (bV tl c)∧g=g'∧s=s'):=by
 obtain ⟨b,mt,iv,rs,rfl,hb,hm,hI,hall⟩:=hv;obtain ⟨ri,rd,rp,rn,rcap⟩:=r;have hcs:SlA encSide g (.slice rp rn rcap) c.sides:=hc.2.2;have hrn:rn=c.sides.length:=zc1 hcs;have hrd:rd=c.dim:=hc.2.1;subst hrn hrd;have hx0:=fun h=>hcs.based h;refine zb1 (args:=[pp b 0,rcv ⟨ri,c.dim,rp,c.sides.length,rcap⟩]) func54 I ntmps54 (bE I) ?_;refine rZ (bW (bO I) fun b3=>?_);refine aT I (rZ (lU (fA ay I bJ I) (lK (qL cI I (cO 0 I I)) (lU (eN bh I) (aT I (sQ (bK ?_)))))));refine SC.cutB 16 (eY c) ?_ ?_
 ·refine rG (lU (fA ay I zT3 I) (lK (qL iT3 I (cO 0 I I)) (yL I (lM I ?_))));refine sP ?_ ?_
  ·intro h20;refine yA I (yA I (yA I (yP I (lA I (nL ?_)))));exact za9 (by simp_all[aN,eY] <;> omega) mI
  ·intro h20;refine lY I I I (fA ay I zT3 I) (SL.gq (gT I I I dC) (qL iT3 I (cO 0 I I)) dC (lY I I I (SU.gtr I I) (yF I (lA I (nL ?_)))));exact za9 (by simp_all[aN,eY] <;> omega) mI
 refine iQ I (fun hdb=>?_) (fun hdb=>?_)
 ·refine rZ (aT I (rE (bR (tR (dR (s':=s) uR ?_)))));exact za7 (.inl I) results54 I ⟨by unfold bV; rw[zf8 hdb],I,I⟩
 ·have hd8:0≤c.dim∧c.dim≤8:=by simp[eY] at hdb; omega
  refine SC.cutB 25 (aU c) ?_ ?_
  ·refine rG (lU (fA ay I zT3 I) (lK (qL iT3 I (cO 0 I I)) (yE I (lM I ?_))));refine sP ?_ ?_
   ·intro h29;refine yC I (lY I I I (SU.gtr I I) (yP I (lM I ?_)));refine sP ?_ ?_
    ·intro h33;refine yA I (yA I (yA I (yA I (yB I (yB I (yA I (yP I (lM I (yA I (yA I (yA I (yA I (yB I (yB I (yB I (yB I (yB I (yB I (yA I (yP I (lA I (nL ?_))))))))))))))))))))));exact za9 (by simp_all[aN,aU] <;> omega) mI
    ·intro h33;refine lY I I I (fA ay I zT3 I) (SL.gq (gT I I I dC) (qL iT3 I (cO 0 I I)) dC (lY I I I (eQ I I) (yC I ?_)));refine sP ?_ ?_
     ·intro h37;refine yC I (lY I I I (nQ I I) (lY I I I (wT I I) (yF I (lM I ?_))));refine sP ?_ ?_
      ·intro h42;refine yA I (yA I (yA I (yA I (yB I (yB I (yB I (yB I (yB I (yB I (yA I (yP I (lA I (nL ?_)))))))))))));exact za9 (by simp_all[aN,aU] <;> omega) mI
      ·intro h42;refine lY I I I (fA ay I zT3 I) (SL.gq (gT I I I dC) (qL iT3 I (cO 0 I I)) dC (lY I I I (SU.gtr I I) (yC I ?_)));refine sP ?_ ?_
       ·intro h46;refine yC I (lY I I I (lS I I) (yC I ?_));refine sP ?_ ?_
        ·intro h49;refine yA I (yA I (lY I I I (wT I I) (lY I I I (wT I I) (yF I (lA I (nL ?_))))));exact za9 (by simp_all[aN,aU] <;> omega) mI
        ·intro h49;refine yC I (lY I I I (SU.gtr I I) (lY I I I (wF I I) (lY I I I (wT I I) (yF I (lA I (nL ?_))))));exact za9 (by simp_all[aN,aU] <;> omega) mI
       ·intro h46;refine yA I (yA I (yA I (yB I (yB I (yA I (lY I I I (wF I I) (yF I (lA I (nL ?_)))))))));exact za9 (by simp_all[aN,aU] <;> omega) mI
     ·intro h37;refine yA I (yA I (lY I I I (wF I I) (yF I (lM I (lY I I I (fA ay I zT3 I) (SL.gq (gT I I I dC) (qL iT3 I (cO 0 I I)) dC (lY I I I (SU.gtr I I) (yC I ?_))))))));refine sP ?_ ?_
      ·intro h46;refine yC I (lY I I I (lS I I) (yC I ?_));refine sP ?_ ?_
       ·intro h49;refine yA I (yA I (lY I I I (wT I I) (lY I I I (wT I I) (yF I (lA I (nL ?_))))));exact za9 (by simp_all[aN,aU] <;> omega) mI
       ·intro h49;refine yC I (lY I I I (SU.gtr I I) (lY I I I (wF I I) (lY I I I (wT I I) (yF I (lA I (nL ?_))))));exact za9 (by simp_all[aN,aU] <;> omega) mI
      ·intro h46;refine yA I (yA I (yA I (yB I (yB I (yA I (lY I I I (wF I I) (yF I (lA I (nL ?_)))))))));exact za9 (by simp_all[aN,aU] <;> omega) mI
   ·intro h29;refine yA I (yA I (yF I (lM I (lY I I I (fA ay I zT3 I) (SL.gq (gT I I I dC) (qL iT3 I (cO 0 I I)) dC (lY I I I (eQ I I) (yC I ?_)))))));refine sP ?_ ?_
    ·intro h37;refine yC I (lY I I I (nQ I I) (lY I I I (wT I I) (yF I (lM I ?_))));refine sP ?_ ?_
     ·intro h42;refine yA I (yA I (yA I (yA I (yB I (yB I (yB I (yB I (yB I (yB I (yA I (yP I (lA I (nL ?_)))))))))))));exact za9 (by simp_all[aN,aU] <;> omega) mI
     ·intro h42;refine lY I I I (fA ay I zT3 I) (SL.gq (gT I I I dC) (qL iT3 I (cO 0 I I)) dC (lY I I I (SU.gtr I I) (yC I ?_)));refine sP ?_ ?_
      ·intro h46;refine yC I (lY I I I (lS I I) (yC I ?_));refine sP ?_ ?_
       ·intro h49;refine yA I (yA I (lY I I I (wT I I) (lY I I I (wT I I) (yF I (lA I (nL ?_))))));exact za9 (by simp_all[aN,aU] <;> omega) mI
       ·intro h49;refine yC I (lY I I I (SU.gtr I I) (lY I I I (wF I I) (lY I I I (wT I I) (yF I (lA I (nL ?_))))));exact za9 (by simp_all[aN,aU] <;> omega) mI
      ·intro h46;refine yA I (yA I (yA I (yB I (yB I (yA I (lY I I I (wF I I) (yF I (lA I (nL ?_)))))))));exact za9 (by simp_all[aN,aU] <;> omega) mI
    ·intro h37;refine yA I (yA I (lY I I I (wF I I) (yF I (lM I (lY I I I (fA ay I zT3 I) (SL.gq (gT I I I dC) (qL iT3 I (cO 0 I I)) dC (lY I I I (SU.gtr I I) (yC I ?_))))))));refine sP ?_ ?_
     ·intro h46;refine yC I (lY I I I (lS I I) (yC I ?_));refine sP ?_ ?_
      ·intro h49;refine yA I (yA I (lY I I I (wT I I) (lY I I I (wT I I) (yF I (lA I (nL ?_))))));exact za9 (by simp_all[aN,aU] <;> omega) mI
      ·intro h49;refine yC I (lY I I I (SU.gtr I I) (lY I I I (wF I I) (lY I I I (wT I I) (yF I (lA I (nL ?_))))));exact za9 (by simp_all[aN,aU] <;> omega) mI
     ·intro h46;refine yA I (yA I (yA I (yB I (yB I (yA I (lY I I I (wF I I) (yF I (lA I (nL ?_)))))))));exact za9 (by simp_all[aN,aU] <;> omega) mI
  refine iQ I (fun hcb=>?_) (fun hcb=>?_)
  ·refine rZ (aT I (rE (bR (tR (dR (s':=s) uR ?_)))));exact za7 (.inl I) results54 I ⟨by unfold bV; rw[zf7 (by simp[hdb]),zf8 hcb],I,I⟩
  ·have hn64:c.sides.length≤64:=by
    simp[aU] at hcb
    rcases Int.lt_trichotomy c.dim 1 with h | h | h
    ·have:c.dim=0:=oM;have:=hcb.1.1 this;simp[this]
    ·have:=hcb.1.2 h;omega
    ·have:=hcb.2 h;omega
   refine kP (bN (tN (sQ (rZ (lU (fA ay I bJ I) (lK (qL cI I (cO 0 I I)) (lU (eN bh I) (lM I (tZ (bK ?_))))))))));refine oP (ι:=Nat) (fun k=>[(0,pp b 0),(3,pp b3 0),(5,vi c.sides.length),(56,.slice rp c.sides.length rcap),(57,vi c.sides.length),(58,vi k)]) (fun _=>g)
    (fun _=>pt b3 (.cells #[vi ri,vi c.dim,.slice rp c.sides.length rcap] 56 (0,0))::s) (fun k=>k≤c.sides.length∧(List.range k).any (il tl c)=false) (fun k=>c.sides.length - k) 0
    sB rfl rfl ⟨zf4 _,by simp⟩ ?_
   rintro k ⟨hk,hno⟩;try dsimp only
   refine rZ (yL I (tZ (sQ ?_)));refine iP I (fun hlt=>?_) (fun hlt=>?_)
   ·have hkl:k<c.sides.length:=oM;have hb1:=hx0 oM;have hjx:c.sides[((k:Nat):Int).toNat]?=some c.sides[k]:=List.getElem?_eq_getElem hkl;have hjx':c.sides[k]?=some c.sides[k]:=List.getElem?_eq_getElem hkl;generalize c.sides[k]=y at *;obtain ⟨x,hx1,hx2,hx3⟩:=cg hall eU y.cell;obtain ⟨xi,xd,xp,xn,xc⟩:=x;have hxd:xd=((ab tl y.cell).getD bi).dim:=hx3.2.1;subst hxd;have hprev:(k:Int)>0→c.sides[((k:Int) - 1).toNat]?=some (c.sides.getD (k - 1) y):=fun h=>by
     have h1:((k:Int) - 1).toNat=k - 1:=oM;have h2:k - 1<c.sides.length:=oM;rw[h1,List.getElem?_eq_getElem h2,zg8,List.getElem?_eq_getElem h2];rfl
    have hprev2:(k:Int)>0→c.sides[k - 1]?=some (c.sides.getD (k - 1) y):=fun h=>by
     have h2:k - 1<c.sides.length:=oM;rw[List.getElem?_eq_getElem h2,zg8,List.getElem?_eq_getElem h2];rfl
    refine kP (tN (sQ (bK (sW I (lU (iA bh aH I I hb1 oM sL) (lK (SQ.elemA fw aH I hcs.rd hjx) (bW (aL zl4) fun b7=>?_)))))));refine lA I (oZ (sK 0 aH I I I I I sB) ?_);refine tZ (sQ ?_);refine dW [11,12] [(0,2),(1,2),(2,2),(3,1),(4,2),(5,1),(6,1),(7,2),(8,2),(9,2),(10,0),(11,0),(12,0)] ze1 kR ?_;refine yM I (pU I (nC I) (pU I (fA e8 I e6 I) (pK I (qL fe I (cK hb I)) (pU I (fA dw I zT3 I) (pK I (qL iT3 I (cO 0 I I)) (pK I (SQ.eq (v':=.tuple #[rcv ⟨xi,((ab tl y.cell).getD bi).dim,xp,xn,xc⟩,vb (decide ((ab tl y.cell).isSome=true))]) (SQ.lookupOk mty125 I I (aR.known hm)) (by rw[hx1,hx2,Bool.decide_eq_true]; rfl)) ?_))))));refine yM I (pU I (xT I I) (pU I (xT I I) (SP.o I (aL zl2) dC (.inr iR) ?_)));rintro _ _ _ ⟨b8,rfl,rfl,rfl⟩;refine SP.on I (sK 0 ao I I I I I sB) (.inl dC) ?_;rintro _ _ _ ⟨rfl,rfl⟩;refine oU I (aS I) dC (.inl dC) (pN (tN ?_));refine SC.cutB 98 (bL tl c k y) ?_ ?_
    ·refine dW [] [(0,2),(1,2),(2,2),(3,2),(4,1),(5,2),(6,1),(7,2),(8,2),(9,2),(10,2),(11,2),(12,2),(13,2),(14,2),(15,1),(16,2),(17,2),(18,2),(19,2),(20,1),(21,2),(22,1),(23,2),(24,2),(25,2)] ze1 kR ?_;refine yM I (pU I (SU.notP I) (yM I ?_));refine SP.split ?_ ?_
     ·intro h75;refine yG I (yI I (yG I (yI I (yG I (yG I (pU I (wT I I) (yM I (yG I (yG I (yG I (yH I (SP.off1 I (zb3 I I I dC) dC (yH I (yH I (yH I (yH I (SP.off1 I (zb3 I I I dC) dC (yH I (SP.off1 I (zb3 I I I dC) dC (yH I (yG I (pU I (wT I I) (pN ?_)))))))))))))))))))))));exact za9 (by exact zd9 (fun b=>some (Value.bool b)) (nq h75).symm) mI
     ·intro h75;refine zb2 I (gT I I I dC) (fA ay I zT3 I) dC (SP.gq I (gT I I I dC) (qL iT3 I (cO 0 I I)) dC (zb2 I (gT I I I dC) (fA ay I zT3 I) dC (SP.gq I (gT I I I dC) (qL iT3 I (cO 2 I I)) dC (zb2 I (gT I I I dC) (sU I I oM) dC (zb2 I (gT I I I dC) (nQ I I) dC (pU I (wF I I) (yM I ?_)))))));refine SP.split ?_ ?_
      ·intro h83;refine yG I (yG I (yG I (yH I (SP.off1 I (zb3 I I I dC) dC (yH I (yH I (yH I (yH I (SP.off1 I (zb3 I I I dC) dC (yH I (SP.off1 I (zb3 I I I dC) dC (yH I (yG I (pU I (wT I I) (pN ?_)))))))))))))));exact za9 (by exact zd9 (fun b=>some (Value.bool b)) (sG (zg7 h75) h83).symm) mI
      ·intro h83;refine yJ I (zb2 I (gT I I I dC) (SU.gtr I I) dC (yJ I ?_));refine SP.split ?_ ?_
       ·intro h86;refine zb2 I (gT I I I dC) (fA ay I bJ I) dC (SP.gq I (gT I I I dC) (qL cI I (cO 2 I I)) dC (yJ I (zb2 I (gT I I I dC) (sU I I oM) dC (zb2 I (gT I I I dC) (iA bh aH I I (by assumption) oM (by (simp[slen]; omega))) dC ?_))));refine zb2 I (gT I I I dC) (fC dw I zT3 I (by assumption)) dC ?_;refine SP.gq I (gT I I I dC) (aZ (o:=0) iT3 I hcs.rd (hprev h86) I) dC (zb2 I (gT I I I dC) (fA dw I zT3 I) dC (SP.gq I (gT I I I dC) (qL iT3 I (cO 1 I I)) dC (zb2 I (gT I I I dC) (eQ I I) dC (zb2 I (gT I I I dC) (wT I I) dC (pU I (wF I I) (pN ?_))))));exact za9 (by exact zd9 (fun b=>some (Value.bool b)) (sz (zg7 h75) h83 h86 (hprev2 h86)).symm) mI
       ·intro h86;refine yG I (yI I (yG I (yG I (yG I (yG I (yI I (yG I (yI I (yG I (zb2 I (gT I I I dC) (wF I I) dC (pU I (wF I I) (pN ?_))))))))))));exact za9 (by exact zd9 (fun b=>some (Value.bool b)) (sF (zg7 h75) h83 h86).symm) mI
    have hbat:il tl c k=bL tl c k y:=by unfold il; rw[hjx']
    refine iQ I (fun hbad=>?_) (fun hbad=>?_)
    ·refine rZ (aT I (rE (bR (tR (tR (bR (tR (dR (s':=s) uR ?_))))))));have hany:(List.range c.sides.length).any (il tl c)=true:=zj6.2 ⟨k,List.mem_range.2 hkl,by rw[hbat]; exact hbad⟩;exact za7 (.inl I) results54 I ⟨by unfold bV; rw[zf7 (by simp[hdb]),zf7 (by simp[hcb]),zf8 hany],I,I⟩
    ·refine kP (bN (tN (rG (yD I (lM I (nL (dR (s':=pt b3 (.cells #[vi ri,vi c.dim,.slice rp c.sides.length rcap] 56 (0,0))::s) (.cons _ (.cons _ (.refl _))) ?_)))))));exact ST.again (k+1) sB I I ⟨oM,by rw[List.range_succ,List.any_append,hno]; simp[hbat,hbad]⟩ oM
   ·refine xI (tX (tX (bX (tN (rZ (aT I (sQ (rZ (lU (fA ay I bJ I) (lK (qL cI I (cO 0 I I)) (lU (eN bh I) (lM I (tZ (bK ?_))))))))))))));have hkk:k=c.sides.length:=oM;subst hkk;refine oP (ι:=Nat) (fun k=>[(3,pp b3 0),(10,vi (mo (c.sides.take k))),(101,.slice rp c.sides.length rcap),(102,vi c.sides.length),(103,vi k)]) (fun _=>g)
     (fun _=>pt b3 (.cells #[vi ri,vi c.dim,.slice rp c.sides.length rcap] 56 (0,0))::s) (fun k=>k≤c.sides.length∧(c.sides.take k).any bB=false) (fun k=>c.sides.length - k) 0
     sB rfl rfl ⟨zf4 _,by simp⟩ ?_
    rintro k ⟨hk2,hns⟩;try dsimp only
    have hsb:=wP hns;have htl:(c.sides.take k).length=k:=by simp; omega
    refine rZ (yL I (tZ (sQ ?_)));refine iP I (fun hlt2=>?_) (fun hlt2=>?_)
    ·have hkl:k<c.sides.length:=oM;have hb1:=hx0 oM;have hjx:c.sides[((k:Nat):Int).toNat]?=some c.sides[k]:=List.getElem?_eq_getElem hkl;have htk:c.sides.take (k+1)=c.sides.take k++[c.sides[k]]:=tS hkl;have hmemy:c.sides[k]∈c.sides:=gM hkl;generalize c.sides[k]=y at *;refine kP (tN (sQ (bK (rZ (lU (iA bh aH I I hb1 oM sL) (lK (SQ.elemA fw aH I hcs.rd hjx) (bW (aL zl4) fun b12=>?_)))))));refine oZ (sK 0 aH I I I I I sB) ?_;refine tZ (sQ ?_);refine SC.cutB 114 (bB y) ?_ ?_
     ·refine rG (lU (fA dw I zT3 I) (lK (qL iT3 I (cO 0 I I)) (lU (nQ I I) (lM I ?_))));refine sP ?_ ?_
      ·intro h110;refine lY I I I (fA dw I zT3 I) (SL.gq (gT I I I dC) (qL iT3 I (cO 0 I I)) dC (lY I I I (nQ I I) (yP I (nL ?_))));exact za9 (by exact zd9 (fun b=>some (Value.bool b)) (rJ h110).symm) mI
      ·intro h110;refine yA I (yA I (yA I (yF I (nL ?_))));exact za9 (by exact zd9 (fun b=>some (Value.bool b)) (rI h110).symm) mI
     refine iQ I (fun hsg=>?_) (fun hsg=>?_)
     ·refine rZ (aT I (rE (tR (bR (tR (tR (bR (tR (dR (s':=s) uR ?_)))))))));have hany:c.sides.any bB=true:=zj6.2 ⟨y,hmemy,hsg⟩;exact za7 (.inl I) results54 I ⟨by unfold bV; rw[zf7 (by simp[hdb]),zf7 (by simp[hcb]),zf7 (by simp[hno]),zf8 hany],I,I⟩
     ·have hyb:y.sign=1∨y.sign = -1:=by
       simp only[bB,Bool.and_eq_false_iff,decide_eq_false_iff_not,ne_eq,Decidable.not_not] at hsg;exact hsg
      refine kP (tN (rG (lM I (lU (fA dw I zT3 I) (lK (qL iT3 I (cO 0 I I)) (lU (aD (m:=mo (c.sides.take k)) (n:=y.sign) I I oM) (lA I (nL (bN (tN (rG (yD I (lM I (nL (dR (s':=pt b3 (.cells #[vi ri,vi c.dim,.slice rp c.sides.length rcap] 56 (0,0))::s) (.cons _ (.refl _)) ?_)))))))))))))));exact ST.again (k+1) ⟨I,Ez I (by rw[htk]; simp[mo]),I,I,I,trivial⟩ I I ⟨oM,by rw[htk,List.any_append,hns]; simp[hsg]⟩ oM
    ·have hkk:c.sides.take k=c.sides:=tL oM;rw[hkk] at hns;rw[hkk];refine xI (tX (tX (bX (tN (sQ ?_)))));refine SC.cutB 126 ((decide (c.dim=1)&&decide (mo c.sides≠0))) ?_ ?_
     ·refine rG (lU (fA ay I zT3 I) (lK (qL iT3 I (cO 0 I I)) (yE I (lM I ?_))));refine sP ?_ ?_
      ·intro h123;refine yC I (lY I I I (nQ I I) (yP I (nL ?_)));exact za9 (by simp_all[aN]) mI
      ·intro h123;refine yA I (yA I (yF I (nL ?_)));exact za9 (by simp_all[aN]) mI
     refine iQ I (fun hend=>?_) (fun hend=>?_)
     ·refine rZ (aT I (rE (tR (dR (s':=s) uR ?_))));exact za7 (.inl I) results54 I ⟨by unfold bV; rw[zf7 (by simp[hdb]),zf7 (by simp[hcb]),zf7 (by simp[hno]),zf7 (by simp[hns]),zf8 hend],I,I⟩
     ·refine kP (tN (rZ (aT I (rE (dR (s':=s) uR ?_)))));exact za7 (.inl I) results54 I ⟨by unfold bV; rw[zf7 (by simp[hdb]),zf7 (by simp[hcb]),zf7 (by simp[hno]),zf7 (by simp[hns]),zf7 (by rw[hend]; simp)],I,I⟩
theorem Tryz.mty167:MTy Tryz.prog 167 3 3 (vi 0):=⟨underlying167,underlying3,zk9⟩
theorem Tryz.mty168:MTy Tryz.prog 168 3 52 (.slice none 0 0):=⟨underlying168,underlying3,zeroValue52⟩
abbrev Ms:=List (Int×Value×List Int)
def fc (ms:Ms):Own:=ms.map fun t=>rowA encInt 3 t.2.1 t.2.2
def iT (ms:Ms):List (Int×Value):=ms.map fun t=>(t.1,t.2.1)
def fU (ms:Ms):List (Int×List Int):=ms.map fun t=>(t.1,t.2.2)
def fy:List (Int×List Int)→Int→Int→List (Int×List Int)
 | [],k,x=>[(k,[x])]
 | (a,l)::r,k,x=>if k=a then (a,l++[x])::r else (a,l)::fy r k x
def eL:List (Int×Int)→Int→Int→List (Int×Int)
 | [],k,x=>[(k,x)]
 | (a,z)::r,k,x=>if k=a then (a,z+x)::r else (a,z)::eL r k x
def dP:List (Int×Int)→Int→Int
 | [],_=>0
 | (a,z)::r,k=>if k=a then z else dP r k
def fg (zl:List (Int×Int)):List (Int×Value):=zl.map fun p=>(p.1,vi p.2)
theorem ky (zl:List (Int×Int))(k:Int):(dp (fg zl) k).getD (vi 0)=vi (dP zl k):=by
 induction zl with
 | nil=>rfl
 | cons p r ih =>
  obtain ⟨a,z⟩:=p;simp only[fg,zg2,cd,dP] at ih ⊢;split
  ·rfl
  ·exact ih
theorem qF (zl:List (Int×Int))(k x:Int):fo (fg zl) k (vi (dP zl k+x))=fg (eL zl k x):=by
 induction zl with
 | nil=>simp[fg,fo,eL,dP]
 | cons p r ih =>
  obtain ⟨a,z⟩:=p;simp only[fg,zg2,fo,dP,eL] at ih ⊢;split
  ·rename_i h; subst h; rfl
  ·simp only[zg2,ih]
theorem lH {zl:List (Int×Int)}{B:Int}(hB:0≤B)(h:∀ p∈zl,-B≤p.2∧p.2≤B)(k:Int) : -B≤dP zl k∧dP zl k≤B:=by
 induction zl with
 | nil=>simp only[dP]; omega
 | cons p r ih =>
  obtain ⟨a,z⟩:=p;simp only[dP];split
  ·exact h (a,z) (by simp)
  ·exact ih fun q hq=>h q (by simp[hq])
theorem lX {zl:List (Int×Int)}{B:Int}(hB:0≤B)(h:∀ p∈zl,-B≤p.2∧p.2≤B)(k:Int){x:Int}(hx : -1≤x∧x≤1):∀ p∈eL zl k x,-(B+1)≤p.2∧p.2≤B+1:=by
 induction zl with
 | nil =>
  intro p hp;simp only[eL,zh5] at hp;subst hp;dsimp only;omega
 | cons q r ih =>
  obtain ⟨a,z⟩:=q;intro p hp;simp only[eL] at hp;have h0:=h (a,z) (by simp);dsimp only at h0;split at hp
  ·rcases ze8.1 hp with rfl | hp
   ·dsimp only; omega
   ·have:=h p (by simp[hp]); omega
  ·rcases ze8.1 hp with rfl | hp
   ·dsimp only; omega
   ·exact ih (fun q hq=>h q (by simp[hq])) p hp
theorem EP (ms:Ms)(k:Int):∃ (ms':Ms) (j:Nat) (v:Value) (l:List Int),ms'[j]?=some (k,v,l)∧(dp (iT ms) k).getD (.slice none 0 0)=v∧(∀ v' x,fo (iT ms) k v'=iT (ms'.set j (k,v',l++[x]))) ∧
  (∀ v' x,fU (ms'.set j (k,v',l++[x]))=fy (fU ms) k x)∧(∀ B,(∀ t∈ms,t.2.2.length≤B)→∀ t∈ms',t.2.2.length≤B)∧∀ E g (hd s:Own) w,At E g (hd++(fc ms++s)) w→At E g (hd++(fc ms'++s)) w:=by
 induction ms with
 | nil =>
  refine⟨[(k,.slice none 0 0,[])],0,.slice none 0 0,[],I,I,fun v' x=>I,fun v' x=>by simp[fU,fy],fun B _ t ht=>by simp at ht; subst ht; simp,fun E g hd s w h=>?_⟩;have h1:=h.nilRow 3 1;refine h1.perm ?_;simp only[fc,List.map_nil,List.nil_append,zg2,List.singleton_append];exact List.perm_middle.symm
 | cons p r ih =>
  obtain ⟨a,u,l0⟩:=p;by_cases hk:k=a
  ·subst hk;refine⟨(k,u,l0)::r,0,u,l0,I,by simp[iT,cd],fun v' x=>by simp[iT,fo],fun v' x=>by simp[fU,fy],fun B h=>h,fun E g hd s w h=>h⟩
  ·obtain ⟨ms',j,v,l,h1,h2,h3,h4,h6,h5⟩:=ih;refine⟨(a,u,l0)::ms',j+1,v,l,by simpa using h1,?_,fun v' x=>?_,fun v' x=>?_,fun B h t ht=>?_,fun E g hd s w h=>?_⟩
   ·rw[← h2];simp[iT,cd,hk]
   ·have:=h3 v' x;simp only[iT,zg2,fo,List.set_cons_succ] at this ⊢;rw[zf7 hk,this]
   ·have:=h4 v' x;simp only[fU,zg2,fy,List.set_cons_succ] at this ⊢;rw[zf7 hk,this]
   ·rcases ze8.1 ht with rfl | ht
    ·exact h _ (by simp)
    ·exact h6 B (fun t ht=>h t (by simp[ht])) t ht
   ·have:=h5 E g (hd++[rowA encInt 3 u l0]) s w (by simpa [fc] using h);simpa [fc] using this
theorem SC.to {P:Program}{N:Nat}{E:World}{c:Code}{Q:Exit→Act→World→Prop}{f:Fr}{g g':PH}{s s':Own}(h:∀ w,At E g s w→At E g' s' w)(hc:SC P N E c Q f g' s'):SC P N E c Q f g s:=fun a w ha hw=>hc a w ha (h w hw)
theorem ST.to {N:Nat}{E:World}{e:Exit}{Q:Exit→Act→World→Prop}{f:Fr}{g g':PH}{s s':Own}(h:∀ w,At E g s w→At E g' s' w)(hc:ST N E Q e f g' s'):ST N E Q e f g s:=fun a w ha hw=>hc a w ha (h w hw)
theorem SL.to {P:Program}{N:Nat}{E:World}{ops:Array Oper}{l:List Oper}{Q:Exit→Act→World→Prop}{f:Fr}{g g':PH}{s s':Own}(h:∀ w,At E g s w→At E g' s' w)(hc:SL P N E ops Q l f g' s'):SL P N E ops Q l f g s:=fun a w ha hw=>hc a w ha (h w hw)
theorem jg {α:Type}(s:List α)(n j:Nat)(x:α):(s.take n).Sublist (s.set (j+n) x):=by
 rw[show s.take n=(s.set (j+n) x).take n by rw[List.take_set_of_le oM]];exact List.take_sublist _ _
theorem SC.drawT {P:Program}{N:Nat}{E:World}{ops:Array Oper}{Q:Exit→Act→World→Prop}{f:Fr}{g:PH}{s:Own}{id:Nat}(n:Nat)(tail:List Nat)(plan:List (Nat×Nat))(hm:P.follows .mixedOrders=true)(hok:tJ ops tail plan=true)
  (h:SP P N E ops Q g (s.take n) tail plan f g s):SC P N E (.region id ops true) Q f g s:=by
 intro a w ha hw;unfold tJ at hok;simp only[zj1,beq_iff_eq] at hok;refine wp_region_any hm (gO _ _ _ _ (S:=At E g (s.take n)) (tail:=tail) ?_);have:=h (Array.replicate ops.size false) a { w with drawn:=w.drawn+1 } hok.1.1 (iw _) hok.2 ha (hw.drew _ (Nat.le_succ _)) (fun _=>(hw.sublist (List.take_sublist n s)).drew _ (Nat.le_succ _));rw[hok.1.2] at this;exact this
theorem qq {ms:Ms}{j:Nat}{k:Int}{v:Value}{l:List Int}(h:ms[j]?=some (k,v,l))(s:Own):(fc ms++s)[j]?=some (rowA encInt 3 v l):=by
 have hj:=(zf3.1 h).1;rw[zg9 (by simpa [fc] using hj)];simp[fc,h]
theorem qp {ms:Ms}{j:Nat}{k:Int}{v v':Value}{l l':List Int}(h:ms[j]?=some (k,v,l))(s:Own):(fc ms++s).set j (rowA encInt 3 v' l')=fc (ms.set j (k,v',l'))++s:=by
 have hj:=(zf3.1 h).1;rw[List.set_append_left _ _ (by simpa [fc] using hj)];simp[fc,List.map_set]
theorem freezeRows {E:World}{w:World}:∀ (ms:Ms) (g:PH) (s:Own),At E g (fc ms++s) w→∃ g',Le g g'∧At E g' s w∧∀ t∈ms,df g' t.2.1 t.2.2
 | [],g,s,h=>⟨g,zb8 g,h,by simp⟩
 | (a,v,l)::r,g,s,h=>by
  have h':At E g (row 3 1 v l.length (l.flatMap encInt.enc)::(fc r++s)) w:=h;obtain ⟨g1,hl1,h1,h2⟩:=h'.freezeRow;obtain ⟨g2,hl2,h3,h4⟩:=freezeRows r g1 s h1;refine⟨g2,hl1.trans hl2,h3,fun t ht=>?_⟩
  rcases ze8.1 ht with rfl | ht
  ·exact Sl.mono h2 hl2
  ·exact h4 t ht
theorem SC.freezeRows {P:Program}{N:Nat}{E:World}{c:Code}{Q:Exit→Act→World→Prop}{f:Fr}{g:PH}{s:Own}{ms:Ms}(h:∀ g',Le g g'→(∀ t∈ms,df g' t.2.1 t.2.2)→SC P N E c Q f g' s):SC P N E c Q f g (fc ms++s):=fun a w ha hw=>by
 obtain ⟨g',h1,h2,h3⟩:=Go.Proofs.YtbbppeihhkhkcaaGreatDoor.freezeRows ms g s hw;exact h g' h1 h3 a w ha h2
def dfs (adj:Int→Option (List Int)):Nat→Int→List Int→List Int
 | 0,_,vis=>vis
 | n+1,id,vis =>
  match adj id with
  | none=>vis
  | some l=>if vis.contains id then vis else l.foldl (fun v x=>dfs adj n x v) (vis++[id])
theorem jd (adj:Int→Option (List Int))(n:Nat)(id:Int)(vis:List Int):dfs adj (n+1) id vis=(match adj id with
  | none=>vis
  | some l=>if vis.contains id then vis else l.foldl (fun v x=>dfs adj n x v) (vis++[id])):=rfl
theorem qf (adj:Int→Option (List Int)):∀ (n:Nat) (id:Int) (vis:List Int) (x:Int),x∈vis→x∈dfs adj n id vis
 | 0,_,_,_,h=>h
 | n+1,id,vis,x,h=>by
  unfold dfs;split
  ·exact h
  ·split
   ·exact h
   ·have:∀ (l:List Int) (v:List Int),x∈v→x∈l.foldl (fun v y=>dfs adj n y v) v:=by
     intro l;induction l with
     | nil=>intro v hv; exact hv
     | cons y t ih=>intro v hv; exact ih _ (qf adj n y v x hv)
    exact this _ _ (by simp[h])
def ez:List (Int×List Int)→Int→List Int
 | [],_=>[]
 | (a,l)::r,k=>if k=a then l else ez r k
def Ba (jl:List (Int×List Int))(k:Int):Bool:=jl.any fun p=>decide (p.1=k)
theorem sa {jl:List (Int×List Int)}{k:Int}(h:Ba jl k=false):ez jl k=[]:=by
 induction jl with
 | nil=>rfl
 | cons p r ih =>
  obtain ⟨a,l⟩:=p;simp only[Ba,List.any_cons,Bool.or_eq_false_iff,decide_eq_false_iff_not] at h;simp only[ez];rw[zf7 (fun e=>h.1 e.symm)];exact ih h.2
def mL (jl:List (Int×List Int))(vis:List Int):Nat:=(jl.filter fun p=>!vis.contains p.1).length
theorem i4 {tl:List (Int×List Int)}{v v':List Int}(h:∀ x∈v,x∈v'):mL tl v'≤mL tl v:=by
 unfold mL;rw[← List.countP_eq_length_filter,← List.countP_eq_length_filter];apply List.countP_mono_left;intro c _ hp;simp at hp ⊢;exact fun e=>hp (h _ e)
theorem zk {tl:List (Int×List Int)}{v:List Int}{k:Int}(hc:Ba tl k=true)(hn:v.contains k=false):mL tl (v++[k])<mL tl v:=by
 induction tl with
 | nil=>simp[Ba] at hc
 | cons d t ih =>
  have hm:mL t (v++[k])≤mL t v:=i4 (fun x hx=>by simp[hx]);have e1:∀ u:List Int,mL (d::t) u=(if u.contains d.1 then 0 else 1)+mL t u:=fun u=>by
   unfold mL;rw[zi5];cases u.contains d.1 <;> simp <;> omega
  rw[e1,e1];simp only[Ba,List.any_cons,zj2,zj3] at hc
  rcases hc with rfl | hc'
  ·have:(v++[d.1]).contains d.1=true:=by simp
   rw[this,hn];simp;omega
  ·have:=ih hc';cases h1:v.contains d.1
   ·cases h2:(v++[k]).contains d.1 <;> simp <;> omega
   ·have h2:(v++[k]).contains d.1=true:=by simp at h1 ⊢; exact .inl h1
    rw[h2];simp;exact this
theorem Ak {g:PH}(js:Ms)(h:∀ t∈js,df g t.2.1 t.2.2)(k:Int):∃ v,(dp (iT js) k).getD (.slice none 0 0)=v∧df g v (ez (fU js) k):=by
 induction js with
 | nil=>exact⟨_,rfl,zb9 g _⟩
 | cons p r ih =>
  obtain ⟨a,u,l⟩:=p;by_cases hk:k=a
  ·subst hk;exact⟨u,by simp[iT,cd],by simpa [fU,ez] using h (k,u,l) (by simp)⟩
  ·obtain ⟨v,h1,h2⟩:=ih fun t ht=>h t (by simp[ht]);exact⟨v,by simpa [iT,cd,hk] using h1,by simpa [fU,ez,hk] using h2⟩
def jf (jl:List (Int×List Int))(i:Int):Option (List Int):=some (ez jl i)
theorem wE (E:World)(g:PH)(bs bj bf m mj:Nat)(js:Ms)(hj:Mp g mj (iT js))(hjs:∀ t∈js,df g t.2.1 t.2.2)(hlen:∀ t∈js,t.2.2.length<1099511627776)(h1:g bs=some (.cells #[.map (some m)] 143 (0,0)))(h2:g bj=some (.cells #[.map (some mj)] 168 (0,0)))
  (h3:g bf=some (.cells #[.func (.func 121) #[] #[pp bs 0,pp bj 0,pp bf 0]] 169 (0,0))):∀ (n:Nat) (id:Int) (vis:List Int) (s:Own) (i:Nat),mL (fU js) vis<n→s[i]?=some (mp m (gj vis)) →
  Ctr Tryz.prog E 121 #[vi id,pp bs 0,pp bj 0,pp bf 0] g s (fun _ g' s'=>g=g'∧s'=s.set i (mp m (gj (dfs (jf (fU js)) n id vis)))):=by
 intro n;induction n with
 | zero=>intro id vis s i h; omega
 | succ n ih =>
 intro id vis s i hcnt hi;obtain ⟨v,hv1,hv2⟩:=Ak js hjs id;have hvl:(ez (fU js) id).length<1099511627776:=by
  have:∀ q:Ms,(∀ t∈q,t.2.2.length<1099511627776)→(ez (fU q) id).length<1099511627776:=by
   intro q hq;induction q with
   | nil=>simp[fU,ez]
   | cons p r ihq =>
    obtain ⟨a,u,l⟩:=p;simp only[fU,zg2,ez];split
    ·exact hq (a,u,l) (by simp)
    ·exact ihq fun t ht=>hq t (by simp[ht])
  exact this js hlen
 generalize hL:ez (fU js) id=L at hv2 hvl;obtain ⟨p,cp,rfl⟩:=za3 hv2;refine zb1 (args:=[vi id,pp bs 0,pp bj 0,pp bf 0]) func121 I ntmps121 (bE I) ?_;refine rZ (lK (qL isAgg143 I (cK h1 I)) (lM I (lK (SQ.eq (v':=vb (vis.contains id)) (SQ.lookup mty143 I I (aR.own i hi)) ((vC vis).get id)) (lU (SU.not I) (tZ ?_)))));refine iQ I (fun hc=>?_) (fun hc=>?_)
 ·have hnv:vis.contains id=false:=by simpa using hc
  refine rZ (lK (qL isAgg143 I (cK h1 I)) (lM I (lO (SO.mapUpdate i mty143 I I I hi) ?_)));rintro _ _ _ ⟨rfl,rfl⟩;rw[qm hnv];refine tZ (rZ (lK (qL isAgg168 I (cK h2 I)) (lM I (lK (SQ.eq (SQ.lookup mty168 I I (aR.known hj)) hv1) (lU (eN aB I) (lM I (tZ (bK ?_))))))));refine oP (ι:=Nat×List Int) (fun q=>[(3,pp bf 0),(15,.slice p L.length cp),(16,vi L.length),(17,vi q.1)]) (fun _=>g)
   (fun q=>s.set i (mp m (gj q.2))) (fun q=>q.1≤L.length∧q.2=(L.take q.1).foldl (fun v x=>dfs (jf (fU js)) n x v) (vis++[id])∧(0<L.length→mL (fU js) q.2<n)) (fun q=>L.length - q.1)
   (0,vis++[id]) sB rfl rfl ⟨zf4 _,by simp,fun hpos=>?_⟩ ?_
  ·cases hh:Ba (fU js) id with
   | false =>
    rw[sa hh] at hL;rw[← hL] at hpos;simp at hpos
   | true =>
    have:=zk hh hnv;dsimp only;omega
  rintro ⟨j,vj⟩ ⟨hj1,hvj,hcj⟩;dsimp only at hj1 hvj hcj ⊢;refine rZ (yL I (tZ (sQ ?_)));refine iP I (fun hlt=>?_) (fun hlt=>?_)
  ·have hjl:j<L.length:=oM;have hb1:=za5 hv2 oM;have hjx:L[((j:Nat):Int).toNat]?=some L[j]:=List.getElem?_eq_getElem hjl;have hjx':L[j]?=some L[j]:=List.getElem?_eq_getElem hjl;generalize L[j]=y at *;refine kP (tN (sQ (bK (rZ (lU (iA aB zT3 I I hb1 oM sL) (lK (eB iT3 I (za6 hv2) hjx I) (aT I (rG (lK (qL isAgg169 I (cK h3 I)) (lM I (lW (SO.callV I I (bM.mk (cap:=[pp bs 0,pp bj 0,pp bf 0]) call121 (ih y vj _ i (hcj oM) (zf hi _)))) ?_)))))))))));rintro _ _ _ ⟨rfl,rfl⟩;refine nL (bN (tN (rG (yD I (lM I (nL ?_))))));exact ST.again (j+1,dfs (jf (fU js)) n y vj) sB I (by rw[List.set_set]) ⟨lN,by
    rw[fj hjx',zi7,← hvj]; rfl,fun h=>Nat.lt_of_le_of_lt (i4 fun x hx=>qf _ n _ _ x hx) (hcj h)⟩ lN
  ·refine xI (tX (tX (bX ?_)));have hjj:L.take j=L:=tL oM;have hr:dfs (jf (fU js)) (n+1) id vis=vj:=by
    rw[hjj] at hvj;rw[hvj,jd];simp only[jf,hL,hnv,Bool.false_eq_true,if_false]
   exact ST.ret0 (.inr I) results121 ⟨I,by rw[hr]⟩
 ·refine kP ?_;have hin:vis.contains id=true:=by simpa using hc
  have hr:dfs (jf (fU js)) (n+1) id vis=vis:=by
   rw[jd];simp only[jf,hin,if_true]
  exact ST.ret0 (.inr I) results121 ⟨I,by rw[hr,mB hi]⟩
inductive Rch (adj:Int→Option (List Int)):Int→Int→Prop
 | refl (a:Int) (h:adj a≠none):Rch adj a a
 | step (a b c:Int) (l:List Int) (h:adj a=some l) (hb:b∈l) (r:Rch adj b c):Rch adj a c
theorem Rch.node {adj:Int→Option (List Int)}{a b:Int}(h:Rch adj a b):adj a≠none:=by
 cases h with
 | refl _ h=>exact h
 | step _ _ _ l h _ _=>rw[h]; simp
theorem nm (adj:Int→Option (List Int)):∀ (n:Nat) (id:Int) (vis:List Int) (x:Int),x∈dfs adj n id vis→x∈vis∨Rch adj id x
 | 0,_,_,_,h=>.inl h
 | n+1,id,vis,x,h=>by
  rw[jd] at h;cases ha:adj id with
  | none=>rw[ha] at h; exact .inl h
  | some l =>
   rw[ha] at h;dsimp only at h;split at h
   ·exact .inl h
   ·have key:∀ (q:List Int) (v:List Int),(∀ y∈q,y∈l)→x∈q.foldl (fun v y=>dfs adj n y v) v→x∈v∨Rch adj id x:=by
     intro q;induction q with
     | nil=>intro v _ hx; exact .inl hx
     | cons y t ih =>
      intro v hq hx
      rcases ih _ (fun z hz=>hq z (by simp[hz])) hx with h1 | h1
      ·rcases nm adj n y v x h1 with h2 | h2
       ·exact .inl h2
       ·exact .inr (.step id y x l ha (hq y (by simp)) h2)
      ·exact .inr h1
    rcases key l _ (fun y hy=>hy) h with h1 | h1
    ·rcases zf1.1 h1 with h2 | h2
     ·exact .inl h2
     ·simp at h2;subst h2;exact .inr (.refl _ (by rw[ha]; simp))
    ·exact .inr h1
theorem iZ (adj:Int→Option (List Int)):∀ (n:Nat) (id:Int) (vis:List Int),vis.Nodup→(dfs adj n id vis).Nodup
 | 0,_,_,h=>h
 | n+1,id,vis,h=>by
  rw[jd];cases adj id with
  | none=>exact h
  | some l =>
   dsimp only;split
   ·exact h
   ·rename_i hc;have key:∀ (q:List Int) (v:List Int),v.Nodup→(q.foldl (fun v y=>dfs adj n y v) v).Nodup:=by
     intro q;induction q with
     | nil=>intro v hv; exact hv
     | cons y t ih=>intro v hv; exact ih _ (iZ adj n y v hv)
    refine key l _ ?_;rw[List.nodup_append];refine⟨h,by simp,fun a ha b hb e=>hc ?_⟩;simp at hb;subst hb;simpa [← e] using ha
theorem jq (adj:Int→Option (List Int))(cnt:List Int→Nat)(hm:∀ v v',(∀ x∈v,x∈v')→cnt v'≤cnt v)(hs:∀ v k l,adj k=some l→l≠[]→v.contains k=false→cnt (v++[k])<cnt v) :
  ∀ (n:Nat) (id:Int) (vis:List Int),cnt vis<n→(adj id≠none→id∈dfs adj n id vis)∧∀ x∈dfs adj n id vis,x ∉ vis→∀ l,adj x=some l→∀ y∈l,adj y≠none→y∈dfs adj n id vis
 | 0,_,_,h=>absurd h oM
 | n+1,id,vis,hc=>by
  rw[jd];cases ha:adj id with
  | none=>exact⟨fun h=>absurd rfl h,fun x hx hn=>absurd hx hn⟩
  | some l =>
   dsimp only;split
   ·rename_i hin;exact⟨fun _=>by simpa using hin,fun x hx hn=>absurd hx hn⟩
   ·rename_i hin;have hin':vis.contains id=false:=by simpa using hin
    have key:∀ (q:List Int) (v:List Int),(∀ x∈vis++[id],x∈v)→(∀ x∈v,x ∉ vis++[id]→∀ l,adj x=some l→∀ y∈l,adj y≠none→y∈v)→(q≠[]→cnt v<n) →
      (∀ x∈v,x∈q.foldl (fun v y=>dfs adj n y v) v)∧(∀ y∈q,adj y≠none→y∈q.foldl (fun v y=>dfs adj n y v) v) ∧
      ∀ x∈q.foldl (fun v y=>dfs adj n y v) v,x ∉ vis++[id]→∀ l,adj x=some l→∀ y∈l,adj y≠none→y∈q.foldl (fun v y=>dfs adj n y v) v:=by
     intro q;induction q with
     | nil=>intro v _ h2 _; exact⟨fun x hx=>hx,by simp,h2⟩
     | cons y t ih =>
      intro v h1 h2 h3;have hcv:=h3 (by simp);obtain ⟨d1,d2⟩:=jq adj cnt hm hs n y v hcv;have hsub:=qf adj n y v;have hcl:∀ x∈dfs adj n y v,x ∉ vis++[id]→∀ l,adj x=some l→∀ z∈l,adj z≠none→z∈dfs adj n y v:=by
       intro x hx hn l hl z hz hzn;by_cases hxv:x∈v
       ·exact hsub z (h2 x hxv hn l hl z hz hzn)
       ·exact d2 x hx hxv l hl z hz hzn
      obtain ⟨e1,e2,e3⟩:=ih (dfs adj n y v) (fun x hx=>hsub x (h1 x hx)) hcl (fun _=>Nat.lt_of_le_of_lt (hm _ _ hsub) hcv);simp only[zi6];refine⟨fun x hx=>e1 x (hsub x hx),fun z hz hzn=>?_,e3⟩
      rcases ze8.1 hz with rfl | hz
      ·exact e1 z (d1 hzn)
      ·exact e2 z hz hzn
    obtain ⟨k1,k2,k3⟩:=key l (vis++[id]) (fun x hx=>hx) (fun x hx hn=>absurd hx hn) (fun hl=>by have:=hs vis id l ha hl hin'; omega);refine⟨fun _=>k1 id (by simp),fun x hx hn l' hl' y hy hyn=>?_⟩;by_cases hxv:x∈vis++[id]
    ·rcases zf1.1 hxv with h | h
     ·exact absurd h hn
     ·simp at h;subst h;rw[ha] at hl';injection hl' with hl'
      subst hl';exact k2 y hy hyn
    ·exact k3 x hx hxv l' hl' y hy hyn
theorem tx {adj:Int→Option (List Int)}{cnt:List Int→Nat}(hm:∀ v v',(∀ x∈v,x∈v')→cnt v'≤cnt v)(hs:∀ v k l,adj k=some l→l≠[]→v.contains k=false→cnt (v++[k])<cnt v){n:Nat}{id:Int}(hc:cnt []<n)(hn:adj id≠none)(x:Int) :
  x∈dfs adj n id []↔Rch adj id x:=by
 obtain ⟨d1,d2⟩:=jq adj cnt hm hs n id [] hc;refine⟨fun h=>(nm adj n id [] x h).resolve_left (by simp),fun h=>?_⟩;have key:∀ a b,Rch adj a b→a∈dfs adj n id []→b∈dfs adj n id []:=by
  intro a b hr;induction hr with
  | refl a _=>exact fun h=>h
  | step a b c l hl hb r ih=>exact fun h=>ih (d2 a h (by simp) l hl b hb r.node)
 exact key id x h (d1 hn)
theorem Rch.mono {adj adj':Int→Option (List Int)}(h:∀ x l,adj x=some l→∀ y∈l,∃ l',adj' x=some l'∧y∈l')(hn:∀ x,adj x≠none→adj' x≠none){a b:Int}(hr:Rch adj a b):Rch adj' a b:=by
 induction hr with
 | refl a h1=>exact .refl a (hn a h1)
 | step a b c l hl hb _ ih =>
  obtain ⟨l',h1,h2⟩:=h a l hl b hb;exact .step a b c l' h1 h2 ih
theorem j8 (jl:List (Int×List Int)):∀ v k l,jf jl k=some l→l≠[]→v.contains k=false→mL jl (v++[k])<mL jl v:=by
 intro v k l hl hne hv;refine zk ?_ hv;cases h:Ba jl k with
 | true=>rfl
 | false =>
  rw[jf,sa h] at hl;injection hl with hl
  exact absurd hl.symm hne
theorem sb (jl:List (Int×List Int))(a b x:Int):ez (fy jl a b) x=if x=a then ez jl x++[b] else ez jl x:=by
 induction jl with
 | nil=>simp[fy,ez]
 | cons p r ih =>
  obtain ⟨k,l⟩:=p;simp only[fy];by_cases h:a=k
  ·subst h;simp only[if_true,ez];split <;> rfl
  ·rw[zf7 h];simp only[ez,ih];by_cases hx:x=k
   ·subst hx;rw[zf8 rfl,zf8 rfl,zf7 (fun e=>h e.symm)]
   ·rw[zf7 hx,zf7 hx]
end Go.Proofs.YtbbppeihhkhkcaaGreatDoor
