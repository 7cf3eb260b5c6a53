/- 4 -/
import Derived.Test.YtkbagdedfdfjhaaGreatDoorFi03
import Derived.Test.YtkbagdedfdfjhaaGreatDoorFi02
import Derived.Shelf.Sort.Plain
import Derived.Shelf.Slices.In.SortNone
import Derived.Sort.OwnSortedInts
set_option linter.unusedSimpArgs false
set_option linter.unusedVariables false
namespace Go.Sy
open Go
def mns (g' g:PH):PH:=fun b=>match g b with | none=>g' b | some _=>none
theorem sr {g' g:PH}{b:Nat}(h:g b=none):mns g' g b=g' b:=by simp only[mns,h]
theorem sk {g' g:PH}{b:Nat}{o:Obj}(h:mns g' g b=some o):g b=none∧g' b=some o:=by
 unfold mns at h;split at h
 ·rename_i e; exact⟨e,h⟩
 ·cases h
theorem fv (g' g:PH):Le (mns g' g) g':=fun _ _ h=>(sk h).2
theorem iM {g g' g'':PH}(h:Le g' g''):Le (mns g' g) (mns g'' g):=fun b o hb=>by
 obtain ⟨h1,h2⟩:=sk hb;rw[sr h1]; exact h _ _ h2
theorem nF {g0 g g':PH}(h:Le g0 g):Le (mns g' g) (mns g' g0):=fun b o hb=>by
 obtain ⟨h1,h2⟩:=sk hb;have:g0 b=none:=by
  cases h3:g0 b with
  | none=>rfl
  | some x=>rw[h _ _ h3] at h1; cases h1
 rw[sr this]; exact h2
section
variable {α:Type}{k:Nat}{e:Enc α k}{T U:TypeId}{g g':PH}{s:Own}{v:Value}{l:List α}
def RK (e:Enc α k)(T:TypeId)(g:PH)(v:Value)(l:List α):Prop:=(∃ p,v = .slice p 0 0∧l=[]) ∨
 ∃ b cap cur,v = .slice (some ⟨b,0,none⟩) l.length (cap+1)∧g b=some (.cells cur T (0,0))∧l.length≤cap+1∧cur.size=(cap+1) * k∧cur.toList.take (l.length * k)=l.flatMap e.enc
theorem RK.mono (h:RK e T g v l)(hl:Le g g'):RK e T g' v l:=by
 rcases h with h | ⟨b,cap,cur,h1,h2,h3⟩
 ·exact .inl h
 ·exact .inr ⟨b,cap,cur,h1,hl _ _ h2,h3⟩
theorem RK.sl (h:RK e T g v l):SlA e g v l:=by
 rcases h with ⟨p,rfl,rfl⟩ | ⟨b,cap,cur,rfl,h2,h3,h4,h5⟩
 ·exact⟨p,0,I,⟨by simp,lR _⟩,fun h=>absurd I h⟩
 ·refine⟨_,_,I,⟨e.length l,h3⟩,fun _=>⟨b,0,cur,T,(0,0),I,h2,fun j x hj=>?_⟩⟩;rw[← h5,zh7] at hj;split at hj
  ·simpa using hj
  ·cases hj
theorem RK.form (h:RK e T g v l):∃ p c,v = .slice p l.length c:=h.sl.form
theorem At.freezeRowK {E:World}{w:World}(h:At E g (rowA e T v l::s) w):∃ g',Le g g'∧At E g' s w∧RK e T (mns g' g) v l:=by
 obtain ⟨hlen,h1⟩:=ge (i:=0) h rfl
 rcases h1 with ⟨p,rfl,h0⟩ | ⟨b,cap,cur,rfl,hb,hle,_,hsz,htake⟩
 ·exact⟨g,zb7 g,h.sublist (zi7 _ _),.inl ⟨p,I,zf1 h0⟩⟩
 ·have hf:=h.fresh _ (List.mem_cons_self ..) b rfl;obtain ⟨h2,h3⟩:=h.freeze (b:=b) rfl hb;exact⟨_,h3,h2,.inr ⟨b,cap,cur,I,by rw[sr hf.1]; exact fw _ _ _,hle,hsz,htake⟩⟩
variable {P:Program}{N:Nat}{E:World}{ops:Array Oper}{Q:Exit→Act→World→Prop}{f:Fr}
theorem SL.freezeRowK {o:List Oper}(h:∀ g',Le g g'→RK e T (mns g' g) v l→SL P N E ops Q o f g' s):SL P N E ops Q o f g (rowA e T v l::s):=fun a w ha hw=>by
 obtain ⟨g',h1,h2,h3⟩:=hw.freezeRowK;exact h g' h1 h3 a w ha h2
end
section
variable {P:Program}{N:Nat}{E:World}{f:Fr}{g:PH}{s:Own}{dst:Option Tmp}{ty:TypeId}{pos:String}{af:Array Edge}{gd:Option (Nat×Bool)}
end
section
variable {α:Type}{k:Nat}{e:Enc α k}{T U:TypeId}{g:PH}{v:Value}{l:List α}
end
end Go.Sy
namespace Go.Proofs.YtkbagdedfdfjhaaGreatDoor
open _root_.Go.Proofs.Tryz _root_.Go.Proofs.YtkbagdedfdfjhaaGreatDoor.Tryz
open Go Go.Sy Go.Pl Go.Proofs
set_option maxRecDepth 100000
structure Cl where
 id:Int
 dim:Int
 sides:List ai
 deriving DecidableEq
def au (g:PH)(c:Cl)(r:Rc):Prop:=r.id=c.id∧r.dim=c.dim∧SlA encSide g (.slice r.sv.p r.sv.n r.sv.c) c.sides
theorem au.mono {g g':PH}(hl:Le g g'){c:Cl}{r:Rc}(h:au g c r):au g' c r:=⟨h.1,h.2.1,h.2.2.mono hl⟩
def am (g:PH)(v:Value)(l:List Cl):Prop:=∃ rs,SlA encCell g v rs∧aB (au g) l rs
theorem am.mono {g g':PH}{v:Value}{l:List Cl}(h:am g v l)(hl:Le g g'):am g' v l:=by
 obtain ⟨rs,h1,h2⟩:=h;exact⟨rs,h1.mono hl,h2.mono fun _ _=>au.mono hl⟩
theorem am.form {g:PH}{v:Value}{l:List Cl}(h:am g v l):∃ p c,v = .slice p l.length c:=by
 obtain ⟨rs,h1,h2⟩:=h;rw[h2.length];exact h1.form
def dB (g:PH)(c:Cl)(r:Rc):Prop:=r.id=c.id∧r.dim=c.dim∧RK encSide 94 g (.slice r.sv.p r.sv.n r.sv.c) c.sides
theorem dB.mono {g g':PH}(hl:Le g g'){c:Cl}{r:Rc}(h:dB g c r):dB g' c r:=⟨h.1,h.2.1,h.2.2.mono hl⟩
theorem dB.cr {g g':PH}(hl:Le g g'){c:Cl}{r:Rc}(h:dB g c r):au g' c r:=⟨h.1,h.2.1,h.2.2.sl.mono hl⟩
def nn (g:PH)(v:Value)(l:List Cl):Prop:=∃ rs,RK encCell 78 g v rs∧aB (dB g) l rs
theorem nn.cells {g g':PH}{v:Value}{l:List Cl}(h:nn g v l)(hl:Le g g'):am g' v l:=by
 obtain ⟨rs,h1,h2⟩:=h;exact⟨rs,h1.sl.mono hl,h2.mono fun _ _=>dB.cr hl⟩
def cZ (l:List Cl):Prop:=l.length<1099511627776∧∀ c∈l,c.sides.length<1099511627776
def ay (c:Cl):Cl:=⟨c.id,c.dim,sortBy ai.cell c.sides⟩
def aa (l:List Cl):List Cl:=(sortBy Cl.id l).map ay
theorem Tryz.build30 (x:Value)(h:x.cells = #[x])(w:World):(Instr.build 30 #[(0,x)]).run Tryz.prog w = .ok (.agg #[x]) w:=by
 have hz:(Value.agg #[Value.slice none 0 0]).cells = #[.slice none 0 0]:=rfl;simp[Instr.build,Instr.fill,h,hz]
theorem F0 (x y:ai)(w:World):(binOp .neq 94 (.agg (encSide.enc x).toArray) (.agg (encSide.enc y).toArray)).run Tryz.prog w = .ok (.bool (decide (x≠y))) w:=by
 have hu:Tryz.prog.underlying 94=some (.struct (Tryz.prog.fieldsOf 94)):=by kernel_rfl
 have hf:(Tryz.prog.fieldsOf 94).toList=(Tryz.prog.fieldsOf 94).toList:=rfl;rw[run_neq_struct,run_equalIn_agg w 9999 94 _ _ hu stoodInHeld94]
 have hfs : ∃ f1 f2,(Tryz.prog.fieldsOf 94).toList = [f1,f2] ∧ f1.name ≠ "_" ∧ f2.name ≠ "_" ∧ f1.type = 3 ∧ f2.type = 3 ∧ f1.offset = 0 ∧ f2.offset = 1:=⟨_,_,rfl,by decide,by decide,rfl,rfl,rfl,rfl⟩
 obtain ⟨f1,f2,e,n1,n2,t1,t2,o1,o2⟩:=hfs;obtain ⟨a,b⟩:=x;obtain ⟨c,d⟩:=y;rw[e];have h1:=run_equalIn_int (P:=Tryz.prog) w 9998 3 .i64 .i64 a c uT3;have h2:=run_equalIn_int (P:=Tryz.prog) w 9998 3 .i64 .i64 b d uT3;simp only[Op.eqFields,n1,n2,t1,t2,o1,o2,encSide,part,ne_eq,not_false_eq_true,if_true,Sem.run_bind,iT3,zc7];simp[h1,h2];by_cases hac:a=c <;> by_cases hbd:b=d <;> simp[hac,hbd]
theorem HD (E:World)(g:PH):AK E (.func (.func 44) #[] #[]) Rc.id g:=by
 intro g s a hle;refine cI.mk (cap:=[]) call44 ?_;refine za9 (args:=[.agg (encCell.enc a).toArray]) func44 I ntmps44 (bE I) ?_;refine rZ (bW (bO I) fun b1=>?_);refine aT I (rZ (lU (fA ar I zT3 I) (lK (qL iT3 I (cO 0 I I)) (aT I (rE (dR (s':=s) uR ?_))))));exact za6 (.inl I) results44 I ⟨I,I,I⟩
theorem Gp (E:World)(g:PH):AJ E (.func (.func 46) #[] #[]) ai.cell g:=by
 intro g s a hle;refine cI.mk (cap:=[]) call46 ?_;refine za9 (args:=[.agg (encSide.enc a).toArray]) func46 I ntmps46 (bE I) ?_;refine rZ (bW (bO I) fun b1=>?_);refine aT I (rZ (lU (fA dK I zT3 I) (lK (qL iT3 I (cO 0 I I)) (aT I (rE (dR (s':=s) uR ?_))))));exact za6 (.inl I) results46 I ⟨I,I,I⟩
theorem uD (E:World)(g:PH)(s:Own)(v:Value)(l:List Cl)(hv:am g v l)(hf:cZ l) :
  Ctr Tryz.prog E 15 #[.agg #[v]] g s (fun r g' s'=>s=s'∧Le g g'∧∃ u,r = .agg #[u]∧nn (mns g' g) u (aa l)):=by
 obtain ⟨rs,hrs,hall⟩:=hv;have hlen:=hall.length;have hfl:=hf.1;have hall':=aB.sortBy (f:=Cl.id) (h:=Rc.id) (fun a b h=>h.1.symm) hall;obtain ⟨p,c,rfl⟩:=za2 hrs;refine za9 (args:=[.agg #[.slice p rs.length c]]) func15 I ntmps15 (bE I) ?_;refine rZ (bW (bO I) fun b1=>?_);refine bW (aL zl4) fun b2=>?_;refine tZ (rZ (lU (fA fq I ek I) (lK (qL ii I (cO 1 I I)) (lW (cL call43 I (FY E g _ _ 44 #[] Rc.id (HD E g) rs hrs oM)) ?_))));rintro r3 _ _ ⟨rfl,rfl⟩;refine zc9 fun ⟨w0,hw0⟩=>?_;obtain ⟨q,d,rfl⟩:=ah (i:=0) hw0 rfl;have hbq:0<(sortBy Rc.id rs).length→based (.slice q (sortBy Rc.id rs).length d)=true:=fun h=>(by obtain ⟨b0,c0,he⟩:=ck (i:=0) hw0 rfl h; rw[he]; rfl);clear hw0 w0;refine aT I (sQ (sW I (lU (eN aO I) (lM I (tZ (bK ?_))))));have hsl:(sortBy Rc.id rs).length=rs.length:=fL rs;refine oP (ι:=PH×List Rc×List Rc×List Cl×List Cl) (fun i=>[(2,pp b2 0),(3,.slice q (sortBy Rc.id rs).length d),(9,vi (sortBy Rc.id rs).length),(10,vi i.2.1.length)]) (fun i=>i.1)
  (fun i=>rowA encCell 78 (.slice q (sortBy Rc.id rs).length d) (i.2.1++i.2.2.1)::pt b2 (.cells #[.slice none 0 0] 30 (0,0))::pt b1 (.cells #[.slice p rs.length c] 30 (0,0))::s)
  (fun i=>Le g i.1∧aB (dB (mns i.1 g)) i.2.2.2.1 i.2.1∧aB (au g) i.2.2.2.2 i.2.2.1∧aa l=i.2.2.2.1++i.2.2.2.2.map ay∧(i.2.1.length+i.2.2.1.length=(sortBy Rc.id rs).length∧∀ x∈i.2.2.2.2,x∈l)) (fun i=>i.2.2.1.length)
  (g,[],sortBy Rc.id rs,[],sortBy Cl.id l) sB rfl rfl ⟨zb7 g,trivial,hall',by simp[aa],by simp,fun x hx=>(dh l x).1 hx⟩ ?_
 rintro ⟨g1,ds,rest,dl,rl⟩ ⟨hle,hd,hr,hcan,hlen1,hmem⟩;dsimp only at hle hd hr hcan hlen1 hmem ⊢;have hrl:=hr.length;refine rZ (yL I (tZ (sQ ?_)));refine iP I (fun hlt=>?_) (fun hlt=>?_)
 ·cases rest with
  | nil=>simp at hlen1; omega
  | cons x rest =>
  obtain ⟨cx,rl',hrle,hcx,hr'⟩:=hr.cons_right;subst hrle;have hxl:cx.sides.length<1099511627776:=hf.2 cx (hmem cx (by simp));simp only[ze5] at hlen1;have hgx:(ds++x::rest)[((ds.length:Nat):Int).toNat]?=some x:=bV oM;have hbs:based (.slice q (sortBy Rc.id rs).length d)=true:=hbq oM;refine kP (tN (sQ (bK (sW I (aT I (rG (lM I (lM I (lM I (lM I (lU (iA aO aK I I hbs oM sL) (lU (fC ar I cA I hbs) (lK (aZ (o:=2) dE I (zb5 0 I) hgx I) (lW (cL call45 I (FX E g1 _ _ 46 #[] ai.cell (Gp E g1) cx.sides (hcx.2.2.mono hle) hxl)) ?_))))))))))))));rintro r20 _ _ ⟨rfl,rfl⟩;refine SL.freezeRowK fun g2 hle2 hs2=>?_;obtain ⟨q2,d2,rfl⟩:=hs2.form;refine lU (iA aO aK I I hbs oM sL) (lU (fC ar I cA I hbs) (oZ (SO.partA (o:=2) 0 ⟨x.id,x.dim,q2,_,d2⟩ cA I I I hgx I I dC I) (nL (bN (tN (rG (yD I (lM I (nL ?_)))))))));exact gA (g2,ds++[⟨x.id,x.dim,q2,(sortBy ai.cell cx.sides).length,d2⟩],rest,dl++[ay cx],rl') ⟨I,I,I,bP lN,trivial⟩ I (by
    dsimp only;rw[show (ds++x::rest).set ((ds.length:Nat):Int).toNat ⟨x.id,x.dim,q2,(sortBy ai.cell cx.sides).length,d2⟩=ds++[⟨x.id,x.dim,q2,(sortBy ai.cell cx.sides).length,d2⟩]++rest by rw[dq oM]; simp];rfl) ⟨hle.trans hle2,(hd.mono fun _ _=>dB.mono (iM hle2)).append ⟨(by exact⟨hcx.1,hcx.2.1,hs2.mono (nF hle)⟩:dB (mns g2 g) (ay cx) ⟨x.id,x.dim,q2,(sortBy ai.cell cx.sides).length,d2⟩),trivial⟩,hr',by rw[hcan]; simp,lN,fun y hy=>hmem y (by simp[hy])⟩ lN
 ·have hr0:rest=[]:=zf1 oM;subst hr0;have hrl0:rl=[]:=hr.nil_right;subst hrl0;refine xI (tX (tX (bX (tN (rZ (SL.freezeRowK fun g2 hle2 hs2=>?_))))));refine lM I (lU (za1 I (build30 _ I)) (oZ (sK 0 aw I I I I I sB) ?_));refine tZ (rE ?_);refine ST.retCD 0 s (.inl I) results15 I bq aw I I (.cons _ (.cons _ (.refl _))) ⟨I,hle.trans hle2,_,I,ds,?_,?_⟩
  ·simpa using hs2.mono (nF hle)
  ·rw[hcan];simpa using hd.mono fun _ _=>dB.mono (iM hle2)
theorem ir (E:World)(g:PH)(s:Own)(v:Value)(l:List Cl)(hv:am g v l)(hf:cZ l) :
  Ctr Tryz.prog E 15 #[.agg #[v]] g s (fun r g' s'=>s=s'∧Le g g'∧∃ u,r = .agg #[u]∧am g' u (aa l)) :=
 (uD E g s v l hv hf).mono fun _ _ _ ⟨h1,h2,u,h3,h4⟩=>⟨h1,h2,u,h3,h4.cells (fv _ _)⟩
theorem na {α:Type}{l m:List α}{k:Nat}(h1:k<l.length)(h2:k<m.length)(h:l.take k=m.take k)(he:l[k]=m[k]):l.take (k+1)=m.take (k+1):=by
 rw[tS h1,tS h2,h,he]
theorem pm {α:Type}{l m:List α}(hl:l.length=m.length)(h:l.take l.length=m.take l.length):l=m:=by
 rw[tL (lR _),tL oM] at h;exact h
theorem SU.neqSide {N:Nat}{f:Fr}{dst:Option Tmp}{ty:TypeId}{pos:String}{af:Array Edge}{gd:Option (Nat×Bool)}{x y:Operand}{a b:ai}{U:TypeId}(hx:ev f x=some (.agg (encSide.enc a).toArray))(hy:ev f y=some (.agg (encSide.enc b).toArray)) :
  SU Tryz.prog N ⟨dst,.binOp .neq 94 x y U,ty,pos,af,gd⟩ f (.bool (decide (a≠b))):=fun ac w ha=>by
 have hg:=run_eqGuard_agg (P:=Tryz.prog) w .neq 94 x y (encSide.enc a).toArray (encSide.enc b).toArray eqGuardType94;simp only[execOp,ha.ev hx,ha.ev hy,Sem.run_bind,hg,zc7,F0];rfl
theorem zY (E:World)(g:PH)(s:Own)(v u:Value)(l m:List ai)(hv:SlA encSide g v l)(hu:SlA encSide g u m)(hl:l.length<1099511627776) :
  Ctr Tryz.prog E 95 #[v,u] g s (fun r g' s'=>r=vb (decide (l=m))∧g=g'∧s=s'):=by
 obtain ⟨p,c,rfl⟩:=hv.form;obtain ⟨q,d,rfl⟩:=hu.form;refine za9 (args:=[.slice p l.length c,.slice q m.length d]) func95 I ntmps95 (bE I) ?_;refine rZ (aT I (sQ (sW I (lU (eN cM I) (lM I (lU (eN cM I) (lU (nQ I I) (tZ ?_))))))));refine iP I (fun hne=>?_) (fun hne=>?_)
 ·refine rZ (aT I (rE (tR ?_)));exact za6 (.inl I) results95 I ⟨by have:l≠m:=fun e=>hne (by rw[e]); simp[this],I,I⟩
 ·refine kP (tN (sQ (sW I (lU (eN cM I) (lM I (tZ (bK ?_)))))));have hlen:l.length=m.length:=oM;refine oP (ι:=Nat) (fun k=>[(0,.slice p l.length c),(1,.slice q m.length d),(12,vi l.length),(13,vi k)]) (fun _=>g) (fun _=>s) (fun k=>k≤l.length∧l.take k=m.take k) (fun k=>l.length - k) 0
   sB rfl rfl ⟨zf3 _,by simp⟩ ?_
  rintro k ⟨hk,heq⟩;refine rZ (yL I (tZ (sQ ?_)));refine iP I (fun hlt=>?_) (fun hlt=>?_)
  ·have hkl:k<l.length:=oM;have hkm:k<m.length:=oM;have hb1:=hv.based oM;have hb2:=hu.based oM;refine kP (tN (sQ (bK (sW I (aT I (sQ ?_))))));refine dW [] [(0,2),(1,2),(2,2),(3,1),(4,2),(5,2),(6,2),(7,1),(8,2)] zd9 kR ?_;refine yM I (yM I (pU I (iA cM cq I I hb1 oM sL) ?_));refine pQ I (eA mT cq I hv.rd (gE hkl)) dC ?_;refine yM I (yM I (pU I (iA cM cq I I hb2 oM sL) ?_));refine pQ I (eA mT cq I hu.rd (gE hkm)) dC ?_;refine pU I (SU.neqSide I I) (pN (tN ?_));refine iP I (fun hd=>?_) (fun hd=>?_)
   ·refine rZ (aT I (rE (bR (tR (tR (bR (tR ?_)))))));exact za6 (.inl I) results95 I ⟨by have:l≠m:=fun e=>hd (by simp[e]); simp[this],I,I⟩
   ·refine kP (bN (tN (rG (yD I (lM I (nL ?_))))));exact gA (k+1) sB I I ⟨oM,na hkl hkm heq (zg6 hd)⟩ oM
  ·refine xI (tX (tX (bX (tN (rZ (aT I (rE ?_)))))));have hkk:k=l.length:=oM;subst hkk;have:l=m:=pm hlen heq;exact za6 (.inl I) results95 I ⟨by simp[this],I,I⟩
theorem FK {x y:Cl}:x=y↔x.id=y.id∧x.dim=y.dim∧x.sides=y.sides:=by
 cases x; cases y; simp
theorem BV (E:World)(g:PH)(s:Own)(a b:Cl)(ra rb:Rc)(ha:au g a ra)(hb:au g b rb)(hl:a.sides.length<1099511627776) :
  Ctr Tryz.prog E 50 #[.agg (encCell.enc ra).toArray,.agg (encCell.enc rb).toArray] g s (fun r g' s'=>r=vb (decide (a=b))∧g=g'∧s=s'):=by
 obtain ⟨i1,d1,⟨p1,n1,c1⟩⟩:=ra;obtain ⟨i2,d2,⟨p2,n2,c2⟩⟩:=rb;obtain ⟨rfl,rfl,hs1⟩:=ha;obtain ⟨rfl,rfl,hs2⟩:=hb;refine za9 (args:=[.agg (encCell.enc ⟨a.id,a.dim,⟨p1,n1,c1⟩⟩).toArray,.agg (encCell.enc ⟨b.id,b.dim,⟨p2,n2,c2⟩⟩).toArray]) func50 I ntmps50 (bE I) ?_;refine rZ (bW (bO I) fun b2=>?_);refine bW (bO I) fun b3=>?_;refine aT I ?_;refine SC.cutB 4 (decide (a=b)) ?_ ?_
 ·refine rG (lU (fA ar I zT3 I) (lK (qL iT3 I (cO 1 I I)) (lU (fA ar I zT3 I) (lK (qL iT3 I (cO 0 I I)) (yE I (lM I ?_))))));refine sP ?_ ?_
  ·intro h10;refine lY I I I (fA ar I zT3 I) (SL.gq (gT I I I dC) (qL iT3 I (cO 1 I I)) dC (lY I I I (fA ar I zT3 I) (SL.gq (gT I I I dC) (qL iT3 I (cO 0 I I)) dC (lY I I I (eQ I I) (yP I (lM I ?_))))));refine sP ?_ ?_
   ·intro h17;refine lY I I I (fA ar I cA I) (SL.gq (gT I I I dC) (qL dE I (cO 1 I I)) dC (lY I I I (fA ar I cA I) (SL.gq (gT I I I dC) (qL dE I (cO 0 I I)) dC (zd7 (gT I I I dC) (cL call95 I (zY E g _ _ _ a.sides b.sides hs1 hs2 hl)) dC ?_))));rintro _ _ _ ⟨rfl,rfl,rfl⟩;refine yP I (lA I (nL ?_));exact za8 (by simp_all[bk,FK]) mI
   ·intro h17;refine yA I (yA I (yA I (yA I (yA I (yF I (lA I (nL ?_)))))));exact za8 (by simp_all[bk,FK]) mI
  ·intro h10;refine yA I (yA I (yA I (yA I (yA I (yF I (lM I (yA I (yA I (yA I (yA I (yA I (yF I (lA I (nL ?_))))))))))))));exact za8 (by simp_all[bk,FK]) mI
 refine rE (dR (s':=s) uR ?_);exact za6 (.inl I) results50 I ⟨I,I,I⟩
theorem cJ {l:List Cl}(h:cZ l):cZ (aa l):=by
 refine⟨by simp[aa,fL]; exact h.1,fun c hc=>?_⟩;simp only[aa,ze8] at hc;obtain ⟨c0,h0,rfl⟩:=hc;simp only[ay,fL];exact h.2 c0 ((dh l c0).1 h0)
theorem Tryz.mty85:MTy Tryz.prog 85 3 78 (.agg #[vi 0,vi 0,.slice none 0 0]):=⟨underlying85,underlying3,zl1⟩
def gC (acc:List Cl)(c:Cl):List Cl:=if acc.any (fun x=>x.id == c.id) then acc else acc++[c]
theorem sG {acc:List Cl}{c:Cl}(h:acc.any (fun x=>x.id == c.id)=true):gC acc c=acc:=zf7 h
theorem lq {acc:List Cl}{c:Cl}(h:acc.any (fun x=>x.id == c.id)=false):gC acc c=acc++[c]:=zf6 (by rw[h]; simp)
def ab (l:List Cl):List Cl:=(aa l).foldl gC []
def rcv (r:Rc):Value:=.agg (encCell.enc r).toArray
def c8 (r:Rc):Int×Value:=(r.id,rcv r)
def Dm (R:Cl→Rc→Prop)(g:PH)(v:Value)(tl:List Cl):Prop :=
 ∃ b m iv rs,v=pp b 0∧g b=some (.cells #[.map (some m),iv] 87 (0,0))∧Mp g m (rs.map c8)∧bT g iv (tl.map Cl.id)∧aB R tl rs
def Tab (g:PH)(v:Value)(tl:List Cl):Prop:=Dm (au g) g v tl
theorem Dm.mono {R R':Cl→Rc→Prop}{g g':PH}{v:Value}{tl:List Cl}(h:Dm R g v tl)(hl:Le g g')(hr:∀ c r,R c r→R' c r):Dm R' g' v tl:=by
 obtain ⟨b,m,iv,rs,h1,h2,h3,h4,h5⟩:=h;exact⟨b,m,iv,rs,h1,hl _ _ h2,h3.mono hl,h4.mono hl,h5.mono hr⟩
theorem Tab.mono {g g':PH}{v:Value}{tl:List Cl}(h:Tab g v tl)(hl:Le g g'):Tab g' v tl:=by
 obtain ⟨b,m,iv,rs,h1,h2,h3,h4,h5⟩:=h;exact⟨b,m,iv,rs,h1,hl _ _ h2,h3.mono hl,h4.mono hl,h5.mono fun _ _=>au.mono hl⟩
theorem mH (rs:List Rc)(k:Int):ft (rs.map c8) k=(rs.find? (fun r=>r.id == k)).map rcv:=by
 induction rs with
 | nil=>rfl
 | cons r t ih =>
  simp only[zg1,c8,cd,zi3];by_cases h:k=r.id
  ·subst h; simp
  ·have:(r.id == k)=false:=by simpa using fun e=>h e.symm
   rw[this,zf6 h,← ih]
theorem EU {g:PH}{tl:List Cl}{rs:List Rc}(h:aB (au g) tl rs)(k:Int):tl.any (fun x=>x.id == k)=rs.any (fun r=>r.id == k):=by
 induction tl generalizing rs with
 | nil=>cases rs with | nil=>rfl | cons _ _=>exact h.elim
 | cons c t ih =>
  cases rs with
  | nil=>exact h.elim
  | cons r rs=>simp only[List.any_cons,h.1.1,ih h.2]
theorem lp {g:PH}{tl:List Cl}{rs:List Rc}(h:aB (au g) tl rs):tl.map Cl.id=rs.map Rc.id:=by
 induction tl generalizing rs with
 | nil=>cases rs with | nil=>rfl | cons _ _=>exact h.elim
 | cons c t ih =>
  cases rs with
  | nil=>exact h.elim
  | cons r rs=>simp only[zg1,h.1.1,ih h.2]
theorem fB (l:List Cl):∀ acc:List Cl,(l.foldl gC acc).length≤acc.length+l.length:=by
 induction l with
 | nil=>intro acc; simp
 | cons c r ih =>
  intro acc;simp only[zi5];have h1:=ih (gC acc c);have h2:(gC acc c).length≤acc.length+1:=by unfold gC; split <;> simp
  simp only[ze5];omega
theorem Tryz.build87 (x:Value)(h:x.cells = #[x])(w:World):(Instr.build 87 #[(0,x)]).run Tryz.prog w = .ok (.agg #[x,.slice none 0 0]) w:=by
 have hz:(Value.agg #[Value.map none,Value.slice none 0 0]).cells = #[.map none,.slice none 0 0]:=rfl;simp[Instr.build,Instr.fill,h,hz]
theorem tq (E:World)(g:PH)(s:Own)(v:Value)(l:List Cl)(hv:am g v l)(hf:cZ l) :
  Ctr Tryz.prog E 42 #[.agg #[v]] g s (fun r g' s'=>s=s'∧Le g g'∧Dm (dB (mns g' g)) g' r (ab l)):=by
 have hfc:=cJ hf;refine za9 (args:=[.agg #[v]]) func42 I ntmps42 (bE I) ?_;refine rZ (bW (bO I) fun b1=>?_);refine aT I (rZ (lW (SO.mkMap) ?_));rintro _ _ _ ⟨m,rfl,rfl,rfl⟩;refine lU (za1 I (build87 _ I)) (bW (bO I) fun b10=>?_);refine aT I (sQ (rZ (lK (qV 2 bq aw I I I) (lW (cL call15 I (uD E g _ v l hv hf)) ?_))));rintro _ g1 _ ⟨rfl,hle,u,rfl,hc⟩;obtain ⟨rs,hrsK,hall⟩:=hc;have hrs:=hrsK.sl.mono (fv _ _);obtain ⟨p,c,rfl⟩:=hrs.form;refine lU (SU.field fq I ii I I) (lU (eN aO I) (lM I (tZ (bK ?_))));have hlen:=hall.length;have hfl:=hfc.1;refine zb4 3 1 ?_;refine oP (ι:=Value×Nat×List Rc) (fun i=>[(3,pp b10 0),(13,.slice p rs.length c),(14,vi rs.length),(15,vi i.2.1)]) (fun _=>g1)
  (fun i=>rowA encInt 3 i.1 (i.2.2.map Rc.id)::pt b10 (.cells #[.map (some m),i.1] 87 (0,0))::mp m (i.2.2.map c8)::pt b1 (.cells #[v] 30 (0,0))::s)
  (fun i=>i.2.1≤rs.length∧aB (dB (mns g1 g)) (((aa l).take i.2.1).foldl gC []) i.2.2) (fun i=>rs.length - i.2.1) (.slice none 0 0,0,[])
  sB rfl rfl ⟨zf3 _,by simp[aB]⟩ ?_
 rintro ⟨iv,k,acc⟩ ⟨hk,hacc⟩;dsimp only at hk hacc ⊢;refine rZ (yL I (tZ (sQ ?_)));refine iP I (fun hlt=>?_) (fun hlt=>?_)
 ·have hkr:k<rs.length:=oM;have hkl:k<(aa l).length:=oM;have hb1:=hrs.based oM;have hcr:=hall.get (gE hkl) (gE hkr);have hany:=EU (hacc.mono fun _ _=>dB.cr (fv _ _)) (aa l)[k].id;have htake:((aa l).take (k+1)).foldl gC []=gC (((aa l).take k).foldl gC []) (aa l)[k]:=by
   rw[tS hkl,zi6]; rfl
  have hal:=hacc.length;have hal2:=fB ((aa l).take k) [];simp only[ze1,zc1] at hal2;generalize hcl:(aa l)[k]=cx at *;generalize hrx:rs[k]=x at *;have hgx:rs[((k:Nat):Int).toNat]?=some x:=by rw[← hrx]; exact gE hkr
  cases hget:acc.find? (fun r=>r.id == x.id) with
  | some y =>
   refine kP (tN (sQ (bK (rZ (lU (iA aO aK I I hb1 oM sL) (lK (eA gJ aK I hrs.rd hgx) (bW (aL zl1) fun b5=>?_)))))));refine oZ (sK 0 aK I I I I I sB) ?_;refine tZ (sQ ?_);refine dW [] [(0,2),(1,2),(2,2),(3,1),(4,2),(5,1),(6,1),(7,2),(8,2),(9,2),(10,0),(11,0),(12,2)] zd9 kR ?_;refine yM I (pU I (nC I) (pU I (fA qv I tu I) (pK I (qL isAgg85 I (cO 2 I I)) (pU I (fA ar I zT3 I) (pK I (qL iT3 I (cO 0 I I)) (pK I (SQ.eq (SQ.lookupOk mty85 I I (cG.own 3 I)) (by (rw[mH,hget]; done))) ?_))))));refine yM I (pU I (xT I I) (pU I (xT I I) (SP.o I (aL zl1) dC (.inr iR) ?_)));rintro _ _ _ ⟨b6,rfl,rfl,rfl⟩;refine SP.on I (sK 0 aK I I I I I sB) (.inr iR) ?_;rintro _ _ _ ⟨rfl,rfl⟩;refine pU I (aS I) (pN (tN (sW I (lU (SU.not I) (tZ (cF I (kP (bN (tN (rG (yD I (lM I (nL (dR (s':=rowA encInt 3 iv (acc.map Rc.id)::pt b10 (.cells #[.map (some m),iv] 87 (0,0))::mp m (acc.map c8)::pt b1 (.cells #[v] 30 (0,0))::s) (.cons _ (.cons _ (.refl _))) ?_))))))))))))));have h1:acc.any (fun r=>r.id == cx.id)=true:=by
    rw[zj5];exact⟨y,zk3 hget,by have:=List.find?_some hget; rw[← hcr.1]; exact this⟩
   exact gA (iv,k+1,acc) sB I I ⟨lN,by dsimp only; rw[htake,sG (hany.trans h1)]; exact hacc⟩ lN
  | none =>
   refine kP (tN (sQ (bK (rZ (lU (iA aO aK I I hb1 oM sL) (lK (eA gJ aK I hrs.rd hgx) (bW (aL zl1) fun b5=>?_)))))));refine oZ (sK 0 aK I I I I I sB) ?_;refine tZ (sQ ?_);refine dW [] [(0,2),(1,2),(2,2),(3,1),(4,2),(5,1),(6,1),(7,2),(8,2),(9,2),(10,0),(11,0),(12,2)] zd9 kR ?_;refine yM I (pU I (nC I) (pU I (fA qv I tu I) (pK I (qL isAgg85 I (cO 2 I I)) (pU I (fA ar I zT3 I) (pK I (qL iT3 I (cO 0 I I)) (pK I (SQ.eq (SQ.lookupOk mty85 I I (cG.own 3 I)) (by (rw[mH,hget]; done))) ?_))))));refine yM I (pU I (xT I I) (pU I (xT I I) (SP.o I (aL zl1) dC (.inr iR) ?_)));rintro _ _ _ ⟨b6,rfl,rfl,rfl⟩;refine SP.on I (sK 0 aK I I I I I sB) (.inr iR) ?_;rintro _ _ _ ⟨rfl,rfl⟩;refine pU I (aS I) (pN (tN (sW I (lU (SU.not I) (tZ (cT I (sQ ?_)))))));refine dW [7] [(0,2),(1,2),(2,2),(3,1),(4,2),(5,1),(6,1),(7,0)] zd9 kR ?_;refine yM I (pU I (nC I) (pU I (fA qv I tu I) (pK I (qL isAgg85 I (cO 3 I I)) (pU I (fA ar I zT3 I) (pK I (qL iT3 I (cO 1 I I)) (pK I (qV 1 gJ aK I I I) (SP.on I (SO.mapUpdate 4 mty85 I I I I) (.inl dC) ?_)))))));rintro _ _ _ ⟨rfl,rfl⟩;refine pN (tN ?_);refine dW [8,9,10,11] [(0,2),(1,2),(2,2),(3,2),(4,1),(5,2),(6,1),(7,0),(8,0),(9,0),(10,0),(11,0)] zd9 kR ?_;refine yM I (yM I (pU I (nC I) (pU I (fA qv I bZ I) (pK I (qL dx I (cO 3 I I)) (pU I (fA ar I zT3 I) (pK I (qL iT3 I (cO 1 I I)) (SP.o I (bS sty25 I I I (ae sB) dC) dC (.inr iR) ?_)))))));rintro _ _ _ ⟨b45,rfl,rfl,rfl⟩;refine SP.o I (SO.app1 2 (((acc++[x]).map Rc.id).flatMap encInt.enc) ((acc++[x]).map Rc.id).length sty25 I I I I I ⟨I,trivial⟩ (by simp[encInt]; rfl) (by simp) (by simp; omega) (by simp; omega)) dC (.inl dC) ?_;rintro iv' _ _ ⟨rfl,rfl⟩;refine zc8 fun ⟨w0,hw0⟩=>?_;obtain ⟨q',d',rfl⟩:=ah (e:=encInt) (l:=(acc++[x]).map Rc.id) (i:=2) hw0 rfl;clear hw0 w0;refine oU rfl (nC rfl) dC (.inl dC) (oU rfl (fA qv rfl bZ rfl) dC (.inl dC) (SP.on rfl (SO.store1 3 bZ rfl rfl rfl rfl (bE rfl) (by rfl)) (.inl dC) ?_));rintro _ _ _ ⟨rfl,rfl⟩;refine pN (bN (tN (rG (yD I (lM I (nL ?_))))));have h1:acc.any (fun r=>r.id == cx.id)=false:=by
    rw[zk2];intro y hy;have:=List.find?_eq_none.1 hget y hy;rw[← hcr.1]; exact this
   have hmp:kh (acc.map c8) x.id (rcv x)=(acc++[x]).map c8:=by
    rw[jy _ _ _ (fun q hq=>by
     obtain ⟨y,hy,rfl⟩:=ze8.1 hq;have:=List.find?_eq_none.1 hget y hy;simpa [c8] using this)]
    simp[c8]
   refine dR (s':=rowA encInt 3 (.slice q' ((acc++[x]).map Rc.id).length d') ((acc++[x]).map Rc.id)::pt b10 (.cells #[.map (some m),.slice q' ((acc++[x]).map Rc.id).length d'] 87 (0,0))::mp m ((acc++[x]).map c8)::pt b1 (.cells #[v] 30 (0,0))::s) ?_ ?_
   ·rw[← hmp]; exact .cons _ (.cons _ (.refl _))
   exact gA (.slice q' ((acc++[x]).map Rc.id).length d',k+1,acc++[x]) sB I I ⟨lN,by dsimp only; rw[htake,lq (hany.trans h1)]; exact hacc.append ⟨hcr,trivial⟩⟩ lN
 ·refine xI (tX (tX (bX (tN (sW I (aT I (rE ?_)))))));have hkk:k=rs.length:=oM;have htk:(aa l).take k=aa l:=tL oM;rw[htk] at hacc;refine fT fun g2 h2 hrow=>?_;refine ST.freeze fun g3 h3 hb=>?_;refine ST.freezeMap fun g4 h4 hm=>?_;refine dR (s':=s) uR ?_;have hI:bT g4 iv ((ab l).map Cl.id):=by
   rw[show (ab l).map Cl.id=acc.map Rc.id from lp (hacc.mono fun _ _=>dB.cr (fv _ _))];exact Sl.mono hrow (h3.trans h4)
  exact za6 (.inl I) results42 I ⟨I,hle.trans (h2.trans (h3.trans h4)),b10,m,iv,acc,I,h4 _ _ hb,hm,hI,hacc.mono fun _ _=>dB.mono (iM (h2.trans (h3.trans h4)))⟩
theorem jo (E:World)(g:PH)(s:Own)(v:Value)(l:List Cl)(hv:am g v l)(hf:cZ l) :
  Ctr Tryz.prog E 42 #[.agg #[v]] g s (fun r g' s'=>s=s'∧Le g g'∧Tab g' r (ab l)) :=
 (tq E g s v l hv hf).mono fun _ _ _ ⟨h1,h2,h3⟩=>⟨h1,h2,h3.mono (zb7 _) fun _ _=>dB.cr (fv _ _)⟩
theorem zL {acc:List Cl}{c:Cl}(h:(acc.map Cl.id).Nodup):((gC acc c).map Cl.id).Nodup:=by
 unfold gC;split
 ·exact h
 ·rename_i hc;rw[zg2,List.nodup_append];refine⟨h,by simp,fun a ha b hb e=>?_⟩;simp at hb;subst hb;obtain ⟨x,hx,hxe⟩:=ze8.1 ha;apply hc;rw[zj5];exact⟨x,hx,by simp[hxe,e]⟩
theorem wz (l:List Cl):∀ acc:List Cl,(acc.map Cl.id).Nodup→((l.foldl gC acc).map Cl.id).Nodup:=by
 induction l with
 | nil=>intro acc h; exact h
 | cons c r ih=>intro acc h; exact ih _ (zL h)
theorem eP (l:List Cl):((ab l).map Cl.id).Nodup:=wz _ [] (by simp)
theorem tW (l:List Cl):∀ (acc:List Cl) (x:Cl),x∈l.foldl gC acc→x∈acc∨x∈l:=by
 induction l with
 | nil=>intro acc x h; exact .inl h
 | cons c r ih =>
  intro acc x h
  rcases ih _ x h with h1 | h1
  ·unfold gC at h1;split at h1
   ·exact .inl h1
   ·rcases ze9.1 h1 with h2 | h2
    ·exact .inl h2
    ·right; simp at h2; simp[h2]
  ·exact .inr (by simp[h1])
theorem rX {l:List Cl}{x:Cl}(h:x∈ab l):x∈aa l:=(tW _ [] x h).resolve_left (by simp)
theorem e6 {l:List Cl}(h:cZ l):cZ (ab l):=by
 have hc:=cJ h;refine⟨?_,fun c hm=>hc.2 c (rX hm)⟩;have:=fB (aa l) [];unfold ab;have h1:=hc.1;simp at this;omega
theorem zU {rs:List Rc}(h:(rs.map Rc.id).Nodup){k:Nat}{r:Rc}(hk:rs[k]?=some r):rs.find? (fun x=>x.id == r.id)=some r:=by
 induction rs generalizing k with
 | nil=>simp at hk
 | cons y t ih =>
  simp only[zg1,zj8] at h;cases k with
  | zero=>simp at hk; subst hk; simp
  | succ k =>
   simp only[List.getElem?_cons_succ] at hk;have hne:(y.id == r.id)=false:=by
    simp only[beq_eq_false_iff_ne,ne_eq];intro e;exact h.1 (by rw[e]; exact ze8.2 ⟨r,zf8 hk,I⟩)
   rw[zi3,hne];exact ih h.2 hk
def qr (E:World)(pv:Value)(p:Cl→Bool)(tl:List Cl)(g:PH):Prop :=
 ∀ g' s c r,Le g g'→c∈tl→au g' c r→cI Tryz.prog E pv [rcv r] g' s (fun x g'' s''=>x=vb (p c)∧g'=g''∧s=s'')
theorem se (R:Cl→Rc→Prop)(E:World)(g:PH)(s:Own)(v pv:Value)(tl:List Cl)(p:Cl→Bool)(hR:∀ c r,R c r→au g c r)(hv:Dm R g v tl)(hnd:(tl.map Cl.id).Nodup)(hf:cZ tl)(hp:qr E pv p tl g) :
  Ctr Tryz.prog E 47 #[v,pv] g s (fun r g' s'=>s=s'∧Le g g'∧∃ u rs,r = .agg #[u]∧RK encCell 78 (mns g' g) u rs∧aB R (tl.filter p) rs):=by
 obtain ⟨b,m,iv,rs,rfl,hb,hm,hI,hall⟩:=hv;have hids:=lp (hall.mono hR);have hlen:=hall.length;have hfl:=hf.1;have hnr:(rs.map Rc.id).Nodup:=by rw[← hids]; exact hnd
 obtain ⟨q,d,rfl⟩:=hI.form;refine za9 (args:=[pp b 0,pv]) func47 I ntmps47 (bE I) ?_;refine rZ (bW (aL zl4) fun b4=>?_);refine tZ (rZ (bW (aL zl4) fun b5=>?_));refine tZ (sQ (sW I (lU (nC I) (lU (fA qv I bZ I) (lK (qL dx I (cK hb I)) (lU (eN ak I) (lM I (tZ (bK (zb4 78 3 ?_))))))))));simp only[ze3] at hI hb ⊢;refine oP (ι:=Value×Nat×List Rc) (fun i=>[(0,pp b 0),(1,pv),(4,pp b4 0),(5,pp b5 0),(11,.slice q tl.length d),(12,vi tl.length),(13,vi i.2.1)]) (fun _=>g)
  (fun i=>rowA encCell 78 i.1 i.2.2::pt b5 (.cells #[i.1] 30 (0,0))::pt b4 (.cells #[.slice none 0 0] 30 (0,0))::s)
  (fun i=>i.2.1≤tl.length∧aB R ((tl.take i.2.1).filter p) i.2.2) (fun i=>tl.length - i.2.1) (.slice none 0 0,0,[])
  sB rfl rfl ⟨zf3 _,by simp[aB]⟩ ?_
 rintro ⟨ov,k,acc⟩ ⟨hk,hacc⟩;dsimp only at hk hacc ⊢;refine rZ (yL I (tZ (sQ ?_)));refine iP I (fun hlt=>?_) (fun hlt=>?_)
 ·have hkl:k<tl.length:=oM;have hkr:k<rs.length:=oM;have hbi:=hI.based (by simp; omega);have hcR:=hall.get (gE hkl) (gE hkr);have hcr:=hR _ _ hcR;have hmem:tl[k]∈tl:=gM hkl;have hget:ft (rs.map c8) tl[k].id=some (rcv rs[k]):=by
   rw[mH,← hcr.1,zU hnr (gE hkr)]; rfl
  have htake:(tl.take (k+1)).filter p=(tl.take k).filter p++(if p tl[k] then [tl[k]] else []):=by
   rw[tS hkl,zh3];simp only[zi4,List.filter_nil]
  have hgi:(tl.map Cl.id)[((k:Nat):Int).toNat]?=some tl[k].id:=by simp[hkl]
  have hal:=hacc.length;have hal2:((tl.take k).filter p).length≤k:=zk6 (zc2 _ _) (by simp; omega);generalize htk:tl[k]=c at *;generalize hrk:rs[k]=r at *;refine kP (tN (sQ (bK (rZ (lU (iA ak zT3 I I hbi oM sL) (lK (eB iT3 I hI.rd hgi I) (aT I (sW I (lM I (lU (nC I) (lU (fA qv I tu I) (lK (qL isAgg85 I (cK hb I)) (lM I (lK (SQ.eq (SQ.lookup mty85 I I (cG.known hm)) (by (rw[hget]; done))) ?_))))))))))))));refine lW (SO.callV I I (hp g _ c r (zb7 g) hmem hcr)) ?_;rintro _ _ _ ⟨rfl,rfl,rfl⟩;refine tZ ?_;refine iQ I (fun hpc=>?_) (fun hpc=>?_)
  ·refine dW [9,10,11] [(0,2),(1,1),(2,2),(3,2),(4,2),(5,1),(6,2),(7,1),(8,0),(9,0),(10,0),(11,0)] zd9 kR ?_;refine pU I (fA fq I ek I) (pK I (qL ii I (cO 1 I I)) (yM I (pU I (nC I) (pU I (fA qv I tu I) (pK I (qL isAgg85 I (cK hb I)) (yM I (pK I (SQ.eq (SQ.lookup mty85 I I (cG.known hm)) (by (rw[hget]; done))) ?_)))))));refine SP.o I (bS sty28 I I I (ae sB) dC) dC (.inr iR) ?_;rintro _ _ _ ⟨b33,rfl,rfl,rfl⟩;refine SP.o I (SO.app1 0 ((acc++[r]).flatMap encCell.enc) (acc++[r]).length sty28 I I I I I sB (by (simp[encCell]; rfl)) (by simp) lN lN) dC (.inl dC) ?_;rintro ov' _ _ ⟨rfl,rfl⟩;refine zc8 fun ⟨w0,hw0⟩=>?_;obtain ⟨q',d',rfl⟩:=ah (e:=encCell) (l:=acc++[r]) (i:=0) hw0 rfl;clear hw0 w0;refine oU I (fA fq I ek I) dC (.inl dC) (SP.on I (sK 1 ek I I I I I sB) (.inl dC) ?_);rintro _ _ _ ⟨rfl,rfl⟩;refine pN (bN (tN (rG (yD I (lM I (nL ?_))))));exact gA (.slice q' (acc++[r]).length d',k+1,acc++[r]) sB I I ⟨lN,by dsimp only; rw[htake,hpc]; exact hacc.append ⟨hcR,trivial⟩⟩ lN
  ·refine kP (bN (tN (rG (yD I (lM I (nL ?_))))));exact gA (ov,k+1,acc) sB I I ⟨lN,by dsimp only; rw[htake,hpc]; simpa using hacc⟩ lN
 ·have hkk:tl.take k=tl:=tL oM;rw[hkk] at hacc;refine xI (tX (tX (bX (tN (rZ (SL.freezeRowK fun g2 hle2 hs2=>?_))))));obtain ⟨q2,d2,rfl⟩:=hs2.form;refine lK (qV 0 bq aw I I I) (oZ (sK 1 aw I I I I I sB) ?_);refine tZ (rE ?_);exact ST.retCD 1 s (.inl I) results47 I bq aw I I uR ⟨I,hle2,_,acc,I,hs2,hacc⟩
theorem Ch (E:World)(g:PH)(s:Own)(v pv:Value)(tl:List Cl)(p:Cl→Bool)(hv:Tab g v tl)(hnd:(tl.map Cl.id).Nodup)(hf:cZ tl)(hp:qr E pv p tl g) :
  Ctr Tryz.prog E 47 #[v,pv] g s (fun r g' s'=>s=s'∧Le g g'∧∃ u,r = .agg #[u]∧am g' u (tl.filter p)) :=
 (se (au g) E g s v pv tl p (fun _ _ h=>h) hv hnd hf hp).mono fun _ _ _ ⟨h1,h2,u,rs,h3,h4,h5⟩=>⟨h1,h2,u,h3,rs,h4.sl.mono (fv _ _),h5.mono fun _ _=>au.mono h2⟩
theorem wP {l:List Cl}(p:Cl→Bool)(h:cZ l):cZ (l.filter p) :=
 ⟨Nat.lt_of_le_of_lt (zc2 _ _) h.1,fun c hc=>h.2 c (zh1.1 hc).1⟩
theorem zM (E:World)(g:PH)(s:Own)(v pv:Value)(tl:List Cl)(p:Cl→Bool)(hv:Tab g v tl)(hnd:(tl.map Cl.id).Nodup)(hf:cZ tl)(hp:qr E pv p tl g) :
  Ctr Tryz.prog E 53 #[v,pv] g s (fun r g' s'=>s=s'∧Le g g'∧bT g' r ((tl.filter p).map Cl.id)):=by
 have hff:=(wP p hf).1;refine za9 (args:=[v,pv]) func53 I ntmps53 (bE I) ?_;refine rZ (aT I (rZ (aT I (sQ (sW I (lM I (lW (cL call47 I (Ch E g _ v pv tl p hv hnd hf hp)) ?_)))))));rintro _ g1 _ ⟨rfl,hle,u,rfl,rs,hrs,hall⟩;obtain ⟨q,d,rfl⟩:=hrs.form;have hlen:=hall.length;refine lU (SU.field fq I ii I I) (lU (eN aO I) (lM I (tZ (bK ?_))));have hids:=lp hall;refine zb4 3 1 ?_;refine oP (ι:=Value×Nat) (fun i=>[(5,i.1),(11,.slice q rs.length d),(12,vi rs.length),(13,vi i.2)]) (fun _=>g1)
  (fun i=>rowA encInt 3 i.1 ((rs.take i.2).map Rc.id)::s)
  (fun i=>i.2≤rs.length) (fun i=>rs.length - i.2) (.slice none 0 0,0)
  sB rfl rfl (zf3 _) ?_
 rintro ⟨ov,k⟩ hk;dsimp only at hk ⊢;refine rZ (yL I (tZ (sQ ?_)));refine iP I (fun hlt=>?_) (fun hlt=>?_)
 ·have hkr:k<rs.length:=oM;have hb1:=hrs.based oM;have htake:(rs.take (k+1)).map Rc.id=(rs.take k).map Rc.id++[rs[k].id]:=by rw[tS hkr,zg2]; rfl
  have hgx:rs[((k:Nat):Int).toNat]?=some rs[k]:=gE hkr;have htl:((rs.take k).map Rc.id).length=k:=by simp; omega
  generalize hx:rs[k]=x at *;refine kP (tN (sQ (bK (rZ (lU (iA aO aK I I hb1 oM sL) (lK (eA gJ aK I hrs.rd hgx) (bW (aL zl1) fun b7=>?_)))))));refine oZ (sK 0 aK I I I I I sB) ?_;refine tZ (rG (lM I (lU (fA ar I zT3 I) (lK (qL iT3 I (cO 0 I I)) (lW (bS sty25 I I I (ae sB) dC) ?_)))));rintro _ _ _ ⟨b20,rfl,rfl,rfl⟩;refine lW (SO.app1 1 (((rs.take (k+1)).map Rc.id).flatMap encInt.enc) ((rs.take (k+1)).map Rc.id).length sty25 I I I I I ⟨I,trivial⟩ (by rw[htake]; simp[encInt]; rfl) (by rw[htake]; simp) lN lN) ?_;rintro ov' _ _ ⟨rfl,rfl⟩;refine lA I (nL (bN (tN (rG (yD I (lM I (nL (dR (s':=rowA encInt 3 ov' ((rs.take (k+1)).map Rc.id)::s) (.cons _ (.refl _)) ?_))))))));exact gA (ov',k+1) sB I I lN lN
 ·refine xI (tX (tX (bX (tN (sW I (aT I (rE ?_)))))));have hkk:rs.take k=rs:=tL oM;rw[hkk];refine fT fun g2 h2 hrow=>?_;exact za6 (.inl I) results53 I ⟨I,hle.trans h2,by rw[hids]; exact hrow⟩
def HH (c:Cl)(id:Int):Bool:=c.sides.any fun x=>decide (x.cell=id)
theorem Tryz.mty97:MTy Tryz.prog 97 3 4 (vb false):=⟨underlying97,underlying3,zeroValue4⟩
def FF:Rc:=⟨0,0,none,0,0⟩
def gt:Cl:=⟨0,0,[]⟩
theorem Ah {R:Cl→Rc→Prop}(hR:∀ c r,R c r→r.id=c.id){tl:List Cl}{rs:List Rc}(h:aB R tl rs)(k:Int):(tl.find? (fun c=>decide (c.id=k))=none∧ft (rs.map c8) k=none)∨∃ c r,tl.find? (fun c=>decide (c.id=k))=some c∧ft (rs.map c8) k=some (rcv r)∧R c r:=by
 induction tl generalizing rs with
 | nil=>cases rs with | nil=>exact .inl ⟨rfl,rfl⟩ | cons _ _=>exact h.elim
 | cons c t ih =>
  cases rs with
  | nil=>exact h.elim
  | cons r rs =>
   simp only[zg1,c8,cd,zi3];by_cases hk:c.id=k
   ·right;have:k=r.id:=by rw[hR _ _ h.1,hk]
    exact⟨c,r,by simp[hk],by rw[zf7 this],h.1⟩
   ·have hk2:¬ k=r.id:=by rw[hR _ _ h.1]; exact fun e=>hk e.symm
    simp only[hk,decide_false,zf6 hk2];exact ih h.2
theorem C7 {g:PH}{tl:List Cl}{rs:List Rc}(h:aB (au g) tl rs)(k:Int):(tl.find? (fun c=>decide (c.id=k))=none∧ft (rs.map c8) k=none)∨∃ c r,tl.find? (fun c=>decide (c.id=k))=some c∧ft (rs.map c8) k=some (rcv r)∧au g c r:=Ah (fun _ _ h=>h.1) h k
theorem ie {g:PH}{tl:List Cl}{rs:List Rc}(h:aB (au g) tl rs)(hw:∀ g,au g gt FF)(k:Int):∃ r,(ft (rs.map c8) k).getD (.agg #[vi 0,vi 0,.slice none 0 0])=rcv r∧(ft (rs.map c8) k).isSome=(tl.find? (fun c=>decide (c.id=k))).isSome∧au g ((tl.find? (fun c=>decide (c.id=k))).getD gt) r:=by
 rcases C7 h k with ⟨h1,h2⟩ | ⟨c,r,h1,h2,h3⟩
 ·exact⟨FF,by rw[h2]; rfl,by rw[h1,h2]; rfl,by rw[h1]; exact hw g⟩
 ·exact⟨r,by rw[h2]; rfl,by rw[h1,h2]; rfl,by rw[h1]; exact h3⟩
theorem qn (g:PH):au g gt FF:=⟨rfl,rfl,zb8 g _⟩
def jh (tl:List Cl)(k:Int):Bool:=tl.any fun c=>HH c k
def iW (l:List Cl):List Int:=((ab l).filter fun c=>!jh (ab l) c.id).map Cl.id
theorem ET {g:PH}{tl:List Cl}{rs:List Rc}(h:aB (au g) tl rs){r:Rc}(hr:r∈rs):∃ c,c∈tl∧au g c r:=by
 obtain ⟨i,hi,rfl⟩:=zc4 hr;have hl:=h.length;have hi':i<tl.length:=oM;exact⟨tl[i],gM hi',h.get (gE hi') (gE hi)⟩
theorem D5 {tl:List Cl}(h:(tl.map Cl.id).Nodup){a b:Cl}(ha:a∈tl)(hb:b∈tl)(e:a.id=b.id):a=b:=by
 induction tl with
 | nil=>simp at ha
 | cons c t ih =>
  simp only[zg1,zj8] at h
  rcases ze7.1 ha with rfl | ha' <;> rcases ze7.1 hb with rfl | hb'
  ·rfl
  ·exact absurd (ze8.2 ⟨b,hb',e.symm⟩) h.1
  ·exact absurd (ze8.2 ⟨a,ha',e⟩) h.1
  ·exact ih h.2 ha' hb'
theorem wv {vc tl:List Cl}(hs:∀ c∈vc,c∈tl)(hp:(vc.map Cl.id).Perm (tl.map Cl.id))(hn:(tl.map Cl.id).Nodup):vc.Perm tl:=by
 have hn2:(vc.map Cl.id).Nodup:=hp.symm.nodup hn;refine (List.perm_ext_iff_of_nodup (List.Pairwise.of_map Cl.id (fun a b hab e=>hab (by rw[e])) hn2) (List.Pairwise.of_map Cl.id (fun a b hab e=>hab (by rw[e])) hn)).2 fun c=>⟨hs c,fun hc=>?_⟩;obtain ⟨c',h1,h2⟩:=ze8.1 (hp.symm.subset (ze8.2 ⟨c,hc,rfl⟩));rw[← D5 hn (hs c' h1) hc h2];exact h1
theorem uW {g:PH}{vl:List (Int×Value)}{rs:List Rc}{vc tl:List Cl}(hv:vl.map Prod.fst=vc.map Cl.id)(hs:∀ c∈vc,c∈tl)(hn:(tl.map Cl.id).Nodup)(hall:aB (au g) tl rs)(hp:vl.Perm (rs.map c8)):vc.Perm tl:=by
 refine wv hs ?_ hn;have h1:=hp.map Prod.fst;rw[hv,zi2] at h1;rw[lp hall];exact h1
theorem Hl {f:Fr}{t:Nat}{a b:Int}(h:bk f t=some (vi a))(e:a=b):bk f t=some (vi b):=e ▸ h
theorem nu {α:Type}{s:List α}{i:Nat}{a:α}(h:s[i]?=some a):s.set i a=s:=by
 apply List.ext_getElem?;intro j;rw[List.getElem?_set];split
 ·rename_i e;subst e;split
  ·exact h.symm
  ·rename_i h2;rw[List.getElem?_eq_none oM]
 ·rfl
def az (tl:List Cl)(id:Int):Option Cl:=tl.find? fun c=>decide (c.id=id)
def ci (tl:List Cl):Nat→Int→List Int→List Int
 | 0,_,vis=>vis
 | n+1,id,vis =>
  match az tl id with
  | none=>vis
  | some c=>if vis.contains id then vis else c.sides.foldl (fun v x=>ci tl n x.cell v) (vis++[id])
theorem pC (tl:List Cl)(n:Nat)(id:Int)(vis:List Int):ci tl (n+1) id vis=(match az tl id with
  | none=>vis
  | some c=>if vis.contains id then vis else c.sides.foldl (fun v x=>ci tl n x.cell v) (vis++[id])):=rfl
def p8 (tl:List Cl)(vis:List Int):Nat:=(tl.filter fun c=>!vis.contains c.id).length
def cu (tl:List Cl)(ids:List Int):List Int:=ids.foldl (fun v id=>ci tl (tl.length+1) id v) []
theorem qS (tl:List Cl):∀ (n:Nat) (id:Int) (vis:List Int) (x:Int),x∈vis→x∈ci tl n id vis
 | 0,_,_,_,h=>h
 | n+1,id,vis,x,h=>by
  unfold ci;split
  ·exact h
  ·split
   ·exact h
   ·rename_i c _ _;have:∀ (l:List ai) (v:List Int),x∈v→x∈l.foldl (fun v y=>ci tl n y.cell v) v:=by
     intro l;induction l with
     | nil=>intro v hv; exact hv
     | cons y t ih=>intro v hv; exact ih _ (qS tl n y.cell v x hv)
    exact this _ _ (by simp[h])
theorem o0 {tl:List Cl}{v v':List Int}(h:∀ x∈v,x∈v'):p8 tl v'≤p8 tl v:=by
 unfold p8;rw[← List.countP_eq_length_filter,← List.countP_eq_length_filter];apply List.countP_mono_left;intro c _ hp;simp at hp ⊢;exact fun e=>hp (h _ e)
theorem Bt {tl:List Cl}{v:List Int}{c:Cl}(hc:c∈tl)(hn:v.contains c.id=false):p8 tl (v++[c.id])<p8 tl v:=by
 induction tl with
 | nil=>simp at hc
 | cons d t ih =>
  have hm:p8 t (v++[c.id])≤p8 t v:=o0 (fun x hx=>by simp[hx]);have e1:∀ u:List Int,p8 (d::t) u=(if u.contains d.id then 0 else 1)+p8 t u:=fun u=>by
   unfold p8;rw[zi4];cases u.contains d.id <;> simp <;> omega
  rw[e1,e1]
  rcases ze7.1 hc with rfl | hc'
  ·have:(v++[c.id]).contains c.id=true:=by simp
   rw[this,hn];simp;omega
  ·have:=ih hc';cases h1:v.contains d.id
   ·cases h2:(v++[c.id]).contains d.id <;> simp <;> omega
   ·have h2:(v++[c.id]).contains d.id=true:=by simp at h1 ⊢; exact .inl h1
    rw[h2];simp;exact this
def ka (vis:List Int):List (Int×Value):=vis.map fun k=>(k,vb true)
theorem rY (vis:List Int):G4 (ka vis) (fun k=>vis.contains k):=by
 intro k;induction vis with
 | nil=>rfl
 | cons a t ih =>
  simp only[ka,zg1,cd] at ih ⊢;by_cases h:k=a
  ·simp[h]
  ·have h2:(k == a)=false:=by simpa using h
   rw[zf6 h,ih];simp[h]
theorem xL {vis:List Int}{id:Int}(h:vis.contains id=false):kh (ka vis) id (vb true)=ka (vis++[id]):=by
 rw[jy _ _ _ (fun p hp=>by
  obtain ⟨a,ha,rfl⟩:=ze8.1 hp;intro e;simp at h;exact h (by rw[← e]; exact ha))]
 simp[ka]
theorem bF {tl:List Cl}{id:Int}{c:Cl}(h:az tl id=some c):c∈tl∧c.id=id:=⟨zk3 h,by simpa using List.find?_some h⟩
theorem fg {α:Type}{l:List α}{j:Nat}{y:α}(h:l[j]?=some y):l.take (j+1)=l.take j++[y]:=by
 obtain ⟨h1,h2⟩:=zf2.1 h;rw[tS h1,h2]
theorem Bk {α:Type}{s:List α}{i:Nat}{a:α}(h:s[i]?=some a)(b:α):(s.set i b)[i]?=some b:=by
 have:=(zf2.1 h).1;simp[this]
theorem zC (E:World)(g:PH)(bt bm bf m:Nat)(tv:Value)(tl:List Cl)(hv:Tab g tv tl)(hf:cZ tl)(h2:g bt=some (.cells #[tv] 88 (0,0)))(h5:g bm=some (.cells #[.map (some m)] 97 (0,0)))
  (h6:g bf=some (.cells #[.func (.func 94) #[] #[pp bt 0,pp bm 0,pp bf 0]] 135 (0,0))):∀ (n:Nat) (id:Int) (vis:List Int) (s:Own) (i:Nat),p8 tl vis<n→s[i]?=some (mp m (ka vis)) →
  Ctr Tryz.prog E 94 #[vi id,pp bt 0,pp bm 0,pp bf 0] g s (fun _ g' s'=>g=g'∧s'=s.set i (mp m (ka (ci tl n id vis)))):=by
 intro n;induction n with
 | zero=>intro id vis s i h; omega
 | succ n ih =>
 intro id vis s i hcnt hi;have hv':=hv;obtain ⟨b,mt,iv,rs,rfl,hb,hm,hI,hall⟩:=hv';obtain ⟨x,hx1,hx2,hx3⟩:=ie hall qn id;obtain ⟨xi,xd,xp,xn,xc⟩:=x;have hxs:SlA encSide g (.slice xp xn xc) ((az tl id).getD gt).sides:=hx3.2.2;have hxn:xn=((az tl id).getD gt).sides.length:=Sl.slen hxs;subst hxn;refine za9 (args:=[vi id,pp bt 0,pp bm 0,pp bf 0]) func94 I ntmps94 (bE I) ?_;refine rZ (lK (qL isAgg88 I (cK h2 I)) (lU (nC I) (lU (fA qv I tu I) (lK (qL isAgg85 I (cK hb I)) (lM I (lK (SQ.eq (v':=.tuple #[rcv ⟨xi,xd,xp,((az tl id).getD gt).sides.length,xc⟩,vb (decide ((az tl id).isSome=true))]) (SQ.lookupOk mty85 I I (cG.known hm)) (by rw[hx1,hx2,Bool.decide_eq_true]; rfl)) ?_))))));refine lM I (yX I (yX I (bW (aL zl1) fun b5=>?_)));refine oZ (sK 0 aK I I I I I sB) ?_;refine aT I (sQ ?_);refine SC.cutB 24 (!(az tl id).isSome||vis.contains id) ?_ ?_
 ·refine rG (lM I (lU (SU.notP I) (lM I ?_)));refine sP ?_ ?_
  ·intro h20;refine yA I (yA I (yA I (yP I (nL ?_))));exact za8 (by simp_all[bk]) mI
  ·intro h20;refine SL.gq (gT I I I dC) (qL isAgg97 I (cK h5 I)) dC (yC I (SL.gq (gT I I I dC) (SQ.eq (v':=vb (decide (vis.contains id=true))) (SQ.lookup mty97 I I (cG.own (i+1) hi)) (by rw[(rY vis).get id]; simp)) dC ?_));refine yF I (nL ?_);exact za8 (by simp_all[bk]) mI
 refine iQ I (fun hstop=>?_) (fun hstop=>?_)
 ·refine rE (tR (dR (s':=s) uR ?_));have hr:ci tl (n+1) id vis=vis:=by
   unfold ci;cases h:az tl id with
   | none=>rfl
   | some c =>
    rw[h] at hstop;simp only[Option.isSome_some,Bool.not_true,Bool.false_or] at hstop;simp only[hstop,if_true]
  exact ST.ret0 (.inl I) results94 ⟨I,by rw[hr,nu hi]⟩
 ·obtain ⟨c,hc⟩:∃ c,az tl id=some c:=by
   cases h:az tl id with
   | none=>rw[h] at hstop; simp at hstop
   | some c=>exact⟨c,rfl⟩
  obtain ⟨hcm,hcid⟩:=bF hc;have hnv:vis.contains id=false:=by rw[hc] at hstop; simpa using hstop
  have hcl:=hf.2 c hcm;have hcnt2:p8 tl (vis++[id])<n:=by
   have:=Bt hcm (by rw[hcid]; exact hnv);rw[hcid] at this;omega
  simp only[hc,Option.getD_some] at hxs ⊢;refine kP (tN (rZ (lK (qL isAgg97 I (cK h5 I)) (lM I (lO (SO.mapUpdate (i+1) mty97 I I I hi) ?_)))));rintro _ _ _ ⟨rfl,rfl⟩;rw[xL hnv];refine tZ (rZ (lU (fA ar I cA I) (lK (qL dE I (cO 0 I I)) (lU (eN cM I) (lM I (tZ (bK (SC.drop (s':=s.set i (mp m (ka (vis++[id])))) (.cons _ (.refl _)) ?_))))))));refine oP (ι:=Nat×List Int) (fun q=>[(3,pp bf 0),(28,.slice xp c.sides.length xc),(29,vi c.sides.length),(30,vi q.1)]) (fun _=>g)
   (fun q=>s.set i (mp m (ka q.2))) (fun q=>q.1≤c.sides.length∧q.2=(c.sides.take q.1).foldl (fun v x=>ci tl n x.cell v) (vis++[id])∧p8 tl q.2<n) (fun q=>c.sides.length - q.1)
   (0,vis++[id]) sB rfl rfl ⟨zf3 _,by simp,hcnt2⟩ ?_
  rintro ⟨j,vj⟩ ⟨hj,hvj,hcj⟩;dsimp only at hj hvj hcj ⊢;refine rZ (yL I (tZ (sQ ?_)));refine iP I (fun hlt=>?_) (fun hlt=>?_)
  ·have hjl:j<c.sides.length:=oM;have hb1:=hxs.based oM;have hjx:c.sides[((j:Nat):Int).toNat]?=some c.sides[j]:=gE hjl;generalize c.sides[j]=y at *;refine kP (tN (sQ (bK (rZ (lU (iA cM cq I I hb1 oM sL) (lK (eA mT cq I hxs.rd hjx) (bW (aL zk9) fun b8=>?_)))))));refine oZ (sK 0 cq I I I I I sB) ?_;refine tZ (rG (lK (qL isAgg135 I (cK h6 I)) (lU (fA dK I zT3 I) (lK (qL iT3 I (cO 0 I I)) (lW (SO.callV I I (cI.mk (cap:=[pp bt 0,pp bm 0,pp bf 0]) call94 (ih y.cell vj _ (i+1) hcj (Bk hi _)))) ?_)))));rintro _ _ _ ⟨rfl,rfl⟩;refine nL (bN (tN (rG (yD I (lM I (nL (dR (s':=s.set i (mp m (ka (ci tl n y.cell vj)))) (by rw[List.set_cons_zero,List.set_cons_succ,List.set_set]; exact .cons _ (.refl _)) ?_)))))));exact gA (j+1,ci tl n y.cell vj) sB I I ⟨lN,by
    rw[fg (j:=j) hjx,zi6,← hvj]; rfl,Nat.lt_of_le_of_lt (o0 fun x hx=>qS tl n _ _ x hx) hcj⟩ lN
  ·refine xI (tX (tX (bX ?_)));have hjj:c.sides.take j=c.sides:=tL oM;have hr:ci tl (n+1) id vis=vj:=by
    rw[hjj] at hvj;rw[hvj,pC,hc];simp only[hnv,Bool.false_eq_true,if_false]
   exact ST.ret0 (.inr I) results94 ⟨I,by rw[hr]⟩
theorem Bu (tl:List Cl)(v:List Int):p8 tl v≤tl.length:=zc2 _ _
theorem jU (E:World)(g:PH)(s:Own)(v iv:Value)(tl:List Cl)(ids:List Int)(hv:Tab g v tl)(hf:cZ tl)(hi:bT g iv ids)(hl:ids.length<1099511627776) :
  Ctr Tryz.prog E 49 #[v,iv] g s (fun r g' s'=>∃ m,r = .map (some m)∧Le g g'∧s'=mp m (ka (cu tl ids))::s):=by
 obtain ⟨p,c,rfl⟩:=za2 hi;have hvc:v.cells = #[v]:=by obtain ⟨b,_,_,_,rfl,_⟩:=hv; rfl
 refine za9 (args:=[v,.slice p ids.length c]) func49 I ntmps49 (bE I) ?_;refine rZ (bW (bO I) fun b2=>?_);refine zb3 fun g1 hle hb2=>?_;rw[hvc] at hb2;refine aT I (rZ (lW (SO.mkMap) ?_));rintro _ _ _ ⟨m,rfl,rfl,rfl⟩;refine bW (aL zeroValue97) fun b5=>?_;refine oZ (sK 0 sizeOf97 I I I I I ⟨I,trivial⟩) (zb3 fun g2 hle2 hb5=>?_);refine tZ (rZ (bW (aL zeroValue135) fun b6=>?_));refine tZ (rZ (lU (SU.mkFunc I) (oZ (sK 0 sizeOf135 I I I I I ⟨I,trivial⟩) (zb3 fun g3 hle3 hb6=>?_))));refine tZ (sQ (sW I (lU (eN ak I) (lM I (tZ (bK ?_))))));have hv3:=hv.mono (hle.trans (hle2.trans hle3));have hi3:=hi.mono (hle.trans (hle2.trans hle3));refine oP (ι:=Nat×List Int) (fun q=>[(5,pp b5 0),(6,pp b6 0),(11,.slice p ids.length c),(12,vi ids.length),(13,vi q.1)]) (fun _=>g3)
  (fun q=>mp m (ka q.2)::s) (fun q=>q.1≤ids.length∧q.2=(ids.take q.1).foldl (fun v id=>ci tl (tl.length+1) id v) []) (fun q=>ids.length - q.1)
  (0,[]) sB rfl rfl ⟨zf3 _,by simp⟩ ?_
 rintro ⟨j,vj⟩ ⟨hj,hvj⟩;dsimp only at hj hvj ⊢;refine rZ (yL I (tZ (sQ ?_)));refine iP I (fun hlt=>?_) (fun hlt=>?_)
 ·have hjl:j<ids.length:=oM;have hb1:=za4 hi oM;have hjx:ids[((j:Nat):Int).toNat]?=some ids[j]:=gE hjl;generalize ids[j]=y at *;refine kP (tN (sQ (bK (rZ (lU (iA ak zT3 I I hb1 oM sL) (lK (eB iT3 I (za5 hi3) hjx I) (aT I (rG (lK (qL isAgg135 I (cK hb6 I)) (lM I (lW (SO.callV I I (cI.mk (cap:=[pp b2 0,pp b5 0,pp b6 0]) call94 (zC E g3 b2 b5 b6 m v tl hv3 hf ((hle2.trans hle3) _ _ hb2) (hle3 _ _ hb5) hb6 (tl.length+1) y vj _ 0 (zk7 (Bu _ _)) I))) ?_)))))))))));rintro _ _ _ ⟨rfl,rfl⟩;refine nL (bN (tN (rG (yD I (lM I (nL ?_))))));exact gA (j+1,ci tl (tl.length+1) y vj) sB I I ⟨lN,by rw[fg (j:=j) hjx,zi6,← hvj]; rfl⟩ lN
 ·refine xI (tX (tX (bX (tN (rZ (lK (qL isAgg97 I (cK (hle3 _ _ hb5) I)) (aT I (rE ?_))))))));have hjj:ids.take j=ids:=tL oM;rw[hjj] at hvj;exact za6 (.inl I) results49 I ⟨m,I,hle.trans (hle2.trans hle3),by rw[hvj]; rfl⟩
open Go Go.Sy Go.Pl Go.Proofs Go.Shelf Go.Sort
def wI:Ren :=
 {
  f:=fun x =>
   match x with
   | 189=>97
   | 125=>138
   | 257=>137
   | 128=>184
   | 129=>185
   | 294=>176
   | 295=>177
   | 296=>178
   | 297=>179
   | 298=>180
   | 299=>181
   | 216=>124
   | 300=>182
   | 301=>183
   | 328=>216
   | 329=>217
   | 330=>218
   | 331=>219
   | 332=>220
   | 215=>135
   | 343=>234
   | n=>n,
  t:=fun x =>
   match x with
   | 28=>25
   | 3=>3
   | 46=>133
   | 0=>0
   | 51=>174
   | 53=>160
   | 4=>4
   | 183=>227
   | 182=>226
   | 131=>110
   | 5=>5
   | 9=>9
   | 218=>254
   | 222=>258
   | 228=>273
   | 229=>274
   | n=>n,
  g:=fun x =>
   have n:=x;
   n }
theorem Tryz.lays189:Lays.n189 Tryz.prog wI :=
  {
  mixed:=Eq.refl true,f125:=zb6 func138 (zd8 some kR),
  f128:=zb6 func184 (zd8 some kR),
  f129:=zb6 func185 (zd8 some kR),
  f189:=zb6 func97 (zd8 some kR),
  f215:=zb6 func135 (zd8 some kR),
  f216:=zb6 func124 (zd8 some kR),
  f257:=zb6 func137 (zd8 some kR),
  f294:=zb6 func176 (zd8 some kR),
  f295:=zb6 func177 (zd8 some kR),
  f296:=zb6 func178 (zd8 some kR),
  f297:=zb6 func179 (zd8 some kR),
  f298:=zb6 func180 (zd8 some kR),
  f299:=zb6 func181 (zd8 some kR),
  f300:=zb6 func182 (zd8 some kR),
  f301:=zb6 func183 (zd8 some kR),
  f328:=zb6 func216 (zd8 some kR),
  f329:=zb6 func217 (zd8 some kR),
  f330:=zb6 func218 (zd8 some kR),
  f331:=zb6 func219 (zd8 some kR),
  f332:=zb6 func220 (zd8 some kR),
  f343:=zb6 func234 (zd8 some kR),t0:=underlying0,
  a0:=isAgg0,z0:=sizeOf0,v0:=zeroValue0,t3:=uT3,a3:=iT3,
  z3:=zT3,v3:=zl6,t4:=uT4,a4:=isAgg4,z4:=zT4,
  v4:=zeroValue4,t5:=uT5,a5:=isAgg5,z5:=sizeOf5,v5:=zeroValue5,
  t9:=uT9,a9:=isAgg9,z9:=sizeOf9,v9:=zeroValue9,t28:=ak,
  a28:=dx,z28:=bZ,v28:=zeroValue25,t46:=iU,a46:=isAgg133,
  z46:=sizeOf133,v46:=zeroValue133,t51:=underlying174,a51:=isAgg174,
  z51:=sizeOf174,v51:=zeroValue174,t53:=ol,a53:=isAgg160,
  z53:=ee,v53:=zeroValue160,t131:=underlying110,a131:=isAgg110,
  z131:=sizeOf110,v131:=zeroValue110,t182:=underlying226,a182:=isAgg226,
  z182:=sizeOf226,v182:=zeroValue226,t183:=underlying227,a183:=isAgg227,
  z183:=sizeOf227,v183:=zeroValue227,t218:=underlying254,a218:=isAgg254,
  z218:=sizeOf254,v218:=zeroValue254,t222:=underlying258,a222:=isAgg258,
  z222:=sizeOf258,v222:=zeroValue258,t228:=underlying273,a228:=isAgg273,
  z228:=sizeOf273,v228:=zeroValue273,t229:=underlying274,a229:=isAgg274,
  z229:=sizeOf274,v229:=zeroValue274 }
def dZ (l:List Int):List Int:=l.mergeSort fun x y=>decide (x≤y)
theorem fj (l:List Int):(dZ l).length=l.length:=List.length_mergeSort ..
theorem mw (l:List Int):(dZ l).Perm l:=List.mergeSort_perm ..
theorem oT (l:List Int):l.flatMap encInt.enc=l.map (Value.int .i64):=by
 induction l with
 | nil=>rfl
 | cons a t ih=>simp only[zh2,zg1,ih]; rfl
theorem s4 (E:World)(g:PH)(s:Own)(v:Value)(l:List Int)(i:Nat)(hi:s[i]?=some (rowA encInt 3 v l))(hl:l.length<17592186044416) :
  Ctr Tryz.prog E 97 #[v] g s (fun _ g' s'=>g=g'∧s'=s.set i (rowA encInt 3 v (dZ l))):=by
 intro w hw;obtain ⟨h1,h2⟩:=ge hw hi
 rcases h2 with ⟨p,rfl,hn⟩ | ⟨b,cap,cur,rfl,hb,hle,hcm,hcs,ht⟩
 ·have hl0:l=[]:=zf1 hn;subst hl0;refine (Any.slices_Sort_int_none lays189 p 0 w).mono ?_;rintro e w' ⟨rfl,rfl⟩;refine⟨_,g,s,I,hw,I,?_⟩;have:dZ []=[]:=by simp[dZ]
  rw[this];exact (nu hi).symm
 ·have ht':cur.toList.take l.length=l.map (Value.int .i64):=by rw[← oT]; simpa using ht
  refine (Any.slices_Sort_int lays189 b 0 (cap+1) l w (holds_of_blockI hb ht') (Array.getElem?_eq_some_iff.1 hb).1 oM).mono ?_;rintro e w' ⟨rfl,n,os,rfl⟩;have hfr:=hw.fresh _ (zf8 hi) b rfl;refine⟨_,g,_,I,?_,I,I⟩;obtain ⟨q1,q2,q3,q4,q5⟩:=grownBy_sortedI (w:=w) (g:=b) (n:=n) (os:=os) (dZ l).toArray;refine hw.turn hi I ⟨I,(by exact Nat.le_add_right _ _)⟩ I q4 (fun k hk hne=>q5 k hk hne) ?_ ?_
  ·have h5:=heap_sortedI (n:=n) (os:=os) (dZ l).toArray hb;have hlen:=fj l;have:=dN (w:=grow (putRow (Value.int .i64) (Sort.ahead w n) b 0 (dZ l).toArray) os) (T:=3) (k:=1) (n:=(dZ l).length) (b:=b) (cap:=cap) (xs:=(dZ l).flatMap encInt.enc) (by rw[encInt.length]) h5 oM hcm (by simp[putCells]; simpa using hcs) (by
    rw[oT,Nat.mul_one];exact take_putCellsI cur (dZ l) (by rw[hlen,hcs]; omega))
   rw[hlen] at this;rw[show rowA encInt 3 (.slice (some ⟨b,0,none⟩) l.length (cap+1)) (dZ l)=row 3 1 (.slice (some ⟨b,0,none⟩) l.length (cap+1)) l.length ((dZ l).flatMap encInt.enc) by simp only[rowA,hlen]];exact this
  ·intro b' hb';simp only[rowA,row,nU,zg4] at hb';subst hb';exact⟨Nat.lt_of_lt_of_le (Array.getElem?_eq_some_iff.1 hb).1 q4,.inl I⟩
def eZ (c:Cl):Bool:=decide (c.dim<0)||decide (c.dim>8)
def ax (c:Cl):Bool:=(decide (c.dim=0)&&decide ((c.sides.length:Int)>0))||(decide (c.dim=1)&&decide ((c.sides.length:Int)≠2))||(decide (c.dim>1)&&(decide ((c.sides.length:Int)<2)||decide ((c.sides.length:Int)>64)))
def cf (tl:List Cl)(c:Cl)(i:Nat)(x:ai):Bool:=!(az tl x.cell).isSome||decide (((az tl x.cell).getD gt).dim≠c.dim - 1)||(decide (i>0)&&decide ((c.sides[i - 1]?.map ai.cell)=some x.cell))
section
variable {tl:List Cl}{c p:Cl}{i:Nat}{x:ai}
theorem o8 (h:¬ (az tl x.cell).isSome=true):cf tl c i x=true:=by
 have:(az tl x.cell).isSome=false:=by simpa using h
 simp[cf,this]
theorem uI (h:(az tl x.cell).isSome=true)(h2:((az tl x.cell).getD gt).dim≠c.dim - 1):cf tl c i x=true:=by
 simp only[cf,h,h2,Bool.not_true,Bool.false_or,ne_eq,not_false_eq_true,decide_true,Bool.true_or]
theorem uH (h:(az tl x.cell).isSome=true)(h2:¬ ((az tl x.cell).getD gt).dim≠c.dim - 1)(h3:¬ (i:Int)>0):cf tl c i x=false:=by
 have h4:¬ i>0:=oM;simp only[cf,h,h2,h4,Bool.not_true,Bool.false_or,decide_false,Bool.false_and]
theorem uG {q:ai}(h:(az tl x.cell).isSome=true)(h2:¬ ((az tl x.cell).getD gt).dim≠c.dim - 1)(h3:(i:Int)>0)(hq:c.sides[i - 1]?=some q):cf tl c i x=decide (q.cell=x.cell):=by
 have h4:i>0:=oM;simp only[cf,h,h2,h4,hq,Bool.not_true,Bool.false_or,decide_false,decide_true,Bool.true_and,Option.map_some,zg4]
end
def iY (tl:List Cl)(c:Cl)(i:Nat):Bool:=match c.sides[i]? with
 | some x=>cf tl c i x
 | none=>false
def bL (x:ai):Bool:=decide (x.sign≠1)&&decide (x.sign ≠ -1)
theorem tP {x:ai}(h:x.sign≠1):bL x=decide (x.sign ≠ -1):=by simp[bL,h]
theorem tO {x:ai}(h:¬ x.sign≠1):bL x=false:=by simp[bL,h]
def l8 (l:List ai):Int:=(l.map ai.sign).sum
def ct (tl:List Cl)(c:Cl):Int :=
 if eZ c then 21 else if ax c then 22 else if (List.range c.sides.length).any (iY tl c) then 22 else if c.sides.any bL then 23 else if (decide (c.dim=1)&&decide (l8 c.sides≠0)) then 23 else 0
theorem zj {l:List ai}(h:l.any bL=false):l8 l≤l.length ∧ -(l.length:Int)≤l8 l:=by
 induction l with
 | nil=>simp[l8]
 | cons x t ih =>
  simp only[List.any_cons,Bool.or_eq_false_iff] at h;have:=ih h.2;have hx:x.sign=1∨x.sign = -1:=by
   have h1:=h.1;simp only[bL,Bool.and_eq_false_iff,decide_eq_false_iff_not,ne_eq,Decidable.not_not] at h1;exact h1
  simp only[l8,zg1,List.sum_cons,ze5] at this ⊢;omega
theorem CB (E:World)(g:PH)(s:Own)(v:Value)(tl:List Cl)(c:Cl)(r:Rc)(hv:Tab g v tl)(hc:au g c r)(hl:c.sides.length<1099511627776) :
  Ctr Tryz.prog E 84 #[v,rcv r] g s (fun r g' s'=>r=vi (ct tl c)∧g=g'∧s=s'):=by
 obtain ⟨b,mt,iv,rs,rfl,hb,hm,hI,hall⟩:=hv;obtain ⟨ri,rd,rp,rn,rcap⟩:=r;have hcs:SlA encSide g (.slice rp rn rcap) c.sides:=hc.2.2;have hrn:rn=c.sides.length:=Sl.slen hcs;have hrd:rd=c.dim:=hc.2.1;subst hrn hrd;have hx0:=fun h=>hcs.based h;refine za9 (args:=[pp b 0,rcv ⟨ri,c.dim,rp,c.sides.length,rcap⟩]) func84 I ntmps84 (bE I) ?_;refine rZ (bW (bO I) fun b3=>?_);refine aT I (rZ (lU (fA ar I cA I) (lK (qL dE I (cO 0 I I)) (lU (eN cM I) (aT I (sQ (bK ?_)))))));refine SC.cutB 16 (eZ c) ?_ ?_
 ·refine rG (lU (fA ar I zT3 I) (lK (qL iT3 I (cO 0 I I)) (yL I (lM I ?_))));refine sP ?_ ?_
  ·intro h20;refine yA I (yA I (yA I (yP I (lA I (nL ?_)))));exact za8 (by simp_all[bk,eZ] <;> omega) mI
  ·intro h20;refine lY I I I (fA ar I zT3 I) (SL.gq (gT I I I dC) (qL iT3 I (cO 0 I I)) dC (lY I I I (gR I I) (yF I (lA I (nL ?_)))));exact za8 (by simp_all[bk,eZ] <;> omega) mI
 refine iQ I (fun hdb=>?_) (fun hdb=>?_)
 ·refine rZ (aT I (rE (bR (tR (dR (s':=s) uR ?_)))));exact za6 (.inl I) results84 I ⟨by unfold ct; rw[zf7 hdb],I,I⟩
 ·have hd8:0≤c.dim∧c.dim≤8:=by simp[eZ] at hdb; omega
  refine SC.cutB 25 (ax c) ?_ ?_
  ·refine rG (lU (fA ar I zT3 I) (lK (qL iT3 I (cO 0 I I)) (yE I (lM I ?_))));refine sP ?_ ?_
   ·intro h29;refine yC I (lY I I I (gR I I) (yP I (lM I ?_)));refine sP ?_ ?_
    ·intro h33;refine yA I (yA I (yA I (yA I (yB I (yB I (yA I (yP I (lM I (yA I (yA I (yA I (yA I (yB I (yB I (yB I (yB I (yB I (yB I (yA I (yP I (lA I (nL ?_))))))))))))))))))))));exact za8 (by simp_all[bk,ax] <;> omega) mI
    ·intro h33;refine lY I I I (fA ar I zT3 I) (SL.gq (gT I I I dC) (qL iT3 I (cO 0 I I)) dC (lY I I I (eQ I I) (yC I ?_)));refine sP ?_ ?_
     ·intro h37;refine yC I (lY I I I (nQ I I) (lY I I I (wT I I) (yF I (lM I ?_))));refine sP ?_ ?_
      ·intro h42;refine yA I (yA I (yA I (yA I (yB I (yB I (yB I (yB I (yB I (yB I (yA I (yP I (lA I (nL ?_)))))))))))));exact za8 (by simp_all[bk,ax] <;> omega) mI
      ·intro h42;refine lY I I I (fA ar I zT3 I) (SL.gq (gT I I I dC) (qL iT3 I (cO 0 I I)) dC (lY I I I (gR I I) (yC I ?_)));refine sP ?_ ?_
       ·intro h46;refine yC I (lY I I I (lS I I) (yC I ?_));refine sP ?_ ?_
        ·intro h49;refine yA I (yA I (lY I I I (wT I I) (lY I I I (wT I I) (yF I (lA I (nL ?_))))));exact za8 (by simp_all[bk,ax] <;> omega) mI
        ·intro h49;refine yC I (lY I I I (gR I I) (lY I I I (wF I I) (lY I I I (wT I I) (yF I (lA I (nL ?_))))));exact za8 (by simp_all[bk,ax] <;> omega) mI
       ·intro h46;refine yA I (yA I (yA I (yB I (yB I (yA I (lY I I I (wF I I) (yF I (lA I (nL ?_)))))))));exact za8 (by simp_all[bk,ax] <;> omega) mI
     ·intro h37;refine yA I (yA I (lY I I I (wF I I) (yF I (lM I (lY I I I (fA ar I zT3 I) (SL.gq (gT I I I dC) (qL iT3 I (cO 0 I I)) dC (lY I I I (gR I I) (yC I ?_))))))));refine sP ?_ ?_
      ·intro h46;refine yC I (lY I I I (lS I I) (yC I ?_));refine sP ?_ ?_
       ·intro h49;refine yA I (yA I (lY I I I (wT I I) (lY I I I (wT I I) (yF I (lA I (nL ?_))))));exact za8 (by simp_all[bk,ax] <;> omega) mI
       ·intro h49;refine yC I (lY I I I (gR I I) (lY I I I (wF I I) (lY I I I (wT I I) (yF I (lA I (nL ?_))))));exact za8 (by simp_all[bk,ax] <;> omega) mI
      ·intro h46;refine yA I (yA I (yA I (yB I (yB I (yA I (lY I I I (wF I I) (yF I (lA I (nL ?_)))))))));exact za8 (by simp_all[bk,ax] <;> omega) mI
   ·intro h29;refine yA I (yA I (yF I (lM I (lY I I I (fA ar I zT3 I) (SL.gq (gT I I I dC) (qL iT3 I (cO 0 I I)) dC (lY I I I (eQ I I) (yC I ?_)))))));refine sP ?_ ?_
    ·intro h37;refine yC I (lY I I I (nQ I I) (lY I I I (wT I I) (yF I (lM I ?_))));refine sP ?_ ?_
     ·intro h42;refine yA I (yA I (yA I (yA I (yB I (yB I (yB I (yB I (yB I (yB I (yA I (yP I (lA I (nL ?_)))))))))))));exact za8 (by simp_all[bk,ax] <;> omega) mI
     ·intro h42;refine lY I I I (fA ar I zT3 I) (SL.gq (gT I I I dC) (qL iT3 I (cO 0 I I)) dC (lY I I I (gR I I) (yC I ?_)));refine sP ?_ ?_
      ·intro h46;refine yC I (lY I I I (lS I I) (yC I ?_));refine sP ?_ ?_
       ·intro h49;refine yA I (yA I (lY I I I (wT I I) (lY I I I (wT I I) (yF I (lA I (nL ?_))))));exact za8 (by simp_all[bk,ax] <;> omega) mI
       ·intro h49;refine yC I (lY I I I (gR I I) (lY I I I (wF I I) (lY I I I (wT I I) (yF I (lA I (nL ?_))))));exact za8 (by simp_all[bk,ax] <;> omega) mI
      ·intro h46;refine yA I (yA I (yA I (yB I (yB I (yA I (lY I I I (wF I I) (yF I (lA I (nL ?_)))))))));exact za8 (by simp_all[bk,ax] <;> omega) mI
    ·intro h37;refine yA I (yA I (lY I I I (wF I I) (yF I (lM I (lY I I I (fA ar I zT3 I) (SL.gq (gT I I I dC) (qL iT3 I (cO 0 I I)) dC (lY I I I (gR I I) (yC I ?_))))))));refine sP ?_ ?_
     ·intro h46;refine yC I (lY I I I (lS I I) (yC I ?_));refine sP ?_ ?_
      ·intro h49;refine yA I (yA I (lY I I I (wT I I) (lY I I I (wT I I) (yF I (lA I (nL ?_))))));exact za8 (by simp_all[bk,ax] <;> omega) mI
      ·intro h49;refine yC I (lY I I I (gR I I) (lY I I I (wF I I) (lY I I I (wT I I) (yF I (lA I (nL ?_))))));exact za8 (by simp_all[bk,ax] <;> omega) mI
     ·intro h46;refine yA I (yA I (yA I (yB I (yB I (yA I (lY I I I (wF I I) (yF I (lA I (nL ?_)))))))));exact za8 (by simp_all[bk,ax] <;> omega) mI
  refine iQ I (fun hcb=>?_) (fun hcb=>?_)
  ·refine rZ (aT I (rE (bR (tR (dR (s':=s) uR ?_)))));exact za6 (.inl I) results84 I ⟨by unfold ct; rw[zf6 (by simp[hdb]),zf7 hcb],I,I⟩
  ·have hn64:c.sides.length≤64:=by
    simp[ax] at hcb
    rcases Int.lt_trichotomy c.dim 1 with h | h | h
    ·have:c.dim=0:=oM;have:=hcb.1.1 this;simp[this]
    ·have:=hcb.1.2 h;omega
    ·have:=hcb.2 h;omega
   refine kP (bN (tN (sQ (rZ (lU (fA ar I cA I) (lK (qL dE I (cO 0 I I)) (lU (eN cM I) (lM I (tZ (bK ?_))))))))));refine oP (ι:=Nat) (fun k=>[(0,pp b 0),(3,pp b3 0),(5,vi c.sides.length),(56,.slice rp c.sides.length rcap),(57,vi c.sides.length),(58,vi k)]) (fun _=>g)
    (fun _=>pt b3 (.cells #[vi ri,vi c.dim,.slice rp c.sides.length rcap] 78 (0,0))::s) (fun k=>k≤c.sides.length∧(List.range k).any (iY tl c)=false) (fun k=>c.sides.length - k) 0
    sB rfl rfl ⟨zf3 _,by simp⟩ ?_
   rintro k ⟨hk,hno⟩;try dsimp only
   refine rZ (yL I (tZ (sQ ?_)));refine iP I (fun hlt=>?_) (fun hlt=>?_)
   ·have hkl:k<c.sides.length:=oM;have hb1:=hx0 oM;have hjx:c.sides[((k:Nat):Int).toNat]?=some c.sides[k]:=gE hkl;have hjx':c.sides[k]?=some c.sides[k]:=gE hkl;generalize c.sides[k]=y at *;obtain ⟨x,hx1,hx2,hx3⟩:=ie hall qn y.cell;obtain ⟨xi,xd,xp,xn,xc⟩:=x;have hxd:xd=((az tl y.cell).getD gt).dim:=hx3.2.1;subst hxd;have hprev:(k:Int)>0→c.sides[((k:Int) - 1).toNat]?=some (c.sides.getD (k - 1) y):=fun h=>by
     have h1:((k:Int) - 1).toNat=k - 1:=oM;have h2:k - 1<c.sides.length:=oM;rw[h1,gE h2,zg7,gE h2];rfl
    have hprev2:(k:Int)>0→c.sides[k - 1]?=some (c.sides.getD (k - 1) y):=fun h=>by
     have h2:k - 1<c.sides.length:=oM;rw[gE h2,zg7,gE h2];rfl
    refine kP (tN (sQ (bK (sW I (lU (iA cM cq I I hb1 oM sL) (lK (eA mT cq I hcs.rd hjx) (bW (aL zk9) fun b7=>?_)))))));refine lA I (oZ (sK 0 cq I I I I I sB) ?_);refine tZ (sQ ?_);refine dW [11,12] [(0,2),(1,2),(2,2),(3,1),(4,2),(5,1),(6,1),(7,2),(8,2),(9,2),(10,0),(11,0),(12,0)] zd9 kR ?_;refine yM I (pU I (nC I) (pU I (fA qv I tu I) (pK I (qL isAgg85 I (cK hb I)) (pU I (fA dK I zT3 I) (pK I (qL iT3 I (cO 0 I I)) (pK I (SQ.eq (v':=.tuple #[rcv ⟨xi,((az tl y.cell).getD gt).dim,xp,xn,xc⟩,vb (decide ((az tl y.cell).isSome=true))]) (SQ.lookupOk mty85 I I (cG.known hm)) (by rw[hx1,hx2,Bool.decide_eq_true]; rfl)) ?_))))));refine yM I (pU I (xT I I) (pU I (xT I I) (SP.o I (aL zl1) dC (.inr iR) ?_)));rintro _ _ _ ⟨b8,rfl,rfl,rfl⟩;refine SP.on I (sK 0 aK I I I I I sB) (.inl dC) ?_;rintro _ _ _ ⟨rfl,rfl⟩;refine oU I (aS I) dC (.inl dC) (pN (tN ?_));refine SC.cutB 98 (cf tl c k y) ?_ ?_
    ·refine dW [] [(0,2),(1,2),(2,2),(3,2),(4,1),(5,2),(6,1),(7,2),(8,2),(9,2),(10,2),(11,2),(12,2),(13,2),(14,2),(15,1),(16,2),(17,2),(18,2),(19,2),(20,1),(21,2),(22,1),(23,2),(24,2),(25,2)] zd9 kR ?_;refine yM I (pU I (SU.notP I) (yM I ?_));refine SP.split ?_ ?_
     ·intro h75;refine yG I (yI I (yG I (yI I (yG I (yG I (pU I (wT I I) (yM I (yG I (yG I (yG I (yH I (SP.off1 I (zb2 I I I dC) dC (yH I (yH I (yH I (yH I (SP.off1 I (zb2 I I I dC) dC (yH I (SP.off1 I (zb2 I I I dC) dC (yH I (yG I (pU I (wT I I) (pN ?_)))))))))))))))))))))));exact za8 (by exact zd8 (fun b=>some (Value.bool b)) (o8 h75).symm) mI
     ·intro h75;refine zb1 I (gT I I I dC) (fA ar I zT3 I) dC (SP.gq I (gT I I I dC) (qL iT3 I (cO 0 I I)) dC (zb1 I (gT I I I dC) (fA ar I zT3 I) dC (SP.gq I (gT I I I dC) (qL iT3 I (cO 2 I I)) dC (zb1 I (gT I I I dC) (sU I I oM) dC (zb1 I (gT I I I dC) (nQ I I) dC (pU I (wF I I) (yM I ?_)))))));refine SP.split ?_ ?_
      ·intro h83;refine yG I (yG I (yG I (yH I (SP.off1 I (zb2 I I I dC) dC (yH I (yH I (yH I (yH I (SP.off1 I (zb2 I I I dC) dC (yH I (SP.off1 I (zb2 I I I dC) dC (yH I (yG I (pU I (wT I I) (pN ?_)))))))))))))));exact za8 (by exact zd8 (fun b=>some (Value.bool b)) (uI (zg6 h75) h83).symm) mI
      ·intro h83;refine yJ I (zb1 I (gT I I I dC) (gR I I) dC (yJ I ?_));refine SP.split ?_ ?_
       ·intro h86;refine zb1 I (gT I I I dC) (fA ar I cA I) dC (SP.gq I (gT I I I dC) (qL dE I (cO 2 I I)) dC (yJ I (zb1 I (gT I I I dC) (sU I I oM) dC (zb1 I (gT I I I dC) (iA cM cq I I (by assumption) oM (by (simp[slen]; omega))) dC ?_))));refine zb1 I (gT I I I dC) (fC dK I zT3 I (by assumption)) dC ?_;refine SP.gq I (gT I I I dC) (aZ (o:=0) iT3 I hcs.rd (hprev h86) I) dC (zb1 I (gT I I I dC) (fA dK I zT3 I) dC (SP.gq I (gT I I I dC) (qL iT3 I (cO 1 I I)) dC (zb1 I (gT I I I dC) (eQ I I) dC (zb1 I (gT I I I dC) (wT I I) dC (pU I (wF I I) (pN ?_))))));exact za8 (by exact zd8 (fun b=>some (Value.bool b)) (uG (zg6 h75) h83 h86 (hprev2 h86)).symm) mI
       ·intro h86;refine yG I (yI I (yG I (yG I (yG I (yG I (yI I (yG I (yI I (yG I (zb1 I (gT I I I dC) (wF I I) dC (pU I (wF I I) (pN ?_))))))))))));exact za8 (by exact zd8 (fun b=>some (Value.bool b)) (uH (zg6 h75) h83 h86).symm) mI
    have hbat:iY tl c k=cf tl c k y:=by unfold iY; rw[hjx']
    refine iQ I (fun hbad=>?_) (fun hbad=>?_)
    ·refine rZ (aT I (rE (bR (tR (tR (bR (tR (dR (s':=s) uR ?_))))))));have hany:(List.range c.sides.length).any (iY tl c)=true:=zj5.2 ⟨k,List.mem_range.2 hkl,by rw[hbat]; exact hbad⟩;exact za6 (.inl I) results84 I ⟨by unfold ct; rw[zf6 (by simp[hdb]),zf6 (by simp[hcb]),zf7 hany],I,I⟩
    ·refine kP (bN (tN (rG (yD I (lM I (nL (dR (s':=pt b3 (.cells #[vi ri,vi c.dim,.slice rp c.sides.length rcap] 78 (0,0))::s) (.cons _ (.cons _ (.refl _))) ?_)))))));exact gA (k+1) sB I I ⟨oM,by rw[List.range_succ,List.any_append,hno]; simp[hbat,hbad]⟩ oM
   ·refine xI (tX (tX (bX (tN (rZ (aT I (sQ (rZ (lU (fA ar I cA I) (lK (qL dE I (cO 0 I I)) (lU (eN cM I) (lM I (tZ (bK ?_))))))))))))));have hkk:k=c.sides.length:=oM;subst hkk;refine oP (ι:=Nat) (fun k=>[(3,pp b3 0),(10,vi (l8 (c.sides.take k))),(101,.slice rp c.sides.length rcap),(102,vi c.sides.length),(103,vi k)]) (fun _=>g)
     (fun _=>pt b3 (.cells #[vi ri,vi c.dim,.slice rp c.sides.length rcap] 78 (0,0))::s) (fun k=>k≤c.sides.length∧(c.sides.take k).any bL=false) (fun k=>c.sides.length - k) 0
     sB rfl rfl ⟨zf3 _,by simp⟩ ?_
    rintro k ⟨hk2,hns⟩;try dsimp only
    have hsb:=zj hns;have htl:(c.sides.take k).length=k:=by simp; omega
    refine rZ (yL I (tZ (sQ ?_)));refine iP I (fun hlt2=>?_) (fun hlt2=>?_)
    ·have hkl:k<c.sides.length:=oM;have hb1:=hx0 oM;have hjx:c.sides[((k:Nat):Int).toNat]?=some c.sides[k]:=gE hkl;have htk:c.sides.take (k+1)=c.sides.take k++[c.sides[k]]:=tS hkl;have hmemy:c.sides[k]∈c.sides:=gM hkl;generalize c.sides[k]=y at *;refine kP (tN (sQ (bK (rZ (lU (iA cM cq I I hb1 oM sL) (lK (eA mT cq I hcs.rd hjx) (bW (aL zk9) fun b12=>?_)))))));refine oZ (sK 0 cq I I I I I sB) ?_;refine tZ (sQ ?_);refine SC.cutB 114 (bL y) ?_ ?_
     ·refine rG (lU (fA dK I zT3 I) (lK (qL iT3 I (cO 0 I I)) (lU (nQ I I) (lM I ?_))));refine sP ?_ ?_
      ·intro h110;refine lY I I I (fA dK I zT3 I) (SL.gq (gT I I I dC) (qL iT3 I (cO 0 I I)) dC (lY I I I (nQ I I) (yP I (nL ?_))));exact za8 (by exact zd8 (fun b=>some (Value.bool b)) (tP h110).symm) mI
      ·intro h110;refine yA I (yA I (yA I (yF I (nL ?_))));exact za8 (by exact zd8 (fun b=>some (Value.bool b)) (tO h110).symm) mI
     refine iQ I (fun hsg=>?_) (fun hsg=>?_)
     ·refine rZ (aT I (rE (tR (bR (tR (tR (bR (tR (dR (s':=s) uR ?_)))))))));have hany:c.sides.any bL=true:=zj5.2 ⟨y,hmemy,hsg⟩;exact za6 (.inl I) results84 I ⟨by unfold ct; rw[zf6 (by simp[hdb]),zf6 (by simp[hcb]),zf6 (by simp[hno]),zf7 hany],I,I⟩
     ·have hyb:y.sign=1∨y.sign = -1:=by
       simp only[bL,Bool.and_eq_false_iff,decide_eq_false_iff_not,ne_eq,Decidable.not_not] at hsg;exact hsg
      refine kP (tN (rG (lM I (lU (fA dK I zT3 I) (lK (qL iT3 I (cO 0 I I)) (lU (aD (m:=l8 (c.sides.take k)) (n:=y.sign) I I oM) (lA I (nL (bN (tN (rG (yD I (lM I (nL (dR (s':=pt b3 (.cells #[vi ri,vi c.dim,.slice rp c.sides.length rcap] 78 (0,0))::s) (.cons _ (.refl _)) ?_)))))))))))))));exact gA (k+1) ⟨I,Hl I (by rw[htk]; simp[l8]),I,I,I,trivial⟩ I I ⟨oM,by rw[htk,List.any_append,hns]; simp[hsg]⟩ oM
    ·have hkk:c.sides.take k=c.sides:=tL oM;rw[hkk] at hns;rw[hkk];refine xI (tX (tX (bX (tN (sQ ?_)))));refine SC.cutB 126 ((decide (c.dim=1)&&decide (l8 c.sides≠0))) ?_ ?_
     ·refine rG (lU (fA ar I zT3 I) (lK (qL iT3 I (cO 0 I I)) (yE I (lM I ?_))));refine sP ?_ ?_
      ·intro h123;refine yC I (lY I I I (nQ I I) (yP I (nL ?_)));exact za8 (by simp_all[bk]) mI
      ·intro h123;refine yA I (yA I (yF I (nL ?_)));exact za8 (by simp_all[bk]) mI
     refine iQ I (fun hend=>?_) (fun hend=>?_)
     ·refine rZ (aT I (rE (tR (dR (s':=s) uR ?_))));exact za6 (.inl I) results84 I ⟨by unfold ct; rw[zf6 (by simp[hdb]),zf6 (by simp[hcb]),zf6 (by simp[hno]),zf6 (by simp[hns]),zf7 hend],I,I⟩
     ·refine kP (tN (rZ (aT I (rE (dR (s':=s) uR ?_)))));exact za6 (.inl I) results84 I ⟨by unfold ct; rw[zf6 (by simp[hdb]),zf6 (by simp[hcb]),zf6 (by simp[hno]),zf6 (by simp[hns]),zf6 (by rw[hend]; simp)],I,I⟩
theorem Tryz.mty79:MTy Tryz.prog 79 3 3 (vi 0):=⟨underlying79,underlying3,zl6⟩
theorem Tryz.mty176:MTy Tryz.prog 176 3 25 (.slice none 0 0):=⟨underlying176,underlying3,zeroValue25⟩
abbrev Ms:=List (Int×Value×List Int)
def e9 (ms:Ms):Own:=ms.map fun t=>rowA encInt 3 t.2.1 t.2.2
def jm (ms:Ms):List (Int×Value):=ms.map fun t=>(t.1,t.2.1)
def gw (ms:Ms):List (Int×List Int):=ms.map fun t=>(t.1,t.2.2)
def fE:List (Int×List Int)→Int→Int→List (Int×List Int)
 | [],k,x=>[(k,[x])]
 | (a,l)::r,k,x=>if k=a then (a,l++[x])::r else (a,l)::fE r k x
def gL:List (Int×Int)→Int→Int→List (Int×Int)
 | [],k,x=>[(k,x)]
 | (a,z)::r,k,x=>if k=a then (a,z+x)::r else (a,z)::gL r k x
def iJ:List (Int×Int)→Int→Int
 | [],_=>0
 | (a,z)::r,k=>if k=a then z else iJ r k
def sX (zl:List (Int×Int)):List (Int×Value):=zl.map fun p=>(p.1,vi p.2)
theorem Ep (zl:List (Int×Int))(k:Int):(ft (sX zl) k).getD (vi 0)=vi (iJ zl k):=by
 induction zl with
 | nil=>rfl
 | cons p r ih =>
  obtain ⟨a,z⟩:=p;simp only[sX,zg1,cd,iJ] at ih ⊢;split
  ·rfl
  ·exact ih
theorem EX (zl:List (Int×Int))(k x:Int):kh (sX zl) k (vi (iJ zl k+x))=sX (gL zl k x):=by
 induction zl with
 | nil=>simp[sX,kh,gL,iJ]
 | cons p r ih =>
  obtain ⟨a,z⟩:=p;simp only[sX,zg1,kh,iJ,gL] at ih ⊢;split
  ·rename_i h; subst h; rfl
  ·simp only[zg1,ih]
theorem zS {zl:List (Int×Int)}{B:Int}(hB:0≤B)(h:∀ p∈zl,-B≤p.2∧p.2≤B)(k:Int) : -B≤iJ zl k∧iJ zl k≤B:=by
 induction zl with
 | nil=>simp only[iJ]; omega
 | cons p r ih =>
  obtain ⟨a,z⟩:=p;simp only[iJ];split
  ·exact h (a,z) (by simp)
  ·exact ih fun q hq=>h q (by simp[hq])
theorem Aj {zl:List (Int×Int)}{B:Int}(hB:0≤B)(h:∀ p∈zl,-B≤p.2∧p.2≤B)(k:Int){x:Int}(hx : -1≤x∧x≤1):∀ p∈gL zl k x,-(B+1)≤p.2∧p.2≤B+1:=by
 induction zl with
 | nil =>
  intro p hp;simp only[gL,zh4] at hp;subst hp;dsimp only;omega
 | cons q r ih =>
  obtain ⟨a,z⟩:=q;intro p hp;simp only[gL] at hp;have h0:=h (a,z) (by simp);dsimp only at h0;split at hp
  ·rcases ze7.1 hp with rfl | hp
   ·dsimp only; omega
   ·have:=h p (by simp[hp]); omega
  ·rcases ze7.1 hp with rfl | hp
   ·dsimp only; omega
   ·exact ih (fun q hq=>h q (by simp[hq])) p hp
theorem Hx (ms:Ms)(k:Int):∃ (ms':Ms) (j:Nat) (v:Value) (l:List Int),ms'[j]?=some (k,v,l)∧(ft (jm ms) k).getD (.slice none 0 0)=v∧(∀ v' x,kh (jm ms) k v'=jm (ms'.set j (k,v',l++[x]))) ∧
  (∀ v' x,gw (ms'.set j (k,v',l++[x]))=fE (gw ms) k x)∧(∀ B,(∀ t∈ms,t.2.2.length≤B)→∀ t∈ms',t.2.2.length≤B)∧∀ E g (hd s:Own) w,At E g (hd++(e9 ms++s)) w→At E g (hd++(e9 ms'++s)) w:=by
 induction ms with
 | nil =>
  refine⟨[(k,.slice none 0 0,[])],0,.slice none 0 0,[],I,I,fun v' x=>I,fun v' x=>by simp[gw,fE],fun B _ t ht=>by simp at ht; subst ht; simp,fun E g hd s w h=>?_⟩;have h1:=h.nilRow 3 1;refine h1.perm ?_;simp only[e9,List.map_nil,List.nil_append,zg1,List.singleton_append];exact List.perm_middle.symm
 | cons p r ih =>
  obtain ⟨a,u,l0⟩:=p;by_cases hk:k=a
  ·subst hk;refine⟨(k,u,l0)::r,0,u,l0,I,by simp[jm,cd],fun v' x=>by simp[jm,kh],fun v' x=>by simp[gw,fE],fun B h=>h,fun E g hd s w h=>h⟩
  ·obtain ⟨ms',j,v,l,h1,h2,h3,h4,h6,h5⟩:=ih;refine⟨(a,u,l0)::ms',j+1,v,l,by simpa using h1,?_,fun v' x=>?_,fun v' x=>?_,fun B h t ht=>?_,fun E g hd s w h=>?_⟩
   ·rw[← h2];simp[jm,cd,hk]
   ·have:=h3 v' x;simp only[jm,zg1,kh,List.set_cons_succ] at this ⊢;rw[zf6 hk,this]
   ·have:=h4 v' x;simp only[gw,zg1,fE,List.set_cons_succ] at this ⊢;rw[zf6 hk,this]
   ·rcases ze7.1 ht with rfl | ht
    ·exact h _ (by simp)
    ·exact h6 B (fun t ht=>h t (by simp[ht])) t ht
   ·have:=h5 E g (hd++[rowA encInt 3 u l0]) s w (by simpa [e9] using h);simpa [e9] using this
theorem SC.to {P:Program}{N:Nat}{E:World}{c:Code}{Q:Exit→Act→World→Prop}{f:Fr}{g g':PH}{s s':Own}(h:∀ w,At E g s w→At E g' s' w)(hc:SC P N E c Q f g' s'):SC P N E c Q f g s:=fun a w ha hw=>hc a w ha (h w hw)
theorem ST.to {N:Nat}{E:World}{e:Exit}{Q:Exit→Act→World→Prop}{f:Fr}{g g':PH}{s s':Own}(h:∀ w,At E g s w→At E g' s' w)(hc:ST N E Q e f g' s'):ST N E Q e f g s:=fun a w ha hw=>hc a w ha (h w hw)
theorem SL.to {P:Program}{N:Nat}{E:World}{ops:Array Oper}{l:List Oper}{Q:Exit→Act→World→Prop}{f:Fr}{g g':PH}{s s':Own}(h:∀ w,At E g s w→At E g' s' w)(hc:SL P N E ops Q l f g' s'):SL P N E ops Q l f g s:=fun a w ha hw=>hc a w ha (h w hw)
theorem fh {α:Type}(s:List α)(n j:Nat)(x:α):(s.take n).Sublist (s.set (j+n) x):=by
 rw[show s.take n=(s.set (j+n) x).take n by rw[List.take_set_of_le oM]];exact List.take_sublist _ _
theorem SC.drawT {P:Program}{N:Nat}{E:World}{ops:Array Oper}{Q:Exit→Act→World→Prop}{f:Fr}{g:PH}{s:Own}{id:Nat}(n:Nat)(tail:List Nat)(plan:List (Nat×Nat))(hm:P.follows .mixedOrders=true)(hok:vS ops tail plan=true)
  (h:SP P N E ops Q g (s.take n) tail plan f g s):SC P N E (.region id ops true) Q f g s:=by
 intro a w ha hw;unfold vS at hok;simp only[zi9,beq_iff_eq] at hok;refine wp_region_any hm (jX _ _ _ _ (S:=At E g (s.take n)) (tail:=tail) ?_);have:=h (Array.replicate ops.size false) a { w with drawn:=w.drawn+1 } hok.1.1 (kW _) hok.2 ha (hw.drew _ (Nat.le_succ _)) (fun _=>(hw.sublist (List.take_sublist n s)).drew _ (Nat.le_succ _));rw[hok.1.2] at this;exact this
theorem r6 {ms:Ms}{j:Nat}{k:Int}{v:Value}{l:List Int}(h:ms[j]?=some (k,v,l))(s:Own):(e9 ms++s)[j]?=some (rowA encInt 3 v l):=by
 have hj:=(zf2.1 h).1;rw[zg8 (by simpa [e9] using hj)];simp[e9,h]
theorem r5 {ms:Ms}{j:Nat}{k:Int}{v v':Value}{l l':List Int}(h:ms[j]?=some (k,v,l))(s:Own):(e9 ms++s).set j (rowA encInt 3 v' l')=e9 (ms.set j (k,v',l'))++s:=by
 have hj:=(zf2.1 h).1;rw[List.set_append_left _ _ (by simpa [e9] using hj)];simp[e9,List.map_set]
theorem freezeRows {E:World}{w:World}:∀ (ms:Ms) (g:PH) (s:Own),At E g (e9 ms++s) w→∃ g',Le g g'∧At E g' s w∧∀ t∈ms,bT g' t.2.1 t.2.2
 | [],g,s,h=>⟨g,zb7 g,h,by simp⟩
 | (a,v,l)::r,g,s,h=>by
  have h':At E g (row 3 1 v l.length (l.flatMap encInt.enc)::(e9 r++s)) w:=h;obtain ⟨g1,hl1,h1,h2⟩:=h'.freezeRow;obtain ⟨g2,hl2,h3,h4⟩:=freezeRows r g1 s h1;refine⟨g2,hl1.trans hl2,h3,fun t ht=>?_⟩
  rcases ze7.1 ht with rfl | ht
  ·exact Sl.mono h2 hl2
  ·exact h4 t ht
theorem SC.freezeRows {P:Program}{N:Nat}{E:World}{c:Code}{Q:Exit→Act→World→Prop}{f:Fr}{g:PH}{s:Own}{ms:Ms}(h:∀ g',Le g g'→(∀ t∈ms,bT g' t.2.1 t.2.2)→SC P N E c Q f g' s):SC P N E c Q f g (e9 ms++s):=fun a w ha hw=>by
 obtain ⟨g',h1,h2,h3⟩:=Go.Proofs.YtkbagdedfdfjhaaGreatDoor.freezeRows ms g s hw;exact h g' h1 h3 a w ha h2
def dfs (adj:Int→Option (List Int)):Nat→Int→List Int→List Int
 | 0,_,vis=>vis
 | n+1,id,vis =>
  match adj id with
  | none=>vis
  | some l=>if vis.contains id then vis else l.foldl (fun v x=>dfs adj n x v) (vis++[id])
theorem jJ (adj:Int→Option (List Int))(n:Nat)(id:Int)(vis:List Int):dfs adj (n+1) id vis=(match adj id with
  | none=>vis
  | some l=>if vis.contains id then vis else l.foldl (fun v x=>dfs adj n x v) (vis++[id])):=rfl
theorem rS (adj:Int→Option (List Int)):∀ (n:Nat) (id:Int) (vis:List Int) (x:Int),x∈vis→x∈dfs adj n id vis
 | 0,_,_,_,h=>h
 | n+1,id,vis,x,h=>by
  unfold dfs;split
  ·exact h
  ·split
   ·exact h
   ·have:∀ (l:List Int) (v:List Int),x∈v→x∈l.foldl (fun v y=>dfs adj n y v) v:=by
     intro l;induction l with
     | nil=>intro v hv; exact hv
     | cons y t ih=>intro v hv; exact ih _ (rS adj n y v x hv)
    exact this _ _ (by simp[h])
def ez:List (Int×List Int)→Int→List Int
 | [],_=>[]
 | (a,l)::r,k=>if k=a then l else ez r k
def Dk (jl:List (Int×List Int))(k:Int):Bool:=jl.any fun p=>decide (p.1=k)
theorem uj {jl:List (Int×List Int)}{k:Int}(h:Dk jl k=false):ez jl k=[]:=by
 induction jl with
 | nil=>rfl
 | cons p r ih =>
  obtain ⟨a,l⟩:=p;simp only[Dk,List.any_cons,Bool.or_eq_false_iff,decide_eq_false_iff_not] at h;simp only[ez];rw[zf6 (fun e=>h.1 e.symm)];exact ih h.2
def nZ (jl:List (Int×List Int))(vis:List Int):Nat:=(jl.filter fun p=>!vis.contains p.1).length
theorem jB {tl:List (Int×List Int)}{v v':List Int}(h:∀ x∈v,x∈v'):nZ tl v'≤nZ tl v:=by
 unfold nZ;rw[← List.countP_eq_length_filter,← List.countP_eq_length_filter];apply List.countP_mono_left;intro c _ hp;simp at hp ⊢;exact fun e=>hp (h _ e)
theorem Bs {tl:List (Int×List Int)}{v:List Int}{k:Int}(hc:Dk tl k=true)(hn:v.contains k=false):nZ tl (v++[k])<nZ tl v:=by
 induction tl with
 | nil=>simp[Dk] at hc
 | cons d t ih =>
  have hm:nZ t (v++[k])≤nZ t v:=jB (fun x hx=>by simp[hx]);have e1:∀ u:List Int,nZ (d::t) u=(if u.contains d.1 then 0 else 1)+nZ t u:=fun u=>by
   unfold nZ;rw[zi4];cases u.contains d.1 <;> simp <;> omega
  rw[e1,e1];simp only[Dk,List.any_cons,zj1,zj2] at hc
  rcases hc with rfl | hc'
  ·have:(v++[d.1]).contains d.1=true:=by simp
   rw[this,hn];simp;omega
  ·have:=ih hc';cases h1:v.contains d.1
   ·cases h2:(v++[k]).contains d.1 <;> simp <;> omega
   ·have h2:(v++[k]).contains d.1=true:=by simp at h1 ⊢; exact .inl h1
    rw[h2];simp;exact this
theorem Cs {g:PH}(js:Ms)(h:∀ t∈js,bT g t.2.1 t.2.2)(k:Int):∃ v,(ft (jm js) k).getD (.slice none 0 0)=v∧bT g v (ez (gw js) k):=by
 induction js with
 | nil=>exact⟨_,rfl,zb8 g _⟩
 | cons p r ih =>
  obtain ⟨a,u,l⟩:=p;by_cases hk:k=a
  ·subst hk;exact⟨u,by simp[jm,cd],by simpa [gw,ez] using h (k,u,l) (by simp)⟩
  ·obtain ⟨v,h1,h2⟩:=ih fun t ht=>h t (by simp[ht]);exact⟨v,by simpa [jm,cd,hk] using h1,by simpa [gw,ez,hk] using h2⟩
def jM (jl:List (Int×List Int))(i:Int):Option (List Int):=some (ez jl i)
theorem y7 (E:World)(g:PH)(bs bj bf m mj:Nat)(js:Ms)(hj:Mp g mj (jm js))(hjs:∀ t∈js,bT g t.2.1 t.2.2)(hlen:∀ t∈js,t.2.2.length<1099511627776)(h1:g bs=some (.cells #[.map (some m)] 97 (0,0)))(h2:g bj=some (.cells #[.map (some mj)] 176 (0,0)))
  (h3:g bf=some (.cells #[.func (.func 131) #[] #[pp bs 0,pp bj 0,pp bf 0]] 135 (0,0))):∀ (n:Nat) (id:Int) (vis:List Int) (s:Own) (i:Nat),nZ (gw js) vis<n→s[i]?=some (mp m (ka vis)) →
  Ctr Tryz.prog E 131 #[vi id,pp bs 0,pp bj 0,pp bf 0] g s (fun _ g' s'=>g=g'∧s'=s.set i (mp m (ka (dfs (jM (gw js)) n id vis)))):=by
 intro n;induction n with
 | zero=>intro id vis s i h; omega
 | succ n ih =>
 intro id vis s i hcnt hi;obtain ⟨v,hv1,hv2⟩:=Cs js hjs id;have hvl:(ez (gw js) id).length<1099511627776:=by
  have:∀ q:Ms,(∀ t∈q,t.2.2.length<1099511627776)→(ez (gw q) id).length<1099511627776:=by
   intro q hq;induction q with
   | nil=>simp[gw,ez]
   | cons p r ihq =>
    obtain ⟨a,u,l⟩:=p;simp only[gw,zg1,ez];split
    ·exact hq (a,u,l) (by simp)
    ·exact ihq fun t ht=>hq t (by simp[ht])
  exact this js hlen
 generalize hL:ez (gw js) id=L at hv2 hvl;obtain ⟨p,cp,rfl⟩:=za2 hv2;refine za9 (args:=[vi id,pp bs 0,pp bj 0,pp bf 0]) func131 I ntmps131 (bE I) ?_;refine rZ (lK (qL isAgg97 I (cK h1 I)) (lM I (lK (SQ.eq (v':=vb (vis.contains id)) (SQ.lookup mty97 I I (cG.own i hi)) ((rY vis).get id)) (lU (SU.not I) (tZ ?_)))));refine iQ I (fun hc=>?_) (fun hc=>?_)
 ·have hnv:vis.contains id=false:=by simpa using hc
  refine rZ (lK (qL isAgg97 I (cK h1 I)) (lM I (lO (SO.mapUpdate i mty97 I I I hi) ?_)));rintro _ _ _ ⟨rfl,rfl⟩;rw[xL hnv];refine tZ (rZ (lK (qL isAgg176 I (cK h2 I)) (lM I (lK (SQ.eq (SQ.lookup mty176 I I (cG.known hj)) hv1) (lU (eN ak I) (lM I (tZ (bK ?_))))))));refine oP (ι:=Nat×List Int) (fun q=>[(3,pp bf 0),(15,.slice p L.length cp),(16,vi L.length),(17,vi q.1)]) (fun _=>g)
   (fun q=>s.set i (mp m (ka q.2))) (fun q=>q.1≤L.length∧q.2=(L.take q.1).foldl (fun v x=>dfs (jM (gw js)) n x v) (vis++[id])∧(0<L.length→nZ (gw js) q.2<n)) (fun q=>L.length - q.1)
   (0,vis++[id]) sB rfl rfl ⟨zf3 _,by simp,fun hpos=>?_⟩ ?_
  ·cases hh:Dk (gw js) id with
   | false =>
    rw[uj hh] at hL;rw[← hL] at hpos;simp at hpos
   | true =>
    have:=Bs hh hnv;dsimp only;omega
  rintro ⟨j,vj⟩ ⟨hj1,hvj,hcj⟩;dsimp only at hj1 hvj hcj ⊢;refine rZ (yL I (tZ (sQ ?_)));refine iP I (fun hlt=>?_) (fun hlt=>?_)
  ·have hjl:j<L.length:=oM;have hb1:=za4 hv2 oM;have hjx:L[((j:Nat):Int).toNat]?=some L[j]:=gE hjl;have hjx':L[j]?=some L[j]:=gE hjl;generalize L[j]=y at *;refine kP (tN (sQ (bK (rZ (lU (iA ak zT3 I I hb1 oM sL) (lK (eB iT3 I (za5 hv2) hjx I) (aT I (rG (lK (qL isAgg135 I (cK h3 I)) (lM I (lW (SO.callV I I (cI.mk (cap:=[pp bs 0,pp bj 0,pp bf 0]) call131 (ih y vj _ i (hcj oM) (Bk hi _)))) ?_)))))))))));rintro _ _ _ ⟨rfl,rfl⟩;refine nL (bN (tN (rG (yD I (lM I (nL ?_))))));exact gA (j+1,dfs (jM (gw js)) n y vj) sB I (by rw[List.set_set]) ⟨lN,by
    rw[fg hjx',zi6,← hvj]; rfl,fun h=>Nat.lt_of_le_of_lt (jB fun x hx=>rS _ n _ _ x hx) (hcj h)⟩ lN
  ·refine xI (tX (tX (bX ?_)));have hjj:L.take j=L:=tL oM;have hr:dfs (jM (gw js)) (n+1) id vis=vj:=by
    rw[hjj] at hvj;rw[hvj,jJ];simp only[jM,hL,hnv,Bool.false_eq_true,if_false]
   exact ST.ret0 (.inr I) results131 ⟨I,by rw[hr]⟩
 ·refine kP ?_;have hin:vis.contains id=true:=by simpa using hc
  have hr:dfs (jM (gw js)) (n+1) id vis=vis:=by
   rw[jJ];simp only[jM,hin,if_true]
  exact ST.ret0 (.inr I) results131 ⟨I,by rw[hr,nu hi]⟩
inductive Rch (adj:Int→Option (List Int)):Int→Int→Prop
 | refl (a:Int) (h:adj a≠none):Rch adj a a
 | step (a b c:Int) (l:List Int) (h:adj a=some l) (hb:b∈l) (r:Rch adj b c):Rch adj a c
theorem Rch.node {adj:Int→Option (List Int)}{a b:Int}(h:Rch adj a b):adj a≠none:=by
 cases h with
 | refl _ h=>exact h
 | step _ _ _ l h _ _=>rw[h]; simp
theorem oX (adj:Int→Option (List Int)):∀ (n:Nat) (id:Int) (vis:List Int) (x:Int),x∈dfs adj n id vis→x∈vis∨Rch adj id x
 | 0,_,_,_,h=>.inl h
 | n+1,id,vis,x,h=>by
  rw[jJ] at h;cases ha:adj id with
  | none=>rw[ha] at h; exact .inl h
  | some l =>
   rw[ha] at h;dsimp only at h;split at h
   ·exact .inl h
   ·have key:∀ (q:List Int) (v:List Int),(∀ y∈q,y∈l)→x∈q.foldl (fun v y=>dfs adj n y v) v→x∈v∨Rch adj id x:=by
     intro q;induction q with
     | nil=>intro v _ hx; exact .inl hx
     | cons y t ih =>
      intro v hq hx
      rcases ih _ (fun z hz=>hq z (by simp[hz])) hx with h1 | h1
      ·rcases oX adj n y v x h1 with h2 | h2
       ·exact .inl h2
       ·exact .inr (.step id y x l ha (hq y (by simp)) h2)
      ·exact .inr h1
    rcases key l _ (fun y hy=>hy) h with h1 | h1
    ·rcases ze9.1 h1 with h2 | h2
     ·exact .inl h2
     ·simp at h2;subst h2;exact .inr (.refl _ (by rw[ha]; simp))
    ·exact .inr h1
theorem jA (adj:Int→Option (List Int)):∀ (n:Nat) (id:Int) (vis:List Int),vis.Nodup→(dfs adj n id vis).Nodup
 | 0,_,_,h=>h
 | n+1,id,vis,h=>by
  rw[jJ];cases adj id with
  | none=>exact h
  | some l =>
   dsimp only;split
   ·exact h
   ·rename_i hc;have key:∀ (q:List Int) (v:List Int),v.Nodup→(q.foldl (fun v y=>dfs adj n y v) v).Nodup:=by
     intro q;induction q with
     | nil=>intro v hv; exact hv
     | cons y t ih=>intro v hv; exact ih _ (jA adj n y v hv)
    refine key l _ ?_;rw[List.nodup_append];refine⟨h,by simp,fun a ha b hb e=>hc ?_⟩;simp at hb;subst hb;simpa [← e] using ha
theorem jT (adj:Int→Option (List Int))(cnt:List Int→Nat)(hm:∀ v v',(∀ x∈v,x∈v')→cnt v'≤cnt v)(hs:∀ v k l,adj k=some l→l≠[]→v.contains k=false→cnt (v++[k])<cnt v) :
  ∀ (n:Nat) (id:Int) (vis:List Int),cnt vis<n→(adj id≠none→id∈dfs adj n id vis)∧∀ x∈dfs adj n id vis,x ∉ vis→∀ l,adj x=some l→∀ y∈l,adj y≠none→y∈dfs adj n id vis
 | 0,_,_,h=>absurd h oM
 | n+1,id,vis,hc=>by
  rw[jJ];cases ha:adj id with
  | none=>exact⟨fun h=>absurd rfl h,fun x hx hn=>absurd hx hn⟩
  | some l =>
   dsimp only;split
   ·rename_i hin;exact⟨fun _=>by simpa using hin,fun x hx hn=>absurd hx hn⟩
   ·rename_i hin;have hin':vis.contains id=false:=by simpa using hin
    have key:∀ (q:List Int) (v:List Int),(∀ x∈vis++[id],x∈v)→(∀ x∈v,x ∉ vis++[id]→∀ l,adj x=some l→∀ y∈l,adj y≠none→y∈v)→(q≠[]→cnt v<n) →
      (∀ x∈v,x∈q.foldl (fun v y=>dfs adj n y v) v)∧(∀ y∈q,adj y≠none→y∈q.foldl (fun v y=>dfs adj n y v) v) ∧
      ∀ x∈q.foldl (fun v y=>dfs adj n y v) v,x ∉ vis++[id]→∀ l,adj x=some l→∀ y∈l,adj y≠none→y∈q.foldl (fun v y=>dfs adj n y v) v:=by
     intro q;induction q with
     | nil=>intro v _ h2 _; exact⟨fun x hx=>hx,by simp,h2⟩
     | cons y t ih =>
      intro v h1 h2 h3;have hcv:=h3 (by simp);obtain ⟨d1,d2⟩:=jT adj cnt hm hs n y v hcv;have hsub:=rS adj n y v;have hcl:∀ x∈dfs adj n y v,x ∉ vis++[id]→∀ l,adj x=some l→∀ z∈l,adj z≠none→z∈dfs adj n y v:=by
       intro x hx hn l hl z hz hzn;by_cases hxv:x∈v
       ·exact hsub z (h2 x hxv hn l hl z hz hzn)
       ·exact d2 x hx hxv l hl z hz hzn
      obtain ⟨e1,e2,e3⟩:=ih (dfs adj n y v) (fun x hx=>hsub x (h1 x hx)) hcl (fun _=>Nat.lt_of_le_of_lt (hm _ _ hsub) hcv);simp only[zi5];refine⟨fun x hx=>e1 x (hsub x hx),fun z hz hzn=>?_,e3⟩
      rcases ze7.1 hz with rfl | hz
      ·exact e1 z (d1 hzn)
      ·exact e2 z hz hzn
    obtain ⟨k1,k2,k3⟩:=key l (vis++[id]) (fun x hx=>hx) (fun x hx hn=>absurd hx hn) (fun hl=>by have:=hs vis id l ha hl hin'; omega);refine⟨fun _=>k1 id (by simp),fun x hx hn l' hl' y hy hyn=>?_⟩;by_cases hxv:x∈vis++[id]
    ·rcases ze9.1 hxv with h | h
     ·exact absurd h hn
     ·simp at h;subst h;rw[ha] at hl';injection hl' with hl'
      subst hl';exact k2 y hy hyn
    ·exact k3 x hx hxv l' hl' y hy hyn
theorem vF {adj:Int→Option (List Int)}{cnt:List Int→Nat}(hm:∀ v v',(∀ x∈v,x∈v')→cnt v'≤cnt v)(hs:∀ v k l,adj k=some l→l≠[]→v.contains k=false→cnt (v++[k])<cnt v){n:Nat}{id:Int}(hc:cnt []<n)(hn:adj id≠none)(x:Int) :
  x∈dfs adj n id []↔Rch adj id x:=by
 obtain ⟨d1,d2⟩:=jT adj cnt hm hs n id [] hc;refine⟨fun h=>(oX adj n id [] x h).resolve_left (by simp),fun h=>?_⟩;have key:∀ a b,Rch adj a b→a∈dfs adj n id []→b∈dfs adj n id []:=by
  intro a b hr;induction hr with
  | refl a _=>exact fun h=>h
  | step a b c l hl hb r ih=>exact fun h=>ih (d2 a h (by simp) l hl b hb r.node)
 exact key id x h (d1 hn)
theorem Rch.mono {adj adj':Int→Option (List Int)}(h:∀ x l,adj x=some l→∀ y∈l,∃ l',adj' x=some l'∧y∈l')(hn:∀ x,adj x≠none→adj' x≠none){a b:Int}(hr:Rch adj a b):Rch adj' a b:=by
 induction hr with
 | refl a h1=>exact .refl a (hn a h1)
 | step a b c l hl hb _ ih =>
  obtain ⟨l',h1,h2⟩:=h a l hl b hb;exact .step a b c l' h1 h2 ih
theorem kU (jl:List (Int×List Int)):∀ v k l,jM jl k=some l→l≠[]→v.contains k=false→nZ jl (v++[k])<nZ jl v:=by
 intro v k l hl hne hv;refine Bs ?_ hv;cases h:Dk jl k with
 | true=>rfl
 | false =>
  rw[jM,uj h] at hl;injection hl with hl
  exact absurd hl.symm hne
theorem uk (jl:List (Int×List Int))(a b x:Int):ez (fE jl a b) x=if x=a then ez jl x++[b] else ez jl x:=by
 induction jl with
 | nil=>simp[fE,ez]
 | cons p r ih =>
  obtain ⟨k,l⟩:=p;simp only[fE];by_cases h:a=k
  ·subst h;simp only[if_true,ez];split <;> rfl
  ·rw[zf6 h];simp only[ez,ih];by_cases hx:x=k
   ·subst hx;rw[zf7 rfl,zf7 rfl,zf6 (fun e=>h e.symm)]
   ·rw[zf6 hx,zf6 hx]
end Go.Proofs.YtkbagdedfdfjhaaGreatDoor
