/- 4 -/
import Derived.Test.YtcfkpajlakidbaaGreatDoorTb03
import Derived.Test.YtcfkpajlakidbaaGreatDoorTb02
import Derived.Shelf.Sort.Plain
import Derived.Shelf.Slices.In.SortNone
import Derived.Sort.OwnSortedInts
set_option linter.unusedSimpArgs false
set_option linter.unusedVariables false
namespace Go.Sy
open Go
def mns (g' g:PH):PH:=fun b=>match g b with | none=>g' b | some _=>none
theorem qE {g' g:PH}{b:Nat}(h:g b=none):mns g' g b=g' b:=by simp only[mns,h]
theorem qD {g' g:PH}{b:Nat}{o:Obj}(h:mns g' g b=some o):g b=none∧g' b=some o:=by
 unfold mns at h;split at h
 ·rename_i e; exact⟨e,h⟩
 ·cases h
theorem rJ (g' g:PH):Le (mns g' g) g':=fun _ _ h=>(qD h).2
theorem qF {g g' g'':PH}(h:Le g' g''):Le (mns g' g) (mns g'' g):=fun b o hb=>by
 obtain ⟨h1,h2⟩:=qD hb;rw[qE h1]; exact h _ _ h2
theorem wh {g0 g g':PH}(h:Le g0 g):Le (mns g' g) (mns g' g0):=fun b o hb=>by
 obtain ⟨h1,h2⟩:=qD hb;have:g0 b=none:=by
  cases h3:g0 b with
  | none=>rfl
  | some x=>rw[h _ _ h3] at h1; cases h1
 rw[qE this]; exact h2
section
variable {α:Type}{k:Nat}{e:Enc α k}{T U:TypeId}{g g':PH}{s:Own}{v:Value}{l:List α}
def RK (e:Enc α k)(T:TypeId)(g:PH)(v:Value)(l:List α):Prop:=(∃ p,v = .slice p 0 0∧l=[]) ∨
 ∃ b cap cur,v = .slice (some ⟨b,0,none⟩) l.length (cap+1)∧g b=some (.cells cur T (0,0))∧l.length≤cap+1∧cur.size=(cap+1) * k∧cur.toList.take (l.length * k)=l.flatMap e.enc
theorem RK.mono (h:RK e T g v l)(hl:Le g g'):RK e T g' v l:=by
 rcases h with h | ⟨b,cap,cur,h1,h2,h3⟩
 ·exact .inl h
 ·exact .inr ⟨b,cap,cur,h1,hl _ _ h2,h3⟩
theorem RK.sl (h:RK e T g v l):SlA e g v l:=by
 rcases h with ⟨p,rfl,rfl⟩ | ⟨b,cap,cur,rfl,h2,h3,h4,h5⟩
 ·exact⟨p,0,I,⟨by simp,lR _⟩,fun h=>absurd I h⟩
 ·refine⟨_,_,I,⟨e.length l,h3⟩,fun _=>⟨b,0,cur,T,(0,0),I,h2,fun j x hj=>?_⟩⟩;rw[← h5,zh8] at hj;split at hj
  ·simpa using hj
  ·cases hj
theorem RK.form (h:RK e T g v l):∃ p c,v = .slice p l.length c:=h.sl.form
theorem At.freezeRowK {E:World}{w:World}(h:At E g (rowA e T v l::s) w):∃ g',Le g g'∧At E g' s w∧RK e T (mns g' g) v l:=by
 obtain ⟨hlen,h1⟩:=eV (i:=0) h rfl
 rcases h1 with ⟨p,rfl,h0⟩ | ⟨b,cap,cur,rfl,hb,hle,_,hsz,htake⟩
 ·exact⟨g,zb7 g,h.sublist (zi7 _ _),.inl ⟨p,I,zf2 h0⟩⟩
 ·have hf:=h.fresh _ (List.mem_cons_self ..) b rfl;obtain ⟨h2,h3⟩:=h.freeze (b:=b) rfl hb;exact⟨_,h3,h2,.inr ⟨b,cap,cur,I,by rw[qE hf.1]; exact fl _ _ _,hle,hsz,htake⟩⟩
variable {P:Program}{N:Nat}{E:World}{ops:Array Oper}{Q:Exit→Act→World→Prop}{f:Fr}
theorem SL.freezeRowK {o:List Oper}(h:∀ g',Le g g'→RK e T (mns g' g) v l→SL P N E ops Q o f g' s):SL P N E ops Q o f g (rowA e T v l::s):=fun a w ha hw=>by
 obtain ⟨g',h1,h2,h3⟩:=hw.freezeRowK;exact h g' h1 h3 a w ha h2
end
section
variable {P:Program}{N:Nat}{E:World}{f:Fr}{g:PH}{s:Own}{dst:Option Tmp}{ty:TypeId}{pos:String}{af:Array Edge}{gd:Option (Nat×Bool)}
end
section
variable {α:Type}{k:Nat}{e:Enc α k}{T U:TypeId}{g:PH}{v:Value}{l:List α}
end
end Go.Sy
namespace Go.Proofs.YtcfkpajlakidbaaGreatDoor
open _root_.Go.Proofs.Tryz _root_.Go.Proofs.YtcfkpajlakidbaaGreatDoor.Tryz
open Go Go.Sy Go.Pl Go.Proofs
set_option maxRecDepth 100000
structure Cl where
 id:Int
 dim:Int
 sides:List aj
 deriving DecidableEq
def aq (g:PH)(c:Cl)(r:Rc):Prop:=r.id=c.id∧r.dim=c.dim∧SlA encSide g (.slice r.sv.p r.sv.n r.sv.c) c.sides
theorem aq.mono {g g':PH}(hl:Le g g'){c:Cl}{r:Rc}(h:aq g c r):aq g' c r:=⟨h.1,h.2.1,h.2.2.mono hl⟩
def ao (g:PH)(v:Value)(l:List Cl):Prop:=∃ rs,SlA encCell g v rs∧au (aq g) l rs
theorem ao.mono {g g':PH}{v:Value}{l:List Cl}(h:ao g v l)(hl:Le g g'):ao g' v l:=by
 obtain ⟨rs,h1,h2⟩:=h;exact⟨rs,h1.mono hl,h2.mono fun _ _=>aq.mono hl⟩
theorem ao.form {g:PH}{v:Value}{l:List Cl}(h:ao g v l):∃ p c,v = .slice p l.length c:=by
 obtain ⟨rs,h1,h2⟩:=h;rw[h2.length];exact h1.form
def hZ (g:PH)(c:Cl)(r:Rc):Prop:=r.id=c.id∧r.dim=c.dim∧RK encSide 67 g (.slice r.sv.p r.sv.n r.sv.c) c.sides
theorem hZ.mono {g g':PH}(hl:Le g g'){c:Cl}{r:Rc}(h:hZ g c r):hZ g' c r:=⟨h.1,h.2.1,h.2.2.mono hl⟩
theorem hZ.cr {g g':PH}(hl:Le g g'){c:Cl}{r:Rc}(h:hZ g c r):aq g' c r:=⟨h.1,h.2.1,h.2.2.sl.mono hl⟩
def yy (g:PH)(v:Value)(l:List Cl):Prop:=∃ rs,RK encCell 64 g v rs∧au (hZ g) l rs
theorem yy.cells {g g':PH}{v:Value}{l:List Cl}(h:yy g v l)(hl:Le g g'):ao g' v l:=by
 obtain ⟨rs,h1,h2⟩:=h;exact⟨rs,h1.sl.mono hl,h2.mono fun _ _=>hZ.cr hl⟩
def cU (l:List Cl):Prop:=l.length<1099511627776∧∀ c∈l,c.sides.length<1099511627776
def cN (c:Cl):Cl:=⟨c.id,c.dim,sortBy aj.cell c.sides⟩
def aa (l:List Cl):List Cl:=(sortBy Cl.id l).map cN
theorem Tryz.build31 (x:Value)(h:x.cells = #[x])(w:World):(Instr.build 31 #[(0,x)]).run Tryz.prog w = .ok (.agg #[x]) w:=by
 have hz:(Value.agg #[Value.slice none 0 0]).cells = #[.slice none 0 0]:=rfl;simp[Instr.build,Instr.fill,h,hz]
theorem C7 (x y:aj)(w:World):(binOp .neq 67 (.agg (encSide.enc x).toArray) (.agg (encSide.enc y).toArray)).run Tryz.prog w = .ok (.bool (decide (x≠y))) w:=by
 have hu:Tryz.prog.underlying 67=some (.struct (Tryz.prog.fieldsOf 67)):=by kernel_rfl
 have hf:(Tryz.prog.fieldsOf 67).toList=(Tryz.prog.fieldsOf 67).toList:=rfl;rw[run_neq_struct,run_equalIn_agg w 9999 67 _ _ hu stoodInHeld67]
 have hfs : ∃ f1 f2,(Tryz.prog.fieldsOf 67).toList = [f1,f2] ∧ f1.name ≠ "_" ∧ f2.name ≠ "_" ∧ f1.type = 3 ∧ f2.type = 3 ∧ f1.offset = 0 ∧ f2.offset = 1:=⟨_,_,rfl,by decide,by decide,rfl,rfl,rfl,rfl⟩
 obtain ⟨f1,f2,e,n1,n2,t1,t2,o1,o2⟩:=hfs;obtain ⟨a,b⟩:=x;obtain ⟨c,d⟩:=y;rw[e];have h1:=run_equalIn_int (P:=Tryz.prog) w 9998 3 .i64 .i64 a c uT3;have h2:=run_equalIn_int (P:=Tryz.prog) w 9998 3 .i64 .i64 b d uT3;simp only[Op.eqFields,n1,n2,t1,t2,o1,o2,encSide,part,ne_eq,not_false_eq_true,if_true,Sem.run_bind,iT3,zc8];simp[h1,h2];by_cases hac:a=c <;> by_cases hbd:b=d <;> simp[hac,hbd]
theorem EK (E:World)(g:PH):yx E (.func (.func 86) #[] #[]) Rc.id g:=by
 intro g s a hle;refine dn.mk (cap:=[]) call86 ?_;refine za9 (args:=[.agg (encCell.enc a).toArray]) func86 I ntmps86 (bE I) ?_;refine rZ (bW (bO I) fun b1=>?_);refine aT I (rZ (lU (fA am I zT3 I) (lK (qL iT3 I (cO 0 I I)) (aT I (rE (dR (s':=s) uR ?_))))));exact za6 (.inl I) results86 I ⟨I,I,I⟩
theorem Dx (E:World)(g:PH):yw E (.func (.func 88) #[] #[]) aj.cell g:=by
 intro g s a hle;refine dn.mk (cap:=[]) call88 ?_;refine za9 (args:=[.agg (encSide.enc a).toArray]) func88 I ntmps88 (bE I) ?_;refine rZ (bW (bO I) fun b1=>?_);refine aT I (rZ (lU (fA de I zT3 I) (lK (qL iT3 I (cO 0 I I)) (aT I (rE (dR (s':=s) uR ?_))))));exact za6 (.inl I) results88 I ⟨I,I,I⟩
theorem sN (E:World)(g:PH)(s:Own)(v:Value)(l:List Cl)(hv:ao g v l)(hf:cU l) :
  Ctr Tryz.prog E 35 #[.agg #[v]] g s (fun r g' s'=>s=s'∧Le g g'∧∃ u,r = .agg #[u]∧yy (mns g' g) u (aa l)):=by
 obtain ⟨rs,hrs,hall⟩:=hv;have hlen:=hall.length;have hfl:=hf.1;have hall':=au.sortBy (f:=Cl.id) (h:=Rc.id) (fun a b h=>h.1.symm) hall;obtain ⟨p,c,rfl⟩:=za2 hrs;refine za9 (args:=[.agg #[.slice p rs.length c]]) func35 I ntmps35 (bE I) ?_;refine rZ (bW (bO I) fun b1=>?_);refine bW (aL zk8) fun b2=>?_;refine tZ (rZ (lU (fA cH I bG I) (lK (qL dg I (cO 1 I I)) (lW (cL call85 I (C5 E g _ _ 86 #[] Rc.id (EK E g) rs hrs oM)) ?_))));rintro r3 _ _ ⟨rfl,rfl⟩;refine zd1 fun ⟨w0,hw0⟩=>?_;obtain ⟨q,d,rfl⟩:=ag (i:=0) hw0 rfl;have hbq:0<(sortBy Rc.id rs).length→based (.slice q (sortBy Rc.id rs).length d)=true:=fun h=>(by obtain ⟨b0,c0,he⟩:=bh (i:=0) hw0 rfl h; rw[he]; rfl);clear hw0 w0;refine aT I (sQ (sW I (lU (eN az I) (lM I (tZ (bK ?_))))));have hsl:(sortBy Rc.id rs).length=rs.length:=eF rs;refine oP (ι:=PH×List Rc×List Rc×List Cl×List Cl) (fun i=>[(2,pp b2 0),(3,.slice q (sortBy Rc.id rs).length d),(9,vi (sortBy Rc.id rs).length),(10,vi i.2.1.length)]) (fun i=>i.1)
  (fun i=>rowA encCell 64 (.slice q (sortBy Rc.id rs).length d) (i.2.1++i.2.2.1)::pt b2 (.cells #[.slice none 0 0] 31 (0,0))::pt b1 (.cells #[.slice p rs.length c] 31 (0,0))::s)
  (fun i=>Le g i.1∧au (hZ (mns i.1 g)) i.2.2.2.1 i.2.1∧au (aq g) i.2.2.2.2 i.2.2.1∧aa l=i.2.2.2.1++i.2.2.2.2.map cN∧(i.2.1.length+i.2.2.1.length=(sortBy Rc.id rs).length∧∀ x∈i.2.2.2.2,x∈l)) (fun i=>i.2.2.1.length)
  (g,[],sortBy Rc.id rs,[],sortBy Cl.id l) sB rfl rfl ⟨zb7 g,trivial,hall',by simp[aa],by simp,fun x hx=>(dp l x).1 hx⟩ ?_
 rintro ⟨g1,ds,rest,dl,rl⟩ ⟨hle,hd,hr,hcan,hlen1,hmem⟩;dsimp only at hle hd hr hcan hlen1 hmem ⊢;have hrl:=hr.length;refine rZ (yL I (tZ (sQ ?_)));refine iP I (fun hlt=>?_) (fun hlt=>?_)
 ·cases rest with
  | nil=>simp at hlen1; omega
  | cons x rest =>
  obtain ⟨cx,rl',hrle,hcx,hr'⟩:=hr.cons_right;subst hrle;have hxl:cx.sides.length<1099511627776:=hf.2 cx (hmem cx (by simp));simp only[ze6] at hlen1;have hgx:(ds++x::rest)[((ds.length:Nat):Int).toNat]?=some x:=bV oM;have hbs:based (.slice q (sortBy Rc.id rs).length d)=true:=hbq oM;refine kP (tN (sQ (bK (sW I (aT I (rG (lM I (lM I (lM I (lM I (lU (iA az aw I I hbs oM sL) (lU (fC am I aX I hbs) (lK (aZ (o:=2) bH I (zb5 0 I) hgx I) (lW (cL call87 I (C4 E g1 _ _ 88 #[] aj.cell (Dx E g1) cx.sides (hcx.2.2.mono hle) hxl)) ?_))))))))))))));rintro r20 _ _ ⟨rfl,rfl⟩;refine SL.freezeRowK fun g2 hle2 hs2=>?_;obtain ⟨q2,d2,rfl⟩:=hs2.form;refine lU (iA az aw I I hbs oM sL) (lU (fC am I aX I hbs) (oZ (SO.partA (o:=2) 0 ⟨x.id,x.dim,q2,_,d2⟩ aX I I I hgx I I dC I) (nL (bN (tN (rG (yD I (lM I (nL ?_)))))))));exact gA (g2,ds++[⟨x.id,x.dim,q2,(sortBy aj.cell cx.sides).length,d2⟩],rest,dl++[cN cx],rl') ⟨I,I,I,bQ lN,trivial⟩ I (by
    dsimp only;rw[show (ds++x::rest).set ((ds.length:Nat):Int).toNat ⟨x.id,x.dim,q2,(sortBy aj.cell cx.sides).length,d2⟩=ds++[⟨x.id,x.dim,q2,(sortBy aj.cell cx.sides).length,d2⟩]++rest by rw[dT oM]; simp];rfl) ⟨hle.trans hle2,(hd.mono fun _ _=>hZ.mono (qF hle2)).append ⟨(by exact⟨hcx.1,hcx.2.1,hs2.mono (wh hle)⟩:hZ (mns g2 g) (cN cx) ⟨x.id,x.dim,q2,(sortBy aj.cell cx.sides).length,d2⟩),trivial⟩,hr',by rw[hcan]; simp,lN,fun y hy=>hmem y (by simp[hy])⟩ lN
 ·have hr0:rest=[]:=zf2 oM;subst hr0;have hrl0:rl=[]:=hr.nil_right;subst hrl0;refine xI (tX (tX (bX (tN (rZ (SL.freezeRowK fun g2 hle2 hs2=>?_))))));refine lM I (lU (za1 I (build31 _ I)) (oZ (sK 0 ar I I I I I sB) ?_));refine tZ (rE ?_);refine ST.retCD 0 s (.inl I) results35 I aY ar I I (.cons _ (.cons _ (.refl _))) ⟨I,hle.trans hle2,_,I,ds,?_,?_⟩
  ·simpa using hs2.mono (wh hle)
  ·rw[hcan];simpa using hd.mono fun _ _=>hZ.mono (qF hle2)
theorem jw (E:World)(g:PH)(s:Own)(v:Value)(l:List Cl)(hv:ao g v l)(hf:cU l) :
  Ctr Tryz.prog E 35 #[.agg #[v]] g s (fun r g' s'=>s=s'∧Le g g'∧∃ u,r = .agg #[u]∧ao g' u (aa l)) :=
 (sN E g s v l hv hf).mono fun _ _ _ ⟨h1,h2,u,h3,h4⟩=>⟨h1,h2,u,h3,h4.cells (rJ _ _)⟩
theorem md {α:Type}{l m:List α}{k:Nat}(h1:k<l.length)(h2:k<m.length)(h:l.take k=m.take k)(he:l[k]=m[k]):l.take (k+1)=m.take (k+1):=by
 rw[tS h1,tS h2,h,he]
theorem nU {α:Type}{l m:List α}(hl:l.length=m.length)(h:l.take l.length=m.take l.length):l=m:=by
 rw[tL (lR _),tL oM] at h;exact h
theorem SU.neqSide {N:Nat}{f:Fr}{dst:Option Tmp}{ty:TypeId}{pos:String}{af:Array Edge}{gd:Option (Nat×Bool)}{x y:Operand}{a b:aj}{U:TypeId}(hx:ev f x=some (.agg (encSide.enc a).toArray))(hy:ev f y=some (.agg (encSide.enc b).toArray)) :
  SU Tryz.prog N ⟨dst,.binOp .neq 67 x y U,ty,pos,af,gd⟩ f (.bool (decide (a≠b))):=fun ac w ha=>by
 have hg:=run_eqGuard_agg (P:=Tryz.prog) w .neq 67 x y (encSide.enc a).toArray (encSide.enc b).toArray eqGuardType67;simp only[execOp,ha.ev hx,ha.ev hy,Sem.run_bind,hg,zc8,C7];rfl
theorem EM {x y:Cl}:x=y↔x.id=y.id∧x.dim=y.dim∧x.sides=y.sides:=by
 cases x; cases y; simp
theorem bw {l:List Cl}(h:cU l):cU (aa l):=by
 refine⟨by simp[aa,eF]; exact h.1,fun c hc=>?_⟩;simp only[aa,ze9] at hc;obtain ⟨c0,h0,rfl⟩:=hc;simp only[cN,eF];exact h.2 c0 ((dp l c0).1 h0)
theorem Tryz.mty99:MTy Tryz.prog 99 3 64 (.agg #[vi 0,vi 0,.slice none 0 0]):=⟨underlying99,underlying3,zk9⟩
def fW (acc:List Cl)(c:Cl):List Cl:=if acc.any (fun x=>x.id == c.id) then acc else acc++[c]
theorem qO {acc:List Cl}{c:Cl}(h:acc.any (fun x=>x.id == c.id)=true):fW acc c=acc:=zf8 h
theorem kC {acc:List Cl}{c:Cl}(h:acc.any (fun x=>x.id == c.id)=false):fW acc c=acc++[c]:=zf7 (by rw[h]; simp)
def ae (l:List Cl):List Cl:=(aa l).foldl fW []
def rcv (r:Rc):Value:=.agg (encCell.enc r).toArray
def dE (r:Rc):Int×Value:=(r.id,rcv r)
def DT (R:Cl→Rc→Prop)(g:PH)(v:Value)(tl:List Cl):Prop :=
 ∃ b m iv rs,v=pp b 0∧g b=some (.cells #[.map (some m),iv] 101 (0,0))∧Mp g m (rs.map dE)∧bZ g iv (tl.map Cl.id)∧au R tl rs
def Tab (g:PH)(v:Value)(tl:List Cl):Prop:=DT (aq g) g v tl
theorem DT.mono {R R':Cl→Rc→Prop}{g g':PH}{v:Value}{tl:List Cl}(h:DT R g v tl)(hl:Le g g')(hr:∀ c r,R c r→R' c r):DT R' g' v tl:=by
 obtain ⟨b,m,iv,rs,h1,h2,h3,h4,h5⟩:=h;exact⟨b,m,iv,rs,h1,hl _ _ h2,h3.mono hl,h4.mono hl,h5.mono hr⟩
theorem Tab.mono {g g':PH}{v:Value}{tl:List Cl}(h:Tab g v tl)(hl:Le g g'):Tab g' v tl:=by
 obtain ⟨b,m,iv,rs,h1,h2,h3,h4,h5⟩:=h;exact⟨b,m,iv,rs,h1,hl _ _ h2,h3.mono hl,h4.mono hl,h5.mono fun _ _=>aq.mono hl⟩
theorem pH (rs:List Rc)(k:Int):fj (rs.map dE) k=(rs.find? (fun r=>r.id == k)).map rcv:=by
 induction rs with
 | nil=>rfl
 | cons r t ih =>
  simp only[zg2,dE,bI,List.find?_cons];by_cases h:k=r.id
  ·subst h; simp
  ·have:(r.id == k)=false:=by simpa using fun e=>h e.symm
   rw[this,zf7 h,← ih]
theorem Cg {g:PH}{tl:List Cl}{rs:List Rc}(h:au (aq g) tl rs)(k:Int):tl.any (fun x=>x.id == k)=rs.any (fun r=>r.id == k):=by
 induction tl generalizing rs with
 | nil=>cases rs with | nil=>rfl | cons _ _=>exact h.elim
 | cons c t ih =>
  cases rs with
  | nil=>exact h.elim
  | cons r rs=>simp only[List.any_cons,h.1.1,ih h.2]
theorem qN {g:PH}{tl:List Cl}{rs:List Rc}(h:au (aq g) tl rs):tl.map Cl.id=rs.map Rc.id:=by
 induction tl generalizing rs with
 | nil=>cases rs with | nil=>rfl | cons _ _=>exact h.elim
 | cons c t ih =>
  cases rs with
  | nil=>exact h.elim
  | cons r rs=>simp only[zg2,h.1.1,ih h.2]
theorem fm (l:List Cl):∀ acc:List Cl,(l.foldl fW acc).length≤acc.length+l.length:=by
 induction l with
 | nil=>intro acc; simp
 | cons c r ih =>
  intro acc;simp only[zi5];have h1:=ih (fW acc c);have h2:(fW acc c).length≤acc.length+1:=by unfold fW; split <;> simp
  simp only[ze6];omega
theorem Tryz.build101 (x:Value)(h:x.cells = #[x])(w:World):(Instr.build 101 #[(0,x)]).run Tryz.prog w = .ok (.agg #[x,.slice none 0 0]) w:=by
 have hz:(Value.agg #[Value.map none,Value.slice none 0 0]).cells = #[.map none,.slice none 0 0]:=rfl;simp[Instr.build,Instr.fill,h,hz]
theorem Eg (E:World)(g:PH)(s:Own)(v:Value)(l:List Cl)(hv:ao g v l)(hf:cU l) :
  Ctr Tryz.prog E 34 #[.agg #[v]] g s (fun r g' s'=>s=s'∧Le g g'∧DT (hZ (mns g' g)) g' r (ae l)):=by
 have hfc:=bw hf;refine za9 (args:=[.agg #[v]]) func34 I ntmps34 (bE I) ?_;refine rZ (bW (bO I) fun b1=>?_);refine aT I (rZ (lW (SO.mkMap) ?_));rintro _ _ _ ⟨m,rfl,rfl,rfl⟩;refine lU (za1 I (build101 _ I)) (bW (bO I) fun b10=>?_);refine aT I (sQ (rZ (lK (qV 2 aY ar I I I) (lW (cL call35 I (sN E g _ v l hv hf)) ?_))));rintro _ g1 _ ⟨rfl,hle,u,rfl,hc⟩;obtain ⟨rs,hrsK,hall⟩:=hc;have hrs:=hrsK.sl.mono (rJ _ _);obtain ⟨p,c,rfl⟩:=hrs.form;refine lU (SU.field cH I dg I I) (lU (eN az I) (lM I (tZ (bK ?_))));have hlen:=hall.length;have hfl:=hfc.1;refine zb4 3 1 ?_;refine oP (ι:=Value×Nat×List Rc) (fun i=>[(3,pp b10 0),(13,.slice p rs.length c),(14,vi rs.length),(15,vi i.2.1)]) (fun _=>g1)
  (fun i=>rowA encInt 3 i.1 (i.2.2.map Rc.id)::pt b10 (.cells #[.map (some m),i.1] 101 (0,0))::mp m (i.2.2.map dE)::pt b1 (.cells #[v] 31 (0,0))::s)
  (fun i=>i.2.1≤rs.length∧au (hZ (mns g1 g)) (((aa l).take i.2.1).foldl fW []) i.2.2) (fun i=>rs.length - i.2.1) (.slice none 0 0,0,[])
  sB rfl rfl ⟨zf4 _,by simp[au]⟩ ?_
 rintro ⟨iv,k,acc⟩ ⟨hk,hacc⟩;dsimp only at hk hacc ⊢;refine rZ (yL I (tZ (sQ ?_)));refine iP I (fun hlt=>?_) (fun hlt=>?_)
 ·have hkr:k<rs.length:=oM;have hkl:k<(aa l).length:=oM;have hb1:=hrs.based oM;have hcr:=hall.get (gE hkl) (gE hkr);have hany:=Cg (hacc.mono fun _ _=>hZ.cr (rJ _ _)) (aa l)[k].id;have htake:((aa l).take (k+1)).foldl fW []=fW (((aa l).take k).foldl fW []) (aa l)[k]:=by
   rw[tS hkl,zi6]; rfl
  have hal:=hacc.length;have hal2:=fm ((aa l).take k) [];simp only[ze2,zc2] at hal2;generalize hcl:(aa l)[k]=cx at *;generalize hrx:rs[k]=x at *;have hgx:rs[((k:Nat):Int).toNat]?=some x:=by rw[← hrx]; exact gE hkr
  cases hget:acc.find? (fun r=>r.id == x.id) with
  | some y =>
   refine kP (tN (sQ (bK (rZ (lU (iA az aw I I hb1 oM sL) (lK (eA eO aw I hrs.rd hgx) (bW (aL zk9) fun b5=>?_)))))));refine oZ (sK 0 aw I I I I I sB) ?_;refine tZ (sQ ?_);refine dW [] [(0,2),(1,2),(2,2),(3,1),(4,2),(5,1),(6,1),(7,2),(8,2),(9,2),(10,0),(11,0),(12,2)] ze1 kR ?_;refine yM I (pU I (nC I) (pU I (fA oK I sizeOf99 I) (pK I (qL isAgg99 I (cO 2 I I)) (pU I (fA am I zT3 I) (pK I (qL iT3 I (cO 0 I I)) (pK I (SQ.eq (SQ.lookupOk mty99 I I (dB.own 3 I)) (by (rw[pH,hget]; done))) ?_))))));refine yM I (pU I (xT I I) (pU I (xT I I) (SP.o I (aL zk9) dC (.inr iR) ?_)));rintro _ _ _ ⟨b6,rfl,rfl,rfl⟩;refine SP.on I (sK 0 aw I I I I I sB) (.inr iR) ?_;rintro _ _ _ ⟨rfl,rfl⟩;refine pU I (aS I) (pN (tN (sW I (lU (SU.not I) (tZ (cF I (kP (bN (tN (rG (yD I (lM I (nL (dR (s':=rowA encInt 3 iv (acc.map Rc.id)::pt b10 (.cells #[.map (some m),iv] 101 (0,0))::mp m (acc.map dE)::pt b1 (.cells #[v] 31 (0,0))::s) (.cons _ (.cons _ (.refl _))) ?_))))))))))))));have h1:acc.any (fun r=>r.id == cx.id)=true:=by
    rw[zj4];exact⟨y,List.mem_of_find?_eq_some hget,by have:=List.find?_some hget; rw[← hcr.1]; exact this⟩
   exact gA (iv,k+1,acc) sB I I ⟨lN,by dsimp only; rw[htake,qO (hany.trans h1)]; exact hacc⟩ lN
  | none =>
   refine kP (tN (sQ (bK (rZ (lU (iA az aw I I hb1 oM sL) (lK (eA eO aw I hrs.rd hgx) (bW (aL zk9) fun b5=>?_)))))));refine oZ (sK 0 aw I I I I I sB) ?_;refine tZ (sQ ?_);refine dW [] [(0,2),(1,2),(2,2),(3,1),(4,2),(5,1),(6,1),(7,2),(8,2),(9,2),(10,0),(11,0),(12,2)] ze1 kR ?_;refine yM I (pU I (nC I) (pU I (fA oK I sizeOf99 I) (pK I (qL isAgg99 I (cO 2 I I)) (pU I (fA am I zT3 I) (pK I (qL iT3 I (cO 0 I I)) (pK I (SQ.eq (SQ.lookupOk mty99 I I (dB.own 3 I)) (by (rw[pH,hget]; done))) ?_))))));refine yM I (pU I (xT I I) (pU I (xT I I) (SP.o I (aL zk9) dC (.inr iR) ?_)));rintro _ _ _ ⟨b6,rfl,rfl,rfl⟩;refine SP.on I (sK 0 aw I I I I I sB) (.inr iR) ?_;rintro _ _ _ ⟨rfl,rfl⟩;refine pU I (aS I) (pN (tN (sW I (lU (SU.not I) (tZ (cT I (sQ ?_)))))));refine dW [7] [(0,2),(1,2),(2,2),(3,1),(4,2),(5,1),(6,1),(7,0)] ze1 kR ?_;refine yM I (pU I (nC I) (pU I (fA oK I sizeOf99 I) (pK I (qL isAgg99 I (cO 3 I I)) (pU I (fA am I zT3 I) (pK I (qL iT3 I (cO 1 I I)) (pK I (qV 1 eO aw I I I) (SP.on I (SO.mapUpdate 4 mty99 I I I I) (.inl dC) ?_)))))));rintro _ _ _ ⟨rfl,rfl⟩;refine pN (tN ?_);refine dW [8,9,10,11] [(0,2),(1,2),(2,2),(3,2),(4,1),(5,2),(6,1),(7,0),(8,0),(9,0),(10,0),(11,0)] ze1 kR ?_;refine yM I (yM I (pU I (nC I) (pU I (fA oK I bP I) (pK I (qL dG I (cO 3 I I)) (pU I (fA am I zT3 I) (pK I (qL iT3 I (cO 1 I I)) (SP.o I (bS sty25 I I I (ab sB) dC) dC (.inr iR) ?_)))))));rintro _ _ _ ⟨b45,rfl,rfl,rfl⟩;refine SP.o I (SO.app1 2 (((acc++[x]).map Rc.id).flatMap encInt.enc) ((acc++[x]).map Rc.id).length sty25 I I I I I ⟨I,trivial⟩ (by simp[encInt]; rfl) (by simp) (by simp; omega) (by simp; omega)) dC (.inl dC) ?_;rintro iv' _ _ ⟨rfl,rfl⟩;refine zc9 fun ⟨w0,hw0⟩=>?_;obtain ⟨q',d',rfl⟩:=ag (e:=encInt) (l:=(acc++[x]).map Rc.id) (i:=2) hw0 rfl;clear hw0 w0;refine oU rfl (nC rfl) dC (.inl dC) (oU rfl (fA oK rfl bP rfl) dC (.inl dC) (SP.on rfl (SO.store1 3 bP rfl rfl rfl rfl (bE rfl) (by rfl)) (.inl dC) ?_));rintro _ _ _ ⟨rfl,rfl⟩;refine pN (bN (tN (rG (yD I (lM I (nL ?_))))));have h1:acc.any (fun r=>r.id == cx.id)=false:=by
    rw[zj9];intro y hy;have:=List.find?_eq_none.1 hget y hy;rw[← hcr.1]; exact this
   have hmp:jC (acc.map dE) x.id (rcv x)=(acc++[x]).map dE:=by
    rw[iV _ _ _ (fun q hq=>by
     obtain ⟨y,hy,rfl⟩:=ze9.1 hq;have:=List.find?_eq_none.1 hget y hy;simpa [dE] using this)]
    simp[dE]
   refine dR (s':=rowA encInt 3 (.slice q' ((acc++[x]).map Rc.id).length d') ((acc++[x]).map Rc.id)::pt b10 (.cells #[.map (some m),.slice q' ((acc++[x]).map Rc.id).length d'] 101 (0,0))::mp m ((acc++[x]).map dE)::pt b1 (.cells #[v] 31 (0,0))::s) ?_ ?_
   ·rw[← hmp]; exact .cons _ (.cons _ (.refl _))
   exact gA (.slice q' ((acc++[x]).map Rc.id).length d',k+1,acc++[x]) sB I I ⟨lN,by dsimp only; rw[htake,kC (hany.trans h1)]; exact hacc.append ⟨hcr,trivial⟩⟩ lN
 ·refine xI (tX (tX (bX (tN (sW I (aT I (rE ?_)))))));have hkk:k=rs.length:=oM;have htk:(aa l).take k=aa l:=tL oM;rw[htk] at hacc;refine fT fun g2 h2 hrow=>?_;refine ST.freeze fun g3 h3 hb=>?_;refine ST.freezeMap fun g4 h4 hm=>?_;refine dR (s':=s) uR ?_;have hI:bZ g4 iv ((ae l).map Cl.id):=by
   rw[show (ae l).map Cl.id=acc.map Rc.id from qN (hacc.mono fun _ _=>hZ.cr (rJ _ _))];exact Sl.mono hrow (h3.trans h4)
  exact za6 (.inl I) results34 I ⟨I,hle.trans (h2.trans (h3.trans h4)),b10,m,iv,acc,I,h4 _ _ hb,hm,hI,hacc.mono fun _ _=>hZ.mono (qF (h2.trans (h3.trans h4)))⟩
theorem ug (E:World)(g:PH)(s:Own)(v:Value)(l:List Cl)(hv:ao g v l)(hf:cU l) :
  Ctr Tryz.prog E 34 #[.agg #[v]] g s (fun r g' s'=>s=s'∧Le g g'∧Tab g' r (ae l)) :=
 (Eg E g s v l hv hf).mono fun _ _ _ ⟨h1,h2,h3⟩=>⟨h1,h2,h3.mono (zb7 _) fun _ _=>hZ.cr (rJ _ _)⟩
theorem xy {acc:List Cl}{c:Cl}(h:(acc.map Cl.id).Nodup):((fW acc c).map Cl.id).Nodup:=by
 unfold fW;split
 ·exact h
 ·rename_i hc;rw[zg3,List.nodup_append];refine⟨h,by simp,fun a ha b hb e=>?_⟩;simp at hb;subst hb;obtain ⟨x,hx,hxe⟩:=ze9.1 ha;apply hc;rw[zj4];exact⟨x,hx,by simp[hxe,e]⟩
theorem uY (l:List Cl):∀ acc:List Cl,(acc.map Cl.id).Nodup→((l.foldl fW acc).map Cl.id).Nodup:=by
 induction l with
 | nil=>intro acc h; exact h
 | cons c r ih=>intro acc h; exact ih _ (xy h)
theorem fB (l:List Cl):((ae l).map Cl.id).Nodup:=uY _ [] (by simp)
theorem sa (l:List Cl):∀ (acc:List Cl) (x:Cl),x∈l.foldl fW acc→x∈acc∨x∈l:=by
 induction l with
 | nil=>intro acc x h; exact .inl h
 | cons c r ih =>
  intro acc x h
  rcases ih _ x h with h1 | h1
  ·unfold fW at h1;split at h1
   ·exact .inl h1
   ·rcases zf1.1 h1 with h2 | h2
    ·exact .inl h2
    ·right; simp at h2; simp[h2]
  ·exact .inr (by simp[h1])
theorem mL {l:List Cl}{x:Cl}(h:x∈ae l):x∈aa l:=(sa _ [] x h).resolve_left (by simp)
theorem eY {l:List Cl}(h:cU l):cU (ae l):=by
 have hc:=bw h;refine⟨?_,fun c hm=>hc.2 c (mL hm)⟩;have:=fm (aa l) [];unfold ae;have h1:=hc.1;simp at this;omega
def ER (c:Cl)(id:Int):Bool:=c.sides.any fun x=>decide (x.cell=id)
theorem Tryz.mty139:MTy Tryz.prog 139 3 4 (vb false):=⟨underlying139,underlying3,zeroValue4⟩
def AP:Rc:=⟨0,0,none,0,0⟩
def fK:Cl:=⟨0,0,[]⟩
theorem xY {R:Cl→Rc→Prop}(hR:∀ c r,R c r→r.id=c.id){tl:List Cl}{rs:List Rc}(h:au R tl rs)(k:Int):(tl.find? (fun c=>decide (c.id=k))=none∧fj (rs.map dE) k=none)∨∃ c r,tl.find? (fun c=>decide (c.id=k))=some c∧fj (rs.map dE) k=some (rcv r)∧R c r:=by
 induction tl generalizing rs with
 | nil=>cases rs with | nil=>exact .inl ⟨rfl,rfl⟩ | cons _ _=>exact h.elim
 | cons c t ih =>
  cases rs with
  | nil=>exact h.elim
  | cons r rs =>
   simp only[zg2,dE,bI,List.find?_cons];by_cases hk:c.id=k
   ·right;have:k=r.id:=by rw[hR _ _ h.1,hk]
    exact⟨c,r,by simp[hk],by rw[zf8 this],h.1⟩
   ·have hk2:¬ k=r.id:=by rw[hR _ _ h.1]; exact fun e=>hk e.symm
    simp only[hk,decide_false,zf7 hk2];exact ih h.2
theorem AI {g:PH}{tl:List Cl}{rs:List Rc}(h:au (aq g) tl rs)(k:Int):(tl.find? (fun c=>decide (c.id=k))=none∧fj (rs.map dE) k=none)∨∃ c r,tl.find? (fun c=>decide (c.id=k))=some c∧fj (rs.map dE) k=some (rcv r)∧aq g c r:=xY (fun _ _ h=>h.1) h k
theorem nN {g:PH}{tl:List Cl}{rs:List Rc}(h:au (aq g) tl rs)(hw:∀ g,aq g fK AP)(k:Int):∃ r,(fj (rs.map dE) k).getD (.agg #[vi 0,vi 0,.slice none 0 0])=rcv r∧(fj (rs.map dE) k).isSome=(tl.find? (fun c=>decide (c.id=k))).isSome∧aq g ((tl.find? (fun c=>decide (c.id=k))).getD fK) r:=by
 rcases AI h k with ⟨h1,h2⟩ | ⟨c,r,h1,h2,h3⟩
 ·exact⟨AP,by rw[h2]; rfl,by rw[h1,h2]; rfl,by rw[h1]; exact hw g⟩
 ·exact⟨r,by rw[h2]; rfl,by rw[h1,h2]; rfl,by rw[h1]; exact h3⟩
theorem uo (g:PH):aq g fK AP:=⟨rfl,rfl,zb8 g _⟩
def AU (l:List Cl)(id:Int):Option Cl:=(ae l).find? fun c=>decide (c.id=id)
def iE (tl:List Cl)(k:Int):Bool:=tl.any fun c=>ER c k
def fQ (l:List Cl):List Int:=((ae l).filter fun c=>!iE (ae l) c.id).map Cl.id
theorem Cf {g:PH}{tl:List Cl}{rs:List Rc}(h:au (aq g) tl rs){r:Rc}(hr:r∈rs):∃ c,c∈tl∧aq g c r:=by
 obtain ⟨i,hi,rfl⟩:=zc5 hr;have hl:=h.length;have hi':i<tl.length:=oM;exact⟨tl[i],gM hi',h.get (gE hi') (gE hi)⟩
theorem BD {tl:List Cl}(h:(tl.map Cl.id).Nodup){a b:Cl}(ha:a∈tl)(hb:b∈tl)(e:a.id=b.id):a=b:=by
 induction tl with
 | nil=>simp at ha
 | cons c t ih =>
  simp only[zg2,zj6] at h
  rcases ze8.1 ha with rfl | ha' <;> rcases ze8.1 hb with rfl | hb'
  ·rfl
  ·exact absurd (ze9.2 ⟨b,hb',e.symm⟩) h.1
  ·exact absurd (ze9.2 ⟨a,ha',e⟩) h.1
  ·exact ih h.2 ha' hb'
theorem uV {vc tl:List Cl}(hs:∀ c∈vc,c∈tl)(hp:(vc.map Cl.id).Perm (tl.map Cl.id))(hn:(tl.map Cl.id).Nodup):vc.Perm tl:=by
 have hn2:(vc.map Cl.id).Nodup:=hp.symm.nodup hn;refine (List.perm_ext_iff_of_nodup (List.Pairwise.of_map Cl.id (fun a b hab e=>hab (by rw[e])) hn2) (List.Pairwise.of_map Cl.id (fun a b hab e=>hab (by rw[e])) hn)).2 fun c=>⟨hs c,fun hc=>?_⟩;obtain ⟨c',h1,h2⟩:=ze9.1 (hp.symm.subset (ze9.2 ⟨c,hc,rfl⟩));rw[← BD hn (hs c' h1) hc h2];exact h1
theorem tg {g:PH}{vl:List (Int×Value)}{rs:List Rc}{vc tl:List Cl}(hv:vl.map Prod.fst=vc.map Cl.id)(hs:∀ c∈vc,c∈tl)(hn:(tl.map Cl.id).Nodup)(hall:au (aq g) tl rs)(hp:vl.Perm (rs.map dE)):vc.Perm tl:=by
 refine uV hs ?_ hn;have h1:=hp.map Prod.fst;rw[hv,zi3] at h1;rw[qN hall];exact h1
def ES (l:List Cl):Int:=((ae l).map fun c=>if c.dim.tmod 2=0 then 1 else -1).sum
theorem Eo {f:Fr}{t:Nat}{a b:Int}(h:bB f t=some (vi a))(e:a=b):bB f t=some (vi b):=e ▸ h
theorem mP {α:Type}{s:List α}{i:Nat}{a:α}(h:s[i]?=some a):s.set i a=s:=by
 apply List.ext_getElem?;intro j;rw[List.getElem?_set];split
 ·rename_i e;subst e;split
  ·exact h.symm
  ·rename_i h2;rw[List.getElem?_eq_none oM]
 ·rfl
def aG (tl:List Cl)(id:Int):Option Cl:=tl.find? fun c=>decide (c.id=id)
def cq (tl:List Cl):Nat→Int→List Int→List Int
 | 0,_,vis=>vis
 | n+1,id,vis =>
  match aG tl id with
  | none=>vis
  | some c=>if vis.contains id then vis else c.sides.foldl (fun v x=>cq tl n x.cell v) (vis++[id])
theorem oa (tl:List Cl)(n:Nat)(id:Int)(vis:List Int):cq tl (n+1) id vis=(match aG tl id with
  | none=>vis
  | some c=>if vis.contains id then vis else c.sides.foldl (fun v x=>cq tl n x.cell v) (vis++[id])):=rfl
def oE (tl:List Cl)(vis:List Int):Nat:=(tl.filter fun c=>!vis.contains c.id).length
def cQ (tl:List Cl)(ids:List Int):List Int:=ids.foldl (fun v id=>cq tl (tl.length+1) id v) []
theorem pu (tl:List Cl):∀ (n:Nat) (id:Int) (vis:List Int) (x:Int),x∈vis→x∈cq tl n id vis
 | 0,_,_,_,h=>h
 | n+1,id,vis,x,h=>by
  unfold cq;split
  ·exact h
  ·split
   ·exact h
   ·rename_i c _ _;have:∀ (l:List aj) (v:List Int),x∈v→x∈l.foldl (fun v y=>cq tl n y.cell v) v:=by
     intro l;induction l with
     | nil=>intro v hv; exact hv
     | cons y t ih=>intro v hv; exact ih _ (pu tl n y.cell v x hv)
    exact this _ _ (by simp[h])
theorem nG {tl:List Cl}{v v':List Int}(h:∀ x∈v,x∈v'):oE tl v'≤oE tl v:=by
 unfold oE;rw[← List.countP_eq_length_filter,← List.countP_eq_length_filter];apply List.countP_mono_left;intro c _ hp;simp at hp ⊢;exact fun e=>hp (h _ e)
theorem zm {tl:List Cl}{v:List Int}{c:Cl}(hc:c∈tl)(hn:v.contains c.id=false):oE tl (v++[c.id])<oE tl v:=by
 induction tl with
 | nil=>simp at hc
 | cons d t ih =>
  have hm:oE t (v++[c.id])≤oE t v:=nG (fun x hx=>by simp[hx]);have e1:∀ u:List Int,oE (d::t) u=(if u.contains d.id then 0 else 1)+oE t u:=fun u=>by
   unfold oE;rw[zi4];cases u.contains d.id <;> simp <;> omega
  rw[e1,e1]
  rcases ze8.1 hc with rfl | hc'
  ·have:(v++[c.id]).contains c.id=true:=by simp
   rw[this,hn];simp;omega
  ·have:=ih hc';cases h1:v.contains d.id
   ·cases h2:(v++[c.id]).contains d.id <;> simp <;> omega
   ·have h2:(v++[c.id]).contains d.id=true:=by simp at h1 ⊢; exact .inl h1
    rw[h2];simp;exact this
def lI (vis:List Int):List (Int×Value):=vis.map fun k=>(k,vb true)
theorem vX (vis:List Int):EE (lI vis) (fun k=>vis.contains k):=by
 intro k;induction vis with
 | nil=>rfl
 | cons a t ih =>
  simp only[lI,zg2,bI] at ih ⊢;by_cases h:k=a
  ·simp[h]
  ·have h2:(k == a)=false:=by simpa using h
   rw[zf7 h,ih];simp[h]
theorem vY {vis:List Int}{id:Int}(h:vis.contains id=false):jC (lI vis) id (vb true)=lI (vis++[id]):=by
 rw[iV _ _ _ (fun p hp=>by
  obtain ⟨a,ha,rfl⟩:=ze9.1 hp;intro e;simp at h;exact h (by rw[← e]; exact ha))]
 simp[lI]
theorem cV {tl:List Cl}{id:Int}{c:Cl}(h:aG tl id=some c):c∈tl∧c.id=id:=⟨List.mem_of_find?_eq_some h,by simpa using List.find?_some h⟩
theorem fe {α:Type}{l:List α}{j:Nat}{y:α}(h:l[j]?=some y):l.take (j+1)=l.take j++[y]:=by
 obtain ⟨h1,h2⟩:=zf3.1 h;rw[tS h1,h2]
theorem y8 {α:Type}{s:List α}{i:Nat}{a:α}(h:s[i]?=some a)(b:α):(s.set i b)[i]?=some b:=by
 have:=(zf3.1 h).1;simp[this]
theorem xl (E:World)(g:PH)(bt bm bf m:Nat)(tv:Value)(tl:List Cl)(hv:Tab g tv tl)(hf:cU tl)(h2:g bt=some (.cells #[tv] 73 (0,0)))(h5:g bm=some (.cells #[.map (some m)] 139 (0,0)))
  (h6:g bf=some (.cells #[.func (.func 154) #[] #[pp bt 0,pp bm 0,pp bf 0]] 133 (0,0))):∀ (n:Nat) (id:Int) (vis:List Int) (s:Own) (i:Nat),oE tl vis<n→s[i]?=some (mp m (lI vis)) →
  Ctr Tryz.prog E 154 #[vi id,pp bt 0,pp bm 0,pp bf 0] g s (fun _ g' s'=>g=g'∧s'=s.set i (mp m (lI (cq tl n id vis)))):=by
 intro n;induction n with
 | zero=>intro id vis s i h; omega
 | succ n ih =>
 intro id vis s i hcnt hi;have hv':=hv;obtain ⟨b,mt,iv,rs,rfl,hb,hm,hI,hall⟩:=hv';obtain ⟨x,hx1,hx2,hx3⟩:=nN hall uo id;obtain ⟨xi,xd,xp,xn,xc⟩:=x;have hxs:SlA encSide g (.slice xp xn xc) ((aG tl id).getD fK).sides:=hx3.2.2;have hxn:xn=((aG tl id).getD fK).sides.length:=zb9 hxs;subst hxn;refine za9 (args:=[vi id,pp bt 0,pp bm 0,pp bf 0]) func154 I ntmps154 (bE I) ?_;refine rZ (lK (qL isAgg73 I (cK h2 I)) (lU (nC I) (lU (fA oK I sizeOf99 I) (lK (qL isAgg99 I (cK hb I)) (lM I (lK (SQ.eq (v':=.tuple #[rcv ⟨xi,xd,xp,((aG tl id).getD fK).sides.length,xc⟩,vb (decide ((aG tl id).isSome=true))]) (SQ.lookupOk mty99 I I (dB.known hm)) (by rw[hx1,hx2,Bool.decide_eq_true]; rfl)) ?_))))));refine lM I (yX I (yX I (bW (aL zk9) fun b5=>?_)));refine oZ (sK 0 aw I I I I I sB) ?_;refine aT I (sQ ?_);refine SC.cutB 24 (!(aG tl id).isSome||vis.contains id) ?_ ?_
 ·refine rG (lM I (lU (SU.notP I) (lM I ?_)));refine sP ?_ ?_
  ·intro h20;refine yA I (yA I (yA I (yP I (nL ?_))));exact za8 (by simp_all[bB]) mI
  ·intro h20;refine SL.gq (gT I I I dC) (qL isAgg139 I (cK h5 I)) dC (yC I (SL.gq (gT I I I dC) (SQ.eq (v':=vb (decide (vis.contains id=true))) (SQ.lookup mty139 I I (dB.own (i+1) hi)) (by rw[(vX vis).get id]; simp)) dC ?_));refine yF I (nL ?_);exact za8 (by simp_all[bB]) mI
 refine iQ I (fun hstop=>?_) (fun hstop=>?_)
 ·refine rE (tR (dR (s':=s) uR ?_));have hr:cq tl (n+1) id vis=vis:=by
   unfold cq;cases h:aG tl id with
   | none=>rfl
   | some c =>
    rw[h] at hstop;simp only[Option.isSome_some,Bool.not_true,Bool.false_or] at hstop;simp only[hstop,if_true]
  exact ST.ret0 (.inl I) results154 ⟨I,by rw[hr,mP hi]⟩
 ·obtain ⟨c,hc⟩:∃ c,aG tl id=some c:=by
   cases h:aG tl id with
   | none=>rw[h] at hstop; simp at hstop
   | some c=>exact⟨c,rfl⟩
  obtain ⟨hcm,hcid⟩:=cV hc;have hnv:vis.contains id=false:=by rw[hc] at hstop; simpa using hstop
  have hcl:=hf.2 c hcm;have hcnt2:oE tl (vis++[id])<n:=by
   have:=zm hcm (by rw[hcid]; exact hnv);rw[hcid] at this;omega
  simp only[hc,Option.getD_some] at hxs ⊢;refine kP (tN (rZ (lK (qL isAgg139 I (cK h5 I)) (lM I (lO (SO.mapUpdate (i+1) mty139 I I I hi) ?_)))));rintro _ _ _ ⟨rfl,rfl⟩;rw[vY hnv];refine tZ (rZ (lU (fA am I aX I) (lK (qL bH I (cO 0 I I)) (lU (eN bF I) (lM I (tZ (bK (SC.drop (s':=s.set i (mp m (lI (vis++[id])))) (.cons _ (.refl _)) ?_))))))));refine oP (ι:=Nat×List Int) (fun q=>[(3,pp bf 0),(28,.slice xp c.sides.length xc),(29,vi c.sides.length),(30,vi q.1)]) (fun _=>g)
   (fun q=>s.set i (mp m (lI q.2))) (fun q=>q.1≤c.sides.length∧q.2=(c.sides.take q.1).foldl (fun v x=>cq tl n x.cell v) (vis++[id])∧oE tl q.2<n) (fun q=>c.sides.length - q.1)
   (0,vis++[id]) sB rfl rfl ⟨zf4 _,by simp,hcnt2⟩ ?_
  rintro ⟨j,vj⟩ ⟨hj,hvj,hcj⟩;dsimp only at hj hvj hcj ⊢;refine rZ (yL I (tZ (sQ ?_)));refine iP I (fun hlt=>?_) (fun hlt=>?_)
  ·have hjl:j<c.sides.length:=oM;have hb1:=hxs.based oM;have hjx:c.sides[((j:Nat):Int).toNat]?=some c.sides[j]:=gE hjl;generalize c.sides[j]=y at *;refine kP (tN (sQ (bK (rZ (lU (iA bF bJ I I hb1 oM sL) (lK (eA mD bJ I hxs.rd hjx) (bW (aL zk7) fun b8=>?_)))))));refine oZ (sK 0 bJ I I I I I sB) ?_;refine tZ (rG (lK (qL isAgg133 I (cK h6 I)) (lU (fA de I zT3 I) (lK (qL iT3 I (cO 0 I I)) (lW (SO.callV I I (dn.mk (cap:=[pp bt 0,pp bm 0,pp bf 0]) call154 (ih y.cell vj _ (i+1) hcj (y8 hi _)))) ?_)))));rintro _ _ _ ⟨rfl,rfl⟩;refine nL (bN (tN (rG (yD I (lM I (nL (dR (s':=s.set i (mp m (lI (cq tl n y.cell vj)))) (by rw[List.set_cons_zero,List.set_cons_succ,List.set_set]; exact .cons _ (.refl _)) ?_)))))));exact gA (j+1,cq tl n y.cell vj) sB I I ⟨lN,by
    rw[fe (j:=j) hjx,zi6,← hvj]; rfl,Nat.lt_of_le_of_lt (nG fun x hx=>pu tl n _ _ x hx) hcj⟩ lN
  ·refine xI (tX (tX (bX ?_)));have hjj:c.sides.take j=c.sides:=tL oM;have hr:cq tl (n+1) id vis=vj:=by
    rw[hjj] at hvj;rw[hvj,oa,hc];simp only[hnv,Bool.false_eq_true,if_false]
   exact ST.ret0 (.inr I) results154 ⟨I,by rw[hr]⟩
theorem zn (tl:List Cl)(v:List Int):oE tl v≤tl.length:=zc3 _ _
theorem tO (E:World)(g:PH)(s:Own)(v iv:Value)(tl:List Cl)(ids:List Int)(hv:Tab g v tl)(hf:cU tl)(hi:bZ g iv ids)(hl:ids.length<1099511627776) :
  Ctr Tryz.prog E 121 #[v,iv] g s (fun r g' s'=>∃ m,r = .map (some m)∧Le g g'∧s'=mp m (lI (cQ tl ids))::s):=by
 obtain ⟨p,c,rfl⟩:=za2 hi;have hvc:v.cells = #[v]:=by obtain ⟨b,_,_,_,rfl,_⟩:=hv; rfl
 refine za9 (args:=[v,.slice p ids.length c]) func121 I ntmps121 (bE I) ?_;refine rZ (bW (bO I) fun b2=>?_);refine zb3 fun g1 hle hb2=>?_;rw[hvc] at hb2;refine aT I (rZ (lW (SO.mkMap) ?_));rintro _ _ _ ⟨m,rfl,rfl,rfl⟩;refine bW (aL zeroValue139) fun b5=>?_;refine oZ (sK 0 sizeOf139 I I I I I ⟨I,trivial⟩) (zb3 fun g2 hle2 hb5=>?_);refine tZ (rZ (bW (aL zeroValue133) fun b6=>?_));refine tZ (rZ (lU (SU.mkFunc I) (oZ (sK 0 sizeOf133 I I I I I ⟨I,trivial⟩) (zb3 fun g3 hle3 hb6=>?_))));refine tZ (sQ (sW I (lU (eN ak I) (lM I (tZ (bK ?_))))));have hv3:=hv.mono (hle.trans (hle2.trans hle3));have hi3:=hi.mono (hle.trans (hle2.trans hle3));refine oP (ι:=Nat×List Int) (fun q=>[(5,pp b5 0),(6,pp b6 0),(11,.slice p ids.length c),(12,vi ids.length),(13,vi q.1)]) (fun _=>g3)
  (fun q=>mp m (lI q.2)::s) (fun q=>q.1≤ids.length∧q.2=(ids.take q.1).foldl (fun v id=>cq tl (tl.length+1) id v) []) (fun q=>ids.length - q.1)
  (0,[]) sB rfl rfl ⟨zf4 _,by simp⟩ ?_
 rintro ⟨j,vj⟩ ⟨hj,hvj⟩;dsimp only at hj hvj ⊢;refine rZ (yL I (tZ (sQ ?_)));refine iP I (fun hlt=>?_) (fun hlt=>?_)
 ·have hjl:j<ids.length:=oM;have hb1:=za4 hi oM;have hjx:ids[((j:Nat):Int).toNat]?=some ids[j]:=gE hjl;generalize ids[j]=y at *;refine kP (tN (sQ (bK (rZ (lU (iA ak zT3 I I hb1 oM sL) (lK (eB iT3 I (za5 hi3) hjx I) (aT I (rG (lK (qL isAgg133 I (cK hb6 I)) (lM I (lW (SO.callV I I (dn.mk (cap:=[pp b2 0,pp b5 0,pp b6 0]) call154 (xl E g3 b2 b5 b6 m v tl hv3 hf ((hle2.trans hle3) _ _ hb2) (hle3 _ _ hb5) hb6 (tl.length+1) y vj _ 0 (zk4 (zn _ _)) I))) ?_)))))))))));rintro _ _ _ ⟨rfl,rfl⟩;refine nL (bN (tN (rG (yD I (lM I (nL ?_))))));exact gA (j+1,cq tl (tl.length+1) y vj) sB I I ⟨lN,by rw[fe (j:=j) hjx,zi6,← hvj]; rfl⟩ lN
 ·refine xI (tX (tX (bX (tN (rZ (lK (qL isAgg139 I (cK (hle3 _ _ hb5) I)) (aT I (rE ?_))))))));have hjj:ids.take j=ids:=tL oM;rw[hjj] at hvj;exact za6 (.inl I) results121 I ⟨m,I,hle.trans (hle2.trans hle3),by rw[hvj]; rfl⟩
open Go Go.Sy Go.Pl Go.Proofs Go.Shelf Go.Sort
def ve:Ren :=
 {
  f:=fun x =>
   match x with
   | 189=>100
   | 125=>143
   | 257=>142
   | 128=>176
   | 129=>177
   | 294=>167
   | 295=>168
   | 296=>169
   | 297=>170
   | 298=>171
   | 299=>172
   | 216=>173
   | 300=>174
   | 301=>175
   | 328=>196
   | 329=>197
   | 330=>198
   | 331=>199
   | 332=>200
   | 215=>156
   | 343=>211
   | n=>n,
  t:=fun x =>
   match x with
   | 28=>25
   | 3=>3
   | 46=>132
   | 0=>0
   | 51=>176
   | 53=>140
   | 4=>4
   | 183=>217
   | 182=>216
   | 131=>119
   | 5=>5
   | 9=>9
   | 218=>239
   | 222=>243
   | 228=>250
   | 229=>251
   | n=>n,
  g:=fun x =>
   have n:=x;
   n }
theorem Tryz.lays189:Lays.n189 Tryz.prog ve :=
  {
  mixed:=Eq.refl true,f125:=zb6 func143 (zd9 some kR),
  f128:=zb6 func176 (zd9 some kR),
  f129:=zb6 func177 (zd9 some kR),
  f189:=zb6 func100 (zd9 some kR),
  f215:=zb6 func156 (zd9 some kR),
  f216:=zb6 func173 (zd9 some kR),
  f257:=zb6 func142 (zd9 some kR),
  f294:=zb6 func167 (zd9 some kR),
  f295:=zb6 func168 (zd9 some kR),
  f296:=zb6 func169 (zd9 some kR),
  f297:=zb6 func170 (zd9 some kR),
  f298:=zb6 func171 (zd9 some kR),
  f299:=zb6 func172 (zd9 some kR),
  f300:=zb6 func174 (zd9 some kR),
  f301:=zb6 func175 (zd9 some kR),
  f328:=zb6 func196 (zd9 some kR),
  f329:=zb6 func197 (zd9 some kR),
  f330:=zb6 func198 (zd9 some kR),
  f331:=zb6 func199 (zd9 some kR),
  f332:=zb6 func200 (zd9 some kR),
  f343:=zb6 func211 (zd9 some kR),t0:=underlying0,
  a0:=isAgg0,z0:=sizeOf0,v0:=zeroValue0,t3:=uT3,a3:=iT3,
  z3:=zT3,v3:=zk6,t4:=underlying4,a4:=isAgg4,z4:=sizeOf4,
  v4:=zeroValue4,t5:=uT5,a5:=isAgg5,z5:=sizeOf5,v5:=zeroValue5,
  t9:=underlying9,a9:=isAgg9,z9:=sizeOf9,v9:=zeroValue9,t28:=ak,
  a28:=dG,z28:=bP,v28:=zeroValue25,t46:=iZ,a46:=isAgg132,
  z46:=sizeOf132,v46:=zeroValue132,t51:=underlying176,a51:=isAgg176,
  z51:=sizeOf176,v51:=zeroValue176,t53:=ng,a53:=isAgg140,
  z53:=sizeOf140,v53:=zeroValue140,t131:=underlying119,a131:=isAgg119,
  z131:=sizeOf119,v131:=zeroValue119,t182:=underlying216,a182:=isAgg216,
  z182:=sizeOf216,v182:=zeroValue216,t183:=underlying217,a183:=isAgg217,
  z183:=sizeOf217,v183:=zeroValue217,t218:=underlying239,a218:=isAgg239,
  z218:=sizeOf239,v218:=zeroValue239,t222:=underlying243,a222:=isAgg243,
  z222:=sizeOf243,v222:=zeroValue243,t228:=underlying250,a228:=isAgg250,
  z228:=sizeOf250,v228:=zeroValue250,t229:=underlying251,a229:=isAgg251,
  z229:=sizeOf251,v229:=zeroValue251 }
def ee (l:List Int):List Int:=l.mergeSort fun x y=>decide (x≤y)
theorem ff (l:List Int):(ee l).length=l.length:=List.length_mergeSort ..
theorem lp (l:List Int):(ee l).Perm l:=List.mergeSort_perm ..
theorem nz (l:List Int):l.flatMap encInt.enc=l.map (Value.int .i64):=by
 induction l with
 | nil=>rfl
 | cons a t ih=>simp only[zh3,zg2,ih]; rfl
theorem rj (E:World)(g:PH)(s:Own)(v:Value)(l:List Int)(i:Nat)(hi:s[i]?=some (rowA encInt 3 v l))(hl:l.length<17592186044416) :
  Ctr Tryz.prog E 100 #[v] g s (fun _ g' s'=>g=g'∧s'=s.set i (rowA encInt 3 v (ee l))):=by
 intro w hw;obtain ⟨h1,h2⟩:=eV hw hi
 rcases h2 with ⟨p,rfl,hn⟩ | ⟨b,cap,cur,rfl,hb,hle,hcm,hcs,ht⟩
 ·have hl0:l=[]:=zf2 hn;subst hl0;refine (Any.slices_Sort_int_none lays189 p 0 w).mono ?_;rintro e w' ⟨rfl,rfl⟩;refine⟨_,g,s,I,hw,I,?_⟩;have:ee []=[]:=by simp[ee]
  rw[this];exact (mP hi).symm
 ·have ht':cur.toList.take l.length=l.map (Value.int .i64):=by rw[← nz]; simpa using ht
  refine (Any.slices_Sort_int lays189 b 0 (cap+1) l w (holds_of_blockI hb ht') (Array.getElem?_eq_some_iff.1 hb).1 oM).mono ?_;rintro e w' ⟨rfl,n,os,rfl⟩;have hfr:=hw.fresh _ (zf9 hi) b rfl;refine⟨_,g,_,I,?_,I,I⟩;obtain ⟨q1,q2,q3,q4,q5⟩:=grownBy_sortedI (w:=w) (g:=b) (n:=n) (os:=os) (ee l).toArray;refine hw.turn hi I ⟨I,(by exact Nat.le_add_right _ _)⟩ I q4 (fun k hk hne=>q5 k hk hne) ?_ ?_
  ·have h5:=heap_sortedI (n:=n) (os:=os) (ee l).toArray hb;have hlen:=ff l;have:=c8 (w:=grow (putRow (Value.int .i64) (Sort.ahead w n) b 0 (ee l).toArray) os) (T:=3) (k:=1) (n:=(ee l).length) (b:=b) (cap:=cap) (xs:=(ee l).flatMap encInt.enc) (by rw[encInt.length]) h5 oM hcm (by simp[putCells]; simpa using hcs) (by
    rw[nz,Nat.mul_one];exact take_putCellsI cur (ee l) (by rw[hlen,hcs]; omega))
   rw[hlen] at this;rw[show rowA encInt 3 (.slice (some ⟨b,0,none⟩) l.length (cap+1)) (ee l)=row 3 1 (.slice (some ⟨b,0,none⟩) l.length (cap+1)) l.length ((ee l).flatMap encInt.enc) by simp only[rowA,hlen]];exact this
  ·intro b' hb';simp only[rowA,row,ii,zg5] at hb';subst hb';exact⟨Nat.lt_of_lt_of_le (Array.getElem?_eq_some_iff.1 hb).1 q4,.inl I⟩
def eX (c:Cl):Bool:=decide (c.dim<0)||decide (c.dim>8)
def aW (c:Cl):Bool:=(decide (c.dim=0)&&decide ((c.sides.length:Int)>0))||(decide (c.dim=1)&&decide ((c.sides.length:Int)≠2))||(decide (c.dim>1)&&(decide ((c.sides.length:Int)<2)||decide ((c.sides.length:Int)>64)))
def cj (tl:List Cl)(c:Cl)(i:Nat)(x:aj):Bool:=!(aG tl x.cell).isSome||decide (((aG tl x.cell).getD fK).dim≠c.dim - 1)||(decide (i>0)&&decide ((c.sides[i - 1]?.map aj.cell)=some x.cell))
section
variable {tl:List Cl}{c p:Cl}{i:Nat}{x:aj}
theorem nM (h:¬ (aG tl x.cell).isSome=true):cj tl c i x=true:=by
 have:(aG tl x.cell).isSome=false:=by simpa using h
 simp[cj,this]
theorem sX (h:(aG tl x.cell).isSome=true)(h2:((aG tl x.cell).getD fK).dim≠c.dim - 1):cj tl c i x=true:=by
 simp only[cj,h,h2,Bool.not_true,Bool.false_or,ne_eq,not_false_eq_true,decide_true,Bool.true_or]
theorem sV (h:(aG tl x.cell).isSome=true)(h2:¬ ((aG tl x.cell).getD fK).dim≠c.dim - 1)(h3:¬ (i:Int)>0):cj tl c i x=false:=by
 have h4:¬ i>0:=oM;simp only[cj,h,h2,h4,Bool.not_true,Bool.false_or,decide_false,Bool.false_and]
theorem sS {q:aj}(h:(aG tl x.cell).isSome=true)(h2:¬ ((aG tl x.cell).getD fK).dim≠c.dim - 1)(h3:(i:Int)>0)(hq:c.sides[i - 1]?=some q):cj tl c i x=decide (q.cell=x.cell):=by
 have h4:i>0:=oM;simp only[cj,h,h2,h4,hq,Bool.not_true,Bool.false_or,decide_false,decide_true,Bool.true_and,Option.map_some,zg5]
end
def hX (tl:List Cl)(c:Cl)(i:Nat):Bool:=match c.sides[i]? with
 | some x=>cj tl c i x
 | none=>false
def bL (x:aj):Bool:=decide (x.sign≠1)&&decide (x.sign ≠ -1)
theorem rX {x:aj}(h:x.sign≠1):bL x=decide (x.sign ≠ -1):=by simp[bL,h]
theorem rW {x:aj}(h:¬ x.sign≠1):bL x=false:=by simp[bL,h]
def mC (l:List aj):Int:=(l.map aj.sign).sum
def cz (tl:List Cl)(c:Cl):Int :=
 if eX c then 21 else if aW c then 22 else if (List.range c.sides.length).any (hX tl c) then 22 else if c.sides.any bL then 23 else if (decide (c.dim=1)&&decide (mC c.sides≠0)) then 23 else 0
theorem wV {l:List aj}(h:l.any bL=false):mC l≤l.length ∧ -(l.length:Int)≤mC l:=by
 induction l with
 | nil=>simp[mC]
 | cons x t ih =>
  simp only[List.any_cons,Bool.or_eq_false_iff] at h;have:=ih h.2;have hx:x.sign=1∨x.sign = -1:=by
   have h1:=h.1;simp only[bL,Bool.and_eq_false_iff,decide_eq_false_iff_not,ne_eq,Decidable.not_not] at h1;exact h1
  simp only[mC,zg2,List.sum_cons,ze6] at this ⊢;omega
theorem Ao (E:World)(g:PH)(s:Own)(v:Value)(tl:List Cl)(c:Cl)(r:Rc)(hv:Tab g v tl)(hc:aq g c r)(hl:c.sides.length<1099511627776) :
  Ctr Tryz.prog E 36 #[v,rcv r] g s (fun r g' s'=>r=vi (cz tl c)∧g=g'∧s=s'):=by
 obtain ⟨b,mt,iv,rs,rfl,hb,hm,hI,hall⟩:=hv;obtain ⟨ri,rd,rp,rn,rcap⟩:=r;have hcs:SlA encSide g (.slice rp rn rcap) c.sides:=hc.2.2;have hrn:rn=c.sides.length:=zb9 hcs;have hrd:rd=c.dim:=hc.2.1;subst hrn hrd;have hx0:=fun h=>hcs.based h;refine za9 (args:=[pp b 0,rcv ⟨ri,c.dim,rp,c.sides.length,rcap⟩]) func36 I ntmps36 (bE I) ?_;refine rZ (bW (bO I) fun b3=>?_);refine aT I (rZ (lU (fA am I aX I) (lK (qL bH I (cO 0 I I)) (lU (eN bF I) (aT I (sQ (bK ?_)))))));refine SC.cutB 16 (eX c) ?_ ?_
 ·refine rG (lU (fA am I zT3 I) (lK (qL iT3 I (cO 0 I I)) (yL I (lM I ?_))));refine sP ?_ ?_
  ·intro h20;refine yA I (yA I (yA I (yP I (lA I (nL ?_)))));exact za8 (by simp_all[bB,eX] <;> omega) mI
  ·intro h20;refine lY I I I (fA am I zT3 I) (SL.gq (gT I I I dC) (qL iT3 I (cO 0 I I)) dC (lY I I I (gR I I) (yF I (lA I (nL ?_)))));exact za8 (by simp_all[bB,eX] <;> omega) mI
 refine iQ I (fun hdb=>?_) (fun hdb=>?_)
 ·refine rZ (aT I (rE (bR (tR (dR (s':=s) uR ?_)))));exact za6 (.inl I) results36 I ⟨by unfold cz; rw[zf8 hdb],I,I⟩
 ·have hd8:0≤c.dim∧c.dim≤8:=by simp[eX] at hdb; omega
  refine SC.cutB 25 (aW c) ?_ ?_
  ·refine rG (lU (fA am I zT3 I) (lK (qL iT3 I (cO 0 I I)) (yE I (lM I ?_))));refine sP ?_ ?_
   ·intro h29;refine yC I (lY I I I (gR I I) (yP I (lM I ?_)));refine sP ?_ ?_
    ·intro h33;refine yA I (yA I (yA I (yA I (yB I (yB I (yA I (yP I (lM I (yA I (yA I (yA I (yA I (yB I (yB I (yB I (yB I (yB I (yB I (yA I (yP I (lA I (nL ?_))))))))))))))))))))));exact za8 (by simp_all[bB,aW] <;> omega) mI
    ·intro h33;refine lY I I I (fA am I zT3 I) (SL.gq (gT I I I dC) (qL iT3 I (cO 0 I I)) dC (lY I I I (eQ I I) (yC I ?_)));refine sP ?_ ?_
     ·intro h37;refine yC I (lY I I I (nQ I I) (lY I I I (wT I I) (yF I (lM I ?_))));refine sP ?_ ?_
      ·intro h42;refine yA I (yA I (yA I (yA I (yB I (yB I (yB I (yB I (yB I (yB I (yA I (yP I (lA I (nL ?_)))))))))))));exact za8 (by simp_all[bB,aW] <;> omega) mI
      ·intro h42;refine lY I I I (fA am I zT3 I) (SL.gq (gT I I I dC) (qL iT3 I (cO 0 I I)) dC (lY I I I (gR I I) (yC I ?_)));refine sP ?_ ?_
       ·intro h46;refine yC I (lY I I I (lS I I) (yC I ?_));refine sP ?_ ?_
        ·intro h49;refine yA I (yA I (lY I I I (wT I I) (lY I I I (wT I I) (yF I (lA I (nL ?_))))));exact za8 (by simp_all[bB,aW] <;> omega) mI
        ·intro h49;refine yC I (lY I I I (gR I I) (lY I I I (wF I I) (lY I I I (wT I I) (yF I (lA I (nL ?_))))));exact za8 (by simp_all[bB,aW] <;> omega) mI
       ·intro h46;refine yA I (yA I (yA I (yB I (yB I (yA I (lY I I I (wF I I) (yF I (lA I (nL ?_)))))))));exact za8 (by simp_all[bB,aW] <;> omega) mI
     ·intro h37;refine yA I (yA I (lY I I I (wF I I) (yF I (lM I (lY I I I (fA am I zT3 I) (SL.gq (gT I I I dC) (qL iT3 I (cO 0 I I)) dC (lY I I I (gR I I) (yC I ?_))))))));refine sP ?_ ?_
      ·intro h46;refine yC I (lY I I I (lS I I) (yC I ?_));refine sP ?_ ?_
       ·intro h49;refine yA I (yA I (lY I I I (wT I I) (lY I I I (wT I I) (yF I (lA I (nL ?_))))));exact za8 (by simp_all[bB,aW] <;> omega) mI
       ·intro h49;refine yC I (lY I I I (gR I I) (lY I I I (wF I I) (lY I I I (wT I I) (yF I (lA I (nL ?_))))));exact za8 (by simp_all[bB,aW] <;> omega) mI
      ·intro h46;refine yA I (yA I (yA I (yB I (yB I (yA I (lY I I I (wF I I) (yF I (lA I (nL ?_)))))))));exact za8 (by simp_all[bB,aW] <;> omega) mI
   ·intro h29;refine yA I (yA I (yF I (lM I (lY I I I (fA am I zT3 I) (SL.gq (gT I I I dC) (qL iT3 I (cO 0 I I)) dC (lY I I I (eQ I I) (yC I ?_)))))));refine sP ?_ ?_
    ·intro h37;refine yC I (lY I I I (nQ I I) (lY I I I (wT I I) (yF I (lM I ?_))));refine sP ?_ ?_
     ·intro h42;refine yA I (yA I (yA I (yA I (yB I (yB I (yB I (yB I (yB I (yB I (yA I (yP I (lA I (nL ?_)))))))))))));exact za8 (by simp_all[bB,aW] <;> omega) mI
     ·intro h42;refine lY I I I (fA am I zT3 I) (SL.gq (gT I I I dC) (qL iT3 I (cO 0 I I)) dC (lY I I I (gR I I) (yC I ?_)));refine sP ?_ ?_
      ·intro h46;refine yC I (lY I I I (lS I I) (yC I ?_));refine sP ?_ ?_
       ·intro h49;refine yA I (yA I (lY I I I (wT I I) (lY I I I (wT I I) (yF I (lA I (nL ?_))))));exact za8 (by simp_all[bB,aW] <;> omega) mI
       ·intro h49;refine yC I (lY I I I (gR I I) (lY I I I (wF I I) (lY I I I (wT I I) (yF I (lA I (nL ?_))))));exact za8 (by simp_all[bB,aW] <;> omega) mI
      ·intro h46;refine yA I (yA I (yA I (yB I (yB I (yA I (lY I I I (wF I I) (yF I (lA I (nL ?_)))))))));exact za8 (by simp_all[bB,aW] <;> omega) mI
    ·intro h37;refine yA I (yA I (lY I I I (wF I I) (yF I (lM I (lY I I I (fA am I zT3 I) (SL.gq (gT I I I dC) (qL iT3 I (cO 0 I I)) dC (lY I I I (gR I I) (yC I ?_))))))));refine sP ?_ ?_
     ·intro h46;refine yC I (lY I I I (lS I I) (yC I ?_));refine sP ?_ ?_
      ·intro h49;refine yA I (yA I (lY I I I (wT I I) (lY I I I (wT I I) (yF I (lA I (nL ?_))))));exact za8 (by simp_all[bB,aW] <;> omega) mI
      ·intro h49;refine yC I (lY I I I (gR I I) (lY I I I (wF I I) (lY I I I (wT I I) (yF I (lA I (nL ?_))))));exact za8 (by simp_all[bB,aW] <;> omega) mI
     ·intro h46;refine yA I (yA I (yA I (yB I (yB I (yA I (lY I I I (wF I I) (yF I (lA I (nL ?_)))))))));exact za8 (by simp_all[bB,aW] <;> omega) mI
  refine iQ I (fun hcb=>?_) (fun hcb=>?_)
  ·refine rZ (aT I (rE (bR (tR (dR (s':=s) uR ?_)))));exact za6 (.inl I) results36 I ⟨by unfold cz; rw[zf7 (by simp[hdb]),zf8 hcb],I,I⟩
  ·have hn64:c.sides.length≤64:=by
    simp[aW] at hcb
    rcases Int.lt_trichotomy c.dim 1 with h | h | h
    ·have:c.dim=0:=oM;have:=hcb.1.1 this;simp[this]
    ·have:=hcb.1.2 h;omega
    ·have:=hcb.2 h;omega
   refine kP (bN (tN (sQ (rZ (lU (fA am I aX I) (lK (qL bH I (cO 0 I I)) (lU (eN bF I) (lM I (tZ (bK ?_))))))))));refine oP (ι:=Nat) (fun k=>[(0,pp b 0),(3,pp b3 0),(5,vi c.sides.length),(56,.slice rp c.sides.length rcap),(57,vi c.sides.length),(58,vi k)]) (fun _=>g)
    (fun _=>pt b3 (.cells #[vi ri,vi c.dim,.slice rp c.sides.length rcap] 64 (0,0))::s) (fun k=>k≤c.sides.length∧(List.range k).any (hX tl c)=false) (fun k=>c.sides.length - k) 0
    sB rfl rfl ⟨zf4 _,by simp⟩ ?_
   rintro k ⟨hk,hno⟩;try dsimp only
   refine rZ (yL I (tZ (sQ ?_)));refine iP I (fun hlt=>?_) (fun hlt=>?_)
   ·have hkl:k<c.sides.length:=oM;have hb1:=hx0 oM;have hjx:c.sides[((k:Nat):Int).toNat]?=some c.sides[k]:=gE hkl;have hjx':c.sides[k]?=some c.sides[k]:=gE hkl;generalize c.sides[k]=y at *;obtain ⟨x,hx1,hx2,hx3⟩:=nN hall uo y.cell;obtain ⟨xi,xd,xp,xn,xc⟩:=x;have hxd:xd=((aG tl y.cell).getD fK).dim:=hx3.2.1;subst hxd;have hprev:(k:Int)>0→c.sides[((k:Int) - 1).toNat]?=some (c.sides.getD (k - 1) y):=fun h=>by
     have h1:((k:Int) - 1).toNat=k - 1:=oM;have h2:k - 1<c.sides.length:=oM;rw[h1,gE h2,zg8,gE h2];rfl
    have hprev2:(k:Int)>0→c.sides[k - 1]?=some (c.sides.getD (k - 1) y):=fun h=>by
     have h2:k - 1<c.sides.length:=oM;rw[gE h2,zg8,gE h2];rfl
    refine kP (tN (sQ (bK (sW I (lU (iA bF bJ I I hb1 oM sL) (lK (eA mD bJ I hcs.rd hjx) (bW (aL zk7) fun b7=>?_)))))));refine lA I (oZ (sK 0 bJ I I I I I sB) ?_);refine tZ (sQ ?_);refine dW [11,12] [(0,2),(1,2),(2,2),(3,1),(4,2),(5,1),(6,1),(7,2),(8,2),(9,2),(10,0),(11,0),(12,0)] ze1 kR ?_;refine yM I (pU I (nC I) (pU I (fA oK I sizeOf99 I) (pK I (qL isAgg99 I (cK hb I)) (pU I (fA de I zT3 I) (pK I (qL iT3 I (cO 0 I I)) (pK I (SQ.eq (v':=.tuple #[rcv ⟨xi,((aG tl y.cell).getD fK).dim,xp,xn,xc⟩,vb (decide ((aG tl y.cell).isSome=true))]) (SQ.lookupOk mty99 I I (dB.known hm)) (by rw[hx1,hx2,Bool.decide_eq_true]; rfl)) ?_))))));refine yM I (pU I (xT I I) (pU I (xT I I) (SP.o I (aL zk9) dC (.inr iR) ?_)));rintro _ _ _ ⟨b8,rfl,rfl,rfl⟩;refine SP.on I (sK 0 aw I I I I I sB) (.inl dC) ?_;rintro _ _ _ ⟨rfl,rfl⟩;refine oU I (aS I) dC (.inl dC) (pN (tN ?_));refine SC.cutB 98 (cj tl c k y) ?_ ?_
    ·refine dW [] [(0,2),(1,2),(2,2),(3,2),(4,1),(5,2),(6,1),(7,2),(8,2),(9,2),(10,2),(11,2),(12,2),(13,2),(14,2),(15,1),(16,2),(17,2),(18,2),(19,2),(20,1),(21,2),(22,1),(23,2),(24,2),(25,2)] ze1 kR ?_;refine yM I (pU I (SU.notP I) (yM I ?_));refine SP.split ?_ ?_
     ·intro h75;refine yG I (yI I (yG I (yI I (yG I (yG I (pU I (wT I I) (yM I (yG I (yG I (yG I (yH I (SP.off1 I (zb2 I I I dC) dC (yH I (yH I (yH I (yH I (SP.off1 I (zb2 I I I dC) dC (yH I (SP.off1 I (zb2 I I I dC) dC (yH I (yG I (pU I (wT I I) (pN ?_)))))))))))))))))))))));exact za8 (by exact zd9 (fun b=>some (Value.bool b)) (nM h75).symm) mI
     ·intro h75;refine zb1 I (gT I I I dC) (fA am I zT3 I) dC (SP.gq I (gT I I I dC) (qL iT3 I (cO 0 I I)) dC (zb1 I (gT I I I dC) (fA am I zT3 I) dC (SP.gq I (gT I I I dC) (qL iT3 I (cO 2 I I)) dC (zb1 I (gT I I I dC) (sU I I oM) dC (zb1 I (gT I I I dC) (nQ I I) dC (pU I (wF I I) (yM I ?_)))))));refine SP.split ?_ ?_
      ·intro h83;refine yG I (yG I (yG I (yH I (SP.off1 I (zb2 I I I dC) dC (yH I (yH I (yH I (yH I (SP.off1 I (zb2 I I I dC) dC (yH I (SP.off1 I (zb2 I I I dC) dC (yH I (yG I (pU I (wT I I) (pN ?_)))))))))))))));exact za8 (by exact zd9 (fun b=>some (Value.bool b)) (sX (zg7 h75) h83).symm) mI
      ·intro h83;refine yJ I (zb1 I (gT I I I dC) (gR I I) dC (yJ I ?_));refine SP.split ?_ ?_
       ·intro h86;refine zb1 I (gT I I I dC) (fA am I aX I) dC (SP.gq I (gT I I I dC) (qL bH I (cO 2 I I)) dC (yJ I (zb1 I (gT I I I dC) (sU I I oM) dC (zb1 I (gT I I I dC) (iA bF bJ I I (by assumption) oM (by (simp[slen]; omega))) dC ?_))));refine zb1 I (gT I I I dC) (fC de I zT3 I (by assumption)) dC ?_;refine SP.gq I (gT I I I dC) (aZ (o:=0) iT3 I hcs.rd (hprev h86) I) dC (zb1 I (gT I I I dC) (fA de I zT3 I) dC (SP.gq I (gT I I I dC) (qL iT3 I (cO 1 I I)) dC (zb1 I (gT I I I dC) (eQ I I) dC (zb1 I (gT I I I dC) (wT I I) dC (pU I (wF I I) (pN ?_))))));exact za8 (by exact zd9 (fun b=>some (Value.bool b)) (sS (zg7 h75) h83 h86 (hprev2 h86)).symm) mI
       ·intro h86;refine yG I (yI I (yG I (yG I (yG I (yG I (yI I (yG I (yI I (yG I (zb1 I (gT I I I dC) (wF I I) dC (pU I (wF I I) (pN ?_))))))))))));exact za8 (by exact zd9 (fun b=>some (Value.bool b)) (sV (zg7 h75) h83 h86).symm) mI
    have hbat:hX tl c k=cj tl c k y:=by unfold hX; rw[hjx']
    refine iQ I (fun hbad=>?_) (fun hbad=>?_)
    ·refine rZ (aT I (rE (bR (tR (tR (bR (tR (dR (s':=s) uR ?_))))))));have hany:(List.range c.sides.length).any (hX tl c)=true:=zj4.2 ⟨k,List.mem_range.2 hkl,by rw[hbat]; exact hbad⟩;exact za6 (.inl I) results36 I ⟨by unfold cz; rw[zf7 (by simp[hdb]),zf7 (by simp[hcb]),zf8 hany],I,I⟩
    ·refine kP (bN (tN (rG (yD I (lM I (nL (dR (s':=pt b3 (.cells #[vi ri,vi c.dim,.slice rp c.sides.length rcap] 64 (0,0))::s) (.cons _ (.cons _ (.refl _))) ?_)))))));exact gA (k+1) sB I I ⟨oM,by rw[List.range_succ,List.any_append,hno]; simp[hbat,hbad]⟩ oM
   ·refine xI (tX (tX (bX (tN (rZ (aT I (sQ (rZ (lU (fA am I aX I) (lK (qL bH I (cO 0 I I)) (lU (eN bF I) (lM I (tZ (bK ?_))))))))))))));have hkk:k=c.sides.length:=oM;subst hkk;refine oP (ι:=Nat) (fun k=>[(3,pp b3 0),(10,vi (mC (c.sides.take k))),(101,.slice rp c.sides.length rcap),(102,vi c.sides.length),(103,vi k)]) (fun _=>g)
     (fun _=>pt b3 (.cells #[vi ri,vi c.dim,.slice rp c.sides.length rcap] 64 (0,0))::s) (fun k=>k≤c.sides.length∧(c.sides.take k).any bL=false) (fun k=>c.sides.length - k) 0
     sB rfl rfl ⟨zf4 _,by simp⟩ ?_
    rintro k ⟨hk2,hns⟩;try dsimp only
    have hsb:=wV hns;have htl:(c.sides.take k).length=k:=by simp; omega
    refine rZ (yL I (tZ (sQ ?_)));refine iP I (fun hlt2=>?_) (fun hlt2=>?_)
    ·have hkl:k<c.sides.length:=oM;have hb1:=hx0 oM;have hjx:c.sides[((k:Nat):Int).toNat]?=some c.sides[k]:=gE hkl;have htk:c.sides.take (k+1)=c.sides.take k++[c.sides[k]]:=tS hkl;have hmemy:c.sides[k]∈c.sides:=gM hkl;generalize c.sides[k]=y at *;refine kP (tN (sQ (bK (rZ (lU (iA bF bJ I I hb1 oM sL) (lK (eA mD bJ I hcs.rd hjx) (bW (aL zk7) fun b12=>?_)))))));refine oZ (sK 0 bJ I I I I I sB) ?_;refine tZ (sQ ?_);refine SC.cutB 114 (bL y) ?_ ?_
     ·refine rG (lU (fA de I zT3 I) (lK (qL iT3 I (cO 0 I I)) (lU (nQ I I) (lM I ?_))));refine sP ?_ ?_
      ·intro h110;refine lY I I I (fA de I zT3 I) (SL.gq (gT I I I dC) (qL iT3 I (cO 0 I I)) dC (lY I I I (nQ I I) (yP I (nL ?_))));exact za8 (by exact zd9 (fun b=>some (Value.bool b)) (rX h110).symm) mI
      ·intro h110;refine yA I (yA I (yA I (yF I (nL ?_))));exact za8 (by exact zd9 (fun b=>some (Value.bool b)) (rW h110).symm) mI
     refine iQ I (fun hsg=>?_) (fun hsg=>?_)
     ·refine rZ (aT I (rE (tR (bR (tR (tR (bR (tR (dR (s':=s) uR ?_)))))))));have hany:c.sides.any bL=true:=zj4.2 ⟨y,hmemy,hsg⟩;exact za6 (.inl I) results36 I ⟨by unfold cz; rw[zf7 (by simp[hdb]),zf7 (by simp[hcb]),zf7 (by simp[hno]),zf8 hany],I,I⟩
     ·have hyb:y.sign=1∨y.sign = -1:=by
       simp only[bL,Bool.and_eq_false_iff,decide_eq_false_iff_not,ne_eq,Decidable.not_not] at hsg;exact hsg
      refine kP (tN (rG (lM I (lU (fA de I zT3 I) (lK (qL iT3 I (cO 0 I I)) (lU (aD (m:=mC (c.sides.take k)) (n:=y.sign) I I oM) (lA I (nL (bN (tN (rG (yD I (lM I (nL (dR (s':=pt b3 (.cells #[vi ri,vi c.dim,.slice rp c.sides.length rcap] 64 (0,0))::s) (.cons _ (.refl _)) ?_)))))))))))))));exact gA (k+1) ⟨I,Eo I (by rw[htk]; simp[mC]),I,I,I,trivial⟩ I I ⟨oM,by rw[htk,List.any_append,hns]; simp[hsg]⟩ oM
    ·have hkk:c.sides.take k=c.sides:=tL oM;rw[hkk] at hns;rw[hkk];refine xI (tX (tX (bX (tN (sQ ?_)))));refine SC.cutB 126 ((decide (c.dim=1)&&decide (mC c.sides≠0))) ?_ ?_
     ·refine rG (lU (fA am I zT3 I) (lK (qL iT3 I (cO 0 I I)) (yE I (lM I ?_))));refine sP ?_ ?_
      ·intro h123;refine yC I (lY I I I (nQ I I) (yP I (nL ?_)));exact za8 (by simp_all[bB]) mI
      ·intro h123;refine yA I (yA I (yF I (nL ?_)));exact za8 (by simp_all[bB]) mI
     refine iQ I (fun hend=>?_) (fun hend=>?_)
     ·refine rZ (aT I (rE (tR (dR (s':=s) uR ?_))));exact za6 (.inl I) results36 I ⟨by unfold cz; rw[zf7 (by simp[hdb]),zf7 (by simp[hcb]),zf7 (by simp[hno]),zf7 (by simp[hns]),zf8 hend],I,I⟩
     ·refine kP (tN (rZ (aT I (rE (dR (s':=s) uR ?_)))));exact za6 (.inl I) results36 I ⟨by unfold cz; rw[zf7 (by simp[hdb]),zf7 (by simp[hcb]),zf7 (by simp[hno]),zf7 (by simp[hns]),zf7 (by rw[hend]; simp)],I,I⟩
theorem Tryz.mty80:MTy Tryz.prog 80 3 3 (vi 0):=⟨underlying80,underlying3,zk6⟩
theorem Tryz.mty138:MTy Tryz.prog 138 3 25 (.slice none 0 0):=⟨underlying138,underlying3,zeroValue25⟩
abbrev Ms:=List (Int×Value×List Int)
def e7 (ms:Ms):Own:=ms.map fun t=>rowA encInt 3 t.2.1 t.2.2
def iJ (ms:Ms):List (Int×Value):=ms.map fun t=>(t.1,t.2.1)
def fL (ms:Ms):List (Int×List Int):=ms.map fun t=>(t.1,t.2.2)
def fo:List (Int×List Int)→Int→Int→List (Int×List Int)
 | [],k,x=>[(k,[x])]
 | (a,l)::r,k,x=>if k=a then (a,l++[x])::r else (a,l)::fo r k x
def gh:List (Int×Int)→Int→Int→List (Int×Int)
 | [],k,x=>[(k,x)]
 | (a,z)::r,k,x=>if k=a then (a,z+x)::r else (a,z)::gh r k x
def gP:List (Int×Int)→Int→Int
 | [],_=>0
 | (a,z)::r,k=>if k=a then z else gP r k
def qU (zl:List (Int×Int)):List (Int×Value):=zl.map fun p=>(p.1,vi p.2)
theorem BN (zl:List (Int×Int))(k:Int):(fj (qU zl) k).getD (vi 0)=vi (gP zl k):=by
 induction zl with
 | nil=>rfl
 | cons p r ih =>
  obtain ⟨a,z⟩:=p;simp only[qU,zg2,bI,gP] at ih ⊢;split
  ·rfl
  ·exact ih
theorem Ci (zl:List (Int×Int))(k x:Int):jC (qU zl) k (vi (gP zl k+x))=qU (gh zl k x):=by
 induction zl with
 | nil=>simp[qU,jC,gh,gP]
 | cons p r ih =>
  obtain ⟨a,z⟩:=p;simp only[qU,zg2,jC,gP,gh] at ih ⊢;split
  ·rename_i h; subst h; rfl
  ·simp only[zg2,ih]
theorem xF {zl:List (Int×Int)}{B:Int}(hB:0≤B)(h:∀ p∈zl,-B≤p.2∧p.2≤B)(k:Int) : -B≤gP zl k∧gP zl k≤B:=by
 induction zl with
 | nil=>simp only[gP]; omega
 | cons p r ih =>
  obtain ⟨a,z⟩:=p;simp only[gP];split
  ·exact h (a,z) (by simp)
  ·exact ih fun q hq=>h q (by simp[hq])
theorem x1 {zl:List (Int×Int)}{B:Int}(hB:0≤B)(h:∀ p∈zl,-B≤p.2∧p.2≤B)(k:Int){x:Int}(hx : -1≤x∧x≤1):∀ p∈gh zl k x,-(B+1)≤p.2∧p.2≤B+1:=by
 induction zl with
 | nil =>
  intro p hp;simp only[gh,zh5] at hp;subst hp;dsimp only;omega
 | cons q r ih =>
  obtain ⟨a,z⟩:=q;intro p hp;simp only[gh] at hp;have h0:=h (a,z) (by simp);dsimp only at h0;split at hp
  ·rcases ze8.1 hp with rfl | hp
   ·dsimp only; omega
   ·have:=h p (by simp[hp]); omega
  ·rcases ze8.1 hp with rfl | hp
   ·dsimp only; omega
   ·exact ih (fun q hq=>h q (by simp[hq])) p hp
theorem EC (ms:Ms)(k:Int):∃ (ms':Ms) (j:Nat) (v:Value) (l:List Int),ms'[j]?=some (k,v,l)∧(fj (iJ ms) k).getD (.slice none 0 0)=v∧(∀ v' x,jC (iJ ms) k v'=iJ (ms'.set j (k,v',l++[x]))) ∧
  (∀ v' x,fL (ms'.set j (k,v',l++[x]))=fo (fL ms) k x)∧(∀ B,(∀ t∈ms,t.2.2.length≤B)→∀ t∈ms',t.2.2.length≤B)∧∀ E g (hd s:Own) w,At E g (hd++(e7 ms++s)) w→At E g (hd++(e7 ms'++s)) w:=by
 induction ms with
 | nil =>
  refine⟨[(k,.slice none 0 0,[])],0,.slice none 0 0,[],I,I,fun v' x=>I,fun v' x=>by simp[fL,fo],fun B _ t ht=>by simp at ht; subst ht; simp,fun E g hd s w h=>?_⟩;have h1:=h.nilRow 3 1;refine h1.perm ?_;simp only[e7,List.map_nil,List.nil_append,zg2,List.singleton_append];exact List.perm_middle.symm
 | cons p r ih =>
  obtain ⟨a,u,l0⟩:=p;by_cases hk:k=a
  ·subst hk;refine⟨(k,u,l0)::r,0,u,l0,I,by simp[iJ,bI],fun v' x=>by simp[iJ,jC],fun v' x=>by simp[fL,fo],fun B h=>h,fun E g hd s w h=>h⟩
  ·obtain ⟨ms',j,v,l,h1,h2,h3,h4,h6,h5⟩:=ih;refine⟨(a,u,l0)::ms',j+1,v,l,by simpa using h1,?_,fun v' x=>?_,fun v' x=>?_,fun B h t ht=>?_,fun E g hd s w h=>?_⟩
   ·rw[← h2];simp[iJ,bI,hk]
   ·have:=h3 v' x;simp only[iJ,zg2,jC,List.set_cons_succ] at this ⊢;rw[zf7 hk,this]
   ·have:=h4 v' x;simp only[fL,zg2,fo,List.set_cons_succ] at this ⊢;rw[zf7 hk,this]
   ·rcases ze8.1 ht with rfl | ht
    ·exact h _ (by simp)
    ·exact h6 B (fun t ht=>h t (by simp[ht])) t ht
   ·have:=h5 E g (hd++[rowA encInt 3 u l0]) s w (by simpa [e7] using h);simpa [e7] using this
theorem SC.to {P:Program}{N:Nat}{E:World}{c:Code}{Q:Exit→Act→World→Prop}{f:Fr}{g g':PH}{s s':Own}(h:∀ w,At E g s w→At E g' s' w)(hc:SC P N E c Q f g' s'):SC P N E c Q f g s:=fun a w ha hw=>hc a w ha (h w hw)
theorem ST.to {N:Nat}{E:World}{e:Exit}{Q:Exit→Act→World→Prop}{f:Fr}{g g':PH}{s s':Own}(h:∀ w,At E g s w→At E g' s' w)(hc:ST N E Q e f g' s'):ST N E Q e f g s:=fun a w ha hw=>hc a w ha (h w hw)
theorem SL.to {P:Program}{N:Nat}{E:World}{ops:Array Oper}{l:List Oper}{Q:Exit→Act→World→Prop}{f:Fr}{g g':PH}{s s':Own}(h:∀ w,At E g s w→At E g' s' w)(hc:SL P N E ops Q l f g' s'):SL P N E ops Q l f g s:=fun a w ha hw=>hc a w ha (h w hw)
theorem dH {α:Type}(s:List α)(n j:Nat)(x:α):(s.take n).Sublist (s.set (j+n) x):=by
 rw[show s.take n=(s.set (j+n) x).take n by rw[List.take_set_of_le oM]];exact List.take_sublist _ _
theorem SC.drawT {P:Program}{N:Nat}{E:World}{ops:Array Oper}{Q:Exit→Act→World→Prop}{f:Fr}{g:PH}{s:Own}{id:Nat}(n:Nat)(tail:List Nat)(plan:List (Nat×Nat))(hm:P.follows .mixedOrders=true)(hok:uw ops tail plan=true)
  (h:SP P N E ops Q g (s.take n) tail plan f g s):SC P N E (.region id ops true) Q f g s:=by
 intro a w ha hw;unfold uw at hok;simp only[zi9,beq_iff_eq] at hok;refine wp_region_any hm (jp _ _ _ _ (S:=At E g (s.take n)) (tail:=tail) ?_);have:=h (Array.replicate ops.size false) a { w with drawn:=w.drawn+1 } hok.1.1 (j3 _) hok.2 ha (hw.drew _ (Nat.le_succ _)) (fun _=>(hw.sublist (List.take_sublist n s)).drew _ (Nat.le_succ _));rw[hok.1.2] at this;exact this
theorem qx {ms:Ms}{j:Nat}{k:Int}{v:Value}{l:List Int}(h:ms[j]?=some (k,v,l))(s:Own):(e7 ms++s)[j]?=some (rowA encInt 3 v l):=by
 have hj:=(zf3.1 h).1;rw[zg9 (by simpa [e7] using hj)];simp[e7,h]
theorem qw {ms:Ms}{j:Nat}{k:Int}{v v':Value}{l l':List Int}(h:ms[j]?=some (k,v,l))(s:Own):(e7 ms++s).set j (rowA encInt 3 v' l')=e7 (ms.set j (k,v',l'))++s:=by
 have hj:=(zf3.1 h).1;rw[List.set_append_left _ _ (by simpa [e7] using hj)];simp[e7,List.map_set]
theorem freezeRows {E:World}{w:World}:∀ (ms:Ms) (g:PH) (s:Own),At E g (e7 ms++s) w→∃ g',Le g g'∧At E g' s w∧∀ t∈ms,bZ g' t.2.1 t.2.2
 | [],g,s,h=>⟨g,zb7 g,h,by simp⟩
 | (a,v,l)::r,g,s,h=>by
  have h':At E g (row 3 1 v l.length (l.flatMap encInt.enc)::(e7 r++s)) w:=h;obtain ⟨g1,hl1,h1,h2⟩:=h'.freezeRow;obtain ⟨g2,hl2,h3,h4⟩:=freezeRows r g1 s h1;refine⟨g2,hl1.trans hl2,h3,fun t ht=>?_⟩
  rcases ze8.1 ht with rfl | ht
  ·exact Sl.mono h2 hl2
  ·exact h4 t ht
theorem SC.freezeRows {P:Program}{N:Nat}{E:World}{c:Code}{Q:Exit→Act→World→Prop}{f:Fr}{g:PH}{s:Own}{ms:Ms}(h:∀ g',Le g g'→(∀ t∈ms,bZ g' t.2.1 t.2.2)→SC P N E c Q f g' s):SC P N E c Q f g (e7 ms++s):=fun a w ha hw=>by
 obtain ⟨g',h1,h2,h3⟩:=Go.Proofs.YtcfkpajlakidbaaGreatDoor.freezeRows ms g s hw;exact h g' h1 h3 a w ha h2
def dfs (adj:Int→Option (List Int)):Nat→Int→List Int→List Int
 | 0,_,vis=>vis
 | n+1,id,vis =>
  match adj id with
  | none=>vis
  | some l=>if vis.contains id then vis else l.foldl (fun v x=>dfs adj n x v) (vis++[id])
theorem i8 (adj:Int→Option (List Int))(n:Nat)(id:Int)(vis:List Int):dfs adj (n+1) id vis=(match adj id with
  | none=>vis
  | some l=>if vis.contains id then vis else l.foldl (fun v x=>dfs adj n x v) (vis++[id])):=rfl
theorem qm (adj:Int→Option (List Int)):∀ (n:Nat) (id:Int) (vis:List Int) (x:Int),x∈vis→x∈dfs adj n id vis
 | 0,_,_,_,h=>h
 | n+1,id,vis,x,h=>by
  unfold dfs;split
  ·exact h
  ·split
   ·exact h
   ·have:∀ (l:List Int) (v:List Int),x∈v→x∈l.foldl (fun v y=>dfs adj n y v) v:=by
     intro l;induction l with
     | nil=>intro v hv; exact hv
     | cons y t ih=>intro v hv; exact ih _ (qm adj n y v x hv)
    exact this _ _ (by simp[h])
def eE:List (Int×List Int)→Int→List Int
 | [],_=>[]
 | (a,l)::r,k=>if k=a then l else eE r k
def A4 (jl:List (Int×List Int))(k:Int):Bool:=jl.any fun p=>decide (p.1=k)
theorem sk {jl:List (Int×List Int)}{k:Int}(h:A4 jl k=false):eE jl k=[]:=by
 induction jl with
 | nil=>rfl
 | cons p r ih =>
  obtain ⟨a,l⟩:=p;simp only[A4,List.any_cons,Bool.or_eq_false_iff,decide_eq_false_iff_not] at h;simp only[eE];rw[zf7 (fun e=>h.1 e.symm)];exact ih h.2
def m5 (jl:List (Int×List Int))(vis:List Int):Nat:=(jl.filter fun p=>!vis.contains p.1).length
theorem iY {tl:List (Int×List Int)}{v v':List Int}(h:∀ x∈v,x∈v'):m5 tl v'≤m5 tl v:=by
 unfold m5;rw[← List.countP_eq_length_filter,← List.countP_eq_length_filter];apply List.countP_mono_left;intro c _ hp;simp at hp ⊢;exact fun e=>hp (h _ e)
theorem zk {tl:List (Int×List Int)}{v:List Int}{k:Int}(hc:A4 tl k=true)(hn:v.contains k=false):m5 tl (v++[k])<m5 tl v:=by
 induction tl with
 | nil=>simp[A4] at hc
 | cons d t ih =>
  have hm:m5 t (v++[k])≤m5 t v:=iY (fun x hx=>by simp[hx]);have e1:∀ u:List Int,m5 (d::t) u=(if u.contains d.1 then 0 else 1)+m5 t u:=fun u=>by
   unfold m5;rw[zi4];cases u.contains d.1 <;> simp <;> omega
  rw[e1,e1];simp only[A4,List.any_cons,Bool.or_eq_true,zj1] at hc
  rcases hc with rfl | hc'
  ·have:(v++[d.1]).contains d.1=true:=by simp
   rw[this,hn];simp;omega
  ·have:=ih hc';cases h1:v.contains d.1
   ·cases h2:(v++[k]).contains d.1 <;> simp <;> omega
   ·have h2:(v++[k]).contains d.1=true:=by simp at h1 ⊢; exact .inl h1
    rw[h2];simp;exact this
theorem Ae {g:PH}(js:Ms)(h:∀ t∈js,bZ g t.2.1 t.2.2)(k:Int):∃ v,(fj (iJ js) k).getD (.slice none 0 0)=v∧bZ g v (eE (fL js) k):=by
 induction js with
 | nil=>exact⟨_,rfl,zb8 g _⟩
 | cons p r ih =>
  obtain ⟨a,u,l⟩:=p;by_cases hk:k=a
  ·subst hk;exact⟨u,by simp[iJ,bI],by simpa [fL,eE] using h (k,u,l) (by simp)⟩
  ·obtain ⟨v,h1,h2⟩:=ih fun t ht=>h t (by simp[ht]);exact⟨v,by simpa [iJ,bI,hk] using h1,by simpa [fL,eE,hk] using h2⟩
def jd (jl:List (Int×List Int))(i:Int):Option (List Int):=some (eE jl i)
theorem wP (E:World)(g:PH)(bs bj bf m mj:Nat)(js:Ms)(hj:Mp g mj (iJ js))(hjs:∀ t∈js,bZ g t.2.1 t.2.2)(hlen:∀ t∈js,t.2.2.length<1099511627776)(h1:g bs=some (.cells #[.map (some m)] 139 (0,0)))(h2:g bj=some (.cells #[.map (some mj)] 138 (0,0)))
  (h3:g bf=some (.cells #[.func (.func 89) #[] #[pp bs 0,pp bj 0,pp bf 0]] 133 (0,0))):∀ (n:Nat) (id:Int) (vis:List Int) (s:Own) (i:Nat),m5 (fL js) vis<n→s[i]?=some (mp m (lI vis)) →
  Ctr Tryz.prog E 89 #[vi id,pp bs 0,pp bj 0,pp bf 0] g s (fun _ g' s'=>g=g'∧s'=s.set i (mp m (lI (dfs (jd (fL js)) n id vis)))):=by
 intro n;induction n with
 | zero=>intro id vis s i h; omega
 | succ n ih =>
 intro id vis s i hcnt hi;obtain ⟨v,hv1,hv2⟩:=Ae js hjs id;have hvl:(eE (fL js) id).length<1099511627776:=by
  have:∀ q:Ms,(∀ t∈q,t.2.2.length<1099511627776)→(eE (fL q) id).length<1099511627776:=by
   intro q hq;induction q with
   | nil=>simp[fL,eE]
   | cons p r ihq =>
    obtain ⟨a,u,l⟩:=p;simp only[fL,zg2,eE];split
    ·exact hq (a,u,l) (by simp)
    ·exact ihq fun t ht=>hq t (by simp[ht])
  exact this js hlen
 generalize hL:eE (fL js) id=L at hv2 hvl;obtain ⟨p,cp,rfl⟩:=za2 hv2;refine za9 (args:=[vi id,pp bs 0,pp bj 0,pp bf 0]) func89 I ntmps89 (bE I) ?_;refine rZ (lK (qL isAgg139 I (cK h1 I)) (lM I (lK (SQ.eq (v':=vb (vis.contains id)) (SQ.lookup mty139 I I (dB.own i hi)) ((vX vis).get id)) (lU (SU.not I) (tZ ?_)))));refine iQ I (fun hc=>?_) (fun hc=>?_)
 ·have hnv:vis.contains id=false:=by simpa using hc
  refine rZ (lK (qL isAgg139 I (cK h1 I)) (lM I (lO (SO.mapUpdate i mty139 I I I hi) ?_)));rintro _ _ _ ⟨rfl,rfl⟩;rw[vY hnv];refine tZ (rZ (lK (qL isAgg138 I (cK h2 I)) (lM I (lK (SQ.eq (SQ.lookup mty138 I I (dB.known hj)) hv1) (lU (eN ak I) (lM I (tZ (bK ?_))))))));refine oP (ι:=Nat×List Int) (fun q=>[(3,pp bf 0),(15,.slice p L.length cp),(16,vi L.length),(17,vi q.1)]) (fun _=>g)
   (fun q=>s.set i (mp m (lI q.2))) (fun q=>q.1≤L.length∧q.2=(L.take q.1).foldl (fun v x=>dfs (jd (fL js)) n x v) (vis++[id])∧(0<L.length→m5 (fL js) q.2<n)) (fun q=>L.length - q.1)
   (0,vis++[id]) sB rfl rfl ⟨zf4 _,by simp,fun hpos=>?_⟩ ?_
  ·cases hh:A4 (fL js) id with
   | false =>
    rw[sk hh] at hL;rw[← hL] at hpos;simp at hpos
   | true =>
    have:=zk hh hnv;dsimp only;omega
  rintro ⟨j,vj⟩ ⟨hj1,hvj,hcj⟩;dsimp only at hj1 hvj hcj ⊢;refine rZ (yL I (tZ (sQ ?_)));refine iP I (fun hlt=>?_) (fun hlt=>?_)
  ·have hjl:j<L.length:=oM;have hb1:=za4 hv2 oM;have hjx:L[((j:Nat):Int).toNat]?=some L[j]:=gE hjl;have hjx':L[j]?=some L[j]:=gE hjl;generalize L[j]=y at *;refine kP (tN (sQ (bK (rZ (lU (iA ak zT3 I I hb1 oM sL) (lK (eB iT3 I (za5 hv2) hjx I) (aT I (rG (lK (qL isAgg133 I (cK h3 I)) (lM I (lW (SO.callV I I (dn.mk (cap:=[pp bs 0,pp bj 0,pp bf 0]) call89 (ih y vj _ i (hcj oM) (y8 hi _)))) ?_)))))))))));rintro _ _ _ ⟨rfl,rfl⟩;refine nL (bN (tN (rG (yD I (lM I (nL ?_))))));exact gA (j+1,dfs (jd (fL js)) n y vj) sB I (by rw[List.set_set]) ⟨lN,by
    rw[fe hjx',zi6,← hvj]; rfl,fun h=>Nat.lt_of_le_of_lt (iY fun x hx=>qm _ n _ _ x hx) (hcj h)⟩ lN
  ·refine xI (tX (tX (bX ?_)));have hjj:L.take j=L:=tL oM;have hr:dfs (jd (fL js)) (n+1) id vis=vj:=by
    rw[hjj] at hvj;rw[hvj,i8];simp only[jd,hL,hnv,Bool.false_eq_true,if_false]
   exact ST.ret0 (.inr I) results89 ⟨I,by rw[hr]⟩
 ·refine kP ?_;have hin:vis.contains id=true:=by simpa using hc
  have hr:dfs (jd (fL js)) (n+1) id vis=vis:=by
   rw[i8];simp only[jd,hin,if_true]
  exact ST.ret0 (.inr I) results89 ⟨I,by rw[hr,mP hi]⟩
inductive Rch (adj:Int→Option (List Int)):Int→Int→Prop
 | refl (a:Int) (h:adj a≠none):Rch adj a a
 | step (a b c:Int) (l:List Int) (h:adj a=some l) (hb:b∈l) (r:Rch adj b c):Rch adj a c
theorem Rch.node {adj:Int→Option (List Int)}{a b:Int}(h:Rch adj a b):adj a≠none:=by
 cases h with
 | refl _ h=>exact h
 | step _ _ _ l h _ _=>rw[h]; simp
theorem nF (adj:Int→Option (List Int)):∀ (n:Nat) (id:Int) (vis:List Int) (x:Int),x∈dfs adj n id vis→x∈vis∨Rch adj id x
 | 0,_,_,_,h=>.inl h
 | n+1,id,vis,x,h=>by
  rw[i8] at h;cases ha:adj id with
  | none=>rw[ha] at h; exact .inl h
  | some l =>
   rw[ha] at h;dsimp only at h;split at h
   ·exact .inl h
   ·have key:∀ (q:List Int) (v:List Int),(∀ y∈q,y∈l)→x∈q.foldl (fun v y=>dfs adj n y v) v→x∈v∨Rch adj id x:=by
     intro q;induction q with
     | nil=>intro v _ hx; exact .inl hx
     | cons y t ih =>
      intro v hq hx
      rcases ih _ (fun z hz=>hq z (by simp[hz])) hx with h1 | h1
      ·rcases nF adj n y v x h1 with h2 | h2
       ·exact .inl h2
       ·exact .inr (.step id y x l ha (hq y (by simp)) h2)
      ·exact .inr h1
    rcases key l _ (fun y hy=>hy) h with h1 | h1
    ·rcases zf1.1 h1 with h2 | h2
     ·exact .inl h2
     ·simp at h2;subst h2;exact .inr (.refl _ (by rw[ha]; simp))
    ·exact .inr h1
theorem iX (adj:Int→Option (List Int)):∀ (n:Nat) (id:Int) (vis:List Int),vis.Nodup→(dfs adj n id vis).Nodup
 | 0,_,_,h=>h
 | n+1,id,vis,h=>by
  rw[i8];cases adj id with
  | none=>exact h
  | some l =>
   dsimp only;split
   ·exact h
   ·rename_i hc;have key:∀ (q:List Int) (v:List Int),v.Nodup→(q.foldl (fun v y=>dfs adj n y v) v).Nodup:=by
     intro q;induction q with
     | nil=>intro v hv; exact hv
     | cons y t ih=>intro v hv; exact ih _ (iX adj n y v hv)
    refine key l _ ?_;rw[List.nodup_append];refine⟨h,by simp,fun a ha b hb e=>hc ?_⟩;simp at hb;subst hb;simpa [← e] using ha
theorem jj (adj:Int→Option (List Int))(cnt:List Int→Nat)(hm:∀ v v',(∀ x∈v,x∈v')→cnt v'≤cnt v)(hs:∀ v k l,adj k=some l→l≠[]→v.contains k=false→cnt (v++[k])<cnt v) :
  ∀ (n:Nat) (id:Int) (vis:List Int),cnt vis<n→(adj id≠none→id∈dfs adj n id vis)∧∀ x∈dfs adj n id vis,x ∉ vis→∀ l,adj x=some l→∀ y∈l,adj y≠none→y∈dfs adj n id vis
 | 0,_,_,h=>absurd h oM
 | n+1,id,vis,hc=>by
  rw[i8];cases ha:adj id with
  | none=>exact⟨fun h=>absurd rfl h,fun x hx hn=>absurd hx hn⟩
  | some l =>
   dsimp only;split
   ·rename_i hin;exact⟨fun _=>by simpa using hin,fun x hx hn=>absurd hx hn⟩
   ·rename_i hin;have hin':vis.contains id=false:=by simpa using hin
    have key:∀ (q:List Int) (v:List Int),(∀ x∈vis++[id],x∈v)→(∀ x∈v,x ∉ vis++[id]→∀ l,adj x=some l→∀ y∈l,adj y≠none→y∈v)→(q≠[]→cnt v<n) →
      (∀ x∈v,x∈q.foldl (fun v y=>dfs adj n y v) v)∧(∀ y∈q,adj y≠none→y∈q.foldl (fun v y=>dfs adj n y v) v) ∧
      ∀ x∈q.foldl (fun v y=>dfs adj n y v) v,x ∉ vis++[id]→∀ l,adj x=some l→∀ y∈l,adj y≠none→y∈q.foldl (fun v y=>dfs adj n y v) v:=by
     intro q;induction q with
     | nil=>intro v _ h2 _; exact⟨fun x hx=>hx,by simp,h2⟩
     | cons y t ih =>
      intro v h1 h2 h3;have hcv:=h3 (by simp);obtain ⟨d1,d2⟩:=jj adj cnt hm hs n y v hcv;have hsub:=qm adj n y v;have hcl:∀ x∈dfs adj n y v,x ∉ vis++[id]→∀ l,adj x=some l→∀ z∈l,adj z≠none→z∈dfs adj n y v:=by
       intro x hx hn l hl z hz hzn;by_cases hxv:x∈v
       ·exact hsub z (h2 x hxv hn l hl z hz hzn)
       ·exact d2 x hx hxv l hl z hz hzn
      obtain ⟨e1,e2,e3⟩:=ih (dfs adj n y v) (fun x hx=>hsub x (h1 x hx)) hcl (fun _=>Nat.lt_of_le_of_lt (hm _ _ hsub) hcv);simp only[zi5];refine⟨fun x hx=>e1 x (hsub x hx),fun z hz hzn=>?_,e3⟩
      rcases ze8.1 hz with rfl | hz
      ·exact e1 z (d1 hzn)
      ·exact e2 z hz hzn
    obtain ⟨k1,k2,k3⟩:=key l (vis++[id]) (fun x hx=>hx) (fun x hx hn=>absurd hx hn) (fun hl=>by have:=hs vis id l ha hl hin'; omega);refine⟨fun _=>k1 id (by simp),fun x hx hn l' hl' y hy hyn=>?_⟩;by_cases hxv:x∈vis++[id]
    ·rcases zf1.1 hxv with h | h
     ·exact absurd h hn
     ·simp at h;subst h;rw[ha] at hl';injection hl' with hl'
      subst hl';exact k2 y hy hyn
    ·exact k3 x hx hxv l' hl' y hy hyn
theorem uh {adj:Int→Option (List Int)}{cnt:List Int→Nat}(hm:∀ v v',(∀ x∈v,x∈v')→cnt v'≤cnt v)(hs:∀ v k l,adj k=some l→l≠[]→v.contains k=false→cnt (v++[k])<cnt v){n:Nat}{id:Int}(hc:cnt []<n)(hn:adj id≠none)(x:Int) :
  x∈dfs adj n id []↔Rch adj id x:=by
 obtain ⟨d1,d2⟩:=jj adj cnt hm hs n id [] hc;refine⟨fun h=>(nF adj n id [] x h).resolve_left (by simp),fun h=>?_⟩;have key:∀ a b,Rch adj a b→a∈dfs adj n id []→b∈dfs adj n id []:=by
  intro a b hr;induction hr with
  | refl a _=>exact fun h=>h
  | step a b c l hl hb r ih=>exact fun h=>ih (d2 a h (by simp) l hl b hb r.node)
 exact key id x h (d1 hn)
theorem Rch.mono {adj adj':Int→Option (List Int)}(h:∀ x l,adj x=some l→∀ y∈l,∃ l',adj' x=some l'∧y∈l')(hn:∀ x,adj x≠none→adj' x≠none){a b:Int}(hr:Rch adj a b):Rch adj' a b:=by
 induction hr with
 | refl a h1=>exact .refl a (hn a h1)
 | step a b c l hl hb _ ih =>
  obtain ⟨l',h1,h2⟩:=h a l hl b hb;exact .step a b c l' h1 h2 ih
theorem j2 (jl:List (Int×List Int)):∀ v k l,jd jl k=some l→l≠[]→v.contains k=false→m5 jl (v++[k])<m5 jl v:=by
 intro v k l hl hne hv;refine zk ?_ hv;cases h:A4 jl k with
 | true=>rfl
 | false =>
  rw[jd,sk h] at hl;injection hl with hl
  exact absurd hl.symm hne
theorem sr (jl:List (Int×List Int))(a b x:Int):eE (fo jl a b) x=if x=a then eE jl x++[b] else eE jl x:=by
 induction jl with
 | nil=>simp[fo,eE]
 | cons p r ih =>
  obtain ⟨k,l⟩:=p;simp only[fo];by_cases h:a=k
  ·subst h;simp only[if_true,eE];split <;> rfl
  ·rw[zf7 h];simp only[eE,ih];by_cases hx:x=k
   ·subst hx;rw[zf8 rfl,zf8 rfl,zf7 (fun e=>h e.symm)]
   ·rw[zf7 hx,zf7 hx]
end Go.Proofs.YtcfkpajlakidbaaGreatDoor
