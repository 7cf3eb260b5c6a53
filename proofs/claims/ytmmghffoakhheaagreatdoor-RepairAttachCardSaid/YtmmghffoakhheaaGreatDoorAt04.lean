/- SyV Rep Eq Of Only Nam Tops Clo Shf Form Aro1 Vis Dfs -/
import Derived.Test.YtmmghffoakhheaaGreatDoorAt03
import Derived.Test.YtmmghffoakhheaaGreatDoorAt02
import Derived.Shelf.Sort.Plain
import Derived.Shelf.Slices.In.SortNone
import Derived.Sort.OwnSortedInts
set_option linter.unusedSimpArgs false
set_option linter.unusedVariables false
namespace Go.Sy
open Go
def mns (g' g:PH):PH:=fun b=>match g b with | none=>g' b | some _=>none
theorem mns_none {g' g:PH}{b:Nat}(h:g b=none):mns g' g b=g' b:=by simp only[mns,h]
theorem mns_some {g' g:PH}{b:Nat}{o:Obj}(h:mns g' g b=some o):g b=none∧g' b=some o:=by
 unfold mns at h;split at h
 ·rename_i e; exact⟨e,h⟩
 ·cases h
theorem mns_le (g' g:PH):Le (mns g' g) g':=fun _ _ h=>(mns_some h).2
theorem mns_mono {g g' g'':PH}(h:Le g' g''):Le (mns g' g) (mns g'' g):=fun b o hb=>by
 obtain ⟨h1,h2⟩:=mns_some hb;rw[mns_none h1]; exact h _ _ h2
theorem mns_anti {g0 g g':PH}(h:Le g0 g):Le (mns g' g) (mns g' g0):=fun b o hb=>by
 obtain ⟨h1,h2⟩:=mns_some hb;have:g0 b=none:=by
  cases h3:g0 b with
  | none=>rfl
  | some x=>rw[h _ _ h3] at h1; cases h1
 rw[mns_none this]; exact h2
section
variable {α:Type}{k:Nat}{e:Enc α k}{T U:TypeId}{g g':PH}{s:Own}{v:Value}{l:List α}
def RK (e:Enc α k)(T:TypeId)(g:PH)(v:Value)(l:List α):Prop:=(∃ p,v = .slice p 0 0∧l=[]) ∨
 ∃ b cap cur,v = .slice (some ⟨b,0,none⟩) l.length (cap+1)∧g b=some (.cells cur T (0,0))∧l.length≤cap+1∧cur.size=(cap+1) * k∧cur.toList.take (l.length * k)=l.flatMap e.enc
theorem RK.mono (h:RK e T g v l)(hl:Le g g'):RK e T g' v l:=by
 rcases h with h | ⟨b,cap,cur,h1,h2,h3⟩
 ·exact .inl h
 ·exact .inr ⟨b,cap,cur,h1,hl _ _ h2,h3⟩
theorem RK.sl (h:RK e T g v l):SlA e g v l:=by
 rcases h with ⟨p,rfl,rfl⟩ | ⟨b,cap,cur,rfl,h2,h3,h4,h5⟩
 ·exact⟨p,0,I,⟨by simp,lR _⟩,fun h=>absurd I h⟩
 ·refine⟨_,_,I,⟨e.length l,h3⟩,fun _=>⟨b,0,cur,T,(0,0),I,h2,fun j x hj=>?_⟩⟩;rw[← h5,List.getElem?_take] at hj;split at hj
  ·simpa using hj
  ·cases hj
theorem RK.form (h:RK e T g v l):∃ p c,v = .slice p l.length c:=h.sl.form
theorem RK.nil (e:Enc α k)(T:TypeId)(g:PH):RK e T g (.slice none 0 0) []:=.inl ⟨none,rfl,rfl⟩
theorem At.freezeRowK {E:World}{w:World}(h:At E g (rowA e T v l::s) w):∃ g',Le g g'∧At E g' s w∧RK e T (mns g' g) v l:=by
 obtain ⟨hlen,h1⟩:=row_is (i:=0) h rfl
 rcases h1 with ⟨p,rfl,h0⟩ | ⟨b,cap,cur,rfl,hb,hle,_,hsz,htake⟩
 ·exact⟨g,Le.refl g,h.sublist (List.sublist_cons_self _ _),.inl ⟨p,I,List.eq_nil_of_length_eq_zero h0⟩⟩
 ·have hf:=h.fresh _ (List.mem_cons_self ..) b rfl;obtain ⟨h2,h3⟩:=h.freeze (b:=b) rfl hb;exact⟨_,h3,h2,.inr ⟨b,cap,cur,I,by rw[mns_none hf.1]; exact upd_self _ _ _,hle,hsz,htake⟩⟩
variable {P:Program}{N:Nat}{E:World}{ops:Array Oper}{Q:Exit→Act→World→Prop}{f:Fr}
theorem SC.freezeRowK {c:Code}(h:∀ g',Le g g'→RK e T (mns g' g) v l→SC P N E c Q f g' s):SC P N E c Q f g (rowA e T v l::s):=fun a w ha hw=>by
 obtain ⟨g',h1,h2,h3⟩:=hw.freezeRowK;exact h g' h1 h3 a w ha h2
theorem SL.freezeRowK {o:List Oper}(h:∀ g',Le g g'→RK e T (mns g' g) v l→SL P N E ops Q o f g' s):SL P N E ops Q o f g (rowA e T v l::s):=fun a w ha hw=>by
 obtain ⟨g',h1,h2,h3⟩:=hw.freezeRowK;exact h g' h1 h3 a w ha h2
end
section
variable {P:Program}{N:Nat}{E:World}{f:Fr}{g:PH}{s:Own}{dst:Option Tmp}{ty:TypeId}{pos:String}{af:Array Edge}{gd:Option (Nat×Bool)}
end
section
variable {α:Type}{k:Nat}{e:Enc α k}{T U:TypeId}{g:PH}{v:Value}{l:List α}
end
end Go.Sy
namespace Go.Proofs.YtmmghffoakhheaaGreatDoor
open _root_.Go.Proofs.Tryz _root_.Go.Proofs.YtmmghffoakhheaaGreatDoor.Tryz
open Go Go.Sy Go.Pl Go.Proofs
set_option maxRecDepth 100000
structure Cl where
 id:Int
 dim:Int
 sides:List Side
 deriving DecidableEq
def CellR (g:PH)(c:Cl)(r:Rc):Prop:=r.id=c.id∧r.dim=c.dim∧SlA encSide g (.slice r.sv.p r.sv.n r.sv.c) c.sides
theorem CellR.mono {g g':PH}(hl:Le g g'){c:Cl}{r:Rc}(h:CellR g c r):CellR g' c r:=⟨h.1,h.2.1,h.2.2.mono hl⟩
def Cells (g:PH)(v:Value)(l:List Cl):Prop:=∃ rs,SlA encCell g v rs∧All2 (CellR g) l rs
theorem Cells.mono {g g':PH}{v:Value}{l:List Cl}(h:Cells g v l)(hl:Le g g'):Cells g' v l:=by
 obtain ⟨rs,h1,h2⟩:=h;exact⟨rs,h1.mono hl,h2.mono fun _ _=>CellR.mono hl⟩
theorem Cells.form {g:PH}{v:Value}{l:List Cl}(h:Cells g v l):∃ p c,v = .slice p l.length c:=by
 obtain ⟨rs,h1,h2⟩:=h;rw[h2.length];exact h1.form
def CellK (g:PH)(c:Cl)(r:Rc):Prop:=r.id=c.id∧r.dim=c.dim∧RK encSide 56 g (.slice r.sv.p r.sv.n r.sv.c) c.sides
theorem CellK.mono {g g':PH}(hl:Le g g'){c:Cl}{r:Rc}(h:CellK g c r):CellK g' c r:=⟨h.1,h.2.1,h.2.2.mono hl⟩
theorem CellK.cr {g g':PH}(hl:Le g g'){c:Cl}{r:Rc}(h:CellK g c r):CellR g' c r:=⟨h.1,h.2.1,h.2.2.sl.mono hl⟩
def CellsK (g:PH)(v:Value)(l:List Cl):Prop:=∃ rs,RK encCell 54 g v rs∧All2 (CellK g) l rs
theorem CellsK.mono {g g':PH}{v:Value}{l:List Cl}(h:CellsK g v l)(hl:Le g g'):CellsK g' v l:=by
 obtain ⟨rs,h1,h2⟩:=h;exact⟨rs,h1.mono hl,h2.mono fun _ _=>CellK.mono hl⟩
theorem CellsK.cells {g g':PH}{v:Value}{l:List Cl}(h:CellsK g v l)(hl:Le g g'):Cells g' v l:=by
 obtain ⟨rs,h1,h2⟩:=h;exact⟨rs,h1.sl.mono hl,h2.mono fun _ _=>CellK.cr hl⟩
def Fits (l:List Cl):Prop:=l.length<1099511627776∧∀ c∈l,c.sides.length<1099511627776
def normC (c:Cl):Cl:=⟨c.id,c.dim,sortBy Side.cell c.sides⟩
def canonC (l:List Cl):List Cl:=(sortBy Cl.id l).map normC
theorem Tryz.build29 (x:Value)(h:x.cells = #[x])(w:World):(Instr.build 29 #[(0,x)]).run Tryz.prog w = .ok (.agg #[x]) w:=by
 have hz:(Value.agg #[Value.slice none 0 0]).cells = #[.slice none 0 0]:=rfl;simp[Instr.build,Instr.fill,h,hz]
theorem sideNeq (x y:Side)(w:World):(binOp .neq 56 (.agg (encSide.enc x).toArray) (.agg (encSide.enc y).toArray)).run Tryz.prog w = .ok (.bool (decide (x≠y))) w:=by
 have hu:Tryz.prog.underlying 56=some (.struct (Tryz.prog.fieldsOf 56)):=by kernel_rfl
 have hf:(Tryz.prog.fieldsOf 56).toList=(Tryz.prog.fieldsOf 56).toList:=rfl;rw[run_neq_struct,run_equalIn_agg w 9999 56 _ _ hu stoodInHeld56]
 have hfs : ∃ f1 f2,(Tryz.prog.fieldsOf 56).toList = [f1,f2] ∧ f1.name ≠ "_" ∧ f2.name ≠ "_" ∧ f1.type = 3 ∧ f2.type = 3 ∧ f1.offset = 0 ∧ f2.offset = 1:=⟨_,_,rfl,by decide,by decide,rfl,rfl,rfl,rfl⟩
 obtain ⟨f1,f2,e,n1,n2,t1,t2,o1,o2⟩:=hfs;obtain ⟨a,b⟩:=x;obtain ⟨c,d⟩:=y;rw[e];have h1:=run_equalIn_int (P:=Tryz.prog) w 9998 3 .i64 .i64 a c uT3;have h2:=run_equalIn_int (P:=Tryz.prog) w 9998 3 .i64 .i64 b d uT3;simp only[Op.eqFields,n1,n2,t1,t2,o1,o2,encSide,part,ne_eq,not_false_eq_true,if_true,Sem.run_bind,iT3,Result.andThen_ok];simp[h1,h2];by_cases hac:a=c <;> by_cases hbd:b=d <;> simp[hac,hbd]
theorem keyId (E:World)(g:PH):KeyOkC E (.func (.func 83) #[] #[]) Rc.id g:=by
 intro g s a hle;refine CallV.mk (cap:=[]) call83 ?_;refine Ctr.of (args:=[.agg (encCell.enc a).toArray]) func83 I ntmps83 (bE I) ?_;refine rZ (bW (bO I) fun b1=>?_);refine aT I (rZ (lU (fA uT54 I zT3 I) (lK (qL iT3 I (cO 0 I I)) (aT I (rE (dR (s':=s) uR ?_))))));exact ST.ret1 (.inl I) results83 I ⟨I,I,I⟩
theorem keyCell (E:World)(g:PH):KeyOkS E (.func (.func 85) #[] #[]) Side.cell g:=by
 intro g s a hle;refine CallV.mk (cap:=[]) call85 ?_;refine Ctr.of (args:=[.agg (encSide.enc a).toArray]) func85 I ntmps85 (bE I) ?_;refine rZ (bW (bO I) fun b1=>?_);refine aT I (rZ (lU (fA uT56 I zT3 I) (lK (qL iT3 I (cO 0 I I)) (aT I (rE (dR (s':=s) uR ?_))))));exact ST.ret1 (.inl I) results85 I ⟨I,I,I⟩
theorem canon_new (E:World)(g:PH)(s:Own)(v:Value)(l:List Cl)(hv:Cells g v l)(hf:Fits l) :
  Ctr Tryz.prog E 50 #[.agg #[v]] g s (fun r g' s'=>s=s'∧Le g g'∧∃ u,r = .agg #[u]∧CellsK (mns g' g) u (canonC l)):=by
 obtain ⟨rs,hrs,hall⟩:=hv;have hlen:=hall.length;have hfl:=hf.1;have hall':=All2.sortBy (f:=Cl.id) (h:=Rc.id) (fun a b h=>h.1.symm) hall;obtain ⟨p,c,rfl⟩:=SlA.form hrs;refine Ctr.of (args:=[.agg #[.slice p rs.length c]]) func50 I ntmps50 (bE I) ?_;refine rZ (bW (bO I) fun b1=>?_);refine bW (aL zeroValue29) fun b2=>?_;refine tZ (rZ (lU (fA uT29 I zT27 I) (lK (qL iT27 I (cO 1 I I)) (lW (SO.call call82 I (sortedC E g _ _ 83 #[] Rc.id (keyId E g) rs hrs oM)) ?_))));rintro r3 _ _ ⟨rfl,rfl⟩;refine SL.facts fun ⟨w0,hw0⟩=>?_;obtain ⟨q,d,rfl⟩:=rowA_form (i:=0) hw0 rfl;have hbq:0<(sortBy Rc.id rs).length→based (.slice q (sortBy Rc.id rs).length d)=true:=fun h=>(by obtain ⟨b0,c0,he⟩:=rowA_based (i:=0) hw0 rfl h; rw[he]; rfl);clear hw0 w0;refine aT I (sQ (sW I (lU (eN uT27 I) (lM I (tZ (bK ?_))))));have hsl:(sortBy Rc.id rs).length=rs.length:=sortBy_length rs;refine oP (ι:=PH×List Rc×List Rc×List Cl×List Cl) (fun i=>[(2,pp b2 0),(3,.slice q (sortBy Rc.id rs).length d),(9,vi (sortBy Rc.id rs).length),(10,vi i.2.1.length)]) (fun i=>i.1)
  (fun i=>rowA encCell 54 (.slice q (sortBy Rc.id rs).length d) (i.2.1++i.2.2.1)::pt b2 (.cells #[.slice none 0 0] 29 (0,0))::pt b1 (.cells #[.slice p rs.length c] 29 (0,0))::s)
  (fun i=>Le g i.1∧All2 (CellK (mns i.1 g)) i.2.2.2.1 i.2.1∧All2 (CellR g) i.2.2.2.2 i.2.2.1∧canonC l=i.2.2.2.1++i.2.2.2.2.map normC∧(i.2.1.length+i.2.2.1.length=(sortBy Rc.id rs).length∧∀ x∈i.2.2.2.2,x∈l)) (fun i=>i.2.2.1.length)
  (g,[],sortBy Rc.id rs,[],sortBy Cl.id l) sB rfl rfl ⟨Le.refl g,trivial,hall',by simp[canonC],by simp,fun x hx=>(sortBy_mem l x).1 hx⟩ ?_
 rintro ⟨g1,ds,rest,dl,rl⟩ ⟨hle,hd,hr,hcan,hlen1,hmem⟩;dsimp only at hle hd hr hcan hlen1 hmem ⊢;have hrl:=hr.length;refine rZ (yL I (tZ (sQ ?_)));refine iP I (fun hlt=>?_) (fun hlt=>?_)
 ·cases rest with
  | nil=>simp at hlen1; omega
  | cons x rest =>
  obtain ⟨cx,rl',hrle,hcx,hr'⟩:=hr.cons_right;subst hrle;have hxl:cx.sides.length<1099511627776:=hf.2 cx (hmem cx (by simp));simp only[List.length_cons] at hlen1;have hgx:(ds++x::rest)[((ds.length:Nat):Int).toNat]?=some x:=get_mid oM;have hbs:based (.slice q (sortBy Rc.id rs).length d)=true:=hbq oM;refine kP (tN (sQ (bK (sW I (aT I (rG (lM I (lM I (lM I (lM I (lU (iA uT27 zT54 I I hbs oM sL) (lU (fC uT54 I zT37 I hbs) (lK (aZ (o:=2) iT37 I (Rd.rowA 0 I) hgx I) (lW (SO.call call84 I (sortedS E g1 _ _ 85 #[] Side.cell (keyCell E g1) cx.sides (hcx.2.2.mono hle) hxl)) ?_))))))))))))));rintro r20 _ _ ⟨rfl,rfl⟩;refine SL.freezeRowK fun g2 hle2 hs2=>?_;obtain ⟨q2,d2,rfl⟩:=hs2.form;refine lU (iA uT27 zT54 I I hbs oM sL) (lU (fC uT54 I zT37 I hbs) (oZ (SO.partA (o:=2) 0 ⟨x.id,x.dim,q2,_,d2⟩ zT37 I I I hgx I I dC I) (nL (bN (tN (rG (yD I (lM I (nL ?_)))))))));exact ST.again (g2,ds++[⟨x.id,x.dim,q2,(sortBy Side.cell cx.sides).length,d2⟩],rest,dl++[normC cx],rl') ⟨I,I,I,vi_eq lN,trivial⟩ I (by
    dsimp only;rw[show (ds++x::rest).set ((ds.length:Nat):Int).toNat ⟨x.id,x.dim,q2,(sortBy Side.cell cx.sides).length,d2⟩=ds++[⟨x.id,x.dim,q2,(sortBy Side.cell cx.sides).length,d2⟩]++rest by rw[set_mid oM]; simp];rfl) ⟨hle.trans hle2,(hd.mono fun _ _=>CellK.mono (mns_mono hle2)).append ⟨(by exact⟨hcx.1,hcx.2.1,hs2.mono (mns_anti hle)⟩:CellK (mns g2 g) (normC cx) ⟨x.id,x.dim,q2,(sortBy Side.cell cx.sides).length,d2⟩),trivial⟩,hr',by rw[hcan]; simp,lN,fun y hy=>hmem y (by simp[hy])⟩ lN
 ·have hr0:rest=[]:=List.eq_nil_of_length_eq_zero oM;subst hr0;have hrl0:rl=[]:=hr.nil_right;subst hrl0;refine xI (tX (tX (bX (tN (rZ (SL.freezeRowK fun g2 hle2 hs2=>?_))))));refine lM I (lU (SU.build I (build29 _ I)) (oZ (sK 0 zT29 I I I I I sB) ?_));refine tZ (rE ?_);refine ST.retCD 0 s (.inl I) results50 I iT29 zT29 I I (.cons _ (.cons _ (.refl _))) ⟨I,hle.trans hle2,_,I,ds,?_,?_⟩
  ·simpa using hs2.mono (mns_anti hle)
  ·rw[hcan];simpa using hd.mono fun _ _=>CellK.mono (mns_mono hle2)
theorem canon_spec (E:World)(g:PH)(s:Own)(v:Value)(l:List Cl)(hv:Cells g v l)(hf:Fits l) :
  Ctr Tryz.prog E 50 #[.agg #[v]] g s (fun r g' s'=>s=s'∧Le g g'∧∃ u,r = .agg #[u]∧Cells g' u (canonC l)) :=
 (canon_new E g s v l hv hf).mono fun _ _ _ ⟨h1,h2,u,h3,h4⟩=>⟨h1,h2,u,h3,h4.cells (mns_le _ _)⟩
theorem take_eq_succ {α:Type}{l m:List α}{k:Nat}(h1:k<l.length)(h2:k<m.length)(h:l.take k=m.take k)(he:l[k]=m[k]):l.take (k+1)=m.take (k+1):=by
 rw[tS h1,tS h2,h,he]
theorem take_eq_all {α:Type}{l m:List α}(hl:l.length=m.length)(h:l.take l.length=m.take l.length):l=m:=by
 rw[tL (lR _),tL oM] at h;exact h
theorem SU.neqSide {N:Nat}{f:Fr}{dst:Option Tmp}{ty:TypeId}{pos:String}{af:Array Edge}{gd:Option (Nat×Bool)}{x y:Operand}{a b:Side}{U:TypeId}(hx:ev f x=some (.agg (encSide.enc a).toArray))(hy:ev f y=some (.agg (encSide.enc b).toArray)) :
  SU Tryz.prog N ⟨dst,.binOp .neq 56 x y U,ty,pos,af,gd⟩ f (.bool (decide (a≠b))):=fun ac w ha=>by
 have hg:=run_eqGuard_agg (P:=Tryz.prog) w .neq 56 x y (encSide.enc a).toArray (encSide.enc b).toArray eqGuardType56;simp only[execOp,ha.ev hx,ha.ev hy,Sem.run_bind,hg,Result.andThen_ok,sideNeq];rfl
theorem equalSides (E:World)(g:PH)(s:Own)(v u:Value)(l m:List Side)(hv:SlA encSide g v l)(hu:SlA encSide g u m)(hl:l.length<1099511627776) :
  Ctr Tryz.prog E 139 #[v,u] g s (fun r g' s'=>r=vb (decide (l=m))∧g=g'∧s=s'):=by
 obtain ⟨p,c,rfl⟩:=hv.form;obtain ⟨q,d,rfl⟩:=hu.form;refine Ctr.of (args:=[.slice p l.length c,.slice q m.length d]) func139 I ntmps139 (bE I) ?_;refine rZ (aT I (sQ (sW I (lU (eN uT37 I) (lM I (lU (eN uT37 I) (lU (nQ I I) (tZ ?_))))))));refine iP I (fun hne=>?_) (fun hne=>?_)
 ·refine rZ (aT I (rE (tR ?_)));exact ST.ret1 (.inl I) results139 I ⟨by have:l≠m:=fun e=>hne (by rw[e]); simp[this],I,I⟩
 ·refine kP (tN (sQ (sW I (lU (eN uT37 I) (lM I (tZ (bK ?_)))))));have hlen:l.length=m.length:=oM;refine oP (ι:=Nat) (fun k=>[(0,.slice p l.length c),(1,.slice q m.length d),(12,vi l.length),(13,vi k)]) (fun _=>g) (fun _=>s) (fun k=>k≤l.length∧l.take k=m.take k) (fun k=>l.length - k) 0
   sB rfl rfl ⟨Nat.zero_le _,by simp⟩ ?_
  rintro k ⟨hk,heq⟩;refine rZ (yL I (tZ (sQ ?_)));refine iP I (fun hlt=>?_) (fun hlt=>?_)
  ·have hkl:k<l.length:=oM;have hkm:k<m.length:=oM;have hb1:=hv.based oM;have hb2:=hu.based oM;refine kP (tN (sQ (bK (sW I (aT I (sQ ?_))))));refine dW [] [(0,2),(1,2),(2,2),(3,1),(4,2),(5,2),(6,2),(7,1),(8,2)] Tryz.mixed kR ?_;refine yM I (yM I (pU I (iA uT37 zT56 I I hb1 oM sL) ?_));refine pQ I (eA iT56 zT56 I hv.rd (gE hkl)) dC ?_;refine yM I (yM I (pU I (iA uT37 zT56 I I hb2 oM sL) ?_));refine pQ I (eA iT56 zT56 I hu.rd (gE hkm)) dC ?_;refine pU I (SU.neqSide I I) (pN (tN ?_));refine iP I (fun hd=>?_) (fun hd=>?_)
   ·refine rZ (aT I (rE (bR (tR (tR (bR (tR ?_)))))));exact ST.ret1 (.inl I) results139 I ⟨by have:l≠m:=fun e=>hd (by simp[e]); simp[this],I,I⟩
   ·refine kP (bN (tN (rG (yD I (lM I (nL ?_))))));exact ST.again (k+1) sB I I ⟨oM,take_eq_succ hkl hkm heq (Decidable.of_not_not hd)⟩ oM
  ·refine xI (tX (tX (bX (tN (rZ (aT I (rE ?_)))))));have hkk:k=l.length:=oM;subst hkk;have:l=m:=take_eq_all hlen heq;exact ST.ret1 (.inl I) results139 I ⟨by simp[this],I,I⟩
theorem canonC_fits {l:List Cl}(h:Fits l):Fits (canonC l):=by
 refine⟨by simp[canonC,sortBy_length]; exact h.1,fun c hc=>?_⟩;simp only[canonC,List.mem_map] at hc;obtain ⟨c0,h0,rfl⟩:=hc;simp only[normC,sortBy_length];exact h.2 c0 ((sortBy_mem l c0).1 h0)
theorem Tryz.mty125:MTy Tryz.prog 125 3 54 (.agg #[vi 0,vi 0,.slice none 0 0]):=⟨underlying125,underlying3,zeroValue54⟩
def addC (acc:List Cl)(c:Cl):List Cl:=if acc.any (fun x=>x.id == c.id) then acc else acc++[c]
theorem addC_old {acc:List Cl}{c:Cl}(h:acc.any (fun x=>x.id == c.id)=true):addC acc c=acc:=if_pos h
theorem addC_new {acc:List Cl}{c:Cl}(h:acc.any (fun x=>x.id == c.id)=false):addC acc c=acc++[c]:=if_neg (by rw[h]; simp)
def tabC (l:List Cl):List Cl:=(canonC l).foldl addC []
def rcv (r:Rc):Value:=.agg (encCell.enc r).toArray
def rcPair (r:Rc):Int×Value:=(r.id,rcv r)
def TabR (R:Cl→Rc→Prop)(g:PH)(v:Value)(tl:List Cl):Prop :=
 ∃ b m iv rs,v=pp b 0∧g b=some (.cells #[.map (some m),iv] 127 (0,0))∧Mp g m (rs.map rcPair)∧Ints g iv (tl.map Cl.id)∧All2 R tl rs
def Tab (g:PH)(v:Value)(tl:List Cl):Prop:=TabR (CellR g) g v tl
theorem TabR.mono {R R':Cl→Rc→Prop}{g g':PH}{v:Value}{tl:List Cl}(h:TabR R g v tl)(hl:Le g g')(hr:∀ c r,R c r→R' c r):TabR R' g' v tl:=by
 obtain ⟨b,m,iv,rs,h1,h2,h3,h4,h5⟩:=h;exact⟨b,m,iv,rs,h1,hl _ _ h2,h3.mono hl,h4.mono hl,h5.mono hr⟩
theorem Tab.mono {g g':PH}{v:Value}{tl:List Cl}(h:Tab g v tl)(hl:Le g g'):Tab g' v tl:=by
 obtain ⟨b,m,iv,rs,h1,h2,h3,h4,h5⟩:=h;exact⟨b,m,iv,rs,h1,hl _ _ h2,h3.mono hl,h4.mono hl,h5.mono fun _ _=>CellR.mono hl⟩
theorem mget_pairs (rs:List Rc)(k:Int):mget (rs.map rcPair) k=(rs.find? (fun r=>r.id == k)).map rcv:=by
 induction rs with
 | nil=>rfl
 | cons r t ih =>
  simp only[List.map_cons,rcPair,mget_cons,List.find?_cons];by_cases h:k=r.id
  ·subst h; simp
  ·have:(r.id == k)=false:=by simpa using fun e=>h e.symm
   rw[this,if_neg h,← ih]
theorem all2_any {g:PH}{tl:List Cl}{rs:List Rc}(h:All2 (CellR g) tl rs)(k:Int):tl.any (fun x=>x.id == k)=rs.any (fun r=>r.id == k):=by
 induction tl generalizing rs with
 | nil=>cases rs with | nil=>rfl | cons _ _=>exact h.elim
 | cons c t ih =>
  cases rs with
  | nil=>exact h.elim
  | cons r rs=>simp only[List.any_cons,h.1.1,ih h.2]
theorem all2_ids {g:PH}{tl:List Cl}{rs:List Rc}(h:All2 (CellR g) tl rs):tl.map Cl.id=rs.map Rc.id:=by
 induction tl generalizing rs with
 | nil=>cases rs with | nil=>rfl | cons _ _=>exact h.elim
 | cons c t ih =>
  cases rs with
  | nil=>exact h.elim
  | cons r rs=>simp only[List.map_cons,h.1.1,ih h.2]
theorem foldl_add_length (l:List Cl):∀ acc:List Cl,(l.foldl addC acc).length≤acc.length+l.length:=by
 induction l with
 | nil=>intro acc; simp
 | cons c r ih =>
  intro acc;simp only[List.foldl_cons];have h1:=ih (addC acc c);have h2:(addC acc c).length≤acc.length+1:=by unfold addC; split <;> simp
  simp only[List.length_cons];omega
theorem Tryz.build127 (x:Value)(h:x.cells = #[x])(w:World):(Instr.build 127 #[(0,x)]).run Tryz.prog w = .ok (.agg #[x,.slice none 0 0]) w:=by
 have hz:(Value.agg #[Value.map none,Value.slice none 0 0]).cells = #[.map none,.slice none 0 0]:=rfl;simp[Instr.build,Instr.fill,h,hz]
theorem of_new (E:World)(g:PH)(s:Own)(v:Value)(l:List Cl)(hv:Cells g v l)(hf:Fits l) :
  Ctr Tryz.prog E 49 #[.agg #[v]] g s (fun r g' s'=>s=s'∧Le g g'∧TabR (CellK (mns g' g)) g' r (tabC l)):=by
 have hfc:=canonC_fits hf;refine Ctr.of (args:=[.agg #[v]]) func49 I ntmps49 (bE I) ?_;refine rZ (bW (bO I) fun b1=>?_);refine aT I (rZ (lW (SO.mkMap) ?_));rintro _ _ _ ⟨m,rfl,rfl,rfl⟩;refine lU (SU.build I (build127 _ I)) (bW (bO I) fun b10=>?_);refine aT I (sQ (rZ (lK (qV 2 iT29 zT29 I I I) (lW (SO.call call50 I (canon_new E g _ v l hv hf)) ?_))));rintro _ g1 _ ⟨rfl,hle,u,rfl,hc⟩;obtain ⟨rs,hrsK,hall⟩:=hc;have hrs:=hrsK.sl.mono (mns_le _ _);obtain ⟨p,c,rfl⟩:=hrs.form;refine lU (SU.field uT29 I iT27 I I) (lU (eN uT27 I) (lM I (tZ (bK ?_))));have hlen:=hall.length;have hfl:=hfc.1;refine SC.nilRow 3 1 ?_;refine oP (ι:=Value×Nat×List Rc) (fun i=>[(3,pp b10 0),(13,.slice p rs.length c),(14,vi rs.length),(15,vi i.2.1)]) (fun _=>g1)
  (fun i=>rowA encInt 3 i.1 (i.2.2.map Rc.id)::pt b10 (.cells #[.map (some m),i.1] 127 (0,0))::mp m (i.2.2.map rcPair)::pt b1 (.cells #[v] 29 (0,0))::s)
  (fun i=>i.2.1≤rs.length∧All2 (CellK (mns g1 g)) (((canonC l).take i.2.1).foldl addC []) i.2.2) (fun i=>rs.length - i.2.1) (.slice none 0 0,0,[])
  sB rfl rfl ⟨Nat.zero_le _,by simp[All2]⟩ ?_
 rintro ⟨iv,k,acc⟩ ⟨hk,hacc⟩;dsimp only at hk hacc ⊢;refine rZ (yL I (tZ (sQ ?_)));refine iP I (fun hlt=>?_) (fun hlt=>?_)
 ·have hkr:k<rs.length:=oM;have hkl:k<(canonC l).length:=oM;have hb1:=hrs.based oM;have hcr:=hall.get (gE hkl) (gE hkr);have hany:=all2_any (hacc.mono fun _ _=>CellK.cr (mns_le _ _)) (canonC l)[k].id;have htake:((canonC l).take (k+1)).foldl addC []=addC (((canonC l).take k).foldl addC []) (canonC l)[k]:=by
   rw[tS hkl,List.foldl_append]; rfl
  have hal:=hacc.length;have hal2:=foldl_add_length ((canonC l).take k) [];simp only[List.length_take,List.length_nil] at hal2;generalize hcl:(canonC l)[k]=cx at *;generalize hrx:rs[k]=x at *;have hgx:rs[((k:Nat):Int).toNat]?=some x:=by rw[← hrx]; exact gE hkr
  cases hget:acc.find? (fun r=>r.id == x.id) with
  | some y =>
   refine kP (tN (sQ (bK (rZ (lU (iA uT27 zT54 I I hb1 oM sL) (lK (eA iT54 zT54 I hrs.rd hgx) (bW (aL zeroValue54) fun b5=>?_)))))));refine oZ (sK 0 zT54 I I I I I sB) ?_;refine tZ (sQ ?_);refine dW [] [(0,2),(1,2),(2,2),(3,1),(4,2),(5,1),(6,1),(7,2),(8,2),(9,2),(10,0),(11,0),(12,2)] Tryz.mixed kR ?_;refine yM I (pU I (nC I) (pU I (fA uT127 I zT125 I) (pK I (qL iT125 I (cO 2 I I)) (pU I (fA uT54 I zT3 I) (pK I (qL iT3 I (cO 0 I I)) (pK I (SQ.eq (SQ.lookupOk mty125 I I (MapAt.own 3 I)) (by (rw[mget_pairs,hget]; done))) ?_))))));refine yM I (pU I (xT I I) (pU I (xT I I) (SP.o I (aL zeroValue54) dC (.inr iR) ?_)));rintro _ _ _ ⟨b6,rfl,rfl,rfl⟩;refine SP.on I (sK 0 zT54 I I I I I sB) (.inr iR) ?_;rintro _ _ _ ⟨rfl,rfl⟩;refine pU I (aS I) (pN (tN (sW I (lU (SU.not I) (tZ (cF I (kP (bN (tN (rG (yD I (lM I (nL (dR (s':=rowA encInt 3 iv (acc.map Rc.id)::pt b10 (.cells #[.map (some m),iv] 127 (0,0))::mp m (acc.map rcPair)::pt b1 (.cells #[v] 29 (0,0))::s) (.cons _ (.cons _ (.refl _))) ?_))))))))))))));have h1:acc.any (fun r=>r.id == cx.id)=true:=by
    rw[List.any_eq_true];exact⟨y,List.mem_of_find?_eq_some hget,by have:=List.find?_some hget; rw[← hcr.1]; exact this⟩
   exact ST.again (iv,k+1,acc) sB I I ⟨lN,by dsimp only; rw[htake,addC_old (hany.trans h1)]; exact hacc⟩ lN
  | none =>
   refine kP (tN (sQ (bK (rZ (lU (iA uT27 zT54 I I hb1 oM sL) (lK (eA iT54 zT54 I hrs.rd hgx) (bW (aL zeroValue54) fun b5=>?_)))))));refine oZ (sK 0 zT54 I I I I I sB) ?_;refine tZ (sQ ?_);refine dW [] [(0,2),(1,2),(2,2),(3,1),(4,2),(5,1),(6,1),(7,2),(8,2),(9,2),(10,0),(11,0),(12,2)] Tryz.mixed kR ?_;refine yM I (pU I (nC I) (pU I (fA uT127 I zT125 I) (pK I (qL iT125 I (cO 2 I I)) (pU I (fA uT54 I zT3 I) (pK I (qL iT3 I (cO 0 I I)) (pK I (SQ.eq (SQ.lookupOk mty125 I I (MapAt.own 3 I)) (by (rw[mget_pairs,hget]; done))) ?_))))));refine yM I (pU I (xT I I) (pU I (xT I I) (SP.o I (aL zeroValue54) dC (.inr iR) ?_)));rintro _ _ _ ⟨b6,rfl,rfl,rfl⟩;refine SP.on I (sK 0 zT54 I I I I I sB) (.inr iR) ?_;rintro _ _ _ ⟨rfl,rfl⟩;refine pU I (aS I) (pN (tN (sW I (lU (SU.not I) (tZ (SC.condT I (sQ ?_)))))));refine dW [7] [(0,2),(1,2),(2,2),(3,1),(4,2),(5,1),(6,1),(7,0)] Tryz.mixed kR ?_;refine yM I (pU I (nC I) (pU I (fA uT127 I zT125 I) (pK I (qL iT125 I (cO 3 I I)) (pU I (fA uT54 I zT3 I) (pK I (qL iT3 I (cO 1 I I)) (pK I (qV 1 iT54 zT54 I I I) (SP.on I (SO.mapUpdate 4 mty125 I I I I) (.inl dC) ?_)))))));rintro _ _ _ ⟨rfl,rfl⟩;refine pN (tN ?_);refine dW [8,9,10,11] [(0,2),(1,2),(2,2),(3,2),(4,1),(5,2),(6,1),(7,0),(8,0),(9,0),(10,0),(11,0)] Tryz.mixed kR ?_;refine yM I (yM I (pU I (nC I) (pU I (fA uT127 I zT22 I) (pK I (qL iT22 I (cO 3 I I)) (pU I (fA uT54 I zT3 I) (pK I (qL iT3 I (cO 1 I I)) (SP.o I (bS sty22 I I I (szs_mk sB) dC) dC (.inr iR) ?_)))))));rintro _ _ _ ⟨b45,rfl,rfl,rfl⟩;refine SP.o rfl (SO.app1 2 (((acc++[x]).map Rc.id).flatMap encInt.enc) ((acc++[x]).map Rc.id).length sty22 rfl rfl rfl rfl rfl ⟨rfl,trivial⟩ (by simp[encInt]; rfl) (by simp) (by simp; omega) (by simp; omega)) dC (.inl dC) ?_;rintro iv' _ _ ⟨rfl,rfl⟩;refine SP.facts fun ⟨w0,hw0⟩=>?_;obtain ⟨q',d',rfl⟩:=rowA_form (e:=encInt) (l:=(acc++[x]).map Rc.id) (i:=2) hw0 rfl;clear hw0 w0;refine oU rfl (nC rfl) dC (.inl dC) (oU rfl (fA uT127 rfl zT22 rfl) dC (.inl dC) (SP.on rfl (SO.store1 3 zT22 rfl rfl rfl rfl (bE rfl) (by rfl)) (.inl dC) ?_));rintro _ _ _ ⟨rfl,rfl⟩;refine pN (bN (tN (rG (yD I (lM I (nL ?_))))));have h1:acc.any (fun r=>r.id == cx.id)=false:=by
    rw[List.any_eq_false];intro y hy;have:=List.find?_eq_none.1 hget y hy;rw[← hcr.1]; exact this
   have hmp:mput (acc.map rcPair) x.id (rcv x)=(acc++[x]).map rcPair:=by
    rw[mput_none _ _ _ (fun q hq=>by
     obtain ⟨y,hy,rfl⟩:=List.mem_map.1 hq;have:=List.find?_eq_none.1 hget y hy;simpa [rcPair] using this)]
    simp[rcPair]
   refine dR (s':=rowA encInt 3 (.slice q' ((acc++[x]).map Rc.id).length d') ((acc++[x]).map Rc.id)::pt b10 (.cells #[.map (some m),.slice q' ((acc++[x]).map Rc.id).length d'] 127 (0,0))::mp m ((acc++[x]).map rcPair)::pt b1 (.cells #[v] 29 (0,0))::s) ?_ ?_
   ·rw[← hmp]; exact .cons _ (.cons _ (.refl _))
   exact ST.again (.slice q' ((acc++[x]).map Rc.id).length d',k+1,acc++[x]) sB I I ⟨lN,by dsimp only; rw[htake,addC_new (hany.trans h1)]; exact hacc.append ⟨hcr,trivial⟩⟩ lN
 ·refine xI (tX (tX (bX (tN (sW I (aT I (rE ?_)))))));have hkk:k=rs.length:=oM;have htk:(canonC l).take k=canonC l:=tL oM;rw[htk] at hacc;refine fT fun g2 h2 hrow=>?_;refine ST.freeze fun g3 h3 hb=>?_;refine ST.freezeMap fun g4 h4 hm=>?_;refine dR (s':=s) uR ?_;have hI:Ints g4 iv ((tabC l).map Cl.id):=by
   rw[show (tabC l).map Cl.id=acc.map Rc.id from all2_ids (hacc.mono fun _ _=>CellK.cr (mns_le _ _))];exact Sl.mono hrow (h3.trans h4)
  exact ST.ret1 (.inl I) results49 I ⟨I,hle.trans (h2.trans (h3.trans h4)),b10,m,iv,acc,I,h4 _ _ hb,hm,hI,hacc.mono fun _ _=>CellK.mono (mns_mono (h2.trans (h3.trans h4)))⟩
theorem of_spec (E:World)(g:PH)(s:Own)(v:Value)(l:List Cl)(hv:Cells g v l)(hf:Fits l) :
  Ctr Tryz.prog E 49 #[.agg #[v]] g s (fun r g' s'=>s=s'∧Le g g'∧Tab g' r (tabC l)) :=
 (of_new E g s v l hv hf).mono fun _ _ _ ⟨h1,h2,h3⟩=>⟨h1,h2,h3.mono (Le.refl _) fun _ _=>CellK.cr (mns_le _ _)⟩
theorem nodup_addC {acc:List Cl}{c:Cl}(h:(acc.map Cl.id).Nodup):((addC acc c).map Cl.id).Nodup:=by
 unfold addC;split
 ·exact h
 ·rename_i hc;rw[List.map_append,List.nodup_append];refine⟨h,by simp,fun a ha b hb e=>?_⟩;simp at hb;subst hb;obtain ⟨x,hx,hxe⟩:=List.mem_map.1 ha;apply hc;rw[List.any_eq_true];exact⟨x,hx,by simp[hxe,e]⟩
theorem nodup_foldl (l:List Cl):∀ acc:List Cl,(acc.map Cl.id).Nodup→((l.foldl addC acc).map Cl.id).Nodup:=by
 induction l with
 | nil=>intro acc h; exact h
 | cons c r ih=>intro acc h; exact ih _ (nodup_addC h)
theorem tabC_nodup (l:List Cl):((tabC l).map Cl.id).Nodup:=nodup_foldl _ [] (by simp)
theorem mem_foldl (l:List Cl):∀ (acc:List Cl) (x:Cl),x∈l.foldl addC acc→x∈acc∨x∈l:=by
 induction l with
 | nil=>intro acc x h; exact .inl h
 | cons c r ih =>
  intro acc x h
  rcases ih _ x h with h1 | h1
  ·unfold addC at h1;split at h1
   ·exact .inl h1
   ·rcases List.mem_append.1 h1 with h2 | h2
    ·exact .inl h2
    ·right; simp at h2; simp[h2]
  ·exact .inr (by simp[h1])
theorem tabC_mem {l:List Cl}{x:Cl}(h:x∈tabC l):x∈canonC l:=(mem_foldl _ [] x h).resolve_left (by simp)
theorem tabC_fits {l:List Cl}(h:Fits l):Fits (tabC l):=by
 have hc:=canonC_fits h;refine⟨?_,fun c hm=>hc.2 c (tabC_mem hm)⟩;have:=foldl_add_length (canonC l) [];unfold tabC;have h1:=hc.1;simp at this;omega
theorem find_nodup {rs:List Rc}(h:(rs.map Rc.id).Nodup){k:Nat}{r:Rc}(hk:rs[k]?=some r):rs.find? (fun x=>x.id == r.id)=some r:=by
 induction rs generalizing k with
 | nil=>simp at hk
 | cons y t ih =>
  simp only[List.map_cons,List.nodup_cons] at h;cases k with
  | zero=>simp at hk; subst hk; simp
  | succ k =>
   simp only[List.getElem?_cons_succ] at hk;have hne:(y.id == r.id)=false:=by
    simp only[beq_eq_false_iff_ne,ne_eq];intro e;exact h.1 (by rw[e]; exact List.mem_map.2 ⟨r,List.mem_of_getElem? hk,I⟩)
   rw[List.find?_cons,hne];exact ih h.2 hk
def PredOk (E:World)(pv:Value)(p:Cl→Bool)(tl:List Cl)(g:PH):Prop :=
 ∀ g' s c r,Le g g'→c∈tl→CellR g' c r→CallV Tryz.prog E pv [rcv r] g' s (fun x g'' s''=>x=vb (p c)∧g'=g''∧s=s'')
theorem only_gen (R:Cl→Rc→Prop)(E:World)(g:PH)(s:Own)(v pv:Value)(tl:List Cl)(p:Cl→Bool)(hR:∀ c r,R c r→CellR g c r)(hv:TabR R g v tl)(hnd:(tl.map Cl.id).Nodup)(hf:Fits tl)(hp:PredOk E pv p tl g) :
  Ctr Tryz.prog E 130 #[v,pv] g s (fun r g' s'=>s=s'∧Le g g'∧∃ u rs,r = .agg #[u]∧RK encCell 54 (mns g' g) u rs∧All2 R (tl.filter p) rs):=by
 obtain ⟨b,m,iv,rs,rfl,hb,hm,hI,hall⟩:=hv;have hids:=all2_ids (hall.mono hR);have hlen:=hall.length;have hfl:=hf.1;have hnr:(rs.map Rc.id).Nodup:=by rw[← hids]; exact hnd
 obtain ⟨q,d,rfl⟩:=hI.form;refine Ctr.of (args:=[pp b 0,pv]) func130 I ntmps130 (bE I) ?_;refine rZ (bW (aL zeroValue29) fun b4=>?_);refine tZ (rZ (bW (aL zeroValue29) fun b5=>?_));refine tZ (sQ (sW I (lU (nC I) (lU (fA uT127 I zT22 I) (lK (qL iT22 I (cK hb I)) (lU (eN uT22 I) (lM I (tZ (bK (SC.nilRow 54 3 ?_))))))))));simp only[List.length_map] at hI hb ⊢;refine oP (ι:=Value×Nat×List Rc) (fun i=>[(0,pp b 0),(1,pv),(4,pp b4 0),(5,pp b5 0),(11,.slice q tl.length d),(12,vi tl.length),(13,vi i.2.1)]) (fun _=>g)
  (fun i=>rowA encCell 54 i.1 i.2.2::pt b5 (.cells #[i.1] 29 (0,0))::pt b4 (.cells #[.slice none 0 0] 29 (0,0))::s)
  (fun i=>i.2.1≤tl.length∧All2 R ((tl.take i.2.1).filter p) i.2.2) (fun i=>tl.length - i.2.1) (.slice none 0 0,0,[])
  sB rfl rfl ⟨Nat.zero_le _,by simp[All2]⟩ ?_
 rintro ⟨ov,k,acc⟩ ⟨hk,hacc⟩;dsimp only at hk hacc ⊢;refine rZ (yL I (tZ (sQ ?_)));refine iP I (fun hlt=>?_) (fun hlt=>?_)
 ·have hkl:k<tl.length:=oM;have hkr:k<rs.length:=oM;have hbi:=hI.based (by simp; omega);have hcR:=hall.get (gE hkl) (gE hkr);have hcr:=hR _ _ hcR;have hmem:tl[k]∈tl:=gM hkl;have hget:mget (rs.map rcPair) tl[k].id=some (rcv rs[k]):=by
   rw[mget_pairs,← hcr.1,find_nodup hnr (gE hkr)]; rfl
  have htake:(tl.take (k+1)).filter p=(tl.take k).filter p++(if p tl[k] then [tl[k]] else []):=by
   rw[tS hkl,List.filter_append];simp only[List.filter_cons,List.filter_nil]
  have hgi:(tl.map Cl.id)[((k:Nat):Int).toNat]?=some tl[k].id:=by simp[hkl]
  have hal:=hacc.length;have hal2:((tl.take k).filter p).length≤k:=Nat.le_trans (List.length_filter_le _ _) (by simp; omega);generalize htk:tl[k]=c at *;generalize hrk:rs[k]=r at *;refine kP (tN (sQ (bK (rZ (lU (iA uT22 zT3 I I hbi oM sL) (lK (eB iT3 I hI.rd hgi I) (aT I (sW I (lM I (lU (nC I) (lU (fA uT127 I zT125 I) (lK (qL iT125 I (cK hb I)) (lM I (lK (SQ.eq (SQ.lookup mty125 I I (MapAt.known hm)) (by (rw[hget]; done))) ?_))))))))))))));refine lW (SO.callV I I (hp g _ c r (Le.refl g) hmem hcr)) ?_;rintro _ _ _ ⟨rfl,rfl,rfl⟩;refine tZ ?_;refine iQ I (fun hpc=>?_) (fun hpc=>?_)
  ·refine dW [9,10,11] [(0,2),(1,1),(2,2),(3,2),(4,2),(5,1),(6,2),(7,1),(8,0),(9,0),(10,0),(11,0)] Tryz.mixed kR ?_;refine pU I (fA uT29 I zT27 I) (pK I (qL iT27 I (cO 1 I I)) (yM I (pU I (nC I) (pU I (fA uT127 I zT125 I) (pK I (qL iT125 I (cK hb I)) (yM I (pK I (SQ.eq (SQ.lookup mty125 I I (MapAt.known hm)) (by (rw[hget]; done))) ?_)))))));refine SP.o I (bS sty27 I I I (szs_mk sB) dC) dC (.inr iR) ?_;rintro _ _ _ ⟨b33,rfl,rfl,rfl⟩;refine SP.o rfl (SO.app1 0 ((acc++[r]).flatMap encCell.enc) (acc++[r]).length sty27 rfl rfl rfl rfl rfl sB (by (simp[encCell]; rfl)) (by simp) lN lN) dC (.inl dC) ?_;rintro ov' _ _ ⟨rfl,rfl⟩;refine SP.facts fun ⟨w0,hw0⟩=>?_;obtain ⟨q',d',rfl⟩:=rowA_form (e:=encCell) (l:=acc++[r]) (i:=0) hw0 rfl;clear hw0 w0;refine oU I (fA uT29 I zT27 I) dC (.inl dC) (SP.on I (sK 1 zT27 I I I I I sB) (.inl dC) ?_);rintro _ _ _ ⟨rfl,rfl⟩;refine pN (bN (tN (rG (yD I (lM I (nL ?_))))));exact ST.again (.slice q' (acc++[r]).length d',k+1,acc++[r]) sB I I ⟨lN,by dsimp only; rw[htake,hpc]; exact hacc.append ⟨hcR,trivial⟩⟩ lN
  ·refine kP (bN (tN (rG (yD I (lM I (nL ?_))))));exact ST.again (ov,k+1,acc) sB I I ⟨lN,by dsimp only; rw[htake,hpc]; simpa using hacc⟩ lN
 ·have hkk:tl.take k=tl:=tL oM;rw[hkk] at hacc;refine xI (tX (tX (bX (tN (rZ (SL.freezeRowK fun g2 hle2 hs2=>?_))))));obtain ⟨q2,d2,rfl⟩:=hs2.form;refine lK (qV 0 iT29 zT29 I I I) (oZ (sK 1 zT29 I I I I I sB) ?_);refine tZ (rE ?_);exact ST.retCD 1 s (.inl I) results130 I iT29 zT29 I I uR ⟨I,hle2,_,acc,I,hs2,hacc⟩
theorem only_spec (E:World)(g:PH)(s:Own)(v pv:Value)(tl:List Cl)(p:Cl→Bool)(hv:Tab g v tl)(hnd:(tl.map Cl.id).Nodup)(hf:Fits tl)(hp:PredOk E pv p tl g) :
  Ctr Tryz.prog E 130 #[v,pv] g s (fun r g' s'=>s=s'∧Le g g'∧∃ u,r = .agg #[u]∧Cells g' u (tl.filter p)) :=
 (only_gen (CellR g) E g s v pv tl p (fun _ _ h=>h) hv hnd hf hp).mono fun _ _ _ ⟨h1,h2,u,rs,h3,h4,h5⟩=>⟨h1,h2,u,h3,rs,h4.sl.mono (mns_le _ _),h5.mono fun _ _=>CellR.mono h2⟩
theorem filter_fits {l:List Cl}(p:Cl→Bool)(h:Fits l):Fits (l.filter p) :=
 ⟨Nat.lt_of_le_of_lt (List.length_filter_le _ _) h.1,fun c hc=>h.2 c (List.mem_filter.1 hc).1⟩
theorem names_spec (E:World)(g:PH)(s:Own)(v pv:Value)(tl:List Cl)(p:Cl→Bool)(hv:Tab g v tl)(hnd:(tl.map Cl.id).Nodup)(hf:Fits tl)(hp:PredOk E pv p tl g) :
  Ctr Tryz.prog E 89 #[v,pv] g s (fun r g' s'=>s=s'∧Le g g'∧Ints g' r ((tl.filter p).map Cl.id)):=by
 have hff:=(filter_fits p hf).1;refine Ctr.of (args:=[v,pv]) func89 I ntmps89 (bE I) ?_;refine rZ (aT I (rZ (aT I (sQ (sW I (lM I (lW (SO.call call130 I (only_spec E g _ v pv tl p hv hnd hf hp)) ?_)))))));rintro _ g1 _ ⟨rfl,hle,u,rfl,rs,hrs,hall⟩;obtain ⟨q,d,rfl⟩:=hrs.form;have hlen:=hall.length;refine lU (SU.field uT29 I iT27 I I) (lU (eN uT27 I) (lM I (tZ (bK ?_))));have hids:=all2_ids hall;refine SC.nilRow 3 1 ?_;refine oP (ι:=Value×Nat) (fun i=>[(5,i.1),(11,.slice q rs.length d),(12,vi rs.length),(13,vi i.2)]) (fun _=>g1)
  (fun i=>rowA encInt 3 i.1 ((rs.take i.2).map Rc.id)::s)
  (fun i=>i.2≤rs.length) (fun i=>rs.length - i.2) (.slice none 0 0,0)
  sB rfl rfl (Nat.zero_le _) ?_
 rintro ⟨ov,k⟩ hk;dsimp only at hk ⊢;refine rZ (yL I (tZ (sQ ?_)));refine iP I (fun hlt=>?_) (fun hlt=>?_)
 ·have hkr:k<rs.length:=oM;have hb1:=hrs.based oM;have htake:(rs.take (k+1)).map Rc.id=(rs.take k).map Rc.id++[rs[k].id]:=by rw[tS hkr,List.map_append]; rfl
  have hgx:rs[((k:Nat):Int).toNat]?=some rs[k]:=gE hkr;have htl:((rs.take k).map Rc.id).length=k:=by simp; omega
  generalize hx:rs[k]=x at *;refine kP (tN (sQ (bK (rZ (lU (iA uT27 zT54 I I hb1 oM sL) (lK (eA iT54 zT54 I hrs.rd hgx) (bW (aL zeroValue54) fun b7=>?_)))))));refine oZ (sK 0 zT54 I I I I I sB) ?_;refine tZ (rG (lM I (lU (fA uT54 I zT3 I) (lK (qL iT3 I (cO 0 I I)) (lW (bS sty22 I I I (szs_mk sB) dC) ?_)))));rintro _ _ _ ⟨b20,rfl,rfl,rfl⟩;refine lW (SO.app1 1 (((rs.take (k+1)).map Rc.id).flatMap encInt.enc) ((rs.take (k+1)).map Rc.id).length sty22 rfl rfl rfl rfl rfl ⟨rfl,trivial⟩ (by rw[htake]; simp[encInt]; rfl) (by rw[htake]; simp) lN lN) ?_;rintro ov' _ _ ⟨rfl,rfl⟩;refine lA I (nL (bN (tN (rG (yD I (lM I (nL (dR (s':=rowA encInt 3 ov' ((rs.take (k+1)).map Rc.id)::s) (.cons _ (.refl _)) ?_))))))));exact ST.again (ov',k+1) sB I I lN lN
 ·refine xI (tX (tX (bX (tN (sW I (aT I (rE ?_)))))));have hkk:rs.take k=rs:=tL oM;rw[hkk];refine fT fun g2 h2 hrow=>?_;exact ST.ret1 (.inl I) results89 I ⟨I,hle.trans h2,by rw[hids]; exact hrow⟩
def PredS (E:World)(pv:Value)(q:Side→Bool)(g:PH):Prop :=
 ∀ g' s a,Le g g'→CallV Tryz.prog E pv [.agg (encSide.enc a).toArray] g' s (fun x g'' s''=>x=vb (q a)∧g'=g''∧s=s'')
theorem indexFuncS (E:World)(g:PH)(s:Own)(v:Value)(kn:FuncId)(kc:Array Value)(l:List Side)(q:Side→Bool)(hv:SlA encSide g v l)(hl:l.length<1099511627776)(hp:PredS E (.func (.func kn) #[] kc) q g) :
  Ctr Tryz.prog E 136 #[v,.func (.func kn) #[] kc] g s (fun r g' s'=>(∃ n:Int,r=vi n∧decide (n≥0)=l.any q)∧g=g'∧s=s'):=by
 obtain ⟨p,c,rfl⟩:=hv.form;refine Ctr.of (args:=[.slice p l.length c,.func (.func kn) #[] kc]) func136 I ntmps136 (bE I) ?_;refine rZ (aT I (sQ (sW I (lU (eN uT37 I) (lM I (tZ (bK ?_)))))));refine oP (ι:=Nat) (fun k=>[(0,.slice p l.length c),(1,.func (.func kn) #[] kc),(7,vi l.length),(8,vi k)]) (fun _=>g) (fun _=>s) (fun k=>k≤l.length∧(l.take k).any q=false) (fun k=>l.length - k) 0
  sB rfl rfl ⟨Nat.zero_le _,by simp⟩ ?_
 rintro k ⟨hk,hno⟩;refine rZ (yL I (tZ (sQ ?_)));refine iP I (fun hlt=>?_) (fun hlt=>?_)
 ·have hkl:k<l.length:=oM;have hb1:=hv.based oM;refine kP (tN (sQ (bK (sW I (aT I (sW I (lM I (lM I (lU (iA uT37 zT56 I I hb1 oM sL) ?_)))))))));refine SL.q (eA iT56 zT56 I hv.rd (gE hkl)) dC ?_;refine lW (SO.callV I I (hp g _ l[k] (Le.refl g))) ?_;rintro _ _ _ ⟨rfl,rfl,rfl⟩;refine tZ ?_;refine iQ I (fun hq=>?_) (fun hq=>?_)
  ·refine sW I (aT I (rE (bR (tR (tR (bR (tR ?_)))))));have hany:l.any q=true:=List.any_eq_true.2 ⟨l[k],gM hkl,hq⟩;exact ST.ret1 (.inl I) results136 I ⟨⟨k,I,by rw[hany]; simp⟩,I,I⟩
  ·refine kP (bN (tN (rG (yD I (lM I (nL ?_))))));exact ST.again (k+1) sB I I ⟨oM,by rw[tS hkl,List.any_append,hno]; simpa using hq⟩ oM
 ·refine xI (tX (tX (bX (tN (rZ (aT I (rE ?_)))))));have hkk:l.take k=l:=tL oM;rw[hkk] at hno;exact ST.ret1 (.inl rfl) results136 rfl ⟨⟨-1,rfl,by rw[hno]; rfl⟩,rfl,rfl⟩
theorem containsFuncS (E:World)(g:PH)(s:Own)(v:Value)(kn:FuncId)(kc:Array Value)(l:List Side)(q:Side→Bool)(hv:SlA encSide g v l)(hl:l.length<1099511627776)(hp:PredS E (.func (.func kn) #[] kc) q g) :
  Ctr Tryz.prog E 131 #[v,.func (.func kn) #[] kc] g s (fun r g' s'=>r=vb (l.any q)∧g=g'∧s=s'):=by
 refine Ctr.of (args:=[v,.func (.func kn) #[] kc]) func131 I ntmps131 (bE I) ?_;refine rZ (aT I (sW I (lM I (lW (SO.call call136 I (indexFuncS E g _ v kn kc l q hv hl hp)) ?_))));rintro _ _ _ ⟨⟨n,rfl,hn⟩,rfl,rfl⟩;refine lU (gQ I I) (aT I (rE ?_));exact ST.ret1 (.inl I) results131 I ⟨by rw[hn],I,I⟩
def hasC (c:Cl)(id:Int):Bool:=c.sides.any fun x=>decide (x.cell=id)
theorem hasP (E:World)(g:PH)(b:Nat)(id:Int)(hb:g b=some (.cells #[vi id] 3 (0,0))):PredS E (.func (.func 132) #[] #[pp b 0]) (fun x=>decide (x.cell=id)) g:=by
 intro g s a hle;refine CallV.mk (cap:=[pp b 0]) call132 ?_;have hb':=hle _ _ hb;refine Ctr.of (args:=[.agg (encSide.enc a).toArray,pp b 0]) func132 I ntmps132 (bE I) ?_;refine rZ (bW (bO I) fun b2=>?_);refine aT I (rZ (lU (fA uT56 I zT3 I) (lK (qL iT3 I (cO 0 I I)) (lK (qL iT3 I (cK hb' I)) (yE I (aT I (rE (dR (s':=s) uR ?_))))))));exact ST.ret1 (.inl I) results132 I ⟨I,I,I⟩
theorem has_spec (E:World)(g:PH)(s:Own)(c:Cl)(r:Rc)(id:Int)(hc:CellR g c r)(hl:c.sides.length<1099511627776) :
  Ctr Tryz.prog E 91 #[rcv r,vi id] g s (fun r g' s'=>r=vb (hasC c id)∧g=g'∧s=s'):=by
 refine Ctr.of (args:=[rcv r,vi id]) func91 I ntmps91 (bE I) ?_;refine rZ (bW (bO I) fun b2=>?_);refine bW (bO I) fun b3=>?_;refine SL.freeze fun g1 hle hb=>?_;refine aT I (rZ (lU (fA uT54 I zT37 I) (lK (qL iT37 I (cO 0 I I)) (lU (SU.mkFunc I) (lW (SO.call call131 I (containsFuncS E g1 _ _ 132 #[pp b3 0] c.sides _ (hc.2.2.mono hle) hl (hasP E g1 b3 id hb))) ?_)))));rintro _ _ _ ⟨rfl,rfl,rfl⟩;refine aT I (rE ?_);refine dR (s':=s) (.cons _ (.refl _)) (ST.less hle ?_);exact ST.ret1 (.inl I) results91 I ⟨I,I,I⟩
theorem aboveP (E:World)(g:PH)(b:Nat)(id:Int)(tl:List Cl)(hf:Fits tl)(hb:g b=some (.cells #[vi id] 3 (0,0))):PredOk E (.func (.func 90) #[] #[pp b 0]) (fun c=>hasC c id) tl g:=by
 intro g s c r hle hm hc;refine CallV.mk (cap:=[pp b 0]) call90 ?_;have hb':=hle _ _ hb;refine Ctr.of (args:=[rcv r,pp b 0]) func90 I ntmps90 (bE I) ?_;refine rZ (bW (bO I) fun b2=>?_);refine aT I (rZ (lK (qV 0 iT54 zT54 I I I) (lK (qL iT3 I (cK hb' I)) (lW (SO.call call91 I (has_spec E g _ c r id hc (hf.2 c hm))) ?_))));rintro _ _ _ ⟨rfl,rfl,rfl⟩;refine aT I (rE (dR (s':=s) uR ?_));exact ST.ret1 (.inl I) results90 I ⟨I,I,I⟩
def aboveC (l:List Cl)(id:Int):List Int:=((tabC l).filter fun c=>hasC c id).map Cl.id
theorem above_spec (E:World)(g:PH)(s:Own)(v:Value)(l:List Cl)(id:Int)(hv:Cells g v l)(hf:Fits l) :
  Ctr Tryz.prog E 55 #[.agg #[v],vi id] g s (fun r g' s'=>s=s'∧Le g g'∧Ints g' r (aboveC l id)):=by
 refine Ctr.of (args:=[.agg #[v],vi id]) func55 I ntmps55 (bE I) ?_;refine rZ (bW (bO I) fun b2=>?_);refine bW (bO I) fun b3=>?_;refine SL.freeze fun g1 hle hb=>?_;refine aT I (rZ (lK (qV 0 iT29 zT29 I I I) (lW (SO.call call49 I (of_spec E g1 _ v l (hv.mono hle) hf)) ?_)));rintro tv g2 _ ⟨rfl,hle2,ht⟩;refine lU (SU.mkFunc I) (lW (SO.call call89 I (names_spec E g2 _ tv _ _ _ ht (tabC_nodup l) (tabC_fits hf) (aboveP E g2 b3 id _ (tabC_fits hf) (hle2 _ _ hb)))) ?_);rintro r8 g3 _ ⟨rfl,hle3,hr⟩;refine aT I (rE (dR (s':=s) uR ?_));exact ST.ret1 (.inl I) results55 I ⟨I,hle.trans (hle2.trans hle3),hr⟩
theorem Tryz.mty71:MTy Tryz.prog 71 3 4 (vb false):=⟨underlying71,underlying3,zeroValue4⟩
def zeroR:Rc:=⟨0,0,none,0,0⟩
def zeroC:Cl:=⟨0,0,[]⟩
theorem all2_findG {R:Cl→Rc→Prop}(hR:∀ c r,R c r→r.id=c.id){tl:List Cl}{rs:List Rc}(h:All2 R tl rs)(k:Int):(tl.find? (fun c=>decide (c.id=k))=none∧mget (rs.map rcPair) k=none)∨∃ c r,tl.find? (fun c=>decide (c.id=k))=some c∧mget (rs.map rcPair) k=some (rcv r)∧R c r:=by
 induction tl generalizing rs with
 | nil=>cases rs with | nil=>exact .inl ⟨rfl,rfl⟩ | cons _ _=>exact h.elim
 | cons c t ih =>
  cases rs with
  | nil=>exact h.elim
  | cons r rs =>
   simp only[List.map_cons,rcPair,mget_cons,List.find?_cons];by_cases hk:c.id=k
   ·right;have:k=r.id:=by rw[hR _ _ h.1,hk]
    exact⟨c,r,by simp[hk],by rw[if_pos this],h.1⟩
   ·have hk2:¬ k=r.id:=by rw[hR _ _ h.1]; exact fun e=>hk e.symm
    simp only[hk,decide_false,if_neg hk2];exact ih h.2
theorem all2_find {g:PH}{tl:List Cl}{rs:List Rc}(h:All2 (CellR g) tl rs)(k:Int):(tl.find? (fun c=>decide (c.id=k))=none∧mget (rs.map rcPair) k=none)∨∃ c r,tl.find? (fun c=>decide (c.id=k))=some c∧mget (rs.map rcPair) k=some (rcv r)∧CellR g c r:=all2_findG (fun _ _ h=>h.1) h k
theorem all2_look {g:PH}{tl:List Cl}{rs:List Rc}(h:All2 (CellR g) tl rs)(hw:∀ g,CellR g zeroC zeroR)(k:Int):∃ r,(mget (rs.map rcPair) k).getD (.agg #[vi 0,vi 0,.slice none 0 0])=rcv r∧(mget (rs.map rcPair) k).isSome=(tl.find? (fun c=>decide (c.id=k))).isSome∧CellR g ((tl.find? (fun c=>decide (c.id=k))).getD zeroC) r:=by
 rcases all2_find h k with ⟨h1,h2⟩ | ⟨c,r,h1,h2,h3⟩
 ·exact⟨zeroR,by rw[h2]; rfl,by rw[h1,h2]; rfl,by rw[h1]; exact hw g⟩
 ·exact⟨r,by rw[h2]; rfl,by rw[h1,h2]; rfl,by rw[h1]; exact h3⟩
theorem zeroCR (g:PH):CellR g zeroC zeroR:=⟨rfl,rfl,Sl.nil g _⟩
def findC (l:List Cl)(id:Int):Option Cl:=(tabC l).find? fun c=>decide (c.id=id)
def sideOf (tl:List Cl)(k:Int):Bool:=tl.any fun c=>hasC c k
def topsC (l:List Cl):List Int:=((tabC l).filter fun c=>!sideOf (tabC l) c.id).map Cl.id
theorem all2_mem {g:PH}{tl:List Cl}{rs:List Rc}(h:All2 (CellR g) tl rs){r:Rc}(hr:r∈rs):∃ c,c∈tl∧CellR g c r:=by
 obtain ⟨i,hi,rfl⟩:=List.getElem_of_mem hr;have hl:=h.length;have hi':i<tl.length:=oM;exact⟨tl[i],gM hi',h.get (gE hi') (gE hi)⟩
theorem nodup_id {tl:List Cl}(h:(tl.map Cl.id).Nodup){a b:Cl}(ha:a∈tl)(hb:b∈tl)(e:a.id=b.id):a=b:=by
 induction tl with
 | nil=>simp at ha
 | cons c t ih =>
  simp only[List.map_cons,List.nodup_cons] at h
  rcases List.mem_cons.1 ha with rfl | ha' <;> rcases List.mem_cons.1 hb with rfl | hb'
  ·rfl
  ·exact absurd (List.mem_map.2 ⟨b,hb',e.symm⟩) h.1
  ·exact absurd (List.mem_map.2 ⟨a,ha',e⟩) h.1
  ·exact ih h.2 ha' hb'
theorem perm_of_ids {vc tl:List Cl}(hs:∀ c∈vc,c∈tl)(hp:(vc.map Cl.id).Perm (tl.map Cl.id))(hn:(tl.map Cl.id).Nodup):vc.Perm tl:=by
 have hn2:(vc.map Cl.id).Nodup:=hp.symm.nodup hn;refine (List.perm_ext_iff_of_nodup (List.Pairwise.of_map Cl.id (fun a b hab e=>hab (by rw[e])) hn2) (List.Pairwise.of_map Cl.id (fun a b hab e=>hab (by rw[e])) hn)).2 fun c=>⟨hs c,fun hc=>?_⟩;obtain ⟨c',h1,h2⟩:=List.mem_map.1 (hp.symm.subset (List.mem_map.2 ⟨c,hc,rfl⟩));rw[← nodup_id hn (hs c' h1) hc h2];exact h1
theorem visited_perm {g:PH}{vl:List (Int×Value)}{rs:List Rc}{vc tl:List Cl}(hv:vl.map Prod.fst=vc.map Cl.id)(hs:∀ c∈vc,c∈tl)(hn:(tl.map Cl.id).Nodup)(hall:All2 (CellR g) tl rs)(hp:vl.Perm (rs.map rcPair)):vc.Perm tl:=by
 refine perm_of_ids hs ?_ hn;have h1:=hp.map Prod.fst;rw[hv,List.map_map] at h1;rw[all2_ids hall];exact h1
theorem get_vi {f:Fr}{t:Nat}{a b:Int}(h:get? f t=some (vi a))(e:a=b):get? f t=some (vi b):=e ▸ h
theorem set_self {α:Type}{s:List α}{i:Nat}{a:α}(h:s[i]?=some a):s.set i a=s:=by
 apply List.ext_getElem?;intro j;rw[List.getElem?_set];split
 ·rename_i e;subst e;split
  ·exact h.symm
  ·rename_i h2;rw[List.getElem?_eq_none oM]
 ·rfl
def findT (tl:List Cl)(id:Int):Option Cl:=tl.find? fun c=>decide (c.id=id)
def setP (vis:List Int):List (Int×Value):=vis.map fun k=>(k,vb true)
theorem setP_set (vis:List Int):SetI (setP vis) (fun k=>vis.contains k):=by
 intro k;induction vis with
 | nil=>rfl
 | cons a t ih =>
  simp only[setP,List.map_cons,mget_cons] at ih ⊢;by_cases h:k=a
  ·simp[h]
  ·have h2:(k == a)=false:=by simpa using h
   rw[if_neg h,ih];simp[h]
theorem setP_put {vis:List Int}{id:Int}(h:vis.contains id=false):mput (setP vis) id (vb true)=setP (vis++[id]):=by
 rw[mput_none _ _ _ (fun p hp=>by
  obtain ⟨a,ha,rfl⟩:=List.mem_map.1 hp;intro e;simp at h;exact h (by rw[← e]; exact ha))]
 simp[setP]
theorem findT_mem {tl:List Cl}{id:Int}{c:Cl}(h:findT tl id=some c):c∈tl∧c.id=id:=⟨List.mem_of_find?_eq_some h,by simpa using List.find?_some h⟩
theorem take_succ_of {α:Type}{l:List α}{j:Nat}{y:α}(h:l[j]?=some y):l.take (j+1)=l.take j++[y]:=by
 obtain ⟨h1,h2⟩:=List.getElem?_eq_some_iff.1 h;rw[tS h1,h2]
theorem get_set {α:Type}{s:List α}{i:Nat}{a:α}(h:s[i]?=some a)(b:α):(s.set i b)[i]?=some b:=by
 have:=(List.getElem?_eq_some_iff.1 h).1;simp[this]
open Go Go.Sy Go.Pl Go.Proofs Go.Shelf Go.Sort
def sortI (l:List Int):List Int:=l.mergeSort fun x y=>decide (x≤y)
theorem sortI_length (l:List Int):(sortI l).length=l.length:=List.length_mergeSort ..
theorem sortI_perm (l:List Int):(sortI l).Perm l:=List.mergeSort_perm ..
def dimBad (c:Cl):Bool:=decide (c.dim<0)||decide (c.dim>8)
def cntBad (c:Cl):Bool:=(decide (c.dim=0)&&decide ((c.sides.length:Int)>0))||(decide (c.dim=1)&&decide ((c.sides.length:Int)≠2))||(decide (c.dim>1)&&(decide ((c.sides.length:Int)<2)||decide ((c.sides.length:Int)>64)))
def badSide (tl:List Cl)(c:Cl)(i:Nat)(x:Side):Bool:=!(findT tl x.cell).isSome||decide (((findT tl x.cell).getD zeroC).dim≠c.dim - 1)||(decide (i>0)&&decide ((c.sides[i - 1]?.map Side.cell)=some x.cell))
section
variable {tl:List Cl}{c p:Cl}{i:Nat}{x:Side}
theorem badSide_a (h:¬ (findT tl x.cell).isSome=true):badSide tl c i x=true:=by
 have:(findT tl x.cell).isSome=false:=by simpa using h
 simp[badSide,this]
theorem badSide_b (h:(findT tl x.cell).isSome=true)(h2:((findT tl x.cell).getD zeroC).dim≠c.dim - 1):badSide tl c i x=true:=by
 simp only[badSide,h,h2,Bool.not_true,Bool.false_or,ne_eq,not_false_eq_true,decide_true,Bool.true_or]
theorem badSide_c (h:(findT tl x.cell).isSome=true)(h2:¬ ((findT tl x.cell).getD zeroC).dim≠c.dim - 1)(h3:¬ (i:Int)>0):badSide tl c i x=false:=by
 have h4:¬ i>0:=oM;simp only[badSide,h,h2,h4,Bool.not_true,Bool.false_or,decide_false,Bool.false_and]
theorem badSide_d {q:Side}(h:(findT tl x.cell).isSome=true)(h2:¬ ((findT tl x.cell).getD zeroC).dim≠c.dim - 1)(h3:(i:Int)>0)(hq:c.sides[i - 1]?=some q):badSide tl c i x=decide (q.cell=x.cell):=by
 have h4:i>0:=oM;simp only[badSide,h,h2,h4,hq,Bool.not_true,Bool.false_or,decide_false,decide_true,Bool.true_and,Option.map_some,Option.some.injEq]
end
def badAt (tl:List Cl)(c:Cl)(i:Nat):Bool:=match c.sides[i]? with
 | some x=>badSide tl c i x
 | none=>false
def signBad (x:Side):Bool:=decide (x.sign≠1)&&decide (x.sign ≠ -1)
theorem signBad_a {x:Side}(h:x.sign≠1):signBad x=decide (x.sign ≠ -1):=by simp[signBad,h]
theorem signBad_b {x:Side}(h:¬ x.sign≠1):signBad x=false:=by simp[signBad,h]
def sumS (l:List Side):Int:=(l.map Side.sign).sum
def formC (tl:List Cl)(c:Cl):Int :=
 if dimBad c then 21 else if cntBad c then 22 else if (List.range c.sides.length).any (badAt tl c) then 22 else if c.sides.any signBad then 23 else if (decide (c.dim=1)&&decide (sumS c.sides≠0)) then 23 else 0
theorem sumS_bound {l:List Side}(h:l.any signBad=false):sumS l≤l.length ∧ -(l.length:Int)≤sumS l:=by
 induction l with
 | nil=>simp[sumS]
 | cons x t ih =>
  simp only[List.any_cons,Bool.or_eq_false_iff] at h;have:=ih h.2;have hx:x.sign=1∨x.sign = -1:=by
   have h1:=h.1;simp only[signBad,Bool.and_eq_false_iff,decide_eq_false_iff_not,ne_eq,Decidable.not_not] at h1;exact h1
  simp only[sumS,List.map_cons,List.sum_cons,List.length_cons] at this ⊢;omega
theorem form_spec (E:World)(g:PH)(s:Own)(v:Value)(tl:List Cl)(c:Cl)(r:Rc)(hv:Tab g v tl)(hc:CellR g c r)(hl:c.sides.length<1099511627776) :
  Ctr Tryz.prog E 51 #[v,rcv r] g s (fun r g' s'=>r=vi (formC tl c)∧g=g'∧s=s'):=by
 obtain ⟨b,mt,iv,rs,rfl,hb,hm,hI,hall⟩:=hv;obtain ⟨ri,rd,rp,rn,rcap⟩:=r;have hcs:SlA encSide g (.slice rp rn rcap) c.sides:=hc.2.2;have hrn:rn=c.sides.length:=Sl.slen hcs;have hrd:rd=c.dim:=hc.2.1;subst hrn hrd;have hx0:=fun h=>hcs.based h;refine Ctr.of (args:=[pp b 0,rcv ⟨ri,c.dim,rp,c.sides.length,rcap⟩]) func51 I ntmps51 (bE I) ?_;refine rZ (bW (bO I) fun b3=>?_);refine aT I (rZ (lU (fA uT54 I zT37 I) (lK (qL iT37 I (cO 0 I I)) (lU (eN uT37 I) (aT I (sQ (bK ?_)))))));refine SC.cutB 16 (dimBad c) ?_ ?_
 ·refine rG (lU (fA uT54 I zT3 I) (lK (qL iT3 I (cO 0 I I)) (yL I (lM I ?_))));refine sP ?_ ?_
  ·intro h20;refine yA I (yA I (yA I (yP I (lA I (nL ?_)))));exact ST.mid1 (by simp_all[get?,dimBad] <;> omega) mI
  ·intro h20;refine lY I I I (fA uT54 I zT3 I) (SL.gq (gT I I I dC) (qL iT3 I (cO 0 I I)) dC (lY I I I (gR I I) (yF I (lA I (nL ?_)))));exact ST.mid1 (by simp_all[get?,dimBad] <;> omega) mI
 refine iQ I (fun hdb=>?_) (fun hdb=>?_)
 ·refine rZ (aT I (rE (bR (tR (dR (s':=s) uR ?_)))));exact ST.ret1 (.inl I) results51 I ⟨by unfold formC; rw[if_pos hdb],I,I⟩
 ·have hd8:0≤c.dim∧c.dim≤8:=by simp[dimBad] at hdb; omega
  refine SC.cutB 25 (cntBad c) ?_ ?_
  ·refine rG (lU (fA uT54 I zT3 I) (lK (qL iT3 I (cO 0 I I)) (yE I (lM I ?_))));refine sP ?_ ?_
   ·intro h29;refine yC I (lY I I I (gR I I) (yP I (lM I ?_)));refine sP ?_ ?_
    ·intro h33;refine yA I (yA I (yA I (yA I (yB I (yB I (yA I (yP I (lM I (yA I (yA I (yA I (yA I (yB I (yB I (yB I (yB I (yB I (yB I (yA I (yP I (lA I (nL ?_))))))))))))))))))))));exact ST.mid1 (by simp_all[get?,cntBad] <;> omega) mI
    ·intro h33;refine lY I I I (fA uT54 I zT3 I) (SL.gq (gT I I I dC) (qL iT3 I (cO 0 I I)) dC (lY I I I (eQ I I) (yC I ?_)));refine sP ?_ ?_
     ·intro h37;refine yC I (lY I I I (nQ I I) (lY I I I (wT I I) (yF I (lM I ?_))));refine sP ?_ ?_
      ·intro h42;refine yA I (yA I (yA I (yA I (yB I (yB I (yB I (yB I (yB I (yB I (yA I (yP I (lA I (nL ?_)))))))))))));exact ST.mid1 (by simp_all[get?,cntBad] <;> omega) mI
      ·intro h42;refine lY I I I (fA uT54 I zT3 I) (SL.gq (gT I I I dC) (qL iT3 I (cO 0 I I)) dC (lY I I I (gR I I) (yC I ?_)));refine sP ?_ ?_
       ·intro h46;refine yC I (lY I I I (lS I I) (yC I ?_));refine sP ?_ ?_
        ·intro h49;refine yA I (yA I (lY I I I (wT I I) (lY I I I (wT I I) (yF I (lA I (nL ?_))))));exact ST.mid1 (by simp_all[get?,cntBad] <;> omega) mI
        ·intro h49;refine yC I (lY I I I (gR I I) (lY I I I (wF I I) (lY I I I (wT I I) (yF I (lA I (nL ?_))))));exact ST.mid1 (by simp_all[get?,cntBad] <;> omega) mI
       ·intro h46;refine yA I (yA I (yA I (yB I (yB I (yA I (lY I I I (wF I I) (yF I (lA I (nL ?_)))))))));exact ST.mid1 (by simp_all[get?,cntBad] <;> omega) mI
     ·intro h37;refine yA I (yA I (lY I I I (wF I I) (yF I (lM I (lY I I I (fA uT54 I zT3 I) (SL.gq (gT I I I dC) (qL iT3 I (cO 0 I I)) dC (lY I I I (gR I I) (yC I ?_))))))));refine sP ?_ ?_
      ·intro h46;refine yC I (lY I I I (lS I I) (yC I ?_));refine sP ?_ ?_
       ·intro h49;refine yA I (yA I (lY I I I (wT I I) (lY I I I (wT I I) (yF I (lA I (nL ?_))))));exact ST.mid1 (by simp_all[get?,cntBad] <;> omega) mI
       ·intro h49;refine yC I (lY I I I (gR I I) (lY I I I (wF I I) (lY I I I (wT I I) (yF I (lA I (nL ?_))))));exact ST.mid1 (by simp_all[get?,cntBad] <;> omega) mI
      ·intro h46;refine yA I (yA I (yA I (yB I (yB I (yA I (lY I I I (wF I I) (yF I (lA I (nL ?_)))))))));exact ST.mid1 (by simp_all[get?,cntBad] <;> omega) mI
   ·intro h29;refine yA I (yA I (yF I (lM I (lY I I I (fA uT54 I zT3 I) (SL.gq (gT I I I dC) (qL iT3 I (cO 0 I I)) dC (lY I I I (eQ I I) (yC I ?_)))))));refine sP ?_ ?_
    ·intro h37;refine yC I (lY I I I (nQ I I) (lY I I I (wT I I) (yF I (lM I ?_))));refine sP ?_ ?_
     ·intro h42;refine yA I (yA I (yA I (yA I (yB I (yB I (yB I (yB I (yB I (yB I (yA I (yP I (lA I (nL ?_)))))))))))));exact ST.mid1 (by simp_all[get?,cntBad] <;> omega) mI
     ·intro h42;refine lY I I I (fA uT54 I zT3 I) (SL.gq (gT I I I dC) (qL iT3 I (cO 0 I I)) dC (lY I I I (gR I I) (yC I ?_)));refine sP ?_ ?_
      ·intro h46;refine yC I (lY I I I (lS I I) (yC I ?_));refine sP ?_ ?_
       ·intro h49;refine yA I (yA I (lY I I I (wT I I) (lY I I I (wT I I) (yF I (lA I (nL ?_))))));exact ST.mid1 (by simp_all[get?,cntBad] <;> omega) mI
       ·intro h49;refine yC I (lY I I I (gR I I) (lY I I I (wF I I) (lY I I I (wT I I) (yF I (lA I (nL ?_))))));exact ST.mid1 (by simp_all[get?,cntBad] <;> omega) mI
      ·intro h46;refine yA I (yA I (yA I (yB I (yB I (yA I (lY I I I (wF I I) (yF I (lA I (nL ?_)))))))));exact ST.mid1 (by simp_all[get?,cntBad] <;> omega) mI
    ·intro h37;refine yA I (yA I (lY I I I (wF I I) (yF I (lM I (lY I I I (fA uT54 I zT3 I) (SL.gq (gT I I I dC) (qL iT3 I (cO 0 I I)) dC (lY I I I (gR I I) (yC I ?_))))))));refine sP ?_ ?_
     ·intro h46;refine yC I (lY I I I (lS I I) (yC I ?_));refine sP ?_ ?_
      ·intro h49;refine yA I (yA I (lY I I I (wT I I) (lY I I I (wT I I) (yF I (lA I (nL ?_))))));exact ST.mid1 (by simp_all[get?,cntBad] <;> omega) mI
      ·intro h49;refine yC I (lY I I I (gR I I) (lY I I I (wF I I) (lY I I I (wT I I) (yF I (lA I (nL ?_))))));exact ST.mid1 (by simp_all[get?,cntBad] <;> omega) mI
     ·intro h46;refine yA I (yA I (yA I (yB I (yB I (yA I (lY I I I (wF I I) (yF I (lA I (nL ?_)))))))));exact ST.mid1 (by simp_all[get?,cntBad] <;> omega) mI
  refine iQ I (fun hcb=>?_) (fun hcb=>?_)
  ·refine rZ (aT I (rE (bR (tR (dR (s':=s) uR ?_)))));exact ST.ret1 (.inl I) results51 I ⟨by unfold formC; rw[if_neg (by simp[hdb]),if_pos hcb],I,I⟩
  ·have hn64:c.sides.length≤64:=by
    simp[cntBad] at hcb
    rcases Int.lt_trichotomy c.dim 1 with h | h | h
    ·have:c.dim=0:=oM;have:=hcb.1.1 this;simp[this]
    ·have:=hcb.1.2 h;omega
    ·have:=hcb.2 h;omega
   refine kP (bN (tN (sQ (rZ (lU (fA uT54 I zT37 I) (lK (qL iT37 I (cO 0 I I)) (lU (eN uT37 I) (lM I (tZ (bK ?_))))))))));refine oP (ι:=Nat) (fun k=>[(0,pp b 0),(3,pp b3 0),(5,vi c.sides.length),(56,.slice rp c.sides.length rcap),(57,vi c.sides.length),(58,vi k)]) (fun _=>g)
    (fun _=>pt b3 (.cells #[vi ri,vi c.dim,.slice rp c.sides.length rcap] 54 (0,0))::s) (fun k=>k≤c.sides.length∧(List.range k).any (badAt tl c)=false) (fun k=>c.sides.length - k) 0
    sB rfl rfl ⟨Nat.zero_le _,by simp⟩ ?_
   rintro k ⟨hk,hno⟩;try dsimp only
   refine rZ (yL I (tZ (sQ ?_)));refine iP I (fun hlt=>?_) (fun hlt=>?_)
   ·have hkl:k<c.sides.length:=oM;have hb1:=hx0 oM;have hjx:c.sides[((k:Nat):Int).toNat]?=some c.sides[k]:=gE hkl;have hjx':c.sides[k]?=some c.sides[k]:=gE hkl;generalize c.sides[k]=y at *;obtain ⟨x,hx1,hx2,hx3⟩:=all2_look hall zeroCR y.cell;obtain ⟨xi,xd,xp,xn,xc⟩:=x;have hxd:xd=((findT tl y.cell).getD zeroC).dim:=hx3.2.1;subst hxd;have hprev:(k:Int)>0→c.sides[((k:Int) - 1).toNat]?=some (c.sides.getD (k - 1) y):=fun h=>by
     have h1:((k:Int) - 1).toNat=k - 1:=oM;have h2:k - 1<c.sides.length:=oM;rw[h1,gE h2,List.getD_eq_getElem?_getD,gE h2];rfl
    have hprev2:(k:Int)>0→c.sides[k - 1]?=some (c.sides.getD (k - 1) y):=fun h=>by
     have h2:k - 1<c.sides.length:=oM;rw[gE h2,List.getD_eq_getElem?_getD,gE h2];rfl
    refine kP (tN (sQ (bK (sW I (lU (iA uT37 zT56 I I hb1 oM sL) (lK (eA iT56 zT56 I hcs.rd hjx) (bW (aL zeroValue56) fun b7=>?_)))))));refine lA I (oZ (sK 0 zT56 I I I I I sB) ?_);refine tZ (sQ ?_);refine dW [11,12] [(0,2),(1,2),(2,2),(3,1),(4,2),(5,1),(6,1),(7,2),(8,2),(9,2),(10,0),(11,0),(12,0)] Tryz.mixed kR ?_;refine yM rfl (pU rfl (nC rfl) (pU rfl (fA uT127 rfl zT125 rfl) (pK rfl (qL iT125 rfl (cK hb rfl)) (pU rfl (fA uT56 rfl zT3 rfl) (pK rfl (qL iT3 rfl (cO 0 rfl rfl)) (pK rfl (SQ.eq (v':=.tuple #[rcv ⟨xi,((findT tl y.cell).getD zeroC).dim,xp,xn,xc⟩,vb (decide ((findT tl y.cell).isSome=true))]) (SQ.lookupOk mty125 rfl rfl (MapAt.known hm)) (by rw[hx1,hx2,Bool.decide_eq_true]; rfl)) ?_))))));refine yM I (pU I (xT I I) (pU I (xT I I) (SP.o I (aL zeroValue54) dC (.inr iR) ?_)));rintro _ _ _ ⟨b8,rfl,rfl,rfl⟩;refine SP.on I (sK 0 zT54 I I I I I sB) (.inl dC) ?_;rintro _ _ _ ⟨rfl,rfl⟩;refine oU I (aS I) dC (.inl dC) (pN (tN ?_));refine SC.cutB 98 (badSide tl c k y) ?_ ?_
    ·refine dW [] [(0,2),(1,2),(2,2),(3,2),(4,1),(5,2),(6,1),(7,2),(8,2),(9,2),(10,2),(11,2),(12,2),(13,2),(14,2),(15,1),(16,2),(17,2),(18,2),(19,2),(20,1),(21,2),(22,1),(23,2),(24,2),(25,2)] Tryz.mixed kR ?_;refine yM I (pU I (SU.notP I) (yM I ?_));refine SP.split ?_ ?_
     ·intro h75;refine yG I (yI I (yG I (yI I (yG I (yG I (pU I (wT I I) (yM I (yG I (yG I (yG I (yH I (SP.off1 I (Gd.off I I I dC) dC (yH I (yH I (yH I (yH I (SP.off1 I (Gd.off I I I dC) dC (yH I (SP.off1 I (Gd.off I I I dC) dC (yH I (yG I (pU I (wT I I) (pN ?_)))))))))))))))))))))));exact ST.mid1 (by exact congrArg (fun b=>some (Value.bool b)) (badSide_a h75).symm) mI
     ·intro h75;refine SP.gu I (gT I I I dC) (fA uT54 I zT3 I) dC (SP.gq I (gT I I I dC) (qL iT3 I (cO 0 I I)) dC (SP.gu I (gT I I I dC) (fA uT54 I zT3 I) dC (SP.gq I (gT I I I dC) (qL iT3 I (cO 2 I I)) dC (SP.gu I (gT I I I dC) (sU I I oM) dC (SP.gu I (gT I I I dC) (nQ I I) dC (pU I (wF I I) (yM I ?_)))))));refine SP.split ?_ ?_
      ·intro h83;refine yG I (yG I (yG I (yH I (SP.off1 I (Gd.off I I I dC) dC (yH I (yH I (yH I (yH I (SP.off1 I (Gd.off I I I dC) dC (yH I (SP.off1 I (Gd.off I I I dC) dC (yH I (yG I (pU I (wT I I) (pN ?_)))))))))))))));exact ST.mid1 (by exact congrArg (fun b=>some (Value.bool b)) (badSide_b (Decidable.of_not_not h75) h83).symm) mI
      ·intro h83;refine yJ I (SP.gu I (gT I I I dC) (gR I I) dC (yJ I ?_));refine SP.split ?_ ?_
       ·intro h86;refine SP.gu I (gT I I I dC) (fA uT54 I zT37 I) dC (SP.gq I (gT I I I dC) (qL iT37 I (cO 2 I I)) dC (yJ I (SP.gu I (gT I I I dC) (sU I I oM) dC (SP.gu I (gT I I I dC) (iA uT37 zT56 I I (by assumption) oM (by (simp[slen]; omega))) dC ?_))));refine SP.gu I (gT I I I dC) (fC uT56 I zT3 I (by assumption)) dC ?_;refine SP.gq I (gT I I I dC) (aZ (o:=0) iT3 I hcs.rd (hprev h86) I) dC (SP.gu I (gT I I I dC) (fA uT56 I zT3 I) dC (SP.gq I (gT I I I dC) (qL iT3 I (cO 1 I I)) dC (SP.gu I (gT I I I dC) (eQ I I) dC (SP.gu I (gT I I I dC) (wT I I) dC (pU I (wF I I) (pN ?_))))));exact ST.mid1 (by exact congrArg (fun b=>some (Value.bool b)) (badSide_d (Decidable.of_not_not h75) h83 h86 (hprev2 h86)).symm) mI
       ·intro h86;refine yG I (yI I (yG I (yG I (yG I (yG I (yI I (yG I (yI I (yG I (SP.gu I (gT I I I dC) (wF I I) dC (pU I (wF I I) (pN ?_))))))))))));exact ST.mid1 (by exact congrArg (fun b=>some (Value.bool b)) (badSide_c (Decidable.of_not_not h75) h83 h86).symm) mI
    have hbat:badAt tl c k=badSide tl c k y:=by unfold badAt; rw[hjx']
    refine iQ I (fun hbad=>?_) (fun hbad=>?_)
    ·refine rZ (aT I (rE (bR (tR (tR (bR (tR (dR (s':=s) uR ?_))))))));have hany:(List.range c.sides.length).any (badAt tl c)=true:=List.any_eq_true.2 ⟨k,List.mem_range.2 hkl,by rw[hbat]; exact hbad⟩;exact ST.ret1 (.inl I) results51 I ⟨by unfold formC; rw[if_neg (by simp[hdb]),if_neg (by simp[hcb]),if_pos hany],I,I⟩
    ·refine kP (bN (tN (rG (yD I (lM I (nL (dR (s':=pt b3 (.cells #[vi ri,vi c.dim,.slice rp c.sides.length rcap] 54 (0,0))::s) (.cons _ (.cons _ (.refl _))) ?_)))))));exact ST.again (k+1) sB I I ⟨oM,by rw[List.range_succ,List.any_append,hno]; simp[hbat,hbad]⟩ oM
   ·refine xI (tX (tX (bX (tN (rZ (aT I (sQ (rZ (lU (fA uT54 I zT37 I) (lK (qL iT37 I (cO 0 I I)) (lU (eN uT37 I) (lM I (tZ (bK ?_))))))))))))));have hkk:k=c.sides.length:=oM;subst hkk;refine oP (ι:=Nat) (fun k=>[(3,pp b3 0),(10,vi (sumS (c.sides.take k))),(101,.slice rp c.sides.length rcap),(102,vi c.sides.length),(103,vi k)]) (fun _=>g)
     (fun _=>pt b3 (.cells #[vi ri,vi c.dim,.slice rp c.sides.length rcap] 54 (0,0))::s) (fun k=>k≤c.sides.length∧(c.sides.take k).any signBad=false) (fun k=>c.sides.length - k) 0
     sB rfl rfl ⟨Nat.zero_le _,by simp⟩ ?_
    rintro k ⟨hk2,hns⟩;try dsimp only
    have hsb:=sumS_bound hns;have htl:(c.sides.take k).length=k:=by simp; omega
    refine rZ (yL I (tZ (sQ ?_)));refine iP I (fun hlt2=>?_) (fun hlt2=>?_)
    ·have hkl:k<c.sides.length:=oM;have hb1:=hx0 oM;have hjx:c.sides[((k:Nat):Int).toNat]?=some c.sides[k]:=gE hkl;have htk:c.sides.take (k+1)=c.sides.take k++[c.sides[k]]:=tS hkl;have hmemy:c.sides[k]∈c.sides:=gM hkl;generalize c.sides[k]=y at *;refine kP (tN (sQ (bK (rZ (lU (iA uT37 zT56 I I hb1 oM sL) (lK (eA iT56 zT56 I hcs.rd hjx) (bW (aL zeroValue56) fun b12=>?_)))))));refine oZ (sK 0 zT56 I I I I I sB) ?_;refine tZ (sQ ?_);refine SC.cutB 114 (signBad y) ?_ ?_
     ·refine rG (lU (fA uT56 I zT3 I) (lK (qL iT3 I (cO 0 I I)) (lU (nQ I I) (lM I ?_))));refine sP ?_ ?_
      ·intro h110;refine lY I I I (fA uT56 I zT3 I) (SL.gq (gT I I I dC) (qL iT3 I (cO 0 I I)) dC (lY I I I (nQ I I) (yP I (nL ?_))));exact ST.mid1 (by exact congrArg (fun b=>some (Value.bool b)) (signBad_a h110).symm) mI
      ·intro h110;refine yA I (yA I (yA I (yF I (nL ?_))));exact ST.mid1 (by exact congrArg (fun b=>some (Value.bool b)) (signBad_b h110).symm) mI
     refine iQ I (fun hsg=>?_) (fun hsg=>?_)
     ·refine rZ (aT I (rE (tR (bR (tR (tR (bR (tR (dR (s':=s) uR ?_)))))))));have hany:c.sides.any signBad=true:=List.any_eq_true.2 ⟨y,hmemy,hsg⟩;exact ST.ret1 (.inl I) results51 I ⟨by unfold formC; rw[if_neg (by simp[hdb]),if_neg (by simp[hcb]),if_neg (by simp[hno]),if_pos hany],I,I⟩
     ·have hyb:y.sign=1∨y.sign = -1:=by
       simp only[signBad,Bool.and_eq_false_iff,decide_eq_false_iff_not,ne_eq,Decidable.not_not] at hsg;exact hsg
      refine kP (tN (rG (lM I (lU (fA uT56 I zT3 I) (lK (qL iT3 I (cO 0 I I)) (lU (aD (m:=sumS (c.sides.take k)) (n:=y.sign) I I oM) (lA I (nL (bN (tN (rG (yD I (lM I (nL (dR (s':=pt b3 (.cells #[vi ri,vi c.dim,.slice rp c.sides.length rcap] 54 (0,0))::s) (.cons _ (.refl _)) ?_)))))))))))))));exact ST.again (k+1) ⟨I,get_vi I (by rw[htk]; simp[sumS]),I,I,I,trivial⟩ I I ⟨oM,by rw[htk,List.any_append,hns]; simp[hsg]⟩ oM
    ·have hkk:c.sides.take k=c.sides:=tL oM;rw[hkk] at hns;rw[hkk];refine xI (tX (tX (bX (tN (sQ ?_)))));refine SC.cutB 126 ((decide (c.dim=1)&&decide (sumS c.sides≠0))) ?_ ?_
     ·refine rG (lU (fA uT54 I zT3 I) (lK (qL iT3 I (cO 0 I I)) (yE I (lM I ?_))));refine sP ?_ ?_
      ·intro h123;refine yC I (lY I I I (nQ I I) (yP I (nL ?_)));exact ST.mid1 (by simp_all[get?]) mI
      ·intro h123;refine yA I (yA I (yF I (nL ?_)));exact ST.mid1 (by simp_all[get?]) mI
     refine iQ I (fun hend=>?_) (fun hend=>?_)
     ·refine rZ (aT I (rE (tR (dR (s':=s) uR ?_))));exact ST.ret1 (.inl I) results51 I ⟨by unfold formC; rw[if_neg (by simp[hdb]),if_neg (by simp[hcb]),if_neg (by simp[hno]),if_neg (by simp[hns]),if_pos hend],I,I⟩
     ·refine kP (tN (rZ (aT I (rE (dR (s':=s) uR ?_)))));exact ST.ret1 (.inl I) results51 I ⟨by unfold formC; rw[if_neg (by simp[hdb]),if_neg (by simp[hcb]),if_neg (by simp[hno]),if_neg (by simp[hns]),if_neg (by rw[hend]; simp)],I,I⟩
theorem Tryz.mty70:MTy Tryz.prog 70 3 3 (vi 0):=⟨underlying70,underlying3,zeroValue3⟩
theorem Tryz.mty69:MTy Tryz.prog 69 3 22 (.slice none 0 0):=⟨underlying69,underlying3,zeroValue22⟩
abbrev Ms:=List (Int×Value×List Int)
def rowsM (ms:Ms):Own:=ms.map fun t=>rowA encInt 3 t.2.1 t.2.2
def prsM (ms:Ms):List (Int×Value):=ms.map fun t=>(t.1,t.2.1)
def conM (ms:Ms):List (Int×List Int):=ms.map fun t=>(t.1,t.2.2)
def addL:List (Int×List Int)→Int→Int→List (Int×List Int)
 | [],k,x=>[(k,[x])]
 | (a,l)::r,k,x=>if k=a then (a,l++[x])::r else (a,l)::addL r k x
def addZ:List (Int×Int)→Int→Int→List (Int×Int)
 | [],k,x=>[(k,x)]
 | (a,z)::r,k,x=>if k=a then (a,z+x)::r else (a,z)::addZ r k x
def getZ:List (Int×Int)→Int→Int
 | [],_=>0
 | (a,z)::r,k=>if k=a then z else getZ r k
def prsZ (zl:List (Int×Int)):List (Int×Value):=zl.map fun p=>(p.1,vi p.2)
theorem getZ_map (zl:List (Int×Int))(k:Int):(mget (prsZ zl) k).getD (vi 0)=vi (getZ zl k):=by
 induction zl with
 | nil=>rfl
 | cons p r ih =>
  obtain ⟨a,z⟩:=p;simp only[prsZ,List.map_cons,mget_cons,getZ] at ih ⊢;split
  ·rfl
  ·exact ih
theorem addZ_map (zl:List (Int×Int))(k x:Int):mput (prsZ zl) k (vi (getZ zl k+x))=prsZ (addZ zl k x):=by
 induction zl with
 | nil=>simp[prsZ,mput,addZ,getZ]
 | cons p r ih =>
  obtain ⟨a,z⟩:=p;simp only[prsZ,List.map_cons,mput,getZ,addZ] at ih ⊢;split
  ·rename_i h; subst h; rfl
  ·simp only[List.map_cons,ih]
theorem getZ_bound {zl:List (Int×Int)}{B:Int}(hB:0≤B)(h:∀ p∈zl,-B≤p.2∧p.2≤B)(k:Int) : -B≤getZ zl k∧getZ zl k≤B:=by
 induction zl with
 | nil=>simp only[getZ]; omega
 | cons p r ih =>
  obtain ⟨a,z⟩:=p;simp only[getZ];split
  ·exact h (a,z) (by simp)
  ·exact ih fun q hq=>h q (by simp[hq])
theorem addZ_bound {zl:List (Int×Int)}{B:Int}(hB:0≤B)(h:∀ p∈zl,-B≤p.2∧p.2≤B)(k:Int){x:Int}(hx : -1≤x∧x≤1):∀ p∈addZ zl k x,-(B+1)≤p.2∧p.2≤B+1:=by
 induction zl with
 | nil =>
  intro p hp;simp only[addZ,List.mem_singleton] at hp;subst hp;dsimp only;omega
 | cons q r ih =>
  obtain ⟨a,z⟩:=q;intro p hp;simp only[addZ] at hp;have h0:=h (a,z) (by simp);dsimp only at h0;split at hp
  ·rcases List.mem_cons.1 hp with rfl | hp
   ·dsimp only; omega
   ·have:=h p (by simp[hp]); omega
  ·rcases List.mem_cons.1 hp with rfl | hp
   ·dsimp only; omega
   ·exact ih (fun q hq=>h q (by simp[hq])) p hp
theorem prep (ms:Ms)(k:Int):∃ (ms':Ms) (j:Nat) (v:Value) (l:List Int),ms'[j]?=some (k,v,l)∧(mget (prsM ms) k).getD (.slice none 0 0)=v∧(∀ v' x,mput (prsM ms) k v'=prsM (ms'.set j (k,v',l++[x]))) ∧
  (∀ v' x,conM (ms'.set j (k,v',l++[x]))=addL (conM ms) k x)∧(∀ B,(∀ t∈ms,t.2.2.length≤B)→∀ t∈ms',t.2.2.length≤B)∧∀ E g (hd s:Own) w,At E g (hd++(rowsM ms++s)) w→At E g (hd++(rowsM ms'++s)) w:=by
 induction ms with
 | nil =>
  refine⟨[(k,.slice none 0 0,[])],0,.slice none 0 0,[],I,I,fun v' x=>I,fun v' x=>by simp[conM,addL],fun B _ t ht=>by simp at ht; subst ht; simp,fun E g hd s w h=>?_⟩;have h1:=h.nilRow 3 1;refine h1.perm ?_;simp only[rowsM,List.map_nil,List.nil_append,List.map_cons,List.singleton_append];exact List.perm_middle.symm
 | cons p r ih =>
  obtain ⟨a,u,l0⟩:=p;by_cases hk:k=a
  ·subst hk;refine⟨(k,u,l0)::r,0,u,l0,I,by simp[prsM,mget_cons],fun v' x=>by simp[prsM,mput],fun v' x=>by simp[conM,addL],fun B h=>h,fun E g hd s w h=>h⟩
  ·obtain ⟨ms',j,v,l,h1,h2,h3,h4,h6,h5⟩:=ih;refine⟨(a,u,l0)::ms',j+1,v,l,by simpa using h1,?_,fun v' x=>?_,fun v' x=>?_,fun B h t ht=>?_,fun E g hd s w h=>?_⟩
   ·rw[← h2];simp[prsM,mget_cons,hk]
   ·have:=h3 v' x;simp only[prsM,List.map_cons,mput,List.set_cons_succ] at this ⊢;rw[if_neg hk,this]
   ·have:=h4 v' x;simp only[conM,List.map_cons,addL,List.set_cons_succ] at this ⊢;rw[if_neg hk,this]
   ·rcases List.mem_cons.1 ht with rfl | ht
    ·exact h _ (by simp)
    ·exact h6 B (fun t ht=>h t (by simp[ht])) t ht
   ·have:=h5 E g (hd++[rowA encInt 3 u l0]) s w (by simpa [rowsM] using h);simpa [rowsM] using this
theorem SC.to {P:Program}{N:Nat}{E:World}{c:Code}{Q:Exit→Act→World→Prop}{f:Fr}{g g':PH}{s s':Own}(h:∀ w,At E g s w→At E g' s' w)(hc:SC P N E c Q f g' s'):SC P N E c Q f g s:=fun a w ha hw=>hc a w ha (h w hw)
theorem ST.to {N:Nat}{E:World}{e:Exit}{Q:Exit→Act→World→Prop}{f:Fr}{g g':PH}{s s':Own}(h:∀ w,At E g s w→At E g' s' w)(hc:ST N E Q e f g' s'):ST N E Q e f g s:=fun a w ha hw=>hc a w ha (h w hw)
theorem SL.to {P:Program}{N:Nat}{E:World}{ops:Array Oper}{l:List Oper}{Q:Exit→Act→World→Prop}{f:Fr}{g g':PH}{s s':Own}(h:∀ w,At E g s w→At E g' s' w)(hc:SL P N E ops Q l f g' s'):SL P N E ops Q l f g s:=fun a w ha hw=>hc a w ha (h w hw)
theorem take_set_sub {α:Type}(s:List α)(n j:Nat)(x:α):(s.take n).Sublist (s.set (j+n) x):=by
 rw[show s.take n=(s.set (j+n) x).take n by rw[List.take_set_of_le oM]];exact List.take_sublist _ _
theorem SC.drawT {P:Program}{N:Nat}{E:World}{ops:Array Oper}{Q:Exit→Act→World→Prop}{f:Fr}{g:PH}{s:Own}{id:Nat}(n:Nat)(tail:List Nat)(plan:List (Nat×Nat))(hm:P.follows .mixedOrders=true)(hok:drawOk ops tail plan=true)
  (h:SP P N E ops Q g (s.take n) tail plan f g s):SC P N E (.region id ops true) Q f g s:=by
 intro a w ha hw;unfold drawOk at hok;simp only[Bool.and_eq_true,beq_iff_eq] at hok;refine wp_region_any hm (wpAny_of_T _ _ _ _ (S:=At E g (s.take n)) (tail:=tail) ?_);have:=h (Array.replicate ops.size false) a { w with drawn:=w.drawn+1 } hok.1.1 (closed_none _) hok.2 ha (hw.drew _ (Nat.le_succ _)) (fun _=>(hw.sublist (List.take_sublist n s)).drew _ (Nat.le_succ _));rw[hok.1.2] at this;exact this
theorem rows_get {ms:Ms}{j:Nat}{k:Int}{v:Value}{l:List Int}(h:ms[j]?=some (k,v,l))(s:Own):(rowsM ms++s)[j]?=some (rowA encInt 3 v l):=by
 have hj:=(List.getElem?_eq_some_iff.1 h).1;rw[List.getElem?_append_left (by simpa [rowsM] using hj)];simp[rowsM,h]
theorem rows_set {ms:Ms}{j:Nat}{k:Int}{v v':Value}{l l':List Int}(h:ms[j]?=some (k,v,l))(s:Own):(rowsM ms++s).set j (rowA encInt 3 v' l')=rowsM (ms.set j (k,v',l'))++s:=by
 have hj:=(List.getElem?_eq_some_iff.1 h).1;rw[List.set_append_left _ _ (by simpa [rowsM] using hj)];simp[rowsM,List.map_set]
theorem freezeRows {E:World}{w:World}:∀ (ms:Ms) (g:PH) (s:Own),At E g (rowsM ms++s) w→∃ g',Le g g'∧At E g' s w∧∀ t∈ms,Ints g' t.2.1 t.2.2
 | [],g,s,h=>⟨g,Le.refl g,h,by simp⟩
 | (a,v,l)::r,g,s,h=>by
  have h':At E g (row 3 1 v l.length (l.flatMap encInt.enc)::(rowsM r++s)) w:=h;obtain ⟨g1,hl1,h1,h2⟩:=h'.freezeRow;obtain ⟨g2,hl2,h3,h4⟩:=freezeRows r g1 s h1;refine⟨g2,hl1.trans hl2,h3,fun t ht=>?_⟩
  rcases List.mem_cons.1 ht with rfl | ht
  ·exact Sl.mono h2 hl2
  ·exact h4 t ht
theorem SC.freezeRows {P:Program}{N:Nat}{E:World}{c:Code}{Q:Exit→Act→World→Prop}{f:Fr}{g:PH}{s:Own}{ms:Ms}(h:∀ g',Le g g'→(∀ t∈ms,Ints g' t.2.1 t.2.2)→SC P N E c Q f g' s):SC P N E c Q f g (rowsM ms++s):=fun a w ha hw=>by
 obtain ⟨g',h1,h2,h3⟩:=Go.Proofs.YtmmghffoakhheaaGreatDoor.freezeRows ms g s hw;exact h g' h1 h3 a w ha h2
def dfs (adj:Int→Option (List Int)):Nat→Int→List Int→List Int
 | 0,_,vis=>vis
 | n+1,id,vis =>
  match adj id with
  | none=>vis
  | some l=>if vis.contains id then vis else l.foldl (fun v x=>dfs adj n x v) (vis++[id])
theorem dfs_succ (adj:Int→Option (List Int))(n:Nat)(id:Int)(vis:List Int):dfs adj (n+1) id vis=(match adj id with
  | none=>vis
  | some l=>if vis.contains id then vis else l.foldl (fun v x=>dfs adj n x v) (vis++[id])):=rfl
theorem dfs_sub (adj:Int→Option (List Int)):∀ (n:Nat) (id:Int) (vis:List Int) (x:Int),x∈vis→x∈dfs adj n id vis
 | 0,_,_,_,h=>h
 | n+1,id,vis,x,h=>by
  unfold dfs;split
  ·exact h
  ·split
   ·exact h
   ·have:∀ (l:List Int) (v:List Int),x∈v→x∈l.foldl (fun v y=>dfs adj n y v) v:=by
     intro l;induction l with
     | nil=>intro v hv; exact hv
     | cons y t ih=>intro v hv; exact ih _ (dfs_sub adj n y v x hv)
    exact this _ _ (by simp[h])
def getL:List (Int×List Int)→Int→List Int
 | [],_=>[]
 | (a,l)::r,k=>if k=a then l else getL r k
def hasL (jl:List (Int×List Int))(k:Int):Bool:=jl.any fun p=>decide (p.1=k)
theorem getL_none {jl:List (Int×List Int)}{k:Int}(h:hasL jl k=false):getL jl k=[]:=by
 induction jl with
 | nil=>rfl
 | cons p r ih =>
  obtain ⟨a,l⟩:=p;simp only[hasL,List.any_cons,Bool.or_eq_false_iff,decide_eq_false_iff_not] at h;simp only[getL];rw[if_neg (fun e=>h.1 e.symm)];exact ih h.2
def cntK (jl:List (Int×List Int))(vis:List Int):Nat:=(jl.filter fun p=>!vis.contains p.1).length
theorem cntK_mono {tl:List (Int×List Int)}{v v':List Int}(h:∀ x∈v,x∈v'):cntK tl v'≤cntK tl v:=by
 unfold cntK;rw[← List.countP_eq_length_filter,← List.countP_eq_length_filter];apply List.countP_mono_left;intro c _ hp;simp at hp ⊢;exact fun e=>hp (h _ e)
theorem cntK_lt {tl:List (Int×List Int)}{v:List Int}{k:Int}(hc:hasL tl k=true)(hn:v.contains k=false):cntK tl (v++[k])<cntK tl v:=by
 induction tl with
 | nil=>simp[hasL] at hc
 | cons d t ih =>
  have hm:cntK t (v++[k])≤cntK t v:=cntK_mono (fun x hx=>by simp[hx]);have e1:∀ u:List Int,cntK (d::t) u=(if u.contains d.1 then 0 else 1)+cntK t u:=fun u=>by
   unfold cntK;rw[List.filter_cons];cases u.contains d.1 <;> simp <;> omega
  rw[e1,e1];simp only[hasL,List.any_cons,Bool.or_eq_true,decide_eq_true_eq] at hc
  rcases hc with rfl | hc'
  ·have:(v++[d.1]).contains d.1=true:=by simp
   rw[this,hn];simp;omega
  ·have:=ih hc';cases h1:v.contains d.1
   ·cases h2:(v++[k]).contains d.1 <;> simp <;> omega
   ·have h2:(v++[k]).contains d.1=true:=by simp at h1 ⊢; exact .inl h1
    rw[h2];simp;exact this
theorem look_list {g:PH}(js:Ms)(h:∀ t∈js,Ints g t.2.1 t.2.2)(k:Int):∃ v,(mget (prsM js) k).getD (.slice none 0 0)=v∧Ints g v (getL (conM js) k):=by
 induction js with
 | nil=>exact⟨_,rfl,Sl.nil g _⟩
 | cons p r ih =>
  obtain ⟨a,u,l⟩:=p;by_cases hk:k=a
  ·subst hk;exact⟨u,by simp[prsM,mget_cons],by simpa [conM,getL] using h (k,u,l) (by simp)⟩
  ·obtain ⟨v,h1,h2⟩:=ih fun t ht=>h t (by simp[ht]);exact⟨v,by simpa [prsM,mget_cons,hk] using h1,by simpa [conM,getL,hk] using h2⟩
def adjJ (jl:List (Int×List Int))(i:Int):Option (List Int):=some (getL jl i)
theorem visit_spec (E:World)(g:PH)(bs bj bf m mj:Nat)(js:Ms)(hj:Mp g mj (prsM js))(hjs:∀ t∈js,Ints g t.2.1 t.2.2)(hlen:∀ t∈js,t.2.2.length<1099511627776)(h1:g bs=some (.cells #[.map (some m)] 71 (0,0)))(h2:g bj=some (.cells #[.map (some mj)] 69 (0,0)))
  (h3:g bf=some (.cells #[.func (.func 86) #[] #[pp bs 0,pp bj 0,pp bf 0]] 131 (0,0))):∀ (n:Nat) (id:Int) (vis:List Int) (s:Own) (i:Nat),cntK (conM js) vis<n→s[i]?=some (mp m (setP vis)) →
  Ctr Tryz.prog E 86 #[vi id,pp bs 0,pp bj 0,pp bf 0] g s (fun _ g' s'=>g=g'∧s'=s.set i (mp m (setP (dfs (adjJ (conM js)) n id vis)))):=by
 intro n;induction n with
 | zero=>intro id vis s i h; omega
 | succ n ih =>
 intro id vis s i hcnt hi;obtain ⟨v,hv1,hv2⟩:=look_list js hjs id;have hvl:(getL (conM js) id).length<1099511627776:=by
  have:∀ q:Ms,(∀ t∈q,t.2.2.length<1099511627776)→(getL (conM q) id).length<1099511627776:=by
   intro q hq;induction q with
   | nil=>simp[conM,getL]
   | cons p r ihq =>
    obtain ⟨a,u,l⟩:=p;simp only[conM,List.map_cons,getL];split
    ·exact hq (a,u,l) (by simp)
    ·exact ihq fun t ht=>hq t (by simp[ht])
  exact this js hlen
 generalize hL:getL (conM js) id=L at hv2 hvl;obtain ⟨p,cp,rfl⟩:=SlA.form hv2;refine Ctr.of (args:=[vi id,pp bs 0,pp bj 0,pp bf 0]) func86 I ntmps86 (bE I) ?_;refine rZ (lK (qL isAgg71 I (cK h1 I)) (lM I (lK (SQ.eq (v':=vb (vis.contains id)) (SQ.lookup mty71 I I (MapAt.own i hi)) ((setP_set vis).get id)) (lU (SU.not I) (tZ ?_)))));refine iQ I (fun hc=>?_) (fun hc=>?_)
 ·have hnv:vis.contains id=false:=by simpa using hc
  refine rZ (lK (qL isAgg71 I (cK h1 I)) (lM I (lO (SO.mapUpdate i mty71 I I I hi) ?_)));rintro _ _ _ ⟨rfl,rfl⟩;rw[setP_put hnv];refine tZ (rZ (lK (qL isAgg69 I (cK h2 I)) (lM I (lK (SQ.eq (SQ.lookup mty69 I I (MapAt.known hj)) hv1) (lU (eN uT22 I) (lM I (tZ (bK ?_))))))));refine oP (ι:=Nat×List Int) (fun q=>[(3,pp bf 0),(15,.slice p L.length cp),(16,vi L.length),(17,vi q.1)]) (fun _=>g)
   (fun q=>s.set i (mp m (setP q.2))) (fun q=>q.1≤L.length∧q.2=(L.take q.1).foldl (fun v x=>dfs (adjJ (conM js)) n x v) (vis++[id])∧(0<L.length→cntK (conM js) q.2<n)) (fun q=>L.length - q.1)
   (0,vis++[id]) sB rfl rfl ⟨Nat.zero_le _,by simp,fun hpos=>?_⟩ ?_
  ·cases hh:hasL (conM js) id with
   | false =>
    rw[getL_none hh] at hL;rw[← hL] at hpos;simp at hpos
   | true =>
    have:=cntK_lt hh hnv;dsimp only;omega
  rintro ⟨j,vj⟩ ⟨hj1,hvj,hcj⟩;dsimp only at hj1 hvj hcj ⊢;refine rZ (yL I (tZ (sQ ?_)));refine iP I (fun hlt=>?_) (fun hlt=>?_)
  ·have hjl:j<L.length:=oM;have hb1:=SlA.based hv2 oM;have hjx:L[((j:Nat):Int).toNat]?=some L[j]:=gE hjl;have hjx':L[j]?=some L[j]:=gE hjl;generalize L[j]=y at *;refine kP (tN (sQ (bK (rZ (lU (iA uT22 zT3 I I hb1 oM sL) (lK (eB iT3 I (SlA.rd hv2) hjx I) (aT I (rG (lK (qL isAgg131 I (cK h3 I)) (lM I (lW (SO.callV I I (CallV.mk (cap:=[pp bs 0,pp bj 0,pp bf 0]) call86 (ih y vj _ i (hcj oM) (get_set hi _)))) ?_)))))))))));rintro _ _ _ ⟨rfl,rfl⟩;refine nL (bN (tN (rG (yD I (lM I (nL ?_))))));exact ST.again (j+1,dfs (adjJ (conM js)) n y vj) sB I (by rw[List.set_set]) ⟨lN,by
    rw[take_succ_of hjx',List.foldl_append,← hvj]; rfl,fun h=>Nat.lt_of_le_of_lt (cntK_mono fun x hx=>dfs_sub _ n _ _ x hx) (hcj h)⟩ lN
  ·refine xI (tX (tX (bX ?_)));have hjj:L.take j=L:=tL oM;have hr:dfs (adjJ (conM js)) (n+1) id vis=vj:=by
    rw[hjj] at hvj;rw[hvj,dfs_succ];simp only[adjJ,hL,hnv,Bool.false_eq_true,if_false]
   exact ST.ret0 (.inr I) results86 ⟨I,by rw[hr]⟩
 ·refine kP ?_;have hin:vis.contains id=true:=by simpa using hc
  have hr:dfs (adjJ (conM js)) (n+1) id vis=vis:=by
   rw[dfs_succ];simp only[adjJ,hin,if_true]
  exact ST.ret0 (.inr I) results86 ⟨I,by rw[hr,set_self hi]⟩
inductive Rch (adj:Int→Option (List Int)):Int→Int→Prop
 | refl (a:Int) (h:adj a≠none):Rch adj a a
 | step (a b c:Int) (l:List Int) (h:adj a=some l) (hb:b∈l) (r:Rch adj b c):Rch adj a c
theorem Rch.node {adj:Int→Option (List Int)}{a b:Int}(h:Rch adj a b):adj a≠none:=by
 cases h with
 | refl _ h=>exact h
 | step _ _ _ l h _ _=>rw[h]; simp
theorem dfs_sound (adj:Int→Option (List Int)):∀ (n:Nat) (id:Int) (vis:List Int) (x:Int),x∈dfs adj n id vis→x∈vis∨Rch adj id x
 | 0,_,_,_,h=>.inl h
 | n+1,id,vis,x,h=>by
  rw[dfs_succ] at h;cases ha:adj id with
  | none=>rw[ha] at h; exact .inl h
  | some l =>
   rw[ha] at h;dsimp only at h;split at h
   ·exact .inl h
   ·have key:∀ (q:List Int) (v:List Int),(∀ y∈q,y∈l)→x∈q.foldl (fun v y=>dfs adj n y v) v→x∈v∨Rch adj id x:=by
     intro q;induction q with
     | nil=>intro v _ hx; exact .inl hx
     | cons y t ih =>
      intro v hq hx
      rcases ih _ (fun z hz=>hq z (by simp[hz])) hx with h1 | h1
      ·rcases dfs_sound adj n y v x h1 with h2 | h2
       ·exact .inl h2
       ·exact .inr (.step id y x l ha (hq y (by simp)) h2)
      ·exact .inr h1
    rcases key l _ (fun y hy=>hy) h with h1 | h1
    ·rcases List.mem_append.1 h1 with h2 | h2
     ·exact .inl h2
     ·simp at h2;subst h2;exact .inr (.refl _ (by rw[ha]; simp))
    ·exact .inr h1
theorem dfs_nodup (adj:Int→Option (List Int)):∀ (n:Nat) (id:Int) (vis:List Int),vis.Nodup→(dfs adj n id vis).Nodup
 | 0,_,_,h=>h
 | n+1,id,vis,h=>by
  rw[dfs_succ];cases adj id with
  | none=>exact h
  | some l =>
   dsimp only;split
   ·exact h
   ·rename_i hc;have key:∀ (q:List Int) (v:List Int),v.Nodup→(q.foldl (fun v y=>dfs adj n y v) v).Nodup:=by
     intro q;induction q with
     | nil=>intro v hv; exact hv
     | cons y t ih=>intro v hv; exact ih _ (dfs_nodup adj n y v hv)
    refine key l _ ?_;rw[List.nodup_append];refine⟨h,by simp,fun a ha b hb e=>hc ?_⟩;simp at hb;subst hb;simpa [← e] using ha
theorem dfs_complete (adj:Int→Option (List Int))(cnt:List Int→Nat)(hm:∀ v v',(∀ x∈v,x∈v')→cnt v'≤cnt v)(hs:∀ v k l,adj k=some l→l≠[]→v.contains k=false→cnt (v++[k])<cnt v) :
  ∀ (n:Nat) (id:Int) (vis:List Int),cnt vis<n→(adj id≠none→id∈dfs adj n id vis)∧∀ x∈dfs adj n id vis,x ∉ vis→∀ l,adj x=some l→∀ y∈l,adj y≠none→y∈dfs adj n id vis
 | 0,_,_,h=>absurd h oM
 | n+1,id,vis,hc=>by
  rw[dfs_succ];cases ha:adj id with
  | none=>exact⟨fun h=>absurd rfl h,fun x hx hn=>absurd hx hn⟩
  | some l =>
   dsimp only;split
   ·rename_i hin;exact⟨fun _=>by simpa using hin,fun x hx hn=>absurd hx hn⟩
   ·rename_i hin;have hin':vis.contains id=false:=by simpa using hin
    have key:∀ (q:List Int) (v:List Int),(∀ x∈vis++[id],x∈v)→(∀ x∈v,x ∉ vis++[id]→∀ l,adj x=some l→∀ y∈l,adj y≠none→y∈v)→(q≠[]→cnt v<n) →
      (∀ x∈v,x∈q.foldl (fun v y=>dfs adj n y v) v)∧(∀ y∈q,adj y≠none→y∈q.foldl (fun v y=>dfs adj n y v) v) ∧
      ∀ x∈q.foldl (fun v y=>dfs adj n y v) v,x ∉ vis++[id]→∀ l,adj x=some l→∀ y∈l,adj y≠none→y∈q.foldl (fun v y=>dfs adj n y v) v:=by
     intro q;induction q with
     | nil=>intro v _ h2 _; exact⟨fun x hx=>hx,by simp,h2⟩
     | cons y t ih =>
      intro v h1 h2 h3;have hcv:=h3 (by simp);obtain ⟨d1,d2⟩:=dfs_complete adj cnt hm hs n y v hcv;have hsub:=dfs_sub adj n y v;have hcl:∀ x∈dfs adj n y v,x ∉ vis++[id]→∀ l,adj x=some l→∀ z∈l,adj z≠none→z∈dfs adj n y v:=by
       intro x hx hn l hl z hz hzn;by_cases hxv:x∈v
       ·exact hsub z (h2 x hxv hn l hl z hz hzn)
       ·exact d2 x hx hxv l hl z hz hzn
      obtain ⟨e1,e2,e3⟩:=ih (dfs adj n y v) (fun x hx=>hsub x (h1 x hx)) hcl (fun _=>Nat.lt_of_le_of_lt (hm _ _ hsub) hcv);simp only[List.foldl_cons];refine⟨fun x hx=>e1 x (hsub x hx),fun z hz hzn=>?_,e3⟩
      rcases List.mem_cons.1 hz with rfl | hz
      ·exact e1 z (d1 hzn)
      ·exact e2 z hz hzn
    obtain ⟨k1,k2,k3⟩:=key l (vis++[id]) (fun x hx=>hx) (fun x hx hn=>absurd hx hn) (fun hl=>by have:=hs vis id l ha hl hin'; omega);refine⟨fun _=>k1 id (by simp),fun x hx hn l' hl' y hy hyn=>?_⟩;by_cases hxv:x∈vis++[id]
    ·rcases List.mem_append.1 hxv with h | h
     ·exact absurd h hn
     ·simp at h;subst h;rw[ha] at hl';injection hl' with hl'
      subst hl';exact k2 y hy hyn
    ·exact k3 x hx hxv l' hl' y hy hyn
theorem mem_dfs {adj:Int→Option (List Int)}{cnt:List Int→Nat}(hm:∀ v v',(∀ x∈v,x∈v')→cnt v'≤cnt v)(hs:∀ v k l,adj k=some l→l≠[]→v.contains k=false→cnt (v++[k])<cnt v){n:Nat}{id:Int}(hc:cnt []<n)(hn:adj id≠none)(x:Int) :
  x∈dfs adj n id []↔Rch adj id x:=by
 obtain ⟨d1,d2⟩:=dfs_complete adj cnt hm hs n id [] hc;refine⟨fun h=>(dfs_sound adj n id [] x h).resolve_left (by simp),fun h=>?_⟩;have key:∀ a b,Rch adj a b→a∈dfs adj n id []→b∈dfs adj n id []:=by
  intro a b hr;induction hr with
  | refl a _=>exact fun h=>h
  | step a b c l hl hb r ih=>exact fun h=>ih (d2 a h (by simp) l hl b hb r.node)
 exact key id x h (d1 hn)
theorem Rch.mono {adj adj':Int→Option (List Int)}(h:∀ x l,adj x=some l→∀ y∈l,∃ l',adj' x=some l'∧y∈l')(hn:∀ x,adj x≠none→adj' x≠none){a b:Int}(hr:Rch adj a b):Rch adj' a b:=by
 induction hr with
 | refl a h1=>exact .refl a (hn a h1)
 | step a b c l hl hb _ ih =>
  obtain ⟨l',h1,h2⟩:=h a l hl b hb;exact .step a b c l' h1 h2 ih
theorem cntK_strict (jl:List (Int×List Int)):∀ v k l,adjJ jl k=some l→l≠[]→v.contains k=false→cntK jl (v++[k])<cntK jl v:=by
 intro v k l hl hne hv;refine cntK_lt ?_ hv;cases h:hasL jl k with
 | true=>rfl
 | false =>
  rw[adjJ,getL_none h] at hl;injection hl with hl
  exact absurd hl.symm hne
theorem getL_addL (jl:List (Int×List Int))(a b x:Int):getL (addL jl a b) x=if x=a then getL jl x++[b] else getL jl x:=by
 induction jl with
 | nil=>simp[addL,getL]
 | cons p r ih =>
  obtain ⟨k,l⟩:=p;simp only[addL];by_cases h:a=k
  ·subst h;simp only[if_true,getL];split <;> rfl
  ·rw[if_neg h];simp only[getL,ih];by_cases hx:x=k
   ·subst hx;rw[if_pos rfl,if_pos rfl,if_neg (fun e=>h e.symm)]
   ·rw[if_neg hx,if_neg hx]
end Go.Proofs.YtmmghffoakhheaaGreatDoor
