/- SyV Rep Eq Of Only Nam Tops Clo Shf Form Aro1 Vis Dfs -/
import Derived.Test.YtackilpikhkijaaGreatDoorAl03
import Derived.Test.YtackilpikhkijaaGreatDoorAl02
import Derived.Shelf.Sort.Plain
import Derived.Shelf.Slices.In.SortNone
import Derived.Sort.OwnSortedInts
set_option linter.unusedSimpArgs false
set_option linter.unusedVariables false
namespace Go.Sy
open Go
def mns (g' g:PH):PH:=fun b=>match g b with | none=>g' b | some _=>none
theorem pj {g' g:PH}{b:Nat}(h:g b=none):mns g' g b=g' b:=by simp only[mns,h]
theorem ph {g' g:PH}{b:Nat}{o:Obj}(h:mns g' g b=some o):g b=none∧g' b=some o:=by
 unfold mns at h;split at h
 ·rename_i e; exact⟨e,h⟩
 ·cases h
theorem jw (g' g:PH):Le (mns g' g) g':=fun _ _ h=>(ph h).2
theorem mo {g g' g'':PH}(h:Le g' g''):Le (mns g' g) (mns g'' g):=fun b o hb=>by
 obtain ⟨h1,h2⟩:=ph hb;rw[pj h1]; exact h _ _ h2
theorem mq {g0 g g':PH}(h:Le g0 g):Le (mns g' g) (mns g' g0):=fun b o hb=>by
 obtain ⟨h1,h2⟩:=ph hb;have:g0 b=none:=by
  cases h3:g0 b with
  | none=>rfl
  | some x=>rw[h _ _ h3] at h1; cases h1
 rw[pj this]; exact h2
section
variable {α:Type}{k:Nat}{e:Enc α k}{T U:TypeId}{g g':PH}{s:Own}{v:Value}{l:List α}
def RK (e:Enc α k)(T:TypeId)(g:PH)(v:Value)(l:List α):Prop:=(∃ p,v = .slice p 0 0∧l=[]) ∨
 ∃ b cap cur,v = .slice (some ⟨b,0,none⟩) l.length (cap+1)∧g b=some (.cells cur T (0,0))∧l.length≤cap+1∧cur.size=(cap+1) * k∧cur.toList.take (l.length * k)=l.flatMap e.enc
theorem RK.mono (h:RK e T g v l)(hl:Le g g'):RK e T g' v l:=by
 rcases h with h | ⟨b,cap,cur,h1,h2,h3⟩
 ·exact .inl h
 ·exact .inr ⟨b,cap,cur,h1,hl _ _ h2,h3⟩
theorem RK.sl (h:RK e T g v l):SlA e g v l:=by
 rcases h with ⟨p,rfl,rfl⟩ | ⟨b,cap,cur,rfl,h2,h3,h4,h5⟩
 ·exact⟨p,0,I,⟨by simp,lR _⟩,fun h=>absurd I h⟩
 ·refine⟨_,_,I,⟨e.length l,h3⟩,fun _=>⟨b,0,cur,T,(0,0),I,h2,fun j x hj=>?_⟩⟩;rw[← h5,List.getElem?_take] at hj;split at hj
  ·simpa using hj
  ·cases hj
theorem RK.form (h:RK e T g v l):∃ p c,v = .slice p l.length c:=h.sl.form
theorem RK.nil (e:Enc α k)(T:TypeId)(g:PH):RK e T g (.slice none 0 0) []:=.inl ⟨none,rfl,rfl⟩
theorem At.freezeRowK {E:World}{w:World}(h:At E g (rowA e T v l::s) w):∃ g',Le g g'∧At E g' s w∧RK e T (mns g' g) v l:=by
 obtain ⟨hlen,h1⟩:=gx (i:=0) h rfl
 rcases h1 with ⟨p,rfl,h0⟩ | ⟨b,cap,cur,rfl,hb,hle,_,hsz,htake⟩
 ·exact⟨g,Le.refl g,h.sublist (List.sublist_cons_self _ _),.inl ⟨p,I,List.eq_nil_of_length_eq_zero h0⟩⟩
 ·have hf:=h.fresh _ (List.mem_cons_self ..) b rfl;obtain ⟨h2,h3⟩:=h.freeze (b:=b) rfl hb;exact⟨_,h3,h2,.inr ⟨b,cap,cur,I,by rw[pj hf.1]; exact iC _ _ _,hle,hsz,htake⟩⟩
variable {P:Program}{N:Nat}{E:World}{ops:Array Oper}{Q:Exit→Act→World→Prop}{f:Fr}
theorem SL.freezeRowK {o:List Oper}(h:∀ g',Le g g'→RK e T (mns g' g) v l→SL P N E ops Q o f g' s):SL P N E ops Q o f g (rowA e T v l::s):=fun a w ha hw=>by
 obtain ⟨g',h1,h2,h3⟩:=hw.freezeRowK;exact h g' h1 h3 a w ha h2
end
section
variable {P:Program}{N:Nat}{E:World}{f:Fr}{g:PH}{s:Own}{dst:Option Tmp}{ty:TypeId}{pos:String}{af:Array Edge}{gd:Option (Nat×Bool)}
end
section
variable {α:Type}{k:Nat}{e:Enc α k}{T U:TypeId}{g:PH}{v:Value}{l:List α}
end
end Go.Sy
namespace Go.Proofs.YtackilpikhkijaaGreatDoor
open _root_.Go.Proofs.Tryz _root_.Go.Proofs.YtackilpikhkijaaGreatDoor.Tryz
open Go Go.Sy Go.Pl Go.Proofs
set_option maxRecDepth 100000
structure Cl where
 id:Int
 dim:Int
 sides:List Side
 deriving DecidableEq
def aw (g:PH)(c:Cl)(r:Rc):Prop:=r.id=c.id∧r.dim=c.dim∧SlA encSide g (.slice r.sv.p r.sv.n r.sv.c) c.sides
theorem aw.mono {g g':PH}(hl:Le g g'){c:Cl}{r:Rc}(h:aw g c r):aw g' c r:=⟨h.1,h.2.1,h.2.2.mono hl⟩
def ao (g:PH)(v:Value)(l:List Cl):Prop:=∃ rs,SlA encCell g v rs∧aC (aw g) l rs
theorem ao.mono {g g':PH}{v:Value}{l:List Cl}(h:ao g v l)(hl:Le g g'):ao g' v l:=by
 obtain ⟨rs,h1,h2⟩:=h;exact⟨rs,h1.mono hl,h2.mono fun _ _=>aw.mono hl⟩
theorem ao.form {g:PH}{v:Value}{l:List Cl}(h:ao g v l):∃ p c,v = .slice p l.length c:=by
 obtain ⟨rs,h1,h2⟩:=h;rw[h2.length];exact h1.form
def fU (g:PH)(c:Cl)(r:Rc):Prop:=r.id=c.id∧r.dim=c.dim∧RK encSide 55 g (.slice r.sv.p r.sv.n r.sv.c) c.sides
theorem fU.mono {g g':PH}(hl:Le g g'){c:Cl}{r:Rc}(h:fU g c r):fU g' c r:=⟨h.1,h.2.1,h.2.2.mono hl⟩
theorem fU.cr {g g':PH}(hl:Le g g'){c:Cl}{r:Rc}(h:fU g c r):aw g' c r:=⟨h.1,h.2.1,h.2.2.sl.mono hl⟩
def gz (g:PH)(v:Value)(l:List Cl):Prop:=∃ rs,RK encCell 53 g v rs∧aC (fU g) l rs
theorem gz.mono {g g':PH}{v:Value}{l:List Cl}(h:gz g v l)(hl:Le g g'):gz g' v l:=by
 obtain ⟨rs,h1,h2⟩:=h;exact⟨rs,h1.mono hl,h2.mono fun _ _=>fU.mono hl⟩
theorem gz.cells {g g':PH}{v:Value}{l:List Cl}(h:gz g v l)(hl:Le g g'):ao g' v l:=by
 obtain ⟨rs,h1,h2⟩:=h;exact⟨rs,h1.sl.mono hl,h2.mono fun _ _=>fU.cr hl⟩
def be (l:List Cl):Prop:=l.length<1099511627776∧∀ c∈l,c.sides.length<1099511627776
def fB (c:Cl):Cl:=⟨c.id,c.dim,sortBy Side.cell c.sides⟩
def aa (l:List Cl):List Cl:=(sortBy Cl.id l).map fB
theorem Tryz.build29 (x:Value)(h:x.cells = #[x])(w:World):(Instr.build 29 #[(0,x)]).run Tryz.prog w = .ok (.agg #[x]) w:=by
 have hz:(Value.agg #[Value.slice none 0 0]).cells = #[.slice none 0 0]:=rfl;simp[Instr.build,Instr.fill,h,hz]
theorem AI (x y:Side)(w:World):(binOp .neq 55 (.agg (encSide.enc x).toArray) (.agg (encSide.enc y).toArray)).run Tryz.prog w = .ok (.bool (decide (x≠y))) w:=by
 have hu:Tryz.prog.underlying 55=some (.struct (Tryz.prog.fieldsOf 55)):=by kernel_rfl
 have hf:(Tryz.prog.fieldsOf 55).toList=(Tryz.prog.fieldsOf 55).toList:=rfl;rw[run_neq_struct,run_equalIn_agg w 9999 55 _ _ hu stoodInHeld55]
 have hfs : ∃ f1 f2,(Tryz.prog.fieldsOf 55).toList = [f1,f2] ∧ f1.name ≠ "_" ∧ f2.name ≠ "_" ∧ f1.type = 3 ∧ f2.type = 3 ∧ f1.offset = 0 ∧ f2.offset = 1:=⟨_,_,rfl,by decide,by decide,rfl,rfl,rfl,rfl⟩
 obtain ⟨f1,f2,e,n1,n2,t1,t2,o1,o2⟩:=hfs;obtain ⟨a,b⟩:=x;obtain ⟨c,d⟩:=y;rw[e];have h1:=run_equalIn_int (P:=Tryz.prog) w 9998 3 .i64 .i64 a c uT3;have h2:=run_equalIn_int (P:=Tryz.prog) w 9998 3 .i64 .i64 b d uT3;simp only[Op.eqFields,n1,n2,t1,t2,o1,o2,encSide,part,ne_eq,not_false_eq_true,if_true,Sem.run_bind,iT3,Result.andThen_ok];simp[h1,h2];by_cases hac:a=c <;> by_cases hbd:b=d <;> simp[hac,hbd]
theorem Cd (E:World)(g:PH):wu E (.func (.func 92) #[] #[]) Rc.id g:=by
 intro g s a hle;refine dn.mk (cap:=[]) call92 ?_;refine Ctr.of (args:=[.agg (encCell.enc a).toArray]) func92 I ntmps92 (bE I) ?_;refine rZ (bW (bO I) fun b1=>?_);refine aT I (rZ (lU (fA aq I zT3 I) (lK (qL iT3 I (cO 0 I I)) (aT I (rE (dR (s':=s) uR ?_))))));exact ST.ret1 (.inl I) results92 I ⟨I,I,I⟩
theorem A4 (E:World)(g:PH):wt E (.func (.func 94) #[] #[]) Side.cell g:=by
 intro g s a hle;refine dn.mk (cap:=[]) call94 ?_;refine Ctr.of (args:=[.agg (encSide.enc a).toArray]) func94 I ntmps94 (bE I) ?_;refine rZ (bW (bO I) fun b1=>?_);refine aT I (rZ (lU (fA cl I zT3 I) (lK (qL iT3 I (cO 0 I I)) (aT I (rE (dR (s':=s) uR ?_))))));exact ST.ret1 (.inl I) results94 I ⟨I,I,I⟩
theorem mX (E:World)(g:PH)(s:Own)(v:Value)(l:List Cl)(hv:ao g v l)(hf:be l) :
  Ctr Tryz.prog E 55 #[.agg #[v]] g s (fun r g' s'=>s=s'∧Le g g'∧∃ u,r = .agg #[u]∧gz (mns g' g) u (aa l)):=by
 obtain ⟨rs,hrs,hall⟩:=hv;have hlen:=hall.length;have hfl:=hf.1;have hall':=aC.sortBy (f:=Cl.id) (h:=Rc.id) (fun a b h=>h.1.symm) hall;obtain ⟨p,c,rfl⟩:=SlA.form hrs;refine Ctr.of (args:=[.agg #[.slice p rs.length c]]) func55 I ntmps55 (bE I) ?_;refine rZ (bW (bO I) fun b1=>?_);refine bW (aL zeroValue29) fun b2=>?_;refine tZ (rZ (lU (fA c8 I cj I) (lK (qL dS I (cO 1 I I)) (lW (cL call91 I (AH E g _ _ 92 #[] Rc.id (Cd E g) rs hrs oM)) ?_))));rintro r3 _ _ ⟨rfl,rfl⟩;refine SL.facts fun ⟨w0,hw0⟩=>?_;obtain ⟨q,d,rfl⟩:=ah (i:=0) hw0 rfl;have hbq:0<(sortBy Rc.id rs).length→based (.slice q (sortBy Rc.id rs).length d)=true:=fun h=>(by obtain ⟨b0,c0,he⟩:=aV (i:=0) hw0 rfl h; rw[he]; rfl);clear hw0 w0;refine aT I (sQ (sW I (lU (eN aH I) (lM I (tZ (bK ?_))))));have hsl:(sortBy Rc.id rs).length=rs.length:=eV rs;refine oP (ι:=PH×List Rc×List Rc×List Cl×List Cl) (fun i=>[(2,pp b2 0),(3,.slice q (sortBy Rc.id rs).length d),(9,vi (sortBy Rc.id rs).length),(10,vi i.2.1.length)]) (fun i=>i.1)
  (fun i=>rowA encCell 53 (.slice q (sortBy Rc.id rs).length d) (i.2.1++i.2.2.1)::pt b2 (.cells #[.slice none 0 0] 29 (0,0))::pt b1 (.cells #[.slice p rs.length c] 29 (0,0))::s)
  (fun i=>Le g i.1∧aC (fU (mns i.1 g)) i.2.2.2.1 i.2.1∧aC (aw g) i.2.2.2.2 i.2.2.1∧aa l=i.2.2.2.1++i.2.2.2.2.map fB∧(i.2.1.length+i.2.2.1.length=(sortBy Rc.id rs).length∧∀ x∈i.2.2.2.2,x∈l)) (fun i=>i.2.2.1.length)
  (g,[],sortBy Rc.id rs,[],sortBy Cl.id l) sB rfl rfl ⟨Le.refl g,trivial,hall',by simp[aa],by simp,fun x hx=>(ol l x).1 hx⟩ ?_
 rintro ⟨g1,ds,rest,dl,rl⟩ ⟨hle,hd,hr,hcan,hlen1,hmem⟩;dsimp only at hle hd hr hcan hlen1 hmem ⊢;have hrl:=hr.length;refine rZ (lU (lS I I) (tZ (sQ ?_)));refine iP I (fun hlt=>?_) (fun hlt=>?_)
 ·cases rest with
  | nil=>simp at hlen1; omega
  | cons x rest =>
  obtain ⟨cx,rl',hrle,hcx,hr'⟩:=hr.cons_right;subst hrle;have hxl:cx.sides.length<1099511627776:=hf.2 cx (hmem cx (by simp));simp only[List.length_cons] at hlen1;have hgx:(ds++x::rest)[((ds.length:Nat):Int).toNat]?=some x:=aX oM;have hbs:based (.slice q (sortBy Rc.id rs).length d)=true:=hbq oM;refine kP (tN (sQ (bK (sW I (aT I (rG (lM I (lM I (lM I (lM I (lU (iA aH au I I hbs oM sL) (lU (fC aq I aU I hbs) (lK (aZ (o:=2) bw I (Rd.rowA 0 I) hgx I) (lW (cL call93 I (AG E g1 _ _ 94 #[] Side.cell (A4 E g1) cx.sides (hcx.2.2.mono hle) hxl)) ?_))))))))))))));rintro r20 _ _ ⟨rfl,rfl⟩;refine SL.freezeRowK fun g2 hle2 hs2=>?_;obtain ⟨q2,d2,rfl⟩:=hs2.form;refine lU (iA aH au I I hbs oM sL) (lU (fC aq I aU I hbs) (oZ (SO.partA (o:=2) 0 ⟨x.id,x.dim,q2,_,d2⟩ aU I I I hgx I I dC I) (nL (bN (tN (rG (lU (aD I I oM) (lM I (nL ?_)))))))));exact gA (g2,ds++[⟨x.id,x.dim,q2,(sortBy Side.cell cx.sides).length,d2⟩],rest,dl++[fB cx],rl') ⟨I,I,I,aO lN,trivial⟩ I (by
    dsimp only;rw[show (ds++x::rest).set ((ds.length:Nat):Int).toNat ⟨x.id,x.dim,q2,(sortBy Side.cell cx.sides).length,d2⟩=ds++[⟨x.id,x.dim,q2,(sortBy Side.cell cx.sides).length,d2⟩]++rest by rw[cm oM]; simp];rfl) ⟨hle.trans hle2,(hd.mono fun _ _=>fU.mono (mo hle2)).append ⟨(by exact⟨hcx.1,hcx.2.1,hs2.mono (mq hle)⟩:fU (mns g2 g) (fB cx) ⟨x.id,x.dim,q2,(sortBy Side.cell cx.sides).length,d2⟩),trivial⟩,hr',by rw[hcan]; simp,lN,fun y hy=>hmem y (by simp[hy])⟩ lN
 ·have hr0:rest=[]:=List.eq_nil_of_length_eq_zero oM;subst hr0;have hrl0:rl=[]:=hr.nil_right;subst hrl0;refine xI (tX (tX (bX (tN (rZ (SL.freezeRowK fun g2 hle2 hs2=>?_))))));refine lM I (lU (SU.build I (build29 _ I)) (oZ (sK 0 ag I I I I I sB) ?_));refine tZ (rE ?_);refine ST.retCD 0 s (.inl I) results55 I ar ag I I (.cons _ (.cons _ (.refl _))) ⟨I,hle.trans hle2,_,I,ds,?_,?_⟩
  ·simpa using hs2.mono (mq hle)
  ·rw[hcan];simpa using hd.mono fun _ _=>fU.mono (mo hle2)
theorem jE (E:World)(g:PH)(s:Own)(v:Value)(l:List Cl)(hv:ao g v l)(hf:be l) :
  Ctr Tryz.prog E 55 #[.agg #[v]] g s (fun r g' s'=>s=s'∧Le g g'∧∃ u,r = .agg #[u]∧ao g' u (aa l)) :=
 (mX E g s v l hv hf).mono fun _ _ _ ⟨h1,h2,u,h3,h4⟩=>⟨h1,h2,u,h3,h4.cells (jw _ _)⟩
theorem gY {α:Type}{l m:List α}{k:Nat}(h1:k<l.length)(h2:k<m.length)(h:l.take k=m.take k)(he:l[k]=m[k]):l.take (k+1)=m.take (k+1):=by
 rw[tS h1,tS h2,h,he]
theorem iM {α:Type}{l m:List α}(hl:l.length=m.length)(h:l.take l.length=m.take l.length):l=m:=by
 rw[tL (lR _),tL oM] at h;exact h
theorem SU.neqSide {N:Nat}{f:Fr}{dst:Option Tmp}{ty:TypeId}{pos:String}{af:Array Edge}{gd:Option (Nat×Bool)}{x y:Operand}{a b:Side}{U:TypeId}(hx:ev f x=some (.agg (encSide.enc a).toArray))(hy:ev f y=some (.agg (encSide.enc b).toArray)) :
  SU Tryz.prog N ⟨dst,.binOp .neq 55 x y U,ty,pos,af,gd⟩ f (.bool (decide (a≠b))):=fun ac w ha=>by
 have hg:=run_eqGuard_agg (P:=Tryz.prog) w .neq 55 x y (encSide.enc a).toArray (encSide.enc b).toArray eqGuardType55;simp only[execOp,ha.ev hx,ha.ev hy,Sem.run_bind,hg,Result.andThen_ok,AI];rfl
theorem vL (E:World)(g:PH)(s:Own)(v u:Value)(l m:List Side)(hv:SlA encSide g v l)(hu:SlA encSide g u m)(hl:l.length<1099511627776) :
  Ctr Tryz.prog E 95 #[v,u] g s (fun r g' s'=>r=vb (decide (l=m))∧g=g'∧s=s'):=by
 obtain ⟨p,c,rfl⟩:=hv.form;obtain ⟨q,d,rfl⟩:=hu.form;refine Ctr.of (args:=[.slice p l.length c,.slice q m.length d]) func95 I ntmps95 (bE I) ?_;refine rZ (aT I (sQ (sW I (lU (eN aN I) (lM I (lU (eN aN I) (lU (nQ I I) (tZ ?_))))))));refine iP I (fun hne=>?_) (fun hne=>?_)
 ·refine rZ (aT I (rE (tR ?_)));exact ST.ret1 (.inl I) results95 I ⟨by have:l≠m:=fun e=>hne (by rw[e]); simp[this],I,I⟩
 ·refine kP (tN (sQ (sW I (lU (eN aN I) (lM I (tZ (bK ?_)))))));have hlen:l.length=m.length:=oM;refine oP (ι:=Nat) (fun k=>[(0,.slice p l.length c),(1,.slice q m.length d),(12,vi l.length),(13,vi k)]) (fun _=>g) (fun _=>s) (fun k=>k≤l.length∧l.take k=m.take k) (fun k=>l.length - k) 0
   sB rfl rfl ⟨Nat.zero_le _,by simp⟩ ?_
  rintro k ⟨hk,heq⟩;refine rZ (lU (lS I I) (tZ (sQ ?_)));refine iP I (fun hlt=>?_) (fun hlt=>?_)
  ·have hkl:k<l.length:=oM;have hkm:k<m.length:=oM;have hb1:=hv.based oM;have hb2:=hu.based oM;refine kP (tN (sQ (bK (sW I (aT I (sQ ?_))))));refine dW [] [(0,2),(1,2),(2,2),(3,1),(4,2),(5,2),(6,2),(7,1),(8,2)] Tryz.mixed kR ?_;refine pU I (mV I) (pU I (mV I) (pU I (iA aN aG I I hb1 oM sL) ?_));refine pQ I (eA eu aG I hv.rd (gE hkl)) dC ?_;refine pU I (mV I) (pU I (mV I) (pU I (iA aN aG I I hb2 oM sL) ?_));refine pQ I (eA eu aG I hu.rd (gE hkm)) dC ?_;refine pU I (SU.neqSide I I) (pN (tN ?_));refine iP I (fun hd=>?_) (fun hd=>?_)
   ·refine rZ (aT I (rE (bR (tR (tR (bR (tR ?_)))))));exact ST.ret1 (.inl I) results95 I ⟨by have:l≠m:=fun e=>hd (by simp[e]); simp[this],I,I⟩
   ·refine kP (bN (tN (rG (lU (aD I I oM) (lM I (nL ?_))))));exact gA (k+1) sB I I ⟨oM,gY hkl hkm heq (Decidable.of_not_not hd)⟩ oM
  ·refine xI (tX (tX (bX (tN (rZ (aT I (rE ?_)))))));have hkk:k=l.length:=oM;subst hkk;have:l=m:=iM hlen heq;exact ST.ret1 (.inl I) results95 I ⟨by simp[this],I,I⟩
theorem Ce {x y:Cl}:x=y↔x.id=y.id∧x.dim=y.dim∧x.sides=y.sides:=by
 cases x; cases y; simp
theorem bg {l:List Cl}(h:be l):be (aa l):=by
 refine⟨by simp[aa,eV]; exact h.1,fun c hc=>?_⟩;simp only[aa,List.mem_map] at hc;obtain ⟨c0,h0,rfl⟩:=hc;simp only[fB,eV];exact h.2 c0 ((ol l c0).1 h0)
theorem Tryz.mty104:MTy Tryz.prog 104 3 53 (.agg #[vi 0,vi 0,.slice none 0 0]):=⟨underlying104,underlying3,zeroValue53⟩
def gX (acc:List Cl)(c:Cl):List Cl:=if acc.any (fun x=>x.id == c.id) then acc else acc++[c]
theorem py {acc:List Cl}{c:Cl}(h:acc.any (fun x=>x.id == c.id)=true):gX acc c=acc:=if_pos h
theorem kl {acc:List Cl}{c:Cl}(h:acc.any (fun x=>x.id == c.id)=false):gX acc c=acc++[c]:=if_neg (by rw[h]; simp)
def am (l:List Cl):List Cl:=(aa l).foldl gX []
def rcv (r:Rc):Value:=.agg (encCell.enc r).toArray
def ak (r:Rc):Int×Value:=(r.id,rcv r)
def Ap (R:Cl→Rc→Prop)(g:PH)(v:Value)(tl:List Cl):Prop :=
 ∃ b m iv rs,v=pp b 0∧g b=some (.cells #[.map (some m),iv] 106 (0,0))∧Mp g m (rs.map ak)∧dJ g iv (tl.map Cl.id)∧aC R tl rs
def Tab (g:PH)(v:Value)(tl:List Cl):Prop:=Ap (aw g) g v tl
theorem Ap.mono {R R':Cl→Rc→Prop}{g g':PH}{v:Value}{tl:List Cl}(h:Ap R g v tl)(hl:Le g g')(hr:∀ c r,R c r→R' c r):Ap R' g' v tl:=by
 obtain ⟨b,m,iv,rs,h1,h2,h3,h4,h5⟩:=h;exact⟨b,m,iv,rs,h1,hl _ _ h2,h3.mono hl,h4.mono hl,h5.mono hr⟩
theorem Tab.mono {g g':PH}{v:Value}{tl:List Cl}(h:Tab g v tl)(hl:Le g g'):Tab g' v tl:=by
 obtain ⟨b,m,iv,rs,h1,h2,h3,h4,h5⟩:=h;exact⟨b,m,iv,rs,h1,hl _ _ h2,h3.mono hl,h4.mono hl,h5.mono fun _ _=>aw.mono hl⟩
theorem lh (rs:List Rc)(k:Int):dK (rs.map ak) k=(rs.find? (fun r=>r.id == k)).map rcv:=by
 induction rs with
 | nil=>rfl
 | cons r t ih =>
  simp only[List.map_cons,ak,cG,List.find?_cons];by_cases h:k=r.id
  ·subst h; simp
  ·have:(r.id == k)=false:=by simpa using fun e=>h e.symm
   rw[this,if_neg h,← ih]
theorem zS {g:PH}{tl:List Cl}{rs:List Rc}(h:aC (aw g) tl rs)(k:Int):tl.any (fun x=>x.id == k)=rs.any (fun r=>r.id == k):=by
 induction tl generalizing rs with
 | nil=>cases rs with | nil=>rfl | cons _ _=>exact h.elim
 | cons c t ih =>
  cases rs with
  | nil=>exact h.elim
  | cons r rs=>simp only[List.any_cons,h.1.1,ih h.2]
theorem iI {g:PH}{tl:List Cl}{rs:List Rc}(h:aC (aw g) tl rs):tl.map Cl.id=rs.map Rc.id:=by
 induction tl generalizing rs with
 | nil=>cases rs with | nil=>rfl | cons _ _=>exact h.elim
 | cons c t ih =>
  cases rs with
  | nil=>exact h.elim
  | cons r rs=>simp only[List.map_cons,h.1.1,ih h.2]
theorem fZ (l:List Cl):∀ acc:List Cl,(l.foldl gX acc).length≤acc.length+l.length:=by
 induction l with
 | nil=>intro acc; simp
 | cons c r ih =>
  intro acc;simp only[List.foldl_cons];have h1:=ih (gX acc c);have h2:(gX acc c).length≤acc.length+1:=by unfold gX; split <;> simp
  simp only[List.length_cons];omega
theorem Tryz.build106 (x:Value)(h:x.cells = #[x])(w:World):(Instr.build 106 #[(0,x)]).run Tryz.prog w = .ok (.agg #[x,.slice none 0 0]) w:=by
 have hz:(Value.agg #[Value.map none,Value.slice none 0 0]).cells = #[.map none,.slice none 0 0]:=rfl;simp[Instr.build,Instr.fill,h,hz]
theorem zX (E:World)(g:PH)(s:Own)(v:Value)(l:List Cl)(hv:ao g v l)(hf:be l) :
  Ctr Tryz.prog E 53 #[.agg #[v]] g s (fun r g' s'=>s=s'∧Le g g'∧Ap (fU (mns g' g)) g' r (am l)):=by
 have hfc:=bg hf;refine Ctr.of (args:=[.agg #[v]]) func53 I ntmps53 (bE I) ?_;refine rZ (bW (bO I) fun b1=>?_);refine aT I (rZ (lW (SO.mkMap) ?_));rintro _ _ _ ⟨m,rfl,rfl,rfl⟩;refine lU (SU.build I (build106 _ I)) (bW (bO I) fun b10=>?_);refine aT I (sQ (rZ (lK (qV 2 ar ag I I I) (lW (cL call55 I (mX E g _ v l hv hf)) ?_))));rintro _ g1 _ ⟨rfl,hle,u,rfl,hc⟩;obtain ⟨rs,hrsK,hall⟩:=hc;have hrs:=hrsK.sl.mono (jw _ _);obtain ⟨p,c,rfl⟩:=hrs.form;refine lU (SU.field c8 I dS I I) (lU (eN aH I) (lM I (tZ (bK ?_))));have hlen:=hall.length;have hfl:=hfc.1;refine SC.nilRow 3 1 ?_;refine oP (ι:=Value×Nat×List Rc) (fun i=>[(3,pp b10 0),(13,.slice p rs.length c),(14,vi rs.length),(15,vi i.2.1)]) (fun _=>g1)
  (fun i=>rowA encInt 3 i.1 (i.2.2.map Rc.id)::pt b10 (.cells #[.map (some m),i.1] 106 (0,0))::mp m (i.2.2.map ak)::pt b1 (.cells #[v] 29 (0,0))::s)
  (fun i=>i.2.1≤rs.length∧aC (fU (mns g1 g)) (((aa l).take i.2.1).foldl gX []) i.2.2) (fun i=>rs.length - i.2.1) (.slice none 0 0,0,[])
  sB rfl rfl ⟨Nat.zero_le _,by simp[aC]⟩ ?_
 rintro ⟨iv,k,acc⟩ ⟨hk,hacc⟩;dsimp only at hk hacc ⊢;refine rZ (lU (lS I I) (tZ (sQ ?_)));refine iP I (fun hlt=>?_) (fun hlt=>?_)
 ·have hkr:k<rs.length:=oM;have hkl:k<(aa l).length:=oM;have hb1:=hrs.based oM;have hcr:=hall.get (gE hkl) (gE hkr);have hany:=zS (hacc.mono fun _ _=>fU.cr (jw _ _)) (aa l)[k].id;have htake:((aa l).take (k+1)).foldl gX []=gX (((aa l).take k).foldl gX []) (aa l)[k]:=by
   rw[tS hkl,List.foldl_append]; rfl
  have hal:=hacc.length;have hal2:=fZ ((aa l).take k) [];simp only[List.length_take,List.length_nil] at hal2;generalize hcl:(aa l)[k]=cx at *;generalize hrx:rs[k]=x at *;have hgx:rs[((k:Nat):Int).toNat]?=some x:=by rw[← hrx]; exact gE hkr
  cases hget:acc.find? (fun r=>r.id == x.id) with
  | some y =>
   refine kP (tN (sQ (bK (rZ (lU (iA aH au I I hb1 oM sL) (lK (eA du au I hrs.rd hgx) (bW (aL zeroValue53) fun b5=>?_)))))));refine oZ (sK 0 au I I I I I sB) ?_;refine tZ (sQ ?_);refine dW [] [(0,2),(1,2),(2,2),(3,1),(4,2),(5,1),(6,1),(7,2),(8,2),(9,2),(10,0),(11,0),(12,2)] Tryz.mixed kR ?_;refine pU I (mV I) (pU I (nC I) (pU I (fA ly I dX I) (pK I (qL dY I (cO 2 I I)) (pU I (fA aq I zT3 I) (pK I (qL iT3 I (cO 0 I I)) (pK I (SQ.eq (SQ.lookupOk mty104 I I (cw.own 3 I)) (by (rw[lh,hget]; done))) ?_))))));refine pU I (mV I) (pU I (xT I I) (pU I (xT I I) (SP.o I (aL zeroValue53) dC (.inr iR) ?_)));rintro _ _ _ ⟨b6,rfl,rfl,rfl⟩;refine SP.on I (sK 0 au I I I I I sB) (.inr iR) ?_;rintro _ _ _ ⟨rfl,rfl⟩;refine pU I (aS I) (pN (tN (sW I (lU (SU.not I) (tZ (SC.condF I (kP (bN (tN (rG (lU (aD I I oM) (lM I (nL (dR (s':=rowA encInt 3 iv (acc.map Rc.id)::pt b10 (.cells #[.map (some m),iv] 106 (0,0))::mp m (acc.map ak)::pt b1 (.cells #[v] 29 (0,0))::s) (.cons _ (.cons _ (.refl _))) ?_))))))))))))));have h1:acc.any (fun r=>r.id == cx.id)=true:=by
    rw[List.any_eq_true];exact⟨y,List.mem_of_find?_eq_some hget,by have:=List.find?_some hget; rw[← hcr.1]; exact this⟩
   exact gA (iv,k+1,acc) sB I I ⟨lN,by dsimp only; rw[htake,py (hany.trans h1)]; exact hacc⟩ lN
  | none =>
   refine kP (tN (sQ (bK (rZ (lU (iA aH au I I hb1 oM sL) (lK (eA du au I hrs.rd hgx) (bW (aL zeroValue53) fun b5=>?_)))))));refine oZ (sK 0 au I I I I I sB) ?_;refine tZ (sQ ?_);refine dW [] [(0,2),(1,2),(2,2),(3,1),(4,2),(5,1),(6,1),(7,2),(8,2),(9,2),(10,0),(11,0),(12,2)] Tryz.mixed kR ?_;refine pU I (mV I) (pU I (nC I) (pU I (fA ly I dX I) (pK I (qL dY I (cO 2 I I)) (pU I (fA aq I zT3 I) (pK I (qL iT3 I (cO 0 I I)) (pK I (SQ.eq (SQ.lookupOk mty104 I I (cw.own 3 I)) (by (rw[lh,hget]; done))) ?_))))));refine pU I (mV I) (pU I (xT I I) (pU I (xT I I) (SP.o I (aL zeroValue53) dC (.inr iR) ?_)));rintro _ _ _ ⟨b6,rfl,rfl,rfl⟩;refine SP.on I (sK 0 au I I I I I sB) (.inr iR) ?_;rintro _ _ _ ⟨rfl,rfl⟩;refine pU I (aS I) (pN (tN (sW I (lU (SU.not I) (tZ (SC.condT I (sQ ?_)))))));refine dW [7] [(0,2),(1,2),(2,2),(3,1),(4,2),(5,1),(6,1),(7,0)] Tryz.mixed kR ?_;refine pU I (mV I) (pU I (nC I) (pU I (fA ly I dX I) (pK I (qL dY I (cO 3 I I)) (pU I (fA aq I zT3 I) (pK I (qL iT3 I (cO 1 I I)) (pK I (qV 1 du au I I I) (SP.on I (SO.mapUpdate 4 mty104 I I I I) (.inl dC) ?_)))))));rintro _ _ _ ⟨rfl,rfl⟩;refine pN (tN ?_);refine dW [8,9,10,11] [(0,2),(1,2),(2,2),(3,2),(4,1),(5,2),(6,1),(7,0),(8,0),(9,0),(10,0),(11,0)] Tryz.mixed kR ?_;refine pU I (mV I) (pU I (mV I) (pU I (nC I) (pU I (fA ly I gp I) (pK I (qL jm I (cO 3 I I)) (pU I (fA aq I zT3 I) (pK I (qL iT3 I (cO 1 I I)) (SP.o I (bS sty83 I I I (ae sB) dC) dC (.inr iR) ?_)))))));rintro _ _ _ ⟨b45,rfl,rfl,rfl⟩;refine SP.o rfl (SO.app1 2 (((acc++[x]).map Rc.id).flatMap encInt.enc) ((acc++[x]).map Rc.id).length sty83 rfl rfl rfl rfl rfl ⟨rfl,trivial⟩ (by simp[encInt]; rfl) (by simp) (by simp; omega) (by simp; omega)) dC (.inl dC) ?_;rintro iv' _ _ ⟨rfl,rfl⟩;refine SP.facts fun ⟨w0,hw0⟩=>?_;obtain ⟨q',d',rfl⟩:=ah (e:=encInt) (l:=(acc++[x]).map Rc.id) (i:=2) hw0 rfl;clear hw0 w0;refine oU rfl (nC rfl) dC (.inl dC) (oU rfl (fA ly rfl gp rfl) dC (.inl dC) (SP.on rfl (SO.store1 3 gp rfl rfl rfl rfl (bE rfl) (by rfl)) (.inl dC) ?_));rintro _ _ _ ⟨rfl,rfl⟩;refine pN (bN (tN (rG (lU (aD I I oM) (lM I (nL ?_))))));have h1:acc.any (fun r=>r.id == cx.id)=false:=by
    rw[List.any_eq_false];intro y hy;have:=List.find?_eq_none.1 hget y hy;rw[← hcr.1]; exact this
   have hmp:eE (acc.map ak) x.id (rcv x)=(acc++[x]).map ak:=by
    rw[gt _ _ _ (fun q hq=>by
     obtain ⟨y,hy,rfl⟩:=List.mem_map.1 hq;have:=List.find?_eq_none.1 hget y hy;simpa [ak] using this)]
    simp[ak]
   refine dR (s':=rowA encInt 3 (.slice q' ((acc++[x]).map Rc.id).length d') ((acc++[x]).map Rc.id)::pt b10 (.cells #[.map (some m),.slice q' ((acc++[x]).map Rc.id).length d'] 106 (0,0))::mp m ((acc++[x]).map ak)::pt b1 (.cells #[v] 29 (0,0))::s) ?_ ?_
   ·rw[← hmp]; exact .cons _ (.cons _ (.refl _))
   exact gA (.slice q' ((acc++[x]).map Rc.id).length d',k+1,acc++[x]) sB I I ⟨lN,by dsimp only; rw[htake,kl (hany.trans h1)]; exact hacc.append ⟨hcr,trivial⟩⟩ lN
 ·refine xI (tX (tX (bX (tN (sW I (aT I (rE ?_)))))));have hkk:k=rs.length:=oM;have htk:(aa l).take k=aa l:=tL oM;rw[htk] at hacc;refine fT fun g2 h2 hrow=>?_;refine ST.freeze fun g3 h3 hb=>?_;refine ST.freezeMap fun g4 h4 hm=>?_;refine dR (s':=s) uR ?_;have hI:dJ g4 iv ((am l).map Cl.id):=by
   rw[show (am l).map Cl.id=acc.map Rc.id from iI (hacc.mono fun _ _=>fU.cr (jw _ _))];exact Sl.mono hrow (h3.trans h4)
  exact ST.ret1 (.inl I) results53 I ⟨I,hle.trans (h2.trans (h3.trans h4)),b10,m,iv,acc,I,h4 _ _ hb,hm,hI,hacc.mono fun _ _=>fU.mono (mo (h2.trans (h3.trans h4)))⟩
theorem wG (E:World)(g:PH)(s:Own)(v:Value)(l:List Cl)(hv:ao g v l)(hf:be l) :
  Ctr Tryz.prog E 53 #[.agg #[v]] g s (fun r g' s'=>s=s'∧Le g g'∧Tab g' r (am l)) :=
 (zX E g s v l hv hf).mono fun _ _ _ ⟨h1,h2,h3⟩=>⟨h1,h2,h3.mono (Le.refl _) fun _ _=>fU.cr (jw _ _)⟩
theorem vx {acc:List Cl}{c:Cl}(h:(acc.map Cl.id).Nodup):((gX acc c).map Cl.id).Nodup:=by
 unfold gX;split
 ·exact h
 ·rename_i hc;rw[List.map_append,List.nodup_append];refine⟨h,by simp,fun a ha b hb e=>?_⟩;simp at hb;subst hb;obtain ⟨x,hx,hxe⟩:=List.mem_map.1 ha;apply hc;rw[List.any_eq_true];exact⟨x,hx,by simp[hxe,e]⟩
theorem tr (l:List Cl):∀ acc:List Cl,(acc.map Cl.id).Nodup→((l.foldl gX acc).map Cl.id).Nodup:=by
 induction l with
 | nil=>intro acc h; exact h
 | cons c r ih=>intro acc h; exact ih _ (vx h)
theorem la (l:List Cl):((am l).map Cl.id).Nodup:=tr _ [] (by simp)
theorem qN (l:List Cl):∀ (acc:List Cl) (x:Cl),x∈l.foldl gX acc→x∈acc∨x∈l:=by
 induction l with
 | nil=>intro acc x h; exact .inl h
 | cons c r ih =>
  intro acc x h
  rcases ih _ x h with h1 | h1
  ·unfold gX at h1;split at h1
   ·exact .inl h1
   ·rcases List.mem_append.1 h1 with h2 | h2
    ·exact .inl h2
    ·right; simp at h2; simp[h2]
  ·exact .inr (by simp[h1])
theorem tY {l:List Cl}{x:Cl}(h:x∈am l):x∈aa l:=(qN _ [] x h).resolve_left (by simp)
theorem bJ {l:List Cl}(h:be l):be (am l):=by
 have hc:=bg h;refine⟨?_,fun c hm=>hc.2 c (tY hm)⟩;have:=fZ (aa l) [];unfold am;have h1:=hc.1;simp at this;omega
theorem vI {rs:List Rc}(h:(rs.map Rc.id).Nodup){k:Nat}{r:Rc}(hk:rs[k]?=some r):rs.find? (fun x=>x.id == r.id)=some r:=by
 induction rs generalizing k with
 | nil=>simp at hk
 | cons y t ih =>
  simp only[List.map_cons,List.nodup_cons] at h;cases k with
  | zero=>simp at hk; subst hk; simp
  | succ k =>
   simp only[List.getElem?_cons_succ] at hk;have hne:(y.id == r.id)=false:=by
    simp only[beq_eq_false_iff_ne,ne_eq];intro e;exact h.1 (by rw[e]; exact List.mem_map.2 ⟨r,List.mem_of_getElem? hk,I⟩)
   rw[List.find?_cons,hne];exact ih h.2 hk
def sN (E:World)(pv:Value)(p:Cl→Bool)(tl:List Cl)(g:PH):Prop :=
 ∀ g' s c r,Le g g'→c∈tl→aw g' c r→dn Tryz.prog E pv [rcv r] g' s (fun x g'' s''=>x=vb (p c)∧g'=g''∧s=s'')
theorem y8 (R:Cl→Rc→Prop)(E:World)(g:PH)(s:Own)(v pv:Value)(tl:List Cl)(p:Cl→Bool)(hR:∀ c r,R c r→aw g c r)(hv:Ap R g v tl)(hnd:(tl.map Cl.id).Nodup)(hf:be tl)(hp:sN E pv p tl g) :
  Ctr Tryz.prog E 178 #[v,pv] g s (fun r g' s'=>s=s'∧Le g g'∧∃ u rs,r = .agg #[u]∧RK encCell 53 (mns g' g) u rs∧aC R (tl.filter p) rs):=by
 obtain ⟨b,m,iv,rs,rfl,hb,hm,hI,hall⟩:=hv;have hids:=iI (hall.mono hR);have hlen:=hall.length;have hfl:=hf.1;have hnr:(rs.map Rc.id).Nodup:=by rw[← hids]; exact hnd
 obtain ⟨q,d,rfl⟩:=hI.form;refine Ctr.of (args:=[pp b 0,pv]) func178 I ntmps178 (bE I) ?_;refine rZ (bW (aL zeroValue29) fun b4=>?_);refine tZ (rZ (bW (aL zeroValue29) fun b5=>?_));refine tZ (sQ (sW I (lU (nC I) (lU (fA ly I gp I) (lK (qL jm I (cK hb I)) (lU (eN aI I) (lM I (tZ (bK (SC.nilRow 53 3 ?_))))))))));simp only[List.length_map] at hI hb ⊢;refine oP (ι:=Value×Nat×List Rc) (fun i=>[(0,pp b 0),(1,pv),(4,pp b4 0),(5,pp b5 0),(11,.slice q tl.length d),(12,vi tl.length),(13,vi i.2.1)]) (fun _=>g)
  (fun i=>rowA encCell 53 i.1 i.2.2::pt b5 (.cells #[i.1] 29 (0,0))::pt b4 (.cells #[.slice none 0 0] 29 (0,0))::s)
  (fun i=>i.2.1≤tl.length∧aC R ((tl.take i.2.1).filter p) i.2.2) (fun i=>tl.length - i.2.1) (.slice none 0 0,0,[])
  sB rfl rfl ⟨Nat.zero_le _,by simp[aC]⟩ ?_
 rintro ⟨ov,k,acc⟩ ⟨hk,hacc⟩;dsimp only at hk hacc ⊢;refine rZ (lU (lS I I) (tZ (sQ ?_)));refine iP I (fun hlt=>?_) (fun hlt=>?_)
 ·have hkl:k<tl.length:=oM;have hkr:k<rs.length:=oM;have hbi:=hI.based (by simp; omega);have hcR:=hall.get (gE hkl) (gE hkr);have hcr:=hR _ _ hcR;have hmem:tl[k]∈tl:=gM hkl;have hget:dK (rs.map ak) tl[k].id=some (rcv rs[k]):=by
   rw[lh,← hcr.1,vI hnr (gE hkr)]; rfl
  have htake:(tl.take (k+1)).filter p=(tl.take k).filter p++(if p tl[k] then [tl[k]] else []):=by
   rw[tS hkl,List.filter_append];simp only[List.filter_cons,List.filter_nil]
  have hgi:(tl.map Cl.id)[((k:Nat):Int).toNat]?=some tl[k].id:=by simp[hkl]
  have hal:=hacc.length;have hal2:((tl.take k).filter p).length≤k:=Nat.le_trans (List.length_filter_le _ _) (by simp; omega);generalize htk:tl[k]=c at *;generalize hrk:rs[k]=r at *;refine kP (tN (sQ (bK (rZ (lU (iA aI zT3 I I hbi oM sL) (lK (eB iT3 I hI.rd hgi I) (aT I (sW I (lM I (lU (nC I) (lU (fA ly I dX I) (lK (qL dY I (cK hb I)) (lM I (lK (SQ.eq (SQ.lookup mty104 I I (cw.known hm)) (by (rw[hget]; done))) ?_))))))))))))));refine lW (SO.callV I I (hp g _ c r (Le.refl g) hmem hcr)) ?_;rintro _ _ _ ⟨rfl,rfl,rfl⟩;refine tZ ?_;refine iQ I (fun hpc=>?_) (fun hpc=>?_)
  ·refine dW [9,10,11] [(0,2),(1,1),(2,2),(3,2),(4,2),(5,1),(6,2),(7,1),(8,0),(9,0),(10,0),(11,0)] Tryz.mixed kR ?_;refine pU I (fA c8 I cj I) (pK I (qL dS I (cO 1 I I)) (pU I (mV I) (pU I (nC I) (pU I (fA ly I dX I) (pK I (qL dY I (cK hb I)) (pU I (mV I) (pK I (SQ.eq (SQ.lookup mty104 I I (cw.known hm)) (by (rw[hget]; done))) ?_)))))));refine SP.o I (bS sty27 I I I (ae sB) dC) dC (.inr iR) ?_;rintro _ _ _ ⟨b33,rfl,rfl,rfl⟩;refine SP.o rfl (SO.app1 0 ((acc++[r]).flatMap encCell.enc) (acc++[r]).length sty27 rfl rfl rfl rfl rfl sB (by (simp[encCell]; rfl)) (by simp) lN lN) dC (.inl dC) ?_;rintro ov' _ _ ⟨rfl,rfl⟩;refine SP.facts fun ⟨w0,hw0⟩=>?_;obtain ⟨q',d',rfl⟩:=ah (e:=encCell) (l:=acc++[r]) (i:=0) hw0 rfl;clear hw0 w0;refine oU I (fA c8 I cj I) dC (.inl dC) (SP.on I (sK 1 cj I I I I I sB) (.inl dC) ?_);rintro _ _ _ ⟨rfl,rfl⟩;refine pN (bN (tN (rG (lU (aD I I oM) (lM I (nL ?_))))));exact gA (.slice q' (acc++[r]).length d',k+1,acc++[r]) sB I I ⟨lN,by dsimp only; rw[htake,hpc]; exact hacc.append ⟨hcR,trivial⟩⟩ lN
  ·refine kP (bN (tN (rG (lU (aD I I oM) (lM I (nL ?_))))));exact gA (ov,k+1,acc) sB I I ⟨lN,by dsimp only; rw[htake,hpc]; simpa using hacc⟩ lN
 ·have hkk:tl.take k=tl:=tL oM;rw[hkk] at hacc;refine xI (tX (tX (bX (tN (rZ (SL.freezeRowK fun g2 hle2 hs2=>?_))))));obtain ⟨q2,d2,rfl⟩:=hs2.form;refine lK (qV 0 ar ag I I I) (oZ (sK 1 ag I I I I I sB) ?_);refine tZ (rE ?_);exact ST.retCD 1 s (.inl I) results178 I ar ag I I uR ⟨I,hle2,_,acc,I,hs2,hacc⟩
theorem xB (E:World)(g:PH)(s:Own)(v pv:Value)(tl:List Cl)(p:Cl→Bool)(hv:Tab g v tl)(hnd:(tl.map Cl.id).Nodup)(hf:be tl)(hp:sN E pv p tl g) :
  Ctr Tryz.prog E 178 #[v,pv] g s (fun r g' s'=>s=s'∧Le g g'∧∃ u,r = .agg #[u]∧ao g' u (tl.filter p)) :=
 (y8 (aw g) E g s v pv tl p (fun _ _ h=>h) hv hnd hf hp).mono fun _ _ _ ⟨h1,h2,u,rs,h3,h4,h5⟩=>⟨h1,h2,u,h3,rs,h4.sl.mono (jw _ _),h5.mono fun _ _=>aw.mono h2⟩
theorem tD {l:List Cl}(p:Cl→Bool)(h:be l):be (l.filter p) :=
 ⟨Nat.lt_of_le_of_lt (List.length_filter_le _ _) h.1,fun c hc=>h.2 c (List.mem_filter.1 hc).1⟩
theorem vy (E:World)(g:PH)(s:Own)(v pv:Value)(tl:List Cl)(p:Cl→Bool)(hv:Tab g v tl)(hnd:(tl.map Cl.id).Nodup)(hf:be tl)(hp:sN E pv p tl g) :
  Ctr Tryz.prog E 143 #[v,pv] g s (fun r g' s'=>s=s'∧Le g g'∧dJ g' r ((tl.filter p).map Cl.id)):=by
 have hff:=(tD p hf).1;refine Ctr.of (args:=[v,pv]) func143 I ntmps143 (bE I) ?_;refine rZ (aT I (rZ (aT I (sQ (sW I (lM I (lW (cL call178 I (xB E g _ v pv tl p hv hnd hf hp)) ?_)))))));rintro _ g1 _ ⟨rfl,hle,u,rfl,rs,hrs,hall⟩;obtain ⟨q,d,rfl⟩:=hrs.form;have hlen:=hall.length;refine lU (SU.field c8 I dS I I) (lU (eN aH I) (lM I (tZ (bK ?_))));have hids:=iI hall;refine SC.nilRow 3 1 ?_;refine oP (ι:=Value×Nat) (fun i=>[(5,i.1),(11,.slice q rs.length d),(12,vi rs.length),(13,vi i.2)]) (fun _=>g1)
  (fun i=>rowA encInt 3 i.1 ((rs.take i.2).map Rc.id)::s)
  (fun i=>i.2≤rs.length) (fun i=>rs.length - i.2) (.slice none 0 0,0)
  sB rfl rfl (Nat.zero_le _) ?_
 rintro ⟨ov,k⟩ hk;dsimp only at hk ⊢;refine rZ (lU (lS I I) (tZ (sQ ?_)));refine iP I (fun hlt=>?_) (fun hlt=>?_)
 ·have hkr:k<rs.length:=oM;have hb1:=hrs.based oM;have htake:(rs.take (k+1)).map Rc.id=(rs.take k).map Rc.id++[rs[k].id]:=by rw[tS hkr,List.map_append]; rfl
  have hgx:rs[((k:Nat):Int).toNat]?=some rs[k]:=gE hkr;have htl:((rs.take k).map Rc.id).length=k:=by simp; omega
  generalize hx:rs[k]=x at *;refine kP (tN (sQ (bK (rZ (lU (iA aH au I I hb1 oM sL) (lK (eA du au I hrs.rd hgx) (bW (aL zeroValue53) fun b7=>?_)))))));refine oZ (sK 0 au I I I I I sB) ?_;refine tZ (rG (lM I (lU (fA aq I zT3 I) (lK (qL iT3 I (cO 0 I I)) (lW (bS sty83 I I I (ae sB) dC) ?_)))));rintro _ _ _ ⟨b20,rfl,rfl,rfl⟩;refine lW (SO.app1 1 (((rs.take (k+1)).map Rc.id).flatMap encInt.enc) ((rs.take (k+1)).map Rc.id).length sty83 rfl rfl rfl rfl rfl ⟨rfl,trivial⟩ (by rw[htake]; simp[encInt]; rfl) (by rw[htake]; simp) lN lN) ?_;rintro ov' _ _ ⟨rfl,rfl⟩;refine lA I (nL (bN (tN (rG (lU (aD I I oM) (lM I (nL (dR (s':=rowA encInt 3 ov' ((rs.take (k+1)).map Rc.id)::s) (.cons _ (.refl _)) ?_))))))));exact gA (ov',k+1) sB I I lN lN
 ·refine xI (tX (tX (bX (tN (sW I (aT I (rE ?_)))))));have hkk:rs.take k=rs:=tL oM;rw[hkk];refine fT fun g2 h2 hrow=>?_;exact ST.ret1 (.inl I) results143 I ⟨I,hle.trans h2,by rw[hids]; exact hrow⟩
def Aw (E:World)(pv:Value)(q:Side→Bool)(g:PH):Prop :=
 ∀ g' s a,Le g g'→dn Tryz.prog E pv [.agg (encSide.enc a).toArray] g' s (fun x g'' s''=>x=vb (q a)∧g'=g''∧s=s'')
theorem vD (E:World)(g:PH)(s:Own)(v:Value)(kn:FuncId)(kc:Array Value)(l:List Side)(q:Side→Bool)(hv:SlA encSide g v l)(hl:l.length<1099511627776)(hp:Aw E (.func (.func kn) #[] kc) q g) :
  Ctr Tryz.prog E 123 #[v,.func (.func kn) #[] kc] g s (fun r g' s'=>(∃ n:Int,r=vi n∧decide (n≥0)=l.any q)∧g=g'∧s=s'):=by
 obtain ⟨p,c,rfl⟩:=hv.form;refine Ctr.of (args:=[.slice p l.length c,.func (.func kn) #[] kc]) func123 I ntmps123 (bE I) ?_;refine rZ (aT I (sQ (sW I (lU (eN aN I) (lM I (tZ (bK ?_)))))));refine oP (ι:=Nat) (fun k=>[(0,.slice p l.length c),(1,.func (.func kn) #[] kc),(7,vi l.length),(8,vi k)]) (fun _=>g) (fun _=>s) (fun k=>k≤l.length∧(l.take k).any q=false) (fun k=>l.length - k) 0
  sB rfl rfl ⟨Nat.zero_le _,by simp⟩ ?_
 rintro k ⟨hk,hno⟩;refine rZ (lU (lS I I) (tZ (sQ ?_)));refine iP I (fun hlt=>?_) (fun hlt=>?_)
 ·have hkl:k<l.length:=oM;have hb1:=hv.based oM;refine kP (tN (sQ (bK (sW I (aT I (sW I (lM I (lM I (lU (iA aN aG I I hb1 oM sL) ?_)))))))));refine SL.q (eA eu aG I hv.rd (gE hkl)) dC ?_;refine lW (SO.callV I I (hp g _ l[k] (Le.refl g))) ?_;rintro _ _ _ ⟨rfl,rfl,rfl⟩;refine tZ ?_;refine iQ I (fun hq=>?_) (fun hq=>?_)
  ·refine sW I (aT I (rE (bR (tR (tR (bR (tR ?_)))))));have hany:l.any q=true:=List.any_eq_true.2 ⟨l[k],gM hkl,hq⟩;exact ST.ret1 (.inl I) results123 I ⟨⟨k,I,by rw[hany]; simp⟩,I,I⟩
  ·refine kP (bN (tN (rG (lU (aD I I oM) (lM I (nL ?_))))));exact gA (k+1) sB I I ⟨oM,by rw[tS hkl,List.any_append,hno]; simpa using hq⟩ oM
 ·refine xI (tX (tX (bX (tN (rZ (aT I (rE ?_)))))));have hkk:l.take k=l:=tL oM;rw[hkk] at hno;exact ST.ret1 (.inl rfl) results123 rfl ⟨⟨-1,rfl,by rw[hno]; rfl⟩,rfl,rfl⟩
theorem qf (E:World)(g:PH)(s:Own)(v:Value)(kn:FuncId)(kc:Array Value)(l:List Side)(q:Side→Bool)(hv:SlA encSide g v l)(hl:l.length<1099511627776)(hp:Aw E (.func (.func kn) #[] kc) q g) :
  Ctr Tryz.prog E 179 #[v,.func (.func kn) #[] kc] g s (fun r g' s'=>r=vb (l.any q)∧g=g'∧s=s'):=by
 refine Ctr.of (args:=[v,.func (.func kn) #[] kc]) func179 I ntmps179 (bE I) ?_;refine rZ (aT I (sW I (lM I (lW (cL call123 I (vD E g _ v kn kc l q hv hl hp)) ?_))));rintro _ _ _ ⟨⟨n,rfl,hn⟩,rfl,rfl⟩;refine lU (gQ I I) (aT I (rE ?_));exact ST.ret1 (.inl I) results179 I ⟨by rw[hn],I,I⟩
def l8 (c:Cl)(id:Int):Bool:=c.sides.any fun x=>decide (x.cell=id)
theorem hasP (E:World)(g:PH)(b:Nat)(id:Int)(hb:g b=some (.cells #[vi id] 3 (0,0))):Aw E (.func (.func 180) #[] #[pp b 0]) (fun x=>decide (x.cell=id)) g:=by
 intro g s a hle;refine dn.mk (cap:=[pp b 0]) call180 ?_;have hb':=hle _ _ hb;refine Ctr.of (args:=[.agg (encSide.enc a).toArray,pp b 0]) func180 I ntmps180 (bE I) ?_;refine rZ (bW (bO I) fun b2=>?_);refine aT I (rZ (lU (fA cl I zT3 I) (lK (qL iT3 I (cO 0 I I)) (lK (qL iT3 I (cK hb' I)) (lU (eQ I I) (aT I (rE (dR (s':=s) uR ?_))))))));exact ST.ret1 (.inl I) results180 I ⟨I,I,I⟩
theorem zw (E:World)(g:PH)(s:Own)(c:Cl)(r:Rc)(id:Int)(hc:aw g c r)(hl:c.sides.length<1099511627776) :
  Ctr Tryz.prog E 145 #[rcv r,vi id] g s (fun r g' s'=>r=vb (l8 c id)∧g=g'∧s=s'):=by
 refine Ctr.of (args:=[rcv r,vi id]) func145 I ntmps145 (bE I) ?_;refine rZ (bW (bO I) fun b2=>?_);refine bW (bO I) fun b3=>?_;refine SL.freeze fun g1 hle hb=>?_;refine aT I (rZ (lU (fA aq I aU I) (lK (qL bw I (cO 0 I I)) (lU (SU.mkFunc I) (lW (cL call179 I (qf E g1 _ _ 180 #[pp b3 0] c.sides _ (hc.2.2.mono hle) hl (hasP E g1 b3 id hb))) ?_)))));rintro _ _ _ ⟨rfl,rfl,rfl⟩;refine aT I (rE ?_);refine dR (s':=s) (.cons _ (.refl _)) (ST.less hle ?_);exact ST.ret1 (.inl I) results145 I ⟨I,I,I⟩
theorem BZ (E:World)(g:PH)(b:Nat)(id:Int)(tl:List Cl)(hf:be tl)(hb:g b=some (.cells #[vi id] 3 (0,0))):sN E (.func (.func 144) #[] #[pp b 0]) (fun c=>l8 c id) tl g:=by
 intro g s c r hle hm hc;refine dn.mk (cap:=[pp b 0]) call144 ?_;have hb':=hle _ _ hb;refine Ctr.of (args:=[rcv r,pp b 0]) func144 I ntmps144 (bE I) ?_;refine rZ (bW (bO I) fun b2=>?_);refine aT I (rZ (lK (qV 0 du au I I I) (lK (qL iT3 I (cK hb' I)) (lW (cL call145 I (zw E g _ c r id hc (hf.2 c hm))) ?_))));rintro _ _ _ ⟨rfl,rfl,rfl⟩;refine aT I (rE (dR (s':=s) uR ?_));exact ST.ret1 (.inl I) results144 I ⟨I,I,I⟩
def aj (l:List Cl)(id:Int):List Int:=((am l).filter fun c=>l8 c id).map Cl.id
theorem fm (E:World)(g:PH)(s:Own)(v:Value)(l:List Cl)(id:Int)(hv:ao g v l)(hf:be l) :
  Ctr Tryz.prog E 122 #[.agg #[v],vi id] g s (fun r g' s'=>s=s'∧Le g g'∧dJ g' r (aj l id)):=by
 refine Ctr.of (args:=[.agg #[v],vi id]) func122 I ntmps122 (bE I) ?_;refine rZ (bW (bO I) fun b2=>?_);refine bW (bO I) fun b3=>?_;refine SL.freeze fun g1 hle hb=>?_;refine aT I (rZ (lK (qV 0 ar ag I I I) (lW (cL call53 I (wG E g1 _ v l (hv.mono hle) hf)) ?_)));rintro tv g2 _ ⟨rfl,hle2,ht⟩;refine lU (SU.mkFunc I) (lW (cL call143 I (vy E g2 _ tv _ _ _ ht (la l) (bJ hf) (BZ E g2 b3 id _ (bJ hf) (hle2 _ _ hb)))) ?_);rintro r8 g3 _ ⟨rfl,hle3,hr⟩;refine aT I (rE (dR (s':=s) uR ?_));exact ST.ret1 (.inl I) results122 I ⟨I,hle.trans (hle2.trans hle3),hr⟩
theorem Tryz.mty164:MTy Tryz.prog 164 3 4 (vb false):=⟨underlying164,underlying3,zeroValue4⟩
def rA:Rc:=⟨0,0,none,0,0⟩
def bA:Cl:=⟨0,0,[]⟩
theorem fl {R:Cl→Rc→Prop}(hR:∀ c r,R c r→r.id=c.id){tl:List Cl}{rs:List Rc}(h:aC R tl rs)(k:Int):(tl.find? (fun c=>decide (c.id=k))=none∧dK (rs.map ak) k=none)∨∃ c r,tl.find? (fun c=>decide (c.id=k))=some c∧dK (rs.map ak) k=some (rcv r)∧R c r:=by
 induction tl generalizing rs with
 | nil=>cases rs with | nil=>exact .inl ⟨rfl,rfl⟩ | cons _ _=>exact h.elim
 | cons c t ih =>
  cases rs with
  | nil=>exact h.elim
  | cons r rs =>
   simp only[List.map_cons,ak,cG,List.find?_cons];by_cases hk:c.id=k
   ·right;have:k=r.id:=by rw[hR _ _ h.1,hk]
    exact⟨c,r,by simp[hk],by rw[if_pos this],h.1⟩
   ·have hk2:¬ k=r.id:=by rw[hR _ _ h.1]; exact fun e=>hk e.symm
    simp only[hk,decide_false,if_neg hk2];exact ih h.2
theorem yr {g:PH}{tl:List Cl}{rs:List Rc}(h:aC (aw g) tl rs)(k:Int):(tl.find? (fun c=>decide (c.id=k))=none∧dK (rs.map ak) k=none)∨∃ c r,tl.find? (fun c=>decide (c.id=k))=some c∧dK (rs.map ak) k=some (rcv r)∧aw g c r:=fl (fun _ _ h=>h.1) h k
theorem ru {g:PH}{tl:List Cl}{rs:List Rc}(h:aC (aw g) tl rs)(hw:∀ g,aw g bA rA)(k:Int):∃ r,(dK (rs.map ak) k).getD (.agg #[vi 0,vi 0,.slice none 0 0])=rcv r∧(dK (rs.map ak) k).isSome=(tl.find? (fun c=>decide (c.id=k))).isSome∧aw g ((tl.find? (fun c=>decide (c.id=k))).getD bA) r:=by
 rcases yr h k with ⟨h1,h2⟩ | ⟨c,r,h1,h2,h3⟩
 ·exact⟨rA,by rw[h2]; rfl,by rw[h1,h2]; rfl,by rw[h1]; exact hw g⟩
 ·exact⟨r,by rw[h2]; rfl,by rw[h1,h2]; rfl,by rw[h1]; exact h3⟩
theorem wl (g:PH):aw g bA rA:=⟨rfl,rfl,Sl.nil g _⟩
theorem Bz (g:PH):fU g bA rA:=⟨rfl,rfl,RK.nil _ _ g⟩
theorem vW {g:PH}{tl:List Cl}{rs:List Rc}(h:aC (fU g) tl rs)(k:Int):∃ r,(dK (rs.map ak) k).getD (.agg #[vi 0,vi 0,.slice none 0 0])=rcv r∧(dK (rs.map ak) k).isSome=(tl.find? (fun c=>decide (c.id=k))).isSome∧fU g ((tl.find? (fun c=>decide (c.id=k))).getD bA) r:=by
 rcases fl (fun _ _ h=>h.1) h k with ⟨h1,h2⟩ | ⟨c,r,h1,h2,h3⟩
 ·exact⟨rA,by rw[h2]; rfl,by rw[h1,h2]; rfl,by rw[h1]; exact Bz g⟩
 ·exact⟨r,by rw[h2]; rfl,by rw[h1,h2]; rfl,by rw[h1]; exact h3⟩
def findC (l:List Cl)(id:Int):Option Cl:=(am l).find? fun c=>decide (c.id=id)
theorem zD (E:World)(g:PH)(s:Own)(v:Value)(l:List Cl)(id:Int)(hv:ao g v l)(hf:be l) :
  Ctr Tryz.prog E 20 #[.agg #[v],vi id] g s (fun r g' s'=>s=s'∧Le g g'∧∃ x,r = .tuple #[rcv x,vb (findC l id).isSome]∧fU (mns g' g) ((findC l id).getD bA) x):=by
 refine Ctr.of (args:=[.agg #[v],vi id]) func20 I ntmps20 (bE I) ?_;refine rZ (bW (bO I) fun b2=>?_);refine bW (aL zeroValue53) fun b4=>?_;refine aT I (rZ (lK (qV 1 ar ag I I I) (lW (cL call53 I (zX E g _ v l hv hf)) ?_)));rintro tv g1 _ ⟨rfl,hle,ht⟩;obtain ⟨b,m,iv,rs,rfl,hb,hm,hI,hall⟩:=ht;obtain ⟨x,hx1,hx2,hx3⟩:=vW hall id;refine lU (nC rfl) (lU (fA ly rfl dX rfl) (lK (qL dY rfl (cK hb rfl)) (lM rfl (lK (SQ.eq (v':=.tuple #[rcv x,vb (findC l id).isSome]) (SQ.lookupOk mty104 rfl rfl (cw.known hm)) (by rw[hx1,hx2]; rfl)) ?_))));refine lM I (lU (xT I I) (lU (xT I I) (bW (aL zeroValue53) fun b6=>?_)));refine oZ (sK 0 au I I I I I sB) ?_;refine aT I (rZ (lK (qV 0 du au I I I) (lM I (oZ (sK 1 au I I I I I sB) ?_))));refine aT I (rE ?_);exact ST.retCD1 1 s (.inl I) results20 I I du au I I uR ⟨I,hle,x,I,hx3⟩
theorem yh (E:World)(g:PH)(s:Own)(v:Value)(l:List Cl)(id:Int)(hv:ao g v l)(hf:be l) :
  Ctr Tryz.prog E 20 #[.agg #[v],vi id] g s (fun r g' s'=>s=s'∧Le g g'∧∃ x,r = .tuple #[rcv x,vb (findC l id).isSome]∧aw g' ((findC l id).getD bA) x) :=
 (zD E g s v l id hv hf).mono fun _ _ _ ⟨h1,h2,x,h3,h4⟩=>⟨h1,h2,x,h3,h4.cr (jw _ _)⟩
def jT (tl:List Cl)(k:Int):Bool:=tl.any fun c=>l8 c k
def sV (l:List Cl):List Int:=((am l).filter fun c=>!jT (am l) c.id).map Cl.id
theorem uJ {g:PH}{tl:List Cl}{rs:List Rc}(h:aC (aw g) tl rs){r:Rc}(hr:r∈rs):∃ c,c∈tl∧aw g c r:=by
 obtain ⟨i,hi,rfl⟩:=List.getElem_of_mem hr;have hl:=h.length;have hi':i<tl.length:=oM;exact⟨tl[i],gM hi',h.get (gE hi') (gE hi)⟩
theorem zh {tl:List Cl}(h:(tl.map Cl.id).Nodup){a b:Cl}(ha:a∈tl)(hb:b∈tl)(e:a.id=b.id):a=b:=by
 induction tl with
 | nil=>simp at ha
 | cons c t ih =>
  simp only[List.map_cons,List.nodup_cons] at h
  rcases List.mem_cons.1 ha with rfl | ha' <;> rcases List.mem_cons.1 hb with rfl | hb'
  ·rfl
  ·exact absurd (List.mem_map.2 ⟨b,hb',e.symm⟩) h.1
  ·exact absurd (List.mem_map.2 ⟨a,ha',e⟩) h.1
  ·exact ih h.2 ha' hb'
theorem tq {vc tl:List Cl}(hs:∀ c∈vc,c∈tl)(hp:(vc.map Cl.id).Perm (tl.map Cl.id))(hn:(tl.map Cl.id).Nodup):vc.Perm tl:=by
 have hn2:(vc.map Cl.id).Nodup:=hp.symm.nodup hn;refine (List.perm_ext_iff_of_nodup (List.Pairwise.of_map Cl.id (fun a b hab e=>hab (by rw[e])) hn2) (List.Pairwise.of_map Cl.id (fun a b hab e=>hab (by rw[e])) hn)).2 fun c=>⟨hs c,fun hc=>?_⟩;obtain ⟨c',h1,h2⟩:=List.mem_map.1 (hp.symm.subset (List.mem_map.2 ⟨c,hc,rfl⟩));rw[← zh hn (hs c' h1) hc h2];exact h1
theorem rI {g:PH}{vl:List (Int×Value)}{rs:List Rc}{vc tl:List Cl}(hv:vl.map Prod.fst=vc.map Cl.id)(hs:∀ c∈vc,c∈tl)(hn:(tl.map Cl.id).Nodup)(hall:aC (aw g) tl rs)(hp:vl.Perm (rs.map ak)):vc.Perm tl:=by
 refine tq hs ?_ hn;have h1:=hp.map Prod.fst;rw[hv,List.map_map] at h1;rw[iI hall];exact h1
theorem BI {f:Fr}{t:Nat}{a b:Int}(h:a8 f t=some (vi a))(e:a=b):a8 f t=some (vi b):=e ▸ h
theorem mh {α:Type}{s:List α}{i:Nat}{a:α}(h:s[i]?=some a):s.set i a=s:=by
 apply List.ext_getElem?;intro j;rw[List.getElem?_set];split
 ·rename_i e;subst e;split
  ·exact h.symm
  ·rename_i h2;rw[List.getElem?_eq_none oM]
 ·rfl
def aA (tl:List Cl)(id:Int):Option Cl:=tl.find? fun c=>decide (c.id=id)
def uO (vis:List Int):List (Int×Value):=vis.map fun k=>(k,vb true)
theorem yW (vis:List Int):oa (uO vis) (fun k=>vis.contains k):=by
 intro k;induction vis with
 | nil=>rfl
 | cons a t ih =>
  simp only[uO,List.map_cons,cG] at ih ⊢;by_cases h:k=a
  ·simp[h]
  ·have h2:(k == a)=false:=by simpa using h
   rw[if_neg h,ih];simp[h]
theorem yX {vis:List Int}{id:Int}(h:vis.contains id=false):eE (uO vis) id (vb true)=uO (vis++[id]):=by
 rw[gt _ _ _ (fun p hp=>by
  obtain ⟨a,ha,rfl⟩:=List.mem_map.1 hp;intro e;simp at h;exact h (by rw[← e]; exact ha))]
 simp[uO]
theorem gv {tl:List Cl}{id:Int}{c:Cl}(h:aA tl id=some c):c∈tl∧c.id=id:=⟨List.mem_of_find?_eq_some h,by simpa using List.find?_some h⟩
theorem jp {α:Type}{l:List α}{j:Nat}{y:α}(h:l[j]?=some y):l.take (j+1)=l.take j++[y]:=by
 obtain ⟨h1,h2⟩:=List.getElem?_eq_some_iff.1 h;rw[tS h1,h2]
theorem wM {α:Type}{s:List α}{i:Nat}{a:α}(h:s[i]?=some a)(b:α):(s.set i b)[i]?=some b:=by
 have:=(List.getElem?_eq_some_iff.1 h).1;simp[this]
open Go Go.Sy Go.Pl Go.Proofs Go.Shelf Go.Sort
def tx:Ren :=
 {
  f:=fun x =>
   match x with
   | 189=>98
   | 125=>131
   | 257=>138
   | 128=>157
   | 129=>158
   | 294=>161
   | 295=>162
   | 296=>163
   | 297=>164
   | 298=>165
   | 299=>166
   | 216=>167
   | 300=>168
   | 301=>169
   | 328=>194
   | 329=>186
   | 330=>187
   | 331=>195
   | 332=>196
   | 215=>132
   | 343=>215
   | n=>n,
  t:=fun x =>
   match x with
   | 28=>83
   | 3=>3
   | 46=>170
   | 0=>0
   | 51=>192
   | 53=>114
   | 4=>4
   | 183=>186
   | 182=>185
   | 131=>118
   | 5=>5
   | 9=>9
   | 218=>214
   | 222=>218
   | 228=>239
   | 229=>240
   | n=>n,
  g:=fun x =>
   have n:=x;
   n }
theorem Tryz.lays189:Lays.n189 Tryz.prog tx :=
  {
  mixed:=Eq.refl true,f125:=Eq.trans func131 (congrArg some kR),
  f128:=Eq.trans func157 (congrArg some kR),
  f129:=Eq.trans func158 (congrArg some kR),
  f189:=Eq.trans func98 (congrArg some kR),
  f215:=Eq.trans func132 (congrArg some kR),
  f216:=Eq.trans func167 (congrArg some kR),
  f257:=Eq.trans func138 (congrArg some kR),
  f294:=Eq.trans func161 (congrArg some kR),
  f295:=Eq.trans func162 (congrArg some kR),
  f296:=Eq.trans func163 (congrArg some kR),
  f297:=Eq.trans func164 (congrArg some kR),
  f298:=Eq.trans func165 (congrArg some kR),
  f299:=Eq.trans func166 (congrArg some kR),
  f300:=Eq.trans func168 (congrArg some kR),
  f301:=Eq.trans func169 (congrArg some kR),
  f328:=Eq.trans func194 (congrArg some kR),
  f329:=Eq.trans func186 (congrArg some kR),
  f330:=Eq.trans func187 (congrArg some kR),
  f331:=Eq.trans func195 (congrArg some kR),
  f332:=Eq.trans func196 (congrArg some kR),
  f343:=Eq.trans func215 (congrArg some kR),t0:=underlying0,
  a0:=isAgg0,z0:=sizeOf0,v0:=zeroValue0,t3:=uT3,a3:=iT3,
  z3:=zT3,v3:=zeroValue3,t4:=uT4,a4:=isAgg4,z4:=zT4,
  v4:=zeroValue4,t5:=uT5,a5:=isAgg5,z5:=sizeOf5,v5:=zeroValue5,
  t9:=uT9,a9:=isAgg9,z9:=sizeOf9,v9:=zeroValue9,t28:=aI,
  a28:=jm,z28:=gp,v28:=zeroValue83,t46:=ft,a46:=isAgg170,
  z46:=sizeOf170,v46:=zeroValue170,t51:=underlying192,a51:=isAgg192,
  z51:=sizeOf192,v51:=zeroValue192,t53:=lv,a53:=isAgg114,
  z53:=sizeOf114,v53:=zeroValue114,t131:=underlying118,a131:=isAgg118,
  z131:=sizeOf118,v131:=zeroValue118,t182:=underlying185,a182:=isAgg185,
  z182:=sizeOf185,v182:=zeroValue185,t183:=underlying186,a183:=isAgg186,
  z183:=sizeOf186,v183:=zeroValue186,t218:=underlying214,a218:=isAgg214,
  z218:=sizeOf214,v218:=zeroValue214,t222:=underlying218,a222:=isAgg218,
  z222:=sizeOf218,v222:=zeroValue218,t228:=underlying239,a228:=isAgg239,
  z228:=sizeOf239,v228:=zeroValue239,t229:=underlying240,a229:=isAgg240,
  z229:=sizeOf240,v229:=zeroValue240 }
def f7 (l:List Int):List Int:=l.mergeSort fun x y=>decide (x≤y)
theorem lJ (l:List Int):(f7 l).length=l.length:=List.length_mergeSort ..
theorem ve (l:List Int):(f7 l).Perm l:=List.mergeSort_perm ..
theorem qW (l:List Int):l.flatMap encInt.enc=l.map (Value.int .i64):=by
 induction l with
 | nil=>rfl
 | cons a t ih=>simp only[List.flatMap_cons,List.map_cons,ih]; rfl
theorem pO (E:World)(g:PH)(s:Own)(v:Value)(l:List Int)(i:Nat)(hi:s[i]?=some (rowA encInt 3 v l))(hl:l.length<17592186044416) :
  Ctr Tryz.prog E 98 #[v] g s (fun _ g' s'=>g=g'∧s'=s.set i (rowA encInt 3 v (f7 l))):=by
 intro w hw;obtain ⟨h1,h2⟩:=gx hw hi
 rcases h2 with ⟨p,rfl,hn⟩ | ⟨b,cap,cur,rfl,hb,hle,hcm,hcs,ht⟩
 ·have hl0:l=[]:=List.eq_nil_of_length_eq_zero hn;subst hl0;refine (Any.slices_Sort_int_none lays189 p 0 w).mono ?_;rintro e w' ⟨rfl,rfl⟩;refine⟨_,g,s,I,hw,I,?_⟩;have:f7 []=[]:=by simp[f7]
  rw[this];exact (mh hi).symm
 ·have ht':cur.toList.take l.length=l.map (Value.int .i64):=by rw[← qW]; simpa using ht
  refine (Any.slices_Sort_int lays189 b 0 (cap+1) l w (holds_of_blockI hb ht') (Array.getElem?_eq_some_iff.1 hb).1 oM).mono ?_;rintro e w' ⟨rfl,n,os,rfl⟩;have hfr:=hw.fresh _ (List.mem_of_getElem? hi) b rfl;refine⟨_,g,_,I,?_,I,I⟩;obtain ⟨q1,q2,q3,q4,q5⟩:=grownBy_sortedI (w:=w) (g:=b) (n:=n) (os:=os) (f7 l).toArray;refine hw.turn hi I ⟨I,(by exact Nat.le_add_right _ _)⟩ I q4 (fun k hk hne=>q5 k hk hne) ?_ ?_
  ·have h5:=heap_sortedI (n:=n) (os:=os) (f7 l).toArray hb;have hlen:=lJ l;have:=dL (w:=grow (putRow (Value.int .i64) (Sort.ahead w n) b 0 (f7 l).toArray) os) (T:=3) (k:=1) (n:=(f7 l).length) (b:=b) (cap:=cap) (xs:=(f7 l).flatMap encInt.enc) (by rw[encInt.length]) h5 oM hcm (by simp[putCells]; simpa using hcs) (by
    rw[qW,Nat.mul_one];exact take_putCellsI cur (f7 l) (by rw[hlen,hcs]; omega))
   rw[hlen] at this;rw[show rowA encInt 3 (.slice (some ⟨b,0,none⟩) l.length (cap+1)) (f7 l)=row 3 1 (.slice (some ⟨b,0,none⟩) l.length (cap+1)) l.length ((f7 l).flatMap encInt.enc) by simp only[rowA,hlen]];exact this
  ·intro b' hb';simp only[rowA,row,l7,Option.some.injEq] at hb';subst hb';exact⟨Nat.lt_of_lt_of_le (Array.getElem?_eq_some_iff.1 hb).1 q4,.inl I⟩
def fe (c:Cl):Bool:=decide (c.dim<0)||decide (c.dim>8)
def a7 (c:Cl):Bool:=(decide (c.dim=0)&&decide ((c.sides.length:Int)>0))||(decide (c.dim=1)&&decide ((c.sides.length:Int)≠2))||(decide (c.dim>1)&&(decide ((c.sides.length:Int)<2)||decide ((c.sides.length:Int)>64)))
def ci (tl:List Cl)(c:Cl)(i:Nat)(x:Side):Bool:=!(aA tl x.cell).isSome||decide (((aA tl x.cell).getD bA).dim≠c.dim - 1)||(decide (i>0)&&decide ((c.sides[i - 1]?.map Side.cell)=some x.cell))
section
variable {tl:List Cl}{c p:Cl}{i:Nat}{x:Side}
theorem mZ (h:¬ (aA tl x.cell).isSome=true):ci tl c i x=true:=by
 have:(aA tl x.cell).isSome=false:=by simpa using h
 simp[ci,this]
theorem rk (h:(aA tl x.cell).isSome=true)(h2:((aA tl x.cell).getD bA).dim≠c.dim - 1):ci tl c i x=true:=by
 simp only[ci,h,h2,Bool.not_true,Bool.false_or,ne_eq,not_false_eq_true,decide_true,Bool.true_or]
theorem rj (h:(aA tl x.cell).isSome=true)(h2:¬ ((aA tl x.cell).getD bA).dim≠c.dim - 1)(h3:¬ (i:Int)>0):ci tl c i x=false:=by
 have h4:¬ i>0:=oM;simp only[ci,h,h2,h4,Bool.not_true,Bool.false_or,decide_false,Bool.false_and]
theorem rh {q:Side}(h:(aA tl x.cell).isSome=true)(h2:¬ ((aA tl x.cell).getD bA).dim≠c.dim - 1)(h3:(i:Int)>0)(hq:c.sides[i - 1]?=some q):ci tl c i x=decide (q.cell=x.cell):=by
 have h4:i>0:=oM;simp only[ci,h,h2,h4,hq,Bool.not_true,Bool.false_or,decide_false,decide_true,Bool.true_and,Option.map_some,Option.some.injEq]
end
def fQ (tl:List Cl)(c:Cl)(i:Nat):Bool:=match c.sides[i]? with
 | some x=>ci tl c i x
 | none=>false
def cg (x:Side):Bool:=decide (x.sign≠1)&&decide (x.sign ≠ -1)
theorem qD {x:Side}(h:x.sign≠1):cg x=decide (x.sign ≠ -1):=by simp[cg,h]
theorem qC {x:Side}(h:¬ x.sign≠1):cg x=false:=by simp[cg,h]
def nF (l:List Side):Int:=(l.map Side.sign).sum
def cN (tl:List Cl)(c:Cl):Int :=
 if fe c then 21 else if a7 c then 22 else if (List.range c.sides.length).any (fQ tl c) then 22 else if c.sides.any cg then 23 else if (decide (c.dim=1)&&decide (nF c.sides≠0)) then 23 else 0
theorem uY {l:List Side}(h:l.any cg=false):nF l≤l.length ∧ -(l.length:Int)≤nF l:=by
 induction l with
 | nil=>simp[nF]
 | cons x t ih =>
  simp only[List.any_cons,Bool.or_eq_false_iff] at h;have:=ih h.2;have hx:x.sign=1∨x.sign = -1:=by
   have h1:=h.1;simp only[cg,Bool.and_eq_false_iff,decide_eq_false_iff_not,ne_eq,Decidable.not_not] at h1;exact h1
  simp only[nF,List.map_cons,List.sum_cons,List.length_cons] at this ⊢;omega
theorem xY (E:World)(g:PH)(s:Own)(v:Value)(tl:List Cl)(c:Cl)(r:Rc)(hv:Tab g v tl)(hc:aw g c r)(hl:c.sides.length<1099511627776) :
  Ctr Tryz.prog E 84 #[v,rcv r] g s (fun r g' s'=>r=vi (cN tl c)∧g=g'∧s=s'):=by
 obtain ⟨b,mt,iv,rs,rfl,hb,hm,hI,hall⟩:=hv;obtain ⟨ri,rd,rp,rn,rcap⟩:=r;have hcs:SlA encSide g (.slice rp rn rcap) c.sides:=hc.2.2;have hrn:rn=c.sides.length:=Sl.slen hcs;have hrd:rd=c.dim:=hc.2.1;subst hrn hrd;have hx0:=fun h=>hcs.based h;refine Ctr.of (args:=[pp b 0,rcv ⟨ri,c.dim,rp,c.sides.length,rcap⟩]) func84 I ntmps84 (bE I) ?_;refine rZ (bW (bO I) fun b3=>?_);refine aT I (rZ (lU (fA aq I aU I) (lK (qL bw I (cO 0 I I)) (lU (eN aN I) (aT I (sQ (bK ?_)))))));refine SC.cutB 16 (fe c) ?_ ?_
 ·refine rG (lU (fA aq I zT3 I) (lK (qL iT3 I (cO 0 I I)) (lU (lS I I) (lM I ?_))));refine sP ?_ ?_
  ·intro h20;refine lZ I I I (lZ I I I (lZ I I I (lU (wT I I) (lA I (nL ?_)))));exact ST.mid1 (by simp_all[a8,fe] <;> omega) mI
  ·intro h20;refine lY I I I (fA aq I zT3 I) (SL.gq (gT I I I dC) (qL iT3 I (cO 0 I I)) dC (lY I I I (gR I I) (lU (wF I I) (lA I (nL ?_)))));exact ST.mid1 (by simp_all[a8,fe] <;> omega) mI
 refine iQ I (fun hdb=>?_) (fun hdb=>?_)
 ·refine rZ (aT I (rE (bR (tR (dR (s':=s) uR ?_)))));exact ST.ret1 (.inl I) results84 I ⟨by unfold cN; rw[if_pos hdb],I,I⟩
 ·have hd8:0≤c.dim∧c.dim≤8:=by simp[fe] at hdb; omega
  refine SC.cutB 25 (a7 c) ?_ ?_
  ·refine rG (lU (fA aq I zT3 I) (lK (qL iT3 I (cO 0 I I)) (lU (eQ I I) (lM I ?_))));refine sP ?_ ?_
   ·intro h29;refine lY I I I (mV I) (lY I I I (gR I I) (lU (wT I I) (lM I ?_)));refine sP ?_ ?_
    ·intro h33;refine lZ I I I (lZ I I I (lZ I I I (lZ I I I (SL.off (Gd.off I I I dC) dC (SL.off (Gd.off I I I dC) dC (lZ I I I (lU (wT I I) (lM I (lZ I I I (lZ I I I (lZ I I I (lZ I I I (SL.off (Gd.off I I I dC) dC (SL.off (Gd.off I I I dC) dC (SL.off (Gd.off I I I dC) dC (SL.off (Gd.off I I I dC) dC (SL.off (Gd.off I I I dC) dC (SL.off (Gd.off I I I dC) dC (lZ I I I (lU (wT I I) (lA I (nL ?_))))))))))))))))))))));exact ST.mid1 (by simp_all[a8,a7] <;> omega) mI
    ·intro h33;refine lY I I I (fA aq I zT3 I) (SL.gq (gT I I I dC) (qL iT3 I (cO 0 I I)) dC (lY I I I (eQ I I) (lY I I I (mV I) ?_)));refine sP ?_ ?_
     ·intro h37;refine lY I I I (mV I) (lY I I I (nQ I I) (lY I I I (wT I I) (lU (wF I I) (lM I ?_))));refine sP ?_ ?_
      ·intro h42;refine lZ I I I (lZ I I I (lZ I I I (lZ I I I (SL.off (Gd.off I I I dC) dC (SL.off (Gd.off I I I dC) dC (SL.off (Gd.off I I I dC) dC (SL.off (Gd.off I I I dC) dC (SL.off (Gd.off I I I dC) dC (SL.off (Gd.off I I I dC) dC (lZ I I I (lU (wT I I) (lA I (nL ?_)))))))))))));exact ST.mid1 (by simp_all[a8,a7] <;> omega) mI
      ·intro h42;refine lY I I I (fA aq I zT3 I) (SL.gq (gT I I I dC) (qL iT3 I (cO 0 I I)) dC (lY I I I (gR I I) (lY I I I (mV I) ?_)));refine sP ?_ ?_
       ·intro h46;refine lY I I I (mV I) (lY I I I (lS I I) (lY I I I (mV I) ?_));refine sP ?_ ?_
        ·intro h49;refine lZ I I I (lZ I I I (lY I I I (wT I I) (lY I I I (wT I I) (lU (wF I I) (lA I (nL ?_))))));exact ST.mid1 (by simp_all[a8,a7] <;> omega) mI
        ·intro h49;refine lY I I I (mV I) (lY I I I (gR I I) (lY I I I (wF I I) (lY I I I (wT I I) (lU (wF I I) (lA I (nL ?_))))));exact ST.mid1 (by simp_all[a8,a7] <;> omega) mI
       ·intro h46;refine lZ I I I (lZ I I I (lZ I I I (SL.off (Gd.off I I I dC) dC (SL.off (Gd.off I I I dC) dC (lZ I I I (lY I I I (wF I I) (lU (wF I I) (lA I (nL ?_)))))))));exact ST.mid1 (by simp_all[a8,a7] <;> omega) mI
     ·intro h37;refine lZ I I I (lZ I I I (lY I I I (wF I I) (lU (wF I I) (lM I (lY I I I (fA aq I zT3 I) (SL.gq (gT I I I dC) (qL iT3 I (cO 0 I I)) dC (lY I I I (gR I I) (lY I I I (mV I) ?_))))))));refine sP ?_ ?_
      ·intro h46;refine lY I I I (mV I) (lY I I I (lS I I) (lY I I I (mV I) ?_));refine sP ?_ ?_
       ·intro h49;refine lZ I I I (lZ I I I (lY I I I (wT I I) (lY I I I (wT I I) (lU (wF I I) (lA I (nL ?_))))));exact ST.mid1 (by simp_all[a8,a7] <;> omega) mI
       ·intro h49;refine lY I I I (mV I) (lY I I I (gR I I) (lY I I I (wF I I) (lY I I I (wT I I) (lU (wF I I) (lA I (nL ?_))))));exact ST.mid1 (by simp_all[a8,a7] <;> omega) mI
      ·intro h46;refine lZ I I I (lZ I I I (lZ I I I (SL.off (Gd.off I I I dC) dC (SL.off (Gd.off I I I dC) dC (lZ I I I (lY I I I (wF I I) (lU (wF I I) (lA I (nL ?_)))))))));exact ST.mid1 (by simp_all[a8,a7] <;> omega) mI
   ·intro h29;refine lZ I I I (lZ I I I (lU (wF I I) (lM I (lY I I I (fA aq I zT3 I) (SL.gq (gT I I I dC) (qL iT3 I (cO 0 I I)) dC (lY I I I (eQ I I) (lY I I I (mV I) ?_)))))));refine sP ?_ ?_
    ·intro h37;refine lY I I I (mV I) (lY I I I (nQ I I) (lY I I I (wT I I) (lU (wF I I) (lM I ?_))));refine sP ?_ ?_
     ·intro h42;refine lZ I I I (lZ I I I (lZ I I I (lZ I I I (SL.off (Gd.off I I I dC) dC (SL.off (Gd.off I I I dC) dC (SL.off (Gd.off I I I dC) dC (SL.off (Gd.off I I I dC) dC (SL.off (Gd.off I I I dC) dC (SL.off (Gd.off I I I dC) dC (lZ I I I (lU (wT I I) (lA I (nL ?_)))))))))))));exact ST.mid1 (by simp_all[a8,a7] <;> omega) mI
     ·intro h42;refine lY I I I (fA aq I zT3 I) (SL.gq (gT I I I dC) (qL iT3 I (cO 0 I I)) dC (lY I I I (gR I I) (lY I I I (mV I) ?_)));refine sP ?_ ?_
      ·intro h46;refine lY I I I (mV I) (lY I I I (lS I I) (lY I I I (mV I) ?_));refine sP ?_ ?_
       ·intro h49;refine lZ I I I (lZ I I I (lY I I I (wT I I) (lY I I I (wT I I) (lU (wF I I) (lA I (nL ?_))))));exact ST.mid1 (by simp_all[a8,a7] <;> omega) mI
       ·intro h49;refine lY I I I (mV I) (lY I I I (gR I I) (lY I I I (wF I I) (lY I I I (wT I I) (lU (wF I I) (lA I (nL ?_))))));exact ST.mid1 (by simp_all[a8,a7] <;> omega) mI
      ·intro h46;refine lZ I I I (lZ I I I (lZ I I I (SL.off (Gd.off I I I dC) dC (SL.off (Gd.off I I I dC) dC (lZ I I I (lY I I I (wF I I) (lU (wF I I) (lA I (nL ?_)))))))));exact ST.mid1 (by simp_all[a8,a7] <;> omega) mI
    ·intro h37;refine lZ I I I (lZ I I I (lY I I I (wF I I) (lU (wF I I) (lM I (lY I I I (fA aq I zT3 I) (SL.gq (gT I I I dC) (qL iT3 I (cO 0 I I)) dC (lY I I I (gR I I) (lY I I I (mV I) ?_))))))));refine sP ?_ ?_
     ·intro h46;refine lY I I I (mV I) (lY I I I (lS I I) (lY I I I (mV I) ?_));refine sP ?_ ?_
      ·intro h49;refine lZ I I I (lZ I I I (lY I I I (wT I I) (lY I I I (wT I I) (lU (wF I I) (lA I (nL ?_))))));exact ST.mid1 (by simp_all[a8,a7] <;> omega) mI
      ·intro h49;refine lY I I I (mV I) (lY I I I (gR I I) (lY I I I (wF I I) (lY I I I (wT I I) (lU (wF I I) (lA I (nL ?_))))));exact ST.mid1 (by simp_all[a8,a7] <;> omega) mI
     ·intro h46;refine lZ I I I (lZ I I I (lZ I I I (SL.off (Gd.off I I I dC) dC (SL.off (Gd.off I I I dC) dC (lZ I I I (lY I I I (wF I I) (lU (wF I I) (lA I (nL ?_)))))))));exact ST.mid1 (by simp_all[a8,a7] <;> omega) mI
  refine iQ I (fun hcb=>?_) (fun hcb=>?_)
  ·refine rZ (aT I (rE (bR (tR (dR (s':=s) uR ?_)))));exact ST.ret1 (.inl I) results84 I ⟨by unfold cN; rw[if_neg (by simp[hdb]),if_pos hcb],I,I⟩
  ·have hn64:c.sides.length≤64:=by
    simp[a7] at hcb
    rcases Int.lt_trichotomy c.dim 1 with h | h | h
    ·have:c.dim=0:=oM;have:=hcb.1.1 this;simp[this]
    ·have:=hcb.1.2 h;omega
    ·have:=hcb.2 h;omega
   refine kP (bN (tN (sQ (rZ (lU (fA aq I aU I) (lK (qL bw I (cO 0 I I)) (lU (eN aN I) (lM I (tZ (bK ?_))))))))));refine oP (ι:=Nat) (fun k=>[(0,pp b 0),(3,pp b3 0),(5,vi c.sides.length),(56,.slice rp c.sides.length rcap),(57,vi c.sides.length),(58,vi k)]) (fun _=>g)
    (fun _=>pt b3 (.cells #[vi ri,vi c.dim,.slice rp c.sides.length rcap] 53 (0,0))::s) (fun k=>k≤c.sides.length∧(List.range k).any (fQ tl c)=false) (fun k=>c.sides.length - k) 0
    sB rfl rfl ⟨Nat.zero_le _,by simp⟩ ?_
   rintro k ⟨hk,hno⟩;try dsimp only
   refine rZ (lU (lS I I) (tZ (sQ ?_)));refine iP I (fun hlt=>?_) (fun hlt=>?_)
   ·have hkl:k<c.sides.length:=oM;have hb1:=hx0 oM;have hjx:c.sides[((k:Nat):Int).toNat]?=some c.sides[k]:=gE hkl;have hjx':c.sides[k]?=some c.sides[k]:=gE hkl;generalize c.sides[k]=y at *;obtain ⟨x,hx1,hx2,hx3⟩:=ru hall wl y.cell;obtain ⟨xi,xd,xp,xn,xc⟩:=x;have hxd:xd=((aA tl y.cell).getD bA).dim:=hx3.2.1;subst hxd;have hprev:(k:Int)>0→c.sides[((k:Int) - 1).toNat]?=some (c.sides.getD (k - 1) y):=fun h=>by
     have h1:((k:Int) - 1).toNat=k - 1:=oM;have h2:k - 1<c.sides.length:=oM;rw[h1,gE h2,List.getD_eq_getElem?_getD,gE h2];rfl
    have hprev2:(k:Int)>0→c.sides[k - 1]?=some (c.sides.getD (k - 1) y):=fun h=>by
     have h2:k - 1<c.sides.length:=oM;rw[gE h2,List.getD_eq_getElem?_getD,gE h2];rfl
    refine kP (tN (sQ (bK (sW I (lU (iA aN aG I I hb1 oM sL) (lK (eA eu aG I hcs.rd hjx) (bW (aL zeroValue55) fun b7=>?_)))))));refine lA I (oZ (sK 0 aG I I I I I sB) ?_);refine tZ (sQ ?_);refine dW [11,12] [(0,2),(1,2),(2,2),(3,1),(4,2),(5,1),(6,1),(7,2),(8,2),(9,2),(10,0),(11,0),(12,0)] Tryz.mixed kR ?_;refine pU rfl (mV rfl) (pU rfl (nC rfl) (pU rfl (fA ly rfl dX rfl) (pK rfl (qL dY rfl (cK hb rfl)) (pU rfl (fA cl rfl zT3 rfl) (pK rfl (qL iT3 rfl (cO 0 rfl rfl)) (pK rfl (SQ.eq (v':=.tuple #[rcv ⟨xi,((aA tl y.cell).getD bA).dim,xp,xn,xc⟩,vb (decide ((aA tl y.cell).isSome=true))]) (SQ.lookupOk mty104 rfl rfl (cw.known hm)) (by rw[hx1,hx2,Bool.decide_eq_true]; rfl)) ?_))))));refine pU I (mV I) (pU I (xT I I) (pU I (xT I I) (SP.o I (aL zeroValue53) dC (.inr iR) ?_)));rintro _ _ _ ⟨b8,rfl,rfl,rfl⟩;refine SP.on I (sK 0 au I I I I I sB) (.inl dC) ?_;rintro _ _ _ ⟨rfl,rfl⟩;refine oU I (aS I) dC (.inl dC) (pN (tN ?_));refine SC.cutB 98 (ci tl c k y) ?_ ?_
    ·refine dW [] [(0,2),(1,2),(2,2),(3,2),(4,1),(5,2),(6,1),(7,2),(8,2),(9,2),(10,2),(11,2),(12,2),(13,2),(14,2),(15,1),(16,2),(17,2),(18,2),(19,2),(20,1),(21,2),(22,1),(23,2),(24,2),(25,2)] Tryz.mixed kR ?_;refine pU I (mV I) (pU I (SU.notP I) (pU I (mV I) ?_));refine SP.split ?_ ?_
     ·intro h75;refine fP I (gZ I I I dC) dC (SP.off1 I (gZ I I I dC) dC (fP I (gZ I I I dC) dC (SP.off1 I (gZ I I I dC) dC (fP I (gZ I I I dC) dC (fP I (gZ I I I dC) dC (pU I (wT I I) (pU I (mV I) (fP I (gZ I I I dC) dC (fP I (gZ I I I dC) dC (fP I (gZ I I I dC) dC (fP I (Gd.off I I I dC) dC (SP.off1 I (Gd.off I I I dC) dC (fP I (Gd.off I I I dC) dC (fP I (Gd.off I I I dC) dC (fP I (Gd.off I I I dC) dC (fP I (Gd.off I I I dC) dC (SP.off1 I (Gd.off I I I dC) dC (fP I (Gd.off I I I dC) dC (SP.off1 I (Gd.off I I I dC) dC (fP I (Gd.off I I I dC) dC (fP I (gZ I I I dC) dC (pU I (wT I I) (pN ?_)))))))))))))))))))))));exact ST.mid1 (by exact congrArg (fun b=>some (Value.bool b)) (mZ h75).symm) mI
     ·intro h75;refine SP.gu I (gT I I I dC) (fA aq I zT3 I) dC (SP.gq I (gT I I I dC) (qL iT3 I (cO 0 I I)) dC (SP.gu I (gT I I I dC) (fA aq I zT3 I) dC (SP.gq I (gT I I I dC) (qL iT3 I (cO 2 I I)) dC (SP.gu I (gT I I I dC) (sU I I oM) dC (SP.gu I (gT I I I dC) (nQ I I) dC (pU I (wF I I) (pU I (mV I) ?_)))))));refine SP.split ?_ ?_
      ·intro h83;refine fP I (gZ I I I dC) dC (fP I (gZ I I I dC) dC (fP I (gZ I I I dC) dC (fP I (Gd.off I I I dC) dC (SP.off1 I (Gd.off I I I dC) dC (fP I (Gd.off I I I dC) dC (fP I (Gd.off I I I dC) dC (fP I (Gd.off I I I dC) dC (fP I (Gd.off I I I dC) dC (SP.off1 I (Gd.off I I I dC) dC (fP I (Gd.off I I I dC) dC (SP.off1 I (Gd.off I I I dC) dC (fP I (Gd.off I I I dC) dC (fP I (gZ I I I dC) dC (pU I (wT I I) (pN ?_)))))))))))))));exact ST.mid1 (by exact congrArg (fun b=>some (Value.bool b)) (rk (Decidable.of_not_not h75) h83).symm) mI
      ·intro h83;refine SP.gu I (gT I I I dC) (mV I) dC (SP.gu I (gT I I I dC) (gR I I) dC (SP.gu I (gT I I I dC) (mV I) dC ?_));refine SP.split ?_ ?_
       ·intro h86;refine SP.gu I (gT I I I dC) (fA aq I aU I) dC (SP.gq I (gT I I I dC) (qL bw I (cO 2 I I)) dC (SP.gu I (gT I I I dC) (mV I) dC (SP.gu I (gT I I I dC) (sU I I oM) dC (SP.gu I (gT I I I dC) (iA aN aG I I (by assumption) oM (by (simp[slen]; omega))) dC ?_))));refine SP.gu I (gT I I I dC) (fC cl I zT3 I (by assumption)) dC ?_;refine SP.gq I (gT I I I dC) (aZ (o:=0) iT3 I hcs.rd (hprev h86) I) dC (SP.gu I (gT I I I dC) (fA cl I zT3 I) dC (SP.gq I (gT I I I dC) (qL iT3 I (cO 1 I I)) dC (SP.gu I (gT I I I dC) (eQ I I) dC (SP.gu I (gT I I I dC) (wT I I) dC (pU I (wF I I) (pN ?_))))));exact ST.mid1 (by exact congrArg (fun b=>some (Value.bool b)) (rh (Decidable.of_not_not h75) h83 h86 (hprev2 h86)).symm) mI
       ·intro h86;refine fP I (gZ I I I dC) dC (SP.off1 I (gZ I I I dC) dC (fP I (gZ I I I dC) dC (fP I (gZ I I I dC) dC (fP I (gZ I I I dC) dC (fP I (gZ I I I dC) dC (SP.off1 I (gZ I I I dC) dC (fP I (gZ I I I dC) dC (SP.off1 I (gZ I I I dC) dC (fP I (gZ I I I dC) dC (SP.gu I (gT I I I dC) (wF I I) dC (pU I (wF I I) (pN ?_))))))))))));exact ST.mid1 (by exact congrArg (fun b=>some (Value.bool b)) (rj (Decidable.of_not_not h75) h83 h86).symm) mI
    have hbat:fQ tl c k=ci tl c k y:=by unfold fQ; rw[hjx']
    refine iQ I (fun hbad=>?_) (fun hbad=>?_)
    ·refine rZ (aT I (rE (bR (tR (tR (bR (tR (dR (s':=s) uR ?_))))))));have hany:(List.range c.sides.length).any (fQ tl c)=true:=List.any_eq_true.2 ⟨k,List.mem_range.2 hkl,by rw[hbat]; exact hbad⟩;exact ST.ret1 (.inl I) results84 I ⟨by unfold cN; rw[if_neg (by simp[hdb]),if_neg (by simp[hcb]),if_pos hany],I,I⟩
    ·refine kP (bN (tN (rG (lU (aD I I oM) (lM I (nL (dR (s':=pt b3 (.cells #[vi ri,vi c.dim,.slice rp c.sides.length rcap] 53 (0,0))::s) (.cons _ (.cons _ (.refl _))) ?_)))))));exact gA (k+1) sB I I ⟨oM,by rw[List.range_succ,List.any_append,hno]; simp[hbat,hbad]⟩ oM
   ·refine xI (tX (tX (bX (tN (rZ (aT I (sQ (rZ (lU (fA aq I aU I) (lK (qL bw I (cO 0 I I)) (lU (eN aN I) (lM I (tZ (bK ?_))))))))))))));have hkk:k=c.sides.length:=oM;subst hkk;refine oP (ι:=Nat) (fun k=>[(3,pp b3 0),(10,vi (nF (c.sides.take k))),(101,.slice rp c.sides.length rcap),(102,vi c.sides.length),(103,vi k)]) (fun _=>g)
     (fun _=>pt b3 (.cells #[vi ri,vi c.dim,.slice rp c.sides.length rcap] 53 (0,0))::s) (fun k=>k≤c.sides.length∧(c.sides.take k).any cg=false) (fun k=>c.sides.length - k) 0
     sB rfl rfl ⟨Nat.zero_le _,by simp⟩ ?_
    rintro k ⟨hk2,hns⟩;try dsimp only
    have hsb:=uY hns;have htl:(c.sides.take k).length=k:=by simp; omega
    refine rZ (lU (lS I I) (tZ (sQ ?_)));refine iP I (fun hlt2=>?_) (fun hlt2=>?_)
    ·have hkl:k<c.sides.length:=oM;have hb1:=hx0 oM;have hjx:c.sides[((k:Nat):Int).toNat]?=some c.sides[k]:=gE hkl;have htk:c.sides.take (k+1)=c.sides.take k++[c.sides[k]]:=tS hkl;have hmemy:c.sides[k]∈c.sides:=gM hkl;generalize c.sides[k]=y at *;refine kP (tN (sQ (bK (rZ (lU (iA aN aG I I hb1 oM sL) (lK (eA eu aG I hcs.rd hjx) (bW (aL zeroValue55) fun b12=>?_)))))));refine oZ (sK 0 aG I I I I I sB) ?_;refine tZ (sQ ?_);refine SC.cutB 114 (cg y) ?_ ?_
     ·refine rG (lU (fA cl I zT3 I) (lK (qL iT3 I (cO 0 I I)) (lU (nQ I I) (lM I ?_))));refine sP ?_ ?_
      ·intro h110;refine lY I I I (fA cl I zT3 I) (SL.gq (gT I I I dC) (qL iT3 I (cO 0 I I)) dC (lY I I I (nQ I I) (lU (wT I I) (nL ?_))));exact ST.mid1 (by exact congrArg (fun b=>some (Value.bool b)) (qD h110).symm) mI
      ·intro h110;refine lZ I I I (lZ I I I (lZ I I I (lU (wF I I) (nL ?_))));exact ST.mid1 (by exact congrArg (fun b=>some (Value.bool b)) (qC h110).symm) mI
     refine iQ I (fun hsg=>?_) (fun hsg=>?_)
     ·refine rZ (aT I (rE (tR (bR (tR (tR (bR (tR (dR (s':=s) uR ?_)))))))));have hany:c.sides.any cg=true:=List.any_eq_true.2 ⟨y,hmemy,hsg⟩;exact ST.ret1 (.inl I) results84 I ⟨by unfold cN; rw[if_neg (by simp[hdb]),if_neg (by simp[hcb]),if_neg (by simp[hno]),if_pos hany],I,I⟩
     ·have hyb:y.sign=1∨y.sign = -1:=by
       simp only[cg,Bool.and_eq_false_iff,decide_eq_false_iff_not,ne_eq,Decidable.not_not] at hsg;exact hsg
      refine kP (tN (rG (lM I (lU (fA cl I zT3 I) (lK (qL iT3 I (cO 0 I I)) (lU (aD (m:=nF (c.sides.take k)) (n:=y.sign) I I oM) (lA I (nL (bN (tN (rG (lU (aD I I oM) (lM I (nL (dR (s':=pt b3 (.cells #[vi ri,vi c.dim,.slice rp c.sides.length rcap] 53 (0,0))::s) (.cons _ (.refl _)) ?_)))))))))))))));exact gA (k+1) ⟨I,BI I (by rw[htk]; simp[nF]),I,I,I,trivial⟩ I I ⟨oM,by rw[htk,List.any_append,hns]; simp[hsg]⟩ oM
    ·have hkk:c.sides.take k=c.sides:=tL oM;rw[hkk] at hns;rw[hkk];refine xI (tX (tX (bX (tN (sQ ?_)))));refine SC.cutB 126 ((decide (c.dim=1)&&decide (nF c.sides≠0))) ?_ ?_
     ·refine rG (lU (fA aq I zT3 I) (lK (qL iT3 I (cO 0 I I)) (lU (eQ I I) (lM I ?_))));refine sP ?_ ?_
      ·intro h123;refine lY I I I (mV I) (lY I I I (nQ I I) (lU (wT I I) (nL ?_)));exact ST.mid1 (by simp_all[a8]) mI
      ·intro h123;refine lZ I I I (lZ I I I (lU (wF I I) (nL ?_)));exact ST.mid1 (by simp_all[a8]) mI
     refine iQ I (fun hend=>?_) (fun hend=>?_)
     ·refine rZ (aT I (rE (tR (dR (s':=s) uR ?_))));exact ST.ret1 (.inl I) results84 I ⟨by unfold cN; rw[if_neg (by simp[hdb]),if_neg (by simp[hcb]),if_neg (by simp[hno]),if_neg (by simp[hns]),if_pos hend],I,I⟩
     ·refine kP (tN (rZ (aT I (rE (dR (s':=s) uR ?_)))));exact ST.ret1 (.inl I) results84 I ⟨by unfold cN; rw[if_neg (by simp[hdb]),if_neg (by simp[hcb]),if_neg (by simp[hno]),if_neg (by simp[hns]),if_neg (by rw[hend]; simp)],I,I⟩
theorem Tryz.mty163:MTy Tryz.prog 163 3 3 (vi 0):=⟨underlying163,underlying3,zeroValue3⟩
theorem Tryz.mty166:MTy Tryz.prog 166 3 83 (.slice none 0 0):=⟨underlying166,underlying3,zeroValue83⟩
abbrev Ms:=List (Int×Value×List Int)
def fw (ms:Ms):Own:=ms.map fun t=>rowA encInt 3 t.2.1 t.2.2
def iY (ms:Ms):List (Int×Value):=ms.map fun t=>(t.1,t.2.1)
def gI (ms:Ms):List (Int×List Int):=ms.map fun t=>(t.1,t.2.2)
def jn:List (Int×List Int)→Int→Int→List (Int×List Int)
 | [],k,x=>[(k,[x])]
 | (a,l)::r,k,x=>if k=a then (a,l++[x])::r else (a,l)::jn r k x
def sr:List (Int×Int)→Int→Int→List (Int×Int)
 | [],k,x=>[(k,x)]
 | (a,z)::r,k,x=>if k=a then (a,z+x)::r else (a,z)::sr r k x
def sn:List (Int×Int)→Int→Int
 | [],_=>0
 | (a,z)::r,k=>if k=a then z else sn r k
def pG (zl:List (Int×Int)):List (Int×Value):=zl.map fun p=>(p.1,vi p.2)
theorem zx (zl:List (Int×Int))(k:Int):(dK (pG zl) k).getD (vi 0)=vi (sn zl k):=by
 induction zl with
 | nil=>rfl
 | cons p r ih =>
  obtain ⟨a,z⟩:=p;simp only[pG,List.map_cons,cG,sn] at ih ⊢;split
  ·rfl
  ·exact ih
theorem zT (zl:List (Int×Int))(k x:Int):eE (pG zl) k (vi (sn zl k+x))=pG (sr zl k x):=by
 induction zl with
 | nil=>simp[pG,eE,sr,sn]
 | cons p r ih =>
  obtain ⟨a,z⟩:=p;simp only[pG,List.map_cons,eE,sn,sr] at ih ⊢;split
  ·rename_i h; subst h; rfl
  ·simp only[List.map_cons,ih]
theorem vF {zl:List (Int×Int)}{B:Int}(hB:0≤B)(h:∀ p∈zl,-B≤p.2∧p.2≤B)(k:Int) : -B≤sn zl k∧sn zl k≤B:=by
 induction zl with
 | nil=>simp only[sn]; omega
 | cons p r ih =>
  obtain ⟨a,z⟩:=p;simp only[sn];split
  ·exact h (a,z) (by simp)
  ·exact ih fun q hq=>h q (by simp[hq])
theorem we {zl:List (Int×Int)}{B:Int}(hB:0≤B)(h:∀ p∈zl,-B≤p.2∧p.2≤B)(k:Int){x:Int}(hx : -1≤x∧x≤1):∀ p∈sr zl k x,-(B+1)≤p.2∧p.2≤B+1:=by
 induction zl with
 | nil =>
  intro p hp;simp only[sr,List.mem_singleton] at hp;subst hp;dsimp only;omega
 | cons q r ih =>
  obtain ⟨a,z⟩:=q;intro p hp;simp only[sr] at hp;have h0:=h (a,z) (by simp);dsimp only at h0;split at hp
  ·rcases List.mem_cons.1 hp with rfl | hp
   ·dsimp only; omega
   ·have:=h p (by simp[hp]); omega
  ·rcases List.mem_cons.1 hp with rfl | hp
   ·dsimp only; omega
   ·exact ih (fun q hq=>h q (by simp[hq])) p hp
theorem B8 (ms:Ms)(k:Int):∃ (ms':Ms) (j:Nat) (v:Value) (l:List Int),ms'[j]?=some (k,v,l)∧(dK (iY ms) k).getD (.slice none 0 0)=v∧(∀ v' x,eE (iY ms) k v'=iY (ms'.set j (k,v',l++[x]))) ∧
  (∀ v' x,gI (ms'.set j (k,v',l++[x]))=jn (gI ms) k x)∧(∀ B,(∀ t∈ms,t.2.2.length≤B)→∀ t∈ms',t.2.2.length≤B)∧∀ E g (hd s:Own) w,At E g (hd++(fw ms++s)) w→At E g (hd++(fw ms'++s)) w:=by
 induction ms with
 | nil =>
  refine⟨[(k,.slice none 0 0,[])],0,.slice none 0 0,[],I,I,fun v' x=>I,fun v' x=>by simp[gI,jn],fun B _ t ht=>by simp at ht; subst ht; simp,fun E g hd s w h=>?_⟩;have h1:=h.nilRow 3 1;refine h1.perm ?_;simp only[fw,List.map_nil,List.nil_append,List.map_cons,List.singleton_append];exact List.perm_middle.symm
 | cons p r ih =>
  obtain ⟨a,u,l0⟩:=p;by_cases hk:k=a
  ·subst hk;refine⟨(k,u,l0)::r,0,u,l0,I,by simp[iY,cG],fun v' x=>by simp[iY,eE],fun v' x=>by simp[gI,jn],fun B h=>h,fun E g hd s w h=>h⟩
  ·obtain ⟨ms',j,v,l,h1,h2,h3,h4,h6,h5⟩:=ih;refine⟨(a,u,l0)::ms',j+1,v,l,by simpa using h1,?_,fun v' x=>?_,fun v' x=>?_,fun B h t ht=>?_,fun E g hd s w h=>?_⟩
   ·rw[← h2];simp[iY,cG,hk]
   ·have:=h3 v' x;simp only[iY,List.map_cons,eE,List.set_cons_succ] at this ⊢;rw[if_neg hk,this]
   ·have:=h4 v' x;simp only[gI,List.map_cons,jn,List.set_cons_succ] at this ⊢;rw[if_neg hk,this]
   ·rcases List.mem_cons.1 ht with rfl | ht
    ·exact h _ (by simp)
    ·exact h6 B (fun t ht=>h t (by simp[ht])) t ht
   ·have:=h5 E g (hd++[rowA encInt 3 u l0]) s w (by simpa [fw] using h);simpa [fw] using this
theorem SC.to {P:Program}{N:Nat}{E:World}{c:Code}{Q:Exit→Act→World→Prop}{f:Fr}{g g':PH}{s s':Own}(h:∀ w,At E g s w→At E g' s' w)(hc:SC P N E c Q f g' s'):SC P N E c Q f g s:=fun a w ha hw=>hc a w ha (h w hw)
theorem ST.to {N:Nat}{E:World}{e:Exit}{Q:Exit→Act→World→Prop}{f:Fr}{g g':PH}{s s':Own}(h:∀ w,At E g s w→At E g' s' w)(hc:ST N E Q e f g' s'):ST N E Q e f g s:=fun a w ha hw=>hc a w ha (h w hw)
theorem SL.to {P:Program}{N:Nat}{E:World}{ops:Array Oper}{l:List Oper}{Q:Exit→Act→World→Prop}{f:Fr}{g g':PH}{s s':Own}(h:∀ w,At E g s w→At E g' s' w)(hc:SL P N E ops Q l f g' s'):SL P N E ops Q l f g s:=fun a w ha hw=>hc a w ha (h w hw)
theorem fI {α:Type}(s:List α)(n j:Nat)(x:α):(s.take n).Sublist (s.set (j+n) x):=by
 rw[show s.take n=(s.set (j+n) x).take n by rw[List.take_set_of_le oM]];exact List.take_sublist _ _
theorem SC.drawT {P:Program}{N:Nat}{E:World}{ops:Array Oper}{Q:Exit→Act→World→Prop}{f:Fr}{g:PH}{s:Own}{id:Nat}(n:Nat)(tail:List Nat)(plan:List (Nat×Nat))(hm:P.follows .mixedOrders=true)(hok:sJ ops tail plan=true)
  (h:SP P N E ops Q g (s.take n) tail plan f g s):SC P N E (.region id ops true) Q f g s:=by
 intro a w ha hw;unfold sJ at hok;simp only[Bool.and_eq_true,beq_iff_eq] at hok;refine wp_region_any hm (jz _ _ _ _ (S:=At E g (s.take n)) (tail:=tail) ?_);have:=h (Array.replicate ops.size false) a { w with drawn:=w.drawn+1 } hok.1.1 (j5 _) hok.2 ha (hw.drew _ (Nat.le_succ _)) (fun _=>(hw.sublist (List.take_sublist n s)).drew _ (Nat.le_succ _));rw[hok.1.2] at this;exact this
theorem o8 {ms:Ms}{j:Nat}{k:Int}{v:Value}{l:List Int}(h:ms[j]?=some (k,v,l))(s:Own):(fw ms++s)[j]?=some (rowA encInt 3 v l):=by
 have hj:=(List.getElem?_eq_some_iff.1 h).1;rw[List.getElem?_append_left (by simpa [fw] using hj)];simp[fw,h]
theorem o7 {ms:Ms}{j:Nat}{k:Int}{v v':Value}{l l':List Int}(h:ms[j]?=some (k,v,l))(s:Own):(fw ms++s).set j (rowA encInt 3 v' l')=fw (ms.set j (k,v',l'))++s:=by
 have hj:=(List.getElem?_eq_some_iff.1 h).1;rw[List.set_append_left _ _ (by simpa [fw] using hj)];simp[fw,List.map_set]
theorem freezeRows {E:World}{w:World}:∀ (ms:Ms) (g:PH) (s:Own),At E g (fw ms++s) w→∃ g',Le g g'∧At E g' s w∧∀ t∈ms,dJ g' t.2.1 t.2.2
 | [],g,s,h=>⟨g,Le.refl g,h,by simp⟩
 | (a,v,l)::r,g,s,h=>by
  have h':At E g (row 3 1 v l.length (l.flatMap encInt.enc)::(fw r++s)) w:=h;obtain ⟨g1,hl1,h1,h2⟩:=h'.freezeRow;obtain ⟨g2,hl2,h3,h4⟩:=freezeRows r g1 s h1;refine⟨g2,hl1.trans hl2,h3,fun t ht=>?_⟩
  rcases List.mem_cons.1 ht with rfl | ht
  ·exact Sl.mono h2 hl2
  ·exact h4 t ht
theorem SC.freezeRows {P:Program}{N:Nat}{E:World}{c:Code}{Q:Exit→Act→World→Prop}{f:Fr}{g:PH}{s:Own}{ms:Ms}(h:∀ g',Le g g'→(∀ t∈ms,dJ g' t.2.1 t.2.2)→SC P N E c Q f g' s):SC P N E c Q f g (fw ms++s):=fun a w ha hw=>by
 obtain ⟨g',h1,h2,h3⟩:=Go.Proofs.YtackilpikhkijaaGreatDoor.freezeRows ms g s hw;exact h g' h1 h3 a w ha h2
def dfs (adj:Int→Option (List Int)):Nat→Int→List Int→List Int
 | 0,_,vis=>vis
 | n+1,id,vis =>
  match adj id with
  | none=>vis
  | some l=>if vis.contains id then vis else l.foldl (fun v x=>dfs adj n x v) (vis++[id])
theorem ki (adj:Int→Option (List Int))(n:Nat)(id:Int)(vis:List Int):dfs adj (n+1) id vis=(match adj id with
  | none=>vis
  | some l=>if vis.contains id then vis else l.foldl (fun v x=>dfs adj n x v) (vis++[id])):=rfl
theorem sA (adj:Int→Option (List Int)):∀ (n:Nat) (id:Int) (vis:List Int) (x:Int),x∈vis→x∈dfs adj n id vis
 | 0,_,_,_,h=>h
 | n+1,id,vis,x,h=>by
  unfold dfs;split
  ·exact h
  ·split
   ·exact h
   ·have:∀ (l:List Int) (v:List Int),x∈v→x∈l.foldl (fun v y=>dfs adj n y v) v:=by
     intro l;induction l with
     | nil=>intro v hv; exact hv
     | cons y t ih=>intro v hv; exact ih _ (sA adj n y v x hv)
    exact this _ _ (by simp[h])
def i4:List (Int×List Int)→Int→List Int
 | [],_=>[]
 | (a,l)::r,k=>if k=a then l else i4 r k
def yH (jl:List (Int×List Int))(k:Int):Bool:=jl.any fun p=>decide (p.1=k)
theorem qU {jl:List (Int×List Int)}{k:Int}(h:yH jl k=false):i4 jl k=[]:=by
 induction jl with
 | nil=>rfl
 | cons p r ih =>
  obtain ⟨a,l⟩:=p;simp only[yH,List.any_cons,Bool.or_eq_false_iff,decide_eq_false_iff_not] at h;simp only[i4];rw[if_neg (fun e=>h.1 e.symm)];exact ih h.2
def nG (jl:List (Int×List Int))(vis:List Int):Nat:=(jl.filter fun p=>!vis.contains p.1).length
theorem kC {tl:List (Int×List Int)}{v v':List Int}(h:∀ x∈v,x∈v'):nG tl v'≤nG tl v:=by
 unfold nG;rw[← List.countP_eq_length_filter,← List.countP_eq_length_filter];apply List.countP_mono_left;intro c _ hp;simp at hp ⊢;exact fun e=>hp (h _ e)
theorem wP {tl:List (Int×List Int)}{v:List Int}{k:Int}(hc:yH tl k=true)(hn:v.contains k=false):nG tl (v++[k])<nG tl v:=by
 induction tl with
 | nil=>simp[yH] at hc
 | cons d t ih =>
  have hm:nG t (v++[k])≤nG t v:=kC (fun x hx=>by simp[hx]);have e1:∀ u:List Int,nG (d::t) u=(if u.contains d.1 then 0 else 1)+nG t u:=fun u=>by
   unfold nG;rw[List.filter_cons];cases u.contains d.1 <;> simp <;> omega
  rw[e1,e1];simp only[yH,List.any_cons,Bool.or_eq_true,decide_eq_true_eq] at hc
  rcases hc with rfl | hc'
  ·have:(v++[d.1]).contains d.1=true:=by simp
   rw[this,hn];simp;omega
  ·have:=ih hc';cases h1:v.contains d.1
   ·cases h2:(v++[k]).contains d.1 <;> simp <;> omega
   ·have h2:(v++[k]).contains d.1=true:=by simp at h1 ⊢; exact .inl h1
    rw[h2];simp;exact this
theorem xM {g:PH}(js:Ms)(h:∀ t∈js,dJ g t.2.1 t.2.2)(k:Int):∃ v,(dK (iY js) k).getD (.slice none 0 0)=v∧dJ g v (i4 (gI js) k):=by
 induction js with
 | nil=>exact⟨_,rfl,Sl.nil g _⟩
 | cons p r ih =>
  obtain ⟨a,u,l⟩:=p;by_cases hk:k=a
  ·subst hk;exact⟨u,by simp[iY,cG],by simpa [gI,i4] using h (k,u,l) (by simp)⟩
  ·obtain ⟨v,h1,h2⟩:=ih fun t ht=>h t (by simp[ht]);exact⟨v,by simpa [iY,cG,hk] using h1,by simpa [gI,i4,hk] using h2⟩
def jK (jl:List (Int×List Int))(i:Int):Option (List Int):=some (i4 jl i)
theorem uS (E:World)(g:PH)(bs bj bf m mj:Nat)(js:Ms)(hj:Mp g mj (iY js))(hjs:∀ t∈js,dJ g t.2.1 t.2.2)(hlen:∀ t∈js,t.2.2.length<1099511627776)(h1:g bs=some (.cells #[.map (some m)] 164 (0,0)))(h2:g bj=some (.cells #[.map (some mj)] 166 (0,0)))
  (h3:g bf=some (.cells #[.func (.func 128) #[] #[pp bs 0,pp bj 0,pp bf 0]] 167 (0,0))):∀ (n:Nat) (id:Int) (vis:List Int) (s:Own) (i:Nat),nG (gI js) vis<n→s[i]?=some (mp m (uO vis)) →
  Ctr Tryz.prog E 128 #[vi id,pp bs 0,pp bj 0,pp bf 0] g s (fun _ g' s'=>g=g'∧s'=s.set i (mp m (uO (dfs (jK (gI js)) n id vis)))):=by
 intro n;induction n with
 | zero=>intro id vis s i h; omega
 | succ n ih =>
 intro id vis s i hcnt hi;obtain ⟨v,hv1,hv2⟩:=xM js hjs id;have hvl:(i4 (gI js) id).length<1099511627776:=by
  have:∀ q:Ms,(∀ t∈q,t.2.2.length<1099511627776)→(i4 (gI q) id).length<1099511627776:=by
   intro q hq;induction q with
   | nil=>simp[gI,i4]
   | cons p r ihq =>
    obtain ⟨a,u,l⟩:=p;simp only[gI,List.map_cons,i4];split
    ·exact hq (a,u,l) (by simp)
    ·exact ihq fun t ht=>hq t (by simp[ht])
  exact this js hlen
 generalize hL:i4 (gI js) id=L at hv2 hvl;obtain ⟨p,cp,rfl⟩:=SlA.form hv2;refine Ctr.of (args:=[vi id,pp bs 0,pp bj 0,pp bf 0]) func128 I ntmps128 (bE I) ?_;refine rZ (lK (qL isAgg164 I (cK h1 I)) (lM I (lK (SQ.eq (v':=vb (vis.contains id)) (SQ.lookup mty164 I I (cw.own i hi)) ((yW vis).get id)) (lU (SU.not I) (tZ ?_)))));refine iQ I (fun hc=>?_) (fun hc=>?_)
 ·have hnv:vis.contains id=false:=by simpa using hc
  refine rZ (lK (qL isAgg164 I (cK h1 I)) (lM I (lO (SO.mapUpdate i mty164 I I I hi) ?_)));rintro _ _ _ ⟨rfl,rfl⟩;rw[yX hnv];refine tZ (rZ (lK (qL isAgg166 I (cK h2 I)) (lM I (lK (SQ.eq (SQ.lookup mty166 I I (cw.known hj)) hv1) (lU (eN aI I) (lM I (tZ (bK ?_))))))));refine oP (ι:=Nat×List Int) (fun q=>[(3,pp bf 0),(15,.slice p L.length cp),(16,vi L.length),(17,vi q.1)]) (fun _=>g)
   (fun q=>s.set i (mp m (uO q.2))) (fun q=>q.1≤L.length∧q.2=(L.take q.1).foldl (fun v x=>dfs (jK (gI js)) n x v) (vis++[id])∧(0<L.length→nG (gI js) q.2<n)) (fun q=>L.length - q.1)
   (0,vis++[id]) sB rfl rfl ⟨Nat.zero_le _,by simp,fun hpos=>?_⟩ ?_
  ·cases hh:yH (gI js) id with
   | false =>
    rw[qU hh] at hL;rw[← hL] at hpos;simp at hpos
   | true =>
    have:=wP hh hnv;dsimp only;omega
  rintro ⟨j,vj⟩ ⟨hj1,hvj,hcj⟩;dsimp only at hj1 hvj hcj ⊢;refine rZ (lU (lS I I) (tZ (sQ ?_)));refine iP I (fun hlt=>?_) (fun hlt=>?_)
  ·have hjl:j<L.length:=oM;have hb1:=SlA.based hv2 oM;have hjx:L[((j:Nat):Int).toNat]?=some L[j]:=gE hjl;have hjx':L[j]?=some L[j]:=gE hjl;generalize L[j]=y at *;refine kP (tN (sQ (bK (rZ (lU (iA aI zT3 I I hb1 oM sL) (lK (eB iT3 I (SlA.rd hv2) hjx I) (aT I (rG (lK (qL isAgg167 I (cK h3 I)) (lM I (lW (SO.callV I I (dn.mk (cap:=[pp bs 0,pp bj 0,pp bf 0]) call128 (ih y vj _ i (hcj oM) (wM hi _)))) ?_)))))))))));rintro _ _ _ ⟨rfl,rfl⟩;refine nL (bN (tN (rG (lU (aD I I oM) (lM I (nL ?_))))));exact gA (j+1,dfs (jK (gI js)) n y vj) sB I (by rw[List.set_set]) ⟨lN,by
    rw[jp hjx',List.foldl_append,← hvj]; rfl,fun h=>Nat.lt_of_le_of_lt (kC fun x hx=>sA _ n _ _ x hx) (hcj h)⟩ lN
  ·refine xI (tX (tX (bX ?_)));have hjj:L.take j=L:=tL oM;have hr:dfs (jK (gI js)) (n+1) id vis=vj:=by
    rw[hjj] at hvj;rw[hvj,ki];simp only[jK,hL,hnv,Bool.false_eq_true,if_false]
   exact ST.ret0 (.inr I) results128 ⟨I,by rw[hr]⟩
 ·refine kP ?_;have hin:vis.contains id=true:=by simpa using hc
  have hr:dfs (jK (gI js)) (n+1) id vis=vis:=by
   rw[ki];simp only[jK,hin,if_true]
  exact ST.ret0 (.inr I) results128 ⟨I,by rw[hr,mh hi]⟩
inductive Rch (adj:Int→Option (List Int)):Int→Int→Prop
 | refl (a:Int) (h:adj a≠none):Rch adj a a
 | step (a b c:Int) (l:List Int) (h:adj a=some l) (hb:b∈l) (r:Rch adj b c):Rch adj a c
theorem Rch.node {adj:Int→Option (List Int)}{a b:Int}(h:Rch adj a b):adj a≠none:=by
 cases h with
 | refl _ h=>exact h
 | step _ _ _ l h _ _=>rw[h]; simp
theorem qZ (adj:Int→Option (List Int)):∀ (n:Nat) (id:Int) (vis:List Int) (x:Int),x∈dfs adj n id vis→x∈vis∨Rch adj id x
 | 0,_,_,_,h=>.inl h
 | n+1,id,vis,x,h=>by
  rw[ki] at h;cases ha:adj id with
  | none=>rw[ha] at h; exact .inl h
  | some l =>
   rw[ha] at h;dsimp only at h;split at h
   ·exact .inl h
   ·have key:∀ (q:List Int) (v:List Int),(∀ y∈q,y∈l)→x∈q.foldl (fun v y=>dfs adj n y v) v→x∈v∨Rch adj id x:=by
     intro q;induction q with
     | nil=>intro v _ hx; exact .inl hx
     | cons y t ih =>
      intro v hq hx
      rcases ih _ (fun z hz=>hq z (by simp[hz])) hx with h1 | h1
      ·rcases qZ adj n y v x h1 with h2 | h2
       ·exact .inl h2
       ·exact .inr (.step id y x l ha (hq y (by simp)) h2)
      ·exact .inr h1
    rcases key l _ (fun y hy=>hy) h with h1 | h1
    ·rcases List.mem_append.1 h1 with h2 | h2
     ·exact .inl h2
     ·simp at h2;subst h2;exact .inr (.refl _ (by rw[ha]; simp))
    ·exact .inr h1
theorem kB (adj:Int→Option (List Int)):∀ (n:Nat) (id:Int) (vis:List Int),vis.Nodup→(dfs adj n id vis).Nodup
 | 0,_,_,h=>h
 | n+1,id,vis,h=>by
  rw[ki];cases adj id with
  | none=>exact h
  | some l =>
   dsimp only;split
   ·exact h
   ·rename_i hc;have key:∀ (q:List Int) (v:List Int),v.Nodup→(q.foldl (fun v y=>dfs adj n y v) v).Nodup:=by
     intro q;induction q with
     | nil=>intro v hv; exact hv
     | cons y t ih=>intro v hv; exact ih _ (kB adj n y v hv)
    refine key l _ ?_;rw[List.nodup_append];refine⟨h,by simp,fun a ha b hb e=>hc ?_⟩;simp at hb;subst hb;simpa [← e] using ha
theorem lX (adj:Int→Option (List Int))(cnt:List Int→Nat)(hm:∀ v v',(∀ x∈v,x∈v')→cnt v'≤cnt v)(hs:∀ v k l,adj k=some l→l≠[]→v.contains k=false→cnt (v++[k])<cnt v) :
  ∀ (n:Nat) (id:Int) (vis:List Int),cnt vis<n→(adj id≠none→id∈dfs adj n id vis)∧∀ x∈dfs adj n id vis,x ∉ vis→∀ l,adj x=some l→∀ y∈l,adj y≠none→y∈dfs adj n id vis
 | 0,_,_,h=>absurd h oM
 | n+1,id,vis,hc=>by
  rw[ki];cases ha:adj id with
  | none=>exact⟨fun h=>absurd rfl h,fun x hx hn=>absurd hx hn⟩
  | some l =>
   dsimp only;split
   ·rename_i hin;exact⟨fun _=>by simpa using hin,fun x hx hn=>absurd hx hn⟩
   ·rename_i hin;have hin':vis.contains id=false:=by simpa using hin
    have key:∀ (q:List Int) (v:List Int),(∀ x∈vis++[id],x∈v)→(∀ x∈v,x ∉ vis++[id]→∀ l,adj x=some l→∀ y∈l,adj y≠none→y∈v)→(q≠[]→cnt v<n) →
      (∀ x∈v,x∈q.foldl (fun v y=>dfs adj n y v) v)∧(∀ y∈q,adj y≠none→y∈q.foldl (fun v y=>dfs adj n y v) v) ∧
      ∀ x∈q.foldl (fun v y=>dfs adj n y v) v,x ∉ vis++[id]→∀ l,adj x=some l→∀ y∈l,adj y≠none→y∈q.foldl (fun v y=>dfs adj n y v) v:=by
     intro q;induction q with
     | nil=>intro v _ h2 _; exact⟨fun x hx=>hx,by simp,h2⟩
     | cons y t ih =>
      intro v h1 h2 h3;have hcv:=h3 (by simp);obtain ⟨d1,d2⟩:=lX adj cnt hm hs n y v hcv;have hsub:=sA adj n y v;have hcl:∀ x∈dfs adj n y v,x ∉ vis++[id]→∀ l,adj x=some l→∀ z∈l,adj z≠none→z∈dfs adj n y v:=by
       intro x hx hn l hl z hz hzn;by_cases hxv:x∈v
       ·exact hsub z (h2 x hxv hn l hl z hz hzn)
       ·exact d2 x hx hxv l hl z hz hzn
      obtain ⟨e1,e2,e3⟩:=ih (dfs adj n y v) (fun x hx=>hsub x (h1 x hx)) hcl (fun _=>Nat.lt_of_le_of_lt (hm _ _ hsub) hcv);simp only[List.foldl_cons];refine⟨fun x hx=>e1 x (hsub x hx),fun z hz hzn=>?_,e3⟩
      rcases List.mem_cons.1 hz with rfl | hz
      ·exact e1 z (d1 hzn)
      ·exact e2 z hz hzn
    obtain ⟨k1,k2,k3⟩:=key l (vis++[id]) (fun x hx=>hx) (fun x hx hn=>absurd hx hn) (fun hl=>by have:=hs vis id l ha hl hin'; omega);refine⟨fun _=>k1 id (by simp),fun x hx hn l' hl' y hy hyn=>?_⟩;by_cases hxv:x∈vis++[id]
    ·rcases List.mem_append.1 hxv with h | h
     ·exact absurd h hn
     ·simp at h;subst h;rw[ha] at hl';injection hl' with hl'
      subst hl';exact k2 y hy hyn
    ·exact k3 x hx hxv l' hl' y hy hyn
theorem wI {adj:Int→Option (List Int)}{cnt:List Int→Nat}(hm:∀ v v',(∀ x∈v,x∈v')→cnt v'≤cnt v)(hs:∀ v k l,adj k=some l→l≠[]→v.contains k=false→cnt (v++[k])<cnt v){n:Nat}{id:Int}(hc:cnt []<n)(hn:adj id≠none)(x:Int) :
  x∈dfs adj n id []↔Rch adj id x:=by
 obtain ⟨d1,d2⟩:=lX adj cnt hm hs n id [] hc;refine⟨fun h=>(qZ adj n id [] x h).resolve_left (by simp),fun h=>?_⟩;have key:∀ a b,Rch adj a b→a∈dfs adj n id []→b∈dfs adj n id []:=by
  intro a b hr;induction hr with
  | refl a _=>exact fun h=>h
  | step a b c l hl hb r ih=>exact fun h=>ih (d2 a h (by simp) l hl b hb r.node)
 exact key id x h (d1 hn)
theorem Rch.mono {adj adj':Int→Option (List Int)}(h:∀ x l,adj x=some l→∀ y∈l,∃ l',adj' x=some l'∧y∈l')(hn:∀ x,adj x≠none→adj' x≠none){a b:Int}(hr:Rch adj a b):Rch adj' a b:=by
 induction hr with
 | refl a h1=>exact .refl a (hn a h1)
 | step a b c l hl hb _ ih =>
  obtain ⟨l',h1,h2⟩:=h a l hl b hb;exact .step a b c l' h1 h2 ih
theorem nx (jl:List (Int×List Int)):∀ v k l,jK jl k=some l→l≠[]→v.contains k=false→nG jl (v++[k])<nG jl v:=by
 intro v k l hl hne hv;refine wP ?_ hv;cases h:yH jl k with
 | true=>rfl
 | false =>
  rw[jK,qU h] at hl;injection hl with hl
  exact absurd hl.symm hne
theorem xW (jl:List (Int×List Int))(a b x:Int):i4 (jn jl a b) x=if x=a then i4 jl x++[b] else i4 jl x:=by
 induction jl with
 | nil=>simp[jn,i4]
 | cons p r ih =>
  obtain ⟨k,l⟩:=p;simp only[jn];by_cases h:a=k
  ·subst h;simp only[if_true,i4];split <;> rfl
  ·rw[if_neg h];simp only[i4,ih];by_cases hx:x=k
   ·subst hx;rw[if_pos rfl,if_pos rfl,if_neg (fun e=>h e.symm)]
   ·rw[if_neg hx,if_neg hx]
end Go.Proofs.YtackilpikhkijaaGreatDoor
