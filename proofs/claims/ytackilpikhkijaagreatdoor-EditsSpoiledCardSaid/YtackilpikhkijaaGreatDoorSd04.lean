/- 4 -/
import Derived.Test.YtackilpikhkijaaGreatDoorSd03
import Derived.Shelf.Sort.Plain
import Derived.Shelf.Slices.In.SortNone
import Derived.Sort.OwnSortedInts
set_option linter.unusedSimpArgs false
set_option linter.unusedVariables false
namespace Go.Sy
open Go
def mns (g' g:PH):PH:=fun b=>match g b with | none=>g' b | some _=>none
theorem pP {g' g:PH}{b:Nat}(h:g b=none):mns g' g b=g' b:=by simp only[mns,h]
theorem pO {g' g:PH}{b:Nat}{o:Obj}(h:mns g' g b=some o):g b=none∧g' b=some o:=by
 unfold mns at h;split at h
 ·rename_i e; exact⟨e,h⟩
 ·cases h
theorem jE (g' g:PH):Le (mns g' g) g':=fun _ _ h=>(pO h).2
theorem mM {g g' g'':PH}(h:Le g' g''):Le (mns g' g) (mns g'' g):=fun b o hb=>by
 obtain ⟨h1,h2⟩:=pO hb;rw[pP h1]; exact h _ _ h2
theorem mN {g0 g g':PH}(h:Le g0 g):Le (mns g' g) (mns g' g0):=fun b o hb=>by
 obtain ⟨h1,h2⟩:=pO hb;have:g0 b=none:=by
  cases h3:g0 b with
  | none=>rfl
  | some x=>rw[h _ _ h3] at h1; cases h1
 rw[pP this]; exact h2
section
variable {α:Type}{k:Nat}{e:Enc α k}{T U:TypeId}{g g':PH}{s:Own}{v:Value}{l:List α}
def RK (e:Enc α k)(T:TypeId)(g:PH)(v:Value)(l:List α):Prop:=(∃ p,v = .slice p 0 0∧l=[]) ∨
 ∃ b cap cur,v = .slice (some ⟨b,0,none⟩) l.length (cap+1)∧g b=some (.cells cur T (0,0))∧l.length≤cap+1∧cur.size=(cap+1) * k∧cur.toList.take (l.length * k)=l.flatMap e.enc
theorem RK.mono (h:RK e T g v l)(hl:Le g g'):RK e T g' v l:=by
 rcases h with h | ⟨b,cap,cur,h1,h2,h3⟩
 ·exact .inl h
 ·exact .inr ⟨b,cap,cur,h1,hl _ _ h2,h3⟩
theorem RK.sl (h:RK e T g v l):SlA e g v l:=by
 rcases h with ⟨p,rfl,rfl⟩ | ⟨b,cap,cur,rfl,h2,h3,h4,h5⟩
 ·exact⟨p,0,I,⟨by simp,lR _⟩,fun h=>absurd I h⟩
 ·refine⟨_,_,I,⟨e.length l,h3⟩,fun _=>⟨b,0,cur,T,(0,0),I,h2,fun j x hj=>?_⟩⟩;rw[← h5,zi4] at hj;split at hj
  ·simpa using hj
  ·cases hj
theorem RK.form (h:RK e T g v l):∃ p c,v = .slice p l.length c:=h.sl.form
theorem RK.nil (e:Enc α k)(T:TypeId)(g:PH):RK e T g (.slice none 0 0) []:=.inl ⟨none,rfl,rfl⟩
theorem At.freezeRowK {E:World}{w:World}(h:At E g (rowA e T v l::s) w):∃ g',Le g g'∧At E g' s w∧RK e T (mns g' g) v l:=by
 obtain ⟨hlen,h1⟩:=f9 (i:=0) h rfl
 rcases h1 with ⟨p,rfl,h0⟩ | ⟨b,cap,cur,rfl,hb,hle,_,hsz,htake⟩
 ·exact⟨g,zb9 g,h.sublist<|zj4 _ _,.inl ⟨p,I,zf7 h0⟩⟩
 ·have hf:=h.fresh _ (List.mem_cons_self ..) b rfl;obtain ⟨h2,h3⟩:=h.freeze (b:=b) rfl hb;exact⟨_,h3,h2,.inr ⟨b,cap,cur,I,by rw[pP hf.1]; exact iL _ _ _,hle,hsz,htake⟩⟩
variable {P:Program}{N:Nat}{E:World}{ops:Array Oper}{Q:Exit→Act→World→Prop}{f:Fr}
theorem SL.freezeRowK {o:List Oper}(h:∀ g',Le g g'→RK e T (mns g' g) v l→SL P N E ops Q o f g' s):SL P N E ops Q o f g (rowA e T v l::s):=fun a w ha hw=>by
 obtain ⟨g',h1,h2,h3⟩:=hw.freezeRowK;exact h g' h1 h3 a w ha h2
end
section
variable {P:Program}{N:Nat}{E:World}{f:Fr}{g:PH}{s:Own}{dst:Option Tmp}{ty:TypeId}{pos:String}{af:Array Edge}{gd:Option (Nat×Bool)}
end
section
variable {α:Type}{k:Nat}{e:Enc α k}{T U:TypeId}{g:PH}{v:Value}{l:List α}
end
end Go.Sy
namespace Go.Proofs.YtackilpikhkijaaGreatDoor
open _root_.Go.Proofs.Tryz _root_.Go.Proofs.YtackilpikhkijaaGreatDoor.Tryz
open Go Go.Sy Go.Pl Go.Proofs
set_option maxRecDepth 100000
structure Cl where
 id:Int
 dim:Int
 sides:List Side
 deriving DecidableEq
def ar (g:PH)(c:Cl)(r:Rc):Prop:=r.id=c.id∧r.dim=c.dim∧SlA encSide g (.slice r.sv.p r.sv.n r.sv.c) c.sides
theorem ar.mono {g g':PH}(hl:Le g g'){c:Cl}{r:Rc}(h:ar g c r):ar g' c r:=⟨h.1,h.2.1,h.2.2.mono hl⟩
def ao (g:PH)(v:Value)(l:List Cl):Prop:=∃ rs,SlA encCell g v rs∧aA (ar g) l rs
theorem ao.mono {g g':PH}{v:Value}{l:List Cl}(h:ao g v l)(hl:Le g g'):ao g' v l:=by
 obtain ⟨rs,h1,h2⟩:=h;exact⟨rs,h1.mono hl,h2.mono fun _ _=>ar.mono hl⟩
theorem ao.form {g:PH}{v:Value}{l:List Cl}(h:ao g v l):∃ p c,v = .slice p l.length c:=by
 obtain ⟨rs,h1,h2⟩:=h;rw[h2.length];exact h1.form
def f5 (g:PH)(c:Cl)(r:Rc):Prop:=r.id=c.id∧r.dim=c.dim∧RK encSide 55 g (.slice r.sv.p r.sv.n r.sv.c) c.sides
theorem f5.mono {g g':PH}(hl:Le g g'){c:Cl}{r:Rc}(h:f5 g c r):f5 g' c r:=⟨h.1,h.2.1,h.2.2.mono hl⟩
theorem f5.cr {g g':PH}(hl:Le g g'){c:Cl}{r:Rc}(h:f5 g c r):ar g' c r:=⟨h.1,h.2.1,h.2.2.sl.mono hl⟩
def gJ (g:PH)(v:Value)(l:List Cl):Prop:=∃ rs,RK encCell 53 g v rs∧aA (f5 g) l rs
theorem gJ.mono {g g':PH}{v:Value}{l:List Cl}(h:gJ g v l)(hl:Le g g'):gJ g' v l:=by
 obtain ⟨rs,h1,h2⟩:=h;exact⟨rs,h1.mono hl,h2.mono fun _ _=>f5.mono hl⟩
theorem gJ.cells {g g':PH}{v:Value}{l:List Cl}(h:gJ g v l)(hl:Le g g'):ao g' v l:=by
 obtain ⟨rs,h1,h2⟩:=h;exact⟨rs,h1.sl.mono hl,h2.mono fun _ _=>f5.cr hl⟩
def bo (l:List Cl):Prop:=l.length<1099511627776∧∀ c∈l,c.sides.length<1099511627776
def fc (c:Cl):Cl:=⟨c.id,c.dim,sortBy Side.cell c.sides⟩
def aa (l:List Cl):List Cl:=(sortBy Cl.id l).map fc
theorem Tryz.build29 (x:Value)(h:x.cells = #[x])(w:World):(Instr.build 29 #[(0,x)]).run Tryz.prog w = .ok (.agg #[x]) w:=by
 have hz:(Value.agg #[Value.slice none 0 0]).cells = #[.slice none 0 0]:=rfl;simp[Instr.build,Instr.fill,h,hz]
theorem Bx (x y:Side)(w:World):(binOp .neq 55 (.agg (encSide.enc x).toArray)<|.agg (encSide.enc y).toArray).run Tryz.prog w = .ok (.bool<|decide (x≠y)) w:=by
 have hu:Tryz.prog.underlying 55=some (.struct<|Tryz.prog.fieldsOf 55):=by kernel_rfl
 have hf:(Tryz.prog.fieldsOf 55).toList=(Tryz.prog.fieldsOf 55).toList:=rfl;rw[run_neq_struct,run_equalIn_agg w 9999 55 _ _ hu stoodInHeld55]
 have hfs : ∃ f1 f2,(Tryz.prog.fieldsOf 55).toList = [f1,f2] ∧ f1.name ≠ "_" ∧ f2.name ≠ "_" ∧ f1.type = 3 ∧ f2.type = 3 ∧ f1.offset = 0 ∧ f2.offset = 1:=⟨_,_,rfl,by decide,by decide,rfl,rfl,rfl,rfl⟩
 obtain ⟨f1,f2,e,n1,n2,t1,t2,o1,o2⟩:=hfs;obtain ⟨a,b⟩:=x;obtain ⟨c,d⟩:=y;rw[e];have h1:=run_equalIn_int (P:=Tryz.prog) w 9998 3 .i64 .i64 a c uT3;have h2:=run_equalIn_int (P:=Tryz.prog) w 9998 3 .i64 .i64 b d uT3;simp only[Op.eqFields,n1,n2,t1,t2,o1,o2,encSide,part,ne_eq,not_false_eq_true,if_true,Sem.run_bind,iT3,zd2];simp[h1,h2];by_cases hac:a=c <;> by_cases hbd:b=d <;> simp[hac,hbd]
theorem CX (E:World)(g:PH):wZ E (.func (.func 92) #[] #[]) Rc.id g:=by
 intro g s a hle;refine dA.mk (cap:=[]) call92<|zb2 (args:=[.agg (encCell.enc a).toArray]) func92 I ntmps92 (bE I)<|rZ (bW (bO I) fun b1=>?_);exact aT I<|rZ<|lU (fA aq I zT3 I)<|lK (qL iT3 I<|cO 0 I I)<|aT I<|rE<|dR (s':=s) uR<|za8 (.inl I) results92 I ⟨I,I,I⟩
theorem BP (E:World)(g:PH):wY E (.func (.func 94) #[] #[]) Side.cell g:=by
 intro g s a hle;refine dA.mk (cap:=[]) call94<|zb2 (args:=[.agg (encSide.enc a).toArray]) func94 I ntmps94 (bE I)<|rZ (bW (bO I) fun b1=>?_);exact aT I<|rZ<|lU (fA bZ I zT3 I)<|lK (qL iT3 I<|cO 0 I I)<|aT I<|rE<|dR (s':=s) uR<|za8 (.inl I) results94 I ⟨I,I,I⟩
theorem nn (E:World)(g:PH)(s:Own)(v:Value)(l:List Cl)(hv:ao g v l)(hf:bo l) :
  Ctr Tryz.prog E 55 #[.agg #[v]] g s (fun r g' s'=>s=s'∧Le g g'∧∃ u,r = .agg #[u]∧gJ (mns g' g) u (aa l)):=by
 obtain ⟨rs,hrs,hall⟩:=hv;have hlen:=hall.length;have hfl:=hf.1;have hall':=aA.sortBy (f:=Cl.id) (h:=Rc.id) (fun a b h=>h.1.symm) hall;obtain ⟨p,c,rfl⟩:=za4 hrs;refine zb2 (args:=[.agg #[.slice p rs.length c]]) func55 I ntmps55 (bE I)<|rZ (bW (bO I) fun b1=>?_);refine bW (aL zl5) fun b2=>tZ<|rZ<|lU (fA bM I bt I)<|lK (qL de I<|cO 1 I I)<|lW (cL call91 I<|Bw E g _ _ 92 #[] Rc.id (CX E g) rs hrs oM) ?_;rintro r3 _ _ ⟨rfl,rfl⟩;refine zd4 fun ⟨w0,hw0⟩=>?_;obtain ⟨q,d,rfl⟩:=ag (i:=0) hw0 rfl;have hbq:0<(sortBy Rc.id rs).length→based (.slice q (sortBy Rc.id rs).length d)=true:=fun h=>(by obtain ⟨b0,c0,he⟩:=aO (i:=0) hw0 rfl h; rw[he]; rfl);clear hw0 w0;refine aT I<|sQ<|sW I<|lU (eN aI I)<|lM I<|tZ<|bK ?_;have hsl:(sortBy Rc.id rs).length=rs.length:=dp rs;refine oP (ι:=PH×List Rc×List Rc×List Cl×List Cl) (fun i=>[(2,pp b2 0),(3,.slice q (sortBy Rc.id rs).length d),(9,vi (sortBy Rc.id rs).length),(10,vi i.2.1.length)]) (fun i=>i.1)
  (fun i=>rowA encCell 53 (.slice q (sortBy Rc.id rs).length d) (i.2.1++i.2.2.1)::pt b2 (.cells #[.slice none 0 0] 29 (0,0))::pt b1 (.cells #[.slice p rs.length c] 29 (0,0))::s)
  (fun i=>Le g i.1∧aA (f5<|mns i.1 g) i.2.2.2.1 i.2.1∧aA (ar g) i.2.2.2.2 i.2.2.1∧aa l=i.2.2.2.1++i.2.2.2.2.map fc∧(i.2.1.length+i.2.2.1.length=(sortBy Rc.id rs).length∧∀ x∈i.2.2.2.2,x∈l)) (fun i=>i.2.2.1.length)
  (g,[],sortBy Rc.id rs,[],sortBy Cl.id l) sB rfl rfl ⟨zb9 g,trivial,hall',by simp[aa],by simp,fun x hx=>(jK l x).1 hx⟩ ?_
 rintro ⟨g1,ds,rest,dl,rl⟩ ⟨hle,hd,hr,hcan,hlen1,hmem⟩;dsimp only at hle hd hr hcan hlen1 hmem ⊢;have hrl:=hr.length;refine rZ<|yL I<|tZ<|sQ<|iP I (fun hlt=>?_) (fun hlt=>?_)
 ·cases rest with
  | nil=>simp at hlen1; omega
  | cons x rest =>
  obtain ⟨cx,rl',hrle,hcx,hr'⟩:=hr.cons_right;subst hrle;have hxl:cx.sides.length<1099511627776:=hf.2 cx (hmem cx (by simp));simp only[zf2] at hlen1;have hgx:(ds++x::rest)[((ds.length:Nat):Int).toNat]?=some x:=a6 oM;have hbs:based (.slice q (sortBy Rc.id rs).length d)=true:=hbq oM;refine kP (tN (sQ (bK (sW I (aT I (rG (lM I (lM I (lM I (lM I (lU (iA aI au I I hbs oM sL) (lU (fC aq I aJ I hbs) (lK (aZ (o:=2) aX I (zb7 0 I) hgx I) (lW (cL call93 I (Bv E g1 _ _ 94 #[] Side.cell (BP E g1) cx.sides (hcx.2.2.mono hle) hxl)) ?_))))))))))))));rintro r20 _ _ ⟨rfl,rfl⟩;refine SL.freezeRowK fun g2 hle2 hs2=>?_;obtain ⟨q2,d2,rfl⟩:=hs2.form;refine lU (iA aI au I I hbs oM sL) (lU (fC aq I aJ I hbs) (oZ (SO.partA (o:=2) 0 ⟨x.id,x.dim,q2,_,d2⟩ aJ I I I hgx I I dC I) (nL (bN (tN (rG (yD I (lM I (nL ?_)))))))));exact gA (g2,ds++[⟨x.id,x.dim,q2,(sortBy Side.cell cx.sides).length,d2⟩],rest,dl++[fc cx],rl') ⟨I,I,I,aV lN,trivial⟩ I (by
    dsimp only;rw[show (ds++x::rest).set ((ds.length:Nat):Int).toNat ⟨x.id,x.dim,q2,(sortBy Side.cell cx.sides).length,d2⟩=ds++[⟨x.id,x.dim,q2,(sortBy Side.cell cx.sides).length,d2⟩]++rest by rw[cw oM]; simp];rfl) ⟨hle.trans hle2,(hd.mono fun _ _=>f5.mono (mM hle2)).append ⟨(by exact⟨hcx.1,hcx.2.1,hs2.mono (mN hle)⟩:f5 (mns g2 g) (fc cx) ⟨x.id,x.dim,q2,(sortBy Side.cell cx.sides).length,d2⟩),trivial⟩,hr',by rw[hcan]; simp,lN,fun y hy=>hmem y (by simp[hy])⟩ lN
 ·have hr0:rest=[]:=zf7 oM;subst hr0;have hrl0:rl=[]:=hr.nil_right;subst hrl0;refine xI (tX<|tX<|bX<|tN<|rZ<|SL.freezeRowK fun g2 hle2 hs2=>?_);refine lM I<|lU (za3 I<|build29 _ I)<|oZ (sK 0 ah I I I I I sB)<|tZ<|rE<|ST.retCD 0 s (.inl I) results55 I aw ah I I (.cons _<|.cons _<|.refl _) ⟨I,hle.trans hle2,_,I,ds,?_,?_⟩
  ·simpa using hs2.mono<|mN hle
  ·rw[hcan];simpa using hd.mono fun _ _=>f5.mono<|mM hle2
theorem jN (E:World)(g:PH)(s:Own)(v:Value)(l:List Cl)(hv:ao g v l)(hf:bo l) :
  Ctr Tryz.prog E 55 #[.agg #[v]] g s (fun r g' s'=>s=s'∧Le g g'∧∃ u,r = .agg #[u]∧ao g' u (aa l)) :=
 (nn E g s v l hv hf).mono fun _ _ _ ⟨h1,h2,u,h3,h4⟩=>⟨h1,h2,u,h3,h4.cells<|jE _ _⟩
theorem ig {α:Type}{l m:List α}{k:Nat}(h1:k<l.length)(h2:k<m.length)(h:l.take k=m.take k)(he:l[k]=m[k]):l.take (k+1)=m.take (k+1):=by
 rw[tS h1,tS h2,h,he]
theorem iY {α:Type}{l m:List α}(hl:l.length=m.length)(h:l.take l.length=m.take l.length):l=m:=by
 rw[tL<|lR _,tL oM] at h;exact h
theorem SU.neqSide {N:Nat}{f:Fr}{dst:Option Tmp}{ty:TypeId}{pos:String}{af:Array Edge}{gd:Option (Nat×Bool)}{x y:Operand}{a b:Side}{U:TypeId}(hx:ev f x=some (.agg (encSide.enc a).toArray))(hy:ev f y=some (.agg (encSide.enc b).toArray)) :
  SU Tryz.prog N ⟨dst,.binOp .neq 55 x y U,ty,pos,af,gd⟩ f (.bool<|decide (a≠b)):=fun ac w ha=>by
 have hg:=run_eqGuard_agg (P:=Tryz.prog) w .neq 55 x y (encSide.enc a).toArray (encSide.enc b).toArray eqGuardType55;simp only[execOp,ha.ev hx,ha.ev hy,Sem.run_bind,hg,zd2,Bx];rfl
theorem wu (E:World)(g:PH)(s:Own)(v u:Value)(l m:List Side)(hv:SlA encSide g v l)(hu:SlA encSide g u m)(hl:l.length<1099511627776) :
  Ctr Tryz.prog E 95 #[v,u] g s (fun r g' s'=>r=vb (decide (l=m))∧g=g'∧s=s'):=by
 obtain ⟨p,c,rfl⟩:=hv.form;obtain ⟨q,d,rfl⟩:=hu.form;refine zb2 (args:=[.slice p l.length c,.slice q m.length d]) func95 I ntmps95 (bE I)<|rZ<|aT I<|sQ<|sW I<|lU (eN aM I)<|lM I<|lU (eN aM I)<|lU (nQ I I)<|tZ<|iP I (fun hne=>?_) (fun hne=>?_)
 ·exact rZ<|aT I<|rE<|tR<|za8 (.inl I) results95 I ⟨by have:l≠m:=fun e=>hne (by rw[e]); simp[this],I,I⟩
 ·refine kP<|tN<|sQ<|sW I<|lU (eN aM I)<|lM I<|tZ<|bK ?_;have hlen:l.length=m.length:=oM;refine oP (ι:=Nat) (fun k=>[(0,.slice p l.length c),(1,.slice q m.length d),(12,vi l.length),(13,vi k)]) (fun _=>g) (fun _=>s) (fun k=>k≤l.length∧l.take k=m.take k) (fun k=>l.length - k) 0
   sB rfl rfl ⟨zf9 _,by simp⟩ ?_
  rintro k ⟨hk,heq⟩;refine rZ<|yL I<|tZ<|sQ<|iP I (fun hlt=>?_) (fun hlt=>?_)
  ·have hkl:k<l.length:=oM;have hkm:k<m.length:=oM;have hb1:=hv.based oM;have hb2:=hu.based oM;refine kP<|tN<|sQ<|bK<|sW I<|aT I<|sQ<|dW [] [(0,2),(1,2),(2,2),(3,1),(4,2),(5,2),(6,2),(7,1),(8,2)] ze6 kR<|yM I<|yM I<|pU I (iA aM aH I I hb1 oM sL)<|pQ I (eA eK aH I hv.rd<|gE hkl) dC<|yM I<|yM I<|pU I (iA aM aH I I hb2 oM sL)<|pQ I (eA eK aH I hu.rd<|gE hkm) dC<|pU I (SU.neqSide I I)<|pN<|tN<|iP I (fun hd=>?_) (fun hd=>?_)
   ·exact rZ<|aT I<|rE<|bR<|tR<|tR<|bR<|tR<|za8 (.inl I) results95 I ⟨by have:l≠m:=fun e=>hd (by simp[e]); simp[this],I,I⟩
   ·exact kP<|bN<|tN<|rG<|yD I<|lM I<|nL<|gA (k+1) sB I I ⟨oM,ig hkl hkm heq<|zh3 hd⟩ oM
  ·refine xI<|tX<|tX<|bX<|tN<|rZ<|aT I<|rE ?_;have hkk:k=l.length:=oM;subst hkk;have:l=m:=iY hlen heq;exact za8 (.inl I) results95 I ⟨by simp[this],I,I⟩
theorem CY {x y:Cl}:x=y↔x.id=y.id∧x.dim=y.dim∧x.sides=y.sides:=by
 cases x; cases y; simp
theorem bJ {l:List Cl}(h:bo l):bo (aa l):=by
 refine⟨by simp[aa,dp]; exact h.1,fun c hc=>?_⟩;simp only[aa,zf5] at hc;obtain ⟨c0,h0,rfl⟩:=hc;simp only[fc,dp];exact h.2 c0<|(jK l c0).1 h0
theorem Tryz.mty104:MTy Tryz.prog 104 3 53 (.agg #[vi 0,vi 0,.slice none 0 0]):=⟨underlying104,underlying3,zl8⟩
def ie (acc:List Cl)(c:Cl):List Cl:=if acc.any (fun x=>x.id == c.id) then acc else acc++[c]
theorem p4 {acc:List Cl}{c:Cl}(h:acc.any (fun x=>x.id == c.id)=true):ie acc c=acc:=zg4 h
theorem kB {acc:List Cl}{c:Cl}(h:acc.any (fun x=>x.id == c.id)=false):ie acc c=acc++[c]:=zg3 (by rw[h]; simp)
def am (l:List Cl):List Cl:=(aa l).foldl ie []
def rcv (r:Rc):Value:=.agg (encCell.enc r).toArray
def ak (r:Rc):Int×Value:=(r.id,rcv r)
def Be (R:Cl→Rc→Prop)(g:PH)(v:Value)(tl:List Cl):Prop :=
 ∃ b m iv rs,v=pp b 0∧g b=some (.cells #[.map<|some m,iv] 106 (0,0))∧Mp g m (rs.map ak)∧dQ g iv (tl.map Cl.id)∧aA R tl rs
def Tab (g:PH)(v:Value)(tl:List Cl):Prop:=Be (ar g) g v tl
theorem Be.mono {R R':Cl→Rc→Prop}{g g':PH}{v:Value}{tl:List Cl}(h:Be R g v tl)(hl:Le g g')(hr:∀ c r,R c r→R' c r):Be R' g' v tl:=by
 obtain ⟨b,m,iv,rs,h1,h2,h3,h4,h5⟩:=h;exact⟨b,m,iv,rs,h1,hl _ _ h2,h3.mono hl,h4.mono hl,h5.mono hr⟩
theorem Tab.mono {g g':PH}{v:Value}{tl:List Cl}(h:Tab g v tl)(hl:Le g g'):Tab g' v tl:=by
 obtain ⟨b,m,iv,rs,h1,h2,h3,h4,h5⟩:=h;exact⟨b,m,iv,rs,h1,hl _ _ h2,h3.mono hl,h4.mono hl,h5.mono fun _ _=>ar.mono hl⟩
theorem lD (rs:List Rc)(k:Int):dS (rs.map ak) k=(rs.find?<|fun r=>r.id == k).map rcv:=by
 induction rs with
 | nil=>rfl
 | cons r t ih =>
  simp only[zg7,ak,cQ,zi9];by_cases h:k=r.id
  ·subst h; simp
  ·have:(r.id == k)=false:=by simpa using fun e=>h e.symm
   rw[this,zg3 h,← ih]
theorem AK {g:PH}{tl:List Cl}{rs:List Rc}(h:aA (ar g) tl rs)(k:Int):tl.any (fun x=>x.id == k)=rs.any (fun r=>r.id == k):=by
 induction tl generalizing rs with
 | nil=>cases rs with | nil=>rfl | cons _ _=>exact h.elim
 | cons c t ih =>
  cases rs with
  | nil=>exact h.elim
  | cons r rs=>simp only[List.any_cons,h.1.1,ih h.2]
theorem iU {g:PH}{tl:List Cl}{rs:List Rc}(h:aA (ar g) tl rs):tl.map Cl.id=rs.map Rc.id:=by
 induction tl generalizing rs with
 | nil=>cases rs with | nil=>rfl | cons _ _=>exact h.elim
 | cons c t ih =>
  cases rs with
  | nil=>exact h.elim
  | cons r rs=>simp only[zg7,h.1.1,ih h.2]
theorem gj (l:List Cl):∀ acc:List Cl,(l.foldl ie acc).length≤acc.length+l.length:=by
 induction l with
 | nil=>intro acc; simp
 | cons c r ih =>
  intro acc;simp only[zj2];have h1:=ih<|ie acc c;have h2:(ie acc c).length≤acc.length+1:=by unfold ie; split <;> simp
  simp only[zf2];omega
theorem Tryz.build106 (x:Value)(h:x.cells = #[x])(w:World):(Instr.build 106 #[(0,x)]).run Tryz.prog w = .ok (.agg #[x,.slice none 0 0]) w:=by
 have hz:(Value.agg #[Value.map none,Value.slice none 0 0]).cells = #[.map none,.slice none 0 0]:=rfl;simp[Instr.build,Instr.fill,h,hz]
theorem AP (E:World)(g:PH)(s:Own)(v:Value)(l:List Cl)(hv:ao g v l)(hf:bo l) :
  Ctr Tryz.prog E 53 #[.agg #[v]] g s (fun r g' s'=>s=s'∧Le g g'∧Be (f5<|mns g' g) g' r (am l)):=by
 have hfc:=bJ hf;refine zb2 (args:=[.agg #[v]]) func53 I ntmps53 (bE I)<|rZ (bW (bO I) fun b1=>?_);refine aT I<|rZ<|lW (SO.mkMap) ?_;rintro _ _ _ ⟨m,rfl,rfl,rfl⟩;refine lU (za3 I<|build106 _ I) (bW (bO I) fun b10=>?_);refine aT I<|sQ<|rZ<|lK (qV 2 aw ah I I I)<|lW (cL call55 I<|nn E g _ v l hv hf) ?_;rintro _ g1 _ ⟨rfl,hle,u,rfl,hc⟩;obtain ⟨rs,hrsK,hall⟩:=hc;have hrs:=hrsK.sl.mono<|jE _ _;obtain ⟨p,c,rfl⟩:=hrs.form;refine lU (SU.field bM I de I I)<|lU (eN aI I)<|lM I<|tZ<|bK ?_;have hlen:=hall.length;have hfl:=hfc.1;refine zb6 3 1<|oP (ι:=Value×Nat×List Rc) (fun i=>[(3,pp b10 0),(13,.slice p rs.length c),(14,vi rs.length),(15,vi i.2.1)]) (fun _=>g1)
  (fun i=>rowA encInt 3 i.1 (i.2.2.map Rc.id)::pt b10 (.cells #[.map<|some m,i.1] 106 (0,0))::mp m (i.2.2.map ak)::pt b1 (.cells #[v] 29 (0,0))::s)
  (fun i=>i.2.1≤rs.length∧aA (f5<|mns g1 g) (((aa l).take i.2.1).foldl ie []) i.2.2) (fun i=>rs.length - i.2.1) (.slice none 0 0,0,[])
  sB rfl rfl ⟨zf9 _,by simp[aA]⟩ ?_
 rintro ⟨iv,k,acc⟩ ⟨hk,hacc⟩;dsimp only at hk hacc ⊢;refine rZ<|yL I<|tZ<|sQ<|iP I (fun hlt=>?_) (fun hlt=>?_)
 ·have hkr:k<rs.length:=oM;have hkl:k<(aa l).length:=oM;have hb1:=hrs.based oM;have hcr:=hall.get (gE hkl)<|gE hkr;have hany:=AK (hacc.mono fun _ _=>f5.cr<|jE _ _) (aa l)[k].id;have htake:((aa l).take<|k+1).foldl ie []=ie (((aa l).take k).foldl ie []) (aa l)[k]:=by
   rw[tS hkl,zj3]; rfl
  have hal:=hacc.length;have hal2:=gj ((aa l).take k) [];simp only[ze7,zc5] at hal2;generalize hcl:(aa l)[k]=cx at *;generalize hrx:rs[k]=x at *;have hgx:rs[((k:Nat):Int).toNat]?=some x:=by rw[← hrx]; exact gE hkr
  cases hget:acc.find? (fun r=>r.id == x.id) with
  | some y =>
   refine kP (tN<|sQ<|bK<|rZ<|lU (iA aI au I I hb1 oM sL)<|lK (eA dn au I hrs.rd hgx)<|bW (aL zl8) fun b5=>?_);refine oZ (sK 0 au I I I I I sB)<|tZ<|sQ<|dW [] [(0,2),(1,2),(2,2),(3,1),(4,2),(5,1),(6,1),(7,2),(8,2),(9,2),(10,0),(11,0),(12,2)] ze6 kR<|yM I<|pU I (nC I)<|pU I (fA lX I ef I)<|pK I (qL ek I<|cO 2 I I)<|pU I (fA aq I zT3 I)<|pK I (qL iT3 I<|cO 0 I I)<|pK I (SQ.eq (SQ.lookupOk mty104 I I<|cH.own 3 I)<|by (rw[lD,hget]; done)) ?_;refine yM I<|pU I (xT I I)<|pU I (xT I I)<|SP.o I (aL zl8) dC (.inr iR) ?_;rintro _ _ _ ⟨b6,rfl,rfl,rfl⟩;refine SP.on I (sK 0 au I I I I I sB) (.inr iR) ?_;rintro _ _ _ ⟨rfl,rfl⟩;refine pU I (aS I)<|pN<|tN<|sW I<|lU (SU.not I)<|tZ<|za1 I<|kP<|bN<|tN<|rG<|yD I<|lM I<|nL<|dR (s':=rowA encInt 3 iv (acc.map Rc.id)::pt b10 (.cells #[.map<|some m,iv] 106 (0,0))::mp m (acc.map ak)::pt b1 (.cells #[v] 29 (0,0))::s) (.cons _<|.cons _<|.refl _) ?_;have h1:acc.any (fun r=>r.id == cx.id)=true:=by
    rw[zk2];exact⟨y,zl1 hget,by have:=List.find?_some hget; rw[← hcr.1]; exact this⟩
   exact gA (iv,k+1,acc) sB I I ⟨lN,by dsimp only; rw[htake,p4<|hany.trans h1]; exact hacc⟩ lN
  | none =>
   refine kP (tN<|sQ<|bK<|rZ<|lU (iA aI au I I hb1 oM sL)<|lK (eA dn au I hrs.rd hgx)<|bW (aL zl8) fun b5=>?_);refine oZ (sK 0 au I I I I I sB)<|tZ<|sQ<|dW [] [(0,2),(1,2),(2,2),(3,1),(4,2),(5,1),(6,1),(7,2),(8,2),(9,2),(10,0),(11,0),(12,2)] ze6 kR<|yM I<|pU I (nC I)<|pU I (fA lX I ef I)<|pK I (qL ek I<|cO 2 I I)<|pU I (fA aq I zT3 I)<|pK I (qL iT3 I<|cO 0 I I)<|pK I (SQ.eq (SQ.lookupOk mty104 I I<|cH.own 3 I)<|by (rw[lD,hget]; done)) ?_;refine yM I<|pU I (xT I I)<|pU I (xT I I)<|SP.o I (aL zl8) dC (.inr iR) ?_;rintro _ _ _ ⟨b6,rfl,rfl,rfl⟩;refine SP.on I (sK 0 au I I I I I sB) (.inr iR) ?_;rintro _ _ _ ⟨rfl,rfl⟩;refine pU I (aS I)<|pN<|tN<|sW I<|lU (SU.not I)<|tZ<|za2 I<|sQ ?_;refine dW [7] [(0,2),(1,2),(2,2),(3,1),(4,2),(5,1),(6,1),(7,0)] ze6 kR ?_;refine yM I<|pU I (nC I)<|pU I (fA lX I ef I)<|pK I (qL ek I<|cO 3 I I)<|pU I (fA aq I zT3 I)<|pK I (qL iT3 I<|cO 1 I I)<|pK I (qV 1 dn au I I I)<|SP.on I (SO.mapUpdate 4 mty104 I I I I) (.inl dC) ?_;rintro _ _ _ ⟨rfl,rfl⟩;refine pN<|tN ?_;refine dW [8,9,10,11] [(0,2),(1,2),(2,2),(3,2),(4,1),(5,2),(6,1),(7,0),(8,0),(9,0),(10,0),(11,0)] ze6 kR ?_;refine yM I<|yM I<|pU I (nC I)<|pU I (fA lX I gB I)<|pK I (qL ju I<|cO 3 I I)<|pU I (fA aq I zT3 I)<|pK I (qL iT3 I<|cO 1 I I)<|SP.o I (bS sty83 I I I (ae sB) dC) dC (.inr iR) ?_;rintro _ _ _ ⟨b45,rfl,rfl,rfl⟩;refine SP.o I (SO.app1 2 (((acc++[x]).map Rc.id).flatMap encInt.enc) ((acc++[x]).map Rc.id).length sty83 I I I I I ⟨I,trivial⟩ (by simp[encInt]; rfl) (by simp) (by simp; omega) (by simp; omega)) dC (.inl dC) ?_;rintro iv' _ _ ⟨rfl,rfl⟩;refine zd3 fun ⟨w0,hw0⟩=>?_;obtain ⟨q',d',rfl⟩:=ag (e:=encInt) (l:=(acc++[x]).map Rc.id) (i:=2) hw0 rfl;clear hw0 w0;refine oU rfl (nC rfl) dC (.inl dC)<|oU rfl (fA lX rfl gB rfl) dC (.inl dC)<|SP.on rfl (SO.store1 3 gB rfl rfl rfl rfl (bE rfl)<|by rfl) (.inl dC) ?_;rintro _ _ _ ⟨rfl,rfl⟩;refine pN<|bN<|tN<|rG<|yD I<|lM I<|nL ?_;have h1:acc.any (fun r=>r.id == cx.id)=false:=by
    rw[zk9];intro y hy;have:=List.find?_eq_none.1 hget y hy;rw[← hcr.1]; exact this
   have hmp:eR (acc.map ak) x.id (rcv x)=(acc++[x]).map ak:=by
    rw[gD _ _ _ (fun q hq=>by
     obtain ⟨y,hy,rfl⟩:=zf5.1 hq;have:=List.find?_eq_none.1 hget y hy;simpa [ak] using this)]
    simp[ak]
   refine dR (s':=rowA encInt 3 (.slice q' ((acc++[x]).map Rc.id).length d') ((acc++[x]).map Rc.id)::pt b10 (.cells #[.map<|some m,.slice q' ((acc++[x]).map Rc.id).length d'] 106 (0,0))::mp m ((acc++[x]).map ak)::pt b1 (.cells #[v] 29 (0,0))::s) ?_ ?_
   ·rw[← hmp]; exact .cons _<|.cons _<|.refl _
   exact gA (.slice q' ((acc++[x]).map Rc.id).length d',k+1,acc++[x]) sB I I ⟨lN,by dsimp only; rw[htake,kB<|hany.trans h1]; exact hacc.append ⟨hcr,trivial⟩⟩ lN
 ·refine xI<|tX<|tX<|bX<|tN<|sW I<|aT I<|rE ?_;have hkk:k=rs.length:=oM;have htk:(aa l).take k=aa l:=tL oM;rw[htk] at hacc;refine fT fun g2 h2 hrow=>?_;refine ST.freeze fun g3 h3 hb=>?_;refine ST.freezeMap fun g4 h4 hm=>?_;refine dR (s':=s) uR ?_;have hI:dQ g4 iv ((am l).map Cl.id):=by
   rw[show (am l).map Cl.id=acc.map Rc.id from iU (hacc.mono fun _ _=>f5.cr<|jE _ _)];exact Sl.mono hrow<|h3.trans h4
  exact za8 (.inl I) results53 I ⟨I,hle.trans<|h2.trans<|h3.trans h4,b10,m,iv,acc,I,h4 _ _ hb,hm,hI,hacc.mono fun _ _=>f5.mono<|mM<|h2.trans<|h3.trans h4⟩
theorem xj (E:World)(g:PH)(s:Own)(v:Value)(l:List Cl)(hv:ao g v l)(hf:bo l) :
  Ctr Tryz.prog E 53 #[.agg #[v]] g s (fun r g' s'=>s=s'∧Le g g'∧Tab g' r (am l)) :=
 (AP E g s v l hv hf).mono fun _ _ _ ⟨h1,h2,h3⟩=>⟨h1,h2,h3.mono (zb9 _) fun _ _=>f5.cr<|jE _ _⟩
theorem vX {acc:List Cl}{c:Cl}(h:(acc.map Cl.id).Nodup):((ie acc c).map Cl.id).Nodup:=by
 unfold ie;split
 ·exact h
 ·rename_i hc;rw[zg8,List.nodup_append];refine⟨h,by simp,fun a ha b hb e=>?_⟩;simp at hb;subst hb;obtain ⟨x,hx,hxe⟩:=zf5.1 ha;apply hc;rw[zk2];exact⟨x,hx,by simp[hxe,e]⟩
theorem tY (l:List Cl):∀ acc:List Cl,(acc.map Cl.id).Nodup→((l.foldl ie acc).map Cl.id).Nodup:=by
 induction l with
 | nil=>intro acc h; exact h
 | cons c r ih=>intro acc h; exact ih _<|vX h
theorem lx (l:List Cl):((am l).map Cl.id).Nodup:=tY _ [] (by simp)
theorem rm (l:List Cl):∀ (acc:List Cl) (x:Cl),x∈l.foldl ie acc→x∈acc∨x∈l:=by
 induction l with
 | nil=>intro acc x h; exact .inl h
 | cons c r ih =>
  intro acc x h
  rcases ih _ x h with h1 | h1
  ·unfold ie at h1;split at h1
   ·exact .inl h1
   ·rcases zf6.1 h1 with h2 | h2
    ·exact .inl h2
    ·right; simp at h2; simp[h2]
  ·exact .inr (by simp[h1])
theorem uD {l:List Cl}{x:Cl}(h:x∈am l):x∈aa l:=(rm _ [] x h).resolve_left (by simp)
theorem bP {l:List Cl}(h:bo l):bo (am l):=by
 have hc:=bJ h;refine⟨?_,fun c hm=>hc.2 c<|uD hm⟩;have:=gj (aa l) [];unfold am;have h1:=hc.1;simp at this;omega
theorem wo {rs:List Rc}(h:(rs.map Rc.id).Nodup){k:Nat}{r:Rc}(hk:rs[k]?=some r):rs.find? (fun x=>x.id == r.id)=some r:=by
 induction rs generalizing k with
 | nil=>simp at hk
 | cons y t ih =>
  simp only[zg7,zk6] at h;cases k with
  | zero=>simp at hk; subst hk; simp
  | succ k =>
   simp only[List.getElem?_cons_succ] at hk;have hne:(y.id == r.id)=false:=by
    simp only[beq_eq_false_iff_ne,ne_eq];intro e;exact h.1 (by rw[e]; exact zf5.2 ⟨r,zg5 hk,I⟩)
   rw[zi9,hne];exact ih h.2 hk
def tr (E:World)(pv:Value)(p:Cl→Bool)(tl:List Cl)(g:PH):Prop :=
 ∀ g' s c r,Le g g'→c∈tl→ar g' c r→dA Tryz.prog E pv [rcv r] g' s (fun x g'' s''=>x=vb (p c)∧g'=g''∧s=s'')
theorem Aa (R:Cl→Rc→Prop)(E:World)(g:PH)(s:Own)(v pv:Value)(tl:List Cl)(p:Cl→Bool)(hR:∀ c r,R c r→ar g c r)(hv:Be R g v tl)(hnd:(tl.map Cl.id).Nodup)(hf:bo tl)(hp:tr E pv p tl g) :
  Ctr Tryz.prog E 178 #[v,pv] g s (fun r g' s'=>s=s'∧Le g g'∧∃ u rs,r = .agg #[u]∧RK encCell 53 (mns g' g) u rs∧aA R (tl.filter p) rs):=by
 obtain ⟨b,m,iv,rs,rfl,hb,hm,hI,hall⟩:=hv;have hids:=iU<|hall.mono hR;have hlen:=hall.length;have hfl:=hf.1;have hnr:(rs.map Rc.id).Nodup:=by rw[← hids]; exact hnd
 obtain ⟨q,d,rfl⟩:=hI.form;refine zb2 (args:=[pp b 0,pv]) func178 I ntmps178 (bE I)<|rZ (bW (aL zl5) fun b4=>?_);refine tZ (rZ<|bW (aL zl5) fun b5=>?_);refine tZ<|sQ<|sW I<|lU (nC I)<|lU (fA lX I gB I)<|lK (qL ju I<|cK hb I)<|lU (eN aK I)<|lM I<|tZ<|bK<|zb6 53 3 ?_;simp only[ze9] at hI hb ⊢;refine oP (ι:=Value×Nat×List Rc) (fun i=>[(0,pp b 0),(1,pv),(4,pp b4 0),(5,pp b5 0),(11,.slice q tl.length d),(12,vi tl.length),(13,vi i.2.1)]) (fun _=>g)
  (fun i=>rowA encCell 53 i.1 i.2.2::pt b5 (.cells #[i.1] 29 (0,0))::pt b4 (.cells #[.slice none 0 0] 29 (0,0))::s)
  (fun i=>i.2.1≤tl.length∧aA R ((tl.take i.2.1).filter p) i.2.2) (fun i=>tl.length - i.2.1) (.slice none 0 0,0,[])
  sB rfl rfl ⟨zf9 _,by simp[aA]⟩ ?_
 rintro ⟨ov,k,acc⟩ ⟨hk,hacc⟩;dsimp only at hk hacc ⊢;refine rZ<|yL I<|tZ<|sQ<|iP I (fun hlt=>?_) (fun hlt=>?_)
 ·have hkl:k<tl.length:=oM;have hkr:k<rs.length:=oM;have hbi:=hI.based (by simp; omega);have hcR:=hall.get (gE hkl)<|gE hkr;have hcr:=hR _ _ hcR;have hmem:tl[k]∈tl:=gM hkl;have hget:dS (rs.map ak) tl[k].id=some (rcv rs[k]):=by
   rw[lD,← hcr.1,wo hnr<|gE hkr]; rfl
  have htake:(tl.take<|k+1).filter p=(tl.take k).filter p++(if p tl[k] then [tl[k]] else []):=by
   rw[tS hkl,zh9];simp only[zj1,List.filter_nil]
  have hgi:(tl.map Cl.id)[((k:Nat):Int).toNat]?=some tl[k].id:=by simp[hkl]
  have hal:=hacc.length;have hal2:((tl.take k).filter p).length≤k:=zl2 (zc6 _ _) (by simp; omega);generalize htk:tl[k]=c at *;generalize hrk:rs[k]=r at *;refine kP<|tN<|sQ<|bK<|rZ<|lU (iA aK zT3 I I hbi oM sL)<|lK (eB iT3 I hI.rd hgi I)<|aT I<|sW I<|lM I<|lU (nC I)<|lU (fA lX I ef I)<|lK (qL ek I<|cK hb I)<|lM I<|lK (SQ.eq (SQ.lookup mty104 I I<|cH.known hm)<|by (rw[hget]; done)) ?_;refine lW (SO.callV I I<|hp g _ c r (zb9 g) hmem hcr) ?_;rintro _ _ _ ⟨rfl,rfl,rfl⟩;refine tZ ?_;refine iQ I (fun hpc=>?_) (fun hpc=>?_)
  ·refine dW [9,10,11] [(0,2),(1,1),(2,2),(3,2),(4,2),(5,1),(6,2),(7,1),(8,0),(9,0),(10,0),(11,0)] ze6 kR<|pU I (fA bM I bt I)<|pK I (qL de I<|cO 1 I I)<|yM I<|pU I (nC I)<|pU I (fA lX I ef I)<|pK I (qL ek I<|cK hb I)<|yM I<|pK I (SQ.eq (SQ.lookup mty104 I I<|cH.known hm)<|by (rw[hget]; done)) ?_;refine SP.o I (bS sty27 I I I (ae sB) dC) dC (.inr iR) ?_;rintro _ _ _ ⟨b33,rfl,rfl,rfl⟩;refine SP.o I (SO.app1 0 ((acc++[r]).flatMap encCell.enc) (acc++[r]).length sty27 I I I I I sB (by (simp[encCell]; rfl)) (by simp) lN lN) dC (.inl dC) ?_;rintro ov' _ _ ⟨rfl,rfl⟩;refine zd3 fun ⟨w0,hw0⟩=>?_;obtain ⟨q',d',rfl⟩:=ag (e:=encCell) (l:=acc++[r]) (i:=0) hw0 rfl;clear hw0 w0;refine oU I (fA bM I bt I) dC (.inl dC)<|SP.on I (sK 1 bt I I I I I sB) (.inl dC) ?_;rintro _ _ _ ⟨rfl,rfl⟩;refine pN<|bN<|tN<|rG<|yD I<|lM I<|nL ?_;exact gA (.slice q' (acc++[r]).length d',k+1,acc++[r]) sB I I ⟨lN,by dsimp only; rw[htake,hpc]; exact hacc.append ⟨hcR,trivial⟩⟩ lN
  ·exact kP<|bN<|tN<|rG<|yD I<|lM I<|nL<|gA (ov,k+1,acc) sB I I ⟨lN,by dsimp only; rw[htake,hpc]; simpa using hacc⟩ lN
 ·have hkk:tl.take k=tl:=tL oM;rw[hkk] at hacc;refine xI (tX<|tX<|bX<|tN<|rZ<|SL.freezeRowK fun g2 hle2 hs2=>?_);obtain ⟨q2,d2,rfl⟩:=hs2.form;exact lK (qV 0 aw ah I I I)<|oZ (sK 1 ah I I I I I sB)<|tZ<|rE<|ST.retCD 1 s (.inl I) results178 I aw ah I I uR ⟨I,hle2,_,acc,I,hs2,hacc⟩
theorem yf (E:World)(g:PH)(s:Own)(v pv:Value)(tl:List Cl)(p:Cl→Bool)(hv:Tab g v tl)(hnd:(tl.map Cl.id).Nodup)(hf:bo tl)(hp:tr E pv p tl g) :
  Ctr Tryz.prog E 178 #[v,pv] g s (fun r g' s'=>s=s'∧Le g g'∧∃ u,r = .agg #[u]∧ao g' u (tl.filter p)) :=
 (Aa (ar g) E g s v pv tl p (fun _ _ h=>h) hv hnd hf hp).mono fun _ _ _ ⟨h1,h2,u,rs,h3,h4,h5⟩=>⟨h1,h2,u,h3,rs,h4.sl.mono<|jE _ _,h5.mono fun _ _=>ar.mono h2⟩
theorem uj {l:List Cl}(p:Cl→Bool)(h:bo l):bo (l.filter p) :=
 ⟨Nat.lt_of_le_of_lt (zc6 _ _) h.1,fun c hc=>h.2 c (zh7.1 hc).1⟩
theorem vY (E:World)(g:PH)(s:Own)(v pv:Value)(tl:List Cl)(p:Cl→Bool)(hv:Tab g v tl)(hnd:(tl.map Cl.id).Nodup)(hf:bo tl)(hp:tr E pv p tl g) :
  Ctr Tryz.prog E 143 #[v,pv] g s (fun r g' s'=>s=s'∧Le g g'∧dQ g' r ((tl.filter p).map Cl.id)):=by
 have hff:=(uj p hf).1;refine zb2 (args:=[v,pv]) func143 I ntmps143 (bE I)<|rZ<|aT I<|rZ<|aT I<|sQ<|sW I<|lM I<|lW (cL call178 I<|yf E g _ v pv tl p hv hnd hf hp) ?_;rintro _ g1 _ ⟨rfl,hle,u,rfl,rs,hrs,hall⟩;obtain ⟨q,d,rfl⟩:=hrs.form;have hlen:=hall.length;refine lU (SU.field bM I de I I)<|lU (eN aI I)<|lM I<|tZ<|bK ?_;have hids:=iU hall;refine zb6 3 1<|oP (ι:=Value×Nat) (fun i=>[(5,i.1),(11,.slice q rs.length d),(12,vi rs.length),(13,vi i.2)]) (fun _=>g1)
  (fun i=>rowA encInt 3 i.1 ((rs.take i.2).map Rc.id)::s)
  (fun i=>i.2≤rs.length) (fun i=>rs.length - i.2) (.slice none 0 0,0)
  sB rfl rfl (zf9 _) ?_
 rintro ⟨ov,k⟩ hk;dsimp only at hk ⊢;refine rZ<|yL I<|tZ<|sQ<|iP I (fun hlt=>?_) (fun hlt=>?_)
 ·have hkr:k<rs.length:=oM;have hb1:=hrs.based oM;have htake:(rs.take<|k+1).map Rc.id=(rs.take k).map Rc.id++[rs[k].id]:=by rw[tS hkr,zg8]; rfl
  have hgx:rs[((k:Nat):Int).toNat]?=some rs[k]:=gE hkr;have htl:((rs.take k).map Rc.id).length=k:=by simp; omega
  generalize hx:rs[k]=x at *;refine kP (tN<|sQ<|bK<|rZ<|lU (iA aI au I I hb1 oM sL)<|lK (eA dn au I hrs.rd hgx)<|bW (aL zl8) fun b7=>?_);refine oZ (sK 0 au I I I I I sB)<|tZ<|rG<|lM I<|lU (fA aq I zT3 I)<|lK (qL iT3 I<|cO 0 I I)<|lW (bS sty83 I I I (ae sB) dC) ?_;rintro _ _ _ ⟨b20,rfl,rfl,rfl⟩;refine lW (SO.app1 1 (((rs.take<|k+1).map Rc.id).flatMap encInt.enc) ((rs.take<|k+1).map Rc.id).length sty83 I I I I I ⟨I,trivial⟩ (by rw[htake]; simp[encInt]; rfl) (by rw[htake]; simp) lN lN) ?_;rintro ov' _ _ ⟨rfl,rfl⟩;exact lA I<|nL<|bN<|tN<|rG<|yD I<|lM I<|nL<|dR (s':=rowA encInt 3 ov' ((rs.take<|k+1).map Rc.id)::s) (.cons _<|.refl _)<|gA (ov',k+1) sB I I lN lN
 ·refine xI<|tX<|tX<|bX<|tN<|sW I<|aT I<|rE ?_;have hkk:rs.take k=rs:=tL oM;rw[hkk];refine fT fun g2 h2 hrow=>?_;exact za8 (.inl I) results143 I ⟨I,hle.trans h2,by rw[hids]; exact hrow⟩
def Bl (E:World)(pv:Value)(q:Side→Bool)(g:PH):Prop :=
 ∀ g' s a,Le g g'→dA Tryz.prog E pv [.agg (encSide.enc a).toArray] g' s (fun x g'' s''=>x=vb (q a)∧g'=g''∧s=s'')
theorem wj (E:World)(g:PH)(s:Own)(v:Value)(kn:FuncId)(kc:Array Value)(l:List Side)(q:Side→Bool)(hv:SlA encSide g v l)(hl:l.length<1099511627776)(hp:Bl E (.func (.func kn) #[] kc) q g) :
  Ctr Tryz.prog E 123 #[v,.func (.func kn) #[] kc] g s (fun r g' s'=>(∃ n:Int,r=vi n∧decide (n≥0)=l.any q)∧g=g'∧s=s'):=by
 obtain ⟨p,c,rfl⟩:=hv.form;refine zb2 (args:=[.slice p l.length c,.func (.func kn) #[] kc]) func123 I ntmps123 (bE I)<|rZ<|aT I<|sQ<|sW I<|lU (eN aM I)<|lM I<|tZ<|bK<|oP (ι:=Nat) (fun k=>[(0,.slice p l.length c),(1,.func (.func kn) #[] kc),(7,vi l.length),(8,vi k)]) (fun _=>g) (fun _=>s) (fun k=>k≤l.length∧(l.take k).any q=false) (fun k=>l.length - k) 0
  sB rfl rfl ⟨zf9 _,by simp⟩ ?_
 rintro k ⟨hk,hno⟩;refine rZ<|yL I<|tZ<|sQ<|iP I (fun hlt=>?_) (fun hlt=>?_)
 ·have hkl:k<l.length:=oM;have hb1:=hv.based oM;refine kP<|tN<|sQ<|bK<|sW I<|aT I<|sW I<|lM I<|lM I<|lU (iA aM aH I I hb1 oM sL)<|SL.q (eA eK aH I hv.rd<|gE hkl) dC<|lW (SO.callV I I<|hp g _ l[k] (zb9 g)) ?_;rintro _ _ _ ⟨rfl,rfl,rfl⟩;refine tZ<|iQ I (fun hq=>?_) (fun hq=>?_)
  ·refine sW I<|aT I<|rE<|bR<|tR<|tR<|bR<|tR ?_;have hany:l.any q=true:=zk2.2 ⟨l[k],gM hkl,hq⟩;exact za8 (.inl I) results123 I ⟨⟨k,I,by rw[hany]; simp⟩,I,I⟩
  ·exact kP<|bN<|tN<|rG<|yD I<|lM I<|nL<|gA (k+1) sB I I ⟨oM,by rw[tS hkl,List.any_append,hno]; simpa using hq⟩ oM
 ·refine xI<|tX<|tX<|bX<|tN<|rZ<|aT I<|rE ?_;have hkk:l.take k=l:=tL oM;rw[hkk] at hno;exact za8 (.inl I) results123 I ⟨⟨-1,I,by rw[hno]; rfl⟩,rfl,rfl⟩
theorem qE (E:World)(g:PH)(s:Own)(v:Value)(kn:FuncId)(kc:Array Value)(l:List Side)(q:Side→Bool)(hv:SlA encSide g v l)(hl:l.length<1099511627776)(hp:Bl E (.func (.func kn) #[] kc) q g) :
  Ctr Tryz.prog E 179 #[v,.func (.func kn) #[] kc] g s (fun r g' s'=>r=vb (l.any q)∧g=g'∧s=s'):=by
 refine zb2 (args:=[v,.func (.func kn) #[] kc]) func179 I ntmps179 (bE I)<|rZ<|aT I<|sW I<|lM I<|lW (cL call123 I<|wj E g _ v kn kc l q hv hl hp) ?_;rintro _ _ _ ⟨⟨n,rfl,hn⟩,rfl,rfl⟩;exact lU (gQ I I)<|aT I<|rE<|za8 (.inl I) results179 I ⟨by rw[hn],I,I⟩
def mw (c:Cl)(id:Int):Bool:=c.sides.any fun x=>decide (x.cell=id)
theorem hasP (E:World)(g:PH)(b:Nat)(id:Int)(hb:g b=some (.cells #[vi id] 3 (0,0))):Bl E (.func (.func 180) #[] #[pp b 0]) (fun x=>decide (x.cell=id)) g:=by
 intro g s a hle;refine dA.mk (cap:=[pp b 0]) call180 ?_;have hb':=hle _ _ hb;refine zb2 (args:=[.agg (encSide.enc a).toArray,pp b 0]) func180 I ntmps180 (bE I)<|rZ (bW (bO I) fun b2=>?_);exact aT I<|rZ<|lU (fA bZ I zT3 I)<|lK (qL iT3 I<|cO 0 I I)<|lK (qL iT3 I<|cK hb' I)<|yE I<|aT I<|rE<|dR (s':=s) uR<|za8 (.inl I) results180 I ⟨I,I,I⟩
theorem Ao (E:World)(g:PH)(s:Own)(c:Cl)(r:Rc)(id:Int)(hc:ar g c r)(hl:c.sides.length<1099511627776) :
  Ctr Tryz.prog E 145 #[rcv r,vi id] g s (fun r g' s'=>r=vb (mw c id)∧g=g'∧s=s'):=by
 refine zb2 (args:=[rcv r,vi id]) func145 I ntmps145 (bE I)<|rZ (bW (bO I) fun b2=>?_);refine bW (bO I) fun b3=>zb5 fun g1 hle hb=>?_;refine aT I<|rZ<|lU (fA aq I aJ I)<|lK (qL aX I<|cO 0 I I)<|lU (SU.mkFunc I)<|lW (cL call179 I<|qE E g1 _ _ 180 #[pp b3 0] c.sides _ (hc.2.2.mono hle) hl (hasP E g1 b3 id hb)) ?_;rintro _ _ _ ⟨rfl,rfl,rfl⟩;exact aT I<|rE<|dR (s':=s) (.cons _<|.refl _)<|ST.less hle<|za8 (.inl I) results145 I ⟨I,I,I⟩
theorem CO (E:World)(g:PH)(b:Nat)(id:Int)(tl:List Cl)(hf:bo tl)(hb:g b=some (.cells #[vi id] 3 (0,0))):tr E (.func (.func 144) #[] #[pp b 0]) (fun c=>mw c id) tl g:=by
 intro g s c r hle hm hc;refine dA.mk (cap:=[pp b 0]) call144 ?_;have hb':=hle _ _ hb;refine zb2 (args:=[rcv r,pp b 0]) func144 I ntmps144 (bE I)<|rZ (bW (bO I) fun b2=>?_);refine aT I<|rZ<|lK (qV 0 dn au I I I)<|lK (qL iT3 I<|cK hb' I)<|lW (cL call145 I<|Ao E g _ c r id hc<|hf.2 c hm) ?_;rintro _ _ _ ⟨rfl,rfl,rfl⟩;exact aT I<|rE<|dR (s':=s) uR<|za8 (.inl I) results144 I ⟨I,I,I⟩
def aj (l:List Cl)(id:Int):List Int:=((am l).filter fun c=>mw c id).map Cl.id
theorem fB (E:World)(g:PH)(s:Own)(v:Value)(l:List Cl)(id:Int)(hv:ao g v l)(hf:bo l) :
  Ctr Tryz.prog E 122 #[.agg #[v],vi id] g s (fun r g' s'=>s=s'∧Le g g'∧dQ g' r (aj l id)):=by
 refine zb2 (args:=[.agg #[v],vi id]) func122 I ntmps122 (bE I)<|rZ (bW (bO I) fun b2=>?_);refine bW (bO I) fun b3=>zb5 fun g1 hle hb=>?_;refine aT I<|rZ<|lK (qV 0 aw ah I I I)<|lW (cL call53 I<|xj E g1 _ v l (hv.mono hle) hf) ?_;rintro tv g2 _ ⟨rfl,hle2,ht⟩;refine lU (SU.mkFunc I)<|lW (cL call143 I<|vY E g2 _ tv _ _ _ ht (lx l) (bP hf)<|CO E g2 b3 id _ (bP hf)<|hle2 _ _ hb) ?_;rintro r8 g3 _ ⟨rfl,hle3,hr⟩;exact aT I<|rE<|dR (s':=s) uR<|za8 (.inl I) results122 I ⟨I,hle.trans<|hle2.trans hle3,hr⟩
theorem Tryz.mty164:MTy Tryz.prog 164 3 4 (vb false):=⟨underlying164,underlying3,zeroValue4⟩
def rU:Rc:=⟨0,0,none,0,0⟩
def bD:Cl:=⟨0,0,[]⟩
theorem fw {R:Cl→Rc→Prop}(hR:∀ c r,R c r→r.id=c.id){tl:List Cl}{rs:List Rc}(h:aA R tl rs)(k:Int):(tl.find? (fun c=>decide (c.id=k))=none∧dS (rs.map ak) k=none)∨∃ c r,tl.find? (fun c=>decide (c.id=k))=some c∧dS (rs.map ak) k=some (rcv r)∧R c r:=by
 induction tl generalizing rs with
 | nil=>cases rs with | nil=>exact .inl ⟨rfl,rfl⟩ | cons _ _=>exact h.elim
 | cons c t ih =>
  cases rs with
  | nil=>exact h.elim
  | cons r rs =>
   simp only[zg7,ak,cQ,zi9];by_cases hk:c.id=k
   ·right;have:k=r.id:=by rw[hR _ _ h.1,hk]
    exact⟨c,r,by simp[hk],by rw[zg4 this],h.1⟩
   ·have hk2:¬ k=r.id:=by rw[hR _ _ h.1]; exact fun e=>hk e.symm
    simp only[hk,decide_false,zg3 hk2];exact ih h.2
theorem zh {g:PH}{tl:List Cl}{rs:List Rc}(h:aA (ar g) tl rs)(k:Int):(tl.find? (fun c=>decide (c.id=k))=none∧dS (rs.map ak) k=none)∨∃ c r,tl.find? (fun c=>decide (c.id=k))=some c∧dS (rs.map ak) k=some (rcv r)∧ar g c r:=fw (fun _ _ h=>h.1) h k
theorem rR {g:PH}{tl:List Cl}{rs:List Rc}(h:aA (ar g) tl rs)(hw:∀ g,ar g bD rU)(k:Int):∃ r,(dS (rs.map ak) k).getD (.agg #[vi 0,vi 0,.slice none 0 0])=rcv r∧(dS (rs.map ak) k).isSome=(tl.find?<|fun c=>decide (c.id=k)).isSome∧ar g ((tl.find?<|fun c=>decide (c.id=k)).getD bD) r:=by
 rcases zh h k with ⟨h1,h2⟩ | ⟨c,r,h1,h2,h3⟩
 ·exact⟨rU,by rw[h2]; rfl,by rw[h1,h2]; rfl,by rw[h1]; exact hw g⟩
 ·exact⟨r,by rw[h2]; rfl,by rw[h1,h2]; rfl,by rw[h1]; exact h3⟩
theorem wR (g:PH):ar g bD rU:=⟨rfl,rfl,zc1 g _⟩
theorem Cp (g:PH):f5 g bD rU:=⟨rfl,rfl,RK.nil _ _ g⟩
theorem wK {g:PH}{tl:List Cl}{rs:List Rc}(h:aA (f5 g) tl rs)(k:Int):∃ r,(dS (rs.map ak) k).getD (.agg #[vi 0,vi 0,.slice none 0 0])=rcv r∧(dS (rs.map ak) k).isSome=(tl.find?<|fun c=>decide (c.id=k)).isSome∧f5 g ((tl.find?<|fun c=>decide (c.id=k)).getD bD) r:=by
 rcases fw (fun _ _ h=>h.1) h k with ⟨h1,h2⟩ | ⟨c,r,h1,h2,h3⟩
 ·exact⟨rU,by rw[h2]; rfl,by rw[h1,h2]; rfl,by rw[h1]; exact Cp g⟩
 ·exact⟨r,by rw[h2]; rfl,by rw[h1,h2]; rfl,by rw[h1]; exact h3⟩
def findC (l:List Cl)(id:Int):Option Cl:=(am l).find? fun c=>decide (c.id=id)
theorem Aw (E:World)(g:PH)(s:Own)(v:Value)(l:List Cl)(id:Int)(hv:ao g v l)(hf:bo l) :
  Ctr Tryz.prog E 20 #[.agg #[v],vi id] g s (fun r g' s'=>s=s'∧Le g g'∧∃ x,r = .tuple #[rcv x,vb (findC l id).isSome]∧f5 (mns g' g) ((findC l id).getD bD) x):=by
 refine zb2 (args:=[.agg #[v],vi id]) func20 I ntmps20 (bE I)<|rZ (bW (bO I) fun b2=>?_);refine bW (aL zl8) fun b4=>aT I<|rZ<|lK (qV 1 aw ah I I I)<|lW (cL call53 I<|AP E g _ v l hv hf) ?_;rintro tv g1 _ ⟨rfl,hle,ht⟩;obtain ⟨b,m,iv,rs,rfl,hb,hm,hI,hall⟩:=ht;obtain ⟨x,hx1,hx2,hx3⟩:=wK hall id;refine lU (nC I)<|lU (fA lX I ef I)<|lK (qL ek I<|cK hb I)<|lM I<|lK (SQ.eq (v':=.tuple #[rcv x,vb (findC l id).isSome]) (SQ.lookupOk mty104 I I<|cH.known hm) (by rw[hx1,hx2]; rfl)) ?_;refine lM I (yX I<|yX I<|bW (aL zl8) fun b6=>?_);exact oZ (sK 0 au I I I I I sB)<|aT I<|rZ<|lK (qV 0 dn au I I I)<|lM I<|oZ (sK 1 au I I I I I sB)<|aT I<|rE<|ST.retCD1 1 s (.inl I) results20 I I dn au I I uR ⟨I,hle,x,I,hx3⟩
theorem y7 (E:World)(g:PH)(s:Own)(v:Value)(l:List Cl)(id:Int)(hv:ao g v l)(hf:bo l) :
  Ctr Tryz.prog E 20 #[.agg #[v],vi id] g s (fun r g' s'=>s=s'∧Le g g'∧∃ x,r = .tuple #[rcv x,vb (findC l id).isSome]∧ar g' ((findC l id).getD bD) x) :=
 (Aw E g s v l id hv hf).mono fun _ _ _ ⟨h1,h2,x,h3,h4⟩=>⟨h1,h2,x,h3,h4.cr<|jE _ _⟩
def j5 (tl:List Cl)(k:Int):Bool:=tl.any fun c=>mw c k
def tw (l:List Cl):List Int:=((am l).filter fun c=>!j5 (am l) c.id).map Cl.id
theorem vu {g:PH}{tl:List Cl}{rs:List Rc}(h:aA (ar g) tl rs){r:Rc}(hr:r∈rs):∃ c,c∈tl∧ar g c r:=by
 obtain ⟨i,hi,rfl⟩:=zc8 hr;have hl:=h.length;have hi':i<tl.length:=oM;exact⟨tl[i],gM hi',h.get (gE hi')<|gE hi⟩
theorem Af {tl:List Cl}(h:(tl.map Cl.id).Nodup){a b:Cl}(ha:a∈tl)(hb:b∈tl)(e:a.id=b.id):a=b:=by
 induction tl with
 | nil=>simp at ha
 | cons c t ih =>
  simp only[zg7,zk6] at h
  rcases zf4.1 ha with rfl | ha' <;> rcases zf4.1 hb with rfl | hb'
  ·rfl
  ·exact absurd (zf5.2 ⟨b,hb',e.symm⟩) h.1
  ·exact absurd (zf5.2 ⟨a,ha',e⟩) h.1
  ·exact ih h.2 ha' hb'
theorem tW {vc tl:List Cl}(hs:∀ c∈vc,c∈tl)(hp:(vc.map Cl.id).Perm (tl.map Cl.id))(hn:(tl.map Cl.id).Nodup):vc.Perm tl:=by
 have hn2:(vc.map Cl.id).Nodup:=hp.symm.nodup hn;refine (List.perm_ext_iff_of_nodup (List.Pairwise.of_map Cl.id (fun a b hab e=>hab<|by rw[e]) hn2)<|List.Pairwise.of_map Cl.id (fun a b hab e=>hab<|by rw[e]) hn).2 fun c=>⟨hs c,fun hc=>?_⟩;obtain ⟨c',h1,h2⟩:=zf5.1<|hp.symm.subset<|zf5.2 ⟨c,hc,rfl⟩;rw[← Af hn (hs c' h1) hc h2];exact h1
theorem sb {g:PH}{vl:List (Int×Value)}{rs:List Rc}{vc tl:List Cl}(hv:vl.map Prod.fst=vc.map Cl.id)(hs:∀ c∈vc,c∈tl)(hn:(tl.map Cl.id).Nodup)(hall:aA (ar g) tl rs)(hp:vl.Perm (rs.map ak)):vc.Perm tl:=by
 refine tW hs ?_ hn;have h1:=hp.map Prod.fst;rw[hv,zi8] at h1;rw[iU hall];exact h1
theorem Cy {f:Fr}{t:Nat}{a b:Int}(h:bg f t=some (vi a))(e:a=b):bg f t=some (vi b):=e ▸ h
theorem mH {α:Type}{s:List α}{i:Nat}{a:α}(h:s[i]?=some a):s.set i a=s:=by
 apply List.ext_getElem?;intro j;rw[List.getElem?_set];split
 ·rename_i e;subst e;split
  ·exact h.symm
  ·rename_i h2;rw[List.getElem?_eq_none oM]
 ·rfl
def aB (tl:List Cl)(id:Int):Option Cl:=tl.find? fun c=>decide (c.id=id)
def vz (vis:List Int):List (Int×Value):=vis.map fun k=>(k,vb true)
theorem zU (vis:List Int):oJ (vz vis) (fun k=>vis.contains k):=by
 intro k;induction vis with
 | nil=>rfl
 | cons a t ih =>
  simp only[vz,zg7,cQ] at ih ⊢;by_cases h:k=a
  ·simp[h]
  ·have h2:(k == a)=false:=by simpa using h
   rw[zg3 h,ih];simp[h]
theorem zV {vis:List Int}{id:Int}(h:vis.contains id=false):eR (vz vis) id (vb true)=vz (vis++[id]):=by
 rw[gD _ _ _ (fun p hp=>by
  obtain ⟨a,ha,rfl⟩:=zf5.1 hp;intro e;simp at h;exact h (by rw[← e]; exact ha))]
 simp[vz]
theorem gG {tl:List Cl}{id:Int}{c:Cl}(h:aB tl id=some c):c∈tl∧c.id=id:=⟨zl1 h,by simpa using List.find?_some h⟩
theorem jx {α:Type}{l:List α}{j:Nat}{y:α}(h:l[j]?=some y):l.take (j+1)=l.take j++[y]:=by
 obtain ⟨h1,h2⟩:=zf8.1 h;rw[tS h1,h2]
theorem xw {α:Type}{s:List α}{i:Nat}{a:α}(h:s[i]?=some a)(b:α):(s.set i b)[i]?=some b:=by
 have:=(zf8.1 h).1;simp[this]
open Go Go.Sy Go.Pl Go.Proofs Go.Shelf Go.Sort
def ue:Ren :=
 {
  f:=fun x =>
   match x with
   | 189=>98
   | 125=>131
   | 257=>138
   | 128=>157
   | 129=>158
   | 294=>161
   | 295=>162
   | 296=>163
   | 297=>164
   | 298=>165
   | 299=>166
   | 216=>167
   | 300=>168
   | 301=>169
   | 328=>194
   | 329=>186
   | 330=>187
   | 331=>195
   | 332=>196
   | 215=>132
   | 343=>215
   | n=>n,
  t:=fun x =>
   match x with
   | 28=>83
   | 3=>3
   | 46=>170
   | 0=>0
   | 51=>192
   | 53=>114
   | 4=>4
   | 183=>186
   | 182=>185
   | 131=>118
   | 5=>5
   | 9=>9
   | 218=>214
   | 222=>218
   | 228=>239
   | 229=>240
   | n=>n,
  g:=fun x =>
   have n:=x;
   n }
theorem Tryz.lays189:Lays.n189 Tryz.prog ue :=
  {
  mixed:=Eq.refl true,f125:=zb8 func131<|ze5 some kR,
  f128:=zb8 func157<|ze5 some kR,
  f129:=zb8 func158<|ze5 some kR,
  f189:=zb8 func98<|ze5 some kR,
  f215:=zb8 func132<|ze5 some kR,
  f216:=zb8 func167<|ze5 some kR,
  f257:=zb8 func138<|ze5 some kR,
  f294:=zb8 func161<|ze5 some kR,
  f295:=zb8 func162<|ze5 some kR,
  f296:=zb8 func163<|ze5 some kR,
  f297:=zb8 func164<|ze5 some kR,
  f298:=zb8 func165<|ze5 some kR,
  f299:=zb8 func166<|ze5 some kR,
  f300:=zb8 func168<|ze5 some kR,
  f301:=zb8 func169<|ze5 some kR,
  f328:=zb8 func194<|ze5 some kR,
  f329:=zb8 func186<|ze5 some kR,
  f330:=zb8 func187<|ze5 some kR,
  f331:=zb8 func195<|ze5 some kR,
  f332:=zb8 func196<|ze5 some kR,
  f343:=zb8 func215<|ze5 some kR,t0:=underlying0,
  a0:=isAgg0,z0:=sizeOf0,v0:=zeroValue0,t3:=uT3,a3:=iT3,
  z3:=zT3,v3:=zeroValue3,t4:=uT4,a4:=isAgg4,z4:=zT4,
  v4:=zeroValue4,t5:=uT5,a5:=isAgg5,z5:=sizeOf5,v5:=zeroValue5,
  t9:=uT9,a9:=isAgg9,z9:=sizeOf9,v9:=zeroValue9,t28:=aK,
  a28:=ju,z28:=gB,v28:=zeroValue83,t46:=fG,a46:=isAgg170,
  z46:=sizeOf170,v46:=zeroValue170,t51:=underlying192,a51:=isAgg192,
  z51:=sizeOf192,v51:=zeroValue192,t53:=lT,a53:=isAgg114,
  z53:=sizeOf114,v53:=zeroValue114,t131:=underlying118,a131:=isAgg118,
  z131:=sizeOf118,v131:=zeroValue118,t182:=underlying185,a182:=isAgg185,
  z182:=sizeOf185,v182:=zeroValue185,t183:=underlying186,a183:=isAgg186,
  z183:=sizeOf186,v183:=zeroValue186,t218:=underlying214,a218:=isAgg214,
  z218:=sizeOf214,v218:=zeroValue214,t222:=underlying218,a222:=isAgg218,
  z222:=sizeOf218,v222:=zeroValue218,t228:=underlying239,a228:=isAgg239,
  z228:=sizeOf239,v228:=zeroValue239,t229:=underlying240,a229:=isAgg240,
  z229:=sizeOf240,v229:=zeroValue240 }
def gp (l:List Int):List Int:=l.mergeSort fun x y=>decide (x≤y)
theorem mf (l:List Int):(gp l).length=l.length:=List.length_mergeSort ..
theorem vL (l:List Int):(gp l).Perm l:=List.mergeSort_perm ..
theorem rB (l:List Int):l.flatMap encInt.enc=l.map (Value.int .i64):=by
 induction l with
 | nil=>rfl
 | cons a t ih=>simp only[zh8,zg7,ih]; rfl
theorem qv (E:World)(g:PH)(s:Own)(v:Value)(l:List Int)(i:Nat)(hi:s[i]?=some (rowA encInt 3 v l))(hl:l.length<17592186044416) :
  Ctr Tryz.prog E 98 #[v] g s (fun _ g' s'=>g=g'∧s'=s.set i (rowA encInt 3 v<|gp l)):=by
 intro w hw;obtain ⟨h1,h2⟩:=f9 hw hi
 rcases h2 with ⟨p,rfl,hn⟩ | ⟨b,cap,cur,rfl,hb,hle,hcm,hcs,ht⟩
 ·have hl0:l=[]:=zf7 hn;subst hl0;refine (Any.slices_Sort_int_none lays189 p 0 w).mono ?_;rintro e w' ⟨rfl,rfl⟩;refine⟨_,g,s,I,hw,I,?_⟩;have:gp []=[]:=by simp[gp]
  rw[this];exact (mH hi).symm
 ·have ht':cur.toList.take l.length=l.map (Value.int .i64):=by rw[← rB]; simpa using ht
  refine (Any.slices_Sort_int lays189 b 0 (cap+1) l w (holds_of_blockI hb ht') (Array.getElem?_eq_some_iff.1 hb).1 oM).mono ?_;rintro e w' ⟨rfl,n,os,rfl⟩;have hfr:=hw.fresh _ (zg5 hi) b rfl;refine⟨_,g,_,I,?_,I,I⟩;obtain ⟨q1,q2,q3,q4,q5⟩:=grownBy_sortedI (w:=w) (g:=b) (n:=n) (os:=os) (gp l).toArray;refine hw.turn hi I ⟨I,(by exact Nat.le_add_right _ _)⟩ I q4 (fun k hk hne=>q5 k hk hne) ?_ ?_
  ·have h5:=heap_sortedI (n:=n) (os:=os) (gp l).toArray hb;have hlen:=mf l;have:=dD (w:=grow (putRow (Value.int .i64) (Sort.ahead w n) b 0 (gp l).toArray) os) (T:=3) (k:=1) (n:=(gp l).length) (b:=b) (cap:=cap) (xs:=(gp l).flatMap encInt.enc) (by rw[encInt.length]) h5 oM hcm (by simp[putCells]; simpa using hcs) (by
    rw[rB,Nat.mul_one];exact take_putCellsI cur (gp l) (by rw[hlen,hcs]; omega))
   rw[hlen] at this;rw[show rowA encInt 3 (.slice (some ⟨b,0,none⟩) l.length<|cap+1) (gp l)=row 3 1 (.slice (some ⟨b,0,none⟩) l.length<|cap+1) l.length ((gp l).flatMap encInt.enc) by simp only[rowA,hlen]];exact this
  ·intro b' hb';simp only[rowA,row,kF,zh1] at hb';subst hb';exact⟨Nat.lt_of_lt_of_le (Array.getElem?_eq_some_iff.1 hb).1 q4,.inl I⟩
def fl (c:Cl):Bool:=decide (c.dim<0)||decide (c.dim>8)
def bh (c:Cl):Bool:=(decide (c.dim=0)&&decide ((c.sides.length:Int)>0))||(decide (c.dim=1)&&decide ((c.sides.length:Int)≠2))||(decide (c.dim>1)&&(decide ((c.sides.length:Int)<2)||decide ((c.sides.length:Int)>64)))
def co (tl:List Cl)(c:Cl)(i:Nat)(x:Side):Bool:=!(aB tl x.cell).isSome||decide (((aB tl x.cell).getD bD).dim≠c.dim - 1)||(decide (i>0)&&decide ((c.sides[i - 1]?.map Side.cell)=some x.cell))
section
variable {tl:List Cl}{c p:Cl}{i:Nat}{x:Side}
theorem nq (h:¬ (aB tl x.cell).isSome=true):co tl c i x=true:=by
 have:(aB tl x.cell).isSome=false:=by simpa using h
 simp[co,this]
theorem rN (h:(aB tl x.cell).isSome=true)(h2:((aB tl x.cell).getD bD).dim≠c.dim - 1):co tl c i x=true:=by
 simp only[co,h,h2,Bool.not_true,Bool.false_or,ne_eq,not_false_eq_true,decide_true,Bool.true_or]
theorem rM (h:(aB tl x.cell).isSome=true)(h2:¬ ((aB tl x.cell).getD bD).dim≠c.dim - 1)(h3:¬ (i:Int)>0):co tl c i x=false:=by
 have h4:¬ i>0:=oM;simp only[co,h,h2,h4,Bool.not_true,Bool.false_or,decide_false,Bool.false_and]
theorem rL {q:Side}(h:(aB tl x.cell).isSome=true)(h2:¬ ((aB tl x.cell).getD bD).dim≠c.dim - 1)(h3:(i:Int)>0)(hq:c.sides[i - 1]?=some q):co tl c i x=decide (q.cell=x.cell):=by
 have h4:i>0:=oM;simp only[co,h,h2,h4,hq,Bool.not_true,Bool.false_or,decide_false,decide_true,Bool.true_and,Option.map_some,zh1]
end
def fY (tl:List Cl)(c:Cl)(i:Nat):Bool:=match c.sides[i]? with
 | some x=>co tl c i x
 | none=>false
def cm (x:Side):Bool:=decide (x.sign≠1)&&decide (x.sign ≠ -1)
theorem qY {x:Side}(h:x.sign≠1):cm x=decide (x.sign ≠ -1):=by simp[cm,h]
theorem qX {x:Side}(h:¬ x.sign≠1):cm x=false:=by simp[cm,h]
def oa (l:List Side):Int:=(l.map Side.sign).sum
def cY (tl:List Cl)(c:Cl):Int :=
 if fl c then 21 else if bh c then 22 else if (List.range c.sides.length).any (fY tl c) then 22 else if c.sides.any cm then 23 else if (decide (c.dim=1)&&decide (oa c.sides≠0)) then 23 else 0
theorem vI {l:List Side}(h:l.any cm=false):oa l≤l.length ∧ -(l.length:Int)≤oa l:=by
 induction l with
 | nil=>simp[oa]
 | cons x t ih =>
  simp only[List.any_cons,Bool.or_eq_false_iff] at h;have:=ih h.2;have hx:x.sign=1∨x.sign = -1:=by
   have h1:=h.1;simp only[cm,Bool.and_eq_false_iff,decide_eq_false_iff_not,ne_eq,Decidable.not_not] at h1;exact h1
  simp only[oa,zg7,List.sum_cons,zf2] at this ⊢;omega
theorem yU (E:World)(g:PH)(s:Own)(v:Value)(tl:List Cl)(c:Cl)(r:Rc)(hv:Tab g v tl)(hc:ar g c r)(hl:c.sides.length<1099511627776) :
  Ctr Tryz.prog E 84 #[v,rcv r] g s (fun r g' s'=>r=vi (cY tl c)∧g=g'∧s=s'):=by
 obtain ⟨b,mt,iv,rs,rfl,hb,hm,hI,hall⟩:=hv;obtain ⟨ri,rd,rp,rn,rcap⟩:=r;have hcs:SlA encSide g (.slice rp rn rcap) c.sides:=hc.2.2;have hrn:rn=c.sides.length:=zc2 hcs;have hrd:rd=c.dim:=hc.2.1;subst hrn hrd;have hx0:=fun h=>hcs.based h;refine zb2 (args:=[pp b 0,rcv ⟨ri,c.dim,rp,c.sides.length,rcap⟩]) func84 I ntmps84 (bE I)<|rZ (bW (bO I) fun b3=>?_);refine aT I<|rZ<|lU (fA aq I aJ I)<|lK (qL aX I<|cO 0 I I)<|lU (eN aM I)<|aT I<|sQ<|bK<|SC.cutB 16 (fl c) ?_ ?_
 ·refine rG<|lU (fA aq I zT3 I)<|lK (qL iT3 I<|cO 0 I I)<|yL I<|lM I<|sP ?_ ?_
  ·intro h20;exact yA I<|yA I<|yA I<|yP I<|lA I<|nL<|zb1 (by simp_all[bg,fl] <;> omega) mI
  ·intro h20;exact lY I I I (fA aq I zT3 I)<|SL.gq (gT I I I dC) (qL iT3 I<|cO 0 I I) dC<|lY I I I (gR I I)<|yF I<|lA I<|nL<|zb1 (by simp_all[bg,fl] <;> omega) mI
 refine iQ I (fun hdb=>?_) (fun hdb=>?_)
 ·exact rZ<|aT I<|rE<|bR<|tR<|dR (s':=s) uR<|za8 (.inl I) results84 I ⟨by unfold cY; rw[zg4 hdb],I,I⟩
 ·have hd8:0≤c.dim∧c.dim≤8:=by simp[fl] at hdb; omega
  refine SC.cutB 25 (bh c) ?_ ?_
  ·refine rG<|lU (fA aq I zT3 I)<|lK (qL iT3 I<|cO 0 I I)<|yE I<|lM I<|sP ?_ ?_
   ·intro h29;refine yC I<|lY I I I (gR I I)<|yP I<|lM I<|sP ?_ ?_
    ·intro h33;exact yA I<|yA I<|yA I<|yA I<|yB I<|yB I<|yA I<|yP I<|lM I<|yA I<|yA I<|yA I<|yA I<|yB I<|yB I<|yB I<|yB I<|yB I<|yB I<|yA I<|yP I<|lA I<|nL<|zb1 (by simp_all[bg,bh] <;> omega) mI
    ·intro h33;refine lY I I I (fA aq I zT3 I)<|SL.gq (gT I I I dC) (qL iT3 I<|cO 0 I I) dC<|lY I I I (eQ I I)<|yC I<|sP ?_ ?_
     ·intro h37;refine yC I<|lY I I I (nQ I I)<|lY I I I (wT I I)<|yF I<|lM I<|sP ?_ ?_
      ·intro h42;exact yA I<|yA I<|yA I<|yA I<|yB I<|yB I<|yB I<|yB I<|yB I<|yB I<|yA I<|yP I<|lA I<|nL<|zb1 (by simp_all[bg,bh] <;> omega) mI
      ·intro h42;refine lY I I I (fA aq I zT3 I)<|SL.gq (gT I I I dC) (qL iT3 I<|cO 0 I I) dC<|lY I I I (gR I I)<|yC I<|sP ?_ ?_
       ·intro h46;refine yC I<|lY I I I (lS I I)<|yC I<|sP ?_ ?_
        ·intro h49;exact yA I<|yA I<|lY I I I (wT I I)<|lY I I I (wT I I)<|yF I<|lA I<|nL<|zb1 (by simp_all[bg,bh] <;> omega) mI
        ·intro h49;exact yC I<|lY I I I (gR I I)<|lY I I I (wF I I)<|lY I I I (wT I I)<|yF I<|lA I<|nL<|zb1 (by simp_all[bg,bh] <;> omega) mI
       ·intro h46;exact yA I<|yA I<|yA I<|yB I<|yB I<|yA I<|lY I I I (wF I I)<|yF I<|lA I<|nL<|zb1 (by simp_all[bg,bh] <;> omega) mI
     ·intro h37;refine yA I<|yA I<|lY I I I (wF I I)<|yF I<|lM I<|lY I I I (fA aq I zT3 I)<|SL.gq (gT I I I dC) (qL iT3 I<|cO 0 I I) dC<|lY I I I (gR I I)<|yC I<|sP ?_ ?_
      ·intro h46;refine yC I<|lY I I I (lS I I)<|yC I<|sP ?_ ?_
       ·intro h49;exact yA I<|yA I<|lY I I I (wT I I)<|lY I I I (wT I I)<|yF I<|lA I<|nL<|zb1 (by simp_all[bg,bh] <;> omega) mI
       ·intro h49;exact yC I<|lY I I I (gR I I)<|lY I I I (wF I I)<|lY I I I (wT I I)<|yF I<|lA I<|nL<|zb1 (by simp_all[bg,bh] <;> omega) mI
      ·intro h46;exact yA I<|yA I<|yA I<|yB I<|yB I<|yA I<|lY I I I (wF I I)<|yF I<|lA I<|nL<|zb1 (by simp_all[bg,bh] <;> omega) mI
   ·intro h29;refine yA I<|yA I<|yF I<|lM I<|lY I I I (fA aq I zT3 I)<|SL.gq (gT I I I dC) (qL iT3 I<|cO 0 I I) dC<|lY I I I (eQ I I)<|yC I<|sP ?_ ?_
    ·intro h37;refine yC I<|lY I I I (nQ I I)<|lY I I I (wT I I)<|yF I<|lM I<|sP ?_ ?_
     ·intro h42;exact yA I<|yA I<|yA I<|yA I<|yB I<|yB I<|yB I<|yB I<|yB I<|yB I<|yA I<|yP I<|lA I<|nL<|zb1 (by simp_all[bg,bh] <;> omega) mI
     ·intro h42;refine lY I I I (fA aq I zT3 I)<|SL.gq (gT I I I dC) (qL iT3 I<|cO 0 I I) dC<|lY I I I (gR I I)<|yC I<|sP ?_ ?_
      ·intro h46;refine yC I<|lY I I I (lS I I)<|yC I<|sP ?_ ?_
       ·intro h49;exact yA I<|yA I<|lY I I I (wT I I)<|lY I I I (wT I I)<|yF I<|lA I<|nL<|zb1 (by simp_all[bg,bh] <;> omega) mI
       ·intro h49;exact yC I<|lY I I I (gR I I)<|lY I I I (wF I I)<|lY I I I (wT I I)<|yF I<|lA I<|nL<|zb1 (by simp_all[bg,bh] <;> omega) mI
      ·intro h46;exact yA I<|yA I<|yA I<|yB I<|yB I<|yA I<|lY I I I (wF I I)<|yF I<|lA I<|nL<|zb1 (by simp_all[bg,bh] <;> omega) mI
    ·intro h37;refine yA I<|yA I<|lY I I I (wF I I)<|yF I<|lM I<|lY I I I (fA aq I zT3 I)<|SL.gq (gT I I I dC) (qL iT3 I<|cO 0 I I) dC<|lY I I I (gR I I)<|yC I<|sP ?_ ?_
     ·intro h46;refine yC I<|lY I I I (lS I I)<|yC I<|sP ?_ ?_
      ·intro h49;exact yA I<|yA I<|lY I I I (wT I I)<|lY I I I (wT I I)<|yF I<|lA I<|nL<|zb1 (by simp_all[bg,bh] <;> omega) mI
      ·intro h49;exact yC I<|lY I I I (gR I I)<|lY I I I (wF I I)<|lY I I I (wT I I)<|yF I<|lA I<|nL<|zb1 (by simp_all[bg,bh] <;> omega) mI
     ·intro h46;exact yA I<|yA I<|yA I<|yB I<|yB I<|yA I<|lY I I I (wF I I)<|yF I<|lA I<|nL<|zb1 (by simp_all[bg,bh] <;> omega) mI
  refine iQ I (fun hcb=>?_) (fun hcb=>?_)
  ·exact rZ<|aT I<|rE<|bR<|tR<|dR (s':=s) uR<|za8 (.inl I) results84 I ⟨by unfold cY; rw[zg3 (by simp[hdb]),zg4 hcb],I,I⟩
  ·have hn64:c.sides.length≤64:=by
    simp[bh] at hcb
    rcases Int.lt_trichotomy c.dim 1 with h | h | h
    ·have:c.dim=0:=oM;have:=hcb.1.1 this;simp[this]
    ·have:=hcb.1.2 h;omega
    ·have:=hcb.2 h;omega
   refine kP<|bN<|tN<|sQ<|rZ<|lU (fA aq I aJ I)<|lK (qL aX I<|cO 0 I I)<|lU (eN aM I)<|lM I<|tZ<|bK<|oP (ι:=Nat) (fun k=>[(0,pp b 0),(3,pp b3 0),(5,vi c.sides.length),(56,.slice rp c.sides.length rcap),(57,vi c.sides.length),(58,vi k)]) (fun _=>g)
    (fun _=>pt b3 (.cells #[vi ri,vi c.dim,.slice rp c.sides.length rcap] 53 (0,0))::s) (fun k=>k≤c.sides.length∧(List.range k).any (fY tl c)=false) (fun k=>c.sides.length - k) 0
    sB rfl rfl ⟨zf9 _,by simp⟩ ?_
   rintro k ⟨hk,hno⟩;try dsimp only
   refine rZ<|yL I<|tZ<|sQ<|iP I (fun hlt=>?_) (fun hlt=>?_)
   ·have hkl:k<c.sides.length:=oM;have hb1:=hx0 oM;have hjx:c.sides[((k:Nat):Int).toNat]?=some c.sides[k]:=gE hkl;have hjx':c.sides[k]?=some c.sides[k]:=gE hkl;generalize c.sides[k]=y at *;obtain ⟨x,hx1,hx2,hx3⟩:=rR hall wR y.cell;obtain ⟨xi,xd,xp,xn,xc⟩:=x;have hxd:xd=((aB tl y.cell).getD bD).dim:=hx3.2.1;subst hxd;have hprev:(k:Int)>0→c.sides[((k:Int) - 1).toNat]?=some (c.sides.getD (k - 1) y):=fun h=>by
     have h1:((k:Int) - 1).toNat=k - 1:=oM;have h2:k - 1<c.sides.length:=oM;rw[h1,gE h2,zh4,gE h2];rfl
    have hprev2:(k:Int)>0→c.sides[k - 1]?=some (c.sides.getD (k - 1) y):=fun h=>by
     have h2:k - 1<c.sides.length:=oM;rw[gE h2,zh4,gE h2];rfl
    refine kP (tN<|sQ<|bK<|sW I<|lU (iA aM aH I I hb1 oM sL)<|lK (eA eK aH I hcs.rd hjx)<|bW (aL zl6) fun b7=>?_);refine lA I<|oZ (sK 0 aH I I I I I sB)<|tZ<|sQ<|dW [11,12] [(0,2),(1,2),(2,2),(3,1),(4,2),(5,1),(6,1),(7,2),(8,2),(9,2),(10,0),(11,0),(12,0)] ze6 kR<|yM I<|pU I (nC I)<|pU I (fA lX I ef I)<|pK I (qL ek I<|cK hb I)<|pU I (fA bZ I zT3 I)<|pK I (qL iT3 I<|cO 0 I I)<|pK I (SQ.eq (v':=.tuple #[rcv ⟨xi,((aB tl y.cell).getD bD).dim,xp,xn,xc⟩,vb<|decide ((aB tl y.cell).isSome=true)]) (SQ.lookupOk mty104 I I<|cH.known hm) (by rw[hx1,hx2,Bool.decide_eq_true]; rfl)) ?_;refine yM I<|pU I (xT I I)<|pU I (xT I I)<|SP.o I (aL zl8) dC (.inr iR) ?_;rintro _ _ _ ⟨b8,rfl,rfl,rfl⟩;refine SP.on I (sK 0 au I I I I I sB) (.inl dC) ?_;rintro _ _ _ ⟨rfl,rfl⟩;refine oU I (aS I) dC (.inl dC)<|pN<|tN<|SC.cutB 98 (co tl c k y) ?_ ?_
    ·refine dW [] [(0,2),(1,2),(2,2),(3,2),(4,1),(5,2),(6,1),(7,2),(8,2),(9,2),(10,2),(11,2),(12,2),(13,2),(14,2),(15,1),(16,2),(17,2),(18,2),(19,2),(20,1),(21,2),(22,1),(23,2),(24,2),(25,2)] ze6 kR<|yM I<|pU I (SU.notP I)<|yM I<|SP.split ?_ ?_
     ·intro h75;exact yG I<|yI I<|yG I<|yI I<|yG I<|yG I<|pU I (wT I I)<|yM I<|yG I<|yG I<|yG I<|yH I<|SP.off1 I (zb4 I I I dC) dC<|yH I<|yH I<|yH I<|yH I<|SP.off1 I (zb4 I I I dC) dC<|yH I<|SP.off1 I (zb4 I I I dC) dC<|yH I<|yG I<|pU I (wT I I)<|pN<|zb1 (by exact ze5 (fun b=>some<|Value.bool b) (nq h75).symm) mI
     ·intro h75;refine zb3 I (gT I I I dC) (fA aq I zT3 I) dC<|SP.gq I (gT I I I dC) (qL iT3 I<|cO 0 I I) dC<|zb3 I (gT I I I dC) (fA aq I zT3 I) dC<|SP.gq I (gT I I I dC) (qL iT3 I<|cO 2 I I) dC<|zb3 I (gT I I I dC) (sU I I oM) dC<|zb3 I (gT I I I dC) (nQ I I) dC<|pU I (wF I I)<|yM I<|SP.split ?_ ?_
      ·intro h83;exact yG I<|yG I<|yG I<|yH I<|SP.off1 I (zb4 I I I dC) dC<|yH I<|yH I<|yH I<|yH I<|SP.off1 I (zb4 I I I dC) dC<|yH I<|SP.off1 I (zb4 I I I dC) dC<|yH I<|yG I<|pU I (wT I I)<|pN<|zb1 (by exact ze5 (fun b=>some<|Value.bool b) (rN (zh3 h75) h83).symm) mI
      ·intro h83;refine yJ I<|zb3 I (gT I I I dC) (gR I I) dC<|yJ I<|SP.split ?_ ?_
       ·intro h86;refine zb3 I (gT I I I dC) (fA aq I aJ I) dC<|SP.gq I (gT I I I dC) (qL aX I<|cO 2 I I) dC<|yJ I<|zb3 I (gT I I I dC) (sU I I oM) dC<|zb3 I (gT I I I dC) (iA aM aH I I (by assumption) oM<|by (simp[slen]; omega)) dC ?_;refine zb3 I (gT I I I dC) (fC bZ I zT3 I<|by assumption) dC ?_;refine SP.gq I (gT I I I dC) (aZ (o:=0) iT3 I hcs.rd (hprev h86) I) dC<|zb3 I (gT I I I dC) (fA bZ I zT3 I) dC<|SP.gq I (gT I I I dC) (qL iT3 I<|cO 1 I I) dC<|zb3 I (gT I I I dC) (eQ I I) dC<|zb3 I (gT I I I dC) (wT I I) dC<|pU I (wF I I)<|pN ?_;exact zb1 (by exact ze5 (fun b=>some<|Value.bool b) (rL (zh3 h75) h83 h86<|hprev2 h86).symm) mI
       ·intro h86;exact yG I<|yI I<|yG I<|yG I<|yG I<|yG I<|yI I<|yG I<|yI I<|yG I<|zb3 I (gT I I I dC) (wF I I) dC<|pU I (wF I I)<|pN<|zb1 (by exact ze5 (fun b=>some<|Value.bool b) (rM (zh3 h75) h83 h86).symm) mI
    have hbat:fY tl c k=co tl c k y:=by unfold fY; rw[hjx']
    refine iQ I (fun hbad=>?_) (fun hbad=>?_)
    ·refine rZ<|aT I<|rE<|bR<|tR<|tR<|bR<|tR<|dR (s':=s) uR ?_;have hany:(List.range c.sides.length).any (fY tl c)=true:=zk2.2 ⟨k,List.mem_range.2 hkl,by rw[hbat]; exact hbad⟩;exact za8 (.inl I) results84 I ⟨by unfold cY; rw[zg3 (by simp[hdb]),zg3 (by simp[hcb]),zg4 hany],I,I⟩
    ·exact kP<|bN<|tN<|rG<|yD I<|lM I<|nL<|dR (s':=pt b3 (.cells #[vi ri,vi c.dim,.slice rp c.sides.length rcap] 53 (0,0))::s) (.cons _<|.cons _<|.refl _)<|gA (k+1) sB I I ⟨oM,by rw[List.range_succ,List.any_append,hno]; simp[hbat,hbad]⟩ oM
   ·refine xI<|tX<|tX<|bX<|tN<|rZ<|aT I<|sQ<|rZ<|lU (fA aq I aJ I)<|lK (qL aX I<|cO 0 I I)<|lU (eN aM I)<|lM I<|tZ<|bK ?_;have hkk:k=c.sides.length:=oM;subst hkk;refine oP (ι:=Nat) (fun k=>[(3,pp b3 0),(10,vi<|oa<|c.sides.take k),(101,.slice rp c.sides.length rcap),(102,vi c.sides.length),(103,vi k)]) (fun _=>g)
     (fun _=>pt b3 (.cells #[vi ri,vi c.dim,.slice rp c.sides.length rcap] 53 (0,0))::s) (fun k=>k≤c.sides.length∧(c.sides.take k).any cm=false) (fun k=>c.sides.length - k) 0
     sB rfl rfl ⟨zf9 _,by simp⟩ ?_
    rintro k ⟨hk2,hns⟩;try dsimp only
    have hsb:=vI hns;have htl:(c.sides.take k).length=k:=by simp; omega
    refine rZ<|yL I<|tZ<|sQ<|iP I (fun hlt2=>?_) (fun hlt2=>?_)
    ·have hkl:k<c.sides.length:=oM;have hb1:=hx0 oM;have hjx:c.sides[((k:Nat):Int).toNat]?=some c.sides[k]:=gE hkl;have htk:c.sides.take (k+1)=c.sides.take k++[c.sides[k]]:=tS hkl;have hmemy:c.sides[k]∈c.sides:=gM hkl;generalize c.sides[k]=y at *;refine kP (tN<|sQ<|bK<|rZ<|lU (iA aM aH I I hb1 oM sL)<|lK (eA eK aH I hcs.rd hjx)<|bW (aL zl6) fun b12=>?_);refine oZ (sK 0 aH I I I I I sB)<|tZ<|sQ<|SC.cutB 114 (cm y) ?_ ?_
     ·refine rG<|lU (fA bZ I zT3 I)<|lK (qL iT3 I<|cO 0 I I)<|lU (nQ I I)<|lM I<|sP ?_ ?_
      ·intro h110;exact lY I I I (fA bZ I zT3 I)<|SL.gq (gT I I I dC) (qL iT3 I<|cO 0 I I) dC<|lY I I I (nQ I I)<|yP I<|nL<|zb1 (by exact ze5 (fun b=>some<|Value.bool b) (qY h110).symm) mI
      ·intro h110;exact yA I<|yA I<|yA I<|yF I<|nL<|zb1 (by exact ze5 (fun b=>some<|Value.bool b) (qX h110).symm) mI
     refine iQ I (fun hsg=>?_) (fun hsg=>?_)
     ·refine rZ<|aT I<|rE<|tR<|bR<|tR<|tR<|bR<|tR<|dR (s':=s) uR ?_;have hany:c.sides.any cm=true:=zk2.2 ⟨y,hmemy,hsg⟩;exact za8 (.inl I) results84 I ⟨by unfold cY; rw[zg3 (by simp[hdb]),zg3 (by simp[hcb]),zg3 (by simp[hno]),zg4 hany],I,I⟩
     ·have hyb:y.sign=1∨y.sign = -1:=by
       simp only[cm,Bool.and_eq_false_iff,decide_eq_false_iff_not,ne_eq,Decidable.not_not] at hsg;exact hsg
      exact kP<|tN<|rG<|lM I<|lU (fA bZ I zT3 I)<|lK (qL iT3 I<|cO 0 I I)<|lU (aD (m:=oa<|c.sides.take k) (n:=y.sign) I I oM)<|lA I<|nL<|bN<|tN<|rG<|yD I<|lM I<|nL<|dR (s':=pt b3 (.cells #[vi ri,vi c.dim,.slice rp c.sides.length rcap] 53 (0,0))::s) (.cons _<|.refl _)<|gA (k+1) ⟨I,Cy I (by rw[htk]; simp[oa]),I,I,I,trivial⟩ I I ⟨oM,by rw[htk,List.any_append,hns]; simp[hsg]⟩ oM
    ·have hkk:c.sides.take k=c.sides:=tL oM;rw[hkk] at hns;rw[hkk];refine xI<|tX<|tX<|bX<|tN<|sQ<|SC.cutB 126 ((decide (c.dim=1)&&decide (oa c.sides≠0))) ?_ ?_
     ·refine rG<|lU (fA aq I zT3 I)<|lK (qL iT3 I<|cO 0 I I)<|yE I<|lM I<|sP ?_ ?_
      ·intro h123;exact yC I<|lY I I I (nQ I I)<|yP I<|nL<|zb1 (by simp_all[bg]) mI
      ·intro h123;exact yA I<|yA I<|yF I<|nL<|zb1 (by simp_all[bg]) mI
     refine iQ I (fun hend=>?_) (fun hend=>?_)
     ·exact rZ<|aT I<|rE<|tR<|dR (s':=s) uR<|za8 (.inl I) results84 I ⟨by unfold cY; rw[zg3 (by simp[hdb]),zg3 (by simp[hcb]),zg3 (by simp[hno]),zg3 (by simp[hns]),zg4 hend],I,I⟩
     ·exact kP<|tN<|rZ<|aT I<|rE<|dR (s':=s) uR<|za8 (.inl I) results84 I ⟨by unfold cY; rw[zg3 (by simp[hdb]),zg3 (by simp[hcb]),zg3 (by simp[hno]),zg3 (by simp[hns]),zg3 (by rw[hend]; simp)],I,I⟩
theorem Tryz.mty163:MTy Tryz.prog 163 3 3 (vi 0):=⟨underlying163,underlying3,zeroValue3⟩
theorem Tryz.mty166:MTy Tryz.prog 166 3 83 (.slice none 0 0):=⟨underlying166,underlying3,zeroValue83⟩
abbrev Ms:=List (Int×Value×List Int)
def fH (ms:Ms):Own:=ms.map fun t=>rowA encInt 3 t.2.1 t.2.2
def i8 (ms:Ms):List (Int×Value):=ms.map fun t=>(t.1,t.2.1)
def gS (ms:Ms):List (Int×List Int):=ms.map fun t=>(t.1,t.2.2)
def jv:List (Int×List Int)→Int→Int→List (Int×List Int)
 | [],k,x=>[(k,[x])]
 | (a,l)::r,k,x=>if k=a then (a,l++[x])::r else (a,l)::jv r k x
def s5:List (Int×Int)→Int→Int→List (Int×Int)
 | [],k,x=>[(k,x)]
 | (a,z)::r,k,x=>if k=a then (a,z+x)::r else (a,z)::s5 r k x
def s3:List (Int×Int)→Int→Int
 | [],_=>0
 | (a,z)::r,k=>if k=a then z else s3 r k
def qh (zl:List (Int×Int)):List (Int×Value):=zl.map fun p=>(p.1,vi p.2)
theorem Ap (zl:List (Int×Int))(k:Int):(dS (qh zl) k).getD (vi 0)=vi (s3 zl k):=by
 induction zl with
 | nil=>rfl
 | cons p r ih =>
  obtain ⟨a,z⟩:=p;simp only[qh,zg7,cQ,s3] at ih ⊢;split
  ·rfl
  ·exact ih
theorem AL (zl:List (Int×Int))(k x:Int):eR (qh zl) k (vi<|s3 zl k+x)=qh (s5 zl k x):=by
 induction zl with
 | nil=>simp[qh,eR,s5,s3]
 | cons p r ih =>
  obtain ⟨a,z⟩:=p;simp only[qh,zg7,eR,s3,s5] at ih ⊢;split
  ·rename_i h; subst h; rfl
  ·simp only[zg7,ih]
theorem wl {zl:List (Int×Int)}{B:Int}(hB:0≤B)(h:∀ p∈zl,-B≤p.2∧p.2≤B)(k:Int) : -B≤s3 zl k∧s3 zl k≤B:=by
 induction zl with
 | nil=>simp only[s3]; omega
 | cons p r ih =>
  obtain ⟨a,z⟩:=p;simp only[s3];split
  ·exact h (a,z) (by simp)
  ·exact ih fun q hq=>h q (by simp[hq])
theorem wN {zl:List (Int×Int)}{B:Int}(hB:0≤B)(h:∀ p∈zl,-B≤p.2∧p.2≤B)(k:Int){x:Int}(hx : -1≤x∧x≤1):∀ p∈s5 zl k x,-(B+1)≤p.2∧p.2≤B+1:=by
 induction zl with
 | nil =>
  intro p hp;simp only[s5,zi1] at hp;subst hp;dsimp only;omega
 | cons q r ih =>
  obtain ⟨a,z⟩:=q;intro p hp;simp only[s5] at hp;have h0:=h (a,z) (by simp);dsimp only at h0;split at hp
  ·rcases zf4.1 hp with rfl | hp
   ·dsimp only; omega
   ·have:=h p (by simp[hp]); omega
  ·rcases zf4.1 hp with rfl | hp
   ·dsimp only; omega
   ·exact ih (fun q hq=>h q<|by simp[hq]) p hp
theorem CS (ms:Ms)(k:Int):∃ (ms':Ms) (j:Nat) (v:Value) (l:List Int),ms'[j]?=some (k,v,l)∧(dS (i8 ms) k).getD (.slice none 0 0)=v∧(∀ v' x,eR (i8 ms) k v'=i8 (ms'.set j (k,v',l++[x]))) ∧
  (∀ v' x,gS (ms'.set j (k,v',l++[x]))=jv (gS ms) k x)∧(∀ B,(∀ t∈ms,t.2.2.length≤B)→∀ t∈ms',t.2.2.length≤B)∧∀ E g (hd s:Own) w,At E g (hd++(fH ms++s)) w→At E g (hd++(fH ms'++s)) w:=by
 induction ms with
 | nil =>
  refine⟨[(k,.slice none 0 0,[])],0,.slice none 0 0,[],I,I,fun v' x=>I,fun v' x=>by simp[gS,jv],fun B _ t ht=>by simp at ht; subst ht; simp,fun E g hd s w h=>?_⟩;have h1:=h.nilRow 3 1;refine h1.perm ?_;simp only[fH,List.map_nil,List.nil_append,zg7,List.singleton_append];exact List.perm_middle.symm
 | cons p r ih =>
  obtain ⟨a,u,l0⟩:=p;by_cases hk:k=a
  ·subst hk;refine⟨(k,u,l0)::r,0,u,l0,I,by simp[i8,cQ],fun v' x=>by simp[i8,eR],fun v' x=>by simp[gS,jv],fun B h=>h,fun E g hd s w h=>h⟩
  ·obtain ⟨ms',j,v,l,h1,h2,h3,h4,h6,h5⟩:=ih;refine⟨(a,u,l0)::ms',j+1,v,l,by simpa using h1,?_,fun v' x=>?_,fun v' x=>?_,fun B h t ht=>?_,fun E g hd s w h=>?_⟩
   ·rw[← h2];simp[i8,cQ,hk]
   ·have:=h3 v' x;simp only[i8,zg7,eR,List.set_cons_succ] at this ⊢;rw[zg3 hk,this]
   ·have:=h4 v' x;simp only[gS,zg7,jv,List.set_cons_succ] at this ⊢;rw[zg3 hk,this]
   ·rcases zf4.1 ht with rfl | ht
    ·exact h _ (by simp)
    ·exact h6 B (fun t ht=>h t<|by simp[ht]) t ht
   ·have:=h5 E g (hd++[rowA encInt 3 u l0]) s w (by simpa [fH] using h);simpa [fH] using this
theorem SC.to {P:Program}{N:Nat}{E:World}{c:Code}{Q:Exit→Act→World→Prop}{f:Fr}{g g':PH}{s s':Own}(h:∀ w,At E g s w→At E g' s' w)(hc:SC P N E c Q f g' s'):SC P N E c Q f g s:=fun a w ha hw=>hc a w ha (h w hw)
theorem ST.to {N:Nat}{E:World}{e:Exit}{Q:Exit→Act→World→Prop}{f:Fr}{g g':PH}{s s':Own}(h:∀ w,At E g s w→At E g' s' w)(hc:ST N E Q e f g' s'):ST N E Q e f g s:=fun a w ha hw=>hc a w ha (h w hw)
theorem SL.to {P:Program}{N:Nat}{E:World}{ops:Array Oper}{l:List Oper}{Q:Exit→Act→World→Prop}{f:Fr}{g g':PH}{s s':Own}(h:∀ w,At E g s w→At E g' s' w)(hc:SL P N E ops Q l f g' s'):SL P N E ops Q l f g s:=fun a w ha hw=>hc a w ha (h w hw)
theorem fM {α:Type}(s:List α)(n j:Nat)(x:α):(s.take n).Sublist (s.set (j+n) x):=by
 rw[show s.take n=(s.set (j+n) x).take n by rw[List.take_set_of_le oM]];exact List.take_sublist _ _
theorem SC.drawT {P:Program}{N:Nat}{E:World}{ops:Array Oper}{Q:Exit→Act→World→Prop}{f:Fr}{g:PH}{s:Own}{id:Nat}(n:Nat)(tail:List Nat)(plan:List (Nat×Nat))(hm:P.follows .mixedOrders=true)(hok:tq ops tail plan=true)
  (h:SP P N E ops Q g (s.take n) tail plan f g s):SC P N E (.region id ops true) Q f g s:=by
 intro a w ha hw;unfold tq at hok;simp only[zj6,beq_iff_eq] at hok;refine wp_region_any hm<|jH _ _ _ _ (S:=At E g<|s.take n) (tail:=tail) ?_;have:=h (Array.replicate ops.size false) a { w with drawn:=w.drawn+1 } hok.1.1 (km _) hok.2 ha (hw.drew _<|Nat.le_succ _) (fun _=>(hw.sublist<|List.take_sublist n s).drew _<|Nat.le_succ _);rw[hok.1.2] at this;exact this
theorem pJ {ms:Ms}{j:Nat}{k:Int}{v:Value}{l:List Int}(h:ms[j]?=some (k,v,l))(s:Own):(fH ms++s)[j]?=some (rowA encInt 3 v l):=by
 have hj:=(zf8.1 h).1;rw[zh5 (by simpa [fH] using hj)];simp[fH,h]
theorem pI {ms:Ms}{j:Nat}{k:Int}{v v':Value}{l l':List Int}(h:ms[j]?=some (k,v,l))(s:Own):(fH ms++s).set j (rowA encInt 3 v' l')=fH (ms.set j (k,v',l'))++s:=by
 have hj:=(zf8.1 h).1;rw[List.set_append_left _ _ (by simpa [fH] using hj)];simp[fH,List.map_set]
theorem freezeRows {E:World}{w:World}:∀ (ms:Ms) (g:PH) (s:Own),At E g (fH ms++s) w→∃ g',Le g g'∧At E g' s w∧∀ t∈ms,dQ g' t.2.1 t.2.2
 | [],g,s,h=>⟨g,zb9 g,h,by simp⟩
 | (a,v,l)::r,g,s,h=>by
  have h':At E g (row 3 1 v l.length (l.flatMap encInt.enc)::(fH r++s)) w:=h;obtain ⟨g1,hl1,h1,h2⟩:=h'.freezeRow;obtain ⟨g2,hl2,h3,h4⟩:=freezeRows r g1 s h1;refine⟨g2,hl1.trans hl2,h3,fun t ht=>?_⟩
  rcases zf4.1 ht with rfl | ht
  ·exact Sl.mono h2 hl2
  ·exact h4 t ht
theorem SC.freezeRows {P:Program}{N:Nat}{E:World}{c:Code}{Q:Exit→Act→World→Prop}{f:Fr}{g:PH}{s:Own}{ms:Ms}(h:∀ g',Le g g'→(∀ t∈ms,dQ g' t.2.1 t.2.2)→SC P N E c Q f g' s):SC P N E c Q f g (fH ms++s):=fun a w ha hw=>by
 obtain ⟨g',h1,h2,h3⟩:=Go.Proofs.YtackilpikhkijaaGreatDoor.freezeRows ms g s hw;exact h g' h1 h3 a w ha h2
def dfs (adj:Int→Option (List Int)):Nat→Int→List Int→List Int
 | 0,_,vis=>vis
 | n+1,id,vis =>
  match adj id with
  | none=>vis
  | some l=>if vis.contains id then vis else l.foldl (fun v x=>dfs adj n x v) (vis++[id])
theorem kz (adj:Int→Option (List Int))(n:Nat)(id:Int)(vis:List Int):dfs adj (n+1) id vis=(match adj id with
  | none=>vis
  | some l=>if vis.contains id then vis else l.foldl (fun v x=>dfs adj n x v) (vis++[id])):=rfl
theorem s9 (adj:Int→Option (List Int)):∀ (n:Nat) (id:Int) (vis:List Int) (x:Int),x∈vis→x∈dfs adj n id vis
 | 0,_,_,_,h=>h
 | n+1,id,vis,x,h=>by
  unfold dfs;split
  ·exact h
  ·split
   ·exact h
   ·have:∀ (l:List Int) (v:List Int),x∈v→x∈l.foldl (fun v y=>dfs adj n y v) v:=by
     intro l;induction l with
     | nil=>intro v hv; exact hv
     | cons y t ih=>intro v hv; exact ih _<|s9 adj n y v x hv
    exact this _ _ (by simp[h])
def ja:List (Int×List Int)→Int→List Int
 | [],_=>[]
 | (a,l)::r,k=>if k=a then l else ja r k
def zC (jl:List (Int×List Int))(k:Int):Bool:=jl.any fun p=>decide (p.1=k)
theorem rA {jl:List (Int×List Int)}{k:Int}(h:zC jl k=false):ja jl k=[]:=by
 induction jl with
 | nil=>rfl
 | cons p r ih =>
  obtain ⟨a,l⟩:=p;simp only[zC,List.any_cons,Bool.or_eq_false_iff,decide_eq_false_iff_not] at h;simp only[ja];rw[zg3 (fun e=>h.1 e.symm)];exact ih h.2
def oc (jl:List (Int×List Int))(vis:List Int):Nat:=(jl.filter fun p=>!vis.contains p.1).length
theorem kS {tl:List (Int×List Int)}{v v':List Int}(h:∀ x∈v,x∈v'):oc tl v'≤oc tl v:=by
 unfold oc;rw[← List.countP_eq_length_filter,← List.countP_eq_length_filter];apply List.countP_mono_left;intro c _ hp;simp at hp ⊢;exact fun e=>hp<|h _ e
theorem xz {tl:List (Int×List Int)}{v:List Int}{k:Int}(hc:zC tl k=true)(hn:v.contains k=false):oc tl (v++[k])<oc tl v:=by
 induction tl with
 | nil=>simp[zC] at hc
 | cons d t ih =>
  have hm:oc t (v++[k])≤oc t v:=kS (fun x hx=>by simp[hx]);have e1:∀ u:List Int,oc (d::t) u=(if u.contains d.1 then 0 else 1)+oc t u:=fun u=>by
   unfold oc;rw[zj1];cases u.contains d.1 <;> simp <;> omega
  rw[e1,e1];simp only[zC,List.any_cons,zj7,zj8] at hc
  rcases hc with rfl | hc'
  ·have:(v++[d.1]).contains d.1=true:=by simp
   rw[this,hn];simp;omega
  ·have:=ih hc';cases h1:v.contains d.1
   ·cases h2:(v++[k]).contains d.1 <;> simp <;> omega
   ·have h2:(v++[k]).contains d.1=true:=by simp at h1 ⊢; exact .inl h1
    rw[h2];simp;exact this
theorem yw {g:PH}(js:Ms)(h:∀ t∈js,dQ g t.2.1 t.2.2)(k:Int):∃ v,(dS (i8 js) k).getD (.slice none 0 0)=v∧dQ g v (ja (gS js) k):=by
 induction js with
 | nil=>exact⟨_,rfl,zc1 g _⟩
 | cons p r ih =>
  obtain ⟨a,u,l⟩:=p;by_cases hk:k=a
  ·subst hk;exact⟨u,by simp[i8,cQ],by simpa [gS,ja] using h (k,u,l) (by simp)⟩
  ·obtain ⟨v,h1,h2⟩:=ih fun t ht=>h t (by simp[ht]);exact⟨v,by simpa [i8,cQ,hk] using h1,by simpa [gS,ja,hk] using h2⟩
def jT (jl:List (Int×List Int))(i:Int):Option (List Int):=some (ja jl i)
theorem vC (E:World)(g:PH)(bs bj bf m mj:Nat)(js:Ms)(hj:Mp g mj (i8 js))(hjs:∀ t∈js,dQ g t.2.1 t.2.2)(hlen:∀ t∈js,t.2.2.length<1099511627776)(h1:g bs=some (.cells #[.map<|some m] 164 (0,0)))(h2:g bj=some (.cells #[.map<|some mj] 166 (0,0)))
  (h3:g bf=some (.cells #[.func (.func 128) #[] #[pp bs 0,pp bj 0,pp bf 0]] 167 (0,0))):∀ (n:Nat) (id:Int) (vis:List Int) (s:Own) (i:Nat),oc (gS js) vis<n→s[i]?=some (mp m<|vz vis) →
  Ctr Tryz.prog E 128 #[vi id,pp bs 0,pp bj 0,pp bf 0] g s (fun _ g' s'=>g=g'∧s'=s.set i (mp m<|vz<|dfs (jT<|gS js) n id vis)):=by
 intro n;induction n with
 | zero=>intro id vis s i h; omega
 | succ n ih =>
 intro id vis s i hcnt hi;obtain ⟨v,hv1,hv2⟩:=yw js hjs id;have hvl:(ja (gS js) id).length<1099511627776:=by
  have:∀ q:Ms,(∀ t∈q,t.2.2.length<1099511627776)→(ja (gS q) id).length<1099511627776:=by
   intro q hq;induction q with
   | nil=>simp[gS,ja]
   | cons p r ihq =>
    obtain ⟨a,u,l⟩:=p;simp only[gS,zg7,ja];split
    ·exact hq (a,u,l) (by simp)
    ·exact ihq fun t ht=>hq t (by simp[ht])
  exact this js hlen
 generalize hL:ja (gS js) id=L at hv2 hvl;obtain ⟨p,cp,rfl⟩:=za4 hv2;refine zb2 (args:=[vi id,pp bs 0,pp bj 0,pp bf 0]) func128 I ntmps128 (bE I)<|rZ<|lK (qL isAgg164 I<|cK h1 I)<|lM I<|lK (SQ.eq (v':=vb<|vis.contains id) (SQ.lookup mty164 I I<|cH.own i hi)<|(zU vis).get id)<|lU (SU.not I)<|tZ<|iQ I (fun hc=>?_) (fun hc=>?_)
 ·have hnv:vis.contains id=false:=by simpa using hc
  refine rZ<|lK (qL isAgg164 I<|cK h1 I)<|lM I<|lO (SO.mapUpdate i mty164 I I I hi) ?_;rintro _ _ _ ⟨rfl,rfl⟩;rw[zV hnv];refine tZ<|rZ<|lK (qL isAgg166 I<|cK h2 I)<|lM I<|lK (SQ.eq (SQ.lookup mty166 I I<|cH.known hj) hv1)<|lU (eN aK I)<|lM I<|tZ<|bK<|oP (ι:=Nat×List Int) (fun q=>[(3,pp bf 0),(15,.slice p L.length cp),(16,vi L.length),(17,vi q.1)]) (fun _=>g)
   (fun q=>s.set i<|mp m<|vz q.2) (fun q=>q.1≤L.length∧q.2=(L.take q.1).foldl (fun v x=>dfs (jT<|gS js) n x v) (vis++[id])∧(0<L.length→oc (gS js) q.2<n)) (fun q=>L.length - q.1)
   (0,vis++[id]) sB rfl rfl ⟨zf9 _,by simp,fun hpos=>?_⟩ ?_
  ·cases hh:zC (gS js) id with
   | false =>
    rw[rA hh] at hL;rw[← hL] at hpos;simp at hpos
   | true =>
    have:=xz hh hnv;dsimp only;omega
  rintro ⟨j,vj⟩ ⟨hj1,hvj,hcj⟩;dsimp only at hj1 hvj hcj ⊢;refine rZ<|yL I<|tZ<|sQ<|iP I (fun hlt=>?_) (fun hlt=>?_)
  ·have hjl:j<L.length:=oM;have hb1:=za6 hv2 oM;have hjx:L[((j:Nat):Int).toNat]?=some L[j]:=gE hjl;have hjx':L[j]?=some L[j]:=gE hjl;generalize L[j]=y at *;refine kP (tN (sQ (bK (rZ (lU (iA aK zT3 I I hb1 oM sL) (lK (eB iT3 I (za7 hv2) hjx I) (aT I (rG (lK (qL isAgg167 I (cK h3 I)) (lM I (lW (SO.callV I I (dA.mk (cap:=[pp bs 0,pp bj 0,pp bf 0]) call128 (ih y vj _ i (hcj oM) (xw hi _)))) ?_)))))))))));rintro _ _ _ ⟨rfl,rfl⟩;refine nL (bN (tN (rG (yD I (lM I (nL ?_))))));exact gA (j+1,dfs (jT (gS js)) n y vj) sB I (by rw[List.set_set]) ⟨lN,by
    rw[jx hjx',zj3,← hvj]; rfl,fun h=>Nat.lt_of_le_of_lt (kS fun x hx=>s9 _ n _ _ x hx) (hcj h)⟩ lN
  ·refine xI<|tX<|tX<|bX ?_;have hjj:L.take j=L:=tL oM;have hr:dfs (jT<|gS js) (n+1) id vis=vj:=by
    rw[hjj] at hvj;rw[hvj,kz];simp only[jT,hL,hnv,Bool.false_eq_true,if_false]
   exact ST.ret0 (.inr I) results128 ⟨I,by rw[hr]⟩
 ·refine kP ?_;have hin:vis.contains id=true:=by simpa using hc
  have hr:dfs (jT<|gS js) (n+1) id vis=vis:=by
   rw[kz];simp only[jT,hin,if_true]
  exact ST.ret0 (.inr I) results128 ⟨I,by rw[hr,mH hi]⟩
inductive Rch (adj:Int→Option (List Int)):Int→Int→Prop
 | refl (a:Int) (h:adj a≠none):Rch adj a a
 | step (a b c:Int) (l:List Int) (h:adj a=some l) (hb:b∈l) (r:Rch adj b c):Rch adj a c
theorem Rch.node {adj:Int→Option (List Int)}{a b:Int}(h:Rch adj a b):adj a≠none:=by
 cases h with
 | refl _ h=>exact h
 | step _ _ _ l h _ _=>rw[h]; simp
theorem rH (adj:Int→Option (List Int)):∀ (n:Nat) (id:Int) (vis:List Int) (x:Int),x∈dfs adj n id vis→x∈vis∨Rch adj id x
 | 0,_,_,_,h=>.inl h
 | n+1,id,vis,x,h=>by
  rw[kz] at h;cases ha:adj id with
  | none=>rw[ha] at h; exact .inl h
  | some l =>
   rw[ha] at h;dsimp only at h;split at h
   ·exact .inl h
   ·have key:∀ (q:List Int) (v:List Int),(∀ y∈q,y∈l)→x∈q.foldl (fun v y=>dfs adj n y v) v→x∈v∨Rch adj id x:=by
     intro q;induction q with
     | nil=>intro v _ hx; exact .inl hx
     | cons y t ih =>
      intro v hq hx
      rcases ih _ (fun z hz=>hq z<|by simp[hz]) hx with h1 | h1
      ·rcases rH adj n y v x h1 with h2 | h2
       ·exact .inl h2
       ·exact .inr<|.step id y x l ha (hq y<|by simp) h2
      ·exact .inr h1
    rcases key l _ (fun y hy=>hy) h with h1 | h1
    ·rcases zf6.1 h1 with h2 | h2
     ·exact .inl h2
     ·simp at h2;subst h2;exact .inr<|.refl _ (by rw[ha]; simp)
    ·exact .inr h1
theorem kQ (adj:Int→Option (List Int)):∀ (n:Nat) (id:Int) (vis:List Int),vis.Nodup→(dfs adj n id vis).Nodup
 | 0,_,_,h=>h
 | n+1,id,vis,h=>by
  rw[kz];cases adj id with
  | none=>exact h
  | some l =>
   dsimp only;split
   ·exact h
   ·rename_i hc;have key:∀ (q:List Int) (v:List Int),v.Nodup→(q.foldl (fun v y=>dfs adj n y v) v).Nodup:=by
     intro q;induction q with
     | nil=>intro v hv; exact hv
     | cons y t ih=>intro v hv; exact ih _<|kQ adj n y v hv
    refine key l _ ?_;rw[List.nodup_append];refine⟨h,by simp,fun a ha b hb e=>hc ?_⟩;simp at hb;subst hb;simpa [← e] using ha
theorem mq (adj:Int→Option (List Int))(cnt:List Int→Nat)(hm:∀ v v',(∀ x∈v,x∈v')→cnt v'≤cnt v)(hs:∀ v k l,adj k=some l→l≠[]→v.contains k=false→cnt (v++[k])<cnt v) :
  ∀ (n:Nat) (id:Int) (vis:List Int),cnt vis<n→(adj id≠none→id∈dfs adj n id vis)∧∀ x∈dfs adj n id vis,x ∉ vis→∀ l,adj x=some l→∀ y∈l,adj y≠none→y∈dfs adj n id vis
 | 0,_,_,h=>absurd h oM
 | n+1,id,vis,hc=>by
  rw[kz];cases ha:adj id with
  | none=>exact⟨fun h=>absurd rfl h,fun x hx hn=>absurd hx hn⟩
  | some l =>
   dsimp only;split
   ·rename_i hin;exact⟨fun _=>by simpa using hin,fun x hx hn=>absurd hx hn⟩
   ·rename_i hin;have hin':vis.contains id=false:=by simpa using hin
    have key:∀ (q:List Int) (v:List Int),(∀ x∈vis++[id],x∈v)→(∀ x∈v,x ∉ vis++[id]→∀ l,adj x=some l→∀ y∈l,adj y≠none→y∈v)→(q≠[]→cnt v<n) →
      (∀ x∈v,x∈q.foldl (fun v y=>dfs adj n y v) v)∧(∀ y∈q,adj y≠none→y∈q.foldl (fun v y=>dfs adj n y v) v) ∧
      ∀ x∈q.foldl (fun v y=>dfs adj n y v) v,x ∉ vis++[id]→∀ l,adj x=some l→∀ y∈l,adj y≠none→y∈q.foldl (fun v y=>dfs adj n y v) v:=by
     intro q;induction q with
     | nil=>intro v _ h2 _; exact⟨fun x hx=>hx,by simp,h2⟩
     | cons y t ih =>
      intro v h1 h2 h3;have hcv:=h3 (by simp);obtain ⟨d1,d2⟩:=mq adj cnt hm hs n y v hcv;have hsub:=s9 adj n y v;have hcl:∀ x∈dfs adj n y v,x ∉ vis++[id]→∀ l,adj x=some l→∀ z∈l,adj z≠none→z∈dfs adj n y v:=by
       intro x hx hn l hl z hz hzn;by_cases hxv:x∈v
       ·exact hsub z<|h2 x hxv hn l hl z hz hzn
       ·exact d2 x hx hxv l hl z hz hzn
      obtain ⟨e1,e2,e3⟩:=ih (dfs adj n y v) (fun x hx=>hsub x<|h1 x hx) hcl (fun _=>Nat.lt_of_le_of_lt (hm _ _ hsub) hcv);simp only[zj2];refine⟨fun x hx=>e1 x<|hsub x hx,fun z hz hzn=>?_,e3⟩
      rcases zf4.1 hz with rfl | hz
      ·exact e1 z<|d1 hzn
      ·exact e2 z hz hzn
    obtain ⟨k1,k2,k3⟩:=key l (vis++[id]) (fun x hx=>hx) (fun x hx hn=>absurd hx hn) (fun hl=>by have:=hs vis id l ha hl hin'; omega);refine⟨fun _=>k1 id (by simp),fun x hx hn l' hl' y hy hyn=>?_⟩;by_cases hxv:x∈vis++[id]
    ·rcases zf6.1 hxv with h | h
     ·exact absurd h hn
     ·simp at h;subst h;rw[ha] at hl';injection hl' with hl'
      subst hl';exact k2 y hy hyn
    ·exact k3 x hx hxv l' hl' y hy hyn
theorem xl {adj:Int→Option (List Int)}{cnt:List Int→Nat}(hm:∀ v v',(∀ x∈v,x∈v')→cnt v'≤cnt v)(hs:∀ v k l,adj k=some l→l≠[]→v.contains k=false→cnt (v++[k])<cnt v){n:Nat}{id:Int}(hc:cnt []<n)(hn:adj id≠none)(x:Int) :
  x∈dfs adj n id []↔Rch adj id x:=by
 obtain ⟨d1,d2⟩:=mq adj cnt hm hs n id [] hc;refine⟨fun h=>(rH adj n id [] x h).resolve_left (by simp),fun h=>?_⟩;have key:∀ a b,Rch adj a b→a∈dfs adj n id []→b∈dfs adj n id []:=by
  intro a b hr;induction hr with
  | refl a _=>exact fun h=>h
  | step a b c l hl hb r ih=>exact fun h=>ih<|d2 a h (by simp) l hl b hb r.node
 exact key id x h<|d1 hn
theorem Rch.mono {adj adj':Int→Option (List Int)}(h:∀ x l,adj x=some l→∀ y∈l,∃ l',adj' x=some l'∧y∈l')(hn:∀ x,adj x≠none→adj' x≠none){a b:Int}(hr:Rch adj a b):Rch adj' a b:=by
 induction hr with
 | refl a h1=>exact .refl a<|hn a h1
 | step a b c l hl hb _ ih =>
  obtain ⟨l',h1,h2⟩:=h a l hl b hb;exact .step a b c l' h1 h2 ih
theorem nW (jl:List (Int×List Int)):∀ v k l,jT jl k=some l→l≠[]→v.contains k=false→oc jl (v++[k])<oc jl v:=by
 intro v k l hl hne hv;refine xz ?_ hv;cases h:zC jl k with
 | true=>rfl
 | false =>
  rw[jT,rA h] at hl;injection hl with hl
  exact absurd hl.symm hne
theorem yS (jl:List (Int×List Int))(a b x:Int):ja (jv jl a b) x=if x=a then ja jl x++[b] else ja jl x:=by
 induction jl with
 | nil=>simp[jv,ja]
 | cons p r ih =>
  obtain ⟨k,l⟩:=p;simp only[jv];by_cases h:a=k
  ·subst h;simp only[if_true,ja];split <;> rfl
  ·rw[zg3 h];simp only[ja,ih];by_cases hx:x=k
   ·subst hx;rw[zg4 rfl,zg4 rfl,zg3 (fun e=>h e.symm)]
   ·rw[zg3 hx,zg3 hx]
end Go.Proofs.YtackilpikhkijaaGreatDoor
