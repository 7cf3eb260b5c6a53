/- 4 -/
import Derived.Test.YtbbppeihhkhkcaaGreatDoorAn03
import Derived.Shelf.Sort.Plain
import Derived.Shelf.Slices.In.SortNone
import Derived.Sort.OwnSortedInts
set_option linter.unusedSimpArgs false
set_option linter.unusedVariables false
namespace Go.Sy
open Go
def mns (g' g:PH):PH:=fun b=>match g b with | none=>g' b | some _=>none
theorem sN {g' g:PH}{b:Nat}(h:g b=none):mns g' g b=g' b:=by simp only[mns,h]
theorem sJ {g' g:PH}{b:Nat}{o:Obj}(h:mns g' g b=some o):g b=none∧g' b=some o:=by
 unfold mns at h;split at h
 ·rename_i e; exact⟨e,h⟩
 ·cases h
theorem fw (g' g:PH):Le (mns g' g) g':=fun _ _ h=>(sJ h).2
theorem ik {g g' g'':PH}(h:Le g' g''):Le (mns g' g) (mns g'' g):=fun b o hb=>by
 obtain ⟨a,c⟩:=sJ hb;rw[sN a]; exact h _ _ c
theorem jU {g0 g g':PH}(h:Le g0 g):Le (mns g' g) (mns g' g0):=fun b o hb=>by
 obtain ⟨a,c⟩:=sJ hb;have:g0 b=none:=by
  cases d:g0 b with
  | none=>rfl
  | some x=>rw[h _ _ d] at a; cases a
 rw[sN this]; exact c
section
variable {α:Type}{k:Nat}{e:Enc α k}{T U:TypeId}{g g':PH}{s:Own}{v:Value}{l:List α}
def RK (e:Enc α k)(T:TypeId)(g:PH)(v:Value)(l:List α):Prop:=(∃ p,v = .slice p 0 0∧l=[]) ∨
 ∃ b cap cur,v = .slice (some ⟨b,0,none⟩) l.length (cap+1)∧g b=some (.cells cur T (0,0))∧l.length≤cap+1∧cur.size=(cap+1) * k∧cur.toList.take (l.length * k)=l.flatMap e.enc
theorem RK.mono (h:RK e T g v l)(hl:Le g g'):RK e T g' v l:=by
 rcases h with h | ⟨b,cap,a,c,d,f⟩
 ·exact .inl h
 ·exact .inr ⟨b,cap,a,c,hl _ _ d,f⟩
theorem RK.sl (h:RK e T g v l):SlA e g v l:=by
 rcases h with ⟨p,rfl,rfl⟩ | ⟨b,cap,c,rfl,d,f,k,i⟩
 ·exact⟨p,0,I,⟨by simp,Nat.le_refl _⟩,fun h=>absurd I h⟩
 ·refine⟨_,_,I,⟨e.length l,f⟩,fun _=>⟨b,0,c,T,(0,0),I,d,fun j x a=>?_⟩⟩;rw[← i,zi3] at a;split at a
  ·simpa using a
  ·cases a
theorem RK.form (h:RK e T g v l):∃ p c,v = .slice p l.length c:=h.sl.form
theorem RK.nil (e:Enc α k)(T:TypeId)(g:PH):RK e T g (.slice none 0 0) []:=.inl ⟨none,rfl,rfl⟩
theorem At.freezeRowK {E:World}{w:World}(h:At E g (rowA e T v l::s) w):∃ g',Le g g'∧At E g' s w∧RK e T (mns g' g) v l:=by
 obtain ⟨j,k⟩:=gX (i:=0) h rfl
 rcases k with ⟨p,rfl,m⟩ | ⟨b,cap,c,rfl,hb,d,_,f,a⟩
 ·exact⟨g,zb9 g,h.sublist<|zj3 _ _,.inl ⟨p,I,zf6 m⟩⟩
 ·have n:=h.fresh _ (List.mem_cons_self ..) b rfl;obtain ⟨o,q⟩:=h.freeze (b:=b) rfl hb;exact⟨_,q,o,.inr ⟨b,cap,c,I,by rw[sN n.1]; exact fc _ _ _,d,f,a⟩⟩
variable {P:Program}{N:Nat}{E:World}{ops:Array Oper}{Q:Exit→Act→World→Prop}{f:Fr}
theorem SL.freezeRowK {o:List Oper}(h:∀ g',Le g g'→RK e T (mns g' g) v l→SL P N E ops Q o f g' s):SL P N E ops Q o f g (rowA e T v l::s):=fun a w b c=>by
 obtain ⟨g',d,i,j⟩:=c.freezeRowK;exact h g' d j a w b i
end
section
variable {P:Program}{N:Nat}{E:World}{f:Fr}{g:PH}{s:Own}{dst:Option Tmp}{ty:TypeId}{pos:String}{af:Array Edge}{gd:Option (Nat×Bool)}
end
section
variable {α:Type}{k:Nat}{e:Enc α k}{T U:TypeId}{g:PH}{v:Value}{l:List α}
end
end Go.Sy
namespace Go.Proofs.YtbbppeihhkhkcaaGreatDoor
open _root_.Go.Proofs.Tryz _root_.Go.Proofs.YtbbppeihhkhkcaaGreatDoor.Tryz
open Go Go.Sy Go.Pl Go.Proofs
set_option maxRecDepth 100000
structure Cl where
 id:Int
 dim:Int
 sides:List ak
 deriving DecidableEq
def an (g:PH)(c:Cl)(r:Rc):Prop:=r.id=c.id∧r.dim=c.dim∧SlA encSide g (.slice r.sv.p r.sv.n r.sv.c) c.sides
theorem an.mono {g g':PH}(hl:Le g g'){c:Cl}{r:Rc}(h:an g c r):an g' c r:=⟨h.1,h.2.1,h.2.2.mono hl⟩
def ai (g:PH)(v:Value)(l:List Cl):Prop:=∃ rs,SlA encCell g v rs∧ax (an g) l rs
theorem ai.mono {g g':PH}{v:Value}{l:List Cl}(h:ai g v l)(hl:Le g g'):ai g' v l:=by
 obtain ⟨rs,a,b⟩:=h;exact⟨rs,a.mono hl,b.mono fun _ _=>an.mono hl⟩
theorem ai.form {g:PH}{v:Value}{l:List Cl}(h:ai g v l):∃ p c,v = .slice p l.length c:=by
 obtain ⟨rs,a,b⟩:=h;rw[b.length];exact a.form
def em (g:PH)(c:Cl)(r:Rc):Prop:=r.id=c.id∧r.dim=c.dim∧RK encSide 75 g (.slice r.sv.p r.sv.n r.sv.c) c.sides
theorem em.mono {g g':PH}(hl:Le g g'){c:Cl}{r:Rc}(h:em g c r):em g' c r:=⟨h.1,h.2.1,h.2.2.mono hl⟩
theorem em.cr {g g':PH}(hl:Le g g'){c:Cl}{r:Rc}(h:em g c r):an g' c r:=⟨h.1,h.2.1,h.2.2.sl.mono hl⟩
def fV (g:PH)(v:Value)(l:List Cl):Prop:=∃ rs,RK encCell 56 g v rs∧ax (em g) l rs
theorem fV.mono {g g':PH}{v:Value}{l:List Cl}(h:fV g v l)(hl:Le g g'):fV g' v l:=by
 obtain ⟨rs,a,b⟩:=h;exact⟨rs,a.mono hl,b.mono fun _ _=>em.mono hl⟩
theorem fV.cells {g g':PH}{v:Value}{l:List Cl}(h:fV g v l)(hl:Le g g'):ai g' v l:=by
 obtain ⟨rs,a,b⟩:=h;exact⟨rs,a.sl.mono hl,b.mono fun _ _=>em.cr hl⟩
def aJ (l:List Cl):Prop:=l.length<1099511627776∧∀ c∈l,c.sides.length<1099511627776
def ci (c:Cl):Cl:=⟨c.id,c.dim,sortBy ak.cell c.sides⟩
def aa (l:List Cl):List Cl:=(sortBy Cl.id l).map ci
theorem Tryz.build29 (x:Value)(h:x.cells = #[x])(w:World):(Instr.build 29 #[(0,x)]).run Tryz.prog w = .ok (.agg #[x]) w:=by
 have hz:(Value.agg #[Value.slice none 0 0]).cells = #[.slice none 0 0]:=rfl;simp[Instr.build,Instr.fill,h,hz]
theorem EZ (x y:ak)(w:World):(binOp .neq 75 (.agg (encSide.enc x).toArray)<|.agg (encSide.enc y).toArray).run Tryz.prog w = .ok (.bool<|decide (x≠y)) w:=by
 have i:Tryz.prog.underlying 75=some (.struct<|Tryz.prog.fieldsOf 75):=by kernel_rfl
 have l:(Tryz.prog.fieldsOf 75).toList=(Tryz.prog.fieldsOf 75).toList:=rfl;rw[run_neq_struct,run_equalIn_agg w 9999 75 _ _ i stoodInHeld75]
 have f : ∃ f1 f2,(Tryz.prog.fieldsOf 75).toList = [f1,f2] ∧ f1.name ≠ "_" ∧ f2.name ≠ "_" ∧ f1.type = 3 ∧ f2.type = 3 ∧ f1.offset = 0 ∧ f2.offset = 1:=⟨_,_,rfl,by decide,by decide,rfl,rfl,rfl,rfl⟩
 obtain ⟨f1,f2,e,n1,n2,t1,t2,o1,o2⟩:=f;obtain ⟨a,b⟩:=x;obtain ⟨c,d⟩:=y;rw[e];have j:=run_equalIn_int (P:=Tryz.prog) w 9998 3 .i64 .i64 a c uT3;have k:=run_equalIn_int (P:=Tryz.prog) w 9998 3 .i64 .i64 b d uT3;simp only[Op.eqFields,n1,n2,t1,t2,o1,o2,encSide,part,ne_eq,not_false_eq_true,if_true,Sem.run_bind,iT3,zd2];simp[j,k];by_cases g:a=c <;> by_cases h:b=d <;> simp[g,h]
theorem FH (E:World)(g:PH):AQ E (.func (.func 118) #[] #[]) Rc.id g:=by
 intro g s a b;refine cz.mk (cap:=[]) call118<|zb2 (args:=[.agg (encCell.enc a).toArray]) func118 I ntmps118 (bE I)<|rZ (bW (bO I) fun b1=>?_);exact aT I<|rZ<|lU (fA ao I zT3 I)<|SL.K (qL iT3 I<|cO 0 I I)<|aT I<|rE<|dR (s':=s) uR<|za8 (.inl I) results118 I ⟨I,I,I⟩
theorem Bb (E:World)(g:PH):AP E (.func (.func 120) #[] #[]) ak.cell g:=by
 intro g s a b;refine cz.mk (cap:=[]) call120<|zb2 (args:=[.agg (encSide.enc a).toArray]) func120 I ntmps120 (bE I)<|rZ (bW (bO I) fun b1=>?_);exact aT I<|rZ<|lU (fA c4 I zT3 I)<|SL.K (qL iT3 I<|cO 0 I I)<|aT I<|rE<|dR (s':=s) uR<|za8 (.inl I) results120 I ⟨I,I,I⟩
theorem oT (E:World)(g:PH)(s:Own)(v:Value)(l:List Cl)(S:ai g v l)(Q:aJ l) :
  Ctr Tryz.prog E 53 #[.agg #[v]] g s (fun r g' s'=>s=s'∧Le g g'∧∃ u,r = .agg #[u]∧fV (mns g' g) u (aa l)):=by
 obtain ⟨rs,D,z⟩:=S;have R:=z.length;have T:=Q.1;have A:=ax.sortBy (f:=Cl.id) (h:=Rc.id) (fun a b h=>h.1.symm) z;obtain ⟨p,c,rfl⟩:=za4 D;refine zb2 (args:=[.agg #[.slice p rs.length c]]) func53 I ntmps53 (bE I)<|rZ (bW (bO I) fun b1=>?_);refine bW (aL zl9) fun b2=>tZ<|rZ<|lU (fA dn I cq I)<|SL.K (qL eh I<|cO 1 I I)<|lW (SO.call call117 I<|AW E g _ _ 118 #[] Rc.id (FH E g) rs D oM) ?_;rintro r3 _ _ ⟨rfl,rfl⟩;refine zd4 fun ⟨w0,B⟩=>?_;obtain ⟨q,d,rfl⟩:=ag (i:=0) B rfl;have J:0<(sortBy Rc.id rs).length→based (.slice q (sortBy Rc.id rs).length d)=true:=fun h=>(by obtain ⟨b0,c0,U⟩:=bw (i:=0) B rfl h; rw[U]; rfl);clear B w0;refine aT I<|sQ<|sW I<|lU (eN aB I)<|lM I<|tZ<|bK ?_;have V:(sortBy Rc.id rs).length=rs.length:=ez rs;refine oP (ι:=PH×List Rc×List Rc×List Cl×List Cl) (fun i=>[(2,pp b2 0),(3,.slice q (sortBy Rc.id rs).length d),(9,vi (sortBy Rc.id rs).length),(10,vi i.2.1.length)]) (fun i=>i.1)
  (fun i=>rowA encCell 56 (.slice q (sortBy Rc.id rs).length d) (i.2.1++i.2.2.1)::pt b2 (.cells #[.slice none 0 0] 29 (0,0))::pt b1 (.cells #[.slice p rs.length c] 29 (0,0))::s)
  (fun i=>Le g i.1∧ax (em<|mns i.1 g) i.2.2.2.1 i.2.1∧ax (an g) i.2.2.2.2 i.2.2.1∧aa l=i.2.2.2.1++i.2.2.2.2.map ci∧(i.2.1.length+i.2.2.1.length=(sortBy Rc.id rs).length∧∀ x∈i.2.2.2.2,x∈l)) (fun i=>i.2.2.1.length)
  (g,[],sortBy Rc.id rs,[],sortBy Cl.id l) sB rfl rfl ⟨zb9 g,trivial,A,by simp[aa],by simp,fun x W=>(fD l x).1 W⟩ ?_
 rintro ⟨g1,ds,rest,dl,rl⟩ ⟨k,hd,hr,m,j,n⟩;dsimp only at k hd hr m j n ⊢;have X:=hr.length;refine rZ<|yL I<|tZ<|sQ<|iP I (fun L=>?_) (fun L=>?_)
 ·cases rest with
  | nil=>simp at j; omega
  | cons x rest =>
  obtain ⟨cx,M,F,C,N⟩:=hr.cons_right;subst F;have O:cx.sides.length<1099511627776:=Q.2 cx (n cx (by simp));simp only[zf1] at j;have G:(ds++x::rest)[((ds.length:Nat):Int).toNat]?=some x:=bM oM;have t:based (.slice q (sortBy Rc.id rs).length d)=true:=J oM;refine kP (tN (sQ (bK (sW I (aT I (rG (lM I (lM I (lM I (lM I (lU (iA aB aw I I t oM sL) (lU (fC ao I aM I t) (SL.K (aZ (o:=2) br I (zb7 0 I) G I) (lW (SO.call call119 I (AV E g1 _ _ 120 #[] ak.cell (Bb E g1) cx.sides (C.2.2.mono k) O)) ?_))))))))))))));rintro r20 _ _ ⟨rfl,rfl⟩;refine SL.freezeRowK fun g2 e w=>?_;obtain ⟨q2,d2,rfl⟩:=w.form;refine lU (iA aB aw I I t oM sL) (lU (fC ao I aM I t) (oZ (SO.partA (o:=2) 0 ⟨x.id,x.dim,q2,_,d2⟩ aM I I I G I I dC I) (SL.nil (bN (tN (rG (yD I (lM I (SL.nil ?_)))))))));exact ST.again (g2,ds++[⟨x.id,x.dim,q2,(sortBy ak.cell cx.sides).length,d2⟩],rest,dl++[ci cx],M) ⟨I,I,I,bD lN,trivial⟩ I (by
    dsimp only;rw[show (ds++x::rest).set ((ds.length:Nat):Int).toNat ⟨x.id,x.dim,q2,(sortBy ak.cell cx.sides).length,d2⟩=ds++[⟨x.id,x.dim,q2,(sortBy ak.cell cx.sides).length,d2⟩]++rest by rw[dN oM]; simp];rfl) ⟨k.trans e,(hd.mono fun _ _=>em.mono (ik e)).append ⟨(by exact⟨C.1,C.2.1,w.mono (jU k)⟩:em (mns g2 g) (ci cx) ⟨x.id,x.dim,q2,(sortBy ak.cell cx.sides).length,d2⟩),trivial⟩,N,by rw[m]; simp,lN,fun y Y=>n y (by simp[Y])⟩ lN
 ·have P:rest=[]:=zf6 oM;subst P;have H:rl=[]:=hr.nil_right;subst H;refine xI (tX<|tX<|bX<|tN<|rZ<|SL.freezeRowK fun g2 e w=>?_);refine lM I<|lU (za3 I<|build29 _ I)<|oZ (sK 0 ae I I I I I sB)<|tZ<|rE<|ST.retCD 0 s (.inl I) results53 I aj ae I I (.cons _<|.cons _<|.refl _) ⟨I,k.trans e,_,I,ds,?_,?_⟩
  ·simpa using w.mono<|jU k
  ·rw[m];simpa using hd.mono fun _ _=>em.mono<|ik e
theorem eY (E:World)(g:PH)(s:Own)(v:Value)(l:List Cl)(a:ai g v l)(b:aJ l) :
  Ctr Tryz.prog E 53 #[.agg #[v]] g s (fun r g' s'=>s=s'∧Le g g'∧∃ u,r = .agg #[u]∧ai g' u (aa l)) :=
 (oT E g s v l a b).mono fun _ _ _ ⟨c,d,u,e,f⟩=>⟨c,d,u,e,f.cells<|fw _ _⟩
theorem iw {α:Type}{l m:List α}{k:Nat}(a:k<l.length)(b:k<m.length)(h:l.take k=m.take k)(c:l[k]=m[k]):l.take (k+1)=m.take (k+1):=by
 rw[tS a,tS b,h,c]
theorem jj {α:Type}{l m:List α}(hl:l.length=m.length)(h:l.take l.length=m.take l.length):l=m:=by
 rw[tL<|Nat.le_refl _,tL oM] at h;exact h
theorem SU.neqSide {N:Nat}{f:Fr}{dst:Option Tmp}{ty:TypeId}{pos:String}{af:Array Edge}{gd:Option (Nat×Bool)}{x y:Operand}{a b:ak}{U:TypeId}(d:ev f x=some (.agg (encSide.enc a).toArray))(e:ev f y=some (.agg (encSide.enc b).toArray)) :
  SU Tryz.prog N ⟨dst,.binOp .neq 75 x y U,ty,pos,af,gd⟩ f (.bool<|decide (a≠b)):=fun ac w c=>by
 have hg:=run_eqGuard_agg (P:=Tryz.prog) w .neq 75 x y (encSide.enc a).toArray (encSide.enc b).toArray eqGuardType75;simp only[execOp,c.ev d,c.ev e,Sem.run_bind,hg,zd2,EZ];rfl
theorem rD (E:World)(g:PH)(s:Own)(v u:Value)(l m:List ak)(j:SlA encSide g v l)(n:SlA encSide g u m)(hl:l.length<1099511627776) :
  Ctr Tryz.prog E 148 #[v,u] g s (fun r g' s'=>r=vb (decide (l=m))∧g=g'∧s=s'):=by
 obtain ⟨p,c,rfl⟩:=j.form;obtain ⟨q,d,rfl⟩:=n.form;refine zb2 (args:=[.slice p l.length c,.slice q m.length d]) func148 I ntmps148 (bE I)<|rZ<|aT I<|sQ<|sW I<|lU (eN be I)<|lM I<|lU (eN be I)<|lU (nQ I I)<|tZ<|iP I (fun a=>?_) (fun a=>?_)
 ·exact rZ<|aT I<|rE<|tR<|za8 (.inl I) results148 I ⟨by have:l≠m:=fun e=>a (by rw[e]); simp[this],I,I⟩
 ·refine kP<|tN<|sQ<|sW I<|lU (eN be I)<|lM I<|tZ<|bK ?_;have b:l.length=m.length:=oM;refine oP (ι:=Nat) (fun k=>[(0,.slice p l.length c),(1,.slice q m.length d),(12,vi l.length),(13,vi k)]) (fun _=>g) (fun _=>s) (fun k=>k≤l.length∧l.take k=m.take k) (fun k=>l.length - k) 0
   sB rfl rfl ⟨zf8 _,by simp⟩ ?_
  rintro k ⟨y,f⟩;refine rZ<|yL I<|tZ<|sQ<|iP I (fun o=>?_) (fun o=>?_)
  ·have h:k<l.length:=oM;have i:k<m.length:=oM;have t:=j.based oM;have w:=n.based oM;refine kP<|tN<|sQ<|bK<|sW I<|aT I<|sQ<|dW [] [(0,2),(1,2),(2,2),(3,1),(4,2),(5,2),(6,2),(7,1),(8,2)] ze5 kR<|yM I<|yM I<|pU I (iA be aY I I t oM sL)<|pQ I (SQ.elemA jn aY I j.rd<|List.getElem?_eq_getElem h) dC ?_;refine yM I<|yM I<|pU I (iA be aY I I w oM sL)<|pQ I (SQ.elemA jn aY I n.rd<|List.getElem?_eq_getElem i) dC ?_;refine pU I (SU.neqSide I I)<|pN<|tN<|iP I (fun hd=>?_) (fun hd=>?_)
   ·exact rZ<|aT I<|rE<|bR<|tR<|tR<|bR<|tR<|za8 (.inl I) results148 I ⟨by have:l≠m:=fun e=>hd (by simp[e]); simp[this],I,I⟩
   ·exact kP<|bN<|tN<|rG<|yD I<|lM I<|SL.nil<|ST.again (k+1) sB I I ⟨oM,iw h i f<|zh2 hd⟩ oM
  ·refine xI<|tX<|tX<|bX<|tN<|rZ<|aT I<|rE ?_;have x:k=l.length:=oM;subst x;have:l=m:=jj b f;exact za8 (.inl I) results148 I ⟨by simp[this],I,I⟩
theorem CU {x y:Cl}:x=y↔x.id=y.id∧x.dim=y.dim∧x.sides=y.sides:=by
 cases x; cases y; simp
theorem ud (E:World)(g:PH)(s:Own)(a b:Cl)(ra rb:Rc)(h:an g a ra)(hb:an g b rb)(hl:a.sides.length<1099511627776) :
  Ctr Tryz.prog E 82 #[.agg (encCell.enc ra).toArray,.agg (encCell.enc rb).toArray] g s (fun r g' s'=>r=vb (decide (a=b))∧g=g'∧s=s'):=by
 obtain ⟨i1,d1,⟨p1,n1,c1⟩⟩:=ra;obtain ⟨i2,d2,⟨p2,n2,c2⟩⟩:=rb;obtain ⟨rfl,rfl,c⟩:=h;obtain ⟨rfl,rfl,d⟩:=hb;refine zb2 (args:=[.agg (encCell.enc ⟨a.id,a.dim,⟨p1,n1,c1⟩⟩).toArray,.agg (encCell.enc ⟨b.id,b.dim,⟨p2,n2,c2⟩⟩).toArray]) func82 I ntmps82 (bE I)<|rZ (bW (bO I) fun b2=>?_);refine bW (bO I) fun b3=>aT I<|SC.cutB 4 (decide (a=b)) ?_ ?_
 ·refine rG<|lU (fA ao I zT3 I)<|SL.K (qL iT3 I<|cO 1 I I)<|lU (fA ao I zT3 I)<|SL.K (qL iT3 I<|cO 0 I I)<|yE I<|lM I<|sP ?_ ?_
  ·intro e;refine lY I I I (fA ao I zT3 I)<|SL.gq (gT I I I dC) (qL iT3 I<|cO 1 I I) dC<|lY I I I (fA ao I zT3 I)<|SL.gq (gT I I I dC) (qL iT3 I<|cO 0 I I) dC<|lY I I I (eQ I I)<|yP I<|lM I<|sP ?_ ?_
   ·intro f;refine lY I I I (fA ao I aM I)<|SL.gq (gT I I I dC) (qL br I<|cO 1 I I) dC<|lY I I I (fA ao I aM I)<|SL.gq (gT I I I dC) (qL br I<|cO 0 I I) dC<|ze3 (gT I I I dC) (SO.call call148 I<|rD E g _ _ _ a.sides b.sides c d hl) dC ?_;rintro _ _ _ ⟨rfl,rfl,rfl⟩;exact yP I<|lA I<|SL.nil<|zb1 (by simp_all[aN,CU]) mI
   ·intro f;exact yA I<|yA I<|yA I<|yA I<|yA I<|yF I<|lA I<|SL.nil<|zb1 (by simp_all[aN,CU]) mI
  ·intro e;exact yA I<|yA I<|yA I<|yA I<|yA I<|yF I<|lM I<|yA I<|yA I<|yA I<|yA I<|yA I<|yF I<|lA I<|SL.nil<|zb1 (by simp_all[aN,CU]) mI
 exact rE<|dR (s':=s) uR<|za8 (.inl I) results82 I ⟨I,I,I⟩
theorem qH (E:World)(g:PH)(s:Own)(v u:Value)(l m:List Cl)(G:ai g v l)(H:ai g u m)(hl:aJ l) :
  Ctr Tryz.prog E 81 #[v,u,.func (.func 82) #[] #[]] g s (fun r g' s'=>r=vb (decide (l=m))∧g=g'∧s=s'):=by
 obtain ⟨rs,a,h⟩:=G;obtain ⟨ts,b,i⟩:=H;have z:=h.length;have A:=i.length;have J:=hl.1;obtain ⟨p,c,rfl⟩:=a.form;obtain ⟨q,d,rfl⟩:=b.form;refine zb2 (args:=[.slice p rs.length c,.slice q ts.length d,.func (.func 82) #[] #[]]) func81 I ntmps81 (bE I)<|rZ<|aT I<|sQ<|sW I<|lU (eN aB I)<|lM I<|lU (eN aB I)<|lU (nQ I I)<|tZ<|iP I (fun j=>?_) (fun j=>?_)
 ·exact rZ<|aT I<|rE<|tR<|za8 (.inl I) results81 I ⟨by have:l≠m:=fun e=>j (by rw[← z,← A,e]); simp[this],I,I⟩
 ·refine kP<|tN<|sQ<|sW I<|lU (eN aB I)<|lM I<|tZ<|bK ?_;have n:l.length=m.length:=oM;refine oP (ι:=Nat) (fun k=>[(1,.slice q ts.length d),(2,.func (.func 82) #[] #[]),(15,.slice p rs.length c),(16,vi rs.length),(17,vi k)]) (fun _=>g) (fun _=>s) (fun k=>k≤l.length∧l.take k=m.take k) (fun k=>l.length - k) 0
   sB rfl rfl ⟨zf8 _,by simp⟩ ?_
  rintro k ⟨L,t⟩;refine rZ<|yL I<|tZ<|sQ<|iP I (fun B=>?_) (fun B=>?_)
  ·have f:k<l.length:=oM;have w:k<m.length:=oM;have x:k<rs.length:=oM;have y:k<ts.length:=oM;have C:=a.based oM;have D:=b.based oM;refine kP<|tN<|sQ<|bK<|sW I<|lU (iA aB aw I I C oM sL)<|SL.q (SQ.elemA dT aw I a.rd<|List.getElem?_eq_getElem x) dC ?_;refine bW (aL zl7) fun b8=>lA I<|oZ (sK 0 aw I I I I I sB)<|tZ<|sW I<|lM I<|lU (iA aB aw I I D oM sL)<|SL.q (SQ.elemA dT aw I b.rd<|List.getElem?_eq_getElem y) dC ?_;refine bW (aL zl7) fun b9=>oZ (sK 0 aw I I I I I sB)<|tZ<|sW I<|SL.K (qV 1 dT aw I I I)<|SL.K (qV 0 dT aw I I I)<|SL.o (SO.callV I I<|cz.mk (cap:=[]) call82<|ud E g _ l[k] m[k] rs[k] ts[k] (h.get (List.getElem?_eq_getElem f)<|List.getElem?_eq_getElem x) (i.get (List.getElem?_eq_getElem w)<|List.getElem?_eq_getElem y) (hl.2 _<|gM f)) dC ?_;rintro _ _ _ ⟨rfl,rfl,rfl⟩;refine lU (SU.notP I)<|tZ<|iP I (fun hd=>?_) (fun hd=>?_)
   ·exact rZ<|aT I<|rE<|bR<|tR<|tR<|bR<|tR<|dR (s':=s) uR<|za8 (.inl I) results81 I ⟨by have:l≠m:=fun e=>hd (by simp[e]); simp[this],I,I⟩
   ·exact kP<|bN<|tN<|rG<|yD I<|lM I<|SL.nil<|dR (s':=s) uR<|ST.again (k+1) sB I I ⟨oM,iw f w t<|zh2 hd⟩ oM
  ·refine xI<|tX<|tX<|bX<|tN<|rZ<|aT I<|rE ?_;have F:k=l.length:=oM;subst F;have:l=m:=jj n t;exact za8 (.inl I) results81 I ⟨by simp[this],I,I⟩
theorem aA {l:List Cl}(h:aJ l):aJ (aa l):=by
 refine⟨by simp[aa,ez]; exact h.1,fun c a=>?_⟩;simp only[aa,zf4] at a;obtain ⟨c0,b,rfl⟩:=a;simp only[ci,ez];exact h.2 c0<|(fD l c0).1 b
theorem m5 (E:World)(g:PH)(s:Own)(v u:Value)(l m:List Cl)(e:ai g v l)(f:ai g u m)(hl:aJ l)(hm:aJ m) :
  Ctr Tryz.prog E 21 #[.agg #[v],.agg #[u]] g s (fun r g' s'=>r=vb (decide (aa l=aa m))∧g=g'∧s=s'):=by
 refine zb2 (args:=[.agg #[v],.agg #[u]]) func21 I ntmps21 (bE I)<|rZ (bW (bO I) fun b2=>?_);refine bW (bO I) fun b3=>aT I<|sQ<|dW [] [(0,1),(3,1),(1,0),(2,2),(4,0),(5,2),(6,0),(7,2)] ze5 kR<|pK I (qV 1 aj ae I I I)<|pK I (qV 0 aj ae I I I)<|SP.o I (SO.call call53 I<|eY E g _ v l e hl) dC (.inr iR) ?_;rintro _ g1 _ ⟨rfl,b,x1,rfl,d⟩;refine pU rfl (SU.field dn rfl eh rfl rfl)<|SP.o rfl (SO.call call53 rfl<|eY E g1 _ u m (f.mono b) hm) dC (.inr (by rintro _ g2 _ ⟨rfl,a,x2,rfl,c⟩; exact⟨by exact Le.trans (by assumption) (by assumption),(by exact .refl _)⟩)) ?_;rintro _ g2 _ ⟨rfl,a,x2,rfl,c⟩;refine pU rfl (SU.field dn rfl eh rfl rfl)<|SP.o rfl (SO.call call81 rfl<|qH E g2 _ x1 x2 (aa l) (aa m) (d.mono a) c<|aA hl) dC (.inr (by rintro _ _ _ ⟨rfl,rfl,rfl⟩; exact⟨by exact Le.trans (by assumption) (by assumption),(by exact .refl _)⟩)) ?_;rintro _ _ _ ⟨rfl,rfl,rfl⟩;refine pU I (aS I)<|pN<|tN<|rE ?_;refine dR (s':=s) (.cons _<|.cons _<|.refl _)<|ST.less (b.trans a) ?_;exact za8 (.inl I) results21 I ⟨I,I,I⟩
theorem Tryz.mty125:MTy Tryz.prog 125 3 56 (.agg #[vi 0,vi 0,.slice none 0 0]):=⟨underlying125,underlying3,zl7⟩
def gt (acc:List Cl)(c:Cl):List Cl:=if acc.any (fun x=>x.id == c.id) then acc else acc++[c]
theorem s9 {acc:List Cl}{c:Cl}(h:acc.any (fun x=>x.id == c.id)=true):gt acc c=acc:=zg3 h
theorem lH {acc:List Cl}{c:Cl}(h:acc.any (fun x=>x.id == c.id)=false):gt acc c=acc++[c]:=zg2 (by rw[h]; simp)
def am (l:List Cl):List Cl:=(aa l).foldl gt []
def rcv (r:Rc):Value:=.agg (encCell.enc r).toArray
def aq (r:Rc):Int×Value:=(r.id,rcv r)
def C2 (R:Cl→Rc→Prop)(g:PH)(v:Value)(tl:List Cl):Prop :=
 ∃ b m iv rs,v=pp b 0∧g b=some (.cells #[.map<|some m,iv] 135 (0,0))∧Mp g m (rs.map aq)∧dp g iv (tl.map Cl.id)∧ax R tl rs
def Tab (g:PH)(v:Value)(tl:List Cl):Prop:=C2 (an g) g v tl
theorem C2.mono {R R':Cl→Rc→Prop}{g g':PH}{v:Value}{tl:List Cl}(h:C2 R g v tl)(hl:Le g g')(hr:∀ c r,R c r→R' c r):C2 R' g' v tl:=by
 obtain ⟨b,m,iv,rs,a,d,e,f,i⟩:=h;exact⟨b,m,iv,rs,a,hl _ _ d,e.mono hl,f.mono hl,i.mono hr⟩
theorem Tab.mono {g g':PH}{v:Value}{tl:List Cl}(h:Tab g v tl)(hl:Le g g'):Tab g' v tl:=by
 obtain ⟨b,m,iv,rs,a,c,d,e,f⟩:=h;exact⟨b,m,iv,rs,a,hl _ _ c,d.mono hl,e.mono hl,f.mono fun _ _=>an.mono hl⟩
theorem mX (rs:List Rc)(k:Int):ex (rs.map aq) k=(rs.find?<|fun r=>r.id == k).map rcv:=by
 induction rs with
 | nil=>rfl
 | cons r t ih =>
  simp only[zg6,aq,cZ,zi8];by_cases h:k=r.id
  ·subst h; simp
  ·have:(r.id == k)=false:=by simpa using fun e=>h e.symm
   rw[this,zg2 h,← ih]
theorem D8 {g:PH}{tl:List Cl}{rs:List Rc}(h:ax (an g) tl rs)(k:Int):tl.any (fun x=>x.id == k)=rs.any (fun r=>r.id == k):=by
 induction tl generalizing rs with
 | nil=>cases rs with | nil=>rfl | cons _ _=>exact h.elim
 | cons c t ih =>
  cases rs with
  | nil=>exact h.elim
  | cons r rs=>simp only[List.any_cons,h.1.1,ih h.2]
theorem jZ {g:PH}{tl:List Cl}{rs:List Rc}(h:ax (an g) tl rs):tl.map Cl.id=rs.map Rc.id:=by
 induction tl generalizing rs with
 | nil=>cases rs with | nil=>rfl | cons _ _=>exact h.elim
 | cons c t ih =>
  cases rs with
  | nil=>exact h.elim
  | cons r rs=>simp only[zg6,h.1.1,ih h.2]
theorem gI (l:List Cl):∀ acc:List Cl,(l.foldl gt acc).length≤acc.length+l.length:=by
 induction l with
 | nil=>intro acc; simp
 | cons c r ih =>
  intro acc;simp only[zj1];have a:=ih<|gt acc c;have b:(gt acc c).length≤acc.length+1:=by unfold gt; split <;> simp
  simp only[zf1];omega
theorem Tryz.build135 (x:Value)(h:x.cells = #[x])(w:World):(Instr.build 135 #[(0,x)]).run Tryz.prog w = .ok (.agg #[x,.slice none 0 0]) w:=by
 have hz:(Value.agg #[Value.map none,Value.slice none 0 0]).cells = #[.map none,.slice none 0 0]:=rfl;simp[Instr.build,Instr.fill,h,hz]
theorem wj (E:World)(g:PH)(s:Own)(v:Value)(l:List Cl)(X:ai g v l)(U:aJ l) :
  Ctr Tryz.prog E 52 #[.agg #[v]] g s (fun r g' s'=>s=s'∧Le g g'∧C2 (em<|mns g' g) g' r (am l)):=by
 have L:=aA U;refine zb2 (args:=[.agg #[v]]) func52 I ntmps52 (bE I)<|rZ (bW (bO I) fun b1=>?_);refine aT I<|rZ<|lW (SO.mkMap) ?_;rintro _ _ _ ⟨m,rfl,rfl,rfl⟩;refine lU (za3 I<|build135 _ I) (bW (bO I) fun f=>?_);refine aT I<|sQ<|rZ<|SL.K (qV 2 aj ae I I I)<|lW (SO.call call53 I<|oT E g _ v l X U) ?_;rintro _ g1 _ ⟨rfl,M,u,rfl,Y⟩;obtain ⟨rs,z,n⟩:=Y;have j:=z.sl.mono<|fw _ _;obtain ⟨p,c,rfl⟩:=j.form;refine lU (SU.field dn I eh I I)<|lU (eN aB I)<|lM I<|tZ<|bK ?_;have V:=n.length;have Z:=L.1;refine zb6 3 1<|oP (ι:=Value×Nat×List Rc) (fun i=>[(3,pp f 0),(13,.slice p rs.length c),(14,vi rs.length),(15,vi i.2.1)]) (fun _=>g1)
  (fun i=>rowA encInt 3 i.1 (i.2.2.map Rc.id)::pt f (.cells #[.map<|some m,i.1] 135 (0,0))::mp m (i.2.2.map aq)::pt b1 (.cells #[v] 29 (0,0))::s)
  (fun i=>i.2.1≤rs.length∧ax (em<|mns g1 g) (((aa l).take i.2.1).foldl gt []) i.2.2) (fun i=>rs.length - i.2.1) (.slice none 0 0,0,[])
  sB rfl rfl ⟨zf8 _,by simp[ax]⟩ ?_
 rintro ⟨iv,k,a⟩ ⟨hk,b⟩;dsimp only at hk b ⊢;refine rZ<|yL I<|tZ<|sQ<|iP I (fun N=>?_) (fun N=>?_)
 ·have A:k<rs.length:=oM;have B:k<(aa l).length:=oM;have C:=j.based oM;have w:=n.get (List.getElem?_eq_getElem B)<|List.getElem?_eq_getElem A;have t:=D8 (b.mono fun _ _=>em.cr<|fw _ _) (aa l)[k].id;have h:((aa l).take<|k+1).foldl gt []=gt (((aa l).take k).foldl gt []) (aa l)[k]:=by
   rw[tS B,zj2]; rfl
  have a0:=b.length;have D:=gI ((aa l).take k) [];simp only[ze6,zc5] at D;generalize a1:(aa l)[k]=cx at *;generalize O:rs[k]=x at *;have F:rs[((k:Nat):Int).toNat]?=some x:=by rw[← O]; exact List.getElem?_eq_getElem A
  cases d:a.find? (fun r=>r.id == x.id) with
  | some y =>
   refine kP (tN<|sQ<|bK<|rZ<|lU (iA aB aw I I C oM sL)<|SL.K (SQ.elemA dT aw I j.rd F)<|bW (aL zl7) fun b5=>?_);refine oZ (sK 0 aw I I I I I sB)<|tZ<|sQ<|dW [] [(0,2),(1,2),(2,2),(3,1),(4,2),(5,1),(6,1),(7,2),(8,2),(9,2),(10,0),(11,0),(12,2)] ze5 kR<|yM I<|pU I (nC I)<|pU I (fA kI I jx I)<|pK I (qL jB I<|cO 2 I I)<|pU I (fA ao I zT3 I)<|pK I (qL iT3 I<|cO 0 I I)<|pK I (SQ.eq (SQ.lookupOk mty125 I I<|bh.own 3 I)<|by (rw[mX,d]; done)) ?_;refine yM I<|pU I (xT I I)<|pU I (xT I I)<|SP.o I (aL zl7) dC (.inr iR) ?_;rintro _ _ _ ⟨b6,rfl,rfl,rfl⟩;refine SP.on I (sK 0 aw I I I I I sB) (.inr iR) ?_;rintro _ _ _ ⟨rfl,rfl⟩;refine pU I (aS I)<|pN<|tN<|sW I<|lU (SU.not I)<|tZ<|za1 I<|kP<|bN<|tN<|rG<|yD I<|lM I<|SL.nil<|dR (s':=rowA encInt 3 iv (a.map Rc.id)::pt f (.cells #[.map<|some m,iv] 135 (0,0))::mp m (a.map aq)::pt b1 (.cells #[v] 29 (0,0))::s) (.cons _<|.cons _<|.refl _) ?_;have P:a.any (fun r=>r.id == cx.id)=true:=by
    rw[zk1];exact⟨y,zk8 d,by have:=List.find?_some d; rw[← w.1]; exact this⟩
   exact ST.again (iv,k+1,a) sB I I ⟨lN,by dsimp only; rw[h,s9<|t.trans P]; exact b⟩ lN
  | none =>
   refine kP (tN<|sQ<|bK<|rZ<|lU (iA aB aw I I C oM sL)<|SL.K (SQ.elemA dT aw I j.rd F)<|bW (aL zl7) fun b5=>?_);refine oZ (sK 0 aw I I I I I sB)<|tZ<|sQ<|dW [] [(0,2),(1,2),(2,2),(3,1),(4,2),(5,1),(6,1),(7,2),(8,2),(9,2),(10,0),(11,0),(12,2)] ze5 kR<|yM I<|pU I (nC I)<|pU I (fA kI I jx I)<|pK I (qL jB I<|cO 2 I I)<|pU I (fA ao I zT3 I)<|pK I (qL iT3 I<|cO 0 I I)<|pK I (SQ.eq (SQ.lookupOk mty125 I I<|bh.own 3 I)<|by (rw[mX,d]; done)) ?_;refine yM I<|pU I (xT I I)<|pU I (xT I I)<|SP.o I (aL zl7) dC (.inr iR) ?_;rintro _ _ _ ⟨b6,rfl,rfl,rfl⟩;refine SP.on I (sK 0 aw I I I I I sB) (.inr iR) ?_;rintro _ _ _ ⟨rfl,rfl⟩;refine pU I (aS I)<|pN<|tN<|sW I<|lU (SU.not I)<|tZ<|za2 I<|sQ ?_;refine dW [7] [(0,2),(1,2),(2,2),(3,1),(4,2),(5,1),(6,1),(7,0)] ze5 kR ?_;refine yM I<|pU I (nC I)<|pU I (fA kI I jx I)<|pK I (qL jB I<|cO 3 I I)<|pU I (fA ao I zT3 I)<|pK I (qL iT3 I<|cO 1 I I)<|pK I (qV 1 dT aw I I I)<|SP.on I (SO.mapUpdate 4 mty125 I I I I) (.inl dC) ?_;rintro _ _ _ ⟨rfl,rfl⟩;refine pN<|tN ?_;refine dW [8,9,10,11] [(0,2),(1,2),(2,2),(3,2),(4,1),(5,2),(6,1),(7,0),(8,0),(9,0),(10,0),(11,0)] ze5 kR ?_;refine yM I<|yM I<|pU I (nC I)<|pU I (fA kI I fY I)<|pK I (qL hZ I<|cO 3 I I)<|pU I (fA ao I zT3 I)<|pK I (qL iT3 I<|cO 1 I I)<|SP.o I (bS sty52 I I I (ab sB) dC) dC (.inr iR) ?_;rintro _ _ _ ⟨a2,rfl,rfl,rfl⟩;refine SP.o I (SO.app1 2 (((a++[x]).map Rc.id).flatMap encInt.enc) ((a++[x]).map Rc.id).length sty52 I I I I I ⟨I,trivial⟩ (by simp[encInt]; rfl) (by simp) (by simp; omega) (by simp; omega)) dC (.inl dC) ?_;rintro iv' _ _ ⟨rfl,rfl⟩;refine zd3 fun ⟨w0,G⟩=>?_;obtain ⟨q',d',rfl⟩:=ag (e:=encInt) (l:=(a++[x]).map Rc.id) (i:=2) G rfl;clear G w0;refine oU rfl (nC rfl) dC (.inl dC)<|oU rfl (fA kI rfl fY rfl) dC (.inl dC)<|SP.on rfl (SO.store1 3 fY rfl rfl rfl rfl (bE rfl)<|by rfl) (.inl dC) ?_;rintro _ _ _ ⟨rfl,rfl⟩;refine pN<|bN<|tN<|rG<|yD I<|lM I<|SL.nil ?_;have P:a.any (fun r=>r.id == cx.id)=false:=by
    rw[zk7];intro y Q;have:=List.find?_eq_none.1 d y Q;rw[← w.1]; exact this
   have R:gr (a.map aq) x.id (rcv x)=(a++[x]).map aq:=by
    rw[mc _ _ _ (fun q hq=>by
     obtain ⟨y,Q,rfl⟩:=zf4.1 hq;have:=List.find?_eq_none.1 d y Q;simpa [aq] using this)]
    simp[aq]
   refine dR (s':=rowA encInt 3 (.slice q' ((a++[x]).map Rc.id).length d') ((a++[x]).map Rc.id)::pt f (.cells #[.map<|some m,.slice q' ((a++[x]).map Rc.id).length d'] 135 (0,0))::mp m ((a++[x]).map aq)::pt b1 (.cells #[v] 29 (0,0))::s) ?_ ?_
   ·rw[← R]; exact .cons _<|.cons _<|.refl _
   exact ST.again (.slice q' ((a++[x]).map Rc.id).length d',k+1,a++[x]) sB I I ⟨lN,by dsimp only; rw[h,lH<|t.trans P]; exact b.append ⟨w,trivial⟩⟩ lN
 ·refine xI<|tX<|tX<|bX<|tN<|sW I<|aT I<|rE ?_;have a3:k=rs.length:=oM;have S:(aa l).take k=aa l:=tL oM;rw[S] at b;refine fT fun g2 W H=>?_;refine ST.freeze fun g3 T hb=>?_;refine ST.freezeMap fun g4 J hm=>?_;refine dR (s':=s) uR ?_;have hI:dp g4 iv ((am l).map Cl.id):=by
   rw[show (am l).map Cl.id=a.map Rc.id from jZ (b.mono fun _ _=>em.cr<|fw _ _)];exact Sl.mono H<|T.trans J
  exact za8 (.inl I) results52 I ⟨I,M.trans<|W.trans<|T.trans J,f,m,iv,a,I,J _ _ hb,hm,hI,b.mono fun _ _=>em.mono<|ik<|W.trans<|T.trans J⟩
theorem od (E:World)(g:PH)(s:Own)(v:Value)(l:List Cl)(a:ai g v l)(b:aJ l) :
  Ctr Tryz.prog E 52 #[.agg #[v]] g s (fun r g' s'=>s=s'∧Le g g'∧Tab g' r (am l)) :=
 (wj E g s v l a b).mono fun _ _ _ ⟨c,d,e⟩=>⟨c,d,e.mono (zb9 _) fun _ _=>em.cr<|fw _ _⟩
theorem zP {acc:List Cl}{c:Cl}(h:(acc.map Cl.id).Nodup):((gt acc c).map Cl.id).Nodup:=by
 unfold gt;split
 ·exact h
 ·rename_i f;rw[zg7,List.nodup_append];refine⟨h,by simp,fun a g b hb e=>?_⟩;simp at hb;subst hb;obtain ⟨x,i,d⟩:=zf4.1 g;apply f;rw[zk1];exact⟨x,i,by simp[d,e]⟩
theorem wS (l:List Cl):∀ acc:List Cl,(acc.map Cl.id).Nodup→((l.foldl gt acc).map Cl.id).Nodup:=by
 induction l with
 | nil=>intro acc h; exact h
 | cons c r ih=>intro acc h; exact ih _<|zP h
theorem iW (l:List Cl):((am l).map Cl.id).Nodup:=wS _ [] (by simp)
theorem uj (l:List Cl):∀ (acc:List Cl) (x:Cl),x∈l.foldl gt acc→x∈acc∨x∈l:=by
 induction l with
 | nil=>intro acc x h; exact .inl h
 | cons c r ih =>
  intro acc x h
  rcases ih _ x h with a | a
  ·unfold gt at a;split at a
   ·exact .inl a
   ·rcases zf5.1 a with b | b
    ·exact .inl b
    ·right; simp at b; simp[b]
  ·exact .inr (by simp[a])
theorem si {l:List Cl}{x:Cl}(h:x∈am l):x∈aa l:=(uj _ [] x h).resolve_left (by simp)
theorem bT {l:List Cl}(h:aJ l):aJ (am l):=by
 have a:=aA h;refine⟨?_,fun c hm=>a.2 c<|si hm⟩;have:=gI (aa l) [];unfold am;have b:=a.1;simp at this;omega
theorem Aa {rs:List Rc}(h:(rs.map Rc.id).Nodup){k:Nat}{r:Rc}(a:rs[k]?=some r):rs.find? (fun x=>x.id == r.id)=some r:=by
 induction rs generalizing k with
 | nil=>simp at a
 | cons y t ih =>
  simp only[zg6,zk4] at h;cases k with
  | zero=>simp at a; subst a; simp
  | succ k =>
   simp only[List.getElem?_cons_succ] at a;have b:(y.id == r.id)=false:=by
    simp only[beq_eq_false_iff_ne,ne_eq];intro e;exact h.1 (by rw[e]; exact zf4.2 ⟨r,zg4 a,I⟩)
   rw[zi8,b];exact ih h.2 a
def tP (E:World)(pv:Value)(p:Cl→Bool)(tl:List Cl)(g:PH):Prop :=
 ∀ g' s c r,Le g g'→c∈tl→an g' c r→cz Tryz.prog E pv [rcv r] g' s (fun x g'' s''=>x=vb (p c)∧g'=g''∧s=s'')
theorem xZ (R:Cl→Rc→Prop)(E:World)(g:PH)(s:Own)(v pv:Value)(tl:List Cl)(p:Cl→Bool)(P:∀ c r,R c r→an g c r)(T:C2 R g v tl)(H:(tl.map Cl.id).Nodup)(U:aJ tl)(V:tP E pv p tl g) :
  Ctr Tryz.prog E 91 #[v,pv] g s (fun r g' s'=>s=s'∧Le g g'∧∃ u rs,r = .agg #[u]∧RK encCell 56 (mns g' g) u rs∧ax R (tl.filter p) rs):=by
 obtain ⟨b,m,iv,rs,rfl,hb,hm,G,h⟩:=T;have x:=jZ<|h.mono P;have Q:=h.length;have W:=U.1;have J:(rs.map Rc.id).Nodup:=by rw[← x]; exact H
 obtain ⟨q,d,rfl⟩:=G.form;refine zb2 (args:=[pp b 0,pv]) func91 I ntmps91 (bE I)<|rZ (bW (aL zl9) fun b4=>?_);refine tZ (rZ<|bW (aL zl9) fun b5=>?_);refine tZ<|sQ<|sW I<|lU (nC I)<|lU (fA kI I fY I)<|SL.K (qL hZ I<|cK hb I)<|lU (eN az I)<|lM I<|tZ<|bK<|zb6 56 3 ?_;simp only[ze8] at G hb ⊢;refine oP (ι:=Value×Nat×List Rc) (fun i=>[(0,pp b 0),(1,pv),(4,pp b4 0),(5,pp b5 0),(11,.slice q tl.length d),(12,vi tl.length),(13,vi i.2.1)]) (fun _=>g)
  (fun i=>rowA encCell 56 i.1 i.2.2::pt b5 (.cells #[i.1] 29 (0,0))::pt b4 (.cells #[.slice none 0 0] 29 (0,0))::s)
  (fun i=>i.2.1≤tl.length∧ax R ((tl.take i.2.1).filter p) i.2.2) (fun i=>tl.length - i.2.1) (.slice none 0 0,0,[])
  sB rfl rfl ⟨zf8 _,by simp[ax]⟩ ?_
 rintro ⟨ov,k,f⟩ ⟨X,a⟩;dsimp only at X a ⊢;refine rZ<|yL I<|tZ<|sQ<|iP I (fun L=>?_) (fun L=>?_)
 ·have n:k<tl.length:=oM;have y:k<rs.length:=oM;have M:=G.based (by simp; omega);have z:=h.get (List.getElem?_eq_getElem n)<|List.getElem?_eq_getElem y;have A:=P _ _ z;have B:tl[k]∈tl:=gM n;have t:ex (rs.map aq) tl[k].id=some (rcv rs[k]):=by
   rw[mX,← A.1,Aa J<|List.getElem?_eq_getElem y]; rfl
  have j:(tl.take<|k+1).filter p=(tl.take k).filter p++(if p tl[k] then [tl[k]] else []):=by
   rw[tS n,zh8];simp only[zi9,List.filter_nil]
  have N:(tl.map Cl.id)[((k:Nat):Int).toNat]?=some tl[k].id:=by simp[n]
  have Y:=a.length;have S:((tl.take k).filter p).length≤k:=zk9 (zc6 _ _) (by simp; omega);generalize Z:tl[k]=c at *;generalize a0:rs[k]=r at *;refine kP<|tN<|sQ<|bK<|rZ<|lU (iA az zT3 I I M oM sL)<|SL.K (eB iT3 I G.rd N I)<|aT I<|sW I<|lM I<|lU (nC I)<|lU (fA kI I jx I)<|SL.K (qL jB I<|cK hb I)<|lM I<|SL.K (SQ.eq (SQ.lookup mty125 I I<|bh.known hm)<|by (rw[t]; done)) ?_;refine lW (SO.callV I I<|V g _ c r (zb9 g) B A) ?_;rintro _ _ _ ⟨rfl,rfl,rfl⟩;refine tZ ?_;refine iQ I (fun w=>?_) (fun w=>?_)
  ·refine dW [9,10,11] [(0,2),(1,1),(2,2),(3,2),(4,2),(5,1),(6,2),(7,1),(8,0),(9,0),(10,0),(11,0)] ze5 kR<|pU I (fA dn I cq I)<|pK I (qL eh I<|cO 1 I I)<|yM I<|pU I (nC I)<|pU I (fA kI I jx I)<|pK I (qL jB I<|cK hb I)<|yM I<|pK I (SQ.eq (SQ.lookup mty125 I I<|bh.known hm)<|by (rw[t]; done)) ?_;refine SP.o I (bS sty27 I I I (ab sB) dC) dC (.inr iR) ?_;rintro _ _ _ ⟨a1,rfl,rfl,rfl⟩;refine SP.o I (SO.app1 0 ((f++[r]).flatMap encCell.enc) (f++[r]).length sty27 I I I I I sB (by (simp[encCell]; rfl)) (by simp) lN lN) dC (.inl dC) ?_;rintro ov' _ _ ⟨rfl,rfl⟩;refine zd3 fun ⟨w0,C⟩=>?_;obtain ⟨q',d',rfl⟩:=ag (e:=encCell) (l:=f++[r]) (i:=0) C rfl;clear C w0;refine oU I (fA dn I cq I) dC (.inl dC)<|SP.on I (sK 1 cq I I I I I sB) (.inl dC) ?_;rintro _ _ _ ⟨rfl,rfl⟩;refine pN<|bN<|tN<|rG<|yD I<|lM I<|SL.nil ?_;exact ST.again (.slice q' (f++[r]).length d',k+1,f++[r]) sB I I ⟨lN,by dsimp only; rw[j,w]; exact a.append ⟨z,trivial⟩⟩ lN
  ·exact kP<|bN<|tN<|rG<|yD I<|lM I<|SL.nil<|ST.again (ov,k+1,f) sB I I ⟨lN,by dsimp only; rw[j,w]; simpa using a⟩ lN
 ·have O:tl.take k=tl:=tL oM;rw[O] at a;refine xI (tX<|tX<|bX<|tN<|rZ<|SL.freezeRowK fun g2 D F=>?_);obtain ⟨q2,d2,rfl⟩:=F.form;exact SL.K (qV 0 aj ae I I I)<|oZ (sK 1 ae I I I I I sB)<|tZ<|rE<|ST.retCD 1 s (.inl I) results91 I aj ae I I uR ⟨I,D,_,f,I,F,a⟩
theorem BX (E:World)(g:PH)(s:Own)(v pv:Value)(tl:List Cl)(p:Cl→Bool)(c:Tab g v tl)(a:(tl.map Cl.id).Nodup)(d:aJ tl)(e:tP E pv p tl g) :
  Ctr Tryz.prog E 91 #[v,pv] g s (fun r g' s'=>s=s'∧Le g g'∧∃ u,r = .agg #[u]∧ai g' u (tl.filter p)) :=
 (xZ (an g) E g s v pv tl p (fun _ _ h=>h) c a d e).mono fun _ _ _ ⟨f,b,u,rs,i,j,k⟩=>⟨f,b,u,i,rs,j.sl.mono<|fw _ _,k.mono fun _ _=>an.mono b⟩
theorem xf {l:List Cl}(p:Cl→Bool)(h:aJ l):aJ (l.filter p) :=
 ⟨Nat.lt_of_le_of_lt (zc6 _ _) h.1,fun c a=>h.2 c (zh6.1 a).1⟩
theorem zR (E:World)(g:PH)(s:Own)(v pv:Value)(tl:List Cl)(p:Cl→Bool)(z:Tab g v tl)(j:(tl.map Cl.id).Nodup)(w:aJ tl)(A:tP E pv p tl g) :
  Ctr Tryz.prog E 214 #[v,pv] g s (fun r g' s'=>s=s'∧Le g g'∧dp g' r ((tl.filter p).map Cl.id)):=by
 have B:=(xf p w).1;refine zb2 (args:=[v,pv]) func214 I ntmps214 (bE I)<|rZ<|aT I<|rZ<|aT I<|sQ<|sW I<|lM I<|lW (SO.call call91 I<|BX E g _ v pv tl p z j w A) ?_;rintro _ g1 _ ⟨rfl,l,u,rfl,rs,c,b⟩;obtain ⟨q,d,rfl⟩:=c.form;have y:=b.length;refine lU (SU.field dn I eh I I)<|lU (eN aB I)<|lM I<|tZ<|bK ?_;have e:=jZ b;refine zb6 3 1<|oP (ι:=Value×Nat) (fun i=>[(5,i.1),(11,.slice q rs.length d),(12,vi rs.length),(13,vi i.2)]) (fun _=>g1)
  (fun i=>rowA encInt 3 i.1 ((rs.take i.2).map Rc.id)::s)
  (fun i=>i.2≤rs.length) (fun i=>rs.length - i.2) (.slice none 0 0,0)
  sB rfl rfl (zf8 _) ?_
 rintro ⟨ov,k⟩ C;dsimp only at C ⊢;refine rZ<|yL I<|tZ<|sQ<|iP I (fun m=>?_) (fun m=>?_)
 ·have f:k<rs.length:=oM;have n:=c.based oM;have a:(rs.take<|k+1).map Rc.id=(rs.take k).map Rc.id++[rs[k].id]:=by rw[tS f,zg7]; rfl
  have o:rs[((k:Nat):Int).toNat]?=some rs[k]:=List.getElem?_eq_getElem f;have D:((rs.take k).map Rc.id).length=k:=by simp; omega
  generalize H:rs[k]=x at *;refine kP (tN<|sQ<|bK<|rZ<|lU (iA aB aw I I n oM sL)<|SL.K (SQ.elemA dT aw I c.rd o)<|bW (aL zl7) fun b7=>?_);refine oZ (sK 0 aw I I I I I sB)<|tZ<|rG<|lM I<|lU (fA ao I zT3 I)<|SL.K (qL iT3 I<|cO 0 I I)<|lW (bS sty52 I I I (ab sB) dC) ?_;rintro _ _ _ ⟨F,rfl,rfl,rfl⟩;refine lW (SO.app1 1 (((rs.take<|k+1).map Rc.id).flatMap encInt.enc) ((rs.take<|k+1).map Rc.id).length sty52 I I I I I ⟨I,trivial⟩ (by rw[a]; simp[encInt]; rfl) (by rw[a]; simp) lN lN) ?_;rintro ov' _ _ ⟨rfl,rfl⟩;exact lA I<|SL.nil<|bN<|tN<|rG<|yD I<|lM I<|SL.nil<|dR (s':=rowA encInt 3 ov' ((rs.take<|k+1).map Rc.id)::s) (.cons _<|.refl _)<|ST.again (ov',k+1) sB I I lN lN
 ·refine xI<|tX<|tX<|bX<|tN<|sW I<|aT I<|rE ?_;have t:rs.take k=rs:=tL oM;rw[t];refine fT fun g2 G h=>?_;exact za8 (.inl I) results214 I ⟨I,l.trans G,by rw[e]; exact h⟩
def CV (E:World)(pv:Value)(q:ak→Bool)(g:PH):Prop :=
 ∀ g' s a,Le g g'→cz Tryz.prog E pv [.agg (encSide.enc a).toArray] g' s (fun x g'' s''=>x=vb (q a)∧g'=g''∧s=s'')
theorem zX (E:World)(g:PH)(s:Own)(v:Value)(kn:FuncId)(kc:Array Value)(l:List ak)(q:ak→Bool)(e:SlA encSide g v l)(hl:l.length<1099511627776)(m:CV E (.func (.func kn) #[] kc) q g) :
  Ctr Tryz.prog E 168 #[v,.func (.func kn) #[] kc] g s (fun r g' s'=>(∃ n:Int,r=vi n∧decide (n≥0)=l.any q)∧g=g'∧s=s'):=by
 obtain ⟨p,c,rfl⟩:=e.form;refine zb2 (args:=[.slice p l.length c,.func (.func kn) #[] kc]) func168 I ntmps168 (bE I)<|rZ<|aT I<|sQ<|sW I<|lU (eN be I)<|lM I<|tZ<|bK<|oP (ι:=Nat) (fun k=>[(0,.slice p l.length c),(1,.func (.func kn) #[] kc),(7,vi l.length),(8,vi k)]) (fun _=>g) (fun _=>s) (fun k=>k≤l.length∧(l.take k).any q=false) (fun k=>l.length - k) 0
  sB rfl rfl ⟨zf8 _,by simp⟩ ?_
 rintro k ⟨o,a⟩;refine rZ<|yL I<|tZ<|sQ<|iP I (fun f=>?_) (fun f=>?_)
 ·have b:k<l.length:=oM;have h:=e.based oM;refine kP<|tN<|sQ<|bK<|sW I<|aT I<|sW I<|lM I<|lM I<|lU (iA be aY I I h oM sL)<|SL.q (SQ.elemA jn aY I e.rd<|List.getElem?_eq_getElem b) dC ?_;refine lW (SO.callV I I<|m g _ l[k] (zb9 g)) ?_;rintro _ _ _ ⟨rfl,rfl,rfl⟩;refine tZ<|iQ I (fun i=>?_) (fun i=>?_)
  ·refine sW I<|aT I<|rE<|bR<|tR<|tR<|bR<|tR ?_;have d:l.any q=true:=zk1.2 ⟨l[k],gM b,i⟩;exact za8 (.inl I) results168 I ⟨⟨k,I,by rw[d]; simp⟩,I,I⟩
  ·exact kP<|bN<|tN<|rG<|yD I<|lM I<|SL.nil<|ST.again (k+1) sB I I ⟨oM,by rw[tS b,List.any_append,a]; simpa using i⟩ oM
 ·refine xI<|tX<|tX<|bX<|tN<|rZ<|aT I<|rE ?_;have j:l.take k=l:=tL oM;rw[j] at a;exact za8 (.inl I) results168 I ⟨⟨-1,I,by rw[a]; rfl⟩,rfl,rfl⟩
theorem mu (E:World)(g:PH)(s:Own)(v:Value)(kn:FuncId)(kc:Array Value)(l:List ak)(q:ak→Bool)(a:SlA encSide g v l)(hl:l.length<1099511627776)(b:CV E (.func (.func kn) #[] kc) q g) :
  Ctr Tryz.prog E 149 #[v,.func (.func kn) #[] kc] g s (fun r g' s'=>r=vb (l.any q)∧g=g'∧s=s'):=by
 refine zb2 (args:=[v,.func (.func kn) #[] kc]) func149 I ntmps149 (bE I)<|rZ<|aT I<|sW I<|lM I<|lW (SO.call call168 I<|zX E g _ v kn kc l q a hl b) ?_;rintro _ _ _ ⟨⟨n,rfl,hn⟩,rfl,rfl⟩;exact lU (gQ I I)<|aT I<|rE<|za8 (.inl I) results149 I ⟨by rw[hn],I,I⟩
def nY (c:Cl)(id:Int):Bool:=c.sides.any fun x=>decide (x.cell=id)
theorem hasP (E:World)(g:PH)(b:Nat)(id:Int)(hb:g b=some (.cells #[vi id] 3 (0,0))):CV E (.func (.func 264) #[] #[pp b 0]) (fun x=>decide (x.cell=id)) g:=by
 intro g s a c;refine cz.mk (cap:=[pp b 0]) call264 ?_;have d:=c _ _ hb;refine zb2 (args:=[.agg (encSide.enc a).toArray,pp b 0]) func264 I ntmps264 (bE I)<|rZ (bW (bO I) fun b2=>?_);exact aT I<|rZ<|lU (fA c4 I zT3 I)<|SL.K (qL iT3 I<|cO 0 I I)<|SL.K (qL iT3 I<|cK d I)<|yE I<|aT I<|rE<|dR (s':=s) uR<|za8 (.inl I) results264 I ⟨I,I,I⟩
theorem DN (E:World)(g:PH)(s:Own)(c:Cl)(r:Rc)(id:Int)(b:an g c r)(hl:c.sides.length<1099511627776) :
  Ctr Tryz.prog E 216 #[rcv r,vi id] g s (fun r g' s'=>r=vb (nY c id)∧g=g'∧s=s'):=by
 refine zb2 (args:=[rcv r,vi id]) func216 I ntmps216 (bE I)<|rZ (bW (bO I) fun b2=>?_);refine bW (bO I) fun b3=>zb5 fun g1 a hb=>?_;refine aT I<|rZ<|lU (fA ao I aM I)<|SL.K (qL br I<|cO 0 I I)<|lU (SU.mkFunc I)<|lW (SO.call call149 I<|mu E g1 _ _ 264 #[pp b3 0] c.sides _ (b.2.2.mono a) hl (hasP E g1 b3 id hb)) ?_;rintro _ _ _ ⟨rfl,rfl,rfl⟩;exact aT I<|rE<|dR (s':=s) (.cons _<|.refl _)<|ST.less a<|za8 (.inl I) results216 I ⟨I,I,I⟩
theorem Gr (E:World)(g:PH)(b:Nat)(id:Int)(tl:List Cl)(e:aJ tl)(hb:g b=some (.cells #[vi id] 3 (0,0))):tP E (.func (.func 215) #[] #[pp b 0]) (fun c=>nY c id) tl g:=by
 intro g s c r a hm f;refine cz.mk (cap:=[pp b 0]) call215 ?_;have d:=a _ _ hb;refine zb2 (args:=[rcv r,pp b 0]) func215 I ntmps215 (bE I)<|rZ (bW (bO I) fun b2=>?_);refine aT I<|rZ<|SL.K (qV 0 dT aw I I I)<|SL.K (qL iT3 I<|cK d I)<|lW (SO.call call216 I<|DN E g _ c r id f<|e.2 c hm) ?_;rintro _ _ _ ⟨rfl,rfl,rfl⟩;exact aT I<|rE<|dR (s':=s) uR<|za8 (.inl I) results215 I ⟨I,I,I⟩
def aC (l:List Cl)(id:Int):List Int:=((am l).filter fun c=>nY c id).map Cl.id
theorem Aw (E:World)(g:PH)(s:Own)(v:Value)(l:List Cl)(id:Int)(e:ai g v l)(d:aJ l) :
  Ctr Tryz.prog E 167 #[.agg #[v],vi id] g s (fun r g' s'=>s=s'∧Le g g'∧dp g' r (aC l id)):=by
 refine zb2 (args:=[.agg #[v],vi id]) func167 I ntmps167 (bE I)<|rZ (bW (bO I) fun b2=>?_);refine bW (bO I) fun b3=>zb5 fun g1 b hb=>?_;refine aT I<|rZ<|SL.K (qV 0 aj ae I I I)<|lW (SO.call call52 I<|od E g1 _ v l (e.mono b) d) ?_;rintro tv g2 _ ⟨rfl,a,f⟩;refine lU (SU.mkFunc I)<|lW (SO.call call214 I<|zR E g2 _ tv _ _ _ f (iW l) (bT d)<|Gr E g2 b3 id _ (bT d)<|a _ _ hb) ?_;rintro r8 g3 _ ⟨rfl,c,hr⟩;exact aT I<|rE<|dR (s':=s) uR<|za8 (.inl I) results167 I ⟨I,b.trans<|a.trans c,hr⟩
theorem Tryz.mty143:MTy Tryz.prog 143 3 4 (vb false):=⟨underlying143,underlying3,zl5⟩
def Ax:Rc:=⟨0,0,none,0,0⟩
def aH:Cl:=⟨0,0,[]⟩
theorem rQ {R:Cl→Rc→Prop}(d:∀ c r,R c r→r.id=c.id){tl:List Cl}{rs:List Rc}(h:ax R tl rs)(k:Int):(tl.find? (fun c=>decide (c.id=k))=none∧ex (rs.map aq) k=none)∨∃ c r,tl.find? (fun c=>decide (c.id=k))=some c∧ex (rs.map aq) k=some (rcv r)∧R c r:=by
 induction tl generalizing rs with
 | nil=>cases rs with | nil=>exact .inl ⟨rfl,rfl⟩ | cons _ _=>exact h.elim
 | cons c t ih =>
  cases rs with
  | nil=>exact h.elim
  | cons r rs =>
   simp only[zg6,aq,cZ,zi8];by_cases a:c.id=k
   ·right;have:k=r.id:=by rw[d _ _ h.1,a]
    exact⟨c,r,by simp[a],by rw[zg3 this],h.1⟩
   ·have b:¬ k=r.id:=by rw[d _ _ h.1]; exact fun e=>a e.symm
    simp only[a,decide_false,zg2 b];exact ih h.2
theorem CJ {g:PH}{tl:List Cl}{rs:List Rc}(h:ax (an g) tl rs)(k:Int):(tl.find? (fun c=>decide (c.id=k))=none∧ex (rs.map aq) k=none)∨∃ c r,tl.find? (fun c=>decide (c.id=k))=some c∧ex (rs.map aq) k=some (rcv r)∧an g c r:=rQ (fun _ _ h=>h.1) h k
theorem dD {g:PH}{tl:List Cl}{rs:List Rc}(h:ax (an g) tl rs)(d:∀ g,an g aH Ax)(k:Int):∃ r,(ex (rs.map aq) k).getD (.agg #[vi 0,vi 0,.slice none 0 0])=rcv r∧(ex (rs.map aq) k).isSome=(tl.find?<|fun c=>decide (c.id=k)).isSome∧an g ((tl.find?<|fun c=>decide (c.id=k)).getD aH) r:=by
 rcases CJ h k with ⟨a,b⟩ | ⟨c,r,a,b,e⟩
 ·exact⟨Ax,by rw[b]; rfl,by rw[a,b]; rfl,by rw[a]; exact d g⟩
 ·exact⟨r,by rw[b]; rfl,by rw[a,b]; rfl,by rw[a]; exact e⟩
theorem gW (g:PH):an g aH Ax:=⟨rfl,rfl,zc1 g _⟩
def findC (l:List Cl)(id:Int):Option Cl:=(am l).find? fun c=>decide (c.id=id)
def kV (tl:List Cl)(k:Int):Bool:=tl.any fun c=>nY c k
def wv (l:List Cl):List Int:=((am l).filter fun c=>!kV (am l) c.id).map Cl.id
theorem yV {g:PH}{tl:List Cl}{rs:List Rc}(h:ax (an g) tl rs){r:Rc}(hr:r∈rs):∃ c,c∈tl∧an g c r:=by
 obtain ⟨i,b,rfl⟩:=zc8 hr;have hl:=h.length;have a:i<tl.length:=oM;exact⟨tl[i],gM a,h.get (List.getElem?_eq_getElem a)<|List.getElem?_eq_getElem b⟩
theorem Dz {tl:List Cl}(h:(tl.map Cl.id).Nodup){a b:Cl}(g:a∈tl)(hb:b∈tl)(e:a.id=b.id):a=b:=by
 induction tl with
 | nil=>simp at g
 | cons c t ih =>
  simp only[zg6,zk4] at h
  rcases zf3.1 g with rfl | d <;> rcases zf3.1 hb with rfl | f
  ·rfl
  ·exact absurd (zf4.2 ⟨b,f,e.symm⟩) h.1
  ·exact absurd (zf4.2 ⟨a,d,e⟩) h.1
  ·exact ih h.2 d f
theorem wR {vc tl:List Cl}(g:∀ c∈vc,c∈tl)(h:(vc.map Cl.id).Perm (tl.map Cl.id))(hn:(tl.map Cl.id).Nodup):vc.Perm tl:=by
 have f:(vc.map Cl.id).Nodup:=h.symm.nodup hn;refine (List.perm_ext_iff_of_nodup (List.Pairwise.of_map Cl.id (fun a b d e=>d<|by rw[e]) f)<|List.Pairwise.of_map Cl.id (fun a b d e=>d<|by rw[e]) hn).2 fun c=>⟨g c,fun i=>?_⟩;obtain ⟨c',j,k⟩:=zf4.1<|h.symm.subset<|zf4.2 ⟨c,i,rfl⟩;rw[← Dz hn (g c' j) i k];exact j
theorem ve {g:PH}{vl:List (Int×Value)}{rs:List Rc}{vc tl:List Cl}(d:vl.map Prod.fst=vc.map Cl.id)(e:∀ c∈vc,c∈tl)(hn:(tl.map Cl.id).Nodup)(a:ax (an g) tl rs)(f:vl.Perm (rs.map aq)):vc.Perm tl:=by
 refine wR e ?_ hn;have b:=f.map Prod.fst;rw[d,zi7] at b;rw[jZ a];exact b
theorem Gf {f:Fr}{t:Nat}{a b:Int}(h:aN f t=some (vi a))(e:a=b):aN f t=some (vi b):=e ▸ h
theorem nK {α:Type}{s:List α}{i:Nat}{a:α}(h:s[i]?=some a):s.set i a=s:=by
 apply List.ext_getElem?;intro j;rw[List.getElem?_set];split
 ·rename_i e;subst e;split
  ·exact h.symm
  ·rename_i b;rw[List.getElem?_eq_none oM]
 ·rfl
def ah (tl:List Cl)(id:Int):Option Cl:=tl.find? fun c=>decide (c.id=id)
def ee (tl:List Cl):Nat→Int→List Int→List Int
 | 0,_,vis=>vis
 | n+1,id,vis =>
  match ah tl id with
  | none=>vis
  | some c=>if vis.contains id then vis else c.sides.foldl (fun v x=>ee tl n x.cell v) (vis++[id])
theorem pz (tl:List Cl)(n:Nat)(id:Int)(vis:List Int):ee tl (n+1) id vis=(match ah tl id with
  | none=>vis
  | some c=>if vis.contains id then vis else c.sides.foldl (fun v x=>ee tl n x.cell v) (vis++[id])):=rfl
def qe (tl:List Cl)(vis:List Int):Nat:=(tl.filter fun c=>!vis.contains c.id).length
def qm (tl:List Cl)(ids:List Int):List Int:=ids.foldl (fun v id=>ee tl (tl.length+1) id v) []
theorem qT (tl:List Cl):∀ (n:Nat) (id:Int) (vis:List Int) (x:Int),x∈vis→x∈ee tl n id vis
 | 0,_,_,_,h=>h
 | n+1,id,vis,x,h=>by
  unfold ee;split
  ·exact h
  ·split
   ·exact h
   ·rename_i c _ _;have:∀ (l:List ak) (v:List Int),x∈v→x∈l.foldl (fun v y=>ee tl n y.cell v) v:=by
     intro l;induction l with
     | nil=>intro v a; exact a
     | cons y t ih=>intro v a; exact ih _<|qT tl n y.cell v x a
    exact this _ _ (by simp[h])
theorem oS {tl:List Cl}{v v':List Int}(h:∀ x∈v,x∈v'):qe tl v'≤qe tl v:=by
 unfold qe;rw[← List.countP_eq_length_filter,← List.countP_eq_length_filter];apply List.countP_mono_left;intro c _ a;simp at a ⊢;exact fun e=>a<|h _ e
theorem Bl {tl:List Cl}{v:List Int}{c:Cl}(b:c∈tl)(hn:v.contains c.id=false):qe tl (v++[c.id])<qe tl v:=by
 induction tl with
 | nil=>simp at b
 | cons d t ih =>
  have hm:qe t (v++[c.id])≤qe t v:=oS (fun x g=>by simp[g]);have e1:∀ u:List Int,qe (d::t) u=(if u.contains d.id then 0 else 1)+qe t u:=fun u=>by
   unfold qe;rw[zi9];cases u.contains d.id <;> simp <;> omega
  rw[e1,e1]
  rcases zf3.1 b with rfl | a
  ·have:(v++[c.id]).contains c.id=true:=by simp
   rw[this,hn];simp;omega
  ·have:=ih a;cases e:v.contains d.id
   ·cases f:(v++[c.id]).contains d.id <;> simp <;> omega
   ·have f:(v++[c.id]).contains d.id=true:=by simp at e ⊢; exact .inl e
    rw[f];simp;exact this
def iu (vis:List Int):List (Int×Value):=vis.map fun k=>(k,vb true)
theorem xQ (vis:List Int):Gy (iu vis) (fun k=>vis.contains k):=by
 intro k;induction vis with
 | nil=>rfl
 | cons a t ih =>
  simp only[iu,zg6,cZ] at ih ⊢;by_cases h:k=a
  ·simp[h]
  ·have b:(k == a)=false:=by simpa using h
   rw[zg2 h,ih];simp[h]
theorem sn {vis:List Int}{id:Int}(h:vis.contains id=false):gr (iu vis) id (vb true)=iu (vis++[id]):=by
 rw[mc _ _ _ (fun p b=>by
  obtain ⟨a,c,rfl⟩:=zf4.1 b;intro e;simp at h;exact h (by rw[← e]; exact c))]
 simp[iu]
theorem aG {tl:List Cl}{id:Int}{c:Cl}(h:ah tl id=some c):c∈tl∧c.id=id:=⟨zk8 h,by simpa using List.find?_some h⟩
theorem gi {α:Type}{l:List α}{j:Nat}{y:α}(h:l[j]?=some y):l.take (j+1)=l.take j++[y]:=by
 obtain ⟨a,b⟩:=zf7.1 h;rw[tS a,b]
theorem Bg {α:Type}{s:List α}{i:Nat}{a:α}(h:s[i]?=some a)(b:α):(s.set i b)[i]?=some b:=by
 have:=(zf7.1 h).1;simp[this]
theorem zI (E:World)(g:PH)(bt bm bf m:Nat)(tv:Value)(tl:List Cl)(O:Tab g tv tl)(P:aJ tl)(Q:g bt=some (.cells #[tv] 105 (0,0)))(M:g bm=some (.cells #[.map<|some m] 143 (0,0)))
  (R:g bf=some (.cells #[.func (.func 160) #[] #[pp bt 0,pp bm 0,pp bf 0]] 169 (0,0))):∀ (n:Nat) (id:Int) (vis:List Int) (s:Own) (i:Nat),qe tl vis<n→s[i]?=some (mp m<|iu vis) →
  Ctr Tryz.prog E 160 #[vi id,pp bt 0,pp bm 0,pp bf 0] g s (fun _ g' s'=>g=g'∧s'=s.set i (mp m<|iu<|ee tl n id vis)):=by
 intro n;induction n with
 | zero=>intro id vis s i h; omega
 | succ n ih =>
 intro id vis s i N u;have z:=O;obtain ⟨b,mt,iv,rs,rfl,hb,hm,V,p⟩:=z;obtain ⟨x,A,B,C⟩:=dD p gW id;obtain ⟨xi,xd,xp,xn,xc⟩:=x;have d:SlA encSide g (.slice xp xn xc) ((ah tl id).getD aH).sides:=C.2.2;have D:xn=((ah tl id).getD aH).sides.length:=zc2 d;subst D;refine zb2 (args:=[vi id,pp bt 0,pp bm 0,pp bf 0]) func160 I ntmps160 (bE I)<|rZ<|SL.K (qL isAgg105 I<|cK Q I)<|lU (nC I)<|lU (fA kI I jx I)<|SL.K (qL jB I<|cK hb I)<|lM I<|SL.K (SQ.eq (v':=.tuple #[rcv ⟨xi,xd,xp,((ah tl id).getD aH).sides.length,xc⟩,vb<|decide ((ah tl id).isSome=true)]) (SQ.lookupOk mty125 I I<|bh.known hm) (by rw[A,B,Bool.decide_eq_true]; rfl)) ?_;refine lM I (yX I<|yX I<|bW (aL zl7) fun b5=>?_);refine oZ (sK 0 aw I I I I I sB)<|aT I<|sQ<|SC.cutB 24 (!(ah tl id).isSome||vis.contains id) ?_ ?_
 ·refine rG<|lM I<|lU (SU.notP I)<|lM I<|sP ?_ ?_
  ·intro F;exact yA I<|yA I<|yA I<|yP I<|SL.nil<|zb1 (by simp_all[aN]) mI
  ·intro F;refine SL.gq (gT I I I dC) (qL isAgg143 I<|cK M I) dC<|yC I<|SL.gq (gT I I I dC) (SQ.eq (v':=vb<|decide (vis.contains id=true)) (SQ.lookup mty143 I I<|bh.own (i+1) u) (by rw[(xQ vis).get id]; simp)) dC ?_;refine yF I<|SL.nil ?_;exact zb1 (by simp_all[aN]) mI
 refine iQ I (fun a=>?_) (fun a=>?_)
 ·refine rE<|tR<|dR (s':=s) uR ?_;have hr:ee tl (n+1) id vis=vis:=by
   unfold ee;cases h:ah tl id with
   | none=>rfl
   | some c =>
    rw[h] at a;simp only[Option.isSome_some,Bool.not_true,Bool.false_or] at a;simp only[a,if_true]
  exact ST.ret0 (.inl I) results160 ⟨I,by rw[hr,nK u]⟩
 ·obtain ⟨c,w⟩:∃ c,ah tl id=some c:=by
   cases h:ah tl id with
   | none=>rw[h] at a; simp at a
   | some c=>exact⟨c,rfl⟩
  obtain ⟨r,f⟩:=aG w;have k:vis.contains id=false:=by rw[w] at a; simpa using a
  have S:=P.2 c r;have l:qe tl (vis++[id])<n:=by
   have:=Bl r (by rw[f]; exact k);rw[f] at this;omega
  simp only[w,Option.getD_some] at d ⊢;refine kP<|tN<|rZ<|SL.K (qL isAgg143 I<|cK M I)<|lM I<|lO (SO.mapUpdate (i+1) mty143 I I I u) ?_;rintro _ _ _ ⟨rfl,rfl⟩;rw[sn k];refine tZ<|rZ<|lU (fA ao I aM I)<|SL.K (qL br I<|cO 0 I I)<|lU (eN be I)<|lM I<|tZ<|bK<|SC.drop (s':=s.set i<|mp m<|iu<|vis++[id]) (.cons _<|.refl _)<|oP (ι:=Nat×List Int) (fun q=>[(3,pp bf 0),(28,.slice xp c.sides.length xc),(29,vi c.sides.length),(30,vi q.1)]) (fun _=>g)
   (fun q=>s.set i<|mp m<|iu q.2) (fun q=>q.1≤c.sides.length∧q.2=(c.sides.take q.1).foldl (fun v x=>ee tl n x.cell v) (vis++[id])∧qe tl q.2<n) (fun q=>c.sides.length - q.1)
   (0,vis++[id]) sB rfl rfl ⟨zf8 _,by simp,l⟩ ?_
  rintro ⟨j,vj⟩ ⟨T,e,o⟩;dsimp only at T e o ⊢;refine rZ<|yL I<|tZ<|sQ<|iP I (fun G=>?_) (fun G=>?_)
  ·have H:j<c.sides.length:=oM;have J:=d.based oM;have t:c.sides[((j:Nat):Int).toNat]?=some c.sides[j]:=List.getElem?_eq_getElem H;generalize c.sides[j]=y at *;refine kP (tN (sQ (bK (rZ (lU (iA be aY I I J oM sL) (SL.K (SQ.elemA jn aY I d.rd t) (bW (aL zm1) fun b8=>?_)))))));refine oZ (sK 0 aY I I I I I sB)<|tZ (rG (SL.K (qL isAgg169 I (cK R I)) (lU (fA c4 I zT3 I) (SL.K (qL iT3 I (cO 0 I I)) (lW (SO.callV I I (cz.mk (cap:=[pp bt 0,pp bm 0,pp bf 0]) call160 (ih y.cell vj _ (i+1) o (Bg u _)))) ?_)))));rintro _ _ _ ⟨rfl,rfl⟩;refine SL.nil (bN (tN (rG (yD I (lM I (SL.nil (dR (s':=s.set i (mp m (iu (ee tl n y.cell vj)))) (by rw[List.set_cons_zero,List.set_cons_succ,List.set_set]; exact .cons _ (.refl _)) ?_)))))));exact ST.again (j+1,ee tl n y.cell vj) sB I I ⟨lN,by
    rw[gi (j:=j) t,zj2,← e]; rfl,Nat.lt_of_le_of_lt (oS fun x U=>qT tl n _ _ x U) o⟩ lN
  ·refine xI<|tX<|tX<|bX ?_;have L:c.sides.take j=c.sides:=tL oM;have hr:ee tl (n+1) id vis=vj:=by
    rw[L] at e;rw[e,pz,w];simp only[k,Bool.false_eq_true,if_false]
   exact ST.ret0 (.inr I) results160 ⟨I,by rw[hr]⟩
theorem Bm (tl:List Cl)(v:List Int):qe tl v≤tl.length:=zc6 _ _
theorem vJ (E:World)(g:PH)(s:Own)(v iv:Value)(tl:List Cl)(ids:List Int)(B:Tab g v tl)(C:aJ tl)(n:dp g iv ids)(hl:ids.length<1099511627776) :
  Ctr Tryz.prog E 93 #[v,iv] g s (fun r g' s'=>∃ m,r = .map (some m)∧Le g g'∧s'=mp m (iu<|qm tl ids)::s):=by
 obtain ⟨p,c,rfl⟩:=za4 n;have o:v.cells = #[v]:=by obtain ⟨b,_,_,_,rfl,_⟩:=B; rfl
 refine zb2 (args:=[v,.slice p ids.length c]) func93 I ntmps93 (bE I)<|rZ (bW (bO I) fun b2=>?_);refine zb5 fun g1 f h=>?_;rw[o] at h;refine aT I<|rZ<|lW (SO.mkMap) ?_;rintro _ _ _ ⟨m,rfl,rfl,rfl⟩;refine bW (aL zeroValue143) fun b5=>oZ (sK 0 sizeOf143 I I I I I ⟨I,trivial⟩) (zb5 fun g2 d i=>?_);refine tZ (rZ<|bW (aL zeroValue169) fun b6=>?_);refine tZ (rZ<|lU (SU.mkFunc I)<|oZ (sK 0 sizeOf169 I I I I I ⟨I,trivial⟩)<|zb5 fun g3 a k=>?_);refine tZ<|sQ<|sW I<|lU (eN az I)<|lM I<|tZ<|bK ?_;have t:=B.mono<|f.trans<|d.trans a;have u:=n.mono<|f.trans<|d.trans a;refine oP (ι:=Nat×List Int) (fun q=>[(5,pp b5 0),(6,pp b6 0),(11,.slice p ids.length c),(12,vi ids.length),(13,vi q.1)]) (fun _=>g3)
  (fun q=>mp m (iu q.2)::s) (fun q=>q.1≤ids.length∧q.2=(ids.take q.1).foldl (fun v id=>ee tl (tl.length+1) id v) []) (fun q=>ids.length - q.1)
  (0,[]) sB rfl rfl ⟨zf8 _,by simp⟩ ?_
 rintro ⟨j,vj⟩ ⟨D,e⟩;dsimp only at D e ⊢;refine rZ<|yL I<|tZ<|sQ<|iP I (fun w=>?_) (fun w=>?_)
 ·have x:j<ids.length:=oM;have z:=za6 n oM;have l:ids[((j:Nat):Int).toNat]?=some ids[j]:=List.getElem?_eq_getElem x;generalize ids[j]=y at *;refine kP<|tN<|sQ<|bK<|rZ<|lU (iA az zT3 I I z oM sL)<|SL.K (eB iT3 I (za7 u) l I)<|aT I<|rG<|SL.K (qL isAgg169 I<|cK k I)<|lM I<|lW (SO.callV I I<|cz.mk (cap:=[pp b2 0,pp b5 0,pp b6 0]) call160<|zI E g3 b2 b5 b6 m v tl t C ((d.trans a) _ _ h) (a _ _ i) k (tl.length+1) y vj _ 0 (zl1<|Bm _ _) I) ?_;rintro _ _ _ ⟨rfl,rfl⟩;exact SL.nil<|bN<|tN<|rG<|yD I<|lM I<|SL.nil<|ST.again (j+1,ee tl (tl.length+1) y vj) sB I I ⟨lN,by rw[gi (j:=j) l,zj2,← e]; rfl⟩ lN
 ·refine xI<|tX<|tX<|bX<|tN<|rZ<|SL.K (qL isAgg143 I<|cK (a _ _ i) I)<|aT I<|rE ?_;have A:ids.take j=ids:=tL oM;rw[A] at e;exact za8 (.inl I) results93 I ⟨m,I,f.trans<|d.trans a,by rw[e]; rfl⟩
open Go Go.Sy Go.Pl Go.Proofs Go.Shelf Go.Sort
def w4:Ren :=
 {
  f:=fun x =>
   match x with
   | 189=>132
   | 125=>156
   | 257=>188
   | 128=>209
   | 129=>210
   | 294=>235
   | 295=>236
   | 296=>237
   | 297=>238
   | 298=>239
   | 299=>240
   | 216=>241
   | 300=>242
   | 301=>243
   | 328=>276
   | 329=>259
   | 330=>260
   | 331=>277
   | 332=>278
   | 215=>159
   | 343=>296
   | n=>n,
  t:=fun x =>
   match x with
   | 28=>52
   | 3=>3
   | 46=>203
   | 0=>0
   | 51=>239
   | 53=>145
   | 4=>4
   | 183=>233
   | 182=>232
   | 131=>149
   | 5=>5
   | 9=>9
   | 218=>270
   | 222=>274
   | 228=>292
   | 229=>293
   | n=>n,
  g:=fun x =>
   have n:=x;
   n }
theorem Tryz.lays189:Lays.n189 Tryz.prog w4 :=
  {
  mixed:=Eq.refl true,f125:=zb8 func156<|ze4 some kR,
  f128:=zb8 func209<|ze4 some kR,
  f129:=zb8 func210<|ze4 some kR,
  f189:=zb8 func132<|ze4 some kR,
  f215:=zb8 func159<|ze4 some kR,
  f216:=zb8 func241<|ze4 some kR,
  f257:=zb8 func188<|ze4 some kR,
  f294:=zb8 func235<|ze4 some kR,
  f295:=zb8 func236<|ze4 some kR,
  f296:=zb8 func237<|ze4 some kR,
  f297:=zb8 func238<|ze4 some kR,
  f298:=zb8 func239<|ze4 some kR,
  f299:=zb8 func240<|ze4 some kR,
  f300:=zb8 func242<|ze4 some kR,
  f301:=zb8 func243<|ze4 some kR,
  f328:=zb8 func276<|ze4 some kR,
  f329:=zb8 func259<|ze4 some kR,
  f330:=zb8 func260<|ze4 some kR,
  f331:=zb8 func277<|ze4 some kR,
  f332:=zb8 func278<|ze4 some kR,
  f343:=zb8 func296<|ze4 some kR,t0:=uT0,
  a0:=isAgg0,z0:=sizeOf0,v0:=zl6,t3:=uT3,a3:=iT3,
  z3:=zT3,v3:=zm4,t4:=uT4,a4:=isAgg4,z4:=zT4,
  v4:=zl5,t5:=uT5,a5:=isAgg5,z5:=sizeOf5,v5:=zeroValue5,
  t9:=uT9,a9:=isAgg9,z9:=sizeOf9,v9:=zeroValue9,t28:=az,
  a28:=hZ,z28:=fY,v28:=zeroValue52,t46:=jN,a46:=isAgg203,
  z46:=sizeOf203,v46:=zeroValue203,t51:=underlying239,a51:=isAgg239,
  z51:=sizeOf239,v51:=zeroValue239,t53:=nj,a53:=isAgg145,
  z53:=sizeOf145,v53:=zeroValue145,t131:=underlying149,a131:=isAgg149,
  z131:=sizeOf149,v131:=zeroValue149,t182:=underlying232,a182:=isAgg232,
  z182:=sizeOf232,v182:=zeroValue232,t183:=underlying233,a183:=isAgg233,
  z183:=sizeOf233,v183:=zeroValue233,t218:=underlying270,a218:=isAgg270,
  z218:=sizeOf270,v218:=zeroValue270,t222:=underlying274,a222:=isAgg274,
  z222:=sizeOf274,v222:=zeroValue274,t228:=underlying292,a228:=isAgg292,
  z228:=sizeOf292,v228:=zeroValue292,t229:=underlying293,a229:=isAgg293,
  z229:=sizeOf293,v229:=zeroValue293 }
def eU (l:List Int):List Int:=l.mergeSort fun x y=>decide (x≤y)
theorem gj (l:List Int):(eU l).length=l.length:=List.length_mergeSort ..
theorem qQ (l:List Int):(eU l).Perm l:=List.mergeSort_perm ..
theorem oL (l:List Int):l.flatMap encInt.enc=l.map (Value.int .i64):=by
 induction l with
 | nil=>rfl
 | cons a t ih=>simp only[zh7,zg6,ih]; rfl
theorem tu (E:World)(g:PH)(s:Own)(v:Value)(l:List Int)(i:Nat)(h:s[i]?=some (rowA encInt 3 v l))(hl:l.length<17592186044416) :
  Ctr Tryz.prog E 132 #[v] g s (fun _ g' s'=>g=g'∧s'=s.set i (rowA encInt 3 v<|eU l)):=by
 intro w j;obtain ⟨B,t⟩:=gX j h
 rcases t with ⟨p,rfl,hn⟩ | ⟨b,cap,c,rfl,hb,u,m,d,x⟩
 ·have o:l=[]:=zf6 hn;subst o;refine (Any.slices_Sort_int_none lays189 p 0 w).mono ?_;rintro e w' ⟨rfl,rfl⟩;refine⟨_,g,s,I,j,I,?_⟩;have:eU []=[]:=by simp[eU]
  rw[this];exact (nK h).symm
 ·have q:c.toList.take l.length=l.map (Value.int .i64):=by rw[← oL]; simpa using x
  refine (Any.slices_Sort_int lays189 b 0 (cap+1) l w (holds_of_blockI hb q) (Array.getElem?_eq_some_iff.1 hb).1 oM).mono ?_;rintro e w' ⟨rfl,n,os,rfl⟩;have y:=j.fresh _ (zg4 h) b rfl;refine⟨_,g,_,I,?_,I,I⟩;obtain ⟨q1,q2,q3,q4,q5⟩:=grownBy_sortedI (w:=w) (g:=b) (n:=n) (os:=os) (eU l).toArray;refine j.turn h I ⟨I,(by exact Nat.le_add_right _ _)⟩ I q4 (fun k z r=>q5 k z r) ?_ ?_
  ·have A:=heap_sortedI (n:=n) (os:=os) (eU l).toArray hb;have a:=gj l;have:=ei (w:=grow (putRow (Value.int .i64) (Sort.ahead w n) b 0 (eU l).toArray) os) (T:=3) (k:=1) (n:=(eU l).length) (b:=b) (cap:=cap) (xs:=(eU l).flatMap encInt.enc) (by rw[encInt.length]) A oM m (by simp[putCells]; simpa using d) (by
    rw[oL,Nat.mul_one];exact take_putCellsI c (eU l) (by rw[a,d]; omega))
   rw[a] at this;rw[show rowA encInt 3 (.slice (some ⟨b,0,none⟩) l.length<|cap+1) (eU l)=row 3 1 (.slice (some ⟨b,0,none⟩) l.length<|cap+1) l.length ((eU l).flatMap encInt.enc) by simp only[rowA,a]];exact this
  ·intro b' f;simp only[rowA,row,nA,zg9] at f;subst f;exact⟨Nat.lt_of_lt_of_le (Array.getElem?_eq_some_iff.1 hb).1 q4,.inl I⟩
def fQ (c:Cl):Bool:=decide (c.dim<0)||decide (c.dim>8)
def aO (c:Cl):Bool:=(decide (c.dim=0)&&decide ((c.sides.length:Int)>0))||(decide (c.dim=1)&&decide ((c.sides.length:Int)≠2))||(decide (c.dim>1)&&(decide ((c.sides.length:Int)<2)||decide ((c.sides.length:Int)>64)))
def cw (tl:List Cl)(c:Cl)(i:Nat)(x:ak):Bool:=!(ah tl x.cell).isSome||decide (((ah tl x.cell).getD aH).dim≠c.dim - 1)||(decide (i>0)&&decide ((c.sides[i - 1]?.map ak.cell)=some x.cell))
section
variable {tl:List Cl}{c p:Cl}{i:Nat}{x:ak}
theorem oW (h:¬ (ah tl x.cell).isSome=true):cw tl c i x=true:=by
 have:(ah tl x.cell).isSome=false:=by simpa using h
 simp[cw,this]
theorem uQ (h:(ah tl x.cell).isSome=true)(a:((ah tl x.cell).getD aH).dim≠c.dim - 1):cw tl c i x=true:=by
 simp only[cw,h,a,Bool.not_true,Bool.false_or,ne_eq,not_false_eq_true,decide_true,Bool.true_or]
theorem uP (h:(ah tl x.cell).isSome=true)(a:¬ ((ah tl x.cell).getD aH).dim≠c.dim - 1)(d:¬ (i:Int)>0):cw tl c i x=false:=by
 have b:¬ i>0:=oM;simp only[cw,h,a,b,Bool.not_true,Bool.false_or,decide_false,Bool.false_and]
theorem uO {q:ak}(h:(ah tl x.cell).isSome=true)(a:¬ ((ah tl x.cell).getD aH).dim≠c.dim - 1)(e:(i:Int)>0)(b:c.sides[i - 1]?=some q):cw tl c i x=decide (q.cell=x.cell):=by
 have d:i>0:=oM;simp only[cw,h,a,d,b,Bool.not_true,Bool.false_or,decide_false,decide_true,Bool.true_and,Option.map_some,zg9]
end
def jg (tl:List Cl)(c:Cl)(i:Nat):Bool:=match c.sides[i]? with
 | some x=>cw tl c i x
 | none=>false
def bV (x:ak):Bool:=decide (x.sign≠1)&&decide (x.sign ≠ -1)
theorem t8 {x:ak}(h:x.sign≠1):bV x=decide (x.sign ≠ -1):=by simp[bV,h]
theorem t7 {x:ak}(h:¬ x.sign≠1):bV x=false:=by simp[bV,h]
def nf (l:List ak):Int:=(l.map ak.sign).sum
def cQ (tl:List Cl)(c:Cl):Int :=
 if fQ c then 21 else if aO c then 22 else if (List.range c.sides.length).any (jg tl c) then 22 else if c.sides.any bV then 23 else if (decide (c.dim=1)&&decide (nf c.sides≠0)) then 23 else 0
theorem zu {l:List ak}(h:l.any bV=false):nf l≤l.length ∧ -(l.length:Int)≤nf l:=by
 induction l with
 | nil=>simp[nf]
 | cons x t ih =>
  simp only[List.any_cons,Bool.or_eq_false_iff] at h;have:=ih h.2;have b:x.sign=1∨x.sign = -1:=by
   have a:=h.1;simp only[bV,Bool.and_eq_false_iff,decide_eq_false_iff_not,ne_eq,Decidable.not_not] at a;exact a
  simp only[nf,zg6,List.sum_cons,zf1] at this ⊢;omega
theorem Cq (E:World)(g:PH)(s:Own)(v:Value)(tl:List Cl)(c:Cl)(r:Rc)(hv:Tab g v tl)(hc:an g c r)(hl:c.sides.length<1099511627776) :
  Ctr Tryz.prog E 54 #[v,rcv r] g s (fun r g' s'=>r=vi (cQ tl c)∧g=g'∧s=s'):=by
 obtain ⟨b,mt,iv,rs,rfl,hb,hm,hI,Q⟩:=hv;obtain ⟨ri,rd,rp,rn,a⟩:=r;have l:SlA encSide g (.slice rp rn a) c.sides:=hc.2.2;have X:rn=c.sides.length:=zc2 l;have Y:rd=c.dim:=hc.2.1;subst X Y;have R:=fun h=>l.based h;refine zb2 (args:=[pp b 0,rcv ⟨ri,c.dim,rp,c.sides.length,a⟩]) func54 I ntmps54 (bE I)<|rZ (bW (bO I) fun b3=>?_);refine aT I<|rZ<|lU (fA ao I aM I)<|SL.K (qL br I<|cO 0 I I)<|lU (eN be I)<|aT I<|sQ<|bK<|SC.cutB 16 (fQ c) ?_ ?_
 ·refine rG<|lU (fA ao I zT3 I)<|SL.K (qL iT3 I<|cO 0 I I)<|yL I<|lM I<|sP ?_ ?_
  ·intro Z;exact yA I<|yA I<|yA I<|yP I<|lA I<|SL.nil<|zb1 (by simp_all[aN,fQ] <;> omega) mI
  ·intro Z;exact lY I I I (fA ao I zT3 I)<|SL.gq (gT I I I dC) (qL iT3 I<|cO 0 I I) dC<|lY I I I (gR I I)<|yF I<|lA I<|SL.nil<|zb1 (by simp_all[aN,fQ] <;> omega) mI
 refine iQ I (fun e=>?_) (fun e=>?_)
 ·exact rZ<|aT I<|rE<|bR<|tR<|dR (s':=s) uR<|za8 (.inl I) results54 I ⟨by unfold cQ; rw[zg3 e],I,I⟩
 ·have b1:0≤c.dim∧c.dim≤8:=by simp[fQ] at e; omega
  refine SC.cutB 25 (aO c) ?_ ?_
  ·refine rG<|lU (fA ao I zT3 I)<|SL.K (qL iT3 I<|cO 0 I I)<|yE I<|lM I<|sP ?_ ?_
   ·intro a0;refine yC I<|lY I I I (gR I I)<|yP I<|lM I<|sP ?_ ?_
    ·intro a1;exact yA I<|yA I<|yA I<|yA I<|yB I<|yB I<|yA I<|yP I<|lM I<|yA I<|yA I<|yA I<|yA I<|yB I<|yB I<|yB I<|yB I<|yB I<|yB I<|yA I<|yP I<|lA I<|SL.nil<|zb1 (by simp_all[aN,aO] <;> omega) mI
    ·intro a1;refine lY I I I (fA ao I zT3 I)<|SL.gq (gT I I I dC) (qL iT3 I<|cO 0 I I) dC<|lY I I I (eQ I I)<|yC I<|sP ?_ ?_
     ·intro J;refine yC I<|lY I I I (nQ I I)<|lY I I I (wT I I)<|yF I<|lM I<|sP ?_ ?_
      ·intro L;exact yA I<|yA I<|yA I<|yA I<|yB I<|yB I<|yB I<|yB I<|yB I<|yB I<|yA I<|yP I<|lA I<|SL.nil<|zb1 (by simp_all[aN,aO] <;> omega) mI
      ·intro L;refine lY I I I (fA ao I zT3 I)<|SL.gq (gT I I I dC) (qL iT3 I<|cO 0 I I) dC<|lY I I I (gR I I)<|yC I<|sP ?_ ?_
       ·intro f;refine yC I<|lY I I I (lS I I)<|yC I<|sP ?_ ?_
        ·intro i;exact yA I<|yA I<|lY I I I (wT I I)<|lY I I I (wT I I)<|yF I<|lA I<|SL.nil<|zb1 (by simp_all[aN,aO] <;> omega) mI
        ·intro i;exact yC I<|lY I I I (gR I I)<|lY I I I (wF I I)<|lY I I I (wT I I)<|yF I<|lA I<|SL.nil<|zb1 (by simp_all[aN,aO] <;> omega) mI
       ·intro f;exact yA I<|yA I<|yA I<|yB I<|yB I<|yA I<|lY I I I (wF I I)<|yF I<|lA I<|SL.nil<|zb1 (by simp_all[aN,aO] <;> omega) mI
     ·intro J;refine yA I<|yA I<|lY I I I (wF I I)<|yF I<|lM I<|lY I I I (fA ao I zT3 I)<|SL.gq (gT I I I dC) (qL iT3 I<|cO 0 I I) dC<|lY I I I (gR I I)<|yC I<|sP ?_ ?_
      ·intro f;refine yC I<|lY I I I (lS I I)<|yC I<|sP ?_ ?_
       ·intro i;exact yA I<|yA I<|lY I I I (wT I I)<|lY I I I (wT I I)<|yF I<|lA I<|SL.nil<|zb1 (by simp_all[aN,aO] <;> omega) mI
       ·intro i;exact yC I<|lY I I I (gR I I)<|lY I I I (wF I I)<|lY I I I (wT I I)<|yF I<|lA I<|SL.nil<|zb1 (by simp_all[aN,aO] <;> omega) mI
      ·intro f;exact yA I<|yA I<|yA I<|yB I<|yB I<|yA I<|lY I I I (wF I I)<|yF I<|lA I<|SL.nil<|zb1 (by simp_all[aN,aO] <;> omega) mI
   ·intro a0;refine yA I<|yA I<|yF I<|lM I<|lY I I I (fA ao I zT3 I)<|SL.gq (gT I I I dC) (qL iT3 I<|cO 0 I I) dC<|lY I I I (eQ I I)<|yC I<|sP ?_ ?_
    ·intro J;refine yC I<|lY I I I (nQ I I)<|lY I I I (wT I I)<|yF I<|lM I<|sP ?_ ?_
     ·intro L;exact yA I<|yA I<|yA I<|yA I<|yB I<|yB I<|yB I<|yB I<|yB I<|yB I<|yA I<|yP I<|lA I<|SL.nil<|zb1 (by simp_all[aN,aO] <;> omega) mI
     ·intro L;refine lY I I I (fA ao I zT3 I)<|SL.gq (gT I I I dC) (qL iT3 I<|cO 0 I I) dC<|lY I I I (gR I I)<|yC I<|sP ?_ ?_
      ·intro f;refine yC I<|lY I I I (lS I I)<|yC I<|sP ?_ ?_
       ·intro i;exact yA I<|yA I<|lY I I I (wT I I)<|lY I I I (wT I I)<|yF I<|lA I<|SL.nil<|zb1 (by simp_all[aN,aO] <;> omega) mI
       ·intro i;exact yC I<|lY I I I (gR I I)<|lY I I I (wF I I)<|lY I I I (wT I I)<|yF I<|lA I<|SL.nil<|zb1 (by simp_all[aN,aO] <;> omega) mI
      ·intro f;exact yA I<|yA I<|yA I<|yB I<|yB I<|yA I<|lY I I I (wF I I)<|yF I<|lA I<|SL.nil<|zb1 (by simp_all[aN,aO] <;> omega) mI
    ·intro J;refine yA I<|yA I<|lY I I I (wF I I)<|yF I<|lM I<|lY I I I (fA ao I zT3 I)<|SL.gq (gT I I I dC) (qL iT3 I<|cO 0 I I) dC<|lY I I I (gR I I)<|yC I<|sP ?_ ?_
     ·intro f;refine yC I<|lY I I I (lS I I)<|yC I<|sP ?_ ?_
      ·intro i;exact yA I<|yA I<|lY I I I (wT I I)<|lY I I I (wT I I)<|yF I<|lA I<|SL.nil<|zb1 (by simp_all[aN,aO] <;> omega) mI
      ·intro i;exact yC I<|lY I I I (gR I I)<|lY I I I (wF I I)<|lY I I I (wT I I)<|yF I<|lA I<|SL.nil<|zb1 (by simp_all[aN,aO] <;> omega) mI
     ·intro f;exact yA I<|yA I<|yA I<|yB I<|yB I<|yA I<|lY I I I (wF I I)<|yF I<|lA I<|SL.nil<|zb1 (by simp_all[aN,aO] <;> omega) mI
  refine iQ I (fun d=>?_) (fun d=>?_)
  ·exact rZ<|aT I<|rE<|bR<|tR<|dR (s':=s) uR<|za8 (.inl I) results54 I ⟨by unfold cQ; rw[zg2 (by simp[e]),zg3 d],I,I⟩
  ·have b0:c.sides.length≤64:=by
    simp[aO] at d
    rcases Int.lt_trichotomy c.dim 1 with h | h | h
    ·have:c.dim=0:=oM;have:=d.1.1 this;simp[this]
    ·have:=d.1.2 h;omega
    ·have:=d.2 h;omega
   refine kP<|bN<|tN<|sQ<|rZ<|lU (fA ao I aM I)<|SL.K (qL br I<|cO 0 I I)<|lU (eN be I)<|lM I<|tZ<|bK<|oP (ι:=Nat) (fun k=>[(0,pp b 0),(3,pp b3 0),(5,vi c.sides.length),(56,.slice rp c.sides.length a),(57,vi c.sides.length),(58,vi k)]) (fun _=>g)
    (fun _=>pt b3 (.cells #[vi ri,vi c.dim,.slice rp c.sides.length a] 56 (0,0))::s) (fun k=>k≤c.sides.length∧(List.range k).any (jg tl c)=false) (fun k=>c.sides.length - k) 0
    sB rfl rfl ⟨zf8 _,by simp⟩ ?_
   rintro k ⟨hk,C⟩;try dsimp only
   refine rZ<|yL I<|tZ<|sQ<|iP I (fun a2=>?_) (fun a2=>?_)
   ·have j:k<c.sides.length:=oM;have M:=R oM;have N:c.sides[((k:Nat):Int).toNat]?=some c.sides[k]:=List.getElem?_eq_getElem j;have S:c.sides[k]?=some c.sides[k]:=List.getElem?_eq_getElem j;generalize c.sides[k]=y at *;obtain ⟨x,a3,a4,a5⟩:=dD Q gW y.cell;obtain ⟨xi,xd,xp,xn,xc⟩:=x;have a9:xd=((ah tl y.cell).getD aH).dim:=a5.2.1;subst a9;have O:(k:Int)>0→c.sides[((k:Int) - 1).toNat]?=some (c.sides.getD (k - 1) y):=fun h=>by
     have h1:((k:Int) - 1).toNat=k - 1:=oM;have T:k - 1<c.sides.length:=oM;rw[h1,List.getElem?_eq_getElem T,zh3,List.getElem?_eq_getElem T];rfl
    have D:(k:Int)>0→c.sides[k - 1]?=some (c.sides.getD (k - 1) y):=fun h=>by
     have T:k - 1<c.sides.length:=oM;rw[List.getElem?_eq_getElem T,zh3,List.getElem?_eq_getElem T];rfl
    refine kP (tN<|sQ<|bK<|sW I<|lU (iA be aY I I M oM sL)<|SL.K (SQ.elemA jn aY I l.rd N)<|bW (aL zm1) fun b7=>?_);refine lA I<|oZ (sK 0 aY I I I I I sB)<|tZ<|sQ<|dW [11,12] [(0,2),(1,2),(2,2),(3,1),(4,2),(5,1),(6,1),(7,2),(8,2),(9,2),(10,0),(11,0),(12,0)] ze5 kR<|yM I<|pU I (nC I)<|pU I (fA kI I jx I)<|pK I (qL jB I<|cK hb I)<|pU I (fA c4 I zT3 I)<|pK I (qL iT3 I<|cO 0 I I)<|pK I (SQ.eq (v':=.tuple #[rcv ⟨xi,((ah tl y.cell).getD aH).dim,xp,xn,xc⟩,vb<|decide ((ah tl y.cell).isSome=true)]) (SQ.lookupOk mty125 I I<|bh.known hm) (by rw[a3,a4,Bool.decide_eq_true]; rfl)) ?_;refine yM I<|pU I (xT I I)<|pU I (xT I I)<|SP.o I (aL zl7) dC (.inr iR) ?_;rintro _ _ _ ⟨b8,rfl,rfl,rfl⟩;refine SP.on I (sK 0 aw I I I I I sB) (.inl dC) ?_;rintro _ _ _ ⟨rfl,rfl⟩;refine oU I (aS I) dC (.inl dC)<|pN<|tN<|SC.cutB 98 (cw tl c k y) ?_ ?_
    ·refine dW [] [(0,2),(1,2),(2,2),(3,2),(4,1),(5,2),(6,1),(7,2),(8,2),(9,2),(10,2),(11,2),(12,2),(13,2),(14,2),(15,1),(16,2),(17,2),(18,2),(19,2),(20,1),(21,2),(22,1),(23,2),(24,2),(25,2)] ze5 kR<|yM I<|pU I (SU.notP I)<|yM I<|SP.split ?_ ?_
     ·intro p;exact yG I<|yI I<|yG I<|yI I<|yG I<|yG I<|pU I (wT I I)<|yM I<|yG I<|yG I<|yG I<|yH I<|SP.off1 I (zb4 I I I dC) dC<|yH I<|yH I<|yH I<|yH I<|SP.off1 I (zb4 I I I dC) dC<|yH I<|SP.off1 I (zb4 I I I dC) dC<|yH I<|yG I<|pU I (wT I I)<|pN<|zb1 (by exact ze4 (fun b=>some<|Value.bool b) (oW p).symm) mI
     ·intro p;refine zb3 I (gT I I I dC) (fA ao I zT3 I) dC<|SP.gq I (gT I I I dC) (qL iT3 I<|cO 0 I I) dC<|zb3 I (gT I I I dC) (fA ao I zT3 I) dC<|SP.gq I (gT I I I dC) (qL iT3 I<|cO 2 I I) dC<|zb3 I (gT I I I dC) (sU I I oM) dC<|zb3 I (gT I I I dC) (nQ I I) dC<|pU I (wF I I)<|yM I<|SP.split ?_ ?_
      ·intro F;exact yG I<|yG I<|yG I<|yH I<|SP.off1 I (zb4 I I I dC) dC<|yH I<|yH I<|yH I<|yH I<|SP.off1 I (zb4 I I I dC) dC<|yH I<|SP.off1 I (zb4 I I I dC) dC<|yH I<|yG I<|pU I (wT I I)<|pN<|zb1 (by exact ze4 (fun b=>some<|Value.bool b) (uQ (zh2 p) F).symm) mI
      ·intro F;refine yJ I<|zb3 I (gT I I I dC) (gR I I) dC<|yJ I<|SP.split ?_ ?_
       ·intro q;refine zb3 I (gT I I I dC) (fA ao I aM I) dC<|SP.gq I (gT I I I dC) (qL br I<|cO 2 I I) dC<|yJ I<|zb3 I (gT I I I dC) (sU I I oM) dC<|zb3 I (gT I I I dC) (iA be aY I I (by assumption) oM<|by (simp[slen]; omega)) dC ?_;refine zb3 I (gT I I I dC) (fC c4 I zT3 I<|by assumption) dC ?_;refine SP.gq I (gT I I I dC) (aZ (o:=0) iT3 I l.rd (O q) I) dC<|zb3 I (gT I I I dC) (fA c4 I zT3 I) dC<|SP.gq I (gT I I I dC) (qL iT3 I<|cO 1 I I) dC<|zb3 I (gT I I I dC) (eQ I I) dC<|zb3 I (gT I I I dC) (wT I I) dC<|pU I (wF I I)<|pN ?_;exact zb1 (by exact ze4 (fun b=>some<|Value.bool b) (uO (zh2 p) F q<|D q).symm) mI
       ·intro q;exact yG I<|yI I<|yG I<|yG I<|yG I<|yG I<|yI I<|yG I<|yI I<|yG I<|zb3 I (gT I I I dC) (wF I I) dC<|pU I (wF I I)<|pN<|zb1 (by exact ze4 (fun b=>some<|Value.bool b) (uP (zh2 p) F q).symm) mI
    have H:jg tl c k=cw tl c k y:=by unfold jg; rw[S]
    refine iQ I (fun t=>?_) (fun t=>?_)
    ·refine rZ<|aT I<|rE<|bR<|tR<|tR<|bR<|tR<|dR (s':=s) uR ?_;have u:(List.range c.sides.length).any (jg tl c)=true:=zk1.2 ⟨k,List.mem_range.2 j,by rw[H]; exact t⟩;exact za8 (.inl I) results54 I ⟨by unfold cQ; rw[zg2 (by simp[e]),zg2 (by simp[d]),zg3 u],I,I⟩
    ·exact kP<|bN<|tN<|rG<|yD I<|lM I<|SL.nil<|dR (s':=pt b3 (.cells #[vi ri,vi c.dim,.slice rp c.sides.length a] 56 (0,0))::s) (.cons _<|.cons _<|.refl _)<|ST.again (k+1) sB I I ⟨oM,by rw[List.range_succ,List.any_append,C]; simp[H,t]⟩ oM
   ·refine xI<|tX<|tX<|bX<|tN<|rZ<|aT I<|sQ<|rZ<|lU (fA ao I aM I)<|SL.K (qL br I<|cO 0 I I)<|lU (eN be I)<|lM I<|tZ<|bK ?_;have G:k=c.sides.length:=oM;subst G;refine oP (ι:=Nat) (fun k=>[(3,pp b3 0),(10,vi<|nf<|c.sides.take k),(101,.slice rp c.sides.length a),(102,vi c.sides.length),(103,vi k)]) (fun _=>g)
     (fun _=>pt b3 (.cells #[vi ri,vi c.dim,.slice rp c.sides.length a] 56 (0,0))::s) (fun k=>k≤c.sides.length∧(c.sides.take k).any bV=false) (fun k=>c.sides.length - k) 0
     sB rfl rfl ⟨zf8 _,by simp⟩ ?_
    rintro k ⟨b2,w⟩;try dsimp only
    have b4:=zu w;have b5:(c.sides.take k).length=k:=by simp; omega
    refine rZ<|yL I<|tZ<|sQ<|iP I (fun U=>?_) (fun U=>?_)
    ·have j:k<c.sides.length:=oM;have M:=R oM;have N:c.sides[((k:Nat):Int).toNat]?=some c.sides[k]:=List.getElem?_eq_getElem j;have V:c.sides.take (k+1)=c.sides.take k++[c.sides[k]]:=tS j;have P:c.sides[k]∈c.sides:=gM j;generalize c.sides[k]=y at *;refine kP (tN<|sQ<|bK<|rZ<|lU (iA be aY I I M oM sL)<|SL.K (SQ.elemA jn aY I l.rd N)<|bW (aL zm1) fun b6=>?_);refine oZ (sK 0 aY I I I I I sB)<|tZ<|sQ<|SC.cutB 114 (bV y) ?_ ?_
     ·refine rG<|lU (fA c4 I zT3 I)<|SL.K (qL iT3 I<|cO 0 I I)<|lU (nQ I I)<|lM I<|sP ?_ ?_
      ·intro z;exact lY I I I (fA c4 I zT3 I)<|SL.gq (gT I I I dC) (qL iT3 I<|cO 0 I I) dC<|lY I I I (nQ I I)<|yP I<|SL.nil<|zb1 (by exact ze4 (fun b=>some<|Value.bool b) (t8 z).symm) mI
      ·intro z;exact yA I<|yA I<|yA I<|yF I<|SL.nil<|zb1 (by exact ze4 (fun b=>some<|Value.bool b) (t7 z).symm) mI
     refine iQ I (fun A=>?_) (fun A=>?_)
     ·refine rZ<|aT I<|rE<|tR<|bR<|tR<|tR<|bR<|tR<|dR (s':=s) uR ?_;have u:c.sides.any bV=true:=zk1.2 ⟨y,P,A⟩;exact za8 (.inl I) results54 I ⟨by unfold cQ; rw[zg2 (by simp[e]),zg2 (by simp[d]),zg2 (by simp[C]),zg3 u],I,I⟩
     ·have b9:y.sign=1∨y.sign = -1:=by
       simp only[bV,Bool.and_eq_false_iff,decide_eq_false_iff_not,ne_eq,Decidable.not_not] at A;exact A
      exact kP<|tN<|rG<|lM I<|lU (fA c4 I zT3 I)<|SL.K (qL iT3 I<|cO 0 I I)<|lU (aD (m:=nf<|c.sides.take k) (n:=y.sign) I I oM)<|lA I<|SL.nil<|bN<|tN<|rG<|yD I<|lM I<|SL.nil<|dR (s':=pt b3 (.cells #[vi ri,vi c.dim,.slice rp c.sides.length a] 56 (0,0))::s) (.cons _<|.refl _)<|ST.again (k+1) ⟨I,Gf I (by rw[V]; simp[nf]),I,I,I,trivial⟩ I I ⟨oM,by rw[V,List.any_append,w]; simp[A]⟩ oM
    ·have G:c.sides.take k=c.sides:=tL oM;rw[G] at w;rw[G];refine xI<|tX<|tX<|bX<|tN<|sQ<|SC.cutB 126 ((decide (c.dim=1)&&decide (nf c.sides≠0))) ?_ ?_
     ·refine rG<|lU (fA ao I zT3 I)<|SL.K (qL iT3 I<|cO 0 I I)<|yE I<|lM I<|sP ?_ ?_
      ·intro W;exact yC I<|lY I I I (nQ I I)<|yP I<|SL.nil<|zb1 (by simp_all[aN]) mI
      ·intro W;exact yA I<|yA I<|yF I<|SL.nil<|zb1 (by simp_all[aN]) mI
     refine iQ I (fun B=>?_) (fun B=>?_)
     ·exact rZ<|aT I<|rE<|tR<|dR (s':=s) uR<|za8 (.inl I) results54 I ⟨by unfold cQ; rw[zg2 (by simp[e]),zg2 (by simp[d]),zg2 (by simp[C]),zg2 (by simp[w]),zg3 B],I,I⟩
     ·exact kP<|tN<|rZ<|aT I<|rE<|dR (s':=s) uR<|za8 (.inl I) results54 I ⟨by unfold cQ; rw[zg2 (by simp[e]),zg2 (by simp[d]),zg2 (by simp[C]),zg2 (by simp[w]),zg2 (by rw[B]; simp)],I,I⟩
theorem Tryz.mty167:MTy Tryz.prog 167 3 3 (vi 0):=⟨underlying167,underlying3,zm4⟩
theorem Tryz.mty168:MTy Tryz.prog 168 3 52 (.slice none 0 0):=⟨underlying168,underlying3,zeroValue52⟩
abbrev Ms:=List (Int×Value×List Int)
def fX (ms:Ms):Own:=ms.map fun t=>rowA encInt 3 t.2.1 t.2.2
def jE (ms:Ms):List (Int×Value):=ms.map fun t=>(t.1,t.2.1)
def ib (ms:Ms):List (Int×List Int):=ms.map fun t=>(t.1,t.2.2)
def gJ:List (Int×List Int)→Int→Int→List (Int×List Int)
 | [],k,x=>[(k,[x])]
 | (a,l)::r,k,x=>if k=a then (a,l++[x])::r else (a,l)::gJ r k x
def fx:List (Int×Int)→Int→Int→List (Int×Int)
 | [],k,x=>[(k,x)]
 | (a,z)::r,k,x=>if k=a then (a,z+x)::r else (a,z)::fx r k x
def eO:List (Int×Int)→Int→Int
 | [],_=>0
 | (a,z)::r,k=>if k=a then z else eO r k
def fZ (zl:List (Int×Int)):List (Int×Value):=zl.map fun p=>(p.1,vi p.2)
theorem lB (zl:List (Int×Int))(k:Int):(ex (fZ zl) k).getD (vi 0)=vi (eO zl k):=by
 induction zl with
 | nil=>rfl
 | cons p r ih =>
  obtain ⟨a,z⟩:=p;simp only[fZ,zg6,cZ,eO] at ih ⊢;split
  ·rfl
  ·exact ih
theorem s8 (zl:List (Int×Int))(k x:Int):gr (fZ zl) k (vi<|eO zl k+x)=fZ (fx zl k x):=by
 induction zl with
 | nil=>simp[fZ,gr,fx,eO]
 | cons p r ih =>
  obtain ⟨a,z⟩:=p;simp only[fZ,zg6,gr,eO,fx] at ih ⊢;split
  ·rename_i h; subst h; rfl
  ·simp only[zg6,ih]
theorem mZ {zl:List (Int×Int)}{B:Int}(hB:0≤B)(h:∀ p∈zl,-B≤p.2∧p.2≤B)(k:Int) : -B≤eO zl k∧eO zl k≤B:=by
 induction zl with
 | nil=>simp only[eO]; omega
 | cons p r ih =>
  obtain ⟨a,z⟩:=p;simp only[eO];split
  ·exact h (a,z) (by simp)
  ·exact ih fun q b=>h q (by simp[b])
theorem nb {zl:List (Int×Int)}{B:Int}(hB:0≤B)(h:∀ p∈zl,-B≤p.2∧p.2≤B)(k:Int){x:Int}(e : -1≤x∧x≤1):∀ p∈fx zl k x,-(B+1)≤p.2∧p.2≤B+1:=by
 induction zl with
 | nil =>
  intro p b;simp only[fx,zh9] at b;subst b;dsimp only;omega
 | cons q r ih =>
  obtain ⟨a,z⟩:=q;intro p b;simp only[fx] at b;have c:=h (a,z) (by simp);dsimp only at c;split at b
  ·rcases zf3.1 b with rfl | b
   ·dsimp only; omega
   ·have:=h p (by simp[b]); omega
  ·rcases zf3.1 b with rfl | b
   ·dsimp only; omega
   ·exact ih (fun q d=>h q<|by simp[d]) p b
theorem Gu (ms:Ms)(k:Int):∃ (b:Ms) (j:Nat) (v:Value) (l:List Int),b[j]?=some (k,v,l)∧(ex (jE ms) k).getD (.slice none 0 0)=v∧(∀ v' x,gr (jE ms) k v'=jE (b.set j (k,v',l++[x]))) ∧
  (∀ v' x,ib (b.set j (k,v',l++[x]))=gJ (ib ms) k x)∧(∀ B,(∀ t∈ms,t.2.2.length≤B)→∀ t∈b,t.2.2.length≤B)∧∀ E g (hd s:Own) w,At E g (hd++(fX ms++s)) w→At E g (hd++(fX b++s)) w:=by
 induction ms with
 | nil =>
  refine⟨[(k,.slice none 0 0,[])],0,.slice none 0 0,[],I,I,fun v' x=>I,fun v' x=>by simp[ib,gJ],fun B _ t c=>by simp at c; subst c; simp,fun E g hd s w h=>?_⟩;have e:=h.nilRow 3 1;refine e.perm ?_;simp only[fX,List.map_nil,List.nil_append,zg6,List.singleton_append];exact List.perm_middle.symm
 | cons p r ih =>
  obtain ⟨a,u,l0⟩:=p;by_cases d:k=a
  ·subst d;refine⟨(k,u,l0)::r,0,u,l0,I,by simp[jE,cZ],fun v' x=>by simp[jE,gr],fun v' x=>by simp[ib,gJ],fun B h=>h,fun E g hd s w h=>h⟩
  ·obtain ⟨b,j,v,l,e,f,i,m,n,o⟩:=ih;refine⟨(a,u,l0)::b,j+1,v,l,by simpa using e,?_,fun v' x=>?_,fun v' x=>?_,fun B h t c=>?_,fun E g hd s w h=>?_⟩
   ·rw[← f];simp[jE,cZ,d]
   ·have:=i v' x;simp only[jE,zg6,gr,List.set_cons_succ] at this ⊢;rw[zg2 d,this]
   ·have:=m v' x;simp only[ib,zg6,gJ,List.set_cons_succ] at this ⊢;rw[zg2 d,this]
   ·rcases zf3.1 c with rfl | c
    ·exact h _ (by simp)
    ·exact n B (fun t c=>h t<|by simp[c]) t c
   ·have:=o E g (hd++[rowA encInt 3 u l0]) s w (by simpa [fX] using h);simpa [fX] using this
theorem SC.to {P:Program}{N:Nat}{E:World}{c:Code}{Q:Exit→Act→World→Prop}{f:Fr}{g g':PH}{s s':Own}(h:∀ w,At E g s w→At E g' s' w)(b:SC P N E c Q f g' s'):SC P N E c Q f g s:=fun a w d e=>b a w d (h w e)
theorem ST.to {N:Nat}{E:World}{e:Exit}{Q:Exit→Act→World→Prop}{f:Fr}{g g':PH}{s s':Own}(h:∀ w,At E g s w→At E g' s' w)(b:ST N E Q e f g' s'):ST N E Q e f g s:=fun a w c d=>b a w c (h w d)
theorem SL.to {P:Program}{N:Nat}{E:World}{ops:Array Oper}{l:List Oper}{Q:Exit→Act→World→Prop}{f:Fr}{g g':PH}{s s':Own}(h:∀ w,At E g s w→At E g' s' w)(b:SL P N E ops Q l f g' s'):SL P N E ops Q l f g s:=fun a w c d=>b a w c (h w d)
theorem j6 {α:Type}(s:List α)(n j:Nat)(x:α):(s.take n).Sublist (s.set (j+n) x):=by
 rw[show s.take n=(s.set (j+n) x).take n by rw[List.take_set_of_le oM]];exact List.take_sublist _ _
theorem SC.drawT {P:Program}{N:Nat}{E:World}{ops:Array Oper}{Q:Exit→Act→World→Prop}{f:Fr}{g:PH}{s:Own}{id:Nat}(n:Nat)(tail:List Nat)(plan:List (Nat×Nat))(hm:P.follows .mixedOrders=true)(b:wm ops tail plan=true)
  (h:SP P N E ops Q g (s.take n) tail plan f g s):SC P N E (.region id ops true) Q f g s:=by
 intro a w d c;unfold wm at b;simp only[zj5,beq_iff_eq] at b;refine wp_region_any hm<|iV _ _ _ _ (S:=At E g<|s.take n) (tail:=tail) ?_;have:=h (Array.replicate ops.size false) a { w with drawn:=w.drawn+1 } b.1.1 (jp _) b.2 d (c.drew _<|Nat.le_succ _) (fun _=>(c.sublist<|List.take_sublist n s).drew _<|Nat.le_succ _);rw[b.1.2] at this;exact this
theorem sw {ms:Ms}{j:Nat}{k:Int}{v:Value}{l:List Int}(h:ms[j]?=some (k,v,l))(s:Own):(fX ms++s)[j]?=some (rowA encInt 3 v l):=by
 have a:=(zf7.1 h).1;rw[zh4 (by simpa [fX] using a)];simp[fX,h]
theorem su {ms:Ms}{j:Nat}{k:Int}{v v':Value}{l l':List Int}(h:ms[j]?=some (k,v,l))(s:Own):(fX ms++s).set j (rowA encInt 3 v' l')=fX (ms.set j (k,v',l'))++s:=by
 have a:=(zf7.1 h).1;rw[List.set_append_left _ _ (by simpa [fX] using a)];simp[fX,List.map_set]
theorem freezeRows {E:World}{w:World}:∀ (ms:Ms) (g:PH) (s:Own),At E g (fX ms++s) w→∃ g',Le g g'∧At E g' s w∧∀ t∈ms,dp g' t.2.1 t.2.2
 | [],g,s,h=>⟨g,zb9 g,h,by simp⟩
 | (a,v,l)::r,g,s,h=>by
  have e:At E g (row 3 1 v l.length (l.flatMap encInt.enc)::(fX r++s)) w:=h;obtain ⟨g1,c,f,i⟩:=e.freezeRow;obtain ⟨g2,b,j,k⟩:=freezeRows r g1 s f;refine⟨g2,c.trans b,j,fun t d=>?_⟩
  rcases zf3.1 d with rfl | d
  ·exact Sl.mono i b
  ·exact k t d
theorem SC.freezeRows {P:Program}{N:Nat}{E:World}{c:Code}{Q:Exit→Act→World→Prop}{f:Fr}{g:PH}{s:Own}{ms:Ms}(h:∀ g',Le g g'→(∀ t∈ms,dp g' t.2.1 t.2.2)→SC P N E c Q f g' s):SC P N E c Q f g (fX ms++s):=fun a w b d=>by
 obtain ⟨g',e,i,j⟩:=Go.Proofs.YtbbppeihhkhkcaaGreatDoor.freezeRows ms g s d;exact h g' e j a w b i
def dfs (adj:Int→Option (List Int)):Nat→Int→List Int→List Int
 | 0,_,vis=>vis
 | n+1,id,vis =>
  match adj id with
  | none=>vis
  | some l=>if vis.contains id then vis else l.foldl (fun v x=>dfs adj n x v) (vis++[id])
theorem jX (adj:Int→Option (List Int))(n:Nat)(id:Int)(vis:List Int):dfs adj (n+1) id vis=(match adj id with
  | none=>vis
  | some l=>if vis.contains id then vis else l.foldl (fun v x=>dfs adj n x v) (vis++[id])):=rfl
theorem rY (adj:Int→Option (List Int)):∀ (n:Nat) (id:Int) (vis:List Int) (x:Int),x∈vis→x∈dfs adj n id vis
 | 0,_,_,_,h=>h
 | n+1,id,vis,x,h=>by
  unfold dfs;split
  ·exact h
  ·split
   ·exact h
   ·have:∀ (l:List Int) (v:List Int),x∈v→x∈l.foldl (fun v y=>dfs adj n y v) v:=by
     intro l;induction l with
     | nil=>intro v a; exact a
     | cons y t ih=>intro v a; exact ih _<|rY adj n y v x a
    exact this _ _ (by simp[h])
def fj:List (Int×List Int)→Int→List Int
 | [],_=>[]
 | (a,l)::r,k=>if k=a then l else fj r k
def CZ (jl:List (Int×List Int))(k:Int):Bool:=jl.any fun p=>decide (p.1=k)
theorem us {jl:List (Int×List Int)}{k:Int}(h:CZ jl k=false):fj jl k=[]:=by
 induction jl with
 | nil=>rfl
 | cons p r ih =>
  obtain ⟨a,l⟩:=p;simp only[CZ,List.any_cons,Bool.or_eq_false_iff,decide_eq_false_iff_not] at h;simp only[fj];rw[zg2 (fun e=>h.1 e.symm)];exact ih h.2
def nZ (jl:List (Int×List Int))(vis:List Int):Nat:=(jl.filter fun p=>!vis.contains p.1).length
theorem jL {tl:List (Int×List Int)}{v v':List Int}(h:∀ x∈v,x∈v'):nZ tl v'≤nZ tl v:=by
 unfold nZ;rw[← List.countP_eq_length_filter,← List.countP_eq_length_filter];apply List.countP_mono_left;intro c _ a;simp at a ⊢;exact fun e=>a<|h _ e
theorem Bk {tl:List (Int×List Int)}{v:List Int}{k:Int}(a:CZ tl k=true)(hn:v.contains k=false):nZ tl (v++[k])<nZ tl v:=by
 induction tl with
 | nil=>simp[CZ] at a
 | cons d t ih =>
  have hm:nZ t (v++[k])≤nZ t v:=jL (fun x f=>by simp[f]);have e1:∀ u:List Int,nZ (d::t) u=(if u.contains d.1 then 0 else 1)+nZ t u:=fun u=>by
   unfold nZ;rw[zi9];cases u.contains d.1 <;> simp <;> omega
  rw[e1,e1];simp only[CZ,List.any_cons,zj6,zj7] at a
  rcases a with rfl | b
  ·have:(v++[d.1]).contains d.1=true:=by simp
   rw[this,hn];simp;omega
  ·have:=ih b;cases c:v.contains d.1
   ·cases e:(v++[k]).contains d.1 <;> simp <;> omega
   ·have e:(v++[k]).contains d.1=true:=by simp at c ⊢; exact .inl c
    rw[e];simp;exact this
theorem Cc {g:PH}(js:Ms)(h:∀ t∈js,dp g t.2.1 t.2.2)(k:Int):∃ v,(ex (jE js) k).getD (.slice none 0 0)=v∧dp g v (fj (ib js) k):=by
 induction js with
 | nil=>exact⟨_,rfl,zc1 g _⟩
 | cons p r ih =>
  obtain ⟨a,u,l⟩:=p;by_cases b:k=a
  ·subst b;exact⟨u,by simp[jE,cZ],by simpa [ib,fj] using h (k,u,l) (by simp)⟩
  ·obtain ⟨v,c,d⟩:=ih fun t e=>h t (by simp[e]);exact⟨v,by simpa [jE,cZ,b] using c,by simpa [ib,fj,b] using d⟩
def j4 (jl:List (Int×List Int))(i:Int):Option (List Int):=some (fj jl i)
theorem zj (E:World)(g:PH)(bs bj bf m mj:Nat)(js:Ms)(T:Mp g mj (jE js))(A:∀ t∈js,dp g t.2.1 t.2.2)(k:∀ t∈js,t.2.2.length<1099511627776)(P:g bs=some (.cells #[.map<|some m] 143 (0,0)))(U:g bj=some (.cells #[.map<|some mj] 168 (0,0)))
  (V:g bf=some (.cells #[.func (.func 121) #[] #[pp bs 0,pp bj 0,pp bf 0]] 169 (0,0))):∀ (n:Nat) (id:Int) (vis:List Int) (s:Own) (i:Nat),nZ (ib js) vis<n→s[i]?=some (mp m<|iu vis) →
  Ctr Tryz.prog E 121 #[vi id,pp bs 0,pp bj 0,pp bf 0] g s (fun _ g' s'=>g=g'∧s'=s.set i (mp m<|iu<|dfs (j4<|ib js) n id vis)):=by
 intro n;induction n with
 | zero=>intro id vis s i h; omega
 | succ n ih =>
 intro id vis s i Q z;obtain ⟨v,B,b⟩:=Cc js A id;have C:(fj (ib js) id).length<1099511627776:=by
  have:∀ q:Ms,(∀ t∈q,t.2.2.length<1099511627776)→(fj (ib q) id).length<1099511627776:=by
   intro q R;induction q with
   | nil=>simp[ib,fj]
   | cons p r ihq =>
    obtain ⟨a,u,l⟩:=p;simp only[ib,zg6,fj];split
    ·exact R (a,u,l) (by simp)
    ·exact ihq fun t W=>R t (by simp[W])
  exact this js k
 generalize D:fj (ib js) id=L at b C;obtain ⟨p,cp,rfl⟩:=za4 b;refine zb2 (args:=[vi id,pp bs 0,pp bj 0,pp bf 0]) func121 I ntmps121 (bE I)<|rZ<|SL.K (qL isAgg143 I<|cK P I)<|lM I<|SL.K (SQ.eq (v':=vb<|vis.contains id) (SQ.lookup mty143 I I<|bh.own i z)<|(xQ vis).get id)<|lU (SU.not I)<|tZ<|iQ I (fun F=>?_) (fun F=>?_)
 ·have e:vis.contains id=false:=by simpa using F
  refine rZ<|SL.K (qL isAgg143 I<|cK P I)<|lM I<|lO (SO.mapUpdate i mty143 I I I z) ?_;rintro _ _ _ ⟨rfl,rfl⟩;rw[sn e];refine tZ<|rZ<|SL.K (qL isAgg168 I<|cK U I)<|lM I<|SL.K (SQ.eq (SQ.lookup mty168 I I<|bh.known T) B)<|lU (eN az I)<|lM I<|tZ<|bK<|oP (ι:=Nat×List Int) (fun q=>[(3,pp bf 0),(15,.slice p L.length cp),(16,vi L.length),(17,vi q.1)]) (fun _=>g)
   (fun q=>s.set i<|mp m<|iu q.2) (fun q=>q.1≤L.length∧q.2=(L.take q.1).foldl (fun v x=>dfs (j4<|ib js) n x v) (vis++[id])∧(0<L.length→nZ (ib js) q.2<n)) (fun q=>L.length - q.1)
   (0,vis++[id]) sB rfl rfl ⟨zf8 _,by simp,fun d=>?_⟩ ?_
  ·cases S:CZ (ib js) id with
   | false =>
    rw[us S] at D;rw[← D] at d;simp at d
   | true =>
    have:=Bk S e;dsimp only;omega
  rintro ⟨j,vj⟩ ⟨G,c,f⟩;dsimp only at G c f ⊢;refine rZ<|yL I<|tZ<|sQ<|iP I (fun H=>?_) (fun H=>?_)
  ·have o:j<L.length:=oM;have J:=za6 b oM;have M:L[((j:Nat):Int).toNat]?=some L[j]:=List.getElem?_eq_getElem o;have w:L[j]?=some L[j]:=List.getElem?_eq_getElem o;generalize L[j]=y at *;refine kP (tN (sQ (bK (rZ (lU (iA az zT3 I I J oM sL) (SL.K (eB iT3 I (za7 b) M I) (aT I (rG (SL.K (qL isAgg169 I (cK V I)) (lM I (lW (SO.callV I I (cz.mk (cap:=[pp bs 0,pp bj 0,pp bf 0]) call121 (ih y vj _ i (f oM) (Bg z _)))) ?_)))))))))));rintro _ _ _ ⟨rfl,rfl⟩;refine SL.nil (bN (tN (rG (yD I (lM I (SL.nil ?_))))));exact ST.again (j+1,dfs (j4 (ib js)) n y vj) sB I (by rw[List.set_set]) ⟨lN,by
    rw[gi w,zj2,← c]; rfl,fun h=>Nat.lt_of_le_of_lt (jL fun x X=>rY _ n _ _ x X) (f h)⟩ lN
  ·refine xI<|tX<|tX<|bX ?_;have N:L.take j=L:=tL oM;have hr:dfs (j4<|ib js) (n+1) id vis=vj:=by
    rw[N] at c;rw[c,jX];simp only[j4,D,e,Bool.false_eq_true,if_false]
   exact ST.ret0 (.inr I) results121 ⟨I,by rw[hr]⟩
 ·refine kP ?_;have O:vis.contains id=true:=by simpa using F
  have hr:dfs (j4<|ib js) (n+1) id vis=vis:=by
   rw[jX];simp only[j4,O,if_true]
  exact ST.ret0 (.inr I) results121 ⟨I,by rw[hr,nK z]⟩
inductive Rch (adj:Int→Option (List Int)):Int→Int→Prop
 | refl (a:Int) (h:adj a≠none):Rch adj a a
 | step (a b c:Int) (l:List Int) (h:adj a=some l) (hb:b∈l) (r:Rch adj b c):Rch adj a c
theorem Rch.node {adj:Int→Option (List Int)}{a b:Int}(h:Rch adj a b):adj a≠none:=by
 cases h with
 | refl _ h=>exact h
 | step _ _ _ l h _ _=>rw[h]; simp
theorem oO (adj:Int→Option (List Int)):∀ (n:Nat) (id:Int) (vis:List Int) (x:Int),x∈dfs adj n id vis→x∈vis∨Rch adj id x
 | 0,_,_,_,h=>.inl h
 | n+1,id,vis,x,h=>by
  rw[jX] at h;cases c:adj id with
  | none=>rw[c] at h; exact .inl h
  | some l =>
   rw[c] at h;dsimp only at h;split at h
   ·exact .inl h
   ·have key:∀ (q:List Int) (v:List Int),(∀ y∈q,y∈l)→x∈q.foldl (fun v y=>dfs adj n y v) v→x∈v∨Rch adj id x:=by
     intro q;induction q with
     | nil=>intro v _ d; exact .inl d
     | cons y t ih =>
      intro v e d
      rcases ih _ (fun z hz=>e z<|by simp[hz]) d with b | b
      ·rcases oO adj n y v x b with a | a
       ·exact .inl a
       ·exact .inr<|.step id y x l c (e y<|by simp) a
      ·exact .inr b
    rcases key l _ (fun y f=>f) h with b | b
    ·rcases zf5.1 b with a | a
     ·exact .inl a
     ·simp at a;subst a;exact .inr<|.refl _ (by rw[c]; simp)
    ·exact .inr b
theorem jK (adj:Int→Option (List Int)):∀ (n:Nat) (id:Int) (vis:List Int),vis.Nodup→(dfs adj n id vis).Nodup
 | 0,_,_,h=>h
 | n+1,id,vis,h=>by
  rw[jX];cases adj id with
  | none=>exact h
  | some l =>
   dsimp only;split
   ·exact h
   ·rename_i d;have key:∀ (q:List Int) (v:List Int),v.Nodup→(q.foldl (fun v y=>dfs adj n y v) v).Nodup:=by
     intro q;induction q with
     | nil=>intro v c; exact c
     | cons y t ih=>intro v c; exact ih _<|jK adj n y v c
    refine key l _ ?_;rw[List.nodup_append];refine⟨h,by simp,fun a f b hb e=>d ?_⟩;simp at hb;subst hb;simpa [← e] using f
theorem ku (adj:Int→Option (List Int))(cnt:List Int→Nat)(hm:∀ v v',(∀ x∈v,x∈v')→cnt v'≤cnt v)(p:∀ v k l,adj k=some l→l≠[]→v.contains k=false→cnt (v++[k])<cnt v) :
  ∀ (n:Nat) (id:Int) (vis:List Int),cnt vis<n→(adj id≠none→id∈dfs adj n id vis)∧∀ x∈dfs adj n id vis,x ∉ vis→∀ l,adj x=some l→∀ y∈l,adj y≠none→y∈dfs adj n id vis
 | 0,_,_,h=>absurd h oM
 | n+1,id,vis,A=>by
  rw[jX];cases r:adj id with
  | none=>exact⟨fun h=>absurd rfl h,fun x a hn=>absurd a hn⟩
  | some l =>
   dsimp only;split
   ·rename_i f;exact⟨fun _=>by simpa using f,fun x a hn=>absurd a hn⟩
   ·rename_i f;have g:vis.contains id=false:=by simpa using f
    have key:∀ (q:List Int) (v:List Int),(∀ x∈vis++[id],x∈v)→(∀ x∈v,x ∉ vis++[id]→∀ l,adj x=some l→∀ y∈l,adj y≠none→y∈v)→(q≠[]→cnt v<n) →
      (∀ x∈v,x∈q.foldl (fun v y=>dfs adj n y v) v)∧(∀ y∈q,adj y≠none→y∈q.foldl (fun v y=>dfs adj n y v) v) ∧
      ∀ x∈q.foldl (fun v y=>dfs adj n y v) v,x ∉ vis++[id]→∀ l,adj x=some l→∀ y∈l,adj y≠none→y∈q.foldl (fun v y=>dfs adj n y v) v:=by
     intro q;induction q with
     | nil=>intro v _ m _; exact⟨fun x a=>a,by simp,m⟩
     | cons y t ih =>
      intro v u m w;have i:=w (by simp);obtain ⟨d1,d2⟩:=ku adj cnt hm p n y v i;have b:=rY adj n y v;have o:∀ x∈dfs adj n y v,x ∉ vis++[id]→∀ l,adj x=some l→∀ z∈l,adj z≠none→z∈dfs adj n y v:=by
       intro x a hn l hl z hz c;by_cases d:x∈v
       ·exact b z<|m x d hn l hl z hz c
       ·exact d2 x a d l hl z hz c
      obtain ⟨e1,e2,e3⟩:=ih (dfs adj n y v) (fun x a=>b x<|u x a) o (fun _=>Nat.lt_of_le_of_lt (hm _ _ b) i);simp only[zj1];refine⟨fun x a=>e1 x<|b x a,fun z hz c=>?_,e3⟩
      rcases zf3.1 hz with rfl | hz
      ·exact e1 z<|d1 c
      ·exact e2 z hz c
    obtain ⟨k1,k2,k3⟩:=key l (vis++[id]) (fun x a=>a) (fun x a hn=>absurd a hn) (fun hl=>by have:=p vis id l r hl g; omega);refine⟨fun _=>k1 id (by simp),fun x a hn l' e y s j=>?_⟩;by_cases d:x∈vis++[id]
    ·rcases zf5.1 d with h | h
     ·exact absurd h hn
     ·simp at h;subst h;rw[r] at e;injection e with e
      subst e;exact k2 y s j
    ·exact k3 x a d l' e y s j
theorem vU {adj:Int→Option (List Int)}{cnt:List Int→Nat}(hm:∀ v v',(∀ x∈v,x∈v')→cnt v'≤cnt v)(d:∀ v k l,adj k=some l→l≠[]→v.contains k=false→cnt (v++[k])<cnt v){n:Nat}{id:Int}(e:cnt []<n)(hn:adj id≠none)(x:Int) :
  x∈dfs adj n id []↔Rch adj id x:=by
 obtain ⟨d1,d2⟩:=ku adj cnt hm d n id [] e;refine⟨fun h=>(oO adj n id [] x h).resolve_left (by simp),fun h=>?_⟩;have key:∀ a b,Rch adj a b→a∈dfs adj n id []→b∈dfs adj n id []:=by
  intro a b hr;induction hr with
  | refl a _=>exact fun h=>h
  | step a b c l hl hb r ih=>exact fun h=>ih<|d2 a h (by simp) l hl b hb r.node
 exact key id x h<|d1 hn
theorem Rch.mono {adj adj':Int→Option (List Int)}(h:∀ x l,adj x=some l→∀ y∈l,∃ l',adj' x=some l'∧y∈l')(hn:∀ x,adj x≠none→adj' x≠none){a b:Int}(hr:Rch adj a b):Rch adj' a b:=by
 induction hr with
 | refl a d=>exact .refl a<|hn a d
 | step a b c l hl hb _ ih =>
  obtain ⟨l',d,e⟩:=h a l hl b hb;exact .step a b c l' d e ih
theorem ln (jl:List (Int×List Int)):∀ v k l,j4 jl k=some l→l≠[]→v.contains k=false→nZ jl (v++[k])<nZ jl v:=by
 intro v k l hl a b;refine Bk ?_ b;cases h:CZ jl k with
 | true=>rfl
 | false =>
  rw[j4,us h] at hl;injection hl with hl
  exact absurd hl.symm a
theorem uw (jl:List (Int×List Int))(a b x:Int):fj (gJ jl a b) x=if x=a then fj jl x++[b] else fj jl x:=by
 induction jl with
 | nil=>simp[gJ,fj]
 | cons p r ih =>
  obtain ⟨k,l⟩:=p;simp only[gJ];by_cases h:a=k
  ·subst h;simp only[if_true,fj];split <;> rfl
  ·rw[zg2 h];simp only[fj,ih];by_cases c:x=k
   ·subst c;rw[zg3 rfl,zg3 rfl,zg2 (fun e=>h e.symm)]
   ·rw[zg2 c,zg2 c]
end Go.Proofs.YtbbppeihhkhkcaaGreatDoor
