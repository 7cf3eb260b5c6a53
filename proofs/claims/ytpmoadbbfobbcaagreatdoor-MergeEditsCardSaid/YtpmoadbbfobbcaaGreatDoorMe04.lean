/- 4 -/
import Derived.Test.YtpmoadbbfobbcaaGreatDoorMe03
import Derived.Shelf.Sort.Plain
import Derived.Shelf.Slices.In.SortNone
import Derived.Sort.OwnSortedInts
set_option linter.unusedSimpArgs false
set_option linter.unusedVariables false
namespace Go.Sy
open Go
def mns (g' g:PH):PH:=fun b=>match g b with | none=>g' b | some _=>none
variable {g g':PH}{E:World}
theorem tM {b:Nat}(h:g b=none):mns g' g b=g' b:=by simp only[mns,h]
theorem tK {b:Nat}{o:Obj}(h:mns g' g b=some o):g b=none∧g' b=some o:=by
 unfold mns at h;split at h
 ·rename_i e;exact⟨e,h⟩
 ·cases h
theorem fN (g' g:PH):Le (mns g' g) g':=fun _ _ h=>(tK h).2
theorem iL {a:PH}(h:Le g' a):Le (mns g' g)<|mns a g:=fun b o hb=>by
 obtain ⟨c,d⟩:=tK hb;rw[tM c];exact h _ _ d
theorem kx {g0:PH}(h:Le g0 g):Le (mns g' g)<|mns g' g0:=fun b o hb=>by
 obtain ⟨a,c⟩:=tK hb;have:g0 b=none:=by
  cases d:g0 b with
  | none=>rfl
  | some x=>rw[h _ _ d] at a;cases a
 rw[tM this];exact c
section
variable {α:Type}{k:Nat}{e:Enc α k}{T U:TypeId}{s:Own}{v:Value}{l:List α}
def RK (e:Enc α k)(T:TypeId)(g:PH)(v:Value)(l:List α):Prop:=(∃ p,v = .slice p 0 0∧l=[]) ∨
 ∃ b cap cur,v = .slice (some ⟨b,0,none⟩) l.length (cap+1)∧g b=some (.cells cur T (0,0))∧l.length≤cap+1∧cur.size=(cap+1) * k∧cur.toList.take (l.length * k)=l.flatMap e.enc
theorem RK.mono (h:RK e T g v l)(hl:Le g g'):RK e T g' v l:=by
 rcases h with h | ⟨b,cap,cur,a,c,d⟩
 ·exact .inl h
 ·exact .inr ⟨b,cap,cur,a,hl _ _ c,d⟩
theorem RK.sl (h:RK e T g v l):SlA e g v l:=by
 rcases h with ⟨p,rfl,rfl⟩ | ⟨b,cap,cur,rfl,c,d,i,f⟩
 ·exact⟨p,0,I,⟨by simp,dm _⟩,fun h=>absurd I h⟩
 ·refine⟨_,_,I,⟨e.length l,d⟩,fun _=>⟨b,0,cur,T,(0,0),I,c,fun j x a=>?_⟩⟩;rw[← f,zi2] at a;split at a
  ·simpa using a
  ·cases a
theorem RK.form (h:RK e T g v l):∃ p c,v = .slice p l.length c:=h.sl.form
theorem RK.nil (e:Enc α k)(T:TypeId)(g:PH):RK e T g (.slice none 0 0) []:=.inl ⟨none,rfl,rfl⟩
theorem At.freezeRowK {w:World}(h:At E g (rowA e T v l::s) w):∃ g',Le g g'∧At E g' s w∧RK e T (mns g' g) v l:=by
 obtain ⟨f,j⟩:=ia (i:=0) h rfl
 rcases j with ⟨p,rfl,k⟩ | ⟨b,cap,cur,rfl,hb,c,_,d,a⟩
 ·exact⟨g,zb9 g,h.sublist<|zj2 _ _,.inl ⟨p,I,zf5 k⟩⟩
 ·have m:=h.fresh _ (List.mem_cons_self ..) b rfl;obtain ⟨n,o⟩:=h.freeze (b:=b) rfl hb;exact⟨_,o,n,.inr ⟨b,cap,cur,I,by rw[tM m.1];exact fw _ _ _,c,d,a⟩⟩
variable {P:Program}{N:Nat}{ops:Array Oper}{Q:Exit→Act→World→Prop}{f:Fr}
theorem SL.freezeRowK {o:List Oper}(h:∀ g',Le g g'→RK e T (mns g' g) v l→SL P N E ops Q o f g' s):SL P N E ops Q o f g<|rowA e T v l::s:=fun a w b c=>by
 obtain ⟨g',d,i,j⟩:=c.freezeRowK;exact h g' d j a w b i
end
section
variable {P:Program}{N:Nat}{f:Fr}{s:Own}{dst:Option Tmp}{ty:TypeId}{pos:String}{af:Array Edge}{gd:Option<|Nat×Bool}
end
section
variable {α:Type}{k:Nat}{e:Enc α k}{T U:TypeId}{v:Value}{l:List α}
end
end Go.Sy
namespace Go.Proofs.YtpmoadbbfobbcaaGreatDoor
open _root_.Go.Proofs.Tryz _root_.Go.Proofs.YtpmoadbbfobbcaaGreatDoor.Tryz
open Go Go.Sy Go.Pl Go.Proofs
set_option maxRecDepth 100000
structure Cl where
 id:Int
 dim:Int
 sides:List ak
 deriving DecidableEq
def an (g:PH)(c:Cl)(r:Rc):Prop:=r.id=c.id∧r.dim=c.dim∧SlA encSide g (.slice r.sv.p r.sv.n r.sv.c) c.sides
variable {tl l acc:List Cl}{g':PH}{c:Cl}{v:Value}{f:Fr}{N i j:Nat}{Q:Exit→Act→World→Prop}{P:Program}{k a b id:Int}{s':Own}
theorem an.mono {g:PH}(hl:Le g g'){r:Rc}(h:an g c r):an g' c r:=⟨h.1,h.2.1,h.2.2.mono hl⟩
def ai (g:PH)(v:Value)(l:List Cl):Prop:=∃ rs,SlA encCell g v rs∧ay (an g) l rs
theorem ai.mono {g:PH}(h:ai g v l)(hl:Le g g'):ai g' v l:=by
 obtain ⟨rs,a,b⟩:=h;exact⟨rs,a.mono hl,b.mono fun _ _=>an.mono hl⟩
theorem ai.form {g:PH}(h:ai g v l):∃ p c,v = .slice p l.length c:=by
 obtain ⟨rs,a,b⟩:=h;rw[b.length];exact a.form
def eJ (g:PH)(c:Cl)(r:Rc):Prop:=r.id=c.id∧r.dim=c.dim∧RK encSide 87 g (.slice r.sv.p r.sv.n r.sv.c) c.sides
theorem eJ.mono {g:PH}(hl:Le g g'){r:Rc}(h:eJ g c r):eJ g' c r:=⟨h.1,h.2.1,h.2.2.mono hl⟩
theorem eJ.cr {g:PH}(hl:Le g g'){r:Rc}(h:eJ g c r):an g' c r:=⟨h.1,h.2.1,h.2.2.sl.mono hl⟩
def gr (g:PH)(v:Value)(l:List Cl):Prop:=∃ rs,RK encCell 61 g v rs∧ay (eJ g) l rs
theorem gr.mono {g:PH}(h:gr g v l)(hl:Le g g'):gr g' v l:=by
 obtain ⟨rs,a,b⟩:=h;exact⟨rs,a.mono hl,b.mono fun _ _=>eJ.mono hl⟩
theorem gr.cells {g:PH}(h:gr g v l)(hl:Le g g'):ai g' v l:=by
 obtain ⟨rs,a,b⟩:=h;exact⟨rs,a.sl.mono hl,b.mono fun _ _=>eJ.cr hl⟩
def aM (l:List Cl):Prop:=l.length<1099511627776∧∀ c∈l,c.sides.length<1099511627776
def cH (c:Cl):Cl:=⟨c.id,c.dim,sortBy ak.cell c.sides⟩
def aa (l:List Cl):List Cl:=(sortBy Cl.id l).map cH
theorem Tryz.build29 (x:Value)(h:x.cells = #[x])(w:World):(Instr.build 29 #[(0,x)]).run Tryz.prog w = .ok (.agg #[x]) w:=by
 have hz:(Value.agg #[Value.slice none 0 0]).cells = #[.slice none 0 0]:=rfl;simp[Instr.build,Instr.fill,h,hz]
theorem Gi (x y:ak)(w:World):(binOp .neq 87 (.agg (encSide.enc x).toArray)<|.agg (encSide.enc y).toArray).run Tryz.prog w = .ok (.bool<|decide<|x≠y) w:=by
 have j:Tryz.prog.underlying 87=some (.struct<|Tryz.prog.fieldsOf 87):=by kernel_rfl
 have q:(Tryz.prog.fieldsOf 87).toList=(Tryz.prog.fieldsOf 87).toList:=rfl;rw[run_neq_struct,run_equalIn_agg w 9999 87 _ _ j stoodInHeld87]
 have f : ∃ f1 f2,(Tryz.prog.fieldsOf 87).toList = [f1,f2] ∧ f1.name ≠ "_" ∧ f2.name ≠ "_" ∧ f1.type = 3 ∧ f2.type = 3 ∧ f1.offset = 0 ∧ f2.offset = 1:=⟨_,_,rfl,by decide,by decide,rfl,rfl,rfl,rfl⟩
 obtain ⟨f1,f2,e,k,l,t1,t2,m,n⟩:=f;obtain ⟨a,b⟩:=x;obtain ⟨c,d⟩:=y;rw[e];have o:=run_equalIn_int (P:=Tryz.prog) w 9998 3 .i64 .i64 a c uT3;have p:=run_equalIn_int (P:=Tryz.prog) w 9998 3 .i64 .i64 b d uT3;simp only[Op.eqFields,k,l,t1,t2,m,n,encSide,part,ne_eq,not_false_eq_true,if_true,Sem.run_bind,iT3,zd2];simp[o,p];by_cases g:a=c <;> by_cases i:b=d <;> simp[g,i]
theorem G0 (E:World)(g:PH):Cf E (.func (.func 78) #[] #[]) Rc.id g:=by
 intro g s a b;refine cQ.mk (cap:=[]) call78<|zb2 (args:=[.agg (encCell.enc a).toArray]) func78 I ntmps78 (bE I)<|rZ (bW (bO I) fun c=>?_);exact aT I<|rZ<|lU (bj ap I zT3 I)<|lK (qL iT3 I<|cO 0 I I)<|aT I<|rE<|dR (s':=s) uR<|za8 (.inl I) results78 I ⟨I,I,I⟩
theorem Cy (E:World)(g:PH):Ce E (.func (.func 80) #[] #[]) ak.cell g:=by
 intro g s a b;refine cQ.mk (cap:=[]) call80<|zb2 (args:=[.agg (encSide.enc a).toArray]) func80 I ntmps80 (bE I)<|rZ (bW (bO I) fun c=>?_);exact aT I<|rZ<|lU (bj dh I zT3 I)<|lK (qL iT3 I<|cO 0 I I)<|aT I<|rE<|dR (s':=s) uR<|za8 (.inl I) results80 I ⟨I,I,I⟩
variable (E:World)(g:PH)(s:Own)
theorem pO (v:Value)(l:List Cl)(U:ai g v l)(R:aM l) :
  Ctr Tryz.prog E 24 #[.agg #[v]] g s fun r g' s'=>s=s'∧Le g g'∧∃ u,r = .agg #[u]∧gr (mns g' g) u (aa l):=by
 obtain ⟨rs,F,A⟩:=U;have S:=A.length;have V:=R.1;have B:=ay.sortBy (f:=Cl.id) (h:=Rc.id) (fun a b h=>h.1.symm) A;obtain ⟨p,c,rfl⟩:=za4 F;refine zb2 (args:=[.agg #[.slice p rs.length c]]) func24 I ntmps24 (bE I)<|rZ (bW (bO I) fun W=>?_);refine bW (aL zl9) fun T=>tZ<|rZ<|lU (bj dw I cg I)<|lK (qL ei I<|cO 1 I I)<|lW (bt call77 I<|Ck E g _ _ 78 #[] Rc.id (G0 E g) rs F oM) ?_;rintro r3 _ _ ⟨rfl,rfl⟩;refine zd4 fun ⟨X,C⟩=>?_;obtain ⟨q,d,rfl⟩:=ag (i:=0) C rfl;have L:0<(sortBy Rc.id rs).length→based (.slice q (sortBy Rc.id rs).length d)=true:=fun h=>(by obtain ⟨b0,c0,Y⟩:=bI (i:=0) C rfl h;rw[Y];rfl);clear C X;refine aT I<|sQ<|sW I<|lU (eN aB I)<|lM I<|tZ<|bK ?_;have Z:(sortBy Rc.id rs).length=rs.length:=dF rs;refine oP (ι:=PH×List Rc×List Rc×List Cl×List Cl) (fun i=>[(2,pp T 0),(3,.slice q (sortBy Rc.id rs).length d),(9,vi (sortBy Rc.id rs).length),(10,vi i.2.1.length)]) (fun i=>i.1)
  (fun i=>rowA encCell 61 (.slice q (sortBy Rc.id rs).length d) (i.2.1++i.2.2.1)::pt T (bY #[.slice none 0 0] 29)::pt W (bY #[.slice p rs.length c] 29)::s)
  (fun i=>Le g i.1∧ay (eJ<|mns i.1 g) i.2.2.2.1 i.2.1∧ay (an g) i.2.2.2.2 i.2.2.1∧aa l=i.2.2.2.1++i.2.2.2.2.map cH∧(i.2.1.length+i.2.2.1.length=(sortBy Rc.id rs).length∧∀ x∈i.2.2.2.2,x∈l)) (fun i=>i.2.2.1.length)
  (g,[],sortBy Rc.id rs,[],sortBy Cl.id l) sB rfl rfl ⟨zb9 g,trivial,B,by simp[aa],by simp,fun x hx=>(er l x).1 hx⟩ ?_
 rintro ⟨g1,ds,rest,dl,rl⟩ ⟨k,hd,hr,m,j,n⟩;dsimp only at k hd hr m j n ⊢;have a0:=hr.length;refine rZ<|yL I<|tZ<|sQ<|iP I (fun M=>?_) (fun M=>?_)
 ·cases rest with
  | nil=>simp at j;omega
  | cons x rest =>
  obtain ⟨t,N,G,D,O⟩:=hr.cons_right;subst G;have P:t.sides.length<1099511627776:=R.2 t<|n t dO;simp only[ze9] at j;have H:(ds++x::rest)[((ds.length:Nat):Int).toNat]?=some x:=bV oM;have w:based (.slice q (sortBy Rc.id rs).length d)=true:=L oM;refine kP<|tN<|sQ<|bK<|sW I<|aT I<|rG<|lM I<|lM I<|lM I<|lM I<|lU (iA aB ar I I w oM sL)<|lU (fC ap I aI I w)<|lK (aZ (o:=2) bg I (zb7 0 I) H I)<|lW (bt call79 I<|Cj E g1 _ _ 80 #[] ak.cell (Cy E g1) t.sides (D.2.2.mono k) P) ?_;rintro r20 _ _ ⟨rfl,rfl⟩;refine SL.freezeRowK fun g2 e z=>?_;obtain ⟨J,d2,rfl⟩:=z.form;refine lU (iA aB ar I I w oM sL)<|lU (fC ap I aI I w)<|oZ (JF (o:=2) 0 ⟨x.id,x.dim,J,_,d2⟩ aI I I I H I I dC I)<|cp<|bN<|tN<|rG<|yD I<|lM I<|cp ?_;exact ct (g2,ds++[⟨x.id,x.dim,J,(sortBy ak.cell t.sides).length,d2⟩],rest,dl++[cH t],N) ⟨I,I,I,bP lN,trivial⟩ I (by
    dsimp only;rw[show (ds++x::rest).set ((ds.length:Nat):Int).toNat ⟨x.id,x.dim,J,(sortBy ak.cell t.sides).length,d2⟩=ds++[⟨x.id,x.dim,J,(sortBy ak.cell t.sides).length,d2⟩]++rest by rw[ee oM];simp];rfl) ⟨k.trans e,(hd.mono fun _ _=>eJ.mono<|iL e).append ⟨(by exact⟨D.1,D.2.1,z.mono<|kx k⟩:eJ (mns g2 g) (cH t) ⟨x.id,x.dim,J,(sortBy ak.cell t.sides).length,d2⟩),trivial⟩,O,by rw[m];simp,lN,fun y hy=>n y<|by simp[hy]⟩ lN
 ·have Q:rest=[]:=zf5 oM;subst Q;have K:rl=[]:=hr.nil_right;subst K;refine xI (tX<|tX<|bX<|tN<|rZ<|SL.freezeRowK fun g2 e z=>?_);refine lM I<|lU (za3 I<|build29 _ I)<|oZ (sK 0 ae I I I I I sB)<|tZ<|rE<|kn 0 s (.inl I) results24 I aj ae I I (.cons _<|.cons _<|.refl _) ⟨I,k.trans e,_,I,ds,?_,?_⟩
  ·simpa using z.mono<|kx k
  ·rw[m];simpa using hd.mono fun _ _=>eJ.mono<|iL e
theorem fm (v:Value)(l:List Cl)(a:ai g v l)(b:aM l) :
  Ctr Tryz.prog E 24 #[.agg #[v]] g s (fun r g' s'=>s=s'∧Le g g'∧∃ u,r = .agg #[u]∧ai g' u (aa l)) :=
 (pO E g s v l a b).mono fun _ _ _ ⟨c,d,u,e,f⟩=>⟨c,d,u,e,f.cells<|fN _ _⟩
theorem gL {α:Type}{l m:List α}{k:Nat}(a:k<l.length)(b:k<m.length)(h:l.take k=m.take k)(c:l[k]=m[k]):l.take (k+1)=m.take (k+1):=by
 rw[tS a,tS b,h,c]
theorem iC {α:Type}{l m:List α}(hl:l.length=m.length)(h:l.take l.length=m.take l.length):l=m:=by
 rw[tL<|dm _,tL oM] at h;exact h
theorem SU.neqSide {dst:Option Tmp}{ty:TypeId}{pos:String}{af:Array Edge}{gd:Option<|Nat×Bool}{x y:Operand}{a b:ak}{U:TypeId}(d:ev f x=some (.agg (encSide.enc a).toArray))(e:ev f y=some (.agg (encSide.enc b).toArray)) :
  SU Tryz.prog N ⟨dst,.binOp .neq 87 x y U,ty,pos,af,gd⟩ f<|.bool<|decide<|a≠b:=fun ac w c=>by
 have hg:=run_eqGuard_agg (P:=Tryz.prog) w .neq 87 x y (encSide.enc a).toArray (encSide.enc b).toArray eqGuardType87;simp only[execOp,c.ev d,c.ev e,Sem.run_bind,hg,zd2,Gi];rfl
theorem sO (v u:Value)(l m:List ak)(n:SlA encSide g v l)(o:SlA encSide g u m)(hl:l.length<1099511627776) :
  Ctr Tryz.prog E 91 #[v,u] g s fun r g' s'=>r=vb (decide<|l=m)∧g=g'∧s=s':=by
 obtain ⟨p,c,rfl⟩:=n.form;obtain ⟨q,d,rfl⟩:=o.form;refine zb2 (args:=[.slice p l.length c,.slice q m.length d]) func91 I ntmps91 (bE I)<|rZ<|aT I<|sQ<|sW I<|lU (eN aW I)<|lM I<|lU (eN aW I)<|lU (nQ I I)<|tZ<|iP I (fun a=>?_) (fun a=>?_)
 ·exact rZ<|aT I<|rE<|tR<|za8 (.inl I) results91 I ⟨by have:l≠m:=fun e=>a (by rw[e]);simp[this],I,I⟩
 ·refine kP<|tN<|sQ<|sW I<|lU (eN aW I)<|lM I<|tZ<|bK ?_;have b:l.length=m.length:=oM;refine oP (ι:=Nat) (fun k=>[(0,.slice p l.length c),(1,.slice q m.length d),(12,vi l.length),(13,vi k)]) (fun _=>g) (fun _=>s) (fun k=>k≤l.length∧l.take k=m.take k) (fun k=>l.length - k) 0
   sB rfl rfl ⟨zf7 _,by simp⟩ ?_
  rintro k ⟨z,f⟩;refine rZ<|yL I<|tZ<|sQ<|iP I (fun t=>?_) (fun t=>?_)
  ·have i:k<l.length:=oM;have j:k<m.length:=oM;have w:=n.based oM;have x:=o.based oM;refine kP<|tN<|sQ<|bK<|sW I<|aT I<|sQ<|dW [] [(0,2),(1,2),(2,2),(3,1),(4,2),(5,2),(6,2),(7,1),(8,2)] ze4 kR<|yM I<|yM I<|pU I (iA aW aV I I w oM sL)<|pQ I (iN iV aV I n.rd<|bd i) dC ?_;refine yM I<|yM I<|pU I (iA aW aV I I x oM sL)<|pQ I (iN iV aV I o.rd<|bd j) dC ?_;refine pU I (SU.neqSide I I)<|du<|tN<|iP I (fun hd=>?_) (fun hd=>?_)
   ·exact rZ<|aT I<|rE<|bR<|tR<|tR<|bR<|tR<|za8 (.inl I) results91 I ⟨by have:l≠m:=fun e=>hd (by simp[e]);simp[this],I,I⟩
   ·exact kP<|bN<|tN<|rG<|yD I<|lM I<|cp<|ct (k+1) sB I I ⟨oM,gL i j f<|zh1 hd⟩ oM
  ·refine xI<|tX<|tX<|bX<|tN<|rZ<|aT I<|rE ?_;have y:k=l.length:=oM;subst y;have:l=m:=iC b f;exact za8 (.inl I) results91 I ⟨by simp[this],I,I⟩
theorem BT {x y:Cl}:x=y↔x.id=y.id∧x.dim=y.dim∧x.sides=y.sides:=by
 cases x;cases y;simp
theorem vv (a b:Cl)(c d:Rc)(k:an g a c)(hb:an g b d)(hl:a.sides.length<1099511627776) :
  Ctr Tryz.prog E 37 #[.agg (encCell.enc c).toArray,.agg (encCell.enc d).toArray] g s fun r g' s'=>r=vb (decide<|a=b)∧g=g'∧s=s':=by
 obtain ⟨i1,d1,⟨l,m,c1⟩⟩:=c;obtain ⟨i2,d2,⟨n,o,c2⟩⟩:=d;obtain ⟨rfl,rfl,e⟩:=k;obtain ⟨rfl,rfl,f⟩:=hb;refine zb2 (args:=[.agg (encCell.enc ⟨a.id,a.dim,⟨l,m,c1⟩⟩).toArray,.agg (encCell.enc ⟨b.id,b.dim,⟨n,o,c2⟩⟩).toArray]) func37 I ntmps37 (bE I)<|rZ (bW (bO I) fun p=>?_);refine bW (bO I) fun q=>aT I<|BY 4 (decide<|a=b) ?_ ?_
 ·refine rG<|lU (bj ap I zT3 I)<|lK (qL iT3 I<|cO 1 I I)<|lU (bj ap I zT3 I)<|lK (qL iT3 I<|cO 0 I I)<|yE I<|lM I<|sP ?_ ?_
  ·intro i;refine lY I I I (bj ap I zT3 I)<|lR (gT I I I dC) (qL iT3 I<|cO 1 I I) dC<|lY I I I (bj ap I zT3 I)<|lR (gT I I I dC) (qL iT3 I<|cO 0 I I) dC<|lY I I I (eQ I I)<|yP I<|lM I<|sP ?_ ?_
   ·intro j;refine lY I I I (bj ap I aI I)<|lR (gT I I I dC) (qL bg I<|cO 1 I I) dC<|lY I I I (bj ap I aI I)<|lR (gT I I I dC) (qL bg I<|cO 0 I I) dC<|IQ (gT I I I dC) (bt call91 I<|sO E g _ _ _ a.sides b.sides e f hl) dC ?_;rintro _ _ _ ⟨rfl,rfl,rfl⟩;exact yP I<|lA I<|cp<|zb1 (by simp_all[aU,BT]) mI
   ·intro j;exact yA I<|yA I<|yA I<|yA I<|yA I<|yF I<|lA I<|cp<|zb1 (by simp_all[aU,BT]) mI
  ·intro i;exact yA I<|yA I<|yA I<|yA I<|yA I<|yF I<|lM I<|yA I<|yA I<|yA I<|yA I<|yA I<|yF I<|lA I<|cp<|zb1 (by simp_all[aU,BT]) mI
 exact rE<|dR (s':=s) uR<|za8 (.inl I) results37 I ⟨I,I,I⟩
theorem rP (v u:Value)(l m:List Cl)(J:ai g v l)(K:ai g u m)(hl:aM l) :
  Ctr Tryz.prog E 38 #[v,u,.func (.func 37) #[] #[]] g s fun r g' s'=>r=vb (decide<|l=m)∧g=g'∧s=s':=by
 obtain ⟨rs,a,i⟩:=J;obtain ⟨A,b,j⟩:=K;have B:=i.length;have C:=j.length;have L:=hl.1;obtain ⟨p,c,rfl⟩:=a.form;obtain ⟨q,d,rfl⟩:=b.form;refine zb2 (args:=[.slice p rs.length c,.slice q A.length d,.func (.func 37) #[] #[]]) func38 I ntmps38 (bE I)<|rZ<|aT I<|sQ<|sW I<|lU (eN aB I)<|lM I<|lU (eN aB I)<|lU (nQ I I)<|tZ<|iP I (fun n=>?_) (fun n=>?_)
 ·exact rZ<|aT I<|rE<|tR<|za8 (.inl I) results38 I ⟨by have:l≠m:=fun e=>n (by rw[← B,← C,e]);simp[this],I,I⟩
 ·refine kP<|tN<|sQ<|sW I<|lU (eN aB I)<|lM I<|tZ<|bK ?_;have t:l.length=m.length:=oM;refine oP (ι:=Nat) (fun k=>[(1,.slice q A.length d),(2,.func (.func 37) #[] #[]),(15,.slice p rs.length c),(16,vi rs.length),(17,vi k)]) (fun _=>g) (fun _=>s) (fun k=>k≤l.length∧l.take k=m.take k) (fun k=>l.length - k) 0
   sB rfl rfl ⟨zf7 _,by simp⟩ ?_
  rintro k ⟨M,w⟩;refine rZ<|yL I<|tZ<|sQ<|iP I (fun D=>?_) (fun D=>?_)
  ·have f:k<l.length:=oM;have x:k<m.length:=oM;have y:k<rs.length:=oM;have z:k<A.length:=oM;have F:=a.based oM;have G:=b.based oM;refine kP<|tN<|sQ<|bK<|sW I<|lU (iA aB ar I I F oM sL)<|SL.q (iN dT ar I a.rd<|bd y) dC ?_;refine bW (aL zl6) fun N=>lA I<|oZ (sK 0 ar I I I I I sB)<|tZ<|sW I<|lM I<|lU (iA aB ar I I G oM sL)<|SL.q (iN dT ar I b.rd<|bd z) dC ?_;refine bW (aL zl6) fun O=>oZ (sK 0 ar I I I I I sB)<|tZ<|sW I<|lK (qV 1 dT ar I I I)<|lK (qV 0 dT ar I I I)<|SL.o (DO I I<|cQ.mk (cap:=[]) call37<|vv E g _ l[k] m[k] rs[k] A[k] (i.get (bd f)<|bd y) (j.get (bd x)<|bd z)<|hl.2 _<|gM f) dC ?_;rintro _ _ _ ⟨rfl,rfl,rfl⟩;refine lU (IN I)<|tZ<|iP I (fun hd=>?_) (fun hd=>?_)
   ·exact rZ<|aT I<|rE<|bR<|tR<|tR<|bR<|tR<|dR (s':=s) uR<|za8 (.inl I) results38 I ⟨by have:l≠m:=fun e=>hd (by simp[e]);simp[this],I,I⟩
   ·exact kP<|bN<|tN<|rG<|yD I<|lM I<|cp<|dR (s':=s) uR<|ct (k+1) sB I I ⟨oM,gL f x w<|zh1 hd⟩ oM
  ·refine xI<|tX<|tX<|bX<|tN<|rZ<|aT I<|rE ?_;have H:k=l.length:=oM;subst H;have:l=m:=iC t w;exact za8 (.inl I) results38 I ⟨by simp[this],I,I⟩
theorem aF (h:aM l):aM<|aa l:=by
 refine⟨by simp[aa,dF];exact h.1,fun c hc=>?_⟩;simp only[aa,zf3] at hc;obtain ⟨a,b,rfl⟩:=hc;simp only[cH,dF];exact h.2 a<|(er l a).1 b
theorem Bw (v u:Value)(l m:List Cl)(f:ai g v l)(i:ai g u m)(hl:aM l)(hm:aM m) :
  Ctr Tryz.prog E 9 #[.agg #[v],.agg #[u]] g s fun r g' s'=>r=vb (decide<|aa l=aa m)∧g=g'∧s=s':=by
 refine zb2 (args:=[.agg #[v],.agg #[u]]) func9 I ntmps9 (bE I)<|rZ (bW (bO I) fun k=>?_);refine bW (bO I) fun n=>aT I<|sQ<|dW [] [(0,1),(3,1),(1,0),(2,2),(4,0),(5,2),(6,0),(7,2)] ze4 kR<|gB I (qV 1 aj ae I I I)<|gB I (qV 0 aj ae I I I)<|mf I (bt call24 I<|fm E g _ v l f hl) dC (.inr iR) ?_;rintro _ g1 _ ⟨rfl,b,j,rfl,d⟩;refine pU rfl (IJ dw rfl ei rfl rfl)<|mf rfl (bt call24 rfl<|fm E g1 _ u m (i.mono b) hm) dC (.inr<|by rintro _ g2 _ ⟨rfl,a,e,rfl,c⟩;exact⟨by exact kc io io,(by exact .refl _)⟩) ?_;rintro _ g2 _ ⟨rfl,a,e,rfl,c⟩;refine pU rfl (IJ dw rfl ei rfl rfl)<|mf rfl (bt call38 rfl<|rP E g2 _ j e (aa l) (aa m) (d.mono a) c<|aF hl) dC (.inr<|by rintro _ _ _ ⟨rfl,rfl,rfl⟩;exact⟨by exact kc io io,(by exact .refl _)⟩) ?_;rintro _ _ _ ⟨rfl,rfl,rfl⟩;refine pU I (aS I)<|du<|tN<|rE ?_;refine dR (s':=s) (.cons _<|.cons _<|.refl _)<|Iu (b.trans a) ?_;exact za8 (.inl I) results9 I ⟨I,I,I⟩
theorem Tryz.mty56:MTy Tryz.prog 56 3 61<|.agg #[vi 0,vi 0,.slice none 0 0]:=⟨underlying56,underlying3,zl6⟩
def gU (acc:List Cl)(c:Cl):List Cl:=if acc.any (fun x=>x.id == c.id) then acc else acc++[c]
theorem uh (h:acc.any (fun x=>x.id == c.id)=true):gU acc c=acc:=zg2 h
theorem mr (h:acc.any (fun x=>x.id == c.id)=false):gU acc c=acc++[c]:=zg1 (by rw[h];simp)
def am (l:List Cl):List Cl:=(aa l).foldl gU []
def rcv (r:Rc):Value:=.agg (encCell.enc r).toArray
def au (r:Rc):Int×Value:=(r.id,rcv r)
def Ej (R:Cl→Rc→Prop)(g:PH)(v:Value)(tl:List Cl):Prop :=
 ∃ b m iv rs,v=pp b 0∧g b=some (bY #[.map<|some m,iv] 83)∧Mp g m (rs.map au)∧dA g iv (tl.map Cl.id)∧ay R tl rs
def Tab (g:PH)(v:Value)(tl:List Cl):Prop:=Ej (an g) g v tl
theorem Ej.mono {R R':Cl→Rc→Prop}{g:PH}(h:Ej R g v tl)(hl:Le g g')(hr:∀ c r,R c r→R' c r):Ej R' g' v tl:=by
 obtain ⟨b,m,a,rs,d,e,f,i,j⟩:=h;exact⟨b,m,a,rs,d,hl _ _ e,f.mono hl,i.mono hl,j.mono hr⟩
theorem Tab.mono {g:PH}(h:Tab g v tl)(hl:Le g g'):Tab g' v tl:=by
 obtain ⟨b,m,a,rs,c,d,e,f,i⟩:=h;exact⟨b,m,a,rs,c,hl _ _ d,e.mono hl,f.mono hl,i.mono fun _ _=>an.mono hl⟩
theorem nq (rs:List Rc)(k:Int):eU (rs.map au) k=(rs.find?<|fun r=>r.id == k).map rcv:=by
 induction rs with
 | nil=>rfl
 | cons r t ih =>
  simp only[zg5,au,dv,zi7];by_cases h:k=r.id
  ·subst h;simp
  ·have:(r.id == k)=false:=by simpa using fun e=>h e.symm
   rw[this,zg1 h,← ih]
theorem Fq {g:PH}{rs:List Rc}(h:ay (an g) tl rs)(k:Int):tl.any (fun x=>x.id == k)=rs.any (fun r=>r.id == k):=by
 induction tl generalizing rs with
 | nil=>cases rs with | nil=>rfl | cons _ _=>exact h.elim
 | cons c t ih =>
  cases rs with
  | nil=>exact h.elim
  | cons r rs=>simp only[List.any_cons,h.1.1,ih h.2]
theorem kC {g:PH}{rs:List Rc}(h:ay (an g) tl rs):tl.map Cl.id=rs.map Rc.id:=by
 induction tl generalizing rs with
 | nil=>cases rs with | nil=>rfl | cons _ _=>exact h.elim
 | cons c t ih =>
  cases rs with
  | nil=>exact h.elim
  | cons r rs=>simp only[zg5,h.1.1,ih h.2]
theorem ig (l:List Cl):∀ acc:List Cl,(l.foldl gU acc).length≤acc.length+l.length:=by
 induction l with
 | nil=>intro acc;simp
 | cons c r ih =>
  intro acc;simp only[zi9];have a:=ih<|gU acc c;have b:(gU acc c).length≤acc.length+1:=by unfold gU;split <;> simp
  simp only[ze9];omega
theorem Tryz.build83 (x:Value)(h:x.cells = #[x])(w:World):(Instr.build 83 #[(0,x)]).run Tryz.prog w = .ok (.agg #[x,.slice none 0 0]) w:=by
 have hz:(Value.agg #[Value.map none,Value.slice none 0 0]).cells = #[.map none,.slice none 0 0]:=rfl;simp[Instr.build,Instr.fill,h,hz]
theorem xK (v:Value)(l:List Cl)(hv:ai g v l)(Y:aM l) :
  Ctr Tryz.prog E 33 #[.agg #[v]] g s fun r g' s'=>s=s'∧Le g g'∧Ej (eJ<|mns g' g) g' r (am l):=by
 have M:=aF Y;refine zb2 (args:=[.agg #[v]]) func33 I ntmps33 (bE I)<|rZ (bW (bO I) fun N=>?_);refine aT I<|rZ<|lW (Io) ?_;rintro _ _ _ ⟨m,rfl,rfl,rfl⟩;refine lU (za3 I<|build83 _ I) (bW (bO I) fun d=>?_);refine aT I<|sQ<|rZ<|lK (qV 2 aj ae I I I)<|lW (bt call24 I<|pO E g _ v l hv Y) ?_;rintro _ g1 _ ⟨rfl,O,u,rfl,hc⟩;obtain ⟨rs,z,n⟩:=hc;have j:=z.sl.mono<|fN _ _;obtain ⟨p,c,rfl⟩:=j.form;refine lU (IJ dw I ei I I)<|lU (eN aB I)<|lM I<|tZ<|bK ?_;have Z:=n.length;have a0:=M.1;refine zb6 3 1<|oP (ι:=Value×Nat×List Rc) (fun i=>[(3,pp d 0),(13,.slice p rs.length c),(14,vi rs.length),(15,vi i.2.1)]) (fun _=>g1)
  (fun i=>rowA encInt 3 i.1 (i.2.2.map Rc.id)::pt d (bY #[.map<|some m,i.1] 83)::mp m (i.2.2.map au)::pt N (bY #[v] 29)::s)
  (fun i=>i.2.1≤rs.length∧ay (eJ<|mns g1 g) (((aa l).take i.2.1).foldl gU []) i.2.2) (fun i=>rs.length - i.2.1) (.slice none 0 0,0,[])
  sB rfl rfl ⟨zf7 _,by simp[ay]⟩ ?_
 rintro ⟨A,k,acc⟩ ⟨hk,a⟩;dsimp only at hk a ⊢;refine rZ<|yL I<|tZ<|sQ<|iP I (fun P=>?_) (fun P=>?_)
 ·have B:k<rs.length:=oM;have C:k<(aa l).length:=oM;have D:=j.based oM;have w:=n.get (bd C)<|bd B;have t:=Fq (a.mono fun _ _=>eJ.cr<|fN _ _) (aa l)[k].id;have f:((aa l).take<|k+1).foldl gU []=gU (((aa l).take k).foldl gU []) (aa l)[k]:=by
   rw[tS C,zj1];rfl
  have a1:=a.length;have F:=ig ((aa l).take k) [];simp only[ze5,zc5] at F;generalize a2:(aa l)[k]=cx at *;generalize Q:rs[k]=x at *;have G:rs[((k:Nat):Int).toNat]?=some x:=by rw[← Q];exact bd B
  cases b:acc.find? (fun r=>r.id == x.id) with
  | some y =>
   refine kP (tN<|sQ<|bK<|rZ<|lU (iA aB ar I I D oM sL)<|lK (iN dT ar I j.rd G)<|bW (aL zl6) fun b5=>?_);refine oZ (sK 0 ar I I I I I sB)<|tZ<|sQ<|dW [] [(0,2),(1,2),(2,2),(3,1),(4,2),(5,1),(6,1),(7,2),(8,2),(9,2),(10,0),(11,0),(12,2)] ze4 kR<|yM I<|pU I (nC I)<|pU I (bj uo I rm I)<|gB I (qL ru I<|cO 2 I I)<|pU I (bj ap I zT3 I)<|gB I (qL iT3 I<|cO 0 I I)<|gB I (SQ.eq (qn mty56 I I<|bo.own 3 I)<|by (rw[nq,b];done)) ?_;refine yM I<|pU I (xT I I)<|pU I (xT I I)<|mf I (aL zl6) dC (.inr iR) ?_;rintro _ _ _ ⟨b6,rfl,rfl,rfl⟩;refine H8 I (sK 0 ar I I I I I sB) (.inr iR) ?_;rintro _ _ _ ⟨rfl,rfl⟩;refine pU I (aS I)<|du<|tN<|sW I<|lU (oF I)<|tZ<|za1 I<|kP<|bN<|tN<|rG<|yD I<|lM I<|cp<|dR (s':=rowA encInt 3 A (acc.map Rc.id)::pt d (bY #[.map<|some m,A] 83)::mp m (acc.map au)::pt N (bY #[v] 29)::s) (.cons _<|.cons _<|.refl _) ?_;have R:acc.any (fun r=>r.id == cx.id)=true:=by
    rw[zj9];exact⟨y,zk7 b,by have:=List.find?_some b;rw[← w.1];exact this⟩
   exact ct (A,k+1,acc) sB I I ⟨lN,by dsimp only;rw[f,uh<|t.trans R];exact a⟩ lN
  | none =>
   refine kP (tN<|sQ<|bK<|rZ<|lU (iA aB ar I I D oM sL)<|lK (iN dT ar I j.rd G)<|bW (aL zl6) fun b5=>?_);refine oZ (sK 0 ar I I I I I sB)<|tZ<|sQ<|dW [] [(0,2),(1,2),(2,2),(3,1),(4,2),(5,1),(6,1),(7,2),(8,2),(9,2),(10,0),(11,0),(12,2)] ze4 kR<|yM I<|pU I (nC I)<|pU I (bj uo I rm I)<|gB I (qL ru I<|cO 2 I I)<|pU I (bj ap I zT3 I)<|gB I (qL iT3 I<|cO 0 I I)<|gB I (SQ.eq (qn mty56 I I<|bo.own 3 I)<|by (rw[nq,b];done)) ?_;refine yM I<|pU I (xT I I)<|pU I (xT I I)<|mf I (aL zl6) dC (.inr iR) ?_;rintro _ _ _ ⟨b6,rfl,rfl,rfl⟩;refine H8 I (sK 0 ar I I I I I sB) (.inr iR) ?_;rintro _ _ _ ⟨rfl,rfl⟩;refine pU I (aS I)<|du<|tN<|sW I<|lU (oF I)<|tZ<|za2 I<|sQ<|dW [7] [(0,2),(1,2),(2,2),(3,1),(4,2),(5,1),(6,1),(7,0)] ze4 kR ?_;refine yM I<|pU I (nC I)<|pU I (bj uo I rm I)<|gB I (qL ru I<|cO 3 I I)<|pU I (bj ap I zT3 I)<|gB I (qL iT3 I<|cO 1 I I)<|gB I (qV 1 dT ar I I I)<|H8 I (tn 4 mty56 I I I I) (.inl dC) ?_;rintro _ _ _ ⟨rfl,rfl⟩;refine du<|tN<|dW [8,9,10,11] [(0,2),(1,2),(2,2),(3,2),(4,1),(5,2),(6,1),(7,0),(8,0),(9,0),(10,0),(11,0)] ze4 kR ?_;refine yM I<|yM I<|pU I (nC I)<|pU I (bj uo I gy I)<|gB I (qL iE I<|cO 3 I I)<|pU I (bj ap I zT3 I)<|gB I (qL iT3 I<|cO 1 I I)<|mf I (bS sty43 I I I (ab sB) dC) dC (.inr iR) ?_;rintro _ _ _ ⟨a3,rfl,rfl,rfl⟩;refine mf I (Jl 2 (((acc++[x]).map Rc.id).flatMap encInt.enc) ((acc++[x]).map Rc.id).length sty43 I I I I I ⟨I,trivial⟩ (by simp[encInt];rfl) dO (by simp;omega)<|by simp;omega) dC (.inl dC) ?_;rintro iv' _ _ ⟨rfl,rfl⟩;refine zd3 fun ⟨w0,H⟩=>?_;obtain ⟨S,T,rfl⟩:=ag (e:=encInt) (l:=(acc++[x]).map Rc.id) (i:=2) H rfl;clear H w0;refine oU rfl (nC rfl) dC (.inl dC)<|oU rfl (bj uo rfl gy rfl) dC (.inl dC)<|H8 rfl (oi 3 gy rfl rfl rfl rfl (bE rfl)<|by rfl) (.inl dC) ?_;rintro _ _ _ ⟨rfl,rfl⟩;refine du<|bN<|tN<|rG<|yD I<|lM I<|cp ?_;have R:acc.any (fun r=>r.id == cx.id)=false:=by
    rw[zk6];intro y U;have:=List.find?_eq_none.1 b y U;rw[← w.1];exact this
   have V:gS (acc.map au) x.id (rcv x)=(acc++[x]).map au:=by
    rw[mM _ _ _ (fun q hq=>by
     obtain ⟨y,U,rfl⟩:=zf3.1 hq;have:=List.find?_eq_none.1 b y U;simpa [au] using this)]
    simp[au]
   refine dR (s':=rowA encInt 3 (.slice S ((acc++[x]).map Rc.id).length T) ((acc++[x]).map Rc.id)::pt d (.cells #[.map<|some m,.slice S ((acc++[x]).map Rc.id).length T] 83 (0,0))::mp m ((acc++[x]).map au)::pt N (bY #[v] 29)::s) ?_ ?_
   ·rw[← V];exact .cons _<|.cons _<|.refl _
   exact ct (.slice S ((acc++[x]).map Rc.id).length T,k+1,acc++[x]) sB I I ⟨lN,by dsimp only;rw[f,mr<|t.trans R];exact a.append ⟨w,trivial⟩⟩ lN
 ·refine xI<|tX<|tX<|bX<|tN<|sW I<|aT I<|rE ?_;have a4:k=rs.length:=oM;have W:(aa l).take k=aa l:=tL oM;rw[W] at a;refine fT fun g2 h2 J=>?_;refine I6 fun g3 X hb=>?_;refine Ju fun g4 L hm=>?_;refine dR (s':=s) uR ?_;have hI:dA g4 A<|(am l).map Cl.id:=by
   rw[show (am l).map Cl.id=acc.map Rc.id from kC (a.mono fun _ _=>eJ.cr<|fN _ _)];exact Sl.mono J<|X.trans L
  exact za8 (.inl I) results33 I ⟨I,O.trans<|h2.trans<|X.trans L,d,m,A,acc,I,L _ _ hb,hm,hI,a.mono fun _ _=>eJ.mono<|iL<|h2.trans<|X.trans L⟩
theorem oN (v:Value)(l:List Cl)(a:ai g v l)(b:aM l) :
  Ctr Tryz.prog E 33 #[.agg #[v]] g s (fun r g' s'=>s=s'∧Le g g'∧Tab g' r (am l)) :=
 (xK E g s v l a b).mono fun _ _ _ ⟨c,d,e⟩=>⟨c,d,e.mono (zb9 _) fun _ _=>eJ.cr<|fN _ _⟩
theorem Bb (h:(acc.map Cl.id).Nodup):((gU acc c).map Cl.id).Nodup:=by
 unfold gU;split
 ·exact h
 ·rename_i hc;rw[zg6,List.nodup_append];refine⟨h,by simp,fun a f b hb e=>?_⟩;simp at hb;subst hb;obtain ⟨x,g,d⟩:=zf3.1 f;apply hc;rw[zj9];exact⟨x,g,by simp[d,e]⟩
theorem yw (l:List Cl):∀ acc:List Cl,(acc.map Cl.id).Nodup→((l.foldl gU acc).map Cl.id).Nodup:=by
 induction l with
 | nil=>intro acc h;exact h
 | cons c r ih=>intro acc h;exact ih _<|Bb h
theorem iq (l:List Cl):((am l).map Cl.id).Nodup:=yw _ [] dO
theorem vD (l:List Cl):∀ (acc:List Cl) (x:Cl),x∈l.foldl gU acc→x∈acc∨x∈l:=by
 induction l with
 | nil=>intro acc x h;exact .inl h
 | cons c r ih =>
  intro acc x h
  rcases ih _ x h with a | a
  ·unfold gU at a;split at a
   ·exact .inl a
   ·rcases zf4.1 a with b | b
    ·exact .inl b
    ·right;simp at b;simp[b]
  ·exact .inr (by simp[a])
theorem tw {x:Cl}(h:x∈am l):x∈aa l:=(vD _ [] x h).resolve_left dO
theorem bG (h:aM l):aM<|am l:=by
 have hc:=aF h;refine⟨?_,fun c hm=>hc.2 c<|tw hm⟩;have:=ig (aa l) [];unfold am;have a:=hc.1;simp at this;omega
theorem Bs {rs:List Rc}(h:(rs.map Rc.id).Nodup){k:Nat}{r:Rc}(a:rs[k]?=some r):rs.find? (fun x=>x.id == r.id)=some r:=by
 induction rs generalizing k with
 | nil=>simp at a
 | cons y t ih =>
  simp only[zg5,zk3] at h;cases k with
  | zero=>simp at a;subst a;simp
  | succ k =>
   simp only[List.getElem?_cons_succ] at a;have b:(y.id == r.id)=false:=by
    simp only[beq_eq_false_iff_ne,ne_eq];intro e;exact h.1 (by rw[e];exact zf3.2 ⟨r,zg3 a,I⟩)
   rw[zi7,b];exact ih h.2 a
def ve (E:World)(pv:Value)(p:Cl→Bool)(tl:List Cl)(g:PH):Prop :=
 ∀ g' s c r,Le g g'→c∈tl→an g' c r→cQ Tryz.prog E pv [rcv r] g' s (fun x g'' s''=>x=vb (p c)∧g'=g''∧s=s'')
theorem zS (R:Cl→Rc→Prop)(E:World)(g:PH)(s:Own)(v pv:Value)(tl:List Cl)(p:Cl→Bool)(P:∀ c r,R c r→an g c r)(V:Ej R g v tl)(H:(tl.map Cl.id).Nodup)(W:aM tl)(hp:ve E pv p tl g) :
  Ctr Tryz.prog E 34 #[v,pv] g s fun r g' s'=>s=s'∧Le g g'∧∃ u rs,r = .agg #[u]∧RK encCell 61 (mns g' g) u rs∧ay R (tl.filter p) rs:=by
 obtain ⟨b,m,iv,rs,rfl,hb,hm,G,f⟩:=V;have x:=kC<|f.mono P;have Q:=f.length;have X:=W.1;have J:(rs.map Rc.id).Nodup:=by rw[← x];exact H
 obtain ⟨q,d,rfl⟩:=G.form;refine zb2 (args:=[pp b 0,pv]) func34 I ntmps34 (bE I)<|rZ (bW (aL zl9) fun S=>?_);refine tZ (rZ<|bW (aL zl9) fun T=>?_);refine tZ<|sQ<|sW I<|lU (nC I)<|lU (bj uo I gy I)<|lK (qL iE I<|ao.known hb I)<|lU (eN aA I)<|lM I<|tZ<|bK<|zb6 61 3 ?_;simp only[ze7] at G hb ⊢;refine oP (ι:=Value×Nat×List Rc) (fun i=>[(0,pp b 0),(1,pv),(4,pp S 0),(5,pp T 0),(11,.slice q tl.length d),(12,vi tl.length),(13,vi i.2.1)]) (fun _=>g)
  (fun i=>rowA encCell 61 i.1 i.2.2::pt T (bY #[i.1] 29)::pt S (bY #[.slice none 0 0] 29)::s)
  (fun i=>i.2.1≤tl.length∧ay R ((tl.take i.2.1).filter p) i.2.2) (fun i=>tl.length - i.2.1) (.slice none 0 0,0,[])
  sB rfl rfl ⟨zf7 _,by simp[ay]⟩ ?_
 rintro ⟨Y,k,acc⟩ ⟨Z,a⟩;dsimp only at Z a ⊢;refine rZ<|yL I<|tZ<|sQ<|iP I (fun L=>?_) (fun L=>?_)
 ·have n:k<tl.length:=oM;have y:k<rs.length:=oM;have M:=G.based (by simp;omega);have z:=f.get (bd n)<|bd y;have A:=P _ _ z;have B:tl[k]∈tl:=gM n;have t:eU (rs.map au) tl[k].id=some (rcv rs[k]):=by
   rw[nq,← A.1,Bs J<|bd y];rfl
  have j:(tl.take<|k+1).filter p=(tl.take k).filter p++(if p tl[k] then [tl[k]] else []):=by
   rw[tS n,zh7];simp only[zi8,List.filter_nil]
  have N:(tl.map Cl.id)[((k:Nat):Int).toNat]?=some tl[k].id:=by simp[n]
  have a0:=a.length;have U:((tl.take k).filter p).length≤k:=zk8 (zc6 _ _) (by simp;omega);generalize a1:tl[k]=c at *;generalize a2:rs[k]=r at *;refine kP<|tN<|sQ<|bK<|rZ<|lU (iA aA zT3 I I M oM sL)<|lK (eB iT3 I G.rd N I)<|aT I<|sW I<|lM I<|lU (nC I)<|lU (bj uo I rm I)<|lK (qL ru I<|ao.known hb I)<|lM I<|lK (SQ.eq (H6 mty56 I I<|bo.known hm)<|by (rw[t];done)) ?_;refine lW (DO I I<|hp g _ c r (zb9 g) B A) ?_;rintro _ _ _ ⟨rfl,rfl,rfl⟩;refine tZ (iQ I (fun w=>?_) fun w=>?_)
  ·refine dW [9,10,11] [(0,2),(1,1),(2,2),(3,2),(4,2),(5,1),(6,2),(7,1),(8,0),(9,0),(10,0),(11,0)] ze4 kR<|pU I (bj dw I cg I)<|gB I (qL ei I<|cO 1 I I)<|yM I<|pU I (nC I)<|pU I (bj uo I rm I)<|gB I (qL ru I<|ao.known hb I)<|yM I<|gB I (SQ.eq (H6 mty56 I I<|bo.known hm)<|by (rw[t];done)) ?_;refine mf I (bS sty27 I I I (ab sB) dC) dC (.inr iR) ?_;rintro _ _ _ ⟨a3,rfl,rfl,rfl⟩;refine mf I (Jl 0 ((acc++[r]).flatMap encCell.enc) (acc++[r]).length sty27 I I I I I sB (by (simp[encCell];rfl)) dO lN lN) dC (.inl dC) ?_;rintro ov' _ _ ⟨rfl,rfl⟩;refine zd3 fun ⟨w0,C⟩=>?_;obtain ⟨q',d',rfl⟩:=ag (e:=encCell) (l:=acc++[r]) (i:=0) C rfl;clear C w0;refine oU I (bj dw I cg I) dC (.inl dC)<|H8 I (sK 1 cg I I I I I sB) (.inl dC) ?_;rintro _ _ _ ⟨rfl,rfl⟩;refine du<|bN<|tN<|rG<|yD I<|lM I<|cp ?_;exact ct (.slice q' (acc++[r]).length d',k+1,acc++[r]) sB I I ⟨lN,by dsimp only;rw[j,w];exact a.append ⟨z,trivial⟩⟩ lN
  ·exact kP<|bN<|tN<|rG<|yD I<|lM I<|cp<|ct (Y,k+1,acc) sB I I ⟨lN,by dsimp only;rw[j,w];simpa using a⟩ lN
 ·have O:tl.take k=tl:=tL oM;rw[O] at a;refine xI (tX<|tX<|bX<|tN<|rZ<|SL.freezeRowK fun g2 D F=>?_);obtain ⟨q2,d2,rfl⟩:=F.form;exact lK (qV 0 aj ae I I I)<|oZ (sK 1 ae I I I I I sB)<|tZ<|rE<|kn 1 s (.inl I) results34 I aj ae I I uR ⟨I,D,_,acc,I,F,a⟩
theorem Dm (v pv:Value)(tl:List Cl)(p:Cl→Bool)(c:Tab g v tl)(a:(tl.map Cl.id).Nodup)(d:aM tl)(hp:ve E pv p tl g) :
  Ctr Tryz.prog E 34 #[v,pv] g s (fun r g' s'=>s=s'∧Le g g'∧∃ u,r = .agg #[u]∧ai g' u (tl.filter p)) :=
 (zS (an g) E g s v pv tl p (fun _ _ h=>h) c a d hp).mono fun _ _ _ ⟨e,b,u,rs,f,i,j⟩=>⟨e,b,u,f,rs,i.sl.mono<|fN _ _,j.mono fun _ _=>an.mono b⟩
theorem yU (p:Cl→Bool)(h:aM l):aM (l.filter p) :=
 ⟨Nat.lt_of_le_of_lt (zc6 _ _) h.1,fun c hc=>h.2 c (zh5.1 hc).1⟩
theorem Be (v pv:Value)(tl:List Cl)(p:Cl→Bool)(A:Tab g v tl)(l:(tl.map Cl.id).Nodup)(y:aM tl)(hp:ve E pv p tl g) :
  Ctr Tryz.prog E 214 #[v,pv] g s fun r g' s'=>s=s'∧Le g g'∧dA g' r ((tl.filter p).map Cl.id):=by
 have B:=(yU p y).1;refine zb2 (args:=[v,pv]) func214 I ntmps214 (bE I)<|rZ<|aT I<|rZ<|aT I<|sQ<|sW I<|lM I<|lW (bt call34 I<|Dm E g _ v pv tl p A l y hp) ?_;rintro _ g1 _ ⟨rfl,m,u,rfl,rs,c,b⟩;obtain ⟨q,d,rfl⟩:=c.form;have z:=b.length;refine lU (IJ dw I ei I I)<|lU (eN aB I)<|lM I<|tZ<|bK ?_;have e:=kC b;refine zb6 3 1<|oP (ι:=Value×Nat) (fun i=>[(5,i.1),(11,.slice q rs.length d),(12,vi rs.length),(13,vi i.2)]) (fun _=>g1)
  (fun i=>rowA encInt 3 i.1 ((rs.take i.2).map Rc.id)::s)
  (fun i=>i.2≤rs.length) (fun i=>rs.length - i.2) (.slice none 0 0,0)
  sB rfl rfl (zf7 _) ?_
 rintro ⟨H,k⟩ C;dsimp only at C ⊢;refine rZ<|yL I<|tZ<|sQ<|iP I (fun n=>?_) (fun n=>?_)
 ·have f:k<rs.length:=oM;have o:=c.based oM;have a:(rs.take<|k+1).map Rc.id=(rs.take k).map Rc.id++[rs[k].id]:=by rw[tS f,zg6];rfl
  have t:rs[((k:Nat):Int).toNat]?=some rs[k]:=bd f;have D:((rs.take k).map Rc.id).length=k:=by simp;omega
  generalize J:rs[k]=x at *;refine kP (tN<|sQ<|bK<|rZ<|lU (iA aB ar I I o oM sL)<|lK (iN dT ar I c.rd t)<|bW (aL zl6) fun K=>?_);refine oZ (sK 0 ar I I I I I sB)<|tZ<|rG<|lM I<|lU (bj ap I zT3 I)<|lK (qL iT3 I<|cO 0 I I)<|lW (bS sty43 I I I (ab sB) dC) ?_;rintro _ _ _ ⟨F,rfl,rfl,rfl⟩;refine lW (Jl 1 (((rs.take<|k+1).map Rc.id).flatMap encInt.enc) ((rs.take<|k+1).map Rc.id).length sty43 I I I I I ⟨I,trivial⟩ (by rw[a];simp[encInt];rfl) (by rw[a];simp) lN lN) ?_;rintro ov' _ _ ⟨rfl,rfl⟩;exact lA I<|cp<|bN<|tN<|rG<|yD I<|lM I<|cp<|dR (s':=rowA encInt 3 ov' ((rs.take<|k+1).map Rc.id)::s) (.cons _<|.refl _)<|ct (ov',k+1) sB I I lN lN
 ·refine xI<|tX<|tX<|bX<|tN<|sW I<|aT I<|rE ?_;have w:rs.take k=rs:=tL oM;rw[w];refine fT fun g2 G j=>?_;exact za8 (.inl I) results214 I ⟨I,m.trans G,by rw[e];exact j⟩
def Ec (E:World)(pv:Value)(q:ak→Bool)(g:PH):Prop :=
 ∀ g' s a,Le g g'→cQ Tryz.prog E pv [.agg (encSide.enc a).toArray] g' s (fun x g'' s''=>x=vb (q a)∧g'=g''∧s=s'')
theorem Bk (v:Value)(e:FuncId)(f:Array Value)(l:List ak)(q:ak→Bool)(i:SlA encSide g v l)(hl:l.length<1099511627776)(hp:Ec E (.func (.func e) #[] f) q g) :
  Ctr Tryz.prog E 173 #[v,.func (.func e) #[] f] g s fun r g' s'=>(∃ n:Int,r=vi n∧decide (n≥0)=l.any q)∧g=g'∧s=s':=by
 obtain ⟨p,c,rfl⟩:=i.form;refine zb2 (args:=[.slice p l.length c,.func (.func e) #[] f]) func173 I ntmps173 (bE I)<|rZ<|aT I<|sQ<|sW I<|lU (eN aW I)<|lM I<|tZ<|bK<|oP (ι:=Nat) (fun k=>[(0,.slice p l.length c),(1,.func (.func e) #[] f),(7,vi l.length),(8,vi k)]) (fun _=>g) (fun _=>s) (fun k=>k≤l.length∧(l.take k).any q=false) (fun k=>l.length - k) 0
  sB rfl rfl ⟨zf7 _,by simp⟩ ?_
 rintro k ⟨t,a⟩;refine rZ<|yL I<|tZ<|sQ<|iP I (fun j=>?_) (fun j=>?_)
 ·have b:k<l.length:=oM;have m:=i.based oM;refine kP<|tN<|sQ<|bK<|sW I<|aT I<|sW I<|lM I<|lM I<|lU (iA aW aV I I m oM sL)<|SL.q (iN iV aV I i.rd<|bd b) dC ?_;refine lW (DO I I<|hp g _ l[k]<|zb9 g) ?_;rintro _ _ _ ⟨rfl,rfl,rfl⟩;refine tZ<|iQ I (fun hq=>?_) (fun hq=>?_)
  ·refine sW I<|aT I<|rE<|bR<|tR<|tR<|bR<|tR ?_;have d:l.any q=true:=zj9.2 ⟨l[k],gM b,hq⟩;exact za8 (.inl I) results173 I ⟨⟨k,I,by rw[d];simp⟩,I,I⟩
  ·exact kP<|bN<|tN<|rG<|yD I<|lM I<|cp<|ct (k+1) sB I I ⟨oM,by rw[tS b,List.any_append,a];simpa using hq⟩ oM
 ·refine xI<|tX<|tX<|bX<|tN<|rZ<|aT I<|rE ?_;have o:l.take k=l:=tL oM;rw[o] at a;exact za8 (.inl I) results173 I ⟨⟨-1,I,by rw[a];rfl⟩,rfl,rfl⟩
theorem mX (v:Value)(a:FuncId)(b:Array Value)(l:List ak)(q:ak→Bool)(c:SlA encSide g v l)(hl:l.length<1099511627776)(hp:Ec E (.func (.func a) #[] b) q g) :
  Ctr Tryz.prog E 104 #[v,.func (.func a) #[] b] g s fun r g' s'=>r=vb (l.any q)∧g=g'∧s=s':=by
 refine zb2 (args:=[v,.func (.func a) #[] b]) func104 I ntmps104 (bE I)<|rZ<|aT I<|sW I<|lM I<|lW (bt call173 I<|Bk E g _ v a b l q c hl hp) ?_;rintro _ _ _ ⟨⟨n,rfl,hn⟩,rfl,rfl⟩;exact lU (gQ I I)<|aT I<|rE<|za8 (.inl I) results104 I ⟨by rw[hn],I,I⟩
def oG (c:Cl)(id:Int):Bool:=c.sides.any fun x=>decide<|x.cell=id
theorem hasP (E:World)(g:PH)(b:Nat)(id:Int)(hb:g b=some (bY #[vi id] 3)):Ec E (.func (.func 232) #[] #[pp b 0]) (fun x=>decide<|x.cell=id) g:=by
 intro g s a c;refine cQ.mk (cap:=[pp b 0]) call232 ?_;have d:=c _ _ hb;refine zb2 (args:=[.agg (encSide.enc a).toArray,pp b 0]) func232 I ntmps232 (bE I)<|rZ (bW (bO I) fun e=>?_);exact aT I<|rZ<|lU (bj dh I zT3 I)<|lK (qL iT3 I<|cO 0 I I)<|lK (qL iT3 I<|ao.known d I)<|yE I<|aT I<|rE<|dR (s':=s) uR<|za8 (.inl I) results232 I ⟨I,I,I⟩
theorem E5 (c:Cl)(r:Rc)(id:Int)(hc:an g c r)(hl:c.sides.length<1099511627776) :
  Ctr Tryz.prog E 216 #[rcv r,vi id] g s fun r g' s'=>r=vb (oG c id)∧g=g'∧s=s':=by
 refine zb2 (args:=[rcv r,vi id]) func216 I ntmps216 (bE I)<|rZ (bW (bO I) fun d=>?_);refine bW (bO I) fun b=>zb5 fun g1 a hb=>?_;refine aT I<|rZ<|lU (bj ap I aI I)<|lK (qL bg I<|cO 0 I I)<|lU (Ih I)<|lW (bt call104 I<|mX E g1 _ _ 232 #[pp b 0] c.sides _ (hc.2.2.mono a) hl<|hasP E g1 b id hb) ?_;rintro _ _ _ ⟨rfl,rfl,rfl⟩;exact aT I<|rE<|dR (s':=s) (.cons _<|.refl _)<|Iu a<|za8 (.inl I) results216 I ⟨I,I,I⟩
theorem HC (E:World)(g:PH)(b:Nat)(id:Int)(tl:List Cl)(e:aM tl)(hb:g b=some (bY #[vi id] 3)):ve E (.func (.func 215) #[] #[pp b 0]) (fun c=>oG c id) tl g:=by
 intro g s c r a hm hc;refine cQ.mk (cap:=[pp b 0]) call215 ?_;have d:=a _ _ hb;refine zb2 (args:=[rcv r,pp b 0]) func215 I ntmps215 (bE I)<|rZ (bW (bO I) fun f=>?_);refine aT I<|rZ<|lK (qV 0 dT ar I I I)<|lK (qL iT3 I<|ao.known d I)<|lW (bt call216 I<|E5 E g _ c r id hc<|e.2 c hm) ?_;rintro _ _ _ ⟨rfl,rfl,rfl⟩;exact aT I<|rE<|dR (s':=s) uR<|za8 (.inl I) results215 I ⟨I,I,I⟩
def aG (l:List Cl)(id:Int):List Int:=((am l).filter fun c=>oG c id).map Cl.id
theorem BP (v:Value)(l:List Cl)(id:Int)(e:ai g v l)(d:aM l) :
  Ctr Tryz.prog E 194 #[.agg #[v],vi id] g s fun r g' s'=>s=s'∧Le g g'∧dA g' r (aG l id):=by
 refine zb2 (args:=[.agg #[v],vi id]) func194 I ntmps194 (bE I)<|rZ (bW (bO I) fun j=>?_);refine bW (bO I) fun f=>zb5 fun g1 b hb=>?_;refine aT I<|rZ<|lK (qV 0 aj ae I I I)<|lW (bt call33 I<|oN E g1 _ v l (e.mono b) d) ?_;rintro tv g2 _ ⟨rfl,a,i⟩;refine lU (Ih I)<|lW (bt call214 I<|Be E g2 _ tv _ _ _ i (iq l) (bG d)<|HC E g2 f id _ (bG d)<|a _ _ hb) ?_;rintro r8 g3 _ ⟨rfl,c,hr⟩;exact aT I<|rE<|dR (s':=s) uR<|za8 (.inl I) results194 I ⟨I,b.trans<|a.trans c,hr⟩
theorem Tryz.mty80:MTy Tryz.prog 80 3 4<|vb false:=⟨underlying80,underlying3,zm2⟩
def BQ:Rc:=⟨0,0,none,0,0⟩
def aJ:Cl:=⟨0,0,[]⟩
theorem s8 {R:Cl→Rc→Prop}(d:∀ c r,R c r→r.id=c.id){rs:List Rc}(h:ay R tl rs)(k:Int):(tl.find? (fun c=>decide<|c.id=k)=none∧eU (rs.map au) k=none)∨∃ c r,tl.find? (fun c=>decide<|c.id=k)=some c∧eU (rs.map au) k=some (rcv r)∧R c r:=by
 induction tl generalizing rs with
 | nil=>cases rs with | nil=>exact .inl ⟨rfl,rfl⟩ | cons _ _=>exact h.elim
 | cons c t ih =>
  cases rs with
  | nil=>exact h.elim
  | cons r rs =>
   simp only[zg5,au,dv,zi7];by_cases a:c.id=k
   ·right;have:k=r.id:=by rw[d _ _ h.1,a]
    exact⟨c,r,by simp[a],by rw[zg2 this],h.1⟩
   ·have b:¬ k=r.id:=by rw[d _ _ h.1];exact fun e=>a e.symm
    simp only[a,decide_false,zg1 b];exact ih h.2
theorem D1 {g:PH}{rs:List Rc}(h:ay (an g) tl rs)(k:Int):(tl.find? (fun c=>decide<|c.id=k)=none∧eU (rs.map au) k=none)∨∃ c r,tl.find? (fun c=>decide<|c.id=k)=some c∧eU (rs.map au) k=some (rcv r)∧an g c r:=s8 (fun _ _ h=>h.1) h k
theorem dQ {g:PH}{rs:List Rc}(h:ay (an g) tl rs)(d:∀ g,an g aJ BQ)(k:Int):∃ r,(eU (rs.map au) k).getD (.agg #[vi 0,vi 0,.slice none 0 0])=rcv r∧(eU (rs.map au) k).isSome=(tl.find?<|fun c=>decide<|c.id=k).isSome∧an g ((tl.find?<|fun c=>decide<|c.id=k).getD aJ) r:=by
 rcases D1 h k with ⟨a,b⟩ | ⟨c,r,a,b,e⟩
 ·exact⟨BQ,by rw[b];rfl,by rw[a,b];rfl,by rw[a];exact d g⟩
 ·exact⟨r,by rw[b];rfl,by rw[a,b];rfl,by rw[a];exact e⟩
theorem iw (g:PH):an g aJ BQ:=⟨rfl,rfl,zc1 g _⟩
def findC (l:List Cl)(id:Int):Option Cl:=(am l).find? fun c=>decide<|c.id=id
def lq (tl:List Cl)(k:Int):Bool:=tl.any fun c=>oG c k
def xS (l:List Cl):List Int:=((am l).filter fun c=>!lq (am l) c.id).map Cl.id
theorem Aw {g:PH}{rs:List Rc}(h:ay (an g) tl rs){r:Rc}(hr:r∈rs):∃ c,c∈tl∧an g c r:=by
 obtain ⟨i,b,rfl⟩:=zc8 hr;have hl:=h.length;have a:i<tl.length:=oM;exact⟨tl[i],gM a,h.get (bd a)<|bd b⟩
theorem ES (h:(tl.map Cl.id).Nodup){a b:Cl}(g:a∈tl)(hb:b∈tl)(e:a.id=b.id):a=b:=by
 induction tl with
 | nil=>simp at g
 | cons c t ih =>
  simp only[zg5,zk3] at h
  rcases zf2.1 g with rfl | d <;> rcases zf2.1 hb with rfl | f
  ·rfl
  ·exact absurd (zf3.2 ⟨b,f,e.symm⟩) h.1
  ·exact absurd (zf3.2 ⟨a,d,e⟩) h.1
  ·exact ih h.2 d f
theorem yv {f:List Cl}(i:∀ c∈f,c∈tl)(hp:(f.map Cl.id).Perm<|tl.map Cl.id)(hn:(tl.map Cl.id).Nodup):f.Perm tl:=by
 have g:(f.map Cl.id).Nodup:=hp.symm.nodup hn;refine (List.perm_ext_iff_of_nodup (List.Pairwise.of_map Cl.id (fun a b d e=>d<|by rw[e]) g)<|List.Pairwise.of_map Cl.id (fun a b d e=>d<|by rw[e]) hn).2 fun c=>⟨i c,fun hc=>?_⟩;obtain ⟨k,j,l⟩:=zf3.1<|hp.symm.subset<|zf3.2 ⟨c,hc,rfl⟩;rw[← ES hn (i k j) hc l];exact j
theorem wA {g:PH}{vl:List<|Int×Value}{rs:List Rc}{b:List Cl}(e:vl.map Prod.fst=b.map Cl.id)(f:∀ c∈b,c∈tl)(hn:(tl.map Cl.id).Nodup)(a:ay (an g) tl rs)(hp:vl.Perm<|rs.map au):b.Perm tl:=by
 refine yv f ?_ hn;have d:=hp.map Prod.fst;rw[e,zi6] at d;rw[kC a];exact d
theorem Hr {t:Nat}(h:aU f t=some (vi a))(e:a=b):aU f t=some (vi b):=e ▸ h
theorem oh {α:Type}{s:List α}{a:α}(h:s[i]?=some a):s.set i a=s:=by
 apply List.ext_getElem?;intro j;rw[List.getElem?_set];split
 ·rename_i e;subst e;split
  ·exact h.symm
  ·rename_i b;rw[List.getElem?_eq_none oM]
 ·rfl
def ah (tl:List Cl)(id:Int):Option Cl:=tl.find? fun c=>decide<|c.id=id
def eF (tl:List Cl):Nat→Int→List Int→List Int
 | 0,_,vis=>vis
 | n+1,id,vis =>
  match ah tl id with
  | none=>vis
  | some c=>if vis.contains id then vis else c.sides.foldl (fun v x=>eF tl n x.cell v)<|vis++[id]
theorem qB (tl:List Cl)(n:Nat)(id:Int)(vis:List Int):eF tl (n+1) id vis=(match ah tl id with
  | none=>vis
  | some c=>if vis.contains id then vis else c.sides.foldl (fun v x=>eF tl n x.cell v)<|vis++[id]):=rfl
def qT (tl:List Cl)(vis:List Int):Nat:=(tl.filter fun c=>!vis.contains c.id).length
def gw (tl:List Cl)(ids:List Int):List Int:=ids.foldl (fun v id=>eF tl (tl.length+1) id v) []
theorem sb (tl:List Cl):∀ (n:Nat) (id:Int) (vis:List Int) (x:Int),x∈vis→x∈eF tl n id vis
 | 0,_,_,_,h=>h
 | n+1,id,vis,x,h=>by
  unfold eF;split
  ·exact h
  ·split
   ·exact h
   ·rename_i c _ _;have:∀ (l:List ak) (v:List Int),x∈v→x∈l.foldl (fun v y=>eF tl n y.cell v) v:=by
     intro l;induction l with
     | nil=>intro v a;exact a
     | cons y t ih=>intro v a;exact ih _<|sb tl n y.cell v x a
    exact this _ _ (by simp[h])
theorem pJ {v v':List Int}(h:∀ x∈v,x∈v'):qT tl v'≤qT tl v:=by
 unfold qT;rw[← List.countP_eq_length_filter,← List.countP_eq_length_filter];apply List.countP_mono_left;intro c _ hp;simp at hp ⊢;exact fun e=>hp<|h _ e
theorem CJ {v:List Int}(hc:c∈tl)(hn:v.contains c.id=false):qT tl (v++[c.id])<qT tl v:=by
 induction tl with
 | nil=>simp at hc
 | cons d t ih =>
  have hm:qT t (v++[c.id])≤qT t v:=pJ (fun x f=>by simp[f]);have e1:∀ u:List Int,qT (d::t) u=(if u.contains d.id then 0 else 1)+qT t u:=fun u=>by
   unfold qT;rw[zi8];cases u.contains d.id <;> simp <;> omega
  rw[e1,e1]
  rcases zf2.1 hc with rfl | a
  ·have:(v++[c.id]).contains c.id=true:=by simp
   rw[this,hn];simp;omega
  ·have:=ih a;cases b:v.contains d.id
   ·cases e:(v++[c.id]).contains d.id <;> simp <;> omega
   ·have e:(v++[c.id]).contains d.id=true:=by simp at b ⊢;exact .inl b
    rw[e];simp;exact this
def iU (vis:List Int):List<|Int×Value:=vis.map fun k=>(k,vb true)
theorem zJ (vis:List Int):HK (iU vis) fun k=>vis.contains k:=by
 intro k;induction vis with
 | nil=>rfl
 | cons a t ih =>
  simp only[iU,zg5,dv] at ih ⊢;by_cases h:k=a
  ·simp[h]
  ·have b:(k == a)=false:=by simpa using h
   rw[zg1 h,ih];simp[h]
theorem tC {vis:List Int}(h:vis.contains id=false):gS (iU vis) id (vb true)=iU (vis++[id]):=by
 rw[mM _ _ _ (fun p hp=>by
  obtain ⟨a,b,rfl⟩:=zf3.1 hp;intro e;simp at h;exact h<|by rw[← e];exact b)]
 simp[iU]
theorem aC (h:ah tl id=some c):c∈tl∧c.id=id:=⟨zk7 h,by simpa using List.find?_some h⟩
theorem gK {α:Type}{l:List α}{y:α}(h:l[j]?=some y):l.take (j+1)=l.take j++[y]:=by
 obtain ⟨a,b⟩:=zf6.1 h;rw[tS a,b]
theorem CC {α:Type}{s:List α}{a:α}(h:s[i]?=some a)(b:α):(s.set i b)[i]?=some b:=by
 have:=(zf6.1 h).1;simp[this]
theorem AZ (E:World)(g:PH)(p bm bf m:Nat)(O:Value)(tl:List Cl)(S:Tab g O tl)(T:aM tl)(U:g p=some (bY #[O] 77))(P:g bm=some (bY #[.map<|some m] 80))
  (V:g bf=some (.cells #[.func (.func 90) #[] #[pp p 0,pp bm 0,pp bf 0]] 137 (0,0))):∀ (n:Nat) (id:Int) (vis:List Int) (s:Own) (i:Nat),qT tl vis<n→s[i]?=some (mp m<|iU vis) →
  Ctr Tryz.prog E 90 #[vi id,pp p 0,pp bm 0,pp bf 0] g s (fun _ g' s'=>g=g'∧s'=s.set i (mp m<|iU<|eF tl n id vis)):=by
 intro n;induction n with
 | zero=>intro id vis s i h;omega
 | succ n ih =>
 intro id vis s i Q w;have A:=S;obtain ⟨b,mt,iv,rs,rfl,hb,hm,hI,r⟩:=A;obtain ⟨x,B,C,D⟩:=dQ r iw id;obtain ⟨W,X,F,R,G⟩:=x;have d:SlA encSide g (.slice F R G) ((ah tl id).getD aJ).sides:=D.2.2;have H:R=((ah tl id).getD aJ).sides.length:=zc2 d;subst H;refine zb2 (args:=[vi id,pp p 0,pp bm 0,pp bf 0]) func90 I ntmps90 (bE I)<|rZ<|lK (qL isAgg77 I<|ao.known U I)<|lU (nC I)<|lU (bj uo I rm I)<|lK (qL ru I<|ao.known hb I)<|lM I<|lK (SQ.eq (v':=.tuple #[rcv ⟨W,X,F,((ah tl id).getD aJ).sides.length,G⟩,vb<|decide<|(ah tl id).isSome=true]) (qn mty56 I I<|bo.known hm)<|by rw[B,C,Bool.decide_eq_true];rfl) ?_;refine lM I (yX I<|yX I<|bW (aL zl6) fun b5=>?_);refine oZ (sK 0 ar I I I I I sB)<|aT I<|sQ<|BY 24 (!(ah tl id).isSome||vis.contains id) ?_ ?_
 ·refine rG<|lM I<|lU (IN I)<|lM I<|sP ?_ ?_
  ·intro J;exact yA I<|yA I<|yA I<|yP I<|cp<|zb1 (by simp_all[aU]) mI
  ·intro J;refine lR (gT I I I dC) (qL isAgg80 I<|ao.known P I) dC<|yC I<|lR (gT I I I dC) (SQ.eq (v':=vb<|decide<|vis.contains id=true) (H6 mty80 I I<|bo.own (i+1) w)<|by rw[(zJ vis).get id];simp) dC ?_;refine yF I<|cp ?_;exact zb1 (by simp_all[aU]) mI
 refine iQ I (fun a=>?_) (fun a=>?_)
 ·refine rE<|tR<|dR (s':=s) uR ?_;have hr:eF tl (n+1) id vis=vis:=by
   unfold eF;cases h:ah tl id with
   | none=>rfl
   | some c =>
    rw[h] at a;simp only[Option.isSome_some,Bool.not_true,Bool.false_or] at a;simp only[a,if_true]
  exact Iv (.inl I) results90 ⟨I,by rw[hr,oh w]⟩
 ·obtain ⟨c,hc⟩:∃ c,ah tl id=some c:=by
   cases h:ah tl id with
   | none=>rw[h] at a;simp at a
   | some c=>exact⟨c,rfl⟩
  obtain ⟨t,f⟩:=aC hc;have k:vis.contains id=false:=by rw[hc] at a;simpa using a
  have Y:=T.2 c t;have l:qT tl (vis++[id])<n:=by
   have:=CJ t (by rw[f];exact k);rw[f] at this;omega
  simp only[hc,Option.getD_some] at d ⊢;refine kP<|tN<|rZ<|lK (qL isAgg80 I<|ao.known P I)<|lM I<|lO (tn (i+1) mty80 I I I w) ?_;rintro _ _ _ ⟨rfl,rfl⟩;rw[tC k];refine tZ<|rZ<|lU (bj ap I aI I)<|lK (qL bg I<|cO 0 I I)<|lU (eN aW I)<|lM I<|tZ<|bK<|Jk (s':=s.set i<|mp m<|iU<|vis++[id]) (.cons _<|.refl _)<|oP (ι:=Nat×List Int) (fun q=>[(3,pp bf 0),(28,.slice F c.sides.length G),(29,vi c.sides.length),(30,vi q.1)]) (fun _=>g)
   (fun q=>s.set i<|mp m<|iU q.2) (fun q=>q.1≤c.sides.length∧q.2=(c.sides.take q.1).foldl (fun v x=>eF tl n x.cell v) (vis++[id])∧qT tl q.2<n) (fun q=>c.sides.length - q.1)
   (0,vis++[id]) sB rfl rfl ⟨zf7 _,by simp,l⟩ ?_
  rintro ⟨j,z⟩ ⟨Z,e,o⟩;dsimp only at Z e o ⊢;refine rZ<|yL I<|tZ<|sQ<|iP I (fun K=>?_) (fun K=>?_)
  ·have L:j<c.sides.length:=oM;have M:=d.based oM;have u:c.sides[((j:Nat):Int).toNat]?=some c.sides[j]:=bd L;generalize c.sides[j]=y at *;refine kP<|tN<|sQ<|bK<|rZ<|lU (iA aW aV I I M oM sL)<|lK (iN iV aV I d.rd u) (bW (aL zm1) fun b8=>?_);refine oZ (sK 0 aV I I I I I sB)<|tZ<|rG<|lK (qL isAgg137 I<|ao.known V I)<|lU (bj dh I zT3 I)<|lK (qL iT3 I<|cO 0 I I)<|lW (DO I I<|cQ.mk (cap:=[pp p 0,pp bm 0,pp bf 0]) call90<|ih y.cell z _ (i+1) o<|CC w _) ?_;rintro _ _ _ ⟨rfl,rfl⟩;refine cp<|bN<|tN<|rG<|yD I<|lM I<|cp<|dR (s':=s.set i<|mp m<|iU<|eF tl n y.cell z) (by rw[List.set_cons_zero,List.set_cons_succ,List.set_set];exact .cons _<|.refl _) ?_;exact ct (j+1,eF tl n y.cell z) sB I I ⟨lN,by
    rw[gK (j:=j) u,zj1,← e];rfl,Nat.lt_of_le_of_lt (pJ fun x hx=>sb tl n _ _ x hx) o⟩ lN
  ·refine xI<|tX<|tX<|bX ?_;have N:c.sides.take j=c.sides:=tL oM;have hr:eF tl (n+1) id vis=z:=by
    rw[N] at e;rw[e,qB,hc];simp only[k,Bool.false_eq_true,if_false]
   exact Iv (.inr I) results90 ⟨I,by rw[hr]⟩
theorem CK (tl:List Cl)(v:List Int):qT tl v≤tl.length:=zc6 _ _
theorem xe (v F:Value)(tl:List Cl)(ids:List Int)(G:Tab g v tl)(K:aM tl)(o:dA g F ids)(hl:ids.length<1099511627776) :
  Ctr Tryz.prog E 36 #[v,F] g s fun r g' s'=>∃ m,r = .map (some m)∧Le g g'∧s'=mp m (iU<|gw tl ids)::s:=by
 obtain ⟨p,c,rfl⟩:=za4 o;have t:v.cells = #[v]:=by obtain ⟨b,_,_,_,rfl,_⟩:=G;rfl
 refine zb2 (args:=[v,.slice p ids.length c]) func36 I ntmps36 (bE I)<|rZ (bW (bO I) fun H=>?_);refine zb5 fun g1 f i=>?_;rw[t] at i;refine aT I<|rZ<|lW (Io) ?_;rintro _ _ _ ⟨m,rfl,rfl,rfl⟩;refine bW (aL zeroValue80) fun u=>oZ (sK 0 sizeOf80 I I I I I ⟨I,trivial⟩) (zb5 fun g2 d k=>?_);refine tZ (rZ<|bW (aL zeroValue137) fun w=>?_);refine tZ (rZ<|lU (Ih I)<|oZ (sK 0 sizeOf137 I I I I I ⟨I,trivial⟩)<|zb5 fun g3 a l=>?_);refine tZ<|sQ<|sW I<|lU (eN aA I)<|lM I<|tZ<|bK ?_;have x:=G.mono<|f.trans<|d.trans a;have z:=o.mono<|f.trans<|d.trans a;refine oP (ι:=Nat×List Int) (fun q=>[(5,pp u 0),(6,pp w 0),(11,.slice p ids.length c),(12,vi ids.length),(13,vi q.1)]) (fun _=>g3)
  (fun q=>mp m (iU q.2)::s) (fun q=>q.1≤ids.length∧q.2=(ids.take q.1).foldl (fun v id=>eF tl (tl.length+1) id v) []) (fun q=>ids.length - q.1)
  (0,[]) sB rfl rfl ⟨zf7 _,by simp⟩ ?_
 rintro ⟨j,J⟩ ⟨L,e⟩;dsimp only at L e ⊢;refine rZ<|yL I<|tZ<|sQ<|iP I (fun A=>?_) (fun A=>?_)
 ·have B:j<ids.length:=oM;have C:=za6 o oM;have n:ids[((j:Nat):Int).toNat]?=some ids[j]:=bd B;generalize ids[j]=y at *;refine kP<|tN<|sQ<|bK<|rZ<|lU (iA aA zT3 I I C oM sL)<|lK (eB iT3 I (za7 z) n I)<|aT I<|rG<|lK (qL isAgg137 I<|ao.known l I)<|lM I<|lW (DO I I<|cQ.mk (cap:=[pp H 0,pp u 0,pp w 0]) call90<|AZ E g3 H u w m v tl x K ((d.trans a) _ _ i) (a _ _ k) l (tl.length+1) y J _ 0 (zk9<|CK _ _) I) ?_;rintro _ _ _ ⟨rfl,rfl⟩;exact cp<|bN<|tN<|rG<|yD I<|lM I<|cp<|ct (j+1,eF tl (tl.length+1) y J) sB I I ⟨lN,by rw[gK (j:=j) n,zj1,← e];rfl⟩ lN
 ·refine xI<|tX<|tX<|bX<|tN<|rZ<|lK (qL isAgg80 I<|ao.known (a _ _ k) I)<|aT I<|rE ?_;have D:ids.take j=ids:=tL oM;rw[D] at e;exact za8 (.inl I) results36 I ⟨m,I,f.trans<|d.trans a,by rw[e];rfl⟩
open Go Go.Sy Go.Pl Go.Proofs Go.Shelf Go.Sort
def yO:Ren :=
 {
  f:=fun x =>
   match x with
   | 189=>44
   | 125=>82
   | 257=>97
   | 128=>141
   | 129=>142
   | 294=>155
   | 295=>156
   | 296=>157
   | 297=>158
   | 298=>159
   | 299=>160
   | 216=>161
   | 300=>162
   | 301=>163
   | 328=>201
   | 329=>188
   | 330=>189
   | 331=>202
   | 332=>203
   | 215=>85
   | 343=>228
   | n=>n,
  t:=fun x =>
   match x with
   | 28=>43
   | 3=>3
   | 46=>126
   | 0=>0
   | 51=>177
   | 53=>179
   | 4=>4
   | 183=>171
   | 182=>170
   | 131=>97
   | 5=>5
   | 9=>9
   | 218=>216
   | 222=>220
   | 228=>233
   | 229=>234
   | n=>n,
  g:=fun x =>
   have n:=x;
   n }
theorem Tryz.lays189:Lays.n189 Tryz.prog yO :=
  {
  mixed:=Eq.refl true,f125:=zb8 func82<|ze3 some kR,
  f128:=zb8 func141<|ze3 some kR,
  f129:=zb8 func142<|ze3 some kR,
  f189:=zb8 func44<|ze3 some kR,
  f215:=zb8 func85<|ze3 some kR,
  f216:=zb8 func161<|ze3 some kR,
  f257:=zb8 func97<|ze3 some kR,
  f294:=zb8 func155<|ze3 some kR,
  f295:=zb8 func156<|ze3 some kR,
  f296:=zb8 func157<|ze3 some kR,
  f297:=zb8 func158<|ze3 some kR,
  f298:=zb8 func159<|ze3 some kR,
  f299:=zb8 func160<|ze3 some kR,
  f300:=zb8 func162<|ze3 some kR,
  f301:=zb8 func163<|ze3 some kR,
  f328:=zb8 func201<|ze3 some kR,
  f329:=zb8 func188<|ze3 some kR,
  f330:=zb8 func189<|ze3 some kR,
  f331:=zb8 func202<|ze3 some kR,
  f332:=zb8 func203<|ze3 some kR,
  f343:=zb8 func228<|ze3 some kR,t0:=uT0,
  a0:=isAgg0,z0:=sizeOf0,v0:=zm3,t3:=uT3,a3:=iT3,
  z3:=zT3,v3:=zl7,t4:=uT4,a4:=isAgg4,z4:=zT4,
  v4:=zm2,t5:=uT5,a5:=isAgg5,z5:=sizeOf5,v5:=zeroValue5,
  t9:=uT9,a9:=isAgg9,z9:=sizeOf9,v9:=zeroValue9,t28:=aA,
  a28:=iE,z28:=gy,v28:=zeroValue43,t46:=j7,a46:=isAgg126,
  z46:=sizeOf126,v46:=zeroValue126,t51:=underlying177,a51:=isAgg177,
  z51:=sizeOf177,v51:=zeroValue177,t53:=nK,a53:=isAgg179,
  z53:=sizeOf179,v53:=zeroValue179,t131:=underlying97,a131:=isAgg97,
  z131:=sizeOf97,v131:=zeroValue97,t182:=underlying170,a182:=isAgg170,
  z182:=sizeOf170,v182:=zeroValue170,t183:=underlying171,a183:=isAgg171,
  z183:=sizeOf171,v183:=zeroValue171,t218:=underlying216,a218:=isAgg216,
  z218:=sizeOf216,v218:=zeroValue216,t222:=underlying220,a222:=isAgg220,
  z222:=sizeOf220,v222:=zeroValue220,t228:=underlying233,a228:=isAgg233,
  z228:=sizeOf233,v228:=zeroValue233,t229:=underlying234,a229:=isAgg234,
  z229:=sizeOf234,v229:=zeroValue234 }
def fh (l:List Int):List Int:=l.mergeSort fun x y=>decide<|x≤y
theorem gN (l:List Int):(fh l).length=l.length:=List.length_mergeSort ..
theorem rX (l:List Int):(fh l).Perm l:=List.mergeSort_perm ..
theorem pz (l:List Int):l.flatMap encInt.enc=l.map (Value.int .i64):=by
 induction l with
 | nil=>rfl
 | cons a t ih=>simp only[zh6,zg5,ih];rfl
theorem uA (v:Value)(l:List Int)(i:Nat)(f:s[i]?=some (rowA encInt 3 v l))(hl:l.length<17592186044416) :
  Ctr Tryz.prog E 44 #[v] g s fun _ g' s'=>g=g'∧s'=s.set i (rowA encInt 3 v<|fh l):=by
 intro w j;obtain ⟨D,u⟩:=ia j f
 rcases u with ⟨p,rfl,hn⟩ | ⟨b,cap,cur,rfl,hb,x,m,c,y⟩
 ·have o:l=[]:=zf5 hn;subst o;refine (Any.slices_Sort_int_none lays189 p 0 w).mono ?_;rintro e w' ⟨rfl,rfl⟩;refine⟨_,g,s,I,j,I,?_⟩;have:fh []=[]:=by simp[fh]
  rw[this];exact (oh f).symm
 ·have q:cur.toList.take l.length=l.map (Value.int .i64):=by rw[← pz];simpa using y
  refine (Any.slices_Sort_int lays189 b 0 (cap+1) l w (holds_of_blockI hb q) (Array.getElem?_eq_some_iff.1 hb).1 oM).mono ?_;rintro e w' ⟨rfl,n,os,rfl⟩;have z:=j.fresh _ (zg3 f) b rfl;refine⟨_,g,_,I,?_,I,I⟩;obtain ⟨F,G,H,t,A⟩:=grownBy_sortedI (w:=w) (g:=b) (n:=n) (os:=os) (fh l).toArray;refine j.turn f I ⟨I,(by exact Nat.le_add_right _ _)⟩ I t (fun k B r=>A k B r) ?_ ?_
  ·have C:=heap_sortedI (n:=n) (os:=os) (fh l).toArray hb;have a:=gN l;have:=eH (w:=grow (putRow (Value.int .i64) (Sort.ahead w n) b 0 (fh l).toArray) os) (T:=3) (k:=1) (n:=(fh l).length) (b:=b) (cap:=cap) (xs:=(fh l).flatMap encInt.enc) (by rw[encInt.length]) C oM m (by simp[putCells];simpa using c) (by
    rw[pz,Nat.mul_one];exact take_putCellsI cur (fh l)<|by rw[a,c];omega)
   rw[a] at this;rw[show rowA encInt 3 (.slice (some ⟨b,0,none⟩) l.length<|cap+1) (fh l)=row 3 1 (.slice (some ⟨b,0,none⟩) l.length<|cap+1) l.length ((fh l).flatMap encInt.enc) by simp only[rowA,a]];exact this
  ·intro b' d;simp only[rowA,row,jV,zg8] at d;subst d;exact⟨Nat.lt_of_lt_of_le (Array.getElem?_eq_some_iff.1 hb).1 t,.inl I⟩
def gp (c:Cl):Bool:=decide (c.dim<0)||decide (c.dim>8)
def aY (c:Cl):Bool:=(decide (c.dim=0)&&decide ((c.sides.length:Int)>0))||(decide (c.dim=1)&&decide ((c.sides.length:Int)≠2))||(decide (c.dim>1)&&(decide ((c.sides.length:Int)<2)||decide ((c.sides.length:Int)>64)))
def cJ (tl:List Cl)(c:Cl)(i:Nat)(x:ak):Bool:=!(ah tl x.cell).isSome||decide (((ah tl x.cell).getD aJ).dim≠c.dim - 1)||(decide (i>0)&&decide ((c.sides[i - 1]?.map ak.cell)=some x.cell))
section
variable {p:Cl}{x:ak}
theorem pS (h:¬ (ah tl x.cell).isSome=true):cJ tl c i x=true:=by
 have:(ah tl x.cell).isSome=false:=by simpa using h
 simp[cJ,this]
theorem ws (h:(ah tl x.cell).isSome=true)(a:((ah tl x.cell).getD aJ).dim≠c.dim - 1):cJ tl c i x=true:=by
 simp only[cJ,h,a,Bool.not_true,Bool.false_or,ne_eq,not_false_eq_true,decide_true,Bool.true_or]
theorem wo (h:(ah tl x.cell).isSome=true)(a:¬ ((ah tl x.cell).getD aJ).dim≠c.dim - 1)(d:¬ (i:Int)>0):cJ tl c i x=false:=by
 have b:¬ i>0:=oM;simp only[cJ,h,a,b,Bool.not_true,Bool.false_or,decide_false,Bool.false_and]
theorem wn {q:ak}(h:(ah tl x.cell).isSome=true)(a:¬ ((ah tl x.cell).getD aJ).dim≠c.dim - 1)(d:(i:Int)>0)(hq:c.sides[i - 1]?=some q):cJ tl c i x=decide (q.cell=x.cell):=by
 have b:i>0:=oM;simp only[cJ,h,a,b,hq,Bool.not_true,Bool.false_or,decide_false,decide_true,Bool.true_and,Option.map_some,zg8]
end
def jz (tl:List Cl)(c:Cl)(i:Nat):Bool:=match c.sides[i]? with
 | some x=>cJ tl c i x
 | none=>false
def cj (x:ak):Bool:=decide (x.sign≠1)&&decide (x.sign ≠ -1)
theorem vu {x:ak}(h:x.sign≠1):cj x=decide (x.sign ≠ -1):=by simp[cj,h]
theorem vq {x:ak}(h:¬ x.sign≠1):cj x=false:=by simp[cj,h]
def nG (l:List ak):Int:=(l.map ak.sign).sum
def dj (tl:List Cl)(c:Cl):Int :=
 if gp c then 21 else if aY c then 22 else if (List.range c.sides.length).any (jz tl c) then 22 else if c.sides.any cj then 23 else if (decide (c.dim=1)&&decide (nG c.sides≠0)) then 23 else 0
theorem AM {l:List ak}(h:l.any cj=false):nG l≤l.length ∧ -(l.length:Int)≤nG l:=by
 induction l with
 | nil=>simp[nG]
 | cons x t ih =>
  simp only[List.any_cons,Bool.or_eq_false_iff] at h;have:=ih h.2;have b:x.sign=1∨x.sign = -1:=by
   have a:=h.1;simp only[cj,Bool.and_eq_false_iff,hP,ne_eq,Decidable.not_not] at a;exact a
  simp only[nG,zg5,List.sum_cons,ze9] at this ⊢;omega
theorem DJ (v:Value)(tl:List Cl)(c:Cl)(r:Rc)(hv:Tab g v tl)(hc:an g c r)(hl:c.sides.length<1099511627776) :
  Ctr Tryz.prog E 126 #[v,rcv r] g s fun r g' s'=>r=vi (dj tl c)∧g=g'∧s=s':=by
 obtain ⟨b,mt,iv,rs,rfl,hb,hm,hI,S⟩:=hv;obtain ⟨T,rd,H,rn,a⟩:=r;have l:SlA encSide g (.slice H rn a) c.sides:=hc.2.2;have a0:rn=c.sides.length:=zc2 l;have a1:rd=c.dim:=hc.2.1;subst a0 a1;have U:=fun h=>l.based h;refine zb2 (args:=[pp b 0,rcv ⟨T,c.dim,H,c.sides.length,a⟩]) func126 I ntmps126 (bE I)<|rZ (bW (bO I) fun R=>?_);refine aT I<|rZ<|lU (bj ap I aI I)<|lK (qL bg I<|cO 0 I I)<|lU (eN aW I)<|aT I<|sQ<|bK<|BY 16 (gp c) ?_ ?_
 ·refine rG<|lU (bj ap I zT3 I)<|lK (qL iT3 I<|cO 0 I I)<|yL I<|lM I<|sP ?_ ?_
  ·intro a2;exact yA I<|yA I<|yA I<|yP I<|lA I<|cp<|zb1 (by simp_all[aU,gp] <;> omega) mI
  ·intro a2;exact lY I I I (bj ap I zT3 I)<|lR (gT I I I dC) (qL iT3 I<|cO 0 I I) dC<|lY I I I (gR I I)<|yF I<|lA I<|cp<|zb1 (by simp_all[aU,gp] <;> omega) mI
 refine iQ I (fun e=>?_) (fun e=>?_)
 ·exact rZ<|aT I<|rE<|bR<|tR<|dR (s':=s) uR<|za8 (.inl I) results126 I ⟨by unfold dj;rw[zg2 e],I,I⟩
 ·have b5:0≤c.dim∧c.dim≤8:=by simp[gp] at e;omega
  refine BY 25 (aY c) ?_ ?_
  ·refine rG<|lU (bj ap I zT3 I)<|lK (qL iT3 I<|cO 0 I I)<|yE I<|lM I<|sP ?_ ?_
   ·intro a3;refine yC I<|lY I I I (gR I I)<|yP I<|lM I<|sP ?_ ?_
    ·intro a4;exact yA I<|yA I<|yA I<|yA I<|yB I<|yB I<|yA I<|yP I<|lM I<|yA I<|yA I<|yA I<|yA I<|yB I<|yB I<|yB I<|yB I<|yB I<|yB I<|yA I<|yP I<|lA I<|cp<|zb1 (by simp_all[aU,aY] <;> omega) mI
    ·intro a4;refine lY I I I (bj ap I zT3 I)<|lR (gT I I I dC) (qL iT3 I<|cO 0 I I) dC<|lY I I I (eQ I I)<|yC I<|sP ?_ ?_
     ·intro L;refine yC I<|lY I I I (nQ I I)<|lY I I I (wT I I)<|yF I<|lM I<|sP ?_ ?_
      ·intro M;exact yA I<|yA I<|yA I<|yA I<|yB I<|yB I<|yB I<|yB I<|yB I<|yB I<|yA I<|yP I<|lA I<|cp<|zb1 (by simp_all[aU,aY] <;> omega) mI
      ·intro M;refine lY I I I (bj ap I zT3 I)<|lR (gT I I I dC) (qL iT3 I<|cO 0 I I) dC<|lY I I I (gR I I)<|yC I<|sP ?_ ?_
       ·intro f;refine yC I<|lY I I I (lS I I)<|yC I<|sP ?_ ?_
        ·intro i;exact yA I<|yA I<|lY I I I (wT I I)<|lY I I I (wT I I)<|yF I<|lA I<|cp<|zb1 (by simp_all[aU,aY] <;> omega) mI
        ·intro i;exact yC I<|lY I I I (gR I I)<|lY I I I (wF I I)<|lY I I I (wT I I)<|yF I<|lA I<|cp<|zb1 (by simp_all[aU,aY] <;> omega) mI
       ·intro f;exact yA I<|yA I<|yA I<|yB I<|yB I<|yA I<|lY I I I (wF I I)<|yF I<|lA I<|cp<|zb1 (by simp_all[aU,aY] <;> omega) mI
     ·intro L;refine yA I<|yA I<|lY I I I (wF I I)<|yF I<|lM I<|lY I I I (bj ap I zT3 I)<|lR (gT I I I dC) (qL iT3 I<|cO 0 I I) dC<|lY I I I (gR I I)<|yC I<|sP ?_ ?_
      ·intro f;refine yC I<|lY I I I (lS I I)<|yC I<|sP ?_ ?_
       ·intro i;exact yA I<|yA I<|lY I I I (wT I I)<|lY I I I (wT I I)<|yF I<|lA I<|cp<|zb1 (by simp_all[aU,aY] <;> omega) mI
       ·intro i;exact yC I<|lY I I I (gR I I)<|lY I I I (wF I I)<|lY I I I (wT I I)<|yF I<|lA I<|cp<|zb1 (by simp_all[aU,aY] <;> omega) mI
      ·intro f;exact yA I<|yA I<|yA I<|yB I<|yB I<|yA I<|lY I I I (wF I I)<|yF I<|lA I<|cp<|zb1 (by simp_all[aU,aY] <;> omega) mI
   ·intro a3;refine yA I<|yA I<|yF I<|lM I<|lY I I I (bj ap I zT3 I)<|lR (gT I I I dC) (qL iT3 I<|cO 0 I I) dC<|lY I I I (eQ I I)<|yC I<|sP ?_ ?_
    ·intro L;refine yC I<|lY I I I (nQ I I)<|lY I I I (wT I I)<|yF I<|lM I<|sP ?_ ?_
     ·intro M;exact yA I<|yA I<|yA I<|yA I<|yB I<|yB I<|yB I<|yB I<|yB I<|yB I<|yA I<|yP I<|lA I<|cp<|zb1 (by simp_all[aU,aY] <;> omega) mI
     ·intro M;refine lY I I I (bj ap I zT3 I)<|lR (gT I I I dC) (qL iT3 I<|cO 0 I I) dC<|lY I I I (gR I I)<|yC I<|sP ?_ ?_
      ·intro f;refine yC I<|lY I I I (lS I I)<|yC I<|sP ?_ ?_
       ·intro i;exact yA I<|yA I<|lY I I I (wT I I)<|lY I I I (wT I I)<|yF I<|lA I<|cp<|zb1 (by simp_all[aU,aY] <;> omega) mI
       ·intro i;exact yC I<|lY I I I (gR I I)<|lY I I I (wF I I)<|lY I I I (wT I I)<|yF I<|lA I<|cp<|zb1 (by simp_all[aU,aY] <;> omega) mI
      ·intro f;exact yA I<|yA I<|yA I<|yB I<|yB I<|yA I<|lY I I I (wF I I)<|yF I<|lA I<|cp<|zb1 (by simp_all[aU,aY] <;> omega) mI
    ·intro L;refine yA I<|yA I<|lY I I I (wF I I)<|yF I<|lM I<|lY I I I (bj ap I zT3 I)<|lR (gT I I I dC) (qL iT3 I<|cO 0 I I) dC<|lY I I I (gR I I)<|yC I<|sP ?_ ?_
     ·intro f;refine yC I<|lY I I I (lS I I)<|yC I<|sP ?_ ?_
      ·intro i;exact yA I<|yA I<|lY I I I (wT I I)<|lY I I I (wT I I)<|yF I<|lA I<|cp<|zb1 (by simp_all[aU,aY] <;> omega) mI
      ·intro i;exact yC I<|lY I I I (gR I I)<|lY I I I (wF I I)<|lY I I I (wT I I)<|yF I<|lA I<|cp<|zb1 (by simp_all[aU,aY] <;> omega) mI
     ·intro f;exact yA I<|yA I<|yA I<|yB I<|yB I<|yA I<|lY I I I (wF I I)<|yF I<|lA I<|cp<|zb1 (by simp_all[aU,aY] <;> omega) mI
  refine iQ I (fun d=>?_) (fun d=>?_)
  ·exact rZ<|aT I<|rE<|bR<|tR<|dR (s':=s) uR<|za8 (.inl I) results126 I ⟨by unfold dj;rw[zg1<|by simp[e],zg2 d],I,I⟩
  ·have b4:c.sides.length≤64:=by
    simp[aY] at d
    rcases Int.lt_trichotomy c.dim 1 with h | h | h
    ·have:c.dim=0:=oM;have:=d.1.1 this;simp[this]
    ·have:=d.1.2 h;omega
    ·have:=d.2 h;omega
   refine kP<|bN<|tN<|sQ<|rZ<|lU (bj ap I aI I)<|lK (qL bg I<|cO 0 I I)<|lU (eN aW I)<|lM I<|tZ<|bK<|oP (ι:=Nat) (fun k=>[(0,pp b 0),(3,pp R 0),(5,vi c.sides.length),(56,.slice H c.sides.length a),(57,vi c.sides.length),(58,vi k)]) (fun _=>g)
    (fun _=>pt R (bY #[vi T,vi c.dim,.slice H c.sides.length a] 61)::s) (fun k=>k≤c.sides.length∧(List.range k).any (jz tl c)=false) (fun k=>c.sides.length - k) 0
    sB rfl rfl ⟨zf7 _,by simp⟩ ?_
   rintro k ⟨hk,C⟩;try dsimp only
   refine rZ<|yL I<|tZ<|sQ<|iP I (fun a5=>?_) (fun a5=>?_)
   ·have j:k<c.sides.length:=oM;have N:=U oM;have O:c.sides[((k:Nat):Int).toNat]?=some c.sides[k]:=bd j;have V:c.sides[k]?=some c.sides[k]:=bd j;generalize c.sides[k]=y at *;obtain ⟨x,a9,b0,b1⟩:=dQ S iw y.cell;obtain ⟨xi,xd,xp,xn,xc⟩:=x;have b2:xd=((ah tl y.cell).getD aJ).dim:=b1.2.1;subst b2;have P:(k:Int)>0→c.sides[((k:Int) - 1).toNat]?=some (c.sides.getD (k - 1) y):=fun h=>by
     have h1:((k:Int) - 1).toNat=k - 1:=oM;have W:k - 1<c.sides.length:=oM;rw[h1,bd W,zh2,bd W];rfl
    have D:(k:Int)>0→c.sides[k - 1]?=some (c.sides.getD (k - 1) y):=fun h=>by
     have W:k - 1<c.sides.length:=oM;rw[bd W,zh2,bd W];rfl
    refine kP (tN<|sQ<|bK<|sW I<|lU (iA aW aV I I N oM sL)<|lK (iN iV aV I l.rd O)<|bW (aL zm1) fun b7=>?_);refine lA I<|oZ (sK 0 aV I I I I I sB)<|tZ<|sQ<|dW [11,12] [(0,2),(1,2),(2,2),(3,1),(4,2),(5,1),(6,1),(7,2),(8,2),(9,2),(10,0),(11,0),(12,0)] ze4 kR<|yM I<|pU I (nC I)<|pU I (bj uo I rm I)<|gB I (qL ru I<|ao.known hb I)<|pU I (bj dh I zT3 I)<|gB I (qL iT3 I<|cO 0 I I)<|gB I (SQ.eq (v':=.tuple #[rcv ⟨xi,((ah tl y.cell).getD aJ).dim,xp,xn,xc⟩,vb<|decide<|(ah tl y.cell).isSome=true]) (qn mty56 I I<|bo.known hm)<|by rw[a9,b0,Bool.decide_eq_true];rfl) ?_;refine yM I<|pU I (xT I I)<|pU I (xT I I)<|mf I (aL zl6) dC (.inr iR) ?_;rintro _ _ _ ⟨b8,rfl,rfl,rfl⟩;refine H8 I (sK 0 ar I I I I I sB) (.inl dC) ?_;rintro _ _ _ ⟨rfl,rfl⟩;refine oU I (aS I) dC (.inl dC)<|du<|tN<|BY 98 (cJ tl c k y) ?_ ?_
    ·refine dW [] [(0,2),(1,2),(2,2),(3,2),(4,1),(5,2),(6,1),(7,2),(8,2),(9,2),(10,2),(11,2),(12,2),(13,2),(14,2),(15,1),(16,2),(17,2),(18,2),(19,2),(20,1),(21,2),(22,1),(23,2),(24,2),(25,2)] ze4 kR<|yM I<|pU I (IN I)<|yM I<|Jf ?_ ?_
     ·intro p;exact yG I<|yI I<|yG I<|yI I<|yG I<|yG I<|pU I (wT I I)<|yM I<|yG I<|yG I<|yG I<|yH I<|It I (zb4 I I I dC) dC<|yH I<|yH I<|yH I<|yH I<|It I (zb4 I I I dC) dC<|yH I<|It I (zb4 I I I dC) dC<|yH I<|yG I<|pU I (wT I I)<|du<|zb1 (by exact ze3 (fun b=>some<|Value.bool b) (pS p).symm) mI
     ·intro p;refine zb3 I (gT I I I dC) (bj ap I zT3 I) dC<|By I (gT I I I dC) (qL iT3 I<|cO 0 I I) dC<|zb3 I (gT I I I dC) (bj ap I zT3 I) dC<|By I (gT I I I dC) (qL iT3 I<|cO 2 I I) dC<|zb3 I (gT I I I dC) (sU I I oM) dC<|zb3 I (gT I I I dC) (nQ I I) dC<|pU I (wF I I)<|yM I<|Jf ?_ ?_
      ·intro F;exact yG I<|yG I<|yG I<|yH I<|It I (zb4 I I I dC) dC<|yH I<|yH I<|yH I<|yH I<|It I (zb4 I I I dC) dC<|yH I<|It I (zb4 I I I dC) dC<|yH I<|yG I<|pU I (wT I I)<|du<|zb1 (by exact ze3 (fun b=>some<|Value.bool b) (ws (zh1 p) F).symm) mI
      ·intro F;refine yJ I<|zb3 I (gT I I I dC) (gR I I) dC<|yJ I<|Jf ?_ ?_
       ·intro q;refine zb3 I (gT I I I dC) (bj ap I aI I) dC<|By I (gT I I I dC) (qL bg I<|cO 2 I I) dC<|yJ I<|zb3 I (gT I I I dC) (sU I I oM) dC<|zb3 I (gT I I I dC) (iA aW aV I I io oM<|by (simp[slen];omega)) dC ?_;refine zb3 I (gT I I I dC) (fC dh I zT3 I<|by assumption) dC ?_;refine By I (gT I I I dC) (aZ (o:=0) iT3 I l.rd (P q) I) dC<|zb3 I (gT I I I dC) (bj dh I zT3 I) dC<|By I (gT I I I dC) (qL iT3 I<|cO 1 I I) dC<|zb3 I (gT I I I dC) (eQ I I) dC<|zb3 I (gT I I I dC) (wT I I) dC<|pU I (wF I I)<|du ?_;exact zb1 (by exact ze3 (fun b=>some<|Value.bool b) (wn (zh1 p) F q<|D q).symm) mI
       ·intro q;exact yG I<|yI I<|yG I<|yG I<|yG I<|yG I<|yI I<|yG I<|yI I<|yG I<|zb3 I (gT I I I dC) (wF I I) dC<|pU I (wF I I)<|du<|zb1 (by exact ze3 (fun b=>some<|Value.bool b) (wo (zh1 p) F q).symm) mI
    have J:jz tl c k=cJ tl c k y:=by unfold jz;rw[V]
    refine iQ I (fun t=>?_) (fun t=>?_)
    ·refine rZ<|aT I<|rE<|bR<|tR<|tR<|bR<|tR<|dR (s':=s) uR ?_;have u:(List.range c.sides.length).any (jz tl c)=true:=zj9.2 ⟨k,List.mem_range.2 j,by rw[J];exact t⟩;exact za8 (.inl I) results126 I ⟨by unfold dj;rw[zg1<|by simp[e],zg1<|by simp[d],zg2 u],I,I⟩
    ·exact kP<|bN<|tN<|rG<|yD I<|lM I<|cp<|dR (s':=pt R (bY #[vi T,vi c.dim,.slice H c.sides.length a] 61)::s) (.cons _<|.cons _<|.refl _)<|ct (k+1) sB I I ⟨oM,by rw[wb,List.any_append,C];simp[J,t]⟩ oM
   ·refine xI<|tX<|tX<|bX<|tN<|rZ<|aT I<|sQ<|rZ<|lU (bj ap I aI I)<|lK (qL bg I<|cO 0 I I)<|lU (eN aW I)<|lM I<|tZ<|bK ?_;have G:k=c.sides.length:=oM;subst G;refine oP (ι:=Nat) (fun k=>[(3,pp R 0),(10,vi<|nG<|c.sides.take k),(101,.slice H c.sides.length a),(102,vi c.sides.length),(103,vi k)]) (fun _=>g)
     (fun _=>pt R (bY #[vi T,vi c.dim,.slice H c.sides.length a] 61)::s) (fun k=>k≤c.sides.length∧(c.sides.take k).any cj=false) (fun k=>c.sides.length - k) 0
     sB rfl rfl ⟨zf7 _,by simp⟩ ?_
    rintro k ⟨b6,w⟩;try dsimp only
    have b9:=AM w;have c0:(c.sides.take k).length=k:=by simp;omega
    refine rZ<|yL I<|tZ<|sQ<|iP I (fun X=>?_) (fun X=>?_)
    ·have j:k<c.sides.length:=oM;have N:=U oM;have O:c.sides[((k:Nat):Int).toNat]?=some c.sides[k]:=bd j;have Y:c.sides.take (k+1)=c.sides.take k++[c.sides[k]]:=tS j;have Q:c.sides[k]∈c.sides:=gM j;generalize c.sides[k]=y at *;refine kP (tN<|sQ<|bK<|rZ<|lU (iA aW aV I I N oM sL)<|lK (iN iV aV I l.rd O)<|bW (aL zm1) fun c1=>?_);refine oZ (sK 0 aV I I I I I sB)<|tZ<|sQ<|BY 114 (cj y) ?_ ?_
     ·refine rG<|lU (bj dh I zT3 I)<|lK (qL iT3 I<|cO 0 I I)<|lU (nQ I I)<|lM I<|sP ?_ ?_
      ·intro z;exact lY I I I (bj dh I zT3 I)<|lR (gT I I I dC) (qL iT3 I<|cO 0 I I) dC<|lY I I I (nQ I I)<|yP I<|cp<|zb1 (by exact ze3 (fun b=>some<|Value.bool b) (vu z).symm) mI
      ·intro z;exact yA I<|yA I<|yA I<|yF I<|cp<|zb1 (by exact ze3 (fun b=>some<|Value.bool b) (vq z).symm) mI
     refine iQ I (fun A=>?_) (fun A=>?_)
     ·refine rZ<|aT I<|rE<|tR<|bR<|tR<|tR<|bR<|tR<|dR (s':=s) uR ?_;have u:c.sides.any cj=true:=zj9.2 ⟨y,Q,A⟩;exact za8 (.inl I) results126 I ⟨by unfold dj;rw[zg1<|by simp[e],zg1<|by simp[d],zg1<|by simp[C],zg2 u],I,I⟩
     ·have c2:y.sign=1∨y.sign = -1:=by
       simp only[cj,Bool.and_eq_false_iff,hP,ne_eq,Decidable.not_not] at A;exact A
      exact kP<|tN<|rG<|lM I<|lU (bj dh I zT3 I)<|lK (qL iT3 I<|cO 0 I I)<|lU (aD (m:=nG<|c.sides.take k) (n:=y.sign) I I oM)<|lA I<|cp<|bN<|tN<|rG<|yD I<|lM I<|cp<|dR (s':=pt R (bY #[vi T,vi c.dim,.slice H c.sides.length a] 61)::s) (.cons _<|.refl _)<|ct (k+1) ⟨I,Hr I<|by rw[Y];simp[nG],I,I,I,trivial⟩ I I ⟨oM,by rw[Y,List.any_append,w];simp[A]⟩ oM
    ·have G:c.sides.take k=c.sides:=tL oM;rw[G] at w;rw[G];refine xI<|tX<|tX<|bX<|tN<|sQ<|BY 126 ((decide (c.dim=1)&&decide (nG c.sides≠0))) ?_ ?_
     ·refine rG<|lU (bj ap I zT3 I)<|lK (qL iT3 I<|cO 0 I I)<|yE I<|lM I<|sP ?_ ?_
      ·intro Z;exact yC I<|lY I I I (nQ I I)<|yP I<|cp<|zb1 (by simp_all[aU]) mI
      ·intro Z;exact yA I<|yA I<|yF I<|cp<|zb1 (by simp_all[aU]) mI
     refine iQ I (fun B=>?_) (fun B=>?_)
     ·exact rZ<|aT I<|rE<|tR<|dR (s':=s) uR<|za8 (.inl I) results126 I ⟨by unfold dj;rw[zg1<|by simp[e],zg1<|by simp[d],zg1<|by simp[C],zg1<|by simp[w],zg2 B],I,I⟩
     ·exact kP<|tN<|rZ<|aT I<|rE<|dR (s':=s) uR<|za8 (.inl I) results126 I ⟨by unfold dj;rw[zg1<|by simp[e],zg1<|by simp[d],zg1<|by simp[C],zg1<|by simp[w],zg1<|by rw[B];simp],I,I⟩
theorem Tryz.mty151:MTy Tryz.prog 151 3 3<|vi 0:=⟨underlying151,underlying3,zl7⟩
theorem Tryz.mty214:MTy Tryz.prog 214 3 43<|.slice none 0 0:=⟨underlying214,underlying3,zeroValue43⟩
abbrev Ms:=List<|Int×Value×List Int
def gv (ms:Ms):Own:=ms.map fun t=>rowA encInt 3 t.2.1 t.2.2
def jR (ms:Ms):List<|Int×Value:=ms.map fun t=>(t.1,t.2.1)
def iG (ms:Ms):List<|Int×List Int:=ms.map fun t=>(t.1,t.2.2)
def ii:List (Int×List Int)→Int→Int→List (Int×List Int)
 | [],k,x=>[(k,[x])]
 | (a,l)::r,k,x=>if k=a then (a,l++[x])::r else (a,l)::ii r k x
def fQ:List (Int×Int)→Int→Int→List (Int×Int)
 | [],k,x=>[(k,x)]
 | (a,z)::r,k,x=>if k=a then (a,z+x)::r else (a,z)::fQ r k x
def ff:List (Int×Int)→Int→Int
 | [],_=>0
 | (a,z)::r,k=>if k=a then z else ff r k
def gH (zl:List<|Int×Int):List<|Int×Value:=zl.map fun p=>(p.1,vi p.2)
theorem mh (b:List<|Int×Int)(k:Int):(eU (gH b) k).getD (vi 0)=vi (ff b k):=by
 induction b with
 | nil=>rfl
 | cons p r ih =>
  obtain ⟨a,z⟩:=p;simp only[gH,zg5,dv,ff] at ih ⊢;split
  ·rfl
  ·exact ih
theorem ug (b:List<|Int×Int)(k x:Int):gS (gH b) k (vi<|ff b k+x)=gH (fQ b k x):=by
 induction b with
 | nil=>simp[gH,gS,fQ,ff]
 | cons p r ih =>
  obtain ⟨a,z⟩:=p;simp only[gH,zg5,gS,ff,fQ] at ih ⊢;split
  ·rename_i h;subst h;rfl
  ·simp only[zg5,ih]
theorem ns {b:List<|Int×Int}{B:Int}(hB:0≤B)(h:∀ p∈b,-B≤p.2∧p.2≤B)(k:Int) : -B≤ff b k∧ff b k≤B:=by
 induction b with
 | nil=>simp only[ff];omega
 | cons p r ih =>
  obtain ⟨a,z⟩:=p;simp only[ff];split
  ·exact h (a,z) dO
  ·exact ih fun q hq=>h q (by simp[hq])
theorem nD {b:List<|Int×Int}{B:Int}(hB:0≤B)(h:∀ p∈b,-B≤p.2∧p.2≤B)(k:Int){x:Int}(d : -1≤x∧x≤1):∀ p∈fQ b k x,-(B+1)≤p.2∧p.2≤B+1:=by
 induction b with
 | nil =>
  intro p hp;simp only[fQ,zh8] at hp;subst hp;dsimp only;omega
 | cons q r ih =>
  obtain ⟨a,z⟩:=q;intro p hp;simp only[fQ] at hp;have c:=h (a,z) dO;dsimp only at c;split at hp
  ·rcases zf2.1 hp with rfl | hp
   ·dsimp only;omega
   ·have:=h p (by simp[hp]);omega
  ·rcases zf2.1 hp with rfl | hp
   ·dsimp only;omega
   ·exact ih (fun q hq=>h q<|by simp[hq]) p hp
theorem HF (ms:Ms)(k:Int):∃ (b:Ms) (j:Nat) (v:Value) (l:List Int),b[j]?=some (k,v,l)∧(eU (jR ms) k).getD (.slice none 0 0)=v∧(∀ v' x,gS (jR ms) k v'=jR (b.set j (k,v',l++[x]))) ∧
  (∀ v' x,iG (b.set j (k,v',l++[x]))=ii (iG ms) k x)∧(∀ B,(∀ t∈ms,t.2.2.length≤B)→∀ t∈b,t.2.2.length≤B)∧∀ E g (hd s:Own) w,At E g (hd++(gv ms++s)) w→At E g (hd++(gv b++s)) w:=by
 induction ms with
 | nil =>
  refine⟨[(k,.slice none 0 0,[])],0,.slice none 0 0,[],I,I,fun v' x=>I,fun v' x=>by simp[iG,ii],fun B _ t c=>by simp at c;subst c;simp,fun E g hd s w h=>?_⟩;have f:=h.nilRow 3 1;refine f.perm ?_;simp only[gv,List.map_nil,Ix,zg5,List.singleton_append];exact List.perm_middle.symm
 | cons p r ih =>
  obtain ⟨a,u,d⟩:=p;by_cases e:k=a
  ·subst e;refine⟨(k,u,d)::r,0,u,d,I,by simp[jR,dv],fun v' x=>by simp[jR,gS],fun v' x=>by simp[iG,ii],fun B h=>h,fun E g hd s w h=>h⟩
  ·obtain ⟨b,j,v,l,f,i,m,n,o,q⟩:=ih;refine⟨(a,u,d)::b,j+1,v,l,by simpa using f,?_,fun v' x=>?_,fun v' x=>?_,fun B h t c=>?_,fun E g hd s w h=>?_⟩
   ·rw[← i];simp[jR,dv,e]
   ·have:=m v' x;simp only[jR,zg5,gS,List.set_cons_succ] at this ⊢;rw[zg1 e,this]
   ·have:=n v' x;simp only[iG,zg5,ii,List.set_cons_succ] at this ⊢;rw[zg1 e,this]
   ·rcases zf2.1 c with rfl | c
    ·exact h _ dO
    ·exact o B (fun t c=>h t<|by simp[c]) t c
   ·have:=q E g (hd++[rowA encInt 3 u d]) s w (by simpa [gv] using h);simpa [gv] using this
theorem SC.to {E:World}{c:Code}{g:PH}{s:Own}(h:∀ w,At E g s w→At E g' s' w)(hc:SC P N E c Q f g' s'):SC P N E c Q f g s:=fun a w b d=>hc a w b<|h w d
theorem ST.to {E:World}{e:Exit}{g:PH}{s:Own}(h:∀ w,At E g s w→At E g' s' w)(hc:ST N E Q e f g' s'):ST N E Q e f g s:=fun a w b c=>hc a w b<|h w c
theorem SL.to {E:World}{ops:Array Oper}{l:List Oper}{g:PH}{s:Own}(h:∀ w,At E g s w→At E g' s' w)(hc:SL P N E ops Q l f g' s'):SL P N E ops Q l f g s:=fun a w b c=>hc a w b<|h w c
theorem kG {α:Type}(s:List α)(n j:Nat)(x:α):(s.take n).Sublist<|s.set (j+n) x:=by
 rw[show s.take n=(s.set (j+n) x).take n by rw[List.take_set_of_le oM]];exact List.take_sublist _ _
theorem SC.drawT {E:World}{ops:Array Oper}{g:PH}{s:Own}{id:Nat}(n:Nat)(tail:List Nat)(plan:List<|Nat×Nat)(hm:P.follows .mixedOrders=true)(b:xM ops tail plan=true)
  (h:SP P N E ops Q g (s.take n) tail plan f g s):SC P N E (.region id ops true) Q f g s:=by
 intro a w d c;unfold xM at b;simp only[zj4,beq_iff_eq] at b;refine wp_region_any hm<|jg _ _ _ _ (S:=At E g<|s.take n) (tail:=tail) ?_;have:=h (Array.replicate ops.size false) a { w with drawn:=w.drawn+1 } b.1.1 (jE _) b.2 d (c.drew _<|Nat.le_succ _) (fun _=>(c.sublist<|List.take_sublist n s).drew _<|Nat.le_succ _);rw[b.1.2] at this;exact this
theorem tF {ms:Ms}{l:List Int}(h:ms[j]?=some (k,v,l))(s:Own):(gv ms++s)[j]?=some (rowA encInt 3 v l):=by
 have a:=(zf6.1 h).1;rw[zh3<|by simpa [gv] using a];simp[gv,h]
theorem tE {ms:Ms}{v':Value}{l l':List Int}(h:ms[j]?=some (k,v,l))(s:Own):(gv ms++s).set j (rowA encInt 3 v' l')=gv (ms.set j (k,v',l'))++s:=by
 have a:=(zf6.1 h).1;rw[List.set_append_left _ _<|by simpa [gv] using a];simp[gv,List.map_set]
theorem freezeRows {E:World}{w:World}:∀ (ms:Ms) (g:PH) (s:Own),At E g (gv ms++s) w→∃ g',Le g g'∧At E g' s w∧∀ t∈ms,dA g' t.2.1 t.2.2
 | [],g,s,h=>⟨g,zb9 g,h,by simp⟩
 | (a,v,l)::r,g,s,h=>by
  have e:At E g (row 3 1 v l.length (l.flatMap encInt.enc)::(gv r++s)) w:=h;obtain ⟨g1,c,f,i⟩:=e.freezeRow;obtain ⟨g2,b,j,k⟩:=freezeRows r g1 s f;refine⟨g2,c.trans b,j,fun t d=>?_⟩
  rcases zf2.1 d with rfl | d
  ·exact Sl.mono i b
  ·exact k t d
theorem SC.freezeRows {E:World}{c:Code}{g:PH}{s:Own}{ms:Ms}(h:∀ g',Le g g'→(∀ t∈ms,dA g' t.2.1 t.2.2)→SC P N E c Q f g' s):SC P N E c Q f g<|gv ms++s:=fun a w b d=>by
 obtain ⟨g',e,i,j⟩:=Go.Proofs.YtpmoadbbfobbcaaGreatDoor.freezeRows ms g s d;exact h g' e j a w b i
def dfs (adj:Int→Option (List Int)):Nat→Int→List Int→List Int
 | 0,_,vis=>vis
 | n+1,id,vis =>
  match adj id with
  | none=>vis
  | some l=>if vis.contains id then vis else l.foldl (fun v x=>dfs adj n x v)<|vis++[id]
theorem kA (a:Int→Option (List Int))(n:Nat)(id:Int)(vis:List Int):dfs a (n+1) id vis=(match a id with
  | none=>vis
  | some l=>if vis.contains id then vis else l.foldl (fun v x=>dfs a n x v)<|vis++[id]):=rfl
theorem tm (a:Int→Option (List Int)):∀ (n:Nat) (id:Int) (vis:List Int) (x:Int),x∈vis→x∈dfs a n id vis
 | 0,_,_,_,h=>h
 | n+1,id,vis,x,h=>by
  unfold dfs;split
  ·exact h
  ·split
   ·exact h
   ·have:∀ (l:List Int) (v:List Int),x∈v→x∈l.foldl (fun v y=>dfs a n y v) v:=by
     intro l;induction l with
     | nil=>intro v b;exact b
     | cons y t ih=>intro v b;exact ih _<|tm a n y v x b
    exact this _ _ (by simp[h])
def fD:List (Int×List Int)→Int→List Int
 | [],_=>[]
 | (a,l)::r,k=>if k=a then l else fD r k
def Eh (jl:List<|Int×List Int)(k:Int):Bool:=jl.any fun p=>decide<|p.1=k
theorem vN {b:List<|Int×List Int}(h:Eh b k=false):fD b k=[]:=by
 induction b with
 | nil=>rfl
 | cons p r ih =>
  obtain ⟨a,l⟩:=p;simp only[Eh,List.any_cons,Bool.or_eq_false_iff,hP] at h;simp only[fD];rw[zg1 fun e=>h.1 e.symm];exact ih h.2
def oI (jl:List<|Int×List Int)(vis:List Int):Nat:=(jl.filter fun p=>!vis.contains p.1).length
theorem j5 {tl:List<|Int×List Int}{v v':List Int}(h:∀ x∈v,x∈v'):oI tl v'≤oI tl v:=by
 unfold oI;rw[← List.countP_eq_length_filter,← List.countP_eq_length_filter];apply List.countP_mono_left;intro c _ hp;simp at hp ⊢;exact fun e=>hp<|h _ e
theorem CI {tl:List<|Int×List Int}{v:List Int}(hc:Eh tl k=true)(hn:v.contains k=false):oI tl (v++[k])<oI tl v:=by
 induction tl with
 | nil=>simp[Eh] at hc
 | cons d t ih =>
  have hm:oI t (v++[k])≤oI t v:=j5 (fun x e=>by simp[e]);have e1:∀ u:List Int,oI (d::t) u=(if u.contains d.1 then 0 else 1)+oI t u:=fun u=>by
   unfold oI;rw[zi8];cases u.contains d.1 <;> simp <;> omega
  rw[e1,e1];simp only[Eh,List.any_cons,zj5,zj6] at hc
  rcases hc with rfl | a
  ·have:(v++[d.1]).contains d.1=true:=by simp
   rw[this,hn];simp;omega
  ·have:=ih a;cases b:v.contains d.1
   ·cases c:(v++[k]).contains d.1 <;> simp <;> omega
   ·have c:(v++[k]).contains d.1=true:=by simp at b ⊢;exact .inl b
    rw[c];simp;exact this
theorem Dx {g:PH}(b:Ms)(h:∀ t∈b,dA g t.2.1 t.2.2)(k:Int):∃ v,(eU (jR b) k).getD (.slice none 0 0)=v∧dA g v (fD (iG b) k):=by
 induction b with
 | nil=>exact⟨_,rfl,zc1 g _⟩
 | cons p r ih =>
  obtain ⟨a,u,l⟩:=p;by_cases c:k=a
  ·subst c;exact⟨u,by simp[jR,dv],by simpa [iG,fD] using h (k,u,l) dO⟩
  ·obtain ⟨v,d,e⟩:=ih fun t f=>h t (by simp[f]);exact⟨v,by simpa [jR,dv,c] using d,by simpa [iG,fD,c] using e⟩
def kE (jl:List<|Int×List Int)(i:Int):Option<|List Int:=some<|fD jl i
theorem AI (E:World)(g:PH)(o w bf m R:Nat)(b:Ms)(V:Mp g R<|jR b)(D:∀ t∈b,dA g t.2.1 t.2.2)(z:∀ t∈b,t.2.2.length<1099511627776)(S:g o=some (bY #[.map<|some m] 80))(W:g w=some (bY #[.map<|some R] 214))
  (X:g bf=some (.cells #[.func (.func 185) #[] #[pp o 0,pp w 0,pp bf 0]] 137 (0,0))):∀ (n:Nat) (id:Int) (vis:List Int) (s:Own) (i:Nat),oI (iG b) vis<n→s[i]?=some (mp m<|iU vis) →
  Ctr Tryz.prog E 185 #[vi id,pp o 0,pp w 0,pp bf 0] g s (fun _ g' s'=>g=g'∧s'=s.set i (mp m<|iU<|dfs (kE<|iG b) n id vis)):=by
 intro n;induction n with
 | zero=>intro id vis s i h;omega
 | succ n ih =>
 intro id vis s i T C;obtain ⟨v,F,c⟩:=Dx b D id;have G:(fD (iG b) id).length<1099511627776:=by
  have:∀ q:Ms,(∀ t∈q,t.2.2.length<1099511627776)→(fD (iG q) id).length<1099511627776:=by
   intro q hq;induction q with
   | nil=>simp[iG,fD]
   | cons p r ihq =>
    obtain ⟨a,u,l⟩:=p;simp only[iG,zg5,fD];split
    ·exact hq (a,u,l) dO
    ·exact ihq fun t Y=>hq t (by simp[Y])
  exact this b z
 generalize H:fD (iG b) id=L at c G;obtain ⟨p,Z,rfl⟩:=za4 c;refine zb2 (args:=[vi id,pp o 0,pp w 0,pp bf 0]) func185 I ntmps185 (bE I)<|rZ<|lK (qL isAgg80 I<|ao.known S I)<|lM I<|lK (SQ.eq (v':=vb<|vis.contains id) (H6 mty80 I I<|bo.own i C)<|(zJ vis).get id)<|lU (oF I)<|tZ<|iQ I (fun hc=>?_) (fun hc=>?_)
 ·have f:vis.contains id=false:=by simpa using hc
  refine rZ<|lK (qL isAgg80 I<|ao.known S I)<|lM I<|lO (tn i mty80 I I I C) ?_;rintro _ _ _ ⟨rfl,rfl⟩;rw[tC f];refine tZ<|rZ<|lK (qL isAgg214 I<|ao.known W I)<|lM I<|lK (SQ.eq (H6 mty214 I I<|bo.known V) F)<|lU (eN aA I)<|lM I<|tZ<|bK<|oP (ι:=Nat×List Int) (fun q=>[(3,pp bf 0),(15,.slice p L.length Z),(16,vi L.length),(17,vi q.1)]) (fun _=>g)
   (fun q=>s.set i<|mp m<|iU q.2) (fun q=>q.1≤L.length∧q.2=(L.take q.1).foldl (fun v x=>dfs (kE<|iG b) n x v) (vis++[id])∧(0<L.length→oI (iG b) q.2<n)) (fun q=>L.length - q.1)
   (0,vis++[id]) sB rfl rfl ⟨zf7 _,by simp,fun e=>?_⟩ ?_
  ·cases U:Eh (iG b) id with
   | false =>
    rw[vN U] at H;rw[← H] at e;simp at e
   | true =>
    have:=CI U f;dsimp only;omega
  rintro ⟨j,J⟩ ⟨K,d,k⟩;dsimp only at K d k ⊢;refine rZ<|yL I<|tZ<|sQ<|iP I (fun M=>?_) (fun M=>?_)
  ·have A:j<L.length:=oM;have N:=za6 c oM;have O:L[((j:Nat):Int).toNat]?=some L[j]:=bd A;have B:L[j]?=some L[j]:=bd A;generalize L[j]=y at *;refine kP<|tN<|sQ<|bK<|rZ<|lU (iA aA zT3 I I N oM sL)<|lK (eB iT3 I (za7 c) O I)<|aT I<|rG<|lK (qL isAgg137 I<|ao.known X I)<|lM I<|lW (DO I I<|cQ.mk (cap:=[pp o 0,pp w 0,pp bf 0]) call185<|ih y J _ i (k oM)<|CC C _) ?_;rintro _ _ _ ⟨rfl,rfl⟩;refine cp<|bN<|tN<|rG<|yD I<|lM I<|cp ?_;exact ct (j+1,dfs (kE<|iG b) n y J) sB I (by rw[List.set_set]) ⟨lN,by
    rw[gK B,zj1,← d];rfl,fun h=>Nat.lt_of_le_of_lt (j5 fun x hx=>tm _ n _ _ x hx)<|k h⟩ lN
  ·refine xI<|tX<|tX<|bX ?_;have P:L.take j=L:=tL oM;have hr:dfs (kE<|iG b) (n+1) id vis=J:=by
    rw[P] at d;rw[d,kA];simp only[kE,H,f,Bool.false_eq_true,if_false]
   exact Iv (.inr I) results185 ⟨I,by rw[hr]⟩
 ·refine kP ?_;have Q:vis.contains id=true:=by simpa using hc
  have hr:dfs (kE<|iG b) (n+1) id vis=vis:=by
   rw[kA];simp only[kE,Q,if_true]
  exact Iv (.inr I) results185 ⟨I,by rw[hr,oh C]⟩
inductive Rch (adj:Int→Option (List Int)):Int→Int→Prop
 | refl (a:Int) (h:adj a≠none):Rch adj a a
 | step (a b c:Int) (l:List Int) (h:adj a=some l) (hb:b∈l) (r:Rch adj b c):Rch adj a c
theorem Rch.node {c:Int→Option (List Int)}(h:Rch c a b):c a≠none:=by
 cases h with
 | refl _ h=>exact h
 | step _ _ _ l h _ _=>rw[h];simp
theorem pI (a:Int→Option (List Int)):∀ (n:Nat) (id:Int) (vis:List Int) (x:Int),x∈dfs a n id vis→x∈vis∨Rch a id x
 | 0,_,_,_,h=>.inl h
 | n+1,id,vis,x,h=>by
  rw[kA] at h;cases d:a id with
  | none=>rw[d] at h;exact .inl h
  | some l =>
   rw[d] at h;dsimp only at h;split at h
   ·exact .inl h
   ·have key:∀ (q:List Int) (v:List Int),(∀ y∈q,y∈l)→x∈q.foldl (fun v y=>dfs a n y v) v→x∈v∨Rch a id x:=by
     intro q;induction q with
     | nil=>intro v _ e;exact .inl e
     | cons y t ih =>
      intro v hq e
      rcases ih _ (fun z hz=>hq z<|by simp[hz]) e with c | c
      ·rcases pI a n y v x c with b | b
       ·exact .inl b
       ·exact .inr<|.step id y x l d (hq y<|by simp) b
      ·exact .inr c
    rcases key l _ (fun y f=>f) h with c | c
    ·rcases zf4.1 c with b | b
     ·exact .inl b
     ·simp at b;subst b;exact .inr<|.refl _ (by rw[d];simp)
    ·exact .inr c
theorem j4 (c:Int→Option (List Int)):∀ (n:Nat) (id:Int) (vis:List Int),vis.Nodup→(dfs c n id vis).Nodup
 | 0,_,_,h=>h
 | n+1,id,vis,h=>by
  rw[kA];cases c id with
  | none=>exact h
  | some l =>
   dsimp only;split
   ·exact h
   ·rename_i hc;have key:∀ (q:List Int) (v:List Int),v.Nodup→(q.foldl (fun v y=>dfs c n y v) v).Nodup:=by
     intro q;induction q with
     | nil=>intro v d;exact d
     | cons y t ih=>intro v d;exact ih _<|j4 c n y v d
    refine key l _ ?_;rw[List.nodup_append];refine⟨h,by simp,fun a f b hb e=>hc ?_⟩;simp at hb;subst hb;simpa [← e] using f
theorem kN (a:Int→Option (List Int))(cnt:List Int→Nat)(hm:∀ v v',(∀ x∈v,x∈v')→cnt v'≤cnt v)(r:∀ v k l,a k=some l→l≠[]→v.contains k=false→cnt (v++[k])<cnt v) :
  ∀ (n:Nat) (id:Int) (vis:List Int),cnt vis<n→(a id≠none→id∈dfs a n id vis)∧∀ x∈dfs a n id vis,x ∉ vis→∀ l,a x=some l→∀ y∈l,a y≠none→y∈dfs a n id vis
 | 0,_,_,h=>absurd h oM
 | n+1,id,vis,hc=>by
  rw[kA];cases s:a id with
  | none=>exact⟨fun h=>absurd rfl h,fun x b hn=>absurd b hn⟩
  | some l =>
   dsimp only;split
   ·rename_i g;exact⟨fun _=>by simpa using g,fun x b hn=>absurd b hn⟩
   ·rename_i g;have i:vis.contains id=false:=by simpa using g
    have key:∀ (q:List Int) (v:List Int),(∀ x∈vis++[id],x∈v)→(∀ x∈v,x ∉ vis++[id]→∀ l,a x=some l→∀ y∈l,a y≠none→y∈v)→(q≠[]→cnt v<n) →
      (∀ x∈v,x∈q.foldl (fun v y=>dfs a n y v) v)∧(∀ y∈q,a y≠none→y∈q.foldl (fun v y=>dfs a n y v) v) ∧
      ∀ x∈q.foldl (fun v y=>dfs a n y v) v,x ∉ vis++[id]→∀ l,a x=some l→∀ y∈l,a y≠none→y∈q.foldl (fun v y=>dfs a n y v) v:=by
     intro q;induction q with
     | nil=>intro v _ o _;exact⟨fun x b=>b,by simp,o⟩
     | cons y t ih =>
      intro v A o B;have j:=B dO;obtain ⟨d1,d2⟩:=kN a cnt hm r n y v j;have c:=tm a n y v;have p:∀ x∈dfs a n y v,x ∉ vis++[id]→∀ l,a x=some l→∀ z∈l,a z≠none→z∈dfs a n y v:=by
       intro x b hn l hl z hz d;by_cases e:x∈v
       ·exact c z<|o x e hn l hl z hz d
       ·exact d2 x b e l hl z hz d
      obtain ⟨u,C,e3⟩:=ih (dfs a n y v) (fun x b=>c x<|A x b) p fun _=>Nat.lt_of_le_of_lt (hm _ _ c) j;simp only[zi9];refine⟨fun x b=>u x<|c x b,fun z hz d=>?_,e3⟩
      rcases zf2.1 hz with rfl | hz
      ·exact u z<|d1 d
      ·exact C z hz d
    obtain ⟨k1,k2,k3⟩:=key l (vis++[id]) (fun x b=>b) (fun x b hn=>absurd b hn) (fun hl=>by have:=r vis id l s hl i;omega);refine⟨fun _=>k1 id dO,fun x b hn l' f y w m=>?_⟩;by_cases e:x∈vis++[id]
    ·rcases zf4.1 e with h | h
     ·exact absurd h hn
     ·simp at h;subst h;rw[s] at f;injection f with f
      subst f;exact k2 y w m
    ·exact k3 x b e l' f y w m
theorem xz {d:Int→Option (List Int)}{cnt:List Int→Nat}(hm:∀ v v',(∀ x∈v,x∈v')→cnt v'≤cnt v)(e:∀ v k l,d k=some l→l≠[]→v.contains k=false→cnt (v++[k])<cnt v){n:Nat}(hc:cnt []<n)(hn:d id≠none)(x:Int) :
  x∈dfs d n id []↔Rch d id x:=by
 obtain ⟨d1,d2⟩:=kN d cnt hm e n id [] hc;refine⟨fun h=>(pI d n id [] x h).resolve_left dO,fun h=>?_⟩;have key:∀ a b,Rch d a b→a∈dfs d n id []→b∈dfs d n id []:=by
  intro a b hr;induction hr with
  | refl a _=>exact fun h=>h
  | step a b c l hl hb r ih=>exact fun h=>ih<|d2 a h dO l hl b hb r.node
 exact key id x h<|d1 hn
theorem Rch.mono {e d:Int→Option (List Int)}(h:∀ x l,e x=some l→∀ y∈l,∃ l',d x=some l'∧y∈l')(hn:∀ x,e x≠none→d x≠none)(hr:Rch e a b):Rch d a b:=by
 induction hr with
 | refl a f=>exact .refl a<|hn a f
 | step a b c l hl hb _ ih =>
  obtain ⟨l',f,g⟩:=h a l hl b hb;exact .step a b c l' f g ih
theorem lX (a:List<|Int×List Int):∀ v k l,kE a k=some l→l≠[]→v.contains k=false→oI a (v++[k])<oI a v:=by
 intro v k l hl b c;refine CI ?_ c;cases h:Eh a k with
 | true=>rfl
 | false =>
  rw[kE,vN h] at hl;injection hl with hl
  exact absurd hl.symm b
theorem vO (c:List<|Int×List Int)(a b x:Int):fD (ii c a b) x=if x=a then fD c x++[b] else fD c x:=by
 induction c with
 | nil=>simp[ii,fD]
 | cons p r ih =>
  obtain ⟨k,l⟩:=p;simp only[ii];by_cases h:a=k
  ·subst h;simp only[if_true,fD];split <;> rfl
  ·rw[zg1 h];simp only[fD,ih];by_cases d:x=k
   ·subst d;rw[zg2 rfl,zg2 rfl,zg1 fun e=>h e.symm]
   ·rw[zg1 d,zg1 d]
end Go.Proofs.YtpmoadbbfobbcaaGreatDoor
