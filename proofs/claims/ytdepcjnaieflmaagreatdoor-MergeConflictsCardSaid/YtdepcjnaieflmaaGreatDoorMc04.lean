/- 4 -/
import Derived.Test.YtdepcjnaieflmaaGreatDoorMc03
import Derived.Shelf.Sort.Plain
import Derived.Shelf.Slices.In.SortNone
import Derived.Sort.OwnSortedInts
set_option linter.unusedSimpArgs false
set_option linter.unusedVariables false
namespace Go.Sy
open Go
def mns (g' g:PH):PH:=fun b=>match g b with | none=>g' b | some _=>none
theorem sV {g' g:PH}{b:Nat}(h:g b=none):mns g' g b=g' b:=by simp only[mns,h]
theorem sS {g' g:PH}{b:Nat}{o:Obj}(h:mns g' g b=some o):g b=none∧g' b=some o:=by
 unfold mns at h;split at h
 ·rename_i e;exact⟨e,h⟩
 ·cases h
theorem fh (g' g:PH):Le (mns g' g) g':=fun _ _ h=>(sS h).2
theorem im {g g' a:PH}(h:Le g' a):Le (mns g' g) (mns a g):=fun b o hb=>by
 obtain ⟨c,d⟩:=sS hb;rw[sV c];exact h _ _ d
theorem jR {g0 g g':PH}(h:Le g0 g):Le (mns g' g) (mns g' g0):=fun b o hb=>by
 obtain ⟨a,c⟩:=sS hb;have:g0 b=none:=by
  cases d:g0 b with
  | none=>rfl
  | some x=>rw[h _ _ d] at a;cases a
 rw[sV this];exact c
section
variable {α:Type}{k:Nat}{e:Enc α k}{T U:TypeId}{g g':PH}{s:Own}{v:Value}{l:List α}
def RK (e:Enc α k)(T:TypeId)(g:PH)(v:Value)(l:List α):Prop:=(∃ p,v = .slice p 0 0∧l=[]) ∨
 ∃ b cap cur,v = .slice (some ⟨b,0,none⟩) l.length (cap+1)∧g b=some (.cells cur T (0,0))∧l.length≤cap+1∧cur.size=(cap+1) * k∧cur.toList.take (l.length * k)=l.flatMap e.enc
theorem RK.mono (h:RK e T g v l)(hl:Le g g'):RK e T g' v l:=by
 rcases h with h | ⟨b,cap,cur,a,c,d⟩
 ·exact .inl h
 ·exact .inr ⟨b,cap,cur,a,hl _ _ c,d⟩
theorem RK.sl (h:RK e T g v l):SlA e g v l:=by
 rcases h with ⟨p,rfl,rfl⟩ | ⟨b,cap,cur,rfl,c,d,i,f⟩
 ·exact⟨p,0,I,⟨by simp,Nat.le_refl _⟩,fun h=>absurd I h⟩
 ·refine⟨_,_,I,⟨e.length l,d⟩,fun _=>⟨b,0,cur,T,(0,0),I,c,fun j x a=>?_⟩⟩;rw[← f,zi3] at a;split at a
  ·simpa using a
  ·cases a
theorem RK.form (h:RK e T g v l):∃ p c,v = .slice p l.length c:=h.sl.form
theorem RK.nil (e:Enc α k)(T:TypeId)(g:PH):RK e T g (.slice none 0 0) []:=.inl ⟨none,rfl,rfl⟩
theorem At.freezeRowK {E:World}{w:World}(h:At E g (rowA e T v l::s) w):∃ g',Le g g'∧At E g' s w∧RK e T (mns g' g) v l:=by
 obtain ⟨f,j⟩:=gX (i:=0) h rfl
 rcases j with ⟨p,rfl,k⟩ | ⟨b,cap,cur,rfl,hb,c,_,d,a⟩
 ·exact⟨g,zb9 g,h.sublist<|zj3 _ _,.inl ⟨p,I,zf6 k⟩⟩
 ·have m:=h.fresh _ (List.mem_cons_self ..) b rfl;obtain ⟨n,o⟩:=h.freeze (b:=b) rfl hb;exact⟨_,o,n,.inr ⟨b,cap,cur,I,by rw[sV m.1];exact fc _ _ _,c,d,a⟩⟩
variable {P:Program}{N:Nat}{E:World}{ops:Array Oper}{Q:Exit→Act→World→Prop}{f:Fr}
theorem SL.freezeRowK {o:List Oper}(h:∀ g',Le g g'→RK e T (mns g' g) v l→SL P N E ops Q o f g' s):SL P N E ops Q o f g (rowA e T v l::s):=fun a w b c=>by
 obtain ⟨g',d,i,j⟩:=c.freezeRowK;exact h g' d j a w b i
end
section
variable {P:Program}{N:Nat}{E:World}{f:Fr}{g:PH}{s:Own}{dst:Option Tmp}{ty:TypeId}{pos:String}{af:Array Edge}{gd:Option (Nat×Bool)}
end
section
variable {α:Type}{k:Nat}{e:Enc α k}{T U:TypeId}{g:PH}{v:Value}{l:List α}
end
end Go.Sy
namespace Go.Proofs.YtdepcjnaieflmaaGreatDoor
open _root_.Go.Proofs.Tryz _root_.Go.Proofs.YtdepcjnaieflmaaGreatDoor.Tryz
open Go Go.Sy Go.Pl Go.Proofs
set_option maxRecDepth 100000
structure Cl where
 id:Int
 dim:Int
 sides:List aj
 deriving DecidableEq
def ak (g:PH)(c:Cl)(r:Rc):Prop:=r.id=c.id∧r.dim=c.dim∧SlA encSide g (.slice r.sv.p r.sv.n r.sv.c) c.sides
theorem ak.mono {g g':PH}(hl:Le g g'){c:Cl}{r:Rc}(h:ak g c r):ak g' c r:=⟨h.1,h.2.1,h.2.2.mono hl⟩
def ai (g:PH)(v:Value)(l:List Cl):Prop:=∃ rs,SlA encCell g v rs∧ax (ak g) l rs
theorem ai.mono {g g':PH}{v:Value}{l:List Cl}(h:ai g v l)(hl:Le g g'):ai g' v l:=by
 obtain ⟨rs,a,b⟩:=h;exact⟨rs,a.mono hl,b.mono fun _ _=>ak.mono hl⟩
theorem ai.form {g:PH}{v:Value}{l:List Cl}(h:ai g v l):∃ p c,v = .slice p l.length c:=by
 obtain ⟨rs,a,b⟩:=h;rw[b.length];exact a.form
def dK (g:PH)(c:Cl)(r:Rc):Prop:=r.id=c.id∧r.dim=c.dim∧RK encSide 80 g (.slice r.sv.p r.sv.n r.sv.c) c.sides
theorem dK.mono {g g':PH}(hl:Le g g'){c:Cl}{r:Rc}(h:dK g c r):dK g' c r:=⟨h.1,h.2.1,h.2.2.mono hl⟩
theorem dK.cr {g g':PH}(hl:Le g g'){c:Cl}{r:Rc}(h:dK g c r):ak g' c r:=⟨h.1,h.2.1,h.2.2.sl.mono hl⟩
def fQ (g:PH)(v:Value)(l:List Cl):Prop:=∃ rs,RK encCell 37 g v rs∧ax (dK g) l rs
theorem fQ.mono {g g':PH}{v:Value}{l:List Cl}(h:fQ g v l)(hl:Le g g'):fQ g' v l:=by
 obtain ⟨rs,a,b⟩:=h;exact⟨rs,a.mono hl,b.mono fun _ _=>dK.mono hl⟩
theorem fQ.cells {g g':PH}{v:Value}{l:List Cl}(h:fQ g v l)(hl:Le g g'):ai g' v l:=by
 obtain ⟨rs,a,b⟩:=h;exact⟨rs,a.sl.mono hl,b.mono fun _ _=>dK.cr hl⟩
def aM (l:List Cl):Prop:=l.length<1099511627776∧∀ c∈l,c.sides.length<1099511627776
def cj (c:Cl):Cl:=⟨c.id,c.dim,sortBy aj.cell c.sides⟩
def aa (l:List Cl):List Cl:=(sortBy Cl.id l).map cj
theorem Tryz.build29 (x:Value)(h:x.cells = #[x])(w:World):(Instr.build 29 #[(0,x)]).run Tryz.prog w = .ok (.agg #[x]) w:=by
 have hz:(Value.agg #[Value.slice none 0 0]).cells = #[.slice none 0 0]:=rfl;simp[Instr.build,Instr.fill,h,hz]
theorem EZ (x y:aj)(w:World):(binOp .neq 80 (.agg (encSide.enc x).toArray)<|.agg (encSide.enc y).toArray).run Tryz.prog w = .ok (.bool<|decide (x≠y)) w:=by
 have j:Tryz.prog.underlying 80=some (.struct<|Tryz.prog.fieldsOf 80):=by kernel_rfl
 have q:(Tryz.prog.fieldsOf 80).toList=(Tryz.prog.fieldsOf 80).toList:=rfl;rw[run_neq_struct,run_equalIn_agg w 9999 80 _ _ j stoodInHeld80]
 have f : ∃ f1 f2,(Tryz.prog.fieldsOf 80).toList = [f1,f2] ∧ f1.name ≠ "_" ∧ f2.name ≠ "_" ∧ f1.type = 3 ∧ f2.type = 3 ∧ f1.offset = 0 ∧ f2.offset = 1:=⟨_,_,rfl,by decide,by decide,rfl,rfl,rfl,rfl⟩
 obtain ⟨f1,f2,e,k,l,t1,t2,m,n⟩:=f;obtain ⟨a,b⟩:=x;obtain ⟨c,d⟩:=y;rw[e];have o:=run_equalIn_int (P:=Tryz.prog) w 9998 3 .i64 .i64 a c uT3;have p:=run_equalIn_int (P:=Tryz.prog) w 9998 3 .i64 .i64 b d uT3;simp only[Op.eqFields,k,l,t1,t2,m,n,encSide,part,ne_eq,not_false_eq_true,if_true,Sem.run_bind,iT3,zd2];simp[o,p];by_cases g:a=c <;> by_cases i:b=d <;> simp[g,i]
theorem FH (E:World)(g:PH):AR E (.func (.func 92) #[] #[]) Rc.id g:=by
 intro g s a b;refine cU.mk (cap:=[]) call92<|zb2 (args:=[.agg (encCell.enc a).toArray]) func92 I ntmps92 (bE I)<|rZ (bW (bO I) fun c=>?_);exact aT I<|rZ<|lU (fA ao I zT3 I)<|lK (qL iT3 I<|cO 0 I I)<|aT I<|rE<|dR (s':=s) uR<|za8 (.inl I) results92 I ⟨I,I,I⟩
theorem Bf (E:World)(g:PH):AQ E (.func (.func 94) #[] #[]) aj.cell g:=by
 intro g s a b;refine cU.mk (cap:=[]) call94<|zb2 (args:=[.agg (encSide.enc a).toArray]) func94 I ntmps94 (bE I)<|rZ (bW (bO I) fun c=>?_);exact aT I<|rZ<|lU (fA de I zT3 I)<|lK (qL iT3 I<|cO 0 I I)<|aT I<|rE<|dR (s':=s) uR<|za8 (.inl I) results94 I ⟨I,I,I⟩
theorem oO (E:World)(g:PH)(s:Own)(v:Value)(l:List Cl)(U:ai g v l)(R:aM l) :
  Ctr Tryz.prog E 34 #[.agg #[v]] g s (fun r g' s'=>s=s'∧Le g g'∧∃ u,r = .agg #[u]∧fQ (mns g' g) u (aa l)):=by
 obtain ⟨rs,F,A⟩:=U;have S:=A.length;have V:=R.1;have B:=ax.sortBy (f:=Cl.id) (h:=Rc.id) (fun a b h=>h.1.symm) A;obtain ⟨p,c,rfl⟩:=za4 F;refine zb2 (args:=[.agg #[.slice p rs.length c]]) func34 I ntmps34 (bE I)<|rZ (bW (bO I) fun W=>?_);refine bW (aL zl3) fun T=>tZ<|rZ<|lU (fA dA I cq I)<|lK (qL eG I<|cO 1 I I)<|lW (SO.call call91 I<|AY E g _ _ 92 #[] Rc.id (FH E g) rs F oM) ?_;rintro r3 _ _ ⟨rfl,rfl⟩;refine zd4 fun ⟨X,C⟩=>?_;obtain ⟨q,d,rfl⟩:=ah (i:=0) C rfl;have L:0<(sortBy Rc.id rs).length→based (.slice q (sortBy Rc.id rs).length d)=true:=fun h=>(by obtain ⟨b0,c0,Y⟩:=bw (i:=0) C rfl h;rw[Y];rfl);clear C X;refine aT I<|sQ<|sW I<|lU (eN aF I)<|lM I<|tZ<|bK ?_;have Z:(sortBy Rc.id rs).length=rs.length:=eI rs;refine oP (ι:=PH×List Rc×List Rc×List Cl×List Cl) (fun i=>[(2,pp T 0),(3,.slice q (sortBy Rc.id rs).length d),(9,vi (sortBy Rc.id rs).length),(10,vi i.2.1.length)]) (fun i=>i.1)
  (fun i=>rowA encCell 37 (.slice q (sortBy Rc.id rs).length d) (i.2.1++i.2.2.1)::pt T (bY #[.slice none 0 0] 29)::pt W (bY #[.slice p rs.length c] 29)::s)
  (fun i=>Le g i.1∧ax (dK<|mns i.1 g) i.2.2.2.1 i.2.1∧ax (ak g) i.2.2.2.2 i.2.2.1∧aa l=i.2.2.2.1++i.2.2.2.2.map cj∧(i.2.1.length+i.2.2.1.length=(sortBy Rc.id rs).length∧∀ x∈i.2.2.2.2,x∈l)) (fun i=>i.2.2.1.length)
  (g,[],sortBy Rc.id rs,[],sortBy Cl.id l) sB rfl rfl ⟨zb9 g,trivial,B,by simp[aa],by simp,fun x hx=>(fz l x).1 hx⟩ ?_
 rintro ⟨g1,ds,rest,dl,rl⟩ ⟨k,hd,hr,m,j,n⟩;dsimp only at k hd hr m j n ⊢;have a0:=hr.length;refine rZ<|yL I<|tZ<|sQ<|iP I (fun M=>?_) (fun M=>?_)
 ·cases rest with
  | nil=>simp at j;omega
  | cons x rest =>
  obtain ⟨t,N,G,D,O⟩:=hr.cons_right;subst G;have P:t.sides.length<1099511627776:=R.2 t (n t dO);simp only[zf1] at j;have H:(ds++x::rest)[((ds.length:Nat):Int).toNat]?=some x:=bP oM;have w:based (.slice q (sortBy Rc.id rs).length d)=true:=L oM;refine kP (tN (sQ (bK (sW I (aT I (rG (lM I (lM I (lM I (lM I (lU (iA aF ar I I w oM sL) (lU (fC ao I aH I w) (lK (aZ (o:=2) bi I (zb7 0 I) H I) (lW (SO.call call93 I (AX E g1 _ _ 94 #[] aj.cell (Bf E g1) t.sides (D.2.2.mono k) P)) ?_))))))))))))));rintro r20 _ _ ⟨rfl,rfl⟩;refine SL.freezeRowK fun g2 e z=>?_;obtain ⟨J,d2,rfl⟩:=z.form;refine lU (iA aF ar I I w oM sL) (lU (fC ao I aH I w) (oZ (SO.partA (o:=2) 0 ⟨x.id,x.dim,J,_,d2⟩ aH I I I H I I dC I) (SL.nil (bN (tN (rG (yD I (lM I (SL.nil ?_)))))))));exact ST.again (g2,ds++[⟨x.id,x.dim,J,(sortBy aj.cell t.sides).length,d2⟩],rest,dl++[cj t],N) ⟨I,I,I,bG lN,trivial⟩ I (by
    dsimp only;rw[show (ds++x::rest).set ((ds.length:Nat):Int).toNat ⟨x.id,x.dim,J,(sortBy aj.cell t.sides).length,d2⟩=ds++[⟨x.id,x.dim,J,(sortBy aj.cell t.sides).length,d2⟩]++rest by rw[dT oM];simp];rfl) ⟨k.trans e,(hd.mono fun _ _=>dK.mono (im e)).append ⟨(by exact⟨D.1,D.2.1,z.mono (jR k)⟩:dK (mns g2 g) (cj t) ⟨x.id,x.dim,J,(sortBy aj.cell t.sides).length,d2⟩),trivial⟩,O,by rw[m];simp,lN,fun y hy=>n y (by simp[hy])⟩ lN
 ·have Q:rest=[]:=zf6 oM;subst Q;have K:rl=[]:=hr.nil_right;subst K;refine xI (tX<|tX<|bX<|tN<|rZ<|SL.freezeRowK fun g2 e z=>?_);refine lM I<|lU (za3 I<|build29 _ I)<|oZ (sK 0 ae I I I I I sB)<|tZ<|rE<|ST.retCD 0 s (.inl I) results34 I an ae I I (.cons _<|.cons _<|.refl _) ⟨I,k.trans e,_,I,ds,?_,?_⟩
  ·simpa using z.mono<|jR k
  ·rw[m];simpa using hd.mono fun _ _=>dK.mono<|im e
theorem gU (E:World)(g:PH)(s:Own)(v:Value)(l:List Cl)(a:ai g v l)(b:aM l) :
  Ctr Tryz.prog E 34 #[.agg #[v]] g s (fun r g' s'=>s=s'∧Le g g'∧∃ u,r = .agg #[u]∧ai g' u (aa l)) :=
 (oO E g s v l a b).mono fun _ _ _ ⟨c,d,u,e,f⟩=>⟨c,d,u,e,f.cells<|fh _ _⟩
theorem ix {α:Type}{l m:List α}{k:Nat}(a:k<l.length)(b:k<m.length)(h:l.take k=m.take k)(c:l[k]=m[k]):l.take (k+1)=m.take (k+1):=by
 rw[tS a,tS b,h,c]
theorem jm {α:Type}{l m:List α}(hl:l.length=m.length)(h:l.take l.length=m.take l.length):l=m:=by
 rw[tL<|Nat.le_refl _,tL oM] at h;exact h
theorem SU.neqSide {N:Nat}{f:Fr}{dst:Option Tmp}{ty:TypeId}{pos:String}{af:Array Edge}{gd:Option (Nat×Bool)}{x y:Operand}{a b:aj}{U:TypeId}(d:ev f x=some (.agg (encSide.enc a).toArray))(e:ev f y=some (.agg (encSide.enc b).toArray)) :
  SU Tryz.prog N ⟨dst,.binOp .neq 80 x y U,ty,pos,af,gd⟩ f (.bool<|decide (a≠b)):=fun ac w c=>by
 have hg:=run_eqGuard_agg (P:=Tryz.prog) w .neq 80 x y (encSide.enc a).toArray (encSide.enc b).toArray eqGuardType80;simp only[execOp,c.ev d,c.ev e,Sem.run_bind,hg,zd2,EZ];rfl
theorem rD (E:World)(g:PH)(s:Own)(v u:Value)(l m:List aj)(n:SlA encSide g v l)(o:SlA encSide g u m)(hl:l.length<1099511627776) :
  Ctr Tryz.prog E 85 #[v,u] g s (fun r g' s'=>r=vb (decide (l=m))∧g=g'∧s=s'):=by
 obtain ⟨p,c,rfl⟩:=n.form;obtain ⟨q,d,rfl⟩:=o.form;refine zb2 (args:=[.slice p l.length c,.slice q m.length d]) func85 I ntmps85 (bE I)<|rZ<|aT I<|sQ<|sW I<|lU (eN a7 I)<|lM I<|lU (eN a7 I)<|lU (nQ I I)<|tZ<|iP I (fun a=>?_) (fun a=>?_)
 ·exact rZ<|aT I<|rE<|tR<|za8 (.inl I) results85 I ⟨by have:l≠m:=fun e=>a (by rw[e]);simp[this],I,I⟩
 ·refine kP<|tN<|sQ<|sW I<|lU (eN a7 I)<|lM I<|tZ<|bK ?_;have b:l.length=m.length:=oM;refine oP (ι:=Nat) (fun k=>[(0,.slice p l.length c),(1,.slice q m.length d),(12,vi l.length),(13,vi k)]) (fun _=>g) (fun _=>s) (fun k=>k≤l.length∧l.take k=m.take k) (fun k=>l.length - k) 0
   sB rfl rfl ⟨zf8 _,by simp⟩ ?_
  rintro k ⟨z,f⟩;refine rZ<|yL I<|tZ<|sQ<|iP I (fun t=>?_) (fun t=>?_)
  ·have i:k<l.length:=oM;have j:k<m.length:=oM;have w:=n.based oM;have x:=o.based oM;refine kP<|tN<|sQ<|bK<|sW I<|aT I<|sQ<|dW [] [(0,2),(1,2),(2,2),(3,1),(4,2),(5,2),(6,2),(7,1),(8,2)] ze5 kR<|yM I<|yM I<|pU I (iA a7 aR I I w oM sL)<|pQ I (SQ.elemA iU aR I n.rd<|List.getElem?_eq_getElem i) dC ?_;refine yM I<|yM I<|pU I (iA a7 aR I I x oM sL)<|pQ I (SQ.elemA iU aR I o.rd<|List.getElem?_eq_getElem j) dC ?_;refine pU I (SU.neqSide I I)<|pN<|tN<|iP I (fun hd=>?_) (fun hd=>?_)
   ·exact rZ<|aT I<|rE<|bR<|tR<|tR<|bR<|tR<|za8 (.inl I) results85 I ⟨by have:l≠m:=fun e=>hd (by simp[e]);simp[this],I,I⟩
   ·exact kP<|bN<|tN<|rG<|yD I<|lM I<|SL.nil<|ST.again (k+1) sB I I ⟨oM,ix i j f<|zh2 hd⟩ oM
  ·refine xI<|tX<|tX<|bX<|tN<|rZ<|aT I<|rE ?_;have y:k=l.length:=oM;subst y;have:l=m:=jm b f;exact za8 (.inl I) results85 I ⟨by simp[this],I,I⟩
theorem AC {x y:Cl}:x=y↔x.id=y.id∧x.dim=y.dim∧x.sides=y.sides:=by
 cases x;cases y;simp
theorem BN (E:World)(g:PH)(s:Own)(a b:Cl)(c d:Rc)(k:ak g a c)(hb:ak g b d)(hl:a.sides.length<1099511627776) :
  Ctr Tryz.prog E 50 #[.agg (encCell.enc c).toArray,.agg (encCell.enc d).toArray] g s (fun r g' s'=>r=vb (decide (a=b))∧g=g'∧s=s'):=by
 obtain ⟨i1,d1,⟨l,m,c1⟩⟩:=c;obtain ⟨i2,d2,⟨n,o,c2⟩⟩:=d;obtain ⟨rfl,rfl,e⟩:=k;obtain ⟨rfl,rfl,f⟩:=hb;refine zb2 (args:=[.agg (encCell.enc ⟨a.id,a.dim,⟨l,m,c1⟩⟩).toArray,.agg (encCell.enc ⟨b.id,b.dim,⟨n,o,c2⟩⟩).toArray]) func50 I ntmps50 (bE I)<|rZ (bW (bO I) fun p=>?_);refine bW (bO I) fun q=>aT I<|SC.cutB 4 (decide (a=b)) ?_ ?_
 ·refine rG<|lU (fA ao I zT3 I)<|lK (qL iT3 I<|cO 1 I I)<|lU (fA ao I zT3 I)<|lK (qL iT3 I<|cO 0 I I)<|yE I<|lM I<|sP ?_ ?_
  ·intro i;refine lY I I I (fA ao I zT3 I)<|SL.gq (gT I I I dC) (qL iT3 I<|cO 1 I I) dC<|lY I I I (fA ao I zT3 I)<|SL.gq (gT I I I dC) (qL iT3 I<|cO 0 I I) dC<|lY I I I (eQ I I)<|yP I<|lM I<|sP ?_ ?_
   ·intro j;refine lY I I I (fA ao I aH I)<|SL.gq (gT I I I dC) (qL bi I<|cO 1 I I) dC<|lY I I I (fA ao I aH I)<|SL.gq (gT I I I dC) (qL bi I<|cO 0 I I) dC<|ze3 (gT I I I dC) (SO.call call85 I<|rD E g _ _ _ a.sides b.sides e f hl) dC ?_;rintro _ _ _ ⟨rfl,rfl,rfl⟩;exact yP I<|lA I<|SL.nil<|zb1 (by simp_all[aN,AC]) mI
   ·intro j;exact yA I<|yA I<|yA I<|yA I<|yA I<|yF I<|lA I<|SL.nil<|zb1 (by simp_all[aN,AC]) mI
  ·intro i;exact yA I<|yA I<|yA I<|yA I<|yA I<|yF I<|lM I<|yA I<|yA I<|yA I<|yA I<|yA I<|yF I<|lA I<|SL.nil<|zb1 (by simp_all[aN,AC]) mI
 exact rE<|dR (s':=s) uR<|za8 (.inl I) results50 I ⟨I,I,I⟩
theorem aB {l:List Cl}(h:aM l):aM (aa l):=by
 refine⟨by simp[aa,eI];exact h.1,fun c hc=>?_⟩;simp only[aa,zf4] at hc;obtain ⟨a,b,rfl⟩:=hc;simp only[cj,eI];exact h.2 a<|(fz l a).1 b
theorem Tryz.mty64:MTy Tryz.prog 64 3 37 (.agg #[vi 0,vi 0,.slice none 0 0]):=⟨underlying64,underlying3,zm2⟩
def gn (acc:List Cl)(c:Cl):List Cl:=if acc.any (fun x=>x.id == c.id) then acc else acc++[c]
theorem td {acc:List Cl}{c:Cl}(h:acc.any (fun x=>x.id == c.id)=true):gn acc c=acc:=zg3 h
theorem lG {acc:List Cl}{c:Cl}(h:acc.any (fun x=>x.id == c.id)=false):gn acc c=acc++[c]:=zg2 (by rw[h];simp)
def am (l:List Cl):List Cl:=(aa l).foldl gn []
def rcv (r:Rc):Value:=.agg (encCell.enc r).toArray
def ap (r:Rc):Int×Value:=(r.id,rcv r)
def C3 (R:Cl→Rc→Prop)(g:PH)(v:Value)(tl:List Cl):Prop :=
 ∃ b m iv rs,v=pp b 0∧g b=some (bY #[.map<|some m,iv] 76)∧Mp g m (rs.map ap)∧dp g iv (tl.map Cl.id)∧ax R tl rs
def Tab (g:PH)(v:Value)(tl:List Cl):Prop:=C3 (ak g) g v tl
theorem C3.mono {R R':Cl→Rc→Prop}{g g':PH}{v:Value}{tl:List Cl}(h:C3 R g v tl)(hl:Le g g')(hr:∀ c r,R c r→R' c r):C3 R' g' v tl:=by
 obtain ⟨b,m,a,rs,d,e,f,i,j⟩:=h;exact⟨b,m,a,rs,d,hl _ _ e,f.mono hl,i.mono hl,j.mono hr⟩
theorem Tab.mono {g g':PH}{v:Value}{tl:List Cl}(h:Tab g v tl)(hl:Le g g'):Tab g' v tl:=by
 obtain ⟨b,m,a,rs,c,d,e,f,i⟩:=h;exact⟨b,m,a,rs,c,hl _ _ d,e.mono hl,f.mono hl,i.mono fun _ _=>ak.mono hl⟩
theorem mW (rs:List Rc)(k:Int):ep (rs.map ap) k=(rs.find?<|fun r=>r.id == k).map rcv:=by
 induction rs with
 | nil=>rfl
 | cons r t ih =>
  simp only[zg6,ap,c8,zi8];by_cases h:k=r.id
  ·subst h;simp
  ·have:(r.id == k)=false:=by simpa using fun e=>h e.symm
   rw[this,zg2 h,← ih]
theorem Ea {g:PH}{tl:List Cl}{rs:List Rc}(h:ax (ak g) tl rs)(k:Int):tl.any (fun x=>x.id == k)=rs.any (fun r=>r.id == k):=by
 induction tl generalizing rs with
 | nil=>cases rs with | nil=>rfl | cons _ _=>exact h.elim
 | cons c t ih =>
  cases rs with
  | nil=>exact h.elim
  | cons r rs=>simp only[List.any_cons,h.1.1,ih h.2]
theorem jW {g:PH}{tl:List Cl}{rs:List Rc}(h:ax (ak g) tl rs):tl.map Cl.id=rs.map Rc.id:=by
 induction tl generalizing rs with
 | nil=>cases rs with | nil=>rfl | cons _ _=>exact h.elim
 | cons c t ih =>
  cases rs with
  | nil=>exact h.elim
  | cons r rs=>simp only[zg6,h.1.1,ih h.2]
theorem gw (l:List Cl):∀ acc:List Cl,(l.foldl gn acc).length≤acc.length+l.length:=by
 induction l with
 | nil=>intro acc;simp
 | cons c r ih =>
  intro acc;simp only[zj1];have a:=ih<|gn acc c;have b:(gn acc c).length≤acc.length+1:=by unfold gn;split <;> simp
  simp only[zf1];omega
theorem Tryz.build76 (x:Value)(h:x.cells = #[x])(w:World):(Instr.build 76 #[(0,x)]).run Tryz.prog w = .ok (.agg #[x,.slice none 0 0]) w:=by
 have hz:(Value.agg #[Value.map none,Value.slice none 0 0]).cells = #[.map none,.slice none 0 0]:=rfl;simp[Instr.build,Instr.fill,h,hz]
theorem tT (E:World)(g:PH)(s:Own)(v:Value)(l:List Cl)(hv:ai g v l)(X:aM l) :
  Ctr Tryz.prog E 36 #[.agg #[v]] g s (fun r g' s'=>s=s'∧Le g g'∧C3 (dK<|mns g' g) g' r (am l)):=by
 have L:=aB X;refine zb2 (args:=[.agg #[v]]) func36 I ntmps36 (bE I)<|rZ (bW (bO I) fun M=>?_);refine aT I<|rZ<|lW (SO.mkMap) ?_;rintro _ _ _ ⟨m,rfl,rfl,rfl⟩;refine lU (za3 I<|build76 _ I) (bW (bO I) fun d=>?_);refine aT I<|sQ<|rZ<|lK (qV 2 an ae I I I)<|lW (SO.call call34 I<|oO E g _ v l hv X) ?_;rintro _ g1 _ ⟨rfl,N,u,rfl,hc⟩;obtain ⟨rs,z,n⟩:=hc;have j:=z.sl.mono<|fh _ _;obtain ⟨p,c,rfl⟩:=j.form;refine lU (SU.field dA I eG I I)<|lU (eN aF I)<|lM I<|tZ<|bK ?_;have Y:=n.length;have a0:=L.1;refine zb6 3 1<|oP (ι:=Value×Nat×List Rc) (fun i=>[(3,pp d 0),(13,.slice p rs.length c),(14,vi rs.length),(15,vi i.2.1)]) (fun _=>g1)
  (fun i=>rowA encInt 3 i.1 (i.2.2.map Rc.id)::pt d (bY #[.map<|some m,i.1] 76)::mp m (i.2.2.map ap)::pt M (bY #[v] 29)::s)
  (fun i=>i.2.1≤rs.length∧ax (dK<|mns g1 g) (((aa l).take i.2.1).foldl gn []) i.2.2) (fun i=>rs.length - i.2.1) (.slice none 0 0,0,[])
  sB rfl rfl ⟨zf8 _,by simp[ax]⟩ ?_
 rintro ⟨A,k,acc⟩ ⟨hk,a⟩;dsimp only at hk a ⊢;refine rZ<|yL I<|tZ<|sQ<|iP I (fun O=>?_) (fun O=>?_)
 ·have B:k<rs.length:=oM;have C:k<(aa l).length:=oM;have D:=j.based oM;have w:=n.get (List.getElem?_eq_getElem C)<|List.getElem?_eq_getElem B;have t:=Ea (a.mono fun _ _=>dK.cr<|fh _ _) (aa l)[k].id;have f:((aa l).take<|k+1).foldl gn []=gn (((aa l).take k).foldl gn []) (aa l)[k]:=by
   rw[tS C,zj2];rfl
  have a1:=a.length;have F:=gw ((aa l).take k) [];simp only[ze6,zc5] at F;generalize a2:(aa l)[k]=cx at *;generalize P:rs[k]=x at *;have G:rs[((k:Nat):Int).toNat]?=some x:=by rw[← P];exact List.getElem?_eq_getElem B
  cases b:acc.find? (fun r=>r.id == x.id) with
  | some y =>
   refine kP (tN<|sQ<|bK<|rZ<|lU (iA aF ar I I D oM sL)<|lK (SQ.elemA dH ar I j.rd G)<|bW (aL zm2) fun b5=>?_);refine oZ (sK 0 ar I I I I I sB)<|tZ<|sQ<|dW [] [(0,2),(1,2),(2,2),(3,1),(4,2),(5,1),(6,1),(7,2),(8,2),(9,2),(10,0),(11,0),(12,2)] ze5 kR<|yM I<|pU I (nC I)<|pU I (fA qJ I qd I)<|pK I (qL qf I<|cO 2 I I)<|pU I (fA ao I zT3 I)<|pK I (qL iT3 I<|cO 0 I I)<|pK I (SQ.eq (SQ.lookupOk mty64 I I<|bh.own 3 I)<|by (rw[mW,b];done)) ?_;refine yM I<|pU I (xT I I)<|pU I (xT I I)<|SP.o I (aL zm2) dC (.inr iR) ?_;rintro _ _ _ ⟨b6,rfl,rfl,rfl⟩;refine SP.on I (sK 0 ar I I I I I sB) (.inr iR) ?_;rintro _ _ _ ⟨rfl,rfl⟩;refine pU I (aS I)<|pN<|tN<|sW I<|lU (SU.not I)<|tZ<|za1 I<|kP<|bN<|tN<|rG<|yD I<|lM I<|SL.nil<|dR (s':=rowA encInt 3 A (acc.map Rc.id)::pt d (bY #[.map<|some m,A] 76)::mp m (acc.map ap)::pt M (bY #[v] 29)::s) (.cons _<|.cons _<|.refl _) ?_;have Q:acc.any (fun r=>r.id == cx.id)=true:=by
    rw[zk1];exact⟨y,zk8 b,by have:=List.find?_some b;rw[← w.1];exact this⟩
   exact ST.again (A,k+1,acc) sB I I ⟨lN,by dsimp only;rw[f,td<|t.trans Q];exact a⟩ lN
  | none =>
   refine kP (tN<|sQ<|bK<|rZ<|lU (iA aF ar I I D oM sL)<|lK (SQ.elemA dH ar I j.rd G)<|bW (aL zm2) fun b5=>?_);refine oZ (sK 0 ar I I I I I sB)<|tZ<|sQ<|dW [] [(0,2),(1,2),(2,2),(3,1),(4,2),(5,1),(6,1),(7,2),(8,2),(9,2),(10,0),(11,0),(12,2)] ze5 kR<|yM I<|pU I (nC I)<|pU I (fA qJ I qd I)<|pK I (qL qf I<|cO 2 I I)<|pU I (fA ao I zT3 I)<|pK I (qL iT3 I<|cO 0 I I)<|pK I (SQ.eq (SQ.lookupOk mty64 I I<|bh.own 3 I)<|by (rw[mW,b];done)) ?_;refine yM I<|pU I (xT I I)<|pU I (xT I I)<|SP.o I (aL zm2) dC (.inr iR) ?_;rintro _ _ _ ⟨b6,rfl,rfl,rfl⟩;refine SP.on I (sK 0 ar I I I I I sB) (.inr iR) ?_;rintro _ _ _ ⟨rfl,rfl⟩;refine pU I (aS I)<|pN<|tN<|sW I<|lU (SU.not I)<|tZ<|za2 I<|sQ ?_;refine dW [7] [(0,2),(1,2),(2,2),(3,1),(4,2),(5,1),(6,1),(7,0)] ze5 kR ?_;refine yM I<|pU I (nC I)<|pU I (fA qJ I qd I)<|pK I (qL qf I<|cO 3 I I)<|pU I (fA ao I zT3 I)<|pK I (qL iT3 I<|cO 1 I I)<|pK I (qV 1 dH ar I I I)<|SP.on I (SO.mapUpdate 4 mty64 I I I I) (.inl dC) ?_;rintro _ _ _ ⟨rfl,rfl⟩;refine pN<|tN ?_;refine dW [8,9,10,11] [(0,2),(1,2),(2,2),(3,2),(4,1),(5,2),(6,1),(7,0),(8,0),(9,0),(10,0),(11,0)] ze5 kR ?_;refine yM I<|yM I<|pU I (nC I)<|pU I (fA qJ I fW I)<|pK I (qL ic I<|cO 3 I I)<|pU I (fA ao I zT3 I)<|pK I (qL iT3 I<|cO 1 I I)<|SP.o I (bS sty32 I I I (ab sB) dC) dC (.inr iR) ?_;rintro _ _ _ ⟨a3,rfl,rfl,rfl⟩;refine SP.o I (SO.app1 2 (((acc++[x]).map Rc.id).flatMap encInt.enc) ((acc++[x]).map Rc.id).length sty32 I I I I I ⟨I,trivial⟩ (by simp[encInt];rfl) dO (by simp;omega) (by simp;omega)) dC (.inl dC) ?_;rintro iv' _ _ ⟨rfl,rfl⟩;refine zd3 fun ⟨w0,H⟩=>?_;obtain ⟨R,S,rfl⟩:=ah (e:=encInt) (l:=(acc++[x]).map Rc.id) (i:=2) H rfl;clear H w0;refine oU rfl (nC rfl) dC (.inl dC)<|oU rfl (fA qJ rfl fW rfl) dC (.inl dC)<|SP.on rfl (SO.store1 3 fW rfl rfl rfl rfl (bE rfl)<|by rfl) (.inl dC) ?_;rintro _ _ _ ⟨rfl,rfl⟩;refine pN<|bN<|tN<|rG<|yD I<|lM I<|SL.nil ?_;have Q:acc.any (fun r=>r.id == cx.id)=false:=by
    rw[zk7];intro y T;have:=List.find?_eq_none.1 b y T;rw[← w.1];exact this
   have U:gj (acc.map ap) x.id (rcv x)=(acc++[x]).map ap:=by
    rw[l9 _ _ _ (fun q hq=>by
     obtain ⟨y,T,rfl⟩:=zf4.1 hq;have:=List.find?_eq_none.1 b y T;simpa [ap] using this)]
    simp[ap]
   refine dR (s':=rowA encInt 3 (.slice R ((acc++[x]).map Rc.id).length S) ((acc++[x]).map Rc.id)::pt d (.cells #[.map<|some m,.slice R ((acc++[x]).map Rc.id).length S] 76 (0,0))::mp m ((acc++[x]).map ap)::pt M (bY #[v] 29)::s) ?_ ?_
   ·rw[← U];exact .cons _<|.cons _<|.refl _
   exact ST.again (.slice R ((acc++[x]).map Rc.id).length S,k+1,acc++[x]) sB I I ⟨lN,by dsimp only;rw[f,lG<|t.trans Q];exact a.append ⟨w,trivial⟩⟩ lN
 ·refine xI<|tX<|tX<|bX<|tN<|sW I<|aT I<|rE ?_;have a4:k=rs.length:=oM;have V:(aa l).take k=aa l:=tL oM;rw[V] at a;refine fT fun g2 Z J=>?_;refine ST.freeze fun g3 W hb=>?_;refine ST.freezeMap fun g4 K hm=>?_;refine dR (s':=s) uR ?_;have hI:dp g4 A ((am l).map Cl.id):=by
   rw[show (am l).map Cl.id=acc.map Rc.id from jW (a.mono fun _ _=>dK.cr<|fh _ _)];exact Sl.mono J<|W.trans K
  exact za8 (.inl I) results36 I ⟨I,N.trans<|Z.trans<|W.trans K,d,m,A,acc,I,K _ _ hb,hm,hI,a.mono fun _ _=>dK.mono<|im<|Z.trans<|W.trans K⟩
theorem n9 (E:World)(g:PH)(s:Own)(v:Value)(l:List Cl)(a:ai g v l)(b:aM l) :
  Ctr Tryz.prog E 36 #[.agg #[v]] g s (fun r g' s'=>s=s'∧Le g g'∧Tab g' r (am l)) :=
 (tT E g s v l a b).mono fun _ _ _ ⟨c,d,e⟩=>⟨c,d,e.mono (zb9 _) fun _ _=>dK.cr<|fh _ _⟩
theorem zQ {acc:List Cl}{c:Cl}(h:(acc.map Cl.id).Nodup):((gn acc c).map Cl.id).Nodup:=by
 unfold gn;split
 ·exact h
 ·rename_i hc;rw[zg7,List.nodup_append];refine⟨h,by simp,fun a f b hb e=>?_⟩;simp at hb;subst hb;obtain ⟨x,g,d⟩:=zf4.1 f;apply hc;rw[zk1];exact⟨x,g,by simp[d,e]⟩
theorem wV (l:List Cl):∀ acc:List Cl,(acc.map Cl.id).Nodup→((l.foldl gn acc).map Cl.id).Nodup:=by
 induction l with
 | nil=>intro acc h;exact h
 | cons c r ih=>intro acc h;exact ih _<|zQ h
theorem iX (l:List Cl):((am l).map Cl.id).Nodup:=wV _ [] dO
theorem un (l:List Cl):∀ (acc:List Cl) (x:Cl),x∈l.foldl gn acc→x∈acc∨x∈l:=by
 induction l with
 | nil=>intro acc x h;exact .inl h
 | cons c r ih =>
  intro acc x h
  rcases ih _ x h with a | a
  ·unfold gn at a;split at a
   ·exact .inl a
   ·rcases zf5.1 a with b | b
    ·exact .inl b
    ·right;simp at b;simp[b]
  ·exact .inr (by simp[a])
theorem sk {l:List Cl}{x:Cl}(h:x∈am l):x∈aa l:=(un _ [] x h).resolve_left dO
theorem bU {l:List Cl}(h:aM l):aM (am l):=by
 have hc:=aB h;refine⟨?_,fun c hm=>hc.2 c<|sk hm⟩;have:=gw (aa l) [];unfold am;have a:=hc.1;simp at this;omega
theorem Ad {rs:List Rc}(h:(rs.map Rc.id).Nodup){k:Nat}{r:Rc}(a:rs[k]?=some r):rs.find? (fun x=>x.id == r.id)=some r:=by
 induction rs generalizing k with
 | nil=>simp at a
 | cons y t ih =>
  simp only[zg6,zk4] at h;cases k with
  | zero=>simp at a;subst a;simp
  | succ k =>
   simp only[List.getElem?_cons_succ] at a;have b:(y.id == r.id)=false:=by
    simp only[beq_eq_false_iff_ne,ne_eq];intro e;exact h.1 (by rw[e];exact zf4.2 ⟨r,zg4 a,I⟩)
   rw[zi8,b];exact ih h.2 a
def tV (E:World)(pv:Value)(p:Cl→Bool)(tl:List Cl)(g:PH):Prop :=
 ∀ g' s c r,Le g g'→c∈tl→ak g' c r→cU Tryz.prog E pv [rcv r] g' s (fun x g'' s''=>x=vb (p c)∧g'=g''∧s=s'')
theorem yb (R:Cl→Rc→Prop)(E:World)(g:PH)(s:Own)(v pv:Value)(tl:List Cl)(p:Cl→Bool)(O:∀ c r,R c r→ak g c r)(U:C3 R g v tl)(H:(tl.map Cl.id).Nodup)(V:aM tl)(hp:tV E pv p tl g) :
  Ctr Tryz.prog E 47 #[v,pv] g s (fun r g' s'=>s=s'∧Le g g'∧∃ u rs,r = .agg #[u]∧RK encCell 37 (mns g' g) u rs∧ax R (tl.filter p) rs):=by
 obtain ⟨b,m,iv,rs,rfl,hb,hm,G,f⟩:=U;have x:=jW<|f.mono O;have P:=f.length;have W:=V.1;have J:(rs.map Rc.id).Nodup:=by rw[← x];exact H
 obtain ⟨q,d,rfl⟩:=G.form;refine zb2 (args:=[pp b 0,pv]) func47 I ntmps47 (bE I)<|rZ (bW (aL zl3) fun Q=>?_);refine tZ (rZ<|bW (aL zl3) fun S=>?_);refine tZ<|sQ<|sW I<|lU (nC I)<|lU (fA qJ I fW I)<|lK (qL ic I<|cK hb I)<|lU (eN az I)<|lM I<|tZ<|bK<|zb6 37 3 ?_;simp only[ze8] at G hb ⊢;refine oP (ι:=Value×Nat×List Rc) (fun i=>[(0,pp b 0),(1,pv),(4,pp Q 0),(5,pp S 0),(11,.slice q tl.length d),(12,vi tl.length),(13,vi i.2.1)]) (fun _=>g)
  (fun i=>rowA encCell 37 i.1 i.2.2::pt S (bY #[i.1] 29)::pt Q (bY #[.slice none 0 0] 29)::s)
  (fun i=>i.2.1≤tl.length∧ax R ((tl.take i.2.1).filter p) i.2.2) (fun i=>tl.length - i.2.1) (.slice none 0 0,0,[])
  sB rfl rfl ⟨zf8 _,by simp[ax]⟩ ?_
 rintro ⟨X,k,acc⟩ ⟨Y,a⟩;dsimp only at Y a ⊢;refine rZ<|yL I<|tZ<|sQ<|iP I (fun K=>?_) (fun K=>?_)
 ·have n:k<tl.length:=oM;have y:k<rs.length:=oM;have L:=G.based (by simp;omega);have z:=f.get (List.getElem?_eq_getElem n)<|List.getElem?_eq_getElem y;have A:=O _ _ z;have B:tl[k]∈tl:=gM n;have t:ep (rs.map ap) tl[k].id=some (rcv rs[k]):=by
   rw[mW,← A.1,Ad J<|List.getElem?_eq_getElem y];rfl
  have j:(tl.take<|k+1).filter p=(tl.take k).filter p++(if p tl[k] then [tl[k]] else []):=by
   rw[tS n,zh8];simp only[zi9,List.filter_nil]
  have M:(tl.map Cl.id)[((k:Nat):Int).toNat]?=some tl[k].id:=by simp[n]
  have Z:=a.length;have T:((tl.take k).filter p).length≤k:=zk9 (zc6 _ _) (by simp;omega);generalize a0:tl[k]=c at *;generalize a1:rs[k]=r at *;refine kP<|tN<|sQ<|bK<|rZ<|lU (iA az zT3 I I L oM sL)<|lK (eB iT3 I G.rd M I)<|aT I<|sW I<|lM I<|lU (nC I)<|lU (fA qJ I qd I)<|lK (qL qf I<|cK hb I)<|lM I<|lK (SQ.eq (SQ.lookup mty64 I I<|bh.known hm)<|by (rw[t];done)) ?_;refine lW (SO.callV I I<|hp g _ c r (zb9 g) B A) ?_;rintro _ _ _ ⟨rfl,rfl,rfl⟩;refine tZ ?_;refine iQ I (fun w=>?_) (fun w=>?_)
  ·refine dW [9,10,11] [(0,2),(1,1),(2,2),(3,2),(4,2),(5,1),(6,2),(7,1),(8,0),(9,0),(10,0),(11,0)] ze5 kR<|pU I (fA dA I cq I)<|pK I (qL eG I<|cO 1 I I)<|yM I<|pU I (nC I)<|pU I (fA qJ I qd I)<|pK I (qL qf I<|cK hb I)<|yM I<|pK I (SQ.eq (SQ.lookup mty64 I I<|bh.known hm)<|by (rw[t];done)) ?_;refine SP.o I (bS sty27 I I I (ab sB) dC) dC (.inr iR) ?_;rintro _ _ _ ⟨a2,rfl,rfl,rfl⟩;refine SP.o I (SO.app1 0 ((acc++[r]).flatMap encCell.enc) (acc++[r]).length sty27 I I I I I sB (by (simp[encCell];rfl)) dO lN lN) dC (.inl dC) ?_;rintro ov' _ _ ⟨rfl,rfl⟩;refine zd3 fun ⟨w0,C⟩=>?_;obtain ⟨q',d',rfl⟩:=ah (e:=encCell) (l:=acc++[r]) (i:=0) C rfl;clear C w0;refine oU I (fA dA I cq I) dC (.inl dC)<|SP.on I (sK 1 cq I I I I I sB) (.inl dC) ?_;rintro _ _ _ ⟨rfl,rfl⟩;refine pN<|bN<|tN<|rG<|yD I<|lM I<|SL.nil ?_;exact ST.again (.slice q' (acc++[r]).length d',k+1,acc++[r]) sB I I ⟨lN,by dsimp only;rw[j,w];exact a.append ⟨z,trivial⟩⟩ lN
  ·exact kP<|bN<|tN<|rG<|yD I<|lM I<|SL.nil<|ST.again (X,k+1,acc) sB I I ⟨lN,by dsimp only;rw[j,w];simpa using a⟩ lN
 ·have N:tl.take k=tl:=tL oM;rw[N] at a;refine xI (tX<|tX<|bX<|tN<|rZ<|SL.freezeRowK fun g2 D F=>?_);obtain ⟨q2,d2,rfl⟩:=F.form;exact lK (qV 0 an ae I I I)<|oZ (sK 1 ae I I I I I sB)<|tZ<|rE<|ST.retCD 1 s (.inl I) results47 I an ae I I uR ⟨I,D,_,acc,I,F,a⟩
theorem B4 (E:World)(g:PH)(s:Own)(v pv:Value)(tl:List Cl)(p:Cl→Bool)(c:Tab g v tl)(a:(tl.map Cl.id).Nodup)(d:aM tl)(hp:tV E pv p tl g) :
  Ctr Tryz.prog E 47 #[v,pv] g s (fun r g' s'=>s=s'∧Le g g'∧∃ u,r = .agg #[u]∧ai g' u (tl.filter p)) :=
 (yb (ak g) E g s v pv tl p (fun _ _ h=>h) c a d hp).mono fun _ _ _ ⟨e,b,u,rs,f,i,j⟩=>⟨e,b,u,f,rs,i.sl.mono<|fh _ _,j.mono fun _ _=>ak.mono b⟩
theorem xh {l:List Cl}(p:Cl→Bool)(h:aM l):aM (l.filter p) :=
 ⟨Nat.lt_of_le_of_lt (zc6 _ _) h.1,fun c hc=>h.2 c (zh6.1 hc).1⟩
theorem zS (E:World)(g:PH)(s:Own)(v pv:Value)(tl:List Cl)(p:Cl→Bool)(A:Tab g v tl)(l:(tl.map Cl.id).Nodup)(y:aM tl)(hp:tV E pv p tl g) :
  Ctr Tryz.prog E 217 #[v,pv] g s (fun r g' s'=>s=s'∧Le g g'∧dp g' r ((tl.filter p).map Cl.id)):=by
 have B:=(xh p y).1;refine zb2 (args:=[v,pv]) func217 I ntmps217 (bE I)<|rZ<|aT I<|rZ<|aT I<|sQ<|sW I<|lM I<|lW (SO.call call47 I<|B4 E g _ v pv tl p A l y hp) ?_;rintro _ g1 _ ⟨rfl,m,u,rfl,rs,c,b⟩;obtain ⟨q,d,rfl⟩:=c.form;have z:=b.length;refine lU (SU.field dA I eG I I)<|lU (eN aF I)<|lM I<|tZ<|bK ?_;have e:=jW b;refine zb6 3 1<|oP (ι:=Value×Nat) (fun i=>[(5,i.1),(11,.slice q rs.length d),(12,vi rs.length),(13,vi i.2)]) (fun _=>g1)
  (fun i=>rowA encInt 3 i.1 ((rs.take i.2).map Rc.id)::s)
  (fun i=>i.2≤rs.length) (fun i=>rs.length - i.2) (.slice none 0 0,0)
  sB rfl rfl (zf8 _) ?_
 rintro ⟨H,k⟩ C;dsimp only at C ⊢;refine rZ<|yL I<|tZ<|sQ<|iP I (fun n=>?_) (fun n=>?_)
 ·have f:k<rs.length:=oM;have o:=c.based oM;have a:(rs.take<|k+1).map Rc.id=(rs.take k).map Rc.id++[rs[k].id]:=by rw[tS f,zg7];rfl
  have t:rs[((k:Nat):Int).toNat]?=some rs[k]:=List.getElem?_eq_getElem f;have D:((rs.take k).map Rc.id).length=k:=by simp;omega
  generalize J:rs[k]=x at *;refine kP (tN<|sQ<|bK<|rZ<|lU (iA aF ar I I o oM sL)<|lK (SQ.elemA dH ar I c.rd t)<|bW (aL zm2) fun K=>?_);refine oZ (sK 0 ar I I I I I sB)<|tZ<|rG<|lM I<|lU (fA ao I zT3 I)<|lK (qL iT3 I<|cO 0 I I)<|lW (bS sty32 I I I (ab sB) dC) ?_;rintro _ _ _ ⟨F,rfl,rfl,rfl⟩;refine lW (SO.app1 1 (((rs.take<|k+1).map Rc.id).flatMap encInt.enc) ((rs.take<|k+1).map Rc.id).length sty32 I I I I I ⟨I,trivial⟩ (by rw[a];simp[encInt];rfl) (by rw[a];simp) lN lN) ?_;rintro ov' _ _ ⟨rfl,rfl⟩;exact lA I<|SL.nil<|bN<|tN<|rG<|yD I<|lM I<|SL.nil<|dR (s':=rowA encInt 3 ov' ((rs.take<|k+1).map Rc.id)::s) (.cons _<|.refl _)<|ST.again (ov',k+1) sB I I lN lN
 ·refine xI<|tX<|tX<|bX<|tN<|sW I<|aT I<|rE ?_;have w:rs.take k=rs:=tL oM;rw[w];refine fT fun g2 G j=>?_;exact za8 (.inl I) results217 I ⟨I,m.trans G,by rw[e];exact j⟩
def CW (E:World)(pv:Value)(q:aj→Bool)(g:PH):Prop :=
 ∀ g' s a,Le g g'→cU Tryz.prog E pv [.agg (encSide.enc a).toArray] g' s (fun x g'' s''=>x=vb (q a)∧g'=g''∧s=s'')
theorem zY (E:World)(g:PH)(s:Own)(v:Value)(e:FuncId)(f:Array Value)(l:List aj)(q:aj→Bool)(i:SlA encSide g v l)(hl:l.length<1099511627776)(hp:CW E (.func (.func e) #[] f) q g) :
  Ctr Tryz.prog E 133 #[v,.func (.func e) #[] f] g s (fun r g' s'=>(∃ n:Int,r=vi n∧decide (n≥0)=l.any q)∧g=g'∧s=s'):=by
 obtain ⟨p,c,rfl⟩:=i.form;refine zb2 (args:=[.slice p l.length c,.func (.func e) #[] f]) func133 I ntmps133 (bE I)<|rZ<|aT I<|sQ<|sW I<|lU (eN a7 I)<|lM I<|tZ<|bK<|oP (ι:=Nat) (fun k=>[(0,.slice p l.length c),(1,.func (.func e) #[] f),(7,vi l.length),(8,vi k)]) (fun _=>g) (fun _=>s) (fun k=>k≤l.length∧(l.take k).any q=false) (fun k=>l.length - k) 0
  sB rfl rfl ⟨zf8 _,by simp⟩ ?_
 rintro k ⟨t,a⟩;refine rZ<|yL I<|tZ<|sQ<|iP I (fun j=>?_) (fun j=>?_)
 ·have b:k<l.length:=oM;have m:=i.based oM;refine kP<|tN<|sQ<|bK<|sW I<|aT I<|sW I<|lM I<|lM I<|lU (iA a7 aR I I m oM sL)<|SL.q (SQ.elemA iU aR I i.rd<|List.getElem?_eq_getElem b) dC ?_;refine lW (SO.callV I I<|hp g _ l[k] (zb9 g)) ?_;rintro _ _ _ ⟨rfl,rfl,rfl⟩;refine tZ<|iQ I (fun hq=>?_) (fun hq=>?_)
  ·refine sW I<|aT I<|rE<|bR<|tR<|tR<|bR<|tR ?_;have d:l.any q=true:=zk1.2 ⟨l[k],gM b,hq⟩;exact za8 (.inl I) results133 I ⟨⟨k,I,by rw[d];simp⟩,I,I⟩
  ·exact kP<|bN<|tN<|rG<|yD I<|lM I<|SL.nil<|ST.again (k+1) sB I I ⟨oM,by rw[tS b,List.any_append,a];simpa using hq⟩ oM
 ·refine xI<|tX<|tX<|bX<|tN<|rZ<|aT I<|rE ?_;have o:l.take k=l:=tL oM;rw[o] at a;exact za8 (.inl I) results133 I ⟨⟨-1,I,by rw[a];rfl⟩,rfl,rfl⟩
theorem mr (E:World)(g:PH)(s:Own)(v:Value)(a:FuncId)(b:Array Value)(l:List aj)(q:aj→Bool)(c:SlA encSide g v l)(hl:l.length<1099511627776)(hp:CW E (.func (.func a) #[] b) q g) :
  Ctr Tryz.prog E 86 #[v,.func (.func a) #[] b] g s (fun r g' s'=>r=vb (l.any q)∧g=g'∧s=s'):=by
 refine zb2 (args:=[v,.func (.func a) #[] b]) func86 I ntmps86 (bE I)<|rZ<|aT I<|sW I<|lM I<|lW (SO.call call133 I<|zY E g _ v a b l q c hl hp) ?_;rintro _ _ _ ⟨⟨n,rfl,hn⟩,rfl,rfl⟩;exact lU (gQ I I)<|aT I<|rE<|za8 (.inl I) results86 I ⟨by rw[hn],I,I⟩
def nU (c:Cl)(id:Int):Bool:=c.sides.any fun x=>decide (x.cell=id)
theorem hasP (E:World)(g:PH)(b:Nat)(id:Int)(hb:g b=some (bY #[vi id] 3)):CW E (.func (.func 235) #[] #[pp b 0]) (fun x=>decide (x.cell=id)) g:=by
 intro g s a c;refine cU.mk (cap:=[pp b 0]) call235 ?_;have d:=c _ _ hb;refine zb2 (args:=[.agg (encSide.enc a).toArray,pp b 0]) func235 I ntmps235 (bE I)<|rZ (bW (bO I) fun e=>?_);exact aT I<|rZ<|lU (fA de I zT3 I)<|lK (qL iT3 I<|cO 0 I I)<|lK (qL iT3 I<|cK d I)<|yE I<|aT I<|rE<|dR (s':=s) uR<|za8 (.inl I) results235 I ⟨I,I,I⟩
theorem DM (E:World)(g:PH)(s:Own)(c:Cl)(r:Rc)(id:Int)(hc:ak g c r)(hl:c.sides.length<1099511627776) :
  Ctr Tryz.prog E 219 #[rcv r,vi id] g s (fun r g' s'=>r=vb (nU c id)∧g=g'∧s=s'):=by
 refine zb2 (args:=[rcv r,vi id]) func219 I ntmps219 (bE I)<|rZ (bW (bO I) fun d=>?_);refine bW (bO I) fun b=>zb5 fun g1 a hb=>?_;refine aT I<|rZ<|lU (fA ao I aH I)<|lK (qL bi I<|cO 0 I I)<|lU (SU.mkFunc I)<|lW (SO.call call86 I<|mr E g1 _ _ 235 #[pp b 0] c.sides _ (hc.2.2.mono a) hl (hasP E g1 b id hb)) ?_;rintro _ _ _ ⟨rfl,rfl,rfl⟩;exact aT I<|rE<|dR (s':=s) (.cons _<|.refl _)<|ST.less a<|za8 (.inl I) results219 I ⟨I,I,I⟩
theorem Gq (E:World)(g:PH)(b:Nat)(id:Int)(tl:List Cl)(e:aM tl)(hb:g b=some (bY #[vi id] 3)):tV E (.func (.func 218) #[] #[pp b 0]) (fun c=>nU c id) tl g:=by
 intro g s c r a hm hc;refine cU.mk (cap:=[pp b 0]) call218 ?_;have d:=a _ _ hb;refine zb2 (args:=[rcv r,pp b 0]) func218 I ntmps218 (bE I)<|rZ (bW (bO I) fun f=>?_);refine aT I<|rZ<|lK (qV 0 dH ar I I I)<|lK (qL iT3 I<|cK d I)<|lW (SO.call call219 I<|DM E g _ c r id hc<|e.2 c hm) ?_;rintro _ _ _ ⟨rfl,rfl,rfl⟩;exact aT I<|rE<|dR (s':=s) uR<|za8 (.inl I) results218 I ⟨I,I,I⟩
def aC (l:List Cl)(id:Int):List Int:=((am l).filter fun c=>nU c id).map Cl.id
theorem Az (E:World)(g:PH)(s:Own)(v:Value)(l:List Cl)(id:Int)(e:ai g v l)(d:aM l) :
  Ctr Tryz.prog E 197 #[.agg #[v],vi id] g s (fun r g' s'=>s=s'∧Le g g'∧dp g' r (aC l id)):=by
 refine zb2 (args:=[.agg #[v],vi id]) func197 I ntmps197 (bE I)<|rZ (bW (bO I) fun j=>?_);refine bW (bO I) fun f=>zb5 fun g1 b hb=>?_;refine aT I<|rZ<|lK (qV 0 an ae I I I)<|lW (SO.call call36 I<|n9 E g1 _ v l (e.mono b) d) ?_;rintro tv g2 _ ⟨rfl,a,i⟩;refine lU (SU.mkFunc I)<|lW (SO.call call217 I<|zS E g2 _ tv _ _ _ i (iX l) (bU d)<|Gq E g2 f id _ (bU d)<|a _ _ hb) ?_;rintro r8 g3 _ ⟨rfl,c,hr⟩;exact aT I<|rE<|dR (s':=s) uR<|za8 (.inl I) results197 I ⟨I,b.trans<|a.trans c,hr⟩
theorem Tryz.mty96:MTy Tryz.prog 96 3 4 (vb false):=⟨underlying96,underlying3,zl9⟩
def vd:Rc:=⟨0,0,none,0,0⟩
def aA:Cl:=⟨0,0,[]⟩
theorem m7 {R:Cl→Rc→Prop}(d:∀ c r,R c r→r.id=c.id){tl:List Cl}{rs:List Rc}(h:ax R tl rs)(k:Int):(tl.find? (fun c=>decide (c.id=k))=none∧ep (rs.map ap) k=none)∨∃ c r,tl.find? (fun c=>decide (c.id=k))=some c∧ep (rs.map ap) k=some (rcv r)∧R c r:=by
 induction tl generalizing rs with
 | nil=>cases rs with | nil=>exact .inl ⟨rfl,rfl⟩ | cons _ _=>exact h.elim
 | cons c t ih =>
  cases rs with
  | nil=>exact h.elim
  | cons r rs =>
   simp only[zg6,ap,c8,zi8];by_cases a:c.id=k
   ·right;have:k=r.id:=by rw[d _ _ h.1,a]
    exact⟨c,r,by simp[a],by rw[zg3 this],h.1⟩
   ·have b:¬ k=r.id:=by rw[d _ _ h.1];exact fun e=>a e.symm
    simp only[a,decide_false,zg2 b];exact ih h.2
theorem CL {g:PH}{tl:List Cl}{rs:List Rc}(h:ax (ak g) tl rs)(k:Int):(tl.find? (fun c=>decide (c.id=k))=none∧ep (rs.map ap) k=none)∨∃ c r,tl.find? (fun c=>decide (c.id=k))=some c∧ep (rs.map ap) k=some (rcv r)∧ak g c r:=m7 (fun _ _ h=>h.1) h k
theorem dE {g:PH}{tl:List Cl}{rs:List Rc}(h:ax (ak g) tl rs)(d:∀ g,ak g aA vd)(k:Int):∃ r,(ep (rs.map ap) k).getD (.agg #[vi 0,vi 0,.slice none 0 0])=rcv r∧(ep (rs.map ap) k).isSome=(tl.find?<|fun c=>decide (c.id=k)).isSome∧ak g ((tl.find?<|fun c=>decide (c.id=k)).getD aA) r:=by
 rcases CL h k with ⟨a,b⟩ | ⟨c,r,a,b,e⟩
 ·exact⟨vd,by rw[b];rfl,by rw[a,b];rfl,by rw[a];exact d g⟩
 ·exact⟨r,by rw[b];rfl,by rw[a,b];rfl,by rw[a];exact e⟩
theorem gW (g:PH):ak g aA vd:=⟨rfl,rfl,zc1 g _⟩
theorem FW (g:PH):dK g aA vd:=⟨rfl,rfl,RK.nil _ _ g⟩
theorem As {g:PH}{tl:List Cl}{rs:List Rc}(h:ax (dK g) tl rs)(k:Int):∃ r,(ep (rs.map ap) k).getD (.agg #[vi 0,vi 0,.slice none 0 0])=rcv r∧(ep (rs.map ap) k).isSome=(tl.find?<|fun c=>decide (c.id=k)).isSome∧dK g ((tl.find?<|fun c=>decide (c.id=k)).getD aA) r:=by
 rcases m7 (fun _ _ h=>h.1) h k with ⟨a,b⟩ | ⟨c,r,a,b,d⟩
 ·exact⟨vd,by rw[b];rfl,by rw[a,b];rfl,by rw[a];exact FW g⟩
 ·exact⟨r,by rw[b];rfl,by rw[a,b];rfl,by rw[a];exact d⟩
def findC (l:List Cl)(id:Int):Option Cl:=(am l).find? fun c=>decide (c.id=id)
theorem DS (E:World)(g:PH)(s:Own)(v:Value)(l:List Cl)(id:Int)(i:ai g v l)(j:aM l) :
  Ctr Tryz.prog E 9 #[.agg #[v],vi id] g s (fun r g' s'=>s=s'∧Le g g'∧∃ x,r = .tuple #[rcv x,vb (findC l id).isSome]∧dK (mns g' g) ((findC l id).getD aA) x):=by
 refine zb2 (args:=[.agg #[v],vi id]) func9 I ntmps9 (bE I)<|rZ (bW (bO I) fun n=>?_);refine bW (aL zm2) fun o=>aT I<|rZ<|lK (qV 1 an ae I I I)<|lW (SO.call call36 I<|tT E g _ v l i j) ?_;rintro tv g1 _ ⟨rfl,c,k⟩;obtain ⟨b,m,p,rs,rfl,hb,hm,q,a⟩:=k;obtain ⟨x,d,e,f⟩:=As a id;refine lU (nC I)<|lU (fA qJ I qd I)<|lK (qL qf I<|cK hb I)<|lM I<|lK (SQ.eq (v':=.tuple #[rcv x,vb (findC l id).isSome]) (SQ.lookupOk mty64 I I<|bh.known hm) (by rw[d,e];rfl)) ?_;refine lM I (yX I<|yX I<|bW (aL zm2) fun t=>?_);exact oZ (sK 0 ar I I I I I sB)<|aT I<|rZ<|lK (qV 0 dH ar I I I)<|lM I<|oZ (sK 1 ar I I I I I sB)<|aT I<|rE<|ST.retCD1 1 s (.inl I) results9 I I dH ar I I uR ⟨I,c,x,I,f⟩
theorem Cy (E:World)(g:PH)(s:Own)(v:Value)(l:List Cl)(id:Int)(a:ai g v l)(b:aM l) :
  Ctr Tryz.prog E 9 #[.agg #[v],vi id] g s (fun r g' s'=>s=s'∧Le g g'∧∃ x,r = .tuple #[rcv x,vb (findC l id).isSome]∧ak g' ((findC l id).getD aA) x) :=
 (DS E g s v l id a b).mono fun _ _ _ ⟨c,d,x,e,f⟩=>⟨c,d,x,e,f.cr<|fh _ _⟩
def kS (tl:List Cl)(k:Int):Bool:=tl.any fun c=>nU c k
def wy (l:List Cl):List Int:=((am l).filter fun c=>!kS (am l) c.id).map Cl.id
theorem yY {g:PH}{tl:List Cl}{rs:List Rc}(h:ax (ak g) tl rs){r:Rc}(hr:r∈rs):∃ c,c∈tl∧ak g c r:=by
 obtain ⟨i,b,rfl⟩:=zc8 hr;have hl:=h.length;have a:i<tl.length:=oM;exact⟨tl[i],gM a,h.get (List.getElem?_eq_getElem a)<|List.getElem?_eq_getElem b⟩
theorem Dz {tl:List Cl}(h:(tl.map Cl.id).Nodup){a b:Cl}(g:a∈tl)(hb:b∈tl)(e:a.id=b.id):a=b:=by
 induction tl with
 | nil=>simp at g
 | cons c t ih =>
  simp only[zg6,zk4] at h
  rcases zf3.1 g with rfl | d <;> rcases zf3.1 hb with rfl | f
  ·rfl
  ·exact absurd (zf4.2 ⟨b,f,e.symm⟩) h.1
  ·exact absurd (zf4.2 ⟨a,d,e⟩) h.1
  ·exact ih h.2 d f
theorem wU {f tl:List Cl}(i:∀ c∈f,c∈tl)(hp:(f.map Cl.id).Perm (tl.map Cl.id))(hn:(tl.map Cl.id).Nodup):f.Perm tl:=by
 have g:(f.map Cl.id).Nodup:=hp.symm.nodup hn;refine (List.perm_ext_iff_of_nodup (List.Pairwise.of_map Cl.id (fun a b d e=>d<|by rw[e]) g)<|List.Pairwise.of_map Cl.id (fun a b d e=>d<|by rw[e]) hn).2 fun c=>⟨i c,fun hc=>?_⟩;obtain ⟨k,j,l⟩:=zf4.1<|hp.symm.subset<|zf4.2 ⟨c,hc,rfl⟩;rw[← Dz hn (i k j) hc l];exact j
theorem vk {g:PH}{vl:List (Int×Value)}{rs:List Rc}{b tl:List Cl}(e:vl.map Prod.fst=b.map Cl.id)(f:∀ c∈b,c∈tl)(hn:(tl.map Cl.id).Nodup)(a:ax (ak g) tl rs)(hp:vl.Perm (rs.map ap)):b.Perm tl:=by
 refine wU f ?_ hn;have d:=hp.map Prod.fst;rw[e,zi7] at d;rw[jW a];exact d
theorem Ge {f:Fr}{t:Nat}{a b:Int}(h:aN f t=some (vi a))(e:a=b):aN f t=some (vi b):=e ▸ h
theorem nG {α:Type}{s:List α}{i:Nat}{a:α}(h:s[i]?=some a):s.set i a=s:=by
 apply List.ext_getElem?;intro j;rw[List.getElem?_set];split
 ·rename_i e;subst e;split
  ·exact h.symm
  ·rename_i b;rw[List.getElem?_eq_none oM]
 ·rfl
def ag (tl:List Cl)(id:Int):Option Cl:=tl.find? fun c=>decide (c.id=id)
def eo (tl:List Cl):Nat→Int→List Int→List Int
 | 0,_,vis=>vis
 | n+1,id,vis =>
  match ag tl id with
  | none=>vis
  | some c=>if vis.contains id then vis else c.sides.foldl (fun v x=>eo tl n x.cell v) (vis++[id])
theorem px (tl:List Cl)(n:Nat)(id:Int)(vis:List Int):eo tl (n+1) id vis=(match ag tl id with
  | none=>vis
  | some c=>if vis.contains id then vis else c.sides.foldl (fun v x=>eo tl n x.cell v) (vis++[id])):=rfl
def qh (tl:List Cl)(vis:List Int):Nat:=(tl.filter fun c=>!vis.contains c.id).length
def qp (tl:List Cl)(ids:List Int):List Int:=ids.foldl (fun v id=>eo tl (tl.length+1) id v) []
theorem qS (tl:List Cl):∀ (n:Nat) (id:Int) (vis:List Int) (x:Int),x∈vis→x∈eo tl n id vis
 | 0,_,_,_,h=>h
 | n+1,id,vis,x,h=>by
  unfold eo;split
  ·exact h
  ·split
   ·exact h
   ·rename_i c _ _;have:∀ (l:List aj) (v:List Int),x∈v→x∈l.foldl (fun v y=>eo tl n y.cell v) v:=by
     intro l;induction l with
     | nil=>intro v a;exact a
     | cons y t ih=>intro v a;exact ih _<|qS tl n y.cell v x a
    exact this _ _ (by simp[h])
theorem oN {tl:List Cl}{v v':List Int}(h:∀ x∈v,x∈v'):qh tl v'≤qh tl v:=by
 unfold qh;rw[← List.countP_eq_length_filter,← List.countP_eq_length_filter];apply List.countP_mono_left;intro c _ hp;simp at hp ⊢;exact fun e=>hp<|h _ e
theorem Bo {tl:List Cl}{v:List Int}{c:Cl}(hc:c∈tl)(hn:v.contains c.id=false):qh tl (v++[c.id])<qh tl v:=by
 induction tl with
 | nil=>simp at hc
 | cons d t ih =>
  have hm:qh t (v++[c.id])≤qh t v:=oN (fun x f=>by simp[f]);have e1:∀ u:List Int,qh (d::t) u=(if u.contains d.id then 0 else 1)+qh t u:=fun u=>by
   unfold qh;rw[zi9];cases u.contains d.id <;> simp <;> omega
  rw[e1,e1]
  rcases zf3.1 hc with rfl | a
  ·have:(v++[c.id]).contains c.id=true:=by simp
   rw[this,hn];simp;omega
  ·have:=ih a;cases b:v.contains d.id
   ·cases e:(v++[c.id]).contains d.id <;> simp <;> omega
   ·have e:(v++[c.id]).contains d.id=true:=by simp at b ⊢;exact .inl b
    rw[e];simp;exact this
def iw (vis:List Int):List (Int×Value):=vis.map fun k=>(k,vb true)
theorem xS (vis:List Int):Gy (iw vis) (fun k=>vis.contains k):=by
 intro k;induction vis with
 | nil=>rfl
 | cons a t ih =>
  simp only[iw,zg6,c8] at ih ⊢;by_cases h:k=a
  ·simp[h]
  ·have b:(k == a)=false:=by simpa using h
   rw[zg2 h,ih];simp[h]
theorem sz {vis:List Int}{id:Int}(h:vis.contains id=false):gj (iw vis) id (vb true)=iw (vis++[id]):=by
 rw[l9 _ _ _ (fun p hp=>by
  obtain ⟨a,b,rfl⟩:=zf4.1 hp;intro e;simp at h;exact h (by rw[← e];exact b))]
 simp[iw]
theorem aJ {tl:List Cl}{id:Int}{c:Cl}(h:ag tl id=some c):c∈tl∧c.id=id:=⟨zk8 h,by simpa using List.find?_some h⟩
theorem f9 {α:Type}{l:List α}{j:Nat}{y:α}(h:l[j]?=some y):l.take (j+1)=l.take j++[y]:=by
 obtain ⟨a,b⟩:=zf7.1 h;rw[tS a,b]
theorem Bj {α:Type}{s:List α}{i:Nat}{a:α}(h:s[i]?=some a)(b:α):(s.set i b)[i]?=some b:=by
 have:=(zf7.1 h).1;simp[this]
theorem zJ (E:World)(g:PH)(p bm bf m:Nat)(O:Value)(tl:List Cl)(S:Tab g O tl)(T:aM tl)(U:g p=some (bY #[O] 77))(P:g bm=some (bY #[.map<|some m] 96))
  (V:g bf=some (.cells #[.func (.func 105) #[] #[pp p 0,pp bm 0,pp bf 0]] 148 (0,0))):∀ (n:Nat) (id:Int) (vis:List Int) (s:Own) (i:Nat),qh tl vis<n→s[i]?=some (mp m<|iw vis) →
  Ctr Tryz.prog E 105 #[vi id,pp p 0,pp bm 0,pp bf 0] g s (fun _ g' s'=>g=g'∧s'=s.set i (mp m<|iw<|eo tl n id vis)):=by
 intro n;induction n with
 | zero=>intro id vis s i h;omega
 | succ n ih =>
 intro id vis s i Q w;have A:=S;obtain ⟨b,mt,iv,rs,rfl,hb,hm,hI,r⟩:=A;obtain ⟨x,B,C,D⟩:=dE r gW id;obtain ⟨W,X,F,R,G⟩:=x;have d:SlA encSide g (.slice F R G) ((ag tl id).getD aA).sides:=D.2.2;have H:R=((ag tl id).getD aA).sides.length:=zc2 d;subst H;refine zb2 (args:=[vi id,pp p 0,pp bm 0,pp bf 0]) func105 I ntmps105 (bE I)<|rZ<|lK (qL isAgg77 I<|cK U I)<|lU (nC I)<|lU (fA qJ I qd I)<|lK (qL qf I<|cK hb I)<|lM I<|lK (SQ.eq (v':=.tuple #[rcv ⟨W,X,F,((ag tl id).getD aA).sides.length,G⟩,vb<|decide ((ag tl id).isSome=true)]) (SQ.lookupOk mty64 I I<|bh.known hm) (by rw[B,C,Bool.decide_eq_true];rfl)) ?_;refine lM I (yX I<|yX I<|bW (aL zm2) fun b5=>?_);refine oZ (sK 0 ar I I I I I sB)<|aT I<|sQ<|SC.cutB 24 (!(ag tl id).isSome||vis.contains id) ?_ ?_
 ·refine rG<|lM I<|lU (SU.notP I)<|lM I<|sP ?_ ?_
  ·intro J;exact yA I<|yA I<|yA I<|yP I<|SL.nil<|zb1 (by simp_all[aN]) mI
  ·intro J;refine SL.gq (gT I I I dC) (qL isAgg96 I<|cK P I) dC<|yC I<|SL.gq (gT I I I dC) (SQ.eq (v':=vb<|decide (vis.contains id=true)) (SQ.lookup mty96 I I<|bh.own (i+1) w) (by rw[(xS vis).get id];simp)) dC ?_;refine yF I<|SL.nil ?_;exact zb1 (by simp_all[aN]) mI
 refine iQ I (fun a=>?_) (fun a=>?_)
 ·refine rE<|tR<|dR (s':=s) uR ?_;have hr:eo tl (n+1) id vis=vis:=by
   unfold eo;cases h:ag tl id with
   | none=>rfl
   | some c =>
    rw[h] at a;simp only[Option.isSome_some,Bool.not_true,Bool.false_or] at a;simp only[a,if_true]
  exact ST.ret0 (.inl I) results105 ⟨I,by rw[hr,nG w]⟩
 ·obtain ⟨c,hc⟩:∃ c,ag tl id=some c:=by
   cases h:ag tl id with
   | none=>rw[h] at a;simp at a
   | some c=>exact⟨c,rfl⟩
  obtain ⟨t,f⟩:=aJ hc;have k:vis.contains id=false:=by rw[hc] at a;simpa using a
  have Y:=T.2 c t;have l:qh tl (vis++[id])<n:=by
   have:=Bo t (by rw[f];exact k);rw[f] at this;omega
  simp only[hc,Option.getD_some] at d ⊢;refine kP<|tN<|rZ<|lK (qL isAgg96 I<|cK P I)<|lM I<|lO (SO.mapUpdate (i+1) mty96 I I I w) ?_;rintro _ _ _ ⟨rfl,rfl⟩;rw[sz k];refine tZ<|rZ<|lU (fA ao I aH I)<|lK (qL bi I<|cO 0 I I)<|lU (eN a7 I)<|lM I<|tZ<|bK<|SC.drop (s':=s.set i<|mp m<|iw<|vis++[id]) (.cons _<|.refl _)<|oP (ι:=Nat×List Int) (fun q=>[(3,pp bf 0),(28,.slice F c.sides.length G),(29,vi c.sides.length),(30,vi q.1)]) (fun _=>g)
   (fun q=>s.set i<|mp m<|iw q.2) (fun q=>q.1≤c.sides.length∧q.2=(c.sides.take q.1).foldl (fun v x=>eo tl n x.cell v) (vis++[id])∧qh tl q.2<n) (fun q=>c.sides.length - q.1)
   (0,vis++[id]) sB rfl rfl ⟨zf8 _,by simp,l⟩ ?_
  rintro ⟨j,z⟩ ⟨Z,e,o⟩;dsimp only at Z e o ⊢;refine rZ<|yL I<|tZ<|sQ<|iP I (fun K=>?_) (fun K=>?_)
  ·have L:j<c.sides.length:=oM;have M:=d.based oM;have u:c.sides[((j:Nat):Int).toNat]?=some c.sides[j]:=List.getElem?_eq_getElem L;generalize c.sides[j]=y at *;refine kP (tN (sQ (bK (rZ (lU (iA a7 aR I I M oM sL) (lK (SQ.elemA iU aR I d.rd u) (bW (aL zm1) fun b8=>?_)))))));refine oZ (sK 0 aR I I I I I sB)<|tZ (rG (lK (qL isAgg148 I (cK V I)) (lU (fA de I zT3 I) (lK (qL iT3 I (cO 0 I I)) (lW (SO.callV I I (cU.mk (cap:=[pp p 0,pp bm 0,pp bf 0]) call105 (ih y.cell z _ (i+1) o (Bj w _)))) ?_)))));rintro _ _ _ ⟨rfl,rfl⟩;refine SL.nil (bN (tN (rG (yD I (lM I (SL.nil (dR (s':=s.set i (mp m (iw (eo tl n y.cell z)))) (by rw[List.set_cons_zero,List.set_cons_succ,List.set_set];exact .cons _ (.refl _)) ?_)))))));exact ST.again (j+1,eo tl n y.cell z) sB I I ⟨lN,by
    rw[f9 (j:=j) u,zj2,← e];rfl,Nat.lt_of_le_of_lt (oN fun x hx=>qS tl n _ _ x hx) o⟩ lN
  ·refine xI<|tX<|tX<|bX ?_;have N:c.sides.take j=c.sides:=tL oM;have hr:eo tl (n+1) id vis=z:=by
    rw[N] at e;rw[e,px,hc];simp only[k,Bool.false_eq_true,if_false]
   exact ST.ret0 (.inr I) results105 ⟨I,by rw[hr]⟩
theorem Bp (tl:List Cl)(v:List Int):qh tl v≤tl.length:=zc6 _ _
theorem vM (E:World)(g:PH)(s:Own)(v F:Value)(tl:List Cl)(ids:List Int)(G:Tab g v tl)(K:aM tl)(o:dp g F ids)(hl:ids.length<1099511627776) :
  Ctr Tryz.prog E 49 #[v,F] g s (fun r g' s'=>∃ m,r = .map (some m)∧Le g g'∧s'=mp m (iw<|qp tl ids)::s):=by
 obtain ⟨p,c,rfl⟩:=za4 o;have t:v.cells = #[v]:=by obtain ⟨b,_,_,_,rfl,_⟩:=G;rfl
 refine zb2 (args:=[v,.slice p ids.length c]) func49 I ntmps49 (bE I)<|rZ (bW (bO I) fun H=>?_);refine zb5 fun g1 f i=>?_;rw[t] at i;refine aT I<|rZ<|lW (SO.mkMap) ?_;rintro _ _ _ ⟨m,rfl,rfl,rfl⟩;refine bW (aL zeroValue96) fun u=>oZ (sK 0 sizeOf96 I I I I I ⟨I,trivial⟩) (zb5 fun g2 d k=>?_);refine tZ (rZ<|bW (aL zeroValue148) fun w=>?_);refine tZ (rZ<|lU (SU.mkFunc I)<|oZ (sK 0 sizeOf148 I I I I I ⟨I,trivial⟩)<|zb5 fun g3 a l=>?_);refine tZ<|sQ<|sW I<|lU (eN az I)<|lM I<|tZ<|bK ?_;have x:=G.mono<|f.trans<|d.trans a;have z:=o.mono<|f.trans<|d.trans a;refine oP (ι:=Nat×List Int) (fun q=>[(5,pp u 0),(6,pp w 0),(11,.slice p ids.length c),(12,vi ids.length),(13,vi q.1)]) (fun _=>g3)
  (fun q=>mp m (iw q.2)::s) (fun q=>q.1≤ids.length∧q.2=(ids.take q.1).foldl (fun v id=>eo tl (tl.length+1) id v) []) (fun q=>ids.length - q.1)
  (0,[]) sB rfl rfl ⟨zf8 _,by simp⟩ ?_
 rintro ⟨j,J⟩ ⟨L,e⟩;dsimp only at L e ⊢;refine rZ<|yL I<|tZ<|sQ<|iP I (fun A=>?_) (fun A=>?_)
 ·have B:j<ids.length:=oM;have C:=za6 o oM;have n:ids[((j:Nat):Int).toNat]?=some ids[j]:=List.getElem?_eq_getElem B;generalize ids[j]=y at *;refine kP<|tN<|sQ<|bK<|rZ<|lU (iA az zT3 I I C oM sL)<|lK (eB iT3 I (za7 z) n I)<|aT I<|rG<|lK (qL isAgg148 I<|cK l I)<|lM I<|lW (SO.callV I I<|cU.mk (cap:=[pp H 0,pp u 0,pp w 0]) call105<|zJ E g3 H u w m v tl x K ((d.trans a) _ _ i) (a _ _ k) l (tl.length+1) y J _ 0 (zl1<|Bp _ _) I) ?_;rintro _ _ _ ⟨rfl,rfl⟩;exact SL.nil<|bN<|tN<|rG<|yD I<|lM I<|SL.nil<|ST.again (j+1,eo tl (tl.length+1) y J) sB I I ⟨lN,by rw[f9 (j:=j) n,zj2,← e];rfl⟩ lN
 ·refine xI<|tX<|tX<|bX<|tN<|rZ<|lK (qL isAgg96 I<|cK (a _ _ k) I)<|aT I<|rE ?_;have D:ids.take j=ids:=tL oM;rw[D] at e;exact za8 (.inl I) results49 I ⟨m,I,f.trans<|d.trans a,by rw[e];rfl⟩
open Go Go.Sy Go.Pl Go.Proofs Go.Shelf Go.Sort
def xa:Ren :=
 {
  f:=fun x =>
   match x with
   | 189=>59
   | 125=>97
   | 257=>111
   | 128=>149
   | 129=>150
   | 294=>163
   | 295=>164
   | 296=>165
   | 297=>166
   | 298=>167
   | 299=>168
   | 216=>169
   | 300=>170
   | 301=>171
   | 328=>204
   | 329=>191
   | 330=>192
   | 331=>205
   | 332=>206
   | 215=>100
   | 343=>231
   | n=>n,
  t:=fun x =>
   match x with
   | 28=>32
   | 3=>3
   | 46=>138
   | 0=>0
   | 51=>181
   | 53=>183
   | 4=>4
   | 183=>175
   | 182=>174
   | 131=>108
   | 5=>5
   | 9=>9
   | 218=>217
   | 222=>221
   | 228=>234
   | 229=>235
   | n=>n,
  g:=fun x =>
   have n:=x;
   n }
theorem Tryz.lays189:Lays.n189 Tryz.prog xa :=
  {
  mixed:=Eq.refl true,f125:=zb8 func97<|ze4 some kR,
  f128:=zb8 func149<|ze4 some kR,
  f129:=zb8 func150<|ze4 some kR,
  f189:=zb8 func59<|ze4 some kR,
  f215:=zb8 func100<|ze4 some kR,
  f216:=zb8 func169<|ze4 some kR,
  f257:=zb8 func111<|ze4 some kR,
  f294:=zb8 func163<|ze4 some kR,
  f295:=zb8 func164<|ze4 some kR,
  f296:=zb8 func165<|ze4 some kR,
  f297:=zb8 func166<|ze4 some kR,
  f298:=zb8 func167<|ze4 some kR,
  f299:=zb8 func168<|ze4 some kR,
  f300:=zb8 func170<|ze4 some kR,
  f301:=zb8 func171<|ze4 some kR,
  f328:=zb8 func204<|ze4 some kR,
  f329:=zb8 func191<|ze4 some kR,
  f330:=zb8 func192<|ze4 some kR,
  f331:=zb8 func205<|ze4 some kR,
  f332:=zb8 func206<|ze4 some kR,
  f343:=zb8 func231<|ze4 some kR,t0:=uT0,
  a0:=isAgg0,z0:=sizeOf0,v0:=zm4,t3:=uT3,a3:=iT3,
  z3:=zT3,v3:=zl4,t4:=uT4,a4:=isAgg4,z4:=zT4,
  v4:=zl9,t5:=uT5,a5:=isAgg5,z5:=sizeOf5,v5:=zeroValue5,
  t9:=uT9,a9:=isAgg9,z9:=sizeOf9,v9:=zeroValue9,t28:=az,
  a28:=ic,z28:=fW,v28:=zeroValue32,t46:=jL,a46:=isAgg138,
  z46:=sizeOf138,v46:=zeroValue138,t51:=underlying181,a51:=isAgg181,
  z51:=sizeOf181,v51:=zeroValue181,t53:=ng,a53:=isAgg183,
  z53:=sizeOf183,v53:=zeroValue183,t131:=underlying108,a131:=isAgg108,
  z131:=sizeOf108,v131:=zeroValue108,t182:=underlying174,a182:=isAgg174,
  z182:=sizeOf174,v182:=zeroValue174,t183:=underlying175,a183:=isAgg175,
  z183:=sizeOf175,v183:=zeroValue175,t218:=underlying217,a218:=isAgg217,
  z218:=sizeOf217,v218:=zeroValue217,t222:=underlying221,a222:=isAgg221,
  z222:=sizeOf221,v222:=zeroValue221,t228:=underlying234,a228:=isAgg234,
  z228:=sizeOf234,v228:=zeroValue234,t229:=underlying235,a229:=isAgg235,
  z229:=sizeOf235,v229:=zeroValue235 }
def eW (l:List Int):List Int:=l.mergeSort fun x y=>decide (x≤y)
theorem ge (l:List Int):(eW l).length=l.length:=List.length_mergeSort ..
theorem qQ (l:List Int):(eW l).Perm l:=List.mergeSort_perm ..
theorem oJ (l:List Int):l.flatMap encInt.enc=l.map (Value.int .i64):=by
 induction l with
 | nil=>rfl
 | cons a t ih=>simp only[zh7,zg6,ih];rfl
theorem tw (E:World)(g:PH)(s:Own)(v:Value)(l:List Int)(i:Nat)(f:s[i]?=some (rowA encInt 3 v l))(hl:l.length<17592186044416) :
  Ctr Tryz.prog E 59 #[v] g s (fun _ g' s'=>g=g'∧s'=s.set i (rowA encInt 3 v<|eW l)):=by
 intro w j;obtain ⟨D,u⟩:=gX j f
 rcases u with ⟨p,rfl,hn⟩ | ⟨b,cap,cur,rfl,hb,x,m,c,y⟩
 ·have o:l=[]:=zf6 hn;subst o;refine (Any.slices_Sort_int_none lays189 p 0 w).mono ?_;rintro e w' ⟨rfl,rfl⟩;refine⟨_,g,s,I,j,I,?_⟩;have:eW []=[]:=by simp[eW]
  rw[this];exact (nG f).symm
 ·have q:cur.toList.take l.length=l.map (Value.int .i64):=by rw[← oJ];simpa using y
  refine (Any.slices_Sort_int lays189 b 0 (cap+1) l w (holds_of_blockI hb q) (Array.getElem?_eq_some_iff.1 hb).1 oM).mono ?_;rintro e w' ⟨rfl,n,os,rfl⟩;have z:=j.fresh _ (zg4 f) b rfl;refine⟨_,g,_,I,?_,I,I⟩;obtain ⟨F,G,H,t,A⟩:=grownBy_sortedI (w:=w) (g:=b) (n:=n) (os:=os) (eW l).toArray;refine j.turn f I ⟨I,(by exact Nat.le_add_right _ _)⟩ I t (fun k B r=>A k B r) ?_ ?_
  ·have C:=heap_sortedI (n:=n) (os:=os) (eW l).toArray hb;have a:=ge l;have:=eu (w:=grow (putRow (Value.int .i64) (Sort.ahead w n) b 0 (eW l).toArray) os) (T:=3) (k:=1) (n:=(eW l).length) (b:=b) (cap:=cap) (xs:=(eW l).flatMap encInt.enc) (by rw[encInt.length]) C oM m (by simp[putCells];simpa using c) (by
    rw[oJ,Nat.mul_one];exact take_putCellsI cur (eW l) (by rw[a,c];omega))
   rw[a] at this;rw[show rowA encInt 3 (.slice (some ⟨b,0,none⟩) l.length<|cap+1) (eW l)=row 3 1 (.slice (some ⟨b,0,none⟩) l.length<|cap+1) l.length ((eW l).flatMap encInt.enc) by simp only[rowA,a]];exact this
  ·intro b' d;simp only[rowA,row,nu,zg9] at d;subst d;exact⟨Nat.lt_of_lt_of_le (Array.getElem?_eq_some_iff.1 hb).1 t,.inl I⟩
def fM (c:Cl):Bool:=decide (c.dim<0)||decide (c.dim>8)
def aO (c:Cl):Bool:=(decide (c.dim=0)&&decide ((c.sides.length:Int)>0))||(decide (c.dim=1)&&decide ((c.sides.length:Int)≠2))||(decide (c.dim>1)&&(decide ((c.sides.length:Int)<2)||decide ((c.sides.length:Int)>64)))
def cw (tl:List Cl)(c:Cl)(i:Nat)(x:aj):Bool:=!(ag tl x.cell).isSome||decide (((ag tl x.cell).getD aA).dim≠c.dim - 1)||(decide (i>0)&&decide ((c.sides[i - 1]?.map aj.cell)=some x.cell))
section
variable {tl:List Cl}{c p:Cl}{i:Nat}{x:aj}
theorem oT (h:¬ (ag tl x.cell).isSome=true):cw tl c i x=true:=by
 have:(ag tl x.cell).isSome=false:=by simpa using h
 simp[cw,this]
theorem uV (h:(ag tl x.cell).isSome=true)(a:((ag tl x.cell).getD aA).dim≠c.dim - 1):cw tl c i x=true:=by
 simp only[cw,h,a,Bool.not_true,Bool.false_or,ne_eq,not_false_eq_true,decide_true,Bool.true_or]
theorem uU (h:(ag tl x.cell).isSome=true)(a:¬ ((ag tl x.cell).getD aA).dim≠c.dim - 1)(d:¬ (i:Int)>0):cw tl c i x=false:=by
 have b:¬ i>0:=oM;simp only[cw,h,a,b,Bool.not_true,Bool.false_or,decide_false,Bool.false_and]
theorem uT {q:aj}(h:(ag tl x.cell).isSome=true)(a:¬ ((ag tl x.cell).getD aA).dim≠c.dim - 1)(d:(i:Int)>0)(hq:c.sides[i - 1]?=some q):cw tl c i x=decide (q.cell=x.cell):=by
 have b:i>0:=oM;simp only[cw,h,a,b,hq,Bool.not_true,Bool.false_or,decide_false,decide_true,Bool.true_and,Option.map_some,zg9]
end
def jh (tl:List Cl)(c:Cl)(i:Nat):Bool:=match c.sides[i]? with
 | some x=>cw tl c i x
 | none=>false
def bZ (x:aj):Bool:=decide (x.sign≠1)&&decide (x.sign ≠ -1)
theorem ug {x:aj}(h:x.sign≠1):bZ x=decide (x.sign ≠ -1):=by simp[bZ,h]
theorem uf {x:aj}(h:¬ x.sign≠1):bZ x=false:=by simp[bZ,h]
def na (l:List aj):Int:=(l.map aj.sign).sum
def cN (tl:List Cl)(c:Cl):Int :=
 if fM c then 21 else if aO c then 22 else if (List.range c.sides.length).any (jh tl c) then 22 else if c.sides.any bZ then 23 else if (decide (c.dim=1)&&decide (na c.sides≠0)) then 23 else 0
theorem zw {l:List aj}(h:l.any bZ=false):na l≤l.length ∧ -(l.length:Int)≤na l:=by
 induction l with
 | nil=>simp[na]
 | cons x t ih =>
  simp only[List.any_cons,Bool.or_eq_false_iff] at h;have:=ih h.2;have b:x.sign=1∨x.sign = -1:=by
   have a:=h.1;simp only[bZ,Bool.and_eq_false_iff,decide_eq_false_iff_not,ne_eq,Decidable.not_not] at a;exact a
  simp only[na,zg6,List.sum_cons,zf1] at this ⊢;omega
theorem Cr (E:World)(g:PH)(s:Own)(v:Value)(tl:List Cl)(c:Cl)(r:Rc)(hv:Tab g v tl)(hc:ak g c r)(hl:c.sides.length<1099511627776) :
  Ctr Tryz.prog E 56 #[v,rcv r] g s (fun r g' s'=>r=vi (cN tl c)∧g=g'∧s=s'):=by
 obtain ⟨b,mt,iv,rs,rfl,hb,hm,hI,R⟩:=hv;obtain ⟨S,rd,H,rn,a⟩:=r;have l:SlA encSide g (.slice H rn a) c.sides:=hc.2.2;have Z:rn=c.sides.length:=zc2 l;have a0:rd=c.dim:=hc.2.1;subst Z a0;have T:=fun h=>l.based h;refine zb2 (args:=[pp b 0,rcv ⟨S,c.dim,H,c.sides.length,a⟩]) func56 I ntmps56 (bE I)<|rZ (bW (bO I) fun Q=>?_);refine aT I<|rZ<|lU (fA ao I aH I)<|lK (qL bi I<|cO 0 I I)<|lU (eN a7 I)<|aT I<|sQ<|bK<|SC.cutB 16 (fM c) ?_ ?_
 ·refine rG<|lU (fA ao I zT3 I)<|lK (qL iT3 I<|cO 0 I I)<|yL I<|lM I<|sP ?_ ?_
  ·intro a1;exact yA I<|yA I<|yA I<|yP I<|lA I<|SL.nil<|zb1 (by simp_all[aN,fM] <;> omega) mI
  ·intro a1;exact lY I I I (fA ao I zT3 I)<|SL.gq (gT I I I dC) (qL iT3 I<|cO 0 I I) dC<|lY I I I (gR I I)<|yF I<|lA I<|SL.nil<|zb1 (by simp_all[aN,fM] <;> omega) mI
 refine iQ I (fun e=>?_) (fun e=>?_)
 ·exact rZ<|aT I<|rE<|bR<|tR<|dR (s':=s) uR<|za8 (.inl I) results56 I ⟨by unfold cN;rw[zg3 e],I,I⟩
 ·have b4:0≤c.dim∧c.dim≤8:=by simp[fM] at e;omega
  refine SC.cutB 25 (aO c) ?_ ?_
  ·refine rG<|lU (fA ao I zT3 I)<|lK (qL iT3 I<|cO 0 I I)<|yE I<|lM I<|sP ?_ ?_
   ·intro a2;refine yC I<|lY I I I (gR I I)<|yP I<|lM I<|sP ?_ ?_
    ·intro a3;exact yA I<|yA I<|yA I<|yA I<|yB I<|yB I<|yA I<|yP I<|lM I<|yA I<|yA I<|yA I<|yA I<|yB I<|yB I<|yB I<|yB I<|yB I<|yB I<|yA I<|yP I<|lA I<|SL.nil<|zb1 (by simp_all[aN,aO] <;> omega) mI
    ·intro a3;refine lY I I I (fA ao I zT3 I)<|SL.gq (gT I I I dC) (qL iT3 I<|cO 0 I I) dC<|lY I I I (eQ I I)<|yC I<|sP ?_ ?_
     ·intro K;refine yC I<|lY I I I (nQ I I)<|lY I I I (wT I I)<|yF I<|lM I<|sP ?_ ?_
      ·intro L;exact yA I<|yA I<|yA I<|yA I<|yB I<|yB I<|yB I<|yB I<|yB I<|yB I<|yA I<|yP I<|lA I<|SL.nil<|zb1 (by simp_all[aN,aO] <;> omega) mI
      ·intro L;refine lY I I I (fA ao I zT3 I)<|SL.gq (gT I I I dC) (qL iT3 I<|cO 0 I I) dC<|lY I I I (gR I I)<|yC I<|sP ?_ ?_
       ·intro f;refine yC I<|lY I I I (lS I I)<|yC I<|sP ?_ ?_
        ·intro i;exact yA I<|yA I<|lY I I I (wT I I)<|lY I I I (wT I I)<|yF I<|lA I<|SL.nil<|zb1 (by simp_all[aN,aO] <;> omega) mI
        ·intro i;exact yC I<|lY I I I (gR I I)<|lY I I I (wF I I)<|lY I I I (wT I I)<|yF I<|lA I<|SL.nil<|zb1 (by simp_all[aN,aO] <;> omega) mI
       ·intro f;exact yA I<|yA I<|yA I<|yB I<|yB I<|yA I<|lY I I I (wF I I)<|yF I<|lA I<|SL.nil<|zb1 (by simp_all[aN,aO] <;> omega) mI
     ·intro K;refine yA I<|yA I<|lY I I I (wF I I)<|yF I<|lM I<|lY I I I (fA ao I zT3 I)<|SL.gq (gT I I I dC) (qL iT3 I<|cO 0 I I) dC<|lY I I I (gR I I)<|yC I<|sP ?_ ?_
      ·intro f;refine yC I<|lY I I I (lS I I)<|yC I<|sP ?_ ?_
       ·intro i;exact yA I<|yA I<|lY I I I (wT I I)<|lY I I I (wT I I)<|yF I<|lA I<|SL.nil<|zb1 (by simp_all[aN,aO] <;> omega) mI
       ·intro i;exact yC I<|lY I I I (gR I I)<|lY I I I (wF I I)<|lY I I I (wT I I)<|yF I<|lA I<|SL.nil<|zb1 (by simp_all[aN,aO] <;> omega) mI
      ·intro f;exact yA I<|yA I<|yA I<|yB I<|yB I<|yA I<|lY I I I (wF I I)<|yF I<|lA I<|SL.nil<|zb1 (by simp_all[aN,aO] <;> omega) mI
   ·intro a2;refine yA I<|yA I<|yF I<|lM I<|lY I I I (fA ao I zT3 I)<|SL.gq (gT I I I dC) (qL iT3 I<|cO 0 I I) dC<|lY I I I (eQ I I)<|yC I<|sP ?_ ?_
    ·intro K;refine yC I<|lY I I I (nQ I I)<|lY I I I (wT I I)<|yF I<|lM I<|sP ?_ ?_
     ·intro L;exact yA I<|yA I<|yA I<|yA I<|yB I<|yB I<|yB I<|yB I<|yB I<|yB I<|yA I<|yP I<|lA I<|SL.nil<|zb1 (by simp_all[aN,aO] <;> omega) mI
     ·intro L;refine lY I I I (fA ao I zT3 I)<|SL.gq (gT I I I dC) (qL iT3 I<|cO 0 I I) dC<|lY I I I (gR I I)<|yC I<|sP ?_ ?_
      ·intro f;refine yC I<|lY I I I (lS I I)<|yC I<|sP ?_ ?_
       ·intro i;exact yA I<|yA I<|lY I I I (wT I I)<|lY I I I (wT I I)<|yF I<|lA I<|SL.nil<|zb1 (by simp_all[aN,aO] <;> omega) mI
       ·intro i;exact yC I<|lY I I I (gR I I)<|lY I I I (wF I I)<|lY I I I (wT I I)<|yF I<|lA I<|SL.nil<|zb1 (by simp_all[aN,aO] <;> omega) mI
      ·intro f;exact yA I<|yA I<|yA I<|yB I<|yB I<|yA I<|lY I I I (wF I I)<|yF I<|lA I<|SL.nil<|zb1 (by simp_all[aN,aO] <;> omega) mI
    ·intro K;refine yA I<|yA I<|lY I I I (wF I I)<|yF I<|lM I<|lY I I I (fA ao I zT3 I)<|SL.gq (gT I I I dC) (qL iT3 I<|cO 0 I I) dC<|lY I I I (gR I I)<|yC I<|sP ?_ ?_
     ·intro f;refine yC I<|lY I I I (lS I I)<|yC I<|sP ?_ ?_
      ·intro i;exact yA I<|yA I<|lY I I I (wT I I)<|lY I I I (wT I I)<|yF I<|lA I<|SL.nil<|zb1 (by simp_all[aN,aO] <;> omega) mI
      ·intro i;exact yC I<|lY I I I (gR I I)<|lY I I I (wF I I)<|lY I I I (wT I I)<|yF I<|lA I<|SL.nil<|zb1 (by simp_all[aN,aO] <;> omega) mI
     ·intro f;exact yA I<|yA I<|yA I<|yB I<|yB I<|yA I<|lY I I I (wF I I)<|yF I<|lA I<|SL.nil<|zb1 (by simp_all[aN,aO] <;> omega) mI
  refine iQ I (fun d=>?_) (fun d=>?_)
  ·exact rZ<|aT I<|rE<|bR<|tR<|dR (s':=s) uR<|za8 (.inl I) results56 I ⟨by unfold cN;rw[zg2 (by simp[e]),zg3 d],I,I⟩
  ·have b2:c.sides.length≤64:=by
    simp[aO] at d
    rcases Int.lt_trichotomy c.dim 1 with h | h | h
    ·have:c.dim=0:=oM;have:=d.1.1 this;simp[this]
    ·have:=d.1.2 h;omega
    ·have:=d.2 h;omega
   refine kP<|bN<|tN<|sQ<|rZ<|lU (fA ao I aH I)<|lK (qL bi I<|cO 0 I I)<|lU (eN a7 I)<|lM I<|tZ<|bK<|oP (ι:=Nat) (fun k=>[(0,pp b 0),(3,pp Q 0),(5,vi c.sides.length),(56,.slice H c.sides.length a),(57,vi c.sides.length),(58,vi k)]) (fun _=>g)
    (fun _=>pt Q (bY #[vi S,vi c.dim,.slice H c.sides.length a] 37)::s) (fun k=>k≤c.sides.length∧(List.range k).any (jh tl c)=false) (fun k=>c.sides.length - k) 0
    sB rfl rfl ⟨zf8 _,by simp⟩ ?_
   rintro k ⟨hk,C⟩;try dsimp only
   refine rZ<|yL I<|tZ<|sQ<|iP I (fun a4=>?_) (fun a4=>?_)
   ·have j:k<c.sides.length:=oM;have M:=T oM;have N:c.sides[((k:Nat):Int).toNat]?=some c.sides[k]:=List.getElem?_eq_getElem j;have U:c.sides[k]?=some c.sides[k]:=List.getElem?_eq_getElem j;generalize c.sides[k]=y at *;obtain ⟨x,a5,a9,b0⟩:=dE R gW y.cell;obtain ⟨xi,xd,xp,xn,xc⟩:=x;have b1:xd=((ag tl y.cell).getD aA).dim:=b0.2.1;subst b1;have O:(k:Int)>0→c.sides[((k:Int) - 1).toNat]?=some (c.sides.getD (k - 1) y):=fun h=>by
     have h1:((k:Int) - 1).toNat=k - 1:=oM;have V:k - 1<c.sides.length:=oM;rw[h1,List.getElem?_eq_getElem V,zh3,List.getElem?_eq_getElem V];rfl
    have D:(k:Int)>0→c.sides[k - 1]?=some (c.sides.getD (k - 1) y):=fun h=>by
     have V:k - 1<c.sides.length:=oM;rw[List.getElem?_eq_getElem V,zh3,List.getElem?_eq_getElem V];rfl
    refine kP (tN<|sQ<|bK<|sW I<|lU (iA a7 aR I I M oM sL)<|lK (SQ.elemA iU aR I l.rd N)<|bW (aL zm1) fun b7=>?_);refine lA I<|oZ (sK 0 aR I I I I I sB)<|tZ<|sQ<|dW [11,12] [(0,2),(1,2),(2,2),(3,1),(4,2),(5,1),(6,1),(7,2),(8,2),(9,2),(10,0),(11,0),(12,0)] ze5 kR<|yM I<|pU I (nC I)<|pU I (fA qJ I qd I)<|pK I (qL qf I<|cK hb I)<|pU I (fA de I zT3 I)<|pK I (qL iT3 I<|cO 0 I I)<|pK I (SQ.eq (v':=.tuple #[rcv ⟨xi,((ag tl y.cell).getD aA).dim,xp,xn,xc⟩,vb<|decide ((ag tl y.cell).isSome=true)]) (SQ.lookupOk mty64 I I<|bh.known hm) (by rw[a5,a9,Bool.decide_eq_true];rfl)) ?_;refine yM I<|pU I (xT I I)<|pU I (xT I I)<|SP.o I (aL zm2) dC (.inr iR) ?_;rintro _ _ _ ⟨b8,rfl,rfl,rfl⟩;refine SP.on I (sK 0 ar I I I I I sB) (.inl dC) ?_;rintro _ _ _ ⟨rfl,rfl⟩;refine oU I (aS I) dC (.inl dC)<|pN<|tN<|SC.cutB 98 (cw tl c k y) ?_ ?_
    ·refine dW [] [(0,2),(1,2),(2,2),(3,2),(4,1),(5,2),(6,1),(7,2),(8,2),(9,2),(10,2),(11,2),(12,2),(13,2),(14,2),(15,1),(16,2),(17,2),(18,2),(19,2),(20,1),(21,2),(22,1),(23,2),(24,2),(25,2)] ze5 kR<|yM I<|pU I (SU.notP I)<|yM I<|SP.split ?_ ?_
     ·intro p;exact yG I<|yI I<|yG I<|yI I<|yG I<|yG I<|pU I (wT I I)<|yM I<|yG I<|yG I<|yG I<|yH I<|SP.off1 I (zb4 I I I dC) dC<|yH I<|yH I<|yH I<|yH I<|SP.off1 I (zb4 I I I dC) dC<|yH I<|SP.off1 I (zb4 I I I dC) dC<|yH I<|yG I<|pU I (wT I I)<|pN<|zb1 (by exact ze4 (fun b=>some<|Value.bool b) (oT p).symm) mI
     ·intro p;refine zb3 I (gT I I I dC) (fA ao I zT3 I) dC<|SP.gq I (gT I I I dC) (qL iT3 I<|cO 0 I I) dC<|zb3 I (gT I I I dC) (fA ao I zT3 I) dC<|SP.gq I (gT I I I dC) (qL iT3 I<|cO 2 I I) dC<|zb3 I (gT I I I dC) (sU I I oM) dC<|zb3 I (gT I I I dC) (nQ I I) dC<|pU I (wF I I)<|yM I<|SP.split ?_ ?_
      ·intro F;exact yG I<|yG I<|yG I<|yH I<|SP.off1 I (zb4 I I I dC) dC<|yH I<|yH I<|yH I<|yH I<|SP.off1 I (zb4 I I I dC) dC<|yH I<|SP.off1 I (zb4 I I I dC) dC<|yH I<|yG I<|pU I (wT I I)<|pN<|zb1 (by exact ze4 (fun b=>some<|Value.bool b) (uV (zh2 p) F).symm) mI
      ·intro F;refine yJ I<|zb3 I (gT I I I dC) (gR I I) dC<|yJ I<|SP.split ?_ ?_
       ·intro q;refine zb3 I (gT I I I dC) (fA ao I aH I) dC<|SP.gq I (gT I I I dC) (qL bi I<|cO 2 I I) dC<|yJ I<|zb3 I (gT I I I dC) (sU I I oM) dC<|zb3 I (gT I I I dC) (iA a7 aR I I io oM<|by (simp[slen];omega)) dC ?_;refine zb3 I (gT I I I dC) (fC de I zT3 I<|by assumption) dC ?_;refine SP.gq I (gT I I I dC) (aZ (o:=0) iT3 I l.rd (O q) I) dC<|zb3 I (gT I I I dC) (fA de I zT3 I) dC<|SP.gq I (gT I I I dC) (qL iT3 I<|cO 1 I I) dC<|zb3 I (gT I I I dC) (eQ I I) dC<|zb3 I (gT I I I dC) (wT I I) dC<|pU I (wF I I)<|pN ?_;exact zb1 (by exact ze4 (fun b=>some<|Value.bool b) (uT (zh2 p) F q<|D q).symm) mI
       ·intro q;exact yG I<|yI I<|yG I<|yG I<|yG I<|yG I<|yI I<|yG I<|yI I<|yG I<|zb3 I (gT I I I dC) (wF I I) dC<|pU I (wF I I)<|pN<|zb1 (by exact ze4 (fun b=>some<|Value.bool b) (uU (zh2 p) F q).symm) mI
    have J:jh tl c k=cw tl c k y:=by unfold jh;rw[U]
    refine iQ I (fun t=>?_) (fun t=>?_)
    ·refine rZ<|aT I<|rE<|bR<|tR<|tR<|bR<|tR<|dR (s':=s) uR ?_;have u:(List.range c.sides.length).any (jh tl c)=true:=zk1.2 ⟨k,List.mem_range.2 j,by rw[J];exact t⟩;exact za8 (.inl I) results56 I ⟨by unfold cN;rw[zg2 (by simp[e]),zg2 (by simp[d]),zg3 u],I,I⟩
    ·exact kP<|bN<|tN<|rG<|yD I<|lM I<|SL.nil<|dR (s':=pt Q (bY #[vi S,vi c.dim,.slice H c.sides.length a] 37)::s) (.cons _<|.cons _<|.refl _)<|ST.again (k+1) sB I I ⟨oM,by rw[List.range_succ,List.any_append,C];simp[J,t]⟩ oM
   ·refine xI<|tX<|tX<|bX<|tN<|rZ<|aT I<|sQ<|rZ<|lU (fA ao I aH I)<|lK (qL bi I<|cO 0 I I)<|lU (eN a7 I)<|lM I<|tZ<|bK ?_;have G:k=c.sides.length:=oM;subst G;refine oP (ι:=Nat) (fun k=>[(3,pp Q 0),(10,vi<|na<|c.sides.take k),(101,.slice H c.sides.length a),(102,vi c.sides.length),(103,vi k)]) (fun _=>g)
     (fun _=>pt Q (bY #[vi S,vi c.dim,.slice H c.sides.length a] 37)::s) (fun k=>k≤c.sides.length∧(c.sides.take k).any bZ=false) (fun k=>c.sides.length - k) 0
     sB rfl rfl ⟨zf8 _,by simp⟩ ?_
    rintro k ⟨b5,w⟩;try dsimp only
    have b6:=zw w;have b9:(c.sides.take k).length=k:=by simp;omega
    refine rZ<|yL I<|tZ<|sQ<|iP I (fun W=>?_) (fun W=>?_)
    ·have j:k<c.sides.length:=oM;have M:=T oM;have N:c.sides[((k:Nat):Int).toNat]?=some c.sides[k]:=List.getElem?_eq_getElem j;have X:c.sides.take (k+1)=c.sides.take k++[c.sides[k]]:=tS j;have P:c.sides[k]∈c.sides:=gM j;generalize c.sides[k]=y at *;refine kP (tN<|sQ<|bK<|rZ<|lU (iA a7 aR I I M oM sL)<|lK (SQ.elemA iU aR I l.rd N)<|bW (aL zm1) fun c0=>?_);refine oZ (sK 0 aR I I I I I sB)<|tZ<|sQ<|SC.cutB 114 (bZ y) ?_ ?_
     ·refine rG<|lU (fA de I zT3 I)<|lK (qL iT3 I<|cO 0 I I)<|lU (nQ I I)<|lM I<|sP ?_ ?_
      ·intro z;exact lY I I I (fA de I zT3 I)<|SL.gq (gT I I I dC) (qL iT3 I<|cO 0 I I) dC<|lY I I I (nQ I I)<|yP I<|SL.nil<|zb1 (by exact ze4 (fun b=>some<|Value.bool b) (ug z).symm) mI
      ·intro z;exact yA I<|yA I<|yA I<|yF I<|SL.nil<|zb1 (by exact ze4 (fun b=>some<|Value.bool b) (uf z).symm) mI
     refine iQ I (fun A=>?_) (fun A=>?_)
     ·refine rZ<|aT I<|rE<|tR<|bR<|tR<|tR<|bR<|tR<|dR (s':=s) uR ?_;have u:c.sides.any bZ=true:=zk1.2 ⟨y,P,A⟩;exact za8 (.inl I) results56 I ⟨by unfold cN;rw[zg2 (by simp[e]),zg2 (by simp[d]),zg2 (by simp[C]),zg3 u],I,I⟩
     ·have c1:y.sign=1∨y.sign = -1:=by
       simp only[bZ,Bool.and_eq_false_iff,decide_eq_false_iff_not,ne_eq,Decidable.not_not] at A;exact A
      exact kP<|tN<|rG<|lM I<|lU (fA de I zT3 I)<|lK (qL iT3 I<|cO 0 I I)<|lU (aD (m:=na<|c.sides.take k) (n:=y.sign) I I oM)<|lA I<|SL.nil<|bN<|tN<|rG<|yD I<|lM I<|SL.nil<|dR (s':=pt Q (bY #[vi S,vi c.dim,.slice H c.sides.length a] 37)::s) (.cons _<|.refl _)<|ST.again (k+1) ⟨I,Ge I (by rw[X];simp[na]),I,I,I,trivial⟩ I I ⟨oM,by rw[X,List.any_append,w];simp[A]⟩ oM
    ·have G:c.sides.take k=c.sides:=tL oM;rw[G] at w;rw[G];refine xI<|tX<|tX<|bX<|tN<|sQ<|SC.cutB 126 ((decide (c.dim=1)&&decide (na c.sides≠0))) ?_ ?_
     ·refine rG<|lU (fA ao I zT3 I)<|lK (qL iT3 I<|cO 0 I I)<|yE I<|lM I<|sP ?_ ?_
      ·intro Y;exact yC I<|lY I I I (nQ I I)<|yP I<|SL.nil<|zb1 (by simp_all[aN]) mI
      ·intro Y;exact yA I<|yA I<|yF I<|SL.nil<|zb1 (by simp_all[aN]) mI
     refine iQ I (fun B=>?_) (fun B=>?_)
     ·exact rZ<|aT I<|rE<|tR<|dR (s':=s) uR<|za8 (.inl I) results56 I ⟨by unfold cN;rw[zg2 (by simp[e]),zg2 (by simp[d]),zg2 (by simp[C]),zg2 (by simp[w]),zg3 B],I,I⟩
     ·exact kP<|tN<|rZ<|aT I<|rE<|dR (s':=s) uR<|za8 (.inl I) results56 I ⟨by unfold cN;rw[zg2 (by simp[e]),zg2 (by simp[d]),zg2 (by simp[C]),zg2 (by simp[w]),zg2 (by rw[B];simp)],I,I⟩
theorem Tryz.mty128:MTy Tryz.prog 128 3 3 (vi 0):=⟨underlying128,underlying3,zl4⟩
theorem Tryz.mty153:MTy Tryz.prog 153 3 32 (.slice none 0 0):=⟨underlying153,underlying3,zeroValue32⟩
abbrev Ms:=List (Int×Value×List Int)
def fV (ms:Ms):Own:=ms.map fun t=>rowA encInt 3 t.2.1 t.2.2
def jB (ms:Ms):List (Int×Value):=ms.map fun t=>(t.1,t.2.1)
def ig (ms:Ms):List (Int×List Int):=ms.map fun t=>(t.1,t.2.2)
def gI:List (Int×List Int)→Int→Int→List (Int×List Int)
 | [],k,x=>[(k,[x])]
 | (a,l)::r,k,x=>if k=a then (a,l++[x])::r else (a,l)::gI r k x
def fw:List (Int×Int)→Int→Int→List (Int×Int)
 | [],k,x=>[(k,x)]
 | (a,z)::r,k,x=>if k=a then (a,z+x)::r else (a,z)::fw r k x
def eU:List (Int×Int)→Int→Int
 | [],_=>0
 | (a,z)::r,k=>if k=a then z else eU r k
def fX (zl:List (Int×Int)):List (Int×Value):=zl.map fun p=>(p.1,vi p.2)
theorem lz (b:List (Int×Int))(k:Int):(ep (fX b) k).getD (vi 0)=vi (eU b k):=by
 induction b with
 | nil=>rfl
 | cons p r ih =>
  obtain ⟨a,z⟩:=p;simp only[fX,zg6,c8,eU] at ih ⊢;split
  ·rfl
  ·exact ih
theorem s9 (b:List (Int×Int))(k x:Int):gj (fX b) k (vi<|eU b k+x)=fX (fw b k x):=by
 induction b with
 | nil=>simp[fX,gj,fw,eU]
 | cons p r ih =>
  obtain ⟨a,z⟩:=p;simp only[fX,zg6,gj,eU,fw] at ih ⊢;split
  ·rename_i h;subst h;rfl
  ·simp only[zg6,ih]
theorem mY {b:List (Int×Int)}{B:Int}(hB:0≤B)(h:∀ p∈b,-B≤p.2∧p.2≤B)(k:Int) : -B≤eU b k∧eU b k≤B:=by
 induction b with
 | nil=>simp only[eU];omega
 | cons p r ih =>
  obtain ⟨a,z⟩:=p;simp only[eU];split
  ·exact h (a,z) dO
  ·exact ih fun q hq=>h q (by simp[hq])
theorem m8 {b:List (Int×Int)}{B:Int}(hB:0≤B)(h:∀ p∈b,-B≤p.2∧p.2≤B)(k:Int){x:Int}(d : -1≤x∧x≤1):∀ p∈fw b k x,-(B+1)≤p.2∧p.2≤B+1:=by
 induction b with
 | nil =>
  intro p hp;simp only[fw,zh9] at hp;subst hp;dsimp only;omega
 | cons q r ih =>
  obtain ⟨a,z⟩:=q;intro p hp;simp only[fw] at hp;have c:=h (a,z) dO;dsimp only at c;split at hp
  ·rcases zf3.1 hp with rfl | hp
   ·dsimp only;omega
   ·have:=h p (by simp[hp]);omega
  ·rcases zf3.1 hp with rfl | hp
   ·dsimp only;omega
   ·exact ih (fun q hq=>h q<|by simp[hq]) p hp
theorem Gt (ms:Ms)(k:Int):∃ (b:Ms) (j:Nat) (v:Value) (l:List Int),b[j]?=some (k,v,l)∧(ep (jB ms) k).getD (.slice none 0 0)=v∧(∀ v' x,gj (jB ms) k v'=jB (b.set j (k,v',l++[x]))) ∧
  (∀ v' x,ig (b.set j (k,v',l++[x]))=gI (ig ms) k x)∧(∀ B,(∀ t∈ms,t.2.2.length≤B)→∀ t∈b,t.2.2.length≤B)∧∀ E g (hd s:Own) w,At E g (hd++(fV ms++s)) w→At E g (hd++(fV b++s)) w:=by
 induction ms with
 | nil =>
  refine⟨[(k,.slice none 0 0,[])],0,.slice none 0 0,[],I,I,fun v' x=>I,fun v' x=>by simp[ig,gI],fun B _ t c=>by simp at c;subst c;simp,fun E g hd s w h=>?_⟩;have f:=h.nilRow 3 1;refine f.perm ?_;simp only[fV,List.map_nil,List.nil_append,zg6,List.singleton_append];exact List.perm_middle.symm
 | cons p r ih =>
  obtain ⟨a,u,d⟩:=p;by_cases e:k=a
  ·subst e;refine⟨(k,u,d)::r,0,u,d,I,by simp[jB,c8],fun v' x=>by simp[jB,gj],fun v' x=>by simp[ig,gI],fun B h=>h,fun E g hd s w h=>h⟩
  ·obtain ⟨b,j,v,l,f,i,m,n,o,q⟩:=ih;refine⟨(a,u,d)::b,j+1,v,l,by simpa using f,?_,fun v' x=>?_,fun v' x=>?_,fun B h t c=>?_,fun E g hd s w h=>?_⟩
   ·rw[← i];simp[jB,c8,e]
   ·have:=m v' x;simp only[jB,zg6,gj,List.set_cons_succ] at this ⊢;rw[zg2 e,this]
   ·have:=n v' x;simp only[ig,zg6,gI,List.set_cons_succ] at this ⊢;rw[zg2 e,this]
   ·rcases zf3.1 c with rfl | c
    ·exact h _ dO
    ·exact o B (fun t c=>h t<|by simp[c]) t c
   ·have:=q E g (hd++[rowA encInt 3 u d]) s w (by simpa [fV] using h);simpa [fV] using this
theorem SC.to {P:Program}{N:Nat}{E:World}{c:Code}{Q:Exit→Act→World→Prop}{f:Fr}{g g':PH}{s s':Own}(h:∀ w,At E g s w→At E g' s' w)(hc:SC P N E c Q f g' s'):SC P N E c Q f g s:=fun a w b d=>hc a w b (h w d)
theorem ST.to {N:Nat}{E:World}{e:Exit}{Q:Exit→Act→World→Prop}{f:Fr}{g g':PH}{s s':Own}(h:∀ w,At E g s w→At E g' s' w)(hc:ST N E Q e f g' s'):ST N E Q e f g s:=fun a w b c=>hc a w b (h w c)
theorem SL.to {P:Program}{N:Nat}{E:World}{ops:Array Oper}{l:List Oper}{Q:Exit→Act→World→Prop}{f:Fr}{g g':PH}{s s':Own}(h:∀ w,At E g s w→At E g' s' w)(hc:SL P N E ops Q l f g' s'):SL P N E ops Q l f g s:=fun a w b c=>hc a w b (h w c)
theorem j3 {α:Type}(s:List α)(n j:Nat)(x:α):(s.take n).Sublist (s.set (j+n) x):=by
 rw[show s.take n=(s.set (j+n) x).take n by rw[List.take_set_of_le oM]];exact List.take_sublist _ _
theorem SC.drawT {P:Program}{N:Nat}{E:World}{ops:Array Oper}{Q:Exit→Act→World→Prop}{f:Fr}{g:PH}{s:Own}{id:Nat}(n:Nat)(tail:List Nat)(plan:List (Nat×Nat))(hm:P.follows .mixedOrders=true)(b:ws ops tail plan=true)
  (h:SP P N E ops Q g (s.take n) tail plan f g s):SC P N E (.region id ops true) Q f g s:=by
 intro a w d c;unfold ws at b;simp only[zj5,beq_iff_eq] at b;refine wp_region_any hm<|iW _ _ _ _ (S:=At E g<|s.take n) (tail:=tail) ?_;have:=h (Array.replicate ops.size false) a { w with drawn:=w.drawn+1 } b.1.1 (jo _) b.2 d (c.drew _<|Nat.le_succ _) (fun _=>(c.sublist<|List.take_sublist n s).drew _<|Nat.le_succ _);rw[b.1.2] at this;exact this
theorem sH {ms:Ms}{j:Nat}{k:Int}{v:Value}{l:List Int}(h:ms[j]?=some (k,v,l))(s:Own):(fV ms++s)[j]?=some (rowA encInt 3 v l):=by
 have a:=(zf7.1 h).1;rw[zh4 (by simpa [fV] using a)];simp[fV,h]
theorem sG {ms:Ms}{j:Nat}{k:Int}{v v':Value}{l l':List Int}(h:ms[j]?=some (k,v,l))(s:Own):(fV ms++s).set j (rowA encInt 3 v' l')=fV (ms.set j (k,v',l'))++s:=by
 have a:=(zf7.1 h).1;rw[List.set_append_left _ _ (by simpa [fV] using a)];simp[fV,List.map_set]
theorem freezeRows {E:World}{w:World}:∀ (ms:Ms) (g:PH) (s:Own),At E g (fV ms++s) w→∃ g',Le g g'∧At E g' s w∧∀ t∈ms,dp g' t.2.1 t.2.2
 | [],g,s,h=>⟨g,zb9 g,h,by simp⟩
 | (a,v,l)::r,g,s,h=>by
  have e:At E g (row 3 1 v l.length (l.flatMap encInt.enc)::(fV r++s)) w:=h;obtain ⟨g1,c,f,i⟩:=e.freezeRow;obtain ⟨g2,b,j,k⟩:=freezeRows r g1 s f;refine⟨g2,c.trans b,j,fun t d=>?_⟩
  rcases zf3.1 d with rfl | d
  ·exact Sl.mono i b
  ·exact k t d
theorem SC.freezeRows {P:Program}{N:Nat}{E:World}{c:Code}{Q:Exit→Act→World→Prop}{f:Fr}{g:PH}{s:Own}{ms:Ms}(h:∀ g',Le g g'→(∀ t∈ms,dp g' t.2.1 t.2.2)→SC P N E c Q f g' s):SC P N E c Q f g (fV ms++s):=fun a w b d=>by
 obtain ⟨g',e,i,j⟩:=Go.Proofs.YtdepcjnaieflmaaGreatDoor.freezeRows ms g s d;exact h g' e j a w b i
def dfs (adj:Int→Option (List Int)):Nat→Int→List Int→List Int
 | 0,_,vis=>vis
 | n+1,id,vis =>
  match adj id with
  | none=>vis
  | some l=>if vis.contains id then vis else l.foldl (fun v x=>dfs adj n x v) (vis++[id])
theorem jU (a:Int→Option (List Int))(n:Nat)(id:Int)(vis:List Int):dfs a (n+1) id vis=(match a id with
  | none=>vis
  | some l=>if vis.contains id then vis else l.foldl (fun v x=>dfs a n x v) (vis++[id])):=rfl
theorem sb (a:Int→Option (List Int)):∀ (n:Nat) (id:Int) (vis:List Int) (x:Int),x∈vis→x∈dfs a n id vis
 | 0,_,_,_,h=>h
 | n+1,id,vis,x,h=>by
  unfold dfs;split
  ·exact h
  ·split
   ·exact h
   ·have:∀ (l:List Int) (v:List Int),x∈v→x∈l.foldl (fun v y=>dfs a n y v) v:=by
     intro l;induction l with
     | nil=>intro v b;exact b
     | cons y t ih=>intro v b;exact ih _<|sb a n y v x b
    exact this _ _ (by simp[h])
def fj:List (Int×List Int)→Int→List Int
 | [],_=>[]
 | (a,l)::r,k=>if k=a then l else fj r k
def C0 (jl:List (Int×List Int))(k:Int):Bool:=jl.any fun p=>decide (p.1=k)
theorem uy {b:List (Int×List Int)}{k:Int}(h:C0 b k=false):fj b k=[]:=by
 induction b with
 | nil=>rfl
 | cons p r ih =>
  obtain ⟨a,l⟩:=p;simp only[C0,List.any_cons,Bool.or_eq_false_iff,decide_eq_false_iff_not] at h;simp only[fj];rw[zg2 (fun e=>h.1 e.symm)];exact ih h.2
def nW (jl:List (Int×List Int))(vis:List Int):Nat:=(jl.filter fun p=>!vis.contains p.1).length
theorem jJ {tl:List (Int×List Int)}{v v':List Int}(h:∀ x∈v,x∈v'):nW tl v'≤nW tl v:=by
 unfold nW;rw[← List.countP_eq_length_filter,← List.countP_eq_length_filter];apply List.countP_mono_left;intro c _ hp;simp at hp ⊢;exact fun e=>hp<|h _ e
theorem Bn {tl:List (Int×List Int)}{v:List Int}{k:Int}(hc:C0 tl k=true)(hn:v.contains k=false):nW tl (v++[k])<nW tl v:=by
 induction tl with
 | nil=>simp[C0] at hc
 | cons d t ih =>
  have hm:nW t (v++[k])≤nW t v:=jJ (fun x e=>by simp[e]);have e1:∀ u:List Int,nW (d::t) u=(if u.contains d.1 then 0 else 1)+nW t u:=fun u=>by
   unfold nW;rw[zi9];cases u.contains d.1 <;> simp <;> omega
  rw[e1,e1];simp only[C0,List.any_cons,zj6,zj7] at hc
  rcases hc with rfl | a
  ·have:(v++[d.1]).contains d.1=true:=by simp
   rw[this,hn];simp;omega
  ·have:=ih a;cases b:v.contains d.1
   ·cases c:(v++[k]).contains d.1 <;> simp <;> omega
   ·have c:(v++[k]).contains d.1=true:=by simp at b ⊢;exact .inl b
    rw[c];simp;exact this
theorem Ce {g:PH}(b:Ms)(h:∀ t∈b,dp g t.2.1 t.2.2)(k:Int):∃ v,(ep (jB b) k).getD (.slice none 0 0)=v∧dp g v (fj (ig b) k):=by
 induction b with
 | nil=>exact⟨_,rfl,zc1 g _⟩
 | cons p r ih =>
  obtain ⟨a,u,l⟩:=p;by_cases c:k=a
  ·subst c;exact⟨u,by simp[jB,c8],by simpa [ig,fj] using h (k,u,l) dO⟩
  ·obtain ⟨v,d,e⟩:=ih fun t f=>h t (by simp[f]);exact⟨v,by simpa [jB,c8,c] using d,by simpa [ig,fj,c] using e⟩
def jY (jl:List (Int×List Int))(i:Int):Option (List Int):=some (fj jl i)
theorem zo (E:World)(g:PH)(o w bf m R:Nat)(b:Ms)(V:Mp g R (jB b))(D:∀ t∈b,dp g t.2.1 t.2.2)(z:∀ t∈b,t.2.2.length<1099511627776)(S:g o=some (bY #[.map<|some m] 96))(W:g w=some (bY #[.map<|some R] 153))
  (X:g bf=some (.cells #[.func (.func 110) #[] #[pp o 0,pp w 0,pp bf 0]] 148 (0,0))):∀ (n:Nat) (id:Int) (vis:List Int) (s:Own) (i:Nat),nW (ig b) vis<n→s[i]?=some (mp m<|iw vis) →
  Ctr Tryz.prog E 110 #[vi id,pp o 0,pp w 0,pp bf 0] g s (fun _ g' s'=>g=g'∧s'=s.set i (mp m<|iw<|dfs (jY<|ig b) n id vis)):=by
 intro n;induction n with
 | zero=>intro id vis s i h;omega
 | succ n ih =>
 intro id vis s i T C;obtain ⟨v,F,c⟩:=Ce b D id;have G:(fj (ig b) id).length<1099511627776:=by
  have:∀ q:Ms,(∀ t∈q,t.2.2.length<1099511627776)→(fj (ig q) id).length<1099511627776:=by
   intro q hq;induction q with
   | nil=>simp[ig,fj]
   | cons p r ihq =>
    obtain ⟨a,u,l⟩:=p;simp only[ig,zg6,fj];split
    ·exact hq (a,u,l) dO
    ·exact ihq fun t Y=>hq t (by simp[Y])
  exact this b z
 generalize H:fj (ig b) id=L at c G;obtain ⟨p,Z,rfl⟩:=za4 c;refine zb2 (args:=[vi id,pp o 0,pp w 0,pp bf 0]) func110 I ntmps110 (bE I)<|rZ<|lK (qL isAgg96 I<|cK S I)<|lM I<|lK (SQ.eq (v':=vb<|vis.contains id) (SQ.lookup mty96 I I<|bh.own i C)<|(xS vis).get id)<|lU (SU.not I)<|tZ<|iQ I (fun hc=>?_) (fun hc=>?_)
 ·have f:vis.contains id=false:=by simpa using hc
  refine rZ<|lK (qL isAgg96 I<|cK S I)<|lM I<|lO (SO.mapUpdate i mty96 I I I C) ?_;rintro _ _ _ ⟨rfl,rfl⟩;rw[sz f];refine tZ<|rZ<|lK (qL isAgg153 I<|cK W I)<|lM I<|lK (SQ.eq (SQ.lookup mty153 I I<|bh.known V) F)<|lU (eN az I)<|lM I<|tZ<|bK<|oP (ι:=Nat×List Int) (fun q=>[(3,pp bf 0),(15,.slice p L.length Z),(16,vi L.length),(17,vi q.1)]) (fun _=>g)
   (fun q=>s.set i<|mp m<|iw q.2) (fun q=>q.1≤L.length∧q.2=(L.take q.1).foldl (fun v x=>dfs (jY<|ig b) n x v) (vis++[id])∧(0<L.length→nW (ig b) q.2<n)) (fun q=>L.length - q.1)
   (0,vis++[id]) sB rfl rfl ⟨zf8 _,by simp,fun e=>?_⟩ ?_
  ·cases U:C0 (ig b) id with
   | false =>
    rw[uy U] at H;rw[← H] at e;simp at e
   | true =>
    have:=Bn U f;dsimp only;omega
  rintro ⟨j,J⟩ ⟨K,d,k⟩;dsimp only at K d k ⊢;refine rZ<|yL I<|tZ<|sQ<|iP I (fun M=>?_) (fun M=>?_)
  ·have A:j<L.length:=oM;have N:=za6 c oM;have O:L[((j:Nat):Int).toNat]?=some L[j]:=List.getElem?_eq_getElem A;have B:L[j]?=some L[j]:=List.getElem?_eq_getElem A;generalize L[j]=y at *;refine kP (tN (sQ (bK (rZ (lU (iA az zT3 I I N oM sL) (lK (eB iT3 I (za7 c) O I) (aT I (rG (lK (qL isAgg148 I (cK X I)) (lM I (lW (SO.callV I I (cU.mk (cap:=[pp o 0,pp w 0,pp bf 0]) call110 (ih y J _ i (k oM) (Bj C _)))) ?_)))))))))));rintro _ _ _ ⟨rfl,rfl⟩;refine SL.nil (bN (tN (rG (yD I (lM I (SL.nil ?_))))));exact ST.again (j+1,dfs (jY (ig b)) n y J) sB I (by rw[List.set_set]) ⟨lN,by
    rw[f9 B,zj2,← d];rfl,fun h=>Nat.lt_of_le_of_lt (jJ fun x hx=>sb _ n _ _ x hx) (k h)⟩ lN
  ·refine xI<|tX<|tX<|bX ?_;have P:L.take j=L:=tL oM;have hr:dfs (jY<|ig b) (n+1) id vis=J:=by
    rw[P] at d;rw[d,jU];simp only[jY,H,f,Bool.false_eq_true,if_false]
   exact ST.ret0 (.inr I) results110 ⟨I,by rw[hr]⟩
 ·refine kP ?_;have Q:vis.contains id=true:=by simpa using hc
  have hr:dfs (jY<|ig b) (n+1) id vis=vis:=by
   rw[jU];simp only[jY,Q,if_true]
  exact ST.ret0 (.inr I) results110 ⟨I,by rw[hr,nG C]⟩
inductive Rch (adj:Int→Option (List Int)):Int→Int→Prop
 | refl (a:Int) (h:adj a≠none):Rch adj a a
 | step (a b c:Int) (l:List Int) (h:adj a=some l) (hb:b∈l) (r:Rch adj b c):Rch adj a c
theorem Rch.node {c:Int→Option (List Int)}{a b:Int}(h:Rch c a b):c a≠none:=by
 cases h with
 | refl _ h=>exact h
 | step _ _ _ l h _ _=>rw[h];simp
theorem oL (a:Int→Option (List Int)):∀ (n:Nat) (id:Int) (vis:List Int) (x:Int),x∈dfs a n id vis→x∈vis∨Rch a id x
 | 0,_,_,_,h=>.inl h
 | n+1,id,vis,x,h=>by
  rw[jU] at h;cases d:a id with
  | none=>rw[d] at h;exact .inl h
  | some l =>
   rw[d] at h;dsimp only at h;split at h
   ·exact .inl h
   ·have key:∀ (q:List Int) (v:List Int),(∀ y∈q,y∈l)→x∈q.foldl (fun v y=>dfs a n y v) v→x∈v∨Rch a id x:=by
     intro q;induction q with
     | nil=>intro v _ e;exact .inl e
     | cons y t ih =>
      intro v hq e
      rcases ih _ (fun z hz=>hq z<|by simp[hz]) e with c | c
      ·rcases oL a n y v x c with b | b
       ·exact .inl b
       ·exact .inr<|.step id y x l d (hq y<|by simp) b
      ·exact .inr c
    rcases key l _ (fun y f=>f) h with c | c
    ·rcases zf5.1 c with b | b
     ·exact .inl b
     ·simp at b;subst b;exact .inr<|.refl _ (by rw[d];simp)
    ·exact .inr c
theorem jI (c:Int→Option (List Int)):∀ (n:Nat) (id:Int) (vis:List Int),vis.Nodup→(dfs c n id vis).Nodup
 | 0,_,_,h=>h
 | n+1,id,vis,h=>by
  rw[jU];cases c id with
  | none=>exact h
  | some l =>
   dsimp only;split
   ·exact h
   ·rename_i hc;have key:∀ (q:List Int) (v:List Int),v.Nodup→(q.foldl (fun v y=>dfs c n y v) v).Nodup:=by
     intro q;induction q with
     | nil=>intro v d;exact d
     | cons y t ih=>intro v d;exact ih _<|jI c n y v d
    refine key l _ ?_;rw[List.nodup_append];refine⟨h,by simp,fun a f b hb e=>hc ?_⟩;simp at hb;subst hb;simpa [← e] using f
theorem ke (a:Int→Option (List Int))(cnt:List Int→Nat)(hm:∀ v v',(∀ x∈v,x∈v')→cnt v'≤cnt v)(r:∀ v k l,a k=some l→l≠[]→v.contains k=false→cnt (v++[k])<cnt v) :
  ∀ (n:Nat) (id:Int) (vis:List Int),cnt vis<n→(a id≠none→id∈dfs a n id vis)∧∀ x∈dfs a n id vis,x ∉ vis→∀ l,a x=some l→∀ y∈l,a y≠none→y∈dfs a n id vis
 | 0,_,_,h=>absurd h oM
 | n+1,id,vis,hc=>by
  rw[jU];cases s:a id with
  | none=>exact⟨fun h=>absurd rfl h,fun x b hn=>absurd b hn⟩
  | some l =>
   dsimp only;split
   ·rename_i g;exact⟨fun _=>by simpa using g,fun x b hn=>absurd b hn⟩
   ·rename_i g;have i:vis.contains id=false:=by simpa using g
    have key:∀ (q:List Int) (v:List Int),(∀ x∈vis++[id],x∈v)→(∀ x∈v,x ∉ vis++[id]→∀ l,a x=some l→∀ y∈l,a y≠none→y∈v)→(q≠[]→cnt v<n) →
      (∀ x∈v,x∈q.foldl (fun v y=>dfs a n y v) v)∧(∀ y∈q,a y≠none→y∈q.foldl (fun v y=>dfs a n y v) v) ∧
      ∀ x∈q.foldl (fun v y=>dfs a n y v) v,x ∉ vis++[id]→∀ l,a x=some l→∀ y∈l,a y≠none→y∈q.foldl (fun v y=>dfs a n y v) v:=by
     intro q;induction q with
     | nil=>intro v _ o _;exact⟨fun x b=>b,by simp,o⟩
     | cons y t ih =>
      intro v A o B;have j:=B dO;obtain ⟨d1,d2⟩:=ke a cnt hm r n y v j;have c:=sb a n y v;have p:∀ x∈dfs a n y v,x ∉ vis++[id]→∀ l,a x=some l→∀ z∈l,a z≠none→z∈dfs a n y v:=by
       intro x b hn l hl z hz d;by_cases e:x∈v
       ·exact c z<|o x e hn l hl z hz d
       ·exact d2 x b e l hl z hz d
      obtain ⟨u,C,e3⟩:=ih (dfs a n y v) (fun x b=>c x<|A x b) p (fun _=>Nat.lt_of_le_of_lt (hm _ _ c) j);simp only[zj1];refine⟨fun x b=>u x<|c x b,fun z hz d=>?_,e3⟩
      rcases zf3.1 hz with rfl | hz
      ·exact u z<|d1 d
      ·exact C z hz d
    obtain ⟨k1,k2,k3⟩:=key l (vis++[id]) (fun x b=>b) (fun x b hn=>absurd b hn) (fun hl=>by have:=r vis id l s hl i;omega);refine⟨fun _=>k1 id dO,fun x b hn l' f y w m=>?_⟩;by_cases e:x∈vis++[id]
    ·rcases zf5.1 e with h | h
     ·exact absurd h hn
     ·simp at h;subst h;rw[s] at f;injection f with f
      subst f;exact k2 y w m
    ·exact k3 x b e l' f y w m
theorem vX {d:Int→Option (List Int)}{cnt:List Int→Nat}(hm:∀ v v',(∀ x∈v,x∈v')→cnt v'≤cnt v)(e:∀ v k l,d k=some l→l≠[]→v.contains k=false→cnt (v++[k])<cnt v){n:Nat}{id:Int}(hc:cnt []<n)(hn:d id≠none)(x:Int) :
  x∈dfs d n id []↔Rch d id x:=by
 obtain ⟨d1,d2⟩:=ke d cnt hm e n id [] hc;refine⟨fun h=>(oL d n id [] x h).resolve_left dO,fun h=>?_⟩;have key:∀ a b,Rch d a b→a∈dfs d n id []→b∈dfs d n id []:=by
  intro a b hr;induction hr with
  | refl a _=>exact fun h=>h
  | step a b c l hl hb r ih=>exact fun h=>ih<|d2 a h dO l hl b hb r.node
 exact key id x h<|d1 hn
theorem Rch.mono {e d:Int→Option (List Int)}(h:∀ x l,e x=some l→∀ y∈l,∃ l',d x=some l'∧y∈l')(hn:∀ x,e x≠none→d x≠none){a b:Int}(hr:Rch e a b):Rch d a b:=by
 induction hr with
 | refl a f=>exact .refl a<|hn a f
 | step a b c l hl hb _ ih =>
  obtain ⟨l',f,g⟩:=h a l hl b hb;exact .step a b c l' f g ih
theorem ll (a:List (Int×List Int)):∀ v k l,jY a k=some l→l≠[]→v.contains k=false→nW a (v++[k])<nW a v:=by
 intro v k l hl b c;refine Bn ?_ c;cases h:C0 a k with
 | true=>rfl
 | false =>
  rw[jY,uy h] at hl;injection hl with hl
  exact absurd hl.symm b
theorem uz (c:List (Int×List Int))(a b x:Int):fj (gI c a b) x=if x=a then fj c x++[b] else fj c x:=by
 induction c with
 | nil=>simp[gI,fj]
 | cons p r ih =>
  obtain ⟨k,l⟩:=p;simp only[gI];by_cases h:a=k
  ·subst h;simp only[if_true,fj];split <;> rfl
  ·rw[zg2 h];simp only[fj,ih];by_cases d:x=k
   ·subst d;rw[zg3 rfl,zg3 rfl,zg2 (fun e=>h e.symm)]
   ·rw[zg2 d,zg2 d]
end Go.Proofs.YtdepcjnaieflmaaGreatDoor
