/- 12 -/
import Derived.Test.YtdepcjnaieflmaaGreatDoorMc11
set_option linter.unusedSimpArgs false
set_option linter.unusedVariables false
namespace Go.Proofs.YtdepcjnaieflmaaGreatDoor
open _root_.Go.Proofs.Tryz _root_.Go.Proofs.YtdepcjnaieflmaaGreatDoor.Tryz
open Go Go.Sy Go.Pl Go.Proofs Go.Shelf Go.Sort
set_option maxRecDepth 100000
set_option maxHeartbeats 4000000
instance:Inhabited aj:=⟨⟨0,0⟩⟩
def AB (x y:aj):Int:=orI [ij x.cell y.cell,ij x.sign y.sign]
theorem mg (x y:aj):AB x y<0↔x.cell<y.cell∨(x.cell=y.cell∧x.sign<y.sign):=by
 unfold AB orI orI orI ij;split <;> split <;> (try split)<;>(try split)<;>simp_all <;> omega
def GB (l:List aj):Prop:=l.Pairwise fun x y=>¬ AB y x<0
theorem Ao {l m:List aj}(hl:GB l)(hm:GB m)(hp:l.Perm m):l=m:=by
 refine hp.eq_of_pairwise (le:=fun x y=>¬ AB y x<0) (fun x y _ _ a b=>?_) hl hm;rw[mg] at a b;obtain ⟨c,xs⟩:=x;obtain ⟨yc,d⟩:=y;dsimp only at a b;have e1:c=yc:=oM;have e2:xs=d:=oM;rw[e1,e2]
def kH (f:Int→Option Int)(x:aj):aj:=⟨(f x.cell).getD x.cell,x.sign⟩
end Go.Proofs.YtdepcjnaieflmaaGreatDoor
namespace Go.Sy
open Go Go.MapKept
section
variable {P:Program}{N:Nat}{E:World}{f:Fr}{g:PH}{s:Own}{dst:Option Tmp}{ty:TypeId}{pos:String}{af:Array Edge}{gd:Option (Nat×Bool)}
variable {t kt et:TypeId}{m r clk:Nat}{es:Array MapEntry}{vis:List MapEntry}{x y u:Operand}{l vl:List (Int×Value)}{z:Value}{b:Nat}{k:Int}{v:Value}
def unK:Value→Option Int
 | .int .i64 n=>some n
 | _=>none
theorem FY (a:Int):unK (vi a)=some a:=rfl
end
end Go.Sy
namespace Go.Proofs.YtdepcjnaieflmaaGreatDoor
open _root_.Go.Proofs.Tryz _root_.Go.Proofs.YtdepcjnaieflmaaGreatDoor.Tryz
open Go Go.Sy Go.Pl Go.Proofs
def Fx (x y:aj):Bool:=decide (¬ AB y x<0)
def lH (l:List aj):List aj:=l.mergeSort Fx
theorem iL (l:List aj):(lH l).Perm l:=List.mergeSort_perm l Fx
theorem xO (l:List aj):GB (lH l):=by
 have h:=List.pairwise_mergeSort (le:=Fx) (fun a b c d e=>by
  unfold Fx at *;rw[zj8,mg] at *;omega) (fun a b=>by
  unfold Fx;rw[zj6,zj8,zj8,mg,mg];omega) l
 refine List.Pairwise.imp ?_ h;intro a b d;exact zg5 d
section
variable {F:Cl→Cl}(hF:∀ y,(F y).id=y.id)
include hF
end
def qi (ps:List Pr):List Int:=ps.flatMap fun p=>[p.1,p.2]
theorem CK (ps:List Pr)(p:Pr):qi (ps++[p])=qi ps++[p.1,p.2]:=by
 unfold qi;rw[List.flatMap_append];rfl
def zh (ps:List Pr):Bool:=decide (¬ (qi ps).Nodup)
def byF (ps:List Pr)(k:Int):Option Int:=(ps.find? fun p=>decide (p.2=k)).map Prod.fst
theorem tx {ps:List Pr}(h:(qi ps).Nodup):(ps.map Prod.snd).Nodup:=by
 induction ps with
 | nil=>simp
 | cons p ps ih =>
  have hc:qi (p::ps)=p.1::p.2::qi ps:=rfl;rw[hc,zk4,zk4] at h;rw[zg6,zk4];refine⟨fun hm=>h.2.1 ?_,ih h.2.2⟩;obtain ⟨q,hq,e⟩:=zf4.1 hm;unfold qi;rw[List.mem_flatMap];exact⟨q,hq,by simp[e]⟩
def repC (f:Int→Option Int)(c:Cl):Cl:=⟨c.id,c.dim,lH<|c.sides.map<|kH f⟩
def CV (A:List Cl)(id:Int):Int:=((ag A id).getD aA).dim
def wl (A:List Cl)(id:Int):List aj:=((ag A id).getD aA).sides
def AP (A:List Cl)(ps:List Pr)(p:Pr):Bool:=decide (lH ((wl A p.1).map<|kH<|byF ps)=lH ((wl A p.2).map<|kH<|byF ps))
def jG (A:List Cl)(e:Ed):Int :=
 if e.pairs.all (fun p=>(ag A p.1).isSome&&(ag A p.2).isSome) then
  if zh e.pairs then 54 else if e.pairs.any (fun p=>decide (CV A p.1≠CV A p.2)) then 21 else if e.pairs.all (AP A e.pairs) then 0 else 33
 else 30
def th (A:List Cl)(ks:List Int):List Cl:=A.filter fun c=>!decide (c.id∈ks)
def jS (A:List Cl)(e:Ed):List Cl:=(th A<|e.pairs.map Prod.snd).map (repC<|byF e.pairs)
def sY (e:Ed)(k:Int):List Tm:=match byF e.pairs k with
 | some t=>[(t,1)]
 | none=>[(k,1)]
theorem BS {A:List Cl}(hn:(A.map Cl.id).Nodup)(a:List Int)(k:Int):AG (th A a) k=th A (a++[k]):=by
 have b:((th A a).map Cl.id).Nodup:=(List.filter_sublist.map Cl.id).nodup hn;rw[pO k b];unfold th;rw[List.filter_filter];refine List.filter_congr fun c _=>?_;by_cases d:c.id∈a <;> by_cases e:c.id=k <;> simp[d,e]
set_option maxRecDepth 100000
set_option maxHeartbeats 8000000
set_option maxHeartbeats 4000000
theorem iz (E:World)(g:PH)(s:Own)(v u:Value)(l m:List Int)(n:dp g v l)(o:dp g u m)(hl:l.length<1099511627776) :
  Ctr Tryz.prog E 21 #[v,u] g s (fun r g' s'=>r=vb (decide (l=m))∧g=g'∧s=s'):=by
 obtain ⟨p,c,rfl⟩:=za4 n;obtain ⟨q,d,rfl⟩:=za4 o;refine zb2 (args:=[.slice p l.length c,.slice q m.length d]) func21 I ntmps21 (bE I)<|rZ<|aT I<|sQ<|sW I<|lU (eN az I)<|lM I<|lU (eN az I)<|lU (nQ I I)<|tZ<|iP I (fun a=>?_) (fun a=>?_)
 ·exact rZ<|aT I<|rE<|tR<|za8 (.inl I) results21 I ⟨by have:l≠m:=fun e=>a (by rw[e]);simp[this],I,I⟩
 ·refine kP<|tN<|sQ<|rZ<|aT I<|bK ?_;have b:l.length=m.length:=oM;refine oP (ι:=Nat) (fun k=>[(0,.slice p l.length c),(1,.slice q m.length d),(5,vi k)]) (fun _=>g) (fun _=>s) (fun k=>k≤l.length∧l.take k=m.take k) (fun k=>l.length - k) 0
   sB rfl rfl ⟨zf8 _,by simp⟩ ?_
  rintro k ⟨B,f⟩;refine sQ<|sW I<|lM I<|lU (eN az I)<|yL I<|tZ<|iP I (fun t=>?_) (fun t=>?_)
  ·have i:k<l.length:=oM;have j:k<m.length:=oM;have w:=za6 n oM;have x:=za6 o oM;have y:l[((k:Nat):Int).toNat]?=some l[k]:=List.getElem?_eq_getElem i;have z:m[((k:Nat):Int).toNat]?=some m[k]:=List.getElem?_eq_getElem j;refine kP<|tN<|sQ<|bK<|sQ<|dW [] [(0,2),(1,2),(2,2),(3,1),(4,2),(5,2),(6,2),(7,1),(8,2)] ze5 kR<|yM I<|yM I<|pU I (iA az zT3 I I w oM sL)<|pK I (eB iT3 I (za7 n) y I)<|yM I<|yM I<|pU I (iA az zT3 I I x oM sL)<|pK I (eB iT3 I (za7 o) z I)<|pU I (nQ I I)<|pN<|tN<|iP I (fun hd=>?_) (fun hd=>?_)
   ·exact rZ<|aT I<|rE<|bR<|tR<|tR<|bR<|tR<|za8 (.inl I) results21 I ⟨by have:l≠m:=fun e=>hd (by simp[e]);simp[this],I,I⟩
   ·exact kP<|bN<|tN<|rG<|lM I<|yD I<|lA I<|SL.nil<|ST.again (k+1) sB I I ⟨oM,ix i j f<|zh2 hd⟩ oM
  ·refine xI<|tX<|tX<|bX<|tN<|rZ<|aT I<|rE ?_;have A:k=l.length:=oM;subst A;have:l=m:=jm b f;exact za8 (.inl I) results21 I ⟨by simp[this],I,I⟩
def cJ (A:List Cl)(ks:List Int):List Cl:=A.filter fun c=>!decide (c.id∈ks)
theorem zF {A:List Cl}{k:Nat}(b:k<A.length)(a:List Int):cJ (A.take<|k+1) a=if A[k].id∈a then cJ (A.take k) a else cJ (A.take k) a++[A[k]]:=by
 unfold cJ;rw[tS b,zh8];by_cases h:A[k].id∈a
 ·rw[zg3 h];simp[h]
 ·rw[zg2 h];simp[h]
theorem kT (E:World)(g:PH)(s:Own)(v Z:Value)(l:List Cl)(a:List Int)(hv:ai g v l)(hf:aM l)(P:dp g Z a)(a2:a.length<1099511627776) :
  Ctr Tryz.prog E 184 #[.agg #[v],Z] g s (fun r g' s'=>g=g'∧∃ u rs,r = .agg #[u]∧ax (ak g) (cJ l a) rs∧s'=rowA encCell 37 u rs::s):=by
 obtain ⟨rs,t,w⟩:=hv;have a0:=w.length;have a3:=hf.1;obtain ⟨p,c,rfl⟩:=za4 t;obtain ⟨q,d,rfl⟩:=za4 P;refine zb2 (args:=[.agg #[.slice p rs.length c],.slice q a.length d]) func184 I ntmps184 (bE I)<|rZ (bW (bO I) fun L=>?_);refine bW (aL zl3) fun M=>tZ (rZ<|bW (aL zl3) fun N=>?_);refine tZ<|sQ<|rZ<|aT I<|bK<|zb6 37 3<|oP (ι:=Nat×Value×List Rc) (fun i=>[(1,.slice q a.length d),(2,pp L 0),(4,pp M 0),(5,pp N 0),(6,vi i.1)]) (fun _=>g)
  (fun i=>rowA encCell 37 i.2.1 i.2.2::pt N (bY #[i.2.1] 29)::pt M (bY #[.slice none 0 0] 29)::pt L (bY #[.slice p rs.length c] 29)::s)
  (fun i=>i.1≤rs.length∧ax (ak g) (cJ (l.take i.1) a) i.2.2) (fun i=>rs.length - i.1) (0,.slice none 0 0,[])
  sB rfl rfl ⟨zf8 _,by simp[cJ,ax]⟩ ?_
 rintro ⟨k,O,acc⟩ ⟨hk,b⟩;dsimp only at hk b ⊢;have a4:=b.length;have a1:(cJ (l.take k) a).length≤l.length:=by
  have h1:=zc6 (fun c:Cl=>!decide (c.id∈a))<|l.take k;rw[ze6] at h1;unfold cJ;omega
 refine sQ<|sW I<|lU (fA dA I cq I)<|lK (qL (v:=.slice p rs.length c) eG I<|cO 3 I I)<|lU (eN aF I)<|yL I<|tZ<|iP I (fun Q=>?_) (fun Q=>?_)
 ·have C:k<rs.length:=oM;have z:k<l.length:=oM;have A:=za6 t oM;have D:=w.get (List.getElem?_eq_getElem z)<|List.getElem?_eq_getElem C;have F:rs[((k:Nat):Int).toNat]?=some rs[k]:=List.getElem?_eq_getElem C;have f:=zF z a;generalize rs[k]=x at *;generalize l[k]=cx at *;obtain ⟨xi,xd,R,S,T⟩:=x;have G:=D;obtain ⟨e1,e2,H⟩:=D;dsimp only at e1 e2 H;subst e1 e2;refine kP<|tN<|sQ<|bK<|rZ<|aT I<|sQ<|rZ<|aT I<|bK<|oP (ι:=Nat) (fun j=>[(1,.slice q a.length d),(2,pp L 0),(4,pp M 0),(5,pp N 0),(6,vi k),(7,vb<|(a.take j).any fun y=>decide (cx.id=y)),(8,vi j)]) (fun _=>g)
   (fun _=>rowA encCell 37 O acc::pt N (bY #[O] 29)::pt M (bY #[.slice none 0 0] 29)::pt L (bY #[.slice p rs.length c] 29)::s)
   (fun j=>j≤a.length) (fun j=>a.length - j) 0 sB rfl rfl (zf8 _) ?_
  rintro j hj;try dsimp only at hj ⊢
  refine sQ<|sW I<|lM I<|lU (eN az I)<|yL I<|tZ<|iP I (fun J=>?_) (fun J=>?_)
  ·have K:j<a.length:=oM;have U:=za6 P oM;have V:a[((j:Nat):Int).toNat]?=some a[j]:=List.getElem?_eq_getElem K;have m:(a.take<|j+1).any (fun y=>decide (cx.id=y))=((a.take j).any (fun y=>decide (cx.id=y))||decide (cx.id=a[j])):=by rw[tS K,List.any_append];simp
   generalize a[j]=y at *;generalize (a.take j).any (fun y=>decide (cx.id=y))=bb at *;cases bb with
   | true =>
    exact kP<|tN<|sQ<|bK<|dW [] [(0,2),(1,2),(2,2),(3,1),(4,2),(5,2),(6,2),(7,1),(8,2),(9,2),(10,2),(11,1),(12,2),(13,2),(14,2)] ze5 kR<|yM I<|yM I<|yG I<|yI I<|yG I<|yG I<|yG I<|yI I<|yG I<|yG I<|yG I<|yI I<|yG I<|pU I (wT I I)<|pU I (aS I)<|pN<|bN<|tN<|rG<|lM I<|yD I<|lA I<|SL.nil<|ST.again (j+1) ⟨I,I,I,I,I,(by rw[m];rfl),rfl,trivial⟩ rfl rfl oM oM
   | false =>
    refine kP<|tN<|sQ<|bK<|dW [] [(0,2),(1,2),(2,2),(3,1),(4,2),(5,2),(6,2),(7,1),(8,2),(9,2),(10,2),(11,1),(12,2),(13,2),(14,2)] ze5 kR<|yM I<|yM I<|zb3 I (gT I I I dC) (fA dA I cq I) dC<|SP.gq I (gT I I I dC) (qL (v:=.slice p rs.length c) eG I<|cO 3 I I) dC<|yJ I<|zb3 I (gT I I I dC) (iA aF ar I I A oM (show (k:Int)<((rs.length:Nat):Int) by omega)) dC ?_;refine zb3 I (gT I I I dC) (fC ao I zT3 I A) dC<|SP.gq I (gT I I I dC) (aZ (e:=encCell) (o:=0) iT3 I (za7 t) F I) dC<|yJ I<|yJ I<|zb3 I (gT I I I dC) (iA az zT3 I I U oM sL) dC<|SP.gq I (gT I I I dC) (eB iT3 I (za7 P) V I) dC<|zb3 I (gT I I I dC) (eQ I I) dC<|pU I (wF I I)<|pU I (aS I)<|pN<|bN<|tN<|rG<|lM I<|yD I<|lA I<|SL.nil ?_;exact ST.again (j+1) ⟨I,I,I,I,I,(by rw[m];rfl),rfl,trivial⟩ rfl rfl oM oM
  ·have W:a.take j=a:=tL oM;have m:(a.any fun y=>decide (cx.id=y))=decide (cx.id∈a):=by
    rw[Bool.eq_iff_iff,zk1,zj8];exact⟨fun ⟨y,hy,he⟩=>by rw[zg5 he];exact hy,fun h=>⟨_,h,zg1 I⟩⟩
   rw[W,m];refine xI<|tX<|tX<|bX<|tN<|sW I<|lU (SU.notP I)<|tZ<|iQ I (fun hg=>?_) (fun hg=>?_)
   ·have B:cx.id ∉ a:=zg5 hg;rw[zg2 B] at f;refine dW [8,10] [(0,2),(1,1),(2,2),(3,1),(4,2),(5,2),(6,1),(7,0),(8,0),(9,2),(10,0)] ze5 kR<|pU I (fA dA I cq I) (pK I (qL (v:=O) eG I (cO 1 I I)) (pU I (fA dA I cq I) (pK I (qL (v:=.slice p rs.length c) eG I (cO 3 I I)) (yM I (pU I (iA aF ar I I A oM (show (k:Int)<((rs.length:Nat):Int) by omega)) ?_)))));refine pK I (SQ.elemA dH ar I (za7 t) F) (SP.o I (bS sty27 I I I (ab sB) dC) dC (.inr iR) ?_);rintro _ _ _ ⟨a5,rfl,rfl,rfl⟩;refine SP.o I (aP (e:=encCell) 0 ⟨cx.id,cx.dim,⟨R,S,T⟩⟩ sty27 I I I I I oM oM) dC (.inl dC) ?_;rintro ov' _ _ ⟨rfl,rfl⟩;refine zd3 fun ⟨X,n⟩=>?_;obtain ⟨q',d',rfl⟩:=ah (e:=encCell) (l:=acc++[(⟨cx.id,cx.dim,⟨R,S,T⟩⟩:Rc)]) (i:=0) n rfl;clear n X;refine pU I (fA dA I cq I) (SP.on I (sK 1 cq I I I I I sB) (.inl dC) ?_);rintro _ _ _ ⟨rfl,rfl⟩;refine pN (bN (tN (rG (lM I (yD I (lA I (SL.nil ?_)))))));exact ST.again (k+1,_,acc++[(⟨cx.id,cx.dim,⟨R,S,T⟩⟩:Rc)]) sB I I ⟨by dsimp only;omega,by
     dsimp only;rw[f];exact b.append ⟨G,trivial⟩⟩ (by dsimp only;omega)
   ·have B:cx.id∈a:=Decidable.not_not.1<|of_decide_eq_false hg;rw[zg3 B] at f;exact kP<|bN<|tN<|rG<|lM I<|yD I<|lA I<|SL.nil<|ST.again (k+1,O,acc) sB I I ⟨by dsimp only;omega,by dsimp only;rw[f];exact b⟩ (by dsimp only;omega)
 ·have Y:l.take k=l:=tL oM;rw[Y] at b;refine xI<|tX<|tX<|bX<|tN<|sQ<|SC.facts fun ⟨X,n⟩=>?_;obtain ⟨q2,d2,rfl⟩:=ah (i:=0) n rfl;clear n X;exact rG<|lK (qV 1 an ae I I I)<|oZ (sK 2 ae I I I I I sB)<|tZ<|rE<|ST.retCD 2 _ (.inl I) results184 I an ae I I (.cons_cons _<|.cons _<|.cons _<|.cons _<|.refl _) ⟨I,_,acc,I,b,I⟩
def df (cell:Int)(ch:List Tm)(p:Int×List Tm):Int×List Tm:=if p.1=cell then (p.1,ch) else p
theorem iM (E:World)(g:PH)(s:Own)(v R:Value)(l:List (Int×List Tm))(cell:Int)(b:List Tm)(Y:Ims g v l)(hl:l.length<1099511627776)(hc:SlA fm g R b) :
  Ctr Tryz.prog E 186 #[.agg #[v],vi cell,R] g s (fun r g' s'=>s=s'∧Le g g'∧∃ u,r = .agg #[u]∧Ims g' u (l.map<|df cell b)):=by
 obtain ⟨rs,w,n⟩:=Y;have S:=n.length;obtain ⟨p,c,rfl⟩:=za4 w;obtain ⟨q,d,rfl⟩:=za4 hc;refine zb2 (args:=[.agg #[.slice p rs.length c],vi cell,.slice q b.length d]) func186 I ntmps186 (bE I)<|rZ (bW (bO I) fun T=>?_);refine bW (aL zl7) fun U=>tZ (rZ<|bW (aL zl7) fun V=>?_);refine tZ<|sQ<|rZ<|aT I<|bK<|zb6 199 2<|oP (ι:=Nat×Value×List Im) (fun i=>[(1,vi cell),(2,.slice q b.length d),(3,pp T 0),(6,pp U 0),(7,pp V 0),(8,vi i.1)]) (fun _=>g)
  (fun i=>rowA li 199 i.2.1 i.2.2::pt V (bY #[i.2.1] 90)::pt U (bY #[.slice none 0 0] 90)::pt T (bY #[.slice p rs.length c] 90)::s)
  (fun i=>i.1≤rs.length∧ax (ImR g) ((l.take i.1).map<|df cell b) i.2.2) (fun i=>rs.length - i.1) (0,.slice none 0 0,[])
  sB rfl rfl ⟨zf8 _,by simp[ax]⟩ ?_
 rintro ⟨k,W,acc⟩ ⟨Z,a⟩;dsimp only at Z a ⊢;have C:=a.length;rw[ze8,ze6] at C;refine sQ<|sW I<|lU (fA ze I tj I)<|lK (qL (v:=.slice p rs.length c) isAgg88 I<|cO 3 I I)<|lU (eN underlying88 I)<|yL I<|tZ<|iP I (fun D=>?_) (fun D=>?_)
 ·have z:k<rs.length:=oM;have A:k<l.length:=oM;have F:=za6 w oM;have G:=n.get (List.getElem?_eq_getElem A)<|List.getElem?_eq_getElem z;have H:rs[((k:Nat):Int).toNat]?=some rs[k]:=List.getElem?_eq_getElem z;have m:=oC (df cell b) A;generalize rs[k]=x at *;generalize l[k]=cx at *;obtain ⟨f,J,K,L⟩:=x;obtain ⟨cc,M⟩:=cx;obtain ⟨X,o⟩:=G;dsimp only at X o;subst X;refine kP<|tN<|sQ<|bK<|rZ<|lU (fA ze I tj I)<|lK (qL (v:=.slice p rs.length c) isAgg88 I<|cO 3 I I)<|lM I<|lU (iA underlying88 sizeOf199 I I F oM (show (k:Int)<((rs.length:Nat):Int) by omega)) ?_;refine lK (SQ.elemA isAgg199 sizeOf199 I (za7 w) H) (bW (aL zeroValue199) fun b9=>?_);refine oZ (sK 0 sizeOf199 I I I I I sB) ?_;refine tZ<|sQ<|rZ<|lU (fA underlying199 I zT3 I)<|lK (qL (v:=vi f) iT3 I<|cO 0 I I)<|lM I<|yE I<|tZ ?_;refine iP I (fun N=>?_) (fun N=>?_)
  ·have y:df cell b (f,M)=(f,b):=zg3 N;rw[y] at m;refine rG (lM rfl (lU (fA underlying199 rfl sizeOf188 rfl) (oZ (SO.store1 0 sizeOf188 rfl rfl rfl rfl (bE rfl) (by rfl)) ?_)));refine tZ (rG (lU (fA ze I tj I) (lK (qL (v:=W) isAgg88 I (cO 2 I I)) (lK (qV 0 isAgg199 sizeOf199 I I I) (lW (bS sty88 I I I (ab sB) dC) ?_)))));rintro _ _ _ ⟨O,rfl,rfl,rfl⟩;refine lW (aP (e:=li) 1 ⟨f,⟨q,b.length,d⟩⟩ sty88 I I I I I oM oM) ?_;rintro ov' _ _ ⟨rfl,rfl⟩;refine zd4 fun ⟨P,j⟩=>?_;obtain ⟨q',d',rfl⟩:=ah (e:=li) (l:=acc++[⟨f,⟨q,b.length,d⟩⟩]) (i:=1) j rfl;clear j P;refine lU (fA ze I tj I) (oZ (sK 2 tj I I I I I sB) ?_);refine SL.nil (bN (tN (rG (lM I (yD I (lA I (SL.nil (dR (.cons _ (.refl _)) ?_))))))));exact ST.again (k+1,_,acc++[⟨f,⟨q,b.length,d⟩⟩]) sB I I ⟨by dsimp only;omega,by
    dsimp only;rw[m];exact a.append ⟨⟨I,hc⟩,trivial⟩⟩ (by dsimp only;omega)
  ·have y:df cell b (f,M)=(f,M):=zg2 N;rw[y] at m;refine kP (tN (rG (lU (fA ze I tj I) (lK (qL (v:=W) isAgg88 I (cO 2 I I)) (lK (qV 0 isAgg199 sizeOf199 I I I) (lW (bS sty88 I I I (ab sB) dC) ?_))))));rintro _ _ _ ⟨O,rfl,rfl,rfl⟩;refine lW (aP (e:=li) 1 ⟨f,⟨J,K,L⟩⟩ sty88 I I I I I oM oM) ?_;rintro ov' _ _ ⟨rfl,rfl⟩;refine zd4 fun ⟨P,j⟩=>?_;obtain ⟨q',d',rfl⟩:=ah (e:=li) (l:=acc++[⟨f,⟨J,K,L⟩⟩]) (i:=1) j rfl;clear j P;refine lU (fA ze I tj I) (oZ (sK 2 tj I I I I I sB) ?_);refine SL.nil (bN (tN (rG (lM I (yD I (lA I (SL.nil (dR (.cons _ (.refl _)) ?_))))))));exact ST.again (k+1,_,acc++[⟨f,⟨J,K,L⟩⟩]) sB I I ⟨by dsimp only;omega,by
    dsimp only;rw[m];exact a.append ⟨⟨I,o⟩,trivial⟩⟩ (by dsimp only;omega)
 ·have Q:l.take k=l:=tL oM;rw[Q] at a;refine xI (tX<|tX<|bX<|tN<|sQ<|fS fun g2 t B=>?_);obtain ⟨q2,d2,rfl⟩:=zc3 B;exact rG<|lK (qV 0 isAgg90 p8 I I I)<|oZ (sK 1 p8 I I I I I sB)<|tZ<|rE<|ST.retCD 1 s (.inl I) results186 I isAgg90 p8 I I uR ⟨I,t,_,I,acc,B,a.mono fun _ _=>ImR.mono t⟩
theorem gP {A:List Cl}(a:aM A)(b:List Int):aM (cJ A b):=⟨by
 have d:=zc6 (fun c:Cl=>!decide (c.id∈b)) A;have e:=a.1;unfold cJ;omega,fun c hc=>a.2 c (zh6.1 hc).1⟩
theorem Tryz.buildT92 (p:Option Addr)(n c:Nat)(b:Bool)(w:World):(Instr.build 92 #[(0,.agg #[.slice p n c]),(1,vb b)]).run Tryz.prog w = .ok (.agg #[.slice p n c,vb b]) w:=by
 have a:(Value.agg #[Value.slice p n c]).cells = #[.slice p n c]:=rfl;have d:(vb b).cells = #[vb b]:=rfl;simp[Instr.build,Instr.fill,a,d];rfl
theorem qF (E:World)(g:PH)(s:Own)(v ev:Value)(l:List Cl)(e:Ed)(m:ai g v l)(x:aM l)(J:EdR g ev e)(code:Int)(b:code=if (findC l e.cell).isSome then (if 0<(aC l e.cell).length then 31 else 0) else 30) :
  Ctr Tryz.prog E 121 #[.agg #[v],ev] g s (fun r g' s'=>s=s'∧Le g g'∧EI code (if code=0 then cJ l [e.cell] else l) ((am<|cJ l [e.cell]).map gr) (decide (code=0)) r g'):=by
 obtain ⟨sv,pv,rfl,y,z⟩:=J;obtain ⟨sp,K,rfl⟩:=za4 y;obtain ⟨L,M,rfl⟩:=za4 z;obtain ⟨p,c,rfl⟩:=m.form;have A:=gP x [e.cell];refine zb2 (args:=[.agg #[.slice p l.length c],.agg #[vi e.kind,vi e.cell,vi e.dim,vi e.new,vi e.other,.slice sp e.sides.length K,.slice L e.pairs.length M]]) func121 I ntmps121 (bE I)<|rZ (bW (bO I) fun O=>?_);refine bW (bO I) fun P=>bW (aL zl3) fun Q=>bW (aL zl5) fun R=>aT I<|sQ<|rZ<|lK (qV 3 an ae I I I)<|lU (fA a6 I zT3 I)<|lK (qL iT3 I<|cO 2 I I)<|lW (SO.call call181 I<|di E g _ _ l e.cell m x) ?_;rintro _ g1 _ ⟨rfl,rfl,d⟩;refine lU (SU.not I)<|tZ<|iQ I (fun hp=>?_) (fun hp=>?_)
 ·have hc:code=30:=by rw[b];rw[Bool.not_eq_true'] at hp;rw[hp];rfl
  subst hc;exact rZ<|lK (qV 3 an ae I I I)<|lU (za3 I buildZ92)<|oZ (sK 1 ae I I I I I sB)<|oZ (sK 0 bT I I I I I sB)<|aT I<|rE<|tR<|ST.retCCT 1 0 s (.inl I) results121 I I I an ae gt bT I I I I uR ⟨I,d,_,_,_,_,I,m.mono d,fun h=>by cases h⟩
 rw[Bool.not_eq_false'] at hp;refine kP<|tN<|sQ<|rZ<|lK (qV 3 an ae I I I)<|lU (fA a6 I zT3 I)<|lK (qL iT3 I<|cO 2 I I)<|lW (SO.call call183 I<|dx E g1 _ _ l e.cell (m.mono d) x) ?_;rintro _ g2 _ ⟨rfl,n,B⟩;obtain ⟨S,T,rfl⟩:=za4 B;have a:=d.trans n;refine lU (eN az I)<|lU (gR I I)<|tZ<|iP I (fun C=>?_) (fun C=>?_)
 ·have hc:code=31:=by rw[b,hp,zg3 rfl,zg3 oM]
  subst hc;exact rZ<|lK (qV 3 an ae I I I)<|lU (za3 I buildZ92)<|oZ (sK 1 ae I I I I I sB)<|oZ (sK 0 bT I I I I I sB)<|aT I<|rE<|tR<|ST.retCCT 1 0 s (.inl I) results121 I I I an ae gt bT I I I I uR ⟨I,a,_,_,_,_,I,m.mono a,fun h=>by cases h⟩
 have hc:code=0:=by rw[b,hp,zg3 rfl,zg2 oM]
 subst hc;refine kP<|tN<|rZ<|lK (qV 3 an ae I I I)<|lU (fA a6 I zT3 I)<|lK (qL iT3 I<|cO 2 I I)<|lW (bS sty32 I I I (ab ⟨I,trivial⟩) dC) ?_;rintro _ _ _ ⟨D,rfl,rfl,rfl⟩;refine zb5 fun g3 i F=>?_;have G:dp g3 (.slice (some ⟨D,0,none⟩) 1 1) [e.cell]:=SlA.lit F rfl rfl;refine lW (SO.call call184 I<|kT E g3 _ _ _ l [e.cell] (m.mono<|a.trans i) x G dO) ?_;rintro _ _ _ ⟨rfl,U,q,rfl,f,rfl⟩;refine zd6 fun g4 j t=>?_;obtain ⟨N,d4,rfl⟩:=zc3 t;have H:=f.length;have u:ai g4 (.slice N q.length d4) (cJ l [e.cell]):=⟨q,t,f.mono fun _ _=>ak.mono j⟩;refine bW (aL zl3) fun V=>oZ (sK 0 ae I I I I I sB)<|tZ<|sQ<|dW [4,5] [(0,1),(1,1),(2,0),(3,2),(4,0),(5,0),(6,2)] ze5 kR<|pK I (qV 0 an ae I I I)<|pK I (qV 0 an ae I I I)<|SP.o I (SO.call call182 I<|fG E g4 _ _ (cJ l [e.cell]) u A) dC (.inr iR) ?_;rintro _ g5 _ ⟨rfl,k,W,rfl,w⟩;obtain ⟨X,Y,d5,rfl⟩:=w.form;refine pU I (za3 I<|buildT92 _ _ _ _)<|SP.on I (sK 2 ae I I I I I sB) (.inl dC) ?_;rintro _ _ _ ⟨rfl,rfl⟩;refine SP.on I (sK 1 bT I I I I I sB) (.inl dC) ?_;rintro _ _ _ ⟨rfl,rfl⟩;exact pU I (aS I)<|pN<|tN<|rE<|ST.retCCT 2 1 s (.inl I) results121 I I I an ae gt bT I I I I uR ⟨I,a.trans<|i.trans<|j.trans k,_,_,_,_,I,u.mono k,fun _=>w⟩
def sgF (l:List aj)(cell:Int):Int:=l.foldl (fun a x=>if x.cell=cell then x.sign else a) 0
theorem Di {l:List aj}{k:Nat}(a:k<l.length)(cell:Int):sgF (l.take<|k+1) cell=if l[k].cell=cell then l[k].sign else sgF (l.take k) cell:=by
 unfold sgF;rw[tS a,zj2];rfl
theorem F4 (l:List aj)(cell:Int)(h:∀ x∈l,x.sign=1∨x.sign = -1):sgF l cell=0∨sgF l cell=1∨sgF l cell = -1:=by
 unfold sgF;have:∀ (l:List aj) (a:Int),(∀ x∈l,x.sign=1∨x.sign = -1)→(a=0∨a=1∨a = -1)→(l.foldl (fun a x=>if x.cell=cell then x.sign else a) a=0∨l.foldl (fun a x=>if x.cell=cell then x.sign else a) a=1∨l.foldl (fun a x=>if x.cell=cell then x.sign else a) a = -1):=by
  intro l;induction l with
  | nil=>intro a _ h;exact h
  | cons x l ih =>
   intro a b c;rw[zj1];refine ih _ (fun y d=>b y<|by simp[d]) ?_;split
   ·exact .inr (b x<|by simp)
   ·exact c
 exact this l 0 h<|.inl I
def fF (l:List Cl)(e:Ed):List Tm:=((((findC l e.other).getD aA).sides.filter fun x=>!decide (x.cell=e.cell))).map fun x=>(x.cell,-sgF ((findC l e.other).getD aA).sides e.cell * x.sign)
def cI (l:List Cl)(e:Ed):Int:=if (findC l e.other).isSome&&(findC l e.cell).isSome then (if aC l e.cell=[e.other]∧¬ 0<(aC l e.other).length then 0 else 32) else 30
theorem DT {l:List aj}{k:Nat}(a:k<l.length)(cell:Int):(l.take<|k+1).filter (fun x=>!decide (x.cell=cell))=if l[k].cell=cell then (l.take k).filter (fun x=>!decide (x.cell=cell)) else (l.take k).filter (fun x=>!decide (x.cell=cell))++[l[k]]:=by
 rw[tS a,zh8];by_cases h:l[k].cell=cell
 ·rw[zg3 h];simp[h]
 ·rw[zg2 h];simp[h]
theorem nS (E:World)(g:PH)(s:Own)(v ev:Value)(l:List Cl)(e:Ed)(hv:ai g v l)(N:aM l)(he:EdR g ev e)(d1:∀ x∈((findC l e.other).getD aA).sides,x.sign=1∨x.sign = -1)(h8:((findC l e.other).getD aA).sides.length≤64) :
  Ctr Tryz.prog E 124 #[.agg #[v],ev] g s (fun r g' s'=>s=s'∧Le g g'∧EI (cI l e) (if cI l e=0 then cJ l [e.cell,e.other] else l) ((((am l).map gr).map<|df e.cell<|fF l e).map<|df e.other []) false r g'):=by
 obtain ⟨sv,pv,rfl,e2,e4⟩:=he;obtain ⟨sp,sc,rfl⟩:=za4 e2;obtain ⟨pq,pc,rfl⟩:=za4 e4;obtain ⟨p,c,rfl⟩:=hv.form;have b9:(aC l e.cell).length<1099511627776:=Nat.lt_of_le_of_lt (by unfold aC;rw[ze8];exact zc6 _ _) (bU N).1;refine zb2 (args:=[.agg #[.slice p l.length c],.agg #[vi e.kind,vi e.cell,vi e.dim,vi e.new,vi e.other,.slice sp e.sides.length sc,.slice pq e.pairs.length pc]]) func124 I ntmps124 (bE I) ?_;have i0:(findC l e.other).isSome=true→∃ cy,findC l e.other=some cy:=fun h=>zi1.1 h;cases ho:(findC l e.other).isSome with
 | false =>
  have j:cI l e=30:=by unfold cI;rw[ho];rfl
  rw[j];refine rZ (bW (bO I) fun b2=>?_);refine bW (bO I) fun b3=>bW (aL zl3) fun b4=>bW (aL zl5) fun b5=>aT I<|rZ<|lK (qV 3 an ae I I I)<|lU (fA a6 I zT3 I)<|lK (qL iT3 I<|cO 2 I I)<|lW (SO.call call55 I<|bc E g _ _ l e.other hv N) ?_;rintro _ g1 _ ⟨rfl,y,⟨yi,yd,X,yn,yc⟩,rfl,a0⟩;obtain ⟨a1,a2,H⟩:=a0;dsimp only at a1 a2 H;have a3:yn=((findC l e.other).getD aA).sides.length:=zc2 H;subst a3;have O:=hv.mono y;rw[ho];refine lM I (yX I<|yX I<|bW (aL zm2) fun b7=>?_);exact oZ (sK 0 ar I I I I I sB)<|aT I<|sQ<|sW I<|lU (SU.not I)<|lM I<|yA I<|yA I<|yA I<|yA I<|yA I<|yP I<|tZ<|za2 I<|rZ<|lK (qV 4 an ae I I I)<|lU (za3 I buildZ92)<|oZ (sK 2 ae I I I I I sB)<|oZ (sK 1 bT I I I I I sB)<|aT I<|rE<|tR<|ST.retCCT 2 1 s (.inl I) results124 I I I an ae gt bT I I I I uR ⟨I,y,_,_,_,_,I,O,fun h=>by cases h⟩
 | true =>
 cases a4:(findC l e.cell).isSome with
 | false =>
  have j:cI l e=30:=by unfold cI;rw[ho,a4];rfl
  rw[j];refine rZ (bW (bO I) fun b2=>?_);refine bW (bO I) fun b3=>bW (aL zl3) fun b4=>bW (aL zl5) fun b5=>aT I<|rZ<|lK (qV 3 an ae I I I)<|lU (fA a6 I zT3 I)<|lK (qL iT3 I<|cO 2 I I)<|lW (SO.call call55 I<|bc E g _ _ l e.other hv N) ?_;rintro _ g1 _ ⟨rfl,y,⟨yi,yd,X,yn,yc⟩,rfl,a0⟩;obtain ⟨a1,a2,H⟩:=a0;dsimp only at a1 a2 H;have a3:yn=((findC l e.other).getD aA).sides.length:=zc2 H;subst a3;have O:=hv.mono y;rw[ho];refine lM I (yX I<|yX I<|bW (aL zm2) fun b7=>?_);refine oZ (sK 0 ar I I I I I sB)<|aT I<|sQ<|sW I<|lU (SU.not I)<|lM I<|SL.gq (gT I I I dC) (qV 4 an ae I I I) dC<|lY I I I (fA a6 I zT3 I)<|SL.gq (gT I I I dC) (qL (v:=vi e.cell) iT3 I<|cO 3 I I) dC<|ze3 (gT I I I dC) (SO.call call181 I<|di E g1 _ _ l e.cell O N) dC ?_;rintro _ g2 _ ⟨rfl,rfl,G⟩;rw[a4];exact lY I I I (SU.not I)<|yF I<|tZ<|za2 I<|rZ<|lK (qV 4 an ae I I I)<|lU (za3 I buildZ92)<|oZ (sK 2 ae I I I I I sB)<|oZ (sK 1 bT I I I I I sB)<|aT I<|rE<|tR<|ST.retCCT 2 1 s (.inl I) results124 I I I an ae gt bT I I I I uR ⟨I,y.trans G,_,_,_,_,I,O.mono G,fun h=>by cases h⟩
 | true =>
 refine rZ (bW (bO I) fun b2=>?_);refine bW (bO I) fun b3=>bW (aL zl3) fun b4=>bW (aL zl5) fun b5=>aT I<|rZ<|lK (qV 3 an ae I I I)<|lU (fA a6 I zT3 I)<|lK (qL iT3 I<|cO 2 I I)<|lW (SO.call call55 I<|bc E g _ _ l e.other hv N) ?_;rintro _ g1 _ ⟨rfl,y,⟨yi,yd,X,yn,yc⟩,rfl,a0⟩;obtain ⟨a1,a2,H⟩:=a0;dsimp only at a1 a2 H;have a3:yn=((findC l e.other).getD aA).sides.length:=zc2 H;subst a3;have O:=hv.mono y;rw[ho];refine lM I (yX I<|yX I<|bW (aL zm2) fun b7=>?_);refine oZ (sK 0 ar I I I I I sB)<|aT I<|sQ<|sW I<|lU (SU.not I)<|lM I<|SL.gq (gT I I I dC) (qV 4 an ae I I I) dC<|lY I I I (fA a6 I zT3 I)<|SL.gq (gT I I I dC) (qL (v:=vi e.cell) iT3 I<|cO 3 I I) dC<|ze3 (gT I I I dC) (SO.call call181 I<|di E g1 _ _ l e.cell O N) dC ?_;rintro _ g2 _ ⟨rfl,rfl,G⟩;rw[a4];refine lY I I I (SU.not I)<|yF I<|tZ<|za1 I<|kP<|tN<|sQ ?_;have P:=O.mono G;have d2:=za5 H G;have c6:=y.trans G;refine SC.cut (ι:=PH) (fun _=>[(2,pp b2 0),(3,pp b3 0),(4,pp b4 0),(5,pp b5 0),(7,pp b7 0),(48,vb<|!decide (aC l e.cell=[e.other])||decide (0<(aC l e.other).length))]) (fun g'=>g') (fun _=>pt b7 (bY #[vi yi,vi yd,.slice X ((findC l e.other).getD aA).sides.length yc] 37)::pt b5 (bY #[.slice none 0 0,vb false] 92)::pt b4 (bY #[.slice none 0 0] 29)::pt b3 (.cells (edV e (.slice sp e.sides.length sc)<|.slice pq e.pairs.length pc) 58 (0,0))::pt b2 (bY #[.slice p l.length c] 29)::s) (fun g'=>Le g2 g') ?_ ?_
 ·by_cases J:aC l e.cell=[e.other]
  ·refine SC.drawX [] ze5 kR ?_;refine SX.q (i:=0) I kR (qV 4 an ae I I I) dC<|SX.u (i:=1) I kR (fA a6 I zT3 I) dC<|SX.q (i:=2) I kR (qL (v:=vi e.cell) iT3 I<|cO 3 I I) dC<|SX.u (i:=4) I kR (fA a6 I zT3 I) dC<|SX.q (i:=5) I kR (qL (v:=vi e.other) iT3 I<|cO 3 I I) dC ?_
   repeat' (first
    | (refine SB.o (i:=3) rfl (SO.call call183 rfl<|dx E _ _ _ l e.cell (by exact P.mono<|by assumption) N) dC (.inr (by rintro v35 g3 _ ⟨rfl,a,z⟩;exact⟨by exact Le.trans io io,(by exact .refl _)⟩)) ?_;rintro v35 g3 _ ⟨rfl,a,z⟩;first | have f:=b.trans a | skip)
    | (refine SB.o (i:=3) rfl (SO.call call183 rfl<|dx E _ _ _ l e.cell (by exact P) N) dC (.inr (by rintro v35 g3 _ ⟨rfl,a,z⟩;exact⟨by assumption,(by exact .refl _)⟩)) ?_;rintro v35 g3 _ ⟨rfl,a,z⟩;first | have f:=b.trans a | skip)
    | (refine SB.o (i:=6) rfl (bS sty32 rfl rfl rfl (ab ⟨rfl,trivial⟩) dC) dC (.inr (by rintro _ _ _ ⟨Q,rfl,rfl,rfl⟩;exact⟨by exact zb9 _,(by exact .cons _<|.refl _)⟩)) ?_;rintro _ _ _ ⟨Q,rfl,rfl,rfl⟩;refine SX.to (fun w hw=>At.litRow (e:=encInt) (l:=[e.other]) (n:=0) hw I I dC) ?_;refine SX.freezeRow fun g4 b R=>?_;first | have f:=a.trans b | skip)
    | (refine SB.o (i:=6) rfl (bS sty32 rfl rfl rfl (ab ⟨rfl,trivial⟩) dC) dC (.inr (by rintro _ _ _ ⟨Q,rfl,rfl,rfl⟩;exact⟨by assumption,(by exact .cons _<|.refl _)⟩)) ?_;rintro _ _ _ ⟨Q,rfl,rfl,rfl⟩;refine SX.to (fun w hw=>At.litRow (e:=encInt) (l:=[e.other]) (n:=0) hw I I dC) ?_;refine SX.freezeRow fun g4 b R=>?_;first | have f:=a.trans b | skip)
    | (refine SB.o (i:=7) rfl (SO.call call21 rfl<|iz E _ _ _ _ (aC l e.cell) [e.other] (by exact za5 z<|by assumption) (by exact R) b9) dC (.inr (by rintro _ _ _ ⟨rfl,rfl,rfl⟩;exact⟨by assumption,(by exact .refl _)⟩)) ?_;rintro _ _ _ ⟨rfl,rfl,rfl⟩;refine SX.u (i:=8) I kD (SU.eq (v':=vb false) (SU.not I)<|ze4 vb (by rw[zg1 J];rfl)) dC ?_;refine SX.u (i:=9) I kD (mV I) dC ?_;refine SX.gq (i:=10) I kD (gT I I I dC) (qV 4 an ae I I I) dC ?_;refine SX.gu (i:=11) I kD (gT I I I dC) (fA a6 I zT3 I) dC ?_;refine SX.gq (i:=12) I kD (gT I I I dC) (qL (v:=vi e.other) iT3 I<|cO 3 I I) dC ?_)
    | (refine SB.o (i:=7) rfl (SO.call call21 rfl<|iz E _ _ _ _ (aC l e.cell) [e.other] (by exact z) (by exact za5 R<|by assumption) b9) dC (.inr (by rintro _ _ _ ⟨rfl,rfl,rfl⟩;exact⟨by assumption,(by exact .refl _)⟩)) ?_;rintro _ _ _ ⟨rfl,rfl,rfl⟩;refine SX.u (i:=8) I kD (SU.eq (v':=vb false) (SU.not I)<|ze4 vb (by rw[zg1 J];rfl)) dC ?_;refine SX.u (i:=9) I kD (mV I) dC ?_;refine SX.gq (i:=10) I kD (gT I I I dC) (qV 4 an ae I I I) dC ?_;refine SX.gu (i:=11) I kD (gT I I I dC) (fA a6 I zT3 I) dC ?_;refine SX.gq (i:=12) I kD (gT I I I dC) (qL (v:=vi e.other) iT3 I<|cO 3 I I) dC ?_)
    | (refine SB.go (i:=13) rfl (gT rfl rfl rfl dC) (SO.call call183 rfl<|dx E _ _ _ l e.other (P.mono f) N) dC (.inr (by rintro v45 g5 _ ⟨rfl,A,d3⟩;exact⟨by exact Le.trans io io,(by exact .refl _)⟩)) ?_;rintro v45 g5 _ ⟨rfl,A,d3⟩;obtain ⟨q5,d5,rfl⟩:=za4 d3;have d4:=f.trans A;refine SX.gu (i:=14) I kD (gT I I I dC) (eN az I) dC ?_;refine SX.gu (i:=15) I kD (gT I I I dC) (SU.eq (v':=vb<|decide (0<(aC l e.other).length)) (gR I I)<|ze4 vb<|by simp only[gt_iff_lt,Int.natCast_pos]) dC ?_;refine SX.u (i:=16) I kD (wF I I) dC ?_)
    | refine zd8 3 6 kD ?_ ?_
    | refine zd7 6 kD ?_
    | refine zd7 7 kD ?_
    | refine zd7 13 kD ?_
    | refine zd7 3 kD ?_
    | (refine SX.nil kD ?_;exact za9 _ ⟨I,I,I,I,I,(by rw[zg1 J];rfl),trivial⟩ rfl rfl d4))
  ·refine SC.drawX [] ze5 kR ?_;refine SX.q (i:=0) I kR (qV 4 an ae I I I) dC<|SX.u (i:=1) I kR (fA a6 I zT3 I) dC<|SX.q (i:=2) I kR (qL (v:=vi e.cell) iT3 I<|cO 3 I I) dC<|SX.u (i:=4) I kR (fA a6 I zT3 I) dC<|SX.q (i:=5) I kR (qL (v:=vi e.other) iT3 I<|cO 3 I I) dC ?_
   repeat' (first
    | (refine SB.o (i:=3) rfl (SO.call call183 rfl<|dx E _ _ _ l e.cell (by exact P.mono<|by assumption) N) dC (.inr (by rintro v35 g3 _ ⟨rfl,a,z⟩;exact⟨by exact Le.trans io io,(by exact .refl _)⟩)) ?_;rintro v35 g3 _ ⟨rfl,a,z⟩;first | have f:=b.trans a | skip)
    | (refine SB.o (i:=3) rfl (SO.call call183 rfl<|dx E _ _ _ l e.cell (by exact P) N) dC (.inr (by rintro v35 g3 _ ⟨rfl,a,z⟩;exact⟨by assumption,(by exact .refl _)⟩)) ?_;rintro v35 g3 _ ⟨rfl,a,z⟩;first | have f:=b.trans a | skip)
    | (refine SB.o (i:=6) rfl (bS sty32 rfl rfl rfl (ab ⟨rfl,trivial⟩) dC) dC (.inr (by rintro _ _ _ ⟨Q,rfl,rfl,rfl⟩;exact⟨by exact zb9 _,(by exact .cons _<|.refl _)⟩)) ?_;rintro _ _ _ ⟨Q,rfl,rfl,rfl⟩;refine SX.to (fun w hw=>At.litRow (e:=encInt) (l:=[e.other]) (n:=0) hw I I dC) ?_;refine SX.freezeRow fun g4 b R=>?_;first | have f:=a.trans b | skip)
    | (refine SB.o (i:=6) rfl (bS sty32 rfl rfl rfl (ab ⟨rfl,trivial⟩) dC) dC (.inr (by rintro _ _ _ ⟨Q,rfl,rfl,rfl⟩;exact⟨by assumption,(by exact .cons _<|.refl _)⟩)) ?_;rintro _ _ _ ⟨Q,rfl,rfl,rfl⟩;refine SX.to (fun w hw=>At.litRow (e:=encInt) (l:=[e.other]) (n:=0) hw I I dC) ?_;refine SX.freezeRow fun g4 b R=>?_;first | have f:=a.trans b | skip)
    | (refine SB.o (i:=7) rfl (SO.call call21 rfl<|iz E _ _ _ _ (aC l e.cell) [e.other] (by exact za5 z<|by assumption) (by exact R) b9) dC (.inr (by rintro _ _ _ ⟨rfl,rfl,rfl⟩;exact⟨by assumption,(by exact .refl _)⟩)) ?_;rintro _ _ _ ⟨rfl,rfl,rfl⟩;refine SX.u (i:=8) I kD (SU.eq (v':=vb true) (SU.not I)<|ze4 vb (by rw[zf9 J];rfl)) dC ?_;refine SX.u (i:=9) I kD (mV I) dC ?_;refine SX.off (i:=10) I kD (gZ I I I dC) dC ?_;refine SX.off (i:=11) I kD (gZ I I I dC) dC ?_;refine SX.off (i:=12) I kD (gZ I I I dC) dC ?_)
    | (refine SB.o (i:=7) rfl (SO.call call21 rfl<|iz E _ _ _ _ (aC l e.cell) [e.other] (by exact z) (by exact za5 R<|by assumption) b9) dC (.inr (by rintro _ _ _ ⟨rfl,rfl,rfl⟩;exact⟨by assumption,(by exact .refl _)⟩)) ?_;rintro _ _ _ ⟨rfl,rfl,rfl⟩;refine SX.u (i:=8) I kD (SU.eq (v':=vb true) (SU.not I)<|ze4 vb (by rw[zf9 J];rfl)) dC ?_;refine SX.u (i:=9) I kD (mV I) dC ?_;refine SX.off (i:=10) I kD (gZ I I I dC) dC ?_;refine SX.off (i:=11) I kD (gZ I I I dC) dC ?_;refine SX.off (i:=12) I kD (gZ I I I dC) dC ?_)
    | (refine SB.offo (i:=13) I (gZ I I I dC) dC ⟨by assumption,(by exact .refl _)⟩ ?_;refine SX.off (i:=14) I kD (gZ I I I dC) dC ?_;refine SX.off (i:=15) I kD (gZ I I I dC) dC ?_;refine SX.u (i:=16) I kD (wT I I) dC ?_)
    | refine zd8 3 6 kD ?_ ?_
    | refine zd7 6 kD ?_
    | refine zd7 7 kD ?_
    | refine zd7 13 kD ?_
    | refine zd7 3 kD ?_
    | (refine SX.nil kD ?_;exact za9 _ ⟨I,I,I,I,I,(by rw[zf9 J];rfl),trivial⟩ rfl rfl f))
 rintro g3 a;try dsimp only at a ⊢
 have a5:=c6.trans a;refine iQ I (fun B=>?_) (fun B=>?_)
 ·have j:cI l e=32:=by
   unfold cI;rw[ho,a4,Bool.and_true,zg3 rfl,zg2];rintro ⟨h1,h2⟩;rw[zg1 h1,zf9 h2] at B;cases B
  rw[j];exact rZ<|lK (qV 4 an ae I I I)<|lU (za3 I buildZ92)<|oZ (sK 2 ae I I I I I sB)<|oZ (sK 1 bT I I I I I sB)<|aT I<|rE<|tR<|ST.retCCT 2 1 s (.inl I) results124 I I I an ae gt bT I I I I uR ⟨I,a5,_,_,_,_,I,P.mono a,fun h=>by cases h⟩
 rw[Bool.or_eq_false_iff,Bool.not_eq_false',zj8,decide_eq_false_iff_not] at B;obtain ⟨J,e9⟩:=B;have j:cI l e=0:=by
  unfold cI;rw[ho,a4,Bool.and_true,zg3 rfl,zg3 ⟨J,e9⟩]
 rw[j];have f7:fF l e=((((findC l e.other).getD aA).sides.filter fun x=>!decide (x.cell=e.cell))).map fun x=>(x.cell,-sgF ((findC l e.other).getD aA).sides e.cell * x.sign):=rfl;rw[f7];have K:=za5 d2 a;have f8:=P.mono a;generalize hS:((findC l e.other).getD aA).sides=S at *;refine kP<|tN<|rZ<|aT I<|sQ<|rZ<|aT I<|bK<|oP (ι:=Nat) (fun k=>[(2,pp b2 0),(3,pp b3 0),(4,pp b4 0),(5,pp b5 0),(7,pp b7 0),(9,vi<|sgF (S.take k) e.cell),(10,vi k)]) (fun _=>g3) (fun _=>pt b7 (bY #[vi yi,vi yd,.slice X S.length yc] 37)::pt b5 (bY #[.slice none 0 0,vb false] 92)::pt b4 (bY #[.slice none 0 0] 29)::pt b3 (.cells (edV e (.slice sp e.sides.length sc)<|.slice pq e.pairs.length pc) 58 (0,0))::pt b2 (bY #[.slice p l.length c] 29)::s)
  (fun k=>k≤S.length) (fun k=>S.length - k) 0 sB rfl rfl (zf8 _) ?_
 rintro k hk;try dsimp only at hk ⊢
 refine sQ<|sW I<|lU (fA ao I aH I)<|lK (qL (v:=.slice X S.length yc) bi I<|cO 0 I I)<|lU (eN a7 I)<|yL I<|tZ<|iP I (fun c0=>?_) (fun c0=>?_)
 ·have Y:k<S.length:=oM;have C:=za6 K oM;have Z:S[((k:Nat):Int).toNat]?=some S[k]:=List.getElem?_eq_getElem Y;have d:=Di Y e.cell;generalize S[k]=x at *;obtain ⟨xc,xs⟩:=x;dsimp only at d;refine kP<|tN<|sQ<|bK<|sQ<|dW [] [(0,2),(1,1),(2,2),(3,2),(4,2),(5,1),(6,2),(7,1),(8,2)] ze5 kR<|pU I (fA ao I aH I)<|pK I (qL (v:=.slice X S.length yc) bi I<|cO 0 I I)<|yM I<|pU I (iA a7 aR I I C oM sL)<|pU I (fC de I zT3 I C)<|pK I (aZ (e:=encSide) (o:=0) (u:=vi xc) iT3 I (za7 K) Z I)<|pU I (fA a6 I zT3 I)<|pK I (qL (v:=vi e.cell) iT3 I<|cO 3 I I)<|pU I (eQ I I)<|pN<|tN<|iP I (fun hx=>?_) (fun hx=>?_)
  ·rw[zg3 hx] at d;exact rG<|lU (fA ao I aH I)<|lK (qL (v:=.slice X S.length yc) bi I<|cO 0 I I)<|lM I<|lU (iA a7 aR I I C oM sL)<|lU (fC de I zT3 I C)<|lK (aZ (e:=encSide) (o:=1) (u:=vi xs) iT3 I (za7 K) Z I)<|lA I<|SL.nil<|bN<|tN<|rG<|lM I<|yD I<|lA I<|SL.nil<|ST.again (k+1) ⟨I,I,I,I,I,(by rw[d];rfl),rfl,trivial⟩ rfl rfl oM oM
  ·rw[zg2 hx] at d;exact kP<|bN<|tN<|rG<|lM I<|yD I<|lA I<|SL.nil<|ST.again (k+1) ⟨I,I,I,I,I,(by rw[d];rfl),rfl,trivial⟩ rfl rfl oM oM
 have c1:S.take k=S:=tL oM;rw[c1];have a9:=F4 S e.cell d1;generalize sgF S e.cell=sg at *;have d9:IntKind.i64.wrap (0 - sg) = -sg:=by rcases a9 with h | h | h <;> subst h <;> decide
 clear hk c0 c1;refine xI<|tX<|tX<|bX<|tN<|rZ<|aT I<|sQ<|rZ<|aT I<|bK<|zb6 193 3<|oP (ι:=Nat×PH×Value) (fun i=>[(2,pp b2 0),(3,pp b3 0),(4,pp b4 0),(5,pp b5 0),(7,pp b7 0),(9,vi sg),(11,i.2.2),(12,vi i.1)]) (fun i=>i.2.1) (fun i=>rowA fm 193 i.2.2 (((S.take i.1).filter fun x=>!decide (x.cell=e.cell)).map fun x=>(x.cell,-sg * x.sign))::pt b7 (bY #[vi yi,vi yd,.slice X S.length yc] 37)::pt b5 (bY #[.slice none 0 0,vb false] 92)::pt b4 (bY #[.slice none 0 0] 29)::pt b3 (.cells (edV e (.slice sp e.sides.length sc)<|.slice pq e.pairs.length pc) 58 (0,0))::pt b2 (bY #[.slice p l.length c] 29)::s)
  (fun i=>i.1≤S.length∧Le g3 i.2.1) (fun i=>S.length - i.1) (0,g3,.slice none 0 0) sB rfl rfl ⟨zf8 _,zb9 _⟩ ?_
 rintro ⟨k,g4,w⟩ ⟨hk,b⟩;dsimp only at hk b ⊢;refine sQ<|sW I<|lU (fA ao I aH I)<|lK (qL (v:=.slice X S.length yc) bi I<|cO 1 I I)<|lU (eN a7 I)<|yL I<|tZ<|iP I (fun c0=>?_) (fun c0=>?_)
 ·have Y:k<S.length:=oM;have b0:=za5 K b;have C:=za6 K oM;have Z:S[((k:Nat):Int).toNat]?=some S[k]:=List.getElem?_eq_getElem Y;have c7:=d1 _<|gM Y;have d:=DT Y e.cell;have i1:(((S.take k).filter fun x=>!decide (x.cell=e.cell)).map fun x=>(x.cell,-sg * x.sign)).length≤64:=by
   rw[ze8];have:=zc6 (fun x:aj=>!decide (x.cell=e.cell))<|S.take k;rw[ze6] at this;omega
  generalize S[k]=x at *;obtain ⟨xc,xs⟩:=x;dsimp only at d c7;have h0 : -9223372036854775808 ≤ -sg * xs ∧ -sg * xs≤9223372036854775807:=by rcases a9 with h | h | h <;> rcases c7 with h' | h' <;> subst h <;> subst h' <;> decide
  have h3 : -sg * xs=0 ∨ -sg * xs=1 ∨ -sg * xs = -1:=by rcases a9 with h | h | h <;> rcases c7 with h' | h' <;> subst h <;> subst h' <;> decide
  refine kP<|tN<|sQ<|bK<|sQ<|dW [] [(0,2),(1,1),(2,2),(3,2),(4,2),(5,1),(6,2),(7,1),(8,2)] ze5 kR<|pU I (fA ao I aH I)<|pK I (qL (v:=.slice X S.length yc) bi I<|cO 1 I I)<|yM I<|pU I (iA a7 aR I I C oM sL)<|pU I (fC de I zT3 I C)<|pK I (aZ (e:=encSide) (o:=0) (u:=vi xc) iT3 I (za7 b0) Z I)<|pU I (fA a6 I zT3 I)<|pK I (qL (v:=vi e.cell) iT3 I<|cO 4 I I)<|pU I (nQ I I)<|pN<|tN<|iP I (fun hx=>?_) (fun hx=>?_)
  ·rw[zg2 hx] at d;refine dW [18] [(0,2),(1,2),(2,1),(3,2),(4,2),(5,2),(6,1),(7,2),(8,2),(9,2),(10,1),(11,2),(12,2),(13,2),(14,1),(15,2),(16,0),(17,0),(18,0),(19,2)] ze5 kR<|yM I<|pU I (fA ao I aH I)<|pK I (qL (v:=.slice X S.length yc) bi I<|cO 1 I I)<|yM I<|pU I (iA a7 aR I I C oM sL)<|pU I (fC de I zT3 I C)<|pK I (aZ (e:=encSide) (o:=0) (u:=vi xc) iT3 I (za7 b0) Z I)<|yM I<|pU I (SU.eq (v':=vi<|-sg) (SU.neg I)<|ze4 vi d9)<|pU I (fA ao I aH I)<|pK I (qL (v:=.slice X S.length yc) bi I<|cO 1 I I)<|yM I<|pU I (iA a7 aR I I C oM sL)<|pU I (fC de I zT3 I C)<|pK I (aZ (e:=encSide) (o:=1) (u:=vi xs) iT3 I (za7 b0) Z I)<|pU I (SU.mul I I h0)<|SP.o I (SO.call call185 I<|eF E g4 _ xc (-sg * xs) h3) dC (.inr iR) ?_;rintro _ g5 _ ⟨rfl,rfl,A⟩;refine SP.o I (bS sty188 I I I (ab ⟨I,trivial⟩) dC) dC (.inr iR) ?_;rintro _ _ _ ⟨h9,rfl,rfl,rfl⟩;refine SP.o I (aP (e:=fm) 0 (xc,-sg * xs) sty188 I I I I I oM oM) dC (.inl dC) ?_;rintro w' _ _ ⟨rfl,rfl⟩;exact pU I (aS I)<|pN<|bN<|tN<|rG<|lM I<|yD I<|lA I<|SL.nil<|ST.again (k+1,g5,w') sB I (by dsimp only;rw[d,zg7];rfl) ⟨by dsimp only;omega,b.trans A⟩ (by dsimp only;omega)
  ·rw[zg3<|Decidable.not_not.1 hx] at d;exact kP<|bN<|tN<|rG<|lM I<|yD I<|lA I<|SL.nil<|ST.again (k+1,g4,w) sB I (by dsimp only;rw[d]) ⟨by dsimp only;omega,b⟩ (by dsimp only;omega)
 have c1:S.take k=S:=tL oM;rw[c1];have h4:=f8.mono b;have c2:((am l).map gr).length<1099511627776:=by rw[ze8];exact (bU N).1
 have i2:=gP N [e.cell,e.other];refine xI (tX<|tX<|bX<|tN<|fS fun g5 A c9=>?_);obtain ⟨wq,wd,rfl⟩:=zc3 c9;have d0:=h4.mono A;refine SC.cut (ι:=Nat×PH×Option Addr×Nat×Nat) (fun i=>[(2,pp b2 0),(3,pp b3 0),(4,pp b4 0),(5,pp b5 0),(13,pp i.1 0)]) (fun i=>i.2.1) (fun i=>pt i.1 (bY #[.slice i.2.2.1 i.2.2.2.1 i.2.2.2.2] 90)::pt b7 (bY #[vi yi,vi yd,.slice X S.length yc] 37)::pt b5 (bY #[.slice none 0 0,vb false] 92)::pt b4 (bY #[.slice none 0 0] 29)::pt b3 (.cells (edV e (.slice sp e.sides.length sc)<|.slice pq e.pairs.length pc) 58 (0,0))::pt b2 (bY #[.slice p l.length c] 29)::s)
  (fun i=>Le g5 i.2.1∧Ims i.2.1 (.slice i.2.2.1 i.2.2.2.1 i.2.2.2.2) ((((am l).map gr).map<|df e.cell<|((S.filter fun x=>!decide (x.cell=e.cell))).map fun x=>(x.cell,-sg * x.sign)).map<|df e.other [])) ?_ ?_
 ·refine SC.drawX [10] ze5 kR ?_;refine SX.q (i:=0) I kR (qV 4 an ae I I I) dC<|SX.u (i:=2) I kR (fA a6 I zT3 I) dC<|SX.q (i:=3) I kR (qL (v:=vi e.cell) iT3 I<|cO 3 I I) dC<|SX.u (i:=4) I kR (mV I) dC<|SX.u (i:=6) I kR (fA a6 I zT3 I) dC<|SX.q (i:=7) I kR (qL (v:=vi e.other) iT3 I<|cO 3 I I) dC ?_
  repeat' (first
   | (refine SB.o (i:=1) rfl (SO.call call182 rfl<|fG E g5 _ _ l d0 N) dC (.inr (by rintro _ g6 _ ⟨rfl,D,iv,rfl,T⟩;exact⟨by assumption,(by exact .cons _<|.refl _)⟩)) ?_;rintro _ g6 _ ⟨rfl,D,iv,rfl,T⟩;obtain ⟨q6,n6,d6,rfl⟩:=T.form)
   | (refine SB.o (i:=1) rfl (SO.call call182 rfl<|fG E g5 _ _ l d0 N) dC (.inr (by rintro _ g6 _ ⟨rfl,D,iv,rfl,T⟩;exact⟨by assumption,(by exact .refl _)⟩)) ?_;rintro _ g6 _ ⟨rfl,D,iv,rfl,T⟩;obtain ⟨q6,n6,d6,rfl⟩:=T.form)
   | (refine SB.o (i:=5) rfl (SO.call call186 rfl<|iM E g6 _ _ _ _ e.cell _ T c2<|Sl.mono c9 D) dC (.inr (by rintro _ g7 _ ⟨rfl,L,u7,rfl,F⟩;exact⟨by exact Le.trans io io,(by exact .cons _<|.refl _)⟩)) ?_;rintro _ g7 _ ⟨rfl,L,u7,rfl,F⟩;obtain ⟨q7,n7,d7,rfl⟩:=F.form;have U:=D.trans L)
   | (refine SB.o (i:=5) rfl (SO.call call186 rfl<|iM E g6 _ _ _ _ e.cell _ T c2<|Sl.mono c9 D) dC (.inr (by rintro _ g7 _ ⟨rfl,L,u7,rfl,F⟩;exact⟨by exact Le.trans io io,(by exact .refl _)⟩)) ?_;rintro _ g7 _ ⟨rfl,L,u7,rfl,F⟩;obtain ⟨q7,n7,d7,rfl⟩:=F.form;have U:=D.trans L)
   | (refine SB.o (i:=8) I (SO.call call186 I<|iM E g7 _ _ _ _ e.other [] F (by rw[ze8];exact c2) (zc1 _ _)) dC (.inr (by rintro _ g8 _ ⟨rfl,M,u8,rfl,m⟩;exact⟨by exact Le.trans io io,(by exact .cons _<|.refl _)⟩)) ?_;rintro _ g8 _ ⟨rfl,M,u8,rfl,m⟩;obtain ⟨q8,n8,d8,rfl⟩:=m.form;have t:=U.trans M)
   | (refine SB.o (i:=8) I (SO.call call186 I<|iM E g7 _ _ _ _ e.other [] F (by rw[ze8];exact c2) (zc1 _ _)) dC (.inr (by rintro _ g8 _ ⟨rfl,M,u8,rfl,m⟩;exact⟨by exact Le.trans io io,(by exact .refl _)⟩)) ?_;rintro _ g8 _ ⟨rfl,M,u8,rfl,m⟩;obtain ⟨q8,n8,d8,rfl⟩:=m.form;have t:=U.trans M)
   | (refine SB.o (i:=9) rfl (aL zl7) dC (.inr (by rintro _ _ _ ⟨b1,rfl,rfl,rfl⟩;exact⟨by exact zb9 _,(by exact .cons _<|.refl _)⟩)) ?_;rintro _ _ _ ⟨b1,rfl,rfl,rfl⟩)
   | (refine SB.o (i:=9) rfl (aL zl7) dC (.inr (by rintro _ _ _ ⟨b1,rfl,rfl,rfl⟩;exact⟨by assumption,(by exact .cons _<|.refl _)⟩)) ?_;rintro _ _ _ ⟨b1,rfl,rfl,rfl⟩)
   | (refine SB.on (i:=10) I (sK 0 p8 I I I I I sB) (.inl dC) ?_;rintro _ _ _ ⟨rfl,rfl⟩)
   | refine zd8 1 9 kD ?_ ?_
   | refine zd8 5 9 kD ?_ ?_
   | refine zd8 8 9 kD ?_ ?_
   | refine zd7 9 kD ?_
   | refine zd7 10 kD ?_
   | refine zd7 8 kD ?_
   | refine zd7 5 kD ?_
   | refine zd7 1 kD ?_
   | (refine SX.nil kD ?_;exact za9 (b1,g8,q8,n8,d8) sB I I ⟨t,m⟩))
 rintro ⟨b1,g8,q8,n8,d8⟩ ⟨t,m⟩;dsimp only at t m ⊢;refine sQ ?_;refine SC.drawX [9,10] ze5 kR ?_;refine SX.q (i:=0) I kR (qV 5 an ae I I I) dC<|SX.u (i:=1) I kR (fA a6 I zT3 I) dC<|SX.q (i:=2) I kR (qL (v:=vi e.cell) iT3 I<|cO 4 I I) dC<|SX.u (i:=3) I kR (fA a6 I zT3 I) dC<|SX.q (i:=4) I kR (qL (v:=vi e.other) iT3 I<|cO 4 I I) dC ?_
 repeat' (first
  | (refine SB.o (i:=5) rfl (bS sty32 rfl rfl rfl (ab sB) dC) dC (.inr (by rintro _ _ _ ⟨e0,rfl,rfl,rfl⟩;exact⟨by exact zb9 _,(by exact .cons _<|.refl _)⟩)) ?_;rintro _ _ _ ⟨e0,rfl,rfl,rfl⟩;refine SX.to (fun w hw=>At.litRow (e:=encInt) (l:=[e.cell,e.other]) (n:=1) hw I I dC) ?_;refine SX.freezeRow fun g9 c3 h5=>?_)
  | (refine SB.o (i:=6) rfl (SO.call call184 rfl<|kT E g9 _ _ _ l [e.cell,e.other] (d0.mono<|t.trans c3) N h5 dO) dC (.inr (by rintro _ _ _ ⟨rfl,h6,b6,rfl,V,rfl⟩;exact⟨by assumption,(by exact .cons _<|.refl _)⟩)) ?_;rintro _ _ _ ⟨rfl,h6,b6,rfl,V,rfl⟩;refine SX.freezeRow fun g10 b8 c5=>?_;obtain ⟨h7,d10,rfl⟩:=zc3 c5;have e1:ai g10 (.slice h7 b6.length d10) (cJ l [e.cell,e.other]):=⟨b6,c5,V.mono fun _ _=>ak.mono b8⟩;have W:=c3.trans b8)
  | (refine SB.o (i:=7) rfl (SQ.sof<|qV 0 isAgg90 p8 rfl rfl rfl) dC (.inr (by rintro _ _ _ ⟨rfl,rfl,rfl⟩;exact⟨by exact zb9 _,(by exact .refl _)⟩)) ?_;rintro _ _ _ ⟨rfl,rfl,rfl⟩;refine SX.u (i:=8) I kD (za3 I<|buildS92 _ _ _) dC ?_)
  | (refine SB.o (i:=7) rfl (SQ.sof<|qV 0 isAgg90 p8 rfl rfl rfl) dC (.inr (by rintro _ _ _ ⟨rfl,rfl,rfl⟩;exact⟨by assumption,(by exact .refl _)⟩)) ?_;rintro _ _ _ ⟨rfl,rfl,rfl⟩;refine SX.u (i:=8) I kD (za3 I<|buildS92 _ _ _) dC ?_)
  | (refine SB.ob (i:=7) I (SQ.sof<|qV 0 isAgg90 p8 I I I) dC kD ?_;rintro _ _ _ ⟨rfl,rfl,rfl⟩;refine SX.u (i:=8) I kD (za3 I<|buildS92 _ _ _) dC ?_)
  | (refine SB.on (i:=9) I (sK 3 ae I I I I I sB) (.inl dC) ?_;rintro _ _ _ ⟨rfl,rfl⟩)
  | (refine SB.on (i:=10) I (sK 2 bT I I I I I sB) (.inl dC) ?_;rintro _ _ _ ⟨rfl,rfl⟩;refine SX.u (i:=11) I kD (aS I) dC ?_)
  | refine zd8 5 7 kD ?_ ?_
  | refine zd8 6 7 kD ?_ ?_
  | refine zd8 7 9 kD ?_ ?_
  | refine zd7 9 kD ?_
  | refine zd7 10 kD ?_
  | refine zd7 7 kD ?_
  | refine zd7 6 kD ?_
  | refine zd7 5 kD ?_
  | (refine SX.nil kD ?_;refine tN ?_;refine rE ?_;exact ST.retCCT 3 2 s (.inl I) results124 I I I an ae gt bT I I I I uR ⟨I,a5.trans (b.trans (A.trans (t.trans W))),_,_,_,_,I,e1,fun _=>m.mono W⟩))
def br (l:List Cl)(e:Ed):Int:=match findC l e.cell with
 | none=>30
 | some c=>if c.dim≠1 then 21 else if e.new<1∨e.other<1∨e.new=e.other then 1 else if (findC l e.new).isSome||(findC l e.other).isSome then 54 else 0
def eJ (e:Ed)(l:List aj):List aj:=(l.filter fun x=>decide (x.cell=e.cell)).map fun x=>⟨e.other,x.sign⟩
theorem zT {e:Ed}{l:List aj}{k:Nat}(a:k<l.length):eJ e (l.take<|k+1)=if l[k].cell=e.cell then eJ e (l.take k)++[⟨e.other,l[k].sign⟩] else eJ e (l.take k):=by
 unfold eJ;rw[tS a,zh8,zg7];by_cases h:l[k].cell=e.cell
 ·rw[zg3 h];simp[h]
 ·rw[zg2 h];simp[h]
def bI (e:Ed)(a:Int)(y:Cl):Cl:=if y.id=e.cell then ⟨y.id,y.dim,[⟨a,-1⟩,⟨e.new,1⟩]⟩ else ⟨y.id,y.dim,y.sides++eJ e y.sides⟩
def dP (l:List Cl)(e:Ed):List Cl:=[⟨e.new,0,[]⟩,⟨e.other,1,[⟨e.new,-1⟩,⟨(kJ ((findC l e.cell).getD aA).sides true).cell,1⟩]⟩]++l.map (bI e (kJ ((findC l e.cell).getD aA).sides false).cell)
def dv (e:Ed):List Tm:=if e.other<e.cell then [(e.other,1),(e.cell,1)] else [(e.cell,1),(e.other,1)]
theorem tD (E:World)(g:PH)(s:Own)(v ev:Value)(l:List Cl)(e:Ed)(hv:ai g v l)(hf:aM l)(he:EdR g ev e)(r1:l.length≤100000)(l4:∀ c∈l,c.sides.length≤64)
  (b9:∀ c,findC l e.cell=some c→c.dim=1→∃ z0 z1,c.sides=[z0,z1]∧((z0.sign=1∧z1.sign = -1)∨(z0.sign = -1∧z1.sign=1))) :
  Ctr Tryz.prog E 122 #[.agg #[v],ev] g s (fun r g' s'=>s=s'∧Le g g'∧EI (br l e) (if br l e=0 then dP l e else l) (((am l).map gr).map<|df e.cell<|dv e) false r g'):=by
 obtain ⟨sv,pv,rfl,m1,m2⟩:=he;obtain ⟨sp,sc,rfl⟩:=za4 m1;obtain ⟨pq,pc,rfl⟩:=za4 m2;have e9:=hv;obtain ⟨p,c,rfl⟩:=hv.form;refine zb2 (args:=[.agg #[.slice p l.length c],.agg #[vi e.kind,vi e.cell,vi e.dim,vi e.new,vi e.other,.slice sp e.sides.length sc,.slice pq e.pairs.length pc]]) func122 I ntmps122 (bE I) ?_;cases G:findC l e.cell with
 | none =>
  have f:br l e=30:=by unfold br;rw[G]
  rw[f];refine rZ (bW (bO I) fun b2=>?_);refine bW (bO I) fun b3=>bW (aL zl3) fun b4=>bW (aL zl5) fun b5=>aT I<|rZ<|lK (qV 3 an ae I I I)<|lU (fA a6 I zT3 I)<|lK (qL iT3 I<|cO 2 I I)<|lW (SO.call call55 I<|bc E g _ _ l e.cell hv hf) ?_;rintro _ g1 _ ⟨rfl,a,⟨yi,yd,yp,yn,yc⟩,rfl,S⟩;rw[G];refine lM I (yX I<|yX I<|bW (aL zm2) fun b7=>?_);exact oZ (sK 0 ar I I I I I sB)<|aT I<|sQ<|bK<|sW I<|lU (SU.not I)<|aT I<|za2 I<|rZ<|lK (qV 4 an ae I I I)<|lU (za3 I buildZ92)<|oZ (sK 2 ae I I I I I sB)<|oZ (sK 1 bT I I I I I sB)<|aT I<|rE<|bR<|tR<|ST.retCCT 2 1 s (.inl I) results122 I I I an ae gt bT I I I I uR ⟨I,a,_,_,_,_,I,e9.mono a,fun h=>by cases h⟩
 | some c0 =>
 refine rZ (bW (bO I) fun b2=>?_);refine bW (bO I) fun b3=>bW (aL zl3) fun b4=>bW (aL zl5) fun b5=>aT I<|rZ<|lK (qV 3 an ae I I I)<|lU (fA a6 I zT3 I)<|lK (qL iT3 I<|cO 2 I I)<|lW (SO.call call55 I<|bc E g _ _ l e.cell hv hf) ?_;rintro _ g1 _ ⟨rfl,a,⟨yi,yd,yp,yn,yc⟩,rfl,S⟩;rw[G] at S ⊢;obtain ⟨m3,f7,c1⟩:=S;dsimp only[Option.getD] at m3 f7 c1;have m4:yn=c0.sides.length:=zc2 c1;subst m4;subst f7;have A:=e9.mono a;refine lM I (yX I<|yX I<|bW (aL zm2) fun b7=>?_);refine oZ (sK 0 ar I I I I I sB)<|aT I<|sQ<|bK<|sW I<|lU (SU.not I)<|aT I<|za1 I<|rZ<|lU (fA ao I zT3 I)<|lK (qL iT3 I<|cO 0 I I)<|lU (nQ I I)<|aT I<|iP I (fun hd=>?_) (fun hd=>?_)
 ·have f:br l e=21:=by unfold br;rw[G];exact zg3 hd
  rw[f];exact rZ<|lK (qV 4 an ae I I I)<|lU (za3 I buildZ92)<|oZ (sK 2 ae I I I I I sB)<|oZ (sK 1 bT I I I I I sB)<|aT I<|rE<|bR<|tR<|ST.retCCT 2 1 s (.inl I) results122 I I I an ae gt bT I I I I uR ⟨I,a,_,_,_,_,I,A,fun h=>by cases h⟩
 have n0:c0.dim=1:=Decidable.not_not.1 hd;have c2:(e.new<1∨e.other<1∨e.new=e.other)→br l e=1:=fun h=>by
  unfold br;rw[G];show (if c0.dim≠1 then (21:Int) else if e.new<1∨e.other<1∨e.new=e.other then 1 else _)=1;rw[zg2 hd,zg3 h]
 by_cases T:e.new<1
 ·rw[c2<|.inl T];exact rZ<|lU (fA a6 I zT3 I)<|lK (qL (v:=vi e.new) iT3 I<|cO 3 I I)<|lU (SU.eq (v':=vb true) (lS I I)<|ze4 vb<|zg1 T)<|lM I<|yA I<|yA I<|yA I<|yP I<|lM I<|yA I<|yA I<|yA I<|yA I<|yA I<|yP I<|aT I<|za2 I<|rZ<|lK (qV 4 an ae I I I)<|lU (za3 I buildZ92)<|oZ (sK 2 ae I I I I I sB)<|oZ (sK 1 bT I I I I I sB)<|aT I<|rE<|bR<|tR<|ST.retCCT 2 1 s (.inl I) results122 I I I an ae gt bT I I I I uR ⟨I,a,_,_,_,_,I,A,fun h=>by cases h⟩
 by_cases a1:e.other<1
 ·rw[c2<|.inr<|.inl a1];exact rZ<|lU (fA a6 I zT3 I)<|lK (qL (v:=vi e.new) iT3 I<|cO 3 I I)<|lU (SU.eq (v':=vb false) (lS I I)<|ze4 vb<|zf9 T)<|lM I<|lY I I I (fA a6 I zT3 I)<|SL.gq (gT I I I dC) (qL (v:=vi e.other) iT3 I<|cO 3 I I) dC<|lY I I I (SU.eq (v':=vb true) (lS I I)<|ze4 vb<|zg1 a1)<|yF I<|lM I<|yA I<|yA I<|yA I<|yA I<|yA I<|yP I<|aT I<|za2 I<|rZ<|lK (qV 4 an ae I I I)<|lU (za3 I buildZ92)<|oZ (sK 2 ae I I I I I sB)<|oZ (sK 1 bT I I I I I sB)<|aT I<|rE<|bR<|tR<|ST.retCCT 2 1 s (.inl I) results122 I I I an ae gt bT I I I I uR ⟨I,a,_,_,_,_,I,A,fun h=>by cases h⟩
 refine rZ<|lU (fA a6 I zT3 I)<|lK (qL (v:=vi e.new) iT3 I<|cO 3 I I)<|lU (SU.eq (v':=vb false) (lS I I)<|ze4 vb<|zf9 T)<|lM I<|lY I I I (fA a6 I zT3 I)<|SL.gq (gT I I I dC) (qL (v:=vi e.other) iT3 I<|cO 3 I I) dC<|lY I I I (SU.eq (v':=vb false) (lS I I)<|ze4 vb<|zf9 a1)<|yF I<|lM I<|lY I I I (fA a6 I zT3 I)<|SL.gq (gT I I I dC) (qL (v:=vi e.new) iT3 I<|cO 3 I I) dC<|lY I I I (fA a6 I zT3 I)<|SL.gq (gT I I I dC) (qL (v:=vi e.other) iT3 I<|cO 3 I I) dC<|lY I I I (eQ I I)<|yF I<|aT I<|iP I (fun c3=>?_) (fun c3=>?_)
 ·rw[c2<|.inr<|.inr c3];exact rZ<|lK (qV 4 an ae I I I)<|lU (za3 I buildZ92)<|oZ (sK 2 ae I I I I I sB)<|oZ (sK 1 bT I I I I I sB)<|aT I<|rE<|bR<|tR<|ST.retCCT 2 1 s (.inl I) results122 I I I an ae gt bT I I I I uR ⟨I,a,_,_,_,_,I,A,fun h=>by cases h⟩
 have f:br l e=if (findC l e.new).isSome||(findC l e.other).isSome then 54 else 0:=by
  unfold br;rw[G];show (if c0.dim≠1 then (21:Int) else if e.new<1∨e.other<1∨e.new=e.other then 1 else if (findC l e.new).isSome||(findC l e.other).isSome then 54 else 0)=_;rw[zg2 hd,zg2 (fun h=>h.elim T fun h=>h.elim a1 c3)]
 rw[f];cases f8:(findC l e.new).isSome with
 | true =>
  have e54:(if (true||(findC l e.other).isSome)=true then (54:Int) else 0)=54:=rfl;rw[e54];refine rZ<|lK (qV 4 an ae I I I)<|lU (fA a6 I zT3 I)<|lK (qL (v:=vi e.new) iT3 I<|cO 3 I I)<|lW (SO.call call181 I<|di E g1 _ _ l e.new A hf) ?_;rintro _ g2 _ ⟨rfl,rfl,m⟩;rw[f8];exact lM I<|yA I<|yA I<|yA I<|yA I<|yP I<|aT I<|za2 I<|rZ<|lK (qV 4 an ae I I I)<|lU (za3 I buildZ92)<|oZ (sK 2 ae I I I I I sB)<|oZ (sK 1 bT I I I I I sB)<|aT I<|rE<|bR<|tR<|ST.retCCT 2 1 s (.inl I) results122 I I I an ae gt bT I I I I uR ⟨I,a.trans m,_,_,_,_,I,A.mono m,fun h=>by cases h⟩
 | false =>
 rw[Bool.false_or];refine rZ<|lK (qV 4 an ae I I I)<|lU (fA a6 I zT3 I)<|lK (qL (v:=vi e.new) iT3 I<|cO 3 I I)<|lW (SO.call call181 I<|di E g1 _ _ l e.new A hf) ?_;rintro _ g2 _ ⟨rfl,rfl,m⟩;rw[f8];refine lM I<|SL.gq (gT I I I dC) (qV 4 an ae I I I) dC<|lY I I I (fA a6 I zT3 I)<|SL.gq (gT I I I dC) (qL (v:=vi e.other) iT3 I<|cO 3 I I) dC<|ze3 (gT I I I dC) (SO.call call181 I<|di E g2 _ _ l e.other (A.mono m) hf) dC ?_;rintro _ g3 _ ⟨rfl,rfl,U⟩;refine yF I<|aT I<|iQ I (fun c5=>?_) (fun c5=>?_)
 ·rw[zg3 c5];exact rZ<|lK (qV 4 an ae I I I)<|lU (za3 I buildZ92)<|oZ (sK 2 ae I I I I I sB)<|oZ (sK 1 bT I I I I I sB)<|aT I<|rE<|bR<|tR<|ST.retCCT 2 1 s (.inl I) results122 I I I an ae gt bT I I I I uR ⟨I,a.trans<|m.trans U,_,_,_,_,I,A.mono<|m.trans U,fun h=>by cases h⟩
 rw[zg2 (by rw[c5];exact Bool.false_ne_true)];have K:=m.trans U;have c6:=a.trans K;have h2:=A.mono K;have C:=za5 c1 K;obtain ⟨z0,z1,hz,n1⟩:=b9 c0 G n0;have h3:dP l e=[⟨e.new,0,[]⟩,⟨e.other,1,[⟨e.new,-1⟩,⟨(kJ c0.sides true).cell,1⟩]⟩]++l.map (bI e (kJ c0.sides false).cell):=by unfold dP;rw[G];rfl
 rw[zg3 rfl,h3];have r2:c0.sides.length=2:=by rw[hz];rfl
 have B:=za6 C oM;have c7:c0.sides[((0:Int)).toNat]?=some z0:=by rw[hz];rfl
 have h4:c0.sides[((1:Int)).toNat]?=some z1:=by rw[hz];rfl
 have M:(0<z0.sign→(kJ c0.sides true).cell=z0.cell∧(kJ c0.sides false).cell=z1.cell)∧(¬ 0<z0.sign→(kJ c0.sides true).cell=z1.cell∧(kJ c0.sides false).cell=z0.cell):=by
  rw[hz]
  rcases n1 with ⟨h0,h1⟩ | ⟨h0,h1⟩
  ·exact⟨fun _=>by simp[kJ,h0,h1],fun h=>absurd oM h⟩
  ·exact⟨fun h=>absurd h oM,fun _=>by simp[kJ,h0,h1]⟩
 generalize (kJ c0.sides true).cell=zb at *;generalize (kJ c0.sides false).cell=za at *;obtain ⟨h5,n2⟩:=z0;obtain ⟨h6,r3⟩:=z1;dsimp only at M;refine kP<|bN<|tN<|rZ<|lU (fA ao I aH I)<|lK (qL (v:=.slice yp c0.sides.length yc) bi I<|cO 0 I I)<|lU (iA a7 aR I I B oM sL)<|lU (fC de I zT3 I B)<|lK (aZ (e:=encSide) (o:=0) (u:=vi h5) iT3 I (za7 C) c7 I)<|aT I<|rZ<|lU (fA ao I aH I)<|lK (qL (v:=.slice yp c0.sides.length yc) bi I<|cO 0 I I)<|lU (iA a7 aR I I B oM sL)<|lU (fC de I zT3 I B)<|lK (aZ (e:=encSide) (o:=0) (u:=vi h6) iT3 I (za7 C) h4 I)<|aT I<|SC.cut (ι:=Unit) (fun _=>[(2,pp b2 0),(3,pp b3 0),(4,pp b4 0),(5,pp b5 0),(9,vi za),(10,vi zb)]) (fun _=>g3)
  (fun _=>pt b7 (bY #[vi yi,vi c0.dim,.slice yp c0.sides.length yc] 37)::pt b5 (bY #[.slice none 0 0,vb false] 92)::pt b4 (bY #[.slice none 0 0] 29)::pt b3 (.cells (edV e (.slice sp e.sides.length sc)<|.slice pq e.pairs.length pc) 58 (0,0))::pt b2 (bY #[.slice p l.length c] 29)::s) (fun _=>True) ?_ ?_
 ·refine rZ<|lU (fA ao I aH I)<|lK (qL (v:=.slice yp c0.sides.length yc) bi I<|cO 0 I I)<|lU (iA a7 aR I I B oM sL)<|lU (fC de I zT3 I B)<|lK (aZ (e:=encSide) (o:=1) (u:=vi n2) iT3 I (za7 C) c7 I)<|lU (gR I I)<|tZ<|iP I (fun c9=>?_) (fun c9=>?_)
  ·obtain ⟨k1,k2⟩:=M.1 c9;exact rZ<|lU (fA ao I aH I)<|lK (qL (v:=.slice yp c0.sides.length yc) bi I<|cO 0 I I)<|lU (iA a7 aR I I B oM sL)<|lU (fC de I zT3 I B)<|lK (aZ (e:=encSide) (o:=0) (u:=vi h6) iT3 I (za7 C) h4 I)<|aT I<|rG<|lU (fA ao I aH I)<|lK (qL (v:=.slice yp c0.sides.length yc) bi I<|cO 0 I I)<|lU (iA a7 aR I I B oM sL)<|lU (fC de I zT3 I B)<|lK (aZ (e:=encSide) (o:=0) (u:=vi h5) iT3 I (za7 C) c7 I)<|lA I<|SL.nil<|za9 () ⟨I,I,I,I,(by rw[k2];rfl),(by rw[k1];rfl),trivial⟩ rfl rfl trivial
  ·obtain ⟨k1,k2⟩:=M.2 c9;exact kP<|za9 () ⟨I,I,I,I,(by rw[k2];rfl),(by rw[k1];rfl),trivial⟩ rfl rfl trivial
 rintro _ -;try dsimp only
 refine rZ<|lU (fA a6 I zT3 I)<|lK (qL (v:=vi e.new) iT3 I<|cO 3 I I)<|lU (za3 I<|buildI37 _)<|lU (fA a6 I zT3 I)<|lK (qL (v:=vi e.other) iT3 I<|cO 3 I I)<|lU (fA a6 I zT3 I)<|lK (qL (v:=vi e.new) iT3 I<|cO 3 I I)<|lU (za3 I<|buildS80 _ _)<|lM I<|lU (za3 I<|buildS80 _ _)<|lW (bS sty35 I I I (ab sB) dC) ?_;rintro _ _ _ ⟨V,rfl,rfl,rfl⟩;refine zb5 fun g4 a9 n3=>?_;have n5:SlA encSide g4 (.slice (some ⟨V,0,none⟩) 2 2) [⟨e.new,-1⟩,⟨zb,1⟩]:=SlA.lit n3 rfl rfl;refine lU (za3 I<|buildF37 _ _ _ I)<|lW (bS sty27 I I I (ab sB) dC) ?_;rintro _ _ _ ⟨h7,rfl,rfl,rfl⟩;refine SL.to (fun w hw=>At.litRow (e:=encCell) (l:=[⟨e.new,0,⟨none,0,0⟩⟩,⟨e.other,1,⟨some ⟨V,0,none⟩,2,2⟩⟩]) (n:=1) hw I I dC) ?_;refine lU (za3 I<|build29 _ I) (bW (aL zl3) fun Q=>?_);refine oZ (sK 0 ae I I I I I sB)<|tZ<|sQ<|rZ<|aT I<|bK ?_;have n6:=h2.mono a9;obtain ⟨rs,h8,b0⟩:=n6;have r4:=b0.length;refine oP (ι:=Nat×PH×Option Addr×Nat×List Rc) (fun i=>[(2,pp b2 0),(3,pp b3 0),(4,pp b4 0),(5,pp b5 0),(9,vi za),(11,pp Q 0),(12,vi i.1)]) (fun i=>i.2.1)
  (fun i=>pt Q (bY #[.slice i.2.2.1 i.2.2.2.2.length i.2.2.2.1] 29)::rowA encCell 37 (.slice i.2.2.1 i.2.2.2.2.length i.2.2.2.1) i.2.2.2.2::pt b7 (bY #[vi yi,vi c0.dim,.slice yp c0.sides.length yc] 37)::pt b5 (bY #[.slice none 0 0,vb false] 92)::pt b4 (bY #[.slice none 0 0] 29)::pt b3 (.cells (edV e (.slice sp e.sides.length sc)<|.slice pq e.pairs.length pc) 58 (0,0))::pt b2 (bY #[.slice p l.length c] 29)::s)
  (fun i=>i.1≤l.length∧Le g4 i.2.1∧ax (ak i.2.1) (([⟨e.new,0,[]⟩,⟨e.other,1,[⟨e.new,-1⟩,⟨zb,1⟩]⟩]:List Cl)++(l.take i.1).map (bI e za)) i.2.2.2.2) (fun i=>l.length - i.1) (0,g4,some ⟨h7,0,none⟩,2,[⟨e.new,0,⟨none,0,0⟩⟩,⟨e.other,1,⟨some ⟨V,0,none⟩,2,2⟩⟩])
  sB rfl rfl ⟨zf8 _,zb9 _,by dsimp only;rw[List.take_zero];exact⟨⟨I,I,zc1 _ _⟩,⟨I,I,n5⟩,trivial⟩⟩ ?_
 rintro ⟨k,g5,q5,d5,acc⟩ ⟨hk,H,D⟩;dsimp only at hk H D ⊢;have n7:=D.length;simp only[ze7,zf1,zc5,ze8,ze6] at n7;refine sQ<|sW I<|lU (fA dA I cq I)<|lK (qL (v:=.slice p l.length c) eG I<|cO 6 I I)<|lU (eN aF I)<|yL I<|tZ<|iP I (fun n8=>?_) (fun n8=>?_)
 ·have d0:k<l.length:=oM;have h9:k<rs.length:=oM;have o1:=za6 h8 oM;have S:=ak.mono H<|b0.get (List.getElem?_eq_getElem d0)<|List.getElem?_eq_getElem h9;have o2:rs[((k:Nat):Int).toNat]?=some rs[k]:=List.getElem?_eq_getElem h9;have a2:=oC (bI e za) d0;have r5:=l4 _<|gM d0;generalize rs[k]=x at *;generalize l[k]=cx at *;obtain ⟨xi,xd,xp,xn,xc⟩:=x;obtain ⟨f1,f2,W⟩:=S;dsimp only at f1 f2 W;subst f1 f2;have p0:xn=cx.sides.length:=zc2 W;subst p0;refine kP (tN<|sQ<|bK<|rZ<|lU (fA dA I cq I)<|lK (qL (v:=.slice p l.length c) eG I<|cO 6 I I)<|lM I<|lU (iA aF ar I I o1 oM sL)<|lK (SQ.elemA dH ar I (za7<|za5 h8 H) o2)<|bW (aL zm2) fun i0=>?_);refine oZ (sK 0 ar I I I I I sB)<|tZ<|rZ<|lW (bS sty35 I I I (ab trivial) dC) ?_;rintro _ _ _ ⟨q3,rfl,rfl,rfl⟩;refine SL.drop (zj3 _ _)<|lU (fA ao I aH I)<|lK (qL (v:=.slice xp cx.sides.length xc) bi I<|cO 0 I I)<|lW (SO.appNewA (e:=encSide) sty35 I I W oM oM) ?_;rintro v121 _ _ ⟨rfl,rfl⟩;refine zd4 fun ⟨w0,b⟩=>?_;obtain ⟨q6,d6,rfl⟩:=ah (e:=encSide) (l:=cx.sides) (i:=0) b rfl;clear b w0;refine lU (fA ao rfl aH rfl)<|oZ (SO.store1 1 aH rfl rfl rfl rfl (bE rfl)<|by rfl) ?_;refine tZ<|rZ<|lU (fA ao I aH I)<|lK (qL (v:=.slice q6 cx.sides.length d6) bi I<|cO 1 I I)<|lU (eN a7 I)<|aT I<|sQ<|rZ<|aT I<|bK ?_;have i1:eJ e (cx.sides.take 0)=[]:=rfl;refine oP (ι:=Nat×Option Addr×Nat) (fun i=>[(2,pp b2 0),(3,pp b3 0),(4,pp b4 0),(5,pp b5 0),(9,vi za),(11,pp Q 0),(12,vi k),(13,pp i0 0),(14,vi cx.sides.length),(15,vi i.1)]) (fun _=>g5)
   (fun i=>rowA encSide 80 (.slice i.2.1 (cx.sides++eJ e (cx.sides.take i.1)).length i.2.2) (cx.sides++eJ e (cx.sides.take i.1))::pt i0 (bY #[vi cx.id,vi cx.dim,.slice i.2.1 (cx.sides++eJ e (cx.sides.take i.1)).length i.2.2] 37)::pt Q (bY #[.slice q5 acc.length d5] 29)::rowA encCell 37 (.slice q5 acc.length d5) acc::pt b7 (bY #[vi yi,vi c0.dim,.slice yp c0.sides.length yc] 37)::pt b5 (bY #[.slice none 0 0,vb false] 92)::pt b4 (bY #[.slice none 0 0] 29)::pt b3 (.cells (edV e (.slice sp e.sides.length sc)<|.slice pq e.pairs.length pc) 58 (0,0))::pt b2 (bY #[.slice p l.length c] 29)::s)
   (fun i=>i.1≤cx.sides.length) (fun i=>cx.sides.length - i.1) (0,q6,d6) sB rfl (by dsimp only;rw[i1,zc7];rfl) (zf8 _) ?_
  rintro ⟨j,q7,d7⟩ hj;dsimp only at hj ⊢;refine sQ<|sW I<|lM I<|yL I<|tZ<|iP I (fun i2=>?_) (fun i2=>?_)
  ·have d1:j<cx.sides.length:=oM;have q:=zT (e:=e) d1;have q4:(eJ e<|cx.sides.take j).length≤64:=by
    unfold eJ;rw[ze8];have:=zc6 (fun x:aj=>decide (x.cell=e.cell))<|cx.sides.take j;rw[ze6] at this;omega
   have i3:(cx.sides++eJ e (cx.sides.take j))[((j:Nat):Int).toNat]?=some cx.sides[j]:=by
    show (cx.sides++eJ e (cx.sides.take j))[j]?=_;rw[zh4 d1];exact List.getElem?_eq_getElem d1
   generalize cx.sides[j]=z at *;obtain ⟨zc,zs⟩:=z;dsimp only at q;refine SC.facts fun ⟨w0,b⟩=>?_;obtain ⟨bb,cc,j0⟩:=bw (i:=0) b rfl (by rw[ze7];omega);clear b w0;have R:based (.slice q7 (cx.sides++eJ e (cx.sides.take j)).length d7)=true:=by rw[j0];rfl
   clear j0;have p1:(cx.sides++eJ e (cx.sides.take j)).length=cx.sides.length+(eJ e<|cx.sides.take j).length:=ze7;refine kP<|tN<|sQ<|bK<|sQ<|dW [] [(0,2),(1,1),(2,2),(3,2),(4,2),(5,1),(6,2),(7,1),(8,2)] ze5 kR<|pU I (fA ao I aH I)<|pK I (qL (v:=.slice q7 (cx.sides++eJ e (cx.sides.take j)).length d7) bi I<|cO 1 I I)<|yM I<|pU I (iA a7 aR I I R oM sL)<|pU I (fC de I zT3 I R)<|pK I (aZ (e:=encSide) (o:=0) (u:=vi zc) iT3 I (zb7 0 I) i3 I)<|pU I (fA a6 I zT3 I)<|pK I (qL (v:=vi e.cell) iT3 I<|cO 7 I I)<|pU I (eQ I I)<|pN<|tN<|iP I (fun d2=>?_) (fun d2=>?_)
   ·rw[zg3 d2] at q;have a3:cx.sides++eJ e (cx.sides.take<|j+1)=(cx.sides++eJ e (cx.sides.take j))++[⟨e.other,zs⟩]:=by rw[q,zh1]
    generalize cx.sides++eJ e (cx.sides.take j)=L at *;refine dW [12,14] [(0,2),(1,1),(2,2),(3,1),(4,2),(5,1),(6,2),(7,2),(8,2),(9,1),(10,2),(11,0),(12,0),(13,2),(14,0)] ze5 kR<|pU I (fA ao I aH I)<|pK I (qL (v:=.slice q7 L.length d7) bi I<|cO 1 I I)<|pU I (fA a6 I zT3 I)<|pK I (qL (v:=vi e.other) iT3 I<|cO 7 I I)<|pU I (fA ao I aH I)<|pK I (qL (v:=.slice q7 L.length d7) bi I<|cO 1 I I)<|yM I<|pU I (iA a7 aR I I R oM sL)<|pU I (fC de I zT3 I R)<|pK I (aZ (e:=encSide) (o:=1) (u:=vi zs) iT3 I (zb7 0 I) i3 I)<|pU I (za3 I<|buildS80 _ _)<|SP.o I (bS sty35 I I I (ab ⟨I,trivial⟩) dC) dC (.inr iR) ?_;rintro _ _ _ ⟨r0,rfl,rfl,rfl⟩;refine SP.o I (aP (e:=encSide) 0 ⟨e.other,zs⟩ sty35 I I I I I oM oM) dC (.inl dC) ?_;rintro v152 _ _ ⟨rfl,rfl⟩;refine zd3 fun ⟨w0,b⟩=>?_;obtain ⟨q8,d8,rfl⟩:=ah (e:=encSide) (l:=L++[(⟨e.other,zs⟩:aj)]) (i:=0) b rfl;clear b w0;refine pU rfl (fA ao rfl aH rfl)<|SP.on rfl (SO.store1 1 aH rfl rfl rfl rfl (bE rfl)<|by rfl) (.inl dC) ?_;rintro _ _ _ ⟨rfl,rfl⟩;refine pN<|bN<|tN<|rG<|lM I<|yD I<|lA I<|SL.nil ?_;exact ST.again (j+1,q8,d8) sB I (by dsimp only;rw[a3];rfl) (by dsimp only;omega) (by dsimp only;omega)
   ·rw[zg2 d2] at q;exact kP<|bN<|tN<|rG<|lM I<|yD I<|lA I<|SL.nil<|ST.again (j+1,q7,d7) sB I (by dsimp only;rw[q]) (by dsimp only;omega) (by dsimp only;omega)
  ·have p2:cx.sides.take j=cx.sides:=tL oM;rw[p2];refine xI (tX<|tX<|bX<|tN<|sQ<|sQ<|fS fun g6 t d3=>?_);refine rG<|lU (fA ao I zT3 I)<|lK (qL (v:=vi cx.id) iT3 I<|cO 0 I I)<|lU (fA a6 I zT3 I)<|lK (qL (v:=vi e.cell) iT3 I<|cO 6 I I)<|yE I<|tZ ?_;have X:=H.trans t;refine iP I (fun d4=>?_) (fun d4=>?_)
   ·have e0:bI e za cx=⟨cx.id,cx.dim,[⟨za,-1⟩,⟨e.new,1⟩]⟩:=zg3 d4;rw[e0] at a2;refine rG (lM I (lU (za3 I (buildS80 _ _)) (lU (fA a6 I zT3 I) (lK (qL (v:=vi e.new) iT3 I (cO 6 I I)) (lU (za3 I (buildS80 _ _)) (lW (bS sty35 I I I (ab sB) dC) ?_))))));rintro _ _ _ ⟨O,rfl,rfl,rfl⟩;refine zb5 fun g7 P R=>?_;have p3:SlA encSide g7 (.slice (some ⟨O,0,none⟩) 2 2) [⟨za,-1⟩,⟨e.new,1⟩]:=SlA.lit R rfl rfl;refine lU (fA ao rfl aH rfl) (oZ (SO.store1 0 aH rfl rfl rfl rfl (bE rfl) (by rfl)) ?_);refine tZ (rG (lU (fA dA I cq I) (lK (qL (v:=.slice q5 acc.length d5) eG I (cO 1 I I)) (lK (qV 0 dH ar I I I) (lW (bS sty27 I I I (ab sB) dC) ?_)))));rintro _ _ _ ⟨j1,rfl,rfl,rfl⟩;refine lW (aP (e:=encCell) 2 ⟨cx.id,cx.dim,⟨some ⟨O,0,none⟩,2,2⟩⟩ sty27 I I I I I oM oM) ?_;rintro v170 _ _ ⟨rfl,rfl⟩;refine zd4 fun ⟨w0,b⟩=>?_;obtain ⟨q9,d9,rfl⟩:=ah (e:=encCell) (l:=acc++[(⟨cx.id,cx.dim,⟨some ⟨O,0,none⟩,2,2⟩⟩:Rc)]) (i:=2) b rfl;clear b w0;refine lU (fA dA I cq I) (oZ (sK 1 cq I I I I I sB) ?_);refine SL.nil (bN (tN (rG (lM I (yD I (lA I (SL.nil (dR (.cons _ (.refl _)) ?_))))))));exact ST.again (k+1,g7,q9,d9,acc++[(⟨cx.id,cx.dim,⟨some ⟨O,0,none⟩,2,2⟩⟩:Rc)]) sB I I ⟨by dsimp only;omega,X.trans P,by
     dsimp only;rw[a2,← zh1];exact (D.mono fun _ _=>ak.mono (t.trans P)).append ⟨⟨I,I,p3⟩,trivial⟩⟩ (by dsimp only;omega)
   ·have e0:bI e za cx=⟨cx.id,cx.dim,cx.sides++eJ e cx.sides⟩:=zg2 d4;rw[e0] at a2;refine kP (tN (rG (lU (fA dA I cq I) (lK (qL (v:=.slice q5 acc.length d5) eG I (cO 1 I I)) (lK (qV 0 dH ar I I I) (lW (bS sty27 I I I (ab sB) dC) ?_))))));rintro _ _ _ ⟨j1,rfl,rfl,rfl⟩;refine lW (aP (e:=encCell) 2 ⟨cx.id,cx.dim,⟨q7,(cx.sides++eJ e cx.sides).length,d7⟩⟩ sty27 I I I I I oM oM) ?_;rintro v170 _ _ ⟨rfl,rfl⟩;refine zd4 fun ⟨w0,b⟩=>?_;obtain ⟨q9,d9,rfl⟩:=ah (e:=encCell) (l:=acc++[(⟨cx.id,cx.dim,⟨q7,(cx.sides++eJ e cx.sides).length,d7⟩⟩:Rc)]) (i:=2) b rfl;clear b w0;refine lU (fA dA I cq I) (oZ (sK 1 cq I I I I I sB) ?_);refine SL.nil (bN (tN (rG (lM I (yD I (lA I (SL.nil (dR (.cons _ (.refl _)) ?_))))))));exact ST.again (k+1,g6,q9,d9,acc++[(⟨cx.id,cx.dim,⟨q7,(cx.sides++eJ e cx.sides).length,d7⟩⟩:Rc)]) sB I I ⟨by dsimp only;omega,X,by
     dsimp only;rw[a2,← zh1];exact (D.mono fun _ _=>ak.mono t).append ⟨⟨I,I,d3⟩,trivial⟩⟩ (by dsimp only;omega)
 ·have p5:l.take k=l:=tL oM;rw[p5] at D;have Y:=a9.trans H;have p6:=h2.mono Y;have p7:((am l).map gr).length<1099511627776:=by rw[ze8];exact (bU hf).1
  refine xI (tX<|tX<|bX<|tN<|sQ<|cP (zk3 _ _ _)<|fS fun g6 t d3=>?_);have p9:ai g6 (.slice q5 acc.length d5) _:=⟨acc,d3,D.mono fun _ _=>ak.mono t⟩;refine dW [] [(0,2),(1,1),(3,2),(4,1),(2,0),(5,0),(6,0),(7,2)] ze5 kR<|pU I (fA a6 I zT3 I)<|pK I (qL (v:=vi e.cell) iT3 I<|cO 4 I I)<|pU I (fA a6 I zT3 I)<|pK I (qL (v:=vi e.other) iT3 I<|cO 4 I I)<|SP.o I (SO.call call185 I<|eF E g6 _ e.cell 1<|.inr<|.inl I) dC (.inr iR) ?_;rintro _ g7 _ ⟨rfl,rfl,P⟩;refine SP.o rfl (SO.call call185 rfl<|eF E g7 _ e.other 1<|.inr<|.inl rfl) dC (.inr (by rintro _ g8 _ ⟨rfl,rfl,b1⟩;exact⟨by exact Le.trans io io,(by exact .refl _)⟩)) ?_;rintro _ g8 _ ⟨rfl,rfl,b1⟩;have e1:=P.trans b1;refine SP.o I (bS sty188 I I I (ab sB) dC) dC (.inr iR) ?_;rintro _ _ _ ⟨b6,rfl,rfl,rfl⟩;refine SP.freeze fun g9 j2 q0=>?_;have Z:=e1.trans j2;have q1:SlA fm g9 (.slice (some ⟨b6,0,none⟩) 2 2) [(e.cell,1),(e.other,1)]:=SlA.lit q0 rfl rfl;refine pU I (aS I)<|pN<|tN ?_;refine SC.cut (ι:=PH×Option Addr×Nat×Nat) (fun i=>[(2,pp b2 0),(3,pp b3 0),(4,pp b4 0),(5,pp b5 0),(11,pp Q 0),(16,.slice i.2.1 i.2.2.1 i.2.2.2)]) (fun i=>i.1)
   (fun _=>pt Q (bY #[.slice q5 acc.length d5] 29)::pt b7 (bY #[vi yi,vi c0.dim,.slice yp c0.sides.length yc] 37)::pt b5 (bY #[.slice none 0 0,vb false] 92)::pt b4 (bY #[.slice none 0 0] 29)::pt b3 (.cells (edV e (.slice sp e.sides.length sc)<|.slice pq e.pairs.length pc) 58 (0,0))::pt b2 (bY #[.slice p l.length c] 29)::s)
   (fun i=>Le g6 i.1∧SlA fm i.1 (.slice i.2.1 i.2.2.1 i.2.2.2) (dv e)) ?_ ?_
  ·refine rZ<|lU (fA a6 I zT3 I)<|lK (qL (v:=vi e.other) iT3 I<|cO 4 I I)<|lU (fA a6 I zT3 I)<|lK (qL (v:=vi e.cell) iT3 I<|cO 4 I I)<|yL I<|tZ<|iP I (fun e2=>?_) (fun e2=>?_)
   ·have e4:dv e=[(e.other,1),(e.cell,1)]:=zg3 e2;rw[e4];refine dW [] [(0,2),(1,1),(3,2),(4,1),(2,0),(5,0),(6,0),(7,2)] ze5 kR<|pU I (fA a6 I zT3 I)<|pK I (qL (v:=vi e.other) iT3 I<|cO 4 I I)<|pU I (fA a6 I zT3 I)<|pK I (qL (v:=vi e.cell) iT3 I<|cO 4 I I)<|SP.o I (SO.call call185 I<|eF E g9 _ e.other 1<|.inr<|.inl I) dC (.inr iR) ?_;rintro _ g10 _ ⟨rfl,rfl,d⟩;refine SP.o rfl (SO.call call185 rfl<|eF E g10 _ e.cell 1<|.inr<|.inl rfl) dC (.inr (by rintro _ g11 _ ⟨rfl,rfl,y⟩;exact⟨by exact Le.trans io io,(by exact .refl _)⟩)) ?_;rintro _ g11 _ ⟨rfl,rfl,y⟩;have a4:=d.trans y;refine SP.o I (bS sty188 I I I (ab sB) dC) dC (.inr iR) ?_;rintro _ _ _ ⟨b8,rfl,rfl,rfl⟩;refine SP.freeze fun g12 F l0=>?_;have a5:=a4.trans F;have l1:SlA fm g12 (.slice (some ⟨b8,0,none⟩) 2 2) [(e.other,1),(e.cell,1)]:=SlA.lit l0 rfl rfl;refine pU I (aS I)<|pN ?_;exact za9 (g12,some ⟨b8,0,none⟩,2,2) sB I I ⟨Z.trans a5,l1⟩
   ·have e4:dv e=[(e.cell,1),(e.other,1)]:=zg2 e2;rw[e4];exact kP<|za9 (g9,some ⟨b6,0,none⟩,2,2) sB I I ⟨Z,q1⟩
  rintro ⟨g10,r6,n10,d10⟩ ⟨d,a0⟩;dsimp only at d a0 ⊢;have l2:=p6.mono<|t.trans d;refine sQ<|dW [8,9] [(0,1),(1,1),(3,2),(4,1),(5,2),(2,0),(6,0),(7,2),(8,0),(9,0),(10,2)] ze5 kR<|pK I (qV 0 an ae I I I)<|pK I (qV 5 an ae I I I)<|pU I (fA a6 I zT3 I)<|pK I (qL (v:=vi e.cell) iT3 I<|cO 4 I I)<|yM I<|SP.o I (SO.call call182 I<|fG E g10 _ _ l l2 hf) dC (.inr iR) ?_;rintro _ g11 _ ⟨rfl,y,iv,rfl,l3⟩;obtain ⟨r7,n11,d11,rfl⟩:=l3.form;refine SP.o rfl (SO.call call186 rfl<|iM E g11 _ _ _ _ e.cell _ l3 p7<|za5 a0 y) dC (.inr (by rintro _ g12 _ ⟨rfl,F,q2,rfl,N⟩;exact⟨by exact Le.trans io io,(by exact .refl _)⟩)) ?_;rintro _ g12 _ ⟨rfl,F,q2,rfl,N⟩;obtain ⟨r8,n12,d12,rfl⟩:=N.form;have J:=y.trans F;refine pU I (za3 I<|buildS92 _ _ _)<|SP.on I (sK 3 ae I I I I I sB) (.inl dC) ?_;rintro _ _ _ ⟨rfl,rfl⟩;refine SP.on I (sK 2 bT I I I I I sB) (.inl dC) ?_;rintro _ _ _ ⟨rfl,rfl⟩;refine pU I (aS I)<|pN<|tN<|rE ?_;exact ST.retCCT 3 2 s (.inl I) results122 I I I an ae gt bT I I I I uR ⟨I,c6.trans<|Y.trans<|t.trans<|d.trans J,_,_,_,_,I,p9.mono<|d.trans J,fun _=>N⟩
theorem Gm {ps:List Pr}{k:Int}{j:Nat}(b:j<ps.length)(h:ps[j].2=k)(hn:∀ i (a:i<j),(ps[i]'oM).2≠k):byF ps k=some ps[j].1:=by
 have c:ps.find? (fun p=>decide (p.2=k))=some ps[j]:=List.find?_eq_some_iff_getElem.2 ⟨by simpa using h,j,b,rfl,fun i a=>by simpa using hn i a⟩;unfold byF;rw[c];rfl
theorem Gl {ps:List Pr}{k:Int}(hn:∀ p∈ps,p.2≠k):byF ps k=none:=by
 unfold byF;rw[List.find?_eq_none.2 fun p hp=>by simpa using hn p hp];rfl
theorem gv (E:World)(g:PH)(s:Own)(v pv:Value)(l:List aj)(ps:List Pr)(J:SlA encSide g v l)(hl:l.length<1099511627776)(hp:SlA ei g pv ps)(T:ps.length<1099511627776) :
  Ctr Tryz.prog E 188 #[v,pv] g s (fun r g' s'=>s=s'∧Le g g'∧SlA encSide g' r (l.map<|kH<|byF ps)):=by
 obtain ⟨p,c,rfl⟩:=za4 J;obtain ⟨q,d,rfl⟩:=za4 hp;refine zb2 (args:=[.slice p l.length c,.slice q ps.length d]) func188 I ntmps188 (bE I)<|rZ (aT I<|rZ<|lU (za3 I<|buildE37)<|bW (aL zm2) fun H=>?_);refine oZ (sK 0 ar I I I I I sB)<|tZ<|sQ<|rZ<|aT I<|bK<|zb6 80 2<|oP (ι:=Nat×Value) (fun i=>[(0,.slice p l.length c),(1,.slice q ps.length d),(5,pp H 0),(6,vi i.1)]) (fun _=>g) (fun i=>rowA encSide 80 i.2 ((l.take i.1).map<|kH<|byF ps)::pt H (bY #[vi 0,vi 0,i.2] 37)::s)
  (fun i=>i.1≤l.length) (fun i=>l.length - i.1) (0,.slice none 0 0) sB rfl rfl (zf8 _) ?_
 rintro ⟨k,w⟩ U;dsimp only at U ⊢;refine sQ<|sW I<|lM I<|lU (eN a7 I)<|yL I<|tZ<|iP I (fun K=>?_) (fun K=>?_)
 ·have A:k<l.length:=oM;have L:=za6 J oM;have M:l[((k:Nat):Int).toNat]?=some l[k]:=List.getElem?_eq_getElem A;have m:(l.take<|k+1).map (kH<|byF ps)=(l.take k).map (kH<|byF ps)++[kH (byF ps) l[k]]:=by rw[tS A,zg7];rfl
  have V:((l.take k).map<|kH<|byF ps).length=k:=by rw[ze8,ze6];omega
  generalize l[k]=x at *;obtain ⟨a,xs⟩:=x;refine kP (tN<|sQ<|bK<|sW I<|lM I<|lU (iA a7 aR I I L oM sL)<|lK (SQ.elemA iU aR I (za7 J) M)<|bW (aL zm1) fun S=>?_);refine oZ (sK 0 aR I I I I I sB)<|tZ<|sQ<|rZ<|aT I<|bK<|oP (ι:=Nat) (fun j=>[(0,.slice p l.length c),(1,.slice q ps.length d),(5,pp H 0),(6,vi k),(7,pp S 0),(8,vi j)]) (fun _=>g) (fun _=>pt S (bY #[vi a,vi xs] 80)::rowA encSide 80 w ((l.take k).map<|kH<|byF ps)::pt H (bY #[vi 0,vi 0,w] 37)::s)
   (fun j=>j≤ps.length∧∀ i (y:i<j) (hl:i<ps.length),ps[i].2≠a) (fun j=>ps.length - j) 0 sB rfl rfl ⟨zf8 _,fun i y=>absurd y oM⟩ ?_
  rintro j ⟨W,n⟩;try dsimp only at W n ⊢
  refine sQ<|sW I<|lM I<|lU (eN mG I)<|yL I<|tZ<|iP I (fun B=>?_) (fun B=>?_)
  ·have C:j<ps.length:=oM;have t:=za6 hp oM;have D:ps[((j:Nat):Int).toNat]?=some ps[j]:=List.getElem?_eq_getElem C;have F:=fun h=>Gm (ps:=ps) (k:=a) C h (fun i y=>n i y oM);have b:ps[j].2≠a→∀ i (y:i<j+1) (hl:i<ps.length),ps[i].2≠a:=fun h i y hl=>by
    by_cases e:i=j
    ·subst e;exact h
    ·exact n i oM hl
   generalize ps[j]=z at *;obtain ⟨z1,z2⟩:=z;dsimp only at F b;refine kP<|tN<|sQ<|bK<|sQ<|dW [] [(0,2),(1,1),(2,2),(3,2),(4,2),(5,2),(6,1),(7,2)] ze5 kR<|pU I (fA de I zT3 I)<|pK I (qL (v:=vi a) iT3 I<|cO 0 I I)<|yM I<|yM I<|pU I (iA mG p4 I I t oM sL)<|pU I (SU.indexAddrC qx zT3 I t I dC dC)<|pK I (aZ (e:=ei) (o:=1) (u:=vi z2) iT3 I (za7 hp) D I)<|pU I (eQ I I)<|pN<|tN<|iP I (fun N=>?_) (fun N=>?_)
   ·have hr:kH (byF ps) ⟨a,xs⟩=⟨z1,xs⟩:=by unfold kH;rw[F N.symm];rfl
    rw[hr] at m;refine sW rfl<|lM rfl<|lU (iA mG p4 rfl rfl t oM sL)<|lU (SU.indexAddrC qx zT3 rfl t rfl dC dC)<|lK (aZ (e:=ei) (o:=0) (u:=vi z1) iT3 rfl (za7 hp) D rfl)<|lU (fA de rfl zT3 rfl)<|oZ (SO.store1 0 zT3 rfl rfl rfl rfl (bE rfl)<|by rfl) ?_;refine tZ<|xI<|ST.blockO dC<|tX<|tX<|bX<|tN<|rG<|lU (fA ao I aH I)<|lK (qL (v:=w) bi I<|cO 2 I I)<|lK (qV 0 iU aR I I I)<|lW (bS sty35 I I I (ab sB) dC) ?_;rintro _ _ _ ⟨O,rfl,rfl,rfl⟩;refine lW (aP (e:=encSide) 1 ⟨z1,xs⟩ sty35 I I I I I oM oM) ?_;rintro w' _ _ ⟨rfl,rfl⟩;refine zd4 fun ⟨P,f⟩=>?_;obtain ⟨X,Y,rfl⟩:=ah (e:=encSide) (l:=(l.take k).map (kH<|byF ps)++[(⟨z1,xs⟩:aj)]) (i:=1) f rfl;clear f P;refine lU (fA ao rfl aH rfl)<|oZ (SO.store1 2 aH rfl rfl rfl rfl (bE rfl)<|by rfl) ?_;refine SL.nil<|bN<|tN<|rG<|lM I<|yD I<|lA I<|SL.nil<|dR (.cons _<|.refl _) ?_;exact ST.again (k+1,_) sB I (by dsimp only;rw[m];rfl) (by dsimp only;omega) (by dsimp only;omega)
   ·exact kP<|bN<|tN<|rG<|lM I<|yD I<|lA I<|SL.nil<|ST.again (j+1) sB I I ⟨oM,b fun h=>N h.symm⟩ oM
  ·have hr:kH (byF ps) ⟨a,xs⟩=⟨a,xs⟩:=by
    unfold kH;rw[Gl fun z hz=>?_]
    ·rfl
    ·obtain ⟨i,y,rfl⟩:=zc8 hz;exact n i oM y
   rw[hr] at m;refine xI<|tX<|tX<|bX<|tN<|rG<|lU (fA ao I aH I)<|lK (qL (v:=w) bi I<|cO 2 I I)<|lK (qV 0 iU aR I I I)<|lW (bS sty35 I I I (ab sB) dC) ?_;rintro _ _ _ ⟨O,rfl,rfl,rfl⟩;refine lW (aP (e:=encSide) 1 ⟨a,xs⟩ sty35 I I I I I oM oM) ?_;rintro w' _ _ ⟨rfl,rfl⟩;refine zd4 fun ⟨P,f⟩=>?_;obtain ⟨X,Y,rfl⟩:=ah (e:=encSide) (l:=(l.take k).map (kH<|byF ps)++[(⟨a,xs⟩:aj)]) (i:=1) f rfl;clear f P;refine lU (fA ao rfl aH rfl)<|oZ (SO.store1 2 aH rfl rfl rfl rfl (bE rfl)<|by rfl) ?_;refine SL.nil<|bN<|tN<|rG<|lM I<|yD I<|lA I<|SL.nil<|dR (.cons _<|.refl _) ?_;exact ST.again (k+1,_) sB I (by dsimp only;rw[m];rfl) (by dsimp only;omega) (by dsimp only;omega)
 ·have Q:l.take k=l:=tL oM;rw[Q];refine xI (tX<|tX<|bX<|tN<|sQ<|fS fun g2 G R=>?_);exact rG<|lU (fA ao I aH I)<|lK (qL (v:=w) bi I<|cO 0 I I)<|aT I<|rE<|dR (s':=s) uR<|za8 (.inl I) results188 I ⟨I,G,R⟩
theorem rH (E:World)(g:PH)(s:Own)(v:Value)(l:List aj)(x:aj)(d:SlA encSide g v l)(hl:l.length<1099511627776) :
  Ctr Tryz.prog E 212 #[v,.agg #[vi x.cell,vi x.sign]] g s (fun r g' s'=>r=vi ((l.countP fun y=>decide (y=x)):Nat)∧g=g'∧s=s'):=by
 obtain ⟨p,c,rfl⟩:=za4 d;refine zb2 (args:=[.slice p l.length c,.agg #[vi x.cell,vi x.sign]]) func212 I ntmps212 (bE I)<|rZ (bW (bO I) fun n=>?_);refine aT I<|rZ<|aT I<|sQ<|rZ<|aT I<|bK<|oP (ι:=Nat) (fun k=>[(0,.slice p l.length c),(3,pp n 0),(5,vi (((l.take k).countP fun y=>decide (y=x)):Nat)),(6,vi k)]) (fun _=>g) (fun _=>pt n (bY #[vi x.cell,vi x.sign] 80)::s)
  (fun k=>k≤l.length) (fun k=>l.length - k) 0 sB rfl rfl (zf8 _) ?_
 rintro k o;try dsimp only at o ⊢
 refine sQ<|sW I<|lM I<|lU (eN a7 I)<|yL I<|tZ<|iP I (fun e=>?_) (fun e=>?_)
 ·have b:k<l.length:=oM;have f:=za6 d oM;have i:l[((k:Nat):Int).toNat]?=some l[k]:=List.getElem?_eq_getElem b;have a:(l.take<|k+1).countP (fun y=>decide (y=x))=(l.take k).countP (fun y=>decide (y=x))+(if l[k]=x then 1 else 0):=by
   rw[tS b,List.countP_append];congr 1;by_cases h:l[k]=x <;> simp[h]
  have q:(l.take k).countP (fun y=>decide (y=x))≤k:=zk9 List.countP_le_length (by rw[ze6];omega);generalize l[k]=y at *;obtain ⟨yc,t⟩:=y;refine kP<|tN<|sQ<|bK<|sQ<|dW [] [(0,2),(1,2),(2,2),(3,1),(4,1),(5,2)] ze5 kR<|yM I<|yM I<|pU I (iA a7 aR I I f oM sL)<|pK I (SQ.elemA iU aR I (za7 d) i)<|pK I (qV 0 iU aR I I I)<|pU I (SU.eqlSide ⟨yc,t⟩ x I I)<|pN<|tN<|iP I (fun j=>?_) (fun j=>?_)
  ·rw[zg3 j] at a;exact rG<|lM I<|yD I<|lA I<|SL.nil<|bN<|tN<|rG<|lM I<|yD I<|lA I<|SL.nil<|ST.again (k+1) ⟨I,I,(by rw[a];rfl),rfl,trivial⟩ rfl rfl oM oM
  ·rw[zg2 j] at a;exact kP<|bN<|tN<|rG<|lM I<|yD I<|lA I<|SL.nil<|ST.again (k+1) ⟨I,I,(by rw[a];rfl),rfl,trivial⟩ rfl rfl oM oM
 ·have m:l.take k=l:=tL oM;rw[m];exact xI<|tX<|tX<|bX<|tN<|sW I<|aT I<|rE<|dR (s':=s) uR<|za8 (.inl I) results212 I ⟨I,I,I⟩
theorem np:∀ (a b:List aj),(∀ x∈a,(a.countP fun y=>decide (y=x))≤(b.countP fun y=>decide (y=x)))→∃ r,b.Perm (a++r)
 | [],b,_=>⟨b,List.Perm.refl b⟩
 | x::a,b,h=>by
  have f:=h x dO;rw[List.countP_cons] at f;have g:x∈b:=by
   have i:0<b.countP fun y=>decide (y=x):=by simp at f;omega
   obtain ⟨y,c,j⟩:=List.countP_pos_iff.1 i;rw[← zg5 j];exact c
  obtain ⟨s1,s2,rfl⟩:=List.append_of_mem g;obtain ⟨r,hr⟩:=np a (s1++s2) fun y c=>by
   have d:=h y (by simp[c]);rw[List.countP_cons,List.countP_append,List.countP_cons] at d;rw[List.countP_append];by_cases e:x=y
   ·subst e;simp at d ⊢;omega
   ·simp[e] at d ⊢;omega
  exact⟨r,List.perm_middle.trans (by simpa using hr.cons x)⟩
theorem tG {a b:List aj}(hl:a.length=b.length)(h:∀ x∈a,(a.countP fun y=>decide (y=x))=(b.countP fun y=>decide (y=x))):a.Perm b:=by
 obtain ⟨r,hr⟩:=np a b fun x c=>Nat.le_of_eq<|h x c;have d:=hr.length_eq;rw[ze7] at d;have e:r=[]:=zf6 oM;subst e;rw[zc7] at hr;exact hr.symm
theorem kL (E:World)(g:PH)(s:Own)(v u:Value)(l m:List aj)(n:SlA encSide g v l)(H:SlA encSide g u m)(hl:l.length<1099511627776)(hm:m.length<1099511627776) :
  Ctr Tryz.prog E 187 #[v,u] g s (fun r g' s'=>r=vb (decide (lH l=lH m))∧g=g'∧s=s'):=by
 obtain ⟨p,c,rfl⟩:=za4 n;obtain ⟨q,d,rfl⟩:=za4 H;have a:lH l=lH m↔l.Perm m:=⟨fun h=>(iL l).symm.trans<|h ▸ iL m,fun h=>Ao (xO l) (xO m)<|(iL l).trans<|h.trans (iL m).symm⟩;refine zb2 (args:=[.slice p l.length c,.slice q m.length d]) func187 I ntmps187 (bE I)<|rZ<|aT I<|sQ<|sW I<|lU (eN a7 I)<|lM I<|lU (eN a7 I)<|lU (nQ I I)<|tZ<|iP I (fun t=>?_) (fun t=>?_)
 ·exact rZ<|aT I<|rE<|tR<|za8 (.inl I) results187 I ⟨by have:¬ lH l=lH m:=fun e=>t (by rw[(a.1 e).length_eq]);simp[this],I,I⟩
 ·refine kP<|tN<|sQ<|rZ<|aT I<|bK ?_;have w:l.length=m.length:=oM;refine oP (ι:=Nat) (fun k=>[(0,.slice p l.length c),(1,.slice q m.length d),(5,vi k)]) (fun _=>g) (fun _=>s) (fun k=>k≤l.length∧∀ j (i:j<k) (hl:j<l.length),(l.countP fun y=>decide (y=l[j]))=(m.countP fun y=>decide (y=l[j]))) (fun k=>l.length - k) 0
   sB rfl rfl ⟨zf8 _,fun j i=>absurd i oM⟩ ?_
  rintro k ⟨L,b⟩;refine sQ<|sW I<|lM I<|lU (eN a7 I)<|yL I<|tZ<|iP I (fun D=>?_) (fun D=>?_)
  ·have F:k<l.length:=oM;have z:=za6 n oM;have A:l[((k:Nat):Int).toNat]?=some l[k]:=List.getElem?_eq_getElem F;have f:(l.countP fun y=>decide (y=l[k]))=(m.countP fun y=>decide (y=l[k]))→∀ j (i:j<k+1) (hl:j<l.length),(l.countP fun y=>decide (y=l[j]))=(m.countP fun y=>decide (y=l[j])):=fun h j i hl=>by
    by_cases e:j=k
    ·subst e;exact h
    ·exact b j oM hl
   have B:(l.countP fun y=>decide (y=l[k]))≠(m.countP fun y=>decide (y=l[k]))→¬ lH l=lH m:=fun h e=>h<|(a.1 e).countP_eq _;generalize l[k]=x at *;obtain ⟨J,xs⟩:=x;refine kP<|tN<|sQ<|bK<|sQ<|dW [] [(0,2),(1,2),(2,2),(3,2),(4,1),(6,2),(7,2),(8,2),(9,2),(10,1),(5,0),(11,0),(12,2)] ze5 kR<|yM I<|yM I<|yM I<|pU I (iA a7 aR I I z oM sL)<|pK I (SQ.elemA iU aR I (za7 n) A)<|yM I<|yM I<|yM I<|pU I (iA a7 aR I I z oM sL)<|pK I (SQ.elemA iU aR I (za7 n) A)<|SP.o I (SO.call call212 I<|rH E g _ _ l ⟨J,xs⟩ n hl) dC (.inr iR) ?_;rintro _ _ _ ⟨rfl,rfl,rfl⟩;refine SP.o I (SO.call call212 I<|rH E g _ _ m ⟨J,xs⟩ H hm) dC (.inr iR) ?_;rintro _ _ _ ⟨rfl,rfl,rfl⟩;refine pU I (nQ I I)<|pN<|tN<|iP I (fun hd=>?_) (fun hd=>?_)
   ·have G:=B oM;exact rZ<|aT I<|rE<|bR<|tR<|tR<|bR<|tR<|za8 (.inl I) results187 I ⟨by simp[G],I,I⟩
   ·exact kP<|bN<|tN<|rG<|lM I<|yD I<|lA I<|SL.nil<|ST.again (k+1) sB I I ⟨oM,f oM⟩ oM
  ·have C:lH l=lH m:=a.2 (tG w fun x K=>by
    obtain ⟨j,i,rfl⟩:=zc8 K;exact b j oM i)
   exact xI<|tX<|tX<|bX<|tN<|rZ<|aT I<|rE<|za8 (.inl I) results187 I ⟨by simp[C],I,I⟩
end Go.Proofs.YtdepcjnaieflmaaGreatDoor
