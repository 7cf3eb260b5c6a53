/- 11 -/
import Derived.Test.YtackilpikhkijaaGreatDoorSd10
import Derived.Shelf.SlSortCmp.NoneTotal
set_option linter.unusedSimpArgs false
set_option linter.unusedVariables false
namespace Go.Proofs.YtackilpikhkijaaGreatDoor
open _root_.Go.Proofs.Tryz _root_.Go.Proofs.YtackilpikhkijaaGreatDoor.Tryz
open Go Go.Sy Go.Pl Go.Proofs
set_option maxRecDepth 100000
set_option maxHeartbeats 1000000
structure Ed where
 kind:Int
 cell:Int
 dim:Int
 new:Int
 other:Int
 sides:List Side
 pairs:List Pr
def EdR (g:PH)(v:Value)(e:Ed):Prop:=∃ sv pv,v = .agg #[vi e.kind,vi e.cell,vi e.dim,vi e.new,vi e.other,sv,pv]∧SlA encSide g sv e.sides∧SlA dJ g pv e.pairs
theorem EdR.mono {g g':PH}{v:Value}{e:Ed}(h:EdR g v e)(hl:Le g g'):EdR g' v e:=by
 obtain ⟨sv,pv,h1,h2,h3⟩:=h;exact⟨sv,pv,h1,za5 h2 hl,za5 h3 hl⟩
abbrev edP (bx:Nat)(u:Value)(mb ms:Nat)(bk:Bool):Ent:=pt bx (.cells #[u,.map<|some mb,.map<|some ms,vb bk] 129 (0,0))
theorem Tryz.build129 (u:Value)(h:u.cells = #[u])(x y:Option Nat)(w:World):(Instr.build 129 #[(0,.agg #[u]),(1,.map x),(2,.map y)]).run Tryz.prog w = .ok (.agg #[u,.map x,.map y,vb false]) w:=by
 have h2:∀ x,(Value.map x).cells = #[.map x]:=fun _=>rfl;have h3:(Value.agg #[u]).cells = #[u]:=rfl;simp[Instr.build,Instr.fill,h2,h3];rfl
theorem wL {R:Cl→Rc→Prop}(hR:∀ c r,R c r→r.id=c.id){tl:List Cl}{rs:List Rc}(h:aA R tl rs)(k:Int):∃ r,(dS (rs.map ak) k).getD (.agg #[vi 0,vi 0,.slice none 0 0])=rcv r∧(dS (rs.map ak) k).isSome=(aB tl k).isSome:=by
 rcases fw hR h k with ⟨h1,h2⟩ | ⟨c,r,h1,h2,h3⟩
 ·exact⟨rU,by rw[h2]; rfl,by unfold aB; rw[h1,h2]; rfl⟩
 ·exact⟨r,by rw[h2]; rfl,by unfold aB; rw[h1,h2]; rfl⟩
theorem ta (E:World)(g:PH)(s:Own)(v:Value)(l:List Side)(hv:SlA encSide g v l)(hn:l.length<1099511627776) :
  Ctr Tryz.prog E 83 #[v] g s (fun r g' s'=>g=g'∧s'=rowA encSide 55 r l::s):=by
 obtain ⟨p,c,rfl⟩:=za4 hv;refine zb2 (args:=[.slice p l.length c]) func83 I ntmps83 (bE I)<|rZ<|aT I<|sQ<|sW I<|lU (SU.eqlNil aM I I)<|tZ<|iQ I (fun hp=>?_) (fun hp=>?_)
 ·refine rZ<|aT I<|rE<|tR ?_;have hl:l=[]:=by
   cases l with
   | nil=>rfl
   | cons x r =>
    have hb:=za6 hv (by simp);cases p with
    | none=>simp[based] at hb
    | some q=>simp at hp
  subst hl;exact ST.nilRow 55 2<|za8 (.inl I) results83 I ⟨I,I⟩
 ·refine kP<|tN<|rZ<|lW (bS sty32 I I I (ae trivial) dC) ?_;rintro _ _ _ ⟨b5,rfl,rfl,rfl⟩;refine SL.emptyRow 55 2 (some ⟨b5,0,none⟩)<|lM I<|lW (SO.appendE (m:=l.length) 0 l.length (l.flatMap encSide.enc) sty32 I I I I I (Sl.rd hv) (encSide.length l) (encSide.ones l) oM (by simp) oM oM) ?_;rintro r7 _ _ ⟨rfl,rfl⟩;exact aT I<|rE<|dR (s':=rowA encSide 55 r7 l::s) (.cons_cons _<|.cons _<|.refl _)<|za8 (.inl I) results83 I ⟨I,I⟩
theorem z8 (E:World)(g:PH)(s:Own)(v:Value)(l:List Cl)(hv:ao g v l)(hf:bo l)(hnd:((aa l).map Cl.id).Nodup) :
  Ctr Tryz.prog E 47 #[.agg #[v]] g s (fun r g' s'=>Le g g'∧∃ bx u mb ms rs,r=pp bx 0∧ao g' u (aa l)∧aA fZ (aa l) rs∧s'=edP bx u mb ms false::mp mb (rs.map ak)::mp ms []::(dM (aa l) rs++s)):=by
 have hfc:=bJ hf;refine zb2 (args:=[.agg #[v]]) func47 I ntmps47 (bE I)<|rZ (bW (bO I) fun b1=>?_);refine aT I<|rZ<|lK (qV 0 aw ah I I I)<|lW (cL call55 I<|jN E g _ v l hv hf) ?_;rintro _ g1 _ ⟨rfl,hle1,u,rfl,hc⟩;have hcc:=hc;obtain ⟨rs,hrs,hall⟩:=hc;obtain ⟨q,d,rfl⟩:=za4 hrs;refine lW (SO.mkMap) ?_;rintro _ _ _ ⟨b8,rfl,rfl,rfl⟩;refine lW (SO.mkMap) ?_;rintro _ _ _ ⟨b9,rfl,rfl,rfl⟩;refine lU (za3 I<|build129 _ I _ _) (bW (bO I) fun b11=>?_);refine aT I<|sQ<|sW I<|lU (nC I)<|lU (fA dh I ah I)<|lU (fA bM I bt I)<|lK (qL de I<|cO 0 I I)<|lU (eN aI I)<|lM I<|tZ<|bK ?_;generalize aa l=A at *;have hrl:=hall.length;have hAl:=hfc.1;refine oP (ι:=Nat×List Rc) (fun i=>[(3,pp b11 0),(16,.slice q rs.length d),(17,vi rs.length),(18,vi i.1)]) (fun _=>g1)
  (fun i=>edP b11 (.slice q rs.length d) b8 b9 false::mp b9 []::mp b8 (i.2.map ak)::pt b1 (.cells #[v] 29 (0,0))::(dM (A.take i.1) i.2++s))
  (fun i=>i.1≤rs.length∧aA fZ (A.take i.1) i.2) (fun i=>rs.length - i.1) (0,[])
  sB rfl rfl ⟨zf9 _,by simp[aA]⟩ ?_
 rintro ⟨k,acc⟩ ⟨hk,hacc⟩;dsimp only at hk hacc ⊢;have hal:=hacc.length;refine rZ<|yL I<|tZ<|sQ<|iP I (fun hlt=>?_) (fun hlt=>?_)
 ·have hkr:k<rs.length:=oM;have hkl:k<A.length:=oM;have hb1:=za6 hrs oM;have hcr:=hall.get (gE hkl)<|gE hkr;have hgx:rs[((k:Nat):Int).toNat]?=some rs[k]:=gE hkr;have htk:A.take (k+1)=A.take k++[A[k]]:=tS hkl;have hxl:=hfc.2 _<|gM hkl;have hnew:∀ x∈acc,x.id≠A[k].id:=fun x hx=>by
   obtain ⟨i,hi,rfl⟩:=zc8 hx;have hi2:i<(A.take k).length:=oM;have hi3:i<k:=by rw[ze7] at hi2; omega
   have h1:=(hacc.get (gE hi2)<|gE hi).1;rw[h1,List.getElem_take];intro e;have h2:=zd1.1 (List.nodup_iff_pairwise_ne.1 hnd) i k (by rw[ze9]; omega) (by rw[ze9]; omega) hi3;simp only[List.getElem_map] at h2;exact h2 e
  generalize rs[k]=x at *;generalize A[k]=cx at *;obtain ⟨xi,xd,xp,xn,xc⟩:=x;obtain ⟨e1,e2,hxsl⟩:=hcr;dsimp only at e1 e2 hxsl;have hxn:xn=cx.sides.length:=zc2 hxsl;subst hxn e1 e2;refine kP<|tN<|sQ<|bK<|rZ<|lU (iA aI au I I hb1 oM (show (k:Int)<((rs.length:Nat):Int) by omega)) ?_;refine lK (eA dn au I (za7 hrs) hgx) (bW (aL zl8) fun b5=>?_);refine oZ (sK 0 au I I I I I sB) ?_;refine tZ<|rZ<|lU (fA aq I aJ I)<|lK (qL (v:=.slice xp cx.sides.length xc) aX I<|cO 0 I I)<|lW (cL call83 I<|ta E g1 _ _ cx.sides hxsl hxl) ?_;rintro v24 _ _ ⟨rfl,rfl⟩;refine zd4 fun ⟨w0,hw0⟩=>?_;obtain ⟨q2,d2,rfl⟩:=ag (e:=encSide) (l:=cx.sides) (i:=0) hw0 rfl;clear hw0 w0;refine lU (fA aq rfl aJ rfl)<|oZ (SO.store1 1 aJ rfl rfl rfl rfl (bE rfl)<|by rfl) ?_;refine tZ ?_;refine dW [7] [(0,2),(1,2),(2,2),(3,1),(4,2),(5,1),(6,1),(7,0)] ze6 kR ?_;refine yM I<|pU I (nC I)<|pU I (fA dh I ef I)<|pK I (qL ek I<|cO 2 I I)<|pU I (fA aq I zT3 I)<|pK I (qL iT3 I<|cO 1 I I)<|pK I (qV 1 dn au I I I)<|SP.on I (SO.mapUpdate 4 mty104 I I I I) (.inl dC) ?_;rintro _ _ _ ⟨rfl,rfl⟩;refine pN<|bN<|tN<|rG<|yD I<|lM I<|nL ?_;refine ST.to (fun w hw=>?_) (g':=g1) (s':=edP b11 (.slice q rs.length d) b8 b9 false::mp b9 []::mp b8 ((acc++[(⟨cx.id,cx.dim,⟨q2,cx.sides.length,d2⟩⟩:Rc)]).map ak)::pt b1 (.cells #[v] 29 (0,0))::(dM (A.take<|k+1) (acc++[(⟨cx.id,cx.dim,⟨q2,cx.sides.length,d2⟩⟩:Rc)])++s)) ?_
  ·rw[htk,kf cx _ hal];have hput:eR (acc.map ak) cx.id (rcv ⟨cx.id,cx.dim,⟨q2,cx.sides.length,d2⟩⟩)=(acc++[(⟨cx.id,cx.dim,⟨q2,cx.sides.length,d2⟩⟩:Rc)]).map ak:=by
    rw[← uK hnew];exact iI ⟨cx.id,cx.dim,⟨q2,cx.sides.length,d2⟩⟩ acc
   rw[← hput];have h1:=(hw.sublist (s':=qi cx ⟨cx.id,cx.dim,⟨q2,cx.sides.length,d2⟩⟩::(edP b11 (.slice q rs.length d) b8 b9 false::mp b9 []::mp b8 (eR (acc.map ak) cx.id<|rcv ⟨cx.id,cx.dim,⟨q2,cx.sides.length,d2⟩⟩)::pt b1 (.cells #[v] 29 (0,0))::dM (A.take k) acc)++s)<|.cons_cons _<|.cons _<|.refl _);have h2:=h1.perm List.perm_middle.symm;simpa using h2
  exact gA (k+1,_) sB I I ⟨by dsimp only; omega,by
   dsimp only;rw[htk];exact hacc.append ⟨⟨I,I,I⟩,trivial⟩⟩ (by dsimp only; omega)
 ·have hkk:A.take k=A:=tL oM;rw[hkk] at hacc ⊢;refine xI<|tX<|tX<|bX<|tN<|sW I<|aT I<|rE ?_;refine ST.to (g':=g1) (s':=edP b11 (.slice q rs.length d) b8 b9 false::mp b8 (acc.map ak)::mp b9 []::(dM A acc++s)) (fun w hw=>(hw.perm<|List.Perm.cons _<|zk4 _ _ _).sublist<|.cons_cons _<|.cons_cons _<|.cons_cons _<|.cons _<|.refl _) ?_;exact za8 (.inl I) results47 I ⟨hle1,b11,_,b8,b9,acc,I,hcc,hacc,I⟩
theorem bV (E:World)(g:PH)(s:Own)(bx mb ms:Nat)(u:Value)(bk:Bool)(k:Int)(R:Cl→Rc→Prop)(hR:∀ c r,R c r→r.id=c.id)(B:List Cl)(rs:List Rc)(hall:aA R B rs)(i j:Nat)(hi:s[i]?=some (edP bx u mb ms bk))(hj:s[j]?=some (mp mb<|rs.map ak)) :
  Ctr Tryz.prog E 121 #[pp bx 0,vi k] g s (fun r g' s'=>r=vb (aB B k).isSome∧g=g'∧s=s'):=by
 obtain ⟨x,hx1,hx2⟩:=wL hR hall k;refine zb2 (args:=[pp bx 0,vi k]) func121 I ntmps121 (bE I)<|rZ<|aT I<|sW I<|lU (nC I)<|lU (fA dh I ef I)<|lK (qL (v:=.map<|some mb) ek I<|cO i hi I)<|lM I<|lK (SQ.eq (v':=.tuple #[rcv x,vb (aB B k).isSome]) (SQ.lookupOk mty104 I I<|cH.own j hj)<|by rw[hx1,hx2]) ?_;refine lM I (yX I<|yX I<|bW (aL zl8) fun b5=>?_);refine oZ (sK 0 au I I I I I sB) ?_;refine aT I<|sW I<|aT I<|rE<|dR (s':=s) uR ?_;exact za8 (.inl I) results121 I ⟨I,I,I⟩
theorem ur (E:World)(g:PH)(s:Own)(bx mb ms:Nat)(u v:Value)(bk:Bool)(e:Ed)(B:List Cl)(rs:List Rc)(hall:aA (ar g) B rs)(i j:Nat)(hi:s[i]?=some (edP bx u mb ms bk))(hj:s[j]?=some (mp mb<|rs.map ak))(he:EdR g v e)(hes:e.sides.length<1099511627776) :
  Ctr Tryz.prog E 78 #[pp bx 0,v] g s (fun r g' s'=>Le g g'∧((r=vi 54∧(aB B e.cell).isSome=true∧s=s')∨(r=vi 0∧(aB B e.cell).isSome=false∧∃ rs',aA (ar g') (em B ⟨e.cell,e.dim,e.sides⟩) rs'∧s'=s.set j (mp mb<|rs'.map ak)))):=by
 obtain ⟨sv,pv,rfl,hsv,hpv⟩:=he;obtain ⟨sp,sc,rfl⟩:=za4 hsv;refine zb2 (args:=[pp bx 0,.agg #[vi e.kind,vi e.cell,vi e.dim,vi e.new,vi e.other,.slice sp e.sides.length sc,pv]]) func78 I ntmps78 (bE I)<|rZ (bW (bO I) fun b3=>?_);refine aT I<|sQ<|sW I<|lU (fA aU I zT3 I)<|lK (qL iT3 I<|cO 0 I I)<|lW (cL call121 I<|bV E g _ bx mb ms u bk e.cell _ (fun _ _ h=>h.1) B rs hall (i+1) (j+1) hi hj) ?_;rintro _ _ _ ⟨rfl,rfl,rfl⟩;refine tZ<|iQ I (fun hp=>?_) (fun hp=>?_)
 ·exact rZ<|aT I<|rE<|tR<|dR (s':=s) uR<|za8 (.inl I) results78 I ⟨zb9 _,.inl ⟨I,hp,I⟩⟩
 ·refine kP<|tN<|sQ<|dW [14] [(0,2),(1,2),(2,2),(3,1),(4,2),(5,1),(6,2),(7,1),(8,2),(9,1),(10,2),(11,1),(12,0),(13,2),(14,0)] ze6 kR<|yM I<|pU I (nC I)<|pU I (fA dh I ef I)<|pK I (qL (v:=.map<|some mb) ek I<|cO (i+1) hi I)<|pU I (fA aU I zT3 I)<|pK I (qL iT3 I<|cO 0 I I)<|pU I (fA aU I zT3 I)<|pK I (qL iT3 I<|cO 0 I I)<|pU I (fA aU I zT3 I)<|pK I (qL iT3 I<|cO 0 I I)<|pU I (fA aU I aJ I)<|pK I (qL (v:=.slice sp e.sides.length sc) aX I<|cO 0 I I)<|SP.o I (cL call83 I<|ta E g _ _ e.sides hsv hes) dC (.inr iR) ?_;rintro v21 _ _ ⟨rfl,rfl⟩;refine zd7 fun g2 hle2 hs2=>?_;obtain ⟨q2,d2,rfl⟩:=zc3 hs2;refine pU I (za3 I<|buildF53 _ _ _ I)<|SP.on I (SO.mapUpdate (j+1) mty104 I I I hj) (.inl dC) ?_;rintro _ _ _ ⟨rfl,rfl⟩;refine pN<|tN<|rZ<|aT I<|rE<|dR (s':=s.set j<|mp mb<|eR (rs.map ak) e.cell<|rcv ⟨e.cell,e.dim,⟨q2,e.sides.length,d2⟩⟩) (.cons _<|.refl _)<|za8 (.inl I) results78 I ⟨hle2,.inr ⟨I,hp,iw rs ⟨e.cell,e.dim,⟨q2,e.sides.length,d2⟩⟩,jr (fun _ _ h=>h.1) ⟨I,I,hs2⟩ (hall.mono fun _ _=>ar.mono hle2),?_⟩⟩;rw[← iI]
theorem tK (E:World)(g:PH)(s:Own)(bx mb ms:Nat)(u v:Value)(bk:Bool)(e:Ed)(A B:List Cl)(rs:List Rc)(hu:ao g u A)(hf:bo A)(hall:aA (ar g) B rs)(i j:Nat)(hi:s[i]?=some (edP bx u mb ms bk))(hj:s[j]?=some (mp mb<|rs.map ak))(hij:j≠i)(he:EdR g v e) :
  Ctr Tryz.prog E 79 #[pp bx 0,v] g s (fun r g' s'=>Le g g'∧((r=vi 30∧(aB B e.cell).isSome=false∧s=s')∨(r=vi 31∧(aB B e.cell).isSome=true∧0<(aj A e.cell).length∧s=s')∨(r=vi 0∧(aB B e.cell).isSome=true∧aj A e.cell=[]∧s'=(s.set j<|mp mb<|(mW rs e.cell).map ak).set i (edP bx u mb ms true)))):=by
 obtain ⟨sv,pv,rfl,hsv,hpv⟩:=he;obtain ⟨p,c,rfl⟩:=hu.form;refine zb2 (args:=[pp bx 0,.agg #[vi e.kind,vi e.cell,vi e.dim,vi e.new,vi e.other,sv,pv]]) func79 I ntmps79 (bE I)<|rZ (bW (bO I) fun b3=>?_);refine aT I<|sQ<|bK<|sW I<|lU (fA aU I zT3 I)<|lK (qL iT3 I<|cO 0 I I)<|lW (cL call121 I<|bV E g _ bx mb ms _ bk e.cell _ (fun _ _ h=>h.1) B rs hall (i+1) (j+1) hi hj) ?_;rintro _ _ _ ⟨rfl,rfl,rfl⟩;refine lU (SU.not I)<|aT I<|iQ I (fun hp=>?_) (fun hp=>?_)
 ·exact rZ<|aT I<|rE<|bR<|tR<|dR (s':=s) uR<|za8 (.inl I) results79 I ⟨zb9 _,.inl ⟨I,by simpa using hp,I⟩⟩
 ·have hp2:(aB B e.cell).isSome=true:=by simpa using hp
  refine sQ<|dW [] [(0,2),(1,2),(2,2),(3,1),(4,2),(5,1),(6,0),(7,2),(8,2),(9,2)] ze6 kR<|yM I<|pU I (nC I)<|pU I (fA dh I ah I)<|pK I (SQ.loadOne aw ah I<|cO (v:=.slice p A.length c) (i+1) hi I)<|pU I (fA aU I zT3 I)<|pK I (qL iT3 I<|cO 0 I I)<|SP.o I (cL call122 I<|fB E g _ _ A e.cell hu hf) dC (.inr iR) ?_;rintro v18 g1 _ ⟨rfl,hle1,ha⟩;obtain ⟨q2,d2,rfl⟩:=za4 ha;refine pU I (eN aK I)<|pU I (gR I I)<|pU I (aS I)<|pN<|tN<|iP I (fun ha0=>?_) (fun ha0=>?_)
  ·exact rZ<|aT I<|rE<|bR<|tR<|dR (s':=s) uR<|za8 (.inl I) results79 I ⟨hle1,.inr<|.inl ⟨I,hp2,oM,I⟩⟩
  ·have hi2:(s.set j<|mp mb<|qO (rs.map ak) e.cell)[i]?=some (edP bx (.slice p A.length c) mb ms bk):=by rw[List.getElem?_set_ne hij]; exact hi
   refine kP<|bN<|tN<|sQ<|dW [6] [(0,2),(1,2),(2,2),(3,1),(4,2),(5,1),(6,0)] ze6 kR<|yM I<|pU I (nC I)<|pU I (fA dh I ef I)<|pK I (qL (v:=.map<|some mb) ek I<|cO (i+1) hi I)<|pU I (fA aU I zT3 I)<|pK I (qL iT3 I<|cO 0 I I)<|SP.on I (SO.delete (j+1) mty104 I I hj) (.inl dC) ?_;rintro _ _ _ ⟨rfl,rfl⟩;refine pN<|tN<|sW I<|lU (nC I)<|lU (fA dh I zT4 I)<|oZ (SO.store1 (i+1) zT4 I I hi2 I (bE I) I)<|tZ<|rZ<|aT I<|rE<|dR (s':=(s.set j<|mp mb<|qO (rs.map ak) e.cell).set i<|edP bx (.slice p A.length c) mb ms true) (.cons _<|.refl _)<|za8 (.inl I) results79 I ⟨hle1,.inr<|.inr ⟨I,hp2,zf7 oM,by rw[← mZ]⟩⟩
theorem vP (E:World)(g:PH)(s:Own)(bx mb ms:Nat)(u:Value)(bk:Bool)(B:List Cl)(rs:List Rc)(hall:aA (ar g) B rs)(hn:(B.map Cl.id).Nodup)(hf:bo B)(hm:Mp g mb (rs.map ak))(i:Nat)(hi:s[i]?=some (edP bx u mb ms bk)) :
  Ctr Tryz.prog E 48 #[pp bx 0] g s (fun r g' s'=>s=s'∧Le g g'∧∃ u',r = .agg #[u']∧gJ (mns g' g) u' (aa B)):=by
 obtain ⟨es,clk,hes,hmi⟩:=hm;have hrl:=hall.length;have hBl:=hf.1;refine zb2 (args:=[pp bx 0]) func48 I ntmps48 (bE I)<|rZ (bW (aL zl5) fun b2=>?_);refine tZ (rZ<|bW (aL zl5) fun b3=>?_);refine tZ<|sQ<|sW I<|lU (nC I)<|lU (fA dh I ef I)<|lK (qL (v:=.map<|some mb) ek I<|cO (i+2) hi I)<|lW (SO.range underlying104 I hes) ?_;rintro _ _ _ ⟨it,rfl,rfl,rfl⟩;refine tZ<|bK<|zb6 53 3<|oP (ι:=List MapEntry×List Rc×List Cl×Value) (fun _=>[(2,pp b2 0),(3,pp b3 0),(10,pp it 0)]) (fun _=>g)
  (fun i=>rowA encCell 53 i.2.2.2 i.2.1::eY it mb es clk i.1::pt b3 (.cells #[i.2.2.2] 29 (0,0))::pt b2 (.cells #[.slice none 0 0] 29 (0,0))::s)
  (fun i=>kw (rs.map ak) es i.1 (i.2.1.map ak)∧aA (ar g) i.2.2.1 i.2.1∧(∀ c∈i.2.2.1,c∈B)) (fun i=>rs.length - i.2.1.length)
  ([],[],[],.slice none 0 0) sB rfl rfl ⟨kw.nil _ _,trivial,by simp⟩ ?_
 rintro ⟨vis,acc,vc,ov⟩ ⟨hrv,hacc,hvs⟩;dsimp only at hrv hacc hvs ⊢;have hvle:=hrv.len hmi;simp only[ze9] at hvle;have hal:=hacc.length;refine rZ<|lW (SO.nextP 1 I I hes hmi hrv) ?_;rintro _ _ _ ⟨rfl,hcase⟩
 rcases hcase with ⟨rfl,rfl,hperm⟩ | ⟨e,pr,he,hp1,hk1,hv1,hrv2,rfl,rfl⟩
 ·have hpv:vc.Perm B:=sb (by rw[zi8,iU hacc]; rfl) hvs hn hall hperm;have hcn:aa vc=aa B:=sX hpv<|(hpv.map Cl.id).symm.nodup hn;have hvf:bo vc:=⟨by have:=hpv.length_eq; omega,fun c hc=>hf.2 c<|hvs c hc⟩;refine yX I (tZ<|sQ<|za1 I<|xI<|tX<|tX<|bX<|tN<|sQ<|fS fun g2 hle2 hs2=>?_);obtain ⟨q2,d2,rfl⟩:=zc3 hs2;refine rG<|lK (qV 1 aw ah I I I)<|lW (cL call55 I<|nn E g2 _ _ vc ⟨acc,hs2,hacc.mono fun _ _=>ar.mono hle2⟩ hvf) ?_;rintro _ g3 _ ⟨rfl,hle3,u3,rfl,hu3⟩;rw[hcn] at hu3;have hu4:=hu3.cells<|jE _ _;obtain ⟨q3,d3,rfl⟩:=hu4.form;refine oZ (sK 2 ah I I I I I sB) ?_;refine tZ<|rE ?_;exact ST.retCD 2 s (.inl I) results48 I aw ah I I uR ⟨I,hle2.trans hle3,_,I,hu3.mono<|mN hle2⟩
 ·obtain ⟨x,hx,rfl⟩:=zf5.1 hp1;obtain ⟨cx,hcm,hcx⟩:=vu hall hx;refine yX I (tZ (sQ (za2 I (kP (tN (bK (rZ (lK (SQ.entryP 1 I I hes hmi he hk1 hv1) (yX I (bW (aL zl8) fun b5=>?_))))))))));refine oZ (sK 0 au I I I I I sB)<|tZ ?_;refine SC.to (g':=g) (s':=pt b5 (.cells #[vi x.id,vi x.dim,.slice x.sv.p x.sv.n x.sv.c] 53 (0,0))::rowA encCell 53 ov acc::eY it mb es clk (vis++[e])::pt b3 (.cells #[ov] 29 (0,0))::pt b2 (.cells #[.slice none 0 0] 29 (0,0))::s) (fun w hw=>hw) ?_;refine rG (lU (fA bM I bt I) (lK (qL de I (cO 3 I I)) (lK (qV 0 dn au I I I) (lW (bS sty27 I I I (ae sB) dC) ?_))));rintro _ _ _ ⟨b18,rfl,rfl,rfl⟩;refine lW (aP (e:=encCell) 1 x sty27 I I I I I oM oM) ?_;rintro ov' _ _ ⟨rfl,rfl⟩;refine zd4 fun ⟨w0,hw0⟩=>?_;obtain ⟨q',d',rfl⟩:=ag (e:=encCell) (l:=acc++[x]) (i:=1) hw0 rfl;clear hw0 w0;refine lU (fA bM I bt I) (oZ (sK 3 bt I I I I I sB) ?_);refine nL (bN (dR (.cons _ (.refl _)) ?_));exact gA (vis++[e],acc++[x],vc++[cx],_) sB I I ⟨by dsimp only; rw[zg8]; exact hrv2,hacc.append ⟨hcx,trivial⟩,fun c hc=>by
   rcases zf6.1 hc with h | h
   ·exact hvs c h
   ·simp at h; rw[h]; exact hcm⟩ (by
   have:=hrv2.len hmi;simp only[ze9,ze8,zf1] at this ⊢;omega)
abbrev Tm:=Int×Int
def zw (n:Int):Bool:=decide (n<0)&&decide (qP n.natAbs≠[])
def ci:Enc Tm 3:=⟨fun p=>[vi p.1,vb<|zw p.2,txt<|qP p.2.natAbs],fun _=>rfl,fun _ u hu=>by simp at hu; rcases hu with rfl | rfl | rfl <;> rfl,by decide⟩
structure Im where
 cell:Int
 sv:Sv
def jo:Enc Im 2:=⟨fun r=>[vi r.cell,.slice r.sv.p r.sv.n r.sv.c],fun _=>rfl,fun _ u hu=>by simp at hu; rcases hu with rfl | rfl <;> rfl,by decide⟩
def ImR (g:PH)(c:Int×List Tm)(r:Im):Prop:=r.cell=c.1∧SlA ci g (.slice r.sv.p r.sv.n r.sv.c) c.2
theorem ImR.mono {g g':PH}(hl:Le g g'){c:Int×List Tm}{r:Im}(h:ImR g c r):ImR g' c r:=⟨h.1,za5 h.2 hl⟩
def Ims (g:PH)(v:Value)(l:List (Int×List Tm)):Prop:=∃ rs,SlA jo g v rs∧aA (ImR g) l rs
theorem Ims.mono {g g':PH}{v:Value}{l:List (Int×List Tm)}(h:Ims g v l)(hl:Le g g'):Ims g' v l:=by
 obtain ⟨rs,h1,h2⟩:=h;exact⟨rs,za5 h1 hl,h2.mono fun _ _=>ImR.mono hl⟩
theorem Tryz.build77 (x:Int)(b:Bool)(l:List UInt8)(w:World):(Instr.build 77 #[(0,vi x),(1,.agg #[vb b,txt l])]).run Tryz.prog w = .ok (.agg #[vi x,vb b,txt l]) w:=by
 have h1:(vi x).cells = #[vi x]:=rfl;have h2:(Value.agg #[vb b,txt l]).cells = #[vb b,txt l]:=rfl;simp[Instr.build,Instr.fill,h1,h2];rfl
theorem Tryz.build113 (x:Int)(p:Option Addr)(n c:Nat)(w:World):(Instr.build 113 #[(0,vi x),(1,.slice p n c)]).run Tryz.prog w = .ok (.agg #[vi x,.slice p n c]) w:=by
 have h1:(vi x).cells = #[vi x]:=rfl;have h2:(Value.slice p n c).cells = #[.slice p n c]:=rfl;simp[Instr.build,Instr.fill,h1,h2];rfl
theorem Tryz.buildB46 (b:Bool)(w:World):(Instr.build 46 #[(1,vb b)]).run Tryz.prog w = .ok (.agg #[.slice none 0 0,vb b]) w:=by
 have h1:(vb b).cells = #[vb b]:=rfl;simp[Instr.build,Instr.fill,h1];rfl
theorem Tryz.mty127:MTy Tryz.prog 127 3 72 (.slice none 0 0):=⟨underlying127,underlying3,zeroValue72⟩
theorem Tryz.sty72:STy Tryz.prog 72 77 3 32 (.agg #[vi 0,vb false,txt []]):=⟨underlying72,⟨t77,by kernel_rfl,by kernel_rfl,by kernel_rfl,by kernel_rfl⟩,rfl,by decide⟩
theorem Tryz.sty42:STy Tryz.prog 42 113 2 32 (.agg #[vi 0,.slice none 0 0]):=⟨underlying42,⟨t113,by kernel_rfl,by kernel_rfl,by kernel_rfl,by kernel_rfl⟩,rfl,by decide⟩
theorem ji (E:World)(g:PH)(s:Own)(c n:Int)(h0 : -9223372036854775808≤n)(h1:n<9223372036854775808) :
  Ctr Tryz.prog E 87 #[vi c,vi n] g s (fun r g' s'=>r = .agg (ci.enc (c,n)).toArray∧s=s'∧Le g g'):=by
 refine zb2 (args:=[vi c,vi n]) func87 I ntmps87 (bE I)<|rZ (bW (aL zeroValue77) fun b4=>?_);refine tZ<|sW I<|lM I<|lW (cL call129 I<|yT E g _ n h0 h1) ?_;rintro _ g1 _ ⟨rfl,rfl,hle1⟩;exact lU (za3 I<|build77 _ _ _)<|oZ (sK 0 sizeOf77 I I I I I sB)<|tZ<|rE<|ST.retCD 0 s (.inl I) results87 I isAgg77 sizeOf77 I I uR ⟨I,I,hle1⟩
def fX (c:Cl):Int×List Tm:=(c.id,[(c.id,1)])
set_option maxHeartbeats 2000000
theorem Ctr.freezeO {P:Program}{E:World}{n:FuncId}{args:Array Value}{g:PH}{L s:Own}{R:Value→PH→Own→Prop}{A:List Cl}{rs:List Rc}(hO:aA fZ A rs)
  (h:∀ g1,Le g g1→aA (ar g1) A rs→Ctr P E n args g1 (L++s) R):Ctr P E n args g (L++(dM A rs++s)) R:=fun w hw=>by
 have h1:(L++(dM A rs++s)).Perm (dM A rs++(L++s)):=by
  rw[← zh2,← zh2];exact List.perm_append_comm.append_right s
 obtain ⟨g1,h2,h3,h4⟩:=Go.Proofs.YtackilpikhkijaaGreatDoor.freezeO hO<|hw.perm h1;exact h g1 h2 h4 w h3
def pD (fv:Value)(e:Ed)(A:List Cl)(code:Int)(B:List Cl)(bk:Bool):Prop :=
 ∀ (E:World) (g:PH) (s:Own) (bx mb ms:Nat) (u v:Value) (rs:List Rc),ao g u A→aA fZ A rs→EdR g v e →
  dA Tryz.prog E fv [pp bx 0,v] g (edP bx u mb ms false::mp mb (rs.map ak)::mp ms []::(dM A rs++s)) (fun r g' s'=>Le g g'∧r=vi code∧(if code=0 then ∃ rs',aA (ar g') B rs'∧s'=edP bx u mb ms bk::mp mb (rs'.map ak)::mp ms []::s else ∃ h,s'=h++s))
def gz (A:List Cl)(e:Ed):Int:=if (aB A e.cell).isSome then 54 else 0
def jL (A:List Cl)(e:Ed):Int:=if (aB A e.cell).isSome then (if 0<(aj A e.cell).length then 31 else 0) else 30
theorem wE (A:List Cl)(e:Ed)(he:e.sides.length<1099511627776):pD (.func (.func 78) #[] #[]) e A (gz A e) (em A ⟨e.cell,e.dim,e.sides⟩) false:=by
 intro E g s bx mb ms u v rs hu hO hv;refine dA.mk (args:=[_,_]) (cap:=[]) call78<|Ctr.freezeO (L:=[edP bx u mb ms false,mp mb<|rs.map ak,mp ms []]) hO fun g1 hle1 hall=>?_;refine (ur E g1 _ bx mb ms u v false e A rs hall 0 1 I I (hv.mono hle1) he).mono ?_;rintro r g' s' ⟨hle,h⟩;refine⟨hle1.trans hle,?_⟩;unfold gz
 rcases h with ⟨rfl,h1,rfl⟩ | ⟨rfl,h1,rs',h2,rfl⟩
 ·rw[h1];exact⟨I,[edP bx u mb ms false,mp mb<|rs.map ak,mp ms []],I⟩
 ·rw[h1];exact⟨I,rs',h2,I⟩
theorem vR (A:List Cl)(hf:bo A)(e:Ed):pD (.func (.func 79) #[] #[]) e A (jL A e) (ox A e.cell) true:=by
 intro E g s bx mb ms u v rs hu hO hv;refine dA.mk (args:=[_,_]) (cap:=[]) call79<|Ctr.freezeO (L:=[edP bx u mb ms false,mp mb<|rs.map ak,mp ms []]) hO fun g1 hle1 hall=>?_;refine (tK E g1 _ bx mb ms u v false e A A rs (hu.mono hle1) hf hall 0 1 I I dC<|hv.mono hle1).mono ?_;rintro r g' s' ⟨hle,h⟩;refine⟨hle1.trans hle,?_⟩;unfold jL
 rcases h with ⟨rfl,h1,rfl⟩ | ⟨rfl,h1,h2,rfl⟩ | ⟨rfl,h1,h2,rfl⟩
 ·rw[h1];exact⟨I,[edP bx u mb ms false,mp mb<|rs.map ak,mp ms []],I⟩
 ·rw[h1,zg4 rfl,zg4 h2];exact⟨I,[edP bx u mb ms false,mp mb<|rs.map ak,mp ms []],I⟩
 ·rw[h1,h2];exact⟨I,mW rs e.cell,(kA (fun _ _ h=>h.1) e.cell hall).mono fun _ _=>ar.mono hle,I⟩
theorem rz {α:Type}(L r:List α)(k:Nat):(L++r)[L.length+k]?=r[k]?:=by
 rw[zh6 oM,Nat.add_sub_cancel_left]
def aW (code:Int)(B:List Cl):Int×List Cl :=
 if code≠0 then (code,[]) else if (aN<|aa B).2≠0 then ((aN<|aa B).2,[]) else (0,aa B)
theorem Tryz.buildZ46 (w:World):(Instr.build 46 #[]).run Tryz.prog w = .ok (.agg #[.slice none 0 0,vb false]) w:=by
 simp[Instr.build,Instr.fill];rfl
theorem ao.nil (g:PH):ao g (.slice none 0 0) []:=⟨[],zc1 g _,trivial⟩
theorem kO (E:World)(g:PH)(s:Own)(v:Value)(l:List Cl)(hv:ao g v l)(hf:bo l)(b:Bool)(hb:decide ((aN l).2=0)=b) :
  Ctr Tryz.prog E 46 #[.agg #[v]] g s (fun r g' s'=>r=vb b∧g=g'∧s=s'):=by
 subst hb;exact sJ E g s v l hv hf
open Go.ChangeShapes Go.WideShapes Go.ChangeAt Go.RowKit
set_option maxRecDepth 100000
section
variable {H:Type}{enc:TypeId×Value→H}{W:World}{base:Nat}{spare:Nat→Bool}{hd:Bool}
end
theorem dZ (E:World)(g:PH)(s:Own)(c n:Int)(h0 : -9223372036854775808≤n)(h1:n<9223372036854775808) :
  Ctr Tryz.prog E 113 #[vi c,vi n] g s (fun r g' s'=>r = .agg (ci.enc (c,n)).toArray∧s=s'∧Le g g'):=by
 refine zb2 (args:=[vi c,vi n]) func113 I ntmps113 (bE I)<|rZ (bW (aL zeroValue77) fun b4=>?_);refine tZ<|sW I<|lM I<|lW (cL call28 I<|mg E g _ n h0 h1) ?_;rintro _ g1 _ ⟨rfl,rfl,hle1⟩;exact lU (za3 I<|build77 _ _ _)<|oZ (sK 0 sizeOf77 I I I I I sB)<|tZ<|rE<|ST.retCD 0 s (.inl I) results113 I isAgg77 sizeOf77 I I uR ⟨I,I,hle1⟩
theorem df (E:World)(g:PH)(s:Own)(v:Value)(l:List Cl)(id:Int)(hv:ao g v l)(hf:bo l) :
  Ctr Tryz.prog E 110 #[.agg #[v],vi id] g s (fun r g' s'=>r=vb (findC l id).isSome∧s=s'∧Le g g'):=by
 refine zb2 (args:=[.agg #[v],vi id]) func110 I ntmps110 (bE I)<|rZ (bW (bO I) fun b2=>?_);refine aT I<|rZ<|lK (qV 0 aw ah I I I)<|lM I<|lW (cL call41 I<|bw E g _ v l id hv hf) ?_;rintro _ g1 _ ⟨rfl,hle1,⟨yi,yd,yp,yn,yc⟩,rfl,hc⟩;refine lM I (yX I<|yX I<|bW (aL zl8) fun b5=>?_);exact oZ (sK 0 au I I I I I sB)<|aT I<|sW I<|aT I<|rE<|dR (s':=s) uR<|za8 (.inl I) results110 I ⟨I,I,hle1⟩
theorem nh {α β:Type}(f:α→β){l:List α}{k:Nat}(h:k<l.length):(l.take<|k+1).map f=(l.take k).map f++[f l[k]]:=by
 rw[tS h,zg8];rfl
theorem fE (E:World)(g:PH)(s:Own)(v:Value)(l:List Cl)(hv:ao g v l)(hf:bo l) :
  Ctr Tryz.prog E 111 #[.agg #[v]] g s (fun r g' s'=>s=s'∧Le g g'∧∃ iv,r = .agg #[iv]∧Ims g' iv ((am l).map fX)):=by
 have hft:=(bP hf).1;refine zb2 (args:=[.agg #[v]]) func111 I ntmps111 (bE I)<|rZ (bW (bO I) fun b1=>?_);refine bW (aL zl4) fun b2=>tZ (rZ<|bW (aL zl4) fun b3=>?_);refine tZ<|rZ<|lK (qV 2 aw ah I I I)<|lW (cL call66 I<|dq E g _ v l hv hf) ?_;rintro v7 g1 _ ⟨rfl,hle1,hc⟩;obtain ⟨rs,hrs,hall⟩:=hc;obtain ⟨p,c,rfl⟩:=za4 hrs;refine aT I<|sQ<|rZ<|aT I<|bK ?_;generalize am l=T at *;have hrl:=hall.length;refine zb6 113 2<|oP (ι:=Nat×PH×Value×List Im) (fun i=>[(2,pp b2 0),(3,pp b3 0),(4,.slice p rs.length c),(5,vi i.1)]) (fun i=>i.2.1)
  (fun i=>rowA jo 113 i.2.2.1 i.2.2.2::pt b3 (.cells #[i.2.2.1] 44 (0,0))::pt b2 (.cells #[.slice none 0 0] 44 (0,0))::pt b1 (.cells #[v] 29 (0,0))::s)
  (fun i=>i.1≤rs.length∧Le g1 i.2.1∧aA (ImR i.2.1) ((T.take i.1).map fX) i.2.2.2) (fun i=>rs.length - i.1) (0,g1,.slice none 0 0,[])
  sB rfl rfl ⟨zf9 _,zb9 _,by simp[aA]⟩ ?_
 rintro ⟨k,g2,ov,acc⟩ ⟨hk,hle2,hacc⟩;dsimp only at hk hle2 hacc ⊢;have hal:=hacc.length;rw[ze9,ze7] at hal;refine sQ<|sW I<|lM I<|lU (eN aI I)<|yL I<|tZ<|iP I (fun hlt=>?_) (fun hlt=>?_)
 ·have hkr:k<rs.length:=oM;have hkl:k<T.length:=oM;have hb1:=za6 hrs oM;have hcr:=hall.get (gE hkl) (gE hkr);have hgx:rs[((k:Nat):Int).toNat]?=some rs[k]:=gE hkr;have htk:=nh fX hkl;generalize rs[k]=x at *;generalize T[k]=cx at *;obtain ⟨xi,xd,xp,xn,xc⟩:=x;obtain ⟨e1,e2,-⟩:=hcr;dsimp only at e1 e2;subst e1 e2;refine kP (tN (sQ (bK ?_)));refine dW [16,18] [(0,2),(1,1),(2,2),(3,2),(4,2),(5,2),(6,1),(7,2),(8,2),(9,2),(10,2),(11,1),(12,0),(13,0),(14,2),(15,0),(16,0),(17,2),(18,0)] ze6 kR<|pU I (fA mU I kC I) (pK I (qL isAgg42 I (cO 1 I I)) (yM I (yM I (pU I (iA aI au I I hb1 oM (show (k:Int)<((rs.length:Nat):Int) by omega)) ?_))));refine pU I (fC aq I zT3 I hb1) (pK I (aZ (e:=encCell) (o:=0) iT3 I (za7 (za5 hrs hle2)) hgx I) (yM I (yM I (pU I (iA aI au I I hb1 oM (show (k:Int)<((rs.length:Nat):Int) by omega)) ?_))));refine pU I (fC aq I zT3 I hb1) (pK I (aZ (e:=encCell) (o:=0) iT3 I (za7 (za5 hrs hle2)) hgx I) (SP.o I (cL call113 I (dZ E g2 _ cx.id 1 dC dC)) dC (.inr iR) ?_));rintro _ g3 _ ⟨rfl,rfl,hle3⟩;refine SP.o I (bS sty72 I I I (ae ⟨I,trivial⟩) dC) dC (.inr iR) ?_;rintro _ _ _ ⟨b27,rfl,rfl,rfl⟩;refine SP.freeze fun g4 hle4 hb4=>?_;have hch:SlA ci g4 (.slice (some ⟨b27,0,none⟩) 1 1) [(cx.id,1)]:=SlA.lit hb4 rfl rfl;have hle24:=hle3.trans hle4;refine pU I (za3 I (build113 _ _ _ _)) (SP.o I (bS sty42 I I I (ae sB) dC) dC (.inr iR) ?_);rintro _ _ _ ⟨b29,rfl,rfl,rfl⟩;refine SP.o I (aP (e:=jo) 0 ⟨cx.id,⟨some ⟨b27,0,none⟩,1,1⟩⟩ sty42 I I I I I oM oM) dC (.inl dC) ?_;rintro ov' _ _ ⟨rfl,rfl⟩;refine zd3 fun ⟨w0,hw0⟩=>?_;obtain ⟨q',d',rfl⟩:=ag (e:=jo) (l:=acc++[⟨cx.id,⟨some ⟨b27,0,none⟩,1,1⟩⟩]) (i:=0) hw0 rfl;clear hw0 w0;refine pU I (fA mU I kC I) (SP.on I (sK 1 kC I I I I I sB) (.inl dC) ?_);rintro _ _ _ ⟨rfl,rfl⟩;refine pN (bN (tN (rG (lM I (yD I (lA I (nL ?_)))))));exact gA (k+1,g4,_,acc++[⟨cx.id,⟨some ⟨b27,0,none⟩,1,1⟩⟩]) sB I I ⟨by dsimp only; omega,hle2.trans hle24,by
   dsimp only;rw[htk];exact (hacc.mono fun _ _=>ImR.mono hle24).append ⟨⟨I,hch⟩,trivial⟩⟩ (by dsimp only; omega)
 ·have hkk:T.take k=T:=tL oM;rw[hkk] at hacc;refine xI (tX<|tX<|bX<|tN<|sQ<|fS fun g3 hle3 hs3=>?_);obtain ⟨q3,d3,rfl⟩:=zc3 hs3;exact rG<|lK (qV 0 isAgg44 kr I I I)<|oZ (sK 1 kr I I I I I sB)<|tZ<|rE<|ST.retCD 1 s (.inl I) results111 I isAgg44 kr I I uR ⟨I,hle1.trans<|hle2.trans hle3,_,I,acc,hs3,hacc.mono fun _ _=>ImR.mono hle3⟩
set_option maxHeartbeats 4000000
theorem Tryz.buildS46 (p:Option Addr)(n c:Nat)(w:World):(Instr.build 46 #[(0,.agg #[.slice p n c])]).run Tryz.prog w = .ok (.agg #[.slice p n c,vb false]) w:=by
 have h1:(Value.agg #[Value.slice p n c]).cells = #[.slice p n c]:=rfl;simp[Instr.build,Instr.fill,h1];rfl
def Bf (code:Int)(D:List Cl)(ims:List (Int×List Tm))(bk:Bool)(r:Value)(g':PH):Prop:=∃ u p n c,r = .tuple #[.agg #[u],.agg #[.slice p n c,vb bk],vi code]∧ao g' u D∧(code=0→Ims g' (.slice p n c) ims)
theorem Ims.form {g:PH}{v:Value}{l:List (Int×List Tm)}(h:Ims g v l):∃ p n c,v = .slice p n c:=by
 obtain ⟨rs,h1,h2⟩:=h;obtain ⟨p,c,e⟩:=za4 h1;exact⟨p,_,c,e⟩
theorem oE (E:World)(g:PH)(s:Own)(v ev:Value)(l:List Cl)(e:Ed)(hv:ao g v l)(hf:bo l)(he:EdR g ev e)(hes:e.sides.length<1099511627776)(code:Int)(hcode:code=if (findC l e.cell).isSome then 54 else 0) :
  Ctr Tryz.prog E 70 #[.agg #[v],ev] g s (fun r g' s'=>s=s'∧Le g g'∧Bf code (if code=0 then l++[⟨e.cell,e.dim,e.sides⟩] else l) ((am l).map fX) false r g'):=by
 obtain ⟨sv,pv,rfl,hsv,hpv⟩:=he;obtain ⟨sp,sc,rfl⟩:=za4 hsv;obtain ⟨pq,pc,rfl⟩:=za4 hpv;have hv0:=hv;obtain ⟨rs,hrs,hall⟩:=hv;have hlen:=hall.length;have hfl:=hf.1;obtain ⟨p,c,rfl⟩:=za4 hrs;refine zb2 (args:=[.agg #[.slice p rs.length c],.agg #[vi e.kind,vi e.cell,vi e.dim,vi e.new,vi e.other,.slice sp e.sides.length sc,.slice pq e.pairs.length pc]]) func70 I ntmps70 (bE I)<|rZ (bW (bO I) fun b2=>?_);refine bW (bO I) fun b3=>bW (aL zl5) fun b4=>bW (aL zl7) fun b5=>aT I<|sQ<|rZ<|lK (qV 3 aw ah I I I)<|lU (fA aU I zT3 I)<|lK (qL iT3 I<|cO 2 I I)<|lW (cL call110 I<|df E g _ _ l e.cell hv0 hf) ?_;rintro _ g1 _ ⟨rfl,rfl,hle1⟩;refine tZ<|iQ I (fun hp=>?_) (fun hp=>?_)
 ·have hc:code=54:=by rw[hcode,hp]; rfl
  subst hc;exact rZ<|lK (qV 3 aw ah I I I)<|lU (za3 I buildZ46)<|oZ (sK 1 ah I I I I I sB)<|oZ (sK 0 bC I I I I I sB)<|aT I<|rE<|tR<|ST.retCCT 1 0 s (.inl I) results70 I I I aw ah fm bC I I I I uR ⟨I,hle1,_,_,_,_,I,hv0.mono hle1,fun h=>by cases h⟩
 ·have hc:code=0:=by rw[hcode,hp]; rfl
  subst hc;have hrs1:=za5 hrs hle1;have hsv1:=za5 hsv hle1;have hall1:=hall.mono fun _ _=>ar.mono hle1;have hv1:=hv0.mono hle1;generalize g1=gg at *;refine kP<|tN<|SC.cut (ι:=Nat×Option Addr×Nat×Nat×PH) (fun i=>[(2,pp b2 0),(3,pp b3 0),(4,pp b4 0),(5,pp b5 0),(7,pp i.1 0)]) (fun i=>i.2.2.2.2) (fun i=>pt i.1 (.cells #[.slice i.2.1 i.2.2.1 i.2.2.2.1] 29 (0,0))::pt b5 (.cells #[.slice none 0 0,vb false] 46 (0,0))::pt b4 (.cells #[.slice none 0 0] 29 (0,0))::pt b3 (.cells #[vi e.kind,vi e.cell,vi e.dim,vi e.new,vi e.other,.slice sp e.sides.length sc,.slice pq e.pairs.length pc] 35 (0,0))::pt b2 (.cells #[.slice p rs.length c] 29 (0,0))::s)
   (fun i=>Le gg i.2.2.2.2∧ao i.2.2.2.2 (.slice i.2.1 i.2.2.1 i.2.2.2.1) (l++[⟨e.cell,e.dim,e.sides⟩])) ?_ ?_
  ·refine SC.drawX [] ze6 kR ?_;refine SX.u (i:=1) I kR (fA bM I bt I) dC<|SX.q (i:=2) I kR (qL (v:=.slice p rs.length c) de I<|cO 3 I I) dC<|SX.u (i:=4) I kR (fA aU I zT3 I) dC<|SX.q (i:=5) I kR (qL iT3 I<|cO 2 I I) dC<|SX.u (i:=6) I kR (fA aU I zT3 I) dC<|SX.q (i:=7) I kR (qL iT3 I<|cO 2 I I) dC<|SX.u (i:=9) I kR (fA aU I aJ I) dC<|SX.q (i:=10) I kR (qL (v:=.slice sp e.sides.length sc) aX I<|cO 2 I I) dC ?_
   repeat' (first
    | (refine SB.o (i:=0) I (bS sty27 I I I (ae trivial) dC) dC (.inr iR) ?_; rintro _ _ _ ⟨b14,rfl,rfl,rfl⟩; refine SX.drop (zj4 _ _) ?_)
    | (refine SB.o (i:=0) I (bS sty27 I I I (ae trivial) dC) dC (.inr iR) ?_; rintro _ _ _ ⟨b14,rfl,rfl,rfl⟩; refine SX.drop (zj4 _ _) ?_)
    | (refine SB.o (i:=3) I (SO.appNewA (e:=encCell) sty27 I I hrs1 oM oM) dC (.inr iR) ?_; rintro v17 _ _ ⟨rfl,rfl⟩)
    | (refine SB.o (i:=3) I (SO.appNewA (e:=encCell) sty27 I I hrs1 oM oM) dC (.inr iR) ?_; rintro v17 _ _ ⟨rfl,rfl⟩)
    | (refine SB.o (i:=8) I (bS sty32 I I I (ae trivial) dC) dC (.inr iR) ?_; rintro _ _ _ ⟨b22,rfl,rfl,rfl⟩; refine SX.drop (zj4 _ _) ?_)
    | (refine SB.o (i:=8) I (bS sty32 I I I (ae trivial) dC) dC (.inr iR) ?_; rintro _ _ _ ⟨b22,rfl,rfl,rfl⟩; refine SX.drop (zj4 _ _) ?_)
    | (refine SB.o (i:=8) I (bS sty32 I I I (ae trivial) dC) dC (.inr iR) ?_; rintro _ _ _ ⟨b22,rfl,rfl,rfl⟩; refine SX.drop (zj4 _ _) ?_)
    | (refine SB.o (i:=11) I (SO.appNewA (e:=encSide) sty32 I I hsv1 oM oM) dC (.inr iR) ?_; rintro v25 _ _ ⟨rfl,rfl⟩; refine SX.freezeRow fun g2 hle2 hs2=>?_; obtain ⟨q2,d2,rfl⟩:=za4 (e:=encSide) hs2; refine SX.u (i:=12) I kD (za3 I<|buildF53 _ _ _ I) dC ?_)
    | (refine SB.o (i:=11) I (SO.appNewA (e:=encSide) sty32 I I hsv1 oM oM) dC (.inr iR) ?_; rintro v25 _ _ ⟨rfl,rfl⟩; refine SX.freezeRow fun g2 hle2 hs2=>?_; obtain ⟨q2,d2,rfl⟩:=za4 (e:=encSide) hs2; refine SX.u (i:=12) I kD (za3 I<|buildF53 _ _ _ I) dC ?_)
    | (refine SB.o (i:=13) I (bS sty27 I I I (ae ⟨I,trivial⟩) dC) dC (.inr iR) ?_; rintro _ _ _ ⟨b27,rfl,rfl,rfl⟩; refine SX.to (fun w hw=>At.litRow (e:=encCell) (l:=[⟨e.cell,e.dim,⟨q2,e.sides.length,d2⟩⟩]) (n:=0) hw I I dC) ?_; refine SX.freezeRow fun g3 hle3 hs3=>?_; have hle23:=hle2.trans hle3)
    | (refine SB.o (i:=13) I (bS sty27 I I I (ae ⟨I,trivial⟩) dC) dC (.inr iR) ?_; rintro _ _ _ ⟨b27,rfl,rfl,rfl⟩; refine SX.to (fun w hw=>At.litRow (e:=encCell) (l:=[⟨e.cell,e.dim,⟨q2,e.sides.length,d2⟩⟩]) (n:=0) hw I I dC) ?_; refine SX.freezeRow fun g3 hle3 hs3=>?_; have hle23:=hle2.trans hle3)
    | (refine SB.o (i:=14) I (aQ (e:=encCell) (l:=rs) 0 sty27 I I I hs3 (by simp; omega) (by simp; omega)) dC (.inr iR) ?_; rintro v28 _ _ ⟨rfl,rfl⟩; refine SX.freezeRow fun g4 hle4 hs4=>?_; have hle24:=hle23.trans hle4; obtain ⟨q4,d4,rfl⟩:=za4 (e:=encCell) hs4; have hc4:ao g4 (.slice q4 (rs++[(⟨e.cell,e.dim,⟨q2,e.sides.length,d2⟩⟩:Rc)]).length d4) (l++[⟨e.cell,e.dim,e.sides⟩]):=⟨rs++[(⟨e.cell,e.dim,⟨q2,e.sides.length,d2⟩⟩:Rc)],hs4,aA.append (hall1.mono fun _ _=>ar.mono hle24) (show aA (ar g4) [⟨e.cell,e.dim,e.sides⟩] [⟨e.cell,e.dim,⟨q2,e.sides.length,d2⟩⟩] from ⟨⟨rfl,rfl,za5 hs2<|hle3.trans hle4⟩,trivial⟩)⟩; refine SX.u (i:=15) I kD (za3 I<|build29 _ I) dC ?_)
    | (refine SB.o (i:=14) I (aQ (e:=encCell) (l:=rs) 0 sty27 I I I hs3 (by simp; omega) (by simp; omega)) dC (.inr iR) ?_; rintro v28 _ _ ⟨rfl,rfl⟩; refine SX.freezeRow fun g4 hle4 hs4=>?_; have hle24:=hle23.trans hle4; obtain ⟨q4,d4,rfl⟩:=za4 (e:=encCell) hs4; have hc4:ao g4 (.slice q4 (rs++[(⟨e.cell,e.dim,⟨q2,e.sides.length,d2⟩⟩:Rc)]).length d4) (l++[⟨e.cell,e.dim,e.sides⟩]):=⟨rs++[(⟨e.cell,e.dim,⟨q2,e.sides.length,d2⟩⟩:Rc)],hs4,aA.append (hall1.mono fun _ _=>ar.mono hle24) (show aA (ar g4) [⟨e.cell,e.dim,e.sides⟩] [⟨e.cell,e.dim,⟨q2,e.sides.length,d2⟩⟩] from ⟨⟨rfl,rfl,za5 hs2<|hle3.trans hle4⟩,trivial⟩)⟩; refine SX.u (i:=15) I kD (za3 I<|build29 _ I) dC ?_)
    | (refine SB.o (i:=16) I (aL zl5) dC (.inr iR) ?_; rintro _ _ _ ⟨b16,rfl,rfl,rfl⟩; first | refine SX.to (fun w hw=>At.perm hw<|zk4 (rowA encCell 53 v17 rs) _ _) ?_ | skip)
    | (refine SB.o (i:=16) I (aL zl5) dC (.inr iR) ?_; rintro _ _ _ ⟨b16,rfl,rfl,rfl⟩; first | refine SX.to (fun w hw=>At.perm hw<|zk4 (rowA encCell 53 v17 rs) _ _) ?_ | skip)
    | (refine SB.o (i:=16) I (aL zl5) dC (.inr iR) ?_; rintro _ _ _ ⟨b16,rfl,rfl,rfl⟩; first | refine SX.to (fun w hw=>At.perm hw<|zk4 (rowA encCell 53 v17 rs) _ _) ?_ | skip)
    | (refine SB.o (i:=16) I (aL zl5) dC (.inr iR) ?_; rintro _ _ _ ⟨b16,rfl,rfl,rfl⟩; first | refine SX.to (fun w hw=>At.perm hw<|zk4 (rowA encCell 53 v17 rs) _ _) ?_ | skip)
    | (refine SB.on (i:=17) I (sK 0 ah I I I I I sB) (.inr iR) ?_; rintro _ _ _ ⟨rfl,rfl⟩)
    | refine SX.br3 0 8 16 kD ?_ ?_ ?_
    | refine SX.br3 3 8 16 kD ?_ ?_ ?_
    | refine zd9 8 16 kD ?_ ?_
    | refine zd9 11 16 kD ?_ ?_
    | refine zd9 13 16 kD ?_ ?_
    | refine zd9 14 16 kD ?_ ?_
    | refine zd8 16 kD ?_
    | refine zd8 17 kD ?_
    | refine zd8 14 kD ?_
    | refine zd8 13 kD ?_
    | refine zd8 11 kD ?_
    | refine zd8 8 kD ?_
    | refine zd9 3 16 kD ?_ ?_
    | refine zd8 3 kD ?_
    | refine zd9 3 8 kD ?_ ?_
    | refine zd9 0 16 kD ?_ ?_
    | refine zd8 0 kD ?_
    | refine zd9 0 8 kD ?_ ?_
    | (refine SX.nil kD ?_; exact za9 (b16,q4,(rs++[(⟨e.cell,e.dim,⟨q2,e.sides.length,d2⟩⟩:Rc)]).length,d4,g4) sB I I ⟨hle24,hc4⟩))
  rintro ⟨b7,q7,n7,d7,g5⟩ ⟨hle5,hc5⟩;dsimp only at hle5 hc5 ⊢;refine sQ<|dW [4,5] [(0,1),(1,1),(2,0),(3,2),(4,0),(5,0),(6,2)] ze6 kR<|pK I (qV 0 aw ah I I I)<|pK I (qV 4 aw ah I I I)<|SP.o I (cL call111 I<|fE E g5 _ _ l (hv1.mono hle5) hf) dC (.inr iR) ?_;rintro _ g6 _ ⟨rfl,hle6,iv,rfl,him⟩;obtain ⟨q6,n6,d6,rfl⟩:=him.form;refine pU I (za3 I<|buildS46 _ _ _)<|SP.on I (sK 2 ah I I I I I sB) (.inl dC) ?_;rintro _ _ _ ⟨rfl,rfl⟩;refine SP.on I (sK 1 bC I I I I I sB) (.inl dC) ?_;rintro _ _ _ ⟨rfl,rfl⟩;exact pU I (aS I)<|pN<|tN<|rE<|ST.retCCT 2 1 s (.inl I) results70 I I I aw ah fm bC I I I I uR ⟨I,hle1.trans<|hle5.trans hle6,_,_,_,_,I,hc5.mono hle6,fun _=>him⟩
end Go.Proofs.YtackilpikhkijaaGreatDoor
namespace Go.Sy
open Go
section
variable {P:Program}{N:Nat}{E:World}{ops:Array Oper}{Q:Exit→Act→World→Prop}{g0:PH}{s0:Own}{tail:List Nat}{f:Fr}{g:PH}{s s':Own}{L:Array Bool}{n:Nat}
theorem SX.gq [hQ:Quiet Q]{i d:Nat}{op:Op}{ty:TypeId}{pos:String}{af:Array Edge}{gd:Option (Nat×Bool)}{v:Value}(hi:ops[i]?=some ⟨some d,op,ty,pos,af,gd⟩)(hok:tm ops tail L i=true)(hg:Gd N ops f ⟨some d,op,ty,pos,af,gd⟩ true)
  (hq:SQ P N E ⟨some d,op,ty,pos,af,gd⟩ f g0 s0 v) (hd:d<N)
  (h:SX P N E ops Q g0 s0 tail (L.setIfInBounds i true) n ((d,v)::f) g s):SX P N E ops Q g0 s0 tail L (n+1) f g s:=by
 intro a w hs hcl ha hw hb;simp only[tm,zj6,Bool.not_eq_true'] at hok;obtain ⟨⟨⟨⟨h1,h2⟩,h3⟩,h4⟩,h5⟩:=hok;refine jw hi (Region.noSelect_spec hs) (fun c a w hh=>hQ.out c _ _ w (cM a d v) hh) (by simpa using h4) (ik h3) _ L a w hcl (Region.free_spec hi h2) (by simpa using h1)
  (.inl ⟨hg a ha,fun w' hw'=>hq a w' ha hw'⟩) h5 (hb h5) ?_
 exact h _ w hs (cl hcl<|by simpa using h1) (ha.put hd v) hw (fun _=>hb h5)
theorem SX.gu [hQ:Quiet Q]{i d:Nat}{op:Op}{ty:TypeId}{pos:String}{af:Array Edge}{gd:Option (Nat×Bool)}{v:Value}(hi:ops[i]?=some ⟨some d,op,ty,pos,af,gd⟩)(hok:ow ops tail L i=true)(hg:Gd N ops f ⟨some d,op,ty,pos,af,gd⟩ true)
  (hq:SU P N ⟨some d,op,ty,pos,af,gd⟩ f v) (hd:d<N)
  (h:SX P N E ops Q g0 s0 tail (L.setIfInBounds i true) n ((d,v)::f) g s):SX P N E ops Q g0 s0 tail L (n+1) f g s:=by
 intro a w hs hcl ha hw hb;simp only[ow,zj6,Bool.not_eq_true'] at hok;obtain ⟨⟨h1,h2⟩,h4⟩:=hok;have hit:i ∉ tail:=by simpa using h4
 refine gK hi (Region.noSelect_spec hs) (fun c a w hh=>hQ.out c _ _ w (cM a d v) hh) hit _ L a w (Region.free_spec hi h2) (by simpa using h1)
  (.inl ⟨hg a ha,fun w'=>hq a w' ha⟩) hb ?_
 exact h _ w hs (cl hcl<|by simpa using h1) (ha.put hd v) hw (fun hb'=>hb<|by rwa [dT hit] at hb')
theorem SX.off [hQ:Quiet Q]{i d:Nat}{op:Op}{ty:TypeId}{pos:String}{af:Array Edge}{gd:Option (Nat×Bool)}(hi:ops[i]?=some ⟨some d,op,ty,pos,af,gd⟩)(hok:ow ops tail L i=true)(hg:Gd N ops f ⟨some d,op,ty,pos,af,gd⟩ false)(hd:d<N)
  (h:SX P N E ops Q g0 s0 tail (L.setIfInBounds i true) n ((d,undef)::f) g s):SX P N E ops Q g0 s0 tail L (n+1) f g s:=by
 intro a w hs hcl ha hw hb;simp only[ow,zj6,Bool.not_eq_true'] at hok;obtain ⟨⟨h1,h2⟩,h4⟩:=hok;have hit:i ∉ tail:=by simpa using h4
 refine gK hi (Region.noSelect_spec hs) (fun c a w hh=>hQ.out c _ _ w (cM a d undef) hh) hit _ L a w (Region.free_spec hi h2) (by simpa using h1)
  (.inr ⟨hg a ha,rfl⟩) hb ?_
 exact h _ w hs (cl hcl<|by simpa using h1) (ha.put hd undef) hw (fun hb'=>hb<|by rwa [dT hit] at hb')
theorem SB.go {i d:Nat}{op:Op}{ty:TypeId}{pos:String}{af:Array Edge}{gd:Option (Nat×Bool)}{K:Value→PH→Own→Prop}(hi:ops[i]?=some ⟨some d,op,ty,pos,af,gd⟩)(hg:Gd N ops f ⟨some d,op,ty,pos,af,gd⟩ true)
  (ho:SO P N E ⟨some d,op,ty,pos,af,gd⟩ f g s K) (hd:d<N) (hk:i∈tail∨∀ v g' s',K v g' s'→Le g0 g'∧s0.Sublist s')
  (h:∀ v g' s',K v g' s'→SX P N E ops Q g0 s0 tail (L.setIfInBounds i true) n ((d,v)::f) g' s'):SB P N E ops Q g0 s0 tail L n i f g s :=
 SB.step hi hg ho hk fun v g' s' _ hK ha=>⟨_,ha.put hd v,h v g' s' hK⟩
theorem SB.offo {i d:Nat}{op:Op}{ty:TypeId}{pos:String}{af:Array Edge}{gd:Option (Nat×Bool)}(hi:ops[i]?=some ⟨some d,op,ty,pos,af,gd⟩)
  (hg:Gd N ops f ⟨some d,op,ty,pos,af,gd⟩ false) (hd:d<N) (hk:Le g0 g∧s0.Sublist s)
  (h:SX P N E ops Q g0 s0 tail (L.setIfInBounds i true) n ((d,undef)::f) g s):SB P N E ops Q g0 s0 tail L n i f g s:=by
 intro a w hs hcl hr ha hw hb;unfold wpOp;simp only[hi];rw[zg3 (by rw[hg a ha]; simp)];have hb':fq tail (L.setIfInBounds i true)=false→At E g0 s0 w:=fun _=>(hw.less hk.1).sublist hk.2;exact⟨hb',h _ w hs (cl hcl hr) (ha.put hd undef) hw hb'⟩
theorem SB.ob {i d:Nat}{op:Op}{ty:TypeId}{pos:String}{af:Array Edge}{K:Value→PH→Own→Prop}(hi:ops[i]?=some ⟨some d,op,ty,pos,af,none⟩)
  (ho:SO P N E ⟨some d,op,ty,pos,af,none⟩ f g s K) (hd:d<N) (hbt:fq tail (L.setIfInBounds i true)=true)
  (h:∀ v g' s',K v g' s'→SX P N E ops Q g0 s0 tail (L.setIfInBounds i true) n ((d,v)::f) g' s'):SB P N E ops Q g0 s0 tail L n i f g s:=by
 intro a w hs hcl hr ha hw hb;unfold wpOp;simp only[hi];rw[zg4<|Gd.none rfl a ha];refine .inl (ho a w ha hw Q _ fun v g' s' w' hK hw'=>?_);have hb':fq tail (L.setIfInBounds i true)=false→At E g0 s0 w':=fun h0=>by rw[hbt] at h0; cases h0
 exact⟨hb',h v g' s' hK _ w' hs (cl hcl hr) (ha.put hd v) hw' hb'⟩
end
end Go.Sy
namespace Go.Proofs.YtackilpikhkijaaGreatDoor
open _root_.Go.Proofs.Tryz _root_.Go.Proofs.YtackilpikhkijaaGreatDoor.Tryz
open Go Go.Sy Go.Pl Go.Proofs
set_option maxRecDepth 100000
set_option maxHeartbeats 4000000
def qK (fn:Nat)(e:Ed)(A:List Cl)(code:Int)(D:List Cl)(ims:List (Int×List Tm))(bk:Bool):Prop:=∀ (E:World) (g:PH) (s:Own) (v ev:Value),ao g v A→EdR g ev e →
 Ctr Tryz.prog E fn #[.agg #[v],ev] g s (fun r g' s'=>s=s'∧Le g g'∧Bf code D ims bk r g')
def fj (code:Int)(D:List Cl)(ims:List (Int×List Tm))(bk:Bool)(r:Value)(g':PH):Prop:=∃ u p n c b,r = .tuple #[.agg #[u],.agg #[.slice p n c,vb b],vi code]∧ao g' u D∧(code=0→b=bk∧Ims g' (.slice p n c) ims)∧(code≠0→b=false∧Ims g' (.slice p n c) [])
theorem Ims.nil (g:PH):Ims g (.slice none 0 0) []:=⟨[],zc1 g _,trivial⟩
theorem fW (l:List Cl):aN (aa l)=aN l:=by
 have ht:am (aa l)=am l:=by unfold am; rw[kp]
 unfold aN;rw[ht,kp,cg]
theorem sE (E:World)(g:PH)(s:Own)(v ev:Value)(l:List Cl)(e:Ed)(ims:List (Int×List Tm))(bk:Bool)(hv:ao g v l)(hf:bo l)(he:EdR g ev e)(hbad:(aN l).2≠0) :
  Ctr Tryz.prog E 37 #[.agg #[v],ev] g s (fun r g' s'=>s=s'∧Le g g'∧fj 1 [] ims bk r g'):=by
 obtain ⟨sv,pv,rfl,hsv,hpv⟩:=he;obtain ⟨sp,sc,rfl⟩:=za4 hsv;obtain ⟨pq,pc,rfl⟩:=za4 hpv;obtain ⟨p,c,rfl⟩:=hv.form;have hd:decide ((aR l).2=0)=false:=by rw[fN]; exact zg1 hbad
 refine zb2 (args:=[.agg #[.slice p l.length c],.agg #[vi e.kind,vi e.cell,vi e.dim,vi e.new,vi e.other,.slice sp e.sides.length sc,.slice pq e.pairs.length pc]]) func37 I ntmps37 (bE I)<|rZ (bW (bO I) fun b2=>?_);refine bW (bO I) fun b3=>bW (aL zl5) fun b4=>bW (aL zl7) fun b5=>aT I<|rZ<|lK (qV 3 aw ah I I I)<|lW (cL call65 I<|dF E g _ _ l hv hf) ?_;rintro _ g1 _ ⟨rfl,rfl,hle1⟩;rw[hd];exact aT I<|sQ<|sW I<|lU (SU.not I)<|tZ<|za2 I<|rZ<|lU (za3 I buildE29)<|lU (za3 I buildZ46)<|oZ (sK 1 ah I I I I I sB)<|oZ (sK 0 bC I I I I I sB)<|aT I<|rE<|tR<|ST.retCCT 1 0 s (.inl I) results37 I I I aw ah fm bC I I I I uR ⟨I,hle1,_,_,_,_,_,I,ao.nil _,(fun h=>by cases h),fun _=>⟨I,Ims.nil _⟩⟩
theorem fQ (E:World)(g:PH)(s:Own)(v ev:Value)(l:List Cl)(e:Ed)(code:Int)(D:List Cl)(ims:List (Int×List Tm))(bk:Bool)(hv:ao g v l)(hf:bo l)(he:EdR g ev e)(hr:(aN l).2=0)(hD:bo D)
  (hk:e.kind=1∨e.kind=2∨e.kind=3∨e.kind=4∨e.kind=5)
  (h1:e.kind=1→qK 70 e (aa l) code D ims bk) (h2:e.kind=2→qK 71 e (aa l) code D ims bk) (h3:e.kind=3→qK 72 e (aa l) code D ims bk) (h4:e.kind=4→qK 73 e (aa l) code D ims bk) (h5:e.kind=5→qK 74 e (aa l) code D ims bk) :
  Ctr Tryz.prog E 37 #[.agg #[v],ev] g s (fun r g' s'=>s=s'∧Le g g'∧fj (aW code D).1 (aW code D).2 ims bk r g'):=by
 have he0:=he;obtain ⟨sv,pv,rfl,hsv,hpv⟩:=he;obtain ⟨sp,sc,rfl⟩:=za4 hsv;obtain ⟨pq,pc,rfl⟩:=za4 hpv;obtain ⟨p,c,rfl⟩:=hv.form;have hd:decide ((aR l).2=0)=true:=by rw[fN]; exact zg2 hr
 refine zb2 (args:=[.agg #[.slice p l.length c],.agg #[vi e.kind,vi e.cell,vi e.dim,vi e.new,vi e.other,.slice sp e.sides.length sc,.slice pq e.pairs.length pc]]) func37 I ntmps37 (bE I)<|rZ (bW (bO I) fun b2=>?_);refine bW (bO I) fun b3=>bW (aL zl5) fun b4=>bW (aL zl7) fun b5=>aT I<|rZ<|lK (qV 3 aw ah I I I)<|lW (cL call65 I<|dF E g _ _ l hv hf) ?_;rintro _ g1 _ ⟨rfl,rfl,hle1⟩;rw[hd];refine aT I<|sQ<|sW I<|lU (SU.not I)<|tZ<|za1 I<|kP<|tN<|rZ<|lK (qV 3 aw ah I I I)<|lW (cL call59 I<|cC E g1 _ _ l (hv.mono hle1) hf) ?_;rintro _ g2 _ ⟨rfl,hle2,u2,rfl,hA⟩;obtain ⟨p2,c2,rfl⟩:=hA.form;refine bW (aL zl5) fun b8=>oZ (sK 0 ah I I I I I sB)<|tZ (rZ<|bW (aL zl5) fun b9=>?_);refine tZ (rZ<|bW (aL zl7) fun b10=>?_);refine tZ<|rZ<|aT I ?_;have hAl:=bJ hf;have he2:=he0.mono<|hle1.trans hle2;generalize aa l=A at *;refine SC.cut (ι:=PH×Value×Option Addr×Nat×Nat) (fun _=>[(4,pp b4 0),(5,pp b5 0),(9,pp b9 0),(10,pp b10 0),(11,vi code)]) (fun i=>i.1) (fun i=>pt b10 (.cells #[.slice i.2.2.1 i.2.2.2.1 i.2.2.2.2,vb bk] 46 (0,0))::pt b9 (.cells #[i.2.1] 29 (0,0))::pt b5 (.cells #[.slice none 0 0,vb false] 46 (0,0))::pt b4 (.cells #[.slice none 0 0] 29 (0,0))::s)
  (fun i=>Le g2 i.1∧ao i.1 i.2.1 D∧(code=0→Ims i.1 (.slice i.2.2.1 i.2.2.2.1 i.2.2.2.2) ims)) ?_ ?_
 ·rcases hk with hk | hk | hk | hk | hk
  ·refine rZ<|lU (fA aU I zT3 I)<|lK (qL iT3 I<|cO 5 I I)<|tZ<|bK<|rZ<|lU (SU.eq (v':=vb true) (eQ I I)<|ze5 vb<|zg2 hk)<|aT I<|za2 I<|rG<|lK (qV 2 aw ah I I I)<|lK (qV 5 jh eW I I I)<|lW (cL call70 I<|h1 hk E g2 _ _ _ hA he2) ?_;rintro _ g3 _ ⟨rfl,hle3,u3,p3,n3,c3,rfl,hc3,him3⟩;obtain ⟨pu,cu,rfl⟩:=hc3.form;exact lM I<|yX I<|yX I<|yX I<|oZ (sK 1 ah I I I I I sB)<|oZ (sK 0 bC I I I I I sB)<|lA I<|nL<|bN<|dR (.cons_cons _<|.cons_cons _<|.cons _<|.cons_cons _<|.cons_cons _<|.cons _<|.cons _<|.refl _)<|za9 (g3,_,p3,n3,c3) sB I I ⟨hle3,hc3,him3⟩
  ·refine rZ<|lU (fA aU I zT3 I)<|lK (qL iT3 I<|cO 5 I I)<|tZ<|bK<|rZ<|lU (SU.eq (v':=vb false) (eQ I I)<|ze5 vb<|zg1 oM)<|aT I<|za1 I<|rZ<|lU (SU.eq (v':=vb true) (eQ I I)<|ze5 vb<|zg2 hk)<|aT I<|za2 I<|rG<|lK (qV 2 aw ah I I I)<|lK (qV 5 jh eW I I I)<|lW (cL call71 I<|h2 hk E g2 _ _ _ hA he2) ?_;rintro _ g3 _ ⟨rfl,hle3,u3,p3,n3,c3,rfl,hc3,him3⟩;obtain ⟨pu,cu,rfl⟩:=hc3.form;exact lM I<|yX I<|yX I<|yX I<|oZ (sK 1 ah I I I I I sB)<|oZ (sK 0 bC I I I I I sB)<|lA I<|nL<|bN<|dR (.cons_cons _<|.cons_cons _<|.cons _<|.cons_cons _<|.cons_cons _<|.cons _<|.cons _<|.refl _)<|za9 (g3,_,p3,n3,c3) sB I I ⟨hle3,hc3,him3⟩
  ·refine rZ<|lU (fA aU I zT3 I)<|lK (qL iT3 I<|cO 5 I I)<|tZ<|bK<|rZ<|lU (SU.eq (v':=vb false) (eQ I I)<|ze5 vb<|zg1 oM)<|aT I<|za1 I<|rZ<|lU (SU.eq (v':=vb false) (eQ I I)<|ze5 vb<|zg1 oM)<|aT I<|za1 I<|rZ<|lU (SU.eq (v':=vb true) (eQ I I)<|ze5 vb<|zg2 hk)<|aT I<|za2 I<|rG<|lK (qV 2 aw ah I I I)<|lK (qV 5 jh eW I I I)<|lW (cL call72 I<|h3 hk E g2 _ _ _ hA he2) ?_;rintro _ g3 _ ⟨rfl,hle3,u3,p3,n3,c3,rfl,hc3,him3⟩;obtain ⟨pu,cu,rfl⟩:=hc3.form;exact lM I<|yX I<|yX I<|yX I<|oZ (sK 1 ah I I I I I sB)<|oZ (sK 0 bC I I I I I sB)<|lA I<|nL<|bN<|dR (.cons_cons _<|.cons_cons _<|.cons _<|.cons_cons _<|.cons_cons _<|.cons _<|.cons _<|.refl _)<|za9 (g3,_,p3,n3,c3) sB I I ⟨hle3,hc3,him3⟩
  ·refine rZ<|lU (fA aU I zT3 I)<|lK (qL iT3 I<|cO 5 I I)<|tZ<|bK<|rZ<|lU (SU.eq (v':=vb false) (eQ I I)<|ze5 vb<|zg1 oM)<|aT I<|za1 I<|rZ<|lU (SU.eq (v':=vb false) (eQ I I)<|ze5 vb<|zg1 oM)<|aT I<|za1 I<|rZ<|lU (SU.eq (v':=vb false) (eQ I I)<|ze5 vb<|zg1 oM)<|aT I<|za1 I<|rZ<|lU (SU.eq (v':=vb true) (eQ I I)<|ze5 vb<|zg2 hk)<|aT I<|za2 I<|rG<|lK (qV 2 aw ah I I I)<|lK (qV 5 jh eW I I I)<|lW (cL call73 I<|h4 hk E g2 _ _ _ hA he2) ?_;rintro _ g3 _ ⟨rfl,hle3,u3,p3,n3,c3,rfl,hc3,him3⟩;obtain ⟨pu,cu,rfl⟩:=hc3.form;exact lM I<|yX I<|yX I<|yX I<|oZ (sK 1 ah I I I I I sB)<|oZ (sK 0 bC I I I I I sB)<|lA I<|nL<|bN<|dR (.cons_cons _<|.cons_cons _<|.cons _<|.cons_cons _<|.cons_cons _<|.cons _<|.cons _<|.refl _)<|za9 (g3,_,p3,n3,c3) sB I I ⟨hle3,hc3,him3⟩
  ·refine rZ<|lU (fA aU I zT3 I)<|lK (qL iT3 I<|cO 5 I I)<|tZ<|bK<|rZ<|lU (SU.eq (v':=vb false) (eQ I I)<|ze5 vb<|zg1 oM)<|aT I<|za1 I<|rZ<|lU (SU.eq (v':=vb false) (eQ I I)<|ze5 vb<|zg1 oM)<|aT I<|za1 I<|rZ<|lU (SU.eq (v':=vb false) (eQ I I)<|ze5 vb<|zg1 oM)<|aT I<|za1 I<|rZ<|lU (SU.eq (v':=vb false) (eQ I I)<|ze5 vb<|zg1 oM)<|aT I<|za1 I<|rZ<|lU (SU.eq (v':=vb true) (eQ I I)<|ze5 vb<|zg2 hk)<|aT I<|za2 I<|rG<|lK (qV 2 aw ah I I I)<|lK (qV 5 jh eW I I I)<|lW (cL call74 I<|h5 hk E g2 _ _ _ hA he2) ?_;rintro _ g3 _ ⟨rfl,hle3,u3,p3,n3,c3,rfl,hc3,him3⟩;obtain ⟨pu,cu,rfl⟩:=hc3.form;exact lM I<|yX I<|yX I<|yX I<|oZ (sK 1 ah I I I I I sB)<|oZ (sK 0 bC I I I I I sB)<|lA I<|nL<|bN<|dR (.cons_cons _<|.cons_cons _<|.cons _<|.cons_cons _<|.cons_cons _<|.cons _<|.cons _<|.refl _)<|za9 (g3,_,p3,n3,c3) sB I I ⟨hle3,hc3,him3⟩
 rintro ⟨g3,u3,p3,n3,c3⟩ ⟨hle3,hc3,him3⟩;dsimp only at hle3 hc3 him3 ⊢;have hle13:=hle1.trans<|hle2.trans hle3;obtain ⟨pu,cu,rfl⟩:=hc3.form;refine sQ<|sW I<|yE I<|tZ<|iP I (fun h0=>?_) (fun h0=>?_)
 ·subst h0;have hout:aW 0 D=if (aN D).2≠0 then ((aN D).2,[]) else (0,aa D):=by unfold aW; rw[fW]; rfl
  rw[hout];refine rG<|lK (qV 1 aw ah I I I)<|lW (cL call75 I<|k6 E g3 _ _ D hc3 hD) ?_;rintro _ g4 _ ⟨rfl,rfl,hle4⟩;rw[fN];refine lM I<|yX I<|yX I<|aT I<|sQ<|sW I<|lU (nQ I I)<|tZ<|iP I (fun hz=>?_) (fun hz=>?_)
  ·have he3:(if (aN D).2≠0 then ((aN D).2,[]) else ((0:Int),aa D))=((aN D).2,[]):=zg4 hz;rw[he3];exact rZ<|lU (za3 I buildE29)<|lU (za3 I buildZ46)<|lM I<|oZ (sK 3 ah I I I I I sB)<|oZ (sK 2 bC I I I I I sB)<|aT I<|rE<|tR<|ST.retCCT 3 2 s (.inl I) results37 I I I aw ah fm bC I I I I uR ⟨I,hle13.trans hle4,_,_,_,_,_,I,ao.nil _,fun h=>absurd h hz,fun _=>⟨I,Ims.nil _⟩⟩
  ·have he3:(if (aN D).2≠0 then ((aN D).2,[]) else ((0:Int),aa D))=(0,aa D):=zg3 hz;rw[he3];refine kP<|tN<|sQ ?_;refine SC.drawX [2,3,4] ze6 kR ?_
   repeat' (first
    | (refine SB.o (i:=0) I (SQ.sof<|qV 1 aw ah I I I) dC (.inr iR) ?_; rintro _ _ _ ⟨rfl,rfl,rfl⟩)
    | (refine SB.ob (i:=0) I (SQ.sof<|qV 1 aw ah I I I) dC kD ?_; rintro _ _ _ ⟨rfl,rfl,rfl⟩)
    | (refine SB.o (i:=1) I (cL call59 I<|cC E g4 _ _ D (hc3.mono hle4) hD) dC (.inr iR) ?_; rintro _ g5 _ ⟨rfl,hle5,u5,rfl,hA5⟩; obtain ⟨p5,c5,rfl⟩:=hA5.form)
    | (refine SB.ob (i:=1) I (cL call59 I<|cC E g4 _ _ D (hc3.mono hle4) hD) dC kD ?_; rintro _ g5 _ ⟨rfl,hle5,u5,rfl,hA5⟩; obtain ⟨p5,c5,rfl⟩:=hA5.form)
    | (refine SB.o (i:=2) I (SQ.sof<|qV 0 fm bC I I I) dC (.inl dC) ?_; rintro _ _ _ ⟨rfl,rfl,rfl⟩)
    | (refine SB.on (i:=3) I (sK 3 ah I I I I I sB) (.inl dC) ?_; rintro _ _ _ ⟨rfl,rfl⟩)
    | (refine SB.on (i:=4) I (sK 2 bC I I I I I sB) (.inl dC) ?_; rintro _ _ _ ⟨rfl,rfl⟩; refine SX.u (i:=5) I kD (aS I) dC ?_)
    | refine zd9 0 2 kD ?_ ?_
    | refine zd9 1 2 kD ?_ ?_
    | refine zd9 2 3 kD ?_ ?_
    | refine zd8 3 kD ?_
    | refine zd8 4 kD ?_
    | refine zd8 2 kD ?_
    | refine zd8 1 kD ?_
    | refine zd8 0 kD ?_
    | (refine SX.nil kD ?_; refine tN ?_; refine rE ?_; exact ST.retCCT 3 2 s (.inl I) results37 I I I aw ah fm bC I I I I uR ⟨I,hle13.trans (hle4.trans hle5),_,_,_,_,_,I,hA5,fun _=>⟨I,(him3 I).mono (hle4.trans hle5)⟩,fun h=>absurd I h⟩))
 ·have hout:aW code D=(code,[]):=zg4 h0;rw[hout];refine kP<|tN<|sQ<|sW I<|lU (nQ I I)<|tZ<|iP I (fun hz=>?_) (fun hz=>?_)
  ·exact rZ<|lU (za3 I buildE29)<|lU (za3 I buildZ46)<|lM I<|oZ (sK 3 ah I I I I I sB)<|oZ (sK 2 bC I I I I I sB)<|aT I<|rE<|tR<|ST.retCCT 3 2 s (.inl I) results37 I I I aw ah fm bC I I I I uR ⟨I,hle13,_,_,_,_,_,I,ao.nil _,fun h=>absurd h h0,fun _=>⟨I,Ims.nil _⟩⟩
  ·exact absurd h0 hz
theorem qA (E:World)(g:PH)(s:Own)(v ev:Value)(l:List Cl)(e:Ed)(ims:List (Int×List Tm))(bk:Bool)(hv:ao g v l)(hf:bo l)(he:EdR g ev e)(hr:(aN l).2=0)
  (hk1:e.kind≠1) (hk2:e.kind≠2) (hk3:e.kind≠3) (hk4:e.kind≠4) (hk5:e.kind≠5) :
  Ctr Tryz.prog E 37 #[.agg #[v],ev] g s (fun r g' s'=>s=s'∧Le g g'∧fj 1 [] ims bk r g'):=by
 obtain ⟨sv,pv,rfl,hsv,hpv⟩:=he;obtain ⟨sp,sc,rfl⟩:=za4 hsv;obtain ⟨pq,pc,rfl⟩:=za4 hpv;obtain ⟨p,c,rfl⟩:=hv.form;have hd:decide ((aR l).2=0)=true:=by rw[fN]; exact zg2 hr
 refine zb2 (args:=[.agg #[.slice p l.length c],.agg #[vi e.kind,vi e.cell,vi e.dim,vi e.new,vi e.other,.slice sp e.sides.length sc,.slice pq e.pairs.length pc]]) func37 I ntmps37 (bE I)<|rZ (bW (bO I) fun b2=>?_);refine bW (bO I) fun b3=>bW (aL zl5) fun b4=>bW (aL zl7) fun b5=>aT I<|rZ<|lK (qV 3 aw ah I I I)<|lW (cL call65 I<|dF E g _ _ l hv hf) ?_;rintro _ g1 _ ⟨rfl,rfl,hle1⟩;rw[hd];refine aT I<|sQ<|sW I<|lU (SU.not I)<|tZ<|za1 I<|kP<|tN<|rZ<|lK (qV 3 aw ah I I I)<|lW (cL call59 I<|cC E g1 _ _ l (hv.mono hle1) hf) ?_;rintro _ g2 _ ⟨rfl,hle2,u2,rfl,hA⟩;obtain ⟨p2,c2,rfl⟩:=hA.form;refine bW (aL zl5) fun b8=>oZ (sK 0 ah I I I I I sB)<|tZ (rZ<|bW (aL zl5) fun b9=>?_);refine tZ (rZ<|bW (aL zl7) fun b10=>?_);refine tZ<|rZ<|aT I<|sQ<|rZ<|lU (fA aU I zT3 I)<|lK (qL iT3 I<|cO 5 I I)<|tZ<|bK<|rZ<|lU (SU.eq (v':=vb false) (eQ I I)<|ze5 vb<|zg1 hk1)<|aT I<|za1 I<|rZ<|lU (SU.eq (v':=vb false) (eQ I I)<|ze5 vb<|zg1 hk2)<|aT I<|za1 I<|sQ<|rG<|lU (SU.eq (v':=vb false) (eQ I I)<|ze5 vb<|zg1 hk3)<|aT I<|za1 I<|rZ<|lU (SU.eq (v':=vb false) (eQ I I)<|ze5 vb<|zg1 hk4)<|aT I<|za1 I<|rZ<|lU (SU.eq (v':=vb false) (eQ I I)<|ze5 vb<|zg1 hk5)<|aT I<|za1 I<|kP<|bN<|tN<|sQ<|sW I<|yE I<|tZ<|iP I (fun h0=>?_) (fun h0=>?_)
 ·cases h0
 ·refine kP<|tN<|sQ<|sW I<|lU (nQ I I)<|tZ<|iP I (fun hz=>?_) (fun hz=>?_)
  ·exact rZ<|lU (za3 I buildE29)<|lU (za3 I buildZ46)<|lM I<|oZ (sK 4 ah I I I I I sB)<|oZ (sK 3 bC I I I I I sB)<|aT I<|rE<|tR<|ST.retCCT 4 3 s (.inl I) results37 I I I aw ah fm bC I I I I uR ⟨I,hle1.trans hle2,_,_,_,_,_,I,ao.nil _,(fun h=>by cases h),fun _=>⟨I,Ims.nil _⟩⟩
  ·exact absurd dC hz
open Go Go.Sy Go.Pl Go.Proofs Go.Shelf Go.Sort
theorem o8 {α:Type}[Inhabited α]{k:Nat}(en:Enc α k)(l:List α):(flatK en.enc k l.toArray).toList=l.flatMap en.enc:=by
 apply List.ext_getElem?;intro t;by_cases ht:t<l.length * k
 ·have h1:t / k<l.length:=by rw[Nat.div_lt_iff_lt_mul en.pos]; exact ht
  have h2:t % k<k:=Nat.mod_lt _ en.pos;have h3:l[t / k]?=some l[t / k]:=gE h1;have h4:t % k<(en.enc l[t / k]).length:=by rw[en.len]; exact h2
  have h5:=Enc.get (e:=en) (l:=l) h3<|gE h4;rw[show t / k * k+t % k=t from Nat.div_add_mod' t k] at h5;rw[h5];have hs:t<(flatK en.enc k l.toArray).size:=by simpa using ht
  rw[Array.getElem?_toList,Array.getElem?_eq_getElem hs];have h6:=get_flatK en.enc k l.toArray t (by simpa using ht);rw[getElem!_pos _ t hs] at h6;rw[h6];have h7:l.toArray[t / k]! = l[t / k]:=by rw[getElem!_pos l.toArray (t / k) (by simpa using h1)]; simp
  rw[h7,getElem!_pos (en.enc l[t / k]) (t % k) h4]
 ·rw[List.getElem?_eq_none (by simp; omega),List.getElem?_eq_none (by rw[Enc.length]; omega)]
def CT (P:Program)(fn:Nat){α:Type}(enc:α→List Value)(cf:α→α→Int):Prop:=∀ (E:World) (g:PH) (s:Own) (x y:α),
 Ctr P E fn #[.agg (enc x).toArray,.agg (enc y).toArray] g s (fun r g' s'=>r = .int .i64 (cf x y)∧g=g'∧s=s')
theorem uH {P:Program}{ρ:Ren}(L:SlLaysF0.n6 P ρ){α:Type}[Inhabited α]{k:Nat}(en:Enc α k)(aE:∀ w,(isAgg<|ρ.t 24).run P w = .ok true w)(zE:∀ w,(Go.sizeOf<|ρ.t 24).run P w = .ok k w)(cf:α→α→Int)(hO:SWO (ltOf cf))(fn:Nat)
  (eg:∀ args w,(callFunc fn args).run P w = .ok (.enter fn args) w) (hcmp:CT P fn en.enc cf) (T:TypeId) (E:World) (g:PH) (s:Own) (v:Value) (l:List α) (i:Nat) (hi:s[i]?=some (rowA en T v l)) (hl:l.length<1099511627776) :
  Ctr P E (ρ.f 6) #[v,.func (.func fn) #[] #[]] g s (fun _ g' s'=>g=g'∧∃ l':List α,l'.Perm l∧(l'.Pairwise fun x y=>¬ cf y x<0)∧s'=s.set i (rowA en T v l')):=by
 intro w hw;obtain ⟨h1,h2⟩:=f9 hw hi
 rcases h2 with ⟨p,rfl,hn⟩ | ⟨b,cap,cur,rfl,hb,hle,hcm,hcs,ht⟩
 ·have hnil:l=[]:=zf7 hn;subst hnil;refine (AnyF.slices_SortFunc_none L p 0 (.func (.func fn) #[] #[]) w).mono ?_;rintro e w' ⟨rfl,rfl⟩;exact⟨_,g,s,I,hw,I,[],.nil,.nil,(mH hi).symm⟩
 ·have hfr:=hw.fresh _ (zg5 hi) b rfl;have hblt:=(Array.getElem?_eq_some_iff.1 hb).1;have hfl:=o8 en l;have hcmp':CmpLays P fn #[] en.enc k cf b 0 l.toArray.size w:=by
   intro m os dk hs x y;refine (hcmp (sortWorldK en.enc k w b 0 m dk os) (uv _) [] x y _ (A5 _)).mono ?_;rintro e w' ⟨v',g',s',rfl,hat,rfl,rfl,rfl⟩;exact⟨I,vh hat⟩
  have hH:HoldsK en.enc k w b 0 l.toArray:=by
   intro j hj;have hj':j<l.length * k:=by simpa using hj
   refine⟨?_,by simp[World.frozen?,hb]⟩;have h1:(cur.toList.take<|l.length * k)[j]?=(flatK en.enc k l.toArray).toList[j]?:=by rw[ht,hfl]
   rw[List.getElem?_take_of_lt hj'] at h1;have hs:j<(flatK en.enc k l.toArray).size:=by simpa using hj'
   simp only[World.cell?,hb,Nat.zero_add];simp only[Option.isSome_none,Bool.false_eq_true,if_false];rw[← Array.getElem?_toList,h1,Array.getElem?_toList,Array.getElem?_eq_getElem hs,getElem!_pos _ j hs];rfl
  refine (AnyQ.slices_SortFunc L k aE zE en.enc en.len en.one cf hO fn #[] b 0 (cap+1) l.toArray w eg hcmp' hH hblt (by simp; omega)).mono ?_;rintro e w' ⟨rfl,d',n,os,hp,hsd,rfl⟩;obtain ⟨d'⟩:=d';have hdl:d'.length=l.length:=by have:=hp.1; simpa using this
  have hperm:d'.Perm l:=by
   have h5:=hp.2.2;simp only[List.size_toArray,List.extract_toArray] at h5;simpa [List.extract_eq_take_drop,hdl,tL<|Nat.le_of_eq hdl] using h5
  have hsrt:d'.Pairwise fun x y=>¬ cf y x<0:=by
   rw[zd1];intro i j hi hj hij;have h5:=hsd i j (zf9 _) hij (by simp; omega);simp only[ltOf,decide_eq_false_iff_not] at h5;simpa [hi,hj] using h5
  have hfd:=o8 en d';have hfs:(flatK en.enc k d'.toArray).size=l.length * k:=by simp[hdl]
  refine⟨_,g,s.set i<|rowA en T (.slice (some ⟨b,0,none⟩) l.length<|cap+1) d',I,?_,I,d',hperm,hsrt,I⟩;have h5:(sortWorldK en.enc k w b 0 n d'.toArray os).heap[b]?=some (.cells (putCells id 0 (flatK en.enc k d'.toArray) cur) T (0,0)):=by
   show (grow (putRow id (Sort.ahead w n) b 0<|flatK en.enc k d'.toArray) os).heap[b]?=_;rw[heap_grow_old _ _ (by simpa using hblt)];simp[putRow,mapBlock,Sort.ahead,Array.getElem?_modify,hb,onCells]
  exact hw.turn (i:=i) (w':=sortWorldK en.enc k w b 0 n d'.toArray os) (e':=rowA en T (.slice (some ⟨b,0,none⟩) l.length (cap+1)) d') hi I ⟨I,Nat.le_add_right _ _⟩ I (by simp[sortWorldK,grow,putRowK,putRow,mapBlock,Sort.ahead]) (fun q hq hne=>by
    have hne':b≠q:=fun e=>hne (by rw[e]; rfl);show (grow (putRow id (Sort.ahead w n) b 0 (flatK en.enc k d'.toArray)) os).heap[q]?=_;rw[heap_grow_old _ _ (by simpa using hq)];simp[putRow,mapBlock,Sort.ahead,Array.getElem?_modify,hne']) (by
    have:=dD (w:=sortWorldK en.enc k w b 0 n d'.toArray os) (T:=T) (k:=k) (n:=d'.length) (b:=b) (cap:=cap) (xs:=d'.flatMap en.enc) (by rw[en.length]) h5 oM hcm (by simp[putCells]; simpa using hcs) (by
     rw[← hfd];apply List.ext_getElem?;intro j;by_cases hj:j<d'.length * k
     ·have hj2:j<(flatK en.enc k d'.toArray).size:=by simpa using hj
      have hj3:j<cur.size:=by
       have:d'.length * k≤(cap+1) * k:=Nat.mul_le_mul_right _ oM;omega
      rw[List.getElem?_take_of_lt hj,Array.getElem?_toList,Array.getElem?_toList,Array.getElem?_eq_getElem hj2];simp only[putCells,Array.getElem?_mapIdx,Array.getElem?_eq_getElem hj3,Option.map_some,zf9,true_and,Nat.zero_add,Nat.sub_zero];rw[zg4 hj2,getElem!_pos _ j hj2];rfl
     ·rw[List.getElem?_take_eq_none oM,List.getElem?_eq_none (by simp; omega)])
    rw[show rowA en T (.slice (some ⟨b,0,none⟩) l.length (cap+1)) d'=row T k (.slice (some ⟨b,0,none⟩) d'.length (cap+1)) d'.length (d'.flatMap en.enc) by simp only[rowA,hdl]];exact this) (fun b' hb'=>by
    simp only[rowA,row,kF,zh1] at hb';subst hb';exact⟨(Array.getElem?_eq_some_iff.1 h5).1,.inl I⟩)
set_option maxHeartbeats 2000000
abbrev Ts:=List (Int×Value×List Tm)
def dv (ts:Ts):Own:=ts.map fun t=>rowA ci 77 t.2.1 t.2.2
def gO (ts:Ts):List (Int×Value):=ts.map fun t=>(t.1,t.2.1)
theorem rj (k:Int):∀ ts:Ts,(dS (gO ts) k=none∧∀ t∈ts,t.1≠k)∨∃ (m:Nat) (t:Int×Value×List Tm),ts[m]?=some t∧t.1=k∧dS (gO ts) k=some t.2.1∧ts.find? (fun t=>decide (t.1=k))=some t
 | []=>.inl ⟨rfl,by simp⟩
 | t::ts=>by
  have hc:gO (t::ts)=(t.1,t.2.1)::gO ts:=rfl;rw[hc,cQ];by_cases h:k=t.1
  ·rw[zg4 h];exact .inr ⟨0,t,I,h.symm,I,by rw[zi9,zg2 h.symm]⟩
  ·rw[zg3 h]
   rcases rj k ts with ⟨h1,h2⟩ | ⟨m,u,h1,h2,h3,h4⟩
   ·exact .inl ⟨h1,fun x hx=>by
     rcases zf4.1 hx with rfl | hx
     ·exact fun e=>h e.symm
     ·exact h2 x hx⟩
   ·exact .inr ⟨m+1,u,h1,h2,h3,by rw[zi9,zg1 (fun e=>h e.symm)]; exact h4⟩
theorem xX {ts:Ts}{m:Nat}{t:Int×Value×List Tm}(h:ts[m]?=some t)(p q:Own):(p++(dv ts++q))[p.length+m]?=some (rowA ci 77 t.2.1 t.2.2):=by
 have hj:=(zf8.1 h).1;rw[rz,zh5 (by simpa [dv] using hj)];simp[dv,h]
theorem xW {ts:Ts}{m:Nat}{t:Int×Value×List Tm}(h:ts[m]?=some t)(l':List Tm)(p q:Own):(p++(dv ts++q)).set (p.length+m) (rowA ci 77 t.2.1 l')=p++(dv (ts.set m (t.1,t.2.1,l'))++q):=by
 have hj:=(zf8.1 h).1;rw[List.set_append_right _ _ oM,Nat.add_sub_cancel_left,List.set_append_left _ _ (by simpa [dv] using hj)];simp[dv,List.map_set]
theorem freezeRowsT {E:World}{w:World}:∀ (ts:Ts) (g:PH) (s:Own),At E g (dv ts++s) w→∃ g',Le g g'∧At E g' s w∧∀ t∈ts,SlA ci g' t.2.1 t.2.2
 | [],g,s,h=>⟨g,zb9 g,h,by simp⟩
 | (a,v,l)::r,g,s,h=>by
  have h':At E g (row 77 3 v l.length (l.flatMap ci.enc)::(dv r++s)) w:=h;obtain ⟨g1,hl1,h1,h2⟩:=h'.freezeRow;obtain ⟨g2,hl2,h3,h4⟩:=freezeRowsT r g1 s h1;refine⟨g2,hl1.trans hl2,h3,fun t ht=>?_⟩
  rcases zf4.1 ht with rfl | ht
  ·exact Sl.mono h2 hl2
  ·exact h4 t ht
theorem SC.freezeRowsT {P:Program}{N:Nat}{E:World}{c:Code}{Q:Exit→Act→World→Prop}{f:Fr}{g:PH}{p q:Own}{ts:Ts}(h:∀ g',Le g g'→(∀ t∈ts,SlA ci g' t.2.1 t.2.2)→SC P N E c Q f g' (p++q)):SC P N E c Q f g (p++(dv ts++q)):=fun a w ha hw=>by
 have h0:(p++(dv ts++q)).Perm (dv ts++(p++q)):=by
  rw[← zh2,← zh2];exact List.perm_append_comm.append_right q
 obtain ⟨g',h1,h2,h3⟩:=Go.Proofs.YtackilpikhkijaaGreatDoor.freezeRowsT ts g (p++q)<|hw.perm h0;exact h g' h1 h3 a w ha h2
def zo (ts:Ts):Prop:=∀ t∈ts,t.2.2.length<1099511627776∧(t.2.2.map Prod.fst).Nodup∧∃ p n c,t.2.1 = .slice p n c
def qQ (ts:Ts)(k:Int):List Tm:=match ts.find? (fun t=>decide (t.1=k)) with
 | some t=>sortBy Prod.fst t.2.2
 | none=>[(k,1)]
theorem xP {l l':List Tm}(hp:l'.Perm l)(hs:l'.Pairwise fun x y=>¬ jO y.1 x.1<0)(hn:(l.map Prod.fst).Nodup):l'=sortBy Prod.fst l:=by
 have h1:Srt Prod.fst l':=hs.imp fun h=>by rw[cN] at h; omega
 exact cR h1<|qW hp.symm hn
def Tryz.sortT_ren:Ren :=
 {
  f:=fun x =>
   match x with
   | 6=>88
   | 15=>131
   | 14=>130
   | 28=>157
   | 29=>158
   | 20=>149
   | 21=>150
   | 22=>151
   | 23=>152
   | 24=>153
   | 25=>154
   | 26=>155
   | 27=>156
   | 46=>185
   | 47=>186
   | 48=>187
   | 49=>188
   | 50=>189
   | 57=>212
   | n=>n,
  t:=fun x =>
   match x with
   | 22=>72
   | 24=>77
   | 25=>134
   | 3=>3
   | 39=>170
   | 0=>0
   | 53=>192
   | 55=>114
   | 4=>4
   | 46=>186
   | 45=>185
   | 50=>118
   | 5=>5
   | 9=>9
   | 66=>214
   | 70=>218
   | 76=>239
   | 77=>240
   | n=>n,
  g:=fun x =>
   have n:=x;
   n }
theorem Tryz.sortT:SlLaysF0.n6 Tryz.prog Tryz.sortT_ren :=
  {
  mixed:=Eq.refl true,
  f6 :=
   Exists.intro "slices.SortFunc[[]cocycle/api.Term,cocycle/api.Term]"
    ⟨zg6 (id (Eq.refl true)),
     zb8 func88
      (ze5 some
       kR)⟩,
  f14 :=
   Exists.intro "slices.pdqsortCmpFunc[cocycle/api.Term]"
    ⟨zg6 (id (Eq.refl true)),
     zb8 func130
      (ze5 some
       kR)⟩,
  f15:=zb8 func131<|ze5 some kR,
  f20 :=
   Exists.intro "slices.insertionSortCmpFunc[cocycle/api.Term]"
    ⟨zg6 (id (Eq.refl true)),
     zb8 func149
      (ze5 some
       kR)⟩,
  f21 :=
   Exists.intro "slices.heapSortCmpFunc[cocycle/api.Term]"
    ⟨zg6 (id (Eq.refl true)),
     zb8 func150
      (ze5 some
       kR)⟩,
  f22 :=
   Exists.intro "slices.breakPatternsCmpFunc[cocycle/api.Term]"
    ⟨zg6 (id (Eq.refl true)),
     zb8 func151
      (ze5 some
       kR)⟩,
  f23 :=
   Exists.intro "slices.choosePivotCmpFunc[cocycle/api.Term]"
    ⟨zg6 (id (Eq.refl true)),
     zb8 func152
      (ze5 some
       kR)⟩,
  f24 :=
   Exists.intro "slices.reverseRangeCmpFunc[cocycle/api.Term]"
    ⟨zg6 (id (Eq.refl true)),
     zb8 func153
      (ze5 some
       kR)⟩,
  f25 :=
   Exists.intro "slices.partialInsertionSortCmpFunc[cocycle/api.Term]"
    ⟨zg6 (id (Eq.refl true)),
     zb8 func154
      (ze5 some
       kR)⟩,
  f26 :=
   Exists.intro "slices.partitionEqualCmpFunc[cocycle/api.Term]"
    ⟨zg6 (id (Eq.refl true)),
     zb8 func155
      (ze5 some
       kR)⟩,
  f27 :=
   Exists.intro "slices.partitionCmpFunc[cocycle/api.Term]"
    ⟨zg6 (id (Eq.refl true)),
     zb8 func156
      (ze5 some
       kR)⟩,
  f28:=zb8 func157<|ze5 some kR,
  f29:=zb8 func158<|ze5 some kR,
  f46 :=
   Exists.intro "slices.siftDownCmpFunc[cocycle/api.Term]"
    ⟨zg6 (id (Eq.refl true)),
     zb8 func185
      (ze5 some
       kR)⟩,
  f47:=zb8 func186<|ze5 some kR,
  f48:=zb8 func187<|ze5 some kR,
  f49 :=
   Exists.intro "slices.medianAdjacentCmpFunc[cocycle/api.Term]"
    ⟨zg6 (id (Eq.refl true)),
     zb8 func188
      (ze5 some
       kR)⟩,
  f50 :=
   Exists.intro "slices.medianCmpFunc[cocycle/api.Term]"
    ⟨zg6 (id (Eq.refl true)),
     zb8 func189
      (ze5 some
       kR)⟩,
  f57 :=
   Exists.intro "slices.order2CmpFunc[cocycle/api.Term]"
    ⟨zg6 (id (Eq.refl true)),
     zb8 func212
      (ze5 some
       kR)⟩,
  t0:=underlying0,a0:=isAgg0,z0:=sizeOf0,v0:=zeroValue0,t3:=uT3,
  a3:=iT3,z3:=zT3,v3:=zeroValue3,t4:=uT4,a4:=isAgg4,
  z4:=zT4,v4:=zeroValue4,t5:=uT5,a5:=isAgg5,z5:=sizeOf5,
  v5:=zeroValue5,t9:=uT9,a9:=isAgg9,z9:=sizeOf9,v9:=zeroValue9,
  t22:=zk,a22:=isAgg72,z22:=sizeOf72,v22:=zeroValue72,
  t25:=underlying134,a25:=isAgg134,z25:=sizeOf134,v25:=zeroValue134,
  t39:=fG,a39:=isAgg170,z39:=sizeOf170,v39:=zeroValue170,
  t45:=underlying185,a45:=isAgg185,z45:=sizeOf185,v45:=zeroValue185,
  t46:=underlying186,a46:=isAgg186,z46:=sizeOf186,v46:=zeroValue186,
  t50:=underlying118,a50:=isAgg118,z50:=sizeOf118,v50:=zeroValue118,
  t53:=underlying192,a53:=isAgg192,z53:=sizeOf192,v53:=zeroValue192,
  t55:=lT,a55:=isAgg114,z55:=sizeOf114,v55:=zeroValue114,
  t66:=underlying214,a66:=isAgg214,z66:=sizeOf214,v66:=zeroValue214,
  t70:=underlying218,a70:=isAgg218,z70:=sizeOf218,v70:=zeroValue218,
  t76:=underlying239,a76:=isAgg239,z76:=sizeOf239,v76:=zeroValue239,
  t77:=underlying240,a77:=isAgg240,z77:=sizeOf240,v77:=zeroValue240 }
theorem BZ:CT Tryz.prog 89 ci.enc (fun x y=>jO x.1 y.1):=by
 intro E g s x y;obtain ⟨x1,x2⟩:=x;obtain ⟨y1,y2⟩:=y;refine zb2 (args:=[.agg #[vi x1,vb<|zw x2,txt<|qP x2.natAbs],.agg #[vi y1,vb<|zw y2,txt<|qP y2.natAbs]]) func89 I ntmps89 (bE I)<|rZ (bW (bO I) fun b2=>?_);refine bW (bO I) fun b3=>aT I<|rZ<|lU (fA underlying77 I zT3 I)<|lK (qL (v:=vi x1) iT3 I<|cO 1 I I)<|lU (fA underlying77 I zT3 I)<|lK (qL (v:=vi y1) iT3 I<|cO 0 I I)<|lW (cL call90 I<|ec E g _ x1 y1) ?_;rintro _ _ _ ⟨rfl,rfl,rfl⟩;exact aT I<|rE<|dR (s':=s) uR<|za8 (.inl I) results89 I ⟨I,I,I⟩
theorem Cu {α:Type}(key:α→Int):SWO (ltOf fun x y:α=>jO (key x)<|key y):=⟨fun x=>by simp[ltOf,cN],fun x y z h1 h2=>by simp[ltOf,cN] at *; omega,fun x y z h1 h2=>by simp[ltOf,cN] at *; omega⟩
theorem xQ (E:World)(g:PH)(s:Own)(v:Value)(l:List Tm)(i:Nat)(hi:s[i]?=some (rowA ci 77 v l))(hl:l.length<1099511627776)(hn:(l.map Prod.fst).Nodup) :
  Ctr Tryz.prog E 88 #[v,.func (.func 89) #[] #[]] g s (fun _ g' s'=>g=g'∧s'=s.set i (rowA ci 77 v<|sortBy Prod.fst l)) :=
 (uH Tryz.sortT ci isAgg77 sizeOf77 (fun x y=>jO x.1 y.1) (Cu Prod.fst) 89 call89 BZ 77 E g s v l i hi hl).mono fun _ _ _ ⟨h1,l',h2,h3,h4⟩=>⟨h1,by rw[h4,xP h2 h3 hn]⟩
theorem wk (E:World)(g:PH)(p q:Own)(b2 bx mb ms:Nat)(u:Value)(bk:Bool)(k:Int)(ts:Ts)(hts:zo ts)(i j z:Nat)(hq:p[z]?=some (pt b2<|.cells #[pp bx 0] 97 (0,0)))(hi:p[i]?=some (edP bx u mb ms bk))(hj:p[j]?=some (mp ms<|gO ts)) :
  dA Tryz.prog E (.func (.func 86) #[] #[pp b2 0]) [vi k] g (p++(dv ts++q)) (fun r g' s'=>Le g g'∧∃ ts',s'=p++(dv ts'++q)∧((ts.find? (fun t=>decide (t.1=k))=none∧ts'=ts∧SlA ci g' r [(k,1)])∨∃ (m:Nat) (t:Int×Value×List Tm),ts[m]?=some t∧t.1=k∧ts.find? (fun t=>decide (t.1=k))=some t∧r=t.2.1∧ts'=ts.set m (t.1,t.2.1,sortBy Prod.fst t.2.2))):=by
 refine dA.mk (args:=[_]) (cap:=[pp b2 0]) call86 ?_;have left:∀ {n:Nat} {x:Ent},p[n]?=some x→(p++(dv ts++q))[n]?=some x:=fun {n x} h=>by
  rw[zh5 (zf8.1 h).1]; exact h
 have hq':=left hq;have hi':=left hi;have hj':=left hj;generalize hs:p++(dv ts++q)=s at *
 rcases rj k ts with ⟨h1,h2⟩ | ⟨m,t,h1,h2,h3,h4⟩
 ·have hf:ts.find? (fun t=>decide (t.1=k))=none:=List.find?_eq_none.2 fun t ht=>by simpa using h2 t ht
  refine zb2 (args:=[vi k,pp b2 0]) func86 I ntmps86 (bE I)<|rZ<|aT I<|rZ<|lK (qL (v:=pp bx 0) isAgg97 I<|cO z hq' I)<|lU (nC I)<|lU (fA dh I sizeOf127 I)<|lK (qL (v:=.map<|some ms) isAgg127 I<|cO i hi' I)<|lM I<|lK (SQ.eq (v':=.tuple #[.slice none 0 0,vb false]) (SQ.lookupOk mty127 I I<|cH.own j hj') (by rw[h1]; rfl)) ?_;refine lM I<|yX I<|yX I<|lA I<|aT I<|sQ<|sW I<|lU (SU.not I)<|tZ<|za2 I<|sW I<|lW (cL call87 I<|ji E g _ k 1 dC dC) ?_;rintro _ g1 _ ⟨rfl,rfl,hle1⟩;refine lW (bS sty72 I I I (ae ⟨I,trivial⟩) dC) ?_;rintro _ _ _ ⟨b19,rfl,rfl,rfl⟩;refine zb5 fun g2 hle2 hb2=>?_;exact aT I<|rE<|tR<|za8 (.inl I) results86 I ⟨hle1.trans hle2,ts,hs.symm,.inl ⟨hf,I,SlA.lit hb2 I I⟩⟩
 ·have hrow:=xX h1 p q;have hset:=xW h1 (sortBy Prod.fst t.2.2) p q;rw[hs] at hrow hset;obtain ⟨hl1,hl2,_⟩:=hts t<|zg5 h1;refine zb2 (args:=[vi k,pp b2 0]) func86 I ntmps86 (bE I)<|rZ<|aT I<|rZ<|lK (qL (v:=pp bx 0) isAgg97 I<|cO z hq' I)<|lU (nC I)<|lU (fA dh I sizeOf127 I)<|lK (qL (v:=.map<|some ms) isAgg127 I<|cO i hi' I)<|lM I<|lK (SQ.eq (v':=.tuple #[t.2.1,vb true]) (SQ.lookupOk mty127 I I<|cH.own j hj') (by rw[h3]; rfl)) ?_;refine lM I<|yX I<|yX I<|lA I<|aT I<|sQ<|sW I<|lU (SU.not I)<|tZ<|za1 I<|kP<|tN<|sW I<|lW (cL call88 I<|xQ E g _ t.2.1 t.2.2 _ hrow hl1 hl2) ?_;rintro _ _ _ ⟨rfl,rfl⟩;exact tZ<|sW I<|aT I<|rE<|za8 (.inl I) results86 I ⟨zb9 _,_,hset,.inr ⟨m,t,h1,h2,h4,I,I⟩⟩
theorem vK (l:List Tm):sortBy Prod.fst (sortBy Prod.fst l)=sortBy Prod.fst l:=(cR (cD l)<|aG.refl _).symm
def jf (ts:Ts)(ids:List Int):Ts:=ts.map fun t=>if t.1∈ids then (t.1,t.2.1,sortBy Prod.fst t.2.2) else t
theorem zG (ts:Ts):jf ts []=ts:=by simp[jf]
theorem xJ {ts:Ts}{ids:List Int}{k:Int}(h:(jf ts ids).find? (fun t=>decide (t.1=k))=none):∀ t∈ts,t.1≠k:=fun t ht e=>by
 have h1:=List.find?_eq_none.1 h _<|zf5.2 ⟨t,ht,rfl⟩;apply h1;split <;> exact zg2 e
theorem xH {ts:Ts}{ids:List Int}{k:Int}(h:∀ t∈ts,t.1≠k):jf ts (ids++[k])=jf ts ids:=by
 unfold jf;apply zc9;intro t ht;have hne:=h t ht;by_cases h1:t.1∈ids
 ·rw[zg4 h1,zg4 (by simp[h1])]
 ·rw[zg3 h1,zg3 (by simp[h1,hne])]
theorem zH {ts:Ts}{ids:List Int}{m:Nat}{t':Int×Value×List Tm}(h:(jf ts ids)[m]?=some t'):∃ t,ts[m]?=some t∧t.1=t'.1∧t.2.1=t'.2.1∧sortBy Prod.fst t'.2.2=sortBy Prod.fst t.2.2:=by
 unfold jf at h;rw[zi3] at h;cases ht:ts[m]? with
 | none=>rw[ht] at h; cases h
 | some t =>
  rw[ht] at h;simp only[Option.map_some,zh1] at h;subst h;refine⟨t,I,?_,?_,?_⟩
  ·split <;> rfl
  ·split <;> rfl
  ·split
   ·exact vK _
   ·rfl
theorem xF {ts:Ts}(hn:(ts.map Prod.fst).Nodup){ids:List Int}{k:Int}{m:Nat}{t':Int×Value×List Tm}(h:(jf ts ids)[m]?=some t')(hk:t'.1=k):(jf ts ids).set m (t'.1,t'.2.1,sortBy Prod.fst t'.2.2)=jf ts (ids++[k]):=by
 obtain ⟨t,h1,h2,h3,h4⟩:=zH h;apply List.ext_getElem?;intro n;rw[List.getElem?_set];by_cases e:m=n
 ·subst e;have hj:=(zf8.1 h).1;rw[zg4 rfl,zg4 hj];unfold jf;rw[zi3,h1,Option.map_some,zg4 (by simp[h2,hk]),← h4,← h2,← h3]
 ·rw[zg3 e];unfold jf;rw[zi3,zi3];cases hn2:ts[n]? with
  | none=>rfl
  | some u =>
   have hne:u.1≠k:=fun e2=>by
    have hm1:=(zf8.1 h1).1;have hn1:=(zf8.1 hn2).1;have h5:(ts.map Prod.fst)[m]'(by simpa using hm1)=(ts.map Prod.fst)[n]'(by simpa using hn1):=by
     rw[List.getElem_map,List.getElem_map,(zf8.1 h1).2,(zf8.1 hn2).2,h2,hk,e2]
    exact e<|(List.getElem_inj hn).1 h5
   rw[Option.map_some,Option.map_some];by_cases h5:u.1∈ids
   ·rw[zg4 h5,zg4 (by simp[h5])]
   ·rw[zg3 h5,zg3 (by simp[h5,hne])]
theorem w4 {ts:Ts}(h:zo ts)(ids:List Int):zo (jf ts ids):=fun t ht=>by
 obtain ⟨u,hu,rfl⟩:=zf5.1 ht;obtain ⟨h1,h2,h3⟩:=h u hu;split
 ·exact⟨by rw[dp]; exact h1,((tF u.2.2).map Prod.fst).symm.nodup h2,h3⟩
 ·exact⟨h1,h2,h3⟩
theorem zF (ts:Ts)(ids:List Int):gO (jf ts ids)=gO ts:=by
 unfold gO jf;rw[zi8];apply zc9;intro t _;simp only[Function.comp];split <;> rfl
theorem rQ {α β γ:Type}{R:α→γ→Prop}{S:β→γ→Prop}{f:α→β}:∀ {l:List α} {m:List γ},(∀ a c,a∈l→R a c→S (f a) c)→aA R l m→aA S (l.map f) m
 | [],[],_,_=>trivial
 | a::l,c::m,h,⟨h1,h2⟩=>⟨h a c (by simp) h1,rQ (fun x y hx=>h x y<|by simp[hx]) h2⟩
 | [],_::_,_,h=>h.elim
 | _::_,[],_,h=>h.elim
def ImS (ts:Ts)(g:PH)(c:Cl)(r:Im):Prop:=r.cell=c.id∧match ts.find? (fun t=>decide (t.1=c.id)) with
 | some t=>.slice r.sv.p r.sv.n r.sv.c=t.2.1
 | none=>SlA ci g (.slice r.sv.p r.sv.n r.sv.c) [(c.id,1)]
theorem ImS.mono {ts:Ts}{g g':PH}(hl:Le g g'){c:Cl}{r:Im}(h:ImS ts g c r):ImS ts g' c r:=by
 refine⟨h.1,?_⟩;have h2:=h.2
 revert h2
 cases ts.find? (fun t=>decide (t.1=c.id)) with
 | some t=>exact id
 | none=>exact fun h2=>za5 h2 hl
theorem ImS.done {ts:Ts}{g:PH}{F:List Cl}(hk:∀ t∈jf ts (F.map Cl.id),SlA ci g t.2.1 t.2.2){c:Cl}(hc:c∈F){r:Im}(h:ImS ts g c r):ImR g (c.id,qQ ts c.id) r:=by
 refine⟨h.1,?_⟩;have h2:=h.2;unfold qQ;dsimp only
 revert h2
 cases hf:ts.find? (fun t=>decide (t.1=c.id)) with
 | some t =>
  intro h2;have h3:=zl1 hf;have h4:t.1=c.id:=by simpa using List.find?_some hf
  dsimp only at h2 ⊢;rw[h2];exact hk (t.1,t.2.1,sortBy Prod.fst t.2.2)<|zf5.2 ⟨t,h3,by rw[zg4 (by rw[h4]; exact zf5.2 ⟨c,hc,I⟩)]⟩
 | none=>exact id
theorem xG {ts:Ts}{ids:List Int}{k:Int}{t':Int×Value×List Tm}(h:(jf ts ids).find? (fun t=>decide (t.1=k))=some t'):∃ t,ts.find? (fun t=>decide (t.1=k))=some t∧t.2.1=t'.2.1:=by
 unfold jf at h;rw[List.find?_map] at h;rw[Option.map_eq_some_iff] at h;obtain ⟨t,h1,h2⟩:=h;refine⟨t,?_,?_⟩
 ·rw[← h1];congr 1;funext u;simp only[Function.comp];split <;> rfl
 ·rw[← h2];split <;> rfl
theorem yO {ts ts2:Ts}(htn:(ts.map Prod.fst).Nodup)(hok:zo ts){ids:List Int}{cx:Cl}{g2:PH}{v:Value}
  (h:((jf ts ids).find? (fun t=>decide (t.1=cx.id))=none∧ts2=jf ts ids∧SlA ci g2 v [(cx.id,1)])∨∃ (m:Nat) (t:Int×Value×List Tm),(jf ts ids)[m]?=some t∧t.1=cx.id∧(jf ts ids).find? (fun t=>decide (t.1=cx.id))=some t∧v=t.2.1∧ts2=(jf ts ids).set m (t.1,t.2.1,sortBy Prod.fst t.2.2)) :
  ∃ q n d,v = .slice q n d∧ts2=jf ts (ids++[cx.id])∧ImS ts g2 cx ⟨cx.id,⟨q,n,d⟩⟩:=by
 rcases h with ⟨h1,rfl,h3⟩ | ⟨m,t,h1,h2,h3,rfl,rfl⟩
 ·obtain ⟨p,c,rfl⟩:=za4 h3;have hne:=xJ h1;refine⟨p,_,c,I,(xH hne).symm,I,?_⟩;rw[show ts.find? (fun t=>decide (t.1=cx.id))=none from List.find?_eq_none.2 fun t ht=>by simpa using hne t ht];exact h3
 ·obtain ⟨_,_,p,n,c,hv⟩:=w4 hok ids t<|zg5 h1;obtain ⟨u,hu1,hu2⟩:=xG h3;refine⟨p,n,c,hv,xF htn h1 h2,I,?_⟩;rw[hu1];dsimp only;rw[hu2,hv]
theorem xN (E:World)(g:PH)(p0 q0:Own)(bx mb ms:Nat)(u v:Value)(bk:Bool)(A D:List Cl)(ts:Ts)(hts:zo ts)(htn:(ts.map Prod.fst).Nodup)(hu:ao g u A)(hv:ao g v D)(hA:A.length<1099511627776)(hD:D.length<1099511627776)(i j:Nat)(hi0:p0[i]?=some (edP bx u mb ms bk))(hj0:p0[j]?=some (mp ms<|gO ts)) :
  Ctr Tryz.prog E 50 #[pp bx 0,.agg #[v]] g (p0++(dv ts++q0)) (fun r g' s'=>s'=p0++q0∧Le g g'∧∃ iv,r = .agg #[iv,vb bk]∧Ims g' iv ((if bk then D else A).map fun c=>(c.id,qQ ts c.id))):=by
 have hi:(p0++(dv ts++q0))[i]?=some (edP bx u mb ms bk):=by rw[zh5 (zf8.1 hi0).1]; exact hi0
 obtain ⟨pu,cu,rfl⟩:=hu.form;obtain ⟨pv,cv,rfl⟩:=hv.form;refine zb2 (args:=[pp bx 0,.agg #[.slice pv D.length cv]]) func50 I ntmps50 (bE I)<|rZ (bW (bO I) fun b2=>?_);refine bW (bO I) fun b3=>bW (aL zl7) fun b4=>tZ (rZ<|lK (qL isAgg97 I<|cO 2 I I)<|lU (nC I)<|lU (fA dh I ah I)<|lK (SQ.loadOne aw ah I<|cO (v:=.slice pu A.length cu) (i+3) hi I)<|bW (aL zl5) fun b5=>?_);refine oZ (sK 0 ah I I I I I sB)<|tZ<|SC.cut (ι:=Unit) (fun _=>[(2,pp b2 0),(3,pp b3 0),(4,pp b4 0),(5,pp b5 0)]) (fun _=>g) (fun _=>pt b5 (.cells #[if bk then .slice pv D.length cv else .slice pu A.length cu] 29 (0,0))::pt b4 (.cells #[.slice none 0 0,vb false] 46 (0,0))::pt b3 (.cells #[.slice pv D.length cv] 29 (0,0))::pt b2 (.cells #[pp bx 0] 97 (0,0))::(p0++(dv ts++q0))) (fun _=>True) ?_ ?_
 ·refine rZ<|lK (qL isAgg97 I<|cO 3 I I)<|lU (nC I)<|lU (fA dh I zT4 I)<|lK (qL (v:=vb bk) isAgg4 I<|cO (i+4) hi I)<|tZ ?_;cases bk with
  | true =>
   exact za2 I<|rG<|lK (qV 2 aw ah I I I)<|oZ (sK 0 ah I I I I I sB)<|nL<|za9 () sB I I trivial
  | false =>
   exact za1 I<|kP<|za9 () sB I I trivial
 rintro _ -;try dsimp only
 have hF:ao g (if bk then .slice pv D.length cv else .slice pu A.length cu) (if bk then D else A):=by cases bk <;> assumption
 have hFl:(if bk then D else A).length<1099511627776:=by cases bk <;> assumption
 generalize (if bk=true then D else A)=F at *;generalize (if bk=true then Value.slice pv D.length cv else Value.slice pu A.length cu)=w at *;obtain ⟨rs,hrs,hall⟩:=hF;have hrl:=hall.length;obtain ⟨p,c,rfl⟩:=za4 hrs;refine rZ (lK (qL isAgg97 I<|cO 3 I I)<|lU (nC I)<|lU (fA dh I zT4 I)<|lK (qL (v:=vb bk) isAgg4 I<|cO (i+4) hi I)<|lU (za3 I<|buildB46 _)<|bW (aL zl7) fun b6=>?_);refine oZ (sK 0 bC I I I I I sB)<|tZ<|rZ<|lU (SU.mkFunc I)<|aT I<|sQ<|rZ<|lU (fA bM I bt I)<|lK (qL de I<|cO 1 I I)<|lU (eN aI I)<|lM I<|tZ<|bK ?_;clear hi;refine zb6 113 2<|oP (ι:=Nat×PH×Value×List Im) (fun i=>[(2,pp b2 0),(4,pp b4 0),(6,pp b6 0),(7,.func (.func 86) #[] #[pp b2 0]),(26,.slice p rs.length c),(27,vi rs.length),(28,vi i.1)]) (fun i=>i.2.1)
  (fun i=>rowA jo 113 i.2.2.1 i.2.2.2::pt b6 (.cells #[i.2.2.1,vb bk] 46 (0,0))::pt b5 (.cells #[.slice p rs.length c] 29 (0,0))::pt b4 (.cells #[.slice none 0 0,vb false] 46 (0,0))::pt b3 (.cells #[.slice pv D.length cv] 29 (0,0))::pt b2 (.cells #[pp bx 0] 97 (0,0))::(p0++(dv (jf ts<|(F.take i.1).map Cl.id)++q0)))
  (fun i=>i.1≤rs.length∧Le g i.2.1∧aA (ImS ts i.2.1) (F.take i.1) i.2.2.2) (fun i=>rs.length - i.1) (0,g,.slice none 0 0,[])
  sB rfl (by dsimp only; rw[List.take_zero,List.map_nil,zG]; rfl) ⟨zf9 _,zb9 g,by simp[aA]⟩ ?_
 rintro ⟨k,g1,ov,acc⟩ ⟨hk,hle,hacc⟩;dsimp only at hk hle hacc ⊢;have hal:=hacc.length;rw[ze7] at hal;refine rZ<|yL I<|tZ<|sQ<|iP I (fun hlt=>?_) (fun hlt=>?_)
 ·have hkr:k<rs.length:=oM;have hkl:k<F.length:=oM;have hb1:=za6 hrs oM;have hcr:=hall.get (gE hkl) (gE hkr);have hgx:rs[((k:Nat):Int).toNat]?=some rs[k]:=gE hkr;have htk:F.take (k+1)=F.take k++[F[k]]:=tS hkl;generalize rs[k]=x at *;generalize F[k]=cx at *;obtain ⟨xi,xd,xp,xn,xc⟩:=x;obtain ⟨e1,e2,-⟩:=hcr;dsimp only at e1 e2;subst e1 e2;refine kP (tN (sQ (bK (rZ (lU (iA aI au I I hb1 oM (show (k:Int)<((rs.length:Nat):Int) by omega)) ?_)))));refine lK (eA dn au I (za7 (za5 hrs hle)) hgx) (bW (aL zl8) fun b9=>?_);refine oZ (sK 0 au I I I I I sB) ?_;refine tZ ?_;refine SC.drawT 3 [11,14] [(0,2),(1,2),(2,1),(3,2),(4,1),(5,2),(6,2),(7,1),(8,0),(9,2),(10,0),(11,0),(12,2),(13,2),(14,0)] ze6 kR ?_;refine pU I (fA zm I kr I) (pU I (fA mU I kC I) (pK I (qL isAgg42 I (cO 2 I I)) (pU I (fA aq I zT3 I) (pK I (qL iT3 I (cO 0 I I)) (yM I (pU I (fA aq I zT3 I) (pK I (qL iT3 I (cO 0 I I)) (SP.o I (SO.callV I I (wk E g1 (pt b9 (.cells #[vi cx.id,vi cx.dim,.slice xp xn xc] 53 (0,0))::rowA jo 113 ov acc::pt b6 (.cells #[ov,vb bk] 46 (0,0))::pt b5 (.cells #[.slice p rs.length c] 29 (0,0))::pt b4 (.cells #[.slice none 0 0,vb false] 46 (0,0))::pt b3 (.cells #[.slice pv D.length cv] 29 (0,0))::pt b2 (.cells #[pp bx 0] 97 (0,0))::p0) q0 b2 bx mb ms _ bk cx.id (jf ts ((F.take k).map Cl.id)) (w4 hts _) (i+7) (j+7) 6 I hi0 (by rw[zF]; exact hj0))) dC (.inr (by rintro v40 g2 _ ⟨hle2,ts2,rfl,hcase⟩; exact⟨by assumption,(by exact .cons_cons _ (.cons_cons _ (.cons_cons _ (List.nil_sublist _))))⟩)) ?_))))))));rintro v40 g2 _ ⟨hle2,ts2,rfl,hcase⟩;obtain ⟨q2,n2,d2,rfl,hts2,him2⟩:=yO htn hts hcase;subst hts2;refine pU rfl (za3 rfl (build113 _ _ _ _)) (SP.o rfl (bS sty42 rfl rfl rfl (ae sB) dC) dC (.inr (by rintro _ _ _ ⟨b42,rfl,rfl,rfl⟩; exact⟨by assumption,(by exact .cons _ (.cons_cons _ (.cons_cons _ (.cons_cons _ (List.nil_sublist _)))))⟩)) ?_);rintro _ _ _ ⟨b42,rfl,rfl,rfl⟩;refine SP.o I (aP (e:=jo) 1 ⟨cx.id,⟨q2,n2,d2⟩⟩ sty42 I I I I I oM oM) dC (.inl dC) ?_;rintro ov' _ _ ⟨rfl,rfl⟩;refine zd3 fun ⟨w0,hw0⟩=>?_;obtain ⟨q',d',rfl⟩:=ag (e:=jo) (l:=acc++[⟨cx.id,⟨q2,n2,d2⟩⟩]) (i:=1) hw0 rfl;clear hw0 w0;refine pU rfl (fA zm rfl kr rfl) (pU rfl (fA mU rfl kC rfl) (SP.on rfl (SO.store1 2 kC rfl rfl rfl rfl (bE rfl) (by rfl)) (.inl dC) ?_));rintro _ _ _ ⟨rfl,rfl⟩;refine pN (bN (tN (rG (yD I (lM I (nL (dR (.cons _ (.refl _)) ?_)))))));exact gA (k+1,g2,_,acc++[⟨cx.id,⟨q2,n2,d2⟩⟩]) sB I (by dsimp only; rw[htk,zg8]; rfl) ⟨by dsimp only; omega,hle.trans hle2,by
   dsimp only;rw[htk];exact (hacc.mono fun _ _=>ImS.mono hle2).append ⟨him2,trivial⟩⟩ (by dsimp only; omega)
 ·have hkk:F.take k=F:=tL oM;rw[hkk] at hacc ⊢;refine xI (tX<|tX<|bX<|tN<|sQ<|fS fun g2 hle2 hs2=>?_);obtain ⟨q2,d2,rfl⟩:=zc3 hs2;refine SC.freezeRowsT (p:=pt b6 (.cells #[.slice q2 acc.length d2,vb bk] 46 (0,0))::pt b5 (.cells #[.slice p rs.length c] 29 (0,0))::pt b4 (.cells #[.slice none 0 0,vb false] 46 (0,0))::pt b3 (.cells #[.slice pv D.length cv] 29 (0,0))::pt b2 (.cells #[pp bx 0] 97 (0,0))::p0) (q:=q0) fun g3 hle3 hfr=>?_;refine rG<|lK (qV 0 fm bC I I I)<|oZ (sK 2 bC I I I I I sB)<|tZ<|rE ?_;have hdone:aA (ImR g3) (F.map fun c=>(c.id,qQ ts c.id)) acc:=rQ (fun c r hc hr=>ImS.done hfr hc<|hr.mono<|hle2.trans hle3) hacc;exact ST.retCD 2 (p0++q0) (.inl I) results50 I fm bC I I uR ⟨I,hle.trans<|hle2.trans hle3,_,I,acc,za5 hs2 hle3,hdone⟩
end Go.Proofs.YtackilpikhkijaaGreatDoor
