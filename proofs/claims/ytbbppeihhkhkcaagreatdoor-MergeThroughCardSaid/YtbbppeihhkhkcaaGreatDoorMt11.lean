/- 11 -/
import Derived.Test.YtbbppeihhkhkcaaGreatDoorMt06
import Derived.Test.YtbbppeihhkhkcaaGreatDoorMt10
import Derived.Test.YtbbppeihhkhkcaaGreatDoorMt03
import Derived.Test.YtbbppeihhkhkcaaGreatDoorMt09
import Derived.Test.YtbbppeihhkhkcaaGreatDoorMt02
import Derived.Scope
import Derived.Shelf.SlSortCmp.NoneTotal
import Derived.Test.YtbbppeihhkhkcaaGreatDoorMt05
import Derived.Test.YtbbppeihhkhkcaaGreatDoorMt08
set_option linter.unusedSimpArgs false
set_option linter.unusedVariables false
namespace Go.Proofs.YtbbppeihhkhkcaaGreatDoor
open _root_.Go.Proofs.Tryz _root_.Go.Proofs.YtbbppeihhkhkcaaGreatDoor.Tryz
open Go Go.Sy Go.Pl Go.Proofs
set_option maxRecDepth 100000
set_option maxHeartbeats 1000000
structure Ed where
 kind:Int
 cell:Int
 dim:Int
 new:Int
 other:Int
 sides:List ae
 pairs:List Pr
def EdR (g:PH)(v:Value)(e:Ed):Prop:=∃ sv pv,v = .agg #[vi e.kind,vi e.cell,vi e.dim,vi e.new,vi e.other,sv,pv]∧SlA encSide g sv e.sides∧SlA E1 g pv e.pairs
theorem EdR.mono {g g':PH}{v:Value}{e:Ed}(h:EdR g v e)(hl:Le g g'):EdR g' v e:=by
 obtain ⟨sv,pv,h1,h2,h3⟩:=h;exact⟨sv,pv,h1,za4 h2 hl,za4 h3 hl⟩
abbrev edP (bx:Nat)(u:Value)(mb ms:Nat)(bk:Bool):Ent:=pt bx (.cells #[u,.map (some mb),.map (some ms),vb bk] 156 (0,0))
theorem Tryz.build156 (u:Value)(h:u.cells = #[u])(x y:Option Nat)(w:World):(Instr.build 156 #[(0,.agg #[u]),(1,.map x),(2,.map y)]).run Tryz.prog w = .ok (.agg #[u,.map x,.map y,vb false]) w:=by
 have h2:∀ x,(Value.map x).cells = #[.map x]:=fun _=>rfl;have h3:(Value.agg #[u]).cells = #[u]:=rfl;simp[Instr.build,Instr.fill,h2,h3];rfl
theorem xP {R:Cl→Rc→Prop}(hR:∀ c r,R c r→r.id=c.id){tl:List Cl}{rs:List Rc}(h:az R tl rs)(k:Int):∃ r,(dB (rs.map an) k).getD (.agg #[vi 0,vi 0,.slice none 0 0])=rcv r∧(dB (rs.map an) k).isSome=(ab tl k).isSome:=by
 rcases pI hR h k with ⟨h1,h2⟩ | ⟨c,r,h1,h2,h3⟩
 ·exact⟨xV,by rw[h2]; rfl,by unfold ab; rw[h1,h2]; rfl⟩
 ·exact⟨r,by rw[h2]; rfl,by unfold ab; rw[h1,h2]; rfl⟩
theorem zm (E:World)(g:PH)(s:Own)(v:Value)(l:List ae)(hv:SlA encSide g v l)(hn:l.length<1099511627776) :
  Ctr Tryz.prog E 110 #[v] g s (fun r g' s'=>g=g'∧s'=rowA encSide 75 r l::s):=by
 obtain ⟨p,c,rfl⟩:=za3 hv;refine zb1 (args:=[.slice p l.length c]) func110 I ntmps110 (bE I) ?_;refine rZ (aT I (sQ (sW I (lU (SU.eqlNil bh I I) (tZ ?_)))));refine iQ I (fun hp=>?_) (fun hp=>?_)
 ·refine rZ (aT I (rE (tR ?_)));have hl:l=[]:=by
   cases l with
   | nil=>rfl
   | cons x r =>
    have hb:=za5 hv (by simp);cases p with
    | none=>simp[based] at hb
    | some q=>simp at hp
  subst hl;refine ST.nilRow 75 2 ?_;exact za7 (.inl I) results110 I ⟨I,I⟩
 ·refine kP (tN (rZ (lW (bS sty39 I I I (ag trivial) dC) ?_)));rintro _ _ _ ⟨b5,rfl,rfl,rfl⟩;refine SL.emptyRow 75 2 (some ⟨b5,0,none⟩) (lM I (lW (SO.appendE (m:=l.length) 0 l.length (l.flatMap encSide.enc) sty39 I I I I I (Sl.rd hv) (encSide.length l) (encSide.ones l) oM (by simp) oM oM) ?_));rintro r7 _ _ ⟨rfl,rfl⟩;refine aT I (rE (dR (s':=rowA encSide 75 r7 l::s) (.cons_cons _ (.cons _ (.refl _))) ?_));exact za7 (.inl I) results110 I ⟨I,I⟩
theorem BA (E:World)(g:PH)(s:Own)(v:Value)(l:List Cl)(hv:aj g v l)(hf:bd l)(hnd:((aa l).map Cl.id).Nodup) :
  Ctr Tryz.prog E 42 #[.agg #[v]] g s (fun r g' s'=>Le g g'∧∃ bx u mb ms rs,r=pp bx 0∧aj g' u (aa l)∧az vh (aa l) rs∧s'=edP bx u mb ms false::mp mb (rs.map an)::mp ms []::(nX (aa l) rs++s)):=by
 have hfc:=aF hf;refine zb1 (args:=[.agg #[v]]) func42 I ntmps42 (bE I) ?_;refine rZ (bW (bO I) fun b1=>?_);refine aT I (rZ (lK (qV 0 aA ak I I I) (lW (SO.call call53 I (dX E g _ v l hv hf)) ?_)));rintro _ g1 _ ⟨rfl,hle1,u,rfl,hc⟩;have hcc:=hc;obtain ⟨rs,hrs,hall⟩:=hc;obtain ⟨q,d,rfl⟩:=za3 hrs;refine lW (SO.mkMap) ?_;rintro _ _ _ ⟨b8,rfl,rfl,rfl⟩;refine lW (SO.mkMap) ?_;rintro _ _ _ ⟨b9,rfl,rfl,rfl⟩;refine lU (za2 I (build156 _ I _ _)) (bW (bO I) fun b11=>?_);refine aT I (sQ (sW I (lU (nC I) (lU (fA jN I ak I) (lU (fA ec I dF I) (lK (qL fw I (cO 0 I I)) (lU (eN aB I) (lM I (tZ (bK ?_))))))))));generalize aa l=A at *;have hrl:=hall.length;have hAl:=hfc.1;refine oP (ι:=Nat×List Rc) (fun i=>[(3,pp b11 0),(16,.slice q rs.length d),(17,vi rs.length),(18,vi i.1)]) (fun _=>g1)
  (fun i=>edP b11 (.slice q rs.length d) b8 b9 false::mp b9 []::mp b8 (i.2.map an)::pt b1 (.cells #[v] 29 (0,0))::(nX (A.take i.1) i.2++s))
  (fun i=>i.1≤rs.length∧az vh (A.take i.1) i.2) (fun i=>rs.length - i.1) (0,[])
  sB rfl rfl ⟨zf3 _,by simp[az]⟩ ?_
 rintro ⟨k,acc⟩ ⟨hk,hacc⟩;dsimp only at hk hacc ⊢;have hal:=hacc.length;refine rZ (yL I (tZ (sQ ?_)));refine iP I (fun hlt=>?_) (fun hlt=>?_)
 ·have hkr:k<rs.length:=oM;have hkl:k<A.length:=oM;have hb1:=za5 hrs oM;have hcr:=hall.get (List.getElem?_eq_getElem hkl) (List.getElem?_eq_getElem hkr);have hgx:rs[((k:Nat):Int).toNat]?=some rs[k]:=List.getElem?_eq_getElem hkr;have htk:A.take (k+1)=A.take k++[A[k]]:=tS hkl;have hxl:=hfc.2 _ (gM hkl);have hnew:∀ x∈acc,x.id≠A[k].id:=fun x hx=>by
   obtain ⟨i,hi,rfl⟩:=zc6 hx;have hi2:i<(A.take k).length:=oM;have hi3:i<k:=by rw[ze1] at hi2; omega
   have h1:=(hacc.get (List.getElem?_eq_getElem hi2) (List.getElem?_eq_getElem hi)).1;rw[h1,List.getElem_take];intro e;have h2:=zc8.1 (List.nodup_iff_pairwise_ne.1 hnd) i k (by rw[ze3]; omega) (by rw[ze3]; omega) hi3;simp only[List.getElem_map] at h2;exact h2 e
  generalize rs[k]=x at *;generalize A[k]=cx at *;obtain ⟨xi,xd,xp,xn,xc⟩:=x;obtain ⟨e1,e2,hxsl⟩:=hcr;dsimp only at e1 e2 hxsl;have hxn:xn=cx.sides.length:=zc1 hxsl;subst hxn e1 e2;refine kP (tN (sQ (bK (rZ (lU (iA aB ao I I hb1 oM (show (k:Int)<((rs.length:Nat):Int) by omega)) ?_)))));refine lK (SQ.elemA cz ao I (za6 hrs) hgx) (bW (aL zk8) fun b5=>?_);refine oZ (sK 0 ao I I I I I sB) ?_;refine tZ (rZ (lU (fA ay I bJ I) (lK (qL (v:=.slice xp cx.sides.length xc) cI I (cO 0 I I)) (lW (SO.call call110 I (zm E g1 _ _ cx.sides hxsl hxl)) ?_))));rintro v24 _ _ ⟨rfl,rfl⟩;refine zd1 fun ⟨w0,hw0⟩=>?_;obtain ⟨q2,d2,rfl⟩:=ah (e:=encSide) (l:=cx.sides) (i:=0) hw0 rfl;clear hw0 w0;refine lU (fA ay rfl bJ rfl) (oZ (SO.store1 1 bJ rfl rfl rfl rfl (bE rfl) (by rfl)) ?_);refine tZ ?_;refine dW [7] [(0,2),(1,2),(2,2),(3,1),(4,2),(5,1),(6,1),(7,0)] zd9 kR ?_;refine yM I (pU I (nC I) (pU I (fA jN I iy I) (pK I (qL iE I (cO 2 I I)) (pU I (fA ay I zT3 I) (pK I (qL iT3 I (cO 1 I I)) (pK I (qV 1 cz ao I I I) (SP.on I (SO.mapUpdate 4 mty125 I I I I) (.inl dC) ?_)))))));rintro _ _ _ ⟨rfl,rfl⟩;refine pN (bN (tN (rG (yD I (lM I (nL ?_))))));refine ST.to (fun w hw=>?_) (g':=g1) (s':=edP b11 (.slice q rs.length d) b8 b9 false::mp b9 []::mp b8 ((acc++[(⟨cx.id,cx.dim,⟨q2,cx.sides.length,d2⟩⟩:Rc)]).map an)::pt b1 (.cells #[v] 29 (0,0))::(nX (A.take (k+1)) (acc++[(⟨cx.id,cx.dim,⟨q2,cx.sides.length,d2⟩⟩:Rc)])++s)) ?_
  ·rw[htk,nK cx _ hal];have hput:fe (acc.map an) cx.id (rcv ⟨cx.id,cx.dim,⟨q2,cx.sides.length,d2⟩⟩)=(acc++[(⟨cx.id,cx.dim,⟨q2,cx.sides.length,d2⟩⟩:Rc)]).map an:=by
    rw[← i7 hnew];exact jB ⟨cx.id,cx.dim,⟨q2,cx.sides.length,d2⟩⟩ acc
   rw[← hput];have h1:=(hw.sublist (s':=EM cx ⟨cx.id,cx.dim,⟨q2,cx.sides.length,d2⟩⟩::(edP b11 (.slice q rs.length d) b8 b9 false::mp b9 []::mp b8 (fe (acc.map an) cx.id (rcv ⟨cx.id,cx.dim,⟨q2,cx.sides.length,d2⟩⟩))::pt b1 (.cells #[v] 29 (0,0))::nX (A.take k) acc)++s) (.cons_cons _ (.cons _ (.refl _))));have h2:=h1.perm List.perm_middle.symm;simpa using h2
  exact ST.again (k+1,_) sB I I ⟨by dsimp only; omega,by
   dsimp only;rw[htk];exact hacc.append ⟨⟨I,I,I⟩,trivial⟩⟩ (by dsimp only; omega)
 ·have hkk:A.take k=A:=tL oM;rw[hkk] at hacc ⊢;refine xI (tX (tX (bX (tN (sW I (aT I (rE ?_)))))));refine ST.to (g':=g1) (s':=edP b11 (.slice q rs.length d) b8 b9 false::mp b8 (acc.map an)::mp b9 []::(nX A acc++s)) (fun w hw=>(hw.perm (List.Perm.cons _ (zj7 _ _ _))).sublist (.cons_cons _ (.cons_cons _ (.cons_cons _ (.cons _ (.refl _)))))) ?_;exact za7 (.inl I) results42 I ⟨hle1,b11,_,b8,b9,acc,I,hcc,hacc,I⟩
theorem o6 (E:World)(g:PH)(s:Own)(bx mb ms:Nat)(u:Value)(bk:Bool)(k:Int)(R:Cl→Rc→Prop)(hR:∀ c r,R c r→r.id=c.id)(B:List Cl)(rs:List Rc)(hall:az R B rs)(i j:Nat)(hi:s[i]?=some (edP bx u mb ms bk))(hj:s[j]?=some (mp mb (rs.map an))) :
  Ctr Tryz.prog E 166 #[pp bx 0,vi k] g s (fun r g' s'=>r=vb (ab B k).isSome∧g=g'∧s=s'):=by
 obtain ⟨x,hx1,hx2⟩:=xP hR hall k;refine zb1 (args:=[pp bx 0,vi k]) func166 I ntmps166 (bE I) ?_;refine rZ (aT I (sW I (lU (nC I) (lU (fA jN I iy I) (lK (qL (v:=.map (some mb)) iE I (cO i hi I)) (lM I (lK (SQ.eq (v':=.tuple #[rcv x,vb (ab B k).isSome]) (SQ.lookupOk mty125 I I (a8.own j hj)) (by rw[hx1,hx2])) ?_)))))));refine lM I (yX I (yX I (bW (aL zk8) fun b5=>?_)));refine oZ (sK 0 ao I I I I I sB) ?_;refine aT I (sW I (aT I (rE (dR (s':=s) uR ?_))));exact za7 (.inl I) results166 I ⟨I,I,I⟩
theorem uT (E:World)(g:PH)(s:Own)(bx mb ms:Nat)(u v:Value)(bk:Bool)(e:Ed)(B:List Cl)(rs:List Rc)(hall:az (am g) B rs)(i j:Nat)(hi:s[i]?=some (edP bx u mb ms bk))(hj:s[j]?=some (mp mb (rs.map an)))(he:EdR g v e)(hes:e.sides.length<1099511627776) :
  Ctr Tryz.prog E 105 #[pp bx 0,v] g s (fun r g' s'=>Le g g'∧((r=vi 54∧(ab B e.cell).isSome=true∧s=s')∨(r=vi 0∧(ab B e.cell).isSome=false∧∃ rs',az (am g') (oG B ⟨e.cell,e.dim,e.sides⟩) rs'∧s'=s.set j (mp mb (rs'.map an))))):=by
 obtain ⟨sv,pv,rfl,hsv,hpv⟩:=he;obtain ⟨sp,sc,rfl⟩:=za3 hsv;refine zb1 (args:=[pp bx 0,.agg #[vi e.kind,vi e.cell,vi e.dim,vi e.new,vi e.other,.slice sp e.sides.length sc,pv]]) func105 I ntmps105 (bE I) ?_;refine rZ (bW (bO I) fun b3=>?_);refine aT I (sQ (sW I (lU (fA kA I zT3 I) (lK (qL iT3 I (cO 0 I I)) (lW (SO.call call166 I (o6 E g _ bx mb ms u bk e.cell _ (fun _ _ h=>h.1) B rs hall (i+1) (j+1) hi hj)) ?_)))));rintro _ _ _ ⟨rfl,rfl,rfl⟩;refine tZ ?_;refine iQ I (fun hp=>?_) (fun hp=>?_)
 ·refine rZ (aT I (rE (tR (dR (s':=s) uR ?_))));exact za7 (.inl I) results105 I ⟨zb8 _,.inl ⟨I,hp,I⟩⟩
 ·refine kP (tN (sQ ?_));refine dW [14] [(0,2),(1,2),(2,2),(3,1),(4,2),(5,1),(6,2),(7,1),(8,2),(9,1),(10,2),(11,1),(12,0),(13,2),(14,0)] zd9 kR ?_;refine yM I (pU I (nC I) (pU I (fA jN I iy I) (pK I (qL (v:=.map (some mb)) iE I (cO (i+1) hi I)) (pU I (fA kA I zT3 I) (pK I (qL iT3 I (cO 0 I I)) (pU I (fA kA I zT3 I) (pK I (qL iT3 I (cO 0 I I)) (pU I (fA kA I zT3 I) (pK I (qL iT3 I (cO 0 I I)) (pU I (fA kA I bJ I) (pK I (qL (v:=.slice sp e.sides.length sc) cI I (cO 0 I I)) (SP.o I (SO.call call110 I (zm E g _ _ e.sides hsv hes)) dC (.inr iR) ?_))))))))))));rintro v21 _ _ ⟨rfl,rfl⟩;refine SP.freezeRow fun g2 hle2 hs2=>?_;obtain ⟨q2,d2,rfl⟩:=Sl.form hs2;refine pU I (za2 I (buildF56 _ _ _ I)) (SP.on I (SO.mapUpdate (j+1) mty125 I I I hj) (.inl dC) ?_);rintro _ _ _ ⟨rfl,rfl⟩;refine pN (tN (rZ (aT I (rE (dR (s':=s.set j (mp mb (fe (rs.map an) e.cell (rcv ⟨e.cell,e.dim,⟨q2,e.sides.length,d2⟩⟩)))) (.cons _ (.refl _)) ?_)))));refine za7 (.inl I) results105 I ⟨hle2,.inr ⟨I,hp,AO rs ⟨e.cell,e.dim,⟨q2,e.sides.length,d2⟩⟩,wq (fun _ _ h=>h.1) ⟨I,I,hs2⟩ (hall.mono fun _ _=>am.mono hle2),?_⟩⟩;rw[← jB]
theorem uf (E:World)(g:PH)(s:Own)(bx mb ms:Nat)(u v:Value)(bk:Bool)(e:Ed)(A B:List Cl)(rs:List Rc)(hu:aj g u A)(hf:bd A)(hall:az (am g) B rs)(i j:Nat)(hi:s[i]?=some (edP bx u mb ms bk))(hj:s[j]?=some (mp mb (rs.map an)))(hij:j≠i)(he:EdR g v e) :
  Ctr Tryz.prog E 106 #[pp bx 0,v] g s (fun r g' s'=>Le g g'∧((r=vi 30∧(ab B e.cell).isSome=false∧s=s')∨(r=vi 31∧(ab B e.cell).isSome=true∧0<(oh A e.cell).length∧s=s')∨(r=vi 0∧(ab B e.cell).isSome=true∧oh A e.cell=[]∧s'=(s.set j (mp mb ((A5 rs e.cell).map an))).set i (edP bx u mb ms true)))):=by
 obtain ⟨sv,pv,rfl,hsv,hpv⟩:=he;obtain ⟨p,c,rfl⟩:=hu.form;refine zb1 (args:=[pp bx 0,.agg #[vi e.kind,vi e.cell,vi e.dim,vi e.new,vi e.other,sv,pv]]) func106 I ntmps106 (bE I) ?_;refine rZ (bW (bO I) fun b3=>?_);refine aT I (sQ (bK (sW I (lU (fA kA I zT3 I) (lK (qL iT3 I (cO 0 I I)) (lW (SO.call call166 I (o6 E g _ bx mb ms _ bk e.cell _ (fun _ _ h=>h.1) B rs hall (i+1) (j+1) hi hj)) ?_))))));rintro _ _ _ ⟨rfl,rfl,rfl⟩;refine lU (SU.not I) (aT I ?_);refine iQ I (fun hp=>?_) (fun hp=>?_)
 ·refine rZ (aT I (rE (bR (tR (dR (s':=s) uR ?_)))));exact za7 (.inl I) results106 I ⟨zb8 _,.inl ⟨I,by simpa using hp,I⟩⟩
 ·have hp2:(ab B e.cell).isSome=true:=by simpa using hp
  refine sQ ?_;refine dW [] [(0,2),(1,2),(2,2),(3,1),(4,2),(5,1),(6,0),(7,2),(8,2),(9,2)] zd9 kR ?_;refine yM I (pU I (nC I) (pU I (fA jN I ak I) (pK I (SQ.loadOne aA ak I (cO (v:=.slice p A.length c) (i+1) hi I)) (pU I (fA kA I zT3 I) (pK I (qL iT3 I (cO 0 I I)) (SP.o I (SO.call call167 I (xU E g _ _ A e.cell hu hf)) dC (.inr iR) ?_))))));rintro v18 g1 _ ⟨rfl,hle1,ha⟩;obtain ⟨q2,d2,rfl⟩:=za3 ha;refine pU I (eN aG I) (pU I (SU.gtr I I) (pU I (aS I) (pN (tN ?_))));refine iP I (fun ha0=>?_) (fun ha0=>?_)
  ·refine rZ (aT I (rE (bR (tR (dR (s':=s) uR ?_)))));exact za7 (.inl I) results106 I ⟨hle1,.inr (.inl ⟨I,hp2,oM,I⟩)⟩
  ·have hi2:(s.set j (mp mb (rm (rs.map an) e.cell)))[i]?=some (edP bx (.slice p A.length c) mb ms bk):=by rw[List.getElem?_set_ne hij]; exact hi
   refine kP (bN (tN (sQ ?_)));refine dW [6] [(0,2),(1,2),(2,2),(3,1),(4,2),(5,1),(6,0)] zd9 kR ?_;refine yM I (pU I (nC I) (pU I (fA jN I iy I) (pK I (qL (v:=.map (some mb)) iE I (cO (i+1) hi I)) (pU I (fA kA I zT3 I) (pK I (qL iT3 I (cO 0 I I)) (SP.on I (SO.delete (j+1) mty125 I I hj) (.inl dC) ?_))))));rintro _ _ _ ⟨rfl,rfl⟩;refine pN (tN (sW I (lU (nC I) (lU (fA jN I sizeOf4 I) (oZ (SO.store1 (i+1) sizeOf4 I I hi2 I (bE I) I) (tZ (rZ (aT I (rE (dR (s':=(s.set j (mp mb (rm (rs.map an) e.cell))).set i (edP bx (.slice p A.length c) mb ms true)) (.cons _ (.refl _)) ?_))))))))));refine za7 (.inl I) results106 I ⟨hle1,.inr (.inr ⟨I,hp2,zf1 oM,by rw[← yV]⟩)⟩
theorem wQ (E:World)(g:PH)(s:Own)(bx mb ms:Nat)(u:Value)(bk:Bool)(B:List Cl)(rs:List Rc)(hall:az (am g) B rs)(hn:(B.map Cl.id).Nodup)(hf:bd B)(hm:Mp g mb (rs.map an))(i:Nat)(hi:s[i]?=some (edP bx u mb ms bk)) :
  Ctr Tryz.prog E 43 #[pp bx 0] g s (fun r g' s'=>s=s'∧Le g g'∧∃ u',r = .agg #[u']∧eU (mns g' g) u' (aa B)):=by
 obtain ⟨es,clk,hes,hmi⟩:=hm;have hrl:=hall.length;have hBl:=hf.1;refine zb1 (args:=[pp bx 0]) func43 I ntmps43 (bE I) ?_;refine rZ (bW (aL zk7) fun b2=>?_);refine tZ (rZ (bW (aL zk7) fun b3=>?_));refine tZ (sQ (sW I (lU (nC I) (lU (fA jN I iy I) (lK (qL (v:=.map (some mb)) iE I (cO (i+2) hi I)) (lW (SO.range underlying125 I hes) ?_))))));rintro _ _ _ ⟨it,rfl,rfl,rfl⟩;refine tZ (bK (zb5 56 3 ?_));refine oP (ι:=List MapEntry×List Rc×List Cl×Value) (fun _=>[(2,pp b2 0),(3,pp b3 0),(10,pp it 0)]) (fun _=>g)
  (fun i=>rowA encCell 56 i.2.2.2 i.2.1::iter it mb es clk i.1::pt b3 (.cells #[i.2.2.2] 29 (0,0))::pt b2 (.cells #[.slice none 0 0] 29 (0,0))::s)
  (fun i=>kF (rs.map an) es i.1 (i.2.1.map an)∧az (am g) i.2.2.1 i.2.1∧(∀ c∈i.2.2.1,c∈B)) (fun i=>rs.length - i.2.1.length)
  ([],[],[],.slice none 0 0) sB rfl rfl ⟨kF.nil _ _,trivial,by simp⟩ ?_
 rintro ⟨vis,acc,vc,ov⟩ ⟨hrv,hacc,hvs⟩;dsimp only at hrv hacc hvs ⊢;have hvle:=hrv.len hmi;simp only[ze3] at hvle;have hal:=hacc.length;refine rZ (lW (SO.nextP 1 I I hes hmi hrv) ?_);rintro _ _ _ ⟨rfl,hcase⟩
 rcases hcase with ⟨rfl,rfl,hperm⟩ | ⟨e,pr,he,hp1,hk1,hv1,hrv2,rfl,rfl⟩
 ·have hpv:vc.Perm B:=sO (by rw[zi2,jc hacc]; rfl) hvs hn hall hperm;have hcn:aa vc=aa B:=s9 hpv ((hpv.map Cl.id).symm.nodup hn);have hvf:bd vc:=⟨by have:=hpv.length_eq; omega,fun c hc=>hf.2 c (hvs c hc)⟩;refine yX I (tZ (sQ (cF I (xI (tX (tX (bX (tN (sQ (fS fun g2 hle2 hs2=>?_))))))))));obtain ⟨q2,d2,rfl⟩:=Sl.form hs2;refine rG (lK (qV 1 aA ak I I I) (lW (SO.call call53 I (nk E g2 _ _ vc ⟨acc,hs2,hacc.mono fun _ _=>am.mono hle2⟩ hvf)) ?_));rintro _ g3 _ ⟨rfl,hle3,u3,rfl,hu3⟩;rw[hcn] at hu3;have hu4:=hu3.cells (eG _ _);obtain ⟨q3,d3,rfl⟩:=hu4.form;refine oZ (sK 2 ak I I I I I sB) ?_;refine tZ (rE ?_);exact ST.retCD 2 s (.inl I) results43 I aA ak I I uR ⟨I,hle2.trans hle3,_,I,hu3.mono (i8 hle2)⟩
 ·obtain ⟨x,hx,rfl⟩:=ze8.1 hp1;obtain ⟨cx,hcm,hcx⟩:=ws hall hx;refine yX I (tZ (sQ (za1 I (kP (tN (bK (rZ (lK (SQ.entryP 1 I I hes hmi he hk1 hv1) (yX I (bW (aL zk8) fun b5=>?_))))))))));refine oZ (sK 0 ao I I I I I sB) ?_;refine tZ ?_;refine SC.to (g':=g) (s':=pt b5 (.cells #[vi x.id,vi x.dim,.slice x.sv.p x.sv.n x.sv.c] 56 (0,0))::rowA encCell 56 ov acc::iter it mb es clk (vis++[e])::pt b3 (.cells #[ov] 29 (0,0))::pt b2 (.cells #[.slice none 0 0] 29 (0,0))::s) (fun w hw=>hw) ?_;refine rG (lU (fA ec I dF I) (lK (qL fw I (cO 3 I I)) (lK (qV 0 cz ao I I I) (lW (bS sty27 I I I (ag sB) dC) ?_))));rintro _ _ _ ⟨b18,rfl,rfl,rfl⟩;refine lW (aP (e:=encCell) 1 x sty27 I I I I I oM oM) ?_;rintro ov' _ _ ⟨rfl,rfl⟩;refine zd1 fun ⟨w0,hw0⟩=>?_;obtain ⟨q',d',rfl⟩:=ah (e:=encCell) (l:=acc++[x]) (i:=1) hw0 rfl;clear hw0 w0;refine lU (fA ec I dF I) (oZ (sK 3 dF I I I I I sB) ?_);refine nL (bN (dR (.cons _ (.refl _)) ?_));exact ST.again (vis++[e],acc++[x],vc++[cx],_) sB I I ⟨by dsimp only; rw[zg2]; exact hrv2,hacc.append ⟨hcx,trivial⟩,fun c hc=>by
   rcases ze9.1 hc with h | h
   ·exact hvs c h
   ·simp at h; rw[h]; exact hcm⟩ (by
   have:=hrv2.len hmi;simp only[ze3,ze2,ze4] at this ⊢;omega)
abbrev Tm:=Int×Int
def EH (n:Int):Bool:=decide (n<0)&&decide (AY n.natAbs≠[])
def iG:Enc Tm 3:=⟨fun p=>[vi p.1,vb (EH p.2),txt (AY p.2.natAbs)],fun _=>rfl,fun _ u hu=>by simp at hu; rcases hu with rfl | rfl | rfl <;> rfl,by decide⟩
structure Im where
 cell:Int
 sv:Sv
def xZ:Enc Im 2:=⟨fun r=>[vi r.cell,.slice r.sv.p r.sv.n r.sv.c],fun _=>rfl,fun _ u hu=>by simp at hu; rcases hu with rfl | rfl <;> rfl,by decide⟩
def ImR (g:PH)(c:Int×List Tm)(r:Im):Prop:=r.cell=c.1∧SlA iG g (.slice r.sv.p r.sv.n r.sv.c) c.2
theorem ImR.mono {g g':PH}(hl:Le g g'){c:Int×List Tm}{r:Im}(h:ImR g c r):ImR g' c r:=⟨h.1,za4 h.2 hl⟩
def Ims (g:PH)(v:Value)(l:List (Int×List Tm)):Prop:=∃ rs,SlA xZ g v rs∧az (ImR g) l rs
theorem Ims.mono {g g':PH}{v:Value}{l:List (Int×List Tm)}(h:Ims g v l)(hl:Le g g'):Ims g' v l:=by
 obtain ⟨rs,h1,h2⟩:=h;exact⟨rs,za4 h1 hl,h2.mono fun _ _=>ImR.mono hl⟩
theorem Tryz.build82 (x:Int)(b:Bool)(l:List UInt8)(w:World):(Instr.build 82 #[(0,vi x),(1,.agg #[vb b,txt l])]).run Tryz.prog w = .ok (.agg #[vi x,vb b,txt l]) w:=by
 have h1:(vi x).cells = #[vi x]:=rfl;have h2:(Value.agg #[vb b,txt l]).cells = #[vb b,txt l]:=rfl;simp[Instr.build,Instr.fill,h1,h2];rfl
theorem Tryz.build113 (x:Int)(p:Option Addr)(n c:Nat)(w:World):(Instr.build 113 #[(0,vi x),(1,.slice p n c)]).run Tryz.prog w = .ok (.agg #[vi x,.slice p n c]) w:=by
 have h1:(vi x).cells = #[vi x]:=rfl;have h2:(Value.slice p n c).cells = #[.slice p n c]:=rfl;simp[Instr.build,Instr.fill,h1,h2];rfl
theorem Tryz.buildB35 (b:Bool)(w:World):(Instr.build 35 #[(1,vb b)]).run Tryz.prog w = .ok (.agg #[.slice none 0 0,vb b]) w:=by
 have h1:(vb b).cells = #[vb b]:=rfl;simp[Instr.build,Instr.fill,h1];rfl
theorem Tryz.mty110:MTy Tryz.prog 110 3 77 (.slice none 0 0):=⟨underlying110,underlying3,zeroValue77⟩
theorem Tryz.sty77:STy Tryz.prog 77 82 3 32 (.agg #[vi 0,vb false,txt []]):=⟨underlying77,⟨t82,by kernel_rfl,by kernel_rfl,by kernel_rfl,by kernel_rfl⟩,rfl,by decide⟩
theorem Tryz.sty31:STy Tryz.prog 31 113 2 32 (.agg #[vi 0,.slice none 0 0]):=⟨underlying31,⟨t113,by kernel_rfl,by kernel_rfl,by kernel_rfl,by kernel_rfl⟩,rfl,by decide⟩
theorem zD (E:World)(g:PH)(s:Own)(c n:Int)(h0 : -9223372036854775808≤n)(h1:n<9223372036854775808) :
  Ctr Tryz.prog E 112 #[vi c,vi n] g s (fun r g' s'=>r = .agg (iG.enc (c,n)).toArray∧s=s'∧Le g g'):=by
 refine zb1 (args:=[vi c,vi n]) func112 I ntmps112 (bE I) ?_;refine rZ (bW (aL zeroValue82) fun b4=>?_);refine tZ (sW I (lM I (lW (SO.call call129 I (Ap E g _ n h0 h1)) ?_)));rintro _ g1 _ ⟨rfl,rfl,hle1⟩;refine lU (za2 I (build82 _ _ _)) (oZ (sK 0 sizeOf82 I I I I I sB) ?_);refine tZ (rE ?_);exact ST.retCD 0 s (.inl I) results112 I isAgg82 sizeOf82 I I uR ⟨I,I,hle1⟩
set_option maxHeartbeats 2000000
theorem Ctr.freezeO {P:Program}{E:World}{n:FuncId}{args:Array Value}{g:PH}{L s:Own}{R:Value→PH→Own→Prop}{A:List Cl}{rs:List Rc}(hO:az vh A rs)
  (h:∀ g1,Le g g1→az (am g1) A rs→Ctr P E n args g1 (L++s) R):Ctr P E n args g (L++(nX A rs++s)) R:=fun w hw=>by
 have h1:(L++(nX A rs++s)).Perm (nX A rs++(L++s)):=by
  rw[← zg5,← zg5];exact List.perm_append_comm.append_right s
 obtain ⟨g1,h2,h3,h4⟩:=Go.Proofs.YtbbppeihhkhkcaaGreatDoor.freezeO hO (hw.perm h1);exact h g1 h2 h4 w h3
def qe (fv:Value)(e:Ed)(A:List Cl)(code:Int)(B:List Cl)(bk:Bool):Prop :=
 ∀ (E:World) (g:PH) (s:Own) (bx mb ms:Nat) (u v:Value) (rs:List Rc),aj g u A→az vh A rs→EdR g v e →
  bM Tryz.prog E fv [pp bx 0,v] g (edP bx u mb ms false::mp mb (rs.map an)::mp ms []::(nX A rs++s)) (fun r g' s'=>Le g g'∧r=vi code∧(if code=0 then ∃ rs',az (am g') B rs'∧s'=edP bx u mb ms bk::mp mb (rs'.map an)::mp ms []::s else ∃ h,s'=h++s))
def fu (A:List Cl)(e:Ed):Int:=if (ab A e.cell).isSome then 54 else 0
def ly (A:List Cl)(e:Ed):Int:=if (ab A e.cell).isSome then (if 0<(oh A e.cell).length then 31 else 0) else 30
theorem xK (A:List Cl)(e:Ed)(he:e.sides.length<1099511627776):qe (.func (.func 105) #[] #[]) e A (fu A e) (oG A ⟨e.cell,e.dim,e.sides⟩) false:=by
 intro E g s bx mb ms u v rs hu hO hv;refine bM.mk (args:=[_,_]) (cap:=[]) call105 ?_;refine Ctr.freezeO (L:=[edP bx u mb ms false,mp mb (rs.map an),mp ms []]) hO fun g1 hle1 hall=>?_;refine (uT E g1 _ bx mb ms u v false e A rs hall 0 1 I I (hv.mono hle1) he).mono ?_;rintro r g' s' ⟨hle,h⟩;refine⟨hle1.trans hle,?_⟩;unfold fu
 rcases h with ⟨rfl,h1,rfl⟩ | ⟨rfl,h1,rs',h2,rfl⟩
 ·rw[h1];exact⟨I,[edP bx u mb ms false,mp mb (rs.map an),mp ms []],I⟩
 ·rw[h1];exact⟨I,rs',h2,I⟩
theorem wU (A:List Cl)(hf:bd A)(e:Ed):qe (.func (.func 106) #[] #[]) e A (ly A e) (ye A e.cell) true:=by
 intro E g s bx mb ms u v rs hu hO hv;refine bM.mk (args:=[_,_]) (cap:=[]) call106 ?_;refine Ctr.freezeO (L:=[edP bx u mb ms false,mp mb (rs.map an),mp ms []]) hO fun g1 hle1 hall=>?_;refine (uf E g1 _ bx mb ms u v false e A A rs (hu.mono hle1) hf hall 0 1 I I dC (hv.mono hle1)).mono ?_;rintro r g' s' ⟨hle,h⟩;refine⟨hle1.trans hle,?_⟩;unfold ly
 rcases h with ⟨rfl,h1,rfl⟩ | ⟨rfl,h1,h2,rfl⟩ | ⟨rfl,h1,h2,rfl⟩
 ·rw[h1];exact⟨I,[edP bx u mb ms false,mp mb (rs.map an),mp ms []],I⟩
 ·rw[h1,zf7 rfl,zf7 h2];exact⟨I,[edP bx u mb ms false,mp mb (rs.map an),mp ms []],I⟩
 ·rw[h1,h2];exact⟨I,A5 rs e.cell,(wu (fun _ _ h=>h.1) e.cell hall).mono fun _ _=>am.mono hle,I⟩
theorem rU {α:Type}(L r:List α)(k:Nat):(L++r)[L.length+k]?=r[k]?:=by
 rw[zg9 oM,Nat.add_sub_cancel_left]
def cj (code:Int)(B:List Cl):Int×List Cl :=
 if code≠0 then (code,[]) else if (ar (aa B)).2≠0 then ((ar (aa B)).2,[]) else (0,aa B)
theorem Tryz.buildZ35 (w:World):(Instr.build 35 #[]).run Tryz.prog w = .ok (.agg #[.slice none 0 0,vb false]) w:=by
 simp[Instr.build,Instr.fill];rfl
theorem aj.nil (g:PH):aj g (.slice none 0 0) []:=⟨[],zb9 g _,trivial⟩
theorem kS (E:World)(g:PH)(s:Own)(v:Value)(l:List Cl)(hv:aj g v l)(hf:bd l)(b:Bool)(hb:decide ((ar l).2=0)=b) :
  Ctr Tryz.prog E 41 #[.agg #[v]] g s (fun r g' s'=>r=vb b∧g=g'∧s=s'):=by
 subst hb;exact s4 E g s v l hv hf
open Go.ChangeShapes Go.WideShapes Go.ChangeAt Go.RowKit
set_option maxRecDepth 100000
section
variable {H:Type}{enc:TypeId×Value→H}{W:World}{base:Nat}{spare:Nat→Bool}{hd:Bool}
end
set_option maxHeartbeats 4000000
theorem Ims.form {g:PH}{v:Value}{l:List (Int×List Tm)}(h:Ims g v l):∃ p n c,v = .slice p n c:=by
 obtain ⟨rs,h1,h2⟩:=h;obtain ⟨p,c,e⟩:=za3 h1;exact⟨p,_,c,e⟩
end Go.Proofs.YtbbppeihhkhkcaaGreatDoor
namespace Go.Sy
open Go
section
variable {P:Program}{N:Nat}{E:World}{ops:Array Oper}{Q:Exit→Act→World→Prop}{g0:PH}{s0:Own}{tail:List Nat}{f:Fr}{g:PH}{s s':Own}{L:Array Bool}{n:Nat}
theorem SB.ob {i d:Nat}{op:Op}{ty:TypeId}{pos:String}{af:Array Edge}{K:Value→PH→Own→Prop}(hi:ops[i]?=some ⟨some d,op,ty,pos,af,none⟩)
  (ho:SO P N E ⟨some d,op,ty,pos,af,none⟩ f g s K) (hd:d<N) (hbt:eY tail (L.setIfInBounds i true)=true)
  (h:∀ v g' s',K v g' s'→SX P N E ops Q g0 s0 tail (L.setIfInBounds i true) n ((d,v)::f) g' s'):SB P N E ops Q g0 s0 tail L n i f g s:=by
 intro a w hs hcl hr ha hw hb;unfold wpOp;simp only[hi];rw[zf7 (Gd.none rfl a ha)];refine .inl (ho a w ha hw Q _ fun v g' s' w' hK hw'=>?_);have hb':eY tail (L.setIfInBounds i true)=false→At E g0 s0 w':=fun h0=>by rw[hbt] at h0; cases h0
 exact⟨hb',h v g' s' hK _ w' hs (dg hcl hr) (ha.put hd v) hw' hb'⟩
end
end Go.Sy
namespace Go.Proofs.YtbbppeihhkhkcaaGreatDoor
open _root_.Go.Proofs.Tryz _root_.Go.Proofs.YtbbppeihhkhkcaaGreatDoor.Tryz
open Go Go.Sy Go.Pl Go.Proofs
set_option maxRecDepth 100000
set_option maxHeartbeats 4000000
def qd (code:Int)(D:List Cl)(ims:List (Int×List Tm))(bk:Bool)(r:Value)(g':PH):Prop:=∃ u p n c b,r = .tuple #[.agg #[u],.agg #[.slice p n c,vb b],vi code]∧aj g' u D∧(code=0→b=bk∧Ims g' (.slice p n c) ims)∧(code≠0→b=false∧Ims g' (.slice p n c) [])
theorem Ims.nil (g:PH):Ims g (.slice none 0 0) []:=⟨[],zb9 g _,trivial⟩
def E9 (S:Int→List Int)(m:List Pr)(a y:Int):Prop:=∃ h,DX m a=some h∧y∈S h∧y≠a∧(DX m y).isSome=true
inductive EN (S:Int→List Int)(m:List Pr):Int→Int→Prop
 | one (a y:Int) (h:E9 S m a y):EN S m a y
 | cons (a y z:Int) (h:E9 S m a y) (h2:EN S m y z):EN S m a z
section
variable {S:Int→List Int}{m:List Pr}{low a:Int}{v w met:List Int}
end
section
variable {S:Int→List Int}{m:List Pr}(hm:(m.map Prod.fst).Nodup)
include hm
end
end Go.Proofs.YtbbppeihhkhkcaaGreatDoor
namespace Go.Sy
open Go Go.MapKept
section
variable {P:Program}{N:Nat}{E:World}{f:Fr}{g:PH}{s:Own}{dst:Option Tmp}{ty:TypeId}{pos:String}{af:Array Edge}{gd:Option (Nat×Bool)}
end
end Go.Sy
namespace Go.Proofs.YtbbppeihhkhkcaaGreatDoor
open _root_.Go.Proofs.Tryz _root_.Go.Proofs.YtbbppeihhkhkcaaGreatDoor.Tryz
open Go Go.Sy Go.Pl Go.Proofs
set_option maxRecDepth 100000
set_option maxHeartbeats 2000000
set_option maxHeartbeats 4000000
section
variable {l:List Cl}(hl:(ar l).2=0)
include hl
end
section
variable {l:List Cl}(hl:(ar l).2=0)
include hl
end
end Go.Proofs.YtbbppeihhkhkcaaGreatDoor
namespace Go.Sy
open Go Go.MapKept
instance quiet_scope {Q:Exit→Act→World→Prop}[h:Quiet Q]:Quiet (Exit.noGoto Q):=⟨fun c a a' w hd hq=>h.out c a a' w hd hq⟩
section
variable {P:Program}{N:Nat}{E:World}{Q:Exit→Act→World→Prop}{f:Fr}{g:PH}{s:Own}
theorem SC.scope {c:Code}(h:SC P N E c (Exit.noGoto Q) f g s):SC P N E (.scope c) Q f g s:=fun a w ha hw=>wp_scope_straight (h a w ha hw)
theorem ST.scopeN (h:ST N E Q .normal f g s):ST N E (Exit.noGoto Q) .normal f g s:=h
end
end Go.Sy
namespace Go.Proofs.YtbbppeihhkhkcaaGreatDoor
open _root_.Go.Proofs.Tryz _root_.Go.Proofs.YtbbppeihhkhkcaaGreatDoor.Tryz
open Go Go.Sy Go.Pl Go.Proofs
section
variable {l:List Cl}(hl:(ar l).2=0)
include hl
end
open Go Go.Sy Go.Pl Go.Proofs Go.Shelf Go.Sort
set_option maxRecDepth 100000
theorem ph {α:Type}[Inhabited α]{k:Nat}(en:Enc α k)(l:List α):(flatK en.enc k l.toArray).toList=l.flatMap en.enc:=by
 apply List.ext_getElem?;intro t;by_cases ht:t<l.length * k
 ·have h1:t / k<l.length:=by rw[Nat.div_lt_iff_lt_mul en.pos]; exact ht
  have h2:t % k<k:=Nat.mod_lt _ en.pos;have h3:l[t / k]?=some l[t / k]:=List.getElem?_eq_getElem h1;have h4:t % k<(en.enc l[t / k]).length:=by rw[en.len]; exact h2
  have h5:=Enc.get (e:=en) (l:=l) h3 (List.getElem?_eq_getElem h4);rw[show t / k * k+t % k=t from Nat.div_add_mod' t k] at h5;rw[h5];have hs:t<(flatK en.enc k l.toArray).size:=by simpa using ht
  rw[Array.getElem?_toList,Array.getElem?_eq_getElem hs];have h6:=get_flatK en.enc k l.toArray t (by simpa using ht);rw[getElem!_pos _ t hs] at h6;rw[h6];have h7:l.toArray[t / k]! = l[t / k]:=by rw[getElem!_pos l.toArray (t / k) (by simpa using h1)]; simp
  rw[h7,getElem!_pos (en.enc l[t / k]) (t % k) h4]
 ·rw[List.getElem?_eq_none (by simp; omega),List.getElem?_eq_none (by rw[Enc.length]; omega)]
def ER (P:Program)(fn:Nat){α:Type}(enc:α→List Value)(cf:α→α→Int):Prop:=∀ (E:World) (g:PH) (s:Own) (x y:α),
 Ctr P E fn #[.agg (enc x).toArray,.agg (enc y).toArray] g s (fun r g' s'=>r = .int .i64 (cf x y)∧g=g'∧s=s')
theorem vy {P:Program}{ρ:Ren}(L:SlLaysF0.n6 P ρ){α:Type}[Inhabited α]{k:Nat}(en:Enc α k)(aE:∀ w,(isAgg (ρ.t 24)).run P w = .ok true w)(zE:∀ w,(Go.sizeOf (ρ.t 24)).run P w = .ok k w)(cf:α→α→Int)(hO:SWO (ltOf cf))(fn:Nat)
  (eg:∀ args w,(callFunc fn args).run P w = .ok (.enter fn args) w) (hcmp:ER P fn en.enc cf) (T:TypeId) (E:World) (g:PH) (s:Own) (v:Value) (l:List α) (i:Nat) (hi:s[i]?=some (rowA en T v l)) (hl:l.length<1099511627776) :
  Ctr P E (ρ.f 6) #[v,.func (.func fn) #[] #[]] g s (fun _ g' s'=>g=g'∧∃ l':List α,l'.Perm l∧(l'.Pairwise fun x y=>¬ cf y x<0)∧s'=s.set i (rowA en T v l')):=by
 intro w hw;obtain ⟨h1,h2⟩:=fE hw hi
 rcases h2 with ⟨p,rfl,hn⟩ | ⟨b,cap,cur,rfl,hb,hle,hcm,hcs,ht⟩
 ·have hnil:l=[]:=zf1 hn;subst hnil;refine (AnyF.slices_SortFunc_none L p 0 (.func (.func fn) #[] #[]) w).mono ?_;rintro e w' ⟨rfl,rfl⟩;exact⟨_,g,s,I,hw,I,[],.nil,.nil,(mw hi).symm⟩
 ·have hfr:=hw.fresh _ (zf8 hi) b rfl;have hblt:=(Array.getElem?_eq_some_iff.1 hb).1;have hfl:=ph en l;have hcmp':CmpLays P fn #[] en.enc k cf b 0 l.toArray.size w:=by
   intro m os dk hs x y;refine (hcmp (sortWorldK en.enc k w b 0 m dk os) (vd _) [] x y _ (CF _)).mono ?_;rintro e w' ⟨v',g',s',rfl,hat,rfl,rfl,rfl⟩;exact⟨I,wn hat⟩
  have hH:HoldsK en.enc k w b 0 l.toArray:=by
   intro j hj;have hj':j<l.length * k:=by simpa using hj
   refine⟨?_,by simp[World.frozen?,hb]⟩;have h1:(cur.toList.take (l.length * k))[j]?=(flatK en.enc k l.toArray).toList[j]?:=by rw[ht,hfl]
   rw[List.getElem?_take_of_lt hj'] at h1;have hs:j<(flatK en.enc k l.toArray).size:=by simpa using hj'
   simp only[World.cell?,hb,Nat.zero_add];simp only[Option.isSome_none,Bool.false_eq_true,if_false];rw[← Array.getElem?_toList,h1,Array.getElem?_toList,Array.getElem?_eq_getElem hs,getElem!_pos _ j hs];rfl
  refine (AnyQ.slices_SortFunc L k aE zE en.enc en.len en.one cf hO fn #[] b 0 (cap+1) l.toArray w eg hcmp' hH hblt (by simp; omega)).mono ?_;rintro e w' ⟨rfl,d',n,os,hp,hsd,rfl⟩;obtain ⟨d'⟩:=d';have hdl:d'.length=l.length:=by have:=hp.1; simpa using this
  have hperm:d'.Perm l:=by
   have h5:=hp.2.2;simp only[List.size_toArray,List.extract_toArray] at h5;simpa [List.extract_eq_take_drop,hdl,tL (Nat.le_of_eq hdl)] using h5
  have hsrt:d'.Pairwise fun x y=>¬ cf y x<0:=by
   rw[zc8];intro i j hi hj hij;have h5:=hsd i j (zf3 _) hij (by simp; omega);simp only[ltOf,decide_eq_false_iff_not] at h5;simpa [hi,hj] using h5
  have hfd:=ph en d';have hfs:(flatK en.enc k d'.toArray).size=l.length * k:=by simp[hdl]
  refine⟨_,g,s.set i (rowA en T (.slice (some ⟨b,0,none⟩) l.length (cap+1)) d'),I,?_,I,d',hperm,hsrt,I⟩;have h5:(sortWorldK en.enc k w b 0 n d'.toArray os).heap[b]?=some (.cells (putCells id 0 (flatK en.enc k d'.toArray) cur) T (0,0)):=by
   show (grow (putRow id (Sort.ahead w n) b 0 (flatK en.enc k d'.toArray)) os).heap[b]?=_;rw[heap_grow_old _ _ (by simpa using hblt)];simp[putRow,mapBlock,Sort.ahead,Array.getElem?_modify,hb,onCells]
  exact hw.turn (i:=i) (w':=sortWorldK en.enc k w b 0 n d'.toArray os) (e':=rowA en T (.slice (some ⟨b,0,none⟩) l.length (cap+1)) d') hi I ⟨I,Nat.le_add_right _ _⟩ I (by simp[sortWorldK,grow,putRowK,putRow,mapBlock,Sort.ahead]) (fun q hq hne=>by
    have hne':b≠q:=fun e=>hne (by rw[e]; rfl);show (grow (putRow id (Sort.ahead w n) b 0 (flatK en.enc k d'.toArray)) os).heap[q]?=_;rw[heap_grow_old _ _ (by simpa using hq)];simp[putRow,mapBlock,Sort.ahead,Array.getElem?_modify,hne']) (by
    have:=dw (w:=sortWorldK en.enc k w b 0 n d'.toArray os) (T:=T) (k:=k) (n:=d'.length) (b:=b) (cap:=cap) (xs:=d'.flatMap en.enc) (by rw[en.length]) h5 oM hcm (by simp[putCells]; simpa using hcs) (by
     rw[← hfd];apply List.ext_getElem?;intro j;by_cases hj:j<d'.length * k
     ·have hj2:j<(flatK en.enc k d'.toArray).size:=by simpa using hj
      have hj3:j<cur.size:=by
       have:d'.length * k≤(cap+1) * k:=Nat.mul_le_mul_right _ oM;omega
      rw[List.getElem?_take_of_lt hj,Array.getElem?_toList,Array.getElem?_toList,Array.getElem?_eq_getElem hj2];simp only[putCells,Array.getElem?_mapIdx,Array.getElem?_eq_getElem hj3,Option.map_some,zf3,true_and,Nat.zero_add,Nat.sub_zero];rw[zf7 hj2,getElem!_pos _ j hj2];rfl
     ·rw[List.getElem?_take_eq_none oM,List.getElem?_eq_none (by simp; omega)])
    rw[show rowA en T (.slice (some ⟨b,0,none⟩) l.length (cap+1)) d'=row T k (.slice (some ⟨b,0,none⟩) d'.length (cap+1)) d'.length (d'.flatMap en.enc) by simp only[rowA,hdl]];exact this) (fun b' hb'=>by
    simp only[rowA,row,mh,zg4] at hb';subst hb';exact⟨(Array.getElem?_eq_some_iff.1 h5).1,.inl I⟩)
set_option maxHeartbeats 2000000
abbrev Ts:=List (Int×Value×List Tm)
def eW (ts:Ts):Own:=ts.map fun t=>rowA iG 82 t.2.1 t.2.2
def te (ts:Ts):List (Int×Value):=ts.map fun t=>(t.1,t.2.1)
theorem rK (k:Int):∀ ts:Ts,(dB (te ts) k=none∧∀ t∈ts,t.1≠k)∨∃ (m:Nat) (t:Int×Value×List Tm),ts[m]?=some t∧t.1=k∧dB (te ts) k=some t.2.1∧ts.find? (fun t=>decide (t.1=k))=some t
 | []=>.inl ⟨rfl,by simp⟩
 | t::ts=>by
  have hc:te (t::ts)=(t.1,t.2.1)::te ts:=rfl;rw[hc,cd];by_cases h:k=t.1
  ·rw[zf7 h];exact .inr ⟨0,t,I,h.symm,I,by rw[zi3,zf5 h.symm]⟩
  ·rw[zf6 h]
   rcases rK k ts with ⟨h1,h2⟩ | ⟨m,u,h1,h2,h3,h4⟩
   ·exact .inl ⟨h1,fun x hx=>by
     rcases ze7.1 hx with rfl | hx
     ·exact fun e=>h e.symm
     ·exact h2 x hx⟩
   ·exact .inr ⟨m+1,u,h1,h2,h3,by rw[zi3,zf4 (fun e=>h e.symm)]; exact h4⟩
theorem zQ {ts:Ts}{m:Nat}{t:Int×Value×List Tm}(h:ts[m]?=some t)(p q:Own):(p++(eW ts++q))[p.length+m]?=some (rowA iG 82 t.2.1 t.2.2):=by
 have hj:=(zf2.1 h).1;rw[rU,zg8 (by simpa [eW] using hj)];simp[eW,h]
theorem zP {ts:Ts}{m:Nat}{t:Int×Value×List Tm}(h:ts[m]?=some t)(l':List Tm)(p q:Own):(p++(eW ts++q)).set (p.length+m) (rowA iG 82 t.2.1 l')=p++(eW (ts.set m (t.1,t.2.1,l'))++q):=by
 have hj:=(zf2.1 h).1;rw[List.set_append_right _ _ oM,Nat.add_sub_cancel_left,List.set_append_left _ _ (by simpa [eW] using hj)];simp[eW,List.map_set]
theorem freezeRowsT {E:World}{w:World}:∀ (ts:Ts) (g:PH) (s:Own),At E g (eW ts++s) w→∃ g',Le g g'∧At E g' s w∧∀ t∈ts,SlA iG g' t.2.1 t.2.2
 | [],g,s,h=>⟨g,zb8 g,h,by simp⟩
 | (a,v,l)::r,g,s,h=>by
  have h':At E g (row 82 3 v l.length (l.flatMap iG.enc)::(eW r++s)) w:=h;obtain ⟨g1,hl1,h1,h2⟩:=h'.freezeRow;obtain ⟨g2,hl2,h3,h4⟩:=freezeRowsT r g1 s h1;refine⟨g2,hl1.trans hl2,h3,fun t ht=>?_⟩
  rcases ze7.1 ht with rfl | ht
  ·exact Sl.mono h2 hl2
  ·exact h4 t ht
theorem SC.freezeRowsT {P:Program}{N:Nat}{E:World}{c:Code}{Q:Exit→Act→World→Prop}{f:Fr}{g:PH}{p q:Own}{ts:Ts}(h:∀ g',Le g g'→(∀ t∈ts,SlA iG g' t.2.1 t.2.2)→SC P N E c Q f g' (p++q)):SC P N E c Q f g (p++(eW ts++q)):=fun a w ha hw=>by
 have h0:(p++(eW ts++q)).Perm (eW ts++(p++q)):=by
  rw[← zg5,← zg5];exact List.perm_append_comm.append_right q
 obtain ⟨g',h1,h2,h3⟩:=Go.Proofs.YtbbppeihhkhkcaaGreatDoor.freezeRowsT ts g (p++q) (hw.perm h0);exact h g' h1 h3 a w ha h2
def CO (ts:Ts):Prop:=∀ t∈ts,t.2.2.length<1099511627776∧(t.2.2.map Prod.fst).Nodup∧∃ p n c,t.2.1 = .slice p n c
def CM (ts:Ts)(k:Int):List Tm:=match ts.find? (fun t=>decide (t.1=k)) with
 | some t=>sortBy Prod.fst t.2.2
 | none=>[(k,1)]
theorem zK {l l':List Tm}(hp:l'.Perm l)(hs:l'.Pairwise fun x y=>¬ fN y.1 x.1<0)(hn:(l.map Prod.fst).Nodup):l'=sortBy Prod.fst l:=by
 have h1:Srt Prod.fst l':=hs.imp fun h=>by rw[cc] at h; omega
 exact a6 h1 (rz hp.symm hn)
def Tryz.sortT_ren:Ren :=
 {
  f:=fun x =>
   match x with
   | 6=>113
   | 15=>156
   | 14=>173
   | 28=>209
   | 29=>210
   | 20=>219
   | 21=>220
   | 22=>221
   | 23=>222
   | 24=>223
   | 25=>224
   | 26=>225
   | 27=>226
   | 46=>266
   | 47=>259
   | 48=>260
   | 49=>267
   | 50=>268
   | 57=>291
   | n=>n,
  t:=fun x =>
   match x with
   | 22=>77
   | 24=>82
   | 25=>160
   | 3=>3
   | 39=>203
   | 0=>0
   | 53=>239
   | 55=>145
   | 4=>4
   | 46=>233
   | 45=>232
   | 50=>149
   | 5=>5
   | 9=>9
   | 66=>270
   | 70=>274
   | 76=>292
   | 77=>293
   | n=>n,
  g:=fun x =>
   have n:=x;
   n }
theorem Tryz.sortT:SlLaysF0.n6 Tryz.prog Tryz.sortT_ren :=
  {
  mixed:=Eq.refl true,
  f6 :=
   Exists.intro "slices.SortFunc[[]cocycle/api.Term,cocycle/api.Term]"
    ⟨zf9 (id (Eq.refl true)),
     zb7 func113
      (zd8 some
       kR)⟩,
  f14 :=
   Exists.intro "slices.pdqsortCmpFunc[cocycle/api.Term]"
    ⟨zf9 (id (Eq.refl true)),
     zb7 func173
      (zd8 some
       kR)⟩,
  f15:=zb7 func156 (zd8 some kR),
  f20 :=
   Exists.intro "slices.insertionSortCmpFunc[cocycle/api.Term]"
    ⟨zf9 (id (Eq.refl true)),
     zb7 func219
      (zd8 some
       kR)⟩,
  f21 :=
   Exists.intro "slices.heapSortCmpFunc[cocycle/api.Term]"
    ⟨zf9 (id (Eq.refl true)),
     zb7 func220
      (zd8 some
       kR)⟩,
  f22 :=
   Exists.intro "slices.breakPatternsCmpFunc[cocycle/api.Term]"
    ⟨zf9 (id (Eq.refl true)),
     zb7 func221
      (zd8 some
       kR)⟩,
  f23 :=
   Exists.intro "slices.choosePivotCmpFunc[cocycle/api.Term]"
    ⟨zf9 (id (Eq.refl true)),
     zb7 func222
      (zd8 some
       kR)⟩,
  f24 :=
   Exists.intro "slices.reverseRangeCmpFunc[cocycle/api.Term]"
    ⟨zf9 (id (Eq.refl true)),
     zb7 func223
      (zd8 some
       kR)⟩,
  f25 :=
   Exists.intro "slices.partialInsertionSortCmpFunc[cocycle/api.Term]"
    ⟨zf9 (id (Eq.refl true)),
     zb7 func224
      (zd8 some
       kR)⟩,
  f26 :=
   Exists.intro "slices.partitionEqualCmpFunc[cocycle/api.Term]"
    ⟨zf9 (id (Eq.refl true)),
     zb7 func225
      (zd8 some
       kR)⟩,
  f27 :=
   Exists.intro "slices.partitionCmpFunc[cocycle/api.Term]"
    ⟨zf9 (id (Eq.refl true)),
     zb7 func226
      (zd8 some
       kR)⟩,
  f28:=zb7 func209 (zd8 some kR),
  f29:=zb7 func210 (zd8 some kR),
  f46 :=
   Exists.intro "slices.siftDownCmpFunc[cocycle/api.Term]"
    ⟨zf9 (id (Eq.refl true)),
     zb7 func266
      (zd8 some
       kR)⟩,
  f47:=zb7 func259 (zd8 some kR),
  f48:=zb7 func260 (zd8 some kR),
  f49 :=
   Exists.intro "slices.medianAdjacentCmpFunc[cocycle/api.Term]"
    ⟨zf9 (id (Eq.refl true)),
     zb7 func267
      (zd8 some
       kR)⟩,
  f50 :=
   Exists.intro "slices.medianCmpFunc[cocycle/api.Term]"
    ⟨zf9 (id (Eq.refl true)),
     zb7 func268
      (zd8 some
       kR)⟩,
  f57 :=
   Exists.intro "slices.order2CmpFunc[cocycle/api.Term]"
    ⟨zf9 (id (Eq.refl true)),
     zb7 func291
      (zd8 some
       kR)⟩,
  t0:=uT0,a0:=isAgg0,z0:=sizeOf0,v0:=zk9,t3:=uT3,
  a3:=iT3,z3:=zT3,v3:=zl5,t4:=uT4,a4:=isAgg4,
  z4:=sizeOf4,v4:=zl3,t5:=uT5,a5:=isAgg5,z5:=sizeOf5,
  v5:=zeroValue5,t9:=underlying9,a9:=isAgg9,z9:=sizeOf9,v9:=zeroValue9,
  t22:=underlying77,a22:=isAgg77,z22:=sizeOf77,v22:=zeroValue77,
  t25:=underlying160,a25:=isAgg160,z25:=sizeOf160,v25:=zeroValue160,
  t39:=eV,a39:=isAgg203,z39:=sizeOf203,v39:=zeroValue203,
  t45:=underlying232,a45:=isAgg232,z45:=sizeOf232,v45:=zeroValue232,
  t46:=underlying233,a46:=isAgg233,z46:=sizeOf233,v46:=zeroValue233,
  t50:=underlying149,a50:=isAgg149,z50:=sizeOf149,v50:=zeroValue149,
  t53:=underlying239,a53:=isAgg239,z53:=sizeOf239,v53:=zeroValue239,
  t55:=n5,a55:=isAgg145,z55:=sizeOf145,v55:=zeroValue145,
  t66:=underlying270,a66:=isAgg270,z66:=sizeOf270,v66:=zeroValue270,
  t70:=underlying274,a70:=isAgg274,z70:=sizeOf274,v70:=zeroValue274,
  t76:=underlying292,a76:=isAgg292,z76:=sizeOf292,v76:=zeroValue292,
  t77:=underlying293,a77:=isAgg293,z77:=sizeOf293,v77:=zeroValue293 }
theorem DH:ER Tryz.prog 114 iG.enc (fun x y=>fN x.1 y.1):=by
 intro E g s x y;obtain ⟨x1,x2⟩:=x;obtain ⟨y1,y2⟩:=y;refine zb1 (args:=[.agg #[vi x1,vb (EH x2),txt (AY x2.natAbs)],.agg #[vi y1,vb (EH y2),txt (AY y2.natAbs)]]) func114 I ntmps114 (bE I) ?_;refine rZ (bW (bO I) fun b2=>?_);refine bW (bO I) fun b3=>?_;refine aT I (rZ (lU (fA underlying82 I zT3 I) (lK (qL (v:=vi x1) iT3 I (cO 1 I I)) (lU (fA underlying82 I zT3 I) (lK (qL (v:=vi y1) iT3 I (cO 0 I I)) (lW (SO.call call90 I (cU E g _ x1 y1)) ?_))))));rintro _ _ _ ⟨rfl,rfl,rfl⟩;refine aT I (rE (dR (s':=s) uR ?_));exact za7 (.inl I) results114 I ⟨I,I,I⟩
theorem Eh {α:Type}(key:α→Int):SWO (ltOf fun x y:α=>fN (key x) (key y)):=⟨fun x=>by simp[ltOf,cc],fun x y z h1 h2=>by simp[ltOf,cc] at *; omega,fun x y z h1 h2=>by simp[ltOf,cc] at *; omega⟩
theorem zL (E:World)(g:PH)(s:Own)(v:Value)(l:List Tm)(i:Nat)(hi:s[i]?=some (rowA iG 82 v l))(hl:l.length<1099511627776)(hn:(l.map Prod.fst).Nodup) :
  Ctr Tryz.prog E 113 #[v,.func (.func 114) #[] #[]] g s (fun _ g' s'=>g=g'∧s'=s.set i (rowA iG 82 v (sortBy Prod.fst l))) :=
 (vy Tryz.sortT iG isAgg82 sizeOf82 (fun x y=>fN x.1 y.1) (Eh Prod.fst) 114 call114 DH 82 E g s v l i hi hl).mono fun _ _ _ ⟨h1,l',h2,h3,h4⟩=>⟨h1,by rw[h4,zK h2 h3 hn]⟩
theorem xw (E:World)(g:PH)(p q:Own)(b2 bx mb ms:Nat)(u:Value)(bk:Bool)(k:Int)(ts:Ts)(hts:CO ts)(i j z:Nat)(hq:p[z]?=some (pt b2 (.cells #[pp bx 0] 96 (0,0))))(hi:p[i]?=some (edP bx u mb ms bk))(hj:p[j]?=some (mp ms (te ts))) :
  bM Tryz.prog E (.func (.func 111) #[] #[pp b2 0]) [vi k] g (p++(eW ts++q)) (fun r g' s'=>Le g g'∧∃ ts',s'=p++(eW ts'++q)∧((ts.find? (fun t=>decide (t.1=k))=none∧ts'=ts∧SlA iG g' r [(k,1)])∨∃ (m:Nat) (t:Int×Value×List Tm),ts[m]?=some t∧t.1=k∧ts.find? (fun t=>decide (t.1=k))=some t∧r=t.2.1∧ts'=ts.set m (t.1,t.2.1,sortBy Prod.fst t.2.2))):=by
 refine bM.mk (args:=[_]) (cap:=[pp b2 0]) call111 ?_;have left:∀ {n:Nat} {x:Ent},p[n]?=some x→(p++(eW ts++q))[n]?=some x:=fun {n x} h=>by
  rw[zg8 (zf2.1 h).1]; exact h
 have hq':=left hq;have hi':=left hi;have hj':=left hj;generalize hs:p++(eW ts++q)=s at *
 rcases rK k ts with ⟨h1,h2⟩ | ⟨m,t,h1,h2,h3,h4⟩
 ·have hf:ts.find? (fun t=>decide (t.1=k))=none:=List.find?_eq_none.2 fun t ht=>by simpa using h2 t ht
  refine zb1 (args:=[vi k,pp b2 0]) func111 I ntmps111 (bE I) ?_;refine rZ (aT I (rZ (lK (qL (v:=pp bx 0) isAgg96 I (cO z hq' I)) (lU (nC I) (lU (fA jN I sizeOf110 I) (lK (qL (v:=.map (some ms)) isAgg110 I (cO i hi' I)) (lM I (lK (SQ.eq (v':=.tuple #[.slice none 0 0,vb false]) (SQ.lookupOk mty110 I I (a8.own j hj')) (by rw[h1]; rfl)) ?_))))))));refine lM I (yX I (yX I (lA I (aT I (sQ (sW I (lU (SU.not I) (tZ (za1 I (sW I (lW (SO.call call112 I (zD E g _ k 1 dC dC)) ?_)))))))))));rintro _ g1 _ ⟨rfl,rfl,hle1⟩;refine lW (bS sty77 I I I (ag ⟨I,trivial⟩) dC) ?_;rintro _ _ _ ⟨b19,rfl,rfl,rfl⟩;refine zb4 fun g2 hle2 hb2=>?_;refine aT I (rE (tR ?_));exact za7 (.inl I) results111 I ⟨hle1.trans hle2,ts,hs.symm,.inl ⟨hf,I,SlA.lit hb2 I I⟩⟩
 ·have hrow:=zQ h1 p q;have hset:=zP h1 (sortBy Prod.fst t.2.2) p q;rw[hs] at hrow hset;obtain ⟨hl1,hl2,_⟩:=hts t (zf8 h1);refine zb1 (args:=[vi k,pp b2 0]) func111 I ntmps111 (bE I) ?_;refine rZ (aT I (rZ (lK (qL (v:=pp bx 0) isAgg96 I (cO z hq' I)) (lU (nC I) (lU (fA jN I sizeOf110 I) (lK (qL (v:=.map (some ms)) isAgg110 I (cO i hi' I)) (lM I (lK (SQ.eq (v':=.tuple #[t.2.1,vb true]) (SQ.lookupOk mty110 I I (a8.own j hj')) (by rw[h3]; rfl)) ?_))))))));refine lM I (yX I (yX I (lA I (aT I (sQ (sW I (lU (SU.not I) (tZ (cF I (kP (tN (sW I (lW (SO.call call113 I (zL E g _ t.2.1 t.2.2 _ hrow hl1 hl2)) ?_)))))))))))));rintro _ _ _ ⟨rfl,rfl⟩;refine tZ (sW I (aT I (rE ?_)));exact za7 (.inl I) results111 I ⟨zb8 _,_,hset,.inr ⟨m,t,h1,h2,h4,I,I⟩⟩
theorem wN (l:List Tm):sortBy Prod.fst (sortBy Prod.fst l)=sortBy Prod.fst l:=(a6 (bQ l) (aw.refl _)).symm
def iM (ts:Ts)(ids:List Int):Ts:=ts.map fun t=>if t.1∈ids then (t.1,t.2.1,sortBy Prod.fst t.2.2) else t
theorem A9 (ts:Ts):iM ts []=ts:=by simp[iM]
theorem zB {ts:Ts}{ids:List Int}{k:Int}(h:(iM ts ids).find? (fun t=>decide (t.1=k))=none):∀ t∈ts,t.1≠k:=fun t ht e=>by
 have h1:=List.find?_eq_none.1 h _ (ze8.2 ⟨t,ht,rfl⟩);apply h1;split <;> exact zf5 e
theorem zA {ts:Ts}{ids:List Int}{k:Int}(h:∀ t∈ts,t.1≠k):iM ts (ids++[k])=iM ts ids:=by
 unfold iM;apply zc7;intro t ht;have hne:=h t ht;by_cases h1:t.1∈ids
 ·rw[zf7 h1,zf7 (by simp[h1])]
 ·rw[zf6 h1,zf6 (by simp[h1,hne])]
theorem Ba {ts:Ts}{ids:List Int}{m:Nat}{t':Int×Value×List Tm}(h:(iM ts ids)[m]?=some t'):∃ t,ts[m]?=some t∧t.1=t'.1∧t.2.1=t'.2.1∧sortBy Prod.fst t'.2.2=sortBy Prod.fst t.2.2:=by
 unfold iM at h;rw[zh6] at h;cases ht:ts[m]? with
 | none=>rw[ht] at h; cases h
 | some t =>
  rw[ht] at h;simp only[Option.map_some,zg4] at h;subst h;refine⟨t,I,?_,?_,?_⟩
  ·split <;> rfl
  ·split <;> rfl
  ·split
   ·exact wN _
   ·rfl
theorem zy {ts:Ts}(hn:(ts.map Prod.fst).Nodup){ids:List Int}{k:Int}{m:Nat}{t':Int×Value×List Tm}(h:(iM ts ids)[m]?=some t')(hk:t'.1=k):(iM ts ids).set m (t'.1,t'.2.1,sortBy Prod.fst t'.2.2)=iM ts (ids++[k]):=by
 obtain ⟨t,h1,h2,h3,h4⟩:=Ba h;apply List.ext_getElem?;intro n;rw[List.getElem?_set];by_cases e:m=n
 ·subst e;have hj:=(zf2.1 h).1;rw[zf7 rfl,zf7 hj];unfold iM;rw[zh6,h1,Option.map_some,zf7 (by simp[h2,hk]),← h4,← h2,← h3]
 ·rw[zf6 e];unfold iM;rw[zh6,zh6];cases hn2:ts[n]? with
  | none=>rfl
  | some u =>
   have hne:u.1≠k:=fun e2=>by
    have hm1:=(zf2.1 h1).1;have hn1:=(zf2.1 hn2).1;have h5:(ts.map Prod.fst)[m]'(by simpa using hm1)=(ts.map Prod.fst)[n]'(by simpa using hn1):=by
     rw[List.getElem_map,List.getElem_map,(zf2.1 h1).2,(zf2.1 hn2).2,h2,hk,e2]
    exact e ((List.getElem_inj hn).1 h5)
   rw[Option.map_some,Option.map_some];by_cases h5:u.1∈ids
   ·rw[zf7 h5,zf7 (by simp[h5])]
   ·rw[zf6 h5,zf6 (by simp[h5,hne])]
theorem yv {ts:Ts}(h:CO ts)(ids:List Int):CO (iM ts ids):=fun t ht=>by
 obtain ⟨u,hu,rfl⟩:=ze8.1 ht;obtain ⟨h1,h2,h3⟩:=h u hu;split
 ·exact⟨by rw[cq]; exact h1,((dS u.2.2).map Prod.fst).symm.nodup h2,h3⟩
 ·exact⟨h1,h2,h3⟩
theorem A8 (ts:Ts)(ids:List Int):te (iM ts ids)=te ts:=by
 unfold te iM;rw[zi2];apply zc7;intro t _;simp only[Function.comp];split <;> rfl
theorem sF {α β γ:Type}{R:α→γ→Prop}{S:β→γ→Prop}{f:α→β}:∀ {l:List α} {m:List γ},(∀ a c,a∈l→R a c→S (f a) c)→az R l m→az S (l.map f) m
 | [],[],_,_=>trivial
 | a::l,c::m,h,⟨h1,h2⟩=>⟨h a c (by simp) h1,sF (fun x y hx=>h x y (by simp[hx])) h2⟩
 | [],_::_,_,h=>h.elim
 | _::_,[],_,h=>h.elim
def ImS (ts:Ts)(g:PH)(c:Cl)(r:Im):Prop:=r.cell=c.id∧match ts.find? (fun t=>decide (t.1=c.id)) with
 | some t=>.slice r.sv.p r.sv.n r.sv.c=t.2.1
 | none=>SlA iG g (.slice r.sv.p r.sv.n r.sv.c) [(c.id,1)]
theorem ImS.mono {ts:Ts}{g g':PH}(hl:Le g g'){c:Cl}{r:Im}(h:ImS ts g c r):ImS ts g' c r:=by
 refine⟨h.1,?_⟩;have h2:=h.2
 revert h2
 cases ts.find? (fun t=>decide (t.1=c.id)) with
 | some t=>exact id
 | none=>exact fun h2=>za4 h2 hl
theorem ImS.done {ts:Ts}{g:PH}{F:List Cl}(hk:∀ t∈iM ts (F.map Cl.id),SlA iG g t.2.1 t.2.2){c:Cl}(hc:c∈F){r:Im}(h:ImS ts g c r):ImR g (c.id,CM ts c.id) r:=by
 refine⟨h.1,?_⟩;have h2:=h.2;unfold CM;dsimp only
 revert h2
 cases hf:ts.find? (fun t=>decide (t.1=c.id)) with
 | some t =>
  intro h2;have h3:=zk3 hf;have h4:t.1=c.id:=by simpa using List.find?_some hf
  dsimp only at h2 ⊢;rw[h2];exact hk (t.1,t.2.1,sortBy Prod.fst t.2.2) (ze8.2 ⟨t,h3,by rw[zf7 (by rw[h4]; exact ze8.2 ⟨c,hc,I⟩)]⟩)
 | none=>exact id
theorem zz {ts:Ts}{ids:List Int}{k:Int}{t':Int×Value×List Tm}(h:(iM ts ids).find? (fun t=>decide (t.1=k))=some t'):∃ t,ts.find? (fun t=>decide (t.1=k))=some t∧t.2.1=t'.2.1:=by
 unfold iM at h;rw[List.find?_map] at h;rw[Option.map_eq_some_iff] at h;obtain ⟨t,h1,h2⟩:=h;refine⟨t,?_,?_⟩
 ·rw[← h1];congr 1;funext u;simp only[Function.comp];split <;> rfl
 ·rw[← h2];split <;> rfl
theorem Am {ts ts2:Ts}(htn:(ts.map Prod.fst).Nodup)(hok:CO ts){ids:List Int}{cx:Cl}{g2:PH}{v:Value}
  (h:((iM ts ids).find? (fun t=>decide (t.1=cx.id))=none∧ts2=iM ts ids∧SlA iG g2 v [(cx.id,1)])∨∃ (m:Nat) (t:Int×Value×List Tm),(iM ts ids)[m]?=some t∧t.1=cx.id∧(iM ts ids).find? (fun t=>decide (t.1=cx.id))=some t∧v=t.2.1∧ts2=(iM ts ids).set m (t.1,t.2.1,sortBy Prod.fst t.2.2)) :
  ∃ q n d,v = .slice q n d∧ts2=iM ts (ids++[cx.id])∧ImS ts g2 cx ⟨cx.id,⟨q,n,d⟩⟩:=by
 rcases h with ⟨h1,rfl,h3⟩ | ⟨m,t,h1,h2,h3,rfl,rfl⟩
 ·obtain ⟨p,c,rfl⟩:=za3 h3;have hne:=zB h1;refine⟨p,_,c,I,(zA hne).symm,I,?_⟩;rw[show ts.find? (fun t=>decide (t.1=cx.id))=none from List.find?_eq_none.2 fun t ht=>by simpa using hne t ht];exact h3
 ·obtain ⟨_,_,p,n,c,hv⟩:=yv hok ids t (zf8 h1);obtain ⟨u,hu1,hu2⟩:=zz h3;refine⟨p,n,c,hv,zy htn h1 h2,I,?_⟩;rw[hu1];dsimp only;rw[hu2,hv]
theorem zJ (E:World)(g:PH)(p0 q0:Own)(bx mb ms:Nat)(u v:Value)(bk:Bool)(A D:List Cl)(ts:Ts)(hts:CO ts)(htn:(ts.map Prod.fst).Nodup)(hu:aj g u A)(hv:aj g v D)(hA:A.length<1099511627776)(hD:D.length<1099511627776)(i j:Nat)(hi0:p0[i]?=some (edP bx u mb ms bk))(hj0:p0[j]?=some (mp ms (te ts))) :
  Ctr Tryz.prog E 44 #[pp bx 0,.agg #[v]] g (p0++(eW ts++q0)) (fun r g' s'=>s'=p0++q0∧Le g g'∧∃ iv,r = .agg #[iv,vb bk]∧Ims g' iv ((if bk then D else A).map fun c=>(c.id,CM ts c.id))):=by
 have hi:(p0++(eW ts++q0))[i]?=some (edP bx u mb ms bk):=by rw[zg8 (zf2.1 hi0).1]; exact hi0
 obtain ⟨pu,cu,rfl⟩:=hu.form;obtain ⟨pv,cv,rfl⟩:=hv.form;refine zb1 (args:=[pp bx 0,.agg #[.slice pv D.length cv]]) func44 I ntmps44 (bE I) ?_;refine rZ (bW (bO I) fun b2=>?_);refine bW (bO I) fun b3=>?_;refine bW (aL zl1) fun b4=>?_;refine tZ (rZ (lK (qL isAgg96 I (cO 2 I I)) (lU (nC I) (lU (fA jN I ak I) (lK (SQ.loadOne aA ak I (cO (v:=.slice pu A.length cu) (i+3) hi I)) (bW (aL zk7) fun b5=>?_))))));refine oZ (sK 0 ak I I I I I sB) ?_;refine tZ ?_;refine SC.cut (ι:=Unit) (fun _=>[(2,pp b2 0),(3,pp b3 0),(4,pp b4 0),(5,pp b5 0)]) (fun _=>g) (fun _=>pt b5 (.cells #[if bk then .slice pv D.length cv else .slice pu A.length cu] 29 (0,0))::pt b4 (.cells #[.slice none 0 0,vb false] 35 (0,0))::pt b3 (.cells #[.slice pv D.length cv] 29 (0,0))::pt b2 (.cells #[pp bx 0] 96 (0,0))::(p0++(eW ts++q0))) (fun _=>True) ?_ ?_
 ·refine rZ (lK (qL isAgg96 I (cO 3 I I)) (lU (nC I) (lU (fA jN I sizeOf4 I) (lK (qL (v:=vb bk) isAgg4 I (cO (i+4) hi I)) (tZ ?_)))));cases bk with
  | true =>
   refine za1 I (rG (lK (qV 2 aA ak I I I) (oZ (sK 0 ak I I I I I sB) ?_)));refine nL ?_;exact za8 () sB I I trivial
  | false =>
   refine cF I (kP ?_);exact za8 () sB I I trivial
 rintro _ -;try dsimp only
 have hF:aj g (if bk then .slice pv D.length cv else .slice pu A.length cu) (if bk then D else A):=by cases bk <;> assumption
 have hFl:(if bk then D else A).length<1099511627776:=by cases bk <;> assumption
 generalize (if bk=true then D else A)=F at *;generalize (if bk=true then Value.slice pv D.length cv else Value.slice pu A.length cu)=w at *;obtain ⟨rs,hrs,hall⟩:=hF;have hrl:=hall.length;obtain ⟨p,c,rfl⟩:=za3 hrs;refine rZ (lK (qL isAgg96 I (cO 3 I I)) (lU (nC I) (lU (fA jN I sizeOf4 I) (lK (qL (v:=vb bk) isAgg4 I (cO (i+4) hi I)) (lU (za2 I (buildB35 _)) (bW (aL zl1) fun b6=>?_))))));refine oZ (sK 0 nW I I I I I sB) ?_;refine tZ (rZ (lU (SU.mkFunc I) (aT I (sQ (rZ (lU (fA ec I dF I) (lK (qL fw I (cO 1 I I)) (lU (eN aB I) (lM I (tZ (bK ?_)))))))))));clear hi;refine zb5 113 2 ?_;refine oP (ι:=Nat×PH×Value×List Im) (fun i=>[(2,pp b2 0),(4,pp b4 0),(6,pp b6 0),(7,.func (.func 111) #[] #[pp b2 0]),(26,.slice p rs.length c),(27,vi rs.length),(28,vi i.1)]) (fun i=>i.2.1)
  (fun i=>rowA xZ 113 i.2.2.1 i.2.2.2::pt b6 (.cells #[i.2.2.1,vb bk] 35 (0,0))::pt b5 (.cells #[.slice p rs.length c] 29 (0,0))::pt b4 (.cells #[.slice none 0 0,vb false] 35 (0,0))::pt b3 (.cells #[.slice pv D.length cv] 29 (0,0))::pt b2 (.cells #[pp bx 0] 96 (0,0))::(p0++(eW (iM ts ((F.take i.1).map Cl.id))++q0)))
  (fun i=>i.1≤rs.length∧Le g i.2.1∧az (ImS ts i.2.1) (F.take i.1) i.2.2.2) (fun i=>rs.length - i.1) (0,g,.slice none 0 0,[])
  sB rfl (by dsimp only; rw[List.take_zero,List.map_nil,A9]; rfl) ⟨zf3 _,zb8 g,by simp[az]⟩ ?_
 rintro ⟨k,g1,ov,acc⟩ ⟨hk,hle,hacc⟩;dsimp only at hk hle hacc ⊢;have hal:=hacc.length;rw[ze1] at hal;refine rZ (yL I (tZ (sQ ?_)));refine iP I (fun hlt=>?_) (fun hlt=>?_)
 ·have hkr:k<rs.length:=oM;have hkl:k<F.length:=oM;have hb1:=za5 hrs oM;have hcr:=hall.get (List.getElem?_eq_getElem hkl) (List.getElem?_eq_getElem hkr);have hgx:rs[((k:Nat):Int).toNat]?=some rs[k]:=List.getElem?_eq_getElem hkr;have htk:F.take (k+1)=F.take k++[F[k]]:=tS hkl;generalize rs[k]=x at *;generalize F[k]=cx at *;obtain ⟨xi,xd,xp,xn,xc⟩:=x;obtain ⟨e1,e2,-⟩:=hcr;dsimp only at e1 e2;subst e1 e2;refine kP (tN (sQ (bK (rZ (lU (iA aB ao I I hb1 oM (show (k:Int)<((rs.length:Nat):Int) by omega)) ?_)))));refine lK (SQ.elemA cz ao I (za6 (za4 hrs hle)) hgx) (bW (aL zk8) fun b9=>?_);refine oZ (sK 0 ao I I I I I sB) ?_;refine tZ ?_;refine SC.drawT 3 [11,14] [(0,2),(1,2),(2,1),(3,2),(4,1),(5,2),(6,2),(7,1),(8,0),(9,2),(10,0),(11,0),(12,2),(13,2),(14,0)] zd9 kR ?_;refine pU I (fA underlying35 I sizeOf33 I) (pU I (fA underlying33 I sizeOf31 I) (pK I (qL isAgg31 I (cO 2 I I)) (pU I (fA ay I zT3 I) (pK I (qL iT3 I (cO 0 I I)) (yM I (pU I (fA ay I zT3 I) (pK I (qL iT3 I (cO 0 I I)) (SP.o I (SO.callV I I (xw E g1 (pt b9 (.cells #[vi cx.id,vi cx.dim,.slice xp xn xc] 56 (0,0))::rowA xZ 113 ov acc::pt b6 (.cells #[ov,vb bk] 35 (0,0))::pt b5 (.cells #[.slice p rs.length c] 29 (0,0))::pt b4 (.cells #[.slice none 0 0,vb false] 35 (0,0))::pt b3 (.cells #[.slice pv D.length cv] 29 (0,0))::pt b2 (.cells #[pp bx 0] 96 (0,0))::p0) q0 b2 bx mb ms _ bk cx.id (iM ts ((F.take k).map Cl.id)) (yv hts _) (i+7) (j+7) 6 I hi0 (by rw[A8]; exact hj0))) dC (.inr (by rintro v40 g2 _ ⟨hle2,ts2,rfl,hcase⟩; exact⟨by assumption,(by exact .cons_cons _ (.cons_cons _ (.cons_cons _ (List.nil_sublist _))))⟩)) ?_))))))));rintro v40 g2 _ ⟨hle2,ts2,rfl,hcase⟩;obtain ⟨q2,n2,d2,rfl,hts2,him2⟩:=Am htn hts hcase;subst hts2;refine pU rfl (za2 rfl (build113 _ _ _ _)) (SP.o rfl (bS sty31 rfl rfl rfl (ag sB) dC) dC (.inr (by rintro _ _ _ ⟨b42,rfl,rfl,rfl⟩; exact⟨by assumption,(by exact .cons _ (.cons_cons _ (.cons_cons _ (.cons_cons _ (List.nil_sublist _)))))⟩)) ?_);rintro _ _ _ ⟨b42,rfl,rfl,rfl⟩;refine SP.o I (aP (e:=xZ) 1 ⟨cx.id,⟨q2,n2,d2⟩⟩ sty31 I I I I I oM oM) dC (.inl dC) ?_;rintro ov' _ _ ⟨rfl,rfl⟩;refine SP.facts fun ⟨w0,hw0⟩=>?_;obtain ⟨q',d',rfl⟩:=ah (e:=xZ) (l:=acc++[⟨cx.id,⟨q2,n2,d2⟩⟩]) (i:=1) hw0 rfl;clear hw0 w0;refine pU rfl (fA underlying35 rfl sizeOf33 rfl) (pU rfl (fA underlying33 rfl sizeOf31 rfl) (SP.on rfl (SO.store1 2 sizeOf31 rfl rfl rfl rfl (bE rfl) (by rfl)) (.inl dC) ?_));rintro _ _ _ ⟨rfl,rfl⟩;refine pN (bN (tN (rG (yD I (lM I (nL (dR (.cons _ (.refl _)) ?_)))))));exact ST.again (k+1,g2,_,acc++[⟨cx.id,⟨q2,n2,d2⟩⟩]) sB I (by dsimp only; rw[htk,zg2]; rfl) ⟨by dsimp only; omega,hle.trans hle2,by
   dsimp only;rw[htk];exact (hacc.mono fun _ _=>ImS.mono hle2).append ⟨him2,trivial⟩⟩ (by dsimp only; omega)
 ·have hkk:F.take k=F:=tL oM;rw[hkk] at hacc ⊢;refine xI (tX (tX (bX (tN (sQ (fS fun g2 hle2 hs2=>?_))))));obtain ⟨q2,d2,rfl⟩:=Sl.form hs2;refine SC.freezeRowsT (p:=pt b6 (.cells #[.slice q2 acc.length d2,vb bk] 35 (0,0))::pt b5 (.cells #[.slice p rs.length c] 29 (0,0))::pt b4 (.cells #[.slice none 0 0,vb false] 35 (0,0))::pt b3 (.cells #[.slice pv D.length cv] 29 (0,0))::pt b2 (.cells #[pp bx 0] 96 (0,0))::p0) (q:=q0) fun g3 hle3 hfr=>?_;refine rG (lK (qV 0 isAgg35 nW I I I) (oZ (sK 2 nW I I I I I sB) ?_));refine tZ (rE ?_);have hdone:az (ImR g3) (F.map fun c=>(c.id,CM ts c.id)) acc:=sF (fun c r hc hr=>ImS.done hfr hc (hr.mono (hle2.trans hle3))) hacc;exact ST.retCD 2 (p0++q0) (.inl I) results44 I isAgg35 nW I I uR ⟨I,hle.trans (hle2.trans hle3),_,I,acc,za4 hs2 hle3,hdone⟩
def DG (A:List Cl)(e:Ed):Int:=if (ab A e.cell).isSome&&(ab A e.other).isSome then (if oh A e.cell=[e.other]∧¬ 0<(oh A e.other).length then 0 else 32) else 30
set_option maxHeartbeats 4000000
def Eb (l:List ae)(b:Bool):ae:=(l.find? fun x=>decide (0<x.sign) == b).getD ⟨0,0⟩
def m5 (A:List Cl)(e:Ed):Int:=match ab A e.cell with
 | none=>30
 | some c=>if c.dim≠1 then 21 else if min e.new e.other<1∨e.new=e.other then 1 else if (ab A e.new).isSome||(ab A e.other).isSome then 54 else 0
instance:Inhabited ae:=⟨⟨0,0⟩⟩
def E2 (x y:ae):Int:=orI [fN x.cell y.cell,fN x.sign y.sign]
def EJ (f:Int→Option Int)(x:ae):ae:=⟨(f x.cell).getD x.cell,x.sign⟩
end Go.Proofs.YtbbppeihhkhkcaaGreatDoor
namespace Go.Sy
open Go Go.MapKept
section
variable {P:Program}{N:Nat}{E:World}{f:Fr}{g:PH}{s:Own}{dst:Option Tmp}{ty:TypeId}{pos:String}{af:Array Edge}{gd:Option (Nat×Bool)}
variable {t kt et:TypeId}{m r clk:Nat}{es:Array MapEntry}{vis:List MapEntry}{x y u:Operand}{l vl:List (Int×Value)}{z:Value}{b:Nat}{k:Int}{v:Value}
def unK:Value→Option Int
 | .int .i64 n=>some n
 | _=>none
theorem Ee (a:Int):unK (vi a)=some a:=rfl
end
end Go.Sy
namespace Go.Proofs.YtbbppeihhkhkcaaGreatDoor
open _root_.Go.Proofs.Tryz _root_.Go.Proofs.YtbbppeihhkhkcaaGreatDoor.Tryz
open Go Go.Sy Go.Pl Go.Proofs
def leSd (x y:ae):Bool:=decide (¬ E2 y x<0)
def E7 (l:List ae):List ae:=l.mergeSort leSd
section
variable {F:Cl→Cl}(hF:∀ y,(F y).id=y.id)
include hF
end
def allP (ps:List Pr):List Int:=ps.flatMap fun p=>[p.1,p.2]
def dupP (ps:List Pr):Bool:=decide (¬ (allP ps).Nodup)
def byF (ps:List Pr)(k:Int):Option Int:=(ps.find? fun p=>decide (p.2=k)).map Prod.fst
def DZ (A:List Cl)(id:Int):Int:=((ab A id).getD bi).dim
def Cp (A:List Cl)(id:Int):List ae:=((ab A id).getD bi).sides
def ED (A:List Cl)(ps:List Pr)(p:Pr):Bool:=decide (E7 ((Cp A p.1).map (EJ (byF ps)))=E7 ((Cp A p.2).map (EJ (byF ps))))
def An (A:List Cl)(e:Ed):Int :=
 if e.pairs.all (fun p=>(ab A p.1).isSome&&(ab A p.2).isSome) then
  if dupP e.pairs then 54 else if e.pairs.any (fun p=>decide (DZ A p.1≠DZ A p.2)) then 21 else if e.pairs.all (ED A e.pairs) then 0 else 33
 else 30
def xY (A:List Cl)(ks:List Int):List Cl:=A.filter fun c=>!decide (c.id∈ks)
def BU (e:Ed)(k:Int):List Tm:=match byF e.pairs k with
 | some t=>[(t,1)]
 | none=>[(k,1)]
theorem zT {A:List Cl}(hn:(A.map Cl.id).Nodup)(ks:List Int)(k:Int):ye (xY A ks) k=xY A (ks++[k]):=by
 have h1:((xY A ks).map Cl.id).Nodup:=(List.filter_sublist.map Cl.id).nodup hn;rw[nR k h1];unfold xY;rw[List.filter_filter];refine List.filter_congr fun c _=>?_;by_cases h2:c.id∈ks <;> by_cases h3:c.id=k <;> simp[h2,h3]
set_option maxRecDepth 100000
set_option maxHeartbeats 8000000
set_option maxHeartbeats 4000000
def n8 (A:List Cl)(ks:List Int):List Cl:=A.filter fun c=>!decide (c.id∈ks)
theorem wR {A:List Cl}(hf:bd A)(ks:List Int):bd (n8 A ks):=⟨by
 have h1:=zc4 (fun c:Cl=>!decide (c.id∈ks)) A;have h2:=hf.1;unfold n8;omega,fun c hc=>hf.2 c (zh1.1 hc).1⟩
def sgF (l:List ae)(cell:Int):Int:=l.foldl (fun a x=>if x.cell=cell then x.sign else a) 0
def ui (l:List Cl)(e:Ed):List Tm:=((((findC l e.other).getD bi).sides.filter fun x=>!decide (x.cell=e.cell))).map fun x=>(x.cell,-sgF ((findC l e.other).getD bi).sides e.cell * x.sign)
def EV (e:Ed)(l:List ae):List ae:=(l.filter fun x=>decide (x.cell=e.cell)).map fun x=>⟨e.other,x.sign⟩
def fZ (e:Ed)(a:Int)(y:Cl):Cl:=if y.id=e.cell then ⟨y.id,y.dim,[⟨a,-1⟩,⟨e.new,1⟩]⟩ else ⟨y.id,y.dim,y.sides++EV e y.sides⟩
def jX (l:List Cl)(e:Ed):List Cl:=[⟨e.new,0,[]⟩,⟨e.other,1,[⟨e.new,-1⟩,⟨(Eb ((findC l e.cell).getD bi).sides true).cell,1⟩]⟩]++l.map (fZ e (Eb ((findC l e.cell).getD bi).sides false).cell)
def qR (e:Ed):List Tm:=if e.other<e.cell then [(e.other,1),(e.cell,1)] else [(e.cell,1),(e.other,1)]
def repX (f:Int→Option Int)(c:Cl):Cl:=⟨c.id,c.dim,c.sides.map (EJ f)⟩
def nH (l:List Cl)(e:Ed):List Cl:=(n8 l (e.pairs.map Prod.snd)).map (repX (byF e.pairs))
def qE (fv:Value)(e:Ed)(A:List Cl)(code:Int)(B:List Cl)(img:Int→List Tm)(bk:Bool):Prop :=
 ∀ (E:World) (g:PH) (s:Own) (bx mb ms:Nat) (u v:Value) (rs:List Rc),aj g u A→az vh A rs→EdR g v e →
  bM Tryz.prog E fv [pp bx 0,v] g (edP bx u mb ms false::mp mb (rs.map an)::mp ms []::(nX A rs++s)) (fun r g' s'=>Le g g'∧r=vi code∧(if code=0 then ∃ rs' ts,az (am g') B rs'∧CO ts∧(ts.map Prod.fst).Nodup∧(∀ k,CM ts k=img k)∧s'=edP bx u mb ms bk::mp mb (rs'.map an)::mp ms (te ts)::(eW ts++s) else ∃ h,s'=h++s))
def DU (k:Int):List Tm:=[(k,1)]
theorem qe.gen {fv:Value}{e:Ed}{A:List Cl}{code:Int}{B:List Cl}{bk:Bool}(h:qe fv e A code B bk):qE fv e A code B DU bk:=fun E g s bx mb ms u v rs hu hO hv=>by
 obtain ⟨n,cap,q1,q2,q3⟩:=h E g s bx mb ms u v rs hu hO hv;refine⟨n,cap,q1,q2,q3.mono ?_⟩;rintro r g' s' ⟨h1,h2,h3⟩;refine⟨h1,h2,?_⟩;by_cases h0:code=0
 ·rw[zf7 h0] at h3 ⊢;obtain ⟨rs',h4,rfl⟩:=h3;exact⟨rs',[],h4,fun t ht=>by simp at ht,List.nodup_nil,fun k=>I,I⟩
 ·rw[zf6 h0] at h3 ⊢;exact h3
def gU (g:PH)(code:Int)(D:List Cl)(ims:List (Int×List Tm))(bk:Bool)(r:Value)(g':PH):Prop:=∃ u p n c b,r = .tuple #[.agg #[u],.agg #[.slice p n c,vb b],vi code]∧eU (mns g' g) u D∧(code=0→b=bk∧Ims g' (.slice p n c) ims)∧(code≠0→b=false∧Ims g' (.slice p n c) [])
theorem gU.old {g:PH}{code:Int}{D:List Cl}{ims:List (Int×List Tm)}{bk:Bool}{r:Value}{g':PH}(h:gU g code D ims bk r g'):qd code D ims bk r g':=by
 obtain ⟨u,p,n,c,b,h1,h2,h3⟩:=h;exact⟨u,p,n,c,b,h1,h2.cells (eG _ _),h3⟩
theorem eU.nil (g:PH):eU g (.slice none 0 0) []:=⟨[],RK.nil _ _ g,trivial⟩
theorem xN (E:World)(g:PH)(s:Own)(v ev:Value)(l:List Cl)(e:Ed)(hv:aj g v l)(hf:bd l)(he:EdR g ev e)(ims:List (Int×List Tm))(bk:Bool)(hbad:dB og e.kind=none∨(ar l).2≠0) :
  Ctr Tryz.prog E 12 #[.agg #[v],ev] g s (fun r g' s'=>s=s'∧Le g g'∧gU g 1 [] ims bk r g'):=by
 obtain ⟨z,hz⟩:=Tryz.mtyKinds;obtain ⟨sv,pv,rfl,hsv,hpv⟩:=he;obtain ⟨sp,sc,rfl⟩:=za3 hsv;obtain ⟨pq,pc,rfl⟩:=za3 hpv;obtain ⟨p,c,rfl⟩:=hv.form;refine zb1 (args:=[.agg #[.slice p l.length c],.agg #[vi e.kind,vi e.cell,vi e.dim,vi e.new,vi e.other,.slice sp e.sides.length sc,.slice pq e.pairs.length pc]]) func12 I ntmps12 (bE I) ?_;cases hg:dB og e.kind with
 | none =>
  refine rZ (bW (bO I) fun b2=>?_);refine bW (bO I) fun b3=>?_;refine bW (aL zk7) fun b4=>?_;refine bW (aL zl1) fun b5=>?_;refine aT I (sQ ?_);refine dW [] [(1,2),(2,1),(0,0),(3,0),(4,2),(5,2),(6,2),(7,2),(8,2)] zd9 kR ?_;refine pU I (fA kA I zT3 I) (pK I (qL iT3 I (cO 2 I I)) (SP.o I (SO.call call40 I (lC E g _)) dC (.inr iR) ?_));rintro _ g1 _ ⟨rfl,hle1,bq,rfl,hk⟩;refine oQ I (SQ.eq (v':=.tuple #[z,vb false]) (SQ.lookupOk hz I I (a8.known hk)) (by rw[hg]; rfl)) dC (.inr ⟨by assumption,(by exact .refl _)⟩) ?_;refine yM I (pU I (xT I I) (pU I (xT I I) (pU I (aS I) (pU I (aS I) (pN (tN (sQ (sW I (lU (SU.not I) (lM I (yA I (yA I (yA I (yP I (tZ (za1 I (rZ (lU (za2 I buildE29) (lU (za2 I buildZ35) (oZ (sK 1 ak I I I I I sB) ?_))))))))))))))))))));refine oZ (sK 0 nW I I I I I sB) ?_;refine aT I (rE (tR ?_));exact ST.retCCT 1 0 s (.inl I) results12 I I I aA ak isAgg35 nW I I I I uR ⟨I,hle1,_,_,_,_,_,I,eU.nil _,(fun h=>by cases h),fun _=>⟨I,Ims.nil _⟩⟩
 | some fv =>
  have hc:decide ((ar l).2=0)=false:=zf4 (by
   rcases hbad with h | h
   ·rw[hg] at h; cases h
   ·exact h)
  refine rZ (bW (bO I) fun b2=>?_);refine bW (bO I) fun b3=>?_;refine bW (aL zk7) fun b4=>?_;refine bW (aL zl1) fun b5=>?_;refine aT I (sQ ?_);refine dW [] [(1,2),(2,1),(0,0),(3,0),(4,2),(5,2),(6,2),(7,2),(8,2)] zd9 kR ?_;refine pU I (fA kA I zT3 I) (pK I (qL iT3 I (cO 2 I I)) (SP.o I (SO.call call40 I (lC E g _)) dC (.inr iR) ?_));rintro _ g1 _ ⟨rfl,hle1,bq,rfl,hk⟩;refine oQ I (SQ.eq (v':=.tuple #[fv,vb true]) (SQ.lookupOk hz I I (a8.known hk)) (by rw[hg]; rfl)) dC (.inr ⟨by assumption,(by exact .refl _)⟩) ?_;refine yM I (pU I (xT I I) (pU I (xT I I) (pU I (aS I) (pU I (aS I) (pN (tN (sQ (sW I (lU (SU.not I) (lM I (SL.gq (gT I I I dC) (qV 3 aA ak I I I) dC (SL.go (gT I I I dC) (SO.call call41 I (kS E g1 _ _ l (hv.mono hle1) hf false hc)) dC ?_))))))))))));rintro _ _ _ ⟨rfl,rfl,rfl⟩;refine lY I I I (SU.not I) (yF I (tZ (za1 I (rZ (lU (za2 I buildE29) (lU (za2 I buildZ35) (oZ (sK 1 ak I I I I I sB) ?_)))))));refine oZ (sK 0 nW I I I I I sB) ?_;refine aT I (rE (tR ?_));exact ST.retCCT 1 0 s (.inl I) results12 I I I aA ak isAgg35 nW I I I I uR ⟨I,hle1,_,_,_,_,_,I,eU.nil _,(fun h=>by cases h),fun _=>⟨I,Ims.nil _⟩⟩
theorem xM (E:World)(g:PH)(s:Own)(v ev:Value)(l:List Cl)(e:Ed)(hv:aj g v l)(hf:bd l)(he:EdR g ev e)(hr:(ar l).2=0)(fv:Value)(code:Int)(B:List Cl)(bk:Bool)(hg:dB og e.kind=some fv)(img:Int→List Tm)(hrun:qE fv e (aa l) code B img bk)(hB:code=0→bd B∧(B.map Cl.id).Nodup) :
  Ctr Tryz.prog E 12 #[.agg #[v],ev] g s (fun r g' s'=>s=s'∧Le g g'∧gU g (cj code B).1 (cj code B).2 ((if bk then aa B else aa l).map fun c=>(c.id,img c.id)) bk r g'):=by
 obtain ⟨z,hz⟩:=Tryz.mtyKinds;have he0:=he;obtain ⟨sv,pv,rfl,hsv,hpv⟩:=he;obtain ⟨sp,sc,rfl⟩:=za3 hsv;obtain ⟨pq,pc,rfl⟩:=za3 hpv;obtain ⟨p,c,rfl⟩:=hv.form;have hc:decide ((ar l).2=0)=true:=zf5 hr;have hnd:((aa l).map Cl.id).Nodup:=by
  rw[List.Nodup,zk1];exact (jU hr).asc.imp fun h=>by omega
 have hAf:=aF hf;refine zb1 (args:=[.agg #[.slice p l.length c],.agg #[vi e.kind,vi e.cell,vi e.dim,vi e.new,vi e.other,.slice sp e.sides.length sc,.slice pq e.pairs.length pc]]) func12 I ntmps12 (bE I) ?_;refine rZ (bW (bO I) fun b2=>?_);refine bW (bO I) fun b3=>?_;refine bW (aL zk7) fun b4=>?_;refine bW (aL zl1) fun b5=>?_;refine aT I (sQ ?_);refine dW [] [(1,2),(2,1),(0,0),(3,0),(4,2),(5,2),(6,2),(7,2),(8,2)] zd9 kR ?_;refine pU I (fA kA I zT3 I) (pK I (qL iT3 I (cO 2 I I)) (SP.o I (SO.call call40 I (lC E g _)) dC (.inr iR) ?_));rintro _ g1 _ ⟨rfl,hle1,bq,rfl,hk⟩;refine oQ I (SQ.eq (v':=.tuple #[fv,vb true]) (SQ.lookupOk hz I I (a8.known hk)) (by rw[hg]; rfl)) dC (.inr ⟨by assumption,(by exact .refl _)⟩) ?_;refine yM I (pU I (xT I I) (pU I (xT I I) (pU I (aS I) (pU I (aS I) (pN (tN (sQ (sW I (lU (SU.not I) (lM I (SL.gq (gT I I I dC) (qV 3 aA ak I I I) dC (SL.go (gT I I I dC) (SO.call call41 I (kS E g1 _ _ l (hv.mono hle1) hf true hc)) dC ?_))))))))))));rintro _ _ _ ⟨rfl,rfl,rfl⟩;refine lY I I I (SU.not I) (yF I (tZ (cF I (kP (tN (rZ (lK (qV 3 aA ak I I I) (lW (SO.call call42 I (BA E g1 _ _ l (hv.mono hle1) hf hnd)) ?_))))))));rintro _ g2 _ ⟨hle2,bx,u,mb,ms,rs,rfl,hu,hO,rfl⟩;refine aT I (sW I (lM I (lK (qV ((nX (aa l) rs).length+2+3) isAgg42 jC I (by exact (rU (nX (aa l) rs) _ 2).trans I) I) ?_)));refine lW (SO.callV I I (hrun E g2 _ bx mb ms u _ rs hu hO (he0.mono (hle1.trans hle2)))) ?_;rintro _ g3 _ ⟨hle3,rfl,hcase⟩;by_cases hc0:code=0
 ·obtain ⟨hBf,hBn⟩:=hB hc0;subst hc0;rw[zf7 rfl] at hcase;obtain ⟨rs',ts,hall,hts,htn,himg,rfl⟩:=hcase;refine SL.to (g':=g3) (s':=edP bx u mb ms bk::mp mb (rs'.map an)::mp ms (te ts)::pt b5 (.cells #[.slice none 0 0,vb false] 35 (0,0))::pt b4 (.cells #[.slice none 0 0] 29 (0,0))::pt b3 (.cells #[vi e.kind,vi e.cell,vi e.dim,vi e.new,vi e.other,.slice sp e.sides.length sc,.slice pq e.pairs.length pc] 42 (0,0))::pt b2 (.cells #[.slice p l.length c] 29 (0,0))::(eW ts++s)) (fun w hw=>hw.perm (((List.perm_append_comm_assoc (eW ts) [pt b5 (.cells #[.slice none 0 0,vb false] 35 (0,0)),pt b4 (.cells #[.slice none 0 0] 29 (0,0)),pt b3 (.cells #[vi e.kind,vi e.cell,vi e.dim,vi e.new,vi e.other,.slice sp e.sides.length sc,.slice pq e.pairs.length pc] 42 (0,0)),pt b2 (.cells #[.slice p l.length c] 29 (0,0))] s).cons _).cons _ |>.cons _)) ?_;have hcB:=aF hBf;have hout:cj 0 B=if (ar (aa B)).2≠0 then ((ar (aa B)).2,[]) else (0,aa B):=rfl
  rw[hout];refine aT I (rZ (bW (aL zk7) fun b11=>?_));refine tZ (sQ (sW I (yE I (tZ (za1 I (sQ (cP (List.perm_middle (l₁:=[pt b11 (.cells #[.slice none 0 0] 29 (0,0)),edP bx u mb ms bk])) (SC.freezeMap fun g4 hle4 hm4=>?_))))))));refine rG (lM I (lW (SO.call call43 I (wQ E g4 _ bx mb ms u bk B rs' (hall.mono fun _ _=>am.mono hle4) hBn hBf hm4 1 I)) ?_));rintro _ g5 _ ⟨rfl,hle5,u5,rfl,hn5⟩;have hu5:=hn5.cells (eG _ _);obtain ⟨p5,c5,rfl⟩:=hu5.form;refine oZ (sK 0 ak I I I I I sB) ?_;refine tZ (rG (lK (qV 0 aA ak I I I) (lW (SO.call call14 I (lG E g5 _ _ (aa B) hu5 hcB)) ?_)));rintro _ _ _ ⟨rfl,rfl,rfl⟩;refine lM I (yX I (yX I (aT I (sQ (sW I (lU (nQ I I) (tZ ?_)))))));refine iP I (fun h2=>?_) (fun h2=>?_)
  ·have he2:(if (ar (aa B)).2≠0 then ((ar (aa B)).2,[]) else ((0:Int),aa B))=((ar (aa B)).2,[]):=zf7 h2;rw[he2];refine rZ (lU (za2 I buildE29) (lU (za2 I buildZ35) (lM I (oZ (sK 4 ak I I I I I sB) ?_))));refine oZ (sK 3 nW I I I I I sB) ?_;refine aT I (rE (tR ?_));exact ST.retCCT 4 3 s (.inl I) results12 I I I aA ak isAgg35 nW I I I I (.cons _ (.cons _ (.cons _ (.cons _ (.cons _ (.cons _ (.cons _ (List.sublist_append_right _ _)))))))) ⟨I,hle1.trans (hle2.trans (hle3.trans (hle4.trans hle5))),_,_,_,_,_,I,eU.nil _,fun h=>absurd h h2,fun _=>⟨I,Ims.nil _⟩⟩
  ·have he2:(if (ar (aa B)).2≠0 then ((ar (aa B)).2,[]) else ((0:Int),aa B))=(0,aa B):=zf6 h2;rw[he2];refine kP (tN (sQ ?_));refine SC.drawT 1 [4,5] [(0,1),(1,2),(2,1),(3,0),(4,0),(5,0),(6,2)] zd9 kR ?_;refine pK rfl (qV 0 aA ak rfl rfl rfl) (yM rfl (pK rfl (qV 0 aA ak rfl rfl rfl) (SP.o rfl (SO.call call44 rfl (zJ E g5 [pt b11 (.cells #[.slice p5 (aa B).length c5] 29 (0,0)),edP bx u mb ms bk,mp ms (te ts),pt b5 (.cells #[.slice none 0 0,vb false] 35 (0,0)),pt b4 (.cells #[.slice none 0 0] 29 (0,0)),pt b3 (.cells #[vi e.kind,vi e.cell,vi e.dim,vi e.new,vi e.other,.slice sp e.sides.length sc,.slice pq e.pairs.length pc] 42 (0,0)),pt b2 (.cells #[.slice p l.length c] 29 (0,0))] s bx mb ms u _ bk (aa l) (aa B) ts hts htn (hu.mono (hle3.trans (hle4.trans hle5))) hu5 hAf.1 hcB.1 1 2 rfl rfl)) dC (.inr (by rintro _ g6 _ ⟨rfl,hle6,iv,rfl,him⟩; exact⟨by assumption,(by exact .cons_cons _ (List.nil_sublist _))⟩)) ?_)));rintro _ g6 _ ⟨rfl,hle6,iv,rfl,him⟩;obtain ⟨p6,n6,c6,rfl⟩:=him.form;refine SP.on I (sK 4 ak I I I I I sB) (.inl dC) ?_;rintro _ _ _ ⟨rfl,rfl⟩;refine SP.on I (sK 3 nW I I I I I sB) (.inl dC) ?_;rintro _ _ _ ⟨rfl,rfl⟩;refine pU I (aS I) (pN (tN (rE ?_)));exact ST.retCCT 4 3 s (.inl I) results12 I I I aA ak isAgg35 nW I I I I uR ⟨I,hle1.trans (hle2.trans (hle3.trans (hle4.trans (hle5.trans hle6)))),_,_,_,_,_,I,(hn5.mono (i8 (hle1.trans (hle2.trans (hle3.trans hle4))))).mono (fQ hle6),fun _=>⟨I,by rw[show (fun c:Cl=>(c.id,img c.id))=fun c:Cl=>(c.id,CM ts c.id) from funext fun c=>by rw[himg]]; exact him⟩,fun h=>absurd I h⟩
 ·rw[zf6 hc0] at hcase;obtain ⟨h,rfl⟩:=hcase;have hout:cj code B=(code,[]):=zf7 hc0;rw[hout];refine SL.drop (List.sublist_append_right _ _) (aT I (rZ (bW (aL zk7) fun b11=>?_)));refine tZ (sQ (sW I (yE I (tZ ?_))));refine iP I (fun h0=>?_) (fun h0=>?_)
  ·exact absurd h0 hc0
  ·refine kP (tN (sQ (sW I (lU (nQ I I) (tZ ?_)))));refine iP I (fun h2=>?_) (fun h2=>?_)
   ·refine rZ (lU (za2 I buildE29) (lU (za2 I buildZ35) (lM I (oZ (sK 2 ak I I I I I sB) ?_))));refine oZ (sK 1 nW I I I I I sB) ?_;refine aT I (rE (tR ?_));exact ST.retCCT 2 1 s (.inl I) results12 I I I aA ak isAgg35 nW I I I I uR ⟨I,hle1.trans (hle2.trans hle3),_,_,_,_,_,I,eU.nil _,fun h=>absurd h hc0,fun _=>⟨I,Ims.nil _⟩⟩
   ·exact absurd hc0 h2
set_option maxHeartbeats 1000000
theorem Rt.findC {A:List Cl}(h:Rt A)(id:Int):findC A id=ab A id:=by
 unfold Go.Proofs.YtbbppeihhkhkcaaGreatDoor.findC;rw[h.tab];rfl
theorem Rt.ids {A:List Cl}(h:Rt A):(A.map Cl.id).Nodup:=by
 rw[List.Nodup,zk1];exact h.asc.imp fun h=>by omega
theorem Rt.few64 {A:List Cl}(h:Rt A){c:Cl}(hc:c∈A):c.sides.length≤64:=(gS (h.form c hc).ok).1
theorem Rt.signs {A:List Cl}(h:Rt A){c:Cl}(hc:c∈A):∀ x∈c.sides,x.sign=1∨x.sign = -1:=(h.form c hc).sg
theorem Rt.difS {A:List Cl}(h:Rt A){c:Cl}(hc:c∈A):(c.sides.map ae.cell).Nodup:=by
 rw[List.Nodup,zk1];exact (h.form c hc).asc.imp fun h=>by omega
theorem Rt.fits {A:List Cl}(h:Rt A):bd A:=⟨by have:=h.few; omega,fun c hc=>by have:=h.few64 hc; omega⟩
def Ew (A:List Cl)(e:Ed)(k:Int):List Tm:=if k=e.cell then ui A e else if k=e.other then [] else [(k,1)]
def Bm (e:Ed)(k:Int):List Tm:=if k=e.cell then qR e else [(k,1)]
set_option maxHeartbeats 2000000
def i5 (A:List Cl)(e:Ed):Int:=if e.kind=1 then fu A e else if e.kind=2 then ly A e else if e.kind=3 then m5 A e else if e.kind=4 then An A e else if e.kind=5 then DG A e else 1
def lk (A:List Cl)(e:Ed):List Cl:=if e.kind=1 then A++[⟨e.cell,e.dim,e.sides⟩] else if e.kind=2 then n8 A [e.cell] else if e.kind=3 then jX A e else if e.kind=4 then nH A e else n8 A [e.cell,e.other]
def D9 (A:List Cl)(e:Ed)(k:Int):List Tm:=if e.kind=3 then Bm e k else if e.kind=4 then BU e k else if e.kind=5 then Ew A e k else [(k,1)]
def bkK (e:Ed):Bool:=decide (e.kind=2)
def eo (l:List Cl)(e:Ed):Int×List Cl:=if (ar l).2=0 then cj (i5 (aa l) e) (lk (aa l) e) else (1,[])
def CL (l:List Cl)(e:Ed):List (Int×List Tm):=(if bkK e then (eo l e).2 else aa l).map fun c=>(c.id,D9 (aa l) e c.id)
theorem zR {A:List Cl}(hn:(A.map Cl.id).Nodup)(a:Int):ye A a=n8 A [a]:=by
 have h0:A=xY A []:=(List.filter_eq_self.2 fun _ _=>by simp).symm;have:=zT hn [] a;rw[← h0] at this;exact this
theorem zS {A:List Cl}(hn:(A.map Cl.id).Nodup)(ks:List Int):((n8 A ks).map Cl.id).Nodup:=(List.filter_sublist.map Cl.id).nodup hn
theorem xL {A:List Cl}{e:Ed}(h:fu A e=0):oG A ⟨e.cell,e.dim,e.sides⟩=A++[⟨e.cell,e.dim,e.sides⟩]:=by
 refine vG fun x hx hxe=>?_;unfold fu at h;have h1:(ab A e.cell).isSome=true:=by
  unfold ab;rw[List.find?_isSome];exact⟨x,hx,by simpa using hxe⟩
 rw[h1] at h;cases h
def CY (A:List Cl)(e:Ed):Prop :=
  ∃ fv B,dB og e.kind=some fv∧qE fv e A (i5 A e) B (D9 A e) (bkK e)∧(i5 A e=0→bd B∧(B.map Cl.id).Nodup∧cj 0 B=cj 0 (lk A e))
theorem Ah {A:List Cl}(hA:Rt A)(e:Ed)(hes:e.sides.length<1099511627776)(hk:e.kind=1∨e.kind=2):CY A e:=by
 unfold CY i5 D9 bkK lk;have hs:(fun k:Int=>[(k,(1:Int))])=DU:=rfl
 rcases hk with hk | hk <;> simp only[hk] <;> simp only[Int.reduceEq,if_true,if_false,decide_true,decide_false]
 ·refine⟨_,oG A ⟨e.cell,e.dim,e.sides⟩,I,(xK A e hes).gen,fun h0=>?_⟩;have hB:=xL h0;refine⟨?_,oT hA.ids,by rw[hB]⟩;rw[hB];have hl:=hA.few;refine⟨by rw[ze2,ze4]; omega,fun c hc=>?_⟩
  rcases ze9.1 hc with hc | hc
  ·exact hA.fits.2 c hc
  ·simp at hc; subst hc; exact hes
 ·refine⟨_,ye A e.cell,I,(wU A hA.fits e).gen,fun h0=>?_⟩;rw[zR hA.ids];exact⟨wR hA.fits _,zS hA.ids _,I⟩
theorem gU.congr {g0:PH}{code:Int}{D:List Cl}{ims ims':List (Int×List Tm)}{bk bk':Bool}{r:Value}{g:PH}(h:gU g0 code D ims bk r g)(hi:code=0→ims=ims')(hb:code=0→bk=bk'):gU g0 code D ims' bk' r g:=by
 obtain ⟨u,p,n,c,b,h1,h2,h3,h4⟩:=h;refine⟨u,p,n,c,b,h1,h2,fun h0=>?_,h4⟩;obtain ⟨h5,h6⟩:=h3 h0;rw[hi h0] at h6;exact⟨h5.trans (hb h0),h6⟩
theorem AG (E:World)(g:PH)(s:Own)(v ev:Value)(l:List Cl)(e:Ed)(hv:aj g v l)(hf:bd l)(he:EdR g ev e)(hr:(ar l).2=0)(hK:CY (aa l) e) :
  Ctr Tryz.prog E 12 #[.agg #[v],ev] g s (fun r g' s'=>s=s'∧Le g g'∧gU g (eo l e).1 (eo l e).2 (CL l e) (bkK e) r g'):=by
 have hA:=jU hr;have hap:eo l e=cj (i5 (aa l) e) (lk (aa l) e):=zf7 hr;obtain ⟨fv,B,h1,h2,h3⟩:=hK;have hout:cj (i5 (aa l) e) B=eo l e:=by
  rw[hap];by_cases h0:i5 (aa l) e=0
  ·rw[h0]; exact (h3 h0).2.2
  ·unfold cj; rw[zf7 h0,zf7 h0]
 have h4:=xM E g s v ev l e hv hf he hr fv (i5 (aa l) e) B (bkK e) h1 (D9 (aa l) e) h2 (fun h0=>⟨(h3 h0).1,(h3 h0).2.1⟩);refine h4.mono fun r g' s' ⟨h5,h6,h7⟩=>⟨h5,h6,?_⟩;rw[hout] at h7;refine h7.congr (fun h0=>?_) fun _=>I;have h8:aa B=(eo l e).2:=by
  rw[← hout] at h0 ⊢;unfold cj at h0 ⊢;split at h0
  ·rename_i hh; exact absurd h0 hh
  ·rename_i hh;rw[zf6 hh];split at h0
   ·rename_i hh2; exact absurd h0 hh2
   ·rename_i hh2; rw[zf6 hh2]
 unfold CL;rw[h8]
theorem AH (E:World)(g:PH)(s:Own)(v ev:Value)(l:List Cl)(e:Ed)(hv:aj g v l)(hf:bd l)(he:EdR g ev e)(hes:e.sides.length<1099511627776)(hk:e.kind=1∨e.kind=2) :
  Ctr Tryz.prog E 12 #[.agg #[v],ev] g s (fun r g' s'=>s=s'∧Le g g'∧gU g (eo l e).1 (eo l e).2 (CL l e) (bkK e) r g'):=by
 by_cases hr:(ar l).2=0
 ·exact AG E g s v ev l e hv hf he hr (Ah (jU hr) e hes hk)
 ·have hout:eo l e=(1,[]):=zf6 hr;rw[hout];exact xN E g s v ev l e hv hf he _ _ (.inr hr)
def DR (e:Ed):Prop:=∀ (E:World) (g:PH) (s:Own) (v ev:Value) (l:List Cl),aj g v l→bd l→EdR g ev e →
  Ctr Tryz.prog E 12 #[.agg #[v],ev] g s (fun r g' s'=>s=s'∧Le g g'∧qd (eo l e).1 (eo l e).2 (CL l e) (bkK e) r g')
theorem zr {e:Ed}(hes:e.sides.length<1099511627776)(hk:e.kind=1∨e.kind=2):DR e:=fun E g s v ev l hv hf he =>
 (AH E g s v ev l e hv hf he hes hk).mono fun _ _ _ ⟨h1,h2,h3⟩=>⟨h1,h2,h3.old⟩
theorem uZ {code:Int}{B:List Cl}(h:(cj code B).1=0):Rt (cj code B).2∧code=0∧(cj code B).2=aa B:=by
 unfold cj at h ⊢;split at h
 ·rename_i h1; exact absurd h h1
 ·rename_i h1;rw[zf6 h1];split at h
  ·rename_i h2; exact absurd h h2
  ·rename_i h2;rw[zf6 h2];have h3:=jU (Decidable.not_not.1 h2);rw[il] at h3;exact⟨h3,Decidable.not_not.1 h1,I⟩
theorem tz {l:List Cl}{e:Ed}(h:(eo l e).1=0):Rt (eo l e).2∧(ar l).2=0∧i5 (aa l) e=0∧(eo l e).2=aa (lk (aa l) e):=by
 unfold eo at h ⊢;split at h
 ·rename_i h1;rw[zf7 h1];obtain ⟨h2,h3,h4⟩:=uZ h;exact⟨h2,h1,h3,h4⟩
 ·cases h
theorem Ce {l:List Cl}{e:Ed}(h:(eo l e).1≠0):(eo l e).2=[]:=by
 unfold eo at h ⊢;split at h
 ·rename_i h1;rw[zf7 h1];unfold cj at h ⊢;split at h
  ·rename_i h2; rw[zf7 h2]
  ·rename_i h2;rw[zf6 h2];split at h
   ·rename_i h3; rw[zf7 h3]
   ·exact absurd I h
 ·rename_i h1; rw[zf6 h1]
theorem sz (l:List Cl)(e:Ed):bd (eo l e).2:=by
 by_cases h:(eo l e).1=0
 ·exact (tz h).1.fits
 ·rw[Ce h]; exact⟨by simp,by simp⟩
theorem Tryz.sty64:STy Tryz.prog 64 35 2 32 (.agg #[.slice none 0 0,vb false]):=⟨underlying64,⟨t35,by kernel_rfl,by kernel_rfl,by kernel_rfl,by kernel_rfl⟩,rfl,by decide⟩
theorem Tryz.sty62:STy Tryz.prog 62 42 7 88 (.agg #[vi 0,vi 0,vi 0,vi 0,vi 0,.slice none 0 0,.slice none 0 0]):=⟨underlying62,⟨t42,by kernel_rfl,by kernel_rfl,by kernel_rfl,by kernel_rfl⟩,rfl,by decide⟩
structure Er where
 kind:Int
 cell:Int
 dim:Int
 new:Int
 other:Int
 sv:Sv
 pv:Sv
def jA:Enc Er 7:=⟨fun r=>[vi r.kind,vi r.cell,vi r.dim,vi r.new,vi r.other,.slice r.sv.p r.sv.n r.sv.c,.slice r.pv.p r.pv.n r.pv.c],fun _=>rfl,fun _ u hu=>by simp at hu; rcases hu with rfl | rfl | rfl | rfl | rfl | rfl | rfl <;> rfl,by decide⟩
def erv (r:Er):Value:=.agg (jA.enc r).toArray
def EdK (g:PH)(e:Ed)(r:Er):Prop:=EdR g (erv r) e
theorem EdK.mono {g g':PH}(hl:Le g g'){e:Ed}{r:Er}(h:EdK g e r):EdK g' e r:=EdR.mono h hl
theorem EdR.rc {g:PH}{v:Value}{e:Ed}(h:EdR g v e):∃ r:Er,v=erv r∧EdK g e r:=by
 obtain ⟨sv,pv,rfl,h1,h2⟩:=h;obtain ⟨p,c,rfl⟩:=za3 h1;obtain ⟨q,d,rfl⟩:=za3 h2;exact⟨⟨e.kind,e.cell,e.dim,e.new,e.other,⟨p,e.sides.length,c⟩,⟨q,e.pairs.length,d⟩⟩,I,_,_,I,h1,h2⟩
def EdS (e:Ed):Prop:=e.sides.length<1099511627776∧e.pairs.length≤3
def Eds (g:PH)(v:Value)(l:List Ed):Prop:=∃ rs,SlA jA g v rs∧az (EdK g) l rs
theorem Eds.form {g:PH}{v:Value}{l:List Ed}(h:Eds g v l):∃ p c,v = .slice p l.length c:=by
 obtain ⟨rs,h1,h2⟩:=h;rw[h2.length];exact za3 h1
structure Sr where
 sv:Sv
 bk:Bool
abbrev Stp:=List (Int×List Tm)×Bool
def sN:Enc Sr 2:=⟨fun r=>[.slice r.sv.p r.sv.n r.sv.c,vb r.bk],fun _=>rfl,fun _ u hu=>by simp at hu; rcases hu with rfl | rfl <;> rfl,by decide⟩
def srv (r:Sr):Value:=.agg (sN.enc r).toArray
def StK (g:PH)(x:Stp)(r:Sr):Prop:=r.bk=x.2∧Ims g (.slice r.sv.p r.sv.n r.sv.c) x.1
theorem StK.mono {g g':PH}(hl:Le g g'){x:Stp}{r:Sr}(h:StK g x r):StK g' x r:=⟨h.1,h.2.mono hl⟩
def Sts (g:PH)(v:Value)(l:List Stp):Prop:=∃ rs,SlA sN g v rs∧az (StK g) l rs
theorem Sts.nil (g:PH):Sts g (.slice none 0 0) []:=⟨[],zb9 g _,trivial⟩
def imO (l:List Cl)(e:Ed):Stp:=if (eo l e).1=0 then (CL l e,bkK e) else ([],false)
theorem qd.one {l:List Cl}{e:Ed}{r:Value}{g:PH}(h:qd (eo l e).1 (eo l e).2 (CL l e) (bkK e) r g) :
  ∃ u:Sv,∃ x:Sr,r = .tuple #[.agg #[.slice u.p u.n u.c],srv x,vi (eo l e).1]∧aj g (.slice u.p u.n u.c) (eo l e).2∧StK g (imO l e) x:=by
 obtain ⟨u,p,n,c,b,h1,h2,h3,h4⟩:=h;obtain ⟨q,d,rfl⟩:=h2.form;refine⟨⟨q,_,d⟩,⟨⟨p,n,c⟩,b⟩,h1,h2,?_⟩;unfold imO;by_cases h0:(eo l e).1=0
 ·rw[zf7 h0]; exact h3 h0
 ·rw[zf6 h0]; exact h4 h0
def tf:List Cl→List Stp→Nat→List Ed→(Int×Int)×List Cl×List Stp
 | A,ss,_,[]=>((0,0),A,ss)
 | A,ss,i,e::es=>if (eo A e).1=0 then tf (eo A e).2 (ss++[imO A e]) (i+1) es else (((eo A e).1,(i:Int)),[],[])
def mJ (l:List Cl)(es:List Ed):(Int×Int)×List Cl×List Stp:=if 1000<es.length then ((2,0),[],[]) else if (ar l).2≠0 then ((1,0),[],[]) else tf (aa l) [] 0 es
def CQ (R:(Int×Int)×List Cl×List Stp)(r:Value)(g:PH):Prop:=∃ u p n c,r = .tuple #[.agg #[u],.slice p n c,vi R.1.2,vi R.1.1]∧aj g u R.2.1∧Sts g (.slice p n c) R.2.2
theorem tw {g:PH}{p:Option Addr}{n c:Nat}{l:List Cl}(h:aj g (.slice p n c) l):n=l.length:=by
 obtain ⟨q,d,e⟩:=h.form;injection e
theorem Tryz.xA42 (a b d:Int)(q:Option Addr)(qn qc:Nat)(w:World):(Instr.build 42 #[(0,vi a),(1,vi b),(2,vi d),(5,.slice q qn qc)]).run Tryz.prog w = .ok (.agg #[vi a,vi b,vi d,vi 0,vi 0,.slice q qn qc,.slice none 0 0]) w:=by
 have h0:∀ a:Int,(vi a).cells = #[vi a]:=fun _=>rfl;have h3:(Value.slice q qn qc).cells = #[.slice q qn qc]:=rfl;simp[Instr.build,Instr.fill,h0,h3];rfl
theorem Tryz.xB42 (a b:Int)(w:World):(Instr.build 42 #[(0,vi a),(1,vi b)]).run Tryz.prog w = .ok (.agg #[vi a,vi b,vi 0,vi 0,vi 0,.slice none 0 0,.slice none 0 0]) w:=by
 have h0:∀ a:Int,(vi a).cells = #[vi a]:=fun _=>rfl;simp[Instr.build,Instr.fill,h0];rfl
theorem BV (n:Int):bI (IntKind.i64.wrap n):=by
 have h:IntKind.i64.wrap n=if (decide (n % 18446744073709551616≥9223372036854775808))=true then n % 18446744073709551616 - 18446744073709551616 else n % 18446744073709551616:=by
  simp[IntKind.wrap,IntKind.bits,IntKind.signed]
 rw[h];unfold bI;by_cases h2:n % 18446744073709551616≥9223372036854775808
 ·rw[zf7 (zf5 h2)];omega
 ·rw[zf6 (by simpa using h2)];omega
theorem s3 (E:World)(g:PH)(s:Own)(v:Value)(l:List Cl)(hv:aj g v l)(hf:bd l) :
  Ctr Tryz.prog E 46 #[.agg #[v]] g s (fun r g' s'=>s=s'∧g=g'∧∃ n:Int,r=vi n∧bI n):=by
 obtain ⟨rs,hrs,hall⟩:=hv;have hfl:=hf.1;have hlen:=hall.length;obtain ⟨p,c,rfl⟩:=za3 hrs;refine zb1 (args:=[.agg #[.slice p rs.length c]]) func46 I ntmps46 (bE I) ?_;refine rZ (bW (bO I) fun b1=>?_);refine aT I (rZ (aT I (sQ (rZ (aT I (bK ?_))))));refine oP (ι:=Nat×Int) (fun k=>[(1,pp b1 0),(3,vi k.2),(4,vi k.1)]) (fun _=>g) (fun _=>pt b1 (.cells #[.slice p rs.length c] 29 (0,0))::s)
  (fun k=>k.1≤rs.length∧bI k.2) (fun k=>rs.length - k.1) (0,1) sB rfl rfl ⟨zf3 _,by unfold bI; dsimp only; omega⟩ ?_
 rintro ⟨k,n⟩ ⟨hk,hn⟩;dsimp only at hk hn ⊢;refine sQ (sW I (lU (fA ec I dF I) (lK (qL (v:=.slice p rs.length c) fw I (cO 0 I I)) (lU (eN aB I) (yL I (tZ ?_))))));refine iP I (fun hlt=>?_) (fun hlt=>?_)
 ·have hkr:k<rs.length:=oM;have hb1:=za5 hrs oM;have hgx:rs[((k:Nat):Int).toNat]?=some rs[k]:=List.getElem?_eq_getElem hkr;generalize rs[k]=x at *;refine kP (tN (sQ (bK (rG (lM I (lU (fA ec I dF I) (lK (qL (v:=.slice p rs.length c) fw I (cO 0 I I)) (lM I (lU (iA aB ao I I hb1 oM sL) (lU (fC ay I zT3 I hb1) (lK (aZ (e:=encCell) (o:=0) (u:=vi x.id) iT3 I (za6 hrs) hgx I) (lU (SU.addW I I) (lU (SU.maxI I I) (lA I (nL (bN (tN (rG (lM I (yD I (lA I (nL ?_))))))))))))))))))))));exact ST.again (k+1,_) sB I I ⟨by dsimp only; omega,by
   have h1:=BV (x.id+1);dsimp only;unfold bI at h1 hn ⊢;omega⟩ (by dsimp only; omega)
 ·refine xI (tX (tX (bX (tN (sW I (aT I (rE (dR (s':=s) uR ?_))))))));exact za7 (.inl I) results46 I ⟨I,I,_,I,hn⟩
theorem nJ (E:World)(g:PH)(s:Own)(v:Value)(l:List Int)(n:Int)(hv:de g v l)(hl:l.length<1099511627776) :
  Ctr Tryz.prog E 47 #[v,vi n] g s (fun r g' s'=>s=s'∧g=g'∧∃ y:Int,r=vi y∧(y=0∨y∈l)):=by
 obtain ⟨p,c,rfl⟩:=za3 hv;refine zb1 (args:=[.slice p l.length c,vi n]) func47 I ntmps47 (bE I) ?_;refine rZ (aT I (sQ (sW I (lU (eN aG I) (yE I (tZ ?_))))));refine iP I (fun h0=>?_) (fun h0=>?_)
 ·refine rZ (aT I (rE (tR ?_)));exact za7 (.inl I) results47 I ⟨I,I,_,I,.inl I⟩
 ·obtain ⟨hm1,hm2⟩:=BH n l.length oM oM;have hb:=za5 hv oM;have hgm:l[(bA n l.length).toNat]?=some l[(bA n l.length).toNat]:=List.getElem?_eq_getElem hm2;have hym:l[(bA n l.length).toNat]∈l:=gM hm2;generalize l[(bA n l.length).toNat]=y at *;refine kP (tN (sW I (lM I (lM I (lU (eN aG I) (lW (SO.call call32 I (bH E g _ n l.length oM)) ?_))))));rintro _ _ _ ⟨rfl,rfl,rfl⟩;rw[hm1];refine lU (iA aG zT3 I I hb oM sL) (lK (eB (u:=vi y) iT3 I (za6 hv) hgm I) (aT I (rE ?_)));exact za7 (.inl I) results47 I ⟨I,I,_,I,.inr hym⟩
theorem gr (E:World)(g:PH)(s:Own)(v:Value)(l:List Int)(n:Int)(hv:de g v l)(hl:l.length<1099511627776) :
  Ctr Tryz.prog E 47 #[v,vi n] g s (fun r g' s'=>s=s'∧g=g'∧∃ n:Int,r=vi n) :=
 (nJ E g s v l n hv hl).mono fun _ _ _ ⟨h1,h2,y,h3,_⟩=>⟨h1,h2,y,h3⟩
theorem sb {l:List Cl}(hf:bd l)(id:Int):((findC l id).getD bi).sides.length<1099511627776:=by
 unfold findC;cases h:(ai l).find? (fun c=>decide (c.id=id)) with
 | none=>simp[bi]
 | some c=>exact (ep hf).2 c (zk3 h)
theorem Tryz.bA42 (a:Int)(b:Int)  (w:World):(Instr.build 42 #[(0,vi a),(1,vi b)]).run Tryz.prog w = .ok (.agg #[vi a,vi b,vi 0,vi 0,vi 0,.slice none 0 0,.slice none 0 0]) w:=by
 have h0:(vi a).cells = #[vi a]:=rfl;have h1:(vi b).cells = #[vi b]:=rfl;simp[Instr.build,Instr.fill,h0,h1];rfl
theorem Tryz.bB42 (a:Int)(b:Int)(d:Int)(q:Option Addr)(qn qc:Nat)(w:World):(Instr.build 42 #[(0,vi a),(1,vi b),(2,vi d),(5,.slice q qn qc)]).run Tryz.prog w = .ok (.agg #[vi a,vi b,vi d,vi 0,vi 0,.slice q qn qc,.slice none 0 0]) w:=by
 have h0:(vi a).cells = #[vi a]:=rfl;have h1:(vi b).cells = #[vi b]:=rfl;have h2:(vi d).cells = #[vi d]:=rfl;have h3:(Value.slice q qn qc).cells = #[.slice q qn qc]:=rfl;simp[Instr.build,Instr.fill,h0,h1,h2,h3];rfl
end Go.Proofs.YtbbppeihhkhkcaaGreatDoor
