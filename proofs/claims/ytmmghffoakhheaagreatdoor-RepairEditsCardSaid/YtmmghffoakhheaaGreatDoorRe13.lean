/- 13 -/
import Derived.Test.YtmmghffoakhheaaGreatDoorRe12
set_option linter.unusedSimpArgs false
set_option linter.unusedVariables false
namespace Go.Proofs.YtmmghffoakhheaaGreatDoor
open _root_.Go.Proofs.Tryz _root_.Go.Proofs.YtmmghffoakhheaaGreatDoor.Tryz
open Go Go.Sy Go.Pl Go.Proofs
set_option maxRecDepth 100000
set_option maxHeartbeats 4000000
theorem SC.freezeO {P:Program}{N:Nat}{E:World}{c:Code}{Q:Exit→Act→World→Prop}{f:Fr}{g:PH}{L s:Own}{A:List Cl}{rs:List Rc}(hO:az j7 A rs)
  (h:∀ g1,Le g g1→az (ay g1) A rs→SC P N E c Q f g1 (L++s)):SC P N E c Q f g (L++(fI A rs++s)):=fun a w ha hw=>by
 have h1:(L++(fI A rs++s)).Perm (fI A rs++(L++s)):=by
  rw[← zg8,← zg8];exact List.perm_append_comm.append_right s
 obtain ⟨g1,h2,h3,h4⟩:=Go.Proofs.YtmmghffoakhheaaGreatDoor.freezeO hO<|hw.perm h1;exact h g1 h2 h4 a w ha h3
theorem Dn {a b:Rc}(h:rcv a=rcv b):a=b:=by
 obtain ⟨ai,ad,ap,an,ac⟩:=a;obtain ⟨bi,bd,bp,bn,bc⟩:=b;simp[rcv] at h;obtain ⟨rfl,rfl,rfl,rfl,rfl⟩:=h;rfl
theorem Tryz.buildI54 (x:Int)(w:World):(Instr.build 54 #[(0,vi x)]).run Tryz.prog w = .ok (.agg #[vi x,vi 0,.slice none 0 0]) w:=by
 have h1:(vi x).cells = #[vi x]:=rfl;simp[Instr.build,Instr.fill,h1];rfl
theorem De {l:List Side}{cell:Int}{i:Nat}(hi:i<l.length)(h:(l.findIdx fun x=>decide (x.cell=cell))=i):CK l cell=l[i].sign:=by
 unfold CK;have h1:l.find? (fun x=>decide (x.cell=cell))=some l[i]:=by
  obtain ⟨h2,h3⟩:=(List.findIdx_eq hi).1 h;exact List.find?_eq_some_iff_getElem.2 ⟨h2,i,hi,I,fun j hj=>by rw[h3 j hj]; rfl⟩
 rw[h1];rfl
theorem DH {l:List Side}{z0 z1:Side}(hl:l=[z0,z1])(h:(z0.sign=1∧z1.sign = -1)∨(z0.sign = -1∧z1.sign=1)):∃ (i:Nat) (zE zO:Side),i<2∧vR (fun x=>decide (0<x.sign)) l=(i:Int)∧l[i]?=some zE∧l[1 - i]?=some zO∧iY l true=zE∧iY l false=zO:=by
 subst hl
 rcases h with ⟨h0,h1⟩ | ⟨h0,h1⟩
 ·exact⟨0,z0,z1,oM,by simp[vR,h0,h1,List.findIdx_cons],I,I,by simp[iY,h0,h1],by simp[iY,h0,h1]⟩
 ·exact⟨1,z1,z0,oM,by simp[vR,h0,h1,List.findIdx_cons],I,I,by simp[iY,h0,h1],by simp[iY,h0,h1]⟩
theorem xh (E:World)(g:PH)(s:Own)(bx mb ms:Nat)(u v:Value)(e:Ed)(A:List Cl)(rs:List Rc)(hu:ak g u A)(hf:a8 A)(hn:(A.map Cl.id).Nodup)(hO:az j7 A rs)(he:EdR g v e)
  (hab:∀ id∈ah A e.cell,∃ y,ao A id=some y∧y.sides.any (fun x=>decide (x.cell=e.cell))=true∧y.sides.length≤64) (habn:(ah A e.cell).Nodup) (hself:e.cell ∉ ah A e.cell)
  (hedge:∀ c,ao A e.cell=some c→c.dim=1→∃ z0 z1,c.sides=[z0,z1]∧((z0.sign=1∧z1.sign = -1)∨(z0.sign = -1∧z1.sign=1))) :
  Ctr Tryz.prog E 107 #[pp bx 0,v] g (edP bx u mb ms false::mp mb (rs.map am)::mp ms []::(fI A rs++s)) (fun r g' s'=>Le g g'∧r=vi (a6 A e) ∧
   (if a6 A e=0 then ∃ rs' v1 p n c,v1 = .slice p n c∧az (ay g') (eK A e) rs'∧s'=edP bx u mb ms false::mp mb (rs'.map am)::mp ms (gD [(e.cell,v1,[(e.cell,1),(e.other,1)])])::(db [(e.cell,v1,[(e.cell,1),(e.other,1)])]++s) else ∃ h,s'=h++s)):=by
 obtain ⟨sv,pv,rfl,hsv,hpv⟩:=he;obtain ⟨p,c,rfl⟩:=hu.form;have hsvf:=za3 hsv;have hpvf:=za3 hpv;obtain ⟨sp,sc,rfl⟩:=hsvf;obtain ⟨qp,qc,rfl⟩:=hpvf;have hHl:(ah A e.cell).length<1099511627776:=Nat.lt_of_le_of_lt (by unfold ah; rw[ze6]; exact zc5 _ _) (bL hf).1;refine zb1 (args:=[pp bx 0,.agg #[vi e.kind,vi e.cell,vi e.dim,vi e.new,vi e.other,.slice sp e.sides.length sc,.slice qp e.pairs.length qc]]) func107 I ntmps107 (bE I) ?_
 rcases re e.cell hO with ⟨h1,h2⟩ | ⟨m0,c0,r0,h1,hcid,h2,hco,hrow0,-⟩
 ·have hcode:a6 A e=30:=by unfold a6; rw[h1]
  rw[hcode];refine rZ (bW (bO I) fun b3=>?_);refine aT I<|sQ<|dW [] [(0,2),(1,2),(2,2),(3,1),(4,2),(5,1),(6,1),(7,2),(8,2),(9,2),(10,0),(11,0),(12,2)] ze3 kR<|yM I<|pU I (nC I)<|pU I (fA ce I ec I)<|pK I (qL (v:=.map<|some mb) ee I<|cO 1 I I)<|pU I (fA aJ I zT3 I)<|pK I (qL (v:=vi e.cell) iT3 I<|cO 0 I I)<|pK I (SQ.eq (v':=.tuple #[.agg #[vi 0,vi 0,.slice none 0 0],vb false]) (SQ.lookupOk mty125 I I<|bo.own 2 I) (by rw[h2]; rfl)) ?_;refine yM I<|pU I (xT I I)<|pU I (xT I I)<|SP.o I (aL zl3) dC (.inr iR) ?_;rintro _ _ _ ⟨b5,rfl,rfl,rfl⟩;refine SP.on I (sK 0 au I I I I I sB) (.inr iR) ?_;rintro _ _ _ ⟨rfl,rfl⟩;exact pU I (aS I)<|pN<|tN<|sQ<|bK<|sW I<|lU (SU.not I)<|aT I<|za1 I<|rZ<|aT I<|rE<|bR<|tR<|za7 (.inl I) results107 I ⟨zb8 _,I,by rw[zf9 dC]; exact⟨_::_::_::_::_::fI A rs,I⟩⟩
 obtain ⟨ri,rd,rp,rn,rc⟩:=r0;obtain ⟨e1,e2,e3⟩:=hco;dsimp only at e1 e2 e3;subst e1 e2 e3;refine rZ (bW (bO I) fun b3=>?_);refine aT I<|sQ<|dW [] [(0,2),(1,2),(2,2),(3,1),(4,2),(5,1),(6,1),(7,2),(8,2),(9,2),(10,0),(11,0),(12,2)] ze3 kR<|yM I<|pU I (nC I)<|pU I (fA ce I ec I)<|pK I (qL (v:=.map<|some mb) ee I<|cO 1 I I)<|pU I (fA aJ I zT3 I)<|pK I (qL (v:=vi e.cell) iT3 I<|cO 0 I I)<|pK I (SQ.eq (v':=.tuple #[.agg #[vi c0.id,vi c0.dim,.slice rp c0.sides.length rc],vb true]) (SQ.lookupOk mty125 I I<|bo.own 2 I) (by rw[h2]; rfl)) ?_;refine yM I<|pU I (xT I I)<|pU I (xT I I)<|SP.o I (aL zl3) dC (.inr iR) ?_;rintro _ _ _ ⟨b5,rfl,rfl,rfl⟩;refine SP.on I (sK 0 au I I I I I sB) (.inr iR) ?_;rintro _ _ _ ⟨rfl,rfl⟩;refine pU I (aS I)<|pN<|tN<|sQ<|bK<|sW I<|lU (SU.not I)<|aT I<|cF I<|rZ<|lU (fA aw I zT3 I)<|lK (qL iT3 I<|cO 0 I I)<|lU (nQ I I)<|aT I<|iP I (fun hd=>?_) (fun hd=>?_)
 ·have hcode:a6 A e=21:=by unfold a6; rw[h1]; exact zg1 hd
  rw[hcode];exact rZ<|aT I<|rE<|bR<|tR<|za7 (.inl I) results107 I ⟨zb8 _,I,by rw[zf9 dC]; exact⟨_::_::_::_::_::fI A rs,I⟩⟩
 have hd1:c0.dim=1:=Decidable.not_not.1 hd;by_cases hmin:min e.new e.other<1
 ·have hcode:a6 A e=1:=by
   unfold a6;rw[h1];show (if c0.dim≠1 then (21:Int) else if min e.new e.other<1∨e.new=e.other then 1 else _)=1;rw[zf9 hd,zg1<|.inl hmin]
  rw[hcode];exact rZ<|lU (fA aJ I zT3 I)<|lK (qL (v:=vi e.new) iT3 I<|cO 1 I I)<|lU (fA aJ I zT3 I)<|lK (qL (v:=vi e.other) iT3 I<|cO 1 I I)<|lU (SU.min2 I I)<|lU (SU.eq (v':=vb true) (lS I I)<|ze2 vb<|zf8 hmin)<|lM I<|yA I<|yA I<|yA I<|yA I<|yA I<|yP I<|aT I<|za1 I<|rZ<|aT I<|rE<|bR<|tR<|za7 (.inl I) results107 I ⟨zb8 _,I,by rw[zf9 dC]; exact⟨_::_::_::_::_::fI A rs,I⟩⟩
 refine rZ<|lU (fA aJ I zT3 I)<|lK (qL (v:=vi e.new) iT3 I<|cO 1 I I)<|lU (fA aJ I zT3 I)<|lK (qL (v:=vi e.other) iT3 I<|cO 1 I I)<|lU (SU.min2 I I)<|lU (SU.eq (v':=vb false) (lS I I)<|ze2 vb<|zf7 hmin)<|lM I<|lY I I I (fA aJ I zT3 I)<|SL.gq (gT I I I dC) (qL (v:=vi e.new) iT3 I<|cO 1 I I) dC<|lY I I I (fA aJ I zT3 I)<|SL.gq (gT I I I dC) (qL (v:=vi e.other) iT3 I<|cO 1 I I) dC<|lY I I I (eQ I I)<|yF I<|aT I<|iP I (fun hne=>?_) (fun hne=>?_)
 ·have hcode:a6 A e=1:=by
   unfold a6;rw[h1];show (if c0.dim≠1 then (21:Int) else if min e.new e.other<1∨e.new=e.other then 1 else _)=1;rw[zf9 hd,zg1<|.inr hne]
  rw[hcode];exact rZ<|aT I<|rE<|bR<|tR<|za7 (.inl I) results107 I ⟨zb8 _,I,by rw[zf9 dC]; exact⟨_::_::_::_::_::fI A rs,I⟩⟩
 have hcode:a6 A e=if (ao A e.new).isSome||(ao A e.other).isSome then 54 else 0:=by
  unfold a6;rw[h1];show (if c0.dim≠1 then (21:Int) else if min e.new e.other<1∨e.new=e.other then 1 else if (ao A e.new).isSome||(ao A e.other).isSome then 54 else 0)=_;rw[zf9 hd,zf9 (fun h=>h.elim hmin hne)]
 rw[hcode];cases hnw:(ao A e.new).isSome with
 | true =>
  have e54:(if (true||(ao A e.other).isSome)=true then (54:Int) else 0)=54:=rfl;rw[e54];refine sW I<|lU (fA aJ I zT3 I)<|lK (qL (v:=vi e.new) iT3 I<|cO 1 I I)<|lW (SO.call call135 I<|bJ E g _ bx mb ms _ false e.new _ (fun _ _ h=>h.1) A rs hO 2 3 I I) ?_;rintro _ _ _ ⟨rfl,rfl,rfl⟩;rw[hnw];exact lM I<|yA I<|yA I<|yA I<|yA I<|yP I<|aT I<|za1 I<|rZ<|aT I<|rE<|bR<|tR<|za7 (.inl I) results107 I ⟨zb8 _,I,by rw[zf9 dC]; exact⟨_::_::_::_::_::fI A rs,I⟩⟩
 | false =>
 rw[Bool.false_or];refine sW I<|lU (fA aJ I zT3 I)<|lK (qL (v:=vi e.new) iT3 I<|cO 1 I I)<|lW (SO.call call135 I<|bJ E g _ bx mb ms _ false e.new _ (fun _ _ h=>h.1) A rs hO 2 3 I I) ?_;rintro _ _ _ ⟨rfl,rfl,rfl⟩;rw[hnw];refine lM I<|yC I<|lY I I I (fA aJ I zT3 I)<|SL.gq (gT I I I dC) (qL (v:=vi e.other) iT3 I<|cO 1 I I) dC<|ze1 (gT I I I dC) (SO.call call135 I<|bJ E g _ bx mb ms _ false e.other _ (fun _ _ h=>h.1) A rs hO 2 3 I I) dC ?_;rintro _ _ _ ⟨rfl,rfl,rfl⟩;refine yF I<|aT I<|iQ I (fun hot=>?_) (fun hot=>?_)
 ·rw[zg1 hot];exact rZ<|aT I<|rE<|bR<|tR<|za7 (.inl I) results107 I ⟨zb8 _,I,by rw[zf9 dC]; exact⟨_::_::_::_::_::fI A rs,I⟩⟩
 rw[zf9 (by rw[hot]; exact Bool.false_ne_true)];refine kP<|bN<|tN<|sQ<|sQ<|dW [] [(0,2),(1,2),(2,2),(3,1),(4,2),(5,1),(8,2),(6,0),(7,2)] ze3 kR<|yM I<|pU I (nC I)<|pU I (fA ce I ag I)<|pK I (SQ.loadOne ar ag I<|cO (v:=.slice p A.length c) 2 I I)<|pU I (fA aJ I zT3 I)<|pK I (qL (v:=vi e.cell) iT3 I<|cO 1 I I)<|yM I<|SP.o I (SO.call call55 I<|eD E g _ _ A e.cell hu hf) dC (.inr iR) ?_;rintro _ g1 _ ⟨rfl,hle1,hav⟩;obtain ⟨qa,da,rfl⟩:=za3 hav;refine pU I (eN aG I)<|pN<|tN<|bK ?_;have hat0:aX A e []=A:=by simp[aX]
 refine SC.loop (ι:=Nat×List Rc) (fun i=>[(0,pp bx 0),(3,pp b3 0),(5,pp b5 0),(60,.slice qa (ah A e.cell).length da),(61,vi (ah A e.cell).length),(62,vi i.1)]) (fun _=>g1)
  (fun i=>pt b5 (.cells #[vi c0.id,vi c0.dim,.slice rp c0.sides.length rc] 54 (0,0))::pt b3 (.cells (edV e (.slice sp e.sides.length sc)<|.slice qp e.pairs.length qc) 39 (0,0))::edP bx (.slice p A.length c) mb ms false::mp mb (i.2.map am)::mp ms []::(fI (aX A e<|(ah A e.cell).take i.1) i.2++s))
  (fun i=>i.1≤(ah A e.cell).length∧az j7 (aX A e<|(ah A e.cell).take i.1) i.2∧dF (i.2.map am) e.cell=some (rcv ⟨c0.id,c0.dim,⟨rp,c0.sides.length,rc⟩⟩)) (fun i=>(ah A e.cell).length - i.1) (0,rs)
  sB rfl (by dsimp only; rw[List.take_zero,hat0]; rfl) ⟨zf6 _,by dsimp only; rw[List.take_zero,hat0]; exact hO,h2⟩ ?_
 rintro ⟨k,rs1⟩ ⟨hk,hO1,hg1⟩;dsimp only at hk hO1 hg1 ⊢;refine rZ<|yL I<|tZ<|sQ<|iP I (fun hlt=>?_) (fun hlt=>?_)
 ·have hkl:k<(ah A e.cell).length:=oM;have hba:=za5 hav oM;have hgk:(ah A e.cell)[((k:Nat):Int).toNat]?=some (ah A e.cell)[k]:=gE hkl;have htk:(ah A e.cell).take (k+1)=(ah A e.cell).take k++[(ah A e.cell)[k]]:=tS hkl;obtain ⟨y,hy1,hy2,hy3⟩:=hab _<|gM hkl;have hnot:(ah A e.cell)[k] ∉ (ah A e.cell).take k:=fun hm=>by
   obtain ⟨j,hj,hje⟩:=zc7 hm;rw[ze4] at hj;rw[List.getElem_take] at hje;have:=(List.getElem_inj habn).1 hje;omega
  have hne1:e.cell≠(ah A e.cell)[k]:=fun h=>hself (by have h9:=gM hkl; rwa [← h] at h9);have hput:=nZ (e:=e) hnot hn hy1;rw[← htk] at hput;have hfd:=mC (e:=e) (A:=A) hnot;rw[hy1] at hfd;generalize hH1:(ah A e.cell).take (k+1)=H1 at *;generalize (ah A e.cell).take k=H0 at *;generalize (ah A e.cell)[k]=id at *
  rcases re id hO1 with ⟨h3,_⟩ | ⟨m,y',r1,h3,hyid,h4,hco1,hrow1,hset1⟩
  ·rw[hfd] at h3; cases h3
  rw[hfd] at h3;injection h3 with h3
  subst h3;obtain ⟨si,sd,sp1,sn1,sc1⟩:=r1;obtain ⟨f1,f2,f3⟩:=hco1;dsimp only at f1 f2 f3;subst f1 f2 f3;subst hyid;have hm1:m<(fI (aX A e H0) rs1).length:=(zf5.1 hrow1).1;have hrow2:(fI (aX A e H0) rs1++s)[m]?=some (rowA encSide 56 (.slice sp1 y.sides.length sc1) y.sides):=by rw[zh2 hm1]; exact hrow1
  have hset2:∀ (q':Option Addr) (d':Nat) (x:Side),(ex e y).sides=y.sides++[x]→fI (aX A e H1) (iC rs1 ⟨y.id,y.dim,⟨q',(y.sides++[x]).length,d'⟩⟩)++s=(fI (aX A e H0) rs1++s).set m (rowA encSide 56 (.slice q' (y.sides++[x]).length d')<|y.sides++[x])∧az j7 (aX A e H1) (iC rs1 ⟨y.id,y.dim,⟨q',(y.sides++[x]).length,d'⟩⟩):=fun q' d' x hx=>by
   obtain ⟨h5,h6⟩:=hset1 (ex e y) ⟨y.id,y.dim,⟨q',(y.sides++[x]).length,d'⟩⟩ rfl rfl ⟨rfl,rfl,by dsimp only; rw[hx]⟩;rw[hput] at h5 h6;refine⟨?_,h6⟩;rw[← h5,List.set_append_left _ _ hm1];unfold Bg;rw[hx]
  have hidx:vR (fun x=>decide (x.cell=e.cell)) y.sides=((y.sides.findIdx fun x=>decide (x.cell=e.cell):Nat):Int):=zg1 hy2;have hil:(y.sides.findIdx fun x=>decide (x.cell=e.cell))<y.sides.length:=by
   obtain ⟨x,hx,hx2⟩:=zj8.1 hy2;exact List.findIdx_lt_length_of_exists ⟨x,hx,hx2⟩
  generalize hi0:(y.sides.findIdx fun x=>decide (x.cell=e.cell))=i0 at *;have hgi:y.sides[((i0:Nat):Int).toNat]?=some y.sides[i0]:=gE hil;have hws:(ex e y).sides=y.sides++[⟨e.other,y.sides[i0].sign⟩]:=by unfold ex; rw[De hil hi0]
  generalize y.sides[i0]=z at *;obtain ⟨zc,zs⟩:=z;dsimp only at hws;refine zd4 fun ⟨w0,hw0⟩=>?_;obtain ⟨bb,cc,hbb⟩:=aM (i:=m+5) hw0 hrow2 oM;clear hw0 w0;have hby:based (.slice sp1 y.sides.length sc1)=true:=by rw[hbb]; rfl
  refine kP (tN (sQ (bK (rZ (lU (iA aG zT3 I I hba oM sL) (lK (eB iT3 I (za6 hav) hgk I) (aT I (sW I (lU (nC I) (lU (fA ce I ec I) (lK (qL (v:=.map (some mb)) ee I (cO 2 I I)) (lM I (lK (SQ.eq (v':=.agg #[vi y.id,vi y.dim,.slice sp1 y.sides.length sc1]) (SQ.lookup mty125 I I (bo.own 3 I)) (by rw[h4]; rfl)) ?_)))))))))))));refine bW (aL zl3) fun b9=>oZ (sK 0 au I I I I I sB)<|tZ (rZ (lU (fA aw I aO I) (lK (qL (v:=.slice sp1 y.sides.length sc1) bh I (cO 0 I I)) (lU (SU.mkFunc I) (lW (SO.call call136 I (DE E g1 _ _ _ _ y.sides (fun x=>decide (x.cell=e.cell)) (zb6 (m+6) hrow2) (fun _=>hby) oM I (fun x=>BX E g1 _ b3 e _ _ x 2 I))) ?_)))));rintro _ _ _ ⟨rfl,rfl,rfl⟩;rw[hidx];refine aT I (sQ ?_);refine dW [12,14] [(0,2),(1,1),(2,2),(3,1),(4,2),(5,1),(6,2),(7,2),(8,2),(9,1),(10,2),(11,0),(12,0),(13,2),(14,0)] ze3 kR<|pU I (fA aw I aO I) (pK I (qL (v:=.slice sp1 y.sides.length sc1) bh I (cO 0 I I)) (pU I (fA aJ I zT3 I) (pK I (qL (v:=vi e.other) iT3 I (cO 2 I I)) (pU I (fA aw I aO I) (pK I (qL (v:=.slice sp1 y.sides.length sc1) bh I (cO 0 I I)) (yM I (pU I (iA aI aB I I hby oM sL) ?_)))))));refine pU I (fC co I zT3 I hby) (pK I (aZ (e:=encSide) (o:=1) (u:=vi zs) iT3 I (zb6 (m+6) hrow2) hgi I) (pU I (za2 I (buildS56 _ _)) (SP.o I (bS sty37 I I I (ab ⟨I,trivial⟩) dC) dC (.inr iR) ?_)));rintro _ _ _ ⟨b87,rfl,rfl,rfl⟩;refine SP.o I (aP (e:=encSide) (m+6) ⟨e.other,zs⟩ sty37 I I I hrow2 I oM oM) dC (.inl dC) ?_;rintro v88 _ _ ⟨rfl,rfl⟩;refine zd2 fun ⟨w0,hw0⟩=>?_;obtain ⟨q',d',rfl⟩:=aj (e:=encSide) (l:=y.sides++[(⟨e.other,zs⟩:Side)]) (i:=m+6) hw0 (qQ hrow2 _);clear hw0 w0;refine pU rfl (fA aw rfl aO rfl) (SP.on rfl (SO.store1 0 aO rfl rfl rfl rfl (bE rfl) (by rfl)) (.inl dC) ?_);rintro _ _ _ ⟨rfl,rfl⟩;refine pN (tN ?_);obtain ⟨hown,hO2⟩:=hset2 q' d' ⟨e.other,zs⟩ hws;refine SC.to (g':=g1) (s':=pt b9 (.cells #[vi y.id,vi y.dim,.slice q' (y.sides++[(⟨e.other,zs⟩:Side)]).length d'] 54 (0,0))::pt b5 (.cells #[vi c0.id,vi c0.dim,.slice rp c0.sides.length rc] 54 (0,0))::pt b3 (.cells (edV e (.slice sp e.sides.length sc) (.slice qp e.pairs.length qc)) 39 (0,0))::edP bx (.slice p A.length c) mb ms false::mp mb (rs1.map am)::mp ms []::(fI (aX A e H1) (iC rs1 ⟨y.id,y.dim,⟨q',(y.sides++[(⟨e.other,zs⟩:Side)]).length,d'⟩⟩)++s)) (fun w hw=>by rw[hown]; exact hw) ?_;refine dW [6] [(0,2),(1,2),(2,2),(3,1),(4,2),(5,1),(6,0)] ze3 kR<|yM I (pU I (nC I) (pU I (fA ce I ec I) (pK I (qL (v:=.map (some mb)) ee I (cO 3 I I)) (yM I (pK I (qV 0 bQ au I I I) (SP.on I (SO.mapUpdate 4 mty125 I I I I) (.inl dC) ?_))))));rintro _ _ _ ⟨rfl,rfl⟩;rw[show dS (rs1.map am) y.id (.agg #[vi y.id,vi y.dim,.slice q' (y.sides++[(⟨e.other,zs⟩:Side)]).length d'])=(iC rs1 ⟨y.id,y.dim,⟨q',(y.sides++[(⟨e.other,zs⟩:Side)]).length,d'⟩⟩).map am from iT ⟨y.id,y.dim,⟨q',(y.sides++[(⟨e.other,zs⟩:Side)]).length,d'⟩⟩ rs1];refine pN (bN (tN (rG (yD I (lM I (nL (dR (.cons _ (.refl _)) ?_)))))));exact ST.again (k+1,iC rs1 ⟨y.id,y.dim,⟨q',(y.sides++[(⟨e.other,zs⟩:Side)]).length,d'⟩⟩) sB I (by dsimp only; rw[hH1]; rfl) ⟨by dsimp only; omega,by dsimp only; rw[hH1]; exact hO2,by
   dsimp only;rw[← iT,iw,zf9 hne1];exact hg1⟩ (by dsimp only; omega)
 ·have hkk:(ah A e.cell).take k=ah A e.cell:=tL oM;rw[hkk] at hO1 ⊢;have hfe:=mC (e:=e) (A:=A) hself;rw[h1] at hfe;obtain ⟨z0,z1,hz,hzs⟩:=hedge c0 h1 hd1;obtain ⟨iE,zE,zO,hiE,hixE,hgE,hgO,heE,heO⟩:=DH hz hzs;have hl2:c0.sides.length=2:=by rw[hz]; rfl
  have hout:eK A e=dK (dK (dK (aX A e<|ah A e.cell) ⟨e.new,0,[]⟩) ⟨e.other,1,[⟨e.new,-1⟩,zE]⟩) ⟨e.cell,1,[zO,⟨e.new,1⟩]⟩:=by
   unfold eK;rw[h1];show dK (dK (dK (aX A e<|ah A e.cell) ⟨e.new,0,[]⟩) ⟨e.other,1,[⟨e.new,-1⟩,iY c0.sides true]⟩) ⟨e.cell,1,[iY c0.sides false,⟨e.new,1⟩]⟩=_;rw[heE,heO]
  rw[hout];refine xI (tX<|tX<|bX<|tN<|sQ<|SC.freezeO (L:=[pt b5<|.cells #[vi c0.id,vi c0.dim,.slice rp c0.sides.length rc] 54 (0,0),pt b3<|.cells (edV e (.slice sp e.sides.length sc)<|.slice qp e.pairs.length qc) 39 (0,0),edP bx (.slice p A.length c) mb ms false,mp mb<|rs1.map am,mp ms []]) hO1 fun g2 hle2 hall2=>?_);refine SC.to (g':=g2) (s':=pt b5 (.cells #[vi c0.id,vi c0.dim,.slice rp c0.sides.length rc] 54 (0,0))::pt b3 (.cells (edV e (.slice sp e.sides.length sc)<|.slice qp e.pairs.length qc) 39 (0,0))::edP bx (.slice p A.length c) mb ms false::mp mb (rs1.map am)::mp ms []::s) (fun w hw=>hw) ?_;have hsl:SlA encSide g2 (.slice rp c0.sides.length rc) c0.sides:=by
   rcases gj (fun _ _ h=>h.1) hall2 e.cell with ⟨h5,_⟩ | ⟨c1,r1,h5,h6,h7⟩
   ·unfold ao at hfe; rw[h5] at hfe; cases hfe
   ·rw[hg1] at h6; injection h6 with h6; have h8:=Dn h6; subst h8; unfold ao at hfe; rw[h5] at hfe; injection hfe with hfe; subst hfe; exact h7.2.2
  generalize aX A e (ah A e.cell)=B0 at *;have hbE:=za5 hsl oM;have hgE':c0.sides[((iE:Nat):Int).toNat]?=some zE:=hgE;have hgO':c0.sides[((1 - (iE:Int)):Int).toNat]?=some zO:=by rw[show (1 - (iE:Int)).toNat=1 - iE by omega]; exact hgO
  refine rG<|lU (fA aw I aO I)<|lK (qL (v:=.slice rp c0.sides.length rc) bh I<|cO 0 I I)<|lW (SO.call call136 I<|td E g2 _ _ _ c0.sides (fun x=>decide (0<x.sign)) hsl oM I<|fun x=>DD E g2 _ x) ?_;rintro _ _ _ ⟨rfl,rfl,rfl⟩;rw[hixE];refine aT I<|sQ<|dW [9] [(0,2),(1,2),(2,2),(3,1),(4,2),(5,1),(6,2),(7,1),(8,2),(9,0)] ze3 kR<|yM I<|pU I (nC I)<|pU I (fA ce I ec I)<|pK I (qL (v:=.map<|some mb) ee I<|cO 2 I I)<|pU I (fA aJ I zT3 I)<|pK I (qL (v:=vi e.new) iT3 I<|cO 1 I I)<|pU I (fA aJ I zT3 I)<|pK I (qL (v:=vi e.new) iT3 I<|cO 1 I I)<|pU I (za2 I<|buildI54 _)<|SP.on I (SO.mapUpdate 3 mty125 I I I I) (.inl dC) ?_;rintro _ _ _ ⟨rfl,rfl⟩;rw[show dS (rs1.map am) e.new (.agg #[vi e.new,vi 0,.slice none 0 0])=(iC rs1 ⟨e.new,0,⟨none,0,0⟩⟩).map am from iT ⟨e.new,0,⟨none,0,0⟩⟩ rs1];refine pN<|tN<|sQ ?_;have hall3:az (ay g2) (dK B0 ⟨e.new,0,[]⟩) (iC rs1 ⟨e.new,0,⟨none,0,0⟩⟩):=jI (fun _ _ h=>h.1) ⟨rfl,rfl,zb9 _ _⟩ hall2;generalize iC rs1 ⟨e.new,0,⟨none,0,0⟩⟩=rs2 at *;generalize dK B0 ⟨e.new,0,[]⟩=B1 at *;refine dW [18] [(0,2),(1,2),(2,2),(3,1),(4,2),(5,1),(6,2),(7,1),(8,2),(9,1),(10,2),(11,2),(12,1),(13,2),(14,2),(15,1),(16,0),(17,2),(18,0)] ze3 kR<|yM I<|pU I (nC I)<|pU I (fA ce I ec I)<|pK I (qL (v:=.map<|some mb) ee I<|cO 2 I I)<|pU I (fA aJ I zT3 I)<|pK I (qL (v:=vi e.other) iT3 I<|cO 1 I I)<|pU I (fA aJ I zT3 I)<|pK I (qL (v:=vi e.other) iT3 I<|cO 1 I I)<|pU I (fA aJ I zT3 I)<|pK I (qL (v:=vi e.new) iT3 I<|cO 1 I I)<|pU I (za2 I<|buildS56 _ _)<|pU I (fA aw I aO I)<|pK I (qL (v:=.slice rp c0.sides.length rc) bh I<|cO 0 I I)<|yM I<|pU I (iA aI aB I I hbE oM sL)<|pK I (eA dT aB I (za6 hsl) hgE')<|SP.o I (bS sty37 I I I (ab sB) dC) dC (.inr iR) ?_;rintro _ _ _ ⟨b125,rfl,rfl,rfl⟩;refine SP.freeze fun g3 hle3 hb3=>?_;have hs3:SlA encSide g3 (.slice (some ⟨b125,0,none⟩) 2 2) [⟨e.new,-1⟩,zE]:=SlA.lit hb3 rfl rfl;refine pU I (za2 I<|buildF54 _ _ _ I)<|SP.on I (SO.mapUpdate 3 mty125 I I I I) (.inl dC) ?_;rintro _ _ _ ⟨rfl,rfl⟩;rw[show dS (rs2.map am) e.other (.agg #[vi e.other,vi 1,.slice (some ⟨b125,0,none⟩) 2 2])=(iC rs2 ⟨e.other,1,⟨some ⟨b125,0,none⟩,2,2⟩⟩).map am from iT ⟨e.other,1,⟨some ⟨b125,0,none⟩,2,2⟩⟩ rs2];refine pN<|tN<|sQ ?_;have hall4:az (ay g3) (dK B1 ⟨e.other,1,[⟨e.new,-1⟩,zE]⟩) (iC rs2 ⟨e.other,1,⟨some ⟨b125,0,none⟩,2,2⟩⟩):=jI (fun _ _ h=>h.1) ⟨rfl,rfl,hs3⟩ (hall3.mono fun _ _=>ay.mono hle3);have hsl3:=za4 hsl hle3;generalize iC rs2 ⟨e.other,1,⟨some ⟨b125,0,none⟩,2,2⟩⟩=rs3 at *;generalize dK B1 ⟨e.other,1,[⟨e.new,-1⟩,zE]⟩=B2 at *;refine dW [19] [(0,2),(1,2),(2,2),(3,1),(4,2),(5,1),(6,2),(7,1),(8,2),(9,1),(10,2),(11,2),(12,2),(13,1),(14,2),(15,1),(16,2),(17,0),(18,2),(19,0)] ze3 kR<|yM I<|pU I (nC I)<|pU I (fA ce I ec I)<|pK I (qL (v:=.map<|some mb) ee I<|cO 2 I I)<|pU I (fA aJ I zT3 I)<|pK I (qL (v:=vi e.cell) iT3 I<|cO 1 I I)<|pU I (fA aJ I zT3 I)<|pK I (qL (v:=vi e.cell) iT3 I<|cO 1 I I)<|pU I (fA aw I aO I)<|pK I (qL (v:=.slice rp c0.sides.length rc) bh I<|cO 0 I I)<|yM I<|pU I (sU I I oM)<|pU I (iA aI aB I I hbE oM sL)<|pK I (eA dT aB I (za6 hsl3) hgO')<|pU I (fA aJ I zT3 I)<|pK I (qL (v:=vi e.new) iT3 I<|cO 1 I I)<|pU I (za2 I<|buildS56 _ _)<|SP.o I (bS sty37 I I I (ab sB) dC) dC (.inr iR) ?_;rintro _ _ _ ⟨b144,rfl,rfl,rfl⟩;refine SP.freeze fun g4 hle4 hb4=>?_;have hs4:SlA encSide g4 (.slice (some ⟨b144,0,none⟩) 2 2) [zO,⟨e.new,1⟩]:=SlA.lit hb4 rfl rfl;refine pU I (za2 I<|buildF54 _ _ _ I)<|SP.on I (SO.mapUpdate 3 mty125 I I I I) (.inl dC) ?_;rintro _ _ _ ⟨rfl,rfl⟩;rw[show dS (rs3.map am) e.cell (.agg #[vi e.cell,vi 1,.slice (some ⟨b144,0,none⟩) 2 2])=(iC rs3 ⟨e.cell,1,⟨some ⟨b144,0,none⟩,2,2⟩⟩).map am from iT ⟨e.cell,1,⟨some ⟨b144,0,none⟩,2,2⟩⟩ rs3];refine pN<|tN<|sQ ?_;have hall5:az (ay g4) (dK B2 ⟨e.cell,1,[zO,⟨e.new,1⟩]⟩) (iC rs3 ⟨e.cell,1,⟨some ⟨b144,0,none⟩,2,2⟩⟩):=jI (fun _ _ h=>h.1) ⟨rfl,rfl,hs4⟩ (hall4.mono fun _ _=>ay.mono hle4);generalize iC rs3 ⟨e.cell,1,⟨some ⟨b144,0,none⟩,2,2⟩⟩=rs4 at *;refine dW [13] [(0,2),(1,2),(2,2),(3,1),(4,2),(5,1),(6,2),(7,1),(9,2),(10,1),(8,0),(11,0),(12,0),(13,0)] ze3 kR<|yM I<|pU I (nC I)<|pU I (fA ce I sizeOf148 I)<|pK I (qL (v:=.map<|some ms) isAgg148 I<|cO 2 I I)<|pU I (fA aJ I zT3 I)<|pK I (qL (v:=vi e.cell) iT3 I<|cO 1 I I)<|pU I (fA aJ I zT3 I)<|pK I (qL (v:=vi e.cell) iT3 I<|cO 1 I I)<|pU I (fA aJ I zT3 I)<|pK I (qL (v:=vi e.other) iT3 I<|cO 1 I I)<|SP.o I (SO.call call112 I<|iq E g4 _ e.cell 1 dC dC) dC (.inr iR) ?_;rintro _ g5 _ ⟨rfl,rfl,hle5⟩;refine SP.o rfl (SO.call call112 rfl<|iq E g5 _ e.other 1 dC dC) dC (.inr (by rintro _ g6 _ ⟨rfl,rfl,hle6⟩; exact⟨by exact Le.trans (by assumption) (by assumption),(by exact .refl _)⟩)) ?_;rintro _ g6 _ ⟨rfl,rfl,hle6⟩;have hle46:=hle5.trans hle6;refine SP.o I (bS sty151 I I I (ab sB) dC) dC (.inr iR) ?_;rintro _ _ _ ⟨b158,rfl,rfl,rfl⟩;refine SP.to (fun w hw=>At.litRow (e:=dw) (l:=[(e.cell,1),(e.other,1)]) (n:=1) hw I I dC) ?_;refine SP.on I (SO.mapUpdate 5 mty148 I I I I) (.inl dC) ?_;rintro _ _ _ ⟨rfl,rfl⟩;refine pN<|tN<|rZ<|aT I<|rE ?_;refine ST.to (g':=g6) (s':=edP bx (.slice p A.length c) mb ms false::mp mb (rs4.map am)::mp ms (gD [(e.cell,.slice (some ⟨b158,0,none⟩) 2 2,[(e.cell,1),(e.other,1)])])::(db [(e.cell,.slice (some ⟨b158,0,none⟩) 2 2,[(e.cell,1),(e.other,1)])]++s)) (fun w1 hw1=>?_) ?_
  ·have h5:=hw1.sublist (s':=rowA dw 156 (.slice (some ⟨b158,0,none⟩) 2 2) [(e.cell,1),(e.other,1)]::([edP bx (.slice p A.length c) mb ms false,mp mb<|rs4.map am,mp ms<|gD [(e.cell,.slice (some ⟨b158,0,none⟩) 2 2,[(e.cell,1),(e.other,1)])]]++s))<|.cons_cons _<|.cons _<|.cons _<|.refl _;exact h5.perm (zk2 (l₁:=[edP bx (.slice p A.length c) mb ms false,mp mb<|rs4.map am,mp ms<|gD [(e.cell,.slice (some ⟨b158,0,none⟩) 2 2,[(e.cell,1),(e.other,1)])]])).symm
  exact za7 (.inl I) results107 I ⟨hle1.trans<|hle2.trans<|hle3.trans<|hle4.trans hle46,I,by rw[zg1 I]; exact⟨rs4,_,_,_,_,I,hall5.mono fun _ _=>ay.mono hle46,I⟩⟩
open Go Go.Sy Go.Pl Go.Proofs Go.Shelf Go.Sort
def Tryz.sortSd_ren:Ren :=
 {
  f:=fun x =>
   match x with
   | 6=>151
   | 15=>145
   | 14=>170
   | 28=>163
   | 29=>164
   | 20=>168
   | 21=>182
   | 22=>183
   | 23=>184
   | 24=>185
   | 25=>186
   | 26=>187
   | 27=>188
   | 46=>197
   | 47=>175
   | 48=>176
   | 49=>198
   | 50=>199
   | 57=>203
   | n=>n,
  t:=fun x =>
   match x with
   | 22=>37
   | 24=>56
   | 25=>173
   | 3=>3
   | 39=>184
   | 0=>0
   | 53=>201
   | 55=>189
   | 4=>4
   | 46=>195
   | 45=>194
   | 50=>138
   | 5=>5
   | 9=>9
   | 66=>213
   | 70=>217
   | 76=>232
   | 77=>233
   | n=>n,
  g:=fun x =>
   have n:=x;
   n }
theorem Tryz.sortSd:SlLaysF0.n6 Tryz.prog Tryz.sortSd_ren :=
  {
  mixed:=Eq.refl true,
  f6 :=
   Exists.intro "slices.SortFunc[[]cocycle/api.Side,cocycle/api.Side]"
    ⟨zg3 (id (Eq.refl true)),
     zb7 func151
      (ze2 some
       kR)⟩,
  f14 :=
   Exists.intro "slices.pdqsortCmpFunc[cocycle/api.Side]"
    ⟨zg3 (id (Eq.refl true)),
     zb7 func170
      (ze2 some
       kR)⟩,
  f15:=zb7 func145<|ze2 some kR,
  f20 :=
   Exists.intro "slices.insertionSortCmpFunc[cocycle/api.Side]"
    ⟨zg3 (id (Eq.refl true)),
     zb7 func168
      (ze2 some
       kR)⟩,
  f21 :=
   Exists.intro "slices.heapSortCmpFunc[cocycle/api.Side]"
    ⟨zg3 (id (Eq.refl true)),
     zb7 func182
      (ze2 some
       kR)⟩,
  f22 :=
   Exists.intro "slices.breakPatternsCmpFunc[cocycle/api.Side]"
    ⟨zg3 (id (Eq.refl true)),
     zb7 func183
      (ze2 some
       kR)⟩,
  f23 :=
   Exists.intro "slices.choosePivotCmpFunc[cocycle/api.Side]"
    ⟨zg3 (id (Eq.refl true)),
     zb7 func184
      (ze2 some
       kR)⟩,
  f24 :=
   Exists.intro "slices.reverseRangeCmpFunc[cocycle/api.Side]"
    ⟨zg3 (id (Eq.refl true)),
     zb7 func185
      (ze2 some
       kR)⟩,
  f25 :=
   Exists.intro "slices.partialInsertionSortCmpFunc[cocycle/api.Side]"
    ⟨zg3 (id (Eq.refl true)),
     zb7 func186
      (ze2 some
       kR)⟩,
  f26 :=
   Exists.intro "slices.partitionEqualCmpFunc[cocycle/api.Side]"
    ⟨zg3 (id (Eq.refl true)),
     zb7 func187
      (ze2 some
       kR)⟩,
  f27 :=
   Exists.intro "slices.partitionCmpFunc[cocycle/api.Side]"
    ⟨zg3 (id (Eq.refl true)),
     zb7 func188
      (ze2 some
       kR)⟩,
  f28:=zb7 func163<|ze2 some kR,
  f29:=zb7 func164<|ze2 some kR,
  f46 :=
   Exists.intro "slices.siftDownCmpFunc[cocycle/api.Side]"
    ⟨zg3 (id (Eq.refl true)),
     zb7 func197
      (ze2 some
       kR)⟩,
  f47:=zb7 func175<|ze2 some kR,
  f48:=zb7 func176<|ze2 some kR,
  f49 :=
   Exists.intro "slices.medianAdjacentCmpFunc[cocycle/api.Side]"
    ⟨zg3 (id (Eq.refl true)),
     zb7 func198
      (ze2 some
       kR)⟩,
  f50 :=
   Exists.intro "slices.medianCmpFunc[cocycle/api.Side]"
    ⟨zg3 (id (Eq.refl true)),
     zb7 func199
      (ze2 some
       kR)⟩,
  f57 :=
   Exists.intro "slices.order2CmpFunc[cocycle/api.Side]"
    ⟨zg3 (id (Eq.refl true)),
     zb7 func203
      (ze2 some
       kR)⟩,
  t0:=underlying0,a0:=isAgg0,z0:=sizeOf0,v0:=zeroValue0,t3:=uT3,
  a3:=iT3,z3:=zT3,v3:=zeroValue3,t4:=underlying4,a4:=isAgg4,
  z4:=zT4,v4:=zeroValue4,t5:=uT5,a5:=isAgg5,z5:=sizeOf5,
  v5:=zeroValue5,t9:=underlying9,a9:=isAgg9,z9:=sizeOf9,v9:=zeroValue9,
  t22:=aI,a22:=bh,z22:=aO,v22:=zeroValue37,
  t25:=underlying173,a25:=isAgg173,z25:=sizeOf173,v25:=zeroValue173,
  t39:=gJ,a39:=isAgg184,z39:=sizeOf184,v39:=zeroValue184,
  t45:=underlying194,a45:=isAgg194,z45:=sizeOf194,v45:=zeroValue194,
  t46:=underlying195,a46:=isAgg195,z46:=sizeOf195,v46:=zeroValue195,
  t50:=underlying138,a50:=isAgg138,z50:=sizeOf138,v50:=zeroValue138,
  t53:=underlying201,a53:=isAgg201,z53:=sizeOf201,v53:=zeroValue201,
  t55:=o5,a55:=isAgg189,z55:=sizeOf189,v55:=zeroValue189,
  t66:=underlying213,a66:=isAgg213,z66:=sizeOf213,v66:=zeroValue213,
  t70:=underlying217,a70:=isAgg217,z70:=sizeOf217,v70:=zeroValue217,
  t76:=underlying232,a76:=isAgg232,z76:=sizeOf232,v76:=zeroValue232,
  t77:=underlying233,a77:=isAgg233,z77:=sizeOf233,v77:=zeroValue233 }
instance:Inhabited Side:=⟨⟨0,0⟩⟩
def rJ (x y:Side):Int:=orI [jv x.cell y.cell,jv x.sign y.sign]
theorem gr (x y:Side):rJ x y<0↔x.cell<y.cell∨(x.cell=y.cell∧x.sign<y.sign):=by
 unfold rJ orI orI orI jv;split <;> split <;> (try split)<;>(try split)<;>simp_all <;> omega
theorem EJ:SWO (ltOf rJ):=⟨fun x=>by simp[ltOf,gr],fun x y z h1 h2=>by simp[ltOf,gr] at *; omega,fun x y z h1 h2=>by simp[ltOf,gr] at *; omega⟩
def CT (l:List Side):Prop:=l.Pairwise fun x y=>¬ rJ y x<0
theorem qJ {l m:List Side}(hl:CT l)(hm:CT m)(hp:l.Perm m):l=m:=by
 refine hp.eq_of_pairwise (le:=fun x y=>¬ rJ y x<0) (fun x y _ _ h1 h2=>?_) hl hm;rw[gr] at h1 h2;obtain ⟨xc,xs⟩:=x;obtain ⟨yc,ys⟩:=y;dsimp only at h1 h2;have e1:xc=yc:=oM;have e2:xs=ys:=oM;rw[e1,e2]
theorem DL:EH Tryz.prog 152 encSide.enc rJ:=by
 intro E g s x y;obtain ⟨x1,x2⟩:=x;obtain ⟨y1,y2⟩:=y;refine zb1 (args:=[.agg #[vi x1,vi x2],.agg #[vi y1,vi y2]]) func152 I ntmps152 (bE I)<|rZ (bW (bO I) fun b2=>?_);refine bW (bO I) fun b3=>aT I<|sQ<|dW [] [(0,2),(1,1),(2,2),(3,1),(5,2),(6,1),(7,2),(8,1),(4,0),(9,0),(10,0),(11,0),(12,2)] ze3 kR<|pU I (fA co I zT3 I)<|pK I (qL (v:=vi x1) iT3 I<|cO 1 I I)<|pU I (fA co I zT3 I)<|pK I (qL (v:=vi y1) iT3 I<|cO 0 I I)<|pU I (fA co I zT3 I)<|pK I (qL (v:=vi x2) iT3 I<|cO 1 I I)<|pU I (fA co I zT3 I)<|pK I (qL (v:=vi y2) iT3 I<|cO 0 I I)<|SP.o I (SO.call call115 I<|fG E g _ x1 y1) dC (.inr iR) ?_;rintro _ _ _ ⟨rfl,rfl,rfl⟩;refine SP.o I (SO.call call115 I<|fG E g _ x2 y2) dC (.inr iR) ?_;rintro _ _ _ ⟨rfl,rfl,rfl⟩;refine SP.o I (bS sty22 I I I (ab sB) dC) dC (.inr iR) ?_;rintro _ _ _ ⟨b15,rfl,rfl,rfl⟩;refine SP.o I (SO.call call153 I<|Dw E g _ _ [jv x1 y1,jv x2 y2] (Rd.pt 0 I) ⟨_,_,I⟩ (fun _=>I) (by simp)) dC (.inr iR) ?_;rintro _ _ _ ⟨rfl,rfl,rfl⟩;exact pU I (aS I)<|pN<|tN<|rE<|dR (s':=s) uR<|za7 (.inl I) results152 I ⟨I,I,I⟩
theorem zN (E:World)(g:PH)(s:Own)(v:Value)(l:List Side)(i:Nat)(hi:s[i]?=some (rowA encSide 56 v l))(hl:l.length<1099511627776) :
  Ctr Tryz.prog E 151 #[v,.func (.func 152) #[] #[]] g s (fun _ g' s'=>g=g'∧∃ l',l'.Perm l∧CT l'∧s'=s.set i (rowA encSide 56 v l')) :=
 wi Tryz.sortSd encSide dT aB rJ EJ 152 call152 DL 56 E g s v l i hi hl
def dQ (f:Int→Option Int)(x:Side):Side:=⟨(f x.cell).getD x.cell,x.sign⟩
theorem ji (E:World)(g:PH)(s:Own)(v:Value)(l:List Side)(bb:Nat)(pm:List (Int×Value))(f:Int→Option Int)(hv:SlA encSide g v l)(hl:l.length<1099511627776)(hb:Mp g bb pm)(hf:∀ k,dF pm k=(f k).map vi) :
  Ctr Tryz.prog E 140 #[v,.map<|some bb] g s (fun r g' s'=>g=g'∧∃ l',l'.Perm (l.map<|dQ f)∧CT l'∧s'=rowA encSide 56 r l'::s):=by
 obtain ⟨p,c,rfl⟩:=za3 hv;refine zb1 (args:=[.slice p l.length c,.map<|some bb]) func140 I ntmps140 (bE I)<|rZ<|aT I<|sW I<|lW (SO.call call110 I<|uv E g _ _ l hv hl) ?_;rintro v11 _ _ ⟨rfl,rfl⟩;refine zd3 fun ⟨w0,hw0⟩=>?_;obtain ⟨q,d,rfl⟩:=aj (e:=encSide) (l:=l) (i:=0) hw0 rfl;have hbb:0<l.length→based (.slice q l.length d)=true:=fun h=>(by obtain ⟨b,c',hv'⟩:=aM (e:=encSide) (l:=l) (i:=0) hw0 rfl h; rw[hv']; rfl);clear hw0 w0;refine aT I<|sQ<|sW I<|lU (eN aI I)<|lM I<|tZ<|bK ?_;refine SC.loop (ι:=Nat) (fun k=>[(1,.map<|some bb),(5,.slice q l.length d),(12,.slice q l.length d),(13,vi l.length),(14,vi k)]) (fun _=>g) (fun k=>rowA encSide 56 (.slice q l.length d) ((l.take k).map (dQ f)++l.drop k)::s)
  (fun k=>k≤l.length) (fun k=>l.length - k) 0 sB rfl (by simp) (zf6 _) ?_
 rintro k hk;try dsimp only at hk ⊢
 refine rZ<|yL I<|tZ<|sQ<|iP I (fun hlt=>?_) (fun hlt=>?_)
 ·have hkl:k<l.length:=oM;have hb1:=hbb oM;have hcur:((l.take k).map (dQ f)++l.drop k)[((k:Nat):Int).toNat]?=some l[k]:=by
   show ((l.take k).map (dQ f)++l.drop k)[k]?=_;rw[zh3 (by rw[ze6,ze4]; omega),ze6,ze4,show k - min k l.length=0 by omega,zg6 hkl];rfl
  have hnext:(l.take<|k+1).map (dQ f)++l.drop (k+1)=((l.take k).map (dQ f)++l.drop k).set k (dQ f l[k]):=by
   rw[tS hkl,zg5,zg8,List.set_append_right _ _ (by rw[ze6,ze4]; omega),ze6,ze4,show k - min k l.length=0 by omega];congr 1;rw[zg6 hkl];rfl
  have hself:f l[k].cell=none→((l.take k).map (dQ f)++l.drop k).set k (dQ f l[k])=(l.take k).map (dQ f)++l.drop k:=fun h=>by
   have h2:dQ f l[k]=l[k]:=by unfold dQ; rw[h]; rfl
   rw[h2];exact m6 hcur
  have hlen2:((l.take k).map (dQ f)++l.drop k).length=l.length:=by simp; omega
  generalize l[k]=x at *;obtain ⟨xc,xs⟩:=x;generalize hcu:(l.take k).map (dQ f)++l.drop k=L at *;dsimp only at hself;cases hfx:f xc with
  | none =>
   refine kP (tN<|sQ<|bK<|sW I<|lU (iA aI aB I I hb1 oM sL)<|lK (eA dT aB I (zb6 0 I) hcur)<|bW (aL zl4) fun b7=>?_);refine lA I<|oZ (sK 0 aB I I I I I sB)<|tZ<|sW I<|lU (fA co I zT3 I)<|lK (qL (v:=vi xc) iT3 I<|cO 0 I I)<|lK (SQ.eq (v':=.tuple #[vi 0,vb false]) (SQ.lookupOk mty70 I I<|bo.known hb) (by rw[hf,hfx]; rfl)) ?_;exact lM I<|yX I<|yX I<|lA I<|aT I<|sW I<|tZ<|cF I<|kP<|bN<|tN<|rG<|yD I<|lM I<|nL<|dR (.cons _<|.refl _)<|ST.again (k+1) sB I (by rw[hnext,hself hfx]) oM oM
  | some t =>
   have hrep:dQ f ⟨xc,xs⟩=⟨t,xs⟩:=by unfold dQ; rw[hfx]; rfl
   rw[hrep] at hnext;refine kP (tN<|sQ<|bK<|sW I<|lU (iA aI aB I I hb1 oM sL)<|lK (eA dT aB I (zb6 0 I) hcur)<|bW (aL zl4) fun b7=>?_);refine lA I<|oZ (sK 0 aB I I I I I sB)<|tZ<|sW I<|lU (fA co I zT3 I)<|lK (qL (v:=vi xc) iT3 I<|cO 0 I I)<|lK (SQ.eq (v':=.tuple #[vi t,vb true]) (SQ.lookupOk mty70 I I<|bo.known hb) (by rw[hf,hfx]; rfl)) ?_;exact lM I<|yX I<|yX I<|lA I<|aT I<|sW I<|tZ<|za1 I<|rG<|lM I<|lM I<|lM I<|lU (iA aI aB I I hb1 oM sL)<|lU (fC co I zT3 I hb1)<|oZ (SO.partA (e:=encSide) (o:=0) 1 (⟨t,xs⟩:Side) zT3 I I I hcur I I dC I)<|nL<|bN<|tN<|rG<|yD I<|lM I<|nL<|dR (.cons _<|.refl _)<|ST.again (k+1) sB I (by rw[hnext]; rfl) oM oM
 ·have hall:(l.take k).map (dQ f)++l.drop k=l.map (dQ f):=by
   rw[tL oM,List.drop_of_length_le oM,zc6]
  rw[hall];refine xI<|tX<|tX<|bX<|tN<|sW I<|lW (SO.call call151 I<|zN E g _ _ (l.map<|dQ f) 0 I (by rw[ze6]; exact hl)) ?_;rintro _ _ _ ⟨rfl,l',hp,ha,rfl⟩;exact tZ<|sW I<|aT I<|rE<|za7 (.inl I) results140 I ⟨I,l',hp,ha,I⟩
end Go.Proofs.YtmmghffoakhheaaGreatDoor
namespace Go.Sy
open Go Go.MapKept
section
variable {P:Program}{N:Nat}{E:World}{f:Fr}{g:PH}{s:Own}{dst:Option Tmp}{ty:TypeId}{pos:String}{af:Array Edge}{gd:Option (Nat×Bool)}
variable {t kt et:TypeId}{m r clk:Nat}{es:Array MapEntry}{vis:List MapEntry}{x y u:Operand}{l vl:List (Int×Value)}{z:Value}{b:Nat}{k:Int}{v:Value}
abbrev mx (b:Nat)(es:Array MapEntry)(clk:Nat):Ent:=pt b (.map es clk)
theorem A7 (j:Nat)(hj:s[j]?=some (mx m es clk)):∀ w,At E g s w→w.heap[m]?=some (.map es clk):=fun w hw=>by
 have:=hw.own _<|zg2 hj;simpa [mx,pt] using this
theorem At.openMap {w:World}{i:Nat}(hi:s[i]?=some (mp b l))(h:At E g s w):∃ es clk,jf l es clk∧At E g (s.set i<|mx b es clk) w:=by
 obtain ⟨es,clk,h1,h2⟩:=h.own _<|zg2 hi;have hf:=h.fresh _<|zg2 hi;exact⟨es,clk,h2,h.turn hi I ⟨I,lR _⟩ I (lR _) (fun _ _ _=>I) (by simpa [mx,pt,mp] using h1) (fun b' hb'=>⟨(hf b' hb').2,.inl hb'⟩)⟩
theorem At.closeMap {w:World}{i:Nat}(hi:s[i]?=some (mx b es clk))(hI:jf l es clk)(h:At E g s w):At E g (s.set i<|mp b l) w:=by
 have h1:=h.own _<|zg2 hi;have hf:=h.fresh _<|zg2 hi;exact h.turn hi I ⟨I,lR _⟩ I (lR _) (fun _ _ _=>I) ⟨es,clk,by simpa [mx,pt,mp] using h1,hI⟩ (fun b' hb'=>⟨(hf b' hb').2,.inl hb'⟩)
theorem SC.openMap {c:Code}{Q:Exit→Act→World→Prop}(i:Nat)(hi:s[i]?=some (mp b l))(h:∀ es clk,jf l es clk→SC P N E c Q f g (s.set i<|mx b es clk)):SC P N E c Q f g s:=fun a w ha hw=>by
 obtain ⟨es,clk,h1,h2⟩:=hw.openMap hi;exact h es clk h1 a w ha h2
theorem ST.closeMap {e:Exit}{Q:Exit→Act→World→Prop}(i:Nat)(hi:s[i]?=some (mx b es clk))(hI:jf l es clk)(h:ST N E Q e f g (s.set i<|mp b l)):ST N E Q e f g s:=fun a w ha hw=>h a w ha (hw.closeMap hi hI)
theorem SO.rangeG (hT:P.underlying t=some (.map kt et))(hx:ev f x=some (.map<|some m))(hmm:∀ w,At E g s w→w.heap[m]?=some (.map es clk)) :
  SO P N E ⟨dst,.range t x,ty,pos,af,gd⟩ f g s fun u g' s'=>∃ r,u=pp r 0∧g=g'∧s'=eJ r m es clk []::s :=
 SO.of_run fun a w ha hw=>⟨pp w.heap.size 0,{ w with heap:=w.heap.push (.mapIter (some m) clk #[] clk) },g,eJ w.heap.size m es clk []::s,by
  have hb:=hmm w hw;simp[execOp,ha.ev hx,Instr.range,run_underlying hT,MapKept.run_getObj_map hb],hw.alloc (e:=eJ w.heap.size m es clk []) rfl rfl,_,rfl,rfl,rfl⟩
theorem SO.nextG (i:Nat)(hx:ev f x=some (pp r 0))(hi:s[i]?=some (eJ r m es clk vis))(hmm:∀ w,At E g s w→w.heap[m]?=some (.map es clk))(hst:Stamped es clk)(hv:Vis es vis) :
  SO P N E ⟨dst,.next x false,ty,pos,af,gd⟩ f g s fun u g' s'=>g=g' ∧
   ((u = .tuple #[.bool false]∧s=s'∧∀ e∈es.toList,e∈vis)∨∃ e,e∈es.toList∧e.born ∉ vis.map (·.born)∧u = .tuple #[.bool true,e.key,e.val]∧s'=s.set i (eJ r m es clk<|vis++[e])) :=
 SO.of_run fun a w ha hw=>by
  have hit:=hw.own _<|zg2 hi;have hb:=hmm w hw;have hr:w.heap[r]?=some (.mapIter (some m) clk (vis.map (·.born)).toArray clk):=by simpa [eJ] using hit
  have hget:(getObj r).run P w = .ok (.mapIter (some m) clk (vis.map (·.born)).toArray clk) w:=by simp[getObj,Sem.run,hr]
  have hold:∀ e∈es.toList,e.born<clk:=hst.1;have hall:(es.all (·.born≥clk))=true→es = #[]:=fun h=>by
   rw[Array.all_eq_true_iff_forall_mem] at h;apply Array.eq_empty_of_size_eq_zero;cases hsz:es.size with
   | zero=>rfl
   | succ q =>
    exfalso;have h0:0<es.size:=oM;have h1:=h es[0] (Array.getElem_mem h0);have h2:=hold es[0] (by simp);simp at h1;omega
  have hfl:(es.filter fun e=>!(vis.map (·.born)).toArray.contains e.born).filter (·.born<clk)=es.filter fun e=>!(vis.map (·.born)).toArray.contains e.born:=by
   apply Array.ext';simp only[Array.toList_filter];rw[List.filter_eq_self];intro e he;have:=hold e (zh4.1 he).1;simpa using this
  have hfn:(es.filter fun e=>!(vis.map (·.born)).toArray.contains e.born).filter (·.born≥clk) = #[]:=by
   apply Array.ext';simp only[Array.toList_filter];rw[List.filter_eq_nil_iff];intro e he;have:=hold e (zh4.1 he).1;simp; omega
  generalize hL:es.filter (fun e=>!(vis.map (·.born)).toArray.contains e.born)=left at hfl hfn;have hmem:∀ e,e∈left.toList↔e∈es.toList∧e.born ∉ vis.map (·.born):=fun e=>by
   rw[← hL];simp
  have hguard:(!(vis.map (·.born)).toArray.isEmpty && !es.isEmpty&&es.all (·.born≥clk))=false:=by
   cases h1:es.all (·.born≥clk) with
   | false=>simp
   | true=>rw[hall h1]; simp
  have hfresh:=hw.fresh _ (zg2 hi) r rfl;by_cases hempty:left = #[]
  ·-- none is left
   refine⟨.tuple #[.bool false],w,g,s,?_,hw,I,.inl ⟨I,I,fun e he=>?_⟩⟩
   ·simp only[execOp,ha.ev hx,Instr.next,Sem.run_bind,hget,zd1,MapKept.run_getObj_map hb,hguard,Bool.false_eq_true,if_false,Sem.run_pure,hL,hfl,hfn,hempty];simp[choose,Sem.run,Question.forced]
   ·by_cases hin:e.born∈vis.map (·.born)
    ·obtain ⟨e',he',heq⟩:=zf2.1 hin;rw[← ne hst (hv.sub e' he') he heq];exact he'
    ·have:=(hmem e).2 ⟨he,hin⟩;rw[hempty] at this;simp at this
  ·have hsz:0<left.size:=by
    rcases Nat.eq_zero_or_pos left.size with h | h
    ·exact absurd (Array.eq_empty_of_size_eq_zero h) hempty
    ·exact h
   have hcand:((if left.isEmpty then #[none] else #[])++(left ++ #[]).map some:Array (Option MapEntry))=left.map some:=by
    have:left.isEmpty=false:=by simpa using hempty
    simp[this]
   -- the entry that is drawn
   have hch:∃ (q:Nat) (w':World),(choose<|.mapNext left.size).run P w = .ok q w'∧q<left.size∧∃ n,w.drawn≤n∧w'={ w with drawn:=n }:=by
    by_cases h1:left.size≤1
    ·exact⟨0,w,by simp[choose,Sem.run,Question.forced,h1],hsz,w.drawn,lR _,I⟩
    ·exact⟨_,_,by simp[choose,Sem.run,Question.forced,h1,Question.cut]; rfl,Nat.mod_lt _ hsz,w.drawn+1,Nat.le_succ _,rfl⟩
   obtain ⟨q,w',hq1,hq2,n,hq0,hq3⟩:=hch;have hr':w'.heap[r]?=some (.mapIter (some m) clk (vis.map (·.born)).toArray clk):=by rw[hq3]; exact hr
   have hset:(setObj r (.mapIter (some m) clk ((vis.map (·.born)).toArray.push left[q].born) clk)).run P w' = .ok () { w' with heap:=w'.heap.setIfInBounds r (.mapIter (some m) clk ((vis.map (·.born)).toArray.push left[q].born) clk) }:=by
    simp[setObj,Sem.run,hr']
   have hin:left[q]∈left.toList:=by simp
   refine⟨.tuple #[.bool true,left[q].key,left[q].val],{ w' with heap:=w'.heap.setIfInBounds r (.mapIter (some m) clk ((vis.map (·.born)).toArray.push left[q].born) clk) },g,s.set i<|eJ r m es clk<|vis++[left[q]],?_,?_,I,.inr ⟨left[q],((hmem _).1 hin).1,((hmem _).1 hin).2,I,I⟩⟩
   ·simp only[execOp,ha.ev hx,Instr.next,Sem.run_bind,hget,zd1,MapKept.run_getObj_map hb,hguard,Bool.false_eq_true,if_false,Sem.run_pure,hL,hfl,hfn];rw[hcand];simp only[Array.size_map,hq1,zd1];have hg2:(left.map some)[q]?=some (some left[q]):=by simp[hq2]
    simp only[hg2,Sem.run_bind,hset,zd1,Sem.run_pure]
   ·have hw2:At E g s w':=by rw[hq3]; exact hw.drew n hq0
    have hlt:r<w'.heap.size:=by rw[hq3]; exact hfresh.2
    refine hw2.turn hi I ⟨I,(by exact lR _)⟩ I (by simp) (fun k _ hk=>by simp only[Array.getElem?_setIfInBounds_ne (fun e=>hk (by simp[eJ,e]):r≠k)]) ?_ (fun b' hb'=>?_)
    ·simp[eJ,hlt]
    ·simp only[eJ,zg7] at hb';subst hb';exact⟨by simpa using hlt,.inl I⟩
theorem SQ.entryG {e:MapEntry}(i:Nat)(hx:ev f x=some (pp r 0))(hi:s[i]?=some (eJ r m es clk<|vis++[e]))(hmm:∀ w,At E g s w→w.heap[m]?=some (.map es clk))(hst:Stamped es clk)(he:e∈es.toList) :
  SQ P N E ⟨dst,.entry x,ty,pos,af,gd⟩ f g s (.tuple #[e.key,e.val]):=fun a w ha hw=>by
 have hit:=hw.own _<|zg2 hi;have hb:=hmm w hw;have hr:w.heap[r]?=some (.mapIter (some m) clk ((vis++[e]).map (·.born)).toArray clk):=by simpa [eJ] using hit
 have hget:(getObj r).run P w = .ok (.mapIter (some m) clk ((vis++[e]).map (·.born)).toArray clk) w:=by simp[getObj,Sem.run,hr]
 have hback:((vis++[e]).map (·.born)).toArray.back?=some e.born:=by simp
 have hfind:es.find? (·.born == e.born)=some e:=by
  rw[← Array.find?_toList];have h1:(es.toList.find? (·.born == e.born)).isSome:=by
   rw[List.find?_isSome];exact⟨e,he,by simp⟩
  obtain ⟨e',he'⟩:=zh8.1 h1;have h2:=List.find?_some he';have h3:=zk7 he';rw[he',ne hst h3 he (by simpa using h2)]
 simp[execOp,ha.ev hx,Instr.entry,hget,MapKept.run_getObj_map hb,hfind]
theorem SO.nextPG (i:Nat)(hx:ev f x=some (pp r 0))(hi:s[i]?=some (eJ r m es clk vis))(hmm:∀ w,At E g s w→w.heap[m]?=some (.map es clk))(hI:jf l es clk)(hv:kL l es vis vl) :
  SO P N E ⟨dst,.next x false,ty,pos,af,gd⟩ f g s fun u g' s'=>g=g' ∧
   ((u = .tuple #[.bool false]∧s=s'∧vl.Perm l)∨∃ e p,e∈es.toList∧p∈l∧e.key=vi p.1∧e.val=p.2∧kL l es (vis++[e]) (vl++[p])∧u = .tuple #[.bool true,vi p.1,p.2]∧s'=s.set i (eJ r m es clk<|vis++[e])):=by
 refine SO.mono (SO.nextG i hx hi hmm hI.2 hv.ok) ?_;rintro u g' s' ⟨rfl,h⟩;refine⟨I,?_⟩
 rcases h with ⟨h1,h2,h3⟩ | ⟨e,h1,h2,h3,h4⟩
 ·exact .inl ⟨h1,h2,hv.all hI h3⟩
 ·have hp:ju e∈l.map er:=by rw[← hI.1]; exact zf2.2 ⟨e,h1,I⟩
  obtain ⟨p,hp1,hp2⟩:=zf2.1 hp;simp only[ju,er,Prod.mk.injEq] at hp2;refine .inr ⟨e,p,h1,hp1,hp2.1.symm,hp2.2.symm,⟨⟨?_,?_⟩,?_⟩,by rw[h3,hp2.1,hp2.2],h4⟩
  ·intro a ha
   rcases zf3.1 ha with h5 | h5
   ·exact hv.ok.sub a h5
   ·simp at h5; rw[h5]; exact h1
  ·rw[zg5,List.nodup_append];refine⟨hv.ok.nodup,by simp,fun a ha b hb hab=>?_⟩;simp at hb;rw[hab,hb] at ha;exact h2 ha
  ·rw[zg5,zg5,hv.eq];simp[ju,er,hp2.1,hp2.2]
theorem SQ.entryPG {e:MapEntry}{p:Int×Value}(i:Nat)(hx:ev f x=some (pp r 0))(hi:s[i]?=some (eJ r m es clk<|vis++[e]))(hmm:∀ w,At E g s w→w.heap[m]?=some (.map es clk))(hI:jf l es clk)(he:e∈es.toList)(hk:e.key=vi p.1)(hv:e.val=p.2) :
  SQ P N E ⟨dst,.entry x,ty,pos,af,gd⟩ f g s (.tuple #[vi p.1,p.2]):=by
 have:=SQ.entryG (P:=P) (N:=N) (E:=E) (f:=f) (s:=s) (dst:=dst) (ty:=ty) (pos:=pos) (af:=af) (gd:=gd) i hx hi hmm hI.2 he;rw[hk,hv] at this;exact this
def Ba (k:Int)(v:Value)(p:Int×Value):Int×Value:=if p.1=k then (k,v) else p
def unK:Value→Option Int
 | .int .i64 n=>some n
 | _=>none
theorem D5 (a:Int):unK (vi a)=some a:=rfl
theorem D6 {x:Value}{k:Int}(h:unK x=some k):x=vi k:=by
 unfold unK at h;split at h
 ·injection h with h
  rw[h]
 ·cases h
def oW (k:Int)(v:Value)(e:MapEntry):MapEntry:=if unK e.key=some k then { e with key:=vi k,val:=v } else e
theorem sz (k:Int)(v:Value)(e:MapEntry):(oW k v e).born=e.born:=by unfold oW; split <;> rfl
theorem nv (k:Int)(v:Value):∀ (vis:List MapEntry) (vl:List (Int×Value)),vis.map ju=vl.map er→(vis.map<|oW k v).map ju=(vl.map<|Ba k v).map er
 | [],[],_=>rfl
 | e::vis,(a,u)::vl,h=>by
  simp only[zg4,List.cons.injEq,ju,er,Prod.mk.injEq] at h;obtain ⟨⟨h1,h2⟩,h3⟩:=h;have ih:=nv k v vis vl h3;simp only[zg4,List.cons.injEq];refine⟨?_,ih⟩;unfold oW Ba;by_cases hk:a=k
  ·subst hk;rw[zg1 (by rw[h1]; rfl),zg1 rfl];rfl
  ·have h4:¬ unK e.key=some k:=fun h5=>by
    rw[h1,D5] at h5;injection h5 with h6
    exact hk h6
   rw[zf9 h4,zf9 hk];simp[ju,er,h1,h2]
 | [],_::_,h=>by simp at h
 | _::_,[],h=>by simp at h
theorem SO.mapUpdateX (j:Nat)(hT:MTy P t kt et z)(hx:ev f x=some (.map<|some b))(hy:ev f y=some (vi k))(hu:ev f u=some v)(hj:s[j]?=some (mx b es clk))(hI:jf l es clk)(hk:∃ u,dF l k=some u) :
  SO P N E ⟨dst,.mapUpdate t x y u,ty,pos,af,gd⟩ f g s fun _ g' s'=>g=g'∧∃ es',s'=s.set j (mx b es' clk)∧jf (dS l k v) es' clk∧∀ vis vl,kL l es vis vl→kL (dS l k v) es' (vis.map<|oW k v) (vl.map<|Ba k v) :=
 SO.of_skip fun a w ha hw=>by
  have hb:w.heap[b]?=some (.map es clk):=A7 j hj w hw;have hf:=gh k es.toList l 0 hI.1;have h1:=MapKept.run_findKey (w:=w) hT.key hf;have h2:=MapKept.run_checkKey (P:=P) (w:=w) hT.key (k:=vi k) rfl false 9999;have hlen:es.toList.length=l.length:=by have:=ze2 List.length hI.1; simpa using this
  rcases nd k l 0 with ⟨hn,hne⟩ | ⟨q,u0,hs,hq,hput⟩
  ·obtain ⟨u1,hu1⟩:=hk;unfold dF at hu1;rw[hn] at hu1;cases hu1
  ·have hql:q<es.toList.length:=by rw[hlen]; exact (zf5.1 hq).1
   have hqs:q<es.size:=by simpa using hql
   have hkey:(es.toList[q]).key=vi k:=by
    have h3:=ze2 (·[q]?) hI.1;simp only[zh9,hq,Option.map_some,gE hql,zg7,ju,er,Prod.mk.injEq] at h3;exact h3.1
   have hje:es[q]?=some es.toList[q]:=by simp at hql; simp[hql]
   have huniq:∀ i (hi:i<es.size),es[i].key=vi k→i=q:=fun i hi he=>by
    have h5:(es.toList.map (·.key))[i]'(by simpa using hi)=(es.toList.map (·.key))[q]'(by simpa using hqs):=by
     rw[List.getElem_map,List.getElem_map,hkey];simpa using he
    exact (List.getElem_inj hI.2.2.2).1 h5
   have hmod:(es.modify q fun e=>{ e with key:=vi k,val:=v })=es.map (oW k v):=by
    apply Array.ext (by simp);intro i hi1 hi2;have hi:i<es.size:=by simpa using hi1
    rw[Array.getElem_modify,Array.getElem_map];unfold oW;by_cases e:q=i
    ·subst e;have h6:es[q].key=vi k:=by simpa using hkey
     rw[zg1 rfl,zg1 (by rw[h6]; rfl)]
    ·rw[zf9 e,zf9 (fun h=>e (huniq i hi<|D6 h).symm)]
   rw[hs,Nat.zero_add] at h1;have hfr:=hw.fresh _ (zg2 hj) b rfl;obtain ⟨e1,e2⟩:=MapKept.heap_set (o':=.map (es.map<|oW k v) clk) hb;have h4:=MapKept.run_keyThatStays (P:=P) (w:=w) (d:=.int .i64) (k:=vi k) rfl;have hkey':∀ h:q<es.size,es[q].key=vi k:=fun h=>by simpa using hkey
   have hMI:jf (dS l k v) (es.map<|oW k v) clk:=by
    refine⟨?_,?_⟩
    ·rw[Array.toList_map,nv k v _ _ hI.1,hput v];congr 1;apply List.ext_getElem (by simp);intro i h5 h6;have h7:i<l.length:=by simpa using h5
     have h8:i<es.size:=by
      have:es.toList.length=es.size:=by simp
      omega
     have h9:es[i].key=vi l[i].1:=by
      have h3:=ze2 (·[i]?) hI.1;simp only[zh9,gE h7,gE (show i<es.toList.length by omega),Option.map_some,zg7,ju,er,Prod.mk.injEq] at h3;simpa using h3.1
     rw[List.getElem_map,List.getElem_set];unfold Ba;by_cases e:q=i
     ·subst e;have h10:l[q]=(k,u0):=(zf5.1 hq).2;rw[zg1 rfl,zg1 (by rw[h10])]
     ·rw[zf9 e,zf9 (fun h=>e (huniq i h8<|by rw[h9,h]).symm)]
    ·rw[← hmod];exact stamped_modify hI.2 _ _ (fun _ _=>I) (fun e' _ he'=>by
      rw[hje] at he';injection he' with he'
      rw[← he',hkey])
   refine⟨{ w with heap:=w.heap.setIfInBounds b (.map (es.map<|oW k v) clk) },g,s.set j<|mx b (es.map<|oW k v) clk,?_,?_,I,es.map<|oW k v,I,hMI,fun vis vl hv=>?_⟩
   ·have hr:(Instr.mapUpdate t (.map<|some b) (vi k) v).run P w = .ok () { w with heap:=w.heap.setIfInBounds b (.map (es.map<|oW k v) clk) }:=by
     rw[← hmod];simp[Instr.mapUpdate,run_underlying hT.und,MapKept.run_getObj_map hb,h2,h1,hje,hkey',h4,MapKept.run_setObj_map _ hb]
    simp[execOp,ha.ev hx,ha.ev hy,ha.ev hu,hr]
   ·refine hw.turn hj I ⟨I,lR _⟩ I (by simp) (fun q _ hne=>e2 q<|fun e=>hne<|by simp[mx,pt,e]) (by simpa [mx,pt] using e1) (fun b' hb'=>?_);simp only[mx,pt,zg7] at hb';subst hb';exact⟨by simpa using hfr.2,.inl I⟩
   ·refine⟨⟨fun e he=>?_,?_⟩,nv k v _ _ hv.eq⟩
    ·obtain ⟨e0,he0,rfl⟩:=zf2.1 he;rw[Array.toList_map];exact zf2.2 ⟨e0,hv.ok.sub e0 he0,I⟩
    ·rw[zi4,show (fun e:MapEntry=>e.born) ∘ oW k v=fun e=>e.born from funext fun e=>sz k v e];exact hv.ok.nodup
end
end Go.Sy
namespace Go.Proofs.YtmmghffoakhheaaGreatDoor
open _root_.Go.Proofs.Tryz _root_.Go.Proofs.YtmmghffoakhheaaGreatDoor.Tryz
open Go Go.Sy Go.Pl Go.Proofs
def DR (x y:Side):Bool:=decide (¬ rJ y x<0)
def iz (l:List Side):List Side:=l.mergeSort DR
theorem fy (l:List Side):(iz l).Perm l:=List.mergeSort_perm l DR
theorem qU (l:List Side):CT (iz l):=by
 have h:=List.pairwise_mergeSort (le:=DR) (fun a b c h1 h2=>by
  unfold DR at *;rw[zj6,gr] at *;omega) (fun a b=>by
  unfold DR;rw[zj4,zj6,zj6,gr,gr];omega) l
 refine List.Pairwise.imp ?_ h;intro a b h1;exact zg3 h1
theorem ul {l m:List Side}(hp:m.Perm l)(ha:CT m):m=iz l:=qJ ha (qU l) (hp.trans (fy l).symm)
def ij (F:Cl→Cl)(A:List Cl)(ids:List Int):List Cl:=A.map fun y=>if y.id∈ids then F y else y
section
variable {F:Cl→Cl}(hF:∀ y,(F y).id=y.id)
include hF
theorem ta {ids:List Int}{id:Int}(hid:id ∉ ids){y:Cl}:∀ {A:List Cl},(A.map Cl.id).Nodup→ao A id=some y→dK (ij F A ids) (F y)=ij F A (ids++[id])
 | [],_,hy=>by cases hy
 | c::A,hn,hy=>by
  rw[zg4,zk3] at hn;unfold ao at hy;rw[zi5] at hy;have hs:∀ i,ij F (c::A) i=(if c.id∈i then F c else c)::ij F A i:=fun _=>rfl;rw[hs,hs];by_cases h:c.id=id
  ·rw[zf8 h] at hy;injection hy with hy
   subst hy;subst h;rw[zf9 hid,zg1 (by simp)];have e1:dK (c::ij F A ids) (F c)=F c::ij F A ids:=by simp[dK,hF]
   rw[e1];congr 1;unfold ij;refine zc8 fun x hx=>?_;have hne:x.id≠c.id:=fun he=>hn.1 (by rw[← he]; exact zf2.2 ⟨x,hx,I⟩);by_cases h1:x.id∈ids
   ·rw[zg1 h1,zg1 (by simp[h1])]
   ·rw[zf9 h1,zf9 (by simp[h1,hne])]
  ·rw[zf7 h] at hy;have hyid:y.id=id:=by simpa using List.find?_some hy
   have ih:=ta hid hn.2 hy;have h1:(if c.id∈ids then F c else c).id=c.id:=by split <;> simp[hF]
   have e1:∀ (d:Cl) (L:List Cl),d.id=c.id→dK (d::L) (F y)=d::dK L (F y):=fun d L hd=>by
    have:¬ (F y).id=d.id:=by rw[hd,hF,hyid]; exact fun h'=>h h'.symm
    simp[dK,this]
   rw[e1 _ _ h1,ih];congr 1;by_cases h2:c.id∈ids
   ·rw[zg1 h2,zg1 (by simp[h2])]
   ·rw[zf9 h2,zf9 (by simp[h2,h])]
end
theorem Ah (F:Cl→Cl)(A:List Cl):ij F A []=A:=by simp[ij]
theorem Ak {F:Cl→Cl}{A:List Cl}{ids:List Int}(h:∀ c∈A,c.id∈ids):ij F A ids=A.map F:=zc8 fun c hc=>by rw[zg1<|h c hc]
theorem Ai {F:Cl→Cl}{A:List Cl}{ids:List Int}{c:Cl}(hF:∀ y,(F y).id=y.id)(h:c∈ij F A ids)(hc:c.id ∉ ids):c∈A:=by
 unfold ij at h;obtain ⟨y,hy,he⟩:=zf2.1 h;split at he
 ·rename_i h1;rw[← he,hF] at hc;exact absurd h1 hc
 ·rw[← he];exact hy
theorem Aj {F:Cl→Cl}(hF:∀ y,(F y).id=y.id)(A:List Cl)(ids:List Int):(ij F A ids).map Cl.id=A.map Cl.id:=by
 unfold ij;rw[zi4];refine zc8 fun c _=>?_;simp only[Function.comp];split
 ·exact hF c
 ·rfl
def gP (ps:List Pr):List Int:=ps.flatMap fun p=>[p.1,p.2]
theorem nS (ps:List Pr)(p:Pr):gP (ps++[p])=gP ps++[p.1,p.2]:=by
 unfold gP;rw[List.flatMap_append];rfl
def mf (ps:List Pr):Bool:=decide (¬ (gP ps).Nodup)
theorem AK (ps:List Pr)(p:Pr):mf (ps++[p])=(mf ps||decide (p.1∈gP ps)||decide (p.2∈gP ps)||decide (p.1=p.2)):=by
 unfold mf;rw[nS,Bool.eq_iff_iff];simp only[zj4,zj6];have h:(gP ps++[p.1,p.2]).Nodup↔(gP ps).Nodup∧p.1 ∉ gP ps∧p.2 ∉ gP ps∧p.1≠p.2:=by
  rw[List.nodup_append];simp only[zk3,zh7,List.not_mem_nil,not_false_eq_true,List.nodup_nil,and_true,zf1,or_false];constructor
  ·rintro ⟨h1,h2,h3⟩;exact⟨h1,fun hm=>h3 _ hm _ (.inl I) I,fun hm=>h3 _ hm _ (.inr I) I,h2⟩
  ·rintro ⟨h1,h2,h3,h4⟩;refine⟨h1,h4,fun a ha b hb=>?_⟩
   rcases hb with rfl | rfl
   ·exact fun e=>h2<|e ▸ ha
   ·exact fun e=>h3<|e ▸ ha
 rw[h];by_cases h1:(gP ps).Nodup <;> by_cases h2:p.1∈gP ps <;> by_cases h3:p.2∈gP ps <;> by_cases h4:p.1=p.2 <;> simp[h1,h2,h3,h4]
def swP (p:Pr):Int×Value:=(p.2,vi p.1)
def byF (ps:List Pr)(k:Int):Option Int:=(ps.find? fun p=>decide (p.2=k)).map Prod.fst
theorem xm {ps:List Pr}{p:Pr}(h:p.2 ∉ gP ps):∀ q∈ps.map swP,q.1≠p.2:=fun q hq e=>by
 obtain ⟨r,hr,rfl⟩:=zf2.1 hq;refine h ?_;unfold gP;rw[List.mem_flatMap];refine⟨r,hr,?_⟩;have e2:r.2=p.2:=e;simp[e2]
theorem ux (ps:List Pr)(k:Int):dF (ps.map swP) k=(byF ps k).map vi:=by
 induction ps with
 | nil=>rfl
 | cons p ps ih =>
  unfold byF;rw[zg4,zi5];have hc:swP p=(p.2,vi p.1):=rfl;rw[hc,cB];by_cases h:k=p.2
  ·rw[zg1 h,zf8 h.symm];rfl
  ·rw[zf9 h,zf7 (fun e=>h e.symm),ih];rfl
theorem lk {ps:List Pr}(h:(gP ps).Nodup):(ps.map Prod.snd).Nodup:=by
 induction ps with
 | nil=>simp
 | cons p ps ih =>
  have hc:gP (p::ps)=p.1::p.2::gP ps:=rfl;rw[hc,zk3,zk3] at h;rw[zg4,zk3];refine⟨fun hm=>h.2.1 ?_,ih h.2.2⟩;obtain ⟨q,hq,e⟩:=zf2.1 hm;unfold gP;rw[List.mem_flatMap];exact⟨q,hq,by simp[e]⟩
theorem nB {l:List (Int×Value)}{es:Array MapEntry}{clk:Nat}{vis:List MapEntry}{vl:List (Int×Value)}(h:kL l es vis vl)(hm:jf l es clk):(vl.map Prod.fst).Nodup:=by
 have h1:(vis.map (·.key)).Nodup:=by
  rw[List.Nodup,zk5];have h2:vis.Pairwise fun a b=>a.born≠b.born:=by
   have:=h.ok.nodup;rwa [List.Nodup,zk5] at this
  refine List.Pairwise.imp_of_mem ?_ h2;intro a b ha hb hab he;have hk:=hm.2.2.2;obtain ⟨i,hi,rfl⟩:=zc7<|h.ok.sub a ha;obtain ⟨j,hj,rfl⟩:=zc7<|h.ok.sub b hb;have h3:(es.toList.map (·.key))[i]'(by simpa using hi)=(es.toList.map (·.key))[j]'(by simpa using hj):=by rw[List.getElem_map,List.getElem_map]; exact he
  have h4:=(List.getElem_inj hk).1 h3;subst h4;exact hab I
 have h2:vis.map (·.key)=(vl.map Prod.fst).map vi:=by
  have h3:=ze2 (List.map Prod.fst) h.eq;rw[zi4,zi4] at h3;rw[zi4];exact h3
 rw[h2] at h1;exact List.Pairwise.of_map vi (fun a b hab hne=>hab<|by rw[hne]) h1
def Be (f:Int→Option Int)(c:Cl):Cl:=⟨c.id,c.dim,iz<|c.sides.map<|dQ f⟩
def e8 (A:List Cl)(id:Int):Int:=((ao A id).getD bg).dim
def sf (A:List Cl)(id:Int):List Side:=((ao A id).getD bg).sides
def iL (A:List Cl)(ps:List Pr)(p:Pr):Bool:=decide (iz ((sf A p.1).map<|dQ<|byF ps)=iz ((sf A p.2).map<|dQ<|byF ps))
def dz (A:List Cl)(e:Ed):Int :=
 if e.pairs.all (fun p=>(ao A p.1).isSome&&(ao A p.2).isSome) then
  if mf e.pairs then 54 else if e.pairs.any (fun p=>decide (e8 A p.1≠e8 A p.2)) then 21 else if e.pairs.all (iL A e.pairs) then 0 else 33
 else 30
def gC (A:List Cl)(ks:List Int):List Cl:=A.filter fun c=>!decide (c.id∈ks)
def el (A:List Cl)(e:Ed):List Cl:=(gC A<|e.pairs.map Prod.snd).map (Be<|byF e.pairs)
def i6 (e:Ed)(k:Int):List Tm:=match byF e.pairs k with
 | some t=>[(t,1)]
 | none=>[(k,1)]
theorem k7 {A:List Cl}(hn:(A.map Cl.id).Nodup)(ks:List Int)(k:Int):nj (gC A ks) k=gC A (ks++[k]):=by
 have h1:((gC A ks).map Cl.id).Nodup:=(List.filter_sublist.map Cl.id).nodup hn;rw[oD k h1];unfold gC;rw[List.filter_filter];refine List.filter_congr fun c _=>?_;by_cases h2:c.id∈ks <;> by_cases h3:c.id=k <;> simp[h2,h3]
set_option maxRecDepth 100000
set_option maxHeartbeats 8000000
theorem BW (r m:Nat)(es es':Array MapEntry)(clk:Nat)(vis:List MapEntry)(k:Int)(v:Value):eJ r m es clk (vis.map<|oW k v)=eJ r m es' clk vis:=by
 unfold eJ;rw[zi4,show (fun e:MapEntry=>e.born) ∘ oW k v=fun e=>e.born from funext fun e=>sz k v e]
theorem zu (k:Int)(v:Value)(vl:List (Int×Value)):(vl.map<|Ba k v).map Prod.fst=vl.map Prod.fst:=by
 rw[zi4];refine zc8 fun p _=>?_;simp only[Function.comp];unfold Ba;split
 ·rename_i h;exact h.symm
 ·rfl
theorem Dr (x:Ent)(L R s:Own):(x::(L++(R++s))).Perm (L++((R++[x])++s)):=by
 have h:=(zk2 (a:=x) (l₁:=L++R) (l₂:=s)).symm;simpa [zg8] using h
theorem Df {sl:List (Int×Value)}{L:List Int}(h:pE sl fun k=>decide (k∈L))(a b:Int):pE (dS (dS sl a<|vb true) b<|vb true) fun k=>decide (k∈L++[a,b]):=((h.put a).put b).congr fun k=>by
 by_cases h1:k=a <;> by_cases h2:k=b <;> by_cases h3:k∈L <;> simp[h1,h2,h3]
theorem Eu {ps:List Pr}(h:(ps.map Prod.snd).Nodup){q:Pr}(hq:q∈ps):byF ps q.2=some q.1:=by
 unfold byF;induction ps with
 | nil=>simp at hq
 | cons p ps ih =>
  rw[zg4,zk3] at h;rw[zi5]
  rcases zf1.1 hq with rfl | hq
  ·simp
  ·have hne:¬ p.2=q.2:=fun e=>h.1 (by rw[e]; exact zf2.2 ⟨q,hq,I⟩);rw[zf7 hne];exact ih h.2 hq
theorem Ck {ps:List Pr}{k:Int}(h:k ∉ ps.map Prod.snd):byF ps k=none:=by
 unfold byF;rw[List.find?_eq_none.2 fun p hp=>by
  have:p.2≠k:=fun e=>h (by rw[← e]; exact zf2.2 ⟨p,hp,I⟩);simpa using this]
 rfl
theorem As {e:Ed}{ts:Ts}(hk:∀ k,k∈ts.map Prod.fst↔k∈e.pairs.map Prod.snd)(hn:(e.pairs.map Prod.snd).Nodup)(ht:∀ t∈ts,∃ q∈e.pairs,q.2=t.1∧t.2.2=[(q.1,1)])(k:Int):sw ts k=i6 e k:=by
 unfold sw i6;cases hf:ts.find? fun t=>decide (t.1=k) with
 | some t =>
  have h1:=zk7 hf;have h2:t.1=k:=by simpa using List.find?_some hf
  obtain ⟨q,hq,h3,h4⟩:=ht t h1;have h5:=Eu hn hq;rw[h3,h2] at h5;rw[h5];dsimp only;rw[h4];rfl
 | none =>
  have h1:k ∉ ts.map Prod.fst:=fun hm=>by
   obtain ⟨t,ht1,ht2⟩:=zf2.1 hm;have:=List.find?_eq_none.1 hf t ht1;simp[ht2] at this
  rw[Ck (fun hm=>h1<|(hk k).2 hm)]
theorem z6 (ts:Ts)(t:Int×Value×List Tm):gD (ts++[t])=gD ts++[(t.1,t.2.1)]:=by unfold gD; rw[zg5]; rfl
theorem xq (ts:Ts)(t:Int×Value×List Tm):db (ts++[t])=db ts++[rowA dw 156 t.2.1 t.2.2]:=by unfold db; rw[zg5]; rfl
theorem z7 (ts:Ts):(gD ts).map Prod.fst=ts.map Prod.fst:=by unfold gD; rw[zi4]; rfl
theorem Dp (rs:List Rc):(rs.map am).map Prod.fst=rs.map Rc.id:=by rw[zi4]; rfl
theorem rW (E:World)(g:PH)(s:Own)(bx mb ms:Nat)(u v:Value)(e:Ed)(A:List Cl)(rs:List Rc)(hf:a8 A)(hn:(A.map Cl.id).Nodup)(hall:az (ay g) A rs)(he:EdR g v e)(hpl:e.pairs.length<1099511627776) :
  Ctr Tryz.prog E 108 #[pp bx 0,v] g (edP bx u mb ms false::mp mb (rs.map am)::mp ms []::s) (fun r g' s'=>Le g g'∧r=vi (dz A e) ∧
   (if dz A e=0 then ∃ rs' ts,az (ay g') (el A e) rs'∧A4 ts∧(ts.map Prod.fst).Nodup∧(∀ k,sw ts k=i6 e k)∧s'=edP bx u mb ms false::mp mb (rs'.map am)::mp ms (gD ts)::(db ts++s) else ∃ h,s'=h++s)):=by
 obtain ⟨sv,pv,rfl,hsv,hpv⟩:=he;have hsvf:=za3 hsv;have hpvf:=za3 hpv;obtain ⟨sp,sc,rfl⟩:=hsvf;obtain ⟨qp,qc,rfl⟩:=hpvf;have hfnd:∀ {gg:PH} {id:Int},az (ay gg) A rs→(ao A id).isSome=true→∃ cc rr,ao A id=some cc∧cc∈A∧dF (rs.map am) id=some (rcv rr)∧ay gg cc rr:=fun {gg id} hal h=>by
  rcases gj (fun _ _ h=>h.1) hal id with ⟨h1,_⟩ | ⟨cc,rr,h1,h2,h3⟩
  ·unfold ao at h; rw[h1] at h; cases h
  ·exact⟨cc,rr,h1,zk7 h1,h2,h3⟩
 refine zb1 (args:=[pp bx 0,.agg #[vi e.kind,vi e.cell,vi e.dim,vi e.new,vi e.other,.slice sp e.sides.length sc,.slice qp e.pairs.length qc]]) func108 I ntmps108 (bE I)<|rZ (bW (bO I) fun b3=>?_);refine aT I<|rZ<|lW (SO.mkMap) ?_;rintro _ _ _ ⟨b17,rfl,rfl,rfl⟩;refine lW (SO.mkMap) ?_;rintro _ _ _ ⟨b18,rfl,rfl,rfl⟩;refine lA I<|aT I<|rZ<|lA I<|aT I<|sQ<|rZ<|lU (fA aJ I iW I)<|lK (qL (v:=.slice qp e.pairs.length qc) jr I<|cO 2 I I)<|lU (eN cC I)<|lM I<|tZ<|bK<|SC.loop (ι:=Nat×List (Int×Value)×List (Int×Value)) (fun i=>[(0,pp bx 0),(3,pp b3 0),(5,.map<|some b17),(6,.map<|some b18),(7,vb<|mf<|e.pairs.take i.1),(8,vb<|(e.pairs.take i.1).any fun p=>decide (e8 A p.1≠e8 A p.2)),(20,.slice qp e.pairs.length qc),(21,vi e.pairs.length),(22,vi i.1)]) (fun _=>g)
  (fun i=>mp b18 i.2.1::mp b17 i.2.2::pt b3 (.cells (edV e (.slice sp e.sides.length sc)<|.slice qp e.pairs.length qc) 39 (0,0))::edP bx u mb ms false::mp mb (rs.map am)::mp ms []::s)
  (fun i=>i.1≤e.pairs.length∧pE i.2.1 (fun k=>decide (k∈gP (e.pairs.take i.1)))∧(mf (e.pairs.take i.1)=false→i.2.2=(e.pairs.take i.1).map swP)∧(∀ p∈e.pairs.take i.1,(ao A p.1).isSome=true∧(ao A p.2).isSome=true)) (fun i=>e.pairs.length - i.1) (0,[],[])
  ⟨rfl,rfl,rfl,rfl,(by rw[List.take_zero]; rfl),rfl,rfl,rfl,rfl,trivial⟩ rfl rfl ⟨zf6 _,pE.nil.congr (fun k=>by simp[gP]),fun _=>rfl,fun p hp=>by simp at hp⟩ ?_
 rintro ⟨k,sl,bl⟩ ⟨hk,hsl,hbl,hfd⟩;dsimp only at hk hsl hbl hfd ⊢;refine rZ<|yL I<|tZ<|sQ<|iP I (fun hlt=>?_) (fun hlt=>?_)
 ·have hkl:k<e.pairs.length:=oM;have hb1:=za5 hpv oM;have hgk:e.pairs[((k:Nat):Int).toNat]?=some e.pairs[k]:=gE hkl;have htk:e.pairs.take (k+1)=e.pairs.take k++[e.pairs[k]]:=tS hkl;have hd1:=AK (e.pairs.take k) e.pairs[k];have hal1:=nS (e.pairs.take k) e.pairs[k];have hnew:=xm (ps:=e.pairs.take k) (p:=e.pairs[k]);have hany:(e.pairs.take<|k+1).any (fun p=>decide (e8 A p.1≠e8 A p.2))=((e.pairs.take k).any (fun p=>decide (e8 A p.1≠e8 A p.2))||decide (e8 A e.pairs[k].1≠e8 A e.pairs[k].2)):=by rw[htk,List.any_append]; simp
  have hnone:¬ ((ao A e.pairs[k].1).isSome=true∧(ao A e.pairs[k].2).isSome=true)→dz A e=30:=fun h=>by
   unfold dz;rw[zf9];intro h2;have h3:=zj9.1 h2 _<|gM hkl;rw[zj3] at h3;exact h h3
  rw[← htk] at hd1 hal1;generalize e.pairs[k]=x at *;obtain ⟨x1,x2⟩:=x;dsimp only at hd1 hal1 hany hnone hnew;cases hx1:(ao A x1).isSome with
  | false =>
   rw[hnone (by rw[hx1]; rintro ⟨h,_⟩; cases h)];refine kP (tN<|sQ<|bK<|rZ<|lU (iA cC bM I I hb1 oM sL)<|lK (eA kI bM I (za6 hpv) hgk)<|bW (aL zl5) fun b10=>?_);refine oZ (sK 0 bM I I I I I sB)<|tZ<|sQ<|sW I<|lU (iB cN zT3 I I dC dC)<|lK (qL (v:=vi x1) iT3 I<|cO 0 I I)<|lW (SO.call call135 I<|bJ E g _ bx mb ms _ false x1 _ (fun _ _ h=>h.1) A rs hall 4 5 I I) ?_;rintro _ _ _ ⟨rfl,rfl,rfl⟩;rw[hx1];exact lU (SU.not I)<|lM I<|yA I<|yA I<|yA I<|yA I<|yA I<|yP I<|tZ<|za1 I<|rZ<|aT I<|rE<|tR<|bR<|tR<|tR<|bR<|tR<|za7 (.inl I) results108 I ⟨zb8 _,I,by rw[zf9 dC]; exact⟨[_,_,_,_,_,_,_],I⟩⟩
  | true =>
  cases hx2:(ao A x2).isSome with
  | false =>
   rw[hnone (by rw[hx2]; rintro ⟨_,h⟩; cases h)];refine kP (tN<|sQ<|bK<|rZ<|lU (iA cC bM I I hb1 oM sL)<|lK (eA kI bM I (za6 hpv) hgk)<|bW (aL zl5) fun b10=>?_);refine oZ (sK 0 bM I I I I I sB)<|tZ<|sQ<|sW I<|lU (iB cN zT3 I I dC dC)<|lK (qL (v:=vi x1) iT3 I<|cO 0 I I)<|lW (SO.call call135 I<|bJ E g _ bx mb ms _ false x1 _ (fun _ _ h=>h.1) A rs hall 4 5 I I) ?_;rintro _ _ _ ⟨rfl,rfl,rfl⟩;rw[hx1];refine lU (SU.not I)<|lM I<|yC I<|lY I I I (iB cN zT3 I I dC dC)<|SL.gq (gT I I I dC) (qL (v:=vi x2) iT3 I<|cO 0 I I) dC<|ze1 (gT I I I dC) (SO.call call135 I<|bJ E g _ bx mb ms _ false x2 _ (fun _ _ h=>h.1) A rs hall 4 5 I I) dC ?_;rintro _ _ _ ⟨rfl,rfl,rfl⟩;rw[hx2];exact lY I I I (SU.not I)<|yF I<|tZ<|za1 I<|rZ<|aT I<|rE<|tR<|bR<|tR<|tR<|bR<|tR<|za7 (.inl I) results108 I ⟨zb8 _,I,by rw[zf9 dC]; exact⟨[_,_,_,_,_,_,_],I⟩⟩
  | true =>
  obtain ⟨c1,r1,hc1,hcm1,hg1,hr1⟩:=hfnd hall hx1;obtain ⟨c2,r2,hc2,hcm2,hg2,hr2⟩:=hfnd hall hx2;have hdm1:e8 A x1=c1.dim:=by unfold e8; rw[hc1]; rfl
  have hdm2:e8 A x2=c2.dim:=by unfold e8; rw[hc2]; rfl
  rw[hdm1,hdm2] at hany;obtain ⟨ri1,rd1,rp1,rn1,rk1⟩:=r1;obtain ⟨ri2,rd2,rp2,rn2,rk2⟩:=r2;obtain ⟨-,f1,-⟩:=hr1;obtain ⟨-,f2,-⟩:=hr2;dsimp only at f1 f2;subst f1 f2;refine kP (tN<|sQ<|bK<|rZ<|lU (iA cC bM I I hb1 oM sL)<|lK (eA kI bM I (za6 hpv) hgk)<|bW (aL zl5) fun b10=>?_);refine oZ (sK 0 bM I I I I I sB)<|tZ<|sQ<|sW I<|lU (iB cN zT3 I I dC dC)<|lK (qL (v:=vi x1) iT3 I<|cO 0 I I)<|lW (SO.call call135 I<|bJ E g _ bx mb ms _ false x1 _ (fun _ _ h=>h.1) A rs hall 4 5 I I) ?_;rintro _ _ _ ⟨rfl,rfl,rfl⟩;rw[hx1];refine lU (SU.not I)<|lM I<|yC I<|lY I I I (iB cN zT3 I I dC dC)<|SL.gq (gT I I I dC) (qL (v:=vi x2) iT3 I<|cO 0 I I) dC<|ze1 (gT I I I dC) (SO.call call135 I<|bJ E g _ bx mb ms _ false x2 _ (fun _ _ h=>h.1) A rs hall 4 5 I I) dC ?_;rintro _ _ _ ⟨rfl,rfl,rfl⟩;rw[hx2];refine lY I I I (SU.not I)<|yF I<|tZ<|cF I<|kP<|tN<|SC.cut (ι:=Unit) (fun _=>[(0,pp bx 0),(3,pp b3 0),(5,.map<|some b17),(6,.map<|some b18),(7,vb<|mf<|e.pairs.take<|k+1),(8,vb<|(e.pairs.take k).any fun p=>decide (e8 A p.1≠e8 A p.2)),(10,pp b10 0),(20,.slice qp e.pairs.length qc),(21,vi e.pairs.length),(22,vi k)]) (fun _=>g)
   (fun _=>pt b10 (.cells #[vi x1,vi x2] 44 (0,0))::mp b18 sl::mp b17 bl::pt b3 (.cells (edV e (.slice sp e.sides.length sc)<|.slice qp e.pairs.length qc) 39 (0,0))::edP bx u mb ms false::mp mb (rs.map am)::mp ms []::s) (fun _=>True) ?_ ?_
  ·rw[hd1];cases hd0:mf (e.pairs.take k) with
   | true =>
    exact rG<|lM I<|lM I<|yA I<|yA I<|yA I<|yA I<|yP I<|lM I<|yA I<|yA I<|yA I<|yA I<|yP I<|lM I<|yA I<|yA I<|yA I<|yA I<|yA I<|yP I<|lA I<|nL<|za8 () sB I I trivial
   | false =>
   by_cases hm1:x1∈gP (e.pairs.take k)
   ·exact rG<|lM I<|lM I<|yC I<|lY I I I (iB cN zT3 I I dC dC)<|SL.gq (gT I I I dC) (qL (v:=vi x1) iT3 I<|cO 0 I I) dC<|SL.gq (gT I I I dC) (SQ.eq (v':=vb true) (SQ.lookup mty71 I I<|bo.own 1 I)<|(hsl.get x1).trans<|ze2 vb<|zf8 hm1) dC<|yF I<|lM I<|yA I<|yA I<|yA I<|yA I<|yP I<|lM I<|yA I<|yA I<|yA I<|yA I<|yA I<|yP I<|lA I<|nL<|za8 () ⟨I,I,I,I,(by rw[zf8 hm1]; rfl),rfl,rfl,rfl,rfl,rfl,trivial⟩ rfl rfl trivial
   by_cases hm2:x2∈gP (e.pairs.take k)
   ·exact rG<|lM I<|lM I<|yC I<|lY I I I (iB cN zT3 I I dC dC)<|SL.gq (gT I I I dC) (qL (v:=vi x1) iT3 I<|cO 0 I I) dC<|SL.gq (gT I I I dC) (SQ.eq (v':=vb false) (SQ.lookup mty71 I I<|bo.own 1 I)<|(hsl.get x1).trans<|ze2 vb<|zf7 hm1) dC<|yF I<|lM I<|yC I<|lY I I I (iB cN zT3 I I dC dC)<|SL.gq (gT I I I dC) (qL (v:=vi x2) iT3 I<|cO 0 I I) dC<|SL.gq (gT I I I dC) (SQ.eq (v':=vb true) (SQ.lookup mty71 I I<|bo.own 1 I)<|(hsl.get x2).trans<|ze2 vb<|zf8 hm2) dC<|yF I<|lM I<|yA I<|yA I<|yA I<|yA I<|yA I<|yP I<|lA I<|nL<|za8 () ⟨I,I,I,I,(by rw[zf7 hm1,zf8 hm2]; rfl),rfl,rfl,rfl,rfl,rfl,trivial⟩ rfl rfl trivial
   ·exact rG<|lM I<|lM I<|yC I<|lY I I I (iB cN zT3 I I dC dC)<|SL.gq (gT I I I dC) (qL (v:=vi x1) iT3 I<|cO 0 I I) dC<|SL.gq (gT I I I dC) (SQ.eq (v':=vb false) (SQ.lookup mty71 I I<|bo.own 1 I)<|(hsl.get x1).trans<|ze2 vb<|zf7 hm1) dC<|yF I<|lM I<|yC I<|lY I I I (iB cN zT3 I I dC dC)<|SL.gq (gT I I I dC) (qL (v:=vi x2) iT3 I<|cO 0 I I) dC<|SL.gq (gT I I I dC) (SQ.eq (v':=vb false) (SQ.lookup mty71 I I<|bo.own 1 I)<|(hsl.get x2).trans<|ze2 vb<|zf7 hm2) dC<|yF I<|lM I<|lY I I I (iB cN zT3 I I dC dC)<|SL.gq (gT I I I dC) (qL (v:=vi x1) iT3 I<|cO 0 I I) dC<|lY I I I (iB cN zT3 I I dC dC)<|SL.gq (gT I I I dC) (qL (v:=vi x2) iT3 I<|cO 0 I I) dC<|lY I I I (eQ I I)<|yF I<|lA I<|nL<|za8 () ⟨I,I,I,I,(by rw[zf7 hm1,zf7 hm2]; rfl),rfl,rfl,rfl,rfl,rfl,trivial⟩ rfl rfl trivial
  rintro _ -;try dsimp only
  refine SC.cut (ι:=Unit) (fun _=>[(0,pp bx 0),(3,pp b3 0),(5,.map<|some b17),(6,.map<|some b18),(7,vb<|mf<|e.pairs.take<|k+1),(8,vb<|(e.pairs.take<|k+1).any fun p=>decide (e8 A p.1≠e8 A p.2)),(10,pp b10 0),(20,.slice qp e.pairs.length qc),(21,vi e.pairs.length),(22,vi k)]) (fun _=>g)
   (fun _=>pt b10 (.cells #[vi x1,vi x2] 44 (0,0))::mp b18 sl::mp b17 bl::pt b3 (.cells (edV e (.slice sp e.sides.length sc)<|.slice qp e.pairs.length qc) 39 (0,0))::edP bx u mb ms false::mp mb (rs.map am)::mp ms []::s) (fun _=>True) ?_ ?_
  ·rw[hany];generalize (e.pairs.take k).any (fun p=>decide (e8 A p.1≠e8 A p.2))=dm;cases dm with
   | true =>
    exact dW [] [(0,2),(1,2),(2,2),(3,2),(4,2),(5,1),(6,2),(7,1),(8,1),(9,2),(10,2),(11,2),(12,2),(13,1),(14,2),(15,1),(16,1),(17,2),(18,2),(19,2),(20,2)] ze3 kR<|yM I<|yM I<|yG I<|yG I<|yG I<|yI I<|yG I<|yI I<|yI I<|yG I<|yG I<|yG I<|yG I<|yI I<|yG I<|yI I<|yI I<|yG I<|yG I<|pU I (wT I I)<|pU I (aS I)<|pN<|za8 () sB I I trivial
   | false =>
    refine dW [] [(0,2),(1,2),(2,2),(3,2),(4,2),(5,1),(6,2),(7,1),(8,1),(9,2),(10,2),(11,2),(12,2),(13,1),(14,2),(15,1),(16,1),(17,2),(18,2),(19,2),(20,2)] ze3 kR<|yM I<|yM I<|yJ I<|zb2 I (gT I I I dC) (nC I) dC<|zb2 I (gT I I I dC) (fA ce I ec I) dC<|SP.gq I (gT I I I dC) (qL (v:=.map<|some mb) ee I<|cO 4 I I) dC<|zb2 I (gT I I I dC) (iB cN zT3 I I dC dC) dC<|SP.gq I (gT I I I dC) (qL (v:=vi x1) iT3 I<|cO 0 I I) dC<|SP.gq I (gT I I I dC) (SQ.eq (v':=.agg #[vi ri1,vi c1.dim,.slice rp1 rn1 rk1]) (SQ.lookup mty125 I I<|bo.own 5 I) (by rw[hg1]; rfl)) dC ?_;refine zb2 I (gT I I I dC) (SU.field aw I iT3 I I) dC<|yJ I<|zb2 I (gT I I I dC) (nC I) dC<|zb2 I (gT I I I dC) (fA ce I ec I) dC<|SP.gq I (gT I I I dC) (qL (v:=.map<|some mb) ee I<|cO 4 I I) dC<|zb2 I (gT I I I dC) (iB cN zT3 I I dC dC) dC<|SP.gq I (gT I I I dC) (qL (v:=vi x2) iT3 I<|cO 0 I I) dC<|SP.gq I (gT I I I dC) (SQ.eq (v':=.agg #[vi ri2,vi c2.dim,.slice rp2 rn2 rk2]) (SQ.lookup mty125 I I<|bo.own 5 I) (by rw[hg2]; rfl)) dC ?_;exact zb2 I (gT I I I dC) (SU.field aw I iT3 I I) dC<|zb2 I (gT I I I dC) (nQ I I) dC<|pU I (wF I I)<|pU I (aS I)<|pN<|za8 () sB I I trivial
  rintro _ -;try dsimp only
  refine SC.drawT 1 [] [(0,2),(1,2),(2,1),(3,2),(4,2),(5,1),(6,2),(7,2),(8,1),(9,2),(10,1),(11,0),(12,0),(13,0)] ze3 kR<|yM rfl (pU rfl (iB cN zT3 rfl rfl dC dC) (pK rfl (qL (v:=vi x1) iT3 rfl (cO 0 rfl rfl)) (yM rfl (pU rfl (iB cN zT3 rfl rfl dC dC) (pK rfl (qL (v:=vi x2) iT3 rfl (cO 0 rfl rfl)) (yM rfl (pU rfl (iB cN zT3 rfl rfl dC dC) (pK rfl (qL (v:=vi x2) iT3 rfl (cO 0 rfl rfl)) (pU rfl (iB cN zT3 rfl rfl dC dC) (pK rfl (qL (v:=vi x1) iT3 rfl (cO 0 rfl rfl)) (SP.on rfl (SO.mapUpdate 1 mty71 rfl rfl rfl rfl) (.inr (by rintro _ _ _ ⟨rfl,rfl⟩; exact⟨by exact zb8 _,(by exact eH _ _ _ _)⟩)) ?_)))))))))));rintro _ _ _ ⟨rfl,rfl⟩;refine SP.on rfl (SO.mapUpdate 1 mty71 rfl rfl rfl rfl) (.inr (by rintro _ _ _ ⟨rfl,rfl⟩; exact⟨by exact zb8 _,(by exact .cons_cons _ (List.nil_sublist _))⟩)) ?_;rintro _ _ _ ⟨rfl,rfl⟩;refine SP.on rfl (SO.mapUpdate 2 mty70 rfl rfl rfl rfl) (.inr (by rintro _ _ _ ⟨rfl,rfl⟩; exact⟨by exact zb8 _,(by exact .cons_cons _ (List.nil_sublist _))⟩)) ?_;rintro _ _ _ ⟨rfl,rfl⟩;refine pN (bN (tN (rG (yD I (lM I (nL (dR (.cons _ (.refl _)) ?_)))))));exact ST.again (k+1,dS (dS sl x1 (vb true)) x2 (vb true),dS bl x2 (vi x1)) sB I I ⟨by dsimp only; omega,by dsimp only; rw[hal1]; exact Df hsl x1 x2,fun hd=>by
   dsimp only at hd ⊢;rw[hd1,Bool.or_eq_false_iff,Bool.or_eq_false_iff,Bool.or_eq_false_iff,decide_eq_false_iff_not,decide_eq_false_iff_not] at hd;rw[hbl hd.1.1.1,htk,zg5,gp _ _ _<|hnew hd.1.2];rfl,fun p hp=>by
   dsimp only at hp;rw[htk] at hp
   rcases zf3.1 hp with hp | hp
   ·exact hfd p hp
   ·simp at hp; subst hp; exact⟨hx1,hx2⟩⟩ (by dsimp only; omega)
 ·have hkk:e.pairs.take k=e.pairs:=tL oM;rw[hkk] at hsl hbl hfd ⊢;have hfa:e.pairs.all (fun p=>(ao A p.1).isSome&&(ao A p.2).isSome)=true:=zj9.2 fun p hp=>by
   obtain ⟨h1,h2⟩:=hfd p hp;rw[h1,h2];rfl
  have hcode:dz A e=if mf e.pairs then 54 else if e.pairs.any (fun p=>decide (e8 A p.1≠e8 A p.2)) then 21 else if e.pairs.all (iL A e.pairs) then 0 else 33:=by unfold dz; rw[zg1 hfa]
  rw[hcode];refine xI<|tX<|tX<|bX<|tN<|sQ<|bK<|sW I<|aT I<|iQ I (fun hdup=>?_) (fun hdup=>?_)
  ·rw[zg1 hdup];exact rZ<|aT I<|rE<|bR<|tR<|za7 (.inl I) results108 I ⟨zb8 _,I,by rw[zf9 dC]; exact⟨[_,_,_,_,_,_],I⟩⟩
  rw[zf9 (by rw[hdup]; exact Bool.false_ne_true)];refine sW I<|aT I<|iQ I (fun hdim=>?_) (fun hdim=>?_)
  ·rw[zg1 hdim];exact rZ<|aT I<|rE<|bR<|tR<|za7 (.inl I) results108 I ⟨zb8 _,I,by rw[zf9 dC]; exact⟨[_,_,_,_,_,_],I⟩⟩
  rw[zf9 (by rw[hdim]; exact Bool.false_ne_true)];have hble:=hbl hdup;subst hble;have hnod:(gP e.pairs).Nodup:=by unfold mf at hdup; exact Decidable.not_not.1<|of_decide_eq_false hdup
  have hsn:=lk hnod;refine kP (bN<|tN<|sQ<|sQ<|cP (zk1 _ _ _)<|SC.freezeMap fun g2 hle2 hby=>?_);refine SC.drop (zj1 _ _)<|rG<|lU (fA aJ I iW I)<|lK (qL (v:=.slice qp e.pairs.length qc) jr I<|cO 0 I I)<|lU (eN cC I)<|lM I<|tZ<|bK ?_;have hpv2:=za4 hpv hle2;have hall2:=hall.mono fun _ _=>ay.mono hle2;refine SC.loop (ι:=Nat×PH) (fun i=>[(0,pp bx 0),(3,pp b3 0),(5,.map<|some b17),(95,.slice qp e.pairs.length qc),(96,vi e.pairs.length),(97,vi i.1)]) (fun i=>i.2)
   (fun _=>pt b3 (.cells (edV e (.slice sp e.sides.length sc)<|.slice qp e.pairs.length qc) 39 (0,0))::edP bx u mb ms false::mp mb (rs.map am)::mp ms []::s)
   (fun i=>i.1≤e.pairs.length∧Le g2 i.2∧(e.pairs.take i.1).all (iL A e.pairs)=true) (fun i=>e.pairs.length - i.1) (0,g2)
   sB rfl rfl ⟨zf6 _,zb8 _,by simp⟩ ?_
  rintro ⟨k2,g3⟩ ⟨hk2,hle3,hak⟩;dsimp only at hk2 hle3 hak ⊢;refine rZ<|yL I<|tZ<|sQ<|iP I (fun hlt2=>?_) (fun hlt2=>?_)
  ·have hkl:k2<e.pairs.length:=oM;have hb1:=za5 hpv2 oM;have hgk:e.pairs[((k2:Nat):Int).toNat]?=some e.pairs[k2]:=gE hkl;have htk:e.pairs.take (k2+1)=e.pairs.take k2++[e.pairs[k2]]:=tS hkl;obtain ⟨hx1,hx2⟩:=hfd _<|gM hkl;have hnot:iL A e.pairs e.pairs[k2]=false→(if e.pairs.all (iL A e.pairs) then (0:Int) else 33)=33:=fun h=>by
    rw[zf9];intro h2;have h3:=zj9.1 h2 _<|gM hkl;rw[h] at h3;cases h3
   have hyes:iL A e.pairs e.pairs[k2]=true→(e.pairs.take<|k2+1).all (iL A e.pairs)=true:=fun h=>by
    rw[htk,List.all_append,hak,Bool.true_and];simp[h]
   have hall3:=hall2.mono fun _ _=>ay.mono hle3;have hby3:=hby.mono hle3;generalize e.pairs[k2]=x at *;obtain ⟨x1,x2⟩:=x;dsimp only at hx1 hx2;obtain ⟨c1,r1,hc1,hcm1,hg1,hr1⟩:=hfnd hall3 hx1;obtain ⟨c2,r2,hc2,hcm2,hg2,hr2⟩:=hfnd hall3 hx2;have hal:iL A e.pairs (x1,x2)=decide (iz (c1.sides.map<|dQ<|byF e.pairs)=iz (c2.sides.map<|dQ<|byF e.pairs)):=by unfold iL sf; rw[hc1,hc2]; rfl
   generalize iL A e.pairs (x1,x2)=al at *;have hl1:=hf.2 c1 hcm1;have hl2:=hf.2 c2 hcm2;have hl3:(iz<|c1.sides.map<|dQ<|byF e.pairs).length<1099511627776:=by rw[(fy _).length_eq,ze6]; exact hl1
   obtain ⟨ri1,rd1,rp1,rn1,rk1⟩:=r1;obtain ⟨ri2,rd2,rp2,rn2,rk2⟩:=r2;obtain ⟨-,-,hs1⟩:=hr1;obtain ⟨-,-,hs2⟩:=hr2;dsimp only at hs1 hs2;refine kP (tN<|sQ<|bK<|rZ<|lU (iA cC bM I I hb1 oM sL)<|lK (eA kI bM I (za6<|za4 hpv2 hle3) hgk)<|bW (aL zl5) fun b12=>?_);refine oZ (sK 0 bM I I I I I sB)<|tZ<|sQ<|dW [] [(0,2),(1,2),(2,2),(3,1),(4,2),(5,1),(6,1),(7,2),(8,2),(10,2),(11,2),(12,2),(13,1),(14,2),(15,1),(16,1),(17,2),(18,2),(9,0),(19,0),(20,0),(21,2)] ze3 kR<|yM I<|pU I (nC I)<|pU I (fA ce I ec I)<|pK I (qL (v:=.map<|some mb) ee I<|cO 2 I I)<|pU I (iB cN zT3 I I dC dC)<|pK I (qL (v:=vi x1) iT3 I<|cO 0 I I)<|pK I (SQ.eq (v':=.agg #[vi ri1,vi rd1,.slice rp1 rn1 rk1]) (SQ.lookup mty125 I I<|bo.own 3 I) (by rw[hg1]; rfl)) ?_;refine pU I (SU.field aw I bh I I)<|yM I<|yM I<|pU I (nC I)<|pU I (fA ce I ec I)<|pK I (qL (v:=.map<|some mb) ee I<|cO 2 I I)<|pU I (iB cN zT3 I I dC dC)<|pK I (qL (v:=vi x2) iT3 I<|cO 0 I I)<|pK I (SQ.eq (v':=.agg #[vi ri2,vi rd2,.slice rp2 rn2 rk2]) (SQ.lookup mty125 I I<|bo.own 3 I) (by rw[hg2]; rfl)) ?_;refine pU I (SU.field aw I bh I I)<|yM I<|SP.o I (SO.call call140 I<|ji E g3 _ _ c1.sides b17 _ (byF e.pairs) hs1 hl1 hby3<|ux _) dC (.inr iR) ?_;rintro v110 _ _ ⟨rfl,l1,hp1,ha1,rfl⟩;have e1:=ul hp1 ha1;subst e1;refine SP.freezeRow fun g4 hle4 hs4=>?_;refine SP.o I (SO.call call140 I<|ji E g4 _ _ c2.sides b17 _ (byF e.pairs) (za4 hs2 hle4) hl2 (hby3.mono hle4)<|ux _) dC (.inr iR) ?_;rintro v120 _ _ ⟨rfl,l2,hp2,ha2,rfl⟩;have e2:=ul hp2 ha2;subst e2;refine SP.freezeRow fun g5 hle5 hs5=>?_;have hle45:=hle4.trans hle5;refine SP.o I (SO.call call139 I<|x4 E g5 _ _ _ (iz<|c1.sides.map<|dQ<|byF e.pairs) (iz<|c2.sides.map<|dQ<|byF e.pairs) (Sl.mono hs4 hle5) hs5 hl3) dC (.inr iR) ?_;rintro _ _ _ ⟨rfl,rfl,rfl⟩;rw[← hal];refine pU I (SU.not I)<|pN<|tN<|iQ I (fun hq=>?_) (fun hq=>?_)
   ·rw[Bool.not_eq_true'] at hq;rw[hnot hq];exact rZ<|aT I<|rE<|bR<|tR<|tR<|bR<|tR<|za7 (.inl I) results108 I ⟨hle2.trans<|hle3.trans hle45,I,by rw[zf9 dC]; exact⟨[_,_,_,_,_],I⟩⟩
   ·rw[Bool.not_eq_false'] at hq;exact kP<|bN<|tN<|rG<|yD I<|lM I<|nL<|dR (.cons _<|.refl _)<|ST.again (k2+1,g5) sB I I ⟨by dsimp only; omega,hle3.trans hle45,hyes hq⟩ (by dsimp only; omega)
  ·have hkk2:e.pairs.take k2=e.pairs:=tL oM;rw[hkk2] at hak;rw[zg1 hak];obtain ⟨es,clk,hes,hmi⟩:=hby
   have hes3:=hle3 _ _ hes;have hby3:Mp g3 b17 (e.pairs.map swP):=⟨es,clk,hes3,hmi⟩;have hall3:=hall2.mono fun _ _=>ay.mono hle3;refine xI<|tX<|tX<|bX<|tN<|sQ<|sW I<|lW (SO.range underlying70 I hes3) ?_;rintro _ _ _ ⟨it,rfl,rfl,rfl⟩;refine tZ<|bK ?_;have hrest0:gC A []=A:=by unfold gC; rw[List.filter_eq_self]; intro c _; simp
   refine SC.loop (ι:=List MapEntry×List (Int×Value)×PH×List Rc×Ts) (fun _=>[(0,pp bx 0),(3,pp b3 0),(5,.map<|some b17),(125,pp it 0)]) (fun i=>i.2.2.1)
    (fun i=>eJ it b17 es clk i.1::pt b3 (.cells (edV e (.slice sp e.sides.length sc)<|.slice qp e.pairs.length qc) 39 (0,0))::edP bx u mb ms false::mp mb (i.2.2.2.1.map am)::mp ms (gD i.2.2.2.2)::(db i.2.2.2.2++s))
    (fun i=>kL (e.pairs.map swP) es i.1 i.2.1∧Le g3 i.2.2.1∧az (ay i.2.2.1) (gC A<|i.2.1.map Prod.fst) i.2.2.2.1∧i.2.2.2.2.map Prod.fst=i.2.1.map Prod.fst∧A4 i.2.2.2.2∧∀ t∈i.2.2.2.2,∃ q∈e.pairs,q.2=t.1∧t.2.2=[(q.1,1)]) (fun i=>e.pairs.length - i.2.1.length)
    ([],[],g3,rs,[]) sB rfl rfl ⟨kL.nil _ _,zb8 _,by dsimp only; rw[List.map_nil,hrest0]; exact hall3,I,fun t ht=>by simp at ht,fun t ht=>by simp at ht⟩ ?_
   rintro ⟨vis,vl,g4,rs1,ts⟩ ⟨hrv,hle4,hall4,hkeys,hok,htq⟩;dsimp only at hrv hle4 hall4 hkeys hok htq ⊢;have hvle:=hrv.len hmi;rw[ze6] at hvle;have hes4:=hle4 _ _ hes3;refine rZ<|lW (SO.nextP 0 I I hes4 hmi hrv) ?_;rintro _ _ _ ⟨rfl,hcase⟩
   rcases hcase with ⟨rfl,rfl,hperm⟩ | ⟨en,pr,hen,hpr,hk1,hv1,hrv2,rfl,rfl⟩
   ·have hpk:∀ k,k∈vl.map Prod.fst↔k∈e.pairs.map Prod.snd:=fun k=>by
     rw[(hperm.map Prod.fst).mem_iff,zi4];exact Iff.rfl
    have hrest:gC A (vl.map Prod.fst)=gC A (e.pairs.map Prod.snd):=by
     unfold gC;refine List.filter_congr fun c _=>?_;rw[decide_eq_decide.2<|hpk c.id]
    have htn:(ts.map Prod.fst).Nodup:=by rw[hkeys]; exact nB hrv hmi
    have himg:=As (e:=e) (ts:=ts) (fun k=>by rw[hkeys]; exact hpk k) hsn htq;have hby4:Mp g4 b17 (e.pairs.map swP):=⟨es,clk,hes4,hmi⟩;rw[hrest] at hall4;have hBn:((gC A<|e.pairs.map Prod.snd).map Cl.id).Nodup:=(List.filter_sublist.map Cl.id).nodup hn;have hBf:∀ c∈gC A (e.pairs.map Prod.snd),c.sides.length<1099511627776:=fun c hc=>hf.2 c (zh4.1 hc).1;have hio:el A e=(gC A<|e.pairs.map Prod.snd).map (Be<|byF e.pairs):=rfl;rw[hio];generalize gC A (e.pairs.map Prod.snd)=B at *;have hrc:∀ y,(Be (byF e.pairs) y).id=y.id:=fun _=>rfl;refine yX I (tZ<|sQ<|cF I<|xI<|tX<|tX<|bX<|tN<|sQ<|sQ<|SC.drop (zj1 _ _)<|SC.openMap 2 I fun es2 clk2 hI2=>?_);refine SC.to (g':=g4) (s':=pt b3 (.cells (edV e (.slice sp e.sides.length sc)<|.slice qp e.pairs.length qc) 39 (0,0))::edP bx u mb ms false::mx mb es2 clk2::mp ms (gD ts)::(db ts++s)) (fun w hw=>hw) ?_;refine rG<|lM I<|lU (nC I)<|lU (fA ce I ec I)<|lK (qL (v:=.map<|some mb) ee I<|cO 1 I I)<|lW (SO.rangeG underlying125 I<|A7 2 I) ?_;rintro _ _ _ ⟨it2,rfl,rfl,rfl⟩;refine tZ<|bK<|SC.loop (ι:=List MapEntry×List (Int×Value)×PH×List Rc×Array MapEntry) (fun _=>[(0,pp bx 0),(5,.map<|some b17),(148,pp it2 0)]) (fun i=>i.2.2.1)
     (fun i=>eJ it2 mb i.2.2.2.2 clk2 i.1::pt b3 (.cells (edV e (.slice sp e.sides.length sc)<|.slice qp e.pairs.length qc) 39 (0,0))::edP bx u mb ms false::mx mb i.2.2.2.2 clk2::mp ms (gD ts)::(db ts++s))
     (fun i=>jf (i.2.2.2.1.map am) i.2.2.2.2 clk2∧kL (i.2.2.2.1.map am) i.2.2.2.2 i.1 i.2.1∧Le g4 i.2.2.1∧az (ay i.2.2.1) (ij (Be<|byF e.pairs) B<|i.2.1.map Prod.fst) i.2.2.2.1) (fun i=>B.length - i.2.1.length)
     ([],[],g4,rs1,es2) sB rfl rfl ⟨hI2,kL.nil _ _,zb8 _,by dsimp only; rw[List.map_nil,Ah]; exact hall4⟩ ?_
    rintro ⟨vis2,vl2,g5,rs2,es3⟩ ⟨hI3,hrv3,hle5,hall5⟩;dsimp only at hI3 hrv3 hle5 hall5 ⊢;have hrl:=hall5.length;have hbl2:(ij (Be<|byF e.pairs) B<|vl2.map Prod.fst).length=B.length:=by unfold ij; rw[ze6]
    have hids:=Aj hrc B<|vl2.map Prod.fst;refine rZ<|lW (SO.nextPG 0 I I (A7 3 I) hI3 hrv3) ?_;rintro _ _ _ ⟨rfl,hcase2⟩
    rcases hcase2 with ⟨rfl,rfl,hperm2⟩ | ⟨en2,pr2,hen2,hpr2,hk2',hv2,hrv4,rfl,rfl⟩
    ·have hmem:∀ c∈B,c.id∈vl2.map Prod.fst:=fun c hc=>by
      rw[(hperm2.map Prod.fst).mem_iff,Dp];have h1:rs2.map Rc.id=(ij (Be<|byF e.pairs) B<|vl2.map Prod.fst).map Cl.id:=(i8 hall5).symm;rw[h1,hids];exact zf2.2 ⟨c,hc,I⟩
     rw[Ak hmem] at hall5;refine yX I<|tZ<|sQ<|cF I<|xI<|tX<|tX<|bX<|tN<|rZ<|aT I<|rE<|ST.closeMap 3 I hI3 ?_;refine ST.to (g':=g5) (s':=edP bx u mb ms false::mp mb (rs2.map am)::mp ms (gD ts)::(db ts++s)) (fun w hw=>hw.sublist<|.cons _<|.cons _<|.refl _) ?_;exact za7 (.inl I) results108 I ⟨hle2.trans<|hle3.trans<|hle4.trans hle5,I,by rw[zg1 I]; exact⟨rs2,ts,hall5,hok,htn,himg,I⟩⟩
    ·obtain ⟨x,hx,rfl⟩:=zf2.1 hpr2;obtain ⟨cx,hcm,hcx⟩:=wV hall5 hx;have hnk:=nB hrv4 hI3;rw[zg5,List.nodup_append] at hnk;have hxn:x.id ∉ vl2.map Prod.fst:=fun hm=>hnk.2.2 _ hm _ (by simp[am]) rfl;obtain ⟨u1,hu1⟩:∃ u1,dF (rs2.map am) x.id=some u1:=by
      rcases gj (fun _ _ h=>h.1) hall5 x.id with ⟨h1,_⟩ | ⟨_,r9,_,h2,_⟩
      ·have:=List.find?_eq_none.1 h1 cx hcm;simp[hcx.1] at this
      ·exact⟨_,h2⟩
     have hcB:=Ai hrc hcm (by rw[← hcx.1]; exact hxn);have hfc:=rq hBn hcB;have hlx:=hBf cx hcB;obtain ⟨xi,xd,xp,xn,xc⟩:=x;obtain ⟨f1,f2,hsx⟩:=hcx;dsimp only at f1 f2 hsx hxn hu1;subst f1 f2;have hput:=ta hrc hxn hBn hfc;have hvl3:=hrv4.len hI3;rw[ze5,ze7,ze6] at hvl3;refine yX I (tZ<|sQ<|za1 I<|kP<|tN<|bK<|rZ<|lK (SQ.entryPG 0 I I (A7 3 I) hI3 hen2 hk2' hv2)<|yX I<|yX I<|bW (aL zl3) fun b16=>?_);refine lA I<|oZ (sK 0 au I I I I I sB)<|tZ<|sQ ?_;refine SC.to (g':=g5) (s':=pt b16 (.cells #[vi cx.id,vi cx.dim,.slice xp xn xc] 54 (0,0))::eJ it2 mb es3 clk2 (vis2++[en2])::pt b3 (.cells (edV e (.slice sp e.sides.length sc)<|.slice qp e.pairs.length qc) 39 (0,0))::edP bx u mb ms false::mx mb es3 clk2::mp ms (gD ts)::(db ts++s)) (fun w hw=>hw) ?_;refine rG<|lU (fA aw I aO I)<|lK (qL (v:=.slice xp xn xc) bh I<|cO 0 I I)<|lM I<|lW (SO.call call140 I<|ji E g5 _ _ cx.sides b17 _ (byF e.pairs) hsx hlx (hby4.mono hle5)<|ux _) ?_;rintro v157 _ _ ⟨rfl,l1,hp1,ha1,rfl⟩;have e1:=ul hp1 ha1;subst e1;refine fR fun g6 hle6 hs6=>?_;obtain ⟨q6,d6,rfl⟩:=zc2 hs6;refine lU (fA aw rfl aO rfl)<|oZ (SO.store1 0 aO rfl rfl rfl rfl (bE rfl)<|by rfl) ?_;refine tZ ?_;refine dW [6] [(0,2),(1,2),(2,2),(3,1),(4,2),(5,1),(6,0)] ze3 kR ?_;refine yM I<|pU I (nC I)<|pU I (fA ce I ec I)<|pK I (qL (v:=.map<|some mb) ee I<|cO 3 I I)<|yM I<|pK I (qV 0 bQ au I I I)<|SP.on I (SO.mapUpdateX 4 mty125 I I I I hI3 ⟨_,hu1⟩) (.inl dC) ?_;rintro _ _ _ ⟨rfl,es4,rfl,hI4,hrvu⟩;refine pN<|bN ?_;have hrc1:=iT ⟨cx.id,cx.dim,⟨q6,(iz<|cx.sides.map<|dQ<|byF e.pairs).length,d6⟩⟩ rs2;have hI5:jf ((iC rs2 ⟨cx.id,cx.dim,⟨q6,(iz<|cx.sides.map<|dQ<|byF e.pairs).length,d6⟩⟩).map am) es4 clk2:=by rw[← hrc1]; exact hI4
     have hrv5:=hrvu _ _ hrv4;refine dR (.cons _ (.refl _)) ?_;exact ST.again ((vis2++[en2]).map (oW cx.id (rcv ⟨cx.id,cx.dim,⟨q6,(iz (cx.sides.map (dQ (byF e.pairs)))).length,d6⟩⟩)),(vl2++[am ⟨cx.id,cx.dim,⟨xp,xn,xc⟩⟩]).map (Ba cx.id (rcv ⟨cx.id,cx.dim,⟨q6,(iz (cx.sides.map (dQ (byF e.pairs)))).length,d6⟩⟩)),g6,iC rs2 ⟨cx.id,cx.dim,⟨q6,(iz (cx.sides.map (dQ (byF e.pairs)))).length,d6⟩⟩,es4) sB I (by dsimp only; rw[BW _ _ _ es3]; rfl) ⟨hI5,by dsimp only; rw[← hrc1]; exact hrv5,hle5.trans hle6,by
      dsimp only;rw[zu,zg5];have h9:(vl2.map Prod.fst++[am ⟨cx.id,cx.dim,⟨xp,xn,xc⟩⟩].map Prod.fst)=vl2.map Prod.fst++[cx.id]:=rfl;rw[h9,← hput];exact jI (fun _ _ h=>h.1) ⟨I,I,hs6⟩ (hall5.mono fun _ _=>ay.mono hle6)⟩ (by
      dsimp only;rw[ze6,ze5,ze7];omega)
   ·obtain ⟨q,hq,rfl⟩:=zf2.1 hpr;have hnk:=nB hrv2 hmi;rw[zg5,List.nodup_append] at hnk;have hqn:q.2 ∉ vl.map Prod.fst:=fun hm=>hnk.2.2 _ hm _ (by simp[swP]) rfl;have hput:∀ v,dS (gD ts) q.2 v=gD ts++[(q.2,v)]:=fun v=>gp _ _ _ fun p hp e9=>hqn (by
     rw[← hkeys,← z7,← e9];exact zf2.2 ⟨p,hp,I⟩)
    have hdel:=k7 hn (vl.map Prod.fst) q.2;have hvl3:=hrv2.len hmi;rw[ze5,ze7,ze6] at hvl3;obtain ⟨q1,q2⟩:=q;dsimp only at hqn hput hdel;refine yX I<|tZ<|sQ<|za1 I<|kP<|tN<|bK<|rZ<|lK (SQ.entryP 0 I I hes4 hmi hen hk1 hv1)<|yX I<|yX I<|lA I<|aT I<|sW I<|lU (nC I)<|lU (fA ce I ec I)<|lK (qL (v:=.map<|some mb) ee I<|cO 2 I I)<|lM I<|lO (SO.delete 3 mty125 I I I) ?_;rintro _ _ _ ⟨rfl,rfl⟩;rw[nn];refine tZ<|dW [8] [(0,2),(1,2),(2,2),(3,1),(4,2),(5,2),(6,0),(7,0),(8,0)] ze3 kR<|yM I<|pU I (nC I)<|pU I (fA ce I sizeOf148 I)<|pK I (qL (v:=.map<|some ms) isAgg148 I<|cO 2 I I)<|yM I<|yM I<|SP.o I (SO.call call112 I<|iq E g4 _ q1 1 dC dC) dC (.inr iR) ?_;rintro _ g5 _ ⟨rfl,rfl,hle5⟩;refine SP.o I (bS sty151 I I I (ab ⟨I,trivial⟩) dC) dC (.inr iR) ?_;rintro _ _ _ ⟨b143,rfl,rfl,rfl⟩;refine SP.to (fun w hw=>At.litRow (e:=dw) (l:=[(q1,1)]) (n:=0) hw I I dC) ?_;refine SP.on I (SO.mapUpdate 5 mty148 I I I I) (.inl dC) ?_;rintro _ _ _ ⟨rfl,rfl⟩;refine pN<|bN ?_;refine ST.to (g':=g5) (s':=eJ it b17 es clk (vis++[en])::pt b3 (.cells (edV e (.slice sp e.sides.length sc)<|.slice qp e.pairs.length qc) 39 (0,0))::edP bx u mb ms false::mp mb ((ni rs1 q2).map am)::mp ms (gD<|ts++[(q2,.slice (some ⟨b143,0,none⟩) 1 1,[(q1,1)])])::(db (ts++[(q2,.slice (some ⟨b143,0,none⟩) 1 1,[(q1,1)])])++s)) (fun w1 hw1=>?_) ?_
    ·rw[z6,xq,← hput];exact hw1.perm<|Dr _ [eJ it b17 es clk<|vis++[en],pt b3<|.cells (edV e (.slice sp e.sides.length sc)<|.slice qp e.pairs.length qc) 39 (0,0),edP bx u mb ms false,mp mb<|(ni rs1 q2).map am,mp ms<|dS (gD ts) q2<|.slice (some ⟨b143,0,none⟩) 1 1] (db ts) s
    exact ST.again (vis++[en],vl++[swP (q1,q2)],g5,ni rs1 q2,ts++[(q2,.slice (some ⟨b143,0,none⟩) 1 1,[(q1,1)])]) sB I I ⟨hrv2,hle4.trans hle5,by
     dsimp only;rw[zg5];have h9:vl.map Prod.fst++[swP (q1,q2)].map Prod.fst=vl.map Prod.fst++[q2]:=rfl;rw[h9,← hdel];exact (kU (fun _ _ h=>h.1) q2 hall4).mono fun _ _=>ay.mono hle5,by dsimp only; rw[zg5,zg5,hkeys]; rfl,fun t ht=>by
     rcases zf3.1 ht with ht | ht
     ·exact hok t ht
     ·simp at ht; subst ht; exact⟨by simp,by simp,_,_,_,I⟩,fun t ht=>by
     rcases zf3.1 ht with ht | ht
     ·exact htq t ht
     ·simp at ht; subst ht; exact⟨(q1,q2),hq,I,I⟩⟩ (by
     dsimp only;rw[ze5,ze7];omega)
set_option maxHeartbeats 4000000
theorem gV (E:World)(g:PH)(s:Own)(v u:Value)(l m:List Int)(hv:dJ g v l)(hu:dJ g u m)(hl:l.length<1099511627776) :
  Ctr Tryz.prog E 123 #[v,u] g s (fun r g' s'=>r=vb (decide (l=m))∧g=g'∧s=s'):=by
 obtain ⟨p,c,rfl⟩:=za3 hv;obtain ⟨q,d,rfl⟩:=za3 hu;refine zb1 (args:=[.slice p l.length c,.slice q m.length d]) func123 I ntmps123 (bE I)<|rZ<|aT I<|sQ<|sW I<|lU (eN aG I)<|lM I<|lU (eN aG I)<|lU (nQ I I)<|tZ<|iP I (fun hne=>?_) (fun hne=>?_)
 ·exact rZ<|aT I<|rE<|tR<|za7 (.inl I) results123 I ⟨by have:l≠m:=fun e=>hne (by rw[e]); simp[this],I,I⟩
 ·refine kP<|tN<|sQ<|rZ<|aT I<|bK ?_;have hlen:l.length=m.length:=oM;refine SC.loop (ι:=Nat) (fun k=>[(0,.slice p l.length c),(1,.slice q m.length d),(5,vi k)]) (fun _=>g) (fun _=>s) (fun k=>k≤l.length∧l.take k=m.take k) (fun k=>l.length - k) 0
   sB rfl rfl ⟨zf6 _,by simp⟩ ?_
  rintro k ⟨hk,heq⟩;refine sQ<|sW I<|lM I<|lU (eN aG I)<|yL I<|tZ<|iP I (fun hlt=>?_) (fun hlt=>?_)
  ·have hkl:k<l.length:=oM;have hkm:k<m.length:=oM;have hb1:=za5 hv oM;have hb2:=za5 hu oM;have hg1:l[((k:Nat):Int).toNat]?=some l[k]:=gE hkl;have hg2:m[((k:Nat):Int).toNat]?=some m[k]:=gE hkm;refine kP<|tN<|sQ<|bK<|sQ<|dW [] [(0,2),(1,2),(2,2),(3,1),(4,2),(5,2),(6,2),(7,1),(8,2)] ze3 kR<|yM I<|yM I<|pU I (iA aG zT3 I I hb1 oM sL)<|pK I (eB iT3 I (za6 hv) hg1 I)<|yM I<|yM I<|pU I (iA aG zT3 I I hb2 oM sL)<|pK I (eB iT3 I (za6 hu) hg2 I)<|pU I (nQ I I)<|pN<|tN<|iP I (fun hd=>?_) (fun hd=>?_)
   ·exact rZ<|aT I<|rE<|bR<|tR<|tR<|bR<|tR<|za7 (.inl I) results123 I ⟨by have:l≠m:=fun e=>hd (by simp[e]); simp[this],I,I⟩
   ·exact kP<|bN<|tN<|rG<|lM I<|yD I<|lA I<|nL<|ST.again (k+1) sB I I ⟨oM,fE hkl hkm heq<|zg9 hd⟩ oM
  ·refine xI<|tX<|tX<|bX<|tN<|rZ<|aT I<|rE ?_;have hkk:k=l.length:=oM;subst hkk;have:l=m:=gy hlen heq;exact za7 (.inl I) results123 I ⟨by simp[this],I,I⟩
def de (A:List Cl)(ks:List Int):List Cl:=A.filter fun c=>!decide (c.id∈ks)
theorem xw {A:List Cl}{k:Nat}(hk:k<A.length)(ks:List Int):de (A.take<|k+1) ks=if A[k].id∈ks then de (A.take k) ks else de (A.take k) ks++[A[k]]:=by
 unfold de;rw[tS hk,zh6];by_cases h:A[k].id∈ks
 ·rw[zg1 h]; simp[h]
 ·rw[zf9 h]; simp[h]
theorem kw (E:World)(g:PH)(s:Own)(v iv:Value)(l:List Cl)(ks:List Int)(hv:ak g v l)(hf:a8 l)(hi:dJ g iv ks)(hkl:ks.length<1099511627776) :
  Ctr Tryz.prog E 118 #[.agg #[v],iv] g s (fun r g' s'=>g=g'∧∃ u rs,r = .agg #[u]∧az (ay g) (de l ks) rs∧s'=rowA encCell 54 u rs::s):=by
 obtain ⟨rs,hrs,hall⟩:=hv;have hlen:=hall.length;have hfl:=hf.1;obtain ⟨p,c,rfl⟩:=za3 hrs;obtain ⟨q,d,rfl⟩:=za3 hi;refine zb1 (args:=[.agg #[.slice p rs.length c],.slice q ks.length d]) func118 I ntmps118 (bE I)<|rZ (bW (bO I) fun b2=>?_);refine bW (aL zl6) fun b4=>tZ (rZ<|bW (aL zl6) fun b5=>?_);refine tZ<|sQ<|rZ<|aT I<|bK<|zb5 54 3<|SC.loop (ι:=Nat×Value×List Rc) (fun i=>[(1,.slice q ks.length d),(2,pp b2 0),(4,pp b4 0),(5,pp b5 0),(6,vi i.1)]) (fun _=>g)
  (fun i=>rowA encCell 54 i.2.1 i.2.2::pt b5 (.cells #[i.2.1] 29 (0,0))::pt b4 (.cells #[.slice none 0 0] 29 (0,0))::pt b2 (.cells #[.slice p rs.length c] 29 (0,0))::s)
  (fun i=>i.1≤rs.length∧az (ay g) (de (l.take i.1) ks) i.2.2) (fun i=>rs.length - i.1) (0,.slice none 0 0,[])
  sB rfl rfl ⟨zf6 _,by simp[de,az]⟩ ?_
 rintro ⟨k,ov,acc⟩ ⟨hk,hacc⟩;dsimp only at hk hacc ⊢;have hal:=hacc.length;have hal2:(de (l.take k) ks).length≤l.length:=by
  have h1:=zc5 (fun c:Cl=>!decide (c.id∈ks))<|l.take k;rw[ze4] at h1;unfold de;omega
 refine sQ<|sW I<|lU (fA du I di I)<|lK (qL (v:=.slice p rs.length c) dU I<|cO 3 I I)<|lU (eN aF I)<|yL I<|tZ<|iP I (fun hlt=>?_) (fun hlt=>?_)
 ·have hkr:k<rs.length:=oM;have hkl2:k<l.length:=oM;have hb1:=za5 hrs oM;have hcr:=hall.get (gE hkl2)<|gE hkr;have hgx:rs[((k:Nat):Int).toNat]?=some rs[k]:=gE hkr;have hsucc:=xw hkl2 ks;generalize rs[k]=x at *;generalize l[k]=cx at *;obtain ⟨xi,xd,xp,xn,xc⟩:=x;have hcr0:=hcr;obtain ⟨e1,e2,hxsl⟩:=hcr;dsimp only at e1 e2 hxsl;subst e1 e2;refine kP<|tN<|sQ<|bK<|rZ<|aT I<|sQ<|rZ<|aT I<|bK<|SC.loop (ι:=Nat) (fun j=>[(1,.slice q ks.length d),(2,pp b2 0),(4,pp b4 0),(5,pp b5 0),(6,vi k),(7,vb<|(ks.take j).any fun y=>decide (cx.id=y)),(8,vi j)]) (fun _=>g)
   (fun _=>rowA encCell 54 ov acc::pt b5 (.cells #[ov] 29 (0,0))::pt b4 (.cells #[.slice none 0 0] 29 (0,0))::pt b2 (.cells #[.slice p rs.length c] 29 (0,0))::s)
   (fun j=>j≤ks.length) (fun j=>ks.length - j) 0 sB rfl rfl (zf6 _) ?_
  rintro j hj;try dsimp only at hj ⊢
  refine sQ<|sW I<|lM I<|lU (eN aG I)<|yL I<|tZ<|iP I (fun hlt2=>?_) (fun hlt2=>?_)
  ·have hjl:j<ks.length:=oM;have hb2:=za5 hi oM;have hgj:ks[((j:Nat):Int).toNat]?=some ks[j]:=gE hjl;have hany:(ks.take<|j+1).any (fun y=>decide (cx.id=y))=((ks.take j).any (fun y=>decide (cx.id=y))||decide (cx.id=ks[j])):=by rw[tS hjl,List.any_append]; simp
   generalize ks[j]=y at *;generalize (ks.take j).any (fun y=>decide (cx.id=y))=bb at *;cases bb with
   | true =>
    exact kP<|tN<|sQ<|bK<|dW [] [(0,2),(1,2),(2,2),(3,1),(4,2),(5,2),(6,2),(7,1),(8,2),(9,2),(10,2),(11,1),(12,2),(13,2),(14,2)] ze3 kR<|yM I<|yM I<|yG I<|yI I<|yG I<|yG I<|yG I<|yI I<|yG I<|yG I<|yG I<|yI I<|yG I<|pU I (wT I I)<|pU I (aS I)<|pN<|bN<|tN<|rG<|lM I<|yD I<|lA I<|nL<|ST.again (j+1) ⟨I,I,I,I,I,(by rw[hany]; rfl),rfl,trivial⟩ rfl rfl oM oM
   | false =>
    refine kP<|tN<|sQ<|bK<|dW [] [(0,2),(1,2),(2,2),(3,1),(4,2),(5,2),(6,2),(7,1),(8,2),(9,2),(10,2),(11,1),(12,2),(13,2),(14,2)] ze3 kR<|yM I<|yM I<|zb2 I (gT I I I dC) (fA du I di I) dC<|SP.gq I (gT I I I dC) (qL (v:=.slice p rs.length c) dU I<|cO 3 I I) dC<|yJ I<|zb2 I (gT I I I dC) (iA aF au I I hb1 oM (show (k:Int)<((rs.length:Nat):Int) by omega)) dC ?_;refine zb2 I (gT I I I dC) (fC aw I zT3 I hb1) dC<|SP.gq I (gT I I I dC) (aZ (e:=encCell) (o:=0) iT3 I (za6 hrs) hgx I) dC<|yJ I<|yJ I<|zb2 I (gT I I I dC) (iA aG zT3 I I hb2 oM sL) dC<|SP.gq I (gT I I I dC) (eB iT3 I (za6 hi) hgj I) dC<|zb2 I (gT I I I dC) (eQ I I) dC<|pU I (wF I I)<|pU I (aS I)<|pN<|bN<|tN<|rG<|lM I<|yD I<|lA I<|nL ?_;exact ST.again (j+1) ⟨I,I,I,I,I,(by rw[hany]; rfl),rfl,trivial⟩ rfl rfl oM oM
  ·have hjj:ks.take j=ks:=tL oM;have hany:(ks.any fun y=>decide (cx.id=y))=decide (cx.id∈ks):=by
    rw[Bool.eq_iff_iff,zj8,zj6];exact⟨fun ⟨y,hy,he⟩=>by rw[zg3 he]; exact hy,fun h=>⟨_,h,zf8 I⟩⟩
   rw[hjj,hany];refine xI<|tX<|tX<|bX<|tN<|sW I<|lU (SU.notP I)<|tZ<|iQ I (fun hg=>?_) (fun hg=>?_)
   ·have hg2:cx.id ∉ ks:=zg3 hg;rw[zf9 hg2] at hsucc;refine dW [8,10] [(0,2),(1,1),(2,2),(3,1),(4,2),(5,2),(6,1),(7,0),(8,0),(9,2),(10,0)] ze3 kR<|pU I (fA du I di I) (pK I (qL (v:=ov) dU I (cO 1 I I)) (pU I (fA du I di I) (pK I (qL (v:=.slice p rs.length c) dU I (cO 3 I I)) (yM I (pU I (iA aF au I I hb1 oM (show (k:Int)<((rs.length:Nat):Int) by omega)) ?_)))));refine pK I (eA bQ au I (za6 hrs) hgx) (SP.o I (bS sty27 I I I (ab sB) dC) dC (.inr iR) ?_);rintro _ _ _ ⟨b45,rfl,rfl,rfl⟩;refine SP.o I (aP (e:=encCell) 0 ⟨cx.id,cx.dim,⟨xp,xn,xc⟩⟩ sty27 I I I I I oM oM) dC (.inl dC) ?_;rintro ov' _ _ ⟨rfl,rfl⟩;refine zd2 fun ⟨w0,hw0⟩=>?_;obtain ⟨q',d',rfl⟩:=aj (e:=encCell) (l:=acc++[(⟨cx.id,cx.dim,⟨xp,xn,xc⟩⟩:Rc)]) (i:=0) hw0 rfl;clear hw0 w0;refine pU I (fA du I di I) (SP.on I (sK 1 di I I I I I sB) (.inl dC) ?_);rintro _ _ _ ⟨rfl,rfl⟩;refine pN (bN (tN (rG (lM I (yD I (lA I (nL ?_)))))));exact ST.again (k+1,_,acc++[(⟨cx.id,cx.dim,⟨xp,xn,xc⟩⟩:Rc)]) sB I I ⟨by dsimp only; omega,by
     dsimp only;rw[hsucc];exact hacc.append ⟨hcr0,trivial⟩⟩ (by dsimp only; omega)
   ·have hg2:cx.id∈ks:=Decidable.not_not.1<|of_decide_eq_false hg;rw[zg1 hg2] at hsucc;exact kP<|bN<|tN<|rG<|lM I<|yD I<|lA I<|nL<|ST.again (k+1,ov,acc) sB I I ⟨by dsimp only; omega,by dsimp only; rw[hsucc]; exact hacc⟩ (by dsimp only; omega)
 ·have hkk:l.take k=l:=tL oM;rw[hkk] at hacc;refine xI<|tX<|tX<|bX<|tN<|sQ<|zd4 fun ⟨w0,hw0⟩=>?_;obtain ⟨q2,d2,rfl⟩:=aj (i:=0) hw0 rfl;clear hw0 w0;exact rG<|lK (qV 1 ar ag I I I)<|oZ (sK 2 ag I I I I I sB)<|tZ<|rE<|ST.retCD 2 _ (.inl I) results118 I ar ag I I (.cons_cons _<|.cons _<|.cons _<|.cons _<|.refl _) ⟨I,_,acc,I,hacc,I⟩
def cD (cell:Int)(ch:List Tm)(p:Int×List Tm):Int×List Tm:=if p.1=cell then (p.1,ch) else p
theorem ir (E:World)(g:PH)(s:Own)(v cv:Value)(l:List (Int×List Tm))(cell:Int)(ch:List Tm)(hv:Ims g v l)(hl:l.length<1099511627776)(hc:SlA dw g cv ch) :
  Ctr Tryz.prog E 120 #[.agg #[v],vi cell,cv] g s (fun r g' s'=>s=s'∧Le g g'∧∃ u,r = .agg #[u]∧Ims g' u (l.map<|cD cell ch)):=by
 obtain ⟨rs,hrs,hall⟩:=hv;have hlen:=hall.length;obtain ⟨p,c,rfl⟩:=za3 hrs;obtain ⟨q,d,rfl⟩:=za3 hc;refine zb1 (args:=[.agg #[.slice p rs.length c],vi cell,.slice q ch.length d]) func120 I ntmps120 (bE I)<|rZ (bW (bO I) fun b3=>?_);refine bW (aL zl2) fun b6=>tZ (rZ<|bW (aL zl2) fun b7=>?_);refine tZ<|sQ<|rZ<|aT I<|bK<|zb5 162 2<|SC.loop (ι:=Nat×Value×List Im) (fun i=>[(1,vi cell),(2,.slice q ch.length d),(3,pp b3 0),(6,pp b6 0),(7,pp b7 0),(8,vi i.1)]) (fun _=>g)
  (fun i=>rowA jp 162 i.2.1 i.2.2::pt b7 (.cells #[i.2.1] 87 (0,0))::pt b6 (.cells #[.slice none 0 0] 87 (0,0))::pt b3 (.cells #[.slice p rs.length c] 87 (0,0))::s)
  (fun i=>i.1≤rs.length∧az (ImR g) ((l.take i.1).map<|cD cell ch) i.2.2) (fun i=>rs.length - i.1) (0,.slice none 0 0,[])
  sB rfl rfl ⟨zf6 _,by simp[az]⟩ ?_
 rintro ⟨k,ov,acc⟩ ⟨hk,hacc⟩;dsimp only at hk hacc ⊢;have hal:=hacc.length;rw[ze6,ze4] at hal;refine sQ<|sW I<|lU (fA uh I oV I)<|lK (qL (v:=.slice p rs.length c) isAgg85 I<|cO 3 I I)<|lU (eN underlying85 I)<|yL I<|tZ<|iP I (fun hlt=>?_) (fun hlt=>?_)
 ·have hkr:k<rs.length:=oM;have hkl:k<l.length:=oM;have hb1:=za5 hrs oM;have hcr:=hall.get (gE hkl)<|gE hkr;have hgx:rs[((k:Nat):Int).toNat]?=some rs[k]:=gE hkr;have htk:=nE (cD cell ch) hkl;generalize rs[k]=x at *;generalize l[k]=cx at *;obtain ⟨xi,xp,xn,xc⟩:=x;obtain ⟨cc,ct⟩:=cx;obtain ⟨e1,hxsl⟩:=hcr;dsimp only at e1 hxsl;subst e1;refine kP<|tN<|sQ<|bK<|rZ<|lU (fA uh I oV I)<|lK (qL (v:=.slice p rs.length c) isAgg85 I<|cO 3 I I)<|lM I<|lU (iA underlying85 sizeOf162 I I hb1 oM (show (k:Int)<((rs.length:Nat):Int) by omega)) ?_;refine lK (eA isAgg162 sizeOf162 I (za6 hrs) hgx) (bW (aL zeroValue162) fun b9=>?_);refine oZ (sK 0 sizeOf162 I I I I I sB) ?_;refine tZ<|sQ<|rZ<|lU (fA underlying162 I zT3 I)<|lK (qL (v:=vi xi) iT3 I<|cO 0 I I)<|lM I<|yE I<|tZ ?_;refine iP I (fun he=>?_) (fun he=>?_)
  ·have hst:cD cell ch (xi,ct)=(xi,ch):=zg1 he;rw[hst] at htk;refine rG (lM rfl (lU (fA underlying162 rfl sizeOf151 rfl) (oZ (SO.store1 0 sizeOf151 rfl rfl rfl rfl (bE rfl) (by rfl)) ?_)));refine tZ (rG (lU (fA uh I oV I) (lK (qL (v:=ov) isAgg85 I (cO 2 I I)) (lK (qV 0 isAgg162 sizeOf162 I I I) (lW (bS sty85 I I I (ab sB) dC) ?_)))));rintro _ _ _ ⟨b31,rfl,rfl,rfl⟩;refine lW (aP (e:=jp) 1 ⟨xi,⟨q,ch.length,d⟩⟩ sty85 I I I I I oM oM) ?_;rintro ov' _ _ ⟨rfl,rfl⟩;refine zd3 fun ⟨w0,hw0⟩=>?_;obtain ⟨q',d',rfl⟩:=aj (e:=jp) (l:=acc++[⟨xi,⟨q,ch.length,d⟩⟩]) (i:=1) hw0 rfl;clear hw0 w0;refine lU (fA uh I oV I) (oZ (sK 2 oV I I I I I sB) ?_);refine nL (bN (tN (rG (lM I (yD I (lA I (nL (dR (.cons _ (.refl _)) ?_))))))));exact ST.again (k+1,_,acc++[⟨xi,⟨q,ch.length,d⟩⟩]) sB I I ⟨by dsimp only; omega,by
    dsimp only;rw[htk];exact hacc.append ⟨⟨I,hc⟩,trivial⟩⟩ (by dsimp only; omega)
  ·have hst:cD cell ch (xi,ct)=(xi,ct):=zf9 he;rw[hst] at htk;refine kP (tN (rG (lU (fA uh I oV I) (lK (qL (v:=ov) isAgg85 I (cO 2 I I)) (lK (qV 0 isAgg162 sizeOf162 I I I) (lW (bS sty85 I I I (ab sB) dC) ?_))))));rintro _ _ _ ⟨b31,rfl,rfl,rfl⟩;refine lW (aP (e:=jp) 1 ⟨xi,⟨xp,xn,xc⟩⟩ sty85 I I I I I oM oM) ?_;rintro ov' _ _ ⟨rfl,rfl⟩;refine zd3 fun ⟨w0,hw0⟩=>?_;obtain ⟨q',d',rfl⟩:=aj (e:=jp) (l:=acc++[⟨xi,⟨xp,xn,xc⟩⟩]) (i:=1) hw0 rfl;clear hw0 w0;refine lU (fA uh I oV I) (oZ (sK 2 oV I I I I I sB) ?_);refine nL (bN (tN (rG (lM I (yD I (lA I (nL (dR (.cons _ (.refl _)) ?_))))))));exact ST.again (k+1,_,acc++[⟨xi,⟨xp,xn,xc⟩⟩]) sB I I ⟨by dsimp only; omega,by
    dsimp only;rw[htk];exact hacc.append ⟨⟨I,hxsl⟩,trivial⟩⟩ (by dsimp only; omega)
 ·have hkk:l.take k=l:=tL oM;rw[hkk] at hacc;refine xI (tX<|tX<|bX<|tN<|sQ<|fS fun g2 hle2 hs2=>?_);obtain ⟨q2,d2,rfl⟩:=zc2 hs2;exact rG<|lK (qV 0 isAgg87 mR I I I)<|oZ (sK 1 mR I I I I I sB)<|tZ<|rE<|ST.retCD 1 s (.inl I) results120 I isAgg87 mR I I uR ⟨I,hle2,_,I,acc,hs2,hacc.mono fun _ _=>ImR.mono hle2⟩
end Go.Proofs.YtmmghffoakhheaaGreatDoor
