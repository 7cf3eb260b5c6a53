/- 6 -/
import Derived.Test.YtcfkpajlakidbaaGreatTp05
import Derived.Test.YtcfkpajlakidbaaGreatTp03
set_option linter.unusedSimpArgs false
set_option linter.unusedVariables false
namespace Go.Proofs.YtcfkpajlakidbaaGreat
open _root_.Go.Proofs.Tryz _root_.Go.Proofs.YtcfkpajlakidbaaGreat.Tryz
open Go Go.Sy Go.Pl Go.Proofs
set_option maxRecDepth 100000
theorem yi {α:Type}{key:α→Int}{l out:List α}{x:α}{k:Nat}(hs:Srt key out)(hst:aN key l out)(h1:∀ y∈out.take k,key y≤key x)(h2:∀ y∈out.drop k,key x<key y) :
  Srt key (out.take k++x::out.drop k)∧aN key (l++[x]) (out.take k++x::out.drop k):=by
 have hs':Srt key (out.take k++out.drop k):=by rw[zi7]; exact hs
 have h3:=Srt.append_iff.1 hs';refine⟨Srt.append_iff.2 ⟨h3.1,Srt.cons_iff.2 ⟨fun y hy=>Int.le_of_lt (h2 y hy),h3.2.1⟩,fun y hy z hz=>?_⟩,?_⟩
 ·rcases ze8.1 hz with rfl | hz
  ·exact h1 y hy
  ·exact h3.2.2 y hy z hz
 ·have h4:aN key (l++[x]) (out++[x]):=hst.append (aN.refl [x]);have h5:aN key (out.drop k++[x]) ([x]++out.drop k):=aN.swap (fun y hy z hz=>by simp at hz; subst hz; have:=h2 y hy; omega);have h6:=aN.append (aN.refl (key:=key) (out.take k)) h5;have h7:out++[x]=out.take k++(out.drop k++[x]):=by rw[← zg6,zi7]
  rw[h7] at h4;simpa using h4.trans h6
theorem sJ {α:Type}{key:α→Int}{out:List α}{c:Int}{k:Nat}(hs:Srt key out)(hk:k<out.length)(h:c<key out[k]):∀ y∈out.drop k,c<key y:=by
 rw[zg4 hk];intro y hy;have h1:Srt key (out.drop k):=List.Pairwise.sublist (List.drop_sublist k out) hs;rw[zg4 hk] at h1
 rcases ze8.1 hy with rfl | hy
 ·exact h
 ·have:=(Srt.cons_iff.1 h1).1 y hy;omega
theorem od (E:World)(g:PH)(s:Own)(v:Value)(l:List aj)(hv:SlA encSide g v l)(hl:l.length<1099511627776) :
  Ctr Tryz.prog E 49 #[v] g s (fun r g' s'=>s=s'∧Le g g'∧SlA encSide g' r (sortBy aj.cell l)):=by
 obtain ⟨p,c,rfl⟩:=za2 hv;refine za9 (args:=[.slice p l.length c]) func49 I ntmps49 (bE I) ?_;refine rZ (aT I (rZ (aT I (sQ (rZ (aT I (bK ?_)))))));refine oP (ι:=PH×Value×List aj×Nat) (fun i=>[(0,.slice p l.length c),(3,i.2.1),(4,vi i.2.2.2)]) (fun i=>i.1) (fun _=>s)
  (fun i=>Le g i.1∧SlA encSide i.1 i.2.1 i.2.2.1∧i.2.2.2≤l.length∧Srt aj.cell i.2.2.1∧aN aj.cell (l.take i.2.2.2) i.2.2.1) (fun i=>l.length - i.2.2.2)
  (g,.slice none 0 0,[],0) sB rfl rfl ⟨zb7 g,zb8 g _,zf4 _,Srt.nil,aN.refl _⟩ ?_
 rintro ⟨g1,ov,out,i⟩ ⟨hle,hov,hi,hsrt,hst⟩;dsimp only at hle hov hi hsrt hst ⊢;have hol:out.length=i:=by have:=hst.1; rw[ze2] at this; omega
 obtain ⟨q,d,rfl⟩:=za2 hov;have hqc:=(SlA.cap hov).2;refine sQ (sW I (lM I (lU (eN cA I) (yL I (tZ ?_)))));refine iP I (fun hlt=>?_) (fun hlt=>?_)
 ·have hil:i<l.length:=oM;have hb1:=za4 (hv.mono hle) oM;have hgi:l[((i:Nat):Int).toNat]?=some l[i]:=gE hil;have htk:l.take (i+1)=l.take i++[l[i]]:=tS hil;generalize l[i]=x at *;refine kP (tN (sQ (bK (rZ (aT I ?_)))));refine SC.cut (ι:=Nat) (fun k=>[(0,.slice p l.length c),(3,.slice q out.length d),(4,vi i),(5,vi k)]) (fun _=>g1) (fun _=>s) (fun k=>k≤out.length∧(∀ y∈out.take k,y.cell≤x.cell)∧∀ y∈out.drop k,x.cell<y.cell) ?_ ?_
  ·refine bK ?_;refine oP (ι:=Nat) (fun k=>[(0,.slice p l.length c),(3,.slice q out.length d),(4,vi i),(5,vi k)]) (fun _=>g1) (fun _=>s) (fun k=>k≤out.length∧∀ y∈out.take k,y.cell≤x.cell) (fun k=>out.length - k) 0
    sB rfl rfl ⟨zf4 _,by simp⟩ ?_
   rintro k ⟨hk,htake⟩;by_cases hin:(k:Int)<(out.length:Int)
   ·have hkl:k<out.length:=oM;have hb2:=za4 hov oM;have hd:decide ((k:Int)<(out.length:Int))=true:=zf6 hin;refine sQ (sQ ?_);refine dW [] [(0,2),(1,2),(2,2),(3,2),(4,2),(5,2),(6,2),(7,2),(8,2),(9,1),(10,2),(11,2),(12,2),(13,2),(14,1),(15,2),(16,2)] ze1 kR ?_;refine yM I (yM I (pU I (eN cA I) (pU I (SU.eq (lS I I) (zd9 vb hd)) (yM I (yJ I (yJ I (zb1 I (gT I I I dC) (iA cA cj I I hb2 oM sL) dC (zb1 I (gT I I I dC) (fC dn I zT3 I hb2) dC ?_))))))));refine SP.gq I (gT I I I dC) (aZ (o:=0) iT3 I hov.rd (gE hkl) I) dC ?_;refine yJ I (yJ I (zb1 I (gT I I I dC) (iA cA cj I I hb1 oM sL) dC (zb1 I (gT I I I dC) (fC dn I zT3 I hb1) dC (SP.gq I (gT I I I dC) (aZ (o:=0) iT3 I (hv.mono hle).rd hgi I) dC (zb1 I (gT I I I dC) (SU.leq I I) dC (pU I (wT I I) (pN (tN ?_))))))));refine iP I (fun hc=>?_) (fun hc=>?_)
    ·refine kP (tN (bK (rG (lM I (yD I (lA I (nL (bN ?_))))))));exact gA (k+1) sB I I ⟨oM,by
      rw[tS hkl];intro y hy
      rcases zf1.1 hy with h | h
      ·exact htake y h
      ·simp at h; subst h; exact hc⟩ oM
    ·refine xI (tX (tX (bX ?_)));exact za7 k sB I I ⟨hk,htake,sJ hsrt hkl oM⟩
   ·have hd:decide ((k:Int)<(out.length:Int))=false:=zf5 hin;refine sQ (sQ ?_);refine dW [] [(0,2),(1,2),(2,2),(3,2),(4,2),(5,2),(6,2),(7,2),(8,2),(9,1),(10,2),(11,2),(12,2),(13,2),(14,1),(15,2),(16,2)] ze1 kR ?_;refine yM I (yM I (pU I (eN cA I) (pU I (SU.eq (lS I I) (zd9 vb hd)) (yM I (yG I (yG I (yG I (yG I (yI I (yG I (yG I (yG I (yG I (yI I (yG I (pU I (wF I I) (pN (tN (cF I (xI (tX (tX (bX ?_)))))))))))))))))))))));exact za7 k sB I I ⟨hk,htake,by rw[List.drop_eq_nil_of_le oM]; simp⟩
  ·rintro k ⟨hk,hk1,hk2⟩;have hnew:=yi hsrt hst hk1 hk2;have hc1:=SlA.cut hov (l:=k) (m:=out.length) hk (lR _);have hc2:=SlA.cut hov (l:=0) (m:=k) (zf4 _) hk;rw[tL (by rw[ze7]; exact lR _)] at hc1;rw[List.drop_zero,Nat.sub_zero] at hc2;refine sQ ?_;refine dW [8] [(0,2),(1,2),(2,2),(3,1),(5,2),(6,2),(7,2),(4,0),(8,0),(9,2)] ze1 kR ?_;refine yM I (yM I (pU I (iA cA cj I I hb1 oM sL) (pK I (eA nE cj I (hv.mono hle).rd hgi) (yM I (yM I (pU I (SU.sliceL cA cj I I oM oM) (SP.o I (bS sty61 I I I (ab ⟨I,trivial⟩) dC) dC (.inr iR) ?_)))))));rintro _ _ _ ⟨b36,rfl,rfl,rfl⟩;refine SP.to (fun w hw=>At.litRow (e:=encSide) (l:=[x]) (n:=0) hw I I dC) ?_;refine SP.o I (aQ (e:=encSide) 0 sty61 I I I hc1 (by rw[ze7]; (first | with_reducible rfl | ((try dsimp only); (try simp only[ze3,ze6,zc1,ze5,ze2,ze7])<;>omega))) (by rw[ze7]; (first | with_reducible rfl | ((try dsimp only); (try simp only[ze3,ze6,zc1,ze5,ze2,ze7])<;>omega)))) dC (.inl dC) ?_;rintro v40 _ _ ⟨rfl,rfl⟩;refine pU I (aS I) (pN (tN (fS fun g2 hle2 hs2=>?_)));have hrest:SlA encSide g2 v40 ([x]++out.drop k):=hs2;refine rG (lW (bS sty61 I I I (ab trivial) dC) ?_);rintro _ _ _ ⟨b41,rfl,rfl,rfl⟩;refine SL.emptyRow 87 2 (some ⟨b41,0,none⟩) (lM I (lM I (lU (SU.sliceH cA cj I I oM oM) (lW (aQ (e:=encSide) (l:=[]) 0 sty61 I I I (hc2.mono hle2) (by rw[ze2]; (first | with_reducible rfl | ((try dsimp only); (try simp only[ze3,ze6,zc1,ze5,ze2,ze7])<;>omega))) (by rw[ze2]; (first | with_reducible rfl | ((try dsimp only); (try simp only[ze3,ze6,zc1,ze5,ze2,ze7])<;>omega)))) ?_))));rintro v45 _ _ ⟨rfl,rfl⟩;refine lM I (lW (aQ (e:=encSide) 0 sty61 I I I hrest lN lN) ?_);rintro v47 _ _ ⟨rfl,rfl⟩;refine lA I (nL (bN (tN (rG (lM I (yD I (lA I (nL (fT fun g3 hle3 hs3=>?_)))))))));refine dR (s':=s) uR ?_;have hres:SlA encSide g3 v47 (out.take k++x::out.drop k):=by have h:SlA encSide g3 v47 ([]++out.take k++([x]++out.drop k)):=hs3; simpa using h
   exact gA (g3,v47,out.take k++x::out.drop k,i+1) sB I I ⟨hle.trans (hle2.trans hle3),hres,lN,hnew.1,by dsimp only; rw[htk]; exact hnew.2⟩ lN
 ·have hii:l.take i=l:=tL oM;rw[hii] at hst;refine xI (tX (tX (bX (tN (sW I (aT I (rE ?_)))))));exact za6 (.inl I) results49 I ⟨I,hle,by rw[← dK hsrt hst]; exact hov⟩
theorem az.drop {α β:Type}{R:α→β→Prop}:∀ {l:List α} {m:List β} (k:Nat),az R l m→az R (l.drop k) (m.drop k)
 | _,_,0,h=>by simpa using h
 | [],[],k+1,_=>trivial
 | _::_,_::_,k+1,h=>by simpa using az.drop k h.2
 | [],_::_,_+1,h=>h.elim
 | _::_,[],_+1,h=>h.elim
theorem az.take {α β:Type}{R:α→β→Prop}:∀ {l:List α} {m:List β} (k:Nat),az R l m→az R (l.take k) (m.take k)
 | _,_,0,_=>by simp; trivial
 | [],[],k+1,_=>trivial
 | _::_,_::_,k+1,h=>⟨h.1,az.take k h.2⟩
 | [],_::_,_+1,h=>h.elim
 | _::_,[],_+1,h=>h.elim
theorem am.cut {g:PH}{p:Option Addr}{c a b n:Nat}{l:List Cl}(h:am g (.slice p n c) l)(ha:a≤b)(hb:b≤l.length):am g (sliced p a b c 3) ((l.drop a).take (b - a)):=by
 obtain ⟨rs,h1,h2⟩:=h;have hl:=h2.length;have hn:=(SlA.cap h1).1;subst hn;exact⟨_,SlA.cut h1 ha oM,az.take (b - a) (az.drop a h2)⟩
theorem am.cap {g:PH}{p:Option Addr}{c n:Nat}{l:List Cl}(h:am g (.slice p n c) l):n=l.length∧l.length≤c:=by
 obtain ⟨rs,h1,h2⟩:=h;have:=SlA.cap h1;rw[h2.length];exact⟨this.1,this.2⟩
theorem k9 (l:List Cl):aa l=sortBy Cl.id (l.map cG):=by
 unfold aa;rw[vx];rfl
theorem gp (l:List Cl):Srt Cl.id (aa l):=by rw[k9]; exact dV _
theorem nt (l:List Cl):aN Cl.id (l.map cG) (aa l):=by rw[k9]; exact eH _
theorem Tryz.buildF63 (x y:Int)(v:Value)(hv:v.cells = #[v])(w:World):(Instr.build 63 #[(0,vi x),(1,vi y),(2,v)]).run Tryz.prog w = .ok (.agg #[vi x,vi y,v]) w:=by
 have hz:(Value.agg #[vi 0,vi 0,Value.slice none 0 0]).cells = #[vi 0,vi 0,.slice none 0 0]:=rfl;have h1:(vi x).cells = #[vi x]:=rfl;have h2:(vi y).cells = #[vi y]:=rfl;simp[Instr.build,Instr.fill,hv,hz,h1,h2]
theorem kl (n:Nat)(h:n<4611686018427387904):IntKind.i64.wrap (((n:Nat):Int).tdiv 2)=((n / 2:Nat):Int):=by
 have h1:((n:Nat):Int).tdiv 2=((n / 2:Nat):Int):=by
  rw[Int.tdiv_eq_ediv_of_nonneg oM]; simp
 rw[h1,zk4 _ oM]
theorem ja (E:World):∀ (n:Nat) (g:PH) (s:Own) (v:Value) (l:List Cl),l.length≤n→am g v l→cR l →
  Ctr Tryz.prog E 96 #[v] g s (fun r g' s'=>s=s'∧Le g g'∧am g' r (aa l)):=by
 intro n;induction n with
 | zero =>
  intro g s v l hn hv hf;have hl0:l=[]:=zf2 oM;subst hl0;obtain ⟨p,c,rfl⟩:=hv.form;refine za9 (args:=[.slice p 0 c]) func96 I ntmps96 (bE I) ?_;refine rZ (aT I (sQ (sW I (lU (eN aA I) (yE I (tZ ?_))))));refine iP I (fun h0=>?_) (fun h0=>?_)
  ·refine rZ (aT I (rE (tR ?_)));exact za6 (.inl I) results96 I ⟨I,zb7 g,[],zb8 g _,trivial⟩
  ·exact absurd I h0
 | succ n ih =>
  intro g s v l hn hv hf;obtain ⟨rs,hrs,hall⟩:=hv;have hv:am g v l:=⟨rs,hrs,hall⟩;have hlen:=hall.length;have hfl:=hf.1;obtain ⟨p,c,rfl⟩:=hv.form;have hcap:=(am.cap hv).2;refine za9 (args:=[.slice p l.length c]) func96 I ntmps96 (bE I) ?_;refine rZ (aT I (sQ (sW I (lU (eN aA I) (yE I (tZ ?_))))));refine iP I (fun h0=>?_) (fun h0=>?_)
  ·have hl0:l=[]:=zf2 oM;subst hl0;refine rZ (aT I (rE (tR ?_)));exact za6 (.inl I) results96 I ⟨I,zb7 g,[],zb8 g _,trivial⟩
  ·refine kP (tN (sQ (sW I (lU (eN aA I) (yE I (tZ ?_))))));refine iP I (fun h1=>?_) (fun h1=>?_)
   ·obtain ⟨x,hx⟩:∃ x,l=[x]:=by
     match l,h1 with
     | [x],_=>exact⟨x,rfl⟩
     | [],h=>simp at h
     | _::_::_,h=>simp at h; omega
    subst hx;obtain ⟨r,rs',rfl,hr,hn'⟩:=az.cons_left hall;have hrs0:=az.nil_left hn';subst hrs0;obtain ⟨rp,rd,rfl,hsd⟩:=dY hr;have hb1:=hrs.based (by simp);have hxl:=hf.2 x (by simp);refine sQ ?_;refine dW [] [(0,2),(1,2),(2,2),(3,1),(4,2),(5,2),(6,2),(7,1),(8,2),(9,2),(10,2),(11,1),(12,0),(13,2),(14,0),(15,2)] ze1 kR ?_;refine yM I (pU I (iA aA au I I hb1 dC (show (0:Int)<((1:Nat):Int) by decide)) ?_);refine pU I (fC ao I zT3 I hb1) (pK I (aZ (e:=encCell) (o:=0) (j:=0) (u:=vi x.id) iT3 I hrs.rd I I) (yM I (pU I (iA aA au I I hb1 dC (show (0:Int)<((1:Nat):Int) by decide)) ?_)));refine pU I (fC ao I zT3 I hb1) (pK I (aZ (e:=encCell) (o:=1) (j:=0) (u:=vi x.dim) iT3 I hrs.rd I I) (yM I (pU I (iA aA au I I hb1 dC (show (0:Int)<((1:Nat):Int) by decide)) ?_)));refine pU I (fC ao I bI I hb1) (pK I (aZ (e:=encCell) (o:=2) (j:=0) (u:=.slice rp x.sides.length rd) cQ I hrs.rd I I) (SP.o I (cL call49 I (od E g _ _ x.sides hsd hxl)) dC (.inr iR) ?_));rintro v24 g1 _ ⟨rfl,hle1,hs1⟩;obtain ⟨q,d,rfl⟩:=za2 hs1;refine pU I (za1 I (buildF63 _ _ _ I)) (SP.o I (bS sty28 I I I (ab sB) dC) dC (.inr iR) ?_);rintro _ _ _ ⟨b26,rfl,rfl,rfl⟩;refine pU I (aS I) (pN (tN (rE (tR (ST.freeze fun g2 hle2 hb=>?_)))));exact za6 (.inl I) results96 I ⟨I,hle1.trans hle2,[⟨x.id,x.dim,⟨q,(sortBy aj.cell x.sides).length,d⟩⟩],SlA.lit hb I I,⟨⟨I,I,hs1.mono hle2⟩,trivial⟩⟩
   ·have hm1:l.length / 2<l.length:=oM;have hm0:0<l.length / 2:=oM;have hc1:=am.cut hv (a:=0) (b:=l.length / 2) oM oM;have hc2:=am.cut hv (a:=l.length / 2) (b:=l.length) oM oM;rw[List.drop_zero,Nat.sub_zero] at hc1;rw[tL (by rw[ze7]; exact lR _)] at hc2;have hf1:cR (l.take (l.length / 2)):=⟨by rw[ze2]; omega,fun c hc=>hf.2 c (List.mem_of_mem_take hc)⟩;have hf2:cR (l.drop (l.length / 2)):=⟨by rw[ze7]; omega,fun c hc=>hf.2 c (List.mem_of_mem_drop hc)⟩;have hca:=ay (l.take (l.length / 2));have hcb:=ay (l.drop (l.length / 2));have hsa:=gp (l.take (l.length / 2));have hsb:=gp (l.drop (l.length / 2));have hst:aN Cl.id (l.map cG) (aa (l.take (l.length / 2))++aa (l.drop (l.length / 2))):=by
     have h2:=(nt (l.take (l.length / 2))).append (nt (l.drop (l.length / 2)));rwa [← zg3,zi7] at h2
    rw[ze2] at hca;rw[ze7] at hcb;refine kP (tN (sW I (lM I (lU (eN aA I) (lU (SU.eq (v':=vi ((l.length / 2:Nat):Int)) (SU.quo I I dC) (zd9 vi (kl _ oM))) (lU (SU.sliceH aA au I I oM oM) (lW (cL call96 I (ih g _ _ (l.take (l.length / 2)) (by rw[ze2]; omega) hc1 hf1)) ?_)))))));rintro va0 g1 _ ⟨rfl,hle1,hA⟩;refine aT I (sW I (lM I (lU (eN aA I) (lU (SU.eq (v':=vi ((l.length / 2:Nat):Int)) (SU.quo I I dC) (zd9 vi (kl _ oM))) (lU (SU.sliceL aA au I I oM oM) (lW (cL call96 I (ih g1 _ _ (l.drop (l.length / 2)) (by rw[ze7]; omega) (hc2.mono hle1) hf2)) ?_))))));rintro vb0 g2 _ ⟨rfl,hle2,hB⟩;refine aT I (rZ (aT I ?_));generalize hA0:aa (l.take (l.length / 2))=A0 at *;generalize hB0:aa (l.drop (l.length / 2))=B0 at *;refine zb4 63 3 ?_;refine SC.cut (ι:=Value×Value×Value×List Cl×List Cl×List Cl×List Rc) (fun i=>[(3,i.1),(4,i.2.1),(5,i.2.2.1)]) (fun _=>g2) (fun i=>rowA encCell 63 i.2.2.1 i.2.2.2.2.2.2::s)
     (fun i=>am g2 i.1 i.2.2.2.1∧am g2 i.2.1 i.2.2.2.2.1∧az (aC g2) i.2.2.2.2.2.1 i.2.2.2.2.2.2∧i.2.2.2.2.2.1++i.2.2.2.1++i.2.2.2.2.1=aa l) ?_ ?_
    ·refine bK ?_;refine oP (ι:=Value×Value×Value×List Cl×List Cl×List Cl×List Cl×List Cl×List Rc) (fun i=>[(3,i.1),(4,i.2.1),(5,i.2.2.1)]) (fun _=>g2) (fun i=>rowA encCell 63 i.2.2.1 i.2.2.2.2.2.2.2.2::s)
      (fun i=>(am g2 i.1 i.2.2.2.2.1∧am g2 i.2.1 i.2.2.2.2.2.2.1)∧az (aC g2) i.2.2.2.2.2.2.2.1 i.2.2.2.2.2.2.2.2∧A0=i.2.2.2.1++i.2.2.2.2.1∧B0=i.2.2.2.2.2.1++i.2.2.2.2.2.2.1∧Srt Cl.id i.2.2.2.2.2.2.2.1∧aN Cl.id (i.2.2.2.1++i.2.2.2.2.2.1) i.2.2.2.2.2.2.2.1 ∧
       (∀ y∈i.2.2.2.2.2.2.2.1,∀ z∈i.2.2.2.2.1++i.2.2.2.2.2.2.1,y.id≤z.id)∧(∀ y∈i.2.2.2.2.2.1,∀ z∈i.2.2.2.2.1,y.id<z.id)) (fun i=>i.2.2.2.2.1.length+i.2.2.2.2.2.2.1.length)
      (va0,vb0,.slice none 0 0,[],A0,[],B0,[],[]) sB rfl rfl ⟨⟨hA.mono hle2,hB⟩,trivial,rfl,rfl,Srt.nil,aN.refl _,by simp,by simp⟩ ?_
     rintro ⟨va,vb1,vo,A1,A2,B1,B2,out,ro⟩ ⟨⟨hva,hvb⟩,hro,hA',hB',hso,hto,hout,hlt⟩;dsimp only at hva hvb hro hA' hB' hso hto hout hlt ⊢;have hol:out.length=A1.length+B1.length:=by have:=hto.1; simpa using this
     have hrol:=hro.length;have hAl:A0.length=A1.length+A2.length:=by rw[hA']; simp
     have hBl:B0.length=B1.length+B2.length:=by rw[hB']; simp
     rw[hA'] at hsa;rw[hB'] at hsb;have hsa2:=(Srt.append_iff.1 hsa).2.1;have hsb2:=(Srt.append_iff.1 hsb).2.1;obtain ⟨pa,ca,rfl⟩:=hva.form;obtain ⟨pb,cb,rfl⟩:=hvb.form;have hcapa:=(am.cap hva).2;have hcapb:=(am.cap hvb).2;have hfin:A2=[]∨B2=[]→out++A2++B2=aa l:=fun h=>by
      rw[k9];refine dK ?_ ?_
      ·rw[zg6];refine Srt.append_iff.2 ⟨hso,?_,hout⟩
       rcases h with rfl | rfl
       ·simpa using hsb2
       ·simpa using hsa2
      ·refine hst.trans ?_;rw[hA',hB']
       rcases h with rfl | rfl
       ·have h2:=hto.append (aN.refl (key:=Cl.id) B2);simpa using h2
       ·have h3:aN Cl.id (A2++B1) (B1++A2):=aN.swap (fun x hx y hy=>by have:=hlt y hy x hx; omega);have h4:=(aN.refl (key:=Cl.id) A1).append h3;have h5:=hto.append (aN.refl (key:=Cl.id) A2);simp only[zc3,zg6] at h4 h5 ⊢;exact h4.trans h5
     cases A2 with
     | nil =>
      refine sQ (sW I (lU (eN aA I) (lU (SU.eq (v':=vb false) (gR I I) I) (lM I (yA I (yA I (yA I (yF I (tZ (cF I (xI (tX (tX (bX ?_))))))))))))));exact za7 (_,_,vo,[],B2,out,ro) sB I I ⟨hva,hvb,hro,hfin (.inl I)⟩
     | cons x A3 =>
      have hpa:(0:Int)<((x::A3).length:Int):=by simp
      cases B2 with
      | nil =>
       refine sQ (sW I (lU (eN aA I) (lU (SU.eq (v':=vb true) (gR I I) (zd9 vb (zf6 hpa))) (lM I (yC I (lY I I I (eN aA I) (lY I I I (SU.eq (v':=vb false) (gR I I) I) (yP I (tZ (cF I (xI (tX (tX (bX ?_))))))))))))));exact za7 (_,_,vo,x::A3,[],out,ro) sB I I ⟨hva,hvb,hro,hfin (.inr I)⟩
      | cons y B3 =>
       have hpb:(0:Int)<((y::B3).length:Int):=by simp
       obtain ⟨ra,hra,halla⟩:=hva;obtain ⟨rb,hrb,hallb⟩:=hvb;have hva:am g2 _ (x::A3):=⟨ra,hra,halla⟩;have hvb:am g2 _ (y::B3):=⟨rb,hrb,hallb⟩;have hna:=am.cut hva (a:=1) (b:=(x::A3).length) (by simp) (lR _);have hnb:=am.cut hvb (a:=1) (b:=(y::B3).length) (by simp) (lR _);have hda:((x::A3).drop 1).take ((x::A3).length - 1)=A3:=by simp
       have hdb:((y::B3).drop 1).take ((y::B3).length - 1)=B3:=by simp
       rw[hda] at hna;rw[hdb] at hnb;obtain ⟨x',ra',rfl,hx,_⟩:=az.cons_left halla;obtain ⟨y',rb',rfl,hy,_⟩:=az.cons_left hallb;have hba:=hra.based (by simp);have hbb:=hrb.based (by simp);have hlen3:A3.length+1+(B3.length+1)+out.length≤l.length:=by simp only[ze6] at hAl hBl; omega
       refine sQ (sW I (lU (eN aA I) (lU (SU.eq (v':=vb true) (gR I I) (zd9 vb (zf6 hpa))) (lM I (yC I (lY I I I (eN aA I) (lY I I I (SU.eq (v':=vb true) (gR I I) (zd9 vb (zf6 hpb))) (yP I (tZ (cT I (kP (tN (bK (sQ ?_))))))))))))));refine dW [] [(0,2),(1,2),(2,2),(3,1),(4,2),(5,2),(6,2),(7,1),(8,2)] ze1 kR ?_;refine yM I (pU I (iA aA au I I hbb dC hpb) (pU I (fC ao I zT3 I hbb) (pK I (aZ (e:=encCell) (o:=0) (j:=0) (u:=vi y'.id) iT3 I hrb.rd I I) (yM I (pU I (iA aA au I I hba dC hpa) (pU I (fC ao I zT3 I hba) (pK I (aZ (e:=encCell) (o:=0) (j:=0) (u:=vi x'.id) iT3 I hra.rd I I) (pU I (lS I I) (pN (tN ?_))))))))));refine iP I (fun hc=>?_) (fun hc=>?_)
       ·refine sW I (lM I (lU (iA aA au I I hbb dC hpb) (lK (eA (e:=encCell) (a:=y') (j:=0) eX au I hrb.rd I) (lW (bS sty28 I I I (ab sB) dC) ?_))));rintro _ _ _ ⟨b60,rfl,rfl,rfl⟩;refine lW (aP (e:=encCell) 0 y' sty28 I I I I I oM oM) ?_;rintro v61 _ _ ⟨rfl,rfl⟩;refine aT I (rG (lM I (lU (SU.sliceL aA au I I dC (by simp only[ze6]; omega)) ?_)));refine lA I (nL (bN ?_));rw[hx.1,hy.1] at hc;refine gA (_,_,v61,A1,x::A3,B1++[y],B3,out++[y],ro++[y']) sB I I ⟨⟨hva,hnb⟩,hro.append ⟨hy,trivial⟩,hA',by rw[hB']; simp,?_,?_,?_,?_⟩ lN
        ·refine Srt.append_iff.2 ⟨hso,Srt.one y,fun a ha b hb=>?_⟩;simp at hb; subst hb; exact hout a ha b (by simp)
        ·have h2:=hto.append (aN.refl (key:=Cl.id) [y]);simpa using h2
        ·intro a ha b hb;dsimp only at ha hb
         rcases zf1.1 ha with ha | ha
         ·refine hout a ha b ?_;simp at hb ⊢
          rcases hb with h | h | h
          ·exact .inl h
          ·exact .inr (.inl h)
          ·exact .inr (.inr (.inr h))
         ·simp at ha; subst ha
          rcases zf1.1 hb with hb | hb
          ·rcases ze8.1 hb with rfl | hb
           ·omega
           ·have:=(Srt.cons_iff.1 hsa2).1 b hb; omega
          ·exact (Srt.cons_iff.1 hsb2).1 b hb
        ·intro a ha b hb;dsimp only at ha hb
         rcases zf1.1 ha with ha | ha
         ·exact hlt a ha b hb
         ·simp at ha; subst ha
          rcases ze8.1 hb with rfl | hb
          ·omega
          ·have:=(Srt.cons_iff.1 hsa2).1 b hb; omega
       ·refine sW I (lM I (lU (iA aA au I I hba dC hpa) (lK (eA (e:=encCell) (a:=x') (j:=0) eX au I hra.rd I) (lW (bS sty28 I I I (ab sB) dC) ?_))));rintro _ _ _ ⟨b68,rfl,rfl,rfl⟩;refine lW (aP (e:=encCell) 0 x' sty28 I I I I I oM oM) ?_;rintro v69 _ _ ⟨rfl,rfl⟩;refine aT I (rG (lM I (lU (SU.sliceL aA au I I dC (by simp only[ze6]; omega)) ?_)));refine lA I (nL (bN ?_));rw[hx.1,hy.1] at hc;refine gA (_,_,v69,A1++[x],A3,B1,y::B3,out++[x],ro++[x']) sB I I ⟨⟨hna,hvb⟩,hro.append ⟨hx,trivial⟩,by rw[hA']; simp,hB',?_,?_,?_,?_⟩ lN
        ·refine Srt.append_iff.2 ⟨hso,Srt.one x,fun a ha b hb=>?_⟩;simp at hb; subst hb; exact hout a ha b (by simp)
        ·have h2:aN Cl.id ([x]++B1) (B1++[x]):=aN.swap (fun a ha b hb=>by simp at ha; subst ha; have:=hlt b hb a (by simp); omega);have h3:=(aN.refl (key:=Cl.id) A1).append h2;have h4:=hto.append (aN.refl (key:=Cl.id) [x]);dsimp only;simp only[zg6] at h3 h4 ⊢;exact h3.trans h4
        ·intro a ha b hb;dsimp only at ha hb
         rcases zf1.1 ha with ha | ha
         ·refine hout a ha b ?_;simp at hb ⊢
          rcases hb with h | h | h
          ·exact .inr (.inl h)
          ·exact .inr (.inr (.inl h))
          ·exact .inr (.inr (.inr h))
         ·simp at ha; subst ha
          rcases zf1.1 hb with hb | hb
          ·exact (Srt.cons_iff.1 hsa2).1 b hb
          ·rcases ze8.1 hb with rfl | hb
           ·omega
           ·have:=(Srt.cons_iff.1 hsb2).1 b hb; omega
        ·intro a ha b hb;exact hlt a ha b (by simp[hb])
    ·rintro ⟨va,vb1,vo,A2,B2,out,ro⟩ ⟨hva,hvb,hro,hres⟩;dsimp only at hva hvb hro hres ⊢;obtain ⟨ra,hra,halla⟩:=hva;obtain ⟨rb,hrb,hallb⟩:=hvb;have hl1:=zd9 List.length hres;rw[ay] at hl1;simp only[ze3] at hl1;have e1:=hro.length;have e2:=halla.length;have e3:=hallb.length;refine sW I (lM I (lW (aQ (e:=encCell) 0 sty28 I I I hra oM oM) ?_));rintro v74 _ _ ⟨rfl,rfl⟩;refine lM I (lW (aQ (e:=encCell) 0 sty28 I I I hrb lN lN) ?_);rintro v76 _ _ ⟨rfl,rfl⟩;refine aT I (rE (fT fun g3 hle3 hs3=>?_));exact za6 (.inl I) results96 I ⟨I,hle1.trans (hle2.trans hle3),ro++ra++rb,hs3,by rw[← hres]; exact (((hro.append halla).append hallb).mono fun _ _=>aC.mono hle3)⟩
theorem ew (E:World)(g:PH)(s:Own)(v:Value)(l:List Cl)(hv:am g v l)(hf:cR l) :
  Ctr Tryz.prog E 75 #[.agg #[v]] g s (fun r g' s'=>s=s'∧Le g g'∧∃ u,r = .agg #[u]∧am g' u (aa l)):=by
 obtain ⟨p,c,rfl⟩:=hv.form;refine za9 (args:=[.agg #[.slice p l.length c]]) func75 I ntmps75 (bE I) ?_;refine rZ (bW (bO I) fun b1=>?_);refine bW (aL zk9) fun b2=>?_;refine tZ (rZ (lU (fA ed I c8 I) (lK (qL eY I (cO 1 I I)) (lW (cL call96 I (ja E l.length g _ _ l (lR _) hv hf)) ?_))));rintro v5 g1 _ ⟨rfl,hle,h5⟩;obtain ⟨q,d,rfl⟩:=h5.form;refine lU (za1 I (build30 _ I)) (oZ (sK 0 aw I I I I I sB) ?_);refine tZ (rE ?_);exact ST.retCD 0 s (.inl I) results75 I bh aw I I uR ⟨I,hle,_,I,h5⟩
theorem yr (l:List Cl):∀ (acc:List Cl) (c:Cl),(c∈acc∨c∈l)→∃ x∈l.foldl fE acc,x.id=c.id:=by
 induction l with
 | nil=>intro acc c h; rcases h with h | h; exact⟨c,h,I⟩; simp at h
 | cons y r ih =>
  intro acc c h;simp only[zi5]
  rcases h with h | h
  ·exact ih (fE acc y) c (.inl (by unfold fE; split; exact h; simp[h]))
  ·rcases ze8.1 h with rfl | h
   ·by_cases ha:acc.any (fun x=>x.id == c.id)=true
    ·rw[pF ha];rw[zj3] at ha;obtain ⟨z,hz,he⟩:=ha;obtain ⟨x,hx,hxe⟩:=ih acc z (.inl hz);exact⟨x,hx,by rw[hxe]; simpa using he⟩
    ·have ha':acc.any (fun x=>x.id == c.id)=false:=by simpa using ha
     rw[ka ha'];exact ih _ c (.inl (by simp))
   ·exact ih _ c (.inr h)
theorem Bu {L:List Cl}(hs:Srt Cl.id L){k:Nat}(h0:0<k)(hk:k<L.length):((L.take k).foldl fE []).any (fun x=>x.id == L[k].id)=decide (L[k].id=(L[k - 1]'oM).id):=by
 rw[Bool.eq_iff_iff,zj3,zj1];constructor
 ·rintro ⟨x,hx,he⟩;have hm:=(qz _ [] x hx).resolve_left (by simp);obtain ⟨j,hj,rfl⟩:=zc4 hm;rw[ze2] at hj;rw[List.getElem_take] at he;have he':(L[j]'oM).id=L[k].id:=by simpa using he
  rcases Nat.lt_or_ge j (k - 1) with h | h
  ·have h1:=zc6.1 hs j (k - 1) oM oM h;have h2:=zc6.1 hs (k - 1) k oM hk oM;omega
  ·have:j=k - 1:=oM;subst this;exact he'.symm
 ·intro he;have hm:(L[k - 1]'oM)∈L.take k:=by
   have:k - 1<(L.take k).length:=by rw[ze2]; omega
   have h2:=gM this;rwa [List.getElem_take] at h2
  obtain ⟨x,hx,hxe⟩:=yr (L.take k) [] _ (.inr hm);exact⟨x,hx,by rw[hxe,← he]; simp⟩
theorem bJ (E:World)(g:PH)(s:Own)(v:Value)(l:List Cl)(hv:am g v l)(hf:cR l) :
  Ctr Tryz.prog E 61 #[.agg #[v]] g s (fun r g' s'=>s=s'∧Le g g'∧am g' r (ae l)):=by
 obtain ⟨p,c,rfl⟩:=hv.form;have hsrt:=gp l;have hcl:=ay l;have hfl:=hf.1;refine za9 (args:=[.agg #[.slice p l.length c]]) func61 I ntmps61 (bE I) ?_;refine rZ (bW (bO I) fun b1=>?_);refine aT I (rZ (lU (fA ed I c8 I) (lK (qL eY I (cO 0 I I)) (lW (cL call96 I (ja E l.length g _ _ l (lR _) hv hf)) ?_))));rintro v8 g1 _ ⟨rfl,hle,h8⟩;obtain ⟨rs,hrs,hall⟩:=h8;have hrl:=hall.length;obtain ⟨q,d,rfl⟩:=hrs.form;refine aT I (rZ (aT I (sQ (rZ (aT I (bK (zb4 63 3 ?_)))))));refine oP (ι:=Value×Nat×List Rc) (fun i=>[(3,.slice q rs.length d),(4,i.1),(5,vi i.2.1)]) (fun _=>g1) (fun i=>rowA encCell 63 i.1 i.2.2::pt b1 (.cells #[.slice p l.length c] 30 (0,0))::s)
  (fun i=>i.2.1≤rs.length∧az (aC g1) (((aa l).take i.2.1).foldl fE []) i.2.2) (fun i=>rs.length - i.2.1) (.slice none 0 0,0,[]) sB rfl rfl ⟨zf4 _,by simp[az]⟩ ?_
 rintro ⟨ov,k,acc⟩ ⟨hk,hacc⟩;dsimp only at hk hacc ⊢;have hal:=hacc.length;have hal2:=e9 ((aa l).take k) [];simp only[ze2,zc1] at hal2;refine sQ (sW I (lM I (lU (eN aA I) (yL I (tZ ?_)))));refine iP I (fun hlt=>?_) (fun hlt=>?_)
 ·have hkr:k<rs.length:=oM;have hkl:k<(aa l).length:=oM;have hb1:=hrs.based oM;have hcr:=hall.get (gE hkl) (gE hkr);have htake:((aa l).take (k+1)).foldl fE []=fE (((aa l).take k).foldl fE []) (aa l)[k]:=by
   rw[tS hkl,zi6]; rfl
  have hgx:rs[((k:Nat):Int).toNat]?=some rs[k]:=gE hkr;have hnew:fE (((aa l).take k).foldl fE []) (aa l)[k]=((aa l).take k).foldl fE []++[(aa l)[k]]→az (aC g1) (((aa l).take (k+1)).foldl fE []) (acc++[rs[k]]):=fun h=>by
   rw[htake,h]; exact hacc.append ⟨hcr,trivial⟩
  by_cases hk0:k=0
  ·subst hk0;refine kP (tN (sQ (bK (sQ ?_))));refine dW [] [(0,2),(1,2),(2,2),(3,2),(4,2),(5,2),(6,2),(7,1),(8,2),(9,2),(10,2),(11,2),(12,2),(13,1),(14,2),(15,2)] ze1 kR ?_;refine yM I (pU I (SU.eq (v':=vb true) (eQ I I) I) (yM I (yG I (yG I (yG I (yG I (yI I (yG I (yG I (yG I (yG I (yG I (yI I (yG I (pU I (wT I I) (pN (tN (cT I (rG (lM I (lM I (lM I (lU (iA aA au I I hb1 oM sL) (lK (eA eX au I hrs.rd hgx) (lW (bS sty28 I I I (ab sB) dC) ?_)))))))))))))))))))))))));rintro _ _ _ ⟨b36,rfl,rfl,rfl⟩;refine lW (aP (e:=encCell) 0 rs[0] sty28 I I I I I oM oM) ?_;rintro v37 _ _ ⟨rfl,rfl⟩;refine lA I (nL (bN (tN (rG (lM I (yD I (lA I (nL ?_))))))));exact gA (v37,0+1,acc++[rs[0]]) sB I I ⟨lN,hnew (ka (by simp))⟩ lN
  ·have hk1:k - 1<rs.length:=oM;have hk1l:k - 1<(aa l).length:=oM;have hany:=Bu hsrt (by omega:0<k) hkl;have hcr1:=hall.get (gE hk1l) (gE hk1);have hgy:rs[((k:Int) - 1).toNat]?=some rs[k - 1]:=by rw[show ((k:Int) - 1).toNat=k - 1 by omega]; exact gE hk1
   refine kP (tN (sQ (bK (sQ ?_))));refine dW [] [(0,2),(1,2),(2,2),(3,2),(4,2),(5,2),(6,2),(7,1),(8,2),(9,2),(10,2),(11,2),(12,2),(13,1),(14,2),(15,2)] ze1 kR ?_;refine yM I (pU I (SU.eq (v':=vb false) (eQ I I) (zd9 vb (zf5 oM))) (yM I (yJ I (yJ I (zb1 I (gT I I I dC) (iA aA au I I hb1 oM sL) dC (zb1 I (gT I I I dC) (fC ao I zT3 I hb1) dC (SP.gq I (gT I I I dC) (aZ (e:=encCell) (o:=0) (u:=vi rs[k].id) iT3 I hrs.rd hgx I) dC (yJ I (yJ I (zb1 I (gT I I I dC) (sU I I oM) dC (zb1 I (gT I I I dC) (iA aA au I I hb1 oM sL) dC (zb1 I (gT I I I dC) (fC ao I zT3 I hb1) dC (SP.gq I (gT I I I dC) (aZ (e:=encCell) (o:=0) (u:=vi rs[k - 1].id) iT3 I hrs.rd hgy I) dC (zb1 I (gT I I I dC) (nQ I I) dC (pU I (wF I I) (pN (tN ?_)))))))))))))))));refine iP I (fun hne=>?_) (fun hne=>?_)
   ·refine rG (lM I (lM I (lM I (lU (iA aA au I I hb1 oM sL) (lK (eA eX au I hrs.rd hgx) (lW (bS sty28 I I I (ab sB) dC) ?_))))));rintro _ _ _ ⟨b36,rfl,rfl,rfl⟩;refine lW (aP (e:=encCell) 0 rs[k] sty28 I I I I I oM oM) ?_;rintro v37 _ _ ⟨rfl,rfl⟩;refine lA I (nL (bN (tN (rG (lM I (yD I (lA I (nL ?_))))))));rw[hcr.1,hcr1.1] at hne;exact gA (v37,k+1,acc++[rs[k]]) sB I I ⟨lN,hnew (ka (by rw[hany]; exact zf5 hne))⟩ lN
   ·refine kP (bN (tN (rG (lM I (yD I (lA I (nL ?_)))))));rw[hcr.1,hcr1.1] at hne;exact gA (ov,k+1,acc) sB I I ⟨lN,by dsimp only; rw[htake,pF (by rw[hany]; exact zf6 (zg7 hne))]; exact hacc⟩ lN
 ·have hkk:(aa l).take k=aa l:=tL oM;rw[hkk] at hacc;refine xI (tX (tX (bX (tN (sW I (aT I (rE (fT fun g2 hle2 hs2=>?_))))))));refine dR (s':=s) uR ?_;exact za6 (.inl I) results61 I ⟨I,hle.trans hle2,acc,hs2,hacc.mono fun _ _=>aC.mono hle2⟩
def atC (l:List Cl)(id:Int):Int:=if (l.map Cl.id).contains id then lbI (l.map Cl.id) id else -1
theorem eR (E:World)(g:PH)(s:Own)(v:Value)(l:List Cl)(id:Int)(hv:am g v l)(hl:l.length<1099511627776)(hs:(l.map Cl.id).Pairwise (· ≤ ·)) :
  Ctr Tryz.prog E 62 #[v,vi id] g s (fun r g' s'=>r=vi (atC l id)∧g=g'∧s=s'):=by
 obtain ⟨rs,hrs,hall⟩:=hv;have hrl:=hall.length;obtain ⟨p,c,rfl⟩:=hrs.form;have hids:=pE hall;have hml:(l.map Cl.id).length=l.length:=by simp
 have hri:∀ k (h:k<(l.map Cl.id).length) (h2:k<rs.length),(l.map Cl.id)[k]=rs[k].id:=fun k h h2=>by simp only[hids]; simp
 unfold atC;refine za9 (args:=[.slice p rs.length c,vi id]) func62 I ntmps62 (bE I) ?_;refine rZ (aT I (rZ (aT I (sW I (lU (eN aA I) (aT I ?_))))));generalize l.map Cl.id=L at *;refine SC.cut (ι:=Nat) (fun i=>[(0,.slice p rs.length c),(1,vi id),(5,vi i)]) (fun _=>g) (fun _=>s) (fun i=>i≤L.length∧(∀ k (h:k<L.length),k<i→L[k]<id)∧∀ k (h:k<L.length),i≤k→id≤L[k]) ?_ ?_
 ·refine bK ?_;refine oP (ι:=Nat×Nat) (fun q=>[(0,.slice p rs.length c),(1,vi id),(5,vi q.1),(6,vi q.2)]) (fun _=>g) (fun _=>s)
   (fun q=>q.1≤q.2∧q.2≤L.length∧(∀ k (h:k<L.length),k<q.1→L[k]<id)∧∀ k (h:k<L.length),q.2≤k→id≤L[k]) (fun q=>q.2 - q.1) (0,L.length)
   ⟨rfl,rfl,rfl,bP oM,trivial⟩ rfl rfl ⟨zf4 _,lR _,fun k _ h=>absurd h oM,fun k h1 h2=>absurd h1 (by dsimp only at h2; omega)⟩ ?_
  rintro ⟨i,j⟩ ⟨hij,hj,hlo,hhi⟩;dsimp only at hij hj hlo hhi ⊢;refine sQ (sW I (lM I (yL I (tZ ?_))));refine iP I (fun hlt=>?_) (fun hlt=>?_)
  ·have hb1:=hrs.based oM;have hml2:(i+j) / 2<L.length:=oM;have hmr:(i+j) / 2<rs.length:=oM;have hmx:rs[((((i+j) / 2:Nat):Int)).toNat]?=some rs[(i+j) / 2]:=gE hmr;have hmi:=hri _ hml2 hmr;refine kP (tN (bK (sW I (lM I (yD I (lU (SU.eq (v':=vi (((i+j) / 2:Nat):Int)) (SU.quo I I dC) (zd9 vi (by rw[← Int.natCast_add]; exact kl _ oM))) ?_))))));refine aT I (sW I (lM I (lU (iA aA au I I hb1 oM sL) (lU (fC ao I zT3 I hb1) (lK (aZ (e:=encCell) (o:=0) (u:=vi rs[(i+j) / 2].id) iT3 I hrs.rd hmx I) (lM I (yL I (tZ ?_))))))));refine iP I (fun hc=>?_) (fun hc=>?_)
   ·refine rG (lM I (yD I (lA I (nL (bN ?_)))));refine gA ((i+j) / 2+1,j) sB I I ⟨lN,hj,fun k hk h=>?_,hhi⟩ lN;dsimp only at h;rw[← hmi] at hc
    rcases Nat.eq_or_lt_of_le (show k≤(i+j) / 2 by omega) with rfl | h'
    ·exact hc
    ·have:=zc6.1 hs k ((i+j) / 2) hk hml2 h';omega
   ·refine rG (lM I (lA I (nL (bN ?_))));refine gA (i,(i+j) / 2) sB I I ⟨lN,lN,hlo,fun k hk h=>?_⟩ lN;dsimp only at h;rw[← hmi] at hc
    rcases Nat.eq_or_lt_of_le (show (i+j) / 2≤k by omega) with h' | h'
    ·subst h'; omega
    ·have:=zc6.1 hs ((i+j) / 2) k hml2 hk h';omega
  ·have hie:i=j:=oM;subst hie;refine xI (tX (tX (bX ?_)));exact za7 i sB I I ⟨hj,hlo,hhi⟩
 ·rintro i ⟨hj,hlo,hhi⟩;have hlb:=CZ hj hlo hhi;by_cases hin:(i:Int)<(rs.length:Int)
  ·have hir:i<rs.length:=oM;have hil:i<L.length:=oM;have hb1:=hrs.based oM;have hmx:rs[((i:Nat):Int).toNat]?=some rs[i]:=gE hir;have hmi:=hri _ hil hir;have hfnd:=Ai hs hlo hhi hil;refine sQ (sW I (lM I (lU (eN aA I) (lU (SU.eq (v':=vb true) (lS I I) (zd9 vb (zf6 hin))) (lM I (yC I (yC I (lY I I I (iA aA au I I hb1 oM sL) (lY I I I (fC ao I zT3 I hb1) (SL.gq (gT I I I dC) (aZ (e:=encCell) (o:=0) (u:=vi rs[i].id) iT3 I hrs.rd hmx I) dC (yC I (lY I I I (eQ I I) (yP I (tZ ?_))))))))))))));refine iP I (fun hc=>?_) (fun hc=>?_)
   ·refine sW I (aT I (rE (tR ?_)));rw[← hmi] at hc;exact za6 (.inl I) results62 I ⟨by rw[← hfnd,zf6 hc,zf8 I,hlb],I,I⟩
   ·refine kP (tN (rZ (aT I (rE ?_))));rw[← hmi] at hc;exact za6 (.inl I) results62 I ⟨by rw[← hfnd,zf5 hc]; rfl,rfl,rfl⟩
  ·have hnf:=zV hlo oM;refine sQ (sW I (lM I (lU (eN aA I) (lU (SU.eq (v':=vb false) (lS I I) (zd9 vb (zf5 hin))) (lM I (yA I (yA I (yA I (yA I (yA I (yA I (yA I (yF I (tZ (cF I (kP (tN (rZ (aT I (rE ?_))))))))))))))))))));exact za6 (.inl I) results62 I ⟨by rw[hnf]; rfl,rfl,rfl⟩
theorem yg {l:List Int}(hs:l.Pairwise (· ≤ ·))(x:Int):(∀ k (h:k<l.length),k<lbI l x→l[k]<x)∧(∀ k (h:k<l.length),lbI l x≤k→x≤l[k]):=by
 induction l with
 | nil=>exact⟨fun k h=>absurd h (by simp),fun k h=>absurd h (by simp)⟩
 | cons a r ih =>
  obtain ⟨h1,h2⟩:=zj6.1 hs;obtain ⟨i1,i2⟩:=ih h2;by_cases ha:a<x
  ·have hl:lbI (a::r) x=lbI r x+1:=by simp[lbI,ha]
   rw[hl];refine⟨fun k h hk=>?_,fun k h hk=>?_⟩
   ·cases k with
    | zero=>exact ha
    | succ k=>exact i1 k (by simpa using h) oM
   ·cases k with
    | zero=>omega
    | succ k=>exact i2 k (by simpa using h) oM
  ·have hz:lbI (a::r) x=0:=by
    unfold lbI;rw[List.length_eq_zero_iff,List.filter_eq_nil_iff];intro y hy
    rcases ze8.1 hy with rfl | hy
    ·simpa using Int.not_lt.1 ha
    ·have:=h1 y hy; simp; omega
   rw[hz];refine⟨fun k h hk=>absurd hk oM,fun k h _=>?_⟩;cases k with
   | zero=>exact Int.not_lt.1 ha
   | succ k =>
    have hk':k<r.length:=by simpa using h
    have:=h1 r[k] (gM hk');simp;omega
theorem kM {tl:List Cl}(hs:(tl.map Cl.id).Pairwise (· ≤ ·))(id:Int):(aJ tl id=none∧atC tl id = -1)∨∃ c k,aJ tl id=some c∧atC tl id=((k:Nat):Int)∧tl[k]?=some c:=by
 obtain ⟨h1,h2⟩:=yg hs id;by_cases hc:(tl.map Cl.id).contains id=true
 ·right;have hm:id∈tl.map Cl.id:=by simpa using hc
  obtain ⟨c0,hc0,e0⟩:=ze9.1 hm;cases hf:aJ tl id with
  | none =>
   have:=List.find?_eq_none.1 hf c0 hc0;simp[e0] at this
  | some c =>
   have hi:lbI (tl.map Cl.id) id<tl.length:=by
    rcases Nat.lt_or_ge (lbI (tl.map Cl.id) id) tl.length with h | h
    ·exact h
    ·obtain ⟨j,hj,rfl⟩:=zc4 hc0;have:=h1 j (by simpa using hj) oM;simp at this;omega
   refine⟨c,lbI (tl.map Cl.id) id,I,by unfold atC; rw[zf8 hc],?_⟩;rw[gE hi];have hge:=h2 _ (by simpa using hi) (lR _);have hid:tl[lbI (tl.map Cl.id) id].id=id:=by
    obtain ⟨j,hj,rfl⟩:=zc4 hc0;have hji:lbI (tl.map Cl.id) id≤j:=by
     rcases Nat.lt_or_ge j (lbI (tl.map Cl.id) id) with h | h
     ·have:=h1 j (by simpa using hj) h; simp at this; omega
     ·exact h
    rcases Nat.eq_or_lt_of_le hji with h | h
    ·simp only[h]; exact e0
    ·have h3:=zc6.1 hs _ j (by simpa using hi) (by simpa using hj) h;simp at h3 hge;omega
   unfold aJ at hf;rw[List.find?_eq_some_iff_getElem] at hf;obtain ⟨hp,j,hj,ej,hlt⟩:=hf;have hp':c.id=id:=by simpa using hp
   congr 1;rw[← ej];have hji:j=lbI (tl.map Cl.id) id:=by
    rcases Nat.lt_trichotomy j (lbI (tl.map Cl.id) id) with h | h | h
    ·have:=h1 j (by simpa using hj) h; simp[ej,hp'] at this
    ·exact h
    ·have:=hlt _ h; simp[hid] at this
   simp only[hji]
 ·left;have hn:id ∉ tl.map Cl.id:=by simpa using hc
  refine⟨?_,by unfold atC; rw[zf7 hc]⟩;unfold aJ;rw[List.find?_eq_none];intro x hx;simp;exact fun e=>hn (ze9.2 ⟨x,hx,e⟩)
theorem xF {l:List aj}(h2:l.length=2)(hns:l.any bZ=false):∃ a b,l=[a,b]∧(decide (nA l≠0))=decide (a.sign=b.sign):=by
 match l,h2 with
 | [a,b],_ =>
  simp only[List.any_cons,List.any_nil,Bool.or_false,Bool.or_eq_false_iff] at hns;have e1:a.sign=1∨a.sign = -1:=by
   have h1:=hns.1;simp only[bZ,Bool.and_eq_false_iff,decide_eq_false_iff_not,ne_eq,Decidable.not_not] at h1;exact h1
  have e2:b.sign=1∨b.sign = -1:=by
   have h1:=hns.2;simp only[bZ,Bool.and_eq_false_iff,decide_eq_false_iff_not,ne_eq,Decidable.not_not] at h1;exact h1
  refine⟨a,b,I,?_⟩;rw[Bool.eq_iff_iff];simp[nA];omega
theorem oH (E:World)(g:PH)(s:Own)(v:Value)(tl:List Cl)(c:Cl)(r:Rc)(hv:am g v tl)(htl:tl.length<1099511627776)(hs:(tl.map Cl.id).Pairwise (· ≤ ·))(hc:aC g c r)(hl:c.sides.length<1099511627776) :
  Ctr Tryz.prog E 106 #[v,rcv r] g s (fun r g' s'=>r=vi (cz tl c)∧g=g'∧s=s'):=by
 obtain ⟨rs,hrs,hall⟩:=hv;have hv:am g v tl:=⟨rs,hrs,hall⟩;have hrl:=hall.length;obtain ⟨vp,vc,rfl⟩:=hrs.form;obtain ⟨rp,rcap,rfl,hcs⟩:=dY hc;have hx0:=fun h=>hcs.based h;refine za9 (args:=[.slice vp rs.length vc,.agg #[vi c.id,vi c.dim,.slice rp c.sides.length rcap]]) func106 I ntmps106 (bE I) ?_;refine rZ (bW (bO I) fun b3=>?_);refine aT I (sQ ?_);refine SC.to (g':=g) (s':=pt b3 (.cells #[vi c.id,vi c.dim,.slice rp c.sides.length rcap] 63 (0,0))::s) (fun w hw=>hw) ?_;refine SC.cutB 16 (fv c) ?_ ?_
 ·refine rG (lU (fA ao I zT3 I) (lK (qL (v:=vi c.dim) iT3 I (cO 0 I I)) (yL I (lM I ?_))));refine sP ?_ ?_
  ·intro h12;refine yA I (yA I (yA I (yP I (nL ?_))));exact za8 (by simp_all[bF,fv] <;> omega) mI
  ·intro h12;refine lY I I I (fA ao I zT3 I) (SL.gq (gT I I I dC) (qL (v:=vi c.dim) iT3 I (cO 0 I I)) dC (lY I I I (gR I I) (yF I (nL ?_))));exact za8 (by simp_all[bF,fv] <;> omega) mI
 refine iQ I (fun hdb=>?_) (fun hdb=>?_)
 ·refine rZ (aT I (rE (tR (dR (s':=s) uR ?_))));exact za6 (.inl I) results106 I ⟨by unfold cz; rw[zf8 hdb],I,I⟩
 ·have hd8:0≤c.dim∧c.dim≤8:=by simp[fv] at hdb; omega
  refine kP (tN (rZ (lU (fA ao I bI I) (lK (qL (v:=.slice rp c.sides.length rcap) cQ I (cO 0 I I)) (lU (eN cA I) (aT I (sQ ?_)))))));refine SC.cutB 48 (aU c) ?_ ?_
  ·refine rG (lU (fA ao I zT3 I) (lK (qL (v:=vi c.dim) iT3 I (cO 0 I I)) (yE I (lM I ?_))));refine sP ?_ ?_
   ·intro h23;refine yC I (lY I I I (gR I I) (yP I (lM I ?_)));refine sP ?_ ?_
    ·intro h27;refine yA I (yA I (yA I (yA I (yB I (yB I (yA I (yP I (lM I (yA I (yA I (yA I (yA I (yB I (yB I (yB I (yB I (yB I (yB I (yA I (yP I (nL ?_)))))))))))))))))))));exact za8 (by simp_all[bF,aU] <;> omega) mI
    ·intro h27;refine lY I I I (fA ao I zT3 I) (SL.gq (gT I I I dC) (qL (v:=vi c.dim) iT3 I (cO 0 I I)) dC (lY I I I (eQ I I) (yC I ?_)));refine sP ?_ ?_
     ·intro h31;refine yC I (lY I I I (nQ I I) (lY I I I (wT I I) (yF I (lM I ?_))));refine sP ?_ ?_
      ·intro h36;refine yA I (yA I (yA I (yA I (yB I (yB I (yB I (yB I (yB I (yB I (yA I (yP I (nL ?_))))))))))));exact za8 (by simp_all[bF,aU] <;> omega) mI
      ·intro h36;refine lY I I I (fA ao I zT3 I) (SL.gq (gT I I I dC) (qL (v:=vi c.dim) iT3 I (cO 0 I I)) dC (lY I I I (gR I I) (yC I ?_)));refine sP ?_ ?_
       ·intro h40;refine yC I (lY I I I (lS I I) (yC I ?_));refine sP ?_ ?_
        ·intro h43;refine yA I (yA I (lY I I I (wT I I) (lY I I I (wT I I) (yF I (nL ?_)))));exact za8 (by simp_all[bF,aU] <;> omega) mI
        ·intro h43;refine yC I (lY I I I (gR I I) (lY I I I (wF I I) (lY I I I (wT I I) (yF I (nL ?_)))));exact za8 (by simp_all[bF,aU] <;> omega) mI
       ·intro h40;refine yA I (yA I (yA I (yB I (yB I (yA I (lY I I I (wF I I) (yF I (nL ?_))))))));exact za8 (by simp_all[bF,aU] <;> omega) mI
     ·intro h31;refine yA I (yA I (lY I I I (wF I I) (yF I (lM I (lY I I I (fA ao I zT3 I) (SL.gq (gT I I I dC) (qL (v:=vi c.dim) iT3 I (cO 0 I I)) dC (lY I I I (gR I I) (yC I ?_))))))));refine sP ?_ ?_
      ·intro h40;refine yC I (lY I I I (lS I I) (yC I ?_));refine sP ?_ ?_
       ·intro h43;refine yA I (yA I (lY I I I (wT I I) (lY I I I (wT I I) (yF I (nL ?_)))));exact za8 (by simp_all[bF,aU] <;> omega) mI
       ·intro h43;refine yC I (lY I I I (gR I I) (lY I I I (wF I I) (lY I I I (wT I I) (yF I (nL ?_)))));exact za8 (by simp_all[bF,aU] <;> omega) mI
      ·intro h40;refine yA I (yA I (yA I (yB I (yB I (yA I (lY I I I (wF I I) (yF I (nL ?_))))))));exact za8 (by simp_all[bF,aU] <;> omega) mI
   ·intro h23;refine yA I (yA I (yF I (lM I (lY I I I (fA ao I zT3 I) (SL.gq (gT I I I dC) (qL (v:=vi c.dim) iT3 I (cO 0 I I)) dC (lY I I I (eQ I I) (yC I ?_)))))));refine sP ?_ ?_
    ·intro h31;refine yC I (lY I I I (nQ I I) (lY I I I (wT I I) (yF I (lM I ?_))));refine sP ?_ ?_
     ·intro h36;refine yA I (yA I (yA I (yA I (yB I (yB I (yB I (yB I (yB I (yB I (yA I (yP I (nL ?_))))))))))));exact za8 (by simp_all[bF,aU] <;> omega) mI
     ·intro h36;refine lY I I I (fA ao I zT3 I) (SL.gq (gT I I I dC) (qL (v:=vi c.dim) iT3 I (cO 0 I I)) dC (lY I I I (gR I I) (yC I ?_)));refine sP ?_ ?_
      ·intro h40;refine yC I (lY I I I (lS I I) (yC I ?_));refine sP ?_ ?_
       ·intro h43;refine yA I (yA I (lY I I I (wT I I) (lY I I I (wT I I) (yF I (nL ?_)))));exact za8 (by simp_all[bF,aU] <;> omega) mI
       ·intro h43;refine yC I (lY I I I (gR I I) (lY I I I (wF I I) (lY I I I (wT I I) (yF I (nL ?_)))));exact za8 (by simp_all[bF,aU] <;> omega) mI
      ·intro h40;refine yA I (yA I (yA I (yB I (yB I (yA I (lY I I I (wF I I) (yF I (nL ?_))))))));exact za8 (by simp_all[bF,aU] <;> omega) mI
    ·intro h31;refine yA I (yA I (lY I I I (wF I I) (yF I (lM I (lY I I I (fA ao I zT3 I) (SL.gq (gT I I I dC) (qL (v:=vi c.dim) iT3 I (cO 0 I I)) dC (lY I I I (gR I I) (yC I ?_))))))));refine sP ?_ ?_
     ·intro h40;refine yC I (lY I I I (lS I I) (yC I ?_));refine sP ?_ ?_
      ·intro h43;refine yA I (yA I (lY I I I (wT I I) (lY I I I (wT I I) (yF I (nL ?_)))));exact za8 (by simp_all[bF,aU] <;> omega) mI
      ·intro h43;refine yC I (lY I I I (gR I I) (lY I I I (wF I I) (lY I I I (wT I I) (yF I (nL ?_)))));exact za8 (by simp_all[bF,aU] <;> omega) mI
     ·intro h40;refine yA I (yA I (yA I (yB I (yB I (yA I (lY I I I (wF I I) (yF I (nL ?_))))))));exact za8 (by simp_all[bF,aU] <;> omega) mI
  refine iQ I (fun hcb=>?_) (fun hcb=>?_)
  ·refine rZ (aT I (rE (tR (dR (s':=s) uR ?_))));exact za6 (.inl I) results106 I ⟨by unfold cz; rw[zf7 (by simp[hdb]),zf8 hcb],I,I⟩
  ·refine kP (tN (sQ (rZ (aT I (bK ?_)))));refine oP (ι:=Nat) (fun k=>[(0,.slice vp rs.length vc),(3,pp b3 0),(5,vi c.sides.length),(6,vi k)]) (fun _=>g)
    (fun _=>pt b3 (.cells #[vi c.id,vi c.dim,.slice rp c.sides.length rcap] 63 (0,0))::s) (fun k=>k≤c.sides.length∧(List.range k).any (iU tl c)=false) (fun k=>c.sides.length - k) 0
    sB rfl rfl ⟨zf4 _,by simp⟩ ?_
   rintro k ⟨hk,hno⟩;refine sQ (sW I (lM I (yL I (tZ ?_))));refine iP I (fun hlt=>?_) (fun hlt=>?_)
   ·have hkl:k<c.sides.length:=oM;have hb1:=hx0 oM;have hjx:c.sides[((k:Nat):Int).toNat]?=some c.sides[k]:=gE hkl;have hjx':c.sides[k]?=some c.sides[k]:=gE hkl;have hprev:(k:Int)>0→∃ q,c.sides[((k:Int) - 1).toNat]?=some q∧c.sides[k - 1]?=some q:=fun h=>by
     have h2:k - 1<c.sides.length:=oM;exact⟨c.sides[k - 1],by rw[show ((k:Int) - 1).toNat=k - 1 by omega]; exact gE h2,gE h2⟩
    generalize c.sides[k]=y at *;have hbat:iU tl c k=cu tl c k y:=by unfold iU; rw[hjx']
    have hT:cu tl c k y=true→(List.range c.sides.length).any (iU tl c)=true:=fun h=>zj3.2 ⟨k,List.mem_range.2 hkl,by rw[hbat]; exact h⟩;have hF:cu tl c k y=false→(List.range (k+1)).any (iU tl c)=false:=fun h=>by rw[List.range_succ,List.any_append,hno]; simp[hbat,h]
    rcases kM hs y.cell with ⟨hfn,hat⟩ | ⟨yc,kk,hfs,hat,hyc⟩
    ·have hbad:cu tl c k y=true:=mU (by rw[hfn]; simp);refine kP (tN (sQ (bK (sW I (lU (fA ao I bI I) (lK (qL (v:=.slice rp c.sides.length rcap) cQ I (cO 0 I I)) (lM I (lU (iA cA cj I I hb1 oM sL) (lU (fC dn I zT3 I hb1) (lK (aZ (e:=encSide) (o:=0) (u:=vi y.cell) iT3 I hcs.rd hjx I) (lW (cL call62 I (eR E g _ _ tl y.cell hv htl hs)) ?_)))))))))));rintro _ _ _ ⟨rfl,rfl,rfl⟩;rw[hat];refine aT I (sQ ?_);refine dW [] [(0,2),(1,2),(2,2),(3,2),(4,2),(5,2),(6,2),(7,1),(8,2),(9,1),(10,2),(11,2),(12,2),(13,2),(14,2),(15,2),(16,2),(17,2),(18,1),(19,2),(20,2),(21,2),(22,1),(23,2),(24,1),(25,2),(26,2),(27,2),(28,2),(29,1),(30,2),(31,2),(32,2)] ze1 kR ?_;refine yM I (pU I (SU.eq (v':=vb true) (lS I I) I) (yM I (yG I (yG I (yG I (yG I (yI I (yG I (yI I (yG I (yG I (pU I (wT I I) (yM I (yG I (yG I (yG I (yH I (SP.off1 I (zb2 I I I dC) dC (yH I (yH I (yH I (SP.off1 I (zb2 I I I dC) dC (yH I (SP.off1 I (zb2 I I I dC) dC (yH I (yH I (yH I (yH I (SP.off1 I (zb2 I I I dC) dC ?_)))))))))))))))))))))))))))));refine yH I (yG I (pU I (wT I I) (pN (tN (cT I (rZ (aT I (rE (bR (tR (tR (bR (tR (dR (s':=s) uR ?_))))))))))))));exact za6 (.inl I) results106 I ⟨by unfold cz; rw[zf7 (by simp[hdb]),zf7 (by simp[hcb]),zf8 (hT hbad)],I,I⟩
    ·have hkk:kk<tl.length:=(zf3.1 hyc).1;have hkr:kk<rs.length:=oM;have hbv:=hrs.based oM;have hyr:=hall.get hyc (gE hkr);have hgr:rs[((kk:Nat):Int).toNat]?=some rs[kk]:=gE hkr;have hsome:(aJ tl y.cell).isSome=true:=by rw[hfs]; rfl
     have hget:((aJ tl y.cell).getD gN)=yc:=by rw[hfs]; rfl
     by_cases hdm:yc.dim≠c.dim - 1
     ·have hbad:cu tl c k y=true:=qZ hsome (by rw[hget]; exact hdm);refine kP (tN (sQ (bK (sW I (lU (fA ao I bI I) (lK (qL (v:=.slice rp c.sides.length rcap) cQ I (cO 0 I I)) (lM I (lU (iA cA cj I I hb1 oM sL) (lU (fC dn I zT3 I hb1) (lK (aZ (e:=encSide) (o:=0) (u:=vi y.cell) iT3 I hcs.rd hjx I) (lW (cL call62 I (eR E g _ _ tl y.cell hv htl hs)) ?_)))))))))));rintro _ _ _ ⟨rfl,rfl,rfl⟩;rw[hat];refine aT I (sQ ?_);refine dW [] [(0,2),(1,2),(2,2),(3,2),(4,2),(5,2),(6,2),(7,1),(8,2),(9,1),(10,2),(11,2),(12,2),(13,2),(14,2),(15,2),(16,2),(17,2),(18,1),(19,2),(20,2),(21,2),(22,1),(23,2),(24,1),(25,2),(26,2),(27,2),(28,2),(29,1),(30,2),(31,2),(32,2)] ze1 kR ?_;refine yM I (pU I (SU.eq (v':=vb false) (lS I I) (zd9 vb (zf5 oM))) (yM I (yJ I (yJ I (zb1 I (gT I I I dC) (iA aA au I I hbv oM sL) dC (zb1 I (gT I I I dC) (fC ao I zT3 I hbv) dC (SP.gq I (gT I I I dC) (aZ (e:=encCell) (o:=1) (u:=vi rs[kk].dim) iT3 I hrs.rd hgr I) dC (zb1 I (gT I I I dC) (fA ao I zT3 I) dC (SP.gq I (gT I I I dC) (qL (v:=vi c.dim) iT3 I (cO 0 I I)) dC (zb1 I (gT I I I dC) (sU I I oM) dC (zb1 I (gT I I I dC) (SU.eq (v':=vb true) (nQ I I) (zd9 vb (zf6 (by rw[hyr.2.1]; exact hdm)))) dC ?_)))))))))));refine pU I (wF I I) (yM I (yG I (yG I (yG I (yH I (SP.off1 I (zb2 I I I dC) dC (yH I (yH I (yH I (SP.off1 I (zb2 I I I dC) dC (yH I (SP.off1 I (zb2 I I I dC) dC (yH I (yH I (yH I (yH I (SP.off1 I (zb2 I I I dC) dC (yH I (yG I (pU I (wT I I) (pN (tN (cT I (rZ (aT I (rE ?_))))))))))))))))))))))))));refine bR (tR (tR (bR (tR (dR (s':=s) uR ?_)))));exact za6 (.inl I) results106 I ⟨by unfold cz; rw[zf7 (by simp[hdb]),zf7 (by simp[hcb]),zf8 (hT hbad)],I,I⟩
     ·by_cases hk0:(k:Int)>0
      ·obtain ⟨q,hq1,hq2⟩:=hprev hk0;have hbd:=qX (i:=k) hsome (by rw[hget]; exact hdm) hk0 hq2;refine kP (tN (sQ (bK (sW I (lU (fA ao I bI I) (lK (qL (v:=.slice rp c.sides.length rcap) cQ I (cO 0 I I)) (lM I (lU (iA cA cj I I hb1 oM sL) (lU (fC dn I zT3 I hb1) (lK (aZ (e:=encSide) (o:=0) (u:=vi y.cell) iT3 I hcs.rd hjx I) (lW (cL call62 I (eR E g _ _ tl y.cell hv htl hs)) ?_)))))))))));rintro _ _ _ ⟨rfl,rfl,rfl⟩;rw[hat];refine aT I (sQ ?_);refine dW [] [(0,2),(1,2),(2,2),(3,2),(4,2),(5,2),(6,2),(7,1),(8,2),(9,1),(10,2),(11,2),(12,2),(13,2),(14,2),(15,2),(16,2),(17,2),(18,1),(19,2),(20,2),(21,2),(22,1),(23,2),(24,1),(25,2),(26,2),(27,2),(28,2),(29,1),(30,2),(31,2),(32,2)] ze1 kR ?_;refine yM I (pU I (SU.eq (v':=vb false) (lS I I) (zd9 vb (zf5 oM))) (yM I (yJ I (yJ I (zb1 I (gT I I I dC) (iA aA au I I hbv oM sL) dC (zb1 I (gT I I I dC) (fC ao I zT3 I hbv) dC (SP.gq I (gT I I I dC) (aZ (e:=encCell) (o:=1) (u:=vi rs[kk].dim) iT3 I hrs.rd hgr I) dC (zb1 I (gT I I I dC) (fA ao I zT3 I) dC (SP.gq I (gT I I I dC) (qL (v:=vi c.dim) iT3 I (cO 0 I I)) dC (zb1 I (gT I I I dC) (sU I I oM) dC (zb1 I (gT I I I dC) (SU.eq (v':=vb false) (nQ I I) (zd9 vb (zf5 (by rw[hyr.2.1]; exact hdm)))) dC ?_)))))))))));refine pU I (wF I I) (yM I (yJ I (zb1 I (gT I I I dC) (SU.eq (v':=vb true) (gR I I) (zd9 vb (zf6 hk0))) dC (yJ I (zb1 I (gT I I I dC) (fA ao I bI I) dC (SP.gq I (gT I I I dC) (qL (v:=.slice rp c.sides.length rcap) cQ I (cO 0 I I)) dC (yJ I (zb1 I (gT I I I dC) (iA cA cj I I hb1 oM sL) dC (zb1 I (gT I I I dC) (fC dn I zT3 I hb1) dC (SP.gq I (gT I I I dC) (aZ (e:=encSide) (o:=0) (u:=vi y.cell) iT3 I hcs.rd hjx I) dC (zb1 I (gT I I I dC) (fA ao I bI I) dC (SP.gq I (gT I I I dC) (qL (v:=.slice rp c.sides.length rcap) cQ I (cO 0 I I)) dC (yJ I (zb1 I (gT I I I dC) (sU I I oM) dC (zb1 I (gT I I I dC) (iA cA cj I I hb1 oM sL) dC (zb1 I (gT I I I dC) (fC dn I zT3 I hb1) dC (SP.gq I (gT I I I dC) (aZ (e:=encSide) (o:=0) (u:=vi q.cell) iT3 I hcs.rd hq1 I) dC (zb1 I (gT I I I dC) (eQ I I) dC (zb1 I (gT I I I dC) (wT I I) dC (pU I (wF I I) (pN (tN ?_))))))))))))))))))))));refine iP I (fun heq=>?_) (fun heq=>?_)
       ·refine rZ (aT I (rE (bR (tR (tR (bR (tR (dR (s':=s) uR ?_))))))));exact za6 (.inl I) results106 I ⟨by unfold cz; rw[zf7 (by simp[hdb]),zf7 (by simp[hcb]),zf8 (hT (by rw[hbd]; exact zf6 heq.symm))],I,I⟩
       ·refine kP (bN (tN (rG (lM I (yD I (lA I (nL ?_)))))));exact gA (k+1) sB I I ⟨oM,hF (by rw[hbd]; exact zf5 fun e=>heq e.symm)⟩ oM
      ·have hbd:=qY (i:=k) (x:=y) hsome (by rw[hget]; exact hdm) hk0;refine kP (tN (sQ (bK (sW I (lU (fA ao I bI I) (lK (qL (v:=.slice rp c.sides.length rcap) cQ I (cO 0 I I)) (lM I (lU (iA cA cj I I hb1 oM sL) (lU (fC dn I zT3 I hb1) (lK (aZ (e:=encSide) (o:=0) (u:=vi y.cell) iT3 I hcs.rd hjx I) (lW (cL call62 I (eR E g _ _ tl y.cell hv htl hs)) ?_)))))))))));rintro _ _ _ ⟨rfl,rfl,rfl⟩;rw[hat];refine aT I (sQ ?_);refine dW [] [(0,2),(1,2),(2,2),(3,2),(4,2),(5,2),(6,2),(7,1),(8,2),(9,1),(10,2),(11,2),(12,2),(13,2),(14,2),(15,2),(16,2),(17,2),(18,1),(19,2),(20,2),(21,2),(22,1),(23,2),(24,1),(25,2),(26,2),(27,2),(28,2),(29,1),(30,2),(31,2),(32,2)] ze1 kR ?_;refine yM I (pU I (SU.eq (v':=vb false) (lS I I) (zd9 vb (zf5 oM))) (yM I (yJ I (yJ I (zb1 I (gT I I I dC) (iA aA au I I hbv oM sL) dC (zb1 I (gT I I I dC) (fC ao I zT3 I hbv) dC (SP.gq I (gT I I I dC) (aZ (e:=encCell) (o:=1) (u:=vi rs[kk].dim) iT3 I hrs.rd hgr I) dC (zb1 I (gT I I I dC) (fA ao I zT3 I) dC (SP.gq I (gT I I I dC) (qL (v:=vi c.dim) iT3 I (cO 0 I I)) dC (zb1 I (gT I I I dC) (sU I I oM) dC (zb1 I (gT I I I dC) (SU.eq (v':=vb false) (nQ I I) (zd9 vb (zf5 (by rw[hyr.2.1]; exact hdm)))) dC ?_)))))))))));refine pU I (wF I I) (yM I (yJ I (zb1 I (gT I I I dC) (SU.eq (v':=vb false) (gR I I) (zd9 vb (zf5 hk0))) dC (yJ I (yG I (yI I (yG I (yG I (yG I (yI I (yG I (yI I (yG I (yG I (yG I (yG I (yI I (yG I (zb1 I (gT I I I dC) (wF I I) dC (pU I (wF I I) (pN (tN (cF I (kP (bN (tN (rG (lM I (yD I ?_)))))))))))))))))))))))))))));refine lA I (nL ?_);exact gA (k+1) sB I I ⟨oM,hF hbd⟩ oM
   ·refine xI (tX (tX (bX (tN (sQ (rZ (aT I (bK ?_))))))));have hkk:k=c.sides.length:=oM;subst hkk;refine oP (ι:=Nat) (fun k=>[(3,pp b3 0),(5,vi c.sides.length),(8,vi k)]) (fun _=>g)
     (fun _=>pt b3 (.cells #[vi c.id,vi c.dim,.slice rp c.sides.length rcap] 63 (0,0))::s) (fun k=>k≤c.sides.length∧(c.sides.take k).any bZ=false) (fun k=>c.sides.length - k) 0
     sB rfl rfl ⟨zf4 _,by simp⟩ ?_
    rintro k ⟨hk2,hns⟩;refine sQ (sW I (lM I (yL I (tZ ?_))));refine iP I (fun hlt2=>?_) (fun hlt2=>?_)
    ·have hkl:k<c.sides.length:=oM;have hb1:=hx0 oM;have hjx:c.sides[((k:Nat):Int).toNat]?=some c.sides[k]:=gE hkl;have htk:c.sides.take (k+1)=c.sides.take k++[c.sides[k]]:=tS hkl;have hmemy:c.sides[k]∈c.sides:=gM hkl;generalize c.sides[k]=y at *;refine kP (tN (sQ (bK ?_)));refine SC.cutB 115 (bZ y) ?_ ?_
     ·refine rG (lU (fA ao I bI I) (lK (qL (v:=.slice rp c.sides.length rcap) cQ I (cO 0 I I)) (lM I (lU (iA cA cj I I hb1 oM sL) (lU (fC dn I zT3 I hb1) (lK (aZ (e:=encSide) (o:=1) (u:=vi y.sign) iT3 I hcs.rd hjx I) (lU (nQ I I) (lM I ?_))))))));refine sP ?_ ?_
      ·intro h107;refine lY I I I (fA ao I bI I) (SL.gq (gT I I I dC) (qL (v:=.slice rp c.sides.length rcap) cQ I (cO 0 I I)) dC (yC I (lY I I I (iA cA cj I I hb1 oM sL) (lY I I I (fC dn I zT3 I hb1) (SL.gq (gT I I I dC) (aZ (e:=encSide) (o:=1) (u:=vi y.sign) iT3 I hcs.rd hjx I) dC (lY I I I (nQ I I) (yP I (nL ?_))))))));exact za8 (by exact zd9 (fun b=>some (Value.bool b)) (qu h107).symm) mI
      ·intro h107;refine yA I (yA I (yA I (yA I (yA I (yA I (yA I (yF I (nL ?_))))))));exact za8 (by exact zd9 (fun b=>some (Value.bool b)) (qq h107).symm) mI
     refine iQ I (fun hsg=>?_) (fun hsg=>?_)
     ·refine rZ (aT I (rE (bR (tR (tR (bR (tR (dR (s':=s) uR ?_))))))));have hany:c.sides.any bZ=true:=zj3.2 ⟨y,hmemy,hsg⟩;exact za6 (.inl I) results106 I ⟨by unfold cz; rw[zf7 (by simp[hdb]),zf7 (by simp[hcb]),zf7 (by simp[hno]),zf8 hany],I,I⟩
     ·refine kP (bN (tN (rG (lM I (yD I (lA I (nL ?_)))))));exact gA (k+1) sB I I ⟨oM,by rw[htk,List.any_append,hns]; simp[hsg]⟩ oM
    ·have hkk:c.sides.take k=c.sides:=tL oM;rw[hkk] at hns;by_cases hd1:c.dim=1
     ·have h2:c.sides.length=2:=by
       simp[aU] at hcb;have:=hcb.1.2 hd1;omega
      obtain ⟨a,b,hab,hsum⟩:=xF h2 hns;have hb1:=hx0 oM;refine xI (tX (tX (bX (tN (sQ (sQ ?_))))));refine dW [] [(0,2),(1,1),(2,2),(3,2),(4,2),(5,1),(6,2),(7,2),(8,1),(9,2),(10,1),(11,2),(12,2),(13,1),(14,2),(15,2)] ze1 kR ?_;refine pU I (fA ao I zT3 I) (pK I (qL (v:=vi c.dim) iT3 I (cO 0 I I)) (pU I (SU.eq (v':=vb true) (eQ I I) (zd9 vb (zf6 hd1))) (yM I (zb1 I (gT I I I dC) (fA ao I bI I) dC (SP.gq I (gT I I I dC) (qL (v:=.slice rp c.sides.length rcap) cQ I (cO 0 I I)) dC (zb1 I (gT I I I dC) (iA cA cj I I hb1 dC sL) dC (zb1 I (gT I I I dC) (fC dn I zT3 I hb1) dC (SP.gq I (gT I I I dC) (aZ (e:=encSide) (j:=0) (o:=1) (u:=vi a.sign) (a:=a) iT3 I hcs.rd (by rw[hab]; rfl) rfl) dC ?_))))))));refine zb1 I (gT I I I dC) (fA ao I bI I) dC (SP.gq I (gT I I I dC) (qL (v:=.slice rp c.sides.length rcap) cQ I (cO 0 I I)) dC (zb1 I (gT I I I dC) (iA cA cj I I hb1 dC sL) dC (zb1 I (gT I I I dC) (fC dn I zT3 I hb1) dC (SP.gq I (gT I I I dC) (aZ (e:=encSide) (j:=1) (o:=1) (u:=vi b.sign) (a:=b) iT3 I hcs.rd (by rw[hab]; rfl) rfl) dC ?_))));refine zb1 I (gT I I I dC) (eQ I I) dC (pU I (wT I I) (pN (tN ?_)));refine iP I (fun heq=>?_) (fun heq=>?_)
      ·refine rZ (aT I (rE (tR (dR (s':=s) uR ?_))));exact za6 (.inl I) results106 I ⟨by unfold cz; rw[zf7 (by simp[hdb]),zf7 (by simp[hcb]),zf7 (by simp[hno]),zf7 (by simp[hns]),zf8 (by rw[hsum]; simp[hd1,heq])],I,I⟩
      ·refine kP (tN (rZ (aT I (rE (dR (s':=s) uR ?_)))));exact za6 (.inl I) results106 I ⟨by unfold cz; rw[zf7 (by simp[hdb]),zf7 (by simp[hcb]),zf7 (by simp[hno]),zf7 (by simp[hns]),zf7 (by rw[hsum]; simp[heq])],I,I⟩
     ·refine xI (tX (tX (bX (tN (sQ (sQ ?_))))));refine dW [] [(0,2),(1,1),(2,2),(3,2),(4,2),(5,1),(6,2),(7,2),(8,1),(9,2),(10,1),(11,2),(12,2),(13,1),(14,2),(15,2)] ze1 kR ?_;refine pU I (fA ao I zT3 I) (pK I (qL (v:=vi c.dim) iT3 I (cO 0 I I)) (pU I (SU.eq (v':=vb false) (eQ I I) (zd9 vb (zf5 hd1))) (yM I (yG I (yI I (yG I (yG I (yI I (yG I (yI I (yG I (yG I (yI I (yG I (pU I (wF I I) (pN (tN (cF I (kP (tN (rZ (aT I (rE (dR (s':=s) uR ?_))))))))))))))))))))))));exact za6 (.inl I) results106 I ⟨by unfold cz; rw[zf7 (by simp[hdb]),zf7 (by simp[hcb]),zf7 (by simp[hno]),zf7 (by simp[hns]),zf7 (by simp[hd1])],I,I⟩
abbrev wr (x:Int):Int:=IntKind.i64.wrap x
structure En where
 id:Int
 sum:Int
 many:Int
 fst:Nat
def En.fi (e:En):Int:=e.fst
def En.up (e:En)(p:Int):En:=⟨e.id,wr (e.sum+p),wr (e.many+1),e.fst⟩
def j2 (i:Nat)(c p:Int):List En→List En
 | []=>[En.up ⟨c,0,0,i⟩ p]
 | e::r=>if e.id=c then e.up p::r else e::j2 i c p r
def iT (i:Nat)(c:Int):List En→Nat
 | []=>i
 | e::r=>if e.id=c then e.fst else iT i c r
def dD (m:Nat)(old now:Int)(p:List Int):List Int:=p.mapIdx fun q x=>if q<m∧x=now then old else x
def kH (i:Nat)(sx:Int)(st:List En×List Int)(r:aj):List En×List Int :=
 (j2 i r.cell (wr (sx * r.sign)) st.1,dD (i+1) (st.2.getD (iT i r.cell st.1) 0) (st.2.getD i 0) st.2)
def mw (tl:List Cl)(st:List En×List Int)(p:aj×Nat):List En×List Int:=(aB tl p.1).foldl (kH p.2 p.1.sign) (st.1,st.2.set p.2 p.2)
def lj (tl:List Cl)(l:List aj)(n:Nat):List En×List Int:=l.zipIdx.foldl (mw tl) ([],List.replicate n 0)
def gx (tl:List Cl)(c:Cl):Int :=
 if (lj tl c.sides c.sides.length).1.any (fun e=>decide (e.sum≠0)) then 24
 else if (lj tl c.sides c.sides.length).1.any (fun e=>decide (e.many≠2)) then 25
 else if (lj tl c.sides c.sides.length).2.any (fun x=>decide (x≠(lj tl c.sides c.sides.length).2.getD 0 0)) then 25
 else 0
theorem pD {i:Nat}{c p:Int}{e:En}{B:List En}(he:e.id=c):∀ {A:List En},(∀ x∈A,x.id≠c)→j2 i c p (A++e::B)=A++e.up p::B∧iT i c (A++e::B)=e.fst
 | [],_=>by simp[j2,iT,he]
 | x::A,h=>by
  have hx:=h x (by simp);have:=pD (i:=i) (p:=p) (B:=B) he (A:=A) (fun y hy=>h y (by simp[hy]));simp[j2,iT,hx,this.1,this.2]
theorem pC {i:Nat}{c p:Int}:∀ {A:List En},(∀ x∈A,x.id≠c)→j2 i c p A=A++[En.up ⟨c,0,0,i⟩ p]∧iT i c A=i
 | [],_=>by simp[j2,iT]
 | x::A,h=>by
  have hx:=h x (by simp);have:=pC (i:=i) (p:=p) (A:=A) (fun y hy=>h y (by simp[hy]));simp[j2,iT,hx,this.1,this.2]
theorem kx (m:Nat)(old now:Int)(p:List Int):(dD m old now p).length=p.length:=by simp[dD]
theorem s5 (old now:Int)(p:List Int):dD 0 old now p=p:=by
 unfold dD;apply List.ext_getElem?;intro q;simp
theorem vH {m:Nat}{old now:Int}{p:List Int}(h:m<p.length):(dD m old now p)[m]?=some p[m]:=by
 simp[dD,h]
theorem s6 {m:Nat}{old now:Int}{p:List Int}(h:m<p.length):dD (m+1) old now p=if p[m]=now then (dD m old now p).set m old else dD m old now p:=by
 unfold dD;split
 ·rename_i hm;apply List.ext_getElem?;intro q;rw[List.getElem?_set];by_cases hq:m=q
  ·subst hq;simp[h,hm]
  ·rw[zf7 hq];simp only[List.getElem?_mapIdx];cases p[q]? with
   | none=>rfl
   | some x=>simp; congr 1; simp; intro _; omega
 ·rename_i hm;apply List.ext_getElem?;intro q;simp only[List.getElem?_mapIdx];by_cases hq:m=q
  ·subst hq;simp[h,hm]
  ·cases p[q]? with
   | none=>rfl
   | some x=>simp; congr 1; simp; intro _; omega
theorem uU {i n:Nat}{c p:Int}(hi:i<n):∀ {es:List En},(∀ e∈es,e.fst<n)→∀ e∈j2 i c p es,e.fst<n
 | [],_,e,he=>by simp[j2] at he; subst he; exact hi
 | x::r,h,e,he=>by
  unfold j2 at he;split at he
  ·rcases ze8.1 he with rfl | he
   ·exact h x (by simp)
   ·exact h e (by simp[he])
  ·rcases ze8.1 he with rfl | he
   ·exact h e (by simp)
   ·exact uU hi (fun y hy=>h y (by simp[hy])) e he
theorem s4 (E:World)(g:PH)(s:Own)(v:Value)(tl:List Cl)(c:Cl)(r:Rc)(hv:am g v tl)(htl:tl.length<1099511627776)(hs:(tl.map Cl.id).Pairwise (· ≤ ·))(hc:aC g c r)(hl:c.sides.length≤64)(hin:∀ x∈c.sides,(aJ tl x.cell).isSome=true)(hsl:∀ x∈c.sides,(aB tl x).length≤64) :
  Ctr Tryz.prog E 107 #[v,rcv r] g s (fun r g' s'=>r=vi (gx tl c)∧g=g'∧s=s'):=by
 obtain ⟨rs,hrs,hall⟩:=hv;have hv:am g v tl:=⟨rs,hrs,hall⟩;have hrl:=hall.length;obtain ⟨vp,vc,rfl⟩:=hrs.form;obtain ⟨rp,rcap,rfl,hcs⟩:=dY hc;refine za9 (args:=[.slice vp rs.length vc,.agg #[vi c.id,vi c.dim,.slice rp c.sides.length rcap]]) func107 I ntmps107 (bE I) ?_;refine rZ (bW (bO I) fun b3=>?_);refine aT I (sQ ?_);refine SC.to (g':=g) (s':=pt b3 (.cells #[vi c.id,vi c.dim,.slice rp c.sides.length rcap] 63 (0,0))::s) (fun w hw=>hw) ?_;refine rG (aT I (rZ (aT I (rZ (aT I (rZ (lU (fA ao I bI I) (lK (qL (v:=.slice rp c.sides.length rcap) cQ I (cO 0 I I)) (lU (eN cA I) (lW (mK encInt 0 sty25 I I I oM oM) ?_))))))))));rintro _ _ _ ⟨b8,rfl,rfl,rfl⟩;refine aT I (rZ (lW (bS sty25 I I I (ab trivial) dC) ?_));rintro _ _ _ ⟨b24,rfl,rfl,rfl⟩;refine SL.drop (.cons _ (.refl _)) (SL.emptyRow 3 1 (some ⟨b24,0,none⟩) (aT I (sQ (rZ (aT I (bK (zb4 3 1 (zb4 3 1 (zb4 3 1 ?_)))))))));refine oP (ι:=(Value×Value×Value×Value)×(List En×List Int)×Nat) (fun i=>[(0,.slice vp rs.length vc),(3,pp b3 0),(5,i.1.1),(6,i.1.2.1),(7,i.1.2.2.1),(8,.slice (some ⟨b8,0,none⟩) c.sides.length c.sides.length),(9,i.1.2.2.2),(10,vi (i.2.2:Nat))]) (fun _=>g)
  (fun i=>rowA encInt 3 i.1.1 (i.2.1.1.map En.id)::rowA encInt 3 i.1.2.1 (i.2.1.1.map En.sum)::rowA encInt 3 i.1.2.2.1 (i.2.1.1.map En.many)::rowA encInt 3 i.1.2.2.2 (i.2.1.1.map En.fi)::rowA encInt 3 (.slice (some ⟨b8,0,none⟩) c.sides.length c.sides.length) (i.2.1.2)::pt b3 (.cells #[vi c.id,vi c.dim,.slice rp c.sides.length rcap] 63 (0,0))::s)
  (fun i=>i.2.2≤c.sides.length∧i.2.1=(c.sides.take i.2.2).zipIdx.foldl (mw tl) ([],List.replicate c.sides.length 0)∧i.2.1.2.length=c.sides.length∧i.2.1.1.length≤64 * i.2.2∧∀ e∈i.2.1.1,e.fst<c.sides.length) (fun i=>c.sides.length - i.2.2)
  ((.slice none 0 0,.slice none 0 0,.slice none 0 0,.slice (some ⟨b24,0,none⟩) 0 0),([],List.replicate c.sides.length 0),0) sB rfl rfl ⟨zf4 _,by simp,by simp,by simp,by simp⟩ ?_
 rintro ⟨⟨v5,v6,v7,v9⟩,⟨es,part⟩,i⟩ ⟨hi,hst,hpl,hel,hef⟩;dsimp only at hi hst hpl hel hef ⊢;refine sQ (sW I (lU (fA ao I bI I) (lK (qL (v:=.slice rp c.sides.length rcap) cQ I (cO 5 I I)) (lU (eN cA I) (yL I (tZ ?_))))));refine iP I (fun hlt=>?_) (fun hlt=>?_)
 ·have hil:i<c.sides.length:=oM;have hb1:=hcs.based oM;have hix:c.sides[((i:Nat):Int).toNat]?=some c.sides[i]:=gE hil;have htk:(c.sides.take (i+1)).zipIdx.foldl (mw tl) ([],List.replicate c.sides.length 0)=mw tl ((c.sides.take i).zipIdx.foldl (mw tl) ([],List.replicate c.sides.length 0)) (c.sides[i],i):=by
   rw[tS hil,List.zipIdx_append,zi6];have:(List.take i c.sides).length=i:=by rw[ze2]; omega
   rw[this];simp
  have hxm:=gM hil;have hxin:=hin _ hxm;have hxs:=hsl _ hxm;generalize c.sides[i]=x at *;obtain ⟨yc,hyc⟩:=zh6.1 hxin;have hsx:aB tl x=yc.sides:=by unfold aB; rw[hyc]; rfl
  rw[hsx] at hxs
  rcases kM hs x.cell with ⟨hfn,_⟩ | ⟨yc',kk,hfs,hat,hyk⟩
  ·rw[hfn] at hyc; cases hyc
  have:yc=yc':=by rw[hfs] at hyc; injection hyc with h; exact h.symm
  subst this;have hkk:kk<tl.length:=(zf3.1 hyk).1;have hkr:kk<rs.length:=oM;have hbv:=hrs.based oM;have hyr:=hall.get hyk (gE hkr);have hgr:rs[((kk:Nat):Int).toNat]?=some rs[kk]:=gE hkr;obtain ⟨yp,ycap,hrk,hys⟩:=dY hyr;rw[hrk] at hgr;have hp1:(part.set i (i:Int)).length=c.sides.length:=by rw[zi1]; exact hpl
  refine kP (tN (sQ (bK (sW I (lM I (lM I (lU (iA ah zT3 I I I oM sL) (oZ (sT (a:=(i:Int)) 4 zT3 I I I oM I) (tZ (sW I (lM I (lU (fA ao I bI I) (lK (qL (v:=.slice rp c.sides.length rcap) cQ I (cO 5 I I)) (lM I (lU (iA cA cj I I hb1 oM sL) (lU (fC dn I zT3 I hb1) (lK (aZ (e:=encSide) (o:=0) (u:=vi x.cell) iT3 I hcs.rd hix I) (lW (cL call62 I (eR E g _ _ tl x.cell hv htl hs)) ?_))))))))))))))))));rintro _ _ _ ⟨rfl,rfl,rfl⟩;rw[hat];refine lU (iA aA au I I hbv oM sL) (lK (eA (e:=encCell) eX au I hrs.rd hgr) (bW (aL zk8) fun b11=>?_));refine oZ (sK 0 au I I I I I sB) ?_;refine tZ (rZ (aT I (bK ?_)));refine SC.to (g':=g) (s':=pt b11 (.cells #[vi yc.id,vi yc.dim,.slice yp yc.sides.length ycap] 63 (0,0))::rowA encInt 3 v5 (es.map En.id)::rowA encInt 3 v6 (es.map En.sum)::rowA encInt 3 v7 (es.map En.many)::rowA encInt 3 v9 (es.map En.fi)::rowA encInt 3 (.slice (some ⟨b8,0,none⟩) c.sides.length c.sides.length) (part.set i (i:Int))::pt b3 (.cells #[vi c.id,vi c.dim,.slice rp c.sides.length rcap] 63 (0,0))::s) (fun w hw=>hw) ?_;refine oP (ι:=(Value×Value×Value×Value)×(List En×List Int)×Nat) (fun q=>[(0,.slice vp rs.length vc),(3,pp b3 0),(5,q.1.1),(6,q.1.2.1),(7,q.1.2.2.1),(8,.slice (some ⟨b8,0,none⟩) c.sides.length c.sides.length),(9,q.1.2.2.2),(10,vi (i:Nat)),(11,pp b11 0),(12,vi (q.2.2:Nat))]) (fun _=>g)
   (fun q=>pt b11 (.cells #[vi yc.id,vi yc.dim,.slice yp yc.sides.length ycap] 63 (0,0))::rowA encInt 3 q.1.1 (q.2.1.1.map En.id)::rowA encInt 3 q.1.2.1 (q.2.1.1.map En.sum)::rowA encInt 3 q.1.2.2.1 (q.2.1.1.map En.many)::rowA encInt 3 q.1.2.2.2 (q.2.1.1.map En.fi)::rowA encInt 3 (.slice (some ⟨b8,0,none⟩) c.sides.length c.sides.length) (q.2.1.2)::pt b3 (.cells #[vi c.id,vi c.dim,.slice rp c.sides.length rcap] 63 (0,0))::s)
   (fun q=>q.2.2≤yc.sides.length∧q.2.1=(yc.sides.take q.2.2).foldl (kH i x.sign) (es,part.set i (i:Int))∧q.2.1.2.length=c.sides.length∧q.2.1.1.length≤64 * i+q.2.2∧∀ e∈q.2.1.1,e.fst<c.sides.length) (fun q=>yc.sides.length - q.2.2)
   ((v5,v6,v7,v9),(es,part.set i (i:Int)),0) sB rfl rfl ⟨zf4 _,by simp,hp1,lN,hef⟩ ?_
  rintro ⟨⟨w5,w6,w7,w9⟩,⟨fs,pa⟩,j⟩ ⟨hj,hst2,hpl2,hel2,hef2⟩;dsimp only at hj hst2 hpl2 hel2 hef2 ⊢;refine zd1 fun ⟨w0,hw0⟩=>?_;obtain ⟨p5,c5,rfl⟩:=ag (i:=1) hw0 rfl;obtain ⟨p6,c6,rfl⟩:=ag (i:=2) hw0 rfl;obtain ⟨p7,c7,rfl⟩:=ag (i:=3) hw0 rfl;obtain ⟨p9,c9,rfl⟩:=ag (i:=4) hw0 rfl;have hb5:0<fs.length→based (.slice p5 (fs.map En.id).length c5)=true:=fun h=>by obtain ⟨b0,c0,he⟩:=cw (i:=1) hw0 rfl (by simpa using h); rw[he]; rfl
  clear hw0 w0;refine sQ (sW I (lU (fA ao I bI I) (lK (qL (v:=.slice yp yc.sides.length ycap) cQ I (cO 0 I I)) (lU (eN cA I) (yL I (tZ ?_))))));refine iP I (fun hlt2=>?_) (fun hlt2=>?_)
  ·have hjl:j<yc.sides.length:=oM;have hb2:=hys.based oM;have hjx:yc.sides[((j:Nat):Int).toNat]?=some yc.sides[j]:=gE hjl;have htk2:(yc.sides.take (j+1)).foldl (kH i x.sign) (es,part.set i (i:Int))=kH i x.sign ((yc.sides.take j).foldl (kH i x.sign) (es,part.set i (i:Int))) yc.sides[j]:=by
    rw[tS hjl,zi6]; rfl
   rw[← hst2] at htk2;generalize yc.sides[j]=z at *;have hml5:(fs.map En.id).length=fs.length:=by simp
   refine kP (tN (sQ (bK (rZ (aT I ?_)))));refine SC.cut (ι:=Nat) (fun k=>[(0,.slice vp rs.length vc),(3,pp b3 0),(5,.slice p5 (fs.map En.id).length c5),(6,.slice p6 (fs.map En.sum).length c6),(7,.slice p7 (fs.map En.many).length c7),(8,.slice (some ⟨b8,0,none⟩) c.sides.length c.sides.length),(9,.slice p9 (fs.map En.fi).length c9),(10,vi (i:Nat)),(11,pp b11 0),(12,vi (j:Nat)),(13,vi (k:Nat))]) (fun _=>g)
    (fun _=>pt b11 (.cells #[vi yc.id,vi yc.dim,.slice yp yc.sides.length ycap] 63 (0,0))::rowA encInt 3 (.slice p5 (fs.map En.id).length c5) (fs.map En.id)::rowA encInt 3 (.slice p6 (fs.map En.sum).length c6) (fs.map En.sum)::rowA encInt 3 (.slice p7 (fs.map En.many).length c7) (fs.map En.many)::rowA encInt 3 (.slice p9 (fs.map En.fi).length c9) (fs.map En.fi)::rowA encInt 3 (.slice (some ⟨b8,0,none⟩) c.sides.length c.sides.length) (pa)::pt b3 (.cells #[vi c.id,vi c.dim,.slice rp c.sides.length rcap] 63 (0,0))::s)
    (fun k=>k≤fs.length∧(∀ e∈fs.take k,e.id≠z.cell)∧∀ h:k<fs.length,fs[k].id=z.cell) ?_ ?_
   ·refine bK ?_;refine oP (ι:=Nat) (fun k=>[(0,.slice vp rs.length vc),(3,pp b3 0),(5,.slice p5 (fs.map En.id).length c5),(6,.slice p6 (fs.map En.sum).length c6),(7,.slice p7 (fs.map En.many).length c7),(8,.slice (some ⟨b8,0,none⟩) c.sides.length c.sides.length),(9,.slice p9 (fs.map En.fi).length c9),(10,vi (i:Nat)),(11,pp b11 0),(12,vi (j:Nat)),(13,vi (k:Nat))]) (fun _=>g)
     (fun _=>pt b11 (.cells #[vi yc.id,vi yc.dim,.slice yp yc.sides.length ycap] 63 (0,0))::rowA encInt 3 (.slice p5 (fs.map En.id).length c5) (fs.map En.id)::rowA encInt 3 (.slice p6 (fs.map En.sum).length c6) (fs.map En.sum)::rowA encInt 3 (.slice p7 (fs.map En.many).length c7) (fs.map En.many)::rowA encInt 3 (.slice p9 (fs.map En.fi).length c9) (fs.map En.fi)::rowA encInt 3 (.slice (some ⟨b8,0,none⟩) c.sides.length c.sides.length) (pa)::pt b3 (.cells #[vi c.id,vi c.dim,.slice rp c.sides.length rcap] 63 (0,0))::s)
     (fun k=>k≤fs.length∧∀ e∈fs.take k,e.id≠z.cell) (fun k=>fs.length - k) 0 sB rfl rfl ⟨zf4 _,by simp⟩ ?_
    rintro k ⟨hk,hne⟩;by_cases hkl:k<fs.length
    ·have hin2:((k:Nat):Int)<(((fs.map En.id).length:Nat):Int):=oM;have hg5:(fs.map En.id)[((k:Nat):Int).toNat]?=some fs[k].id:=by simp[hkl]
     have hb5':=hb5 oM;refine sQ (sQ ?_);refine dW [] [(0,2),(1,2),(2,2),(3,2),(4,2),(5,2),(6,2),(7,2),(8,1),(9,2),(10,1),(11,2),(12,2),(13,2),(14,1),(15,2),(16,2)] ze1 kR ?_;refine yM I (yM I (pU I (eN ah I) (pU I (SU.eq (v':=vb true) (lS I I) (zd9 vb (zf6 hin2))) (yM I (yJ I (yJ I (zb1 I (gT I I I dC) (iA ah zT3 I I hb5' oM sL) dC (SP.gq I (gT I I I dC) (eB iT3 I (zb5 1 I) hg5 I) dC (zb1 I (gT I I I dC) (fA ao I bI I) dC (SP.gq I (gT I I I dC) (qL (v:=.slice yp yc.sides.length ycap) cQ I (cO 0 I I)) dC (yJ I (zb1 I (gT I I I dC) (iA cA cj I I hb2 oM sL) dC (zb1 I (gT I I I dC) (fC dn I zT3 I hb2) dC (SP.gq I (gT I I I dC) (aZ (e:=encSide) (o:=0) (u:=vi z.cell) iT3 I hys.rd hjx I) dC (zb1 I (gT I I I dC) (nQ I I) dC (pU I (wT I I) (pN (tN ?_))))))))))))))))));refine iP I (fun hc2=>?_) (fun hc2=>?_)
     ·refine kP (tN (bK (rG (lM I (yD I (lA I (nL (bN ?_))))))));exact gA (k+1) sB I I ⟨oM,by
       rw[tS hkl];intro e he
       rcases zf1.1 he with h | h
       ·exact hne e h
       ·simp at h; subst h; exact hc2⟩ oM
     ·refine xI (tX (tX (bX ?_)));exact za7 k sB I I ⟨hk,hne,fun _=>zg7 hc2⟩
    ·have hin2:¬ ((k:Nat):Int)<(((fs.map En.id).length:Nat):Int):=oM;refine sQ (sQ ?_);refine dW [] [(0,2),(1,2),(2,2),(3,2),(4,2),(5,2),(6,2),(7,2),(8,1),(9,2),(10,1),(11,2),(12,2),(13,2),(14,1),(15,2),(16,2)] ze1 kR ?_;refine yM I (yM I (pU I (eN ah I) (pU I (SU.eq (v':=vb false) (lS I I) (zd9 vb (zf5 hin2))) (yM I (yG I (yG I (yG I (yI I (yG I (yI I (yG I (yG I (yG I (yI I (yG I (pU I (wF I I) (pN (tN (cF I (xI (tX (tX (bX ?_)))))))))))))))))))))));exact za7 k sB I I ⟨hk,hne,fun h=>absurd h hkl⟩
   ·rintro k ⟨hk,hne,heq⟩;refine SC.cut (ι:=(Value×Value×Value×Value)×List En×En×List En) (fun q=>[(0,.slice vp rs.length vc),(3,pp b3 0),(5,q.1.1),(6,q.1.2.1),(7,q.1.2.2.1),(8,.slice (some ⟨b8,0,none⟩) c.sides.length c.sides.length),(9,q.1.2.2.2),(10,vi (i:Nat)),(11,pp b11 0),(12,vi (j:Nat)),(13,vi (q.2.1.length:Nat))]) (fun _=>g)
     (fun q=>pt b11 (.cells #[vi yc.id,vi yc.dim,.slice yp yc.sides.length ycap] 63 (0,0))::rowA encInt 3 q.1.1 ((q.2.1++q.2.2.1::q.2.2.2).map En.id)::rowA encInt 3 q.1.2.1 ((q.2.1++q.2.2.1::q.2.2.2).map En.sum)::rowA encInt 3 q.1.2.2.1 ((q.2.1++q.2.2.1::q.2.2.2).map En.many)::rowA encInt 3 q.1.2.2.2 ((q.2.1++q.2.2.1::q.2.2.2).map En.fi)::rowA encInt 3 (.slice (some ⟨b8,0,none⟩) c.sides.length c.sides.length) (pa)::pt b3 (.cells #[vi c.id,vi c.dim,.slice rp c.sides.length rcap] 63 (0,0))::s)
     (fun q=>(∀ p,j2 i z.cell p fs=q.2.1++q.2.2.1.up p::q.2.2.2)∧iT i z.cell fs=q.2.2.1.fst∧q.2.2.1.fst<c.sides.length∧q.2.1.length+1+q.2.2.2.length≤fs.length+1) ?_ ?_
    ·refine sW I (lM I (lU (eN ah I) (yE I (tZ ?_))));refine iP I (fun hnew=>?_) (fun hnew=>?_)
     ·have hkf:k=fs.length:=oM;subst hkf;rw[List.take_length] at hne;refine sW I (lU (fA ao I bI I) (lK (qL (v:=.slice yp yc.sides.length ycap) cQ I (cO 0 I I)) (lM I (lU (iA cA cj I I hb2 oM sL) (lU (fC dn I zT3 I hb2) (lK (aZ (e:=encSide) (o:=0) (u:=vi z.cell) iT3 I hys.rd hjx I) (lW (bS sty25 I I I (ab sB) dC) ?_)))))));rintro _ _ _ ⟨b84,rfl,rfl,rfl⟩;refine lW (aP (e:=encInt) 1 z.cell sty25 I I I I I oM oM) ?_;rintro u5 _ _ ⟨rfl,rfl⟩;refine aT I (sW I (lW (bS sty25 I I I (ab sB) dC) ?_));rintro _ _ _ ⟨b87,rfl,rfl,rfl⟩;refine lW (aP (e:=encInt) 2 0 sty25 I I I I I (by simp; omega) (by simp; omega)) ?_;rintro u6 _ _ ⟨rfl,rfl⟩;refine aT I (sW I (lW (bS sty25 I I I (ab sB) dC) ?_));rintro _ _ _ ⟨b90,rfl,rfl,rfl⟩;refine lW (aP (e:=encInt) 3 0 sty25 I I I I I (by simp; omega) (by simp; omega)) ?_;rintro u7 _ _ ⟨rfl,rfl⟩;refine aT I (rG (lM I (lM I (lW (bS sty25 I I I (ab sB) dC) ?_))));rintro _ _ _ ⟨b94,rfl,rfl,rfl⟩;refine lW (aP (e:=encInt) 4 ((i:Nat):Int) sty25 I I I I I (by simp; omega) (by simp; omega)) ?_;rintro u9 _ _ ⟨rfl,rfl⟩;refine lA I (nL ?_);refine ST.to (fun w hw=>?_) (g':=g) (s':=pt b11 (.cells #[vi yc.id,vi yc.dim,.slice yp yc.sides.length ycap] 63 (0,0))::rowA encInt 3 u5 ((fs++(⟨z.cell,0,0,i⟩:En)::[]).map En.id)::rowA encInt 3 u6 ((fs++(⟨z.cell,0,0,i⟩:En)::[]).map En.sum)::rowA encInt 3 u7 ((fs++(⟨z.cell,0,0,i⟩:En)::[]).map En.many)::rowA encInt 3 u9 ((fs++(⟨z.cell,0,0,i⟩:En)::[]).map En.fi)::rowA encInt 3 (.slice (some ⟨b8,0,none⟩) c.sides.length c.sides.length) (pa)::pt b3 (.cells #[vi c.id,vi c.dim,.slice rp c.sides.length rcap] 63 (0,0))::s) ?_
      ·simp only[zg3,zg2,List.map_nil]; exact hw
      exact za7 ((u5,u6,u7,u9),fs,⟨z.cell,0,0,i⟩,[]) sB I I ⟨fun p=>(pC hne).1,(pC (p:=0) hne).2,hil,by simp⟩
     ·have hkl:k<fs.length:=oM;have hsp:fs=fs.take k++fs[k]::fs.drop (k+1):=by rw[← zg4 hkl,zi7]
      have hkt:(fs.take k).length=k:=by rw[ze2]; omega
      refine kP ?_;refine za7 ((_,_,_,_),fs.take k,fs[k],fs.drop (k+1)) ⟨I,I,I,I,I,I,I,I,I,I,bP (by dsimp only; omega),trivial⟩ I (by dsimp only; rw[← hsp]) ⟨fun p=>?_,?_,hef2 _ (gM hkl),by rw[hkt,ze7]; omega⟩
      ·conv=>lhs; rw[hsp]
       exact (pD (heq hkl) hne).1
      ·conv=>lhs; rw[hsp]
       exact (pD (p:=0) (heq hkl) hne).2
    ·rintro ⟨⟨u5,u6,u7,u9⟩,A,e,B⟩ ⟨hbump,hfst,hfl,hlen⟩;dsimp only at hbump hfst hfl hlen ⊢;refine zd1 fun ⟨w0,hw0⟩=>?_;obtain ⟨q6,d6,rfl⟩:=ag (i:=2) hw0 rfl;obtain ⟨q7,d7,rfl⟩:=ag (i:=3) hw0 rfl;obtain ⟨q9,d9,rfl⟩:=ag (i:=4) hw0 rfl;have hb6:based (.slice q6 ((A++e::B).map En.sum).length d6)=true:=by obtain ⟨b0,c0,he⟩:=cw (i:=2) hw0 rfl (by simp; omega); rw[he]; rfl
     have hb7:based (.slice q7 ((A++e::B).map En.many).length d7)=true:=by obtain ⟨b0,c0,he⟩:=cw (i:=3) hw0 rfl (by simp; omega); rw[he]; rfl
     have hb9:based (.slice q9 ((A++e::B).map En.fi).length d9)=true:=by obtain ⟨b0,c0,he⟩:=cw (i:=4) hw0 rfl (by simp; omega); rw[he]; rfl
     clear hw0 w0;have hl6:((A++e::B).map En.sum).length=A.length+1+B.length:=by simp; omega
     have hl7:((A++e::B).map En.many).length=A.length+1+B.length:=by simp; omega
     have hl9:((A++e::B).map En.fi).length=A.length+1+B.length:=by simp; omega
     have g6:((A++e::B).map En.sum)[((A.length:Nat):Int).toNat]?=some e.sum:=by rw[zg3,zg2]; exact bT (by simp)
     have g7:((A++e::B).map En.many)[((A.length:Nat):Int).toNat]?=some e.many:=by rw[zg3,zg2]; exact bT (by simp)
     have g9:((A++e::B).map En.fi)[((A.length:Nat):Int).toNat]?=some ((e.fst:Nat):Int):=by rw[zg3,zg2]; exact bT (by simp)
     have gp1:pa[((e.fst:Nat):Int).toNat]?=some (pa.getD e.fst 0):=by
      have h:e.fst<pa.length:=oM;rw[show ((e.fst:Nat):Int).toNat=e.fst by omega,gE h,zg8,gE h]; rfl
     have gp2:pa[((i:Nat):Int).toNat]?=some (pa.getD i 0):=by
      have h:i<pa.length:=oM;rw[show ((i:Nat):Int).toNat=i by omega,gE h,zg8,gE h]; rfl
     obtain ⟨wp,hwp⟩:∃ wp,wp=wr (x.sign * z.sign):=⟨_,rfl⟩;refine sQ ?_;refine dW [20,21] [(0,2),(1,2),(2,2),(3,2),(4,2),(5,1),(6,2),(7,1),(8,2),(9,2),(10,2),(11,1),(12,2),(13,1),(14,2),(15,2),(16,2),(17,1),(18,2),(19,2),(20,0),(21,0)] ze1 kR ?_;refine yM I (yM I (yM I (yM I (pU I (iA ah zT3 I I hb6 oM sL) (pK I (eB iT3 I (zb5 2 I) g6 I) (pU I (fA ao I bI I) (pK I (qL (v:=.slice rp c.sides.length rcap) cQ I (cO 6 I I)) (yM I (pU I (iA cA cj I I hb1 oM sL) (pU I (fC dn I zT3 I hb1) (pK I (aZ (e:=encSide) (o:=1) (u:=vi x.sign) iT3 I hcs.rd hix I) (pU I (fA ao I bI I) (pK I (qL (v:=.slice yp yc.sides.length ycap) cQ I (cO 0 I I)) (yM I (pU I (iA cA cj I I hb2 oM sL) (pU I (fC dn I zT3 I hb2) (pK I (aZ (e:=encSide) (o:=1) (u:=vi z.sign) iT3 I hys.rd hjx I) (pU I (SU.eq (v':=vi wp) (SU.mulW I I) (by rw[hwp])) ?_))))))))))))))))));refine pU I (zd7 I I) (oU I (iA ah zT3 I I hb6 oM sL) dC (.inl dC) (SP.on I (sT (a:=wr (e.sum+wp)) 2 zT3 I I I oM I) (.inl dC) ?_));rintro _ _ _ ⟨rfl,rfl⟩;refine pN (tN (sW I (lM I (lU (iA ah zT3 I I hb7 oM sL) (lK (eB iT3 I (zb5 3 I) g7 I) (lU (zd7 I I) (lU (iA ah zT3 I I hb7 oM sL) (oZ (sT (a:=wr (e.many+1)) 3 zT3 I I I oM I) (tZ (sW I (lM I (lM I (lU (iA ah zT3 I I hb9 oM sL) (lK (eB iT3 I (zb5 4 I) g9 I) (lU (iA ah zT3 I I I oM sL) (lK (eB iT3 I (zb5 5 I) gp1 I) (aT I (sW I (lM I (lU (iA ah zT3 I I I oM sL) ?_))))))))))))))))))));refine lK (eB iT3 I (zb5 5 I) gp2 I) (aT I (rZ (aT I (bK ?_))));have hm6:((A++e::B).map En.sum).set ((A.length:Nat):Int).toNat (wr (e.sum+wp))=(A++e.up wp::B).map En.sum:=by rw[zg3,zg2,dH (by simp)]; simp[En.up]
     have hm7:((A++e::B).map En.many).set ((A.length:Nat):Int).toNat (wr (e.many+1))=(A++e.up wp::B).map En.many:=by rw[zg3,zg2,dH (by simp)]; simp[En.up]
     have hm5:(A++e::B).map En.id=(A++e.up wp::B).map En.id:=by simp[En.up]
     have hm9:((A++e::B).map En.fi)=(A++e.up wp::B).map En.fi:=by simp[En.up,En.fi]
     generalize hold:pa.getD e.fst 0=old at *;generalize hnow:pa.getD i 0=now at *;refine SC.to (fun w hw=>?_) (g':=g) (s':=pt b11 (.cells #[vi yc.id,vi yc.dim,.slice yp yc.sides.length ycap] 63 (0,0))::rowA encInt 3 u5 ((A++e.up wp::B).map En.id)::rowA encInt 3 (.slice q6 ((A++e::B).map En.sum).length d6) ((A++e.up wp::B).map En.sum)::rowA encInt 3 (.slice q7 ((A++e::B).map En.many).length d7) ((A++e.up wp::B).map En.many)::rowA encInt 3 (.slice q9 ((A++e::B).map En.fi).length d9) ((A++e.up wp::B).map En.fi)::rowA encInt 3 (.slice (some ⟨b8,0,none⟩) c.sides.length c.sides.length) (dD 0 old now pa)::pt b3 (.cells #[vi c.id,vi c.dim,.slice rp c.sides.length rcap] 63 (0,0))::s) ?_
     ·rw[← hm6,← hm7,← hm5,← hm9,s5]; exact hw
     refine oP (ι:=Nat) (fun m=>[(0,.slice vp rs.length vc),(3,pp b3 0),(5,u5),(6,.slice q6 ((A++e::B).map En.sum).length d6),(7,.slice q7 ((A++e::B).map En.many).length d7),(8,.slice (some ⟨b8,0,none⟩) c.sides.length c.sides.length),(9,.slice q9 ((A++e::B).map En.fi).length d9),(10,vi (i:Nat)),(11,pp b11 0),(12,vi (j:Nat)),(14,vi old),(15,vi now),(16,vi (m:Nat))]) (fun _=>g)
      (fun m=>pt b11 (.cells #[vi yc.id,vi yc.dim,.slice yp yc.sides.length ycap] 63 (0,0))::rowA encInt 3 u5 ((A++e.up wp::B).map En.id)::rowA encInt 3 (.slice q6 ((A++e::B).map En.sum).length d6) ((A++e.up wp::B).map En.sum)::rowA encInt 3 (.slice q7 ((A++e::B).map En.many).length d7) ((A++e.up wp::B).map En.many)::rowA encInt 3 (.slice q9 ((A++e::B).map En.fi).length d9) ((A++e.up wp::B).map En.fi)::rowA encInt 3 (.slice (some ⟨b8,0,none⟩) c.sides.length c.sides.length) (dD m old now pa)::pt b3 (.cells #[vi c.id,vi c.dim,.slice rp c.sides.length rcap] 63 (0,0))::s)
      (fun m=>m≤i+1) (fun m=>i+1 - m) 0 sB rfl rfl (zf4 _) ?_
     rintro m hm;have hrel:=kx m old now pa;refine sQ (sW I (lM I (lU (SU.leq I I) (tZ ?_))));refine iP I (fun hlt3=>?_) (fun hlt3=>?_)
     ·have hmp:m<pa.length:=oM;have gm:(dD m old now pa)[((m:Nat):Int).toNat]?=some pa[m]:=vH hmp;have hsuc:=s6 (old:=old) (now:=now) hmp;refine kP (tN (sQ (bK (sW I (lM I (lU (iA ah zT3 I I I oM sL) (lK (eB iT3 I (zb5 5 I) gm I) (lM I (yE I (tZ ?_))))))))));refine iP I (fun hcm=>?_) (fun hcm=>?_)
      ·refine rG (lM I (lM I (lM I (lU (iA ah zT3 I I I oM sL) (oZ (sT (a:=old) 5 zT3 I I I (by rw[hrel]; omega) I) ?_)))));refine nL (bN (tN (rG (lM I (yD I (lA I (nL ?_)))))));refine ST.to (fun w hw=>?_) (g':=g) (s':=pt b11 (.cells #[vi yc.id,vi yc.dim,.slice yp yc.sides.length ycap] 63 (0,0))::rowA encInt 3 u5 ((A++e.up wp::B).map En.id)::rowA encInt 3 (.slice q6 ((A++e::B).map En.sum).length d6) ((A++e.up wp::B).map En.sum)::rowA encInt 3 (.slice q7 ((A++e::B).map En.many).length d7) ((A++e.up wp::B).map En.many)::rowA encInt 3 (.slice q9 ((A++e::B).map En.fi).length d9) ((A++e.up wp::B).map En.fi)::rowA encInt 3 (.slice (some ⟨b8,0,none⟩) c.sides.length c.sides.length) (dD (m+1) old now pa)::pt b3 (.cells #[vi c.id,vi c.dim,.slice rp c.sides.length rcap] 63 (0,0))::s) ?_
       ·rw[hsuc,zf8 hcm]; exact hw
       exact gA (m+1) sB I I oM oM
      ·refine kP (bN (tN (rG (lM I (yD I (lA I (nL ?_)))))));refine ST.to (fun w hw=>?_) (g':=g) (s':=pt b11 (.cells #[vi yc.id,vi yc.dim,.slice yp yc.sides.length ycap] 63 (0,0))::rowA encInt 3 u5 ((A++e.up wp::B).map En.id)::rowA encInt 3 (.slice q6 ((A++e::B).map En.sum).length d6) ((A++e.up wp::B).map En.sum)::rowA encInt 3 (.slice q7 ((A++e::B).map En.many).length d7) ((A++e.up wp::B).map En.many)::rowA encInt 3 (.slice q9 ((A++e::B).map En.fi).length d9) ((A++e.up wp::B).map En.fi)::rowA encInt 3 (.slice (some ⟨b8,0,none⟩) c.sides.length c.sides.length) (dD (m+1) old now pa)::pt b3 (.cells #[vi c.id,vi c.dim,.slice rp c.sides.length rcap] 63 (0,0))::s) ?_
       ·rw[hsuc,zf7 hcm]; exact hw
       exact gA (m+1) sB I I oM oM
     ·have hmm:m=i+1:=oM;subst hmm;refine xI (tX (tX (bX (bN (tN (rG (lM I (yD I (lA I (nL ?_))))))))));have hnext:kH i x.sign (fs,pa) z=(A++e.up wp::B,dD (i+1) old now pa):=by
       unfold kH;dsimp only;rw[hfst,hold,hnow,hwp,hbump]
      refine gA ((u5,_,_,_),(A++e.up wp::B,dD (i+1) old now pa),j+1) sB I I ⟨lN,by dsimp only; rw[htk2,hnext],by dsimp only; rw[hrel]; exact hpl2,lN,fun q hq=>?_⟩ lN;have h9:=uU (c:=z.cell) (p:=wp) hil hef2 q (by rw[hbump]; exact hq);exact h9
  ·have hjj:yc.sides.take j=yc.sides:=tL oM;rw[hjj] at hst2;have hnext:mw tl (es,part) (x,i)=(fs,pa):=by unfold mw; rw[hsx]; exact hst2.symm
   refine xI (tX (tX (bX (bN (tN (rG (lM I (yD I (lA I (nL (dR (s':=rowA encInt 3 (.slice p5 (fs.map En.id).length c5) (fs.map En.id)::rowA encInt 3 (.slice p6 (fs.map En.sum).length c6) (fs.map En.sum)::rowA encInt 3 (.slice p7 (fs.map En.many).length c7) (fs.map En.many)::rowA encInt 3 (.slice p9 (fs.map En.fi).length c9) (fs.map En.fi)::rowA encInt 3 (.slice (some ⟨b8,0,none⟩) c.sides.length c.sides.length) (pa)::pt b3 (.cells #[vi c.id,vi c.dim,.slice rp c.sides.length rcap] 63 (0,0))::s) (.cons _ (.refl _)) ?_)))))))))));exact gA ((_,_,_,_),(fs,pa),i+1) sB I I ⟨lN,by dsimp only; rw[htk,← hst,hnext],hpl2,lN,hef2⟩ lN
 ·have hii:c.sides.take i=c.sides:=tL oM;rw[hii] at hst;have hfin:lj tl c.sides c.sides.length=(es,part):=hst.symm;refine zd1 fun ⟨w0,hw0⟩=>?_;obtain ⟨p6,c6,rfl⟩:=ag (i:=1) hw0 rfl;obtain ⟨p7,c7,rfl⟩:=ag (i:=2) hw0 rfl;have hb6:0<es.length→based (.slice p6 (es.map En.sum).length c6)=true:=fun h=>by obtain ⟨b0,c0,he⟩:=cw (i:=1) hw0 rfl (by simpa using h); rw[he]; rfl
  have hb7:0<es.length→based (.slice p7 (es.map En.many).length c7)=true:=fun h=>by obtain ⟨b0,c0,he⟩:=cw (i:=2) hw0 rfl (by simpa using h); rw[he]; rfl
  clear hw0 w0;have hl6:(es.map En.sum).length=es.length:=by simp
  have hl7:(es.map En.many).length=es.length:=by simp
  refine xI (tX (tX (bX (tN (sQ (rZ (aT I (bK ?_))))))));refine oP (ι:=Nat) (fun k=>[(6,.slice p6 (es.map En.sum).length c6),(7,.slice p7 (es.map En.many).length c7),(8,.slice (some ⟨b8,0,none⟩) c.sides.length c.sides.length),(17,vi (k:Nat))]) (fun _=>g)
   (fun _=>rowA encInt 3 v5 (es.map En.id)::rowA encInt 3 (.slice p6 (es.map En.sum).length c6) (es.map En.sum)::rowA encInt 3 (.slice p7 (es.map En.many).length c7) (es.map En.many)::rowA encInt 3 v9 (es.map En.fi)::rowA encInt 3 (.slice (some ⟨b8,0,none⟩) c.sides.length c.sides.length) (part)::pt b3 (.cells #[vi c.id,vi c.dim,.slice rp c.sides.length rcap] 63 (0,0))::s)
   (fun k=>k≤es.length∧(es.take k).any (fun e=>decide (e.sum≠0))=false) (fun k=>es.length - k) 0 sB rfl rfl ⟨zf4 _,by simp⟩ ?_
  rintro k ⟨hk,hno⟩;refine sQ (sW I (lM I (lU (eN ah I) (yL I (tZ ?_)))));refine iP I (fun hltA=>?_) (fun hltA=>?_)
  ·have hkl:k<es.length:=oM;have gk:(es.map En.sum)[((k:Nat):Int).toNat]?=some es[k].sum:=by simp[hkl]
   refine kP (tN (sQ (bK (sW I (lM I (lU (iA ah zT3 I I (hb6 oM) oM sL) (lK (eB iT3 I (zb5 1 I) gk I) (lU (nQ I I) (tZ ?_)))))))));refine iP I (fun hz=>?_) (fun hz=>?_)
   ·refine rZ (aT I (rE (bR (tR (tR (bR (tR ?_)))))));refine dR (s':=s) (by repeat (first | exact List.Sublist.refl _ | refine List.Sublist.cons _ ?_)) ?_;exact za6 (.inl I) results107 I ⟨by unfold gx; rw[hfin,zf8 (zj3.2 ⟨es[k],gM hkl,by simpa using hz⟩)],I,I⟩
   ·refine kP (bN (tN (rG (lM I (yD I (lA I (nL ?_)))))));exact gA (k+1) sB I I ⟨oM,by rw[tS hkl,List.any_append,hno]; simpa using hz⟩ oM
  ·have hkk:es.take k=es:=tL oM;rw[hkk] at hno;refine xI (tX (tX (bX (tN (sQ (rZ (aT I (bK ?_))))))));refine oP (ι:=Nat) (fun k=>[(7,.slice p7 (es.map En.many).length c7),(8,.slice (some ⟨b8,0,none⟩) c.sides.length c.sides.length),(18,vi (k:Nat))]) (fun _=>g)
    (fun _=>rowA encInt 3 v5 (es.map En.id)::rowA encInt 3 (.slice p6 (es.map En.sum).length c6) (es.map En.sum)::rowA encInt 3 (.slice p7 (es.map En.many).length c7) (es.map En.many)::rowA encInt 3 v9 (es.map En.fi)::rowA encInt 3 (.slice (some ⟨b8,0,none⟩) c.sides.length c.sides.length) (part)::pt b3 (.cells #[vi c.id,vi c.dim,.slice rp c.sides.length rcap] 63 (0,0))::s)
    (fun k=>k≤es.length∧(es.take k).any (fun e=>decide (e.many≠2))=false) (fun k=>es.length - k) 0 sB rfl rfl ⟨zf4 _,by simp⟩ ?_
   rintro k2 ⟨hk2,hno2⟩;refine sQ (sW I (lM I (lU (eN ah I) (yL I (tZ ?_)))));refine iP I (fun hltB=>?_) (fun hltB=>?_)
   ·have hkl:k2<es.length:=oM;have gk:(es.map En.many)[((k2:Nat):Int).toNat]?=some es[k2].many:=by simp[hkl]
    refine kP (tN (sQ (bK (sW I (lM I (lU (iA ah zT3 I I (hb7 oM) oM sL) (lK (eB iT3 I (zb5 2 I) gk I) (lU (nQ I I) (tZ ?_)))))))));refine iP I (fun hz=>?_) (fun hz=>?_)
    ·refine rZ (aT I (rE (bR (tR (tR (bR (tR ?_)))))));refine dR (s':=s) (by repeat (first | exact List.Sublist.refl _ | refine List.Sublist.cons _ ?_)) ?_;exact za6 (.inl I) results107 I ⟨by unfold gx; rw[hfin,zf7 (by rw[hno]; simp),zf8 (zj3.2 ⟨es[k2],gM hkl,by simpa using hz⟩)],I,I⟩
    ·refine kP (bN (tN (rG (lM I (yD I (lA I (nL ?_)))))));exact gA (k2+1) sB I I ⟨oM,by rw[tS hkl,List.any_append,hno2]; simpa using hz⟩ oM
   ·have hkk2:es.take k2=es:=tL oM;rw[hkk2] at hno2;refine xI (tX (tX (bX (tN (sQ (rZ (aT I (bK ?_))))))));refine oP (ι:=Nat) (fun k=>[(8,.slice (some ⟨b8,0,none⟩) c.sides.length c.sides.length),(19,vi (k:Nat))]) (fun _=>g)
     (fun _=>rowA encInt 3 v5 (es.map En.id)::rowA encInt 3 (.slice p6 (es.map En.sum).length c6) (es.map En.sum)::rowA encInt 3 (.slice p7 (es.map En.many).length c7) (es.map En.many)::rowA encInt 3 v9 (es.map En.fi)::rowA encInt 3 (.slice (some ⟨b8,0,none⟩) c.sides.length c.sides.length) (part)::pt b3 (.cells #[vi c.id,vi c.dim,.slice rp c.sides.length rcap] 63 (0,0))::s)
     (fun k=>k≤c.sides.length∧(part.take k).any (fun q=>decide (q≠part.getD 0 0))=false) (fun k=>c.sides.length - k) 0 sB rfl rfl ⟨zf4 _,by simp⟩ ?_
    rintro k3 ⟨hk3,hno3⟩;refine sQ (sW I (lM I (lU (eN ah I) (yL I (tZ ?_)))));refine iP I (fun hltC=>?_) (fun hltC=>?_)
    ·have hkl:k3<part.length:=oM;have gk:part[((k3:Nat):Int).toNat]?=some part[k3]:=gE hkl;have g0:part[((0:Nat):Int).toNat]?=some (part.getD 0 0):=by
      have h:0<part.length:=oM;rw[show ((0:Nat):Int).toNat=0 from rfl,gE h,zg8,gE h]; rfl
     generalize hp0:part.getD 0 0=p0 at *;refine kP (tN (sQ (bK (sQ ?_))));refine dW [] [(0,2),(1,2),(2,2),(3,1),(4,2),(5,2),(6,1),(7,2)] ze1 kR ?_;refine yM I (yM I (pU I (iA ah zT3 I I I oM sL) (pK I (eB iT3 I (zb5 4 I) gk I) (yM I (pU I (iA ah zT3 I I I dC sL) (pK I (eB iT3 I (zb5 4 I) g0 I) (pU I (nQ I I) (pN (tN ?_)))))))));refine iP I (fun hz=>?_) (fun hz=>?_)
     ·refine rZ (aT I (rE (bR (tR (tR (bR (tR ?_)))))));refine dR (s':=s) (by repeat (first | exact List.Sublist.refl _ | refine List.Sublist.cons _ ?_)) ?_;exact za6 (.inl I) results107 I ⟨by unfold gx; rw[hfin,zf7 (by rw[hno]; simp),zf7 (by rw[hno2]; simp),zf8 (zj3.2 ⟨part[k3],gM hkl,by rw[hp0]; simpa using hz⟩)],I,I⟩
     ·refine kP (bN (tN (rG (lM I (yD I (lA I (nL ?_)))))));exact gA (k3+1) sB I I ⟨oM,by rw[tS hkl,List.any_append,hno3]; simpa using hz⟩ oM
    ·have hkk3:part.take k3=part:=tL oM;rw[hkk3] at hno3;refine xI (tX (tX (bX (tN (rZ (aT I (rE ?_)))))));refine dR (s':=s) (by repeat (first | exact List.Sublist.refl _ | refine List.Sublist.cons _ ?_)) ?_;exact za6 (.inl I) results107 I ⟨by unfold gx; rw[hfin,zf7 (by rw[hno]; simp),zf7 (by rw[hno2]; simp),zf7 (by rw[hno3]; simp)],I,I⟩
theorem k0 {tl:List Cl}{c:Cl}(h:cz tl c=0):∀ x∈c.sides,(aJ tl x.cell).isSome=true:=by
 intro x hx;unfold cz at h;split at h
 ·cases h
 split at h
 ·cases h
 split at h
 ·cases h
 rename_i hno;have hno':(List.range c.sides.length).any (iU tl c)=false:=by simpa using hno
 obtain ⟨k,hk,rfl⟩:=zc4 hx;have h1:=zj8.1 hno' k (List.mem_range.2 hk);cases hf:(aJ tl c.sides[k].cell).isSome with
 | true=>rfl
 | false =>
  exfalso;apply h1;unfold iU;rw[gE hk];exact mU (by rw[hf]; simp)
theorem jV {tl:List Cl}:∀ {L:List Cl} {last:Int},fN tl L last=none→(∀ x∈L,last<x.id)∧L.Pairwise fun a b=>a.id<b.id
 | [],_,_=>⟨by simp,List.Pairwise.nil⟩
 | x::r,last,h=>by
  unfold fN at h;split at h
  ·cases h
  ·rename_i h1;split at h
   ·cases h
   ·obtain ⟨h2,h3⟩:=jV h;refine⟨fun y hy=>?_,zj6.2 ⟨h2,h3⟩⟩
    rcases ze8.1 hy with rfl | hy
    ·omega
    ·have:=h2 y hy; omega
theorem lC:∀ {L acc:List Cl},(acc++L).Pairwise (fun a b=>a.id<b.id)→L.foldl fE acc=acc++L
 | [],acc,_=>by simp
 | x::r,acc,h=>by
  have h1:acc.any (fun y=>y.id == x.id)=false:=by
   rw[zj8];intro y hy;have:=(List.pairwise_append.1 h).2.2 y hy x (by simp);simp;omega
  rw[zi5,ka h1,lC (by simpa using h)];simp
theorem bg {l:List Cl}(h:(aa l).Pairwise fun a b=>a.id<b.id):ae l=aa l:=by
 unfold ae;rw[lC (by simpa using h)];rfl
def ll (tl:List Cl):List Cl→Option (Int×Int)
 | []=>none
 | x::r=>if x.dim>1∧gx tl x≠0 then some (x.id,gx tl x) else ll tl r
def aF (l:List Cl):Int×Int:=if (l.length:Int)>4000 then (0,2) else (fN (ae l) (aa l) 0).getD ((ll (aa l) (aa l)).getD (0,0))
def fD (L:List Cl)(i:Nat):Int:=if i=0 then 0 else (L.getD (i - 1) gN).id
theorem tz {L:List Cl}{i:Nat}(h:i<L.length):fD L (i+1)=L[i].id:=by
 unfold fD;rw[zf7 oM];simp[h]
theorem kA (E:World)(g:PH)(s:Own)(v:Value)(l:List Cl)(hv:am g v l)(hf:cR l) :
  Ctr Tryz.prog E 71 #[.agg #[v]] g s (fun r g' s'=>r = .tuple #[vi (aF l).1,vi (aF l).2]∧s=s'∧Le g g'):=by
 obtain ⟨p,c,rfl⟩:=hv.form;have hsrt:=gp l;have hcl:=ay l;have hfc:=ci hf;have hft:=dG hf;have hts:=dS l;have hcs:=ii l;refine za9 (args:=[.agg #[.slice p l.length c]]) func71 I ntmps71 (bE I) ?_;refine rZ (bW (bO I) fun b1=>?_);refine lA I (aT I (sQ (rZ (lU (fA ed I c8 I) (lK (qL eY I (cO 0 I I)) (lU (eN aA I) (lU (gR I I) (tZ ?_))))))));refine iP I (fun hmany=>?_) (fun hmany=>?_)
 ·refine rZ (lA I (aT I (rE (tR (dR (s':=s) uR ?_)))));exact ST.ret2 (.inl I) results71 I I ⟨by unfold aF; rw[zf8 oM],I,zb7 g⟩
 ·refine kP (tN (rZ (lU (fA ed I c8 I) (lK (qL eY I (cO 0 I I)) (lW (cL call96 I (ja E l.length g _ _ l (lR _) hv hf)) ?_)))));rintro v16 g1 _ ⟨rfl,hle1,hL⟩;obtain ⟨rs,hrs,hall⟩:=hL;have hrl:=hall.length;obtain ⟨q,d,rfl⟩:=hrs.form;refine aT I (rZ (lK (qV 0 bh aw I I I) (lW (cL call61 I (bJ E g1 _ _ l (hv.mono hle1) hf)) ?_)));rintro v18 g2 _ ⟨rfl,hle2,hO⟩;have hrs2:=hrs.mono hle2;have hall2:=hall.mono fun _ _=>aC.mono hle2;obtain ⟨q2,d2,rfl⟩:=hO.form;refine aT I (sQ (rZ (aT I (bK ?_))));have hLc:am g2 (.slice q rs.length d) (aa l):=⟨rs,hrs2,hall2⟩;have hchk:aF l=(fN (ae l) (aa l) 0).getD ((ll (aa l) (aa l)).getD (0,0)):=by unfold aF; rw[zf7 oM]
  refine oP (ι:=Nat) (fun i=>[(1,pp b1 0),(4,.slice q rs.length d),(5,.slice q2 (ae l).length d2),(6,vi i)]) (fun _=>g2) (fun _=>pt b1 (.cells #[.slice p l.length c] 30 (0,0))::s)
   (fun i=>i≤rs.length∧fN (ae l) (aa l) 0=fN (ae l) ((aa l).drop i) (fD (aa l) i)∧(0<i→1≤fD (aa l) i)) (fun i=>rs.length - i) 0
   sB rfl rfl ⟨zf4 _,rfl,fun h=>absurd h oM⟩ ?_
  rintro i ⟨hi,hc1,hl1⟩;refine sQ (sW I (lM I (lU (eN aA I) (yL I (tZ ?_)))));refine iP I (fun hlt=>?_) (fun hlt=>?_)
  ·have hil:i<(aa l).length:=oM;have hir:i<rs.length:=oM;have hb1:=hrs2.based oM;have hcr:=hall2.get (gE hil) (gE hir);have hgx:rs[((i:Nat):Int).toNat]?=some rs[i]:=gE hir;have hdrop:(aa l).drop i=(aa l)[i]::(aa l).drop (i+1):=zg4 hil;have hxl:=hfc.2 _ (gM hil);have hls:=tz hil;rw[hdrop] at hc1;have hprev:0<i→∃ (r:Rc),rs[((i:Int) - 1).toNat]?=some r∧r.id=fD (aa l) i∧fD (aa l) i≤(aa l)[i].id:=fun h=>by
    have h2:i - 1<rs.length:=oM;have h3:i - 1<(aa l).length:=oM;refine⟨rs[i - 1],by rw[show ((i:Int) - 1).toNat=i - 1 by omega]; exact gE h2,?_,?_⟩
    ·have:=(hall2.get (gE h3) (gE h2)).1;rw[this];unfold fD;rw[zf7 oM];simp[h3]
    ·have:=zc6.1 hsrt (i - 1) i h3 hil oM;unfold fD;rw[zf7 oM];simpa [h3] using this
   generalize (aa l)[i]=x at *;generalize rs[i]=rx at *;obtain ⟨hx1,hx2,hx3⟩:=hcr;have hcr:aC g2 x rx:=⟨hx1,hx2,hx3⟩;have hbad:x.id≤fD (aa l) i→aF l=(x.id,20):=fun h=>by rw[hchk,hc1,fN,zf8 h]; rfl
   by_cases hx0:x.id<1
   ·have hle0:x.id≤fD (aa l) i:=by
     by_cases h0:0<i
     ·have:=hl1 h0; omega
     ·have:i=0:=oM;subst this;show x.id≤0;omega
    refine kP (tN (sQ (bK (sQ (sQ ?_)))));refine dW [] [(0,2),(1,2),(2,2),(3,2),(4,1),(5,2),(6,2),(7,2),(8,2),(9,2),(10,2),(11,2),(12,2),(13,2),(14,1),(15,2),(16,2),(17,2),(18,2),(19,2),(20,1),(21,2),(22,2),(23,2)] ze1 kR ?_;refine yM I (yM I (pU I (iA aA au I I hb1 oM sL) (pU I (fC ao I zT3 I hb1) (pK I (aZ (e:=encCell) (o:=0) (u:=vi x.id) iT3 I hrs2.rd hgx (by rw[← hx1]; rfl)) ?_))));refine pU I (SU.eq (v':=vb true) (lS I I) (zd9 vb (zf6 hx0))) (yM I (yG I (yG I (yG I (yH I (yH I (yH I (yH I (SP.off1 I (zb2 I I I dC) dC (yH I (yH I (yH I (yH I (yH I (SP.off1 I (zb2 I I I dC) dC (yH I (yG I (pU I (wT I I) (pN (tN (cT I (sW I (lM I (lU (iA aA au I I hb1 oM sL) (lU (fC ao I zT3 I hb1) (lK (aZ (e:=encCell) (o:=0) (u:=vi x.id) iT3 I hrs2.rd hgx (by rw[← hx1]; rfl)) ?_))))))))))))))))))))))))));refine lA I (aT I (rE (tR (bR (tR (tR (bR (tR (dR (s':=s) uR ?_)))))))));exact ST.ret2 (.inl I) results71 I I ⟨by rw[hbad hle0],I,hle1.trans hle2⟩
   ·have hgo:fD (aa l) i<x.id→fN (ae l) (aa l) 0=if cz (ae l) x≠0 then some (x.id,cz (ae l) x) else fN (ae l) ((aa l).drop (i+1)) (fD (aa l) (i+1)):=fun h=>by
     rw[hc1,fN,zf7 oM,hls]
    by_cases hi0:(i:Int)>0
    ·obtain ⟨rp,hrp,hrpi,hrple⟩:=hprev oM;refine kP (tN (sQ (bK (sQ (sQ ?_)))));refine dW [] [(0,2),(1,2),(2,2),(3,2),(4,1),(5,2),(6,2),(7,2),(8,2),(9,2),(10,2),(11,2),(12,2),(13,2),(14,1),(15,2),(16,2),(17,2),(18,2),(19,2),(20,1),(21,2),(22,2),(23,2)] ze1 kR ?_;refine yM I (yM I (pU I (iA aA au I I hb1 oM sL) (pU I (fC ao I zT3 I hb1) (pK I (aZ (e:=encCell) (o:=0) (u:=vi x.id) iT3 I hrs2.rd hgx (by rw[← hx1]; rfl)) ?_))));refine pU I (SU.eq (v':=vb false) (lS I I) (zd9 vb (zf5 hx0))) (yM I (yJ I (zb1 I (gT I I I dC) (SU.eq (v':=vb true) (gR I I) (zd9 vb (zf6 hi0))) dC (yJ I (yJ I (yJ I (zb1 I (gT I I I dC) (iA aA au I I hb1 oM sL) dC (zb1 I (gT I I I dC) (fC ao I zT3 I hb1) dC (SP.gq I (gT I I I dC) (aZ (e:=encCell) (o:=0) (u:=vi x.id) iT3 I hrs2.rd hgx (by rw[← hx1]; rfl)) dC ?_)))))))));refine yJ I (yJ I (zb1 I (gT I I I dC) (sU I I oM) dC (zb1 I (gT I I I dC) (iA aA au I I hb1 oM sL) dC (zb1 I (gT I I I dC) (fC ao I zT3 I hb1) dC (SP.gq I (gT I I I dC) (aZ (e:=encCell) (o:=0) (u:=vi (fD (aa l) i)) iT3 I hrs2.rd hrp (by rw[← hrpi]; rfl)) dC ?_)))));refine zb1 I (gT I I I dC) (eQ I I) dC (zb1 I (gT I I I dC) (wT I I) dC (pU I (wF I I) (pN (tN ?_))));refine iP I (fun heq=>?_) (fun heq=>?_)
     ·refine sW I (lM I (lU (iA aA au I I hb1 oM sL) (lU (fC ao I zT3 I hb1) (lK (aZ (e:=encCell) (o:=0) (u:=vi x.id) iT3 I hrs2.rd hgx (by rw[← hx1]; rfl)) ?_))));refine lA I (aT I (rE (tR (bR (tR (tR (bR (tR (dR (s':=s) uR ?_)))))))));exact ST.ret2 (.inl I) results71 I I ⟨by rw[hbad oM],I,hle1.trans hle2⟩
     ·refine kP (tN (sW I (lM I (lM I (lU (iA aA au I I hb1 oM sL) (lK (eA (e:=encCell) eX au I hrs2.rd hgx) (lW (cL call106 I (oH E g2 _ _ (ae l) x rx hO hft.1 hts hcr hxl)) ?_)))))));rintro _ _ _ ⟨rfl,rfl,rfl⟩;refine aT I (sW I (lU (nQ I I) (tZ ?_)));have hg:=hgo oM;refine iP I (fun he=>?_) (fun he=>?_)
      ·rw[zf8 he] at hg;refine sW I (lM I (lU (iA aA au I I hb1 oM sL) (lU (fC ao I zT3 I hb1) (lK (aZ (e:=encCell) (o:=0) (u:=vi x.id) iT3 I hrs2.rd hgx (by rw[← hx1]; rfl)) ?_))));refine lM I (lA I (aT I (rE (bR (tR (tR (bR (tR (dR (s':=s) uR ?_)))))))));exact ST.ret2 (.inl I) results71 I I ⟨by rw[hchk,hg]; rfl,rfl,hle1.trans hle2⟩
      ·rw[zf7 he] at hg;refine kP (bN (tN (rG (lM I (yD I (lA I (nL ?_)))))));exact gA (i+1) sB I I ⟨oM,hg,fun _=>by rw[hls]; omega⟩ oM
    ·have hi00:i=0:=oM;have hg:=hgo (by rw[hi00]; show (0:Int)<x.id; omega);refine kP (tN (sQ (bK (sQ (sQ ?_)))));refine dW [] [(0,2),(1,2),(2,2),(3,2),(4,1),(5,2),(6,2),(7,2),(8,2),(9,2),(10,2),(11,2),(12,2),(13,2),(14,1),(15,2),(16,2),(17,2),(18,2),(19,2),(20,1),(21,2),(22,2),(23,2)] ze1 kR ?_;refine yM I (yM I (pU I (iA aA au I I hb1 oM sL) (pU I (fC ao I zT3 I hb1) (pK I (aZ (e:=encCell) (o:=0) (u:=vi x.id) iT3 I hrs2.rd hgx (by rw[← hx1]; rfl)) ?_))));refine pU I (SU.eq (v':=vb false) (lS I I) (zd9 vb (zf5 hx0))) (yM I (yJ I (zb1 I (gT I I I dC) (SU.eq (v':=vb false) (gR I I) (zd9 vb (zf5 hi0))) dC (yJ I (yG I (yG I (yG I (yG I (yI I (yG I (yG I (yG I (yG I (yG I (yI I (yG I (zb1 I (gT I I I dC) (wF I I) dC (pU I (wF I I) (pN (tN (cF I (kP (tN (sW I (lM I (lM I (lU (iA aA au I I hb1 oM sL) ?_)))))))))))))))))))))))))));refine lK (eA (e:=encCell) eX au I hrs2.rd hgx) (lW (cL call106 I (oH E g2 _ _ (ae l) x rx hO hft.1 hts hcr hxl)) ?_);rintro _ _ _ ⟨rfl,rfl,rfl⟩;refine aT I (sW I (lU (nQ I I) (tZ ?_)));refine iP I (fun he=>?_) (fun he=>?_)
     ·rw[zf8 he] at hg;refine sW I (lM I (lU (iA aA au I I hb1 oM sL) (lU (fC ao I zT3 I hb1) (lK (aZ (e:=encCell) (o:=0) (u:=vi x.id) iT3 I hrs2.rd hgx (by rw[← hx1]; rfl)) ?_))));refine lM I (lA I (aT I (rE (bR (tR (tR (bR (tR (dR (s':=s) uR ?_)))))))));exact ST.ret2 (.inl I) results71 I I ⟨by rw[hchk,hg]; rfl,rfl,hle1.trans hle2⟩
     ·rw[zf7 he] at hg;refine kP (bN (tN (rG (lM I (yD I (lA I (nL ?_)))))));exact gA (i+1) sB I I ⟨oM,hg,fun _=>by rw[hls]; omega⟩ oM
  ·have hid:(aa l).drop i=[]:=List.drop_eq_nil_of_le oM;rw[hid] at hc1;have hnone:fN (ae l) (aa l) 0=none:=hc1;have hst:=(jV hnone).2;have htab:=bg hst;have hform:=kr hnone;rw[hnone] at hchk;have hchk2:aF l=(ll (aa l) (aa l)).getD (0,0):=hchk;refine xI (tX (tX (bX (tN (sQ (rZ (aT I (bK ?_))))))));refine oP (ι:=Nat) (fun i=>[(1,pp b1 0),(4,.slice q rs.length d),(8,vi i)]) (fun _=>g2) (fun _=>pt b1 (.cells #[.slice p l.length c] 30 (0,0))::s)
    (fun i=>i≤rs.length∧ll (aa l) (aa l)=ll (aa l) ((aa l).drop i)) (fun i=>rs.length - i) 0
    sB rfl rfl ⟨zf4 _,rfl⟩ ?_
   rintro j ⟨hj,hc2⟩;refine sQ (sW I (lM I (lU (eN aA I) (yL I (tZ ?_)))));refine iP I (fun hlt2=>?_) (fun hlt2=>?_)
   ·have hjl:j<(aa l).length:=oM;have hjr:j<rs.length:=oM;have hb1:=hrs2.based oM;have hcr:=hall2.get (gE hjl) (gE hjr);have hgx:rs[((j:Nat):Int).toNat]?=some rs[j]:=gE hjr;have hdrop:(aa l).drop j=(aa l)[j]::(aa l).drop (j+1):=zg4 hjl;have hxm:(aa l)[j]∈aa l:=gM hjl;rw[hdrop] at hc2;generalize (aa l)[j]=x at *;generalize rs[j]=rx at *;obtain ⟨hx1,hx2,hx3⟩:=hcr;have hcr:aC g2 x rx:=⟨hx1,hx2,hx3⟩;have haok:=wL hform hxm;have hfound:=k0 (hform x hxm);rw[htab] at haok hfound;refine kP (tN (sQ (bK (sQ (sW I (lM I (lU (iA aA au I I hb1 oM sL) (lU (fC ao I zT3 I hb1) (lK (aZ (e:=encCell) (o:=1) (u:=vi x.dim) iT3 I hrs2.rd hgx (by rw[← hx2]; rfl)) ?_)))))))));refine yL I (tZ ?_);refine iP I (fun hdm=>?_) (fun hdm=>?_)
    ·refine xI (tX (bX (tN (rG (lM I (yD I (lA I (nL ?_))))))));exact gA (j+1) sB I I ⟨oM,by rw[hc2,ll,zf7 (fun h=>by omega)]⟩ oM
    ·refine kP (tN (sW I (lM I (lM I (lU (iA aA au I I hb1 oM sL) (lK (eA (e:=encCell) eX au I hrs2.rd hgx) (lW (cL call107 I (s4 E g2 _ _ (aa l) x rx hLc hfc.1 hcs hcr haok.1 hfound (fun y hy=>(haok.2.2 y hy).1))) ?_)))))));rintro _ _ _ ⟨rfl,rfl,rfl⟩;refine aT I (sW I (lU (nQ I I) (tZ ?_)));refine iP I (fun he=>?_) (fun he=>?_)
     ·refine sW I (lM I (lU (iA aA au I I hb1 oM sL) (lU (fC ao I zT3 I hb1) (lK (aZ (e:=encCell) (o:=0) (u:=vi x.id) iT3 I hrs2.rd hgx (by rw[← hx1]; rfl)) ?_))));refine lM I (lA I (aT I (rE (bR (tR (tR (bR (tR (dR (s':=s) uR ?_)))))))));exact ST.ret2 (.inl I) results71 I I ⟨by rw[hchk2,hc2,ll,zf8 ⟨oM,he⟩]; rfl,rfl,hle1.trans hle2⟩
     ·refine kP (bN (tN (rG (lM I (yD I (lA I (nL ?_)))))));exact gA (j+1) sB I I ⟨oM,by rw[hc2,ll,zf7 (fun h=>he h.2)]⟩ oM
   ·have hjd:(aa l).drop j=[]:=List.drop_eq_nil_of_le oM;rw[hjd] at hc2;refine xI (tX (tX (bX (tN (rZ (lA I (aT I (rE (dR (s':=s) uR ?_)))))))));exact ST.ret2 (.inl I) results71 I I ⟨by rw[hchk2,hc2]; rfl,rfl,hle1.trans hle2⟩
theorem fk (E:World)(g:PH)(s:Own)(v:Value)(l:List Cl)(hv:am g v l)(hf:cR l) :
  Ctr Tryz.prog E 40 #[.agg #[v]] g s (fun r g' s'=>r=vb (decide ((aF l).2=0))∧s=s'∧Le g g'):=by
 refine za9 (args:=[.agg #[v]]) func40 I ntmps40 (bE I) ?_;refine rZ (bW (bO I) fun b1=>?_);refine aT I (rZ (lK (qV 0 bh aw I I I) (lW (cL call71 I (kA E g _ _ l hv hf)) ?_)));rintro _ g1 _ ⟨rfl,rfl,hle⟩;refine lM I (yX I (yX I (lA I (aT I (sW I (yE I (aT I (rE (dR (s':=s) uR ?_)))))))));exact za6 (.inl I) results40 I ⟨I,I,hle⟩
end Go.Proofs.YtcfkpajlakidbaaGreat
