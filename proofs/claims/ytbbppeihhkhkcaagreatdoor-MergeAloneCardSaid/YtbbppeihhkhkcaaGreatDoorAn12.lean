/- 12 -/
import Derived.Test.YtbbppeihhkhkcaaGreatDoorAn11
set_option linter.unusedSimpArgs false
set_option linter.unusedVariables false
namespace Go.Proofs.YtbbppeihhkhkcaaGreatDoor
open _root_.Go.Proofs.Tryz _root_.Go.Proofs.YtbbppeihhkhkcaaGreatDoor.Tryz
open Go Go.Sy Go.Pl Go.Proofs
set_option maxRecDepth 100000
set_option maxHeartbeats 2000000
theorem zz (l:List Tm):sortBy Prod.fst (sortBy Prod.fst l)=sortBy Prod.fst l:=(bI (di l)<|aI.refl _).symm
def jG (ts:Ts)(ids:List Int):Ts:=ts.map fun t=>if t.1∈ids then (t.1,t.2.1,sortBy Prod.fst t.2.2) else t
theorem C5 (ts:Ts):jG ts []=ts:=by simp[jG]
theorem BA {ts:Ts}{ids:List Int}{k:Int}(h:(jG ts ids).find? (fun t=>decide (t.1=k))=none):∀ t∈ts,t.1≠k:=fun t a e=>by
 have b:=List.find?_eq_none.1 h _<|zf4.2 ⟨t,a,rfl⟩;apply b;split <;> exact zg1 e
theorem Bz {ts:Ts}{ids:List Int}{k:Int}(h:∀ t∈ts,t.1≠k):jG ts (ids++[k])=jG ts ids:=by
 unfold jG;apply zc9;intro t c;have b:=h t c;by_cases a:t.1∈ids
 ·rw[zg3 a,zg3 (by simp[a])]
 ·rw[zg2 a,zg2 (by simp[a,b])]
theorem C6 {ts:Ts}{ids:List Int}{m:Nat}{t':Int×Value×List Tm}(h:(jG ts ids)[m]?=some t'):∃ t,ts[m]?=some t∧t.1=t'.1∧t.2.1=t'.2.1∧sortBy Prod.fst t'.2.2=sortBy Prod.fst t.2.2:=by
 unfold jG at h;rw[zi2] at h;cases a:ts[m]? with
 | none=>rw[a] at h; cases h
 | some t =>
  rw[a] at h;simp only[Option.map_some,zg9] at h;subst h;refine⟨t,I,?_,?_,?_⟩
  ·split <;> rfl
  ·split <;> rfl
  ·split
   ·exact zz _
   ·rfl
theorem Bw {ts:Ts}(hn:(ts.map Prod.fst).Nodup){ids:List Int}{k:Int}{m:Nat}{t':Int×Value×List Tm}(h:(jG ts ids)[m]?=some t')(j:t'.1=k):(jG ts ids).set m (t'.1,t'.2.1,sortBy Prod.fst t'.2.2)=jG ts (ids++[k]):=by
 obtain ⟨t,c,d,l,o⟩:=C6 h;apply List.ext_getElem?;intro n;rw[List.getElem?_set];by_cases e:m=n
 ·subst e;have p:=(zf7.1 h).1;rw[zg3 rfl,zg3 p];unfold jG;rw[zi2,c,Option.map_some,zg3 (by simp[d,j]),← o,← d,← l]
 ·rw[zg2 e];unfold jG;rw[zi2,zi2];cases b:ts[n]? with
  | none=>rfl
  | some u =>
   have f:u.1≠k:=fun e2=>by
    have g:=(zf7.1 c).1;have i:=(zf7.1 b).1;have a:(ts.map Prod.fst)[m]'(by simpa using g)=(ts.map Prod.fst)[n]'(by simpa using i):=by
     rw[List.getElem_map,List.getElem_map,(zf7.1 c).2,(zf7.1 b).2,d,j,e2]
    exact e<|(List.getElem_inj hn).1 a
   rw[Option.map_some,Option.map_some];by_cases a:u.1∈ids
   ·rw[zg3 a,zg3 (by simp[a])]
   ·rw[zg2 a,zg2 (by simp[a,f])]
theorem AS {ts:Ts}(h:EF ts)(ids:List Int):EF (jG ts ids):=fun t d=>by
 obtain ⟨u,e,rfl⟩:=zf4.1 d;obtain ⟨a,b,c⟩:=h u e;split
 ·exact⟨by rw[ez]; exact a,((fG u.2.2).map Prod.fst).symm.nodup b,c⟩
 ·exact⟨a,b,c⟩
theorem C4 (ts:Ts)(ids:List Int):vN (jG ts ids)=vN ts:=by
 unfold vN jG;rw[zi7];apply zc9;intro t _;simp only[Function.comp];split <;> rfl
theorem uV {α β γ:Type}{R:α→γ→Prop}{S:β→γ→Prop}{f:α→β}:∀ {l:List α} {m:List γ},(∀ a c,a∈l→R a c→S (f a) c)→ax R l m→ax S (l.map f) m
 | [],[],_,_=>trivial
 | a::l,c::m,h,⟨b,d⟩=>⟨h a c (by simp) b,uV (fun x y e=>h x y<|by simp[e]) d⟩
 | [],_::_,_,h=>h.elim
 | _::_,[],_,h=>h.elim
def ImS (ts:Ts)(g:PH)(c:Cl)(r:Im):Prop:=r.cell=c.id∧match ts.find? (fun t=>decide (t.1=c.id)) with
 | some t=>.slice r.sv.p r.sv.n r.sv.c=t.2.1
 | none=>SlA fm g (.slice r.sv.p r.sv.n r.sv.c) [(c.id,1)]
theorem ImS.mono {ts:Ts}{g g':PH}(hl:Le g g'){c:Cl}{r:Im}(h:ImS ts g c r):ImS ts g' c r:=by
 refine⟨h.1,?_⟩;have a:=h.2
 revert a
 cases ts.find? (fun t=>decide (t.1=c.id)) with
 | some t=>exact id
 | none=>exact fun a=>za5 a hl
theorem ImS.done {ts:Ts}{g:PH}{F:List Cl}(d:∀ t∈jG ts (F.map Cl.id),SlA fm g t.2.1 t.2.2){c:Cl}(e:c∈F){r:Im}(h:ImS ts g c r):ImR g (c.id,ED ts c.id) r:=by
 refine⟨h.1,?_⟩;have a:=h.2;unfold ED;dsimp only
 revert a
 cases b:ts.find? (fun t=>decide (t.1=c.id)) with
 | some t =>
  intro a;have f:=zk8 b;have i:t.1=c.id:=by simpa using List.find?_some b
  dsimp only at a ⊢;rw[a];exact d (t.1,t.2.1,sortBy Prod.fst t.2.2)<|zf4.2 ⟨t,f,by rw[zg3 (by rw[i]; exact zf4.2 ⟨c,e,I⟩)]⟩
 | none=>exact id
theorem Bx {ts:Ts}{ids:List Int}{k:Int}{t':Int×Value×List Tm}(h:(jG ts ids).find? (fun t=>decide (t.1=k))=some t'):∃ t,ts.find? (fun t=>decide (t.1=k))=some t∧t.2.1=t'.2.1:=by
 unfold jG at h;rw[List.find?_map] at h;rw[Option.map_eq_some_iff] at h;obtain ⟨t,a,b⟩:=h;refine⟨t,?_,?_⟩
 ·rw[← a];congr 1;funext u;simp only[Function.comp];split <;> rfl
 ·rw[← b];split <;> rfl
theorem Ck {ts ts2:Ts}(f:(ts.map Prod.fst).Nodup)(g:EF ts){ids:List Int}{cx:Cl}{g2:PH}{v:Value}
  (h:((jG ts ids).find? (fun t=>decide (t.1=cx.id))=none∧ts2=jG ts ids∧SlA fm g2 v [(cx.id,1)])∨∃ (m:Nat) (t:Int×Value×List Tm),(jG ts ids)[m]?=some t∧t.1=cx.id∧(jG ts ids).find? (fun t=>decide (t.1=cx.id))=some t∧v=t.2.1∧ts2=(jG ts ids).set m (t.1,t.2.1,sortBy Prod.fst t.2.2)) :
  ∃ q n d,v = .slice q n d∧ts2=jG ts (ids++[cx.id])∧ImS ts g2 cx ⟨cx.id,⟨q,n,d⟩⟩:=by
 rcases h with ⟨b,rfl,e⟩ | ⟨m,t,b,l,e,rfl,rfl⟩
 ·obtain ⟨p,c,rfl⟩:=za4 e;have a:=BA b;refine⟨p,_,c,I,(Bz a).symm,I,?_⟩;rw[show ts.find? (fun t=>decide (t.1=cx.id))=none from List.find?_eq_none.2 fun t o=>by simpa using a t o];exact e
 ·obtain ⟨_,_,p,n,c,k⟩:=AS g ids t<|zg4 b;obtain ⟨u,i,j⟩:=Bx e;refine⟨p,n,c,k,Bw f b l,I,?_⟩;rw[i];dsimp only;rw[j,k]
theorem BG (E:World)(g:PH)(p0 q0:Own)(bx mb ms:Nat)(u v:Value)(bk:Bool)(A D:List Cl)(ts:Ts)(B:EF ts)(P:(ts.map Prod.fst).Nodup)(hu:ai g u A)(hv:ai g v D)(hA:A.length<1099511627776)(hD:D.length<1099511627776)(i j:Nat)(t:p0[i]?=some (edP bx u mb ms bk))(Q:p0[j]?=some (mp ms<|vN ts)) :
  Ctr Tryz.prog E 44 #[pp bx 0,.agg #[v]] g (p0++(fW ts++q0)) (fun r g' s'=>s'=p0++q0∧Le g g'∧∃ iv,r = .agg #[iv,vb bk]∧Ims g' iv ((if bk then D else A).map fun c=>(c.id,ED ts c.id))):=by
 have O:(p0++(fW ts++q0))[i]?=some (edP bx u mb ms bk):=by rw[zh4 (zf7.1 t).1]; exact t
 obtain ⟨pu,cu,rfl⟩:=hu.form;obtain ⟨pv,cv,rfl⟩:=hv.form;refine zb2 (args:=[pp bx 0,.agg #[.slice pv D.length cv]]) func44 I ntmps44 (bE I)<|rZ (bW (bO I) fun b2=>?_);refine bW (bO I) fun b3=>bW (aL zl4) fun b4=>tZ (rZ<|SL.K (qL isAgg96 I<|cO 2 I I)<|lU (nC I)<|lU (fA kY I ae I)<|SL.K (SQ.loadOne aj ae I<|cO (v:=.slice pu A.length cu) (i+3) O I)<|bW (aL zl9) fun b5=>?_);refine oZ (sK 0 ae I I I I I sB)<|tZ<|SC.cut (ι:=Unit) (fun _=>[(2,pp b2 0),(3,pp b3 0),(4,pp b4 0),(5,pp b5 0)]) (fun _=>g) (fun _=>pt b5 (.cells #[if bk then .slice pv D.length cv else .slice pu A.length cu] 29 (0,0))::pt b4 (.cells #[.slice none 0 0,vb false] 35 (0,0))::pt b3 (.cells #[.slice pv D.length cv] 29 (0,0))::pt b2 (.cells #[pp bx 0] 96 (0,0))::(p0++(fW ts++q0))) (fun _=>True) ?_ ?_
 ·refine rZ<|SL.K (qL isAgg96 I<|cO 3 I I)<|lU (nC I)<|lU (fA kY I zT4 I)<|SL.K (qL (v:=vb bk) isAgg4 I<|cO (i+4) O I)<|tZ ?_;cases bk with
  | true =>
   exact za2 I<|rG<|SL.K (qV 2 aj ae I I I)<|oZ (sK 0 ae I I I I I sB)<|SL.nil<|za9 () sB I I trivial
  | false =>
   exact za1 I<|kP<|za9 () sB I I trivial
 rintro _ -;try dsimp only
 have hF:ai g (if bk then .slice pv D.length cv else .slice pu A.length cu) (if bk then D else A):=by cases bk <;> assumption
 have a0:(if bk then D else A).length<1099511627776:=by cases bk <;> assumption
 generalize (if bk=true then D else A)=F at *;generalize (if bk=true then Value.slice pv D.length cv else Value.slice pu A.length cu)=w at *;obtain ⟨rs,y,s⟩:=hF;have a1:=s.length;obtain ⟨p,c,rfl⟩:=za4 y;refine rZ (SL.K (qL isAgg96 I<|cO 3 I I)<|lU (nC I)<|lU (fA kY I zT4 I)<|SL.K (qL (v:=vb bk) isAgg4 I<|cO (i+4) O I)<|lU (za3 I<|buildB35 _)<|bW (aL zl4) fun b6=>?_);refine oZ (sK 0 bQ I I I I I sB)<|tZ<|rZ<|lU (SU.mkFunc I)<|aT I<|sQ<|rZ<|lU (fA dn I cq I)<|SL.K (qL eh I<|cO 1 I I)<|lU (eN aB I)<|lM I<|tZ<|bK ?_;clear O;refine zb6 113 2<|oP (ι:=Nat×PH×Value×List Im) (fun i=>[(2,pp b2 0),(4,pp b4 0),(6,pp b6 0),(7,.func (.func 111) #[] #[pp b2 0]),(26,.slice p rs.length c),(27,vi rs.length),(28,vi i.1)]) (fun i=>i.2.1)
  (fun i=>rowA ll 113 i.2.2.1 i.2.2.2::pt b6 (.cells #[i.2.2.1,vb bk] 35 (0,0))::pt b5 (.cells #[.slice p rs.length c] 29 (0,0))::pt b4 (.cells #[.slice none 0 0,vb false] 35 (0,0))::pt b3 (.cells #[.slice pv D.length cv] 29 (0,0))::pt b2 (.cells #[pp bx 0] 96 (0,0))::(p0++(fW (jG ts<|(F.take i.1).map Cl.id)++q0)))
  (fun i=>i.1≤rs.length∧Le g i.2.1∧ax (ImS ts i.2.1) (F.take i.1) i.2.2.2) (fun i=>rs.length - i.1) (0,g,.slice none 0 0,[])
  sB rfl (by dsimp only; rw[List.take_zero,List.map_nil,C5]; rfl) ⟨zf8 _,zb9 g,by simp[ax]⟩ ?_
 rintro ⟨k,g1,ov,d⟩ ⟨hk,n,b⟩;dsimp only at hk n b ⊢;have R:=b.length;rw[ze6] at R;refine rZ<|yL I<|tZ<|sQ<|iP I (fun S=>?_) (fun S=>?_)
 ·have C:k<rs.length:=oM;have G:k<F.length:=oM;have T:=za6 y oM;have U:=s.get (List.getElem?_eq_getElem G) (List.getElem?_eq_getElem C);have V:rs[((k:Nat):Int).toNat]?=some rs[k]:=List.getElem?_eq_getElem C;have H:F.take (k+1)=F.take k++[F[k]]:=tS G;generalize rs[k]=x at *;generalize F[k]=cx at *;obtain ⟨xi,xd,xp,xn,xc⟩:=x;obtain ⟨e1,e2,-⟩:=U;dsimp only at e1 e2;subst e1 e2;refine kP (tN (sQ (bK (rZ (lU (iA aB aw I I T oM (show (k:Int)<((rs.length:Nat):Int) by omega)) ?_)))));refine SL.K (SQ.elemA dT aw I (za7 (za5 y n)) V) (bW (aL zl7) fun b9=>?_);refine oZ (sK 0 aw I I I I I sB) ?_;refine tZ ?_;refine SC.drawT 3 [11,14] [(0,2),(1,2),(2,1),(3,2),(4,1),(5,2),(6,2),(7,1),(8,0),(9,2),(10,0),(11,0),(12,2),(13,2),(14,0)] ze5 kR ?_;refine pU I (fA underlying35 I p8 I) (pU I (fA y7 I th I) (pK I (qL isAgg31 I (cO 2 I I)) (pU I (fA ao I zT3 I) (pK I (qL iT3 I (cO 0 I I)) (yM I (pU I (fA ao I zT3 I) (pK I (qL iT3 I (cO 0 I I)) (SP.o I (SO.callV I I (z6 E g1 (pt b9 (.cells #[vi cx.id,vi cx.dim,.slice xp xn xc] 56 (0,0))::rowA ll 113 ov d::pt b6 (.cells #[ov,vb bk] 35 (0,0))::pt b5 (.cells #[.slice p rs.length c] 29 (0,0))::pt b4 (.cells #[.slice none 0 0,vb false] 35 (0,0))::pt b3 (.cells #[.slice pv D.length cv] 29 (0,0))::pt b2 (.cells #[pp bx 0] 96 (0,0))::p0) q0 b2 bx mb ms _ bk cx.id (jG ts ((F.take k).map Cl.id)) (AS B _) (i+7) (j+7) 6 I t (by rw[C4]; exact Q))) dC (.inr (by rintro v40 g2 _ ⟨a,W,rfl,f⟩; exact⟨by assumption,(by exact .cons_cons _ (.cons_cons _ (.cons_cons _ (List.nil_sublist _))))⟩)) ?_))))))));rintro v40 g2 _ ⟨a,W,rfl,f⟩;obtain ⟨q2,n2,d2,rfl,J,L⟩:=Ck P B f;subst J;refine pU rfl (za3 rfl (build113 _ _ _ _)) (SP.o rfl (bS sty31 rfl rfl rfl (ab sB) dC) dC (.inr (by rintro _ _ _ ⟨X,rfl,rfl,rfl⟩; exact⟨by assumption,(by exact .cons _ (.cons_cons _ (.cons_cons _ (.cons_cons _ (List.nil_sublist _)))))⟩)) ?_);rintro _ _ _ ⟨X,rfl,rfl,rfl⟩;refine SP.o I (aP (e:=ll) 1 ⟨cx.id,⟨q2,n2,d2⟩⟩ sty31 I I I I I oM oM) dC (.inl dC) ?_;rintro ov' _ _ ⟨rfl,rfl⟩;refine zd3 fun ⟨w0,M⟩=>?_;obtain ⟨q',d',rfl⟩:=ag (e:=ll) (l:=d++[⟨cx.id,⟨q2,n2,d2⟩⟩]) (i:=1) M rfl;clear M w0;refine pU rfl (fA underlying35 rfl p8 rfl) (pU rfl (fA y7 rfl th rfl) (SP.on rfl (SO.store1 2 th rfl rfl rfl rfl (bE rfl) (by rfl)) (.inl dC) ?_));rintro _ _ _ ⟨rfl,rfl⟩;refine pN (bN (tN (rG (yD I (lM I (SL.nil (dR (.cons _ (.refl _)) ?_)))))));exact ST.again (k+1,g2,_,d++[⟨cx.id,⟨q2,n2,d2⟩⟩]) sB I (by dsimp only; rw[H,zg7]; rfl) ⟨by dsimp only; omega,n.trans a,by
   dsimp only;rw[H];exact (b.mono fun _ _=>ImS.mono a).append ⟨L,trivial⟩⟩ (by dsimp only; omega)
 ·have Y:F.take k=F:=tL oM;rw[Y] at b ⊢;refine xI (tX<|tX<|bX<|tN<|sQ<|fS fun g2 a N=>?_);obtain ⟨q2,d2,rfl⟩:=zc3 N;refine SC.freezeRowsT (p:=pt b6 (.cells #[.slice q2 d.length d2,vb bk] 35 (0,0))::pt b5 (.cells #[.slice p rs.length c] 29 (0,0))::pt b4 (.cells #[.slice none 0 0,vb false] 35 (0,0))::pt b3 (.cells #[.slice pv D.length cv] 29 (0,0))::pt b2 (.cells #[pp bx 0] 96 (0,0))::p0) (q:=q0) fun g3 m Z=>?_;refine rG<|SL.K (qV 0 gw bQ I I I)<|oZ (sK 2 bQ I I I I I sB)<|tZ<|rE ?_;have z:ax (ImR g3) (F.map fun c=>(c.id,ED ts c.id)) d:=uV (fun c r hc hr=>ImS.done Z hc<|hr.mono<|a.trans m) b;exact ST.retCD 2 (p0++q0) (.inl I) results44 I gw bQ I I uR ⟨I,n.trans<|a.trans m,_,I,d,za5 N m,z⟩
abbrev edV (e:Ed)(sv pv:Value):Array Value:=#[vi e.kind,vi e.cell,vi e.dim,vi e.new,vi e.other,sv,pv]
def lC (A:List Cl)(e:Ed):List ak:=((ah A e.other).getD aH).sides
def sa (A:List Cl)(e:Ed):Int:=if (ah A e.cell).isSome&&(ah A e.other).isSome then (if aC A e.cell=[e.other]∧¬ 0<(aC A e.other).length then 0 else 32) else 30
set_option maxHeartbeats 4000000
def FR (l:List ak)(cell:Int):Int:=((l.find? fun x=>decide (x.cell=cell)).map ak.sign).getD 0
def we (e:Ed)(y:Cl):Cl:=⟨y.id,y.dim,y.sides++[⟨e.other,FR y.sides e.cell⟩]⟩
def ge (A:List Cl)(e:Ed)(ids:List Int):List Cl:=A.map fun y=>if y.id∈ids then we e y else y
def kM (l:List ak)(b:Bool):ak:=(l.find? fun x=>decide (0<x.sign) == b).getD ⟨0,0⟩
def eH (A:List Cl)(e:Ed):Int:=match ah A e.cell with
 | none=>30
 | some c=>if c.dim≠1 then 21 else if min e.new e.other<1∨e.new=e.other then 1 else if (ah A e.new).isSome||(ah A e.other).isSome then 54 else 0
def nI (A:List Cl)(e:Ed):List Cl :=
 lP (lP (lP (ge A e<|aC A e.cell) ⟨e.new,0,[]⟩) ⟨e.other,1,[⟨e.new,-1⟩,kM ((ah A e.cell).getD aH).sides true]⟩) ⟨e.cell,1,[kM ((ah A e.cell).getD aH).sides false,⟨e.new,1⟩]⟩
theorem Tryz.buildI56 (x:Int)(w:World):(Instr.build 56 #[(0,vi x)]).run Tryz.prog w = .ok (.agg #[vi x,vi 0,.slice none 0 0]) w:=by
 have a:(vi x).cells = #[vi x]:=rfl;simp[Instr.build,Instr.fill,a];rfl
open Go Go.Sy Go.Pl Go.Proofs Go.Shelf Go.Sort
instance:Inhabited ak:=⟨⟨0,0⟩⟩
def AA (x y:ak):Int:=orI [ie x.cell y.cell,ie x.sign y.sign]
theorem mh (x y:ak):AA x y<0↔x.cell<y.cell∨(x.cell=y.cell∧x.sign<y.sign):=by
 unfold AA orI orI orI ie;split <;> split <;> (try split)<;>(try split)<;>simp_all <;> omega
def GB (l:List ak):Prop:=l.Pairwise fun x y=>¬ AA y x<0
theorem Al {l m:List ak}(hl:GB l)(hm:GB m)(c:l.Perm m):l=m:=by
 refine c.eq_of_pairwise (le:=fun x y=>¬ AA y x<0) (fun x y _ _ a b=>?_) hl hm;rw[mh] at a b;obtain ⟨xc,xs⟩:=x;obtain ⟨yc,ys⟩:=y;dsimp only at a b;have e1:xc=yc:=oM;have e2:xs=ys:=oM;rw[e1,e2]
def kK (f:Int→Option Int)(x:ak):ak:=⟨(f x.cell).getD x.cell,x.sign⟩
end Go.Proofs.YtbbppeihhkhkcaaGreatDoor
namespace Go.Sy
open Go Go.MapKept
section
variable {P:Program}{N:Nat}{E:World}{f:Fr}{g:PH}{s:Own}{dst:Option Tmp}{ty:TypeId}{pos:String}{af:Array Edge}{gd:Option (Nat×Bool)}
variable {t kt et:TypeId}{m r clk:Nat}{es:Array MapEntry}{vis:List MapEntry}{x y u:Operand}{l vl:List (Int×Value)}{z:Value}{b:Nat}{k:Int}{v:Value}
def unK:Value→Option Int
 | .int .i64 n=>some n
 | _=>none
theorem FX (a:Int):unK (vi a)=some a:=rfl
end
end Go.Sy
namespace Go.Proofs.YtbbppeihhkhkcaaGreatDoor
open _root_.Go.Proofs.Tryz _root_.Go.Proofs.YtbbppeihhkhkcaaGreatDoor.Tryz
open Go Go.Sy Go.Pl Go.Proofs
def Fy (x y:ak):Bool:=decide (¬ AA y x<0)
def lJ (l:List ak):List ak:=l.mergeSort Fy
theorem iK (l:List ak):(lJ l).Perm l:=List.mergeSort_perm l Fy
theorem xM (l:List ak):GB (lJ l):=by
 have h:=List.pairwise_mergeSort (le:=Fy) (fun a b c d e=>by
  unfold Fy at *;rw[zj8,mh] at *;omega) (fun a b=>by
  unfold Fy;rw[zj6,zj8,zj8,mh,mh];omega) l
 refine List.Pairwise.imp ?_ h;intro a b d;exact zg5 d
section
variable {F:Cl→Cl}(hF:∀ y,(F y).id=y.id)
include hF
end
def qf (ps:List Pr):List Int:=ps.flatMap fun p=>[p.1,p.2]
theorem CI (ps:List Pr)(p:Pr):qf (ps++[p])=qf ps++[p.1,p.2]:=by
 unfold qf;rw[List.flatMap_append];rfl
def y9 (ps:List Pr):Bool:=decide (¬ (qf ps).Nodup)
def byF (ps:List Pr)(k:Int):Option Int:=(ps.find? fun p=>decide (p.2=k)).map Prod.fst
theorem tw {ps:List Pr}(h:(qf ps).Nodup):(ps.map Prod.snd).Nodup:=by
 induction ps with
 | nil=>simp
 | cons p ps ih =>
  have a:qf (p::ps)=p.1::p.2::qf ps:=rfl;rw[a,zk4,zk4] at h;rw[zg6,zk4];refine⟨fun hm=>h.2.1 ?_,ih h.2.2⟩;obtain ⟨q,b,e⟩:=zf4.1 hm;unfold qf;rw[List.mem_flatMap];exact⟨q,b,by simp[e]⟩
def repC (f:Int→Option Int)(c:Cl):Cl:=⟨c.id,c.dim,lJ<|c.sides.map<|kK f⟩
def CT (A:List Cl)(id:Int):Int:=((ah A id).getD aH).dim
def wh (A:List Cl)(id:Int):List ak:=((ah A id).getD aH).sides
def AO (A:List Cl)(ps:List Pr)(p:Pr):Bool:=decide (lJ ((wh A p.1).map<|kK<|byF ps)=lJ ((wh A p.2).map<|kK<|byF ps))
def jJ (A:List Cl)(e:Ed):Int :=
 if e.pairs.all (fun p=>(ah A p.1).isSome&&(ah A p.2).isSome) then
  if y9 e.pairs then 54 else if e.pairs.any (fun p=>decide (CT A p.1≠CT A p.2)) then 21 else if e.pairs.all (AO A e.pairs) then 0 else 33
 else 30
def tg (A:List Cl)(ks:List Int):List Cl:=A.filter fun c=>!decide (c.id∈ks)
def jV (A:List Cl)(e:Ed):List Cl:=(tg A<|e.pairs.map Prod.snd).map (repC<|byF e.pairs)
def sS (e:Ed)(k:Int):List Tm:=match byF e.pairs k with
 | some t=>[(t,1)]
 | none=>[(k,1)]
theorem BQ {A:List Cl}(hn:(A.map Cl.id).Nodup)(ks:List Int)(k:Int):AF (tg A ks) k=tg A (ks++[k]):=by
 have a:((tg A ks).map Cl.id).Nodup:=(List.filter_sublist.map Cl.id).nodup hn;rw[pS k a];unfold tg;rw[List.filter_filter];refine List.filter_congr fun c _=>?_;by_cases b:c.id∈ks <;> by_cases d:c.id=k <;> simp[b,d]
set_option maxRecDepth 100000
set_option maxHeartbeats 8000000
set_option maxHeartbeats 4000000
theorem iy (E:World)(g:PH)(s:Own)(v u:Value)(l m:List Int)(n:dp g v l)(o:dp g u m)(hl:l.length<1099511627776) :
  Ctr Tryz.prog E 68 #[v,u] g s (fun r g' s'=>r=vb (decide (l=m))∧g=g'∧s=s'):=by
 obtain ⟨p,c,rfl⟩:=za4 n;obtain ⟨q,d,rfl⟩:=za4 o;refine zb2 (args:=[.slice p l.length c,.slice q m.length d]) func68 I ntmps68 (bE I)<|rZ<|aT I<|sQ<|sW I<|lU (eN az I)<|lM I<|lU (eN az I)<|lU (nQ I I)<|tZ<|iP I (fun a=>?_) (fun a=>?_)
 ·exact rZ<|aT I<|rE<|tR<|za8 (.inl I) results68 I ⟨by have:l≠m:=fun e=>a (by rw[e]); simp[this],I,I⟩
 ·refine kP<|tN<|sQ<|rZ<|aT I<|bK ?_;have b:l.length=m.length:=oM;refine oP (ι:=Nat) (fun k=>[(0,.slice p l.length c),(1,.slice q m.length d),(5,vi k)]) (fun _=>g) (fun _=>s) (fun k=>k≤l.length∧l.take k=m.take k) (fun k=>l.length - k) 0
   sB rfl rfl ⟨zf8 _,by simp⟩ ?_
  rintro k ⟨B,f⟩;refine sQ<|sW I<|lM I<|lU (eN az I)<|yL I<|tZ<|iP I (fun t=>?_) (fun t=>?_)
  ·have i:k<l.length:=oM;have j:k<m.length:=oM;have w:=za6 n oM;have x:=za6 o oM;have y:l[((k:Nat):Int).toNat]?=some l[k]:=List.getElem?_eq_getElem i;have z:m[((k:Nat):Int).toNat]?=some m[k]:=List.getElem?_eq_getElem j;refine kP<|tN<|sQ<|bK<|sQ<|dW [] [(0,2),(1,2),(2,2),(3,1),(4,2),(5,2),(6,2),(7,1),(8,2)] ze5 kR<|yM I<|yM I<|pU I (iA az zT3 I I w oM sL)<|pK I (eB iT3 I (za7 n) y I)<|yM I<|yM I<|pU I (iA az zT3 I I x oM sL)<|pK I (eB iT3 I (za7 o) z I)<|pU I (nQ I I)<|pN<|tN<|iP I (fun hd=>?_) (fun hd=>?_)
   ·exact rZ<|aT I<|rE<|bR<|tR<|tR<|bR<|tR<|za8 (.inl I) results68 I ⟨by have:l≠m:=fun e=>hd (by simp[e]); simp[this],I,I⟩
   ·exact kP<|bN<|tN<|rG<|lM I<|yD I<|lA I<|SL.nil<|ST.again (k+1) sB I I ⟨oM,iw i j f<|zh2 hd⟩ oM
  ·refine xI<|tX<|tX<|bX<|tN<|rZ<|aT I<|rE ?_;have A:k=l.length:=oM;subst A;have:l=m:=jj b f;exact za8 (.inl I) results68 I ⟨by simp[this],I,I⟩
def cN (A:List Cl)(ks:List Int):List Cl:=A.filter fun c=>!decide (c.id∈ks)
theorem zD {A:List Cl}{k:Nat}(a:k<A.length)(ks:List Int):cN (A.take<|k+1) ks=if A[k].id∈ks then cN (A.take k) ks else cN (A.take k) ks++[A[k]]:=by
 unfold cN;rw[tS a,zh8];by_cases h:A[k].id∈ks
 ·rw[zg3 h]; simp[h]
 ·rw[zg2 h]; simp[h]
theorem kW (E:World)(g:PH)(s:Own)(v iv:Value)(l:List Cl)(ks:List Int)(U:ai g v l)(V:aJ l)(M:dp g iv ks)(W:ks.length<1099511627776) :
  Ctr Tryz.prog E 254 #[.agg #[v],iv] g s (fun r g' s'=>g=g'∧∃ u rs,r = .agg #[u]∧ax (an g) (cN l ks) rs∧s'=rowA encCell 56 u rs::s):=by
 obtain ⟨rs,t,w⟩:=U;have S:=w.length;have X:=V.1;obtain ⟨p,c,rfl⟩:=za4 t;obtain ⟨q,d,rfl⟩:=za4 M;refine zb2 (args:=[.agg #[.slice p rs.length c],.slice q ks.length d]) func254 I ntmps254 (bE I)<|rZ (bW (bO I) fun b2=>?_);refine bW (aL zl9) fun b4=>tZ (rZ<|bW (aL zl9) fun b5=>?_);refine tZ<|sQ<|rZ<|aT I<|bK<|zb6 56 3<|oP (ι:=Nat×Value×List Rc) (fun i=>[(1,.slice q ks.length d),(2,pp b2 0),(4,pp b4 0),(5,pp b5 0),(6,vi i.1)]) (fun _=>g)
  (fun i=>rowA encCell 56 i.2.1 i.2.2::pt b5 (.cells #[i.2.1] 29 (0,0))::pt b4 (.cells #[.slice none 0 0] 29 (0,0))::pt b2 (.cells #[.slice p rs.length c] 29 (0,0))::s)
  (fun i=>i.1≤rs.length∧ax (an g) (cN (l.take i.1) ks) i.2.2) (fun i=>rs.length - i.1) (0,.slice none 0 0,[])
  sB rfl rfl ⟨zf8 _,by simp[cN,ax]⟩ ?_
 rintro ⟨k,ov,m⟩ ⟨Y,a⟩;dsimp only at Y a ⊢;have Z:=a.length;have T:(cN (l.take k) ks).length≤l.length:=by
  have h1:=zc6 (fun c:Cl=>!decide (c.id∈ks))<|l.take k;rw[ze6] at h1;unfold cN;omega
 refine sQ<|sW I<|lU (fA dn I cq I)<|SL.K (qL (v:=.slice p rs.length c) eh I<|cO 3 I I)<|lU (eN aB I)<|yL I<|tZ<|iP I (fun N=>?_) (fun N=>?_)
 ·have C:k<rs.length:=oM;have z:k<l.length:=oM;have A:=za6 t oM;have D:=w.get (List.getElem?_eq_getElem z)<|List.getElem?_eq_getElem C;have F:rs[((k:Nat):Int).toNat]?=some rs[k]:=List.getElem?_eq_getElem C;have b:=zD z ks;generalize rs[k]=x at *;generalize l[k]=cx at *;obtain ⟨xi,xd,xp,xn,xc⟩:=x;have G:=D;obtain ⟨e1,e2,H⟩:=D;dsimp only at e1 e2 H;subst e1 e2;refine kP<|tN<|sQ<|bK<|rZ<|aT I<|sQ<|rZ<|aT I<|bK<|oP (ι:=Nat) (fun j=>[(1,.slice q ks.length d),(2,pp b2 0),(4,pp b4 0),(5,pp b5 0),(6,vi k),(7,vb<|(ks.take j).any fun y=>decide (cx.id=y)),(8,vi j)]) (fun _=>g)
   (fun _=>rowA encCell 56 ov m::pt b5 (.cells #[ov] 29 (0,0))::pt b4 (.cells #[.slice none 0 0] 29 (0,0))::pt b2 (.cells #[.slice p rs.length c] 29 (0,0))::s)
   (fun j=>j≤ks.length) (fun j=>ks.length - j) 0 sB rfl rfl (zf8 _) ?_
  rintro j hj;try dsimp only at hj ⊢
  refine sQ<|sW I<|lM I<|lU (eN az I)<|yL I<|tZ<|iP I (fun J=>?_) (fun J=>?_)
  ·have L:j<ks.length:=oM;have O:=za6 M oM;have P:ks[((j:Nat):Int).toNat]?=some ks[j]:=List.getElem?_eq_getElem L;have f:(ks.take<|j+1).any (fun y=>decide (cx.id=y))=((ks.take j).any (fun y=>decide (cx.id=y))||decide (cx.id=ks[j])):=by rw[tS L,List.any_append]; simp
   generalize ks[j]=y at *;generalize (ks.take j).any (fun y=>decide (cx.id=y))=bb at *;cases bb with
   | true =>
    exact kP<|tN<|sQ<|bK<|dW [] [(0,2),(1,2),(2,2),(3,1),(4,2),(5,2),(6,2),(7,1),(8,2),(9,2),(10,2),(11,1),(12,2),(13,2),(14,2)] ze5 kR<|yM I<|yM I<|yG I<|yI I<|yG I<|yG I<|yG I<|yI I<|yG I<|yG I<|yG I<|yI I<|yG I<|pU I (wT I I)<|pU I (aS I)<|pN<|bN<|tN<|rG<|lM I<|yD I<|lA I<|SL.nil<|ST.again (j+1) ⟨I,I,I,I,I,(by rw[f]; rfl),rfl,trivial⟩ rfl rfl oM oM
   | false =>
    refine kP<|tN<|sQ<|bK<|dW [] [(0,2),(1,2),(2,2),(3,1),(4,2),(5,2),(6,2),(7,1),(8,2),(9,2),(10,2),(11,1),(12,2),(13,2),(14,2)] ze5 kR<|yM I<|yM I<|zb3 I (gT I I I dC) (fA dn I cq I) dC<|SP.gq I (gT I I I dC) (qL (v:=.slice p rs.length c) eh I<|cO 3 I I) dC<|yJ I<|zb3 I (gT I I I dC) (iA aB aw I I A oM (show (k:Int)<((rs.length:Nat):Int) by omega)) dC ?_;refine zb3 I (gT I I I dC) (fC ao I zT3 I A) dC<|SP.gq I (gT I I I dC) (aZ (e:=encCell) (o:=0) iT3 I (za7 t) F I) dC<|yJ I<|yJ I<|zb3 I (gT I I I dC) (iA az zT3 I I O oM sL) dC<|SP.gq I (gT I I I dC) (eB iT3 I (za7 M) P I) dC<|zb3 I (gT I I I dC) (eQ I I) dC<|pU I (wF I I)<|pU I (aS I)<|pN<|bN<|tN<|rG<|lM I<|yD I<|lA I<|SL.nil ?_;exact ST.again (j+1) ⟨I,I,I,I,I,(by rw[f]; rfl),rfl,trivial⟩ rfl rfl oM oM
  ·have Q:ks.take j=ks:=tL oM;have f:(ks.any fun y=>decide (cx.id=y))=decide (cx.id∈ks):=by
    rw[Bool.eq_iff_iff,zk1,zj8];exact⟨fun ⟨y,hy,he⟩=>by rw[zg5 he]; exact hy,fun h=>⟨_,h,zg1 I⟩⟩
   rw[Q,f];refine xI<|tX<|tX<|bX<|tN<|sW I<|lU (SU.notP I)<|tZ<|iQ I (fun hg=>?_) (fun hg=>?_)
   ·have B:cx.id ∉ ks:=zg5 hg;rw[zg2 B] at b;refine dW [8,10] [(0,2),(1,1),(2,2),(3,1),(4,2),(5,2),(6,1),(7,0),(8,0),(9,2),(10,0)] ze5 kR<|pU I (fA dn I cq I) (pK I (qL (v:=ov) eh I (cO 1 I I)) (pU I (fA dn I cq I) (pK I (qL (v:=.slice p rs.length c) eh I (cO 3 I I)) (yM I (pU I (iA aB aw I I A oM (show (k:Int)<((rs.length:Nat):Int) by omega)) ?_)))));refine pK I (SQ.elemA dT aw I (za7 t) F) (SP.o I (bS sty27 I I I (ab sB) dC) dC (.inr iR) ?_);rintro _ _ _ ⟨a0,rfl,rfl,rfl⟩;refine SP.o I (aP (e:=encCell) 0 ⟨cx.id,cx.dim,⟨xp,xn,xc⟩⟩ sty27 I I I I I oM oM) dC (.inl dC) ?_;rintro ov' _ _ ⟨rfl,rfl⟩;refine zd3 fun ⟨w0,n⟩=>?_;obtain ⟨q',d',rfl⟩:=ag (e:=encCell) (l:=m++[(⟨cx.id,cx.dim,⟨xp,xn,xc⟩⟩:Rc)]) (i:=0) n rfl;clear n w0;refine pU I (fA dn I cq I) (SP.on I (sK 1 cq I I I I I sB) (.inl dC) ?_);rintro _ _ _ ⟨rfl,rfl⟩;refine pN (bN (tN (rG (lM I (yD I (lA I (SL.nil ?_)))))));exact ST.again (k+1,_,m++[(⟨cx.id,cx.dim,⟨xp,xn,xc⟩⟩:Rc)]) sB I I ⟨by dsimp only; omega,by
     dsimp only;rw[b];exact a.append ⟨G,trivial⟩⟩ (by dsimp only; omega)
   ·have B:cx.id∈ks:=Decidable.not_not.1<|of_decide_eq_false hg;rw[zg3 B] at b;exact kP<|bN<|tN<|rG<|lM I<|yD I<|lA I<|SL.nil<|ST.again (k+1,ov,m) sB I I ⟨by dsimp only; omega,by dsimp only; rw[b]; exact a⟩ (by dsimp only; omega)
 ·have R:l.take k=l:=tL oM;rw[R] at a;refine xI<|tX<|tX<|bX<|tN<|sQ<|SC.facts fun ⟨w0,n⟩=>?_;obtain ⟨q2,d2,rfl⟩:=ag (i:=0) n rfl;clear n w0;exact rG<|SL.K (qV 1 aj ae I I I)<|oZ (sK 2 ae I I I I I sB)<|tZ<|rE<|ST.retCD 2 _ (.inl I) results254 I aj ae I I (.cons_cons _<|.cons _<|.cons _<|.cons _<|.refl _) ⟨I,_,m,I,a,I⟩
def c8 (cell:Int)(ch:List Tm)(p:Int×List Tm):Int×List Tm:=if p.1=cell then (p.1,ch) else p
theorem iL (E:World)(g:PH)(s:Own)(v cv:Value)(l:List (Int×List Tm))(cell:Int)(ch:List Tm)(O:Ims g v l)(hl:l.length<1099511627776)(M:SlA fm g cv ch) :
  Ctr Tryz.prog E 256 #[.agg #[v],vi cell,cv] g s (fun r g' s'=>s=s'∧Le g g'∧∃ u,r = .agg #[u]∧Ims g' u (l.map<|c8 cell ch)):=by
 obtain ⟨rs,t,m⟩:=O;have N:=m.length;obtain ⟨p,c,rfl⟩:=za4 t;obtain ⟨q,d,rfl⟩:=za4 M;refine zb2 (args:=[.agg #[.slice p rs.length c],vi cell,.slice q ch.length d]) func256 I ntmps256 (bE I)<|rZ (bW (bO I) fun b3=>?_);refine bW (aL zl8) fun b6=>tZ (rZ<|bW (aL zl8) fun b7=>?_);refine tZ<|sQ<|rZ<|aT I<|bK<|zb6 113 2<|oP (ι:=Nat×Value×List Im) (fun i=>[(1,vi cell),(2,.slice q ch.length d),(3,pp b3 0),(6,pp b6 0),(7,pp b7 0),(8,vi i.1)]) (fun _=>g)
  (fun i=>rowA ll 113 i.2.1 i.2.2::pt b7 (.cells #[i.2.1] 33 (0,0))::pt b6 (.cells #[.slice none 0 0] 33 (0,0))::pt b3 (.cells #[.slice p rs.length c] 33 (0,0))::s)
  (fun i=>i.1≤rs.length∧ax (ImR g) ((l.take i.1).map<|c8 cell ch) i.2.2) (fun i=>rs.length - i.1) (0,.slice none 0 0,[])
  sB rfl rfl ⟨zf8 _,by simp[ax]⟩ ?_
 rintro ⟨k,ov,b⟩ ⟨P,a⟩;dsimp only at P a ⊢;have B:=a.length;rw[ze8,ze6] at B;refine sQ<|sW I<|lU (fA y7 I th I)<|SL.K (qL (v:=.slice p rs.length c) isAgg31 I<|cO 3 I I)<|lU (eN underlying31 I)<|yL I<|tZ<|iP I (fun C=>?_) (fun C=>?_)
 ·have y:k<rs.length:=oM;have z:k<l.length:=oM;have D:=za6 t oM;have F:=m.get (List.getElem?_eq_getElem z)<|List.getElem?_eq_getElem y;have G:rs[((k:Nat):Int).toNat]?=some rs[k]:=List.getElem?_eq_getElem y;have j:=oG (c8 cell ch) z;generalize rs[k]=x at *;generalize l[k]=cx at *;obtain ⟨xi,xp,xn,xc⟩:=x;obtain ⟨cc,ct⟩:=cx;obtain ⟨e1,n⟩:=F;dsimp only at e1 n;subst e1;refine kP<|tN<|sQ<|bK<|rZ<|lU (fA y7 I th I)<|SL.K (qL (v:=.slice p rs.length c) isAgg31 I<|cO 3 I I)<|lM I<|lU (iA underlying31 sizeOf113 I I D oM (show (k:Int)<((rs.length:Nat):Int) by omega)) ?_;refine SL.K (SQ.elemA isAgg113 sizeOf113 I (za7 t) G) (bW (aL zeroValue113) fun b9=>?_);refine oZ (sK 0 sizeOf113 I I I I I sB) ?_;refine tZ<|sQ<|rZ<|lU (fA underlying113 I zT3 I)<|SL.K (qL (v:=vi xi) iT3 I<|cO 0 I I)<|lM I<|yE I<|tZ ?_;refine iP I (fun H=>?_) (fun H=>?_)
  ·have w:c8 cell ch (xi,ct)=(xi,ch):=zg3 H;rw[w] at j;refine rG (lM rfl (lU (fA underlying113 rfl sizeOf77 rfl) (oZ (SO.store1 0 sizeOf77 rfl rfl rfl rfl (bE rfl) (by rfl)) ?_)));refine tZ (rG (lU (fA y7 I th I) (SL.K (qL (v:=ov) isAgg31 I (cO 2 I I)) (SL.K (qV 0 isAgg113 sizeOf113 I I I) (lW (bS sty31 I I I (ab sB) dC) ?_)))));rintro _ _ _ ⟨J,rfl,rfl,rfl⟩;refine lW (aP (e:=ll) 1 ⟨xi,⟨q,ch.length,d⟩⟩ sty31 I I I I I oM oM) ?_;rintro ov' _ _ ⟨rfl,rfl⟩;refine zd4 fun ⟨w0,f⟩=>?_;obtain ⟨q',d',rfl⟩:=ag (e:=ll) (l:=b++[⟨xi,⟨q,ch.length,d⟩⟩]) (i:=1) f rfl;clear f w0;refine lU (fA y7 I th I) (oZ (sK 2 th I I I I I sB) ?_);refine SL.nil (bN (tN (rG (lM I (yD I (lA I (SL.nil (dR (.cons _ (.refl _)) ?_))))))));exact ST.again (k+1,_,b++[⟨xi,⟨q,ch.length,d⟩⟩]) sB I I ⟨by dsimp only; omega,by
    dsimp only;rw[j];exact a.append ⟨⟨I,M⟩,trivial⟩⟩ (by dsimp only; omega)
  ·have w:c8 cell ch (xi,ct)=(xi,ct):=zg2 H;rw[w] at j;refine kP (tN (rG (lU (fA y7 I th I) (SL.K (qL (v:=ov) isAgg31 I (cO 2 I I)) (SL.K (qV 0 isAgg113 sizeOf113 I I I) (lW (bS sty31 I I I (ab sB) dC) ?_))))));rintro _ _ _ ⟨J,rfl,rfl,rfl⟩;refine lW (aP (e:=ll) 1 ⟨xi,⟨xp,xn,xc⟩⟩ sty31 I I I I I oM oM) ?_;rintro ov' _ _ ⟨rfl,rfl⟩;refine zd4 fun ⟨w0,f⟩=>?_;obtain ⟨q',d',rfl⟩:=ag (e:=ll) (l:=b++[⟨xi,⟨xp,xn,xc⟩⟩]) (i:=1) f rfl;clear f w0;refine lU (fA y7 I th I) (oZ (sK 2 th I I I I I sB) ?_);refine SL.nil (bN (tN (rG (lM I (yD I (lA I (SL.nil (dR (.cons _ (.refl _)) ?_))))))));exact ST.again (k+1,_,b++[⟨xi,⟨xp,xn,xc⟩⟩]) sB I I ⟨by dsimp only; omega,by
    dsimp only;rw[j];exact a.append ⟨⟨I,n⟩,trivial⟩⟩ (by dsimp only; omega)
 ·have L:l.take k=l:=tL oM;rw[L] at a;refine xI (tX<|tX<|bX<|tN<|sQ<|fS fun g2 o A=>?_);obtain ⟨q2,d2,rfl⟩:=zc3 A;exact rG<|SL.K (qV 0 isAgg33 p8 I I I)<|oZ (sK 1 p8 I I I I I sB)<|tZ<|rE<|ST.retCD 1 s (.inl I) results256 I isAgg33 p8 I I uR ⟨I,o,_,I,b,A,a.mono fun _ _=>ImR.mono o⟩
theorem gS {A:List Cl}(a:aJ A)(ks:List Int):aJ (cN A ks):=⟨by
 have d:=zc6 (fun c:Cl=>!decide (c.id∈ks)) A;have e:=a.1;unfold cN;omega,fun c b=>a.2 c (zh6.1 b).1⟩
theorem Tryz.buildT35 (p:Option Addr)(n c:Nat)(b:Bool)(w:World):(Instr.build 35 #[(0,.agg #[.slice p n c]),(1,vb b)]).run Tryz.prog w = .ok (.agg #[.slice p n c,vb b]) w:=by
 have a:(Value.agg #[Value.slice p n c]).cells = #[.slice p n c]:=rfl;have d:(vb b).cells = #[vb b]:=rfl;simp[Instr.build,Instr.fill,a,d];rfl
theorem qE (E:World)(g:PH)(s:Own)(v ev:Value)(l:List Cl)(e:Ed)(m:ai g v l)(z:aJ l)(M:EdR g ev e)(code:Int)(b:code=if (findC l e.cell).isSome then (if 0<(aC l e.cell).length then 31 else 0) else 30) :
  Ctr Tryz.prog E 193 #[.agg #[v],ev] g s (fun r g' s'=>s=s'∧Le g g'∧EG code (if code=0 then cN l [e.cell] else l) ((am<|cN l [e.cell]).map gv) (decide (code=0)) r g'):=by
 obtain ⟨sv,pv,rfl,A,B⟩:=M;obtain ⟨sp,sc,rfl⟩:=za4 A;obtain ⟨pq,pc,rfl⟩:=za4 B;obtain ⟨p,c,rfl⟩:=m.form;have C:=gS z [e.cell];refine zb2 (args:=[.agg #[.slice p l.length c],.agg #[vi e.kind,vi e.cell,vi e.dim,vi e.new,vi e.other,.slice sp e.sides.length sc,.slice pq e.pairs.length pc]]) func193 I ntmps193 (bE I)<|rZ (bW (bO I) fun b2=>?_);refine bW (bO I) fun b3=>bW (aL zl9) fun b4=>bW (aL zl4) fun b5=>aT I<|sQ<|rZ<|SL.K (qV 3 aj ae I I I)<|lU (fA a6 I zT3 I)<|SL.K (qL iT3 I<|cO 2 I I)<|lW (SO.call call252 I<|dh E g _ _ l e.cell m z) ?_;rintro _ g1 _ ⟨rfl,rfl,d⟩;refine lU (SU.not I)<|tZ<|iQ I (fun n=>?_) (fun n=>?_)
 ·have q:code=30:=by rw[b]; rw[Bool.not_eq_true'] at n; rw[n]; rfl
  subst q;exact rZ<|SL.K (qV 3 aj ae I I I)<|lU (za3 I buildZ35)<|oZ (sK 1 ae I I I I I sB)<|oZ (sK 0 bQ I I I I I sB)<|aT I<|rE<|tR<|ST.retCCT 1 0 s (.inl I) results193 I I I aj ae gw bQ I I I I uR ⟨I,d,_,_,_,_,I,m.mono d,fun h=>by cases h⟩
 rw[Bool.not_eq_false'] at n;refine kP<|tN<|sQ<|rZ<|SL.K (qV 3 aj ae I I I)<|lU (fA a6 I zT3 I)<|SL.K (qL iT3 I<|cO 2 I I)<|lW (SO.call call116 I<|dx E g1 _ _ l e.cell (m.mono d) z) ?_;rintro _ g2 _ ⟨rfl,t,D⟩;obtain ⟨qa,da,rfl⟩:=za4 D;have a:=d.trans t;refine lU (eN az I)<|lU (gR I I)<|tZ<|iP I (fun F=>?_) (fun F=>?_)
 ·have q:code=31:=by rw[b,n,zg3 rfl,zg3 oM]
  subst q;exact rZ<|SL.K (qV 3 aj ae I I I)<|lU (za3 I buildZ35)<|oZ (sK 1 ae I I I I I sB)<|oZ (sK 0 bQ I I I I I sB)<|aT I<|rE<|tR<|ST.retCCT 1 0 s (.inl I) results193 I I I aj ae gw bQ I I I I uR ⟨I,a,_,_,_,_,I,m.mono a,fun h=>by cases h⟩
 have q:code=0:=by rw[b,n,zg3 rfl,zg2 oM]
 subst q;refine kP<|tN<|rZ<|SL.K (qV 3 aj ae I I I)<|lU (fA a6 I zT3 I)<|SL.K (qL iT3 I<|cO 2 I I)<|lW (bS sty52 I I I (ab ⟨I,trivial⟩) dC) ?_;rintro _ _ _ ⟨G,rfl,rfl,rfl⟩;refine zb5 fun g3 i H=>?_;have J:dp g3 (.slice (some ⟨G,0,none⟩) 1 1) [e.cell]:=SlA.lit H rfl rfl;refine lW (SO.call call254 I<|kW E g3 _ _ _ l [e.cell] (m.mono<|a.trans i) z J (by simp)) ?_;rintro _ _ _ ⟨rfl,u4,u,rfl,f,rfl⟩;refine zd6 fun g4 j w=>?_;obtain ⟨q4,d4,rfl⟩:=zc3 w;have L:=f.length;have x:ai g4 (.slice q4 u.length d4) (cN l [e.cell]):=⟨u,w,f.mono fun _ _=>an.mono j⟩;refine bW (aL zl9) fun b7=>oZ (sK 0 ae I I I I I sB)<|tZ<|sQ<|dW [4,5] [(0,1),(1,1),(2,0),(3,2),(4,0),(5,0),(6,2)] ze5 kR<|pK I (qV 0 aj ae I I I)<|pK I (qV 0 aj ae I I I)<|SP.o I (SO.call call253 I<|fI E g4 _ _ (cN l [e.cell]) x C) dC (.inr iR) ?_;rintro _ g5 _ ⟨rfl,k,iv,rfl,y⟩;obtain ⟨q5,n5,d5,rfl⟩:=y.form;refine pU I (za3 I<|buildT35 _ _ _ _)<|SP.on I (sK 2 ae I I I I I sB) (.inl dC) ?_;rintro _ _ _ ⟨rfl,rfl⟩;refine SP.on I (sK 1 bQ I I I I I sB) (.inl dC) ?_;rintro _ _ _ ⟨rfl,rfl⟩;exact pU I (aS I)<|pN<|tN<|rE<|ST.retCCT 2 1 s (.inl I) results193 I I I aj ae gw bQ I I I I uR ⟨I,a.trans<|i.trans<|j.trans k,_,_,_,_,I,x.mono k,fun _=>y⟩
def sgF (l:List ak)(cell:Int):Int:=l.foldl (fun a x=>if x.cell=cell then x.sign else a) 0
theorem Di {l:List ak}{k:Nat}(a:k<l.length)(cell:Int):sgF (l.take<|k+1) cell=if l[k].cell=cell then l[k].sign else sgF (l.take k) cell:=by
 unfold sgF;rw[tS a,zj2];rfl
theorem F5 (l:List ak)(cell:Int)(h:∀ x∈l,x.sign=1∨x.sign = -1):sgF l cell=0∨sgF l cell=1∨sgF l cell = -1:=by
 unfold sgF;have:∀ (l:List ak) (a:Int),(∀ x∈l,x.sign=1∨x.sign = -1)→(a=0∨a=1∨a = -1)→(l.foldl (fun a x=>if x.cell=cell then x.sign else a) a=0∨l.foldl (fun a x=>if x.cell=cell then x.sign else a) a=1∨l.foldl (fun a x=>if x.cell=cell then x.sign else a) a = -1):=by
  intro l;induction l with
  | nil=>intro a _ h; exact h
  | cons x l ih =>
   intro a b c;rw[zj1];refine ih _ (fun y d=>b y<|by simp[d]) ?_;split
   ·exact .inr (b x<|by simp)
   ·exact c
 exact this l 0 h<|.inl I
def fH (l:List Cl)(e:Ed):List Tm:=((((findC l e.other).getD aH).sides.filter fun x=>!decide (x.cell=e.cell))).map fun x=>(x.cell,-sgF ((findC l e.other).getD aH).sides e.cell * x.sign)
def cJ (l:List Cl)(e:Ed):Int:=if (findC l e.other).isSome&&(findC l e.cell).isSome then (if aC l e.cell=[e.other]∧¬ 0<(aC l e.other).length then 0 else 32) else 30
theorem DT {l:List ak}{k:Nat}(a:k<l.length)(cell:Int):(l.take<|k+1).filter (fun x=>!decide (x.cell=cell))=if l[k].cell=cell then (l.take k).filter (fun x=>!decide (x.cell=cell)) else (l.take k).filter (fun x=>!decide (x.cell=cell))++[l[k]]:=by
 rw[tS a,zh8];by_cases h:l[k].cell=cell
 ·rw[zg3 h]; simp[h]
 ·rw[zg2 h]; simp[h]
theorem nX (E:World)(g:PH)(s:Own)(v ev:Value)(l:List Cl)(e:Ed)(hv:ai g v l)(O:aJ l)(he:EdR g ev e)(d0:∀ x∈((findC l e.other).getD aH).sides,x.sign=1∨x.sign = -1)(h0:((findC l e.other).getD aH).sides.length≤64) :
  Ctr Tryz.prog E 196 #[.agg #[v],ev] g s (fun r g' s'=>s=s'∧Le g g'∧EG (cJ l e) (if cJ l e=0 then cN l [e.cell,e.other] else l) ((((am l).map gv).map<|c8 e.cell<|fH l e).map<|c8 e.other []) false r g'):=by
 obtain ⟨sv,pv,rfl,e4,e9⟩:=he;obtain ⟨sp,sc,rfl⟩:=za4 e4;obtain ⟨pq,pc,rfl⟩:=za4 e9;obtain ⟨p,c,rfl⟩:=hv.form;have b8:(aC l e.cell).length<1099511627776:=Nat.lt_of_le_of_lt (by unfold aC; rw[ze8]; exact zc6 _ _) (bT O).1;refine zb2 (args:=[.agg #[.slice p l.length c],.agg #[vi e.kind,vi e.cell,vi e.dim,vi e.new,vi e.other,.slice sp e.sides.length sc,.slice pq e.pairs.length pc]]) func196 I ntmps196 (bE I) ?_;have h4:(findC l e.other).isSome=true→∃ cy,findC l e.other=some cy:=fun h=>zi1.1 h;cases ho:(findC l e.other).isSome with
 | false =>
  have j:cJ l e=30:=by unfold cJ; rw[ho]; rfl
  rw[j];refine rZ (bW (bO I) fun b2=>?_);refine bW (bO I) fun b3=>bW (aL zl9) fun b4=>bW (aL zl4) fun b5=>aT I<|rZ<|SL.K (qV 3 aj ae I I I)<|lU (fA a6 I zT3 I)<|SL.K (qL iT3 I<|cO 2 I I)<|lW (SO.call call48 I<|a8 E g _ _ l e.other hv O) ?_;rintro _ g1 _ ⟨rfl,y,⟨yi,yd,yp,yn,yc⟩,rfl,a0⟩;obtain ⟨a1,a2,H⟩:=a0;dsimp only at a1 a2 H;have a3:yn=((findC l e.other).getD aH).sides.length:=zc2 H;subst a3;have P:=hv.mono y;rw[ho];refine lM I (yX I<|yX I<|bW (aL zl7) fun b7=>?_);exact oZ (sK 0 aw I I I I I sB)<|aT I<|sQ<|sW I<|lU (SU.not I)<|lM I<|yA I<|yA I<|yA I<|yA I<|yA I<|yP I<|tZ<|za2 I<|rZ<|SL.K (qV 4 aj ae I I I)<|lU (za3 I buildZ35)<|oZ (sK 2 ae I I I I I sB)<|oZ (sK 1 bQ I I I I I sB)<|aT I<|rE<|tR<|ST.retCCT 2 1 s (.inl I) results196 I I I aj ae gw bQ I I I I uR ⟨I,y,_,_,_,_,I,P,fun h=>by cases h⟩
 | true =>
 cases a4:(findC l e.cell).isSome with
 | false =>
  have j:cJ l e=30:=by unfold cJ; rw[ho,a4]; rfl
  rw[j];refine rZ (bW (bO I) fun b2=>?_);refine bW (bO I) fun b3=>bW (aL zl9) fun b4=>bW (aL zl4) fun b5=>aT I<|rZ<|SL.K (qV 3 aj ae I I I)<|lU (fA a6 I zT3 I)<|SL.K (qL iT3 I<|cO 2 I I)<|lW (SO.call call48 I<|a8 E g _ _ l e.other hv O) ?_;rintro _ g1 _ ⟨rfl,y,⟨yi,yd,yp,yn,yc⟩,rfl,a0⟩;obtain ⟨a1,a2,H⟩:=a0;dsimp only at a1 a2 H;have a3:yn=((findC l e.other).getD aH).sides.length:=zc2 H;subst a3;have P:=hv.mono y;rw[ho];refine lM I (yX I<|yX I<|bW (aL zl7) fun b7=>?_);refine oZ (sK 0 aw I I I I I sB)<|aT I<|sQ<|sW I<|lU (SU.not I)<|lM I<|SL.gq (gT I I I dC) (qV 4 aj ae I I I) dC<|lY I I I (fA a6 I zT3 I)<|SL.gq (gT I I I dC) (qL (v:=vi e.cell) iT3 I<|cO 3 I I) dC<|ze3 (gT I I I dC) (SO.call call252 I<|dh E g1 _ _ l e.cell P O) dC ?_;rintro _ g2 _ ⟨rfl,rfl,G⟩;rw[a4];exact lY I I I (SU.not I)<|yF I<|tZ<|za2 I<|rZ<|SL.K (qV 4 aj ae I I I)<|lU (za3 I buildZ35)<|oZ (sK 2 ae I I I I I sB)<|oZ (sK 1 bQ I I I I I sB)<|aT I<|rE<|tR<|ST.retCCT 2 1 s (.inl I) results196 I I I aj ae gw bQ I I I I uR ⟨I,y.trans G,_,_,_,_,I,P.mono G,fun h=>by cases h⟩
 | true =>
 refine rZ (bW (bO I) fun b2=>?_);refine bW (bO I) fun b3=>bW (aL zl9) fun b4=>bW (aL zl4) fun b5=>aT I<|rZ<|SL.K (qV 3 aj ae I I I)<|lU (fA a6 I zT3 I)<|SL.K (qL iT3 I<|cO 2 I I)<|lW (SO.call call48 I<|a8 E g _ _ l e.other hv O) ?_;rintro _ g1 _ ⟨rfl,y,⟨yi,yd,yp,yn,yc⟩,rfl,a0⟩;obtain ⟨a1,a2,H⟩:=a0;dsimp only at a1 a2 H;have a3:yn=((findC l e.other).getD aH).sides.length:=zc2 H;subst a3;have P:=hv.mono y;rw[ho];refine lM I (yX I<|yX I<|bW (aL zl7) fun b7=>?_);refine oZ (sK 0 aw I I I I I sB)<|aT I<|sQ<|sW I<|lU (SU.not I)<|lM I<|SL.gq (gT I I I dC) (qV 4 aj ae I I I) dC<|lY I I I (fA a6 I zT3 I)<|SL.gq (gT I I I dC) (qL (v:=vi e.cell) iT3 I<|cO 3 I I) dC<|ze3 (gT I I I dC) (SO.call call252 I<|dh E g1 _ _ l e.cell P O) dC ?_;rintro _ g2 _ ⟨rfl,rfl,G⟩;rw[a4];refine lY I I I (SU.not I)<|yF I<|tZ<|za1 I<|kP<|tN<|sQ ?_;have Q:=P.mono G;have d1:=za5 H G;have c6:=y.trans G;refine SC.cut (ι:=PH) (fun _=>[(2,pp b2 0),(3,pp b3 0),(4,pp b4 0),(5,pp b5 0),(7,pp b7 0),(48,vb<|!decide (aC l e.cell=[e.other])||decide (0<(aC l e.other).length))]) (fun g'=>g') (fun _=>pt b7 (.cells #[vi yi,vi yd,.slice yp ((findC l e.other).getD aH).sides.length yc] 56 (0,0))::pt b5 (.cells #[.slice none 0 0,vb false] 35 (0,0))::pt b4 (.cells #[.slice none 0 0] 29 (0,0))::pt b3 (.cells (edV e (.slice sp e.sides.length sc)<|.slice pq e.pairs.length pc) 42 (0,0))::pt b2 (.cells #[.slice p l.length c] 29 (0,0))::s) (fun g'=>Le g2 g') ?_ ?_
 ·by_cases J:aC l e.cell=[e.other]
  ·refine SC.drawX [] ze5 kR ?_;refine SX.q (i:=0) I kR (qV 4 aj ae I I I) dC<|SX.u (i:=1) I kR (fA a6 I zT3 I) dC<|SX.q (i:=2) I kR (qL (v:=vi e.cell) iT3 I<|cO 3 I I) dC<|SX.u (i:=4) I kR (fA a6 I zT3 I) dC<|SX.q (i:=5) I kR (qL (v:=vi e.other) iT3 I<|cO 3 I I) dC ?_
   repeat' (first
    | (refine SB.o (i:=3) rfl (SO.call call116 rfl<|dx E _ _ _ l e.cell (by exact Q.mono<|by assumption) O) dC (.inr (by rintro v35 g3 _ ⟨rfl,a,z⟩; exact⟨by exact Le.trans (by assumption) (by assumption),(by exact .refl _)⟩)) ?_; rintro v35 g3 _ ⟨rfl,a,z⟩; first | have f:=b.trans a | skip)
    | (refine SB.o (i:=3) rfl (SO.call call116 rfl<|dx E _ _ _ l e.cell (by exact Q) O) dC (.inr (by rintro v35 g3 _ ⟨rfl,a,z⟩; exact⟨by assumption,(by exact .refl _)⟩)) ?_; rintro v35 g3 _ ⟨rfl,a,z⟩; first | have f:=b.trans a | skip)
    | (refine SB.o (i:=6) rfl (bS sty52 rfl rfl rfl (ab ⟨rfl,trivial⟩) dC) dC (.inr (by rintro _ _ _ ⟨R,rfl,rfl,rfl⟩; exact⟨by exact zb9 _,(by exact .cons _<|.refl _)⟩)) ?_; rintro _ _ _ ⟨R,rfl,rfl,rfl⟩; refine SX.to (fun w hw=>At.litRow (e:=encInt) (l:=[e.other]) (n:=0) hw I I dC) ?_; refine SX.freezeRow fun g4 b T=>?_; first | have f:=a.trans b | skip)
    | (refine SB.o (i:=6) rfl (bS sty52 rfl rfl rfl (ab ⟨rfl,trivial⟩) dC) dC (.inr (by rintro _ _ _ ⟨R,rfl,rfl,rfl⟩; exact⟨by assumption,(by exact .cons _<|.refl _)⟩)) ?_; rintro _ _ _ ⟨R,rfl,rfl,rfl⟩; refine SX.to (fun w hw=>At.litRow (e:=encInt) (l:=[e.other]) (n:=0) hw I I dC) ?_; refine SX.freezeRow fun g4 b T=>?_; first | have f:=a.trans b | skip)
    | (refine SB.o (i:=7) rfl (SO.call call68 rfl<|iy E _ _ _ _ (aC l e.cell) [e.other] (by exact za5 z<|by assumption) (by exact T) b8) dC (.inr (by rintro _ _ _ ⟨rfl,rfl,rfl⟩; exact⟨by assumption,(by exact .refl _)⟩)) ?_; rintro _ _ _ ⟨rfl,rfl,rfl⟩; refine SX.u (i:=8) I kD (SU.eq (v':=vb false) (SU.not I)<|ze4 vb (by rw[zg1 J]; rfl)) dC ?_; refine SX.u (i:=9) I kD (mV I) dC ?_; refine SX.gq (i:=10) I kD (gT I I I dC) (qV 4 aj ae I I I) dC ?_; refine SX.gu (i:=11) I kD (gT I I I dC) (fA a6 I zT3 I) dC ?_; refine SX.gq (i:=12) I kD (gT I I I dC) (qL (v:=vi e.other) iT3 I<|cO 3 I I) dC ?_)
    | (refine SB.o (i:=7) rfl (SO.call call68 rfl<|iy E _ _ _ _ (aC l e.cell) [e.other] (by exact z) (by exact za5 T<|by assumption) b8) dC (.inr (by rintro _ _ _ ⟨rfl,rfl,rfl⟩; exact⟨by assumption,(by exact .refl _)⟩)) ?_; rintro _ _ _ ⟨rfl,rfl,rfl⟩; refine SX.u (i:=8) I kD (SU.eq (v':=vb false) (SU.not I)<|ze4 vb (by rw[zg1 J]; rfl)) dC ?_; refine SX.u (i:=9) I kD (mV I) dC ?_; refine SX.gq (i:=10) I kD (gT I I I dC) (qV 4 aj ae I I I) dC ?_; refine SX.gu (i:=11) I kD (gT I I I dC) (fA a6 I zT3 I) dC ?_; refine SX.gq (i:=12) I kD (gT I I I dC) (qL (v:=vi e.other) iT3 I<|cO 3 I I) dC ?_)
    | (refine SB.go (i:=13) rfl (gT rfl rfl rfl dC) (SO.call call116 rfl<|dx E _ _ _ l e.other (Q.mono f) O) dC (.inr (by rintro v45 g5 _ ⟨rfl,A,d2⟩; exact⟨by exact Le.trans (by assumption) (by assumption),(by exact .refl _)⟩)) ?_; rintro v45 g5 _ ⟨rfl,A,d2⟩; obtain ⟨q5,d5,rfl⟩:=za4 d2; have d3:=f.trans A; refine SX.gu (i:=14) I kD (gT I I I dC) (eN az I) dC ?_; refine SX.gu (i:=15) I kD (gT I I I dC) (SU.eq (v':=vb<|decide (0<(aC l e.other).length)) (gR I I)<|ze4 vb<|by simp only[gt_iff_lt,Int.natCast_pos]) dC ?_; refine SX.u (i:=16) I kD (wF I I) dC ?_)
    | refine zd8 3 6 kD ?_ ?_
    | refine zd7 6 kD ?_
    | refine zd7 7 kD ?_
    | refine zd7 13 kD ?_
    | refine zd7 3 kD ?_
    | (refine SX.nil kD ?_; exact za9 _ ⟨I,I,I,I,I,(by rw[zg1 J]; rfl),trivial⟩ rfl rfl d3))
  ·refine SC.drawX [] ze5 kR ?_;refine SX.q (i:=0) I kR (qV 4 aj ae I I I) dC<|SX.u (i:=1) I kR (fA a6 I zT3 I) dC<|SX.q (i:=2) I kR (qL (v:=vi e.cell) iT3 I<|cO 3 I I) dC<|SX.u (i:=4) I kR (fA a6 I zT3 I) dC<|SX.q (i:=5) I kR (qL (v:=vi e.other) iT3 I<|cO 3 I I) dC ?_
   repeat' (first
    | (refine SB.o (i:=3) rfl (SO.call call116 rfl<|dx E _ _ _ l e.cell (by exact Q.mono<|by assumption) O) dC (.inr (by rintro v35 g3 _ ⟨rfl,a,z⟩; exact⟨by exact Le.trans (by assumption) (by assumption),(by exact .refl _)⟩)) ?_; rintro v35 g3 _ ⟨rfl,a,z⟩; first | have f:=b.trans a | skip)
    | (refine SB.o (i:=3) rfl (SO.call call116 rfl<|dx E _ _ _ l e.cell (by exact Q) O) dC (.inr (by rintro v35 g3 _ ⟨rfl,a,z⟩; exact⟨by assumption,(by exact .refl _)⟩)) ?_; rintro v35 g3 _ ⟨rfl,a,z⟩; first | have f:=b.trans a | skip)
    | (refine SB.o (i:=6) rfl (bS sty52 rfl rfl rfl (ab ⟨rfl,trivial⟩) dC) dC (.inr (by rintro _ _ _ ⟨R,rfl,rfl,rfl⟩; exact⟨by exact zb9 _,(by exact .cons _<|.refl _)⟩)) ?_; rintro _ _ _ ⟨R,rfl,rfl,rfl⟩; refine SX.to (fun w hw=>At.litRow (e:=encInt) (l:=[e.other]) (n:=0) hw I I dC) ?_; refine SX.freezeRow fun g4 b T=>?_; first | have f:=a.trans b | skip)
    | (refine SB.o (i:=6) rfl (bS sty52 rfl rfl rfl (ab ⟨rfl,trivial⟩) dC) dC (.inr (by rintro _ _ _ ⟨R,rfl,rfl,rfl⟩; exact⟨by assumption,(by exact .cons _<|.refl _)⟩)) ?_; rintro _ _ _ ⟨R,rfl,rfl,rfl⟩; refine SX.to (fun w hw=>At.litRow (e:=encInt) (l:=[e.other]) (n:=0) hw I I dC) ?_; refine SX.freezeRow fun g4 b T=>?_; first | have f:=a.trans b | skip)
    | (refine SB.o (i:=7) rfl (SO.call call68 rfl<|iy E _ _ _ _ (aC l e.cell) [e.other] (by exact za5 z<|by assumption) (by exact T) b8) dC (.inr (by rintro _ _ _ ⟨rfl,rfl,rfl⟩; exact⟨by assumption,(by exact .refl _)⟩)) ?_; rintro _ _ _ ⟨rfl,rfl,rfl⟩; refine SX.u (i:=8) I kD (SU.eq (v':=vb true) (SU.not I)<|ze4 vb (by rw[zf9 J]; rfl)) dC ?_; refine SX.u (i:=9) I kD (mV I) dC ?_; refine SX.off (i:=10) I kD (gZ I I I dC) dC ?_; refine SX.off (i:=11) I kD (gZ I I I dC) dC ?_; refine SX.off (i:=12) I kD (gZ I I I dC) dC ?_)
    | (refine SB.o (i:=7) rfl (SO.call call68 rfl<|iy E _ _ _ _ (aC l e.cell) [e.other] (by exact z) (by exact za5 T<|by assumption) b8) dC (.inr (by rintro _ _ _ ⟨rfl,rfl,rfl⟩; exact⟨by assumption,(by exact .refl _)⟩)) ?_; rintro _ _ _ ⟨rfl,rfl,rfl⟩; refine SX.u (i:=8) I kD (SU.eq (v':=vb true) (SU.not I)<|ze4 vb (by rw[zf9 J]; rfl)) dC ?_; refine SX.u (i:=9) I kD (mV I) dC ?_; refine SX.off (i:=10) I kD (gZ I I I dC) dC ?_; refine SX.off (i:=11) I kD (gZ I I I dC) dC ?_; refine SX.off (i:=12) I kD (gZ I I I dC) dC ?_)
    | (refine SB.offo (i:=13) I (gZ I I I dC) dC ⟨by assumption,(by exact .refl _)⟩ ?_; refine SX.off (i:=14) I kD (gZ I I I dC) dC ?_; refine SX.off (i:=15) I kD (gZ I I I dC) dC ?_; refine SX.u (i:=16) I kD (wT I I) dC ?_)
    | refine zd8 3 6 kD ?_ ?_
    | refine zd7 6 kD ?_
    | refine zd7 7 kD ?_
    | refine zd7 13 kD ?_
    | refine zd7 3 kD ?_
    | (refine SX.nil kD ?_; exact za9 _ ⟨I,I,I,I,I,(by rw[zf9 J]; rfl),trivial⟩ rfl rfl f))
 rintro g3 a;try dsimp only at a ⊢
 have a5:=c6.trans a;refine iQ I (fun B=>?_) (fun B=>?_)
 ·have j:cJ l e=32:=by
   unfold cJ;rw[ho,a4,Bool.and_true,zg3 rfl,zg2];rintro ⟨h1,h2⟩;rw[zg1 h1,zf9 h2] at B;cases B
  rw[j];exact rZ<|SL.K (qV 4 aj ae I I I)<|lU (za3 I buildZ35)<|oZ (sK 2 ae I I I I I sB)<|oZ (sK 1 bQ I I I I I sB)<|aT I<|rE<|tR<|ST.retCCT 2 1 s (.inl I) results196 I I I aj ae gw bQ I I I I uR ⟨I,a5,_,_,_,_,I,Q.mono a,fun h=>by cases h⟩
 rw[Bool.or_eq_false_iff,Bool.not_eq_false',zj8,decide_eq_false_iff_not] at B;obtain ⟨J,f1⟩:=B;have j:cJ l e=0:=by
  unfold cJ;rw[ho,a4,Bool.and_true,zg3 rfl,zg3 ⟨J,f1⟩]
 rw[j];have f2:fH l e=((((findC l e.other).getD aH).sides.filter fun x=>!decide (x.cell=e.cell))).map fun x=>(x.cell,-sgF ((findC l e.other).getD aH).sides e.cell * x.sign):=rfl;rw[f2];have L:=za5 d1 a;have f3:=Q.mono a;generalize hS:((findC l e.other).getD aH).sides=S at *;refine kP<|tN<|rZ<|aT I<|sQ<|rZ<|aT I<|bK<|oP (ι:=Nat) (fun k=>[(2,pp b2 0),(3,pp b3 0),(4,pp b4 0),(5,pp b5 0),(7,pp b7 0),(9,vi<|sgF (S.take k) e.cell),(10,vi k)]) (fun _=>g3) (fun _=>pt b7 (.cells #[vi yi,vi yd,.slice yp S.length yc] 56 (0,0))::pt b5 (.cells #[.slice none 0 0,vb false] 35 (0,0))::pt b4 (.cells #[.slice none 0 0] 29 (0,0))::pt b3 (.cells (edV e (.slice sp e.sides.length sc)<|.slice pq e.pairs.length pc) 42 (0,0))::pt b2 (.cells #[.slice p l.length c] 29 (0,0))::s)
  (fun k=>k≤S.length) (fun k=>S.length - k) 0 sB rfl rfl (zf8 _) ?_
 rintro k hk;try dsimp only at hk ⊢
 refine sQ<|sW I<|lU (fA ao I aM I)<|SL.K (qL (v:=.slice yp S.length yc) br I<|cO 0 I I)<|lU (eN be I)<|yL I<|tZ<|iP I (fun b9=>?_) (fun b9=>?_)
 ·have Y:k<S.length:=oM;have C:=za6 L oM;have Z:S[((k:Nat):Int).toNat]?=some S[k]:=List.getElem?_eq_getElem Y;have d:=Di Y e.cell;generalize S[k]=x at *;obtain ⟨xc,xs⟩:=x;dsimp only at d;refine kP<|tN<|sQ<|bK<|sQ<|dW [] [(0,2),(1,1),(2,2),(3,2),(4,2),(5,1),(6,2),(7,1),(8,2)] ze5 kR<|pU I (fA ao I aM I)<|pK I (qL (v:=.slice yp S.length yc) br I<|cO 0 I I)<|yM I<|pU I (iA be aY I I C oM sL)<|pU I (fC c4 I zT3 I C)<|pK I (aZ (e:=encSide) (o:=0) (u:=vi xc) iT3 I (za7 L) Z I)<|pU I (fA a6 I zT3 I)<|pK I (qL (v:=vi e.cell) iT3 I<|cO 3 I I)<|pU I (eQ I I)<|pN<|tN<|iP I (fun hx=>?_) (fun hx=>?_)
  ·rw[zg3 hx] at d;exact rG<|lU (fA ao I aM I)<|SL.K (qL (v:=.slice yp S.length yc) br I<|cO 0 I I)<|lM I<|lU (iA be aY I I C oM sL)<|lU (fC c4 I zT3 I C)<|SL.K (aZ (e:=encSide) (o:=1) (u:=vi xs) iT3 I (za7 L) Z I)<|lA I<|SL.nil<|bN<|tN<|rG<|lM I<|yD I<|lA I<|SL.nil<|ST.again (k+1) ⟨I,I,I,I,I,(by rw[d]; rfl),rfl,trivial⟩ rfl rfl oM oM
  ·rw[zg2 hx] at d;exact kP<|bN<|tN<|rG<|lM I<|yD I<|lA I<|SL.nil<|ST.again (k+1) ⟨I,I,I,I,I,(by rw[d]; rfl),rfl,trivial⟩ rfl rfl oM oM
 have c0:S.take k=S:=tL oM;rw[c0];have c2:=F5 S e.cell d0;generalize sgF S e.cell=sg at *;have d4:IntKind.i64.wrap (0 - sg) = -sg:=by rcases c2 with h | h | h <;> subst h <;> decide
 clear hk b9 c0;refine xI<|tX<|tX<|bX<|tN<|rZ<|aT I<|sQ<|rZ<|aT I<|bK<|zb6 82 3<|oP (ι:=Nat×PH×Value) (fun i=>[(2,pp b2 0),(3,pp b3 0),(4,pp b4 0),(5,pp b5 0),(7,pp b7 0),(9,vi sg),(11,i.2.2),(12,vi i.1)]) (fun i=>i.2.1) (fun i=>rowA fm 82 i.2.2 (((S.take i.1).filter fun x=>!decide (x.cell=e.cell)).map fun x=>(x.cell,-sg * x.sign))::pt b7 (.cells #[vi yi,vi yd,.slice yp S.length yc] 56 (0,0))::pt b5 (.cells #[.slice none 0 0,vb false] 35 (0,0))::pt b4 (.cells #[.slice none 0 0] 29 (0,0))::pt b3 (.cells (edV e (.slice sp e.sides.length sc)<|.slice pq e.pairs.length pc) 42 (0,0))::pt b2 (.cells #[.slice p l.length c] 29 (0,0))::s)
  (fun i=>i.1≤S.length∧Le g3 i.2.1) (fun i=>S.length - i.1) (0,g3,.slice none 0 0) sB rfl rfl ⟨zf8 _,zb9 _⟩ ?_
 rintro ⟨k,g4,w⟩ ⟨hk,b⟩;dsimp only at hk b ⊢;refine sQ<|sW I<|lU (fA ao I aM I)<|SL.K (qL (v:=.slice yp S.length yc) br I<|cO 1 I I)<|lU (eN be I)<|yL I<|tZ<|iP I (fun b9=>?_) (fun b9=>?_)
 ·have Y:k<S.length:=oM;have a9:=za5 L b;have C:=za6 L oM;have Z:S[((k:Nat):Int).toNat]?=some S[k]:=List.getElem?_eq_getElem Y;have d9:=d0 _<|gM Y;have d:=DT Y e.cell;have h5:(((S.take k).filter fun x=>!decide (x.cell=e.cell)).map fun x=>(x.cell,-sg * x.sign)).length≤64:=by
   rw[ze8];have:=zc6 (fun x:ak=>!decide (x.cell=e.cell))<|S.take k;rw[ze6] at this;omega
  generalize S[k]=x at *;obtain ⟨xc,xs⟩:=x;dsimp only at d d9;have e0 : -9223372036854775808 ≤ -sg * xs ∧ -sg * xs≤9223372036854775807:=by rcases c2 with h | h | h <;> rcases d9 with h' | h' <;> subst h <;> subst h' <;> decide
  refine kP<|tN<|sQ<|bK<|sQ<|dW [] [(0,2),(1,1),(2,2),(3,2),(4,2),(5,1),(6,2),(7,1),(8,2)] ze5 kR<|pU I (fA ao I aM I)<|pK I (qL (v:=.slice yp S.length yc) br I<|cO 1 I I)<|yM I<|pU I (iA be aY I I C oM sL)<|pU I (fC c4 I zT3 I C)<|pK I (aZ (e:=encSide) (o:=0) (u:=vi xc) iT3 I (za7 a9) Z I)<|pU I (fA a6 I zT3 I)<|pK I (qL (v:=vi e.cell) iT3 I<|cO 4 I I)<|pU I (nQ I I)<|pN<|tN<|iP I (fun hx=>?_) (fun hx=>?_)
  ·rw[zg2 hx] at d;refine dW [18] [(0,2),(1,2),(2,1),(3,2),(4,2),(5,2),(6,1),(7,2),(8,2),(9,2),(10,1),(11,2),(12,2),(13,2),(14,1),(15,2),(16,0),(17,0),(18,0),(19,2)] ze5 kR<|yM I<|pU I (fA ao I aM I)<|pK I (qL (v:=.slice yp S.length yc) br I<|cO 1 I I)<|yM I<|pU I (iA be aY I I C oM sL)<|pU I (fC c4 I zT3 I C)<|pK I (aZ (e:=encSide) (o:=0) (u:=vi xc) iT3 I (za7 a9) Z I)<|yM I<|pU I (SU.eq (v':=vi<|-sg) (SU.neg I)<|ze4 vi d4)<|pU I (fA ao I aM I)<|pK I (qL (v:=.slice yp S.length yc) br I<|cO 1 I I)<|yM I<|pU I (iA be aY I I C oM sL)<|pU I (fC c4 I zT3 I C)<|pK I (aZ (e:=encSide) (o:=1) (u:=vi xs) iT3 I (za7 a9) Z I)<|pU I (SU.mul I I e0)<|SP.o I (SO.call call255 I<|ew E g4 _ xc (-sg * xs) e0.1 oM) dC (.inr iR) ?_;rintro _ g5 _ ⟨rfl,rfl,A⟩;refine SP.o I (bS sty77 I I I (ab ⟨I,trivial⟩) dC) dC (.inr iR) ?_;rintro _ _ _ ⟨h3,rfl,rfl,rfl⟩;refine SP.o I (aP (e:=fm) 0 (xc,-sg * xs) sty77 I I I I I oM oM) dC (.inl dC) ?_;rintro w' _ _ ⟨rfl,rfl⟩;exact pU I (aS I)<|pN<|bN<|tN<|rG<|lM I<|yD I<|lA I<|SL.nil<|ST.again (k+1,g5,w') sB I (by dsimp only; rw[d,zg7]; rfl) ⟨by dsimp only; omega,b.trans A⟩ (by dsimp only; omega)
  ·rw[zg3<|Decidable.not_not.1 hx] at d;exact kP<|bN<|tN<|rG<|lM I<|yD I<|lA I<|SL.nil<|ST.again (k+1,g4,w) sB I (by dsimp only; rw[d]) ⟨by dsimp only; omega,b⟩ (by dsimp only; omega)
 have c0:S.take k=S:=tL oM;rw[c0];have f4:=f3.mono b;have c1:((am l).map gv).length<1099511627776:=by rw[ze8]; exact (bT O).1
 have h6:=gS O [e.cell,e.other];refine xI (tX<|tX<|bX<|tN<|fS fun g5 A c7=>?_);obtain ⟨wq,wd,rfl⟩:=zc3 c7;have c9:=f4.mono A;refine SC.cut (ι:=Nat×PH×Option Addr×Nat×Nat) (fun i=>[(2,pp b2 0),(3,pp b3 0),(4,pp b4 0),(5,pp b5 0),(13,pp i.1 0)]) (fun i=>i.2.1) (fun i=>pt i.1 (.cells #[.slice i.2.2.1 i.2.2.2.1 i.2.2.2.2] 33 (0,0))::pt b7 (.cells #[vi yi,vi yd,.slice yp S.length yc] 56 (0,0))::pt b5 (.cells #[.slice none 0 0,vb false] 35 (0,0))::pt b4 (.cells #[.slice none 0 0] 29 (0,0))::pt b3 (.cells (edV e (.slice sp e.sides.length sc)<|.slice pq e.pairs.length pc) 42 (0,0))::pt b2 (.cells #[.slice p l.length c] 29 (0,0))::s)
  (fun i=>Le g5 i.2.1∧Ims i.2.1 (.slice i.2.2.1 i.2.2.2.1 i.2.2.2.2) ((((am l).map gv).map<|c8 e.cell<|((S.filter fun x=>!decide (x.cell=e.cell))).map fun x=>(x.cell,-sg * x.sign)).map<|c8 e.other [])) ?_ ?_
 ·refine SC.drawX [10] ze5 kR ?_;refine SX.q (i:=0) I kR (qV 4 aj ae I I I) dC<|SX.u (i:=2) I kR (fA a6 I zT3 I) dC<|SX.q (i:=3) I kR (qL (v:=vi e.cell) iT3 I<|cO 3 I I) dC<|SX.u (i:=4) I kR (mV I) dC<|SX.u (i:=6) I kR (fA a6 I zT3 I) dC<|SX.q (i:=7) I kR (qL (v:=vi e.other) iT3 I<|cO 3 I I) dC ?_
  repeat' (first
   | (refine SB.o (i:=1) rfl (SO.call call253 rfl<|fI E g5 _ _ l c9 O) dC (.inr (by rintro _ g6 _ ⟨rfl,D,iv,rfl,U⟩; exact⟨by assumption,(by exact .cons _<|.refl _)⟩)) ?_; rintro _ g6 _ ⟨rfl,D,iv,rfl,U⟩; obtain ⟨q6,n6,d6,rfl⟩:=U.form)
   | (refine SB.o (i:=1) rfl (SO.call call253 rfl<|fI E g5 _ _ l c9 O) dC (.inr (by rintro _ g6 _ ⟨rfl,D,iv,rfl,U⟩; exact⟨by assumption,(by exact .refl _)⟩)) ?_; rintro _ g6 _ ⟨rfl,D,iv,rfl,U⟩; obtain ⟨q6,n6,d6,rfl⟩:=U.form)
   | (refine SB.o (i:=5) rfl (SO.call call256 rfl<|iL E g6 _ _ _ _ e.cell _ U c1<|Sl.mono c7 D) dC (.inr (by rintro _ g7 _ ⟨rfl,M,u7,rfl,F⟩; exact⟨by exact Le.trans (by assumption) (by assumption),(by exact .cons _<|.refl _)⟩)) ?_; rintro _ g7 _ ⟨rfl,M,u7,rfl,F⟩; obtain ⟨q7,n7,d7,rfl⟩:=F.form; have V:=D.trans M)
   | (refine SB.o (i:=5) rfl (SO.call call256 rfl<|iL E g6 _ _ _ _ e.cell _ U c1<|Sl.mono c7 D) dC (.inr (by rintro _ g7 _ ⟨rfl,M,u7,rfl,F⟩; exact⟨by exact Le.trans (by assumption) (by assumption),(by exact .refl _)⟩)) ?_; rintro _ g7 _ ⟨rfl,M,u7,rfl,F⟩; obtain ⟨q7,n7,d7,rfl⟩:=F.form; have V:=D.trans M)
   | (refine SB.o (i:=8) I (SO.call call256 I<|iL E g7 _ _ _ _ e.other [] F (by rw[ze8]; exact c1) (zc1 _ _)) dC (.inr (by rintro _ g8 _ ⟨rfl,N,u8,rfl,m⟩; exact⟨by exact Le.trans (by assumption) (by assumption),(by exact .cons _<|.refl _)⟩)) ?_; rintro _ g8 _ ⟨rfl,N,u8,rfl,m⟩; obtain ⟨q8,n8,d8,rfl⟩:=m.form; have t:=V.trans N)
   | (refine SB.o (i:=8) I (SO.call call256 I<|iL E g7 _ _ _ _ e.other [] F (by rw[ze8]; exact c1) (zc1 _ _)) dC (.inr (by rintro _ g8 _ ⟨rfl,N,u8,rfl,m⟩; exact⟨by exact Le.trans (by assumption) (by assumption),(by exact .refl _)⟩)) ?_; rintro _ g8 _ ⟨rfl,N,u8,rfl,m⟩; obtain ⟨q8,n8,d8,rfl⟩:=m.form; have t:=V.trans N)
   | (refine SB.o (i:=9) rfl (aL zl8) dC (.inr (by rintro _ _ _ ⟨b0,rfl,rfl,rfl⟩; exact⟨by exact zb9 _,(by exact .cons _<|.refl _)⟩)) ?_; rintro _ _ _ ⟨b0,rfl,rfl,rfl⟩)
   | (refine SB.o (i:=9) rfl (aL zl8) dC (.inr (by rintro _ _ _ ⟨b0,rfl,rfl,rfl⟩; exact⟨by assumption,(by exact .cons _<|.refl _)⟩)) ?_; rintro _ _ _ ⟨b0,rfl,rfl,rfl⟩)
   | (refine SB.on (i:=10) I (sK 0 p8 I I I I I sB) (.inl dC) ?_; rintro _ _ _ ⟨rfl,rfl⟩)
   | refine zd8 1 9 kD ?_ ?_
   | refine zd8 5 9 kD ?_ ?_
   | refine zd8 8 9 kD ?_ ?_
   | refine zd7 9 kD ?_
   | refine zd7 10 kD ?_
   | refine zd7 8 kD ?_
   | refine zd7 5 kD ?_
   | refine zd7 1 kD ?_
   | (refine SX.nil kD ?_; exact za9 (b0,g8,q8,n8,d8) sB I I ⟨t,m⟩))
 rintro ⟨b0,g8,q8,n8,d8⟩ ⟨t,m⟩;dsimp only at t m ⊢;refine sQ ?_;refine SC.drawX [9,10] ze5 kR ?_;refine SX.q (i:=0) I kR (qV 5 aj ae I I I) dC<|SX.u (i:=1) I kR (fA a6 I zT3 I) dC<|SX.q (i:=2) I kR (qL (v:=vi e.cell) iT3 I<|cO 4 I I) dC<|SX.u (i:=3) I kR (fA a6 I zT3 I) dC<|SX.q (i:=4) I kR (qL (v:=vi e.other) iT3 I<|cO 4 I I) dC ?_
 repeat' (first
  | (refine SB.o (i:=5) rfl (bS sty52 rfl rfl rfl (ab sB) dC) dC (.inr (by rintro _ _ _ ⟨e1,rfl,rfl,rfl⟩; exact⟨by exact zb9 _,(by exact .cons _<|.refl _)⟩)) ?_; rintro _ _ _ ⟨e1,rfl,rfl,rfl⟩; refine SX.to (fun w hw=>At.litRow (e:=encInt) (l:=[e.cell,e.other]) (n:=1) hw I I dC) ?_; refine SX.freezeRow fun g9 c3 f5=>?_)
  | (refine SB.o (i:=6) rfl (SO.call call254 rfl<|kW E g9 _ _ _ l [e.cell,e.other] (c9.mono<|t.trans c3) O f5 (by simp)) dC (.inr (by rintro _ _ _ ⟨rfl,f6,b1,rfl,W,rfl⟩; exact⟨by assumption,(by exact .cons _<|.refl _)⟩)) ?_; rintro _ _ _ ⟨rfl,f6,b1,rfl,W,rfl⟩; refine SX.freezeRow fun f7 b6 c5=>?_; obtain ⟨f8,f9,rfl⟩:=zc3 c5; have e2:ai f7 (.slice f8 b1.length f9) (cN l [e.cell,e.other]):=⟨b1,c5,W.mono fun _ _=>an.mono b6⟩; have X:=c3.trans b6)
  | (refine SB.o (i:=7) rfl (SQ.sof<|qV 0 isAgg33 p8 rfl rfl rfl) dC (.inr (by rintro _ _ _ ⟨rfl,rfl,rfl⟩; exact⟨by exact zb9 _,(by exact .refl _)⟩)) ?_; rintro _ _ _ ⟨rfl,rfl,rfl⟩; refine SX.u (i:=8) I kD (za3 I<|buildS35 _ _ _) dC ?_)
  | (refine SB.o (i:=7) rfl (SQ.sof<|qV 0 isAgg33 p8 rfl rfl rfl) dC (.inr (by rintro _ _ _ ⟨rfl,rfl,rfl⟩; exact⟨by assumption,(by exact .refl _)⟩)) ?_; rintro _ _ _ ⟨rfl,rfl,rfl⟩; refine SX.u (i:=8) I kD (za3 I<|buildS35 _ _ _) dC ?_)
  | (refine SB.ob (i:=7) I (SQ.sof<|qV 0 isAgg33 p8 I I I) dC kD ?_; rintro _ _ _ ⟨rfl,rfl,rfl⟩; refine SX.u (i:=8) I kD (za3 I<|buildS35 _ _ _) dC ?_)
  | (refine SB.on (i:=9) I (sK 3 ae I I I I I sB) (.inl dC) ?_; rintro _ _ _ ⟨rfl,rfl⟩)
  | (refine SB.on (i:=10) I (sK 2 bQ I I I I I sB) (.inl dC) ?_; rintro _ _ _ ⟨rfl,rfl⟩; refine SX.u (i:=11) I kD (aS I) dC ?_)
  | refine zd8 5 7 kD ?_ ?_
  | refine zd8 6 7 kD ?_ ?_
  | refine zd8 7 9 kD ?_ ?_
  | refine zd7 9 kD ?_
  | refine zd7 10 kD ?_
  | refine zd7 7 kD ?_
  | refine zd7 6 kD ?_
  | refine zd7 5 kD ?_
  | (refine SX.nil kD ?_; refine tN ?_; refine rE ?_; exact ST.retCCT 3 2 s (.inl I) results196 I I I aj ae gw bQ I I I I uR ⟨I,a5.trans (b.trans (A.trans (t.trans X))),_,_,_,_,I,e2,fun _=>m.mono X⟩))
def bo (l:List Cl)(e:Ed):Int:=match findC l e.cell with
 | none=>30
 | some c=>if c.dim≠1 then 21 else if e.new<1∨e.other<1∨e.new=e.other then 1 else if (findC l e.new).isSome||(findC l e.other).isSome then 54 else 0
def eE (e:Ed)(l:List ak):List ak:=(l.filter fun x=>decide (x.cell=e.cell)).map fun x=>⟨e.other,x.sign⟩
theorem zS {e:Ed}{l:List ak}{k:Nat}(a:k<l.length):eE e (l.take<|k+1)=if l[k].cell=e.cell then eE e (l.take k)++[⟨e.other,l[k].sign⟩] else eE e (l.take k):=by
 unfold eE;rw[tS a,zh8,zg7];by_cases h:l[k].cell=e.cell
 ·rw[zg3 h]; simp[h]
 ·rw[zg2 h]; simp[h]
def bH (e:Ed)(a:Int)(y:Cl):Cl:=if y.id=e.cell then ⟨y.id,y.dim,[⟨a,-1⟩,⟨e.new,1⟩]⟩ else ⟨y.id,y.dim,y.sides++eE e y.sides⟩
def dK (l:List Cl)(e:Ed):List Cl:=[⟨e.new,0,[]⟩,⟨e.other,1,[⟨e.new,-1⟩,⟨(kM ((findC l e.cell).getD aH).sides true).cell,1⟩]⟩]++l.map (bH e (kM ((findC l e.cell).getD aH).sides false).cell)
def dv (e:Ed):List Tm:=if e.other<e.cell then [(e.other,1),(e.cell,1)] else [(e.cell,1),(e.other,1)]
theorem tC (E:World)(g:PH)(s:Own)(v ev:Value)(l:List Cl)(e:Ed)(hv:ai g v l)(hf:aJ l)(he:EdR g ev e)(r0:l.length≤100000)(l3:∀ c∈l,c.sides.length≤64)
  (c3:∀ c,findC l e.cell=some c→c.dim=1→∃ z0 z1,c.sides=[z0,z1]∧((z0.sign=1∧z1.sign = -1)∨(z0.sign = -1∧z1.sign=1))) :
  Ctr Tryz.prog E 194 #[.agg #[v],ev] g s (fun r g' s'=>s=s'∧Le g g'∧EG (bo l e) (if bo l e=0 then dK l e else l) (((am l).map gv).map<|c8 e.cell<|dv e) false r g'):=by
 obtain ⟨sv,pv,rfl,l4,m1⟩:=he;obtain ⟨sp,sc,rfl⟩:=za4 l4;obtain ⟨pq,pc,rfl⟩:=za4 m1;have f6:=hv;obtain ⟨p,c,rfl⟩:=hv.form;refine zb2 (args:=[.agg #[.slice p l.length c],.agg #[vi e.kind,vi e.cell,vi e.dim,vi e.new,vi e.other,.slice sp e.sides.length sc,.slice pq e.pairs.length pc]]) func194 I ntmps194 (bE I) ?_;cases H:findC l e.cell with
 | none =>
  have m:bo l e=30:=by unfold bo; rw[H]
  rw[m];refine rZ (bW (bO I) fun b2=>?_);refine bW (bO I) fun b3=>bW (aL zl9) fun b4=>bW (aL zl4) fun b5=>aT I<|rZ<|SL.K (qV 3 aj ae I I I)<|lU (fA a6 I zT3 I)<|SL.K (qL iT3 I<|cO 2 I I)<|lW (SO.call call48 I<|a8 E g _ _ l e.cell hv hf) ?_;rintro _ g1 _ ⟨rfl,a,⟨yi,yd,yp,yn,yc⟩,rfl,U⟩;rw[H];refine lM I (yX I<|yX I<|bW (aL zl7) fun b7=>?_);exact oZ (sK 0 aw I I I I I sB)<|aT I<|sQ<|bK<|sW I<|lU (SU.not I)<|aT I<|za2 I<|rZ<|SL.K (qV 4 aj ae I I I)<|lU (za3 I buildZ35)<|oZ (sK 2 ae I I I I I sB)<|oZ (sK 1 bQ I I I I I sB)<|aT I<|rE<|bR<|tR<|ST.retCCT 2 1 s (.inl I) results194 I I I aj ae gw bQ I I I I uR ⟨I,a,_,_,_,_,I,f6.mono a,fun h=>by cases h⟩
 | some c0 =>
 refine rZ (bW (bO I) fun b2=>?_);refine bW (bO I) fun b3=>bW (aL zl9) fun b4=>bW (aL zl4) fun b5=>aT I<|rZ<|SL.K (qV 3 aj ae I I I)<|lU (fA a6 I zT3 I)<|SL.K (qL iT3 I<|cO 2 I I)<|lW (SO.call call48 I<|a8 E g _ _ l e.cell hv hf) ?_;rintro _ g1 _ ⟨rfl,a,⟨yi,yd,yp,yn,yc⟩,rfl,U⟩;rw[H] at U ⊢;obtain ⟨m2,f7,c5⟩:=U;dsimp only[Option.getD] at m2 f7 c5;have m3:yn=c0.sides.length:=zc2 c5;subst m3;subst f7;have B:=f6.mono a;refine lM I (yX I<|yX I<|bW (aL zl7) fun b7=>?_);refine oZ (sK 0 aw I I I I I sB)<|aT I<|sQ<|bK<|sW I<|lU (SU.not I)<|aT I<|za1 I<|rZ<|lU (fA ao I zT3 I)<|SL.K (qL iT3 I<|cO 0 I I)<|lU (nQ I I)<|aT I<|iP I (fun hd=>?_) (fun hd=>?_)
 ·have m:bo l e=21:=by unfold bo; rw[H]; exact zg3 hd
  rw[m];exact rZ<|SL.K (qV 4 aj ae I I I)<|lU (za3 I buildZ35)<|oZ (sK 2 ae I I I I I sB)<|oZ (sK 1 bQ I I I I I sB)<|aT I<|rE<|bR<|tR<|ST.retCCT 2 1 s (.inl I) results194 I I I aj ae gw bQ I I I I uR ⟨I,a,_,_,_,_,I,B,fun h=>by cases h⟩
 have m4:c0.dim=1:=Decidable.not_not.1 hd;have c6:(e.new<1∨e.other<1∨e.new=e.other)→bo l e=1:=fun h=>by
  unfold bo;rw[H];show (if c0.dim≠1 then (21:Int) else if e.new<1∨e.other<1∨e.new=e.other then 1 else _)=1;rw[zg2 hd,zg3 h]
 by_cases V:e.new<1
 ·rw[c6<|.inl V];exact rZ<|lU (fA a6 I zT3 I)<|SL.K (qL (v:=vi e.new) iT3 I<|cO 3 I I)<|lU (SU.eq (v':=vb true) (lS I I)<|ze4 vb<|zg1 V)<|lM I<|yA I<|yA I<|yA I<|yP I<|lM I<|yA I<|yA I<|yA I<|yA I<|yA I<|yP I<|aT I<|za2 I<|rZ<|SL.K (qV 4 aj ae I I I)<|lU (za3 I buildZ35)<|oZ (sK 2 ae I I I I I sB)<|oZ (sK 1 bQ I I I I I sB)<|aT I<|rE<|bR<|tR<|ST.retCCT 2 1 s (.inl I) results194 I I I aj ae gw bQ I I I I uR ⟨I,a,_,_,_,_,I,B,fun h=>by cases h⟩
 by_cases a3:e.other<1
 ·rw[c6<|.inr<|.inl a3];exact rZ<|lU (fA a6 I zT3 I)<|SL.K (qL (v:=vi e.new) iT3 I<|cO 3 I I)<|lU (SU.eq (v':=vb false) (lS I I)<|ze4 vb<|zf9 V)<|lM I<|lY I I I (fA a6 I zT3 I)<|SL.gq (gT I I I dC) (qL (v:=vi e.other) iT3 I<|cO 3 I I) dC<|lY I I I (SU.eq (v':=vb true) (lS I I)<|ze4 vb<|zg1 a3)<|yF I<|lM I<|yA I<|yA I<|yA I<|yA I<|yA I<|yP I<|aT I<|za2 I<|rZ<|SL.K (qV 4 aj ae I I I)<|lU (za3 I buildZ35)<|oZ (sK 2 ae I I I I I sB)<|oZ (sK 1 bQ I I I I I sB)<|aT I<|rE<|bR<|tR<|ST.retCCT 2 1 s (.inl I) results194 I I I aj ae gw bQ I I I I uR ⟨I,a,_,_,_,_,I,B,fun h=>by cases h⟩
 refine rZ<|lU (fA a6 I zT3 I)<|SL.K (qL (v:=vi e.new) iT3 I<|cO 3 I I)<|lU (SU.eq (v':=vb false) (lS I I)<|ze4 vb<|zf9 V)<|lM I<|lY I I I (fA a6 I zT3 I)<|SL.gq (gT I I I dC) (qL (v:=vi e.other) iT3 I<|cO 3 I I) dC<|lY I I I (SU.eq (v':=vb false) (lS I I)<|ze4 vb<|zf9 a3)<|yF I<|lM I<|lY I I I (fA a6 I zT3 I)<|SL.gq (gT I I I dC) (qL (v:=vi e.new) iT3 I<|cO 3 I I) dC<|lY I I I (fA a6 I zT3 I)<|SL.gq (gT I I I dC) (qL (v:=vi e.other) iT3 I<|cO 3 I I) dC<|lY I I I (eQ I I)<|yF I<|aT I<|iP I (fun c7=>?_) (fun c7=>?_)
 ·rw[c6<|.inr<|.inr c7];exact rZ<|SL.K (qV 4 aj ae I I I)<|lU (za3 I buildZ35)<|oZ (sK 2 ae I I I I I sB)<|oZ (sK 1 bQ I I I I I sB)<|aT I<|rE<|bR<|tR<|ST.retCCT 2 1 s (.inl I) results194 I I I aj ae gw bQ I I I I uR ⟨I,a,_,_,_,_,I,B,fun h=>by cases h⟩
 have m:bo l e=if (findC l e.new).isSome||(findC l e.other).isSome then 54 else 0:=by
  unfold bo;rw[H];show (if c0.dim≠1 then (21:Int) else if e.new<1∨e.other<1∨e.new=e.other then 1 else if (findC l e.new).isSome||(findC l e.other).isSome then 54 else 0)=_;rw[zg2 hd,zg2 (fun h=>h.elim V fun h=>h.elim a3 c7)]
 rw[m];cases f8:(findC l e.new).isSome with
 | true =>
  have e54:(if (true||(findC l e.other).isSome)=true then (54:Int) else 0)=54:=rfl;rw[e54];refine rZ<|SL.K (qV 4 aj ae I I I)<|lU (fA a6 I zT3 I)<|SL.K (qL (v:=vi e.new) iT3 I<|cO 3 I I)<|lW (SO.call call252 I<|dh E g1 _ _ l e.new B hf) ?_;rintro _ g2 _ ⟨rfl,rfl,q⟩;rw[f8];exact lM I<|yA I<|yA I<|yA I<|yA I<|yP I<|aT I<|za2 I<|rZ<|SL.K (qV 4 aj ae I I I)<|lU (za3 I buildZ35)<|oZ (sK 2 ae I I I I I sB)<|oZ (sK 1 bQ I I I I I sB)<|aT I<|rE<|bR<|tR<|ST.retCCT 2 1 s (.inl I) results194 I I I aj ae gw bQ I I I I uR ⟨I,a.trans q,_,_,_,_,I,B.mono q,fun h=>by cases h⟩
 | false =>
 rw[Bool.false_or];refine rZ<|SL.K (qV 4 aj ae I I I)<|lU (fA a6 I zT3 I)<|SL.K (qL (v:=vi e.new) iT3 I<|cO 3 I I)<|lW (SO.call call252 I<|dh E g1 _ _ l e.new B hf) ?_;rintro _ g2 _ ⟨rfl,rfl,q⟩;rw[f8];refine lM I<|SL.gq (gT I I I dC) (qV 4 aj ae I I I) dC<|lY I I I (fA a6 I zT3 I)<|SL.gq (gT I I I dC) (qL (v:=vi e.other) iT3 I<|cO 3 I I) dC<|ze3 (gT I I I dC) (SO.call call252 I<|dh E g2 _ _ l e.other (B.mono q) hf) dC ?_;rintro _ g3 _ ⟨rfl,rfl,W⟩;refine yF I<|aT I<|iQ I (fun c9=>?_) (fun c9=>?_)
 ·rw[zg3 c9];exact rZ<|SL.K (qV 4 aj ae I I I)<|lU (za3 I buildZ35)<|oZ (sK 2 ae I I I I I sB)<|oZ (sK 1 bQ I I I I I sB)<|aT I<|rE<|bR<|tR<|ST.retCCT 2 1 s (.inl I) results194 I I I aj ae gw bQ I I I I uR ⟨I,a.trans<|q.trans W,_,_,_,_,I,B.mono<|q.trans W,fun h=>by cases h⟩
 rw[zg2 (by rw[c9]; exact Bool.false_ne_true)];have N:=q.trans W;have d0:=a.trans N;have f9:=B.mono N;have D:=za5 c5 N;obtain ⟨z0,z1,hz,n0⟩:=c3 c0 H m4;have h2:dK l e=[⟨e.new,0,[]⟩,⟨e.other,1,[⟨e.new,-1⟩,⟨(kM c0.sides true).cell,1⟩]⟩]++l.map (bH e (kM c0.sides false).cell):=by unfold dK; rw[H]; rfl
 rw[zg3 rfl,h2];have r1:c0.sides.length=2:=by rw[hz]; rfl
 have C:=za6 D oM;have d1:c0.sides[((0:Int)).toNat]?=some z0:=by rw[hz]; rfl
 have h3:c0.sides[((1:Int)).toNat]?=some z1:=by rw[hz]; rfl
 have O:(0<z0.sign→(kM c0.sides true).cell=z0.cell∧(kM c0.sides false).cell=z1.cell)∧(¬ 0<z0.sign→(kM c0.sides true).cell=z1.cell∧(kM c0.sides false).cell=z0.cell):=by
  rw[hz]
  rcases n0 with ⟨h0,h1⟩ | ⟨h0,h1⟩
  ·exact⟨fun _=>by simp[kM,h0,h1],fun h=>absurd oM h⟩
  ·exact⟨fun h=>absurd h oM,fun _=>by simp[kM,h0,h1]⟩
 generalize (kM c0.sides true).cell=zb at *;generalize (kM c0.sides false).cell=za at *;obtain ⟨h4,n1⟩:=z0;obtain ⟨h5,r2⟩:=z1;dsimp only at O;refine kP<|bN<|tN<|rZ<|lU (fA ao I aM I)<|SL.K (qL (v:=.slice yp c0.sides.length yc) br I<|cO 0 I I)<|lU (iA be aY I I C oM sL)<|lU (fC c4 I zT3 I C)<|SL.K (aZ (e:=encSide) (o:=0) (u:=vi h4) iT3 I (za7 D) d1 I)<|aT I<|rZ<|lU (fA ao I aM I)<|SL.K (qL (v:=.slice yp c0.sides.length yc) br I<|cO 0 I I)<|lU (iA be aY I I C oM sL)<|lU (fC c4 I zT3 I C)<|SL.K (aZ (e:=encSide) (o:=0) (u:=vi h5) iT3 I (za7 D) h3 I)<|aT I<|SC.cut (ι:=Unit) (fun _=>[(2,pp b2 0),(3,pp b3 0),(4,pp b4 0),(5,pp b5 0),(9,vi za),(10,vi zb)]) (fun _=>g3)
  (fun _=>pt b7 (.cells #[vi yi,vi c0.dim,.slice yp c0.sides.length yc] 56 (0,0))::pt b5 (.cells #[.slice none 0 0,vb false] 35 (0,0))::pt b4 (.cells #[.slice none 0 0] 29 (0,0))::pt b3 (.cells (edV e (.slice sp e.sides.length sc)<|.slice pq e.pairs.length pc) 42 (0,0))::pt b2 (.cells #[.slice p l.length c] 29 (0,0))::s) (fun _=>True) ?_ ?_
 ·refine rZ<|lU (fA ao I aM I)<|SL.K (qL (v:=.slice yp c0.sides.length yc) br I<|cO 0 I I)<|lU (iA be aY I I C oM sL)<|lU (fC c4 I zT3 I C)<|SL.K (aZ (e:=encSide) (o:=1) (u:=vi n1) iT3 I (za7 D) d1 I)<|lU (gR I I)<|tZ<|iP I (fun d2=>?_) (fun d2=>?_)
  ·obtain ⟨k1,k2⟩:=O.1 d2;exact rZ<|lU (fA ao I aM I)<|SL.K (qL (v:=.slice yp c0.sides.length yc) br I<|cO 0 I I)<|lU (iA be aY I I C oM sL)<|lU (fC c4 I zT3 I C)<|SL.K (aZ (e:=encSide) (o:=0) (u:=vi h5) iT3 I (za7 D) h3 I)<|aT I<|rG<|lU (fA ao I aM I)<|SL.K (qL (v:=.slice yp c0.sides.length yc) br I<|cO 0 I I)<|lU (iA be aY I I C oM sL)<|lU (fC c4 I zT3 I C)<|SL.K (aZ (e:=encSide) (o:=0) (u:=vi h4) iT3 I (za7 D) d1 I)<|lA I<|SL.nil<|za9 () ⟨I,I,I,I,(by rw[k2]; rfl),(by rw[k1]; rfl),trivial⟩ rfl rfl trivial
  ·obtain ⟨k1,k2⟩:=O.2 d2;exact kP<|za9 () ⟨I,I,I,I,(by rw[k2]; rfl),(by rw[k1]; rfl),trivial⟩ rfl rfl trivial
 rintro _ -;try dsimp only
 refine rZ<|lU (fA a6 I zT3 I)<|SL.K (qL (v:=vi e.new) iT3 I<|cO 3 I I)<|lU (za3 I<|buildI56 _)<|lU (fA a6 I zT3 I)<|SL.K (qL (v:=vi e.other) iT3 I<|cO 3 I I)<|lU (fA a6 I zT3 I)<|SL.K (qL (v:=vi e.new) iT3 I<|cO 3 I I)<|lU (za3 I<|buildS75 _ _)<|lM I<|lU (za3 I<|buildS75 _ _)<|lW (bS sty39 I I I (ab sB) dC) ?_;rintro _ _ _ ⟨X,rfl,rfl,rfl⟩;refine zb5 fun g4 b6 n2=>?_;have n3:SlA encSide g4 (.slice (some ⟨X,0,none⟩) 2 2) [⟨e.new,-1⟩,⟨zb,1⟩]:=SlA.lit n2 rfl rfl;refine lU (za3 I<|buildF56 _ _ _ I)<|lW (bS sty27 I I I (ab sB) dC) ?_;rintro _ _ _ ⟨h6,rfl,rfl,rfl⟩;refine SL.to (fun w hw=>At.litRow (e:=encCell) (l:=[⟨e.new,0,⟨none,0,0⟩⟩,⟨e.other,1,⟨some ⟨X,0,none⟩,2,2⟩⟩]) (n:=1) hw I I dC) ?_;refine lU (za3 I<|build29 _ I) (bW (aL zl9) fun S=>?_);refine oZ (sK 0 ae I I I I I sB)<|tZ<|sQ<|rZ<|aT I<|bK ?_;have n5:=f9.mono b6;obtain ⟨rs,h7,b8⟩:=n5;have r3:=b8.length;refine oP (ι:=Nat×PH×Option Addr×Nat×List Rc) (fun i=>[(2,pp b2 0),(3,pp b3 0),(4,pp b4 0),(5,pp b5 0),(9,vi za),(11,pp S 0),(12,vi i.1)]) (fun i=>i.2.1)
  (fun i=>pt S (.cells #[.slice i.2.2.1 i.2.2.2.2.length i.2.2.2.1] 29 (0,0))::rowA encCell 56 (.slice i.2.2.1 i.2.2.2.2.length i.2.2.2.1) i.2.2.2.2::pt b7 (.cells #[vi yi,vi c0.dim,.slice yp c0.sides.length yc] 56 (0,0))::pt b5 (.cells #[.slice none 0 0,vb false] 35 (0,0))::pt b4 (.cells #[.slice none 0 0] 29 (0,0))::pt b3 (.cells (edV e (.slice sp e.sides.length sc)<|.slice pq e.pairs.length pc) 42 (0,0))::pt b2 (.cells #[.slice p l.length c] 29 (0,0))::s)
  (fun i=>i.1≤l.length∧Le g4 i.2.1∧ax (an i.2.1) (([⟨e.new,0,[]⟩,⟨e.other,1,[⟨e.new,-1⟩,⟨zb,1⟩]⟩]:List Cl)++(l.take i.1).map (bH e za)) i.2.2.2.2) (fun i=>l.length - i.1) (0,g4,some ⟨h6,0,none⟩,2,[⟨e.new,0,⟨none,0,0⟩⟩,⟨e.other,1,⟨some ⟨X,0,none⟩,2,2⟩⟩])
  sB rfl rfl ⟨zf8 _,zb9 _,by dsimp only; rw[List.take_zero]; exact⟨⟨I,I,zc1 _ _⟩,⟨I,I,n3⟩,trivial⟩⟩ ?_
 rintro ⟨k,g5,q5,d5,f⟩ ⟨hk,J,F⟩;dsimp only at hk J F ⊢;have n6:=F.length;simp only[ze7,zf1,zc5,ze8,ze6] at n6;refine sQ<|sW I<|lU (fA dn I cq I)<|SL.K (qL (v:=.slice p l.length c) eh I<|cO 6 I I)<|lU (eN aB I)<|yL I<|tZ<|iP I (fun n7=>?_) (fun n7=>?_)
 ·have d3:k<l.length:=oM;have h8:k<rs.length:=oM;have n8:=za6 h7 oM;have U:=an.mono J<|b8.get (List.getElem?_eq_getElem d3)<|List.getElem?_eq_getElem h8;have o1:rs[((k:Nat):Int).toNat]?=some rs[k]:=List.getElem?_eq_getElem h8;have a4:=oG (bH e za) d3;have r4:=l3 _<|gM d3;generalize rs[k]=x at *;generalize l[k]=cx at *;obtain ⟨xi,xd,xp,xn,xc⟩:=x;obtain ⟨f1,f2,Y⟩:=U;dsimp only at f1 f2 Y;subst f1 f2;have o2:xn=cx.sides.length:=zc2 Y;subst o2;refine kP (tN<|sQ<|bK<|rZ<|lU (fA dn I cq I)<|SL.K (qL (v:=.slice p l.length c) eh I<|cO 6 I I)<|lM I<|lU (iA aB aw I I n8 oM sL)<|SL.K (SQ.elemA dT aw I (za7<|za5 h7 J) o1)<|bW (aL zl7) fun h9=>?_);refine oZ (sK 0 aw I I I I I sB)<|tZ<|rZ<|lW (bS sty39 I I I (ab trivial) dC) ?_;rintro _ _ _ ⟨q2,rfl,rfl,rfl⟩;refine SL.drop (zj3 _ _)<|lU (fA ao I aM I)<|SL.K (qL (v:=.slice xp cx.sides.length xc) br I<|cO 0 I I)<|lW (SO.appNewA (e:=encSide) sty39 I I Y oM oM) ?_;rintro v121 _ _ ⟨rfl,rfl⟩;refine zd4 fun ⟨w0,b⟩=>?_;obtain ⟨q6,d6,rfl⟩:=ag (e:=encSide) (l:=cx.sides) (i:=0) b rfl;clear b w0;refine lU (fA ao rfl aM rfl)<|oZ (SO.store1 1 aM rfl rfl rfl rfl (bE rfl)<|by rfl) ?_;refine tZ<|rZ<|lU (fA ao I aM I)<|SL.K (qL (v:=.slice q6 cx.sides.length d6) br I<|cO 1 I I)<|lU (eN be I)<|aT I<|sQ<|rZ<|aT I<|bK ?_;have i0:eE e (cx.sides.take 0)=[]:=rfl;refine oP (ι:=Nat×Option Addr×Nat) (fun i=>[(2,pp b2 0),(3,pp b3 0),(4,pp b4 0),(5,pp b5 0),(9,vi za),(11,pp S 0),(12,vi k),(13,pp h9 0),(14,vi cx.sides.length),(15,vi i.1)]) (fun _=>g5)
   (fun i=>rowA encSide 75 (.slice i.2.1 (cx.sides++eE e (cx.sides.take i.1)).length i.2.2) (cx.sides++eE e (cx.sides.take i.1))::pt h9 (.cells #[vi cx.id,vi cx.dim,.slice i.2.1 (cx.sides++eE e (cx.sides.take i.1)).length i.2.2] 56 (0,0))::pt S (.cells #[.slice q5 f.length d5] 29 (0,0))::rowA encCell 56 (.slice q5 f.length d5) f::pt b7 (.cells #[vi yi,vi c0.dim,.slice yp c0.sides.length yc] 56 (0,0))::pt b5 (.cells #[.slice none 0 0,vb false] 35 (0,0))::pt b4 (.cells #[.slice none 0 0] 29 (0,0))::pt b3 (.cells (edV e (.slice sp e.sides.length sc)<|.slice pq e.pairs.length pc) 42 (0,0))::pt b2 (.cells #[.slice p l.length c] 29 (0,0))::s)
   (fun i=>i.1≤cx.sides.length) (fun i=>cx.sides.length - i.1) (0,q6,d6) sB rfl (by dsimp only; rw[i0,zc7]; rfl) (zf8 _) ?_
  rintro ⟨j,q7,d7⟩ hj;dsimp only at hj ⊢;refine sQ<|sW I<|lM I<|yL I<|tZ<|iP I (fun i1=>?_) (fun i1=>?_)
  ·have d4:j<cx.sides.length:=oM;have t:=zS (e:=e) d4;have q3:(eE e<|cx.sides.take j).length≤64:=by
    unfold eE;rw[ze8];have:=zc6 (fun x:ak=>decide (x.cell=e.cell))<|cx.sides.take j;rw[ze6] at this;omega
   have i2:(cx.sides++eE e (cx.sides.take j))[((j:Nat):Int).toNat]?=some cx.sides[j]:=by
    show (cx.sides++eE e (cx.sides.take j))[j]?=_;rw[zh4 d4];exact List.getElem?_eq_getElem d4
   generalize cx.sides[j]=z at *;obtain ⟨zc,zs⟩:=z;dsimp only at t;refine SC.facts fun ⟨w0,b⟩=>?_;obtain ⟨bb,cc,i3⟩:=bw (i:=0) b rfl (by rw[ze7]; omega);clear b w0;have T:based (.slice q7 (cx.sides++eE e (cx.sides.take j)).length d7)=true:=by rw[i3]; rfl
   clear i3;have p0:(cx.sides++eE e (cx.sides.take j)).length=cx.sides.length+(eE e<|cx.sides.take j).length:=ze7;refine kP<|tN<|sQ<|bK<|sQ<|dW [] [(0,2),(1,1),(2,2),(3,2),(4,2),(5,1),(6,2),(7,1),(8,2)] ze5 kR<|pU I (fA ao I aM I)<|pK I (qL (v:=.slice q7 (cx.sides++eE e (cx.sides.take j)).length d7) br I<|cO 1 I I)<|yM I<|pU I (iA be aY I I T oM sL)<|pU I (fC c4 I zT3 I T)<|pK I (aZ (e:=encSide) (o:=0) (u:=vi zc) iT3 I (zb7 0 I) i2 I)<|pU I (fA a6 I zT3 I)<|pK I (qL (v:=vi e.cell) iT3 I<|cO 7 I I)<|pU I (eQ I I)<|pN<|tN<|iP I (fun e0=>?_) (fun e0=>?_)
   ·rw[zg3 e0] at t;have a5:cx.sides++eE e (cx.sides.take<|j+1)=(cx.sides++eE e (cx.sides.take j))++[⟨e.other,zs⟩]:=by rw[t,zh1]
    generalize cx.sides++eE e (cx.sides.take j)=L at *;refine dW [12,14] [(0,2),(1,1),(2,2),(3,1),(4,2),(5,1),(6,2),(7,2),(8,2),(9,1),(10,2),(11,0),(12,0),(13,2),(14,0)] ze5 kR<|pU I (fA ao I aM I)<|pK I (qL (v:=.slice q7 L.length d7) br I<|cO 1 I I)<|pU I (fA a6 I zT3 I)<|pK I (qL (v:=vi e.other) iT3 I<|cO 7 I I)<|pU I (fA ao I aM I)<|pK I (qL (v:=.slice q7 L.length d7) br I<|cO 1 I I)<|yM I<|pU I (iA be aY I I T oM sL)<|pU I (fC c4 I zT3 I T)<|pK I (aZ (e:=encSide) (o:=1) (u:=vi zs) iT3 I (zb7 0 I) i2 I)<|pU I (za3 I<|buildS75 _ _)<|SP.o I (bS sty39 I I I (ab ⟨I,trivial⟩) dC) dC (.inr iR) ?_;rintro _ _ _ ⟨q4,rfl,rfl,rfl⟩;refine SP.o I (aP (e:=encSide) 0 ⟨e.other,zs⟩ sty39 I I I I I oM oM) dC (.inl dC) ?_;rintro v152 _ _ ⟨rfl,rfl⟩;refine zd3 fun ⟨w0,b⟩=>?_;obtain ⟨q8,d8,rfl⟩:=ag (e:=encSide) (l:=L++[(⟨e.other,zs⟩:ak)]) (i:=0) b rfl;clear b w0;refine pU rfl (fA ao rfl aM rfl)<|SP.on rfl (SO.store1 1 aM rfl rfl rfl rfl (bE rfl)<|by rfl) (.inl dC) ?_;rintro _ _ _ ⟨rfl,rfl⟩;refine pN<|bN<|tN<|rG<|lM I<|yD I<|lA I<|SL.nil ?_;exact ST.again (j+1,q8,d8) sB I (by dsimp only; rw[a5]; rfl) (by dsimp only; omega) (by dsimp only; omega)
   ·rw[zg2 e0] at t;exact kP<|bN<|tN<|rG<|lM I<|yD I<|lA I<|SL.nil<|ST.again (j+1,q7,d7) sB I (by dsimp only; rw[t]) (by dsimp only; omega) (by dsimp only; omega)
  ·have p1:cx.sides.take j=cx.sides:=tL oM;rw[p1];refine xI (tX<|tX<|bX<|tN<|sQ<|sQ<|fS fun g6 y e1=>?_);refine rG<|lU (fA ao I zT3 I)<|SL.K (qL (v:=vi cx.id) iT3 I<|cO 0 I I)<|lU (fA a6 I zT3 I)<|SL.K (qL (v:=vi e.cell) iT3 I<|cO 6 I I)<|yE I<|tZ ?_;have Z:=J.trans y;refine iP I (fun e2=>?_) (fun e2=>?_)
   ·have e4:bH e za cx=⟨cx.id,cx.dim,[⟨za,-1⟩,⟨e.new,1⟩]⟩:=zg3 e2;rw[e4] at a4;refine rG (lM I (lU (za3 I (buildS75 _ _)) (lU (fA a6 I zT3 I) (SL.K (qL (v:=vi e.new) iT3 I (cO 6 I I)) (lU (za3 I (buildS75 _ _)) (lW (bS sty39 I I I (ab sB) dC) ?_))))));rintro _ _ _ ⟨Q,rfl,rfl,rfl⟩;refine zb5 fun g7 R T=>?_;have p2:SlA encSide g7 (.slice (some ⟨Q,0,none⟩) 2 2) [⟨za,-1⟩,⟨e.new,1⟩]:=SlA.lit T rfl rfl;refine lU (fA ao rfl aM rfl) (oZ (SO.store1 0 aM rfl rfl rfl rfl (bE rfl) (by rfl)) ?_);refine tZ (rG (lU (fA dn I cq I) (SL.K (qL (v:=.slice q5 f.length d5) eh I (cO 1 I I)) (SL.K (qV 0 dT aw I I I) (lW (bS sty27 I I I (ab sB) dC) ?_)))));rintro _ _ _ ⟨j0,rfl,rfl,rfl⟩;refine lW (aP (e:=encCell) 2 ⟨cx.id,cx.dim,⟨some ⟨Q,0,none⟩,2,2⟩⟩ sty27 I I I I I oM oM) ?_;rintro v170 _ _ ⟨rfl,rfl⟩;refine zd4 fun ⟨w0,b⟩=>?_;obtain ⟨q9,d9,rfl⟩:=ag (e:=encCell) (l:=f++[(⟨cx.id,cx.dim,⟨some ⟨Q,0,none⟩,2,2⟩⟩:Rc)]) (i:=2) b rfl;clear b w0;refine lU (fA dn I cq I) (oZ (sK 1 cq I I I I I sB) ?_);refine SL.nil (bN (tN (rG (lM I (yD I (lA I (SL.nil (dR (.cons _ (.refl _)) ?_))))))));exact ST.again (k+1,g7,q9,d9,f++[(⟨cx.id,cx.dim,⟨some ⟨Q,0,none⟩,2,2⟩⟩:Rc)]) sB I I ⟨by dsimp only; omega,Z.trans R,by
     dsimp only;rw[a4,← zh1];exact (F.mono fun _ _=>an.mono (y.trans R)).append ⟨⟨I,I,p2⟩,trivial⟩⟩ (by dsimp only; omega)
   ·have e4:bH e za cx=⟨cx.id,cx.dim,cx.sides++eE e cx.sides⟩:=zg2 e2;rw[e4] at a4;refine kP (tN (rG (lU (fA dn I cq I) (SL.K (qL (v:=.slice q5 f.length d5) eh I (cO 1 I I)) (SL.K (qV 0 dT aw I I I) (lW (bS sty27 I I I (ab sB) dC) ?_))))));rintro _ _ _ ⟨j0,rfl,rfl,rfl⟩;refine lW (aP (e:=encCell) 2 ⟨cx.id,cx.dim,⟨q7,(cx.sides++eE e cx.sides).length,d7⟩⟩ sty27 I I I I I oM oM) ?_;rintro v170 _ _ ⟨rfl,rfl⟩;refine zd4 fun ⟨w0,b⟩=>?_;obtain ⟨q9,d9,rfl⟩:=ag (e:=encCell) (l:=f++[(⟨cx.id,cx.dim,⟨q7,(cx.sides++eE e cx.sides).length,d7⟩⟩:Rc)]) (i:=2) b rfl;clear b w0;refine lU (fA dn I cq I) (oZ (sK 1 cq I I I I I sB) ?_);refine SL.nil (bN (tN (rG (lM I (yD I (lA I (SL.nil (dR (.cons _ (.refl _)) ?_))))))));exact ST.again (k+1,g6,q9,d9,f++[(⟨cx.id,cx.dim,⟨q7,(cx.sides++eE e cx.sides).length,d7⟩⟩:Rc)]) sB I I ⟨by dsimp only; omega,Z,by
     dsimp only;rw[a4,← zh1];exact (F.mono fun _ _=>an.mono y).append ⟨⟨I,I,e1⟩,trivial⟩⟩ (by dsimp only; omega)
 ·have p3:l.take k=l:=tL oM;rw[p3] at F;have a0:=b6.trans J;have p5:=f9.mono a0;have p6:((am l).map gv).length<1099511627776:=by rw[ze8]; exact (bT hf).1
  refine xI (tX<|tX<|bX<|tN<|sQ<|cP (zk3 _ _ _)<|fS fun g6 y e1=>?_);have p7:ai g6 (.slice q5 f.length d5) _:=⟨f,e1,F.mono fun _ _=>an.mono y⟩;refine dW [] [(0,2),(1,1),(3,2),(4,1),(2,0),(5,0),(6,0),(7,2)] ze5 kR<|pU I (fA a6 I zT3 I)<|pK I (qL (v:=vi e.cell) iT3 I<|cO 4 I I)<|pU I (fA a6 I zT3 I)<|pK I (qL (v:=vi e.other) iT3 I<|cO 4 I I)<|SP.o I (SO.call call255 I<|ew E g6 _ e.cell 1 dC dC) dC (.inr iR) ?_;rintro _ g7 _ ⟨rfl,rfl,R⟩;refine SP.o rfl (SO.call call255 rfl<|ew E g7 _ e.other 1 dC dC) dC (.inr (by rintro _ g8 _ ⟨rfl,rfl,b9⟩; exact⟨by exact Le.trans (by assumption) (by assumption),(by exact .refl _)⟩)) ?_;rintro _ g8 _ ⟨rfl,rfl,b9⟩;have e9:=R.trans b9;refine SP.o I (bS sty77 I I I (ab sB) dC) dC (.inr iR) ?_;rintro _ _ _ ⟨c1,rfl,rfl,rfl⟩;refine SP.freeze fun g9 j1 p9=>?_;have a1:=e9.trans j1;have q0:SlA fm g9 (.slice (some ⟨c1,0,none⟩) 2 2) [(e.cell,1),(e.other,1)]:=SlA.lit p9 rfl rfl;refine pU I (aS I)<|pN<|tN ?_;refine SC.cut (ι:=PH×Option Addr×Nat×Nat) (fun i=>[(2,pp b2 0),(3,pp b3 0),(4,pp b4 0),(5,pp b5 0),(11,pp S 0),(16,.slice i.2.1 i.2.2.1 i.2.2.2)]) (fun i=>i.1)
   (fun _=>pt S (.cells #[.slice q5 f.length d5] 29 (0,0))::pt b7 (.cells #[vi yi,vi c0.dim,.slice yp c0.sides.length yc] 56 (0,0))::pt b5 (.cells #[.slice none 0 0,vb false] 35 (0,0))::pt b4 (.cells #[.slice none 0 0] 29 (0,0))::pt b3 (.cells (edV e (.slice sp e.sides.length sc)<|.slice pq e.pairs.length pc) 42 (0,0))::pt b2 (.cells #[.slice p l.length c] 29 (0,0))::s)
   (fun i=>Le g6 i.1∧SlA fm i.1 (.slice i.2.1 i.2.2.1 i.2.2.2) (dv e)) ?_ ?_
  ·refine rZ<|lU (fA a6 I zT3 I)<|SL.K (qL (v:=vi e.other) iT3 I<|cO 4 I I)<|lU (fA a6 I zT3 I)<|SL.K (qL (v:=vi e.cell) iT3 I<|cO 4 I I)<|yL I<|tZ<|iP I (fun f3=>?_) (fun f3=>?_)
   ·have f4:dv e=[(e.other,1),(e.cell,1)]:=zg3 f3;rw[f4];refine dW [] [(0,2),(1,1),(3,2),(4,1),(2,0),(5,0),(6,0),(7,2)] ze5 kR<|pU I (fA a6 I zT3 I)<|pK I (qL (v:=vi e.other) iT3 I<|cO 4 I I)<|pU I (fA a6 I zT3 I)<|pK I (qL (v:=vi e.cell) iT3 I<|cO 4 I I)<|SP.o I (SO.call call255 I<|ew E g9 _ e.other 1 dC dC) dC (.inr iR) ?_;rintro _ f5 _ ⟨rfl,rfl,d⟩;refine SP.o rfl (SO.call call255 rfl<|ew E f5 _ e.cell 1 dC dC) dC (.inr (by rintro _ g11 _ ⟨rfl,rfl,A⟩; exact⟨by exact Le.trans (by assumption) (by assumption),(by exact .refl _)⟩)) ?_;rintro _ g11 _ ⟨rfl,rfl,A⟩;have a9:=d.trans A;refine SP.o I (bS sty77 I I I (ab sB) dC) dC (.inr iR) ?_;rintro _ _ _ ⟨c2,rfl,rfl,rfl⟩;refine SP.freeze fun b0 G j2=>?_;have b1:=a9.trans G;have l0:SlA fm b0 (.slice (some ⟨c2,0,none⟩) 2 2) [(e.other,1),(e.cell,1)]:=SlA.lit j2 rfl rfl;refine pU I (aS I)<|pN ?_;exact za9 (b0,some ⟨c2,0,none⟩,2,2) sB I I ⟨a1.trans b1,l0⟩
   ·have f4:dv e=[(e.cell,1),(e.other,1)]:=zg2 f3;rw[f4];exact kP<|za9 (g9,some ⟨c1,0,none⟩,2,2) sB I I ⟨a1,q0⟩
  rintro ⟨f5,r5,r6,r7⟩ ⟨d,a2⟩;dsimp only at d a2 ⊢;have l1:=p5.mono<|y.trans d;refine sQ<|dW [8,9] [(0,1),(1,1),(3,2),(4,1),(5,2),(2,0),(6,0),(7,2),(8,0),(9,0),(10,2)] ze5 kR<|pK I (qV 0 aj ae I I I)<|pK I (qV 5 aj ae I I I)<|pU I (fA a6 I zT3 I)<|pK I (qL (v:=vi e.cell) iT3 I<|cO 4 I I)<|yM I<|SP.o I (SO.call call253 I<|fI E f5 _ _ l l1 hf) dC (.inr iR) ?_;rintro _ g11 _ ⟨rfl,A,iv,rfl,l2⟩;obtain ⟨r8,r9,s2,rfl⟩:=l2.form;refine SP.o rfl (SO.call call256 rfl<|iL E g11 _ _ _ _ e.cell _ l2 p6<|za5 a2 A) dC (.inr (by rintro _ b0 _ ⟨rfl,G,q1,rfl,P⟩; exact⟨by exact Le.trans (by assumption) (by assumption),(by exact .refl _)⟩)) ?_;rintro _ b0 _ ⟨rfl,G,q1,rfl,P⟩;obtain ⟨t0,t1,t2,rfl⟩:=P.form;have M:=A.trans G;refine pU I (za3 I<|buildS35 _ _ _)<|SP.on I (sK 3 ae I I I I I sB) (.inl dC) ?_;rintro _ _ _ ⟨rfl,rfl⟩;refine SP.on I (sK 2 bQ I I I I I sB) (.inl dC) ?_;rintro _ _ _ ⟨rfl,rfl⟩;refine pU I (aS I)<|pN<|tN<|rE ?_;exact ST.retCCT 3 2 s (.inl I) results194 I I I aj ae gw bQ I I I I uR ⟨I,d0.trans<|a0.trans<|y.trans<|d.trans M,_,_,_,_,I,p7.mono<|d.trans M,fun _=>P⟩
theorem Gn {ps:List Pr}{k:Int}{j:Nat}(b:j<ps.length)(h:ps[j].2=k)(hn:∀ i (a:i<j),(ps[i]'oM).2≠k):byF ps k=some ps[j].1:=by
 have c:ps.find? (fun p=>decide (p.2=k))=some ps[j]:=List.find?_eq_some_iff_getElem.2 ⟨by simpa using h,j,b,rfl,fun i a=>by simpa using hn i a⟩;unfold byF;rw[c];rfl
theorem Gm {ps:List Pr}{k:Int}(hn:∀ p∈ps,p.2≠k):byF ps k=none:=by
 unfold byF;rw[List.find?_eq_none.2 fun p a=>by simpa using hn p a];rfl
theorem gH (E:World)(g:PH)(s:Own)(v pv:Value)(l:List ak)(ps:List Pr)(H:SlA encSide g v l)(hl:l.length<1099511627776)(G:SlA dZ g pv ps)(R:ps.length<1099511627776) :
  Ctr Tryz.prog E 257 #[v,pv] g s (fun r g' s'=>s=s'∧Le g g'∧SlA encSide g' r (l.map<|kK<|byF ps)):=by
 obtain ⟨p,c,rfl⟩:=za4 H;obtain ⟨q,d,rfl⟩:=za4 G;refine zb2 (args:=[.slice p l.length c,.slice q ps.length d]) func257 I ntmps257 (bE I)<|rZ (aT I<|rZ<|lU (za3 I<|buildE56)<|bW (aL zl7) fun b5=>?_);refine oZ (sK 0 aw I I I I I sB)<|tZ<|sQ<|rZ<|aT I<|bK<|zb6 75 2<|oP (ι:=Nat×Value) (fun i=>[(0,.slice p l.length c),(1,.slice q ps.length d),(5,pp b5 0),(6,vi i.1)]) (fun _=>g) (fun i=>rowA encSide 75 i.2 ((l.take i.1).map<|kK<|byF ps)::pt b5 (.cells #[vi 0,vi 0,i.2] 56 (0,0))::s)
  (fun i=>i.1≤l.length) (fun i=>l.length - i.1) (0,.slice none 0 0) sB rfl rfl (zf8 _) ?_
 rintro ⟨k,w⟩ S;dsimp only at S ⊢;refine sQ<|sW I<|lM I<|lU (eN be I)<|yL I<|tZ<|iP I (fun J=>?_) (fun J=>?_)
 ·have y:k<l.length:=oM;have L:=za6 H oM;have M:l[((k:Nat):Int).toNat]?=some l[k]:=List.getElem?_eq_getElem y;have f:(l.take<|k+1).map (kK<|byF ps)=(l.take k).map (kK<|byF ps)++[kK (byF ps) l[k]]:=by rw[tS y,zg7]; rfl
  have T:((l.take k).map<|kK<|byF ps).length=k:=by rw[ze8,ze6]; omega
  generalize l[k]=x at *;obtain ⟨xc,xs⟩:=x;refine kP (tN<|sQ<|bK<|sW I<|lM I<|lU (iA be aY I I L oM sL)<|SL.K (SQ.elemA jn aY I (za7 H) M)<|bW (aL zm1) fun b7=>?_);refine oZ (sK 0 aY I I I I I sB)<|tZ<|sQ<|rZ<|aT I<|bK<|oP (ι:=Nat) (fun j=>[(0,.slice p l.length c),(1,.slice q ps.length d),(5,pp b5 0),(6,vi k),(7,pp b7 0),(8,vi j)]) (fun _=>g) (fun _=>pt b7 (.cells #[vi xc,vi xs] 75 (0,0))::rowA encSide 75 w ((l.take k).map<|kK<|byF ps)::pt b5 (.cells #[vi 0,vi 0,w] 56 (0,0))::s)
   (fun j=>j≤ps.length∧∀ i (t:i<j) (hl:i<ps.length),ps[i].2≠xc) (fun j=>ps.length - j) 0 sB rfl rfl ⟨zf8 _,fun i t=>absurd t oM⟩ ?_
  rintro j ⟨U,m⟩;try dsimp only at U m ⊢
  refine sQ<|sW I<|lM I<|lU (eN mJ I)<|yL I<|tZ<|iP I (fun A=>?_) (fun A=>?_)
  ·have B:j<ps.length:=oM;have n:=za6 G oM;have C:ps[((j:Nat):Int).toNat]?=some ps[j]:=List.getElem?_eq_getElem B;have D:=fun h=>Gn (ps:=ps) (k:=xc) B h (fun i t=>m i t oM);have a:ps[j].2≠xc→∀ i (t:i<j+1) (hl:i<ps.length),ps[i].2≠xc:=fun h i t hl=>by
    by_cases e:i=j
    ·subst e; exact h
    ·exact m i oM hl
   generalize ps[j]=z at *;obtain ⟨z1,z2⟩:=z;dsimp only at D a;refine kP<|tN<|sQ<|bK<|sQ<|dW [] [(0,2),(1,1),(2,2),(3,2),(4,2),(5,2),(6,1),(7,2)] ze5 kR<|pU I (fA c4 I zT3 I)<|pK I (qL (v:=vi xc) iT3 I<|cO 0 I I)<|yM I<|yM I<|pU I (iA mJ p4 I I n oM sL)<|pU I (SU.indexAddrC qw zT3 I n I dC dC)<|pK I (aZ (e:=dZ) (o:=1) (u:=vi z2) iT3 I (za7 G) C I)<|pU I (eQ I I)<|pN<|tN<|iP I (fun N=>?_) (fun N=>?_)
   ·have hr:kK (byF ps) ⟨xc,xs⟩=⟨z1,xs⟩:=by unfold kK; rw[D N.symm]; rfl
    rw[hr] at f;refine sW rfl<|lM rfl<|lU (iA mJ p4 rfl rfl n oM sL)<|lU (SU.indexAddrC qw zT3 rfl n rfl dC dC)<|SL.K (aZ (e:=dZ) (o:=0) (u:=vi z1) iT3 rfl (za7 G) C rfl)<|lU (fA c4 rfl zT3 rfl)<|oZ (SO.store1 0 zT3 rfl rfl rfl rfl (bE rfl)<|by rfl) ?_;refine tZ<|xI<|ST.blockO dC<|tX<|tX<|bX<|tN<|rG<|lU (fA ao I aM I)<|SL.K (qL (v:=w) br I<|cO 2 I I)<|SL.K (qV 0 jn aY I I I)<|lW (bS sty39 I I I (ab sB) dC) ?_;rintro _ _ _ ⟨O,rfl,rfl,rfl⟩;refine lW (aP (e:=encSide) 1 ⟨z1,xs⟩ sty39 I I I I I oM oM) ?_;rintro w' _ _ ⟨rfl,rfl⟩;refine zd4 fun ⟨w0,b⟩=>?_;obtain ⟨q',d',rfl⟩:=ag (e:=encSide) (l:=(l.take k).map (kK<|byF ps)++[(⟨z1,xs⟩:ak)]) (i:=1) b rfl;clear b w0;refine lU (fA ao rfl aM rfl)<|oZ (SO.store1 2 aM rfl rfl rfl rfl (bE rfl)<|by rfl) ?_;refine SL.nil<|bN<|tN<|rG<|lM I<|yD I<|lA I<|SL.nil<|dR (.cons _<|.refl _) ?_;exact ST.again (k+1,_) sB I (by dsimp only; rw[f]; rfl) (by dsimp only; omega) (by dsimp only; omega)
   ·exact kP<|bN<|tN<|rG<|lM I<|yD I<|lA I<|SL.nil<|ST.again (j+1) sB I I ⟨oM,a fun h=>N h.symm⟩ oM
  ·have hr:kK (byF ps) ⟨xc,xs⟩=⟨xc,xs⟩:=by
    unfold kK;rw[Gm fun z hz=>?_]
    ·rfl
    ·obtain ⟨i,t,rfl⟩:=zc8 hz;exact m i oM t
   rw[hr] at f;refine xI<|tX<|tX<|bX<|tN<|rG<|lU (fA ao I aM I)<|SL.K (qL (v:=w) br I<|cO 2 I I)<|SL.K (qV 0 jn aY I I I)<|lW (bS sty39 I I I (ab sB) dC) ?_;rintro _ _ _ ⟨O,rfl,rfl,rfl⟩;refine lW (aP (e:=encSide) 1 ⟨xc,xs⟩ sty39 I I I I I oM oM) ?_;rintro w' _ _ ⟨rfl,rfl⟩;refine zd4 fun ⟨w0,b⟩=>?_;obtain ⟨q',d',rfl⟩:=ag (e:=encSide) (l:=(l.take k).map (kK<|byF ps)++[(⟨xc,xs⟩:ak)]) (i:=1) b rfl;clear b w0;refine lU (fA ao rfl aM rfl)<|oZ (SO.store1 2 aM rfl rfl rfl rfl (bE rfl)<|by rfl) ?_;refine SL.nil<|bN<|tN<|rG<|lM I<|yD I<|lA I<|SL.nil<|dR (.cons _<|.refl _) ?_;exact ST.again (k+1,_) sB I (by dsimp only; rw[f]; rfl) (by dsimp only; omega) (by dsimp only; omega)
 ·have P:l.take k=l:=tL oM;rw[P];refine xI (tX<|tX<|bX<|tN<|sQ<|fS fun g2 F Q=>?_);exact rG<|lU (fA ao I aM I)<|SL.K (qL (v:=w) br I<|cO 0 I I)<|aT I<|rE<|dR (s':=s) uR<|za8 (.inl I) results257 I ⟨I,F,Q⟩
theorem rH (E:World)(g:PH)(s:Own)(v:Value)(l:List ak)(x:ak)(d:SlA encSide g v l)(hl:l.length<1099511627776) :
  Ctr Tryz.prog E 174 #[v,.agg #[vi x.cell,vi x.sign]] g s (fun r g' s'=>r=vi ((l.countP fun y=>decide (y=x)):Nat)∧g=g'∧s=s'):=by
 obtain ⟨p,c,rfl⟩:=za4 d;refine zb2 (args:=[.slice p l.length c,.agg #[vi x.cell,vi x.sign]]) func174 I ntmps174 (bE I)<|rZ (bW (bO I) fun b3=>?_);refine aT I<|rZ<|aT I<|sQ<|rZ<|aT I<|bK<|oP (ι:=Nat) (fun k=>[(0,.slice p l.length c),(3,pp b3 0),(5,vi (((l.take k).countP fun y=>decide (y=x)):Nat)),(6,vi k)]) (fun _=>g) (fun _=>pt b3 (.cells #[vi x.cell,vi x.sign] 75 (0,0))::s)
  (fun k=>k≤l.length) (fun k=>l.length - k) 0 sB rfl rfl (zf8 _) ?_
 rintro k n;try dsimp only at n ⊢
 refine sQ<|sW I<|lM I<|lU (eN be I)<|yL I<|tZ<|iP I (fun e=>?_) (fun e=>?_)
 ·have b:k<l.length:=oM;have f:=za6 d oM;have i:l[((k:Nat):Int).toNat]?=some l[k]:=List.getElem?_eq_getElem b;have a:(l.take<|k+1).countP (fun y=>decide (y=x))=(l.take k).countP (fun y=>decide (y=x))+(if l[k]=x then 1 else 0):=by
   rw[tS b,List.countP_append];congr 1;by_cases h:l[k]=x <;> simp[h]
  have o:(l.take k).countP (fun y=>decide (y=x))≤k:=zk9 List.countP_le_length (by rw[ze6]; omega);generalize l[k]=y at *;obtain ⟨yc,ys⟩:=y;refine kP<|tN<|sQ<|bK<|sQ<|dW [] [(0,2),(1,2),(2,2),(3,1),(4,1),(5,2)] ze5 kR<|yM I<|yM I<|pU I (iA be aY I I f oM sL)<|pK I (SQ.elemA jn aY I (za7 d) i)<|pK I (qV 0 jn aY I I I)<|pU I (SU.eqlSide ⟨yc,ys⟩ x I I)<|pN<|tN<|iP I (fun j=>?_) (fun j=>?_)
  ·rw[zg3 j] at a;exact rG<|lM I<|yD I<|lA I<|SL.nil<|bN<|tN<|rG<|lM I<|yD I<|lA I<|SL.nil<|ST.again (k+1) ⟨I,I,(by rw[a]; rfl),rfl,trivial⟩ rfl rfl oM oM
  ·rw[zg2 j] at a;exact kP<|bN<|tN<|rG<|lM I<|yD I<|lA I<|SL.nil<|ST.again (k+1) ⟨I,I,(by rw[a]; rfl),rfl,trivial⟩ rfl rfl oM oM
 ·have m:l.take k=l:=tL oM;rw[m];exact xI<|tX<|tX<|bX<|tN<|sW I<|aT I<|rE<|dR (s':=s) uR<|za8 (.inl I) results174 I ⟨I,I,I⟩
theorem nt:∀ (a b:List ak),(∀ x∈a,(a.countP fun y=>decide (y=x))≤(b.countP fun y=>decide (y=x)))→∃ r,b.Perm (a++r)
 | [],b,_=>⟨b,List.Perm.refl b⟩
 | x::a,b,h=>by
  have f:=h x (by simp);rw[List.countP_cons] at f;have g:x∈b:=by
   have i:0<b.countP fun y=>decide (y=x):=by simp at f; omega
   obtain ⟨y,c,j⟩:=List.countP_pos_iff.1 i;rw[← zg5 j];exact c
  obtain ⟨s1,s2,rfl⟩:=List.append_of_mem g;obtain ⟨r,hr⟩:=nt a (s1++s2) fun y c=>by
   have d:=h y (by simp[c]);rw[List.countP_cons,List.countP_append,List.countP_cons] at d;rw[List.countP_append];by_cases e:x=y
   ·subst e; simp at d ⊢; omega
   ·simp[e] at d ⊢; omega
  exact⟨r,List.perm_middle.trans (by simpa using hr.cons x)⟩
theorem tE {a b:List ak}(hl:a.length=b.length)(h:∀ x∈a,(a.countP fun y=>decide (y=x))=(b.countP fun y=>decide (y=x))):a.Perm b:=by
 obtain ⟨r,hr⟩:=nt a b fun x c=>Nat.le_of_eq<|h x c;have d:=hr.length_eq;rw[ze7] at d;have e:r=[]:=zf6 oM;subst e;rw[zc7] at hr;exact hr.symm
theorem kO (E:World)(g:PH)(s:Own)(v u:Value)(l m:List ak)(n:SlA encSide g v l)(H:SlA encSide g u m)(hl:l.length<1099511627776)(hm:m.length<1099511627776) :
  Ctr Tryz.prog E 115 #[v,u] g s (fun r g' s'=>r=vb (decide (lJ l=lJ m))∧g=g'∧s=s'):=by
 obtain ⟨p,c,rfl⟩:=za4 n;obtain ⟨q,d,rfl⟩:=za4 H;have a:lJ l=lJ m↔l.Perm m:=⟨fun h=>(iK l).symm.trans<|h ▸ iK m,fun h=>Al (xM l) (xM m)<|(iK l).trans<|h.trans (iK m).symm⟩;refine zb2 (args:=[.slice p l.length c,.slice q m.length d]) func115 I ntmps115 (bE I)<|rZ<|aT I<|sQ<|sW I<|lU (eN be I)<|lM I<|lU (eN be I)<|lU (nQ I I)<|tZ<|iP I (fun t=>?_) (fun t=>?_)
 ·exact rZ<|aT I<|rE<|tR<|za8 (.inl I) results115 I ⟨by have:¬ lJ l=lJ m:=fun e=>t (by rw[(a.1 e).length_eq]); simp[this],I,I⟩
 ·refine kP<|tN<|sQ<|rZ<|aT I<|bK ?_;have w:l.length=m.length:=oM;refine oP (ι:=Nat) (fun k=>[(0,.slice p l.length c),(1,.slice q m.length d),(5,vi k)]) (fun _=>g) (fun _=>s) (fun k=>k≤l.length∧∀ j (i:j<k) (hl:j<l.length),(l.countP fun y=>decide (y=l[j]))=(m.countP fun y=>decide (y=l[j]))) (fun k=>l.length - k) 0
   sB rfl rfl ⟨zf8 _,fun j i=>absurd i oM⟩ ?_
  rintro k ⟨K,b⟩;refine sQ<|sW I<|lM I<|lU (eN be I)<|yL I<|tZ<|iP I (fun D=>?_) (fun D=>?_)
  ·have F:k<l.length:=oM;have z:=za6 n oM;have A:l[((k:Nat):Int).toNat]?=some l[k]:=List.getElem?_eq_getElem F;have f:(l.countP fun y=>decide (y=l[k]))=(m.countP fun y=>decide (y=l[k]))→∀ j (i:j<k+1) (hl:j<l.length),(l.countP fun y=>decide (y=l[j]))=(m.countP fun y=>decide (y=l[j])):=fun h j i hl=>by
    by_cases e:j=k
    ·subst e; exact h
    ·exact b j oM hl
   have B:(l.countP fun y=>decide (y=l[k]))≠(m.countP fun y=>decide (y=l[k]))→¬ lJ l=lJ m:=fun h e=>h<|(a.1 e).countP_eq _;generalize l[k]=x at *;obtain ⟨xc,xs⟩:=x;refine kP<|tN<|sQ<|bK<|sQ<|dW [] [(0,2),(1,2),(2,2),(3,2),(4,1),(6,2),(7,2),(8,2),(9,2),(10,1),(5,0),(11,0),(12,2)] ze5 kR<|yM I<|yM I<|yM I<|pU I (iA be aY I I z oM sL)<|pK I (SQ.elemA jn aY I (za7 n) A)<|yM I<|yM I<|yM I<|pU I (iA be aY I I z oM sL)<|pK I (SQ.elemA jn aY I (za7 n) A)<|SP.o I (SO.call call174 I<|rH E g _ _ l ⟨xc,xs⟩ n hl) dC (.inr iR) ?_;rintro _ _ _ ⟨rfl,rfl,rfl⟩;refine SP.o I (SO.call call174 I<|rH E g _ _ m ⟨xc,xs⟩ H hm) dC (.inr iR) ?_;rintro _ _ _ ⟨rfl,rfl,rfl⟩;refine pU I (nQ I I)<|pN<|tN<|iP I (fun hd=>?_) (fun hd=>?_)
   ·have G:=B oM;exact rZ<|aT I<|rE<|bR<|tR<|tR<|bR<|tR<|za8 (.inl I) results115 I ⟨by simp[G],I,I⟩
   ·exact kP<|bN<|tN<|rG<|lM I<|yD I<|lA I<|SL.nil<|ST.again (k+1) sB I I ⟨oM,f oM⟩ oM
  ·have C:lJ l=lJ m:=a.2 (tE w fun x J=>by
    obtain ⟨j,i,rfl⟩:=zc8 J;exact b j oM i)
   exact xI<|tX<|tX<|bX<|tN<|rZ<|aT I<|rE<|za8 (.inl I) results115 I ⟨by simp[C],I,I⟩
end Go.Proofs.YtbbppeihhkhkcaaGreatDoor
