/- Ed11 Ed12 Ed13 Ed14 Ed15 SyRm Ed16 -/
import Derived.Test.YtmmghffoakhheaaGreatDoorAt10
import Derived.Test.YtmmghffoakhheaaGreatDoorAt05
import Derived.Test.YtmmghffoakhheaaGreatDoorAt08
import Derived.Test.YtmmghffoakhheaaGreatDoorAt03
set_option linter.unusedSimpArgs false
set_option linter.unusedVariables false
namespace Go.Proofs.YtmmghffoakhheaaGreatDoor
open _root_.Go.Proofs.Tryz _root_.Go.Proofs.YtmmghffoakhheaaGreatDoor.Tryz
open Go Go.Sy Go.Pl Go.Proofs
set_option maxRecDepth 100000
set_option maxHeartbeats 2000000
theorem sort_twice (l:List Tm):sortBy Prod.fst (sortBy Prod.fst l)=sortBy Prod.fst l:=(eq_sortBy (sortBy_srt l) (Stab.refl _)).symm
def tsAt (ts:Ts)(ids:List Int):Ts:=ts.map fun t=>if t.1∈ids then (t.1,t.2.1,sortBy Prod.fst t.2.2) else t
theorem tsAt_nil (ts:Ts):tsAt ts []=ts:=by simp[tsAt]
theorem tsAt_find {ts:Ts}{ids:List Int}{k:Int}(h:(tsAt ts ids).find? (fun t=>decide (t.1=k))=none):∀ t∈ts,t.1≠k:=fun t ht e=>by
 have h1:=List.find?_eq_none.1 h _ (List.mem_map.2 ⟨t,ht,rfl⟩);apply h1;split <;> exact decide_eq_true e
theorem tsAt_none {ts:Ts}{ids:List Int}{k:Int}(h:∀ t∈ts,t.1≠k):tsAt ts (ids++[k])=tsAt ts ids:=by
 unfold tsAt;apply List.map_congr_left;intro t ht;have hne:=h t ht;by_cases h1:t.1∈ids
 ·rw[if_pos h1,if_pos (by simp[h1])]
 ·rw[if_neg h1,if_neg (by simp[h1,hne])]
theorem tsAt_get {ts:Ts}{ids:List Int}{m:Nat}{t':Int×Value×List Tm}(h:(tsAt ts ids)[m]?=some t'):∃ t,ts[m]?=some t∧t.1=t'.1∧t.2.1=t'.2.1∧sortBy Prod.fst t'.2.2=sortBy Prod.fst t.2.2:=by
 unfold tsAt at h;rw[List.getElem?_map] at h;cases ht:ts[m]? with
 | none=>rw[ht] at h; cases h
 | some t =>
  rw[ht] at h;simp only[Option.map_some,Option.some.injEq] at h;subst h;refine⟨t,I,?_,?_,?_⟩
  ·split <;> rfl
  ·split <;> rfl
  ·split
   ·exact sort_twice _
   ·rfl
theorem tsAt_some {ts:Ts}(hn:(ts.map Prod.fst).Nodup){ids:List Int}{k:Int}{m:Nat}{t':Int×Value×List Tm}(h:(tsAt ts ids)[m]?=some t')(hk:t'.1=k):(tsAt ts ids).set m (t'.1,t'.2.1,sortBy Prod.fst t'.2.2)=tsAt ts (ids++[k]):=by
 obtain ⟨t,h1,h2,h3,h4⟩:=tsAt_get h;apply List.ext_getElem?;intro n;rw[List.getElem?_set];by_cases e:m=n
 ·subst e;have hj:=(List.getElem?_eq_some_iff.1 h).1;rw[if_pos rfl,if_pos hj];unfold tsAt;rw[List.getElem?_map,h1,Option.map_some,if_pos (by simp[h2,hk]),← h4,← h2,← h3]
 ·rw[if_neg e];unfold tsAt;rw[List.getElem?_map,List.getElem?_map];cases hn2:ts[n]? with
  | none=>rfl
  | some u =>
   have hne:u.1≠k:=fun e2=>by
    have hm1:=(List.getElem?_eq_some_iff.1 h1).1;have hn1:=(List.getElem?_eq_some_iff.1 hn2).1;have h5:(ts.map Prod.fst)[m]'(by simpa using hm1)=(ts.map Prod.fst)[n]'(by simpa using hn1):=by
     rw[List.getElem_map,List.getElem_map,(List.getElem?_eq_some_iff.1 h1).2,(List.getElem?_eq_some_iff.1 hn2).2,h2,hk,e2]
    exact e ((List.getElem_inj hn).1 h5)
   rw[Option.map_some,Option.map_some];by_cases h5:u.1∈ids
   ·rw[if_pos h5,if_pos (by simp[h5])]
   ·rw[if_neg h5,if_neg (by simp[h5,hne])]
theorem tsAt_ok {ts:Ts}(h:TsOk ts)(ids:List Int):TsOk (tsAt ts ids):=fun t ht=>by
 obtain ⟨u,hu,rfl⟩:=List.mem_map.1 ht;obtain ⟨h1,h2,h3⟩:=h u hu;split
 ·exact⟨by rw[sortBy_length]; exact h1,((sortBy_perm u.2.2).map Prod.fst).symm.nodup h2,h3⟩
 ·exact⟨h1,h2,h3⟩
theorem tsAt_prs (ts:Ts)(ids:List Int):prsT (tsAt ts ids)=prsT ts:=by
 unfold prsT tsAt;rw[List.map_map];apply List.map_congr_left;intro t _;simp only[Function.comp];split <;> rfl
theorem all2_mapM {α β γ:Type}{R:α→γ→Prop}{S:β→γ→Prop}{f:α→β}:∀ {l:List α} {m:List γ},(∀ a c,a∈l→R a c→S (f a) c)→All2 R l m→All2 S (l.map f) m
 | [],[],_,_=>trivial
 | a::l,c::m,h,⟨h1,h2⟩=>⟨h a c (by simp) h1,all2_mapM (fun x y hx=>h x y (by simp[hx])) h2⟩
 | [],_::_,_,h=>h.elim
 | _::_,[],_,h=>h.elim
def ImS (ts:Ts)(g:PH)(c:Cl)(r:Im):Prop:=r.cell=c.id∧match ts.find? (fun t=>decide (t.1=c.id)) with
 | some t=>.slice r.sv.p r.sv.n r.sv.c=t.2.1
 | none=>SlA encTm g (.slice r.sv.p r.sv.n r.sv.c) [(c.id,1)]
theorem ImS.mono {ts:Ts}{g g':PH}(hl:Le g g'){c:Cl}{r:Im}(h:ImS ts g c r):ImS ts g' c r:=by
 refine⟨h.1,?_⟩;have h2:=h.2
 revert h2
 cases ts.find? (fun t=>decide (t.1=c.id)) with
 | some t=>exact id
 | none=>exact fun h2=>SlA.mono h2 hl
theorem ImS.done {ts:Ts}{g:PH}{F:List Cl}(hk:∀ t∈tsAt ts (F.map Cl.id),SlA encTm g t.2.1 t.2.2){c:Cl}(hc:c∈F){r:Im}(h:ImS ts g c r):ImR g (c.id,imgT ts c.id) r:=by
 refine⟨h.1,?_⟩;have h2:=h.2;unfold imgT;dsimp only
 revert h2
 cases hf:ts.find? (fun t=>decide (t.1=c.id)) with
 | some t =>
  intro h2;have h3:=List.mem_of_find?_eq_some hf;have h4:t.1=c.id:=by simpa using List.find?_some hf
  dsimp only at h2 ⊢;rw[h2];exact hk (t.1,t.2.1,sortBy Prod.fst t.2.2) (List.mem_map.2 ⟨t,h3,by rw[if_pos (by rw[h4]; exact List.mem_map.2 ⟨c,hc,I⟩)]⟩)
 | none=>exact id
theorem tsAt_same {ts:Ts}{ids:List Int}{k:Int}{t':Int×Value×List Tm}(h:(tsAt ts ids).find? (fun t=>decide (t.1=k))=some t'):∃ t,ts.find? (fun t=>decide (t.1=k))=some t∧t.2.1=t'.2.1:=by
 unfold tsAt at h;rw[List.find?_map] at h;rw[Option.map_eq_some_iff] at h;obtain ⟨t,h1,h2⟩:=h;refine⟨t,?_,?_⟩
 ·rw[← h1];congr 1;funext u;simp only[Function.comp];split <;> rfl
 ·rw[← h2];split <;> rfl
theorem image_tie {ts ts2:Ts}(htn:(ts.map Prod.fst).Nodup)(hok:TsOk ts){ids:List Int}{cx:Cl}{g2:PH}{v:Value}
  (h:((tsAt ts ids).find? (fun t=>decide (t.1=cx.id))=none∧ts2=tsAt ts ids∧SlA encTm g2 v [(cx.id,1)])∨∃ (m:Nat) (t:Int×Value×List Tm),(tsAt ts ids)[m]?=some t∧t.1=cx.id∧(tsAt ts ids).find? (fun t=>decide (t.1=cx.id))=some t∧v=t.2.1∧ts2=(tsAt ts ids).set m (t.1,t.2.1,sortBy Prod.fst t.2.2)) :
  ∃ q n d,v = .slice q n d∧ts2=tsAt ts (ids++[cx.id])∧ImS ts g2 cx ⟨cx.id,⟨q,n,d⟩⟩:=by
 rcases h with ⟨h1,rfl,h3⟩ | ⟨m,t,h1,h2,h3,rfl,rfl⟩
 ·obtain ⟨p,c,rfl⟩:=SlA.form h3;have hne:=tsAt_find h1;refine⟨p,_,c,I,(tsAt_none hne).symm,I,?_⟩;rw[show ts.find? (fun t=>decide (t.1=cx.id))=none from List.find?_eq_none.2 fun t ht=>by simpa using hne t ht];exact h3
 ·obtain ⟨_,_,p,n,c,hv⟩:=tsAt_ok hok ids t (List.mem_of_getElem? h1);obtain ⟨u,hu1,hu2⟩:=tsAt_same h3;refine⟨p,n,c,hv,tsAt_some htn h1 h2,I,?_⟩;rw[hu1];dsimp only;rw[hu2,hv]
theorem step_spec (E:World)(g:PH)(p0 q0:Own)(bx mb ms:Nat)(u v:Value)(bk:Bool)(A D:List Cl)(ts:Ts)(hts:TsOk ts)(htn:(ts.map Prod.fst).Nodup)(hu:Cells g u A)(hv:Cells g v D)(hA:A.length<1099511627776)(hD:D.length<1099511627776)(i j:Nat)(hi0:p0[i]?=some (edP bx u mb ms bk))(hj0:p0[j]?=some (mp ms (prsT ts))) :
  Ctr Tryz.prog E 76 #[pp bx 0,.agg #[v]] g (p0++(rowsT ts++q0)) (fun r g' s'=>s'=p0++q0∧Le g g'∧∃ iv,r = .agg #[iv,vb bk]∧Ims g' iv ((if bk then D else A).map fun c=>(c.id,imgT ts c.id))):=by
 have hi:(p0++(rowsT ts++q0))[i]?=some (edP bx u mb ms bk):=by rw[List.getElem?_append_left (List.getElem?_eq_some_iff.1 hi0).1]; exact hi0
 obtain ⟨pu,cu,rfl⟩:=hu.form;obtain ⟨pv,cv,rfl⟩:=hv.form;refine Ctr.of (args:=[pp bx 0,.agg #[.slice pv D.length cv]]) func76 I ntmps76 (bE I) ?_;refine rZ (bW (bO I) fun b2=>?_);refine bW (bO I) fun b3=>?_;refine bW (aL zeroValue89) fun b4=>?_;refine tZ (rZ (lK (qL isAgg122 I (cO 2 I I)) (lU (nC I) (lU (fA uT150 I zT29 I) (lK (SQ.loadOne iT29 zT29 I (cO (v:=.slice pu A.length cu) (i+3) hi I)) (bW (aL zeroValue29) fun b5=>?_))))));refine oZ (sK 0 zT29 I I I I I sB) ?_;refine tZ ?_;refine SC.cut (ι:=Unit) (fun _=>[(2,pp b2 0),(3,pp b3 0),(4,pp b4 0),(5,pp b5 0)]) (fun _=>g) (fun _=>pt b5 (.cells #[if bk then .slice pv D.length cv else .slice pu A.length cu] 29 (0,0))::pt b4 (.cells #[.slice none 0 0,vb false] 89 (0,0))::pt b3 (.cells #[.slice pv D.length cv] 29 (0,0))::pt b2 (.cells #[pp bx 0] 122 (0,0))::(p0++(rowsT ts++q0))) (fun _=>True) ?_ ?_
 ·refine rZ (lK (qL isAgg122 I (cO 3 I I)) (lU (nC I) (lU (fA uT150 I zT4 I) (lK (qL (v:=vb bk) isAgg4 I (cO (i+4) hi I)) (tZ ?_)))));cases bk with
  | true =>
   refine SC.condT I (rG (lK (qV 2 iT29 zT29 I I I) (oZ (sK 0 zT29 I I I I I sB) ?_)));refine nL ?_;exact ST.mid () sB I I trivial
  | false =>
   refine cF I (kP ?_);exact ST.mid () sB I I trivial
 rintro _ -;try dsimp only
 have hF:Cells g (if bk then .slice pv D.length cv else .slice pu A.length cu) (if bk then D else A):=by cases bk <;> assumption
 have hFl:(if bk then D else A).length<1099511627776:=by cases bk <;> assumption
 generalize (if bk=true then D else A)=F at *;generalize (if bk=true then Value.slice pv D.length cv else Value.slice pu A.length cu)=w at *;obtain ⟨rs,hrs,hall⟩:=hF;have hrl:=hall.length;obtain ⟨p,c,rfl⟩:=SlA.form hrs;refine rZ (lK (qL isAgg122 I (cO 3 I I)) (lU (nC I) (lU (fA uT150 I zT4 I) (lK (qL (v:=vb bk) isAgg4 I (cO (i+4) hi I)) (lU (SU.build I (buildB89 _)) (bW (aL zeroValue89) fun b6=>?_))))));refine oZ (sK 0 zT89 I I I I I sB) ?_;refine tZ (rZ (lU (SU.mkFunc I) (aT I (sQ (rZ (lU (fA uT29 I zT27 I) (lK (qL iT27 I (cO 1 I I)) (lU (eN uT27 I) (lM I (tZ (bK ?_)))))))))));clear hi;refine SC.nilRow 162 2 ?_;refine oP (ι:=Nat×PH×Value×List Im) (fun i=>[(2,pp b2 0),(4,pp b4 0),(6,pp b6 0),(7,.func (.func 111) #[] #[pp b2 0]),(26,.slice p rs.length c),(27,vi rs.length),(28,vi i.1)]) (fun i=>i.2.1)
  (fun i=>rowA encIm 162 i.2.2.1 i.2.2.2::pt b6 (.cells #[i.2.2.1,vb bk] 89 (0,0))::pt b5 (.cells #[.slice p rs.length c] 29 (0,0))::pt b4 (.cells #[.slice none 0 0,vb false] 89 (0,0))::pt b3 (.cells #[.slice pv D.length cv] 29 (0,0))::pt b2 (.cells #[pp bx 0] 122 (0,0))::(p0++(rowsT (tsAt ts ((F.take i.1).map Cl.id))++q0)))
  (fun i=>i.1≤rs.length∧Le g i.2.1∧All2 (ImS ts i.2.1) (F.take i.1) i.2.2.2) (fun i=>rs.length - i.1) (0,g,.slice none 0 0,[])
  sB rfl (by dsimp only; rw[List.take_zero,List.map_nil,tsAt_nil]; rfl) ⟨Nat.zero_le _,Le.refl g,by simp[All2]⟩ ?_
 rintro ⟨k,g1,ov,acc⟩ ⟨hk,hle,hacc⟩;dsimp only at hk hle hacc ⊢;have hal:=hacc.length;rw[List.length_take] at hal;refine rZ (yL I (tZ (sQ ?_)));refine iP I (fun hlt=>?_) (fun hlt=>?_)
 ·have hkr:k<rs.length:=oM;have hkl:k<F.length:=oM;have hb1:=SlA.based hrs oM;have hcr:=hall.get (gE hkl) (gE hkr);have hgx:rs[((k:Nat):Int).toNat]?=some rs[k]:=gE hkr;have htk:F.take (k+1)=F.take k++[F[k]]:=tS hkl;generalize rs[k]=x at *;generalize F[k]=cx at *;obtain ⟨xi,xd,xp,xn,xc⟩:=x;obtain ⟨e1,e2,-⟩:=hcr;dsimp only at e1 e2;subst e1 e2;refine kP (tN (sQ (bK (rZ (lU (iA uT27 zT54 I I hb1 oM (show (k:Int)<((rs.length:Nat):Int) by omega)) ?_)))));refine lK (eA iT54 zT54 I (SlA.rd (SlA.mono hrs hle)) hgx) (bW (aL zeroValue54) fun b9=>?_);refine oZ (sK 0 zT54 I I I I I sB) ?_;refine tZ ?_;refine SC.drawT 3 [11,14] [(0,2),(1,2),(2,1),(3,2),(4,1),(5,2),(6,2),(7,1),(8,0),(9,2),(10,0),(11,0),(12,2),(13,2),(14,0)] Tryz.mixed kR ?_;refine pU rfl (fA underlying89 rfl sizeOf87 rfl) (pU rfl (fA underlying87 rfl sizeOf85 rfl) (pK rfl (qL isAgg85 rfl (cO 2 rfl rfl)) (pU rfl (fA uT54 rfl zT3 rfl) (pK rfl (qL iT3 rfl (cO 0 rfl rfl)) (yM rfl (pU rfl (fA uT54 rfl zT3 rfl) (pK rfl (qL iT3 rfl (cO 0 rfl rfl)) (SP.o rfl (SO.callV rfl rfl (image_spec E g1 (pt b9 (.cells #[vi cx.id,vi cx.dim,.slice xp xn xc] 54 (0,0))::rowA encIm 162 ov acc::pt b6 (.cells #[ov,vb bk] 89 (0,0))::pt b5 (.cells #[.slice p rs.length c] 29 (0,0))::pt b4 (.cells #[.slice none 0 0,vb false] 89 (0,0))::pt b3 (.cells #[.slice pv D.length cv] 29 (0,0))::pt b2 (.cells #[pp bx 0] 122 (0,0))::p0) q0 b2 bx mb ms _ bk cx.id (tsAt ts ((F.take k).map Cl.id)) (tsAt_ok hts _) (i+7) (j+7) 6 rfl hi0 (by rw[tsAt_prs]; exact hj0))) dC (.inr (by rintro v40 g2 _ ⟨hle2,ts2,rfl,hcase⟩; exact⟨by assumption,(by exact .cons_cons _ (.cons_cons _ (.cons_cons _ (List.nil_sublist _))))⟩)) ?_))))))));rintro v40 g2 _ ⟨hle2,ts2,rfl,hcase⟩;obtain ⟨q2,n2,d2,rfl,hts2,him2⟩:=image_tie htn hts hcase;subst hts2;refine pU rfl (SU.build rfl (build162 _ _ _ _)) (SP.o rfl (bS sty85 rfl rfl rfl (szs_mk sB) dC) dC (.inr (by rintro _ _ _ ⟨b42,rfl,rfl,rfl⟩; exact⟨by assumption,(by exact .cons _ (.cons_cons _ (.cons_cons _ (.cons_cons _ (List.nil_sublist _)))))⟩)) ?_);rintro _ _ _ ⟨b42,rfl,rfl,rfl⟩;refine SP.o I (aP (e:=encIm) 1 ⟨cx.id,⟨q2,n2,d2⟩⟩ sty85 I I I I I oM oM) dC (.inl dC) ?_;rintro ov' _ _ ⟨rfl,rfl⟩;refine SP.facts fun ⟨w0,hw0⟩=>?_;obtain ⟨q',d',rfl⟩:=rowA_form (e:=encIm) (l:=acc++[⟨cx.id,⟨q2,n2,d2⟩⟩]) (i:=1) hw0 rfl;clear hw0 w0;refine pU rfl (fA underlying89 rfl sizeOf87 rfl) (pU rfl (fA underlying87 rfl sizeOf85 rfl) (SP.on rfl (SO.store1 2 sizeOf85 rfl rfl rfl rfl (bE rfl) (by rfl)) (.inl dC) ?_));rintro _ _ _ ⟨rfl,rfl⟩;refine pN (bN (tN (rG (yD I (lM I (nL (dR (.cons _ (.refl _)) ?_)))))));exact ST.again (k+1,g2,_,acc++[⟨cx.id,⟨q2,n2,d2⟩⟩]) sB rfl (by dsimp only; rw[htk,List.map_append]; rfl) ⟨by dsimp only; omega,hle.trans hle2,by
   dsimp only;rw[htk];exact (hacc.mono fun _ _=>ImS.mono hle2).append ⟨him2,trivial⟩⟩ (by dsimp only; omega)
 ·have hkk:F.take k=F:=tL oM;rw[hkk] at hacc ⊢;refine xI (tX (tX (bX (tN (sQ (fS fun g2 hle2 hs2=>?_))))));obtain ⟨q2,d2,rfl⟩:=Sl.form hs2;refine SC.freezeRowsT (p:=pt b6 (.cells #[.slice q2 acc.length d2,vb bk] 89 (0,0))::pt b5 (.cells #[.slice p rs.length c] 29 (0,0))::pt b4 (.cells #[.slice none 0 0,vb false] 89 (0,0))::pt b3 (.cells #[.slice pv D.length cv] 29 (0,0))::pt b2 (.cells #[pp bx 0] 122 (0,0))::p0) (q:=q0) fun g3 hle3 hfr=>?_;refine rG (lK (qV 0 isAgg89 zT89 I I I) (oZ (sK 2 zT89 I I I I I sB) ?_));refine tZ (rE ?_);have hdone:All2 (ImR g3) (F.map fun c=>(c.id,imgT ts c.id)) acc:=all2_mapM (fun c r hc hr=>ImS.done hfr hc (hr.mono (hle2.trans hle3))) hacc;exact ST.retCD 2 (p0++q0) (.inl I) results76 I isAgg89 zT89 I I uR ⟨I,hle.trans (hle2.trans hle3),_,I,acc,SlA.mono hs2 hle3,hdone⟩
def idxC (p:Side→Bool)(l:List Side):Int:=if l.any p then ((l.findIdx p:Nat):Int) else -1
theorem idx_here {p:Side→Bool}{l:List Side}{k:Nat}(hk:k<l.length)(h0:∀ j (hj:j<k),p (l[j]'oM)=false)(h1:p l[k]=true):idxC p l=k:=by
 unfold idxC;rw[if_pos (List.any_eq_true.2 ⟨_,gM hk,h1⟩),List.findIdx_eq hk |>.2 ⟨h1,fun j hj=>by rw[h0 j hj]⟩]
theorem idx_none {p:Side→Bool}{l:List Side}(h0:∀ j (hj:j<l.length),p l[j]=false):idxC p l = -1:=by
 unfold idxC;rw[if_neg];intro h;obtain ⟨x,hx,h1⟩:=List.any_eq_true.1 h;obtain ⟨j,hj,rfl⟩:=List.getElem_of_mem hx;rw[h0 j hj] at h1;cases h1
theorem indexSide (E:World)(g:PH)(s:Own)(v fv:Value)(l:List Side)(p:Side→Bool)(hv:SlA encSide g v l)(hl:l.length<1099511627776)(hfv:fv.cells = #[fv])(hc:∀ x:Side,CallV Tryz.prog E fv [.agg #[vi x.cell,vi x.sign]] g s (fun r g' s'=>r=vb (p x)∧g=g'∧s=s')) :
  Ctr Tryz.prog E 136 #[v,fv] g s (fun r g' s'=>r=vi (idxC p l)∧g=g'∧s=s'):=by
 obtain ⟨q,c,rfl⟩:=SlA.form hv;refine Ctr.of (args:=[.slice q l.length c,fv]) func136 I ntmps136 (bE I) ?_;refine rZ (aT I (sQ (sW I (lU (eN uT37 I) (lM I (tZ (bK ?_)))))));refine oP (ι:=Nat) (fun k=>[(0,.slice q l.length c),(1,fv),(7,vi l.length),(8,vi k)]) (fun _=>g) (fun _=>s)
  (fun k=>k≤l.length∧∀ j (hj:j<k) (hl:j<l.length),p l[j]=false) (fun k=>l.length - k) 0 sB rfl rfl ⟨Nat.zero_le _,fun j hj=>absurd hj oM⟩ ?_
 rintro k ⟨hk,hno⟩;try dsimp only at hk hno ⊢
 refine rZ (yL I (tZ (sQ ?_)));refine iP I (fun hlt=>?_) (fun hlt=>?_)
 ·have hkl:k<l.length:=oM;have hb1:=SlA.based hv oM;have hgk:l[((k:Nat):Int).toNat]?=some l[k]:=gE hkl;have hhere:=fun h=>idx_here (p:=p) hkl (fun j hj=>hno j hj oM) h;have hsucc:p l[k]=false→∀ j (hj:j<k+1) (hl:j<l.length),p l[j]=false:=fun h j hj hl=>by
   by_cases e:j=k
   ·subst e; exact h
   ·exact hno j oM hl
  generalize l[k]=x at *;refine kP (tN (sQ (bK (sW I (aT I (sW I (lM I (lM I (lU (iA uT37 zT56 I I hb1 oM sL) (lK (eA iT56 zT56 I (SlA.rd hv) hgk) (lW (SO.callV I I (hc x)) ?_)))))))))));rintro _ _ _ ⟨rfl,rfl,rfl⟩;refine tZ ?_;refine iQ I (fun hp=>?_) (fun hp=>?_)
  ·refine sW I (aT I (rE (bR (tR (tR (bR (tR ?_)))))));exact ST.ret1 (.inl I) results136 I ⟨by rw[hhere hp],I,I⟩
  ·refine kP (bN (tN (rG (yD I (lM I (nL ?_))))));exact ST.again (k+1) sB I I ⟨oM,hsucc hp⟩ oM
 ·refine xI (tX (tX (bX (tN (rZ (aT I (rE ?_)))))));exact ST.ret1 (.inl I) results136 I ⟨by rw[idx_none fun j hj=>hno j oM hj],I,I⟩
abbrev edV (e:Ed)(sv pv:Value):Array Value:=#[vi e.kind,vi e.cell,vi e.dim,vi e.new,vi e.other,sv,pv]
theorem isCell_c (E:World)(g:PH)(s:Own)(b3:Nat)(e:Ed)(sv pv:Value)(x:Side)(q:Nat)(hq:s[q]?=some (pt b3 (.cells (edV e sv pv) 39 (0,0)))) :
  CallV Tryz.prog E (.func (.func 142) #[] #[pp b3 0]) [.agg #[vi x.cell,vi x.sign]] g s (fun r g' s'=>r=vb (decide (x.cell=e.cell))∧g=g'∧s=s'):=by
 refine CallV.mk (args:=[_]) (cap:=[pp b3 0]) call142 ?_;refine Ctr.of (args:=[.agg #[vi x.cell,vi x.sign],pp b3 0]) func142 I ntmps142 (bE I) ?_;refine rZ (bW (bO I) fun b2=>?_);refine aT I (rZ (lU (fA uT56 I zT3 I) (lK (qL (v:=vi x.cell) iT3 I (cO 0 I I)) (lU (fA uT39 I zT3 I) (lK (qL (v:=vi e.cell) iT3 I (cO (q+1) hq I)) (yE I (aT I (rE (dR (s':=s) uR ?_)))))))));exact ST.ret1 (.inl I) results142 I ⟨I,I,I⟩
def colSides (A:List Cl)(e:Ed):List Side:=((findT A e.other).getD zeroC).sides
def colSign (l:List Side)(i:Nat):Int:=(l[i]?.map Side.sign).getD 0
def colChain (A:List Cl)(e:Ed):List Tm:=((colSides A e).eraseIdx ((colSides A e).findIdx fun x=>decide (x.cell=e.cell))).map fun x=>(x.cell,-colSign (colSides A e) ((colSides A e).findIdx fun x=>decide (x.cell=e.cell)) * x.sign)
def colCode (A:List Cl)(e:Ed):Int:=if (findT A e.cell).isSome&&(findT A e.other).isSome then (if aboveC A e.cell=[e.other]∧¬ 0<(aboveC A e.other).length then 0 else 32) else 30
theorem erase_succ {l:List Side}{i k:Nat}(hk:k<l.length)(h:i≠k):(l.take (k+1)).eraseIdx i=(l.take k).eraseIdx i++[l[k]]:=by
 rw[tS hk];by_cases h2:i<k
 ·rw[List.eraseIdx_append_of_lt_length (by rw[List.length_take]; omega)]
 ·rw[List.eraseIdx_of_length_le (l:=l.take k) (by rw[List.length_take]; omega),List.eraseIdx_of_length_le (by rw[List.length_append,List.length_take,List.length_singleton]; omega)]
theorem erase_same {l:List Side}{k:Nat}(hk:k<l.length):(l.take (k+1)).eraseIdx k=(l.take k).eraseIdx k:=by
 rw[tS hk,List.eraseIdx_of_length_le (l:=l.take k) (by rw[List.length_take]; omega),List.eraseIdx_append_of_length_le (by rw[List.length_take]; omega)];rw[List.length_take,show k - min k l.length=0 by omega];simp
theorem collapse_spec (E:World)(g:PH)(s:Own)(bx mb ms:Nat)(u v:Value)(e:Ed)(A:List Cl)(rs:List Rc)(hu:Cells g u A)(hf:Fits A)(hall:All2 (CellR g) A rs)(he:EdR g v e)
  (hsg:∀ x∈colSides A e,x.sign=1∨x.sign = -1) (hlen:(colSides A e).length≤64) (hmem:aboveC A e.cell=[e.other]→(colSides A e).any (fun x=>decide (x.cell=e.cell))=true) :
  Ctr Tryz.prog E 109 #[pp bx 0,v] g (edP bx u mb ms false::mp mb (rs.map rcPair)::mp ms []::s) (fun r g' s'=>Le g g'∧r=vi (colCode A e) ∧
   (if colCode A e=0 then ∃ v1 p n c,v1 = .slice p n c∧s'=edP bx u mb ms false::mp mb ((delR (delR rs e.cell) e.other).map rcPair)::mp ms (prsT [(e.cell,v1,colChain A e),(e.other,.slice none 0 0,[])])::(rowsT [(e.cell,v1,colChain A e),(e.other,.slice none 0 0,[])]++s) else ∃ h,s'=h++s)):=by
 obtain ⟨sv,pv,rfl,hsv,hpv⟩:=he;obtain ⟨p,c,rfl⟩:=hu.form;have hal:(aboveC A e.cell).length<1099511627776:=Nat.lt_of_le_of_lt (by unfold aboveC; rw[List.length_map]; exact List.length_filter_le _ _) (tabC_fits hf).1;have hsvf:=SlA.form hsv;have hpvf:=SlA.form hpv;obtain ⟨sp,sc,rfl⟩:=hsvf;obtain ⟨qp,qc,rfl⟩:=hpvf;refine Ctr.of (args:=[pp bx 0,.agg #[vi e.kind,vi e.cell,vi e.dim,vi e.new,vi e.other,.slice sp e.sides.length sc,.slice qp e.pairs.length qc]]) func109 I ntmps109 (bE I) ?_;cases hc:(findT A e.cell).isSome with
 | false =>
  have hcode:colCode A e=30:=by unfold colCode; rw[hc]; rfl
  rw[hcode];refine rZ (bW (bO I) fun b3=>?_);refine aT I (sQ (sW I (lU (fA uT39 I zT3 I) (lK (qL (v:=vi e.cell) iT3 I (cO 0 I I)) (lW (SO.call call135 I (has_editor E g _ bx mb ms _ false e.cell _ (fun _ _ h=>h.1) A rs hall 1 2 I I)) ?_)))));rintro _ _ _ ⟨rfl,rfl,rfl⟩;refine lU (SU.eq (v':=vb true) (SU.not rfl) (congrArg vb (by rw[hc]; rfl))) ?_;refine lM I (yA I (yA I (yA I (yA I (yA I (yP I (tZ (SC.condT I (rZ (aT I (rE (tR ?_))))))))))));exact ST.ret1 (.inl I) results109 I ⟨Le.refl _,I,by rw[if_neg dC]; exact⟨[_,_,_,_],I⟩⟩
 | true =>
  cases ho:(findT A e.other).isSome with
  | false =>
   have hcode:colCode A e=30:=by unfold colCode; rw[hc,ho]; rfl
   rw[hcode];refine rZ (bW (bO I) fun b3=>?_);refine aT I (sQ (sW I (lU (fA uT39 I zT3 I) (lK (qL (v:=vi e.cell) iT3 I (cO 0 I I)) (lW (SO.call call135 I (has_editor E g _ bx mb ms _ false e.cell _ (fun _ _ h=>h.1) A rs hall 1 2 I I)) ?_)))));rintro _ _ _ ⟨rfl,rfl,rfl⟩;refine lU (SU.eq (v':=vb false) (SU.not rfl) (congrArg vb (by rw[hc]; rfl))) ?_;refine lM I (yC I (lY I I I (fA uT39 I zT3 I) (SL.gq (gT I I I dC) (qL (v:=vi e.other) iT3 I (cO 0 I I)) dC (SL.go (gT I I I dC) (SO.call call135 I (has_editor E g _ bx mb ms _ false e.other _ (fun _ _ h=>h.1) A rs hall 1 2 I I)) dC ?_))));rintro _ _ _ ⟨rfl,rfl,rfl⟩;refine lY rfl rfl rfl (SU.eq (v':=vb true) (SU.not rfl) (congrArg vb (by rw[ho]; rfl))) ?_;refine yF I (tZ (SC.condT I (rZ (aT I (rE (tR ?_))))));exact ST.ret1 (.inl I) results109 I ⟨Le.refl _,I,by rw[if_neg dC]; exact⟨[_,_,_,_],I⟩⟩
  | true =>
   refine rZ (bW (bO I) fun b3=>?_);refine aT I (sQ (sW I (lU (fA uT39 I zT3 I) (lK (qL (v:=vi e.cell) iT3 I (cO 0 I I)) (lW (SO.call call135 I (has_editor E g _ bx mb ms _ false e.cell _ (fun _ _ h=>h.1) A rs hall 1 2 I I)) ?_)))));rintro _ _ _ ⟨rfl,rfl,rfl⟩;refine lU (SU.eq (v':=vb false) (SU.not rfl) (congrArg vb (by rw[hc]; rfl))) ?_;refine lM I (yC I (lY I I I (fA uT39 I zT3 I) (SL.gq (gT I I I dC) (qL (v:=vi e.other) iT3 I (cO 0 I I)) dC (SL.go (gT I I I dC) (SO.call call135 I (has_editor E g _ bx mb ms _ false e.other _ (fun _ _ h=>h.1) A rs hall 1 2 I I)) dC ?_))));rintro _ _ _ ⟨rfl,rfl,rfl⟩;refine lY rfl rfl rfl (SU.eq (v':=vb false) (SU.not rfl) (congrArg vb (by rw[ho]; rfl))) ?_;refine yF I (tZ (cF I (kP (tN (sQ ?_)))));refine SC.cut (ι:=PH) (fun _=>[(0,pp bx 0),(3,pp b3 0),(44,vb (!decide (aboveC A e.cell=[e.other])||decide (0<(aboveC A e.other).length)))]) (fun g'=>g') (fun _=>pt b3 (.cells (edV e (.slice sp e.sides.length sc) (.slice qp e.pairs.length qc)) 39 (0,0))::edP bx (.slice p A.length c) mb ms false::mp mb (rs.map rcPair)::mp ms []::s) (fun g'=>Le g g') ?_ ?_
   ·by_cases hab:aboveC A e.cell=[e.other]
    ·refine SC.drawX [] Tryz.mixed kR ?_;refine SX.u (i:=0) I kR (mV I) dC (SX.u (i:=1) I kR (nC I) dC (SX.u (i:=2) I kR (fA uT150 I zT29 I) dC (SX.q (i:=3) I kR (SQ.loadOne iT29 zT29 I (cO (v:=.slice p A.length c) 1 I I)) dC (SX.u (i:=4) I kR (fA uT39 I zT3 I) dC (SX.q (i:=5) I kR (qL (v:=vi e.cell) iT3 I (cO 0 I I)) dC (SX.u (i:=7) I kR (fA uT39 I zT3 I) dC (SX.q (i:=8) I kR (qL (v:=vi e.other) iT3 I (cO 0 I I)) dC ?_)))))))
     repeat' (first
      | (refine SB.o (i:=6) rfl (SO.call call55 rfl (above_spec E _ _ _ A e.cell (by exact hu.mono (by assumption)) hf)) dC (.inr (by rintro v28 g1 _ ⟨rfl,hle1,ha1⟩; exact⟨by exact Le.trans (by assumption) (by assumption),(by exact .refl _)⟩)) ?_; rintro v28 g1 _ ⟨rfl,hle1,ha1⟩; first | have hleB:=hle2.trans hle1 | skip)
      | (refine SB.o (i:=6) rfl (SO.call call55 rfl (above_spec E _ _ _ A e.cell (by exact hu) hf)) dC (.inr iR) ?_; rintro v28 g1 _ ⟨rfl,hle1,ha1⟩; first | have hleB:=hle2.trans hle1 | skip)
      | (refine SB.o (i:=9) rfl (bS sty22 rfl rfl rfl (szs_mk ⟨rfl,trivial⟩) dC) dC (.inr iR) ?_; rintro _ _ _ ⟨b31,rfl,rfl,rfl⟩; refine SX.to (fun w hw=>At.litRow (e:=encInt) (l:=[e.other]) (n:=0) hw rfl rfl dC) ?_; refine SX.freezeRow fun g2 hle2 hs2=>?_; first | have hleB:=hle1.trans hle2 | skip)
      | (refine SB.o (i:=9) rfl (bS sty22 rfl rfl rfl (szs_mk ⟨rfl,trivial⟩) dC) dC (.inr iR) ?_; rintro _ _ _ ⟨b31,rfl,rfl,rfl⟩; refine SX.to (fun w hw=>At.litRow (e:=encInt) (l:=[e.other]) (n:=0) hw rfl rfl dC) ?_; refine SX.freezeRow fun g2 hle2 hs2=>?_; first | have hleB:=hle1.trans hle2 | skip)
      | (refine SB.o (i:=10) rfl (SO.call call141 rfl (equalInts E _ _ _ _ (aboveC A e.cell) [e.other] (by exact SlA.mono ha1 (by assumption)) (by exact hs2) hal)) dC (.inr iR) ?_; rintro _ _ _ ⟨rfl,rfl,rfl⟩; refine SX.u (i:=11) rfl kD (SU.eq (v':=vb false) (SU.not rfl) (congrArg vb (by rw[decide_eq_true hab]; rfl))) dC ?_; refine SX.u (i:=12) rfl kD (mV rfl) dC ?_; refine SX.gu (i:=13) rfl kD (gT rfl rfl rfl dC) (mV rfl) dC ?_; refine SX.gu (i:=14) rfl kD (gT rfl rfl rfl dC) (nC rfl) dC ?_; refine SX.gu (i:=15) rfl kD (gT rfl rfl rfl dC) (fA uT150 rfl zT29 rfl) dC ?_; refine SX.gq (i:=16) rfl kD (gT rfl rfl rfl dC) (SQ.loadOne iT29 zT29 rfl (cO (v:=.slice p A.length c) 1 rfl rfl)) dC ?_; refine SX.gu (i:=17) rfl kD (gT rfl rfl rfl dC) (fA uT39 rfl zT3 rfl) dC ?_; refine SX.gq (i:=18) rfl kD (gT rfl rfl rfl dC) (qL (v:=vi e.other) iT3 rfl (cO 0 rfl rfl)) dC ?_)
      | (refine SB.o (i:=10) rfl (SO.call call141 rfl (equalInts E _ _ _ _ (aboveC A e.cell) [e.other] (by exact ha1) (by exact SlA.mono hs2 (by assumption)) hal)) dC (.inr iR) ?_; rintro _ _ _ ⟨rfl,rfl,rfl⟩; refine SX.u (i:=11) rfl kD (SU.eq (v':=vb false) (SU.not rfl) (congrArg vb (by rw[decide_eq_true hab]; rfl))) dC ?_; refine SX.u (i:=12) rfl kD (mV rfl) dC ?_; refine SX.gu (i:=13) rfl kD (gT rfl rfl rfl dC) (mV rfl) dC ?_; refine SX.gu (i:=14) rfl kD (gT rfl rfl rfl dC) (nC rfl) dC ?_; refine SX.gu (i:=15) rfl kD (gT rfl rfl rfl dC) (fA uT150 rfl zT29 rfl) dC ?_; refine SX.gq (i:=16) rfl kD (gT rfl rfl rfl dC) (SQ.loadOne iT29 zT29 rfl (cO (v:=.slice p A.length c) 1 rfl rfl)) dC ?_; refine SX.gu (i:=17) rfl kD (gT rfl rfl rfl dC) (fA uT39 rfl zT3 rfl) dC ?_; refine SX.gq (i:=18) rfl kD (gT rfl rfl rfl dC) (qL (v:=vi e.other) iT3 rfl (cO 0 rfl rfl)) dC ?_)
      | (refine SB.go (i:=19) rfl (gT rfl rfl rfl dC) (SO.call call55 rfl (above_spec E _ _ _ A e.other (hu.mono hleB) hf)) dC (.inr (by rintro v41 g5 _ ⟨rfl,hle5,ha5⟩; exact⟨by exact Le.trans (by assumption) (by assumption),(by exact .refl _)⟩)) ?_; rintro v41 g5 _ ⟨rfl,hle5,ha5⟩; obtain ⟨q5,d5,rfl⟩:=SlA.form ha5; have hleF:=hleB.trans hle5; refine SX.gu (i:=20) rfl kD (gT rfl rfl rfl dC) (eN uT22 rfl) dC ?_; refine SX.gu (i:=21) rfl kD (gT rfl rfl rfl dC) (SU.eq (v':=vb (decide (0<(aboveC A e.other).length))) (gR rfl rfl) (congrArg vb (by simp only[gt_iff_lt,Int.natCast_pos]))) dC ?_; refine SX.u (i:=22) rfl kD (wF rfl rfl) dC ?_)
      | refine SX.br2 6 9 kD ?_ ?_
      | refine SX.br1 9 kD ?_
      | refine SX.br1 10 kD ?_
      | refine SX.br1 19 kD ?_
      | refine SX.br1 6 kD ?_
      | (refine SX.nil kD ?_; exact ST.mid _ ⟨rfl,rfl,(by rw[decide_eq_true hab]; rfl),trivial⟩ rfl rfl hleF))
    ·refine SC.drawX [] Tryz.mixed kR ?_;refine SX.u (i:=0) I kR (mV I) dC (SX.u (i:=1) I kR (nC I) dC (SX.u (i:=2) I kR (fA uT150 I zT29 I) dC (SX.q (i:=3) I kR (SQ.loadOne iT29 zT29 I (cO (v:=.slice p A.length c) 1 I I)) dC (SX.u (i:=4) I kR (fA uT39 I zT3 I) dC (SX.q (i:=5) I kR (qL (v:=vi e.cell) iT3 I (cO 0 I I)) dC (SX.u (i:=7) I kR (fA uT39 I zT3 I) dC (SX.q (i:=8) I kR (qL (v:=vi e.other) iT3 I (cO 0 I I)) dC ?_)))))))
     repeat' (first
      | (refine SB.o (i:=6) rfl (SO.call call55 rfl (above_spec E _ _ _ A e.cell (by exact hu.mono (by assumption)) hf)) dC (.inr (by rintro v28 g1 _ ⟨rfl,hle1,ha1⟩; exact⟨by exact Le.trans (by assumption) (by assumption),(by exact .refl _)⟩)) ?_; rintro v28 g1 _ ⟨rfl,hle1,ha1⟩; first | have hleB:=hle2.trans hle1 | skip)
      | (refine SB.o (i:=6) rfl (SO.call call55 rfl (above_spec E _ _ _ A e.cell (by exact hu) hf)) dC (.inr iR) ?_; rintro v28 g1 _ ⟨rfl,hle1,ha1⟩; first | have hleB:=hle2.trans hle1 | skip)
      | (refine SB.o (i:=9) rfl (bS sty22 rfl rfl rfl (szs_mk ⟨rfl,trivial⟩) dC) dC (.inr iR) ?_; rintro _ _ _ ⟨b31,rfl,rfl,rfl⟩; refine SX.to (fun w hw=>At.litRow (e:=encInt) (l:=[e.other]) (n:=0) hw rfl rfl dC) ?_; refine SX.freezeRow fun g2 hle2 hs2=>?_; first | have hleB:=hle1.trans hle2 | skip)
      | (refine SB.o (i:=9) rfl (bS sty22 rfl rfl rfl (szs_mk ⟨rfl,trivial⟩) dC) dC (.inr iR) ?_; rintro _ _ _ ⟨b31,rfl,rfl,rfl⟩; refine SX.to (fun w hw=>At.litRow (e:=encInt) (l:=[e.other]) (n:=0) hw rfl rfl dC) ?_; refine SX.freezeRow fun g2 hle2 hs2=>?_; first | have hleB:=hle1.trans hle2 | skip)
      | (refine SB.o (i:=10) rfl (SO.call call141 rfl (equalInts E _ _ _ _ (aboveC A e.cell) [e.other] (by exact SlA.mono ha1 (by assumption)) (by exact hs2) hal)) dC (.inr iR) ?_; rintro _ _ _ ⟨rfl,rfl,rfl⟩; refine SX.u (i:=11) rfl kD (SU.eq (v':=vb true) (SU.not rfl) (congrArg vb (by rw[decide_eq_false hab]; rfl))) dC ?_; refine SX.u (i:=12) rfl kD (mV rfl) dC ?_; refine SX.off (i:=13) rfl kD (gZ rfl rfl rfl dC) dC ?_; refine SX.off (i:=14) rfl kD (gZ rfl rfl rfl dC) dC ?_; refine SX.off (i:=15) rfl kD (gZ rfl rfl rfl dC) dC ?_; refine SX.off (i:=16) rfl kD (gZ rfl rfl rfl dC) dC ?_; refine SX.off (i:=17) rfl kD (gZ rfl rfl rfl dC) dC ?_; refine SX.off (i:=18) rfl kD (gZ rfl rfl rfl dC) dC ?_)
      | (refine SB.o (i:=10) rfl (SO.call call141 rfl (equalInts E _ _ _ _ (aboveC A e.cell) [e.other] (by exact ha1) (by exact SlA.mono hs2 (by assumption)) hal)) dC (.inr iR) ?_; rintro _ _ _ ⟨rfl,rfl,rfl⟩; refine SX.u (i:=11) rfl kD (SU.eq (v':=vb true) (SU.not rfl) (congrArg vb (by rw[decide_eq_false hab]; rfl))) dC ?_; refine SX.u (i:=12) rfl kD (mV rfl) dC ?_; refine SX.off (i:=13) rfl kD (gZ rfl rfl rfl dC) dC ?_; refine SX.off (i:=14) rfl kD (gZ rfl rfl rfl dC) dC ?_; refine SX.off (i:=15) rfl kD (gZ rfl rfl rfl dC) dC ?_; refine SX.off (i:=16) rfl kD (gZ rfl rfl rfl dC) dC ?_; refine SX.off (i:=17) rfl kD (gZ rfl rfl rfl dC) dC ?_; refine SX.off (i:=18) rfl kD (gZ rfl rfl rfl dC) dC ?_)
      | (refine SB.offo (i:=19) rfl (gZ rfl rfl rfl dC) dC ⟨by assumption,(by exact .refl _)⟩ ?_; refine SX.off (i:=20) rfl kD (gZ rfl rfl rfl dC) dC ?_; refine SX.off (i:=21) rfl kD (gZ rfl rfl rfl dC) dC ?_; refine SX.u (i:=22) rfl kD (wT rfl rfl) dC ?_)
      | refine SX.br2 6 9 kD ?_ ?_
      | refine SX.br1 9 kD ?_
      | refine SX.br1 10 kD ?_
      | refine SX.br1 19 kD ?_
      | refine SX.br1 6 kD ?_
      | (refine SX.nil kD ?_; exact ST.mid _ ⟨rfl,rfl,(by rw[decide_eq_false hab]; rfl),trivial⟩ rfl rfl hleB))
   rintro g1 hle1;try dsimp only at hle1 ⊢
   refine iQ I (fun hcond=>?_) (fun hcond=>?_)
   ·have hcode:colCode A e=32:=by
     unfold colCode;rw[hc,ho,Bool.and_true,if_pos rfl,if_neg];rintro ⟨h1,h2⟩;rw[decide_eq_true h1,decide_eq_false h2] at hcond;cases hcond
    rw[hcode];refine rZ (aT I (rE (tR ?_)));exact ST.ret1 (.inl I) results109 I ⟨hle1,I,by rw[if_neg dC]; exact⟨[_,_,_,_],I⟩⟩
   ·rw[Bool.or_eq_false_iff,Bool.not_eq_false',decide_eq_true_iff,decide_eq_false_iff_not] at hcond;obtain ⟨hab,hno⟩:=hcond;have hcode:colCode A e=0:=by
     unfold colCode;rw[hc,ho,Bool.and_true,if_pos rfl,if_pos ⟨hab,hno⟩]
    have hany:=hmem hab;have hne:¬ e.other=e.cell:=fun h=>hno (by rw[h,hab]; simp);rw[hcode];have hall1:=hall.mono fun _ _=>CellR.mono hle1
    rcases all2_findG (fun _ _ h=>h.1) hall1 e.other with ⟨h1,_⟩ | ⟨cy,ry,h1,h2,h3⟩
    ·unfold findT at ho;rw[h1] at ho;cases ho
    have hcs:colSides A e=cy.sides:=by unfold colSides findT; rw[h1]; rfl
    have hch:colChain A e=(cy.sides.eraseIdx (cy.sides.findIdx fun x=>decide (x.cell=e.cell))).map fun x=>(x.cell,-colSign cy.sides (cy.sides.findIdx fun x=>decide (x.cell=e.cell)) * x.sign):=by unfold colChain; rw[hcs]
    rw[hch];rw[hcs] at hsg hlen hany;obtain ⟨yi,yd,yp,yn,yc⟩:=ry;obtain ⟨-,-,hys⟩:=h3;dsimp only at hys;have hyn:yn=cy.sides.length:=Sl.slen hys;subst hyn;have hidx:idxC (fun x=>decide (x.cell=e.cell)) cy.sides=((cy.sides.findIdx fun x=>decide (x.cell=e.cell):Nat):Int):=if_pos hany;have hil:(cy.sides.findIdx fun x=>decide (x.cell=e.cell))<cy.sides.length:=by
     obtain ⟨x,hx,hx2⟩:=List.any_eq_true.1 hany;exact List.findIdx_lt_length_of_exists ⟨x,hx,hx2⟩
    generalize hi0:(cy.sides.findIdx fun x=>decide (x.cell=e.cell))=i0 at *;have hgi:cy.sides[((i0:Nat):Int).toNat]?=some cy.sides[i0]:=gE hil;have hcsg:colSign cy.sides i0=cy.sides[i0].sign:=by unfold colSign; rw[gE hil]; rfl
    have hs1:=hsg _ (gM hil);rw[hcsg];generalize cy.sides[i0]=z at *;obtain ⟨zc,zs⟩:=z;dsimp only at hs1 hcsg ⊢;have hneg:IntKind.i64.wrap (0 - zs) = -zs:=by rcases hs1 with h | h <;> subst h <;> decide
    have hby:=SlA.based hys oM;refine kP (tN (sQ ?_));refine dW [] [(0,2),(1,2),(2,2),(3,1),(4,2),(5,1),(6,1),(7,2),(8,2)] Tryz.mixed kR ?_;refine yM rfl (pU rfl (nC rfl) (pU rfl (fA uT150 rfl zT125 rfl) (pK rfl (qL (v:=.map (some mb)) iT125 rfl (cO 1 rfl rfl)) (pU rfl (fA uT39 rfl zT3 rfl) (pK rfl (qL (v:=vi e.other) iT3 rfl (cO 0 rfl rfl)) (pK rfl (SQ.eq (v':=.agg #[vi yi,vi yd,.slice yp cy.sides.length yc]) (SQ.lookup mty125 rfl rfl (MapAt.own 2 rfl)) (by rw[h2]; rfl)) ?_))))));refine pU I (SU.field uT54 I iT37 I I) (pU I (aS I) (pN (tN (sW I (lU (SU.mkFunc I) (lW (SO.call call136 I (indexSide E g1 _ _ _ cy.sides (fun x=>decide (x.cell=e.cell)) hys oM I (fun x=>isCell_c E g1 _ b3 e _ _ x 0 I))) ?_))))));rintro _ _ _ ⟨rfl,rfl,rfl⟩;rw[hidx];refine aT I (rZ (aT I (sQ (sW I (lU (eN uT37 I) (lM I (tZ (bK (SC.nilRow 156 3 ?_)))))))));refine oP (ι:=Nat×PH×Value) (fun i=>[(0,pp bx 0),(3,pp b3 0),(5,.slice yp cy.sides.length yc),(6,vi i0),(7,i.2.2),(56,.slice yp cy.sides.length yc),(57,vi cy.sides.length),(58,vi i.1)]) (fun i=>i.2.1)
     (fun i=>rowA encTm 156 i.2.2 (((cy.sides.take i.1).eraseIdx i0).map fun x=>(x.cell,-zs * x.sign))::pt b3 (.cells (edV e (.slice sp e.sides.length sc) (.slice qp e.pairs.length qc)) 39 (0,0))::edP bx (.slice p A.length c) mb ms false::mp mb (rs.map rcPair)::mp ms []::s)
     (fun i=>i.1≤cy.sides.length∧Le g1 i.2.1) (fun i=>cy.sides.length - i.1) (0,g1,.slice none 0 0) sB rfl rfl ⟨Nat.zero_le _,Le.refl _⟩ ?_
    rintro ⟨k,g2,w⟩ ⟨hk,hle2⟩;dsimp only at hk hle2 ⊢;refine rZ (yL I (tZ (sQ ?_)));refine iP I (fun hlt=>?_) (fun hlt=>?_)
    ·have hkl:k<cy.sides.length:=oM;have hys2:=SlA.mono hys hle2;have hgk:cy.sides[((k:Nat):Int).toNat]?=some cy.sides[k]:=gE hkl;have hsk:=hsg _ (gM hkl);have hes:i0≠k→((cy.sides.take (k+1)).eraseIdx i0).map (fun x=>(x.cell,-zs * x.sign))=((cy.sides.take k).eraseIdx i0).map (fun x=>(x.cell,-zs * x.sign))++[(cy.sides[k].cell,-zs * cy.sides[k].sign)]:=fun h=>by rw[erase_succ hkl h,List.map_append]; rfl
     have hee:i0=k→((cy.sides.take (k+1)).eraseIdx i0).map (fun x=>(x.cell,-zs * x.sign))=((cy.sides.take k).eraseIdx i0).map (fun x=>(x.cell,-zs * x.sign)):=fun h=>by subst h; rw[erase_same hkl]
     have hel:(((cy.sides.take k).eraseIdx i0).map (fun x=>(x.cell,-zs * x.sign))).length≤64:=by
      rw[List.length_map];have:=List.length_eraseIdx_le (cy.sides.take k) i0;rw[List.length_take] at this;omega
     generalize cy.sides[k]=y at *;obtain ⟨yc1,ys1⟩:=y;dsimp only at hsk hes;have hpr : -9223372036854775808 ≤ -zs * ys1 ∧ -zs * ys1≤9223372036854775807:=by rcases hs1 with h | h <;> rcases hsk with h' | h' <;> subst h <;> subst h' <;> decide
     refine kP (tN (sQ (bK (sW I (lU (iA uT37 zT56 I I hby oM sL) ?_)))));refine lK (eA iT56 zT56 I (SlA.rd hys2) hgk) (bW (aL zeroValue56) fun b9=>?_);refine lA I (oZ (sK 0 zT56 I I I I I sB) ?_);refine tZ (sW I (lM I (lU (nQ I I) (tZ ?_))));refine iP I (fun hki=>?_) (fun hki=>?_)
     ·have hes':=hes oM;refine dW [14] [(0,2),(1,2),(2,1),(3,2),(4,2),(5,2),(6,2),(7,1),(8,2),(9,2),(10,1),(11,2),(12,0),(13,0),(14,0),(15,2)] Tryz.mixed kR ?_;refine yM I (pU I (fA uT56 I zT3 I) (pK I (qL (v:=vi yc1) iT3 I (cO 0 I I)) (yM I (yM I (pU I (iA uT37 zT56 I I hby oM sL) ?_)))));refine pU I (fC uT56 I zT3 I hby) (pK I (aZ (e:=encSide) (o:=1) (u:=vi zs) iT3 I (SlA.rd hys2) hgi I) (pU I (SU.eq (v':=vi (-zs)) (SU.neg I) (congrArg vi hneg)) (pU I (fA uT56 I zT3 I) (pK I (qL (v:=vi ys1) iT3 I (cO 0 I I)) (pU I (SU.mul I I hpr) (SP.o I (SO.call call112 I (term_spec E g2 _ yc1 (-zs * ys1) hpr.1 oM)) dC (.inr iR) ?_))))));rintro _ g3 _ ⟨rfl,rfl,hle3⟩;refine SP.o I (bS sty151 I I I (szs_mk ⟨I,trivial⟩) dC) dC (.inr iR) ?_;rintro _ _ _ ⟨b79,rfl,rfl,rfl⟩;refine SP.o I (aP (e:=encTm) 1 (yc1,-zs * ys1) sty151 I I I I I oM oM) dC (.inl dC) ?_;rintro w' _ _ ⟨rfl,rfl⟩;refine pU I (aS I) (pN (bN (tN (rG (yD I (lM I (nL (dR (.cons _ (.refl _)) ?_))))))));exact ST.again (k+1,g3,w') sB rfl (by dsimp only; rw[hes']; rfl) ⟨by dsimp only; omega,hle2.trans hle3⟩ (by dsimp only; omega)
     ·have hee':=hee oM;refine kP (bN (tN (rG (yD I (lM I (nL (dR (.cons _ (.refl _)) ?_)))))));exact ST.again (k+1,g2,w) sB I (by dsimp only; rw[hee']) ⟨by dsimp only; omega,hle2⟩ (by dsimp only; omega)
    ·have hkk:cy.sides.take k=cy.sides:=tL oM;rw[hkk];have hput:mput (mput [] e.cell w) e.other (.slice none 0 0)=prsT [(e.cell,w,(cy.sides.eraseIdx i0).map fun x=>(x.cell,-zs * x.sign)),(e.other,.slice none 0 0,[])]:=by
      show mput [(e.cell,w)] e.other _=_;unfold mput;rw[if_neg hne];rfl
     refine xI (tX (tX (bX (tN (sQ ?_)))));refine SC.drawT 3 [] [(0,2),(1,2),(2,2),(3,1),(4,2),(5,1),(6,2),(7,2),(8,2),(9,1),(10,2),(11,1),(12,2),(13,0),(14,2),(15,0),(16,0),(17,2),(18,0)] Tryz.mixed kR ?_;refine yM rfl (pU rfl (nC rfl) (pU rfl (fA uT150 rfl sizeOf148 rfl) (pK rfl (qL (v:=.map (some ms)) isAgg148 rfl (cO 2 rfl rfl)) (pU rfl (fA uT39 rfl zT3 rfl) (pK rfl (qL (v:=vi e.cell) iT3 rfl (cO 1 rfl rfl)) (yM rfl (pU rfl (nC rfl) (pU rfl (fA uT150 rfl sizeOf148 rfl) (pK rfl (qL (v:=.map (some ms)) isAgg148 rfl (cO 2 rfl rfl)) (pU rfl (fA uT39 rfl zT3 rfl) (pK rfl (qL (v:=vi e.other) iT3 rfl (cO 1 rfl rfl)) (yM rfl (SP.o rfl (SO.mapEntry 4 mty148 rfl rfl rfl) dC (.inr (by rintro _ _ _ ⟨st1,j1,l1,rfl,rfl,rfl,hk1,hp1⟩; exact⟨by exact Le.refl _,(by exact take_set_sub _ _ _ _)⟩)) ?_)))))))))))));rintro _ _ _ ⟨st1,j1,l1,rfl,rfl,rfl,hk1,hp1⟩;refine pU rfl (xT rfl rfl) (SP.on rfl (SO.entryStore 4 rfl rfl rfl rfl hk1) (.inr (by rintro _ _ _ ⟨rfl,rfl⟩; exact⟨by exact Le.refl _,(by exact .cons_cons _ (.cons_cons _ (.cons_cons _ (List.nil_sublist _))))⟩)) ?_);rintro _ _ _ ⟨rfl,rfl⟩;rw[← hp1];refine SP.o rfl (SO.mapEntry 4 mty148 rfl rfl rfl) dC (.inr (by rintro _ _ _ ⟨st2,j2,l2,rfl,rfl,rfl,hk2,hp2⟩; exact⟨by exact Le.refl _,(by exact .cons_cons _ (.cons_cons _ (.cons_cons _ (List.nil_sublist _))))⟩)) ?_;rintro _ _ _ ⟨st2,j2,l2,rfl,rfl,rfl,hk2,hp2⟩;refine pU rfl (xT rfl rfl) (SP.on rfl (SO.entryStore 4 rfl rfl rfl rfl hk2) (.inr (by rintro _ _ _ ⟨rfl,rfl⟩; exact⟨by exact Le.refl _,(by exact .cons_cons _ (.cons_cons _ (.cons_cons _ (List.nil_sublist _))))⟩)) ?_);rintro _ _ _ ⟨rfl,rfl⟩;rw[← hp2,hput];refine pN (tN (sQ ?_));refine dW [6] [(0,2),(1,2),(2,2),(3,1),(4,2),(5,1),(6,0)] Tryz.mixed kR ?_;refine yM I (pU I (nC I) (pU I (fA uT150 I zT125 I) (pK I (qL (v:=.map (some mb)) iT125 I (cO 2 I I)) (pU I (fA uT39 I zT3 I) (pK I (qL (v:=vi e.cell) iT3 I (cO 1 I I)) (SP.on I (SO.delete 3 mty125 I I I) (.inl dC) ?_))))));rintro _ _ _ ⟨rfl,rfl⟩;refine pN (tN (sQ ?_));refine dW [6] [(0,2),(1,2),(2,2),(3,1),(4,2),(5,1),(6,0)] Tryz.mixed kR ?_;refine yM I (pU I (nC I) (pU I (fA uT150 I zT125 I) (pK I (qL (v:=.map (some mb)) iT125 I (cO 2 I I)) (pU I (fA uT39 I zT3 I) (pK I (qL (v:=vi e.other) iT3 I (cO 1 I I)) (SP.on I (SO.delete 3 mty125 I I I) (.inl dC) ?_))))));rintro _ _ _ ⟨rfl,rfl⟩;rw[mdel_rc,mdel_rc];refine pN (tN (rZ (aT rfl (rE (ST.facts fun ⟨w0,hw0⟩=>?_)))));obtain ⟨wp,wc,hwf⟩:=rowA_form (e:=encTm) (l:=(cy.sides.eraseIdx i0).map fun x=>(x.cell,-zs * x.sign)) (i:=0) hw0 rfl;clear hw0 w0;refine ST.nilRow 156 3 ?_;refine ST.to (g':=g2) (s':=edP bx (.slice p A.length c) mb ms false::mp mb ((delR (delR rs e.cell) e.other).map rcPair)::mp ms (prsT [(e.cell,w,(cy.sides.eraseIdx i0).map fun x=>(x.cell,-zs * x.sign)),(e.other,.slice none 0 0,[])])::(rowsT [(e.cell,w,(cy.sides.eraseIdx i0).map fun x=>(x.cell,-zs * x.sign)),(e.other,.slice none 0 0,[])]++s)) (fun w1 hw1=>?_) ?_
     ·have h5:=hw1.sublist (s':=rowA encTm 156 (.slice none 0 0) []::rowA encTm 156 w ((cy.sides.eraseIdx i0).map fun x=>(x.cell,-zs * x.sign))::([edP bx (.slice p A.length c) mb ms false,mp mb ((delR (delR rs e.cell) e.other).map rcPair),mp ms (prsT [(e.cell,w,(cy.sides.eraseIdx i0).map fun x=>(x.cell,-zs * x.sign)),(e.other,.slice none 0 0,[])])]++s)) (.cons_cons _ (.cons_cons _ (.cons _ (.refl _))));refine h5.perm ((List.Perm.swap _ _ _).trans ?_);have h6:∀ (x y:Ent) (L:Own),(x::y::(L++s)).Perm (L++(x::y::s)):=fun x y L=>(List.perm_append_comm (l₁:=[x,y]) (l₂:=L)).append_right s |>.trans (by simp);exact h6 _ _ _
     exact ST.ret1 (.inl I) results109 I ⟨hle1.trans hle2,I,by rw[if_pos I]; exact⟨w,wp,_,wc,hwf,I⟩⟩
set_option maxHeartbeats 4000000
theorem SU.min2 {P:Program}{N:Nat}{f:Fr}{dst:Option Tmp}{ty:TypeId}{pos:String}{af:Array Edge}{gd:Option (Nat×Bool)}{x y:Operand}{T U:TypeId}{m n:Int}(hx:ev f x=some (vi m))(hy:ev f y=some (vi n)) :
  SU P N ⟨dst,.call ⟨.builtin .min,#[x,y],#[T,U]⟩,ty,pos,af,gd⟩ f (vi (min m n)):=fun a w ha=>by
 have h:=run_min_int2 (P:=P) (w:=w) #[T,U] ty .i64 .i64 m n;have h2:(if n<m then n else m)=min m n:=by split <;> omega
 rw[h2] at h;simp[execOp,resolve,invoke,builtin,ha.ev hx,ha.ev hy,h]
theorem own_find (id:Int):∀ {B:List Cl} {rs:List Rc},All2 CellO B rs→(findT B id=none∧mget (rs.map rcPair) id=none)∨∃ (m:Nat) (c:Cl) (r:Rc),findT B id=some c∧c.id=id∧mget (rs.map rcPair) id=some (rcv r)∧CellO c r∧(ownS B rs)[m]?=some (ownC c r) ∧
  ∀ c' r',c'.id=id→r'.id=id→CellO c' r'→(ownS B rs).set m (ownC c' r')=ownS (putC B c') (putR rs r')∧All2 CellO (putC B c') (putR rs r')
 | [],[],_=>.inl ⟨rfl,rfl⟩
 | c::B,r::rs,⟨h1,h2⟩=>by
  have hm:(r::rs).map rcPair=(r.id,rcv r)::rs.map rcPair:=rfl;rw[hm,mget_cons];unfold findT;rw[List.find?_cons];by_cases e:c.id=id
  ·rw[decide_eq_true e,if_pos (by rw[h1.1,e])];refine .inr ⟨0,c,r,I,e,I,h1,I,fun c' r' e1 e2 h3=>?_⟩;have e3:putC (c::B) c'=c'::B:=by simp[putC,e,e1]
   have e4:putR (r::rs) r'=r'::rs:=by simp[putR,h1.1,e,e2]
   rw[e3,e4];exact⟨I,h3,h2⟩
  ·rw[decide_eq_false e,if_neg (by rw[h1.1]; exact fun h=>e h.symm)]
   rcases own_find id h2 with ⟨h3,h4⟩ | ⟨m,c0,r0,h3,h4,h5,h6,h7,h8⟩
   ·exact .inl ⟨h3,h4⟩
   ·refine .inr ⟨m+1,c0,r0,h3,h4,h5,h6,h7,fun c' r' e1 e2 h9=>?_⟩;have e':¬ id=c.id:=fun h=>e h.symm;have e3:putC (c::B) c'=c::putC B c':=by simp[putC,e',e1]
    have e4:putR (r::rs) r'=r::putR rs r':=by simp[putR,h1.1,e',e2]
    rw[e3,e4];obtain ⟨h10,h11⟩:=h8 c' r' e1 e2 h9;exact⟨by show ownC c r::(ownS B rs).set m _=_; rw[h10]; rfl,h1,h11⟩
 | [],_::_,h=>h.elim
 | _::_,[],h=>h.elim
def sgnS (l:List Side)(cell:Int):Int:=((l.find? fun x=>decide (x.cell=cell)).map Side.sign).getD 0
def withEd (e:Ed)(y:Cl):Cl:=⟨y.id,y.dim,y.sides++[⟨e.other,sgnS y.sides e.cell⟩]⟩
def splitAt (A:List Cl)(e:Ed)(ids:List Int):List Cl:=A.map fun y=>if y.id∈ids then withEd e y else y
theorem splitAt_put {e:Ed}{ids:List Int}{id:Int}(hid:id ∉ ids){y:Cl}:∀ {A:List Cl},(A.map Cl.id).Nodup→findT A id=some y→putC (splitAt A e ids) (withEd e y)=splitAt A e (ids++[id])
 | [],_,hy=>by cases hy
 | c::A,hn,hy=>by
  rw[List.map_cons,List.nodup_cons] at hn;unfold findT at hy;rw[List.find?_cons] at hy;have hs:∀ i,splitAt (c::A) e i=(if c.id∈i then withEd e c else c)::splitAt A e i:=fun _=>rfl;rw[hs,hs];by_cases h:c.id=id
  ·rw[decide_eq_true h] at hy;injection hy with hy
   subst hy;subst h;rw[if_neg hid,if_pos (by simp)];have e1:putC (c::splitAt A e ids) (withEd e c)=withEd e c::splitAt A e ids:=by simp[putC,withEd]
   rw[e1];congr 1;unfold splitAt;refine List.map_congr_left fun x hx=>?_;have hne:x.id≠c.id:=fun he=>hn.1 (by rw[← he]; exact List.mem_map.2 ⟨x,hx,rfl⟩);by_cases h1:x.id∈ids
   ·rw[if_pos h1,if_pos (by simp[h1])]
   ·rw[if_neg h1,if_neg (by simp[h1,hne])]
  ·rw[decide_eq_false h] at hy;have hyid:y.id=id:=by simpa using List.find?_some hy
   have ih:=splitAt_put (e:=e) hid hn.2 hy;have h1:(if c.id∈ids then withEd e c else c).id=c.id:=by split <;> rfl
   have e1:∀ (d:Cl) (L:List Cl),d.id=c.id→putC (d::L) (withEd e y)=d::putC L (withEd e y):=fun d L hd=>by
    have:¬ (withEd e y).id=d.id:=by rw[hd]; show ¬ y.id=c.id; rw[hyid]; exact fun h'=>h h'.symm
    simp[putC,this]
   rw[e1 _ _ h1,ih];congr 1;by_cases h2:c.id∈ids
   ·rw[if_pos h2,if_pos (by simp[h2])]
   ·rw[if_neg h2,if_neg (by simp[h2,h])]
theorem splitAt_find {A:List Cl}{e:Ed}{ids:List Int}{id:Int}(hid:id ∉ ids):findT (splitAt A e ids) id=findT A id:=by
 unfold findT splitAt;rw[List.find?_map];have h1:((fun c:Cl=>decide (c.id=id)) ∘ fun y=>if y.id∈ids then withEd e y else y)=fun c:Cl=>decide (c.id=id):=by
  funext c;simp only[Function.comp];split <;> rfl
 rw[h1];cases h:A.find? fun c=>decide (c.id=id) with
 | none=>rfl
 | some c =>
  have:c.id=id:=by simpa using List.find?_some h
  rw[Option.map_some,if_neg (by rw[this]; exact hid)]
def endS (l:List Side)(b:Bool):Side:=(l.find? fun x=>decide (0<x.sign) == b).getD ⟨0,0⟩
def splitCode (A:List Cl)(e:Ed):Int:=match findT A e.cell with
 | none=>30
 | some c=>if c.dim≠1 then 21 else if min e.new e.other<1∨e.new=e.other then 1 else if (findT A e.new).isSome||(findT A e.other).isSome then 54 else 0
def splitOut (A:List Cl)(e:Ed):List Cl :=
 putC (putC (putC (splitAt A e (aboveC A e.cell)) ⟨e.new,0,[]⟩) ⟨e.other,1,[⟨e.new,-1⟩,endS ((findT A e.cell).getD zeroC).sides true]⟩) ⟨e.cell,1,[endS ((findT A e.cell).getD zeroC).sides false,⟨e.new,1⟩]⟩
theorem indexRd (E:World)(g:PH)(s:Own)(q:Option Addr)(c:Nat)(fv:Value)(l:List Side)(p:Side→Bool)(hv:Rd g s (.slice q l.length c) (l.flatMap encSide.enc))(hb:0<l.length→based (.slice q l.length c)=true)(hl:l.length<1099511627776)(hfv:fv.cells = #[fv])(hc:∀ x:Side,CallV Tryz.prog E fv [.agg #[vi x.cell,vi x.sign]] g s (fun r g' s'=>r=vb (p x)∧g=g'∧s=s')) :
  Ctr Tryz.prog E 136 #[.slice q l.length c,fv] g s (fun r g' s'=>r=vi (idxC p l)∧g=g'∧s=s'):=by
 refine Ctr.of (args:=[.slice q l.length c,fv]) func136 I ntmps136 (bE I) ?_;refine rZ (aT I (sQ (sW I (lU (eN uT37 I) (lM I (tZ (bK ?_)))))));refine oP (ι:=Nat) (fun k=>[(0,.slice q l.length c),(1,fv),(7,vi l.length),(8,vi k)]) (fun _=>g) (fun _=>s)
  (fun k=>k≤l.length∧∀ j (hj:j<k) (hl:j<l.length),p l[j]=false) (fun k=>l.length - k) 0 sB rfl rfl ⟨Nat.zero_le _,fun j hj=>absurd hj oM⟩ ?_
 rintro k ⟨hk,hno⟩;try dsimp only at hk hno ⊢
 refine rZ (yL I (tZ (sQ ?_)));refine iP I (fun hlt=>?_) (fun hlt=>?_)
 ·have hkl:k<l.length:=oM;have hb1:=hb oM;have hgk:l[((k:Nat):Int).toNat]?=some l[k]:=gE hkl;have hhere:=fun h=>idx_here (p:=p) hkl (fun j hj=>hno j hj oM) h;have hsucc:p l[k]=false→∀ j (hj:j<k+1) (hl:j<l.length),p l[j]=false:=fun h j hj hl=>by
   by_cases e:j=k
   ·subst e; exact h
   ·exact hno j oM hl
  generalize l[k]=x at *;refine kP (tN (sQ (bK (sW I (aT I (sW I (lM I (lM I (lU (iA uT37 zT56 I I hb1 oM sL) (lK (eA iT56 zT56 I hv hgk) (lW (SO.callV I I (hc x)) ?_)))))))))));rintro _ _ _ ⟨rfl,rfl,rfl⟩;refine tZ ?_;refine iQ I (fun hp=>?_) (fun hp=>?_)
  ·refine sW I (aT I (rE (bR (tR (tR (bR (tR ?_)))))));exact ST.ret1 (.inl I) results136 I ⟨by rw[hhere hp],I,I⟩
  ·refine kP (bN (tN (rG (yD I (lM I (nL ?_))))));exact ST.again (k+1) sB I I ⟨oM,hsucc hp⟩ oM
 ·refine xI (tX (tX (bX (tN (rZ (aT I (rE ?_)))))));exact ST.ret1 (.inl I) results136 I ⟨by rw[idx_none fun j hj=>hno j oM hj],I,I⟩
theorem isCell_s (E:World)(g:PH)(s:Own)(b3:Nat)(e:Ed)(sv pv:Value)(x:Side)(q:Nat)(hq:s[q]?=some (pt b3 (.cells (edV e sv pv) 39 (0,0)))) :
  CallV Tryz.prog E (.func (.func 137) #[] #[pp b3 0]) [.agg #[vi x.cell,vi x.sign]] g s (fun r g' s'=>r=vb (decide (x.cell=e.cell))∧g=g'∧s=s'):=by
 refine CallV.mk (args:=[_]) (cap:=[pp b3 0]) call137 ?_;refine Ctr.of (args:=[.agg #[vi x.cell,vi x.sign],pp b3 0]) func137 I ntmps137 (bE I) ?_;refine rZ (bW (bO I) fun b2=>?_);refine aT I (rZ (lU (fA uT56 I zT3 I) (lK (qL (v:=vi x.cell) iT3 I (cO 0 I I)) (lU (fA uT39 I zT3 I) (lK (qL (v:=vi e.cell) iT3 I (cO (q+1) hq I)) (yE I (aT I (rE (dR (s':=s) uR ?_)))))))));exact ST.ret1 (.inl I) results137 I ⟨I,I,I⟩
theorem isPos_s (E:World)(g:PH)(s:Own)(x:Side) :
  CallV Tryz.prog E (.func (.func 138) #[] #[]) [.agg #[vi x.cell,vi x.sign]] g s (fun r g' s'=>r=vb (decide (0<x.sign))∧g=g'∧s=s'):=by
 refine CallV.mk (args:=[_]) (cap:=[]) call138 ?_;refine Ctr.of (args:=[.agg #[vi x.cell,vi x.sign]]) func138 I ntmps138 (bE I) ?_;refine rZ (bW (bO I) fun b1=>?_);refine aT I (rZ (lU (fA uT56 I zT3 I) (lK (qL (v:=vi x.sign) iT3 I (cO 0 I I)) (lU (gR I I) (aT I (rE (dR (s':=s) uR ?_)))))));exact ST.ret1 (.inl I) results138 I ⟨I,I,I⟩
theorem SC.freezeO {P:Program}{N:Nat}{E:World}{c:Code}{Q:Exit→Act→World→Prop}{f:Fr}{g:PH}{L s:Own}{A:List Cl}{rs:List Rc}(hO:All2 CellO A rs)
  (h:∀ g1,Le g g1→All2 (CellR g1) A rs→SC P N E c Q f g1 (L++s)):SC P N E c Q f g (L++(ownS A rs++s)):=fun a w ha hw=>by
 have h1:(L++(ownS A rs++s)).Perm (ownS A rs++(L++s)):=by
  rw[← List.append_assoc,← List.append_assoc];exact List.perm_append_comm.append_right s
 obtain ⟨g1,h2,h3,h4⟩:=Go.Proofs.YtmmghffoakhheaaGreatDoor.freezeO hO (hw.perm h1);exact h g1 h2 h4 a w ha h3
theorem rcv_inj {a b:Rc}(h:rcv a=rcv b):a=b:=by
 obtain ⟨ai,ad,ap,an,ac⟩:=a;obtain ⟨bi,bd,bp,bn,bc⟩:=b;simp[rcv] at h;obtain ⟨rfl,rfl,rfl,rfl,rfl⟩:=h;rfl
theorem Tryz.buildI54 (x:Int)(w:World):(Instr.build 54 #[(0,vi x)]).run Tryz.prog w = .ok (.agg #[vi x,vi 0,.slice none 0 0]) w:=by
 have h1:(vi x).cells = #[vi x]:=rfl;simp[Instr.build,Instr.fill,h1];rfl
theorem sgn_idx {l:List Side}{cell:Int}{i:Nat}(hi:i<l.length)(h:(l.findIdx fun x=>decide (x.cell=cell))=i):sgnS l cell=l[i].sign:=by
 unfold sgnS;have h1:l.find? (fun x=>decide (x.cell=cell))=some l[i]:=by
  obtain ⟨h2,h3⟩:=(List.findIdx_eq hi).1 h;exact List.find?_eq_some_iff_getElem.2 ⟨h2,i,hi,rfl,fun j hj=>by rw[h3 j hj]; rfl⟩
 rw[h1];rfl
theorem ends_of {l:List Side}{z0 z1:Side}(hl:l=[z0,z1])(h:(z0.sign=1∧z1.sign = -1)∨(z0.sign = -1∧z1.sign=1)):∃ (i:Nat) (zE zO:Side),i<2∧idxC (fun x=>decide (0<x.sign)) l=(i:Int)∧l[i]?=some zE∧l[1 - i]?=some zO∧endS l true=zE∧endS l false=zO:=by
 subst hl
 rcases h with ⟨h0,h1⟩ | ⟨h0,h1⟩
 ·exact⟨0,z0,z1,oM,by simp[idxC,h0,h1,List.findIdx_cons],I,I,by simp[endS,h0,h1],by simp[endS,h0,h1]⟩
 ·exact⟨1,z1,z0,oM,by simp[idxC,h0,h1,List.findIdx_cons],I,I,by simp[endS,h0,h1],by simp[endS,h0,h1]⟩
theorem split_spec (E:World)(g:PH)(s:Own)(bx mb ms:Nat)(u v:Value)(e:Ed)(A:List Cl)(rs:List Rc)(hu:Cells g u A)(hf:Fits A)(hn:(A.map Cl.id).Nodup)(hO:All2 CellO A rs)(he:EdR g v e)
  (hab:∀ id∈aboveC A e.cell,∃ y,findT A id=some y∧y.sides.any (fun x=>decide (x.cell=e.cell))=true∧y.sides.length≤64) (habn:(aboveC A e.cell).Nodup) (hself:e.cell ∉ aboveC A e.cell)
  (hedge:∀ c,findT A e.cell=some c→c.dim=1→∃ z0 z1,c.sides=[z0,z1]∧((z0.sign=1∧z1.sign = -1)∨(z0.sign = -1∧z1.sign=1))) :
  Ctr Tryz.prog E 107 #[pp bx 0,v] g (edP bx u mb ms false::mp mb (rs.map rcPair)::mp ms []::(ownS A rs++s)) (fun r g' s'=>Le g g'∧r=vi (splitCode A e) ∧
   (if splitCode A e=0 then ∃ rs' v1 p n c,v1 = .slice p n c∧All2 (CellR g') (splitOut A e) rs'∧s'=edP bx u mb ms false::mp mb (rs'.map rcPair)::mp ms (prsT [(e.cell,v1,[(e.cell,1),(e.other,1)])])::(rowsT [(e.cell,v1,[(e.cell,1),(e.other,1)])]++s) else ∃ h,s'=h++s)):=by
 obtain ⟨sv,pv,rfl,hsv,hpv⟩:=he;obtain ⟨p,c,rfl⟩:=hu.form;have hsvf:=SlA.form hsv;have hpvf:=SlA.form hpv;obtain ⟨sp,sc,rfl⟩:=hsvf;obtain ⟨qp,qc,rfl⟩:=hpvf;have hHl:(aboveC A e.cell).length<1099511627776:=Nat.lt_of_le_of_lt (by unfold aboveC; rw[List.length_map]; exact List.length_filter_le _ _) (tabC_fits hf).1;refine Ctr.of (args:=[pp bx 0,.agg #[vi e.kind,vi e.cell,vi e.dim,vi e.new,vi e.other,.slice sp e.sides.length sc,.slice qp e.pairs.length qc]]) func107 I ntmps107 (bE I) ?_
 rcases own_find e.cell hO with ⟨h1,h2⟩ | ⟨m0,c0,r0,h1,hcid,h2,hco,hrow0,-⟩
 ·have hcode:splitCode A e=30:=by unfold splitCode; rw[h1]
  rw[hcode];refine rZ (bW (bO I) fun b3=>?_);refine aT I (sQ ?_);refine dW [] [(0,2),(1,2),(2,2),(3,1),(4,2),(5,1),(6,1),(7,2),(8,2),(9,2),(10,0),(11,0),(12,2)] Tryz.mixed kR ?_;refine yM rfl (pU rfl (nC rfl) (pU rfl (fA uT150 rfl zT125 rfl) (pK rfl (qL (v:=.map (some mb)) iT125 rfl (cO 1 rfl rfl)) (pU rfl (fA uT39 rfl zT3 rfl) (pK rfl (qL (v:=vi e.cell) iT3 rfl (cO 0 rfl rfl)) (pK rfl (SQ.eq (v':=.tuple #[.agg #[vi 0,vi 0,.slice none 0 0],vb false]) (SQ.lookupOk mty125 rfl rfl (MapAt.own 2 rfl)) (by rw[h2]; rfl)) ?_))))));refine yM I (pU I (xT I I) (pU I (xT I I) (SP.o I (aL zeroValue54) dC (.inr iR) ?_)));rintro _ _ _ ⟨b5,rfl,rfl,rfl⟩;refine SP.on I (sK 0 zT54 I I I I I sB) (.inr iR) ?_;rintro _ _ _ ⟨rfl,rfl⟩;refine pU I (aS I) (pN (tN (sQ (bK (sW I (lU (SU.not I) (aT I (SC.condT I (rZ (aT I (rE (bR (tR ?_)))))))))))));exact ST.ret1 (.inl I) results107 I ⟨Le.refl _,I,by rw[if_neg dC]; exact⟨_::_::_::_::_::ownS A rs,I⟩⟩
 obtain ⟨ri,rd,rp,rn,rc⟩:=r0;obtain ⟨e1,e2,e3⟩:=hco;dsimp only at e1 e2 e3;subst e1 e2 e3;refine rZ (bW (bO I) fun b3=>?_);refine aT I (sQ ?_);refine dW [] [(0,2),(1,2),(2,2),(3,1),(4,2),(5,1),(6,1),(7,2),(8,2),(9,2),(10,0),(11,0),(12,2)] Tryz.mixed kR ?_;refine yM rfl (pU rfl (nC rfl) (pU rfl (fA uT150 rfl zT125 rfl) (pK rfl (qL (v:=.map (some mb)) iT125 rfl (cO 1 rfl rfl)) (pU rfl (fA uT39 rfl zT3 rfl) (pK rfl (qL (v:=vi e.cell) iT3 rfl (cO 0 rfl rfl)) (pK rfl (SQ.eq (v':=.tuple #[.agg #[vi c0.id,vi c0.dim,.slice rp c0.sides.length rc],vb true]) (SQ.lookupOk mty125 rfl rfl (MapAt.own 2 rfl)) (by rw[h2]; rfl)) ?_))))));refine yM I (pU I (xT I I) (pU I (xT I I) (SP.o I (aL zeroValue54) dC (.inr iR) ?_)));rintro _ _ _ ⟨b5,rfl,rfl,rfl⟩;refine SP.on I (sK 0 zT54 I I I I I sB) (.inr iR) ?_;rintro _ _ _ ⟨rfl,rfl⟩;refine pU I (aS I) (pN (tN (sQ (bK (sW I (lU (SU.not I) (aT I (cF I (rZ (lU (fA uT54 I zT3 I) (lK (qL iT3 I (cO 0 I I)) (lU (nQ I I) (aT I ?_)))))))))))));refine iP I (fun hd=>?_) (fun hd=>?_)
 ·have hcode:splitCode A e=21:=by unfold splitCode; rw[h1]; exact if_pos hd
  rw[hcode];refine rZ (aT I (rE (bR (tR ?_))));exact ST.ret1 (.inl I) results107 I ⟨Le.refl _,I,by rw[if_neg dC]; exact⟨_::_::_::_::_::ownS A rs,I⟩⟩
 have hd1:c0.dim=1:=Decidable.not_not.1 hd;by_cases hmin:min e.new e.other<1
 ·have hcode:splitCode A e=1:=by
   unfold splitCode;rw[h1];show (if c0.dim≠1 then (21:Int) else if min e.new e.other<1∨e.new=e.other then 1 else _)=1;rw[if_neg hd,if_pos (.inl hmin)]
  rw[hcode];refine rZ (lU (fA uT39 I zT3 I) (lK (qL (v:=vi e.new) iT3 I (cO 1 I I)) (lU (fA uT39 I zT3 I) (lK (qL (v:=vi e.other) iT3 I (cO 1 I I)) (lU (SU.min2 I I) (lU (SU.eq (v':=vb true) (lS I I) (congrArg vb (decide_eq_true hmin))) (lM I (yA I (yA I (yA I (yA I (yA I (yP I (aT I (SC.condT I (rZ (aT I (rE (bR (tR ?_))))))))))))))))))));exact ST.ret1 (.inl I) results107 I ⟨Le.refl _,I,by rw[if_neg dC]; exact⟨_::_::_::_::_::ownS A rs,I⟩⟩
 refine rZ (lU (fA uT39 I zT3 I) (lK (qL (v:=vi e.new) iT3 I (cO 1 I I)) (lU (fA uT39 I zT3 I) (lK (qL (v:=vi e.other) iT3 I (cO 1 I I)) (lU (SU.min2 I I) (lU (SU.eq (v':=vb false) (lS I I) (congrArg vb (decide_eq_false hmin))) (lM I (lY I I I (fA uT39 I zT3 I) (SL.gq (gT I I I dC) (qL (v:=vi e.new) iT3 I (cO 1 I I)) dC (lY I I I (fA uT39 I zT3 I) (SL.gq (gT I I I dC) (qL (v:=vi e.other) iT3 I (cO 1 I I)) dC (lY I I I (eQ I I) (yF I (aT I ?_))))))))))))));refine iP I (fun hne=>?_) (fun hne=>?_)
 ·have hcode:splitCode A e=1:=by
   unfold splitCode;rw[h1];show (if c0.dim≠1 then (21:Int) else if min e.new e.other<1∨e.new=e.other then 1 else _)=1;rw[if_neg hd,if_pos (.inr hne)]
  rw[hcode];refine rZ (aT I (rE (bR (tR ?_))));exact ST.ret1 (.inl I) results107 I ⟨Le.refl _,I,by rw[if_neg dC]; exact⟨_::_::_::_::_::ownS A rs,I⟩⟩
 have hcode:splitCode A e=if (findT A e.new).isSome||(findT A e.other).isSome then 54 else 0:=by
  unfold splitCode;rw[h1];show (if c0.dim≠1 then (21:Int) else if min e.new e.other<1∨e.new=e.other then 1 else if (findT A e.new).isSome||(findT A e.other).isSome then 54 else 0)=_;rw[if_neg hd,if_neg (fun h=>h.elim hmin hne)]
 rw[hcode];cases hnw:(findT A e.new).isSome with
 | true =>
  have e54:(if (true||(findT A e.other).isSome)=true then (54:Int) else 0)=54:=rfl;rw[e54];refine sW I (lU (fA uT39 I zT3 I) (lK (qL (v:=vi e.new) iT3 I (cO 1 I I)) (lW (SO.call call135 I (has_editor E g _ bx mb ms _ false e.new _ (fun _ _ h=>h.1) A rs hO 2 3 I I)) ?_)));rintro _ _ _ ⟨rfl,rfl,rfl⟩;rw[hnw];refine lM I (yA I (yA I (yA I (yA I (yP I (aT I (SC.condT I (rZ (aT I (rE (bR (tR ?_))))))))))));exact ST.ret1 (.inl I) results107 I ⟨Le.refl _,I,by rw[if_neg dC]; exact⟨_::_::_::_::_::ownS A rs,I⟩⟩
 | false =>
 rw[Bool.false_or];refine sW I (lU (fA uT39 I zT3 I) (lK (qL (v:=vi e.new) iT3 I (cO 1 I I)) (lW (SO.call call135 I (has_editor E g _ bx mb ms _ false e.new _ (fun _ _ h=>h.1) A rs hO 2 3 I I)) ?_)));rintro _ _ _ ⟨rfl,rfl,rfl⟩;rw[hnw];refine lM I (yC I (lY I I I (fA uT39 I zT3 I) (SL.gq (gT I I I dC) (qL (v:=vi e.other) iT3 I (cO 1 I I)) dC (SL.go (gT I I I dC) (SO.call call135 I (has_editor E g _ bx mb ms _ false e.other _ (fun _ _ h=>h.1) A rs hO 2 3 I I)) dC ?_))));rintro _ _ _ ⟨rfl,rfl,rfl⟩;refine yF I (aT I ?_);refine iQ I (fun hot=>?_) (fun hot=>?_)
 ·rw[if_pos hot];refine rZ (aT I (rE (bR (tR ?_))));exact ST.ret1 (.inl I) results107 I ⟨Le.refl _,I,by rw[if_neg dC]; exact⟨_::_::_::_::_::ownS A rs,I⟩⟩
 rw[if_neg (by rw[hot]; exact Bool.false_ne_true)];refine kP (bN (tN (sQ (sQ ?_))));refine dW [] [(0,2),(1,2),(2,2),(3,1),(4,2),(5,1),(8,2),(6,0),(7,2)] Tryz.mixed kR ?_;refine yM I (pU I (nC I) (pU I (fA uT150 I zT29 I) (pK I (SQ.loadOne iT29 zT29 I (cO (v:=.slice p A.length c) 2 I I)) (pU I (fA uT39 I zT3 I) (pK I (qL (v:=vi e.cell) iT3 I (cO 1 I I)) (yM I (SP.o I (SO.call call55 I (above_spec E g _ _ A e.cell hu hf)) dC (.inr iR) ?_)))))));rintro _ g1 _ ⟨rfl,hle1,hav⟩;obtain ⟨qa,da,rfl⟩:=SlA.form hav;refine pU I (eN uT22 I) (pN (tN (bK ?_)));have hat0:splitAt A e []=A:=by simp[splitAt]
 refine oP (ι:=Nat×List Rc) (fun i=>[(0,pp bx 0),(3,pp b3 0),(5,pp b5 0),(60,.slice qa (aboveC A e.cell).length da),(61,vi (aboveC A e.cell).length),(62,vi i.1)]) (fun _=>g1)
  (fun i=>pt b5 (.cells #[vi c0.id,vi c0.dim,.slice rp c0.sides.length rc] 54 (0,0))::pt b3 (.cells (edV e (.slice sp e.sides.length sc) (.slice qp e.pairs.length qc)) 39 (0,0))::edP bx (.slice p A.length c) mb ms false::mp mb (i.2.map rcPair)::mp ms []::(ownS (splitAt A e ((aboveC A e.cell).take i.1)) i.2++s))
  (fun i=>i.1≤(aboveC A e.cell).length∧All2 CellO (splitAt A e ((aboveC A e.cell).take i.1)) i.2∧mget (i.2.map rcPair) e.cell=some (rcv ⟨c0.id,c0.dim,⟨rp,c0.sides.length,rc⟩⟩)) (fun i=>(aboveC A e.cell).length - i.1) (0,rs)
  sB rfl (by dsimp only; rw[List.take_zero,hat0]; rfl) ⟨Nat.zero_le _,by dsimp only; rw[List.take_zero,hat0]; exact hO,h2⟩ ?_
 rintro ⟨k,rs1⟩ ⟨hk,hO1,hg1⟩;dsimp only at hk hO1 hg1 ⊢;refine rZ (yL I (tZ (sQ ?_)));refine iP I (fun hlt=>?_) (fun hlt=>?_)
 ·have hkl:k<(aboveC A e.cell).length:=oM;have hba:=SlA.based hav oM;have hgk:(aboveC A e.cell)[((k:Nat):Int).toNat]?=some (aboveC A e.cell)[k]:=gE hkl;have htk:(aboveC A e.cell).take (k+1)=(aboveC A e.cell).take k++[(aboveC A e.cell)[k]]:=tS hkl;obtain ⟨y,hy1,hy2,hy3⟩:=hab _ (gM hkl);have hnot:(aboveC A e.cell)[k] ∉ (aboveC A e.cell).take k:=fun hm=>by
   obtain ⟨j,hj,hje⟩:=List.getElem_of_mem hm;rw[List.length_take] at hj;rw[List.getElem_take] at hje;have:=(List.getElem_inj habn).1 hje;omega
  have hne1:e.cell≠(aboveC A e.cell)[k]:=fun h=>hself (by have h9:=gM hkl; rwa [← h] at h9);have hput:=splitAt_put (e:=e) hnot hn hy1;rw[← htk] at hput;have hfd:=splitAt_find (e:=e) (A:=A) hnot;rw[hy1] at hfd;generalize hH1:(aboveC A e.cell).take (k+1)=H1 at *;generalize (aboveC A e.cell).take k=H0 at *;generalize (aboveC A e.cell)[k]=id at *
  rcases own_find id hO1 with ⟨h3,_⟩ | ⟨m,y',r1,h3,hyid,h4,hco1,hrow1,hset1⟩
  ·rw[hfd] at h3; cases h3
  rw[hfd] at h3;injection h3 with h3
  subst h3;obtain ⟨si,sd,sp1,sn1,sc1⟩:=r1;obtain ⟨f1,f2,f3⟩:=hco1;dsimp only at f1 f2 f3;subst f1 f2 f3;subst hyid;have hm1:m<(ownS (splitAt A e H0) rs1).length:=(List.getElem?_eq_some_iff.1 hrow1).1;have hrow2:(ownS (splitAt A e H0) rs1++s)[m]?=some (rowA encSide 56 (.slice sp1 y.sides.length sc1) y.sides):=by rw[List.getElem?_append_left hm1]; exact hrow1
  have hset2:∀ (q':Option Addr) (d':Nat) (x:Side),(withEd e y).sides=y.sides++[x]→ownS (splitAt A e H1) (putR rs1 ⟨y.id,y.dim,⟨q',(y.sides++[x]).length,d'⟩⟩)++s=(ownS (splitAt A e H0) rs1++s).set m (rowA encSide 56 (.slice q' (y.sides++[x]).length d') (y.sides++[x]))∧All2 CellO (splitAt A e H1) (putR rs1 ⟨y.id,y.dim,⟨q',(y.sides++[x]).length,d'⟩⟩):=fun q' d' x hx=>by
   obtain ⟨h5,h6⟩:=hset1 (withEd e y) ⟨y.id,y.dim,⟨q',(y.sides++[x]).length,d'⟩⟩ rfl rfl ⟨rfl,rfl,by dsimp only; rw[hx]⟩;rw[hput] at h5 h6;refine⟨?_,h6⟩;rw[← h5,List.set_append_left _ _ hm1];unfold ownC;rw[hx]
  have hidx:idxC (fun x=>decide (x.cell=e.cell)) y.sides=((y.sides.findIdx fun x=>decide (x.cell=e.cell):Nat):Int):=if_pos hy2;have hil:(y.sides.findIdx fun x=>decide (x.cell=e.cell))<y.sides.length:=by
   obtain ⟨x,hx,hx2⟩:=List.any_eq_true.1 hy2;exact List.findIdx_lt_length_of_exists ⟨x,hx,hx2⟩
  generalize hi0:(y.sides.findIdx fun x=>decide (x.cell=e.cell))=i0 at *;have hgi:y.sides[((i0:Nat):Int).toNat]?=some y.sides[i0]:=gE hil;have hws:(withEd e y).sides=y.sides++[⟨e.other,y.sides[i0].sign⟩]:=by unfold withEd; rw[sgn_idx hil hi0]
  generalize y.sides[i0]=z at *;obtain ⟨zc,zs⟩:=z;dsimp only at hws;refine SC.facts fun ⟨w0,hw0⟩=>?_;obtain ⟨bb,cc,hbb⟩:=rowA_based (i:=m+5) hw0 hrow2 oM;clear hw0 w0;have hby:based (.slice sp1 y.sides.length sc1)=true:=by rw[hbb]; rfl
  refine kP (tN (sQ (bK (rZ (lU (iA uT22 zT3 rfl rfl hba oM sL) (lK (eB iT3 rfl (SlA.rd hav) hgk rfl) (aT rfl (sW rfl (lU (nC rfl) (lU (fA uT150 rfl zT125 rfl) (lK (qL (v:=.map (some mb)) iT125 rfl (cO 2 rfl rfl)) (lM rfl (lK (SQ.eq (v':=.agg #[vi y.id,vi y.dim,.slice sp1 y.sides.length sc1]) (SQ.lookup mty125 rfl rfl (MapAt.own 3 rfl)) (by rw[h4]; rfl)) ?_)))))))))))));refine bW (aL zeroValue54) fun b9=>?_;refine oZ (sK 0 zT54 I I I I I sB) ?_;refine tZ (rZ (lU (fA uT54 I zT37 I) (lK (qL (v:=.slice sp1 y.sides.length sc1) iT37 I (cO 0 I I)) (lU (SU.mkFunc I) (lW (SO.call call136 I (indexRd E g1 _ _ _ _ y.sides (fun x=>decide (x.cell=e.cell)) (Rd.rowA (m+6) hrow2) (fun _=>hby) oM I (fun x=>isCell_s E g1 _ b3 e _ _ x 2 I))) ?_)))));rintro _ _ _ ⟨rfl,rfl,rfl⟩;rw[hidx];refine aT I (sQ ?_);refine dW [12,14] [(0,2),(1,1),(2,2),(3,1),(4,2),(5,1),(6,2),(7,2),(8,2),(9,1),(10,2),(11,0),(12,0),(13,2),(14,0)] Tryz.mixed kR ?_;refine pU I (fA uT54 I zT37 I) (pK I (qL (v:=.slice sp1 y.sides.length sc1) iT37 I (cO 0 I I)) (pU I (fA uT39 I zT3 I) (pK I (qL (v:=vi e.other) iT3 I (cO 2 I I)) (pU I (fA uT54 I zT37 I) (pK I (qL (v:=.slice sp1 y.sides.length sc1) iT37 I (cO 0 I I)) (yM I (pU I (iA uT37 zT56 I I hby oM sL) ?_)))))));refine pU I (fC uT56 I zT3 I hby) (pK I (aZ (e:=encSide) (o:=1) (u:=vi zs) iT3 I (Rd.rowA (m+6) hrow2) hgi I) (pU I (SU.build I (buildS56 _ _)) (SP.o I (bS sty37 I I I (szs_mk ⟨I,trivial⟩) dC) dC (.inr iR) ?_)));rintro _ _ _ ⟨b87,rfl,rfl,rfl⟩;refine SP.o I (aP (e:=encSide) (m+6) ⟨e.other,zs⟩ sty37 I I I hrow2 I oM oM) dC (.inl dC) ?_;rintro v88 _ _ ⟨rfl,rfl⟩;refine SP.facts fun ⟨w0,hw0⟩=>?_;obtain ⟨q',d',rfl⟩:=rowA_form (e:=encSide) (l:=y.sides++[(⟨e.other,zs⟩:Side)]) (i:=m+6) hw0 (get_set hrow2 _);clear hw0 w0;refine pU rfl (fA uT54 rfl zT37 rfl) (SP.on rfl (SO.store1 0 zT37 rfl rfl rfl rfl (bE rfl) (by rfl)) (.inl dC) ?_);rintro _ _ _ ⟨rfl,rfl⟩;refine pN (tN ?_);obtain ⟨hown,hO2⟩:=hset2 q' d' ⟨e.other,zs⟩ hws;refine SC.to (g':=g1) (s':=pt b9 (.cells #[vi y.id,vi y.dim,.slice q' (y.sides++[(⟨e.other,zs⟩:Side)]).length d'] 54 (0,0))::pt b5 (.cells #[vi c0.id,vi c0.dim,.slice rp c0.sides.length rc] 54 (0,0))::pt b3 (.cells (edV e (.slice sp e.sides.length sc) (.slice qp e.pairs.length qc)) 39 (0,0))::edP bx (.slice p A.length c) mb ms false::mp mb (rs1.map rcPair)::mp ms []::(ownS (splitAt A e H1) (putR rs1 ⟨y.id,y.dim,⟨q',(y.sides++[(⟨e.other,zs⟩:Side)]).length,d'⟩⟩)++s)) (fun w hw=>by rw[hown]; exact hw) ?_;refine dW [6] [(0,2),(1,2),(2,2),(3,1),(4,2),(5,1),(6,0)] Tryz.mixed kR ?_;refine yM I (pU I (nC I) (pU I (fA uT150 I zT125 I) (pK I (qL (v:=.map (some mb)) iT125 I (cO 3 I I)) (yM I (pK I (qV 0 iT54 zT54 I I I) (SP.on I (SO.mapUpdate 4 mty125 I I I I) (.inl dC) ?_))))));rintro _ _ _ ⟨rfl,rfl⟩;rw[show mput (rs1.map rcPair) y.id (.agg #[vi y.id,vi y.dim,.slice q' (y.sides++[(⟨e.other,zs⟩:Side)]).length d'])=(putR rs1 ⟨y.id,y.dim,⟨q',(y.sides++[(⟨e.other,zs⟩:Side)]).length,d'⟩⟩).map rcPair from mput_rc ⟨y.id,y.dim,⟨q',(y.sides++[(⟨e.other,zs⟩:Side)]).length,d'⟩⟩ rs1];refine pN (bN (tN (rG (yD I (lM I (nL (dR (.cons _ (.refl _)) ?_)))))));exact ST.again (k+1,putR rs1 ⟨y.id,y.dim,⟨q',(y.sides++[(⟨e.other,zs⟩:Side)]).length,d'⟩⟩) sB rfl (by dsimp only; rw[hH1]; rfl) ⟨by dsimp only; omega,by dsimp only; rw[hH1]; exact hO2,by
   dsimp only;rw[← mput_rc,mget_mput,if_neg hne1];exact hg1⟩ (by dsimp only; omega)
 ·have hkk:(aboveC A e.cell).take k=aboveC A e.cell:=tL oM;rw[hkk] at hO1 ⊢;have hfe:=splitAt_find (e:=e) (A:=A) hself;rw[h1] at hfe;obtain ⟨z0,z1,hz,hzs⟩:=hedge c0 h1 hd1;obtain ⟨iE,zE,zO,hiE,hixE,hgE,hgO,heE,heO⟩:=ends_of hz hzs;have hl2:c0.sides.length=2:=by rw[hz]; rfl
  have hout:splitOut A e=putC (putC (putC (splitAt A e (aboveC A e.cell)) ⟨e.new,0,[]⟩) ⟨e.other,1,[⟨e.new,-1⟩,zE]⟩) ⟨e.cell,1,[zO,⟨e.new,1⟩]⟩:=by
   unfold splitOut;rw[h1];show putC (putC (putC (splitAt A e (aboveC A e.cell)) ⟨e.new,0,[]⟩) ⟨e.other,1,[⟨e.new,-1⟩,endS c0.sides true]⟩) ⟨e.cell,1,[endS c0.sides false,⟨e.new,1⟩]⟩=_;rw[heE,heO]
  rw[hout];refine xI (tX (tX (bX (tN (sQ (SC.freezeO (L:=[pt b5 (.cells #[vi c0.id,vi c0.dim,.slice rp c0.sides.length rc] 54 (0,0)),pt b3 (.cells (edV e (.slice sp e.sides.length sc) (.slice qp e.pairs.length qc)) 39 (0,0)),edP bx (.slice p A.length c) mb ms false,mp mb (rs1.map rcPair),mp ms []]) hO1 fun g2 hle2 hall2=>?_))))));refine SC.to (g':=g2) (s':=pt b5 (.cells #[vi c0.id,vi c0.dim,.slice rp c0.sides.length rc] 54 (0,0))::pt b3 (.cells (edV e (.slice sp e.sides.length sc) (.slice qp e.pairs.length qc)) 39 (0,0))::edP bx (.slice p A.length c) mb ms false::mp mb (rs1.map rcPair)::mp ms []::s) (fun w hw=>hw) ?_;have hsl:SlA encSide g2 (.slice rp c0.sides.length rc) c0.sides:=by
   rcases all2_findG (fun _ _ h=>h.1) hall2 e.cell with ⟨h5,_⟩ | ⟨c1,r1,h5,h6,h7⟩
   ·unfold findT at hfe; rw[h5] at hfe; cases hfe
   ·rw[hg1] at h6; injection h6 with h6; have h8:=rcv_inj h6; subst h8; unfold findT at hfe; rw[h5] at hfe; injection hfe with hfe; subst hfe; exact h7.2.2
  generalize splitAt A e (aboveC A e.cell)=B0 at *;have hbE:=SlA.based hsl oM;have hgE':c0.sides[((iE:Nat):Int).toNat]?=some zE:=hgE;have hgO':c0.sides[((1 - (iE:Int)):Int).toNat]?=some zO:=by rw[show (1 - (iE:Int)).toNat=1 - iE by omega]; exact hgO
  refine rG (lU (fA uT54 I zT37 I) (lK (qL (v:=.slice rp c0.sides.length rc) iT37 I (cO 0 I I)) (lW (SO.call call136 I (indexSide E g2 _ _ _ c0.sides (fun x=>decide (0<x.sign)) hsl oM I (fun x=>isPos_s E g2 _ x))) ?_)));rintro _ _ _ ⟨rfl,rfl,rfl⟩;rw[hixE];refine aT I (sQ ?_);refine dW [9] [(0,2),(1,2),(2,2),(3,1),(4,2),(5,1),(6,2),(7,1),(8,2),(9,0)] Tryz.mixed kR ?_;refine yM I (pU I (nC I) (pU I (fA uT150 I zT125 I) (pK I (qL (v:=.map (some mb)) iT125 I (cO 2 I I)) (pU I (fA uT39 I zT3 I) (pK I (qL (v:=vi e.new) iT3 I (cO 1 I I)) (pU I (fA uT39 I zT3 I) (pK I (qL (v:=vi e.new) iT3 I (cO 1 I I)) (pU I (SU.build I (buildI54 _)) (SP.on I (SO.mapUpdate 3 mty125 I I I I) (.inl dC) ?_)))))))));rintro _ _ _ ⟨rfl,rfl⟩;rw[show mput (rs1.map rcPair) e.new (.agg #[vi e.new,vi 0,.slice none 0 0])=(putR rs1 ⟨e.new,0,⟨none,0,0⟩⟩).map rcPair from mput_rc ⟨e.new,0,⟨none,0,0⟩⟩ rs1];refine pN (tN (sQ ?_));have hall3:All2 (CellR g2) (putC B0 ⟨e.new,0,[]⟩) (putR rs1 ⟨e.new,0,⟨none,0,0⟩⟩):=all2_put (fun _ _ h=>h.1) ⟨rfl,rfl,Sl.nil _ _⟩ hall2;generalize putR rs1 ⟨e.new,0,⟨none,0,0⟩⟩=rs2 at *;generalize putC B0 ⟨e.new,0,[]⟩=B1 at *;refine dW [18] [(0,2),(1,2),(2,2),(3,1),(4,2),(5,1),(6,2),(7,1),(8,2),(9,1),(10,2),(11,2),(12,1),(13,2),(14,2),(15,1),(16,0),(17,2),(18,0)] Tryz.mixed kR ?_;refine yM I (pU I (nC I) (pU I (fA uT150 I zT125 I) (pK I (qL (v:=.map (some mb)) iT125 I (cO 2 I I)) (pU I (fA uT39 I zT3 I) (pK I (qL (v:=vi e.other) iT3 I (cO 1 I I)) (pU I (fA uT39 I zT3 I) (pK I (qL (v:=vi e.other) iT3 I (cO 1 I I)) (pU I (fA uT39 I zT3 I) (pK I (qL (v:=vi e.new) iT3 I (cO 1 I I)) (pU I (SU.build I (buildS56 _ _)) (pU I (fA uT54 I zT37 I) (pK I (qL (v:=.slice rp c0.sides.length rc) iT37 I (cO 0 I I)) (yM I (pU I (iA uT37 zT56 I I hbE oM sL) (pK I (eA iT56 zT56 I (SlA.rd hsl) hgE') (SP.o I (bS sty37 I I I (szs_mk sB) dC) dC (.inr iR) ?_))))))))))))))));rintro _ _ _ ⟨b125,rfl,rfl,rfl⟩;refine SP.freeze fun g3 hle3 hb3=>?_;have hs3:SlA encSide g3 (.slice (some ⟨b125,0,none⟩) 2 2) [⟨e.new,-1⟩,zE]:=SlA.lit hb3 rfl rfl;refine pU I (SU.build I (buildF54 _ _ _ I)) (SP.on I (SO.mapUpdate 3 mty125 I I I I) (.inl dC) ?_);rintro _ _ _ ⟨rfl,rfl⟩;rw[show mput (rs2.map rcPair) e.other (.agg #[vi e.other,vi 1,.slice (some ⟨b125,0,none⟩) 2 2])=(putR rs2 ⟨e.other,1,⟨some ⟨b125,0,none⟩,2,2⟩⟩).map rcPair from mput_rc ⟨e.other,1,⟨some ⟨b125,0,none⟩,2,2⟩⟩ rs2];refine pN (tN (sQ ?_));have hall4:All2 (CellR g3) (putC B1 ⟨e.other,1,[⟨e.new,-1⟩,zE]⟩) (putR rs2 ⟨e.other,1,⟨some ⟨b125,0,none⟩,2,2⟩⟩):=all2_put (fun _ _ h=>h.1) ⟨rfl,rfl,hs3⟩ (hall3.mono fun _ _=>CellR.mono hle3);have hsl3:=SlA.mono hsl hle3;generalize putR rs2 ⟨e.other,1,⟨some ⟨b125,0,none⟩,2,2⟩⟩=rs3 at *;generalize putC B1 ⟨e.other,1,[⟨e.new,-1⟩,zE]⟩=B2 at *;refine dW [19] [(0,2),(1,2),(2,2),(3,1),(4,2),(5,1),(6,2),(7,1),(8,2),(9,1),(10,2),(11,2),(12,2),(13,1),(14,2),(15,1),(16,2),(17,0),(18,2),(19,0)] Tryz.mixed kR ?_;refine yM I (pU I (nC I) (pU I (fA uT150 I zT125 I) (pK I (qL (v:=.map (some mb)) iT125 I (cO 2 I I)) (pU I (fA uT39 I zT3 I) (pK I (qL (v:=vi e.cell) iT3 I (cO 1 I I)) (pU I (fA uT39 I zT3 I) (pK I (qL (v:=vi e.cell) iT3 I (cO 1 I I)) (pU I (fA uT54 I zT37 I) (pK I (qL (v:=.slice rp c0.sides.length rc) iT37 I (cO 0 I I)) (yM I (pU I (sU I I oM) (pU I (iA uT37 zT56 I I hbE oM sL) (pK I (eA iT56 zT56 I (SlA.rd hsl3) hgO') (pU I (fA uT39 I zT3 I) (pK I (qL (v:=vi e.new) iT3 I (cO 1 I I)) (pU I (SU.build I (buildS56 _ _)) (SP.o I (bS sty37 I I I (szs_mk sB) dC) dC (.inr iR) ?_)))))))))))))))));rintro _ _ _ ⟨b144,rfl,rfl,rfl⟩;refine SP.freeze fun g4 hle4 hb4=>?_;have hs4:SlA encSide g4 (.slice (some ⟨b144,0,none⟩) 2 2) [zO,⟨e.new,1⟩]:=SlA.lit hb4 rfl rfl;refine pU I (SU.build I (buildF54 _ _ _ I)) (SP.on I (SO.mapUpdate 3 mty125 I I I I) (.inl dC) ?_);rintro _ _ _ ⟨rfl,rfl⟩;rw[show mput (rs3.map rcPair) e.cell (.agg #[vi e.cell,vi 1,.slice (some ⟨b144,0,none⟩) 2 2])=(putR rs3 ⟨e.cell,1,⟨some ⟨b144,0,none⟩,2,2⟩⟩).map rcPair from mput_rc ⟨e.cell,1,⟨some ⟨b144,0,none⟩,2,2⟩⟩ rs3];refine pN (tN (sQ ?_));have hall5:All2 (CellR g4) (putC B2 ⟨e.cell,1,[zO,⟨e.new,1⟩]⟩) (putR rs3 ⟨e.cell,1,⟨some ⟨b144,0,none⟩,2,2⟩⟩):=all2_put (fun _ _ h=>h.1) ⟨rfl,rfl,hs4⟩ (hall4.mono fun _ _=>CellR.mono hle4);generalize putR rs3 ⟨e.cell,1,⟨some ⟨b144,0,none⟩,2,2⟩⟩=rs4 at *;refine dW [13] [(0,2),(1,2),(2,2),(3,1),(4,2),(5,1),(6,2),(7,1),(9,2),(10,1),(8,0),(11,0),(12,0),(13,0)] Tryz.mixed kR ?_;refine yM I (pU I (nC I) (pU I (fA uT150 I sizeOf148 I) (pK I (qL (v:=.map (some ms)) isAgg148 I (cO 2 I I)) (pU I (fA uT39 I zT3 I) (pK I (qL (v:=vi e.cell) iT3 I (cO 1 I I)) (pU I (fA uT39 I zT3 I) (pK I (qL (v:=vi e.cell) iT3 I (cO 1 I I)) (pU I (fA uT39 I zT3 I) (pK I (qL (v:=vi e.other) iT3 I (cO 1 I I)) (SP.o I (SO.call call112 I (term_spec E g4 _ e.cell 1 dC dC)) dC (.inr iR) ?_))))))))));rintro _ g5 _ ⟨rfl,rfl,hle5⟩;refine SP.o rfl (SO.call call112 rfl (term_spec E g5 _ e.other 1 dC dC)) dC (.inr (by rintro _ g6 _ ⟨rfl,rfl,hle6⟩; exact⟨by exact Le.trans (by assumption) (by assumption),(by exact .refl _)⟩)) ?_;rintro _ g6 _ ⟨rfl,rfl,hle6⟩;have hle46:=hle5.trans hle6;refine SP.o I (bS sty151 I I I (szs_mk sB) dC) dC (.inr iR) ?_;rintro _ _ _ ⟨b158,rfl,rfl,rfl⟩;refine SP.to (fun w hw=>At.litRow (e:=encTm) (l:=[(e.cell,1),(e.other,1)]) (n:=1) hw I I dC) ?_;refine SP.on I (SO.mapUpdate 5 mty148 I I I I) (.inl dC) ?_;rintro _ _ _ ⟨rfl,rfl⟩;refine pN (tN (rZ (aT I (rE ?_))));refine ST.to (g':=g6) (s':=edP bx (.slice p A.length c) mb ms false::mp mb (rs4.map rcPair)::mp ms (prsT [(e.cell,.slice (some ⟨b158,0,none⟩) 2 2,[(e.cell,1),(e.other,1)])])::(rowsT [(e.cell,.slice (some ⟨b158,0,none⟩) 2 2,[(e.cell,1),(e.other,1)])]++s)) (fun w1 hw1=>?_) ?_
  ·have h5:=hw1.sublist (s':=rowA encTm 156 (.slice (some ⟨b158,0,none⟩) 2 2) [(e.cell,1),(e.other,1)]::([edP bx (.slice p A.length c) mb ms false,mp mb (rs4.map rcPair),mp ms (prsT [(e.cell,.slice (some ⟨b158,0,none⟩) 2 2,[(e.cell,1),(e.other,1)])])]++s)) (.cons_cons _ (.cons _ (.cons _ (.refl _))));exact h5.perm (List.perm_middle (l₁:=[edP bx (.slice p A.length c) mb ms false,mp mb (rs4.map rcPair),mp ms (prsT [(e.cell,.slice (some ⟨b158,0,none⟩) 2 2,[(e.cell,1),(e.other,1)])])])).symm
  exact ST.ret1 (.inl I) results107 I ⟨hle1.trans (hle2.trans (hle3.trans (hle4.trans hle46))),I,by rw[if_pos I]; exact⟨rs4,_,_,_,_,I,hall5.mono fun _ _=>CellR.mono hle46,I⟩⟩
open Go Go.Sy Go.Pl Go.Proofs Go.Shelf Go.Sort
def Tryz.sortSd_ren:Ren :=
 {
  f:=fun x =>
   match x with
   | 6=>151
   | 15=>145
   | 14=>170
   | 28=>163
   | 29=>164
   | 20=>168
   | 21=>182
   | 22=>183
   | 23=>184
   | 24=>185
   | 25=>186
   | 26=>187
   | 27=>188
   | 46=>197
   | 47=>175
   | 48=>176
   | 49=>198
   | 50=>199
   | 57=>203
   | n=>n,
  t:=fun x =>
   match x with
   | 22=>37
   | 24=>56
   | 25=>173
   | 3=>3
   | 39=>184
   | 0=>0
   | 53=>201
   | 55=>189
   | 4=>4
   | 46=>195
   | 45=>194
   | 50=>138
   | 5=>5
   | 9=>9
   | 66=>213
   | 70=>217
   | 76=>232
   | 77=>233
   | n=>n,
  g:=fun x =>
   have n:=x;
   n }
theorem Tryz.sortSd:SlLaysF0.n6 Tryz.prog Tryz.sortSd_ren :=
  {
  mixed:=Eq.refl true,
  f6 :=
   Exists.intro "slices.SortFunc[[]cocycle/api.Side,cocycle/api.Side]"
    ⟨of_decide_eq_true (id (Eq.refl true)),
     Eq.trans func151
      (congrArg some
       kR)⟩,
  f14 :=
   Exists.intro "slices.pdqsortCmpFunc[cocycle/api.Side]"
    ⟨of_decide_eq_true (id (Eq.refl true)),
     Eq.trans func170
      (congrArg some
       kR)⟩,
  f15:=Eq.trans func145 (congrArg some kR),
  f20 :=
   Exists.intro "slices.insertionSortCmpFunc[cocycle/api.Side]"
    ⟨of_decide_eq_true (id (Eq.refl true)),
     Eq.trans func168
      (congrArg some
       kR)⟩,
  f21 :=
   Exists.intro "slices.heapSortCmpFunc[cocycle/api.Side]"
    ⟨of_decide_eq_true (id (Eq.refl true)),
     Eq.trans func182
      (congrArg some
       kR)⟩,
  f22 :=
   Exists.intro "slices.breakPatternsCmpFunc[cocycle/api.Side]"
    ⟨of_decide_eq_true (id (Eq.refl true)),
     Eq.trans func183
      (congrArg some
       kR)⟩,
  f23 :=
   Exists.intro "slices.choosePivotCmpFunc[cocycle/api.Side]"
    ⟨of_decide_eq_true (id (Eq.refl true)),
     Eq.trans func184
      (congrArg some
       kR)⟩,
  f24 :=
   Exists.intro "slices.reverseRangeCmpFunc[cocycle/api.Side]"
    ⟨of_decide_eq_true (id (Eq.refl true)),
     Eq.trans func185
      (congrArg some
       kR)⟩,
  f25 :=
   Exists.intro "slices.partialInsertionSortCmpFunc[cocycle/api.Side]"
    ⟨of_decide_eq_true (id (Eq.refl true)),
     Eq.trans func186
      (congrArg some
       kR)⟩,
  f26 :=
   Exists.intro "slices.partitionEqualCmpFunc[cocycle/api.Side]"
    ⟨of_decide_eq_true (id (Eq.refl true)),
     Eq.trans func187
      (congrArg some
       kR)⟩,
  f27 :=
   Exists.intro "slices.partitionCmpFunc[cocycle/api.Side]"
    ⟨of_decide_eq_true (id (Eq.refl true)),
     Eq.trans func188
      (congrArg some
       kR)⟩,
  f28:=Eq.trans func163 (congrArg some kR),
  f29:=Eq.trans func164 (congrArg some kR),
  f46 :=
   Exists.intro "slices.siftDownCmpFunc[cocycle/api.Side]"
    ⟨of_decide_eq_true (id (Eq.refl true)),
     Eq.trans func197
      (congrArg some
       kR)⟩,
  f47:=Eq.trans func175 (congrArg some kR),
  f48:=Eq.trans func176 (congrArg some kR),
  f49 :=
   Exists.intro "slices.medianAdjacentCmpFunc[cocycle/api.Side]"
    ⟨of_decide_eq_true (id (Eq.refl true)),
     Eq.trans func198
      (congrArg some
       kR)⟩,
  f50 :=
   Exists.intro "slices.medianCmpFunc[cocycle/api.Side]"
    ⟨of_decide_eq_true (id (Eq.refl true)),
     Eq.trans func199
      (congrArg some
       kR)⟩,
  f57 :=
   Exists.intro "slices.order2CmpFunc[cocycle/api.Side]"
    ⟨of_decide_eq_true (id (Eq.refl true)),
     Eq.trans func203
      (congrArg some
       kR)⟩,
  t0:=underlying0,a0:=isAgg0,z0:=sizeOf0,v0:=zeroValue0,t3:=uT3,
  a3:=iT3,z3:=zT3,v3:=zeroValue3,t4:=underlying4,a4:=isAgg4,
  z4:=zT4,v4:=zeroValue4,t5:=uT5,a5:=isAgg5,z5:=sizeOf5,
  v5:=zeroValue5,t9:=underlying9,a9:=isAgg9,z9:=sizeOf9,v9:=zeroValue9,
  t22:=uT37,a22:=iT37,z22:=zT37,v22:=zeroValue37,
  t25:=underlying173,a25:=isAgg173,z25:=sizeOf173,v25:=zeroValue173,
  t39:=uT184,a39:=isAgg184,z39:=sizeOf184,v39:=zeroValue184,
  t45:=underlying194,a45:=isAgg194,z45:=sizeOf194,v45:=zeroValue194,
  t46:=underlying195,a46:=isAgg195,z46:=sizeOf195,v46:=zeroValue195,
  t50:=underlying138,a50:=isAgg138,z50:=sizeOf138,v50:=zeroValue138,
  t53:=underlying201,a53:=isAgg201,z53:=sizeOf201,v53:=zeroValue201,
  t55:=underlying189,a55:=isAgg189,z55:=sizeOf189,v55:=zeroValue189,
  t66:=underlying213,a66:=isAgg213,z66:=sizeOf213,v66:=zeroValue213,
  t70:=underlying217,a70:=isAgg217,z70:=sizeOf217,v70:=zeroValue217,
  t76:=underlying232,a76:=isAgg232,z76:=sizeOf232,v76:=zeroValue232,
  t77:=underlying233,a77:=isAgg233,z77:=sizeOf233,v77:=zeroValue233 }
instance:Inhabited Side:=⟨⟨0,0⟩⟩
def cmpSd (x y:Side):Int:=orI [cmpI x.cell y.cell,cmpI x.sign y.sign]
theorem cmpSd_neg (x y:Side):cmpSd x y<0↔x.cell<y.cell∨(x.cell=y.cell∧x.sign<y.sign):=by
 unfold cmpSd orI orI orI cmpI;split <;> split <;> (try split)<;>(try split)<;>simp_all <;> omega
theorem swoSd:SWO (ltOf cmpSd):=⟨fun x=>by simp[ltOf,cmpSd_neg],fun x y z h1 h2=>by simp[ltOf,cmpSd_neg] at *; omega,fun x y z h1 h2=>by simp[ltOf,cmpSd_neg] at *; omega⟩
def AscS (l:List Side):Prop:=l.Pairwise fun x y=>¬ cmpSd y x<0
theorem asc_unique {l m:List Side}(hl:AscS l)(hm:AscS m)(hp:l.Perm m):l=m:=by
 refine hp.eq_of_pairwise (le:=fun x y=>¬ cmpSd y x<0) (fun x y _ _ h1 h2=>?_) hl hm;rw[cmpSd_neg] at h1 h2;obtain ⟨xc,xs⟩:=x;obtain ⟨yc,ys⟩:=y;dsimp only at h1 h2;have e1:xc=yc:=oM;have e2:xs=ys:=oM;rw[e1,e2]
theorem cmpSide:CmpC Tryz.prog 152 encSide.enc cmpSd:=by
 intro E g s x y;obtain ⟨x1,x2⟩:=x;obtain ⟨y1,y2⟩:=y;refine Ctr.of (args:=[.agg #[vi x1,vi x2],.agg #[vi y1,vi y2]]) func152 I ntmps152 (bE I) ?_;refine rZ (bW (bO I) fun b2=>?_);refine bW (bO I) fun b3=>?_;refine aT I (sQ ?_);refine dW [] [(0,2),(1,1),(2,2),(3,1),(5,2),(6,1),(7,2),(8,1),(4,0),(9,0),(10,0),(11,0),(12,2)] Tryz.mixed kR ?_;refine pU I (fA uT56 I zT3 I) (pK I (qL (v:=vi x1) iT3 I (cO 1 I I)) (pU I (fA uT56 I zT3 I) (pK I (qL (v:=vi y1) iT3 I (cO 0 I I)) (pU I (fA uT56 I zT3 I) (pK I (qL (v:=vi x2) iT3 I (cO 1 I I)) (pU I (fA uT56 I zT3 I) (pK I (qL (v:=vi y2) iT3 I (cO 0 I I)) (SP.o I (SO.call call115 I (compare_spec E g _ x1 y1)) dC (.inr iR) ?_))))))));rintro _ _ _ ⟨rfl,rfl,rfl⟩;refine SP.o I (SO.call call115 I (compare_spec E g _ x2 y2)) dC (.inr iR) ?_;rintro _ _ _ ⟨rfl,rfl,rfl⟩;refine SP.o I (bS sty22 I I I (szs_mk sB) dC) dC (.inr iR) ?_;rintro _ _ _ ⟨b15,rfl,rfl,rfl⟩;refine SP.o I (SO.call call153 I (or_spec E g _ _ [cmpI x1 y1,cmpI x2 y2] (Rd.pt 0 I) ⟨_,_,I⟩ (fun _=>I) (by simp))) dC (.inr iR) ?_;rintro _ _ _ ⟨rfl,rfl,rfl⟩;refine pU I (aS I) (pN (tN (rE (dR (s':=s) uR ?_))));exact ST.ret1 (.inl I) results152 I ⟨I,I,I⟩
theorem sortSides (E:World)(g:PH)(s:Own)(v:Value)(l:List Side)(i:Nat)(hi:s[i]?=some (rowA encSide 56 v l))(hl:l.length<1099511627776) :
  Ctr Tryz.prog E 151 #[v,.func (.func 152) #[] #[]] g s (fun _ g' s'=>g=g'∧∃ l',l'.Perm l∧AscS l'∧s'=s.set i (rowA encSide 56 v l')) :=
 sortRowK Tryz.sortSd encSide iT56 zT56 cmpSd swoSd 152 call152 cmpSide 56 E g s v l i hi hl
def repS (f:Int→Option Int)(x:Side):Side:=⟨(f x.cell).getD x.cell,x.sign⟩
theorem replaced_spec (E:World)(g:PH)(s:Own)(v:Value)(l:List Side)(bb:Nat)(pm:List (Int×Value))(f:Int→Option Int)(hv:SlA encSide g v l)(hl:l.length<1099511627776)(hb:Mp g bb pm)(hf:∀ k,mget pm k=(f k).map vi) :
  Ctr Tryz.prog E 140 #[v,.map (some bb)] g s (fun r g' s'=>g=g'∧∃ l',l'.Perm (l.map (repS f))∧AscS l'∧s'=rowA encSide 56 r l'::s):=by
 obtain ⟨p,c,rfl⟩:=SlA.form hv;refine Ctr.of (args:=[.slice p l.length c,.map (some bb)]) func140 I ntmps140 (bE I) ?_;refine rZ (aT I (sW I (lW (SO.call call110 I (cloneSd E g _ _ l hv hl)) ?_)));rintro v11 _ _ ⟨rfl,rfl⟩;refine SL.facts fun ⟨w0,hw0⟩=>?_;obtain ⟨q,d,rfl⟩:=rowA_form (e:=encSide) (l:=l) (i:=0) hw0 rfl;have hbb:0<l.length→based (.slice q l.length d)=true:=fun h=>(by obtain ⟨b,c',hv'⟩:=rowA_based (e:=encSide) (l:=l) (i:=0) hw0 rfl h; rw[hv']; rfl);clear hw0 w0;refine aT I (sQ (sW I (lU (eN uT37 I) (lM I (tZ (bK ?_))))));refine oP (ι:=Nat) (fun k=>[(1,.map (some bb)),(5,.slice q l.length d),(12,.slice q l.length d),(13,vi l.length),(14,vi k)]) (fun _=>g) (fun k=>rowA encSide 56 (.slice q l.length d) ((l.take k).map (repS f)++l.drop k)::s)
  (fun k=>k≤l.length) (fun k=>l.length - k) 0 sB rfl (by simp) (Nat.zero_le _) ?_
 rintro k hk;try dsimp only at hk ⊢
 refine rZ (yL I (tZ (sQ ?_)));refine iP I (fun hlt=>?_) (fun hlt=>?_)
 ·have hkl:k<l.length:=oM;have hb1:=hbb oM;have hcur:((l.take k).map (repS f)++l.drop k)[((k:Nat):Int).toNat]?=some l[k]:=by
   show ((l.take k).map (repS f)++l.drop k)[k]?=_;rw[List.getElem?_append_right (by rw[List.length_map,List.length_take]; omega),List.length_map,List.length_take,show k - min k l.length=0 by omega,List.drop_eq_getElem_cons hkl];rfl
  have hnext:(l.take (k+1)).map (repS f)++l.drop (k+1)=((l.take k).map (repS f)++l.drop k).set k (repS f l[k]):=by
   rw[tS hkl,List.map_append,List.append_assoc,List.set_append_right _ _ (by rw[List.length_map,List.length_take]; omega),List.length_map,List.length_take,show k - min k l.length=0 by omega];congr 1;rw[List.drop_eq_getElem_cons hkl];rfl
  have hself:f l[k].cell=none→((l.take k).map (repS f)++l.drop k).set k (repS f l[k])=(l.take k).map (repS f)++l.drop k:=fun h=>by
   have h2:repS f l[k]=l[k]:=by unfold repS; rw[h]; rfl
   rw[h2];exact set_self hcur
  have hlen2:((l.take k).map (repS f)++l.drop k).length=l.length:=by simp; omega
  generalize l[k]=x at *;obtain ⟨xc,xs⟩:=x;generalize hcu:(l.take k).map (repS f)++l.drop k=L at *;dsimp only at hself;cases hfx:f xc with
  | none =>
   refine kP (tN (sQ (bK (sW I (lU (iA uT37 zT56 I I hb1 oM sL) (lK (eA iT56 zT56 I (Rd.rowA 0 I) hcur) (bW (aL zeroValue56) fun b7=>?_)))))));refine lA I (oZ (sK 0 zT56 I I I I I sB) ?_);refine tZ (sW rfl (lU (fA uT56 rfl zT3 rfl) (lK (qL (v:=vi xc) iT3 rfl (cO 0 rfl rfl)) (lK (SQ.eq (v':=.tuple #[vi 0,vb false]) (SQ.lookupOk mty70 rfl rfl (MapAt.known hb)) (by rw[hf,hfx]; rfl)) ?_))));refine lM I (yX I (yX I (lA I (aT I (sW I (tZ (cF I (kP (bN (tN (rG (yD I (lM I (nL (dR (.cons _ (.refl _)) ?_)))))))))))))));exact ST.again (k+1) sB I (by rw[hnext,hself hfx]) oM oM
  | some t =>
   have hrep:repS f ⟨xc,xs⟩=⟨t,xs⟩:=by unfold repS; rw[hfx]; rfl
   rw[hrep] at hnext;refine kP (tN (sQ (bK (sW I (lU (iA uT37 zT56 I I hb1 oM sL) (lK (eA iT56 zT56 I (Rd.rowA 0 I) hcur) (bW (aL zeroValue56) fun b7=>?_)))))));refine lA I (oZ (sK 0 zT56 I I I I I sB) ?_);refine tZ (sW rfl (lU (fA uT56 rfl zT3 rfl) (lK (qL (v:=vi xc) iT3 rfl (cO 0 rfl rfl)) (lK (SQ.eq (v':=.tuple #[vi t,vb true]) (SQ.lookupOk mty70 rfl rfl (MapAt.known hb)) (by rw[hf,hfx]; rfl)) ?_))));refine lM I (yX I (yX I (lA I (aT I (sW I (tZ (SC.condT I (rG (lM I (lM I (lM I (lU (iA uT37 zT56 I I hb1 oM sL) (lU (fC uT56 I zT3 I hb1) (oZ (SO.partA (e:=encSide) (o:=0) 1 (⟨t,xs⟩:Side) zT3 I I I hcur I I dC I) (nL (bN (tN (rG (yD I (lM I (nL (dR (.cons _ (.refl _)) ?_))))))))))))))))))))));exact ST.again (k+1) sB rfl (by rw[hnext]; rfl) oM oM
 ·have hall:(l.take k).map (repS f)++l.drop k=l.map (repS f):=by
   rw[tL oM,List.drop_of_length_le oM,List.append_nil]
  rw[hall];refine xI (tX (tX (bX (tN (sW I (lW (SO.call call151 I (sortSides E g _ _ (l.map (repS f)) 0 I (by rw[List.length_map]; exact hl))) ?_))))));rintro _ _ _ ⟨rfl,l',hp,ha,rfl⟩;refine tZ (sW I (aT I (rE ?_)));exact ST.ret1 (.inl I) results140 I ⟨I,l',hp,ha,I⟩
end Go.Proofs.YtmmghffoakhheaaGreatDoor
namespace Go.Sy
open Go Go.MapKept
section
variable {P:Program}{N:Nat}{E:World}{f:Fr}{g:PH}{s:Own}{dst:Option Tmp}{ty:TypeId}{pos:String}{af:Array Edge}{gd:Option (Nat×Bool)}
variable {t kt et:TypeId}{m r clk:Nat}{es:Array MapEntry}{vis:List MapEntry}{x y u:Operand}{l vl:List (Int×Value)}{z:Value}{b:Nat}{k:Int}{v:Value}
abbrev mx (b:Nat)(es:Array MapEntry)(clk:Nat):Ent:=pt b (.map es clk)
theorem mx_at (j:Nat)(hj:s[j]?=some (mx m es clk)):∀ w,At E g s w→w.heap[m]?=some (.map es clk):=fun w hw=>by
 have:=hw.own _ (List.mem_of_getElem? hj);simpa [mx,pt] using this
theorem At.openMap {w:World}{i:Nat}(hi:s[i]?=some (mp b l))(h:At E g s w):∃ es clk,MapI l es clk∧At E g (s.set i (mx b es clk)) w:=by
 obtain ⟨es,clk,h1,h2⟩:=h.own _ (List.mem_of_getElem? hi);have hf:=h.fresh _ (List.mem_of_getElem? hi);exact⟨es,clk,h2,h.turn hi I ⟨I,lR _⟩ I (lR _) (fun _ _ _=>I) (by simpa [mx,pt,mp] using h1) (fun b' hb'=>⟨(hf b' hb').2,.inl hb'⟩)⟩
theorem At.closeMap {w:World}{i:Nat}(hi:s[i]?=some (mx b es clk))(hI:MapI l es clk)(h:At E g s w):At E g (s.set i (mp b l)) w:=by
 have h1:=h.own _ (List.mem_of_getElem? hi);have hf:=h.fresh _ (List.mem_of_getElem? hi);exact h.turn hi I ⟨I,lR _⟩ I (lR _) (fun _ _ _=>I) ⟨es,clk,by simpa [mx,pt,mp] using h1,hI⟩ (fun b' hb'=>⟨(hf b' hb').2,.inl hb'⟩)
theorem SC.openMap {c:Code}{Q:Exit→Act→World→Prop}(i:Nat)(hi:s[i]?=some (mp b l))(h:∀ es clk,MapI l es clk→SC P N E c Q f g (s.set i (mx b es clk))):SC P N E c Q f g s:=fun a w ha hw=>by
 obtain ⟨es,clk,h1,h2⟩:=hw.openMap hi;exact h es clk h1 a w ha h2
theorem ST.closeMap {e:Exit}{Q:Exit→Act→World→Prop}(i:Nat)(hi:s[i]?=some (mx b es clk))(hI:MapI l es clk)(h:ST N E Q e f g (s.set i (mp b l))):ST N E Q e f g s:=fun a w ha hw=>h a w ha (hw.closeMap hi hI)
theorem SO.rangeG (hT:P.underlying t=some (.map kt et))(hx:ev f x=some (.map (some m)))(hmm:∀ w,At E g s w→w.heap[m]?=some (.map es clk)) :
  SO P N E ⟨dst,.range t x,ty,pos,af,gd⟩ f g s fun u g' s'=>∃ r,u=pp r 0∧g=g'∧s'=iter r m es clk []::s :=
 SO.of_run fun a w ha hw=>⟨pp w.heap.size 0,{ w with heap:=w.heap.push (.mapIter (some m) clk #[] clk) },g,iter w.heap.size m es clk []::s,by
  have hb:=hmm w hw;simp[execOp,ha.ev hx,Instr.range,run_underlying hT,MapKept.run_getObj_map hb],hw.alloc (e:=iter w.heap.size m es clk []) rfl rfl,_,rfl,rfl,rfl⟩
theorem SO.nextG (i:Nat)(hx:ev f x=some (pp r 0))(hi:s[i]?=some (iter r m es clk vis))(hmm:∀ w,At E g s w→w.heap[m]?=some (.map es clk))(hst:Stamped es clk)(hv:Vis es vis) :
  SO P N E ⟨dst,.next x false,ty,pos,af,gd⟩ f g s fun u g' s'=>g=g' ∧
   ((u = .tuple #[.bool false]∧s=s'∧∀ e∈es.toList,e∈vis)∨∃ e,e∈es.toList∧e.born ∉ vis.map (·.born)∧u = .tuple #[.bool true,e.key,e.val]∧s'=s.set i (iter r m es clk (vis++[e]))) :=
 SO.of_run fun a w ha hw=>by
  have hit:=hw.own _ (List.mem_of_getElem? hi);have hb:=hmm w hw;have hr:w.heap[r]?=some (.mapIter (some m) clk (vis.map (·.born)).toArray clk):=by simpa [iter] using hit
  have hget:(getObj r).run P w = .ok (.mapIter (some m) clk (vis.map (·.born)).toArray clk) w:=by simp[getObj,Sem.run,hr]
  have hold:∀ e∈es.toList,e.born<clk:=hst.1;have hall:(es.all (·.born≥clk))=true→es = #[]:=fun h=>by
   rw[Array.all_eq_true_iff_forall_mem] at h;apply Array.eq_empty_of_size_eq_zero;cases hsz:es.size with
   | zero=>rfl
   | succ q =>
    exfalso;have h0:0<es.size:=oM;have h1:=h es[0] (Array.getElem_mem h0);have h2:=hold es[0] (by simp);simp at h1;omega
  have hfl:(es.filter fun e=>!(vis.map (·.born)).toArray.contains e.born).filter (·.born<clk)=es.filter fun e=>!(vis.map (·.born)).toArray.contains e.born:=by
   apply Array.ext';simp only[Array.toList_filter];rw[List.filter_eq_self];intro e he;have:=hold e (List.mem_filter.1 he).1;simpa using this
  have hfn:(es.filter fun e=>!(vis.map (·.born)).toArray.contains e.born).filter (·.born≥clk) = #[]:=by
   apply Array.ext';simp only[Array.toList_filter];rw[List.filter_eq_nil_iff];intro e he;have:=hold e (List.mem_filter.1 he).1;simp; omega
  generalize hL:es.filter (fun e=>!(vis.map (·.born)).toArray.contains e.born)=left at hfl hfn;have hmem:∀ e,e∈left.toList↔e∈es.toList∧e.born ∉ vis.map (·.born):=fun e=>by
   rw[← hL];simp
  have hguard:(!(vis.map (·.born)).toArray.isEmpty && !es.isEmpty&&es.all (·.born≥clk))=false:=by
   cases h1:es.all (·.born≥clk) with
   | false=>simp
   | true=>rw[hall h1]; simp
  have hfresh:=hw.fresh _ (List.mem_of_getElem? hi) r rfl;by_cases hempty:left = #[]
  ·-- none is left
   refine⟨.tuple #[.bool false],w,g,s,?_,hw,I,.inl ⟨I,I,fun e he=>?_⟩⟩
   ·simp only[execOp,ha.ev hx,Instr.next,Sem.run_bind,hget,Result.andThen_ok,MapKept.run_getObj_map hb,hguard,Bool.false_eq_true,if_false,Sem.run_pure,hL,hfl,hfn,hempty];simp[choose,Sem.run,Question.forced]
   ·by_cases hin:e.born∈vis.map (·.born)
    ·obtain ⟨e',he',heq⟩:=List.mem_map.1 hin;rw[← born_inj hst (hv.sub e' he') he heq];exact he'
    ·have:=(hmem e).2 ⟨he,hin⟩;rw[hempty] at this;simp at this
  ·have hsz:0<left.size:=by
    rcases Nat.eq_zero_or_pos left.size with h | h
    ·exact absurd (Array.eq_empty_of_size_eq_zero h) hempty
    ·exact h
   have hcand:((if left.isEmpty then #[none] else #[])++(left ++ #[]).map some:Array (Option MapEntry))=left.map some:=by
    have:left.isEmpty=false:=by simpa using hempty
    simp[this]
   -- the entry that is drawn
   have hch:∃ (q:Nat) (w':World),(choose (.mapNext left.size)).run P w = .ok q w'∧q<left.size∧∃ n,w.drawn≤n∧w'={ w with drawn:=n }:=by
    by_cases h1:left.size≤1
    ·exact⟨0,w,by simp[choose,Sem.run,Question.forced,h1],hsz,w.drawn,lR _,I⟩
    ·exact⟨_,_,by simp[choose,Sem.run,Question.forced,h1,Question.cut]; rfl,Nat.mod_lt _ hsz,w.drawn+1,Nat.le_succ _,rfl⟩
   obtain ⟨q,w',hq1,hq2,n,hq0,hq3⟩:=hch;have hr':w'.heap[r]?=some (.mapIter (some m) clk (vis.map (·.born)).toArray clk):=by rw[hq3]; exact hr
   have hset:(setObj r (.mapIter (some m) clk ((vis.map (·.born)).toArray.push left[q].born) clk)).run P w' = .ok () { w' with heap:=w'.heap.setIfInBounds r (.mapIter (some m) clk ((vis.map (·.born)).toArray.push left[q].born) clk) }:=by
    simp[setObj,Sem.run,hr']
   have hin:left[q]∈left.toList:=by simp
   refine⟨.tuple #[.bool true,left[q].key,left[q].val],{ w' with heap:=w'.heap.setIfInBounds r (.mapIter (some m) clk ((vis.map (·.born)).toArray.push left[q].born) clk) },g,s.set i (iter r m es clk (vis++[left[q]])),?_,?_,I,.inr ⟨left[q],((hmem _).1 hin).1,((hmem _).1 hin).2,I,I⟩⟩
   ·simp only[execOp,ha.ev hx,Instr.next,Sem.run_bind,hget,Result.andThen_ok,MapKept.run_getObj_map hb,hguard,Bool.false_eq_true,if_false,Sem.run_pure,hL,hfl,hfn];rw[hcand];simp only[Array.size_map,hq1,Result.andThen_ok];have hg2:(left.map some)[q]?=some (some left[q]):=by simp[hq2]
    simp only[hg2,Sem.run_bind,hset,Result.andThen_ok,Sem.run_pure]
   ·have hw2:At E g s w':=by rw[hq3]; exact hw.drew n hq0
    have hlt:r<w'.heap.size:=by rw[hq3]; exact hfresh.2
    refine hw2.turn hi I ⟨I,(by exact lR _)⟩ I (by simp) (fun k _ hk=>by simp only[Array.getElem?_setIfInBounds_ne (fun e=>hk (by simp[iter,e]):r≠k)]) ?_ (fun b' hb'=>?_)
    ·simp[iter,hlt]
    ·simp only[iter,Option.some.injEq] at hb';subst hb';exact⟨by simpa using hlt,.inl I⟩
theorem SQ.entryG {e:MapEntry}(i:Nat)(hx:ev f x=some (pp r 0))(hi:s[i]?=some (iter r m es clk (vis++[e])))(hmm:∀ w,At E g s w→w.heap[m]?=some (.map es clk))(hst:Stamped es clk)(he:e∈es.toList) :
  SQ P N E ⟨dst,.entry x,ty,pos,af,gd⟩ f g s (.tuple #[e.key,e.val]):=fun a w ha hw=>by
 have hit:=hw.own _ (List.mem_of_getElem? hi);have hb:=hmm w hw;have hr:w.heap[r]?=some (.mapIter (some m) clk ((vis++[e]).map (·.born)).toArray clk):=by simpa [iter] using hit
 have hget:(getObj r).run P w = .ok (.mapIter (some m) clk ((vis++[e]).map (·.born)).toArray clk) w:=by simp[getObj,Sem.run,hr]
 have hback:((vis++[e]).map (·.born)).toArray.back?=some e.born:=by simp
 have hfind:es.find? (·.born == e.born)=some e:=by
  rw[← Array.find?_toList];have h1:(es.toList.find? (·.born == e.born)).isSome:=by
   rw[List.find?_isSome];exact⟨e,he,by simp⟩
  obtain ⟨e',he'⟩:=Option.isSome_iff_exists.1 h1;have h2:=List.find?_some he';have h3:=List.mem_of_find?_eq_some he';rw[he',born_inj hst h3 he (by simpa using h2)]
 simp[execOp,ha.ev hx,Instr.entry,hget,MapKept.run_getObj_map hb,hfind]
theorem SO.nextPG (i:Nat)(hx:ev f x=some (pp r 0))(hi:s[i]?=some (iter r m es clk vis))(hmm:∀ w,At E g s w→w.heap[m]?=some (.map es clk))(hI:MapI l es clk)(hv:RVis l es vis vl) :
  SO P N E ⟨dst,.next x false,ty,pos,af,gd⟩ f g s fun u g' s'=>g=g' ∧
   ((u = .tuple #[.bool false]∧s=s'∧vl.Perm l)∨∃ e p,e∈es.toList∧p∈l∧e.key=vi p.1∧e.val=p.2∧RVis l es (vis++[e]) (vl++[p])∧u = .tuple #[.bool true,vi p.1,p.2]∧s'=s.set i (iter r m es clk (vis++[e]))):=by
 refine SO.mono (SO.nextG i hx hi hmm hI.2 hv.ok) ?_;rintro u g' s' ⟨rfl,h⟩;refine⟨I,?_⟩
 rcases h with ⟨h1,h2,h3⟩ | ⟨e,h1,h2,h3,h4⟩
 ·exact .inl ⟨h1,h2,hv.all hI h3⟩
 ·have hp:entV e∈l.map pairV:=by rw[← hI.1]; exact List.mem_map.2 ⟨e,h1,rfl⟩
  obtain ⟨p,hp1,hp2⟩:=List.mem_map.1 hp;simp only[entV,pairV,Prod.mk.injEq] at hp2;refine .inr ⟨e,p,h1,hp1,hp2.1.symm,hp2.2.symm,⟨⟨?_,?_⟩,?_⟩,by rw[h3,hp2.1,hp2.2],h4⟩
  ·intro a ha
   rcases List.mem_append.1 ha with h5 | h5
   ·exact hv.ok.sub a h5
   ·simp at h5; rw[h5]; exact h1
  ·rw[List.map_append,List.nodup_append];refine⟨hv.ok.nodup,by simp,fun a ha b hb hab=>?_⟩;simp at hb;rw[hab,hb] at ha;exact h2 ha
  ·rw[List.map_append,List.map_append,hv.eq];simp[entV,pairV,hp2.1,hp2.2]
theorem SQ.entryPG {e:MapEntry}{p:Int×Value}(i:Nat)(hx:ev f x=some (pp r 0))(hi:s[i]?=some (iter r m es clk (vis++[e])))(hmm:∀ w,At E g s w→w.heap[m]?=some (.map es clk))(hI:MapI l es clk)(he:e∈es.toList)(hk:e.key=vi p.1)(hv:e.val=p.2) :
  SQ P N E ⟨dst,.entry x,ty,pos,af,gd⟩ f g s (.tuple #[vi p.1,p.2]):=by
 have:=SQ.entryG (P:=P) (N:=N) (E:=E) (f:=f) (s:=s) (dst:=dst) (ty:=ty) (pos:=pos) (af:=af) (gd:=gd) i hx hi hmm hI.2 he;rw[hk,hv] at this;exact this
def updP (k:Int)(v:Value)(p:Int×Value):Int×Value:=if p.1=k then (k,v) else p
def unK:Value→Option Int
 | .int .i64 n=>some n
 | _=>none
theorem unK_vi (a:Int):unK (vi a)=some a:=rfl
theorem unK_eq {x:Value}{k:Int}(h:unK x=some k):x=vi k:=by
 unfold unK at h;split at h
 ·injection h with h
  rw[h]
 ·cases h
def updE (k:Int)(v:Value)(e:MapEntry):MapEntry:=if unK e.key=some k then { e with key:=vi k,val:=v } else e
theorem updE_born (k:Int)(v:Value)(e:MapEntry):(updE k v e).born=e.born:=by unfold updE; split <;> rfl
theorem updE_list (k:Int)(v:Value):∀ (vis:List MapEntry) (vl:List (Int×Value)),vis.map entV=vl.map pairV→(vis.map (updE k v)).map entV=(vl.map (updP k v)).map pairV
 | [],[],_=>rfl
 | e::vis,(a,u)::vl,h=>by
  simp only[List.map_cons,List.cons.injEq,entV,pairV,Prod.mk.injEq] at h;obtain ⟨⟨h1,h2⟩,h3⟩:=h;have ih:=updE_list k v vis vl h3;simp only[List.map_cons,List.cons.injEq];refine⟨?_,ih⟩;unfold updE updP;by_cases hk:a=k
  ·subst hk;rw[if_pos (by rw[h1]; rfl),if_pos rfl];rfl
  ·have h4:¬ unK e.key=some k:=fun h5=>by
    rw[h1,unK_vi] at h5;injection h5 with h6
    exact hk h6
   rw[if_neg h4,if_neg hk];simp[entV,pairV,h1,h2]
 | [],_::_,h=>by simp at h
 | _::_,[],h=>by simp at h
theorem SO.mapUpdateX (j:Nat)(hT:MTy P t kt et z)(hx:ev f x=some (.map (some b)))(hy:ev f y=some (vi k))(hu:ev f u=some v)(hj:s[j]?=some (mx b es clk))(hI:MapI l es clk)(hk:∃ u,mget l k=some u) :
  SO P N E ⟨dst,.mapUpdate t x y u,ty,pos,af,gd⟩ f g s fun _ g' s'=>g=g'∧∃ es',s'=s.set j (mx b es' clk)∧MapI (mput l k v) es' clk∧∀ vis vl,RVis l es vis vl→RVis (mput l k v) es' (vis.map (updE k v)) (vl.map (updP k v)) :=
 SO.of_skip fun a w ha hw=>by
  have hb:w.heap[b]?=some (.map es clk):=mx_at j hj w hw;have hf:=findNow_eq k es.toList l 0 hI.1;have h1:=MapKept.run_findKey (w:=w) hT.key hf;have h2:=MapKept.run_checkKey (P:=P) (w:=w) hT.key (k:=vi k) rfl false 9999;have hlen:es.toList.length=l.length:=by have:=congrArg List.length hI.1; simpa using this
  rcases fnd_spec k l 0 with ⟨hn,hne⟩ | ⟨q,u0,hs,hq,hput⟩
  ·obtain ⟨u1,hu1⟩:=hk;unfold mget at hu1;rw[hn] at hu1;cases hu1
  ·have hql:q<es.toList.length:=by rw[hlen]; exact (List.getElem?_eq_some_iff.1 hq).1
   have hqs:q<es.size:=by simpa using hql
   have hkey:(es.toList[q]).key=vi k:=by
    have h3:=congrArg (·[q]?) hI.1;simp only[List.getElem?_map,hq,Option.map_some,gE hql,Option.some.injEq,entV,pairV,Prod.mk.injEq] at h3;exact h3.1
   have hje:es[q]?=some es.toList[q]:=by simp at hql; simp[hql]
   have huniq:∀ i (hi:i<es.size),es[i].key=vi k→i=q:=fun i hi he=>by
    have h5:(es.toList.map (·.key))[i]'(by simpa using hi)=(es.toList.map (·.key))[q]'(by simpa using hqs):=by
     rw[List.getElem_map,List.getElem_map,hkey];simpa using he
    exact (List.getElem_inj hI.2.2.2).1 h5
   have hmod:(es.modify q fun e=>{ e with key:=vi k,val:=v })=es.map (updE k v):=by
    apply Array.ext (by simp);intro i hi1 hi2;have hi:i<es.size:=by simpa using hi1
    rw[Array.getElem_modify,Array.getElem_map];unfold updE;by_cases e:q=i
    ·subst e;have h6:es[q].key=vi k:=by simpa using hkey
     rw[if_pos rfl,if_pos (by rw[h6]; rfl)]
    ·rw[if_neg e,if_neg (fun h=>e (huniq i hi (unK_eq h)).symm)]
   rw[hs,Nat.zero_add] at h1;have hfr:=hw.fresh _ (List.mem_of_getElem? hj) b rfl;obtain ⟨e1,e2⟩:=MapKept.heap_set (o':=.map (es.map (updE k v)) clk) hb;have h4:=MapKept.run_keyThatStays (P:=P) (w:=w) (d:=.int .i64) (k:=vi k) rfl;have hkey':∀ h:q<es.size,es[q].key=vi k:=fun h=>by simpa using hkey
   have hMI:MapI (mput l k v) (es.map (updE k v)) clk:=by
    refine⟨?_,?_⟩
    ·rw[Array.toList_map,updE_list k v _ _ hI.1,hput v];congr 1;apply List.ext_getElem (by simp);intro i h5 h6;have h7:i<l.length:=by simpa using h5
     have h8:i<es.size:=by
      have:es.toList.length=es.size:=by simp
      omega
     have h9:es[i].key=vi l[i].1:=by
      have h3:=congrArg (·[i]?) hI.1;simp only[List.getElem?_map,gE h7,gE (show i<es.toList.length by omega),Option.map_some,Option.some.injEq,entV,pairV,Prod.mk.injEq] at h3;simpa using h3.1
     rw[List.getElem_map,List.getElem_set];unfold updP;by_cases e:q=i
     ·subst e;have h10:l[q]=(k,u0):=(List.getElem?_eq_some_iff.1 hq).2;rw[if_pos rfl,if_pos (by rw[h10])]
     ·rw[if_neg e,if_neg (fun h=>e (huniq i h8 (by rw[h9,h])).symm)]
    ·rw[← hmod];exact stamped_modify hI.2 _ _ (fun _ _=>I) (fun e' _ he'=>by
      rw[hje] at he';injection he' with he'
      rw[← he',hkey])
   refine⟨{ w with heap:=w.heap.setIfInBounds b (.map (es.map (updE k v)) clk) },g,s.set j (mx b (es.map (updE k v)) clk),?_,?_,I,es.map (updE k v),I,hMI,fun vis vl hv=>?_⟩
   ·have hr:(Instr.mapUpdate t (.map (some b)) (vi k) v).run P w = .ok () { w with heap:=w.heap.setIfInBounds b (.map (es.map (updE k v)) clk) }:=by
     rw[← hmod];simp[Instr.mapUpdate,run_underlying hT.und,MapKept.run_getObj_map hb,h2,h1,hje,hkey',h4,MapKept.run_setObj_map _ hb]
    simp[execOp,ha.ev hx,ha.ev hy,ha.ev hu,hr]
   ·refine hw.turn hj I ⟨I,lR _⟩ I (by simp) (fun q _ hne=>e2 q (fun e=>hne (by simp[mx,pt,e]))) (by simpa [mx,pt] using e1) (fun b' hb'=>?_);simp only[mx,pt,Option.some.injEq] at hb';subst hb';exact⟨by simpa using hfr.2,.inl I⟩
   ·refine⟨⟨fun e he=>?_,?_⟩,updE_list k v _ _ hv.eq⟩
    ·obtain ⟨e0,he0,rfl⟩:=List.mem_map.1 he;rw[Array.toList_map];exact List.mem_map.2 ⟨e0,hv.ok.sub e0 he0,I⟩
    ·rw[List.map_map,show (fun e:MapEntry=>e.born) ∘ updE k v=fun e=>e.born from funext fun e=>updE_born k v e];exact hv.ok.nodup
end
end Go.Sy
namespace Go.Proofs.YtmmghffoakhheaaGreatDoor
open _root_.Go.Proofs.Tryz _root_.Go.Proofs.YtmmghffoakhheaaGreatDoor.Tryz
open Go Go.Sy Go.Pl Go.Proofs
def leSd (x y:Side):Bool:=decide (¬ cmpSd y x<0)
def srtS (l:List Side):List Side:=l.mergeSort leSd
theorem srtS_perm (l:List Side):(srtS l).Perm l:=List.mergeSort_perm l leSd
theorem srtS_asc (l:List Side):AscS (srtS l):=by
 have h:=List.pairwise_mergeSort (le:=leSd) (fun a b c h1 h2=>by
  unfold leSd at *;rw[decide_eq_true_iff,cmpSd_neg] at *;omega) (fun a b=>by
  unfold leSd;rw[Bool.or_eq_true,decide_eq_true_iff,decide_eq_true_iff,cmpSd_neg,cmpSd_neg];omega) l
 refine List.Pairwise.imp ?_ h;intro a b h1;exact of_decide_eq_true h1
theorem srtS_of {l m:List Side}(hp:m.Perm l)(ha:AscS m):m=srtS l:=asc_unique ha (srtS_asc l) (hp.trans (srtS_perm l).symm)
def mapAt (F:Cl→Cl)(A:List Cl)(ids:List Int):List Cl:=A.map fun y=>if y.id∈ids then F y else y
section
variable {F:Cl→Cl}(hF:∀ y,(F y).id=y.id)
include hF
theorem mapAt_put {ids:List Int}{id:Int}(hid:id ∉ ids){y:Cl}:∀ {A:List Cl},(A.map Cl.id).Nodup→findT A id=some y→putC (mapAt F A ids) (F y)=mapAt F A (ids++[id])
 | [],_,hy=>by cases hy
 | c::A,hn,hy=>by
  rw[List.map_cons,List.nodup_cons] at hn;unfold findT at hy;rw[List.find?_cons] at hy;have hs:∀ i,mapAt F (c::A) i=(if c.id∈i then F c else c)::mapAt F A i:=fun _=>rfl;rw[hs,hs];by_cases h:c.id=id
  ·rw[decide_eq_true h] at hy;injection hy with hy
   subst hy;subst h;rw[if_neg hid,if_pos (by simp)];have e1:putC (c::mapAt F A ids) (F c)=F c::mapAt F A ids:=by simp[putC,hF]
   rw[e1];congr 1;unfold mapAt;refine List.map_congr_left fun x hx=>?_;have hne:x.id≠c.id:=fun he=>hn.1 (by rw[← he]; exact List.mem_map.2 ⟨x,hx,rfl⟩);by_cases h1:x.id∈ids
   ·rw[if_pos h1,if_pos (by simp[h1])]
   ·rw[if_neg h1,if_neg (by simp[h1,hne])]
  ·rw[decide_eq_false h] at hy;have hyid:y.id=id:=by simpa using List.find?_some hy
   have ih:=mapAt_put hid hn.2 hy;have h1:(if c.id∈ids then F c else c).id=c.id:=by split <;> simp[hF]
   have e1:∀ (d:Cl) (L:List Cl),d.id=c.id→putC (d::L) (F y)=d::putC L (F y):=fun d L hd=>by
    have:¬ (F y).id=d.id:=by rw[hd,hF,hyid]; exact fun h'=>h h'.symm
    simp[putC,this]
   rw[e1 _ _ h1,ih];congr 1;by_cases h2:c.id∈ids
   ·rw[if_pos h2,if_pos (by simp[h2])]
   ·rw[if_neg h2,if_neg (by simp[h2,h])]
end
theorem mapAt_nil (F:Cl→Cl)(A:List Cl):mapAt F A []=A:=by simp[mapAt]
theorem mapAt_all {F:Cl→Cl}{A:List Cl}{ids:List Int}(h:∀ c∈A,c.id∈ids):mapAt F A ids=A.map F:=List.map_congr_left fun c hc=>by rw[if_pos (h c hc)]
theorem mapAt_mem {F:Cl→Cl}{A:List Cl}{ids:List Int}{c:Cl}(hF:∀ y,(F y).id=y.id)(h:c∈mapAt F A ids)(hc:c.id ∉ ids):c∈A:=by
 unfold mapAt at h;obtain ⟨y,hy,he⟩:=List.mem_map.1 h;split at he
 ·rename_i h1;rw[← he,hF] at hc;exact absurd h1 hc
 ·rw[← he];exact hy
theorem mapAt_ids {F:Cl→Cl}(hF:∀ y,(F y).id=y.id)(A:List Cl)(ids:List Int):(mapAt F A ids).map Cl.id=A.map Cl.id:=by
 unfold mapAt;rw[List.map_map];refine List.map_congr_left fun c _=>?_;simp only[Function.comp];split
 ·exact hF c
 ·rfl
def allP (ps:List Pr):List Int:=ps.flatMap fun p=>[p.1,p.2]
theorem allP_snoc (ps:List Pr)(p:Pr):allP (ps++[p])=allP ps++[p.1,p.2]:=by
 unfold allP;rw[List.flatMap_append];rfl
def dupP (ps:List Pr):Bool:=decide (¬ (allP ps).Nodup)
theorem dupP_snoc (ps:List Pr)(p:Pr):dupP (ps++[p])=(dupP ps||decide (p.1∈allP ps)||decide (p.2∈allP ps)||decide (p.1=p.2)):=by
 unfold dupP;rw[allP_snoc,Bool.eq_iff_iff];simp only[Bool.or_eq_true,decide_eq_true_iff];have h:(allP ps++[p.1,p.2]).Nodup↔(allP ps).Nodup∧p.1 ∉ allP ps∧p.2 ∉ allP ps∧p.1≠p.2:=by
  rw[List.nodup_append];simp only[List.nodup_cons,List.mem_singleton,List.not_mem_nil,not_false_eq_true,List.nodup_nil,and_true,List.mem_cons,or_false];constructor
  ·rintro ⟨h1,h2,h3⟩;exact⟨h1,fun hm=>h3 _ hm _ (.inl I) I,fun hm=>h3 _ hm _ (.inr I) I,h2⟩
  ·rintro ⟨h1,h2,h3,h4⟩;refine⟨h1,h4,fun a ha b hb=>?_⟩
   rcases hb with rfl | rfl
   ·exact fun e=>h2 (e ▸ ha)
   ·exact fun e=>h3 (e ▸ ha)
 rw[h];by_cases h1:(allP ps).Nodup <;> by_cases h2:p.1∈allP ps <;> by_cases h3:p.2∈allP ps <;> by_cases h4:p.1=p.2 <;> simp[h1,h2,h3,h4]
def swP (p:Pr):Int×Value:=(p.2,vi p.1)
def byF (ps:List Pr)(k:Int):Option Int:=(ps.find? fun p=>decide (p.2=k)).map Prod.fst
theorem second_new {ps:List Pr}{p:Pr}(h:p.2 ∉ allP ps):∀ q∈ps.map swP,q.1≠p.2:=fun q hq e=>by
 obtain ⟨r,hr,rfl⟩:=List.mem_map.1 hq;refine h ?_;unfold allP;rw[List.mem_flatMap];refine⟨r,hr,?_⟩;have e2:r.2=p.2:=e;simp[e2]
theorem byF_get (ps:List Pr)(k:Int):mget (ps.map swP) k=(byF ps k).map vi:=by
 induction ps with
 | nil=>rfl
 | cons p ps ih =>
  unfold byF;rw[List.map_cons,List.find?_cons];have hc:swP p=(p.2,vi p.1):=rfl;rw[hc,mget_cons];by_cases h:k=p.2
  ·rw[if_pos h,decide_eq_true h.symm];rfl
  ·rw[if_neg h,decide_eq_false (fun e=>h e.symm),ih];rfl
theorem seconds_nodup {ps:List Pr}(h:(allP ps).Nodup):(ps.map Prod.snd).Nodup:=by
 induction ps with
 | nil=>simp
 | cons p ps ih =>
  have hc:allP (p::ps)=p.1::p.2::allP ps:=rfl;rw[hc,List.nodup_cons,List.nodup_cons] at h;rw[List.map_cons,List.nodup_cons];refine⟨fun hm=>h.2.1 ?_,ih h.2.2⟩;obtain ⟨q,hq,e⟩:=List.mem_map.1 hm;unfold allP;rw[List.mem_flatMap];exact⟨q,hq,by simp[e]⟩
theorem rvis_keys {l:List (Int×Value)}{es:Array MapEntry}{clk:Nat}{vis:List MapEntry}{vl:List (Int×Value)}(h:RVis l es vis vl)(hm:MapI l es clk):(vl.map Prod.fst).Nodup:=by
 have h1:(vis.map (·.key)).Nodup:=by
  rw[List.Nodup,List.pairwise_map];have h2:vis.Pairwise fun a b=>a.born≠b.born:=by
   have:=h.ok.nodup;rwa [List.Nodup,List.pairwise_map] at this
  refine List.Pairwise.imp_of_mem ?_ h2;intro a b ha hb hab he;have hk:=hm.2.2.2;obtain ⟨i,hi,rfl⟩:=List.getElem_of_mem (h.ok.sub a ha);obtain ⟨j,hj,rfl⟩:=List.getElem_of_mem (h.ok.sub b hb);have h3:(es.toList.map (·.key))[i]'(by simpa using hi)=(es.toList.map (·.key))[j]'(by simpa using hj):=by rw[List.getElem_map,List.getElem_map]; exact he
  have h4:=(List.getElem_inj hk).1 h3;subst h4;exact hab I
 have h2:vis.map (·.key)=(vl.map Prod.fst).map vi:=by
  have h3:=congrArg (List.map Prod.fst) h.eq;rw[List.map_map,List.map_map] at h3;rw[List.map_map];exact h3
 rw[h2] at h1;exact List.Pairwise.of_map vi (fun a b hab hne=>hab (by rw[hne])) h1
def repC (f:Int→Option Int)(c:Cl):Cl:=⟨c.id,c.dim,srtS (c.sides.map (repS f))⟩
def dimOf (A:List Cl)(id:Int):Int:=((findT A id).getD zeroC).dim
def sidesT (A:List Cl)(id:Int):List Side:=((findT A id).getD zeroC).sides
def alikeP (A:List Cl)(ps:List Pr)(p:Pr):Bool:=decide (srtS ((sidesT A p.1).map (repS (byF ps)))=srtS ((sidesT A p.2).map (repS (byF ps))))
def identCode (A:List Cl)(e:Ed):Int :=
 if e.pairs.all (fun p=>(findT A p.1).isSome&&(findT A p.2).isSome) then
  if dupP e.pairs then 54 else if e.pairs.any (fun p=>decide (dimOf A p.1≠dimOf A p.2)) then 21 else if e.pairs.all (alikeP A e.pairs) then 0 else 33
 else 30
def restC (A:List Cl)(ks:List Int):List Cl:=A.filter fun c=>!decide (c.id∈ks)
def identOut (A:List Cl)(e:Ed):List Cl:=(restC A (e.pairs.map Prod.snd)).map (repC (byF e.pairs))
def identImg (e:Ed)(k:Int):List Tm:=match byF e.pairs k with
 | some t=>[(t,1)]
 | none=>[(k,1)]
theorem restC_del {A:List Cl}(hn:(A.map Cl.id).Nodup)(ks:List Int)(k:Int):delC (restC A ks) k=restC A (ks++[k]):=by
 have h1:((restC A ks).map Cl.id).Nodup:=(List.filter_sublist.map Cl.id).nodup hn;rw[delC_filter k h1];unfold restC;rw[List.filter_filter];refine List.filter_congr fun c _=>?_;by_cases h2:c.id∈ks <;> by_cases h3:c.id=k <;> simp[h2,h3]
end Go.Proofs.YtmmghffoakhheaaGreatDoor
