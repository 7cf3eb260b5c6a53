/- Ed17 R12e R12f R12g R12h R12i Ed18 Pl12 Pl13 Ed19 E14 -/
import Derived.Test.YtmmghffoakhheaaGreatDoorAt11
import Derived.Test.YtmmghffoakhheaaGreatDoorAt10
import Derived.Test.YtmmghffoakhheaaGreatDoorAt05
import Derived.Test.YtmmghffoakhheaaGreatDoorAt07
import Derived.Test.YtmmghffoakhheaaGreatDoorAt06
import Derived.Test.YtmmghffoakhheaaGreatDoorAt09
set_option linter.unusedSimpArgs false
set_option linter.unusedVariables false
namespace Go.Proofs.YtmmghffoakhheaaGreatDoor
open _root_.Go.Proofs.Tryz _root_.Go.Proofs.YtmmghffoakhheaaGreatDoor.Tryz
open Go Go.Sy Go.Pl Go.Proofs
set_option maxRecDepth 100000
set_option maxHeartbeats 8000000
theorem iter_upd (r m:Nat)(es es':Array MapEntry)(clk:Nat)(vis:List MapEntry)(k:Int)(v:Value):iter r m es clk (vis.map (updE k v))=iter r m es' clk vis:=by
 unfold iter;rw[List.map_map,show (fun e:MapEntry=>e.born) ∘ updE k v=fun e=>e.born from funext fun e=>updE_born k v e]
theorem updP_keys (k:Int)(v:Value)(vl:List (Int×Value)):(vl.map (updP k v)).map Prod.fst=vl.map Prod.fst:=by
 rw[List.map_map];refine List.map_congr_left fun p _=>?_;simp only[Function.comp];unfold updP;split
 ·rename_i h;exact h.symm
 ·rfl
theorem perm_in (x:Ent)(L R s:Own):(x::(L++(R++s))).Perm (L++((R++[x])++s)):=by
 have h:=(List.perm_middle (a:=x) (l₁:=L++R) (l₂:=s)).symm;simpa [List.append_assoc] using h
theorem set_two {sl:List (Int×Value)}{L:List Int}(h:SetI sl fun k=>decide (k∈L))(a b:Int):SetI (mput (mput sl a (vb true)) b (vb true)) fun k=>decide (k∈L++[a,b]):=((h.put a).put b).congr fun k=>by
 by_cases h1:k=a <;> by_cases h2:k=b <;> by_cases h3:k∈L <;> simp[h1,h2,h3]
theorem byF_of {ps:List Pr}(h:(ps.map Prod.snd).Nodup){q:Pr}(hq:q∈ps):byF ps q.2=some q.1:=by
 unfold byF;induction ps with
 | nil=>simp at hq
 | cons p ps ih =>
  rw[List.map_cons,List.nodup_cons] at h;rw[List.find?_cons]
  rcases List.mem_cons.1 hq with rfl | hq
  ·simp
  ·have hne:¬ p.2=q.2:=fun e=>h.1 (by rw[e]; exact List.mem_map.2 ⟨q,hq,rfl⟩);rw[decide_eq_false hne];exact ih h.2 hq
theorem byF_none {ps:List Pr}{k:Int}(h:k ∉ ps.map Prod.snd):byF ps k=none:=by
 unfold byF;rw[List.find?_eq_none.2 fun p hp=>by
  have:p.2≠k:=fun e=>h (by rw[← e]; exact List.mem_map.2 ⟨p,hp,rfl⟩);simpa using this]
 rfl
theorem img_ident {e:Ed}{ts:Ts}(hk:∀ k,k∈ts.map Prod.fst↔k∈e.pairs.map Prod.snd)(hn:(e.pairs.map Prod.snd).Nodup)(ht:∀ t∈ts,∃ q∈e.pairs,q.2=t.1∧t.2.2=[(q.1,1)])(k:Int):imgT ts k=identImg e k:=by
 unfold imgT identImg;cases hf:ts.find? fun t=>decide (t.1=k) with
 | some t =>
  have h1:=List.mem_of_find?_eq_some hf;have h2:t.1=k:=by simpa using List.find?_some hf
  obtain ⟨q,hq,h3,h4⟩:=ht t h1;have h5:=byF_of hn hq;rw[h3,h2] at h5;rw[h5];dsimp only;rw[h4];rfl
 | none =>
  have h1:k ∉ ts.map Prod.fst:=fun hm=>by
   obtain ⟨t,ht1,ht2⟩:=List.mem_map.1 hm;have:=List.find?_eq_none.1 hf t ht1;simp[ht2] at this
  rw[byF_none (fun hm=>h1 ((hk k).2 hm))]
theorem prsT_snoc (ts:Ts)(t:Int×Value×List Tm):prsT (ts++[t])=prsT ts++[(t.1,t.2.1)]:=by unfold prsT; rw[List.map_append]; rfl
theorem rowsT_snoc (ts:Ts)(t:Int×Value×List Tm):rowsT (ts++[t])=rowsT ts++[rowA encTm 156 t.2.1 t.2.2]:=by unfold rowsT; rw[List.map_append]; rfl
theorem prsT_keys (ts:Ts):(prsT ts).map Prod.fst=ts.map Prod.fst:=by unfold prsT; rw[List.map_map]; rfl
theorem rc_keys (rs:List Rc):(rs.map rcPair).map Prod.fst=rs.map Rc.id:=by rw[List.map_map]; rfl
theorem identify_spec (E:World)(g:PH)(s:Own)(bx mb ms:Nat)(u v:Value)(e:Ed)(A:List Cl)(rs:List Rc)(hf:Fits A)(hn:(A.map Cl.id).Nodup)(hall:All2 (CellR g) A rs)(he:EdR g v e)(hpl:e.pairs.length<1099511627776) :
  Ctr Tryz.prog E 108 #[pp bx 0,v] g (edP bx u mb ms false::mp mb (rs.map rcPair)::mp ms []::s) (fun r g' s'=>Le g g'∧r=vi (identCode A e) ∧
   (if identCode A e=0 then ∃ rs' ts,All2 (CellR g') (identOut A e) rs'∧TsOk ts∧(ts.map Prod.fst).Nodup∧(∀ k,imgT ts k=identImg e k)∧s'=edP bx u mb ms false::mp mb (rs'.map rcPair)::mp ms (prsT ts)::(rowsT ts++s) else ∃ h,s'=h++s)):=by
 obtain ⟨sv,pv,rfl,hsv,hpv⟩:=he;have hsvf:=SlA.form hsv;have hpvf:=SlA.form hpv;obtain ⟨sp,sc,rfl⟩:=hsvf;obtain ⟨qp,qc,rfl⟩:=hpvf;have hfnd:∀ {gg:PH} {id:Int},All2 (CellR gg) A rs→(findT A id).isSome=true→∃ cc rr,findT A id=some cc∧cc∈A∧mget (rs.map rcPair) id=some (rcv rr)∧CellR gg cc rr:=fun {gg id} hal h=>by
  rcases all2_findG (fun _ _ h=>h.1) hal id with ⟨h1,_⟩ | ⟨cc,rr,h1,h2,h3⟩
  ·unfold findT at h; rw[h1] at h; cases h
  ·exact⟨cc,rr,h1,List.mem_of_find?_eq_some h1,h2,h3⟩
 refine Ctr.of (args:=[pp bx 0,.agg #[vi e.kind,vi e.cell,vi e.dim,vi e.new,vi e.other,.slice sp e.sides.length sc,.slice qp e.pairs.length qc]]) func108 I ntmps108 (bE I) ?_;refine rZ (bW (bO I) fun b3=>?_);refine aT I (rZ (lW (SO.mkMap) ?_));rintro _ _ _ ⟨b17,rfl,rfl,rfl⟩;refine lW (SO.mkMap) ?_;rintro _ _ _ ⟨b18,rfl,rfl,rfl⟩;refine lA I (aT I (rZ (lA I (aT I (sQ (rZ (lU (fA uT39 I sizeOf31 I) (lK (qL (v:=.slice qp e.pairs.length qc) isAgg31 I (cO 2 I I)) (lU (eN uT31 I) (lM I (tZ (bK ?_))))))))))));refine oP (ι:=Nat×List (Int×Value)×List (Int×Value)) (fun i=>[(0,pp bx 0),(3,pp b3 0),(5,.map (some b17)),(6,.map (some b18)),(7,vb (dupP (e.pairs.take i.1))),(8,vb ((e.pairs.take i.1).any fun p=>decide (dimOf A p.1≠dimOf A p.2))),(20,.slice qp e.pairs.length qc),(21,vi e.pairs.length),(22,vi i.1)]) (fun _=>g)
  (fun i=>mp b18 i.2.1::mp b17 i.2.2::pt b3 (.cells (edV e (.slice sp e.sides.length sc) (.slice qp e.pairs.length qc)) 39 (0,0))::edP bx u mb ms false::mp mb (rs.map rcPair)::mp ms []::s)
  (fun i=>i.1≤e.pairs.length∧SetI i.2.1 (fun k=>decide (k∈allP (e.pairs.take i.1)))∧(dupP (e.pairs.take i.1)=false→i.2.2=(e.pairs.take i.1).map swP)∧(∀ p∈e.pairs.take i.1,(findT A p.1).isSome=true∧(findT A p.2).isSome=true)) (fun i=>e.pairs.length - i.1) (0,[],[])
  ⟨rfl,rfl,rfl,rfl,(by rw[List.take_zero]; rfl),rfl,rfl,rfl,rfl,trivial⟩ rfl rfl ⟨Nat.zero_le _,SetI.nil.congr (fun k=>by simp[allP]),fun _=>rfl,fun p hp=>by simp at hp⟩ ?_
 rintro ⟨k,sl,bl⟩ ⟨hk,hsl,hbl,hfd⟩;dsimp only at hk hsl hbl hfd ⊢;refine rZ (yL I (tZ (sQ ?_)));refine iP I (fun hlt=>?_) (fun hlt=>?_)
 ·have hkl:k<e.pairs.length:=oM;have hb1:=SlA.based hpv oM;have hgk:e.pairs[((k:Nat):Int).toNat]?=some e.pairs[k]:=gE hkl;have htk:e.pairs.take (k+1)=e.pairs.take k++[e.pairs[k]]:=tS hkl;have hd1:=dupP_snoc (e.pairs.take k) e.pairs[k];have hal1:=allP_snoc (e.pairs.take k) e.pairs[k];have hnew:=second_new (ps:=e.pairs.take k) (p:=e.pairs[k]);have hany:(e.pairs.take (k+1)).any (fun p=>decide (dimOf A p.1≠dimOf A p.2))=((e.pairs.take k).any (fun p=>decide (dimOf A p.1≠dimOf A p.2))||decide (dimOf A e.pairs[k].1≠dimOf A e.pairs[k].2)):=by rw[htk,List.any_append]; simp
  have hnone:¬ ((findT A e.pairs[k].1).isSome=true∧(findT A e.pairs[k].2).isSome=true)→identCode A e=30:=fun h=>by
   unfold identCode;rw[if_neg];intro h2;have h3:=List.all_eq_true.1 h2 _ (gM hkl);rw[Bool.and_eq_true] at h3;exact h h3
  rw[← htk] at hd1 hal1;generalize e.pairs[k]=x at *;obtain ⟨x1,x2⟩:=x;dsimp only at hd1 hal1 hany hnone hnew;cases hx1:(findT A x1).isSome with
  | false =>
   rw[hnone (by rw[hx1]; rintro ⟨h,_⟩; cases h)];refine kP (tN (sQ (bK (rZ (lU (iA uT31 zT44 I I hb1 oM sL) (lK (eA iT44 zT44 I (SlA.rd hpv) hgk) (bW (aL zeroValue44) fun b10=>?_)))))));refine oZ (sK 0 zT44 I I I I I sB) ?_;refine tZ (sQ (sW I (lU (iB uT44 zT3 I I dC dC) (lK (qL (v:=vi x1) iT3 I (cO 0 I I)) (lW (SO.call call135 I (has_editor E g _ bx mb ms _ false x1 _ (fun _ _ h=>h.1) A rs hall 4 5 I I)) ?_)))));rintro _ _ _ ⟨rfl,rfl,rfl⟩;rw[hx1];refine lU (SU.not I) (lM I (yA I (yA I (yA I (yA I (yA I (yP I (tZ (SC.condT I (rZ (aT I (rE (tR (bR (tR (tR (bR (tR ?_))))))))))))))))));exact ST.ret1 (.inl I) results108 I ⟨Le.refl _,I,by rw[if_neg dC]; exact⟨[_,_,_,_,_,_,_],I⟩⟩
  | true =>
  cases hx2:(findT A x2).isSome with
  | false =>
   rw[hnone (by rw[hx2]; rintro ⟨_,h⟩; cases h)];refine kP (tN (sQ (bK (rZ (lU (iA uT31 zT44 I I hb1 oM sL) (lK (eA iT44 zT44 I (SlA.rd hpv) hgk) (bW (aL zeroValue44) fun b10=>?_)))))));refine oZ (sK 0 zT44 I I I I I sB) ?_;refine tZ (sQ (sW I (lU (iB uT44 zT3 I I dC dC) (lK (qL (v:=vi x1) iT3 I (cO 0 I I)) (lW (SO.call call135 I (has_editor E g _ bx mb ms _ false x1 _ (fun _ _ h=>h.1) A rs hall 4 5 I I)) ?_)))));rintro _ _ _ ⟨rfl,rfl,rfl⟩;rw[hx1];refine lU (SU.not I) (lM I (yC I (lY I I I (iB uT44 zT3 I I dC dC) (SL.gq (gT I I I dC) (qL (v:=vi x2) iT3 I (cO 0 I I)) dC (SL.go (gT I I I dC) (SO.call call135 I (has_editor E g _ bx mb ms _ false x2 _ (fun _ _ h=>h.1) A rs hall 4 5 I I)) dC ?_)))));rintro _ _ _ ⟨rfl,rfl,rfl⟩;rw[hx2];refine lY I I I (SU.not I) (yF I (tZ (SC.condT I (rZ (aT I (rE (tR (bR (tR (tR (bR (tR ?_))))))))))));exact ST.ret1 (.inl I) results108 I ⟨Le.refl _,I,by rw[if_neg dC]; exact⟨[_,_,_,_,_,_,_],I⟩⟩
  | true =>
  obtain ⟨c1,r1,hc1,hcm1,hg1,hr1⟩:=hfnd hall hx1;obtain ⟨c2,r2,hc2,hcm2,hg2,hr2⟩:=hfnd hall hx2;have hdm1:dimOf A x1=c1.dim:=by unfold dimOf; rw[hc1]; rfl
  have hdm2:dimOf A x2=c2.dim:=by unfold dimOf; rw[hc2]; rfl
  rw[hdm1,hdm2] at hany;obtain ⟨ri1,rd1,rp1,rn1,rk1⟩:=r1;obtain ⟨ri2,rd2,rp2,rn2,rk2⟩:=r2;obtain ⟨-,f1,-⟩:=hr1;obtain ⟨-,f2,-⟩:=hr2;dsimp only at f1 f2;subst f1 f2;refine kP (tN (sQ (bK (rZ (lU (iA uT31 zT44 I I hb1 oM sL) (lK (eA iT44 zT44 I (SlA.rd hpv) hgk) (bW (aL zeroValue44) fun b10=>?_)))))));refine oZ (sK 0 zT44 I I I I I sB) ?_;refine tZ (sQ (sW I (lU (iB uT44 zT3 I I dC dC) (lK (qL (v:=vi x1) iT3 I (cO 0 I I)) (lW (SO.call call135 I (has_editor E g _ bx mb ms _ false x1 _ (fun _ _ h=>h.1) A rs hall 4 5 I I)) ?_)))));rintro _ _ _ ⟨rfl,rfl,rfl⟩;rw[hx1];refine lU (SU.not I) (lM I (yC I (lY I I I (iB uT44 zT3 I I dC dC) (SL.gq (gT I I I dC) (qL (v:=vi x2) iT3 I (cO 0 I I)) dC (SL.go (gT I I I dC) (SO.call call135 I (has_editor E g _ bx mb ms _ false x2 _ (fun _ _ h=>h.1) A rs hall 4 5 I I)) dC ?_)))));rintro _ _ _ ⟨rfl,rfl,rfl⟩;rw[hx2];refine lY I I I (SU.not I) (yF I (tZ (cF I (kP (tN ?_)))));refine SC.cut (ι:=Unit) (fun _=>[(0,pp bx 0),(3,pp b3 0),(5,.map (some b17)),(6,.map (some b18)),(7,vb (dupP (e.pairs.take (k+1)))),(8,vb ((e.pairs.take k).any fun p=>decide (dimOf A p.1≠dimOf A p.2))),(10,pp b10 0),(20,.slice qp e.pairs.length qc),(21,vi e.pairs.length),(22,vi k)]) (fun _=>g)
   (fun _=>pt b10 (.cells #[vi x1,vi x2] 44 (0,0))::mp b18 sl::mp b17 bl::pt b3 (.cells (edV e (.slice sp e.sides.length sc) (.slice qp e.pairs.length qc)) 39 (0,0))::edP bx u mb ms false::mp mb (rs.map rcPair)::mp ms []::s) (fun _=>True) ?_ ?_
  ·rw[hd1];cases hd0:dupP (e.pairs.take k) with
   | true =>
    refine rG (lM I (lM I (yA I (yA I (yA I (yA I (yP I (lM I (yA I (yA I (yA I (yA I (yP I (lM I (yA I (yA I (yA I (yA I (yA I (yP I (lA I (nL ?_))))))))))))))))))))));exact ST.mid () sB I I trivial
   | false =>
   by_cases hm1:x1∈allP (e.pairs.take k)
   ·refine rG (lM I (lM I (yC I (lY I I I (iB uT44 zT3 I I dC dC) (SL.gq (gT I I I dC) (qL (v:=vi x1) iT3 I (cO 0 I I)) dC (SL.gq (gT I I I dC) (SQ.eq (v':=vb true) (SQ.lookup mty71 I I (MapAt.own 1 I)) ((hsl.get x1).trans (congrArg vb (decide_eq_true hm1)))) dC (yF I (lM I (yA I (yA I (yA I (yA I (yP I (lM I (yA I (yA I (yA I (yA I (yA I (yP I (lA I (nL ?_))))))))))))))))))))));exact ST.mid () ⟨rfl,rfl,rfl,rfl,(by rw[decide_eq_true hm1]; rfl),rfl,rfl,rfl,rfl,rfl,trivial⟩ rfl rfl trivial
   by_cases hm2:x2∈allP (e.pairs.take k)
   ·refine rG (lM I (lM I (yC I (lY I I I (iB uT44 zT3 I I dC dC) (SL.gq (gT I I I dC) (qL (v:=vi x1) iT3 I (cO 0 I I)) dC (SL.gq (gT I I I dC) (SQ.eq (v':=vb false) (SQ.lookup mty71 I I (MapAt.own 1 I)) ((hsl.get x1).trans (congrArg vb (decide_eq_false hm1)))) dC (yF I (lM I (yC I (lY I I I (iB uT44 zT3 I I dC dC) (SL.gq (gT I I I dC) (qL (v:=vi x2) iT3 I (cO 0 I I)) dC (SL.gq (gT I I I dC) (SQ.eq (v':=vb true) (SQ.lookup mty71 I I (MapAt.own 1 I)) ((hsl.get x2).trans (congrArg vb (decide_eq_true hm2)))) dC (yF I (lM I (yA I (yA I (yA I (yA I (yA I (yP I (lA I (nL ?_))))))))))))))))))))));exact ST.mid () ⟨rfl,rfl,rfl,rfl,(by rw[decide_eq_false hm1,decide_eq_true hm2]; rfl),rfl,rfl,rfl,rfl,rfl,trivial⟩ rfl rfl trivial
   ·refine rG (lM I (lM I (yC I (lY I I I (iB uT44 zT3 I I dC dC) (SL.gq (gT I I I dC) (qL (v:=vi x1) iT3 I (cO 0 I I)) dC (SL.gq (gT I I I dC) (SQ.eq (v':=vb false) (SQ.lookup mty71 I I (MapAt.own 1 I)) ((hsl.get x1).trans (congrArg vb (decide_eq_false hm1)))) dC (yF I (lM I (yC I (lY I I I (iB uT44 zT3 I I dC dC) (SL.gq (gT I I I dC) (qL (v:=vi x2) iT3 I (cO 0 I I)) dC (SL.gq (gT I I I dC) (SQ.eq (v':=vb false) (SQ.lookup mty71 I I (MapAt.own 1 I)) ((hsl.get x2).trans (congrArg vb (decide_eq_false hm2)))) dC (yF I (lM I (lY I I I (iB uT44 zT3 I I dC dC) (SL.gq (gT I I I dC) (qL (v:=vi x1) iT3 I (cO 0 I I)) dC (lY I I I (iB uT44 zT3 I I dC dC) (SL.gq (gT I I I dC) (qL (v:=vi x2) iT3 I (cO 0 I I)) dC (lY I I I (eQ I I) (yF I (lA I (nL ?_))))))))))))))))))))));exact ST.mid () ⟨rfl,rfl,rfl,rfl,(by rw[decide_eq_false hm1,decide_eq_false hm2]; rfl),rfl,rfl,rfl,rfl,rfl,trivial⟩ rfl rfl trivial
  rintro _ -;try dsimp only
  refine SC.cut (ι:=Unit) (fun _=>[(0,pp bx 0),(3,pp b3 0),(5,.map (some b17)),(6,.map (some b18)),(7,vb (dupP (e.pairs.take (k+1)))),(8,vb ((e.pairs.take (k+1)).any fun p=>decide (dimOf A p.1≠dimOf A p.2))),(10,pp b10 0),(20,.slice qp e.pairs.length qc),(21,vi e.pairs.length),(22,vi k)]) (fun _=>g)
   (fun _=>pt b10 (.cells #[vi x1,vi x2] 44 (0,0))::mp b18 sl::mp b17 bl::pt b3 (.cells (edV e (.slice sp e.sides.length sc) (.slice qp e.pairs.length qc)) 39 (0,0))::edP bx u mb ms false::mp mb (rs.map rcPair)::mp ms []::s) (fun _=>True) ?_ ?_
  ·rw[hany];generalize (e.pairs.take k).any (fun p=>decide (dimOf A p.1≠dimOf A p.2))=dm;cases dm with
   | true =>
    refine dW [] [(0,2),(1,2),(2,2),(3,2),(4,2),(5,1),(6,2),(7,1),(8,1),(9,2),(10,2),(11,2),(12,2),(13,1),(14,2),(15,1),(16,1),(17,2),(18,2),(19,2),(20,2)] Tryz.mixed kR ?_;refine yM I (yM I (yG I (yG I (yG I (yI I (yG I (yI I (yI I (yG I (yG I (yG I (yG I (yI I (yG I (yI I (yI I (yG I (yG I (pU I (wT I I) (pU I (aS I) (pN ?_)))))))))))))))))))));exact ST.mid () sB I I trivial
   | false =>
    refine dW [] [(0,2),(1,2),(2,2),(3,2),(4,2),(5,1),(6,2),(7,1),(8,1),(9,2),(10,2),(11,2),(12,2),(13,1),(14,2),(15,1),(16,1),(17,2),(18,2),(19,2),(20,2)] Tryz.mixed kR ?_;refine yM rfl (yM rfl (yJ rfl (SP.gu rfl (gT rfl rfl rfl dC) (nC rfl) dC (SP.gu rfl (gT rfl rfl rfl dC) (fA uT150 rfl zT125 rfl) dC (SP.gq rfl (gT rfl rfl rfl dC) (qL (v:=.map (some mb)) iT125 rfl (cO 4 rfl rfl)) dC (SP.gu rfl (gT rfl rfl rfl dC) (iB uT44 zT3 rfl rfl dC dC) dC (SP.gq rfl (gT rfl rfl rfl dC) (qL (v:=vi x1) iT3 rfl (cO 0 rfl rfl)) dC (SP.gq rfl (gT rfl rfl rfl dC) (SQ.eq (v':=.agg #[vi ri1,vi c1.dim,.slice rp1 rn1 rk1]) (SQ.lookup mty125 rfl rfl (MapAt.own 5 rfl)) (by rw[hg1]; rfl)) dC ?_))))))));refine SP.gu rfl (gT rfl rfl rfl dC) (SU.field uT54 rfl iT3 rfl rfl) dC (yJ rfl (SP.gu rfl (gT rfl rfl rfl dC) (nC rfl) dC (SP.gu rfl (gT rfl rfl rfl dC) (fA uT150 rfl zT125 rfl) dC (SP.gq rfl (gT rfl rfl rfl dC) (qL (v:=.map (some mb)) iT125 rfl (cO 4 rfl rfl)) dC (SP.gu rfl (gT rfl rfl rfl dC) (iB uT44 zT3 rfl rfl dC dC) dC (SP.gq rfl (gT rfl rfl rfl dC) (qL (v:=vi x2) iT3 rfl (cO 0 rfl rfl)) dC (SP.gq rfl (gT rfl rfl rfl dC) (SQ.eq (v':=.agg #[vi ri2,vi c2.dim,.slice rp2 rn2 rk2]) (SQ.lookup mty125 rfl rfl (MapAt.own 5 rfl)) (by rw[hg2]; rfl)) dC ?_)))))));refine SP.gu I (gT I I I dC) (SU.field uT54 I iT3 I I) dC (SP.gu I (gT I I I dC) (nQ I I) dC (pU I (wF I I) (pU I (aS I) (pN ?_))));exact ST.mid () sB I I trivial
  rintro _ -;try dsimp only
  refine SC.drawT 1 [] [(0,2),(1,2),(2,1),(3,2),(4,2),(5,1),(6,2),(7,2),(8,1),(9,2),(10,1),(11,0),(12,0),(13,0)] Tryz.mixed kR ?_;refine yM rfl (pU rfl (iB uT44 zT3 rfl rfl dC dC) (pK rfl (qL (v:=vi x1) iT3 rfl (cO 0 rfl rfl)) (yM rfl (pU rfl (iB uT44 zT3 rfl rfl dC dC) (pK rfl (qL (v:=vi x2) iT3 rfl (cO 0 rfl rfl)) (yM rfl (pU rfl (iB uT44 zT3 rfl rfl dC dC) (pK rfl (qL (v:=vi x2) iT3 rfl (cO 0 rfl rfl)) (pU rfl (iB uT44 zT3 rfl rfl dC dC) (pK rfl (qL (v:=vi x1) iT3 rfl (cO 0 rfl rfl)) (SP.on rfl (SO.mapUpdate 1 mty71 rfl rfl rfl rfl) (.inr (by rintro _ _ _ ⟨rfl,rfl⟩; exact⟨by exact Le.refl _,(by exact take_set_sub _ _ _ _)⟩)) ?_)))))))))));rintro _ _ _ ⟨rfl,rfl⟩;refine SP.on rfl (SO.mapUpdate 1 mty71 rfl rfl rfl rfl) (.inr (by rintro _ _ _ ⟨rfl,rfl⟩; exact⟨by exact Le.refl _,(by exact .cons_cons _ (List.nil_sublist _))⟩)) ?_;rintro _ _ _ ⟨rfl,rfl⟩;refine SP.on rfl (SO.mapUpdate 2 mty70 rfl rfl rfl rfl) (.inr (by rintro _ _ _ ⟨rfl,rfl⟩; exact⟨by exact Le.refl _,(by exact .cons_cons _ (List.nil_sublist _))⟩)) ?_;rintro _ _ _ ⟨rfl,rfl⟩;refine pN (bN (tN (rG (yD I (lM I (nL (dR (.cons _ (.refl _)) ?_)))))));exact ST.again (k+1,mput (mput sl x1 (vb true)) x2 (vb true),mput bl x2 (vi x1)) sB I I ⟨by dsimp only; omega,by dsimp only; rw[hal1]; exact set_two hsl x1 x2,fun hd=>by
   dsimp only at hd ⊢;rw[hd1,Bool.or_eq_false_iff,Bool.or_eq_false_iff,Bool.or_eq_false_iff,decide_eq_false_iff_not,decide_eq_false_iff_not] at hd;rw[hbl hd.1.1.1,htk,List.map_append,mput_none _ _ _ (hnew hd.1.2)];rfl,fun p hp=>by
   dsimp only at hp;rw[htk] at hp
   rcases List.mem_append.1 hp with hp | hp
   ·exact hfd p hp
   ·simp at hp; subst hp; exact⟨hx1,hx2⟩⟩ (by dsimp only; omega)
 ·have hkk:e.pairs.take k=e.pairs:=tL oM;rw[hkk] at hsl hbl hfd ⊢;have hfa:e.pairs.all (fun p=>(findT A p.1).isSome&&(findT A p.2).isSome)=true:=List.all_eq_true.2 fun p hp=>by
   obtain ⟨h1,h2⟩:=hfd p hp;rw[h1,h2];rfl
  have hcode:identCode A e=if dupP e.pairs then 54 else if e.pairs.any (fun p=>decide (dimOf A p.1≠dimOf A p.2)) then 21 else if e.pairs.all (alikeP A e.pairs) then 0 else 33:=by unfold identCode; rw[if_pos hfa]
  rw[hcode];refine xI (tX (tX (bX (tN (sQ (bK (sW I (aT I ?_))))))));refine iQ I (fun hdup=>?_) (fun hdup=>?_)
  ·rw[if_pos hdup];refine rZ (aT I (rE (bR (tR ?_))));exact ST.ret1 (.inl I) results108 I ⟨Le.refl _,I,by rw[if_neg dC]; exact⟨[_,_,_,_,_,_],I⟩⟩
  rw[if_neg (by rw[hdup]; exact Bool.false_ne_true)];refine sW I (aT I ?_);refine iQ I (fun hdim=>?_) (fun hdim=>?_)
  ·rw[if_pos hdim];refine rZ (aT I (rE (bR (tR ?_))));exact ST.ret1 (.inl I) results108 I ⟨Le.refl _,I,by rw[if_neg dC]; exact⟨[_,_,_,_,_,_],I⟩⟩
  rw[if_neg (by rw[hdim]; exact Bool.false_ne_true)];have hble:=hbl hdup;subst hble;have hnod:(allP e.pairs).Nodup:=by unfold dupP at hdup; exact Decidable.not_not.1 (of_decide_eq_false hdup)
  have hsn:=seconds_nodup hnod;refine kP (bN (tN (sQ (sQ (cP (List.Perm.swap _ _ _) (SC.freezeMap fun g2 hle2 hby=>?_))))));refine SC.drop (List.sublist_cons_self _ _) (rG (lU (fA uT39 I sizeOf31 I) (lK (qL (v:=.slice qp e.pairs.length qc) isAgg31 I (cO 0 I I)) (lU (eN uT31 I) (lM I (tZ (bK ?_)))))));have hpv2:=SlA.mono hpv hle2;have hall2:=hall.mono fun _ _=>CellR.mono hle2;refine oP (ι:=Nat×PH) (fun i=>[(0,pp bx 0),(3,pp b3 0),(5,.map (some b17)),(95,.slice qp e.pairs.length qc),(96,vi e.pairs.length),(97,vi i.1)]) (fun i=>i.2)
   (fun _=>pt b3 (.cells (edV e (.slice sp e.sides.length sc) (.slice qp e.pairs.length qc)) 39 (0,0))::edP bx u mb ms false::mp mb (rs.map rcPair)::mp ms []::s)
   (fun i=>i.1≤e.pairs.length∧Le g2 i.2∧(e.pairs.take i.1).all (alikeP A e.pairs)=true) (fun i=>e.pairs.length - i.1) (0,g2)
   sB rfl rfl ⟨Nat.zero_le _,Le.refl _,by simp⟩ ?_
  rintro ⟨k2,g3⟩ ⟨hk2,hle3,hak⟩;dsimp only at hk2 hle3 hak ⊢;refine rZ (yL I (tZ (sQ ?_)));refine iP I (fun hlt2=>?_) (fun hlt2=>?_)
  ·have hkl:k2<e.pairs.length:=oM;have hb1:=SlA.based hpv2 oM;have hgk:e.pairs[((k2:Nat):Int).toNat]?=some e.pairs[k2]:=gE hkl;have htk:e.pairs.take (k2+1)=e.pairs.take k2++[e.pairs[k2]]:=tS hkl;obtain ⟨hx1,hx2⟩:=hfd _ (gM hkl);have hnot:alikeP A e.pairs e.pairs[k2]=false→(if e.pairs.all (alikeP A e.pairs) then (0:Int) else 33)=33:=fun h=>by
    rw[if_neg];intro h2;have h3:=List.all_eq_true.1 h2 _ (gM hkl);rw[h] at h3;cases h3
   have hyes:alikeP A e.pairs e.pairs[k2]=true→(e.pairs.take (k2+1)).all (alikeP A e.pairs)=true:=fun h=>by
    rw[htk,List.all_append,hak,Bool.true_and];simp[h]
   have hall3:=hall2.mono fun _ _=>CellR.mono hle3;have hby3:=hby.mono hle3;generalize e.pairs[k2]=x at *;obtain ⟨x1,x2⟩:=x;dsimp only at hx1 hx2;obtain ⟨c1,r1,hc1,hcm1,hg1,hr1⟩:=hfnd hall3 hx1;obtain ⟨c2,r2,hc2,hcm2,hg2,hr2⟩:=hfnd hall3 hx2;have hal:alikeP A e.pairs (x1,x2)=decide (srtS (c1.sides.map (repS (byF e.pairs)))=srtS (c2.sides.map (repS (byF e.pairs)))):=by unfold alikeP sidesT; rw[hc1,hc2]; rfl
   generalize alikeP A e.pairs (x1,x2)=al at *;have hl1:=hf.2 c1 hcm1;have hl2:=hf.2 c2 hcm2;have hl3:(srtS (c1.sides.map (repS (byF e.pairs)))).length<1099511627776:=by rw[(srtS_perm _).length_eq,List.length_map]; exact hl1
   obtain ⟨ri1,rd1,rp1,rn1,rk1⟩:=r1;obtain ⟨ri2,rd2,rp2,rn2,rk2⟩:=r2;obtain ⟨-,-,hs1⟩:=hr1;obtain ⟨-,-,hs2⟩:=hr2;dsimp only at hs1 hs2;refine kP (tN (sQ (bK (rZ (lU (iA uT31 zT44 I I hb1 oM sL) (lK (eA iT44 zT44 I (SlA.rd (SlA.mono hpv2 hle3)) hgk) (bW (aL zeroValue44) fun b12=>?_)))))));refine oZ (sK 0 zT44 I I I I I sB) ?_;refine tZ (sQ ?_);refine dW [] [(0,2),(1,2),(2,2),(3,1),(4,2),(5,1),(6,1),(7,2),(8,2),(10,2),(11,2),(12,2),(13,1),(14,2),(15,1),(16,1),(17,2),(18,2),(9,0),(19,0),(20,0),(21,2)] Tryz.mixed kR ?_;refine yM rfl (pU rfl (nC rfl) (pU rfl (fA uT150 rfl zT125 rfl) (pK rfl (qL (v:=.map (some mb)) iT125 rfl (cO 2 rfl rfl)) (pU rfl (iB uT44 zT3 rfl rfl dC dC) (pK rfl (qL (v:=vi x1) iT3 rfl (cO 0 rfl rfl)) (pK rfl (SQ.eq (v':=.agg #[vi ri1,vi rd1,.slice rp1 rn1 rk1]) (SQ.lookup mty125 rfl rfl (MapAt.own 3 rfl)) (by rw[hg1]; rfl)) ?_))))));refine pU rfl (SU.field uT54 rfl iT37 rfl rfl) (yM rfl (yM rfl (pU rfl (nC rfl) (pU rfl (fA uT150 rfl zT125 rfl) (pK rfl (qL (v:=.map (some mb)) iT125 rfl (cO 2 rfl rfl)) (pU rfl (iB uT44 zT3 rfl rfl dC dC) (pK rfl (qL (v:=vi x2) iT3 rfl (cO 0 rfl rfl)) (pK rfl (SQ.eq (v':=.agg #[vi ri2,vi rd2,.slice rp2 rn2 rk2]) (SQ.lookup mty125 rfl rfl (MapAt.own 3 rfl)) (by rw[hg2]; rfl)) ?_))))))));refine pU I (SU.field uT54 I iT37 I I) (yM I (SP.o I (SO.call call140 I (replaced_spec E g3 _ _ c1.sides b17 _ (byF e.pairs) hs1 hl1 hby3 (byF_get _))) dC (.inr iR) ?_));rintro v110 _ _ ⟨rfl,l1,hp1,ha1,rfl⟩;have e1:=srtS_of hp1 ha1;subst e1;refine SP.freezeRow fun g4 hle4 hs4=>?_;refine SP.o I (SO.call call140 I (replaced_spec E g4 _ _ c2.sides b17 _ (byF e.pairs) (SlA.mono hs2 hle4) hl2 (hby3.mono hle4) (byF_get _))) dC (.inr iR) ?_;rintro v120 _ _ ⟨rfl,l2,hp2,ha2,rfl⟩;have e2:=srtS_of hp2 ha2;subst e2;refine SP.freezeRow fun g5 hle5 hs5=>?_;have hle45:=hle4.trans hle5;refine SP.o I (SO.call call139 I (equalSides E g5 _ _ _ (srtS (c1.sides.map (repS (byF e.pairs)))) (srtS (c2.sides.map (repS (byF e.pairs)))) (Sl.mono hs4 hle5) hs5 hl3)) dC (.inr iR) ?_;rintro _ _ _ ⟨rfl,rfl,rfl⟩;rw[← hal];refine pU I (SU.not I) (pN (tN ?_));refine iQ I (fun hq=>?_) (fun hq=>?_)
   ·rw[Bool.not_eq_true'] at hq;rw[hnot hq];refine rZ (aT I (rE (bR (tR (tR (bR (tR ?_)))))));exact ST.ret1 (.inl I) results108 I ⟨hle2.trans (hle3.trans hle45),I,by rw[if_neg dC]; exact⟨[_,_,_,_,_],I⟩⟩
   ·rw[Bool.not_eq_false'] at hq;refine kP (bN (tN (rG (yD I (lM I (nL (dR (.cons _ (.refl _)) ?_)))))));exact ST.again (k2+1,g5) sB I I ⟨by dsimp only; omega,hle3.trans hle45,hyes hq⟩ (by dsimp only; omega)
  ·have hkk2:e.pairs.take k2=e.pairs:=tL oM;rw[hkk2] at hak;rw[if_pos hak];obtain ⟨es,clk,hes,hmi⟩:=hby
   have hes3:=hle3 _ _ hes;have hby3:Mp g3 b17 (e.pairs.map swP):=⟨es,clk,hes3,hmi⟩;have hall3:=hall2.mono fun _ _=>CellR.mono hle3;refine xI (tX (tX (bX (tN (sQ (sW I (lW (SO.range underlying70 I hes3) ?_)))))));rintro _ _ _ ⟨it,rfl,rfl,rfl⟩;refine tZ (bK ?_);have hrest0:restC A []=A:=by unfold restC; rw[List.filter_eq_self]; intro c _; simp
   refine oP (ι:=List MapEntry×List (Int×Value)×PH×List Rc×Ts) (fun _=>[(0,pp bx 0),(3,pp b3 0),(5,.map (some b17)),(125,pp it 0)]) (fun i=>i.2.2.1)
    (fun i=>iter it b17 es clk i.1::pt b3 (.cells (edV e (.slice sp e.sides.length sc) (.slice qp e.pairs.length qc)) 39 (0,0))::edP bx u mb ms false::mp mb (i.2.2.2.1.map rcPair)::mp ms (prsT i.2.2.2.2)::(rowsT i.2.2.2.2++s))
    (fun i=>RVis (e.pairs.map swP) es i.1 i.2.1∧Le g3 i.2.2.1∧All2 (CellR i.2.2.1) (restC A (i.2.1.map Prod.fst)) i.2.2.2.1∧i.2.2.2.2.map Prod.fst=i.2.1.map Prod.fst∧TsOk i.2.2.2.2∧∀ t∈i.2.2.2.2,∃ q∈e.pairs,q.2=t.1∧t.2.2=[(q.1,1)]) (fun i=>e.pairs.length - i.2.1.length)
    ([],[],g3,rs,[]) sB rfl rfl ⟨RVis.nil _ _,Le.refl _,by dsimp only; rw[List.map_nil,hrest0]; exact hall3,rfl,fun t ht=>by simp at ht,fun t ht=>by simp at ht⟩ ?_
   rintro ⟨vis,vl,g4,rs1,ts⟩ ⟨hrv,hle4,hall4,hkeys,hok,htq⟩;dsimp only at hrv hle4 hall4 hkeys hok htq ⊢;have hvle:=hrv.len hmi;rw[List.length_map] at hvle;have hes4:=hle4 _ _ hes3;refine rZ (lW (SO.nextP 0 I I hes4 hmi hrv) ?_);rintro _ _ _ ⟨rfl,hcase⟩
   rcases hcase with ⟨rfl,rfl,hperm⟩ | ⟨en,pr,hen,hpr,hk1,hv1,hrv2,rfl,rfl⟩
   ·have hpk:∀ k,k∈vl.map Prod.fst↔k∈e.pairs.map Prod.snd:=fun k=>by
     rw[(hperm.map Prod.fst).mem_iff,List.map_map];exact Iff.rfl
    have hrest:restC A (vl.map Prod.fst)=restC A (e.pairs.map Prod.snd):=by
     unfold restC;refine List.filter_congr fun c _=>?_;rw[decide_eq_decide.2 (hpk c.id)]
    have htn:(ts.map Prod.fst).Nodup:=by rw[hkeys]; exact rvis_keys hrv hmi
    have himg:=img_ident (e:=e) (ts:=ts) (fun k=>by rw[hkeys]; exact hpk k) hsn htq;have hby4:Mp g4 b17 (e.pairs.map swP):=⟨es,clk,hes4,hmi⟩;rw[hrest] at hall4;have hBn:((restC A (e.pairs.map Prod.snd)).map Cl.id).Nodup:=(List.filter_sublist.map Cl.id).nodup hn;have hBf:∀ c∈restC A (e.pairs.map Prod.snd),c.sides.length<1099511627776:=fun c hc=>hf.2 c (List.mem_filter.1 hc).1;have hio:identOut A e=(restC A (e.pairs.map Prod.snd)).map (repC (byF e.pairs)):=rfl;rw[hio];generalize restC A (e.pairs.map Prod.snd)=B at *;have hrc:∀ y,(repC (byF e.pairs) y).id=y.id:=fun _=>rfl;refine yX I (tZ (sQ (cF I (xI (tX (tX (bX (tN (sQ (sQ (SC.drop (List.sublist_cons_self _ _) (SC.openMap 2 I fun es2 clk2 hI2=>?_))))))))))));refine SC.to (g':=g4) (s':=pt b3 (.cells (edV e (.slice sp e.sides.length sc) (.slice qp e.pairs.length qc)) 39 (0,0))::edP bx u mb ms false::mx mb es2 clk2::mp ms (prsT ts)::(rowsT ts++s)) (fun w hw=>hw) ?_;refine rG (lM I (lU (nC I) (lU (fA uT150 I zT125 I) (lK (qL (v:=.map (some mb)) iT125 I (cO 1 I I)) (lW (SO.rangeG underlying125 I (mx_at 2 I)) ?_)))));rintro _ _ _ ⟨it2,rfl,rfl,rfl⟩;refine tZ (bK ?_);refine oP (ι:=List MapEntry×List (Int×Value)×PH×List Rc×Array MapEntry) (fun _=>[(0,pp bx 0),(5,.map (some b17)),(148,pp it2 0)]) (fun i=>i.2.2.1)
     (fun i=>iter it2 mb i.2.2.2.2 clk2 i.1::pt b3 (.cells (edV e (.slice sp e.sides.length sc) (.slice qp e.pairs.length qc)) 39 (0,0))::edP bx u mb ms false::mx mb i.2.2.2.2 clk2::mp ms (prsT ts)::(rowsT ts++s))
     (fun i=>MapI (i.2.2.2.1.map rcPair) i.2.2.2.2 clk2∧RVis (i.2.2.2.1.map rcPair) i.2.2.2.2 i.1 i.2.1∧Le g4 i.2.2.1∧All2 (CellR i.2.2.1) (mapAt (repC (byF e.pairs)) B (i.2.1.map Prod.fst)) i.2.2.2.1) (fun i=>B.length - i.2.1.length)
     ([],[],g4,rs1,es2) sB rfl rfl ⟨hI2,RVis.nil _ _,Le.refl _,by dsimp only; rw[List.map_nil,mapAt_nil]; exact hall4⟩ ?_
    rintro ⟨vis2,vl2,g5,rs2,es3⟩ ⟨hI3,hrv3,hle5,hall5⟩;dsimp only at hI3 hrv3 hle5 hall5 ⊢;have hrl:=hall5.length;have hbl2:(mapAt (repC (byF e.pairs)) B (vl2.map Prod.fst)).length=B.length:=by unfold mapAt; rw[List.length_map]
    have hids:=mapAt_ids hrc B (vl2.map Prod.fst);refine rZ (lW (SO.nextPG 0 I I (mx_at 3 I) hI3 hrv3) ?_);rintro _ _ _ ⟨rfl,hcase2⟩
    rcases hcase2 with ⟨rfl,rfl,hperm2⟩ | ⟨en2,pr2,hen2,hpr2,hk2',hv2,hrv4,rfl,rfl⟩
    ·have hmem:∀ c∈B,c.id∈vl2.map Prod.fst:=fun c hc=>by
      rw[(hperm2.map Prod.fst).mem_iff,rc_keys];have h1:rs2.map Rc.id=(mapAt (repC (byF e.pairs)) B (vl2.map Prod.fst)).map Cl.id:=(all2_ids hall5).symm;rw[h1,hids];exact List.mem_map.2 ⟨c,hc,I⟩
     rw[mapAt_all hmem] at hall5;refine yX I (tZ (sQ (cF I (xI (tX (tX (bX (tN (rZ (aT I (rE (ST.closeMap 3 I hI3 ?_))))))))))));refine ST.to (g':=g5) (s':=edP bx u mb ms false::mp mb (rs2.map rcPair)::mp ms (prsT ts)::(rowsT ts++s)) (fun w hw=>hw.sublist (.cons _ (.cons _ (.refl _)))) ?_;exact ST.ret1 (.inl I) results108 I ⟨hle2.trans (hle3.trans (hle4.trans hle5)),I,by rw[if_pos I]; exact⟨rs2,ts,hall5,hok,htn,himg,I⟩⟩
    ·obtain ⟨x,hx,rfl⟩:=List.mem_map.1 hpr2;obtain ⟨cx,hcm,hcx⟩:=all2_mem hall5 hx;have hnk:=rvis_keys hrv4 hI3;rw[List.map_append,List.nodup_append] at hnk;have hxn:x.id ∉ vl2.map Prod.fst:=fun hm=>hnk.2.2 _ hm _ (by simp[rcPair]) rfl;obtain ⟨u1,hu1⟩:∃ u1,mget (rs2.map rcPair) x.id=some u1:=by
      rcases all2_findG (fun _ _ h=>h.1) hall5 x.id with ⟨h1,_⟩ | ⟨_,r9,_,h2,_⟩
      ·have:=List.find?_eq_none.1 h1 cx hcm;simp[hcx.1] at this
      ·exact⟨_,h2⟩
     have hcB:=mapAt_mem hrc hcm (by rw[← hcx.1]; exact hxn);have hfc:=find_mem hBn hcB;have hlx:=hBf cx hcB;obtain ⟨xi,xd,xp,xn,xc⟩:=x;obtain ⟨f1,f2,hsx⟩:=hcx;dsimp only at f1 f2 hsx hxn hu1;subst f1 f2;have hput:=mapAt_put hrc hxn hBn hfc;have hvl3:=hrv4.len hI3;rw[List.length_append,List.length_singleton,List.length_map] at hvl3;refine yX I (tZ (sQ (SC.condT I (kP (tN (bK (rZ (lK (SQ.entryPG 0 I I (mx_at 3 I) hI3 hen2 hk2' hv2) (yX I (yX I (bW (aL zeroValue54) fun b16=>?_)))))))))));refine lA I (oZ (sK 0 zT54 I I I I I sB) ?_);refine tZ (sQ ?_);refine SC.to (g':=g5) (s':=pt b16 (.cells #[vi cx.id,vi cx.dim,.slice xp xn xc] 54 (0,0))::iter it2 mb es3 clk2 (vis2++[en2])::pt b3 (.cells (edV e (.slice sp e.sides.length sc) (.slice qp e.pairs.length qc)) 39 (0,0))::edP bx u mb ms false::mx mb es3 clk2::mp ms (prsT ts)::(rowsT ts++s)) (fun w hw=>hw) ?_;refine rG (lU (fA uT54 I zT37 I) (lK (qL (v:=.slice xp xn xc) iT37 I (cO 0 I I)) (lM I (lW (SO.call call140 I (replaced_spec E g5 _ _ cx.sides b17 _ (byF e.pairs) hsx hlx (hby4.mono hle5) (byF_get _))) ?_))));rintro v157 _ _ ⟨rfl,l1,hp1,ha1,rfl⟩;have e1:=srtS_of hp1 ha1;subst e1;refine fR fun g6 hle6 hs6=>?_;obtain ⟨q6,d6,rfl⟩:=Sl.form hs6;refine lU (fA uT54 rfl zT37 rfl) (oZ (SO.store1 0 zT37 rfl rfl rfl rfl (bE rfl) (by rfl)) ?_);refine tZ ?_;refine dW [6] [(0,2),(1,2),(2,2),(3,1),(4,2),(5,1),(6,0)] Tryz.mixed kR ?_;refine yM I (pU I (nC I) (pU I (fA uT150 I zT125 I) (pK I (qL (v:=.map (some mb)) iT125 I (cO 3 I I)) (yM I (pK I (qV 0 iT54 zT54 I I I) (SP.on I (SO.mapUpdateX 4 mty125 I I I I hI3 ⟨_,hu1⟩) (.inl dC) ?_))))));rintro _ _ _ ⟨rfl,es4,rfl,hI4,hrvu⟩;refine pN (bN ?_);have hrc1:=mput_rc ⟨cx.id,cx.dim,⟨q6,(srtS (cx.sides.map (repS (byF e.pairs)))).length,d6⟩⟩ rs2;have hI5:MapI ((putR rs2 ⟨cx.id,cx.dim,⟨q6,(srtS (cx.sides.map (repS (byF e.pairs)))).length,d6⟩⟩).map rcPair) es4 clk2:=by rw[← hrc1]; exact hI4
     have hrv5:=hrvu _ _ hrv4;refine dR (.cons _ (.refl _)) ?_;exact ST.again ((vis2++[en2]).map (updE cx.id (rcv ⟨cx.id,cx.dim,⟨q6,(srtS (cx.sides.map (repS (byF e.pairs)))).length,d6⟩⟩)),(vl2++[rcPair ⟨cx.id,cx.dim,⟨xp,xn,xc⟩⟩]).map (updP cx.id (rcv ⟨cx.id,cx.dim,⟨q6,(srtS (cx.sides.map (repS (byF e.pairs)))).length,d6⟩⟩)),g6,putR rs2 ⟨cx.id,cx.dim,⟨q6,(srtS (cx.sides.map (repS (byF e.pairs)))).length,d6⟩⟩,es4) sB rfl (by dsimp only; rw[iter_upd _ _ _ es3]; rfl) ⟨hI5,by dsimp only; rw[← hrc1]; exact hrv5,hle5.trans hle6,by
      dsimp only;rw[updP_keys,List.map_append];have h9:(vl2.map Prod.fst++[rcPair ⟨cx.id,cx.dim,⟨xp,xn,xc⟩⟩].map Prod.fst)=vl2.map Prod.fst++[cx.id]:=rfl;rw[h9,← hput];exact all2_put (fun _ _ h=>h.1) ⟨I,I,hs6⟩ (hall5.mono fun _ _=>CellR.mono hle6)⟩ (by
      dsimp only;rw[List.length_map,List.length_append,List.length_singleton];omega)
   ·obtain ⟨q,hq,rfl⟩:=List.mem_map.1 hpr;have hnk:=rvis_keys hrv2 hmi;rw[List.map_append,List.nodup_append] at hnk;have hqn:q.2 ∉ vl.map Prod.fst:=fun hm=>hnk.2.2 _ hm _ (by simp[swP]) rfl;have hput:∀ v,mput (prsT ts) q.2 v=prsT ts++[(q.2,v)]:=fun v=>mput_none _ _ _ fun p hp e9=>hqn (by
     rw[← hkeys,← prsT_keys,← e9];exact List.mem_map.2 ⟨p,hp,I⟩)
    have hdel:=restC_del hn (vl.map Prod.fst) q.2;have hvl3:=hrv2.len hmi;rw[List.length_append,List.length_singleton,List.length_map] at hvl3;obtain ⟨q1,q2⟩:=q;dsimp only at hqn hput hdel;refine yX I (tZ (sQ (SC.condT I (kP (tN (bK (rZ (lK (SQ.entryP 0 I I hes4 hmi hen hk1 hv1) (yX I (yX I (lA I (aT I (sW I (lU (nC I) (lU (fA uT150 I zT125 I) (lK (qL (v:=.map (some mb)) iT125 I (cO 2 I I)) (lM I (lO (SO.delete 3 mty125 I I I) ?_))))))))))))))))));rintro _ _ _ ⟨rfl,rfl⟩;rw[mdel_rc];refine tZ ?_;refine dW [8] [(0,2),(1,2),(2,2),(3,1),(4,2),(5,2),(6,0),(7,0),(8,0)] Tryz.mixed kR ?_;refine yM I (pU I (nC I) (pU I (fA uT150 I sizeOf148 I) (pK I (qL (v:=.map (some ms)) isAgg148 I (cO 2 I I)) (yM I (yM I (SP.o I (SO.call call112 I (term_spec E g4 _ q1 1 dC dC)) dC (.inr iR) ?_))))));rintro _ g5 _ ⟨rfl,rfl,hle5⟩;refine SP.o I (bS sty151 I I I (szs_mk ⟨I,trivial⟩) dC) dC (.inr iR) ?_;rintro _ _ _ ⟨b143,rfl,rfl,rfl⟩;refine SP.to (fun w hw=>At.litRow (e:=encTm) (l:=[(q1,1)]) (n:=0) hw I I dC) ?_;refine SP.on I (SO.mapUpdate 5 mty148 I I I I) (.inl dC) ?_;rintro _ _ _ ⟨rfl,rfl⟩;refine pN (bN ?_);refine ST.to (g':=g5) (s':=iter it b17 es clk (vis++[en])::pt b3 (.cells (edV e (.slice sp e.sides.length sc) (.slice qp e.pairs.length qc)) 39 (0,0))::edP bx u mb ms false::mp mb ((delR rs1 q2).map rcPair)::mp ms (prsT (ts++[(q2,.slice (some ⟨b143,0,none⟩) 1 1,[(q1,1)])]))::(rowsT (ts++[(q2,.slice (some ⟨b143,0,none⟩) 1 1,[(q1,1)])])++s)) (fun w1 hw1=>?_) ?_
    ·rw[prsT_snoc,rowsT_snoc,← hput];exact hw1.perm (perm_in _ [iter it b17 es clk (vis++[en]),pt b3 (.cells (edV e (.slice sp e.sides.length sc) (.slice qp e.pairs.length qc)) 39 (0,0)),edP bx u mb ms false,mp mb ((delR rs1 q2).map rcPair),mp ms (mput (prsT ts) q2 (.slice (some ⟨b143,0,none⟩) 1 1))] (rowsT ts) s)
    exact ST.again (vis++[en],vl++[swP (q1,q2)],g5,delR rs1 q2,ts++[(q2,.slice (some ⟨b143,0,none⟩) 1 1,[(q1,1)])]) sB I I ⟨hrv2,hle4.trans hle5,by
     dsimp only;rw[List.map_append];have h9:vl.map Prod.fst++[swP (q1,q2)].map Prod.fst=vl.map Prod.fst++[q2]:=rfl;rw[h9,← hdel];exact (all2_del (fun _ _ h=>h.1) q2 hall4).mono fun _ _=>CellR.mono hle5,by dsimp only; rw[List.map_append,List.map_append,hkeys]; rfl,fun t ht=>by
     rcases List.mem_append.1 ht with ht | ht
     ·exact hok t ht
     ·simp at ht; subst ht; exact⟨by simp,by simp,_,_,_,rfl⟩,fun t ht=>by
     rcases List.mem_append.1 ht with ht | ht
     ·exact htq t ht
     ·simp at ht; subst ht; exact⟨(q1,q2),hq,rfl,rfl⟩⟩ (by
     dsimp only;rw[List.length_append,List.length_singleton];omega)
set_option maxHeartbeats 4000000
def restR (A:List Cl)(ks:List Int):List Cl:=A.filter fun c=>!decide (c.id∈ks)
theorem restR_fits {A:List Cl}(hf:Fits A)(ks:List Int):Fits (restR A ks):=⟨by
 have h1:=List.length_filter_le (fun c:Cl=>!decide (c.id∈ks)) A;have h2:=hf.1;unfold restR;omega,fun c hc=>hf.2 c (List.mem_filter.1 hc).1⟩
def sgF (l:List Side)(cell:Int):Int:=l.foldl (fun a x=>if x.cell=cell then x.sign else a) 0
def refColChain (l:List Cl)(e:Ed):List Tm:=((((findC l e.other).getD zeroC).sides.filter fun x=>!decide (x.cell=e.cell))).map fun x=>(x.cell,-sgF ((findC l e.other).getD zeroC).sides e.cell * x.sign)
def moreS (e:Ed)(l:List Side):List Side:=(l.filter fun x=>decide (x.cell=e.cell)).map fun x=>⟨e.other,x.sign⟩
def refSplitCell (e:Ed)(a:Int)(y:Cl):Cl:=if y.id=e.cell then ⟨y.id,y.dim,[⟨a,-1⟩,⟨e.new,1⟩]⟩ else ⟨y.id,y.dim,y.sides++moreS e y.sides⟩
def refSplitOut (l:List Cl)(e:Ed):List Cl:=[⟨e.new,0,[]⟩,⟨e.other,1,[⟨e.new,-1⟩,⟨(endS ((findC l e.cell).getD zeroC).sides true).cell,1⟩]⟩]++l.map (refSplitCell e (endS ((findC l e.cell).getD zeroC).sides false).cell)
def refSplitChain (e:Ed):List Tm:=if e.other<e.cell then [(e.other,1),(e.cell,1)] else [(e.cell,1),(e.other,1)]
def repX (f:Int→Option Int)(c:Cl):Cl:=⟨c.id,c.dim,c.sides.map (repS f)⟩
def refIdentOut (l:List Cl)(e:Ed):List Cl:=(restR l (e.pairs.map Prod.snd)).map (repX (byF e.pairs))
def KindRunX (fv:Value)(e:Ed)(A:List Cl)(code:Int)(B:List Cl)(img:Int→List Tm)(bk:Bool):Prop :=
 ∀ (E:World) (g:PH) (s:Own) (bx mb ms:Nat) (u v:Value) (rs:List Rc),Cells g u A→All2 CellO A rs→EdR g v e →
  CallV Tryz.prog E fv [pp bx 0,v] g (edP bx u mb ms false::mp mb (rs.map rcPair)::mp ms []::(ownS A rs++s)) (fun r g' s'=>Le g g'∧r=vi code∧(if code=0 then ∃ rs' ts,All2 (CellR g') B rs'∧TsOk ts∧(ts.map Prod.fst).Nodup∧(∀ k,imgT ts k=img k)∧s'=edP bx u mb ms bk::mp mb (rs'.map rcPair)::mp ms (prsT ts)::(rowsT ts++s) else ∃ h,s'=h++s))
def selfI (k:Int):List Tm:=[(k,1)]
theorem KindRun.gen {fv:Value}{e:Ed}{A:List Cl}{code:Int}{B:List Cl}{bk:Bool}(h:KindRun fv e A code B bk):KindRunX fv e A code B selfI bk:=fun E g s bx mb ms u v rs hu hO hv=>by
 obtain ⟨n,cap,q1,q2,q3⟩:=h E g s bx mb ms u v rs hu hO hv;refine⟨n,cap,q1,q2,q3.mono ?_⟩;rintro r g' s' ⟨h1,h2,h3⟩;refine⟨h1,h2,?_⟩;by_cases h0:code=0
 ·rw[if_pos h0] at h3 ⊢;obtain ⟨rs',h4,rfl⟩:=h3;exact⟨rs',[],h4,fun t ht=>by simp at ht,List.nodup_nil,fun k=>I,I⟩
 ·rw[if_neg h0] at h3 ⊢;exact h3
def RefAppN (g:PH)(code:Int)(D:List Cl)(ims:List (Int×List Tm))(bk:Bool)(r:Value)(g':PH):Prop:=∃ u p n c b,r = .tuple #[.agg #[u],.agg #[.slice p n c,vb b],vi code]∧CellsK (mns g' g) u D∧(code=0→b=bk∧Ims g' (.slice p n c) ims)∧(code≠0→b=false∧Ims g' (.slice p n c) [])
theorem RefAppN.old {g:PH}{code:Int}{D:List Cl}{ims:List (Int×List Tm)}{bk:Bool}{r:Value}{g':PH}(h:RefAppN g code D ims bk r g'):RefAppR code D ims bk r g':=by
 obtain ⟨u,p,n,c,b,h1,h2,h3⟩:=h;exact⟨u,p,n,c,b,h1,h2.cells (mns_le _ _),h3⟩
theorem CellsK.nil (g:PH):CellsK g (.slice none 0 0) []:=⟨[],RK.nil _ _ g,trivial⟩
theorem apply_badN (E:World)(g:PH)(s:Own)(v ev:Value)(l:List Cl)(e:Ed)(hv:Cells g v l)(hf:Fits l)(he:EdR g ev e)(ims:List (Int×List Tm))(bk:Bool)(hbad:mget kindsM e.kind=none∨(checkC l).2≠0) :
  Ctr Tryz.prog E 43 #[.agg #[v],ev] g s (fun r g' s'=>s=s'∧Le g g'∧RefAppN g 1 [] ims bk r g'):=by
 obtain ⟨z,hz⟩:=Tryz.mtyKinds;obtain ⟨sv,pv,rfl,hsv,hpv⟩:=he;obtain ⟨sp,sc,rfl⟩:=SlA.form hsv;obtain ⟨pq,pc,rfl⟩:=SlA.form hpv;obtain ⟨p,c,rfl⟩:=hv.form;refine Ctr.of (args:=[.agg #[.slice p l.length c],.agg #[vi e.kind,vi e.cell,vi e.dim,vi e.new,vi e.other,.slice sp e.sides.length sc,.slice pq e.pairs.length pc]]) func43 I ntmps43 (bE I) ?_;cases hg:mget kindsM e.kind with
 | none =>
  refine rZ (bW (bO I) fun b2=>?_);refine bW (bO I) fun b3=>?_;refine bW (aL zeroValue29) fun b4=>?_;refine bW (aL zeroValue89) fun b5=>?_;refine aT I (sQ ?_);refine dW [] [(1,2),(2,1),(0,0),(3,0),(4,2),(5,2),(6,2),(7,2),(8,2)] Tryz.mixed kR ?_;refine pU I (fA uT39 I zT3 I) (pK I (qL iT3 I (cO 2 I I)) (SP.o I (SO.call call72 I (kinds_spec E g _)) dC (.inr iR) ?_));rintro _ g1 _ ⟨rfl,hle1,bq,rfl,hk⟩;refine oQ rfl (SQ.eq (v':=.tuple #[z,vb false]) (SQ.lookupOk hz rfl rfl (MapAt.known hk)) (by rw[hg]; rfl)) dC (.inr ⟨by assumption,(by exact .refl _)⟩) ?_;refine yM I (pU I (xT I I) (pU I (xT I I) (pU I (aS I) (pU I (aS I) (pN (tN (sQ (sW I (lU (SU.not I) (lM I (yA I (yA I (yA I (yP I (tZ (SC.condT I (rZ (lU (SU.build I buildE29) (lU (SU.build I buildZ89) (oZ (sK 1 zT29 I I I I I sB) ?_))))))))))))))))))));refine oZ (sK 0 zT89 I I I I I sB) ?_;refine aT I (rE (tR ?_));exact ST.retCCT 1 0 s (.inl I) results43 I I I iT29 zT29 isAgg89 zT89 I I I I uR ⟨I,hle1,_,_,_,_,_,I,CellsK.nil _,(fun h=>by cases h),fun _=>⟨I,Ims.nil _⟩⟩
 | some fv =>
  have hc:decide ((checkC l).2=0)=false:=decide_eq_false (by
   rcases hbad with h | h
   ·rw[hg] at h; cases h
   ·exact h)
  refine rZ (bW (bO I) fun b2=>?_);refine bW (bO I) fun b3=>?_;refine bW (aL zeroValue29) fun b4=>?_;refine bW (aL zeroValue89) fun b5=>?_;refine aT I (sQ ?_);refine dW [] [(1,2),(2,1),(0,0),(3,0),(4,2),(5,2),(6,2),(7,2),(8,2)] Tryz.mixed kR ?_;refine pU I (fA uT39 I zT3 I) (pK I (qL iT3 I (cO 2 I I)) (SP.o I (SO.call call72 I (kinds_spec E g _)) dC (.inr iR) ?_));rintro _ g1 _ ⟨rfl,hle1,bq,rfl,hk⟩;refine oQ rfl (SQ.eq (v':=.tuple #[fv,vb true]) (SQ.lookupOk hz rfl rfl (MapAt.known hk)) (by rw[hg]; rfl)) dC (.inr ⟨by assumption,(by exact .refl _)⟩) ?_;refine yM I (pU I (xT I I) (pU I (xT I I) (pU I (aS I) (pU I (aS I) (pN (tN (sQ (sW I (lU (SU.not I) (lM I (SL.gq (gT I I I dC) (qV 3 iT29 zT29 I I I) dC (SL.go (gT I I I dC) (SO.call call73 I (edRight_B E g1 _ _ l (hv.mono hle1) hf false hc)) dC ?_))))))))))));rintro _ _ _ ⟨rfl,rfl,rfl⟩;refine lY I I I (SU.not I) (yF I (tZ (SC.condT I (rZ (lU (SU.build I buildE29) (lU (SU.build I buildZ89) (oZ (sK 1 zT29 I I I I I sB) ?_)))))));refine oZ (sK 0 zT89 I I I I I sB) ?_;refine aT I (rE (tR ?_));exact ST.retCCT 1 0 s (.inl I) results43 I I I iT29 zT29 isAgg89 zT89 I I I I uR ⟨I,hle1,_,_,_,_,_,I,CellsK.nil _,(fun h=>by cases h),fun _=>⟨I,Ims.nil _⟩⟩
theorem apply_genN (E:World)(g:PH)(s:Own)(v ev:Value)(l:List Cl)(e:Ed)(hv:Cells g v l)(hf:Fits l)(he:EdR g ev e)(hr:(checkC l).2=0)(fv:Value)(code:Int)(B:List Cl)(bk:Bool)(hg:mget kindsM e.kind=some fv)(img:Int→List Tm)(hrun:KindRunX fv e (canonC l) code B img bk)(hB:code=0→Fits B∧(B.map Cl.id).Nodup) :
  Ctr Tryz.prog E 43 #[.agg #[v],ev] g s (fun r g' s'=>s=s'∧Le g g'∧RefAppN g (applyOut code B).1 (applyOut code B).2 ((if bk then canonC B else canonC l).map fun c=>(c.id,img c.id)) bk r g'):=by
 obtain ⟨z,hz⟩:=Tryz.mtyKinds;have he0:=he;obtain ⟨sv,pv,rfl,hsv,hpv⟩:=he;obtain ⟨sp,sc,rfl⟩:=SlA.form hsv;obtain ⟨pq,pc,rfl⟩:=SlA.form hpv;obtain ⟨p,c,rfl⟩:=hv.form;have hc:decide ((checkC l).2=0)=true:=decide_eq_true hr;have hnd:((canonC l).map Cl.id).Nodup:=by
  rw[List.Nodup,List.pairwise_map];exact (rt_of hr).asc.imp fun h=>by omega
 have hAf:=canonC_fits hf;refine Ctr.of (args:=[.agg #[.slice p l.length c],.agg #[vi e.kind,vi e.cell,vi e.dim,vi e.new,vi e.other,.slice sp e.sides.length sc,.slice pq e.pairs.length pc]]) func43 I ntmps43 (bE I) ?_;refine rZ (bW (bO I) fun b2=>?_);refine bW (bO I) fun b3=>?_;refine bW (aL zeroValue29) fun b4=>?_;refine bW (aL zeroValue89) fun b5=>?_;refine aT I (sQ ?_);refine dW [] [(1,2),(2,1),(0,0),(3,0),(4,2),(5,2),(6,2),(7,2),(8,2)] Tryz.mixed kR ?_;refine pU I (fA uT39 I zT3 I) (pK I (qL iT3 I (cO 2 I I)) (SP.o I (SO.call call72 I (kinds_spec E g _)) dC (.inr iR) ?_));rintro _ g1 _ ⟨rfl,hle1,bq,rfl,hk⟩;refine oQ rfl (SQ.eq (v':=.tuple #[fv,vb true]) (SQ.lookupOk hz rfl rfl (MapAt.known hk)) (by rw[hg]; rfl)) dC (.inr ⟨by assumption,(by exact .refl _)⟩) ?_;refine yM I (pU I (xT I I) (pU I (xT I I) (pU I (aS I) (pU I (aS I) (pN (tN (sQ (sW I (lU (SU.not I) (lM I (SL.gq (gT I I I dC) (qV 3 iT29 zT29 I I I) dC (SL.go (gT I I I dC) (SO.call call73 I (edRight_B E g1 _ _ l (hv.mono hle1) hf true hc)) dC ?_))))))))))));rintro _ _ _ ⟨rfl,rfl,rfl⟩;refine lY I I I (SU.not I) (yF I (tZ (cF I (kP (tN (rZ (lK (qV 3 iT29 zT29 I I I) (lW (SO.call call74 I (open_own E g1 _ _ l (hv.mono hle1) hf hnd)) ?_))))))));rintro _ g2 _ ⟨hle2,bx,u,mb,ms,rs,rfl,hu,hO,rfl⟩;refine aT I (sW I (lM I (lK (qV ((ownS (canonC l) rs).length+2+3) iT39 zT39 I (by exact (get_after (ownS (canonC l) rs) _ 2).trans I) I) ?_)));refine lW (SO.callV I I (hrun E g2 _ bx mb ms u _ rs hu hO (he0.mono (hle1.trans hle2)))) ?_;rintro _ g3 _ ⟨hle3,rfl,hcase⟩;by_cases hc0:code=0
 ·obtain ⟨hBf,hBn⟩:=hB hc0;subst hc0;rw[if_pos rfl] at hcase;obtain ⟨rs',ts,hall,hts,htn,himg,rfl⟩:=hcase;refine SL.to (g':=g3) (s':=edP bx u mb ms bk::mp mb (rs'.map rcPair)::mp ms (prsT ts)::pt b5 (.cells #[.slice none 0 0,vb false] 89 (0,0))::pt b4 (.cells #[.slice none 0 0] 29 (0,0))::pt b3 (.cells #[vi e.kind,vi e.cell,vi e.dim,vi e.new,vi e.other,.slice sp e.sides.length sc,.slice pq e.pairs.length pc] 39 (0,0))::pt b2 (.cells #[.slice p l.length c] 29 (0,0))::(rowsT ts++s)) (fun w hw=>hw.perm (((List.perm_append_comm_assoc (rowsT ts) [pt b5 (.cells #[.slice none 0 0,vb false] 89 (0,0)),pt b4 (.cells #[.slice none 0 0] 29 (0,0)),pt b3 (.cells #[vi e.kind,vi e.cell,vi e.dim,vi e.new,vi e.other,.slice sp e.sides.length sc,.slice pq e.pairs.length pc] 39 (0,0)),pt b2 (.cells #[.slice p l.length c] 29 (0,0))] s).cons _).cons _ |>.cons _)) ?_;have hcB:=canonC_fits hBf;have hout:applyOut 0 B=if (checkC (canonC B)).2≠0 then ((checkC (canonC B)).2,[]) else (0,canonC B):=rfl
  rw[hout];refine aT I (rZ (bW (aL zeroValue29) fun b11=>?_));refine tZ (sQ (sW I (yE I (tZ (SC.condT I (sQ (cP (List.perm_middle (l₁:=[pt b11 (.cells #[.slice none 0 0] 29 (0,0)),edP bx u mb ms bk])) (SC.freezeMap fun g4 hle4 hm4=>?_))))))));refine rG (lM I (lW (SO.call call75 I (result_new E g4 _ bx mb ms u bk B rs' (hall.mono fun _ _=>CellR.mono hle4) hBn hBf hm4 1 I)) ?_));rintro _ g5 _ ⟨rfl,hle5,u5,rfl,hn5⟩;have hu5:=hn5.cells (mns_le _ _);obtain ⟨p5,c5,rfl⟩:=hu5.form;refine oZ (sK 0 zT29 I I I I I sB) ?_;refine tZ (rG (lK (qV 0 iT29 zT29 I I I) (lW (SO.call call24 I (check_spec E g5 _ _ (canonC B) hu5 hcB)) ?_)));rintro _ _ _ ⟨rfl,rfl,rfl⟩;refine lM I (yX I (yX I (aT I (sQ (sW I (lU (nQ I I) (tZ ?_)))))));refine iP I (fun h2=>?_) (fun h2=>?_)
  ·have he2:(if (checkC (canonC B)).2≠0 then ((checkC (canonC B)).2,[]) else ((0:Int),canonC B))=((checkC (canonC B)).2,[]):=if_pos h2;rw[he2];refine rZ (lU (SU.build I buildE29) (lU (SU.build I buildZ89) (lM I (oZ (sK 4 zT29 I I I I I sB) ?_))));refine oZ (sK 3 zT89 I I I I I sB) ?_;refine aT I (rE (tR ?_));exact ST.retCCT 4 3 s (.inl I) results43 I I I iT29 zT29 isAgg89 zT89 I I I I (.cons _ (.cons _ (.cons _ (.cons _ (.cons _ (.cons _ (.cons _ (List.sublist_append_right _ _)))))))) ⟨I,hle1.trans (hle2.trans (hle3.trans (hle4.trans hle5))),_,_,_,_,_,I,CellsK.nil _,fun h=>absurd h h2,fun _=>⟨I,Ims.nil _⟩⟩
  ·have he2:(if (checkC (canonC B)).2≠0 then ((checkC (canonC B)).2,[]) else ((0:Int),canonC B))=(0,canonC B):=if_neg h2;rw[he2];refine kP (tN (sQ ?_));refine SC.drawT 1 [4,5] [(0,1),(1,2),(2,1),(3,0),(4,0),(5,0),(6,2)] Tryz.mixed kR ?_;refine pK rfl (qV 0 iT29 zT29 rfl rfl rfl) (yM rfl (pK rfl (qV 0 iT29 zT29 rfl rfl rfl) (SP.o rfl (SO.call call76 rfl (step_spec E g5 [pt b11 (.cells #[.slice p5 (canonC B).length c5] 29 (0,0)),edP bx u mb ms bk,mp ms (prsT ts),pt b5 (.cells #[.slice none 0 0,vb false] 89 (0,0)),pt b4 (.cells #[.slice none 0 0] 29 (0,0)),pt b3 (.cells #[vi e.kind,vi e.cell,vi e.dim,vi e.new,vi e.other,.slice sp e.sides.length sc,.slice pq e.pairs.length pc] 39 (0,0)),pt b2 (.cells #[.slice p l.length c] 29 (0,0))] s bx mb ms u _ bk (canonC l) (canonC B) ts hts htn (hu.mono (hle3.trans (hle4.trans hle5))) hu5 hAf.1 hcB.1 1 2 rfl rfl)) dC (.inr (by rintro _ g6 _ ⟨rfl,hle6,iv,rfl,him⟩; exact⟨by assumption,(by exact .cons_cons _ (List.nil_sublist _))⟩)) ?_)));rintro _ g6 _ ⟨rfl,hle6,iv,rfl,him⟩;obtain ⟨p6,n6,c6,rfl⟩:=him.form;refine SP.on I (sK 4 zT29 I I I I I sB) (.inl dC) ?_;rintro _ _ _ ⟨rfl,rfl⟩;refine SP.on I (sK 3 zT89 I I I I I sB) (.inl dC) ?_;rintro _ _ _ ⟨rfl,rfl⟩;refine pU I (aS I) (pN (tN (rE ?_)));exact ST.retCCT 4 3 s (.inl I) results43 I I I iT29 zT29 isAgg89 zT89 I I I I uR ⟨I,hle1.trans (hle2.trans (hle3.trans (hle4.trans (hle5.trans hle6)))),_,_,_,_,_,I,(hn5.mono (mns_anti (hle1.trans (hle2.trans (hle3.trans hle4))))).mono (mns_mono hle6),fun _=>⟨I,by rw[show (fun c:Cl=>(c.id,img c.id))=fun c:Cl=>(c.id,imgT ts c.id) from funext fun c=>by rw[himg]]; exact him⟩,fun h=>absurd I h⟩
 ·rw[if_neg hc0] at hcase;obtain ⟨h,rfl⟩:=hcase;have hout:applyOut code B=(code,[]):=if_pos hc0;rw[hout];refine SL.drop (List.sublist_append_right _ _) (aT I (rZ (bW (aL zeroValue29) fun b11=>?_)));refine tZ (sQ (sW I (yE I (tZ ?_))));refine iP I (fun h0=>?_) (fun h0=>?_)
  ·exact absurd h0 hc0
  ·refine kP (tN (sQ (sW I (lU (nQ I I) (tZ ?_)))));refine iP I (fun h2=>?_) (fun h2=>?_)
   ·refine rZ (lU (SU.build I buildE29) (lU (SU.build I buildZ89) (lM I (oZ (sK 2 zT29 I I I I I sB) ?_))));refine oZ (sK 1 zT89 I I I I I sB) ?_;refine aT I (rE (tR ?_));exact ST.retCCT 2 1 s (.inl I) results43 I I I iT29 zT29 isAgg89 zT89 I I I I uR ⟨I,hle1.trans (hle2.trans hle3),_,_,_,_,_,I,CellsK.nil _,fun h=>absurd h hc0,fun _=>⟨I,Ims.nil _⟩⟩
   ·exact absurd hc0 h2
set_option maxHeartbeats 1000000
theorem cells_sorted {l m:List Side}(h:l.Perm m)(hl:l.Pairwise fun a b=>a.cell≤b.cell)(hm:m.Pairwise fun a b=>a.cell≤b.cell):l.map Side.cell=m.map Side.cell:=by
 refine List.Perm.eq_of_pairwise (le:=fun a b:Int=>a≤b) (fun a b _ _ h1 h2=>by omega) ?_ ?_ (h.map _)
 ·rw[List.pairwise_map]; exact hl
 ·rw[List.pairwise_map]; exact hm
def CaC (a b:Cl):Prop:=a.id=b.id∧a.dim=b.dim∧a.sides.Perm b.sides∧a.sides.map Side.cell=b.sides.map Side.cell
theorem find_ca:∀ {L M:List Cl},All2 CaC L M→∀ k,(findT L k).map Cl.dim=(findT M k).map Cl.dim
 | [],[],_,_=>rfl
 | a::L,b::M,h,k=>by
  have ih:=find_ca h.2 k;have h1:=h.1.1;have h2:=h.1.2.1;unfold findT at ih ⊢;rw[List.find?_cons,List.find?_cons,h1];cases hd:decide (b.id=k) with
  | true=>simp[h2]
  | false=>simpa using ih
 | [],_::_,h,_=>h.elim
 | _::_,[],h,_=>h.elim
theorem isSome_ca {L M:List Cl}(h:All2 CaC L M)(k:Int):(findT L k).isSome=(findT M k).isSome:=by
 have h1:=congrArg Option.isSome (find_ca h k);simpa using h1
theorem dim_ca {L M:List Cl}(h:All2 CaC L M)(k:Int):((findT L k).getD zeroC).dim=((findT M k).getD zeroC).dim:=by
 have h1:=find_ca h k;cases h2:findT L k <;> cases h3:findT M k <;> (try rfl)<;>rw[h2,h3] at h1 <;> simp at h1
 exact h1
theorem at_ca {a b:Cl}(h:CaC a b)(i:Nat):a.sides[i]?.map Side.cell=b.sides[i]?.map Side.cell:=by
 have h1:=congrArg (fun l:List Int=>l[i]?) h.2.2.2;simpa using h1
theorem bad_ca {L M:List Cl}(h:All2 CaC L M){a b:Cl}(hab:CaC a b)(i:Nat):badAt L a i=badAt M b i:=by
 have h1:=at_ca hab i;unfold badAt;cases h2:a.sides[i]? with
 | none =>
  cases h3:b.sides[i]? with
  | none=>rfl
  | some y=>rw[h2,h3] at h1; simp at h1
 | some x =>
  cases h3:b.sides[i]? with
  | none=>rw[h2,h3] at h1; simp at h1
  | some y =>
   rw[h2,h3] at h1;have h4:x.cell=y.cell:=by simpa using h1
   show badSide L a i x=badSide M b i y;unfold badSide;rw[h4,isSome_ca h,dim_ca h,hab.2.1,at_ca hab (i - 1)]
theorem form_ca {L M:List Cl}(h:All2 CaC L M){a b:Cl}(hab:CaC a b):formC L a=formC M b:=by
 have hl:a.sides.length=b.sides.length:=hab.2.2.1.length_eq;have h1:dimBad a=dimBad b:=by unfold dimBad; rw[hab.2.1]
 have h2:cntBad a=cntBad b:=by unfold cntBad; rw[hab.2.1,hl]
 have h3:(List.range a.sides.length).any (badAt L a)=(List.range b.sides.length).any (badAt M b):=by
  rw[hl,show badAt L a=badAt M b from funext fun i=>bad_ca h hab i]
 have h4:a.sides.any signBad=b.sides.any signBad:=by
  rw[Bool.eq_iff_iff,List.any_eq_true,List.any_eq_true];exact⟨fun ⟨x,hx,hb⟩=>⟨x,hab.2.2.1.mem_iff.1 hx,hb⟩,fun ⟨x,hx,hb⟩=>⟨x,hab.2.2.1.mem_iff.2 hx,hb⟩⟩
 have h5:sumS a.sides=sumS b.sides:=perm_sumI (hab.2.2.1.map Side.sign);unfold formC;rw[h1,h2,h3,h4,h5,hab.2.1]
theorem chk1_ca {L0 M0:List Cl}(h0:All2 CaC L0 M0):∀ {L M:List Cl},All2 CaC L M→∀ n,chk1 L0 L n=chk1 M0 M n
 | [],[],_,_=>rfl
 | a::L,b::M,h,n=>by
  unfold chk1;rw[h.1.1,form_ca h0 h.1,chk1_ca h0 h.2]
 | [],_::_,h,_=>h.elim
 | _::_,[],h,_=>h.elim
theorem chk1_some {tl:List Cl}:∀ {l:List Cl} {n:Int} {p:Int×Int},chk1 tl l n=some p→p.2≠0
 | [],_,_,h=>by cases h
 | x::r,n,p,h=>by
  unfold chk1 at h;split at h
  ·cases h; exact (by decide:(20:Int)≠0)
  ·split at h
   ·rename_i h1; cases h; exact h1
   ·exact chk1_some h
theorem all2_both {α β α' β':Type}{R:α→β→Prop}{S:α'→β'→Prop}{f:α→α'}{k:β→β'}(hR:∀ a b,R a b→S (f a) (k b)):∀ {l:List α} {m:List β},All2 R l m→All2 S (l.map f) (m.map k)
 | [],[],_=>trivial
 | _::_,_::_,h=>⟨hR _ _ h.1,all2_both hR h.2⟩
 | [],_::_,h=>h.elim
 | _::_,[],h=>h.elim
theorem norm_ca {a b:Cl}(h:ShC a b):CaC (normC a) (normC b):=by
 have hp:(normC a).sides.Perm (normC b).sides:=(sortPerm a.sides).trans (h.2.2.trans (sortPerm b.sides).symm);exact⟨h.1,h.2.1,hp,cells_sorted hp (sortBy_srt a.sides) (sortBy_srt b.sides)⟩
theorem canon_ca {B D:List Cl}(h:ShL B D)(hn:(B.map Cl.id).Nodup):All2 CaC (canonC B) (canonC D):=by
 obtain ⟨l1,hp,ha⟩:=h;have h1:sortBy Cl.id B=sortBy Cl.id l1:=sortBy_uniq hp.symm hn;unfold canonC;rw[h1];exact all2_both (R:=ShC) (S:=CaC) (fun a b h=>norm_ca h) (All2.sortBy (R:=ShC) (f:=Cl.id) (h:=Cl.id) (fun a b h=>h.1) ha)
theorem ids_ca:∀ {L M:List Cl},All2 CaC L M→L.map Cl.id=M.map Cl.id
 | [],[],_=>rfl
 | a::L,b::M,h=>by rw[List.map_cons,List.map_cons,h.1.1,ids_ca h.2]
 | [],_::_,h=>h.elim
 | _::_,[],h=>h.elim
theorem same_ca:∀ {L M:List Cl},All2 CaC L M→(∀ c∈L,c.sides.Pairwise fun a b=>a.cell<b.cell)→L=M
 | [],[],_,_=>rfl
 | a::L,b::M,h,hl=>by
  rw[same_ca h.2 fun c hc=>hl c (by simp[hc])];obtain ⟨⟨h1,h2,h3,h4⟩,-⟩:=h;have ha:=hl a (by simp);have hb:b.sides.Pairwise fun a b=>a.cell<b.cell:=by
   have h5:(a.sides.map Side.cell).Pairwise fun a b=>a<b:=by rw[List.pairwise_map]; exact ha
   rw[h4,List.pairwise_map] at h5;exact h5
  have h6:a.sides=b.sides:=List.Perm.eq_of_pairwise (le:=fun a b:Side=>a.cell<b.cell) (fun a b _ _ h1 h2=>by omega) ha hb h3;congr 1;cases a; cases b;simp at h1 h2 h6;rw[h1,h2,h6]
 | [],_::_,h,_=>h.elim
 | _::_,[],h,_=>h.elim
theorem strict_canon {B:List Cl}(hn:(B.map Cl.id).Nodup):(canonC B).Pairwise fun a b=>a.id<b.id:=by
 have h1:((canonC B).map Cl.id).Nodup:=by
  have:(canonC B).map Cl.id=(sortBy Cl.id B).map Cl.id:=by unfold canonC; rw[List.map_map]; rfl
  rw[this];exact ((sortPerm B).map Cl.id).symm.nodup hn
 rw[List.Nodup,List.pairwise_map] at h1;exact ((canonC_srt B).and h1).imp fun ⟨h2,h3⟩=>by have h2':_≤_:=h2; omega
theorem apply_sh {B D:List Cl}(h:ShL B D)(hn:(B.map Cl.id).Nodup):applyOut 0 B=applyOut 0 D:=by
 have hca:=canon_ca h hn;have hlen:B.length=D.length:=h.length;have hsB:=strict_canon hn;have hsD:(canonC D).Pairwise fun a b=>a.id<b.id:=by
  have h1:((canonC B).map Cl.id).Pairwise fun a b=>a<b:=by rw[List.pairwise_map]; exact hsB
  rw[ids_ca hca,List.pairwise_map] at h1;exact h1
 have htB:=tabC_strict hsB;have htD:=tabC_strict hsD;have h1:chk1 (tabC B) (canonC B) 0=chk1 (tabC D) (canonC D) 0:=by rw[htB,htD]; exact chk1_ca hca hca 0
 by_cases hl:(B.length:Int)>4000
 ·have hB:checkC B=(0,2):=by unfold checkC; rw[if_pos hl]
  have hD:checkC D=(0,2):=by unfold checkC; rw[if_pos oM]
  unfold applyOut;rw[checkC_canon,checkC_canon,hB,hD];rfl
 ·cases hq:chk1 (tabC B) (canonC B) 0 with
  | some p =>
   have hB:checkC B=p:=by unfold checkC; rw[if_neg hl,hq]; rfl
   have hD:checkC D=p:=by unfold checkC; rw[if_neg oM,← h1,hq]; rfl
   have hp:=chk1_some hq;unfold applyOut;rw[checkC_canon,checkC_canon,hB,hD,if_neg (by decide:¬ (0:Int)≠0),if_neg (by decide:¬ (0:Int)≠0),if_pos hp,if_pos hp]
  | none =>
   obtain ⟨-,-,h4⟩:=chk1_none_form hq;have he:canonC B=canonC D:=same_ca hca fun c hc=>(fm_of (h4 c hc) (canon_sides B c hc)).asc;unfold applyOut;rw[he]
theorem Rt.findC {A:List Cl}(h:Rt A)(id:Int):findC A id=findT A id:=by
 unfold Go.Proofs.YtmmghffoakhheaaGreatDoor.findC;rw[h.tab];rfl
theorem Rt.ids {A:List Cl}(h:Rt A):(A.map Cl.id).Nodup:=by
 rw[List.Nodup,List.pairwise_map];exact h.asc.imp fun h=>by omega
theorem Rt.few64 {A:List Cl}(h:Rt A){c:Cl}(hc:c∈A):c.sides.length≤64:=(form_ok (h.form c hc).ok).1
theorem Rt.signs {A:List Cl}(h:Rt A){c:Cl}(hc:c∈A):∀ x∈c.sides,x.sign=1∨x.sign = -1:=(h.form c hc).sg
theorem Rt.difS {A:List Cl}(h:Rt A){c:Cl}(hc:c∈A):(c.sides.map Side.cell).Nodup:=by
 rw[List.Nodup,List.pairwise_map];exact (h.form c hc).asc.imp fun h=>by omega
theorem Rt.getD {A:List Cl}(_:Rt A)(id:Int):((findT A id).getD zeroC)=zeroC∨((findT A id).getD zeroC)∈A:=by
 cases h:findT A id with
 | none=>exact .inl rfl
 | some c=>exact .inr (findT_mem h).1
theorem Rt.fits {A:List Cl}(h:Rt A):Fits A:=⟨by have:=h.few; omega,fun c hc=>by have:=h.few64 hc; omega⟩
theorem Rt.mem_above {A:List Cl}(h:Rt A){k id:Int}:id∈aboveC A k↔∃ c∈A,c.id=id∧hasC c k=true:=by
 unfold aboveC;rw[h.tab,List.mem_map];constructor
 ·rintro ⟨c,hc,rfl⟩;obtain ⟨h1,h2⟩:=List.mem_filter.1 hc;exact⟨c,h1,I,h2⟩
 ·rintro ⟨c,h1,rfl,h2⟩;exact⟨c,List.mem_filter.2 ⟨h1,h2⟩,I⟩
theorem Rt.above_nodup {A:List Cl}(h:Rt A)(k:Int):(aboveC A k).Nodup:=by
 unfold aboveC;rw[h.tab];exact (List.filter_sublist.map Cl.id).nodup h.ids
theorem Rt.not_self {A:List Cl}(h:Rt A)(k:Int):k ∉ aboveC A k:=fun hk=>by
 obtain ⟨c,hc,rfl,hh⟩:=h.mem_above.1 hk;unfold hasC at hh;obtain ⟨x,hx,he⟩:=List.any_eq_true.1 hh;obtain ⟨d,hd1,hd2⟩:=(h.form c hc).found x hx;rw[of_decide_eq_true he,h.find hc] at hd1;cases hd1;omega
theorem Rt.edge {A:List Cl}(h:Rt A){c:Cl}(hc:c∈A)(hd:c.dim=1):∃ z0 z1,c.sides=[z0,z1]∧((z0.sign=1∧z1.sign = -1)∨(z0.sign = -1∧z1.sign=1)):=by
 have hf:=h.form c hc;have h1:=hf.cnt;have h2:c.sides.length=2:=by
  unfold cntBad at h1;simp[hd] at h1;omega
 obtain ⟨z0,z1,h3⟩:∃ z0 z1,c.sides=[z0,z1]:=by
  match hs:c.sides,h2 with
  | [z0,z1],_=>exact⟨z0,z1,rfl⟩
 refine⟨z0,z1,h3,?_⟩;have h4:=hf.one hd;have h5:=hf.sg z0 (by rw[h3]; simp);have h6:=hf.sg z1 (by rw[h3]; simp);rw[h3] at h4;simp[sumS] at h4;omega
theorem Rt.above_one {A:List Cl}(h:Rt A){k m:Int}(ha:aboveC A k=[m]):∃ c∈A,c.id=m∧findT A m=some c∧hasC c k=true:=by
 obtain ⟨c,hc,rfl,hh⟩:=h.mem_above.1 (show m∈aboveC A k by rw[ha]; simp);exact⟨c,hc,I,h.find hc,hh⟩
theorem colSides_sg {A:List Cl}(h:Rt A)(e:Ed):∀ x∈colSides A e,x.sign=1∨x.sign = -1:=by
 unfold colSides
 rcases h.getD e.other with h1 | h1
 ·rw[h1]; intro x hx; cases hx
 ·exact h.signs h1
theorem colSides_len {A:List Cl}(h:Rt A)(e:Ed):(colSides A e).length≤64:=by
 unfold colSides
 rcases h.getD e.other with h1 | h1
 ·rw[h1]; decide
 ·exact h.few64 h1
theorem colSides_mem {A:List Cl}(h:Rt A)(e:Ed)(ha:aboveC A e.cell=[e.other]):(colSides A e).any (fun x=>decide (x.cell=e.cell))=true:=by
 obtain ⟨c,hc,hi,hf,hh⟩:=h.above_one ha;unfold colSides;rw[hf];exact hh
theorem sg_none {cell:Int}:∀ {S:List Side} (a:Int),(∀ x∈S,x.cell≠cell)→S.foldl (fun a x=>if x.cell=cell then x.sign else a) a=a
 | [],_,_=>rfl
 | x::S,a,h=>by
  rw[List.foldl_cons,if_neg (h x (by simp))];exact sg_none a fun y hy=>h y (by simp[hy])
theorem erase_fil {cell:Int}:∀ {S:List Side},(S.map Side.cell).Nodup→S.any (fun x=>decide (x.cell=cell))=true→S.eraseIdx (S.findIdx fun x=>decide (x.cell=cell))=S.filter (fun x=>!decide (x.cell=cell))∧colSign S (S.findIdx fun x=>decide (x.cell=cell))=sgF S cell
 | [],_,h=>by cases h
 | x::S,hn,h=>by
  rw[List.map_cons,List.nodup_cons] at hn;rw[List.findIdx_cons];by_cases hx:x.cell=cell
  ·have hno:∀ y∈S,y.cell≠cell:=fun y hy e=>hn.1 (List.mem_map.2 ⟨y,hy,by rw[e,hx]⟩);have h1:S.filter (fun x=>!decide (x.cell=cell))=S:=List.filter_eq_self.2 fun y hy=>by simp[hno y hy]
   rw[decide_eq_true hx];refine⟨by simp[hx,h1],?_⟩;show x.sign=_;unfold sgF;rw[List.foldl_cons,if_pos hx,sg_none _ hno]
  ·have h1:S.any (fun x=>decide (x.cell=cell))=true:=by simpa [hx] using h
   obtain ⟨h2,h3⟩:=erase_fil hn.2 h1;rw[decide_eq_false hx];refine⟨?_,?_⟩
   ·simp[hx,h2]
   ·have h4:sgF (x::S) cell=sgF S cell:=by unfold sgF; rw[List.foldl_cons,if_neg hx]
    rw[h4,← h3];simp[colSign]
theorem colChain_eq {A:List Cl}(h:Rt A)(e:Ed)(ha:aboveC A e.cell=[e.other]):sortBy Prod.fst (colChain A e)=refColChain A e:=by
 have hmem:=colSides_mem h e ha;obtain ⟨c,hc,hi,hf,hh⟩:=h.above_one ha;have hS:colSides A e=c.sides:=by unfold colSides; rw[hf]; rfl
 have hR:refColChain A e=(c.sides.filter fun x=>!decide (x.cell=e.cell)).map fun x=>(x.cell,-sgF c.sides e.cell * x.sign):=by unfold refColChain; rw[h.findC,hf]; rfl
 rw[hS] at hmem;obtain ⟨h1,h2⟩:=erase_fil (h.difS hc) hmem;have hC:colChain A e=refColChain A e:=by
  rw[hR];unfold colChain;rw[hS,h1,h2]
 rw[hC];refine (eq_sortBy ?_ (Stab.refl _)).symm;rw[hR];unfold Srt;rw[List.pairwise_map];exact ((h.form c hc).asc.sublist List.filter_sublist).imp fun h=>by dsimp only; omega
def colImg (A:List Cl)(e:Ed)(k:Int):List Tm:=if k=e.cell then refColChain A e else if k=e.other then [] else [(k,1)]
theorem colImg_prog {A:List Cl}(h:Rt A)(e:Ed)(ha:aboveC A e.cell=[e.other])(v1 v2:Value)(k:Int):imgT [(e.cell,v1,colChain A e),(e.other,v2,[])] k=colImg A e k:=by
 unfold imgT colImg;by_cases h1:k=e.cell
 ·subst h1;rw[if_pos rfl,List.find?_cons_of_pos (by simp)];exact colChain_eq h e ha
 ·rw[if_neg h1,List.find?_cons_of_neg (by simpa using fun e=>h1 e.symm)];by_cases h2:k=e.other
  ·subst h2;rw[if_pos rfl,List.find?_cons_of_pos (by simp)];rfl
  ·rw[if_neg h2,List.find?_cons_of_neg (by simpa using fun e=>h2 e.symm)];rfl
theorem moreS_one {e:Ed}:∀ {S:List Side},(S.map Side.cell).Nodup→moreS e S=if S.any (fun x=>decide (x.cell=e.cell)) then [⟨e.other,sgnS S e.cell⟩] else []
 | [],_=>rfl
 | x::S,hn=>by
  rw[List.map_cons,List.nodup_cons] at hn;by_cases hx:x.cell=e.cell
  ·have hno:∀ y∈S,y.cell≠e.cell:=fun y hy e'=>hn.1 (List.mem_map.2 ⟨y,hy,by rw[e',hx]⟩);have h1:S.filter (fun x=>decide (x.cell=e.cell))=[]:=List.filter_eq_nil_iff.2 fun y hy=>by simp[hno y hy]
   unfold moreS sgnS;simp[hx,h1]
  ·have ih:=moreS_one (e:=e) hn.2;unfold moreS sgnS at ih ⊢;simp[hx] at ih ⊢;exact ih
theorem putC_map {c:Cl}:∀ {B:List Cl},(B.map Cl.id).Nodup→(∃ x∈B,x.id=c.id)→putC B c=B.map fun y=>if y.id=c.id then c else y
 | [],_,⟨x,hx,_⟩=>by cases hx
 | x::B,hn,hx=>by
  rw[List.map_cons,List.nodup_cons] at hn;unfold putC;by_cases h1:c.id=x.id
  ·rw[if_pos h1,List.map_cons,if_pos h1.symm];congr 1;have:B.map (fun y=>if y.id=c.id then c else y)=B.map id:=List.map_congr_left fun y hy=>by
    rw[if_neg fun e=>hn.1 (List.mem_map.2 ⟨y,hy,by rw[e,h1]⟩)];rfl
   rw[this,List.map_id]
  ·rw[if_neg h1,List.map_cons,if_neg fun e=>h1 e.symm];congr 1;refine putC_map hn.2 ?_;obtain ⟨y,hy,he⟩:=hx
   rcases List.mem_cons.1 hy with rfl | hy
   ·exact absurd he.symm h1
   ·exact⟨y,hy,he⟩
theorem findT_no {A:List Cl}{k:Int}(h:(findT A k).isSome=false):∀ x∈A,x.id≠k:=fun x hx he=>by
 have h1:(findT A k).isSome=true:=by
  unfold findT;rw[List.find?_isSome];exact⟨x,hx,by simpa using he⟩
 rw[h] at h1;cases h1
theorem ends_are {S:List Side}{z0 z1:Side}(hl:S=[z0,z1])(h:(z0.sign=1∧z1.sign = -1)∨(z0.sign = -1∧z1.sign=1)):endS S true=⟨(endS S true).cell,1⟩∧endS S false=⟨(endS S false).cell,-1⟩:=by
 subst hl;obtain ⟨c0,s0⟩:=z0;obtain ⟨c1,s1⟩:=z1
 rcases h with ⟨h0,h1⟩ | ⟨h0,h1⟩ <;> dsimp only at h0 h1 <;> subst h0 <;> subst h1 <;> exact⟨rfl,rfl⟩
theorem splitOut_eq {A:List Cl}(h:Rt A)(e:Ed)(hc:splitCode A e=0):splitOut A e=A.map (refSplitCell e (endS ((findC A e.cell).getD zeroC).sides false).cell)++[⟨e.new,0,[]⟩,⟨e.other,1,[⟨e.new,-1⟩,⟨(endS ((findC A e.cell).getD zeroC).sides true).cell,1⟩]⟩]:=by
 rw[h.findC];unfold splitCode at hc;cases hf:findT A e.cell with
 | none=>rw[hf] at hc; cases hc
 | some c =>
 rw[hf] at hc;dsimp only at hc;split at hc
 ·cases hc
 rename_i hd;split at hc
 ·cases hc
 rename_i hnew;split at hc
 ·cases hc
 rename_i hno;rw[Bool.or_eq_true,not_or,Bool.not_eq_true,Bool.not_eq_true] at hno;have hd:c.dim=1:=Decidable.not_not.1 hd;obtain ⟨hcA,hci⟩:=findT_mem hf;obtain ⟨z0,z1,hz,hsg⟩:=h.edge hcA hd;obtain ⟨e1,e2⟩:=ends_are hz hsg;unfold splitOut;rw[hf,Option.getD_some];generalize endS c.sides true=zt at *;generalize endS c.sides false=zf at *;have hids:(splitAt A e (aboveC A e.cell)).map Cl.id=A.map Cl.id:=by
  unfold splitAt;rw[List.map_map];refine List.map_congr_left fun y _=>?_;show (if y.id∈aboveC A e.cell then withEd e y else y).id=y.id;split <;> rfl
 have hmemid:∀ k,(∃ x∈splitAt A e (aboveC A e.cell),x.id=k)→∃ x∈A,x.id=k:=fun k ⟨x,hx,he⟩=>by
  have h1:k∈(splitAt A e (aboveC A e.cell)).map Cl.id:=List.mem_map.2 ⟨x,hx,he⟩;rw[hids] at h1;obtain ⟨y,hy,he⟩:=List.mem_map.1 h1;exact⟨y,hy,he⟩
 have hno1:=findT_no hno.1;have hno2:=findT_no hno.2;have hp1:putC (splitAt A e (aboveC A e.cell)) ⟨e.new,0,[]⟩=splitAt A e (aboveC A e.cell)++[⟨e.new,0,[]⟩]:=putC_new fun x hx he=>by
  obtain ⟨y,hy,he⟩:=hmemid e.new ⟨x,hx,he⟩;exact hno1 y hy he
 have hp2:putC (splitAt A e (aboveC A e.cell)++[⟨e.new,0,[]⟩]) ⟨e.other,1,[⟨e.new,-1⟩,zt]⟩=(splitAt A e (aboveC A e.cell)++[⟨e.new,0,[]⟩])++[⟨e.other,1,[⟨e.new,-1⟩,zt]⟩]:=putC_new fun x hx he=>by
  rcases List.mem_append.1 hx with hx | hx
  ·obtain ⟨y,hy,he⟩:=hmemid e.other ⟨x,hx,he⟩;exact hno2 y hy he
  ·simp at hx;subst hx;exact hnew (.inr he)
 have hcn:e.cell≠e.new:=fun he=>hno1 c hcA (by rw[hci,he]);have hco:e.cell≠e.other:=fun he=>hno2 c hcA (by rw[hci,he]);have hnd:(((splitAt A e (aboveC A e.cell)++[(⟨e.new,0,[]⟩:Cl)])++[(⟨e.other,1,[⟨e.new,-1⟩,zt]⟩:Cl)]).map Cl.id).Nodup:=by
  rw[← hp2,← hp1];exact putC_nodup (putC_nodup (by rw[hids]; exact h.ids))
 rw[hp1,hp2,putC_map hnd]
 ·rw[List.map_append,List.map_append,List.append_assoc];congr 1
  ·unfold splitAt;rw[List.map_map];refine List.map_congr_left fun y hy=>?_;show (if (if y.id∈aboveC A e.cell then withEd e y else y).id=e.cell then _ else _)=_;have hyi:(if y.id∈aboveC A e.cell then withEd e y else y).id=y.id:=by split <;> rfl
   rw[hyi];unfold refSplitCell;by_cases h1:y.id=e.cell
   ·have hyc:y=c:=h.same hy hcA (by rw[h1,hci]);subst hyc;rw[if_pos h1,if_pos h1,h1,hd,e2]
   ·rw[if_neg h1,if_neg h1,moreS_one (h.difS hy)];by_cases h2:hasC y e.cell=true
    ·have h3:y.id∈aboveC A e.cell:=h.mem_above.2 ⟨y,hy,rfl,h2⟩;unfold hasC at h2;rw[if_pos h3,if_pos h2];rfl
    ·have h3:y.id ∉ aboveC A e.cell:=fun h4=>by
      obtain ⟨z,hz,he,hh⟩:=h.mem_above.1 h4;rw[h.same hz hy he] at hh;exact h2 hh
     unfold hasC at h2;rw[if_neg h3,if_neg h2,List.append_nil]
  ·simp only[List.map_cons,List.map_nil,List.cons_append,List.nil_append];rw[if_neg (by exact fun he=>hcn he.symm),if_neg (by exact fun he=>hco he.symm),e1]
 ·have h1:e.cell∈(splitAt A e (aboveC A e.cell)).map Cl.id:=by
   rw[hids];exact List.mem_map.2 ⟨c,hcA,hci⟩
  obtain ⟨x,hx,he⟩:=List.mem_map.1 h1;exact (by exact⟨x,List.mem_append_left _ (List.mem_append_left _ hx),he⟩)
theorem ShC.refl (c:Cl):ShC c c:=⟨rfl,rfl,.refl _⟩
theorem split_sh {A:List Cl}(h:Rt A)(e:Ed)(hc:splitCode A e=0):ShL (splitOut A e) (refSplitOut A e):=by
 refine⟨refSplitOut A e,?_,?_⟩
 ·rw[splitOut_eq h e hc];exact List.perm_append_comm
 ·have:∀ l:List Cl,All2 ShC l l:=fun l=>by
   induction l with
   | nil=>trivial
   | cons x l ih=>exact⟨ShC.refl x,ih⟩
  exact this _
theorem splitOut_nodup {A:List Cl}(h:Rt A)(e:Ed):((splitOut A e).map Cl.id).Nodup:=by
 unfold splitOut;have hids:(splitAt A e (aboveC A e.cell)).map Cl.id=A.map Cl.id:=by
  unfold splitAt;rw[List.map_map];refine List.map_congr_left fun y _=>?_;show (if y.id∈aboveC A e.cell then withEd e y else y).id=y.id;split <;> rfl
 exact putC_nodup (putC_nodup (putC_nodup (by rw[hids]; exact h.ids)))
def splitImg (e:Ed)(k:Int):List Tm:=if k=e.cell then refSplitChain e else [(k,1)]
theorem splitImg_prog (e:Ed)(v1:Value)(k:Int):imgT [(e.cell,v1,[(e.cell,1),(e.other,1)])] k=splitImg e k:=by
 unfold imgT splitImg refSplitChain;by_cases h1:k=e.cell
 ·subst h1;rw[if_pos rfl,List.find?_cons_of_pos (by simp)];show sortBy Prod.fst [(e.cell,(1:Int)),(e.other,1)]=_;simp only[sortBy,ins];by_cases h2:e.other<e.cell
  ·rw[if_pos h2,if_neg oM]
  ·rw[if_neg h2,if_pos oM]
 ·rw[if_neg h1,List.find?_cons_of_neg (by simpa using fun e=>h1 e.symm)];rfl
theorem ident_sh (A:List Cl)(e:Ed):ShL (identOut A e) (refIdentOut A e):=by
 refine⟨identOut A e,.refl _,?_⟩;unfold identOut refIdentOut;have:restR A (e.pairs.map Prod.snd)=restC A (e.pairs.map Prod.snd):=rfl;rw[this];generalize restC A (e.pairs.map Prod.snd)=l;induction l with
 | nil=>trivial
 | cons c l ih=>exact⟨⟨rfl,rfl,srtS_perm _⟩,ih⟩
theorem identOut_nodup {A:List Cl}(h:Rt A)(e:Ed):((identOut A e).map Cl.id).Nodup:=by
 unfold identOut;rw[List.map_map];have:(Cl.id ∘ repC (byF e.pairs))=Cl.id:=rfl;rw[this];exact (List.filter_sublist.map Cl.id).nodup h.ids
set_option maxHeartbeats 2000000
def codeK (A:List Cl)(e:Ed):Int:=if e.kind=1 then attachCode A e else if e.kind=2 then removeCode A e else if e.kind=3 then splitCode A e else if e.kind=4 then identCode A e else if e.kind=5 then colCode A e else 1
def cellsK (A:List Cl)(e:Ed):List Cl:=if e.kind=1 then A++[⟨e.cell,e.dim,e.sides⟩] else if e.kind=2 then restR A [e.cell] else if e.kind=3 then refSplitOut A e else if e.kind=4 then refIdentOut A e else restR A [e.cell,e.other]
def imgK (A:List Cl)(e:Ed)(k:Int):List Tm:=if e.kind=3 then splitImg e k else if e.kind=4 then identImg e k else if e.kind=5 then colImg A e k else [(k,1)]
def bkK (e:Ed):Bool:=decide (e.kind=2)
def appC (l:List Cl)(e:Ed):Int×List Cl:=if (checkC l).2=0 then applyOut (codeK (canonC l) e) (cellsK (canonC l) e) else (1,[])
def imsC (l:List Cl)(e:Ed):List (Int×List Tm):=(if bkK e then (appC l e).2 else canonC l).map fun c=>(c.id,imgK (canonC l) e c.id)
theorem restR_two {A:List Cl}(hn:(A.map Cl.id).Nodup)(a b:Int):delC (delC A a) b=restR A [a,b]:=by
 have h0:A=restC A []:=(List.filter_eq_self.2 fun _ _=>by simp).symm;have h1:delC A a=restC A [a]:=by
  have:=restC_del hn [] a;rw[← h0] at this;exact this
 rw[h1,restC_del hn];rfl
theorem restR_one {A:List Cl}(hn:(A.map Cl.id).Nodup)(a:Int):delC A a=restR A [a]:=by
 have h0:A=restC A []:=(List.filter_eq_self.2 fun _ _=>by simp).symm;have:=restC_del hn [] a;rw[← h0] at this;exact this
theorem restR_ids {A:List Cl}(hn:(A.map Cl.id).Nodup)(ks:List Int):((restR A ks).map Cl.id).Nodup:=(List.filter_sublist.map Cl.id).nodup hn
theorem restR_asc {A:List Cl}(h:Rt A)(ks:List Int):canonC (restR A ks)=restR A ks∧tabC (restR A ks)=restR A ks:=by
 have h1:(restR A ks).Pairwise fun a b=>a.id<b.id:=h.asc.sublist List.filter_sublist;have h2:canonC (restR A ks)=restR A ks:=by
  unfold canonC;rw[(eq_sortBy (key:=Cl.id) (h1.imp fun h=>by omega) (Stab.refl _)).symm];have:∀ c∈restR A ks,normC c=c:=fun c hc=>by
   unfold normC;rw[(eq_sortBy (key:=Side.cell) ((h.form c (List.mem_filter.1 hc).1).asc.imp fun h=>by omega) (Stab.refl c.sides)).symm]
  rw[List.map_congr_left this];simp
 exact⟨h2,by rw[tabC_strict (by rw[h2]; exact h1),h2]⟩
theorem split_fits {A:List Cl}(h:Rt A)(e:Ed)(hc:splitCode A e=0):Fits (splitOut A e):=by
 rw[splitOut_eq h e hc];have hl:=h.few;refine⟨by simp only[List.length_append,List.length_map,List.length_cons,List.length_nil]; omega,fun c hc=>?_⟩
 rcases List.mem_append.1 hc with hc | hc
 ·obtain ⟨y,hy,rfl⟩:=List.mem_map.1 hc;have h1:=h.few64 hy;have h2:(moreS e y.sides).length≤y.sides.length:=by unfold moreS; rw[List.length_map]; exact List.length_filter_le _ _
  unfold refSplitCell;split
  ·simp
  ·simp only[List.length_append]; omega
 ·simp at hc
  rcases hc with rfl | rfl <;> simp
theorem ident_fits {A:List Cl}(hf:Fits A)(e:Ed):Fits (identOut A e):=by
 refine⟨?_,fun c hc=>?_⟩
 ·unfold identOut;rw[List.length_map];exact Nat.lt_of_le_of_lt (List.length_filter_le _ _) hf.1
 ·unfold identOut at hc;obtain ⟨y,hy,rfl⟩:=List.mem_map.1 hc;have h1:=hf.2 y (List.mem_filter.1 hy).1;show (srtS (y.sides.map (repS (byF e.pairs)))).length<_;rw[(srtS_perm _).length_eq,List.length_map];exact h1
theorem split_run {A:List Cl}(hA:Rt A)(e:Ed):KindRunX (.func (.func 107) #[] #[]) e A (splitCode A e) (splitOut A e) (splitImg e) false:=by
 intro E g s bx mb ms u v rs hu hO hv;refine CallV.mk (args:=[_,_]) (cap:=[]) call107 ?_;refine (split_spec E g s bx mb ms u v e A rs hu hA.fits hA.ids hO hv ?_ (hA.above_nodup _) (hA.not_self _) ?_).mono ?_
 ·intro id hid;obtain ⟨c,hc,rfl,hh⟩:=hA.mem_above.1 hid;exact⟨c,hA.find hc,hh,hA.few64 hc⟩
 ·intro c hc hd;exact hA.edge (findT_mem hc).1 hd
 ·rintro r g' s' ⟨h1,h2,h3⟩;refine⟨h1,h2,?_⟩;by_cases h0:splitCode A e=0
  ·rw[if_pos h0] at h3 ⊢;obtain ⟨rs',v1,p,n,c,hv1,h4,rfl⟩:=h3;have hne:e.cell≠e.other:=fun he=>by
    unfold splitCode at h0;cases hf:findT A e.cell with
    | none=>rw[hf] at h0; cases h0
    | some c =>
     rw[hf] at h0;rw[he] at hf;rw[hf] at h0;dsimp only at h0;split at h0
     ·cases h0
     ·split at h0
      ·cases h0
      ·simp at h0
   refine⟨rs',_,h4,?_,by simp,splitImg_prog e v1,I⟩;intro t ht;simp at ht;subst ht;exact⟨by simp,by simpa using hne,p,n,c,hv1⟩
  ·rw[if_neg h0] at h3 ⊢;exact h3
theorem ident_run {A:List Cl}(hA:Rt A)(e:Ed)(hpl:e.pairs.length<1099511627776):KindRunX (.func (.func 108) #[] #[]) e A (identCode A e) (identOut A e) (identImg e) false:=by
 intro E g s bx mb ms u v rs hu hO hv;refine CallV.mk (args:=[_,_]) (cap:=[]) call108 ?_;refine Ctr.freezeO (L:=[edP bx u mb ms false,mp mb (rs.map rcPair),mp ms []]) hO fun g1 hle1 hall=>?_;refine (identify_spec E g1 s bx mb ms u v e A rs hA.fits hA.ids hall (hv.mono hle1) hpl).mono ?_;rintro r g' s' ⟨h1,h2,h3⟩;exact⟨hle1.trans h1,h2,h3⟩
theorem col_run {A:List Cl}(hA:Rt A)(e:Ed):KindRunX (.func (.func 109) #[] #[]) e A (colCode A e) (delC (delC A e.cell) e.other) (colImg A e) false:=by
 intro E g s bx mb ms u v rs hu hO hv;refine CallV.mk (args:=[_,_]) (cap:=[]) call109 ?_;refine Ctr.freezeO (L:=[edP bx u mb ms false,mp mb (rs.map rcPair),mp ms []]) hO fun g1 hle1 hall=>?_;refine (collapse_spec E g1 s bx mb ms u v e A rs (hu.mono hle1) hA.fits hall (hv.mono hle1) (colSides_sg hA e) (colSides_len hA e) (colSides_mem hA e)).mono ?_;rintro r g' s' ⟨h1,h2,h3⟩;refine⟨hle1.trans h1,h2,?_⟩;by_cases h0:colCode A e=0
 ·rw[if_pos h0] at h3 ⊢;obtain ⟨v1,p,n,c,hv1,rfl⟩:=h3;have ha:aboveC A e.cell=[e.other]:=by
   unfold colCode at h0;split at h0
   ·split at h0
    ·rename_i h; exact h.1
    ·cases h0
   ·cases h0
  obtain ⟨cy,hcy,hi,hf,hh⟩:=hA.above_one ha;have hne:e.cell≠e.other:=fun he=>by
   have:=hA.not_self e.cell;rw[ha,he] at this;exact this (by simp)
  refine⟨delR (delR rs e.cell) e.other,_,((all2_del (fun _ _ h=>h.1) e.other (all2_del (fun _ _ h=>h.1) e.cell hall)).mono fun _ _=>CellR.mono h1),?_,?_,colImg_prog hA e ha v1 (.slice none 0 0),I⟩
  ·intro t ht;simp at ht
   rcases ht with rfl | rfl
   ·have hS:colSides A e=cy.sides:=by unfold colSides; rw[hf]; rfl
    have h64:=colSides_len hA e;refine⟨?_,?_,p,n,c,hv1⟩
    ·show (colChain A e).length<_;unfold colChain;rw[List.length_map];have:=List.length_eraseIdx_le (colSides A e) ((colSides A e).findIdx fun x=>decide (x.cell=e.cell));omega
    ·show ((colChain A e).map Prod.fst).Nodup;unfold colChain;rw[List.map_map];have hs:((colSides A e).eraseIdx ((colSides A e).findIdx fun x=>decide (x.cell=e.cell))).Sublist (colSides A e):=List.eraseIdx_sublist _ _;refine (hs.map Side.cell).nodup ?_;rw[hS];exact hA.difS hcy
   ·exact⟨by simp,List.nodup_nil,none,0,0,I⟩
  ·simpa using hne
 ·rw[if_neg h0] at h3 ⊢;exact h3
theorem attach_new {A:List Cl}{e:Ed}(h:attachCode A e=0):putC A ⟨e.cell,e.dim,e.sides⟩=A++[⟨e.cell,e.dim,e.sides⟩]:=by
 refine putC_new fun x hx hxe=>?_;unfold attachCode at h;have h1:(findT A e.cell).isSome=true:=by
  unfold findT;rw[List.find?_isSome];exact⟨x,hx,by simpa using hxe⟩
 rw[h1] at h;cases h
theorem kind_run {A:List Cl}(hA:Rt A)(e:Ed)(hes:e.sides.length<1099511627776)(hpl:e.pairs.length<1099511627776)(hk:e.kind=1∨e.kind=2∨e.kind=3∨e.kind=4∨e.kind=5) :
  ∃ fv B,mget kindsM e.kind=some fv∧KindRunX fv e A (codeK A e) B (imgK A e) (bkK e)∧(codeK A e=0→Fits B∧(B.map Cl.id).Nodup∧applyOut 0 B=applyOut 0 (cellsK A e)):=by
 unfold codeK imgK bkK cellsK;have hs:(fun k:Int=>[(k,(1:Int))])=selfI:=rfl
 rcases hk with hk | hk | hk | hk | hk <;> simp only[hk] <;> simp only[Int.reduceEq,if_true,if_false,decide_true,decide_false]
 ·refine⟨_,putC A ⟨e.cell,e.dim,e.sides⟩,I,(attach_run A e hes).gen,fun h0=>?_⟩;have hB:=attach_new h0;refine⟨?_,putC_nodup hA.ids,by rw[hB]⟩;rw[hB];have hl:=hA.few;refine⟨by rw[List.length_append,List.length_singleton]; omega,fun c hc=>?_⟩
  rcases List.mem_append.1 hc with hc | hc
  ·exact hA.fits.2 c hc
  ·simp at hc; subst hc; exact hes
 ·refine⟨_,delC A e.cell,I,(remove_run A hA.fits e).gen,fun h0=>?_⟩;rw[restR_one hA.ids];exact⟨restR_fits hA.fits _,restR_ids hA.ids _,I⟩
 ·refine⟨_,splitOut A e,I,split_run hA e,fun h0=>?_⟩;exact⟨split_fits hA e h0,splitOut_nodup hA e,apply_sh (split_sh hA e h0) (splitOut_nodup hA e)⟩
 ·refine⟨_,identOut A e,I,ident_run hA e hpl,fun h0=>?_⟩;exact⟨ident_fits hA.fits e,identOut_nodup hA e,apply_sh (ident_sh A e) (identOut_nodup hA e)⟩
 ·refine⟨_,delC (delC A e.cell) e.other,I,col_run hA e,fun h0=>?_⟩;rw[restR_two hA.ids];exact⟨restR_fits hA.fits _,restR_ids hA.ids _,I⟩
theorem no_kind {e:Ed}(hk:¬ (e.kind=1∨e.kind=2∨e.kind=3∨e.kind=4∨e.kind=5)):mget kindsM e.kind=none:=by
 unfold kindsM;simp only[mget_cons,mget_nil]
 repeat' rw[if_neg oM]
theorem codeK_none {A:List Cl}{e:Ed}(hk:¬ (e.kind=1∨e.kind=2∨e.kind=3∨e.kind=4∨e.kind=5)):codeK A e=1:=by
 unfold codeK;rw[if_neg oM,if_neg oM,if_neg oM,if_neg oM,if_neg oM]
theorem RefAppN.congr {g0:PH}{code:Int}{D:List Cl}{ims ims':List (Int×List Tm)}{bk bk':Bool}{r:Value}{g:PH}(h:RefAppN g0 code D ims bk r g)(hi:code=0→ims=ims')(hb:code=0→bk=bk'):RefAppN g0 code D ims' bk' r g:=by
 obtain ⟨u,p,n,c,b,h1,h2,h3,h4⟩:=h;refine⟨u,p,n,c,b,h1,h2,fun h0=>?_,h4⟩;obtain ⟨h5,h6⟩:=h3 h0;rw[hi h0] at h6;exact⟨h5.trans (hb h0),h6⟩
theorem prog_applyN (E:World)(g:PH)(s:Own)(v ev:Value)(l:List Cl)(e:Ed)(hv:Cells g v l)(hf:Fits l)(he:EdR g ev e)(hes:e.sides.length<1099511627776)(hpl:e.pairs.length<1099511627776) :
  Ctr Tryz.prog E 43 #[.agg #[v],ev] g s (fun r g' s'=>s=s'∧Le g g'∧RefAppN g (appC l e).1 (appC l e).2 (imsC l e) (bkK e) r g'):=by
 by_cases hr:(checkC l).2=0
 ·have hA:=rt_of hr;have hap:appC l e=applyOut (codeK (canonC l) e) (cellsK (canonC l) e):=if_pos hr;by_cases hk:e.kind=1∨e.kind=2∨e.kind=3∨e.kind=4∨e.kind=5
  ·obtain ⟨fv,B,h1,h2,h3⟩:=kind_run hA e hes hpl hk;have hout:applyOut (codeK (canonC l) e) B=appC l e:=by
    rw[hap];by_cases h0:codeK (canonC l) e=0
    ·rw[h0]; exact (h3 h0).2.2
    ·unfold applyOut; rw[if_pos h0,if_pos h0]
   have h4:=apply_genN E g s v ev l e hv hf he hr fv (codeK (canonC l) e) B (bkK e) h1 (imgK (canonC l) e) h2 (fun h0=>⟨(h3 h0).1,(h3 h0).2.1⟩);refine h4.mono fun r g' s' ⟨h5,h6,h7⟩=>⟨h5,h6,?_⟩;rw[hout] at h7;refine h7.congr (fun h0=>?_) fun _=>I;have h8:canonC B=(appC l e).2:=by
    rw[← hout] at h0 ⊢;unfold applyOut at h0 ⊢;split at h0
    ·rename_i hh; exact absurd h0 hh
    ·rename_i hh;rw[if_neg hh];split at h0
     ·rename_i hh2; exact absurd h0 hh2
     ·rename_i hh2; rw[if_neg hh2]
   unfold imsC;rw[h8]
  ·have hc1:=codeK_none (A:=canonC l) hk;have hout:appC l e=(1,[]):=by rw[hap,hc1]; rfl
   rw[hout];exact apply_badN E g s v ev l e hv hf he _ _ (.inl (no_kind hk))
 ·have hout:appC l e=(1,[]):=if_neg hr;rw[hout];exact apply_badN E g s v ev l e hv hf he _ _ (.inr hr)
theorem prog_apply (E:World)(g:PH)(s:Own)(v ev:Value)(l:List Cl)(e:Ed)(hv:Cells g v l)(hf:Fits l)(he:EdR g ev e)(hes:e.sides.length<1099511627776)(hpl:e.pairs.length<1099511627776) :
  Ctr Tryz.prog E 43 #[.agg #[v],ev] g s (fun r g' s'=>s=s'∧Le g g'∧RefAppR (appC l e).1 (appC l e).2 (imsC l e) (bkK e) r g') :=
 (prog_applyN E g s v ev l e hv hf he hes hpl).mono fun _ _ _ ⟨h1,h2,h3⟩=>⟨h1,h2,h3.old⟩
def hiC (l:List Cl):Int:=l.foldl (fun n c=>max n c.id) 0
theorem hiC_succ {l:List Cl}{k:Nat}(hk:k<l.length):hiC (l.take (k+1))=max (hiC (l.take k)) l[k].id:=by
 unfold hiC;rw[tS hk,List.foldl_append];rfl
theorem highest_spec (E:World)(g:PH)(s:Own)(v:Value)(l:List Cl)(hv:Cells g v l)(hf:Fits l) :
  Ctr Tryz.prog E 38 #[.agg #[v]] g s (fun r g' s'=>s=s'∧g=g'∧r=vi (hiC l)):=by
 obtain ⟨rs,hrs,hall⟩:=hv;have hfl:=hf.1;have hlen:=hall.length;obtain ⟨p,c,rfl⟩:=SlA.form hrs;refine Ctr.of (args:=[.agg #[.slice p rs.length c]]) func38 I ntmps38 (bE I) ?_;refine rZ (bW (bO I) fun b1=>?_);refine aT I (rZ (aT I (sQ (rZ (aT I (bK ?_))))));refine oP (ι:=Nat) (fun k=>[(1,pp b1 0),(3,vi (hiC (l.take k))),(4,vi k)]) (fun _=>g) (fun _=>pt b1 (.cells #[.slice p rs.length c] 29 (0,0))::s)
  (fun k=>k≤rs.length) (fun k=>rs.length - k) 0 sB rfl rfl (Nat.zero_le _) ?_
 rintro k hk;try dsimp only at hk ⊢
 refine sQ (sW I (lU (fA uT29 I zT27 I) (lK (qL (v:=.slice p rs.length c) iT27 I (cO 0 I I)) (lU (eN uT27 I) (yL I (tZ ?_))))));refine iP I (fun hlt=>?_) (fun hlt=>?_)
 ·have hkr:k<rs.length:=oM;have hkl:k<l.length:=oM;have hb1:=SlA.based hrs oM;have hcr:=hall.get (gE hkl) (gE hkr);have hgx:rs[((k:Nat):Int).toNat]?=some rs[k]:=gE hkr;have hsucc:=hiC_succ hkl;rw[← hcr.1] at hsucc;generalize rs[k]=x at *;refine kP (tN (sQ (bK (rG (lM I (lU (fA uT29 I zT27 I) (lK (qL (v:=.slice p rs.length c) iT27 I (cO 0 I I)) (lM I (lU (iA uT27 zT54 I I hb1 oM sL) (lU (fC uT54 I zT3 I hb1) (lK (aZ (e:=encCell) (o:=0) (u:=vi x.id) iT3 I (SlA.rd hrs) hgx I) (lU (SU.maxI I I) (lA I (nL (bN (tN (rG (lM I (yD I (lA I (nL ?_)))))))))))))))))))));exact ST.again (k+1) ⟨rfl,(by rw[hsucc]; rfl),rfl,trivial⟩ rfl rfl oM oM
 ·have hkk:l.take k=l:=tL oM;rw[hkk];refine xI (tX (tX (bX (tN (sW I (aT I (rE (dR (s':=s) uR ?_))))))));exact ST.ret1 (.inl I) results38 I ⟨I,I,I⟩
theorem side14_spec (E:World)(g:PH)(s:Own)(a b:Int) :
  Ctr Tryz.prog E 39 #[vi a,vi b] g s (fun r g' s'=>s=s'∧g=g'∧r = .agg #[vi a,vi b]):=by
 refine Ctr.of (args:=[vi a,vi b]) func39 I ntmps39 (bE I) ?_;refine rZ (bW (aL zeroValue56) fun b4=>?_);refine tZ (sW I (lM I (lU (SU.build I (buildS56 _ _)) (oZ (sK 0 zT56 I I I I I sB) ?_))));refine tZ (rE ?_);refine ST.retCD 0 s (.inl I) results39 I iT56 zT56 I I (.cons _ (.refl _)) ⟨I,I,I⟩
def startS (z0 z1:Side):Int:=if z0.sign<0 then z0.cell else z1.cell
def endE (z0 z1:Side):Int:=if z0.sign>0 then z0.cell else z1.cell
theorem start_spec (E:World)(g:PH)(s:Own)(ci cd:Int)(p:Option Addr)(c:Nat)(z0 z1:Side)(hs:SlA encSide g (.slice p 2 c) [z0,z1]) :
  Ctr Tryz.prog E 70 #[.agg #[vi ci,vi cd,.slice p 2 c]] g s (fun r g' s'=>s=s'∧g=g'∧r=vi (startS z0 z1)):=by
 have hb1:=SlA.based hs (by simp);have hg0:[z0,z1][((0:Nat):Int).toNat]?=some z0:=rfl;have hg1:[z0,z1][((1:Nat):Int).toNat]?=some z1:=rfl;refine Ctr.of (args:=[.agg #[vi ci,vi cd,.slice p 2 c]]) func70 I ntmps70 (bE I) ?_;refine rZ (bW (bO I) fun b1=>?_);refine aT I (sQ (rZ (lU (fA uT54 I zT37 I) (lK (qL (v:=.slice p 2 c) iT37 I (cO 0 I I)) (lU (iA (i:=0) uT37 zT56 I I hb1 dC (show (0:Int)<((2:Nat):Int) by decide)) ?_)))));refine lU (fC uT56 I zT3 I hb1) (lK (aZ (e:=encSide) (o:=1) (u:=vi z0.sign) iT3 I (SlA.rd hs) hg0 I) (yL I (tZ ?_)));refine iP I (fun hz=>?_) (fun hz=>?_)
 ·have hst:startS z0 z1=z0.cell:=if_pos hz;rw[hst];refine rZ (lU (fA uT54 I zT37 I) (lK (qL (v:=.slice p 2 c) iT37 I (cO 0 I I)) (lU (iA (i:=0) uT37 zT56 I I hb1 dC (show (0:Int)<((2:Nat):Int) by decide)) ?_)));refine lU (fC uT56 I zT3 I hb1) (lK (aZ (e:=encSide) (o:=0) (u:=vi z0.cell) iT3 I (SlA.rd hs) hg0 I) (aT I (rE (tR (dR (s':=s) uR ?_)))));exact ST.ret1 (.inl I) results70 I ⟨I,I,I⟩
 ·have hst:startS z0 z1=z1.cell:=if_neg hz;rw[hst];refine kP (tN (rZ (lU (fA uT54 I zT37 I) (lK (qL (v:=.slice p 2 c) iT37 I (cO 0 I I)) (lU (iA (i:=1) uT37 zT56 I I hb1 dC (show (1:Int)<((2:Nat):Int) by decide)) ?_)))));refine lU (fC uT56 I zT3 I hb1) (lK (aZ (e:=encSide) (o:=0) (u:=vi z1.cell) iT3 I (SlA.rd hs) hg1 I) (aT I (rE (dR (s':=s) uR ?_))));exact ST.ret1 (.inl I) results70 I ⟨I,I,I⟩
theorem end_spec (E:World)(g:PH)(s:Own)(ci cd:Int)(p:Option Addr)(c:Nat)(z0 z1:Side)(hs:SlA encSide g (.slice p 2 c) [z0,z1]) :
  Ctr Tryz.prog E 69 #[.agg #[vi ci,vi cd,.slice p 2 c]] g s (fun r g' s'=>s=s'∧g=g'∧r=vi (endE z0 z1)):=by
 have hb1:=SlA.based hs (by simp);have hg0:[z0,z1][((0:Nat):Int).toNat]?=some z0:=rfl;have hg1:[z0,z1][((1:Nat):Int).toNat]?=some z1:=rfl;refine Ctr.of (args:=[.agg #[vi ci,vi cd,.slice p 2 c]]) func69 I ntmps69 (bE I) ?_;refine rZ (bW (bO I) fun b1=>?_);refine aT I (sQ (rZ (lU (fA uT54 I zT37 I) (lK (qL (v:=.slice p 2 c) iT37 I (cO 0 I I)) (lU (iA (i:=0) uT37 zT56 I I hb1 dC (show (0:Int)<((2:Nat):Int) by decide)) ?_)))));refine lU (fC uT56 I zT3 I hb1) (lK (aZ (e:=encSide) (o:=1) (u:=vi z0.sign) iT3 I (SlA.rd hs) hg0 I) (lU (gR I I) (tZ ?_)));refine iP I (fun hz=>?_) (fun hz=>?_)
 ·have hst:endE z0 z1=z0.cell:=if_pos hz;rw[hst];refine rZ (lU (fA uT54 I zT37 I) (lK (qL (v:=.slice p 2 c) iT37 I (cO 0 I I)) (lU (iA (i:=0) uT37 zT56 I I hb1 dC (show (0:Int)<((2:Nat):Int) by decide)) ?_)));refine lU (fC uT56 I zT3 I hb1) (lK (aZ (e:=encSide) (o:=0) (u:=vi z0.cell) iT3 I (SlA.rd hs) hg0 I) (aT I (rE (tR (dR (s':=s) uR ?_)))));exact ST.ret1 (.inl I) results69 I ⟨I,I,I⟩
 ·have hst:endE z0 z1=z1.cell:=if_neg hz;rw[hst];refine kP (tN (rZ (lU (fA uT54 I zT37 I) (lK (qL (v:=.slice p 2 c) iT37 I (cO 0 I I)) (lU (iA (i:=1) uT37 zT56 I I hb1 dC (show (1:Int)<((2:Nat):Int) by decide)) ?_)))));refine lU (fC uT56 I zT3 I hb1) (lK (aZ (e:=encSide) (o:=0) (u:=vi z1.cell) iT3 I (SlA.rd hs) hg1 I) (aT I (rE (dR (s':=s) uR ?_))));exact ST.ret1 (.inl I) results69 I ⟨I,I,I⟩
theorem len_nil (l:List Int):decide ((l.length:Int)=0)=decide (l=[]):=by
 rw[Bool.eq_iff_iff,decide_eq_true_iff,decide_eq_true_iff];exact⟨fun h=>List.eq_nil_of_length_eq_zero oM,fun h=>by rw[h]; rfl⟩
def freeB (l:List Cl)(id:Int):Bool:=match aboveC l id with
 | [m]=>decide (aboveC l m=[])
 | _=>false
def FreeP (C:List Cl)(p:Pr):Prop:=aboveC C p.1=[p.2]∧aboveC C p.2=[]
theorem Tryz.buildZ44 (w:World):(Instr.build 44 #[]).run Tryz.prog w = .ok (.agg #[vi 0,vi 0]) w:=by
 simp[Instr.build,Instr.fill];rfl
theorem free14_spec (E:World)(g:PH)(s:Own)(v:Value)(l:List Cl)(n:Int)(hv:Cells g v l)(hf:Fits l) :
  Ctr Tryz.prog E 41 #[.agg #[v],vi n] g s (fun r g' s'=>s=s'∧Le g g'∧∃ (p:Pr) (ok:Bool),r = .tuple #[.agg #[vi p.1,vi p.2],vb ok]∧(ok=true→FreeP l p)):=by
 have hv0:=hv;obtain ⟨rs,hrs,hall⟩:=hv;have hfl:=hf.1;have hlen:=hall.length;obtain ⟨p,c,rfl⟩:=SlA.form hrs;refine Ctr.of (args:=[.agg #[.slice p rs.length c],vi n]) func41 I ntmps41 (bE I) ?_;refine rZ (bW (bO I) fun b2=>?_);refine bW (aL zeroValue44) fun b4=>?_;refine aT I (rZ (aT I (sQ (rZ (aT I (bK (SC.nilRow 44 2 ?_)))))));refine oP (ι:=Nat×PH×Value×List Pr) (fun i=>[(1,vi n),(2,pp b2 0),(4,pp b4 0),(6,i.2.2.1),(7,vi i.1)]) (fun i=>i.2.1) (fun i=>rowA encPr 44 i.2.2.1 i.2.2.2::pt b4 (.cells #[vi 0,vi 0] 44 (0,0))::pt b2 (.cells #[.slice p rs.length c] 29 (0,0))::s)
  (fun i=>i.1≤rs.length∧Le g i.2.1∧i.2.2.2.length≤i.1∧∀ q∈i.2.2.2,FreeP l q) (fun i=>rs.length - i.1) (0,g,.slice none 0 0,[]) sB rfl rfl ⟨Nat.zero_le _,Le.refl _,Nat.zero_le _,fun q hq=>by cases hq⟩ ?_
 rintro ⟨k,g1,ov,acc⟩ ⟨hk,hle1,hal,hfr⟩;dsimp only at hk hle1 hal hfr ⊢;refine sQ (sW I (lU (fA uT29 I zT27 I) (lK (qL (v:=.slice p rs.length c) iT27 I (cO 2 I I)) (lU (eN uT27 I) (yL I (tZ ?_))))));refine iP I (fun hlt=>?_) (fun hlt=>?_)
 ·have hkr:k<rs.length:=oM;have hb1:=SlA.based hrs oM;have hrs1:=SlA.mono hrs hle1;have hv1:=hv0.mono hle1;have hgx:rs[((k:Nat):Int).toNat]?=some rs[k]:=gE hkr;generalize rs[k]=x at *;refine kP (tN (sQ (bK (rZ (lU (fA uT29 I zT27 I) (lK (qL (v:=.slice p rs.length c) iT27 I (cO 2 I I)) (lM I (lU (iA uT27 zT54 I I hb1 oM sL) (lU (fC uT54 I zT3 I hb1) (lK (aZ (e:=encCell) (o:=0) (u:=vi x.id) iT3 I (SlA.rd hrs1) hgx I) (aT I (rZ (lK (qV 2 iT29 zT29 I I I) (lM I (lW (SO.call call54 I (refAbove_spec E g1 _ _ l x.id hv1 hf)) ?_)))))))))))))));rintro _ g2 _ ⟨rfl,hle2,ha2⟩;obtain ⟨q2,d2,rfl⟩:=SlA.form ha2;have hv2:=hv1.mono hle2;refine aT I ?_;have hal2:(aboveC l x.id).length<1099511627776:=Nat.lt_of_le_of_lt (by unfold aboveC; rw[List.length_map]; exact List.length_filter_le _ _) (tabC_fits hf).1;refine SC.cut (ι:=PH) (fun _=>[(1,vi n),(2,pp b2 0),(4,pp b4 0),(6,ov),(7,vi k),(8,vi x.id),(9,.slice q2 (aboveC l x.id).length d2),(37,vb (freeB l x.id))]) (fun g'=>g') (fun _=>rowA encPr 44 ov acc::pt b4 (.cells #[vi 0,vi 0] 44 (0,0))::pt b2 (.cells #[.slice p rs.length c] 29 (0,0))::s) (fun g'=>Le g2 g') ?_ ?_
  ·by_cases h1:(aboveC l x.id).length=1
   ·obtain ⟨m,hm⟩:∃ m,aboveC l x.id=[m]:=by
     match hq:aboveC l x.id,h1 with
     | [m],_=>exact⟨m,rfl⟩
    have hfb:freeB l x.id=decide (aboveC l m=[]):=by unfold freeB; rw[hm]
    have hb2:=SlA.based ha2 oM;have hg0:(aboveC l x.id)[((0:Nat):Int).toNat]?=some m:=by rw[hm]; rfl
    refine SC.drawX [] Tryz.mixed kR ?_;refine SX.u (i:=0) I kR (mV I) dC (SX.u (i:=1) I kR (eN uT22 I) dC (SX.u (i:=2) I kR (SU.eq (v':=vb true) (eQ I I) (congrArg vb (decide_eq_true oM))) dC (SX.u (i:=3) I kR (mV I) dC (SX.gq (i:=4) I kR (gT I I I dC) (qV 2 iT29 zT29 I I I) dC (SX.gu (i:=5) I kR (gT I I I dC) (mV I) dC (SX.gu (i:=6) I kR (gT I I I dC) (iA (i:=0) uT22 zT3 I I hb2 dC (show (0:Int)<(((aboveC l x.id).length:Nat):Int) by omega)) dC ?_))))));refine SX.gq (i:=7) I kR (gT I I I dC) (eB iT3 I (SlA.rd ha2) hg0 I) dC ?_;refine SX.br1 8 kR ?_
    ·refine SB.go (i:=8) I (gT I I I dC) (SO.call call54 I (refAbove_spec E g2 _ _ l m hv2 hf)) dC (.inr iR) ?_;rintro _ g3 _ ⟨rfl,hle3,ha3⟩;obtain ⟨q3,d3,rfl⟩:=SlA.form ha3;refine SX.gu (i:=9) I kR (gT I I I dC) (eN uT22 I) dC (SX.gu (i:=10) I kR (gT I I I dC) (SU.eq (v':=vb (decide (aboveC l m=[]))) (eQ I I) (congrArg vb (len_nil _))) dC (SX.u (i:=11) I kR (wT I I) dC (SX.nil kR ?_)));exact ST.mid g3 ⟨rfl,rfl,rfl,rfl,rfl,rfl,rfl,(by rw[hfb]; rfl),trivial⟩ rfl rfl hle3
   ·have hfb:freeB l x.id=false:=by
     unfold freeB;split
     ·rename_i m hm; rw[hm] at h1; exact absurd rfl h1
     ·rfl
    refine SC.drawX [] Tryz.mixed kR ?_;refine SX.u (i:=0) I kR (mV I) dC (SX.u (i:=1) I kR (eN uT22 I) dC (SX.u (i:=2) I kR (SU.eq (v':=vb false) (eQ I I) (congrArg vb (decide_eq_false oM))) dC (SX.u (i:=3) I kR (mV I) dC (SX.off (i:=4) I kR (gZ I I I dC) dC (SX.off (i:=5) I kR (gZ I I I dC) dC (SX.off (i:=6) I kR (gZ I I I dC) dC (SX.off (i:=7) I kR (gZ I I I dC) dC ?_)))))));refine SX.br1 8 kR ?_
    ·refine SB.offo (i:=8) I (gZ I I I dC) dC ⟨by exact Le.refl _,(by exact .refl _)⟩ ?_;refine SX.off (i:=9) I kR (gZ I I I dC) dC (SX.off (i:=10) I kR (gZ I I I dC) dC (SX.u (i:=11) I kR (wF I I) dC (SX.nil kR ?_)));exact ST.mid g2 ⟨rfl,rfl,rfl,rfl,rfl,rfl,rfl,(by rw[hfb]; rfl),trivial⟩ rfl rfl (Le.refl _)
  rintro g3 hle3;try dsimp only at hle3 ⊢
  have hle13:=hle1.trans (hle2.trans hle3);refine iQ I (fun hb=>?_) (fun hb=>?_)
  ·obtain ⟨m,hm,hm0⟩:∃ m,aboveC l x.id=[m]∧aboveC l m=[]:=by
    unfold freeB at hb;split at hb
    ·rename_i m hm; exact⟨m,hm,of_decide_eq_true hb⟩
    ·cases hb
   have hb2:=SlA.based ha2 (by rw[hm]; simp);have hg0:(aboveC l x.id)[((0:Nat):Int).toNat]?=some m:=by rw[hm]; rfl
   have hl1:(aboveC l x.id).length=1:=by rw[hm]; rfl
   refine rG (lM I (lM I (lM I (lU (iA (i:=0) uT22 zT3 I I hb2 dC (show (0:Int)<(((aboveC l x.id).length:Nat):Int) by omega)) ?_))));refine lK (eB iT3 I (SlA.rd (SlA.mono ha2 hle3)) hg0 I) (lU (SU.build I (build44 _ _)) (lW (bS sty31 I I I (szs_mk ⟨I,trivial⟩) dC) ?_));rintro _ _ _ ⟨b44,rfl,rfl,rfl⟩;refine lW (aP (e:=encPr) (l:=acc) 0 (x.id,m) sty31 I I I I I oM oM) ?_;rintro ov' _ _ ⟨rfl,rfl⟩;refine lA I (nL (bN (tN (rG (lM I (yD I (lA I (nL ?_))))))));exact ST.again (k+1,g3,ov',acc++[(x.id,m)]) sB I I ⟨by dsimp only; omega,hle13,by dsimp only; rw[List.length_append,List.length_singleton]; omega,fun q hq=>by
    rcases List.mem_append.1 hq with hq | hq
    ·exact hfr q hq
    ·simp at hq; subst hq; exact⟨hm,hm0⟩⟩ (by dsimp only; omega)
  ·refine kP (bN (tN (rG (lM I (yD I (lA I (nL ?_)))))));exact ST.again (k+1,g3,ov,acc) sB I I ⟨by dsimp only; omega,hle13,by dsimp only; omega,hfr⟩ (by dsimp only; omega)
 ·refine xI (tX (tX (bX (tN (sQ (rZ ?_))))));refine SL.facts fun ⟨w0,hw0⟩=>?_;obtain ⟨q0,d0,rfl⟩:=rowA_form (e:=encPr) (l:=acc) (i:=0) hw0 rfl;have hbq:0<acc.length→based (.slice q0 acc.length d0)=true:=fun h=>(by obtain ⟨b0,c0,he⟩:=rowA_based (e:=encPr) (l:=acc) (i:=0) hw0 rfl h; rw[he]; rfl);clear hw0 w0;refine lM I (lU (eN uT31 I) (yE I (tZ ?_)));refine iP I (fun h0=>?_) (fun h0=>?_)
  ·refine rZ (lU (SU.build I (buildZ44)) (oZ (sK 1 zT44 I I I I I sB) ?_));refine aT I (rE (tR ?_));exact ST.retCD1 1 s (.inl I) results41 I I iT44 zT44 I I uR ⟨I,hle1,(0,0),false,I,fun h=>by cases h⟩
  ·obtain ⟨hm1,hm2⟩:=modW_nat8 n acc.length oM oM;have hb:=hbq oM;have hmm:=gM hm2;have hgm:acc[(modW n acc.length).toNat]?=some acc[(modW n acc.length).toNat]:=gE hm2;have hfm:=hfr _ hmm;generalize acc[(modW n acc.length).toNat]=y at *;refine kP (tN (sW I (lM I (lM I (lU (eN uT31 I) (lW (SO.call call19 I (mod_spec E g1 _ n acc.length oM)) ?_))))));rintro _ _ _ ⟨rfl,rfl,rfl⟩;rw[hm1];refine lU (iA uT31 zT44 I I hb oM sL) (lK (eA iT44 zT44 I (Rd.rowA 0 I) hgm) (oZ (sK 1 zT44 I I I I I sB) ?_));refine aT I (rE ?_);exact ST.retCD1 1 s (.inl I) results41 I I iT44 zT44 I I uR ⟨I,hle1,y,true,I,fun _=>hfm⟩
end Go.Proofs.YtmmghffoakhheaaGreatDoor
