/- Ed17 R12e R12f R12g R12h R12i Ed18 Pl12 Pl13 Ed19 Ed20 Alr Sa12 San12 SyAl -/
import Derived.Test.YtackilpikhkijaaGreatDoorMa08
import Derived.Test.YtackilpikhkijaaGreatDoorMa07
import Derived.Test.YtackilpikhkijaaGreatDoorMa06
set_option linter.unusedSimpArgs false
set_option linter.unusedVariables false
namespace Go.Proofs.YtackilpikhkijaaGreatDoor
open _root_.Go.Proofs.Tryz _root_.Go.Proofs.YtackilpikhkijaaGreatDoor.Tryz
open Go Go.Sy Go.Pl Go.Proofs
set_option maxRecDepth 100000
set_option maxHeartbeats 8000000
theorem iter_upd (r m:Nat)(es es':Array MapEntry)(clk:Nat)(vis:List MapEntry)(k:Int)(v:Value):iter r m es clk (vis.map (updE k v))=iter r m es' clk vis:=by
 unfold iter;rw[List.map_map,show (fun e:MapEntry=>e.born) ∘ updE k v=fun e=>e.born from funext fun e=>updE_born k v e]
theorem updP_keys (k:Int)(v:Value)(vl:List (Int×Value)):(vl.map (updP k v)).map Prod.fst=vl.map Prod.fst:=by
 rw[List.map_map];refine List.map_congr_left fun p _=>?_;simp only[Function.comp];unfold updP;split
 ·rename_i h;exact h.symm
 ·rfl
theorem perm_in (x:Ent)(L R s:Own):(x::(L++(R++s))).Perm (L++((R++[x])++s)):=by
 have h:=(List.perm_middle (a:=x) (l₁:=L++R) (l₂:=s)).symm;simpa [List.append_assoc] using h
theorem set_two {sl:List (Int×Value)}{L:List Int}(h:SetI sl fun k=>decide (k∈L))(a b:Int):SetI (mput (mput sl a (vb true)) b (vb true)) fun k=>decide (k∈L++[a,b]):=((h.put a).put b).congr fun k=>by
 by_cases h1:k=a <;> by_cases h2:k=b <;> by_cases h3:k∈L <;> simp[h1,h2,h3]
theorem byF_of {ps:List Pr}(h:(ps.map Prod.snd).Nodup){q:Pr}(hq:q∈ps):byF ps q.2=some q.1:=by
 unfold byF;induction ps with
 | nil=>simp at hq
 | cons p ps ih =>
  rw[List.map_cons,List.nodup_cons] at h;rw[List.find?_cons]
  rcases List.mem_cons.1 hq with rfl | hq
  ·simp
  ·have hne:¬ p.2=q.2:=fun e=>h.1 (by rw[e]; exact List.mem_map.2 ⟨q,hq,rfl⟩);rw[decide_eq_false hne];exact ih h.2 hq
theorem byF_none {ps:List Pr}{k:Int}(h:k ∉ ps.map Prod.snd):byF ps k=none:=by
 unfold byF;rw[List.find?_eq_none.2 fun p hp=>by
  have:p.2≠k:=fun e=>h (by rw[← e]; exact List.mem_map.2 ⟨p,hp,rfl⟩);simpa using this]
 rfl
theorem img_ident {e:Ed}{ts:Ts}(hk:∀ k,k∈ts.map Prod.fst↔k∈e.pairs.map Prod.snd)(hn:(e.pairs.map Prod.snd).Nodup)(ht:∀ t∈ts,∃ q∈e.pairs,q.2=t.1∧t.2.2=[(q.1,1)])(k:Int):imgT ts k=identImg e k:=by
 unfold imgT identImg;cases hf:ts.find? fun t=>decide (t.1=k) with
 | some t =>
  have h1:=List.mem_of_find?_eq_some hf;have h2:t.1=k:=by simpa using List.find?_some hf
  obtain ⟨q,hq,h3,h4⟩:=ht t h1;have h5:=byF_of hn hq;rw[h3,h2] at h5;rw[h5];dsimp only;rw[h4];rfl
 | none =>
  have h1:k ∉ ts.map Prod.fst:=fun hm=>by
   obtain ⟨t,ht1,ht2⟩:=List.mem_map.1 hm;have:=List.find?_eq_none.1 hf t ht1;simp[ht2] at this
  rw[byF_none (fun hm=>h1 ((hk k).2 hm))]
theorem prsT_snoc (ts:Ts)(t:Int×Value×List Tm):prsT (ts++[t])=prsT ts++[(t.1,t.2.1)]:=by unfold prsT; rw[List.map_append]; rfl
theorem rowsT_snoc (ts:Ts)(t:Int×Value×List Tm):rowsT (ts++[t])=rowsT ts++[rowA encTm 77 t.2.1 t.2.2]:=by unfold rowsT; rw[List.map_append]; rfl
theorem prsT_keys (ts:Ts):(prsT ts).map Prod.fst=ts.map Prod.fst:=by unfold prsT; rw[List.map_map]; rfl
theorem rc_keys (rs:List Rc):(rs.map rcPair).map Prod.fst=rs.map Rc.id:=by rw[List.map_map]; rfl
theorem identify_spec (E:World)(g:PH)(s:Own)(bx mb ms:Nat)(u v:Value)(e:Ed)(A:List Cl)(rs:List Rc)(hf:Fits A)(hn:(A.map Cl.id).Nodup)(hall:All2 (CellR g) A rs)(he:EdR g v e)(hpl:e.pairs.length<1099511627776) :
  Ctr Tryz.prog E 81 #[pp bx 0,v] g (edP bx u mb ms false::mp mb (rs.map rcPair)::mp ms []::s) (fun r g' s'=>Le g g'∧r=vi (identCode A e) ∧
   (if identCode A e=0 then ∃ rs' ts,All2 (CellR g') (identOut A e) rs'∧TsOk ts∧(ts.map Prod.fst).Nodup∧(∀ k,imgT ts k=identImg e k)∧s'=edP bx u mb ms false::mp mb (rs'.map rcPair)::mp ms (prsT ts)::(rowsT ts++s) else ∃ h,s'=h++s)):=by
 obtain ⟨sv,pv,rfl,hsv,hpv⟩:=he;have hsvf:=SlA.form hsv;have hpvf:=SlA.form hpv;obtain ⟨sp,sc,rfl⟩:=hsvf;obtain ⟨qp,qc,rfl⟩:=hpvf;have hfnd:∀ {gg:PH} {id:Int},All2 (CellR gg) A rs→(findT A id).isSome=true→∃ cc rr,findT A id=some cc∧cc∈A∧mget (rs.map rcPair) id=some (rcv rr)∧CellR gg cc rr:=fun {gg id} hal h=>by
  rcases all2_findG (fun _ _ h=>h.1) hal id with ⟨h1,_⟩ | ⟨cc,rr,h1,h2,h3⟩
  ·unfold findT at h; rw[h1] at h; cases h
  ·exact⟨cc,rr,h1,List.mem_of_find?_eq_some h1,h2,h3⟩
 refine Ctr.of (args:=[pp bx 0,.agg #[vi e.kind,vi e.cell,vi e.dim,vi e.new,vi e.other,.slice sp e.sides.length sc,.slice qp e.pairs.length qc]]) func81 I ntmps81 (bE I) ?_;refine rZ (bW (bO I) fun b3=>?_);refine aT I (rZ (lW (SO.mkMap) ?_));rintro _ _ _ ⟨b17,rfl,rfl,rfl⟩;refine lW (SO.mkMap) ?_;rintro _ _ _ ⟨b18,rfl,rfl,rfl⟩;refine lA I (aT I (rZ (lA I (aT I (sQ (rZ (lU (fA uT35 I sizeOf33 I) (lK (qL (v:=.slice qp e.pairs.length qc) isAgg33 I (cO 2 I I)) (lU (eN uT33 I) (lM I (tZ (bK ?_))))))))))));refine oP (ι:=Nat×List (Int×Value)×List (Int×Value)) (fun i=>[(0,pp bx 0),(3,pp b3 0),(5,.map (some b17)),(6,.map (some b18)),(7,vb (dupP (e.pairs.take i.1))),(8,vb ((e.pairs.take i.1).any fun p=>decide (dimOf A p.1≠dimOf A p.2))),(20,.slice qp e.pairs.length qc),(21,vi e.pairs.length),(22,vi i.1)]) (fun _=>g)
  (fun i=>mp b18 i.2.1::mp b17 i.2.2::pt b3 (.cells (edV e (.slice sp e.sides.length sc) (.slice qp e.pairs.length qc)) 35 (0,0))::edP bx u mb ms false::mp mb (rs.map rcPair)::mp ms []::s)
  (fun i=>i.1≤e.pairs.length∧SetI i.2.1 (fun k=>decide (k∈allP (e.pairs.take i.1)))∧(dupP (e.pairs.take i.1)=false→i.2.2=(e.pairs.take i.1).map swP)∧(∀ p∈e.pairs.take i.1,(findT A p.1).isSome=true∧(findT A p.2).isSome=true)) (fun i=>e.pairs.length - i.1) (0,[],[])
  ⟨rfl,rfl,rfl,rfl,(by rw[List.take_zero]; rfl),rfl,rfl,rfl,rfl,trivial⟩ rfl rfl ⟨Nat.zero_le _,SetI.nil.congr (fun k=>by simp[allP]),fun _=>rfl,fun p hp=>by simp at hp⟩ ?_
 rintro ⟨k,sl,bl⟩ ⟨hk,hsl,hbl,hfd⟩;dsimp only at hk hsl hbl hfd ⊢;refine rZ (lU (lS I I) (tZ (sQ ?_)));refine iP I (fun hlt=>?_) (fun hlt=>?_)
 ·have hkl:k<e.pairs.length:=oM;have hb1:=SlA.based hpv oM;have hgk:e.pairs[((k:Nat):Int).toNat]?=some e.pairs[k]:=gE hkl;have htk:e.pairs.take (k+1)=e.pairs.take k++[e.pairs[k]]:=tS hkl;have hd1:=dupP_snoc (e.pairs.take k) e.pairs[k];have hal1:=allP_snoc (e.pairs.take k) e.pairs[k];have hnew:=second_new (ps:=e.pairs.take k) (p:=e.pairs[k]);have hany:(e.pairs.take (k+1)).any (fun p=>decide (dimOf A p.1≠dimOf A p.2))=((e.pairs.take k).any (fun p=>decide (dimOf A p.1≠dimOf A p.2))||decide (dimOf A e.pairs[k].1≠dimOf A e.pairs[k].2)):=by rw[htk,List.any_append]; simp
  have hnone:¬ ((findT A e.pairs[k].1).isSome=true∧(findT A e.pairs[k].2).isSome=true)→identCode A e=30:=fun h=>by
   unfold identCode;rw[if_neg];intro h2;have h3:=List.all_eq_true.1 h2 _ (gM hkl);rw[Bool.and_eq_true] at h3;exact h h3
  rw[← htk] at hd1 hal1;generalize e.pairs[k]=x at *;obtain ⟨x1,x2⟩:=x;dsimp only at hd1 hal1 hany hnone hnew;cases hx1:(findT A x1).isSome with
  | false =>
   rw[hnone (by rw[hx1]; rintro ⟨h,_⟩; cases h)];refine kP (tN (sQ (bK (rZ (lU (iA uT33 zT60 I I hb1 oM sL) (lK (eA isAgg60 zT60 I (SlA.rd hpv) hgk) (bW (aL zeroValue60) fun b10=>?_)))))));refine oZ (sK 0 zT60 I I I I I sB) ?_;refine tZ (sQ (sW I (lU (iB uT60 zT3 I I dC dC) (lK (qL (v:=vi x1) iT3 I (cO 0 I I)) (lW (cL call121 I (has_editor E g _ bx mb ms _ false x1 _ (fun _ _ h=>h.1) A rs hall 4 5 I I)) ?_)))));rintro _ _ _ ⟨rfl,rfl,rfl⟩;rw[hx1];refine lU (SU.not I) (lM I (lZ I I I (lZ I I I (lZ I I I (lZ I I I (lZ I I I (lU (wT I I) (tZ (cT I (rZ (aT I (rE (tR (bR (tR (tR (bR (tR ?_))))))))))))))))));exact ST.ret1 (.inl I) results81 I ⟨Le.refl _,I,by rw[if_neg dC]; exact⟨[_,_,_,_,_,_,_],I⟩⟩
  | true =>
  cases hx2:(findT A x2).isSome with
  | false =>
   rw[hnone (by rw[hx2]; rintro ⟨_,h⟩; cases h)];refine kP (tN (sQ (bK (rZ (lU (iA uT33 zT60 I I hb1 oM sL) (lK (eA isAgg60 zT60 I (SlA.rd hpv) hgk) (bW (aL zeroValue60) fun b10=>?_)))))));refine oZ (sK 0 zT60 I I I I I sB) ?_;refine tZ (sQ (sW I (lU (iB uT60 zT3 I I dC dC) (lK (qL (v:=vi x1) iT3 I (cO 0 I I)) (lW (cL call121 I (has_editor E g _ bx mb ms _ false x1 _ (fun _ _ h=>h.1) A rs hall 4 5 I I)) ?_)))));rintro _ _ _ ⟨rfl,rfl,rfl⟩;rw[hx1];refine lU (SU.not I) (lM I (lY I I I (mV I) (lY I I I (iB uT60 zT3 I I dC dC) (SL.gq (gT I I I dC) (qL (v:=vi x2) iT3 I (cO 0 I I)) dC (SL.go (gT I I I dC) (cL call121 I (has_editor E g _ bx mb ms _ false x2 _ (fun _ _ h=>h.1) A rs hall 4 5 I I)) dC ?_)))));rintro _ _ _ ⟨rfl,rfl,rfl⟩;rw[hx2];refine lY I I I (SU.not I) (lU (wF I I) (tZ (cT I (rZ (aT I (rE (tR (bR (tR (tR (bR (tR ?_))))))))))));exact ST.ret1 (.inl I) results81 I ⟨Le.refl _,I,by rw[if_neg dC]; exact⟨[_,_,_,_,_,_,_],I⟩⟩
  | true =>
  obtain ⟨c1,r1,hc1,hcm1,hg1,hr1⟩:=hfnd hall hx1;obtain ⟨c2,r2,hc2,hcm2,hg2,hr2⟩:=hfnd hall hx2;have hdm1:dimOf A x1=c1.dim:=by unfold dimOf; rw[hc1]; rfl
  have hdm2:dimOf A x2=c2.dim:=by unfold dimOf; rw[hc2]; rfl
  rw[hdm1,hdm2] at hany;obtain ⟨ri1,rd1,rp1,rn1,rk1⟩:=r1;obtain ⟨ri2,rd2,rp2,rn2,rk2⟩:=r2;obtain ⟨-,f1,-⟩:=hr1;obtain ⟨-,f2,-⟩:=hr2;dsimp only at f1 f2;subst f1 f2;refine kP (tN (sQ (bK (rZ (lU (iA uT33 zT60 I I hb1 oM sL) (lK (eA isAgg60 zT60 I (SlA.rd hpv) hgk) (bW (aL zeroValue60) fun b10=>?_)))))));refine oZ (sK 0 zT60 I I I I I sB) ?_;refine tZ (sQ (sW I (lU (iB uT60 zT3 I I dC dC) (lK (qL (v:=vi x1) iT3 I (cO 0 I I)) (lW (cL call121 I (has_editor E g _ bx mb ms _ false x1 _ (fun _ _ h=>h.1) A rs hall 4 5 I I)) ?_)))));rintro _ _ _ ⟨rfl,rfl,rfl⟩;rw[hx1];refine lU (SU.not I) (lM I (lY I I I (mV I) (lY I I I (iB uT60 zT3 I I dC dC) (SL.gq (gT I I I dC) (qL (v:=vi x2) iT3 I (cO 0 I I)) dC (SL.go (gT I I I dC) (cL call121 I (has_editor E g _ bx mb ms _ false x2 _ (fun _ _ h=>h.1) A rs hall 4 5 I I)) dC ?_)))));rintro _ _ _ ⟨rfl,rfl,rfl⟩;rw[hx2];refine lY I I I (SU.not I) (lU (wF I I) (tZ (cF I (kP (tN ?_)))));refine SC.cut (ι:=Unit) (fun _=>[(0,pp bx 0),(3,pp b3 0),(5,.map (some b17)),(6,.map (some b18)),(7,vb (dupP (e.pairs.take (k+1)))),(8,vb ((e.pairs.take k).any fun p=>decide (dimOf A p.1≠dimOf A p.2))),(10,pp b10 0),(20,.slice qp e.pairs.length qc),(21,vi e.pairs.length),(22,vi k)]) (fun _=>g)
   (fun _=>pt b10 (.cells #[vi x1,vi x2] 60 (0,0))::mp b18 sl::mp b17 bl::pt b3 (.cells (edV e (.slice sp e.sides.length sc) (.slice qp e.pairs.length qc)) 35 (0,0))::edP bx u mb ms false::mp mb (rs.map rcPair)::mp ms []::s) (fun _=>True) ?_ ?_
  ·rw[hd1];cases hd0:dupP (e.pairs.take k) with
   | true =>
    refine rG (lM I (lM I (lZ I I I (lZ I I I (lZ I I I (lZ I I I (lU (wT I I) (lM I (lZ I I I (lZ I I I (lZ I I I (lZ I I I (lU (wT I I) (lM I (lZ I I I (lZ I I I (lZ I I I (lZ I I I (lZ I I I (lU (wT I I) (lA I (nL ?_))))))))))))))))))))));exact ST.mid () sB I I trivial
   | false =>
   by_cases hm1:x1∈allP (e.pairs.take k)
   ·refine rG (lM I (lM I (lY I I I (mV I) (lY I I I (iB uT60 zT3 I I dC dC) (SL.gq (gT I I I dC) (qL (v:=vi x1) iT3 I (cO 0 I I)) dC (SL.gq (gT I I I dC) (SQ.eq (v':=vb true) (SQ.lookup mty164 I I (MapAt.own 1 I)) ((hsl.get x1).trans (congrArg vb (decide_eq_true hm1)))) dC (lU (wF I I) (lM I (lZ I I I (lZ I I I (lZ I I I (lZ I I I (lU (wT I I) (lM I (lZ I I I (lZ I I I (lZ I I I (lZ I I I (lZ I I I (lU (wT I I) (lA I (nL ?_))))))))))))))))))))));exact ST.mid () ⟨rfl,rfl,rfl,rfl,(by rw[decide_eq_true hm1]; rfl),rfl,rfl,rfl,rfl,rfl,trivial⟩ rfl rfl trivial
   by_cases hm2:x2∈allP (e.pairs.take k)
   ·refine rG (lM I (lM I (lY I I I (mV I) (lY I I I (iB uT60 zT3 I I dC dC) (SL.gq (gT I I I dC) (qL (v:=vi x1) iT3 I (cO 0 I I)) dC (SL.gq (gT I I I dC) (SQ.eq (v':=vb false) (SQ.lookup mty164 I I (MapAt.own 1 I)) ((hsl.get x1).trans (congrArg vb (decide_eq_false hm1)))) dC (lU (wF I I) (lM I (lY I I I (mV I) (lY I I I (iB uT60 zT3 I I dC dC) (SL.gq (gT I I I dC) (qL (v:=vi x2) iT3 I (cO 0 I I)) dC (SL.gq (gT I I I dC) (SQ.eq (v':=vb true) (SQ.lookup mty164 I I (MapAt.own 1 I)) ((hsl.get x2).trans (congrArg vb (decide_eq_true hm2)))) dC (lU (wF I I) (lM I (lZ I I I (lZ I I I (lZ I I I (lZ I I I (lZ I I I (lU (wT I I) (lA I (nL ?_))))))))))))))))))))));exact ST.mid () ⟨rfl,rfl,rfl,rfl,(by rw[decide_eq_false hm1,decide_eq_true hm2]; rfl),rfl,rfl,rfl,rfl,rfl,trivial⟩ rfl rfl trivial
   ·refine rG (lM I (lM I (lY I I I (mV I) (lY I I I (iB uT60 zT3 I I dC dC) (SL.gq (gT I I I dC) (qL (v:=vi x1) iT3 I (cO 0 I I)) dC (SL.gq (gT I I I dC) (SQ.eq (v':=vb false) (SQ.lookup mty164 I I (MapAt.own 1 I)) ((hsl.get x1).trans (congrArg vb (decide_eq_false hm1)))) dC (lU (wF I I) (lM I (lY I I I (mV I) (lY I I I (iB uT60 zT3 I I dC dC) (SL.gq (gT I I I dC) (qL (v:=vi x2) iT3 I (cO 0 I I)) dC (SL.gq (gT I I I dC) (SQ.eq (v':=vb false) (SQ.lookup mty164 I I (MapAt.own 1 I)) ((hsl.get x2).trans (congrArg vb (decide_eq_false hm2)))) dC (lU (wF I I) (lM I (lY I I I (iB uT60 zT3 I I dC dC) (SL.gq (gT I I I dC) (qL (v:=vi x1) iT3 I (cO 0 I I)) dC (lY I I I (iB uT60 zT3 I I dC dC) (SL.gq (gT I I I dC) (qL (v:=vi x2) iT3 I (cO 0 I I)) dC (lY I I I (eQ I I) (lU (wF I I) (lA I (nL ?_))))))))))))))))))))));exact ST.mid () ⟨rfl,rfl,rfl,rfl,(by rw[decide_eq_false hm1,decide_eq_false hm2]; rfl),rfl,rfl,rfl,rfl,rfl,trivial⟩ rfl rfl trivial
  rintro _ -;try dsimp only
  refine SC.cut (ι:=Unit) (fun _=>[(0,pp bx 0),(3,pp b3 0),(5,.map (some b17)),(6,.map (some b18)),(7,vb (dupP (e.pairs.take (k+1)))),(8,vb ((e.pairs.take (k+1)).any fun p=>decide (dimOf A p.1≠dimOf A p.2))),(10,pp b10 0),(20,.slice qp e.pairs.length qc),(21,vi e.pairs.length),(22,vi k)]) (fun _=>g)
   (fun _=>pt b10 (.cells #[vi x1,vi x2] 60 (0,0))::mp b18 sl::mp b17 bl::pt b3 (.cells (edV e (.slice sp e.sides.length sc) (.slice qp e.pairs.length qc)) 35 (0,0))::edP bx u mb ms false::mp mb (rs.map rcPair)::mp ms []::s) (fun _=>True) ?_ ?_
  ·rw[hany];generalize (e.pairs.take k).any (fun p=>decide (dimOf A p.1≠dimOf A p.2))=dm;cases dm with
   | true =>
    refine dW [] [(0,2),(1,2),(2,2),(3,2),(4,2),(5,1),(6,2),(7,1),(8,1),(9,2),(10,2),(11,2),(12,2),(13,1),(14,2),(15,1),(16,1),(17,2),(18,2),(19,2),(20,2)] Tryz.mixed kR ?_;refine pU I (mV I) (pU I (mV I) (fP I (gZ I I I dC) dC (fP I (gZ I I I dC) dC (fP I (gZ I I I dC) dC (SP.off1 I (gZ I I I dC) dC (fP I (gZ I I I dC) dC (SP.off1 I (gZ I I I dC) dC (SP.off1 I (gZ I I I dC) dC (fP I (gZ I I I dC) dC (fP I (gZ I I I dC) dC (fP I (gZ I I I dC) dC (fP I (gZ I I I dC) dC (SP.off1 I (gZ I I I dC) dC (fP I (gZ I I I dC) dC (SP.off1 I (gZ I I I dC) dC (SP.off1 I (gZ I I I dC) dC (fP I (gZ I I I dC) dC (fP I (gZ I I I dC) dC (pU I (wT I I) (pU I (aS I) (pN ?_)))))))))))))))))))));exact ST.mid () sB I I trivial
   | false =>
    refine dW [] [(0,2),(1,2),(2,2),(3,2),(4,2),(5,1),(6,2),(7,1),(8,1),(9,2),(10,2),(11,2),(12,2),(13,1),(14,2),(15,1),(16,1),(17,2),(18,2),(19,2),(20,2)] Tryz.mixed kR ?_;refine pU rfl (mV rfl) (pU rfl (mV rfl) (SP.gu rfl (gT rfl rfl rfl dC) (mV rfl) dC (SP.gu rfl (gT rfl rfl rfl dC) (nC rfl) dC (SP.gu rfl (gT rfl rfl rfl dC) (fA uT129 rfl zT104 rfl) dC (SP.gq rfl (gT rfl rfl rfl dC) (qL (v:=.map (some mb)) iT104 rfl (cO 4 rfl rfl)) dC (SP.gu rfl (gT rfl rfl rfl dC) (iB uT60 zT3 rfl rfl dC dC) dC (SP.gq rfl (gT rfl rfl rfl dC) (qL (v:=vi x1) iT3 rfl (cO 0 rfl rfl)) dC (SP.gq rfl (gT rfl rfl rfl dC) (SQ.eq (v':=.agg #[vi ri1,vi c1.dim,.slice rp1 rn1 rk1]) (SQ.lookup mty104 rfl rfl (MapAt.own 5 rfl)) (by rw[hg1]; rfl)) dC ?_))))))));refine SP.gu rfl (gT rfl rfl rfl dC) (SU.field uT53 rfl iT3 rfl rfl) dC (SP.gu rfl (gT rfl rfl rfl dC) (mV rfl) dC (SP.gu rfl (gT rfl rfl rfl dC) (nC rfl) dC (SP.gu rfl (gT rfl rfl rfl dC) (fA uT129 rfl zT104 rfl) dC (SP.gq rfl (gT rfl rfl rfl dC) (qL (v:=.map (some mb)) iT104 rfl (cO 4 rfl rfl)) dC (SP.gu rfl (gT rfl rfl rfl dC) (iB uT60 zT3 rfl rfl dC dC) dC (SP.gq rfl (gT rfl rfl rfl dC) (qL (v:=vi x2) iT3 rfl (cO 0 rfl rfl)) dC (SP.gq rfl (gT rfl rfl rfl dC) (SQ.eq (v':=.agg #[vi ri2,vi c2.dim,.slice rp2 rn2 rk2]) (SQ.lookup mty104 rfl rfl (MapAt.own 5 rfl)) (by rw[hg2]; rfl)) dC ?_)))))));refine SP.gu I (gT I I I dC) (SU.field uT53 I iT3 I I) dC (SP.gu I (gT I I I dC) (nQ I I) dC (pU I (wF I I) (pU I (aS I) (pN ?_))));exact ST.mid () sB I I trivial
  rintro _ -;try dsimp only
  refine SC.drawT 1 [] [(0,2),(1,2),(2,1),(3,2),(4,2),(5,1),(6,2),(7,2),(8,1),(9,2),(10,1),(11,0),(12,0),(13,0)] Tryz.mixed kR ?_;refine pU rfl (mV rfl) (pU rfl (iB uT60 zT3 rfl rfl dC dC) (pK rfl (qL (v:=vi x1) iT3 rfl (cO 0 rfl rfl)) (pU rfl (mV rfl) (pU rfl (iB uT60 zT3 rfl rfl dC dC) (pK rfl (qL (v:=vi x2) iT3 rfl (cO 0 rfl rfl)) (pU rfl (mV rfl) (pU rfl (iB uT60 zT3 rfl rfl dC dC) (pK rfl (qL (v:=vi x2) iT3 rfl (cO 0 rfl rfl)) (pU rfl (iB uT60 zT3 rfl rfl dC dC) (pK rfl (qL (v:=vi x1) iT3 rfl (cO 0 rfl rfl)) (SP.on rfl (SO.mapUpdate 1 mty164 rfl rfl rfl rfl) (.inr (by rintro _ _ _ ⟨rfl,rfl⟩; exact⟨by exact Le.refl _,(by exact take_set_sub _ _ _ _)⟩)) ?_)))))))))));rintro _ _ _ ⟨rfl,rfl⟩;refine SP.on rfl (SO.mapUpdate 1 mty164 rfl rfl rfl rfl) (.inr (by rintro _ _ _ ⟨rfl,rfl⟩; exact⟨by exact Le.refl _,(by exact .cons_cons _ (List.nil_sublist _))⟩)) ?_;rintro _ _ _ ⟨rfl,rfl⟩;refine SP.on rfl (SO.mapUpdate 2 mty163 rfl rfl rfl rfl) (.inr (by rintro _ _ _ ⟨rfl,rfl⟩; exact⟨by exact Le.refl _,(by exact .cons_cons _ (List.nil_sublist _))⟩)) ?_;rintro _ _ _ ⟨rfl,rfl⟩;refine pN (bN (tN (rG (lU (aD I I oM) (lM I (nL (dR (.cons _ (.refl _)) ?_)))))));exact gA (k+1,mput (mput sl x1 (vb true)) x2 (vb true),mput bl x2 (vi x1)) sB I I ⟨by dsimp only; omega,by dsimp only; rw[hal1]; exact set_two hsl x1 x2,fun hd=>by
   dsimp only at hd ⊢;rw[hd1,Bool.or_eq_false_iff,Bool.or_eq_false_iff,Bool.or_eq_false_iff,decide_eq_false_iff_not,decide_eq_false_iff_not] at hd;rw[hbl hd.1.1.1,htk,List.map_append,mput_none _ _ _ (hnew hd.1.2)];rfl,fun p hp=>by
   dsimp only at hp;rw[htk] at hp
   rcases List.mem_append.1 hp with hp | hp
   ·exact hfd p hp
   ·simp at hp; subst hp; exact⟨hx1,hx2⟩⟩ (by dsimp only; omega)
 ·have hkk:e.pairs.take k=e.pairs:=tL oM;rw[hkk] at hsl hbl hfd ⊢;have hfa:e.pairs.all (fun p=>(findT A p.1).isSome&&(findT A p.2).isSome)=true:=List.all_eq_true.2 fun p hp=>by
   obtain ⟨h1,h2⟩:=hfd p hp;rw[h1,h2];rfl
  have hcode:identCode A e=if dupP e.pairs then 54 else if e.pairs.any (fun p=>decide (dimOf A p.1≠dimOf A p.2)) then 21 else if e.pairs.all (alikeP A e.pairs) then 0 else 33:=by unfold identCode; rw[if_pos hfa]
  rw[hcode];refine xI (tX (tX (bX (tN (sQ (bK (sW I (aT I ?_))))))));refine iQ I (fun hdup=>?_) (fun hdup=>?_)
  ·rw[if_pos hdup];refine rZ (aT I (rE (bR (tR ?_))));exact ST.ret1 (.inl I) results81 I ⟨Le.refl _,I,by rw[if_neg dC]; exact⟨[_,_,_,_,_,_],I⟩⟩
  rw[if_neg (by rw[hdup]; exact Bool.false_ne_true)];refine sW I (aT I ?_);refine iQ I (fun hdim=>?_) (fun hdim=>?_)
  ·rw[if_pos hdim];refine rZ (aT I (rE (bR (tR ?_))));exact ST.ret1 (.inl I) results81 I ⟨Le.refl _,I,by rw[if_neg dC]; exact⟨[_,_,_,_,_,_],I⟩⟩
  rw[if_neg (by rw[hdim]; exact Bool.false_ne_true)];have hble:=hbl hdup;subst hble;have hnod:(allP e.pairs).Nodup:=by unfold dupP at hdup; exact Decidable.not_not.1 (of_decide_eq_false hdup)
  have hsn:=seconds_nodup hnod;refine kP (bN (tN (sQ (sQ (cP (List.Perm.swap _ _ _) (SC.freezeMap fun g2 hle2 hby=>?_))))));refine SC.drop (List.sublist_cons_self _ _) (rG (lU (fA uT35 I sizeOf33 I) (lK (qL (v:=.slice qp e.pairs.length qc) isAgg33 I (cO 0 I I)) (lU (eN uT33 I) (lM I (tZ (bK ?_)))))));have hpv2:=SlA.mono hpv hle2;have hall2:=hall.mono fun _ _=>CellR.mono hle2;refine oP (ι:=Nat×PH) (fun i=>[(0,pp bx 0),(3,pp b3 0),(5,.map (some b17)),(95,.slice qp e.pairs.length qc),(96,vi e.pairs.length),(97,vi i.1)]) (fun i=>i.2)
   (fun _=>pt b3 (.cells (edV e (.slice sp e.sides.length sc) (.slice qp e.pairs.length qc)) 35 (0,0))::edP bx u mb ms false::mp mb (rs.map rcPair)::mp ms []::s)
   (fun i=>i.1≤e.pairs.length∧Le g2 i.2∧(e.pairs.take i.1).all (alikeP A e.pairs)=true) (fun i=>e.pairs.length - i.1) (0,g2)
   sB rfl rfl ⟨Nat.zero_le _,Le.refl _,by simp⟩ ?_
  rintro ⟨k2,g3⟩ ⟨hk2,hle3,hak⟩;dsimp only at hk2 hle3 hak ⊢;refine rZ (lU (lS I I) (tZ (sQ ?_)));refine iP I (fun hlt2=>?_) (fun hlt2=>?_)
  ·have hkl:k2<e.pairs.length:=oM;have hb1:=SlA.based hpv2 oM;have hgk:e.pairs[((k2:Nat):Int).toNat]?=some e.pairs[k2]:=gE hkl;have htk:e.pairs.take (k2+1)=e.pairs.take k2++[e.pairs[k2]]:=tS hkl;obtain ⟨hx1,hx2⟩:=hfd _ (gM hkl);have hnot:alikeP A e.pairs e.pairs[k2]=false→(if e.pairs.all (alikeP A e.pairs) then (0:Int) else 33)=33:=fun h=>by
    rw[if_neg];intro h2;have h3:=List.all_eq_true.1 h2 _ (gM hkl);rw[h] at h3;cases h3
   have hyes:alikeP A e.pairs e.pairs[k2]=true→(e.pairs.take (k2+1)).all (alikeP A e.pairs)=true:=fun h=>by
    rw[htk,List.all_append,hak,Bool.true_and];simp[h]
   have hall3:=hall2.mono fun _ _=>CellR.mono hle3;have hby3:=hby.mono hle3;generalize e.pairs[k2]=x at *;obtain ⟨x1,x2⟩:=x;dsimp only at hx1 hx2;obtain ⟨c1,r1,hc1,hcm1,hg1,hr1⟩:=hfnd hall3 hx1;obtain ⟨c2,r2,hc2,hcm2,hg2,hr2⟩:=hfnd hall3 hx2;have hal:alikeP A e.pairs (x1,x2)=decide (srtS (c1.sides.map (repS (byF e.pairs)))=srtS (c2.sides.map (repS (byF e.pairs)))):=by unfold alikeP sidesT; rw[hc1,hc2]; rfl
   generalize alikeP A e.pairs (x1,x2)=al at *;have hl1:=hf.2 c1 hcm1;have hl2:=hf.2 c2 hcm2;have hl3:(srtS (c1.sides.map (repS (byF e.pairs)))).length<1099511627776:=by rw[(srtS_perm _).length_eq,List.length_map]; exact hl1
   obtain ⟨ri1,rd1,rp1,rn1,rk1⟩:=r1;obtain ⟨ri2,rd2,rp2,rn2,rk2⟩:=r2;obtain ⟨-,-,hs1⟩:=hr1;obtain ⟨-,-,hs2⟩:=hr2;dsimp only at hs1 hs2;refine kP (tN (sQ (bK (rZ (lU (iA uT33 zT60 I I hb1 oM sL) (lK (eA isAgg60 zT60 I (SlA.rd (SlA.mono hpv2 hle3)) hgk) (bW (aL zeroValue60) fun b12=>?_)))))));refine oZ (sK 0 zT60 I I I I I sB) ?_;refine tZ (sQ ?_);refine dW [] [(0,2),(1,2),(2,2),(3,1),(4,2),(5,1),(6,1),(7,2),(8,2),(10,2),(11,2),(12,2),(13,1),(14,2),(15,1),(16,1),(17,2),(18,2),(9,0),(19,0),(20,0),(21,2)] Tryz.mixed kR ?_;refine pU rfl (mV rfl) (pU rfl (nC rfl) (pU rfl (fA uT129 rfl zT104 rfl) (pK rfl (qL (v:=.map (some mb)) iT104 rfl (cO 2 rfl rfl)) (pU rfl (iB uT60 zT3 rfl rfl dC dC) (pK rfl (qL (v:=vi x1) iT3 rfl (cO 0 rfl rfl)) (pK rfl (SQ.eq (v':=.agg #[vi ri1,vi rd1,.slice rp1 rn1 rk1]) (SQ.lookup mty104 rfl rfl (MapAt.own 3 rfl)) (by rw[hg1]; rfl)) ?_))))));refine pU rfl (SU.field uT53 rfl iT32 rfl rfl) (pU rfl (mV rfl) (pU rfl (mV rfl) (pU rfl (nC rfl) (pU rfl (fA uT129 rfl zT104 rfl) (pK rfl (qL (v:=.map (some mb)) iT104 rfl (cO 2 rfl rfl)) (pU rfl (iB uT60 zT3 rfl rfl dC dC) (pK rfl (qL (v:=vi x2) iT3 rfl (cO 0 rfl rfl)) (pK rfl (SQ.eq (v':=.agg #[vi ri2,vi rd2,.slice rp2 rn2 rk2]) (SQ.lookup mty104 rfl rfl (MapAt.own 3 rfl)) (by rw[hg2]; rfl)) ?_))))))));refine pU I (SU.field uT53 I iT32 I I) (pU I (mV I) (SP.o I (cL call126 I (replaced_spec E g3 _ _ c1.sides b17 _ (byF e.pairs) hs1 hl1 hby3 (byF_get _))) dC (.inr iR) ?_));rintro v110 _ _ ⟨rfl,l1,hp1,ha1,rfl⟩;have e1:=srtS_of hp1 ha1;subst e1;refine SP.freezeRow fun g4 hle4 hs4=>?_;refine SP.o I (cL call126 I (replaced_spec E g4 _ _ c2.sides b17 _ (byF e.pairs) (SlA.mono hs2 hle4) hl2 (hby3.mono hle4) (byF_get _))) dC (.inr iR) ?_;rintro v120 _ _ ⟨rfl,l2,hp2,ha2,rfl⟩;have e2:=srtS_of hp2 ha2;subst e2;refine SP.freezeRow fun g5 hle5 hs5=>?_;have hle45:=hle4.trans hle5;refine SP.o I (cL call95 I (equalSides E g5 _ _ _ (srtS (c1.sides.map (repS (byF e.pairs)))) (srtS (c2.sides.map (repS (byF e.pairs)))) (Sl.mono hs4 hle5) hs5 hl3)) dC (.inr iR) ?_;rintro _ _ _ ⟨rfl,rfl,rfl⟩;rw[← hal];refine pU I (SU.not I) (pN (tN ?_));refine iQ I (fun hq=>?_) (fun hq=>?_)
   ·rw[Bool.not_eq_true'] at hq;rw[hnot hq];refine rZ (aT I (rE (bR (tR (tR (bR (tR ?_)))))));exact ST.ret1 (.inl I) results81 I ⟨hle2.trans (hle3.trans hle45),I,by rw[if_neg dC]; exact⟨[_,_,_,_,_],I⟩⟩
   ·rw[Bool.not_eq_false'] at hq;refine kP (bN (tN (rG (lU (aD I I oM) (lM I (nL (dR (.cons _ (.refl _)) ?_)))))));exact gA (k2+1,g5) sB I I ⟨by dsimp only; omega,hle3.trans hle45,hyes hq⟩ (by dsimp only; omega)
  ·have hkk2:e.pairs.take k2=e.pairs:=tL oM;rw[hkk2] at hak;rw[if_pos hak];obtain ⟨es,clk,hes,hmi⟩:=hby
   have hes3:=hle3 _ _ hes;have hby3:Mp g3 b17 (e.pairs.map swP):=⟨es,clk,hes3,hmi⟩;have hall3:=hall2.mono fun _ _=>CellR.mono hle3;refine xI (tX (tX (bX (tN (sQ (sW I (lW (SO.range underlying163 I hes3) ?_)))))));rintro _ _ _ ⟨it,rfl,rfl,rfl⟩;refine tZ (bK ?_);have hrest0:restC A []=A:=by unfold restC; rw[List.filter_eq_self]; intro c _; simp
   refine oP (ι:=List MapEntry×List (Int×Value)×PH×List Rc×Ts) (fun _=>[(0,pp bx 0),(3,pp b3 0),(5,.map (some b17)),(125,pp it 0)]) (fun i=>i.2.2.1)
    (fun i=>iter it b17 es clk i.1::pt b3 (.cells (edV e (.slice sp e.sides.length sc) (.slice qp e.pairs.length qc)) 35 (0,0))::edP bx u mb ms false::mp mb (i.2.2.2.1.map rcPair)::mp ms (prsT i.2.2.2.2)::(rowsT i.2.2.2.2++s))
    (fun i=>RVis (e.pairs.map swP) es i.1 i.2.1∧Le g3 i.2.2.1∧All2 (CellR i.2.2.1) (restC A (i.2.1.map Prod.fst)) i.2.2.2.1∧i.2.2.2.2.map Prod.fst=i.2.1.map Prod.fst∧TsOk i.2.2.2.2∧∀ t∈i.2.2.2.2,∃ q∈e.pairs,q.2=t.1∧t.2.2=[(q.1,1)]) (fun i=>e.pairs.length - i.2.1.length)
    ([],[],g3,rs,[]) sB rfl rfl ⟨RVis.nil _ _,Le.refl _,by dsimp only; rw[List.map_nil,hrest0]; exact hall3,rfl,fun t ht=>by simp at ht,fun t ht=>by simp at ht⟩ ?_
   rintro ⟨vis,vl,g4,rs1,ts⟩ ⟨hrv,hle4,hall4,hkeys,hok,htq⟩;dsimp only at hrv hle4 hall4 hkeys hok htq ⊢;have hvle:=hrv.len hmi;rw[List.length_map] at hvle;have hes4:=hle4 _ _ hes3;refine rZ (lW (SO.nextP 0 I I hes4 hmi hrv) ?_);rintro _ _ _ ⟨rfl,hcase⟩
   rcases hcase with ⟨rfl,rfl,hperm⟩ | ⟨en,pr,hen,hpr,hk1,hv1,hrv2,rfl,rfl⟩
   ·have hpk:∀ k,k∈vl.map Prod.fst↔k∈e.pairs.map Prod.snd:=fun k=>by
     rw[(hperm.map Prod.fst).mem_iff,List.map_map];exact Iff.rfl
    have hrest:restC A (vl.map Prod.fst)=restC A (e.pairs.map Prod.snd):=by
     unfold restC;refine List.filter_congr fun c _=>?_;rw[decide_eq_decide.2 (hpk c.id)]
    have htn:(ts.map Prod.fst).Nodup:=by rw[hkeys]; exact rvis_keys hrv hmi
    have himg:=img_ident (e:=e) (ts:=ts) (fun k=>by rw[hkeys]; exact hpk k) hsn htq;have hby4:Mp g4 b17 (e.pairs.map swP):=⟨es,clk,hes4,hmi⟩;rw[hrest] at hall4;have hBn:((restC A (e.pairs.map Prod.snd)).map Cl.id).Nodup:=(List.filter_sublist.map Cl.id).nodup hn;have hBf:∀ c∈restC A (e.pairs.map Prod.snd),c.sides.length<1099511627776:=fun c hc=>hf.2 c (List.mem_filter.1 hc).1;have hio:identOut A e=(restC A (e.pairs.map Prod.snd)).map (repC (byF e.pairs)):=rfl;rw[hio];generalize restC A (e.pairs.map Prod.snd)=B at *;have hrc:∀ y,(repC (byF e.pairs) y).id=y.id:=fun _=>rfl;refine lU (xT I I) (tZ (sQ (cF I (xI (tX (tX (bX (tN (sQ (sQ (SC.drop (List.sublist_cons_self _ _) (SC.openMap 2 I fun es2 clk2 hI2=>?_))))))))))));refine SC.to (g':=g4) (s':=pt b3 (.cells (edV e (.slice sp e.sides.length sc) (.slice qp e.pairs.length qc)) 35 (0,0))::edP bx u mb ms false::mx mb es2 clk2::mp ms (prsT ts)::(rowsT ts++s)) (fun w hw=>hw) ?_;refine rG (lM I (lU (nC I) (lU (fA uT129 I zT104 I) (lK (qL (v:=.map (some mb)) iT104 I (cO 1 I I)) (lW (SO.rangeG underlying104 I (mx_at 2 I)) ?_)))));rintro _ _ _ ⟨it2,rfl,rfl,rfl⟩;refine tZ (bK ?_);refine oP (ι:=List MapEntry×List (Int×Value)×PH×List Rc×Array MapEntry) (fun _=>[(0,pp bx 0),(5,.map (some b17)),(148,pp it2 0)]) (fun i=>i.2.2.1)
     (fun i=>iter it2 mb i.2.2.2.2 clk2 i.1::pt b3 (.cells (edV e (.slice sp e.sides.length sc) (.slice qp e.pairs.length qc)) 35 (0,0))::edP bx u mb ms false::mx mb i.2.2.2.2 clk2::mp ms (prsT ts)::(rowsT ts++s))
     (fun i=>MapI (i.2.2.2.1.map rcPair) i.2.2.2.2 clk2∧RVis (i.2.2.2.1.map rcPair) i.2.2.2.2 i.1 i.2.1∧Le g4 i.2.2.1∧All2 (CellR i.2.2.1) (mapAt (repC (byF e.pairs)) B (i.2.1.map Prod.fst)) i.2.2.2.1) (fun i=>B.length - i.2.1.length)
     ([],[],g4,rs1,es2) sB rfl rfl ⟨hI2,RVis.nil _ _,Le.refl _,by dsimp only; rw[List.map_nil,mapAt_nil]; exact hall4⟩ ?_
    rintro ⟨vis2,vl2,g5,rs2,es3⟩ ⟨hI3,hrv3,hle5,hall5⟩;dsimp only at hI3 hrv3 hle5 hall5 ⊢;have hrl:=hall5.length;have hbl2:(mapAt (repC (byF e.pairs)) B (vl2.map Prod.fst)).length=B.length:=by unfold mapAt; rw[List.length_map]
    have hids:=mapAt_ids hrc B (vl2.map Prod.fst);refine rZ (lW (SO.nextPG 0 I I (mx_at 3 I) hI3 hrv3) ?_);rintro _ _ _ ⟨rfl,hcase2⟩
    rcases hcase2 with ⟨rfl,rfl,hperm2⟩ | ⟨en2,pr2,hen2,hpr2,hk2',hv2,hrv4,rfl,rfl⟩
    ·have hmem:∀ c∈B,c.id∈vl2.map Prod.fst:=fun c hc=>by
      rw[(hperm2.map Prod.fst).mem_iff,rc_keys];have h1:rs2.map Rc.id=(mapAt (repC (byF e.pairs)) B (vl2.map Prod.fst)).map Cl.id:=(all2_ids hall5).symm;rw[h1,hids];exact List.mem_map.2 ⟨c,hc,I⟩
     rw[mapAt_all hmem] at hall5;refine lU (xT I I) (tZ (sQ (cF I (xI (tX (tX (bX (tN (rZ (aT I (rE (ST.closeMap 3 I hI3 ?_))))))))))));refine ST.to (g':=g5) (s':=edP bx u mb ms false::mp mb (rs2.map rcPair)::mp ms (prsT ts)::(rowsT ts++s)) (fun w hw=>hw.sublist (.cons _ (.cons _ (.refl _)))) ?_;exact ST.ret1 (.inl I) results81 I ⟨hle2.trans (hle3.trans (hle4.trans hle5)),I,by rw[if_pos I]; exact⟨rs2,ts,hall5,hok,htn,himg,I⟩⟩
    ·obtain ⟨x,hx,rfl⟩:=List.mem_map.1 hpr2;obtain ⟨cx,hcm,hcx⟩:=all2_mem hall5 hx;have hnk:=rvis_keys hrv4 hI3;rw[List.map_append,List.nodup_append] at hnk;have hxn:x.id ∉ vl2.map Prod.fst:=fun hm=>hnk.2.2 _ hm _ (by simp[rcPair]) rfl;obtain ⟨u1,hu1⟩:∃ u1,mget (rs2.map rcPair) x.id=some u1:=by
      rcases all2_findG (fun _ _ h=>h.1) hall5 x.id with ⟨h1,_⟩ | ⟨_,r9,_,h2,_⟩
      ·have:=List.find?_eq_none.1 h1 cx hcm;simp[hcx.1] at this
      ·exact⟨_,h2⟩
     have hcB:=mapAt_mem hrc hcm (by rw[← hcx.1]; exact hxn);have hfc:=find_mem hBn hcB;have hlx:=hBf cx hcB;obtain ⟨xi,xd,xp,xn,xc⟩:=x;obtain ⟨f1,f2,hsx⟩:=hcx;dsimp only at f1 f2 hsx hxn hu1;subst f1 f2;have hput:=mapAt_put hrc hxn hBn hfc;have hvl3:=hrv4.len hI3;rw[List.length_append,List.length_singleton,List.length_map] at hvl3;refine lU (xT I I) (tZ (sQ (cT I (kP (tN (bK (rZ (lK (SQ.entryPG 0 I I (mx_at 3 I) hI3 hen2 hk2' hv2) (lU (xT I I) (lU (xT I I) (bW (aL zeroValue53) fun b16=>?_)))))))))));refine lA I (oZ (sK 0 zT53 I I I I I sB) ?_);refine tZ (sQ ?_);refine SC.to (g':=g5) (s':=pt b16 (.cells #[vi cx.id,vi cx.dim,.slice xp xn xc] 53 (0,0))::iter it2 mb es3 clk2 (vis2++[en2])::pt b3 (.cells (edV e (.slice sp e.sides.length sc) (.slice qp e.pairs.length qc)) 35 (0,0))::edP bx u mb ms false::mx mb es3 clk2::mp ms (prsT ts)::(rowsT ts++s)) (fun w hw=>hw) ?_;refine rG (lU (fA uT53 I zT32 I) (lK (qL (v:=.slice xp xn xc) iT32 I (cO 0 I I)) (lM I (lW (cL call126 I (replaced_spec E g5 _ _ cx.sides b17 _ (byF e.pairs) hsx hlx (hby4.mono hle5) (byF_get _))) ?_))));rintro v157 _ _ ⟨rfl,l1,hp1,ha1,rfl⟩;have e1:=srtS_of hp1 ha1;subst e1;refine fR fun g6 hle6 hs6=>?_;obtain ⟨q6,d6,rfl⟩:=Sl.form hs6;refine lU (fA uT53 rfl zT32 rfl) (oZ (SO.store1 0 zT32 rfl rfl rfl rfl (bE rfl) (by rfl)) ?_);refine tZ ?_;refine dW [6] [(0,2),(1,2),(2,2),(3,1),(4,2),(5,1),(6,0)] Tryz.mixed kR ?_;refine pU I (mV I) (pU I (nC I) (pU I (fA uT129 I zT104 I) (pK I (qL (v:=.map (some mb)) iT104 I (cO 3 I I)) (pU I (mV I) (pK I (qV 0 iT53 zT53 I I I) (SP.on I (SO.mapUpdateX 4 mty104 I I I I hI3 ⟨_,hu1⟩) (.inl dC) ?_))))));rintro _ _ _ ⟨rfl,es4,rfl,hI4,hrvu⟩;refine pN (bN ?_);have hrc1:=mput_rc ⟨cx.id,cx.dim,⟨q6,(srtS (cx.sides.map (repS (byF e.pairs)))).length,d6⟩⟩ rs2;have hI5:MapI ((putR rs2 ⟨cx.id,cx.dim,⟨q6,(srtS (cx.sides.map (repS (byF e.pairs)))).length,d6⟩⟩).map rcPair) es4 clk2:=by rw[← hrc1]; exact hI4
     have hrv5:=hrvu _ _ hrv4;refine dR (.cons _ (.refl _)) ?_;exact gA ((vis2++[en2]).map (updE cx.id (rcv ⟨cx.id,cx.dim,⟨q6,(srtS (cx.sides.map (repS (byF e.pairs)))).length,d6⟩⟩)),(vl2++[rcPair ⟨cx.id,cx.dim,⟨xp,xn,xc⟩⟩]).map (updP cx.id (rcv ⟨cx.id,cx.dim,⟨q6,(srtS (cx.sides.map (repS (byF e.pairs)))).length,d6⟩⟩)),g6,putR rs2 ⟨cx.id,cx.dim,⟨q6,(srtS (cx.sides.map (repS (byF e.pairs)))).length,d6⟩⟩,es4) sB rfl (by dsimp only; rw[iter_upd _ _ _ es3]; rfl) ⟨hI5,by dsimp only; rw[← hrc1]; exact hrv5,hle5.trans hle6,by
      dsimp only;rw[updP_keys,List.map_append];have h9:(vl2.map Prod.fst++[rcPair ⟨cx.id,cx.dim,⟨xp,xn,xc⟩⟩].map Prod.fst)=vl2.map Prod.fst++[cx.id]:=rfl;rw[h9,← hput];exact all2_put (fun _ _ h=>h.1) ⟨I,I,hs6⟩ (hall5.mono fun _ _=>CellR.mono hle6)⟩ (by
      dsimp only;rw[List.length_map,List.length_append,List.length_singleton];omega)
   ·obtain ⟨q,hq,rfl⟩:=List.mem_map.1 hpr;have hnk:=rvis_keys hrv2 hmi;rw[List.map_append,List.nodup_append] at hnk;have hqn:q.2 ∉ vl.map Prod.fst:=fun hm=>hnk.2.2 _ hm _ (by simp[swP]) rfl;have hput:∀ v,mput (prsT ts) q.2 v=prsT ts++[(q.2,v)]:=fun v=>mput_none _ _ _ fun p hp e9=>hqn (by
     rw[← hkeys,← prsT_keys,← e9];exact List.mem_map.2 ⟨p,hp,I⟩)
    have hdel:=restC_del hn (vl.map Prod.fst) q.2;have hvl3:=hrv2.len hmi;rw[List.length_append,List.length_singleton,List.length_map] at hvl3;obtain ⟨q1,q2⟩:=q;dsimp only at hqn hput hdel;refine lU (xT I I) (tZ (sQ (cT I (kP (tN (bK (rZ (lK (SQ.entryP 0 I I hes4 hmi hen hk1 hv1) (lU (xT I I) (lU (xT I I) (lA I (aT I (sW I (lU (nC I) (lU (fA uT129 I zT104 I) (lK (qL (v:=.map (some mb)) iT104 I (cO 2 I I)) (lM I (lO (SO.delete 3 mty104 I I I) ?_))))))))))))))))));rintro _ _ _ ⟨rfl,rfl⟩;rw[mdel_rc];refine tZ ?_;refine dW [8] [(0,2),(1,2),(2,2),(3,1),(4,2),(5,2),(6,0),(7,0),(8,0)] Tryz.mixed kR ?_;refine pU I (mV I) (pU I (nC I) (pU I (fA uT129 I sizeOf127 I) (pK I (qL (v:=.map (some ms)) isAgg127 I (cO 2 I I)) (pU I (mV I) (pU I (mV I) (SP.o I (cL call87 I (term_spec E g4 _ q1 1 dC dC)) dC (.inr iR) ?_))))));rintro _ g5 _ ⟨rfl,rfl,hle5⟩;refine SP.o I (bS sty72 I I I (szs_mk ⟨I,trivial⟩) dC) dC (.inr iR) ?_;rintro _ _ _ ⟨b143,rfl,rfl,rfl⟩;refine SP.to (fun w hw=>At.litRow (e:=encTm) (l:=[(q1,1)]) (n:=0) hw I I dC) ?_;refine SP.on I (SO.mapUpdate 5 mty127 I I I I) (.inl dC) ?_;rintro _ _ _ ⟨rfl,rfl⟩;refine pN (bN ?_);refine ST.to (g':=g5) (s':=iter it b17 es clk (vis++[en])::pt b3 (.cells (edV e (.slice sp e.sides.length sc) (.slice qp e.pairs.length qc)) 35 (0,0))::edP bx u mb ms false::mp mb ((delR rs1 q2).map rcPair)::mp ms (prsT (ts++[(q2,.slice (some ⟨b143,0,none⟩) 1 1,[(q1,1)])]))::(rowsT (ts++[(q2,.slice (some ⟨b143,0,none⟩) 1 1,[(q1,1)])])++s)) (fun w1 hw1=>?_) ?_
    ·rw[prsT_snoc,rowsT_snoc,← hput];exact hw1.perm (perm_in _ [iter it b17 es clk (vis++[en]),pt b3 (.cells (edV e (.slice sp e.sides.length sc) (.slice qp e.pairs.length qc)) 35 (0,0)),edP bx u mb ms false,mp mb ((delR rs1 q2).map rcPair),mp ms (mput (prsT ts) q2 (.slice (some ⟨b143,0,none⟩) 1 1))] (rowsT ts) s)
    exact gA (vis++[en],vl++[swP (q1,q2)],g5,delR rs1 q2,ts++[(q2,.slice (some ⟨b143,0,none⟩) 1 1,[(q1,1)])]) sB I I ⟨hrv2,hle4.trans hle5,by
     dsimp only;rw[List.map_append];have h9:vl.map Prod.fst++[swP (q1,q2)].map Prod.fst=vl.map Prod.fst++[q2]:=rfl;rw[h9,← hdel];exact (all2_del (fun _ _ h=>h.1) q2 hall4).mono fun _ _=>CellR.mono hle5,by dsimp only; rw[List.map_append,List.map_append,hkeys]; rfl,fun t ht=>by
     rcases List.mem_append.1 ht with ht | ht
     ·exact hok t ht
     ·simp at ht; subst ht; exact⟨by simp,by simp,_,_,_,rfl⟩,fun t ht=>by
     rcases List.mem_append.1 ht with ht | ht
     ·exact htq t ht
     ·simp at ht; subst ht; exact⟨(q1,q2),hq,rfl,rfl⟩⟩ (by
     dsimp only;rw[List.length_append,List.length_singleton];omega)
set_option maxHeartbeats 4000000
def restR (A:List Cl)(ks:List Int):List Cl:=A.filter fun c=>!decide (c.id∈ks)
theorem restR_fits {A:List Cl}(hf:Fits A)(ks:List Int):Fits (restR A ks):=⟨by
 have h1:=List.length_filter_le (fun c:Cl=>!decide (c.id∈ks)) A;have h2:=hf.1;unfold restR;omega,fun c hc=>hf.2 c (List.mem_filter.1 hc).1⟩
def sgF (l:List Side)(cell:Int):Int:=l.foldl (fun a x=>if x.cell=cell then x.sign else a) 0
def refColChain (l:List Cl)(e:Ed):List Tm:=((((findC l e.other).getD zeroC).sides.filter fun x=>!decide (x.cell=e.cell))).map fun x=>(x.cell,-sgF ((findC l e.other).getD zeroC).sides e.cell * x.sign)
def moreS (e:Ed)(l:List Side):List Side:=(l.filter fun x=>decide (x.cell=e.cell)).map fun x=>⟨e.other,x.sign⟩
def refSplitCell (e:Ed)(a:Int)(y:Cl):Cl:=if y.id=e.cell then ⟨y.id,y.dim,[⟨a,-1⟩,⟨e.new,1⟩]⟩ else ⟨y.id,y.dim,y.sides++moreS e y.sides⟩
def refSplitOut (l:List Cl)(e:Ed):List Cl:=[⟨e.new,0,[]⟩,⟨e.other,1,[⟨e.new,-1⟩,⟨(endS ((findC l e.cell).getD zeroC).sides true).cell,1⟩]⟩]++l.map (refSplitCell e (endS ((findC l e.cell).getD zeroC).sides false).cell)
def refSplitChain (e:Ed):List Tm:=if e.other<e.cell then [(e.other,1),(e.cell,1)] else [(e.cell,1),(e.other,1)]
def repX (f:Int→Option Int)(c:Cl):Cl:=⟨c.id,c.dim,c.sides.map (repS f)⟩
def refIdentOut (l:List Cl)(e:Ed):List Cl:=(restR l (e.pairs.map Prod.snd)).map (repX (byF e.pairs))
def KindRunX (fv:Value)(e:Ed)(A:List Cl)(code:Int)(B:List Cl)(img:Int→List Tm)(bk:Bool):Prop :=
 ∀ (E:World) (g:PH) (s:Own) (bx mb ms:Nat) (u v:Value) (rs:List Rc),Cells g u A→All2 CellO A rs→EdR g v e →
  CallV Tryz.prog E fv [pp bx 0,v] g (edP bx u mb ms false::mp mb (rs.map rcPair)::mp ms []::(ownS A rs++s)) (fun r g' s'=>Le g g'∧r=vi code∧(if code=0 then ∃ rs' ts,All2 (CellR g') B rs'∧TsOk ts∧(ts.map Prod.fst).Nodup∧(∀ k,imgT ts k=img k)∧s'=edP bx u mb ms bk::mp mb (rs'.map rcPair)::mp ms (prsT ts)::(rowsT ts++s) else ∃ h,s'=h++s))
def selfI (k:Int):List Tm:=[(k,1)]
theorem KindRun.gen {fv:Value}{e:Ed}{A:List Cl}{code:Int}{B:List Cl}{bk:Bool}(h:KindRun fv e A code B bk):KindRunX fv e A code B selfI bk:=fun E g s bx mb ms u v rs hu hO hv=>by
 obtain ⟨n,cap,q1,q2,q3⟩:=h E g s bx mb ms u v rs hu hO hv;refine⟨n,cap,q1,q2,q3.mono ?_⟩;rintro r g' s' ⟨h1,h2,h3⟩;refine⟨h1,h2,?_⟩;by_cases h0:code=0
 ·rw[if_pos h0] at h3 ⊢;obtain ⟨rs',h4,rfl⟩:=h3;exact⟨rs',[],h4,fun t ht=>by simp at ht,List.nodup_nil,fun k=>I,I⟩
 ·rw[if_neg h0] at h3 ⊢;exact h3
def RefAppN (g:PH)(code:Int)(D:List Cl)(ims:List (Int×List Tm))(bk:Bool)(r:Value)(g':PH):Prop:=∃ u p n c b,r = .tuple #[.agg #[u],.agg #[.slice p n c,vb b],vi code]∧CellsK (mns g' g) u D∧(code=0→b=bk∧Ims g' (.slice p n c) ims)∧(code≠0→b=false∧Ims g' (.slice p n c) [])
theorem RefAppN.old {g:PH}{code:Int}{D:List Cl}{ims:List (Int×List Tm)}{bk:Bool}{r:Value}{g':PH}(h:RefAppN g code D ims bk r g'):RefAppR code D ims bk r g':=by
 obtain ⟨u,p,n,c,b,h1,h2,h3⟩:=h;exact⟨u,p,n,c,b,h1,h2.cells (mns_le _ _),h3⟩
theorem CellsK.nil (g:PH):CellsK g (.slice none 0 0) []:=⟨[],RK.nil _ _ g,trivial⟩
theorem apply_badN (E:World)(g:PH)(s:Own)(v ev:Value)(l:List Cl)(e:Ed)(hv:Cells g v l)(hf:Fits l)(he:EdR g ev e)(ims:List (Int×List Tm))(bk:Bool)(hbad:mget kindsM e.kind=none∨(checkC l).2≠0) :
  Ctr Tryz.prog E 16 #[.agg #[v],ev] g s (fun r g' s'=>s=s'∧Le g g'∧RefAppN g 1 [] ims bk r g'):=by
 obtain ⟨z,hz⟩:=Tryz.mtyKinds;obtain ⟨sv,pv,rfl,hsv,hpv⟩:=he;obtain ⟨sp,sc,rfl⟩:=SlA.form hsv;obtain ⟨pq,pc,rfl⟩:=SlA.form hpv;obtain ⟨p,c,rfl⟩:=hv.form;refine Ctr.of (args:=[.agg #[.slice p l.length c],.agg #[vi e.kind,vi e.cell,vi e.dim,vi e.new,vi e.other,.slice sp e.sides.length sc,.slice pq e.pairs.length pc]]) func16 I ntmps16 (bE I) ?_;cases hg:mget kindsM e.kind with
 | none =>
  refine rZ (bW (bO I) fun b2=>?_);refine bW (bO I) fun b3=>?_;refine bW (aL zeroValue29) fun b4=>?_;refine bW (aL zeroValue46) fun b5=>?_;refine aT I (sQ ?_);refine dW [] [(1,2),(2,1),(0,0),(3,0),(4,2),(5,2),(6,2),(7,2),(8,2)] Tryz.mixed kR ?_;refine pU I (fA uT35 I zT3 I) (pK I (qL iT3 I (cO 2 I I)) (SP.o I (cL call45 I (kinds_spec E g _)) dC (.inr iR) ?_));rintro _ g1 _ ⟨rfl,hle1,bq,rfl,hk⟩;refine oQ rfl (SQ.eq (v':=.tuple #[z,vb false]) (SQ.lookupOk hz rfl rfl (MapAt.known hk)) (by rw[hg]; rfl)) dC (.inr ⟨by assumption,(by exact .refl _)⟩) ?_;refine pU I (mV I) (pU I (xT I I) (pU I (xT I I) (pU I (aS I) (pU I (aS I) (pN (tN (sQ (sW I (lU (SU.not I) (lM I (lZ I I I (lZ I I I (lZ I I I (lU (wT I I) (tZ (cT I (rZ (lU (SU.build I buildE29) (lU (SU.build I buildZ46) (oZ (sK 1 zT29 I I I I I sB) ?_))))))))))))))))))));refine oZ (sK 0 zT46 I I I I I sB) ?_;refine aT I (rE (tR ?_));exact ST.retCCT 1 0 s (.inl I) results16 I I I iT29 zT29 isAgg46 zT46 I I I I uR ⟨I,hle1,_,_,_,_,_,I,CellsK.nil _,(fun h=>by cases h),fun _=>⟨I,Ims.nil _⟩⟩
 | some fv =>
  have hc:decide ((checkC l).2=0)=false:=decide_eq_false (by
   rcases hbad with h | h
   ·rw[hg] at h; cases h
   ·exact h)
  refine rZ (bW (bO I) fun b2=>?_);refine bW (bO I) fun b3=>?_;refine bW (aL zeroValue29) fun b4=>?_;refine bW (aL zeroValue46) fun b5=>?_;refine aT I (sQ ?_);refine dW [] [(1,2),(2,1),(0,0),(3,0),(4,2),(5,2),(6,2),(7,2),(8,2)] Tryz.mixed kR ?_;refine pU I (fA uT35 I zT3 I) (pK I (qL iT3 I (cO 2 I I)) (SP.o I (cL call45 I (kinds_spec E g _)) dC (.inr iR) ?_));rintro _ g1 _ ⟨rfl,hle1,bq,rfl,hk⟩;refine oQ rfl (SQ.eq (v':=.tuple #[fv,vb true]) (SQ.lookupOk hz rfl rfl (MapAt.known hk)) (by rw[hg]; rfl)) dC (.inr ⟨by assumption,(by exact .refl _)⟩) ?_;refine pU I (mV I) (pU I (xT I I) (pU I (xT I I) (pU I (aS I) (pU I (aS I) (pN (tN (sQ (sW I (lU (SU.not I) (lM I (SL.gq (gT I I I dC) (qV 3 iT29 zT29 I I I) dC (SL.go (gT I I I dC) (cL call46 I (edRight_B E g1 _ _ l (hv.mono hle1) hf false hc)) dC ?_))))))))))));rintro _ _ _ ⟨rfl,rfl,rfl⟩;refine lY I I I (SU.not I) (lU (wF I I) (tZ (cT I (rZ (lU (SU.build I buildE29) (lU (SU.build I buildZ46) (oZ (sK 1 zT29 I I I I I sB) ?_)))))));refine oZ (sK 0 zT46 I I I I I sB) ?_;refine aT I (rE (tR ?_));exact ST.retCCT 1 0 s (.inl I) results16 I I I iT29 zT29 isAgg46 zT46 I I I I uR ⟨I,hle1,_,_,_,_,_,I,CellsK.nil _,(fun h=>by cases h),fun _=>⟨I,Ims.nil _⟩⟩
theorem apply_genN (E:World)(g:PH)(s:Own)(v ev:Value)(l:List Cl)(e:Ed)(hv:Cells g v l)(hf:Fits l)(he:EdR g ev e)(hr:(checkC l).2=0)(fv:Value)(code:Int)(B:List Cl)(bk:Bool)(hg:mget kindsM e.kind=some fv)(img:Int→List Tm)(hrun:KindRunX fv e (canonC l) code B img bk)(hB:code=0→Fits B∧(B.map Cl.id).Nodup) :
  Ctr Tryz.prog E 16 #[.agg #[v],ev] g s (fun r g' s'=>s=s'∧Le g g'∧RefAppN g (applyOut code B).1 (applyOut code B).2 ((if bk then canonC B else canonC l).map fun c=>(c.id,img c.id)) bk r g'):=by
 obtain ⟨z,hz⟩:=Tryz.mtyKinds;have he0:=he;obtain ⟨sv,pv,rfl,hsv,hpv⟩:=he;obtain ⟨sp,sc,rfl⟩:=SlA.form hsv;obtain ⟨pq,pc,rfl⟩:=SlA.form hpv;obtain ⟨p,c,rfl⟩:=hv.form;have hc:decide ((checkC l).2=0)=true:=decide_eq_true hr;have hnd:((canonC l).map Cl.id).Nodup:=by
  rw[List.Nodup,List.pairwise_map];exact (rt_of hr).asc.imp fun h=>by omega
 have hAf:=canonC_fits hf;refine Ctr.of (args:=[.agg #[.slice p l.length c],.agg #[vi e.kind,vi e.cell,vi e.dim,vi e.new,vi e.other,.slice sp e.sides.length sc,.slice pq e.pairs.length pc]]) func16 I ntmps16 (bE I) ?_;refine rZ (bW (bO I) fun b2=>?_);refine bW (bO I) fun b3=>?_;refine bW (aL zeroValue29) fun b4=>?_;refine bW (aL zeroValue46) fun b5=>?_;refine aT I (sQ ?_);refine dW [] [(1,2),(2,1),(0,0),(3,0),(4,2),(5,2),(6,2),(7,2),(8,2)] Tryz.mixed kR ?_;refine pU I (fA uT35 I zT3 I) (pK I (qL iT3 I (cO 2 I I)) (SP.o I (cL call45 I (kinds_spec E g _)) dC (.inr iR) ?_));rintro _ g1 _ ⟨rfl,hle1,bq,rfl,hk⟩;refine oQ rfl (SQ.eq (v':=.tuple #[fv,vb true]) (SQ.lookupOk hz rfl rfl (MapAt.known hk)) (by rw[hg]; rfl)) dC (.inr ⟨by assumption,(by exact .refl _)⟩) ?_;refine pU I (mV I) (pU I (xT I I) (pU I (xT I I) (pU I (aS I) (pU I (aS I) (pN (tN (sQ (sW I (lU (SU.not I) (lM I (SL.gq (gT I I I dC) (qV 3 iT29 zT29 I I I) dC (SL.go (gT I I I dC) (cL call46 I (edRight_B E g1 _ _ l (hv.mono hle1) hf true hc)) dC ?_))))))))))));rintro _ _ _ ⟨rfl,rfl,rfl⟩;refine lY I I I (SU.not I) (lU (wF I I) (tZ (cF I (kP (tN (rZ (lK (qV 3 iT29 zT29 I I I) (lW (cL call47 I (open_own E g1 _ _ l (hv.mono hle1) hf hnd)) ?_))))))));rintro _ g2 _ ⟨hle2,bx,u,mb,ms,rs,rfl,hu,hO,rfl⟩;refine aT I (sW I (lM I (lK (qV ((ownS (canonC l) rs).length+2+3) isAgg35 sizeOf35 I (by exact (get_after (ownS (canonC l) rs) _ 2).trans I) I) ?_)));refine lW (SO.callV I I (hrun E g2 _ bx mb ms u _ rs hu hO (he0.mono (hle1.trans hle2)))) ?_;rintro _ g3 _ ⟨hle3,rfl,hcase⟩;by_cases hc0:code=0
 ·obtain ⟨hBf,hBn⟩:=hB hc0;subst hc0;rw[if_pos rfl] at hcase;obtain ⟨rs',ts,hall,hts,htn,himg,rfl⟩:=hcase;refine SL.to (g':=g3) (s':=edP bx u mb ms bk::mp mb (rs'.map rcPair)::mp ms (prsT ts)::pt b5 (.cells #[.slice none 0 0,vb false] 46 (0,0))::pt b4 (.cells #[.slice none 0 0] 29 (0,0))::pt b3 (.cells #[vi e.kind,vi e.cell,vi e.dim,vi e.new,vi e.other,.slice sp e.sides.length sc,.slice pq e.pairs.length pc] 35 (0,0))::pt b2 (.cells #[.slice p l.length c] 29 (0,0))::(rowsT ts++s)) (fun w hw=>hw.perm (((List.perm_append_comm_assoc (rowsT ts) [pt b5 (.cells #[.slice none 0 0,vb false] 46 (0,0)),pt b4 (.cells #[.slice none 0 0] 29 (0,0)),pt b3 (.cells #[vi e.kind,vi e.cell,vi e.dim,vi e.new,vi e.other,.slice sp e.sides.length sc,.slice pq e.pairs.length pc] 35 (0,0)),pt b2 (.cells #[.slice p l.length c] 29 (0,0))] s).cons _).cons _ |>.cons _)) ?_;have hcB:=canonC_fits hBf;have hout:applyOut 0 B=if (checkC (canonC B)).2≠0 then ((checkC (canonC B)).2,[]) else (0,canonC B):=rfl
  rw[hout];refine aT I (rZ (bW (aL zeroValue29) fun b11=>?_));refine tZ (sQ (sW I (lU (eQ I I) (tZ (cT I (sQ (cP (List.perm_middle (l₁:=[pt b11 (.cells #[.slice none 0 0] 29 (0,0)),edP bx u mb ms bk])) (SC.freezeMap fun g4 hle4 hm4=>?_))))))));refine rG (lM I (lW (cL call48 I (result_new E g4 _ bx mb ms u bk B rs' (hall.mono fun _ _=>CellR.mono hle4) hBn hBf hm4 1 I)) ?_));rintro _ g5 _ ⟨rfl,hle5,u5,rfl,hn5⟩;have hu5:=hn5.cells (mns_le _ _);obtain ⟨p5,c5,rfl⟩:=hu5.form;refine oZ (sK 0 zT29 I I I I I sB) ?_;refine tZ (rG (lK (qV 0 iT29 zT29 I I I) (lW (cL call49 I (check_spec E g5 _ _ (canonC B) hu5 hcB)) ?_)));rintro _ _ _ ⟨rfl,rfl,rfl⟩;refine lM I (lU (xT I I) (lU (xT I I) (aT I (sQ (sW I (lU (nQ I I) (tZ ?_)))))));refine iP I (fun h2=>?_) (fun h2=>?_)
  ·have he2:(if (checkC (canonC B)).2≠0 then ((checkC (canonC B)).2,[]) else ((0:Int),canonC B))=((checkC (canonC B)).2,[]):=if_pos h2;rw[he2];refine rZ (lU (SU.build I buildE29) (lU (SU.build I buildZ46) (lM I (oZ (sK 4 zT29 I I I I I sB) ?_))));refine oZ (sK 3 zT46 I I I I I sB) ?_;refine aT I (rE (tR ?_));exact ST.retCCT 4 3 s (.inl I) results16 I I I iT29 zT29 isAgg46 zT46 I I I I (.cons _ (.cons _ (.cons _ (.cons _ (.cons _ (.cons _ (.cons _ (List.sublist_append_right _ _)))))))) ⟨I,hle1.trans (hle2.trans (hle3.trans (hle4.trans hle5))),_,_,_,_,_,I,CellsK.nil _,fun h=>absurd h h2,fun _=>⟨I,Ims.nil _⟩⟩
  ·have he2:(if (checkC (canonC B)).2≠0 then ((checkC (canonC B)).2,[]) else ((0:Int),canonC B))=(0,canonC B):=if_neg h2;rw[he2];refine kP (tN (sQ ?_));refine SC.drawT 1 [4,5] [(0,1),(1,2),(2,1),(3,0),(4,0),(5,0),(6,2)] Tryz.mixed kR ?_;refine pK rfl (qV 0 iT29 zT29 rfl rfl rfl) (pU rfl (mV rfl) (pK rfl (qV 0 iT29 zT29 rfl rfl rfl) (SP.o rfl (cL call50 rfl (step_spec E g5 [pt b11 (.cells #[.slice p5 (canonC B).length c5] 29 (0,0)),edP bx u mb ms bk,mp ms (prsT ts),pt b5 (.cells #[.slice none 0 0,vb false] 46 (0,0)),pt b4 (.cells #[.slice none 0 0] 29 (0,0)),pt b3 (.cells #[vi e.kind,vi e.cell,vi e.dim,vi e.new,vi e.other,.slice sp e.sides.length sc,.slice pq e.pairs.length pc] 35 (0,0)),pt b2 (.cells #[.slice p l.length c] 29 (0,0))] s bx mb ms u _ bk (canonC l) (canonC B) ts hts htn (hu.mono (hle3.trans (hle4.trans hle5))) hu5 hAf.1 hcB.1 1 2 rfl rfl)) dC (.inr (by rintro _ g6 _ ⟨rfl,hle6,iv,rfl,him⟩; exact⟨by assumption,(by exact .cons_cons _ (List.nil_sublist _))⟩)) ?_)));rintro _ g6 _ ⟨rfl,hle6,iv,rfl,him⟩;obtain ⟨p6,n6,c6,rfl⟩:=him.form;refine SP.on I (sK 4 zT29 I I I I I sB) (.inl dC) ?_;rintro _ _ _ ⟨rfl,rfl⟩;refine SP.on I (sK 3 zT46 I I I I I sB) (.inl dC) ?_;rintro _ _ _ ⟨rfl,rfl⟩;refine pU I (aS I) (pN (tN (rE ?_)));exact ST.retCCT 4 3 s (.inl I) results16 I I I iT29 zT29 isAgg46 zT46 I I I I uR ⟨I,hle1.trans (hle2.trans (hle3.trans (hle4.trans (hle5.trans hle6)))),_,_,_,_,_,I,(hn5.mono (mns_anti (hle1.trans (hle2.trans (hle3.trans hle4))))).mono (mns_mono hle6),fun _=>⟨I,by rw[show (fun c:Cl=>(c.id,img c.id))=fun c:Cl=>(c.id,imgT ts c.id) from funext fun c=>by rw[himg]]; exact him⟩,fun h=>absurd I h⟩
 ·rw[if_neg hc0] at hcase;obtain ⟨h,rfl⟩:=hcase;have hout:applyOut code B=(code,[]):=if_pos hc0;rw[hout];refine SL.drop (List.sublist_append_right _ _) (aT I (rZ (bW (aL zeroValue29) fun b11=>?_)));refine tZ (sQ (sW I (lU (eQ I I) (tZ ?_))));refine iP I (fun h0=>?_) (fun h0=>?_)
  ·exact absurd h0 hc0
  ·refine kP (tN (sQ (sW I (lU (nQ I I) (tZ ?_)))));refine iP I (fun h2=>?_) (fun h2=>?_)
   ·refine rZ (lU (SU.build I buildE29) (lU (SU.build I buildZ46) (lM I (oZ (sK 2 zT29 I I I I I sB) ?_))));refine oZ (sK 1 zT46 I I I I I sB) ?_;refine aT I (rE (tR ?_));exact ST.retCCT 2 1 s (.inl I) results16 I I I iT29 zT29 isAgg46 zT46 I I I I uR ⟨I,hle1.trans (hle2.trans hle3),_,_,_,_,_,I,CellsK.nil _,fun h=>absurd h hc0,fun _=>⟨I,Ims.nil _⟩⟩
   ·exact absurd hc0 h2
set_option maxHeartbeats 1000000
theorem cells_sorted {l m:List Side}(h:l.Perm m)(hl:l.Pairwise fun a b=>a.cell≤b.cell)(hm:m.Pairwise fun a b=>a.cell≤b.cell):l.map Side.cell=m.map Side.cell:=by
 refine List.Perm.eq_of_pairwise (le:=fun a b:Int=>a≤b) (fun a b _ _ h1 h2=>by omega) ?_ ?_ (h.map _)
 ·rw[List.pairwise_map]; exact hl
 ·rw[List.pairwise_map]; exact hm
def CaC (a b:Cl):Prop:=a.id=b.id∧a.dim=b.dim∧a.sides.Perm b.sides∧a.sides.map Side.cell=b.sides.map Side.cell
theorem find_ca:∀ {L M:List Cl},All2 CaC L M→∀ k,(findT L k).map Cl.dim=(findT M k).map Cl.dim
 | [],[],_,_=>rfl
 | a::L,b::M,h,k=>by
  have ih:=find_ca h.2 k;have h1:=h.1.1;have h2:=h.1.2.1;unfold findT at ih ⊢;rw[List.find?_cons,List.find?_cons,h1];cases hd:decide (b.id=k) with
  | true=>simp[h2]
  | false=>simpa using ih
 | [],_::_,h,_=>h.elim
 | _::_,[],h,_=>h.elim
theorem isSome_ca {L M:List Cl}(h:All2 CaC L M)(k:Int):(findT L k).isSome=(findT M k).isSome:=by
 have h1:=congrArg Option.isSome (find_ca h k);simpa using h1
theorem dim_ca {L M:List Cl}(h:All2 CaC L M)(k:Int):((findT L k).getD zeroC).dim=((findT M k).getD zeroC).dim:=by
 have h1:=find_ca h k;cases h2:findT L k <;> cases h3:findT M k <;> (try rfl)<;>rw[h2,h3] at h1 <;> simp at h1
 exact h1
theorem at_ca {a b:Cl}(h:CaC a b)(i:Nat):a.sides[i]?.map Side.cell=b.sides[i]?.map Side.cell:=by
 have h1:=congrArg (fun l:List Int=>l[i]?) h.2.2.2;simpa using h1
theorem bad_ca {L M:List Cl}(h:All2 CaC L M){a b:Cl}(hab:CaC a b)(i:Nat):badAt L a i=badAt M b i:=by
 have h1:=at_ca hab i;unfold badAt;cases h2:a.sides[i]? with
 | none =>
  cases h3:b.sides[i]? with
  | none=>rfl
  | some y=>rw[h2,h3] at h1; simp at h1
 | some x =>
  cases h3:b.sides[i]? with
  | none=>rw[h2,h3] at h1; simp at h1
  | some y =>
   rw[h2,h3] at h1;have h4:x.cell=y.cell:=by simpa using h1
   show badSide L a i x=badSide M b i y;unfold badSide;rw[h4,isSome_ca h,dim_ca h,hab.2.1,at_ca hab (i - 1)]
theorem form_ca {L M:List Cl}(h:All2 CaC L M){a b:Cl}(hab:CaC a b):formC L a=formC M b:=by
 have hl:a.sides.length=b.sides.length:=hab.2.2.1.length_eq;have h1:dimBad a=dimBad b:=by unfold dimBad; rw[hab.2.1]
 have h2:cntBad a=cntBad b:=by unfold cntBad; rw[hab.2.1,hl]
 have h3:(List.range a.sides.length).any (badAt L a)=(List.range b.sides.length).any (badAt M b):=by
  rw[hl,show badAt L a=badAt M b from funext fun i=>bad_ca h hab i]
 have h4:a.sides.any signBad=b.sides.any signBad:=by
  rw[Bool.eq_iff_iff,List.any_eq_true,List.any_eq_true];exact⟨fun ⟨x,hx,hb⟩=>⟨x,hab.2.2.1.mem_iff.1 hx,hb⟩,fun ⟨x,hx,hb⟩=>⟨x,hab.2.2.1.mem_iff.2 hx,hb⟩⟩
 have h5:sumS a.sides=sumS b.sides:=perm_sumI (hab.2.2.1.map Side.sign);unfold formC;rw[h1,h2,h3,h4,h5,hab.2.1]
theorem chk1_ca {L0 M0:List Cl}(h0:All2 CaC L0 M0):∀ {L M:List Cl},All2 CaC L M→∀ n,chk1 L0 L n=chk1 M0 M n
 | [],[],_,_=>rfl
 | a::L,b::M,h,n=>by
  unfold chk1;rw[h.1.1,form_ca h0 h.1,chk1_ca h0 h.2]
 | [],_::_,h,_=>h.elim
 | _::_,[],h,_=>h.elim
theorem chk1_some {tl:List Cl}:∀ {l:List Cl} {n:Int} {p:Int×Int},chk1 tl l n=some p→p.2≠0
 | [],_,_,h=>by cases h
 | x::r,n,p,h=>by
  unfold chk1 at h;split at h
  ·cases h; exact (by decide:(20:Int)≠0)
  ·split at h
   ·rename_i h1; cases h; exact h1
   ·exact chk1_some h
theorem all2_both {α β α' β':Type}{R:α→β→Prop}{S:α'→β'→Prop}{f:α→α'}{k:β→β'}(hR:∀ a b,R a b→S (f a) (k b)):∀ {l:List α} {m:List β},All2 R l m→All2 S (l.map f) (m.map k)
 | [],[],_=>trivial
 | _::_,_::_,h=>⟨hR _ _ h.1,all2_both hR h.2⟩
 | [],_::_,h=>h.elim
 | _::_,[],h=>h.elim
theorem norm_ca {a b:Cl}(h:ShC a b):CaC (normC a) (normC b):=by
 have hp:(normC a).sides.Perm (normC b).sides:=(sortPerm a.sides).trans (h.2.2.trans (sortPerm b.sides).symm);exact⟨h.1,h.2.1,hp,cells_sorted hp (sortBy_srt a.sides) (sortBy_srt b.sides)⟩
theorem canon_ca {B D:List Cl}(h:ShL B D)(hn:(B.map Cl.id).Nodup):All2 CaC (canonC B) (canonC D):=by
 obtain ⟨l1,hp,ha⟩:=h;have h1:sortBy Cl.id B=sortBy Cl.id l1:=sortBy_uniq hp.symm hn;unfold canonC;rw[h1];exact all2_both (R:=ShC) (S:=CaC) (fun a b h=>norm_ca h) (All2.sortBy (R:=ShC) (f:=Cl.id) (h:=Cl.id) (fun a b h=>h.1) ha)
theorem ids_ca:∀ {L M:List Cl},All2 CaC L M→L.map Cl.id=M.map Cl.id
 | [],[],_=>rfl
 | a::L,b::M,h=>by rw[List.map_cons,List.map_cons,h.1.1,ids_ca h.2]
 | [],_::_,h=>h.elim
 | _::_,[],h=>h.elim
theorem same_ca:∀ {L M:List Cl},All2 CaC L M→(∀ c∈L,c.sides.Pairwise fun a b=>a.cell<b.cell)→L=M
 | [],[],_,_=>rfl
 | a::L,b::M,h,hl=>by
  rw[same_ca h.2 fun c hc=>hl c (by simp[hc])];obtain ⟨⟨h1,h2,h3,h4⟩,-⟩:=h;have ha:=hl a (by simp);have hb:b.sides.Pairwise fun a b=>a.cell<b.cell:=by
   have h5:(a.sides.map Side.cell).Pairwise fun a b=>a<b:=by rw[List.pairwise_map]; exact ha
   rw[h4,List.pairwise_map] at h5;exact h5
  have h6:a.sides=b.sides:=List.Perm.eq_of_pairwise (le:=fun a b:Side=>a.cell<b.cell) (fun a b _ _ h1 h2=>by omega) ha hb h3;congr 1;cases a; cases b;simp at h1 h2 h6;rw[h1,h2,h6]
 | [],_::_,h,_=>h.elim
 | _::_,[],h,_=>h.elim
theorem strict_canon {B:List Cl}(hn:(B.map Cl.id).Nodup):(canonC B).Pairwise fun a b=>a.id<b.id:=by
 have h1:((canonC B).map Cl.id).Nodup:=by
  have:(canonC B).map Cl.id=(sortBy Cl.id B).map Cl.id:=by unfold canonC; rw[List.map_map]; rfl
  rw[this];exact ((sortPerm B).map Cl.id).symm.nodup hn
 rw[List.Nodup,List.pairwise_map] at h1;exact ((canonC_srt B).and h1).imp fun ⟨h2,h3⟩=>by have h2':_≤_:=h2; omega
theorem apply_sh {B D:List Cl}(h:ShL B D)(hn:(B.map Cl.id).Nodup):applyOut 0 B=applyOut 0 D:=by
 have hca:=canon_ca h hn;have hlen:B.length=D.length:=h.length;have hsB:=strict_canon hn;have hsD:(canonC D).Pairwise fun a b=>a.id<b.id:=by
  have h1:((canonC B).map Cl.id).Pairwise fun a b=>a<b:=by rw[List.pairwise_map]; exact hsB
  rw[ids_ca hca,List.pairwise_map] at h1;exact h1
 have htB:=tabC_strict hsB;have htD:=tabC_strict hsD;have h1:chk1 (tabC B) (canonC B) 0=chk1 (tabC D) (canonC D) 0:=by rw[htB,htD]; exact chk1_ca hca hca 0
 by_cases hl:(B.length:Int)>4000
 ·have hB:checkC B=(0,2):=by unfold checkC; rw[if_pos hl]
  have hD:checkC D=(0,2):=by unfold checkC; rw[if_pos oM]
  unfold applyOut;rw[checkC_canon,checkC_canon,hB,hD];rfl
 ·cases hq:chk1 (tabC B) (canonC B) 0 with
  | some p =>
   have hB:checkC B=p:=by unfold checkC; rw[if_neg hl,hq]; rfl
   have hD:checkC D=p:=by unfold checkC; rw[if_neg oM,← h1,hq]; rfl
   have hp:=chk1_some hq;unfold applyOut;rw[checkC_canon,checkC_canon,hB,hD,if_neg (by decide:¬ (0:Int)≠0),if_neg (by decide:¬ (0:Int)≠0),if_pos hp,if_pos hp]
  | none =>
   obtain ⟨-,-,h4⟩:=chk1_none_form hq;have he:canonC B=canonC D:=same_ca hca fun c hc=>(fm_of (h4 c hc) (canon_sides B c hc)).asc;unfold applyOut;rw[he]
theorem Rt.findC {A:List Cl}(h:Rt A)(id:Int):findC A id=findT A id:=by
 unfold Go.Proofs.YtackilpikhkijaaGreatDoor.findC;rw[h.tab];rfl
theorem Rt.ids {A:List Cl}(h:Rt A):(A.map Cl.id).Nodup:=by
 rw[List.Nodup,List.pairwise_map];exact h.asc.imp fun h=>by omega
theorem Rt.few64 {A:List Cl}(h:Rt A){c:Cl}(hc:c∈A):c.sides.length≤64:=(form_ok (h.form c hc).ok).1
theorem Rt.signs {A:List Cl}(h:Rt A){c:Cl}(hc:c∈A):∀ x∈c.sides,x.sign=1∨x.sign = -1:=(h.form c hc).sg
theorem Rt.difS {A:List Cl}(h:Rt A){c:Cl}(hc:c∈A):(c.sides.map Side.cell).Nodup:=by
 rw[List.Nodup,List.pairwise_map];exact (h.form c hc).asc.imp fun h=>by omega
theorem Rt.getD {A:List Cl}(_:Rt A)(id:Int):((findT A id).getD zeroC)=zeroC∨((findT A id).getD zeroC)∈A:=by
 cases h:findT A id with
 | none=>exact .inl rfl
 | some c=>exact .inr (findT_mem h).1
theorem Rt.fits {A:List Cl}(h:Rt A):Fits A:=⟨by have:=h.few; omega,fun c hc=>by have:=h.few64 hc; omega⟩
theorem Rt.mem_above {A:List Cl}(h:Rt A){k id:Int}:id∈aboveC A k↔∃ c∈A,c.id=id∧hasC c k=true:=by
 unfold aboveC;rw[h.tab,List.mem_map];constructor
 ·rintro ⟨c,hc,rfl⟩;obtain ⟨h1,h2⟩:=List.mem_filter.1 hc;exact⟨c,h1,I,h2⟩
 ·rintro ⟨c,h1,rfl,h2⟩;exact⟨c,List.mem_filter.2 ⟨h1,h2⟩,I⟩
theorem Rt.above_nodup {A:List Cl}(h:Rt A)(k:Int):(aboveC A k).Nodup:=by
 unfold aboveC;rw[h.tab];exact (List.filter_sublist.map Cl.id).nodup h.ids
theorem Rt.not_self {A:List Cl}(h:Rt A)(k:Int):k ∉ aboveC A k:=fun hk=>by
 obtain ⟨c,hc,rfl,hh⟩:=h.mem_above.1 hk;unfold hasC at hh;obtain ⟨x,hx,he⟩:=List.any_eq_true.1 hh;obtain ⟨d,hd1,hd2⟩:=(h.form c hc).found x hx;rw[of_decide_eq_true he,h.find hc] at hd1;cases hd1;omega
theorem Rt.edge {A:List Cl}(h:Rt A){c:Cl}(hc:c∈A)(hd:c.dim=1):∃ z0 z1,c.sides=[z0,z1]∧((z0.sign=1∧z1.sign = -1)∨(z0.sign = -1∧z1.sign=1)):=by
 have hf:=h.form c hc;have h1:=hf.cnt;have h2:c.sides.length=2:=by
  unfold cntBad at h1;simp[hd] at h1;omega
 obtain ⟨z0,z1,h3⟩:∃ z0 z1,c.sides=[z0,z1]:=by
  match hs:c.sides,h2 with
  | [z0,z1],_=>exact⟨z0,z1,rfl⟩
 refine⟨z0,z1,h3,?_⟩;have h4:=hf.one hd;have h5:=hf.sg z0 (by rw[h3]; simp);have h6:=hf.sg z1 (by rw[h3]; simp);rw[h3] at h4;simp[sumS] at h4;omega
theorem Rt.above_one {A:List Cl}(h:Rt A){k m:Int}(ha:aboveC A k=[m]):∃ c∈A,c.id=m∧findT A m=some c∧hasC c k=true:=by
 obtain ⟨c,hc,rfl,hh⟩:=h.mem_above.1 (show m∈aboveC A k by rw[ha]; simp);exact⟨c,hc,I,h.find hc,hh⟩
theorem colSides_sg {A:List Cl}(h:Rt A)(e:Ed):∀ x∈colSides A e,x.sign=1∨x.sign = -1:=by
 unfold colSides
 rcases h.getD e.other with h1 | h1
 ·rw[h1]; intro x hx; cases hx
 ·exact h.signs h1
theorem colSides_len {A:List Cl}(h:Rt A)(e:Ed):(colSides A e).length≤64:=by
 unfold colSides
 rcases h.getD e.other with h1 | h1
 ·rw[h1]; decide
 ·exact h.few64 h1
theorem colSides_mem {A:List Cl}(h:Rt A)(e:Ed)(ha:aboveC A e.cell=[e.other]):(colSides A e).any (fun x=>decide (x.cell=e.cell))=true:=by
 obtain ⟨c,hc,hi,hf,hh⟩:=h.above_one ha;unfold colSides;rw[hf];exact hh
theorem sg_none {cell:Int}:∀ {S:List Side} (a:Int),(∀ x∈S,x.cell≠cell)→S.foldl (fun a x=>if x.cell=cell then x.sign else a) a=a
 | [],_,_=>rfl
 | x::S,a,h=>by
  rw[List.foldl_cons,if_neg (h x (by simp))];exact sg_none a fun y hy=>h y (by simp[hy])
theorem erase_fil {cell:Int}:∀ {S:List Side},(S.map Side.cell).Nodup→S.any (fun x=>decide (x.cell=cell))=true→S.eraseIdx (S.findIdx fun x=>decide (x.cell=cell))=S.filter (fun x=>!decide (x.cell=cell))∧colSign S (S.findIdx fun x=>decide (x.cell=cell))=sgF S cell
 | [],_,h=>by cases h
 | x::S,hn,h=>by
  rw[List.map_cons,List.nodup_cons] at hn;rw[List.findIdx_cons];by_cases hx:x.cell=cell
  ·have hno:∀ y∈S,y.cell≠cell:=fun y hy e=>hn.1 (List.mem_map.2 ⟨y,hy,by rw[e,hx]⟩);have h1:S.filter (fun x=>!decide (x.cell=cell))=S:=List.filter_eq_self.2 fun y hy=>by simp[hno y hy]
   rw[decide_eq_true hx];refine⟨by simp[hx,h1],?_⟩;show x.sign=_;unfold sgF;rw[List.foldl_cons,if_pos hx,sg_none _ hno]
  ·have h1:S.any (fun x=>decide (x.cell=cell))=true:=by simpa [hx] using h
   obtain ⟨h2,h3⟩:=erase_fil hn.2 h1;rw[decide_eq_false hx];refine⟨?_,?_⟩
   ·simp[hx,h2]
   ·have h4:sgF (x::S) cell=sgF S cell:=by unfold sgF; rw[List.foldl_cons,if_neg hx]
    rw[h4,← h3];simp[colSign]
theorem colChain_eq {A:List Cl}(h:Rt A)(e:Ed)(ha:aboveC A e.cell=[e.other]):sortBy Prod.fst (colChain A e)=refColChain A e:=by
 have hmem:=colSides_mem h e ha;obtain ⟨c,hc,hi,hf,hh⟩:=h.above_one ha;have hS:colSides A e=c.sides:=by unfold colSides; rw[hf]; rfl
 have hR:refColChain A e=(c.sides.filter fun x=>!decide (x.cell=e.cell)).map fun x=>(x.cell,-sgF c.sides e.cell * x.sign):=by unfold refColChain; rw[h.findC,hf]; rfl
 rw[hS] at hmem;obtain ⟨h1,h2⟩:=erase_fil (h.difS hc) hmem;have hC:colChain A e=refColChain A e:=by
  rw[hR];unfold colChain;rw[hS,h1,h2]
 rw[hC];refine (eq_sortBy ?_ (Stab.refl _)).symm;rw[hR];unfold Srt;rw[List.pairwise_map];exact ((h.form c hc).asc.sublist List.filter_sublist).imp fun h=>by dsimp only; omega
def colImg (A:List Cl)(e:Ed)(k:Int):List Tm:=if k=e.cell then refColChain A e else if k=e.other then [] else [(k,1)]
theorem colImg_prog {A:List Cl}(h:Rt A)(e:Ed)(ha:aboveC A e.cell=[e.other])(v1 v2:Value)(k:Int):imgT [(e.cell,v1,colChain A e),(e.other,v2,[])] k=colImg A e k:=by
 unfold imgT colImg;by_cases h1:k=e.cell
 ·subst h1;rw[if_pos rfl,List.find?_cons_of_pos (by simp)];exact colChain_eq h e ha
 ·rw[if_neg h1,List.find?_cons_of_neg (by simpa using fun e=>h1 e.symm)];by_cases h2:k=e.other
  ·subst h2;rw[if_pos rfl,List.find?_cons_of_pos (by simp)];rfl
  ·rw[if_neg h2,List.find?_cons_of_neg (by simpa using fun e=>h2 e.symm)];rfl
theorem moreS_one {e:Ed}:∀ {S:List Side},(S.map Side.cell).Nodup→moreS e S=if S.any (fun x=>decide (x.cell=e.cell)) then [⟨e.other,sgnS S e.cell⟩] else []
 | [],_=>rfl
 | x::S,hn=>by
  rw[List.map_cons,List.nodup_cons] at hn;by_cases hx:x.cell=e.cell
  ·have hno:∀ y∈S,y.cell≠e.cell:=fun y hy e'=>hn.1 (List.mem_map.2 ⟨y,hy,by rw[e',hx]⟩);have h1:S.filter (fun x=>decide (x.cell=e.cell))=[]:=List.filter_eq_nil_iff.2 fun y hy=>by simp[hno y hy]
   unfold moreS sgnS;simp[hx,h1]
  ·have ih:=moreS_one (e:=e) hn.2;unfold moreS sgnS at ih ⊢;simp[hx] at ih ⊢;exact ih
theorem putC_map {c:Cl}:∀ {B:List Cl},(B.map Cl.id).Nodup→(∃ x∈B,x.id=c.id)→putC B c=B.map fun y=>if y.id=c.id then c else y
 | [],_,⟨x,hx,_⟩=>by cases hx
 | x::B,hn,hx=>by
  rw[List.map_cons,List.nodup_cons] at hn;unfold putC;by_cases h1:c.id=x.id
  ·rw[if_pos h1,List.map_cons,if_pos h1.symm];congr 1;have:B.map (fun y=>if y.id=c.id then c else y)=B.map id:=List.map_congr_left fun y hy=>by
    rw[if_neg fun e=>hn.1 (List.mem_map.2 ⟨y,hy,by rw[e,h1]⟩)];rfl
   rw[this,List.map_id]
  ·rw[if_neg h1,List.map_cons,if_neg fun e=>h1 e.symm];congr 1;refine putC_map hn.2 ?_;obtain ⟨y,hy,he⟩:=hx
   rcases List.mem_cons.1 hy with rfl | hy
   ·exact absurd he.symm h1
   ·exact⟨y,hy,he⟩
theorem findT_no {A:List Cl}{k:Int}(h:(findT A k).isSome=false):∀ x∈A,x.id≠k:=fun x hx he=>by
 have h1:(findT A k).isSome=true:=by
  unfold findT;rw[List.find?_isSome];exact⟨x,hx,by simpa using he⟩
 rw[h] at h1;cases h1
theorem ends_are {S:List Side}{z0 z1:Side}(hl:S=[z0,z1])(h:(z0.sign=1∧z1.sign = -1)∨(z0.sign = -1∧z1.sign=1)):endS S true=⟨(endS S true).cell,1⟩∧endS S false=⟨(endS S false).cell,-1⟩:=by
 subst hl;obtain ⟨c0,s0⟩:=z0;obtain ⟨c1,s1⟩:=z1
 rcases h with ⟨h0,h1⟩ | ⟨h0,h1⟩ <;> dsimp only at h0 h1 <;> subst h0 <;> subst h1 <;> exact⟨rfl,rfl⟩
theorem splitOut_eq {A:List Cl}(h:Rt A)(e:Ed)(hc:splitCode A e=0):splitOut A e=A.map (refSplitCell e (endS ((findC A e.cell).getD zeroC).sides false).cell)++[⟨e.new,0,[]⟩,⟨e.other,1,[⟨e.new,-1⟩,⟨(endS ((findC A e.cell).getD zeroC).sides true).cell,1⟩]⟩]:=by
 rw[h.findC];unfold splitCode at hc;cases hf:findT A e.cell with
 | none=>rw[hf] at hc; cases hc
 | some c =>
 rw[hf] at hc;dsimp only at hc;split at hc
 ·cases hc
 rename_i hd;split at hc
 ·cases hc
 rename_i hnew;split at hc
 ·cases hc
 rename_i hno;rw[Bool.or_eq_true,not_or,Bool.not_eq_true,Bool.not_eq_true] at hno;have hd:c.dim=1:=Decidable.not_not.1 hd;obtain ⟨hcA,hci⟩:=findT_mem hf;obtain ⟨z0,z1,hz,hsg⟩:=h.edge hcA hd;obtain ⟨e1,e2⟩:=ends_are hz hsg;unfold splitOut;rw[hf,Option.getD_some];generalize endS c.sides true=zt at *;generalize endS c.sides false=zf at *;have hids:(splitAt A e (aboveC A e.cell)).map Cl.id=A.map Cl.id:=by
  unfold splitAt;rw[List.map_map];refine List.map_congr_left fun y _=>?_;show (if y.id∈aboveC A e.cell then withEd e y else y).id=y.id;split <;> rfl
 have hmemid:∀ k,(∃ x∈splitAt A e (aboveC A e.cell),x.id=k)→∃ x∈A,x.id=k:=fun k ⟨x,hx,he⟩=>by
  have h1:k∈(splitAt A e (aboveC A e.cell)).map Cl.id:=List.mem_map.2 ⟨x,hx,he⟩;rw[hids] at h1;obtain ⟨y,hy,he⟩:=List.mem_map.1 h1;exact⟨y,hy,he⟩
 have hno1:=findT_no hno.1;have hno2:=findT_no hno.2;have hp1:putC (splitAt A e (aboveC A e.cell)) ⟨e.new,0,[]⟩=splitAt A e (aboveC A e.cell)++[⟨e.new,0,[]⟩]:=putC_new fun x hx he=>by
  obtain ⟨y,hy,he⟩:=hmemid e.new ⟨x,hx,he⟩;exact hno1 y hy he
 have hp2:putC (splitAt A e (aboveC A e.cell)++[⟨e.new,0,[]⟩]) ⟨e.other,1,[⟨e.new,-1⟩,zt]⟩=(splitAt A e (aboveC A e.cell)++[⟨e.new,0,[]⟩])++[⟨e.other,1,[⟨e.new,-1⟩,zt]⟩]:=putC_new fun x hx he=>by
  rcases List.mem_append.1 hx with hx | hx
  ·obtain ⟨y,hy,he⟩:=hmemid e.other ⟨x,hx,he⟩;exact hno2 y hy he
  ·simp at hx;subst hx;exact hnew (.inr he)
 have hcn:e.cell≠e.new:=fun he=>hno1 c hcA (by rw[hci,he]);have hco:e.cell≠e.other:=fun he=>hno2 c hcA (by rw[hci,he]);have hnd:(((splitAt A e (aboveC A e.cell)++[(⟨e.new,0,[]⟩:Cl)])++[(⟨e.other,1,[⟨e.new,-1⟩,zt]⟩:Cl)]).map Cl.id).Nodup:=by
  rw[← hp2,← hp1];exact putC_nodup (putC_nodup (by rw[hids]; exact h.ids))
 rw[hp1,hp2,putC_map hnd]
 ·rw[List.map_append,List.map_append,List.append_assoc];congr 1
  ·unfold splitAt;rw[List.map_map];refine List.map_congr_left fun y hy=>?_;show (if (if y.id∈aboveC A e.cell then withEd e y else y).id=e.cell then _ else _)=_;have hyi:(if y.id∈aboveC A e.cell then withEd e y else y).id=y.id:=by split <;> rfl
   rw[hyi];unfold refSplitCell;by_cases h1:y.id=e.cell
   ·have hyc:y=c:=h.same hy hcA (by rw[h1,hci]);subst hyc;rw[if_pos h1,if_pos h1,h1,hd,e2]
   ·rw[if_neg h1,if_neg h1,moreS_one (h.difS hy)];by_cases h2:hasC y e.cell=true
    ·have h3:y.id∈aboveC A e.cell:=h.mem_above.2 ⟨y,hy,rfl,h2⟩;unfold hasC at h2;rw[if_pos h3,if_pos h2];rfl
    ·have h3:y.id ∉ aboveC A e.cell:=fun h4=>by
      obtain ⟨z,hz,he,hh⟩:=h.mem_above.1 h4;rw[h.same hz hy he] at hh;exact h2 hh
     unfold hasC at h2;rw[if_neg h3,if_neg h2,List.append_nil]
  ·simp only[List.map_cons,List.map_nil,List.cons_append,List.nil_append];rw[if_neg (by exact fun he=>hcn he.symm),if_neg (by exact fun he=>hco he.symm),e1]
 ·have h1:e.cell∈(splitAt A e (aboveC A e.cell)).map Cl.id:=by
   rw[hids];exact List.mem_map.2 ⟨c,hcA,hci⟩
  obtain ⟨x,hx,he⟩:=List.mem_map.1 h1;exact (by exact⟨x,List.mem_append_left _ (List.mem_append_left _ hx),he⟩)
theorem ShC.refl (c:Cl):ShC c c:=⟨rfl,rfl,.refl _⟩
theorem split_sh {A:List Cl}(h:Rt A)(e:Ed)(hc:splitCode A e=0):ShL (splitOut A e) (refSplitOut A e):=by
 refine⟨refSplitOut A e,?_,?_⟩
 ·rw[splitOut_eq h e hc];exact List.perm_append_comm
 ·have:∀ l:List Cl,All2 ShC l l:=fun l=>by
   induction l with
   | nil=>trivial
   | cons x l ih=>exact⟨ShC.refl x,ih⟩
  exact this _
theorem splitOut_nodup {A:List Cl}(h:Rt A)(e:Ed):((splitOut A e).map Cl.id).Nodup:=by
 unfold splitOut;have hids:(splitAt A e (aboveC A e.cell)).map Cl.id=A.map Cl.id:=by
  unfold splitAt;rw[List.map_map];refine List.map_congr_left fun y _=>?_;show (if y.id∈aboveC A e.cell then withEd e y else y).id=y.id;split <;> rfl
 exact putC_nodup (putC_nodup (putC_nodup (by rw[hids]; exact h.ids)))
def splitImg (e:Ed)(k:Int):List Tm:=if k=e.cell then refSplitChain e else [(k,1)]
theorem splitImg_prog (e:Ed)(v1:Value)(k:Int):imgT [(e.cell,v1,[(e.cell,1),(e.other,1)])] k=splitImg e k:=by
 unfold imgT splitImg refSplitChain;by_cases h1:k=e.cell
 ·subst h1;rw[if_pos rfl,List.find?_cons_of_pos (by simp)];show sortBy Prod.fst [(e.cell,(1:Int)),(e.other,1)]=_;simp only[sortBy,ins];by_cases h2:e.other<e.cell
  ·rw[if_pos h2,if_neg oM]
  ·rw[if_neg h2,if_pos oM]
 ·rw[if_neg h1,List.find?_cons_of_neg (by simpa using fun e=>h1 e.symm)];rfl
theorem ident_sh (A:List Cl)(e:Ed):ShL (identOut A e) (refIdentOut A e):=by
 refine⟨identOut A e,.refl _,?_⟩;unfold identOut refIdentOut;have:restR A (e.pairs.map Prod.snd)=restC A (e.pairs.map Prod.snd):=rfl;rw[this];generalize restC A (e.pairs.map Prod.snd)=l;induction l with
 | nil=>trivial
 | cons c l ih=>exact⟨⟨rfl,rfl,srtS_perm _⟩,ih⟩
theorem identOut_nodup {A:List Cl}(h:Rt A)(e:Ed):((identOut A e).map Cl.id).Nodup:=by
 unfold identOut;rw[List.map_map];have:(Cl.id ∘ repC (byF e.pairs))=Cl.id:=rfl;rw[this];exact (List.filter_sublist.map Cl.id).nodup h.ids
set_option maxHeartbeats 2000000
def codeK (A:List Cl)(e:Ed):Int:=if e.kind=1 then attachCode A e else if e.kind=2 then removeCode A e else if e.kind=3 then splitCode A e else if e.kind=4 then identCode A e else if e.kind=5 then colCode A e else 1
def cellsK (A:List Cl)(e:Ed):List Cl:=if e.kind=1 then A++[⟨e.cell,e.dim,e.sides⟩] else if e.kind=2 then restR A [e.cell] else if e.kind=3 then refSplitOut A e else if e.kind=4 then refIdentOut A e else restR A [e.cell,e.other]
def imgK (A:List Cl)(e:Ed)(k:Int):List Tm:=if e.kind=3 then splitImg e k else if e.kind=4 then identImg e k else if e.kind=5 then colImg A e k else [(k,1)]
def bkK (e:Ed):Bool:=decide (e.kind=2)
def appC (l:List Cl)(e:Ed):Int×List Cl:=if (checkC l).2=0 then applyOut (codeK (canonC l) e) (cellsK (canonC l) e) else (1,[])
def imsC (l:List Cl)(e:Ed):List (Int×List Tm):=(if bkK e then (appC l e).2 else canonC l).map fun c=>(c.id,imgK (canonC l) e c.id)
theorem restR_two {A:List Cl}(hn:(A.map Cl.id).Nodup)(a b:Int):delC (delC A a) b=restR A [a,b]:=by
 have h0:A=restC A []:=(List.filter_eq_self.2 fun _ _=>by simp).symm;have h1:delC A a=restC A [a]:=by
  have:=restC_del hn [] a;rw[← h0] at this;exact this
 rw[h1,restC_del hn];rfl
theorem restR_one {A:List Cl}(hn:(A.map Cl.id).Nodup)(a:Int):delC A a=restR A [a]:=by
 have h0:A=restC A []:=(List.filter_eq_self.2 fun _ _=>by simp).symm;have:=restC_del hn [] a;rw[← h0] at this;exact this
theorem restR_ids {A:List Cl}(hn:(A.map Cl.id).Nodup)(ks:List Int):((restR A ks).map Cl.id).Nodup:=(List.filter_sublist.map Cl.id).nodup hn
theorem split_fits {A:List Cl}(h:Rt A)(e:Ed)(hc:splitCode A e=0):Fits (splitOut A e):=by
 rw[splitOut_eq h e hc];have hl:=h.few;refine⟨by simp only[List.length_append,List.length_map,List.length_cons,List.length_nil]; omega,fun c hc=>?_⟩
 rcases List.mem_append.1 hc with hc | hc
 ·obtain ⟨y,hy,rfl⟩:=List.mem_map.1 hc;have h1:=h.few64 hy;have h2:(moreS e y.sides).length≤y.sides.length:=by unfold moreS; rw[List.length_map]; exact List.length_filter_le _ _
  unfold refSplitCell;split
  ·simp
  ·simp only[List.length_append]; omega
 ·simp at hc
  rcases hc with rfl | rfl <;> simp
theorem ident_fits {A:List Cl}(hf:Fits A)(e:Ed):Fits (identOut A e):=by
 refine⟨?_,fun c hc=>?_⟩
 ·unfold identOut;rw[List.length_map];exact Nat.lt_of_le_of_lt (List.length_filter_le _ _) hf.1
 ·unfold identOut at hc;obtain ⟨y,hy,rfl⟩:=List.mem_map.1 hc;have h1:=hf.2 y (List.mem_filter.1 hy).1;show (srtS (y.sides.map (repS (byF e.pairs)))).length<_;rw[(srtS_perm _).length_eq,List.length_map];exact h1
theorem split_run {A:List Cl}(hA:Rt A)(e:Ed):KindRunX (.func (.func 80) #[] #[]) e A (splitCode A e) (splitOut A e) (splitImg e) false:=by
 intro E g s bx mb ms u v rs hu hO hv;refine CallV.mk (args:=[_,_]) (cap:=[]) call80 ?_;refine (split_spec E g s bx mb ms u v e A rs hu hA.fits hA.ids hO hv ?_ (hA.above_nodup _) (hA.not_self _) ?_).mono ?_
 ·intro id hid;obtain ⟨c,hc,rfl,hh⟩:=hA.mem_above.1 hid;exact⟨c,hA.find hc,hh,hA.few64 hc⟩
 ·intro c hc hd;exact hA.edge (findT_mem hc).1 hd
 ·rintro r g' s' ⟨h1,h2,h3⟩;refine⟨h1,h2,?_⟩;by_cases h0:splitCode A e=0
  ·rw[if_pos h0] at h3 ⊢;obtain ⟨rs',v1,p,n,c,hv1,h4,rfl⟩:=h3;have hne:e.cell≠e.other:=fun he=>by
    unfold splitCode at h0;cases hf:findT A e.cell with
    | none=>rw[hf] at h0; cases h0
    | some c =>
     rw[hf] at h0;rw[he] at hf;rw[hf] at h0;dsimp only at h0;split at h0
     ·cases h0
     ·split at h0
      ·cases h0
      ·simp at h0
   refine⟨rs',_,h4,?_,by simp,splitImg_prog e v1,I⟩;intro t ht;simp at ht;subst ht;exact⟨by simp,by simpa using hne,p,n,c,hv1⟩
  ·rw[if_neg h0] at h3 ⊢;exact h3
theorem ident_run {A:List Cl}(hA:Rt A)(e:Ed)(hpl:e.pairs.length<1099511627776):KindRunX (.func (.func 81) #[] #[]) e A (identCode A e) (identOut A e) (identImg e) false:=by
 intro E g s bx mb ms u v rs hu hO hv;refine CallV.mk (args:=[_,_]) (cap:=[]) call81 ?_;refine Ctr.freezeO (L:=[edP bx u mb ms false,mp mb (rs.map rcPair),mp ms []]) hO fun g1 hle1 hall=>?_;refine (identify_spec E g1 s bx mb ms u v e A rs hA.fits hA.ids hall (hv.mono hle1) hpl).mono ?_;rintro r g' s' ⟨h1,h2,h3⟩;exact⟨hle1.trans h1,h2,h3⟩
theorem col_run {A:List Cl}(hA:Rt A)(e:Ed):KindRunX (.func (.func 82) #[] #[]) e A (colCode A e) (delC (delC A e.cell) e.other) (colImg A e) false:=by
 intro E g s bx mb ms u v rs hu hO hv;refine CallV.mk (args:=[_,_]) (cap:=[]) call82 ?_;refine Ctr.freezeO (L:=[edP bx u mb ms false,mp mb (rs.map rcPair),mp ms []]) hO fun g1 hle1 hall=>?_;refine (collapse_spec E g1 s bx mb ms u v e A rs (hu.mono hle1) hA.fits hall (hv.mono hle1) (colSides_sg hA e) (colSides_len hA e) (colSides_mem hA e)).mono ?_;rintro r g' s' ⟨h1,h2,h3⟩;refine⟨hle1.trans h1,h2,?_⟩;by_cases h0:colCode A e=0
 ·rw[if_pos h0] at h3 ⊢;obtain ⟨v1,p,n,c,hv1,rfl⟩:=h3;have ha:aboveC A e.cell=[e.other]:=by
   unfold colCode at h0;split at h0
   ·split at h0
    ·rename_i h; exact h.1
    ·cases h0
   ·cases h0
  obtain ⟨cy,hcy,hi,hf,hh⟩:=hA.above_one ha;have hne:e.cell≠e.other:=fun he=>by
   have:=hA.not_self e.cell;rw[ha,he] at this;exact this (by simp)
  refine⟨delR (delR rs e.cell) e.other,_,((all2_del (fun _ _ h=>h.1) e.other (all2_del (fun _ _ h=>h.1) e.cell hall)).mono fun _ _=>CellR.mono h1),?_,?_,colImg_prog hA e ha v1 (.slice none 0 0),I⟩
  ·intro t ht;simp at ht
   rcases ht with rfl | rfl
   ·have hS:colSides A e=cy.sides:=by unfold colSides; rw[hf]; rfl
    have h64:=colSides_len hA e;refine⟨?_,?_,p,n,c,hv1⟩
    ·show (colChain A e).length<_;unfold colChain;rw[List.length_map];have:=List.length_eraseIdx_le (colSides A e) ((colSides A e).findIdx fun x=>decide (x.cell=e.cell));omega
    ·show ((colChain A e).map Prod.fst).Nodup;unfold colChain;rw[List.map_map];have hs:((colSides A e).eraseIdx ((colSides A e).findIdx fun x=>decide (x.cell=e.cell))).Sublist (colSides A e):=List.eraseIdx_sublist _ _;refine (hs.map Side.cell).nodup ?_;rw[hS];exact hA.difS hcy
   ·exact⟨by simp,List.nodup_nil,none,0,0,I⟩
  ·simpa using hne
 ·rw[if_neg h0] at h3 ⊢;exact h3
theorem attach_new {A:List Cl}{e:Ed}(h:attachCode A e=0):putC A ⟨e.cell,e.dim,e.sides⟩=A++[⟨e.cell,e.dim,e.sides⟩]:=by
 refine putC_new fun x hx hxe=>?_;unfold attachCode at h;have h1:(findT A e.cell).isSome=true:=by
  unfold findT;rw[List.find?_isSome];exact⟨x,hx,by simpa using hxe⟩
 rw[h1] at h;cases h
theorem kind_run {A:List Cl}(hA:Rt A)(e:Ed)(hes:e.sides.length<1099511627776)(hpl:e.pairs.length<1099511627776)(hk:e.kind=1∨e.kind=2∨e.kind=3∨e.kind=4∨e.kind=5) :
  ∃ fv B,mget kindsM e.kind=some fv∧KindRunX fv e A (codeK A e) B (imgK A e) (bkK e)∧(codeK A e=0→Fits B∧(B.map Cl.id).Nodup∧applyOut 0 B=applyOut 0 (cellsK A e)):=by
 unfold codeK imgK bkK cellsK;have hs:(fun k:Int=>[(k,(1:Int))])=selfI:=rfl
 rcases hk with hk | hk | hk | hk | hk <;> simp only[hk] <;> simp only[Int.reduceEq,if_true,if_false,decide_true,decide_false]
 ·refine⟨_,putC A ⟨e.cell,e.dim,e.sides⟩,I,(attach_run A e hes).gen,fun h0=>?_⟩;have hB:=attach_new h0;refine⟨?_,putC_nodup hA.ids,by rw[hB]⟩;rw[hB];have hl:=hA.few;refine⟨by rw[List.length_append,List.length_singleton]; omega,fun c hc=>?_⟩
  rcases List.mem_append.1 hc with hc | hc
  ·exact hA.fits.2 c hc
  ·simp at hc; subst hc; exact hes
 ·refine⟨_,delC A e.cell,I,(remove_run A hA.fits e).gen,fun h0=>?_⟩;rw[restR_one hA.ids];exact⟨restR_fits hA.fits _,restR_ids hA.ids _,I⟩
 ·refine⟨_,splitOut A e,I,split_run hA e,fun h0=>?_⟩;exact⟨split_fits hA e h0,splitOut_nodup hA e,apply_sh (split_sh hA e h0) (splitOut_nodup hA e)⟩
 ·refine⟨_,identOut A e,I,ident_run hA e hpl,fun h0=>?_⟩;exact⟨ident_fits hA.fits e,identOut_nodup hA e,apply_sh (ident_sh A e) (identOut_nodup hA e)⟩
 ·refine⟨_,delC (delC A e.cell) e.other,I,col_run hA e,fun h0=>?_⟩;rw[restR_two hA.ids];exact⟨restR_fits hA.fits _,restR_ids hA.ids _,I⟩
theorem no_kind {e:Ed}(hk:¬ (e.kind=1∨e.kind=2∨e.kind=3∨e.kind=4∨e.kind=5)):mget kindsM e.kind=none:=by
 unfold kindsM;simp only[mget_cons,mget_nil]
 repeat' rw[if_neg oM]
theorem codeK_none {A:List Cl}{e:Ed}(hk:¬ (e.kind=1∨e.kind=2∨e.kind=3∨e.kind=4∨e.kind=5)):codeK A e=1:=by
 unfold codeK;rw[if_neg oM,if_neg oM,if_neg oM,if_neg oM,if_neg oM]
theorem RefAppN.congr {g0:PH}{code:Int}{D:List Cl}{ims ims':List (Int×List Tm)}{bk bk':Bool}{r:Value}{g:PH}(h:RefAppN g0 code D ims bk r g)(hi:code=0→ims=ims')(hb:code=0→bk=bk'):RefAppN g0 code D ims' bk' r g:=by
 obtain ⟨u,p,n,c,b,h1,h2,h3,h4⟩:=h;refine⟨u,p,n,c,b,h1,h2,fun h0=>?_,h4⟩;obtain ⟨h5,h6⟩:=h3 h0;rw[hi h0] at h6;exact⟨h5.trans (hb h0),h6⟩
theorem prog_applyN (E:World)(g:PH)(s:Own)(v ev:Value)(l:List Cl)(e:Ed)(hv:Cells g v l)(hf:Fits l)(he:EdR g ev e)(hes:e.sides.length<1099511627776)(hpl:e.pairs.length<1099511627776) :
  Ctr Tryz.prog E 16 #[.agg #[v],ev] g s (fun r g' s'=>s=s'∧Le g g'∧RefAppN g (appC l e).1 (appC l e).2 (imsC l e) (bkK e) r g'):=by
 by_cases hr:(checkC l).2=0
 ·have hA:=rt_of hr;have hap:appC l e=applyOut (codeK (canonC l) e) (cellsK (canonC l) e):=if_pos hr;by_cases hk:e.kind=1∨e.kind=2∨e.kind=3∨e.kind=4∨e.kind=5
  ·obtain ⟨fv,B,h1,h2,h3⟩:=kind_run hA e hes hpl hk;have hout:applyOut (codeK (canonC l) e) B=appC l e:=by
    rw[hap];by_cases h0:codeK (canonC l) e=0
    ·rw[h0]; exact (h3 h0).2.2
    ·unfold applyOut; rw[if_pos h0,if_pos h0]
   have h4:=apply_genN E g s v ev l e hv hf he hr fv (codeK (canonC l) e) B (bkK e) h1 (imgK (canonC l) e) h2 (fun h0=>⟨(h3 h0).1,(h3 h0).2.1⟩);refine h4.mono fun r g' s' ⟨h5,h6,h7⟩=>⟨h5,h6,?_⟩;rw[hout] at h7;refine h7.congr (fun h0=>?_) fun _=>I;have h8:canonC B=(appC l e).2:=by
    rw[← hout] at h0 ⊢;unfold applyOut at h0 ⊢;split at h0
    ·rename_i hh; exact absurd h0 hh
    ·rename_i hh;rw[if_neg hh];split at h0
     ·rename_i hh2; exact absurd h0 hh2
     ·rename_i hh2; rw[if_neg hh2]
   unfold imsC;rw[h8]
  ·have hc1:=codeK_none (A:=canonC l) hk;have hout:appC l e=(1,[]):=by rw[hap,hc1]; rfl
   rw[hout];exact apply_badN E g s v ev l e hv hf he _ _ (.inl (no_kind hk))
 ·have hout:appC l e=(1,[]):=if_neg hr;rw[hout];exact apply_badN E g s v ev l e hv hf he _ _ (.inr hr)
theorem prog_apply (E:World)(g:PH)(s:Own)(v ev:Value)(l:List Cl)(e:Ed)(hv:Cells g v l)(hf:Fits l)(he:EdR g ev e)(hes:e.sides.length<1099511627776)(hpl:e.pairs.length<1099511627776) :
  Ctr Tryz.prog E 16 #[.agg #[v],ev] g s (fun r g' s'=>s=s'∧Le g g'∧RefAppR (appC l e).1 (appC l e).2 (imsC l e) (bkK e) r g') :=
 (prog_applyN E g s v ev l e hv hf he hes hpl).mono fun _ _ _ ⟨h1,h2,h3⟩=>⟨h1,h2,h3.old⟩
theorem applyOut_rt {code:Int}{B:List Cl}(h:(applyOut code B).1=0):Rt (applyOut code B).2∧code=0∧(applyOut code B).2=canonC B:=by
 unfold applyOut at h ⊢;split at h
 ·rename_i h1; exact absurd h h1
 ·rename_i h1;rw[if_neg h1];split at h
  ·rename_i h2; exact absurd h h2
  ·rename_i h2;rw[if_neg h2];have h3:=rt_of (Decidable.not_not.1 h2);rw[canonC_idem] at h3;exact⟨h3,Decidable.not_not.1 h1,I⟩
theorem appC_rt {l:List Cl}{e:Ed}(h:(appC l e).1=0):Rt (appC l e).2∧(checkC l).2=0∧codeK (canonC l) e=0∧(appC l e).2=canonC (cellsK (canonC l) e):=by
 unfold appC at h ⊢;split at h
 ·rename_i h1;rw[if_pos h1];obtain ⟨h2,h3,h4⟩:=applyOut_rt h;exact⟨h2,h1,h3,h4⟩
 ·cases h
theorem appC_bad {l:List Cl}{e:Ed}(h:(appC l e).1≠0):(appC l e).2=[]:=by
 unfold appC at h ⊢;split at h
 ·rename_i h1;rw[if_pos h1];unfold applyOut at h ⊢;split at h
  ·rename_i h2; rw[if_pos h2]
  ·rename_i h2;rw[if_neg h2];split at h
   ·rename_i h3; rw[if_pos h3]
   ·exact absurd I h
 ·rename_i h1; rw[if_neg h1]
theorem appC_fits (l:List Cl)(e:Ed):Fits (appC l e).2:=by
 by_cases h:(appC l e).1=0
 ·exact (appC_rt h).1.fits
 ·rw[appC_bad h]; exact⟨by simp,by simp⟩
theorem appC_few (l:List Cl)(e:Ed):(appC l e).2.length≤4000:=by
 by_cases h:(appC l e).1=0
 ·exact (appC_rt h).1.few
 ·rw[appC_bad h]; simp
theorem Tryz.sty67:STy Tryz.prog 67 46 2 32 (.agg #[.slice none 0 0,vb false]):=⟨underlying67,⟨t46,by kernel_rfl,by kernel_rfl,by kernel_rfl,by kernel_rfl⟩,rfl,by decide⟩
theorem Tryz.sty63:STy Tryz.prog 63 35 7 88 (.agg #[vi 0,vi 0,vi 0,vi 0,vi 0,.slice none 0 0,.slice none 0 0]):=⟨underlying63,⟨t35,by kernel_rfl,by kernel_rfl,by kernel_rfl,by kernel_rfl⟩,rfl,by decide⟩
structure Er where
 kind:Int
 cell:Int
 dim:Int
 new:Int
 other:Int
 sv:Sv
 pv:Sv
def encEd:Enc Er 7:=⟨fun r=>[vi r.kind,vi r.cell,vi r.dim,vi r.new,vi r.other,.slice r.sv.p r.sv.n r.sv.c,.slice r.pv.p r.pv.n r.pv.c],fun _=>rfl,fun _ u hu=>by simp at hu; rcases hu with rfl | rfl | rfl | rfl | rfl | rfl | rfl <;> rfl,by decide⟩
def erv (r:Er):Value:=.agg (encEd.enc r).toArray
def EdK (g:PH)(e:Ed)(r:Er):Prop:=EdR g (erv r) e
theorem EdK.mono {g g':PH}(hl:Le g g'){e:Ed}{r:Er}(h:EdK g e r):EdK g' e r:=EdR.mono h hl
def EdS (e:Ed):Prop:=e.sides.length<1099511627776∧e.pairs.length≤3
def Eds (g:PH)(v:Value)(l:List Ed):Prop:=∃ rs,SlA encEd g v rs∧All2 (EdK g) l rs
structure Sr where
 sv:Sv
 bk:Bool
abbrev Stp:=List (Int×List Tm)×Bool
def encSt:Enc Sr 2:=⟨fun r=>[.slice r.sv.p r.sv.n r.sv.c,vb r.bk],fun _=>rfl,fun _ u hu=>by simp at hu; rcases hu with rfl | rfl <;> rfl,by decide⟩
def srv (r:Sr):Value:=.agg (encSt.enc r).toArray
def StK (g:PH)(x:Stp)(r:Sr):Prop:=r.bk=x.2∧Ims g (.slice r.sv.p r.sv.n r.sv.c) x.1
theorem StK.mono {g g':PH}(hl:Le g g'){x:Stp}{r:Sr}(h:StK g x r):StK g' x r:=⟨h.1,h.2.mono hl⟩
def Sts (g:PH)(v:Value)(l:List Stp):Prop:=∃ rs,SlA encSt g v rs∧All2 (StK g) l rs
theorem Sts.form {g:PH}{v:Value}{l:List Stp}(h:Sts g v l):∃ p c,v = .slice p l.length c:=by
 obtain ⟨rs,h1,h2⟩:=h;rw[h2.length];exact SlA.form h1
theorem Sts.nil (g:PH):Sts g (.slice none 0 0) []:=⟨[],Sl.nil g _,trivial⟩
def imO (l:List Cl)(e:Ed):Stp:=if (appC l e).1=0 then (imsC l e,bkK e) else ([],false)
theorem RefAppR.one {l:List Cl}{e:Ed}{r:Value}{g:PH}(h:RefAppR (appC l e).1 (appC l e).2 (imsC l e) (bkK e) r g) :
  ∃ u:Sv,∃ x:Sr,r = .tuple #[.agg #[.slice u.p u.n u.c],srv x,vi (appC l e).1]∧Cells g (.slice u.p u.n u.c) (appC l e).2∧StK g (imO l e) x:=by
 obtain ⟨u,p,n,c,b,h1,h2,h3,h4⟩:=h;obtain ⟨q,d,rfl⟩:=h2.form;refine⟨⟨q,_,d⟩,⟨⟨p,n,c⟩,b⟩,h1,h2,?_⟩;unfold imO;by_cases h0:(appC l e).1=0
 ·rw[if_pos h0]; exact h3 h0
 ·rw[if_neg h0]; exact h4 h0
def StS (x:Stp):Prop:=x.1.length≤4000∧∀ p∈x.1,p.2.length≤64
theorem imgK_len {A:List Cl}(h:Rt A)(e:Ed)(k:Int):(imgK A e k).length≤64:=by
 unfold imgK;split
 ·unfold splitImg; split
  ·unfold refSplitChain; split <;> simp
  ·simp
 split
 ·unfold identImg; split <;> simp
 split
 ·unfold colImg; split
  ·unfold refColChain;rw[List.length_map];refine Nat.le_trans (List.length_filter_le _ _) ?_
   rcases h.getD e.other with h1 | h1
   ·first | (rw[h1]; decide) | (rw[h.findC,h1]; decide)
   ·first | exact h.few64 h1 | (rw[h.findC]; exact h.few64 h1)
  ·split <;> simp
 ·simp
theorem imO_small (l:List Cl)(e:Ed):StS (imO l e):=by
 unfold imO;by_cases h0:(appC l e).1=0
 ·rw[if_pos h0];have hA:=rt_of (appC_rt h0).2.1;refine⟨?_,fun p hp=>?_⟩
  ·show (imsC l e).length≤4000;unfold imsC;rw[List.length_map];split
   ·exact appC_few l e
   ·exact hA.few
  ·have hp':p∈imsC l e:=hp;unfold imsC at hp';obtain ⟨c,_,rfl⟩:=List.mem_map.1 hp';exact imgK_len hA e c.id
 ·rw[if_neg h0];exact⟨by simp,by simp⟩
def allG:List Cl→List Stp→Nat→List Ed→(Int×Int)×List Cl×List Stp
 | A,ss,_,[]=>((0,0),A,ss)
 | A,ss,i,e::es=>if (appC A e).1=0 then allG (appC A e).2 (ss++[imO A e]) (i+1) es else (((appC A e).1,(i:Int)),[],[])
def allC (l:List Cl)(es:List Ed):(Int×Int)×List Cl×List Stp:=if 1000<es.length then ((2,0),[],[]) else if (checkC l).2≠0 then ((1,0),[],[]) else allG (canonC l) [] 0 es
def AllR (R:(Int×Int)×List Cl×List Stp)(r:Value)(g:PH):Prop:=∃ u p n c,r = .tuple #[.agg #[u],.slice p n c,vi R.1.2,vi R.1.1]∧Cells g u R.2.1∧Sts g (.slice p n c) R.2.2
theorem tmIn (x:Tm)(w:World):(Op.equalIn 10000 77 (.agg (encTm.enc x).toArray) (.agg (encTm.enc x).toArray)).run Tryz.prog w = .ok true w:=by
 have hu:Tryz.prog.underlying 77=some (.struct (Tryz.prog.fieldsOf 77)):=by kernel_rfl
 have hu2:Tryz.prog.underlying 75=some (.struct (Tryz.prog.fieldsOf 75)):=by kernel_rfl
 rw[run_equalIn_agg w 9999 77 _ _ hu stoodInHeld77]
 have hfs : ∃ f1 f2,(Tryz.prog.fieldsOf 77).toList = [f1,f2] ∧ f1.name ≠ "_" ∧ f2.name ≠ "_" ∧ f1.type = 3 ∧ f2.type = 75 ∧ f1.offset = 0 ∧ f2.offset = 1:=⟨_,_,rfl,by decide,by decide,rfl,rfl,rfl,rfl⟩
 obtain ⟨f1,f2,e,n1,n2,t1,t2,o1,o2⟩:=hfs
 have hgs : ∃ f1 f2,(Tryz.prog.fieldsOf 75).toList = [f1,f2] ∧ f1.name ≠ "_" ∧ f2.name ≠ "_" ∧ f1.type = 4 ∧ f2.type = 9 ∧ f1.offset = 0 ∧ f2.offset = 1:=⟨_,_,rfl,by decide,by decide,rfl,rfl,rfl,rfl⟩
 obtain ⟨f3,f4,e2,n3,n4,t3,t4,o3,o4⟩:=hgs;obtain ⟨a,n⟩:=x;rw[e];have h1:=run_equalIn_int (P:=Tryz.prog) w 9998 3 .i64 .i64 a a uT3;have h2:(Op.equalIn 9999 75 (.agg #[vb (wneg n),txt (magB n.natAbs)]) (.agg #[vb (wneg n),txt (magB n.natAbs)])).run Tryz.prog w = .ok true w:=by
  rw[run_equalIn_agg w 9998 75 _ _ hu2 stoodInHeld75,e2];have h3:=run_equalIn_bool (P:=Tryz.prog) w 9997 4 (wneg n) (wneg n) uT4;have h4:=run_equalIn_string (P:=Tryz.prog) w 9997 9 ⟨(magB n.natAbs).toArray⟩ ⟨(magB n.natAbs).toArray⟩ uT9;simp only[Op.eqFields,n3,n4,t3,t4,o3,o4,txt,Go.part,ne_eq,not_false_eq_true,if_true,Sem.run_bind,isAgg4,isAgg9,Result.andThen_ok];simp[h3,h4]
 simp only[Op.eqFields,n1,n2,t1,t2,o1,o2,encTm,Go.part,ne_eq,not_false_eq_true,if_true,Sem.run_bind,iT3,isAgg75,zT75,Result.andThen_ok];simp[h1,h2]
theorem SU.eqlTmT {N:Nat}{f:Fr}{dst:Option Tmp}{ty:TypeId}{pos:String}{af:Array Edge}{gd:Option (Nat×Bool)}{x y:Operand}(a:Tm){U:TypeId}(hx:ev f x=some (.agg (encTm.enc a).toArray))(hy:ev f y=some (.agg (encTm.enc a).toArray)) :
  SU Tryz.prog N ⟨dst,.binOp .eql 77 x y U,ty,pos,af,gd⟩ f (vb true):=fun ac w ha=>by
 have hg:=run_eqGuard_agg (P:=Tryz.prog) w .eql 77 x y (encTm.enc a).toArray (encTm.enc a).toArray eqGuardType77;simp only[execOp,ha.ev hx,ha.ev hy,Sem.run_bind,hg,Result.andThen_ok];rw[run_eql_struct,tmIn];rfl
theorem sent_spec (E:World)(g:PH)(s:Own)(v:Value)(L:List (Int×List Tm))(k0:Int)(hv:Ims g v L)(hs:L.length≤4000) :
  Ctr Tryz.prog E 27 #[.agg #[v],vi k0] g s (fun r g' s'=>g=g'∧s=s'∧SlA encTm g r (((L.find? fun p=>decide (p.1=k0)).map Prod.snd).getD [])):=by
 obtain ⟨ra,hra,halla⟩:=hv;have eal:=halla.length;obtain ⟨pa,ca,rfl⟩:=SlA.form hra;refine Ctr.of (args:=[.agg #[.slice pa ra.length ca],vi k0]) func27 I ntmps27 (bE I) ?_;refine rZ (bW (bO I) fun b2=>?_);refine aT I (sQ (rZ (aT I (bK ?_))));refine oP (ι:=Nat) (fun k=>[(1,vi k0),(2,pp b2 0),(5,vi k)]) (fun _=>g) (fun _=>pt b2 (.cells #[.slice pa ra.length ca] 44 (0,0))::s) (fun k=>k≤L.length∧(L.take k).find? (fun p=>decide (p.1=k0))=none) (fun k=>L.length - k) 0 sB I I ⟨Nat.zero_le _,I⟩ ?_;rintro k ⟨hk,hno⟩;try dsimp only at hk ⊢
 refine sQ (sW I (lU (fA underlying44 I sizeOf42 I) (lK (qL (v:=.slice pa ra.length ca) isAgg42 I (cO 0 I I)) (lU (eN underlying42 I) (lU (lS I I) (tZ ?_))))));refine iP I (fun hlt=>?_) (fun hlt=>?_)
 ·have hkl:k<L.length:=oM;have hb1:=SlA.based hra oM;have h1:=halla.get (gE hkl) (gE (show k<ra.length by omega));have g1:ra[((k:Nat):Int).toNat]?=some ra[k]:=gE (show k<ra.length by omega);have htk:L.take (k+1)=L.take k++[L[k]]:=tS hkl;have hLk:L=L.take k++L[k]::L.drop (k+1):=by rw[← List.drop_eq_getElem_cons hkl,List.take_append_drop]
  generalize L[k]=X at *;generalize ra[k]=xa at *;obtain ⟨ia,pA,nA,cA⟩:=xa;obtain ⟨f1,hA⟩:=h1;dsimp only at f1 hA;subst f1;refine kP (tN (sQ (bK (rZ (lU (fA underlying44 I sizeOf42 I) (lK (qL (v:=.slice pa ra.length ca) isAgg42 I (cO 0 I I)) (lM I (lU (iA underlying42 sizeOf113 I I hb1 oM sL) (lU (fC underlying113 I zT3 I hb1) (lK (aZ (e:=encIm) (o:=0) (u:=vi X.1) iT3 I (SlA.rd hra) g1 I) (lM I (lU (eQ I I) (tZ ?_)))))))))))));refine iP I (fun he=>?_) (fun he=>?_)
  ·refine rZ (lU (fA underlying44 I sizeOf42 I) (lK (qL (v:=.slice pa ra.length ca) isAgg42 I (cO 0 I I)) (lM I (lU (iA underlying42 sizeOf113 I I hb1 oM sL) (lU (fC underlying113 I sizeOf72 I hb1) (lK (aZ (e:=encIm) (o:=1) (u:=.slice pA nA cA) isAgg72 I (SlA.rd hra) g1 I) (aT I (rE (bR (tR (tR (bR (tR (dR (s':=s) uR ?_))))))))))))));exact ST.ret1 (.inl I) results27 I ⟨I,I,by rw[hLk,List.find?_append,hno,List.find?_cons,decide_eq_true he]; exact hA⟩
  ·refine kP (bN (tN (rG (lM I (lU (aD I I oM) (lA I (nL ?_)))))));exact gA (k+1) sB I I ⟨oM,by rw[htk,List.find?_append,hno]; simp[he]⟩ oM
 ·refine xI (tX (tX (bX (tN (rZ (aT I (rE ?_)))))));have hL:L.take k=L:=tL oM;rw[hL] at hno;refine dR (s':=s) uR ?_;exact ST.ret1 (.inl I) results27 I ⟨I,I,by rw[hno]; exact Sl.nil _ _⟩
theorem cells_n {g:PH}{p:Option Addr}{n c:Nat}{l:List Cl}(h:Cells g (.slice p n c) l):n=l.length:=by
 obtain ⟨q,d,e⟩:=h.form;injection e
theorem triangle12_spec (E:World)(g:PH)(s:Own):Ctr Tryz.prog E 26 #[] g s (fun r g' s'=>s=s'∧Le g g'∧∃ u,r = .agg #[u]∧Cells g' u triL):=by
 refine Ctr.of (args:=[]) func26 I ntmps26 (bE I) ?_;refine rZ (bW (aL zeroValue29) fun b0=>?_);refine tZ (rZ (lW (bS sty83 I I I (szs_mk sB) dC) ?_));rintro _ _ _ ⟨b1,rfl,rfl,rfl⟩;refine SL.freeze fun g1 hle1 hb1=>?_;refine lW (bS sty22 I I I (szs_mk ⟨I,trivial⟩) dC) ?_;rintro _ _ _ ⟨b2,rfl,rfl,rfl⟩;refine SL.freeze fun g2 hle2 hb2=>?_;have hlit:Lists g2 (.slice (some ⟨b2,0,none⟩) 1 1) [[0,1,2]]:=⟨[svOf (.slice (some ⟨b1,0,none⟩) 3 3)],SlA.lit hb2 rfl rfl,⟨SlA.lit (hle2 _ _ hb1) rfl rfl,trivial⟩⟩;refine lW (cL call60 I (simplicial_spec E g2 _ _ _ hlit dC dC)) ?_;rintro _ g3 _ ⟨rfl,hle3,u,rfl,hu⟩;rw[simp_tri] at hu;obtain ⟨q,d,rfl⟩:=hu.form;refine oZ (sK 0 zT29 I I I I I sB) ?_;refine tZ (rE ?_);exact ST.retCD 0 s (.inl I) results26 I iT29 zT29 I I uR ⟨I,hle1.trans (hle2.trans hle3),_,I,hu⟩
def exA:Ed:=⟨1,8,2,0,0,[⟨4,1⟩,⟨5,-1⟩,⟨6,1⟩],[]⟩
def exB:Ed:=⟨2,4,0,0,0,[],[]⟩
def exC:Ed:=⟨2,7,0,0,0,[],[]⟩
def exD:Ed:=⟨3,4,0,10,11,[],[]⟩
def exE:Ed:=⟨5,5,0,0,7,[],[]⟩
def exF:Ed:=⟨4,0,0,0,0,[],[(1,2)]⟩
theorem exA_ok:(appC triL exA).1=0∧(appC triL exA).2.length=8:=by decide +kernel
theorem exB_ok:(appC triL exB).1=31:=by decide +kernel
theorem exC_ok:(appC triL exC).1=0∧(appC triL exC).2.length=6∧(imO triL exC).2=true:=by decide +kernel
theorem exD_ok:(appC triL exD).1=0∧(findC (appC triL exD).2 7).getD zeroC=⟨7,2,[⟨4,1⟩,⟨5,-1⟩,⟨6,1⟩,⟨11,1⟩]⟩:=by
 refine⟨by decide +kernel,by kernel_rfl⟩
theorem exE_ok:(appC triL exE).1=0∧(((imO triL exE).1.find? fun p=>decide (p.1=5)).map Prod.snd).getD []=[(4,1),(6,1)]:=by decide +kernel
theorem exF_ok:(appC triL exF).1=22:=by decide +kernel
theorem exam (E:World)(g:PH)(s:Own)(v ev:Value)(e:Ed)(code:Int)(hv:Cells g v triL)(he:EdR g ev e)(hs:e.sides.length<1099511627776)(hp:e.pairs.length<1099511627776)(hc:(appC triL e).1=code) :
  Ctr Tryz.prog E 16 #[.agg #[v],ev] g s (fun r g' s'=>s=s'∧Le g g'∧∃ u:Sv,∃ x:Sr,r = .tuple #[.agg #[.slice u.p (appC triL e).2.length u.c],srv x,vi code]∧Cells g' (.slice u.p (appC triL e).2.length u.c) (appC triL e).2∧StK g' (imO triL e) x) :=
 (prog_apply E g s v ev triL e hv tri_fits he hs hp).mono fun r g' s' ⟨h1,h2,h3⟩=>by
  obtain ⟨u,x,h4,h5,h6⟩:=h3.one;have:=cells_n h5;refine⟨h1,h2,u,x,?_,?_,h6⟩
  ·rw[h4,this,hc]
  ·rw[← this]; exact h5
theorem Tryz.xA35 (a b d:Int)(q:Option Addr)(qn qc:Nat)(w:World):(Instr.build 35 #[(0,vi a),(1,vi b),(2,vi d),(5,.slice q qn qc)]).run Tryz.prog w = .ok (.agg #[vi a,vi b,vi d,vi 0,vi 0,.slice q qn qc,.slice none 0 0]) w:=by
 have h0:∀ a:Int,(vi a).cells = #[vi a]:=fun _=>rfl;have h3:(Value.slice q qn qc).cells = #[.slice q qn qc]:=rfl;simp[Instr.build,Instr.fill,h0,h3];rfl
theorem Tryz.xB35 (a b:Int)(w:World):(Instr.build 35 #[(0,vi a),(1,vi b)]).run Tryz.prog w = .ok (.agg #[vi a,vi b,vi 0,vi 0,vi 0,.slice none 0 0,.slice none 0 0]) w:=by
 have h0:∀ a:Int,(vi a).cells = #[vi a]:=fun _=>rfl;simp[Instr.build,Instr.fill,h0];rfl
theorem Tryz.xC35 (a b d e:Int)(w:World):(Instr.build 35 #[(0,vi a),(1,vi b),(3,vi d),(4,vi e)]).run Tryz.prog w = .ok (.agg #[vi a,vi b,vi 0,vi d,vi e,.slice none 0 0,.slice none 0 0]) w:=by
 have h0:∀ a:Int,(vi a).cells = #[vi a]:=fun _=>rfl;simp[Instr.build,Instr.fill,h0];rfl
theorem Tryz.xD35 (a b d:Int)(w:World):(Instr.build 35 #[(0,vi a),(1,vi b),(4,vi d)]).run Tryz.prog w = .ok (.agg #[vi a,vi b,vi 0,vi 0,vi d,.slice none 0 0,.slice none 0 0]) w:=by
 have h0:∀ a:Int,(vi a).cells = #[vi a]:=fun _=>rfl;simp[Instr.build,Instr.fill,h0];rfl
theorem Tryz.xE35 (a:Int)(q:Option Addr)(qn qc:Nat)(w:World):(Instr.build 35 #[(0,vi a),(6,.slice q qn qc)]).run Tryz.prog w = .ok (.agg #[vi a,vi 0,vi 0,vi 0,vi 0,.slice none 0 0,.slice q qn qc]) w:=by
 have h0:∀ a:Int,(vi a).cells = #[vi a]:=fun _=>rfl;have h3:(Value.slice q qn qc).cells = #[.slice q qn qc]:=rfl;simp[Instr.build,Instr.fill,h0,h3];rfl
theorem sanity12_spec (E:World)(g:PH)(s:Own):Ctr Tryz.prog E 10 #[] g s (fun r g' s'=>r=vb true∧s=s'∧Le g g'):=by
 refine Ctr.of (args:=[]) func10 I ntmps10 (bE I) ?_;refine rZ (aT I (rZ (lW (cL call26 I (triangle12_spec E g s)) ?_)));rintro _ g1 _ ⟨rfl,hle1,u,rfl,hu⟩;obtain ⟨q,d,rfl⟩:=hu.form;have hac:=hle1;refine bW (aL zeroValue29) fun b1=>?_;refine oZ (sK 0 zT29 I I I I I sB) ?_;refine tZ (rZ (lK (qV 0 iT29 zT29 I I I) (lU (SU.build I (buildS55 _ _)) (lU (SU.build I (buildS55 _ _)) (lU (SU.build I (buildS55 _ _)) (lW (bS sty32 I I I (szs_mk sB) dC) ?_))))));rintro _ _ _ ⟨b31,rfl,rfl,rfl⟩;refine SL.freeze fun g2 hle hb2=>?_;have hs2:SlA encSide g2 (.slice (some ⟨b31,0,none⟩) 3 3) exA.sides:=SlA.lit hb2 rfl rfl;have hu:=hu.mono hle;have hac:=hac.trans hle;clear hle;refine lU (SU.build I (xA35 _ _ _ _ _ _)) (lW (cL call16 I (exam E g2 _ _ _ exA 0 hu ⟨_,_,I,hs2,Sl.nil _ _⟩ dC dC exA_ok.1)) ?_);rintro _ g3 _ ⟨rfl,hle,⟨a1,a2,a3⟩,⟨⟨ax,ay,az⟩,ab⟩,rfl,hDa,hSa⟩;rw[exA_ok.2] at *;clear hSa;have hu:=hu.mono hle;have hac:=hac.trans hle;clear hle;refine lM I (lU (xT I I) (lU (xT I I) (lU (xT I I) (bW (aL zeroValue29) fun b2=>?_))));refine bW (aL zeroValue46) fun b3=>?_;refine oZ (sK 1 zT29 I I I I I sB) ?_;refine oZ (sK 0 zT46 I I I I I sB) ?_;refine aT I (rZ (lK (qV 2 iT29 zT29 I I I) (lU (SU.build I (xB35 _ _)) (lW (cL call16 I (exam E g3 _ _ _ exB 31 hu ⟨_,_,I,Sl.nil _ _,Sl.nil _ _⟩ dC dC exB_ok)) ?_))));rintro _ g4 _ ⟨rfl,hle,⟨w1,w2,w3⟩,⟨⟨wx,wy,wz⟩,wb⟩,rfl,hDw,hSw⟩;clear hSw hDw;generalize (appC triL exB).2.length=nb at *;have hu:=hu.mono hle;have hac:=hac.trans hle;clear hle;refine lM I (lU (xT I I) (lU (xT I I) (lU (xT I I) (bW (aL zeroValue29) fun b5=>?_))));refine bW (aL zeroValue46) fun b6=>?_;refine oZ (sK 1 zT29 I I I I I sB) ?_;refine oZ (sK 0 zT46 I I I I I sB) ?_;refine aT I (rZ (lK (qV 4 iT29 zT29 I I I) (lU (SU.build I (xB35 _ _)) (lW (cL call16 I (exam E g4 _ _ _ exC 0 hu ⟨_,_,I,Sl.nil _ _,Sl.nil _ _⟩ dC dC exC_ok.1)) ?_))));rintro _ g5 _ ⟨rfl,hle,⟨c1,c2,c3⟩,⟨⟨cx,cy,cz⟩,cb⟩,rfl,hDc,hSc⟩;have hcb:cb=true:=hSc.1.trans exC_ok.2.2;subst hcb;rw[exC_ok.2.1] at *;clear hSc;have hu:=hu.mono hle;have hac:=hac.trans hle;clear hle;refine lM I (lU (xT I I) (lU (xT I I) (lU (xT I I) (bW (aL zeroValue29) fun b8=>?_))));refine bW (aL zeroValue46) fun b9=>?_;refine oZ (sK 1 zT29 I I I I I sB) ?_;refine oZ (sK 0 zT46 I I I I I sB) ?_;refine aT I (rZ (lK (qV 6 iT29 zT29 I I I) (lU (SU.build I (xC35 _ _ _ _)) (lW (cL call16 I (exam E g5 _ _ _ exD 0 hu ⟨_,_,I,Sl.nil _ _,Sl.nil _ _⟩ dC dC exD_ok.1)) ?_))));rintro _ g6 _ ⟨rfl,hle,⟨d1,d2,d3⟩,⟨⟨dx,dy,dz⟩,db⟩,rfl,hDd,hSd⟩;clear hSd;have hu:=hu.mono hle;have hac:=hac.trans hle;clear hle;refine lM I (lU (xT I I) (lU (xT I I) (lU (xT I I) (bW (aL zeroValue29) fun b11=>?_))));refine bW (aL zeroValue46) fun b12=>?_;refine oZ (sK 1 zT29 I I I I I sB) ?_;refine oZ (sK 0 zT46 I I I I I sB) ?_;refine aT I (rZ (lK (qV 1 iT29 zT29 I I I) (lW (cL call20 I (find_spec E g6 _ _ _ 7 hDd (appC_fits _ _))) ?_)));rintro _ g7 _ ⟨rfl,hle,⟨zi,zd,zp,zn,zc⟩,rfl,hz⟩;rw[exD_ok.2] at hz;obtain ⟨-,-,hzs⟩:=hz;have hzn:zn=4:=Sl.slen hzs;subst hzn;have hbz:based (.slice zp 4 zc)=true:=SlA.based hzs dC;have hu:=hu.mono hle;have hac:=hac.trans hle;clear hle;refine lM I (lU (xT I I) (lU (xT I I) (bW (aL zeroValue53) fun b14=>?_)));refine oZ (sK 0 zT53 I I I I I sB) ?_;refine aT I (rZ (lK (qV 9 iT29 zT29 I I I) (lU (SU.build I (xD35 _ _ _)) (lW (cL call16 I (exam E g7 _ _ _ exE 0 hu ⟨_,_,I,Sl.nil _ _,Sl.nil _ _⟩ dC dC exE_ok.1)) ?_))));rintro _ g8 _ ⟨rfl,hle,⟨e1,e2,e3⟩,⟨⟨ex,ey,ez⟩,eb⟩,rfl,hDe,hSe⟩;have hu:=hu.mono hle;have hac:=hac.trans hle;have hzs:=SlA.mono hzs hle;clear hle;refine lM I (lU (xT I I) (lU (xT I I) (lU (xT I I) (bW (aL zeroValue29) fun b16=>?_))));refine bW (aL zeroValue46) fun b17=>?_;refine oZ (sK 1 zT29 I I I I I sB) ?_;refine oZ (sK 0 zT46 I I I I I sB) ?_;refine aT I (rZ (lK (qV 11 iT29 zT29 I I I) (lU (SU.build I (build60 _ _)) (lW (bS sty33 I I I (szs_mk ⟨I,trivial⟩) dC) ?_))));rintro _ _ _ ⟨b73,rfl,rfl,rfl⟩;refine SL.freeze fun g9 hle hb9=>?_;have hs9:SlA encPr g9 (.slice (some ⟨b73,0,none⟩) 1 1) exF.pairs:=SlA.lit hb9 rfl rfl;have hu:=hu.mono hle;have hac:=hac.trans hle;have hzs:=SlA.mono hzs hle;have hSe:=hSe.mono hle;clear hle;refine lU (SU.build I (xE35 _ _ _ _)) (lW (cL call16 I (exam E g9 _ _ _ exF 22 hu ⟨_,_,I,Sl.nil _ _,hs9⟩ dC dC exF_ok)) ?_);rintro _ g10 _ ⟨rfl,hle,⟨f1,f2,f3⟩,⟨⟨fx,fy,fz⟩,fb⟩,rfl,hDf,hSf⟩;clear hSf hDf;have hu:=hu.mono hle;have hac:=hac.trans hle;have hzs:=SlA.mono hzs hle;have hSe:=hSe.mono hle;clear hle;refine lM I (lU (xT I I) (lU (xT I I) (lU (xT I I) (bW (aL zeroValue29) fun b19=>?_))));refine bW (aL zeroValue46) fun b20=>?_;refine oZ (sK 1 zT29 I I I I I sB) ?_;refine oZ (sK 0 zT46 I I I I I sB) ?_;refine aT I (rZ (lU (fA underlying46 I sizeOf44 I) (lK (SQ.loadOne isAgg44 sizeOf44 I (cO (v:=.slice ex ey ez) 2 I I)) (lW (cL call27 I (sent_spec E g10 _ _ _ 5 hSe.2 (imO_small _ _).1)) ?_))));rintro v81 _ _ ⟨rfl,rfl,hl81⟩;rw[exE_ok.2] at hl81;obtain ⟨lp,lc,rfl⟩:=SlA.form hl81;have hbl:based (.slice lp 2 lc)=true:=SlA.based hl81 dC;refine aT I (sW I (lU (SU.eq (v':=vb true) (eQ I I) (congrArg vb (decide_eq_true I))) (lM I (lY I I I (fA uT29 I zT27 I) (SL.gq (gT I I I dC) (qL (v:=.slice a1 8 a3) isAgg27 I (cO 12 I I)) dC (lY I I I (eN uT27 I) (lY I I I (SU.eq (v':=vb true) (eQ I I) (congrArg vb (decide_eq_true I))) (lU (wT I I) (lM I (lY I I I (mV I) (lY I I I (SU.eq (v':=vb true) (eQ I I) (congrArg vb (decide_eq_true I))) (lU (wT I I) (lM I (lY I I I (mV I) (lY I I I (SU.eq (v':=vb true) (eQ I I) (congrArg vb (decide_eq_true I))) (lU (wT I I) (lM I (lY I I I (fA uT29 I zT27 I) (SL.gq (gT I I I dC) (qL (v:=.slice c1 6 c3) isAgg27 I (cO 8 I I)) dC (lY I I I (eN uT27 I) (lY I I I (SU.eq (v':=vb true) (eQ I I) (congrArg vb (decide_eq_true I))) (lU (wT I I) (lM I (lY I I I (fA underlying46 I sizeOf4 I) (SL.gq (gT I I I dC) (qL (v:=vb true) isAgg4 I (cO 7 I I)) dC ?_)))))))))))))))))))))))));refine lU (wT I I) (aT I (sW I (lU (SU.eq (v':=vb true) (eQ I I) (congrArg vb (decide_eq_true I))) (lM I (lY I I I (fA uT53 I zT32 I) (SL.gq (gT I I I dC) (qL (v:=.slice zp 4 zc) iT32 I (cO 4 I I)) dC (lY I I I (eN uT32 I) (lY I I I (SU.eq (v':=vb true) (eQ I I) (congrArg vb (decide_eq_true I))) (lU (wT I I) (lM I (lY I I I (fA uT53 I zT32 I) (SL.gq (gT I I I dC) (qL (v:=.slice zp 4 zc) iT32 I (cO 4 I I)) dC (lY I I I (iA uT32 zT55 I I hbz dC (by show (3:Int)<4; decide)) ?_)))))))))))));refine SL.gq (gT I I I dC) (eA (a:=(⟨11,1⟩:Side)) iT55 zT55 I (SlA.rd hzs) I) dC (lY I I I (SU.build I (buildS55 _ _)) (lY I I I (SU.eq (SU.eqlSide ⟨11,1⟩ ⟨11,1⟩ I I) (congrArg vb (decide_eq_true I))) (lU (wT I I) (aT I (sQ ?_)))));refine dW [] [(0,2),(1,2),(2,2),(3,2),(4,2),(5,2),(6,2),(7,2),(8,2),(9,2),(10,2),(11,2),(12,2),(13,2),(14,2),(15,2),(16,1),(17,0),(18,2),(19,2),(20,2),(21,2),(22,2),(23,2),(24,2),(25,2)] Tryz.mixed kR ?_;refine pU I (mV I) (pU I (mV I) (SP.gu I (gT I I I dC) (mV I) dC (pU I (wT I I) (pU I (mV I) (SP.gu I (gT I I I dC) (mV I) dC (SP.gu I (gT I I I dC) (SU.eq (v':=vb true) (eQ I I) (congrArg vb (decide_eq_true I))) dC (pU I (wT I I) (pU I (mV I) (SP.gu I (gT I I I dC) (mV I) dC (SP.gu I (gT I I I dC) (eN underlying72 I) dC (SP.gu I (gT I I I dC) (SU.eq (v':=vb true) (eQ I I) (congrArg vb (decide_eq_true I))) dC (pU I (wT I I) (pU I (mV I) (SP.gu I (gT I I I dC) (mV I) dC (SP.gu I (gT I I I dC) (iA underlying72 sizeOf77 I I hbl dC (by show (0:Int)<2; decide)) dC ?_)))))))))))))));refine SP.gq I (gT I I I dC) (eA (a:=((4,1):Tm)) isAgg77 sizeOf77 I (SlA.rd hl81) I) dC (SP.go I (gT I I I dC) (cL call28 I (refFrom_spec E g10 _ 1 dC dC)) dC (.inr iR) ?_);rintro _ g11 _ ⟨rfl,rfl,hle11⟩;refine SP.gu I (gT I I I dC) (SU.build I (build77 _ _ _)) dC (SP.gu I (gT I I I dC) (SU.eqlTmT (4,1) I I) dC (pU I (wT I I) (pU I (mV I) (SP.gu I (gT I I I dC) (mV I) dC (SP.gu I (gT I I I dC) (SU.eq (v':=vb true) (eQ I I) (congrArg vb (decide_eq_true I))) dC (pU I (wT I I) (pU I (aS I) (pN (tN (rE (dR (s':=s) uR ?_)))))))))));exact ST.ret1 (.inl I) results10 I ⟨I,I,hac.trans hle11⟩
end Go.Proofs.YtackilpikhkijaaGreatDoor
namespace Go.Sy
open Go
section
variable {P:Program}{N:Nat}{E:World}{f:Fr}{g:PH}{s:Own}{fn:Func}{R:Value→PH→Own→Prop}{e:Exit}
theorem ST.retC3 {T U:TypeId}{t u q m b k:Nat}{cs:Array Value}{fr:Nat×Nat}{x y z:Value}(i:Nat)(s':Own)(he:e = .ret∨e = .normal)(hr:fn.results = #[.cell t T,.tmp u,.tmp q,.tmp m])(hv:get? f t=some (pp b 0))(hu:get? f u=some x)(hq:get? f q=some y)(hm:get? f m=some z)
  (hT:∀ w,(isAgg T).run P w = .ok true w) (hk:∀ w,(sizeOf T).run P w = .ok k w)
  (hs:s[i]?=some (pt b (.cells cs U fr))) (hc:cs.size=k) (hs':s'.Sublist s) (hR:R (.tuple #[.agg cs,x,y,z]) g s'):ST N E (bodyPost P fn (Post E R)) e f g s :=
 fun a w ha hw=>by
  have h1:=run_loadVar_own (P:=P) hw hT (by rw[hc]; exact hk) hs;have h2:=ha.at_ t _ hv;have h5:=ha.at_ u _ hu;have h6:=ha.at_ q _ hq;have h7:=ha.at_ m _ hm;simp only[Array.getD_eq_getD_getElem?] at h2 h5 h6 h7;have h3:(results fn a.tmps).run P w = .ok (.tuple #[.agg cs,x,y,z]) w:=by simp[results,hr,asAddr,pp,h2,h1,h5,h6,h7]
  have h4:Post E R (.returned (.tuple #[.agg cs,x,y,z])) w:=⟨_,g,s',rfl,hw.sublist hs',hR⟩
  rcases he with rfl | rfl
  ·exact⟨ha.defers,_,h3,h4⟩
  ·exact⟨ha.defers,_,h3,h4⟩
end
end Go.Sy
