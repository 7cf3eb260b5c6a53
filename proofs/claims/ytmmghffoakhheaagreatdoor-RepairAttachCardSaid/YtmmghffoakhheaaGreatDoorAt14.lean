/-
  If a cell is attached, all pairs of a right matching stay, and at most one is added; if a top cell is removed, all pairs without it stay (RepairAttach). No conditions.
-/
import Derived.Test.YtmmghffoakhheaaGreatDoorAt13
import Derived.Test.YtmmghffoakhheaaGreatDoorAt10
import Derived.Test.YtmmghffoakhheaaGreatDoorTie
import Derived.Test.YtmmghffoakhheaaGreatDoorCards
import Derived.LaidMore
import Derived.Lay
import Derived.SevenTiedAt
import Derived.Stop.Joined
set_option linter.unusedSimpArgs false
set_option linter.unusedVariables false
namespace Go.Proofs.YtmmghffoakhheaaGreatDoor
open _root_.Go.Proofs.Tryz _root_.Go.Proofs.YtmmghffoakhheaaGreatDoor.Tryz
open Go Go.Sy Go.Pl Go.Proofs
set_option maxRecDepth 100000
set_option maxHeartbeats 4000000
theorem EditOk.kind {l:List Cl}{e:Ed}(h:EditOk l e):e.kind≠4:=by
 obtain ⟨_,h⟩:=h
 rcases h with ⟨h,_⟩ | ⟨h,_⟩ | ⟨h,_⟩ | ⟨h,_⟩ | ⟨h,_⟩ | ⟨h,_⟩ <;> omega
def freeOf (c:Int)(p:Pr):Bool:=decide (p.2≠c)&&decide (p.1≠c)
theorem repairOut_ok {m:List Pr}{e:Ed}{X:List Cl}(h:e.kind≠4):repairOut m e 0 X=(0,X,extendR X m):=by
 have h1:(m.map fun p=>(nowC e p.1,nowC e p.2))=m:=by
  rw[show (fun p:Pr=>(nowC e p.1,nowC e p.2))=id from funext fun p=>by rw[now_none fun h4=>absurd h4 h,now_none fun h4=>absurd h4 h]; rfl,List.map_id]
 unfold repairOut;rw[if_neg (by simp),h1]
theorem free_succ {l:List Pr}{k:Nat}(h:k<l.length)(c:Int):(l.take (k+1)).filter (freeOf c)=(l.take k).filter (freeOf c)++if freeOf c l[k]=true then [l[k]] else []:=by
 rw[tS h,List.filter_append];by_cases hp:freeOf c l[k]=true <;> simp[hp]
theorem pre_take {α:Type}{l m:List α}(h:l <+: m):(m.drop 0).take (l.length - 0)=l:=by
 rw[List.drop_zero,Nat.sub_zero];exact (List.prefix_iff_eq_take.1 h).symm
theorem attach_law (E:World)(g:PH)(s:Own)(sp bs:Nat)(vL vG:Value)(L:List Int)(G:List Nat)(vn:Value)(ns:List Int)(q0 q1 q2:Int)(hL:Ints g vL L)(hG:SlA encB g vG (G.map fun x:Nat=>(x:Int)))(hsp:sp<256)(hbs:bs<256)(hGb:∀ x∈G,x<256)(hn:Ints g vn ns) :
  Ctr Tryz.prog E 5 #[.agg #[.int .u8 (sp:Int),vL,vG,.int .u8 (bs:Int)],vn,.agg #[vi q0,vi q1,vi q2]] g s (fun r g' s'=>r=vb true∧s=s'∧Le g g'):=by
 obtain ⟨pL,cL,rfl⟩:=SlA.form hL;obtain ⟨pG,cG,rfl⟩:=SlA.form hG;obtain ⟨pn,cn,rfl⟩:=SlA.form hn;obtain ⟨hCf,hCl⟩:=complex_fits sp L G bs;have hPl:=pairsR_len _ hCl;have hright:=complex_right sp L G bs;have hC4:=check_len hright;have hedg:=edges_of hright;obtain ⟨hs1,hs2⟩:=complex_sm sp L G bs;refine Ctr.of (args:=[.agg #[.int .u8 (sp:Int),.slice pL L.length cL,.slice pG (G.map fun x:Nat=>(x:Int)).length cG,.int .u8 (bs:Int)],.slice pn ns.length cn,.agg #[vi q0,vi q1,vi q2]]) func5 I ntmps5 (bE I) ?_;refine rZ (bW (bO I) fun b3=>?_);refine bW (bO I) fun b5=>?_;refine aT I (rZ (lW (SO.call call9 I (sane14 E g _)) ?_));rintro _ g1 _ ⟨rfl,rfl,hle1⟩;refine aT I (rZ (lK (qV 1 isAgg25 sizeOf25 I I I) (lW (SO.call call10 I (shape8_spec E g1 _ sp bs _ _ L G (SlA.mono hL hle1) (SlA.mono hG hle1) hsp hbs hGb)) ?_)));rintro _ g2 _ ⟨rfl,hle2,u2,rfl,hv2⟩;generalize complexC sp L G bs=C at *;obtain ⟨qc,dc,rfl⟩:=hv2.form;refine bW (aL zeroValue29) fun b8=>?_;refine oZ (sK 0 zT29 I I I I I sB) ?_;refine tZ (sQ ?_);refine dW [] [(0,1),(1,1),(2,2),(3,0),(4,0),(5,2)] Tryz.mixed kR ?_;refine pK I (qV 0 iT29 zT29 I I I) (pK I (qV 0 iT29 zT29 I I I) (yM I (SP.o I (SO.call call11 I (asked_spec E g2 _ _ _ C ns hv2 hCf oM (SlA.mono hn (hle1.trans hle2)) oM)) dC (.inr iR) ?_)));rintro v22 g3 _ ⟨rfl,hle3,hm3⟩;have hv3:=hv2.mono hle3;have hMl:=askedC_len (pairsR C) ns;generalize askedC (pairsR C) ns=M0 at *;refine SP.o rfl (SO.call call15 rfl (extendProg_spec E g3 _ _ _ C M0 hv3 hCf oM hm3 oM)) dC (.inr (by rintro v23 g4 _ ⟨rfl,hle4,hm4⟩; exact⟨by exact Le.trans (by assumption) (by assumption),(by exact .refl _)⟩)) ?_;rintro v23 g4 _ ⟨rfl,hle4,hm4⟩;obtain ⟨px,cx,rfl⟩:=SlA.form hm4;have hv4:=hv3.mono hle4;have hEl:=extendR_len C M0 oM;refine pU I (aS I) (pN (tN (rZ (lK (qV 0 iT29 zT29 I I I) (lK (qV 1 isAgg41 sizeOf41 I I I) (lW (SO.call call17 I (edit14_spec E g4 _ _ C q0 q1 q2 hv4 hCf hedg hC4)) ?_))))));rintro _ g5 _ ⟨rfl,hle5,e,heR,heO⟩;obtain ⟨hes,hep⟩:=heO.few;have hk4:=heO.kind;obtain ⟨h0,hw1,hw2⟩:=edit_ok hright hs1 hs2 heO M0;have hX:=fun (g:PH) (s:Own) (v u ev:Value) (hv:Cells g v C) (hm:SlA encPr g u (extendR C M0)) (he:EdR g ev e)=>repairProg_spec E g s v u ev C (extendR C M0) e (appC C e).1 (appC C e).2 hv hm he oM oM (prog_to hCf e oM oM) (fun _=>⟨appC_fits C e,by have:=appC_few C e; omega⟩);rw[h0] at hX;rw[repairOut_ok hk4] at hX;have hXl:=extendR_len (appC C e).2 (extendR C M0) (by have:=appC_few C e; omega);clear heO h0;generalize extendR (appC C e).2 (extendR C M0)=W at *;generalize extendR C M0=m at *;generalize (appC C e).2=X at *;have heR0:=heR;obtain ⟨sv,pv,rfl,hsv,hpv⟩:=heR;obtain ⟨psv,csv,rfl⟩:=SlA.form hsv;obtain ⟨ppv,cpv,rfl⟩:=SlA.form hpv;have hv5:=hv4.mono hle5;have hm5:=SlA.mono hm4 hle5;refine bW (aL zeroValue39) fun b10=>?_;refine oZ (sK 0 zT39 rfl rfl rfl rfl rfl (by (repeat' (first | exact trivial | refine⟨by rfl,?_⟩)))) ?_;refine tZ (rZ (lK (qV 1 iT29 zT29 I I I) (lM I (lK (qV 0 iT39 zT39 I I I) (lW (SO.call call20 I (hX g5 _ _ _ _ hv5 hm5 heR0)) ?_)))));rintro _ g6 _ ⟨rfl,hle6,u6,pv6,rfl,hu6,hW6⟩;obtain ⟨q6,d6,rfl⟩:=hu6.form;obtain ⟨q6b,d6b,rfl⟩:∃ p c,pv6 = .slice p W.length c:=SlA.form hW6;have hm6:=SlA.mono hm5 hle6;have hleA:=hle1.trans (hle2.trans (hle3.trans (hle4.trans (hle5.trans hle6))));have hcW:W.length≤d6b:=(SlA.cap hW6).2;refine lM I (yX I (yX I (yX I (bW (aL zeroValue29) fun b11=>?_))));refine oZ (sK 0 zT29 I I I I I sB) ?_;refine lA I (aT I (sQ (sW I (lU (SU.eq (v':=vb false) (nQ I I) I) (tZ (cF I (kP (tN (sQ (rZ (lU (fA uT39 I zT3 I) (lK (qL (v:=vi e.kind) iT3 I (cO 1 I I)) (tZ (bK (rZ (yE I (aT I ?_)))))))))))))))));refine iP I (fun hk=>?_) (fun hk=>?_)
 ·obtain ⟨t,hWt,htl⟩:=hw1 hk;have hpre:m <+: W:=by rw[hWt]; exact List.prefix_append _ _
  have hlW:W.length=m.length+t.length:=by rw[hWt,List.length_append]
  have hcut:=SlA.cut (l:=0) (m:=m.length) hW6 (Nat.zero_le _) oM;rw[pre_take hpre] at hcut;refine sW I (lM I (yC I (lY I I I (eN uT31 I) (yC I (lY I I I (eN uT31 I) (lY I I I (SU.eq (v':=vb true) (gQ I I) (congrArg vb (decide_eq_true oM))) (yP I (lM I (yC I (yC I (lY I I I (eN uT31 I) (lY I I I (SU.sliceH uT31 zT44 I I oM oM) (yC I (SL.go (gT I I I dC) (SO.call call12 I (same13_refl E g6 _ _ _ m hcut hm6 oM)) dC ?_))))))))))))));rintro _ _ _ ⟨rfl,rfl,rfl⟩;refine yP I (lM I (yC I (lY I I I (eN uT31 I) (yC I (lY I I I (eN uT31 I) (lY I I I (aD I I oM) (lY I I I (SU.eq (v':=vb true) (SU.leq I I) (congrArg vb (decide_eq_true oM))) (yP I (aT I (rE (bR (tR (dR (s':=s) uR ?_)))))))))))));exact ST.ret1 (.inl I) results5 I ⟨I,I,hleA⟩
 ·refine rZ (yE I (aT I ?_));refine iP I (fun hk2=>?_) (fun hk2=>?_)
  ·have hpre:m.filter (freeOf e.cell) <+: W:=by
    have h1:=hw2 hk2;have h2:(fun p:Pr=>!decide (p.2=e.cell) && !decide (p.1=e.cell))=freeOf e.cell:=funext fun p=>by unfold freeOf; simp
    rw[h2] at h1;exact h1
   have hlW:=hpre.length_le;have hcut:=SlA.cut (l:=0) (m:=(m.filter (freeOf e.cell)).length) hW6 (Nat.zero_le _) hlW;rw[pre_take hpre] at hcut;have hfm:=List.length_filter_le (freeOf e.cell) m;refine rZ (aT I (sQ (rZ (aT I (bK (SC.drop (s':=pt b10 (.cells #[vi e.kind,vi e.cell,vi e.dim,vi e.new,vi e.other,.slice psv e.sides.length csv,.slice ppv e.pairs.length cpv] 39 (0,0))::s) (.cons _ (.cons_cons _ (.cons _ (.cons _ (.cons _ (.refl _)))))) (SC.nilRow 44 2 ?_)))))));refine oP (ι:=Value×Nat) (fun i=>[(7,vb true),(9,.slice px m.length cx),(10,pp b10 0),(12,.slice q6b W.length d6b),(14,i.1),(15,vi i.2)]) (fun _=>g6)
    (fun i=>rowA encPr 44 i.1 ((m.take i.2).filter (freeOf e.cell))::pt b10 (.cells #[vi e.kind,vi e.cell,vi e.dim,vi e.new,vi e.other,.slice psv e.sides.length csv,.slice ppv e.pairs.length cpv] 39 (0,0))::s)
    (fun i=>i.2≤m.length) (fun i=>m.length - i.2) (.slice none 0 0,0) sB rfl rfl (Nat.zero_le _) ?_
   rintro ⟨w,k⟩ hk;try dsimp only at hk ⊢
   refine sQ (sW I (lM I (lU (eN uT31 I) (yL I (tZ ?_)))));refine iP I (fun hlt=>?_) (fun hlt=>?_)
   ·have hkl:k<m.length:=oM;have hb1:=SlA.based hm6 oM;have hgk:m[((k:Nat):Int).toNat]?=some m[k]:=gE hkl;have hsucc:=free_succ hkl e.cell;have hfl:((m.take k).filter (freeOf e.cell)).length≤k:=Nat.le_trans (List.length_filter_le _ _) (by rw[List.length_take]; omega);generalize m[k]=x at *;obtain ⟨x1,x2⟩:=x;have f0:freeOf e.cell (x1,x2)=(decide (x2≠e.cell)&&decide (x1≠e.cell)):=rfl;have f1:x2≠e.cell→freeOf e.cell (x1,x2)=decide (x1≠e.cell):=fun h=>by rw[f0,decide_eq_true h,Bool.true_and]
    have f2:¬ x2≠e.cell→freeOf e.cell (x1,x2)=false:=fun h=>by rw[f0,decide_eq_false h,Bool.false_and]
    refine kP (tN (sQ (bK ?_)));refine SC.cutB 90 (freeOf e.cell (x1,x2)) ?_ ?_
    ·refine dW [] [(0,2),(1,2),(2,2),(3,2),(4,1),(5,2),(6,1),(7,2),(8,2),(9,2),(10,2),(11,2),(12,2),(13,1),(14,2),(15,1),(16,2),(17,2)] Tryz.mixed kR ?_;refine yM I (yM I (pU I (iA uT31 zT44 I I hb1 oM sL) (pU I (SU.indexAddrC uT44 zT3 I hb1 I dC dC) (pK I (aZ (e:=encPr) (o:=1) (u:=vi x2) iT3 I (SlA.rd hm6) hgk I) (pU I (fA uT39 I zT3 I) (pK I (qL (v:=vi e.cell) iT3 I (cO 1 I I)) (pU I (nQ I I) (yM I ?_))))))));refine SP.split ?_ ?_
     ·intro h81;refine yJ I (yJ I (SP.gu I (gT I I I dC) (iA uT31 zT44 I I hb1 oM sL) dC (SP.gu I (gT I I I dC) (SU.indexAddrC uT44 zT3 I hb1 I dC dC) dC (SP.gq I (gT I I I dC) (aZ (e:=encPr) (o:=0) (u:=vi x1) iT3 I (SlA.rd hm6) hgk I) dC (SP.gu I (gT I I I dC) (fA uT39 I zT3 I) dC (SP.gq I (gT I I I dC) (qL (v:=vi e.cell) iT3 I (cO 1 I I)) dC (SP.gu I (gT I I I dC) (nQ I I) dC (pU I (wT I I) (pN ?_)))))))));exact ST.mid1 (by (rw[f1 h81]; rfl)) mI
     ·intro h81;refine yG I (yG I (yG I (yG I (yI I (yG I (yI I (yG I (pU I (wF I I) (pN ?_)))))))));exact ST.mid1 (by (rw[f2 h81]; rfl)) mI
    refine iQ I (fun hc=>?_) (fun hc=>?_)
    ·rw[if_pos hc] at hsucc;refine rG (lM I (lM I (lM I (lU (iA uT31 zT44 I I hb1 oM sL) (lK (eA iT44 zT44 I (SlA.rd hm6) hgk) (lW (bS sty31 I I I (szs_mk ⟨I,trivial⟩) dC) ?_))))));rintro _ _ _ ⟨b96,rfl,rfl,rfl⟩;refine lW (aP (e:=encPr) (l:=(m.take k).filter (freeOf e.cell)) 0 (x1,x2) sty31 I I I I I oM oM) ?_;rintro ov' _ _ ⟨rfl,rfl⟩;refine lA I (nL (bN (tN (rG (lM I (yD I (lA I (nL ?_))))))));refine ST.to (fun w hw=>?_) (g':=g6) (s':=rowA encPr 44 ov' ((m.take (k+1)).filter (freeOf e.cell))::pt b10 (.cells #[vi e.kind,vi e.cell,vi e.dim,vi e.new,vi e.other,.slice psv e.sides.length csv,.slice ppv e.pairs.length cpv] 39 (0,0))::s) ?_
     ·rw[hsucc]; exact hw
     exact ST.again (ov',k+1) sB I I (by dsimp only; omega) (by dsimp only; omega)
    ·rw[if_neg (by rw[hc]; decide),List.append_nil] at hsucc;refine kP (bN (tN (rG (lM I (yD I (lA I (nL ?_)))))));refine ST.to (fun w hw=>?_) (g':=g6) (s':=rowA encPr 44 w ((m.take (k+1)).filter (freeOf e.cell))::pt b10 (.cells #[vi e.kind,vi e.cell,vi e.dim,vi e.new,vi e.other,.slice psv e.sides.length csv,.slice ppv e.pairs.length cpv] 39 (0,0))::s) ?_
     ·rw[hsucc]; exact hw
     exact ST.again (w,k+1) sB I I (by dsimp only; omega) (by dsimp only; omega)
   ·have hkk:m.take k=m:=tL oM;rw[hkk];refine xI (tX (tX (bX (tN (sQ (fS fun g7 hle7 hK=>?_))))));obtain ⟨q0,d0,rfl⟩:=Sl.form hK;have hK:SlA encPr g7 (.slice q0 (m.filter (freeOf e.cell)).length d0) (m.filter (freeOf e.cell)):=hK;refine rG (lM I (lM I (yC I (lY I I I (eN uT31 I) (yC I (lY I I I (eN uT31 I) (lY I I I (SU.eq (v':=vb true) (gQ I I) (congrArg vb (decide_eq_true oM))) (yP I (lM I (yC I (yC I (lY I I I (eN uT31 I) (lY I I I (SU.sliceH uT31 zT44 I I oM oM) (yC I (SL.go (gT I I I dC) (SO.call call12 I (same13_refl E g7 _ _ _ _ (SlA.mono hcut hle7) hK oM)) dC ?_)))))))))))))));rintro _ _ _ ⟨rfl,rfl,rfl⟩;refine yP I (aT I (rE (bR (tR (dR (s':=s) uR ?_)))));exact ST.ret1 (.inl I) results5 I ⟨I,I,hleA.trans hle7⟩
  ·refine kP (bN (tN (sW I (aT I (rE (dR (s':=s) uR ?_))))));exact ST.ret1 (.inl I) results5 I ⟨I,I,hleA⟩
theorem attach_done (E:World)(g:PH)(s:Own)(sp bs:Nat)(vL vG:Value)(L:List Int)(G:List Nat)(vn:Value)(ns:List Int)(q0 q1 q2:Int)(hL:Ints g vL L)(hG:SlA encB g vG (G.map fun x:Nat=>(x:Int)))(hsp:sp<256)(hbs:bs<256)(hGb:∀ x∈G,x<256)(hn:Ints g vn ns)(_:inI64 q0)(_:inI64 q1)(_:inI64 q2) :
  Ctr Tryz.prog E 5 #[.agg #[.int .u8 (sp:Int),vL,vG,.int .u8 (bs:Int)],vn,.agg #[vi q0,vi q1,vi q2]] g s (fun r g' s'=>r=vb true∧s=s'∧Le g g') :=
 attach_law E g s sp bs vL vG L G vn ns q0 q1 q2 hL hG hsp hbs hGb hn
end Go.Proofs.YtmmghffoakhheaaGreatDoor
namespace Go.Proofs.YtmmghffoakhheaaGreatDoor.repairAttachDone
open _root_.Go.Proofs.Tryz _root_.Go.Proofs.YtmmghffoakhheaaGreatDoor.Tryz
open Go Go.Sy Go.Pl Go.Proofs Go.Proofs.YtmmghffoakhheaaGreatDoor
open Go.ChangeShapes Go.WideShapes Go.ChangeAt Go.RowKit
set_option linter.unusedVariables false
theorem own:ownKnob Tryz.prog.godebug=none:=by kernel_rfl
theorem laidOut:laidOutB Tryz.prog=true:=by kernel_rfl
set_option maxRecDepth 100000 in
theorem lifted (os:Os)(started:os.Started)(H:Type)(enc:TypeId×Value→H) :
  ReturnsInHanded {} Tryz.checked os 5 .any (fun w args=>(Rows.repairAttachSpec.pre enc Tryz.prog f5 Rows.repairAttachRow.domain false w args∧laidMetH Tryz.prog Rows.repairAttachRow.laid w)∧sizedMet enc Tryz.prog f5 (OpenSpec.ofChange Rows.repairAttachSpec) false w args)
   (Rows.repairAttachSpec.post enc Tryz.prog f5 false true false false):=by
 refine returnsInHanded_of_change_and (C:=Tryz.checked) (X:=fun w _=>laidMetH Tryz.prog Rows.repairAttachRow.laid w) (fun _ _ _ hh h=>h.of_heap hh) own started kR func5
  (ChangeSpec.witness_shaped (enc:=enc) (C:=Tryz.checked) (os:=os) (X:=fun w _=>laidMetH Tryz.prog Rows.repairAttachRow.laid w) false (World.laidAll Tryz.prog os Rows.repairAttachRow.laid) #[.agg #[.int .u8 0,.slice none 0 0,.slice none 0 0,.int .u8 0],.slice none 0 0,.agg #[.int .i64 0,.int .i64 0,.int .i64 0]] 8 (World.laidAll_os _ _ _)
   (World.shaped_of_ZipB kR kR) kR kR kR
   (by rw[MakeChecks.laidMetH_plain _ _ _ kR]; exact laidMet_laidAll _ kR kR)) ?_
 intro W base args ds gs before hval0 hW hcnd hsz0 hL _;have hval:∀ (j:Nat) t v,f5.params[j]?=some t→args[j]?=some v→Value.okWide Tryz.prog W .any base t v:=hval0;have hW':=hW;obtain ⟨p,q,hA0,hV,rfl,hfz,hnd⟩:=hW;have hA:DataW.TrodAll enc Tryz.prog W 0 (fun _=>true) true f5.params.toList args.toList ds p:=hA0;rw[params5] at hA hval;obtain ⟨v0,vs0,d0,ds0,p0,q0,hargs,rfl,rfl,h0,r0⟩:=trodAll_cons hA;obtain ⟨v1,vs1,d1,ds1,p1,q1,rfl,rfl,rfl,h1,r1⟩:=trodAll_cons r0;obtain ⟨v2,vs2,d2,ds2,p2,q2,rfl,rfl,rfl,h2,r2⟩:=trodAll_cons r1;obtain ⟨rfl,rfl,rfl⟩:=trodAll_nil r2;obtain rfl:args = #[v0,v1,v2]:=by cases args; simp_all
 obtain ⟨rfl,rfl⟩:=trodVars_none hV;have lt0:∀ x∈p0,x.block<W.heap.size:=by obtain ⟨m,hm⟩:=h0; exact DataW.trod_lt m _ _ _ hm
 have lt1:∀ x∈p1,x.block<W.heap.size:=by obtain ⟨m,hm⟩:=h1; exact DataW.trod_lt m _ _ _ hm
 have lt2:∀ x∈p2,x.block<W.heap.size:=by obtain ⟨m,hm⟩:=h2; exact DataW.trod_lt m _ _ _ hm
 obtain ⟨sp,bs,vL,vG,L,G,e0,hL0,hG0,hsp,hbs,hGb⟩:=shape8_of (hval 0 25 v0 rfl rfl) h0;obtain ⟨a1,n1,c1,s1⟩:=okWide_slice uT22 (hval 1 22 v1 rfl rfl);obtain ⟨ns1,hn1⟩:=ints_arg h1 (by rw[s1]; rfl);obtain ⟨x2_0,x2_1,x2_2,e2,w2_0,w2_1,w2_2⟩:=arr3_of (hval 2 41 v2 rfl rfl) h2;clear hA0 hval0;have walk:Calls Tryz.prog 5 #[v0,v1,v2] W fun e w'=>e = .returned (.bool true)∧Below W.heap.size W w':=by
  rw[e0,e2];refine (attach_done (E0 W) (held W) [] sp bs vL vG L G _ ns1 x2_0 x2_1 x2_2 hL0 hG0 hsp hbs hGb hn1 w2_0 w2_1 w2_2 W (at_start W)).mono ?_;rintro e w' ⟨v,g',s',rfl,hat,rfl,rfl,hle⟩;exact⟨I,at_below hat hle⟩
 refine walk.mono fun e W' ⟨he,bel⟩=>?_;subst he;exact⟨_,I,_,_,_,[],_,[],hW',trodAll_mk1 (shut_bool underlying4 _),(trodAll_cons_mk (Below.trod laidOut kR (of_decide_eq_true kR) h0 bel lt0) (trodAll_cons_mk (Below.trod laidOut kR (of_decide_eq_true kR) h1 bel lt1) (trodAll_cons_mk (Below.trod laidOut kR (of_decide_eq_true kR) h2 bel lt2) trodAll_mk0))),I,bel.frame _,fun h=>by cases h⟩
theorem over:Rows.repairAttachRow.holds Tryz.pinned (OpenSpec.ofChange Rows.repairAttachSpec) :=
 OpenClaim.holds_of_wide 5 f5 rfl rfl rfl rfl rfl rfl rfl ⟨rfl,rfl,rfl,rfl,rfl⟩ rfl rfl rfl rfl rfl kR func5 kR
  (of_decide_eq_true kR) (by unfold Func.isWrapper; first | (rw[if_pos (by decide +kernel)]; kernel_rfl) | (rw[if_neg (by decide +kernel)]; exact⟨rfl,rfl⟩))
  (fun os started H enc _=>lifted os started H enc)
theorem proved:Rows.RepairAttachCardSaid :=
 Claim7.holds_tied_plain_at .later [] [.data,.pinned] true (true, "cc8490d755c8efa2bd5732542271e696329d87e8c2c1e45e59e8eb19c18b2b4e") false
  over (fun _ h=>by cases h) kR (fun _ h=>by cases h) repairAttach_row_tie rfl ⟨rfl,rfl⟩ kR rfl
  (fun f fn hf hfn=>by
   obtain rfl : f = 5:=Option.some.inj ((show Tryz.prog.funcNamed "cocycle/cocyclelaw14.RepairAttach" = some 5 by kernel_rfl).symm.trans hf) |>.symm
   obtain rfl:fn=f5:=(Option.some.inj (func5.symm.trans hfn)).symm;exact⟨by kernel_rfl,fun j t ht=>by
    rw[params5] at ht;have hm:t∈[25,22,41]:=by simpa using Array.mem_of_getElem? ht
    have hall:([25,22,41].all fun u=>!Tryz.prog.wantsStandIn u)=true:=by kernel_rfl
    exact (show Tryz.prog.wantsStandIn t=false by simpa using List.all_eq_true.1 hall t hm)⟩)
  kR
#print axioms proved
end Go.Proofs.YtmmghffoakhheaaGreatDoor.repairAttachDone
