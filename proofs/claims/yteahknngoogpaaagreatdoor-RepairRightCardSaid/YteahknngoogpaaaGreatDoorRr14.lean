/-
  What Extend returns is a right matching that begins with what Keep returns, and no further pair can be added.
-/
import Derived.Test.YteahknngoogpaaaGreatDoorRr10
import Derived.Test.YteahknngoogpaaaGreatDoorRr13
import Derived.Test.YteahknngoogpaaaGreatDoorTie
import Derived.Test.YteahknngoogpaaaGreatDoorCards
import Derived.LaidMore
import Derived.Lay
import Derived.SevenTiedAt
import Derived.Stop.Joined
set_option linter.unusedSimpArgs false
set_option linter.unusedVariables false
namespace Go.Proofs.YteahknngoogpaaaGreatDoor
open _root_.Go.Proofs.Tryz _root_.Go.Proofs.YteahknngoogpaaaGreatDoor.Tryz
open Go Go.Sy Go.Pl Go.Proofs
theorem rt_check {l:List Cl}(h:Rt (canonC l)):checkC l=(0,0):=by
 have hf:=h.few;rw[canonC_length] at hf;exact check_ok hf h.pos h.asc (fun x hx=>(h.form x hx).ok) h.around
theorem complex_right (sp:Nat)(L:List Int)(G:List Nat)(bs:Nat):(checkC (complexC sp L G bs)).2=0:=by rw[rt_check (complex_good sp L G bs).1]
section
variable {l:List Cl}(hl:(checkC l).2=0)
include hl
theorem Vd.check {T:List Pr}(hT:Vd l T):mcheckR l T=0:=by
 have h1:(List.range T.length).any (pairBad l T)=false:=List.any_eq_false.2 fun k hk=>by
  have hk:=List.mem_range.1 hk;have h2:=hT.bad hl (0,0) hk;have h3:pairBad l (T++[(0,0)]) k=pairBad l T k:=by
   unfold pairBad;rw[List.take_append_of_le_length oM,List.getD_eq_getElem?_getD,List.getD_eq_getElem?_getD,List.getElem?_append_left hk]
  rw[← h3,h2];decide
 have hnd:T.Nodup:=by
  have h2:=(List.nodup_append.1 hT.once).1;exact List.Pairwise.of_map Prod.fst (fun a b hab hne=>hab (by rw[hne])) h2
 have h2:ringR (adjS (sidC l)) T=false:=by
  rw[Bool.eq_false_iff];intro h;exact hT.free ((ringR_iff hnd).1 h)
 unfold mcheckR;rw[if_neg (by rw[hl]; decide),h1,adjR_eq hl,h2];rfl
theorem keep_vd (m:List Pr):Vd l (keepR l m):=(fold_take hl m (Vd.nil l)).2
theorem extend_vd (m:List Pr):Vd l (extendR l m):=by
 unfold extendR;rw[if_pos hl];exact (fold_take hl _ (keep_vd hl m)).2
omit hl in
theorem fold_prefix:∀ (m T:List Pr),T <+: m.foldl (takeR l) T
 | [],T=>List.prefix_refl T
 | p::m,T=>by
  rw[List.foldl_cons];refine List.IsPrefix.trans ?_ (fold_prefix m _);unfold takeR;split
  ·exact List.prefix_append _ _
  ·exact List.prefix_refl _
theorem keep_prefix (m:List Pr):keepR l m <+: extendR l m:=by
 unfold extendR;rw[if_pos hl];exact fold_prefix _ _
theorem snoc_not {T x:List Pr}(hT:Vd l T)(hx:Vd l x)(hs:∀ q∈T,q∈x)(p:Pr)(h:mcheckR l (T++[p])≠0):mcheckR l (x++[p])≠0:=by
 rw[mcheck_snoc hl hT p] at h;rw[mcheck_snoc hl hx p];have hu:∀ id,usedR T id=true→usedR x id=true:=fun id hid=>by
  rw[used_iff,List.mem_append,List.mem_map,List.mem_map] at hid ⊢
  rcases hid with ⟨q,hq,e⟩ | ⟨q,hq,e⟩
  ·exact .inl ⟨q,hs q hq,e⟩
  ·exact .inr ⟨q,hs q hq,e⟩
 by_cases hb:(usedR x p.1||usedR x p.2 || !(sidC l p.2).contains p.1)=true
 ·rw[if_pos hb]; decide
 ·rw[if_neg hb];have hb':(usedR x p.1||usedR x p.2 || !(sidC l p.2).contains p.1)=false:=by simpa using hb
  rw[Bool.or_eq_false_iff,Bool.or_eq_false_iff] at hb';obtain ⟨⟨h1,h2⟩,h3⟩:=hb';have g1:usedR T p.1=false:=by
   rw[Bool.eq_false_iff]; intro hc; rw[hu _ hc] at h1; cases h1
  have g2:usedR T p.2=false:=by
   rw[Bool.eq_false_iff]; intro hc; rw[hu _ hc] at h2; cases h2
  rw[g1,g2,h3,Bool.false_or,Bool.false_or,if_neg dC] at h;have hr:ringR (adjS (sidC l)) (T++[p])=true:=by
   refine Classical.byContradiction fun hc=>h ?_;rw[if_neg hc]
  have hnd:∀ {y:List Pr},Vd l y→usedR y p.1=false→(y++[p]).Nodup:=fun {y} hy hp=>by
   rw[List.nodup_append];refine⟨List.Pairwise.of_map Prod.fst (fun a b hab hne=>hab (by rw[hne])) (List.nodup_append.1 hy.once).1,by simp,fun a ha b hb e=>?_⟩;simp at hb;subst hb;subst e;rw[used_iff.2 (List.mem_append_left _ (List.mem_map.2 ⟨a,ha,rfl⟩))] at hp;cases hp
  obtain ⟨L,hL,hsub⟩:=(ringR_iff (hnd hT g1)).1 hr;have hr2:ringR (adjS (sidC l)) (x++[p])=true:=(ringR_iff (hnd hx h1)).2 ⟨L,hL,fun q hq=>by
   rcases List.mem_append.1 (hsub q hq) with h5 | h5
   ·exact List.mem_append_left _ (hs q h5)
   ·exact List.mem_append_right _ h5⟩
  rw[if_pos hr2];decide
theorem in_not {x:List Pr}(hx:Vd l x){p:Pr}(hp:p∈x):mcheckR l (x++[p])≠0:=by
 rw[mcheck_snoc hl hx p,used_iff.2 (List.mem_append_left _ (List.mem_map.2 ⟨p,hp,rfl⟩)),Bool.true_or,Bool.true_or,if_pos rfl];decide
theorem extend_full (m:List Pr){p:Pr}(hp:p∈pairsR l):mcheckR l (extendR l m++[p])≠0:=by
 obtain ⟨A,B,hAB⟩:=List.append_of_mem hp;have hx:=extend_vd hl m;have he:extendR l m=B.foldl (takeR l) (takeR l (A.foldl (takeR l) (keepR l m)) p):=by
  unfold extendR;rw[if_pos hl,hAB,List.foldl_append,List.foldl_cons]
 have hT:=(fold_take hl A (keep_vd hl m)).2;generalize A.foldl (takeR l) (keepR l m)=T at *;have hpre:=fold_prefix (l:=l) B (takeR l T p);rw[← he] at hpre;by_cases hc:mcheckR l (T++[p])=0
 ·have ht:takeR l T p=T++[p]:=by unfold takeR; rw[if_pos hc]
  rw[ht] at hpre;exact in_not hl hx (hpre.subset (by simp))
 ·have ht:takeR l T p=T:=by unfold takeR; rw[if_neg hc]
  rw[ht] at hpre;exact snoc_not hl hT hx (fun q hq=>hpre.subset hq) p hc
end
set_option maxRecDepth 100000
set_option maxHeartbeats 4000000
theorem right_law (E:World)(g:PH)(s:Own)(sp bs:Nat)(vL vG:Value)(L:List Int)(G:List Nat)(vn:Value)(ns:List Int)(hL:Ints g vL L)(hG:SlA encB g vG (G.map fun x:Nat=>(x:Int)))(hsp:sp<256)(hbs:bs<256)(hGb:∀ x∈G,x<256)(hn:Ints g vn ns) :
  Ctr Tryz.prog E 7 #[.agg #[.int .u8 (sp:Int),vL,vG,.int .u8 (bs:Int)],vn] g s (fun r g' s'=>r=vb true∧s=s'∧Le g g'):=by
 obtain ⟨pL,cL,rfl⟩:=SlA.form hL;obtain ⟨pG,cG,rfl⟩:=SlA.form hG;obtain ⟨pn,cn,rfl⟩:=SlA.form hn;obtain ⟨hCf,hCl⟩:=complex_fits sp L G bs;have hrt:=complex_right sp L G bs;have hPl:=pairsR_len _ hCl;have hAl:=askedC_len (pairsR (complexC sp L G bs)) ns;have hKl:=keepR_len (complexC sp L G bs) (askedC (pairsR (complexC sp L G bs)) ns);have hXl:=extendR_len (complexC sp L G bs) (askedC (pairsR (complexC sp L G bs)) ns) hCl;have hK0:=(keep_vd hrt (askedC (pairsR (complexC sp L G bs)) ns)).check hrt;have hX0:=(extend_vd hrt (askedC (pairsR (complexC sp L G bs)) ns)).check hrt;have hpre:=keep_prefix hrt (askedC (pairsR (complexC sp L G bs)) ns);have hfull:=fun p hp=>extend_full hrt (askedC (pairsR (complexC sp L G bs)) ns) (p:=p) hp;refine Ctr.of (args:=[.agg #[.int .u8 (sp:Int),.slice pL L.length cL,.slice pG (G.map fun x:Nat=>(x:Int)).length cG,.int .u8 (bs:Int)],.slice pn ns.length cn]) func7 I ntmps7 (bE I) ?_;refine SC.sR (SL.bx (bO I) fun b2=>?_);refine lA I (SL.nT (SC.sR (lW (SO.call call9 I (sane14 E g _)) ?_)));rintro _ g1 _ ⟨rfl,rfl,hle1⟩;refine lA I (SL.nT (SC.sR (lK (qV 0 isAgg25 sizeOf25 I I I) (lW (SO.call call10 I (shape8_spec E g1 _ sp bs _ _ L G (SlA.mono hL hle1) (SlA.mono hG hle1) hsp hbs hGb)) ?_))));rintro _ g2 _ ⟨rfl,hle2,u2,rfl,hv2⟩;generalize complexC sp L G bs=C at *;obtain ⟨q2,d2,rfl⟩:=hv2.form;refine SL.bx (aL zeroValue29) fun b6=>?_;refine SL.O2 (sK 0 zT29 I I I I I sB) ?_;refine SL.nT (SC.sR (lK (qV 0 iT29 zT29 I I I) (lM I (lW (SO.call call11 I (asked_spec E g2 _ _ _ C ns hv2 hCf oM (SlA.mono hn (hle1.trans hle2)) oM)) ?_))));rintro v17 g3 _ ⟨rfl,hle3,hm3⟩;generalize askedC (pairsR C) ns=M at *;obtain ⟨q3,d3,rfl⟩:=SlA.form hm3;have hv3:=hv2.mono hle3;refine lA I (SL.nT (SC.sR (lK (qV 0 iT29 zT29 I I I) (lM I (lW (SO.call call13 I (keepProg_spec E g3 _ _ _ C M hv3 hCf hm3 oM)) ?_)))));rintro v20 g4 _ ⟨rfl,hle4,hk4⟩;have hv4:=hv3.mono hle4;have hm4:=SlA.mono hm3 hle4;refine lA I (SL.nT (SC.sR (lK (qV 0 iT29 zT29 I I I) (lM I (lW (SO.call call15 I (extendProg_spec E g4 _ _ _ C M hv4 hCf oM hm4 oM)) ?_)))));rintro v23 g5 _ ⟨rfl,hle5,hx5⟩;have hv5:=hv4.mono hle5;have hk5:=SlA.mono hk4 hle5;refine lA I (SL.nT (sQ (SC.sR (lK (qV 0 iT29 zT29 I I I) (lM I (lW (SO.call call25 I (checkM_spec E g5 _ _ _ C _ hv5 hCf hx5 oM)) ?_))))));rintro _ g6 _ ⟨rfl,rfl,hle6⟩;rw[hX0];have hv6:=hv5.mono hle6;have hk6:=SlA.mono hk5 hle6;refine lU (nQ I I) (lM I (SL.gq (gT I I I dC) (qV 0 iT29 zT29 I I I) dC (lY I I I (mV I) (SL.go (gT I I I dC) (SO.call call25 I (checkM_spec E g6 _ _ _ C _ hv6 hCf hk6 oM)) dC ?_))));rintro _ g7 _ ⟨rfl,rfl,hle7⟩;rw[hK0];have hle57:=hle6.trans hle7;have hv7:=hv5.mono hle57;have hk7:=SlA.mono hk5 hle57;have hx7:=SlA.mono hx5 hle57;obtain ⟨q7,d7,rfl⟩:=SlA.form hx7;obtain ⟨q8,d8,rfl⟩:=SlA.form hk7;have hlKX:=hpre.length_le;have hcX:=(SlA.cap hx7).2;refine lY I I I (nQ I I) (lU (pF I I) (lM I (lY I I I (mV I) (lY I I I (eN uT31 I) (lY I I I (mV I) (lY I I I (eN uT31 I) (lY I I I (SU.eq (v':=vb false) (lS I I) (congrArg vb (decide_eq_false oM))) (lU (pF I I) (lM I (lY I I I (mV I) (lY I I I (mV I) (lY I I I (eN uT31 I) (lY I I I (SU.sliceH uT31 zT44 I I oM oM) (lY I I I (mV I) (SL.go (gT I I I dC) (SO.call call12 I (same13_refl E g7 _ _ _ (keepR C M) (by have h1:=SlA.cut (l:=0) (m:=(keepR C M).length) hx7 (Nat.zero_le _) hlKX; rw[List.drop_zero,Nat.sub_zero,List.prefix_iff_eq_take.1 hpre |>.symm] at h1; exact h1) hk7 oM)) dC ?_)))))))))))))));rintro _ _ _ ⟨rfl,rfl,rfl⟩;refine lY I I I (SU.not I) (lU (pF I I) (SL.nT (cF I (kP (tN (SC.sR (lK (qV 0 iT29 zT29 I I I) (lW (SO.call call26 I (pairs14_spec E g7 _ _ C hv7 hCf oM)) ?_))))))));rintro v51 g8 _ ⟨rfl,hle8,hP8⟩;obtain ⟨qP,dP,rfl⟩:=SlA.form hP8;refine lA I (SL.nT (sQ (SC.sR (lA I (SL.nT (bK ?_))))));have hx8:=SlA.mono hx7 hle8;have hv8:=hv7.mono hle8;generalize extendR C M=X at *;generalize hPe:pairsR C=P at *;refine SC.drop (s':=pt b6 (.cells #[.slice q2 C.length d2] 29 (0,0))::s) (.cons_cons _ (.cons _ (.refl _))) ?_;refine oP (ι:=Nat×PH) (fun i=>[(5,vb true),(6,pp b6 0),(9,.slice q7 X.length d7),(10,.slice qP P.length dP),(11,vi i.1)]) (fun i=>i.2) (fun _=>pt b6 (.cells #[.slice q2 C.length d2] 29 (0,0))::s) (fun i=>i.1≤P.length∧Le g8 i.2) (fun i=>P.length - i.1) (0,g8)
  sB rfl rfl ⟨Nat.zero_le _,Le.refl _⟩ ?_
 rintro ⟨k,gk⟩ ⟨hk,hlek⟩;dsimp only at hk hlek ⊢;refine sQ (SC.sR (lM I (lM I (lU (eN uT31 I) (lU (lS I I) (SL.nT ?_))))));refine iP I (fun hlt=>?_) (fun hlt=>?_)
 ·have hkl:k<P.length:=oM;have hPk:=SlA.mono hP8 hlek;have hxk:=SlA.mono hx8 hlek;have hvk:=hv8.mono hlek;have hb1:=SlA.based hPk oM;have hgk:P[((k:Nat):Int).toNat]?=some P[k]:=gE hkl;have hno:=hfull P[k] (gM hkl);generalize P[k]=x at *;refine kP (tN (sQ (bK ?_)));refine SC.cut (ι:=PH) (fun _=>[(5,vb true),(6,pp b6 0),(9,.slice q7 X.length d7),(10,.slice qP P.length dP),(11,vi k),(69,vb false)]) (fun g'=>g') (fun _=>pt b6 (.cells #[.slice q2 C.length d2] 29 (0,0))::s) (fun g'=>Le gk g') ?_ ?_
  ·refine SC.drawX [] Tryz.mixed (by kernel_rfl) ?_;refine SX.q (i:=0) I (by kernel_rfl) (qV 0 iT29 zT29 I I I) dC (SX.u (i:=2) I (by kernel_rfl) (mV I) dC (SX.u (i:=4) I (by kernel_rfl) (mV I) dC (SX.u (i:=5) I (by kernel_rfl) (mV I) dC (SX.u (i:=6) I (by kernel_rfl) (iA uT31 zT44 I I hb1 oM sL) dC (SX.q (i:=7) I (by kernel_rfl) (eA iT44 zT44 I (SlA.rd hPk) hgk) dC ?_)))));refine SX.br2 1 8 (by kernel_rfl) ?_ ?_
   ·refine SB.o (i:=1) rfl (SO.buildSlice sty31 rfl rfl rfl (szs_mk trivial) dC) dC (.inr (by rintro _ _ _ ⟨b59,rfl,rfl,rfl⟩; exact⟨by exact Le.refl _,(by exact .cons _ (.refl _))⟩)) ?_;rintro _ _ _ ⟨b59,rfl,rfl,rfl⟩;refine SX.drop (List.sublist_cons_self _ _) ?_;refine SX.br2 3 8 (by kernel_rfl) ?_ ?_
    ·refine SB.o (i:=3) rfl (SO.appNewA (e:=encPr) sty31 rfl rfl (by exact hxk) oM oM) dC (.inr (by rintro v61 _ _ ⟨rfl,rfl⟩; exact⟨by exact Le.refl _,(by exact .cons _ (.refl _))⟩)) ?_;rintro v61 _ _ ⟨rfl,rfl⟩;refine SX.br1 8 (by kernel_rfl) ?_
     ·refine SB.o (i:=8) rfl (SO.buildSlice sty31 rfl rfl rfl (szs_mk ⟨rfl,trivial⟩) dC) dC (.inr (by rintro _ _ _ ⟨b66,rfl,rfl,rfl⟩; exact⟨by exact Le.refl _,(by exact .cons _ (.cons _ (.refl _)))⟩)) ?_;rintro _ _ _ ⟨b66,rfl,rfl,rfl⟩;refine SX.to (fun w hw=>At.litRow (e:=encPr) (l:=[x]) (n:=0) hw I I dC) ?_;refine SX.freezeRow fun ga hlea hsa=>?_;refine SX.br1 9 (by kernel_rfl) ?_
      ·refine SB.o (i:=9) rfl (aQ (e:=encPr) (l:=X) 0 sty31 rfl rfl rfl hsa (by simp; omega) (by simp; omega)) dC (.inr (by rintro v67 _ _ ⟨rfl,rfl⟩; exact⟨by assumption,(by exact .cons _ (.refl _))⟩)) ?_;rintro v67 _ _ ⟨rfl,rfl⟩;refine SX.freezeRow fun gb hleb hsb=>?_;have hleab:=hlea.trans hleb;refine SX.br1 10 (by kernel_rfl) ?_
       ·refine SB.o (i:=10) rfl (SO.call call25 rfl (checkM_spec E gb _ _ _ C (X++[x]) (hvk.mono hleab) hCf hsb (by simp; omega))) dC (.inr (by rintro _ gc _ ⟨rfl,rfl,hlec⟩; exact⟨by exact Le.trans (by assumption) (by assumption),(by exact .refl _)⟩)) ?_;rintro _ gc _ ⟨rfl,rfl,hlec⟩;have hleac:=hleab.trans hlec;refine SX.u (i:=11) I (by kernel_rfl) (SU.eq (v':=vb false) (eQ I I) (congrArg vb (decide_eq_false hno))) dC (SX.nil (by kernel_rfl) ?_);exact ST.mid gc sB I I hleac
    ·refine SB.o (i:=8) rfl (SO.buildSlice sty31 rfl rfl rfl (szs_mk ⟨rfl,trivial⟩) dC) dC (.inr (by rintro _ _ _ ⟨b66,rfl,rfl,rfl⟩; exact⟨by exact Le.refl _,(by exact .cons _ (.refl _))⟩)) ?_;rintro _ _ _ ⟨b66,rfl,rfl,rfl⟩;refine SX.to (fun w hw=>At.litRow (e:=encPr) (l:=[x]) (n:=0) hw I I dC) ?_;refine SX.freezeRow fun ga hlea hsa=>?_;refine SX.br1 3 (by kernel_rfl) ?_
     ·refine SB.o (i:=3) rfl (SO.appNewA (e:=encPr) sty31 rfl rfl (by exact SlA.mono hxk (by assumption)) oM oM) dC (.inr (by rintro v61 _ _ ⟨rfl,rfl⟩; exact⟨by assumption,(by exact .cons _ (.refl _))⟩)) ?_;rintro v61 _ _ ⟨rfl,rfl⟩;refine SX.br1 9 (by kernel_rfl) ?_
      ·refine SB.o (i:=9) rfl (aQ (e:=encPr) (l:=X) 0 sty31 rfl rfl rfl hsa (by simp; omega) (by simp; omega)) dC (.inr (by rintro v67 _ _ ⟨rfl,rfl⟩; exact⟨by assumption,(by exact .cons _ (.refl _))⟩)) ?_;rintro v67 _ _ ⟨rfl,rfl⟩;refine SX.freezeRow fun gb hleb hsb=>?_;have hleab:=hlea.trans hleb;refine SX.br1 10 (by kernel_rfl) ?_
       ·refine SB.o (i:=10) rfl (SO.call call25 rfl (checkM_spec E gb _ _ _ C (X++[x]) (hvk.mono hleab) hCf hsb (by simp; omega))) dC (.inr (by rintro _ gc _ ⟨rfl,rfl,hlec⟩; exact⟨by exact Le.trans (by assumption) (by assumption),(by exact .refl _)⟩)) ?_;rintro _ gc _ ⟨rfl,rfl,hlec⟩;have hleac:=hleab.trans hlec;refine SX.u (i:=11) I (by kernel_rfl) (SU.eq (v':=vb false) (eQ I I) (congrArg vb (decide_eq_false hno))) dC (SX.nil (by kernel_rfl) ?_);exact ST.mid gc sB I I hleac
   ·refine SB.o (i:=8) rfl (SO.buildSlice sty31 rfl rfl rfl (szs_mk ⟨rfl,trivial⟩) dC) dC (.inr (by rintro _ _ _ ⟨b66,rfl,rfl,rfl⟩; exact⟨by exact Le.refl _,(by exact .cons _ (.refl _))⟩)) ?_;rintro _ _ _ ⟨b66,rfl,rfl,rfl⟩;refine SX.to (fun w hw=>At.litRow (e:=encPr) (l:=[x]) (n:=0) hw I I dC) ?_;refine SX.freezeRow fun ga hlea hsa=>?_;refine SX.br1 1 (by kernel_rfl) ?_
    ·refine SB.o (i:=1) rfl (SO.buildSlice sty31 rfl rfl rfl (szs_mk trivial) dC) dC (.inr (by rintro _ _ _ ⟨b59,rfl,rfl,rfl⟩; exact⟨by assumption,(by exact .cons _ (.refl _))⟩)) ?_;rintro _ _ _ ⟨b59,rfl,rfl,rfl⟩;refine SX.drop (List.sublist_cons_self _ _) ?_;refine SX.br1 3 (by kernel_rfl) ?_
     ·refine SB.o (i:=3) rfl (SO.appNewA (e:=encPr) sty31 rfl rfl (by exact SlA.mono hxk (by assumption)) oM oM) dC (.inr (by rintro v61 _ _ ⟨rfl,rfl⟩; exact⟨by assumption,(by exact .cons _ (.refl _))⟩)) ?_;rintro v61 _ _ ⟨rfl,rfl⟩;refine SX.br1 9 (by kernel_rfl) ?_
      ·refine SB.o (i:=9) rfl (aQ (e:=encPr) (l:=X) 0 sty31 rfl rfl rfl hsa (by simp; omega) (by simp; omega)) dC (.inr (by rintro v67 _ _ ⟨rfl,rfl⟩; exact⟨by assumption,(by exact .cons _ (.refl _))⟩)) ?_;rintro v67 _ _ ⟨rfl,rfl⟩;refine SX.freezeRow fun gb hleb hsb=>?_;have hleab:=hlea.trans hleb;refine SX.br1 10 (by kernel_rfl) ?_
       ·refine SB.o (i:=10) rfl (SO.call call25 rfl (checkM_spec E gb _ _ _ C (X++[x]) (hvk.mono hleab) hCf hsb (by simp; omega))) dC (.inr (by rintro _ gc _ ⟨rfl,rfl,hlec⟩; exact⟨by exact Le.trans (by assumption) (by assumption),(by exact .refl _)⟩)) ?_;rintro _ gc _ ⟨rfl,rfl,hlec⟩;have hleac:=hleab.trans hlec;refine SX.u (i:=11) I (by kernel_rfl) (SU.eq (v':=vb false) (eQ I I) (congrArg vb (decide_eq_false hno))) dC (SX.nil (by kernel_rfl) ?_);exact ST.mid gc sB I I hleac
  rintro g' hle';try dsimp only at hle' ⊢
  refine cF I (kP (bN (tN (rG (lM I (lU (aD I I oM) (lA I (nL ?_))))))));exact ST.again (k+1,g') sB I I ⟨by dsimp only; omega,hlek.trans hle'⟩ (by dsimp only; omega)
 ·refine xI (tX (tX (bX (tN (SC.sR (lM I (lA I (SL.nT (rE (dR (s':=s) (.cons _ (.refl _)) ?_))))))))));exact ST.ret1 (.inl I) results7 I ⟨I,I,hle1.trans (hle2.trans (hle3.trans (hle4.trans (hle5.trans (hle57.trans (hle8.trans hlek))))))⟩
theorem right_done (E:World)(g:PH)(s:Own)(sp bs:Nat)(vL vG:Value)(L:List Int)(G:List Nat)(vn:Value)(ns:List Int)(hL:Ints g vL L)(hG:SlA encB g vG (G.map fun x:Nat=>(x:Int)))(hsp:sp<256)(hbs:bs<256)(hGb:∀ x∈G,x<256)(hn:Ints g vn ns) :
  Ctr Tryz.prog E 7 #[.agg #[.int .u8 (sp:Int),vL,vG,.int .u8 (bs:Int)],vn] g s (fun r g' s'=>r=vb true∧s=s'∧Le g g') :=
 right_law E g s sp bs vL vG L G vn ns hL hG hsp hbs hGb hn
end Go.Proofs.YteahknngoogpaaaGreatDoor
namespace Go.Proofs.YteahknngoogpaaaGreatDoor.repairRightDone
open _root_.Go.Proofs.Tryz _root_.Go.Proofs.YteahknngoogpaaaGreatDoor.Tryz
open Go Go.Sy Go.Pl Go.Proofs Go.Proofs.YteahknngoogpaaaGreatDoor
open Go.ChangeShapes Go.WideShapes Go.ChangeAt Go.RowKit
set_option linter.unusedVariables false
theorem own:ownKnob Tryz.prog.godebug=none:=by kernel_rfl
theorem laidOut:laidOutB Tryz.prog=true:=by kernel_rfl
set_option maxRecDepth 100000 in
theorem lifted (os:Os)(started:os.Started)(H:Type)(enc:TypeId×Value→H) :
  ReturnsInHanded {} Tryz.checked os 7 .any (fun w args=>(Rows.repairRightSpec.pre enc Tryz.prog f7 Rows.repairRightRow.domain false w args∧laidMetH Tryz.prog Rows.repairRightRow.laid w)∧sizedMet enc Tryz.prog f7 (OpenSpec.ofChange Rows.repairRightSpec) false w args)
   (Rows.repairRightSpec.post enc Tryz.prog f7 false true false false):=by
 refine returnsInHanded_of_change_and (C:=Tryz.checked) (X:=fun w _=>laidMetH Tryz.prog Rows.repairRightRow.laid w) (fun _ _ _ hh h=>h.of_heap hh) own started (by kernel_rfl) func7
  (ChangeSpec.witness_shaped (enc:=enc) (C:=Tryz.checked) (os:=os) (X:=fun w _=>laidMetH Tryz.prog Rows.repairRightRow.laid w) false (World.laidAll Tryz.prog os Rows.repairRightRow.laid) #[.agg #[.int .u8 0,.slice none 0 0,.slice none 0 0,.int .u8 0],.slice none 0 0] 8 (World.laidAll_os _ _ _)
   (World.shaped_of_ZipB (by kernel_rfl) (by kernel_rfl)) (by kernel_rfl) (by kernel_rfl) (by kernel_rfl)
   (by rw[MakeChecks.laidMetH_plain _ _ _ (by kernel_rfl)]; exact laidMet_laidAll _ (by kernel_rfl) (by kernel_rfl))) ?_
 intro W base args ds gs before hval0 hW hcnd hsz0 hL _;have hval:∀ (j:Nat) t v,f7.params[j]?=some t→args[j]?=some v→Value.okWide Tryz.prog W .any base t v:=hval0;have hW':=hW;obtain ⟨p,q,hA0,hV,rfl,hfz,hnd⟩:=hW;have hA:DataW.TrodAll enc Tryz.prog W 0 (fun _=>true) true f7.params.toList args.toList ds p:=hA0;rw[params7] at hA hval;obtain ⟨v0,vs0,d0,ds0,p0,q0,hargs,rfl,rfl,h0,r0⟩:=trodAll_cons hA;obtain ⟨v1,vs1,d1,ds1,p1,q1,rfl,rfl,rfl,h1,r1⟩:=trodAll_cons r0;obtain ⟨rfl,rfl,rfl⟩:=trodAll_nil r1;obtain rfl:args = #[v0,v1]:=by cases args; simp_all
 obtain ⟨rfl,rfl⟩:=trodVars_none hV;have lt0:∀ x∈p0,x.block<W.heap.size:=by obtain ⟨m,hm⟩:=h0; exact DataW.trod_lt m _ _ _ hm
 have lt1:∀ x∈p1,x.block<W.heap.size:=by obtain ⟨m,hm⟩:=h1; exact DataW.trod_lt m _ _ _ hm
 obtain ⟨sp,bs,vL,vG,L,G,e0,hL0,hG0,hsp,hbs,hGb⟩:=shape8_of (hval 0 25 v0 rfl rfl) h0;obtain ⟨a1,n1,c1,s1⟩:=okWide_slice uT22 (hval 1 22 v1 rfl rfl);obtain ⟨ns1,hn1⟩:=ints_arg h1 (by rw[s1]; rfl);clear hA0 hval0;have walk:Calls Tryz.prog 7 #[v0,v1] W fun e w'=>e = .returned (.bool true)∧Below W.heap.size W w':=by
  rw[e0];refine (right_done (E0 W) (held W) [] sp bs vL vG L G _ ns1 hL0 hG0 hsp hbs hGb hn1 W (at_start W)).mono ?_;rintro e w' ⟨v,g',s',rfl,hat,rfl,rfl,hle⟩;exact⟨I,at_below hat hle⟩
 refine walk.mono fun e W' ⟨he,bel⟩=>?_;subst he;exact⟨_,I,_,_,_,[],_,[],hW',trodAll_mk1 (shut_bool underlying4 _),(trodAll_cons_mk (Below.trod laidOut (by kernel_rfl) (of_decide_eq_true (by kernel_rfl)) h0 bel lt0) (trodAll_cons_mk (Below.trod laidOut (by kernel_rfl) (of_decide_eq_true (by kernel_rfl)) h1 bel lt1) trodAll_mk0)),I,bel.frame _,fun h=>by cases h⟩
theorem over:Rows.repairRightRow.holds Tryz.pinned (OpenSpec.ofChange Rows.repairRightSpec) :=
 OpenClaim.holds_of_wide 7 f7 rfl rfl rfl rfl rfl rfl rfl ⟨rfl,rfl,rfl,rfl,rfl⟩ rfl rfl rfl rfl rfl (by kernel_rfl) func7 (by kernel_rfl)
  (of_decide_eq_true (by kernel_rfl)) (by unfold Func.isWrapper; first | (rw[if_pos (by decide +kernel)]; kernel_rfl) | (rw[if_neg (by decide +kernel)]; exact⟨rfl,rfl⟩))
  (fun os started H enc _=>lifted os started H enc)
theorem proved:Rows.RepairRightCardSaid :=
 Claim7.holds_tied_plain_at .later [] [.data,.pinned] true (true, "cc8490d755c8efa2bd5732542271e696329d87e8c2c1e45e59e8eb19c18b2b4e") false
  over (fun _ h=>by cases h) (by kernel_rfl) (fun _ h=>by cases h) repairRight_row_tie rfl ⟨rfl,rfl⟩ (by kernel_rfl) rfl
  (fun f fn hf hfn=>by
   obtain rfl : f = 7:=Option.some.inj ((show Tryz.prog.funcNamed "cocycle/cocyclelaw14.RepairRight" = some 7 by kernel_rfl).symm.trans hf) |>.symm
   obtain rfl:fn=f7:=(Option.some.inj (func7.symm.trans hfn)).symm;exact⟨by kernel_rfl,fun j t ht=>by
    rw[params7] at ht;have hm:t∈[25,22]:=by simpa using Array.mem_of_getElem? ht
    have hall:([25,22].all fun u=>!Tryz.prog.wantsStandIn u)=true:=by kernel_rfl
    exact (show Tryz.prog.wantsStandIn t=false by simpa using List.all_eq_true.1 hall t hm)⟩)
  (by kernel_rfl)
#print axioms proved
end Go.Proofs.YteahknngoogpaaaGreatDoor.repairRightDone
