/- Sp5 Sp6 Sp7 Sp8 Lp1 Tri4 LwK Ed1 Ed2 Ed3 SyDe SyCt Edp Ed4 -/
import Derived.Test.YteahknngoogpaaaGreatDoorRr11
import Derived.Test.YteahknngoogpaaaGreatDoorRr07
import Derived.Test.YteahknngoogpaaaGreatDoorRr09
import Derived.Test.YteahknngoogpaaaGreatDoorRr10
import Derived.Test.YteahknngoogpaaaGreatDoorRr05
import Derived.Test.YteahknngoogpaaaGreatDoorRr02
import Derived.Test.YteahknngoogpaaaGreatDoorRr03
import Derived.Test.YteahknngoogpaaaGreatDoorRr04
set_option linter.unusedSimpArgs false
set_option linter.unusedVariables false
namespace Go.Proofs.YteahknngoogpaaaGreatDoor
open _root_.Go.Proofs.Tryz _root_.Go.Proofs.YteahknngoogpaaaGreatDoor.Tryz
open Go Go.Sy Go.Pl Go.Proofs
set_option maxRecDepth 100000
set_option maxHeartbeats 1000000
def fineB (r:List Int):Bool:=!r.isEmpty&&decide (r.length<1000000)&&r.all fun n=>decide (-4611686018427387904≤n∧n≤4611686018427387904)
theorem fine_of {ls:List (List Int)}(h:ls.all fineB=true):∀ r∈ls,r≠[]∧r.length<1000000∧smallI r:=by
 intro r hr;have:=List.all_eq_true.1 h r hr;simp only[fineB,Bool.and_eq_true,Bool.not_eq_true',List.all_eq_true,decide_eq_true_eq] at this;exact⟨fun e=>by subst e; simp at this,this.1.2,this.2⟩
theorem modW_ten (n:Nat):modW (n:Int) 10=((n % 10:Nat):Int):=by
 unfold modW;rw[show ((n:Int)).tmod 10=((n % 10:Nat):Int) from rfl,IntWalk.i64_in _ oM];show (((n % 10+10) % 10:Nat):Int)=_;omega
theorem space_spec (E:World)(g:PH)(s:Own)(n:Nat):Ctr Tryz.prog E 29 #[vi (n:Int)] g s (fun y g' s'=>s=s'∧Le g g'∧∃ u,y = .agg #[u]∧Cells g' u (spaceC (n % 10))):=by
 have hm:=modW_ten n;have hlt10:=Nat.mod_lt n (show 0<10 by decide);generalize n % 10=m at *;have hms:∀ (g:PH) (s:Own),Ctr Tryz.prog E 19 #[vi (n:Int),vi 10] g s (fun r g' s'=>r=vi (m:Int)∧g=g'∧s=s'):=by
  intro g s;rw[← hm];exact mod_spec E g s (n:Int) 10 dC
 have hmo3:∀ (g:PH) (s:Own),Ctr Tryz.prog E 61 #[vi 3] g s (fun y g' s'=>s=s'∧Le g g'∧∃ u,y = .agg #[u]∧Cells g' u (rowsC 1 (mooreL 3))):=fun g s=>moore_spec E g s 3 dC;have hmo4:∀ (g:PH) (s:Own),Ctr Tryz.prog E 61 #[vi 4] g s (fun y g' s'=>s=s'∧Le g g'∧∃ u,y = .agg #[u]∧Cells g' u (rowsC 1 (mooreL 4))):=fun g s=>moore_spec E g s 4 dC;have hsp0:∀ (g:PH) (s:Own),Ctr Tryz.prog E 60 #[vi 0] g s (fun y g' s'=>s=s'∧Le g g'∧∃ u,y = .agg #[u]∧Cells g' u (rowsC 1 (sphL 0))):=fun g s=>sphere_spec E g s 0 dC;refine Ctr.of (args:=[vi (n:Int)]) func29 I ntmps29 (bE I) ?_;refine SC.sR (SL.bx (aL zeroValue29) fun b2=>?_);refine SL.nT (sQ (SC.sR (lM I (lW (SO.call call19 I (hms g _)) ?_))));rintro _ _ _ ⟨rfl,rfl,rfl⟩;refine SL.nT (bK (SC.sR (lU (eQ I I) (lA I (SL.nT ?_)))));have hten:m=0∨m=1∨m=2∨m=3∨m=4∨m=5∨m=6∨m=7∨m=8∨m=9:=oM
 rcases hten with rfl | rfl | rfl | rfl | rfl | rfl | rfl | rfl | rfl | rfl
 ·refine cT I (SC.sR (lW (SO.buildSlice sty22 I I I (szs_mk ⟨I,trivial⟩) dC) ?_));rintro _ _ _ ⟨b7,rfl,rfl,rfl⟩;refine SL.freeze fun g1 hle1 hb7=>?_;refine lW (SO.buildSlice sty108 I I I (szs_mk ⟨I,trivial⟩) dC) ?_;rintro _ _ _ ⟨b8,rfl,rfl,rfl⟩;refine SL.freeze fun g2 hle2 hb8=>?_;have hlit8:Lists g2 (.slice (some ⟨b8,0,none⟩) 1 1) [[0]]:=⟨[⟨some ⟨b7,0,none⟩,1,1⟩],SlA.lit hb8 rfl rfl,⟨SlA.lit (hle2 _ _ hb7) rfl rfl,trivial⟩⟩;refine lW (SO.call call59 I (complexOf_spec E g2 _ _ _ hlit8 dC (fine_of dC))) ?_;rintro _ g3 _ ⟨rfl,hle3,u,rfl,hu⟩;obtain ⟨q9,d9,rfl⟩:=hu.form;refine SL.O2 (sK 0 zT29 I I I I I sB) ?_;refine SL.nT (rE (bR (tR ?_)));exact ST.retCD 0 s (.inl I) results29 I iT29 zT29 I I (.cons _ (.refl _)) ⟨I,(hle1.trans (hle2.trans hle3)),_,I,hu⟩
 ·refine cF I (sQ (SC.sR (lU (eQ I I) (lA I (SL.nT (cT I (kP (tN (cT I (SC.sR (lM I (lW (SO.call call19 I (hms g _)) ?_))))))))))));rintro _ _ _ ⟨rfl,rfl,rfl⟩;refine lW (SO.call call60 I (sphere_spec E g _ 1 dC)) ?_;rintro _ g1 _ ⟨rfl,hle1,u,rfl,hu⟩;obtain ⟨q9,d9,rfl⟩:=hu.form;refine SL.O2 (sK 0 zT29 I I I I I sB) ?_;refine SL.nT (rE (bR (tR ?_)));exact ST.retCD 0 s (.inl I) results29 I iT29 zT29 I I (.cons _ (.refl _)) ⟨I,hle1,_,I,hu⟩
 ·refine cF I (sQ (SC.sR (lU (eQ I I) (lA I (SL.nT (cF I (SC.sR (lU (eQ I I) (lA I (SL.nT (cT I (kP (tN (cT I (SC.sR (lM I (lW (SO.call call19 I (hms g _)) ?_)))))))))))))))));rintro _ _ _ ⟨rfl,rfl,rfl⟩;refine lW (SO.call call60 I (sphere_spec E g _ 2 dC)) ?_;rintro _ g1 _ ⟨rfl,hle1,u,rfl,hu⟩;obtain ⟨q9,d9,rfl⟩:=hu.form;refine SL.O2 (sK 0 zT29 I I I I I sB) ?_;refine SL.nT (rE (bR (tR ?_)));exact ST.retCD 0 s (.inl I) results29 I iT29 zT29 I I (.cons _ (.refl _)) ⟨I,hle1,_,I,hu⟩
 ·refine cF I (sQ (SC.sR (lU (eQ I I) (lA I (SL.nT (cF I (SC.sR (lU (eQ I I) (lA I (SL.nT (cF I (rG (lU (eQ I I) (lA I (SL.nT (cT I (SC.sR (lM I (lW (SO.call call19 I (hms g _)) ?_)))))))))))))))))));rintro _ _ _ ⟨rfl,rfl,rfl⟩;refine lW (SO.call call60 I (sphere_spec E g _ 3 dC)) ?_;rintro _ g1 _ ⟨rfl,hle1,u,rfl,hu⟩;obtain ⟨q9,d9,rfl⟩:=hu.form;refine SL.O2 (sK 0 zT29 I I I I I sB) ?_;refine SL.nT (rE (bR (tR ?_)));exact ST.retCD 0 s (.inl I) results29 I iT29 zT29 I I (.cons _ (.refl _)) ⟨I,hle1,_,I,hu⟩
 ·refine cF I (sQ (SC.sR (lU (eQ I I) (lA I (SL.nT (cF I (SC.sR (lU (eQ I I) (lA I (SL.nT (cF I (rG (lU (eQ I I) (lA I (SL.nT (cF I (SC.sR (lU (eQ I I) (lA I (SL.nT (cT I (sQ ?_))))))))))))))))))))));refine rG (lW (SO.call call60 I (hsp0 g _)) ?_);rintro _ g1 _ ⟨rfl,hle1,u,rfl,hu⟩;obtain ⟨q9,d9,rfl⟩:=hu.form;refine SL.O2 (sK 0 zT29 I I I I I sB) ?_;refine SL.nT (rE (bR (tR ?_)));exact ST.retCD 0 s (.inl I) results29 I iT29 zT29 I I (.cons _ (.refl _)) ⟨I,hle1,_,I,hu⟩
 ·refine cF I (sQ (SC.sR (lU (eQ I I) (lA I (SL.nT (cF I (SC.sR (lU (eQ I I) (lA I (SL.nT (cF I (rG (lU (eQ I I) (lA I (SL.nT (cF I (SC.sR (lU (eQ I I) (lA I (SL.nT (cF I (sQ ?_))))))))))))))))))))));refine rG (lU (eQ I I) (lA I (SL.nT (cT I (SC.sR (lW (SO.buildSlice sty22 I I I (szs_mk ⟨I,trivial⟩) dC) ?_))))));rintro _ _ _ ⟨b22,rfl,rfl,rfl⟩;refine SL.freeze fun g1 hle1 hb22=>?_;refine lW (SO.buildSlice sty22 I I I (szs_mk ⟨I,trivial⟩) dC) ?_;rintro _ _ _ ⟨b23,rfl,rfl,rfl⟩;refine SL.freeze fun g2 hle2 hb23=>?_;refine lW (SO.buildSlice sty22 I I I (szs_mk ⟨I,trivial⟩) dC) ?_;rintro _ _ _ ⟨b24,rfl,rfl,rfl⟩;refine SL.freeze fun g3 hle3 hb24=>?_;refine lW (SO.buildSlice sty22 I I I (szs_mk sB) dC) ?_;rintro _ _ _ ⟨b25,rfl,rfl,rfl⟩;refine SL.freeze fun g4 hle4 hb25=>?_;refine lW (SO.buildSlice sty22 I I I (szs_mk sB) dC) ?_;rintro _ _ _ ⟨b26,rfl,rfl,rfl⟩;refine SL.freeze fun g5 hle5 hb26=>?_;refine lW (SO.buildSlice sty22 I I I (szs_mk sB) dC) ?_;rintro _ _ _ ⟨b27,rfl,rfl,rfl⟩;refine SL.freeze fun g6 hle6 hb27=>?_;refine lW (SO.buildSlice sty22 I I I (szs_mk sB) dC) ?_;rintro _ _ _ ⟨b28,rfl,rfl,rfl⟩;refine SL.freeze fun g7 hle7 hb28=>?_;refine lW (SO.buildSlice sty22 I I I (szs_mk sB) dC) ?_;rintro _ _ _ ⟨b29,rfl,rfl,rfl⟩;refine SL.freeze fun g8 hle8 hb29=>?_;refine lW (SO.buildSlice sty22 I I I (szs_mk sB) dC) ?_;rintro _ _ _ ⟨b30,rfl,rfl,rfl⟩;refine SL.freeze fun g9 hle9 hb30=>?_;refine lW (SO.buildSlice sty22 I I I (szs_mk sB) dC) ?_;rintro _ _ _ ⟨b31,rfl,rfl,rfl⟩;refine SL.freeze fun g10 hle10 hb31=>?_;refine lW (SO.buildSlice sty22 I I I (szs_mk sB) dC) ?_;rintro _ _ _ ⟨b32,rfl,rfl,rfl⟩;refine SL.freeze fun g11 hle11 hb32=>?_;refine lW (SO.buildSlice sty22 I I I (szs_mk sB) dC) ?_;rintro _ _ _ ⟨b33,rfl,rfl,rfl⟩;refine SL.freeze fun g12 hle12 hb33=>?_;refine lW (SO.buildSlice sty22 I I I (szs_mk sB) dC) ?_;rintro _ _ _ ⟨b34,rfl,rfl,rfl⟩;refine SL.freeze fun g13 hle13 hb34=>?_;refine lW (SO.buildSlice sty108 I I I (szs_mk sB) dC) ?_;rintro _ _ _ ⟨b35,rfl,rfl,rfl⟩;refine SL.freeze fun g14 hle14 hb35=>?_;have hlit35:Lists g14 (.slice (some ⟨b35,0,none⟩) 13 13) [[0],[0],[0],[1,-1,2],[1,-1,2],[1,-2,3],[1,-2,3],[1,-1,3],[1,-1,3],[2,4,6,-8],[2,4,7,-9],[2,5,6,-9],[2,5,7,-8]]:=⟨[⟨some ⟨b22,0,none⟩,1,1⟩,⟨some ⟨b23,0,none⟩,1,1⟩,⟨some ⟨b24,0,none⟩,1,1⟩,⟨some ⟨b25,0,none⟩,3,3⟩,⟨some ⟨b26,0,none⟩,3,3⟩,⟨some ⟨b27,0,none⟩,3,3⟩,⟨some ⟨b28,0,none⟩,3,3⟩,⟨some ⟨b29,0,none⟩,3,3⟩,⟨some ⟨b30,0,none⟩,3,3⟩,⟨some ⟨b31,0,none⟩,4,4⟩,⟨some ⟨b32,0,none⟩,4,4⟩,⟨some ⟨b33,0,none⟩,4,4⟩,⟨some ⟨b34,0,none⟩,4,4⟩],SlA.lit hb35 rfl rfl,⟨SlA.lit (hle14 _ _ (hle13 _ _ (hle12 _ _ (hle11 _ _ (hle10 _ _ (hle9 _ _ (hle8 _ _ (hle7 _ _ (hle6 _ _ (hle5 _ _ (hle4 _ _ (hle3 _ _ (hle2 _ _ hb22))))))))))))) rfl rfl,SlA.lit (hle14 _ _ (hle13 _ _ (hle12 _ _ (hle11 _ _ (hle10 _ _ (hle9 _ _ (hle8 _ _ (hle7 _ _ (hle6 _ _ (hle5 _ _ (hle4 _ _ (hle3 _ _ hb23)))))))))))) rfl rfl,SlA.lit (hle14 _ _ (hle13 _ _ (hle12 _ _ (hle11 _ _ (hle10 _ _ (hle9 _ _ (hle8 _ _ (hle7 _ _ (hle6 _ _ (hle5 _ _ (hle4 _ _ hb24))))))))))) rfl rfl,SlA.lit (hle14 _ _ (hle13 _ _ (hle12 _ _ (hle11 _ _ (hle10 _ _ (hle9 _ _ (hle8 _ _ (hle7 _ _ (hle6 _ _ (hle5 _ _ hb25)))))))))) rfl rfl,SlA.lit (hle14 _ _ (hle13 _ _ (hle12 _ _ (hle11 _ _ (hle10 _ _ (hle9 _ _ (hle8 _ _ (hle7 _ _ (hle6 _ _ hb26))))))))) rfl rfl,SlA.lit (hle14 _ _ (hle13 _ _ (hle12 _ _ (hle11 _ _ (hle10 _ _ (hle9 _ _ (hle8 _ _ (hle7 _ _ hb27)))))))) rfl rfl,SlA.lit (hle14 _ _ (hle13 _ _ (hle12 _ _ (hle11 _ _ (hle10 _ _ (hle9 _ _ (hle8 _ _ hb28))))))) rfl rfl,SlA.lit (hle14 _ _ (hle13 _ _ (hle12 _ _ (hle11 _ _ (hle10 _ _ (hle9 _ _ hb29)))))) rfl rfl,SlA.lit (hle14 _ _ (hle13 _ _ (hle12 _ _ (hle11 _ _ (hle10 _ _ hb30))))) rfl rfl,SlA.lit (hle14 _ _ (hle13 _ _ (hle12 _ _ (hle11 _ _ hb31)))) rfl rfl,SlA.lit (hle14 _ _ (hle13 _ _ (hle12 _ _ hb32))) rfl rfl,SlA.lit (hle14 _ _ (hle13 _ _ hb33)) rfl rfl,SlA.lit (hle14 _ _ hb34) rfl rfl,trivial⟩⟩;refine lW (SO.call call59 I (complexOf_spec E g14 _ _ _ hlit35 dC (fine_of dC))) ?_;rintro _ g15 _ ⟨rfl,hle15,u,rfl,hu⟩;obtain ⟨q9,d9,rfl⟩:=hu.form;refine SL.O2 (sK 0 zT29 I I I I I sB) ?_;refine SL.nT (rE (bR (tR ?_)));exact ST.retCD 0 s (.inl I) results29 I iT29 zT29 I I (.cons _ (.refl _)) ⟨I,(hle1.trans (hle2.trans (hle3.trans (hle4.trans (hle5.trans (hle6.trans (hle7.trans (hle8.trans (hle9.trans (hle10.trans (hle11.trans (hle12.trans (hle13.trans (hle14.trans hle15)))))))))))))),_,I,hu⟩
 ·refine cF I (sQ (SC.sR (lU (eQ I I) (lA I (SL.nT (cF I (SC.sR (lU (eQ I I) (lA I (SL.nT (cF I (rG (lU (eQ I I) (lA I (SL.nT (cF I (SC.sR (lU (eQ I I) (lA I (SL.nT (cF I (sQ ?_))))))))))))))))))))));refine rG (lU (eQ I I) (lA I (SL.nT (cF I (SC.sR (lU (eQ I I) (lA I (SL.nT (cT I (SC.sR (lW (SO.call call61 I (hmo3 g _)) ?_)))))))))));rintro _ g1 _ ⟨rfl,hle1,u,rfl,hu⟩;obtain ⟨q9,d9,rfl⟩:=hu.form;refine SL.O2 (sK 0 zT29 I I I I I sB) ?_;refine SL.nT (rE (bR (tR ?_)));exact ST.retCD 0 s (.inl I) results29 I iT29 zT29 I I (.cons _ (.refl _)) ⟨I,hle1,_,I,hu⟩
 ·refine cF I (sQ (SC.sR (lU (eQ I I) (lA I (SL.nT (cF I (SC.sR (lU (eQ I I) (lA I (SL.nT (cF I (rG (lU (eQ I I) (lA I (SL.nT (cF I (SC.sR (lU (eQ I I) (lA I (SL.nT (cF I (sQ ?_))))))))))))))))))))));refine rG (lU (eQ I I) (lA I (SL.nT (cF I (SC.sR (lU (eQ I I) (lA I (SL.nT (cF I (SC.sR (lU (eQ I I) (lA I (SL.nT (cT I (SC.sR (lW (SO.buildSlice sty22 I I I (szs_mk ⟨I,trivial⟩) dC) ?_))))))))))))))));rintro _ _ _ ⟨b42,rfl,rfl,rfl⟩;refine SL.freeze fun g1 hle1 hb42=>?_;refine lW (SO.buildSlice sty22 I I I (szs_mk ⟨I,trivial⟩) dC) ?_;rintro _ _ _ ⟨b43,rfl,rfl,rfl⟩;refine SL.freeze fun g2 hle2 hb43=>?_;refine lW (SO.buildSlice sty22 I I I (szs_mk ⟨I,trivial⟩) dC) ?_;rintro _ _ _ ⟨b44,rfl,rfl,rfl⟩;refine SL.freeze fun g3 hle3 hb44=>?_;refine lW (SO.buildSlice sty22 I I I (szs_mk ⟨I,trivial⟩) dC) ?_;rintro _ _ _ ⟨b45,rfl,rfl,rfl⟩;refine SL.freeze fun g4 hle4 hb45=>?_;refine lW (SO.buildSlice sty22 I I I (szs_mk sB) dC) ?_;rintro _ _ _ ⟨b46,rfl,rfl,rfl⟩;refine SL.freeze fun g5 hle5 hb46=>?_;refine lW (SO.buildSlice sty22 I I I (szs_mk sB) dC) ?_;rintro _ _ _ ⟨b47,rfl,rfl,rfl⟩;refine SL.freeze fun g6 hle6 hb47=>?_;refine lW (SO.buildSlice sty22 I I I (szs_mk sB) dC) ?_;rintro _ _ _ ⟨b48,rfl,rfl,rfl⟩;refine SL.freeze fun g7 hle7 hb48=>?_;refine lW (SO.buildSlice sty22 I I I (szs_mk sB) dC) ?_;rintro _ _ _ ⟨b49,rfl,rfl,rfl⟩;refine SL.freeze fun g8 hle8 hb49=>?_;refine lW (SO.buildSlice sty22 I I I (szs_mk sB) dC) ?_;rintro _ _ _ ⟨b50,rfl,rfl,rfl⟩;refine SL.freeze fun g9 hle9 hb50=>?_;refine lW (SO.buildSlice sty22 I I I (szs_mk sB) dC) ?_;rintro _ _ _ ⟨b51,rfl,rfl,rfl⟩;refine SL.freeze fun g10 hle10 hb51=>?_;refine lW (SO.buildSlice sty22 I I I (szs_mk sB) dC) ?_;rintro _ _ _ ⟨b52,rfl,rfl,rfl⟩;refine SL.freeze fun g11 hle11 hb52=>?_;refine lW (SO.buildSlice sty22 I I I (szs_mk sB) dC) ?_;rintro _ _ _ ⟨b53,rfl,rfl,rfl⟩;refine SL.freeze fun g12 hle12 hb53=>?_;refine lW (SO.buildSlice sty22 I I I (szs_mk sB) dC) ?_;rintro _ _ _ ⟨b54,rfl,rfl,rfl⟩;refine SL.freeze fun g13 hle13 hb54=>?_;refine lW (SO.buildSlice sty22 I I I (szs_mk sB) dC) ?_;rintro _ _ _ ⟨b55,rfl,rfl,rfl⟩;refine SL.freeze fun g14 hle14 hb55=>?_;refine lW (SO.buildSlice sty22 I I I (szs_mk sB) dC) ?_;rintro _ _ _ ⟨b56,rfl,rfl,rfl⟩;refine SL.freeze fun g15 hle15 hb56=>?_;refine lW (SO.buildSlice sty22 I I I (szs_mk sB) dC) ?_;rintro _ _ _ ⟨b57,rfl,rfl,rfl⟩;refine SL.freeze fun g16 hle16 hb57=>?_;refine lW (SO.buildSlice sty108 I I I (szs_mk sB) dC) ?_;rintro _ _ _ ⟨b58,rfl,rfl,rfl⟩;refine SL.freeze fun g17 hle17 hb58=>?_;have hlit58:Lists g17 (.slice (some ⟨b58,0,none⟩) 16 16) [[0],[0],[0],[0],[1,-1,2],[1,-1,2],[1,-3,4],[1,-3,4],[1,-1,3],[1,-2,4],[1,-3,1],[1,-4,2],[2,5,10,-7,-9],[2,6,10,-8,-9],[2,7,12,-6,-11],[2,8,12,-5,-11]]:=⟨[⟨some ⟨b42,0,none⟩,1,1⟩,⟨some ⟨b43,0,none⟩,1,1⟩,⟨some ⟨b44,0,none⟩,1,1⟩,⟨some ⟨b45,0,none⟩,1,1⟩,⟨some ⟨b46,0,none⟩,3,3⟩,⟨some ⟨b47,0,none⟩,3,3⟩,⟨some ⟨b48,0,none⟩,3,3⟩,⟨some ⟨b49,0,none⟩,3,3⟩,⟨some ⟨b50,0,none⟩,3,3⟩,⟨some ⟨b51,0,none⟩,3,3⟩,⟨some ⟨b52,0,none⟩,3,3⟩,⟨some ⟨b53,0,none⟩,3,3⟩,⟨some ⟨b54,0,none⟩,5,5⟩,⟨some ⟨b55,0,none⟩,5,5⟩,⟨some ⟨b56,0,none⟩,5,5⟩,⟨some ⟨b57,0,none⟩,5,5⟩],SlA.lit hb58 rfl rfl,⟨SlA.lit (hle17 _ _ (hle16 _ _ (hle15 _ _ (hle14 _ _ (hle13 _ _ (hle12 _ _ (hle11 _ _ (hle10 _ _ (hle9 _ _ (hle8 _ _ (hle7 _ _ (hle6 _ _ (hle5 _ _ (hle4 _ _ (hle3 _ _ (hle2 _ _ hb42)))))))))))))))) rfl rfl,SlA.lit (hle17 _ _ (hle16 _ _ (hle15 _ _ (hle14 _ _ (hle13 _ _ (hle12 _ _ (hle11 _ _ (hle10 _ _ (hle9 _ _ (hle8 _ _ (hle7 _ _ (hle6 _ _ (hle5 _ _ (hle4 _ _ (hle3 _ _ hb43))))))))))))))) rfl rfl,SlA.lit (hle17 _ _ (hle16 _ _ (hle15 _ _ (hle14 _ _ (hle13 _ _ (hle12 _ _ (hle11 _ _ (hle10 _ _ (hle9 _ _ (hle8 _ _ (hle7 _ _ (hle6 _ _ (hle5 _ _ (hle4 _ _ hb44)))))))))))))) rfl rfl,SlA.lit (hle17 _ _ (hle16 _ _ (hle15 _ _ (hle14 _ _ (hle13 _ _ (hle12 _ _ (hle11 _ _ (hle10 _ _ (hle9 _ _ (hle8 _ _ (hle7 _ _ (hle6 _ _ (hle5 _ _ hb45))))))))))))) rfl rfl,SlA.lit (hle17 _ _ (hle16 _ _ (hle15 _ _ (hle14 _ _ (hle13 _ _ (hle12 _ _ (hle11 _ _ (hle10 _ _ (hle9 _ _ (hle8 _ _ (hle7 _ _ (hle6 _ _ hb46)))))))))))) rfl rfl,SlA.lit (hle17 _ _ (hle16 _ _ (hle15 _ _ (hle14 _ _ (hle13 _ _ (hle12 _ _ (hle11 _ _ (hle10 _ _ (hle9 _ _ (hle8 _ _ (hle7 _ _ hb47))))))))))) rfl rfl,SlA.lit (hle17 _ _ (hle16 _ _ (hle15 _ _ (hle14 _ _ (hle13 _ _ (hle12 _ _ (hle11 _ _ (hle10 _ _ (hle9 _ _ (hle8 _ _ hb48)))))))))) rfl rfl,SlA.lit (hle17 _ _ (hle16 _ _ (hle15 _ _ (hle14 _ _ (hle13 _ _ (hle12 _ _ (hle11 _ _ (hle10 _ _ (hle9 _ _ hb49))))))))) rfl rfl,SlA.lit (hle17 _ _ (hle16 _ _ (hle15 _ _ (hle14 _ _ (hle13 _ _ (hle12 _ _ (hle11 _ _ (hle10 _ _ hb50)))))))) rfl rfl,SlA.lit (hle17 _ _ (hle16 _ _ (hle15 _ _ (hle14 _ _ (hle13 _ _ (hle12 _ _ (hle11 _ _ hb51))))))) rfl rfl,SlA.lit (hle17 _ _ (hle16 _ _ (hle15 _ _ (hle14 _ _ (hle13 _ _ (hle12 _ _ hb52)))))) rfl rfl,SlA.lit (hle17 _ _ (hle16 _ _ (hle15 _ _ (hle14 _ _ (hle13 _ _ hb53))))) rfl rfl,SlA.lit (hle17 _ _ (hle16 _ _ (hle15 _ _ (hle14 _ _ hb54)))) rfl rfl,SlA.lit (hle17 _ _ (hle16 _ _ (hle15 _ _ hb55))) rfl rfl,SlA.lit (hle17 _ _ (hle16 _ _ hb56)) rfl rfl,SlA.lit (hle17 _ _ hb57) rfl rfl,trivial⟩⟩;refine lW (SO.call call59 I (complexOf_spec E g17 _ _ _ hlit58 dC (fine_of dC))) ?_;rintro _ g18 _ ⟨rfl,hle18,u,rfl,hu⟩;obtain ⟨q9,d9,rfl⟩:=hu.form;refine SL.O2 (sK 0 zT29 I I I I I sB) ?_;refine SL.nT (rE (bR (tR ?_)));exact ST.retCD 0 s (.inl I) results29 I iT29 zT29 I I (.cons _ (.refl _)) ⟨I,(hle1.trans (hle2.trans (hle3.trans (hle4.trans (hle5.trans (hle6.trans (hle7.trans (hle8.trans (hle9.trans (hle10.trans (hle11.trans (hle12.trans (hle13.trans (hle14.trans (hle15.trans (hle16.trans (hle17.trans hle18))))))))))))))))),_,I,hu⟩
 ·refine cF I (sQ (SC.sR (lU (eQ I I) (lA I (SL.nT (cF I (SC.sR (lU (eQ I I) (lA I (SL.nT (cF I (rG (lU (eQ I I) (lA I (SL.nT (cF I (SC.sR (lU (eQ I I) (lA I (SL.nT (cF I (sQ ?_))))))))))))))))))))));refine rG (lU (eQ I I) (lA I (SL.nT (cF I (SC.sR (lU (eQ I I) (lA I (SL.nT (cF I (SC.sR (lU (eQ I I) (lA I (SL.nT (cF I (SC.sR (lU (eQ I I) (lA I (SL.nT (cT I (SC.sR (lW (SO.buildSlice sty22 I I I (szs_mk ⟨I,trivial⟩) dC) ?_)))))))))))))))))))));rintro _ _ _ ⟨b62,rfl,rfl,rfl⟩;refine SL.freeze fun g1 hle1 hb62=>?_;refine lW (SO.buildSlice sty22 I I I (szs_mk ⟨I,trivial⟩) dC) ?_;rintro _ _ _ ⟨b63,rfl,rfl,rfl⟩;refine SL.freeze fun g2 hle2 hb63=>?_;refine lW (SO.buildSlice sty22 I I I (szs_mk ⟨I,trivial⟩) dC) ?_;rintro _ _ _ ⟨b64,rfl,rfl,rfl⟩;refine SL.freeze fun g3 hle3 hb64=>?_;refine lW (SO.buildSlice sty22 I I I (szs_mk ⟨I,trivial⟩) dC) ?_;rintro _ _ _ ⟨b65,rfl,rfl,rfl⟩;refine SL.freeze fun g4 hle4 hb65=>?_;refine lW (SO.buildSlice sty22 I I I (szs_mk sB) dC) ?_;rintro _ _ _ ⟨b66,rfl,rfl,rfl⟩;refine SL.freeze fun g5 hle5 hb66=>?_;refine lW (SO.buildSlice sty22 I I I (szs_mk sB) dC) ?_;rintro _ _ _ ⟨b67,rfl,rfl,rfl⟩;refine SL.freeze fun g6 hle6 hb67=>?_;refine lW (SO.buildSlice sty22 I I I (szs_mk sB) dC) ?_;rintro _ _ _ ⟨b68,rfl,rfl,rfl⟩;refine SL.freeze fun g7 hle7 hb68=>?_;refine lW (SO.buildSlice sty22 I I I (szs_mk sB) dC) ?_;rintro _ _ _ ⟨b69,rfl,rfl,rfl⟩;refine SL.freeze fun g8 hle8 hb69=>?_;refine lW (SO.buildSlice sty22 I I I (szs_mk sB) dC) ?_;rintro _ _ _ ⟨b70,rfl,rfl,rfl⟩;refine SL.freeze fun g9 hle9 hb70=>?_;refine lW (SO.buildSlice sty22 I I I (szs_mk sB) dC) ?_;rintro _ _ _ ⟨b71,rfl,rfl,rfl⟩;refine SL.freeze fun g10 hle10 hb71=>?_;refine lW (SO.buildSlice sty22 I I I (szs_mk sB) dC) ?_;rintro _ _ _ ⟨b72,rfl,rfl,rfl⟩;refine SL.freeze fun g11 hle11 hb72=>?_;refine lW (SO.buildSlice sty22 I I I (szs_mk sB) dC) ?_;rintro _ _ _ ⟨b73,rfl,rfl,rfl⟩;refine SL.freeze fun g12 hle12 hb73=>?_;refine lW (SO.buildSlice sty22 I I I (szs_mk sB) dC) ?_;rintro _ _ _ ⟨b74,rfl,rfl,rfl⟩;refine SL.freeze fun g13 hle13 hb74=>?_;refine lW (SO.buildSlice sty22 I I I (szs_mk sB) dC) ?_;rintro _ _ _ ⟨b75,rfl,rfl,rfl⟩;refine SL.freeze fun g14 hle14 hb75=>?_;refine lW (SO.buildSlice sty22 I I I (szs_mk sB) dC) ?_;rintro _ _ _ ⟨b76,rfl,rfl,rfl⟩;refine SL.freeze fun g15 hle15 hb76=>?_;refine lW (SO.buildSlice sty22 I I I (szs_mk sB) dC) ?_;rintro _ _ _ ⟨b77,rfl,rfl,rfl⟩;refine SL.freeze fun g16 hle16 hb77=>?_;refine lW (SO.buildSlice sty108 I I I (szs_mk sB) dC) ?_;rintro _ _ _ ⟨b78,rfl,rfl,rfl⟩;refine SL.freeze fun g17 hle17 hb78=>?_;have hlit78:Lists g17 (.slice (some ⟨b78,0,none⟩) 16 16) [[0],[0],[0],[0],[1,-1,2],[1,-1,2],[1,-3,4],[1,-3,4],[1,-1,3],[1,-2,4],[1,-3,1],[1,-4,2],[2,5,10,-7,-9],[2,6,10,-8,-9],[2,7,12,-5,-11],[2,8,12,-6,-11]]:=⟨[⟨some ⟨b62,0,none⟩,1,1⟩,⟨some ⟨b63,0,none⟩,1,1⟩,⟨some ⟨b64,0,none⟩,1,1⟩,⟨some ⟨b65,0,none⟩,1,1⟩,⟨some ⟨b66,0,none⟩,3,3⟩,⟨some ⟨b67,0,none⟩,3,3⟩,⟨some ⟨b68,0,none⟩,3,3⟩,⟨some ⟨b69,0,none⟩,3,3⟩,⟨some ⟨b70,0,none⟩,3,3⟩,⟨some ⟨b71,0,none⟩,3,3⟩,⟨some ⟨b72,0,none⟩,3,3⟩,⟨some ⟨b73,0,none⟩,3,3⟩,⟨some ⟨b74,0,none⟩,5,5⟩,⟨some ⟨b75,0,none⟩,5,5⟩,⟨some ⟨b76,0,none⟩,5,5⟩,⟨some ⟨b77,0,none⟩,5,5⟩],SlA.lit hb78 rfl rfl,⟨SlA.lit (hle17 _ _ (hle16 _ _ (hle15 _ _ (hle14 _ _ (hle13 _ _ (hle12 _ _ (hle11 _ _ (hle10 _ _ (hle9 _ _ (hle8 _ _ (hle7 _ _ (hle6 _ _ (hle5 _ _ (hle4 _ _ (hle3 _ _ (hle2 _ _ hb62)))))))))))))))) rfl rfl,SlA.lit (hle17 _ _ (hle16 _ _ (hle15 _ _ (hle14 _ _ (hle13 _ _ (hle12 _ _ (hle11 _ _ (hle10 _ _ (hle9 _ _ (hle8 _ _ (hle7 _ _ (hle6 _ _ (hle5 _ _ (hle4 _ _ (hle3 _ _ hb63))))))))))))))) rfl rfl,SlA.lit (hle17 _ _ (hle16 _ _ (hle15 _ _ (hle14 _ _ (hle13 _ _ (hle12 _ _ (hle11 _ _ (hle10 _ _ (hle9 _ _ (hle8 _ _ (hle7 _ _ (hle6 _ _ (hle5 _ _ (hle4 _ _ hb64)))))))))))))) rfl rfl,SlA.lit (hle17 _ _ (hle16 _ _ (hle15 _ _ (hle14 _ _ (hle13 _ _ (hle12 _ _ (hle11 _ _ (hle10 _ _ (hle9 _ _ (hle8 _ _ (hle7 _ _ (hle6 _ _ (hle5 _ _ hb65))))))))))))) rfl rfl,SlA.lit (hle17 _ _ (hle16 _ _ (hle15 _ _ (hle14 _ _ (hle13 _ _ (hle12 _ _ (hle11 _ _ (hle10 _ _ (hle9 _ _ (hle8 _ _ (hle7 _ _ (hle6 _ _ hb66)))))))))))) rfl rfl,SlA.lit (hle17 _ _ (hle16 _ _ (hle15 _ _ (hle14 _ _ (hle13 _ _ (hle12 _ _ (hle11 _ _ (hle10 _ _ (hle9 _ _ (hle8 _ _ (hle7 _ _ hb67))))))))))) rfl rfl,SlA.lit (hle17 _ _ (hle16 _ _ (hle15 _ _ (hle14 _ _ (hle13 _ _ (hle12 _ _ (hle11 _ _ (hle10 _ _ (hle9 _ _ (hle8 _ _ hb68)))))))))) rfl rfl,SlA.lit (hle17 _ _ (hle16 _ _ (hle15 _ _ (hle14 _ _ (hle13 _ _ (hle12 _ _ (hle11 _ _ (hle10 _ _ (hle9 _ _ hb69))))))))) rfl rfl,SlA.lit (hle17 _ _ (hle16 _ _ (hle15 _ _ (hle14 _ _ (hle13 _ _ (hle12 _ _ (hle11 _ _ (hle10 _ _ hb70)))))))) rfl rfl,SlA.lit (hle17 _ _ (hle16 _ _ (hle15 _ _ (hle14 _ _ (hle13 _ _ (hle12 _ _ (hle11 _ _ hb71))))))) rfl rfl,SlA.lit (hle17 _ _ (hle16 _ _ (hle15 _ _ (hle14 _ _ (hle13 _ _ (hle12 _ _ hb72)))))) rfl rfl,SlA.lit (hle17 _ _ (hle16 _ _ (hle15 _ _ (hle14 _ _ (hle13 _ _ hb73))))) rfl rfl,SlA.lit (hle17 _ _ (hle16 _ _ (hle15 _ _ (hle14 _ _ hb74)))) rfl rfl,SlA.lit (hle17 _ _ (hle16 _ _ (hle15 _ _ hb75))) rfl rfl,SlA.lit (hle17 _ _ (hle16 _ _ hb76)) rfl rfl,SlA.lit (hle17 _ _ hb77) rfl rfl,trivial⟩⟩;refine lW (SO.call call59 I (complexOf_spec E g17 _ _ _ hlit78 dC (fine_of dC))) ?_;rintro _ g18 _ ⟨rfl,hle18,u,rfl,hu⟩;obtain ⟨q9,d9,rfl⟩:=hu.form;refine SL.O2 (sK 0 zT29 I I I I I sB) ?_;refine SL.nT (rE (bR (tR ?_)));exact ST.retCD 0 s (.inl I) results29 I iT29 zT29 I I (.cons _ (.refl _)) ⟨I,(hle1.trans (hle2.trans (hle3.trans (hle4.trans (hle5.trans (hle6.trans (hle7.trans (hle8.trans (hle9.trans (hle10.trans (hle11.trans (hle12.trans (hle13.trans (hle14.trans (hle15.trans (hle16.trans (hle17.trans hle18))))))))))))))))),_,I,hu⟩
 ·refine cF I (sQ (SC.sR (lU (eQ I I) (lA I (SL.nT (cF I (SC.sR (lU (eQ I I) (lA I (SL.nT (cF I (rG (lU (eQ I I) (lA I (SL.nT (cF I (SC.sR (lU (eQ I I) (lA I (SL.nT (cF I (sQ ?_))))))))))))))))))))));refine rG (lU (eQ I I) (lA I (SL.nT (cF I (SC.sR (lU (eQ I I) (lA I (SL.nT (cF I (SC.sR (lU (eQ I I) (lA I (SL.nT (cF I (SC.sR (lU (eQ I I) (lA I (SL.nT (cF I (kP (bN (tN ?_))))))))))))))))))))));refine SC.sR (lW (SO.call call61 I (hmo4 g _)) ?_);rintro _ g1 _ ⟨rfl,hle1,u,rfl,hu⟩;obtain ⟨q9,d9,rfl⟩:=hu.form;refine SL.O2 (sK 0 zT29 I I I I I sB) ?_;refine SL.nT (rE ?_);exact ST.retCD 0 s (.inl I) results29 I iT29 zT29 I I (.cons _ (.refl _)) ⟨I,hle1,_,I,hu⟩
def bitsK (n:Int)(j:Nat):List Nat:=(List.range j).filter fun v:Nat=>decide (n / 2 ^ v % 2=1)
theorem bitsK_yes {n:Int}{j:Nat}(h:n / 2 ^ j % 2=1):bitsK n (j+1)=bitsK n j++[j]:=by
 simp[bitsK,List.range_succ,List.filter_append,h]
theorem bitsK_no {n:Int}{j:Nat}(h:¬ n / 2 ^ j % 2=1):bitsK n (j+1)=bitsK n j:=by
 simp[bitsK,List.range_succ,List.filter_append,h]
theorem bitsK_more (n:Int)(j:Nat):∀ d,∃ r,bitsK n (j+d)=bitsK n j++r
 | 0=>⟨[],by simp⟩
 | d+1=>by
  obtain ⟨r,hr⟩:=bitsK_more n j d;by_cases h:n / 2 ^ (j+d) % 2=1
  ·exact⟨r++[j+d],by rw[show j+(d+1)=j+d+1 from I,bitsK_yes h,hr,List.append_assoc]⟩
  ·exact⟨r,by rw[show j+(d+1)=j+d+1 from I,bitsK_no h,hr]⟩
theorem bits_end {n:Int}{j:Nat}(h6:j≤6)(h4:(bitsK n j).length≤4)(h:¬ (j<6∧(bitsK n j).length<4)):(bitsK n j).map (fun v:Nat=>(v:Int))=bitsL n:=by
 show _=((bitsK n 6).take 4).map _;congr 1;by_cases e:j=6
 ·rw[e] at h4 ⊢;rw[tL h4]
 ·have hl:(bitsK n j).length=4:=oM;obtain ⟨r,hr⟩:=bitsK_more n j (6 - j);rw[show j+(6 - j)=6 by omega] at hr;rw[hr,List.take_append_of_le_length oM,tL oM]
theorem bitsL_length (n:Int):(bitsL n).length≤4:=by
 unfold bitsL;rw[List.length_map,List.length_take];omega
theorem shr_bitZ (n:Int)(k:Nat)(hk:k<10):(n.fdiv (2 ^ min ((k:Nat):Int).toNat IntKind.i64.bits)) % 2=n / 2 ^ k % 2:=by
 have h1:min ((k:Nat):Int).toNat IntKind.i64.bits=k:=by
  have:IntKind.i64.bits=64:=rfl;rw[this]; omega
 rw[h1,Int.fdiv_eq_ediv_of_nonneg _ (Int.le_of_lt (Int.pow_pos dC))]
theorem simplices7_spec (E:World)(g:PH)(s:Own)(v:Value)(L:List Int)(hv:Ints g v L) :
  Ctr Tryz.prog E 30 #[v] g s (fun y g' s'=>s=s'∧Le g g'∧∃ u,y = .agg #[u]∧Cells g' u (simpC ((L.take 12).map bitsL))):=by
 obtain ⟨p,c,rfl⟩:=SlA.form hv;refine Ctr.of (args:=[.slice p L.length c]) func30 I ntmps30 (bE I) ?_;refine SC.sR (SL.bx (aL zeroValue29) fun b2=>?_);refine SL.nT (SC.sR (lA I (SL.nT (sQ (SC.sR (lA I (SL.nT (bK (SC.nilRow 22 1 ?_)))))))));refine oP (ι:=PH×Value×List Sv×Nat) (fun i=>[(0,.slice p L.length c),(2,pp b2 0),(3,i.2.1),(4,vi i.2.2.2)]) (fun i=>i.1)
  (fun i=>rowA encSv 22 i.2.1 i.2.2.1::pt b2 (.cells #[.slice none 0 0] 29 (0,0))::s)
  (fun i=>Le g i.1∧i.2.2.2≤L.length∧i.2.2.2≤12∧All2 (ListR i.1) ((L.take i.2.2.2).map bitsL) i.2.2.1) (fun i=>L.length - i.2.2.2)
  (g,.slice none 0 0,[],0) sB rfl rfl ⟨Le.refl g,Nat.zero_le _,Nat.zero_le _,trivial⟩ ?_
 rintro ⟨g1,ov,rs,i⟩ ⟨hle,hi,hi5,hrs⟩;dsimp only at hle hi hi5 hrs ⊢;have hrl:=hrs.length;rw[List.length_map,List.length_take] at hrl;have f1:(i:Int)<(L.length:Int)→(decide ((i:Int)<(L.length:Int))&&decide ((i:Int)<12))=decide ((i:Int)<12):=fun h=>by simp[h]
 have f2:¬ (i:Int)<(L.length:Int)→(decide ((i:Int)<(L.length:Int))&&decide ((i:Int)<12))=false:=fun h=>by simp only[h,decide_false,Bool.false_and]
 refine sQ ?_;refine SC.cutB 14 ((decide ((i:Int)<(L.length:Int))&&decide ((i:Int)<12))) ?_ ?_
 ·refine rG (lM I (lM I (lU (eN uT22 I) (lU (lS I I) (lM I ?_)))));refine sP ?_ ?_
  ·intro h11;refine lY I I I (mV I) (lY I I I (lS I I) (lU (pT I I) (nL ?_)));exact ST.mid1 (by (rw[f1 h11]; rfl)) mI
  ·intro h11;refine lZ I I I (lZ I I I (lU (pF I I) (nL ?_)));exact ST.mid1 (by (rw[f2 h11]; rfl)) mI
 refine iQ I (fun hc=>?_) (fun hc=>?_)
 ·rw[Bool.and_eq_true,decide_eq_true_iff,decide_eq_true_iff] at hc;have hil:i<L.length:=oM;have hb1:=SlA.based hv oM;have hsucc:=map_take_succ hil bitsL;have hgn:L[((i:Nat):Int).toNat]?=some L[i]:=gE hil;generalize L[i]=n at *;refine kP (tN (sQ (bK (SC.sR (lA I (SL.nT (sQ (SC.sR (lA I (SL.nT (bK (SC.nilRow 3 1 ?_))))))))))));refine oP (ι:=Value×Nat) (fun k=>[(0,.slice p L.length c),(2,pp b2 0),(3,ov),(4,vi i),(5,k.1),(6,vi k.2)]) (fun _=>g1)
   (fun k=>rowA encInt 3 k.1 ((bitsK n k.2).map fun v:Nat=>(v:Int))::rowA encSv 22 ov rs::pt b2 (.cells #[.slice none 0 0] 29 (0,0))::s)
   (fun k=>k.2≤6∧(bitsK n k.2).length≤4) (fun k=>6 - k.2) (.slice none 0 0,0) sB rfl rfl ⟨Nat.zero_le _,Nat.zero_le _⟩ ?_
  rintro ⟨iv,k⟩ ⟨hk,hk4⟩;dsimp only at hk hk4 ⊢;refine SC.facts fun ⟨w0,hw0⟩=>?_;obtain ⟨q3,d3,rfl⟩:=rowA_form (e:=encInt) (l:=(bitsK n k).map fun v:Nat=>(v:Int)) (i:=0) hw0 rfl;clear hw0 w0;rw[List.length_map];have f3:(k:Int)<6→(decide ((k:Int)<6)&&decide (((bitsK n k).length:Int)<4))=decide (((bitsK n k).length:Int)<4):=fun h=>by simp[h]
  have f4:¬ (k:Int)<6→(decide ((k:Int)<6)&&decide (((bitsK n k).length:Int)<4))=false:=fun h=>by simp only[h,decide_false,Bool.false_and]
  refine sQ ?_;refine SC.cutB 23 ((decide ((k:Int)<6)&&decide (((bitsK n k).length:Int)<4))) ?_ ?_
  ·refine rG (lM I (lU (lS I I) (lM I ?_)));refine sP ?_ ?_
   ·intro h19;refine lY I I I (mV I) (lY I I I (eN uT22 I) (lY I I I (lS I I) (lU (pT I I) (nL ?_))));exact ST.mid1 (by (rw[f3 h19]; rfl)) mI
   ·intro h19;refine lZ I I I (lZ I I I (lZ I I I (lU (pF I I) (nL ?_))));exact ST.mid1 (by (rw[f4 h19]; rfl)) mI
  refine iQ I (fun hc2=>?_) (fun hc2=>?_)
  ·rw[Bool.and_eq_true,decide_eq_true_iff,decide_eq_true_iff] at hc2;refine kP (tN (sQ (bK (SC.sR (lM I (lM I (lU (iA uT22 zT3 I I hb1 oM sL) (lK (eB iT3 I (SlA.rd (SlA.mono hv hle)) hgn I) (lM I (lU (SU.shr I I oM) (lU (SU.eq (v':=vi (n / 2 ^ k % 2)) (SU.and I I) (congrArg vi ((and_one _).trans (shr_bitZ n k oM)))) (lU (eQ I I) (SL.nT ?_)))))))))))));refine iP I (fun hbit=>?_) (fun hbit=>?_)
   ·have hks:=bitsK_yes hbit;refine rG (lM I (lM I (lW (SO.buildSlice sty22 I I I (szs_mk sB) dC) ?_)));rintro _ _ _ ⟨b36,rfl,rfl,rfl⟩;refine lW (aP (e:=encInt) 0 (k:Int) sty22 I I I I I (by rw[List.length_map]; omega) (by rw[List.length_map]; omega)) ?_;rintro iv' _ _ ⟨rfl,rfl⟩;refine lA I (nL (bN (tN (rG (lM I (lU (aD I I oM) (lA I (nL ?_))))))));refine ST.to (fun w hw=>?_) (g':=g1) (s':=rowA encInt 3 iv' ((bitsK n (k+1)).map fun v:Nat=>(v:Int))::rowA encSv 22 ov rs::pt b2 (.cells #[.slice none 0 0] 29 (0,0))::s) ?_
    ·rw[hks,List.map_append]; exact hw
    exact ST.again (iv',k+1) sB rfl rfl ⟨lN,by dsimp only; rw[hks]; (first | with_reducible rfl | ((try dsimp only); (try simp only[List.length_append,List.length_cons,List.length_nil,List.length_singleton,List.length_take,List.length_drop])<;>omega))⟩ lN
   ·have hks:=bitsK_no hbit;refine kP (bN (tN (rG (lM I (lU (aD I I oM) (lA I (nL ?_)))))));exact ST.again (.slice q3 (bitsK n k).length d3,k+1) sB I (by dsimp only; rw[hks]) ⟨lN,by dsimp only; rw[hks]; exact hk4⟩ lN
  ·have hend:(bitsK n k).map (fun v:Nat=>(v:Int))=bitsL n:=by
    rw[Bool.and_eq_false_iff,decide_eq_false_iff_not,decide_eq_false_iff_not] at hc2;exact bits_end hk hk4 oM
   have hbl:(bitsK n k).length=(bitsL n).length:=by rw[← hend,List.length_map]
   rw[hend,hbl];have hb4:=bitsL_length n;refine xI (tX (tX (bX (tN (fS fun g2 hle2 hs2=>?_)))));have hiv:Ints g2 (.slice q3 (bitsL n).length d3) (bitsL n):=hs2;refine rG (lM I (lM I (lW (SO.buildSlice sty108 I I I (szs_mk sB) dC) ?_)));rintro _ _ _ ⟨b40,rfl,rfl,rfl⟩;refine lW (aP (e:=encSv) 0 ⟨q3,(bitsL n).length,d3⟩ sty108 I I I I I oM oM) ?_;rintro ov' _ _ ⟨rfl,rfl⟩;refine lA I (nL (bN (tN (rG (lM I (lU (aD I I oM) (lA I (nL ?_))))))));refine ST.again (g2,ov',rs++[⟨q3,(bitsL n).length,d3⟩],i+1) sB I I ⟨hle.trans hle2,lN,lN,?_⟩ lN;dsimp only;rw[hsucc];exact (hrs.mono fun _ _=>ListR.mono hle2).append ⟨hiv,trivial⟩
 ·have hls:L.take i=L.take 12:=by
   rw[Bool.and_eq_false_iff,decide_eq_false_iff_not,decide_eq_false_iff_not] at hc;by_cases h5:i=12
   ·rw[h5]
   ·rw[tL oM,tL oM]
  rw[hls] at hrs;have hml:((L.take 12).map bitsL).length<1099511627776:=by rw[List.length_map,List.length_take]; omega
  have hms:∀ x∈(L.take 12).map bitsL,x.length<17592186044416:=by
   intro x hx;obtain ⟨n,_,rfl⟩:=List.mem_map.1 hx;have:=bitsL_length n;omega
  refine xI (tX (tX (bX (tN (sQ (fS fun g3 hle3 hs3=>?_))))));have hov:Lists g3 ov ((L.take 12).map bitsL):=⟨rs,hs3,hrs.mono fun _ _=>ListR.mono hle3⟩;refine rG (lM I (lW (SO.call call58 I (refSimplicial_spec E g3 _ _ _ hov hml hms)) ?_));rintro _ g9 _ ⟨rfl,hle9,u,rfl,hu⟩;obtain ⟨q9,d9,rfl⟩:=hu.form;refine SL.O2 (sK 0 zT29 I I I I I sB) ?_;refine SL.nT (rE ?_);exact ST.retCD 0 s (.inl I) results30 I iT29 zT29 I I (.cons _ (.refl _)) ⟨I,hle.trans (hle3.trans hle9),_,I,hu⟩
set_option maxHeartbeats 2000000
theorem build8_complex (v:Value)(p:Option Addr)(n c:Nat)(hv:v = .slice p n c)(w:World):(Instr.build 29 #[(0,v)]).run Tryz.prog w = .ok (.agg #[v]) w:=by
 subst hv;have h1:(Value.slice p n c).cells = #[.slice p n c]:=rfl;simp[Instr.build,Instr.fill,h1];rfl
def maxOf (m:Int)(a:List Cl):Int:=a.foldl (fun m x=>max m x.id) m
theorem maxOf_succ {a:List Cl}{i:Nat}(h:i<a.length):maxOf 0 (a.take (i+1))=max (maxOf 0 (a.take i)) a[i].id:=by
 rw[tS h,maxOf,List.foldl_append]; rfl
theorem beside_spec (E:World)(g:PH)(s:Own)(va vb:Value)(a b:List Cl)(ha:Cells g va a)(hb:Cells g vb b)(hal:a.length<1000000)(hbl:b.length<1000000)(hM:0≤maxId a∧maxId a≤1000000)(hbs:∀ c∈b,c.sides.length<1000000 ∧ -1000000≤c.id∧c.id≤1000000∧∀ q∈c.sides,-1000000≤q.cell∧q.cell≤1000000) :
  Ctr Tryz.prog E 32 #[.agg #[va],.agg #[vb]] g s (fun y g' s'=>s=s'∧Le g g'∧∃ u,y = .agg #[u]∧Cells g' u (besideC (maxId a) a b)):=by
 obtain ⟨rsa,hrsa,halla⟩:=ha;have eal:=halla.length;obtain ⟨pa,ca,rfl⟩:=hrsa.form;obtain ⟨rsb,hrsb,hallb⟩:=hb;have ebl:=hallb.length;obtain ⟨pb,cb,rfl⟩:=hrsb.form;refine Ctr.of (args:=[.agg #[.slice pa rsa.length ca],.agg #[.slice pb rsb.length cb]]) func32 I ntmps32 (bE I) ?_;refine SC.sR (SL.bx (bO I) fun b2=>?_);refine SL.bx (bO I) fun b3=>?_;refine SL.bx (aL zeroValue29) fun b4=>?_;refine SL.nT (SC.sR (lA I (SL.nT (sQ (SC.sR (lA I (SL.nT (bK ?_))))))));refine oP (ι:=Nat) (fun i=>[(2,pp b2 0),(3,pp b3 0),(4,pp b4 0),(5,vi (maxOf 0 (a.take i))),(6,vi i)]) (fun _=>g) (fun _=>pt b4 (.cells #[.slice none 0 0] 29 (0,0))::pt b3 (.cells #[.slice pb rsb.length cb] 29 (0,0))::pt b2 (.cells #[.slice pa rsa.length ca] 29 (0,0))::s)
  (fun i=>i≤rsa.length) (fun i=>rsa.length - i) 0 sB rfl rfl (Nat.zero_le _) ?_
 rintro i hi;try dsimp only at hi ⊢
 refine sQ (SC.sR (lM I (lU (fA uT29 I zT27 I) (lK (qL (v:=.slice pa rsa.length ca) iT27 I (cO 2 I I)) (lU (eN uT27 I) (lU (lS I I) (SL.nT ?_)))))));refine iP I (fun hlt=>?_) (fun hlt=>?_)
 ·have hil:i<a.length:=oM;have hir:i<rsa.length:=oM;have hb1:=hrsa.based oM;have hxr:=halla.get (gE hil) (gE hir);have hgx:rsa[((i:Nat):Int).toNat]?=some rsa[i]:=gE hir;have hsucc:=maxOf_succ hil;generalize a[i]=x at *;obtain ⟨xp,xcap,hrx,hxs⟩:=cellR_form hxr;rw[hrx] at hgx;refine kP (tN (sQ (bK (rG (lM I (lU (fA uT29 I zT27 I) (lK (qL (v:=.slice pa rsa.length ca) iT27 I (cO 2 I I)) (lM I (lU (iA uT27 zT54 I I hb1 oM sL) (lU (fC uT54 I zT3 I hb1) (lK (pA (e:=encCell) (o:=0) (u:=vi x.id) iT3 I hrsa.rd hgx I) (lU (SU.eq (v':=vi (maxOf 0 (a.take (i+1)))) (SU.maxI I I) (congrArg vi hsucc.symm)) (lA I (nL (bN (tN (rG (lM I (lU (aD I I oM) (lA I (nL ?_)))))))))))))))))))));exact ST.again (i+1) sB I I lN lN
 ·have hii:maxOf 0 (a.take i)=maxId a:=by rw[tL oM]; rfl
  rw[hii];generalize maxId a=M at *;refine xI (tX (tX (bX (tN (SC.sR (lW (SO.buildSlice sty27 I I I (szs_mk trivial) dC) ?_))))));rintro _ _ _ ⟨b27,rfl,rfl,rfl⟩;refine SL.to (fun w hw=>(hw.sublist (List.sublist_cons_self _ _)).emptyRow 54 3 (some ⟨b27,0,none⟩)) ?_;refine lU (fA uT29 I zT27 I) (lK (qL (v:=.slice pa rsa.length ca) iT27 I (cO 3 I I)) (lW (aQ (e:=encCell) (l:=[]) 0 sty27 I I I hrsa (by simp; omega) (by simp; omega)) ?_));rintro v30 _ _ ⟨rfl,rfl⟩;refine SL.facts fun ⟨w0,hw0⟩=>?_;obtain ⟨q3,d3,rfl⟩:=rowA_form (e:=encCell) (l:=[]++rsa) (i:=0) hw0 rfl;clear hw0 w0;rw[List.nil_append];refine lU (SU.build I (build8_complex _ _ _ _ I)) (SL.bx (aL zeroValue29) fun b7=>?_);refine SL.O2 (sK 0 zT29 I I I I I sB) ?_;refine SL.nT (sQ (SC.sR (lA I (SL.nT (bK ?_)))));refine SC.to (g':=g) (s':=pt b7 (.cells #[.slice q3 rsa.length d3] 29 (0,0))::rowA encCell 54 (.slice q3 rsa.length d3) rsa::pt b4 (.cells #[.slice none 0 0] 29 (0,0))::pt b3 (.cells #[.slice pb rsb.length cb] 29 (0,0))::pt b2 (.cells #[.slice pa rsa.length ca] 29 (0,0))::s) (fun w hw=>hw) ?_;refine SC.to (g':=g) (s':=rowA encCell 54 (.slice q3 rsa.length d3) (rsa++[])::pt b7 (.cells #[.slice q3 rsa.length d3] 29 (0,0))::pt b4 (.cells #[.slice none 0 0] 29 (0,0))::pt b3 (.cells #[.slice pb rsb.length cb] 29 (0,0))::pt b2 (.cells #[.slice pa rsa.length ca] 29 (0,0))::s) (fun w hw=>by rw[List.append_nil]; exact hw.perm (List.Perm.swap _ _ _)) ?_;refine oP (ι:=PH×Value×List Rc×Nat) (fun i=>[(2,pp b2 0),(3,pp b3 0),(4,pp b4 0),(5,vi M),(7,pp b7 0),(8,vi i.2.2.2)]) (fun i=>i.1) (fun i=>rowA encCell 54 i.2.1 (rsa++i.2.2.1)::pt b7 (.cells #[i.2.1] 29 (0,0))::pt b4 (.cells #[.slice none 0 0] 29 (0,0))::pt b3 (.cells #[.slice pb rsb.length cb] 29 (0,0))::pt b2 (.cells #[.slice pa rsa.length ca] 29 (0,0))::s)
   (fun i=>Le g i.1∧i.2.2.2≤rsb.length∧All2 (CellR i.1) ((b.take i.2.2.2).map (shC M)) i.2.2.1) (fun i=>rsb.length - i.2.2.2) (g,.slice q3 rsa.length d3,[],0) sB rfl rfl ⟨Le.refl g,Nat.zero_le _,trivial⟩ ?_
  clear hlt hii hi;rintro ⟨g1,ov,rcs,i⟩ ⟨hle,hi,hrcs⟩;dsimp only at hle hi hrcs ⊢;have hrl:=hrcs.length;rw[List.length_map,List.length_take] at hrl;refine sQ (SC.sR (lM I (lU (fA uT29 I zT27 I) (lK (qL (v:=.slice pb rsb.length cb) iT27 I (cO 3 I I)) (lU (eN uT27 I) (lU (lS I I) (SL.nT ?_)))))));refine iP I (fun hlt=>?_) (fun hlt=>?_)
  ·have hil:i<b.length:=oM;have hir:i<rsb.length:=oM;have hb1:=hrsb.based oM;have hxr:=(hallb.get (gE hil) (gE hir)).mono hle;have hgx:rsb[((i:Nat):Int).toNat]?=some rsb[i]:=gE hir;have hsucc:=map_take_succ hil (shC M);obtain ⟨hxl,hx1,hx2,hxq⟩:=hbs _ (gM hil);generalize b[i]=x at *;obtain ⟨xp,xcap,hrx,hxs⟩:=cellR_form hxr;rw[hrx] at hgx;refine kP (tN (sQ (bK (sQ ?_))));refine dW [16] [(0,2),(1,1),(2,2),(3,2),(4,2),(5,1),(6,2),(7,2),(8,2),(9,1),(10,2),(11,2),(12,2),(13,1),(14,2),(15,0),(16,0)] Tryz.mixed (by kernel_rfl) ?_;refine pU rfl (fA uT29 rfl zT27 rfl) (pK rfl (qL (v:=.slice pb rsb.length cb) iT27 rfl (cO 3 rfl rfl)) (pU rfl (mV rfl) (pU rfl (iA uT27 zT54 rfl rfl hb1 oM sL) (pU rfl (fC uT54 rfl zT3 rfl hb1) (pK rfl (pA (e:=encCell) (o:=0) (u:=vi x.id) iT3 rfl (hrsb.mono hle).rd hgx rfl) (pU rfl (mV rfl) (pU rfl (aD rfl rfl oM) (pU rfl (fA uT29 rfl zT27 rfl) (pK rfl (qL (v:=.slice pb rsb.length cb) iT27 rfl (cO 3 rfl rfl)) (pU rfl (mV rfl) (pU rfl (iA uT27 zT54 rfl rfl hb1 oM sL) (pU rfl (fC uT54 rfl zT3 rfl hb1) (pK rfl (pA (e:=encCell) (o:=1) (u:=vi x.dim) iT3 rfl (hrsb.mono hle).rd hgx rfl) (pU rfl (SU.build rfl (build8_cell _ _)) (SP.o rfl (aL zeroValue54) dC (.inr (by rintro _ _ _ ⟨b9,rfl,rfl,rfl⟩; exact⟨by exact Le.refl _,(by exact .cons _ (.refl _))⟩)) ?_)))))))))))))));rintro _ _ _ ⟨b9,rfl,rfl,rfl⟩;refine SP.on I (sK 0 zT54 I I I I I sB) (.inl dC) ?_;rintro _ _ _ ⟨rfl,rfl⟩;refine pN (tN (sQ (SC.sR (lA I (SL.nT (bK (SC.nilRow 56 2 ?_)))))));refine oP (ι:=Value×Nat) (fun j=>[(2,pp b2 0),(3,pp b3 0),(4,pp b4 0),(5,vi M),(7,pp b7 0),(8,vi i),(9,pp b9 0),(10,vi j.2)]) (fun _=>g1) (fun j=>rowA encSide 56 j.1 ((x.sides.take j.2).map (shS M))::pt b9 (.cells #[vi (x.id+M),vi x.dim,j.1] 54 (0,0))::rowA encCell 54 ov (rsa++rcs)::pt b7 (.cells #[ov] 29 (0,0))::pt b4 (.cells #[.slice none 0 0] 29 (0,0))::pt b3 (.cells #[.slice pb rsb.length cb] 29 (0,0))::pt b2 (.cells #[.slice pa rsa.length ca] 29 (0,0))::s)
    (fun j=>j.2≤x.sides.length) (fun j=>x.sides.length - j.2) (.slice none 0 0,0) sB rfl rfl (Nat.zero_le _) ?_
   rintro ⟨sv,j⟩ hj;dsimp only at hj ⊢;refine sQ (SC.sR (lM I (lU (fA uT29 I zT27 I) (lK (qL (v:=.slice pb rsb.length cb) iT27 I (cO 5 I I)) (lM I (lU (iA uT27 zT54 I I hb1 oM sL) (lU (fC uT54 I zT37 I hb1) (lK (pA (e:=encCell) (o:=2) (u:=.slice xp x.sides.length xcap) iT37 I (hrsb.mono hle).rd hgx I) (lU (eN uT37 I) (lU (lS I I) (SL.nT ?_)))))))))));refine iP I (fun hlt2=>?_) (fun hlt2=>?_)
   ·have hjl:j<x.sides.length:=oM;have hb3:=hxs.based oM;have hjx:x.sides[((j:Nat):Int).toNat]?=some x.sides[j]:=gE hjl;have hjs:=map_take_succ hjl (shS M);obtain ⟨hz1,hz2⟩:=hxq _ (gM hjl);generalize x.sides[j]=z at *;have hml:((x.sides.take j).map (shS M)).length=j:=by rw[List.length_map,List.length_take]; omega
    have hrz:shS M z=⟨z.cell+M,z.sign⟩:=rfl;rw[hrz] at hjs;refine kP (tN (sQ (bK (SC.sR (lU (fA uT29 I zT27 I) (lK (qL (v:=.slice pb rsb.length cb) iT27 I (cO 5 I I)) (lM I (lU (iA uT27 zT54 I I hb1 oM sL) (lU (fC uT54 I zT37 I hb1) (lK (pA (e:=encCell) (o:=2) (u:=.slice xp x.sides.length xcap) iT37 I (hrsb.mono hle).rd hgx I) (lM I (lU (iA uT37 zT56 I I hb3 oM sL) (lK (eA iT56 zT56 I hxs.rd hjx) (SL.bx (aL zeroValue56) fun b11=>?_))))))))))))));refine SL.O2 (sK 0 zT56 I I I I I sB) ?_;refine SL.nT (SC.sR (lU (fA uT56 rfl zT3 rfl) (lK (qL (v:=vi z.cell) iT3 rfl (cO 0 rfl rfl)) (lM rfl (lU (aD rfl rfl oM) (lU (fA uT56 rfl zT3 rfl) (SL.O2 (SO.store1 0 zT3 rfl rfl rfl rfl (bE rfl) (by rfl)) ?_)))))));refine SL.nT (rG (lU (fA uT54 I zT37 I) (lK (qL (v:=sv) iT37 I (cO 2 I I)) (lK (qV 0 iT56 zT56 I I I) (lW (SO.buildSlice sty37 I I I (szs_mk sB) dC) ?_)))));rintro _ _ _ ⟨b82,rfl,rfl,rfl⟩;refine lW (aP (e:=encSide) 1 ⟨z.cell+M,z.sign⟩ sty37 I I I I I oM oM) ?_;rintro sv' _ _ ⟨rfl,rfl⟩;rw[← hjs];refine SL.facts fun ⟨w0,hw0⟩=>?_;obtain ⟨q6,d6,rfl⟩:=rowA_form (i:=1) hw0 rfl;clear hw0 w0;refine lU (fA uT54 rfl zT37 rfl) (SL.O2 (SO.store1 2 zT37 rfl rfl rfl rfl (bE rfl) (by rfl)) ?_);refine nL (bN (tN (rG (lM I (lU (aD I I oM) (lA I (nL (dR (s':=rowA encSide 56 (.slice q6 ((x.sides.take (j+1)).map (shS M)).length d6) ((x.sides.take (j+1)).map (shS M))::pt b9 (.cells #[vi (x.id+M),vi x.dim,(.slice q6 ((x.sides.take (j+1)).map (shS M)).length d6)] 54 (0,0))::rowA encCell 54 ov (rsa++rcs)::pt b7 (.cells #[ov] 29 (0,0))::pt b4 (.cells #[.slice none 0 0] 29 (0,0))::pt b3 (.cells #[.slice pb rsb.length cb] 29 (0,0))::pt b2 (.cells #[.slice pa rsa.length ca] 29 (0,0))::s) (.cons _ (.refl _)) ?_))))))));exact ST.again (_,j+1) sB I I lN lN
   ·have hjj:x.sides.take j=x.sides:=tL oM;rw[hjj];have hnl:(rsa++rcs).length=rsa.length+i:=by rw[List.length_append]; omega
    refine xI (tX (tX (bX (tN (fS fun g2 hle2 hs2=>?_)))));have hsd:SlA encSide g2 sv (x.sides.map (shS M)):=hs2;obtain ⟨q8,d8,rfl⟩:=SlA.form hsd;obtain ⟨nc,hnc⟩:∃ nc:Rc,nc=⟨x.id+M,x.dim,⟨q8,(x.sides.map (shS M)).length,d8⟩⟩:=⟨_,rfl⟩;refine rG (lU (fA uT29 I zT27 I) (lK (qL (v:=ov) iT27 I (cO 2 I I)) (lK (qV 0 iT54 zT54 I I I) (lW (SO.buildSlice sty27 I I I (szs_mk sB) dC) ?_))));rintro _ _ _ ⟨b88,rfl,rfl,rfl⟩;refine lW (aP (e:=encCell) 1 nc sty27 rfl rfl rfl rfl (by rw[hnc]; rfl) oM oM) ?_;rintro v89 _ _ ⟨rfl,rfl⟩;refine SL.facts fun ⟨w0,hw0⟩=>?_;obtain ⟨q9,d9,rfl⟩:=rowA_form (i:=1) hw0 rfl;clear hw0 w0;refine lU (fA uT29 I zT27 I) (SL.O2 (sK 2 zT27 I I I I I sB) ?_);refine nL (bN (tN (rG (lM I (lU (aD I I oM) (lA I (nL ?_)))))));rw[List.append_assoc];refine dR (s':=rowA encCell 54 (.slice q9 (rsa++(rcs++[nc])).length d9) (rsa++(rcs++[nc]))::pt b7 (.cells #[(.slice q9 (rsa++(rcs++[nc])).length d9)] 29 (0,0))::pt b4 (.cells #[.slice none 0 0] 29 (0,0))::pt b3 (.cells #[.slice pb rsb.length cb] 29 (0,0))::pt b2 (.cells #[.slice pa rsa.length ca] 29 (0,0))::s) (.cons _ (.refl _)) ?_;refine ST.again (g2,_,rcs++[nc],i+1) sB I I ⟨hle.trans hle2,lN,?_⟩ lN;dsimp only;rw[hsucc];exact (hrcs.mono fun _ _=>CellR.mono hle2).append ⟨(by rw[hnc]; exact⟨I,I,hsd⟩),trivial⟩
  ·have hii:b.take i=b:=tL oM;rw[hii] at hrcs;refine xI (tX (tX (bX (tN (sQ (fS fun g2 hle2 hs2=>?_))))));have hov:Cells g2 ov (besideC M a b):=⟨rsa++rcs,hs2,(halla.mono fun _ _=>CellR.mono (hle.trans hle2)).append (hrcs.mono fun _ _=>CellR.mono hle2)⟩;obtain ⟨qo,do_,rfl⟩:=hov.form;refine rG (lK (qV 0 iT29 zT29 I I I) (SL.O2 (sK 1 zT29 I I I I I sB) ?_));refine SL.nT (rE ?_);exact ST.retCD 1 s (.inl I) results32 I iT29 zT29 I I (.cons _ (.cons _ (.cons _ (.cons _ (.refl _))))) ⟨I,hle.trans hle2,_,I,hov⟩
theorem SU.min8 {P:Program}{N:Nat}{f:Fr}{dst:Option Tmp}{ty:TypeId}{pos:String}{af:Array Edge}{gd:Option (Nat×Bool)}{x y:Operand}{T U:TypeId}{m n:Int}(hx:ev f x=some (vi m))(hy:ev f y=some (vi n)) :
  SU P N ⟨dst,.call ⟨.builtin .min,#[x,y],#[T,U]⟩,ty,pos,af,gd⟩ f (vi (min m n)):=fun a w ha=>by
 have h:=run_min_int2 (P:=P) (w:=w) #[T,U] ty .i64 .i64 m n;have h2:(if n<m then n else m)=min m n:=by split <;> omega
 rw[h2] at h;simp[execOp,resolve,invoke,builtin,ha.ev hx,ha.ev hy,h]
theorem first_fits (sp:Nat)(L:List Int):Fits (firstC sp L):=by
 unfold firstC;split
 ·exact (simpC_fits _).1
 ·have h:=space_check (sp % 10) (Nat.mod_lt _ dC);exact⟨oM,fun c hc=>by have:=h.2.2 c hc; omega⟩
theorem goneTo_fits {c:List Cl}(h:Fits c)(G:List Nat):∀ k,Fits (goneTo G c k)
 | 0=>h
 | k+1=>by
  have ih:=goneTo_fits h G k;rw[goneTo];split
  ·exact filter_fits _ ih
  ·exact ih
theorem goneTo_succ {c:List Cl}{G:List Nat}{k:Nat}(h:(goneTo G c k).length>1):goneTo G c (k+1)=goneStep (goneTo G c k) (G.getD k 0):=by
 rw[goneTo,if_pos h]
theorem small_space:∀ n,n<5→∀ c∈spaceC n,c.sides.length<1000000 ∧ -1000000≤c.id∧c.id≤1000000∧∀ q∈c.sides,-1000000≤q.cell∧q.cell≤1000000:=by decide +kernel
theorem take_five (L:List Int):((L.drop 0).take (min L.length 5 - 0)).take 12=L.take 5:=by
 rw[List.drop_zero,Nat.sub_zero,List.take_take];by_cases h:L.length≤5
 ·rw[tL oM,tL h]
 ·congr 1;omega
theorem shape8_spec (E:World)(g:PH)(s:Own)(sp bs:Nat)(vL vG:Value)(L:List Int)(G:List Nat)(hL:Ints g vL L)(hG:SlA encB g vG (G.map fun x:Nat=>(x:Int)))(hsp:sp<256)(hbs:bs<256)(hGb:∀ x∈G,x<256) :
  Ctr Tryz.prog E 10 #[.agg #[.int .u8 (sp:Int),vL,vG,.int .u8 (bs:Int)]] g s (fun y g' s'=>s=s'∧Le g g'∧∃ u,y = .agg #[u]∧Cells g' u (complexC sp L G bs)):=by
 obtain ⟨pL,cL,rfl⟩:=SlA.form hL;obtain ⟨pG,cG,rfl⟩:=SlA.form hG;rw[List.length_map] at hG ⊢;have hcap:=(SlA.cap hL).2;have hcut:=SlA.cut hL (l:=0) (m:=min L.length 5) oM oM;obtain ⟨q26,hq26⟩:=sliced_form pL 0 (min L.length 5) cL 1;rw[hq26] at hcut;refine Ctr.of (args:=[.agg #[.int .u8 (sp:Int),.slice pL L.length cL,.slice pG G.length cG,.int .u8 (bs:Int)]]) func10 I ntmps10 (bE I) ?_;refine SC.sR (SL.bx (bO I) fun b1=>?_);refine SL.bx (aL zeroValue29) fun b2=>?_;refine SL.nT (SC.sR (lU (fA uT25 I sizeOf5 I) (lK (qL (v:=.int .u8 (sp:Int)) isAgg5 I (cO 1 I I)) (lU (SU.eq (v':=vi (sp:Int)) (SU.convert uT5 uT3 I) (congrArg vi (IntWalk.i64_in _ oM))) (lW (SO.call call29 I (space_spec E g _ sp)) ?_)))));rintro _ g1 _ ⟨rfl,hle1,u1,rfl,hu1⟩;obtain ⟨q1,d1,rfl⟩:=hu1.form;refine SL.bx (aL zeroValue29) fun b3=>?_;refine SL.O2 (sK 0 zT29 I I I I I sB) ?_;refine SL.nT ?_;refine SC.cut (ι:=PH×Value) (fun _=>[(1,pp b1 0),(2,pp b2 0),(3,pp b3 0)]) (fun i=>i.1) (fun i=>pt b3 (.cells #[i.2] 29 (0,0))::pt b2 (.cells #[.slice none 0 0] 29 (0,0))::pt b1 (.cells #[.int .u8 (sp:Int),.slice pL L.length cL,.slice pG G.length cG,.int .u8 (bs:Int)] 25 (0,0))::s) (fun i=>Le g i.1∧Cells i.1 i.2 (firstC sp L)) ?_ ?_
 ·refine SC.sR (lU (fA uT25 I sizeOf5 I) (lK (qL (v:=.int .u8 (sp:Int)) isAgg5 I (cO 2 I I)) (lU (SU.eq (v':=.int .u8 ((sp % 26:Nat):Int)) (SU.rem I I dC) I) (lU (gQ I I) (SL.nT ?_)))));refine iP I (fun h10=>?_) (fun h10=>?_)
  ·have hf:firstC sp L=simL L:=by unfold firstC; rw[if_pos oM]
   refine rG (lU (fA uT25 I zT22 I) (lK (qL (v:=.slice pL L.length cL) iT22 I (cO 2 I I)) (lU (fA uT25 I zT22 I) (lK (qL (v:=.slice pL L.length cL) iT22 I (cO 2 I I)) (lU (eN uT22 I) (lU (SU.eq (v':=vi ((min L.length 5:Nat):Int)) (SU.min8 I I) (congrArg vi oM)) (lU (SU.eq (v':=.slice q26 (min L.length 5 - 0) (cL - 0)) (SU.sliceH uT22 zT3 I I oM oM) hq26) (lW (SO.call call30 I (simplices7_spec E g1 _ _ _ (SlA.mono hcut hle1))) ?_))))))));rintro _ g2 _ ⟨rfl,hle2,u2,rfl,hu2⟩;obtain ⟨q2,d2,rfl⟩:=hu2.form;refine SL.O2 (sK 0 zT29 I I I I I sB) ?_;refine nL ?_;refine ST.mid (g2,_) sB I I ⟨hle1.trans hle2,?_⟩;dsimp only;rw[hf];unfold simL;rw[← take_five L];exact hu2
  ·have hf:firstC sp L=spaceC (sp % 10):=by unfold firstC; rw[if_neg oM]
   refine kP ?_;refine ST.mid (g1,_) sB I I ⟨hle1,?_⟩;dsimp only;rw[hf];exact hu1
 clear hu1 hle1 hcut hq26 hcap;rintro ⟨g2,u2⟩ ⟨hle2,hu2⟩;dsimp only at hle2 hu2 ⊢;have hFg:=first_good sp L;have hFf:=first_fits sp L;unfold complexC;generalize firstC sp L=F at *;refine sQ (SC.sR (lA I (SL.nT (bK ?_))));refine oP (ι:=PH×Value×Nat) (fun i=>[(1,pp b1 0),(2,pp b2 0),(3,pp b3 0),(4,vi i.2.2)]) (fun i=>i.1) (fun i=>pt b3 (.cells #[i.2.1] 29 (0,0))::pt b2 (.cells #[.slice none 0 0] 29 (0,0))::pt b1 (.cells #[.int .u8 (sp:Int),.slice pL L.length cL,.slice pG G.length cG,.int .u8 (bs:Int)] 25 (0,0))::s)
  (fun i=>Le g i.1∧i.2.2≤G.length∧i.2.2≤6∧Cells i.1 i.2.1 (goneTo G F i.2.2)) (fun i=>G.length - i.2.2) (g2,u2,0) sB rfl rfl ⟨hle2,Nat.zero_le _,Nat.zero_le _,hu2⟩ ?_
 clear hu2 hle2;rintro ⟨g1,v,k⟩ ⟨hle,hk,hk6,hv⟩;dsimp only at hle hk hk6 hv ⊢;have hCg:=goneTo_good hFg G k;have hCf:=goneTo_fits hFf G k;have hsucc:=@goneTo_succ F G k;have hstop:=@goneTo_stop F G k;generalize hCe:goneTo G F k=C at *;obtain ⟨q,d,rfl⟩:=hv.form;have hCl:=hCg.few;have f1:(k:Int)<(G.length:Int)→(k:Int)<6→((decide ((k:Int)<(G.length:Int))&&decide ((k:Int)<6))&&decide ((C.length:Int)>1))=decide ((C.length:Int)>1):=fun h h2=>by simp[h,h2]
 have f2:(k:Int)<(G.length:Int)→¬ (k:Int)<6→((decide ((k:Int)<(G.length:Int))&&decide ((k:Int)<6))&&decide ((C.length:Int)>1))=false:=fun h h2=>by simp only[h2,decide_false,Bool.and_false,Bool.false_and]
 have f3:¬ (k:Int)<(G.length:Int)→((decide ((k:Int)<(G.length:Int))&&decide ((k:Int)<6))&&decide ((C.length:Int)>1))=false:=fun h=>by simp only[h,decide_false,Bool.false_and]
 refine sQ ?_;refine SC.cutB 39 (((decide ((k:Int)<(G.length:Int))&&decide ((k:Int)<6))&&decide ((C.length:Int)>1))) ?_ ?_
 ·refine rG (lM I (lU (fA uT25 I sizeOf23 I) (lK (qL (v:=.slice pG G.length cG) isAgg23 I (cO 2 I I)) (lU (eN underlying23 I) (lU (lS I I) (lM I ?_))))));refine sP ?_ ?_
  ·intro h30;refine lY I I I (mV I) (lY I I I (lS I I) (lU (pT I I) (lM I ?_)));refine sP ?_ ?_
   ·intro h34;refine lY I I I (fA uT29 I zT27 I) (SL.gq (gT I I I dC) (qL (v:=.slice q C.length d) iT27 I (cO 0 I I)) dC (lY I I I (eN uT27 I) (lY I I I (gR I I) (lU (pT I I) (nL ?_)))));exact ST.mid1 (by (rw[f1 h30 h34]; rfl)) mI
   ·intro h34;refine lZ I I I (lZ I I I (lZ I I I (lZ I I I (lU (pF I I) (nL ?_)))));exact ST.mid1 (by (rw[f2 h30 h34]; rfl)) mI
  ·intro h30;refine lZ I I I (lZ I I I (lU (pF I I) (lM I (lZ I I I (lZ I I I (lZ I I I (lZ I I I (lU (pF I I) (nL ?_)))))))));exact ST.mid1 (by (rw[f3 h30]; rfl)) mI
 refine iQ I (fun hc=>?_) (fun hc=>?_)
 ·rw[Bool.and_eq_true,Bool.and_eq_true,decide_eq_true_iff,decide_eq_true_iff,decide_eq_true_iff] at hc;have hkl:k<G.length:=oM;have hC1:C.length>1:=oM;have hne:C≠[]:=fun e=>by subst e; simp at hC1
  have htn:=tops_some hCg.right hne;have htl:=List.length_pos_iff.2 htn;have hgq:(G.map fun x:Nat=>(x:Int))[((k:Nat):Int).toNat]?=some ((G.getD k 0:Nat):Int):=by
   show (G.map fun x:Nat=>(x:Int))[k]?=_;rw[List.getElem?_map,gE hkl,List.getD_eq_getElem?_getD,gE hkl]; rfl
  have hq256:G.getD k 0<256:=by
   rw[List.getD_eq_getElem?_getD,gE hkl];exact hGb _ (gM hkl)
  have hgo:goneStep C (G.getD k 0)=C.filter fun x=>decide (x.id≠(topsC C).getD (G.getD k 0 % (topsC C).length) 0):=rfl;have hs1:=hsucc hC1;rw[hgo] at hs1;generalize G.getD k 0=q0 at *;have htlen:(topsC C).length≤C.length:=by
   unfold topsC;rw[List.length_map];exact Nat.le_trans (List.length_filter_le _ _) (tabC_length C)
  have hbG:=SlA.based hG (by rw[List.length_map]; omega);have hmod:=Nat.mod_lt q0 htl;have hgt:(topsC C)[((q0 % (topsC C).length:Nat):Int).toNat]?=some ((topsC C).getD (q0 % (topsC C).length) 0):=by
   show (topsC C)[q0 % (topsC C).length]?=_;rw[List.getD_eq_getElem?_getD,gE hmod]; rfl
  generalize (topsC C).getD (q0 % (topsC C).length) 0=tid at *;refine kP (tN (sQ (bK (SC.sR (lK (qV 0 iT29 zT29 I I I) (lW (SO.call call31 I (refTops_spec E g1 _ _ C hv hCf)) ?_))))));rintro v43 g4 _ ⟨rfl,hle4,ht4⟩;obtain ⟨qt,dt,rfl⟩:=SlA.form ht4;have hbT:=SlA.based ht4 oM;refine lA I (SL.nT (SC.sR (lM I (lU (fA uT25 I sizeOf23 I) (lK (qL (v:=.slice pG G.length cG) isAgg23 I (cO 2 I I)) (lM I (lU (iA underlying23 sizeOf5 I I hbG oM sL) (lK (eB (e:=encB) isAgg5 I (SlA.rd (SlA.mono hG (hle.trans hle4))) hgq I) (lU (SU.eq (v':=vi (q0:Int)) (SU.convert uT5 uT3 I) (congrArg vi (IntWalk.i64_in _ oM))) (lM I (lU (eN uT22 I) (lU (SU.eq (v':=vi ((q0 % (topsC C).length:Nat):Int)) (SU.rem I I oM) I) (lU (iA uT22 zT3 I I hbT oM sL) (lK (eB iT3 I (SlA.rd ht4) hgt I) (lA I (SL.nT (SC.sR (SL.bx (aL zeroValue29) fun b7=>?_))))))))))))))))));refine SL.nT (sQ (SC.sR (lA I (SL.nT (bK (SC.nilRow 54 3 ?_))))));obtain ⟨rsv,hrsv,hallv⟩:=hv;have evl:=hallv.length;refine oP (ι:=Value×List Rc×Nat) (fun i=>[(1,pp b1 0),(2,pp b2 0),(3,pp b3 0),(4,vi k),(6,vi tid),(7,pp b7 0),(8,vi i.2.2)]) (fun _=>g4) (fun i=>rowA encCell 54 i.1 i.2.1::pt b7 (.cells #[i.1] 29 (0,0))::pt b3 (.cells #[.slice q C.length d] 29 (0,0))::pt b2 (.cells #[.slice none 0 0] 29 (0,0))::pt b1 (.cells #[.int .u8 (sp:Int),.slice pL L.length cL,.slice pG G.length cG,.int .u8 (bs:Int)] 25 (0,0))::s)
   (fun i=>i.2.2≤C.length∧All2 (CellR g4) ((C.take i.2.2).filter fun x=>decide (x.id≠tid)) i.2.1) (fun i=>C.length - i.2.2) (.slice none 0 0,[],0) sB rfl rfl ⟨Nat.zero_le _,trivial⟩ ?_
  rintro ⟨ov,rcs,j⟩ ⟨hj,hrcs⟩;dsimp only at hj hrcs ⊢;have hrl:=hrcs.length;have hfl:=List.length_filter_le (fun x:Cl=>decide (x.id≠tid)) (C.take j);rw[List.length_take] at hfl;refine sQ (SC.sR (lM I (lU (fA uT29 I zT27 I) (lK (qL (v:=.slice q C.length d) iT27 I (cO 2 I I)) (lU (eN uT27 I) (lU (lS I I) (SL.nT ?_)))))));refine iP I (fun hlt=>?_) (fun hlt=>?_)
  ·have hjl:j<C.length:=oM;have hjr:j<rsv.length:=oM;have hb1:=hrsv.based oM;have hxr:=(hallv.get (gE hjl) (gE hjr)).mono hle4;have hgx:rsv[((j:Nat):Int).toNat]?=some rsv[j]:=gE hjr;have htk:C.take (j+1)=C.take j++[C[j]]:=tS hjl;generalize C[j]=x at *;obtain ⟨xp,xcap,hrx,hxs⟩:=cellR_form hxr;rw[hrx] at hgx hxr;refine kP (tN (sQ (bK (SC.sR (lU (fA uT29 I zT27 I) (lK (qL (v:=.slice q C.length d) iT27 I (cO 2 I I)) (lM I (lU (iA uT27 zT54 I I hb1 oM sL) (lU (fC uT54 I zT3 I hb1) (lK (pA (e:=encCell) (o:=0) (u:=vi x.id) iT3 I (hrsv.mono hle4).rd hgx I) (lM I (lU (nQ I I) (SL.nT ?_)))))))))))));refine iP I (fun hd=>?_) (fun hd=>?_)
   ·have hft:(C.take (j+1)).filter (fun x=>decide (x.id≠tid))=(C.take j).filter (fun x=>decide (x.id≠tid))++[x]:=by
     rw[htk,List.filter_append];simp[hd]
    refine dW [8,10] [(0,2),(1,1),(2,2),(3,1),(4,2),(5,2),(6,1),(7,0),(8,0),(9,2),(10,0)] Tryz.mixed (by kernel_rfl) ?_;refine pU rfl (fA uT29 rfl zT27 rfl) (pK rfl (qL (v:=ov) iT27 rfl (cO 1 rfl rfl)) (pU rfl (fA uT29 rfl zT27 rfl) (pK rfl (qL (v:=.slice q C.length d) iT27 rfl (cO 2 rfl rfl)) (pU rfl (mV rfl) (pU rfl (iA uT27 zT54 rfl rfl hb1 oM sL) (pK rfl (eA iT54 zT54 rfl (hrsv.mono hle4).rd hgx) (SP.o rfl (SO.buildSlice sty27 rfl rfl rfl (szs_mk ⟨rfl,trivial⟩) dC) dC (.inr (by rintro _ _ _ ⟨b78,rfl,rfl,rfl⟩; exact⟨by exact Le.refl _,(by exact .cons _ (.refl _))⟩)) ?_)))))));rintro _ _ _ ⟨b78,rfl,rfl,rfl⟩;refine SP.o I (aP (e:=encCell) 0 ⟨x.id,x.dim,⟨xp,x.sides.length,xcap⟩⟩ sty27 I I I I I oM oM) dC (.inl dC) ?_;rintro v79 _ _ ⟨rfl,rfl⟩;refine SP.facts fun ⟨w0,hw0⟩=>?_;obtain ⟨q9,d9,rfl⟩:=rowA_form (e:=encCell) (l:=rcs++[(⟨x.id,x.dim,⟨xp,x.sides.length,xcap⟩⟩:Rc)]) (i:=0) hw0 rfl;clear hw0 w0;refine pU I (fA uT29 I zT27 I) (SP.on I (sK 1 zT27 I I I I I sB) (.inl dC) ?_);rintro _ _ _ ⟨rfl,rfl⟩;refine pN (bN (tN (rG (lM I (lU (aD I I oM) (lA I (nL ?_)))))));exact ST.again (.slice q9 (rcs++[(⟨x.id,x.dim,⟨xp,x.sides.length,xcap⟩⟩:Rc)]).length d9,rcs++[⟨x.id,x.dim,⟨xp,x.sides.length,xcap⟩⟩],j+1) sB I I ⟨lN,by dsimp only; rw[hft]; exact hrcs.append ⟨hxr,trivial⟩⟩ lN
   ·have hft:(C.take (j+1)).filter (fun x=>decide (x.id≠tid))=(C.take j).filter (fun x=>decide (x.id≠tid)):=by
     rw[htk,List.filter_append];simp only[List.filter_cons,hd,decide_false,Bool.false_eq_true,if_false,List.filter_nil,List.append_nil]
    refine kP (bN (tN (rG (lM I (lU (aD I I oM) (lA I (nL ?_)))))));exact ST.again (ov,rcs,j+1) sB I I ⟨lN,by dsimp only; rw[hft]; exact hrcs⟩ lN
  ·have hjj:C.take j=C:=tL oM;rw[hjj] at hrcs;refine xI (tX (tX (bX (tN (fS fun g5 hle5 hs5=>?_)))));have hov:Cells g5 ov (goneTo G F (k+1)):=by rw[hs1]; exact⟨rcs,hs5,hrcs.mono fun _ _=>CellR.mono hle5⟩
   obtain ⟨qo,do_,rfl⟩:=hov.form;refine rG (lK (qV 0 iT29 zT29 I I I) (SL.O2 (sK 1 zT29 I I I I I sB) ?_));refine nL (bN (tN (rG (lM I (lU (aD I I oM) (lA I (nL (dR (s':=pt b3 (.cells #[.slice qo (goneTo G F (k+1)).length do_] 29 (0,0))::pt b2 (.cells #[.slice none 0 0] 29 (0,0))::pt b1 (.cells #[.int .u8 (sp:Int),.slice pL L.length cL,.slice pG G.length cG,.int .u8 (bs:Int)] 25 (0,0))::s) (.cons _ (.refl _)) ?_))))))));exact ST.again (g5,_,k+1) sB I I ⟨hle.trans (hle4.trans hle5),lN,lN,hov⟩ lN
 ·have hend:goneTo G F (min 6 G.length)=C:=by
   rw[Bool.and_eq_false_iff,Bool.and_eq_false_iff,decide_eq_false_iff_not,decide_eq_false_iff_not,decide_eq_false_iff_not] at hc;by_cases h1:C.length>1
   ·rw[show min 6 G.length=k by omega];exact hCe
   ·exact hstop oM oM
  rw[hend];have f4:(((bs % 4:Nat):Int)=3)→(decide (((bs % 4:Nat):Int)=3)&&decide ((C.length:Int)<26))=decide ((C.length:Int)<26):=fun h=>by simp only[h,decide_true,Bool.true_and]
  have f5:¬ (((bs % 4:Nat):Int)=3)→(decide (((bs % 4:Nat):Int)=3)&&decide ((C.length:Int)<26))=false:=fun h=>by simp only[h,decide_false,Bool.false_and]
  have hu8:∀ m:Nat,m<256→IntKind.u8.wrap (m:Int)=(m:Int):=fun m hm=>by
   unfold IntKind.wrap;simp[IntKind.bits,IntKind.signed];omega
  have hM1:=maxId_ge C 0;have hM2:=maxId_le (K:=4000) (fun x hx=>(hCg.ids x hx).2) 0 dC;have hsl:=(space_check (bs / 4 % 5) oM).2.1;have hss:=small_space (bs / 4 % 5) oM;have hsm:bs / 4 % 5 % 10=bs / 4 % 5:=oM;have hspc:=fun (g:PH) (s:Own)=>space_spec E g s (bs / 4 % 5);rw[hsm] at hspc;refine xI (tX (tX (bX (tN (sQ ?_)))));refine SC.cutB 91 ((decide (((bs % 4:Nat):Int)=3)&&decide ((C.length:Int)<26))) ?_ ?_
  ·refine rG (lU (fA uT25 I sizeOf5 I) (lK (qL (v:=.int .u8 (bs:Int)) isAgg5 I (cO 2 I I)) (lU (SU.eq (v':=.int .u8 ((bs % 4:Nat):Int)) (SU.rem I I dC) I) (lU (eQ I I) (lM I ?_)))));refine sP ?_ ?_
   ·intro h86;refine lY I I I (fA uT29 I zT27 I) (SL.gq (gT I I I dC) (qL (v:=.slice q C.length d) iT27 I (cO 0 I I)) dC (lY I I I (eN uT27 I) (lY I I I (lS I I) (lU (pT I I) (nL ?_)))));exact ST.mid1 (by (rw[f4 h86]; rfl)) mI
   ·intro h86;refine lZ I I I (lZ I I I (lZ I I I (lZ I I I (lU (pF I I) (nL ?_)))));exact ST.mid1 (by (rw[f5 h86]; rfl)) mI
  refine iQ I (fun hc2=>?_) (fun hc2=>?_)
  ·rw[Bool.and_eq_true,decide_eq_true_iff,decide_eq_true_iff] at hc2;have hif:bs % 4=3∧C.length<26:=oM;rw[if_pos hif];refine dW [8] [(0,1),(1,2),(2,1),(3,2),(4,2),(5,2),(6,0),(7,0),(8,0)] Tryz.mixed (by kernel_rfl) ?_;refine pK rfl (qV 0 iT29 zT29 rfl rfl rfl) (pU rfl (fA uT25 rfl sizeOf5 rfl) (pK rfl (qL (v:=.int .u8 (bs:Int)) isAgg5 rfl (cO 2 rfl rfl)) (pU rfl (SU.eq (v':=.int .u8 ((bs / 4:Nat):Int)) (SU.quo rfl rfl dC) (congrArg (Value.int .u8) (hu8 (bs / 4) oM))) (pU rfl (SU.eq (v':=vi ((bs / 4:Nat):Int)) (SU.convert uT5 uT3 rfl) (congrArg vi (IntWalk.i64_in _ oM))) (pU rfl (SU.eq (v':=vi ((bs / 4 % 5:Nat):Int)) (SU.rem rfl rfl dC) rfl) (SP.o rfl (SO.call call29 rfl (hspc g1 _)) dC (.inr (by rintro _ g6 _ ⟨rfl,hle6,u6,rfl,hu6⟩; exact⟨by assumption,(by exact .refl _)⟩)) ?_))))));rintro _ g6 _ ⟨rfl,hle6,u6,rfl,hu6⟩;obtain ⟨q6,d6,rfl⟩:=hu6.form;refine SP.o rfl (SO.call call32 rfl (beside_spec E g6 _ _ _ C _ (hv.mono hle6) hu6 oM oM ⟨hM1.1,by have:maxId C≤4000:=hM2; omega⟩ hss)) dC (.inr (by rintro _ g7 _ ⟨rfl,hle7,u7,rfl,hu7⟩; exact⟨by exact Le.trans (by assumption) (by assumption),(by exact .refl _)⟩)) ?_;rintro _ g7 _ ⟨rfl,hle7,u7,rfl,hu7⟩;obtain ⟨q7,d7,rfl⟩:=hu7.form;refine SP.on I (sK 0 zT29 I I I I I sB) (.inl dC) ?_;rintro _ _ _ ⟨rfl,rfl⟩;refine pN (tN (SC.sR (lK (qV 0 iT29 zT29 I I I) (SL.O2 (sK 1 zT29 I I I I I sB) ?_))));refine SL.nT (rE ?_);exact ST.retCD 1 s (.inl I) results10 I iT29 zT29 I I (.cons _ (.cons _ (.cons _ (.refl _)))) ⟨I,hle.trans (hle6.trans hle7),_,I,hu7⟩
  ·rw[Bool.and_eq_false_iff,decide_eq_false_iff_not,decide_eq_false_iff_not] at hc2;have hif:¬ (bs % 4=3∧C.length<26):=oM;rw[if_neg hif];refine kP (tN (SC.sR (lK (qV 0 iT29 zT29 I I I) (SL.O2 (sK 1 zT29 I I I I I sB) ?_))));refine SL.nT (rE ?_);exact ST.retCD 1 s (.inl I) results10 I iT29 zT29 I I (.cons _ (.cons _ (.cons _ (.refl _)))) ⟨I,hle,_,I,hv⟩
theorem modW_range8 (a b:Int)(h0:0<b)(h1:b≤1099511627776):0≤modW a b∧modW a b<b:=by
 have h2:a.tmod b<b:=Int.tmod_lt_of_pos a h0;have h3 : -b<a.tmod b:=by
  have:=Int.lt_tmod_of_pos a h0;omega
 unfold modW;rw[IntWalk.i64_in _ oM,Int.tmod_eq_emod_of_nonneg oM];exact⟨Int.emod_nonneg _ oM,Int.emod_lt_of_pos _ h0⟩
theorem modW_nat8 (a:Int)(n:Nat)(h0:0<n)(h1:n≤1099511627776):modW a n=(((modW a n).toNat:Nat):Int)∧(modW a n).toNat<n:=by
 have:=modW_range8 a n oM oM;omega
def askedP (P:List Pr)(n:Int):Pr:=if n.tmod 5=4∨P.length=0 then (n.tmod 13,(IntKind.i64.wrap (n.tdiv 13)).tmod 17) else P.getD (modW n P.length).toNat (0,0)
def askedC (P:List Pr)(ns:List Int):List Pr:=(ns.take 30).map (askedP P)
theorem asked_new (E:World)(g:PH)(s:Own)(v vn:Value)(l:List Cl)(ns:List Int)(hv:Cells g v l)(hf:Fits l)(hl:l.length≤1000000)(hn:Ints g vn ns)(hPl:(pairsR l).length≤1099511627776) :
  Ctr Tryz.prog E 11 #[.agg #[v],vn] g s (fun r g' s'=>s=s'∧Le g g'∧SlA encPr (mns g' g) r (askedC (pairsR l) ns)):=by
 obtain ⟨p,c,rfl⟩:=SlA.form hn;obtain ⟨q,d,rfl⟩:=hv.form;refine Ctr.of (args:=[.agg #[.slice q l.length d],.slice p ns.length c]) func11 I ntmps11 (bE I) ?_;refine SC.sR (SL.bx (bO I) fun b2=>?_);refine lA I (SL.nT (SC.sR (lK (qV 0 iT29 zT29 I I I) (lW (SO.call call26 I (pairs14_spec E g _ _ l hv hf hl)) ?_))));rintro v9 g1 _ ⟨rfl,hle1,hP⟩;obtain ⟨qp,dp,rfl⟩:=SlA.form hP;refine lA I (SL.nT (SC.sR (lA I (SL.nT (sQ (SC.sR (lA I (SL.nT (bK ?_)))))))));generalize pairsR l=P at *;refine SC.nilRow 44 2 ?_;refine oP (ι:=Value×Nat) (fun i=>[(1,.slice p ns.length c),(4,.slice none 0 0),(5,.slice qp P.length dp),(6,i.1),(7,vi i.2)]) (fun _=>g1)
  (fun i=>rowA encPr 44 i.1 ((ns.take i.2).map (askedP P))::pt b2 (.cells #[.slice q l.length d] 29 (0,0))::s)
  (fun i=>i.2≤ns.length∧i.2≤30) (fun i=>ns.length - i.2) (.slice none 0 0,0) sB rfl rfl ⟨Nat.zero_le _,Nat.zero_le _⟩ ?_
 rintro ⟨w,k⟩ ⟨hk,hk30⟩;dsimp only at hk hk30 ⊢;have f1:(k:Int)<(ns.length:Int)→(decide ((k:Int)<(ns.length:Int))&&decide ((k:Int)<30))=decide ((k:Int)<30):=fun h=>by simp[h]
 have f2:¬ (k:Int)<(ns.length:Int)→(decide ((k:Int)<(ns.length:Int))&&decide ((k:Int)<30))=false:=fun h=>by simp only[h,decide_false,Bool.false_and]
 refine sQ ?_;refine SC.cutB 17 ((decide ((k:Int)<(ns.length:Int))&&decide ((k:Int)<30))) ?_ ?_
 ·refine rG (lM I (lM I (lU (eN uT22 I) (lU (lS I I) (lM I ?_)))));refine sP ?_ ?_
  ·intro h14;refine lY I I I (mV I) (lY I I I (lS I I) (lU (pT I I) (nL ?_)));exact ST.mid1 (by (rw[f1 h14]; rfl)) mI
  ·intro h14;refine lZ I I I (lZ I I I (lU (pF I I) (nL ?_)));exact ST.mid1 (by (rw[f2 h14]; rfl)) mI
 refine iQ I (fun hc=>?_) (fun hc=>?_)
 ·rw[Bool.and_eq_true,decide_eq_true_iff,decide_eq_true_iff] at hc;have hkl:k<ns.length:=oM;have hb1:=SlA.based hn oM;have hgk:ns[((k:Nat):Int).toNat]?=some ns[k]:=gE hkl;have hsucc:=map_take_succ hkl (askedP P);have hml:((ns.take k).map (askedP P)).length=k:=by rw[List.length_map,List.length_take]; omega
  generalize ns[k]=n at *;have f3:n.tmod 5=4→(decide (n.tmod 5=4)||decide ((P.length:Int)=0))=true:=fun h=>by simp only[h,decide_true,Bool.true_or]
  have f4:¬ n.tmod 5=4→(decide (n.tmod 5=4)||decide ((P.length:Int)=0))=decide ((P.length:Int)=0):=fun h=>by simp only[h,decide_false,Bool.false_or]
  refine kP (tN (sQ (bK ?_)));refine SC.cutB 30 ((decide (n.tmod 5=4)||decide ((P.length:Int)=0))) ?_ ?_
  ·refine rG (lM I (lM I (lU (iA uT22 zT3 I I hb1 oM sL) (lK (eB iT3 I (SlA.rd (SlA.mono hn hle1)) hgk I) (lU (SU.rem I I dC) (lU (eQ I I) (lM I ?_)))))));refine sP ?_ ?_
   ·intro h26;refine lZ I I I (lZ I I I (lZ I I I (lU (pT I I) (nL ?_))));exact ST.mid1 (by (rw[f3 h26]; rfl)) mI
   ·intro h26;refine lY I I I (mV I) (lY I I I (eN uT31 I) (lY I I I (eQ I I) (lU (pF I I) (nL ?_))));exact ST.mid1 (by (rw[f4 h26]; rfl)) mI
  refine iQ I (fun hc2=>?_) (fun hc2=>?_)
  ·rw[Bool.or_eq_true,decide_eq_true_iff,decide_eq_true_iff] at hc2;have ha:askedP P n=(n.tmod 13,(IntKind.i64.wrap (n.tdiv 13)).tmod 17):=by unfold askedP; rw[if_pos oM]
   rw[ha] at hsucc;refine dW [14] [(0,2),(1,2),(2,2),(3,2),(4,1),(5,2),(6,2),(7,2),(8,2),(9,1),(10,2),(11,2),(12,2),(13,0),(14,0),(15,2)] Tryz.mixed (by kernel_rfl) ?_;refine pU rfl (mV rfl) (pU rfl (mV rfl) (pU rfl (mV rfl) (pU rfl (iA uT22 zT3 rfl rfl hb1 oM sL) (pK rfl (eB iT3 rfl (SlA.rd (SlA.mono hn hle1)) hgk rfl) (pU rfl (SU.rem rfl rfl dC) (pU rfl (mV rfl) (pU rfl (mV rfl) (pU rfl (iA uT22 zT3 rfl rfl hb1 oM sL) (pK rfl (eB iT3 rfl (SlA.rd (SlA.mono hn hle1)) hgk rfl) (pU rfl (SU.quo rfl rfl dC) (pU rfl (SU.rem rfl rfl dC) (pU rfl (SU.build rfl (build44 _ _)) (SP.o rfl (SO.buildSlice sty31 rfl rfl rfl (szs_mk ⟨rfl,trivial⟩) dC) dC (.inr (by rintro _ _ _ ⟨b44,rfl,rfl,rfl⟩; exact⟨by exact Le.refl _,(by exact .cons _ (.refl _))⟩)) ?_)))))))))))));rintro _ _ _ ⟨b44,rfl,rfl,rfl⟩;refine SP.o I (aP (e:=encPr) 0 (n.tmod 13,(IntKind.i64.wrap (n.tdiv 13)).tmod 17) sty31 I I I I I oM oM) dC (.inl dC) ?_;rintro v45 _ _ ⟨rfl,rfl⟩;refine pU I (aS I) (pN (bN (tN (rG (lM I (lU (aD I I oM) (lA I (nL ?_))))))));refine ST.to (fun w hw=>?_) (g':=g1) (s':=rowA encPr 44 v45 ((ns.take (k+1)).map (askedP P))::pt b2 (.cells #[.slice q l.length d] 29 (0,0))::s) ?_
   ·rw[hsucc]; exact hw
   exact ST.again (v45,k+1) sB I I ⟨lN,lN⟩ lN
  ·rw[Bool.or_eq_false_iff,decide_eq_false_iff_not,decide_eq_false_iff_not] at hc2;have ha:askedP P n=P.getD (modW n P.length).toNat (0,0):=by unfold askedP; rw[if_neg oM]
   obtain ⟨hm1,hm2⟩:=modW_nat8 n P.length oM hPl;have hbP:=SlA.based hP oM;rw[ha] at hsucc;generalize hme:(modW n P.length).toNat=m at *;have hgm:P[((m:Nat):Int).toNat]?=some (P.getD m (0,0)):=by
    show P[m]?=_;rw[List.getD_eq_getElem?_getD,gE hm2]; rfl
   generalize P.getD m (0,0)=x at *;have hmod:=fun (g:PH) (s:Own)=>mod_spec E g s n P.length oM;rw[hm1] at hmod;refine rG (lM I (lM I (lM I (lM I (lU (iA uT22 zT3 I I hb1 oM sL) (lK (eB iT3 I (SlA.rd (SlA.mono hn hle1)) hgk I) (lM I (lU (eN uT31 I) (lW (SO.call call19 I (hmod g1 _)) ?_)))))))));rintro _ _ _ ⟨rfl,rfl,rfl⟩;refine lU (iA uT31 zT44 I I hbP oM sL) (lK (eA iT44 zT44 I (SlA.rd hP) hgm) (lW (SO.buildSlice sty31 I I I (szs_mk ⟨I,trivial⟩) dC) ?_));rintro _ _ _ ⟨b57,rfl,rfl,rfl⟩;refine lW (aP (e:=encPr) 0 x sty31 I I I I I oM oM) ?_;rintro v58 _ _ ⟨rfl,rfl⟩;refine lA I (nL (bN (tN (rG (lM I (lU (aD I I oM) (lA I (nL ?_))))))));refine ST.to (fun w hw=>?_) (g':=g1) (s':=rowA encPr 44 v58 ((ns.take (k+1)).map (askedP P))::pt b2 (.cells #[.slice q l.length d] 29 (0,0))::s) ?_
   ·rw[hsucc]; exact hw
   exact ST.again (v58,k+1) sB I I ⟨lN,lN⟩ lN
 ·have hls:ns.take k=ns.take 30:=by
   rw[Bool.and_eq_false_iff,decide_eq_false_iff_not,decide_eq_false_iff_not] at hc;by_cases h5:k=30
   ·rw[h5]
   ·rw[tL oM,tL oM]
  rw[hls];refine xI (tX (tX (bX (tN (sQ (SC.freezeRowK fun g3 hle3 hs3=>?_))))));have hov:SlA encPr (mns g3 g) w (askedC P ns):=SlA.mono hs3.sl (mns_anti hle1);refine rG (lM I (lA I (SL.nT (rE (dR (s':=s) (.cons _ (.refl _)) ?_)))));exact ST.ret1 (.inl I) results11 I ⟨I,hle1.trans hle3,hov⟩
theorem asked_spec (E:World)(g:PH)(s:Own)(v vn:Value)(l:List Cl)(ns:List Int)(hv:Cells g v l)(hf:Fits l)(hl:l.length≤1000000)(hn:Ints g vn ns)(hPl:(pairsR l).length≤1099511627776) :
  Ctr Tryz.prog E 11 #[.agg #[v],vn] g s (fun r g' s'=>s=s'∧Le g g'∧SlA encPr g' r (askedC (pairsR l) ns)) :=
 (asked_new E g s v vn l ns hv hf hl hn hPl).mono fun _ _ _ ⟨h1,h2,h3⟩=>⟨h1,h2,SlA.mono h3 (mns_le _ _)⟩
theorem flatMap_le {α β:Type}{f:α→List β}{K:Nat}(h:∀ a,(f a).length≤K):∀ l:List α,(l.flatMap f).length≤l.length * K
 | []=>by simp
 | a::l=>by
  have:=h a;have:=flatMap_le h l;rw[List.flatMap_cons,List.length_append,List.length_cons,Nat.add_mul,Nat.one_mul];omega
theorem pairsR_len (l:List Cl)(h:l.length≤8000):(pairsR l).length≤64000000:=by
 have ht:=tabC_length l;have h1:(pairsR l).length≤(tabC l).length * (tabC l).length:=by
  unfold pairsR;exact flatMap_le (fun c=>by rw[List.length_map]; exact above_len l c.id) _
 have h2:(tabC l).length * (tabC l).length≤8000 * 8000:=Nat.mul_le_mul oM oM;omega
theorem keepR_len (l:List Cl)(m:List Pr):(keepR l m).length≤m.length:=by
 have:=foldR_len l m [];unfold keepR;simpa using this
theorem extendR_len (l:List Cl)(m:List Pr)(h:l.length≤8000):(extendR l m).length≤m.length+64000000:=by
 unfold extendR;split
 ·have:=foldR_len l (pairsR l) (keepR l m);have:=keepR_len l m;have:=pairsR_len l h;omega
 ·simp
theorem askedC_len (P:List Pr)(ns:List Int):(askedC P ns).length≤30:=by
 unfold askedC;rw[List.length_map,List.length_take];omega
theorem complex_fits (sp:Nat)(L:List Int)(G:List Nat)(bs:Nat):Fits (complexC sp L G bs)∧(complexC sp L G bs).length≤8000:=by
 have hr:=(complex_good sp L G bs).1.few;rw[canonC_length] at hr;refine⟨⟨oM,?_⟩,oM⟩;have hf:=goneTo_fits (first_fits sp L) G (min 6 G.length);unfold complexC;split
 ·intro c hc;unfold besideC at hc
  rcases List.mem_append.1 hc with hc | hc
  ·exact hf.2 c hc
  ·obtain ⟨d,hd,rfl⟩:=List.mem_map.1 hc;have:=(space_check (bs / 4 % 5) oM).2.2 d hd;unfold shC;dsimp only;rw[List.length_map];omega
 ·exact hf.2
theorem triangle14_spec (E:World)(g:PH)(s:Own):Ctr Tryz.prog E 28 #[] g s (fun r g' s'=>s=s'∧Le g g'∧∃ u,r = .agg #[u]∧Cells g' u triL):=by
 refine Ctr.of (args:=[]) func28 I ntmps28 (bE I) ?_;refine SC.sR (SL.bx (aL zeroValue29) fun b0=>?_);refine SL.nT (SC.sR (lW (SO.buildSlice sty22 I I I (szs_mk sB) dC) ?_));rintro _ _ _ ⟨b1,rfl,rfl,rfl⟩;refine SL.freeze fun g1 hle1 hb1=>?_;refine lW (SO.buildSlice sty108 I I I (szs_mk ⟨I,trivial⟩) dC) ?_;rintro _ _ _ ⟨b2,rfl,rfl,rfl⟩;refine SL.freeze fun g2 hle2 hb2=>?_;have hlit:Lists g2 (.slice (some ⟨b2,0,none⟩) 1 1) [[0,1,2]]:=⟨[svOf (.slice (some ⟨b1,0,none⟩) 3 3)],SlA.lit hb2 rfl rfl,⟨SlA.lit (hle2 _ _ hb1) rfl rfl,trivial⟩⟩;refine lW (SO.call call58 I (refSimplicial_spec E g2 _ _ _ hlit dC dC)) ?_;rintro _ g3 _ ⟨rfl,hle3,u,rfl,hu⟩;rw[simp_tri] at hu;obtain ⟨q,d,rfl⟩:=hu.form;refine SL.O2 (sK 0 zT29 I I I I I sB) ?_;refine SL.nT (rE ?_);exact ST.retCD 0 s (.inl I) results28 I iT29 zT29 I I (.cons _ (.refl _)) ⟨I,hle1.trans (hle2.trans hle3),_,I,hu⟩
def Sane14:Prop:=∀ (E:World) (g:PH) (s:Own),Ctr Tryz.prog E 9 #[] g s (fun r g' s'=>r=vb true∧s=s'∧Le g g')
theorem keeps_law (hs:Sane14)(E:World)(g:PH)(s:Own)(sp bs:Nat)(vL vG vn:Value)(L ns:List Int)(G:List Nat)(hL:Ints g vL L)(hG:SlA encB g vG (G.map fun x:Nat=>(x:Int)))(hn:Ints g vn ns)(hsp:sp<256)(hbs:bs<256)(hGb:∀ x∈G,x<256) :
  Ctr Tryz.prog E 3 #[.agg #[.int .u8 (sp:Int),vL,vG,.int .u8 (bs:Int)],vn] g s (fun r g' s'=>r=vb true∧s=s'∧Le g g'):=by
 obtain ⟨pL,cL,rfl⟩:=SlA.form hL;obtain ⟨pG,cG,rfl⟩:=SlA.form hG;obtain ⟨pn,cn,rfl⟩:=SlA.form hn;obtain ⟨hCf,hCl⟩:=complex_fits sp L G bs;have hPl:=pairsR_len _ hCl;have hAl:=askedC_len (pairsR (complexC sp L G bs)) ns;have hKl:=keepR_len (complexC sp L G bs) (askedC (pairsR (complexC sp L G bs)) ns);have hXl:=extendR_len (complexC sp L G bs) (askedC (pairsR (complexC sp L G bs)) ns) hCl;refine Ctr.of (args:=[.agg #[.int .u8 (sp:Int),.slice pL L.length cL,.slice pG (G.map fun x:Nat=>(x:Int)).length cG,.int .u8 (bs:Int)],.slice pn ns.length cn]) func3 I ntmps3 (bE I) ?_;refine SC.sR (SL.bx (bO I) fun b2=>?_);refine lA I (SL.nT (SC.sR (lW (SO.call call9 I (hs E g _)) ?_)));rintro _ g1 _ ⟨rfl,rfl,hle1⟩;refine lA I (SL.nT (SC.sR (lK (qV 0 isAgg25 sizeOf25 I I I) (lW (SO.call call10 I (shape8_spec E g1 _ sp bs _ _ L G (SlA.mono hL hle1) (SlA.mono hG hle1) hsp hbs hGb)) ?_))));rintro _ g2 _ ⟨rfl,hle2,u2,rfl,hv2⟩;generalize complexC sp L G bs=C at *;obtain ⟨q2,d2,rfl⟩:=hv2.form;refine SL.bx (aL zeroValue29) fun b6=>?_;refine SL.O2 (sK 0 zT29 I I I I I sB) ?_;refine SL.nT (SC.sR (lK (qV 0 iT29 zT29 I I I) (lM I (lW (SO.call call11 I (asked_spec E g2 _ _ _ C ns hv2 hCf oM (SlA.mono hn (hle1.trans hle2)) oM)) ?_))));rintro v13 g3 _ ⟨rfl,hle3,hm3⟩;generalize askedC (pairsR C) ns=M at *;obtain ⟨q3,d3,rfl⟩:=SlA.form hm3;have hv3:=hv2.mono hle3;refine lA I (SL.nT (sQ ?_));refine dW [] [(0,2),(1,2),(2,1),(3,2),(5,1),(6,2),(4,0),(7,0),(8,0),(9,2),(10,2),(11,1),(12,2),(14,1),(15,2),(13,0),(16,0),(17,0),(18,2),(19,2)] Tryz.mixed (by kernel_rfl) ?_;refine pU rfl (mV rfl) (pU rfl (mV rfl) (SP.gq rfl (gT rfl rfl rfl dC) (qV 0 iT29 zT29 rfl rfl rfl) dC (SP.gu rfl (gT rfl rfl rfl dC) (mV rfl) dC (SP.gq rfl (gT rfl rfl rfl dC) (qV 0 iT29 zT29 rfl rfl rfl) dC (SP.gu rfl (gT rfl rfl rfl dC) (mV rfl) dC (SP.go rfl (gT rfl rfl rfl dC) (SO.call call13 rfl (keepProg_spec E g3 _ _ _ C M hv3 hCf hm3 oM)) dC (.inr (by rintro v18 g4 _ ⟨rfl,hle4,hk4⟩; exact⟨by assumption,(by exact .refl _)⟩)) ?_))))));rintro v18 g4 _ ⟨rfl,hle4,hk4⟩;have hv4:=hv3.mono hle4;have hm4:=SlA.mono hm3 hle4;refine SP.go rfl (gT rfl rfl rfl dC) (SO.call call14 rfl (keep14_spec E g4 _ _ _ C M hv4 hCf hm4 oM)) dC (.inr (by rintro v21 g5 _ ⟨rfl,hle5,hk5⟩; exact⟨by exact Le.trans (by assumption) (by assumption),(by exact .refl _)⟩)) ?_;rintro v21 g5 _ ⟨rfl,hle5,hk5⟩;have hv5:=hv4.mono hle5;have hm5:=SlA.mono hm4 hle5;have hle35:=hle4.trans hle5;refine SP.go rfl (gT rfl rfl rfl dC) (SO.call call12 rfl (same13_refl E g5 _ _ _ (keepR C M) (SlA.mono hk4 hle5) hk5 oM)) dC (.inr (by rintro _ _ _ ⟨rfl,rfl,rfl⟩; exact⟨by assumption,(by exact .refl _)⟩)) ?_;rintro _ _ _ ⟨rfl,rfl,rfl⟩;refine pU rfl (pT rfl rfl) (pU rfl (mV rfl) (SP.gq rfl (gT rfl rfl rfl dC) (qV 0 iT29 zT29 rfl rfl rfl) dC (SP.gu rfl (gT rfl rfl rfl dC) (mV rfl) dC (SP.gq rfl (gT rfl rfl rfl dC) (qV 0 iT29 zT29 rfl rfl rfl) dC (SP.gu rfl (gT rfl rfl rfl dC) (mV rfl) dC (SP.go rfl (gT rfl rfl rfl dC) (SO.call call15 rfl (extendProg_spec E g5 _ _ _ C M hv5 hCf oM hm5 oM)) dC (.inr (by rintro v27 g6 _ ⟨rfl,hle6,hx6⟩; exact⟨by exact Le.trans (by assumption) (by assumption),(by exact .refl _)⟩)) ?_))))));rintro v27 g6 _ ⟨rfl,hle6,hx6⟩;have hv6:=hv5.mono hle6;have hm6:=SlA.mono hm5 hle6;have hle36:=hle35.trans hle6;refine SP.go rfl (gT rfl rfl rfl dC) (SO.call call16 rfl (extend14_spec E g6 _ _ _ C M hv6 hCf oM hm6 oM)) dC (.inr (by rintro v30 g7 _ ⟨rfl,hle7,hx7⟩; exact⟨by exact Le.trans (by assumption) (by assumption),(by exact .refl _)⟩)) ?_;rintro v30 g7 _ ⟨rfl,hle7,hx7⟩;refine SP.go rfl (gT rfl rfl rfl dC) (SO.call call12 rfl (same13_refl E g7 _ _ _ (extendR C M) (SlA.mono hx6 hle7) hx7 oM)) dC (.inr (by rintro _ _ _ ⟨rfl,rfl,rfl⟩; exact⟨by exact Le.trans (by assumption) (by assumption),(by exact .refl _)⟩)) ?_;rintro _ _ _ ⟨rfl,rfl,rfl⟩;refine pU I (pT I I) (pU I (aS I) (pN (tN (rE (dR (s':=s) (.cons _ (.cons _ (.refl _))) ?_)))));exact ST.ret1 (.inl I) results3 I ⟨I,I,hle1.trans (hle2.trans (hle3.trans (hle4.trans (hle5.trans (hle6.trans hle7)))))⟩
theorem edRight_spec (E:World)(g:PH)(s:Own)(v:Value)(l:List Cl)(hv:Cells g v l)(hf:Fits l) :
  Ctr Tryz.prog E 73 #[.agg #[v]] g s (fun r g' s'=>r=vb (decide ((checkC l).2=0))∧g=g'∧s=s'):=by
 obtain ⟨q,d,rfl⟩:=hv.form;refine Ctr.of (args:=[.agg #[.slice q l.length d]]) func73 I ntmps73 (bE I) ?_;refine SC.sR (SL.bx (bO I) fun b1=>?_);refine lA I (SL.nT (SC.sR (lK (qV 0 iT29 zT29 I I I) (lW (SO.call call24 I (check_spec E g _ _ l hv hf)) ?_))));rintro _ _ _ ⟨rfl,rfl,rfl⟩;refine lM I (lU (xT I I) (lU (xT I I) (lA I (lA I (SL.nT (SC.sR (lM I (lU (eQ I I) (lA I (SL.nT (rE (dR (s':=s) (.cons _ (.refl _)) ?_))))))))))));exact ST.ret1 (.inl I) results73 I ⟨I,I,I⟩
section
variable {P:Program}{N:Nat}{E:World}{f:Fr}{g:PH}{s:Own}{dst:Option Tmp}{ty:TypeId}{pos:String}{af:Array Edge}{gd:Option (Nat×Bool)}
variable {t kt et:TypeId}{z:Value}{b:Nat}{l:List (Int×Value)}{x y u:Operand}{k:Int}{v:Value}
theorem SO.insertK (i:Nat)(hT:MTy P t kt et z)(hx:ev f x=some (.map (some b)))(hy:ev f y=some (vi k))(hu:ev f u=some v)(hi:s[i]?=some (mp b l)) :
  SO P N E ⟨dst,.insert t x y u,ty,pos,af,gd⟩ f g s fun _ g' s'=>g=g'∧s'=s.set i (mp b (mput l k v)) :=
 SO.of_skip fun a w ha hw=>by
  obtain ⟨es,clk,h1,h2⟩:=hw.own _ (List.mem_of_getElem? hi);have hb:w.heap[b]?=some (.map es clk):=by simpa [mp] using h1
  obtain ⟨es',clk',hr,hm'⟩:=run_mapUpdate_map hT hb h2 k v;have hfr:=hw.fresh _ (List.mem_of_getElem? hi) b rfl;obtain ⟨e1,e2⟩:=MapKept.heap_set (o':=.map es' clk') hb;refine⟨_,g,s.set i (mp b (mput l k v)),by simp[execOp,ha.ev hx,ha.ev hy,ha.ev hu,hr]; rfl,?_,rfl,rfl⟩;refine hw.turn hi I ⟨I,(by exact lR _)⟩ I (by simp) (fun q _ hne=>e2 q (fun e=>hne (by simp[mp,e]))) ⟨es',clk',by simpa [mp] using e1,hm'⟩ (fun b' hb'=>?_);simp only[mp,Option.some.injEq] at hb';subst hb';exact⟨by simpa using hfr.2,.inl I⟩
end
def kindsM:List (Int×Value):=[(1,.func (.func 105) #[] #[]),(2,.func (.func 106) #[] #[]),(3,.func (.func 107) #[] #[]),(4,.func (.func 108) #[] #[]),(5,.func (.func 109) #[] #[])]
theorem Tryz.mtyKinds:∃ z,MTy Tryz.prog 120 3 118 z:=⟨_,rfl,rfl,fun _=>rfl⟩
theorem kinds_spec (E:World)(g:PH)(s:Own):Ctr Tryz.prog E 72 #[] g s (fun r g' s'=>s=s'∧Le g g'∧∃ b,r = .map (some b)∧Mp g' b kindsM):=by
 obtain ⟨z,hty⟩:=Tryz.mtyKinds;refine Ctr.of (args:=[]) func72 I ntmps72 (bE I) ?_;refine SC.sR (lA I (SL.nT (SC.sR (lW (SO.mkMap) ?_))));rintro _ _ _ ⟨b1,rfl,rfl,rfl⟩;refine lO (SO.insertK 0 hty I I I I) ?_;rintro _ _ _ ⟨rfl,rfl⟩;refine lO (SO.insertK 0 hty I I I I) ?_;rintro _ _ _ ⟨rfl,rfl⟩;refine lO (SO.insertK 0 hty I I I I) ?_;rintro _ _ _ ⟨rfl,rfl⟩;refine lO (SO.insertK 0 hty I I I I) ?_;rintro _ _ _ ⟨rfl,rfl⟩;refine lO (SO.insertK 0 hty I I I I) ?_;rintro _ _ _ ⟨rfl,rfl⟩;refine lM I (lA I (SL.nT (rE ?_)));refine ST.to (g':=g) (s':=mp b1 kindsM::s) (fun w hw=>hw) ?_;refine ST.freezeMap fun g1 hle1 hm=>?_;exact ST.ret1 (.inl I) results72 I ⟨I,hle1,b1,I,hm⟩
end Go.Proofs.YteahknngoogpaaaGreatDoor
namespace Go.Sy
open Go Go.MapKept
def mdel:List (Int×Value)→Int→List (Int×Value)
 | [],_=>[]
 | (a,v)::r,k=>if k=a then r else (a,v)::mdel r k
theorem mdel_none (k:Int):∀ (l:List (Int×Value)),(∀ p∈l,p.1≠k)→mdel l k=l
 | [],_=>rfl
 | (a,u)::r,h=>by
  have h1:k≠a:=fun e=>h (a,u) (by simp) e.symm;simp only[mdel,h1,if_false,mdel_none k r (fun p hp=>h p (by simp[hp]))]
theorem fnd_del (k:Int):∀ (l:List (Int×Value)) (i:Nat),(fnd k l i=none∧∀ p∈l,p.1≠k)∨∃ j v,fnd k l i=some (i+j,v)∧j<l.length∧mdel l k=l.eraseIdx j
 | [],_=>.inl ⟨rfl,by simp⟩
 | (a,v)::r,i=>by
  by_cases h:k=a
  ·subst h;exact .inr ⟨0,v,by simp[fnd],by simp,by simp[mdel]⟩
  ·rcases fnd_del k r (i+1) with ⟨h1,h2⟩ | ⟨j,v',h1,h2,h3⟩
   ·refine .inl ⟨by simp[fnd,h,h1],fun p hp=>?_⟩
    rcases List.mem_cons.1 hp with e | e
    ·rw[e]; exact fun e2=>h e2.symm
    ·exact h2 p e
   ·exact .inr ⟨j+1,v',by simp[fnd,h,h1]; omega,by simpa using h2,by simp[mdel,h,h3]⟩
theorem map_erase {α β:Type}(f:α→β):∀ (l:List α) (j:Nat),(l.eraseIdx j).map f=(l.map f).eraseIdx j
 | [],_=>rfl
 | _::_,0=>rfl
 | x::l,j+1=>congrArg (List.cons (f x)) (map_erase f l j)
section
variable {P:Program}{w:World}{t kt et ty:TypeId}{z:Value}{b:Nat}{es:Array MapEntry}{clk:Nat}{l:List (Int×Value)}
theorem run_delete_map (hT:MTy P t kt et z)(hb:w.heap[b]?=some (.map es clk))(hm:MapI l es clk)(k:Int) :
  ∃ es' clk',(Builtin.delete_ #[t,kt] ty #[.map (some b),vi k]).run P w = .ok (.tuple #[]) { w with heap:=w.heap.setIfInBounds b (.map es' clk') }∧MapI (mdel l k) es' clk':=by
 have hf:=findNow_eq k es.toList l 0 hm.1;have h1:=MapKept.run_findKey (w:=w) hT.key hf;have h2:=MapKept.run_checkKey (P:=P) (w:=w) hT.key (k:=vi k) rfl es.isEmpty 9999;have hlen:es.toList.length=l.length:=by have:=congrArg List.length hm.1; simpa using this
 rcases fnd_del k l 0 with ⟨hn,hne⟩ | ⟨j,u,hs,hj,hdel⟩
 ·refine⟨es,clk,?_,?_⟩
  ·rw[hn] at h1;simp[Builtin.delete_,run_underlying hT.und,MapKept.run_getObj_map hb,h2,h1,MapKept.run_setObj_map _ hb,Result.andThen]
  ·rw[mdel_none k l hne];exact hm
 ·rw[hs,Nat.zero_add] at h1;refine⟨es.eraseIdxIfInBounds j,clk,?_,?_,stamped_erase hm.2 j⟩
  ·simp[Builtin.delete_,run_underlying hT.und,MapKept.run_getObj_map hb,h2,h1,MapKept.run_setObj_map _ hb,Result.andThen]
  ·have hjs:j<es.size:=by
    have h3:j<es.toList.length:=oM;simpa using h3
   rw[hdel];unfold Array.eraseIdxIfInBounds;rw[dif_pos hjs,Array.toList_eraseIdx,map_erase,hm.1,← map_erase]
end
section
variable {P:Program}{N:Nat}{E:World}{ops:Array Oper}{Q:Exit→Act→World→Prop}{f:Fr}{g:PH}{s:Own}{dst:Option Tmp}{ty:TypeId}{pos:String}{af:Array Edge}{gd:Option (Nat×Bool)}
variable {t kt et:TypeId}{z:Value}{b:Nat}{l:List (Int×Value)}{x y:Operand}{k:Int}
theorem SO.delete (i:Nat)(hT:MTy P t kt et z)(hx:ev f x=some (.map (some b)))(hy:ev f y=some (vi k))(hi:s[i]?=some (mp b l)) :
  SO P N E ⟨dst,.call ⟨.builtin .delete,#[x,y],#[t,kt]⟩,ty,pos,af,gd⟩ f g s fun _ g' s'=>g=g'∧s'=s.set i (mp b (mdel l k)) :=
 SO.of_run fun a w ha hw=>by
  obtain ⟨es,clk,h1,h2⟩:=hw.own _ (List.mem_of_getElem? hi);have hb:w.heap[b]?=some (.map es clk):=by simpa [mp] using h1
  obtain ⟨es',clk',hr,hm'⟩:=run_delete_map (ty:=ty) hT hb h2 k;have hfr:=hw.fresh _ (List.mem_of_getElem? hi) b rfl;obtain ⟨e1,e2⟩:=MapKept.heap_set (o':=.map es' clk') hb;refine⟨_,_,g,s.set i (mp b (mdel l k)),by simp[execOp,resolve,invoke,builtin,ha.ev hx,ha.ev hy,hr]; exact⟨I,I⟩,?_,I,I⟩;refine hw.turn hi I ⟨I,(by exact lR _)⟩ I (by simp) (fun q _ hne=>e2 q (fun e=>hne (by simp[mp,e]))) ⟨es',clk',by simpa [mp] using e1,hm'⟩ (fun b' hb'=>?_);simp only[mp,Option.some.injEq] at hb';subst hb';exact⟨by simpa using hfr.2,.inl I⟩
end
end Go.Sy
namespace Go.Sy
open Go
section
variable {P:Program}{N:Nat}{E:World}{f:Fr}{g:PH}{s:Own}{dst:Option Tmp}{ty:TypeId}{pos:String}{af:Array Edge}{gd:Option (Nat×Bool)}
theorem SQ.sof {o:Oper}{v:Value}(h:SQ P N E o f g s v):SO P N E o f g s fun v' g' s'=>v'=v∧g=g'∧s=s':=SO.mono h.so fun _ _ _ ⟨h1,h2,h3⟩=>⟨h1,h2.symm,h3.symm⟩
theorem SQ.loadOne {x:Operand}{T:TypeId}{b o:Nat}{v:Value}(hT:∀ w,(isAgg T).run P w = .ok true w)(hk:∀ w,(sizeOf T).run P w = .ok 1 w)(hx:ev f x=some (pp b o))(hc:CellAt g s ⟨b,o,none⟩ v) :
  SQ P N E ⟨dst,.load T x,ty,pos,af,gd⟩ f g s (.agg #[v]) :=
 SQ.loadAggAt (vs:=[v]) hT hk hx rfl fun j u hu=>by
  cases j with
  | zero=>simp at hu; subst hu; exact hc
  | succ j=>simp at hu
end
section
variable {α:Type}{k:Nat}{P:Program}{N:Nat}{E:World}{f:Fr}{g:PH}{s:Own}{dst:Option Tmp}{ty:TypeId}{pos:String}{af:Array Edge}{gd:Option (Nat×Bool)}
theorem SO.appNewA {e:Enc α k}{bytes:Nat}{x y:Operand}{t T:TypeId}{z u:Value}{p:Option Addr}{m:List α}(hT:STy P t T k bytes z)(hx:ev f x=some (.slice p 0 0))(hy:ev f y=some u)(hu:SlA e g u m)
  (hb:m.length * bytes≤140737488355328) (hlen:m.length≤4611686018427387904) :
  SO P N E ⟨dst,.call ⟨.builtin .append,#[x,y],#[t,t]⟩,ty,pos,af,gd⟩ f g s fun v' g' s'=>g=g'∧s'=rowA e T v' m::s:=fun a w ha hw =>
 aQ (e:=e) (l:=[]) (s:=rowA e T (.slice p 0 0) []::s) 0 hT hx hy rfl hu (by simpa using hb) (by simpa using hlen) a w ha (hw.emptyRow T k p)
end
section
variable {P:Program}{N:Nat}{E:World}{f:Fr}{g:PH}{s:Own}{fn:Func}{R:Value→PH→Own→Prop}{e:Exit}
theorem ST.retCTT {T U:TypeId}{t u q b k:Nat}{cs:Array Value}{fr:Nat×Nat}{x y:Value}(i:Nat)(s':Own)(he:e = .ret∨e = .normal)(hr:fn.results = #[.cell t T,.tmp u,.tmp q])(hv:get? f t=some (pp b 0))(hu:get? f u=some x)(hq:get? f q=some y)
  (hT:∀ w,(isAgg T).run P w = .ok true w) (hk:∀ w,(sizeOf T).run P w = .ok k w)
  (hs:s[i]?=some (pt b (.cells cs U fr))) (hc:cs.size=k) (hs':s'.Sublist s) (hR:R (.tuple #[.agg cs,x,y]) g s'):ST N E (bodyPost P fn (Post E R)) e f g s :=
 fun a w ha hw=>by
  have h1:=run_loadVar_own (P:=P) hw hT (by rw[hc]; exact hk) hs;have h2:=ha.at_ t _ hv;have h5:=ha.at_ u _ hu;have h6:=ha.at_ q _ hq;simp only[Array.getD_eq_getD_getElem?] at h2 h5 h6;have h3:(results fn a.tmps).run P w = .ok (.tuple #[.agg cs,x,y]) w:=by simp[results,hr,asAddr,pp,h2,h1,h5,h6]
  have h4:Post E R (.returned (.tuple #[.agg cs,x,y])) w:=⟨_,g,s',rfl,hw.sublist hs',hR⟩
  rcases he with rfl | rfl
  ·exact⟨ha.defers,_,h3,h4⟩
  ·exact⟨ha.defers,_,h3,h4⟩
theorem ST.retCCT {T U T' U':TypeId}{t t' u b b' k k':Nat}{cs cs':Array Value}{fr fr':Nat×Nat}{x:Value}(i i':Nat)(s':Own)(he:e = .ret∨e = .normal)(hr:fn.results = #[.cell t T,.cell t' T',.tmp u])(hv:get? f t=some (pp b 0))(hv':get? f t'=some (pp b' 0))(hu:get? f u=some x)
  (hT:∀ w,(isAgg T).run P w = .ok true w) (hk:∀ w,(sizeOf T).run P w = .ok k w) (hT':∀ w,(isAgg T').run P w = .ok true w) (hk':∀ w,(sizeOf T').run P w = .ok k' w)
  (hs:s[i]?=some (pt b (.cells cs U fr))) (hc:cs.size=k) (hsb:s[i']?=some (pt b' (.cells cs' U' fr'))) (hc':cs'.size=k') (hs':s'.Sublist s) (hR:R (.tuple #[.agg cs,.agg cs',x]) g s'):ST N E (bodyPost P fn (Post E R)) e f g s :=
 fun a w ha hw=>by
  have h1:=run_loadVar_own (P:=P) hw hT (by rw[hc]; exact hk) hs;have h1':=run_loadVar_own (P:=P) hw hT' (by rw[hc']; exact hk') hsb;have h2:=ha.at_ t _ hv;have h2':=ha.at_ t' _ hv';have h5:=ha.at_ u _ hu;simp only[Array.getD_eq_getD_getElem?] at h2 h2' h5;have h3:(results fn a.tmps).run P w = .ok (.tuple #[.agg cs,.agg cs',x]) w:=by simp[results,hr,asAddr,pp,h2,h2',h1,h1',h5]
  have h4:Post E R (.returned (.tuple #[.agg cs,.agg cs',x])) w:=⟨_,g,s',rfl,hw.sublist hs',hR⟩
  rcases he with rfl | rfl
  ·exact⟨ha.defers,_,h3,h4⟩
  ·exact⟨ha.defers,_,h3,h4⟩
end
end Go.Sy
namespace Go.Proofs.YteahknngoogpaaaGreatDoor
open _root_.Go.Proofs.Tryz _root_.Go.Proofs.YteahknngoogpaaaGreatDoor.Tryz
open Go Go.Sy Go.Pl Go.Proofs
def putC:List Cl→Cl→List Cl
 | [],c=>[c]
 | x::l,c=>if c.id=x.id then c::l else x::putC l c
def putR:List Rc→Rc→List Rc
 | [],c=>[c]
 | x::l,c=>if c.id=x.id then c::l else x::putR l c
def delC:List Cl→Int→List Cl
 | [],_=>[]
 | x::l,k=>if k=x.id then l else x::delC l k
def delR:List Rc→Int→List Rc
 | [],_=>[]
 | x::l,k=>if k=x.id then l else x::delR l k
theorem mput_rc (r:Rc):∀ rs:List Rc,mput (rs.map rcPair) r.id (rcv r)=(putR rs r).map rcPair
 | []=>rfl
 | x::rs=>by
  simp only[List.map_cons,rcPair,mput,putR];by_cases h:r.id=x.id
  ·rw[if_pos h,if_pos h]; rfl
  ·rw[if_neg h,if_neg h];exact congrArg _ (mput_rc r rs)
theorem mdel_rc (k:Int):∀ rs:List Rc,mdel (rs.map rcPair) k=(delR rs k).map rcPair
 | []=>rfl
 | x::rs=>by
  simp only[List.map_cons,rcPair,mdel,delR];by_cases h:k=x.id
  ·rw[if_pos h,if_pos h]
  ·rw[if_neg h,if_neg h];exact congrArg _ (mdel_rc k rs)
theorem all2_put {R:Cl→Rc→Prop}(hR:∀ c r,R c r→r.id=c.id){c:Cl}{r:Rc}(h:R c r):∀ {B:List Cl} {rs:List Rc},All2 R B rs→All2 R (putC B c) (putR rs r)
 | [],[],_=>⟨h,trivial⟩
 | x::B,y::rs,h2=>by
  have e1:=hR _ _ h;have e2:=hR _ _ h2.1;unfold putC putR;rw[e1,e2];split
  ·exact⟨h,h2.2⟩
  ·exact⟨h2.1,all2_put hR h h2.2⟩
 | [],_::_,h2=>h2.elim
 | _::_,[],h2=>h2.elim
theorem all2_del {R:Cl→Rc→Prop}(hR:∀ c r,R c r→r.id=c.id)(k:Int):∀ {B:List Cl} {rs:List Rc},All2 R B rs→All2 R (delC B k) (delR rs k)
 | [],[],_=>trivial
 | x::B,y::rs,h2=>by
  have e2:=hR _ _ h2.1;unfold delC delR;rw[e2];split
  ·exact h2.2
  ·exact⟨h2.1,all2_del hR k h2.2⟩
 | [],_::_,h2=>h2.elim
 | _::_,[],h2=>h2.elim
theorem putC_new {c:Cl}:∀ {B:List Cl},(∀ x∈B,x.id≠c.id)→putC B c=B++[c]
 | [],_=>rfl
 | x::B,h=>by
  have h1:¬ c.id=x.id:=fun e=>h x (by simp) e.symm;unfold putC;rw[if_neg h1,putC_new fun y hy=>h y (by simp[hy])];rfl
theorem putR_new {c:Rc}:∀ {B:List Rc},(∀ x∈B,x.id≠c.id)→putR B c=B++[c]
 | [],_=>rfl
 | x::B,h=>by
  have h1:¬ c.id=x.id:=fun e=>h x (by simp) e.symm;unfold putR;rw[if_neg h1,putR_new fun y hy=>h y (by simp[hy])];rfl
theorem putC_len (c:Cl):∀ B:List Cl,(putC B c).length≤B.length+1
 | []=>by simp[putC]
 | x::B=>by
  have:=putC_len c B;unfold putC;split
  ·simp
  ·simp; omega
theorem delC_sub (k:Int):∀ B:List Cl,(delC B k).Sublist B
 | []=>.slnil
 | x::B=>by
  unfold delC;split
  ·exact .cons _ (.refl _)
  ·exact .cons_cons _ (delC_sub k B)
theorem putC_mem {c y:Cl}:∀ {B:List Cl},y∈putC B c→y=c∨y∈B
 | [],h=>by simpa [putC] using h
 | x::B,h=>by
  unfold putC at h;split at h
  ·rcases List.mem_cons.1 h with e | e
   ·exact .inl e
   ·exact .inr (by simp[e])
  ·rcases List.mem_cons.1 h with e | e
   ·exact .inr (by simp[e])
   ·rcases putC_mem e with e | e
    ·exact .inl e
    ·exact .inr (by simp[e])
theorem putC_nodup {c:Cl}:∀ {B:List Cl},(B.map Cl.id).Nodup→((putC B c).map Cl.id).Nodup
 | [],_=>by simp[putC]
 | x::B,h=>by
  rw[List.map_cons,List.nodup_cons] at h;unfold putC;split
  ·rename_i e;rw[List.map_cons,List.nodup_cons,e];exact h
  ·rename_i e;rw[List.map_cons,List.nodup_cons];refine⟨fun hm=>?_,putC_nodup h.2⟩;obtain ⟨y,hy,e2⟩:=List.mem_map.1 hm
   rcases putC_mem hy with e3 | e3
   ·exact e (by rw[← e3]; exact e2)
   ·exact h.1 (by rw[← e2]; exact List.mem_map.2 ⟨y,e3,I⟩)
theorem delC_nodup {B:List Cl}(k:Int)(h:(B.map Cl.id).Nodup):((delC B k).map Cl.id).Nodup:=((delC_sub k B).map Cl.id).nodup h
theorem delC_filter (k:Int):∀ {B:List Cl},(B.map Cl.id).Nodup→delC B k=B.filter fun c=>!decide (c.id=k)
 | [],_=>rfl
 | x::B,h=>by
  rw[List.map_cons,List.nodup_cons] at h;unfold delC;by_cases e:k=x.id
  ·rw[if_pos e,List.filter_cons];have h1:∀ y∈B,(!decide (y.id=k))=true:=fun y hy=>by
    have:y.id≠k:=fun e2=>h.1 (by rw[← e,← e2]; exact List.mem_map.2 ⟨y,hy,rfl⟩);simpa using this
   rw[List.filter_eq_self.2 h1];simp[e]
  ·rw[if_neg e,List.filter_cons,delC_filter k h.2];have:(!decide (x.id=k))=true:=by simpa using fun e2=>e e2.symm
   rw[if_pos this]
theorem stab_perm {α:Type}{key:α→Int}{l m:List α}(h:l.Perm m)(hn:(l.map key).Nodup):Stab key l m:=by
 refine⟨h.length_eq.symm,fun c=>?_⟩;have hp:=h.filter (fun a=>key a == c);have hone:∀ q:List α,(q.map key).Nodup→(q.filter fun a=>key a == c).length≤1:=by
  intro q;induction q with
  | nil=>intro _; simp
  | cons x r ih =>
   intro hq;rw[List.map_cons,List.nodup_cons] at hq;rw[List.filter_cons];by_cases e:(key x == c)=true
   ·rw[if_pos e];have:r.filter (fun a=>key a == c)=[]:=filter_none fun y hy e2=>hq.1 (by
     have e1:key x=c:=by simpa using e
     rw[e1,← e2];exact List.mem_map.2 ⟨y,hy,I⟩)
    rw[this];simp
   ·rw[if_neg e];exact ih hq.2
 have h1:=hone l hn
 match hl:l.filter (fun a=>key a == c),hm:m.filter (fun a=>key a == c) with
 | [],[]=>rfl
 | [],y::t=>rw[hl,hm] at hp; exact absurd hp.length_eq (by simp)
 | x::t,[]=>rw[hl,hm] at hp; exact absurd hp.length_eq (by simp)
 | x::t,y::u =>
  rw[hl,hm] at hp;rw[hl] at h1;have ht:t=[]:=List.eq_nil_of_length_eq_zero (by simpa using h1);subst ht;have:=hp.length_eq;have hu:u=[]:=List.eq_nil_of_length_eq_zero (by simpa using this.symm);subst hu;have:=hp.subset (List.mem_cons_self ..);simp at this;rw[this]
theorem canonC_permE {l m:List Cl}(h:l.Perm m)(hn:(l.map Cl.id).Nodup):canonC l=canonC m:=by
 have:sortBy Cl.id l=sortBy Cl.id m:=(sortBy_srt l).unique (sortBy_srt m) ((sortBy_stab l).symm.trans ((stab_perm h hn).trans (sortBy_stab m)));unfold canonC;rw[this]
set_option maxRecDepth 100000
set_option maxHeartbeats 1000000
structure Ed where
 kind:Int
 cell:Int
 dim:Int
 new:Int
 other:Int
 sides:List Side
 pairs:List Pr
def EdR (g:PH)(v:Value)(e:Ed):Prop:=∃ sv pv,v = .agg #[vi e.kind,vi e.cell,vi e.dim,vi e.new,vi e.other,sv,pv]∧SlA encSide g sv e.sides∧SlA encPr g pv e.pairs
theorem EdR.mono {g g':PH}{v:Value}{e:Ed}(h:EdR g v e)(hl:Le g g'):EdR g' v e:=by
 obtain ⟨sv,pv,h1,h2,h3⟩:=h;exact⟨sv,pv,h1,SlA.mono h2 hl,SlA.mono h3 hl⟩
abbrev edP (bx:Nat)(u:Value)(mb ms:Nat)(bk:Bool):Ent:=pt bx (.cells #[u,.map (some mb),.map (some ms),vb bk] 150 (0,0))
theorem Tryz.build150 (u:Value)(h:u.cells = #[u])(x y:Option Nat)(w:World):(Instr.build 150 #[(0,.agg #[u]),(1,.map x),(2,.map y)]).run Tryz.prog w = .ok (.agg #[u,.map x,.map y,vb false]) w:=by
 have h2:∀ x,(Value.map x).cells = #[.map x]:=fun _=>rfl;have h3:(Value.agg #[u]).cells = #[u]:=rfl;simp[Instr.build,Instr.fill,h2,h3];rfl
theorem all2_lookG {R:Cl→Rc→Prop}(hR:∀ c r,R c r→r.id=c.id){tl:List Cl}{rs:List Rc}(h:All2 R tl rs)(k:Int):∃ r,(mget (rs.map rcPair) k).getD (.agg #[vi 0,vi 0,.slice none 0 0])=rcv r∧(mget (rs.map rcPair) k).isSome=(findT tl k).isSome:=by
 rcases all2_findG hR h k with ⟨h1,h2⟩ | ⟨c,r,h1,h2,h3⟩
 ·exact⟨zeroR,by rw[h2]; rfl,by unfold findT; rw[h1,h2]; rfl⟩
 ·exact⟨r,by rw[h2]; rfl,by unfold findT; rw[h1,h2]; rfl⟩
theorem cloneSd (E:World)(g:PH)(s:Own)(v:Value)(l:List Side)(hv:SlA encSide g v l)(hn:l.length<1099511627776) :
  Ctr Tryz.prog E 110 #[v] g s (fun r g' s'=>g=g'∧s'=rowA encSide 56 r l::s):=by
 obtain ⟨p,c,rfl⟩:=SlA.form hv;refine Ctr.of (args:=[.slice p l.length c]) func110 I ntmps110 (bE I) ?_;refine SC.sR (lA I (SL.nT (sQ (SC.sR (lM I (lU (SU.eqlNil uT37 I I) (SL.nT ?_)))))));refine iQ I (fun hp=>?_) (fun hp=>?_)
 ·refine SC.sR (lA I (SL.nT (rE (tR ?_))));have hl:l=[]:=by
   cases l with
   | nil=>rfl
   | cons x r =>
    have hb:=SlA.based hv (by simp);cases p with
    | none=>simp[based] at hb
    | some q=>simp at hp
  subst hl;refine ST.nilRow 56 2 ?_;exact ST.ret1 (.inl I) results110 I ⟨I,I⟩
 ·refine kP (tN (SC.sR (lW (SO.buildSlice sty37 I I I (szs_mk trivial) dC) ?_)));rintro _ _ _ ⟨b5,rfl,rfl,rfl⟩;refine SL.emptyRow 56 2 (some ⟨b5,0,none⟩) (lM I (lW (SO.appendE (m:=l.length) 0 l.length (l.flatMap encSide.enc) sty37 I I I I I (Sl.rd hv) (encSide.length l) (encSide.ones l) oM (by simp) oM oM) ?_));rintro r7 _ _ ⟨rfl,rfl⟩;refine lA I (SL.nT (rE (dR (s':=rowA encSide 56 r7 l::s) (.cons_cons _ (.cons _ (.refl _))) ?_)));exact ST.ret1 (.inl I) results110 I ⟨I,I⟩
theorem open_own (E:World)(g:PH)(s:Own)(v:Value)(l:List Cl)(hv:Cells g v l)(hf:Fits l)(hnd:((canonC l).map Cl.id).Nodup) :
  Ctr Tryz.prog E 74 #[.agg #[v]] g s (fun r g' s'=>Le g g'∧∃ bx u mb ms rs,r=pp bx 0∧Cells g' u (canonC l)∧All2 CellO (canonC l) rs∧s'=edP bx u mb ms false::mp mb (rs.map rcPair)::mp ms []::(ownS (canonC l) rs++s)):=by
 have hfc:=canonC_fits hf;refine Ctr.of (args:=[.agg #[v]]) func74 I ntmps74 (bE I) ?_;refine SC.sR (SL.bx (bO I) fun b1=>?_);refine lA I (SL.nT (SC.sR (lK (qV 0 iT29 zT29 I I I) (lW (SO.call call50 I (canon_spec E g _ v l hv hf)) ?_))));rintro _ g1 _ ⟨rfl,hle1,u,rfl,hc⟩;have hcc:=hc;obtain ⟨rs,hrs,hall⟩:=hc;obtain ⟨q,d,rfl⟩:=SlA.form hrs;refine lW (SO.mkMap) ?_;rintro _ _ _ ⟨b8,rfl,rfl,rfl⟩;refine lW (SO.mkMap) ?_;rintro _ _ _ ⟨b9,rfl,rfl,rfl⟩;refine lU (SU.build I (build150 _ I _ _)) (SL.bx (bO I) fun b11=>?_);refine lA I (SL.nT (sQ (SC.sR (lM I (lU (nC I) (lU (fA uT150 I zT29 I) (lU (fA uT29 I zT27 I) (lK (qL iT27 I (cO 0 I I)) (lU (eN uT27 I) (lM I (SL.nT (bK ?_))))))))))));generalize canonC l=A at *;have hrl:=hall.length;have hAl:=hfc.1;refine oP (ι:=Nat×List Rc) (fun i=>[(3,pp b11 0),(16,.slice q rs.length d),(17,vi rs.length),(18,vi i.1)]) (fun _=>g1)
  (fun i=>edP b11 (.slice q rs.length d) b8 b9 false::mp b9 []::mp b8 (i.2.map rcPair)::pt b1 (.cells #[v] 29 (0,0))::(ownS (A.take i.1) i.2++s))
  (fun i=>i.1≤rs.length∧All2 CellO (A.take i.1) i.2) (fun i=>rs.length - i.1) (0,[])
  sB rfl rfl ⟨Nat.zero_le _,by simp[All2]⟩ ?_
 rintro ⟨k,acc⟩ ⟨hk,hacc⟩;dsimp only at hk hacc ⊢;have hal:=hacc.length;refine SC.sR (lU (lS I I) (SL.nT (sQ ?_)));refine iP I (fun hlt=>?_) (fun hlt=>?_)
 ·have hkr:k<rs.length:=oM;have hkl:k<A.length:=oM;have hb1:=SlA.based hrs oM;have hcr:=hall.get (gE hkl) (gE hkr);have hgx:rs[((k:Nat):Int).toNat]?=some rs[k]:=gE hkr;have htk:A.take (k+1)=A.take k++[A[k]]:=tS hkl;have hxl:=hfc.2 _ (gM hkl);have hnew:∀ x∈acc,x.id≠A[k].id:=fun x hx=>by
   obtain ⟨i,hi,rfl⟩:=List.getElem_of_mem hx;have hi2:i<(A.take k).length:=oM;have hi3:i<k:=by rw[List.length_take] at hi2; omega
   have h1:=(hacc.get (gE hi2) (gE hi)).1;rw[h1,List.getElem_take];intro e;have h2:=List.pairwise_iff_getElem.1 (List.nodup_iff_pairwise_ne.1 hnd) i k (by rw[List.length_map]; omega) (by rw[List.length_map]; omega) hi3;simp only[List.getElem_map] at h2;exact h2 e
  generalize rs[k]=x at *;generalize A[k]=cx at *;obtain ⟨xi,xd,xp,xn,xc⟩:=x;obtain ⟨e1,e2,hxsl⟩:=hcr;dsimp only at e1 e2 hxsl;have hxn:xn=cx.sides.length:=Sl.slen hxsl;subst hxn e1 e2;refine kP (tN (sQ (bK (SC.sR (lU (iA uT27 zT54 I I hb1 oM (show (k:Int)<((rs.length:Nat):Int) by omega)) ?_)))));refine lK (eA iT54 zT54 I (SlA.rd hrs) hgx) (SL.bx (aL zeroValue54) fun b5=>?_);refine SL.O2 (sK 0 zT54 I I I I I sB) ?_;refine SL.nT (SC.sR (lU (fA uT54 I zT37 I) (lK (qL (v:=.slice xp cx.sides.length xc) iT37 I (cO 0 I I)) (lW (SO.call call110 I (cloneSd E g1 _ _ cx.sides hxsl hxl)) ?_))));rintro v24 _ _ ⟨rfl,rfl⟩;refine SL.facts fun ⟨w0,hw0⟩=>?_;obtain ⟨q2,d2,rfl⟩:=rowA_form (e:=encSide) (l:=cx.sides) (i:=0) hw0 rfl;clear hw0 w0;refine lU (fA uT54 rfl zT37 rfl) (SL.O2 (SO.store1 1 zT37 rfl rfl rfl rfl (bE rfl) (by rfl)) ?_);refine SL.nT ?_;refine dW [7] [(0,2),(1,2),(2,2),(3,1),(4,2),(5,1),(6,1),(7,0)] Tryz.mixed (by kernel_rfl) ?_;refine pU I (mV I) (pU I (nC I) (pU I (fA uT150 I sizeOf125 I) (pK I (qL isAgg125 I (cO 2 I I)) (pU I (fA uT54 I zT3 I) (pK I (qL iT3 I (cO 1 I I)) (pK I (qV 1 iT54 zT54 I I I) (SP.on I (SO.mapUpdate 4 mty125 I I I I) (.inl dC) ?_)))))));rintro _ _ _ ⟨rfl,rfl⟩;refine pN (bN (tN (rG (lU (aD I I oM) (lM I (nL ?_))))));refine ST.to (fun w hw=>?_) (g':=g1) (s':=edP b11 (.slice q rs.length d) b8 b9 false::mp b9 []::mp b8 ((acc++[(⟨cx.id,cx.dim,⟨q2,cx.sides.length,d2⟩⟩:Rc)]).map rcPair)::pt b1 (.cells #[v] 29 (0,0))::(ownS (A.take (k+1)) (acc++[(⟨cx.id,cx.dim,⟨q2,cx.sides.length,d2⟩⟩:Rc)])++s)) ?_
  ·rw[htk,ownS_append cx _ hal];have hput:mput (acc.map rcPair) cx.id (rcv ⟨cx.id,cx.dim,⟨q2,cx.sides.length,d2⟩⟩)=(acc++[(⟨cx.id,cx.dim,⟨q2,cx.sides.length,d2⟩⟩:Rc)]).map rcPair:=by
    rw[← putR_new hnew];exact mput_rc ⟨cx.id,cx.dim,⟨q2,cx.sides.length,d2⟩⟩ acc
   rw[← hput];have h1:=(hw.sublist (s':=ownC cx ⟨cx.id,cx.dim,⟨q2,cx.sides.length,d2⟩⟩::(edP b11 (.slice q rs.length d) b8 b9 false::mp b9 []::mp b8 (mput (acc.map rcPair) cx.id (rcv ⟨cx.id,cx.dim,⟨q2,cx.sides.length,d2⟩⟩))::pt b1 (.cells #[v] 29 (0,0))::ownS (A.take k) acc)++s) (.cons_cons _ (.cons _ (.refl _))));have h2:=h1.perm List.perm_middle.symm;simpa using h2
  exact ST.again (k+1,_) sB I I ⟨by dsimp only; omega,by
   dsimp only;rw[htk];exact hacc.append ⟨⟨I,I,I⟩,trivial⟩⟩ (by dsimp only; omega)
 ·have hkk:A.take k=A:=tL oM;rw[hkk] at hacc ⊢;refine xI (tX (tX (bX (tN (SC.sR (lM I (lA I (SL.nT (rE ?_)))))))));refine ST.to (g':=g1) (s':=edP b11 (.slice q rs.length d) b8 b9 false::mp b8 (acc.map rcPair)::mp b9 []::(ownS A acc++s)) (fun w hw=>(hw.perm (List.Perm.cons _ (List.Perm.swap _ _ _))).sublist (.cons_cons _ (.cons_cons _ (.cons_cons _ (.cons _ (.refl _)))))) ?_;exact ST.ret1 (.inl I) results74 I ⟨hle1,b11,_,b8,b9,acc,I,hcc,hacc,I⟩
theorem has_editor (E:World)(g:PH)(s:Own)(bx mb ms:Nat)(u:Value)(bk:Bool)(k:Int)(R:Cl→Rc→Prop)(hR:∀ c r,R c r→r.id=c.id)(B:List Cl)(rs:List Rc)(hall:All2 R B rs)(i j:Nat)(hi:s[i]?=some (edP bx u mb ms bk))(hj:s[j]?=some (mp mb (rs.map rcPair))) :
  Ctr Tryz.prog E 135 #[pp bx 0,vi k] g s (fun r g' s'=>r=vb (findT B k).isSome∧g=g'∧s=s'):=by
 obtain ⟨x,hx1,hx2⟩:=all2_lookG hR hall k;refine Ctr.of (args:=[pp bx 0,vi k]) func135 I ntmps135 (bE I) ?_;refine SC.sR (lA I (SL.nT (SC.sR (lM I (lU (nC I) (lU (fA uT150 I sizeOf125 I) (lK (qL (v:=.map (some mb)) isAgg125 I (cO i hi I)) (lM I (lK (SQ.eq (v':=.tuple #[rcv x,vb (findT B k).isSome]) (SQ.lookupOk mty125 I I (MapAt.own j hj)) (by rw[hx1,hx2])) ?_)))))))));refine lM I (lU (xT I I) (lU (xT I I) (SL.bx (aL zeroValue54) fun b5=>?_)));refine SL.O2 (sK 0 zT54 I I I I I sB) ?_;refine lA I (SL.nT (SC.sR (lM I (lA I (SL.nT (rE (dR (s':=s) (.cons _ (.refl _)) ?_)))))));exact ST.ret1 (.inl I) results135 I ⟨I,I,I⟩
theorem attach_spec (E:World)(g:PH)(s:Own)(bx mb ms:Nat)(u v:Value)(bk:Bool)(e:Ed)(B:List Cl)(rs:List Rc)(hall:All2 (CellR g) B rs)(i j:Nat)(hi:s[i]?=some (edP bx u mb ms bk))(hj:s[j]?=some (mp mb (rs.map rcPair)))(he:EdR g v e)(hes:e.sides.length<1099511627776) :
  Ctr Tryz.prog E 105 #[pp bx 0,v] g s (fun r g' s'=>Le g g'∧((r=vi 54∧(findT B e.cell).isSome=true∧s=s')∨(r=vi 0∧(findT B e.cell).isSome=false∧∃ rs',All2 (CellR g') (putC B ⟨e.cell,e.dim,e.sides⟩) rs'∧s'=s.set j (mp mb (rs'.map rcPair))))):=by
 obtain ⟨sv,pv,rfl,hsv,hpv⟩:=he;obtain ⟨sp,sc,rfl⟩:=SlA.form hsv;refine Ctr.of (args:=[pp bx 0,.agg #[vi e.kind,vi e.cell,vi e.dim,vi e.new,vi e.other,.slice sp e.sides.length sc,pv]]) func105 I ntmps105 (bE I) ?_;refine SC.sR (SL.bx (bO I) fun b3=>?_);refine lA I (SL.nT (sQ (SC.sR (lM I (lU (fA uT39 I zT3 I) (lK (qL iT3 I (cO 0 I I)) (lW (SO.call call135 I (has_editor E g _ bx mb ms u bk e.cell _ (fun _ _ h=>h.1) B rs hall (i+1) (j+1) hi hj)) ?_)))))));rintro _ _ _ ⟨rfl,rfl,rfl⟩;refine SL.nT ?_;refine iQ I (fun hp=>?_) (fun hp=>?_)
 ·refine SC.sR (lA I (SL.nT (rE (tR (dR (s':=s) (.cons _ (.refl _)) ?_)))));exact ST.ret1 (.inl I) results105 I ⟨Le.refl _,.inl ⟨I,hp,I⟩⟩
 ·refine kP (tN (sQ ?_));refine dW [14] [(0,2),(1,2),(2,2),(3,1),(4,2),(5,1),(6,2),(7,1),(8,2),(9,1),(10,2),(11,1),(12,0),(13,2),(14,0)] Tryz.mixed (by kernel_rfl) ?_;refine pU rfl (mV rfl) (pU rfl (nC rfl) (pU rfl (fA uT150 rfl sizeOf125 rfl) (pK rfl (qL (v:=.map (some mb)) isAgg125 rfl (cO (i+1) hi rfl)) (pU rfl (fA uT39 rfl zT3 rfl) (pK rfl (qL iT3 rfl (cO 0 rfl rfl)) (pU rfl (fA uT39 rfl zT3 rfl) (pK rfl (qL iT3 rfl (cO 0 rfl rfl)) (pU rfl (fA uT39 rfl zT3 rfl) (pK rfl (qL iT3 rfl (cO 0 rfl rfl)) (pU rfl (fA uT39 rfl zT37 rfl) (pK rfl (qL (v:=.slice sp e.sides.length sc) iT37 rfl (cO 0 rfl rfl)) (SP.o rfl (SO.call call110 rfl (cloneSd E g _ _ e.sides hsv hes)) dC (.inr (by rintro v21 _ _ ⟨rfl,rfl⟩; exact⟨by exact Le.refl _,(by exact .cons _ (.refl _))⟩)) ?_))))))))))));rintro v21 _ _ ⟨rfl,rfl⟩;refine SP.freezeRow fun g2 hle2 hs2=>?_;obtain ⟨q2,d2,rfl⟩:=Sl.form hs2;refine pU I (SU.build I (buildF54 _ _ _ I)) (SP.on I (SO.mapUpdate (j+1) mty125 I I I hj) (.inl dC) ?_);rintro _ _ _ ⟨rfl,rfl⟩;refine pN (tN (SC.sR (lA I (SL.nT (rE (dR (s':=s.set j (mp mb (mput (rs.map rcPair) e.cell (rcv ⟨e.cell,e.dim,⟨q2,e.sides.length,d2⟩⟩)))) (.cons _ (.refl _)) ?_))))));refine ST.ret1 (.inl I) results105 I ⟨hle2,.inr ⟨I,hp,putR rs ⟨e.cell,e.dim,⟨q2,e.sides.length,d2⟩⟩,all2_put (fun _ _ h=>h.1) ⟨I,I,hs2⟩ (hall.mono fun _ _=>CellR.mono hle2),?_⟩⟩;rw[← mput_rc]
theorem remove_spec (E:World)(g:PH)(s:Own)(bx mb ms:Nat)(u v:Value)(bk:Bool)(e:Ed)(A B:List Cl)(rs:List Rc)(hu:Cells g u A)(hf:Fits A)(hall:All2 (CellR g) B rs)(i j:Nat)(hi:s[i]?=some (edP bx u mb ms bk))(hj:s[j]?=some (mp mb (rs.map rcPair)))(hij:j≠i)(he:EdR g v e) :
  Ctr Tryz.prog E 106 #[pp bx 0,v] g s (fun r g' s'=>Le g g'∧((r=vi 30∧(findT B e.cell).isSome=false∧s=s')∨(r=vi 31∧(findT B e.cell).isSome=true∧0<(aboveC A e.cell).length∧s=s')∨(r=vi 0∧(findT B e.cell).isSome=true∧aboveC A e.cell=[]∧s'=(s.set j (mp mb ((delR rs e.cell).map rcPair))).set i (edP bx u mb ms true)))):=by
 obtain ⟨sv,pv,rfl,hsv,hpv⟩:=he;obtain ⟨p,c,rfl⟩:=hu.form;refine Ctr.of (args:=[pp bx 0,.agg #[vi e.kind,vi e.cell,vi e.dim,vi e.new,vi e.other,sv,pv]]) func106 I ntmps106 (bE I) ?_;refine SC.sR (SL.bx (bO I) fun b3=>?_);refine lA I (SL.nT (sQ (bK (SC.sR (lM I (lU (fA uT39 I zT3 I) (lK (qL iT3 I (cO 0 I I)) (lW (SO.call call135 I (has_editor E g _ bx mb ms _ bk e.cell _ (fun _ _ h=>h.1) B rs hall (i+1) (j+1) hi hj)) ?_))))))));rintro _ _ _ ⟨rfl,rfl,rfl⟩;refine lU (SU.not I) (lA I (SL.nT ?_));refine iQ I (fun hp=>?_) (fun hp=>?_)
 ·refine SC.sR (lA I (SL.nT (rE (bR (tR (dR (s':=s) (.cons _ (.refl _)) ?_))))));exact ST.ret1 (.inl I) results106 I ⟨Le.refl _,.inl ⟨I,by simpa using hp,I⟩⟩
 ·have hp2:(findT B e.cell).isSome=true:=by simpa using hp
  refine sQ ?_;refine dW [] [(0,2),(1,2),(2,2),(3,1),(4,2),(5,1),(6,0),(7,2),(8,2),(9,2)] Tryz.mixed (by kernel_rfl) ?_;refine pU rfl (mV rfl) (pU rfl (nC rfl) (pU rfl (fA uT150 rfl zT29 rfl) (pK rfl (SQ.loadOne iT29 zT29 rfl (cO (v:=.slice p A.length c) (i+1) hi rfl)) (pU rfl (fA uT39 rfl zT3 rfl) (pK rfl (qL iT3 rfl (cO 0 rfl rfl)) (SP.o rfl (SO.call call55 rfl (above_spec E g _ _ A e.cell hu hf)) dC (.inr (by rintro v18 g1 _ ⟨rfl,hle1,ha⟩; exact⟨by assumption,(by exact .refl _)⟩)) ?_))))));rintro v18 g1 _ ⟨rfl,hle1,ha⟩;obtain ⟨q2,d2,rfl⟩:=SlA.form ha;refine pU I (eN uT22 I) (pU I (gR I I) (pU I (aS I) (pN (tN ?_))));refine iP I (fun ha0=>?_) (fun ha0=>?_)
  ·refine SC.sR (lA I (SL.nT (rE (bR (tR (dR (s':=s) (.cons _ (.refl _)) ?_))))));exact ST.ret1 (.inl I) results106 I ⟨hle1,.inr (.inl ⟨I,hp2,oM,I⟩)⟩
  ·have hi2:(s.set j (mp mb (mdel (rs.map rcPair) e.cell)))[i]?=some (edP bx (.slice p A.length c) mb ms bk):=by rw[List.getElem?_set_ne hij]; exact hi
   refine kP (bN (tN (sQ ?_)));refine dW [6] [(0,2),(1,2),(2,2),(3,1),(4,2),(5,1),(6,0)] Tryz.mixed (by kernel_rfl) ?_;refine pU I (mV I) (pU I (nC I) (pU I (fA uT150 I sizeOf125 I) (pK I (qL (v:=.map (some mb)) isAgg125 I (cO (i+1) hi I)) (pU I (fA uT39 I zT3 I) (pK I (qL iT3 I (cO 0 I I)) (SP.on I (SO.delete (j+1) mty125 I I hj) (.inl dC) ?_))))));rintro _ _ _ ⟨rfl,rfl⟩;refine pN (tN (SC.sR (lM I (lU (nC I) (lU (fA uT150 I zT4 I) (SL.O2 (SO.store1 (i+1) zT4 I I hi2 I (bE I) I) (SL.nT (SC.sR (lA I (SL.nT (rE (dR (s':=(s.set j (mp mb (mdel (rs.map rcPair) e.cell))).set i (edP bx (.slice p A.length c) mb ms true)) (.cons _ (.refl _)) ?_))))))))))));refine ST.ret1 (.inl I) results106 I ⟨hle1,.inr (.inr ⟨I,hp2,List.eq_nil_of_length_eq_zero oM,by rw[← mdel_rc]⟩)⟩
end Go.Proofs.YteahknngoogpaaaGreatDoor
