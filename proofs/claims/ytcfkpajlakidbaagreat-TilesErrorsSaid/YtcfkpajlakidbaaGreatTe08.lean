/- 8 -/
import Derived.Test.YtcfkpajlakidbaaGreatTe07
import Derived.Test.YtcfkpajlakidbaaGreatTe06
import Derived.Test.YtcfkpajlakidbaaGreatTe05
import Derived.Test.YtcfkpajlakidbaaGreatRows
import Derived.WalkKit
import Derived.ProofKit
import Derived.OpenShut
import Derived.ShutString
import Derived.ChangeOld
import Derived.Below
import Derived.Deep.Slices
import Derived.Lib.SmallJoins
import Derived.Laws.IdiomArrays
import Derived.Test.YtcfkpajlakidbaaGreatTe03
import Derived.Test.YtcfkpajlakidbaaGreatTe04
set_option linter.unusedSimpArgs false
set_option linter.unusedVariables false
namespace Go.Proofs.YtcfkpajlakidbaaGreat
open _root_.Go.Proofs.Tryz _root_.Go.Proofs.YtcfkpajlakidbaaGreat.Tryz
open Go Go.Sy Go.Pl Go.Proofs
set_option maxRecDepth 100000
def zR:List (List Int):=[[0,1,2],[0,1,3],[0,2,3],[1,2,3]]
def zQ:List (List Int):=[[0,1,2],[0,2,3],[0,3,4],[0,4,5],[0,1,5],[1,2,4],[2,3,5],[1,3,4],[2,4,5],[1,3,5]]
def po (k:Nat):List (List Int):=(List.range k).flatMap fun (i:Nat)=>[[(i:Int),((i:Int)+1).tmod 7,((i:Int)+3).tmod 7],[(i:Int),((i:Int)+2).tmod 7,((i:Int)+3).tmod 7]]
def jW (n:Int):List (List Int):=if aG n 3=0 then zR else if aG n 3=1 then zQ else po 7
theorem mA (k:Nat):po (k+1)=po k++[[(k:Int),((k:Int)+1).tmod 7,((k:Int)+3).tmod 7],[(k:Int),((k:Int)+2).tmod 7,((k:Int)+3).tmod 7]]:=by
 simp[po,List.range_succ,List.flatMap_append]
theorem gF (k:Nat):(po k).length=2 * k:=by
 induction k with
 | zero=>rfl
 | succ k ih=>rw[mA,ze1,ih]; simp; omega
theorem j5 (E:World)(g:PH)(s:Own)(n:Int):Ctr Tryz.prog E 56 #[vi n] g s (fun r g' s'=>s=s'∧Le g g'∧aI g' r (jW n)):=by
 refine za9 (args:=[vi n]) func56 I ntmps56 (bE I) ?_;refine rZ (aT I (sQ (sW I (lW (cL dn I (ai E g _ n 3 dC)) ?_))));rintro _ _ _ ⟨rfl,rfl,rfl⟩;refine tZ (bK (rZ (yE I (aT I ?_))));refine iP I (fun h0=>?_) (fun h0=>?_)
 ·refine rZ (lW (bS sty25 I I I (ab sB) dC) ?_);rintro _ _ _ ⟨b9,rfl,rfl,rfl⟩;refine zb3 fun g1 hle1 hb9=>?_;refine lW (bS sty25 I I I (ab sB) dC) ?_;rintro _ _ _ ⟨b10,rfl,rfl,rfl⟩;refine zb3 fun g2 hle2 hb10=>?_;refine lW (bS sty25 I I I (ab sB) dC) ?_;rintro _ _ _ ⟨b11,rfl,rfl,rfl⟩;refine zb3 fun g3 hle3 hb11=>?_;refine lW (bS sty25 I I I (ab sB) dC) ?_;rintro _ _ _ ⟨b12,rfl,rfl,rfl⟩;refine zb3 fun g4 hle4 hb12=>?_;refine lW (bS sty22 I I I (ab sB) dC) ?_;rintro _ _ _ ⟨b13,rfl,rfl,rfl⟩;refine zb3 fun g5 hle5 hb13=>?_;have hlit:aI g5 (.slice (some ⟨b13,0,none⟩) 4 4) zR:=⟨[dH (.slice (some ⟨b9,0,none⟩) 3 3),dH (.slice (some ⟨b10,0,none⟩) 3 3),dH (.slice (some ⟨b11,0,none⟩) 3 3),dH (.slice (some ⟨b12,0,none⟩) 3 3)],SlA.lit hb13 rfl rfl,⟨SlA.lit (hle5 _ _ (hle4 _ _ (hle3 _ _ (hle2 _ _ hb9)))) rfl rfl,SlA.lit (hle5 _ _ (hle4 _ _ (hle3 _ _ hb10))) rfl rfl,SlA.lit (hle5 _ _ (hle4 _ _ hb11)) rfl rfl,SlA.lit (hle5 _ _ hb12) rfl rfl,trivial⟩⟩;refine aT I (rE (bR (tR ?_)));exact za6 (.inl I) results56 I ⟨I,(hle1.trans (hle2.trans (hle3.trans (hle4.trans hle5)))),by unfold jW; rw[zf6 h0]; exact hlit⟩
 ·refine rZ (yE I (aT I ?_));refine iP I (fun h1=>?_) (fun h1=>?_)
  ·refine rZ (lW (bS sty25 I I I (ab sB) dC) ?_);rintro _ _ _ ⟨b16,rfl,rfl,rfl⟩;refine zb3 fun g1 hle1 hb16=>?_;refine lW (bS sty25 I I I (ab sB) dC) ?_;rintro _ _ _ ⟨b17,rfl,rfl,rfl⟩;refine zb3 fun g2 hle2 hb17=>?_;refine lW (bS sty25 I I I (ab sB) dC) ?_;rintro _ _ _ ⟨b18,rfl,rfl,rfl⟩;refine zb3 fun g3 hle3 hb18=>?_;refine lW (bS sty25 I I I (ab sB) dC) ?_;rintro _ _ _ ⟨b19,rfl,rfl,rfl⟩;refine zb3 fun g4 hle4 hb19=>?_;refine lW (bS sty25 I I I (ab sB) dC) ?_;rintro _ _ _ ⟨b20,rfl,rfl,rfl⟩;refine zb3 fun g5 hle5 hb20=>?_;refine lW (bS sty25 I I I (ab sB) dC) ?_;rintro _ _ _ ⟨b21,rfl,rfl,rfl⟩;refine zb3 fun g6 hle6 hb21=>?_;refine lW (bS sty25 I I I (ab sB) dC) ?_;rintro _ _ _ ⟨b22,rfl,rfl,rfl⟩;refine zb3 fun g7 hle7 hb22=>?_;refine lW (bS sty25 I I I (ab sB) dC) ?_;rintro _ _ _ ⟨b23,rfl,rfl,rfl⟩;refine zb3 fun g8 hle8 hb23=>?_;refine lW (bS sty25 I I I (ab sB) dC) ?_;rintro _ _ _ ⟨b24,rfl,rfl,rfl⟩;refine zb3 fun g9 hle9 hb24=>?_;refine lW (bS sty25 I I I (ab sB) dC) ?_;rintro _ _ _ ⟨b25,rfl,rfl,rfl⟩;refine zb3 fun g10 hle10 hb25=>?_;refine lW (bS sty22 I I I (ab sB) dC) ?_;rintro _ _ _ ⟨b26,rfl,rfl,rfl⟩;refine zb3 fun g11 hle11 hb26=>?_;have hlit:aI g11 (.slice (some ⟨b26,0,none⟩) 10 10) zQ:=⟨[dH (.slice (some ⟨b16,0,none⟩) 3 3),dH (.slice (some ⟨b17,0,none⟩) 3 3),dH (.slice (some ⟨b18,0,none⟩) 3 3),dH (.slice (some ⟨b19,0,none⟩) 3 3),dH (.slice (some ⟨b20,0,none⟩) 3 3),dH (.slice (some ⟨b21,0,none⟩) 3 3),dH (.slice (some ⟨b22,0,none⟩) 3 3),dH (.slice (some ⟨b23,0,none⟩) 3 3),dH (.slice (some ⟨b24,0,none⟩) 3 3),dH (.slice (some ⟨b25,0,none⟩) 3 3)],SlA.lit hb26 rfl rfl,⟨SlA.lit (hle11 _ _ (hle10 _ _ (hle9 _ _ (hle8 _ _ (hle7 _ _ (hle6 _ _ (hle5 _ _ (hle4 _ _ (hle3 _ _ (hle2 _ _ hb16)))))))))) rfl rfl,SlA.lit (hle11 _ _ (hle10 _ _ (hle9 _ _ (hle8 _ _ (hle7 _ _ (hle6 _ _ (hle5 _ _ (hle4 _ _ (hle3 _ _ hb17))))))))) rfl rfl,SlA.lit (hle11 _ _ (hle10 _ _ (hle9 _ _ (hle8 _ _ (hle7 _ _ (hle6 _ _ (hle5 _ _ (hle4 _ _ hb18)))))))) rfl rfl,SlA.lit (hle11 _ _ (hle10 _ _ (hle9 _ _ (hle8 _ _ (hle7 _ _ (hle6 _ _ (hle5 _ _ hb19))))))) rfl rfl,SlA.lit (hle11 _ _ (hle10 _ _ (hle9 _ _ (hle8 _ _ (hle7 _ _ (hle6 _ _ hb20)))))) rfl rfl,SlA.lit (hle11 _ _ (hle10 _ _ (hle9 _ _ (hle8 _ _ (hle7 _ _ hb21))))) rfl rfl,SlA.lit (hle11 _ _ (hle10 _ _ (hle9 _ _ (hle8 _ _ hb22)))) rfl rfl,SlA.lit (hle11 _ _ (hle10 _ _ (hle9 _ _ hb23))) rfl rfl,SlA.lit (hle11 _ _ (hle10 _ _ hb24)) rfl rfl,SlA.lit (hle11 _ _ hb25) rfl rfl,trivial⟩⟩;refine aT I (rE (bR (tR ?_)));exact za6 (.inl I) results56 I ⟨I,(hle1.trans (hle2.trans (hle3.trans (hle4.trans (hle5.trans (hle6.trans (hle7.trans (hle8.trans (hle9.trans (hle10.trans hle11)))))))))),by unfold jW; rw[zf5 h0,zf6 h1]; exact hlit⟩
  ·refine kP (bN (tN (rZ (aT I (sQ (rZ (aT I (bK (zb4 25 1 ?_)))))))));refine oP (ι:=PH×Value×List Sv×Nat) (fun i=>[(3,i.2.1),(4,vi i.2.2.2)]) (fun i=>i.1)
    (fun i=>rowA bq 25 i.2.1 i.2.2.1::s)
    (fun i=>Le g i.1∧i.2.2.2≤7∧ar (bC i.1) (po i.2.2.2) i.2.2.1) (fun i=>7 - i.2.2.2)
    (g,.slice none 0 0,[],0) sB rfl rfl ⟨zb7 g,zf2 _,trivial⟩ ?_
   rintro ⟨g1,ov,rs,i⟩ ⟨hle,hi,hrs⟩;dsimp only at hle hi hrs ⊢;have hrl:=hrs.length;rw[gF] at hrl;refine sQ (sW I (yL I (tZ ?_)));refine iP I (fun hlt=>?_) (fun hlt=>?_)
   ·have hi7:i<7:=oM;refine kP (tN (sQ (bK (rG (lM I (lM I (lM I (yD I (lU (zd4 I I dC) (lM I (yD I (lU (zd4 I I dC) (lW (bS sty25 I I I (ab sB) dC) ?_)))))))))))));rintro _ _ _ ⟨b39,rfl,rfl,rfl⟩;refine zb3 fun g2 hle2 hb39=>?_;refine lM I (lM I (yD I (lU (zd4 I I dC) (lM I (yD I (lU (zd4 I I dC) (lW (bS sty25 I I I (ab sB) dC) ?_)))))));rintro _ _ _ ⟨b47,rfl,rfl,rfl⟩;refine zb3 fun g3 hle3 hb47=>?_;refine lW (bS sty22 I I I (ab sB) dC) ?_;rintro _ _ _ ⟨b48,rfl,rfl,rfl⟩;refine zb3 fun g4 hle4 hb48=>?_;have hlit:SlA bq g4 (.slice (some ⟨b48,0,none⟩) 2 2) [⟨some ⟨b39,0,none⟩,3,3⟩,⟨some ⟨b47,0,none⟩,3,3⟩]:=SlA.lit hb48 rfl rfl;refine lW (aQ (e:=bq) 0 sty22 I I I hlit lN lN) ?_;rintro ov' _ _ ⟨rfl,rfl⟩;refine lA I (nL (bN (tN (rG (lM I (yD I (lA I (nL ?_))))))));refine gA (g4,ov',rs++[⟨some ⟨b39,0,none⟩,3,3⟩,⟨some ⟨b47,0,none⟩,3,3⟩],i+1) sB I I ⟨hle.trans (hle2.trans (hle3.trans hle4)),lN,?_⟩ lN;dsimp only;rw[mA];exact (hrs.mono fun _ _=>bC.mono (hle2.trans (hle3.trans hle4))).append ⟨SlA.lit (hle4 _ _ (hle3 _ _ hb39)) I I,SlA.lit (hle4 _ _ hb47) I I,trivial⟩
   ·have hi7:i=7:=oM;subst hi7;refine xI (tX (tX (bX (tN (sQ (fS fun g2 hle2 hs2=>?_))))));have hov:aI g2 ov (po 7):=⟨rs,hs2,hrs.mono fun _ _=>bC.mono hle2⟩;refine rG (lM I (aT I (rE ?_)));exact za6 (.inl I) results56 I ⟨I,hle.trans hle2,by unfold jW; rw[zf5 h0,zf5 h1]; exact hov⟩
set_option maxHeartbeats 1000000
def jy (k:Nat):List Cl:=(List.range k).map fun (i:Nat)=>⟨(i:Int)+1,0,[]⟩
def j2 (n k:Nat):List Cl:=(List.range k).map fun (i:Nat)=>⟨(n:Int)+i+1,1,[⟨(i:Int)+1,-1⟩,⟨((i:Int)+1).tmod n+1,1⟩]⟩
def er (n k:Nat):List aj:=(List.range k).map fun (i:Nat)=>⟨(n:Int)+i+1,1⟩
def dy (n:Nat):List Cl:=jy n++j2 n n++[⟨2 * (n:Int)+1,2,er n n⟩]++(if (n:Int).tmod 2=0 then [⟨2 * (n:Int)+2,2,er n n⟩] else [])
def qG (n:Nat):List Cl:=aa (dy n)
theorem tj (k:Nat):jy (k+1)=jy k++[⟨(k:Int)+1,0,[]⟩]:=by simp[jy,List.range_succ]
theorem tq (n k:Nat):j2 n (k+1)=j2 n k++[⟨(n:Int)+k+1,1,[⟨(k:Int)+1,-1⟩,⟨((k:Int)+1).tmod n+1,1⟩]⟩]:=by simp[j2,List.range_succ]
theorem tm (n k:Nat):er n (k+1)=er n k++[⟨(n:Int)+k+1,1⟩]:=by simp[er,List.range_succ]
theorem gJ (n k:Nat):(er n k).length=k:=by simp[er]
theorem j8 {n:Nat}(h:n≤6):di (dy n)∧(dy n).length≤14:=by
 have hl:(dy n).length≤14:=by
  unfold dy;split <;> simp[jy,j2] <;> omega
 refine⟨⟨oM,fun c hc=>?_⟩,hl⟩;unfold dy at hc
 rcases ze8.1 hc with hc | hc
 ·rcases ze8.1 hc with hc | hc
  ·rcases ze8.1 hc with hc | hc
   ·obtain ⟨i,_,rfl⟩:=ze7.1 hc;simp
   ·obtain ⟨i,_,rfl⟩:=ze7.1 hc;simp
  ·simp at hc;subst hc;simp[gJ];omega
 ·split at hc
  ·simp at hc;subst hc;simp[gJ];omega
  ·simp at hc
theorem Tryz.buildD63 (x:Int)(w:World):(Instr.build 63 #[(0,vi x)]).run Tryz.prog w = .ok (.agg #[vi x,vi 0,.slice none 0 0]) w:=by
 have hz:(Value.agg #[vi 0,vi 0,Value.slice none 0 0]).cells = #[vi 0,vi 0,.slice none 0 0]:=rfl;have h1:∀ z:Int,(vi z).cells = #[vi z]:=fun _=>rfl;simp[Instr.build,Instr.fill,hz,h1]
theorem pF (E:World)(g:PH)(s:Own)(n:Nat)(h2:2≤n)(h6:n≤6) :
  Ctr Tryz.prog E 58 #[vi n] g s (fun r g' s'=>s=s'∧Le g g'∧∃ x,r = .agg #[x]∧au g' x (qG n)):=by
 have hnn:((n:Nat):Int)≠0:=oM;refine za9 (args:=[vi n]) func58 I ntmps58 (bE I) ?_;refine rZ (bW (aL zk6) fun b2=>?_);refine tZ (rZ (bW (aL zk6) fun b3=>?_));refine tZ (sQ (rZ (aT I (bK (zb4 63 3 ?_)))));refine oP (ι:=Value×List Rc×Nat) (fun i=>[(0,vi n),(2,pp b2 0),(3,pp b3 0),(4,vi i.2.2)]) (fun _=>g)
  (fun i=>rowA encCell 63 i.1 i.2.1::pt b3 (.cells #[i.1] 30 (0,0))::pt b2 (.cells #[.slice none 0 0] 30 (0,0))::s)
  (fun i=>i.2.2≤n∧ar (ao g) (jy i.2.2) i.2.1) (fun i=>n - i.2.2)
  (.slice none 0 0,[],0) sB rfl rfl ⟨zf2 _,trivial⟩ ?_
 rintro ⟨ov,rcs,i⟩ ⟨hi,hrcs⟩;dsimp only at hi hrcs ⊢;have hrl:=hrcs.length;simp only[jy,ze2,zh9] at hrl;refine sQ (sW I (lM I (yL I (tZ ?_))));refine iP I (fun hlt=>?_) (fun hlt=>?_)
 ·refine kP (tN (sQ (bK (rG (lU (fA cJ I bQ I) (lK (qL (v:=ov) dI I (cO 1 I I)) (lM I (yD I (lU (za1 I (buildD63 _)) (lW (bS sty28 I I I (ab sB) dC) ?_))))))))));rintro _ _ _ ⟨b19,rfl,rfl,rfl⟩;refine lW (aP (e:=encCell) 0 ⟨(i:Int)+1,0,⟨none,0,0⟩⟩ sty28 I I I I I oM oM) ?_;rintro v20 _ _ ⟨rfl,rfl⟩;refine zc8 fun ⟨w0,hw0⟩=>?_;obtain ⟨q9,d9,rfl⟩:=ag (i:=0) hw0 rfl;clear hw0 w0;refine lU (fA cJ I bQ I) (oZ (sK 1 bQ I I I I I sB) ?_);refine nL (bN (tN (rG (lM I (yD I (lA I (nL ?_)))))));refine gA (_,rcs++[⟨(i:Int)+1,0,⟨none,0,0⟩⟩],i+1) sB I I ⟨lN,?_⟩ lN;dsimp only;rw[tj];exact hrcs.append ⟨⟨I,I,zb8 _ _⟩,trivial⟩
 ·have hin:i=n:=oM;subst hin;refine xI (tX (tX (bX (tN (rZ (aT I (sQ (rZ (aT I (bK (zb4 87 2 ?_)))))))))));refine oP (ι:=PH×Value×List Rc×Value×Nat) (fun k=>[(0,vi i),(2,pp b2 0),(3,pp b3 0),(5,k.2.2.2.1),(6,vi k.2.2.2.2)]) (fun k=>k.1)
   (fun k=>rowA encSide 87 k.2.2.2.1 (er i k.2.2.2.2)::rowA encCell 63 k.2.1 k.2.2.1::pt b3 (.cells #[k.2.1] 30 (0,0))::pt b2 (.cells #[.slice none 0 0] 30 (0,0))::s)
   (fun k=>Le g k.1∧k.2.2.2.2≤i∧ar (ao k.1) (jy i++j2 i k.2.2.2.2) k.2.2.1) (fun k=>i - k.2.2.2.2)
   (g,ov,rcs,.slice none 0 0,0) sB rfl rfl ⟨zb7 g,zf2 _,by simpa [j2] using hrcs⟩ ?_
  rintro ⟨g1,ov1,rcs1,sv,k⟩ ⟨hle1,hk,hrcs1⟩;dsimp only at hle1 hk hrcs1 ⊢;have hrl1:=hrcs1.length;simp only[jy,j2,ze1,ze2,zh9] at hrl1;have hsl:=gJ i k;refine sQ (sW I (lM I (yL I (tZ ?_))));refine iP I (fun hlt2=>?_) (fun hlt2=>?_)
  ·have hkm:0≤((k:Int)+1).tmod i∧((k:Int)+1).tmod i<i:=by
    rw[Int.tmod_eq_emod_of_nonneg oM];exact⟨zj9 _ hnn,zj8 _ oM⟩
   refine kP (tN (sQ (bK (sW I (yD I (lU (za1 I (buildS87 _ _)) (bW (aL zk7) fun b7=>?_)))))));refine oZ (sK 0 bI I I I I I sB) ?_;refine tZ (sW I (yD I (lM I (lU (zd4 I I hnn) (yD I (lU (za1 I (buildS87 _ _)) (bW (aL zk7) fun b8=>?_)))))));refine oZ (sK 0 bI I I I I I sB) ?_;refine tZ (sQ ?_);refine SC.to (fun w hw=>hw) (g':=g1) (s':=pt b8 (.cells #[vi (((k:Int)+1).tmod i+1),vi 1] 87 (0,0))::pt b7 (.cells #[vi ((k:Int)+1),vi (-1)] 87 (0,0))::rowA encSide 87 sv (er i k)::rowA encCell 63 ov1 rcs1::pt b3 (.cells #[ov1] 30 (0,0))::pt b2 (.cells #[.slice none 0 0] 30 (0,0))::s) ?_;refine rG (lU (fA cJ I bQ I) (lK (qL (v:=ov1) dI I (cO 4 I I)) (lM I (lM I (yD I (yD I (lK (qV 1 lV bI I I I) (lK (qV 0 lV bI I I I) (lW (bS sty61 I I I (ab sB) dC) ?_)))))))));rintro _ _ _ ⟨b44,rfl,rfl,rfl⟩;refine zb3 fun g2 hle2 hb44=>?_;have hsd:SlA encSide g2 (.slice (some ⟨b44,0,none⟩) 2 2) [⟨(k:Int)+1,-1⟩,⟨((k:Int)+1).tmod i+1,1⟩]:=SlA.lit hb44 rfl rfl;refine lU (za1 I (buildF63 _ _ _ I)) (lW (bS sty28 I I I (ab sB) dC) ?_);rintro _ _ _ ⟨b46,rfl,rfl,rfl⟩;refine lW (aP (e:=encCell) 3 ⟨(i:Int)+k+1,1,⟨some ⟨b44,0,none⟩,2,2⟩⟩ sty28 I I I I I oM oM) ?_;rintro v47 _ _ ⟨rfl,rfl⟩;refine zc8 fun ⟨w0,hw0⟩=>?_;obtain ⟨q9,d9,rfl⟩:=ag (i:=3) hw0 rfl;clear hw0 w0;refine lU (fA cJ I bQ I) (oZ (sK 4 bQ I I I I I sB) ?_);refine tZ (rG (lM I (lM I (lM I (yD I (yD I (lU (za1 I (buildS87 _ _)) (lW (bS sty61 I I I (ab sB) dC) ?_))))))));rintro _ _ _ ⟨b55,rfl,rfl,rfl⟩;refine lW (aP (e:=encSide) 2 ⟨(i:Int)+k+1,1⟩ sty61 I I I I I oM oM) ?_;rintro v56 _ _ ⟨rfl,rfl⟩;refine lA I (nL (bN (tN (rG (lM I (yD I (lA I (nL (dR (s':=rowA encSide 87 v56 (er i k++[⟨(i:Int)+k+1,1⟩])::rowA encCell 63 (.slice q9 (rcs1++[(⟨(i:Int)+k+1,1,⟨some ⟨b44,0,none⟩,2,2⟩⟩:Rc)]).length d9) (rcs1++[⟨(i:Int)+k+1,1,⟨some ⟨b44,0,none⟩,2,2⟩⟩])::pt b3 (.cells #[.slice q9 (rcs1++[(⟨(i:Int)+k+1,1,⟨some ⟨b44,0,none⟩,2,2⟩⟩:Rc)]).length d9] 30 (0,0))::pt b2 (.cells #[.slice none 0 0] 30 (0,0))::s) (.cons _ (.cons _ (.refl _))) ?_)))))))));rw[← tm];refine gA (g2,_,rcs1++[⟨(i:Int)+k+1,1,⟨some ⟨b44,0,none⟩,2,2⟩⟩],v56,k+1) sB I I ⟨hle1.trans hle2,lN,?_⟩ lN;dsimp only;rw[tq,← zg4];exact (hrcs1.mono fun _ _=>ao.mono hle2).append ⟨⟨I,I,hsd⟩,trivial⟩
  ·have hki:k=i:=oM;subst hki;refine xI (tX (tX (bX (tN (sQ (fS fun g2 hle2 hs2=>?_))))));have hsd:SlA encSide g2 sv (er k k):=hs2;obtain ⟨qs,ds,rfl⟩:=za2 hsd;have hrcs2:=hrcs1.mono fun _ _=>ao.mono hle2;refine rG (lU (fA cJ I bQ I) (lK (qL (v:=ov1) dI I (cO 1 I I)) (lM I (lU (SU.mul I I oM) (yD I (lM I (lU (za1 I (buildF63 _ _ _ I)) (lW (bS sty28 I I I (ab sB) dC) ?_))))))));rintro _ _ _ ⟨b64,rfl,rfl,rfl⟩;refine lW (aP (e:=encCell) 0 ⟨2 * (k:Int)+1,2,⟨qs,(er k k).length,ds⟩⟩ sty28 I I I I I oM oM) ?_;rintro v65 _ _ ⟨rfl,rfl⟩;refine zc8 fun ⟨w0,hw0⟩=>?_;obtain ⟨q9,d9,rfl⟩:=ag (i:=0) hw0 rfl;clear hw0 w0;refine lU (fA cJ I bQ I) (oZ (sK 1 bQ I I I I I sB) ?_);refine tZ (sQ (sW I (lU (zd4 I I dC) (yE I (tZ ?_)))));have hrcs3:ar (ao g2) (jy k++j2 k k++[⟨2 * (k:Int)+1,2,er k k⟩]) (rcs1++[⟨2 * (k:Int)+1,2,⟨qs,(er k k).length,ds⟩⟩]):=hrcs2.append ⟨⟨rfl,rfl,hsd⟩,trivial⟩;obtain ⟨rc3,hrc3⟩:∃ rc3,rc3=rcs1++[(⟨2 * (k:Int)+1,2,⟨qs,(er k k).length,ds⟩⟩:Rc)]:=⟨_,rfl⟩;have hrc3l:rc3.length=rcs1.length+1:=by rw[hrc3]; simp
   rw[← hrc3] at hrcs3 ⊢;have hfit:=(j8 h6).1;refine iP I (fun hev=>?_) (fun hev=>?_)
   ·have hall:dy k=jy k++j2 k k++[⟨2 * (k:Int)+1,2,er k k⟩]++[⟨2 * (k:Int)+2,2,er k k⟩]:=by unfold dy; rw[zf6 hev]
    refine dW [10,11,12] [(0,2),(1,1),(2,2),(3,2),(4,2),(6,2),(5,0),(7,0),(8,2),(9,0),(10,0),(11,0),(12,0)] zd8 kR ?_;refine pU I (fA cJ I bQ I) (pK I (qL (v:=.slice q9 rc3.length d9) dI I (cO 1 I I)) (yM I (pU I (SU.mul I I oM) (pU I (aD I I oM) (yM I (SP.o I (bS sty61 I I I (ab trivial) dC) dC (.inr iR) ?_))))));rintro _ _ _ ⟨b75,rfl,rfl,rfl⟩;refine SP.to (fun w hw=>(hw.sublist (List.Sublist.cons _ (.refl _))).emptyRow 87 2 (some ⟨b75,0,none⟩)) ?_;refine SP.o I (aQ (e:=encSide) (l:=[]) 0 sty61 I I I hsd lN lN) dC (.inr iR) ?_;rintro v77 _ _ ⟨rfl,rfl⟩;refine SP.freezeRow fun g77 hle77 hs77=>?_;have hsd2:SlA encSide g77 v77 ([]++er k k):=hs77;rw[List.nil_append] at hsd2;obtain ⟨q77,d77,rfl⟩:=za2 hsd2;refine pU I (za1 I (buildF63 _ _ _ I)) (SP.o I (bS sty28 I I I (ab sB) dC) dC (.inr iR) ?_);rintro _ _ _ ⟨b79,rfl,rfl,rfl⟩;refine SP.o I (aP (e:=encCell) (l:=rc3) 0 ⟨2 * (k:Int)+2,2,⟨q77,(er k k).length,d77⟩⟩ sty28 I I I I I oM oM) dC (.inl dC) ?_;rintro v80 _ _ ⟨rfl,rfl⟩;refine zc7 fun ⟨w0,hw0⟩=>?_;obtain ⟨q10,d10,rfl⟩:=ag (i:=0) hw0 rfl;clear hw0 w0;refine oU I (fA cJ I bQ I) dC (.inl dC) (SP.on I (sK 1 bQ I I I I I sB) (.inl dC) ?_);rintro _ _ _ ⟨rfl,rfl⟩;refine pN (tN (sQ (fS fun g78 hle78 hs78=>?_)));have hov:au g78 (.slice q10 (rc3++[(⟨2 * (k:Int)+2,2,⟨q77,(er k k).length,d77⟩⟩:Rc)]).length d10) (dy k):=(by rw[hall]; exact⟨_,hs78,(hrcs3.mono fun _ _=>ao.mono (hle77.trans hle78)).append ⟨⟨I,I,hsd2.mono hle78⟩,trivial⟩⟩);refine rG (lK (qV 0 bh az I I I) (lW (cL call75 I (ey E g78 _ _ (dy k) hov hfit)) ?_));rintro _ g79 _ ⟨rfl,hle79,x79,rfl,hx79⟩;obtain ⟨q79,d79,rfl⟩:=hx79.form;refine oZ (sK 1 az I I I I I sB) ?_;refine tZ (rE ?_);exact ST.retCD 1 s (.inl I) results58 I bh az I I uR ⟨I,hle1.trans (hle2.trans (hle77.trans (hle78.trans hle79))),_,I,hx79⟩
   ·have hall:dy k=jy k++j2 k k++[⟨2 * (k:Int)+1,2,er k k⟩]:=by unfold dy; rw[zf5 hev,zc2]
    refine kP (tN (sQ (fS fun g78 hle78 hs78=>?_)));have hov:au g78 (.slice q9 rc3.length d9) (dy k):=(by rw[hall]; exact⟨_,hs78,hrcs3.mono fun _ _=>ao.mono hle78⟩);refine rG (lK (qV 0 bh az I I I) (lW (cL call75 I (ey E g78 _ _ (dy k) hov hfit)) ?_));rintro _ g79 _ ⟨rfl,hle79,x79,rfl,hx79⟩;obtain ⟨q79,d79,rfl⟩:=hx79.form;refine oZ (sK 1 az I I I I I sB) ?_;refine tZ (rE ?_);exact ST.retCD 1 s (.inl I) results58 I bh az I I uR ⟨I,hle1.trans (hle2.trans (hle78.trans hle79)),_,I,hx79⟩
theorem aR (a b:Int)(h0:0<b)(h1:b≤1000):0≤aG a b∧aG a b<b:=by
 have h2:a.tmod b<b:=Int.tmod_lt_of_pos a h0;have h3 : -b<a.tmod b:=by
  have:=Int.lt_tmod_of_pos a h0;omega
 unfold aG;rw[zk3 _ oM,Int.tmod_eq_emod_of_nonneg oM];exact⟨zj9 _ oM,zj8 _ h0⟩
def uf (y:Int):Int:=1+2 * aG (IntKind.i64.wrap (y.tdiv 7)) 3
def zM (y:Int):Int:=aG (IntKind.i64.wrap (y.tdiv 5)) 4
def fY (t:Int)(x:Cl):Bool:=decide (t>1)&&decide (x.id.tmod t=1)
def fD (t:Int)(x:Cl)(q:Int):Bool:=(decide (t>1)&&decide (x.dim>1))&&decide (q.tmod t=1)
def px (b:Bool)(a:Int):Int:=if b then IntKind.i64.wrap (0 - a) else a
def aX (k t:Int)(x:Cl)(q:aj):aj:=⟨dh q.cell k,px (fD t x q.cell) (px (fY t x) q.sign)⟩
def aB (k t:Int)(x:Cl):Cl:=⟨dh x.id k,x.dim,x.sides.map (aX k t x)⟩
def Ao (l:List Cl)(y:Int):List Cl:=aa (l.map (aB (uf y) (zM y)))
theorem rR {l:List Cl}(h:di l)(k t:Int):di (l.map (aB k t)):=by
 refine⟨by simpa using h.1,fun c hc=>?_⟩;obtain ⟨x,hx,rfl⟩:=ze7.1 hc;simpa [aB] using h.2 x hx
theorem gO (E:World)(g:PH)(s:Own)(v:Value)(l:List Cl)(y:Int)(hv:au g v l)(hf:di l) :
  Ctr Tryz.prog E 60 #[.agg #[v],vi y] g s (fun r g' s'=>s=s'∧Le g g'∧∃ x,r = .agg #[x]∧au g' x (Ao l y)):=by
 obtain ⟨rs,hrs,hall⟩:=hv;have el:=hall.length;obtain ⟨p,c,rfl⟩:=hrs.form;have hll:=hf.1;have hk3:=aR (IntKind.i64.wrap (y.tdiv 7)) 3 dC dC;have ht4:=aR (IntKind.i64.wrap (y.tdiv 5)) 4 dC dC;refine za9 (args:=[.agg #[.slice p rs.length c],vi y]) func60 I ntmps60 (bE I) ?_;refine rZ (bW (bO I) fun b2=>?_);refine bW (aL zk6) fun b4=>?_;refine tZ (sW I (lU (SU.quo I I dC) (lW (cL dn I (ai E g _ _ 3 dC)) ?_)));rintro _ _ _ ⟨rfl,rfl,rfl⟩;refine lU (SU.mul I I oM) (yD I (aT I (sW I (lU (SU.quo I I dC) (lW (cL dn I (ai E g _ _ 4 dC)) ?_)))));rintro _ _ _ ⟨rfl,rfl,rfl⟩;refine aT I (rZ (bW (aL zk6) fun b7=>?_));refine tZ (sQ (rZ (aT I (bK (zb4 63 3 ?_)))));have hke:1+2 * aG (IntKind.i64.wrap (y.tdiv 7)) 3=uf y:=rfl;have hte:aG (IntKind.i64.wrap (y.tdiv 5)) 4=zM y:=rfl;rw[hte] at ht4;unfold Ao;simp only[hke,hte];generalize uf y=k at *;generalize zM y=t at *;refine oP (ι:=PH×Value×List Rc×Nat) (fun i=>[(2,pp b2 0),(4,pp b4 0),(5,vi k),(6,vi t),(7,pp b7 0),(8,vi i.2.2.2)]) (fun i=>i.1) (fun i=>rowA encCell 63 i.2.1 i.2.2.1::pt b7 (.cells #[i.2.1] 30 (0,0))::pt b4 (.cells #[.slice none 0 0] 30 (0,0))::pt b2 (.cells #[.slice p rs.length c] 30 (0,0))::s)
  (fun i=>Le g i.1∧i.2.2.2≤rs.length∧ar (ao i.1) ((l.take i.2.2.2).map (aB k t)) i.2.2.1) (fun i=>rs.length - i.2.2.2)
  (g,.slice none 0 0,[],0) sB rfl rfl ⟨zb7 g,zf2 _,trivial⟩ ?_
 rintro ⟨g1,ov,rcs,i⟩ ⟨hle,hi,hrcs⟩;dsimp only at hle hi hrcs ⊢;have hrl:=hrcs.length;rw[ze2,zd9] at hrl;refine sQ (sW I (lU (fA cJ I bQ I) (lK (qL (v:=.slice p rs.length c) dI I (cO 3 I I)) (lU (eN aN I) (yL I (tZ ?_))))));refine iP I (fun hlt=>?_) (fun hlt=>?_)
 ·have hil:i<l.length:=oM;have hir:i<rs.length:=oM;have hb1:=hrs.based oM;have hxr:=(hall.get (gE hil) (gE hir)).mono hle;have hgx:rs[((i:Nat):Int).toNat]?=some rs[i]:=gE hir;have hsucc:=ez hil (aB k t);have hxl:=hf.2 _ (gM hil);generalize hxe:l[i]=x at *;obtain ⟨xp,xcap,hrx,hxs⟩:=dQ hxr;rw[hrx] at hgx;refine kP (tN (sQ (bK (rZ (lU (fA cJ I bQ I) (lK (qL (v:=.slice p rs.length c) dI I (cO 3 I I)) (lM I (lU (iA aN aC I I hb1 oM sL) (lK (eA eL aC I (hrs.mono hle).rd hgx) (bW (aL zk8) fun b9=>?_))))))))));refine oZ (sK 0 aC I I I I I sB) ?_;refine tZ ?_;refine SC.to (fun w hw=>hw) (g':=g1) (s':=pt b9 (.cells #[vi x.id,vi x.dim,.slice xp x.sides.length xcap] 63 (0,0))::rowA encCell 63 ov rcs::pt b7 (.cells #[ov] 30 (0,0))::pt b4 (.cells #[.slice none 0 0] 30 (0,0))::pt b2 (.cells #[.slice p rs.length c] 30 (0,0))::s) ?_;refine SC.cut (ι:=Nat) (fun b10=>[(2,pp b2 0),(4,pp b4 0),(5,vi k),(6,vi t),(7,pp b7 0),(8,vi i),(9,pp b9 0),(10,pp b10 0)]) (fun _=>g1) (fun b10=>pt b10 (.cells #[vi (dh x.id k),vi x.dim,.slice none 0 0] 63 (0,0))::pt b9 (.cells #[vi x.id,vi x.dim,.slice xp x.sides.length xcap] 63 (0,0))::rowA encCell 63 ov rcs::pt b7 (.cells #[ov] 30 (0,0))::pt b4 (.cells #[.slice none 0 0] 30 (0,0))::pt b2 (.cells #[.slice p rs.length c] 30 (0,0))::s) (fun _=>True) ?_ ?_
  ·refine SC.drawX [] zd8 kR ?_;refine SX.u (i:=0) I kR (fA am I zT3 I) dC (SX.q (i:=1) I kR (qL (v:=vi x.id) iT3 I (cO 0 I I)) dC (SX.u (i:=2) I kR (mV I) dC (SX.u (i:=4) I kR (fA am I zT3 I) dC (SX.q (i:=5) I kR (qL (v:=vi x.dim) iT3 I (cO 0 I I)) dC ?_))))
   repeat' (first
    | (refine SB.o (i:=3) I (cL call94 I (gV E g1 _ x.id k)) dC (.inr iR) ?_; rintro _ _ _ ⟨rfl,rfl,rfl⟩; refine SX.u (i:=6) I kD (za1 I (buildC63 _ _)) dC ?_)
    | (refine SB.o (i:=3) I (cL call94 I (gV E g1 _ x.id k)) dC (.inr iR) ?_; rintro _ _ _ ⟨rfl,rfl,rfl⟩; refine SX.u (i:=6) I kD (za1 I (buildC63 _ _)) dC ?_)
    | (refine SB.o (i:=7) I (aL zk8) dC (.inr iR) ?_; rintro _ _ _ ⟨b10,rfl,rfl,rfl⟩)
    | (refine SB.on (i:=8) I (sK 0 aC I I I I I sB) (.inr iR) ?_; rintro _ _ _ ⟨rfl,rfl⟩)
    | refine zd3 3 7 kD ?_ ?_
    | refine zd2 7 kD ?_
    | refine zd2 8 kD ?_
    | refine zd2 3 kD ?_
    | (refine SX.nil kD ?_; exact za7 b10 sB I I trivial))
  rintro b10 -;try dsimp only
  refine zb4 87 2 (sQ (rZ (aT I (bK ?_))));refine oP (ι:=Value×Nat) (fun j=>[(2,pp b2 0),(4,pp b4 0),(5,vi k),(6,vi t),(7,pp b7 0),(8,vi i),(9,pp b9 0),(10,pp b10 0),(11,vi j.2)]) (fun _=>g1) (fun j=>rowA encSide 87 j.1 ((x.sides.take j.2).map (aX k t x))::pt b10 (.cells #[vi (dh x.id k),vi x.dim,j.1] 63 (0,0))::pt b9 (.cells #[vi x.id,vi x.dim,.slice xp x.sides.length xcap] 63 (0,0))::rowA encCell 63 ov rcs::pt b7 (.cells #[ov] 30 (0,0))::pt b4 (.cells #[.slice none 0 0] 30 (0,0))::pt b2 (.cells #[.slice p rs.length c] 30 (0,0))::s)
   (fun j=>j.2≤x.sides.length) (fun j=>x.sides.length - j.2) (.slice none 0 0,0) sB rfl rfl (zf2 _) ?_
  rintro ⟨sv,j⟩ hj;dsimp only at hj ⊢;refine sQ (sW I (lU (fA am I a7 I) (lK (qL (v:=.slice xp x.sides.length xcap) bT I (cO 2 I I)) (lU (eN bJ I) (yL I (tZ ?_))))));refine iP I (fun hlt2=>?_) (fun hlt2=>?_)
  ·have hjl:j<x.sides.length:=oM;have hb3:=hxs.based oM;have hjx:x.sides[((j:Nat):Int).toNat]?=some x.sides[j]:=gE hjl;have hjs:=ez hjl (aX k t x);generalize x.sides[j]=z at *;refine kP (tN (sQ (bK ?_)));refine SC.cut (ι:=Nat) (fun b12=>[(2,pp b2 0),(4,pp b4 0),(5,vi k),(6,vi t),(7,pp b7 0),(8,vi i),(9,pp b9 0),(10,pp b10 0),(11,vi j),(12,pp b12 0)]) (fun _=>g1) (fun b12=>pt b12 (.cells #[vi (dh z.cell k),vi z.sign] 87 (0,0))::rowA encSide 87 sv ((x.sides.take j).map (aX k t x))::pt b10 (.cells #[vi (dh x.id k),vi x.dim,sv] 63 (0,0))::pt b9 (.cells #[vi x.id,vi x.dim,.slice xp x.sides.length xcap] 63 (0,0))::rowA encCell 63 ov rcs::pt b7 (.cells #[ov] 30 (0,0))::pt b4 (.cells #[.slice none 0 0] 30 (0,0))::pt b2 (.cells #[.slice p rs.length c] 30 (0,0))::s) (fun _=>True) ?_ ?_
   ·refine SC.drawX [] zd8 kR ?_;refine SX.u (i:=0) I kR (fA am I a7 I) dC (SX.q (i:=1) I kR (qL (v:=.slice xp x.sides.length xcap) bT I (cO 2 I I)) dC (SX.u (i:=2) I kR (mV I) dC (SX.u (i:=3) I kR (iA bJ bI I I hb3 oM sL) dC (SX.u (i:=4) I kR (fC cQ I zT3 I hb3) dC (SX.q (i:=5) I kR (aZ (e:=encSide) (o:=0) (u:=vi z.cell) iT3 I hxs.rd hjx I) dC (SX.u (i:=6) I kR (mV I) dC (SX.u (i:=8) I kR (fA am I a7 I) dC (SX.q (i:=9) I kR (qL (v:=.slice xp x.sides.length xcap) bT I (cO 2 I I)) dC (SX.u (i:=10) I kR (mV I) dC (SX.u (i:=11) I kR (iA bJ bI I I hb3 oM sL) dC (SX.u (i:=12) I kR (fC cQ I zT3 I hb3) dC (SX.q (i:=13) I kR (aZ (e:=encSide) (o:=1) (u:=vi z.sign) iT3 I hxs.rd hjx I) dC ?_))))))))))))
    repeat' (first
     | (refine SB.o (i:=7) I (cL call94 I (gV E g1 _ z.cell k)) dC (.inr iR) ?_; rintro _ _ _ ⟨rfl,rfl,rfl⟩; refine SX.u (i:=14) I kD (za1 I (buildS87 _ _)) dC ?_)
     | (refine SB.o (i:=7) I (cL call94 I (gV E g1 _ z.cell k)) dC (.inr iR) ?_; rintro _ _ _ ⟨rfl,rfl,rfl⟩; refine SX.u (i:=14) I kD (za1 I (buildS87 _ _)) dC ?_)
     | (refine SB.o (i:=15) I (aL zk7) dC (.inr iR) ?_; rintro _ _ _ ⟨b12,rfl,rfl,rfl⟩)
     | (refine SB.on (i:=16) I (sK 0 bI I I I I I sB) (.inr iR) ?_; rintro _ _ _ ⟨rfl,rfl⟩)
     | refine zd3 7 15 kD ?_ ?_
     | refine zd2 15 kD ?_
     | refine zd2 16 kD ?_
     | refine zd2 7 kD ?_
     | (refine SX.nil kD ?_; exact za7 b12 sB I I trivial))
   rintro b12 -;try dsimp only
   have e1:t>1→fY t x=decide (x.id.tmod t=1):=fun h=>by simp[fY,h]
   have e2:¬ t>1→fY t x=false:=fun h=>by simp only[fY,h,decide_false,Bool.false_and]
   have e3:t>1→x.dim>1→fD t x z.cell=decide (z.cell.tmod t=1):=fun h h'=>by simp[fD,h,h']
   have e4:t>1→¬ x.dim>1→fD t x z.cell=false:=fun h h'=>by simp only[fD,h',decide_false,Bool.and_false,Bool.false_and]
   have e5:¬ t>1→fD t x z.cell=false:=fun h=>by simp only[fD,h,decide_false,Bool.false_and]
   refine SC.cut (ι:=Int) (fun _=>[(2,pp b2 0),(4,pp b4 0),(5,vi k),(6,vi t),(7,pp b7 0),(8,vi i),(9,pp b9 0),(10,pp b10 0),(11,vi j),(12,pp b12 0)]) (fun _=>g1) (fun sg=>pt b12 (.cells #[vi (dh z.cell k),vi sg] 87 (0,0))::rowA encSide 87 sv ((x.sides.take j).map (aX k t x))::pt b10 (.cells #[vi (dh x.id k),vi x.dim,sv] 63 (0,0))::pt b9 (.cells #[vi x.id,vi x.dim,.slice xp x.sides.length xcap] 63 (0,0))::rowA encCell 63 ov rcs::pt b7 (.cells #[ov] 30 (0,0))::pt b4 (.cells #[.slice none 0 0] 30 (0,0))::pt b2 (.cells #[.slice p rs.length c] 30 (0,0))::s) (fun sg=>sg=px (fY t x) z.sign) ?_ ?_
   ·refine SC.cutB 69 ((fY t x)) ?_ ?_
    ·refine rG (lM I (lU (gR I I) (lM I ?_)));refine sP ?_ ?_
     ·intro h64;refine lY I I I (fA am I zT3 I) (SL.gq (gT I I I dC) (qL (v:=vi x.id) iT3 I (cO 3 I I)) dC (yC I (SL.go (gT I I I dC) (cL call95 I (lh E g1 _ x.id t oM)) dC ?_)));rintro _ _ _ ⟨rfl,rfl,rfl⟩;refine yP I (nL ?_);exact za8 (by (rw[e1 h64]; rfl)) mI
     ·intro h64;refine yA I (yA I (yA I (yA I (yF I (nL ?_)))));exact za8 (by (rw[e2 h64]; rfl)) mI
    refine iQ I (fun hq1=>?_) (fun hq1=>?_)
    ·refine rG (lU (fA cQ rfl zT3 rfl) (lK (qL (v:=vi z.sign) iT3 rfl (cO 0 rfl rfl)) (lU (SU.neg rfl) (lU (fA cQ rfl zT3 rfl) (oZ (SO.store1 0 zT3 rfl rfl rfl rfl (bE rfl) (by rfl)) ?_)))));refine nL ?_;exact za7 (IntKind.i64.wrap (0 - z.sign)) sB I I (by rw[hq1]; rfl)
    ·refine kP ?_;exact za7 z.sign sB I I (by rw[hq1]; rfl)
   rintro s1 hs1;try dsimp only
   refine SC.cut (ι:=Int) (fun _=>[(2,pp b2 0),(4,pp b4 0),(5,vi k),(6,vi t),(7,pp b7 0),(8,vi i),(9,pp b9 0),(10,pp b10 0),(11,vi j),(12,pp b12 0)]) (fun _=>g1) (fun sg=>pt b12 (.cells #[vi (dh z.cell k),vi sg] 87 (0,0))::rowA encSide 87 sv ((x.sides.take j).map (aX k t x))::pt b10 (.cells #[vi (dh x.id k),vi x.dim,sv] 63 (0,0))::pt b9 (.cells #[vi x.id,vi x.dim,.slice xp x.sides.length xcap] 63 (0,0))::rowA encCell 63 ov rcs::pt b7 (.cells #[ov] 30 (0,0))::pt b4 (.cells #[.slice none 0 0] 30 (0,0))::pt b2 (.cells #[.slice p rs.length c] 30 (0,0))::s) (fun sg=>sg=px (fD t x z.cell) s1) ?_ ?_
   ·refine SC.cutB 90 ((fD t x z.cell)) ?_ ?_
    ·refine rG (lM I (lU (gR I I) (lM I ?_)));refine sP ?_ ?_
     ·intro h76;refine lY I I I (fA am I zT3 I) (SL.gq (gT I I I dC) (qL (v:=vi x.dim) iT3 I (cO 3 I I)) dC (lY I I I (gR I I) (yP I (lM I ?_))));refine sP ?_ ?_
      ·intro h81;refine lY I I I (fA am I a7 I) (SL.gq (gT I I I dC) (qL (v:=.slice xp x.sides.length xcap) bT I (cO 3 I I)) dC (yC I (lY I I I (iA bJ bI I I hb3 oM sL) (lY I I I (fC cQ I zT3 I hb3) (SL.gq (gT I I I dC) (aZ (e:=encSide) (o:=0) (u:=vi z.cell) iT3 I hxs.rd hjx I) dC (yC I (SL.go (gT I I I dC) (cL call95 I (lh E g1 _ z.cell t oM)) dC ?_)))))));rintro _ _ _ ⟨rfl,rfl,rfl⟩;refine yP I (nL ?_);exact za8 (by (rw[e3 h76 h81]; rfl)) mI
      ·intro h81;refine yA I (yA I (yA I (yA I (yA I (yA I (yA I (yA I (yF I (nL ?_)))))))));exact za8 (by (rw[e4 h76 h81]; rfl)) mI
     ·intro h76;refine yA I (yA I (yA I (yF I (lM I (yA I (yA I (yA I (yA I (yA I (yA I (yA I (yA I (yF I (nL ?_))))))))))))));exact za8 (by (rw[e5 h76]; rfl)) mI
    refine iQ I (fun hq2=>?_) (fun hq2=>?_)
    ·refine rG (lU (fA cQ rfl zT3 rfl) (lK (qL (v:=vi s1) iT3 rfl (cO 0 rfl rfl)) (lU (SU.neg rfl) (lU (fA cQ rfl zT3 rfl) (oZ (SO.store1 0 zT3 rfl rfl rfl rfl (bE rfl) (by rfl)) ?_)))));refine nL ?_;exact za7 (IntKind.i64.wrap (0 - s1)) sB I I (by rw[hq2]; rfl)
    ·refine kP ?_;exact za7 s1 sB I I (by rw[hq2]; rfl)
   rintro s2 hs2;try dsimp only
   have hrz:aX k t x z=⟨dh z.cell k,s2⟩:=by unfold aX; rw[hs2,hs1]
   rw[hrz] at hjs;have hml:((x.sides.take j).map (aX k t x)).length=j:=by rw[ze2,zd9]; omega
   refine rG (lU (fA am I a7 I) (lK (qL (v:=sv) bT I (cO 2 I I)) (lK (qV 0 lV bI I I I) (lW (bS sty61 I I I (ab sB) dC) ?_))));rintro _ _ _ ⟨b98,rfl,rfl,rfl⟩;refine lW (aP (e:=encSide) 1 ⟨dh z.cell k,s2⟩ sty61 I I I I I oM oM) ?_;rintro sv' _ _ ⟨rfl,rfl⟩;rw[← hjs];refine zc8 fun ⟨w0,hw0⟩=>?_;obtain ⟨q6,d6,rfl⟩:=ag (i:=1) hw0 rfl;clear hw0 w0;refine lU (fA am rfl a7 rfl) (oZ (SO.store1 2 a7 rfl rfl rfl rfl (bE rfl) (by rfl)) ?_);refine nL (bN (tN (rG (lM I (yD I (lA I (nL (dR (s':=rowA encSide 87 (.slice q6 ((x.sides.take (j+1)).map (aX k t x)).length d6) ((x.sides.take (j+1)).map (aX k t x))::pt b10 (.cells #[vi (dh x.id k),vi x.dim,(.slice q6 ((x.sides.take (j+1)).map (aX k t x)).length d6)] 63 (0,0))::pt b9 (.cells #[vi x.id,vi x.dim,.slice xp x.sides.length xcap] 63 (0,0))::rowA encCell 63 ov rcs::pt b7 (.cells #[ov] 30 (0,0))::pt b4 (.cells #[.slice none 0 0] 30 (0,0))::pt b2 (.cells #[.slice p rs.length c] 30 (0,0))::s) (.cons _ (.refl _)) ?_))))))));exact gA (_,j+1) sB I I lN lN
  ·have hjj:x.sides.take j=x.sides:=tL oM;rw[hjj];refine xI (tX (tX (bX (tN (fS fun g2 hle2 hs2=>?_)))));have hsd:SlA encSide g2 sv (x.sides.map (aX k t x)):=hs2;obtain ⟨q8,d8,rfl⟩:=za2 hsd;obtain ⟨nc,hnc⟩:∃ nc:Rc,nc=⟨dh x.id k,x.dim,⟨q8,(x.sides.map (aX k t x)).length,d8⟩⟩:=⟨_,rfl⟩;refine rG (lU (fA cJ I bQ I) (lK (qL (v:=ov) dI I (cO 3 I I)) (lK (qV 0 eL aC I I I) (lW (bS sty28 I I I (ab sB) dC) ?_))));rintro _ _ _ ⟨b104,rfl,rfl,rfl⟩;refine lW (aP (e:=encCell) 2 nc sty28 I I I I (by rw[hnc]; rfl) oM oM) ?_;rintro v105 _ _ ⟨rfl,rfl⟩;refine zc8 fun ⟨w0,hw0⟩=>?_;obtain ⟨q9,d9,rfl⟩:=ag (i:=2) hw0 rfl;clear hw0 w0;refine lU (fA cJ I bQ I) (oZ (sK 3 bQ I I I I I sB) ?_);refine nL (bN (tN (rG (lM I (yD I (lA I (nL (dR (s':=rowA encCell 63 (.slice q9 (rcs++[nc]).length d9) (rcs++[nc])::pt b7 (.cells #[(.slice q9 (rcs++[nc]).length d9)] 30 (0,0))::pt b4 (.cells #[.slice none 0 0] 30 (0,0))::pt b2 (.cells #[.slice p rs.length c] 30 (0,0))::s) (.cons _ (.cons _ (.refl _))) ?_))))))));refine gA (g2,_,rcs++[nc],i+1) sB I I ⟨hle.trans hle2,lN,?_⟩ lN;dsimp only;rw[hsucc];exact (hrcs.mono fun _ _=>ao.mono hle2).append ⟨(by rw[hnc]; exact⟨I,I,hsd⟩),trivial⟩
 ·have hii:l.take i=l:=tL oM;rw[hii] at hrcs;refine xI (tX (tX (bX (tN (sQ (fS fun g2 hle2 hs2=>?_))))));have hov:au g2 ov (l.map (aB k t)):=⟨rcs,hs2,hrcs.mono fun _ _=>ao.mono hle2⟩;obtain ⟨qo,do_,rfl⟩:=hov.form;refine rG (lK (qV 0 bh az I I I) (lW (cL call75 I (ey E g2 _ _ _ hov (rR hf k t))) ?_));rintro _ g3 _ ⟨rfl,hle3,x3,rfl,hx3⟩;obtain ⟨q3,d3,rfl⟩:=hx3.form;refine oZ (sK 1 az I I I I I sB) ?_;refine tZ (rE ?_);exact ST.retCD 1 s (.inl I) results60 I bh az I I uR ⟨I,hle.trans (hle2.trans hle3),_,I,hx3⟩
def qm (j:Int):List (List Int):=if j=0 then [[0,1]] else if j=1 then [[0,1],[1,2]] else [[0,1],[1,2],[0,2]]
def zW (j:Int)(a b c:Value):Value:=if j=0 then a else if j=1 then b else c
theorem rO {j:Int}(h:0≤j∧j<3)(a b c:Value) : #[a,b,c][0+j.toNat * 1]?=some (zW j a b c):=by
 rcases (by omega:j=0∨j=1∨j=2) with rfl | rfl | rfl <;> rfl
theorem li {g:PH}{j:Int}(h:0≤j∧j<3){a b c:Value}(ha:aI g a [[0,1]])(hb:aI g b [[0,1],[1,2]])(hc:aI g c [[0,1],[1,2],[0,2]]):aI g (zW j a b c) (qm j):=by
 rcases (by omega:j=0∨j=1∨j=2) with rfl | rfl | rfl
 ·exact ha
 ·exact hb
 ·exact hc
theorem fG (j:Int):(qm j).length≤3∧∀ x∈qm j,x.length≤2:=by
 unfold qm;split
 ·exact⟨by decide,by decide⟩
 ·split
  ·exact⟨by decide,by decide⟩
  ·exact⟨by decide,by decide⟩
theorem sS (y:Int):4≤(jW y).length∧(jW y).length≤14∧∀ x∈jW y,x.length≤3:=by
 unfold jW;split
 ·exact⟨by decide,by decide,by decide⟩
 ·split
  ·exact⟨by decide,by decide,by decide⟩
  ·refine⟨by rw[gF]; decide,by rw[gF]; decide,fun x hx=>?_⟩;obtain ⟨i,_,hx⟩:=List.mem_flatMap.1 hx;simp at hx
   rcases hx with rfl | rfl <;> simp
def nP (m:Int)(ls:List (List Int))(y:Int):List Cl :=
 if m=3 then bA (jW y) else if m=4 then bH (bA (qm (aG y 3))) (bA (qm (aG (IntKind.i64.wrap (y.tdiv 3)) 3)))
 else if m=5 then qG (2+aG y 5).toNat else if m=6 then bH (bH (bA [[0,1]]) (bA [[0,1]])) (bA [[0,1]])
 else if m=7 then bA (kQ ls++(jW y).take (2+aG y 2).toNat) else bA (kQ ls)
theorem m6 (m:Int)(ls:List (List Int))(y:Int):di (nP m ls y):=by
 unfold nP;have h5:=aR y 5 dC dC
 repeat' split
 ·exact (cV _).1
 ·exact (dK _ _).1
 ·exact bZ (j8 oM).1
 ·exact (dK _ _).1
 ·exact (cV _).1
 ·exact (cV _).1
def nW (b:List Cl):List Cl:=if (b.length:Int)>45 then me else b
def iS (kd:Int)(ls:List (List Int))(y:Int):List Cl:=Ao (nW (nP (aG kd 8) ls y)) y
theorem wy {b:List Cl}(h:di b):di (nW b):=by
 unfold nW;split
 ·exact (dK _ _).1
 ·exact h
theorem jL (kd:Int)(ls:List (List Int))(y:Int):di (iS kd ls y):=bZ (rR (wy (m6 _ _ _)) _ _)
theorem Tryz.build103 (p1:Option Addr)(n1 c1:Nat)(p2:Option Addr)(n2 c2:Nat)(p3:Option Addr)(n3 c3:Nat)(w:World):(Instr.build 103 #[(0,.slice p1 n1 c1),(1,.slice p2 n2 c2),(2,.slice p3 n3 c3)]).run Tryz.prog w = .ok (.agg #[.slice p1 n1 c1,.slice p2 n2 c2,.slice p3 n3 c3]) w:=by
 have hz:(Value.agg #[Value.slice none 0 0,Value.slice none 0 0,Value.slice none 0 0]).cells = #[.slice none 0 0,.slice none 0 0,.slice none 0 0]:=rfl;have h1:(Value.slice p1 n1 c1).cells = #[.slice p1 n1 c1]:=rfl;have h2:(Value.slice p2 n2 c2).cells = #[.slice p2 n2 c2]:=rfl;have h3:(Value.slice p3 n3 c3).cells = #[.slice p3 n3 c3]:=rfl;simp[Instr.build,Instr.fill,hz,h1,h2,h3]
theorem oT (E:World)(g:PH)(s:Own)(v:Value)(kd y:Int)(ls:List (List Int))(hv:aI g v ls) :
  Ctr Tryz.prog E 27 #[.agg #[vi kd,v,vi y]] g s (fun r g' s'=>s=s'∧Le g g'∧∃ x,r = .agg #[x]∧au g' x (iS kd ls y)):=by
 obtain ⟨p,n,c,rfl⟩:∃ p n c,v = .slice p n c:=by
  obtain ⟨rs0,hrs0,_⟩:=hv;obtain ⟨p,c,rfl⟩:=za2 hrs0;exact⟨_,_,_,I⟩
 have hm8:=aR kd 8 dC dC;have hy3:=aR y 3 dC dC;have hy33:=aR (IntKind.i64.wrap (y.tdiv 3)) 3 dC dC;have hy5:=aR y 5 dC dC;have hy2:=aR y 2 dC dC;have hss:=s6 ls;have hsf:=sS y;unfold iS;have hfit:=m6 (aG kd 8) ls y;refine za9 (args:=[.agg #[vi kd,.slice p n c,vi y]]) func27 I ntmps27 (bE I) ?_;refine rZ (bW (bO I) fun b1=>?_);refine bW (aL zk6) fun b2=>?_;refine tZ (rZ (bW (aL zk6) fun b3=>?_));refine tZ ?_;refine SC.to (fun w hw=>hw) (g':=g) (s':=pt b3 (.cells #[.slice none 0 0] 30 (0,0))::pt b2 (.cells #[.slice none 0 0] 30 (0,0))::pt b1 (.cells #[vi kd,.slice p n c,vi y] 24 (0,0))::s) ?_;refine SC.cut (ι:=PH×Value) (fun _=>[(1,pp b1 0),(2,pp b2 0),(3,pp b3 0)]) (fun i=>i.1) (fun i=>pt b3 (.cells #[i.2] 30 (0,0))::pt b2 (.cells #[.slice none 0 0] 30 (0,0))::pt b1 (.cells #[vi kd,.slice p n c,vi y] 24 (0,0))::s) (fun i=>Le g i.1∧au i.1 i.2 (nP (aG kd 8) ls y)) ?_ ?_
 ·rcases (by omega:(aG kd 8=0∨aG kd 8=1∨aG kd 8=2)∨aG kd 8=3∨aG kd 8=4∨aG kd 8=5∨aG kd 8=6∨aG kd 8=7) with (hm | hm | hm) | hm | hm | hm | hm | hm
  ·refine rZ (lU (fA i5 I zT3 I) (lK (qL (v:=vi kd) iT3 I (cO 2 I I)) (lW (cL dn I (ai E g _ _ 8 dC)) ?_)));rintro _ _ _ ⟨rfl,rfl,rfl⟩;rw[hm];refine tZ (bK (sQ (rZ (yE I (aT I (cT I (kP (tN (cT I (rG (lU (fA i5 I ow I) (lK (qL (v:=.slice p n c) isAgg22 I (cO 2 I I)) (lW (cL call55 I (jk E g _ _ ls hv)) ?_)))))))))))));rintro v16 g1 _ ⟨rs1,rfl,hle1,hall1⟩;refine fR fun g2 hle2 hs2=>?_;have hls:aI g2 v16 (kQ ls):=⟨rs1,hs2,hall1.mono fun _ _=>bC.mono hle2⟩;refine lW (cL call21 I (ay E g2 _ _ _ hls oM (fun x hx=>by have:=hss.2 x hx; omega))) ?_;rintro _ g3 _ ⟨rfl,hle3,u,rfl,hu⟩;obtain ⟨q,d,rfl⟩:=hu.form;refine oZ (sK 0 az I I I I I sB) ?_;refine nL (bN ?_);exact za7 (g3,_) sB I I ⟨hle1.trans (hle2.trans hle3),hu⟩
  ·refine rZ (lU (fA i5 I zT3 I) (lK (qL (v:=vi kd) iT3 I (cO 2 I I)) (lW (cL dn I (ai E g _ _ 8 dC)) ?_)));rintro _ _ _ ⟨rfl,rfl,rfl⟩;rw[hm];refine tZ (bK (sQ (rZ (yE I (aT I (cF I (rZ (yE I (aT I (cT I (kP (tN (cT I (rG (lU (fA i5 I ow I) (lK (qL (v:=.slice p n c) isAgg22 I (cO 2 I I)) (lW (cL call55 I (jk E g _ _ ls hv)) ?_)))))))))))))))));rintro v16 g1 _ ⟨rs1,rfl,hle1,hall1⟩;refine fR fun g2 hle2 hs2=>?_;have hls:aI g2 v16 (kQ ls):=⟨rs1,hs2,hall1.mono fun _ _=>bC.mono hle2⟩;refine lW (cL call21 I (ay E g2 _ _ _ hls oM (fun x hx=>by have:=hss.2 x hx; omega))) ?_;rintro _ g3 _ ⟨rfl,hle3,u,rfl,hu⟩;obtain ⟨q,d,rfl⟩:=hu.form;refine oZ (sK 0 az I I I I I sB) ?_;refine nL (bN ?_);exact za7 (g3,_) sB I I ⟨hle1.trans (hle2.trans hle3),hu⟩
  ·refine rZ (lU (fA i5 I zT3 I) (lK (qL (v:=vi kd) iT3 I (cO 2 I I)) (lW (cL dn I (ai E g _ _ 8 dC)) ?_)));rintro _ _ _ ⟨rfl,rfl,rfl⟩;rw[hm];refine tZ (bK (sQ (rZ (yE I (aT I (cF I (rZ (yE I (aT I (cF I (rG (yE I (aT I (cT I (rG (lU (fA i5 I ow I) (lK (qL (v:=.slice p n c) isAgg22 I (cO 2 I I)) (lW (cL call55 I (jk E g _ _ ls hv)) ?_))))))))))))))))));rintro v16 g1 _ ⟨rs1,rfl,hle1,hall1⟩;refine fR fun g2 hle2 hs2=>?_;have hls:aI g2 v16 (kQ ls):=⟨rs1,hs2,hall1.mono fun _ _=>bC.mono hle2⟩;refine lW (cL call21 I (ay E g2 _ _ _ hls oM (fun x hx=>by have:=hss.2 x hx; omega))) ?_;rintro _ g3 _ ⟨rfl,hle3,u,rfl,hu⟩;obtain ⟨q,d,rfl⟩:=hu.form;refine oZ (sK 0 az I I I I I sB) ?_;refine nL (bN ?_);exact za7 (g3,_) sB I I ⟨hle1.trans (hle2.trans hle3),hu⟩
  ·refine rZ (lU (fA i5 I zT3 I) (lK (qL (v:=vi kd) iT3 I (cO 2 I I)) (lW (cL dn I (ai E g _ _ 8 dC)) ?_)));rintro _ _ _ ⟨rfl,rfl,rfl⟩;rw[hm];refine tZ (bK (sQ (rZ (yE I (aT I (cF I (rZ (yE I (aT I (cF I (rG (yE I (aT I (cF I (rZ (yE I (aT I ?_)))))))))))))))));refine cT I (rG (lU (fA i5 I zT3 I) (lK (qL (v:=vi y) iT3 I (cO 2 I I)) (lW (cL call56 I (j5 E g _ y)) ?_))));rintro v22 g1 _ ⟨rfl,hle1,hls⟩;refine lW (cL call21 I (ay E g1 _ _ _ hls oM (fun x hx=>by have:=hsf.2.2 x hx; omega))) ?_;rintro _ g3 _ ⟨rfl,hle3,u,rfl,hu⟩;obtain ⟨q,d,rfl⟩:=hu.form;refine oZ (sK 0 az I I I I I sB) ?_;refine nL (bN ?_);exact za7 (g3,_) sB I I ⟨hle1.trans hle3,hu⟩
  ·refine rZ (lU (fA i5 I zT3 I) (lK (qL (v:=vi kd) iT3 I (cO 2 I I)) (lW (cL dn I (ai E g _ _ 8 dC)) ?_)));rintro _ _ _ ⟨rfl,rfl,rfl⟩;rw[hm];refine tZ (bK (sQ (rZ (yE I (aT I (cF I (rZ (yE I (aT I (cF I (rG (yE I (aT I (cF I (rZ (yE I (aT I ?_)))))))))))))))));refine cF I (rZ (yE I (aT I (cT I (rZ (lU (fA i5 I zT3 I) (lK (qL (v:=vi y) iT3 I (cO 2 I I)) (lW (cL dn I (ai E g _ _ 3 dC)) ?_))))))));rintro _ _ _ ⟨rfl,rfl,rfl⟩;refine aT I (rZ (lW (bS sty25 I I I (ab sB) dC) ?_));rintro _ _ _ ⟨b29,rfl,rfl,rfl⟩;refine zb3 fun g1 hle1 hb29=>?_;refine lW (bS sty22 I I I (ab ⟨I,trivial⟩) dC) ?_;rintro _ _ _ ⟨b30,rfl,rfl,rfl⟩;refine zb3 fun g2 hle2 hb30=>?_;have hlit30:aI g2 (.slice (some ⟨b30,0,none⟩) 1 1) [[0,1]]:=⟨[dH (.slice (some ⟨b29,0,none⟩) 2 2)],SlA.lit hb30 rfl rfl,⟨SlA.lit (hle2 _ _ hb29) rfl rfl,trivial⟩⟩;refine lW (bS sty25 I I I (ab sB) dC) ?_;rintro _ _ _ ⟨b31,rfl,rfl,rfl⟩;refine zb3 fun g3 hle3 hb31=>?_;refine lW (bS sty25 I I I (ab sB) dC) ?_;rintro _ _ _ ⟨b32,rfl,rfl,rfl⟩;refine zb3 fun g4 hle4 hb32=>?_;refine lW (bS sty22 I I I (ab sB) dC) ?_;rintro _ _ _ ⟨b33,rfl,rfl,rfl⟩;refine zb3 fun g5 hle5 hb33=>?_;have hlit33:aI g5 (.slice (some ⟨b33,0,none⟩) 2 2) [[0,1],[1,2]]:=⟨[dH (.slice (some ⟨b31,0,none⟩) 2 2),dH (.slice (some ⟨b32,0,none⟩) 2 2)],SlA.lit hb33 rfl rfl,⟨SlA.lit (hle5 _ _ (hle4 _ _ hb31)) rfl rfl,SlA.lit (hle5 _ _ hb32) rfl rfl,trivial⟩⟩;refine lW (bS sty25 I I I (ab sB) dC) ?_;rintro _ _ _ ⟨b34,rfl,rfl,rfl⟩;refine zb3 fun g6 hle6 hb34=>?_;refine lW (bS sty25 I I I (ab sB) dC) ?_;rintro _ _ _ ⟨b35,rfl,rfl,rfl⟩;refine zb3 fun g7 hle7 hb35=>?_;refine lW (bS sty25 I I I (ab sB) dC) ?_;rintro _ _ _ ⟨b36,rfl,rfl,rfl⟩;refine zb3 fun g8 hle8 hb36=>?_;refine lW (bS sty22 I I I (ab sB) dC) ?_;rintro _ _ _ ⟨b37,rfl,rfl,rfl⟩;refine zb3 fun g9 hle9 hb37=>?_;have hlit37:aI g9 (.slice (some ⟨b37,0,none⟩) 3 3) [[0,1],[1,2],[0,2]]:=⟨[dH (.slice (some ⟨b34,0,none⟩) 2 2),dH (.slice (some ⟨b35,0,none⟩) 2 2),dH (.slice (some ⟨b36,0,none⟩) 2 2)],SlA.lit hb37 rfl rfl,⟨SlA.lit (hle9 _ _ (hle8 _ _ (hle7 _ _ hb34))) rfl rfl,SlA.lit (hle9 _ _ (hle8 _ _ hb35)) rfl rfl,SlA.lit (hle9 _ _ hb36) rfl rfl,trivial⟩⟩;refine lU (za1 I (build103 _ _ _ _ _ _ _ _ _)) (bW (aL zeroValue103) fun b5=>?_);refine oZ (sK 0 sizeOf103 I I I I I sB) ?_;refine tZ ?_;have hl1:=li hy3 (hlit30.mono (hle3.trans (hle4.trans (hle5.trans (hle6.trans (hle7.trans (hle8.trans hle9))))))) (hlit33.mono (hle6.trans (hle7.trans (hle8.trans hle9)))) hlit37;have hl2:=li hy33 (hlit30.mono (hle3.trans (hle4.trans (hle5.trans (hle6.trans (hle7.trans (hle8.trans hle9))))))) (hlit33.mono (hle6.trans (hle7.trans (hle8.trans hle9)))) hlit37;refine SC.to (fun w hw=>hw) (g':=g9) (s':=pt b5 (.cells #[.slice (some ⟨b30,0,none⟩) 1 1,.slice (some ⟨b33,0,none⟩) 2 2,.slice (some ⟨b37,0,none⟩) 3 3] 103 (0,0))::pt b3 (.cells #[.slice none 0 0] 30 (0,0))::pt b2 (.cells #[.slice none 0 0] 30 (0,0))::pt b1 (.cells #[vi kd,.slice p n c,vi y] 24 (0,0))::s) ?_;refine dW [12] [(0,2),(1,2),(2,1),(4,2),(5,1),(6,2),(3,0),(7,0),(8,2),(9,1),(10,0),(11,0),(12,0)] zd8 kR ?_;refine yM I (pU I (iB underlying103 ow I I oM oM) (pK I (qL (v:=zW (aG y 3) (.slice (some ⟨b30,0,none⟩) 1 1) (.slice (some ⟨b33,0,none⟩) 2 2) (.slice (some ⟨b37,0,none⟩) 3 3)) isAgg22 I (cO 0 I (rO hy3 _ _ _))) (pU I (fA i5 I zT3 I) (pK I (qL (v:=vi y) iT3 I (cO 3 I I)) (pU I (SU.quo I I dC) (SP.o I (cL call21 I (ay E g9 _ _ _ hl1 (by have:=(fG (aG y 3)).1; omega) (fun x hx=>by have:=(fG (aG y 3)).2 x hx; omega))) dC (.inr iR) ?_))))));rintro _ ga _ ⟨rfl,hlea,ua,rfl,hua⟩;obtain ⟨qa,da,rfl⟩:=hua.form;refine SP.o I (cL dn I (ai E ga _ _ 3 dC)) dC (.inr iR) ?_;rintro _ _ _ ⟨rfl,rfl,rfl⟩;refine pU I (iB underlying103 ow I I oM oM) (pK I (qL (v:=zW (aG (IntKind.i64.wrap (y.tdiv 3)) 3) (.slice (some ⟨b30,0,none⟩) 1 1) (.slice (some ⟨b33,0,none⟩) 2 2) (.slice (some ⟨b37,0,none⟩) 3 3)) isAgg22 I (cO 0 I (rO hy33 _ _ _))) (SP.o I (cL call21 I (ay E ga _ _ _ (hl2.mono hlea) (by have:=(fG (aG (IntKind.i64.wrap (y.tdiv 3)) 3)).1; omega) (fun x hx=>by have:=(fG (aG (IntKind.i64.wrap (y.tdiv 3)) 3)).2 x hx; omega))) dC (.inr (by rintro _ gb _ ⟨rfl,hleb,ub,rfl,hub⟩; exact⟨by exact Le.trans (by assumption) (by assumption),(by exact .refl _)⟩)) ?_));rintro _ gb _ ⟨rfl,hleb,ub,rfl,hub⟩;obtain ⟨qb,db,rfl⟩:=hub.form;have hleab:=hlea.trans hleb;refine SP.o rfl (cL call57 rfl (dL E gb _ _ _ _ _ (hua.mono hleb) hub (cV _).1 (cV _).1)) dC (.inr (by rintro _ gc _ ⟨rfl,hlec,uc,rfl,huc⟩; exact⟨by exact Le.trans (by assumption) (by assumption),(by exact .refl _)⟩)) ?_;rintro _ gc _ ⟨rfl,hlec,uc,rfl,huc⟩;obtain ⟨qc,dc,rfl⟩:=huc.form;refine SP.on I (sK 1 az I I I I I sB) (.inl dC) ?_;rintro _ _ _ ⟨rfl,rfl⟩;refine pN (bN (dR (s':=pt b3 (.cells #[(Value.slice qc _ dc)] 30 (0,0))::pt b2 (.cells #[.slice none 0 0] 30 (0,0))::pt b1 (.cells #[vi kd,.slice p n c,vi y] 24 (0,0))::s) (.cons _ (.refl _)) ?_));exact za7 (gc,_) sB I I ⟨(hle1.trans (hle2.trans (hle3.trans (hle4.trans (hle5.trans (hle6.trans (hle7.trans (hle8.trans hle9)))))))).trans (hlea.trans (hleb.trans hlec)),huc⟩
  ·refine rZ (lU (fA i5 I zT3 I) (lK (qL (v:=vi kd) iT3 I (cO 2 I I)) (lW (cL dn I (ai E g _ _ 8 dC)) ?_)));rintro _ _ _ ⟨rfl,rfl,rfl⟩;rw[hm];refine tZ (bK (sQ (rZ (yE I (aT I (cF I (rZ (yE I (aT I (cF I (rG (yE I (aT I (cF I (rZ (yE I (aT I ?_)))))))))))))))));refine cF I (rZ (yE I (aT I (cF I (rZ (yE I (aT I (cT I (rG (lU (fA i5 I zT3 I) (lK (qL (v:=vi y) iT3 I (cO 2 I I)) (lW (cL dn I (ai E g _ _ 5 dC)) ?_))))))))))));rintro _ _ _ ⟨rfl,rfl,rfl⟩;refine lU (SU.eq (v':=vi (((2+aG y 5).toNat:Nat):Int)) (aD I I oM) (zd7 vi oM)) (lW (cL call58 I (pF E g _ (2+aG y 5).toNat oM oM)) ?_);rintro _ g3 _ ⟨rfl,hle3,u,rfl,hu⟩;obtain ⟨q,d,rfl⟩:=hu.form;refine oZ (sK 0 az I I I I I sB) ?_;refine nL (bN ?_);exact za7 (g3,_) sB I I ⟨hle3,hu⟩
  ·refine rZ (lU (fA i5 I zT3 I) (lK (qL (v:=vi kd) iT3 I (cO 2 I I)) (lW (cL dn I (ai E g _ _ 8 dC)) ?_)));rintro _ _ _ ⟨rfl,rfl,rfl⟩;rw[hm];refine tZ (bK (sQ (rZ (yE I (aT I (cF I (rZ (yE I (aT I (cF I (rG (yE I (aT I (cF I (rZ (yE I (aT I ?_)))))))))))))))));refine cF I (rZ (yE I (aT I (cF I (rZ (yE I (aT I (cF I (rZ (yE I (aT I (cT I (rZ (lW (bS sty25 I I I (ab sB) dC) ?_))))))))))))));rintro _ _ _ ⟨b60,rfl,rfl,rfl⟩;refine zb3 fun g1 hle1 hb60=>?_;refine lW (bS sty22 I I I (ab ⟨I,trivial⟩) dC) ?_;rintro _ _ _ ⟨b61,rfl,rfl,rfl⟩;refine zb3 fun g2 hle2 hb61=>?_;have hlit61:aI g2 (.slice (some ⟨b61,0,none⟩) 1 1) [[0,1]]:=⟨[dH (.slice (some ⟨b60,0,none⟩) 2 2)],SlA.lit hb61 rfl rfl,⟨SlA.lit (hle2 _ _ hb60) rfl rfl,trivial⟩⟩;refine lW (cL call21 I (ay E g2 _ _ _ hlit61 dC dC)) ?_;rintro _ ga _ ⟨rfl,hlea,ua,rfl,hua⟩;obtain ⟨qa,da,rfl⟩:=hua.form;refine bW (aL zk6) fun b6=>?_;refine oZ (sK 0 az I I I I I sB) ?_;refine tZ ?_;refine SC.to (fun w hw=>hw) (g':=ga) (s':=pt b6 (.cells #[.slice qa (bA [[0,1]]).length da] 30 (0,0))::pt b3 (.cells #[.slice none 0 0] 30 (0,0))::pt b2 (.cells #[.slice none 0 0] 30 (0,0))::pt b1 (.cells #[vi kd,.slice p n c,vi y] 24 (0,0))::s) ?_;refine dW [5] [(0,1),(1,1),(3,1),(2,0),(4,0),(5,0)] zd8 kR ?_;refine pK I (qV 0 bh az I I I) (pK I (qV 0 bh az I I I) (pK I (qV 0 bh az I I I) (SP.o I (cL call57 I (dL E ga _ _ _ _ _ hua hua (cV _).1 (cV _).1)) dC (.inr iR) ?_)));rintro _ gb _ ⟨rfl,hleb,ub,rfl,hub⟩;obtain ⟨qb,db,rfl⟩:=hub.form;refine SP.o rfl (cL call57 rfl (dL E gb _ _ _ _ _ hub (hua.mono hleb) (dK _ _).1 (cV _).1)) dC (.inr (by rintro _ gc _ ⟨rfl,hlec,uc,rfl,huc⟩; exact⟨by exact Le.trans (by assumption) (by assumption),(by exact .refl _)⟩)) ?_;rintro _ gc _ ⟨rfl,hlec,uc,rfl,huc⟩;obtain ⟨qc,dc,rfl⟩:=huc.form;refine SP.on I (sK 1 az I I I I I sB) (.inl dC) ?_;rintro _ _ _ ⟨rfl,rfl⟩;refine pN (bN (dR (s':=pt b3 (.cells #[(Value.slice qc _ dc)] 30 (0,0))::pt b2 (.cells #[.slice none 0 0] 30 (0,0))::pt b1 (.cells #[vi kd,.slice p n c,vi y] 24 (0,0))::s) (.cons _ (.refl _)) ?_));exact za7 (gc,_) sB I I ⟨(hle1.trans hle2).trans (hlea.trans (hleb.trans hlec)),huc⟩
  ·refine rZ (lU (fA i5 I zT3 I) (lK (qL (v:=vi kd) iT3 I (cO 2 I I)) (lW (cL dn I (ai E g _ _ 8 dC)) ?_)));rintro _ _ _ ⟨rfl,rfl,rfl⟩;rw[hm];refine tZ (bK (sQ (rZ (yE I (aT I (cF I (rZ (yE I (aT I (cF I (rG (yE I (aT I (cF I (rZ (yE I (aT I ?_)))))))))))))))));refine cF I (rZ (yE I (aT I (cF I (rZ (yE I (aT I (cF I (rZ (yE I (aT I (cF I (rZ (yE I (aT I (cT I ?_))))))))))))))));refine dW [13] [(0,2),(1,1),(3,2),(4,1),(6,2),(7,1),(2,0),(5,0),(8,0),(9,2),(10,2),(11,0),(12,0),(13,0)] zd8 kR ?_;refine pU I (fA i5 I ow I) (pK I (qL (v:=.slice p n c) isAgg22 I (cO 2 I I)) (pU I (fA i5 I zT3 I) (pK I (qL (v:=vi y) iT3 I (cO 2 I I)) (pU I (fA i5 I zT3 I) (pK I (qL (v:=vi y) iT3 I (cO 2 I I)) (SP.o I (cL call55 I (jk E g _ _ ls hv)) dC (.inr iR) ?_))))));rintro v72 g1 _ ⟨rs1,rfl,hle1,hall1⟩;refine SP.o rfl (cL call56 rfl (j5 E g1 _ y)) dC (.inr (by rintro v75 g2 _ ⟨rfl,hle2,hsv⟩; exact⟨by exact Le.trans (by assumption) (by assumption),(by exact .cons _ (.refl _))⟩)) ?_;rintro v75 g2 _ ⟨rfl,hle2,hsv⟩;obtain ⟨rs2,hrs2,hall2⟩:=hsv;have hrl2:=hall2.length;have hrl1:=hall1.length;obtain ⟨q2,d2,rfl⟩:=za2 hrs2;have hcap2:=(SlA.cap hrs2).2;have hcut:=SlA.cut hrs2 (l:=0) (m:=(2+aG y 2).toNat) (zf2 _) oM;rw[List.drop_zero,Nat.sub_zero] at hcut;refine SP.o rfl (cL dn rfl (ai E g2 _ _ 2 dC)) dC (.inr (by rintro _ _ _ ⟨rfl,rfl,rfl⟩; exact⟨by exact Le.trans (by assumption) (by assumption),(by exact .cons _ (.refl _))⟩)) ?_;rintro _ _ _ ⟨rfl,rfl,rfl⟩;refine pU I (aD I I oM) (pU I (SU.sliceH bL ci I I oM oM) (SP.o I (aQ (e:=bq) 0 sty22 I I I hcut (by rw[zd9]; omega) (by rw[zd9]; omega)) dC (.inr (by rintro v81 _ _ ⟨rfl,rfl⟩; exact⟨by exact Le.trans (by assumption) (by assumption),(by exact .cons _ (.refl _))⟩)) ?_));rintro v81 _ _ ⟨rfl,rfl⟩;refine SP.freezeRow fun g3 hle3 hs3=>?_;have hls:aI g3 v81 (kQ ls++(jW y).take (2+aG y 2).toNat):=⟨_,hs3,(hall1.mono fun _ _=>bC.mono (hle2.trans hle3)).append ((ar.take _ hall2).mono fun _ _=>bC.mono hle3)⟩;have hle13:=hle1.trans (hle2.trans hle3);refine SP.o I (cL call21 I (ay E g3 _ _ _ hls (by rw[ze1,zd9]; omega) (fun x hx=>by rcases ze8.1 hx with h | h; (have:=hss.2 x h; omega); (have:=hsf.2.2 x (List.mem_of_mem_take h); omega)))) dC (.inr (by rintro _ g4 _ ⟨rfl,hle4,u,rfl,hu⟩; exact⟨by exact Le.trans (by assumption) (by assumption),(by exact .refl _)⟩)) ?_;rintro _ g4 _ ⟨rfl,hle4,u,rfl,hu⟩;obtain ⟨q,d,rfl⟩:=hu.form;refine SP.on I (sK 0 az I I I I I sB) (.inl dC) ?_;rintro _ _ _ ⟨rfl,rfl⟩;refine pN (bN ?_);exact za7 (g4,_) sB I I ⟨hle1.trans (hle2.trans (hle3.trans hle4)),hu⟩
 rintro ⟨g1,bv⟩ ⟨hle1,hbv⟩;dsimp only at hle1 hbv ⊢;generalize hB:nP (aG kd 8) ls y=B at *;obtain ⟨qb,db,rfl⟩:=hbv.form;refine sQ (rZ (lU (fA cJ I bQ I) (lK (qL (v:=.slice qb B.length db) dI I (cO 0 I I)) (lU (eN aN I) (lU (gR I I) (tZ ?_))))));refine iP I (fun hbig=>?_) (fun hbig=>?_)
 ·refine rG (lW (cL call59 I (sN E g1 _)) ?_);rintro _ g2 _ ⟨rfl,hle2,ut,rfl,hut⟩;obtain ⟨qt,dt,rfl⟩:=hut.form;refine oZ (sK 0 az I I I I I sB) ?_;refine tZ (sQ ?_);refine SC.to (fun w hw=>hw) (g':=g2) (s':=pt b3 (.cells #[(Value.slice qt me.length dt)] 30 (0,0))::pt b2 (.cells #[.slice none 0 0] 30 (0,0))::pt b1 (.cells #[vi kd,.slice p n c,vi y] 24 (0,0))::s) ?_;refine rG (lK (qV 0 bh az I I I) (lU (fA i5 I zT3 I) (lK (qL (v:=vi y) iT3 I (cO 2 I I)) (lW (cL call60 I (gO E g2 _ _ me y hut (dK _ _).1)) ?_))));rintro _ g3 _ ⟨rfl,hle3,x3,rfl,hx3⟩;obtain ⟨q3,d3,rfl⟩:=hx3.form;refine oZ (sK 1 az I I I I I sB) ?_;refine tZ (rE ?_);exact ST.retCD 1 s (.inl I) results27 I bh az I I uR ⟨I,hle1.trans (hle2.trans hle3),_,I,by unfold nW; rw[zf6 hbig]; exact hx3⟩
 ·refine kP (tN (sQ ?_));refine SC.to (fun w hw=>hw) (g':=g1) (s':=pt b3 (.cells #[(Value.slice qb B.length db)] 30 (0,0))::pt b2 (.cells #[.slice none 0 0] 30 (0,0))::pt b1 (.cells #[vi kd,.slice p n c,vi y] 24 (0,0))::s) ?_;refine rG (lK (qV 0 bh az I I I) (lU (fA i5 I zT3 I) (lK (qL (v:=vi y) iT3 I (cO 2 I I)) (lW (cL call60 I (gO E g1 _ _ B y hbv hfit)) ?_))));rintro _ g3 _ ⟨rfl,hle3,x3,rfl,hx3⟩;obtain ⟨q3,d3,rfl⟩:=hx3.form;refine oZ (sK 1 az I I I I I sB) ?_;refine tZ (rE ?_);exact ST.retCD 1 s (.inl I) results27 I bh az I I uR ⟨I,hle1.trans hle3,_,I,by unfold nW; rw[zf5 hbig]; exact hx3⟩
theorem iM (a b:Int)(h0:0<b)(h1:b≤1099511627776):0≤aG a b∧aG a b<b:=by
 have h2:a.tmod b<b:=Int.tmod_lt_of_pos a h0;have h3 : -b<a.tmod b:=by
  have:=Int.lt_tmod_of_pos a h0;omega
 unfold aG;rw[zk3 _ oM,Int.tmod_eq_emod_of_nonneg oM];exact⟨zj9 _ oM,zj8 _ h0⟩
theorem nz (a:Int)(n:Nat)(h0:0<n)(h1:n≤1099511627776):aG a n=(((aG a n).toNat:Nat):Int)∧(aG a n).toNat<n:=by
 have:=iM a n oM oM;omega
def AD:Cl:=⟨0,0,[]⟩
def pX:aj:=⟨0,0⟩
def wQ (z:aj):aj:=⟨z.cell,IntKind.i64.wrap (0 - z.sign)⟩
def hX (x:Cl)(ss:List aj):Cl:=⟨x.id,x.dim,ss⟩
def cu (l:List Cl)(n:Int):Cl:=l.getD (aG n l.length).toNat AD
def oh (m:Int)(l:List Cl)(k:Nat)(x:Cl)(n:Int)(j:Nat):List Cl :=
 if m=0 then l.set k ⟨aG n 9 - 1,x.dim,x.sides⟩
 else if m=1 then l.set k ⟨x.id,aG n 12 - 1,x.sides⟩
 else if m=2 then l.eraseIdx k
 else if m=3 then l.set k (hX x (x.sides.set j ⟨(x.sides.getD j pX).cell,aG n 4 - 2⟩))
 else if m=4 then l.set k (hX x (x.sides.set j (wQ (x.sides.getD j pX))))
 else if m=5 then l.set k (hX x (x.sides.set j ⟨(cu l (IntKind.i64.wrap (n.tdiv 3))).id,(x.sides.getD j pX).sign⟩))
 else if m=6 then l.set k (hX x (x.sides.eraseIdx j))
 else if m=7 then l.set k (hX x (x.sides++[⟨(cu l n).id,1 - 2 * aG n 2⟩]))
 else if m=8 then l++[x]
 else if m=9 then l.set k (hX x (x.sides++(cu l n).sides))
 else if m=10 then l.set k (hX x (x.sides.map wQ))
 else if m=11 then l++[⟨500+aG n 3,aG n 4,x.sides⟩]
 else l
def cR (x:Cl)(n:Int):Nat:=if 0<x.sides.length then (aG n x.sides.length).toNat else 0
def ir (l:List Cl)(q0 q1 q2:Int):List Cl :=
 if l.length=0 then [⟨q1,0,[]⟩] else oh (aG q0 13) l (aG q1 l.length).toNat (cu l q1) q2 (cR (cu l q1) q2)
def nR (l:List Cl):Prop:=l.length≤5000∧∀ c∈l,c.sides.length≤1000000
theorem nR.fits {l:List Cl}(h:nR l):di l:=⟨by have:=h.1; omega,fun c hc=>by have:=h.2 c hc; omega⟩
theorem lx {l:List Cl}(h:nR l)(n:Int):(cu l n).sides.length≤1000000:=by
 unfold cu;rw[zg6];cases hc:l[(aG n l.length).toNat]? with
 | none=>simp[AD]
 | some c=>exact h.2 c (zf7 hc)
def wH (l:List Cl):Prop:=l.length≤5001∧∀ c∈l,c.sides.length≤3000000
theorem wH.fits {l:List Cl}(h:wH l):di l:=⟨by have:=h.1; omega,fun c hc=>by have:=h.2 c hc; omega⟩
theorem eg {l:List Cl}(h:nR l)(k:Nat){c:Cl}(hc:c.sides.length≤3000000):wH (l.set k c):=by
 refine⟨by rw[zh8]; have:=h.1; omega,fun d hd=>?_⟩
 rcases List.mem_or_eq_of_mem_set hd with hd | rfl
 ·have:=h.2 d hd; omega
 ·omega
theorem oG {l:List Cl}(h:nR l){c:Cl}(hc:c.sides.length≤3000000):wH (l++[c]):=by
 refine⟨by rw[ze1,ze3]; have:=h.1; omega,fun d hd=>?_⟩
 rcases ze8.1 hd with hd | hd
 ·have:=h.2 d hd; omega
 ·simp at hd; subst hd; omega
theorem xK {p:Prop}[Decidable p]{a b:List Cl}(ha:wH a)(hb:wH b):wH (if p then a else b):=by split <;> assumption
theorem qu {l:List Cl}(h:nR l)(q0 q1 q2:Int):wH (ir l q0 q1 q2):=by
 unfold ir;split
 ·exact⟨by simp,by simp⟩
 ·have hx:=lx h q1;have hy:=lx h q2;generalize cu l q1=x at *;generalize aG q0 13=m;unfold oh
  repeat' with_reducible refine xK ?_ ?_
  ·exact eg h _ (c:=⟨_,_,x.sides⟩) (by show x.sides.length≤_; omega)
  ·exact eg h _ (c:=⟨_,_,x.sides⟩) (by show x.sides.length≤_; omega)
  ·exact⟨by have:=List.length_eraseIdx_le l (aG q1 l.length).toNat; have:=h.1; omega,fun c hc=>by have:=h.2 c (List.mem_of_mem_eraseIdx hc); omega⟩
  ·exact eg h _ (by simp only[hX,zh8]; omega)
  ·exact eg h _ (by simp only[hX,zh8]; omega)
  ·exact eg h _ (by simp only[hX,zh8]; omega)
  ·exact eg h _ (by simp only[hX]; have:=List.length_eraseIdx_le x.sides (cR x q2); omega)
  ·exact eg h _ (by simp only[hX,ze1,ze3]; omega)
  ·exact oG h (c:=x) oM
  ·exact eg h _ (by simp only[hX,ze1]; omega)
  ·exact eg h _ (by simp only[hX,ze2]; omega)
  ·exact oG h (c:=⟨_,_,x.sides⟩) (by show x.sides.length≤_; omega)
  ·exact⟨by have:=h.1; omega,fun c hc=>by have:=h.2 c hc; omega⟩
theorem qv {l:List Cl}(h:nR l)(q0 q1 q2:Int):di (ir l q0 q1 q2):=(qu h q0 q1 q2).fits
set_option maxHeartbeats 2000000
theorem ar.eraseIdx {α β:Type}{R:α→β→Prop}:∀ {l:List α} {rs:List β} (k:Nat),ar R l rs→ar R (l.eraseIdx k) (rs.eraseIdx k)
 | [],[],_,_=>trivial
 | _::_,_::_,0,h=>h.2
 | _::_,_::_,k+1,h=>⟨h.1,ar.eraseIdx k h.2⟩
 | [],_::_,_,h=>h.elim
 | _::_,[],_,h=>h.elim
def iL (l:List aj)(i:Nat):List aj:=(l.take i).map wQ++l.drop i
theorem ka (l:List aj)(i:Nat)(h:i≤l.length):(iL l i).length=l.length:=by simp[iL]; omega
theorem vT {l:List aj}{i:Nat}(h:i<l.length):(iL l i)[i]?=some l[i]:=by
 unfold iL;have h1:l.drop i=l[i]::l.drop (i+1):=zg2 h;rw[h1];exact uw (by simp; omega)
theorem vS {l:List aj}{i:Nat}(h:i<l.length):(iL l i).set i (wQ l[i])=iL l (i+1):=by
 unfold iL;have h1:l.drop i=l[i]::l.drop (i+1):=zg2 h;have h2:l.take (i+1)=l.take i++[l[i]]:=tS h;rw[h2,h1,zg1,qi (by simp; omega),zg4];rfl
theorem j6 (E:World)(g:PH)(s:Own)(v:Value)(l:List Cl)(q0 q1 q2:Int)(hv:au g v l)(hf:di l) :
  Ctr Tryz.prog E 22 #[.agg #[v],.agg #[vi q0,vi q1,vi q2]] g s (fun r g' s'=>s=s'∧Le g g'∧∃ x,r = .agg #[x]∧au g' x (ir l q0 q1 q2)):=by
 obtain ⟨p,c,rfl⟩:=hv.form;have hll:=hf.1;refine za9 (args:=[.agg #[.slice p l.length c],.agg #[vi q0,vi q1,vi q2]]) func22 I ntmps22 (bE I) ?_;refine rZ (bW (bO I) fun b2=>?_);refine bW (bO I) fun b3=>?_;refine bW (aL zk6) fun b4=>?_;refine tZ (rZ (lK (qV 2 bh az I I I) (lW (cL call45 I (xN E g _ _ l hv hf)) ?_)));rintro _ _ _ ⟨rfl,u,rs,rfl,hO,rfl⟩;have el:=hO.length;refine zc8 fun ⟨w0,hw0⟩=>?_;obtain ⟨q,d,rfl⟩:=ag (i:=0) hw0 rfl;clear hw0 w0;refine bW (aL zk6) fun b5=>?_;refine oZ (sK 0 az I I I I I sB) ?_;refine tZ (sQ (sQ ?_));refine SC.to (fun w hw=>hw) (g':=g) (s':=pt b5 (.cells #[.slice q rs.length d] 30 (0,0))::rowA encCell 63 (.slice q rs.length d) rs::(ib l rs++(pt b4 (.cells #[.slice none 0 0] 30 (0,0))::pt b3 (.cells #[vi q0,vi q1,vi q2] 35 (0,0))::pt b2 (.cells #[.slice p l.length c] 30 (0,0))::s))) ?_;refine rG (lU (fA cJ I bQ I) (lK (qL (v:=.slice q rs.length d) dI I (cO 0 I I)) (lU (eN aN I) (yE I (tZ ?_)))));refine iP I (fun h0=>?_) (fun h0=>?_)
 ·have hl0:l=[]:=ze9 oM;subst hl0;have hr0:rs=[]:=ze9 oM;subst hr0;refine sQ ?_;refine SC.to (fun w hw=>hw) (g':=g) (s':=pt b5 (.cells #[.slice q 0 d] 30 (0,0))::rowA encCell 63 (.slice q 0 d) []::(pt b4 (.cells #[.slice none 0 0] 30 (0,0))::pt b3 (.cells #[vi q0,vi q1,vi q2] 35 (0,0))::pt b2 (.cells #[.slice p ([]:List Cl).length c] 30 (0,0))::s)) ?_;refine rG (lU (iB jA zT3 I I dC dC) (lK (qL (v:=vi q1) iT3 I (cO 3 I I)) (lU (za1 I (buildD63 _)) (lW (bS sty28 I I I (ab ⟨I,trivial⟩) dC) ?_))));rintro _ _ _ ⟨b21,rfl,rfl,rfl⟩;refine zb3 fun g1 hle1 hb21=>?_;refine lU (za1 I (build30 _ I)) (oZ (sK 2 az I I I I I sB) ?_);refine tZ (rE (tR ?_));exact ST.retCD 2 s (.inl I) results22 I bh az I I uR ⟨I,hle1,_,I,[⟨q1,0,⟨none,0,0⟩⟩],SlA.lit hb21 I I,⟨I,I,zb8 _ _⟩,trivial⟩
 ·have hpos:0<l.length:=oM;obtain ⟨hk1,hk2⟩:=nz q1 l.length hpos oM;have hsp0:ir l q0 q1 q2=oh (aG q0 13) l (aG q1 l.length).toNat (cu l q1) q2 (cR (cu l q1) q2):=by unfold ir; rw[zf5 oM]
  rw[hsp0];obtain ⟨A,x,B,RA,rx,RB,hl,hr,hA,hRA,hOA,hOx,hOB⟩:=ar.split hO hk2;have hpx:cu l q1=x:=by
   unfold cu;rw[zg6,hl] at *;rw[uw hA];rfl
  rw[hpx];have hmk:aG q1 (rs.length:Int)=(((aG q1 l.length).toNat:Nat):Int):=by rw[← el]; exact hk1
  generalize (aG q1 l.length).toNat=k at *;obtain ⟨xi,xd,xp,xn,xc⟩:=rx;obtain ⟨e1,e2,e3⟩:=hOx;dsimp only at e1 e2 e3;subst e1;subst e2;subst e3;have hgr:rs[k]?=some (⟨x.id,x.dim,⟨xp,x.sides.length,xc⟩⟩:Rc):=by rw[hr]; exact uw hRA
  have hkr:k<rs.length:=oM;have hxl:x.sides.length<1099511627776:=hf.2 x (by rw[hl]; simp);refine SC.freezeBut' hl hr hOA hOB fun g1 hle1 hAR hBR=>?_;refine zc9 fun ⟨w0,hw0⟩=>?_;obtain ⟨bu,cap,hbu⟩:=aY (i:=0) hw0 rfl oM;obtain ⟨rfl,rfl⟩:q=some ⟨bu,0,none⟩∧d=cap:=by injection hbu with h1 _ h2; exact⟨h1,h2⟩
  clear hw0 w0 hbu;have hdc:d=d:=rfl;refine SC.to (fun w hw=>hw) (g':=g1) (s':=rowA encCell 63 (.slice (some ⟨bu,0,none⟩) rs.length d) rs::rowA encSide 87 (.slice xp x.sides.length xc) x.sides::pt b5 (.cells #[(.slice (some ⟨bu,0,none⟩) rs.length d)] 30 (0,0))::pt b4 (.cells #[.slice none 0 0] 30 (0,0))::pt b3 (.cells #[vi q0,vi q1,vi q2] 35 (0,0))::pt b2 (.cells #[.slice p l.length c] 30 (0,0))::s) ?_;obtain ⟨cap,hcap⟩:∃ cap,cap=d:=⟨_,rfl⟩;rw[← hcap];have hfin:∀ g' x' r',Le g1 g'→ao g' x' r'→ar (ao g') (l.set k x') (rs.set k r'):=fun g' x' r' hle hx'=>by
   rw[hl,hr,qi hA,qi hRA];exact (hAR.mono fun _ _=>ao.mono hle).append ⟨hx',hBR.mono fun _ _=>ao.mono hle⟩
  have hfin0:∀ g' x',Le g1 g'→ao g' x' (⟨x.id,x.dim,⟨xp,x.sides.length,xc⟩⟩:Rc)→ar (ao g') (l.set k x') rs:=fun g' x' hle hx'=>by
   rw[hl,hr,qi hA];exact (hAR.mono fun _ _=>ao.mono hle).append ⟨hx',hBR.mono fun _ _=>ao.mono hle⟩
  have hfinA:∀ g',Le g1 g'→ao g' x (⟨x.id,x.dim,⟨xp,x.sides.length,xc⟩⟩:Rc)→ar (ao g') l rs:=fun g' hle hx'=>by
   rw[hl,hr];exact (hAR.mono fun _ _=>ao.mono hle).append ⟨hx',hBR.mono fun _ _=>ao.mono hle⟩
  have hpick:∀ y:Int,∃ (kk:Nat) (yi yd:Int) (yp:Option Addr) (yc:Nat),aG y (rs.length:Int)=((kk:Nat):Int)∧kk<rs.length∧rs[kk]?=some ⟨yi,yd,⟨yp,(cu l y).sides.length,yc⟩⟩∧yi=(cu l y).id∧(cu l y).sides.length<1099511627776 ∧
    (((cu l y)=x∧yp=xp∧yc=xc)∨SlA encSide g1 (.slice yp (cu l y).sides.length yc) (cu l y).sides):=fun y=>by
   obtain ⟨h1,h2⟩:=nz y l.length hpos oM;have hg:l[(aG y l.length).toNat]?=some (cu l y):=by
    unfold cu;rw[zg6,gE h2];rfl
   rw[el] at h1;refine⟨(aG y l.length).toNat,?_⟩;rw[el] at *;generalize (aG y rs.length).toNat=kk at *;generalize cu l y=cy at *;have hm:cy∈l:=zf7 hg;obtain ⟨ry,hry⟩:∃ ry,rs[kk]?=some ry:=⟨_,gE h2⟩;have hoy:=hO.get hg hry;obtain ⟨yi,yd,yp,yn,yc⟩:=ry;obtain ⟨f1,f2,f3⟩:=hoy;dsimp only at f1 f2 f3;subst f3;refine⟨yi,yd,yp,yc,h1,h2,hry,f1,hf.2 _ hm,?_⟩;rw[hl] at hg;rw[hr] at hry;by_cases hlt:kk<k
   ·rw[zg7 oM] at hg hry;exact .inr (hAR.get hg hry).2.2
   ·rw[zg8 oM] at hg hry;rw[hA] at hg;rw[hRA] at hry;cases hd:kk - k with
    | zero =>
     rw[hd] at hg hry;simp at hg hry;exact .inl ⟨hg.symm,hry.2.2.1.symm,hry.2.2.2.2.symm⟩
    | succ t =>
     rw[hd] at hg hry;simp at hg hry;exact .inr (hBR.get hg hry).2.2
  clear hO hpx hsp0 hdc;have hj1:0<x.sides.length→aG q2 (x.sides.length:Int)=((((cR x q2):Nat)):Int)∧(cR x q2)<x.sides.length:=fun h=>by
   unfold cR;rw[zf6 h];exact nz q2 x.sides.length h oM
  refine kP (tN (rZ (lU (iB jA zT3 I I dC dC) (lK (qL (v:=vi q1) iT3 I (cO 4 I I)) (lU (fA cJ I bQ I) (lK (qL (v:=(.slice (some ⟨bu,0,none⟩) rs.length cap)) dI I (cO 2 I I)) (lU (eN aN I) (lW (cL dn I (ai E g1 _ q1 rs.length oM)) ?_))))))));rintro _ _ _ ⟨rfl,rfl,rfl⟩;rw[hmk];refine aT I (rZ (lU (fA cJ I bQ I) (lK (qL (v:=(.slice (some ⟨bu,0,none⟩) rs.length cap)) dI I (cO 2 I I)) (lM I (lU (iA aN aC I I I oM sL) (aT I (rZ (lU (iB jA zT3 I I dC dC) (lK (qL (v:=vi q2) iT3 I (cO 4 I I)) (aT I (rZ (aT I ?_))))))))))));refine SC.cut (ι:=Unit) (fun _=>[(2,pp b2 0),(3,pp b3 0),(4,pp b4 0),(5,pp b5 0),(6,vi (k:Nat)),(7,ki (.slice (some ⟨bu,0,none⟩) rs.length cap) (k * 3)),(8,vi q2),(9,vi ((cR x q2):Nat))]) (fun _=>g1) (fun _=>rowA encCell 63 (.slice (some ⟨bu,0,none⟩) rs.length cap) rs::rowA encSide 87 (.slice xp x.sides.length xc) x.sides::pt b5 (.cells #[(.slice (some ⟨bu,0,none⟩) rs.length cap)] 30 (0,0))::pt b4 (.cells #[.slice none 0 0] 30 (0,0))::pt b3 (.cells #[vi q0,vi q1,vi q2] 35 (0,0))::pt b2 (.cells #[.slice p l.length c] 30 (0,0))::s) (fun _=>True) ?_ ?_
  ·refine sW I (lU (nC I) (lU (fA am I a7 I) (lK (aZ (e:=encCell) (a:=(⟨x.id,x.dim,⟨xp,x.sides.length,xc⟩⟩:Rc)) (j:=k) (o:=2) (u:=(.slice xp x.sides.length xc)) bT I (zb5 0 I) hgr I) (lU (eN bJ I) (lU (gR I I) (tZ ?_))))));refine iP I (fun hsp=>?_) (fun hsp=>?_)
   ·refine rG (lM I (lM I (lU (nC I) (lU (fA am I a7 I) (lK (aZ (e:=encCell) (a:=(⟨x.id,x.dim,⟨xp,x.sides.length,xc⟩⟩:Rc)) (j:=k) (o:=2) (u:=(.slice xp x.sides.length xc)) bT I (zb5 0 I) hgr I) (lU (eN bJ I) (lW (cL dn I (ai E g1 _ q2 x.sides.length oM)) ?_)))))));rintro _ _ _ ⟨rfl,rfl,rfl⟩;rw[(hj1 oM).1];refine lA I (nL ?_);exact za7 () sB I I trivial
   ·have hj0:(cR x q2)=0:=by unfold cR; rw[zf5 oM]
    rw[hj0];refine kP ?_;exact za7 () sB I I trivial
  rintro ⟨⟩ -;try dsimp only
  have hm13:=aR q0 13 dC dC;have hj2:∀ h:0<x.sides.length,x.sides[(cR x q2)]?=some (x.sides.getD (cR x q2) pX):=fun h=>by
   rw[zg6,gE (hj1 h).2]; rfl
  have hnil:¬ (x.sides.length:Int)>0→x.sides=[]:=fun h=>ze9 oM;refine SC.cut (ι:=PH×Value) (fun _=>[(2,pp b2 0),(4,pp b4 0),(5,pp b5 0)]) (fun i=>i.1) (fun i=>pt b5 (.cells #[i.2] 30 (0,0))::pt b4 (.cells #[.slice none 0 0] 30 (0,0))::pt b3 (.cells #[vi q0,vi q1,vi q2] 35 (0,0))::pt b2 (.cells #[.slice p l.length c] 30 (0,0))::s) (fun i=>Le g1 i.1∧au i.1 i.2 (oh (aG q0 13) l k x q2 (cR x q2))) ?_ ?_
  ·rcases (by omega:aG q0 13=0∨aG q0 13=1∨aG q0 13=2∨aG q0 13=3∨aG q0 13=4∨aG q0 13=5∨aG q0 13=6∨aG q0 13=7∨aG q0 13=8∨aG q0 13=9∨aG q0 13=10∨aG q0 13=11∨aG q0 13=12) with hm | hm | hm | hm | hm | hm | hm | hm | hm | hm | hm | hm | hm
   ·have hr9:=aR q2 9 dC dC;refine rZ (lU (iB jA zT3 I I dC dC) (lK (qL (v:=vi q0) iT3 I (cO 4 I I)) (lW (cL dn I (ai E g1 _ q0 13 dC)) ?_)));rintro _ _ _ ⟨rfl,rfl,rfl⟩;rw[hm];refine tZ (bK (rZ (yE I (aT I (cT I (rG (lM I (lM I (lW (cL dn I (ai E g1 _ q2 9 dC)) ?_)))))))));rintro _ _ _ ⟨rfl,rfl,rfl⟩;refine lU (sU I I oM) (lU (nC I) (lU (fA am I zT3 I) (oZ (SO.partA (e:=encCell) (a:=(⟨x.id,x.dim,⟨xp,x.sides.length,xc⟩⟩:Rc)) (j:=k) (o:=0) 0 ⟨aG q2 9 - 1,x.dim,⟨xp,x.sides.length,xc⟩⟩ zT3 I I I hgr I I dC I) (nL (bN (fT fun ga hlea hsa=>?_))))));refine fT fun gb hleb hsb=>?_;exact za7 (gb,(.slice (some ⟨bu,0,none⟩) rs.length cap)) sB I I ⟨hlea.trans hleb,_,za3 (e:=encCell) hsa hleb,hfin gb _ _ (hlea.trans hleb) ⟨I,I,hsb⟩⟩
   ·have hr12:=aR q2 12 dC dC;refine rZ (lU (iB jA zT3 I I dC dC) (lK (qL (v:=vi q0) iT3 I (cO 4 I I)) (lW (cL dn I (ai E g1 _ q0 13 dC)) ?_)));rintro _ _ _ ⟨rfl,rfl,rfl⟩;rw[hm];refine tZ (bK (rZ (yE I (aT I (cF I (rZ (yE I (aT I (cT I (rG (lM I (lM I (lW (cL dn I (ai E g1 _ q2 12 dC)) ?_)))))))))))));rintro _ _ _ ⟨rfl,rfl,rfl⟩;refine lU (sU I I oM) (lU (nC I) (lU (fA am I zT3 I) (oZ (SO.partA (e:=encCell) (a:=(⟨x.id,x.dim,⟨xp,x.sides.length,xc⟩⟩:Rc)) (j:=k) (o:=1) 0 ⟨x.id,aG q2 12 - 1,⟨xp,x.sides.length,xc⟩⟩ zT3 I I I hgr I I dC I) (nL (bN (fT fun ga hlea hsa=>?_))))));refine fT fun gb hleb hsb=>?_;exact za7 (gb,(.slice (some ⟨bu,0,none⟩) rs.length cap)) sB I I ⟨hlea.trans hleb,_,za3 (e:=encCell) hsa hleb,hfin gb _ _ (hlea.trans hleb) ⟨I,I,hsb⟩⟩
   ·refine zc9 fun ⟨w0,hw0⟩=>?_;have hcapr:rs.length≤cap:=(by obtain ⟨_,_,_,h1,h2⟩:=nb (i:=0) hw0 rfl (by omega:0<rs.length); omega);clear hw0 w0;refine rZ (lU (iB jA zT3 I I dC dC) (lK (qL (v:=vi q0) iT3 I (cO 4 I I)) (lW (cL dn I (ai E g1 _ q0 13 dC)) ?_)));rintro _ _ _ ⟨rfl,rfl,rfl⟩;rw[hm];refine tZ (bK (rZ (yE I (aT I (cF I (rZ (yE I (aT I (cF I (rZ (yE I (aT I (cT I ?_)))))))))))));refine dW [9,10,11] [(0,2),(1,1),(2,2),(3,2),(4,2),(5,1),(6,2),(7,2),(8,2),(9,0),(10,0),(11,0)] zd8 kR ?_;refine pU I (fA cJ I bQ I) (pK I (qL (v:=(.slice (some ⟨bu,0,none⟩) rs.length cap)) dI I (cO 2 I I)) (yM I (pU I (SU.sliceH aN aC I I oM oM) (pU I (fA cJ I bQ I) (pK I (qL (v:=(.slice (some ⟨bu,0,none⟩) rs.length cap)) dI I (cO 2 I I)) (yM I (pU I (aD I I oM) (pU I (SU.eq (v':=sliced (some ⟨bu,0,none⟩) (k+1) rs.length cap 3) (SU.sliceL aN aC I I oM oM) (by rw[show ((k:Int)+1).toNat=k+1 by omega])) ?_))))))));refine SP.o I (SO.cutA (j:=k) (n:=rs.length) (c:=cap) (p:=some ⟨bu,0,none⟩) (e:=encCell) 0 sty28 I I I I hkr) dC (.inl dC) ?_;rintro _ _ _ ⟨rfl,rfl,rfl⟩;refine oU I (fA cJ I bQ I) dC (.inl dC) (SP.on I (sK 2 bQ I I I I I sB) (.inl dC) ?_);rintro _ _ _ ⟨rfl,rfl⟩;refine pN (bN (fT fun ga hlea hsa=>?_));refine fT fun gb hleb hsb=>?_;exact za7 (gb,(.slice (some ⟨bu,0,none⟩) (rs.length - 1) cap)) sB I I ⟨hlea.trans hleb,_,za3 (e:=encCell) hsa hleb,ar.eraseIdx k (hfinA gb (hlea.trans hleb) ⟨I,I,hsb⟩)⟩
   ·refine rZ (lU (iB jA zT3 I I dC dC) (lK (qL (v:=vi q0) iT3 I (cO 4 I I)) (lW (cL dn I (ai E g1 _ q0 13 dC)) ?_)));rintro _ _ _ ⟨rfl,rfl,rfl⟩;rw[hm];refine tZ (bK (rZ (yE I (aT I (cF I (rZ (yE I (aT I (cF I (rZ (yE I (aT I (cF I (rZ (yE I (aT I ?_))))))))))))))));refine cT I (sW I (lU (nC I) (lU (fA am I a7 I) (lK (aZ (e:=encCell) (a:=(⟨x.id,x.dim,⟨xp,x.sides.length,xc⟩⟩:Rc)) (j:=k) (o:=2) (u:=(.slice xp x.sides.length xc)) bT I (zb5 0 I) hgr I) (lU (eN bJ I) (lU (gR I I) (tZ ?_)))))));refine iP I (fun hsl=>?_) (fun hsl=>?_)
    ·refine zc9 fun ⟨w0,hw0⟩=>?_;obtain ⟨bx,cx,hbx⟩:=aY (i:=1) hw0 rfl oM;obtain ⟨rfl,rfl⟩:xp=some ⟨bx,0,none⟩∧xc=cx:=by injection hbx with h1 _ h2; exact⟨h1,h2⟩
     clear hw0 w0 hbx;obtain ⟨hj,hjl⟩:=hj1 oM;have hgz:=hj2 oM;have hr4:=aR q2 4 dC dC;refine dW [10] [(0,2),(1,2),(2,2),(3,1),(4,2),(5,2),(6,0),(7,2),(8,2),(9,2),(10,0)] zd8 kR ?_;refine yM I (pU I (nC I) (pU I (fA am I a7 I) (pK I (aZ (e:=encCell) (a:=(⟨x.id,x.dim,⟨some ⟨bx,0,none⟩,x.sides.length,xc⟩⟩:Rc)) (j:=k) (o:=2) (u:=(.slice (some ⟨bx,0,none⟩) x.sides.length xc)) bT I (zb5 0 I) hgr I) (yM I (yM I (SP.o I (cL dn I (ai E g1 _ q2 4 dC)) dC (.inr iR) ?_))))));rintro _ _ _ ⟨rfl,rfl,rfl⟩;refine pU I (sU I I oM) (pU I (iA bJ bI I I I oM sL) (pU I (fC cQ I zT3 I I) (SP.on I (SO.partA (e:=encSide) (a:=(x.sides.getD (cR x q2) pX)) (j:=(cR x q2)) (o:=1) 1 ⟨(x.sides.getD (cR x q2) pX).cell,aG q2 4 - 2⟩ zT3 I I I hgz I I dC I) (.inl dC) ?_)));rintro _ _ _ ⟨rfl,rfl⟩;refine pN (bN (fT fun ga hlea hsa=>?_));refine fT fun gb hleb hsb=>?_;exact za7 (gb,(.slice (some ⟨bu,0,none⟩) rs.length cap)) sB I I ⟨hlea.trans hleb,_,za3 (e:=encCell) hsa hleb,hfin0 gb _ (hlea.trans hleb) ⟨I,I,hsb⟩⟩
    ·have hsn:=hnil hsl;refine kP (bN (fT fun ga hlea hsa=>?_));refine fT fun gb hleb hsb=>?_;exact za7 (gb,(.slice (some ⟨bu,0,none⟩) rs.length cap)) sB I I ⟨hlea.trans hleb,_,za3 (e:=encCell) hsa hleb,hfin0 gb _ (hlea.trans hleb) ⟨I,I,by rw[hsn] at hsb ⊢; exact hsb⟩⟩
   ·refine rZ (lU (iB jA zT3 I I dC dC) (lK (qL (v:=vi q0) iT3 I (cO 4 I I)) (lW (cL dn I (ai E g1 _ q0 13 dC)) ?_)));rintro _ _ _ ⟨rfl,rfl,rfl⟩;rw[hm];refine tZ (bK (rZ (yE I (aT I (cF I (rZ (yE I (aT I (cF I (rZ (yE I (aT I (cF I (rZ (yE I (aT I ?_))))))))))))))));refine cF I (rZ (yE I (aT I (cT I (sW I (lU (nC I) (lU (fA am I a7 I) (lK (aZ (e:=encCell) (a:=(⟨x.id,x.dim,⟨xp,x.sides.length,xc⟩⟩:Rc)) (j:=k) (o:=2) (u:=(.slice xp x.sides.length xc)) bT I (zb5 0 I) hgr I) (lU (eN bJ I) (lU (gR I I) (tZ ?_)))))))))));refine iP I (fun hsl=>?_) (fun hsl=>?_)
    ·refine zc9 fun ⟨w0,hw0⟩=>?_;obtain ⟨bx,cx,hbx⟩:=aY (i:=1) hw0 rfl oM;obtain ⟨rfl,rfl⟩:xp=some ⟨bx,0,none⟩∧xc=cx:=by injection hbx with h1 _ h2; exact⟨h1,h2⟩
     clear hw0 w0 hbx;obtain ⟨hj,hjl⟩:=hj1 oM;have hgz:=hj2 oM;refine dW [16] [(0,2),(1,2),(2,2),(3,1),(4,2),(5,2),(6,2),(7,2),(8,1),(9,2),(10,2),(11,2),(12,1),(13,2),(14,2),(15,2),(16,0)] zd8 kR ?_;refine yM I (pU I (nC I) (pU I (fA am I a7 I) (pK I (aZ (e:=encCell) (a:=(⟨x.id,x.dim,⟨some ⟨bx,0,none⟩,x.sides.length,xc⟩⟩:Rc)) (j:=k) (o:=2) (u:=(.slice (some ⟨bx,0,none⟩) x.sides.length xc)) bT I (zb5 0 I) hgr I) (yM I (yM I (pU I (nC I) (pU I (fA am I a7 I) (pK I (aZ (e:=encCell) (a:=(⟨x.id,x.dim,⟨some ⟨bx,0,none⟩,x.sides.length,xc⟩⟩:Rc)) (j:=k) (o:=2) (u:=(.slice (some ⟨bx,0,none⟩) x.sides.length xc)) bT I (zb5 0 I) hgr I) (yM I (pU I (iA bJ bI I I I oM sL) (pU I (fC cQ I zT3 I I) (pK I (aZ (e:=encSide) (a:=(x.sides.getD (cR x q2) pX)) (j:=(cR x q2)) (o:=1) (u:=vi (x.sides.getD (cR x q2) pX).sign) iT3 I (zb5 1 I) hgz I) (pU I (SU.neg I) (pU I (iA bJ bI I I I oM sL) (pU I (fC cQ I zT3 I I) (SP.on I (SO.partA (e:=encSide) (a:=(x.sides.getD (cR x q2) pX)) (j:=(cR x q2)) (o:=1) 1 (wQ (x.sides.getD (cR x q2) pX)) zT3 I I I hgz I I dC I) (.inl dC) ?_))))))))))))))));rintro _ _ _ ⟨rfl,rfl⟩;refine pN (bN (fT fun ga hlea hsa=>?_));refine fT fun gb hleb hsb=>?_;exact za7 (gb,(.slice (some ⟨bu,0,none⟩) rs.length cap)) sB I I ⟨hlea.trans hleb,_,za3 (e:=encCell) hsa hleb,hfin0 gb _ (hlea.trans hleb) ⟨I,I,hsb⟩⟩
    ·have hsn:=hnil hsl;refine kP (bN (fT fun ga hlea hsa=>?_));refine fT fun gb hleb hsb=>?_;exact za7 (gb,(.slice (some ⟨bu,0,none⟩) rs.length cap)) sB I I ⟨hlea.trans hleb,_,za3 (e:=encCell) hsa hleb,hfin0 gb _ (hlea.trans hleb) ⟨I,I,by rw[hsn] at hsb ⊢; exact hsb⟩⟩
   ·refine rZ (lU (iB jA zT3 I I dC dC) (lK (qL (v:=vi q0) iT3 I (cO 4 I I)) (lW (cL dn I (ai E g1 _ q0 13 dC)) ?_)));rintro _ _ _ ⟨rfl,rfl,rfl⟩;rw[hm];refine tZ (bK (rZ (yE I (aT I (cF I (rZ (yE I (aT I (cF I (rZ (yE I (aT I (cF I (rZ (yE I (aT I ?_))))))))))))))));refine cF I (rZ (yE I (aT I (cF I (rZ (yE I (aT I (cT I (sW I (lU (nC I) (lU (fA am I a7 I) (lK (aZ (e:=encCell) (a:=(⟨x.id,x.dim,⟨xp,x.sides.length,xc⟩⟩:Rc)) (j:=k) (o:=2) (u:=(.slice xp x.sides.length xc)) bT I (zb5 0 I) hgr I) (lU (eN bJ I) (lU (gR I I) (tZ ?_)))))))))))))));refine iP I (fun hsl=>?_) (fun hsl=>?_)
    ·refine zc9 fun ⟨w0,hw0⟩=>?_;obtain ⟨bx,cx,hbx⟩:=aY (i:=1) hw0 rfl oM;obtain ⟨rfl,rfl⟩:xp=some ⟨bx,0,none⟩∧xc=cx:=by injection hbx with h1 _ h2; exact⟨h1,h2⟩
     clear hw0 w0 hbx;obtain ⟨hj,hjl⟩:=hj1 oM;have hgz:=hj2 oM;obtain ⟨kk,yi,yd,yp,yc,hkk,hkl,hgy,hyi,_,_⟩:=hpick (IntKind.i64.wrap (q2.tdiv 3));refine dW [18] [(0,2),(1,2),(2,2),(3,1),(4,2),(5,2),(6,1),(7,2),(8,2),(9,2),(10,1),(11,2),(12,0),(13,2),(14,2),(15,1),(16,2),(17,2),(18,0)] zd8 kR ?_;refine yM I (pU I (nC I) (pU I (fA am I a7 I) (pK I (aZ (e:=encCell) (a:=(⟨x.id,x.dim,⟨some ⟨bx,0,none⟩,x.sides.length,xc⟩⟩:Rc)) (j:=k) (o:=2) (u:=(.slice (some ⟨bx,0,none⟩) x.sides.length xc)) bT I (zb5 0 I) hgr I) (yM I (pU I (fA cJ I bQ I) (pK I (qL (v:=(.slice (some ⟨bu,0,none⟩) rs.length cap)) dI I (cO 2 I I)) (yM I (pU I (SU.quo I I dC) (pU I (fA cJ I bQ I) (pK I (qL (v:=(.slice (some ⟨bu,0,none⟩) rs.length cap)) dI I (cO 2 I I)) (pU I (eN aN I) (SP.o I (cL dn I (ai E g1 _ _ rs.length oM)) dC (.inr iR) ?_))))))))))));rintro _ _ _ ⟨rfl,rfl,rfl⟩;rw[hkk];refine pU I (iA aN aC I I I oM sL) (pU I (fC am I zT3 I I) (pK I (aZ (e:=encCell) (j:=kk) (o:=0) (u:=vi yi) iT3 I (zb5 0 I) hgy I) (pU I (iA bJ bI I I I oM sL) (pU I (fC cQ I zT3 I I) (SP.on I (SO.partA (e:=encSide) (a:=(x.sides.getD (cR x q2) pX)) (j:=(cR x q2)) (o:=0) 1 ⟨yi,(x.sides.getD (cR x q2) pX).sign⟩ zT3 I I I hgz I I dC I) (.inl dC) ?_)))));rintro _ _ _ ⟨rfl,rfl⟩;refine pN (bN (fT fun ga hlea hsa=>?_));refine fT fun gb hleb hsb=>?_;rw[hyi] at hsb;exact za7 (gb,(.slice (some ⟨bu,0,none⟩) rs.length cap)) sB I I ⟨hlea.trans hleb,_,za3 (e:=encCell) hsa hleb,hfin0 gb _ (hlea.trans hleb) ⟨I,I,hsb⟩⟩
    ·have hsn:=hnil hsl;refine kP (bN (fT fun ga hlea hsa=>?_));refine fT fun gb hleb hsb=>?_;exact za7 (gb,(.slice (some ⟨bu,0,none⟩) rs.length cap)) sB I I ⟨hlea.trans hleb,_,za3 (e:=encCell) hsa hleb,hfin0 gb _ (hlea.trans hleb) ⟨I,I,by rw[hsn] at hsb ⊢; exact hsb⟩⟩
   ·refine rZ (lU (iB jA zT3 I I dC dC) (lK (qL (v:=vi q0) iT3 I (cO 4 I I)) (lW (cL dn I (ai E g1 _ q0 13 dC)) ?_)));rintro _ _ _ ⟨rfl,rfl,rfl⟩;rw[hm];refine tZ (bK (rZ (yE I (aT I (cF I (rZ (yE I (aT I (cF I (rZ (yE I (aT I (cF I (rZ (yE I (aT I ?_))))))))))))))));refine cF I (rZ (yE I (aT I (cF I (rZ (yE I (aT I (cF I (rZ (yE I (aT I (cT I (sW I (lU (nC I) (lU (fA am I a7 I) (lK (aZ (e:=encCell) (a:=(⟨x.id,x.dim,⟨xp,x.sides.length,xc⟩⟩:Rc)) (j:=k) (o:=2) (u:=(.slice xp x.sides.length xc)) bT I (zb5 0 I) hgr I) (lU (eN bJ I) (lU (gR I I) ?_))))))))))))))))));refine tZ ?_;refine iP I (fun hsl=>?_) (fun hsl=>?_)
    ·obtain ⟨hj,hjl⟩:=hj1 oM;refine zc9 fun ⟨w0,hw0⟩=>?_;have hcapx:x.sides.length≤xc:=(by obtain ⟨_,_,_,h1,h2⟩:=nb (i:=1) hw0 rfl (by omega:0<x.sides.length); omega);clear hw0 w0;refine dW [14,15,16,17] [(0,2),(1,2),(2,2),(3,2),(4,1),(5,2),(6,2),(7,2),(8,2),(9,2),(10,1),(11,2),(12,2),(13,2),(14,0),(15,0),(16,0),(17,0)] zd8 kR ?_;refine yM I (yM I (pU I (nC I) (pU I (fA am I a7 I) (pK I (aZ (e:=encCell) (a:=(⟨x.id,x.dim,⟨xp,x.sides.length,xc⟩⟩:Rc)) (j:=k) (o:=2) (u:=(.slice xp x.sides.length xc)) bT I (zb5 0 I) hgr I) (yM I (pU I (SU.sliceH bJ bI I I oM oM) (yM I (pU I (nC I) (pU I (fA am I a7 I) (pK I (aZ (e:=encCell) (a:=(⟨x.id,x.dim,⟨xp,x.sides.length,xc⟩⟩:Rc)) (j:=k) (o:=2) (u:=(.slice xp x.sides.length xc)) bT I (zb5 0 I) hgr I) (yM I (pU I (aD I I oM) (pU I (SU.eq (v':=sliced xp ((cR x q2)+1) x.sides.length xc 2) (SU.sliceL bJ bI I I oM oM) (by rw[show (((cR x q2):Int)+1).toNat=(cR x q2)+1 by omega])) ?_)))))))))))));refine SP.o I (SO.cutA (j:=(cR x q2)) (n:=x.sides.length) (c:=xc) (p:=xp) (e:=encSide) 1 sty61 I I I I hjl) dC (.inl dC) ?_;rintro _ _ _ ⟨rfl,rfl,rfl⟩;refine oU I (nC I) dC (.inl dC) (oU I (fA am I a7 I) dC (.inl dC) (SP.on I (SO.partA (e:=encCell) (a:=(⟨x.id,x.dim,⟨xp,x.sides.length,xc⟩⟩:Rc)) (j:=k) (o:=2) 0 ⟨x.id,x.dim,⟨xp,x.sides.length - 1,xc⟩⟩ a7 I I I hgr I I dC I) (.inl dC) ?_));rintro _ _ _ ⟨rfl,rfl⟩;refine pN (bN (fT fun ga hlea hsa=>?_));refine fT fun gb hleb hsb=>?_;exact za7 (gb,(.slice (some ⟨bu,0,none⟩) rs.length cap)) sB I I ⟨hlea.trans hleb,_,za3 (e:=encCell) hsa hleb,hfin gb _ _ (hlea.trans hleb) ⟨I,I,hsb⟩⟩
    ·have hsn:=hnil hsl;refine kP (bN (fT fun ga hlea hsa=>?_));refine fT fun gb hleb hsb=>?_;exact za7 (gb,(.slice (some ⟨bu,0,none⟩) rs.length cap)) sB I I ⟨hlea.trans hleb,_,za3 (e:=encCell) hsa hleb,hfin0 gb _ (hlea.trans hleb) ⟨I,I,by rw[hsn] at hsb ⊢; exact hsb⟩⟩
   ·have hr2:=aR q2 2 dC dC;obtain ⟨kk,yi,yd,yp,yc,hkk,hkl,hgy,hyi,_,_⟩:=hpick q2;refine rZ (lU (iB jA zT3 I I dC dC) (lK (qL (v:=vi q0) iT3 I (cO 4 I I)) (lW (cL dn I (ai E g1 _ q0 13 dC)) ?_)));rintro _ _ _ ⟨rfl,rfl,rfl⟩;rw[hm];refine tZ (bK (rZ (yE I (aT I (cF I (rZ (yE I (aT I (cF I (rZ (yE I (aT I (cF I (rZ (yE I (aT I ?_))))))))))))))));refine cF I (rZ (yE I (aT I (cF I (rZ (yE I (aT I (cF I (rZ (yE I (aT I (cF I (rZ (yE I (aT I (cT I ?_))))))))))))))));refine dW [21,22,23,24] [(0,2),(1,2),(2,2),(3,2),(4,1),(5,2),(6,1),(7,2),(8,2),(9,1),(10,2),(15,2),(11,0),(12,2),(13,2),(14,1),(16,0),(17,2),(18,2),(19,2),(20,0),(21,0),(22,0),(23,0),(24,0)] zd8 kR ?_;refine yM I (yM I (pU I (nC I) (pU I (fA am I a7 I) (pK I (aZ (e:=encCell) (a:=(⟨x.id,x.dim,⟨xp,x.sides.length,xc⟩⟩:Rc)) (j:=k) (o:=2) (u:=(.slice xp x.sides.length xc)) bT I (zb5 0 I) hgr I) (pU I (fA cJ I bQ I) (pK I (qL (v:=(.slice (some ⟨bu,0,none⟩) rs.length cap)) dI I (cO 2 I I)) (yM I (pU I (fA cJ I bQ I) (pK I (qL (v:=(.slice (some ⟨bu,0,none⟩) rs.length cap)) dI I (cO 2 I I)) (pU I (eN aN I) (yM I (SP.o I (cL dn I (ai E g1 _ q2 rs.length oM)) dC (.inr iR) ?_))))))))))));rintro _ _ _ ⟨rfl,rfl,rfl⟩;rw[hkk];refine pU I (iA aN aC I I I oM sL) (pU I (fC am I zT3 I I) (pK I (aZ (e:=encCell) (j:=kk) (o:=0) (u:=vi yi) iT3 I (zb5 0 I) hgy I) (SP.o I (cL dn I (ai E g1 _ q2 2 dC)) dC (.inr iR) ?_)));rintro _ _ _ ⟨rfl,rfl,rfl⟩;refine pU I (SU.mul I I oM) (pU I (sU I I oM) (pU I (za1 I (buildS87 _ _)) (SP.o I (bS sty61 I I I (ab sB) dC) dC (.inr iR) ?_)));rintro _ _ _ ⟨b195,rfl,rfl,rfl⟩;refine SP.o I (aP (e:=encSide) 1 ⟨yi,1 - 2 * aG q2 2⟩ sty61 I I I I I oM oM) dC (.inl dC) ?_;rintro v196 _ _ ⟨rfl,rfl⟩;refine zc7 fun ⟨w0,hw0⟩=>?_;obtain ⟨q7,d7,rfl⟩:=ag (i:=1) hw0 rfl;clear hw0 w0;refine oU I (nC I) dC (.inl dC) (oU I (fA am I a7 I) dC (.inl dC) (SP.on I (SO.partA (e:=encCell) (a:=(⟨x.id,x.dim,⟨xp,x.sides.length,xc⟩⟩:Rc)) (j:=k) (o:=2) 0 ⟨x.id,x.dim,⟨q7,(x.sides++[((⟨yi,1 - 2 * aG q2 2⟩):aj)]).length,d7⟩⟩ a7 I I I hgr I I dC I) (.inl dC) ?_));rintro _ _ _ ⟨rfl,rfl⟩;refine pN (bN (fT fun ga hlea hsa=>?_));refine fT fun gb hleb hsb=>?_;exact za7 (gb,(.slice (some ⟨bu,0,none⟩) rs.length cap)) sB I I ⟨hlea.trans hleb,_,za3 (e:=encCell) hsa hleb,hfin gb _ _ (hlea.trans hleb) ⟨I,I,by subst hyi; exact hsb⟩⟩
   ·refine rZ (lU (iB jA zT3 I I dC dC) (lK (qL (v:=vi q0) iT3 I (cO 4 I I)) (lW (cL dn I (ai E g1 _ q0 13 dC)) ?_)));rintro _ _ _ ⟨rfl,rfl,rfl⟩;rw[hm];refine tZ (bK (rZ (yE I (aT I (cF I (rZ (yE I (aT I (cF I (rZ (yE I (aT I (cF I (rZ (yE I (aT I ?_))))))))))))))));refine cF I (rZ (yE I (aT I (cF I (rZ (yE I (aT I (cF I (rZ (yE I (aT I (cF I (rZ (yE I (aT I (cF I (sQ ?_)))))))))))))))));refine rG (yE I (aT I (cT I ?_)));refine dW [6,7,8] [(0,2),(1,1),(2,2),(3,2),(4,1),(5,0),(6,0),(7,0),(8,0)] zd8 kR ?_;refine pU I (fA cJ I bQ I) (pK I (qL (v:=(.slice (some ⟨bu,0,none⟩) rs.length cap)) dI I (cO 2 I I)) (yM I (pU I (nC I) (pK I (eA (e:=encCell) (a:=(⟨x.id,x.dim,⟨xp,x.sides.length,xc⟩⟩:Rc)) (j:=k) eL aC I (zb5 0 I) hgr) (SP.o I (bS sty28 I I I (ab sB) dC) dC (.inr iR) ?_)))));rintro _ _ _ ⟨b206,rfl,rfl,rfl⟩;refine SP.o I (aP (e:=encCell) 0 (⟨x.id,x.dim,⟨xp,x.sides.length,xc⟩⟩:Rc) sty28 I I I I I oM oM) dC (.inl dC) ?_;rintro v207 _ _ ⟨rfl,rfl⟩;refine zc7 fun ⟨w0,hw0⟩=>?_;obtain ⟨q7,d7,rfl⟩:=ag (i:=0) hw0 rfl;clear hw0 w0;refine oU I (fA cJ I bQ I) dC (.inl dC) (SP.on I (sK 2 bQ I I I I I sB) (.inl dC) ?_);rintro _ _ _ ⟨rfl,rfl⟩;refine pN (bN (fT fun ga hlea hsa=>?_));refine fT fun gb hleb hsb=>?_;exact za7 (gb,_) sB I I ⟨hlea.trans hleb,_,za3 (e:=encCell) hsa hleb,(hfinA gb (hlea.trans hleb) ⟨I,I,hsb⟩).append ⟨⟨I,I,hsb⟩,trivial⟩⟩
   ·obtain ⟨kk,yi,yd,yp,yc,hkk,hkl,hgy,hyi,hyl,hyr⟩:=hpick q2;refine rZ (lU (iB jA zT3 I I dC dC) (lK (qL (v:=vi q0) iT3 I (cO 4 I I)) (lW (cL dn I (ai E g1 _ q0 13 dC)) ?_)));rintro _ _ _ ⟨rfl,rfl,rfl⟩;rw[hm];refine tZ (bK (rZ (yE I (aT I (cF I (rZ (yE I (aT I (cF I (rZ (yE I (aT I (cF I (rZ (yE I (aT I ?_))))))))))))))));refine cF I (rZ (yE I (aT I (cF I (rZ (yE I (aT I (cF I (rZ (yE I (aT I (cF I (rZ (yE I (aT I (cF I (sQ ?_)))))))))))))))));refine rG (yE I (aT I (cF I (rZ (yE I (aT I (cT I ?_)))))));refine SC.cut (ι:=Nat) (fun b10=>[(2,pp b2 0),(3,pp b3 0),(4,pp b4 0),(5,pp b5 0),(6,vi (k:Nat)),(7,ki (.slice (some ⟨bu,0,none⟩) rs.length cap) (k * 3)),(8,vi q2),(9,vi ((cR x q2):Nat)),(10,pp b10 0)]) (fun _=>g1) (fun b10=>pt b10 (.cells #[vi yi,vi yd,(.slice yp (cu l q2).sides.length yc)] 63 (0,0))::rowA encCell 63 (.slice (some ⟨bu,0,none⟩) rs.length cap) rs::rowA encSide 87 (.slice xp x.sides.length xc) x.sides::pt b5 (.cells #[(.slice (some ⟨bu,0,none⟩) rs.length cap)] 30 (0,0))::pt b4 (.cells #[.slice none 0 0] 30 (0,0))::pt b3 (.cells #[vi q0,vi q1,vi q2] 35 (0,0))::pt b2 (.cells #[.slice p l.length c] 30 (0,0))::s) (fun _=>True) ?_ ?_
    ·refine SC.drawX [] zd8 kR ?_;refine SX.u (i:=0) I kR (fA cJ I bQ I) dC (SX.q (i:=1) I kR (qL (v:=(.slice (some ⟨bu,0,none⟩) rs.length cap)) dI I (cO 2 I I)) dC (SX.u (i:=2) I kR (mV I) dC (SX.u (i:=3) I kR (fA cJ I bQ I) dC (SX.q (i:=4) I kR (qL (v:=(.slice (some ⟨bu,0,none⟩) rs.length cap)) dI I (cO 2 I I)) dC (SX.u (i:=5) I kR (eN aN I) dC ?_)))))
     repeat' (first
      | (refine SB.o (i:=6) I (cL dn I (ai E g1 _ q2 rs.length oM)) dC (.inr iR) ?_; rintro _ _ _ ⟨rfl,rfl,rfl⟩; rw[hkk]; refine SX.u (i:=7) I kD (iA aN aC I I I oM sL) dC ?_; refine SX.q (i:=8) I kD (eA (e:=encCell) (j:=kk) eL aC I (zb5 0 I) hgy) dC ?_)
      | (refine SB.o (i:=6) I (cL dn I (ai E g1 _ q2 rs.length oM)) dC (.inr iR) ?_; rintro _ _ _ ⟨rfl,rfl,rfl⟩; rw[hkk]; refine SX.u (i:=7) I kD (iA aN aC I I I oM sL) dC ?_; refine SX.q (i:=8) I kD (eA (e:=encCell) (j:=kk) eL aC I (zb5 0 I) hgy) dC ?_)
      | (refine SB.o (i:=9) I (aL zk8) dC (.inr iR) ?_; rintro _ _ _ ⟨b10,rfl,rfl,rfl⟩)
      | (refine SB.on (i:=10) I (sK 0 aC I I I I I sB) (.inr iR) ?_; rintro _ _ _ ⟨rfl,rfl⟩)
      | refine zd3 6 9 kD ?_ ?_
      | refine zd2 9 kD ?_
      | refine zd2 10 kD ?_
      | refine zd2 6 kD ?_
      | (refine SX.nil kD ?_; exact za7 b10 sB I I trivial))
    rintro b10 -;try dsimp only
    have hrd:∀ S:Own,S[2]?=some (rowA encSide 87 (.slice xp x.sides.length xc) x.sides)→Rd g1 S (.slice yp (cu l q2).sides.length yc) ((cu l q2).sides.flatMap encSide.enc):=fun S hS=>by
     rcases hyr with ⟨h1,h2,h3⟩ | h
     ·rw[h1,h2,h3]; exact zb5 2 hS
     ·exact Sl.rd h
    refine dW [7,8,9,10] [(0,2),(1,2),(2,2),(3,2),(4,1),(5,2),(6,1),(7,0),(8,0),(9,0),(10,0)] zd8 kR ?_;refine yM I (yM I (pU I (nC I) (pU I (fA am I a7 I) (pK I (aZ (e:=encCell) (a:=(⟨x.id,x.dim,⟨xp,x.sides.length,xc⟩⟩:Rc)) (j:=k) (o:=2) (u:=(.slice xp x.sides.length xc)) bT I (zb5 1 I) hgr I) (pU I (fA am I a7 I) (pK I (qL (v:=(.slice yp (cu l q2).sides.length yc)) bT I (cO 0 I I)) (SP.o I (SO.appendE (m:=(cu l q2).sides.length) 2 (x.sides++(cu l q2).sides).length ((x.sides++(cu l q2).sides).flatMap encSide.enc) sty61 I I I I I (hrd _ I) (encSide.length _) (encSide.ones _) (by simp) (by simp) (by rw[ze1]; omega) (by rw[ze1]; omega)) dC (.inl dC) ?_)))))));rintro v227 _ _ ⟨rfl,rfl⟩;refine zc7 fun ⟨w0,hw0⟩=>?_;obtain ⟨q7,d7,rfl⟩:=ag (e:=encSide) (l:=x.sides++(cu l q2).sides) (i:=2) hw0 rfl;clear hw0 w0;refine oU I (nC I) dC (.inl dC) (oU I (fA am I a7 I) dC (.inl dC) (SP.on I (SO.partA (e:=encCell) (a:=(⟨x.id,x.dim,⟨xp,x.sides.length,xc⟩⟩:Rc)) (j:=k) (o:=2) 1 ⟨x.id,x.dim,⟨q7,(x.sides++(cu l q2).sides).length,d7⟩⟩ a7 I I I hgr I I dC I) (.inl dC) ?_));rintro _ _ _ ⟨rfl,rfl⟩;refine pN (bN (dR (.cons _ (.refl _)) (fT fun ga hlea hsa=>?_)));refine fT fun gb hleb hsb=>?_;exact za7 (gb,(.slice (some ⟨bu,0,none⟩) rs.length cap)) sB I I ⟨hlea.trans hleb,_,za3 (e:=encCell) hsa hleb,hfin gb _ _ (hlea.trans hleb) ⟨I,I,hsb⟩⟩
   ·refine rZ (lU (iB jA zT3 I I dC dC) (lK (qL (v:=vi q0) iT3 I (cO 4 I I)) (lW (cL dn I (ai E g1 _ q0 13 dC)) ?_)));rintro _ _ _ ⟨rfl,rfl,rfl⟩;rw[hm];refine tZ (bK (rZ (yE I (aT I (cF I (rZ (yE I (aT I (cF I (rZ (yE I (aT I (cF I (rZ (yE I (aT I ?_))))))))))))))));refine cF I (rZ (yE I (aT I (cF I (rZ (yE I (aT I (cF I (rZ (yE I (aT I (cF I (rZ (yE I (aT I (cF I (sQ ?_)))))))))))))))));refine rG (yE I (aT I (cF I (rZ (yE I (aT I (cF I (rZ (yE I (aT I (cT I (rZ (aT I (bK ?_))))))))))))));have hn0:iL x.sides 0=x.sides:=by simp[iL]
    refine SC.to (fun w hw=>?_) (g':=g1) (s':=rowA encCell 63 (.slice (some ⟨bu,0,none⟩) rs.length cap) rs::rowA encSide 87 (.slice xp x.sides.length xc) (iL x.sides 0)::pt b5 (.cells #[(.slice (some ⟨bu,0,none⟩) rs.length cap)] 30 (0,0))::pt b4 (.cells #[.slice none 0 0] 30 (0,0))::pt b3 (.cells #[vi q0,vi q1,vi q2] 35 (0,0))::pt b2 (.cells #[.slice p l.length c] 30 (0,0))::s) ?_
    ·rw[hn0]; exact hw
    refine oP (ι:=Nat) (fun i=>[(2,pp b2 0),(3,pp b3 0),(4,pp b4 0),(5,pp b5 0),(6,vi (k:Nat)),(7,ki (.slice (some ⟨bu,0,none⟩) rs.length cap) (k * 3)),(8,vi q2),(9,vi ((cR x q2):Nat)),(11,vi i)]) (fun _=>g1) (fun i=>rowA encCell 63 (.slice (some ⟨bu,0,none⟩) rs.length cap) rs::rowA encSide 87 (.slice xp x.sides.length xc) (iL x.sides i)::pt b5 (.cells #[(.slice (some ⟨bu,0,none⟩) rs.length cap)] 30 (0,0))::pt b4 (.cells #[.slice none 0 0] 30 (0,0))::pt b3 (.cells #[vi q0,vi q1,vi q2] 35 (0,0))::pt b2 (.cells #[.slice p l.length c] 30 (0,0))::s) (fun i=>i≤x.sides.length) (fun i=>x.sides.length - i) 0 sB I I (zf2 _) ?_;rintro i hi;refine sQ (sW I (lM I (lU (nC I) (lU (fA am I a7 I) (lK (aZ (e:=encCell) (a:=(⟨x.id,x.dim,⟨xp,x.sides.length,xc⟩⟩:Rc)) (j:=k) (o:=2) (u:=(.slice xp x.sides.length xc)) bT I (zb5 0 I) hgr I) (lU (eN bJ I) (yL I (tZ ?_))))))));refine iP I (fun hlt=>?_) (fun hlt=>?_)
    ·have hil:i<x.sides.length:=oM;refine zc9 fun ⟨w0,hw0⟩=>?_;obtain ⟨bx,cx,hbx⟩:=aY (i:=1) hw0 rfl (by rw[ka _ _ hi]; omega);rw[ka _ _ hi] at hbx;obtain ⟨rfl,rfl⟩:xp=some ⟨bx,0,none⟩∧xc=cx:=by injection hbx with h1 _ h2; exact⟨h1,h2⟩
     clear hw0 w0 hbx;have hgz:=vT hil;have hst:=vS hil;refine kP (tN (sQ (bK ?_)));refine dW [16] [(0,2),(1,2),(2,2),(3,1),(4,2),(5,2),(6,2),(7,2),(8,1),(9,2),(10,2),(11,2),(12,1),(13,2),(14,2),(15,2),(16,0)] zd8 kR ?_;refine yM I (pU I (nC I) (pU I (fA am I a7 I) (pK I (aZ (e:=encCell) (a:=(⟨x.id,x.dim,⟨some ⟨bx,0,none⟩,x.sides.length,xc⟩⟩:Rc)) (j:=k) (o:=2) (u:=(.slice (some ⟨bx,0,none⟩) x.sides.length xc)) bT I (zb5 0 I) hgr I) (yM I (yM I (pU I (nC I) (pU I (fA am I a7 I) (pK I (aZ (e:=encCell) (a:=(⟨x.id,x.dim,⟨some ⟨bx,0,none⟩,x.sides.length,xc⟩⟩:Rc)) (j:=k) (o:=2) (u:=(.slice (some ⟨bx,0,none⟩) x.sides.length xc)) bT I (zb5 0 I) hgr I) (yM I (pU I (iA bJ bI I I I oM sL) (pU I (fC cQ I zT3 I I) (pK I (aZ (e:=encSide) (a:=x.sides[i]) (j:=i) (o:=1) (u:=vi x.sides[i].sign) iT3 I (zb5 1 I) hgz I) (pU I (SU.neg I) (pU I (iA bJ bI I I I oM sL) (pU I (fC cQ I zT3 I I) (SP.on I (SO.partA (e:=encSide) (a:=x.sides[i]) (j:=i) (o:=1) 1 (wQ x.sides[i]) zT3 I I I hgz I I dC I) (.inl dC) ?_))))))))))))))));rintro _ _ _ ⟨rfl,rfl⟩;rw[hst];refine pN (bN (tN (rG (lM I (yD I (lA I (nL ?_)))))));exact gA (i+1) sB I I oM oM
    ·have hii:iL x.sides i=x.sides.map wQ:=by
      have:i=x.sides.length:=oM;subst this;simp[iL]
     rw[hii];refine xI (tX (tX (bX (bN (fT fun ga hlea hsa=>?_)))));refine fT fun gb hleb hsb=>?_;exact za7 (gb,(.slice (some ⟨bu,0,none⟩) rs.length cap)) sB I I ⟨hlea.trans hleb,_,za3 (e:=encCell) hsa hleb,hfin0 gb _ (hlea.trans hleb) ⟨I,I,hsb⟩⟩
   ·have hr3:=aR q2 3 dC dC;refine rZ (lU (iB jA zT3 I I dC dC) (lK (qL (v:=vi q0) iT3 I (cO 4 I I)) (lW (cL dn I (ai E g1 _ q0 13 dC)) ?_)));rintro _ _ _ ⟨rfl,rfl,rfl⟩;rw[hm];refine tZ (bK (rZ (yE I (aT I (cF I (rZ (yE I (aT I (cF I (rZ (yE I (aT I (cF I (rZ (yE I (aT I ?_))))))))))))))));refine cF I (rZ (yE I (aT I (cF I (rZ (yE I (aT I (cF I (rZ (yE I (aT I (cF I (rZ (yE I (aT I (cF I (sQ ?_)))))))))))))))));refine rG (yE I (aT I (cF I (rZ (yE I (aT I (cF I (rZ (yE I (aT I (cF I (rZ (yE I (aT I (cT I ?_)))))))))))))));refine SC.drawX [15,17] zd8 kR ?_;refine SX.u (i:=0) I kR (fA cJ I bQ I) dC (SX.q (i:=1) I kR (qL (v:=(.slice (some ⟨bu,0,none⟩) rs.length cap)) dI I (cO 2 I I)) dC (SX.u (i:=2) I kR (mV I) dC (SX.u (i:=5) I kR (mV I) dC (SX.u (i:=8) I kR (mV I) dC (SX.u (i:=9) I kR (nC I) dC (SX.u (i:=10) I kR (fA am I a7 I) dC (SX.q (i:=11) I kR (aZ (e:=encCell) (a:=(⟨x.id,x.dim,⟨xp,x.sides.length,xc⟩⟩:Rc)) (j:=k) (o:=2) (u:=(.slice xp x.sides.length xc)) bT I (zb5 0 I) hgr I) dC ?_)))))))
    repeat' (first
     | (refine SB.o (i:=3) I (cL dn I (ai E g1 _ q2 3 dC)) dC (.inr iR) ?_; rintro _ _ _ ⟨rfl,rfl,rfl⟩; refine SX.u (i:=4) I kD (aD I I oM) dC ?_)
     | (refine SB.o (i:=3) I (cL dn I (ai E g1 _ q2 3 dC)) dC (.inr iR) ?_; rintro _ _ _ ⟨rfl,rfl,rfl⟩; refine SX.u (i:=4) I kD (aD I I oM) dC ?_)
     | (refine SB.o (i:=6) I (cL dn I (ai E g1 _ q2 4 dC)) dC (.inr iR) ?_; rintro _ _ _ ⟨rfl,rfl,rfl⟩)
     | (refine SB.o (i:=6) I (cL dn I (ai E g1 _ q2 4 dC)) dC (.inr iR) ?_; rintro _ _ _ ⟨rfl,rfl,rfl⟩)
     | (refine SB.o (i:=7) I (bS sty61 I I I (ab trivial) dC) dC (.inr iR) ?_; rintro _ _ _ ⟨b266,rfl,rfl,rfl⟩; refine SX.to (fun w hw=>(hw.sublist (List.Sublist.cons _ (.refl _))).emptyRow 87 2 (some ⟨b266,0,none⟩)) ?_)
     | (refine SB.o (i:=12) I (SO.appendE (m:=x.sides.length) 0 x.sides.length (x.sides.flatMap encSide.enc) sty61 I I I I I (zb5 2 I) (encSide.length _) (encSide.ones _) oM (by simp) oM oM) dC (.inr iR) ?_; rintro v271 _ _ ⟨rfl,rfl⟩; refine SX.freezeRow fun gq hleq hsq=>?_; have hsd:SlA encSide gq v271 x.sides:=hsq; obtain ⟨q7,d7,rfl⟩:=za2 hsd; refine SX.u (i:=13) I kD (za1 I (buildF63 _ _ _ I)) dC ?_)
     | (refine SB.o (i:=14) I (bS sty28 I I I (ab sB) dC) dC (.inr iR) ?_; rintro _ _ _ ⟨b273,rfl,rfl,rfl⟩)
     | (refine SB.o (i:=15) I (aP (e:=encCell) 0 ⟨500+aG q2 3,aG q2 4,⟨q7,x.sides.length,d7⟩⟩ sty28 I I I I I oM oM) dC (.inl dC) ?_; rintro v274 _ _ ⟨rfl,rfl⟩; refine SX.facts fun ⟨w0,hw0⟩=>?_; obtain ⟨q8,d8,rfl⟩:=ag (i:=0) hw0 rfl; clear hw0 w0; refine SX.u (i:=16) I kD (fA cJ I bQ I) dC ?_)
     | (refine SB.on (i:=17) I (sK 2 bQ I I I I I sB) (.inl dC) ?_; rintro _ _ _ ⟨rfl,rfl⟩)
     | refine zd3 3 7 kD ?_ ?_
     | refine zd3 6 7 kD ?_ ?_
     | refine zd2 7 kD ?_
     | refine zd2 12 kD ?_
     | refine zd2 14 kD ?_
     | refine zd2 15 kD ?_
     | refine zd2 17 kD ?_
     | refine zd2 6 kD ?_
     | refine zd2 3 kD ?_
     | (refine SX.nil kD ?_; refine bN ?_; (refine fT fun ga hlea hsa=>?_; refine fT fun gb hleb hsb=>?_; exact za7 (gb,_) sB I I ⟨hleq.trans (hlea.trans hleb),_,za3 (e:=encCell) hsa hleb,(hfinA gb (hleq.trans (hlea.trans hleb)) ⟨I,I,hsb⟩).append ⟨⟨I,I,hsd.mono (hlea.trans hleb)⟩,trivial⟩⟩)))
   ·refine rZ (lU (iB jA zT3 I I dC dC) (lK (qL (v:=vi q0) iT3 I (cO 4 I I)) (lW (cL dn I (ai E g1 _ q0 13 dC)) ?_)));rintro _ _ _ ⟨rfl,rfl,rfl⟩;rw[hm];refine tZ (bK (rZ (yE I (aT I (cF I (rZ (yE I (aT I (cF I (rZ (yE I (aT I (cF I (rZ (yE I (aT I ?_))))))))))))))));refine cF I (rZ (yE I (aT I (cF I (rZ (yE I (aT I (cF I (rZ (yE I (aT I (cF I (rZ (yE I (aT I (cF I (sQ ?_)))))))))))))))));refine rG (yE I (aT I (cF I (rZ (yE I (aT I (cF I (rZ (yE I (aT I (cF I (rZ (yE I (aT I (cF I (kP (bN (fT fun ga hlea hsa=>?_))))))))))))))))));refine fT fun gb hleb hsb=>?_;exact za7 (gb,(.slice (some ⟨bu,0,none⟩) rs.length cap)) sB I I ⟨hlea.trans hleb,_,za3 (e:=encCell) hsa hleb,hfinA gb (hlea.trans hleb) ⟨I,I,hsb⟩⟩
  rintro ⟨g2,bv⟩ ⟨hle2,hbv⟩;dsimp only at hle2 hbv ⊢;obtain ⟨q3,d3,rfl⟩:=hbv.form;refine rZ (lK (qV 0 bh az I I I) (oZ (sK 1 az I I I I I sB) ?_));refine tZ (rE ?_);exact ST.retCD 1 s (.inl I) results22 I bh az I I uR ⟨I,hle1.trans hle2,_,I,hbv⟩
open Go.ChangeShapes Go.WideShapes Go.ChangeAt Go.RowKit
set_option maxRecDepth 100000
def sH (W:World):PH:=fun b=>W.heap[b]?
def E0 (W:World):World:={ W with drawn:=0 }
theorem xU (W:World):At (E0 W) (sH W) [] W:=⟨rfl,⟨rfl,zf2 _⟩,rfl,fun _ _ h=>h,by simp,by simp,List.Pairwise.nil⟩
theorem xW {W W':World}{g:PH}{s:Own}(h:At (E0 W) g s W')(hl:Le (sH W) g):Below W.heap.size W W':=by
 have hb:∀ k,k<W.heap.size→W'.heap[k]?=W.heap[k]?:=fun k hk=>by
  have h1:W.heap[k]?=some W.heap[k]:=Array.getElem?_eq_getElem hk;rw[h1];exact h.known k _ (hl k _ h1)
 refine⟨h.os,h.tape.1,h.output,?_,hb⟩;refine zg5 fun hc=>?_;have h1:=hb W'.heap.size oM;rw[Array.getElem?_eq_none (lR _),Array.getElem?_eq_getElem oM] at h1;cases h1
theorem yb {W:World}{a:Addr}{len cap:Nat}{xs:List Value}(hl:len≤cap)(hx:xs.length=len)(hc:∀ i x,xs[i]?=some x→W.cell? (a.add i)=some x):Sl (sH W) 1 (.slice (some a) len cap) len xs:=by
 refine⟨some a,cap,I,⟨oM,hl⟩,fun hne=>?_⟩;obtain ⟨b,o,sp⟩:=a;have h0:0<xs.length:=List.length_pos_iff.2 hne;have hc0:=hc 0 xs[0] (gE h0);have hsp:sp=none:=by simpa [Addr.add] using World.cell?_spot hc0
 subst hsp;have hadd:∀ i,(⟨b,o,none⟩:Addr).add i=⟨b,o+i,none⟩:=fun i=>by unfold Addr.add; split <;> simp_all
 simp only[hadd] at hc;have hcell:∀ i x,xs[i]?=some x→∃ cs T fr,W.heap[b]?=some (.cells cs T fr)∧cs[o+i]?=some x:=fun i x hi=>by
  have h1:=hc i x hi;unfold World.cell? at h1;split at h1
  ·rename_i cs T fr hh;exact⟨cs,T,fr,hh,by simpa using h1⟩
  ·cases h1
 obtain ⟨cs,T,fr,hb,_⟩:=hcell 0 xs[0] (gE h0);refine⟨b,o,cs,T,fr,I,hb,fun j x hj=>?_⟩;obtain ⟨cs',T',fr',hb',h2⟩:=hcell j x hj;rw[hb] at hb';cases hb';exact h2
section
variable {H:Type}{enc:TypeId×Value→H}{W:World}{base:Nat}{spare:Nat→Bool}{hd:Bool}
theorem Tryz.cells3:Tryz.prog.cellsOf 3=1:=by kernel_rfl
theorem Tryz.cells25:Tryz.prog.cellsOf 25=1:=by kernel_rfl
theorem Tryz.cells35:Tryz.prog.cellsOf 35=3:=by kernel_rfl
theorem Tryz.cells24:Tryz.prog.cellsOf 24=3:=by kernel_rfl
theorem zx {fuel:Nat}{v:Value}{x:DataW H×List MemPlace}(h:DataW.trod enc Tryz.prog W base spare hd fuel 25 [v]=some x):∃ (l:List Int) (r:Sv),v = .slice r.p r.n r.c∧bU (sH W) v l:=by
 rcases open_ints ak uT3 cells3 h with ⟨hcs,_⟩ | ⟨a,len,cap,zs,hcs,_,hl,_,hz,_,hcell,_⟩
 ·simp at hcs;subst hcs;exact⟨[],⟨none,0,0⟩,I,zb8 _ _⟩
 ·simp at hcs;subst hcs;have hlz:len≤zs.length:=by rw[hz]; split <;> omega
  have hlen:(zs.take len).length=len:=by rw[zd9]; omega
  have he:(zs.take len).flatMap encInt.enc=(zs.take len).map vi:=by
   rw[List.flatMap_def];induction zs.take len with
   | nil=>rfl
   | cons y t ih=>simp[encInt] at ih ⊢; exact ih
  refine⟨zs.take len,⟨some a,len,cap⟩,I,?_⟩;show Sl (sH W) 1 _ (zs.take len).length ((zs.take len).flatMap encInt.enc);rw[he,hlen];refine yb hl (by rw[ze2,hlen]) fun i y hi=>?_;rw[zh5] at hi;cases hc:(zs.take len)[i]? with
  | none=>rw[hc] at hi; cases hi
  | some z =>
   rw[hc] at hi;cases hi;have hil:i<(zs.take len).length:=(zf1.1 hc).1;have hi2:i<zs.length:=oM;rw[hcell i hi2];have:zs.getD i 0=z:=by
    rw[zh6] at hc;split at hc
    ·rw[zg6,hc]; rfl
    ·cases hc
   rw[this]
theorem sD {α β γ:Type}{R:α→β→Prop}{f:γ→α}{k:γ→β}:∀ {l:List γ},(∀ i∈l,R (f i) (k i))→ar R (l.map f) (l.map k)
 | [],_=>trivial
 | x::l,h=>⟨h x (by simp),sD fun i hi=>h i (by simp[hi])⟩
instance:Inhabited (List Int×Sv):=⟨([],⟨none,0,0⟩)⟩
theorem xC {fuel:Nat}{v:Value}{x:DataW H×List MemPlace}(h:DataW.trod enc Tryz.prog W base spare hd fuel 22 [v]=some x):∃ ls,aI (sH W) v ls:=by
 rcases Go.Deep.open_slice1 bL cells25 h with ⟨hcs,_⟩ | ⟨a,len,cap,m,n,V,D,Pl,hcs,_,hl,_,hmm,_,hx⟩
 ·simp at hcs;subst hcs;exact⟨[],[],zb8 _ _,trivial⟩
 ·simp at hcs;subst hcs;have hlm:len≤m:=by rw[hmm]; split <;> omega
  obtain ⟨f,hf⟩:=Go.Deep.choose_lt (α:=List Int×Sv) (n:=len) (p:=fun i y=>V i = .slice y.2.p y.2.n y.2.c∧bU (sH W) (V i) y.1) fun i hi=>by
   obtain ⟨l,r,h1,h2⟩:=zx (hx i oM).2;exact⟨(l,r),h1,h2⟩
  refine⟨(List.range len).map fun i=>(f i).1,(List.range len).map fun i=>(f i).2,?_,sD fun i hi=>?_⟩
  ·show Sl (sH W) 1 _ ((List.range len).map fun i=>(f i).2).length (((List.range len).map fun i=>(f i).2).flatMap bq.enc);have he:((List.range len).map fun i=>(f i).2).flatMap bq.enc=(List.range len).map fun i=>V i:=by
    have:∀ l:List Nat,(∀ i∈l,i<len)→(l.map fun i=>(f i).2).flatMap bq.enc=l.map fun i=>V i:=by
     intro l;induction l with
     | nil=>intro _; rfl
     | cons y t ih =>
      intro hy;rw[zf9,zh1,ih fun i hi=>hy i (by simp[hi]),zf9,(hf y (hy y (by simp))).1];rfl
    exact this _ fun i hi=>List.mem_range.1 hi
   rw[he,ze2,zh9];refine yb hl (by simp) fun i y hi=>?_;rw[zh5] at hi;cases hc:(List.range len)[i]? with
   | none=>rw[hc] at hi; cases hi
   | some z =>
    rw[hc] at hi;cases hi;obtain ⟨h1,h2⟩:=zf1.1 hc;simp at h1 h2;subst h2;exact (hx i oM).1
  ·have:=hf i (List.mem_range.1 hi);unfold bC;rw[← this.1];exact this.2
theorem pI {r:Reach}{b0:Nat}{P:Program}{w:World}{t e:TypeId}{n:Nat}{v:Value}(ht:P.underlying t=some (.array n e))(h:Value.okWide P w r b0 t v):∃ cs,v = .agg cs∧cs.size=P.cellsOf t:=by
 simp only[Value.okWide,ht] at h;obtain ⟨cs,h1,h2,_⟩:=h;exact⟨cs,h1,h2⟩
theorem xb {r:Reach}{b0:Nat}{v:Value}{d:DataW H}{p:List MemPlace}(hv:Value.okWide Tryz.prog W r b0 24 v)(h:DataW.Trod enc Tryz.prog W base spare hd 24 v d p):∃ (k y:Int) (u:Value) (ls:List (List Int)),v = .agg #[vi k,u,vi y]∧aI (sH W) u ls:=by
 obtain ⟨c0,c1,c2,y0,y1,y2,n,rfl,_,_,h0,h1,h2⟩:=Go.Joins.open_agg3 i5 kR cells24 hv h;obtain ⟨a,e0,_,_⟩:=DataW.trod_int uT3 h0;obtain ⟨c,e2,_,_⟩:=DataW.trod_int uT3 h2;obtain ⟨ls,hls⟩:=xC h1;simp at e0 e2;subst e0;subst e2;exact⟨a,c,c1,ls,I,hls⟩
end
end Go.Proofs.YtcfkpajlakidbaaGreat
namespace Go.Sy
open Go
section
variable {P:Program}{N:Nat}{E:World}{f:Fr}{g:PH}{s s1:Own}{dst:Option Tmp}{ty:TypeId}{pos:String}{af:Array Edge}{gd:Option (Nat×Bool)}{α:Type}{k:Nat}{e:Enc α k}
end
end Go.Sy
namespace Go.Proofs.YtcfkpajlakidbaaGreat
open _root_.Go.Proofs.Tryz _root_.Go.Proofs.YtcfkpajlakidbaaGreat.Tryz
open Go Go.Sy Go.Pl Go.Proofs
def yy (A:List Cl)(k:Int):Option (List Int):=(a6 A k).map fun c=>c.sides.map aj.cell
def zT (A:List Cl)(m:List Int):Nat:=((A.filter fun c=>!m.contains c.id).map fun c=>c.sides.length).sum
structure Wide (A:List Cl)(ids left m:List Int):Prop where
 sound:∀ x∈m,∃ id∈ids,Rch (yy A) id x
 todo:∀ x∈left,yy A x≠none→∃ id∈ids,Rch (yy A) id x
 start:∀ x∈ids,yy A x≠none→x∈left∨x∈m
 sides:∀ x∈m,∀ l,yy A x=some l→∀ y∈l,yy A y≠none→y∈left∨y∈m
 few:left.length+zT A m≤ids.length+zT A []
set_option maxRecDepth 100000
set_option maxHeartbeats 1000000
end Go.Proofs.YtcfkpajlakidbaaGreat
