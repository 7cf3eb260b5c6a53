/-
  Repair has the results of the reference, for edits that are possible, and others (RepairEdits). No conditions.
-/
import Derived.Test.YtmmghffoakhheaaGreatDoorRe15
import Derived.Test.YtmmghffoakhheaaGreatDoorTie
import Derived.Test.YtmmghffoakhheaaGreatDoorCards
import Derived.LaidMore
import Derived.Lay
import Derived.SevenTiedAt
import Derived.Stop.Joined
set_option linter.unusedSimpArgs false
set_option linter.unusedVariables false
namespace Go.Proofs.YtmmghffoakhheaaGreatDoor
open _root_.Go.Proofs.Tryz _root_.Go.Proofs.YtmmghffoakhheaaGreatDoor.Tryz
open Go Go.Sy Go.Pl Go.Proofs
set_option maxRecDepth 100000
set_option maxHeartbeats 8000000
theorem Tryz.buildE039 (a b:Int)(w:World):(Instr.build 39 #[(0,vi a),(1,vi b)]).run Tryz.prog w = .ok (.agg #[vi a,vi b,vi 0,vi 0,vi 0,.slice none 0 0,.slice none 0 0]) w:=by
 have h1:(vi a).cells = #[vi a]:=rfl;have h2:(vi b).cells = #[vi b]:=rfl;simp[Instr.build,Instr.fill,h1,h2];rfl
theorem Tryz.buildE539 (a b d:Int)(p:Option Addr)(n c:Nat)(w:World):(Instr.build 39 #[(0,vi a),(1,vi b),(2,vi d),(5,.slice p n c)]).run Tryz.prog w = .ok (.agg #[vi a,vi b,vi d,vi 0,vi 0,.slice p n c,.slice none 0 0]) w:=by
 have h1:(vi a).cells = #[vi a]:=rfl;have h2:(vi b).cells = #[vi b]:=rfl;have h3:(vi d).cells = #[vi d]:=rfl;have h4:(Value.slice p n c).cells = #[.slice p n c]:=rfl;simp[Instr.build,Instr.fill,h1,h2,h3,h4];rfl
theorem Tryz.buildE439 (a b d e:Int)(w:World):(Instr.build 39 #[(0,vi a),(1,vi b),(3,vi d),(4,vi e)]).run Tryz.prog w = .ok (.agg #[vi a,vi b,vi 0,vi d,vi e,.slice none 0 0,.slice none 0 0]) w:=by
 have h1:(vi a).cells = #[vi a]:=rfl;have h2:(vi b).cells = #[vi b]:=rfl;have h3:(vi d).cells = #[vi d]:=rfl;have h4:(vi e).cells = #[vi e]:=rfl;simp[Instr.build,Instr.fill,h1,h2,h3,h4];rfl
theorem Tryz.buildE339 (a b d:Int)(w:World):(Instr.build 39 #[(0,vi a),(1,vi b),(4,vi d)]).run Tryz.prog w = .ok (.agg #[vi a,vi b,vi 0,vi 0,vi d,.slice none 0 0,.slice none 0 0]) w:=by
 have h1:(vi a).cells = #[vi a]:=rfl;have h2:(vi b).cells = #[vi b]:=rfl;have h3:(vi d).cells = #[vi d]:=rfl;simp[Instr.build,Instr.fill,h1,h2,h3];rfl
def eY (l:List Cl):Int:=IntKind.i64.wrap (hiC l+1)
def yN (l:List Cl)(e:Ed):Prop:=e.pairs=[] ∧
 ((e.kind=1∧e.cell=eY l∧e.dim=1∧∃ a∈eh l 0,∃ b∈eh l 0,a≠b∧e.sides=[⟨a,-1⟩,⟨b,1⟩]) ∨
  (e.kind=1∧e.cell=eY l∧e.dim=2∧jy l e.sides) ∨
  (e.kind=3∧e.cell∈eh l 1∧e.new=eY l∧e.other=IntKind.i64.wrap (eY l+1)∧e.sides=[]) ∨
  (e.kind=2∧e.cell∈cJ l∧1<(cJ l).length∧e.sides=[]) ∨
  (e.kind=5∧CW l (e.cell,e.other)∧e.sides=[]) ∨
  (e.kind=1∧e.cell=eY l∧e.dim=0∧e.sides=[]))
theorem jy.len {l:List Cl}{S:List Side}(h:jy l S):S.length=2∨S.length=3:=by
 rcases h with ⟨_,_,_,_,_,_,_,rfl⟩ | ⟨_,_,_,_,_,_,_,_,_,_,_,_,_,_,_,_,_,rfl⟩
 ·exact .inl I
 ·exact .inr I
theorem yN.few {l:List Cl}{e:Ed}(h:yN l e):e.sides.length≤3∧e.pairs.length=0:=by
 obtain ⟨h1,h2⟩:=h;refine⟨?_,by rw[h1]; rfl⟩
 rcases h2 with ⟨_,_,_,_,_,_,_,_,h⟩ | ⟨_,_,_,h⟩ | ⟨_,_,_,_,h⟩ | ⟨_,_,_,h⟩ | ⟨_,_,h⟩ | ⟨_,_,_,h⟩
 ·rw[h]; simp
 ·have:=h.len; omega
 all_goals rw[h]; simp
theorem vF (E:World)(g:PH)(s:Own)(v:Value)(l:List Cl)(q0 q1 q2:Int)(hv:ak g v l)(hf:a8 l)(hE:∀ id∈eh l 1,∃ z0 z1,o7 l id z0 z1)(hll:l.length≤4000) :
  Ctr Tryz.prog E 17 #[.agg #[v],.agg #[vi q0,vi q1,vi q2]] g s (fun r g' s'=>s=s'∧Le g g'∧∃ e,EdR g' r e∧yN l e):=by
 have hid:∀ d,(eh l d).length≤4000:=fun d=>by
  have h1:(eh l d).length≤(aW l).length:=by unfold eh; rw[ze6]; exact zc5 _ _
  have h2:=dN l;omega
 have htl:(cJ l).length≤4000:=by
  have h1:(cJ l).length≤(aW l).length:=by unfold cJ; rw[ze6]; exact zc5 _ _
  have h2:=dN l;omega
 have hl0:=hid 0;have hl1:=hid 1;obtain ⟨p,c,rfl⟩:=hv.form;refine zb1 (args:=[.agg #[.slice p l.length c],.agg #[vi q0,vi q1,vi q2]]) func17 I ntmps17 (bE I)<|rZ (bW (bO I) fun b2=>?_);refine bW (bO I) fun b3=>bW (aL zeroValue39) fun b4=>tZ<|rZ<|lK (qV 2 ar ag I I I)<|lW (SO.call call38 I<|t7 E g _ _ l hv hf) ?_;rintro _ _ _ ⟨rfl,rfl,rfl⟩;refine lU (SU.addW I I)<|aT I<|rZ<|lK (qV 2 ar ag I I I)<|lW (SO.call call18 I<|ja E g _ _ l 0 hv hf) ?_;rintro _ g1 _ ⟨rfl,hle1,hV⟩;obtain ⟨pV,cV,rfl⟩:=za3 hV;refine aT I<|rZ<|lK (qV 2 ar ag I I I)<|lW (SO.call call18 I<|ja E g1 _ _ l 1 (hv.mono hle1) hf) ?_;rintro _ g2 _ ⟨rfl,hle2,hW⟩;obtain ⟨pW,cW,rfl⟩:=za3 hW;refine aT I<|rZ<|lU (iB AW zT3 I I dC dC)<|lK (qL (v:=vi q0) iT3 I<|cO 1 I I)<|lW (SO.call call19 I<|ek E g2 _ q0 12 dC) ?_;rintro _ _ _ ⟨rfl,rfl,rfl⟩;have hle12:=hle1.trans hle2;have hv2:=hv.mono hle12;have hV2:=za4 hV hle2;generalize fu q0 12=kd at *;refine aT I<|SC.cut (ι:=Unit) (fun _=>[(2,pp b2 0),(3,pp b3 0),(4,pp b4 0),(5,vi<|eY l),(7,.slice pW (eh l 1).length cW),(8,vi kd)]) (fun _=>g2) (fun _=>pt b4 (.cells #[vi 0,vi 0,vi 0,vi 0,vi 0,.slice none 0 0,.slice none 0 0] 39 (0,0))::pt b3 (.cells #[vi q0,vi q1,vi q2] 41 (0,0))::pt b2 (.cells #[.slice p l.length c] 29 (0,0))::s) (fun _=>True) ?_ ?_
 ·refine SC.cutB 35 (decide (((eh l 0).length:Int)>1)&&decide (kd≥2)&&decide (kd≤5)) ?_ ?_
  ·refine rG<|lM I<|lU (eN aG I)<|lU (gR I I)<|lM I<|sP ?_ ?_
   ·intro h28;refine yC I<|lY I I I (gQ I I)<|yP I<|lM I<|sP ?_ ?_
    ·intro h32;exact yC I<|lY I I I (SU.leq I I)<|yP I<|nL<|za9 (by (simp_all[a7]; done)) mI
    ·intro h32;exact yA I<|yA I<|yF I<|nL<|za9 (by (simp_all[a7]; omega)) mI
   ·intro h28;exact yA I<|yA I<|yF I<|lM I<|yA I<|yA I<|yF I<|nL<|za9 (by (simp_all[a7]; omega)) mI
  refine iQ I (fun hk=>?_) (fun hk=>?_)
  ·simp only[zj3,zj6] at hk;have hlV:1<(eh l 0).length:=oM;have hbV:=za5 hV2 oM;obtain ⟨ha1,ha2⟩:=eO q1 (eh l 0).length oM oM;obtain ⟨hb1,hb2⟩:=eO q2 (eh l 0).length oM oM;have hga:(eh l 0)[(fu q1 (eh l 0).length).toNat]?=some (eh l 0)[(fu q1 (eh l 0).length).toNat]:=gE ha2;have hgb:(eh l 0)[(fu q2 (eh l 0).length).toNat]?=some (eh l 0)[(fu q2 (eh l 0).length).toNat]:=gE hb2;have hma:=gM ha2;have hmb:=gM hb2;generalize (eh l 0)[(fu q1 (eh l 0).length).toNat]=a at *;generalize (eh l 0)[(fu q2 (eh l 0).length).toNat]=b at *;refine sW I<|lU (iB AW zT3 I I dC dC)<|lK (qL (v:=vi q1) iT3 I<|cO 1 I I)<|lM I<|lU (eN aG I)<|lW (SO.call call19 I<|ek E g2 _ q1 (eh l 0).length oM) ?_;rintro _ _ _ ⟨rfl,rfl,rfl⟩;rw[ha1];refine lU (iA aG zT3 I I hbV oM sL)<|lK (eB (u:=vi a) iT3 I (za6 hV2) hga I)<|aT I<|sW I<|lU (iB AW zT3 I I dC dC)<|lK (qL (v:=vi q2) iT3 I<|cO 1 I I)<|lM I<|lU (eN aG I)<|lW (SO.call call19 I<|ek E g2 _ q2 (eh l 0).length oM) ?_;rintro _ _ _ ⟨rfl,rfl,rfl⟩;rw[hb1];refine lU (iA aG zT3 I I hbV oM sL)<|lK (eB (u:=vi b) iT3 I (za6 hV2) hgb I)<|aT I<|sW I<|lM I<|lU (nQ I I)<|tZ<|iP I (fun hab=>?_) (fun hab=>?_)
   ·refine sW I<|lM I<|lW (SO.call call39 I<|ez E g2 _ a<|-1) ?_;rintro _ _ _ ⟨rfl,rfl,rfl⟩;refine lM I<|lW (SO.call call39 I<|ez E g2 _ b 1) ?_;rintro _ _ _ ⟨rfl,rfl,rfl⟩;refine lW (bS sty37 I I I (ab sB) dC) ?_;rintro _ _ _ ⟨b60,rfl,rfl,rfl⟩;refine zb4 fun g3 hle3 hb3=>?_;have hs3:SlA encSide g3 (.slice (some ⟨b60,0,none⟩) 2 2) [⟨a,-1⟩,⟨b,1⟩]:=SlA.lit hb3 rfl rfl;refine lU (za2 I<|buildE539 _ _ _ _ _ _)<|oZ (sK 0 ft rfl rfl rfl rfl rfl<|by (repeat' (first | exact trivial | refine⟨by rfl,?_⟩))) ?_;refine tZ<|rE<|tR ?_;exact ST.retCD 0 s (.inl I) results17 I jB ft I I uR ⟨I,hle12.trans hle3,⟨1,eY l,1,0,0,[⟨a,-1⟩,⟨b,1⟩],[]⟩,⟨_,_,I,hs3,zb9 _ _⟩,I,.inl ⟨I,I,I,a,hma,b,hmb,hab,I⟩⟩
   ·exact kP<|za8 () sB I I trivial
  ·exact kP<|za8 () sB I I trivial
 rintro _ -;try dsimp only
 refine sQ<|sW I<|tZ<|bK<|sQ<|rZ<|yE I<|aT I<|iP I (fun h6=>?_) (fun h6=>?_)
 ·refine kP<|tN<|iP I (fun h6b=>?_) (fun h6b=>?_)
  ·refine rZ<|lK (qV 2 ar ag I I I)<|lU (iB AW zT3 I I dC dC)<|lK (qL (v:=vi q1) iT3 I<|cO 1 I I)<|lW (SO.call call40 I<|mE E g2 _ _ l q1 hv2 hf hE hl1) ?_;rintro vS g3 _ ⟨rfl,hle3,S,hS,hSo⟩;obtain ⟨pS,cS,rfl⟩:=za3 hS;have hle13:=hle12.trans hle3;refine aT I<|sW I<|lU (eN aI I)<|lU (gR I I)<|tZ<|iP I (fun hS0=>?_) (fun hS0=>?_)
   ·have hSr:jy l S:=by
     rcases hSo with rfl | h
     ·simp at hS0
     ·exact h
    refine sW I<|lM I<|lU (za2 I<|buildE539 _ _ _ _ _ _)<|oZ (sK 0 ft rfl rfl rfl rfl rfl<|by (repeat' (first | exact trivial | refine⟨by rfl,?_⟩))) ?_;refine tZ<|rE<|bR<|tR ?_;exact ST.retCD 0 s (.inl I) results17 I jB ft I I uR ⟨I,hle13,⟨1,eY l,2,0,0,S,[]⟩,⟨_,_,I,hS,zb9 _ _⟩,I,.inr<|.inl ⟨I,I,I,hSr⟩⟩
   ·refine kP<|bN<|tN<|sW I<|lU (za2 I<|buildE039 _ _)<|oZ (sK 0 ft rfl rfl rfl rfl rfl<|by (repeat' (first | exact trivial | refine⟨by rfl,?_⟩))) ?_;refine tZ<|rE ?_;exact ST.retCD 0 s (.inl I) results17 I jB ft I I uR ⟨I,hle13,⟨1,eY l,0,0,0,[],[]⟩,⟨_,_,I,zb9 _ _,zb9 _ _⟩,I,.inr<|.inr<|.inr<|.inr<|.inr ⟨I,I,I,I⟩⟩
  ·exact absurd h6 h6b
 ·refine rG<|yE I<|aT I<|iP I (fun h7=>?_) (fun h7=>?_)
  ·refine rZ<|lK (qV 2 ar ag I I I)<|lU (iB AW zT3 I I dC dC)<|lK (qL (v:=vi q1) iT3 I<|cO 1 I I)<|lW (SO.call call40 I<|mE E g2 _ _ l q1 hv2 hf hE hl1) ?_;rintro vS g3 _ ⟨rfl,hle3,S,hS,hSo⟩;obtain ⟨pS,cS,rfl⟩:=za3 hS;have hle13:=hle12.trans hle3;refine aT I<|sW I<|lU (eN aI I)<|lU (gR I I)<|tZ<|iP I (fun hS0=>?_) (fun hS0=>?_)
   ·have hSr:jy l S:=by
     rcases hSo with rfl | h
     ·simp at hS0
     ·exact h
    refine sW I<|lM I<|lU (za2 I<|buildE539 _ _ _ _ _ _)<|oZ (sK 0 ft rfl rfl rfl rfl rfl<|by (repeat' (first | exact trivial | refine⟨by rfl,?_⟩))) ?_;refine tZ<|rE<|bR<|tR ?_;exact ST.retCD 0 s (.inl I) results17 I jB ft I I uR ⟨I,hle13,⟨1,eY l,2,0,0,S,[]⟩,⟨_,_,I,hS,zb9 _ _⟩,I,.inr<|.inl ⟨I,I,I,hSr⟩⟩
   ·refine kP<|bN<|tN<|sW I<|lU (za2 I<|buildE039 _ _)<|oZ (sK 0 ft rfl rfl rfl rfl rfl<|by (repeat' (first | exact trivial | refine⟨by rfl,?_⟩))) ?_;refine tZ<|rE ?_;exact ST.retCD 0 s (.inl I) results17 I jB ft I I uR ⟨I,hle13,⟨1,eY l,0,0,0,[],[]⟩,⟨_,_,I,zb9 _ _,zb9 _ _⟩,I,.inr<|.inr<|.inr<|.inr<|.inr ⟨I,I,I,I⟩⟩
  ·refine rZ<|yE I<|aT I<|iP I (fun h8=>?_) (fun h8=>?_)
   ·refine sW I<|lU (eN aG I)<|lU (gR I I)<|tZ<|iP I (fun hW0=>?_) (fun hW0=>?_)
    ·have hbW:=za5 hW oM;obtain ⟨ha1,ha2⟩:=eO q1 (eh l 1).length oM oM;have hga:(eh l 1)[(fu q1 (eh l 1).length).toNat]?=some (eh l 1)[(fu q1 (eh l 1).length).toNat]:=gE ha2;have hma:=gM ha2;generalize (eh l 1)[(fu q1 (eh l 1).length).toNat]=a at *;refine sW I<|lU (iB AW zT3 I I dC dC)<|lK (qL (v:=vi q1) iT3 I<|cO 1 I I)<|lM I<|lU (eN aG I)<|lW (SO.call call19 I<|ek E g2 _ q1 (eh l 1).length oM) ?_;rintro _ _ _ ⟨rfl,rfl,rfl⟩;rw[ha1];refine lU (iA aG zT3 I I hbW oM sL)<|lK (eB (u:=vi a) iT3 I (za6 hW) hga I)<|lM I<|lM I<|lU (SU.addW I I)<|lU (za2 I<|buildE439 _ _ _ _)<|oZ (sK 0 ft rfl rfl rfl rfl rfl<|by (repeat' (first | exact trivial | refine⟨by rfl,?_⟩))) ?_;refine tZ<|rE<|bR<|tR ?_;exact ST.retCD 0 s (.inl I) results17 I jB ft I I uR ⟨I,hle12,⟨3,a,0,eY l,IntKind.i64.wrap<|eY l+1,[],[]⟩,⟨_,_,I,zb9 _ _,zb9 _ _⟩,I,.inr<|.inr<|.inl ⟨I,hma,I,I,I⟩⟩
    ·refine kP<|bN<|tN<|sW I<|lU (za2 I<|buildE039 _ _)<|oZ (sK 0 ft rfl rfl rfl rfl rfl<|by (repeat' (first | exact trivial | refine⟨by rfl,?_⟩))) ?_;refine tZ<|rE ?_;exact ST.retCD 0 s (.inl I) results17 I jB ft I I uR ⟨I,hle12,⟨1,eY l,0,0,0,[],[]⟩,⟨_,_,I,zb9 _ _,zb9 _ _⟩,I,.inr<|.inr<|.inr<|.inr<|.inr ⟨I,I,I,I⟩⟩
   ·refine rZ<|yE I<|aT I<|iP I (fun h9=>?_) (fun h9=>?_)
    ·refine rZ<|lK (qV 2 ar ag I I I)<|lW (SO.call call31 I<|mF E g2 _ _ l hv2 hf) ?_;rintro _ g3 _ ⟨rfl,hle3,hT⟩;obtain ⟨pT,cT,rfl⟩:=za3 hT;have hle13:=hle12.trans hle3;refine aT I<|sW I<|lU (eN aG I)<|lU (gR I I)<|tZ<|iP I (fun hT0=>?_) (fun hT0=>?_)
     ·have hbT:=za5 hT oM;obtain ⟨ha1,ha2⟩:=eO q1 (cJ l).length oM oM;have hga:(cJ l)[(fu q1 (cJ l).length).toNat]?=some (cJ l)[(fu q1 (cJ l).length).toNat]:=gE ha2;have hma:=gM ha2;generalize (cJ l)[(fu q1 (cJ l).length).toNat]=a at *;refine sW I<|lU (iB AW zT3 I I dC dC)<|lK (qL (v:=vi q1) iT3 I<|cO 1 I I)<|lM I<|lU (eN aG I)<|lW (SO.call call19 I<|ek E g3 _ q1 (cJ l).length oM) ?_;rintro _ _ _ ⟨rfl,rfl,rfl⟩;rw[ha1];refine lU (iA aG zT3 I I hbT oM sL)<|lK (eB (u:=vi a) iT3 I (za6 hT) hga I)<|lU (za2 I<|buildE039 _ _)<|oZ (sK 0 ft rfl rfl rfl rfl rfl<|by (repeat' (first | exact trivial | refine⟨by rfl,?_⟩))) ?_;refine tZ<|rE<|bR<|tR ?_;exact ST.retCD 0 s (.inl I) results17 I jB ft I I uR ⟨I,hle13,⟨2,a,0,0,0,[],[]⟩,⟨_,_,I,zb9 _ _,zb9 _ _⟩,I,.inr<|.inr<|.inr<|.inl ⟨I,hma,oM,I⟩⟩
     ·refine kP<|bN<|tN<|sW I<|lU (za2 I<|buildE039 _ _)<|oZ (sK 0 ft rfl rfl rfl rfl rfl<|by (repeat' (first | exact trivial | refine⟨by rfl,?_⟩))) ?_;refine tZ<|rE ?_;exact ST.retCD 0 s (.inl I) results17 I jB ft I I uR ⟨I,hle13,⟨1,eY l,0,0,0,[],[]⟩,⟨_,_,I,zb9 _ _,zb9 _ _⟩,I,.inr<|.inr<|.inr<|.inr<|.inr ⟨I,I,I,I⟩⟩
    ·refine rZ<|yE I<|aT I<|iP I (fun h10=>?_) (fun h10=>?_)
     ·refine rZ<|lK (qV 2 ar ag I I I)<|lU (iB AW zT3 I I dC dC)<|lK (qL (v:=vi q1) iT3 I<|cO 1 I I)<|lW (SO.call call41 I<|vC E g2 _ _ l q1 hv2 hf) ?_;rintro _ g3 _ ⟨rfl,hle3,⟨f1,f2⟩,ok,rfl,hfr⟩;have hle13:=hle12.trans hle3;refine lM I (yX I<|yX I<|bW (aL zl5) fun b13=>?_);refine oZ (sK 0 bM I I I I I sB)<|aT I<|sW I<|tZ<|iQ I (fun hok=>?_) (fun hok=>?_)
      ·refine rZ<|lU (iB cN zT3 I I dC dC)<|lK (qL (v:=vi f1) iT3 I<|cO 0 I I)<|lU (iB cN zT3 I I dC dC)<|lK (qL (v:=vi f2) iT3 I<|cO 0 I I)<|lU (za2 I<|buildE339 _ _ _)<|oZ (sK 1 ft rfl rfl rfl rfl rfl<|by (repeat' (first | exact trivial | refine⟨by rfl,?_⟩))) ?_;refine tZ<|rE<|bR<|tR ?_;exact ST.retCD 1 s (.inl I) results17 I jB ft I I uR ⟨I,hle13,⟨5,f1,0,0,f2,[],[]⟩,⟨_,_,I,zb9 _ _,zb9 _ _⟩,I,.inr<|.inr<|.inr<|.inr<|.inl ⟨I,hfr hok,I⟩⟩
      ·refine kP<|bN<|tN<|sW I<|lU (za2 I<|buildE039 _ _)<|oZ (sK 1 ft rfl rfl rfl rfl rfl<|by (repeat' (first | exact trivial | refine⟨by rfl,?_⟩))) ?_;refine tZ<|rE ?_;exact ST.retCD 1 s (.inl I) results17 I jB ft I I uR ⟨I,hle13,⟨1,eY l,0,0,0,[],[]⟩,⟨_,_,I,zb9 _ _,zb9 _ _⟩,I,.inr<|.inr<|.inr<|.inr<|.inr ⟨I,I,I,I⟩⟩
     ·refine kP<|bN<|tN<|sW I<|lU (za2 I<|buildE039 _ _)<|oZ (sK 0 ft rfl rfl rfl rfl rfl<|by (repeat' (first | exact trivial | refine⟨by rfl,?_⟩))) ?_;refine tZ<|rE ?_;exact ST.retCD 0 s (.inl I) results17 I jB ft I I uR ⟨I,hle12,⟨1,eY l,0,0,0,[],[]⟩,⟨_,_,I,zb9 _ _,zb9 _ _⟩,I,.inr<|.inr<|.inr<|.inr<|.inr ⟨I,I,I,I⟩⟩
set_option maxHeartbeats 1000000
theorem vP {code:Int}{B:List Cl}(h:(aH code B).1=0):Rt (aH code B).2∧code=0∧(aH code B).2=aa B:=by
 unfold aH at h ⊢;split at h
 ·rename_i h1; exact absurd h h1
 ·rename_i h1;rw[zf9 h1];split at h
  ·rename_i h2; exact absurd h h2
  ·rename_i h2;rw[zf9 h2];have h3:=mq<|Decidable.not_not.1 h2;rw[gz] at h3;exact⟨h3,Decidable.not_not.1 h1,I⟩
theorem zk {l:List Cl}{e:Ed}(h:(gn l e).1=0):Rt (gn l e).2∧(aq l).2=0∧bP (aa l) e=0∧(gn l e).2=aa (cQ (aa l) e):=by
 unfold gn at h ⊢;split at h
 ·rename_i h1;rw[zg1 h1];obtain ⟨h2,h3,h4⟩:=vP h;exact⟨h2,h1,h3,h4⟩
 ·cases h
theorem rB {l:List Cl}{e:Ed}(h:(gn l e).1≠0):(gn l e).2=[]:=by
 unfold gn at h ⊢;split at h
 ·rename_i h1;rw[zg1 h1];unfold aH at h ⊢;split at h
  ·rename_i h2; rw[zg1 h2]
  ·rename_i h2;rw[zf9 h2];split at h
   ·rename_i h3; rw[zg1 h3]
   ·exact absurd I h
 ·rename_i h1; rw[zf9 h1]
theorem AR (l:List Cl)(e:Ed):a8 (gn l e).2:=by
 by_cases h:(gn l e).1=0
 ·exact (zk h).1.fits
 ·rw[rB h]; exact⟨by simp,by simp⟩
theorem Ct (l:List Cl)(e:Ed):(gn l e).2.length≤4000:=by
 by_cases h:(gn l e).1=0
 ·exact (zk h).1.few
 ·rw[rB h]; simp
theorem eV.app {code:Int}{D:List Cl}{ims:List (Int×List Tm)}{bk:Bool}{r:Value}{g:PH}(h:eV code D ims bk r g):uB code D r g:=by
 obtain ⟨u,p,n,c,b,h1,h2,-⟩:=h;exact⟨u,p,n,c,b,h1,h2⟩
set_option maxHeartbeats 4000000
theorem Cf {l:List Cl}(h:(aq l).2=0):∀ id∈eh l 1,∃ z0 z1,o7 l id z0 z1:=fun id hid=>by
 have hA:=mq h;have ht:aW l=aa l:=by
  have h1:=hA.asc;exact bB h1
 unfold eh at hid;obtain ⟨c,hc,rfl⟩:=zf2.1 hid;obtain ⟨h1,h2⟩:=zh4.1 hc;rw[ht] at h1;obtain ⟨z0,z1,h3,-⟩:=hA.edge h1<|zg3 h2;refine⟨z0,z1,c,?_,I,zg3 h2,h3⟩;unfold findC;rw[ht];exact hA.find h1
theorem Dq {l:List Cl}(hf:a8 l)(e:Ed)(hes:e.sides.length<1099511627776)(hpl:e.pairs.length<1099511627776):qT l e (gn l e).1 (gn l e).2:=fun E g s v ev hv he =>
 (xz E g s v ev l e hv hf he hes hpl).mono fun _ _ _ ⟨h1,h2,h3⟩=>⟨h1,h2,h3.app⟩
theorem Ec {l:List Cl}(hf:a8 l)(e:Ed)(hes:e.sides.length<1099511627776)(hpl:e.pairs.length<100000000000):qN l e (gn l e).1 (gn l e).2:=fun E g s v ev hv he =>
 (zZ E g s v ev l e hv hf he hes hpl).mono fun _ _ _ ⟨h1,h2,h3⟩=>⟨h1,h2,h3.app⟩
theorem Tryz.build341 (a b c:Int)(w:World):(Instr.build 41 #[(0,vi a),(1,vi b),(2,vi c)]).run Tryz.prog w = .ok (.agg #[vi a,vi b,vi c]) w:=by
 have h1:(vi a).cells = #[vi a]:=rfl;have h2:(vi b).cells = #[vi b]:=rfl;have h3:(vi c).cells = #[vi c]:=rfl;simp[Instr.build,Instr.fill,h1,h2,h3];rfl
theorem Tryz.buildP39 (a:Int)(p:Option Addr)(n c:Nat)(w:World):(Instr.build 39 #[(0,vi a),(6,.slice p n c)]).run Tryz.prog w = .ok (.agg #[vi a,vi 0,vi 0,vi 0,vi 0,.slice none 0 0,.slice p n c]) w:=by
 have h1:(vi a).cells = #[vi a]:=rfl;have h4:(Value.slice p n c).cells = #[.slice p n c]:=rfl;simp[Instr.build,Instr.fill,h1,h4];rfl
theorem AJ (E:World)(g:PH)(s:Own)(sp bs:Nat)(vL vG:Value)(L:List Int)(G:List Nat)(vn:Value)(ns:List Int)(q0 q1 q2 q3 q4:Int)(hL:dJ g vL L)(hG:SlA kJ g vG (G.map fun x:Nat=>(x:Int)))(hsp:sp<256)(hbs:bs<256)(hGb:∀ x∈G,x<256)(hn:dJ g vn ns) :
  Ctr Tryz.prog E 4 #[.agg #[.int .u8 (sp:Int),vL,vG,.int .u8 (bs:Int)],vn,.agg #[vi q0,vi q1,vi q2,vi q3,vi q4]] g s (fun r g' s'=>r=vb true∧s=s'∧Le g g'):=by
 obtain ⟨pL,cL,rfl⟩:=za3 hL;obtain ⟨pG,cG,rfl⟩:=za3 hG;obtain ⟨pn,cn,rfl⟩:=za3 hn;obtain ⟨hCf,hCl⟩:=ua sp L G bs;have hPl:=qh _ hCl;have hright:=r4 sp L G bs;have hC4:=tq hright;have hedg:=Cf hright;refine zb1 (args:=[.agg #[.int .u8 (sp:Int),.slice pL L.length cL,.slice pG (G.map fun x:Nat=>(x:Int)).length cG,.int .u8 (bs:Int)],.slice pn ns.length cn,.agg #[vi q0,vi q1,vi q2,vi q3,vi q4]]) func4 I ntmps4 (bE I)<|rZ (bW (bO I) fun b3=>?_);refine bW (bO I) fun b5=>aT I<|rZ<|lW (SO.call call9 I<|Eb E g _) ?_;rintro _ g1 _ ⟨rfl,rfl,hle1⟩;refine aT I<|rZ<|lK (qV 1 isAgg25 sizeOf25 I I I)<|lW (SO.call call10 I<|uM E g1 _ sp bs _ _ L G (za4 hL hle1) (za4 hG hle1) hsp hbs hGb) ?_;rintro _ g2 _ ⟨rfl,hle2,u2,rfl,hv2⟩;generalize fh sp L G bs=C at *;obtain ⟨qc,dc,rfl⟩:=hv2.form;refine bW (aL zl6) fun b8=>oZ (sK 0 ag I I I I I sB)<|tZ<|rZ<|lK (qV 0 ar ag I I I)<|lM I<|lW (SO.call call11 I<|AO E g2 _ _ _ C ns hv2 hCf oM (za4 hn<|hle1.trans hle2) oM) ?_;rintro mv g3 _ ⟨rfl,hle3,hm3⟩;have hm3:=za4 hm3<|jo _ _;refine aT I ?_;have hMl:=yb (eX C) ns;generalize sj (eX C) ns=M0 at *;have hv3:=hv2.mono hle3;have hEl0:=oB C M0 oM;have hle13:=hle1.trans<|hle2.trans hle3;obtain ⟨pm,cm,rfl⟩:=za3 hm3;refine SC.cut (ι:=PH×Option Addr×Nat×List Pr) (fun i=>[(5,pp b5 0),(7,vb true),(8,pp b8 0),(9,.slice i.2.1 i.2.2.2.length i.2.2.1)]) (fun i=>i.1) (fun _=>pt b8 (.cells #[.slice qc C.length dc] 29 (0,0))::pt b5 (.cells #[vi q0,vi q1,vi q2,vi q3,vi q4] 36 (0,0))::pt b3 (.cells #[.int .u8 (sp:Int),.slice pL L.length cL,.slice pG (G.map fun x:Nat=>(x:Int)).length cG,.int .u8 (bs:Int)] 25 (0,0))::s)
  (fun i=>Le g3 i.1∧SlA ax i.1 (.slice i.2.1 i.2.2.2.length i.2.2.1) i.2.2.2∧i.2.2.2.length≤100000000) ?_ ?_
 ·refine rZ<|lU (iB ui zT3 I I dC dC)<|lK (qL (v:=vi q3) iT3 I<|cO 1 I I)<|lU (zd8 I I dC)<|yE I<|tZ<|iP I (fun hz=>?_) (fun hz=>?_)
  ·refine rG<|lK (qV 0 ar ag I I I)<|lM I<|lW (SO.call call16 I<|lp E g3 _ _ _ C M0 hv3 hCf oM hm3 oM) ?_;rintro v30 g4 _ ⟨rfl,hle4,hx4⟩;obtain ⟨px,cx,rfl⟩:=za3 hx4;exact lA I<|nL<|za8 (g4,px,cx,eF C M0) sB I I ⟨hle4,hx4,by dsimp only; omega⟩
  ·exact kP<|za8 (g3,pm,cm,M0) sB I I ⟨zb8 _,hm3,by dsimp only; omega⟩
 rintro ⟨g4,px,cx,M⟩ ⟨hle4,hm4,hMl4⟩;dsimp only at hle4 hm4 hMl4 ⊢;have hv4:=hv3.mono hle4;have hIl:(eh C<|fu q4 2).length≤4000:=by
  have h1:(eh C<|fu q4 2).length≤(aW C).length:=by unfold eh; rw[ze6]; exact zc5 _ _
  have h2:=dN C;omega
 refine rZ<|lK (qV 0 ar ag I I I)<|lU (iB ui zT3 I I dC dC)<|lK (qL (v:=vi q0) iT3 I<|cO 1 I I)<|lU (iB ui zT3 I I dC dC)<|lK (qL (v:=vi q1) iT3 I<|cO 1 I I)<|lU (iB ui zT3 I I dC dC)<|lK (qL (v:=vi q2) iT3 I<|cO 1 I I)<|lU (za2 I<|build341 _ _ _)<|lW (SO.call call17 I<|vF E g4 _ _ C q0 q1 q2 hv4 hCf hedg hC4) ?_;rintro _ g5 _ ⟨rfl,hle5,e,heR,heO⟩;obtain ⟨hes,hep⟩:=heO.few;clear heO;obtain ⟨sv,pv,rfl,hsv,hpv⟩:=heR;obtain ⟨ps,cs,rfl⟩:=za3 hsv;obtain ⟨pp1,cp1,rfl⟩:=za3 hpv;have hv5:=hv4.mono hle5;refine bW (aL zeroValue39) fun b10=>oZ (sK 0 ft rfl rfl rfl rfl rfl<|by (repeat' (first | exact trivial | refine⟨by rfl,?_⟩))) ?_;refine tZ<|sQ ?_;refine dW [] [(0,1),(1,2),(2,1),(3,0),(4,0),(5,2)] ze3 kR ?_;refine pK I (qV 1 ar ag I I I)<|pU I (iB ui zT3 I I dC dC)<|pK I (qL (v:=vi q4) iT3 I<|cO 2 I I)<|SP.o I (SO.call call19 I<|ek E g5 _ q4 2 dC) dC (.inr iR) ?_;rintro _ _ _ ⟨rfl,rfl,rfl⟩;refine SP.o I (SO.call call18 I<|ja E g5 _ _ C (fu q4 2) hv5 hCf) dC (.inr iR) ?_;rintro _ g6 _ ⟨rfl,hle6,hI⟩;generalize eh C (fu q4 2)=idl0 at *;obtain ⟨pI,cI,rfl⟩:=za3 hI;have hv6:=hv5.mono hle6;refine pU I (aS I)<|pN<|tN ?_;refine SC.cut (ι:=PH×Ed×Sv×Sv) (fun i=>[(5,pp b5 0),(7,vb true),(8,pp b8 0),(9,.slice px M.length cx),(10,pp b10 0)]) (fun i=>i.1) (fun i=>pt b10 (.cells #[vi i.2.1.kind,vi i.2.1.cell,vi i.2.1.dim,vi i.2.1.new,vi i.2.1.other,.slice i.2.2.1.p i.2.1.sides.length i.2.2.1.c,.slice i.2.2.2.p i.2.1.pairs.length i.2.2.2.c] 39 (0,0))::pt b8 (.cells #[.slice qc C.length dc] 29 (0,0))::pt b5 (.cells #[vi q0,vi q1,vi q2,vi q3,vi q4] 36 (0,0))::pt b3 (.cells #[.int .u8 (sp:Int),.slice pL L.length cL,.slice pG (G.map fun x:Nat=>(x:Int)).length cG,.int .u8 (bs:Int)] 25 (0,0))::s)
  (fun i=>Le g6 i.1∧SlA encSide i.1 (.slice i.2.2.1.p i.2.1.sides.length i.2.2.1.c) i.2.1.sides∧SlA ax i.1 (.slice i.2.2.2.p i.2.1.pairs.length i.2.2.2.c) i.2.1.pairs∧i.2.1.sides.length≤3∧i.2.1.pairs.length≤1) ?_ ?_
 ·refine SC.cutB 53 (decide (Int.tmod q3 4=1)&&decide ((idl0.length:Int)>1)) ?_ ?_
  ·refine rG<|lU (iB ui zT3 I I dC dC)<|lK (qL (v:=vi q3) iT3 I<|cO 2 I I)<|lU (zd8 I I dC)<|yE I<|lM I<|sP ?_ ?_
   ·intro h49;exact yC I<|lY I I I (eN aG I)<|lY I I I (gR I I)<|yP I<|nL<|za9 (by simp_all[a7]) mI
   ·intro h49;exact yA I<|yA I<|yA I<|yF I<|nL<|za9 (by simp_all[a7]) mI
  refine iQ I (fun hk=>?_) (fun hk=>?_)
  ·simp only[zj3,zj6] at hk;have hbI:=za5 hI oM;obtain ⟨ha1,ha2⟩:=eO q1 idl0.length oM oM;obtain ⟨hb1,hb2⟩:=eO q2 idl0.length oM oM;have hga:idl0[(fu q1 idl0.length).toNat]?=some idl0[(fu q1 idl0.length).toNat]:=gE ha2;have hgb:idl0[(fu q2 idl0.length).toNat]?=some idl0[(fu q2 idl0.length).toNat]:=gE hb2;generalize idl0[(fu q1 idl0.length).toNat]=a at *;generalize idl0[(fu q2 idl0.length).toNat]=b at *;refine dW [19] [(0,2),(1,2),(2,1),(3,2),(4,2),(8,2),(9,2),(10,1),(11,2),(12,2),(5,0),(6,2),(7,1),(13,0),(14,2),(15,1),(16,2),(17,0),(18,2),(19,0)] ze3 kR<|yM I<|pU I (iB ui zT3 I I dC dC)<|pK I (qL (v:=vi q1) iT3 I<|cO 2 I I)<|yM I<|pU I (eN aG I)<|yM I<|pU I (iB ui zT3 I I dC dC)<|pK I (qL (v:=vi q2) iT3 I<|cO 2 I I)<|yM I<|pU I (eN aG I)<|SP.o I (SO.call call19 I<|ek E g6 _ q1 idl0.length oM) dC (.inr iR) ?_;rintro _ _ _ ⟨rfl,rfl,rfl⟩;rw[ha1];refine pU I (iA aG zT3 I I hbI oM sL)<|pK I (eB (u:=vi a) iT3 I (za6 hI) hga I)<|SP.o I (SO.call call19 I<|ek E g6 _ q2 idl0.length oM) dC (.inr iR) ?_;rintro _ _ _ ⟨rfl,rfl,rfl⟩;rw[hb1];refine pU I (iA aG zT3 I I hbI oM sL)<|pK I (eB (u:=vi b) iT3 I (za6 hI) hgb I)<|pU I (za2 I<|build44 _ _)<|SP.o I (bS sty31 I I I (ab ⟨I,trivial⟩) dC) dC (.inr iR) ?_;rintro _ _ _ ⟨b71,rfl,rfl,rfl⟩;refine SP.freeze fun g7 hle7 hb7=>?_;have hs7:SlA ax g7 (.slice (some ⟨b71,0,none⟩) 1 1) [(a,b)]:=SlA.lit hb7 rfl rfl;refine pU I (za2 I<|buildP39 _ _ _ _)<|SP.on rfl (sK 0 ft rfl rfl rfl rfl rfl<|by (repeat' (first | exact trivial | refine⟨by rfl,?_⟩))) (.inl dC) ?_;rintro _ _ _ ⟨rfl,rfl⟩;refine pN ?_;exact za8 (g7,⟨4,0,0,0,0,[],[(a,b)]⟩,⟨none,0,0⟩,⟨some ⟨b71,0,none⟩,1,1⟩) sB I I ⟨hle7,zb9 _ _,hs7,by simp,by simp⟩
  ·exact kP<|za8 (g6,e,⟨ps,0,cs⟩,⟨pp1,0,cp1⟩) sB I I ⟨zb8 _,za4 hsv hle6,za4 hpv hle6,hes,by dsimp only; omega⟩
 rintro ⟨g7,e7,⟨ps7,z1,cs7⟩,⟨pp7,z2,cp7⟩⟩ ⟨hle7,hsv7,hpv7,hes7,hep7⟩;dsimp only at hle7 hsv7 hpv7 hes7 hep7 ⊢;have hv7:=hv6.mono hle7;have hm7:=za4 hm4<|hle5.trans<|hle6.trans hle7;refine SC.cut (ι:=Ed) (fun _=>[(5,pp b5 0),(7,vb true),(8,pp b8 0),(9,.slice px M.length cx),(10,pp b10 0)]) (fun _=>g7) (fun i=>pt b10 (.cells #[vi i.kind,vi i.cell,vi i.dim,vi i.new,vi i.other,.slice ps7 e7.sides.length cs7,.slice pp7 e7.pairs.length cp7] 39 (0,0))::pt b8 (.cells #[.slice qc C.length dc] 29 (0,0))::pt b5 (.cells #[vi q0,vi q1,vi q2,vi q3,vi q4] 36 (0,0))::pt b3 (.cells #[.int .u8 (sp:Int),.slice pL L.length cL,.slice pG (G.map fun x:Nat=>(x:Int)).length cG,.int .u8 (bs:Int)] 25 (0,0))::s)
  (fun i=>i.sides=e7.sides∧i.pairs=e7.pairs) ?_ ?_
 ·refine rZ<|lU (iB ui zT3 I I dC dC)<|lK (qL (v:=vi q3) iT3 I<|cO 2 I I)<|lU (zd8 I I dC)<|yE I<|tZ<|iP I (fun hz=>?_) (fun hz=>?_)
  ·refine rG<|lU (iB ui zT3 rfl rfl dC dC)<|lK (qL (v:=vi q1) iT3 rfl<|cO 2 rfl rfl)<|lU (fA aJ rfl zT3 rfl)<|oZ (SO.store1 0 zT3 rfl rfl rfl rfl (bE rfl)<|by rfl) ?_;refine nL ?_;exact za8 (⟨e7.kind,q1,e7.dim,e7.new,e7.other,e7.sides,e7.pairs⟩:Ed) sB I I ⟨I,I⟩
  ·exact kP<|za8 e7 sB I I ⟨I,I⟩
 rintro x ⟨hx1,hx2⟩;try dsimp only at hx1 hx2 ⊢
 have hEd:∀ h,Le g7 h→EdR h (.agg #[vi x.kind,vi x.cell,vi x.dim,vi x.new,vi x.other,.slice ps7 e7.sides.length cs7,.slice pp7 e7.pairs.length cp7]) x:=fun h hle=>⟨_,_,rfl,by rw[hx1]; exact za4 hsv7 hle,by rw[hx2]; exact za4 hpv7 hle⟩;have hxs:x.sides.length≤3:=by rw[hx1]; exact hes7
 have hxp:x.pairs.length≤1:=by rw[hx2]; exact hep7
 have hA1:=Dq hCf x oM oM;have hA2:=Ec hCf x oM oM;have hXf:=AR C x;have hXl:=Ct C x;have hXb:=rB (l:=C) (e:=x);generalize gn C x=AP at *;obtain ⟨code,X⟩:=AP;dsimp only at hA1 hA2 hXf hXl hXb;have hOb:(bZ M x code X).1≠0→(bZ M x code X).2=([],[]):=fun h=>by
  unfold bZ at h ⊢;split at h
  ·rename_i h1; rw[zg1 h1]
  ·exact absurd I h
 have hRl:(bZ M x code X).2.2.length<1099511627776:=by
  unfold bZ;split
  ·simp
  ·have h1:=oB X (M.map fun p=>(fK x p.1,fK x p.2)) oM;rw[ze6] at h1;show (eF X _).length<_;omega
 have hRf:a8 (bZ M x code X).2.1:=by
  unfold bZ;split
  ·exact⟨by simp,by simp⟩
  ·exact hXf
 have hR1:=fun (g:PH) (s:Own) (hle:Le g7 g) (hv:ak g (.slice qc C.length dc) C) (hm:SlA ax g (.slice px M.length cx) M)=>gG E g s _ _ _ C M x code X hv hm (hEd g hle) oM oM hA1 (fun h=>⟨hXf,oM⟩);have hR2:=fun (g:PH) (s:Own) (hle:Le g7 g) (hv:ak g (.slice qc C.length dc) C) (hm:SlA ax g (.slice px M.length cx) M)=>pw E g s _ _ _ C M x code X hv hm (hEd g hle) oM oM hA2 (fun h=>⟨hXf,oM⟩);generalize bZ M x code X=O at *;obtain ⟨oc,oX,oP⟩:=O;dsimp only at hRl hRf hOb;have hle17:=hle13.trans<|hle4.trans<|hle5.trans<|hle6.trans hle7;by_cases hz:oc=0
 ·refine rZ<|lK (qV 1 ar ag I I I)<|lM I<|lK (qV 0 jB ft I I I)<|lW (SO.call call20 I<|hR1 g7 _ (zb8 _) hv7 hm7) ?_;rintro _ g8 _ ⟨rfl,hle8,u8,pv8,rfl,hu8,hp8⟩;obtain ⟨q8,d8,rfl⟩:=hu8.form;obtain ⟨q8b,d8b,rfl⟩:∃ p c,pv8 = .slice p oP.length c:=za3 hp8;have hv8:=hv7.mono hle8;have hm8:=za4 hm7 hle8;refine lM I (yX I<|yX I<|yX I<|bW (aL zl6) fun b12=>?_);refine oZ (sK 0 ag I I I I I sB)<|lA I<|aT I<|rZ<|lK (qV 2 ar ag I I I)<|lM I<|lK (qV 1 jB ft I I I)<|lW (SO.call call21 I<|hR2 g8 _ hle8 hv8 hm8) ?_;rintro _ g9 _ ⟨rfl,hle9,u9,pv9,rfl,hu9,hp9⟩;obtain ⟨q9,d9,rfl⟩:=hu9.form;obtain ⟨q9b,d9b,rfl⟩:=za3 hp9;have hu8:=hu8.mono hle9;have hp8:=za4 hp8 hle9;have hle79:=hle8.trans hle9;refine lM I (yX I<|yX I<|yX I<|bW (aL zl6) fun b15=>?_);refine oZ (sK 0 ag I I I I I sB)<|lA I<|aT I<|sW I<|lM I<|yC I<|yC I<|lY I I I (SU.eq (v':=vb true) (eQ I I)<|ze2 vb<|zf8 I)<|yP I<|lM I<|SL.gq (gT I I I dC) (qV 1 ar ag I I I) dC<|SL.gq (gT I I I dC) (qV 0 ar ag I I I) dC<|ze1 (gT I I I dC) (SO.call call22 I<|lm E g9 _ _ _ oX oX hu8 hu9 hRf hRf) dC ?_;rintro _ gA _ ⟨rfl,rfl,hleA⟩;rw[zf8 (rfl:aa oX=aa oX)];refine yP I<|lM I<|yC I<|yC I<|ze1 (gT I I I dC) (SO.call call12 I<|fo E gA _ _ _ oP (za4 hp8 hleA) (za4 hp9 hleA) hRl) dC ?_;rintro _ _ _ ⟨rfl,rfl,rfl⟩;exact yP I<|lM I<|yC I<|lY I I I (SU.eq (v':=vb true) (eQ I I)<|ze2 vb<|zf8 hz)<|yC I<|yA I<|yA I<|yA I<|yA I<|yA I<|yA I<|yA I<|lY I I I (wT I I)<|yP I<|aT I<|rE<|dR (s':=s) uR<|za7 (.inl I) results4 I ⟨I,I,hle17.trans<|hle79.trans hleA⟩
 ·have hXP:=hOb hz;obtain ⟨hl1,hl2⟩:oX.length=0∧oP.length=0:=by injection hXP with h1 h2; rw[h1,h2]; exact⟨I,I⟩
  refine rZ<|lK (qV 1 ar ag I I I)<|lM I<|lK (qV 0 jB ft I I I)<|lW (SO.call call20 I<|hR1 g7 _ (zb8 _) hv7 hm7) ?_;rintro _ g8 _ ⟨rfl,hle8,u8,pv8,rfl,hu8,hp8⟩;obtain ⟨q8,d8,rfl⟩:=hu8.form;obtain ⟨q8b,d8b,rfl⟩:∃ p c,pv8 = .slice p oP.length c:=za3 hp8;have hv8:=hv7.mono hle8;have hm8:=za4 hm7 hle8;refine lM I (yX I<|yX I<|yX I<|bW (aL zl6) fun b12=>?_);refine oZ (sK 0 ag I I I I I sB)<|lA I<|aT I<|rZ<|lK (qV 2 ar ag I I I)<|lM I<|lK (qV 1 jB ft I I I)<|lW (SO.call call21 I<|hR2 g8 _ hle8 hv8 hm8) ?_;rintro _ g9 _ ⟨rfl,hle9,u9,pv9,rfl,hu9,hp9⟩;obtain ⟨q9,d9,rfl⟩:=hu9.form;obtain ⟨q9b,d9b,rfl⟩:=za3 hp9;have hu8:=hu8.mono hle9;have hp8:=za4 hp8 hle9;have hle79:=hle8.trans hle9;refine lM I (yX I<|yX I<|yX I<|bW (aL zl6) fun b15=>?_);refine oZ (sK 0 ag I I I I I sB)<|lA I<|aT I<|sW I<|lM I<|yC I<|yC I<|lY I I I (SU.eq (v':=vb true) (eQ I I)<|ze2 vb<|zf8 I)<|yP I<|lM I<|SL.gq (gT I I I dC) (qV 1 ar ag I I I) dC<|SL.gq (gT I I I dC) (qV 0 ar ag I I I) dC<|ze1 (gT I I I dC) (SO.call call22 I<|lm E g9 _ _ _ oX oX hu8 hu9 hRf hRf) dC ?_;rintro _ gA _ ⟨rfl,rfl,hleA⟩;rw[zf8 (rfl:aa oX=aa oX)];refine yP I<|lM I<|yC I<|yC I<|ze1 (gT I I I dC) (SO.call call12 I<|fo E gA _ _ _ oP (za4 hp8 hleA) (za4 hp9 hleA) hRl) dC ?_;rintro _ _ _ ⟨rfl,rfl,rfl⟩;exact yP I<|lM I<|yC I<|lY I I I (SU.eq (v':=vb false) (eQ I I)<|ze2 vb<|zf7 hz)<|yC I<|lY I I I (fA du I di I)<|SL.gq (gT I I I dC) (qL (v:=.slice q8 oX.length d8) dU I<|cO 1 I I) dC<|lY I I I (eN aF I)<|yC I<|lY I I I (eN cC I)<|lY I I I (aD I I oM)<|lY I I I (SU.eq (v':=vb true) (eQ I I)<|ze2 vb<|zf8 oM)<|lY I I I (wF I I)<|yP I<|aT I<|rE<|dR (s':=s) uR<|za7 (.inl I) results4 I ⟨I,I,hle17.trans<|hle79.trans hleA⟩
theorem x5 (E:World)(g:PH)(s:Own)(sp bs:Nat)(vL vG:Value)(L:List Int)(G:List Nat)(vn:Value)(ns:List Int)(q0 q1 q2 q3 q4:Int)(hL:dJ g vL L)(hG:SlA kJ g vG (G.map fun x:Nat=>(x:Int)))(hsp:sp<256)(hbs:bs<256)(hGb:∀ x∈G,x<256)(hn:dJ g vn ns)(_:lB q0)(_:lB q1)(_:lB q2)(_:lB q3)(_:lB q4) :
  Ctr Tryz.prog E 4 #[.agg #[.int .u8 (sp:Int),vL,vG,.int .u8 (bs:Int)],vn,.agg #[vi q0,vi q1,vi q2,vi q3,vi q4]] g s (fun r g' s'=>r=vb true∧s=s'∧Le g g') :=
 AJ E g s sp bs vL vG L G vn ns q0 q1 q2 q3 q4 hL hG hsp hbs hGb hn
open Go.ChangeShapes Go.WideShapes Go.ChangeAt Go.RowKit
set_option maxRecDepth 100000
section
variable {H:Type}{enc:TypeId×Value→H}{W:World}{base:Nat}{spare:Nat→Bool}{hd:Bool}
theorem Tryz.cells36:Tryz.prog.cellsOf 36=5:=by kernel_rfl
theorem DP {r:Reach}{b0:Nat}{v:Value}{d:DataW H}{p:List MemPlace}(hv:Value.okWide Tryz.prog W r b0 36 v)(h:DataW.Trod enc Tryz.prog W base spare hd 36 v d p) :
  ∃ a b c x y:Int,v = .agg #[vi a,vi b,vi c,vi x,vi y]∧lB a∧lB b∧lB c∧lB x∧lB y:=by
 obtain ⟨cs,rfl,hsz⟩:=tW ui hv;rw[cells36] at hsz;obtain ⟨l⟩:=cs
 match l,hsz with
 | [c0,c1,c2,c3,c4],_ =>
  obtain ⟨fuel,hf⟩:=h;obtain ⟨xs,m,_,_,_,hl,hel⟩:=DataW.trod_array ui (show DataW.trod enc Tryz.prog W base spare hd fuel 36 [c0,c1,c2,c3,c4]=some (d,p) by simpa [Value.cells] using hf);have h0:=hel 0 dC;have h1:=hel 1 dC;have h2:=hel 2 dC;have h3:=hel 3 dC;have h4:=hel 4 dC;rw[cells3,gE oM] at h0 h1 h2 h3 h4;obtain ⟨a,e0,_,w0⟩:=DataW.trod_int uT3 h0;obtain ⟨b,e1,_,w1⟩:=DataW.trod_int uT3 h1;obtain ⟨c,e2,_,w2⟩:=DataW.trod_int uT3 h2;obtain ⟨x,e3,_,w3⟩:=DataW.trod_int uT3 h3;obtain ⟨y,e4,_,w4⟩:=DataW.trod_int uT3 h4;simp at e0 e1 e2 e3 e4;subst e0 e1 e2 e3 e4;exact⟨a,b,c,x,y,I,sh w0,sh w1,sh w2,sh w3,sh w4⟩
end
end Go.Proofs.YtmmghffoakhheaaGreatDoor
namespace Go.Proofs.YtmmghffoakhheaaGreatDoor.repairEditsDone
open _root_.Go.Proofs.Tryz _root_.Go.Proofs.YtmmghffoakhheaaGreatDoor.Tryz
open Go Go.Sy Go.Pl Go.Proofs Go.Proofs.YtmmghffoakhheaaGreatDoor
open Go.ChangeShapes Go.WideShapes Go.ChangeAt Go.RowKit
set_option linter.unusedVariables false
theorem own:ownKnob Tryz.prog.godebug=none:=by kernel_rfl
theorem laidOut:laidOutB Tryz.prog=true:=by kernel_rfl
set_option maxRecDepth 100000 in
theorem lifted (os:Os)(started:os.Started)(H:Type)(enc:TypeId×Value→H) :
  ReturnsInHanded {} Tryz.checked os 4 .any (fun w args=>(Rows.repairEditsSpec.pre enc Tryz.prog f4 Rows.repairEditsRow.domain false w args∧laidMetH Tryz.prog Rows.repairEditsRow.laid w)∧sizedMet enc Tryz.prog f4 (OpenSpec.ofChange Rows.repairEditsSpec) false w args)
   (Rows.repairEditsSpec.post enc Tryz.prog f4 false true false false):=by
 refine returnsInHanded_of_change_and (C:=Tryz.checked) (X:=fun w _=>laidMetH Tryz.prog Rows.repairEditsRow.laid w) (fun _ _ _ hh h=>h.of_heap hh) own started kR func4
  (ChangeSpec.witness_shaped (enc:=enc) (C:=Tryz.checked) (os:=os) (X:=fun w _=>laidMetH Tryz.prog Rows.repairEditsRow.laid w) false (World.laidAll Tryz.prog os Rows.repairEditsRow.laid) #[.agg #[.int .u8 0,.slice none 0 0,.slice none 0 0,.int .u8 0],.slice none 0 0,.agg #[.int .i64 0,.int .i64 0,.int .i64 0,.int .i64 0,.int .i64 0]] 8 (World.laidAll_os _ _ _)
   (World.shaped_of_ZipB kR kR) kR kR kR
   (by rw[MakeChecks.laidMetH_plain _ _ _ kR]; exact laidMet_laidAll _ kR kR)) ?_
 intro W base args ds gs before hval0 hW hcnd hsz0 hL _;have hval:∀ (j:Nat) t v,f4.params[j]?=some t→args[j]?=some v→Value.okWide Tryz.prog W .any base t v:=hval0;have hW':=hW;obtain ⟨p,q,hA0,hV,rfl,hfz,hnd⟩:=hW;have hA:DataW.TrodAll enc Tryz.prog W 0 (fun _=>true) true f4.params.toList args.toList ds p:=hA0;rw[params4] at hA hval;obtain ⟨v0,vs0,d0,ds0,p0,q0,hargs,rfl,rfl,h0,r0⟩:=trodAll_cons hA;obtain ⟨v1,vs1,d1,ds1,p1,q1,rfl,rfl,rfl,h1,r1⟩:=trodAll_cons r0;obtain ⟨v2,vs2,d2,ds2,p2,q2,rfl,rfl,rfl,h2,r2⟩:=trodAll_cons r1;obtain ⟨rfl,rfl,rfl⟩:=trodAll_nil r2;obtain rfl:args = #[v0,v1,v2]:=by cases args; simp_all
 obtain ⟨rfl,rfl⟩:=trodVars_none hV;have lt0:∀ x∈p0,x.block<W.heap.size:=by obtain ⟨m,hm⟩:=h0; exact DataW.trod_lt m _ _ _ hm
 have lt1:∀ x∈p1,x.block<W.heap.size:=by obtain ⟨m,hm⟩:=h1; exact DataW.trod_lt m _ _ _ hm
 have lt2:∀ x∈p2,x.block<W.heap.size:=by obtain ⟨m,hm⟩:=h2; exact DataW.trod_lt m _ _ _ hm
 obtain ⟨sp,bs,vL,vG,L,G,e0,hL0,hG0,hsp,hbs,hGb⟩:=zQ (hval 0 25 v0 rfl rfl) h0;obtain ⟨a1,n1,c1,s1⟩:=okWide_slice aG<|hval 1 22 v1 rfl rfl;obtain ⟨ns1,hn1⟩:=B4 h1 (by rw[s1]; rfl);obtain ⟨x2_0,x2_1,x2_2,x2_3,x2_4,e2,w2_0,w2_1,w2_2,w2_3,w2_4⟩:=DP (hval 2 36 v2 rfl rfl) h2;clear hA0 hval0;have walk:Calls Tryz.prog 4 #[v0,v1,v2] W fun e w'=>e = .returned (.bool true)∧Below W.heap.size W w':=by
  rw[e0,e2];refine (x5 (E0 W) (vT W) [] sp bs vL vG L G _ ns1 x2_0 x2_1 x2_2 x2_3 x2_4 hL0 hG0 hsp hbs hGb hn1 w2_0 w2_1 w2_2 w2_3 w2_4 W (Cq W)).mono ?_;rintro e w' ⟨v,g',s',rfl,hat,rfl,rfl,hle⟩;exact⟨I,Cs hat hle⟩
 refine walk.mono fun e W' ⟨he,bel⟩=>?_;subst he;exact⟨_,I,_,_,_,[],_,[],hW',trodAll_mk1<|shut_bool underlying4 _,(trodAll_cons_mk (Below.trod laidOut kR (zg3 kR) h0 bel lt0)<|trodAll_cons_mk (Below.trod laidOut kR (zg3 kR) h1 bel lt1)<|trodAll_cons_mk (Below.trod laidOut kR (zg3 kR) h2 bel lt2) trodAll_mk0),I,bel.frame _,fun h=>by cases h⟩
theorem over:Rows.repairEditsRow.holds Tryz.pinned (OpenSpec.ofChange Rows.repairEditsSpec) :=
 OpenClaim.holds_of_wide 4 f4 rfl rfl rfl rfl rfl rfl rfl ⟨rfl,rfl,rfl,rfl,rfl⟩ rfl rfl rfl rfl rfl kR func4 kR
  (zg3 kR) (by unfold Func.isWrapper; first | (rw[zg1 (by decide +kernel)]; kernel_rfl) | (rw[zf9 (by decide +kernel)]; exact⟨I,I⟩))
  (fun os started H enc _=>lifted os started H enc)
theorem proved:Rows.RepairEditsCardSaid :=
 Claim7.holds_tied_plain_at .later [] [.data,.pinned] true (true, "cc8490d755c8efa2bd5732542271e696329d87e8c2c1e45e59e8eb19c18b2b4e") false
  over (fun _ h=>by cases h) kR (fun _ h=>by cases h) repairEdits_row_tie rfl ⟨rfl,rfl⟩ kR rfl
  (fun f fn hf hfn=>by
   obtain rfl : f = 4:=Option.some.inj ((show Tryz.prog.funcNamed "cocycle/cocyclelaw14.RepairEdits" = some 4 by kernel_rfl).symm.trans hf) |>.symm
   obtain rfl:fn=f4:=(Option.some.inj (func4.symm.trans hfn)).symm;exact⟨by kernel_rfl,fun j t ht=>by
    rw[params4] at ht;have hm:t∈[25,22,36]:=by simpa using Array.mem_of_getElem? ht
    have hall:([25,22,36].all fun u=>!Tryz.prog.wantsStandIn u)=true:=by kernel_rfl
    exact (show Tryz.prog.wantsStandIn t=false by simpa using zj9.1 hall t hm)⟩)
  kR
#print axioms proved
end Go.Proofs.YtmmghffoakhheaaGreatDoor.repairEditsDone
