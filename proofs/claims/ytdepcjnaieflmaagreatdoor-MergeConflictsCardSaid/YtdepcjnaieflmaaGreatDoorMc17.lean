/-
  The law MergeConflicts holds: conflicts are cells that both sides have changed, and differently; or, if there are none, cells that one side has, and that lean on what the other one has changed.
-/
import Derived.Test.YtdepcjnaieflmaaGreatDoorMc16
import Derived.Test.YtdepcjnaieflmaaGreatDoorTie
import Derived.Test.YtdepcjnaieflmaaGreatDoorCards
import Derived.JoinedOf
import Derived.LaidMore
import Derived.Lay
import Derived.SevenTiedAt
import Derived.Stop.Joined
set_option linter.unusedSimpArgs false
set_option linter.unusedVariables false
namespace Go.Proofs.YtdepcjnaieflmaaGreatDoor
open _root_.Go.Proofs.Tryz _root_.Go.Proofs.YtdepcjnaieflmaaGreatDoor.Tryz
open Go Go.Sy Go.Pl Go.Proofs
set_option maxRecDepth 100000
set_option maxHeartbeats 8000000
def EdL (es:List Ed):Prop:=(∀ e∈es,EdT e)∧es.length≤12
theorem vw (E:World)(g:PH)(s:Own)(v av bv:Value)(F y:Int)(ls:List (List Int))(ac N:List Ac)(hv:cQ g v ls)(ha:SlA lj g av ac)(hb:SlA lj g bv N)(P:∀ a∈ac,A64 a)(Q:∀ a∈N,A64 a) :
  Ctr Tryz.prog E 7 #[.agg #[vi F,v,vi y],av,bv] g s (fun r g' s'=>s=s'∧Le g g'∧∃ x u w es D,r = .tuple #[.agg #[x],.agg #[u],.agg #[w]]∧ai g' x (jO F ls y)∧EdL es∧EdL D∧ai g' u (ik (jO F ls y) es).2.1∧ai g' w (ik (jO F ls y) D).2.1):=by
 have J:=yh F ls y;have l:=rf F ls y;obtain ⟨p,n,c,rfl⟩:∃ p n c,v = .slice p n c:=by
  obtain ⟨a3,R,_⟩:=hv;obtain ⟨p,c,rfl⟩:=za4 R;exact⟨_,_,_,I⟩
 obtain ⟨pa,ca,rfl⟩:=za4 ha;obtain ⟨pb,cb,rfl⟩:=za4 hb;refine zb2 (args:=[.agg #[vi F,.slice p n c,vi y],.slice pa ac.length ca,.slice pb N.length cb]) func7 I ntmps7 (bE I)<|rZ (bW (bO I) fun b3=>?_);refine bW (aL zl3) fun W=>bW (aL zl3) fun X=>bW (aL zl3) fun Y=>tZ<|rZ<|lK (qV 3 isAgg24 sizeOf24 I I I)<|lW (SO.call call22 I<|Cc E g _ _ F y ls hv) ?_;rintro _ g1 _ ⟨rfl,G,xm,rfl,O⟩;generalize jO F ls y=M at *;obtain ⟨pM,cM,rfl⟩:=O.form;have S:=za5 ha G;have a0:=za5 hb G;refine bW (aL zl3) fun Z=>oZ (sK 0 ae I I I I I sB)<|tZ<|SC.cut (ι:=Nat×PH×Sv×List Ed) (fun i=>[(2,.slice pb N.length cb),(6,pp W 0),(7,pp X 0),(8,pp Y 0),(9,pp Z 0),(10,pp i.1 0)]) (fun i=>i.2.1) (fun i=>pt i.1 (bY #[.slice i.2.2.1.p i.2.2.1.n i.2.2.1.c] 29)::pt Z (bY #[.slice pM M.length cM] 29)::pt Y (bY #[.slice none 0 0] 29)::pt X (bY #[.slice none 0 0] 29)::pt W (bY #[.slice none 0 0] 29)::pt b3 (bY #[vi F,.slice p n c,vi y] 24)::s) (fun i=>Le g1 i.2.1∧EdL i.2.2.2∧ai i.2.1 (.slice i.2.2.1.p i.2.2.1.n i.2.2.1.c) (ik M i.2.2.2).2.1) ?_ ?_
 ·refine SC.drawX [11] ze5 kR ?_;refine SX.q (i:=0) I kR (qV 0 an ae I I I) dC<|SX.q (i:=1) I kR (qV 0 an ae I I I) dC<|SX.u (i:=2) I kR (mV I) dC ?_
  repeat' (first
   | ((with_reducible refine SB.k 11 ?_);refine SB.on (i:=11) I (sK 0 ae I I I I I ⟨I,trivial⟩) (.inl dC) ?_;rintro _ _ _ ⟨rfl,rfl⟩;refine SX.u (i:=12) I kD (aS I) dC ?_;refine SX.u (i:=13) I kD (aS I) dC ?_;refine SX.u (i:=14) I kD (aS I) dC ?_)
   | ((with_reducible refine SB.k 10 ?_);first | (refine SB.o (i:=10) rfl (aL zl3) dC (.inr (by rintro _ _ _ ⟨bv,rfl,rfl,rfl⟩;exact⟨by assumption,(by exact .cons _<|.refl _)⟩)) ?_;rintro _ _ _ ⟨bv,rfl,rfl,rfl⟩) | (refine SB.o (i:=10) rfl (aL zl3) dC (.inr (by rintro _ _ _ ⟨bv,rfl,rfl,rfl⟩;exact⟨by exact zb9 _,(by exact .cons _<|.refl _)⟩)) ?_;rintro _ _ _ ⟨bv,rfl,rfl,rfl⟩))
   | ((with_reducible refine SB.k 4 ?_);first | (refine SB.o (i:=4) rfl (SO.call call23 rfl<|rW E gx _ _ _ M es (O.mono b) l m (fun e L=>(d e L).1) oM) dC (.inr (by rintro _ gz _ ⟨rfl,f,A⟩;exact⟨by exact Le.trans io io,(by exact .refl _)⟩)) ?_;rintro _ gz _ ⟨rfl,f,A⟩;obtain ⟨u,p1,n1,c1,rfl,K,hS⟩:=A;obtain ⟨pu,T,rfl⟩:=K.form;have t:=b.trans f;refine SX.u (i:=5) I kD (mV I) dC ?_;refine SX.u (i:=6) I kD (xT I I) dC ?_;refine SX.u (i:=7) I kD (xT I I) dC ?_;refine SX.u (i:=8) I kD (xT I I) dC ?_;refine SX.u (i:=9) rfl kD (xT rfl rfl) dC ?_) | (refine SB.o (i:=4) rfl (SO.call call23 rfl<|rW E gx _ _ _ M es (O.mono b) l m (fun e L=>(d e L).1) oM) dC (.inr (by rintro _ gz _ ⟨rfl,f,A⟩;exact⟨by exact Le.trans io io,(by exact .cons _<|.refl _)⟩)) ?_;rintro _ gz _ ⟨rfl,f,A⟩;obtain ⟨u,p1,n1,c1,rfl,K,hS⟩:=A;obtain ⟨pu,T,rfl⟩:=K.form;have t:=b.trans f;refine SX.u (i:=5) I kD (mV I) dC ?_;refine SX.u (i:=6) I kD (xT I I) dC ?_;refine SX.u (i:=7) I kD (xT I I) dC ?_;refine SX.u (i:=8) I kD (xT I I) dC ?_;refine SX.u (i:=9) I kD (xT I I) dC ?_))
   | ((with_reducible refine SB.k 3 ?_);first | (refine SB.o (i:=3) rfl (SO.call call24 rfl<|fp E g1 _ _ _ M ac true O l S J P) dC (.inr (by rintro _ gx _ ⟨rfl,b,es,m,d,j⟩;exact⟨by assumption,(by exact .refl _)⟩)) ?_;rintro _ gx _ ⟨rfl,b,es,m,d,j⟩) | (refine SB.o (i:=3) rfl (SO.call call24 rfl<|fp E g1 _ _ _ M ac true O l S J P) dC (.inr (by rintro _ gx _ ⟨rfl,b,es,m,d,j⟩;exact⟨by assumption,(by exact .cons _<|.refl _)⟩)) ?_;rintro _ gx _ ⟨rfl,b,es,m,d,j⟩))
   | ((with_reducible refine SX.k 11 ?_);first | refine zd7 3 kD ?_ | refine zd8 4 10 kD ?_ ?_)
   | ((with_reducible refine SX.k 10 ?_);refine zd7 4 kD ?_)
   | ((with_reducible refine SX.k 5 ?_);refine zd7 10 kD ?_)
   | ((with_reducible refine SX.k 4 ?_);refine zd7 11 kD ?_)
   | ((with_reducible refine SX.k 0 ?_);refine SX.nil kD ?_;exact za9 (bv,gz,⟨pu,(ik M es).2.1.length,T⟩,es) sB I I ⟨t,⟨d,j⟩,K⟩)
   | (refine SX.k 12 ?_;refine zd8 3 10 kD ?_ ?_))
 rintro ⟨U,g2,⟨pL,nL,cL⟩,es⟩ ⟨B,m,hL⟩;dsimp only at B m hL ⊢;have H:=O.mono B;have V:=za5 a0 B;refine SC.cut (ι:=Nat×PH×Sv×List Ed) (fun i=>[(6,pp W 0),(7,pp X 0),(8,pp Y 0),(9,pp Z 0),(10,pp U 0),(14,pp i.1 0)]) (fun i=>i.2.1) (fun i=>pt i.1 (bY #[.slice i.2.2.1.p i.2.2.1.n i.2.2.1.c] 29)::pt U (bY #[.slice pL nL cL] 29)::pt Z (bY #[.slice pM M.length cM] 29)::pt Y (bY #[.slice none 0 0] 29)::pt X (bY #[.slice none 0 0] 29)::pt W (bY #[.slice none 0 0] 29)::pt b3 (bY #[vi F,.slice p n c,vi y] 24)::s) (fun i=>Le g2 i.2.1∧EdL i.2.2.2∧ai i.2.1 (.slice i.2.2.1.p i.2.2.1.n i.2.2.1.c) (ik M i.2.2.2).2.1) ?_ ?_
 ·refine SC.drawX [11] ze5 kR ?_;refine SX.q (i:=0) I kR (qV 1 an ae I I I) dC<|SX.q (i:=1) I kR (qV 1 an ae I I I) dC<|SX.u (i:=2) I kR (mV I) dC ?_
  repeat' (first
   | ((with_reducible refine SB.k 11 ?_);refine SB.on (i:=11) I (sK 0 ae I I I I I ⟨I,trivial⟩) (.inl dC) ?_;rintro _ _ _ ⟨rfl,rfl⟩;refine SX.u (i:=12) I kD (aS I) dC ?_;refine SX.u (i:=13) I kD (aS I) dC ?_;refine SX.u (i:=14) I kD (aS I) dC ?_)
   | ((with_reducible refine SB.k 10 ?_);first | (refine SB.o (i:=10) rfl (aL zl3) dC (.inr (by rintro _ _ _ ⟨bv,rfl,rfl,rfl⟩;exact⟨by assumption,(by exact .cons _<|.refl _)⟩)) ?_;rintro _ _ _ ⟨bv,rfl,rfl,rfl⟩) | (refine SB.o (i:=10) rfl (aL zl3) dC (.inr (by rintro _ _ _ ⟨bv,rfl,rfl,rfl⟩;exact⟨by exact zb9 _,(by exact .cons _<|.refl _)⟩)) ?_;rintro _ _ _ ⟨bv,rfl,rfl,rfl⟩))
   | ((with_reducible refine SB.k 4 ?_);first | (refine SB.o (i:=4) rfl (SO.call call23 rfl<|rW E gx _ _ _ M D (H.mono b) l z (fun e L=>(d e L).1) oM) dC (.inr (by rintro _ gz _ ⟨rfl,f,A⟩;exact⟨by exact Le.trans io io,(by exact .refl _)⟩)) ?_;rintro _ gz _ ⟨rfl,f,A⟩;obtain ⟨u,p1,n1,c1,rfl,K,hS⟩:=A;obtain ⟨pu,T,rfl⟩:=K.form;have t:=b.trans f;refine SX.u (i:=5) I kD (mV I) dC ?_;refine SX.u (i:=6) I kD (xT I I) dC ?_;refine SX.u (i:=7) I kD (xT I I) dC ?_;refine SX.u (i:=8) I kD (xT I I) dC ?_;refine SX.u (i:=9) rfl kD (xT rfl rfl) dC ?_) | (refine SB.o (i:=4) rfl (SO.call call23 rfl<|rW E gx _ _ _ M D (H.mono b) l z (fun e L=>(d e L).1) oM) dC (.inr (by rintro _ gz _ ⟨rfl,f,A⟩;exact⟨by exact Le.trans io io,(by exact .cons _<|.refl _)⟩)) ?_;rintro _ gz _ ⟨rfl,f,A⟩;obtain ⟨u,p1,n1,c1,rfl,K,hS⟩:=A;obtain ⟨pu,T,rfl⟩:=K.form;have t:=b.trans f;refine SX.u (i:=5) I kD (mV I) dC ?_;refine SX.u (i:=6) I kD (xT I I) dC ?_;refine SX.u (i:=7) I kD (xT I I) dC ?_;refine SX.u (i:=8) I kD (xT I I) dC ?_;refine SX.u (i:=9) I kD (xT I I) dC ?_))
   | ((with_reducible refine SB.k 3 ?_);first | (refine SB.o (i:=3) rfl (SO.call call24 rfl<|fp E g2 _ _ _ M N true H l V J Q) dC (.inr (by rintro _ gx _ ⟨rfl,b,D,z,d,j⟩;exact⟨by assumption,(by exact .refl _)⟩)) ?_;rintro _ gx _ ⟨rfl,b,D,z,d,j⟩) | (refine SB.o (i:=3) rfl (SO.call call24 rfl<|fp E g2 _ _ _ M N true H l V J Q) dC (.inr (by rintro _ gx _ ⟨rfl,b,D,z,d,j⟩;exact⟨by assumption,(by exact .cons _<|.refl _)⟩)) ?_;rintro _ gx _ ⟨rfl,b,D,z,d,j⟩))
   | ((with_reducible refine SX.k 11 ?_);first | refine zd7 3 kD ?_ | refine zd8 4 10 kD ?_ ?_)
   | ((with_reducible refine SX.k 10 ?_);refine zd7 4 kD ?_)
   | ((with_reducible refine SX.k 5 ?_);refine zd7 10 kD ?_)
   | ((with_reducible refine SX.k 4 ?_);refine zd7 11 kD ?_)
   | ((with_reducible refine SX.k 0 ?_);refine SX.nil kD ?_;exact za9 (bv,gz,⟨pu,(ik M D).2.1.length,T⟩,D) sB I I ⟨t,⟨d,j⟩,K⟩)
   | (refine SX.k 12 ?_;refine zd8 3 10 kD ?_ ?_))
 rintro ⟨a4,g3,⟨pR,nR,cR⟩,D⟩ ⟨C,z,A⟩;dsimp only at C z A ⊢;have a1:=H.mono C;have a2:=hL.mono C;refine sQ ?_;refine SC.drawX [3,4,5] ze5 kR ?_;refine SX.q (i:=0) I kR (qV 2 an ae I I I) dC ?_
 repeat' (first
  | ((with_reducible refine SB.k 5 ?_);refine SB.on (i:=5) I (sK 3 ae I I I I I ⟨I,trivial⟩) (.inl dC) ?_;rintro _ _ _ ⟨rfl,rfl⟩)
  | ((with_reducible refine SB.k 4 ?_);refine SB.on (i:=4) I (sK 4 ae I I I I I ⟨I,trivial⟩) (.inl dC) ?_;rintro _ _ _ ⟨rfl,rfl⟩)
  | ((with_reducible refine SB.k 3 ?_);refine SB.on (i:=3) I (sK 5 ae I I I I I ⟨I,trivial⟩) (.inl dC) ?_;rintro _ _ _ ⟨rfl,rfl⟩)
  | ((with_reducible refine SB.k 2 ?_);first | (refine SB.ob (i:=2) rfl (SQ.sof<|qV 0 an ae rfl rfl rfl) dC kD ?_;rintro _ _ _ ⟨rfl,rfl,rfl⟩) | (refine SB.o (i:=2) rfl (SQ.sof<|qV 0 an ae rfl rfl rfl) dC (.inr (by rintro _ _ _ ⟨rfl,rfl,rfl⟩;exact⟨by exact zb9 _,(by exact .refl _)⟩)) ?_;rintro _ _ _ ⟨rfl,rfl,rfl⟩))
  | ((with_reducible refine SB.k 1 ?_);first | (refine SB.ob (i:=1) rfl (SQ.sof<|qV 1 an ae rfl rfl rfl) dC kD ?_;rintro _ _ _ ⟨rfl,rfl,rfl⟩) | (refine SB.o (i:=1) rfl (SQ.sof<|qV 1 an ae rfl rfl rfl) dC (.inr (by rintro _ _ _ ⟨rfl,rfl,rfl⟩;exact⟨by exact zb9 _,(by exact .refl _)⟩)) ?_;rintro _ _ _ ⟨rfl,rfl,rfl⟩))
  | ((with_reducible refine SX.k 4 ?_);first | refine zd8 2 3 kD ?_ ?_ | refine zd8 1 3 kD ?_ ?_ | refine zd8 1 2 kD ?_ ?_)
  | ((with_reducible refine SX.k 3 ?_);first | refine zd7 3 kD ?_ | refine zd7 1 kD ?_ | refine zd8 2 4 kD ?_ ?_)
  | ((with_reducible refine SX.k 2 ?_);first | refine zd7 4 kD ?_ | refine zd7 2 kD ?_)
  | ((with_reducible refine SX.k 1 ?_);refine zd7 5 kD ?_)
  | ((with_reducible refine SX.k 0 ?_);refine SX.nil kD ?_;refine tN ?_;refine rE ?_;exact ST.retCCC 5 4 3 s (.inl I) results7 I I I an ae an ae an ae I I I I I I (.cons _<|.cons _<|.cons _<|.cons _<|.cons _<|.cons _<|.cons _<|.refl _) ⟨I,G.trans<|B.trans C,_,_,_,es,D,I,a1,m,z,a2,A⟩)
  | (refine SX.k 5 ?_;refine SX.br3 1 2 3 kD ?_ ?_ ?_))
set_option maxHeartbeats 1000000
theorem D6 {l:List Cl}{e:Ed}(h:(dS l e).1=0):(dS l e).2.length≤l.length+2:=by
 obtain ⟨g,hc,b,f⟩:=sf h;have hA:=iJ hc;rw[f,aw];have hl:=aw l;have d:=rK b;unfold cz
 rcases d with k | k | k | k | k
 ·rw[zg3 k,ze7,ze9];omega
 ·rw[zg2 oM,zg3 k];unfold cJ;have:=zc6 (fun c:Cl=>!decide (c.id∈[e.cell]))<|aa l;omega
 ·rw[zg2 oM,zg2 oM,zg3 k];unfold bH at b;rw[zg2 oM,zg2 oM,zg3 k] at b;obtain ⟨i,_,_,_,_,a⟩:=o9 hA b;rw[a];simp;omega
 ·rw[zg2 oM,zg2 oM,zg2 oM,zg3 k];unfold ey;rw[ze8];unfold cJ;refine zk9 (zc6 _ _) ?_;omega
 ·rw[zg2 oM,zg2 oM,zg2 oM,zg2 oM];unfold cJ;refine zk9 (zc6 _ _) ?_;omega
theorem Dm:Rt ([]:List Cl):=iJ (l:=[]) dC
theorem Bu {es:List Ed}:∀ {A:List Cl} {ss:List Stp} {i:Nat},Rt A→Rt (nY A ss i es).2.1∧(nY A ss i es).2.1.length≤A.length+2 * es.length:=by
 induction es with
 | nil=>intro A ss i hA;exact⟨hA,Nat.le_refl _⟩
 | cons e es ih =>
  intro A ss i hA;unfold nY;split
  ·rename_i hz;obtain ⟨a,b⟩:=ih (ss:=ss++[imO A e]) (i:=i+1) (sf hz).1;have:=D6 hz;rw[zf1];exact⟨a,oM⟩
  ·exact⟨Dm,zf8 _⟩
theorem AZ {l:List Cl}{es:List Ed}(hc:(aq l).2=0)(hl:∀ c∈l,a8 c.id)(a:l.length≤90)(h:EdL es):Rt (ik l es).2.1∧(ik l es).2.1.length≤114∧∀ c∈(ik l es).2.1,a8 c.id:=by
 refine⟨?_,?_,D9 hl h.1⟩
 ·unfold ik;rw[zg2 (by have:=h.2;omega),zg2 (by rw[hc];exact fun h=>h I)];exact (Bu<|iJ hc).1
 ·unfold ik;rw[zg2 (by have:=h.2;omega),zg2 (by rw[hc];exact fun h=>h I)];have:=(Bu (es:=es) (ss:=[]) (i:=0)<|iJ hc).2;rw[aw] at this;have:=h.2;omega
theorem tP {l:List Cl}(h:Rt l):(aq l).2=0:=by rw[h.check]
theorem gS (E:World)(g:PH)(s:Own)(v:Value)(l:List Cl)(id:Int)(a:ai g v l)(hl:Rt l) :
  Ctr Tryz.prog E 9 #[.agg #[v],vi id] g s (fun r g' s'=>s=s'∧Le g g'∧∃ x,r = .tuple #[rcv x,vb<|decide ((ag l id).isSome=true)]∧ak g' ((ag l id).getD aA) x) :=
 (Cy E g s v l id a hl.fits).mono fun _ _ _ ⟨b,c,x,d,e⟩=>⟨b,c,x,by rw[d,hl.findC,Bool.decide_eq_true],by rw[← hl.findC];exact e⟩
theorem s5 {l:List Cl}(h:Rt l)(id:Int):((ag l id).getD aA).sides.length<1099511627776:=by
 rcases h.getD id with e | e
 ·rw[e];decide
 ·have:=h.few64 e;omega
theorem SU.eqlB {P:Program}{N:Nat}{f:Fr}{dst:Option Tmp}{ty:TypeId}{pos:String}{af:Array Edge}{gd:Option (Nat×Bool)}{x y:Operand}{T U:TypeId}{a b:Bool}(d:P.underlying T=some .bool)(e:ev f x=some (vb a))(g:ev f y=some (vb b)) :
  SU P N ⟨dst,.binOp .eql T x y U,ty,pos,af,gd⟩ f (vb<|decide (a=b)):=fun ac w c=>by
 have hg:(eqGuard .eql T x y (.bool a)<|.bool b).run P w = .ok () w:=by simp[eqGuard]
 have hb:=run_eql_bool (P:=P) w T a b d;simp only[execOp,c.ev e,c.ev g,Sem.run_bind,hg,zd2,hb];rfl
theorem GT {a b:Option Cl}(h:decide (a.isSome=true)=decide (b.isSome=true))(c:¬ a.isSome=true):decide (a=b)=true:=by
 cases a <;> cases b <;> simp_all
theorem GS {a b:Option Cl}(h:decide (a.isSome=true)=decide (b.isSome=true))(c:¬ ¬ a.isSome=true):decide (a=b)=decide (a.getD aA=b.getD aA):=by
 cases a <;> cases b <;> simp_all
theorem Gw {a b:Option Cl}(h:¬ decide (a.isSome=true)=decide (b.isSome=true)):decide (a=b)=false:=by
 cases a <;> cases b <;> simp_all
theorem ag_d {a b:Option Cl}(h:decide (a.isSome=true)=decide (b.isSome=true)):decide (a=b)=decide (a.getD aA=b.getD aA):=by
 cases a <;> cases b <;> simp_all
theorem GM {M L R:List Cl}{id:Int}(h:¬ ag L id=ag M id)(a:¬ ag R id=ag M id):nA M L R id=decide (¬ ag L id=ag R id):=by
 unfold nA bo;rw[zf9 h,zf9 a];simp
theorem GK {M L R:List Cl}{id:Int}(_:¬ ag L id=ag M id)(a:¬ ¬ ag R id=ag M id):nA M L R id=false:=by
 unfold nA bo;rw[zg1<|Decidable.not_not.1 a];simp
theorem GJ {M L R:List Cl}{id:Int}(h:¬ ¬ ag L id=ag M id):nA M L R id=false:=by
 unfold nA bo;rw[zg1<|Decidable.not_not.1 h];simp
theorem D0 {α:Type}(p:α→Bool){l:List α}{k:Nat}(h:k<l.length):((l.take<|k+1).filter p).length=if p l[k]=true then ((l.take k).filter p).length+1 else ((l.take k).filter p).length:=by
 rw[tS h,zh8,ze7];by_cases hp:p l[k]=true
 ·rw[List.filter_cons_of_pos hp,zg3 hp];rfl
 ·rw[List.filter_cons_of_neg hp,zg2 hp];rfl
theorem Ds {l:List Int}(b:l.Pairwise (· < ·)){k:Nat}(h:k<l.length)(e:(k:Int)>0):l[((k:Int) - 1).toNat]?=some (l.getD (k - 1) 0)∧l.getD (k - 1) 0<l[k]:=by
 have c:((k:Int) - 1).toNat=k - 1:=oM;have a:k - 1<l.length:=oM;have d:l.getD (k - 1) 0=l[k - 1]:=by rw[zh3,List.getElem?_eq_getElem a];rfl
 rw[c,d,List.getElem?_eq_getElem a];exact⟨I,zd1.1 b (k - 1) k a h oM⟩
theorem DW (B L R:List Cl):(dG B L R).2.length≤B.length+(L.length+R.length):=by
 have a:=AW B L R;have b:∀ w:Cl→Bool,(bC w<|gy B L R).length≤(gy B L R).length:=fun w=>by
  unfold bC;rw[ze8];exact zc6 _ _
 have hc:(fN B L R).length≤B.length+(L.length+R.length):=by
  have c:(fN B L R).length≤(gH [B,L,R]).length:=zc6 _ _;have d:=ib [B,L,R].flatten;unfold gH at c;rw[ze8] at c;have e:[B,L,R].flatten.length=B.length+(L.length+R.length):=by simp
  omega
 unfold dG;split
 ·exact hc
 ·split
  ·exact zk9 (b _) a
  ·split
   ·exact zk9 (b _) a
   ·split
    ·exact zk9 (b _) a
    ·exact zf8 _
set_option maxHeartbeats 16000000
theorem lr (E:World)(g:PH)(s:Own)(u:Value)(l y:Int)(ls:List (List Int))(av:Value)(m:List Ac)(bv:Value)(t:List Ac)(c7:cQ g u ls)(ha:SlA lj g av m)(hw:∀ a∈m,A64 a)(hb:SlA lj g bv t)(g8:∀ a∈t,A64 a)(hE:E.drawn=0) :
  Ctr Tryz.prog E 3 #[.agg #[vi l,u,vi y],av,bv] g s (fun r g' s'=>r=vb true∧s=s'∧Le g g'):=by
 obtain ⟨p,n,c,rfl⟩:∃ p n c,u = .slice p n c:=by
  obtain ⟨i3,c9,_⟩:=c7;obtain ⟨p,c,rfl⟩:=za4 c9;exact⟨_,_,_,I⟩
 obtain ⟨pa,ca,rfl⟩:=za4 ha;obtain ⟨pb,cb,rfl⟩:=za4 hb;have b4:=yh l ls y;have g9:=rf l ls y;have D:=re l ls y;have b0:=DG l ls y;refine zb2 (args:=[.agg #[vi l,.slice p n c,vi y],.slice pa m.length ca,.slice pb t.length cb]) func3 I ntmps3 (bE I)<|rZ (bW (bO I) fun b3=>?_);refine aT I<|rZ<|lW (SO.call call6 I<|tC E hE g _) ?_;rintro _ g1 _ ⟨rfl,rfl,v⟩;refine aT I<|rZ<|lK (qV 0 isAgg24 sizeOf24 I I I)<|lM I<|lM I<|lW (SO.call call7 I<|vw E g1 _ _ _ _ l y ls m t (c7.mono v) (za5 ha v) (za5 hb v) hw g8) ?_;rintro _ g2 _ ⟨rfl,d0,x0,x1,x2,es,fs,rfl,hM,h0,h1,hL,hR⟩;obtain ⟨lR,lN,lI⟩:=AZ (tP D) b4 b0 h0;obtain ⟨rR,rN,rI⟩:=AZ (tP D) b4 b0 h1;generalize (ik (jO l ls y) es).2.1=L at *;generalize (ik (jO l ls y) fs).2.1=R at *;generalize jO l ls y=M at *;obtain ⟨pM,cM,rfl⟩:=hM.form;obtain ⟨pL,cL,rfl⟩:=hL.form;obtain ⟨pR,cR,rfl⟩:=hR.form;have b5:=v.trans d0;have ckL:=tP lR;have ckR:=tP rR;have ckM:=tP D;refine lM I (yX I<|yX I<|yX I<|bW (aL zl3) fun b8=>?_);refine bW (aL zl3) fun b9=>bW (aL zl3) fun e=>oZ (sK 2 ae I I I I I sB)<|oZ (sK 1 ae I I I I I sB)<|oZ (sK 0 ae I I I I I sB)<|tZ<|rZ<|lK (qV 2 an ae I I I)<|lK (qV 1 an ae I I I)<|lK (qV 0 an ae I I I)<|lW (SO.call call8 I<|jk E hE g2 _ _ _ _ M L R hM hL hR g9 lR.fits rR.fits ckM ckL ckR (fun x hx=>hx.elim (b4 x) fun hx=>hx.elim (lI x)<|rI x) oM) ?_;rintro _ g3 _ ⟨rfl,w,V,z5,rfl,hY,hZ⟩;rw[D.canon,lR.canon,rR.canon] at hY hZ;obtain ⟨pY,cY,rfl⟩:=hY.form;have h2:=(mR M L R).2.1;have d1:=(mR M L R).1;have d2:=DX M L R;have i2:=DW M L R;generalize (dG M L R).1=Y at *;generalize (dG M L R).2=C at *;obtain ⟨pZ,cZ,rfl⟩:=za4 hZ;have h3:=hM.mono w;have h4:=hL.mono w;have h5:=hR.mono w;have b5:=b5.trans w;refine lM I (yX I<|yX I<|bW (aL zl3) fun W=>?_);refine oZ (sK 0 ae I I I I I sB)<|aT I<|rZ<|aT I<|sQ<|rZ<|aT I<|bK<|oP (ι:=PH×Nat) (fun i=>[(7,vb true),(8,pp b8 0),(9,pp b9 0),(10,pp e 0),(12,.slice pZ C.length cZ),(13,vi ((((C.take i.2).filter<|nA M L R).length:Nat):Int)),(14,vi i.2)]) (fun i=>i.1) (fun _=>pt W (bY #[.slice pY Y.length cY] 29)::pt e (bY #[.slice pR R.length cR] 29)::pt b9 (bY #[.slice pL L.length cL] 29)::pt b8 (bY #[.slice pM M.length cM] 29)::pt b3 (bY #[vi l,.slice p n c,vi y] 24)::s)
  (fun i=>Le g3 i.1∧i.2≤C.length) (fun i=>C.length - i.2) (g3,0) sB rfl rfl ⟨zb9 _,zf8 _⟩ ?_
 rintro ⟨g4,k⟩ ⟨d,hk⟩;dsimp only at d hk ⊢;refine sQ<|sW I<|lM I<|lU (eN az I)<|yL I<|tZ<|iP I (fun h6=>?_) (fun h6=>?_)
 ·have F:k<C.length:=oM;have G:=za5 hZ d;have d3:=h3.mono d;have h7:=h4.mono d;have h8:=h5.mono d;have H:=za6 G oM;have X:C[((k:Nat):Int).toNat]?=some C[k]:=List.getElem?_eq_getElem F;have z:=D0 (nA M L R) F;have j0:((C.take k).filter<|nA M L R).length≤k:=zk9 (zc6 _ _) (by rw[ze6];omega);have d4:=h2 _<|gM F;have J:(k:Int)>0→C[((k:Int) - 1).toNat]?=some (C.getD (k - 1) 0)∧C.getD (k - 1) 0<C[k]:=fun h=>Ds d1 F h;generalize C[k]=id at *;have d5:(ag L id).isSome=true∨(ag R id).isSome=true:=by rcases zj6 _ _ ▸ d4 with h | h <;> simp[h]
  refine kP<|tN<|sQ<|bK<|sQ<|SC.cutB 59 (false) ?_ ?_
  ·refine dW [] [(0,2),(1,2),(2,2),(3,2),(4,2),(5,2),(6,1),(7,2),(8,2),(9,2),(10,2),(11,1),(12,2),(13,2)] ze5 kR<|yM I<|pU I (gR I I)<|yM I<|SP.split ?_ ?_
   ·intro b6;exact yJ I<|yJ I<|zb3 I (gT I I I dC) (iA az zT3 I I H oM sL) dC<|SP.gq I (gT I I I dC) (eB iT3 I (za7 G) X I) dC<|yJ I<|yJ I<|zb3 I (gT I I I dC) (sU I I oM) dC<|zb3 I (gT I I I dC) (iA az zT3 I I H oM sL) dC<|SP.gq I (gT I I I dC) (eB iT3 I (za7 G) (J b6).1 I) dC<|zb3 I (gT I I I dC) (SU.leq I I) dC<|pU I (wT I I)<|pN<|zb1 (by exact ze4 (fun b=>some<|Value.bool b) (zf9 fun h=>by have:=(J b6).2;omega)) mI
   ·intro b6;exact yG I<|yG I<|yG I<|yI I<|yG I<|yG I<|yG I<|yG I<|yI I<|yG I<|pU I (wF I I)<|pN<|zb1 (by rfl) mI
  refine za1 I<|kP<|tN<|SC.cut (ι:=Nat×PH×Rc) (fun q=>[(7,vb true),(8,pp b8 0),(9,pp b9 0),(10,pp e 0),(12,.slice pZ C.length cZ),(13,vi ((((C.take k).filter<|nA M L R).length:Nat):Int)),(14,vi k),(15,pp q.1 0),(16,vb<|decide ((ag M id).isSome=true))]) (fun q=>q.2.1) (fun q=>pt q.1 (bY #[vi q.2.2.id,vi q.2.2.dim,.slice q.2.2.sv.p q.2.2.sv.n q.2.2.sv.c] 37)::pt W (bY #[.slice pY Y.length cY] 29)::pt e (bY #[.slice pR R.length cR] 29)::pt b9 (bY #[.slice pL L.length cL] 29)::pt b8 (bY #[.slice pM M.length cM] 29)::pt b3 (bY #[vi l,.slice p n c,vi y] 24)::s) (fun q=>Le g4 q.2.1∧ak q.2.1 ((ag M id).getD aA) q.2.2) ?_ ?_
  ·refine SC.drawX [10] ze5 kR ?_;refine SX.q (i:=0) I kR (qV 3 an ae I I I) dC<|SX.u (i:=1) I kR (mV I) dC<|SX.u (i:=2) I kR (mV I) dC<|SX.u (i:=3) I kR (iA az zT3 I I H oM sL) dC<|SX.q (i:=4) I kR (eB iT3 I (za7 G) X I) dC ?_
   repeat' (first
    | (refine SB.o (i:=5) I (SO.call call9 I<|gS E g4 _ _ M id d3 D) dC (.inr iR) ?_;rintro _ gz _ ⟨rfl,f,⟨y1,y2,⟨y3,y4,V⟩⟩,rfl,j⟩;refine SX.u (i:=6) I kD (mV I) dC ?_;refine SX.u (i:=7) I kD (xT I I) dC ?_;refine SX.u (i:=8) I kD (xT I I) dC ?_)
    | (refine SB.o (i:=5) I (SO.call call9 I<|gS E g4 _ _ M id d3 D) dC (.inr iR) ?_;rintro _ gz _ ⟨rfl,f,⟨y1,y2,⟨y3,y4,V⟩⟩,rfl,j⟩;refine SX.u (i:=6) I kD (mV I) dC ?_;refine SX.u (i:=7) I kD (xT I I) dC ?_;refine SX.u (i:=8) I kD (xT I I) dC ?_)
    | (refine SB.o (i:=9) I (aL zm2) dC (.inr iR) ?_;rintro _ _ _ ⟨bv,rfl,rfl,rfl⟩)
    | (refine SB.o (i:=9) I (aL zm2) dC (.inr iR) ?_;rintro _ _ _ ⟨bv,rfl,rfl,rfl⟩)
    | (refine SB.on (i:=10) I (sK 0 ar I I I I I sB) (.inl dC) ?_;rintro _ _ _ ⟨rfl,rfl⟩;refine SX.u (i:=11) I kD (aS I) dC ?_)
    | refine zd8 5 9 kD ?_ ?_
    | refine zd7 9 kD ?_
    | refine zd7 10 kD ?_
    | refine zd7 5 kD ?_
    | (refine SX.nil kD ?_;exact za9 (bv,gz,⟨y1,y2,⟨y3,y4,V⟩⟩) sB I I ⟨f,j⟩))
  rintro ⟨Z,g5,⟨a0,a1,⟨a2,a3,a4⟩⟩⟩ ⟨K,N⟩;dsimp only at K N ⊢;have d6:=h7.mono K;have h9:=h8.mono K;have d7:=za5 G K;refine SC.cut (ι:=Nat×PH×Rc) (fun q=>[(7,vb true),(8,pp b8 0),(9,pp b9 0),(10,pp e 0),(12,.slice pZ C.length cZ),(13,vi ((((C.take k).filter<|nA M L R).length:Nat):Int)),(14,vi k),(15,pp Z 0),(16,vb<|decide ((ag M id).isSome=true)),(17,pp q.1 0),(18,vb<|decide ((ag L id).isSome=true))]) (fun q=>q.2.1) (fun q=>pt q.1 (bY #[vi q.2.2.id,vi q.2.2.dim,.slice q.2.2.sv.p q.2.2.sv.n q.2.2.sv.c] 37)::pt Z (bY #[vi a0,vi a1,.slice a2 a3 a4] 37)::pt W (bY #[.slice pY Y.length cY] 29)::pt e (bY #[.slice pR R.length cR] 29)::pt b9 (bY #[.slice pL L.length cL] 29)::pt b8 (bY #[.slice pM M.length cM] 29)::pt b3 (bY #[vi l,.slice p n c,vi y] 24)::s) (fun q=>Le g5 q.2.1∧ak q.2.1 ((ag L id).getD aA) q.2.2) ?_ ?_
  ·refine SC.drawX [10] ze5 kR ?_;refine SX.q (i:=0) I kR (qV 3 an ae I I I) dC<|SX.u (i:=1) I kR (mV I) dC<|SX.u (i:=2) I kR (mV I) dC<|SX.u (i:=3) I kR (iA az zT3 I I H oM sL) dC<|SX.q (i:=4) I kR (eB iT3 I (za7 d7) X I) dC ?_
   repeat' (first
    | (refine SB.o (i:=5) I (SO.call call9 I<|gS E g5 _ _ L id d6 lR) dC (.inr iR) ?_;rintro _ gz _ ⟨rfl,f,⟨y1,y2,⟨y3,y4,V⟩⟩,rfl,j⟩;refine SX.u (i:=6) I kD (mV I) dC ?_;refine SX.u (i:=7) I kD (xT I I) dC ?_;refine SX.u (i:=8) I kD (xT I I) dC ?_)
    | (refine SB.o (i:=5) I (SO.call call9 I<|gS E g5 _ _ L id d6 lR) dC (.inr iR) ?_;rintro _ gz _ ⟨rfl,f,⟨y1,y2,⟨y3,y4,V⟩⟩,rfl,j⟩;refine SX.u (i:=6) I kD (mV I) dC ?_;refine SX.u (i:=7) I kD (xT I I) dC ?_;refine SX.u (i:=8) I kD (xT I I) dC ?_)
    | (refine SB.o (i:=9) I (aL zm2) dC (.inr iR) ?_;rintro _ _ _ ⟨bv,rfl,rfl,rfl⟩)
    | (refine SB.o (i:=9) I (aL zm2) dC (.inr iR) ?_;rintro _ _ _ ⟨bv,rfl,rfl,rfl⟩)
    | (refine SB.on (i:=10) I (sK 0 ar I I I I I sB) (.inl dC) ?_;rintro _ _ _ ⟨rfl,rfl⟩;refine SX.u (i:=11) I kD (aS I) dC ?_)
    | refine zd8 5 9 kD ?_ ?_
    | refine zd7 9 kD ?_
    | refine zd7 10 kD ?_
    | refine zd7 5 kD ?_
    | (refine SX.nil kD ?_;exact za9 (bv,gz,⟨y1,y2,⟨y3,y4,V⟩⟩) sB I I ⟨f,j⟩))
  rintro ⟨d8,g6,⟨b7,c0,⟨c1,c2,c3⟩⟩⟩ ⟨O,P⟩;dsimp only at O P ⊢;have d9:=h9.mono O;have i0:=za5 d7 O;refine SC.cut (ι:=Nat×PH×Rc) (fun q=>[(7,vb true),(8,pp b8 0),(9,pp b9 0),(10,pp e 0),(12,.slice pZ C.length cZ),(13,vi ((((C.take k).filter<|nA M L R).length:Nat):Int)),(14,vi k),(15,pp Z 0),(16,vb<|decide ((ag M id).isSome=true)),(17,pp d8 0),(18,vb<|decide ((ag L id).isSome=true)),(19,pp q.1 0),(20,vb<|decide ((ag R id).isSome=true))]) (fun q=>q.2.1) (fun q=>pt q.1 (bY #[vi q.2.2.id,vi q.2.2.dim,.slice q.2.2.sv.p q.2.2.sv.n q.2.2.sv.c] 37)::pt d8 (bY #[vi b7,vi c0,.slice c1 c2 c3] 37)::pt Z (bY #[vi a0,vi a1,.slice a2 a3 a4] 37)::pt W (bY #[.slice pY Y.length cY] 29)::pt e (bY #[.slice pR R.length cR] 29)::pt b9 (bY #[.slice pL L.length cL] 29)::pt b8 (bY #[.slice pM M.length cM] 29)::pt b3 (bY #[vi l,.slice p n c,vi y] 24)::s) (fun q=>Le g6 q.2.1∧ak q.2.1 ((ag R id).getD aA) q.2.2) ?_ ?_
  ·refine SC.drawX [10] ze5 kR ?_;refine SX.q (i:=0) I kR (qV 3 an ae I I I) dC<|SX.u (i:=1) I kR (mV I) dC<|SX.u (i:=2) I kR (mV I) dC<|SX.u (i:=3) I kR (iA az zT3 I I H oM sL) dC<|SX.q (i:=4) I kR (eB iT3 I (za7 i0) X I) dC ?_
   repeat' (first
    | (refine SB.o (i:=5) I (SO.call call9 I<|gS E g6 _ _ R id d9 rR) dC (.inr iR) ?_;rintro _ gz _ ⟨rfl,f,⟨y1,y2,⟨y3,y4,V⟩⟩,rfl,j⟩;refine SX.u (i:=6) I kD (mV I) dC ?_;refine SX.u (i:=7) I kD (xT I I) dC ?_;refine SX.u (i:=8) I kD (xT I I) dC ?_)
    | (refine SB.o (i:=5) I (SO.call call9 I<|gS E g6 _ _ R id d9 rR) dC (.inr iR) ?_;rintro _ gz _ ⟨rfl,f,⟨y1,y2,⟨y3,y4,V⟩⟩,rfl,j⟩;refine SX.u (i:=6) I kD (mV I) dC ?_;refine SX.u (i:=7) I kD (xT I I) dC ?_;refine SX.u (i:=8) I kD (xT I I) dC ?_)
    | (refine SB.o (i:=9) I (aL zm2) dC (.inr iR) ?_;rintro _ _ _ ⟨bv,rfl,rfl,rfl⟩)
    | (refine SB.o (i:=9) I (aL zm2) dC (.inr iR) ?_;rintro _ _ _ ⟨bv,rfl,rfl,rfl⟩)
    | (refine SB.on (i:=10) I (sK 0 ar I I I I I sB) (.inl dC) ?_;rintro _ _ _ ⟨rfl,rfl⟩;refine SX.u (i:=11) I kD (aS I) dC ?_)
    | refine zd8 5 9 kD ?_ ?_
    | refine zd7 9 kD ?_
    | refine zd7 10 kD ?_
    | refine zd7 5 kD ?_
    | (refine SX.nil kD ?_;exact za9 (bv,gz,⟨y1,y2,⟨y3,y4,V⟩⟩) sB I I ⟨f,j⟩))
  rintro ⟨j1,g7,⟨e0,e1,⟨e2,e4,e9⟩⟩⟩ ⟨a5,c5⟩;dsimp only at a5 c5 ⊢;have P:=P.mono a5;have N:=(N.mono O).mono a5;have b1:=d.trans<|K.trans<|O.trans a5;refine sQ<|SC.cutB 92 (false) ?_ ?_
  ·refine rG<|lM I<|lU (SU.notP I)<|lM I<|sP ?_ ?_
   ·intro f7;exact yC I<|lY I I I (SU.notP I)<|yP I<|SL.nil<|zb1 (by exact ze4 (fun b=>some<|Value.bool b)<|zf9 fun h=>d5.elim f7 h) mI
   ·intro f7;exact yA I<|yA I<|yF I<|SL.nil<|zb1 (by rfl) mI
  refine za1 I<|kP<|tN<|SC.cutB 21 (decide (ag L id=ag M id)) ?_ ?_
  ·refine rG<|lM I<|lM I<|lU (SU.eqlB uT4 I I)<|lM I<|sP ?_ ?_
   ·intro a9;refine yC I<|lY I I I (SU.notP I)<|yC I<|sP ?_ ?_
    ·intro c6;exact yA I<|yA I<|yA I<|lY I I I (wT I I)<|yP I<|lA I<|SL.nil<|zb1 (by exact ze4 (fun b=>some<|Value.bool b) (GT a9 c6).symm) mI
    ·intro c6;refine SL.gq (gT I I I dC) (qV 1 dH ar I I I) dC<|SL.gq (gT I I I dC) (qV 2 dH ar I I I) dC<|ze3 (gT I I I dC) (SO.call call10 I<|jv E g7 _ ((ag L id).getD aA) ((ag M id).getD aA) ⟨b7,c0,⟨c1,c2,c3⟩⟩ ⟨a0,a1,⟨a2,a3,a4⟩⟩ P N<|s5 lR id) dC ?_;rintro _ _ _ ⟨rfl,rfl,rfl⟩;exact lY I I I (wF I I)<|yP I<|lA I<|SL.nil<|zb1 (by exact ze4 (fun b=>some<|Value.bool b) (GS a9 c6).symm) mI
   ·intro a9;exact yA I<|yA I<|yA I<|yB I<|yB I<|yB I<|yA I<|yF I<|lA I<|SL.nil<|zb1 (by exact ze4 (fun b=>some<|Value.bool b) (Gw a9).symm) mI
  refine SC.cutB 22 (decide (ag R id=ag M id)) ?_ ?_
  ·refine rG<|lM I<|lM I<|lU (SU.eqlB uT4 I I)<|lM I<|sP ?_ ?_
   ·intro A;refine yC I<|lY I I I (SU.notP I)<|yC I<|sP ?_ ?_
    ·intro Q;exact yA I<|yA I<|yA I<|lY I I I (wT I I)<|yP I<|lA I<|SL.nil<|zb1 (by exact ze4 (fun b=>some<|Value.bool b) (GT A Q).symm) mI
    ·intro Q;refine SL.gq (gT I I I dC) (qV 0 dH ar I I I) dC<|SL.gq (gT I I I dC) (qV 2 dH ar I I I) dC<|ze3 (gT I I I dC) (SO.call call10 I<|jv E g7 _ ((ag R id).getD aA) ((ag M id).getD aA) ⟨e0,e1,⟨e2,e4,e9⟩⟩ ⟨a0,a1,⟨a2,a3,a4⟩⟩ c5 N<|s5 rR id) dC ?_;rintro _ _ _ ⟨rfl,rfl,rfl⟩;exact lY I I I (wF I I)<|yP I<|lA I<|SL.nil<|zb1 (by exact ze4 (fun b=>some<|Value.bool b) (GS A Q).symm) mI
   ·intro A;exact yA I<|yA I<|yA I<|yB I<|yB I<|yB I<|yA I<|yF I<|lA I<|SL.nil<|zb1 (by exact ze4 (fun b=>some<|Value.bool b) (Gw A).symm) mI
  refine SC.cutB 23 (decide (ag L id=ag R id)) ?_ ?_
  ·refine rG<|lM I<|lM I<|lU (SU.eqlB uT4 I I)<|lM I<|sP ?_ ?_
   ·intro S;refine SL.gq (gT I I I dC) (qV 1 dH ar I I I) dC<|SL.gq (gT I I I dC) (qV 0 dH ar I I I) dC<|ze3 (gT I I I dC) (SO.call call10 I<|jv E g7 _ ((ag L id).getD aA) ((ag R id).getD aA) ⟨b7,c0,⟨c1,c2,c3⟩⟩ ⟨e0,e1,⟨e2,e4,e9⟩⟩ P c5<|s5 lR id) dC ?_;rintro _ _ _ ⟨rfl,rfl,rfl⟩;exact yP I<|lA I<|SL.nil<|zb1 (by exact ze4 (fun b=>some<|Value.bool b) (ag_d S).symm) mI
   ·intro S;exact yA I<|yA I<|yA I<|yF I<|lA I<|SL.nil<|zb1 (by exact ze4 (fun b=>some<|Value.bool b) (Gw S).symm) mI
  refine SC.cutB 134 (nA M L R id) ?_ ?_
  ·refine rG<|lM I<|lU (SU.notP I)<|lM I<|sP ?_ ?_
   ·intro B;refine yC I<|lY I I I (SU.notP I)<|yP I<|lM I<|sP ?_ ?_
    ·intro T;exact yC I<|lY I I I (SU.notP I)<|yP I<|SL.nil<|zb1 (by exact ze4 (fun b=>some<|Value.bool b) (GM B T).symm) mI
    ·intro T;exact yA I<|yA I<|yF I<|SL.nil<|zb1 (by exact ze4 (fun b=>some<|Value.bool b) (GK B T).symm) mI
   ·intro B;exact yA I<|yA I<|yF I<|lM I<|yA I<|yA I<|yF I<|SL.nil<|zb1 (by exact ze4 (fun b=>some<|Value.bool b) (GJ B).symm) mI
  refine iQ I (fun U=>?_) (fun U=>?_)
  ·refine rG<|lM I<|yD I<|lA I<|SL.nil<|bN<|tN<|rG<|lM I<|yD I<|lA I<|SL.nil ?_;rw[zg3 U] at z;exact dR (.cons _<|.cons _<|.cons _<|.refl _)<|ST.again (g7,k+1) ⟨I,I,I,I,I,by dsimp only[aN];rw[z];rfl,rfl,trivial⟩ rfl rfl ⟨b1,F⟩ (by dsimp only;omega)
  ·refine kP<|bN<|tN<|rG<|lM I<|yD I<|lA I<|SL.nil ?_;rw[zg2 (by rw[U];decide)] at z;exact dR (.cons _<|.cons _<|.cons _<|.refl _)<|ST.again (g7,k+1) ⟨I,I,I,I,I,by dsimp only[aN];rw[z];rfl,rfl,trivial⟩ rfl rfl ⟨b1,F⟩ (by dsimp only;omega)
 ·have i1:k=C.length:=oM;subst i1;rw[List.take_length];have f8:(((C.filter<|nA M L R).length:Nat):Int)=0∨(((C.filter<|nA M L R).length:Nat):Int)=(C.length:Int):=by
   rcases d2 with h | h
   ·left;rw[h];rfl
   ·right;rw[h]
  refine xI<|tX<|tX<|bX<|tN<|SC.cutB 6 (true) ?_ ?_
  ·refine rG<|lM I<|lM I<|yC I<|lY I I I (eQ I I)<|yC I<|sP ?_ ?_
   ·intro b2;exact yA I<|yA I<|yA I<|yA I<|lY I I I (wT I I)<|yP I<|lA I<|SL.nil<|zb1 (by rfl) mI
   ·intro b2;exact yC I<|yC I<|lY I I I (eN az I)<|lY I I I (eQ I I)<|lY I I I (wF I I)<|yP I<|lA I<|SL.nil<|zb1 (by exact ze4 (fun b=>some<|Value.bool b)<|zg1<|f8.resolve_left b2) mI
  exact rE<|dR (s':=s) uR<|za8 (.inl I) results3 I ⟨I,I,b5.trans d⟩
end Go.Proofs.YtdepcjnaieflmaaGreatDoor
namespace Go.Proofs.YtdepcjnaieflmaaGreatDoor.mergeConflictsDone
open _root_.Go.Proofs.Tryz _root_.Go.Proofs.YtdepcjnaieflmaaGreatDoor.Tryz
open Go Go.Sy Go.Pl Go.Proofs Go.Proofs.YtdepcjnaieflmaaGreatDoor
open Go.ChangeShapes Go.WideShapes Go.ChangeAt Go.RowKit
set_option linter.unusedVariables false
theorem own:ownKnob Tryz.prog.godebug=none:=by kernel_rfl
theorem laidOut:laidOutB Tryz.prog=true:=by kernel_rfl
set_option maxRecDepth 100000 in
theorem lifted (os:Os)(b:os.Started)(H:Type)(enc:TypeId×Value→H) :
  ReturnsInHanded {} Tryz.checked os 3 .any (fun w args=>(Rows.mergeConflictsSpec.pre enc Tryz.prog f3 Rows.mergeConflictsRow.domain false w args∧laidMetH Tryz.prog Rows.mergeConflictsRow.laid w)∧sizedMet enc Tryz.prog f3 (OpenSpec.ofChange Rows.mergeConflictsSpec) false w args)
   (Rows.mergeConflictsSpec.post enc Tryz.prog f3 false true false false):=by
 refine returnsInHanded_of_change_and (C:=Tryz.checked) (X:=fun w _=>laidMetH Tryz.prog Rows.mergeConflictsRow.laid w) (fun _ _ _ K h=>h.of_heap K) own b kR func3
  (ChangeSpec.witness_shaped (enc:=enc) (C:=Tryz.checked) (os:=os) (X:=fun w _=>laidMetH Tryz.prog Rows.mergeConflictsRow.laid w) false (World.laidAll Tryz.prog os Rows.mergeConflictsRow.laid) #[.agg #[.int .i64 0,.slice none 0 0,.int .i64 0],.slice none 0 0,.slice none 0 0] 8 (World.laidAll_os _ _ _)
   (World.shaped_of_ZipB kR kR) kR kR kR
   (by rw[MakeChecks.laidMetH_plain _ _ _ kR];exact laidMet_laidAll _ kR kR)) ?_
 intro W base args ds gs before c hW G J hL _;have a:∀ (j:Nat) t v,f3.params[j]?=some t→args[j]?=some v→Value.okWide Tryz.prog W .any base t v:=c;have g:=hW;obtain ⟨p,q,f,L,rfl,M,N⟩:=hW;have hA:DataW.TrodAll enc Tryz.prog W 0 (fun _=>true) true f3.params.toList args.toList ds p:=f;rw[params3] at hA a;obtain ⟨v0,O,d0,P,Q,q0,i,rfl,rfl,k,R⟩:=trodAll_cons hA;obtain ⟨v1,S,d1,T,U,q1,rfl,rfl,rfl,l,V⟩:=trodAll_cons R;obtain ⟨v2,Y,d2,Z,p2,q2,rfl,rfl,rfl,n,r2⟩:=trodAll_cons V;obtain ⟨rfl,rfl,rfl⟩:=trodAll_nil r2;obtain rfl:args = #[v0,v1,v2]:=by cases args;simp_all
 obtain ⟨rfl,rfl⟩:=trodVars_none L;have lt0:∀ x∈Q,x.block<W.heap.size:=by obtain ⟨m,hm⟩:=k;exact DataW.trod_lt m _ _ _ hm
 have lt1:∀ x∈U,x.block<W.heap.size:=by obtain ⟨m,hm⟩:=l;exact DataW.trod_lt m _ _ _ hm
 have lt2:∀ x∈p2,x.block<W.heap.size:=by obtain ⟨m,hm⟩:=n;exact DataW.trod_lt m _ _ _ hm
 obtain ⟨kd,y,u,ls,e0,o⟩:=Dh (a 0 24 v0 rfl rfl) k;obtain ⟨a1,n1,c1,s1⟩:=okWide_slice underlying25<|a 1 25 v1 rfl rfl;obtain ⟨r,s,z⟩:=rT l (by rw[s1];rfl);obtain ⟨a2,n2,c2,s2⟩:=okWide_slice underlying25<|a 2 25 v2 rfl rfl;obtain ⟨A,B,D⟩:=rT n (by rw[s2];rfl);clear f c;have walk:Calls Tryz.prog 3 #[v0,v1,v2] W fun e w'=>e = .returned (.bool true)∧Below W.heap.size W w':=by
  rw[e0];refine (lr (E0 W) (tm W) [] u kd y ls _ r _ A o s z B D I W (D4 W)).mono ?_;rintro e w' ⟨v,g',s',rfl,E,rfl,rfl,F⟩;exact⟨I,D5 E F⟩
 refine walk.mono fun e W' ⟨he,d⟩=>?_;subst he;exact⟨_,I,_,_,_,[],_,[],g,trodAll_mk1<|shut_bool uT4 _,(trodAll_cons_mk (Below.trod laidOut kR (zg5 kR) k d lt0)<|trodAll_cons_mk (Below.trod laidOut kR (zg5 kR) l d lt1)<|trodAll_cons_mk (Below.trod laidOut kR (zg5 kR) n d lt2) trodAll_mk0),I,d.frame _,fun h=>by cases h⟩
def Eu (P:Program)(fn:Func)(c:OpenClaim):Bool:=(c.kinds == (if c.domain.isEmpty then [] else fn.params.toList.map fun t=>match P.underlying t with | some (.int k)=>some k | _=>none))
theorem iV {a b:Bool}(h:a=true)(k:b=true):(a&&b)=true:=by rw[h,k];rfl
theorem Cj {P:Program}{f:FuncId}{fn:Func}{s:ChangeSpec}{c:OpenClaim}
  (B:(c.wf<|OpenSpec.ofChange s)=true)
  (C:(laidOutB P)=true)
  (D:(mapsRowed P)=true)
  (E:(fn.params.all (P.readableRec ·))=true)
  (F:(namedTie P c.named s.vars)=true)
  (G:((c.stops == []))=true)
  (H:((P.stops == []))=true)
  (J:((c.knobs == []))=true)
  (K:((P.stopKnobs == []))=true)
  (L:((c.inPlace == P.inPlace f))=true)
  (a:((c.unfollowed == P.unfollowed f))=true)
  (b:((c.recurses == P.recurses f))=true)
  (d:((c.named == P.varsNamed f))=true)
  (e:((c.maps == (fn.params.toList++s.plain.varTypes P).any (P.mapsRec ·)))=true)
  (g:((c.ifaces == (fn.params.toList++s.plain.varTypes P).any (P.ifacesRec ·)))=true)
  (i:((c.mapsOut == P.mapsAmong fn.resultTypes.toList))=true)
  (j:((c.loops == (fn.params.toList++s.plain.varTypes P).any (P.loopsFrom ·)))=true)
  (k:((c.wideKeys == (fn.params.toList++s.plain.varTypes P++fn.resultTypes.toList).any (P.wideKeysFrom ·)))=true)
  (l:(s.vars.all (P.varReadable ·))=true)
  (m:(fn.resultTypes.all<|fun t=>P.readableRec t&&decide (t<P.types.size))=true)
  (n:((c.ifacesOut == fn.resultTypes.toList.any (P.ifacesRec ·)))=true)
  (o:((c.loopsOut == fn.resultTypes.toList.any (P.loopsFrom ·)))=true)
  (p:((c.plainKeys == P.plainKeys))=true)
  (q:(c.shortTexts.isNone)=true)
  (r:(P.stopsHeard)=true)
  (u:(P.mayEnter)=true)
  (v:((c.lifted == P.liftsFinal))=true)
  (w:((P.make == some c.make))=true)
  (x:(Eu P fn c)=true)
  (y:((c.pinned == c.pinnedBy))=true)
  (z:((c.veiled == (fn.params.toList++s.plain.varTypes P++fn.resultTypes.toList).any (P.veiledRec ·)))=true)
  (A:(c.veiledFits P fn.params.toList<|fn.params.toList++s.plain.varTypes P++fn.resultTypes.toList)=true)
  : joinedFacts P f fn s c=true:=by
 exact iV (iV (iV (iV (iV (iV (iV (iV (iV (iV (iV (iV (iV (iV (iV (iV (iV (iV (iV (iV (iV (iV (iV (iV (iV (iV (iV (iV (iV (iV (iV B C) D) E) F) G) H) J) K) L) a) b) d) e) g) i) j) k) l) m) n) o) p) q) r) u) v) w) x) y) z) A
theorem k0:(Rows.mergeConflictsRow.wf<|OpenSpec.ofChange Rows.mergeConflictsSpec)=true:=by kernel_rfl
theorem k1:(laidOutB Tryz.prog)=true:=by kernel_rfl
theorem k2:(mapsRowed Tryz.prog)=true:=by kernel_rfl
theorem k3:(f3.params.all (Tryz.prog.readableRec ·))=true:=by kernel_rfl
theorem k4:(namedTie Tryz.prog Rows.mergeConflictsRow.named Rows.mergeConflictsSpec.vars)=true:=by kernel_rfl
theorem k5:((Rows.mergeConflictsRow.stops == []))=true:=by kernel_rfl
theorem k6:((Tryz.prog.stops == []))=true:=by kernel_rfl
theorem k7:((Rows.mergeConflictsRow.knobs == []))=true:=by kernel_rfl
theorem k8:((Tryz.prog.stopKnobs == []))=true:=by kernel_rfl
theorem k9:((Rows.mergeConflictsRow.inPlace == Tryz.prog.inPlace 3))=true:=by kernel_rfl
theorem k10:((Rows.mergeConflictsRow.unfollowed == Tryz.prog.unfollowed 3))=true:=by kernel_rfl
theorem k11:((Rows.mergeConflictsRow.recurses == Tryz.prog.recurses 3))=true:=by kernel_rfl
theorem k12:((Rows.mergeConflictsRow.named == Tryz.prog.varsNamed 3))=true:=by kernel_rfl
theorem k13:((Rows.mergeConflictsRow.maps == (f3.params.toList++Rows.mergeConflictsSpec.plain.varTypes Tryz.prog).any (Tryz.prog.mapsRec ·)))=true:=by kernel_rfl
theorem k14:((Rows.mergeConflictsRow.ifaces == (f3.params.toList++Rows.mergeConflictsSpec.plain.varTypes Tryz.prog).any (Tryz.prog.ifacesRec ·)))=true:=by kernel_rfl
theorem k15:((Rows.mergeConflictsRow.mapsOut == Tryz.prog.mapsAmong f3.resultTypes.toList))=true:=by kernel_rfl
theorem k16:((Rows.mergeConflictsRow.loops == (f3.params.toList++Rows.mergeConflictsSpec.plain.varTypes Tryz.prog).any (Tryz.prog.loopsFrom ·)))=true:=by kernel_rfl
theorem k17:((Rows.mergeConflictsRow.wideKeys == (f3.params.toList++Rows.mergeConflictsSpec.plain.varTypes Tryz.prog++f3.resultTypes.toList).any (Tryz.prog.wideKeysFrom ·)))=true:=by kernel_rfl
theorem k18:(Rows.mergeConflictsSpec.vars.all (Tryz.prog.varReadable ·))=true:=by kernel_rfl
theorem k19:(f3.resultTypes.all<|fun t=>Tryz.prog.readableRec t&&decide (t<Tryz.prog.types.size))=true:=by kernel_rfl
theorem k20:((Rows.mergeConflictsRow.ifacesOut == f3.resultTypes.toList.any (Tryz.prog.ifacesRec ·)))=true:=by kernel_rfl
theorem k21:((Rows.mergeConflictsRow.loopsOut == f3.resultTypes.toList.any (Tryz.prog.loopsFrom ·)))=true:=by kernel_rfl
theorem k22:((Rows.mergeConflictsRow.plainKeys == Tryz.prog.plainKeys))=true:=by kernel_rfl
theorem k23:(Rows.mergeConflictsRow.shortTexts.isNone)=true:=by kernel_rfl
theorem k24:(Tryz.prog.stopsHeard)=true:=by kernel_rfl
theorem k25:(Tryz.prog.mayEnter)=true:=by kernel_rfl
theorem k26:((Rows.mergeConflictsRow.lifted == Tryz.prog.liftsFinal))=true:=by kernel_rfl
theorem k27:((Tryz.prog.make == some Rows.mergeConflictsRow.make))=true:=by kernel_rfl
theorem k28:(Eu Tryz.prog f3 Rows.mergeConflictsRow)=true:=by kernel_rfl
theorem k29:((Rows.mergeConflictsRow.pinned == Rows.mergeConflictsRow.pinnedBy))=true:=by kernel_rfl
theorem k30:((Rows.mergeConflictsRow.veiled == (f3.params.toList++Rows.mergeConflictsSpec.plain.varTypes Tryz.prog++f3.resultTypes.toList).any (Tryz.prog.veiledRec ·)))=true:=by kernel_rfl
theorem k31:(Rows.mergeConflictsRow.veiledFits Tryz.prog f3.params.toList<|f3.params.toList++Rows.mergeConflictsSpec.plain.varTypes Tryz.prog++f3.resultTypes.toList)=true:=by kernel_rfl
theorem kp:Rows.mergeConflictsRow.wfByText (OpenSpec.ofChange Rows.mergeConflictsSpec)=true:=by kernel_rfl
theorem kf : Tryz.prog.funcNamed "cocycle/cocyclelaw18.MergeConflicts" = some 3:=by kernel_rfl
theorem kr:Tryz.pinned.checked.prog.funcNamed Rows.mergeConflictsRow.func=some 3:=by kernel_rfl
theorem kj:joinedFacts Tryz.pinned.checked.prog 3 f3 Rows.mergeConflictsSpec Rows.mergeConflictsRow=true :=
 Cj k0 k1 k2 k3 k4 k5 k6 k7 k8 k9 k10 k11 k12 k13 k14 k15 k16 k17 k18 k19 k20 k21 k22 k23 k24 k25 k26 k27 k28 k29 k30 k31
theorem ki:f3.isInstance Tryz.prog Rows.mergeConflictsRow.origin Rows.mergeConflictsRow.targs:=zg5 kR
theorem kw:f3.isWrapper Tryz.prog Rows.mergeConflictsRow.wrapper Rows.mergeConflictsRow.mainSum:=by unfold Func.isWrapper;first | (rw[zg3 (by decide +kernel)];kernel_rfl) | (rw[zg2 (by decide +kernel)];exact⟨I,I⟩)
theorem km : Tryz.prog.mainIs = some (true,("a37501a34a30dde2d9da77573ae79b7fff0b833d7fc9d23ac4f845b9060fdd91" : String).toList):=by kernel_rfl
theorem kl:false=Tryz.prog.looks []:=by kernel_rfl
theorem kg:false=Rows.mergeConflictsRow.goesBy Tryz.prog:=by kernel_rfl
theorem kq:([24,25,25].all fun u=>!Tryz.prog.wantsStandIn u)=true:=by kernel_rfl
theorem over:Rows.mergeConflictsRow.holds Tryz.pinned (OpenSpec.ofChange Rows.mergeConflictsSpec) :=
 OpenClaim.holds_of_wide 3 f3 rfl rfl rfl rfl rfl rfl rfl ⟨rfl,rfl,rfl,rfl,rfl⟩ rfl rfl rfl rfl rfl kr func3 kj ki kw
  (fun os a H enc _=>lifted os a H enc)
theorem proved:Rows.MergeConflictsCardSaid :=
 Claim7.holds_tied_plain_at .later [] [.data,.pinned] true (true, "a37501a34a30dde2d9da77573ae79b7fff0b833d7fc9d23ac4f845b9060fdd91") false
  over (fun _ h=>by cases h) kp (fun _ h=>by cases h) mergeConflicts_row_tie rfl ⟨rfl,rfl⟩ km rfl
  (fun f fn c a=>by
   obtain rfl:f=3:=Option.some.inj (kf.symm.trans c) |>.symm;obtain rfl:fn=f3:=(Option.some.inj (func3.symm.trans a)).symm;exact⟨kl,fun j t b=>by
    rw[params3] at b;have hm:t∈[24,25,25]:=by simpa using Array.mem_of_getElem? b
    exact (show Tryz.prog.wantsStandIn t=false by simpa using zk2.1 kq t hm)⟩)
  kg
#print axioms proved
end Go.Proofs.YtdepcjnaieflmaaGreatDoor.mergeConflictsDone
