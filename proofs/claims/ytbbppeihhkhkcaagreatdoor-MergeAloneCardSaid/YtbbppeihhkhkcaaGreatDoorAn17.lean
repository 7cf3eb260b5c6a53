/-
  The law MergeAlone holds: a side that is equal to the base changes nothing; if both sides are equal, they are the result.
-/
import Derived.Test.YtbbppeihhkhkcaaGreatDoorAn16
import Derived.Test.YtbbppeihhkhkcaaGreatDoorTie
import Derived.Test.YtbbppeihhkhkcaaGreatDoorCards
import Derived.JoinedOf
import Derived.LaidMore
import Derived.Lay
import Derived.SevenTiedAt
import Derived.Stop.Joined
set_option linter.unusedSimpArgs false
set_option linter.unusedVariables false
namespace Go.Proofs.YtbbppeihhkhkcaaGreatDoor
open _root_.Go.Proofs.Tryz _root_.Go.Proofs.YtbbppeihhkhkcaaGreatDoor.Tryz
open Go Go.Sy Go.Pl Go.Proofs
set_option maxRecDepth 100000
set_option maxHeartbeats 8000000
def EdL (es:List Ed):Prop:=(∀ e∈es,EdT e)∧es.length≤12
theorem vn (E:World)(g:PH)(s:Own)(v av bv:Value)(kd y:Int)(ls:List (List Int))(ac bd:List Ac)(X:cU g v ls)(Y:SlA mC g av ac)(hb:SlA mC g bv bd)(N:∀ a∈ac,A64 a)(O:∀ a∈bd,A64 a) :
  Ctr Tryz.prog E 17 #[.agg #[vi kd,v,vi y],av,bv] g s (fun r g' s'=>s=s'∧Le g g'∧∃ x u w es fs,r = .tuple #[.agg #[x],.agg #[u],.agg #[w]]∧ai g' x (jR kd ls y)∧EdL es∧EdL fs∧ai g' u (ig (jR kd ls y) es).2.1∧ai g' w (ig (jR kd ls y) fs).2.1):=by
 have G:=yg kd ls y;have l:=rh kd ls y;obtain ⟨p,n,c,rfl⟩:∃ p n c,v = .slice p n c:=by
  obtain ⟨a0,P,_⟩:=X;obtain ⟨p,c,rfl⟩:=za4 P;exact⟨_,_,_,I⟩
 obtain ⟨pa,ca,rfl⟩:=za4 Y;obtain ⟨pb,cb,rfl⟩:=za4 hb;refine zb2 (args:=[.agg #[vi kd,.slice p n c,vi y],.slice pa ac.length ca,.slice pb bd.length cb]) func17 I ntmps17 (bE I)<|rZ (bW (bO I) fun b3=>?_);refine bW (aL zl9) fun b6=>bW (aL zl9) fun b7=>bW (aL zl9) fun b8=>tZ<|rZ<|SL.K (qV 3 isAgg24 sizeOf24 I I I)<|lW (SO.call call11 I<|Ca E g _ _ kd y ls X) ?_;rintro _ g1 _ ⟨rfl,D,xm,rfl,L⟩;generalize jR kd ls y=M at *;obtain ⟨pM,cM,rfl⟩:=L.form;have Q:=za5 Y D;have T:=za5 hb D;refine bW (aL zl9) fun b9=>oZ (sK 0 ae I I I I I sB)<|tZ<|SC.cut (ι:=Nat×PH×Sv×List Ed) (fun i=>[(2,.slice pb bd.length cb),(6,pp b6 0),(7,pp b7 0),(8,pp b8 0),(9,pp b9 0),(10,pp i.1 0)]) (fun i=>i.2.1) (fun i=>pt i.1 (.cells #[.slice i.2.2.1.p i.2.2.1.n i.2.2.1.c] 29 (0,0))::pt b9 (.cells #[.slice pM M.length cM] 29 (0,0))::pt b8 (.cells #[.slice none 0 0] 29 (0,0))::pt b7 (.cells #[.slice none 0 0] 29 (0,0))::pt b6 (.cells #[.slice none 0 0] 29 (0,0))::pt b3 (.cells #[vi kd,.slice p n c,vi y] 24 (0,0))::s) (fun i=>Le g1 i.2.1∧EdL i.2.2.2∧ai i.2.1 (.slice i.2.2.1.p i.2.2.1.n i.2.2.1.c) (ig M i.2.2.2).2.1) ?_ ?_
 ·refine SC.drawX [11] ze5 kR ?_;refine SX.q (i:=0) I kR (qV 0 aj ae I I I) dC<|SX.q (i:=1) I kR (qV 0 aj ae I I I) dC<|SX.u (i:=2) I kR (mV I) dC ?_
  repeat' (first
   | ((with_reducible refine SB.k 11 ?_); refine SB.on (i:=11) I (sK 0 ae I I I I I ⟨I,trivial⟩) (.inl dC) ?_; rintro _ _ _ ⟨rfl,rfl⟩; refine SX.u (i:=12) I kD (aS I) dC ?_; refine SX.u (i:=13) I kD (aS I) dC ?_; refine SX.u (i:=14) I kD (aS I) dC ?_)
   | ((with_reducible refine SB.k 10 ?_); first | (refine SB.o (i:=10) rfl (aL zl9) dC (.inr (by rintro _ _ _ ⟨bv,rfl,rfl,rfl⟩; exact⟨by assumption,(by exact .cons _<|.refl _)⟩)) ?_; rintro _ _ _ ⟨bv,rfl,rfl,rfl⟩) | (refine SB.o (i:=10) rfl (aL zl9) dC (.inr (by rintro _ _ _ ⟨bv,rfl,rfl,rfl⟩; exact⟨by exact zb9 _,(by exact .cons _<|.refl _)⟩)) ?_; rintro _ _ _ ⟨bv,rfl,rfl,rfl⟩))
   | ((with_reducible refine SB.k 4 ?_); first | (refine SB.o (i:=4) rfl (SO.call call69 rfl<|rU E gx _ _ _ M es (L.mono b) l m (fun e J=>(d e J).1) oM) dC (.inr (by rintro _ gz _ ⟨rfl,f,A⟩; exact⟨by exact Le.trans (by assumption) (by assumption),(by exact .refl _)⟩)) ?_; rintro _ gz _ ⟨rfl,f,A⟩; obtain ⟨u,p1,n1,c1,rfl,H,U⟩:=A; obtain ⟨pu,cu,rfl⟩:=H.form; have t:=b.trans f; refine SX.u (i:=5) I kD (mV I) dC ?_; refine SX.u (i:=6) I kD (xT I I) dC ?_; refine SX.u (i:=7) I kD (xT I I) dC ?_; refine SX.u (i:=8) I kD (xT I I) dC ?_; refine SX.u (i:=9) rfl kD (xT rfl rfl) dC ?_) | (refine SB.o (i:=4) rfl (SO.call call69 rfl<|rU E gx _ _ _ M es (L.mono b) l m (fun e J=>(d e J).1) oM) dC (.inr (by rintro _ gz _ ⟨rfl,f,A⟩; exact⟨by exact Le.trans (by assumption) (by assumption),(by exact .cons _<|.refl _)⟩)) ?_; rintro _ gz _ ⟨rfl,f,A⟩; obtain ⟨u,p1,n1,c1,rfl,H,U⟩:=A; obtain ⟨pu,cu,rfl⟩:=H.form; have t:=b.trans f; refine SX.u (i:=5) I kD (mV I) dC ?_; refine SX.u (i:=6) I kD (xT I I) dC ?_; refine SX.u (i:=7) I kD (xT I I) dC ?_; refine SX.u (i:=8) I kD (xT I I) dC ?_; refine SX.u (i:=9) I kD (xT I I) dC ?_))
   | ((with_reducible refine SB.k 3 ?_); first | (refine SB.o (i:=3) rfl (SO.call call70 rfl<|fp E g1 _ _ _ M ac true L l Q G N) dC (.inr (by rintro _ gx _ ⟨rfl,b,es,m,d,j⟩; exact⟨by assumption,(by exact .refl _)⟩)) ?_; rintro _ gx _ ⟨rfl,b,es,m,d,j⟩) | (refine SB.o (i:=3) rfl (SO.call call70 rfl<|fp E g1 _ _ _ M ac true L l Q G N) dC (.inr (by rintro _ gx _ ⟨rfl,b,es,m,d,j⟩; exact⟨by assumption,(by exact .cons _<|.refl _)⟩)) ?_; rintro _ gx _ ⟨rfl,b,es,m,d,j⟩))
   | ((with_reducible refine SX.k 11 ?_); first | refine zd7 3 kD ?_ | refine zd8 4 10 kD ?_ ?_)
   | ((with_reducible refine SX.k 10 ?_); refine zd7 4 kD ?_)
   | ((with_reducible refine SX.k 5 ?_); refine zd7 10 kD ?_)
   | ((with_reducible refine SX.k 4 ?_); refine zd7 11 kD ?_)
   | ((with_reducible refine SX.k 0 ?_); refine SX.nil kD ?_; exact za9 (bv,gz,⟨pu,(ig M es).2.1.length,cu⟩,es) sB I I ⟨t,⟨d,j⟩,H⟩)
   | (refine SX.k 12 ?_; refine zd8 3 10 kD ?_ ?_))
 rintro ⟨R,g2,⟨pL,nL,cL⟩,es⟩ ⟨B,m,Z⟩;dsimp only at B m Z ⊢;have F:=L.mono B;have S:=za5 T B;refine SC.cut (ι:=Nat×PH×Sv×List Ed) (fun i=>[(6,pp b6 0),(7,pp b7 0),(8,pp b8 0),(9,pp b9 0),(10,pp R 0),(14,pp i.1 0)]) (fun i=>i.2.1) (fun i=>pt i.1 (.cells #[.slice i.2.2.1.p i.2.2.1.n i.2.2.1.c] 29 (0,0))::pt R (.cells #[.slice pL nL cL] 29 (0,0))::pt b9 (.cells #[.slice pM M.length cM] 29 (0,0))::pt b8 (.cells #[.slice none 0 0] 29 (0,0))::pt b7 (.cells #[.slice none 0 0] 29 (0,0))::pt b6 (.cells #[.slice none 0 0] 29 (0,0))::pt b3 (.cells #[vi kd,.slice p n c,vi y] 24 (0,0))::s) (fun i=>Le g2 i.2.1∧EdL i.2.2.2∧ai i.2.1 (.slice i.2.2.1.p i.2.2.1.n i.2.2.1.c) (ig M i.2.2.2).2.1) ?_ ?_
 ·refine SC.drawX [11] ze5 kR ?_;refine SX.q (i:=0) I kR (qV 1 aj ae I I I) dC<|SX.q (i:=1) I kR (qV 1 aj ae I I I) dC<|SX.u (i:=2) I kR (mV I) dC ?_
  repeat' (first
   | ((with_reducible refine SB.k 11 ?_); refine SB.on (i:=11) I (sK 0 ae I I I I I ⟨I,trivial⟩) (.inl dC) ?_; rintro _ _ _ ⟨rfl,rfl⟩; refine SX.u (i:=12) I kD (aS I) dC ?_; refine SX.u (i:=13) I kD (aS I) dC ?_; refine SX.u (i:=14) I kD (aS I) dC ?_)
   | ((with_reducible refine SB.k 10 ?_); first | (refine SB.o (i:=10) rfl (aL zl9) dC (.inr (by rintro _ _ _ ⟨bv,rfl,rfl,rfl⟩; exact⟨by assumption,(by exact .cons _<|.refl _)⟩)) ?_; rintro _ _ _ ⟨bv,rfl,rfl,rfl⟩) | (refine SB.o (i:=10) rfl (aL zl9) dC (.inr (by rintro _ _ _ ⟨bv,rfl,rfl,rfl⟩; exact⟨by exact zb9 _,(by exact .cons _<|.refl _)⟩)) ?_; rintro _ _ _ ⟨bv,rfl,rfl,rfl⟩))
   | ((with_reducible refine SB.k 4 ?_); first | (refine SB.o (i:=4) rfl (SO.call call69 rfl<|rU E gx _ _ _ M fs (F.mono b) l z (fun e J=>(d e J).1) oM) dC (.inr (by rintro _ gz _ ⟨rfl,f,A⟩; exact⟨by exact Le.trans (by assumption) (by assumption),(by exact .refl _)⟩)) ?_; rintro _ gz _ ⟨rfl,f,A⟩; obtain ⟨u,p1,n1,c1,rfl,H,U⟩:=A; obtain ⟨pu,cu,rfl⟩:=H.form; have t:=b.trans f; refine SX.u (i:=5) I kD (mV I) dC ?_; refine SX.u (i:=6) I kD (xT I I) dC ?_; refine SX.u (i:=7) I kD (xT I I) dC ?_; refine SX.u (i:=8) I kD (xT I I) dC ?_; refine SX.u (i:=9) rfl kD (xT rfl rfl) dC ?_) | (refine SB.o (i:=4) rfl (SO.call call69 rfl<|rU E gx _ _ _ M fs (F.mono b) l z (fun e J=>(d e J).1) oM) dC (.inr (by rintro _ gz _ ⟨rfl,f,A⟩; exact⟨by exact Le.trans (by assumption) (by assumption),(by exact .cons _<|.refl _)⟩)) ?_; rintro _ gz _ ⟨rfl,f,A⟩; obtain ⟨u,p1,n1,c1,rfl,H,U⟩:=A; obtain ⟨pu,cu,rfl⟩:=H.form; have t:=b.trans f; refine SX.u (i:=5) I kD (mV I) dC ?_; refine SX.u (i:=6) I kD (xT I I) dC ?_; refine SX.u (i:=7) I kD (xT I I) dC ?_; refine SX.u (i:=8) I kD (xT I I) dC ?_; refine SX.u (i:=9) I kD (xT I I) dC ?_))
   | ((with_reducible refine SB.k 3 ?_); first | (refine SB.o (i:=3) rfl (SO.call call70 rfl<|fp E g2 _ _ _ M bd true F l S G O) dC (.inr (by rintro _ gx _ ⟨rfl,b,fs,z,d,j⟩; exact⟨by assumption,(by exact .refl _)⟩)) ?_; rintro _ gx _ ⟨rfl,b,fs,z,d,j⟩) | (refine SB.o (i:=3) rfl (SO.call call70 rfl<|fp E g2 _ _ _ M bd true F l S G O) dC (.inr (by rintro _ gx _ ⟨rfl,b,fs,z,d,j⟩; exact⟨by assumption,(by exact .cons _<|.refl _)⟩)) ?_; rintro _ gx _ ⟨rfl,b,fs,z,d,j⟩))
   | ((with_reducible refine SX.k 11 ?_); first | refine zd7 3 kD ?_ | refine zd8 4 10 kD ?_ ?_)
   | ((with_reducible refine SX.k 10 ?_); refine zd7 4 kD ?_)
   | ((with_reducible refine SX.k 5 ?_); refine zd7 10 kD ?_)
   | ((with_reducible refine SX.k 4 ?_); refine zd7 11 kD ?_)
   | ((with_reducible refine SX.k 0 ?_); refine SX.nil kD ?_; exact za9 (bv,gz,⟨pu,(ig M fs).2.1.length,cu⟩,fs) sB I I ⟨t,⟨d,j⟩,H⟩)
   | (refine SX.k 12 ?_; refine zd8 3 10 kD ?_ ?_))
 rintro ⟨a1,g3,⟨pR,nR,cR⟩,fs⟩ ⟨C,z,A⟩;dsimp only at C z A ⊢;have V:=F.mono C;have W:=Z.mono C;refine sQ ?_;refine SC.drawX [3,4,5] ze5 kR ?_;refine SX.q (i:=0) I kR (qV 2 aj ae I I I) dC ?_
 repeat' (first
  | ((with_reducible refine SB.k 5 ?_); refine SB.on (i:=5) I (sK 3 ae I I I I I ⟨I,trivial⟩) (.inl dC) ?_; rintro _ _ _ ⟨rfl,rfl⟩)
  | ((with_reducible refine SB.k 4 ?_); refine SB.on (i:=4) I (sK 4 ae I I I I I ⟨I,trivial⟩) (.inl dC) ?_; rintro _ _ _ ⟨rfl,rfl⟩)
  | ((with_reducible refine SB.k 3 ?_); refine SB.on (i:=3) I (sK 5 ae I I I I I ⟨I,trivial⟩) (.inl dC) ?_; rintro _ _ _ ⟨rfl,rfl⟩)
  | ((with_reducible refine SB.k 2 ?_); first | (refine SB.ob (i:=2) rfl (SQ.sof<|qV 0 aj ae rfl rfl rfl) dC kD ?_; rintro _ _ _ ⟨rfl,rfl,rfl⟩) | (refine SB.o (i:=2) rfl (SQ.sof<|qV 0 aj ae rfl rfl rfl) dC (.inr (by rintro _ _ _ ⟨rfl,rfl,rfl⟩; exact⟨by exact zb9 _,(by exact .refl _)⟩)) ?_; rintro _ _ _ ⟨rfl,rfl,rfl⟩))
  | ((with_reducible refine SB.k 1 ?_); first | (refine SB.ob (i:=1) rfl (SQ.sof<|qV 1 aj ae rfl rfl rfl) dC kD ?_; rintro _ _ _ ⟨rfl,rfl,rfl⟩) | (refine SB.o (i:=1) rfl (SQ.sof<|qV 1 aj ae rfl rfl rfl) dC (.inr (by rintro _ _ _ ⟨rfl,rfl,rfl⟩; exact⟨by exact zb9 _,(by exact .refl _)⟩)) ?_; rintro _ _ _ ⟨rfl,rfl,rfl⟩))
  | ((with_reducible refine SX.k 4 ?_); first | refine zd8 2 3 kD ?_ ?_ | refine zd8 1 3 kD ?_ ?_ | refine zd8 1 2 kD ?_ ?_)
  | ((with_reducible refine SX.k 3 ?_); first | refine zd7 3 kD ?_ | refine zd7 1 kD ?_ | refine zd8 2 4 kD ?_ ?_)
  | ((with_reducible refine SX.k 2 ?_); first | refine zd7 4 kD ?_ | refine zd7 2 kD ?_)
  | ((with_reducible refine SX.k 1 ?_); refine zd7 5 kD ?_)
  | ((with_reducible refine SX.k 0 ?_); refine SX.nil kD ?_; refine tN ?_; refine rE ?_; exact ST.retCCC 5 4 3 s (.inl I) results17 I I I aj ae aj ae aj ae I I I I I I (.cons _<|.cons _<|.cons _<|.cons _<|.cons _<|.cons _<|.cons _<|.refl _) ⟨I,D.trans<|B.trans C,_,_,_,es,fs,I,V,m,z,W,A⟩)
  | (refine SX.k 5 ?_; refine SX.br3 1 2 3 kD ?_ ?_ ?_))
set_option maxHeartbeats 1000000
theorem D4 {l:List Cl}{e:Ed}(h:(dM l e).1=0):(dM l e).2.length≤l.length+2:=by
 obtain ⟨i,f,b,g⟩:=sd h;have hA:=iI f;rw[g,au];have hl:=au l;have d:=rJ b;unfold cG
 rcases d with k | k | k | k | k
 ·rw[zg3 k,ze7,ze9];omega
 ·rw[zg2 oM,zg3 k];unfold cN;have:=zc6 (fun c:Cl=>!decide (c.id∈[e.cell]))<|aa l;omega
 ·rw[zg2 oM,zg2 oM,zg3 k];unfold bG at b;rw[zg2 oM,zg2 oM,zg3 k] at b;obtain ⟨c0,_,_,_,_,a⟩:=pg hA b;rw[a];simp;omega
 ·rw[zg2 oM,zg2 oM,zg2 oM,zg3 k];unfold ep;rw[ze8];unfold cN;refine zk9 (zc6 _ _) ?_;omega
 ·rw[zg2 oM,zg2 oM,zg2 oM,zg2 oM];unfold cN;refine zk9 (zc6 _ _) ?_;omega
theorem Dn:Rt ([]:List Cl):=iI (l:=[]) dC
theorem Bs {es:List Ed}:∀ {A:List Cl} {ss:List Stp} {i:Nat},Rt A→Rt (n9 A ss i es).2.1∧(n9 A ss i es).2.1.length≤A.length+2 * es.length:=by
 induction es with
 | nil=>intro A ss i hA; exact⟨hA,Nat.le_refl _⟩
 | cons e es ih =>
  intro A ss i hA;unfold n9;split
  ·rename_i hz;obtain ⟨a,b⟩:=ih (ss:=ss++[imO A e]) (i:=i+1) (sd hz).1;have:=D4 hz;rw[zf1];exact⟨a,oM⟩
  ·exact⟨Dn,zf8 _⟩
theorem EY {l:List Cl}{es:List Ed}(a:(ap l).2=0)(hl:∀ c∈l,a7 c.id)(b:l.length≤90)(h:EdL es):Rt (ig l es).2.1∧(ig l es).2.1.length≤114∧∀ c∈(ig l es).2.1,a7 c.id:=by
 refine⟨?_,?_,D7 hl h.1⟩
 ·unfold ig;rw[zg2 (by have:=h.2; omega),zg2 (by rw[a]; exact fun h=>h I)];exact (Bs<|iI a).1
 ·unfold ig;rw[zg2 (by have:=h.2; omega),zg2 (by rw[a]; exact fun h=>h I)];have:=(Bs (es:=es) (ss:=[]) (i:=0)<|iI a).2;rw[au] at this;have:=h.2;omega
theorem qS {l:List Cl}(h:Rt l):(ap l).2=0:=by rw[h.check]
theorem qj (E:World)(g:PH)(s:Own)(u:Value)(kd y:Int)(ls:List (List Int))(av:Value)(acts:List Ac)(A:cU g u ls)(H:SlA mC g av acts)(Z:∀ a∈acts,A64 a)(F:E.drawn=0) :
  Ctr Tryz.prog E 5 #[.agg #[vi kd,u,vi y],av] g s (fun r g' s'=>r=vb true∧s=s'∧Le g g'):=by
 obtain ⟨p,n,c,rfl⟩:∃ p n c,u = .slice p n c:=by
  obtain ⟨a0,B,_⟩:=A;obtain ⟨p,c,rfl⟩:=za4 B;exact⟨_,_,_,I⟩
 obtain ⟨pa,ca,rfl⟩:=za4 H;have j:=yg kd ls y;have m:=rh kd ls y;have k:=qS<|rf kd ls y;have C:=DH kd ls y;refine zb2 (args:=[.agg #[vi kd,.slice p n c,vi y],.slice pa acts.length ca]) func5 I ntmps5 (bE I)<|rZ (bW (bO I) fun b2=>?_);refine aT I<|rZ<|lW (SO.call call16 I<|tz E F g _) ?_;rintro _ g1 _ ⟨rfl,rfl,o⟩;refine aT I<|rZ<|SL.K (qV 0 isAgg24 sizeOf24 I I I)<|lM I<|lW (SO.call call17 I<|vn E g1 _ _ _ (.slice none 0 0) kd y ls acts [] (A.mono o) (za5 H o) (zc1 _ _) Z (fun _ h=>by cases h)) ?_;rintro _ g2 _ ⟨rfl,D,x0,x1,x2,es,fs,rfl,l,G,a1,i,hR⟩;obtain ⟨lR,lN,lI⟩:=EY k j C G;generalize (ig (jR kd ls y) es).2.1=L at *;generalize (ig (jR kd ls y) fs).2.1=R at *;generalize jR kd ls y=M at *;obtain ⟨pM,cM,rfl⟩:=l.form;obtain ⟨pL,cL,rfl⟩:=i.form;obtain ⟨pR,cR,rfl⟩:=hR.form;have f:=o.trans D;have lK:=qS lR;have lF:=lR.fits;have lc:=lR.canon;refine lM I (yX I<|yX I<|yX I<|bW (aL zl9) fun b6=>?_);refine bW (aL zl9) fun b7=>bW (aL zl9) fun b8=>oZ (sK 2 ae I I I I I sB)<|oZ (sK 1 ae I I I I I sB)<|oZ (sK 0 ae I I I I I sB)<|tZ<|rZ<|SL.K (qV 2 aj ae I I I)<|SL.K (qV 2 aj ae I I I)<|SL.K (qV 1 aj ae I I I)<|lW (SO.call call18 I<|fE E F g2 _ _ _ _ M M L l l i m m lF k k lK (fun x q=>q.elim (j x) fun q=>q.elim (j x)<|lI x) oM) ?_;rintro _ g327 _ ⟨rfl,b,a2,a3,rfl,d,v⟩;rw[lc,ww lR] at d v;obtain ⟨J,N,rfl⟩:=d.form;obtain ⟨O,P,rfl⟩:=iS (n:=0) v rfl;have l:=l.mono b;have i:=i.mono b;have f:=f.trans b;clear b;refine lM I (yX I<|yX I<|bW (aL zl9) fun b9=>?_);refine oZ (sK 0 ae I I I I I sB)<|aT I<|rZ<|SL.K (qV 3 aj ae I I I)<|SL.K (qV 2 aj ae I I I)<|SL.K (qV 3 aj ae I I I)<|lW (SO.call call18 I<|fE E F g327 _ _ _ _ M L M l i l m lF m k lK k (fun x q=>q.elim (j x) fun q=>q.elim (lI x)<|j x) oM) ?_;rintro _ g334 _ ⟨rfl,b,a4,a5,rfl,e,w⟩;rw[lc,zm lR] at e w;obtain ⟨Q,S,rfl⟩:=e.form;obtain ⟨T,U,rfl⟩:=iS (n:=0) w rfl;have l:=l.mono b;have i:=i.mono b;have f:=f.trans b;have d:=d.mono b;clear b;refine lM I (yX I<|yX I<|bW (aL zl9) fun a9=>?_);refine oZ (sK 0 ae I I I I I sB)<|aT I<|rZ<|SL.K (qV 4 aj ae I I I)<|SL.K (qV 3 aj ae I I I)<|SL.K (qV 3 aj ae I I I)<|lW (SO.call call18 I<|fE E F g334 _ _ _ _ M L L l i i m lF lF k lK lK (fun x q=>q.elim (j x) fun q=>q.elim (lI x)<|lI x) oM) ?_;rintro _ g341 _ ⟨rfl,b,b0,b1,rfl,t,z⟩;rw[lc,zo lR] at t z;obtain ⟨V,W,rfl⟩:=t.form;obtain ⟨X,Y,rfl⟩:=iS (n:=0) z rfl;have l:=l.mono b;have i:=i.mono b;have f:=f.trans b;have d:=d.mono b;have e:=e.mono b;clear b;refine lM I (yX I<|yX I<|bW (aL zl9) fun b3=>?_);refine oZ (sK 0 ae I I I I I sB)<|aT I<|sW I<|lM I<|yC I<|lY I I I (eN az I)<|yC I<|lY I I I (eN az I)<|lY I I I (SU.eq (v':=vi 0) (aD I I ⟨by decide,by decide⟩) I) ?_;refine yC I<|lY I I I (eN az I)<|lY I I I (SU.eq (v':=vi 0) (aD I I ⟨by decide,by decide⟩) I) ?_;refine lY I I I (SU.eq (v':=vb true) (eQ I I)<|ze4 vb<|zg1 I)<|yP I<|lM I<|SL.gq (gT I I I dC) (qV 2 aj ae I I I) dC<|SL.gq (gT I I I dC) (qV 4 aj ae I I I) dC<|ze3 (gT I I I dC) (SO.call call21 I<|m5 E g341 _ _ _ L L d i lF lF) dC ?_;rintro _ _ _ ⟨rfl,rfl,rfl⟩;rw[show decide (aa L=aa L)=true from zg1 rfl];refine yP I<|lM I<|SL.gq (gT I I I dC) (qV 1 aj ae I I I) dC<|SL.gq (gT I I I dC) (qV 4 aj ae I I I) dC<|ze3 (gT I I I dC) (SO.call call21 I<|m5 E g341 _ _ _ L L e i lF lF) dC ?_;rintro _ _ _ ⟨rfl,rfl,rfl⟩;rw[show decide (aa L=aa L)=true from zg1 rfl];refine yP I<|lM I<|SL.gq (gT I I I dC) (qV 0 aj ae I I I) dC<|SL.gq (gT I I I dC) (qV 4 aj ae I I I) dC<|ze3 (gT I I I dC) (SO.call call21 I<|m5 E g341 _ _ _ L L t i lF lF) dC ?_;rintro _ _ _ ⟨rfl,rfl,rfl⟩;rw[show decide (aa L=aa L)=true from zg1 rfl];exact yP I<|aT I<|rE<|dR (s':=s) uR<|za8 (.inl I) results5 I ⟨I,I,f⟩
end Go.Proofs.YtbbppeihhkhkcaaGreatDoor
namespace Go.Proofs.YtbbppeihhkhkcaaGreatDoor.mergeAloneDone
open _root_.Go.Proofs.Tryz _root_.Go.Proofs.YtbbppeihhkhkcaaGreatDoor.Tryz
open Go Go.Sy Go.Pl Go.Proofs Go.Proofs.YtbbppeihhkhkcaaGreatDoor
open Go.ChangeShapes Go.WideShapes Go.ChangeAt Go.RowKit
set_option linter.unusedVariables false
theorem own:ownKnob Tryz.prog.godebug=none:=by kernel_rfl
theorem laidOut:laidOutB Tryz.prog=true:=by kernel_rfl
set_option maxRecDepth 100000 in
theorem lifted (os:Os)(started:os.Started)(H:Type)(enc:TypeId×Value→H) :
  ReturnsInHanded {} Tryz.checked os 5 .any (fun w args=>(Rows.mergeAloneSpec.pre enc Tryz.prog f5 Rows.mergeAloneRow.domain false w args∧laidMetH Tryz.prog Rows.mergeAloneRow.laid w)∧sizedMet enc Tryz.prog f5 (OpenSpec.ofChange Rows.mergeAloneSpec) false w args)
   (Rows.mergeAloneSpec.post enc Tryz.prog f5 false true false false):=by
 refine returnsInHanded_of_change_and (C:=Tryz.checked) (X:=fun w _=>laidMetH Tryz.prog Rows.mergeAloneRow.laid w) (fun _ _ _ E h=>h.of_heap E) own started kR func5
  (ChangeSpec.witness_shaped (enc:=enc) (C:=Tryz.checked) (os:=os) (X:=fun w _=>laidMetH Tryz.prog Rows.mergeAloneRow.laid w) false (World.laidAll Tryz.prog os Rows.mergeAloneRow.laid) #[.agg #[.int .i64 0,.slice none 0 0,.int .i64 0],.slice none 0 0] 8 (World.laidAll_os _ _ _)
   (World.shaped_of_ZipB kR kR) kR kR kR
   (by rw[MakeChecks.laidMetH_plain _ _ _ kR]; exact laidMet_laidAll _ kR kR)) ?_
 intro W base args ds gs before a A B D P _;have b:∀ (j:Nat) t v,f5.params[j]?=some t→args[j]?=some v→Value.okWide Tryz.prog W .any base t v:=a;have f:=A;obtain ⟨p,q,d,F,rfl,G,J⟩:=A;have hA:DataW.TrodAll enc Tryz.prog W 0 (fun _=>true) true f5.params.toList args.toList ds p:=d;rw[params5] at hA b;obtain ⟨v0,K,d0,L,p0,q0,g,rfl,rfl,i,r0⟩:=trodAll_cons hA;obtain ⟨v1,M,d1,N,p1,q1,rfl,rfl,rfl,k,r1⟩:=trodAll_cons r0;obtain ⟨rfl,rfl,rfl⟩:=trodAll_nil r1;obtain rfl:args = #[v0,v1]:=by cases args; simp_all
 obtain ⟨rfl,rfl⟩:=trodVars_none F;have lt0:∀ x∈p0,x.block<W.heap.size:=by obtain ⟨m,hm⟩:=i; exact DataW.trod_lt m _ _ _ hm
 have lt1:∀ x∈p1,x.block<W.heap.size:=by obtain ⟨m,hm⟩:=k; exact DataW.trod_lt m _ _ _ hm
 obtain ⟨kd,y,u,ls,e0,l⟩:=Dh (b 0 24 v0 rfl rfl) i;obtain ⟨a1,n1,c1,s1⟩:=okWide_slice underlying25<|b 1 25 v1 rfl rfl;obtain ⟨n,o,r⟩:=Av k (by rw[s1]; rfl);clear d a;have walk:Calls Tryz.prog 5 #[v0,v1] W fun e w'=>e = .returned (.bool true)∧Below W.heap.size W w':=by
  rw[e0];refine (qj (E0 W) (tj W) [] u kd y ls _ n l o r I W (D2 W)).mono ?_;rintro e w' ⟨v,g',s',rfl,s,rfl,rfl,z⟩;exact⟨I,D3 s z⟩
 refine walk.mono fun e W' ⟨O,c⟩=>?_;subst O;exact⟨_,I,_,_,_,[],_,[],f,trodAll_mk1<|shut_bool uT4 _,(trodAll_cons_mk (Below.trod laidOut kR (zg5 kR) i c lt0)<|trodAll_cons_mk (Below.trod laidOut kR (zg5 kR) k c lt1) trodAll_mk0),I,c.frame _,fun h=>by cases h⟩
def Es (P:Program)(fn:Func)(c:OpenClaim):Bool:=(c.kinds == (if c.domain.isEmpty then [] else fn.params.toList.map fun t=>match P.underlying t with | some (.int k)=>some k | _=>none))
theorem iU {a b:Bool}(h:a=true)(k:b=true):(a&&b)=true:=by rw[h,k]; rfl
theorem Ch {P:Program}{f:FuncId}{fn:Func}{s:ChangeSpec}{c:OpenClaim}
  (B:(c.wf<|OpenSpec.ofChange s)=true)
  (C:(laidOutB P)=true)
  (D:(mapsRowed P)=true)
  (E:(fn.params.all (P.readableRec ·))=true)
  (F:(namedTie P c.named s.vars)=true)
  (G:((c.stops == []))=true)
  (H:((P.stops == []))=true)
  (J:((c.knobs == []))=true)
  (K:((P.stopKnobs == []))=true)
  (L:((c.inPlace == P.inPlace f))=true)
  (a:((c.unfollowed == P.unfollowed f))=true)
  (b:((c.recurses == P.recurses f))=true)
  (d:((c.named == P.varsNamed f))=true)
  (e:((c.maps == (fn.params.toList++s.plain.varTypes P).any (P.mapsRec ·)))=true)
  (g:((c.ifaces == (fn.params.toList++s.plain.varTypes P).any (P.ifacesRec ·)))=true)
  (i:((c.mapsOut == P.mapsAmong fn.resultTypes.toList))=true)
  (j:((c.loops == (fn.params.toList++s.plain.varTypes P).any (P.loopsFrom ·)))=true)
  (k:((c.wideKeys == (fn.params.toList++s.plain.varTypes P++fn.resultTypes.toList).any (P.wideKeysFrom ·)))=true)
  (l:(s.vars.all (P.varReadable ·))=true)
  (m:(fn.resultTypes.all<|fun t=>P.readableRec t&&decide (t<P.types.size))=true)
  (n:((c.ifacesOut == fn.resultTypes.toList.any (P.ifacesRec ·)))=true)
  (o:((c.loopsOut == fn.resultTypes.toList.any (P.loopsFrom ·)))=true)
  (p:((c.plainKeys == P.plainKeys))=true)
  (q:(c.shortTexts.isNone)=true)
  (r:(P.stopsHeard)=true)
  (u:(P.mayEnter)=true)
  (v:((c.lifted == P.liftsFinal))=true)
  (w:((P.make == some c.make))=true)
  (x:(Es P fn c)=true)
  (y:((c.pinned == c.pinnedBy))=true)
  (z:((c.veiled == (fn.params.toList++s.plain.varTypes P++fn.resultTypes.toList).any (P.veiledRec ·)))=true)
  (A:(c.veiledFits P fn.params.toList<|fn.params.toList++s.plain.varTypes P++fn.resultTypes.toList)=true)
  : joinedFacts P f fn s c=true:=by
 exact iU (iU (iU (iU (iU (iU (iU (iU (iU (iU (iU (iU (iU (iU (iU (iU (iU (iU (iU (iU (iU (iU (iU (iU (iU (iU (iU (iU (iU (iU (iU B C) D) E) F) G) H) J) K) L) a) b) d) e) g) i) j) k) l) m) n) o) p) q) r) u) v) w) x) y) z) A
theorem k0:(Rows.mergeAloneRow.wf<|OpenSpec.ofChange Rows.mergeAloneSpec)=true:=by kernel_rfl
theorem k1:(laidOutB Tryz.prog)=true:=by kernel_rfl
theorem k2:(mapsRowed Tryz.prog)=true:=by kernel_rfl
theorem k3:(f5.params.all (Tryz.prog.readableRec ·))=true:=by kernel_rfl
theorem k4:(namedTie Tryz.prog Rows.mergeAloneRow.named Rows.mergeAloneSpec.vars)=true:=by kernel_rfl
theorem k5:((Rows.mergeAloneRow.stops == []))=true:=by kernel_rfl
theorem k6:((Tryz.prog.stops == []))=true:=by kernel_rfl
theorem k7:((Rows.mergeAloneRow.knobs == []))=true:=by kernel_rfl
theorem k8:((Tryz.prog.stopKnobs == []))=true:=by kernel_rfl
theorem k9:((Rows.mergeAloneRow.inPlace == Tryz.prog.inPlace 5))=true:=by kernel_rfl
theorem k10:((Rows.mergeAloneRow.unfollowed == Tryz.prog.unfollowed 5))=true:=by kernel_rfl
theorem k11:((Rows.mergeAloneRow.recurses == Tryz.prog.recurses 5))=true:=by kernel_rfl
theorem k12:((Rows.mergeAloneRow.named == Tryz.prog.varsNamed 5))=true:=by kernel_rfl
theorem k13:((Rows.mergeAloneRow.maps == (f5.params.toList++Rows.mergeAloneSpec.plain.varTypes Tryz.prog).any (Tryz.prog.mapsRec ·)))=true:=by kernel_rfl
theorem k14:((Rows.mergeAloneRow.ifaces == (f5.params.toList++Rows.mergeAloneSpec.plain.varTypes Tryz.prog).any (Tryz.prog.ifacesRec ·)))=true:=by kernel_rfl
theorem k15:((Rows.mergeAloneRow.mapsOut == Tryz.prog.mapsAmong f5.resultTypes.toList))=true:=by kernel_rfl
theorem k16:((Rows.mergeAloneRow.loops == (f5.params.toList++Rows.mergeAloneSpec.plain.varTypes Tryz.prog).any (Tryz.prog.loopsFrom ·)))=true:=by kernel_rfl
theorem k17:((Rows.mergeAloneRow.wideKeys == (f5.params.toList++Rows.mergeAloneSpec.plain.varTypes Tryz.prog++f5.resultTypes.toList).any (Tryz.prog.wideKeysFrom ·)))=true:=by kernel_rfl
theorem k18:(Rows.mergeAloneSpec.vars.all (Tryz.prog.varReadable ·))=true:=by kernel_rfl
theorem k19:(f5.resultTypes.all<|fun t=>Tryz.prog.readableRec t&&decide (t<Tryz.prog.types.size))=true:=by kernel_rfl
theorem k20:((Rows.mergeAloneRow.ifacesOut == f5.resultTypes.toList.any (Tryz.prog.ifacesRec ·)))=true:=by kernel_rfl
theorem k21:((Rows.mergeAloneRow.loopsOut == f5.resultTypes.toList.any (Tryz.prog.loopsFrom ·)))=true:=by kernel_rfl
theorem k22:((Rows.mergeAloneRow.plainKeys == Tryz.prog.plainKeys))=true:=by kernel_rfl
theorem k23:(Rows.mergeAloneRow.shortTexts.isNone)=true:=by kernel_rfl
theorem k24:(Tryz.prog.stopsHeard)=true:=by kernel_rfl
theorem k25:(Tryz.prog.mayEnter)=true:=by kernel_rfl
theorem k26:((Rows.mergeAloneRow.lifted == Tryz.prog.liftsFinal))=true:=by kernel_rfl
theorem k27:((Tryz.prog.make == some Rows.mergeAloneRow.make))=true:=by kernel_rfl
theorem k28:(Es Tryz.prog f5 Rows.mergeAloneRow)=true:=by kernel_rfl
theorem k29:((Rows.mergeAloneRow.pinned == Rows.mergeAloneRow.pinnedBy))=true:=by kernel_rfl
theorem k30:((Rows.mergeAloneRow.veiled == (f5.params.toList++Rows.mergeAloneSpec.plain.varTypes Tryz.prog++f5.resultTypes.toList).any (Tryz.prog.veiledRec ·)))=true:=by kernel_rfl
theorem k31:(Rows.mergeAloneRow.veiledFits Tryz.prog f5.params.toList<|f5.params.toList++Rows.mergeAloneSpec.plain.varTypes Tryz.prog++f5.resultTypes.toList)=true:=by kernel_rfl
theorem kp:Rows.mergeAloneRow.wfByText (OpenSpec.ofChange Rows.mergeAloneSpec)=true:=by kernel_rfl
theorem kf : Tryz.prog.funcNamed "cocycle/cocyclelaw18.MergeAlone" = some 5:=by kernel_rfl
theorem kr:Tryz.pinned.checked.prog.funcNamed Rows.mergeAloneRow.func=some 5:=by kernel_rfl
theorem kj:joinedFacts Tryz.pinned.checked.prog 5 f5 Rows.mergeAloneSpec Rows.mergeAloneRow=true :=
 Ch k0 k1 k2 k3 k4 k5 k6 k7 k8 k9 k10 k11 k12 k13 k14 k15 k16 k17 k18 k19 k20 k21 k22 k23 k24 k25 k26 k27 k28 k29 k30 k31
theorem ki:f5.isInstance Tryz.prog Rows.mergeAloneRow.origin Rows.mergeAloneRow.targs:=zg5 kR
theorem kw:f5.isWrapper Tryz.prog Rows.mergeAloneRow.wrapper Rows.mergeAloneRow.mainSum:=by unfold Func.isWrapper; first | (rw[zg3 (by decide +kernel)]; kernel_rfl) | (rw[zg2 (by decide +kernel)]; exact⟨I,I⟩)
theorem km : Tryz.prog.mainIs = some (true,("cdd7b8cb2f263e97c0beb24abf2d7239d76cc07e0537133e289a66fd7f1971ec" : String).toList):=by kernel_rfl
theorem kl:false=Tryz.prog.looks []:=by kernel_rfl
theorem kg:false=Rows.mergeAloneRow.goesBy Tryz.prog:=by kernel_rfl
theorem kq:([24,25].all fun u=>!Tryz.prog.wantsStandIn u)=true:=by kernel_rfl
theorem over:Rows.mergeAloneRow.holds Tryz.pinned (OpenSpec.ofChange Rows.mergeAloneSpec) :=
 OpenClaim.holds_of_wide 5 f5 rfl rfl rfl rfl rfl rfl rfl ⟨rfl,rfl,rfl,rfl,rfl⟩ rfl rfl rfl rfl rfl kr func5 kj ki kw
  (fun os a H enc _=>lifted os a H enc)
theorem proved:Rows.MergeAloneCardSaid :=
 Claim7.holds_tied_plain_at .later [] [.data,.pinned] true (true, "cdd7b8cb2f263e97c0beb24abf2d7239d76cc07e0537133e289a66fd7f1971ec") false
  over (fun _ h=>by cases h) kp (fun _ h=>by cases h) mergeAlone_row_tie rfl ⟨rfl,rfl⟩ km rfl
  (fun f fn c a=>by
   obtain rfl:f=5:=Option.some.inj (kf.symm.trans c) |>.symm;obtain rfl:fn=f5:=(Option.some.inj (func5.symm.trans a)).symm;exact⟨kl,fun j t b=>by
    rw[params5] at b;have hm:t∈[24,25]:=by simpa using Array.mem_of_getElem? b
    exact (show Tryz.prog.wantsStandIn t=false by simpa using zk2.1 kq t hm)⟩)
  kg
#print axioms proved
end Go.Proofs.YtbbppeihhkhkcaaGreatDoor.mergeAloneDone
