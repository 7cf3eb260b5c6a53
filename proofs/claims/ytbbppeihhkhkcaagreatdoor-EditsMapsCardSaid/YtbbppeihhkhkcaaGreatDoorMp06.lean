/- 6 -/
import Derived.Test.YtbbppeihhkhkcaaGreatDoorMp05
import Derived.Test.YtbbppeihhkhkcaaGreatDoorMp04
import Derived.Test.YtbbppeihhkhkcaaGreatDoorMp02
set_option linter.unusedSimpArgs false
set_option linter.unusedVariables false
namespace Go.Proofs.YtbbppeihhkhkcaaGreatDoor
open _root_.Go.Proofs.Tryz _root_.Go.Proofs.YtbbppeihhkhkcaaGreatDoor.Tryz
open Go Go.Sy Go.Pl Go.Proofs
set_option maxRecDepth 100000
theorem F7 {g:PH}:∀ {ls:List (List Int)} {rs:List Sv},aF (dY g) ls rs→(∀ x∈ls,x.length<1099511627776)→∃ L:List (LV g),L.map LV.l=ls∧L.map LV.sv=rs
 | [],[],_,_=>⟨[],rfl,rfl⟩
 | x::ls,r::rs,h,hl=>by
  obtain ⟨L,h1,h2⟩:=F7 h.2 (fun y hy=>hl y (by simp[hy]));exact⟨⟨r,x,h.1,hl x (by simp)⟩::L,by simp[h1],by simp[h2]⟩
 | [],_::_,h,_=>h.elim
 | _::_,[],h,_=>h.elim
theorem EG {g:PH}:∀ (L:List (LV g)),aF (dY g) (L.map LV.l) (L.map LV.sv)
 | []=>trivial
 | x::L=>⟨x.h,EG L⟩
theorem Bc {g:PH}:∀ (L:List (LV g)),L.flatMap (lE g).enc=(L.map LV.sv).flatMap dM.enc
 | []=>rfl
 | x::L=>by simp only[zh5,zg4,Bc L]; rfl
theorem EF {g:PH}(T:TypeId)(v:Value)(L:List (LV g)):rowA (lE g) T v L=rowA dM T v (L.map LV.sv):=by
 simp only[rowA,Bc,ze6]
def eqL (a b:List Int):Bool:=decide (a=b)
theorem nf {α β:Type}(f:α→β)(eq:α→α→Bool)(eq':β→β→Bool)(h:∀ a b,eq a b=eq' (f a) (f b)):∀ (x:α) (l:List α),(bt eq x l).map f=bt eq' (f x) (l.map f)
 | _,[]=>rfl
 | x,y::r=>by
  simp only[bt,zg4,h];split
  ·exact nf f eq eq' h y r
  ·rw[zg4,nf f eq eq' h y r]
theorem Dg {α β:Type}(f:α→β)(eq:α→α→Bool)(eq':β→β→Bool)(h:∀ a b,eq a b=eq' (f a) (f b))(l:List α):(uniq eq l).map f=uniq eq' (l.map f):=by
 cases l with
 | nil=>rfl
 | cons x r=>simp only[uniq,zg4,nf f eq eq' h]
theorem ne {α:Type}(eq:α→α→Bool):∀ (x:α) (l:List α),(bt eq x l).Sublist l
 | _,[]=>.slnil
 | x,y::r=>by
  simp only[bt];split
  ·exact (ne eq y r).cons y
  ·exact (ne eq y r).cons_cons y
theorem sC {α:Type}(eq:α→α→Bool)(l:List α):(uniq eq l).Sublist l:=by
 cases l with
 | nil=>exact .slnil
 | cons x r=>exact (ne eq x r).cons_cons x
def dA (s:List Int):List Int:=uniq (fun a b:Int=>decide (a=b)) (ei s)
def jO:List Int→Bool
 | []=>true
 | a::r=>decide (a<0)||decide (((a::r).length:Int)>9)
def eO (all:List (List Int))(t:List Int):List (List Int):=uniq eqL (o7 (all++bU t))
def be:List (List Int)→List (List Int)→Option (List (List Int))
 | all,[]=>some all
 | all,s::r=>if jO (dA s) then be all r else if ((eO all (dA s)).length:Int)>4000 then none else be (eO all (dA s)) r
def fN (all:List (List Int))(s:List Int)(k:Nat):List Side:=if 0<(s.eraseIdx k).length then [⟨lbL all (s.eraseIdx k)+1,dh k⟩] else []
def a8 (all:List (List Int))(s:List Int)(j:Nat):List Side:=(List.range j).flatMap (fN all s)
def ol (all:List (List Int))(p:List Int×Nat):Cl:=⟨p.2+1,(p.1.length:Int) - 1,a8 all p.1 p.1.length⟩
def br (all:List (List Int)):List Cl:=all.zipIdx.map (ol all)
def dg (l:List (List Int)):List Cl:=match be [] l with
 | none=>[]
 | some all=>aa (br all)
theorem qG (t:List Int)(h:t.length≤9):(bU t).length≤511:=by
 have:=AL t.length h;simp[bU];omega
theorem iJ {t:List Int}(h:t.length≤9):∀ x∈bU t,x.length≤9:=fun x hx=>by
 obtain ⟨i,_,rfl⟩:=zf2.1 hx;exact zk8 (f9 _ _) h
theorem vz {t:List Int}(h:t≠[]):0<(bU t).length:=by
 have h1:0<t.length:=List.length_pos_iff.2 h;have h2:2 ^ 1≤2 ^ t.length:=Nat.pow_le_pow_right dC h1;simp[bU];omega
theorem lI {all:List (List Int)}{t x:List Int}(h:x∈eO all t):x∈all∨x∈bU t:=by
 have h1:=(sC eqL _).subset h;have h2:=(i8 _).subset h1;exact zf3.1 h2
theorem xK (all:List (List Int))(t:List Int):tr (eO all t):=(jX _).sublist (sC eqL _)
theorem xZ {all:List (List Int)}(h:tr all)(t:List Int):∀ i j (hi:i<all.length) (hj:j<all.length),i<j→ao all[j] t<0→ao all[i] t<0:=fun i j hi hj hij hlt=>by
 have h1:=zc9.1 h i j hi hj hij
 rcases eh all[i] all[j] with h2 | h2 | h2
 ·exact eX _ _ _ h2 hlt
 ·rw[h2]; exact hlt
 ·exact absurd h2 h1
theorem fZ (all:List (List Int))(s:List Int)(j:Nat):a8 all s (j+1)=a8 all s j++fN all s j:=by
 simp[a8,List.range_succ]
theorem e8 (all:List (List Int))(s:List Int)(j:Nat):(a8 all s j).length≤j:=by
 induction j with
 | zero=>simp[a8]
 | succ j ih =>
  rw[fZ,ze5];have:(fN all s j).length≤1:=by unfold fN; split <;> simp
  omega
theorem bT (all:List (List Int)):(br all).length=all.length:=by simp[br]
theorem jF {all:List (List Int)}{k:Nat}(h:k<all.length):(br all)[k]?=some (ol all (all[k],k)):=by
 simp[br,h]
theorem lh {all:List (List Int)}(h:all.length≤4000)(hs:∀ x∈all,x.length≤9):ci (br all):=by
 refine⟨by rw[bT]; omega,fun c hc=>?_⟩;obtain ⟨p,hp,rfl⟩:=zf2.1 hc;have h1:p.1∈all:=by
  have:=List.mem_map_of_mem (f:=Prod.fst) hp;simpa using this
 have h2:=hs _ h1;have h3:=e8 all p.1 p.1.length;show (a8 all p.1 p.1.length).length<_;omega
theorem AM (ls:List (List Int))(t:List Int):lbL ls t≤ls.length:=zc5 _ _
def jU (v:Value):Sv:=match v with
 | .slice p n c=>⟨p,n,c⟩
 | _=>⟨none,0,0⟩
theorem qH (E:World)(g:PH)(s:Own)(v:Value)(ls:List (List Int))(hv:cX g v ls)(hn:ls.length<1099511627776)(hl:∀ x∈ls,x.length<17592186044416) :
  Ctr Tryz.prog E 65 #[v] g s (fun r g' s'=>s=s'∧Le g g'∧∃ u,r = .agg #[u]∧ar g' u (dg ls)):=by
 obtain ⟨rs0,hrs0,hall0⟩:=hv;have hlen0:=hall0.length;obtain ⟨p,c,rfl⟩:=za4 hrs0;refine zb2 (args:=[.slice p rs0.length c]) func65 I ntmps65 (bE I) ?_;refine rZ (bW (aL zl5) fun b2=>?_);refine tZ (rZ (aT I (sQ (sW I (lU (eN eU I) (lM I (tZ (bK (zb6 52 1 ?_)))))))));refine oP (ι:=PH×Value×List Sv×List (List Int)×Nat) (fun i=>[(0,.slice p rs0.length c),(2,pp b2 0),(3,i.2.1),(14,.slice p rs0.length c),(15,vi rs0.length),(16,vi i.2.2.2.2)]) (fun i=>i.1)
  (fun i=>rowA dM 52 i.2.1 i.2.2.1::pt b2 (.cells #[.slice none 0 0] 29 (0,0))::s)
  (fun i=>Le g i.1∧i.2.2.2.2≤rs0.length∧aF (dY i.1) i.2.2.2.1 i.2.2.1∧(i.2.2.2.1.length≤4000∧∀ x∈i.2.2.2.1,x.length≤9)∧tr i.2.2.2.1∧be [] ls=be i.2.2.2.1 (ls.drop i.2.2.2.2)) (fun i=>rs0.length - i.2.2.2.2)
  (g,.slice none 0 0,[],[],0) sB rfl rfl ⟨zb9 g,zf6 _,trivial,⟨zf6 _,by simp⟩,List.Pairwise.nil,rfl⟩ ?_
 rintro ⟨g1,av,rs,all,k⟩ ⟨hle,hk,hall,⟨hal,has⟩,hsrt,hsa⟩;dsimp only at hle hk hall hal has hsrt hsa ⊢;have hrl:=hall.length;refine rZ (yL I (tZ (sQ ?_)));refine iP I (fun hlt=>?_) (fun hlt=>?_)
 ·have hkl:k<ls.length:=oM;have hkr:k<rs0.length:=oM;have hR:=(hall0.get (gE hkl) (gE hkr)).mono hle;have hxl:=hl _ (gM hkl);have hb1:=hrs0.based oM;have hdrop:ls.drop k=ls[k]::ls.drop (k+1):=zg6 hkl;rw[hdrop] at hsa;generalize hx:ls[k]=x at *;generalize hr:rs0[k]=r at *;have hgr:rs0[((k:Nat):Int).toNat]?=some r:=by rw[← hr]; exact gE hkr
  have hsl:=ff x;have hul:=lr (fun a b:Int=>decide (a=b)) (ei x);refine kP (tN (sQ (bK (rZ (lU (iA eU gw I I hb1 oM sL) (lK (eB jV I (hrs0.mono hle).rd hgr I) (aT I (sW I (lW (cL call131 I (GC E g1 _ _ x hR hxl)) ?_)))))))));rintro v21 _ _ ⟨rfl,rfl⟩;refine aT I (sW I (lW (cL call132 I (tx E g1 _ v21 x 0 I hxl)) ?_));rintro _ _ _ ⟨rfl,rfl⟩;refine tZ (sW I (lW (cL call133 I (Eg E g1 _ v21 (ei x) oM)) ?_));rintro v25 _ _ ⟨rfl,rfl⟩;refine aT I (sQ (fS fun g2 hle2 hs2=>?_));have hset:eG g2 v25 (dA x):=hs2;have hsetl:(dA x).length<17592186044416:=by unfold dA; omega
  obtain ⟨q2,d2,rfl⟩:=za4 hset;have hcase:dA x=[]∨∃ a t,dA x=a::t:=by cases dA x with
   | nil=>exact .inl rfl
   | cons a t=>exact .inr ⟨a,t,rfl⟩
  have hall2:=hall.mono fun _ _=>dY.mono hle2;clear hs2;generalize hT:dA x=T at *
  rcases hcase with hT0 | ⟨a,t,hTa⟩
  ·subst hT0;have hbad:jO (dA x)=true:=by rw[hT]; rfl
   refine sW I (lU (eN aH I) (lU (SU.eq (v':=vb true) (eQ I I) (ze2 vb (zf8 (by simp)))) ?_));refine lM I (yA I (yA I (yA I (yA I (yP I (lM I (yA I (yA I (yA I (yP I (tZ (za2 I (xI (tX (bX (tN (rG (yD I (lM I (nL ?_))))))))))))))))))));refine ST.again (g2,av,rs,all,k+1) sB I I ⟨hle.trans hle2,lN,hall2,⟨hal,has⟩,hsrt,?_⟩ lN;rw[hsa,be,zg1 hbad]
  ·have hTl:T.length=t.length+1:=by rw[hTa]; rfl
   have hbT:=za6 hset oM;have hga:T[((0:Nat):Int).toNat]?=some a:=by rw[hTa]; rfl
   have hbe:jO (dA x)=(decide (a<0)||decide ((T.length:Int)>9)):=by rw[hT,hTa]; rfl
   have hbe1:a<0→(decide (a<0)||decide ((T.length:Int)>9))=true:=fun h=>by simp[h]
   have hbe2:¬ a<0→(decide (a<0)||decide ((T.length:Int)>9))=decide ((T.length:Int)>9):=fun h=>by simp[h]
   refine SC.sub (f':=[(0,.slice p rs0.length c),(2,pp b2 0),(3,av),(5,.slice q2 T.length d2),(14,.slice p rs0.length c),(15,vi rs0.length),(16,vi k)]) sB ?_;refine SC.cutB 39 ((decide (a<0)||decide ((T.length:Int)>9))) ?_ ?_
   ·refine rG (lM I (lU (eN aH I) (lU (SU.eq (v':=vb false) (eQ I I) (ze2 vb (zf7 oM))) (lM I (yC I (lY I I I (iA aH zT3 I I hbT dC sL) (SL.gq (gT I I I dC) (eB iT3 I (za7 hset) hga I) dC (lY I I I (lS I I) (yF I (lM I ?_))))))))));refine sP ?_ ?_
    ·intro h35;refine yA I (yA I (yA I (yP I (nL ?_))));exact zb1 (by (rw[hbe1 h35]; rfl)) mI
    ·intro h35;refine yC I (lY I I I (eN aH I) (lY I I I (gR I I) (yF I (nL ?_))));exact zb1 (by (rw[hbe2 h35]; rfl)) mI
   refine iQ I (fun hbad=>?_) (fun hbad=>?_)
   ·refine xI (tX (bX (tN (rG (yD I (lM I (nL ?_)))))));refine ST.again (g2,av,rs,all,k+1) sB I I ⟨hle.trans hle2,lN,hall2,⟨hal,has⟩,hsrt,?_⟩ lN;rw[hsa,be,zg1 (hbe.trans hbad)]
   ·have hb9:T.length≤9:=by simp at hbad; omega
    have hsub1:=qG T hb9;have hsub2:=iJ hb9;have hsub3:=vz (t:=T) (by rw[hTa]; simp);have hnb:¬ jO (dA x)=true:=by rw[hbe,hbad]; simp
    refine kP (tN (sW I (lM I (lW (cL call134 I (vy E g2 _ _ T hset hb9)) ?_))));rintro v42 g3 _ ⟨rfl,hle3,hsub⟩;obtain ⟨rs2,hrs2,hall3⟩:=hsub;have hrl2:=hall3.length;refine lW (aQ (e:=dM) 0 sty22 I I I hrs2 oM oM) ?_;rintro v43 _ _ ⟨rfl,rfl⟩;have hall4:=(hall2.mono fun _ _=>dY.mono hle3).append hall3;obtain ⟨L,hL1,hL2⟩:=F7 hall4 (fun y hy=>(zf3.1 hy).elim (fun h=>Nat.lt_of_le_of_lt (has y h) dC) (fun h=>Nat.lt_of_le_of_lt (hsub2 y h) dC));have hLl:L.length=all.length+(bU T).length:=(by have:=ze2 List.length hL1; simpa using this);rw[← hL2,← EF];refine aT I (sW I (lW (cL call135 I (wE E g3 _ _ L oM oM)) ?_));rintro _ _ _ ⟨rfl,L2,hp2,hs2,rfl⟩;have hL2l:=hp2.length_eq;have hcall:∀ (x y:LV g3) s',c4 Tryz.prog E (.func (.func 138) #[] #[]) [x.val,y.val] g3 s' (fun r g' s''=>r=vb (decide (x.l=y.l))∧g3=g'∧s'=s''):=fun x y s'=>c4.mk (args:=[x.val,y.val]) (cap:=[]) call138 (j4 E g3 s' _ _ x.l y.l x.h y.h x.len);refine tZ (sW I (lW (cL call137 I (Ef (lE g3) LV.val (fun _=>I) (fun _=>I) E g3 _ _ 138 (fun x y=>decide (x.l=y.l)) L2 oM hcall)) ?_));rintro v47 _ _ ⟨rfl,rfl⟩;refine zd3 fun ⟨w0,hw0⟩=>?_;obtain ⟨q,d,rfl⟩:=ag (i:=0) hw0 rfl;clear hw0 w0;rw[EF];have hnew:(uniq (fun x y:LV g3=>decide (x.l=y.l)) L2).map LV.l=eO all T:=(by rw[Dg LV.l (fun x y:LV g3=>decide (x.l=y.l)) eqL (fun _ _=>rfl),hs2,hL1]; rfl);have hnl:(uniq (fun x y:LV g3=>decide (x.l=y.l)) L2).length=(eO all T).length:=(by rw[← hnew,ze6]);have hall5:=EG (uniq (fun x y:LV g3=>decide (x.l=y.l)) L2);rw[hnew] at hall5;generalize (uniq (fun x y:LV g3=>decide (x.l=y.l)) L2).length=n47 at *;generalize (uniq (fun x y:LV g3=>decide (x.l=y.l)) L2).map LV.sv=rs5 at *;refine aT I (sW I (lU (eN eU I) (lU (gR I I) (tZ ?_))));refine iP I (fun hmany=>?_) (fun hmany=>?_)
    ·have hnone:be [] ls=none:=by rw[hsa,be,zf9 hnb,hT,zg1 oM]
     refine rZ (lU (za3 I (buildE29)) (oZ (sK 1 aC I I I I I sB) ?_));refine tZ (rE (bR (tR (tR (bR (tR ?_))))));exact ST.retCD 1 s (.inl I) results65 I ba aC I I uR ⟨I,hle.trans (hle2.trans hle3),_,I,by simp only[dg,hnone]; exact⟨[],zc1 _ _,trivial⟩⟩
    ·refine kP (bN (tN (rG (yD I (lM I (nL ?_))))));refine ST.again (g3,.slice q n47 d,rs5,eO all T,k+1) sB I I ⟨hle.trans (hle2.trans hle3),lN,hall5,⟨lN,fun y hy=>?_⟩,xK all T,?_⟩ lN
     ·rcases lI hy with h | h
      ·exact has y h
      ·exact hsub2 y h
     ·rw[hsa,be,zf9 hnb,hT,zf9 oM]
 ·have hk0:k=rs0.length:=oM;have hsome:be [] ls=some all:=by rw[hsa,hk0,← hlen0,List.drop_length]; rfl
  have hfit:=lh hal has;refine xI (tX (tX (bX (tN (sQ (fS fun g2 hle2 hs2=>?_))))));have hav:SlA dM g2 av rs:=hs2;obtain ⟨q,d,rfl⟩:=za4 hav;have hall2:=hall.mono fun _ _=>dY.mono hle2;refine rG (bW (aL zl5) fun b6=>?_);refine tZ (sQ (sW I (lU (eN eU I) (lM I (tZ (bK (zb6 56 3 ?_)))))));refine oP (ι:=PH×Value×List Rc×Nat) (fun i=>[(2,pp b2 0),(3,.slice q rs.length d),(6,pp b6 0),(53,.slice q rs.length d),(54,vi rs.length),(55,vi i.2.2.2)]) (fun i=>i.1)
   (fun i=>rowA encCell 56 i.2.1 i.2.2.1::pt b6 (.cells #[i.2.1] 29 (0,0))::pt b2 (.cells #[.slice none 0 0] 29 (0,0))::s)
   (fun i=>Le g2 i.1∧i.2.2.2≤rs.length∧aF (aw i.1) ((br all).take i.2.2.2) i.2.2.1) (fun i=>rs.length - i.2.2.2)
   (g2,.slice none 0 0,[],0) sB rfl rfl ⟨zb9 g2,zf6 _,trivial⟩ ?_
  rintro ⟨g3,ov,rcs,n⟩ ⟨hle3,hn3,hrcs⟩;dsimp only at hle3 hn3 hrcs ⊢;have hrcl:=hrcs.length;rw[ze4,bT] at hrcl;refine rZ (yL I (tZ (sQ ?_)));refine iP I (fun hlt2=>?_) (fun hlt2=>?_)
  ·have hnl:n<all.length:=oM;have hnr:n<rs.length:=oM;have hb1:=hav.based oM;have hR:=(hall2.get (gE hnl) (gE hnr)).mono hle3;have hRl:=hR.len;have hx9:=has _ (gM hnl);have hget:=jF hnl;generalize hx:all[n]=x at *;generalize hr:rs[n]=r at *;obtain ⟨rp,rn,rc⟩:=r;dsimp only at hRl;subst hRl;have hxs:eG g3 (.slice rp x.length rc) x:=hR;have hgr:rs[((n:Nat):Int).toNat]?=some ⟨rp,x.length,rc⟩:=by rw[← hr]; exact gE hnr
   refine kP (tN (sQ (bK (sW I (lU (iA eU gw I I hb1 oM sL) (lK (eB (u:=.slice rp x.length rc) jV I (hav.mono hle3).rd hgr I) (lA I (aT I (sW I (yD I (lM I (lU (eN aH I) (lU (sU I I oM) (lU (za3 I (buildC56 _ _)) (bW (aL zl4) fun b9=>?_)))))))))))))));refine oZ (sK 0 aq I I I I I sB) ?_;refine tZ (sQ (sQ (zb6 75 2 (rG (lM I (lU (eN aH I) (lM I (tZ (bK ?_)))))))));refine oP (ι:=PH×Value×Nat) (fun i=>[(2,pp b2 0),(3,.slice q rs.length d),(6,pp b6 0),(53,.slice q rs.length d),(54,vi rs.length),(55,vi n),(8,.slice rp x.length rc),(9,pp b9 0),(66,.slice rp x.length rc),(67,vi x.length),(68,vi i.2.2)]) (fun i=>i.1)
    (fun i=>rowA encSide 75 i.2.1 (a8 all x i.2.2)::pt b9 (.cells #[vi ((n:Int)+1),vi ((x.length:Int) - 1),i.2.1] 56 (0,0))::rowA encCell 56 ov rcs::pt b6 (.cells #[ov] 29 (0,0))::pt b2 (.cells #[.slice none 0 0] 29 (0,0))::s)
    (fun i=>Le g3 i.1∧i.2.2≤x.length) (fun i=>x.length - i.2.2)
    (g3,.slice none 0 0,0) sB rfl rfl ⟨zb9 g3,zf6 _⟩ ?_
   rintro ⟨g4,sv,j⟩ ⟨hle4,hj⟩;dsimp only at hle4 hj ⊢;have hssl:=e8 all x j;have hsucc:=fZ all x j;refine rZ (yL I (tZ (sQ ?_)));refine iP I (fun hlt3=>?_) (fun hlt3=>?_)
   ·have hjl:j<x.length:=oM;have hxs4:eG g4 (.slice rp x.length rc) x:=hxs.mono hle4;have hcap:=(SlA.cap hxs4).2;have hc1:=SlA.cut hxs4 (l:=0) (m:=j) oM oM;have hc2:=SlA.cut hxs4 (l:=j+1) (m:=x.length) oM oM;have he1:(x.drop 0).take (j - 0)=x.take j:=by simp
    have he2:(x.drop (j+1)).take (x.length - (j+1))=x.drop (j+1):=tL (by rw[ze9]; omega);rw[he1] at hc1;rw[he2] at hc2;have her:[x.take j,x.drop (j+1)].flatten=x.eraseIdx j:=by rw[List.eraseIdx_eq_take_drop_succ]; simp
    have hel:(x.eraseIdx j).length=x.length - 1:=by rw[List.length_eraseIdx]; simp[hjl]
    have hsum:jc [x.take j,x.drop (j+1)]<1099511627776:=by simp[jc]; omega
    refine kP (tN (sQ (bK (sW I (aT I (sQ ?_))))));refine dW [] [(0,2),(1,2),(2,2),(3,2),(4,2),(5,2),(6,2),(7,0),(8,0),(9,2)] ze3 kR ?_;refine yM I (yM I (pU I (SU.sliceH aH zT3 I I oM oM) (yM I (yM I (pU I (aD I I oM) (pU I (SU.eq (v':=sliced rp (j+1) x.length rc 1) (SU.sliceL aH zT3 I I oM oM) (by rw[show ((j:Int)+1).toNat=j+1 by omega])) ?_))))));refine SP.o I (bS sty22 I I I (ae sB) dC) dC (.inr iR) ?_;rintro _ _ _ ⟨b78,rfl,rfl,rfl⟩;refine SP.freeze fun g5 hle5 hb78=>?_;have hlit:cX g5 (.slice (some ⟨b78,0,none⟩) 2 2) [x.take j,x.drop (j+1)]:=⟨[jU (sliced rp 0 j rc 1),jU (sliced rp (j+1) x.length rc 1)],SlA.lit hb78 rfl rfl,⟨hc1.mono hle5,hc2.mono hle5,trivial⟩⟩;refine SP.o I (cL call139 I (xx E g5 _ _ _ hlit (by simp) hsum)) dC (.inr iR) ?_;rintro v79 _ _ ⟨rfl,rfl⟩;refine pU I (aS I) (pN (tN (sQ (fS fun g6 hle6 hs6=>?_))));have hrest:eG g6 v79 (x.eraseIdx j):=(by rw[← her]; exact hs6);obtain ⟨q6,d6,rfl⟩:=za4 hrest;clear hs6;refine rG (lM I (lU (eN aH I) (lU (gR I I) (tZ ?_))));refine iP I (fun hpos=>?_) (fun hpos=>?_)
    ·have hside:fN all x j=[⟨lbL all (x.eraseIdx j)+1,dh j⟩]:=by unfold fN; rw[zg1 oM]
     have hlb:=AM all (x.eraseIdx j);rw[hside] at hsucc;have hlist:cX g6 (.slice q rs.length d) all:=⟨rs,hav.mono (hle3.trans (hle4.trans (hle5.trans hle6))),hall2.mono fun _ _=>dY.mono (hle3.trans (hle4.trans (hle5.trans hle6)))⟩;refine sW I (lM I (lW (cL call140 I (Ar E g6 _ _ _ all (x.eraseIdx j) hlist hrest oM (fun y hy=>by have:=has y hy; omega) (xZ hsrt _))) ?_));rintro _ _ _ ⟨⟨fb,rfl⟩,rfl,rfl⟩;refine lM I (yX I (yX I (lA I (aT I ?_))));refine dW [8,9,10] [(0,2),(1,1),(2,2),(3,2),(4,2),(5,0),(6,2),(7,0),(8,0),(9,0),(10,0)] ze3 kR ?_;refine pU I (fA au I bQ I) (pK I (qL cZ I (cO 1 I I)) (yM I (pU I (aD I I oM) (yM I (SP.o I (cL call141 I (BS E g6 _ j)) dC (.inr iR) ?_)))));rintro _ _ _ ⟨rfl,rfl,rfl⟩;refine pU I (za3 I (buildS75 _ _)) (SP.o I (bS sty39 I I I (ae sB) dC) dC (.inr iR) ?_);rintro _ _ _ ⟨b96,rfl,rfl,rfl⟩;refine SP.o I (aP (e:=encSide) 0 ⟨lbL all (x.eraseIdx j)+1,dh j⟩ sty39 I I I I I oM oM) dC (.inl dC) ?_;rintro v97 _ _ ⟨rfl,rfl⟩;rw[← hsucc];refine zd2 fun ⟨w0,hw0⟩=>?_;obtain ⟨q97,d97,rfl⟩:=ag (i:=0) hw0 rfl;clear hw0 w0;refine oU rfl (fA au rfl bQ rfl) dC (.inl dC) (SP.on rfl (SO.store1 1 bQ rfl rfl rfl rfl (bE rfl) (by rfl)) (.inl dC) ?_);rintro _ _ _ ⟨rfl,rfl⟩;refine pN (bN (tN (rG (yD I (lM I (nL ?_))))));exact ST.again (g6,_,j+1) sB I I ⟨hle4.trans (hle5.trans hle6),lN⟩ lN
    ·have hside:fN all x j=[]:=by unfold fN; rw[zf9 oM]
     rw[hside,zc6] at hsucc;refine kP (bN (tN (rG (yD I (lM I (nL ?_))))));refine ST.to (fun w hw=>?_) (g':=g6) (s':=rowA encSide 75 sv (a8 all x (j+1))::pt b9 (.cells #[vi ((n:Int)+1),vi ((x.length:Int) - 1),sv] 56 (0,0))::rowA encCell 56 ov rcs::pt b6 (.cells #[ov] 29 (0,0))::pt b2 (.cells #[.slice none 0 0] 29 (0,0))::s) ?_
     ·rw[hsucc]; exact hw
     exact ST.again (g6,sv,j+1) sB I I ⟨hle4.trans (hle5.trans hle6),lN⟩ lN
   ·have hjj:j=x.length:=oM;subst hjj;refine xI (tX (tX (bX (tN (rG (fR fun g5 hle5 hs5=>?_))))));have hsd:SlA encSide g5 sv (a8 all x x.length):=hs5;obtain ⟨q5,d5,rfl⟩:=za4 hsd;obtain ⟨nc,hnc⟩:∃ nc:Rc,nc=⟨(n:Int)+1,(x.length:Int) - 1,⟨q5,(a8 all x x.length).length,d5⟩⟩:=⟨_,rfl⟩;refine lU (fA eH I ee I) (lK (qL fX I (cO 2 I I)) (lK (qV 0 dL aq I I I) (lW (bS sty27 I I I (ae sB) dC) ?_)));rintro _ _ _ ⟨b103,rfl,rfl,rfl⟩;refine lW (aP (e:=encCell) 1 nc sty27 I I I I (by rw[hnc]; rfl) oM oM) ?_;rintro v104 _ _ ⟨rfl,rfl⟩;refine zd3 fun ⟨w0,hw0⟩=>?_;obtain ⟨q104,d104,rfl⟩:=ag (i:=1) hw0 rfl;clear hw0 w0;refine lU (fA eH I ee I) (oZ (sK 2 ee I I I I I sB) ?_);refine nL (bN (tN (rG (yD I (lM I (nL (dR (s':=rowA encCell 56 (.slice q104 (rcs++[nc]).length d104) (rcs++[nc])::pt b6 (.cells #[.slice q104 (rcs++[nc]).length d104] 29 (0,0))::pt b2 (.cells #[.slice none 0 0] 29 (0,0))::s) (.cons _ (.refl _)) ?_)))))));refine ST.again (g5,_,rcs++[nc],n+1) sB I I ⟨hle3.trans (hle4.trans hle5),lN,?_⟩ lN;dsimp only;rw[kz hget];exact (hrcs.mono fun _ _=>aw.mono (hle4.trans hle5)).append ⟨(by rw[hnc]; exact⟨I,I,hsd⟩),trivial⟩
  ·have hnn:n=rs.length:=oM;have htk:(br all).take n=br all:=tL (by rw[bT]; omega);rw[htk] at hrcs;refine xI (tX (tX (bX (tN (sQ (fS fun g4 hle4 hs4=>?_))))));have hov:ar g4 ov (br all):=⟨rcs,hs4,hrcs.mono fun _ _=>aw.mono hle4⟩;refine rG (lK (qV 0 ba aC I I I) (lW (cL call53 I (kT E g4 _ ov (br all) hov hfit)) ?_));rintro _ g5 _ ⟨rfl,hle5,u,rfl,hu⟩;obtain ⟨q9,d9,rfl⟩:=hu.form;refine oZ (sK 1 aC I I I I I sB) ?_;refine tZ (rE ?_);exact ST.retCD 1 s (.inl I) results65 I ba aC I I uR ⟨I,hle.trans (hle2.trans (hle3.trans (hle4.trans hle5))),_,I,by simp only[dg,hsome]; exact hu⟩
def kY (c:Cl)(r:Rc):Prop:=r.id=c.id∧r.dim=c.dim∧r.sv.n=c.sides.length
def Dd (c:Cl)(r:Rc):Ent:=rowA encSide 75 (.slice r.sv.p r.sv.n r.sv.c) c.sides
def gy:List Cl→List Rc→Own
 | c::l,r::rs=>Dd c r::gy l rs
 | _,_=>[]
theorem qj:∀ {l:List Cl} {rs:List Rc} (c:Cl) (r:Rc),l.length=rs.length→gy (l++[c]) (rs++[r])=gy l rs++[Dd c r]
 | [],[],_,_,_=>rfl
 | x::l,y::rs,c,r,h=>by
  simp only[List.cons_append,gy];rw[qj c r (by simpa using h)]
 | [],_::_,_,_,h=>by simp at h
 | _::_,[],_,_,h=>by simp at h
theorem freezeO {E:World}{s:Own}{w:World}:∀ {l:List Cl} {rs:List Rc} {g:PH},aF kY l rs→At E g (gy l rs++s) w→∃ g',Le g g'∧At E g' s w∧aF (aw g') l rs
 | [],[],g,_,h=>⟨g,zb9 g,h,trivial⟩
 | c::l,r::rs,g,h1,h=>by
  obtain ⟨g1,hl1,ha1,hs1⟩:=At.freezeRow h;obtain ⟨g2,hl2,ha2,hs2⟩:=freezeO h1.2 ha1;exact⟨g2,hl1.trans hl2,ha2,⟨h1.1.1,h1.1.2.1,za5 hs1 hl2⟩,hs2⟩
 | [],_::_,_,h1,_=>h1.elim
 | _::_,[],_,h1,_=>h1.elim
theorem Fp (x y:Side)(w:World):(binOp .eql 75 (.agg (encSide.enc x).toArray) (.agg (encSide.enc y).toArray)).run Tryz.prog w = .ok (.bool (decide (x=y))) w:=by
 have hu:Tryz.prog.underlying 75=some (.struct (Tryz.prog.fieldsOf 75)):=by kernel_rfl
 rw[run_eql_struct,run_equalIn_agg w 9999 75 _ _ hu stoodInHeld75]
 have hfs : ∃ f1 f2,(Tryz.prog.fieldsOf 75).toList = [f1,f2] ∧ f1.name ≠ "_" ∧ f2.name ≠ "_" ∧ f1.type = 3 ∧ f2.type = 3 ∧ f1.offset = 0 ∧ f2.offset = 1:=⟨_,_,rfl,by decide,by decide,rfl,rfl,rfl,rfl⟩
 obtain ⟨f1,f2,e,n1,n2,t1,t2,o1,o2⟩:=hfs;obtain ⟨a,b⟩:=x;obtain ⟨c,d⟩:=y;rw[e];have h1:=run_equalIn_int (P:=Tryz.prog) w 9998 3 .i64 .i64 a c uT3;have h2:=run_equalIn_int (P:=Tryz.prog) w 9998 3 .i64 .i64 b d uT3;simp only[Op.eqFields,n1,n2,t1,t2,o1,o2,encSide,part,ne_eq,not_false_eq_true,if_true,Sem.run_bind,iT3,zd1];simp[h1,h2];by_cases hac:a=c <;> by_cases hbd:b=d <;> simp[hac,hbd]
theorem SU.eqlSide {N:Nat}{f:Fr}{dst:Option Tmp}{ty:TypeId}{pos:String}{af:Array Edge}{gd:Option (Nat×Bool)}{x y:Operand}(a b:Side){U:TypeId}(hx:ev f x=some (.agg (encSide.enc a).toArray))(hy:ev f y=some (.agg (encSide.enc b).toArray)) :
  SU Tryz.prog N ⟨dst,.binOp .eql 75 x y U,ty,pos,af,gd⟩ f (.bool (decide (a=b))):=fun ac w ha=>by
 have hg:=run_eqGuard_agg (P:=Tryz.prog) w .eql 75 x y (encSide.enc a).toArray (encSide.enc b).toArray eqGuardType75;simp only[execOp,ha.ev hx,ha.ev hy,Sem.run_bind,hg,zd1,Fp];rfl
def me:List Cl:=[⟨1,0,[]⟩,⟨2,0,[]⟩,⟨3,0,[]⟩,⟨4,1,[⟨1,-1⟩,⟨2,1⟩]⟩,⟨5,1,[⟨1,-1⟩,⟨3,1⟩]⟩,⟨6,1,[⟨2,-1⟩,⟨3,1⟩]⟩,⟨7,2,[⟨4,1⟩,⟨5,-1⟩,⟨6,1⟩]⟩]
theorem Ds {l:List Int}(h:l.Pairwise (· ≤ ·)):ei l=l:=by
 unfold ei;exact List.mergeSort_of_pairwise (h.imp fun h=>by simpa using h)
theorem Dz:dA [0,1,2]=[0,1,2]:=by
 unfold dA;rw[Ds dC];rfl
theorem Dt:dg [[0,1,2]]=me:=by
 simp only[dg,be,Dz];rfl
theorem D8 {l:List Cl}(h:(l.all fun c=>decide (c.sides.length<100))=true)(h2:l.length<100):ci l:=by
 rw[zj9] at h;exact⟨oM,fun c hc=>by have:=h c hc; simp at this; omega⟩
theorem Dl:ci me:=D8 dC dC
theorem aF.cons_left {α β:Type}{R:α→β→Prop}{a:α}{l:List α}{m:List β}(h:aF R (a::l) m):∃ b m',m=b::m'∧R a b∧aF R l m':=by
 cases m with
 | nil=>exact h.elim
 | cons b m=>exact⟨b,m,rfl,h.1,h.2⟩
theorem aF.nil_left {α β:Type}{R:α→β→Prop}{m:List β}(h:aF R ([]:List α) m):m=[]:=by
 cases m with
 | nil=>rfl
 | cons b m=>exact h.elim
theorem fI {g:PH}{c:Cl}{r:Rc}(h:aw g c r):∃ p d,r=⟨c.id,c.dim,⟨p,c.sides.length,d⟩⟩∧SlA encSide g (.slice p c.sides.length d) c.sides:=by
 obtain ⟨i,dm,p,n,d⟩:=r;obtain ⟨h1,h2,h3⟩:=h;dsimp only at h1 h2 h3;have h4:=(SlA.cap h3).1;subst h1 h2 h4;exact⟨p,d,I,h3⟩
theorem Cx {α:Type}{key:α→Int}{l out:List α}{x:α}{k:Nat}(hs:Srt key out)(hst:aA key l out)(h1:∀ y∈out.take k,key y≤key x)(h2:∀ y∈out.drop k,key x<key y) :
  Srt key (out.take k++x::out.drop k)∧aA key (l++[x]) (out.take k++x::out.drop k):=by
 have hs':Srt key (out.take k++out.drop k):=by rw[zj2]; exact hs
 have h3:=Srt.append_iff.1 hs';refine⟨Srt.append_iff.2 ⟨h3.1,Srt.cons_iff.2 ⟨fun y hy=>Int.le_of_lt (h2 y hy),h3.2.1⟩,fun y hy z hz=>?_⟩,?_⟩
 ·rcases zf1.1 hz with rfl | hz
  ·exact h1 y hy
  ·exact h3.2.2 y hy z hz
 ·have h4:aA key (l++[x]) (out++[x]):=hst.append (aA.refl [x]);have h5:aA key (out.drop k++[x]) ([x]++out.drop k):=aA.swap (fun y hy z hz=>by simp at hz; subst hz; have:=h2 y hy; omega);have h6:=aA.append (aA.refl (key:=key) (out.take k)) h5;have h7:out++[x]=out.take k++(out.drop k++[x]):=by rw[← zg8,zj2]
  rw[h7] at h4;simpa using h4.trans h6
theorem wB {α:Type}{key:α→Int}{out:List α}{c:Int}{k:Nat}(hs:Srt key out)(hk:k<out.length)(h:c<key out[k]):∀ y∈out.drop k,c<key y:=by
 rw[zg6 hk];intro y hy;have h1:Srt key (out.drop k):=List.Pairwise.sublist (List.drop_sublist k out) hs;rw[zg6 hk] at h1
 rcases zf1.1 hy with rfl | hy
 ·exact h
 ·have:=(Srt.cons_iff.1 h1).1 y hy;omega
theorem rH (E:World)(g:PH)(s:Own)(v:Value)(l:List Side)(hv:SlA encSide g v l)(hl:l.length<1099511627776) :
  Ctr Tryz.prog E 100 #[v] g s (fun r g' s'=>s=s'∧Le g g'∧SlA encSide g' r (sortBy Side.cell l)):=by
 obtain ⟨p,c,rfl⟩:=za4 hv;refine zb2 (args:=[.slice p l.length c]) func100 I ntmps100 (bE I) ?_;refine rZ (aT I (rZ (aT I (sQ (rZ (aT I (bK ?_)))))));refine oP (ι:=PH×Value×List Side×Nat) (fun i=>[(0,.slice p l.length c),(3,i.2.1),(4,vi i.2.2.2)]) (fun i=>i.1) (fun _=>s)
  (fun i=>Le g i.1∧SlA encSide i.1 i.2.1 i.2.2.1∧i.2.2.2≤l.length∧Srt Side.cell i.2.2.1∧aA Side.cell (l.take i.2.2.2) i.2.2.1) (fun i=>l.length - i.2.2.2)
  (g,.slice none 0 0,[],0) sB rfl rfl ⟨zb9 g,zc1 g _,zf6 _,Srt.nil,aA.refl _⟩ ?_
 rintro ⟨g1,ov,out,i⟩ ⟨hle,hov,hi,hsrt,hst⟩;dsimp only at hle hov hi hsrt hst ⊢;have hol:out.length=i:=by have:=hst.1; rw[ze4] at this; omega
 obtain ⟨q,d,rfl⟩:=za4 hov;have hqc:=(SlA.cap hov).2;refine sQ (sW I (lM I (lU (eN aY I) (yL I (tZ ?_)))));refine iP I (fun hlt=>?_) (fun hlt=>?_)
 ·have hil:i<l.length:=oM;have hb1:=za6 (hv.mono hle) oM;have hgi:l[((i:Nat):Int).toNat]?=some l[i]:=gE hil;have htk:l.take (i+1)=l.take i++[l[i]]:=tS hil;generalize l[i]=x at *;refine kP (tN (sQ (bK (rZ (aT I ?_)))));refine SC.cut (ι:=Nat) (fun k=>[(0,.slice p l.length c),(3,.slice q out.length d),(4,vi i),(5,vi k)]) (fun _=>g1) (fun _=>s) (fun k=>k≤out.length∧(∀ y∈out.take k,y.cell≤x.cell)∧∀ y∈out.drop k,x.cell<y.cell) ?_ ?_
  ·refine bK ?_;refine oP (ι:=Nat) (fun k=>[(0,.slice p l.length c),(3,.slice q out.length d),(4,vi i),(5,vi k)]) (fun _=>g1) (fun _=>s) (fun k=>k≤out.length∧∀ y∈out.take k,y.cell≤x.cell) (fun k=>out.length - k) 0
    sB rfl rfl ⟨zf6 _,by simp⟩ ?_
   rintro k ⟨hk,htake⟩;by_cases hin:(k:Int)<(out.length:Int)
   ·have hkl:k<out.length:=oM;have hb2:=za6 hov oM;have hd:decide ((k:Int)<(out.length:Int))=true:=zf8 hin;refine sQ (sQ ?_);refine dW [] [(0,2),(1,2),(2,2),(3,2),(4,2),(5,2),(6,2),(7,2),(8,2),(9,1),(10,2),(11,2),(12,2),(13,2),(14,1),(15,2),(16,2)] ze3 kR ?_;refine yM I (yM I (pU I (eN aY I) (pU I (SU.eq (lS I I) (ze2 vb hd)) (yM I (yJ I (yJ I (zb3 I (gT I I I dC) (iA aY aI I I hb2 oM sL) dC (zb3 I (gT I I I dC) (fC dw I zT3 I hb2) dC ?_))))))));refine SP.gq I (gT I I I dC) (aZ (o:=0) iT3 I hov.rd (gE hkl) I) dC ?_;refine yJ I (yJ I (zb3 I (gT I I I dC) (iA aY aI I I hb1 oM sL) dC (zb3 I (gT I I I dC) (fC dw I zT3 I hb1) dC (SP.gq I (gT I I I dC) (aZ (o:=0) iT3 I (hv.mono hle).rd hgi I) dC (zb3 I (gT I I I dC) (SU.leq I I) dC (pU I (wT I I) (pN (tN ?_))))))));refine iP I (fun hc=>?_) (fun hc=>?_)
    ·refine kP (tN (bK (rG (lM I (yD I (lA I (nL (bN ?_))))))));exact ST.again (k+1) sB I I ⟨oM,by
      rw[tS hkl];intro y hy
      rcases zf3.1 hy with h | h
      ·exact htake y h
      ·simp at h; subst h; exact hc⟩ oM
    ·refine xI (tX (tX (bX ?_)));exact za9 k sB I I ⟨hk,htake,wB hsrt hkl oM⟩
   ·have hd:decide ((k:Int)<(out.length:Int))=false:=zf7 hin;refine sQ (sQ ?_);refine dW [] [(0,2),(1,2),(2,2),(3,2),(4,2),(5,2),(6,2),(7,2),(8,2),(9,1),(10,2),(11,2),(12,2),(13,2),(14,1),(15,2),(16,2)] ze3 kR ?_;refine yM I (yM I (pU I (eN aY I) (pU I (SU.eq (lS I I) (ze2 vb hd)) (yM I (yG I (yG I (yG I (yG I (yI I (yG I (yG I (yG I (yG I (yI I (yG I (pU I (wF I I) (pN (tN (za1 I (xI (tX (tX (bX ?_)))))))))))))))))))))));exact za9 k sB I I ⟨hk,htake,by rw[List.drop_eq_nil_of_le oM]; simp⟩
  ·rintro k ⟨hk,hk1,hk2⟩;have hnew:=Cx hsrt hst hk1 hk2;have hc1:=SlA.cut hov (l:=k) (m:=out.length) hk (lR _);have hc2:=SlA.cut hov (l:=0) (m:=k) (zf6 _) hk;rw[tL (by rw[ze9]; exact lR _)] at hc1;rw[List.drop_zero,Nat.sub_zero] at hc2;refine sQ ?_;refine dW [8] [(0,2),(1,2),(2,2),(3,1),(5,2),(6,2),(7,2),(4,0),(8,0),(9,2)] ze3 kR ?_;refine yM I (yM I (pU I (iA aY aI I I hb1 oM sL) (pK I (eA fh aI I (hv.mono hle).rd hgi) (yM I (yM I (pU I (SU.sliceL aY aI I I oM oM) (SP.o I (bS sty39 I I I (ae ⟨I,trivial⟩) dC) dC (.inr iR) ?_)))))));rintro _ _ _ ⟨b36,rfl,rfl,rfl⟩;refine SP.to (fun w hw=>At.litRow (e:=encSide) (l:=[x]) (n:=0) hw I I dC) ?_;refine SP.o I (aQ (e:=encSide) 0 sty39 I I I hc1 (by rw[ze9]; (first | with_reducible rfl | ((try dsimp only); (try simp only[ze5,ze8,zc4,ze7,ze4,ze9])<;>omega))) (by rw[ze9]; (first | with_reducible rfl | ((try dsimp only); (try simp only[ze5,ze8,zc4,ze7,ze4,ze9])<;>omega)))) dC (.inl dC) ?_;rintro v40 _ _ ⟨rfl,rfl⟩;refine pU I (aS I) (pN (tN (fS fun g2 hle2 hs2=>?_)));have hrest:SlA encSide g2 v40 ([x]++out.drop k):=hs2;refine rG (lW (bS sty39 I I I (ae trivial) dC) ?_);rintro _ _ _ ⟨b41,rfl,rfl,rfl⟩;refine SL.emptyRow 75 2 (some ⟨b41,0,none⟩) (lM I (lM I (lU (SU.sliceH aY aI I I oM oM) (lW (aQ (e:=encSide) (l:=[]) 0 sty39 I I I (hc2.mono hle2) (by rw[ze4]; (first | with_reducible rfl | ((try dsimp only); (try simp only[ze5,ze8,zc4,ze7,ze4,ze9])<;>omega))) (by rw[ze4]; (first | with_reducible rfl | ((try dsimp only); (try simp only[ze5,ze8,zc4,ze7,ze4,ze9])<;>omega)))) ?_))));rintro v45 _ _ ⟨rfl,rfl⟩;refine lM I (lW (aQ (e:=encSide) 0 sty39 I I I hrest lN lN) ?_);rintro v47 _ _ ⟨rfl,rfl⟩;refine lA I (nL (bN (tN (rG (lM I (yD I (lA I (nL (fT fun g3 hle3 hs3=>?_)))))))));refine dR (s':=s) uR ?_;have hres:SlA encSide g3 v47 (out.take k++x::out.drop k):=by have h:SlA encSide g3 v47 ([]++out.take k++([x]++out.drop k)):=hs3; simpa using h
   exact ST.again (g3,v47,out.take k++x::out.drop k,i+1) sB I I ⟨hle.trans (hle2.trans hle3),hres,lN,hnew.1,by dsimp only; rw[htk]; exact hnew.2⟩ lN
 ·have hii:l.take i=l:=tL oM;rw[hii] at hst;refine xI (tX (tX (bX (tN (sW I (aT I (rE ?_)))))));exact za8 (.inl I) results100 I ⟨I,hle,by rw[← cB hsrt hst]; exact hov⟩
theorem aF.drop {α β:Type}{R:α→β→Prop}:∀ {l:List α} {m:List β} (k:Nat),aF R l m→aF R (l.drop k) (m.drop k)
 | _,_,0,h=>by simpa using h
 | [],[],k+1,_=>trivial
 | _::_,_::_,k+1,h=>by simpa using aF.drop k h.2
 | [],_::_,_+1,h=>h.elim
 | _::_,[],_+1,h=>h.elim
theorem aF.take {α β:Type}{R:α→β→Prop}:∀ {l:List α} {m:List β} (k:Nat),aF R l m→aF R (l.take k) (m.take k)
 | _,_,0,_=>by simp; trivial
 | [],[],k+1,_=>trivial
 | _::_,_::_,k+1,h=>⟨h.1,aF.take k h.2⟩
 | [],_::_,_+1,h=>h.elim
 | _::_,[],_+1,h=>h.elim
theorem ar.cut {g:PH}{p:Option Addr}{c a b n:Nat}{l:List Cl}(h:ar g (.slice p n c) l)(ha:a≤b)(hb:b≤l.length):ar g (sliced p a b c 3) ((l.drop a).take (b - a)):=by
 obtain ⟨rs,h1,h2⟩:=h;have hl:=h2.length;have hn:=(SlA.cap h1).1;subst hn;exact⟨_,SlA.cut h1 ha oM,aF.take (b - a) (aF.drop a h2)⟩
theorem ar.cap {g:PH}{p:Option Addr}{c n:Nat}{l:List Cl}(h:ar g (.slice p n c) l):n=l.length∧l.length≤c:=by
 obtain ⟨rs,h1,h2⟩:=h;have:=SlA.cap h1;rw[h2.length];exact⟨this.1,this.2⟩
theorem nB (l:List Cl):aa l=sortBy Cl.id (l.map bP):=by
 unfold aa;rw[nq];rfl
theorem gO (l:List Cl):Srt Cl.id (aa l):=by rw[nB]; exact ck _
theorem qB (l:List Cl):aA Cl.id (l.map bP) (aa l):=by rw[nB]; exact eu _
theorem Tryz.buildF56 (x y:Int)(v:Value)(hv:v.cells = #[v])(w:World):(Instr.build 56 #[(0,vi x),(1,vi y),(2,v)]).run Tryz.prog w = .ok (.agg #[vi x,vi y,v]) w:=by
 have hz:(Value.agg #[vi 0,vi 0,Value.slice none 0 0]).cells = #[vi 0,vi 0,.slice none 0 0]:=rfl;have h1:(vi x).cells = #[vi x]:=rfl;have h2:(vi y).cells = #[vi y]:=rfl;simp[Instr.build,Instr.fill,hv,hz,h1,h2]
theorem mD (n:Nat)(h:n<4611686018427387904):IntKind.i64.wrap (((n:Nat):Int).tdiv 2)=((n / 2:Nat):Int):=by
 have h1:((n:Nat):Int).tdiv 2=((n / 2:Nat):Int):=by
  rw[Int.tdiv_eq_ediv_of_nonneg oM]; simp
 rw[h1,zk9 _ oM]
theorem kG (E:World):∀ (n:Nat) (g:PH) (s:Own) (v:Value) (l:List Cl),l.length≤n→ar g v l→ci l →
  Ctr Tryz.prog E 163 #[v] g s (fun r g' s'=>s=s'∧Le g g'∧ar g' r (aa l)):=by
 intro n;induction n with
 | zero =>
  intro g s v l hn hv hf;have hl0:l=[]:=zf4 oM;subst hl0;obtain ⟨p,c,rfl⟩:=hv.form;refine zb2 (args:=[.slice p 0 c]) func163 I ntmps163 (bE I) ?_;refine rZ (aT I (sQ (sW I (lU (eN aJ I) (yE I (tZ ?_))))));refine iP I (fun h0=>?_) (fun h0=>?_)
  ·refine rZ (aT I (rE (tR ?_)));exact za8 (.inl I) results163 I ⟨I,zb9 g,[],zc1 g _,trivial⟩
  ·exact absurd I h0
 | succ n ih =>
  intro g s v l hn hv hf;obtain ⟨rs,hrs,hall⟩:=hv;have hv:ar g v l:=⟨rs,hrs,hall⟩;have hlen:=hall.length;have hfl:=hf.1;obtain ⟨p,c,rfl⟩:=hv.form;have hcap:=(ar.cap hv).2;refine zb2 (args:=[.slice p l.length c]) func163 I ntmps163 (bE I) ?_;refine rZ (aT I (sQ (sW I (lU (eN aJ I) (yE I (tZ ?_))))));refine iP I (fun h0=>?_) (fun h0=>?_)
  ·have hl0:l=[]:=zf4 oM;subst hl0;refine rZ (aT I (rE (tR ?_)));exact za8 (.inl I) results163 I ⟨I,zb9 g,[],zc1 g _,trivial⟩
  ·refine kP (tN (sQ (sW I (lU (eN aJ I) (yE I (tZ ?_))))));refine iP I (fun h1=>?_) (fun h1=>?_)
   ·obtain ⟨x,hx⟩:∃ x,l=[x]:=by
     match l,h1 with
     | [x],_=>exact⟨x,rfl⟩
     | [],h=>simp at h
     | _::_::_,h=>simp at h; omega
    subst hx;obtain ⟨r,rs',rfl,hr,hn'⟩:=aF.cons_left hall;have hrs0:=aF.nil_left hn';subst hrs0;obtain ⟨rp,rd,rfl,hsd⟩:=fI hr;have hb1:=hrs.based (by simp);have hxl:=hf.2 x (by simp);refine sQ ?_;refine dW [] [(0,2),(1,2),(2,2),(3,1),(4,2),(5,2),(6,2),(7,1),(8,2),(9,2),(10,2),(11,1),(12,0),(13,2),(14,0),(15,2)] ze3 kR ?_;refine yM I (pU I (iA aJ aq I I hb1 dC (show (0:Int)<((1:Nat):Int) by decide)) ?_);refine pU I (fC au I zT3 I hb1) (pK I (aZ (e:=encCell) (o:=0) (j:=0) (u:=vi x.id) iT3 I hrs.rd I I) (yM I (pU I (iA aJ aq I I hb1 dC (show (0:Int)<((1:Nat):Int) by decide)) ?_)));refine pU I (fC au I zT3 I hb1) (pK I (aZ (e:=encCell) (o:=1) (j:=0) (u:=vi x.dim) iT3 I hrs.rd I I) (yM I (pU I (iA aJ aq I I hb1 dC (show (0:Int)<((1:Nat):Int) by decide)) ?_)));refine pU I (fC au I bQ I hb1) (pK I (aZ (e:=encCell) (o:=2) (j:=0) (u:=.slice rp x.sides.length rd) cZ I hrs.rd I I) (SP.o I (cL call100 I (rH E g _ _ x.sides hsd hxl)) dC (.inr iR) ?_));rintro v24 g1 _ ⟨rfl,hle1,hs1⟩;obtain ⟨q,d,rfl⟩:=za4 hs1;refine pU I (za3 I (buildF56 _ _ _ I)) (SP.o I (bS sty27 I I I (ae sB) dC) dC (.inr iR) ?_);rintro _ _ _ ⟨b26,rfl,rfl,rfl⟩;refine pU I (aS I) (pN (tN (rE (tR (ST.freeze fun g2 hle2 hb=>?_)))));exact za8 (.inl I) results163 I ⟨I,hle1.trans hle2,[⟨x.id,x.dim,⟨q,(sortBy Side.cell x.sides).length,d⟩⟩],SlA.lit hb I I,⟨⟨I,I,hs1.mono hle2⟩,trivial⟩⟩
   ·have hm1:l.length / 2<l.length:=oM;have hm0:0<l.length / 2:=oM;have hc1:=ar.cut hv (a:=0) (b:=l.length / 2) oM oM;have hc2:=ar.cut hv (a:=l.length / 2) (b:=l.length) oM oM;rw[List.drop_zero,Nat.sub_zero] at hc1;rw[tL (by rw[ze9]; exact lR _)] at hc2;have hf1:ci (l.take (l.length / 2)):=⟨by rw[ze4]; omega,fun c hc=>hf.2 c (List.mem_of_mem_take hc)⟩;have hf2:ci (l.drop (l.length / 2)):=⟨by rw[ze9]; omega,fun c hc=>hf.2 c (List.mem_of_mem_drop hc)⟩;have hca:=aB (l.take (l.length / 2));have hcb:=aB (l.drop (l.length / 2));have hsa:=gO (l.take (l.length / 2));have hsb:=gO (l.drop (l.length / 2));have hst:aA Cl.id (l.map bP) (aa (l.take (l.length / 2))++aa (l.drop (l.length / 2))):=by
     have h2:=(qB (l.take (l.length / 2))).append (qB (l.drop (l.length / 2)));rwa [← zg5,zj2] at h2
    rw[ze4] at hca;rw[ze9] at hcb;refine kP (tN (sW I (lM I (lU (eN aJ I) (lU (SU.eq (v':=vi ((l.length / 2:Nat):Int)) (SU.quo I I dC) (ze2 vi (mD _ oM))) (lU (SU.sliceH aJ aq I I oM oM) (lW (cL call163 I (ih g _ _ (l.take (l.length / 2)) (by rw[ze4]; omega) hc1 hf1)) ?_)))))));rintro va0 g1 _ ⟨rfl,hle1,hA⟩;refine aT I (sW I (lM I (lU (eN aJ I) (lU (SU.eq (v':=vi ((l.length / 2:Nat):Int)) (SU.quo I I dC) (ze2 vi (mD _ oM))) (lU (SU.sliceL aJ aq I I oM oM) (lW (cL call163 I (ih g1 _ _ (l.drop (l.length / 2)) (by rw[ze9]; omega) (hc2.mono hle1) hf2)) ?_))))));rintro vb0 g2 _ ⟨rfl,hle2,hB⟩;refine aT I (rZ (aT I ?_));generalize hA0:aa (l.take (l.length / 2))=A0 at *;generalize hB0:aa (l.drop (l.length / 2))=B0 at *;refine zb6 56 3 ?_;refine SC.cut (ι:=Value×Value×Value×List Cl×List Cl×List Cl×List Rc) (fun i=>[(3,i.1),(4,i.2.1),(5,i.2.2.1)]) (fun _=>g2) (fun i=>rowA encCell 56 i.2.2.1 i.2.2.2.2.2.2::s)
     (fun i=>ar g2 i.1 i.2.2.2.1∧ar g2 i.2.1 i.2.2.2.2.1∧aF (aw g2) i.2.2.2.2.2.1 i.2.2.2.2.2.2∧i.2.2.2.2.2.1++i.2.2.2.1++i.2.2.2.2.1=aa l) ?_ ?_
    ·refine bK ?_;refine oP (ι:=Value×Value×Value×List Cl×List Cl×List Cl×List Cl×List Cl×List Rc) (fun i=>[(3,i.1),(4,i.2.1),(5,i.2.2.1)]) (fun _=>g2) (fun i=>rowA encCell 56 i.2.2.1 i.2.2.2.2.2.2.2.2::s)
      (fun i=>(ar g2 i.1 i.2.2.2.2.1∧ar g2 i.2.1 i.2.2.2.2.2.2.1)∧aF (aw g2) i.2.2.2.2.2.2.2.1 i.2.2.2.2.2.2.2.2∧A0=i.2.2.2.1++i.2.2.2.2.1∧B0=i.2.2.2.2.2.1++i.2.2.2.2.2.2.1∧Srt Cl.id i.2.2.2.2.2.2.2.1∧aA Cl.id (i.2.2.2.1++i.2.2.2.2.2.1) i.2.2.2.2.2.2.2.1 ∧
       (∀ y∈i.2.2.2.2.2.2.2.1,∀ z∈i.2.2.2.2.1++i.2.2.2.2.2.2.1,y.id≤z.id)∧(∀ y∈i.2.2.2.2.2.1,∀ z∈i.2.2.2.2.1,y.id<z.id)) (fun i=>i.2.2.2.2.1.length+i.2.2.2.2.2.2.1.length)
      (va0,vb0,.slice none 0 0,[],A0,[],B0,[],[]) sB rfl rfl ⟨⟨hA.mono hle2,hB⟩,trivial,rfl,rfl,Srt.nil,aA.refl _,by simp,by simp⟩ ?_
     rintro ⟨va,vb1,vo,A1,A2,B1,B2,out,ro⟩ ⟨⟨hva,hvb⟩,hro,hA',hB',hso,hto,hout,hlt⟩;dsimp only at hva hvb hro hA' hB' hso hto hout hlt ⊢;have hol:out.length=A1.length+B1.length:=by have:=hto.1; simpa using this
     have hrol:=hro.length;have hAl:A0.length=A1.length+A2.length:=by rw[hA']; simp
     have hBl:B0.length=B1.length+B2.length:=by rw[hB']; simp
     rw[hA'] at hsa;rw[hB'] at hsb;have hsa2:=(Srt.append_iff.1 hsa).2.1;have hsb2:=(Srt.append_iff.1 hsb).2.1;obtain ⟨pa,ca,rfl⟩:=hva.form;obtain ⟨pb,cb,rfl⟩:=hvb.form;have hcapa:=(ar.cap hva).2;have hcapb:=(ar.cap hvb).2;have hfin:A2=[]∨B2=[]→out++A2++B2=aa l:=fun h=>by
      rw[nB];refine cB ?_ ?_
      ·rw[zg8];refine Srt.append_iff.2 ⟨hso,?_,hout⟩
       rcases h with rfl | rfl
       ·simpa using hsb2
       ·simpa using hsa2
      ·refine hst.trans ?_;rw[hA',hB']
       rcases h with rfl | rfl
       ·have h2:=hto.append (aA.refl (key:=Cl.id) B2);simpa using h2
       ·have h3:aA Cl.id (A2++B1) (B1++A2):=aA.swap (fun x hx y hy=>by have:=hlt y hy x hx; omega);have h4:=(aA.refl (key:=Cl.id) A1).append h3;have h5:=hto.append (aA.refl (key:=Cl.id) A2);simp only[zc6,zg8] at h4 h5 ⊢;exact h4.trans h5
     cases A2 with
     | nil =>
      refine sQ (sW I (lU (eN aJ I) (lU (SU.eq (v':=vb false) (gR I I) I) (lM I (yA I (yA I (yA I (yF I (tZ (za1 I (xI (tX (tX (bX ?_))))))))))))));exact za9 (_,_,vo,[],B2,out,ro) sB I I ⟨hva,hvb,hro,hfin (.inl I)⟩
     | cons x A3 =>
      have hpa:(0:Int)<((x::A3).length:Int):=by simp
      cases B2 with
      | nil =>
       refine sQ (sW I (lU (eN aJ I) (lU (SU.eq (v':=vb true) (gR I I) (ze2 vb (zf8 hpa))) (lM I (yC I (lY I I I (eN aJ I) (lY I I I (SU.eq (v':=vb false) (gR I I) I) (yP I (tZ (za1 I (xI (tX (tX (bX ?_))))))))))))));exact za9 (_,_,vo,x::A3,[],out,ro) sB I I ⟨hva,hvb,hro,hfin (.inr I)⟩
      | cons y B3 =>
       have hpb:(0:Int)<((y::B3).length:Int):=by simp
       obtain ⟨ra,hra,halla⟩:=hva;obtain ⟨rb,hrb,hallb⟩:=hvb;have hva:ar g2 _ (x::A3):=⟨ra,hra,halla⟩;have hvb:ar g2 _ (y::B3):=⟨rb,hrb,hallb⟩;have hna:=ar.cut hva (a:=1) (b:=(x::A3).length) (by simp) (lR _);have hnb:=ar.cut hvb (a:=1) (b:=(y::B3).length) (by simp) (lR _);have hda:((x::A3).drop 1).take ((x::A3).length - 1)=A3:=by simp
       have hdb:((y::B3).drop 1).take ((y::B3).length - 1)=B3:=by simp
       rw[hda] at hna;rw[hdb] at hnb;obtain ⟨x',ra',rfl,hx,_⟩:=aF.cons_left halla;obtain ⟨y',rb',rfl,hy,_⟩:=aF.cons_left hallb;have hba:=hra.based (by simp);have hbb:=hrb.based (by simp);have hlen3:A3.length+1+(B3.length+1)+out.length≤l.length:=by simp only[ze8] at hAl hBl; omega
       refine sQ (sW I (lU (eN aJ I) (lU (SU.eq (v':=vb true) (gR I I) (ze2 vb (zf8 hpa))) (lM I (yC I (lY I I I (eN aJ I) (lY I I I (SU.eq (v':=vb true) (gR I I) (ze2 vb (zf8 hpb))) (yP I (tZ (za2 I (kP (tN (bK (sQ ?_))))))))))))));refine dW [] [(0,2),(1,2),(2,2),(3,1),(4,2),(5,2),(6,2),(7,1),(8,2)] ze3 kR ?_;refine yM I (pU I (iA aJ aq I I hbb dC hpb) (pU I (fC au I zT3 I hbb) (pK I (aZ (e:=encCell) (o:=0) (j:=0) (u:=vi y'.id) iT3 I hrb.rd I I) (yM I (pU I (iA aJ aq I I hba dC hpa) (pU I (fC au I zT3 I hba) (pK I (aZ (e:=encCell) (o:=0) (j:=0) (u:=vi x'.id) iT3 I hra.rd I I) (pU I (lS I I) (pN (tN ?_))))))))));refine iP I (fun hc=>?_) (fun hc=>?_)
       ·refine sW I (lM I (lU (iA aJ aq I I hbb dC hpb) (lK (eA (e:=encCell) (a:=y') (j:=0) dL aq I hrb.rd I) (lW (bS sty27 I I I (ae sB) dC) ?_))));rintro _ _ _ ⟨b60,rfl,rfl,rfl⟩;refine lW (aP (e:=encCell) 0 y' sty27 I I I I I oM oM) ?_;rintro v61 _ _ ⟨rfl,rfl⟩;refine aT I (rG (lM I (lU (SU.sliceL aJ aq I I dC (by simp only[ze8]; omega)) ?_)));refine lA I (nL (bN ?_));rw[hx.1,hy.1] at hc;refine ST.again (_,_,v61,A1,x::A3,B1++[y],B3,out++[y],ro++[y']) sB I I ⟨⟨hva,hnb⟩,hro.append ⟨hy,trivial⟩,hA',by rw[hB']; simp,?_,?_,?_,?_⟩ lN
        ·refine Srt.append_iff.2 ⟨hso,Srt.one y,fun a ha b hb=>?_⟩;simp at hb; subst hb; exact hout a ha b (by simp)
        ·have h2:=hto.append (aA.refl (key:=Cl.id) [y]);simpa using h2
        ·intro a ha b hb;dsimp only at ha hb
         rcases zf3.1 ha with ha | ha
         ·refine hout a ha b ?_;simp at hb ⊢
          rcases hb with h | h | h
          ·exact .inl h
          ·exact .inr (.inl h)
          ·exact .inr (.inr (.inr h))
         ·simp at ha; subst ha
          rcases zf3.1 hb with hb | hb
          ·rcases zf1.1 hb with rfl | hb
           ·omega
           ·have:=(Srt.cons_iff.1 hsa2).1 b hb; omega
          ·exact (Srt.cons_iff.1 hsb2).1 b hb
        ·intro a ha b hb;dsimp only at ha hb
         rcases zf3.1 ha with ha | ha
         ·exact hlt a ha b hb
         ·simp at ha; subst ha
          rcases zf1.1 hb with rfl | hb
          ·omega
          ·have:=(Srt.cons_iff.1 hsa2).1 b hb; omega
       ·refine sW I (lM I (lU (iA aJ aq I I hba dC hpa) (lK (eA (e:=encCell) (a:=x') (j:=0) dL aq I hra.rd I) (lW (bS sty27 I I I (ae sB) dC) ?_))));rintro _ _ _ ⟨b68,rfl,rfl,rfl⟩;refine lW (aP (e:=encCell) 0 x' sty27 I I I I I oM oM) ?_;rintro v69 _ _ ⟨rfl,rfl⟩;refine aT I (rG (lM I (lU (SU.sliceL aJ aq I I dC (by simp only[ze8]; omega)) ?_)));refine lA I (nL (bN ?_));rw[hx.1,hy.1] at hc;refine ST.again (_,_,v69,A1++[x],A3,B1,y::B3,out++[x],ro++[x']) sB I I ⟨⟨hna,hvb⟩,hro.append ⟨hx,trivial⟩,by rw[hA']; simp,hB',?_,?_,?_,?_⟩ lN
        ·refine Srt.append_iff.2 ⟨hso,Srt.one x,fun a ha b hb=>?_⟩;simp at hb; subst hb; exact hout a ha b (by simp)
        ·have h2:aA Cl.id ([x]++B1) (B1++[x]):=aA.swap (fun a ha b hb=>by simp at ha; subst ha; have:=hlt b hb a (by simp); omega);have h3:=(aA.refl (key:=Cl.id) A1).append h2;have h4:=hto.append (aA.refl (key:=Cl.id) [x]);dsimp only;simp only[zg8] at h3 h4 ⊢;exact h3.trans h4
        ·intro a ha b hb;dsimp only at ha hb
         rcases zf3.1 ha with ha | ha
         ·refine hout a ha b ?_;simp at hb ⊢
          rcases hb with h | h | h
          ·exact .inr (.inl h)
          ·exact .inr (.inr (.inl h))
          ·exact .inr (.inr (.inr h))
         ·simp at ha; subst ha
          rcases zf3.1 hb with hb | hb
          ·exact (Srt.cons_iff.1 hsa2).1 b hb
          ·rcases zf1.1 hb with rfl | hb
           ·omega
           ·have:=(Srt.cons_iff.1 hsb2).1 b hb; omega
        ·intro a ha b hb;exact hlt a ha b (by simp[hb])
    ·rintro ⟨va,vb1,vo,A2,B2,out,ro⟩ ⟨hva,hvb,hro,hres⟩;dsimp only at hva hvb hro hres ⊢;obtain ⟨ra,hra,halla⟩:=hva;obtain ⟨rb,hrb,hallb⟩:=hvb;have hl1:=ze2 List.length hres;rw[aB] at hl1;simp only[ze5] at hl1;have e1:=hro.length;have e2:=halla.length;have e3:=hallb.length;refine sW I (lM I (lW (aQ (e:=encCell) 0 sty27 I I I hra oM oM) ?_));rintro v74 _ _ ⟨rfl,rfl⟩;refine lM I (lW (aQ (e:=encCell) 0 sty27 I I I hrb lN lN) ?_);rintro v76 _ _ ⟨rfl,rfl⟩;refine aT I (rE (fT fun g3 hle3 hs3=>?_));exact za8 (.inl I) results163 I ⟨I,hle1.trans (hle2.trans hle3),ro++ra++rb,hs3,by rw[← hres]; exact (((hro.append halla).append hallb).mono fun _ _=>aw.mono hle3)⟩
theorem gJ (E:World)(g:PH)(s:Own)(v:Value)(l:List Cl)(hv:ar g v l)(hf:ci l) :
  Ctr Tryz.prog E 102 #[.agg #[v]] g s (fun r g' s'=>s=s'∧Le g g'∧∃ u,r = .agg #[u]∧ar g' u (aa l)):=by
 obtain ⟨p,c,rfl⟩:=hv.form;refine zb2 (args:=[.agg #[.slice p l.length c]]) func102 I ntmps102 (bE I) ?_;refine rZ (bW (bO I) fun b1=>?_);refine bW (aL zl5) fun b2=>?_;refine tZ (rZ (lU (fA eH I ee I) (lK (qL fX I (cO 1 I I)) (lW (cL call163 I (kG E l.length g _ _ l (lR _) hv hf)) ?_))));rintro v5 g1 _ ⟨rfl,hle,h5⟩;obtain ⟨q,d,rfl⟩:=h5.form;refine lU (za3 I (build29 _ I)) (oZ (sK 0 aC I I I I I sB) ?_);refine tZ (rE ?_);exact ST.retCD 0 s (.inl I) results102 I ba aC I I uR ⟨I,hle,_,I,h5⟩
theorem CE (l:List Cl):∀ (acc:List Cl) (c:Cl),(c∈acc∨c∈l)→∃ x∈l.foldl iu acc,x.id=c.id:=by
 induction l with
 | nil=>intro acc c h; rcases h with h | h; exact⟨c,h,I⟩; simp at h
 | cons y r ih =>
  intro acc c h;simp only[zi8]
  rcases h with h | h
  ·exact ih (iu acc y) c (.inl (by unfold iu; split; exact h; simp[h]))
  ·rcases zf1.1 h with rfl | h
   ·by_cases ha:acc.any (fun x=>x.id == c.id)=true
    ·rw[s5 ha];rw[zj8] at ha;obtain ⟨z,hz,he⟩:=ha;obtain ⟨x,hx,hxe⟩:=ih acc z (.inl hz);exact⟨x,hx,by rw[hxe]; simpa using he⟩
    ·have ha':acc.any (fun x=>x.id == c.id)=false:=by simpa using ha
     rw[l8 ha'];exact ih _ c (.inl (by simp))
   ·exact ih _ c (.inr h)
theorem Fj {L:List Cl}(hs:Srt Cl.id L){k:Nat}(h0:0<k)(hk:k<L.length):((L.take k).foldl iu []).any (fun x=>x.id == L[k].id)=decide (L[k].id=(L[k - 1]'oM).id):=by
 rw[Bool.eq_iff_iff,zj8,zj6];constructor
 ·rintro ⟨x,hx,he⟩;have hm:=(ux _ [] x hx).resolve_left (by simp);obtain ⟨j,hj,rfl⟩:=zc7 hm;rw[ze4] at hj;rw[List.getElem_take] at he;have he':(L[j]'oM).id=L[k].id:=by simpa using he
  rcases Nat.lt_or_ge j (k - 1) with h | h
  ·have h1:=zc9.1 hs j (k - 1) oM oM h;have h2:=zc9.1 hs (k - 1) k oM hk oM;omega
  ·have:j=k - 1:=oM;subst this;exact he'.symm
 ·intro he;have hm:(L[k - 1]'oM)∈L.take k:=by
   have:k - 1<(L.take k).length:=by rw[ze4]; omega
   have h2:=gM this;rwa [List.getElem_take] at h2
  obtain ⟨x,hx,hxe⟩:=CE (L.take k) [] _ (.inr hm);exact⟨x,hx,by rw[hxe,← he]; simp⟩
theorem dU (E:World)(g:PH)(s:Own)(v:Value)(l:List Cl)(hv:ar g v l)(hf:ci l) :
  Ctr Tryz.prog E 96 #[.agg #[v]] g s (fun r g' s'=>s=s'∧Le g g'∧ar g' r (ak l)):=by
 obtain ⟨p,c,rfl⟩:=hv.form;have hsrt:=gO l;have hcl:=aB l;have hfl:=hf.1;refine zb2 (args:=[.agg #[.slice p l.length c]]) func96 I ntmps96 (bE I) ?_;refine rZ (bW (bO I) fun b1=>?_);refine aT I (rZ (lU (fA eH I ee I) (lK (qL fX I (cO 0 I I)) (lW (cL call163 I (kG E l.length g _ _ l (lR _) hv hf)) ?_))));rintro v8 g1 _ ⟨rfl,hle,h8⟩;obtain ⟨rs,hrs,hall⟩:=h8;have hrl:=hall.length;obtain ⟨q,d,rfl⟩:=hrs.form;refine aT I (rZ (aT I (sQ (rZ (aT I (bK (zb6 56 3 ?_)))))));refine oP (ι:=Value×Nat×List Rc) (fun i=>[(3,.slice q rs.length d),(4,i.1),(5,vi i.2.1)]) (fun _=>g1) (fun i=>rowA encCell 56 i.1 i.2.2::pt b1 (.cells #[.slice p l.length c] 29 (0,0))::s)
  (fun i=>i.2.1≤rs.length∧aF (aw g1) (((aa l).take i.2.1).foldl iu []) i.2.2) (fun i=>rs.length - i.2.1) (.slice none 0 0,0,[]) sB rfl rfl ⟨zf6 _,by simp[aF]⟩ ?_
 rintro ⟨ov,k,acc⟩ ⟨hk,hacc⟩;dsimp only at hk hacc ⊢;have hal:=hacc.length;have hal2:=gv ((aa l).take k) [];simp only[ze4,zc4] at hal2;refine sQ (sW I (lM I (lU (eN aJ I) (yL I (tZ ?_)))));refine iP I (fun hlt=>?_) (fun hlt=>?_)
 ·have hkr:k<rs.length:=oM;have hkl:k<(aa l).length:=oM;have hb1:=hrs.based oM;have hcr:=hall.get (gE hkl) (gE hkr);have htake:((aa l).take (k+1)).foldl iu []=iu (((aa l).take k).foldl iu []) (aa l)[k]:=by
   rw[tS hkl,zi9]; rfl
  have hgx:rs[((k:Nat):Int).toNat]?=some rs[k]:=gE hkr;have hnew:iu (((aa l).take k).foldl iu []) (aa l)[k]=((aa l).take k).foldl iu []++[(aa l)[k]]→aF (aw g1) (((aa l).take (k+1)).foldl iu []) (acc++[rs[k]]):=fun h=>by
   rw[htake,h]; exact hacc.append ⟨hcr,trivial⟩
  by_cases hk0:k=0
  ·subst hk0;refine kP (tN (sQ (bK (sQ ?_))));refine dW [] [(0,2),(1,2),(2,2),(3,2),(4,2),(5,2),(6,2),(7,1),(8,2),(9,2),(10,2),(11,2),(12,2),(13,1),(14,2),(15,2)] ze3 kR ?_;refine yM I (pU I (SU.eq (v':=vb true) (eQ I I) I) (yM I (yG I (yG I (yG I (yG I (yI I (yG I (yG I (yG I (yG I (yG I (yI I (yG I (pU I (wT I I) (pN (tN (za2 I (rG (lM I (lM I (lM I (lU (iA aJ aq I I hb1 oM sL) (lK (eA dL aq I hrs.rd hgx) (lW (bS sty27 I I I (ae sB) dC) ?_)))))))))))))))))))))))));rintro _ _ _ ⟨b36,rfl,rfl,rfl⟩;refine lW (aP (e:=encCell) 0 rs[0] sty27 I I I I I oM oM) ?_;rintro v37 _ _ ⟨rfl,rfl⟩;refine lA I (nL (bN (tN (rG (lM I (yD I (lA I (nL ?_))))))));exact ST.again (v37,0+1,acc++[rs[0]]) sB I I ⟨lN,hnew (l8 (by simp))⟩ lN
  ·have hk1:k - 1<rs.length:=oM;have hk1l:k - 1<(aa l).length:=oM;have hany:=Fj hsrt (by omega:0<k) hkl;have hcr1:=hall.get (gE hk1l) (gE hk1);have hgy:rs[((k:Int) - 1).toNat]?=some rs[k - 1]:=by rw[show ((k:Int) - 1).toNat=k - 1 by omega]; exact gE hk1
   refine kP (tN (sQ (bK (sQ ?_))));refine dW [] [(0,2),(1,2),(2,2),(3,2),(4,2),(5,2),(6,2),(7,1),(8,2),(9,2),(10,2),(11,2),(12,2),(13,1),(14,2),(15,2)] ze3 kR ?_;refine yM I (pU I (SU.eq (v':=vb false) (eQ I I) (ze2 vb (zf7 oM))) (yM I (yJ I (yJ I (zb3 I (gT I I I dC) (iA aJ aq I I hb1 oM sL) dC (zb3 I (gT I I I dC) (fC au I zT3 I hb1) dC (SP.gq I (gT I I I dC) (aZ (e:=encCell) (o:=0) (u:=vi rs[k].id) iT3 I hrs.rd hgx I) dC (yJ I (yJ I (zb3 I (gT I I I dC) (sU I I oM) dC (zb3 I (gT I I I dC) (iA aJ aq I I hb1 oM sL) dC (zb3 I (gT I I I dC) (fC au I zT3 I hb1) dC (SP.gq I (gT I I I dC) (aZ (e:=encCell) (o:=0) (u:=vi rs[k - 1].id) iT3 I hrs.rd hgy I) dC (zb3 I (gT I I I dC) (nQ I I) dC (pU I (wF I I) (pN (tN ?_)))))))))))))))));refine iP I (fun hne=>?_) (fun hne=>?_)
   ·refine rG (lM I (lM I (lM I (lU (iA aJ aq I I hb1 oM sL) (lK (eA dL aq I hrs.rd hgx) (lW (bS sty27 I I I (ae sB) dC) ?_))))));rintro _ _ _ ⟨b36,rfl,rfl,rfl⟩;refine lW (aP (e:=encCell) 0 rs[k] sty27 I I I I I oM oM) ?_;rintro v37 _ _ ⟨rfl,rfl⟩;refine lA I (nL (bN (tN (rG (lM I (yD I (lA I (nL ?_))))))));rw[hcr.1,hcr1.1] at hne;exact ST.again (v37,k+1,acc++[rs[k]]) sB I I ⟨lN,hnew (l8 (by rw[hany]; exact zf7 hne))⟩ lN
   ·refine kP (bN (tN (rG (lM I (yD I (lA I (nL ?_)))))));rw[hcr.1,hcr1.1] at hne;exact ST.again (ov,k+1,acc) sB I I ⟨lN,by dsimp only; rw[htake,s5 (by rw[hany]; exact zf8 (zg9 hne))]; exact hacc⟩ lN
 ·have hkk:(aa l).take k=aa l:=tL oM;rw[hkk] at hacc;refine xI (tX (tX (bX (tN (sW I (aT I (rE (fT fun g2 hle2 hs2=>?_))))))));refine dR (s':=s) uR ?_;exact za8 (.inl I) results96 I ⟨I,hle.trans hle2,acc,hs2,hacc.mono fun _ _=>aw.mono hle2⟩
def atC (l:List Cl)(id:Int):Int:=if (l.map Cl.id).contains id then lbI (l.map Cl.id) id else -1
theorem ip (E:World)(g:PH)(s:Own)(v:Value)(l:List Cl)(id:Int)(hv:ar g v l)(hl:l.length<1099511627776)(hs:(l.map Cl.id).Pairwise (· ≤ ·)) :
  Ctr Tryz.prog E 101 #[v,vi id] g s (fun r g' s'=>r=vi (atC l id)∧g=g'∧s=s'):=by
 obtain ⟨rs,hrs,hall⟩:=hv;have hrl:=hall.length;obtain ⟨p,c,rfl⟩:=hrs.form;have hids:=jt hall;have hml:(l.map Cl.id).length=l.length:=by simp
 have hri:∀ k (h:k<(l.map Cl.id).length) (h2:k<rs.length),(l.map Cl.id)[k]=rs[k].id:=fun k h h2=>by simp only[hids]; simp
 unfold atC;refine zb2 (args:=[.slice p rs.length c,vi id]) func101 I ntmps101 (bE I) ?_;refine rZ (aT I (rZ (aT I (sW I (lU (eN aJ I) (aT I ?_))))));generalize l.map Cl.id=L at *;refine SC.cut (ι:=Nat) (fun i=>[(0,.slice p rs.length c),(1,vi id),(5,vi i)]) (fun _=>g) (fun _=>s) (fun i=>i≤L.length∧(∀ k (h:k<L.length),k<i→L[k]<id)∧∀ k (h:k<L.length),i≤k→id≤L[k]) ?_ ?_
 ·refine bK ?_;refine oP (ι:=Nat×Nat) (fun q=>[(0,.slice p rs.length c),(1,vi id),(5,vi q.1),(6,vi q.2)]) (fun _=>g) (fun _=>s)
   (fun q=>q.1≤q.2∧q.2≤L.length∧(∀ k (h:k<L.length),k<q.1→L[k]<id)∧∀ k (h:k<L.length),q.2≤k→id≤L[k]) (fun q=>q.2 - q.1) (0,L.length)
   ⟨rfl,rfl,rfl,aK oM,trivial⟩ rfl rfl ⟨zf6 _,lR _,fun k _ h=>absurd h oM,fun k h1 h2=>absurd h1 (by dsimp only at h2; omega)⟩ ?_
  rintro ⟨i,j⟩ ⟨hij,hj,hlo,hhi⟩;dsimp only at hij hj hlo hhi ⊢;refine sQ (sW I (lM I (yL I (tZ ?_))));refine iP I (fun hlt=>?_) (fun hlt=>?_)
  ·have hb1:=hrs.based oM;have hml2:(i+j) / 2<L.length:=oM;have hmr:(i+j) / 2<rs.length:=oM;have hmx:rs[((((i+j) / 2:Nat):Int)).toNat]?=some rs[(i+j) / 2]:=gE hmr;have hmi:=hri _ hml2 hmr;refine kP (tN (bK (sW I (lM I (yD I (lU (SU.eq (v':=vi (((i+j) / 2:Nat):Int)) (SU.quo I I dC) (ze2 vi (by rw[← Int.natCast_add]; exact mD _ oM))) ?_))))));refine aT I (sW I (lM I (lU (iA aJ aq I I hb1 oM sL) (lU (fC au I zT3 I hb1) (lK (aZ (e:=encCell) (o:=0) (u:=vi rs[(i+j) / 2].id) iT3 I hrs.rd hmx I) (lM I (yL I (tZ ?_))))))));refine iP I (fun hc=>?_) (fun hc=>?_)
   ·refine rG (lM I (yD I (lA I (nL (bN ?_)))));refine ST.again ((i+j) / 2+1,j) sB I I ⟨lN,hj,fun k hk h=>?_,hhi⟩ lN;dsimp only at h;rw[← hmi] at hc
    rcases Nat.eq_or_lt_of_le (show k≤(i+j) / 2 by omega) with rfl | h'
    ·exact hc
    ·have:=zc9.1 hs k ((i+j) / 2) hk hml2 h';omega
   ·refine rG (lM I (lA I (nL (bN ?_))));refine ST.again (i,(i+j) / 2) sB I I ⟨lN,lN,hlo,fun k hk h=>?_⟩ lN;dsimp only at h;rw[← hmi] at hc
    rcases Nat.eq_or_lt_of_le (show (i+j) / 2≤k by omega) with h' | h'
    ·subst h'; omega
    ·have:=zc9.1 hs ((i+j) / 2) k hml2 hk h';omega
  ·have hie:i=j:=oM;subst hie;refine xI (tX (tX (bX ?_)));exact za9 i sB I I ⟨hj,hlo,hhi⟩
 ·rintro i ⟨hj,hlo,hhi⟩;have hlb:=GS hj hlo hhi;by_cases hin:(i:Int)<(rs.length:Int)
  ·have hir:i<rs.length:=oM;have hil:i<L.length:=oM;have hb1:=hrs.based oM;have hmx:rs[((i:Nat):Int).toNat]?=some rs[i]:=gE hir;have hmi:=hri _ hil hir;have hfnd:=D5 hs hlo hhi hil;refine sQ (sW I (lM I (lU (eN aJ I) (lU (SU.eq (v':=vb true) (lS I I) (ze2 vb (zf8 hin))) (lM I (yC I (yC I (lY I I I (iA aJ aq I I hb1 oM sL) (lY I I I (fC au I zT3 I hb1) (SL.gq (gT I I I dC) (aZ (e:=encCell) (o:=0) (u:=vi rs[i].id) iT3 I hrs.rd hmx I) dC (yC I (lY I I I (eQ I I) (yP I (tZ ?_))))))))))))));refine iP I (fun hc=>?_) (fun hc=>?_)
   ·refine sW I (aT I (rE (tR ?_)));rw[← hmi] at hc;exact za8 (.inl I) results101 I ⟨by rw[← hfnd,zf8 hc,zg1 I,hlb],I,I⟩
   ·refine kP (tN (rZ (aT I (rE ?_))));rw[← hmi] at hc;exact za8 (.inl I) results101 I ⟨by rw[← hfnd,zf7 hc]; rfl,rfl,rfl⟩
  ·have hnf:=DL hlo oM;refine sQ (sW I (lM I (lU (eN aJ I) (lU (SU.eq (v':=vb false) (lS I I) (ze2 vb (zf7 hin))) (lM I (yA I (yA I (yA I (yA I (yA I (yA I (yA I (yF I (tZ (za1 I (kP (tN (rZ (aT I (rE ?_))))))))))))))))))));exact za8 (.inl I) results101 I ⟨by rw[hnf]; rfl,rfl,rfl⟩
theorem Cu {l:List Int}(hs:l.Pairwise (· ≤ ·))(x:Int):(∀ k (h:k<l.length),k<lbI l x→l[k]<x)∧(∀ k (h:k<l.length),lbI l x≤k→x≤l[k]):=by
 induction l with
 | nil=>exact⟨fun k h=>absurd h (by simp),fun k h=>absurd h (by simp)⟩
 | cons a r ih =>
  obtain ⟨h1,h2⟩:=zk4.1 hs;obtain ⟨i1,i2⟩:=ih h2;by_cases ha:a<x
  ·have hl:lbI (a::r) x=lbI r x+1:=by simp[lbI,ha]
   rw[hl];refine⟨fun k h hk=>?_,fun k h hk=>?_⟩
   ·cases k with
    | zero=>exact ha
    | succ k=>exact i1 k (by simpa using h) oM
   ·cases k with
    | zero=>omega
    | succ k=>exact i2 k (by simpa using h) oM
  ·have hz:lbI (a::r) x=0:=by
    unfold lbI;rw[List.length_eq_zero_iff,List.filter_eq_nil_iff];intro y hy
    rcases zf1.1 hy with rfl | hy
    ·simpa using Int.not_lt.1 ha
    ·have:=h1 y hy; simp; omega
   rw[hz];refine⟨fun k h hk=>absurd hk oM,fun k h _=>?_⟩;cases k with
   | zero=>exact Int.not_lt.1 ha
   | succ k =>
    have hk':k<r.length:=by simpa using h
    have:=h1 r[k] (gM hk');simp;omega
theorem sw {tl:List Cl}(hs:(tl.map Cl.id).Pairwise (· ≤ ·))(id:Int):(am tl id=none∧atC tl id = -1)∨∃ c k,am tl id=some c∧atC tl id=((k:Nat):Int)∧tl[k]?=some c:=by
 obtain ⟨h1,h2⟩:=Cu hs id;by_cases hc:(tl.map Cl.id).contains id=true
 ·right;have hm:id∈tl.map Cl.id:=by simpa using hc
  obtain ⟨c0,hc0,e0⟩:=zf2.1 hm;cases hf:am tl id with
  | none =>
   have:=List.find?_eq_none.1 hf c0 hc0;simp[e0] at this
  | some c =>
   have hi:lbI (tl.map Cl.id) id<tl.length:=by
    rcases Nat.lt_or_ge (lbI (tl.map Cl.id) id) tl.length with h | h
    ·exact h
    ·obtain ⟨j,hj,rfl⟩:=zc7 hc0;have:=h1 j (by simpa using hj) oM;simp at this;omega
   refine⟨c,lbI (tl.map Cl.id) id,I,by unfold atC; rw[zg1 hc],?_⟩;rw[gE hi];have hge:=h2 _ (by simpa using hi) (lR _);have hid:tl[lbI (tl.map Cl.id) id].id=id:=by
    obtain ⟨j,hj,rfl⟩:=zc7 hc0;have hji:lbI (tl.map Cl.id) id≤j:=by
     rcases Nat.lt_or_ge j (lbI (tl.map Cl.id) id) with h | h
     ·have:=h1 j (by simpa using hj) h; simp at this; omega
     ·exact h
    rcases Nat.eq_or_lt_of_le hji with h | h
    ·simp only[h]; exact e0
    ·have h3:=zc9.1 hs _ j (by simpa using hi) (by simpa using hj) h;simp at h3 hge;omega
   unfold am at hf;rw[List.find?_eq_some_iff_getElem] at hf;obtain ⟨hp,j,hj,ej,hlt⟩:=hf;have hp':c.id=id:=by simpa using hp
   congr 1;rw[← ej];have hji:j=lbI (tl.map Cl.id) id:=by
    rcases Nat.lt_trichotomy j (lbI (tl.map Cl.id) id) with h | h | h
    ·have:=h1 j (by simpa using hj) h; simp[ej,hp'] at this
    ·exact h
    ·have:=hlt _ h; simp[hid] at this
   simp only[hji]
 ·left;have hn:id ∉ tl.map Cl.id:=by simpa using hc
  refine⟨?_,by unfold atC; rw[zf9 hc]⟩;unfold am;rw[List.find?_eq_none];intro x hx;simp;exact fun e=>hn (zf2.2 ⟨x,hx,e⟩)
theorem BC {l:List Side}(h2:l.length=2)(hns:l.any bM=false):∃ a b,l=[a,b]∧(decide (mf l≠0))=decide (a.sign=b.sign):=by
 match l,h2 with
 | [a,b],_ =>
  simp only[List.any_cons,List.any_nil,Bool.or_false,Bool.or_eq_false_iff] at hns;have e1:a.sign=1∨a.sign = -1:=by
   have h1:=hns.1;simp only[bM,Bool.and_eq_false_iff,decide_eq_false_iff_not,ne_eq,Decidable.not_not] at h1;exact h1
  have e2:b.sign=1∨b.sign = -1:=by
   have h1:=hns.2;simp only[bM,Bool.and_eq_false_iff,decide_eq_false_iff_not,ne_eq,Decidable.not_not] at h1;exact h1
  refine⟨a,b,I,?_⟩;rw[Bool.eq_iff_iff];simp[mf];omega
theorem rU (E:World)(g:PH)(s:Own)(v:Value)(tl:List Cl)(c:Cl)(r:Rc)(hv:ar g v tl)(htl:tl.length<1099511627776)(hs:(tl.map Cl.id).Pairwise (· ≤ ·))(hc:aw g c r)(hl:c.sides.length<1099511627776) :
  Ctr Tryz.prog E 212 #[v,rcv r] g s (fun r g' s'=>r=vi (cq tl c)∧g=g'∧s=s'):=by
 obtain ⟨rs,hrs,hall⟩:=hv;have hv:ar g v tl:=⟨rs,hrs,hall⟩;have hrl:=hall.length;obtain ⟨vp,vc,rfl⟩:=hrs.form;obtain ⟨rp,rcap,rfl,hcs⟩:=fI hc;have hx0:=fun h=>hcs.based h;refine zb2 (args:=[.slice vp rs.length vc,.agg #[vi c.id,vi c.dim,.slice rp c.sides.length rcap]]) func212 I ntmps212 (bE I) ?_;refine rZ (bW (bO I) fun b3=>?_);refine aT I (sQ ?_);refine SC.to (g':=g) (s':=pt b3 (.cells #[vi c.id,vi c.dim,.slice rp c.sides.length rcap] 56 (0,0))::s) (fun w hw=>hw) ?_;refine SC.cutB 16 (eZ c) ?_ ?_
 ·refine rG (lU (fA au I zT3 I) (lK (qL (v:=vi c.dim) iT3 I (cO 0 I I)) (yL I (lM I ?_))));refine sP ?_ ?_
  ·intro h12;refine yA I (yA I (yA I (yP I (nL ?_))));exact zb1 (by simp_all[bh,eZ] <;> omega) mI
  ·intro h12;refine lY I I I (fA au I zT3 I) (SL.gq (gT I I I dC) (qL (v:=vi c.dim) iT3 I (cO 0 I I)) dC (lY I I I (gR I I) (yF I (nL ?_))));exact zb1 (by simp_all[bh,eZ] <;> omega) mI
 refine iQ I (fun hdb=>?_) (fun hdb=>?_)
 ·refine rZ (aT I (rE (tR (dR (s':=s) uR ?_))));exact za8 (.inl I) results212 I ⟨by unfold cq; rw[zg1 hdb],I,I⟩
 ·have hd8:0≤c.dim∧c.dim≤8:=by simp[eZ] at hdb; omega
  refine kP (tN (rZ (lU (fA au I bQ I) (lK (qL (v:=.slice rp c.sides.length rcap) cZ I (cO 0 I I)) (lU (eN aY I) (aT I (sQ ?_)))))));refine SC.cutB 48 (aR c) ?_ ?_
  ·refine rG (lU (fA au I zT3 I) (lK (qL (v:=vi c.dim) iT3 I (cO 0 I I)) (yE I (lM I ?_))));refine sP ?_ ?_
   ·intro h23;refine yC I (lY I I I (gR I I) (yP I (lM I ?_)));refine sP ?_ ?_
    ·intro h27;refine yA I (yA I (yA I (yA I (yB I (yB I (yA I (yP I (lM I (yA I (yA I (yA I (yA I (yB I (yB I (yB I (yB I (yB I (yB I (yA I (yP I (nL ?_)))))))))))))))))))));exact zb1 (by simp_all[bh,aR] <;> omega) mI
    ·intro h27;refine lY I I I (fA au I zT3 I) (SL.gq (gT I I I dC) (qL (v:=vi c.dim) iT3 I (cO 0 I I)) dC (lY I I I (eQ I I) (yC I ?_)));refine sP ?_ ?_
     ·intro h31;refine yC I (lY I I I (nQ I I) (lY I I I (wT I I) (yF I (lM I ?_))));refine sP ?_ ?_
      ·intro h36;refine yA I (yA I (yA I (yA I (yB I (yB I (yB I (yB I (yB I (yB I (yA I (yP I (nL ?_))))))))))));exact zb1 (by simp_all[bh,aR] <;> omega) mI
      ·intro h36;refine lY I I I (fA au I zT3 I) (SL.gq (gT I I I dC) (qL (v:=vi c.dim) iT3 I (cO 0 I I)) dC (lY I I I (gR I I) (yC I ?_)));refine sP ?_ ?_
       ·intro h40;refine yC I (lY I I I (lS I I) (yC I ?_));refine sP ?_ ?_
        ·intro h43;refine yA I (yA I (lY I I I (wT I I) (lY I I I (wT I I) (yF I (nL ?_)))));exact zb1 (by simp_all[bh,aR] <;> omega) mI
        ·intro h43;refine yC I (lY I I I (gR I I) (lY I I I (wF I I) (lY I I I (wT I I) (yF I (nL ?_)))));exact zb1 (by simp_all[bh,aR] <;> omega) mI
       ·intro h40;refine yA I (yA I (yA I (yB I (yB I (yA I (lY I I I (wF I I) (yF I (nL ?_))))))));exact zb1 (by simp_all[bh,aR] <;> omega) mI
     ·intro h31;refine yA I (yA I (lY I I I (wF I I) (yF I (lM I (lY I I I (fA au I zT3 I) (SL.gq (gT I I I dC) (qL (v:=vi c.dim) iT3 I (cO 0 I I)) dC (lY I I I (gR I I) (yC I ?_))))))));refine sP ?_ ?_
      ·intro h40;refine yC I (lY I I I (lS I I) (yC I ?_));refine sP ?_ ?_
       ·intro h43;refine yA I (yA I (lY I I I (wT I I) (lY I I I (wT I I) (yF I (nL ?_)))));exact zb1 (by simp_all[bh,aR] <;> omega) mI
       ·intro h43;refine yC I (lY I I I (gR I I) (lY I I I (wF I I) (lY I I I (wT I I) (yF I (nL ?_)))));exact zb1 (by simp_all[bh,aR] <;> omega) mI
      ·intro h40;refine yA I (yA I (yA I (yB I (yB I (yA I (lY I I I (wF I I) (yF I (nL ?_))))))));exact zb1 (by simp_all[bh,aR] <;> omega) mI
   ·intro h23;refine yA I (yA I (yF I (lM I (lY I I I (fA au I zT3 I) (SL.gq (gT I I I dC) (qL (v:=vi c.dim) iT3 I (cO 0 I I)) dC (lY I I I (eQ I I) (yC I ?_)))))));refine sP ?_ ?_
    ·intro h31;refine yC I (lY I I I (nQ I I) (lY I I I (wT I I) (yF I (lM I ?_))));refine sP ?_ ?_
     ·intro h36;refine yA I (yA I (yA I (yA I (yB I (yB I (yB I (yB I (yB I (yB I (yA I (yP I (nL ?_))))))))))));exact zb1 (by simp_all[bh,aR] <;> omega) mI
     ·intro h36;refine lY I I I (fA au I zT3 I) (SL.gq (gT I I I dC) (qL (v:=vi c.dim) iT3 I (cO 0 I I)) dC (lY I I I (gR I I) (yC I ?_)));refine sP ?_ ?_
      ·intro h40;refine yC I (lY I I I (lS I I) (yC I ?_));refine sP ?_ ?_
       ·intro h43;refine yA I (yA I (lY I I I (wT I I) (lY I I I (wT I I) (yF I (nL ?_)))));exact zb1 (by simp_all[bh,aR] <;> omega) mI
       ·intro h43;refine yC I (lY I I I (gR I I) (lY I I I (wF I I) (lY I I I (wT I I) (yF I (nL ?_)))));exact zb1 (by simp_all[bh,aR] <;> omega) mI
      ·intro h40;refine yA I (yA I (yA I (yB I (yB I (yA I (lY I I I (wF I I) (yF I (nL ?_))))))));exact zb1 (by simp_all[bh,aR] <;> omega) mI
    ·intro h31;refine yA I (yA I (lY I I I (wF I I) (yF I (lM I (lY I I I (fA au I zT3 I) (SL.gq (gT I I I dC) (qL (v:=vi c.dim) iT3 I (cO 0 I I)) dC (lY I I I (gR I I) (yC I ?_))))))));refine sP ?_ ?_
     ·intro h40;refine yC I (lY I I I (lS I I) (yC I ?_));refine sP ?_ ?_
      ·intro h43;refine yA I (yA I (lY I I I (wT I I) (lY I I I (wT I I) (yF I (nL ?_)))));exact zb1 (by simp_all[bh,aR] <;> omega) mI
      ·intro h43;refine yC I (lY I I I (gR I I) (lY I I I (wF I I) (lY I I I (wT I I) (yF I (nL ?_)))));exact zb1 (by simp_all[bh,aR] <;> omega) mI
     ·intro h40;refine yA I (yA I (yA I (yB I (yB I (yA I (lY I I I (wF I I) (yF I (nL ?_))))))));exact zb1 (by simp_all[bh,aR] <;> omega) mI
  refine iQ I (fun hcb=>?_) (fun hcb=>?_)
  ·refine rZ (aT I (rE (tR (dR (s':=s) uR ?_))));exact za8 (.inl I) results212 I ⟨by unfold cq; rw[zf9 (by simp[hdb]),zg1 hcb],I,I⟩
  ·refine kP (tN (sQ (rZ (aT I (bK ?_)))));refine oP (ι:=Nat) (fun k=>[(0,.slice vp rs.length vc),(3,pp b3 0),(5,vi c.sides.length),(6,vi k)]) (fun _=>g)
    (fun _=>pt b3 (.cells #[vi c.id,vi c.dim,.slice rp c.sides.length rcap] 56 (0,0))::s) (fun k=>k≤c.sides.length∧(List.range k).any (fF tl c)=false) (fun k=>c.sides.length - k) 0
    sB rfl rfl ⟨zf6 _,by simp⟩ ?_
   rintro k ⟨hk,hno⟩;refine sQ (sW I (lM I (yL I (tZ ?_))));refine iP I (fun hlt=>?_) (fun hlt=>?_)
   ·have hkl:k<c.sides.length:=oM;have hb1:=hx0 oM;have hjx:c.sides[((k:Nat):Int).toNat]?=some c.sides[k]:=gE hkl;have hjx':c.sides[k]?=some c.sides[k]:=gE hkl;have hprev:(k:Int)>0→∃ q,c.sides[((k:Int) - 1).toNat]?=some q∧c.sides[k - 1]?=some q:=fun h=>by
     have h2:k - 1<c.sides.length:=oM;exact⟨c.sides[k - 1],by rw[show ((k:Int) - 1).toNat=k - 1 by omega]; exact gE h2,gE h2⟩
    generalize c.sides[k]=y at *;have hbat:fF tl c k=bV tl c k y:=by unfold fF; rw[hjx']
    have hT:bV tl c k y=true→(List.range c.sides.length).any (fF tl c)=true:=fun h=>zj8.2 ⟨k,List.mem_range.2 hkl,by rw[hbat]; exact h⟩;have hF:bV tl c k y=false→(List.range (k+1)).any (fF tl c)=false:=fun h=>by rw[List.range_succ,List.any_append,hno]; simp[hbat,h]
    rcases sw hs y.cell with ⟨hfn,hat⟩ | ⟨yc,kk,hfs,hat,hyc⟩
    ·have hbad:bV tl c k y=true:=pH (by rw[hfn]; simp);refine kP (tN (sQ (bK (sW I (lU (fA au I bQ I) (lK (qL (v:=.slice rp c.sides.length rcap) cZ I (cO 0 I I)) (lM I (lU (iA aY aI I I hb1 oM sL) (lU (fC dw I zT3 I hb1) (lK (aZ (e:=encSide) (o:=0) (u:=vi y.cell) iT3 I hcs.rd hjx I) (lW (cL call101 I (ip E g _ _ tl y.cell hv htl hs)) ?_)))))))))));rintro _ _ _ ⟨rfl,rfl,rfl⟩;rw[hat];refine aT I (sQ ?_);refine dW [] [(0,2),(1,2),(2,2),(3,2),(4,2),(5,2),(6,2),(7,1),(8,2),(9,1),(10,2),(11,2),(12,2),(13,2),(14,2),(15,2),(16,2),(17,2),(18,1),(19,2),(20,2),(21,2),(22,1),(23,2),(24,1),(25,2),(26,2),(27,2),(28,2),(29,1),(30,2),(31,2),(32,2)] ze3 kR ?_;refine yM I (pU I (SU.eq (v':=vb true) (lS I I) I) (yM I (yG I (yG I (yG I (yG I (yI I (yG I (yI I (yG I (yG I (pU I (wT I I) (yM I (yG I (yG I (yG I (yH I (SP.off1 I (zb4 I I I dC) dC (yH I (yH I (yH I (SP.off1 I (zb4 I I I dC) dC (yH I (SP.off1 I (zb4 I I I dC) dC (yH I (yH I (yH I (yH I (SP.off1 I (zb4 I I I dC) dC ?_)))))))))))))))))))))))))))));refine yH I (yG I (pU I (wT I I) (pN (tN (za2 I (rZ (aT I (rE (bR (tR (tR (bR (tR (dR (s':=s) uR ?_))))))))))))));exact za8 (.inl I) results212 I ⟨by unfold cq; rw[zf9 (by simp[hdb]),zf9 (by simp[hcb]),zg1 (hT hbad)],I,I⟩
    ·have hkk:kk<tl.length:=(zf5.1 hyc).1;have hkr:kk<rs.length:=oM;have hbv:=hrs.based oM;have hyr:=hall.get hyc (gE hkr);have hgr:rs[((kk:Nat):Int).toNat]?=some rs[kk]:=gE hkr;have hsome:(am tl y.cell).isSome=true:=by rw[hfs]; rfl
     have hget:((am tl y.cell).getD cJ)=yc:=by rw[hfs]; rfl
     by_cases hdm:yc.dim≠c.dim - 1
     ·have hbad:bV tl c k y=true:=uY hsome (by rw[hget]; exact hdm);refine kP (tN (sQ (bK (sW I (lU (fA au I bQ I) (lK (qL (v:=.slice rp c.sides.length rcap) cZ I (cO 0 I I)) (lM I (lU (iA aY aI I I hb1 oM sL) (lU (fC dw I zT3 I hb1) (lK (aZ (e:=encSide) (o:=0) (u:=vi y.cell) iT3 I hcs.rd hjx I) (lW (cL call101 I (ip E g _ _ tl y.cell hv htl hs)) ?_)))))))))));rintro _ _ _ ⟨rfl,rfl,rfl⟩;rw[hat];refine aT I (sQ ?_);refine dW [] [(0,2),(1,2),(2,2),(3,2),(4,2),(5,2),(6,2),(7,1),(8,2),(9,1),(10,2),(11,2),(12,2),(13,2),(14,2),(15,2),(16,2),(17,2),(18,1),(19,2),(20,2),(21,2),(22,1),(23,2),(24,1),(25,2),(26,2),(27,2),(28,2),(29,1),(30,2),(31,2),(32,2)] ze3 kR ?_;refine yM I (pU I (SU.eq (v':=vb false) (lS I I) (ze2 vb (zf7 oM))) (yM I (yJ I (yJ I (zb3 I (gT I I I dC) (iA aJ aq I I hbv oM sL) dC (zb3 I (gT I I I dC) (fC au I zT3 I hbv) dC (SP.gq I (gT I I I dC) (aZ (e:=encCell) (o:=1) (u:=vi rs[kk].dim) iT3 I hrs.rd hgr I) dC (zb3 I (gT I I I dC) (fA au I zT3 I) dC (SP.gq I (gT I I I dC) (qL (v:=vi c.dim) iT3 I (cO 0 I I)) dC (zb3 I (gT I I I dC) (sU I I oM) dC (zb3 I (gT I I I dC) (SU.eq (v':=vb true) (nQ I I) (ze2 vb (zf8 (by rw[hyr.2.1]; exact hdm)))) dC ?_)))))))))));refine pU I (wF I I) (yM I (yG I (yG I (yG I (yH I (SP.off1 I (zb4 I I I dC) dC (yH I (yH I (yH I (SP.off1 I (zb4 I I I dC) dC (yH I (SP.off1 I (zb4 I I I dC) dC (yH I (yH I (yH I (yH I (SP.off1 I (zb4 I I I dC) dC (yH I (yG I (pU I (wT I I) (pN (tN (za2 I (rZ (aT I (rE ?_))))))))))))))))))))))))));refine bR (tR (tR (bR (tR (dR (s':=s) uR ?_)))));exact za8 (.inl I) results212 I ⟨by unfold cq; rw[zf9 (by simp[hdb]),zf9 (by simp[hcb]),zg1 (hT hbad)],I,I⟩
     ·by_cases hk0:(k:Int)>0
      ·obtain ⟨q,hq1,hq2⟩:=hprev hk0;have hbd:=uW (i:=k) hsome (by rw[hget]; exact hdm) hk0 hq2;refine kP (tN (sQ (bK (sW I (lU (fA au I bQ I) (lK (qL (v:=.slice rp c.sides.length rcap) cZ I (cO 0 I I)) (lM I (lU (iA aY aI I I hb1 oM sL) (lU (fC dw I zT3 I hb1) (lK (aZ (e:=encSide) (o:=0) (u:=vi y.cell) iT3 I hcs.rd hjx I) (lW (cL call101 I (ip E g _ _ tl y.cell hv htl hs)) ?_)))))))))));rintro _ _ _ ⟨rfl,rfl,rfl⟩;rw[hat];refine aT I (sQ ?_);refine dW [] [(0,2),(1,2),(2,2),(3,2),(4,2),(5,2),(6,2),(7,1),(8,2),(9,1),(10,2),(11,2),(12,2),(13,2),(14,2),(15,2),(16,2),(17,2),(18,1),(19,2),(20,2),(21,2),(22,1),(23,2),(24,1),(25,2),(26,2),(27,2),(28,2),(29,1),(30,2),(31,2),(32,2)] ze3 kR ?_;refine yM I (pU I (SU.eq (v':=vb false) (lS I I) (ze2 vb (zf7 oM))) (yM I (yJ I (yJ I (zb3 I (gT I I I dC) (iA aJ aq I I hbv oM sL) dC (zb3 I (gT I I I dC) (fC au I zT3 I hbv) dC (SP.gq I (gT I I I dC) (aZ (e:=encCell) (o:=1) (u:=vi rs[kk].dim) iT3 I hrs.rd hgr I) dC (zb3 I (gT I I I dC) (fA au I zT3 I) dC (SP.gq I (gT I I I dC) (qL (v:=vi c.dim) iT3 I (cO 0 I I)) dC (zb3 I (gT I I I dC) (sU I I oM) dC (zb3 I (gT I I I dC) (SU.eq (v':=vb false) (nQ I I) (ze2 vb (zf7 (by rw[hyr.2.1]; exact hdm)))) dC ?_)))))))))));refine pU I (wF I I) (yM I (yJ I (zb3 I (gT I I I dC) (SU.eq (v':=vb true) (gR I I) (ze2 vb (zf8 hk0))) dC (yJ I (zb3 I (gT I I I dC) (fA au I bQ I) dC (SP.gq I (gT I I I dC) (qL (v:=.slice rp c.sides.length rcap) cZ I (cO 0 I I)) dC (yJ I (zb3 I (gT I I I dC) (iA aY aI I I hb1 oM sL) dC (zb3 I (gT I I I dC) (fC dw I zT3 I hb1) dC (SP.gq I (gT I I I dC) (aZ (e:=encSide) (o:=0) (u:=vi y.cell) iT3 I hcs.rd hjx I) dC (zb3 I (gT I I I dC) (fA au I bQ I) dC (SP.gq I (gT I I I dC) (qL (v:=.slice rp c.sides.length rcap) cZ I (cO 0 I I)) dC (yJ I (zb3 I (gT I I I dC) (sU I I oM) dC (zb3 I (gT I I I dC) (iA aY aI I I hb1 oM sL) dC (zb3 I (gT I I I dC) (fC dw I zT3 I hb1) dC (SP.gq I (gT I I I dC) (aZ (e:=encSide) (o:=0) (u:=vi q.cell) iT3 I hcs.rd hq1 I) dC (zb3 I (gT I I I dC) (eQ I I) dC (zb3 I (gT I I I dC) (wT I I) dC (pU I (wF I I) (pN (tN ?_))))))))))))))))))))));refine iP I (fun heq=>?_) (fun heq=>?_)
       ·refine rZ (aT I (rE (bR (tR (tR (bR (tR (dR (s':=s) uR ?_))))))));exact za8 (.inl I) results212 I ⟨by unfold cq; rw[zf9 (by simp[hdb]),zf9 (by simp[hcb]),zg1 (hT (by rw[hbd]; exact zf8 heq.symm))],I,I⟩
       ·refine kP (bN (tN (rG (lM I (yD I (lA I (nL ?_)))))));exact ST.again (k+1) sB I I ⟨oM,hF (by rw[hbd]; exact zf7 fun e=>heq e.symm)⟩ oM
      ·have hbd:=uX (i:=k) (x:=y) hsome (by rw[hget]; exact hdm) hk0;refine kP (tN (sQ (bK (sW I (lU (fA au I bQ I) (lK (qL (v:=.slice rp c.sides.length rcap) cZ I (cO 0 I I)) (lM I (lU (iA aY aI I I hb1 oM sL) (lU (fC dw I zT3 I hb1) (lK (aZ (e:=encSide) (o:=0) (u:=vi y.cell) iT3 I hcs.rd hjx I) (lW (cL call101 I (ip E g _ _ tl y.cell hv htl hs)) ?_)))))))))));rintro _ _ _ ⟨rfl,rfl,rfl⟩;rw[hat];refine aT I (sQ ?_);refine dW [] [(0,2),(1,2),(2,2),(3,2),(4,2),(5,2),(6,2),(7,1),(8,2),(9,1),(10,2),(11,2),(12,2),(13,2),(14,2),(15,2),(16,2),(17,2),(18,1),(19,2),(20,2),(21,2),(22,1),(23,2),(24,1),(25,2),(26,2),(27,2),(28,2),(29,1),(30,2),(31,2),(32,2)] ze3 kR ?_;refine yM I (pU I (SU.eq (v':=vb false) (lS I I) (ze2 vb (zf7 oM))) (yM I (yJ I (yJ I (zb3 I (gT I I I dC) (iA aJ aq I I hbv oM sL) dC (zb3 I (gT I I I dC) (fC au I zT3 I hbv) dC (SP.gq I (gT I I I dC) (aZ (e:=encCell) (o:=1) (u:=vi rs[kk].dim) iT3 I hrs.rd hgr I) dC (zb3 I (gT I I I dC) (fA au I zT3 I) dC (SP.gq I (gT I I I dC) (qL (v:=vi c.dim) iT3 I (cO 0 I I)) dC (zb3 I (gT I I I dC) (sU I I oM) dC (zb3 I (gT I I I dC) (SU.eq (v':=vb false) (nQ I I) (ze2 vb (zf7 (by rw[hyr.2.1]; exact hdm)))) dC ?_)))))))))));refine pU I (wF I I) (yM I (yJ I (zb3 I (gT I I I dC) (SU.eq (v':=vb false) (gR I I) (ze2 vb (zf7 hk0))) dC (yJ I (yG I (yI I (yG I (yG I (yG I (yI I (yG I (yI I (yG I (yG I (yG I (yG I (yI I (yG I (zb3 I (gT I I I dC) (wF I I) dC (pU I (wF I I) (pN (tN (za1 I (kP (bN (tN (rG (lM I (yD I ?_)))))))))))))))))))))))))))));refine lA I (nL ?_);exact ST.again (k+1) sB I I ⟨oM,hF hbd⟩ oM
   ·refine xI (tX (tX (bX (tN (sQ (rZ (aT I (bK ?_))))))));have hkk:k=c.sides.length:=oM;subst hkk;refine oP (ι:=Nat) (fun k=>[(3,pp b3 0),(5,vi c.sides.length),(8,vi k)]) (fun _=>g)
     (fun _=>pt b3 (.cells #[vi c.id,vi c.dim,.slice rp c.sides.length rcap] 56 (0,0))::s) (fun k=>k≤c.sides.length∧(c.sides.take k).any bM=false) (fun k=>c.sides.length - k) 0
     sB rfl rfl ⟨zf6 _,by simp⟩ ?_
    rintro k ⟨hk2,hns⟩;refine sQ (sW I (lM I (yL I (tZ ?_))));refine iP I (fun hlt2=>?_) (fun hlt2=>?_)
    ·have hkl:k<c.sides.length:=oM;have hb1:=hx0 oM;have hjx:c.sides[((k:Nat):Int).toNat]?=some c.sides[k]:=gE hkl;have htk:c.sides.take (k+1)=c.sides.take k++[c.sides[k]]:=tS hkl;have hmemy:c.sides[k]∈c.sides:=gM hkl;generalize c.sides[k]=y at *;refine kP (tN (sQ (bK ?_)));refine SC.cutB 115 (bM y) ?_ ?_
     ·refine rG (lU (fA au I bQ I) (lK (qL (v:=.slice rp c.sides.length rcap) cZ I (cO 0 I I)) (lM I (lU (iA aY aI I I hb1 oM sL) (lU (fC dw I zT3 I hb1) (lK (aZ (e:=encSide) (o:=1) (u:=vi y.sign) iT3 I hcs.rd hjx I) (lU (nQ I I) (lM I ?_))))))));refine sP ?_ ?_
      ·intro h107;refine lY I I I (fA au I bQ I) (SL.gq (gT I I I dC) (qL (v:=.slice rp c.sides.length rcap) cZ I (cO 0 I I)) dC (yC I (lY I I I (iA aY aI I I hb1 oM sL) (lY I I I (fC dw I zT3 I hb1) (SL.gq (gT I I I dC) (aZ (e:=encSide) (o:=1) (u:=vi y.sign) iT3 I hcs.rd hjx I) dC (lY I I I (nQ I I) (yP I (nL ?_))))))));exact zb1 (by exact ze2 (fun b=>some (Value.bool b)) (uj h107).symm) mI
      ·intro h107;refine yA I (yA I (yA I (yA I (yA I (yA I (yA I (yF I (nL ?_))))))));exact zb1 (by exact ze2 (fun b=>some (Value.bool b)) (ui h107).symm) mI
     refine iQ I (fun hsg=>?_) (fun hsg=>?_)
     ·refine rZ (aT I (rE (bR (tR (tR (bR (tR (dR (s':=s) uR ?_))))))));have hany:c.sides.any bM=true:=zj8.2 ⟨y,hmemy,hsg⟩;exact za8 (.inl I) results212 I ⟨by unfold cq; rw[zf9 (by simp[hdb]),zf9 (by simp[hcb]),zf9 (by simp[hno]),zg1 hany],I,I⟩
     ·refine kP (bN (tN (rG (lM I (yD I (lA I (nL ?_)))))));exact ST.again (k+1) sB I I ⟨oM,by rw[htk,List.any_append,hns]; simp[hsg]⟩ oM
    ·have hkk:c.sides.take k=c.sides:=tL oM;rw[hkk] at hns;by_cases hd1:c.dim=1
     ·have h2:c.sides.length=2:=by
       simp[aR] at hcb;have:=hcb.1.2 hd1;omega
      obtain ⟨a,b,hab,hsum⟩:=BC h2 hns;have hb1:=hx0 oM;refine xI (tX (tX (bX (tN (sQ (sQ ?_))))));refine dW [] [(0,2),(1,1),(2,2),(3,2),(4,2),(5,1),(6,2),(7,2),(8,1),(9,2),(10,1),(11,2),(12,2),(13,1),(14,2),(15,2)] ze3 kR ?_;refine pU I (fA au I zT3 I) (pK I (qL (v:=vi c.dim) iT3 I (cO 0 I I)) (pU I (SU.eq (v':=vb true) (eQ I I) (ze2 vb (zf8 hd1))) (yM I (zb3 I (gT I I I dC) (fA au I bQ I) dC (SP.gq I (gT I I I dC) (qL (v:=.slice rp c.sides.length rcap) cZ I (cO 0 I I)) dC (zb3 I (gT I I I dC) (iA aY aI I I hb1 dC sL) dC (zb3 I (gT I I I dC) (fC dw I zT3 I hb1) dC (SP.gq I (gT I I I dC) (aZ (e:=encSide) (j:=0) (o:=1) (u:=vi a.sign) (a:=a) iT3 I hcs.rd (by rw[hab]; rfl) rfl) dC ?_))))))));refine zb3 I (gT I I I dC) (fA au I bQ I) dC (SP.gq I (gT I I I dC) (qL (v:=.slice rp c.sides.length rcap) cZ I (cO 0 I I)) dC (zb3 I (gT I I I dC) (iA aY aI I I hb1 dC sL) dC (zb3 I (gT I I I dC) (fC dw I zT3 I hb1) dC (SP.gq I (gT I I I dC) (aZ (e:=encSide) (j:=1) (o:=1) (u:=vi b.sign) (a:=b) iT3 I hcs.rd (by rw[hab]; rfl) rfl) dC ?_))));refine zb3 I (gT I I I dC) (eQ I I) dC (pU I (wT I I) (pN (tN ?_)));refine iP I (fun heq=>?_) (fun heq=>?_)
      ·refine rZ (aT I (rE (tR (dR (s':=s) uR ?_))));exact za8 (.inl I) results212 I ⟨by unfold cq; rw[zf9 (by simp[hdb]),zf9 (by simp[hcb]),zf9 (by simp[hno]),zf9 (by simp[hns]),zg1 (by rw[hsum]; simp[hd1,heq])],I,I⟩
      ·refine kP (tN (rZ (aT I (rE (dR (s':=s) uR ?_)))));exact za8 (.inl I) results212 I ⟨by unfold cq; rw[zf9 (by simp[hdb]),zf9 (by simp[hcb]),zf9 (by simp[hno]),zf9 (by simp[hns]),zf9 (by rw[hsum]; simp[heq])],I,I⟩
     ·refine xI (tX (tX (bX (tN (sQ (sQ ?_))))));refine dW [] [(0,2),(1,1),(2,2),(3,2),(4,2),(5,1),(6,2),(7,2),(8,1),(9,2),(10,1),(11,2),(12,2),(13,1),(14,2),(15,2)] ze3 kR ?_;refine pU I (fA au I zT3 I) (pK I (qL (v:=vi c.dim) iT3 I (cO 0 I I)) (pU I (SU.eq (v':=vb false) (eQ I I) (ze2 vb (zf7 hd1))) (yM I (yG I (yI I (yG I (yG I (yI I (yG I (yI I (yG I (yG I (yI I (yG I (pU I (wF I I) (pN (tN (za1 I (kP (tN (rZ (aT I (rE (dR (s':=s) uR ?_))))))))))))))))))))))));exact za8 (.inl I) results212 I ⟨by unfold cq; rw[zf9 (by simp[hdb]),zf9 (by simp[hcb]),zf9 (by simp[hno]),zf9 (by simp[hns]),zf9 (by simp[hd1])],I,I⟩
end Go.Proofs.YtbbppeihhkhkcaaGreatDoor
