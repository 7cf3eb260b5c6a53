/- 6 -/
import Derived.Test.YtackilpikhkijaaGreatDoorSd05
set_option linter.unusedSimpArgs false
set_option linter.unusedVariables false
namespace Go.Proofs.YtackilpikhkijaaGreatDoor
open _root_.Go.Proofs.Tryz _root_.Go.Proofs.YtackilpikhkijaaGreatDoor.Tryz
open Go Go.Sy Go.Pl Go.Proofs
set_option maxRecDepth 100000
theorem Cf {g:PH}:∀ {ls:List (List Int)} {rs:List Sv},aA (dK g) ls rs→(∀ x∈ls,x.length<1099511627776)→∃ L:List (LV g),L.map LV.l=ls∧L.map LV.sv=rs
 | [],[],_,_=>⟨[],rfl,rfl⟩
 | x::ls,r::rs,h,hl=>by
  obtain ⟨L,h1,h2⟩:=Cf h.2 (fun y hy=>hl y<|by simp[hy]);exact⟨⟨r,x,h.1,hl x (by simp)⟩::L,by simp[h1],by simp[h2]⟩
 | [],_::_,h,_=>h.elim
 | _::_,[],h,_=>h.elim
theorem AR {g:PH}:∀ (L:List (LV g)),aA (dK g) (L.map LV.l) (L.map LV.sv)
 | []=>trivial
 | x::L=>⟨x.h,AR L⟩
theorem xq {g:PH}:∀ (L:List (LV g)),L.flatMap (kj g).enc=(L.map LV.sv).flatMap eC.enc
 | []=>rfl
 | x::L=>by simp only[zh8,zg7,xq L]; rfl
theorem AQ {g:PH}(T:TypeId)(v:Value)(L:List (LV g)):rowA (kj g) T v L=rowA eC T v (L.map LV.sv):=by
 simp only[rowA,xq,ze9]
def eqL (a b:List Int):Bool:=decide (a=b)
theorem lv {α β:Type}(f:α→β)(eq:α→α→Bool)(eq':β→β→Bool)(h:∀ a b,eq a b=eq' (f a) (f b)):∀ (x:α) (l:List α),(bB eq x l).map f=bB eq' (f x) (l.map f)
 | _,[]=>rfl
 | x,y::r=>by
  simp only[bB,zg7,h];split
  ·exact lv f eq eq' h y r
  ·rw[zg7,lv f eq eq' h y r]
theorem zD {α β:Type}(f:α→β)(eq:α→α→Bool)(eq':β→β→Bool)(h:∀ a b,eq a b=eq' (f a) (f b))(l:List α):(iu eq l).map f=iu eq' (l.map f):=by
 cases l with
 | nil=>rfl
 | cons x r=>simp only[iu,zg7,lv f eq eq' h]
theorem lr {α:Type}(eq:α→α→Bool):∀ (x:α) (l:List α),(bB eq x l).Sublist l
 | _,[]=>.slnil
 | x,y::r=>by
  simp only[bB];split
  ·exact (lr eq y r).cons y
  ·exact (lr eq y r).cons_cons y
theorem pE {α:Type}(eq:α→α→Bool)(l:List α):(iu eq l).Sublist l:=by
 cases l with
 | nil=>exact .slnil
 | cons x r=>exact (lr eq x r).cons_cons x
def dH (s:List Int):List Int:=iu (fun a b:Int=>decide (a=b)) (gp s)
def jF:List Int→Bool
 | []=>true
 | a::r=>decide (a<0)||decide (((a::r).length:Int)>9)
def fJ (all:List (List Int))(t:List Int):List (List Int):=iu eqL (m5<|all++cI t)
def bQ:List (List Int)→List (List Int)→Option (List<|List Int)
 | all,[]=>some all
 | all,s::r=>if jF (dH s) then bQ all r else if ((fJ all<|dH s).length:Int)>4000 then none else bQ (fJ all<|dH s) r
def iC (all:List (List Int))(s:List Int)(k:Nat):List Side:=if 0<(s.eraseIdx k).length then [⟨lbL all (s.eraseIdx k)+1,eu k⟩] else []
def bH (all:List (List Int))(s:List Int)(j:Nat):List Side:=(List.range j).flatMap (iC all s)
def mG (all:List (List Int))(p:List Int×Nat):Cl:=⟨p.2+1,(p.1.length:Int) - 1,bH all p.1 p.1.length⟩
def bI (all:List (List Int)):List Cl:=all.zipIdx.map (mG all)
def e8 (l:List (List Int)):List Cl:=match bQ [] l with
 | none=>[]
 | some all=>aa<|bI all
theorem og (t:List Int)(h:t.length≤9):(cI t).length≤511:=by
 have:=wS t.length h;simp[cI];omega
theorem il {t:List Int}(h:t.length≤9):∀ x∈cI t,x.length≤9:=fun x hx=>by
 obtain ⟨i,_,rfl⟩:=zf5.1 hx;exact zl2 (fV _ _) h
theorem sf {t:List Int}(h:t≠[]):0<(cI t).length:=by
 have h1:0<t.length:=List.length_pos_iff.2 h;have h2:2 ^ 1≤2 ^ t.length:=Nat.pow_le_pow_right dC h1;simp[cI];omega
theorem kq {all:List (List Int)}{t x:List Int}(h:x∈fJ all t):x∈all∨x∈cI t:=by
 have h1:=(pE eqL _).subset h;have h2:=(jJ _).subset h1;exact zf6.1 h2
theorem uw (all:List (List Int))(t:List Int):qq (fJ all t):=(jj _).sublist (pE eqL _)
theorem uE {all:List (List Int)}(h:qq all)(t:List Int):∀ i j (hi:i<all.length) (hj:j<all.length),i<j→aF all[j] t<0→aF all[i] t<0:=fun i j hi hj hij hlt=>by
 have h1:=zd1.1 h i j hi hj hij
 rcases dN all[i] all[j] with h2 | h2 | h2
 ·exact eS _ _ _ h2 hlt
 ·rw[h2]; exact hlt
 ·exact absurd h2 h1
theorem fK (all:List (List Int))(s:List Int)(j:Nat):bH all s (j+1)=bH all s j++iC all s j:=by
 simp[bH,List.range_succ]
theorem dL (all:List (List Int))(s:List Int)(j:Nat):(bH all s j).length≤j:=by
 induction j with
 | zero=>simp[bH]
 | succ j ih =>
  rw[fK,ze8];have:(iC all s j).length≤1:=by unfold iC; split <;> simp
  omega
theorem cq (all:List (List Int)):(bI all).length=all.length:=by simp[bI]
theorem kX {all:List (List Int)}{k:Nat}(h:k<all.length):(bI all)[k]?=some (mG all (all[k],k)):=by
 simp[bI,h]
theorem jV {all:List (List Int)}(h:all.length≤4000)(hs:∀ x∈all,x.length≤9):bo (bI all):=by
 refine⟨by rw[cq]; omega,fun c hc=>?_⟩;obtain ⟨p,hp,rfl⟩:=zf5.1 hc;have h1:p.1∈all:=by
  have:=List.mem_map_of_mem (f:=Prod.fst) hp;simpa using this
 have h2:=hs _ h1;have h3:=dL all p.1 p.1.length;show (bH all p.1 p.1.length).length<_;omega
theorem wU (ls:List (List Int))(t:List Int):lbL ls t≤ls.length:=zc6 _ _
def jg (v:Value):Sv:=match v with
 | .slice p n c=>⟨p,n,c⟩
 | _=>⟨none,0,0⟩
theorem oh (E:World)(g:PH)(s:Own)(v:Value)(ls:List (List Int))(hv:cZ g v ls)(hn:ls.length<1099511627776)(hl:∀ x∈ls,x.length<17592186044416) :
  Ctr Tryz.prog E 60 #[v] g s (fun r g' s'=>s=s'∧Le g g'∧∃ u,r = .agg #[u]∧ao g' u (e8 ls)):=by
 obtain ⟨rs0,hrs0,hall0⟩:=hv;have hlen0:=hall0.length;obtain ⟨p,c,rfl⟩:=za4 hrs0;refine zb2 (args:=[.slice p rs0.length c]) func60 I ntmps60 (bE I)<|rZ (bW (aL zl5) fun b2=>?_);refine tZ<|rZ<|aT I<|sQ<|sW I<|lU (eN eP I)<|lM I<|tZ<|bK<|zb6 83 1<|oP (ι:=PH×Value×List Sv×List (List Int)×Nat) (fun i=>[(0,.slice p rs0.length c),(2,pp b2 0),(3,i.2.1),(14,.slice p rs0.length c),(15,vi rs0.length),(16,vi i.2.2.2.2)]) (fun i=>i.1)
  (fun i=>rowA eC 83 i.2.1 i.2.2.1::pt b2 (.cells #[.slice none 0 0] 29 (0,0))::s)
  (fun i=>Le g i.1∧i.2.2.2.2≤rs0.length∧aA (dK i.1) i.2.2.2.1 i.2.2.1∧(i.2.2.2.1.length≤4000∧∀ x∈i.2.2.2.1,x.length≤9)∧qq i.2.2.2.1∧bQ [] ls=bQ i.2.2.2.1 (ls.drop i.2.2.2.2)) (fun i=>rs0.length - i.2.2.2.2)
  (g,.slice none 0 0,[],[],0) sB rfl rfl ⟨zb9 g,zf9 _,trivial,⟨zf9 _,by simp⟩,List.Pairwise.nil,rfl⟩ ?_
 rintro ⟨g1,av,rs,all,k⟩ ⟨hle,hk,hall,⟨hal,has⟩,hsrt,hsa⟩;dsimp only at hle hk hall hal has hsrt hsa ⊢;have hrl:=hall.length;refine rZ<|yL I<|tZ<|sQ<|iP I (fun hlt=>?_) (fun hlt=>?_)
 ·have hkl:k<ls.length:=oM;have hkr:k<rs0.length:=oM;have hR:=(hall0.get (gE hkl)<|gE hkr).mono hle;have hxl:=hl _<|gM hkl;have hb1:=hrs0.based oM;have hdrop:ls.drop k=ls[k]::ls.drop (k+1):=zg9 hkl;rw[hdrop] at hsa;generalize hx:ls[k]=x at *;generalize hr:rs0[k]=r at *;have hgr:rs0[((k:Nat):Int).toNat]?=some r:=by rw[← hr]; exact gE hkr
  have hsl:=mf x;have hul:=tu (fun a b:Int=>decide (a=b))<|gp x;refine kP<|tN<|sQ<|bK<|rZ<|lU (iA eP gB I I hb1 oM sL)<|lK (eB ju I (hrs0.mono hle).rd hgr I)<|aT I<|sW I<|lW (cL call97 I<|CG E g1 _ _ x hR hxl) ?_;rintro v21 _ _ ⟨rfl,rfl⟩;refine aT I<|sW I<|lW (cL call98 I<|qv E g1 _ v21 x 0 I hxl) ?_;rintro _ _ _ ⟨rfl,rfl⟩;refine tZ<|sW I<|lW (cL call99 I<|AC E g1 _ v21 (gp x) oM) ?_;rintro v25 _ _ ⟨rfl,rfl⟩;refine aT I (sQ<|fS fun g2 hle2 hs2=>?_);have hset:dQ g2 v25 (dH x):=hs2;have hsetl:(dH x).length<17592186044416:=by unfold dH; omega
  obtain ⟨q2,d2,rfl⟩:=za4 hset;have hcase:dH x=[]∨∃ a t,dH x=a::t:=by cases dH x with
   | nil=>exact .inl rfl
   | cons a t=>exact .inr ⟨a,t,rfl⟩
  have hall2:=hall.mono fun _ _=>dK.mono hle2;clear hs2;generalize hT:dH x=T at *
  rcases hcase with hT0 | ⟨a,t,hTa⟩
  ·subst hT0;have hbad:jF (dH x)=true:=by rw[hT]; rfl
   refine sW I<|lU (eN aK I)<|lU (SU.eq (v':=vb true) (eQ I I)<|ze5 vb<|zg2<|by simp) ?_;refine lM I<|yA I<|yA I<|yA I<|yA I<|yP I<|lM I<|yA I<|yA I<|yA I<|yP I<|tZ<|za2 I<|xI<|tX<|bX<|tN<|rG<|yD I<|lM I<|nL ?_;refine gA (g2,av,rs,all,k+1) sB I I ⟨hle.trans hle2,lN,hall2,⟨hal,has⟩,hsrt,?_⟩ lN;rw[hsa,bQ,zg4 hbad]
  ·have hTl:T.length=t.length+1:=by rw[hTa]; rfl
   have hbT:=za6 hset oM;have hga:T[((0:Nat):Int).toNat]?=some a:=by rw[hTa]; rfl
   have hbe:jF (dH x)=(decide (a<0)||decide ((T.length:Int)>9)):=by rw[hT,hTa]; rfl
   have hbe1:a<0→(decide (a<0)||decide ((T.length:Int)>9))=true:=fun h=>by simp[h]
   have hbe2:¬ a<0→(decide (a<0)||decide ((T.length:Int)>9))=decide ((T.length:Int)>9):=fun h=>by simp[h]
   refine SC.sub (f':=[(0,.slice p rs0.length c),(2,pp b2 0),(3,av),(5,.slice q2 T.length d2),(14,.slice p rs0.length c),(15,vi rs0.length),(16,vi k)]) sB<|SC.cutB 39 ((decide (a<0)||decide ((T.length:Int)>9))) ?_ ?_
   ·refine rG<|lM I<|lU (eN aK I)<|lU (SU.eq (v':=vb false) (eQ I I)<|ze5 vb<|zg1 oM)<|lM I<|yC I<|lY I I I (iA aK zT3 I I hbT dC sL)<|SL.gq (gT I I I dC) (eB iT3 I (za7 hset) hga I) dC<|lY I I I (lS I I)<|yF I<|lM I<|sP ?_ ?_
    ·intro h35;exact yA I<|yA I<|yA I<|yP I<|nL<|zb1 (by (rw[hbe1 h35]; rfl)) mI
    ·intro h35;exact yC I<|lY I I I (eN aK I)<|lY I I I (gR I I)<|yF I<|nL<|zb1 (by (rw[hbe2 h35]; rfl)) mI
   refine iQ I (fun hbad=>?_) (fun hbad=>?_)
   ·refine xI<|tX<|bX<|tN<|rG<|yD I<|lM I<|nL<|gA (g2,av,rs,all,k+1) sB I I ⟨hle.trans hle2,lN,hall2,⟨hal,has⟩,hsrt,?_⟩ lN;rw[hsa,bQ,zg4<|hbe.trans hbad]
   ·have hb9:T.length≤9:=by simp at hbad; omega
    have hsub1:=og T hb9;have hsub2:=il hb9;have hsub3:=sf (t:=T) (by rw[hTa]; simp);have hnb:¬ jF (dH x)=true:=by rw[hbe,hbad]; simp
    refine kP<|tN<|sW I<|lM I<|lW (cL call100 I<|se E g2 _ _ T hset hb9) ?_;rintro v42 g3 _ ⟨rfl,hle3,hsub⟩;obtain ⟨rs2,hrs2,hall3⟩:=hsub;have hrl2:=hall3.length;refine lW (aQ (e:=eC) 0 sty22 I I I hrs2 oM oM) ?_;rintro v43 _ _ ⟨rfl,rfl⟩;have hall4:=(hall2.mono fun _ _=>dK.mono hle3).append hall3;obtain ⟨L,hL1,hL2⟩:=Cf hall4 (fun y hy=>(zf6.1 hy).elim (fun h=>Nat.lt_of_le_of_lt (has y h) dC)<|fun h=>Nat.lt_of_le_of_lt (hsub2 y h) dC);have hLl:L.length=all.length+(cI T).length:=(by have:=ze5 List.length hL1; simpa using this);rw[← hL2,← AQ];refine aT I<|sW I<|lW (cL call101 I<|tD E g3 _ _ L oM oM) ?_;rintro _ _ _ ⟨rfl,L2,hp2,hs2,rfl⟩;have hL2l:=hp2.length_eq;have hcall:∀ (x y:LV g3) s',dA Tryz.prog E (.func (.func 104) #[] #[]) [x.val,y.val] g3 s' (fun r g' s''=>r=vb (decide (x.l=y.l))∧g3=g'∧s'=s''):=fun x y s'=>dA.mk (args:=[x.val,y.val]) (cap:=[]) call104<|jk E g3 s' _ _ x.l y.l x.h y.h x.len;refine tZ<|sW I<|lW (cL call103 I<|AB (kj g3) LV.val (fun _=>I) (fun _=>I) E g3 _ _ 104 (fun x y=>decide (x.l=y.l)) L2 oM hcall) ?_;rintro v47 _ _ ⟨rfl,rfl⟩;refine zd4 fun ⟨w0,hw0⟩=>?_;obtain ⟨q,d,rfl⟩:=ag (i:=0) hw0 rfl;clear hw0 w0;rw[AQ];have hnew:(iu (fun x y:LV g3=>decide (x.l=y.l)) L2).map LV.l=fJ all T:=(by rw[zD LV.l (fun x y:LV g3=>decide (x.l=y.l)) eqL (fun _ _=>rfl),hs2,hL1]; rfl);have hnl:(iu (fun x y:LV g3=>decide (x.l=y.l)) L2).length=(fJ all T).length:=(by rw[← hnew,ze9]);have hall5:=AR<|iu (fun x y:LV g3=>decide (x.l=y.l)) L2;rw[hnew] at hall5;generalize (iu (fun x y:LV g3=>decide (x.l=y.l)) L2).length=n47 at *;generalize (iu (fun x y:LV g3=>decide (x.l=y.l)) L2).map LV.sv=rs5 at *;refine aT I<|sW I<|lU (eN eP I)<|lU (gR I I)<|tZ ?_;refine iP I (fun hmany=>?_) (fun hmany=>?_)
    ·have hnone:bQ [] ls=none:=by rw[hsa,bQ,zg3 hnb,hT,zg4 oM]
     exact rZ<|lU (za3 I<|buildE29)<|oZ (sK 1 ah I I I I I sB)<|tZ<|rE<|bR<|tR<|tR<|bR<|tR<|ST.retCD 1 s (.inl I) results60 I aw ah I I uR ⟨I,hle.trans<|hle2.trans hle3,_,I,by simp only[e8,hnone]; exact⟨[],zc1 _ _,trivial⟩⟩
    ·refine kP<|bN<|tN<|rG<|yD I<|lM I<|nL<|gA (g3,.slice q n47 d,rs5,fJ all T,k+1) sB I I ⟨hle.trans<|hle2.trans hle3,lN,hall5,⟨lN,fun y hy=>?_⟩,uw all T,?_⟩ lN
     ·rcases kq hy with h | h
      ·exact has y h
      ·exact hsub2 y h
     ·rw[hsa,bQ,zg3 hnb,hT,zg3 oM]
 ·have hk0:k=rs0.length:=oM;have hsome:bQ [] ls=some all:=by rw[hsa,hk0,← hlen0,List.drop_length]; rfl
  have hfit:=jV hal has;refine xI (tX<|tX<|bX<|tN<|sQ<|fS fun g2 hle2 hs2=>?_);have hav:SlA eC g2 av rs:=hs2;obtain ⟨q,d,rfl⟩:=za4 hav;have hall2:=hall.mono fun _ _=>dK.mono hle2;refine rG (bW (aL zl5) fun b6=>?_);refine tZ<|sQ<|sW I<|lU (eN eP I)<|lM I<|tZ<|bK<|zb6 53 3<|oP (ι:=PH×Value×List Rc×Nat) (fun i=>[(2,pp b2 0),(3,.slice q rs.length d),(6,pp b6 0),(53,.slice q rs.length d),(54,vi rs.length),(55,vi i.2.2.2)]) (fun i=>i.1)
   (fun i=>rowA encCell 53 i.2.1 i.2.2.1::pt b6 (.cells #[i.2.1] 29 (0,0))::pt b2 (.cells #[.slice none 0 0] 29 (0,0))::s)
   (fun i=>Le g2 i.1∧i.2.2.2≤rs.length∧aA (ar i.1) ((bI all).take i.2.2.2) i.2.2.1) (fun i=>rs.length - i.2.2.2)
   (g2,.slice none 0 0,[],0) sB rfl rfl ⟨zb9 g2,zf9 _,trivial⟩ ?_
  rintro ⟨g3,ov,rcs,n⟩ ⟨hle3,hn3,hrcs⟩;dsimp only at hle3 hn3 hrcs ⊢;have hrcl:=hrcs.length;rw[ze7,cq] at hrcl;refine rZ<|yL I<|tZ<|sQ<|iP I (fun hlt2=>?_) (fun hlt2=>?_)
  ·have hnl:n<all.length:=oM;have hnr:n<rs.length:=oM;have hb1:=hav.based oM;have hR:=(hall2.get (gE hnl)<|gE hnr).mono hle3;have hRl:=hR.len;have hx9:=has _<|gM hnl;have hget:=kX hnl;generalize hx:all[n]=x at *;generalize hr:rs[n]=r at *;obtain ⟨rp,rn,rc⟩:=r;dsimp only at hRl;subst hRl;have hxs:dQ g3 (.slice rp x.length rc) x:=hR;have hgr:rs[((n:Nat):Int).toNat]?=some ⟨rp,x.length,rc⟩:=by rw[← hr]; exact gE hnr
   refine kP (tN<|sQ<|bK<|sW I<|lU (iA eP gB I I hb1 oM sL)<|lK (eB (u:=.slice rp x.length rc) ju I (hav.mono hle3).rd hgr I)<|lA I<|aT I<|sW I<|yD I<|lM I<|lU (eN aK I)<|lU (sU I I oM)<|lU (za3 I<|buildC53 _ _)<|bW (aL zl8) fun b9=>?_);refine oZ (sK 0 au I I I I I sB)<|tZ<|sQ<|sQ<|zb6 55 2<|rG<|lM I<|lU (eN aK I)<|lM I<|tZ<|bK<|oP (ι:=PH×Value×Nat) (fun i=>[(2,pp b2 0),(3,.slice q rs.length d),(6,pp b6 0),(53,.slice q rs.length d),(54,vi rs.length),(55,vi n),(8,.slice rp x.length rc),(9,pp b9 0),(66,.slice rp x.length rc),(67,vi x.length),(68,vi i.2.2)]) (fun i=>i.1)
    (fun i=>rowA encSide 55 i.2.1 (bH all x i.2.2)::pt b9 (.cells #[vi<|(n:Int)+1,vi<|(x.length:Int) - 1,i.2.1] 53 (0,0))::rowA encCell 53 ov rcs::pt b6 (.cells #[ov] 29 (0,0))::pt b2 (.cells #[.slice none 0 0] 29 (0,0))::s)
    (fun i=>Le g3 i.1∧i.2.2≤x.length) (fun i=>x.length - i.2.2)
    (g3,.slice none 0 0,0) sB rfl rfl ⟨zb9 g3,zf9 _⟩ ?_
   rintro ⟨g4,sv,j⟩ ⟨hle4,hj⟩;dsimp only at hle4 hj ⊢;have hssl:=dL all x j;have hsucc:=fK all x j;refine rZ<|yL I<|tZ<|sQ<|iP I (fun hlt3=>?_) (fun hlt3=>?_)
   ·have hjl:j<x.length:=oM;have hxs4:dQ g4 (.slice rp x.length rc) x:=hxs.mono hle4;have hcap:=(SlA.cap hxs4).2;have hc1:=SlA.cut hxs4 (l:=0) (m:=j) oM oM;have hc2:=SlA.cut hxs4 (l:=j+1) (m:=x.length) oM oM;have he1:(x.drop 0).take (j - 0)=x.take j:=by simp
    have he2:(x.drop<|j+1).take (x.length - (j+1))=x.drop (j+1):=tL (by rw[zf3]; omega);rw[he1] at hc1;rw[he2] at hc2;have her:[x.take j,x.drop<|j+1].flatten=x.eraseIdx j:=by rw[List.eraseIdx_eq_take_drop_succ]; simp
    have hel:(x.eraseIdx j).length=x.length - 1:=by rw[List.length_eraseIdx]; simp[hjl]
    have hsum:iy [x.take j,x.drop<|j+1]<1099511627776:=by simp[iy]; omega
    refine kP<|tN<|sQ<|bK<|sW I<|aT I<|sQ<|dW [] [(0,2),(1,2),(2,2),(3,2),(4,2),(5,2),(6,2),(7,0),(8,0),(9,2)] ze6 kR<|yM I<|yM I<|pU I (SU.sliceH aK zT3 I I oM oM)<|yM I<|yM I<|pU I (aD I I oM)<|pU I (SU.eq (v':=sliced rp (j+1) x.length rc 1) (SU.sliceL aK zT3 I I oM oM)<|by rw[show ((j:Int)+1).toNat=j+1 by omega]) ?_;refine SP.o I (bS sty22 I I I (ae sB) dC) dC (.inr iR) ?_;rintro _ _ _ ⟨b78,rfl,rfl,rfl⟩;refine SP.freeze fun g5 hle5 hb78=>?_;have hlit:cZ g5 (.slice (some ⟨b78,0,none⟩) 2 2) [x.take j,x.drop<|j+1]:=⟨[jg<|sliced rp 0 j rc 1,jg<|sliced rp (j+1) x.length rc 1],SlA.lit hb78 rfl rfl,⟨hc1.mono hle5,hc2.mono hle5,trivial⟩⟩;refine SP.o I (cL call105 I<|uk E g5 _ _ _ hlit (by simp) hsum) dC (.inr iR) ?_;rintro v79 _ _ ⟨rfl,rfl⟩;refine pU I (aS I) (pN<|tN<|sQ<|fS fun g6 hle6 hs6=>?_);have hrest:dQ g6 v79 (x.eraseIdx j):=(by rw[← her]; exact hs6);obtain ⟨q6,d6,rfl⟩:=za4 hrest;clear hs6;refine rG<|lM I<|lU (eN aK I)<|lU (gR I I)<|tZ ?_;refine iP I (fun hpos=>?_) (fun hpos=>?_)
    ·have hside:iC all x j=[⟨lbL all (x.eraseIdx j)+1,eu j⟩]:=by unfold iC; rw[zg4 oM]
     have hlb:=wU all<|x.eraseIdx j;rw[hside] at hsucc;have hlist:cZ g6 (.slice q rs.length d) all:=⟨rs,hav.mono<|hle3.trans<|hle4.trans<|hle5.trans hle6,hall2.mono fun _ _=>dK.mono<|hle3.trans<|hle4.trans<|hle5.trans hle6⟩;refine sW I<|lM I<|lW (cL call106 I<|wC E g6 _ _ _ all (x.eraseIdx j) hlist hrest oM (fun y hy=>by have:=has y hy; omega)<|uE hsrt _) ?_;rintro _ _ _ ⟨⟨fb,rfl⟩,rfl,rfl⟩;refine lM I<|yX I<|yX I<|lA I<|aT I<|dW [8,9,10] [(0,2),(1,1),(2,2),(3,2),(4,2),(5,0),(6,2),(7,0),(8,0),(9,0),(10,0)] ze6 kR<|pU I (fA aq I aJ I)<|pK I (qL aX I<|cO 1 I I)<|yM I<|pU I (aD I I oM)<|yM I<|SP.o I (cL call107 I<|xS E g6 _ j) dC (.inr iR) ?_;rintro _ _ _ ⟨rfl,rfl,rfl⟩;refine pU I (za3 I<|buildS55 _ _)<|SP.o I (bS sty32 I I I (ae sB) dC) dC (.inr iR) ?_;rintro _ _ _ ⟨b96,rfl,rfl,rfl⟩;refine SP.o I (aP (e:=encSide) 0 ⟨lbL all (x.eraseIdx j)+1,eu j⟩ sty32 I I I I I oM oM) dC (.inl dC) ?_;rintro v97 _ _ ⟨rfl,rfl⟩;rw[← hsucc];refine zd3 fun ⟨w0,hw0⟩=>?_;obtain ⟨q97,d97,rfl⟩:=ag (i:=0) hw0 rfl;clear hw0 w0;refine oU rfl (fA aq rfl aJ rfl) dC (.inl dC)<|SP.on rfl (SO.store1 1 aJ rfl rfl rfl rfl (bE rfl)<|by rfl) (.inl dC) ?_;rintro _ _ _ ⟨rfl,rfl⟩;refine pN<|bN<|tN<|rG<|yD I<|lM I<|nL ?_;exact gA (g6,_,j+1) sB I I ⟨hle4.trans<|hle5.trans hle6,lN⟩ lN
    ·have hside:iC all x j=[]:=by unfold iC; rw[zg3 oM]
     rw[hside,zc7] at hsucc;refine kP<|bN<|tN<|rG<|yD I<|lM I<|nL ?_;refine ST.to (fun w hw=>?_) (g':=g6) (s':=rowA encSide 55 sv (bH all x<|j+1)::pt b9 (.cells #[vi<|(n:Int)+1,vi<|(x.length:Int) - 1,sv] 53 (0,0))::rowA encCell 53 ov rcs::pt b6 (.cells #[ov] 29 (0,0))::pt b2 (.cells #[.slice none 0 0] 29 (0,0))::s) ?_
     ·rw[hsucc]; exact hw
     exact gA (g6,sv,j+1) sB I I ⟨hle4.trans<|hle5.trans hle6,lN⟩ lN
   ·have hjj:j=x.length:=oM;subst hjj;refine xI (tX<|tX<|bX<|tN<|rG<|fR fun g5 hle5 hs5=>?_);have hsd:SlA encSide g5 sv (bH all x x.length):=hs5;obtain ⟨q5,d5,rfl⟩:=za4 hsd;obtain ⟨nc,hnc⟩:∃ nc:Rc,nc=⟨(n:Int)+1,(x.length:Int) - 1,⟨q5,(bH all x x.length).length,d5⟩⟩:=⟨_,rfl⟩;refine lU (fA bM I bt I)<|lK (qL de I<|cO 2 I I)<|lK (qV 0 dn au I I I)<|lW (bS sty27 I I I (ae sB) dC) ?_;rintro _ _ _ ⟨b103,rfl,rfl,rfl⟩;refine lW (aP (e:=encCell) 1 nc sty27 I I I I (by rw[hnc]; rfl) oM oM) ?_;rintro v104 _ _ ⟨rfl,rfl⟩;refine zd4 fun ⟨w0,hw0⟩=>?_;obtain ⟨q104,d104,rfl⟩:=ag (i:=1) hw0 rfl;clear hw0 w0;refine lU (fA bM I bt I)<|oZ (sK 2 bt I I I I I sB)<|nL<|bN<|tN<|rG<|yD I<|lM I<|nL<|dR (s':=rowA encCell 53 (.slice q104 (rcs++[nc]).length d104) (rcs++[nc])::pt b6 (.cells #[.slice q104 (rcs++[nc]).length d104] 29 (0,0))::pt b2 (.cells #[.slice none 0 0] 29 (0,0))::s) (.cons _<|.refl _)<|gA (g5,_,rcs++[nc],n+1) sB I I ⟨hle3.trans<|hle4.trans hle5,lN,?_⟩ lN;dsimp only;rw[jx hget];exact (hrcs.mono fun _ _=>ar.mono<|hle4.trans hle5).append ⟨(by rw[hnc]; exact⟨I,I,hsd⟩),trivial⟩
  ·have hnn:n=rs.length:=oM;have htk:(bI all).take n=bI all:=tL (by rw[cq]; omega);rw[htk] at hrcs;refine xI (tX<|tX<|bX<|tN<|sQ<|fS fun g4 hle4 hs4=>?_);have hov:ao g4 ov (bI all):=⟨rcs,hs4,hrcs.mono fun _ _=>ar.mono hle4⟩;refine rG<|lK (qV 0 aw ah I I I)<|lW (cL call55 I<|jN E g4 _ ov (bI all) hov hfit) ?_;rintro _ g5 _ ⟨rfl,hle5,u,rfl,hu⟩;obtain ⟨q9,d9,rfl⟩:=hu.form;exact oZ (sK 1 ah I I I I I sB)<|tZ<|rE<|ST.retCD 1 s (.inl I) results60 I aw ah I I uR ⟨I,hle.trans<|hle2.trans<|hle3.trans<|hle4.trans hle5,_,I,by simp only[e8,hsome]; exact hu⟩
def fZ (c:Cl)(r:Rc):Prop:=r.id=c.id∧r.dim=c.dim∧r.sv.n=c.sides.length
def qi (c:Cl)(r:Rc):Ent:=rowA encSide 55 (.slice r.sv.p r.sv.n r.sv.c) c.sides
def dM:List Cl→List Rc→Own
 | c::l,r::rs=>qi c r::dM l rs
 | _,_=>[]
theorem kf:∀ {l:List Cl} {rs:List Rc} (c:Cl) (r:Rc),l.length=rs.length→dM (l++[c]) (rs++[r])=dM l rs++[qi c r]
 | [],[],_,_,_=>rfl
 | x::l,y::rs,c,r,h=>by
  simp only[List.cons_append,dM];rw[kf c r (by simpa using h)]
 | [],_::_,_,_,h=>by simp at h
 | _::_,[],_,_,h=>by simp at h
theorem freezeO {E:World}{s:Own}{w:World}:∀ {l:List Cl} {rs:List Rc} {g:PH},aA fZ l rs→At E g (dM l rs++s) w→∃ g',Le g g'∧At E g' s w∧aA (ar g') l rs
 | [],[],g,_,h=>⟨g,zb9 g,h,trivial⟩
 | c::l,r::rs,g,h1,h=>by
  obtain ⟨g1,hl1,ha1,hs1⟩:=At.freezeRow h;obtain ⟨g2,hl2,ha2,hs2⟩:=freezeO h1.2 ha1;exact⟨g2,hl1.trans hl2,ha2,⟨h1.1.1,h1.1.2.1,za5 hs1 hl2⟩,hs2⟩
 | [],_::_,_,h1,_=>h1.elim
 | _::_,[],_,h1,_=>h1.elim
theorem AA (E:World)(g:PH)(s:Own)(v:Value)(l:List Cl)(hv:ao g v l)(hf:bo l) :
  Ctr Tryz.prog E 15 #[.agg #[v]] g s (fun r g' s'=>g=g'∧∃ u rs,r = .agg #[u]∧aA fZ l rs∧s'=rowA encCell 53 u rs::(dM l rs++s)):=by
 obtain ⟨rs,hrs,hall⟩:=hv;have hlen:=hall.length;have hfl:=hf.1;obtain ⟨p,c,rfl⟩:=hrs.form;refine zb2 (args:=[.agg #[.slice p rs.length c]]) func15 I ntmps15 (bE I)<|rZ (bW (bO I) fun b1=>?_);refine bW (aL zl5) fun b2=>tZ (rZ<|bW (aL zl5) fun b3=>?_);refine tZ<|sQ<|rZ<|aT I<|bK<|zb6 53 3<|oP (ι:=Nat×Value×List Rc) (fun i=>[(1,pp b1 0),(2,pp b2 0),(3,pp b3 0),(4,vi i.1)]) (fun _=>g)
  (fun i=>rowA encCell 53 i.2.1 i.2.2::pt b3 (.cells #[i.2.1] 29 (0,0))::pt b2 (.cells #[.slice none 0 0] 29 (0,0))::pt b1 (.cells #[.slice p rs.length c] 29 (0,0))::(dM (l.take i.1) i.2.2++s))
  (fun i=>i.1≤rs.length∧aA fZ (l.take i.1) i.2.2) (fun i=>rs.length - i.1) (0,.slice none 0 0,[])
  sB rfl rfl ⟨zf9 _,by simp[aA]⟩ ?_
 rintro ⟨k,ov,acc⟩ ⟨hk,hacc⟩;dsimp only at hk hacc ⊢;have hal:=hacc.length;refine sQ<|sW I<|lU (fA bM I bt I)<|lK (qL de I<|cO 3 I I)<|lU (eN aI I)<|yL I<|tZ<|iP I (fun hlt=>?_) (fun hlt=>?_)
 ·have hkr:k<rs.length:=oM;have hkl:k<l.length:=oM;have hb1:=hrs.based oM;have hcr:=hall.get (gE hkl)<|gE hkr;have hgx:rs[((k:Nat):Int).toNat]?=some rs[k]:=gE hkr;have htk:l.take (k+1)=l.take k++[l[k]]:=tS hkl;have hxl:=hf.2 _<|gM hkl;have hal2:(l.take k).length≤k:=by simp; omega
  generalize rs[k]=x at *;generalize l[k]=cx at *;obtain ⟨xi,xd,xp,xn,xc⟩:=x;have hxsl:SlA encSide g (.slice xp xn xc) cx.sides:=hcr.2.2;have hxn:xn=cx.sides.length:=zc2 hxsl;subst hxn;refine kP<|tN<|sQ<|bK<|rZ<|lU (fA bM I bt I)<|lK (qL de I<|cO 3 I I)<|lM I<|lU (iA aI au I I hb1 oM (show (k:Int)<((rs.length:Nat):Int) by omega)) ?_;refine lK (eA dn au I hrs.rd hgx) (bW (aL zl8) fun b5=>?_);refine oZ (sK 0 au I I I I I sB) ?_;refine tZ<|rZ<|lW (bS sty32 I I I (ae trivial) dC) ?_;rintro _ _ _ ⟨b18,rfl,rfl,rfl⟩;refine SL.emptyRow 55 2 (some ⟨b18,0,none⟩)<|lU (fA aq I aJ I)<|lK (qL aX I<|cO 2 I I)<|lW (SO.appendE (m:=cx.sides.length) 0 cx.sides.length (cx.sides.flatMap encSide.enc) sty32 I I I I I (Sl.rd hxsl) (encSide.length cx.sides) (encSide.ones cx.sides) oM (by simp) oM oM) ?_;rintro r21 _ _ ⟨rfl,rfl⟩;refine zd4 fun ⟨w0,hw0⟩=>?_;obtain ⟨q2,d2,rfl⟩:=ag (e:=encSide) (l:=cx.sides) (i:=0) hw0 rfl;clear hw0 w0;obtain ⟨nc,hnc⟩:∃ nc:Rc,nc=⟨xi,xd,q2,cx.sides.length,d2⟩:=⟨_,rfl⟩;refine lU (fA aq rfl aJ rfl)<|oZ (SO.store1 2 aJ rfl rfl rfl rfl (bE rfl)<|by rfl) ?_;refine tZ<|rG<|lU (fA bM I bt I)<|lK (qL de I<|cO 4 I I)<|lK (qV 2 dn au I I I)<|lW (bS sty27 I I I (ae sB) dC) ?_;rintro _ _ _ ⟨b26,rfl,rfl,rfl⟩;refine lW (aP (e:=encCell) 3 nc sty27 I I I I (by rw[hnc]; rfl) lN lN) ?_;rintro ov' _ _ ⟨rfl,rfl⟩;refine zd4 fun ⟨w0,hw0⟩=>?_;obtain ⟨q',d',rfl⟩:=ag (e:=encCell) (l:=acc++[nc]) (i:=3) hw0 rfl;clear hw0 w0;refine lU (fA bM I bt I)<|oZ (sK 4 bt I I I I I sB) ?_;refine nL<|bN<|tN<|rG<|lM I<|yD I<|lA I<|nL ?_;refine ST.to (fun w hw=>?_) (g':=g) (s':=rowA encCell 53 (.slice q' (acc++[nc]).length d') (acc++[nc])::pt b3 (.cells #[.slice q' (acc++[nc]).length d'] 29 (0,0))::pt b2 (.cells #[.slice none 0 0] 29 (0,0))::pt b1 (.cells #[.slice p rs.length c] 29 (0,0))::(dM (l.take<|k+1) (acc++[nc])++s)) ?_
  ·rw[htk,kf cx nc hal];have h1:=(hw.sublist (s':=qi cx nc::(rowA encCell 53 (.slice q' (acc++[nc]).length d') (acc++[nc])::pt b3 (.cells #[.slice q' (acc++[nc]).length d'] 29 (0,0))::pt b2 (.cells #[.slice none 0 0] 29 (0,0))::pt b1 (.cells #[.slice p rs.length c] 29 (0,0))::dM (l.take k) acc)++s) (by rw[hnc]; exact .cons_cons _<|.cons _<|.cons _<|.refl _));have h2:=h1.perm List.perm_middle.symm;simpa using h2
  exact gA (k+1,_,acc++[nc]) sB I I ⟨lN,by
   dsimp only;rw[htk];exact hacc.append ⟨(by rw[hnc]; exact⟨hcr.1,hcr.2.1,I⟩),trivial⟩⟩ lN
 ·have hkk:l.take k=l:=tL oM;rw[hkk] at hacc ⊢;refine xI<|tX<|tX<|bX<|tN<|sQ<|zd5 fun ⟨w0,hw0⟩=>?_;obtain ⟨q2,d2,rfl⟩:=ag (i:=0) hw0 rfl;clear hw0 w0;exact rG<|lK (qV 1 aw ah I I I)<|oZ (sK 2 ah I I I I I sB)<|tZ<|rE<|ST.retCD 2 _ (.inl I) results15 I aw ah I I (.cons_cons _<|.cons _<|.cons _<|.cons _<|.refl _) ⟨I,_,acc,I,hacc,I⟩
theorem oY:∀ {A:List Cl} {RA:List Rc} (x:Cl) (rx:Rc) (B:List Cl) (RB:List Rc),A.length=RA.length→dM (A++x::B) (RA++rx::RB)=dM A RA++qi x rx::dM B RB
 | [],[],_,_,_,_,_=>rfl
 | a::A,r::RA,x,rx,B,RB,h=>by simp only[List.cons_append,dM]; rw[oY x rx B RB (by simpa using h)]
 | [],_::_,_,_,_,_,h=>by simp at h
 | _::_,[],_,_,_,_,h=>by simp at h
theorem freezeBut {E:World}{s:Own}{w:World}{g:PH}{R:Ent}{A B:List Cl}{RA RB:List Rc}{x:Cl}{rx:Rc}(h1:aA fZ A RA)(h2:aA fZ B RB)(h:At E g (R::(dM (A++x::B) (RA++rx::RB)++s)) w) :
  ∃ g',Le g g'∧At E g' (R::qi x rx::s) w∧aA (ar g') A RA∧aA (ar g') B RB:=by
 rw[oY x rx B RB h1.length] at h;have hp:(R::(dM A RA++qi x rx::dM B RB++s)).Perm (dM A RA++(dM B RB++(R::qi x rx::s))):=by
  rw[zh2];refine List.perm_middle.symm.trans<|List.Perm.append_left _ ?_;refine (List.Perm.cons R (zk5 (l₁:=dM B RB)).symm).trans ?_;exact List.perm_middle.symm
 obtain ⟨g1,hl1,ha1,hs1⟩:=freezeO h1<|h.perm hp;obtain ⟨g2,hl2,ha2,hs2⟩:=freezeO h2 ha1;exact⟨g2,hl1.trans hl2,ha2,hs1.mono fun _ _=>ar.mono hl2,hs2⟩
theorem SC.freezeBut {P:Program}{N:Nat}{E:World}{Q:Exit→Act→World→Prop}{f:Fr}{g:PH}{s:Own}{o:Code}{R S:Ent}{A B:List Cl}{RA RB:List Rc}{x:Cl}{rx:Rc}(h1:aA fZ A RA)(h2:aA fZ B RB)
  (h:∀ g',Le g g'→aA (ar g') A RA→aA (ar g') B RB→SC P N E o Q f g' (R::qi x rx::S::s)):SC P N E o Q f g (S::R::(dM (A++x::B) (RA++rx::RB)++s)):=fun a w ha hw=>by
 have hp:(S::R::(dM (A++x::B) (RA++rx::RB)++s)).Perm (R::(dM (A++x::B) (RA++rx::RB)++(S::s))):=(zk4 _ _ _).trans<|List.Perm.cons R List.perm_middle.symm;obtain ⟨g',h3,h4,h5,h6⟩:=Go.Proofs.YtackilpikhkijaaGreatDoor.freezeBut h1 h2<|hw.perm hp;exact h g' h3 h5 h6 a w ha h4
theorem aA.split {α β:Type}{R:α→β→Prop}:∀ {l:List α} {rs:List β} {k:Nat},aA R l rs→k<l.length→∃ A x B RA rx RB,l=A++x::B∧rs=RA++rx::RB∧A.length=k∧RA.length=k∧aA R A RA∧R x rx∧aA R B RB
 | x::l,r::rs,0,h,_=>⟨[],x,l,[],r,rs,rfl,rfl,rfl,rfl,trivial,h.1,h.2⟩
 | x::l,r::rs,k+1,h,hk=>by
  obtain ⟨A,y,B,RA,ry,RB,rfl,rfl,h1,h2,h3,h4,h5⟩:=aA.split h.2 (by simpa using hk);exact⟨x::A,y,B,r::RA,ry,RB,I,I,by simp[h1],by simp[h2],⟨h.1,h3⟩,h4,h5⟩
 | [],[],_,_,hk=>by simp at hk
 | [],_::_,_,h,_=>h.elim
 | _::_,[],_,h,_=>h.elim
theorem tj {α:Type}{A B:List α}{x y:α}{k:Nat}(h:A.length=k):(A++x::B).set k y=A++y::B:=by subst h; simp
theorem wV {α:Type}{A B:List α}{x:α}{k:Nat}(h:A.length=k):(A++x::B)[k]?=some x:=by subst h; simp
theorem SC.freezeBut' {P:Program}{N:Nat}{E:World}{Q:Exit→Act→World→Prop}{f:Fr}{g:PH}{s:Own}{o:Code}{R S:Ent}{l A B:List Cl}{rs RA RB:List Rc}{x:Cl}{rx:Rc}(hl:l=A++x::B)(hr:rs=RA++rx::RB)(h1:aA fZ A RA)(h2:aA fZ B RB)
  (h:∀ g',Le g g'→aA (ar g') A RA→aA (ar g') B RB→SC P N E o Q f g' (R::qi x rx::S::s)):SC P N E o Q f g (S::R::(dM l rs++s)):=by
 subst hl;subst hr;exact SC.freezeBut h1 h2 h
theorem Bz (x y:Side)(w:World):(binOp .eql 55 (.agg (encSide.enc x).toArray)<|.agg (encSide.enc y).toArray).run Tryz.prog w = .ok (.bool<|decide (x=y)) w:=by
 have hu:Tryz.prog.underlying 55=some (.struct<|Tryz.prog.fieldsOf 55):=by kernel_rfl
 rw[run_eql_struct,run_equalIn_agg w 9999 55 _ _ hu stoodInHeld55]
 have hfs : ∃ f1 f2,(Tryz.prog.fieldsOf 55).toList = [f1,f2] ∧ f1.name ≠ "_" ∧ f2.name ≠ "_" ∧ f1.type = 3 ∧ f2.type = 3 ∧ f1.offset = 0 ∧ f2.offset = 1:=⟨_,_,rfl,by decide,by decide,rfl,rfl,rfl,rfl⟩
 obtain ⟨f1,f2,e,n1,n2,t1,t2,o1,o2⟩:=hfs;obtain ⟨a,b⟩:=x;obtain ⟨c,d⟩:=y;rw[e];have h1:=run_equalIn_int (P:=Tryz.prog) w 9998 3 .i64 .i64 a c uT3;have h2:=run_equalIn_int (P:=Tryz.prog) w 9998 3 .i64 .i64 b d uT3;simp only[Op.eqFields,n1,n2,t1,t2,o1,o2,encSide,part,ne_eq,not_false_eq_true,if_true,Sem.run_bind,iT3,zd2];simp[h1,h2];by_cases hac:a=c <;> by_cases hbd:b=d <;> simp[hac,hbd]
theorem SU.eqlSide {N:Nat}{f:Fr}{dst:Option Tmp}{ty:TypeId}{pos:String}{af:Array Edge}{gd:Option (Nat×Bool)}{x y:Operand}(a b:Side){U:TypeId}(hx:ev f x=some (.agg (encSide.enc a).toArray))(hy:ev f y=some (.agg (encSide.enc b).toArray)) :
  SU Tryz.prog N ⟨dst,.binOp .eql 55 x y U,ty,pos,af,gd⟩ f (.bool<|decide (a=b)):=fun ac w ha=>by
 have hg:=run_eqGuard_agg (P:=Tryz.prog) w .eql 55 x y (encSide.enc a).toArray (encSide.enc b).toArray eqGuardType55;simp only[execOp,ha.ev hx,ha.ev hy,Sem.run_bind,hg,zd2,Bz];rfl
def kE:List Cl:=[⟨1,0,[]⟩,⟨2,0,[]⟩,⟨3,0,[]⟩,⟨4,1,[⟨1,-1⟩,⟨2,1⟩]⟩,⟨5,1,[⟨1,-1⟩,⟨3,1⟩]⟩,⟨6,1,[⟨2,-1⟩,⟨3,1⟩]⟩,⟨7,2,[⟨4,1⟩,⟨5,-1⟩,⟨6,1⟩]⟩]
theorem zN {l:List Int}(h:l.Pairwise (· ≤ ·)):gp l=l:=by
 unfold gp;exact List.mergeSort_of_pairwise (h.imp fun h=>by simpa using h)
theorem zW:dH [0,1,2]=[0,1,2]:=by
 unfold dH;rw[zN dC];rfl
theorem zP:e8 [[0,1,2]]=kE:=by
 simp only[e8,bQ,zW];rfl
theorem Av {l:List Cl}(h:(l.all fun c=>decide (c.sides.length<100))=true)(h2:l.length<100):bo l:=by
 rw[zk3] at h;exact⟨oM,fun c hc=>by have:=h c hc; simp at this; omega⟩
theorem zI:bo kE:=Av dC dC
theorem aA.cons_left {α β:Type}{R:α→β→Prop}{a:α}{l:List α}{m:List β}(h:aA R (a::l) m):∃ b m',m=b::m'∧R a b∧aA R l m':=by
 cases m with
 | nil=>exact h.elim
 | cons b m=>exact⟨b,m,rfl,h.1,h.2⟩
theorem aA.nil_left {α β:Type}{R:α→β→Prop}{m:List β}(h:aA R ([]:List α) m):m=[]:=by
 cases m with
 | nil=>rfl
 | cons b m=>exact h.elim
theorem ep {g:PH}{c:Cl}{r:Rc}(h:ar g c r):∃ p d,r=⟨c.id,c.dim,⟨p,c.sides.length,d⟩⟩∧SlA encSide g (.slice p c.sides.length d) c.sides:=by
 obtain ⟨i,dm,p,n,d⟩:=r;obtain ⟨h1,h2,h3⟩:=h;dsimp only at h1 h2 h3;have h4:=(SlA.cap h3).1;subst h1 h2 h4;exact⟨p,d,I,h3⟩
theorem yK {α:Type}{key:α→Int}{l out:List α}{x:α}{k:Nat}(hs:Srt key out)(hst:aG key l out)(h1:∀ y∈out.take k,key y≤key x)(h2:∀ y∈out.drop k,key x<key y) :
  Srt key (out.take k++x::out.drop k)∧aG key (l++[x]) (out.take k++x::out.drop k):=by
 have hs':Srt key (out.take k++out.drop k):=by rw[zj5]; exact hs
 have h3:=Srt.append_iff.1 hs';refine⟨Srt.append_iff.2 ⟨h3.1,Srt.cons_iff.2 ⟨fun y hy=>Int.le_of_lt<|h2 y hy,h3.2.1⟩,fun y hy z hz=>?_⟩,?_⟩
 ·rcases zf4.1 hz with rfl | hz
  ·exact h1 y hy
  ·exact h3.2.2 y hy z hz
 ·have h4:aG key (l++[x]) (out++[x]):=hst.append<|aG.refl [x];have h5:aG key (out.drop k++[x]) ([x]++out.drop k):=aG.swap (fun y hy z hz=>by simp at hz; subst hz; have:=h2 y hy; omega);have h6:=aG.append (aG.refl (key:=key)<|out.take k) h5;have h7:out++[x]=out.take k++(out.drop k++[x]):=by rw[← zh2,zj5]
  rw[h7] at h4;simpa using h4.trans h6
theorem tz {α:Type}{key:α→Int}{out:List α}{c:Int}{k:Nat}(hs:Srt key out)(hk:k<out.length)(h:c<key out[k]):∀ y∈out.drop k,c<key y:=by
 rw[zg9 hk];intro y hy;have h1:Srt key (out.drop k):=List.Pairwise.sublist (List.drop_sublist k out) hs;rw[zg9 hk] at h1
 rcases zf4.1 hy with rfl | hy
 ·exact h
 ·have:=(Srt.cons_iff.1 h1).1 y hy;omega
theorem oT (E:World)(g:PH)(s:Own)(v:Value)(l:List Side)(hv:SlA encSide g v l)(hl:l.length<1099511627776) :
  Ctr Tryz.prog E 64 #[v] g s (fun r g' s'=>s=s'∧Le g g'∧SlA encSide g' r (sortBy Side.cell l)):=by
 obtain ⟨p,c,rfl⟩:=za4 hv;refine zb2 (args:=[.slice p l.length c]) func64 I ntmps64 (bE I)<|rZ<|aT I<|rZ<|aT I<|sQ<|rZ<|aT I<|bK<|oP (ι:=PH×Value×List Side×Nat) (fun i=>[(0,.slice p l.length c),(3,i.2.1),(4,vi i.2.2.2)]) (fun i=>i.1) (fun _=>s)
  (fun i=>Le g i.1∧SlA encSide i.1 i.2.1 i.2.2.1∧i.2.2.2≤l.length∧Srt Side.cell i.2.2.1∧aG Side.cell (l.take i.2.2.2) i.2.2.1) (fun i=>l.length - i.2.2.2)
  (g,.slice none 0 0,[],0) sB rfl rfl ⟨zb9 g,zc1 g _,zf9 _,Srt.nil,aG.refl _⟩ ?_
 rintro ⟨g1,ov,out,i⟩ ⟨hle,hov,hi,hsrt,hst⟩;dsimp only at hle hov hi hsrt hst ⊢;have hol:out.length=i:=by have:=hst.1; rw[ze7] at this; omega
 obtain ⟨q,d,rfl⟩:=za4 hov;have hqc:=(SlA.cap hov).2;refine sQ<|sW I<|lM I<|lU (eN aM I)<|yL I<|tZ<|iP I (fun hlt=>?_) (fun hlt=>?_)
 ·have hil:i<l.length:=oM;have hb1:=za6 (hv.mono hle) oM;have hgi:l[((i:Nat):Int).toNat]?=some l[i]:=gE hil;have htk:l.take (i+1)=l.take i++[l[i]]:=tS hil;generalize l[i]=x at *;refine kP<|tN<|sQ<|bK<|rZ<|aT I<|SC.cut (ι:=Nat) (fun k=>[(0,.slice p l.length c),(3,.slice q out.length d),(4,vi i),(5,vi k)]) (fun _=>g1) (fun _=>s) (fun k=>k≤out.length∧(∀ y∈out.take k,y.cell≤x.cell)∧∀ y∈out.drop k,x.cell<y.cell) ?_ ?_
  ·refine bK<|oP (ι:=Nat) (fun k=>[(0,.slice p l.length c),(3,.slice q out.length d),(4,vi i),(5,vi k)]) (fun _=>g1) (fun _=>s) (fun k=>k≤out.length∧∀ y∈out.take k,y.cell≤x.cell) (fun k=>out.length - k) 0
    sB rfl rfl ⟨zf9 _,by simp⟩ ?_
   rintro k ⟨hk,htake⟩;by_cases hin:(k:Int)<(out.length:Int)
   ·have hkl:k<out.length:=oM;have hb2:=za6 hov oM;have hd:decide ((k:Int)<(out.length:Int))=true:=zg2 hin;refine sQ<|sQ<|dW [] [(0,2),(1,2),(2,2),(3,2),(4,2),(5,2),(6,2),(7,2),(8,2),(9,1),(10,2),(11,2),(12,2),(13,2),(14,1),(15,2),(16,2)] ze6 kR<|yM I<|yM I<|pU I (eN aM I)<|pU I (SU.eq (lS I I)<|ze5 vb hd)<|yM I<|yJ I<|yJ I<|zb3 I (gT I I I dC) (iA aM aH I I hb2 oM sL) dC<|zb3 I (gT I I I dC) (fC bZ I zT3 I hb2) dC<|SP.gq I (gT I I I dC) (aZ (o:=0) iT3 I hov.rd (gE hkl) I) dC<|yJ I<|yJ I<|zb3 I (gT I I I dC) (iA aM aH I I hb1 oM sL) dC<|zb3 I (gT I I I dC) (fC bZ I zT3 I hb1) dC<|SP.gq I (gT I I I dC) (aZ (o:=0) iT3 I (hv.mono hle).rd hgi I) dC<|zb3 I (gT I I I dC) (SU.leq I I) dC<|pU I (wT I I)<|pN<|tN<|iP I (fun hc=>?_) (fun hc=>?_)
    ·refine kP (tN (bK (rG (lM I (yD I (lA I (nL (bN ?_))))))));exact gA (k+1) sB I I ⟨oM,by
      rw[tS hkl];intro y hy
      rcases zf6.1 hy with h | h
      ·exact htake y h
      ·simp at h; subst h; exact hc⟩ oM
    ·exact xI<|tX<|tX<|bX<|za9 k sB I I ⟨hk,htake,tz hsrt hkl oM⟩
   ·have hd:decide ((k:Int)<(out.length:Int))=false:=zg1 hin;exact sQ<|sQ<|dW [] [(0,2),(1,2),(2,2),(3,2),(4,2),(5,2),(6,2),(7,2),(8,2),(9,1),(10,2),(11,2),(12,2),(13,2),(14,1),(15,2),(16,2)] ze6 kR<|yM I<|yM I<|pU I (eN aM I)<|pU I (SU.eq (lS I I)<|ze5 vb hd)<|yM I<|yG I<|yG I<|yG I<|yG I<|yI I<|yG I<|yG I<|yG I<|yG I<|yI I<|yG I<|pU I (wF I I)<|pN<|tN<|za1 I<|xI<|tX<|tX<|bX<|za9 k sB I I ⟨hk,htake,by rw[List.drop_eq_nil_of_le oM]; simp⟩
  ·rintro k ⟨hk,hk1,hk2⟩;have hnew:=yK hsrt hst hk1 hk2;have hc1:=SlA.cut hov (l:=k) (m:=out.length) hk<|lR _;have hc2:=SlA.cut hov (l:=0) (m:=k) (zf9 _) hk;rw[tL (by rw[zf3]; exact lR _)] at hc1;rw[List.drop_zero,Nat.sub_zero] at hc2;refine sQ<|dW [8] [(0,2),(1,2),(2,2),(3,1),(5,2),(6,2),(7,2),(4,0),(8,0),(9,2)] ze6 kR<|yM I<|yM I<|pU I (iA aM aH I I hb1 oM sL)<|pK I (eA eK aH I (hv.mono hle).rd hgi)<|yM I<|yM I<|pU I (SU.sliceL aM aH I I oM oM)<|SP.o I (bS sty32 I I I (ae ⟨I,trivial⟩) dC) dC (.inr iR) ?_;rintro _ _ _ ⟨b36,rfl,rfl,rfl⟩;refine SP.to (fun w hw=>At.litRow (e:=encSide) (l:=[x]) (n:=0) hw I I dC) ?_;refine SP.o I (aQ (e:=encSide) 0 sty32 I I I hc1 (by rw[zf3]; (first | with_reducible rfl | ((try dsimp only); (try simp only[ze8,zf2,zc5,zf1,ze7,zf3])<;>omega))) (by rw[zf3]; (first | with_reducible rfl | ((try dsimp only); (try simp only[ze8,zf2,zc5,zf1,ze7,zf3])<;>omega)))) dC (.inl dC) ?_;rintro v40 _ _ ⟨rfl,rfl⟩;refine pU I (aS I) (pN<|tN<|fS fun g2 hle2 hs2=>?_);have hrest:SlA encSide g2 v40 ([x]++out.drop k):=hs2;refine rG<|lW (bS sty32 I I I (ae trivial) dC) ?_;rintro _ _ _ ⟨b41,rfl,rfl,rfl⟩;refine SL.emptyRow 55 2 (some ⟨b41,0,none⟩)<|lM I<|lM I<|lU (SU.sliceH aM aH I I oM oM)<|lW (aQ (e:=encSide) (l:=[]) 0 sty32 I I I (hc2.mono hle2) (by rw[ze7]; (first | with_reducible rfl | ((try dsimp only); (try simp only[ze8,zf2,zc5,zf1,ze7,zf3])<;>omega))) (by rw[ze7]; (first | with_reducible rfl | ((try dsimp only); (try simp only[ze8,zf2,zc5,zf1,ze7,zf3])<;>omega)))) ?_;rintro v45 _ _ ⟨rfl,rfl⟩;refine lM I<|lW (aQ (e:=encSide) 0 sty32 I I I hrest lN lN) ?_;rintro v47 _ _ ⟨rfl,rfl⟩;refine lA I (nL<|bN<|tN<|rG<|lM I<|yD I<|lA I<|nL<|fT fun g3 hle3 hs3=>?_);refine dR (s':=s) uR ?_;have hres:SlA encSide g3 v47 (out.take k++x::out.drop k):=by have h:SlA encSide g3 v47 ([]++out.take k++([x]++out.drop k)):=hs3; simpa using h
   exact gA (g3,v47,out.take k++x::out.drop k,i+1) sB I I ⟨hle.trans<|hle2.trans hle3,hres,lN,hnew.1,by dsimp only; rw[htk]; exact hnew.2⟩ lN
 ·have hii:l.take i=l:=tL oM;rw[hii] at hst;exact xI<|tX<|tX<|bX<|tN<|sW I<|aT I<|rE<|za8 (.inl I) results64 I ⟨I,hle,by rw[← cR hsrt hst]; exact hov⟩
theorem aA.drop {α β:Type}{R:α→β→Prop}:∀ {l:List α} {m:List β} (k:Nat),aA R l m→aA R (l.drop k) (m.drop k)
 | _,_,0,h=>by simpa using h
 | [],[],k+1,_=>trivial
 | _::_,_::_,k+1,h=>by simpa using aA.drop k h.2
 | [],_::_,_+1,h=>h.elim
 | _::_,[],_+1,h=>h.elim
theorem aA.take {α β:Type}{R:α→β→Prop}:∀ {l:List α} {m:List β} (k:Nat),aA R l m→aA R (l.take k) (m.take k)
 | _,_,0,_=>by simp; trivial
 | [],[],k+1,_=>trivial
 | _::_,_::_,k+1,h=>⟨h.1,aA.take k h.2⟩
 | [],_::_,_+1,h=>h.elim
 | _::_,[],_+1,h=>h.elim
theorem ao.cut {g:PH}{p:Option Addr}{c a b n:Nat}{l:List Cl}(h:ao g (.slice p n c) l)(ha:a≤b)(hb:b≤l.length):ao g (sliced p a b c 3) ((l.drop a).take<|b - a):=by
 obtain ⟨rs,h1,h2⟩:=h;have hl:=h2.length;have hn:=(SlA.cap h1).1;subst hn;exact⟨_,SlA.cut h1 ha oM,aA.take (b - a)<|aA.drop a h2⟩
theorem ao.cap {g:PH}{p:Option Addr}{c n:Nat}{l:List Cl}(h:ao g (.slice p n c) l):n=l.length∧l.length≤c:=by
 obtain ⟨rs,h1,h2⟩:=h;have:=SlA.cap h1;rw[h2.length];exact⟨this.1,this.2⟩
theorem lH (l:List Cl):aa l=sortBy Cl.id (l.map fc):=by
 unfold aa;rw[lB];rfl
theorem gy (l:List Cl):Srt Cl.id (aa l):=by rw[lH]; exact cD _
theorem nY (l:List Cl):aG Cl.id (l.map fc) (aa l):=by rw[lH]; exact dV _
theorem Tryz.buildF53 (x y:Int)(v:Value)(hv:v.cells = #[v])(w:World):(Instr.build 53 #[(0,vi x),(1,vi y),(2,v)]).run Tryz.prog w = .ok (.agg #[vi x,vi y,v]) w:=by
 have hz:(Value.agg #[vi 0,vi 0,Value.slice none 0 0]).cells = #[vi 0,vi 0,.slice none 0 0]:=rfl;have h1:(vi x).cells = #[vi x]:=rfl;have h2:(vi y).cells = #[vi y]:=rfl;simp[Instr.build,Instr.fill,hv,hz,h1,h2]
theorem kN (n:Nat)(h:n<4611686018427387904):IntKind.i64.wrap (((n:Nat):Int).tdiv 2)=((n / 2:Nat):Int):=by
 have h1:((n:Nat):Int).tdiv 2=((n / 2:Nat):Int):=by
  rw[Int.tdiv_eq_ediv_of_nonneg oM]; simp
 rw[h1,zl3 _ oM]
theorem jA (E:World):∀ (n:Nat) (g:PH) (s:Own) (v:Value) (l:List Cl),l.length≤n→ao g v l→bo l →
  Ctr Tryz.prog E 96 #[v] g s (fun r g' s'=>s=s'∧Le g g'∧ao g' r (aa l)):=by
 intro n;induction n with
 | zero =>
  intro g s v l hn hv hf;have hl0:l=[]:=zf7 oM;subst hl0;obtain ⟨p,c,rfl⟩:=hv.form;refine zb2 (args:=[.slice p 0 c]) func96 I ntmps96 (bE I)<|rZ<|aT I<|sQ<|sW I<|lU (eN aI I)<|yE I<|tZ<|iP I (fun h0=>?_) (fun h0=>?_)
  ·exact rZ<|aT I<|rE<|tR<|za8 (.inl I) results96 I ⟨I,zb9 g,[],zc1 g _,trivial⟩
  ·exact absurd I h0
 | succ n ih =>
  intro g s v l hn hv hf;obtain ⟨rs,hrs,hall⟩:=hv;have hv:ao g v l:=⟨rs,hrs,hall⟩;have hlen:=hall.length;have hfl:=hf.1;obtain ⟨p,c,rfl⟩:=hv.form;have hcap:=(ao.cap hv).2;refine zb2 (args:=[.slice p l.length c]) func96 I ntmps96 (bE I)<|rZ<|aT I<|sQ<|sW I<|lU (eN aI I)<|yE I<|tZ<|iP I (fun h0=>?_) (fun h0=>?_)
  ·have hl0:l=[]:=zf7 oM;subst hl0;exact rZ<|aT I<|rE<|tR<|za8 (.inl I) results96 I ⟨I,zb9 g,[],zc1 g _,trivial⟩
  ·refine kP<|tN<|sQ<|sW I<|lU (eN aI I)<|yE I<|tZ<|iP I (fun h1=>?_) (fun h1=>?_)
   ·obtain ⟨x,hx⟩:∃ x,l=[x]:=by
     match l,h1 with
     | [x],_=>exact⟨x,rfl⟩
     | [],h=>simp at h
     | _::_::_,h=>simp at h; omega
    subst hx;obtain ⟨r,rs',rfl,hr,hn'⟩:=aA.cons_left hall;have hrs0:=aA.nil_left hn';subst hrs0;obtain ⟨rp,rd,rfl,hsd⟩:=ep hr;have hb1:=hrs.based (by simp);have hxl:=hf.2 x (by simp);refine sQ<|dW [] [(0,2),(1,2),(2,2),(3,1),(4,2),(5,2),(6,2),(7,1),(8,2),(9,2),(10,2),(11,1),(12,0),(13,2),(14,0),(15,2)] ze6 kR<|yM I<|pU I (iA aI au I I hb1 dC (show (0:Int)<((1:Nat):Int) by decide)) ?_;refine pU I (fC aq I zT3 I hb1)<|pK I (aZ (e:=encCell) (o:=0) (j:=0) (u:=vi x.id) iT3 I hrs.rd I I)<|yM I<|pU I (iA aI au I I hb1 dC (show (0:Int)<((1:Nat):Int) by decide)) ?_;refine pU I (fC aq I zT3 I hb1)<|pK I (aZ (e:=encCell) (o:=1) (j:=0) (u:=vi x.dim) iT3 I hrs.rd I I)<|yM I<|pU I (iA aI au I I hb1 dC (show (0:Int)<((1:Nat):Int) by decide)) ?_;refine pU I (fC aq I aJ I hb1)<|pK I (aZ (e:=encCell) (o:=2) (j:=0) (u:=.slice rp x.sides.length rd) aX I hrs.rd I I)<|SP.o I (cL call64 I<|oT E g _ _ x.sides hsd hxl) dC (.inr iR) ?_;rintro v24 g1 _ ⟨rfl,hle1,hs1⟩;obtain ⟨q,d,rfl⟩:=za4 hs1;refine pU I (za3 I<|buildF53 _ _ _ I)<|SP.o I (bS sty27 I I I (ae sB) dC) dC (.inr iR) ?_;rintro _ _ _ ⟨b26,rfl,rfl,rfl⟩;refine pU I (aS I) (pN<|tN<|rE<|tR<|ST.freeze fun g2 hle2 hb=>?_);exact za8 (.inl I) results96 I ⟨I,hle1.trans hle2,[⟨x.id,x.dim,⟨q,(sortBy Side.cell x.sides).length,d⟩⟩],SlA.lit hb I I,⟨⟨I,I,hs1.mono hle2⟩,trivial⟩⟩
   ·have hm1:l.length / 2<l.length:=oM;have hm0:0<l.length / 2:=oM;have hc1:=ao.cut hv (a:=0) (b:=l.length / 2) oM oM;have hc2:=ao.cut hv (a:=l.length / 2) (b:=l.length) oM oM;rw[List.drop_zero,Nat.sub_zero] at hc1;rw[tL (by rw[zf3]; exact lR _)] at hc2;have hf1:bo (l.take<|l.length / 2):=⟨by rw[ze7]; omega,fun c hc=>hf.2 c<|List.mem_of_mem_take hc⟩;have hf2:bo (l.drop<|l.length / 2):=⟨by rw[zf3]; omega,fun c hc=>hf.2 c<|List.mem_of_mem_drop hc⟩;have hca:=cg<|l.take<|l.length / 2;have hcb:=cg<|l.drop<|l.length / 2;have hsa:=gy<|l.take<|l.length / 2;have hsb:=gy<|l.drop<|l.length / 2;have hst:aG Cl.id (l.map fc) (aa (l.take<|l.length / 2)++aa (l.drop<|l.length / 2)):=by
     have h2:=(nY<|l.take<|l.length / 2).append<|nY<|l.drop<|l.length / 2;rwa [← zg8,zj5] at h2
    rw[ze7] at hca;rw[zf3] at hcb;refine kP<|tN<|sW I<|lM I<|lU (eN aI I)<|lU (SU.eq (v':=vi ((l.length / 2:Nat):Int)) (SU.quo I I dC)<|ze5 vi<|kN _ oM)<|lU (SU.sliceH aI au I I oM oM)<|lW (cL call96 I<|ih g _ _ (l.take<|l.length / 2) (by rw[ze7]; omega) hc1 hf1) ?_;rintro va0 g1 _ ⟨rfl,hle1,hA⟩;refine aT I<|sW I<|lM I<|lU (eN aI I)<|lU (SU.eq (v':=vi ((l.length / 2:Nat):Int)) (SU.quo I I dC)<|ze5 vi<|kN _ oM)<|lU (SU.sliceL aI au I I oM oM)<|lW (cL call96 I<|ih g1 _ _ (l.drop<|l.length / 2) (by rw[zf3]; omega) (hc2.mono hle1) hf2) ?_;rintro vb0 g2 _ ⟨rfl,hle2,hB⟩;refine aT I<|rZ<|aT I ?_;generalize hA0:aa (l.take<|l.length / 2)=A0 at *;generalize hB0:aa (l.drop<|l.length / 2)=B0 at *;refine zb6 53 3<|SC.cut (ι:=Value×Value×Value×List Cl×List Cl×List Cl×List Rc) (fun i=>[(3,i.1),(4,i.2.1),(5,i.2.2.1)]) (fun _=>g2) (fun i=>rowA encCell 53 i.2.2.1 i.2.2.2.2.2.2::s)
     (fun i=>ao g2 i.1 i.2.2.2.1∧ao g2 i.2.1 i.2.2.2.2.1∧aA (ar g2) i.2.2.2.2.2.1 i.2.2.2.2.2.2∧i.2.2.2.2.2.1++i.2.2.2.1++i.2.2.2.2.1=aa l) ?_ ?_
    ·refine bK<|oP (ι:=Value×Value×Value×List Cl×List Cl×List Cl×List Cl×List Cl×List Rc) (fun i=>[(3,i.1),(4,i.2.1),(5,i.2.2.1)]) (fun _=>g2) (fun i=>rowA encCell 53 i.2.2.1 i.2.2.2.2.2.2.2.2::s)
      (fun i=>(ao g2 i.1 i.2.2.2.2.1∧ao g2 i.2.1 i.2.2.2.2.2.2.1)∧aA (ar g2) i.2.2.2.2.2.2.2.1 i.2.2.2.2.2.2.2.2∧A0=i.2.2.2.1++i.2.2.2.2.1∧B0=i.2.2.2.2.2.1++i.2.2.2.2.2.2.1∧Srt Cl.id i.2.2.2.2.2.2.2.1∧aG Cl.id (i.2.2.2.1++i.2.2.2.2.2.1) i.2.2.2.2.2.2.2.1 ∧
       (∀ y∈i.2.2.2.2.2.2.2.1,∀ z∈i.2.2.2.2.1++i.2.2.2.2.2.2.1,y.id≤z.id)∧(∀ y∈i.2.2.2.2.2.1,∀ z∈i.2.2.2.2.1,y.id<z.id)) (fun i=>i.2.2.2.2.1.length+i.2.2.2.2.2.2.1.length)
      (va0,vb0,.slice none 0 0,[],A0,[],B0,[],[]) sB rfl rfl ⟨⟨hA.mono hle2,hB⟩,trivial,rfl,rfl,Srt.nil,aG.refl _,by simp,by simp⟩ ?_
     rintro ⟨va,vb1,vo,A1,A2,B1,B2,out,ro⟩ ⟨⟨hva,hvb⟩,hro,hA',hB',hso,hto,hout,hlt⟩;dsimp only at hva hvb hro hA' hB' hso hto hout hlt ⊢;have hol:out.length=A1.length+B1.length:=by have:=hto.1; simpa using this
     have hrol:=hro.length;have hAl:A0.length=A1.length+A2.length:=by rw[hA']; simp
     have hBl:B0.length=B1.length+B2.length:=by rw[hB']; simp
     rw[hA'] at hsa;rw[hB'] at hsb;have hsa2:=(Srt.append_iff.1 hsa).2.1;have hsb2:=(Srt.append_iff.1 hsb).2.1;obtain ⟨pa,ca,rfl⟩:=hva.form;obtain ⟨pb,cb,rfl⟩:=hvb.form;have hcapa:=(ao.cap hva).2;have hcapb:=(ao.cap hvb).2;have hfin:A2=[]∨B2=[]→out++A2++B2=aa l:=fun h=>by
      rw[lH];refine cR ?_ ?_
      ·rw[zh2];refine Srt.append_iff.2 ⟨hso,?_,hout⟩
       rcases h with rfl | rfl
       ·simpa using hsb2
       ·simpa using hsa2
      ·refine hst.trans ?_;rw[hA',hB']
       rcases h with rfl | rfl
       ·have h2:=hto.append<|aG.refl (key:=Cl.id) B2;simpa using h2
       ·have h3:aG Cl.id (A2++B1) (B1++A2):=aG.swap (fun x hx y hy=>by have:=hlt y hy x hx; omega);have h4:=(aG.refl (key:=Cl.id) A1).append h3;have h5:=hto.append<|aG.refl (key:=Cl.id) A2;simp only[zc7,zh2] at h4 h5 ⊢;exact h4.trans h5
     cases A2 with
     | nil =>
      exact sQ<|sW I<|lU (eN aI I)<|lU (SU.eq (v':=vb false) (gR I I) I)<|lM I<|yA I<|yA I<|yA I<|yF I<|tZ<|za1 I<|xI<|tX<|tX<|bX<|za9 (_,_,vo,[],B2,out,ro) sB I I ⟨hva,hvb,hro,hfin<|.inl I⟩
     | cons x A3 =>
      have hpa:(0:Int)<((x::A3).length:Int):=by simp
      cases B2 with
      | nil =>
       exact sQ<|sW I<|lU (eN aI I)<|lU (SU.eq (v':=vb true) (gR I I)<|ze5 vb<|zg2 hpa)<|lM I<|yC I<|lY I I I (eN aI I)<|lY I I I (SU.eq (v':=vb false) (gR I I) I)<|yP I<|tZ<|za1 I<|xI<|tX<|tX<|bX<|za9 (_,_,vo,x::A3,[],out,ro) sB I I ⟨hva,hvb,hro,hfin<|.inr I⟩
      | cons y B3 =>
       have hpb:(0:Int)<((y::B3).length:Int):=by simp
       obtain ⟨ra,hra,halla⟩:=hva;obtain ⟨rb,hrb,hallb⟩:=hvb;have hva:ao g2 _ (x::A3):=⟨ra,hra,halla⟩;have hvb:ao g2 _ (y::B3):=⟨rb,hrb,hallb⟩;have hna:=ao.cut hva (a:=1) (b:=(x::A3).length) (by simp)<|lR _;have hnb:=ao.cut hvb (a:=1) (b:=(y::B3).length) (by simp)<|lR _;have hda:((x::A3).drop 1).take ((x::A3).length - 1)=A3:=by simp
       have hdb:((y::B3).drop 1).take ((y::B3).length - 1)=B3:=by simp
       rw[hda] at hna;rw[hdb] at hnb;obtain ⟨x',ra',rfl,hx,_⟩:=aA.cons_left halla;obtain ⟨y',rb',rfl,hy,_⟩:=aA.cons_left hallb;have hba:=hra.based (by simp);have hbb:=hrb.based (by simp);have hlen3:A3.length+1+(B3.length+1)+out.length≤l.length:=by simp only[zf2] at hAl hBl; omega
       refine sQ<|sW I<|lU (eN aI I)<|lU (SU.eq (v':=vb true) (gR I I)<|ze5 vb<|zg2 hpa)<|lM I<|yC I<|lY I I I (eN aI I)<|lY I I I (SU.eq (v':=vb true) (gR I I)<|ze5 vb<|zg2 hpb)<|yP I<|tZ<|za2 I<|kP<|tN<|bK<|sQ<|dW [] [(0,2),(1,2),(2,2),(3,1),(4,2),(5,2),(6,2),(7,1),(8,2)] ze6 kR<|yM I<|pU I (iA aI au I I hbb dC hpb)<|pU I (fC aq I zT3 I hbb)<|pK I (aZ (e:=encCell) (o:=0) (j:=0) (u:=vi y'.id) iT3 I hrb.rd I I)<|yM I<|pU I (iA aI au I I hba dC hpa)<|pU I (fC aq I zT3 I hba)<|pK I (aZ (e:=encCell) (o:=0) (j:=0) (u:=vi x'.id) iT3 I hra.rd I I)<|pU I (lS I I)<|pN<|tN<|iP I (fun hc=>?_) (fun hc=>?_)
       ·refine sW I<|lM I<|lU (iA aI au I I hbb dC hpb)<|lK (eA (e:=encCell) (a:=y') (j:=0) dn au I hrb.rd I)<|lW (bS sty27 I I I (ae sB) dC) ?_;rintro _ _ _ ⟨b60,rfl,rfl,rfl⟩;refine lW (aP (e:=encCell) 0 y' sty27 I I I I I oM oM) ?_;rintro v61 _ _ ⟨rfl,rfl⟩;refine aT I<|rG<|lM I<|lU (SU.sliceL aI au I I dC (by simp only[zf2]; omega)) ?_;refine lA I<|nL<|bN ?_;rw[hx.1,hy.1] at hc;refine gA (_,_,v61,A1,x::A3,B1++[y],B3,out++[y],ro++[y']) sB I I ⟨⟨hva,hnb⟩,hro.append ⟨hy,trivial⟩,hA',by rw[hB']; simp,?_,?_,?_,?_⟩ lN
        ·refine Srt.append_iff.2 ⟨hso,Srt.one y,fun a ha b hb=>?_⟩;simp at hb; subst hb; exact hout a ha b (by simp)
        ·have h2:=hto.append<|aG.refl (key:=Cl.id) [y];simpa using h2
        ·intro a ha b hb;dsimp only at ha hb
         rcases zf6.1 ha with ha | ha
         ·refine hout a ha b ?_;simp at hb ⊢
          rcases hb with h | h | h
          ·exact .inl h
          ·exact .inr<|.inl h
          ·exact .inr<|.inr<|.inr h
         ·simp at ha; subst ha
          rcases zf6.1 hb with hb | hb
          ·rcases zf4.1 hb with rfl | hb
           ·omega
           ·have:=(Srt.cons_iff.1 hsa2).1 b hb; omega
          ·exact (Srt.cons_iff.1 hsb2).1 b hb
        ·intro a ha b hb;dsimp only at ha hb
         rcases zf6.1 ha with ha | ha
         ·exact hlt a ha b hb
         ·simp at ha; subst ha
          rcases zf4.1 hb with rfl | hb
          ·omega
          ·have:=(Srt.cons_iff.1 hsa2).1 b hb; omega
       ·refine sW I<|lM I<|lU (iA aI au I I hba dC hpa)<|lK (eA (e:=encCell) (a:=x') (j:=0) dn au I hra.rd I)<|lW (bS sty27 I I I (ae sB) dC) ?_;rintro _ _ _ ⟨b68,rfl,rfl,rfl⟩;refine lW (aP (e:=encCell) 0 x' sty27 I I I I I oM oM) ?_;rintro v69 _ _ ⟨rfl,rfl⟩;refine aT I<|rG<|lM I<|lU (SU.sliceL aI au I I dC (by simp only[zf2]; omega)) ?_;refine lA I<|nL<|bN ?_;rw[hx.1,hy.1] at hc;refine gA (_,_,v69,A1++[x],A3,B1,y::B3,out++[x],ro++[x']) sB I I ⟨⟨hna,hvb⟩,hro.append ⟨hx,trivial⟩,by rw[hA']; simp,hB',?_,?_,?_,?_⟩ lN
        ·refine Srt.append_iff.2 ⟨hso,Srt.one x,fun a ha b hb=>?_⟩;simp at hb; subst hb; exact hout a ha b (by simp)
        ·have h2:aG Cl.id ([x]++B1) (B1++[x]):=aG.swap (fun a ha b hb=>by simp at ha; subst ha; have:=hlt b hb a (by simp); omega);have h3:=(aG.refl (key:=Cl.id) A1).append h2;have h4:=hto.append<|aG.refl (key:=Cl.id) [x];dsimp only;simp only[zh2] at h3 h4 ⊢;exact h3.trans h4
        ·intro a ha b hb;dsimp only at ha hb
         rcases zf6.1 ha with ha | ha
         ·refine hout a ha b ?_;simp at hb ⊢
          rcases hb with h | h | h
          ·exact .inr<|.inl h
          ·exact .inr<|.inr<|.inl h
          ·exact .inr<|.inr<|.inr h
         ·simp at ha; subst ha
          rcases zf6.1 hb with hb | hb
          ·exact (Srt.cons_iff.1 hsa2).1 b hb
          ·rcases zf4.1 hb with rfl | hb
           ·omega
           ·have:=(Srt.cons_iff.1 hsb2).1 b hb; omega
        ·intro a ha b hb;exact hlt a ha b (by simp[hb])
    ·rintro ⟨va,vb1,vo,A2,B2,out,ro⟩ ⟨hva,hvb,hro,hres⟩;dsimp only at hva hvb hro hres ⊢;obtain ⟨ra,hra,halla⟩:=hva;obtain ⟨rb,hrb,hallb⟩:=hvb;have hl1:=ze5 List.length hres;rw[cg] at hl1;simp only[ze8] at hl1;have e1:=hro.length;have e2:=halla.length;have e3:=hallb.length;refine sW I<|lM I<|lW (aQ (e:=encCell) 0 sty27 I I I hra oM oM) ?_;rintro v74 _ _ ⟨rfl,rfl⟩;refine lM I<|lW (aQ (e:=encCell) 0 sty27 I I I hrb lN lN) ?_;rintro v76 _ _ ⟨rfl,rfl⟩;refine aT I (rE<|fT fun g3 hle3 hs3=>?_);exact za8 (.inl I) results96 I ⟨I,hle1.trans<|hle2.trans hle3,ro++ra++rb,hs3,by rw[← hres]; exact (((hro.append halla).append hallb).mono fun _ _=>ar.mono hle3)⟩
theorem cC (E:World)(g:PH)(s:Own)(v:Value)(l:List Cl)(hv:ao g v l)(hf:bo l) :
  Ctr Tryz.prog E 59 #[.agg #[v]] g s (fun r g' s'=>s=s'∧Le g g'∧∃ u,r = .agg #[u]∧ao g' u (aa l)):=by
 obtain ⟨p,c,rfl⟩:=hv.form;refine zb2 (args:=[.agg #[.slice p l.length c]]) func59 I ntmps59 (bE I)<|rZ (bW (bO I) fun b1=>?_);refine bW (aL zl5) fun b2=>tZ<|rZ<|lU (fA bM I bt I)<|lK (qL de I<|cO 1 I I)<|lW (cL call96 I<|jA E l.length g _ _ l (lR _) hv hf) ?_;rintro v5 g1 _ ⟨rfl,hle,h5⟩;obtain ⟨q,d,rfl⟩:=h5.form;exact lU (za3 I<|build29 _ I)<|oZ (sK 0 ah I I I I I sB)<|tZ<|rE<|ST.retCD 0 s (.inl I) results59 I aw ah I I uR ⟨I,hle,_,I,h5⟩
theorem qy (E:World)(g:PH)(s:Own)(a b:Cl)(ra rb:Rc)(ha:ar g a ra)(hb:ar g b rb)(hl:a.sides.length<1099511627776) :
  Ctr Tryz.prog E 51 #[rcv ra,rcv rb] g s (fun r g' s'=>r=vb (decide (a=b))∧g=g'∧s=s'):=by
 obtain ⟨p,c,rfl,hsa⟩:=ep ha;obtain ⟨q,d,rfl,hsb⟩:=ep hb;have f1:a.id≠b.id→(decide (a.id≠b.id)||decide (a.dim≠b.dim)||decide ((a.sides.length:Int)≠b.sides.length))=true:=fun h=>by simp[h]
 have f2:¬ a.id≠b.id→a.dim≠b.dim→(decide (a.id≠b.id)||decide (a.dim≠b.dim)||decide ((a.sides.length:Int)≠b.sides.length))=true:=fun h h2=>by simp[h,h2]
 have f3:¬ a.id≠b.id→¬ a.dim≠b.dim→(decide (a.id≠b.id)||decide (a.dim≠b.dim)||decide ((a.sides.length:Int)≠b.sides.length))=decide ((a.sides.length:Int)≠b.sides.length):=fun h h2=>by simp[h,h2]
 refine zb2 (args:=[.agg #[vi a.id,vi a.dim,.slice p a.sides.length c],.agg #[vi b.id,vi b.dim,.slice q b.sides.length d]]) func51 I ntmps51 (bE I)<|rZ (bW (bO I) fun b2=>?_);refine bW (bO I) fun b3=>aT I<|sQ ?_;refine SC.to (g':=g) (s':=pt b3 (.cells #[vi b.id,vi b.dim,.slice q b.sides.length d] 53 (0,0))::pt b2 (.cells #[vi a.id,vi a.dim,.slice p a.sides.length c] 53 (0,0))::s) (fun w hw=>hw) ?_;refine SC.cutB 26 ((decide (a.id≠b.id)||decide (a.dim≠b.dim)||decide ((a.sides.length:Int)≠b.sides.length))) ?_ ?_
 ·refine rG<|lU (fA aq I zT3 I)<|lK (qL (v:=vi a.id) iT3 I<|cO 1 I I)<|lU (fA aq I zT3 I)<|lK (qL (v:=vi b.id) iT3 I<|cO 0 I I)<|lU (nQ I I)<|lM I<|sP ?_ ?_
  ·intro h11;exact yA I<|yA I<|yA I<|yA I<|yA I<|yP I<|lM I<|yA I<|yA I<|yA I<|yA I<|yA I<|yA I<|yA I<|yP I<|nL<|zb1 (by (rw[f1 h11]; rfl)) mI
  ·intro h11;refine lY I I I (fA aq I zT3 I)<|SL.gq (gT I I I dC) (qL (v:=vi a.dim) iT3 I<|cO 1 I I) dC<|lY I I I (fA aq I zT3 I)<|SL.gq (gT I I I dC) (qL (v:=vi b.dim) iT3 I<|cO 0 I I) dC<|lY I I I (nQ I I)<|yF I<|lM I<|sP ?_ ?_
   ·intro h18;exact yA I<|yA I<|yA I<|yA I<|yA I<|yA I<|yA I<|yP I<|nL<|zb1 (by (rw[f2 h11 h18]; rfl)) mI
   ·intro h18;exact lY I I I (fA aq I aJ I)<|SL.gq (gT I I I dC) (qL (v:=.slice p a.sides.length c) aX I<|cO 1 I I) dC<|lY I I I (eN aM I)<|lY I I I (fA aq I aJ I)<|SL.gq (gT I I I dC) (qL (v:=.slice q b.sides.length d) aX I<|cO 0 I I) dC<|lY I I I (eN aM I)<|lY I I I (nQ I I)<|yF I<|nL<|zb1 (by (rw[f3 h11 h18]; rfl)) mI
 refine iQ I (fun hbad=>?_) (fun hbad=>?_)
 ·exact rZ<|aT I<|rE<|tR<|dR (s':=s) uR<|za8 (.inl I) results51 I ⟨ze5 vb<|Eq.symm (zg1 fun e=>by rw[e] at hbad; simp at hbad),I,I⟩
 ·have hid:a.id=b.id:=by simp at hbad; exact hbad.1.1
  have hdim:a.dim=b.dim:=by simp at hbad; exact hbad.1.2
  have hln:a.sides.length=b.sides.length:=by simp at hbad; omega
  refine kP<|tN<|sQ<|rZ<|aT I<|bK<|oP (ι:=Nat) (fun k=>[(2,pp b2 0),(3,pp b3 0),(5,vi k)]) (fun _=>g) (fun _=>pt b3 (.cells #[vi b.id,vi b.dim,.slice q b.sides.length d] 53 (0,0))::pt b2 (.cells #[vi a.id,vi a.dim,.slice p a.sides.length c] 53 (0,0))::s) (fun k=>k≤a.sides.length∧a.sides.take k=b.sides.take k) (fun k=>a.sides.length - k) 0
   sB rfl rfl ⟨zf9 _,by simp⟩ ?_
  rintro k ⟨hk,heq⟩;refine sQ<|sW I<|lU (fA aq I aJ I)<|lK (qL (v:=.slice p a.sides.length c) aX I<|cO 1 I I)<|lU (eN aM I)<|yL I<|tZ<|iP I (fun hlt=>?_) (fun hlt=>?_)
  ·have hka:k<a.sides.length:=oM;have hkb:k<b.sides.length:=oM;have hb1:=hsa.based oM;have hb2:=hsb.based oM;refine kP<|tN<|sQ<|bK<|sQ<|dW [] [(0,2),(1,1),(2,2),(3,2),(4,1),(5,2),(6,1),(7,2),(8,2),(9,1),(10,2)] ze6 kR<|pU I (fA aq I aJ I)<|pK I (qL (v:=.slice p a.sides.length c) aX I<|cO 1 I I)<|yM I<|pU I (iA aM aH I I hb1 oM sL)<|pQ I (eA eK aH I hsa.rd<|gE hka) dC<|pU I (fA aq I aJ I)<|pK I (qL (v:=.slice q b.sides.length d) aX I<|cO 0 I I)<|yM I<|pU I (iA aM aH I I hb2 oM sL)<|pQ I (eA eK aH I hsb.rd<|gE hkb) dC<|pU I (SU.neqSide I I)<|pN<|tN<|iP I (fun hne=>?_) (fun hne=>?_)
   ·exact rZ<|aT I<|rE<|bR<|tR<|tR<|bR<|tR<|dR (s':=s) uR<|za8 (.inl I) results51 I ⟨ze5 vb (Eq.symm<|zg1 fun e=>hne<|by simp[e]),I,I⟩
   ·exact kP<|bN<|tN<|rG<|lM I<|yD I<|lA I<|nL<|gA (k+1) sB I I ⟨oM,ig hka hkb heq<|zh3 hne⟩ oM
  ·have hkk:k=a.sides.length:=oM;subst hkk;have hs:=iY hln heq;exact xI<|tX<|tX<|bX<|tN<|rZ<|aT I<|rE<|dR (s':=s) uR<|za8 (.inl I) results51 I ⟨ze5 vb<|Eq.symm<|zg2<|CY.2 ⟨hid,hdim,hs⟩,I,I⟩
theorem yW (l:List Cl):∀ (acc:List Cl) (c:Cl),(c∈acc∨c∈l)→∃ x∈l.foldl ie acc,x.id=c.id:=by
 induction l with
 | nil=>intro acc c h; rcases h with h | h; exact⟨c,h,I⟩; simp at h
 | cons y r ih =>
  intro acc c h;simp only[zj2]
  rcases h with h | h
  ·exact ih (ie acc y) c<|.inl (by unfold ie; split; exact h; simp[h])
  ·rcases zf4.1 h with rfl | h
   ·by_cases ha:acc.any (fun x=>x.id == c.id)=true
    ·rw[p4 ha];rw[zk2] at ha;obtain ⟨z,hz,he⟩:=ha;obtain ⟨x,hx,hxe⟩:=ih acc z<|.inl hz;exact⟨x,hx,by rw[hxe]; simpa using he⟩
    ·have ha':acc.any (fun x=>x.id == c.id)=false:=by simpa using ha
     rw[kB ha'];exact ih _ c (.inl<|by simp)
   ·exact ih _ c<|.inr h
theorem Bu {L:List Cl}(hs:Srt Cl.id L){k:Nat}(h0:0<k)(hk:k<L.length):((L.take k).foldl ie []).any (fun x=>x.id == L[k].id)=decide (L[k].id=(L[k - 1]'oM).id):=by
 rw[Bool.eq_iff_iff,zk2,zj9];constructor
 ·rintro ⟨x,hx,he⟩;have hm:=(rm _ [] x hx).resolve_left (by simp);obtain ⟨j,hj,rfl⟩:=zc8 hm;rw[ze7] at hj;rw[List.getElem_take] at he;have he':(L[j]'oM).id=L[k].id:=by simpa using he
  rcases Nat.lt_or_ge j (k - 1) with h | h
  ·have h1:=zd1.1 hs j (k - 1) oM oM h;have h2:=zd1.1 hs (k - 1) k oM hk oM;omega
  ·have:j=k - 1:=oM;subst this;exact he'.symm
 ·intro he;have hm:(L[k - 1]'oM)∈L.take k:=by
   have:k - 1<(L.take k).length:=by rw[ze7]; omega
   have h2:=gM this;rwa [List.getElem_take] at h2
  obtain ⟨x,hx,hxe⟩:=yW (L.take k) [] _ (.inr hm);exact⟨x,hx,by rw[hxe,← he]; simp⟩
theorem dq (E:World)(g:PH)(s:Own)(v:Value)(l:List Cl)(hv:ao g v l)(hf:bo l) :
  Ctr Tryz.prog E 66 #[.agg #[v]] g s (fun r g' s'=>s=s'∧Le g g'∧ao g' r (am l)):=by
 obtain ⟨p,c,rfl⟩:=hv.form;have hsrt:=gy l;have hcl:=cg l;have hfl:=hf.1;refine zb2 (args:=[.agg #[.slice p l.length c]]) func66 I ntmps66 (bE I)<|rZ (bW (bO I) fun b1=>?_);refine aT I<|rZ<|lU (fA bM I bt I)<|lK (qL de I<|cO 0 I I)<|lW (cL call96 I<|jA E l.length g _ _ l (lR _) hv hf) ?_;rintro v8 g1 _ ⟨rfl,hle,h8⟩;obtain ⟨rs,hrs,hall⟩:=h8;have hrl:=hall.length;obtain ⟨q,d,rfl⟩:=hrs.form;refine aT I<|rZ<|aT I<|sQ<|rZ<|aT I<|bK<|zb6 53 3<|oP (ι:=Value×Nat×List Rc) (fun i=>[(3,.slice q rs.length d),(4,i.1),(5,vi i.2.1)]) (fun _=>g1) (fun i=>rowA encCell 53 i.1 i.2.2::pt b1 (.cells #[.slice p l.length c] 29 (0,0))::s)
  (fun i=>i.2.1≤rs.length∧aA (ar g1) (((aa l).take i.2.1).foldl ie []) i.2.2) (fun i=>rs.length - i.2.1) (.slice none 0 0,0,[]) sB rfl rfl ⟨zf9 _,by simp[aA]⟩ ?_
 rintro ⟨ov,k,acc⟩ ⟨hk,hacc⟩;dsimp only at hk hacc ⊢;have hal:=hacc.length;have hal2:=gj ((aa l).take k) [];simp only[ze7,zc5] at hal2;refine sQ<|sW I<|lM I<|lU (eN aI I)<|yL I<|tZ<|iP I (fun hlt=>?_) (fun hlt=>?_)
 ·have hkr:k<rs.length:=oM;have hkl:k<(aa l).length:=oM;have hb1:=hrs.based oM;have hcr:=hall.get (gE hkl)<|gE hkr;have htake:((aa l).take<|k+1).foldl ie []=ie (((aa l).take k).foldl ie []) (aa l)[k]:=by
   rw[tS hkl,zj3]; rfl
  have hgx:rs[((k:Nat):Int).toNat]?=some rs[k]:=gE hkr;have hnew:ie (((aa l).take k).foldl ie []) (aa l)[k]=((aa l).take k).foldl ie []++[(aa l)[k]]→aA (ar g1) (((aa l).take<|k+1).foldl ie []) (acc++[rs[k]]):=fun h=>by
   rw[htake,h]; exact hacc.append ⟨hcr,trivial⟩
  by_cases hk0:k=0
  ·subst hk0;refine kP<|tN<|sQ<|bK<|sQ<|dW [] [(0,2),(1,2),(2,2),(3,2),(4,2),(5,2),(6,2),(7,1),(8,2),(9,2),(10,2),(11,2),(12,2),(13,1),(14,2),(15,2)] ze6 kR<|yM I<|pU I (SU.eq (v':=vb true) (eQ I I) I)<|yM I<|yG I<|yG I<|yG I<|yG I<|yI I<|yG I<|yG I<|yG I<|yG I<|yG I<|yI I<|yG I<|pU I (wT I I)<|pN<|tN<|za2 I<|rG<|lM I<|lM I<|lM I<|lU (iA aI au I I hb1 oM sL)<|lK (eA dn au I hrs.rd hgx)<|lW (bS sty27 I I I (ae sB) dC) ?_;rintro _ _ _ ⟨b36,rfl,rfl,rfl⟩;refine lW (aP (e:=encCell) 0 rs[0] sty27 I I I I I oM oM) ?_;rintro v37 _ _ ⟨rfl,rfl⟩;exact lA I<|nL<|bN<|tN<|rG<|lM I<|yD I<|lA I<|nL<|gA (v37,0+1,acc++[rs[0]]) sB I I ⟨lN,hnew (kB<|by simp)⟩ lN
  ·have hk1:k - 1<rs.length:=oM;have hk1l:k - 1<(aa l).length:=oM;have hany:=Bu hsrt (by omega:0<k) hkl;have hcr1:=hall.get (gE hk1l)<|gE hk1;have hgy:rs[((k:Int) - 1).toNat]?=some rs[k - 1]:=by rw[show ((k:Int) - 1).toNat=k - 1 by omega]; exact gE hk1
   refine kP<|tN<|sQ<|bK<|sQ<|dW [] [(0,2),(1,2),(2,2),(3,2),(4,2),(5,2),(6,2),(7,1),(8,2),(9,2),(10,2),(11,2),(12,2),(13,1),(14,2),(15,2)] ze6 kR<|yM I<|pU I (SU.eq (v':=vb false) (eQ I I)<|ze5 vb<|zg1 oM)<|yM I<|yJ I<|yJ I<|zb3 I (gT I I I dC) (iA aI au I I hb1 oM sL) dC<|zb3 I (gT I I I dC) (fC aq I zT3 I hb1) dC<|SP.gq I (gT I I I dC) (aZ (e:=encCell) (o:=0) (u:=vi rs[k].id) iT3 I hrs.rd hgx I) dC<|yJ I<|yJ I<|zb3 I (gT I I I dC) (sU I I oM) dC<|zb3 I (gT I I I dC) (iA aI au I I hb1 oM sL) dC<|zb3 I (gT I I I dC) (fC aq I zT3 I hb1) dC<|SP.gq I (gT I I I dC) (aZ (e:=encCell) (o:=0) (u:=vi rs[k - 1].id) iT3 I hrs.rd hgy I) dC<|zb3 I (gT I I I dC) (nQ I I) dC<|pU I (wF I I)<|pN<|tN<|iP I (fun hne=>?_) (fun hne=>?_)
   ·refine rG<|lM I<|lM I<|lM I<|lU (iA aI au I I hb1 oM sL)<|lK (eA dn au I hrs.rd hgx)<|lW (bS sty27 I I I (ae sB) dC) ?_;rintro _ _ _ ⟨b36,rfl,rfl,rfl⟩;refine lW (aP (e:=encCell) 0 rs[k] sty27 I I I I I oM oM) ?_;rintro v37 _ _ ⟨rfl,rfl⟩;refine lA I<|nL<|bN<|tN<|rG<|lM I<|yD I<|lA I<|nL ?_;rw[hcr.1,hcr1.1] at hne;exact gA (v37,k+1,acc++[rs[k]]) sB I I ⟨lN,hnew<|kB (by rw[hany]; exact zg1 hne)⟩ lN
   ·refine kP<|bN<|tN<|rG<|lM I<|yD I<|lA I<|nL ?_;rw[hcr.1,hcr1.1] at hne;exact gA (ov,k+1,acc) sB I I ⟨lN,by dsimp only; rw[htake,p4 (by rw[hany]; exact zg2<|zh3 hne)]; exact hacc⟩ lN
 ·have hkk:(aa l).take k=aa l:=tL oM;rw[hkk] at hacc;refine xI (tX<|tX<|bX<|tN<|sW I<|aT I<|rE<|fT fun g2 hle2 hs2=>?_);exact dR (s':=s) uR<|za8 (.inl I) results66 I ⟨I,hle.trans hle2,acc,hs2,hacc.mono fun _ _=>ar.mono hle2⟩
def atC (l:List Cl)(id:Int):Int:=if (l.map Cl.id).contains id then lbI (l.map Cl.id) id else -1
theorem gW (E:World)(g:PH)(s:Own)(v:Value)(l:List Cl)(id:Int)(hv:ao g v l)(hl:l.length<1099511627776)(hs:(l.map Cl.id).Pairwise (· ≤ ·)) :
  Ctr Tryz.prog E 67 #[v,vi id] g s (fun r g' s'=>r=vi (atC l id)∧g=g'∧s=s'):=by
 obtain ⟨rs,hrs,hall⟩:=hv;have hrl:=hall.length;obtain ⟨p,c,rfl⟩:=hrs.form;have hids:=iU hall;have hml:(l.map Cl.id).length=l.length:=by simp
 have hri:∀ k (h:k<(l.map Cl.id).length) (h2:k<rs.length),(l.map Cl.id)[k]=rs[k].id:=fun k h h2=>by simp only[hids]; simp
 unfold atC;refine zb2 (args:=[.slice p rs.length c,vi id]) func67 I ntmps67 (bE I)<|rZ<|aT I<|rZ<|aT I<|sW I<|lU (eN aI I)<|aT I ?_;generalize l.map Cl.id=L at *;refine SC.cut (ι:=Nat) (fun i=>[(0,.slice p rs.length c),(1,vi id),(5,vi i)]) (fun _=>g) (fun _=>s) (fun i=>i≤L.length∧(∀ k (h:k<L.length),k<i→L[k]<id)∧∀ k (h:k<L.length),i≤k→id≤L[k]) ?_ ?_
 ·refine bK<|oP (ι:=Nat×Nat) (fun q=>[(0,.slice p rs.length c),(1,vi id),(5,vi q.1),(6,vi q.2)]) (fun _=>g) (fun _=>s)
   (fun q=>q.1≤q.2∧q.2≤L.length∧(∀ k (h:k<L.length),k<q.1→L[k]<id)∧∀ k (h:k<L.length),q.2≤k→id≤L[k]) (fun q=>q.2 - q.1) (0,L.length)
   ⟨rfl,rfl,rfl,aV oM,trivial⟩ rfl rfl ⟨zf9 _,lR _,fun k _ h=>absurd h oM,fun k h1 h2=>absurd h1 (by dsimp only at h2; omega)⟩ ?_
  rintro ⟨i,j⟩ ⟨hij,hj,hlo,hhi⟩;dsimp only at hij hj hlo hhi ⊢;refine sQ<|sW I<|lM I<|yL I<|tZ<|iP I (fun hlt=>?_) (fun hlt=>?_)
  ·have hb1:=hrs.based oM;have hml2:(i+j) / 2<L.length:=oM;have hmr:(i+j) / 2<rs.length:=oM;have hmx:rs[((((i+j) / 2:Nat):Int)).toNat]?=some rs[(i+j) / 2]:=gE hmr;have hmi:=hri _ hml2 hmr;refine kP<|tN<|bK<|sW I<|lM I<|yD I<|lU (SU.eq (v':=vi (((i+j) / 2:Nat):Int)) (SU.quo I I dC)<|ze5 vi (by rw[← Int.natCast_add]; exact kN _ oM)) ?_;refine aT I<|sW I<|lM I<|lU (iA aI au I I hb1 oM sL)<|lU (fC aq I zT3 I hb1)<|lK (aZ (e:=encCell) (o:=0) (u:=vi rs[(i+j) / 2].id) iT3 I hrs.rd hmx I)<|lM I<|yL I<|tZ<|iP I (fun hc=>?_) (fun hc=>?_)
   ·refine rG<|lM I<|yD I<|lA I<|nL<|bN<|gA ((i+j) / 2+1,j) sB I I ⟨lN,hj,fun k hk h=>?_,hhi⟩ lN;dsimp only at h;rw[← hmi] at hc
    rcases Nat.eq_or_lt_of_le (show k≤(i+j) / 2 by omega) with rfl | h'
    ·exact hc
    ·have:=zd1.1 hs k ((i+j) / 2) hk hml2 h';omega
   ·refine rG<|lM I<|lA I<|nL<|bN<|gA (i,(i+j) / 2) sB I I ⟨lN,lN,hlo,fun k hk h=>?_⟩ lN;dsimp only at h;rw[← hmi] at hc
    rcases Nat.eq_or_lt_of_le (show (i+j) / 2≤k by omega) with h' | h'
    ·subst h'; omega
    ·have:=zd1.1 hs ((i+j) / 2) k hml2 hk h';omega
  ·have hie:i=j:=oM;subst hie;exact xI<|tX<|tX<|bX<|za9 i sB I I ⟨hj,hlo,hhi⟩
 ·rintro i ⟨hj,hlo,hhi⟩;have hlb:=CW hj hlo hhi;by_cases hin:(i:Int)<(rs.length:Int)
  ·have hir:i<rs.length:=oM;have hil:i<L.length:=oM;have hb1:=hrs.based oM;have hmx:rs[((i:Nat):Int).toNat]?=some rs[i]:=gE hir;have hmi:=hri _ hil hir;have hfnd:=As hs hlo hhi hil;refine sQ<|sW I<|lM I<|lU (eN aI I)<|lU (SU.eq (v':=vb true) (lS I I)<|ze5 vb<|zg2 hin)<|lM I<|yC I<|yC I<|lY I I I (iA aI au I I hb1 oM sL)<|lY I I I (fC aq I zT3 I hb1)<|SL.gq (gT I I I dC) (aZ (e:=encCell) (o:=0) (u:=vi rs[i].id) iT3 I hrs.rd hmx I) dC<|yC I<|lY I I I (eQ I I)<|yP I<|tZ<|iP I (fun hc=>?_) (fun hc=>?_)
   ·refine sW I<|aT I<|rE<|tR ?_;rw[← hmi] at hc;exact za8 (.inl I) results67 I ⟨by rw[← hfnd,zg2 hc,zg4 I,hlb],I,I⟩
   ·refine kP<|tN<|rZ<|aT I<|rE ?_;rw[← hmi] at hc;exact za8 (.inl I) results67 I ⟨by rw[← hfnd,zg1 hc]; rfl,rfl,rfl⟩
  ·have hnf:=Ad hlo oM;exact sQ<|sW I<|lM I<|lU (eN aI I)<|lU (SU.eq (v':=vb false) (lS I I)<|ze5 vb<|zg1 hin)<|lM I<|yA I<|yA I<|yA I<|yA I<|yA I<|yA I<|yA I<|yF I<|tZ<|za1 I<|kP<|tN<|rZ<|aT I<|rE<|za8 (.inl I) results67 I ⟨by rw[hnf]; rfl,rfl,rfl⟩
theorem yy {l:List Int}(hs:l.Pairwise (· ≤ ·))(x:Int):(∀ k (h:k<l.length),k<lbI l x→l[k]<x)∧(∀ k (h:k<l.length),lbI l x≤k→x≤l[k]):=by
 induction l with
 | nil=>exact⟨fun k h=>absurd h (by simp),fun k h=>absurd h (by simp)⟩
 | cons a r ih =>
  obtain ⟨h1,h2⟩:=zk7.1 hs;obtain ⟨i1,i2⟩:=ih h2;by_cases ha:a<x
  ·have hl:lbI (a::r) x=lbI r x+1:=by simp[lbI,ha]
   rw[hl];refine⟨fun k h hk=>?_,fun k h hk=>?_⟩
   ·cases k with
    | zero=>exact ha
    | succ k=>exact i1 k (by simpa using h) oM
   ·cases k with
    | zero=>omega
    | succ k=>exact i2 k (by simpa using h) oM
  ·have hz:lbI (a::r) x=0:=by
    unfold lbI;rw[List.length_eq_zero_iff,List.filter_eq_nil_iff];intro y hy
    rcases zf4.1 hy with rfl | hy
    ·simpa using Int.not_lt.1 ha
    ·have:=h1 y hy; simp; omega
   rw[hz];refine⟨fun k h hk=>absurd hk oM,fun k h _=>?_⟩;cases k with
   | zero=>exact Int.not_lt.1 ha
   | succ k =>
    have hk':k<r.length:=by simpa using h
    have:=h1 r[k] (gM hk');simp;omega
theorem pC {tl:List Cl}(hs:(tl.map Cl.id).Pairwise (· ≤ ·))(id:Int):(aB tl id=none∧atC tl id = -1)∨∃ c k,aB tl id=some c∧atC tl id=((k:Nat):Int)∧tl[k]?=some c:=by
 obtain ⟨h1,h2⟩:=yy hs id;by_cases hc:(tl.map Cl.id).contains id=true
 ·right;have hm:id∈tl.map Cl.id:=by simpa using hc
  obtain ⟨c0,hc0,e0⟩:=zf5.1 hm;cases hf:aB tl id with
  | none =>
   have:=List.find?_eq_none.1 hf c0 hc0;simp[e0] at this
  | some c =>
   have hi:lbI (tl.map Cl.id) id<tl.length:=by
    rcases Nat.lt_or_ge (lbI (tl.map Cl.id) id) tl.length with h | h
    ·exact h
    ·obtain ⟨j,hj,rfl⟩:=zc8 hc0;have:=h1 j (by simpa using hj) oM;simp at this;omega
   refine⟨c,lbI (tl.map Cl.id) id,I,by unfold atC; rw[zg4 hc],?_⟩;rw[gE hi];have hge:=h2 _ (by simpa using hi)<|lR _;have hid:tl[lbI (tl.map Cl.id) id].id=id:=by
    obtain ⟨j,hj,rfl⟩:=zc8 hc0;have hji:lbI (tl.map Cl.id) id≤j:=by
     rcases Nat.lt_or_ge j (lbI (tl.map Cl.id) id) with h | h
     ·have:=h1 j (by simpa using hj) h; simp at this; omega
     ·exact h
    rcases Nat.eq_or_lt_of_le hji with h | h
    ·simp only[h]; exact e0
    ·have h3:=zd1.1 hs _ j (by simpa using hi) (by simpa using hj) h;simp at h3 hge;omega
   unfold aB at hf;rw[List.find?_eq_some_iff_getElem] at hf;obtain ⟨hp,j,hj,ej,hlt⟩:=hf;have hp':c.id=id:=by simpa using hp
   congr 1;rw[← ej];have hji:j=lbI (tl.map Cl.id) id:=by
    rcases Nat.lt_trichotomy j (lbI (tl.map Cl.id) id) with h | h | h
    ·have:=h1 j (by simpa using hj) h; simp[ej,hp'] at this
    ·exact h
    ·have:=hlt _ h; simp[hid] at this
   simp only[hji]
 ·left;have hn:id ∉ tl.map Cl.id:=by simpa using hc
  refine⟨?_,by unfold atC; rw[zg3 hc]⟩;unfold aB;rw[List.find?_eq_none];intro x hx;simp;exact fun e=>hn<|zf5.2 ⟨x,hx,e⟩
theorem xE {l:List Side}(h2:l.length=2)(hns:l.any cm=false):∃ a b,l=[a,b]∧(decide (oa l≠0))=decide (a.sign=b.sign):=by
 match l,h2 with
 | [a,b],_ =>
  simp only[List.any_cons,List.any_nil,Bool.or_false,Bool.or_eq_false_iff] at hns;have e1:a.sign=1∨a.sign = -1:=by
   have h1:=hns.1;simp only[cm,Bool.and_eq_false_iff,decide_eq_false_iff_not,ne_eq,Decidable.not_not] at h1;exact h1
  have e2:b.sign=1∨b.sign = -1:=by
   have h1:=hns.2;simp only[cm,Bool.and_eq_false_iff,decide_eq_false_iff_not,ne_eq,Decidable.not_not] at h1;exact h1
  refine⟨a,b,I,?_⟩;rw[Bool.eq_iff_iff];simp[oa];omega
theorem o9 (E:World)(g:PH)(s:Own)(v:Value)(tl:List Cl)(c:Cl)(r:Rc)(hv:ao g v tl)(htl:tl.length<1099511627776)(hs:(tl.map Cl.id).Pairwise (· ≤ ·))(hc:ar g c r)(hl:c.sides.length<1099511627776) :
  Ctr Tryz.prog E 117 #[v,rcv r] g s (fun r g' s'=>r=vi (cY tl c)∧g=g'∧s=s'):=by
 obtain ⟨rs,hrs,hall⟩:=hv;have hv:ao g v tl:=⟨rs,hrs,hall⟩;have hrl:=hall.length;obtain ⟨vp,vc,rfl⟩:=hrs.form;obtain ⟨rp,rcap,rfl,hcs⟩:=ep hc;have hx0:=fun h=>hcs.based h;refine zb2 (args:=[.slice vp rs.length vc,.agg #[vi c.id,vi c.dim,.slice rp c.sides.length rcap]]) func117 I ntmps117 (bE I)<|rZ (bW (bO I) fun b3=>?_);refine aT I<|sQ ?_;refine SC.to (g':=g) (s':=pt b3 (.cells #[vi c.id,vi c.dim,.slice rp c.sides.length rcap] 53 (0,0))::s) (fun w hw=>hw) ?_;refine SC.cutB 16 (fl c) ?_ ?_
 ·refine rG<|lU (fA aq I zT3 I)<|lK (qL (v:=vi c.dim) iT3 I<|cO 0 I I)<|yL I<|lM I<|sP ?_ ?_
  ·intro h12;exact yA I<|yA I<|yA I<|yP I<|nL<|zb1 (by simp_all[bg,fl] <;> omega) mI
  ·intro h12;exact lY I I I (fA aq I zT3 I)<|SL.gq (gT I I I dC) (qL (v:=vi c.dim) iT3 I<|cO 0 I I) dC<|lY I I I (gR I I)<|yF I<|nL<|zb1 (by simp_all[bg,fl] <;> omega) mI
 refine iQ I (fun hdb=>?_) (fun hdb=>?_)
 ·exact rZ<|aT I<|rE<|tR<|dR (s':=s) uR<|za8 (.inl I) results117 I ⟨by unfold cY; rw[zg4 hdb],I,I⟩
 ·have hd8:0≤c.dim∧c.dim≤8:=by simp[fl] at hdb; omega
  refine kP<|tN<|rZ<|lU (fA aq I aJ I)<|lK (qL (v:=.slice rp c.sides.length rcap) aX I<|cO 0 I I)<|lU (eN aM I)<|aT I<|sQ<|SC.cutB 48 (bh c) ?_ ?_
  ·refine rG<|lU (fA aq I zT3 I)<|lK (qL (v:=vi c.dim) iT3 I<|cO 0 I I)<|yE I<|lM I<|sP ?_ ?_
   ·intro h23;refine yC I<|lY I I I (gR I I)<|yP I<|lM I<|sP ?_ ?_
    ·intro h27;exact yA I<|yA I<|yA I<|yA I<|yB I<|yB I<|yA I<|yP I<|lM I<|yA I<|yA I<|yA I<|yA I<|yB I<|yB I<|yB I<|yB I<|yB I<|yB I<|yA I<|yP I<|nL<|zb1 (by simp_all[bg,bh] <;> omega) mI
    ·intro h27;refine lY I I I (fA aq I zT3 I)<|SL.gq (gT I I I dC) (qL (v:=vi c.dim) iT3 I<|cO 0 I I) dC<|lY I I I (eQ I I)<|yC I<|sP ?_ ?_
     ·intro h31;refine yC I<|lY I I I (nQ I I)<|lY I I I (wT I I)<|yF I<|lM I<|sP ?_ ?_
      ·intro h36;exact yA I<|yA I<|yA I<|yA I<|yB I<|yB I<|yB I<|yB I<|yB I<|yB I<|yA I<|yP I<|nL<|zb1 (by simp_all[bg,bh] <;> omega) mI
      ·intro h36;refine lY I I I (fA aq I zT3 I)<|SL.gq (gT I I I dC) (qL (v:=vi c.dim) iT3 I<|cO 0 I I) dC<|lY I I I (gR I I)<|yC I<|sP ?_ ?_
       ·intro h40;refine yC I<|lY I I I (lS I I)<|yC I<|sP ?_ ?_
        ·intro h43;exact yA I<|yA I<|lY I I I (wT I I)<|lY I I I (wT I I)<|yF I<|nL<|zb1 (by simp_all[bg,bh] <;> omega) mI
        ·intro h43;exact yC I<|lY I I I (gR I I)<|lY I I I (wF I I)<|lY I I I (wT I I)<|yF I<|nL<|zb1 (by simp_all[bg,bh] <;> omega) mI
       ·intro h40;exact yA I<|yA I<|yA I<|yB I<|yB I<|yA I<|lY I I I (wF I I)<|yF I<|nL<|zb1 (by simp_all[bg,bh] <;> omega) mI
     ·intro h31;refine yA I<|yA I<|lY I I I (wF I I)<|yF I<|lM I<|lY I I I (fA aq I zT3 I)<|SL.gq (gT I I I dC) (qL (v:=vi c.dim) iT3 I<|cO 0 I I) dC<|lY I I I (gR I I)<|yC I<|sP ?_ ?_
      ·intro h40;refine yC I<|lY I I I (lS I I)<|yC I<|sP ?_ ?_
       ·intro h43;exact yA I<|yA I<|lY I I I (wT I I)<|lY I I I (wT I I)<|yF I<|nL<|zb1 (by simp_all[bg,bh] <;> omega) mI
       ·intro h43;exact yC I<|lY I I I (gR I I)<|lY I I I (wF I I)<|lY I I I (wT I I)<|yF I<|nL<|zb1 (by simp_all[bg,bh] <;> omega) mI
      ·intro h40;exact yA I<|yA I<|yA I<|yB I<|yB I<|yA I<|lY I I I (wF I I)<|yF I<|nL<|zb1 (by simp_all[bg,bh] <;> omega) mI
   ·intro h23;refine yA I<|yA I<|yF I<|lM I<|lY I I I (fA aq I zT3 I)<|SL.gq (gT I I I dC) (qL (v:=vi c.dim) iT3 I<|cO 0 I I) dC<|lY I I I (eQ I I)<|yC I<|sP ?_ ?_
    ·intro h31;refine yC I<|lY I I I (nQ I I)<|lY I I I (wT I I)<|yF I<|lM I<|sP ?_ ?_
     ·intro h36;exact yA I<|yA I<|yA I<|yA I<|yB I<|yB I<|yB I<|yB I<|yB I<|yB I<|yA I<|yP I<|nL<|zb1 (by simp_all[bg,bh] <;> omega) mI
     ·intro h36;refine lY I I I (fA aq I zT3 I)<|SL.gq (gT I I I dC) (qL (v:=vi c.dim) iT3 I<|cO 0 I I) dC<|lY I I I (gR I I)<|yC I<|sP ?_ ?_
      ·intro h40;refine yC I<|lY I I I (lS I I)<|yC I<|sP ?_ ?_
       ·intro h43;exact yA I<|yA I<|lY I I I (wT I I)<|lY I I I (wT I I)<|yF I<|nL<|zb1 (by simp_all[bg,bh] <;> omega) mI
       ·intro h43;exact yC I<|lY I I I (gR I I)<|lY I I I (wF I I)<|lY I I I (wT I I)<|yF I<|nL<|zb1 (by simp_all[bg,bh] <;> omega) mI
      ·intro h40;exact yA I<|yA I<|yA I<|yB I<|yB I<|yA I<|lY I I I (wF I I)<|yF I<|nL<|zb1 (by simp_all[bg,bh] <;> omega) mI
    ·intro h31;refine yA I<|yA I<|lY I I I (wF I I)<|yF I<|lM I<|lY I I I (fA aq I zT3 I)<|SL.gq (gT I I I dC) (qL (v:=vi c.dim) iT3 I<|cO 0 I I) dC<|lY I I I (gR I I)<|yC I<|sP ?_ ?_
     ·intro h40;refine yC I<|lY I I I (lS I I)<|yC I<|sP ?_ ?_
      ·intro h43;exact yA I<|yA I<|lY I I I (wT I I)<|lY I I I (wT I I)<|yF I<|nL<|zb1 (by simp_all[bg,bh] <;> omega) mI
      ·intro h43;exact yC I<|lY I I I (gR I I)<|lY I I I (wF I I)<|lY I I I (wT I I)<|yF I<|nL<|zb1 (by simp_all[bg,bh] <;> omega) mI
     ·intro h40;exact yA I<|yA I<|yA I<|yB I<|yB I<|yA I<|lY I I I (wF I I)<|yF I<|nL<|zb1 (by simp_all[bg,bh] <;> omega) mI
  refine iQ I (fun hcb=>?_) (fun hcb=>?_)
  ·exact rZ<|aT I<|rE<|tR<|dR (s':=s) uR<|za8 (.inl I) results117 I ⟨by unfold cY; rw[zg3 (by simp[hdb]),zg4 hcb],I,I⟩
  ·refine kP<|tN<|sQ<|rZ<|aT I<|bK<|oP (ι:=Nat) (fun k=>[(0,.slice vp rs.length vc),(3,pp b3 0),(5,vi c.sides.length),(6,vi k)]) (fun _=>g)
    (fun _=>pt b3 (.cells #[vi c.id,vi c.dim,.slice rp c.sides.length rcap] 53 (0,0))::s) (fun k=>k≤c.sides.length∧(List.range k).any (fY tl c)=false) (fun k=>c.sides.length - k) 0
    sB rfl rfl ⟨zf9 _,by simp⟩ ?_
   rintro k ⟨hk,hno⟩;refine sQ<|sW I<|lM I<|yL I<|tZ<|iP I (fun hlt=>?_) (fun hlt=>?_)
   ·have hkl:k<c.sides.length:=oM;have hb1:=hx0 oM;have hjx:c.sides[((k:Nat):Int).toNat]?=some c.sides[k]:=gE hkl;have hjx':c.sides[k]?=some c.sides[k]:=gE hkl;have hprev:(k:Int)>0→∃ q,c.sides[((k:Int) - 1).toNat]?=some q∧c.sides[k - 1]?=some q:=fun h=>by
     have h2:k - 1<c.sides.length:=oM;exact⟨c.sides[k - 1],by rw[show ((k:Int) - 1).toNat=k - 1 by omega]; exact gE h2,gE h2⟩
    generalize c.sides[k]=y at *;have hbat:fY tl c k=co tl c k y:=by unfold fY; rw[hjx']
    have hT:co tl c k y=true→(List.range c.sides.length).any (fY tl c)=true:=fun h=>zk2.2 ⟨k,List.mem_range.2 hkl,by rw[hbat]; exact h⟩;have hF:co tl c k y=false→(List.range<|k+1).any (fY tl c)=false:=fun h=>by rw[List.range_succ,List.any_append,hno]; simp[hbat,h]
    rcases pC hs y.cell with ⟨hfn,hat⟩ | ⟨yc,kk,hfs,hat,hyc⟩
    ·have hbad:co tl c k y=true:=nq (by rw[hfn]; simp);refine kP<|tN<|sQ<|bK<|sW I<|lU (fA aq I aJ I)<|lK (qL (v:=.slice rp c.sides.length rcap) aX I<|cO 0 I I)<|lM I<|lU (iA aM aH I I hb1 oM sL)<|lU (fC bZ I zT3 I hb1)<|lK (aZ (e:=encSide) (o:=0) (u:=vi y.cell) iT3 I hcs.rd hjx I)<|lW (cL call67 I<|gW E g _ _ tl y.cell hv htl hs) ?_;rintro _ _ _ ⟨rfl,rfl,rfl⟩;rw[hat];exact aT I<|sQ<|dW [] [(0,2),(1,2),(2,2),(3,2),(4,2),(5,2),(6,2),(7,1),(8,2),(9,1),(10,2),(11,2),(12,2),(13,2),(14,2),(15,2),(16,2),(17,2),(18,1),(19,2),(20,2),(21,2),(22,1),(23,2),(24,1),(25,2),(26,2),(27,2),(28,2),(29,1),(30,2),(31,2),(32,2)] ze6 kR<|yM I<|pU I (SU.eq (v':=vb true) (lS I I) I)<|yM I<|yG I<|yG I<|yG I<|yG I<|yI I<|yG I<|yI I<|yG I<|yG I<|pU I (wT I I)<|yM I<|yG I<|yG I<|yG I<|yH I<|SP.off1 I (zb4 I I I dC) dC<|yH I<|yH I<|yH I<|SP.off1 I (zb4 I I I dC) dC<|yH I<|SP.off1 I (zb4 I I I dC) dC<|yH I<|yH I<|yH I<|yH I<|SP.off1 I (zb4 I I I dC) dC<|yH I<|yG I<|pU I (wT I I)<|pN<|tN<|za2 I<|rZ<|aT I<|rE<|bR<|tR<|tR<|bR<|tR<|dR (s':=s) uR<|za8 (.inl I) results117 I ⟨by unfold cY; rw[zg3 (by simp[hdb]),zg3 (by simp[hcb]),zg4<|hT hbad],I,I⟩
    ·have hkk:kk<tl.length:=(zf8.1 hyc).1;have hkr:kk<rs.length:=oM;have hbv:=hrs.based oM;have hyr:=hall.get hyc<|gE hkr;have hgr:rs[((kk:Nat):Int).toNat]?=some rs[kk]:=gE hkr;have hsome:(aB tl y.cell).isSome=true:=by rw[hfs]; rfl
     have hget:((aB tl y.cell).getD bD)=yc:=by rw[hfs]; rfl
     by_cases hdm:yc.dim≠c.dim - 1
     ·have hbad:co tl c k y=true:=rN hsome (by rw[hget]; exact hdm);refine kP<|tN<|sQ<|bK<|sW I<|lU (fA aq I aJ I)<|lK (qL (v:=.slice rp c.sides.length rcap) aX I<|cO 0 I I)<|lM I<|lU (iA aM aH I I hb1 oM sL)<|lU (fC bZ I zT3 I hb1)<|lK (aZ (e:=encSide) (o:=0) (u:=vi y.cell) iT3 I hcs.rd hjx I)<|lW (cL call67 I<|gW E g _ _ tl y.cell hv htl hs) ?_;rintro _ _ _ ⟨rfl,rfl,rfl⟩;rw[hat];refine aT I<|sQ<|dW [] [(0,2),(1,2),(2,2),(3,2),(4,2),(5,2),(6,2),(7,1),(8,2),(9,1),(10,2),(11,2),(12,2),(13,2),(14,2),(15,2),(16,2),(17,2),(18,1),(19,2),(20,2),(21,2),(22,1),(23,2),(24,1),(25,2),(26,2),(27,2),(28,2),(29,1),(30,2),(31,2),(32,2)] ze6 kR<|yM I<|pU I (SU.eq (v':=vb false) (lS I I)<|ze5 vb<|zg1 oM)<|yM I<|yJ I<|yJ I<|zb3 I (gT I I I dC) (iA aI au I I hbv oM sL) dC<|zb3 I (gT I I I dC) (fC aq I zT3 I hbv) dC<|SP.gq I (gT I I I dC) (aZ (e:=encCell) (o:=1) (u:=vi rs[kk].dim) iT3 I hrs.rd hgr I) dC<|zb3 I (gT I I I dC) (fA aq I zT3 I) dC<|SP.gq I (gT I I I dC) (qL (v:=vi c.dim) iT3 I<|cO 0 I I) dC<|zb3 I (gT I I I dC) (sU I I oM) dC<|zb3 I (gT I I I dC) (SU.eq (v':=vb true) (nQ I I)<|ze5 vb<|zg2 (by rw[hyr.2.1]; exact hdm)) dC ?_;exact pU I (wF I I)<|yM I<|yG I<|yG I<|yG I<|yH I<|SP.off1 I (zb4 I I I dC) dC<|yH I<|yH I<|yH I<|SP.off1 I (zb4 I I I dC) dC<|yH I<|SP.off1 I (zb4 I I I dC) dC<|yH I<|yH I<|yH I<|yH I<|SP.off1 I (zb4 I I I dC) dC<|yH I<|yG I<|pU I (wT I I)<|pN<|tN<|za2 I<|rZ<|aT I<|rE<|bR<|tR<|tR<|bR<|tR<|dR (s':=s) uR<|za8 (.inl I) results117 I ⟨by unfold cY; rw[zg3 (by simp[hdb]),zg3 (by simp[hcb]),zg4<|hT hbad],I,I⟩
     ·by_cases hk0:(k:Int)>0
      ·obtain ⟨q,hq1,hq2⟩:=hprev hk0;have hbd:=rL (i:=k) hsome (by rw[hget]; exact hdm) hk0 hq2;refine kP<|tN<|sQ<|bK<|sW I<|lU (fA aq I aJ I)<|lK (qL (v:=.slice rp c.sides.length rcap) aX I<|cO 0 I I)<|lM I<|lU (iA aM aH I I hb1 oM sL)<|lU (fC bZ I zT3 I hb1)<|lK (aZ (e:=encSide) (o:=0) (u:=vi y.cell) iT3 I hcs.rd hjx I)<|lW (cL call67 I<|gW E g _ _ tl y.cell hv htl hs) ?_;rintro _ _ _ ⟨rfl,rfl,rfl⟩;rw[hat];refine aT I<|sQ<|dW [] [(0,2),(1,2),(2,2),(3,2),(4,2),(5,2),(6,2),(7,1),(8,2),(9,1),(10,2),(11,2),(12,2),(13,2),(14,2),(15,2),(16,2),(17,2),(18,1),(19,2),(20,2),(21,2),(22,1),(23,2),(24,1),(25,2),(26,2),(27,2),(28,2),(29,1),(30,2),(31,2),(32,2)] ze6 kR<|yM I<|pU I (SU.eq (v':=vb false) (lS I I)<|ze5 vb<|zg1 oM)<|yM I<|yJ I<|yJ I<|zb3 I (gT I I I dC) (iA aI au I I hbv oM sL) dC<|zb3 I (gT I I I dC) (fC aq I zT3 I hbv) dC<|SP.gq I (gT I I I dC) (aZ (e:=encCell) (o:=1) (u:=vi rs[kk].dim) iT3 I hrs.rd hgr I) dC<|zb3 I (gT I I I dC) (fA aq I zT3 I) dC<|SP.gq I (gT I I I dC) (qL (v:=vi c.dim) iT3 I<|cO 0 I I) dC<|zb3 I (gT I I I dC) (sU I I oM) dC<|zb3 I (gT I I I dC) (SU.eq (v':=vb false) (nQ I I)<|ze5 vb<|zg1 (by rw[hyr.2.1]; exact hdm)) dC ?_;refine pU I (wF I I)<|yM I<|yJ I<|zb3 I (gT I I I dC) (SU.eq (v':=vb true) (gR I I)<|ze5 vb<|zg2 hk0) dC<|yJ I<|zb3 I (gT I I I dC) (fA aq I aJ I) dC<|SP.gq I (gT I I I dC) (qL (v:=.slice rp c.sides.length rcap) aX I<|cO 0 I I) dC<|yJ I<|zb3 I (gT I I I dC) (iA aM aH I I hb1 oM sL) dC<|zb3 I (gT I I I dC) (fC bZ I zT3 I hb1) dC<|SP.gq I (gT I I I dC) (aZ (e:=encSide) (o:=0) (u:=vi y.cell) iT3 I hcs.rd hjx I) dC<|zb3 I (gT I I I dC) (fA aq I aJ I) dC<|SP.gq I (gT I I I dC) (qL (v:=.slice rp c.sides.length rcap) aX I<|cO 0 I I) dC<|yJ I<|zb3 I (gT I I I dC) (sU I I oM) dC<|zb3 I (gT I I I dC) (iA aM aH I I hb1 oM sL) dC<|zb3 I (gT I I I dC) (fC bZ I zT3 I hb1) dC<|SP.gq I (gT I I I dC) (aZ (e:=encSide) (o:=0) (u:=vi q.cell) iT3 I hcs.rd hq1 I) dC<|zb3 I (gT I I I dC) (eQ I I) dC<|zb3 I (gT I I I dC) (wT I I) dC<|pU I (wF I I)<|pN<|tN<|iP I (fun heq=>?_) (fun heq=>?_)
       ·exact rZ<|aT I<|rE<|bR<|tR<|tR<|bR<|tR<|dR (s':=s) uR<|za8 (.inl I) results117 I ⟨by unfold cY; rw[zg3 (by simp[hdb]),zg3 (by simp[hcb]),zg4<|hT (by rw[hbd]; exact zg2 heq.symm)],I,I⟩
       ·exact kP<|bN<|tN<|rG<|lM I<|yD I<|lA I<|nL<|gA (k+1) sB I I ⟨oM,hF (by rw[hbd]; exact zg1 fun e=>heq e.symm)⟩ oM
      ·have hbd:=rM (i:=k) (x:=y) hsome (by rw[hget]; exact hdm) hk0;refine kP<|tN<|sQ<|bK<|sW I<|lU (fA aq I aJ I)<|lK (qL (v:=.slice rp c.sides.length rcap) aX I<|cO 0 I I)<|lM I<|lU (iA aM aH I I hb1 oM sL)<|lU (fC bZ I zT3 I hb1)<|lK (aZ (e:=encSide) (o:=0) (u:=vi y.cell) iT3 I hcs.rd hjx I)<|lW (cL call67 I<|gW E g _ _ tl y.cell hv htl hs) ?_;rintro _ _ _ ⟨rfl,rfl,rfl⟩;rw[hat];refine aT I<|sQ<|dW [] [(0,2),(1,2),(2,2),(3,2),(4,2),(5,2),(6,2),(7,1),(8,2),(9,1),(10,2),(11,2),(12,2),(13,2),(14,2),(15,2),(16,2),(17,2),(18,1),(19,2),(20,2),(21,2),(22,1),(23,2),(24,1),(25,2),(26,2),(27,2),(28,2),(29,1),(30,2),(31,2),(32,2)] ze6 kR<|yM I<|pU I (SU.eq (v':=vb false) (lS I I)<|ze5 vb<|zg1 oM)<|yM I<|yJ I<|yJ I<|zb3 I (gT I I I dC) (iA aI au I I hbv oM sL) dC<|zb3 I (gT I I I dC) (fC aq I zT3 I hbv) dC<|SP.gq I (gT I I I dC) (aZ (e:=encCell) (o:=1) (u:=vi rs[kk].dim) iT3 I hrs.rd hgr I) dC<|zb3 I (gT I I I dC) (fA aq I zT3 I) dC<|SP.gq I (gT I I I dC) (qL (v:=vi c.dim) iT3 I<|cO 0 I I) dC<|zb3 I (gT I I I dC) (sU I I oM) dC<|zb3 I (gT I I I dC) (SU.eq (v':=vb false) (nQ I I)<|ze5 vb<|zg1 (by rw[hyr.2.1]; exact hdm)) dC ?_;exact pU I (wF I I)<|yM I<|yJ I<|zb3 I (gT I I I dC) (SU.eq (v':=vb false) (gR I I)<|ze5 vb<|zg1 hk0) dC<|yJ I<|yG I<|yI I<|yG I<|yG I<|yG I<|yI I<|yG I<|yI I<|yG I<|yG I<|yG I<|yG I<|yI I<|yG I<|zb3 I (gT I I I dC) (wF I I) dC<|pU I (wF I I)<|pN<|tN<|za1 I<|kP<|bN<|tN<|rG<|lM I<|yD I<|lA I<|nL<|gA (k+1) sB I I ⟨oM,hF hbd⟩ oM
   ·refine xI<|tX<|tX<|bX<|tN<|sQ<|rZ<|aT I<|bK ?_;have hkk:k=c.sides.length:=oM;subst hkk;refine oP (ι:=Nat) (fun k=>[(3,pp b3 0),(5,vi c.sides.length),(8,vi k)]) (fun _=>g)
     (fun _=>pt b3 (.cells #[vi c.id,vi c.dim,.slice rp c.sides.length rcap] 53 (0,0))::s) (fun k=>k≤c.sides.length∧(c.sides.take k).any cm=false) (fun k=>c.sides.length - k) 0
     sB rfl rfl ⟨zf9 _,by simp⟩ ?_
    rintro k ⟨hk2,hns⟩;refine sQ<|sW I<|lM I<|yL I<|tZ<|iP I (fun hlt2=>?_) (fun hlt2=>?_)
    ·have hkl:k<c.sides.length:=oM;have hb1:=hx0 oM;have hjx:c.sides[((k:Nat):Int).toNat]?=some c.sides[k]:=gE hkl;have htk:c.sides.take (k+1)=c.sides.take k++[c.sides[k]]:=tS hkl;have hmemy:c.sides[k]∈c.sides:=gM hkl;generalize c.sides[k]=y at *;refine kP<|tN<|sQ<|bK<|SC.cutB 115 (cm y) ?_ ?_
     ·refine rG<|lU (fA aq I aJ I)<|lK (qL (v:=.slice rp c.sides.length rcap) aX I<|cO 0 I I)<|lM I<|lU (iA aM aH I I hb1 oM sL)<|lU (fC bZ I zT3 I hb1)<|lK (aZ (e:=encSide) (o:=1) (u:=vi y.sign) iT3 I hcs.rd hjx I)<|lU (nQ I I)<|lM I<|sP ?_ ?_
      ·intro h107;exact lY I I I (fA aq I aJ I)<|SL.gq (gT I I I dC) (qL (v:=.slice rp c.sides.length rcap) aX I<|cO 0 I I) dC<|yC I<|lY I I I (iA aM aH I I hb1 oM sL)<|lY I I I (fC bZ I zT3 I hb1)<|SL.gq (gT I I I dC) (aZ (e:=encSide) (o:=1) (u:=vi y.sign) iT3 I hcs.rd hjx I) dC<|lY I I I (nQ I I)<|yP I<|nL<|zb1 (by exact ze5 (fun b=>some<|Value.bool b) (qY h107).symm) mI
      ·intro h107;exact yA I<|yA I<|yA I<|yA I<|yA I<|yA I<|yA I<|yF I<|nL<|zb1 (by exact ze5 (fun b=>some<|Value.bool b) (qX h107).symm) mI
     refine iQ I (fun hsg=>?_) (fun hsg=>?_)
     ·refine rZ<|aT I<|rE<|bR<|tR<|tR<|bR<|tR<|dR (s':=s) uR ?_;have hany:c.sides.any cm=true:=zk2.2 ⟨y,hmemy,hsg⟩;exact za8 (.inl I) results117 I ⟨by unfold cY; rw[zg3 (by simp[hdb]),zg3 (by simp[hcb]),zg3 (by simp[hno]),zg4 hany],I,I⟩
     ·exact kP<|bN<|tN<|rG<|lM I<|yD I<|lA I<|nL<|gA (k+1) sB I I ⟨oM,by rw[htk,List.any_append,hns]; simp[hsg]⟩ oM
    ·have hkk:c.sides.take k=c.sides:=tL oM;rw[hkk] at hns;by_cases hd1:c.dim=1
     ·have h2:c.sides.length=2:=by
       simp[bh] at hcb;have:=hcb.1.2 hd1;omega
      obtain ⟨a,b,hab,hsum⟩:=xE h2 hns;have hb1:=hx0 oM;refine xI<|tX<|tX<|bX<|tN<|sQ<|sQ<|dW [] [(0,2),(1,1),(2,2),(3,2),(4,2),(5,1),(6,2),(7,2),(8,1),(9,2),(10,1),(11,2),(12,2),(13,1),(14,2),(15,2)] ze6 kR<|pU I (fA aq I zT3 I)<|pK I (qL (v:=vi c.dim) iT3 I<|cO 0 I I)<|pU I (SU.eq (v':=vb true) (eQ I I)<|ze5 vb<|zg2 hd1)<|yM I<|zb3 I (gT I I I dC) (fA aq I aJ I) dC<|SP.gq I (gT I I I dC) (qL (v:=.slice rp c.sides.length rcap) aX I<|cO 0 I I) dC<|zb3 I (gT I I I dC) (iA aM aH I I hb1 dC sL) dC<|zb3 I (gT I I I dC) (fC bZ I zT3 I hb1) dC<|SP.gq I (gT I I I dC) (aZ (e:=encSide) (j:=0) (o:=1) (u:=vi a.sign) (a:=a) iT3 I hcs.rd (by rw[hab]; rfl) rfl) dC ?_;refine zb3 I (gT I I I dC) (fA aq I aJ I) dC<|SP.gq I (gT I I I dC) (qL (v:=.slice rp c.sides.length rcap) aX I<|cO 0 I I) dC<|zb3 I (gT I I I dC) (iA aM aH I I hb1 dC sL) dC<|zb3 I (gT I I I dC) (fC bZ I zT3 I hb1) dC<|SP.gq I (gT I I I dC) (aZ (e:=encSide) (j:=1) (o:=1) (u:=vi b.sign) (a:=b) iT3 I hcs.rd (by rw[hab]; rfl) rfl) dC ?_;refine zb3 I (gT I I I dC) (eQ I I) dC<|pU I (wT I I)<|pN<|tN<|iP I (fun heq=>?_) (fun heq=>?_)
      ·exact rZ<|aT I<|rE<|tR<|dR (s':=s) uR<|za8 (.inl I) results117 I ⟨by unfold cY; rw[zg3 (by simp[hdb]),zg3 (by simp[hcb]),zg3 (by simp[hno]),zg3 (by simp[hns]),zg4 (by rw[hsum]; simp[hd1,heq])],I,I⟩
      ·exact kP<|tN<|rZ<|aT I<|rE<|dR (s':=s) uR<|za8 (.inl I) results117 I ⟨by unfold cY; rw[zg3 (by simp[hdb]),zg3 (by simp[hcb]),zg3 (by simp[hno]),zg3 (by simp[hns]),zg3 (by rw[hsum]; simp[heq])],I,I⟩
     ·exact xI<|tX<|tX<|bX<|tN<|sQ<|sQ<|dW [] [(0,2),(1,1),(2,2),(3,2),(4,2),(5,1),(6,2),(7,2),(8,1),(9,2),(10,1),(11,2),(12,2),(13,1),(14,2),(15,2)] ze6 kR<|pU I (fA aq I zT3 I)<|pK I (qL (v:=vi c.dim) iT3 I<|cO 0 I I)<|pU I (SU.eq (v':=vb false) (eQ I I)<|ze5 vb<|zg1 hd1)<|yM I<|yG I<|yI I<|yG I<|yG I<|yI I<|yG I<|yI I<|yG I<|yG I<|yI I<|yG I<|pU I (wF I I)<|pN<|tN<|za1 I<|kP<|tN<|rZ<|aT I<|rE<|dR (s':=s) uR<|za8 (.inl I) results117 I ⟨by unfold cY; rw[zg3 (by simp[hdb]),zg3 (by simp[hcb]),zg3 (by simp[hno]),zg3 (by simp[hns]),zg3 (by simp[hd1])],I,I⟩
end Go.Proofs.YtackilpikhkijaaGreatDoor
