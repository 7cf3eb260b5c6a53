/- 13 -/
import Derived.Test.YtkbagdedfdfjhaaGreatDoorFi12
import Derived.Test.YtkbagdedfdfjhaaGreatDoorFi10
import Derived.Test.YtkbagdedfdfjhaaGreatDoorFi04
import Derived.Test.YtkbagdedfdfjhaaGreatDoorFi05
import Derived.Test.YtkbagdedfdfjhaaGreatDoorFi11
import Derived.WideKeyArr
set_option linter.unusedSimpArgs false
set_option linter.unusedVariables false
namespace Go.Proofs.YtkbagdedfdfjhaaGreatDoor
open _root_.Go.Proofs.Tryz _root_.Go.Proofs.YtkbagdedfdfjhaaGreatDoor.Tryz
open Go Go.Sy Go.Pl Go.Proofs
set_option maxRecDepth 100000
theorem tF (L:List Cl)(id:Int):∀ (T:List (List Int)) (k:Nat),tlB L (k+1) T id=2 * tlB L k T id
 | [],_=>rfl
 | t::T,k=>by
  unfold tlB;rw[tF L id T (k+1),Nat.mul_add,Nat.pow_succ];split <;> omega
theorem nq (L:List Cl)(t:List Int)(T:List (List Int))(id:Int):tlB L 0 (t::T) id=(if (cu L t).contains id then 1 else 0)+2 * tlB L 0 T id:=by
 rw[← tF];rfl
theorem GI {a b x y:Nat}(ha:a≤1)(hb:b≤1)(h:a≤b)(k:x &&& y=x):(a+2 * x) &&& (b+2 * y)=a+2 * x:=by
 refine Nat.eq_of_testBit_eq fun j=>?_;rw[Nat.testBit_and];cases j with
 | zero =>
  rw[Nat.testBit_zero,Nat.testBit_zero];have h1:(a+2 * x) % 2=a:=oM;have h2:(b+2 * y) % 2=b:=oM;rw[h1,h2];by_cases e:a=1
  ·have:b=1:=oM;simp[e,this]
  ·simp[e]
 | succ j =>
  rw[Nat.testBit_succ,Nat.testBit_succ,show (a+2 * x) / 2=x by omega,show (b+2 * y) / 2=y by omega,← Nat.testBit_and,k]
theorem AN (L:List Cl){a b:Int}:∀ {T:List (List Int)},(∀ t∈T,(cu L t).contains a=true→(cu L t).contains b=true)→tlB L 0 T a &&& tlB L 0 T b=tlB L 0 T a
 | [],_=>by simp[tlB]
 | t::T,h=>by
  rw[nq,nq];refine GI (by split <;> omega) (by split <;> omega) ?_ (AN L fun u hu=>h u (by simp[hu]));have:=h t (by simp);split
  ·rename_i h1;rw[zf7 (this h1)];exact lR _
  ·exact zf3 _
theorem uu {L:List Cl}(h:Rt L){T:List (List Int)}(hT:T.length≤4)(hf:L.length≤60)(hd:∀ c∈L,c.dim≤4)(hs:∀ c∈L,c.sides.length≤60):Cov L (tlB L 0 T) T.length :=
 ⟨h,hT,fun c _=>rJ L c.id T,fun c hc x hx=>AN L fun t _ hc1=>i6 h t c hc hc1 x hx,hf,hd,hs⟩
theorem z8 {L:List Cl}(h:Rt L){T:List (List Int)}(hT:T.length≤4)(hf:L.length≤60)(hd:∀ c∈L,c.dim≤4)(hs:∀ c∈L,c.sides.length≤60):Rt (dA L T):=by
 unfold dA;rw[vL];exact (uu h hT hf hd hs).right
section
variable {L:List Cl}{f:Int→Nat}{n:Nat}(h:Cov L f n)
include h
theorem Cov.deg {c:Cl}(hc:c∈L){s:Nat}(hs:s∈bC (f c.id)):jt n (bId n (ixB L c.id) s)=(onesB s:Int) - 1:=by
 have:=(h.s16 hc hs).1;unfold jt bId;rw[Int.toNat_natCast,Nat.mul_comm,Nat.mul_add_mod,Nat.mod_eq_of_lt this]
end
set_option maxHeartbeats 1000000
theorem Cz (E:World)(g:PH)(s:Own)(v:Value)(l:List Int)(x:Int)(hv:bT g v l)(hl:l.length<1099511627776) :
  Ctr Tryz.prog E 128 #[v,vi x] g s (fun r g' s'=>(∃ n:Int,r=vi n∧decide (n≥0)=l.contains x)∧g=g'∧s=s'):=by
 obtain ⟨p,c,rfl⟩:=za2 hv;refine za9 (args:=[.slice p l.length c,vi x]) func128 I ntmps128 (bE I) ?_;refine rZ (aT I (sQ (sW I (lU (eN ak I) (lM I (tZ (bK ?_)))))));refine oP (ι:=Nat) (fun k=>[(0,.slice p l.length c),(1,vi x),(7,vi l.length),(8,vi k)]) (fun _=>g) (fun _=>s) (fun k=>k≤l.length∧x ∉ l.take k) (fun k=>l.length - k) 0 sB I I ⟨zf3 _,by simp⟩ ?_;rintro k ⟨hk,hno⟩;refine rZ (yL I (tZ (sQ ?_)));refine iP I (fun hlt=>?_) (fun hlt=>?_)
 ·have hkl:k<l.length:=oM;have hb1:=za4 hv oM;have hgx:l[((k:Nat):Int).toNat]?=some l[k]:=gE hkl;refine kP (tN (sQ (bK (sW I (aT I (sW I (lM I (lM I (lU (iA ak zT3 I I hb1 oM sL) (lK (eB iT3 I (za5 hv) hgx I) (yE I (tZ ?_))))))))))));refine iP I (fun he=>?_) (fun he=>?_)
  ·refine sW I (aT I (rE (bR (tR (tR (bR (tR ?_)))))));have hm:l.contains x=true:=by rw[List.contains_iff_mem,he]; exact gM hkl
   exact za6 (.inl I) results128 I ⟨⟨k,I,by rw[hm]; simp⟩,I,I⟩
  ·refine kP (bN (tN (rG (yD I (lM I (nL ?_))))));exact gA (k+1) sB I I ⟨oM,by rw[tS hkl,ze9]; rintro (h | h); exact hno h; simp at h; exact he h⟩ oM
 ·have hkk:l.take k=l:=tL oM;rw[hkk] at hno;refine xI (tX (tX (bX (tN (rZ (aT I (rE ?_)))))));have hm:l.contains x=false:=by rw[← zj4,List.contains_iff_mem]; exact hno
  exact za6 (.inl I) results128 I ⟨⟨-1,I,by rw[hm]; rfl⟩,rfl,rfl⟩
theorem CT (E:World)(g:PH)(s:Own)(v:Value)(l:List Int)(x:Int)(hv:bT g v l)(hl:l.length<1099511627776) :
  Ctr Tryz.prog E 78 #[v,vi x] g s (fun r g' s'=>r=vb (l.contains x)∧g=g'∧s=s'):=by
 refine za9 (args:=[v,vi x]) func78 I ntmps78 (bE I) ?_;refine rZ (aT I (sW I (lM I (lW (cL call128 I (Cz E g _ v l x hv hl)) ?_))));rintro _ _ _ ⟨⟨n,rfl,hn⟩,rfl,rfl⟩;refine lU (gQ I I) (aT I (rE ?_));exact za6 (.inl I) results78 I ⟨by rw[hn],I,I⟩
def atP (L:List Cl):List (Int×Value):=L.zipIdx.map fun q=>(q.1.id,vi q.2)
theorem ER (L:List Cl)(c:Cl):atP (L++[c])=atP L++[(c.id,vi L.length)]:=by
 unfold atP;rw[List.zipIdx_append,zg2];simp
theorem BB {L:List Cl}{c:Cl}(h:∀ d∈L,d.id≠c.id):kh (atP L) c.id (vi L.length)=atP (L++[c]):=by
 rw[ER];refine jy _ _ _ fun p hp=>?_;obtain ⟨q,hq,rfl⟩:=ze8.1 hp;exact h q.1 (zf8 (List.mem_zipIdx_iff_getElem?.1 hq))
theorem mR (id:Int):∀ (L:List Cl) (k:Nat),ft (L.zipIdx k |>.map fun q=>(q.1.id,vi q.2)) id=none∧az L id=none∨∃ c i,az L id=some c∧L[i]?=some c∧ft (L.zipIdx k |>.map fun q=>(q.1.id,vi q.2)) id=some (vi (k+i:Nat))
 | [],_=>.inl ⟨rfl,rfl⟩
 | d::L,k=>by
  rw[List.zipIdx_cons,zg1,cd];unfold az;rw[zi3];by_cases e:id=d.id
  ·refine .inr ⟨d,0,?_,I,?_⟩
   ·rw[zf5 (show d.id=id from e.symm)]
   ·rw[zf7 e];rfl
  ·rw[zf6 e,zf4 (fun h:d.id=id=>e h.symm)]
   rcases mR id L (k+1) with ⟨h1,h2⟩ | ⟨c,i,h1,h2,h3⟩
   ·exact .inl ⟨h1,h2⟩
   ·exact .inr ⟨c,i+1,h1,h2,by rw[h3]; congr 2; omega⟩
theorem vN {L:List Cl}(hL:Rt L)(id:Int):(ft (atP L) id=none∧az L id=none)∨∃ c,az L id=some c∧L[ixB L c.id]?=some c∧c.id=id∧ft (atP L) id=some (vi (ixB L c.id:Nat)):=by
 rcases mR id L 0 with h | ⟨c,i,h1,h2,h3⟩
 ·exact .inl h
 ·refine .inr ⟨c,h1,?_,(bF h1).2,?_⟩
  ·rw[hL.ix h2]; exact h2
  ·rw[hL.ix h2,← Nat.zero_add i]; exact h3
def AA (g:PH)(v:Value)(L:List Cl)(T:List (List Int)):Prop :=
 ∃ b m cv iv,v=pp b 0∧g b=some (.cells #[cv,.map (some m),iv,vi T.length] 81 (0,0))∧am g cv L∧Mp g m (atP L)∧bT g iv (L.map fun c=>((tlB L 0 T c.id:Nat):Int))
theorem AA.mono {g g':PH}{v:Value}{L:List Cl}{T:List (List Int)}(h:AA g v L T)(hl:Le g g'):AA g' v L T:=by
 obtain ⟨b,m,cv,iv,h1,h2,h3,h4,h5⟩:=h;exact⟨b,m,cv,iv,h1,hl _ _ h2,h3.mono hl,h4.mono hl,za3 h5 hl⟩
theorem zO {L:List Cl}(hL:Rt L)(F:Cl→Int){c:Cl}(hc:L[ixB L c.id]?=some c)(y:Int):(L.map F).set (ixB L c.id) y=L.map fun d=>if d.id=c.id then y else F d:=by
 refine List.ext_getElem? fun i=>?_;rw[List.getElem?_set,zh6,zh6,ze3];cases hi:L[i]? with
 | none =>
  have h1:L.length≤i:=List.getElem?_eq_none_iff.1 hi;split
  ·rw[zf6 oM]; rfl
  ·rfl
 | some d =>
  have h1:=hL.ix hi;by_cases e:d.id=c.id
  ·have e2:ixB L c.id=i:=by rw[← e]; exact h1
   have h2:=(zf2.1 hi).1;rw[zf7 e2,zf7 oM];show some y=some (if d.id=c.id then y else F d);rw[zf7 e]
  ·have e2:ixB L c.id≠i:=fun h=>by
    rw[h,hi] at hc;injection hc with hc
    exact e (by rw[hc])
   rw[zf6 e2];show some (F d)=some (if d.id=c.id then y else F d);rw[zf6 e]
theorem Ha:∀ k:Nat,k<6→∀ x:Nat,x<64→x<2 ^ k→IntKind.i64.wrap (BitVec.ofInt IntKind.i64.bits (x:Int) ||| BitVec.ofInt IntKind.i64.bits ((2 ^ k:Nat):Int)).toNat=((x+2 ^ k:Nat):Int):=by decide +kernel
theorem AV:∀ n:Nat,n<10→IntKind.i64.wrap (1 * 2 ^ min ((n:Nat):Int).toNat IntKind.i64.bits)=((2 ^ n:Nat):Int):=by decide
theorem Tryz.build81 (q:Option Addr)(n k m:Nat)(t:Int)(w:World):(Instr.build 81 #[(0,.slice q n k),(1,.map (some m)),(3,vi t)]).run Tryz.prog w = .ok (.agg #[.slice q n k,.map (some m),.slice none 0 0,vi t]) w:=by
 have h1:∀ n,(vi n).cells = #[vi n]:=fun _=>rfl;have h2:(Value.slice q n k).cells = #[.slice q n k]:=rfl;have h3:(Value.map (some m)).cells = #[.map (some m)]:=rfl;simp[Instr.build,Instr.fill,h1,h2,h3];rfl
def yV (L:List Cl)(T:List (List Int))(ids:List Int)(c:Cl):Nat:=tlB L 0 T c.id+if ids.contains c.id then 2 ^ T.length else 0
set_option maxHeartbeats 2000000
theorem kN {l:List Cl}{T:List (List Int)}(h:eO l T=0):(bg l).2=0∧T.length≤6:=by
 unfold eO at h;split at h
 ·rename_i h1; exact absurd h h1
 ·rename_i h1;split at h
  ·cases h
  ·rename_i h2; exact⟨zg6 h1,oM⟩
theorem CS {L:List Cl}{T:List (List Int)}:(L.map fun c=>((tlB L 0 T c.id:Nat):Int)).contains 0=L.any fun c=>decide (tlB L 0 T c.id=0):=by
 rw[Bool.eq_iff_iff,List.contains_iff_mem,zj5,ze8];constructor
 ·rintro ⟨c,hc,h⟩; exact⟨c,hc,by simpa using Int.ofNat_eq_zero.1 h⟩
 ·rintro ⟨c,hc,h⟩; exact⟨c,hc,by simp at h; rw[h]; rfl⟩
theorem oH (E:World)(hE:E.drawn=0)(g:PH)(s:Own)(v tv:Value)(l:List Cl)(T:List (List Int))(hv:am g v l)(hf:cZ l)(hw:∀ c∈l,gz c.id)(ht:aF g tv T)(hT:T.length<1099511627776)(hTl:∀ t∈T,t.length<1099511627776) :
  Ctr Tryz.prog E 35 #[.agg #[v],tv] g s (fun x g' s'=>s=s'∧Le g g'∧∃ pv,x = .tuple #[pv,vi (eO l T)]∧(eO l T=0→AA g' pv (ab l) T)):=by
 obtain ⟨rs,hrs,hall⟩:=ht;have hlen:=hall.length;obtain ⟨q,c,rfl⟩:=za2 hrs;obtain ⟨vp,vc,rfl⟩:=hv.form;refine za9 (args:=[.agg #[.slice vp l.length vc],.slice q rs.length c]) func35 I ntmps35 (bE I) ?_;refine rZ (bW (bO I) fun b2=>?_);refine lA I (aT I (sQ (rZ (lK (qV 0 bq aw I I I) (lW (cL call37 I (j4 E g _ _ l hv hf)) ?_)))));rintro _ _ _ ⟨rfl,rfl,rfl⟩;refine lM I (yX I (yX I (lA I (aT I (sW I (lU (nQ I I) (tZ ?_)))))));refine iP I (fun hbad=>?_) (fun hbad=>?_)
 ·refine sW I (lA I (aT I (rE (tR ?_))));have he:eO l T=(bg l).2:=by unfold eO; rw[zf7 hbad]
  refine dR (s':=s) uR ?_;exact ST.ret2 (.inl I) results35 I I ⟨I,zb7 g,_,by rw[he]; rfl,fun h=>absurd (he ▸ h) hbad⟩
 ·have hok:(bg l).2=0:=zg6 hbad;have hRt:=m5 hok;have hLt:ab l=aa l:=by
   have h1:=hRt.tab;unfold ab at h1 ⊢;rw[hRt.canon] at h1;exact h1
  refine kP (tN (sQ (sW I (lU (eN bH I) (lU (gR I I) (tZ ?_))))));refine iP I (fun hmany=>?_) (fun hmany=>?_)
  ·refine rZ (lA I (aT I (rE (tR ?_))));have he:eO l T=2:=by unfold eO; rw[zf6 hbad,zf7 oM]
   refine dR (s':=s) uR ?_;exact ST.ret2 (.inl I) results35 I I ⟨I,zb7 g,_,by rw[he],fun h=>by rw[he] at h; cases h⟩
  ·have hT6:T.length≤6:=oM;refine kP (tN (rZ (lK (qV 0 bq aw I I I) (lW (cL call15 I (ir E g _ _ l hv hf)) ?_))));rintro _ g1 _ ⟨rfl,hle1,u,rfl,hu⟩;obtain ⟨up,uc,rfl⟩:=hu.form;refine lU (SU.field fq I ii I I) (lW (SO.mkMap) ?_);rintro _ _ _ ⟨b33,rfl,rfl,rfl⟩;refine lM I (lU (eN bH I) (lU (za1 I (build81 _ _ _ _ _)) (bW (bO I) fun b37=>?_)));refine aT I (sQ (sW I (lU (nC I) (lU (fA pY I ek I) (lK (qL ii I (cO 0 I I)) (lU (eN aO I) (lM I (tZ (bK ?_)))))))));have hid:∀ k (hk:k<(aa l).length),∀ d∈(aa l).take k,d.id≠(aa l)[k].id:=fun k hk d hd e=>by
    obtain ⟨i,hi,rfl⟩:=List.mem_iff_getElem.1 hd;rw[ze1] at hi;rw[List.getElem_take] at e;have:=zc6.1 hRt.asc i k oM hk oM;omega
   have hLl:(aa l).length<1099511627776:=by have:=hRt.few; omega
   have hinz:∀ id,tlB (aa l) 0 [] id=0:=fun id=>rfl;generalize hLd:aa l=L at *;obtain ⟨us,hus,hallu⟩:=hu;have hul:=hallu.length;refine oP (ι:=Nat) (fun k=>[(1,.slice q rs.length c),(2,pp b2 0),(8,pp b37 0),(41,.slice up L.length uc),(42,vi L.length),(43,vi k)]) (fun _=>g1) (fun k=>pt b37 (.cells #[.slice up L.length uc,.map (some b33),.slice none 0 0,vi rs.length] 81 (0,0))::mp b33 (atP (L.take k))::pt b2 (.cells #[.slice vp l.length vc] 30 (0,0))::s) (fun k=>k≤L.length) (fun k=>L.length - k) 0 sB I I (zf3 _) ?_;rintro k hk;refine rZ (yL I (tZ (sQ ?_)));refine iP I (fun hlt=>?_) (fun hlt=>?_)
   ·have hkl:k<L.length:=oM;have hku:k<us.length:=oM;have hR:=hallu.get (gE hkl) (gE hku);have hb1:=za4 hus oM;have hgr:us[((k:Nat):Int).toNat]?=some us[k]:=gE hku;have hput:=BB (hid k hkl);rw[ze1,Nat.min_eq_left oM,← tS hkl,← hR.1] at hput;generalize us[k]=r at *;refine kP (tN (sQ (bK (sW I (lU (iA aO aK I I hb1 oM sL) (lK (eA gJ aK I (za5 hus) hgr) (bW (aL zl1) fun b10=>?_)))))));refine lA I (oZ (sK 0 aK I I I I I sB) (tZ ?_));refine dW [7] [(0,2),(1,2),(2,2),(3,1),(4,2),(5,1),(6,2),(7,0)] zd9 kR ?_;refine yM I (pU I (nC I) (pU I (fA pY I sizeOf79 I) (pK I (qL (v:=.map (some b33)) isAgg79 I (cO 1 I I)) (pU I (fA ar I zT3 I) (pK I (qL (v:=vi r.id) iT3 I (cO 0 I I)) (yM I (SP.on I (SO.mapUpdate 2 mty79 I I I I) (.inl dC) ?_)))))));rintro _ _ _ ⟨rfl,rfl⟩;rw[hput];refine pN (bN (tN (rG (yD I (lM I (nL (dR (.cons _ (.refl _)) ?_)))))));exact gA (k+1) sB I I oM oM
   ·have hkk:k=L.length:=oM;subst hkk;rw[List.take_length];refine xI (tX (tX (bX (tN (sW I (lM I (lU (nC I) (lU (fA pY I ek I) (lK (qL (v:=.slice up L.length uc) ii I (cO 0 I I)) (lU (eN aO I) (lW (mK encInt 0 sty25 I I I oM oM) ?_)))))))))));rintro _ _ _ ⟨bi,rfl,rfl,rfl⟩;refine lU (nC I) (lU (fA pY I bZ I) (oZ (SO.store1 1 bZ I I I I (by show 2<4; decide) I) ?_));refine tZ (sQ (sQ ?_));refine SC.to (g':=g1) (s':=rowA encInt 3 (.slice (some ⟨bi,0,none⟩) L.length L.length) (L.map fun c=>((tlB L 0 (T.take 0) c.id:Nat):Int))::pt b37 (.cells #[.slice up L.length uc,.map (some b33),.slice (some ⟨bi,0,none⟩) L.length L.length,vi rs.length] 81 (0,0))::mp b33 (atP L)::pt b2 (.cells #[.slice vp l.length vc] 30 (0,0))::s) (fun w hw=>by rw[show (L.map fun c=>((tlB L 0 (T.take 0) c.id:Nat):Int))=List.replicate L.length 0 from (by rw[List.take_zero]; show (L.map fun _=>(0:Int))=_; exact List.map_const')]; exact hw) ?_;refine rG (lM I (lU (eN bH I) (lM I (tZ (bK ?_)))));refine oP (ι:=PH×Nat) (fun z=>[(1,.slice q rs.length c),(2,pp b2 0),(8,pp b37 0),(65,.slice q rs.length c),(66,vi rs.length),(67,vi z.2)]) (fun z=>z.1) (fun z=>rowA encInt 3 (.slice (some ⟨bi,0,none⟩) L.length L.length) (L.map fun c=>((tlB L 0 (T.take z.2) c.id:Nat):Int))::pt b37 (.cells #[.slice up L.length uc,.map (some b33),.slice (some ⟨bi,0,none⟩) L.length L.length,vi rs.length] 81 (0,0))::mp b33 (atP L)::pt b2 (.cells #[.slice vp l.length vc] 30 (0,0))::s) (fun z=>Le g1 z.1∧z.2≤rs.length∧((T.take z.2).any fun t=>t.any fun id=>(az L id).isNone)=false) (fun z=>rs.length - z.2) (g1,0) sB I I ⟨zb7 _,zf3 _,by simp⟩ ?_;rintro ⟨g2,k⟩ ⟨hle2,hk,hno⟩;dsimp only at hle2 hk hno ⊢;refine rZ (yL I (tZ (sQ ?_)));refine iP I (fun hlt2=>?_) (fun hlt2=>?_)
    ·have hkr:k<rs.length:=oM;have hkT:k<T.length:=oM;have hb1:=za4 hrs oM;have hTk:=hTl _ (gM hkT);have hRk:=(hall.get (gE hkT) (gE hkr)).mono (hle1.trans hle2);have hRl:=hRk.len;have hgr:rs[((k:Nat):Int).toNat]?=some rs[k]:=gE hkr;have htk:T.take (k+1)=T.take k++[T[k]]:=tS hkT;generalize rs[k]=r at *;obtain ⟨rp,rn,rc⟩:=r;dsimp only at hRl;generalize T[k]=t at *;subst hRl;have hxs:bT g2 (.slice rp t.length rc) t:=hRk;refine kP (tN (sQ (bK (sW I (lU (iA bH bZ I I hb1 oM sL) (lK (eB (u:=.slice rp t.length rc) dx I (za5 (za3 hrs (hle1.trans hle2))) hgr I) (lA I (aT I (sQ (sW I (lU (eN ak I) (lM I (tZ (bK ?_))))))))))))));refine oP (ι:=Nat) (fun j=>[(1,.slice q rs.length c),(2,pp b2 0),(8,pp b37 0),(11,vi k),(12,.slice rp t.length rc),(65,.slice q rs.length c),(66,vi rs.length),(67,vi k),(72,.slice rp t.length rc),(73,vi t.length),(74,vi j)]) (fun _=>g2) (fun _=>rowA encInt 3 (.slice (some ⟨bi,0,none⟩) L.length L.length) (L.map fun c=>((tlB L 0 (T.take k) c.id:Nat):Int))::pt b37 (.cells #[.slice up L.length uc,.map (some b33),.slice (some ⟨bi,0,none⟩) L.length L.length,vi rs.length] 81 (0,0))::mp b33 (atP L)::pt b2 (.cells #[.slice vp l.length vc] 30 (0,0))::s) (fun j=>j≤t.length∧((t.take j).any fun id=>(az L id).isNone)=false) (fun j=>t.length - j) 0 sB I I ⟨zf3 _,by simp⟩ ?_;rintro j ⟨hj,hjno⟩;refine rZ (yL I (tZ (sQ ?_)));refine iP I (fun hlt3=>?_) (fun hlt3=>?_)
     ·have hjt:j<t.length:=oM;have hb2:=za4 hxs oM;have hgj:t[((j:Nat):Int).toNat]?=some t[j]:=gE hjt;have hst:t.take (j+1)=t.take j++[t[j]]:=tS hjt;have hjm:t[j]∈t:=gM hjt;generalize t[j]=id at *
      rcases vN hRt id with ⟨h1,h2⟩ | ⟨cx,h1,h2,h3,h4⟩
      ·refine kP (tN (sQ (bK (rZ (lU (iA ak zT3 I I hb2 oM sL) (lK (eB iT3 I (za5 hxs) hgj I) (aT I (sW I (lU (nC I) (lU (fA pY I sizeOf79 I) (lK (qL (v:=.map (some b33)) isAgg79 I (cO 1 I I)) (lM I (lK (SQ.eq (v':=.tuple #[vi 0,vb false]) (SQ.lookupOk mty79 I I (cG.own 2 I)) (by rw[h1]; rfl)) ?_)))))))))))));refine lM I (yX I (yX I (lA I (aT I (sW I (lU (SU.not I) (tZ (cT I (rZ (lA I (aT I (rE (bR (tR (tR (bR (tR (bR (tR (tR (bR ?_)))))))))))))))))))));refine tR ?_;have he:eO l T=30:=by
        unfold eO;rw[zf6 hbad,zf6 oM,zf7];rw[hLt];refine zj5.2 ⟨t,List.mem_of_mem_take (i:=k+1) (by rw[htk]; simp),zj5.2 ⟨id,hjm,by rw[h2]; rfl⟩⟩
       refine dR (s':=s) uR ?_;exact ST.ret2 (.inl I) results35 I I ⟨I,hle1.trans hle2,_,by rw[he],fun h=>by rw[he] at h; cases h⟩
      ·refine kP (tN (sQ (bK (rZ (lU (iA ak zT3 I I hb2 oM sL) (lK (eB iT3 I (za5 hxs) hgj I) (aT I (sW I (lU (nC I) (lU (fA pY I sizeOf79 I) (lK (qL (v:=.map (some b33)) isAgg79 I (cO 1 I I)) (lM I (lK (SQ.eq (v':=.tuple #[vi (ixB L cx.id:Nat),vb true]) (SQ.lookupOk mty79 I I (cG.own 2 I)) (by rw[h4]; rfl)) ?_)))))))))))));refine lM I (yX I (yX I (lA I (aT I (sW I (lU (SU.not I) (tZ (cF I (kP (bN (tN (rG (yD I (lM I (nL ?_)))))))))))))));exact gA (j+1) sB I I ⟨oM,by rw[hst,List.any_append,hjno]; simp[h1]⟩ oM
     ·have hjj:j=t.length:=oM;subst hjj;rw[List.take_length] at hjno;refine xI (tX (tX (bX (tN (rZ (lK (qV 3 bq aw I I I) (lM I (lW (cL call77 I (z6 E hE g2 _ _ _ l t (hv.mono (hle1.trans hle2)) hf hxs hTk hw)) ?_))))))));rintro v92 g3 _ ⟨rfl,hle3,hcl⟩;obtain ⟨cp,cc,rfl⟩:=za2 hcl;refine lU (eN ak I) (lM I (tZ (bK ?_)));have hcll:=th l t;rw[hLt] at hcll;have hcn:(fz l t).Nodup:=by
       rw[hcll];have h1:(L.map Cl.id).Nodup:=by
        rw[List.Nodup,zk1];exact hRt.asc.imp fun h=>by omega
       exact (List.filter_sublist.map _).nodup h1
      have hcm:∀ id∈fz l t,∃ cx,cx∈L∧cx.id=id:=fun id h=>by
       rw[hcll] at h;obtain ⟨cx,h1,rfl⟩:=ze8.1 h;exact⟨cx,(zh1.1 h1).1,I⟩
      have hcb:∀ cx∈L,(fz l t).contains cx.id=(cu L t).contains cx.id:=fun cx h=>by
       rw[Bool.eq_iff_iff,hcll,List.contains_iff_mem,ze8];constructor
       ·rintro ⟨d,h1,h2⟩;rw[← h2];exact (zh1.1 h1).2
       ·intro h1;exact⟨cx,zh1.2 ⟨h,h1⟩,I⟩
      have hcle:(fz l t).length≤L.length:=by
       rw[hcll,ze3];exact zc2 _ _
      generalize fz l t=cl at *;refine oP (ι:=Nat) (fun j=>[(1,.slice q rs.length c),(2,pp b2 0),(8,pp b37 0),(11,vi k),(65,.slice q rs.length c),(66,vi rs.length),(67,vi k),(92,.slice cp cl.length cc),(93,vi cl.length),(94,vi j)]) (fun _=>g3) (fun j=>rowA encInt 3 (.slice (some ⟨bi,0,none⟩) L.length L.length) (L.map fun c=>((yV L (T.take k) (cl.take j) c:Nat):Int))::pt b37 (.cells #[.slice up L.length uc,.map (some b33),.slice (some ⟨bi,0,none⟩) L.length L.length,vi rs.length] 81 (0,0))::mp b33 (atP L)::pt b2 (.cells #[.slice vp l.length vc] 30 (0,0))::s) (fun j=>j≤cl.length) (fun j=>cl.length - j) 0 sB I (by rw[List.take_zero]; rfl) (zf3 _) ?_;rintro j hj;refine rZ (yL I (tZ (sQ ?_)));refine iP I (fun hlt4=>?_) (fun hlt4=>?_)
      ·have hjc:j<cl.length:=oM;have hb3:=za4 hcl oM;have hgj:cl[((j:Nat):Int).toNat]?=some cl[j]:=gE hjc;have hst:cl.take (j+1)=cl.take j++[cl[j]]:=tS hjc;have hnew:cl[j] ∉ cl.take j:=fun h=>by
        obtain ⟨i,hi,e⟩:=List.mem_iff_getElem.1 h;rw[ze1] at hi;rw[List.getElem_take] at e;exact absurd e (zc6.1 hcn i j oM hjc oM)
       obtain ⟨cx,hcx,hcid⟩:=hcm _ (gM hjc);generalize cl[j]=id at *;subst hcid;have hix:=hRt.ix_get hcx
       rcases vN hRt cx.id with ⟨h1,h2⟩ | ⟨cy,h1,h2,h3,h4⟩
       ·rw[hRt.find hcx] at h2; cases h2
       rw[hRt.find hcx] at h1;cases h1;have hixl:=(zf2.1 hix).1;have hmid:yV L (T.take k) (cl.take j) cx=tlB L 0 (T.take k) cx.id:=by
        unfold yV;rw[zf6 (by rw[List.contains_iff_mem]; exact hnew),Nat.add_zero]
       have hge:(L.map fun c=>((yV L (T.take k) (cl.take j) c:Nat):Int))[ixB L cx.id]?=some ((tlB L 0 (T.take k) cx.id:Nat):Int):=by
        rw[zh6,hix,← hmid];rfl
       have htl:(T.take k).length=k:=by rw[ze1]; omega
       have hlt5:=rJ L cx.id (T.take k);rw[htl] at hlt5;have h64:tlB L 0 (T.take k) cx.id<64:=Nat.lt_of_lt_of_le hlt5 (Nat.pow_le_pow_right dC (show k≤6 by omega));have hset:=zO hRt (fun c=>((yV L (T.take k) (cl.take j) c:Nat):Int)) hix ((tlB L 0 (T.take k) cx.id+2 ^ k:Nat):Int);have hset2:(L.map fun d=>if d.id=cx.id then ((tlB L 0 (T.take k) cx.id+2 ^ k:Nat):Int) else ((yV L (T.take k) (cl.take j) d:Nat):Int))=L.map fun c=>((yV L (T.take k) (cl.take (j+1)) c:Nat):Int):=zc5 fun d _=>by
        unfold yV;rw[hst,htl];by_cases e:d.id=cx.id
        ·rw[zf7 e,e,zf7 (by simp)]
        ·rw[zf6 e];congr 2;have:(cl.take j++[cx.id]).contains d.id=(cl.take j).contains d.id:=by
          rw[Bool.eq_iff_iff,List.contains_iff_mem,List.contains_iff_mem,ze9];simp[e]
         rw[this]
       rw[hset2] at hset;refine kP (tN (sQ (bK (rZ (lU (iA ak zT3 I I hb3 oM sL) (lK (eB iT3 I (za5 hcl) hgj I) (aT I ?_)))))));refine dW [16] [(0,2),(1,2),(2,2),(3,1),(4,2),(5,2),(6,2),(7,1),(8,2),(9,1),(10,2),(11,1),(12,2),(13,2),(14,2),(15,2),(16,0)] zd9 kR ?_;refine yM I (pU I (nC I) (pU I (fA pY I bZ I) (pK I (qL (v:=.slice (some ⟨bi,0,none⟩) L.length L.length) dx I (cO 1 I I)) (yM I (pU I (nC I) (pU I (fA pY I sizeOf79 I) (pK I (qL (v:=.map (some b33)) isAgg79 I (cO 1 I I)) (yM I (pK I (SQ.eq (v':=vi (ixB L cx.id:Nat)) (SQ.lookup mty79 I I (cG.own 2 I)) (by rw[h4]; rfl)) ?_)))))))));refine pU I (SU.eq (v':=.pointer (some ⟨bi,0+ixB L cx.id * 1,none⟩)) (iA ak zT3 I I I oM sL) I) (pK I (eB (j:=ixB L cx.id) iT3 I (zb5 0 I) hge I) (yM I (pU I (SU.eq (v':=vi (2 ^ k:Nat)) (SU.shl I I oM) (zd8 vi (AV k oM))) (pU I (SU.eq (v':=vi (tlB L 0 (T.take k) cx.id+2 ^ k:Nat)) (SU.or I I) (zd8 vi (Ha k oM _ h64 hlt5))) (pU I (SU.eq (v':=.pointer (some ⟨bi,0+ixB L cx.id * 1,none⟩)) (iA ak zT3 I I I oM sL) I) (SP.on I (sT (e:=encInt) (a:=((tlB L 0 (T.take k) cx.id+2 ^ k:Nat):Int)) (j:=ixB L cx.id) 0 zT3 I I I (by rw[ze3]; exact hixl) I) (.inl dC) ?_))))));rintro _ _ _ ⟨rfl,rfl⟩;rw[hset];refine pN (bN (tN (rG (yD I (lM I (nL ?_))))));exact gA (j+1) sB I I oM oM
      ·have hjj:j=cl.length:=oM;subst hjj;refine xI (tX (tX (bX (bN (tN (rG (yD I (lM I (nL ?_)))))))));refine ST.to (g':=g3) (s':=rowA encInt 3 (.slice (some ⟨bi,0,none⟩) L.length L.length) (L.map fun c=>((tlB L 0 (T.take (k+1)) c.id:Nat):Int))::pt b37 (.cells #[.slice up L.length uc,.map (some b33),.slice (some ⟨bi,0,none⟩) L.length L.length,vi rs.length] 81 (0,0))::mp b33 (atP L)::pt b2 (.cells #[.slice vp l.length vc] 30 (0,0))::s) (fun w hw=>by
        have e:(L.map fun c=>((tlB L 0 (T.take (k+1)) c.id:Nat):Int))=L.map fun c=>((yV L (T.take k) (cl.take cl.length) c:Nat):Int):=zc5 fun d hd=>by
         unfold yV;rw[htk,AP,List.take_length,hcb d hd,Nat.zero_add]
        rw[e];exact hw) ?_
       exact gA (g3,k+1) sB I I ⟨hle2.trans hle3,by dsimp only; omega,by dsimp only; rw[htk,List.any_append,hno]; simp only[List.any_cons,List.any_nil,Bool.or_false,Bool.false_or]; exact hjno⟩ (by dsimp only; omega)
    ·have hkk:k=rs.length:=oM;subst hkk;rw[← hlen,List.take_length] at hno ⊢;refine fS fun g5 hle5 hr5=>?_;refine SC.freeze fun g6 hle6 hb6=>?_;refine SC.freezeMap fun g7 hle7 hm7=>?_;have hle17:Le g1 g7:=hle2.trans (hle5.trans (hle6.trans hle7));have hr7:bT g7 (.slice (some ⟨bi,0,none⟩) L.length L.length) (L.map fun c=>((tlB L 0 T c.id:Nat):Int)):=by
      have h1:bT g5 (.slice (some ⟨bi,0,none⟩) L.length L.length) (L.map fun c=>((tlB L 0 T c.id:Nat):Int)):=hr5;exact za3 h1 (hle6.trans hle7)
     have hany:=CS (L:=L) (T:=T);refine xI (tX (tX (bX (tN (sQ (sW I (lU (nC I) (lU (fA pY I bZ I) (lK (qL (v:=.slice (some ⟨bi,0,none⟩) L.length L.length) dx I (cK (hle7 _ _ hb6) I)) (lW (cL call78 I (CT E g7 _ _ _ 0 hr7 (by rw[ze3]; omega))) ?_))))))))));rintro _ _ _ ⟨rfl,rfl,rfl⟩;rw[hany];refine tZ ?_;have he:eO l T=if L.any (fun c=>decide (tlB L 0 T c.id=0)) then 45 else 0:=by
      unfold eO;rw[zf6 hbad,zf6 oM,hLt,hno,zf6 (by simp)]
     refine iQ I (fun hc=>?_) (fun hc=>?_)
     ·refine rZ (lA I (aT I (rE (tR ?_))));rw[hc,zf7 rfl] at he;refine dR (s':=s) uR ?_;exact ST.ret2 (.inl I) results35 I I ⟨I,hle1.trans hle17,_,by rw[he],fun h=>by rw[he] at h; cases h⟩
     ·refine kP (tN (sW I (lA I (aT I (rE ?_)))));rw[hc,zf6 (by simp)] at he;refine dR (s':=s) uR ?_;exact ST.ret2 (.inl I) results35 I I ⟨I,hle1.trans hle17,_,by rw[he],fun _=>by rw[hLt]; exact⟨b37,b33,_,_,I,hle7 _ _ hb6,am.mono ⟨us,hus,hallu⟩ hle17,hm7,hr7⟩⟩
theorem SU.andNotB {P:Program}{N:Nat}{f:Fr}{dst:Option Tmp}{ty:TypeId}{pos:String}{af:Array Edge}{gd:Option (Nat×Bool)}{x y:Operand}{T U:TypeId}{k:IntKind}{m n:Int}(hx:ev f x=some (.int k m))(hy:ev f y=some (.int k n)) :
  SU P N ⟨dst,.binOp .andNot T x y U,ty,pos,af,gd⟩ f (.int k (k.wrap (BitVec.ofInt k.bits m &&& ~~~ BitVec.ofInt k.bits n).toNat)):=fun a w ha=>by
 simp only[execOp,ha.ev hx,ha.ev hy,eqGuard,binOp,ne_eq,not_true_eq_false,if_false,Op.intBits]; rfl
def pc1 (n:Nat):Nat:=(n / 2 &&& 6148914691236517205)+(n &&& 6148914691236517205)
def pc2 (n:Nat):Nat:=(pc1 n / 4 &&& 3689348814741910323)+(pc1 n &&& 3689348814741910323)
theorem wx (E:World)(g:PH)(s:Own)(n:Nat)(hn:n<64) :
  Ctr Tryz.prog E 130 #[.int .u64 n] g s (fun x g' s'=>x=vi (onesB n:Nat)∧g=g'∧s=s'):=by
 refine za9 (args:=[.int .u64 n]) func130 I ntmps130 (bE I) ?_;refine rZ (aT I (sW I (lU (SU.eq (v':=.int .u64 (n / 2:Nat)) (SU.shr I I dC) (zd8 (Value.int .u64) (by revert n; decide +kernel))) ?_)));refine lU (SU.eq (v':=.int .u64 (n / 2 &&& 6148914691236517205:Nat)) (SU.and I I) (zd8 (Value.int .u64) (by revert n; decide +kernel))) ?_;refine lM I (lU (SU.eq (v':=.int .u64 (n &&& 6148914691236517205:Nat)) (SU.and I I) (zd8 (Value.int .u64) (by revert n; decide +kernel))) ?_);refine lU (SU.eq (v':=.int .u64 (pc1 n:Nat)) (zd6 I I) (zd8 (Value.int .u64) (by revert n; decide +kernel))) ?_;refine aT I (sW I (lU (SU.eq (v':=.int .u64 (pc1 n / 4:Nat)) (SU.shr I I dC) (zd8 (Value.int .u64) (by revert n; decide +kernel))) ?_));refine lU (SU.eq (v':=.int .u64 (pc1 n / 4 &&& 3689348814741910323:Nat)) (SU.and I I) (zd8 (Value.int .u64) (by revert n; decide +kernel))) ?_;refine lM I (lU (SU.eq (v':=.int .u64 (pc1 n &&& 3689348814741910323:Nat)) (SU.and I I) (zd8 (Value.int .u64) (by revert n; decide +kernel))) ?_);refine lU (SU.eq (v':=.int .u64 (pc2 n:Nat)) (zd6 I I) (zd8 (Value.int .u64) (by revert n; decide +kernel))) ?_;refine aT I (sW I (lU (SU.eq (v':=.int .u64 (pc2 n / 16:Nat)) (SU.shr I I dC) (zd8 (Value.int .u64) (by revert n; decide +kernel))) ?_));refine lM I (lU (SU.eq (v':=.int .u64 (pc2 n / 16+pc2 n:Nat)) (zd6 I I) (zd8 (Value.int .u64) (by revert n; decide +kernel))) ?_);refine lU (SU.eq (v':=.int .u64 (onesB n:Nat)) (SU.and I I) (zd8 (Value.int .u64) (by revert n; decide +kernel))) ?_;refine aT I (sW I (lM I (lU (SU.eq (v':=.int .u64 0) (SU.shr I I dC) (zd8 (Value.int .u64) (by revert n; decide +kernel))) ?_)));refine lU (SU.eq (v':=.int .u64 (onesB n:Nat)) (zd6 I I) (zd8 (Value.int .u64) (by revert n; decide +kernel))) ?_;refine aT I (sW I (lM I (lU (SU.eq (v':=.int .u64 0) (SU.shr I I dC) (zd8 (Value.int .u64) (by revert n; decide +kernel))) ?_)));refine lU (SU.eq (v':=.int .u64 (onesB n:Nat)) (zd6 I I) (zd8 (Value.int .u64) (by revert n; decide +kernel))) ?_;refine aT I (sW I (lM I (lU (SU.eq (v':=.int .u64 0) (SU.shr I I dC) (zd8 (Value.int .u64) (by revert n; decide +kernel))) ?_)));refine lU (SU.eq (v':=.int .u64 (onesB n:Nat)) (zd6 I I) (zd8 (Value.int .u64) (by revert n; decide +kernel))) ?_;refine aT I (sW I (lU (SU.eq (v':=vi (onesB n:Nat)) (zd5 ol uT3 I) (zd8 vi (by revert n; decide +kernel))) ?_));refine lU (SU.eq (v':=vi (onesB n:Nat)) (SU.and I I) (zd8 vi (by revert n; decide +kernel))) ?_;refine aT I (rE ?_);exact za6 (.inl I) results130 I ⟨I,I,I⟩
theorem mF (E:World)(g:PH)(s:Own)(n:Nat)(hn:n<64) :
  Ctr Tryz.prog E 82 #[.int .u64 n] g s (fun x g' s'=>x=vi (onesB n:Nat)∧g=g'∧s=s'):=by
 refine za9 (args:=[.int .u64 n]) func82 I ntmps82 (bE I) ?_;refine rZ (aT I (sQ (cF I (kP (tN (sW I (lW (cL call130 I (wx E g s n hn)) ?_)))))));rintro _ _ _ ⟨rfl,rfl,rfl⟩;refine aT I (rE ?_);exact za6 (.inl I) results82 I ⟨I,I,I⟩
theorem zu (E:World)(g:PH)(s:Own)(n:Int) :
  Ctr Tryz.prog E 83 #[vi n] g s (fun x g' s'=>x=vi (sgP n)∧g=g'∧s=s'):=by
 have hb:0≤n % 2∧n % 2<2:=⟨zk5 _ dC,zk4 _ dC⟩;refine za9 (args:=[vi n]) func83 I ntmps83 (bE I) ?_;refine rZ (aT I (sW I (lU (SU.eq (v':=vi (n % 2)) (SU.and I I) (zd8 vi (rV n))) (lU (SU.eq (v':=vi (2 * (n % 2))) (SU.mulW I I) (zd8 vi (zk8 _ oM))) (lU (sU I I oM) (aT I (rE ?_)))))));exact za6 (.inl I) results83 I ⟨I,I,I⟩
theorem Df {n:Nat}(h:n≤6):2 ^ n≤64:=Nat.pow_le_pow_right dC h (n:=2)
theorem Fu {n i s:Nat}(hn:n≤6)(hi:i<1099511627776)(hs:s<64):i * 2 ^ n≤70368744177664∧bId n i s≤70368744177728:=by
 have h1:i * 2 ^ n≤1099511627776 * 64:=Nat.mul_le_mul oM (Df hn);unfold bId;omega
theorem nH (E:World)(g:PH)(s:Own)(v:Value)(L:List Cl)(T:List (List Int))(i t:Nat)(hv:AA g v L T)(hT:T.length≤6)(hi:i<1099511627776)(ht:t<64) :
  Ctr Tryz.prog E 81 #[v,vi i,vi t] g s (fun x g' s'=>x=vi (bId T.length i t)∧g=g'∧s=s'):=by
 obtain ⟨b,m,cv,iv,rfl,hb,-⟩:=hv;have h1:=Fu hT hi ht;refine za9 (args:=[pp b 0,vi i,vi t]) func81 I ntmps81 (bE I) ?_;refine rZ (aT I (sW I (lM I (lU (nC I) (lU (fA pY I zT3 I) (lK (qL (v:=vi T.length) iT3 I (cK hb I)) (lU (SU.eq (v':=vi (i * 2 ^ T.length:Nat)) (SU.shl I I oM) (zd8 vi (by rw[show min ((T.length:Nat):Int).toNat IntKind.i64.bits=T.length from by have:IntKind.i64.bits=64:=I; omega,zk8 _ (by have e:((i:Int) * 2 ^ T.length)=((i * 2 ^ T.length:Nat):Int):=(by rw[Int.natCast_mul,Int.natCast_pow]; rfl); rw[e]; omega),Int.natCast_mul,Int.natCast_pow]; rfl))) ?_)))))));refine lM I (lU (SU.eq (v':=vi (bId T.length i t)) (aD I I oM) (zd8 vi (by unfold bId; omega))) ?_);refine aT I (rE ?_);exact za6 (.inl I) results81 I ⟨I,I,I⟩
theorem Ag:∀ s:Nat,s<64→∀ b:Nat,b<64→decide (IntKind.i64.wrap (BitVec.ofInt IntKind.i64.bits (s:Int) &&& ~~~ BitVec.ofInt IntKind.i64.bits (b:Int)).toNat=0)=decide (s &&& b=s):=by decide +kernel
theorem zm (b:Nat){k:Nat}:((List.range (k+1)).filter fun s=>decide (0<s)&&decide (s &&& b=s))=((List.range k).filter fun s=>decide (0<s)&&decide (s &&& b=s))++if 0<k∧k &&& b=k then [k] else []:=by
 rw[List.range_succ,zh3];congr 1;by_cases h:0<k∧k &&& b=k
 ·rw[zf7 h,List.filter_cons_of_pos (by simp[h.1,h.2])];rfl
 ·rw[zf6 h,List.filter_cons_of_neg (by simpa using h)];rfl
theorem zy (E:World){ι:Type}(G:ι→PH)(S:ι→Own)(J:List Nat→ι→Prop)(fn:FuncId)(fc:Array Value)(b:Nat)(hb:b<64)(i0:ι)(h0:J [] i0)
  (hstep:∀ pre s i,J pre i→pre.length≤b→0<s→s≤b→s &&& b=s→cI Tryz.prog E (.func (.func fn) #[] fc) [vi (s:Nat)] (G i) (S i) (fun _ g' s'=>∃ j,G j=g'∧S j=s'∧J (pre++[s]) j)) :
  Ctr Tryz.prog E 79 #[vi b,.func (.func fn) #[] fc] (G i0) (S i0) (fun _ g' s'=>∃ j,G j=g'∧S j=s'∧J (bC b) j):=by
 refine za9 (args:=[vi b,.func (.func fn) #[] fc]) func79 I ntmps79 (bE I) ?_;refine rZ (aT I (bK ?_));refine oP (ι:=Nat×ι) (fun z=>[(0,vi b),(1,.func (.func fn) #[] fc),(4,vi z.1)]) (fun z=>G z.2) (fun z=>S z.2) (fun z=>1≤z.1∧z.1≤b+1∧J ((List.range z.1).filter fun s=>decide (0<s)&&decide (s &&& b=s)) z.2) (fun z=>b+1 - z.1) (1,i0) sB I I ⟨lR _,by dsimp only; omega,by
  show J ((List.range 1).filter fun s=>decide (0<s)&&decide (s &&& b=s)) i0;rw[show (List.range 1)=[0] from rfl,List.filter_cons_of_neg (by simp)];exact h0⟩ ?_
 rintro ⟨k,i⟩ ⟨hk1,hkb,hJ⟩;dsimp only at hk1 hkb hJ ⊢;refine sQ (sW I (lM I (lU (SU.leq I I) (tZ ?_))));refine iP I (fun hle=>?_) (fun hle=>?_)
 ·have hkb2:k≤b:=oM;have hsub:=Ag k oM b hb;have htk:=zm b (k:=k);refine kP (tN (sQ (bK (sW I (lM I (lU (SU.andNotB I I) (lU (SU.eq (v':=vb (decide (k &&& b=k))) (eQ I I) (zd8 vb hsub)) (tZ ?_))))))));refine iP I (fun hs=>?_) (fun hs=>?_)
  ·rw[zf7 ⟨oM,hs⟩] at htk;refine rG (lM I (lM I (lW (SO.callV I I (hstep _ k i hJ (zk6 (zc2 _ _) (by rw[zi1]; omega)) oM hkb2 hs)) ?_)));rintro _ _ _ ⟨j,rfl,rfl,hj⟩;refine nL (bN (tN (rG (lM I (yD I (lA I (nL ?_)))))));exact gA (k+1,j) sB I I ⟨by dsimp only; omega,by dsimp only; omega,by dsimp only; rw[htk]; exact hj⟩ (by dsimp only; omega)
  ·rw[zf6 (fun h=>hs h.2),zc3] at htk;refine kP (bN (tN (rG (lM I (yD I (lA I (nL ?_)))))));exact gA (k+1,i) sB I I ⟨by dsimp only; omega,by dsimp only; omega,by dsimp only; rw[htk]; exact hJ⟩ (by dsimp only; omega)
 ·refine xI (tX (tX (bX ?_)));have hkk:k=b+1:=oM;subst hkk;exact ST.ret0 (.inr I) results79 ⟨i,I,I,hJ⟩
def leftB (s j:Nat):Nat:=s - (((fo s).take j).map fun k=>2 ^ k).sum
theorem El:∀ s:Nat,s<64→∀ j:Nat,j<7→(leftB s j=0↔¬ j<onesB s)∧(j<onesB s→IntKind.i64.wrap (BitVec.ofInt IntKind.i64.bits (leftB s j:Int) &&& BitVec.ofInt IntKind.i64.bits (IntKind.i64.wrap (0 - (leftB s j:Int)))).toNat=((2 ^ (fo s).getD j 0:Nat):Int)∧leftB s (j+1)+2 ^ (fo s).getD j 0=leftB s j∧2 ^ (fo s).getD j 0≤s):=by decide +kernel
theorem Dq:∀ s:Nat,s<64→0<s→decide (IntKind.i64.wrap (BitVec.ofInt IntKind.i64.bits (s:Int) &&& BitVec.ofInt IntKind.i64.bits ((s:Int) - 1)).toNat≠0)=decide (1<onesB s):=by decide +kernel
theorem sf:∀ s:Nat,s<64→onesB s≤6:=by decide +kernel
theorem AM:∀ t:Nat,t<64→IntKind.u64.wrap (t:Int)=(t:Int):=by decide
def tw (L:List Cl)(n s:Nat)(x:ai):ai:=⟨bId n (ixB L x.cell) s,x.sign⟩
def Ar (n i s:Nat)(d:Int)(q:Nat×Nat):ai:=⟨bId n i (s - 2 ^ q.1),sgP (q.2+d)⟩
theorem rI (L:List Cl)(n i:Nat)(y:Cl)(s:Nat):me L n i y s=y.sides.map (tw L n s)++if onesB s≤1 then [] else (fo s).zipIdx.map (Ar n i s y.dim):=rfl
theorem Ab (E:World)(g:PH)(s:Own)(bx bi by' bo:Nat)(pv ov:Value)(L:List Cl)(T:List (List Int))(i t:Nat)(y:Cl)(r:Rc)(rs:List Rc)(hcov:AA g pv L T)(hL:Rt L)(hT:T.length≤6)(hi:L[i]?=some y)(hy:au g y r)
  (hbx:g bx=some (.cells #[pv] 66 (0,0))) (hbi:g bi=some (.cells #[vi i] 3 (0,0))) (hby:g by'=some (.cells (encCell.enc r).toArray 78 (0,0))) (ht:t<64) (ht0:0<t) (hrs:rs.length<1099511627776) :
  cI Tryz.prog E (.func (.func 80) #[] #[pp bx 0,pp bi 0,pp by' 0,pp bo 0]) [vi (t:Nat)] g (pt bo (.cells #[ov] 30 (0,0))::rowA encCell 78 ov rs::s)
   (fun _ g' s'=>Le g g'∧∃ ov' r',s'=pt bo (.cells #[ov'] 30 (0,0))::rowA encCell 78 ov' (rs++[r'])::s∧au g' (aY L T.length i y t) r'):=by
 refine cI.mk (cap:=[pp bx 0,pp bi 0,pp by' 0,pp bo 0]) call80 ?_;obtain ⟨rid,rdim,rp,rn,rc⟩:=r;obtain ⟨h1,h2,hsl⟩:=hy;dsimp only at h1 h2 hsl;have hrn:rn=y.sides.length:=Sl.slen hsl;subst h1 h2 hrn;have hym:y∈L:=zf8 hi;have hf:=hL.form y hym;have hdim:=hf.dim;have hil:i<1099511627776:=by
  have h3:=(zf2.1 hi).1;have h4:=hL.few;omega
 have hcov0:=hcov;obtain ⟨b,m,cv,iv,rfl,hb,hcv,hm,hiv⟩:=hcov;have ho6:=sf t ht;have hsdl:y.sides.length≤64:=by
  have:=hf.cnt;simp only[ax,Bool.or_eq_false_iff,Bool.and_eq_false_iff,decide_eq_false_iff_not] at this;omega
 refine za9 (args:=[vi t,pp bx 0,pp bi 0,pp by' 0,pp bo 0]) func80 I ntmps80 (bE I) ?_;refine SC.cut (ι:=Nat) (fun b6=>[(0,vi t),(1,pp bx 0),(2,pp bi 0),(3,pp by' 0),(4,pp bo 0),(6,pp b6 0)]) (fun _=>g) (fun b6=>pt b6 (.cells #[vi (bId T.length i t),vi (y.dim+(onesB t:Nat) - 1),.slice none 0 0] 78 (0,0))::pt bo (.cells #[ov] 30 (0,0))::rowA encCell 78 ov rs::s) (fun _=>True) ?_ ?_
 ·refine SC.drawX [13] zd9 kR ?_;refine SX.q (i:=0) rfl kR (qL (v:=pp b 0) isAgg66 rfl (cK hbx rfl)) dC (SX.q (i:=1) rfl kR (qL (v:=vi i) iT3 rfl (cK hbi rfl)) dC (SX.u (i:=2) rfl kR (mV rfl) dC (SX.u (i:=4) rfl kR (fA ar rfl zT3 rfl) dC (SX.q (i:=5) rfl kR (qL (v:=vi y.dim) iT3 rfl (cK hby rfl)) dC ?_))));refine SX.u (i:=6) I kR (mV I) dC (SX.u (i:=7) I kR (SU.eq (v':=.int .u64 t) (zd5 uT3 iU I) (zd8 (Value.int .u64) (AM t ht))) dC ?_)
  repeat' (first
   | (refine SB.o (i:=3) I (cL call81 I (nH E g _ (pp b 0) L T i t hcov0 hT hil ht)) dC (.inr iR) ?_; rintro _ _ _ ⟨rfl,rfl,rfl⟩)
   | (refine SB.o (i:=3) I (cL call81 I (nH E g _ (pp b 0) L T i t hcov0 hT hil ht)) dC (.inr iR) ?_; rintro _ _ _ ⟨rfl,rfl,rfl⟩)
   | (refine SB.o (i:=8) I (cL call82 I (mF E g _ t ht)) dC (.inr iR) ?_; rintro _ _ _ ⟨rfl,rfl,rfl⟩; refine SX.u (i:=9) I kD (aD I I oM) dC ?_; refine SX.u (i:=10) I kD (sU I I oM) dC ?_; refine SX.u (i:=11) I kD (za1 I (buildC78 _ _)) dC ?_)
   | (refine SB.o (i:=8) I (cL call82 I (mF E g _ t ht)) dC (.inr iR) ?_; rintro _ _ _ ⟨rfl,rfl,rfl⟩; refine SX.u (i:=9) I kD (aD I I oM) dC ?_; refine SX.u (i:=10) I kD (sU I I oM) dC ?_; refine SX.u (i:=11) I kD (za1 I (buildC78 _ _)) dC ?_)
   | (refine SB.o (i:=12) I (aL zl1) dC (.inr iR) ?_; rintro _ _ _ ⟨b6,rfl,rfl,rfl⟩)
   | (refine SB.on (i:=13) I (sK 0 aK I I I I I sB) (.inl dC) ?_; rintro _ _ _ ⟨rfl,rfl⟩)
   | refine zd3 3 12 kD ?_ ?_
   | refine zd3 8 12 kD ?_ ?_
   | refine zd2 12 kD ?_
   | refine zd2 13 kD ?_
   | refine zd2 8 kD ?_
   | refine zd2 3 kD ?_
   | (refine SX.nil kD ?_; exact za7 b6 sB I I trivial))
 rintro b6 -;try dsimp only
 refine zb4 94 2 (sQ (rZ (lU (fA ar rfl cA rfl) (lK (qL (v:=.slice rp y.sides.length rc) dE rfl (cK hby rfl)) ?_))));refine lU (eN cM I) (lM I (tZ (bK ?_)));refine oP (ι:=Nat×Value) (fun z=>[(0,vi t),(1,pp bx 0),(2,pp bi 0),(3,pp by' 0),(4,pp bo 0),(6,pp b6 0),(25,.slice rp y.sides.length rc),(26,vi y.sides.length),(27,vi z.1)]) (fun _=>g) (fun z=>rowA encSide 94 z.2 ((y.sides.take z.1).map (tw L T.length t))::pt b6 (.cells #[vi (bId T.length i t),vi (y.dim+(onesB t:Nat) - 1),z.2] 78 (0,0))::pt bo (.cells #[ov] 30 (0,0))::rowA encCell 78 ov rs::s) (fun z=>z.1≤y.sides.length) (fun z=>y.sides.length - z.1) (0,.slice none 0 0) sB I I (zf3 _) ?_;rintro ⟨k,sv⟩ hk;dsimp only at hk ⊢;refine rZ (yL I (tZ (sQ ?_)));refine iP I (fun hlt=>?_) (fun hlt=>?_)
 ·have hkl:k<y.sides.length:=oM;have hb1:=za4 hsl oM;have hgk:y.sides[((k:Nat):Int).toNat]?=some y.sides[k]:=gE hkl;have htk:(y.sides.take (k+1)).map (tw L T.length t)=(y.sides.take k).map (tw L T.length t)++[tw L T.length t y.sides[k]]:=by rw[tS hkl,zg2]; rfl
  obtain ⟨d,hd,hdd⟩:=hf.found _ (gM hkl);have hsg:=hf.sg _ (gM hkl);generalize y.sides[k]=x at *
  rcases vN hL x.cell with ⟨-,h4⟩ | ⟨cx,h4,h5,h6,h7⟩
  ·rw[hd] at h4; cases h4
  have hxl:ixB L x.cell<1099511627776:=by
   rw[h6] at h5;have h8:=(zf2.1 h5).1;have h9:=hL.few;omega
  rw[h6] at h7;refine kP (tN (sQ (bK (rZ (lU (iA cM cq I I hb1 oM sL) (lK (eA mT cq I (za5 hsl) hgk) (bW (aL zk9) fun b8=>?_)))))));refine oZ (sK 0 cq I I I I I sB) (tZ ?_);refine dW [16,18] [(0,2),(1,1),(2,1),(3,1),(4,2),(5,2),(6,1),(7,2),(8,1),(9,1),(10,2),(12,2),(13,1),(11,0),(14,2),(15,0),(16,0),(17,2),(18,0)] zd9 kR ?_;refine pU I (fA ar I cA I) (pK I (qL (v:=sv) dE I (cO 2 I I)) (pK I (qL (v:=pp b 0) isAgg66 I (cK hbx I)) (pK I (qL (v:=pp b 0) isAgg66 I (cK hbx I)) (pU I (nC I) (pU I (fA pY I sizeOf79 I) (pK I (qL (v:=.map (some m)) isAgg79 I (cK hb I)) (pU I (fA dK I zT3 I) (pK I (qL (v:=vi x.cell) iT3 I (cO 0 I I)) (pK I (SQ.eq (v':=vi (ixB L x.cell:Nat)) (SQ.lookup mty79 I I (cG.known hm)) (by rw[h7]; rfl)) ?_)))))))));refine yM I (pU I (fA dK I zT3 I) (pK I (qL (v:=vi x.sign) iT3 I (cO 0 I I)) (SP.o I (cL call81 I (nH E g _ (pp b 0) L T (ixB L x.cell) t hcov0 hT hxl ht)) dC (.inr iR) ?_)));rintro _ _ _ ⟨rfl,rfl,rfl⟩;refine pU I (za1 I (buildS94 _ _)) (SP.o I (bS sty76 I I I (ae ⟨I,trivial⟩) dC) dC (.inr iR) ?_);rintro _ _ _ ⟨b46,rfl,rfl,rfl⟩;refine SP.o I (aP (e:=encSide) (l:=(y.sides.take k).map (tw L T.length t)) 1 (tw L T.length t x) sty76 I I I I I (by rw[ze3,ze1]; omega) (by rw[ze3,ze1]; omega)) dC (.inl dC) ?_;rintro v47 _ _ ⟨rfl,rfl⟩;rw[← htk];refine zc8 fun hx=>?_;obtain ⟨w0,hw0⟩:=hx;obtain ⟨p47,c47,rfl⟩:=ah hw0 (i:=1) rfl;refine pU I (fA ar I cA I) (SP.on I (SO.store1 2 cA I I I I (by show 2<3; decide) I) (.inl dC) ?_);rintro _ _ _ ⟨rfl,rfl⟩;refine pN (bN (tN (rG (yD I (lM I (nL (dR (.cons _ (.refl _)) ?_)))))));exact gA (k+1,_) sB I I (by dsimp only; omega) (by dsimp only; omega)
 ·have hkk:k=y.sides.length:=oM;subst hkk;rw[List.take_length];refine xI (tX (tX (bX (tN ?_))));have hty:∃ base:List ai,base=y.sides.map (tw L T.length t)∧base.length=y.sides.length:=⟨_,rfl,ze3 _⟩;refine SC.cut (ι:=Value) (fun _=>[(4,pp bo 0),(6,pp b6 0)]) (fun _=>g) (fun sv=>rowA encSide 94 sv (me L T.length i y t)::pt b6 (.cells #[vi (bId T.length i t),vi (y.dim+(onesB t:Nat) - 1),sv] 78 (0,0))::pt bo (.cells #[ov] 30 (0,0))::rowA encCell 78 ov rs::s) (fun _=>True) ?_ ?_
  ·rw[rI];refine sW I (lM I (lU (sU I I oM) (lU (SU.and I I) (lU (SU.eq (v':=vb (decide (1<onesB t))) (nQ I I) (zd8 vb (Dq t ht ht0))) (tZ ?_)))));refine iP I (fun htwo=>?_) (fun htwo=>?_)
   ·rw[zf6 oM];refine sW I (lA I (aT I (bK ?_)));refine oP (ι:=Nat×Value) (fun z=>[(0,vi t),(1,pp bx 0),(2,pp bi 0),(3,pp by' 0),(4,pp bo 0),(6,pp b6 0),(9,vi z.1),(10,vi (leftB t z.1:Nat))]) (fun _=>g) (fun z=>rowA encSide 94 z.2 (y.sides.map (tw L T.length t)++((fo t).zipIdx.take z.1).map (Ar T.length i t y.dim))::pt b6 (.cells #[vi (bId T.length i t),vi (y.dim+(onesB t:Nat) - 1),z.2] 78 (0,0))::pt bo (.cells #[ov] 30 (0,0))::rowA encCell 78 ov rs::s) (fun z=>z.1≤onesB t) (fun z=>onesB t - z.1) (0,sv) sB I (by dsimp only; rw[List.take_zero,List.map_nil,zc3]) (zf3 _) ?_;rintro ⟨j,zv⟩ hj;dsimp only at hj ⊢;obtain ⟨f1,f2⟩:=El t ht j oM;refine sQ (sW I (lU (nQ I I) (tZ ?_)));refine iP I (fun hne=>?_) (fun hne=>?_)
    ·have hjo:j<onesB t:=by
      by_cases k:j<onesB t
      ·exact k
      ·exact absurd (zd8 Int.ofNat (f1.2 k)) hne
     obtain ⟨f3,f4,f5⟩:=f2 hjo;have hbl:j<(fo t).length:=hjo;have hbg:(fo t)[j]=(fo t).getD j 0:=by rw[zg7,gE hbl]; rfl
     have htk:y.sides.map (tw L T.length t)++((fo t).zipIdx.take (j+1)).map (Ar T.length i t y.dim)=(y.sides.map (tw L T.length t)++((fo t).zipIdx.take j).map (Ar T.length i t y.dim))++[Ar T.length i t y.dim ((fo t)[j],j)]:=by
      have hz:j<(fo t).zipIdx.length:=by rw[List.length_zipIdx]; exact hbl
      rw[tS hz,zg2,zg5,List.getElem_zipIdx,Nat.zero_add];rfl
     have hln:(y.sides.map (tw L T.length t)++((fo t).zipIdx.take j).map (Ar T.length i t y.dim)).length≤80:=by
      rw[ze2,ze3,ze3,ze1];omega
     rw[hbg] at htk;clear hbg;generalize (fo t).getD j 0=kb at *;have hpk:0<2 ^ kb:=Nat.two_pow_pos kb;have hle0:leftB t j≤t:=Nat.sub_le _ _;refine kP (tN (sQ (bK (sW I (lM I (lU (SU.neg I) (lU (SU.eq (v':=vi (2 ^ kb:Nat)) (SU.and I I) (zd8 vi f3)) (aT I (sW I (lM I (lU (SU.eq (v':=vi (leftB t (j+1):Nat)) (sU I I oM) (zd8 vi oM)) (aT I ?_))))))))))));refine dW [15,17] [(0,2),(1,1),(2,1),(3,1),(4,2),(5,2),(6,2),(8,2),(9,2),(10,1),(11,2),(7,0),(12,0),(13,2),(14,0),(15,0),(16,2),(17,0)] zd9 kR ?_;refine pU rfl (fA ar rfl cA rfl) (pK rfl (qL (v:=zv) dE rfl (cO 1 rfl rfl)) (pK rfl (qL (v:=pp b 0) isAgg66 rfl (cK hbx rfl)) (pK rfl (qL (v:=vi i) iT3 rfl (cK hbi rfl)) (yM rfl (yM rfl (pU rfl (SU.eq (v':=vi (t - 2 ^ kb:Nat)) (sU rfl rfl oM) (zd8 vi oM)) (yM rfl (pU rfl (fA ar rfl zT3 rfl) (pK rfl (qL (v:=vi y.dim) iT3 rfl (cK hby rfl)) ?_)))))))));refine pU I (aD I I oM) (SP.o I (cL call81 I (nH E g _ (pp b 0) L T i (t - 2 ^ kb) hcov0 hT hil oM)) dC (.inr iR) ?_);rintro _ _ _ ⟨rfl,rfl,rfl⟩;refine SP.o I (cL call83 I (zu E g _ _)) dC (.inr iR) ?_;rintro _ _ _ ⟨rfl,rfl,rfl⟩;refine pU I (za1 I (buildS94 _ _)) (SP.o I (bS sty76 I I I (ae ⟨I,trivial⟩) dC) dC (.inr iR) ?_);rintro _ _ _ ⟨b81,rfl,rfl,rfl⟩;refine SP.o I (aP (e:=encSide) (l:=y.sides.map (tw L T.length t)++((fo t).zipIdx.take j).map (Ar T.length i t y.dim)) 0 (Ar T.length i t y.dim (kb,j)) sty76 I I I I I oM oM) dC (.inl dC) ?_;rintro v82 _ _ ⟨rfl,rfl⟩;rw[← htk];refine zc8 fun hx=>?_;obtain ⟨w0,hw0⟩:=hx;obtain ⟨p82,c82,rfl⟩:=ah hw0 (i:=0) rfl;refine pU I (fA ar I cA I) (SP.on I (SO.store1 1 cA I I I I (by show 2<3; decide) I) (.inl dC) ?_);rintro _ _ _ ⟨rfl,rfl⟩;refine pN (bN (tN (rG (lM I (yD I (lA I (nL ?_)))))));exact gA (j+1,_) sB I I (by dsimp only; omega) (by dsimp only; omega)
    ·have hjo:j=onesB t:=by
      have h0:leftB t j=0:=oM;have:=f1.1 h0;omega
     subst hjo;refine xI (tX (tX (bX ?_)));have hall:(fo t).zipIdx.take (onesB t)=(fo t).zipIdx:=tL (by rw[List.length_zipIdx]; exact lR _);rw[hall];exact za7 zv sB I I trivial
   ·rw[zf7 oM,zc3];refine kP ?_;exact za7 sv sB I I trivial
  rintro zv -;try dsimp only
  refine SC.facts fun hx=>?_;obtain ⟨w1,hw1⟩:=hx;obtain ⟨zp,zc,rfl⟩:=ah hw1 (i:=0) rfl;refine rG (lU (fA fq I ek I) (lK (qL (v:=ov) ii I (cO 2 I I)) (lK (qV 1 gJ aK I I I) (lW (bS sty28 I I I (ae ⟨I,trivial⟩) dC) ?_))));rintro _ _ _ ⟨b87,rfl,rfl,rfl⟩;refine lW (aP (e:=encCell) (l:=rs) 3 ⟨bId T.length i t,y.dim+(onesB t:Nat) - 1,⟨zp,(me L T.length i y t).length,zc⟩⟩ sty28 I I I I I oM oM) ?_;rintro v88 _ _ ⟨rfl,rfl⟩;refine zc9 fun hx=>?_;obtain ⟨w2,hw2⟩:=hx;obtain ⟨p88,c88,rfl⟩:=ah hw2 (i:=3) rfl;refine lU (fA fq I ek I) (oZ (SO.store1 2 ek I I I I (by show 0<1; decide) I) ?_);refine nL (fT fun g5 hle5 hs5=>?_);refine dR (.cons _ (.refl _)) ?_;exact ST.ret0 (.inr I) results80 ⟨hle5,_,_,I,I,I,hs5⟩
def oz (L:List Cl)(T:List (List Int))(k:Nat):List Cl:=(L.zipIdx.take k).flatMap fun q=>(bC (tlB L 0 T q.1.id)).map (aY L T.length q.2 q.1)
theorem uF (L:List Cl)(T:List (List Int)):oz L T L.length=qj L T:=by
 unfold oz qj;rw[tL (by rw[List.length_zipIdx]; exact lR _)]
theorem Aa {L:List Cl}{T:List (List Int)}{k:Nat}(h:k<L.length):oz L T (k+1)=oz L T k++(bC (tlB L 0 T L[k].id)).map (aY L T.length k L[k]):=by
 have hz:k<L.zipIdx.length:=by rw[List.length_zipIdx]; exact h
 unfold oz;rw[tS hz,List.flatMap_append,List.getElem_zipIdx,Nat.zero_add,zh2,List.flatMap_nil,zc3]
theorem G0 (L:List Cl)(id:Int){T:List (List Int)}(hT:T.length≤6):tlB L 0 T id<64:=Nat.lt_of_lt_of_le (rJ L id T) (Df hT)
theorem uE (L:List Cl){T:List (List Int)}(hT:T.length≤6)(k:Nat):(oz L T k).length≤L.length * 64:=by
 have h1:=sA (fun q:Cl×Nat=>(bC (tlB L 0 T q.1.id)).map (aY L T.length q.2 q.1)) 64 (l:=L.zipIdx.take k) fun q _=>by
  rw[ze3];have:=tM (tlB L 0 T q.1.id);have:=G0 L q.1.id hT;omega
 have h2:(L.zipIdx.take k).length≤L.length:=by rw[ze1,List.length_zipIdx]; omega
 exact zk6 h1 (Nat.mul_le_mul_right 64 h2)
theorem o5 {L:List Cl}(hL:Rt L){T:List (List Int)}(hT:T.length≤6):cZ (qj L T):=by
 refine⟨?_,fun c hc=>?_⟩
 ·rw[← uF];have h1:=uE L hT L.length;have h2:=hL.few;omega
 ·obtain ⟨q,hq,hz⟩:=List.mem_flatMap.1 hc;obtain ⟨s,hs,rfl⟩:=ze8.1 hz;have hy:q.1∈L:=zf8 (List.mem_zipIdx_iff_getElem?.1 hq);have h1:=(hL.form _ hy).cnt;have h2:=(hL.form _ hy).dim;simp only[ax,Bool.or_eq_false_iff,Bool.and_eq_false_iff,decide_eq_false_iff_not] at h1;have h3:=G0 L q.1.id hT;have h4:=sub_le (cW.1 hs).2;have h5:=sf s oM;show (me L T.length q.2 q.1 s).length<_;rw[rI,ze2,ze3];have h6:(if onesB s≤1 then ([]:List ai) else (fo s).zipIdx.map (Ar T.length q.2 s q.1.dim)).length≤6:=by
   split
   ·simp
   ·rw[ze3,List.length_zipIdx];exact h5
  omega
theorem cI.mono {P:Program}{E:World}{v:Value}{args:List Value}{g:PH}{s:Own}{R R':Value→PH→Own→Prop}(h:cI P E v args g s R)(hr:∀ v g' s',R v g' s'→R' v g' s'):cI P E v args g s R':=by
 obtain ⟨n,cap,h1,h2,h3⟩:=h;exact⟨n,cap,h1,h2,h3.mono hr⟩
theorem pV (E:World)(g:PH)(s:Own)(pv:Value)(L:List Cl)(T:List (List Int))(hcov:AA g pv L T)(hL:Rt L)(hT:T.length≤6) :
  Ctr Tryz.prog E 36 #[pv] g s (fun x g' s'=>s=s'∧Le g g'∧∃ u,x = .agg #[u]∧am g' u (dA L T)):=by
 have hcov0:=hcov;obtain ⟨b,m,cv,iv,rfl,hb,hcv,hm,hiv⟩:=hcov;obtain ⟨us,hus,hallu⟩:=hcv;have hul:=hallu.length;obtain ⟨up,uc,rfl⟩:=za2 hus;obtain ⟨ip,ic,rfl⟩:=za2 hiv;have hfew:=hL.few;refine za9 (args:=[pp b 0]) func36 I ntmps36 (bE I) ?_;refine rZ (bW (bO I) fun b1=>?_);refine bW (aL zl4) fun b2=>?_;refine tZ (rZ (bW (aL zl4) fun b3=>?_));refine tZ (sQ (sQ (cP ((zj7 _ _ _).cons _ |>.trans (zj7 _ _ _)) (SC.freeze fun g1 hle1 hb1=>?_))));refine zb4 78 3 (cP (zj7 _ _ _) (rG (lK (qL (v:=pp b 0) isAgg66 I (cK hb1 I)) (lU (nC I) (lU (fA pY I ek I) (lK (qL (v:=.slice up us.length uc) ii I (cK (hle1 _ _ hb) I)) (lU (eN aO I) (lM I (tZ (bK ?_))))))))));refine oP (ι:=PH×Nat×Value×List Rc) (fun z=>[(1,pp b1 0),(2,pp b2 0),(3,pp b3 0),(9,.slice up us.length uc),(10,vi us.length),(11,vi z.2.1)]) (fun z=>z.1) (fun z=>pt b3 (.cells #[z.2.2.1] 30 (0,0))::rowA encCell 78 z.2.2.1 z.2.2.2::pt b2 (.cells #[.slice none 0 0] 30 (0,0))::s) (fun z=>Le g1 z.1∧z.2.1≤us.length∧aB (au z.1) (oz L T z.2.1) z.2.2.2) (fun z=>us.length - z.2.1) (g1,0,.slice none 0 0,[]) sB I I ⟨zb7 _,zf3 _,trivial⟩ ?_;rintro ⟨g2,k,ov,rs⟩ ⟨hle2,hk,hacc⟩;dsimp only at hle2 hk hacc ⊢;refine rZ (yL I (tZ (sQ ?_)));refine iP I (fun hlt=>?_) (fun hlt=>?_)
 ·have hku:k<us.length:=oM;have hkl:k<L.length:=oM;have hb1':=za4 hus oM;have hgk:us[((k:Nat):Int).toNat]?=some us[k]:=gE hku;have hR:=hallu.get (gE hkl) (gE hku);have hyg:L[k]?=some L[k]:=gE hkl;have hsucc:=Aa (T:=T) hkl;have hge:(L.map fun c=>((tlB L 0 T c.id:Nat):Int))[((k:Nat):Int).toNat]?=some ((tlB L 0 T L[k].id:Nat):Int):=by
   rw[zh6,show ((k:Nat):Int).toNat=k from rfl,hyg];rfl
  have hbi:=za4 hiv (by rw[ze3]; omega);have hin:=G0 L L[k].id hT;have hklen:=uE L hT k;have hrl:=hacc.length;generalize L[k]=y at *;generalize us[k]=r at *;have hcall:∀ (b4 b5:Nat) (g4:PH),Le g2 g4→g4 b4=some (.cells #[vi k] 3 (0,0))→g4 b5=some (.cells (encCell.enc r).toArray 78 (0,0))→∀ pre t (z:PH×Value×List Rc),(Le g4 z.1∧aB (au z.1) (oz L T k++pre.map (aY L T.length k y)) z.2.2)→pre.length≤tlB L 0 T y.id→0<t→t≤tlB L 0 T y.id→t &&& tlB L 0 T y.id=t→cI Tryz.prog E (.func (.func 80) #[] #[pp b1 0,pp b4 0,pp b5 0,pp b3 0]) [vi (t:Nat)] z.1 (pt b3 (.cells #[z.2.1] 30 (0,0))::rowA encCell 78 z.2.1 z.2.2::pt b2 (.cells #[.slice none 0 0] 30 (0,0))::s) (fun _ g' s'=>∃ j:PH×Value×List Rc,j.1=g'∧(pt b3 (.cells #[j.2.1] 30 (0,0))::rowA encCell 78 j.2.1 j.2.2::pt b2 (.cells #[.slice none 0 0] 30 (0,0))::s)=s'∧Le g4 j.1∧aB (au j.1) (oz L T k++(pre++[t]).map (aY L T.length k y)) j.2.2):=by
   rintro b4 b5 g4 hle24 hb4 hb5 pre t ⟨g6,ov6,rs6⟩ ⟨hle6,hacc6⟩ hpl ht0 htb -;dsimp only at hle6 hacc6 ⊢;have hl6:=hacc6.length;rw[ze2,ze3] at hl6;refine cI.mono (Ab E g6 _ b1 b4 b5 b3 (pp b 0) ov6 L T k t y r rs6 (hcov0.mono (hle1.trans (hle2.trans (hle24.trans hle6)))) hL hT hyg (hR.mono (hle1.trans (hle2.trans (hle24.trans hle6)))) ((hle2.trans (hle24.trans hle6)) _ _ hb1) (hle6 _ _ hb4) (hle6 _ _ hb5) oM ht0 oM) ?_;rintro _ g7 s7 ⟨hle7,ov7,r7,rfl,hc7⟩;refine⟨(g7,ov7,rs6++[r7]),I,I,hle6.trans hle7,?_⟩;rw[zg2,← zg5];exact (hacc6.mono fun _ _=>au.mono hle7).append ⟨hc7,trivial⟩
  refine kP (tN (sQ (bK (sW I (lU (iA aO aK I I hb1' oM sL) (lK (eA gJ aK I (za5 (za3 hus (hle1.trans hle2))) hgk) (bW (aL zl6) fun b4=>?_)))))));refine bW (aL zl1) fun b5=>?_;refine oZ (SO.store1 1 zT3 I I I I (by show 0<1; decide) I) ?_;refine oZ (sK 0 aK I I I I I sB) (tZ (SC.freeze fun g3 hle3 hb5=>?_));refine SC.freeze fun g4 hle4 hb4=>?_;have hle24:=hle3.trans hle4;have hle04:=hle1.trans (hle2.trans hle24);refine dW [8] [(0,1),(1,2),(2,2),(3,1),(4,1),(5,2),(6,1),(7,2),(8,0)] zd9 kR ?_;refine pK I (qL (v:=pp b 0) isAgg66 I (cK ((hle2.trans hle24) _ _ hb1) I)) (pU I (nC I) (pU I (fA pY I bZ I) (pK I (qL (v:=.slice ip (L.map fun c=>((tlB L 0 T c.id:Nat):Int)).length ic) dx I (cK (hle04 _ _ hb) I)) ?_)));refine pK I (qL (v:=vi k) iT3 I (cK hb4 I)) (pU I (iA ak zT3 I I hbi oM (by simp only[slen,ze3]; omega)) ?_);refine pK I (eB iT3 I (za5 (za3 hiv hle04)) hge I) (pU I (SU.mkFunc I) (SP.o I (cL call79 I (zy E (ι:=PH×Value×List Rc) (fun z=>z.1) (fun z=>pt b3 (.cells #[z.2.1] 30 (0,0))::rowA encCell 78 z.2.1 z.2.2::pt b2 (.cells #[.slice none 0 0] 30 (0,0))::s) (fun done z=>Le g4 z.1∧aB (au z.1) (oz L T k++done.map (aY L T.length k y)) z.2.2) _ _ (tlB L 0 T y.id) hin (g4,ov,rs) ⟨zb7 _,by rw[List.map_nil,zc3]; exact hacc.mono fun _ _=>au.mono hle24⟩ (hcall b4 b5 g4 hle24 hb4 (hle4 _ _ hb5)))) dC (.inl dC) ?_));rintro _ _ _ ⟨⟨g5,ov5,rs5⟩,rfl,rfl,hle5,hacc5⟩;refine pN (bN (tN (rG (yD I (lM I (nL ?_))))));rw[← hsucc] at hacc5;exact gA (g5,k+1,ov5,rs5) sB I I ⟨hle2.trans (hle24.trans hle5),by dsimp only; omega,hacc5⟩ (by dsimp only; omega)
 ·have hkk:k=L.length:=oM;subst hkk;rw[uF] at hacc;refine cP (zj7 _ _ _) (fS fun g5 hle5 hs5=>?_);have hcells:am g5 ov (qj L T):=⟨rs,hs5,hacc.mono fun _ _=>au.mono hle5⟩;refine xI (tX (tX (bX (tN (rZ (lK (qV 0 bq aw I I I) (lW (cL call15 I (ir E g5 _ _ (qj L T) hcells (o5 hL hT))) ?_)))))));rintro _ g6 _ ⟨rfl,hle6,u,rfl,hu⟩;obtain ⟨qp,qc,rfl⟩:=hu.form;refine oZ (sK 1 aw I I I I I ⟨I,trivial⟩) (tZ (rE ?_));exact ST.retCD 1 s (.inl I) results36 I bq aw I I uR ⟨I,hle1.trans (hle2.trans (hle5.trans hle6)),_,I,hu⟩
open Go Go.Sy Go.Pl Go.Proofs Go.WideMaps
def kV (a b c:Int):Value:=.agg #[vi a,vi b,vi c]
theorem GL:ArrKey Tryz.prog 177 3 3:=⟨underlying177,by kernel_rfl,by kernel_rfl,by kernel_rfl⟩
def sml (a:Int):Prop:=a.natAbs≤1000000
theorem G3 {a b c:Int}(ha:sml a)(hb:sml b)(hc:sml c):∃ l,keyOf Tryz.prog 177 (kV a b c)=some l:=by
 have w1:∀ x:Int,sml x→(Lit.int .i64 x).wf=true:=fun x hx=>by
  unfold sml at hx;simp[Lit.wf,IntKind.min,IntKind.max,IntKind.bits,IntKind.signed];omega
 have h1:Tryz.prog.keyType 177=true:=by kernel_rfl
 have ⟨m,hm⟩:∃ m,Tryz.prog.types.size=m+1:=⟨Tryz.prog.types.size - 1,by kernel_rfl⟩;have c1:Tryz.prog.cellsOf 3=1:=by kernel_rfl
 have c3:Tryz.prog.cellsOf 177=3:=by kernel_rfl
 have h3:(kV a b c).formed Tryz.prog 177=true:=by
  unfold kV Value.formed;rw[underlying177,c3];rfl
 have h4:∀ x:Int,sml x→Tryz.prog.keyLits (m+1) 3 [vi x]=some [.int .i64 x]:=fun x hx=>by
  unfold Program.keyLits;rw[uT3];simp[w1 x hx]
 have h5:Tryz.prog.keyLits (m+1+1) 177 (kV a b c).cells.toList=some [.int .i64 a,.int .i64 b,.int .i64 c]:=by
  unfold Program.keyLits;rw[underlying177];simp only[c1,c3];rw[zf7 (show (kV a b c).cells.toList.length=3 from rfl)];have r3:List.range 3=[0,1,2]:=rfl;have e0:(((kV a b c).cells.toList).drop (0 * 1)).take 1=[vi a]:=rfl;have e1:(((kV a b c).cells.toList).drop (1 * 1)).take 1=[vi b]:=rfl;have e2:(((kV a b c).cells.toList).drop (2 * 1)).take 1=[vi c]:=rfl;rw[r3];simp only[List.mapM_cons,List.mapM_nil,e0,e1,e2,h4 a ha,h4 b hb,h4 c hc];rfl
 unfold keyOf;rw[underlying177];simp only[h1,h3,Bool.and_self,if_true];rw[hm,h5];exact⟨_,I⟩
def knE (m:Nat)(F:Int→Int→Int→Int):Ent:=⟨some m,fun oo=>∃ es clk,oo=some (.map es clk)∧∀ e∈es.toList,∃ a b c:Int,sml a∧sml b∧sml c∧e.key=kV a b c∧e.val=vi (F a b c)⟩
theorem Hj {a b c a' b' c':Int}(h:kV a b c=kV a' b' c'):a=a'∧b=b'∧c=c':=by
 unfold kV at h;simpa using h
section
variable {N:Nat}{E:World}{f:Fr}{g:PH}{s:Own}{dst:Option Tmp}{ty:TypeId}{pos:String}{af:Array Edge}{gd:Option (Nat×Bool)}{x y u:Operand}{m:Nat}{F:Int→Int→Int→Int}{a b c:Int}
theorem SO.mkKn:SO Tryz.prog N E ⟨dst,.makeMap 73 none,ty,pos,af,gd⟩ f g s fun u g' s'=>∃ b,u = .map (some b)∧g=g'∧s'=knE b F::s :=
 SO.of_run fun a w _ hw=>⟨.map (some w.heap.size),_,g,_,by simp[execOp,Instr.makeMap],hw.alloc (e:=knE w.heap.size F) rfl ⟨#[],0,rfl,by simp⟩,_,rfl,rfl,rfl⟩
theorem SO.lookK (i:Nat)(hi:s[i]?=some (knE m F))(hx:ev f x=some (.map (some m)))(hy:ev f y=some (kV a b c))(ha:sml a)(hb:sml b)(hc:sml c) :
  SO Tryz.prog N E ⟨dst,.lookup 73 x y true,ty,pos,af,gd⟩ f g s fun v g' s'=>(∃ n t,v = .tuple #[vi n,vb t]∧(t=true→n=F a b c))∧g=g'∧s=s' :=
 SO.of_run fun ac w hac hw=>by
  have h0:=hw.own _ (zf8 hi);simp only[knE,Option.bind_some] at h0;obtain ⟨es,clk,h1,h2⟩:=h0;obtain ⟨l,hl⟩:=G3 ha hb hc;have h3:=GL.law.check w es.isEmpty hl;have h4:=GL.law.find w hl es.toList fun e he=>by
   obtain ⟨a',b',c',ha',hb',hc',hk,_⟩:=h2 e he;rw[hk];exact G3 ha' hb' hc'
  rcases h4 with ⟨h4,_⟩ | ⟨j,e,h4,h5,h6⟩
  ·refine⟨.tuple #[vi 0,vb false],w,g,s,?_,hw,⟨0,false,I,fun h=>by cases h⟩,I,I⟩;simp[execOp,hac.ev hx,hac.ev hy,Instr.lookup,run_underlying underlying73,MapKept.run_getObj_map h1,h3,h4,zl6]
  ·obtain ⟨a',b',c',ha',hb',hc',hk,hv⟩:=h2 e (zf8 h5);rw[h6] at hk;obtain ⟨rfl,rfl,rfl⟩:=Hj hk;refine⟨.tuple #[vi (F a b c),vb true],w,g,s,?_,hw,⟨_,true,I,fun _=>I⟩,I,I⟩;simp[execOp,hac.ev hx,hac.ev hy,Instr.lookup,run_underlying underlying73,MapKept.run_getObj_map h1,h3,h4,hv]
theorem SO.mapK (i:Nat)(hi:s[i]?=some (knE m F))(hx:ev f x=some (.map (some m)))(hy:ev f y=some (kV a b c))(hu:ev f u=some (vi (F a b c)))(ha:sml a)(hb:sml b)(hc:sml c) :
  SO Tryz.prog N E ⟨dst,.mapUpdate 73 x y u,ty,pos,af,gd⟩ f g s fun _ g' s'=>g=g'∧s=s' :=
 SO.of_skip fun ac w hac hw=>by
  have h0:=hw.own _ (zf8 hi);simp only[knE,Option.bind_some] at h0;obtain ⟨es,clk,h1,h2⟩:=h0;obtain ⟨l,hl⟩:=G3 ha hb hc;have h3:=GL.law.check w false hl;have h4:=GL.law.find w hl es.toList fun e he=>by
   obtain ⟨a',b',c',ha',hb',hc',hk,_⟩:=h2 e he;rw[hk];exact G3 ha' hb' hc'
  have hfr:=hw.fresh _ (zf8 hi) m rfl;have fin:∀ (es':Array MapEntry) (clk':Nat),(∀ e∈es'.toList,∃ a b c:Int,sml a∧sml b∧sml c∧e.key=kV a b c∧e.val=vi (F a b c))→At E g s { w with heap:=w.heap.setIfInBounds m (.map es' clk') }:=fun es' clk' h=>by
   obtain ⟨e1,e2⟩:=MapKept.heap_set (o':=.map es' clk') h1;have h7:=hw.turn (w':={ w with heap:=w.heap.setIfInBounds m (.map es' clk') }) (e':=knE m F) hi rfl ⟨rfl,lR _⟩ rfl (by simp) (fun q _ hne=>e2 q (fun e=>hne (by simp[knE,e]))) ⟨es',clk',by simpa [knE] using e1,h⟩ (fun b' hb'=>by
    simp only[knE,zg4] at hb';subst hb';exact⟨by simpa using hfr.2,.inl I⟩)
   rwa [nu hi] at h7
  rcases h4 with ⟨h4,_⟩ | ⟨j,e,h4,h5,h6⟩
  ·refine⟨_,g,s,?_,fin (es.push { key:=kV a b c,val:=vi (F a b c),born:=clk }) (clk+1) fun e he=>?_,I,I⟩
   ·simp[execOp,hac.ev hx,hac.ev hy,hac.ev hu,Instr.mapUpdate,run_underlying underlying73,MapKept.run_getObj_map h1,h3,h4,MapKept.run_setObj_map _ h1]
   ·rw[Array.toList_push,ze9,zh4] at he
    rcases he with he | rfl
    ·exact h2 e he
    ·exact⟨a,b,c,ha,hb,hc,I,I⟩
  ·have hje:es[j]?=some e:=by rw[← Array.getElem?_toList]; exact h5
   have h8:=GL.law.stays w hl;refine⟨_,g,s,?_,fin (es.modify j fun e=>{ e with key:=kV a b c,val:=vi (F a b c) }) clk fun e' he'=>?_,I,I⟩
   ·simp[execOp,hac.ev hx,hac.ev hy,hac.ev hu,Instr.mapUpdate,run_underlying underlying73,MapKept.run_getObj_map h1,h3,h4,hje,h6,h8,MapKept.run_setObj_map _ h1]
   ·rw[Array.toList_modify] at he';obtain ⟨q,hq⟩:=List.mem_iff_getElem?.1 he';rw[List.getElem?_modify] at hq;by_cases e0:j=q
    ·subst e0;rw[h5] at hq;simp at hq;subst hq;exact⟨a,b,c,ha,hb,hc,I,I⟩
    ·simp only[e0,if_false] at hq;have:es.toList[q]?=some e':=by simpa using hq
     exact h2 e' (zf8 this)
end
abbrev Mk:=List (Int×Value×List Rc)
def fH (ms:Mk):Own:=ms.map fun t=>rowA encCell 78 t.2.1 t.2.2
def pZ (ms:Mk):List (Int×Value):=ms.map fun t=>(t.1,t.2.1)
def qy (ms:Mk):List (Int×List Rc):=ms.map fun t=>(t.1,t.2.2)
def Dd:List (Int×List Rc)→Int→Rc→List (Int×List Rc)
 | [],k,x=>[(k,[x])]
 | (a,l)::r,k,x=>if k=a then (a,l++[x])::r else (a,l)::Dd r k x
def nX:List (Int×List Rc)→Int→List Rc
 | [],_=>[]
 | (a,l)::r,k=>if k=a then l else nX r k
theorem ya (x:Rc)(k d:Int):∀ l:List (Int×List Rc),nX (Dd l k x) d=if d=k then nX l k++[x] else nX l d
 | []=>by
  unfold Dd nX;split <;> rfl
 | (a,l)::r=>by
  unfold Dd;by_cases h:k=a
  ·subst h;rw[zf7 rfl];unfold nX;by_cases e:d=k
   ·subst e; simp
   ·rw[zf6 e,zf6 e,zf6 e]
  ·rw[zf6 h];unfold nX;by_cases e:d=a
   ·subst e;rw[zf7 rfl,zf6 (fun q=>h q.symm),zf7 rfl]
   ·rw[zf6 e,zf6 h,zf6 e,ya x k d r]
theorem Tryz.mty72:MTy Tryz.prog 72 3 28 (.slice none 0 0):=⟨underlying72,underlying3,zeroValue28⟩
theorem HC (ms:Mk)(k:Int):∃ (ms':Mk) (j:Nat) (v:Value) (l:List Rc),nX (qy ms) k=l∧ms'[j]?=some (k,v,l)∧(ft (pZ ms) k).getD (.slice none 0 0)=v∧(∀ v' x,kh (pZ ms) k v'=pZ (ms'.set j (k,v',l++[x]))) ∧
  (∀ v' x,qy (ms'.set j (k,v',l++[x]))=Dd (qy ms) k x)∧(∀ B,(∀ t∈ms,t.2.2.length≤B)→∀ t∈ms',t.2.2.length≤B)∧∀ E g (hd s:Own) w,At E g (hd++(fH ms++s)) w→At E g (hd++(fH ms'++s)) w:=by
 induction ms with
 | nil =>
  refine⟨[(k,.slice none 0 0,[])],0,.slice none 0 0,[],I,I,I,fun v' x=>I,fun v' x=>by simp[qy,Dd],fun B _ t ht=>by simp at ht; subst ht; simp,fun E g hd s w h=>?_⟩;have h1:=h.nilRow 78 3;refine h1.perm ?_;simp only[fH,List.map_nil,List.nil_append,zg1,List.singleton_append];exact List.perm_middle.symm
 | cons p r ih =>
  obtain ⟨a,u,l0⟩:=p;by_cases hk:k=a
  ·subst hk;refine⟨(k,u,l0)::r,0,u,l0,by simp[qy,nX],I,by simp[pZ,cd],fun v' x=>by simp[pZ,kh],fun v' x=>by simp[qy,Dd],fun B h=>h,fun E g hd s w h=>h⟩
  ·obtain ⟨ms',j,v,l,h0,h1,h2,h3,h4,h6,h5⟩:=ih;refine⟨(a,u,l0)::ms',j+1,v,l,by rw[← h0]; simp[qy,nX,hk],by simpa using h1,?_,fun v' x=>?_,fun v' x=>?_,fun B h t ht=>?_,fun E g hd s w h=>?_⟩
   ·rw[← h2];simp[pZ,cd,hk]
   ·have:=h3 v' x;simp only[pZ,zg1,kh,List.set_cons_succ] at this ⊢;rw[zf6 hk,this]
   ·have:=h4 v' x;simp only[qy,zg1,Dd,List.set_cons_succ] at this ⊢;rw[zf6 hk,this]
   ·rcases ze7.1 ht with rfl | ht
    ·exact h _ (by simp)
    ·exact h6 B (fun t ht=>h t (by simp[ht])) t ht
   ·have:=h5 E g (hd++[rowA encCell 78 u l0]) s w (by simpa [fH] using h);simpa [fH] using this
theorem BX {ms:Mk}{j:Nat}{k:Int}{v:Value}{l:List Rc}(h:ms[j]?=some (k,v,l))(s:Own):(fH ms++s)[j]?=some (rowA encCell 78 v l):=by
 have hj:=(zf2.1 h).1;rw[zg8 (by simpa [fH] using hj)];simp[fH,h]
theorem BW {ms:Mk}{j:Nat}{k:Int}{v v':Value}{l l':List Rc}(h:ms[j]?=some (k,v,l))(s:Own):(fH ms++s).set j (rowA encCell 78 v' l')=fH (ms.set j (k,v',l'))++s:=by
 have hj:=(zf2.1 h).1;rw[List.set_append_left _ _ (by simpa [fH] using hj)];simp[fH,List.map_set]
theorem freezeKs {E:World}{w:World}:∀ (ms:Mk) (g:PH) (s:Own),At E g (fH ms++s) w→∃ g',Le g g'∧At E g' s w∧∀ t∈ms,SlA encCell g' t.2.1 t.2.2
 | [],g,s,h=>⟨g,zb7 g,h,by simp⟩
 | (a,v,l)::r,g,s,h=>by
  have h':At E g (row 78 3 v l.length (l.flatMap encCell.enc)::(fH r++s)) w:=h;obtain ⟨g1,hl1,h1,h2⟩:=h'.freezeRow;obtain ⟨g2,hl2,h3,h4⟩:=freezeKs r g1 s h1;refine⟨g2,hl1.trans hl2,h3,fun t ht=>?_⟩
  rcases ze7.1 ht with rfl | ht
  ·exact Sl.mono h2 hl2
  ·exact h4 t ht
theorem SC.freezeKs {P:Program}{N:Nat}{E:World}{c:Code}{Q:Exit→Act→World→Prop}{f:Fr}{g:PH}{s:Own}{ms:Mk}(h:∀ g',Le g g'→(∀ t∈ms,SlA encCell g' t.2.1 t.2.2)→SC P N E c Q f g' s):SC P N E c Q f g (fH ms++s):=fun a w ha hw=>by
 obtain ⟨g',h1,h2,h3⟩:=Go.Proofs.YtkbagdedfdfjhaaGreatDoor.freezeKs ms g s hw;exact h g' h1 h3 a w ha h2
theorem xZ:∀ (ms:Mk) (d:Int),∃ v,(ft (pZ ms) d).getD (.slice none 0 0)=v∧((∃ t∈ms,t.1=d∧t.2.1=v∧t.2.2=nX (qy ms) d)∨(v = .slice none 0 0∧nX (qy ms) d=[]))
 | [],d=>⟨_,rfl,.inr ⟨rfl,rfl⟩⟩
 | (a,u,l)::r,d=>by
  obtain ⟨v,h1,h2⟩:=xZ r d;by_cases e:d=a
  ·subst e;refine⟨u,by simp[pZ,cd],.inl ⟨(d,u,l),by simp,I,I,?_⟩⟩;simp[qy,nX]
  ·refine⟨v,?_,?_⟩
   ·rw[← h1];simp[pZ,cd,e]
   ·have e2:nX (qy ((a,u,l)::r)) d=nX (qy r) d:=by simp[qy,nX,e]
    rw[e2]
    rcases h2 with ⟨t,h3,h4⟩ | h2
    ·exact .inl ⟨t,by simp[h3],h4⟩
    ·exact .inr h2
theorem CM {rs:List Rc}{k:Nat}(h:k<rs.length)(d:Int):(rs.take (k+1)).filter (fun r=>decide (r.dim=d))=if d=rs[k].dim then (rs.take k).filter (fun r=>decide (r.dim=d))++[rs[k]] else (rs.take k).filter fun r=>decide (r.dim=d):=by
 rw[tS h,zh3];by_cases e:d=rs[k].dim
 ·rw[zf7 e,List.filter_cons_of_pos (by simpa using e.symm)];rfl
 ·rw[zf6 e,List.filter_cons_of_neg (by simpa using fun q=>e q.symm)];simp
theorem nR {g:PH}:∀ {l:List Cl} {rs:List Rc},aB (au g) l rs→∀ d:Int,aB (au g) (l.filter fun c=>decide (c.dim=d)) (rs.filter fun r=>decide (r.dim=d))
 | [],[],_,_=>trivial
 | c::l,r::rs,h,d=>by
  obtain ⟨h1,h2⟩:=h;have ih:=nR h2 d;rw[zi4,zi4,h1.2.1];split
  ·exact⟨h1,ih⟩
  ·exact ih
def ByR (g:PH)(m:Nat)(B:List Cl):Prop:=∃ prs,Mp g m prs∧∀ d,∃ v rs,(ft prs d).getD (.slice none 0 0)=v∧SlA encCell g v rs∧aB (au g) (B.filter fun c=>decide (c.dim=d)) rs
theorem ByR.mono {g g':PH}{m:Nat}{B:List Cl}(h:ByR g m B)(hl:Le g g'):ByR g' m B:=by
 obtain ⟨prs,h1,h2⟩:=h;refine⟨prs,h1.mono hl,fun d=>?_⟩;obtain ⟨v,rs,h3,h4,h5⟩:=h2 d;exact⟨v,rs,h3,za3 h4 hl,h5.mono fun _ _=>au.mono hl⟩
theorem Hs {g:PH}{m:Nat}{B:List Cl}{rs:List Rc}{ms:Mk}(hm:Mp g m (pZ ms))(hk:∀ t∈ms,SlA encCell g t.2.1 t.2.2)(hall:aB (au g) B rs)(hc:∀ d,nX (qy ms) d=rs.filter fun r=>decide (r.dim=d)):ByR g m B:=by
 refine⟨pZ ms,hm,fun d=>?_⟩;obtain ⟨v,h1,h2⟩:=xZ ms d;refine⟨v,_,h1,?_,nR hall d⟩;rw[← hc d]
 rcases h2 with ⟨t,h3,h4,h5,h6⟩ | ⟨h3,h4⟩
 ·rw[← h5,← h6];exact hk t h3
 ·rw[h3,h4];exact zb8 g _
theorem zN:∀ n:Nat,n≤6→∀ m:Nat,m<4611686018427387904→IntKind.i64.wrap (BitVec.ofInt IntKind.i64.bits (m:Int) &&& BitVec.ofInt IntKind.i64.bits ((2 ^ n:Nat) - 1:Int)).toNat=((m % 2 ^ n:Nat):Int):=fun n hn m h=>by
 have h1:(BitVec.ofInt IntKind.i64.bits (m:Int) &&& BitVec.ofInt IntKind.i64.bits ((2 ^ n:Nat) - 1:Int)).toNat=m % 2 ^ n:=by
  have hb:IntKind.i64.bits=64:=rfl;rw[hb,BitVec.toNat_and];have e1:(BitVec.ofInt 64 (m:Int)).toNat=m:=by
   rw[BitVec.toNat_ofInt];omega
  have hp:=Df hn;have hp0:0<2 ^ n:=Nat.two_pow_pos n;have e2:(BitVec.ofInt 64 ((2 ^ n:Nat) - 1:Int)).toNat=2 ^ n - 1:=by
   rw[BitVec.toNat_ofInt];omega
  rw[e1,e2,Nat.and_two_pow_sub_one_eq_mod]
 have hm:m % 2 ^ n≤m:=Nat.mod_le _ _;rw[h1];exact zk8 _ oM
theorem pP (E:World)(g:PH)(s:Own)(v:Value)(L:List Cl)(T:List (List Int))(id:Int)(hv:AA g v L T)(hT:T.length≤6)(h0:0≤id)(h1:id<4611686018427387904) :
  Ctr Tryz.prog E 132 #[v,vi id] g s (fun x g' s'=>x=vi (jt T.length id)∧g=g'∧s=s'):=by
 obtain ⟨b,m,cv,iv,rfl,hb,-⟩:=hv;have hp:=Df hT;have hp0:0<2 ^ T.length:=Nat.two_pow_pos _;have hml:id.toNat % 2 ^ T.length<64:=Nat.lt_of_lt_of_le (Nat.mod_lt _ hp0) hp;have hmask:=zN T.length hT id.toNat oM;rw[Int.toNat_of_nonneg h0] at hmask;have ho:=sf _ hml;refine za9 (args:=[pp b 0,vi id]) func132 I ntmps132 (bE I) ?_;refine rZ (aT I (sW I (lM I (lU (nC I) (lU (fA pY I zT3 I) (lK (qL (v:=vi T.length) iT3 I (cK hb I)) (lU (SU.eq (v':=vi (2 ^ T.length:Nat)) (SU.shl I I oM) (zd8 vi (AV _ oM))) (lU (sU I I oM) (lU (SU.eq (v':=vi (id.toNat % 2 ^ T.length:Nat)) (SU.and I I) (zd8 vi hmask)) (lU (SU.eq (v':=.int .u64 (id.toNat % 2 ^ T.length:Nat)) (zd5 uT3 iU I) (zd8 (Value.int .u64) (AM _ hml))) (lW (cL call82 I (mF E g _ _ hml)) ?_)))))))))));rintro _ _ _ ⟨rfl,rfl,rfl⟩;refine lU (SU.eq (v':=vi (jt T.length id)) (sU I I oM) I) (aT I (rE ?_));exact za6 (.inl I) results132 I ⟨I,I,I⟩
set_option maxHeartbeats 4000000
def xg (g:PH)(v:Value)(L:List Cl)(T:List (List Int))(p:Int)(B:List Cl)(mk:Nat):Prop:=∃ bs mb pv,v=pp bs 0∧g bs=some (.cells #[pv,vi p,.map (some mb),.map (some mk)] 75 (0,0))∧AA g pv L T∧ByR g mb B
theorem xg.mono {g g':PH}{v:Value}{L:List Cl}{T:List (List Int)}{p:Int}{B:List Cl}{mk:Nat}(h:xg g v L T p B mk)(hl:Le g g'):xg g' v L T p B mk:=by
 obtain ⟨bs,mb,pv,h1,h2,h3,h4⟩:=h;exact⟨bs,mb,pv,h1,hl _ _ h2,h3.mono hl,h4.mono hl⟩
structure Bok (n:Nat)(B:List Cl):Prop where
 rt:Rt B
 lt:∀ c∈B,c.id<4611686018427387904
 cnt:∀ d:Int,(B.filter fun c=>decide (c.dim=d)).length≤200
theorem Tryz.build177 (a b c:Int)(w:World):(Instr.build 177 #[(0,vi a),(1,vi b),(2,vi c)]).run Tryz.prog w = .ok (kV a b c) w:=by
 have h1:∀ n,(vi n).cells = #[vi n]:=fun _=>rfl;simp[Instr.build,Instr.fill,h1];rfl
theorem yu (n:Nat)(B:List Cl)(a d:Int):kT n B a d=(B.filter fun c=>decide (c.dim=d)).filter fun c=>decide (jt n c.id≤a):=by
 unfold kT;rw[List.filter_filter];refine List.filter_congr fun c _=>?_;rw[Bool.and_comm]
theorem DL (n:Nat)(B:List Cl)(a d:Int):ow n B a d=(B.filter fun c=>decide (c.dim=d)).filter fun c=>decide (jt n c.id>a):=by
 unfold ow;rw[List.filter_filter];refine List.filter_congr fun c _=>?_;rw[Bool.and_comm]
theorem uq {α:Type}{l:List α}{k:Nat}(h:k<l.length)(q:α→Bool):(l.take (k+1)).filter q=if q l[k]=true then (l.take k).filter q++[l[k]] else (l.take k).filter q:=by
 rw[tS h,zh3,zi4];split
 ·rfl
 ·simp
def nY (q:List ai)(id:Int):Int:=(q.map fun x=>if x.cell=id then x.sign else 0).sum
theorem oW (q:List ai)(x:ai)(id:Int):nY (q++[x]) id=nY q id+if x.cell=id then x.sign else 0:=by
 unfold nY;rw[zg2,List.sum_append];simp
theorem Gz {q:List ai}{id:Int}(h:∀ x∈q,x.cell≠id):nY q id=0:=Aq fun x hx=>zf6 (h x hx)
theorem Bo (id:Int):∀ {q:List ai},(∀ x∈q,x.sign=1∨x.sign = -1)→(nY q id).natAbs≤q.length
 | [],_=>by simp[nY]
 | x::q,h=>by
  have ih:=Bo id (q:=q) fun y hy=>h y (by simp[hy]);have h1:=h x (by simp);have e:nY (x::q) id=(if x.cell=id then x.sign else 0)+nY q id:=by simp[nY]
  rw[e,ze5];split <;> omega
theorem nJ {tl:List Cl}{c:Cl}(h:Fm tl c):c.sides.length≤64:=by
 have h1:=h.cnt;have h2:=h.dim;simp only[ax,Bool.or_eq_false_iff,Bool.and_eq_false_iff,decide_eq_false_iff_not] at h1;omega
theorem zP {L:List Cl}(hn:(L.map Cl.id).Nodup)(F G:Cl→Int){i:Nat}{c:Cl}(hi:L[i]?=some c)(y:Int)(hy:G c=y)(hG:∀ d∈L,d.id≠c.id→G d=F d):(L.map F).set i y=L.map G:=by
 refine List.ext_getElem? fun j=>?_;rw[List.getElem?_set,zh6,zh6,ze3];have hil:=(zf2.1 hi).1;by_cases e:i=j
 ·subst e;rw[zf7 rfl,zf7 hil,hi,← hy];rfl
 ·rw[zf6 e];cases hj:L[j]? with
  | none=>rfl
  | some d =>
   show some (F d)=some (G d);rw[hG d (zf8 hj) fun e2=>?_];obtain ⟨a1,a2⟩:=zf2.1 hi;obtain ⟨b1,b2⟩:=zf2.1 hj;have key:∀ {a b:Nat} (ha:a<L.length) (hb:b<L.length),a<b→L[a].id≠L[b].id:=fun {a b} ha hb h=>by
    have:=zc6.1 hn a b (by simpa using ha) (by simpa using hb) h;simpa using this
   rcases Nat.lt_trichotomy i j with h | h | h
   ·exact key a1 b1 h (by rw[a2,b2,e2])
   ·exact e h
   ·exact key b1 a1 h (by rw[a2,b2,e2])
theorem zz {p:Int}(hp:Fp p)(cols Rw:List Cl)(A:List Int)(C:Nat)(hC:C=if cols=[] then 0 else Rw.length)(h:∀ i<cols.length,∀ j<C,atF A C i j=elM (cols.map fun x=>Rw.map fun r=>d4 x r) i j % p):rk p (atF A C) cols.length C=rkP p cols Rw:=by
 by_cases h0:cols=[]
 ·subst h0;have h1:=jn hp.fld (atF A C) 0 C;have h2:=jn hp.fld (mx ([]:List Cl) Rw d4) 0 Rw.length;show rk p (atF A C) 0 C=rk p (mx ([]:List Cl) Rw d4) 0 Rw.length;omega
 ·rw[zf6 h0] at hC;subst hC;show _=rk p (mx cols Rw d4) cols.length Rw.length;refine fy hp.fld fun i hi j hj=>?_;rw[h i hi j hj,nm (gE hi) (gE hj)];refine (od _ _).trans (Eqm.of ?_);rw[Bp (by rw[ze3]; exact hi) (by rw[List.getElem_map,ze3]; exact hj)];simp
theorem lB (E:World)(g:PH)(s:Own)(v:Value)(L:List Cl)(T:List (List Int))(p:Int)(hp:Fp p)(B:List Cl)(mk ik:Nat)(a low dim:Int)(hv:xg g v L T p B mk)(hB:Bok T.length B)(hT:T.length≤6)(hk:s[ik]?=some (knE mk fun a low dim=>eD (rkP p) T.length B a low dim))(ha:a.natAbs≤1000)(hlow:low.natAbs≤1000)(hdim:dim.natAbs≤1000) :
  Ctr Tryz.prog E 86 #[v,vi a,vi low,vi dim] g s (fun x g' s'=>x=vi (sN (rkP p) T.length B a low dim)∧s=s'∧Le g g'):=by
 obtain ⟨bs,mb,pv,rfl,hbs,hcov,hby⟩:=hv;have hcov0:=hcov;obtain ⟨bc,m,cv,iv,rfl,hbc,-⟩:=hcov;have hA1 : -1≤min (max a (-1)) ((T.length:Int) - 1)∧min (max a (-1)) ((T.length:Int) - 1)≤1000:=oM;have hW1 : -1≤max low (-1)∧max low (-1)≤1000:=oM;obtain ⟨prs,hmp,hlook⟩:=hby
 obtain ⟨vr,rr,hvr,hrr,hallr⟩:=hlook (dim - 1);obtain ⟨vc,rc,hvc,hrc,hallc⟩:=hlook dim;have hcr:=hB.cnt (dim - 1);have hcc:=hB.cnt dim;obtain ⟨rp,rcap,rfl⟩:=za2 hrr;obtain ⟨cp,ccap,rfl⟩:=za2 hrc;have hsz:sN (rkP p) T.length B a low dim=eD (rkP p) T.length B (min (max a (-1)) ((T.length:Int) - 1)) (max low (-1)) dim:=rfl;rw[hsz];have hRl:=hallr.length;have hCl:=hallc.length;have hRn:((B.filter fun c=>decide (c.dim=dim - 1)).map Cl.id).Nodup:=by
  rw[List.Nodup,zk1];exact (hB.rt.asc.filter _).imp fun h=>by omega
 have hRm:∀ c∈B.filter (fun c=>decide (c.dim=dim - 1)),0≤c.id∧c.id<4611686018427387904:=fun c hc=>by
  have h1:=(zh1.1 hc).1;have h2:=hB.rt.pos c h1;exact⟨oM,hB.lt c h1⟩
 have hCm:∀ c∈B.filter (fun c=>decide (c.dim=dim)),c∈B∧0≤c.id∧c.id<4611686018427387904:=fun c hc=>by
  have h1:=(zh1.1 hc).1;have h2:=hB.rt.pos c h1;exact⟨h1,oM,hB.lt c h1⟩
 have hrowsB:=DL T.length B (max low (-1)) (dim - 1);have hcolsB:=yu T.length B (min (max a (-1)) ((T.length:Int) - 1)) dim;refine za9 (args:=[pp bs 0,vi a,vi low,vi dim]) func86 I ntmps86 (bE I) ?_;refine rZ (aT I (sW I (lU (SU.maxF I I) (lM I (lU (nC I) (lU (fA xh I sizeOf66 I) (lK (qL (v:=pp bc 0) isAgg66 I (cK hbs I)) (lU (nC I) (lU (fA pY I zT3 I) (lK (qL (v:=vi T.length) iT3 I (cK hbc I)) (lU (sU I I oM) (lU (SU.minF I I) (lM I (lU (SU.maxF I I) (lA I (aT I (sW I (lM I (lM I (lU (za1 I (build177 _ _ _)) ?_))))))))))))))))))));refine bW (aL zeroValue177) fun b9=>?_;refine oZ (sK 0 sizeOf177 I I I I I sB) (tZ (sQ (sQ ?_)));refine dW [] [(0,2),(1,2),(2,2),(3,1),(4,1),(5,0),(6,2),(7,2),(8,2),(9,2),(10,2)] zd9 kR ?_;refine yM I (pU I (nC I) (pU I (fA xh I sizeOf73 I) (pK I (qL (v:=.map (some mk)) isAgg73 I (cK hbs I)) (pK I (SQ.eq (v':=kV (min (max a (-1)) ((T.length:Int) - 1)) (max low (-1)) dim) (qV 0 isAgg177 sizeOf177 I I I) I) (SP.o I (SO.lookK (ik+1) hk I I (by unfold sml; omega) (by unfold sml; omega) (by unfold sml; omega)) dC (.inr iR) ?_)))));rintro _ _ _ ⟨⟨n0,b0,rfl,hn0⟩,rfl,rfl⟩;refine yM I (pU I (xT I I) (pU I (xT I I) (pU I (aS I) (pU I (aS I) (pN (tN (sW I (tZ ?_))))))));refine iQ I (fun hb0=>?_) (fun hb0=>?_)
 ·refine sW I (aT I (rE (tR ?_)));rw[hn0 hb0];refine dR (s':=s) uR ?_;exact za6 (.inl I) results86 I ⟨I,I,zb7 _⟩
 ·generalize min (max a (-1)) ((T.length:Int) - 1)=A at *;generalize max low (-1)=W at *;generalize B.filter (fun c=>decide (c.dim=dim - 1))=RR at *;generalize B.filter (fun c=>decide (c.dim=dim))=CC at *;refine kP (tN (rZ (lW (SO.mkMap) ?_)));rintro _ _ _ ⟨b53,rfl,rfl,rfl⟩;refine aT I (sQ (sW I (lU (nC I) (lU (fA xh I sizeOf72 I) (lK (qL (v:=.map (some mb)) isAgg72 I (cK hbs I)) (lM I (lU (sU I I oM) (lK (SQ.eq (v':=.slice rp rr.length rcap) (SQ.lookup mty72 I I (cG.known hmp)) hvr) (lU (eN aO I) (lM I (tZ (bK ?_))))))))))));refine oP (ι:=Nat) (fun k=>[(0,pp bs 0),(1,vi A),(2,vi W),(3,vi dim),(9,pp b9 0),(12,.map (some b53)),(60,.slice rp rr.length rcap),(61,vi rr.length),(62,vi k)]) (fun _=>g) (fun k=>mp b53 (atP ((RR.take k).filter fun c=>decide (jt T.length c.id>W)))::pt b9 (.cells #[vi A,vi W,vi dim] 177 (0,0))::s) (fun k=>k≤rr.length) (fun k=>rr.length - k) 0 sB I I (zf3 _) ?_;rintro k hkk;refine rZ (yL I (tZ (sQ ?_)));refine iP I (fun hlt=>?_) (fun hlt=>?_)
  ·have hkr:k<rr.length:=oM;have hkl:k<RR.length:=oM;have hb1:=za4 hrr oM;have hgr:rr[((k:Nat):Int).toNat]?=some rr[k]:=gE hkr;have hR:=hallr.get (gE hkl) (gE hkr);have hsn:=uq hkl fun c=>decide (jt T.length c.id>W);have hmem:=hRm _ (gM hkl);have hnew:∀ d∈(RR.take k).filter (fun c=>decide (jt T.length c.id>W)),d.id≠RR[k].id:=fun d hd=>by
    obtain ⟨j,hj,rfl⟩:=List.mem_iff_getElem.1 (zh1.1 hd).1;rw[ze1] at hj;rw[List.getElem_take];have:=zc6.1 hRn j k (by rw[ze3]; omega) (by rw[ze3]; omega) oM;simpa using this
   have hput:=BB hnew;have hal:(atP ((RR.take k).filter fun c=>decide (jt T.length c.id>W))).length=((RR.take k).filter fun c=>decide (jt T.length c.id>W)).length:=by
    unfold atP;rw[ze3,List.length_zipIdx]
   generalize RR[k]=x at *;rw[← hR.1] at hmem hput;have hid:=hR.1;generalize rr[k]=r at *;refine kP (tN (sQ (bK (rZ (lU (iA aO aK I I hb1 oM sL) (lK (eA gJ aK I (za5 hrr) hgr) (bW (aL zl1) fun b14=>?_)))))));refine oZ (sK 0 aK I I I I I sB) (tZ (sQ ?_));refine dW [] [(0,2),(1,2),(2,2),(3,1),(4,2),(5,1),(7,2),(6,0),(8,2)] zd9 kR ?_;refine yM I (pU I (nC I) (pU I (fA xh I sizeOf66 I) (pK I (qL (v:=pp bc 0) isAgg66 I (cK hbs I)) (pU I (fA ar I zT3 I) (pK I (qL (v:=vi r.id) iT3 I (cO 0 I I)) (yM I (SP.o I (cL call132 I (pP E g _ _ L T r.id hcov0 hT hmem.1 hmem.2)) dC (.inr iR) ?_)))))));rintro _ _ _ ⟨rfl,rfl,rfl⟩;refine pU I (gR I I) (pN (tN ?_));refine iP I (fun hdeg=>?_) (fun hdeg=>?_)
   ·rw[zf7 (by rw[← hid]; exact zf5 hdeg)] at hsn;rw[← hsn] at hput;refine rG (lM I (lU (fA ar I zT3 I) (lK (qL (v:=vi r.id) iT3 I (cO 0 I I)) (lM I (lK (SQ.eq (v':=vi ((RR.take k).filter fun c=>decide (jt T.length c.id>W)).length) (SQ.lenMap underlying79 I (cG.own 1 I)) (by rw[hal])) ?_)))));refine lO (SO.mapUpdate 1 mty79 I I I I) ?_;rintro _ _ _ ⟨rfl,rfl⟩;rw[hput];refine nL (bN (tN (rG (yD I (lM I (nL (dR (.cons _ (.refl _)) ?_)))))));exact gA (k+1) sB I I oM oM
   ·rw[zf6 (by rw[← hid]; simpa using hdeg)] at hsn;refine kP (bN (tN (rG (yD I (lM I (nL (dR (.cons _ (.refl _)) ?_)))))));exact gA (k+1) sB I (by rw[hsn]) oM oM
  ·have hke:k=RR.length:=oM;subst hke;rw[List.take_length,← hrowsB];have hRw:((ow T.length B W (dim - 1)).map Cl.id).Nodup:=by
    rw[hrowsB];exact (List.filter_sublist.map _).nodup hRn
   have hRwl:(ow T.length B W (dim - 1)).length≤200:=by
    rw[hrowsB];exact zk6 (zc2 _ _) hcr
   generalize hRwd:ow T.length B W (dim - 1)=Rw at *;have hal:(atP Rw).length=Rw.length:=by unfold atP; rw[ze3,List.length_zipIdx]
   refine xI (tX (tX (bX (tN (rZ (aT I (rZ (aT I (sQ (sW I (lU (nC I) (lU (fA xh I sizeOf72 I) (lK (qL (v:=.map (some mb)) isAgg72 I (cK hbs I)) (lM I (lK (SQ.eq (v':=.slice cp rc.length ccap) (SQ.lookup mty72 I I (cG.known hmp)) hvc) (lU (eN aO I) (lM I (tZ (bK (zb4 25 1 ?_))))))))))))))))))));refine oP (ι:=PH×Nat×Value×List Sv) (fun z=>[(0,pp bs 0),(1,vi A),(9,pp b9 0),(12,.map (some b53)),(15,z.2.2.1),(16,vi z.2.2.2.length),(86,.slice cp rc.length ccap),(87,vi rc.length),(88,vi z.2.1)]) (fun z=>z.1) (fun z=>rowA encSv 25 z.2.2.1 z.2.2.2::mp b53 (atP Rw)::pt b9 (.cells #[vi A,vi W,vi dim] 177 (0,0))::s) (fun z=>Le g z.1∧z.2.1≤rc.length∧aB (bJ z.1) (((CC.take z.2.1).filter fun c=>decide (jt T.length c.id≤A)).map fun x=>Rw.map fun r=>d4 x r) z.2.2.2) (fun z=>rc.length - z.2.1) (g,0,.slice none 0 0,[]) sB I I ⟨zb7 _,zf3 _,trivial⟩ ?_;rintro ⟨g2,k,colsv,svs⟩ ⟨hle2,hkk,hacc⟩;dsimp only at hle2 hkk hacc ⊢;have hsl:=hacc.length;rw[ze3] at hsl;have hfl:((CC.take k).filter fun c=>decide (jt T.length c.id≤A)).length≤200:=zk6 (zc2 _ _) (by rw[ze1]; omega);refine rZ (yL I (tZ (sQ ?_)));refine iP I (fun hlt2=>?_) (fun hlt2=>?_)
   ·have hkr:k<rc.length:=oM;have hkl:k<CC.length:=oM;have hb1:=za4 hrc oM;have hgr:rc[((k:Nat):Int).toNat]?=some rc[k]:=gE hkr;have hR:=hallc.get (gE hkl) (gE hkr);have hsn:=uq hkl fun c=>decide (jt T.length c.id≤A);obtain ⟨hxB,hx0,hx1⟩:=hCm _ (gM hkl);have hfm:=hB.rt.form _ hxB;have hx64:=nJ hfm;generalize CC[k]=x at *;generalize rc[k]=r at *;obtain ⟨ri,rd,sp,sn,sc⟩:=r;obtain ⟨hid,hdd,hss⟩:=hR;dsimp only at hid hdd hss;have hsn2:sn=x.sides.length:=Sl.slen hss;subst hid hdd hsn2;refine kP (tN (sQ (bK (rZ (lU (iA aO aK I I hb1 oM sL) (lK (eA gJ aK I (za5 (za3 hrc hle2)) hgr) (bW (aL zl1) fun b18=>?_)))))));refine oZ (sK 0 aK I I I I I sB) (tZ (sQ (sQ ?_)));refine dW [] [(0,2),(1,2),(2,2),(3,1),(4,2),(5,1),(7,2),(6,0),(8,2)] zd9 kR ?_;refine yM I (pU I (nC I) (pU I (fA xh I sizeOf66 I) (pK I (qL (v:=pp bc 0) isAgg66 I (cK (hle2 _ _ hbs) I)) (pU I (fA ar I zT3 I) (pK I (qL (v:=vi x.id) iT3 I (cO 0 I I)) (yM I (SP.o I (cL call132 I (pP E g2 _ _ L T x.id (hcov0.mono hle2) hT hx0 hx1)) dC (.inr iR) ?_)))))));rintro _ _ _ ⟨rfl,rfl,rfl⟩;refine pU I (gR I I) (pN (tN ?_));refine iP I (fun hdeg=>?_) (fun hdeg=>?_)
    ·rw[zf6 (by simp; omega)] at hsn;refine xI (tX (bX (tN (rG (yD I (lM I (nL (dR (.cons _ (.refl _)) ?_))))))));exact gA (g2,k+1,colsv,svs) sB I I ⟨hle2,by dsimp only; omega,by dsimp only; rw[hsn]; exact hacc⟩ (by dsimp only; omega)
    ·rw[zf7 (by simp; omega)] at hsn;refine kP (tN (sW I (yD I (aT I (sW I (lK (SQ.eq (v':=vi Rw.length) (SQ.lenMap underlying79 I (cG.own 2 I)) (by rw[hal])) ?_))))));refine lW (mK encInt 0 sty25 I I I oM oM) ?_;rintro _ _ _ ⟨bl,rfl,rfl,rfl⟩;refine aT I (sQ (rZ (lU (fA ar I cA I) (lK (qL (v:=.slice sp x.sides.length sc) dE I (cO 1 I I)) (lU (eN cM I) (lM I (tZ (bK ?_))))))));refine oP (ι:=Nat) (fun j=>[(0,pp bs 0),(1,vi A),(9,pp b9 0),(12,.map (some b53)),(15,colsv),(16,vi (svs.length+1:Nat)),(19,.slice (some ⟨bl,0,none⟩) Rw.length Rw.length),(86,.slice cp rc.length ccap),(87,vi rc.length),(88,vi k),(107,.slice sp x.sides.length sc),(108,vi x.sides.length),(109,vi j)]) (fun _=>g2) (fun j=>rowA encInt 3 (.slice (some ⟨bl,0,none⟩) Rw.length Rw.length) (Rw.map fun r=>nY (x.sides.take j) r.id)::pt b18 (.cells #[vi x.id,vi x.dim,.slice sp x.sides.length sc] 78 (0,0))::rowA encSv 25 colsv svs::mp b53 (atP Rw)::pt b9 (.cells #[vi A,vi W,vi dim] 177 (0,0))::s) (fun j=>j≤x.sides.length) (fun j=>x.sides.length - j) 0 sB I (by rw[show (Rw.map fun r=>nY (x.sides.take 0) r.id)=List.replicate Rw.length 0 from List.map_const']; rfl) (zf3 _) ?_;rintro j hj;refine rZ (yL I (tZ (sQ ?_)));refine iP I (fun hlt3=>?_) (fun hlt3=>?_)
     ·have hjl:j<x.sides.length:=oM;have hb2:=za4 hss oM;have hgj:x.sides[((j:Nat):Int).toNat]?=some x.sides[j]:=gE hjl;have htj:x.sides.take (j+1)=x.sides.take j++[x.sides[j]]:=tS hjl;have hprev:∀ y∈x.sides.take j,y.cell≠x.sides[j].cell:=fun y hy=>by
       obtain ⟨i,hi,rfl⟩:=List.mem_iff_getElem.1 hy;rw[ze1] at hi;rw[List.getElem_take];have:=zc6.1 hfm.asc i j oM hjl oM;omega
      generalize x.sides[j]=q at *
      rcases mR q.cell Rw 0 with ⟨h1,h2⟩ | ⟨cx,i,h1,h2,h3⟩
      ·refine kP (tN (sQ (bK (rZ (lU (iA cM cq I I hb2 oM sL) (lK (eA mT cq I (za5 (za3 hss hle2)) hgj) (bW (aL zk9) fun b21=>?_)))))));refine oZ (sK 0 cq I I I I I sB) (tZ (sW I (lU (fA dK I zT3 I) (lK (qL (v:=vi q.cell) iT3 I (cO 0 I I)) (lK (SQ.eq (v':=.tuple #[vi 0,vb false]) (SQ.lookupOk mty79 I I (cG.own 4 I)) (by rw[show ft (atP Rw) q.cell=none from h1]; rfl)) ?_)))));refine lM I (yX I (yX I (lA I (aT I (sW I (tZ (cF I (kP (bN (tN (rG (yD I (lM I (nL ?_))))))))))))));have hst:(Rw.map fun r=>nY (x.sides.take (j+1)) r.id)=Rw.map fun r=>nY (x.sides.take j) r.id:=zc5 fun d hd=>by
        rw[htj,oW,zf6,Int.add_zero];intro e;unfold az at h2;have:=List.find?_eq_none.1 h2 d hd;simp[e] at this
       refine dR (.cons _ (.refl _)) ?_;exact gA (j+1) sB I (by rw[hst]) oM oM
      ·have hci:=(bF h1).2;have hil:=(zf2.1 h2).1;have hset:=zP hRw (fun r=>nY (x.sides.take j) r.id) (fun r=>nY (x.sides.take (j+1)) r.id) h2 q.sign (by
        show nY (x.sides.take (j+1)) cx.id=_;rw[htj,oW,zf7 hci.symm,Gz fun y hy e=>hprev y hy (by rw[e,hci]),Int.zero_add]) (fun d _ hd=>by
        show nY (x.sides.take (j+1)) d.id=_;rw[htj,oW,zf6 (fun e=>hd (by rw[← e,hci])),Int.add_zero])
       refine kP (tN (sQ (bK (rZ (lU (iA cM cq I I hb2 oM sL) (lK (eA mT cq I (za5 (za3 hss hle2)) hgj) (bW (aL zk9) fun b21=>?_)))))));refine oZ (sK 0 cq I I I I I sB) (tZ (sW I (lU (fA dK I zT3 I) (lK (qL (v:=vi q.cell) iT3 I (cO 0 I I)) (lK (SQ.eq (v':=.tuple #[vi (i:Nat),vb true]) (SQ.lookupOk mty79 I I (cG.own 4 I)) (by rw[show ft (atP Rw) q.cell=some (vi (0+i:Nat)) from h3,Nat.zero_add]; rfl)) ?_)))));refine lM I (yX I (yX I (lA I (aT I (sW I (tZ (cT I (rG (lM I (lM I (lU (fA dK I zT3 I) (lK (qL (v:=vi q.sign) iT3 I (cO 0 I I)) (lU (SU.eq (v':=.pointer (some ⟨bl,0+i * 1,none⟩)) (iA ak zT3 I I I oM sL) I) (oZ (sT (e:=encInt) (a:=q.sign) (j:=i) 1 zT3 I I I (by rw[ze3]; exact hil) I) ?_))))))))))))));rw[hset];refine nL (bN (tN (rG (yD I (lM I (nL (dR (.cons _ (.refl _)) ?_)))))));exact gA (j+1) sB I I oM oM
     ·have hje:j=x.sides.length:=oM;subst hje;rw[List.take_length];refine fS fun g3 hle3 hs3=>?_;have hs3':bT g3 (.slice (some ⟨bl,0,none⟩) Rw.length Rw.length) (Rw.map fun r=>d4 x r):=hs3;refine xI (tX (tX (bX (tN (rG (lM I (lM I (lW (bS sty22 I I I (ae ⟨I,trivial⟩) dC) ?_))))))));rintro _ _ _ ⟨b129,rfl,rfl,rfl⟩;refine lW (aP (e:=encSv) (l:=svs) 1 ⟨some ⟨bl,0,none⟩,Rw.length,Rw.length⟩ sty22 I I I I I oM oM) ?_;rintro v130 _ _ ⟨rfl,rfl⟩;refine lA I (nL (bN (tN (rG (yD I (lM I (nL (dR (.cons _ (.refl _)) ?_))))))));exact gA (g3,k+1,v130,svs++[⟨some ⟨bl,0,none⟩,Rw.length,Rw.length⟩]) ⟨I,I,I,I,I,by rw[ze2]; rfl,rfl,rfl,rfl,trivial⟩ rfl rfl ⟨hle2.trans hle3,by dsimp only; omega,by dsimp only; rw[hsn,zg2]; exact (hacc.mono fun _ _=>bJ.mono hle3).append ⟨hs3',trivial⟩⟩ (by dsimp only; omega)
   ·have hke:k=CC.length:=oM;subst hke;rw[List.take_length,← hcolsB] at hacc hsl hfl;generalize hcw:kT T.length B A dim=cols at *;refine fS fun g3 hle3 hs3=>?_;have hLs:aF g3 colsv (cols.map fun x=>Rw.map fun r=>d4 x r):=⟨svs,hs3,hacc.mono fun _ _=>bJ.mono hle3⟩;have hle03:=hle2.trans hle3;have hfin:eD (rkP p) T.length B A W dim=(cols.length:Int) - (rkP p cols Rw:Int):=by
     unfold eD;rw[hcw,hRwd]
    have hbd:∀ r∈cols.map (fun x=>Rw.map fun r=>d4 x r),∀ y∈r,y.natAbs≤1000000:=fun r hr y hy=>by
     obtain ⟨x,hx,rfl⟩:=ze8.1 hr;obtain ⟨c,-,rfl⟩:=ze8.1 hy;have hxc:x∈CC:=by
      rw[hcolsB] at hx;exact (zh1.1 hx).1
     have hf:=hB.rt.form x (hCm x hxc).1;have h1:=Bo c.id hf.sg;have h2:=nJ hf;show (nY x.sides c.id).natAbs≤_;omega
    have hrkb:=jn hp.fld (mx cols Rw d4) cols.length Rw.length;have hrkb2:rkP p cols Rw≤cols.length:=hrkb;refine xI (tX (tX (bX (tN (sW I (lM I (lU (nC I) (lU (fA xh I zT3 I) (lK (qL (v:=vi p) iT3 I (cK (hle03 _ _ hbs) I)) (lM I (lW (cL call133 I (Ey E g3 _ colsv p hp (cols.map fun x=>Rw.map fun r=>d4 x r) (if cols=[] then 0 else Rw.length) hLs (by rw[ze3]; omega) (by split <;> omega) (fun r hr=>by obtain ⟨x,hx,rfl⟩:=ze8.1 hr; rw[ze3,zf6 (List.ne_nil_of_mem hx)]) (fun h=>zf7 (List.map_eq_nil_iff.1 h)) hbd)) ?_)))))))))));rintro v138 g4 _ ⟨rfl,hle4,MA,hMA,hMl,hMp,hMe⟩;refine lW (cL call31 I (rz E g4 _ v138 p hp _ _ (by rw[ze3]; omega) (by split <;> omega) MA hMl hMA hMp)) ?_;rintro _ g5 _ ⟨rfl,hle5,rfl⟩;rw[ze3] at hMe ⊢;rw[zz hp cols Rw MA _ rfl hMe];refine lU (SU.eq (v':=vi (eD (rkP p) T.length B A W dim)) (sU I I oM) (zd8 vi (by rw[hfin,hsl]))) ?_;refine aT I (sQ ?_);refine dW [6] [(0,2),(1,2),(2,2),(3,1),(4,1),(5,2),(6,0)] zd9 kR ?_;refine yM I (pU I (nC I) (pU I (fA xh I sizeOf73 I) (pK I (qL (v:=.map (some mk)) isAgg73 I (cK ((hle03.trans (hle4.trans hle5)) _ _ hbs) I)) (pK I (SQ.eq (v':=kV A W dim) (qV 1 isAgg177 sizeOf177 I I I) I) (yM I (SP.on I (SO.mapK (ik+2) hk I I I (by unfold sml; omega) (by unfold sml; omega) (by unfold sml; omega)) (.inl dC) ?_))))));rintro _ _ _ ⟨rfl,rfl⟩;refine pN (tN (sW I (aT I (rE (dR (s':=s) uR ?_)))));exact za6 (.inl I) results86 I ⟨I,I,hle03.trans (hle4.trans hle5)⟩
theorem xH {p:Int}(hp:Fp p){n:Nat}{B:List Cl}(hB:Bok n B)(a low d:Int):(sN (rkP p) n B a low d).natAbs≤200:=by
 have key:∀ A W,(eD (rkP p) n B A W d).natAbs≤200:=fun A W=>by
  have h1:(kT n B A d).length≤200:=by
   rw[yu];exact zk6 (zc2 _ _) (hB.cnt d)
  have h2:rkP p (kT n B A d) (ow n B W (d - 1))≤(kT n B A d).length:=jn hp.fld _ _ _;unfold eD;omega
 exact key _ _
theorem wy (E:World)(g:PH)(s:Own)(v:Value)(L:List Cl)(T:List (List Int))(p:Int)(hp:Fp p)(B:List Cl)(mk ik:Nat)(r a b:Int)(hv:xg g v L T p B mk)(hB:Bok T.length B)(hT:T.length≤6)(hk:s[ik]?=some (knE mk fun a low dim=>eD (rkP p) T.length B a low dim))(hr:r.natAbs≤100)(ha:a.natAbs≤100)(hb:b.natAbs≤100) :
  Ctr Tryz.prog E 38 #[v,vi r,vi a,vi b] g s (fun x g' s'=>x=vi (vy (rkP p) T.length B r a b)∧s=s'∧Le g g'):=by
 have hbd:=xH hp hB;have b1:=hbd a (a - r) (a+b);have b2:=hbd (a - 1) (a - r) (a+b);have b3:=hbd (a+r - 1) a (a+b+1);have b4:=hbd (a+r - 1) (a - 1) (a+b+1);refine za9 (args:=[v,vi r,vi a,vi b]) func38 I ntmps38 (bE I) ?_;refine rZ (aT I (sW I (lM I (yD I (aT I (sW I (lM I (lM I (lM I (lU (sU I I oM) (lM I (lW (cL call86 I (lB E g s v L T p hp B mk ik a (a - r) (a+b) hv hB hT hk oM oM oM)) ?_))))))))))));rintro _ g1 _ ⟨rfl,rfl,hle1⟩;refine lM I (lM I (lU (sU I I oM) (lM I (lM I (lU (sU I I oM) (lM I (lW (cL call86 I (lB E g1 s v L T p hp B mk ik (a - 1) (a - r) (a+b) (hv.mono hle1) hB hT hk oM oM oM)) ?_)))))));rintro _ g2 _ ⟨rfl,rfl,hle2⟩;refine lU (sU I I oM) (lM I (lM I (lM I (yD I (lU (sU I I oM) (lM I (lM I (yD I (lW (cL call86 I (lB E g2 s v L T p hp B mk ik (a+r - 1) a (a+b+1) (hv.mono (hle1.trans hle2)) hB hT hk oM oM oM)) ?_)))))))));rintro _ g3 _ ⟨rfl,rfl,hle3⟩;refine lU (sU I I oM) (lM I (lM I (lM I (yD I (lU (sU I I oM) (lM I (lU (sU I I oM) (lM I (yD I (lW (cL call86 I (lB E g3 s v L T p hp B mk ik (a+r - 1) (a - 1) (a+b+1) (hv.mono (hle1.trans (hle2.trans hle3))) hB hT hk oM oM oM)) ?_))))))))));rintro _ g4 _ ⟨rfl,rfl,hle4⟩;refine yD I (aT I (rE ?_));exact za6 (.inl I) results38 I ⟨I,I,hle1.trans (hle2.trans (hle3.trans hle4))⟩
theorem zZ (E:World)(g:PH)(s:Own)(v u:Value)(P Q:List (List Int))(hv:aF g v P)(hu:aF g u Q)(hP:P.length<1099511627776)(hPl:∀ x∈P,x.length<1099511627776)(hQ:Q.length<1099511627776) :
  Ctr Tryz.prog E 40 #[v,u,.func (.func 41) #[] #[]] g s (fun r g' s'=>r=vb (decide (P=Q))∧g=g'∧s=s'):=by
 obtain ⟨rs,hrs,hallr⟩:=hv;obtain ⟨qs,hqs,hallq⟩:=hu;have hlr:=hallr.length;have hlq:=hallq.length;obtain ⟨rp,rc,rfl⟩:=za2 hrs;obtain ⟨qp,qc,rfl⟩:=za2 hqs;refine za9 (args:=[.slice rp rs.length rc,.slice qp qs.length qc,.func (.func 41) #[] #[]]) func40 I ntmps40 (bE I) ?_;refine rZ (aT I (sQ (sW I (lU (eN bH I) (lM I (lU (eN bH I) (lU (nQ I I) (tZ ?_))))))));refine iP I (fun hne=>?_) (fun hne=>?_)
 ·refine rZ (aT I (rE (tR ?_)));have h0:decide (P=Q)=false:=zf4 fun e=>hne (by rw[← hlr,← hlq,e]);exact za6 (.inl I) results40 I ⟨by rw[h0],I,I⟩
 ·have hlen:rs.length=qs.length:=oM;refine kP (tN (sQ (sW I (lU (eN bH I) (lM I (tZ (bK ?_)))))));refine oP (ι:=Nat) (fun k=>[(0,.slice rp rs.length rc),(1,.slice qp qs.length qc),(2,.func (.func 41) #[] #[]),(15,.slice rp rs.length rc),(16,vi rs.length),(17,vi k)]) (fun _=>g) (fun _=>s) (fun k=>k≤rs.length∧P.take k=Q.take k) (fun k=>rs.length - k) 0 sB I I ⟨zf3 _,I⟩ ?_;rintro k ⟨hk,heq⟩;refine rZ (yL I (tZ (sQ ?_)));refine iP I (fun hlt=>?_) (fun hlt=>?_)
  ·have hkr:k<rs.length:=oM;have hkq:k<qs.length:=oM;have hkP:k<P.length:=oM;have hkQ:k<Q.length:=oM;have hb1:=za4 hrs oM;have hb2:=za4 hqs oM;have hgr:rs[((k:Nat):Int).toNat]?=some rs[k]:=gE hkr;have hgq:qs[((k:Nat):Int).toNat]?=some qs[k]:=gE hkq;have hR:=hallr.get (gE hkP) (gE hkr);have hQ':=hallq.get (gE hkQ) (gE hkq);have h1:P.take (k+1)=P.take k++[P[k]]:=tS hkP;have h2:Q.take (k+1)=Q.take k++[Q[k]]:=tS hkQ;have hpl:=hPl _ (gM hkP);have hdiff:P[k]≠Q[k]→decide (P=Q)=false:=fun h=>zf4 fun e=>h (by subst e; rfl);generalize P[k]=x at *;generalize Q[k]=y at *;generalize rs[k]=r at *;generalize qs[k]=q at *;obtain ⟨ap,an,ac⟩:=r;obtain ⟨bp,bn,bc⟩:=q;refine kP (tN (sQ (bK (sW I (lU (iA bH bZ I I hb1 oM sL) (lK (eB (u:=.slice ap an ac) dx I (za5 hrs) hgr I) (lA I (aT I (sW I (lM I (lU (iA bH bZ I I hb2 oM sL) (lK (eB (u:=.slice bp bn bc) dx I (za5 hqs) hgq I) (aT I (sW I (lM I (lM I (lW (SO.callV I I (cI.mk (cap:=[]) call41 (ur E g s (.slice ap an ac) (.slice bp bn bc) x y hR hQ' hpl))) ?_)))))))))))))))));rintro _ _ _ ⟨rfl,rfl,rfl⟩;refine lU (SU.notP I) (tZ ?_);refine iQ I (fun hxy=>?_) (fun hxy=>?_)
   ·have hxy':x≠y:=by simpa using hxy
    refine rZ (aT I (rE (bR (tR (tR (bR (tR ?_)))))));exact za6 (.inl I) results40 I ⟨by rw[hdiff hxy'],I,I⟩
   ·have hxy':x=y:=by simpa using hxy
    refine kP (bN (tN (rG (yD I (lM I (nL ?_))))));exact gA (k+1) sB I I ⟨oM,by rw[h1,h2,heq,hxy']⟩ oM
  ·have hkk:k=rs.length:=oM;subst hkk;rw[tL oM,tL oM] at heq;refine xI (tX (tX (bX (tN (rZ (aT I (rE ?_)))))));have h0:decide (P=Q)=true:=zf5 heq;exact za6 (.inl I) results40 I ⟨by rw[h0],I,I⟩
theorem vf (E:World)(g:PH)(s:Own)(v u:Value)(P Q:List (List Int))(hv:aF g v P)(hu:aF g u Q)(hP:P.length<1099511627776)(hPl:∀ x∈P,x.length<1099511627776)(hQ:Q.length<1099511627776) :
  Ctr Tryz.prog E 39 #[v,u] g s (fun r g' s'=>r=vb (decide (P=Q))∧g=g'∧s=s'):=by
 refine za9 (args:=[v,u]) func39 I ntmps39 (bE I) ?_;refine rZ (aT I (sW I (lM I (lW (cL call40 I (zZ E g s v u P Q hv hu hP hPl hQ)) ?_))));rintro _ _ _ ⟨rfl,rfl,rfl⟩;refine aT I (rE ?_);exact za6 (.inl I) results39 I ⟨I,I,I⟩
end Go.Proofs.YtkbagdedfdfjhaaGreatDoor
