/- 11 -/
import Derived.Test.YtkbagdedfdfjhaaGreatDoorFi10
import Derived.Test.YtkbagdedfdfjhaaGreatDoorFi04
import Derived.Test.YtkbagdedfdfjhaaGreatDoorFi09
import Derived.Test.YtkbagdedfdfjhaaGreatDoorFi07
import Derived.Test.YtkbagdedfdfjhaaGreatDoorFi06
import Derived.Test.YtkbagdedfdfjhaaGreatDoorFi02
import Derived.Test.YtkbagdedfdfjhaaGreatDoorFi03
import Derived.Scope
import Derived.Below
set_option linter.unusedSimpArgs false
set_option linter.unusedVariables false
namespace Go.Proofs.YtkbagdedfdfjhaaGreatDoor
open _root_.Go.Proofs.Tryz _root_.Go.Proofs.YtkbagdedfdfjhaaGreatDoor.Tryz
open Go Go.Sy Go.Pl Go.Proofs
set_option maxRecDepth 100000
set_option maxHeartbeats 1000000
theorem Co {l m:List Cl}(h:l.Perm m):∀ a,nW l a=nW m a:=by
 induction h with
 | nil=>exact fun _=>rfl
 | cons x _ ih=>exact fun a=>ih _
 | swap x y l=>intro a; simp only[nW]; congr 1; omega
 | trans _ _ h1 h2=>exact fun a=>(h1 a).trans (h2 a)
theorem ll (E:World)(g:PH)(s:Own)(v:Value)(l:List Cl)(hv:am g v l)(hf:cZ l) :
  Ctr Tryz.prog E 14 #[.agg #[v]] g s (fun r g' s'=>r=vi (xq l)∧s=s'∧Le g g'):=by
 have hft:=e6 hf;have hfl:=hft.1;refine za9 (args:=[.agg #[v]]) func14 I ntmps14 (bE I) ?_;refine rZ (bW (bO I) fun b1=>?_);refine aT I (rZ (aT I (sQ (rZ (lK (qV 0 bq aw I I I) (lW (cL call42 I (jo E g _ v l hv hf)) ?_))))));rintro tv g1 _ ⟨rfl,hle,ht⟩;have htab:=ht;obtain ⟨b,m,iv,rs,rfl,hb,hm,hI,hall⟩:=ht;obtain ⟨es,clk,hes,hmi⟩:=hm;refine lU (nC I) (lU (fA qv I tu I) (lK (qL isAgg85 I (cK hb I)) (lW (SO.range underlying85 I hes) ?_)));rintro _ _ _ ⟨it,rfl,rfl,rfl⟩;refine tZ (bK ?_);have hlen:=hall.length;refine oP (ι:=List MapEntry×List (Int×Value)×List Cl) (fun i=>[(3,vi (nW i.2.2 (-1))),(11,pp it 0)]) (fun _=>g1)
  (fun i=>j6 it m es clk i.1::pt b1 (.cells #[v] 30 (0,0))::s)
  (fun i=>qz (rs.map c8) es i.1 i.2.1∧(∀ c∈i.2.2,c∈ab l)∧i.2.1.map Prod.fst=i.2.2.map Cl.id) (fun i=>rs.length - i.2.1.length)
  ([],[],[]) sB rfl rfl ⟨qz.nil _ _,by simp,rfl⟩ ?_
 rintro ⟨vis,vl,vc⟩ ⟨hrv,hvs,hvl⟩;dsimp only at hrv hvs hvl ⊢;have hvle:=hrv.len hmi;simp only[ze3] at hvle;have hvcl:vl.length=vc.length:=by have:=zd8 List.length hvl; simpa using this
 refine rZ (lW (SO.nextP 0 I I hes hmi hrv) ?_);rintro _ _ _ ⟨rfl,hcase⟩
 rcases hcase with ⟨rfl,rfl,hperm⟩ | ⟨e,pr,he,hp1,hk1,hv1,hrv2,rfl,rfl⟩
 ·have hp:=uW hvl hvs (eP l) hall hperm;refine yX I (tZ (sQ (cF I (xI (tX (tX (bX (tN (sW I (aT I (rE (dR (s':=s) uR ?_))))))))))));exact za6 (.inl I) results14 I ⟨by rw[Co hp]; rfl,rfl,hle⟩
 ·obtain ⟨x,hx,rfl⟩:=ze8.1 hp1;obtain ⟨cx,hcm,hcx⟩:=ET hall hx;have hvs2:∀ c∈vc++[cx],c∈ab l:=fun c hc=>by
   rcases ze9.1 hc with h | h
   ·exact hvs c h
   ·simp at h; rw[h]; exact hcm
  have hvl2:(vl++[c8 x]).map Prod.fst=(vc++[cx]).map Cl.id:=by rw[zg2,zg2,hvl]; simp[c8,hcx.1]
  have hm2:=hrv2.len hmi;simp only[ze3,ze2,ze4] at hm2;obtain ⟨xi,xd,xv⟩:=x;have hxd:xd=cx.dim:=hcx.2.1;subst hxd;have hmx:=pI cx vc (-1);refine yX I (tZ (sQ (cT I (kP (tN (bK (rZ (lK (SQ.entryP 0 I I hes hmi he hk1 hv1) (yX I (bW (aL zl1) fun b5=>?_))))))))));refine oZ (sK 0 aK I I I I I sB) ?_;refine tZ (rG (lM I (lU (fA ar I zT3 I) (lK (qL iT3 I (cO 0 I I)) (lU (SU.eq (v':=vi (nW (vc++[cx]) (-1))) (SU.maxI I I) (zd8 vi hmx.symm)) (lA I (nL (bN (dR (s':=j6 it m es clk (vis++[e])::pt b1 (.cells #[v] 30 (0,0))::s) (.cons _ (.refl _)) ?_)))))))));exact gA (vis++[e],vl++[c8 ⟨xi,cx.dim,xv⟩],vc++[cx]) sB I I ⟨hrv2,hvs2,hvl2⟩ lN
def eG (l:List Cl):List Int:=l.flatMap fun c=>c.sides.map ai.cell
theorem wl (A:List Cl)(k:Int):(eG A).contains k=jh A k:=by
 rw[Bool.eq_iff_iff];simp[eG,jh,HH]
theorem uZ {A:List Cl}{k:Nat}(h:k<A.length):eG (A.take (k+1))=eG (A.take k)++A[k].sides.map ai.cell:=by
 unfold eG;rw[tS h,List.flatMap_append];simp only[zh2,List.flatMap_nil,zc3]
theorem Ew {A:List Cl}{id:Int}(h:az A id=none)(m:List Int):fJ A (m++[id])=fJ A m:=by
 unfold fJ;refine zc5 fun c hc=>?_;have:=List.find?_eq_none.1 h c hc;simp only[zj2] at this;simp[this]
theorem Cq {ss:List ai}{j:Nat}(h:j<ss.length)(m:List Int):m++(ss.take (j+1)).map ai.cell=(m++(ss.take j).map ai.cell)++[ss[j].cell]:=by
 rw[tS h,zg2,zg5]; rfl
theorem u4 (E:World)(g:PH)(s:Own)(v:Value)(l:List Cl)(hv:am g v l)(hf:cZ l) :
  Ctr Tryz.prog E 25 #[.agg #[v]] g s (fun r g' s'=>s=s'∧Le g g'∧bT g' r (iW l)):=by
 have hft:=e6 hf;have hfl:=hft.1;have hsrt:=eV l;have hnd:=eP l;refine za9 (args:=[.agg #[v]]) func25 I ntmps25 (bE I) ?_;refine rZ (bW (bO I) fun b1=>?_);refine aT I (rZ (aT I (rZ (lK (qV 0 bq aw I I I) (lW (cL call65 I (fM E g _ _ l hv hf)) ?_)))));rintro v11 g1 _ ⟨rfl,hle,hc⟩;obtain ⟨rs,hrs,hall⟩:=hc;have hcs:am g1 _ (ab l):=⟨rs,hrs,hall⟩;obtain ⟨q,dd,rfl⟩:=hrs.form;have hrl:=hall.length;refine aT I (sW I (lU (eN aO I) (lW (mK iE false sty114 I I I oM oM) ?_)));rintro _ _ _ ⟨b14,rfl,rfl,rfl⟩;refine aT I (sQ (rZ (aT I (bK ?_))));unfold iW;generalize ab l=A at *;refine SC.to (g':=g1) (s':=rowA iE 4 (.slice (some ⟨b14,0,none⟩) rs.length rs.length) (fJ A (eG (A.take 0)))::pt b1 (.cells #[v] 30 (0,0))::s) (fun w hw=>by rw[show eG (A.take 0)=[] from I,CH,hrl]; exact hw) ?_;refine oP (ι:=Nat) (fun i=>[(3,.slice none 0 0),(4,.slice q rs.length dd),(5,.slice (some ⟨b14,0,none⟩) rs.length rs.length),(6,vi i)]) (fun _=>g1)
  (fun i=>rowA iE 4 (.slice (some ⟨b14,0,none⟩) rs.length rs.length) (fJ A (eG (A.take i)))::pt b1 (.cells #[v] 30 (0,0))::s)
  (fun i=>i≤A.length) (fun i=>A.length - i) 0 sB rfl rfl (zf3 _) ?_
 intro k hk;refine sQ (sW I (lM I (lU (eN aO I) (yL I (tZ ?_)))));refine iP I (fun hlt=>?_) (fun hlt=>?_)
 ·have hkl:k<A.length:=oM;have hkr:k<rs.length:=oM;have hb1:=hrs.based oM;have hcr:=hall.get (gE hkl) (gE hkr);have hgr:rs[((k:Nat):Int).toNat]?=some rs[k]:=gE hkr;have hsucc:=uZ hkl;have hxl:=hft.2 _ (gM hkl);generalize A[k]=x at *;generalize rs[k]=r at *;generalize eG (A.take k)=m at *;obtain ⟨ri,rd,rp,rn,rc⟩:=r;have hsv:SlA encSide g1 (.slice rp rn rc) x.sides:=hcr.2.2;have hxn:rn=x.sides.length:=by obtain ⟨q,cc,hq⟩:=za2 hsv; simp at hq; exact hq.2.1
  subst hxn;refine kP (tN (sQ (bK (rZ (aT I (bK ?_))))));refine oP (ι:=Nat) (fun j=>[(3,.slice none 0 0),(4,.slice q rs.length dd),(5,.slice (some ⟨b14,0,none⟩) rs.length rs.length),(6,vi k),(7,vi j)]) (fun _=>g1)
   (fun j=>rowA iE 4 (.slice (some ⟨b14,0,none⟩) rs.length rs.length) (fJ A (m++(x.sides.take j).map ai.cell))::pt b1 (.cells #[v] 30 (0,0))::s)
   (fun j=>j≤x.sides.length) (fun j=>x.sides.length - j) 0 sB rfl (by simp) (zf3 _) ?_
  intro j hj;refine sQ (sW I (lM I (lM I (lU (iA aO aK I I hb1 oM sL) (lU (fC ar I cA I hb1) (lK (aZ (e:=encCell) (o:=2) (u:=.slice rp x.sides.length rc) dE I hrs.rd hgr I) (lU (eN cM I) (yL I (tZ ?_)))))))));refine iP I (fun hlt2=>?_) (fun hlt2=>?_)
  ·have hjl:j<x.sides.length:=oM;have hb2:=za4 hsv oM;have hgj:x.sides[((j:Nat):Int).toNat]?=some x.sides[j]:=gE hjl;have hms:=Cq hjl m;generalize m++(x.sides.take j).map ai.cell=m2 at *;generalize x.sides[j]=z at *;have hfl2:(fJ A m2).length=A.length:=by simp[fJ]
   rcases rU hsrt z.cell with ⟨hf0,hat⟩ | ⟨c,kk,hf0,hat,hck⟩
   ·refine kP (tN (sQ (bK (sW I (lM I (lM I (lU (iA aO aK I I hb1 oM sL) (lU (fC ar I cA I hb1) (lK (aZ (e:=encCell) (o:=2) (u:=.slice rp x.sides.length rc) dE I hrs.rd hgr I) (lM I (lU (iA cM cq I I hb2 oM sL) (lU (fC dK I zT3 I hb2) (lK (aZ (o:=0) (u:=vi z.cell) iT3 I hsv.rd hgj I) (lW (cL call66 I (iH E g1 _ _ A z.cell hcs hfl hsrt)) ?_))))))))))))));rintro _ _ _ ⟨rfl,rfl,rfl⟩;rw[hat];refine aT I (sW I (lU (SU.eq (v':=vb false) (gQ I I) (zd8 vb (zf4 oM))) (tZ (cF I (kP (bN (tN (rG (lM I (yD I (lA I (nL ?_))))))))))));exact gA (j+1) sB I (by rw[hms,Ew hf0]) oM oM
   ·have hkl2:kk<A.length:=(zf2.1 hck).1;have hset:(fJ A m2).set kk true=fJ A (m2++[z.cell]):=by rw[CG hnd hck,(bF hf0).2]
    refine kP (tN (sQ (bK (sW I (lM I (lM I (lU (iA aO aK I I hb1 oM sL) (lU (fC ar I cA I hb1) (lK (aZ (e:=encCell) (o:=2) (u:=.slice rp x.sides.length rc) dE I hrs.rd hgr I) (lM I (lU (iA cM cq I I hb2 oM sL) (lU (fC dK I zT3 I hb2) (lK (aZ (o:=0) (u:=vi z.cell) iT3 I hsv.rd hgj I) (lW (cL call66 I (iH E g1 _ _ A z.cell hcs hfl hsrt)) ?_))))))))))))));rintro _ _ _ ⟨rfl,rfl,rfl⟩;rw[hat];refine aT I (sW I (lU (SU.eq (v':=vb true) (gQ I I) (zd8 vb (zf5 oM))) (tZ (cT I (rG (lM I (lM I (lU (iA underlying114 zT4 I I I oM sL) (oZ (sT (e:=iE) (a:=true) 0 zT4 I I I (by rw[hfl2]; omega) I) ?_)))))))));refine nL (bN (tN (rG (lM I (yD I (lA I (nL ?_)))))));exact gA (j+1) sB I (by rw[hms,← hset]; rfl) oM oM
  ·have hjj:x.sides.take j=x.sides:=tL oM;rw[hjj,← hsucc];refine xI (tX (tX (bX (bN (tN (rG (lM I (yD I (lA I (nL ?_))))))))));exact gA (k+1) sB I I oM oM
 ·have hkk:A.take k=A:=tL oM;rw[hkk];refine xI (tX (tX (bX (tN (sQ (rZ (aT I (bK (cP (zj7 _ _ _) (cP (zj7 _ _ _) (zb4 3 1 ?_)))))))))));refine oP (ι:=Value×Nat) (fun i=>[(3,i.1),(4,.slice q rs.length dd),(5,.slice (some ⟨b14,0,none⟩) rs.length rs.length),(9,vi i.2)]) (fun _=>g1)
   (fun i=>rowA encInt 3 i.1 (((A.take i.2).filter fun c=>!jh A c.id).map Cl.id)::rowA iE 4 (.slice (some ⟨b14,0,none⟩) rs.length rs.length) (fJ A (eG A))::pt b1 (.cells #[v] 30 (0,0))::s)
   (fun i=>i.2≤A.length) (fun i=>A.length - i.2) (.slice none 0 0,0) sB rfl rfl (zf3 _) ?_
  rintro ⟨ov,i⟩ hi;dsimp only at hi ⊢;refine sQ (sW I (lM I (lU (eN aO I) (yL I (tZ ?_)))));refine iP I (fun hlt3=>?_) (fun hlt3=>?_)
  ·have hil:i<A.length:=oM;have hir:i<rs.length:=oM;have hb1:=hrs.based oM;have hcr:=hall.get (gE hil) (gE hir);have hgr:rs[((i:Nat):Int).toNat]?=some rs[i]:=gE hir;have hsucc:=CN hil (fun c=>!jh A c.id) Cl.id;have hlek:=Gx A i (fun c=>!jh A c.id) Cl.id;have hgf:(fJ A (eG A))[((i:Nat):Int).toNat]?=some (jh A A[i].id):=by rw[← wl]; exact CI (gE hil)
   generalize A[i]=x at *;generalize rs[i]=r at *;refine kP (tN (sQ (bK (sW I (lM I (lU (iA underlying114 zT4 I I I oM sL) (lK (eB (e:=iE) isAgg4 I (zb5 1 I) hgf I) (lU (SU.not I) (tZ ?_)))))))));refine iQ I (fun htop=>?_) (fun htop=>?_)
   ·refine rG (lM I (lM I (lM I (lU (iA aO aK I I hb1 oM sL) (lU (fC ar I zT3 I hb1) (lK (aZ (e:=encCell) (o:=0) (u:=vi x.id) iT3 I hrs.rd hgr (by rw[← hcr.1]; rfl)) ?_))))));refine lW (bS sty25 I I I (ae sB) dC) ?_;rintro _ _ _ ⟨b64,rfl,rfl,rfl⟩;refine lW (aP (e:=encInt) 0 x.id sty25 I I I I I oM oM) ?_;rintro ov' _ _ ⟨rfl,rfl⟩;refine lA I (nL (bN (tN (rG (lM I (yD I (lA I (nL ?_))))))));refine ST.to (fun w hw=>?_) (g':=g1) (s':=rowA encInt 3 ov' (((A.take (i+1)).filter fun c=>!jh A c.id).map Cl.id)::rowA iE 4 (.slice (some ⟨b14,0,none⟩) rs.length rs.length) (fJ A (eG A))::pt b1 (.cells #[v] 30 (0,0))::s) ?_
    ·rw[hsucc,zf7 (by simpa using htop)]; exact hw
    exact gA (ov',i+1) sB I I (by dsimp only; omega) lN
   ·refine kP (bN (tN (rG (lM I (yD I (lA I (nL ?_)))))));refine ST.to (fun w hw=>?_) (g':=g1) (s':=rowA encInt 3 ov (((A.take (i+1)).filter fun c=>!jh A c.id).map Cl.id)::rowA iE 4 (.slice (some ⟨b14,0,none⟩) rs.length rs.length) (fJ A (eG A))::pt b1 (.cells #[v] 30 (0,0))::s) ?_
    ·rw[hsucc,zf6 (by simpa using htop),zc3]; exact hw
    exact gA (ov,i+1) sB I I (by dsimp only; omega) lN
  ·have hii:A.take i=A:=tL oM;rw[hii];refine xI (tX (tX (bX (tN (sW I (aT I (rE (fT fun g2 hle2 hs2=>?_))))))));refine dR (s':=s) uR ?_;exact za6 (.inl I) results25 I ⟨I,hle.trans hle2,hs2⟩
theorem wX {A:List Cl}{ids:List Int}{x:Int}(h:x∈cu A ids):∃ c∈A,c.id=x:=by
 obtain ⟨c,hc,e⟩:=o4 h;exact⟨c,hc,e⟩
theorem Dx (l:List Cl):((ab l).map Cl.id).Pairwise (· < ·):=by
 have h1:=eV l;have h2:=eP l;have h3:=h1.and h2;exact h3.imp fun h=>by omega
theorem th (l:List Cl)(ids:List Int):fz l ids=((ab l).filter fun c=>(cu (ab l) ids).contains c.id).map Cl.id:=by
 unfold fz;refine i9 ?_ ?_ fun x=>?_
 ·have h2:=jO (cu (ab l) ids);have h3:(dZ (cu (ab l) ids)).Nodup:=(mw _).symm.nodup (pS _ _);exact (h2.and h3).imp fun ⟨h4,h5⟩=>by omega
 ·exact ((Dx l)).sublist (List.filter_sublist.map _)
 ·rw[(mw _).mem_iff,ze8];constructor
  ·intro hx;obtain ⟨c,hc,rfl⟩:=wX hx;exact⟨c,zh1.2 ⟨hc,by simpa using hx⟩,I⟩
  ·rintro ⟨c,hc,rfl⟩;simpa using (zh1.1 hc).2
open Go.ChangeShapes Go.WideShapes Go.ChangeAt Go.RowKit
set_option maxRecDepth 100000
section
variable {H:Type}{enc:TypeId×Value→H}{W:World}{base:Nat}{spare:Nat→Bool}{hd:Bool}
theorem Fg {n:Int}(h:(Lit.int .i64 n).wf=true):gz n:=by
 have h2:IntKind.i64.min≤n∧n≤IntKind.i64.max:=by simpa [Lit.wf] using h
 have e1:IntKind.i64.min = -9223372036854775808:=by decide
 have e2:IntKind.i64.max=9223372036854775807:=by decide
 unfold gz;omega
end
theorem Fb (a b:Nat)(ha:a<18446744073709551616)(hb:b<18446744073709551616):IntKind.u64.wrap ((BitVec.ofInt 64 (a:Int) ||| BitVec.ofInt 64 (b:Int)).toNat:Int)=((a ||| b:Nat):Int):=by
 have h:(BitVec.ofInt 64 (a:Int) ||| BitVec.ofInt 64 (b:Int)).toNat=a ||| b:=by
  rw[BitVec.toNat_or,BitVec.ofInt_natCast,BitVec.ofInt_natCast,BitVec.toNat_ofNat,BitVec.toNat_ofNat,Nat.mod_eq_of_lt ha,Nat.mod_eq_of_lt hb]
 rw[h];have h2:a ||| b<18446744073709551616:=Nat.or_lt_two_pow (n:=64) ha hb;rw[xj];omega
theorem Hb {A b j:Nat}(hb:b<256)(hj:j≤3)(hA:A * 256 ^ (j+1)<4294967296):IntKind.u64.wrap ((BitVec.ofInt 64 ((A * 256 ^ (j+1):Nat):Int) ||| BitVec.ofInt 64 ((b * 256 ^ j:Nat):Int)).toNat:Int)=(((A * 256+b) * 256 ^ j:Nat):Int):=by
 have e:256 ^ (j+1)=2 ^ (8 * (j+1)):=by rw[Nat.pow_mul]
 have hlt:b * 256 ^ j<256 ^ (j+1):=by
  rw[Nat.pow_succ,Nat.mul_comm (256 ^ j)];exact Nat.mul_lt_mul_of_pos_right hb (Nat.pow_pos dC)
 have hle:256 ^ (j+1)≤4294967296:=zk6 (Nat.pow_le_pow_right (n:=256) dC (show j+1≤4 by omega)) dC;have hor:A * 256 ^ (j+1) ||| b * 256 ^ j=A * 256 ^ (j+1)+b * 256 ^ j:=by
  rw[e] at hlt ⊢;rw[Nat.mul_comm A];exact (Nat.two_pow_add_eq_or_of_lt hlt A).symm
 have hsum:A * 256 ^ (j+1)+b * 256 ^ j=(A * 256+b) * 256 ^ j:=by
  rw[Nat.add_mul,Nat.pow_succ,Nat.mul_assoc,Nat.mul_comm 256]
 clear e;rw[Fb _ _ oM oM,hor,hsum]
theorem gY (n:Nat):dY [(n:Int)]=dD n:=by
 unfold dD;split
 ·rename_i h; subst h; rfl
 ·rename_i h;have:((n:Int) == 0)=false:=by simpa using h
  simp[dY,this]
def xr (B:List UInt8)(i:Nat):List Int:=List.replicate ((B.length+3) / 4) ((beN (B.take i) * 256 ^ (B.length - i):Nat):Int)
theorem o6 (l:List UInt8):beN l<256 ^ l.length:=by
 obtain ⟨r,rfl⟩:∃ r,l=List.reverse r:=⟨l.reverse,by simp⟩;induction r with
 | nil=>exact Nat.zero_lt_one
 | cons b t ih =>
  rw[List.reverse_cons,nO,ze2,ze4,Nat.pow_succ];have:=b.toNat_lt;have h:(beN t.reverse+1) * 256≤256 ^ t.reverse.length * 256:=Nat.mul_le_mul_right _ ih;omega
theorem AD {k:Nat}(h:k≤4):256 ^ k≤4294967296:=zk6 (Nat.pow_le_pow_right dC h) dC
theorem E3 {B:List UInt8}(h:B.length≤4):dY (xr B B.length)=dD (beN B):=by
 unfold xr;rw[List.take_length,Nat.sub_self,Nat.pow_zero,Nat.mul_one];by_cases h0:B=[]
 ·subst h0; rfl
 ·have h1:0<B.length:=List.length_pos_iff.2 h0;rw[show (B.length+3) / 4=1 by omega];exact gY _
theorem shlB (b j:Nat)(hb:b<256)(hj:j≤3):IntKind.u64.wrap ((b:Int) * 2 ^ min (8 * (j:Int)).toNat IntKind.u64.bits)=((b * 256 ^ j:Nat):Int):=by
 rcases (by omega:j=0∨j=1∨j=2∨j=3) with rfl | rfl | rfl | rfl
 ·rw[show (2:Int) ^ min (8 * ((0:Nat):Int)).toNat IntKind.u64.bits=1 by decide,show (256:Nat) ^ 0=1 by decide,xj]; omega
 ·rw[show (2:Int) ^ min (8 * ((1:Nat):Int)).toNat IntKind.u64.bits=256 by decide,show (256:Nat) ^ 1=256 by decide,xj]; omega
 ·rw[show (2:Int) ^ min (8 * ((2:Nat):Int)).toNat IntKind.u64.bits=65536 by decide,show (256:Nat) ^ 2=65536 by decide,xj]; omega
 ·rw[show (2:Int) ^ min (8 * ((3:Nat):Int)).toNat IntKind.u64.bits=16777216 by decide,show (256:Nat) ^ 3=16777216 by decide,xj]; omega
theorem sH (E:World)(g:PH)(s:Own)(ng:Bool)(B:List UInt8)(hB:B.length≤4) :
  Ctr Tryz.prog E 119 #[.agg #[vb ng,txt B]] g s (fun r g' s'=>s=s'∧Le g g'∧SlA ij g' r (dD (beN B))):=by
 obtain ⟨q,hq⟩:∃ q,q=(B.length+3) / 4:=⟨_,rfl⟩;refine za9 (args:=[.agg #[vb ng,txt B]]) func119 I ntmps119 (bE I) ?_;refine rZ (bW (bO I) fun b1=>?_);refine aT I (rZ (lU (fA mY I sizeOf9 I) (lK (qL isAgg9 I (cO 0 I I)) (lU (SU.lenTxt uT9 I) (yD I (lU (sU I I oM) (lU (SU.eq (v':=vi (q:Nat)) (SU.quo I I dC) (zd8 vi (by rw[Int.tdiv_eq_ediv_of_nonneg oM,zk8 _ oM]; omega))) ?_)))))));refine lW (mK ij 0 sty162 I I I oM oM) ?_;rintro _ _ _ ⟨b12,rfl,rfl,rfl⟩;refine aT I (sQ (rZ (lU (fA mY I sizeOf9 I) (lK (qL isAgg9 I (cO 1 I I)) (lU (SU.lenTxt uT9 I) (lM I (tZ (bK ?_))))))));refine oP (ι:=Nat) (fun i=>[(1,pp b1 0),(3,.slice (some ⟨b12,0,none⟩) q q),(15,vi B.length),(16,vi i)]) (fun _=>g) (fun i=>rowA ij 160 (.slice (some ⟨b12,0,none⟩) q q) (xr B i)::pt b1 (.cells #[vb ng,txt B] 121 (0,0))::s) (fun i=>i≤B.length) (fun i=>B.length - i) 0
  sB rfl (by unfold xr; rw[hq]; simp[beN]; rfl) (zf3 _) ?_
 intro i hi;refine rZ (yL I (tZ (sQ ?_)));refine iP I (fun hlt=>?_) (fun hlt=>?_)
 ·have hlt:i<B.length:=oM;have hq1:q=1:=oM;obtain ⟨k,hk⟩:∃ k,k=B.length - 1 - i:=⟨_,rfl⟩;have hk3:k≤3:=oM;have hx:B[((i:Nat):Int).toNat]?=some B[i]:=gE hlt;have hacc:xr B i=[((beN (B.take i) * 256 ^ (k+1):Nat):Int)]:=by
   unfold xr;rw[← hq,hq1,show B.length - i=k+1 by omega];rfl
  have hacc':xr B (i+1)=[(((beN (B.take i) * 256+B[i].toNat) * 256 ^ k:Nat):Int)]:=by
   unfold xr;rw[← hq,hq1,show B.length - (i+1)=k by omega,tS hlt,nO];rfl
  have hA:beN (B.take i) * 256 ^ (k+1)<4294967296:=by
   have h1:=o6 (B.take i);rw[ze1,Nat.min_eq_left oM] at h1;have h2:beN (B.take i) * 256 ^ (k+1)<256 ^ i * 256 ^ (k+1):=Nat.mul_lt_mul_of_pos_right h1 (Nat.pow_pos dC);rw[← Nat.pow_add] at h2;exact Nat.lt_of_lt_of_le h2 (AD oM)
  have hb:=B[i].toNat_lt;have hor:=Hb (A:=beN (B.take i)) (b:=B[i].toNat) hb hk3 hA;rw[hacc];generalize B[i]=b at *;subst hq1;refine kP (tN (sQ (bK (sW I (aT I (rZ (lU (fA mY I sizeOf9 I) (lK (qL isAgg9 I (cO 1 I I)) (lU (SU.lenTxt uT9 I) (lU (sU I I oM) (lM I (lU (SU.eq (v':=vi (k:Nat)) (sU I I oM) (zd8 vi oM)) (aT I ?_)))))))))))));refine dW [16] [(0,2),(1,2),(2,2),(3,2),(4,1),(5,2),(6,1),(7,2),(8,2),(9,2),(10,2),(11,2),(12,2),(13,2),(14,2),(15,2),(16,0)] zd9 kR ?_;refine yM I (yM I (pU I (SU.eq (v':=vi (0:Nat)) (SU.quo I I dC) (zd8 vi (by rw[Int.tdiv_eq_ediv_of_nonneg oM,zk8 _ oM]; omega))) ?_));refine pU I (iA bw ee I I I oM (by simp[slen])) ?_;refine pK I (eB isAgg160 I (zb5 0 I) (j:=0) I I) (pU I (fA mY I sizeOf9 I) (pK I (qL isAgg9 I (cO 1 I I)) (yM I (pU I (SU.txtAt uT9 I I oM hx) (pU I (SU.eq (v':=.int .u64 (b.toNat:Int)) (zd5 uT5 ol I) (zd8 (Value.int .u64) (by rw[xj]; omega))) ?_)))));refine yM I (pU I (SU.eq (v':=vi (k:Nat)) (zd4 I I dC) (zd8 vi (by rw[Int.tmod_eq_emod_of_nonneg oM]; omega))) ?_);refine pU I (SU.mul I I oM) (pU I (SU.eq (v':=.int .u64 ((b.toNat * 256 ^ k:Nat):Int)) (SU.shl I I oM) (zd8 (Value.int .u64) (shlB _ _ hb hk3))) (pU I (SU.eq (v':=.int .u64 (((beN (B.take i) * 256+b.toNat) * 256 ^ k:Nat):Int)) (SU.or I I) (zd8 (Value.int .u64) hor)) (pU I (iA bw ee I I I oM (by simp[slen])) ?_)));refine SP.on I (sT (e:=ij) (a:=(((beN (B.take i) * 256+b.toNat) * 256 ^ k:Nat):Int)) (j:=0) 0 ee I I I (bE I) I) (.inl dC) ?_;rintro _ _ _ ⟨rfl,rfl⟩;refine pN (bN (tN (rG (yD I (lM I (nL ?_))))));exact gA (i+1) ⟨I,I,I,FJ I oM,trivial⟩ I (by rw[hacc']; rfl) oM oM
 ·have hi':i=B.length:=oM;subst hi';have hlen:(xr B B.length).length=q:=by unfold xr; rw[List.length_replicate,hq]
  refine xI (tX (tX (bX (tN (sQ (fS fun g1 hle hs=>?_))))));refine rG (lM I (lW (cL call161 I (lE E g1 _ _ (xr B B.length) hs oM)) ?_));rintro v43 _ _ ⟨rfl,rfl,hm⟩;refine aT I (rE ?_);rw[E3 hB] at hm;refine dR (s':=s) uR ?_;exact za6 (.inl I) results119 I ⟨I,hle,hm⟩
theorem cD (n:Nat):dD n=[]∧n=0∨dD n=[(n:Int)]∧n≠0:=by
 unfold dD;split
 ·exact .inl ⟨I,by assumption⟩
 ·exact .inr ⟨I,by assumption⟩
theorem qK (n:Nat):dY [(n:Int),0]=dD n:=by
 rw[← gY n];simp[dY]
theorem lC (m:Nat)(k:Int)(hk:32≤k)(hk2:k≤64)(h:m<4294967296):(m:Int).fdiv (2 ^ min k.toNat IntKind.u64.bits)=0:=by
 have h1:min k.toNat IntKind.u64.bits=k.toNat:=Nat.min_eq_left (by simp only[IntKind.bits]; omega);have h2:(2:Int) ^ k.toNat=((2 ^ k.toNat:Nat):Int):=by simp
 rw[h1,h2,nM];have h3:2 ^ 32≤2 ^ k.toNat:=Nat.pow_le_pow_right dC oM;have h4:(2:Nat) ^ 32=4294967296:=by decide
 rw[h4] at h3;rw[Nat.div_eq_of_lt oM];rfl
theorem GZ {n:Int}(h:0≤n∧n<18446744073709551616):IntKind.u64.wrap n=n:=by rw[xj]; omega
def FB (la:List Int)(n:Nat)(i:Nat):List Int:=if i=0 then List.replicate (la.length+1) 0 else [(n:Int),0]
theorem wC (E:World)(g:PH)(s:Own)(v u:Value)(n m:Nat)(hv:SlA ij g v (dD n))(hu:SlA ij g u (dD m))(h:n+m<4294967296) :
  Ctr Tryz.prog E 121 #[v,u] g s (fun r g' s'=>s=s'∧Le g g'∧SlA ij g' r (dD (n+m))):=by
 obtain ⟨p1,c1,rfl⟩:=za2 hv;obtain ⟨p2,c2,rfl⟩:=za2 hu;have hl0:∀ k,(dD k).length≤1:=fun k=>by rcases cD k with ⟨h,-⟩ | ⟨h,-⟩ <;> rw[h] <;> simp
 have hl1:=hl0 n;have hl2:=hl0 m;refine za9 (args:=[.slice p1 (dD n).length c1,.slice p2 (dD m).length c2]) func121 I ntmps121 (bE I) ?_;refine rZ (aT I ?_);refine SC.cut (ι:=Value×Value×Nat×Nat) (fun q=>[(0,q.1),(1,q.2.1)]) (fun _=>g) (fun _=>s) (fun q=>SlA ij g q.1 (dD q.2.2.1)∧SlA ij g q.2.1 (dD q.2.2.2)∧q.2.2.1+q.2.2.2=n+m∧(dD q.2.2.2).length≤(dD q.2.2.1).length) ?_ ?_
 ·refine sW I (lU (eN bw I) (lM I (lU (eN bw I) (yL I (tZ ?_)))));refine iP I (fun hlt=>?_) (fun hlt=>?_)
  ·refine rG (lM I (lM I (lA I (lA I (nL ?_)))));exact za7 (_,_,m,n) sB I I ⟨hu,hv,Nat.add_comm _ _,by dsimp only; omega⟩
  ·refine kP ?_;exact za7 (_,_,n,m) sB I I ⟨hv,hu,I,by dsimp only; omega⟩
 clear hv hu hl1 hl2 p1 p2 c1 c2;rintro ⟨v,u,a,b⟩ ⟨hv,hu,hab,hle⟩;dsimp only at hv hu hab hle ⊢;rw[← hab] at h ⊢;clear hab n m;obtain ⟨p1,c1,rfl⟩:=za2 hv;obtain ⟨p2,c2,rfl⟩:=za2 hu;have hl1:=hl0 a;have hl2:=hl0 b;have hca:=cD a;have hcb:=cD b;generalize dD a=la at *;generalize dD b=lb at *;refine sW I (lU (eN bw I) (lU (SU.eq (v':=vi ((la.length+1:Nat))) (aD I I oM) (zd8 vi oM)) (lW (mK ij 0 sty162 I I I oM oM) ?_)));rintro _ _ _ ⟨b19,rfl,rfl,rfl⟩;refine aT I (rZ (aT I (sQ (sW I (lU (eN bw I) (lM I (tZ (bK ?_))))))));refine oP (ι:=Nat) (fun i=>[(0,.slice p1 la.length c1),(1,.slice p2 lb.length c2),(5,.slice (some ⟨b19,0,none⟩) (la.length+1) (la.length+1)),(6,.int .u64 0),(21,vi la.length),(22,vi i)]) (fun _=>g) (fun i=>rowA ij 160 (.slice (some ⟨b19,0,none⟩) (la.length+1) (la.length+1)) (FB la (a+b) i)::s) (fun i=>i≤la.length) (fun i=>la.length - i) 0
  sB rfl rfl (zf3 _) ?_
 intro i hi;refine rZ (yL I (tZ (sQ ?_)));refine iP I (fun hlt=>?_) (fun hlt=>?_)
 ·rcases hca with ⟨rfl,ha⟩ | ⟨rfl,ha⟩
  ·exact absurd hlt (by simp)
  obtain rfl:i=0:=by simp at hi hlt; omega
  have hb1:=za4 hv Nat.zero_lt_one;refine kP (tN (sQ (bK (sW I (aT I (sW I (lM I (lU (iA bw ee I I hb1 dC (by simp[slen])) ?_))))))));refine lK (eB isAgg160 I (za5 hv) (j:=0) I I) (lM I (lU (SU.eq (v':=.int .u64 (a:Int)) (zd6 I I) (zd8 (Value.int .u64) (by rw[GZ oM]; omega))) ?_));refine aT I (sQ (sW I (lM I (lU (eN bw I) (yL I (tZ ?_))))));refine iP I (fun hl=>?_) (fun hl=>?_)
  ·rcases hcb with ⟨rfl,hb⟩ | ⟨rfl,hb⟩
   ·exact absurd hl (by simp)
   have hb2:=za4 hu Nat.zero_lt_one;refine rG (lM I (lM I (lM I (lU (iA bw ee I I hb2 dC (by simp[slen])) ?_))));refine lK (eB isAgg160 I (za5 hu) (j:=0) I I) (lU (SU.eq (v':=.int .u64 ((a+b:Nat):Int)) (zd6 I I) (zd8 (Value.int .u64) (by rw[GZ oM]; omega))) ?_);refine aT I (rG (lM I (lM I (lM I (lU (SU.eq (v':=.int .u64 ((a+b:Nat):Int)) (SU.and I I) (zd8 (Value.int .u64) (by rw[tr _ oM,Nat.mod_eq_of_lt h]))) ?_)))));refine lM I (lU (SU.eq (v':=.int .u64 0) (SU.shr I I dC) (zd8 (Value.int .u64) (lC _ _ dC dC h))) (lU (iA bw ee I I I dC (by simp[slen])) ?_));refine oZ (sT (e:=ij) (a:=((a+b:Nat):Int)) (j:=0) 0 ee I I I (bE I) I) (lA I (nL (bN (tN (rG (yD I (lM I (nL ?_))))))));exact gA 1 sB I I (lR _) Nat.zero_lt_one
  ·rcases hcb with ⟨rfl,hb⟩ | ⟨rfl,hb⟩
   rotate_left
   ·exact absurd hl (by simp)
   subst hb;rw[Nat.add_zero] at h ⊢;refine kP (tN (rG (lM I (lM I (lM I (lU (SU.eq (v':=.int .u64 ((a:Nat):Int)) (SU.and I I) (zd8 (Value.int .u64) (by rw[tr _ oM,Nat.mod_eq_of_lt h]))) ?_))))));refine lM I (lU (SU.eq (v':=.int .u64 0) (SU.shr I I dC) (zd8 (Value.int .u64) (lC _ _ dC dC h))) (lU (iA bw ee I I I dC (by simp[slen])) ?_));refine oZ (sT (e:=ij) (a:=((a:Nat):Int)) (j:=0) 0 ee I I I (bE I) I) (lA I (nL (bN (tN (rG (yD I (lM I (nL ?_))))))));exact gA 1 sB I I (lR _) Nat.zero_lt_one
 ·obtain rfl:i=la.length:=oM;have hlen:(FB la (a+b) la.length).length=la.length+1:=by
   unfold FB;split
   ·simp
   ·simp; omega
  have hfin:dY ((FB la (a+b) la.length).set la.length 0)=dD (a+b):=by
   rcases hca with ⟨rfl,ha⟩ | ⟨rfl,ha⟩
   ·rcases hcb with ⟨rfl,hb⟩ | ⟨rfl,hb⟩
    ·subst ha hb; rfl
    ·simp at hle
   ·exact qK _
  refine xI (tX (tX (bX (tN (sW I (lM I (lU (eN bw I) (lM I (lU (iA bw ee I I I oM sL) (oZ (sT (e:=ij) (a:=0) (j:=la.length) 0 ee I I I oM I) (tZ (sQ ?_))))))))))));refine SC.to (g':=g) (s':=rowA ij 160 (.slice (some ⟨b19,0,none⟩) (la.length+1) (la.length+1)) ((FB la (a+b) la.length).set la.length 0)::s) (fun w hw=>hw) ?_;refine fS fun g1 hle1 hs1=>?_;refine rG (lM I (lW (cL call161 I (lE E g1 _ _ ((FB la (a+b) la.length).set la.length 0) (by unfold SlA; rw[zh9,hlen]; rw[zh9,hlen] at hs1; exact hs1) (by rw[zh9]; omega))) ?_));rintro v55 _ _ ⟨rfl,rfl,hm⟩;refine aT I (rE ?_);rw[hfin] at hm;exact za6 (.inl I) results121 I ⟨I,hle1,hm⟩
def Dc (a b:Nat):Int:=if a<b then -1 else if b<a then 1 else 0
theorem wB (E:World)(g:PH)(s:Own)(v u:Value)(n m:Nat)(hv:SlA ij g v (dD n))(hu:SlA ij g u (dD m)) :
  Ctr Tryz.prog E 164 #[v,u] g s (fun r g' s'=>r=vi (Dc n m)∧g=g'∧s=s'):=by
 obtain ⟨p1,c1,rfl⟩:=za2 hv;obtain ⟨p2,c2,rfl⟩:=za2 hu
 rcases cD n with ⟨h1,ha⟩ | ⟨h1,ha⟩
 ·rcases cD m with ⟨h2,hb⟩ | ⟨h2,hb⟩
  ·rw[h1] at hv ⊢;rw[h2] at hu ⊢;subst ha hb;refine za9 (args:=[.slice p1 0 c1,.slice p2 0 c2]) func164 I ntmps164 (bE I) ?_;refine rZ (aT I (sQ (bK (sW I (lU (eN bw I) (lM I (lU (eN bw I) (yL I (aT I (cF I (sW I (lU (eN bw I) (lM I (lU (eN bw I) (lU (gR I I) (aT I (cF I (kP ?_))))))))))))))))));refine bN (tN (sQ (sW I (lU (eN bw I) (lU (sU I I oM) (aT I (bK ?_)))))));refine oP (ι:=Unit) (fun _=>[(5,vi (-1))]) (fun _=>g) (fun _=>s) (fun _=>True) (fun _=>0) () ⟨I,trivial⟩ I I trivial ?_;intro _ _;refine sQ (sW I (lU (gQ I I) (tZ (cF I (xI (tX (tX (bX (tN (rZ (aT I (rE ?_))))))))))));exact za6 (.inl I) results164 I ⟨I,I,I⟩
  ·rw[h1] at hv ⊢;rw[h2] at hu ⊢;subst ha;refine za9 (args:=[.slice p1 0 c1,.slice p2 1 c2]) func164 I ntmps164 (bE I) ?_;refine rZ (aT I (sQ (bK (sW I (lU (eN bw I) (lM I (lU (eN bw I) (yL I (aT I (cT I (rZ (aT I (rE (bR (tR ?_)))))))))))))));exact za6 (.inl I) results164 I ⟨zd8 vi (by unfold Dc; rw[zf7 oM]),I,I⟩
 ·rcases cD m with ⟨h2,hb⟩ | ⟨h2,hb⟩
  ·rw[h1] at hv ⊢;rw[h2] at hu ⊢;subst hb;refine za9 (args:=[.slice p1 1 c1,.slice p2 0 c2]) func164 I ntmps164 (bE I) ?_;refine rZ (aT I (sQ (bK (sW I (lU (eN bw I) (lM I (lU (eN bw I) (yL I (aT I (cF I (sW I (lU (eN bw I) (lM I (lU (eN bw I) (lU (gR I I) (aT I (cT I (sQ ?_))))))))))))))))));refine rG (aT I (rE (bR (tR ?_))));exact za6 (.inl I) results164 I ⟨zd8 vi (by unfold Dc; rw[zf6 oM,zf7 oM]),I,I⟩
  ·rw[h1] at hv ⊢;rw[h2] at hu ⊢;have hb1:=za4 hv Nat.zero_lt_one;have hb2:=za4 hu Nat.zero_lt_one;refine za9 (args:=[.slice p1 1 c1,.slice p2 1 c2]) func164 I ntmps164 (bE I) ?_;refine rZ (aT I (sQ (bK (sW I (lU (eN bw I) (lM I (lU (eN bw I) (yL I (aT I (cF I (sW I (lU (eN bw I) (lM I (lU (eN bw I) (lU (gR I I) (aT I (cF I (kP ?_))))))))))))))))));refine bN (tN (sQ (sW I (lU (eN bw I) (lU (sU I I oM) (aT I (bK ?_)))))));refine oP (ι:=Nat) (fun i=>[(0,.slice p1 1 c1),(1,.slice p2 1 c2),(5,vi ((i:Int) - 1))]) (fun _=>g) (fun _=>s) (fun i=>i≤1∧(i=0→n=m)) (fun i=>i) 1 sB I I ⟨lR _,fun h=>absurd h dC⟩ ?_;rintro i ⟨hi,hz⟩;refine sQ (sW I (lU (gQ I I) (tZ ?_)));refine iP I (fun hge=>?_) (fun hge=>?_)
   ·obtain rfl:i=1:=oM;refine kP (tN (sQ (bK (bK (sQ ?_)))));refine dW [] [(0,2),(1,2),(2,2),(3,1),(4,2),(5,2),(6,2),(7,1),(8,2),(9,2)] zd9 kR ?_;refine yM I (yM I (pU I (iA bw ee I I hb1 dC (by simp[slen])) ?_));refine pK I (eB isAgg160 I (za5 hv) (j:=0) I I) (yM I (yM I (pU I (iA bw ee I I hb2 dC (by simp[slen])) ?_)));refine pK I (eB isAgg160 I (za5 hu) (j:=0) I I) (pU I (lS I I) (pU I (aS I) (pN (tN ?_))));refine iP I (fun hlt=>?_) (fun hlt=>?_)
    ·refine rZ (aT I (rE (bR (bR (tR (tR (bR (tR ?_))))))));exact za6 (.inl I) results164 I ⟨zd8 vi (by unfold Dc; rw[zf7 oM]),I,I⟩
    ·refine sQ ?_;refine dW [] [(0,2),(1,2),(2,2),(3,1),(4,2),(5,2),(6,2),(7,1),(8,2),(9,2)] zd9 kR ?_;refine yM I (yM I (pU I (iA bw ee I I hb1 dC (by simp[slen])) ?_));refine pK I (eB isAgg160 I (za5 hv) (j:=0) I I) (yM I (yM I (pU I (iA bw ee I I hb2 dC (by simp[slen])) ?_)));refine pK I (eB isAgg160 I (za5 hu) (j:=0) I I) (pU I (gR I I) (pU I (aS I) (pN (tN ?_))));refine iP I (fun hgt=>?_) (fun hgt=>?_)
     ·refine rZ (aT I (rE (bR (bR (tR (tR (bR (tR ?_))))))));exact za6 (.inl I) results164 I ⟨zd8 vi (by unfold Dc; rw[zf6 oM,zf7 oM]),I,I⟩
     ·refine kP (bN (bN (tN (rG (lM I (lU (sU I I oM) (lA I (nL ?_))))))));exact gA 0 sB I I ⟨by decide,fun _=>by omega⟩ dC
   ·refine xI (tX (tX (bX (tN (rZ (aT I (rE ?_)))))));have hnm:=hz oM;exact za6 (.inl I) results164 I ⟨zd8 vi (by unfold Dc; rw[zf6 oM,zf6 oM]),I,I⟩
def GK (la:List Int)(n:Nat)(i:Nat):List Int:=if i=0 then List.replicate la.length 0 else [(n:Int)]
theorem wA (E:World)(g:PH)(s:Own)(v u:Value)(a b:Nat)(hv:SlA ij g v (dD a))(hu:SlA ij g u (dD b))(hab:b≤a)(h:a<4294967296) :
  Ctr Tryz.prog E 122 #[v,u] g s (fun r g' s'=>s=s'∧Le g g'∧SlA ij g' r (dD (a - b))):=by
 obtain ⟨p1,c1,rfl⟩:=za2 hv;obtain ⟨p2,c2,rfl⟩:=za2 hu;have hl0:∀ k,(dD k).length≤1:=fun k=>by rcases cD k with ⟨h,-⟩ | ⟨h,-⟩ <;> rw[h] <;> simp
 have hl1:=hl0 a;have hl2:=hl0 b;have hca:=cD a;have hcb:=cD b;generalize dD a=la at *;generalize dD b=lb at *;refine za9 (args:=[.slice p1 la.length c1,.slice p2 lb.length c2]) func122 I ntmps122 (bE I) ?_;refine rZ (aT I (sW I (lU (eN bw I) (lW (mK ij 0 sty162 I I I oM oM) ?_))));rintro _ _ _ ⟨b11,rfl,rfl,rfl⟩;refine aT I (rZ (aT I (sQ (sW I (lU (eN bw I) (lM I (tZ (bK ?_))))))));refine oP (ι:=Nat) (fun i=>[(0,.slice p1 la.length c1),(1,.slice p2 lb.length c2),(5,.slice (some ⟨b11,0,none⟩) la.length la.length),(6,.int .u64 0),(13,vi la.length),(14,vi i)]) (fun _=>g) (fun i=>rowA ij 160 (.slice (some ⟨b11,0,none⟩) la.length la.length) (GK la (a - b) i)::s) (fun i=>i≤la.length) (fun i=>la.length - i) 0
  sB rfl rfl (zf3 _) ?_
 intro i hi;refine rZ (yL I (tZ (sQ ?_)));refine iP I (fun hlt=>?_) (fun hlt=>?_)
 ·rcases hca with ⟨rfl,ha⟩ | ⟨rfl,ha⟩
  ·exact absurd hlt (by simp)
  obtain rfl:i=0:=by simp at hi hlt; omega
  have hb1:=za4 hv Nat.zero_lt_one;refine kP (tN (sQ (bK (sW I (aT I (sW I (lM I (lU (iA bw ee I I hb1 dC (by simp[slen])) ?_))))))));refine lK (eB isAgg160 I (za5 hv) (j:=0) I I) (lM I (lU (SU.eq (v':=.int .u64 (a:Int)) (SU.subW I I) (zd8 (Value.int .u64) (by rw[GZ oM]; omega))) ?_));refine aT I (sQ (sW I (lM I (lU (eN bw I) (yL I (tZ ?_))))));refine iP I (fun hl=>?_) (fun hl=>?_)
  ·rcases hcb with ⟨rfl,hb⟩ | ⟨rfl,hb⟩
   ·exact absurd hl (by simp)
   have hb2:=za4 hu Nat.zero_lt_one;have hs:a - b<4294967296:=oM;refine rG (lM I (lM I (lM I (lU (iA bw ee I I hb2 dC (by simp[slen])) ?_))));refine lK (eB isAgg160 I (za5 hu) (j:=0) I I) (lU (SU.eq (v':=.int .u64 ((a - b:Nat):Int)) (SU.subW I I) (zd8 (Value.int .u64) (by rw[GZ oM]; omega))) ?_);refine aT I (rG (lM I (lM I (lM I (lU (SU.eq (v':=.int .u64 ((a - b:Nat):Int)) (SU.and I I) (zd8 (Value.int .u64) (by rw[tr _ oM,Nat.mod_eq_of_lt hs]))) ?_)))));refine lM I (lU (SU.eq (v':=.int .u64 0) (SU.shr I I dC) (zd8 (Value.int .u64) (lC _ _ dC dC hs))) (lU (iA bw ee I I I dC (by simp[slen])) ?_));refine oZ (sT (e:=ij) (a:=((a - b:Nat):Int)) (j:=0) 0 ee I I I (bE I) I) (lA I (nL (bN (tN (rG (yD I (lM I (nL ?_))))))));exact gA 1 sB I I (lR _) Nat.zero_lt_one
  ·rcases hcb with ⟨rfl,hb⟩ | ⟨rfl,hb⟩
   rotate_left
   ·exact absurd hl (by simp)
   subst hb;rw[Nat.sub_zero];refine kP (tN (rG (lM I (lM I (lM I (lU (SU.eq (v':=.int .u64 ((a:Nat):Int)) (SU.and I I) (zd8 (Value.int .u64) (by rw[tr _ oM,Nat.mod_eq_of_lt h]))) ?_))))));refine lM I (lU (SU.eq (v':=.int .u64 0) (SU.shr I I dC) (zd8 (Value.int .u64) (lC _ _ dC dC h))) (lU (iA bw ee I I I dC (by simp[slen])) ?_));refine oZ (sT (e:=ij) (a:=((a:Nat):Int)) (j:=0) 0 ee I I I (bE I) I) (lA I (nL (bN (tN (rG (yD I (lM I (nL ?_))))))));exact gA 1 sB I I (lR _) Nat.zero_lt_one
 ·obtain rfl:i=la.length:=oM;have hlen:(GK la (a - b) la.length).length=la.length:=by
   unfold GK;split
   ·simp
   ·simp; omega
  have hfin:dY (GK la (a - b) la.length)=dD (a - b):=by
   rcases hca with ⟨rfl,ha⟩ | ⟨rfl,ha⟩
   ·subst ha;rw[Nat.zero_sub]; rfl
   ·exact gY _
  refine xI (tX (tX (bX (tN (sQ (fS fun g1 hle1 hs1=>?_))))));refine rG (lM I (lW (cL call161 I (lE E g1 _ _ (GK la (a - b) la.length) (by unfold SlA; rw[hlen]; rw[hlen] at hs1; exact hs1) oM)) ?_));rintro v42 _ _ ⟨rfl,rfl,hm⟩;refine aT I (rE ?_);rw[hfin] at hm;exact za6 (.inl I) results122 I ⟨I,hle1,hm⟩
theorem vT {k:Nat}(h:k<4294967296):iy (dD k)=j5 k:=by
 have h1:=ph (k:Int) (by rw[Int.natAbs_natCast]; omega);rw[Int.natAbs_natCast] at h1;rw[← h1];have h2:uL (k:Int)=[(k:Int),0]:=by
  unfold uL;rw[Int.natAbs_natCast,Nat.mod_eq_of_lt h,Nat.div_eq_of_lt h];rfl
 have h3:dY (dD k)=dD k:=by
  rcases cD k with ⟨e,h0⟩ | ⟨e,h0⟩
  ·rw[e]; rfl
  ·rw[← gY k,gY k,e,gY k,e]
 unfold iy;rw[h3,h2,qK]
theorem tY {k:Nat}(h:k<18446744073709551616):j5 k=[]↔k=0:=by
 refine⟨fun e=>?_,fun e=>by subst e; rfl⟩;have:=nP h;rw[e] at this;exact this.symm
theorem xw {neg:Bool}{k:Nat}{z:Int}(hk:k=z.natAbs)(h:k<4294967296)(hn:k≠0→neg=decide (z<0)):vU neg (iy (dD k))=qg z:=by
 rw[vT h];subst hk;show Value.agg #[vb (neg&&decide (j5 z.natAbs≠[])),txt (j5 z.natAbs)]=Value.agg #[vb (decide (z<0)&&decide (j5 z.natAbs≠[])),txt (j5 z.natAbs)];by_cases h0:z.natAbs=0
 ·have:j5 z.natAbs=[]:=(tY oM).2 h0;rw[this];simp
 ·rw[hn h0]
theorem mg {z:Int}(h:z.natAbs<4294967296):qg z = .agg #[vb (decide (z<0)),txt (j5 z.natAbs)]:=by
 show Value.agg #[vb (decide (z<0)&&decide (j5 z.natAbs≠[])),txt (j5 z.natAbs)]=_;by_cases h0:z.natAbs=0
 ·have:¬ z<0:=oM;simp[this]
 ·have:j5 z.natAbs≠[]:=fun e=>h0 ((tY oM).1 e);simp[this]
theorem SU.neqB {P:Program}{N:Nat}{f:Fr}{dst:Option Tmp}{ty:TypeId}{pos:String}{af:Array Edge}{gd:Option (Nat×Bool)}{x y:Operand}{T U:TypeId}{a b:Bool}(hT:P.underlying T=some .bool)(hx:ev f x=some (vb a))(hy:ev f y=some (vb b)) :
  SU P N ⟨dst,.binOp .neq T x y U,ty,pos,af,gd⟩ f (.bool (!(a == b))):=fun ac w ha=>by
 have hg:(eqGuard .neq T x y (.bool a) (.bool b)).run P w = .ok () w:=by simp[eqGuard]
 have hb:=run_neq_bool (P:=P) w T a b hT;simp only[execOp,ha.ev hx,ha.ev hy,Sem.run_bind,hg,zc7,hb];rfl
theorem sw (k:Nat):(dD k).length<1099511627776:=by rcases cD k with ⟨e,-⟩ | ⟨e,-⟩ <;> rw[e] <;> simp
theorem EE (b c:Nat):Dc b c<0↔b<c:=by
 unfold Dc;split
 ·simp; omega
 ·split <;> simp <;> omega
section
variable {A B:List Int}{R K C:Nat}{L:List Int}{i k j:Nat}
end
def en (l:List ai)(x:Int):Int:=(l.map fun s=>if s.cell=x then s.sign else 0).sum
theorem vI (a:ai)(l:List ai)(x:Int):en (a::l) x=(if a.cell=x then a.sign else 0)+en l x:=by simp[en]
theorem GA {l:List ai}{x:Int}(h:∀ s∈l,s.cell≠x):en l x=0:=by
 induction l with
 | nil=>rfl
 | cons a l ih =>
  rw[vI,zf6 (h a (by simp)),ih fun s hs=>h s (by simp[hs])];rfl
theorem HF {l:List ai}(h1:l.Pairwise fun a b=>a.cell<b.cell)(h2:∀ s∈l,s.sign=1∨s.sign = -1)(x:Int):(en l x).natAbs≤1:=by
 induction l with
 | nil=>simp[en]
 | cons a l ih =>
  obtain ⟨h3,h4⟩:=zj9.1 h1;rw[vI];by_cases e:a.cell=x
  ·rw[zf7 e,GA fun s hs=>by have:=h3 s hs; omega]
   rcases h2 a (by simp) with e2 | e2 <;> rw[e2] <;> decide
  ·rw[zf6 e,Int.zero_add];exact ih h4 fun s hs=>h2 s (by simp[hs])
theorem pM {α:Type}(l:List α)(f:α→α)(i j:Nat)(d:α)(hj:j<l.length):(l.modify i f).getD j d=if i=j then f (l.getD j d) else l.getD j d:=by
 rw[zg7,zg7,List.getElem?_modify,gE hj];by_cases e:i=j <;> simp[e]
def ent (M:List (List Int))(i k:Nat):Int:=(M.getD i []).getD k 0
theorem CQ {M:List (List Int)}{R C:Nat}(h:gX M R C){i k i' k':Nat}(hi:i<R)(hk:k<C)(z:Int):ent (addAt M i' k' z) i k=if i=i'∧k=k' then IntKind.i64.wrap (ent M i k+z) else ent M i k:=by
 have hl:i<M.length:=by rw[h.1]; exact hi
 have hr:=(h.2 _ (gM hl)).1;have hm:(M.getD i [])=M[i]:=by rw[zg7,gE hl]; rfl
 unfold ent addAt;rw[pM _ _ _ _ _ hl,hm];by_cases e:i'=i
 ·rw[zf7 e,pM _ _ _ _ _ (by rw[hr]; exact hk)];by_cases e2:k'=k
  ·rw[zf7 e2,zf7 ⟨e.symm,e2.symm⟩]
  ·rw[zf6 e2,zf6 (fun h=>e2 h.2.symm)]
 ·rw[zf6 e,zf6 (fun h=>e h.1.symm)]
theorem y3 {n:Int}(h:n.natAbs<4611686018427387904):IntKind.i64.wrap n=n:=zk8 _ oM
theorem EA {M:List (List Int)}{R C:Nat}{rows:List Int}(h:gX M R C)(hR:rows.length=R)(hs:rows.Pairwise (· < ·)){i k k':Nat}(hi:i<R)(hk:k<C)(x:ai)(hb:k=k'→(ent M i k+x.sign).natAbs<4611686018427387904) :
  ent (df rows k' M x) i k=ent M i k+if k=k' then (if x.cell=rows.getD i 0 then x.sign else 0) else 0:=by
 have hl:i<rows.length:=oM;have hg:rows.getD i 0=rows[i]:=by rw[zg7,gE hl]; rfl
 rw[hg];unfold df;by_cases hc:rows.contains x.cell=true
 ·rw[zf7 hc,CQ h hi hk];have hm:=List.contains_iff_mem.1 hc;obtain ⟨j,hj,e⟩:=zc4 hm;have hlb:lbI rows x.cell=j:=by rw[← e]; exact jH hj hs
  rw[hlb];by_cases e2:k=k'
  ·subst e2;by_cases e3:i=j
   ·subst e3;rw[zf7 ⟨rfl,rfl⟩,zf7 rfl,zf7 e.symm,y3 (hb rfl)]
   ·have:x.cell≠rows[i]:=fun e4=>by
     rw[← e] at e4;have h1:=jH hj hs;have h2:=jH hl hs;rw[e4] at h1;omega
    rw[zf6 (fun h=>e3 h.1),zf7 rfl,zf6 this,Int.add_zero]
  ·rw[zf6 (fun h=>e2 h.2),zf6 e2,Int.add_zero]
 ·rw[zf6 hc];have:x.cell≠rows[i]:=fun e=>hc (by rw[List.contains_iff_mem,e]; exact gM hl);rw[zf6 this];simp
theorem yr {R C:Nat}{rows:List Int}(hR:rows.length=R)(hs:rows.Pairwise (· < ·)){i k k':Nat}(hi:i<R)(hk:k<C):∀ (l:List ai) {M:List (List Int)},gX M R C→(∀ s∈l,s.sign=1∨s.sign = -1)→(k=k'→(ent M i k).natAbs+l.length<4611686018427387904) →
  ent (l.foldl (df rows k') M) i k=ent M i k+if k=k' then en l (rows.getD i 0) else 0
 | [],M,_,_,_=>by simp[en]
 | x::l,M,h,hsg,hb=>by
  have h1:=hsg x (by simp);have hx:x.sign.natAbs=1:=by rcases h1 with e | e <;> rw[e] <;> rfl
  have hst:=EA h hR hs hi hk x (k':=k') (fun e=>by
   have:=hb e;rw[ze5] at this;have h2:=Int.natAbs_add_le (ent M i k) x.sign;omega)
  rw[zi5,yr hR hs hi hk l (h.step rows k' x) (fun s hs=>hsg s (by simp[hs])) (fun e=>by
   have:=hb e;rw[ze5] at this;rw[hst,zf7 e];have h2:=Int.natAbs_add_le (ent M i k) (if x.cell=rows.getD i 0 then x.sign else 0);have h3:(if x.cell=rows.getD i 0 then x.sign else 0).natAbs≤1:=by split <;> omega
   omega),hst]
  by_cases e:k=k'
  ·rw[zf7 e,zf7 e,zf7 e,vI,Int.add_assoc]
  ·rw[zf6 e,zf6 e,zf6 e];omega
theorem oV {tab:List Cl}{rows cols:List Int}(hs:rows.Pairwise (· < ·))(hc:∀ k<cols.length,(∀ s∈(ex tab (cols.getD k 0)).sides,s.sign=1∨s.sign = -1)∧(ex tab (cols.getD k 0)).sides.length<1099511627776){i k:Nat}(hi:i<rows.length)(hk:k<cols.length):∀ n≤cols.length,
  ent (jD tab rows cols n) i k=if k<n then en (ex tab (cols.getD k 0)).sides (rows.getD i 0) else 0
 | 0,_=>by
  have h0:(List.replicate rows.length (List.replicate cols.length (0:Int))).getD i []=List.replicate cols.length 0:=by
   rw[zg7,List.getElem?_replicate,zf7 hi]; rfl
  unfold ent jD;rw[h0,zg7,List.getElem?_replicate,zf7 hk,zf6 oM];rfl
 | n+1,hn=>by
  have ih:=oV hs hc hi hk n oM;obtain ⟨h1,h2⟩:=hc n oM;rw[jD,yr rfl hs hi hk _ (ei tab rows cols n) h1 (fun e=>by
   rw[ih,zf6 oM];have:(0:Int).natAbs=0:=rfl;omega),ih]
  by_cases e:k=n
  ·subst e;rw[zf6 oM,zf7 rfl,zf7 oM,Int.zero_add]
  ·rw[zf6 e,Int.add_zero];by_cases e2:k<n
   ·rw[zf7 e2,zf7 oM]
   ·rw[zf6 e2,zf6 oM]
theorem yl {C:Nat}:∀ {M:List (List Int)} {i k:Nat},(∀ r∈M,r.length=C)→i<M.length→k<C→M.flatten.getD (i * C+k) 0=ent M i k
 | [],_,_,_,h,_=>by simp at h
 | r::M,0,k,hl,_,hk=>by
  have h1:r.length=C:=hl r (by simp);unfold ent;rw[List.flatten_cons,Nat.zero_mul,Nat.zero_add,zg7,zg8 oM];simp
 | r::M,i+1,k,hl,hi,hk=>by
  have h1:r.length=C:=hl r (by simp);have ih:=yl (M:=M) (i:=i) (k:=k) (fun x hx=>hl x (by simp[hx])) (by simpa using hi) hk;have h2:(i+1) * C+k - r.length=i * C+k:=by rw[h1,Nat.add_mul]; omega
  unfold ent at ih ⊢;rw[List.flatten_cons,zg7,zg9 (by rw[h1,Nat.add_mul]; omega),h2,← zg7,ih];simp
theorem Ev {C:Nat}{M:List (List Int)}(hl:∀ r∈M,r.length=C){n:Int}(h:n∈M.flatten):∃ i k,i<M.length∧k<C∧n=ent M i k:=by
 obtain ⟨r,hr,hn⟩:=List.mem_flatten.1 h;obtain ⟨i,hi,rfl⟩:=zc4 hr;obtain ⟨k,hk,rfl⟩:=zc4 hn;refine⟨i,k,hi,by rw[← hl _ hr]; exact hk,?_⟩;unfold ent;rw[zg7,zg7,gE hi,Option.getD_some,gE hk];rfl
theorem rD {M:List Cl}(h:Rt M){d x:Int}(hx:x∈cB M d):ex (ab M) x∈M∧(ex (ab M) x).dim=d∧(ex (ab M) x).id=x:=by
 unfold cB at hx;rw[h.tab] at hx;obtain ⟨c,hc,rfl⟩:=ze8.1 hx;obtain ⟨hc,hd⟩:=zh1.1 hc;unfold ex;rw[h.tab,h.find hc];exact⟨hc,by simpa using hd,I⟩
theorem yb {l:List Int}{k:Nat}(h:k<l.length):l.getD k 0∈l:=by
 rw[zg7,gE h];exact gM h
theorem zw {M:List Cl}(h:Rt M){c:Cl}(hc:c∈M):c.sides.length<1099511627776:=by
 have h1:=(h.form c hc).cnt;have h2:(c.sides.map ai.cell).length≤(M.map Cl.id).length:=by
  have hnd:(c.sides.map ai.cell).Nodup:=by
   rw[List.Nodup,zk1];exact (h.form c hc).asc.imp fun h=>by omega
  refine hnd.length_le_of_subset fun x hx=>?_;obtain ⟨s,hs,rfl⟩:=ze8.1 hx;obtain ⟨d,hd,-⟩:=(h.form c hc).found s hs;unfold az at hd;have h3:=List.find?_some hd;have h4:=zk3 hd;simp only[zj2] at h3;exact ze8.2 ⟨d,h4,h3⟩
 simp only[ze3] at h2;have:=h.few;omega
theorem Fo {M:List Cl}(h:Rt M)(d:Int):∀ k<(cB M d).length,(∀ s∈(ex (ab M) ((cB M d).getD k 0)).sides,s.sign=1∨s.sign = -1)∧(ex (ab M) ((cB M d).getD k 0)).sides.length<1099511627776:=fun k hk=>by
 obtain ⟨h1,-,-⟩:=rD h (yb hk);exact⟨(h.form _ h1).sg,zw h h1⟩
def yW (M:List Cl)(d:Int):List Int:=(jD (ab M) (cB M (d - 1)) (cB M d) (cB M d).length).flatten
theorem Eh {M:List Cl}(h:Rt M){d:Int}{i k:Nat}(hi:i<(cB M (d - 1)).length)(hk:k<(cB M d).length):(yW M d).getD (i * (cB M d).length+k) 0=en (ex (ab M) ((cB M d).getD k 0)).sides ((cB M (d - 1)).getD i 0):=by
 have hs:=ei (ab M) (cB M (d - 1)) (cB M d) (cB M d).length;unfold yW;rw[yl (fun r hr=>(hs.2 r hr).1) (by rw[hs.1]; exact hi) hk,oV (vH M (d - 1)) (Fo h d) hi hk _ (lR _),zf7 hk]
theorem Gn {M:List Cl}(h:Rt M)(d:Int):∀ n∈yW M d,n.natAbs≤1:=fun n hn=>by
 have hs:=ei (ab M) (cB M (d - 1)) (cB M d) (cB M d).length;obtain ⟨i,k,hi,hk,rfl⟩:=Ev (fun r hr=>(hs.2 r hr).1) hn;rw[hs.1] at hi;rw[oV (vH M (d - 1)) (Fo h d) hi hk _ (lR _),zf7 hk];obtain ⟨h1,-,-⟩:=rD h (yb hk);exact HF (h.form _ h1).asc (h.form _ h1).sg _
theorem xY (M:List Cl)(d:Int):(yW M d).length=(cB M (d - 1)).length * (cB M d).length:=by
 have hs:=ei (ab M) (cB M (d - 1)) (cB M d) (cB M d).length;unfold yW;rw[lH fun r hr=>(hs.2 r hr).1,hs.1]
theorem Cp {M:List Cl}(hf:M.length≤200)(ht:ab M=M)(d:Int):vQ (ab M) (cB M (d - 1)) (cB M d)=((cB M (d - 1)).length,(cB M d).length,yW M d):=by
 have h1:=vR M (d - 1);have h2:=vR M d;rw[ht] at h1 h2;have h3:=xY M d;unfold vQ;rw[zf6 (by simp; omega)];split
 ·rename_i h0;rw[h0,Nat.zero_mul] at h3;rw[zf1 h3,h0]
 ·rfl
end Go.Proofs.YtkbagdedfdfjhaaGreatDoor
namespace Go.Sy
open Go Go.MapKept
section
variable {P:Program}{w:World}{t kt et ty:TypeId}{z:Value}{b:Nat}{es:Array MapEntry}{clk:Nat}{l:List (Int×Value)}
end
section
variable {P:Program}{N:Nat}{E:World}{ops:Array Oper}{Q:Exit→Act→World→Prop}{f:Fr}{g:PH}{s:Own}{dst:Option Tmp}{ty:TypeId}{pos:String}{af:Array Edge}{gd:Option (Nat×Bool)}
variable {t kt et:TypeId}{z:Value}{b:Nat}{l:List (Int×Value)}{x y:Operand}{k:Int}
end
end Go.Sy
namespace Go.Sy
open Go
section
variable {P:Program}{N:Nat}{E:World}{f:Fr}{g:PH}{s:Own}{dst:Option Tmp}{ty:TypeId}{pos:String}{af:Array Edge}{gd:Option (Nat×Bool)}
theorem SQ.sof {o:Oper}{v:Value}(h:SQ P N E o f g s v):SO P N E o f g s fun v' g' s'=>v'=v∧g=g'∧s=s':=SO.mono h.so fun _ _ _ ⟨h1,h2,h3⟩=>⟨h1,h2.symm,h3.symm⟩
theorem SQ.loadOne {x:Operand}{T:TypeId}{b o:Nat}{v:Value}(hT:∀ w,(isAgg T).run P w = .ok true w)(hk:∀ w,(sizeOf T).run P w = .ok 1 w)(hx:ev f x=some (pp b o))(hc:eJ g s ⟨b,o,none⟩ v) :
  SQ P N E ⟨dst,.load T x,ty,pos,af,gd⟩ f g s (.agg #[v]) :=
 SQ.loadAggAt (vs:=[v]) hT hk hx rfl fun j u hu=>by
  cases j with
  | zero=>simp at hu; subst hu; exact hc
  | succ j=>simp at hu
end
section
variable {α:Type}{k:Nat}{P:Program}{N:Nat}{E:World}{f:Fr}{g:PH}{s:Own}{dst:Option Tmp}{ty:TypeId}{pos:String}{af:Array Edge}{gd:Option (Nat×Bool)}
end
section
variable {P:Program}{N:Nat}{E:World}{f:Fr}{g:PH}{s:Own}{fn:Func}{R:Value→PH→Own→Prop}{e:Exit}
theorem ST.retCCT {T U T' U':TypeId}{t t' u b b' k k':Nat}{cs cs':Array Value}{fr fr':Nat×Nat}{x:Value}(i i':Nat)(s':Own)(he:e = .ret∨e = .normal)(hr:fn.results = #[.cell t T,.cell t' T',.tmp u])(hv:bk f t=some (pp b 0))(hv':bk f t'=some (pp b' 0))(hu:bk f u=some x)
  (hT:∀ w,(isAgg T).run P w = .ok true w) (hk:∀ w,(sizeOf T).run P w = .ok k w) (hT':∀ w,(isAgg T').run P w = .ok true w) (hk':∀ w,(sizeOf T').run P w = .ok k' w)
  (hs:s[i]?=some (pt b (.cells cs U fr))) (hc:cs.size=k) (hsb:s[i']?=some (pt b' (.cells cs' U' fr'))) (hc':cs'.size=k') (hs':s'.Sublist s) (hR:R (.tuple #[.agg cs,.agg cs',x]) g s'):ST N E (bodyPost P fn (qA E R)) e f g s :=
 fun a w ha hw=>by
  have h1:=eE (P:=P) hw hT (by rw[hc]; exact hk) hs;have h1':=eE (P:=P) hw hT' (by rw[hc']; exact hk') hsb;have h2:=ha.at_ t _ hv;have h2':=ha.at_ t' _ hv';have h5:=ha.at_ u _ hu;simp only[Array.getD_eq_getD_getElem?] at h2 h2' h5;have h3:(results fn a.tmps).run P w = .ok (.tuple #[.agg cs,.agg cs',x]) w:=by simp[results,hr,asAddr,pp,h2,h2',h1,h1',h5]
  have h4:qA E R (.returned (.tuple #[.agg cs,.agg cs',x])) w:=⟨_,g,s',rfl,hw.sublist hs',hR⟩
  rcases he with rfl | rfl
  ·exact⟨ha.defers,_,h3,h4⟩
  ·exact⟨ha.defers,_,h3,h4⟩
end
end Go.Sy
namespace Go.Sy
open Go Go.MapKept
instance quiet_scope {Q:Exit→Act→World→Prop}[h:Quiet Q]:Quiet (Exit.noGoto Q):=⟨fun c a a' w hd hq=>h.out c a a' w hd hq⟩
section
variable {P:Program}{N:Nat}{E:World}{Q:Exit→Act→World→Prop}{f:Fr}{g:PH}{s:Own}
theorem SC.scope {c:Code}(h:SC P N E c (Exit.noGoto Q) f g s):SC P N E (.scope c) Q f g s:=fun a w ha hw=>wp_scope_straight (h a w ha hw)
theorem ST.scopeR (h:ST N E Q .ret f g s):ST N E (Exit.noGoto Q) .ret f g s:=h
end
end Go.Sy
namespace Go.Pl
def aA (l:List Nat)(f:Nat→Int):Int:=(l.map f).sum
theorem jF (f:Nat→Int):aA [] f=0:=rfl
theorem cV (a:Nat)(l:List Nat)(f:Nat→Int):aA (a::l) f=f a+aA l f:=by simp[aA]
theorem iL (l m:List Nat)(f:Nat→Int):aA (l++m) f=aA l f+aA m f:=by simp[aA]
theorem ld (l:List Nat)(f g:Nat→Int):aA l (fun j=>f j+g j)=aA l f+aA l g:=by
 induction l with
 | nil=>rfl
 | cons a l ih=>simp only[cV,ih]; omega
theorem cN (l:List Nat)(c:Int)(f:Nat→Int):aA l (fun j=>c * f j)=c * aA l f:=by
 induction l with
 | nil=>simp[aA]
 | cons a l ih=>simp only[cV,ih,Int.mul_add]
theorem e8 (l:List Nat)(c:Int)(f:Nat→Int):aA l (fun j=>f j * c)=aA l f * c:=by
 induction l with
 | nil=>simp[aA]
 | cons a l ih=>simp only[cV,ih,Int.add_mul]
theorem fW (l:List Nat):aA l (fun _=>0)=0:=by
 induction l with
 | nil=>rfl
 | cons a l ih=>simp only[cV,ih]; rfl
theorem ag {l:List Nat}{f g:Nat→Int}(h:∀ j∈l,f j=g j):aA l f=aA l g:=by
 unfold aA;rw[List.map_congr_left h]
theorem e7 (l m:List Nat)(f:Nat→Nat→Int):aA l (fun i=>aA m fun j=>f i j)=aA m fun j=>aA l fun i=>f i j:=by
 induction l with
 | nil=>simp only[jF,fW]
 | cons a l ih=>simp only[cV,ih,ld]
def Eqm (p a b:Int):Prop:=p ∣ a - b
section
variable {p:Int}
theorem Eqm.refl (a:Int):Eqm p a a:=by unfold Eqm; rw[Int.sub_self]; exact Int.dvd_zero p
theorem Eqm.symm {a b:Int}(h:Eqm p a b):Eqm p b a:=by
 unfold Eqm at *;have:=Int.dvd_neg.2 h;rwa [Int.neg_sub] at this
theorem Eqm.trans {a b c:Int}(h:Eqm p a b)(k:Eqm p b c):Eqm p a c:=by
 unfold Eqm at *;have:=Int.dvd_add h k;rwa [show a - b+(b - c)=a - c by omega] at this
theorem Eqm.add {a b c d:Int}(h:Eqm p a b)(k:Eqm p c d):Eqm p (a+c) (b+d):=by
 unfold Eqm at *;have:=Int.dvd_add h k;rwa [show a - b+(c - d)=a+c - (b+d) by omega] at this
theorem Eqm.mul {a b c d:Int}(h:Eqm p a b)(k:Eqm p c d):Eqm p (a * c) (b * d):=by
 unfold Eqm at *;have h1:p ∣ (a - b) * c:=Int.dvd_mul_of_dvd_left h;have h2:p ∣ b * (c - d):=Int.dvd_mul_of_dvd_right k;have:=Int.dvd_add h1 h2;rwa [Int.sub_mul,Int.mul_sub,show a * c - b * c+(b * c - b * d)=a * c - b * d by omega] at this
theorem Eqm.of {a b:Int}(h:a=b):Eqm p a b:=by rw[h]; exact .refl b
theorem Eqm.sum {l:List Nat}{f g:Nat→Int}(h:∀ j∈l,Eqm p (f j) (g j)):Eqm p (aA l f) (aA l g):=by
 induction l with
 | nil=>exact .refl _
 | cons a l ih =>
  rw[cV,cV];exact (h a (by simp)).add (ih fun j hj=>h j (by simp[hj]))
theorem Eqm.sum0 {l:List Nat}{f:Nat→Int}(h:∀ j∈l,Eqm p (f j) 0):Eqm p (aA l f) 0:=by
 have:=Eqm.sum (g:=fun _=>0) h;rwa [fW] at this
def Fld (p:Int):Prop:=¬ Eqm p 1 0∧∀ a,¬ Eqm p a 0→∃ b,Eqm p (a * b) 1
theorem sh (hp:Fld p):∀ (s:Nat) (cs:List Nat) (Y:Nat→Nat→Int),cs.Nodup→s<cs.length→∃ v:Nat→Int,(∃ j∈cs,¬ Eqm p (v j) 0)∧∀ i,i<s→Eqm p (aA cs fun j=>Y i j * v j) 0
 | 0,cs,Y,_,hs=>by
  cases cs with
  | nil=>simp at hs
  | cons a l=>exact⟨fun _=>1,⟨a,by simp,hp.1⟩,fun i hi=>by omega⟩
 | s+1,cs,Y,hn,hs=>by
  by_cases hall:∀ j∈cs,Eqm p (Y s j) 0
  ·obtain ⟨v,h1,h2⟩:=sh hp s cs Y hn (by omega);refine⟨v,h1,fun i hi=>?_⟩;by_cases e:i=s
   ·subst e;refine Eqm.sum0 fun j hj=>?_;have:=(hall j hj).mul (Eqm.refl (v j));rwa [Int.zero_mul] at this
   ·exact h2 i (by omega)
  ·have ⟨j0,hj0,hy⟩:∃ j0∈cs,¬ Eqm p (Y s j0) 0:=by
    apply Classical.byContradiction;intro h;exact hall fun j hj=>Classical.byContradiction fun k=>h ⟨j,hj,k⟩
   obtain ⟨b,hb⟩:=hp.2 _ hy;obtain ⟨l1,l2,rfl⟩:=List.append_of_mem hj0;have hn2:(l1++l2).Nodup:=by
    have:=(List.nodup_append.1 hn);refine List.nodup_append.2 ⟨this.1,(List.nodup_cons.1 this.2.1).2,fun x hx y hy=>this.2.2 x hx y (by simp[hy])⟩
   have hnot:∀ j∈l1++l2,j≠j0:=fun j hj e=>by
    subst e;have h3:=List.nodup_append.1 hn
    rcases List.mem_append.1 hj with h | h
    ·exact h3.2.2 j h j (by simp) rfl
    ·exact (List.nodup_cons.1 h3.2.1).1 h
   obtain ⟨v,⟨j1,hj1,hv1⟩,h2⟩:=sh hp s (l1++l2) (fun i j=>Y i j - Y i j0 * b * Y s j) hn2 (by simp at hs ⊢; omega)
   let t:Int:=-(b * aA (l1++l2) fun j=>Y s j * v j)
   let w:Nat→Int:=fun j=>if j=j0 then t else v j
   have hw:∀ j∈l1++l2,w j=v j:=fun j hj=>if_neg (hnot j hj);have hsum:∀ i,aA (l1++j0::l2) (fun j=>Y i j * w j)=(aA (l1++l2) fun j=>Y i j * v j)+Y i j0 * t:=fun i=>by
    rw[iL,cV,iL];have e1:aA l1 (fun j=>Y i j * w j)=aA l1 fun j=>Y i j * v j:=ag fun j hj=>by rw[hw j (by simp[hj])]
    have e2:aA l2 (fun j=>Y i j * w j)=aA l2 fun j=>Y i j * v j:=ag fun j hj=>by rw[hw j (by simp[hj])]
    have e3:w j0=t:=if_pos rfl;rw[e1,e2,e3];omega
   refine⟨w,⟨j1,by rcases List.mem_append.1 hj1 with h | h <;> simp[h],by rw[hw j1 hj1]; exact hv1⟩,fun i hi=>?_⟩;rw[hsum i];by_cases e:i=s
   ·subst e;have h3:Eqm p (Y i j0 * t) (-(aA (l1++l2) fun j=>Y i j * v j)):=by
     have:=(hb.mul (Eqm.refl (-(aA (l1++l2) fun j=>Y i j * v j))));rw[Int.one_mul] at this;refine Eqm.trans (Eqm.of ?_) this;show Y i j0 * -(b * _)=_;rw[Int.mul_neg,Int.mul_neg,Int.mul_assoc]
    have:=(Eqm.refl (aA (l1++l2) fun j=>Y i j * v j)).add h3;rwa [Int.add_right_neg] at this
   ·have h4:=h2 i (by omega);refine Eqm.trans (Eqm.of ?_) h4;have h5:(aA (l1++l2) fun j=>(Y i j - Y i j0 * b * Y s j) * v j)=(aA (l1++l2) fun j=>Y i j * v j)+aA (l1++l2) fun j=>-(Y i j0 * b) * (Y s j * v j):=by
     rw[← ld];refine ag fun j _=>?_;rw[Int.sub_mul,Int.neg_mul,Int.mul_assoc (Y i j0 * b)];omega
    rw[h5,cN];show _+Y i j0 * -(b * _)=_;rw[Int.mul_neg,Int.neg_mul,Int.mul_assoc]
theorem Fc (hp:Fld p){r s:Nat}{X Y:Nat→Nat→Int}(h:∀ i,i<r→∀ j,j<r→Eqm p (aA (List.range s) fun k=>X i k * Y k j) (if i=j then 1 else 0)):r≤s:=by
 apply Classical.byContradiction;intro hlt;obtain ⟨v,⟨j,hj,hv⟩,h2⟩:=sh hp s (List.range r) Y List.nodup_range (by simp; omega);rw[List.mem_range] at hj;apply hv;have h3:Eqm p (aA (List.range r) fun k=>(aA (List.range s) fun i=>X j i * Y i k) * v k) (aA (List.range r) fun k=>(if j=k then 1 else 0) * v k) :=
  Eqm.sum fun k hk=>(h j hj k (List.mem_range.1 hk)).mul (Eqm.refl _)
 have h4:(aA (List.range r) fun k=>(aA (List.range s) fun i=>X j i * Y i k) * v k)=aA (List.range s) fun i=>X j i * aA (List.range r) fun k=>Y i k * v k:=by
  have e:∀ k,(aA (List.range s) fun i=>X j i * Y i k) * v k=aA (List.range s) fun i=>X j i * (Y i k * v k):=fun k=>by
   rw[← e8];exact ag fun i _=>Int.mul_assoc _ _ _
  simp only[e];rw[e7];exact ag fun i _=>cN _ _ _
 have h5:Eqm p (aA (List.range s) fun i=>X j i * aA (List.range r) fun k=>Y i k * v k) 0:=Eqm.sum0 fun i hi=>by
  have:=(Eqm.refl (X j i)).mul (h2 i (List.mem_range.1 hi));rwa [Int.mul_zero] at this
 have h6:∀ n,j<n→(aA (List.range n) fun k=>(if j=k then 1 else 0) * v k)=v j:=fun n hn=>by
  induction n with
  | zero=>omega
  | succ n ih =>
   rw[List.range_succ,iL,cV,jF];by_cases e:j=n
   ·subst e;rw[if_pos rfl,Int.one_mul,ag (g:=fun _=>0) (fun k hk=>by rw[if_neg (by have:=List.mem_range.1 hk; omega),Int.zero_mul]),fW];omega
   ·rw[ih (by omega),if_neg e];omega
 rw[h4,h6 r hj] at h3;exact h3.symm.trans h5
structure dy (p:Int)(A:Nat→Nat→Int)(m n r:Nat):Prop where
 thru:∃ X Y:Nat→Nat→Int,∀ i,i<m→∀ j,j<n→Eqm p (A i j) (aA (List.range r) fun k=>X i k * Y k j)
 one:∃ L R:Nat→Nat→Int,∀ i,i<r→∀ j,j<r→Eqm p (aA (List.range m) fun a=>L i a * aA (List.range n) fun b=>A a b * R b j) (if i=j then 1 else 0)
theorem dy.le (hp:Fld p){A A' U V:Nat→Nat→Int}{m n m' n' r r':Nat}(h:dy p A m n r)(h':dy p A' m' n' r')
  (hu:∀ i,i<m'→∀ j,j<n'→Eqm p (A' i j) (aA (List.range m) fun a=>U i a * aA (List.range n) fun b=>A a b * V b j)):r'≤r:=by
 obtain ⟨X,Y,hXY⟩:=h.thru;obtain ⟨L,R,hLR⟩:=h'.one;refine Fc hp (X:=fun i k=>aA (List.range m') fun a=>L i a * aA (List.range m) fun c=>U a c * X c k) (Y:=fun k j=>aA (List.range n') fun b=>(aA (List.range n) fun d=>Y k d * V d b) * R b j) fun i hi j hj=>?_;refine Eqm.trans ?_ (hLR i hi j hj);have key:∀ a,a<m'→∀ b,b<n'→Eqm p (aA (List.range r) fun k=>(aA (List.range m) fun c=>U a c * X c k) * aA (List.range n) fun d=>Y k d * V d b) (A' a b):=fun a ha b hb=>by
  refine Eqm.trans ?_ (hu a ha b hb).symm;have e1:(aA (List.range r) fun k=>(aA (List.range m) fun c=>U a c * X c k) * aA (List.range n) fun d=>Y k d * V d b)=aA (List.range m) fun c=>U a c * aA (List.range n) fun d=>(aA (List.range r) fun k=>X c k * Y k d) * V d b:=by
   have f1:∀ k,((aA (List.range m) fun c=>U a c * X c k) * aA (List.range n) fun d=>Y k d * V d b)=aA (List.range m) fun c=>aA (List.range n) fun d=>U a c * (X c k * Y k d * V d b):=fun k=>by
    rw[← e8];refine ag fun c _=>?_;rw[← cN];refine ag fun d _=>?_;simp only[Int.mul_assoc]
   simp only[f1];rw[e7];refine ag fun c _=>?_;rw[e7,← cN];refine ag fun d _=>?_;rw[cN,e8]
  rw[e1];exact Eqm.sum fun c hc=>(Eqm.refl _).mul (Eqm.sum fun d hd=>(hXY c (List.mem_range.1 hc) d (List.mem_range.1 hd)).symm.mul (Eqm.refl _))
 have e2:(aA (List.range r) fun k=>(aA (List.range m') fun a=>L i a * aA (List.range m) fun c=>U a c * X c k) * aA (List.range n') fun b=>(aA (List.range n) fun d=>Y k d * V d b) * R b j)=aA (List.range m') fun a=>L i a * aA (List.range n') fun b=>(aA (List.range r) fun k=>(aA (List.range m) fun c=>U a c * X c k) * aA (List.range n) fun d=>Y k d * V d b) * R b j:=by
  have f1:∀ k,((aA (List.range m') fun a=>L i a * aA (List.range m) fun c=>U a c * X c k) * aA (List.range n') fun b=>(aA (List.range n) fun d=>Y k d * V d b) * R b j)=aA (List.range m') fun a=>aA (List.range n') fun b=>L i a * (((aA (List.range m) fun c=>U a c * X c k) * aA (List.range n) fun d=>Y k d * V d b) * R b j):=fun k=>by
   rw[← e8];refine ag fun a _=>?_;rw[← cN];refine ag fun b _=>?_;simp only[Int.mul_assoc]
  simp only[f1];rw[e7];refine ag fun a _=>?_;rw[e7,← cN];refine ag fun b _=>?_;rw[cN,e8]
 rw[e2];exact Eqm.sum fun a ha=>(Eqm.refl _).mul (Eqm.sum fun b hb=>(key a (List.mem_range.1 ha) b (List.mem_range.1 hb)).mul (Eqm.refl _))
theorem dy.turn {A:Nat→Nat→Int}{m n r:Nat}(h:dy p A m n r):dy p (fun i j=>A j i) n m r:=by
 obtain ⟨X,Y,hXY⟩:=h.thru;obtain ⟨L,R,hLR⟩:=h.one;refine⟨⟨fun i k=>Y k i,fun k j=>X j k,fun i hi j hj=>(hXY j hj i hi).trans (Eqm.of (ag fun k _=>Int.mul_comm _ _))⟩,⟨fun i a=>R a i,fun b j=>L j b,fun i hi j hj=>?_⟩⟩;have h1:=hLR j hj i hi;rw[show (if j=i then (1:Int) else 0)=if i=j then 1 else 0 by by_cases e:i=j <;> simp[e,eq_comm]] at h1;refine Eqm.trans (Eqm.of ?_) h1;have f1:∀ a,R a i * (aA (List.range m) fun b=>A b a * L j b)=aA (List.range m) fun b=>L j b * (A b a * R a i):=fun a=>by
  rw[← cN];refine ag fun b _=>?_;rw[Int.mul_comm,Int.mul_comm (A b a),Int.mul_assoc]
 simp only[f1];rw[e7];exact ag fun b _=>cN _ _ _
end
end Go.Pl
namespace Go.Pl
section
variable {p:Int}
theorem fx (n i:Nat)(h:i<n)(f:Nat→Int):(aA (List.range n) fun k=>(if i=k then 1 else 0) * f k)=f i:=by
 induction n with
 | zero=>omega
 | succ n ih =>
  rw[List.range_succ,iL,cV,jF];by_cases e:i=n
  ·subst e;rw[if_pos rfl,Int.one_mul,ag (g:=fun _=>0) (fun k hk=>by rw[if_neg (by have:=List.mem_range.1 hk; omega),Int.zero_mul]),fW];omega
  ·rw[ih (by omega),if_neg e];omega
def dG (p:Int)(A:Nat→Nat→Int)(m n:Nat)(v:Nat→Int):Prop:=∃ w:Nat→Int,∀ j,j<n→Eqm p (v j) (aA (List.range m) fun a=>w a * A a j)
theorem dG.self {A:Nat→Nat→Int}{m n i:Nat}(h:i<m):dG p A m n (A i):=⟨fun k=>if i=k then 1 else 0,fun j _=>Eqm.of (fx m i h fun k=>A k j).symm⟩
theorem dG.add {A:Nat→Nat→Int}{m n:Nat}{u v:Nat→Int}(c:Int)(h:dG p A m n u)(k:dG p A m n v):dG p A m n fun j=>u j+c * v j:=by
 obtain ⟨x,hx⟩:=h;obtain ⟨y,hy⟩:=k;refine⟨fun a=>x a+c * y a,fun j hj=>((hx j hj).add ((Eqm.refl c).mul (hy j hj))).trans (Eqm.of ?_)⟩;rw[← cN,← ld];exact ag fun a _=>by rw[Int.add_mul,Int.mul_assoc]
theorem dG.mul {A:Nat→Nat→Int}{m n:Nat}{v:Nat→Int}(c:Int)(k:dG p A m n v):dG p A m n fun j=>c * v j:=by
 obtain ⟨y,hy⟩:=k;refine⟨fun a=>c * y a,fun j hj=>((Eqm.refl c).mul (hy j hj)).trans (Eqm.of ?_)⟩;rw[← cN];exact ag fun a _=>by rw[Int.mul_assoc]
theorem dG.congr {A:Nat→Nat→Int}{m n:Nat}{u v:Nat→Int}(k:dG p A m n v)(h:∀ j,j<n→Eqm p (u j) (v j)):dG p A m n u:=by
 obtain ⟨y,hy⟩:=k;exact⟨y,fun j hj=>(h j hj).trans (hy j hj)⟩
theorem dG.sum {A:Nat→Nat→Int}{m n:Nat}{B:Nat→Nat→Int}(w:Nat→Int):∀ {l:List Nat},(∀ a∈l,dG p A m n (B a))→dG p A m n fun j=>aA l fun a=>w a * B a j
 | [],_=>⟨fun _=>0,fun j _=>Eqm.of (by
   show (0:Int)=_;rw[ag (g:=fun _=>0) (fun a _=>Int.zero_mul _),fW])⟩
 | a::l,h=>by
  have h1:=(dG.sum w fun b hb=>h b (by simp[hb]):dG p A m n fun j=>aA l fun a=>w a * B a j);refine (h1.add (w a) (h a (by simp))).congr fun j _=>Eqm.of ?_;rw[cV];omega
theorem dG.trans {A B:Nat→Nat→Int}{m n k:Nat}{v:Nat→Int}(h:dG p B k n v)(hb:∀ a,a<k→dG p A m n (B a)):dG p A m n v:=by
 obtain ⟨w,hw⟩:=h;exact (dG.sum w fun a ha=>hb a (List.mem_range.1 ha)).congr hw
structure md (p:Int)(A:Nat→Nat→Int)(m n:Nat)(M:Nat→Nat→Int)(J:List Nat)(c:Nat):Prop where
 fwd:∀ i,i<m→dG p A m n (M i)
 bwd:∀ i,i<m→dG p M m n (A i)
 col:∀ j∈J,j<c
 piv:∀ k j,J[k]?=some j→∀ i,i<m→Eqm p (M i j) (if i=k then 1 else 0)
 low:∀ i,J.length≤i→i<m→∀ j,j<c→Eqm p (M i j) 0
 len:J.length≤m
theorem md.start (A:Nat→Nat→Int)(m n:Nat):md p A m n A [] 0:=⟨fun _ h=>.self h,fun _ h=>.self h,by simp,by simp,fun _ _ _ j hj=>by omega,Nat.zero_le _⟩
theorem md.none {A M:Nat→Nat→Int}{m n c:Nat}{J:List Nat}(h:md p A m n M J c)(h0:∀ i,J.length≤i→i<m→Eqm p (M i c) 0):md p A m n M J (c+1) :=
 ⟨h.fwd,h.bwd,fun j hj=>by have:=h.col j hj; omega,h.piv,fun i h1 h2 j hj=>by
  by_cases e:j=c
  ·subst e; exact h0 i h1 h2
  ·exact h.low i h1 h2 j (by omega),h.len⟩
theorem md.pivot {A M M':Nat→Nat→Int}{m n c i0:Nat}{b:Int}{J:List Nat}(h:md p A m n M J c)(hc:c<n)(h1:J.length≤i0)(h2:i0<m)(hb:Eqm p (b * M i0 c) 1)
  (hM:∀ i,i<m→∀ j,j<n→Eqm p (M' i j) (if i=J.length then b * M i0 j else M (if i=i0 then J.length else i) j - M (if i=i0 then J.length else i) c * (b * M i0 j))):md p A m n M' (J++[c]) (c+1):=by
 have hr:J.length<m:=by omega
 have hsw:∀ i,i<m→(if i=i0 then J.length else i)<m:=fun i hi=>by split <;> omega
 have rowr:∀ j,j<n→Eqm p (M' J.length j) (b * M i0 j):=fun j hj=>by
  have:=hM J.length hr j hj;rwa [if_pos rfl] at this
 have rown:∀ i,i<m→i≠J.length→∀ j,j<n→Eqm p (M' i j) (M (if i=i0 then J.length else i) j - M (if i=i0 then J.length else i) c * (b * M i0 j)):=fun i hi hne j hj=>by
  have:=hM i hi j hj;rwa [if_neg hne] at this
 have colc:∀ i,i<m→Eqm p (M' i c) (if i=J.length then 1 else 0):=fun i hi=>by
  by_cases e:i=J.length
  ·subst e;rw[if_pos rfl];exact (rowr c hc).trans hb
  ·rw[if_neg e];refine (rown i hi e c hc).trans ?_;have h3:=(Eqm.refl (-(M (if i=i0 then J.length else i) c))).mul hb;have h4:=(Eqm.refl (M (if i=i0 then J.length else i) c)).add h3;rw[Int.mul_one,Int.add_right_neg] at h4;refine (Eqm.of ?_).trans h4;rw[Int.neg_mul];omega
 -- the old rows lie in the new ones
 have old0:dG p M' m n (M i0):=by
  have h3:dG p M' m n fun j=>M i0 c * M' J.length j:=(dG.self hr).mul _;refine h3.congr fun j hj=>?_;have h4:=(Eqm.refl (M i0 c)).mul (rowr j hj);have h5:=hb.mul (Eqm.refl (M i0 j));rw[Int.one_mul] at h5;refine (h5.symm.trans (Eqm.of ?_)).trans h4.symm;rw[← Int.mul_assoc,Int.mul_comm b]
 have old:∀ i,i<m→dG p M' m n (M i):=fun i hi=>by
  by_cases e0:i=i0
  ·subst e0; exact old0
  ·-- i sits at place t of the new matrix
   have ⟨t,ht,htr,hti⟩:∃ t,t<m∧t≠J.length∧(if t=i0 then J.length else t)=i:=by
    by_cases e:i=J.length
    ·exact⟨i0,h2,fun e2=>e0 (by rw[e,e2]),by rw[if_pos rfl]; exact e.symm⟩
    ·exact⟨i,hi,e,if_neg e0⟩
   have h3:dG p M' m n fun j=>M' t j+(M i c * b) * M i0 j:=(dG.self ht).add _ old0;refine h3.congr fun j hj=>?_;have h4:=rown t ht htr j hj;rw[hti] at h4;refine Eqm.symm ((h4.add (Eqm.refl _)).trans (Eqm.of ?_));rw[Int.mul_assoc];omega
 refine⟨fun i hi=>?_,fun i hi=>(h.bwd i hi).trans old,fun j hj=>?_,fun k j hk i hi=>?_,fun i hi1 hi2 j hj=>?_,by simp; omega⟩
 ·by_cases e:i=J.length
  ·subst e;exact ((h.fwd i0 h2).mul b).congr rowr
  ·refine ((h.fwd _ (hsw i hi)).add (-(M (if i=i0 then J.length else i) c * b)) (h.fwd i0 h2)).congr fun j hj=>(rown i hi e j hj).trans (Eqm.of ?_);rw[Int.neg_mul,Int.mul_assoc];omega
 ·rcases List.mem_append.1 hj with h3 | h3
  ·have:=h.col j h3; omega
  ·simp at h3; omega
 ·by_cases hkl:k<J.length
  ·rw[List.getElem?_append_left hkl] at hk;have hjc:j<c:=h.col j (List.mem_of_getElem? hk);have z0:Eqm p (M i0 j) 0:=h.low i0 h1 h2 j hjc;have z1:∀ x,Eqm p (x * M i0 j) 0:=fun x=>by
    have:=(Eqm.refl x).mul z0;rwa [Int.mul_zero] at this
   by_cases e:i=J.length
   ·subst e;rw[if_neg (by omega)];exact (rowr j (by omega)).trans (z1 b)
   ·refine (rown i hi e j (by omega)).trans ?_;have h3:Eqm p (M (if i=i0 then J.length else i) j - M (if i=i0 then J.length else i) c * (b * M i0 j)) (M (if i=i0 then J.length else i) j):=by
     have h4:=z1 (-(M (if i=i0 then J.length else i) c * b));have h5:=(Eqm.refl (M (if i=i0 then J.length else i) j)).add h4;rw[Int.add_zero] at h5;refine (Eqm.of ?_).trans h5;rw[Int.neg_mul,Int.mul_assoc];omega
    refine h3.trans ?_;by_cases e0:i=i0
    ·rw[if_pos e0,if_neg (by omega)];exact h.low J.length (Nat.le_refl _) hr j hjc
    ·rw[if_neg e0];exact h.piv k j hk i hi
  ·have hk2:k=J.length∧j=c:=by
    rw[List.getElem?_append_right (by omega)] at hk;cases hd:k - J.length with
    | zero=>rw[hd] at hk; simp at hk; exact⟨by omega,hk.symm⟩
    | succ d=>rw[hd] at hk; simp at hk
   obtain ⟨rfl,rfl⟩:=hk2;exact colc i hi
 ·rw[List.length_append,List.length_singleton] at hi1;by_cases e:j=c
  ·subst e;have:=colc i hi2;rwa [if_neg (by omega)] at this
  ·have hjc:j<c:=by omega
   have z0:Eqm p (M i0 j) 0:=h.low i0 h1 h2 j hjc;refine (rown i hi2 (by omega) j (by omega)).trans ?_;have h4:=(Eqm.refl (-(M (if i=i0 then J.length else i) c * b))).mul z0;rw[Int.mul_zero] at h4;have h6:Eqm p (M (if i=i0 then J.length else i) j) 0:=h.low _ (by split <;> omega) (hsw i hi2) j hjc;have h5:=h6.add h4;refine (Eqm.of ?_).trans h5;rw[Int.neg_mul,Int.mul_assoc];omega
theorem Bg {f:Nat→Int}(w:Nat→Int){r m:Nat}(hr:r≤m)(h:∀ a,r≤a→a<m→Eqm p (f a) 0):Eqm p (aA (List.range m) fun a=>w a * f a) (aA (List.range r) fun a=>w a * f a):=by
 induction m with
 | zero=>rw[show r=0 by omega]; exact .refl _
 | succ m ih =>
  by_cases e:r=m+1
  ·rw[e]; exact .refl _
  ·rw[List.range_succ,iL,cV,jF];have h1:=(Eqm.refl (w m)).mul (h m (by omega) (by omega));rw[Int.mul_zero] at h1;have h2:=(ih (by omega) fun a k1 k2=>h a k1 (by omega)).add h1;rw[Int.add_zero] at h2;rwa [Int.add_zero]
theorem md.rank {A M:Nat→Nat→Int}{m n:Nat}{J:List Nat}(h:md p A m n M J n):dy p A m n J.length:=by
 have hb:∀ i,∃ w:Nat→Int,i<m→∀ j,j<n→Eqm p (A i j) (aA (List.range m) fun a=>w a * M a j):=fun i=>by
  by_cases hi:i<m
  ·obtain ⟨w,hw⟩:=h.bwd i hi;exact⟨w,fun _=>hw⟩
  ·exact⟨fun _=>0,fun k=>absurd k hi⟩
 have hf:∀ i,∃ w:Nat→Int,i<m→∀ j,j<n→Eqm p (M i j) (aA (List.range m) fun a=>w a * A a j):=fun i=>by
  by_cases hi:i<m
  ·obtain ⟨w,hw⟩:=h.fwd i hi;exact⟨w,fun _=>hw⟩
  ·exact⟨fun _=>0,fun k=>absurd k hi⟩
 refine⟨⟨fun i=>(hb i).choose,M,fun i hi j hj=>?_⟩,⟨fun i=>(hf i).choose,fun b k=>if J[k]?=some b then 1 else 0,fun i hi k hk=>?_⟩⟩
 ·refine ((hb i).choose_spec hi j hj).trans ?_;exact Bg _ h.len fun a h1 h2=>h.low a h1 h2 j hj
 ·obtain ⟨jc,hjc⟩:∃ jc,J[k]?=some jc:=⟨J[k],List.getElem?_eq_getElem hk⟩;have hjn:jc<n:=h.col jc (List.mem_of_getElem? hjc);have him:i<m:=by have:=h.len; omega
  have e:∀ a,(aA (List.range n) fun b=>A a b * (if J[k]?=some b then 1 else 0))=A a jc:=fun a=>by
   rw[hjc];rw[ag (g:=fun b=>(if jc=b then 1 else 0) * A a b) (fun b _=>by rw[Int.mul_comm]; congr 1; by_cases q:jc=b <;> simp[q])];exact fx n jc hjn _
  simp only[e];exact ((hf i).choose_spec him jc hjn).symm.trans (h.piv k jc hjc i him)
theorem dy.same (hp:Fld p){A:Nat→Nat→Int}{m n r r':Nat}(h:dy p A m n r)(h':dy p A m n r'):r=r':=by
 have key:∀ i,i<m→∀ j,j<n→Eqm p (A i j) (aA (List.range m) fun a=>(if i=a then 1 else 0) * aA (List.range n) fun b=>A a b * (if j=b then 1 else 0)):=fun i hi j hj=>by
  rw[fx m i hi,ag (g:=fun b=>(if j=b then 1 else 0) * A i b) (fun b _=>Int.mul_comm _ _),fx n j hj];exact .refl _
 exact Nat.le_antisymm (h'.le hp h key) (h.le hp h' key)
end
end Go.Pl
namespace Go.Pl
section
variable {p:Int}
def bh (k:Nat)(A B:Nat→Nat→Int):Nat→Nat→Int:=fun i j=>aA (List.range k) fun t=>A i t * B t j
def Meq (p:Int)(m n:Nat)(A B:Nat→Nat→Int):Prop:=∀ i,i<m→∀ j,j<n→Eqm p (A i j) (B i j)
def l9:Nat→Nat→Int:=fun i j=>if i=j then 1 else 0
theorem cX (k l:Nat)(A B C:Nat→Nat→Int):bh l (bh k A B) C=bh k A (bh l B C):=by
 funext i j;unfold bh;have e:∀ t,(aA (List.range k) fun u=>A i u * B u t) * C t j=aA (List.range k) fun u=>A i u * (B u t * C t j):=fun t=>by
  rw[← e8];exact ag fun u _=>Int.mul_assoc _ _ _
 simp only[e];rw[e7];exact ag fun u _=>cN _ _ _
theorem Meq.refl {m n:Nat}(A:Nat→Nat→Int):Meq p m n A A:=fun _ _ _ _=>.refl _
theorem Meq.of {m n:Nat}{A B:Nat→Nat→Int}(h:A=B):Meq p m n A B:=by rw[h]; exact .refl B
theorem Meq.symm {m n:Nat}{A B:Nat→Nat→Int}(h:Meq p m n A B):Meq p m n B A:=fun i hi j hj=>(h i hi j hj).symm
theorem Meq.trans {m n:Nat}{A B C:Nat→Nat→Int}(h:Meq p m n A B)(k:Meq p m n B C):Meq p m n A C:=fun i hi j hj=>(h i hi j hj).trans (k i hi j hj)
theorem Meq.mul {m n k:Nat}{A A' B B':Nat→Nat→Int}(h:Meq p m k A A')(g:Meq p k n B B'):Meq p m n (bh k A B) (bh k A' B'):=fun i hi j hj =>
 Eqm.sum fun t ht=>(h i hi t (List.mem_range.1 ht)).mul (g t (List.mem_range.1 ht) j hj)
theorem nD {m n:Nat}(A:Nat→Nat→Int):Meq p m n (bh m l9 A) A:=fun i hi j _=>Eqm.of (fx m i hi fun t=>A t j)
theorem sj {m n:Nat}(A:Nat→Nat→Int):Meq p m n (bh n A l9) A:=fun i _ j hj=>by
 refine Eqm.of ?_;unfold bh l9;rw[ag (g:=fun b=>(if j=b then 1 else 0) * A i b) (fun b _=>by
  rw[Int.mul_comm];by_cases q:j=b
  ·rw[if_pos q.symm,if_pos q]
  ·rw[if_neg (fun e=>q e.symm),if_neg q])]
 exact fx n j hj _
theorem qD (r s:Nat)(f:Nat→Int):aA (List.range (r+s)) f=aA (List.range r) f+aA (List.range s) fun t=>f (r+t):=by
 induction s with
 | zero=>simp[aA]
 | succ s ih =>
  rw[← Nat.add_assoc,List.range_succ,iL,ih,List.range_succ,iL];simp only[cV,jF];omega
theorem lf {A:Nat→Nat→Int}{m n r:Nat}:dy p A m n r↔(∃ X Y,Meq p m n A (bh r X Y))∧∃ L R,Meq p r r (bh m L (bh n A R)) l9 :=
 ⟨fun h=>⟨h.thru,h.one⟩,fun h=>⟨h.1,h.2⟩⟩
def fe (m:Nat)(A B:Nat→Nat→Int):Nat→Nat→Int:=fun i j=>if i<m then A i j else B (i - m) j
def eL (n:Nat)(A B:Nat→Nat→Int):Nat→Nat→Int:=fun i j=>if j<n then A i j else B i (j - n)
theorem si (k m:Nat)(A B C:Nat→Nat→Int):bh k (fe m A B) C=fe m (bh k A C) (bh k B C):=by
 funext i j;unfold bh fe;split <;> rfl
theorem rO (k n:Nat)(A B C:Nat→Nat→Int):bh k A (eL n B C)=eL n (bh k A B) (bh k A C):=by
 funext i j;unfold bh eL;split <;> rfl
theorem ln (r s:Nat)(A B C D:Nat→Nat→Int):bh (r+s) (eL r A B) (fe r C D)=fun i j=>bh r A C i j+bh s B D i j:=by
 funext i j;unfold bh;rw[qD];congr 1
 ·refine ag fun t ht=>?_;have:=List.mem_range.1 ht;unfold eL fe;rw[if_pos this,if_pos this]
 ·refine ag fun t _=>?_;unfold eL fe;rw[if_neg (by omega),if_neg (by omega),Nat.add_sub_cancel_left]
theorem Meq.over {m k n:Nat}{A A' B B':Nat→Nat→Int}(h:Meq p m n A A')(g:Meq p k n B B'):Meq p (m+k) n (fe m A B) (fe m A' B'):=fun i hi j hj=>by
 unfold fe;split
 ·rename_i h1;exact h i h1 j hj
 ·exact g (i - m) (by omega) j hj
theorem Meq.bes {m n l:Nat}{A A' B B':Nat→Nat→Int}(h:Meq p m n A A')(g:Meq p m l B B'):Meq p m (n+l) (eL n A B) (eL n A' B'):=fun i hi j hj=>by
 unfold eL;split
 ·rename_i h1;exact h i hi j h1
 ·exact g i hi (j - n) (by omega)
def cR:Nat→Nat→Int:=fun _ _=>0
def sY (A B:Nat→Nat→Int):Nat→Nat→Int:=fun i j=>A i j+B i j
def qw (A:Nat→Nat→Int):Nat→Nat→Int:=fun i j=>-A i j
theorem xU (k:Nat)(A B:Nat→Nat→Int):bh k (qw A) B=qw (bh k A B):=by
 funext i j;unfold bh qw;rw[ag (g:=fun t=>(-1) * (A i t * B t j)) (fun t _=>by rw[Int.neg_mul]; omega),cN];show -1 * _ = - aA _ _;omega
theorem jx (k:Nat)(A:Nat→Nat→Int):bh k A cR=cR:=by
 funext i j;unfold bh cR;rw[ag (g:=fun _=>0) (fun t _=>Int.mul_zero _),fW]
theorem Meq.add {m n:Nat}{A A' B B':Nat→Nat→Int}(h:Meq p m n A A')(g:Meq p m n B B'):Meq p m n (sY A B) (sY A' B'):=fun i hi j hj=>(h i hi j hj).add (g i hi j hj)
theorem Meq.neg {m n:Nat}{A A':Nat→Nat→Int}(h:Meq p m n A A'):Meq p m n (qw A) (qw A'):=fun i hi j hj=>by
 have:=(Eqm.refl (-1)).mul (h i hi j hj);refine (Eqm.of ?_).trans (this.trans (Eqm.of ?_))<;>unfold qw <;> omega
theorem Ac (r s:Nat):Meq p (r+s) (r+s) (fe r (eL r l9 cR) (eL r cR l9)) l9:=fun i _ j _=>by
 refine Eqm.of ?_;unfold fe eL l9 cR;by_cases h1:i<r <;> by_cases h2:j<r <;> simp only[h1,h2,if_true,if_false] <;> split <;> (try split)<;>omega
theorem pg (A:Nat→Nat→Int):sY A cR=A:=by funext i j; simp[sY,cR]
theorem EZ (A:Nat→Nat→Int):sY A (qw A)=cR:=by
 funext i j;show A i j + -A i j=0;omega
theorem EV (k:Nat)(A B C:Nat→Nat→Int):bh k (sY A B) C=sY (bh k A C) (bh k B C):=by
 funext i j;unfold bh sY;rw[← ld];exact ag fun t _=>Int.add_mul _ _ _
theorem xV (k:Nat)(A B C:Nat→Nat→Int):bh k A (sY B C)=sY (bh k A B) (bh k A C):=by
 funext i j;unfold bh sY;rw[← ld];exact ag fun t _=>Int.mul_add _ _ _
theorem D6 (k:Nat)(A B:Nat→Nat→Int):bh k A (qw B)=qw (bh k A B):=by
 funext i j;unfold bh qw;rw[ag (g:=fun t=>(-1) * (A i t * B t j)) (fun t _=>by rw[Int.mul_neg]; omega),cN];show -1 * _ = - aA _ _;omega
theorem oC (k:Nat)(A:Nat→Nat→Int):bh k cR A=cR:=by
 funext i j;unfold bh cR;rw[ag (g:=fun _=>0) (fun t _=>Int.zero_mul _),fW]
structure Red (p:Int)(M:Nat→Nat→Int)(m n r:Nat)(X E L R:Nat→Nat→Int):Prop where
 thru:Meq p m n M (bh r X E)
 rows:Meq p r n (bh m L M) E
 one:Meq p r r (bh n E R) l9
def nV (r:Nat)(E R:Nat→Nat→Int):Nat→Nat→Int:=sY l9 (qw (bh r R E))
section
variable {M X E L R:Nat→Nat→Int}{m n r:Nat}(h:Red p M m n r X E L R)
include h
theorem Red.rank:dy p M m n r:=lf.2 ⟨⟨X,E,h.thru⟩,L,R,by
 rw[← cX];exact (h.rows.mul (.refl _)).trans h.one⟩
theorem Red.nul:Meq p r n (bh n E (nV r E R)) cR:=by
 unfold nV;rw[xV,D6,← cX];refine ((sj E).add ((h.one.mul (.refl E)).trans (nD E)).neg).trans (.of (EZ E))
theorem Red.zero:Meq p m n (bh n M (nV r E R)) cR:=by
 refine (h.thru.mul (.refl _)).trans ?_;rw[cX];refine ((Meq.refl X).mul h.nul).trans (.of (jx r X))
theorem Red.stay {k:Nat}{T:Nat→Nat→Int}(hT:Meq p m k (bh n M T) cR):Meq p n k (bh n (nV r E R) T) T:=by
 have h1:Meq p r k (bh n E T) cR:=by
  refine (h.rows.symm.mul (.refl T)).trans ?_;rw[cX];exact ((Meq.refl L).mul hT).trans (.of (jx m L))
 unfold nV;rw[EV,xU,cX];refine ((nD T).add (((Meq.refl R).mul h1).trans (.of (jx r R))).neg).trans (.of ?_);rw[show qw cR=cR from by funext i j; simp[qw,cR],pg]
theorem Red.over {P:Nat→Nat→Int}{k s:Nat}(hs:dy p (bh n P (nV r E R)) k n s):dy p (fe m M P) (m+k) n (r+s):=by
 obtain ⟨⟨X2,Y2,hXY⟩,L2,R2,hLR⟩:=lf.1 hs;have hsum:Meq p n n (sY (bh r R E) (nV r E R)) l9:=.of (by
  funext i j;show bh r R E i j+(l9 i j + -bh r R E i j)=l9 i j;omega)
 have hP:Meq p k n P (sY (bh r (bh n P R) E) (bh s X2 Y2)):=by
  refine (sj P).symm.trans ?_;refine ((Meq.refl P).mul hsum.symm).trans ?_;rw[xV,← cX];exact (Meq.refl _).add hXY
 refine lf.2 ⟨⟨fe m (eL r X cR) (eL r (bh n P R) X2),fe r E Y2,?_⟩,fe r (eL m L cR) (eL m (qw (bh r (bh k L2 (bh n P R)) L)) L2),eL r R (bh n (nV r E R) R2),?_⟩
 ·rw[si,ln,ln];refine Meq.over ?_ ?_
  ·refine h.thru.trans (.of ?_);rw[oC];exact (pg _).symm
  ·exact hP
 ·rw[si,si,ln,ln];have hE:Meq p r (r+s) (bh m L (bh n M (eL r R (bh n (nV r E R) R2)))) (eL r l9 cR):=by
   rw[← cX];refine (h.rows.mul (.refl _)).trans ?_;rw[rO];refine Meq.bes h.one ?_;rw[← cX];exact (h.nul.mul (.refl R2)).trans (.of (oC n R2))
  refine Meq.trans (Meq.over (A':=eL r l9 cR) (B':=eL r cR l9) ?_ ?_) (Ac r s)
  ·rw[oC];exact (Meq.of (pg _)).trans hE
  ·have h1:Meq p s (r+s) (bh m (qw (bh r (bh k L2 (bh n P R)) L)) (bh n M (eL r R (bh n (nV r E R) R2)))) (qw (eL r (bh k L2 (bh n P R)) cR)):=by
    rw[xU,cX];refine Meq.neg (((Meq.refl _).mul hE).trans ?_);rw[rO,jx];exact Meq.bes (sj _) (.refl _)
   have h2:Meq p s (r+s) (bh k L2 (bh n P (eL r R (bh n (nV r E R) R2)))) (eL r (bh k L2 (bh n P R)) l9):=by
    rw[rO,rO];refine Meq.bes (.refl _) ?_;rw[← cX n n P];exact hLR
   refine (Meq.add h1 h2).trans (.of ?_);funext i j;show -(eL r (bh k L2 (bh n P R)) cR i j)+eL r (bh k L2 (bh n P R)) l9 i j=eL r cR l9 i j;unfold eL cR;split <;> omega
end
theorem md.red {A M:Nat→Nat→Int}{m n:Nat}{J:List Nat}(h:md p A m n M J n):∃ X L R,Red p A m n J.length X M L R:=by
 have hb:∀ i,∃ w:Nat→Int,i<m→∀ j,j<n→Eqm p (A i j) (aA (List.range m) fun a=>w a * M a j):=fun i=>by
  by_cases hi:i<m
  ·obtain ⟨w,hw⟩:=h.bwd i hi;exact⟨w,fun _=>hw⟩
  ·exact⟨fun _=>0,fun k=>absurd k hi⟩
 have hf:∀ i,∃ w:Nat→Int,i<m→∀ j,j<n→Eqm p (M i j) (aA (List.range m) fun a=>w a * A a j):=fun i=>by
  by_cases hi:i<m
  ·obtain ⟨w,hw⟩:=h.fwd i hi;exact⟨w,fun _=>hw⟩
  ·exact⟨fun _=>0,fun k=>absurd k hi⟩
 refine⟨fun i=>(hb i).choose,fun i=>(hf i).choose,fun b k=>if J[k]?=some b then 1 else 0,⟨fun i hi j hj=>?_,fun i hi j hj=>?_,fun i hi k hk=>?_⟩⟩
 ·exact ((hb i).choose_spec hi j hj).trans (Bg _ h.len fun a h1 h2=>h.low a h1 h2 j hj)
 ·exact ((hf i).choose_spec (by have:=h.len; omega) j hj).symm
 ·obtain ⟨jc,hjc⟩:∃ jc,J[k]?=some jc:=⟨J[k],List.getElem?_eq_getElem hk⟩;have hjn:jc<n:=h.col jc (List.mem_of_getElem? hjc);have e:bh n M (fun b k=>if J[k]?=some b then 1 else 0) i k=M i jc:=by
   show (aA (List.range n) fun t=>M i t * (if J[k]?=some t then 1 else 0))=_;rw[hjc];rw[ag (g:=fun b=>(if jc=b then 1 else 0) * M i b) (fun b _=>by rw[Int.mul_comm]; congr 1; by_cases q:jc=b <;> simp[q])];exact fx n jc hjn _
  rw[e];exact h.piv k jc hjc i (by have:=h.len; omega)
end
end Go.Pl
namespace Go.Pl
theorem uo {p:Int}(h:p=2∨p=3∨p=5∨p=7):Fld p:=by
 refine⟨fun h1=>?_,fun a ha=>?_⟩
 ·obtain ⟨k,hk⟩:=h1
  rcases h with rfl | rfl | rfl | rfl <;> omega
 ·rcases h with rfl | rfl | rfl | rfl
  ·have:a % 2≠0:=fun e=>ha ⟨a / 2,by omega⟩;exact⟨1,⟨a / 2,by omega⟩⟩
  ·have:a % 3≠0:=fun e=>ha ⟨a / 3,by omega⟩;by_cases h1:a % 3=1
   ·exact⟨1,⟨a / 3,by omega⟩⟩
   ·exact⟨2,⟨a / 3 * 2+1,by omega⟩⟩
  ·have:a % 5≠0:=fun e=>ha ⟨a / 5,by omega⟩;by_cases h1:a % 5=1
   ·exact⟨1,⟨a / 5,by omega⟩⟩
   by_cases h2:a % 5=2
   ·exact⟨3,⟨a / 5 * 3+1,by omega⟩⟩
   by_cases h3:a % 5=3
   ·exact⟨2,⟨a / 5 * 2+1,by omega⟩⟩
   ·exact⟨4,⟨a / 5 * 4+3,by omega⟩⟩
  ·have:a % 7≠0:=fun e=>ha ⟨a / 7,by omega⟩;by_cases h1:a % 7=1
   ·exact⟨1,⟨a / 7,by omega⟩⟩
   by_cases h2:a % 7=2
   ·exact⟨4,⟨a / 7 * 4+1,by omega⟩⟩
   by_cases h3:a % 7=3
   ·exact⟨5,⟨a / 7 * 5+2,by omega⟩⟩
   by_cases h4:a % 7=4
   ·exact⟨2,⟨a / 7 * 2+1,by omega⟩⟩
   by_cases h5:a % 7=5
   ·exact⟨3,⟨a / 7 * 3+2,by omega⟩⟩
   ·exact⟨6,⟨a / 7 * 6+5,by omega⟩⟩
section
variable {p:Int}
theorem Eqm.neg {a b:Int}(h:Eqm p a b):Eqm p (-a) (-b):=by
 have:=(Eqm.refl (-1)).mul h;refine (Eqm.of ?_).trans (this.trans (Eqm.of ?_))<;>omega
theorem Eqm.sub {a b c d:Int}(h:Eqm p a b)(k:Eqm p c d):Eqm p (a - c) (b - d):=by
 have:=h.add k.neg;rwa [← Int.sub_eq_add_neg,← Int.sub_eq_add_neg] at this
theorem yt (hp:Fld p)(A:Nat→Nat→Int)(m n:Nat):∀ c,c≤n→∃ M J,md p A m n M J c
 | 0,_=>⟨A,[],.start A m n⟩
 | c+1,hc=>by
  obtain ⟨M,J,h⟩:=yt hp A m n c (by omega);by_cases h0:∀ i,J.length≤i→i<m→Eqm p (M i c) 0
  ·exact⟨M,J,h.none h0⟩
  ·have ⟨i0,h1,h2,h3⟩:∃ i0,J.length≤i0∧i0<m∧¬ Eqm p (M i0 c) 0:=by
    apply Classical.byContradiction;intro k;exact h0 fun i a b=>Classical.byContradiction fun e=>k ⟨i,a,b,e⟩
   obtain ⟨b,hb⟩:=hp.2 _ h3;rw[Int.mul_comm] at hb;exact⟨fun i j=>if i=J.length then b * M i0 j else M (if i=i0 then J.length else i) j - M (if i=i0 then J.length else i) c * (b * M i0 j),J++[c],h.pivot (by omega) h1 h2 hb fun i _ j _=>.refl _⟩
theorem rM (hp:Fld p)(A:Nat→Nat→Int)(m n:Nat):∃ r X E L R,Red p A m n r X E L R:=by
 obtain ⟨M,J,h⟩:=yt hp A m n n (Nat.le_refl _);obtain ⟨X,L,R,h1⟩:=h.red;exact⟨_,X,M,L,R,h1⟩
open Classical in
noncomputable def rk (p:Int) (A:Nat→Nat→Int) (m n:Nat):Nat:=if h:∃ r,dy p A m n r then h.choose else 0
theorem qi (hp:Fld p){A:Nat→Nat→Int}{m n r:Nat}(h:dy p A m n r):rk p A m n=r:=by
 have h1:∃ r,dy p A m n r:=⟨r,h⟩;unfold rk;rw[dif_pos h1];exact dy.same hp h1.choose_spec h
theorem uO (hp:Fld p)(A:Nat→Nat→Int)(m n:Nat):dy p A m n (rk p A m n):=by
 obtain ⟨r,X,E,L,R,h⟩:=rM hp A m n;rw[qi hp h.rank];exact h.rank
theorem dy.congr {A B:Nat→Nat→Int}{m n r:Nat}(h:dy p A m n r)(e:Meq p m n A B):dy p B m n r:=by
 obtain ⟨⟨X,Y,h1⟩,L,R,h2⟩:=lf.1 h;exact lf.2 ⟨⟨X,Y,e.symm.trans h1⟩,L,R,((Meq.refl L).mul (e.symm.mul (.refl R))).trans h2⟩
theorem fy (hp:Fld p){A B:Nat→Nat→Int}{m n:Nat}(e:Meq p m n A B):rk p A m n=rk p B m n:=(qi hp ((uO hp B m n).congr e.symm))
theorem A5 (hp:Fld p)(A:Nat→Nat→Int)(m n:Nat):rk p (fun i j=>A j i) n m=rk p A m n:=qi hp (uO hp A m n).turn
theorem md.rk (hp:Fld p){A M:Nat→Nat→Int}{m n:Nat}{J:List Nat}(h:md p A m n M J n):Pl.rk p A m n=J.length:=qi hp h.rank
theorem oE (hp:Fld p){A B U V:Nat→Nat→Int}{m n m' n':Nat}(h:Meq p m' n' B (bh m U (bh n A V))):rk p B m' n'≤rk p A m n :=
 (uO hp A m n).le hp (uO hp B m' n') (U:=U) (V:=V) h
theorem vD (hp:Fld p)(A:Nat→Nat→Int)(m n:Nat):rk p A m n≤n:=by
 obtain ⟨X,Y,h⟩:=(uO hp A m n).thru;obtain ⟨L,R,k⟩:=(uO hp A m n).one;refine Fc hp (X:=fun i b=>aA (List.range m) fun a=>L i a * A a b) (Y:=R) fun i hi j hj=>?_;refine (Eqm.of ?_).trans (k i hi j hj);have e:∀ t,(aA (List.range m) fun a=>L i a * A a t) * R t j=aA (List.range m) fun a=>L i a * (A a t * R t j):=fun t=>by
  rw[← e8];exact ag fun a _=>Int.mul_assoc _ _ _
 simp only[e];rw[e7];exact ag fun a _=>cN _ _ _
theorem jn (hp:Fld p)(A:Nat→Nat→Int)(m n:Nat):rk p A m n≤m:=by
 rw[← A5 hp];exact vD hp _ _ _
def mx {α β:Type}(R:List α)(C:List β)(e:α→β→Int):Nat→Nat→Int:=fun i j=>match R[i]?,C[j]? with
 | some r,some c=>e r c
 | _,_=>0
noncomputable def rkL {α β:Type} (p:Int) (R:List α) (C:List β) (e:α→β→Int):Nat:=rk p (mx R C e) R.length C.length
theorem nm {α β:Type}{R:List α}{C:List β}{e:α→β→Int}{i j:Nat}{r:α}{c:β}(hr:R[i]?=some r)(hc:C[j]?=some c):mx R C e i j=e r c:=by
 unfold mx;rw[hr,hc]
theorem BO (n i:Nat)(h:i<n)(f:Nat→Int):(aA (List.range n) fun k=>f k * (if k=i then 1 else 0))=f i:=by
 rw[ag (g:=fun b=>(if i=b then 1 else 0) * f b) (fun b _=>by
  rw[Int.mul_comm];congr 1;by_cases q:i=b <;> simp[q,eq_comm])]
 exact fx n i h f
theorem F7 (hp:Fld p){A B:Nat→Nat→Int}{m n m' n':Nat}(f g:Nat→Nat)(u v:Nat→Int)(hf:∀ i,i<m'→f i<m)(hg:∀ j,j<n'→g j<n)(h:∀ i,i<m'→∀ j,j<n'→Eqm p (B i j) (u i * (A (f i) (g j) * v j))):rk p B m' n'≤rk p A m n:=by
 refine oE hp (U:=fun i a=>if f i=a then u i else 0) (V:=fun b j=>(if b=g j then 1 else 0) * v j) fun i hi j hj=>?_;refine (h i hi j hj).trans (Eqm.of ?_);unfold bh;have e1:∀ a,(aA (List.range n) fun b=>A a b * ((if b=g j then 1 else 0) * v j))=A a (g j) * v j:=fun a=>by
  rw[ag (g:=fun b=>(A a b * (if b=g j then 1 else 0)) * v j) (fun b _=>(Int.mul_assoc _ _ _).symm),e8,BO n (g j) (hg j hj)]
 simp only[e1];rw[ag (g:=fun a=>(if f i=a then 1 else 0) * (u i * (A a (g j) * v j))) (fun a _=>by split <;> simp),fx m (f i) (hf i hi)]
theorem AB (hp:Fld p){α β α' β':Type}{R:List α}{C:List β}{R':List α'}{C':List β'}{e:α→β→Int}{e':α'→β'→Int}(f:α'→α)(g:β'→β)(u:α'→Int)(v:β'→Int)(hf:∀ r∈R',f r∈R)(hg:∀ c∈C',g c∈C)(h:∀ r∈R',∀ c∈C',Eqm p (e' r c) (u r * (e (f r) (g c) * v c))):rkL p R' C' e'≤rkL p R C e:=by
 have hF:∀ i:Nat,∃ k:Nat,∀ r,R'[i]?=some r→k<R.length∧R[k]?=some (f r):=fun i=>by
  cases hr:R'[i]? with
  | none=>exact⟨0,fun r hr=>by cases hr⟩
  | some r =>
   obtain ⟨k,hk,e⟩:=List.mem_iff_getElem.1 (hf r (List.mem_of_getElem? hr));exact⟨k,fun r1 h1=>by cases h1; exact⟨hk,by rw[List.getElem?_eq_getElem hk,e]⟩⟩
 have hG:∀ j:Nat,∃ k:Nat,∀ c,C'[j]?=some c→k<C.length∧C[k]?=some (g c):=fun j=>by
  cases hc:C'[j]? with
  | none=>exact⟨0,fun c hc=>by cases hc⟩
  | some c =>
   obtain ⟨k,hk,e⟩:=List.mem_iff_getElem.1 (hg c (List.mem_of_getElem? hc));exact⟨k,fun c1 h1=>by cases h1; exact⟨hk,by rw[List.getElem?_eq_getElem hk,e]⟩⟩
 refine F7 hp (fun i=>(hF i).choose) (fun j=>(hG j).choose) (fun i=>(R'[i]?).elim 0 u) (fun j=>(C'[j]?).elim 0 v) (fun i hi=>?_) (fun j hj=>?_) fun i hi j hj=>?_
 ·exact ((hF i).choose_spec _ (List.getElem?_eq_getElem hi)).1
 ·exact ((hG j).choose_spec _ (List.getElem?_eq_getElem hj)).1
 ·have hr:R'[i]?=some R'[i]:=List.getElem?_eq_getElem hi;have hc:C'[j]?=some C'[j]:=List.getElem?_eq_getElem hj;have h1:=((hF i).choose_spec _ hr).2;have h2:=((hG j).choose_spec _ hc).2;rw[nm hr hc,nm h1 h2,hr,hc];exact h _ (List.getElem_mem hi) _ (List.getElem_mem hj)
theorem j9 (hp:Fld p){α β:Type}{R R':List α}{C C':List β}{e:α→β→Int}(hR:∀ r,r∈R↔r∈R')(hC:∀ c,c∈C↔c∈C'):rkL p R C e=rkL p R' C' e:=by
 have key:∀ (e:α→β→Int) r c,Eqm p (e r c) (1 * (e r c * 1)):=fun e r c=>.of (by omega);exact Nat.le_antisymm (AB hp id id (fun _=>1) (fun _=>1) (fun r h=>(hR r).1 h) (fun c h=>(hC c).1 h) fun r _ c _=>key e r c) (AB hp id id (fun _=>1) (fun _=>1) (fun r h=>(hR r).2 h) (fun c h=>(hC c).2 h) fun r _ c _=>key e r c)
theorem r9 (hp:Fld p){α β:Type}(R:List α)(C:List β)(e:α→β→Int):rkL p C R (fun c r=>e r c)=rkL p R C e:=by
 unfold rkL;rw[← A5 hp];congr 1;funext i j;unfold mx;cases R[i]? <;> cases C[j]? <;> rfl
theorem vE {α β:Type}(R R2:List α)(C:List β)(e:α→β→Int):Meq p (R.length+R2.length) C.length (mx (R++R2) C e) (fe R.length (mx R C e) (mx R2 C e)):=fun i hi j _=>Eqm.of (by
 unfold fe;by_cases h:i<R.length
 ·rw[if_pos h];unfold mx;rw[List.getElem?_append_left h]
 ·rw[if_neg h];unfold mx;rw[List.getElem?_append_right (by omega)])
theorem AE {α β:Type}(R:List α)(C C2:List β)(e:α→β→Int):Meq p R.length (C.length+C2.length) (mx R (C++C2) e) (eL C.length (mx R C e) (mx R C2 e)):=fun i _ j hj=>Eqm.of (by
 unfold eL;by_cases h:j<C.length
 ·rw[if_pos h];unfold mx;rw[List.getElem?_append_left h]
 ·rw[if_neg h];unfold mx;rw[List.getElem?_append_right (by omega)])
theorem vC (hp:Fld p){M P X E L R:Nat→Nat→Int}{m k n r:Nat}(h:Red p M m n r X E L R):rk p (fe m M P) (m+k) n=r+rk p (bh n P (nV r E R)) k n:=qi hp (h.over (uO hp _ _ _))
theorem DP (hp:Fld p)(A B C D:Nat→Nat→Int)(m k n l:Nat):rk p (eL n A B) m (n+l)+rk p (fe m A C) (m+k) n≤rk p (fe m (eL n A B) (eL n C D)) (m+k) (n+l)+rk p A m n:=by
 obtain ⟨r,X,E,L,R,h⟩:=rM hp A m n;obtain ⟨r',X',E',L',R',h'⟩:=rM hp (eL n A B) m (n+l);rw[vC hp h,vC hp h',qi hp h.rank,qi hp h'.rank];have key:rk p (bh n C (nV r E R)) k n≤rk p (bh (n+l) (eL n C D) (nV r' E' R')) k (n+l):=by
  let T:Nat→Nat→Int:=fe n (nV r E R) cR
  have eT:∀ Q S:Nat→Nat→Int,bh (n+l) (eL n Q S) T=bh n Q (nV r E R):=fun Q S=>by
   show bh (n+l) (eL n Q S) (fe n (nV r E R) cR)=_;rw[ln];funext i j;rw[jx];show _+(0:Int)=_;omega
  have hT:Meq p m n (bh (n+l) (eL n A B) T) cR:=by
   rw[eT];exact h.zero
  have h1:=h'.stay hT;refine oE hp (U:=l9) (V:=T) ?_;rw[cX];refine Meq.trans (.of (eT C D).symm) ?_;exact (((Meq.refl (eL n C D)).mul h1).symm).trans (nD _).symm
 omega
theorem B4 (hp:Fld p){α β:Type}(R R2:List α)(C C2:List β)(e:α→β→Int):rkL p R (C++C2) e+rkL p (R++R2) C e≤rkL p (R++R2) (C++C2) e+rkL p R C e:=by
 have h:=DP hp (mx R C e) (mx R C2 e) (mx R2 C e) (mx R2 C2 e) R.length R2.length C.length C2.length;have h3:Meq p (R.length+R2.length) (C.length+C2.length) (mx (R++R2) (C++C2) e) (fe R.length (eL C.length (mx R C e) (mx R C2 e)) (eL C.length (mx R2 C e) (mx R2 C2 e))):=by
  have h4:=vE (p:=p) R R2 (C++C2) e;rw[List.length_append] at h4;exact h4.trans (Meq.over (AE R C C2 e) (AE R2 C C2 e))
 unfold rkL;rw[List.length_append,List.length_append,fy hp (AE R C C2 e),fy hp (vE R R2 C e),fy hp h3];exact h
end
end Go.Pl
namespace Go.Pl
def at2 (M:List (List Int)):Nat→Nat→Int:=fun i j=>(M.getD i []).getD j 0
def Di (m n:Nat)(f:Nat→Nat→Int):List (List Int):=(List.range m).map fun i=>(List.range n).map (f i)
theorem BC {m n:Nat}{f:Nat→Nat→Int}{i j:Nat}(hi:i<m)(hj:j<n):at2 (Di m n f) i j=f i j:=by
 have h1:(Di m n f).getD i []=(List.range n).map (f i):=by
  unfold Di;rw[List.getD_eq_getElem?_getD,List.getElem?_map,List.getElem?_range hi];rfl
 unfold at2;rw[h1,List.getD_eq_getElem?_getD,List.getElem?_map,List.getElem?_range hj];rfl
def Db (p a:Int):Int:=(((List.range p.toNat).find? fun b:Nat=>decide ((b * a) % p=1)).getD 0:Nat)
def Ao (p:Int)(m n:Nat):Nat→Nat→List (List Int)→Nat→Nat
 | 0,_,_,k=>k
 | f+1,c,M,k=>match (List.range m).find? fun i=>decide (k≤i)&&decide (at2 M i c % p≠0) with
  | none=>Ao p m n f (c+1) M k
  | some i0=>Ao p m n f (c+1) (Di m n fun i j=>(if i=k then Db p (at2 M i0 c) * at2 M i0 j else at2 M (if i=i0 then k else i) j - at2 M (if i=i0 then k else i) c * (Db p (at2 M i0 c) * at2 M i0 j)) % p) (k+1)
theorem od (p a:Int):Eqm p (a % p) a:=by
 refine⟨-(a / p),?_⟩;rw[Int.mul_neg];have:=Int.emod_add_mul_ediv a p;omega
theorem sC {p:Int}(hp:Fld p)(hinv:∀ a,a % p≠0→Eqm p (Db p a * a) 1){A:Nat→Nat→Int}{m n:Nat}:∀ (f c:Nat) (M:List (List Int)) (J:List Nat),f+c=n→md p A m n (at2 M) J c→Ao p m n f c M J.length=rk p A m n
 | 0,c,M,J,hc,h=>by
  have:c=n:=by omega
  subst this;exact (h.rk hp).symm
 | f+1,c,M,J,hc,h=>by
  unfold Ao;cases hf:(List.range m).find? fun i=>decide (J.length≤i)&&decide (at2 M i c % p≠0) with
  | none =>
   refine sC hp hinv f (c+1) M J (by omega) (h.none fun i h1 h2=>?_);have:=List.find?_eq_none.1 hf i (List.mem_range.2 h2);simp only[Bool.and_eq_true,decide_eq_true_eq,not_and,Classical.not_not] at this;have h0:=this h1;exact⟨at2 M i c / p,by have:=Int.emod_add_mul_ediv (at2 M i c) p; omega⟩
  | some i0 =>
   have h1:=List.find?_some hf;have h2:=List.mem_range.1 (List.mem_of_find?_eq_some hf);simp only[Bool.and_eq_true,decide_eq_true_eq] at h1;have h3:=h.pivot (M':=at2 (Di m n fun i j=>(if i=J.length then Db p (at2 M i0 c) * at2 M i0 j else at2 M (if i=i0 then J.length else i) j - at2 M (if i=i0 then J.length else i) c * (Db p (at2 M i0 c) * at2 M i0 j)) % p)) (by omega) h1.1 h2 (hinv _ h1.2) fun i hi j hj=>by
    rw[BC hi hj];exact od _ _
   have:=sC hp hinv f (c+1) _ (J++[c]) (by omega) h3;rw[List.length_append,List.length_singleton] at this;exact this
theorem Gq (a:Int)(h:a % 2≠0):Eqm 2 (Db 2 a * a) 1:=by
 have h1:Db 2 a=1:=by
  unfold Db;have:(((1:Nat):Int) * a) % 2=1:=by omega
  have h0:¬ (((0:Nat):Int) * a) % 2=1:=by simp
  rw[show List.range (2:Int).toNat=[0,1] from rfl,List.find?_cons_of_neg (by rw[decide_eq_true_eq]; exact h0),List.find?_cons_of_pos (by rw[decide_eq_true_eq]; exact this)];rfl
 rw[h1];exact⟨a / 2,by omega⟩
def rkF {α β:Type}(R:List α)(C:List β)(e:α→β→Int):Nat:=Ao 2 R.length C.length C.length 0 (Di R.length C.length (mx R C e)) 0
theorem G8 {α β:Type}(R:List α)(C:List β)(e:α→β→Int):rkL 2 R C e=rkF R C e:=by
 have hp:Fld 2:=uo (.inl rfl);unfold rkF rkL;have h1:Meq 2 R.length C.length (mx R C e) (at2 (Di R.length C.length (mx R C e))):=fun i hi j hj=>Eqm.of (BC hi hj).symm;rw[fy hp h1];exact (sC hp Gq C.length 0 _ [] (by omega) (md.start _ _ _)).symm
def gg (p:Int):Bool:=decide (p=2)||decide (p=3)||decide (p=5)||decide (p=7)
end Go.Pl
namespace Go.Pl
section
variable {p:Int}
theorem DN (hp:Fld p)(m n:Nat):rk p cR m n=0:=qi hp ⟨⟨cR,cR,fun i _ j _=>by rw[List.range_zero,jF]; exact .refl _⟩,⟨cR,cR,fun i hi=>absurd hi (Nat.not_lt_zero i)⟩⟩
variable {α β:Type}
end
end Go.Pl
namespace Go.Pl
section
variable {p:Int}{α:Type}
theorem fY {l m:List Int}(h:l.Perm m):l.sum=m.sum:=by
 induction h with
 | nil=>rfl
 | cons a _ ih=>rw[List.sum_cons,List.sum_cons,ih]
 | swap a b l=>rw[List.sum_cons,List.sum_cons,List.sum_cons,List.sum_cons]; omega
 | trans _ _ h1 h2=>rw[h1,h2]
structure Cx (p:Int)(P:List α)(dm:α→Int)(e:α→α→Int):Prop where
 nd:P.Nodup
 deg:∀ x∈P,∀ y∈P,dm y≠dm x - 1→Eqm p (e x y) 0
 dd:∀ x∈P,∀ z∈P,Eqm p (P.map fun y=>e x y * e y z).sum 0
section
variable {P P':List α}{dm:α→Int}{e:α→α→Int}{t s:α}{b:Int}(hp:Fld p)(h:Cx p P dm e)(hP:P.Perm (t::s::P'))(hd:dm s=dm t - 1)(hb:Eqm p (e t s * b) 1)
include hP
include h
include hb
include hp
end
end
end Go.Pl
namespace Go.Pl
section
variable {p:Int}{α β:Type}
theorem nz (hp:Fld p){R:List α}{C:List β}{e:α→β→Int}(h:∀ r∈R,∀ c∈C,Eqm p (e r c) 0):rkL p R C e=0:=by
 unfold rkL;have:Meq p R.length C.length (mx R C e) cR:=fun i hi j hj=>by
  rw[nm (List.getElem?_eq_getElem hi) (List.getElem?_eq_getElem hj)];exact h _ (List.getElem_mem hi) _ (List.getElem_mem hj)
 rw[fy hp this,DN hp]
theorem xN (hp:Fld p)(R R2:List α)(C:List β)(e:α→β→Int):rkL p (R++R2) C e≤rkL p R C e+rkL p R2 C e:=by
 obtain ⟨r,X,E,L,Q,h⟩:=rM hp (mx R C e) R.length C.length;unfold rkL;rw[List.length_append,fy hp (vE R R2 C e),vC hp h,qi hp h.rank];refine Nat.add_le_add_left ?_ r;exact oE hp (U:=l9) (V:=nV r E Q) (nD _).symm
theorem kJ (hp:Fld p){R R2:List α}{C:List β}{e:α→β→Int}(h:∀ r∈R2,∀ c∈C,Eqm p (e r c) 0):rkL p (R++R2) C e=rkL p R C e:=by
 refine Nat.le_antisymm ?_ ?_
 ·have:=xN hp R R2 C e;rw[nz hp h] at this;exact this
 ·exact AB hp id id (fun _=>1) (fun _=>1) (fun r hr=>List.mem_append_left _ hr) (fun c hc=>hc) fun r _ c _=>.of (by simp)
theorem kK (hp:Fld p){R:List α}{C C2:List β}{e:α→β→Int}(h:∀ r∈R,∀ c∈C2,Eqm p (e r c) 0):rkL p R (C++C2) e=rkL p R C e:=by
 rw[← r9 hp R (C++C2) e,← r9 hp R C e];exact kJ hp fun c hc r hr=>h r hr c hc
theorem DS (hp:Fld p){R R2:List α}{C C2:List β}{e:α→β→Int}(h1:∀ r∈R,∀ c∈C2,Eqm p (e r c) 0)(h2:∀ r∈R2,∀ c∈C,Eqm p (e r c) 0):rkL p (R++R2) (C++C2) e=rkL p R C e+rkL p R2 C2 e:=by
 have a1:=xN hp R R2 (C++C2) e;have a2:rkL p R (C++C2) e=rkL p R C e:=kK hp h1;have a3:rkL p R2 (C++C2) e=rkL p R2 C2 e:=by
  rw[j9 hp (R':=R2) (C':=C2++C) (fun r=>Iff.rfl) (fun c=>by simp[or_comm])];exact kK hp h2
 have a4:=B4 hp R R2 C2 C e;have a5:rkL p (R++R2) C2 e=rkL p R2 C2 e:=by
  rw[j9 hp (R':=R2++R) (C':=C2) (fun r=>by simp[or_comm]) (fun c=>Iff.rfl)];exact kJ hp h1
 have a6:rkL p R C2 e=0:=nz hp h1;have a7:rkL p R (C2++C) e=rkL p R C e:=by
  rw[j9 hp (R':=R) (C':=C++C2) (fun r=>Iff.rfl) (fun c=>by simp[or_comm])];exact a2
 have a8:rkL p (R++R2) (C2++C) e=rkL p (R++R2) (C++C2) e:=j9 hp (fun r=>Iff.rfl) (fun c=>by simp[or_comm]);omega
end
end Go.Pl
namespace Go.Sy
open Go
section
variable {P:Program}{N:Nat}{E:World}{dst:Option Tmp}{ty:TypeId}{pos:String}{af:Array Edge}{gd:Option (Nat×Bool)}{f:Fr}{g:PH}{s:Own}
theorem SU.mkFuncB {n:FuncId}{l:List Operand}{vs:List Value}(hl:evs f l=some vs):SU P N ⟨dst,.makeFunc (.func n) l.toArray #[],ty,pos,af,gd⟩ f (.func (.func n) vs.toArray #[]):=fun a w ha=>by
 simp[execOp,Instr.makeFunc,ha.evs hl]
def Dg (P:Program)(E:World)(v:Value)(args:List Value)(g:PH)(s:Own)(R:Value→PH→Own→Prop):Prop :=
 ∃ n fst,v = .func (.func n) fst #[]∧(∀ args w,(callFunc n args).run P w = .ok (.enter n args) w)∧Ctr P E n (fst++args.toArray) g s R
theorem SO.callB {x:Operand}{l:List Operand}{tys:Array TypeId}{v:Value}{vs:List Value}{R:Value→PH→Own→Prop}(hx:ev f x=some v)(hl:evs f l=some vs)(hc:Dg P E v vs g s R) :
  SO P N E ⟨dst,.call ⟨.value x,l.toArray,tys⟩,ty,pos,af,gd⟩ f g s R:=by
 intro a w ha hw Q next hn;obtain ⟨n,fst,rfl,hcall,hfn⟩:=hc;unfold Oper.wp;have hr:(execOp a.eval ⟨dst,.call ⟨.value x,l.toArray,tys⟩,ty,pos,af,gd⟩).run P w = .ok (.enter n (fst++vs.toArray)) w:=by
  simp[execOp,resolve,ha.ev hx,Deferred.ofValue,invoke,hcall,ha.evs hl]
 rw[hr];refine (hfn w hw).mono fun e w' he=>?_;obtain ⟨u,g',s',rfl,hw',hR⟩:=he;exact hn u g' s' w' hR hw'
theorem SU.minF {x y:Operand}{T U:TypeId}{m n:Int}(hx:ev f x=some (vi m))(hy:ev f y=some (vi n)) :
  SU P N ⟨dst,.call ⟨.builtin .min,#[x,y],#[T,U]⟩,ty,pos,af,gd⟩ f (vi (min m n)):=fun a w ha=>by
 have h:=run_min_int2 (P:=P) (w:=w) #[T,U] ty .i64 .i64 m n;have h2:(if n<m then n else m)=min m n:=by split <;> omega
 rw[h2] at h;simp[execOp,resolve,invoke,builtin,ha.ev hx,ha.ev hy,h]
theorem SU.maxF {x y:Operand}{T U:TypeId}{m n:Int}(hx:ev f x=some (vi m))(hy:ev f y=some (vi n)) :
  SU P N ⟨dst,.call ⟨.builtin .max,#[x,y],#[T,U]⟩,ty,pos,af,gd⟩ f (vi (max m n)):=fun a w ha=>by
 have h:=run_max_int2 (P:=P) (w:=w) #[T,U] ty .i64 .i64 m n;have h2:(if m<n then n else m)=max m n:=by split <;> omega
 rw[h2] at h;simp[execOp,resolve,invoke,builtin,ha.ev hx,ha.ev hy,h]
end
end Go.Sy
namespace Go.Proofs.YtkbagdedfdfjhaaGreatDoor
open _root_.Go.Proofs.Tryz _root_.Go.Proofs.YtkbagdedfdfjhaaGreatDoor.Tryz
open Go Go.Sy Go.Pl Go.Proofs
set_option maxRecDepth 100000
def Fp (p:Int):Prop:=p=2∨p=3∨p=5∨p=7
theorem Fp.fld {p:Int}(h:Fp p):Fld p:=uo h
theorem Fp.lt {p:Int}(h:Fp p):2≤p∧p≤7:=by
 rcases h with rfl | rfl | rfl | rfl <;> omega
theorem eR {p:Int}:gg p=true↔Fp p:=by
 unfold gg Fp;simp only[zj1,zj2];omega
theorem mB (E:World)(g:PH)(s:Own)(p:Int)(h2:2≤p)(h9:p<9) :
  Ctr Tryz.prog E 26 #[vi p] g s (fun r g' s'=>r=vb (gg p)∧g=g'∧s=s'):=by
 refine za9 (args:=[vi p]) func26 I ntmps26 (bE I) ?_;refine rZ (aT I (sQ (sW I (lU (SU.eq (v':=vb false) (lS I I) (zd8 vb (zf4 oM))) (lM I (yC I (lY I I I (SU.eq (v':=vb false) (gR I I) (zd8 vb (zf4 oM))) (yF I (tZ (cF I (kP (tN (sQ (rZ (aT I (bK ?_))))))))))))))));refine oP (ι:=Nat) (fun k=>[(0,vi p),(3,vi k)]) (fun _=>g) (fun _=>s) (fun k=>k=2∨(k=3∧(p=5∨p=7))) (fun k=>3 - k) 2 sB I I (.inl I) ?_;rintro k hk;have hk3:(k:Int)=2∨(k:Int)=3∧(p=5∨p=7):=oM;refine sQ (sW rfl (lM rfl (lU (SU.eq (v':=vi ((k:Int) * k)) (SU.mulW rfl rfl) (zd8 vi (zk8 _ (by rcases hk3 with h | ⟨h,_⟩ <;> rw[h] <;> omega)))) ?_)));refine lM I (lU (SU.leq I I) (tZ ?_));refine iP I (fun hle=>?_) (fun hle=>?_)
 ·have hk2:k=2:=by
   rcases hk with h | ⟨h,h'⟩
   ·exact h
   ·subst h;have:(((3:Nat):Int) * ((3:Nat):Int))=9:=rfl;rw[this] at hle;omega
  subst hk2;have h4:4≤p:=by
   have:(((2:Nat):Int) * ((2:Nat):Int))=4:=rfl;rw[this] at hle;omega
  refine kP (tN (sQ (bK (sW I (lM I (lU (SU.eq (v':=vi (p % 2)) (zd4 I I dC) (zd8 vi (by rw[Int.tmod_eq_emod_of_nonneg oM]; rfl))) ?_))))));refine yE I (tZ ?_);refine iP I (fun hr=>?_) (fun hr=>?_)
  ·refine rZ (aT I (rE (bR (tR (tR (bR (tR ?_)))))));have:gg p=false:=by
    rw[Bool.eq_false_iff,Ne,eR];rintro (h | h | h | h)<;>omega
   rw[this];exact za6 (.inl I) results26 I ⟨I,I,I⟩
  ·refine kP (bN (tN (rG (lM I (yD I (lA I (nL ?_)))))));exact gA 3 sB I I (.inr ⟨I,oM⟩) dC
 ·refine xI (tX (tX (bX (tN (rZ (aT I (rE ?_)))))));have hp:gg p=true:=by
   rw[eR]
   rcases hk with h | ⟨h,h'⟩
   ·subst h;have:(((2:Nat):Int) * ((2:Nat):Int))=4:=rfl;rw[this] at hle;unfold Fp;omega
   ·unfold Fp;omega
  rw[hp];exact za6 (.inl I) results26 I ⟨I,I,I⟩
theorem rv (E:World)(g:PH)(s:Own)(p:Int)(hp:Fp p)(R C:Nat)(hr:R≤400)(hc:C≤400) :
  Ctr Tryz.prog E 117 #[vi p,vi R,vi C] g s (fun x g' s'=>x=vb true∧g=g'∧s=s'):=by
 have hl:=hp.lt;have hps:gg p=true:=eR.2 hp;refine za9 (args:=[vi p,vi R,vi C]) func117 I ntmps117 (bE I) ?_;refine rZ (aT I (sW I (lW (cL call26 I (by have:=mB E g s p oM oM; rw[hps] at this; exact this)) ?_)));rintro _ _ _ ⟨rfl,rfl,rfl⟩;refine lM I (yC I (yC I (lY I I I (SU.minF I I) (lY I I I (SU.eq (v':=vb true) (gQ I I) (zd8 vb (zf5 oM))) (yP I (lM I (yC I (yC I (lY I I I (SU.maxF I I) (lY I I I (SU.eq (v':=vb true) (SU.leq I I) (zd8 vb (zf5 oM))) (yP I (aT I (rE ?_)))))))))))));exact za6 (.inl I) results117 I ⟨I,I,I⟩
theorem Av {r c:Nat}(hr:r≤400)(hc:c≤400):r * c≤160000:=Nat.mul_le_mul hr hc
def FmR (g:PH)(v:Value)(p:Int)(R C:Nat)(A:List Int):Prop:=∃ q c,v = .agg #[vi p,vi R,vi C,.slice q A.length c]∧bT g (.slice q A.length c) A
theorem Tryz.build62 (m r c:Int)(p:Option Addr)(n k:Nat)(w:World):(Instr.build 62 #[(0,vi m),(1,vi r),(2,vi c),(3,.slice p n k)]).run Tryz.prog w = .ok (.agg #[vi m,vi r,vi c,.slice p n k]) w:=by
 have h1:∀ n,(vi n).cells = #[vi n]:=fun _=>rfl;have h2:(Value.slice p n k).cells = #[.slice p n k]:=rfl;simp[Instr.build,Instr.fill,h1,h2];rfl
theorem um (E:World)(g:PH)(s:Own)(p:Int)(hp:Fp p)(r c:Nat)(hr:r≤400)(hc:c≤400) :
  Ctr Tryz.prog E 69 #[vi p,vi r,vi c] g s (fun x g' s'=>g=g'∧∃ b,x = .agg #[vi p,vi r,vi c,.slice (some ⟨b,0,none⟩) (r * c) (r * c)]∧s'=rowA encInt 3 (.slice (some ⟨b,0,none⟩) (r * c) (r * c)) (List.replicate (r * c) 0)::s):=by
 have hm:=Av hr hc;refine za9 (args:=[vi p,vi r,vi c]) func69 I ntmps69 (bE I) ?_;refine rZ (bW (aL zl2) fun b6=>?_);refine tZ (sQ (sW I (lM I (lM I (lW (cL call117 I (rv E g _ p hp r c hr hc)) ?_)))));rintro _ _ _ ⟨rfl,rfl,rfl⟩;refine lU (SU.not I) (tZ (cF I (kP (tN (sW I (lM I (lM I (lM I (lM I (lU (SU.eq (v':=vi ((r * c:Nat))) (SU.mulW I I) (zd8 vi (by rw[← Int.natCast_mul]; exact zk8 _ oM))) ?_))))))))));refine lW (mK encInt 0 sty25 I I I oM oM) ?_;rintro _ _ _ ⟨b15,rfl,rfl,rfl⟩;refine lU (za1 I (build62 _ _ _ _ _ _)) ?_;refine oZ (sK 1 fD rfl rfl rfl rfl rfl (by (repeat' (first | exact trivial | refine⟨by rfl,?_⟩)))) ?_;refine tZ (rE ?_);exact ST.retCD 1 _ (.inl I) results69 I p4 fD I I (.cons_cons _ (.cons _ (.refl _))) ⟨I,_,I,I⟩
end Go.Proofs.YtkbagdedfdfjhaaGreatDoor
