/- 14 -/
import Derived.Test.YtbbppeihhkhkcaaGreatDoorMp13
import Derived.Test.YtbbppeihhkhkcaaGreatDoorMp10
import Derived.Test.YtbbppeihhkhkcaaGreatDoorMp07
import Derived.Test.YtbbppeihhkhkcaaGreatDoorMp09
import Derived.Test.YtbbppeihhkhkcaaGreatDoorMp11
import Derived.Test.YtbbppeihhkhkcaaGreatDoorMp08
import Derived.Test.YtbbppeihhkhkcaaGreatDoorMp05
import Derived.Test.YtbbppeihhkhkcaaGreatDoorMp04
import Derived.Test.YtbbppeihhkhkcaaGreatDoorMp06
set_option linter.unusedSimpArgs false
set_option linter.unusedVariables false
namespace Go.Proofs.YtbbppeihhkhkcaaGreatDoor
open _root_.Go.Proofs.Tryz _root_.Go.Proofs.YtbbppeihhkhkcaaGreatDoor.Tryz
open Go Go.Sy Go.Pl Go.Proofs
set_option maxRecDepth 100000
set_option maxHeartbeats 1000000
structure Er where
 kind:Int
 cell:Int
 dim:Int
 new:Int
 other:Int
 sv:Sv
 pv:Sv
structure Sr where
 sv:Sv
 bk:Bool
abbrev Stp:=List (Int×List Tm)×Bool
def GU:Enc Sr 2:=⟨fun r=>[.slice r.sv.p r.sv.n r.sv.c,vb r.bk],fun _=>rfl,fun _ u hu=>by simp at hu; rcases hu with rfl | rfl <;> rfl,by decide⟩
def srv (r:Sr):Value:=.agg (GU.enc r).toArray
def StK (g:PH)(x:Stp)(r:Sr):Prop:=r.bk=x.2∧Ims g (.slice r.sv.p r.sv.n r.sv.c) x.1
theorem StK.mono {g g':PH}(hl:Le g g'){x:Stp}{r:Sr}(h:StK g x r):StK g' x r:=⟨h.1,h.2.mono hl⟩
def imO (l:List Cl)(e:Ed):Stp:=if (dB l e).1=0 then (th l e,bkK e) else ([],false)
theorem sz.one {l:List Cl}{e:Ed}{r:Value}{g:PH}(h:sz (dB l e).1 (dB l e).2 (th l e) (bkK e) r g) :
  ∃ u:Sv,∃ x:Sr,r = .tuple #[.agg #[.slice u.p u.n u.c],srv x,vi (dB l e).1]∧ar g (.slice u.p u.n u.c) (dB l e).2∧StK g (imO l e) x:=by
 obtain ⟨u,p,n,c,b,h1,h2,h3,h4⟩:=h;obtain ⟨q,d,rfl⟩:=h2.form;refine⟨⟨q,_,d⟩,⟨⟨p,n,c⟩,b⟩,h1,h2,?_⟩;unfold imO;by_cases h0:(dB l e).1=0
 ·rw[zg1 h0]; exact h3 h0
 ·rw[zf9 h0]; exact h4 h0
def StS (x:Stp):Prop:=x.1.length≤4000∧∀ p∈x.1,p.2.length≤64
theorem DY {A:List Cl}(h:Rt A)(e:Ed)(k:Int):(nG A e k).length≤64:=by
 unfold nG;split
 ·unfold cj; split
  ·unfold dT; split <;> simp
  ·simp
 split
 ·unfold ec; split <;> simp
 split
 ·unfold dF; split
  ·unfold cg;rw[ze6];refine zk8 (zc5 _ _) ?_
   rcases h.getD e.other with h1 | h1
   ·first | (rw[h1]; decide) | (rw[h.findC,h1]; decide)
   ·first | exact h.few64 h1 | (rw[h.findC]; exact h.few64 h1)
  ·split <;> simp
 ·simp
theorem CA (l:List Cl)(e:Ed):StS (imO l e):=by
 unfold imO;by_cases h0:(dB l e).1=0
 ·rw[zg1 h0];have hA:=iL (jj h0).2.1;refine⟨?_,fun p hp=>?_⟩
  ·show (th l e).length≤4000;unfold th;rw[ze6];split
   ·exact Es l e
   ·exact hA.few
  ·have hp':p∈th l e:=hp;unfold th at hp';obtain ⟨c,_,rfl⟩:=zf2.1 hp';exact DY hA e c.id
 ·rw[zf9 h0];exact⟨by simp,by simp⟩
set_option maxHeartbeats 2000000
theorem GV (x:Tm)(w:World):(Op.equalIn 10000 82 (.agg (a6.enc x).toArray) (.agg (a6.enc x).toArray)).run Tryz.prog w = .ok true w:=by
 have hu:Tryz.prog.underlying 82=some (.struct (Tryz.prog.fieldsOf 82)):=by kernel_rfl
 have hu2:Tryz.prog.underlying 80=some (.struct (Tryz.prog.fieldsOf 80)):=by kernel_rfl
 rw[run_equalIn_agg w 9999 82 _ _ hu stoodInHeld82]
 have hfs : ∃ f1 f2,(Tryz.prog.fieldsOf 82).toList = [f1,f2] ∧ f1.name ≠ "_" ∧ f2.name ≠ "_" ∧ f1.type = 3 ∧ f2.type = 80 ∧ f1.offset = 0 ∧ f2.offset = 1:=⟨_,_,rfl,by decide,by decide,rfl,rfl,rfl,rfl⟩
 obtain ⟨f1,f2,e,n1,n2,t1,t2,o1,o2⟩:=hfs
 have hgs : ∃ f1 f2,(Tryz.prog.fieldsOf 80).toList = [f1,f2] ∧ f1.name ≠ "_" ∧ f2.name ≠ "_" ∧ f1.type = 4 ∧ f2.type = 9 ∧ f1.offset = 0 ∧ f2.offset = 1:=⟨_,_,rfl,by decide,by decide,rfl,rfl,rfl,rfl⟩
 obtain ⟨f3,f4,e2,n3,n4,t3,t4,o3,o4⟩:=hgs;obtain ⟨a,n⟩:=x;rw[e];have h1:=run_equalIn_int (P:=Tryz.prog) w 9998 3 .i64 .i64 a a uT3;have h2:(Op.equalIn 9999 80 (.agg #[vb (mc n),txt (eJ n.natAbs)]) (.agg #[vb (mc n),txt (eJ n.natAbs)])).run Tryz.prog w = .ok true w:=by
  rw[run_equalIn_agg w 9998 80 _ _ hu2 stoodInHeld80,e2];have h3:=run_equalIn_bool (P:=Tryz.prog) w 9997 4 (mc n) (mc n) uT4;have h4:=run_equalIn_string (P:=Tryz.prog) w 9997 9 ⟨(eJ n.natAbs).toArray⟩ ⟨(eJ n.natAbs).toArray⟩ uT9;simp only[Op.eqFields,n3,n4,t3,t4,o3,o4,txt,Go.part,ne_eq,not_false_eq_true,if_true,Sem.run_bind,iT4,isAgg9,zd1];simp[h3,h4]
 simp only[Op.eqFields,n1,n2,t1,t2,o1,o2,a6,Go.part,ne_eq,not_false_eq_true,if_true,Sem.run_bind,iT3,mi,gP,zd1];simp[h1,h2]
theorem SU.neqTmT {N:Nat}{f:Fr}{dst:Option Tmp}{ty:TypeId}{pos:String}{af:Array Edge}{gd:Option (Nat×Bool)}{x y:Operand}(a:Tm){U:TypeId}(hx:ev f x=some (.agg (a6.enc a).toArray))(hy:ev f y=some (.agg (a6.enc a).toArray)) :
  SU Tryz.prog N ⟨dst,.binOp .neq 82 x y U,ty,pos,af,gd⟩ f (vb false):=fun ac w ha=>by
 have hg:=run_eqGuard_agg (P:=Tryz.prog) w .neq 82 x y (a6.enc a).toArray (a6.enc a).toArray eqGuardType82;simp only[execOp,ha.ev hx,ha.ev hy,Sem.run_bind,hg,zd1];rw[run_neq_struct,GV];rfl
theorem SU.eqlTmT {N:Nat}{f:Fr}{dst:Option Tmp}{ty:TypeId}{pos:String}{af:Array Edge}{gd:Option (Nat×Bool)}{x y:Operand}(a:Tm){U:TypeId}(hx:ev f x=some (.agg (a6.enc a).toArray))(hy:ev f y=some (.agg (a6.enc a).toArray)) :
  SU Tryz.prog N ⟨dst,.binOp .eql 82 x y U,ty,pos,af,gd⟩ f (vb true):=fun ac w ha=>by
 have hg:=run_eqGuard_agg (P:=Tryz.prog) w .eql 82 x y (a6.enc a).toArray (a6.enc a).toArray eqGuardType82;simp only[execOp,ha.ev hx,ha.ev hy,Sem.run_bind,hg,zd1];rw[run_eql_struct,GV];rfl
theorem BU (E:World)(g:PH)(s:Own)(v:Value)(L:List (Int×List Tm))(k0:Int)(hv:Ims g v L)(hs:L.length≤4000) :
  Ctr Tryz.prog E 30 #[.agg #[v],vi k0] g s (fun r g' s'=>g=g'∧s=s'∧SlA a6 g r (((L.find? fun p=>decide (p.1=k0)).map Prod.snd).getD [])):=by
 obtain ⟨ra,hra,halla⟩:=hv;have eal:=halla.length;obtain ⟨pa,ca,rfl⟩:=za4 hra;refine zb2 (args:=[.agg #[.slice pa ra.length ca],vi k0]) func30 I ntmps30 (bE I) ?_;refine rZ (bW (bO I) fun b2=>?_);refine aT I (sQ (rZ (aT I (bK ?_))));refine oP (ι:=Nat) (fun k=>[(1,vi k0),(2,pp b2 0),(5,vi k)]) (fun _=>g) (fun _=>pt b2 (.cells #[.slice pa ra.length ca] 33 (0,0))::s) (fun k=>k≤L.length∧(L.take k).find? (fun p=>decide (p.1=k0))=none) (fun k=>L.length - k) 0 sB I I ⟨zf6 _,I⟩ ?_;rintro k ⟨hk,hno⟩;try dsimp only at hk ⊢
 refine sQ (sW I (lU (fA AF I sizeOf31 I) (lK (qL (v:=.slice pa ra.length ca) isAgg31 I (cO 0 I I)) (lU (eN AG I) (yL I (tZ ?_))))));refine iP I (fun hlt=>?_) (fun hlt=>?_)
 ·have hkl:k<L.length:=oM;have hb1:=za6 hra oM;have h1:=halla.get (gE hkl) (gE (show k<ra.length by omega));have g1:ra[((k:Nat):Int).toNat]?=some ra[k]:=gE (show k<ra.length by omega);have htk:L.take (k+1)=L.take k++[L[k]]:=tS hkl;have hLk:L=L.take k++L[k]::L.drop (k+1):=by rw[← zg6 hkl,zj2]
  generalize L[k]=X at *;generalize ra[k]=xa at *;obtain ⟨ia,pA,nA,cA⟩:=xa;obtain ⟨f1,hA⟩:=h1;dsimp only at f1 hA;subst f1;refine kP (tN (sQ (bK (rZ (lU (fA AF I sizeOf31 I) (lK (qL (v:=.slice pa ra.length ca) isAgg31 I (cO 0 I I)) (lM I (lU (iA AG sizeOf113 I I hb1 oM sL) (lU (fC mP I zT3 I hb1) (lK (aZ (e:=s8) (o:=0) (u:=vi X.1) iT3 I (za7 hra) g1 I) (lM I (yE I (tZ ?_)))))))))))));refine iP I (fun he=>?_) (fun he=>?_)
  ·refine rZ (lU (fA AF I sizeOf31 I) (lK (qL (v:=.slice pa ra.length ca) isAgg31 I (cO 0 I I)) (lM I (lU (iA AG sizeOf113 I I hb1 oM sL) (lU (fC mP I sizeOf77 I hb1) (lK (aZ (e:=s8) (o:=1) (u:=.slice pA nA cA) isAgg77 I (za7 hra) g1 I) (aT I (rE (bR (tR (tR (bR (tR (dR (s':=s) uR ?_))))))))))))));exact za8 (.inl I) results30 I ⟨I,I,by rw[hLk,List.find?_append,hno,zi6,zf8 he]; exact hA⟩
  ·refine kP (bN (tN (rG (lM I (yD I (lA I (nL ?_)))))));exact ST.again (k+1) sB I I ⟨oM,by rw[htk,List.find?_append,hno]; simp[he]⟩ oM
 ·refine xI (tX (tX (bX (tN (rZ (aT I (rE ?_)))))));have hL:L.take k=L:=tL oM;rw[hL] at hno;refine dR (s':=s) uR ?_;exact za8 (.inl I) results30 I ⟨I,I,by rw[hno]; exact zc1 _ _⟩
theorem su {g:PH}{p:Option Addr}{n c:Nat}{l:List Cl}(h:ar g (.slice p n c) l):n=l.length:=by
 obtain ⟨q,d,e⟩:=h.form;injection e
theorem qF (E:World)(g:PH)(s:Own):Ctr Tryz.prog E 29 #[] g s (fun r g' s'=>s=s'∧Le g g'∧∃ u,r = .agg #[u]∧ar g' u me):=by
 refine zb2 (args:=[]) func29 I ntmps29 (bE I) ?_;refine rZ (bW (aL zl5) fun b0=>?_);refine tZ (rZ (lW (bS sty52 I I I (ae sB) dC) ?_));rintro _ _ _ ⟨b1,rfl,rfl,rfl⟩;refine zb5 fun g1 hle1 hb1=>?_;refine lW (bS sty22 I I I (ae ⟨I,trivial⟩) dC) ?_;rintro _ _ _ ⟨b2,rfl,rfl,rfl⟩;refine zb5 fun g2 hle2 hb2=>?_;have hlit:cX g2 (.slice (some ⟨b2,0,none⟩) 1 1) [[0,1,2]]:=⟨[jU (.slice (some ⟨b1,0,none⟩) 3 3)],SlA.lit hb2 rfl rfl,⟨SlA.lit (hle2 _ _ hb1) rfl rfl,trivial⟩⟩;refine lW (cL call65 I (qH E g2 _ _ _ hlit dC dC)) ?_;rintro _ g3 _ ⟨rfl,hle3,u,rfl,hu⟩;rw[Dt] at hu;obtain ⟨q,d,rfl⟩:=hu.form;refine oZ (sK 0 aC I I I I I sB) ?_;refine tZ (rE ?_);exact ST.retCD 0 s (.inl I) results29 I ba aC I I uR ⟨I,hle1.trans (hle2.trans hle3),_,I,hu⟩
def exA:Ed:=⟨1,8,2,0,0,[⟨4,1⟩,⟨5,-1⟩,⟨6,1⟩],[]⟩
def exB:Ed:=⟨2,4,0,0,0,[],[]⟩
def exC:Ed:=⟨2,7,0,0,0,[],[]⟩
def exD:Ed:=⟨3,4,0,10,11,[],[]⟩
def exE:Ed:=⟨5,5,0,0,7,[],[]⟩
def exF:Ed:=⟨4,0,0,0,0,[],[(1,2)]⟩
theorem ER:(dB me exA).1=0∧(dB me exA).2.length=8:=by decide +kernel
theorem Gx:(dB me exB).1=31:=by decide +kernel
theorem AN:(dB me exC).1=0∧(dB me exC).2.length=6∧(imO me exC).2=true:=by decide +kernel
theorem EQ:(dB me exD).1=0∧(findC (dB me exD).2 7).getD cJ=⟨7,2,[⟨4,1⟩,⟨5,-1⟩,⟨6,1⟩,⟨11,1⟩]⟩:=by
 refine⟨by decide +kernel,by kernel_rfl⟩
theorem EP:(dB me exE).1=0∧(((imO me exE).1.find? fun p=>decide (p.1=5)).map Prod.snd).getD []=[(4,1),(6,1)]:=by decide +kernel
theorem Gw:(dB me exF).1=22:=by decide +kernel
theorem E1 (E:World)(g:PH)(s:Own)(v ev:Value)(e:Ed)(code:Int)(hv:ar g v me)(he:EdR g ev e)(hs:e.sides.length<1099511627776)(hp:e.pairs.length<1099511627776)(hc:(dB me e).1=code) :
  Ctr Tryz.prog E 12 #[.agg #[v],ev] g s (fun r g' s'=>s=s'∧Le g g'∧∃ u:Sv,∃ x:Sr,r = .tuple #[.agg #[.slice u.p (dB me e).2.length u.c],srv x,vi code]∧ar g' (.slice u.p (dB me e).2.length u.c) (dB me e).2∧StK g' (imO me e) x) :=
 (kN E g s v ev me e hv Dl he hs hp).mono fun r g' s' ⟨h1,h2,h3⟩=>by
  obtain ⟨u,x,h4,h5,h6⟩:=h3.one;have:=su h5;refine⟨h1,h2,u,x,?_,?_,h6⟩
  ·rw[h4,this,hc]
  ·rw[← this]; exact h5
theorem Tryz.xA42 (a b d:Int)(q:Option Addr)(qn qc:Nat)(w:World):(Instr.build 42 #[(0,vi a),(1,vi b),(2,vi d),(5,.slice q qn qc)]).run Tryz.prog w = .ok (.agg #[vi a,vi b,vi d,vi 0,vi 0,.slice q qn qc,.slice none 0 0]) w:=by
 have h0:∀ a:Int,(vi a).cells = #[vi a]:=fun _=>rfl;have h3:(Value.slice q qn qc).cells = #[.slice q qn qc]:=rfl;simp[Instr.build,Instr.fill,h0,h3];rfl
theorem Tryz.xB42 (a b:Int)(w:World):(Instr.build 42 #[(0,vi a),(1,vi b)]).run Tryz.prog w = .ok (.agg #[vi a,vi b,vi 0,vi 0,vi 0,.slice none 0 0,.slice none 0 0]) w:=by
 have h0:∀ a:Int,(vi a).cells = #[vi a]:=fun _=>rfl;simp[Instr.build,Instr.fill,h0];rfl
theorem Tryz.xC42 (a b d e:Int)(w:World):(Instr.build 42 #[(0,vi a),(1,vi b),(3,vi d),(4,vi e)]).run Tryz.prog w = .ok (.agg #[vi a,vi b,vi 0,vi d,vi e,.slice none 0 0,.slice none 0 0]) w:=by
 have h0:∀ a:Int,(vi a).cells = #[vi a]:=fun _=>rfl;simp[Instr.build,Instr.fill,h0];rfl
theorem Tryz.xD42 (a b d:Int)(w:World):(Instr.build 42 #[(0,vi a),(1,vi b),(4,vi d)]).run Tryz.prog w = .ok (.agg #[vi a,vi b,vi 0,vi 0,vi d,.slice none 0 0,.slice none 0 0]) w:=by
 have h0:∀ a:Int,(vi a).cells = #[vi a]:=fun _=>rfl;simp[Instr.build,Instr.fill,h0];rfl
theorem Tryz.xE42 (a:Int)(q:Option Addr)(qn qc:Nat)(w:World):(Instr.build 42 #[(0,vi a),(6,.slice q qn qc)]).run Tryz.prog w = .ok (.agg #[vi a,vi 0,vi 0,vi 0,vi 0,.slice none 0 0,.slice q qn qc]) w:=by
 have h0:∀ a:Int,(vi a).cells = #[vi a]:=fun _=>rfl;have h3:(Value.slice q qn qc).cells = #[.slice q qn qc]:=rfl;simp[Instr.build,Instr.fill,h0,h3];rfl
theorem tB (E:World)(g:PH)(s:Own):Ctr Tryz.prog E 10 #[] g s (fun r g' s'=>r=vb true∧s=s'∧Le g g'):=by
 refine zb2 (args:=[]) func10 I ntmps10 (bE I) ?_;refine rZ (aT I (rZ (lW (cL call29 I (qF E g s)) ?_)));rintro _ g1 _ ⟨rfl,hle1,u,rfl,hu⟩;obtain ⟨q,d,rfl⟩:=hu.form;have hac:=hle1;refine bW (aL zl5) fun b1=>?_;refine oZ (sK 0 aC I I I I I sB) ?_;refine tZ (rZ (lK (qV 0 ba aC I I I) (lU (za3 I (buildS75 _ _)) (lU (za3 I (buildS75 _ _)) (lU (za3 I (buildS75 _ _)) (lW (bS sty39 I I I (ae sB) dC) ?_))))));rintro _ _ _ ⟨b31,rfl,rfl,rfl⟩;refine zb5 fun g2 hle hb2=>?_;have hs2:SlA encSide g2 (.slice (some ⟨b31,0,none⟩) 3 3) exA.sides:=SlA.lit hb2 rfl rfl;have hu:=hu.mono hle;have hac:=hac.trans hle;clear hle;refine lU (za3 I (xA42 _ _ _ _ _ _)) (lW (cL call12 I (E1 E g2 _ _ _ exA 0 hu ⟨_,_,I,hs2,zc1 _ _⟩ dC dC ER.1)) ?_);rintro _ g3 _ ⟨rfl,hle,⟨a1,a2,a3⟩,⟨⟨ax,ay,az⟩,ab⟩,rfl,hDa,hSa⟩;rw[ER.2] at *;clear hSa;have hu:=hu.mono hle;have hac:=hac.trans hle;clear hle;refine lM I (yX I (yX I (yX I (bW (aL zl5) fun b2=>?_))));refine bW (aL zl6) fun b3=>?_;refine oZ (sK 1 aC I I I I I sB) ?_;refine oZ (sK 0 ma I I I I I sB) ?_;refine aT I (rZ (lK (qV 2 ba aC I I I) (lU (za3 I (xB42 _ _)) (lW (cL call12 I (E1 E g3 _ _ _ exB 31 hu ⟨_,_,I,zc1 _ _,zc1 _ _⟩ dC dC Gx)) ?_))));rintro _ g4 _ ⟨rfl,hle,⟨w1,w2,w3⟩,⟨⟨wx,wy,wz⟩,wb⟩,rfl,hDw,hSw⟩;clear hSw hDw;generalize (dB me exB).2.length=nb at *;have hu:=hu.mono hle;have hac:=hac.trans hle;clear hle;refine lM I (yX I (yX I (yX I (bW (aL zl5) fun b5=>?_))));refine bW (aL zl6) fun b6=>?_;refine oZ (sK 1 aC I I I I I sB) ?_;refine oZ (sK 0 ma I I I I I sB) ?_;refine aT I (rZ (lK (qV 4 ba aC I I I) (lU (za3 I (xB42 _ _)) (lW (cL call12 I (E1 E g4 _ _ _ exC 0 hu ⟨_,_,I,zc1 _ _,zc1 _ _⟩ dC dC AN.1)) ?_))));rintro _ g5 _ ⟨rfl,hle,⟨c1,c2,c3⟩,⟨⟨cx,cy,cz⟩,cb⟩,rfl,hDc,hSc⟩;have hcb:cb=true:=hSc.1.trans AN.2.2;subst hcb;rw[AN.2.1] at *;clear hSc;have hu:=hu.mono hle;have hac:=hac.trans hle;clear hle;refine lM I (yX I (yX I (yX I (bW (aL zl5) fun b8=>?_))));refine bW (aL zl6) fun b9=>?_;refine oZ (sK 1 aC I I I I I sB) ?_;refine oZ (sK 0 ma I I I I I sB) ?_;refine aT I (rZ (lK (qV 6 ba aC I I I) (lU (za3 I (xC42 _ _ _ _)) (lW (cL call12 I (E1 E g5 _ _ _ exD 0 hu ⟨_,_,I,zc1 _ _,zc1 _ _⟩ dC dC EQ.1)) ?_))));rintro _ g6 _ ⟨rfl,hle,⟨d1,d2,d3⟩,⟨⟨dx,dy,dz⟩,db⟩,rfl,hDd,hSd⟩;clear hSd;have hu:=hu.mono hle;have hac:=hac.trans hle;clear hle;refine lM I (yX I (yX I (yX I (bW (aL zl5) fun b11=>?_))));refine bW (aL zl6) fun b12=>?_;refine oZ (sK 1 aC I I I I I sB) ?_;refine oZ (sK 0 ma I I I I I sB) ?_;refine aT I (rZ (lK (qV 1 ba aC I I I) (lW (cL call19 I (uH E g6 _ _ _ 7 hDd (uZ _ _))) ?_)));rintro _ g7 _ ⟨rfl,hle,⟨zi,zd,zp,zn,zc⟩,rfl,hz⟩;rw[EQ.2] at hz;obtain ⟨-,-,hzs⟩:=hz;have hzn:zn=4:=zc2 hzs;subst hzn;have hbz:based (.slice zp 4 zc)=true:=za6 hzs dC;have hu:=hu.mono hle;have hac:=hac.trans hle;clear hle;refine lM I (yX I (yX I (bW (aL zl4) fun b14=>?_)));refine oZ (sK 0 aq I I I I I sB) ?_;refine aT I (rZ (lK (qV 9 ba aC I I I) (lU (za3 I (xD42 _ _ _)) (lW (cL call12 I (E1 E g7 _ _ _ exE 0 hu ⟨_,_,I,zc1 _ _,zc1 _ _⟩ dC dC EP.1)) ?_))));rintro _ g8 _ ⟨rfl,hle,⟨e1,e2,e3⟩,⟨⟨ex,ey,ez⟩,eb⟩,rfl,hDe,hSe⟩;have hu:=hu.mono hle;have hac:=hac.trans hle;have hzs:=za5 hzs hle;clear hle;refine lM I (yX I (yX I (yX I (bW (aL zl5) fun b16=>?_))));refine bW (aL zl6) fun b17=>?_;refine oZ (sK 1 aC I I I I I sB) ?_;refine oZ (sK 0 ma I I I I I sB) ?_;refine aT I (rZ (lK (qV 11 ba aC I I I) (lU (za3 I (build76 _ _)) (lW (bS sty40 I I I (ae ⟨I,trivial⟩) dC) ?_))));rintro _ _ _ ⟨b73,rfl,rfl,rfl⟩;refine zb5 fun g9 hle hb9=>?_;have hs9:SlA iT g9 (.slice (some ⟨b73,0,none⟩) 1 1) exF.pairs:=SlA.lit hb9 rfl rfl;have hu:=hu.mono hle;have hac:=hac.trans hle;have hzs:=za5 hzs hle;have hSe:=hSe.mono hle;clear hle;refine lU (za3 I (xE42 _ _ _ _)) (lW (cL call12 I (E1 E g9 _ _ _ exF 22 hu ⟨_,_,I,zc1 _ _,hs9⟩ dC dC Gw)) ?_);rintro _ g10 _ ⟨rfl,hle,⟨f1,f2,f3⟩,⟨⟨fx,fy,fz⟩,fb⟩,rfl,hDf,hSf⟩;clear hSf hDf;have hu:=hu.mono hle;have hac:=hac.trans hle;have hzs:=za5 hzs hle;have hSe:=hSe.mono hle;clear hle;refine lM I (yX I (yX I (yX I (bW (aL zl5) fun b19=>?_))));refine bW (aL zl6) fun b20=>?_;refine oZ (sK 1 aC I I I I I sB) ?_;refine oZ (sK 0 ma I I I I I sB) ?_;refine aT I (rZ (lU (fA C9 I sizeOf33 I) (lK (SQ.loadOne isAgg33 sizeOf33 I (cO (v:=.slice ex ey ez) 2 I I)) (lW (cL call30 I (BU E g10 _ _ _ 5 hSe.2 (CA _ _).1)) ?_))));rintro v81 _ _ ⟨rfl,rfl,hl81⟩;rw[EP.2] at hl81;obtain ⟨lp,lc,rfl⟩:=za4 hl81;have hbl:based (.slice lp 2 lc)=true:=za6 hl81 dC;refine aT I (sW I (lU (SU.eq (v':=vb true) (eQ I I) (ze2 vb (zf8 I))) (lM I (lY I I I (fA eH I ee I) (SL.gq (gT I I I dC) (qL (v:=.slice a1 8 a3) fX I (cO 12 I I)) dC (lY I I I (eN aJ I) (lY I I I (SU.eq (v':=vb true) (eQ I I) (ze2 vb (zf8 I))) (yP I (lM I (yC I (lY I I I (SU.eq (v':=vb true) (eQ I I) (ze2 vb (zf8 I))) (yP I (lM I (yC I (lY I I I (SU.eq (v':=vb true) (eQ I I) (ze2 vb (zf8 I))) (yP I (lM I (lY I I I (fA eH I ee I) (SL.gq (gT I I I dC) (qL (v:=.slice c1 6 c3) fX I (cO 8 I I)) dC (lY I I I (eN aJ I) (lY I I I (SU.eq (v':=vb true) (eQ I I) (ze2 vb (zf8 I))) (yP I (lM I (lY I I I (fA C9 I zT4 I) (SL.gq (gT I I I dC) (qL (v:=vb true) iT4 I (cO 7 I I)) dC ?_)))))))))))))))))))))))));refine yP I (aT I (sW I (lU (SU.eq (v':=vb true) (eQ I I) (ze2 vb (zf8 I))) (lM I (lY I I I (fA au I bQ I) (SL.gq (gT I I I dC) (qL (v:=.slice zp 4 zc) cZ I (cO 4 I I)) dC (lY I I I (eN aY I) (lY I I I (SU.eq (v':=vb true) (eQ I I) (ze2 vb (zf8 I))) (yP I (lM I (lY I I I (fA au I bQ I) (SL.gq (gT I I I dC) (qL (v:=.slice zp 4 zc) cZ I (cO 4 I I)) dC (lY I I I (iA aY aI I I hbz dC (by show (3:Int)<4; decide)) ?_)))))))))))));refine SL.gq (gT I I I dC) (eA (a:=(⟨11,1⟩:Side)) fh aI I (za7 hzs) I) dC (lY I I I (za3 I (buildS75 _ _)) (lY I I I (SU.eq (SU.eqlSide ⟨11,1⟩ ⟨11,1⟩ I I) (ze2 vb (zf8 I))) (yP I (aT I (sQ ?_)))));refine dW [] [(0,2),(1,2),(2,2),(3,2),(4,2),(5,2),(6,2),(7,2),(8,2),(9,2),(10,2),(11,2),(12,2),(13,2),(14,2),(15,2),(16,1),(17,0),(18,2),(19,2),(20,2),(21,2),(22,2),(23,2),(24,2),(25,2)] ze3 kR ?_;refine yM I (yM I (yJ I (pU I (wT I I) (yM I (yJ I (zb3 I (gT I I I dC) (SU.eq (v':=vb true) (eQ I I) (ze2 vb (zf8 I))) dC (pU I (wT I I) (yM I (yJ I (zb3 I (gT I I I dC) (eN tf I) dC (zb3 I (gT I I I dC) (SU.eq (v':=vb true) (eQ I I) (ze2 vb (zf8 I))) dC (pU I (wT I I) (yM I (yJ I (zb3 I (gT I I I dC) (iA tf qD I I hbl dC (by show (0:Int)<2; decide)) dC ?_)))))))))))))));refine SP.gq I (gT I I I dC) (eA (a:=((4,1):Tm)) isAgg82 qD I (za7 hl81) I) dC (SP.go I (gT I I I dC) (cL call31 I (vH E g10 _ 1 dC dC)) dC (.inr iR) ?_);rintro _ g11 _ ⟨rfl,rfl,hle11⟩;refine zb3 I (gT I I I dC) (za3 I (build82 _ _ _)) dC (zb3 I (gT I I I dC) (SU.eqlTmT (4,1) I I) dC (pU I (wT I I) (yM I (yJ I (zb3 I (gT I I I dC) (SU.eq (v':=vb true) (eQ I I) (ze2 vb (zf8 I))) dC (pU I (wT I I) (pU I (aS I) (pN (tN (rE (dR (s':=s) uR ?_)))))))))));exact za8 (.inl I) results10 I ⟨I,I,hac.trans hle11⟩
set_option maxRecDepth 100000
set_option maxHeartbeats 8000000
theorem uI {l:List Cl}(hf:ci l)(id:Int):((findC l id).getD cJ).sides.length<1099511627776:=by
 unfold findC;cases h:(ak l).find? (fun c=>decide (c.id=id)) with
 | none=>simp[cJ]
 | some c=>exact (dv hf).2 c (zk7 h)
theorem Tryz.bA42 (a:Int)(b:Int)  (w:World):(Instr.build 42 #[(0,vi a),(1,vi b)]).run Tryz.prog w = .ok (.agg #[vi a,vi b,vi 0,vi 0,vi 0,.slice none 0 0,.slice none 0 0]) w:=by
 have h0:(vi a).cells = #[vi a]:=rfl;have h1:(vi b).cells = #[vi b]:=rfl;simp[Instr.build,Instr.fill,h0,h1];rfl
theorem Tryz.bB42 (a:Int)(b:Int)(d:Int)(q:Option Addr)(qn qc:Nat)(w:World):(Instr.build 42 #[(0,vi a),(1,vi b),(2,vi d),(5,.slice q qn qc)]).run Tryz.prog w = .ok (.agg #[vi a,vi b,vi d,vi 0,vi 0,.slice q qn qc,.slice none 0 0]) w:=by
 have h0:(vi a).cells = #[vi a]:=rfl;have h1:(vi b).cells = #[vi b]:=rfl;have h2:(vi d).cells = #[vi d]:=rfl;have h3:(Value.slice q qn qc).cells = #[.slice q qn qc]:=rfl;simp[Instr.build,Instr.fill,h0,h1,h2,h3];rfl
theorem Tryz.bC42 (a:Int)(b:Int)(d:Int)(e:Int)  (w:World):(Instr.build 42 #[(0,vi a),(1,vi b),(3,vi d),(4,vi e)]).run Tryz.prog w = .ok (.agg #[vi a,vi b,vi 0,vi d,vi e,.slice none 0 0,.slice none 0 0]) w:=by
 have h0:(vi a).cells = #[vi a]:=rfl;have h1:(vi b).cells = #[vi b]:=rfl;have h2:(vi d).cells = #[vi d]:=rfl;have h3:(vi e).cells = #[vi e]:=rfl;simp[Instr.build,Instr.fill,h0,h1,h2,h3];rfl
theorem Tryz.bD42 (a:Int)(q:Option Addr)(qn qc:Nat)(w:World):(Instr.build 42 #[(0,vi a),(6,.slice q qn qc)]).run Tryz.prog w = .ok (.agg #[vi a,vi 0,vi 0,vi 0,vi 0,.slice none 0 0,.slice q qn qc]) w:=by
 have h0:(vi a).cells = #[vi a]:=rfl;have h1:(Value.slice q qn qc).cells = #[.slice q qn qc]:=rfl;simp[Instr.build,Instr.fill,h0,h1];rfl
theorem Tryz.bE42 (a:Int)(b:Int)(d:Int)  (w:World):(Instr.build 42 #[(0,vi a),(1,vi b),(4,vi d)]).run Tryz.prog w = .ok (.agg #[vi a,vi b,vi 0,vi 0,vi d,.slice none 0 0,.slice none 0 0]) w:=by
 have h0:(vi a).cells = #[vi a]:=rfl;have h1:(vi b).cells = #[vi b]:=rfl;have h2:(vi d).cells = #[vi d]:=rfl;simp[Instr.build,Instr.fill,h0,h1,h2];rfl
theorem Tryz.bF42 (a:Int)(b:Int)(d:Int)(e:Int)(h:Int)(q:Option Addr)(qn qc:Nat)(r:Option Addr)(rn rc:Nat)(w:World):(Instr.build 42 #[(0,vi a),(1,vi b),(2,vi d),(3,vi e),(4,vi h),(5,.slice q qn qc),(6,.slice r rn rc)]).run Tryz.prog w = .ok (.agg #[vi a,vi b,vi d,vi e,vi h,.slice q qn qc,.slice r rn rc]) w:=by
 have h0:(vi a).cells = #[vi a]:=rfl;have h1:(vi b).cells = #[vi b]:=rfl;have h2:(vi d).cells = #[vi d]:=rfl;have h3:(vi e).cells = #[vi e]:=rfl;have h4:(vi h).cells = #[vi h]:=rfl;have h5:(Value.slice q qn qc).cells = #[.slice q qn qc]:=rfl;have h6:(Value.slice r rn rc).cells = #[.slice r rn rc]:=rfl;simp[Instr.build,Instr.fill,h0,h1,h2,h3,h4,h5,h6];rfl
theorem jK (E:World)(g:PH)(s:Own)(v:Value)(l:List Cl)(k0 ka kb kc:Int)(hv:ar g v l)(hf:ci l) :
  Ctr Tryz.prog E 13 #[.agg #[vi k0,vi ka,vi kb,vi kc],.agg #[v]] g s (fun r g' s'=>s=s'∧Le g g'∧∃ e,EdR g' r e∧e.sides.length<1099511627776∧e.pairs.length≤3∧((co k0 10=0∨co k0 10=1∨co k0 10=2)→e.kind=1)∧((∀ c∈l,bw c.id)→bw ka→bw kb→bw kc→(e.kind=1→bw e.cell)∧(e.kind=3→bw e.new∧bw e.other))):=by
 have hv0:=hv;obtain ⟨rs,hrs,hall⟩:=hv;have hlen:=hall.length;have hfl:=hf.1;obtain ⟨p,c,rfl⟩:=za4 hrs;have hid:∀ d,(De l d).length<1099511627776:=fun d=>by
  have h1:(De l d).length≤(ak l).length:=by unfold De; rw[ze6]; exact zc5 _ _
  have h2:=(dv hf).1;omega
 have htl:(wu l).length<1099511627776:=by
  have h1:(wu l).length≤(ak l).length:=by unfold wu; rw[ze6]; exact zc5 _ _
  have h2:=(dv hf).1;omega
 have hl0:=hid 0;have hl1:=hid 1;rw[← hlen] at hrs ⊢;have hv1:ar g (.slice p l.length c) l:=⟨rs,hrs,hall⟩;refine zb2 (args:=[.agg #[vi k0,vi ka,vi kb,vi kc],.agg #[.slice p l.length c]]) func13 I ntmps13 (bE I) ?_;refine rZ (bW (bO I) fun b2=>?_);refine bW (bO I) fun b3=>?_;refine bW (aL zl7) fun b4=>?_;refine tZ (rZ (aT I (sQ (rZ (aT I (bK (zb6 3 1 ?_)))))));refine oP (ι:=Nat×Value×List Int) (fun i=>[(2,pp b2 0),(3,pp b3 0),(4,pp b4 0),(5,i.2.1),(6,vi i.1)]) (fun _=>g) (fun i=>rowA encInt 3 i.2.1 i.2.2::pt b4 (.cells #[vi 0,vi 0,vi 0,vi 0,vi 0,.slice none 0 0,.slice none 0 0] 42 (0,0))::pt b3 (.cells #[.slice p l.length c] 29 (0,0))::pt b2 (.cells #[vi k0,vi ka,vi kb,vi kc] 44 (0,0))::s)
  (fun i=>i.1≤l.length∧i.2.2.length=i.1∧∀ z∈i.2.2,∃ c∈l,c.id=z) (fun i=>l.length - i.1) (0,.slice none 0 0,[]) sB rfl rfl ⟨zf6 _,rfl,by simp⟩ ?_
 rintro ⟨k,ov,acc⟩ ⟨hk,hal,hacc⟩;dsimp only at hk hal hacc ⊢;refine sQ (sW I (lU (fA eH I ee I) (lK (qL (v:=.slice p l.length c) fX I (cO 2 I I)) (lU (eN aJ I) (yL I (tZ ?_))))));refine iP I (fun hlt=>?_) (fun hlt=>?_)
 ·have hkr:k<rs.length:=oM;have hb1:=za6 hrs oM;have hgx:rs[((k:Nat):Int).toNat]?=some rs[k]:=gE hkr;have hcr:∃ c∈l,c.id=rs[k].id:=⟨l[k]'oM,gM _,((hall.get (gE oM) (gE hkr)).1).symm⟩;generalize rs[k]=x at *;refine kP (tN (sQ (bK (rG (lM I (lU (fA eH I ee I) (lK (qL (v:=.slice p l.length c) fX I (cO 2 I I)) (lM I (lU (iA aJ aq I I hb1 oM sL) (lU (fC au I zT3 I hb1) (lK (aZ (e:=encCell) (o:=0) (u:=vi x.id) iT3 I (za7 hrs) hgx I) (lW (bS sty52 I I I (ae ⟨I,trivial⟩) dC) ?_))))))))))));rintro _ _ _ ⟨b33,rfl,rfl,rfl⟩;refine lW (aP (e:=encInt) (l:=acc) 0 x.id sty52 I I I I I oM oM) ?_;rintro ov' _ _ ⟨rfl,rfl⟩;refine lA I (nL (bN (tN (rG (lM I (yD I (lA I (nL ?_))))))));exact ST.again (k+1,ov',acc++[x.id]) sB I I ⟨by dsimp only; omega,by dsimp only; rw[ze5,ze7]; omega,fun z hz=>by
   dsimp only at hz
   rcases zf3.1 hz with h | h
   ·exact hacc z h
   ·simp at h; rw[h]; exact hcr⟩ (by dsimp only; omega)
 clear hlt;have hIl:acc.length<1099511627776:=oM;clear hk hal;refine xI (tX (tX (bX (tN (sQ (fS fun g1 hle1 hI=>?_))))));obtain ⟨qI,dI,rfl⟩:=Sl.form hI;have hI:eG g1 (.slice qI acc.length dI) acc:=hI;have hv2:=hv1.mono hle1;refine rG (lK (qV 1 ba aC I I I) (lW (cL call45 I (qh E g1 _ _ l 0 hv2 hf)) ?_));rintro _ g2 _ ⟨rfl,hle2,hV⟩;obtain ⟨pV,cV,rfl⟩:=za4 hV;have hv3:=hv2.mono hle2;have hI:=za5 hI hle2;refine aT I (rZ (lK (qV 1 ba aC I I I) (lW (cL call45 I (qh E g2 _ _ l 1 hv3 hf)) ?_)));rintro _ g3 _ ⟨rfl,hle3,hW⟩;obtain ⟨pW,cW,rfl⟩:=za4 hW;have hv4:=hv3.mono hle3;have hI:=za5 hI hle3;have hV:=za5 hV hle3;generalize De l 0=V at *;generalize De l 1=W at *;refine aT I (rZ (lK (qV 1 ba aC I I I) (lW (cL call46 I (vJ E g3 _ _ l hv4 hf)) ?_)));rintro _ _ _ ⟨rfl,rfl,n0,rfl,hn0⟩;have hle13:=hle1.trans (hle2.trans hle3);refine aT I ?_;refine SC.cut (ι:=Int) (fun n=>[(2,pp b2 0),(3,pp b3 0),(4,pp b4 0),(5,.slice qI acc.length dI),(7,.slice pV V.length cV),(8,.slice pW W.length cW),(9,vi n)]) (fun _=>g3) (fun _=>pt b4 (.cells #[vi 0,vi 0,vi 0,vi 0,vi 0,.slice none 0 0,.slice none 0 0] 42 (0,0))::pt b3 (.cells #[.slice p l.length c] 29 (0,0))::pt b2 (.cells #[vi k0,vi ka,vi kb,vi kc] 44 (0,0))::s) (fun n=>(∀ c∈l,bw c.id)→bw n) ?_ ?_
 ·refine rZ (lU (fA ir I zT3 I) (lK (qL (v:=vi kc) iT3 I (cO 2 I I)) (lU (zd8 I I dC) (yE I (tZ ?_)))));refine iP I (fun hz=>?_) (fun hz=>?_)
  ·refine rG (lM I (lU (fA ir I zT3 I) (lK (qL (v:=vi kc) iT3 I (cO 2 I I)) (lU (SU.quo I I dC) (lW (cL call47 I (qi E g3 _ _ acc _ hI hIl)) ?_)))));rintro _ _ _ ⟨rfl,rfl,n1,rfl,hn1⟩;refine lA I (nL ?_);exact za9 n1 sB I I fun h=>by
    rcases hn1 with e | e
    ·try dsimp only
     rw[e]; unfold bw; omega
    ·obtain ⟨c,hc,e2⟩:=hacc _ e;try dsimp only
     rw[← e2]; exact h c hc
  ·refine kP ?_;exact za9 n0 sB I I fun _=>hn0
 rintro n hn64;try dsimp only
 refine SC.cut (ι:=Nat×PH×Cl×Rc) (fun i=>[(2,pp b2 0),(3,pp b3 0),(4,pp b4 0),(5,.slice qI acc.length dI),(7,.slice pV V.length cV),(8,.slice pW W.length cW),(9,vi n),(10,pp i.1 0)]) (fun i=>i.2.1) (fun i=>pt i.1 (.cells #[vi i.2.2.2.id,vi i.2.2.2.dim,.slice i.2.2.2.sv.p i.2.2.2.sv.n i.2.2.2.sv.c] 56 (0,0))::pt b4 (.cells #[vi 0,vi 0,vi 0,vi 0,vi 0,.slice none 0 0,.slice none 0 0] 42 (0,0))::pt b3 (.cells #[.slice p l.length c] 29 (0,0))::pt b2 (.cells #[vi k0,vi ka,vi kb,vi kc] 44 (0,0))::s) (fun i=>Le g3 i.2.1∧aw i.2.1 i.2.2.1 i.2.2.2∧i.2.2.1.sides.length<1099511627776) ?_ ?_
 ·refine SC.drawX [10] ze3 kR ?_;refine SX.q (i:=0) I kR (qV 1 ba aC I I I) dC (SX.u (i:=1) I kR (mV I) dC (SX.u (i:=2) I kR (fA ir I zT3 I) dC (SX.q (i:=3) I kR (qL (v:=vi ka) iT3 I (cO 2 I I)) dC ?_)))
  repeat' (first
   | (refine SB.o (i:=4) rfl (cL call47 rfl (dV E g3 _ _ acc ka hI hIl)) dC (.inr (by rintro _ _ _ ⟨rfl,rfl,m1,rfl⟩; exact⟨by exact zb9 _,(by exact .cons _ (.refl _))⟩)) ?_; rintro _ _ _ ⟨rfl,rfl,m1,rfl⟩)
   | (refine SB.o (i:=4) rfl (cL call47 rfl (dV E g3 _ _ acc ka hI hIl)) dC (.inr (by rintro _ _ _ ⟨rfl,rfl,m1,rfl⟩; exact⟨by exact zb9 _,(by exact .refl _)⟩)) ?_; rintro _ _ _ ⟨rfl,rfl,m1,rfl⟩)
   | (refine SB.o (i:=5) rfl (cL call48 rfl (ix E g3 _ _ l m1 hv4 hf)) dC (.inr (by rintro _ gF _ ⟨rfl,hleF,rF,rfl,hcF⟩; exact⟨by assumption,(by exact .cons _ (.refl _))⟩)) ?_; rintro _ gF _ ⟨rfl,hleF,rF,rfl,hcF⟩; refine SX.u (i:=6) I kD (mV I) dC ?_; refine SX.u (i:=7) I kD (xT I I) dC ?_; refine SX.u (i:=8) I kD (xT I I) dC ?_)
   | (refine SB.o (i:=5) rfl (cL call48 rfl (ix E g3 _ _ l m1 hv4 hf)) dC (.inr (by rintro _ gF _ ⟨rfl,hleF,rF,rfl,hcF⟩; exact⟨by assumption,(by exact .refl _)⟩)) ?_; rintro _ gF _ ⟨rfl,hleF,rF,rfl,hcF⟩; refine SX.u (i:=6) I kD (mV I) dC ?_; refine SX.u (i:=7) I kD (xT I I) dC ?_; refine SX.u (i:=8) I kD (xT I I) dC ?_)
   | (refine SB.o (i:=9) rfl (aL zl4) dC (.inr (by rintro _ _ _ ⟨bF,rfl,rfl,rfl⟩; exact⟨by exact zb9 _,(by exact .cons _ (.refl _))⟩)) ?_; rintro _ _ _ ⟨bF,rfl,rfl,rfl⟩)
   | (refine SB.o (i:=9) rfl (aL zl4) dC (.inr (by rintro _ _ _ ⟨bF,rfl,rfl,rfl⟩; exact⟨by assumption,(by exact .cons _ (.refl _))⟩)) ?_; rintro _ _ _ ⟨bF,rfl,rfl,rfl⟩)
   | (refine SB.on (i:=10) I (sK 0 aq I I I I I sB) (.inl dC) ?_; rintro _ _ _ ⟨rfl,rfl⟩; refine SX.u (i:=11) I kD (aS I) dC ?_)
   | refine zd7 4 9 kD ?_ ?_
   | refine zd7 5 9 kD ?_ ?_
   | refine zd6 9 kD ?_
   | refine zd6 10 kD ?_
   | refine zd6 5 kD ?_
   | refine zd6 4 kD ?_
   | (refine SX.nil kD ?_; exact za9 (bF,gF,(findC l m1).getD cJ,rF) sB I I ⟨hleF,hcF,uI hf m1⟩))
 rintro ⟨b10,g4,X,⟨xi,xd,xp,xn,xc⟩⟩ ⟨hle4,⟨-,-,hxs⟩,hxl⟩;dsimp only at hle4 hxs hxl ⊢;have hxn:xn=X.sides.length:=zc2 hxs;subst hxn;have hv4:=hv4.mono hle4;have hI:=za5 hI hle4;refine SC.cut (ι:=Nat×PH×Cl×Rc) (fun i=>[(2,pp b2 0),(3,pp b3 0),(4,pp b4 0),(5,.slice qI acc.length dI),(7,.slice pV V.length cV),(8,.slice pW W.length cW),(9,vi n),(10,pp b10 0),(12,pp i.1 0)]) (fun i=>i.2.1) (fun i=>pt i.1 (.cells #[vi i.2.2.2.id,vi i.2.2.2.dim,.slice i.2.2.2.sv.p i.2.2.2.sv.n i.2.2.2.sv.c] 56 (0,0))::pt b10 (.cells #[vi xi,vi xd,.slice xp X.sides.length xc] 56 (0,0))::pt b4 (.cells #[vi 0,vi 0,vi 0,vi 0,vi 0,.slice none 0 0,.slice none 0 0] 42 (0,0))::pt b3 (.cells #[.slice p l.length c] 29 (0,0))::pt b2 (.cells #[vi k0,vi ka,vi kb,vi kc] 44 (0,0))::s) (fun i=>Le g4 i.2.1∧aw i.2.1 i.2.2.1 i.2.2.2∧i.2.2.1.sides.length<1099511627776) ?_ ?_
 ·refine SC.drawX [10] ze3 kR ?_;refine SX.q (i:=0) I kR (qV 2 ba aC I I I) dC (SX.u (i:=1) I kR (mV I) dC (SX.u (i:=2) I kR (fA ir I zT3 I) dC (SX.q (i:=3) I kR (qL (v:=vi kb) iT3 I (cO 3 I I)) dC ?_)))
  repeat' (first
   | (refine SB.o (i:=4) rfl (cL call47 rfl (dV E g4 _ _ acc kb hI hIl)) dC (.inr (by rintro _ _ _ ⟨rfl,rfl,m1,rfl⟩; exact⟨by exact zb9 _,(by exact .cons _ (.refl _))⟩)) ?_; rintro _ _ _ ⟨rfl,rfl,m1,rfl⟩)
   | (refine SB.o (i:=4) rfl (cL call47 rfl (dV E g4 _ _ acc kb hI hIl)) dC (.inr (by rintro _ _ _ ⟨rfl,rfl,m1,rfl⟩; exact⟨by exact zb9 _,(by exact .refl _)⟩)) ?_; rintro _ _ _ ⟨rfl,rfl,m1,rfl⟩)
   | (refine SB.o (i:=5) rfl (cL call48 rfl (ix E g4 _ _ l m1 hv4 hf)) dC (.inr (by rintro _ gF _ ⟨rfl,hleF,rF,rfl,hcF⟩; exact⟨by assumption,(by exact .cons _ (.refl _))⟩)) ?_; rintro _ gF _ ⟨rfl,hleF,rF,rfl,hcF⟩; refine SX.u (i:=6) I kD (mV I) dC ?_; refine SX.u (i:=7) I kD (xT I I) dC ?_; refine SX.u (i:=8) I kD (xT I I) dC ?_)
   | (refine SB.o (i:=5) rfl (cL call48 rfl (ix E g4 _ _ l m1 hv4 hf)) dC (.inr (by rintro _ gF _ ⟨rfl,hleF,rF,rfl,hcF⟩; exact⟨by assumption,(by exact .refl _)⟩)) ?_; rintro _ gF _ ⟨rfl,hleF,rF,rfl,hcF⟩; refine SX.u (i:=6) I kD (mV I) dC ?_; refine SX.u (i:=7) I kD (xT I I) dC ?_; refine SX.u (i:=8) I kD (xT I I) dC ?_)
   | (refine SB.o (i:=9) rfl (aL zl4) dC (.inr (by rintro _ _ _ ⟨bF,rfl,rfl,rfl⟩; exact⟨by exact zb9 _,(by exact .cons _ (.refl _))⟩)) ?_; rintro _ _ _ ⟨bF,rfl,rfl,rfl⟩)
   | (refine SB.o (i:=9) rfl (aL zl4) dC (.inr (by rintro _ _ _ ⟨bF,rfl,rfl,rfl⟩; exact⟨by assumption,(by exact .cons _ (.refl _))⟩)) ?_; rintro _ _ _ ⟨bF,rfl,rfl,rfl⟩)
   | (refine SB.on (i:=10) I (sK 0 aq I I I I I sB) (.inl dC) ?_; rintro _ _ _ ⟨rfl,rfl⟩; refine SX.u (i:=11) I kD (aS I) dC ?_)
   | refine zd7 4 9 kD ?_ ?_
   | refine zd7 5 9 kD ?_ ?_
   | refine zd6 9 kD ?_
   | refine zd6 10 kD ?_
   | refine zd6 5 kD ?_
   | refine zd6 4 kD ?_
   | (refine SX.nil kD ?_; exact za9 (bF,gF,(findC l m1).getD cJ,rF) sB I I ⟨hleF,hcF,uI hf m1⟩))
 rintro ⟨b12,g5,Y,⟨yi,yd,yp,yn,yc⟩⟩ ⟨hle5,⟨-,-,hys⟩,hyl⟩;dsimp only at hle5 hys hyl ⊢;have hyn:yn=Y.sides.length:=zc2 hys;subst hyn;have hv5:=hv4.mono hle5;have hI5:=za5 hI hle5;have hle45:=hle4.trans hle5;have hV5:=za5 hV hle45;have hW5:=za5 hW hle45;have hxs5:=za5 hxs hle5;have hle15:=hle13.trans hle45;refine sQ (rZ (lU (fA ir I zT3 I) (lK (qL (v:=vi k0) iT3 I (cO 4 I I)) (lW (cL mh I (bL E g5 _ k0 10 dC)) ?_))));rintro _ _ _ ⟨rfl,rfl,rfl⟩;generalize co k0 10=kd at *;refine tZ (bK (rZ (yE I (aT I ?_))));refine iP I (fun h0=>?_) (fun h0=>?_)
 ·refine sW I (lU (za3 I (bA42 _ _)) ?_);refine oZ (sK 2 iY rfl rfl rfl rfl rfl (by (repeat' (first | exact trivial | refine⟨by rfl,?_⟩)))) ?_;refine tZ (rE (bR (tR ?_)));exact ST.retCD 2 s (.inl I) results13 I rt iY I I uR ⟨I,hle15,⟨1,n,0,0,0,[],[]⟩,⟨_,_,I,zc1 _ _,zc1 _ _⟩,by simp,by simp,fun _=>I,fun h _ _ _=>⟨fun _=>hn64 h,fun h1=>absurd (show (1:Int)=3 from h1) dC⟩⟩
 ·refine rZ (yE I (aT I ?_));refine iP I (fun h1=>?_) (fun h1=>?_)
  ·refine sQ ?_;refine dW [13] [(0,2),(1,2),(2,2),(3,1),(6,2),(7,2),(8,1),(4,0),(5,2),(9,0),(10,2),(11,0),(12,2),(13,0)] ze3 kR ?_;refine yM I (yM I (pU I (fA ir I zT3 I) (pK I (qL (v:=vi ka) iT3 I (cO 4 I I)) (yM I (pU I (fA ir I zT3 I) (pK I (qL (v:=vi kb) iT3 I (cO 4 I I)) (SP.o I (cL call47 I (dV E g5 _ _ V ka hV5 hl0)) dC (.inr iR) ?_)))))));rintro _ _ _ ⟨rfl,rfl,a1,rfl⟩;refine pU I (za3 I (buildS75 _ _)) (SP.o I (cL call47 I (dV E g5 _ _ V kb hV5 hl0)) dC (.inr iR) ?_);rintro _ _ _ ⟨rfl,rfl,a2,rfl⟩;refine pU I (za3 I (buildS75 _ _)) (SP.o I (bS sty39 I I I (ae sB) dC) dC (.inr iR) ?_);rintro _ _ _ ⟨b88,rfl,rfl,rfl⟩;refine SP.freeze fun g6 hle6 hb6=>?_;have hs6:SlA encSide g6 (.slice (some ⟨b88,0,none⟩) 2 2) [⟨a1,1⟩,⟨a2,-1⟩]:=SlA.lit hb6 rfl rfl;refine pU I (za3 I (bB42 _ _ _ _ _ _)) ?_;refine SP.on rfl (sK 2 iY rfl rfl rfl rfl rfl (by (repeat' (first | exact trivial | refine⟨by rfl,?_⟩)))) (.inl dC) ?_;rintro _ _ _ ⟨rfl,rfl⟩;refine pN (tN (rE (bR (tR ?_))));exact ST.retCD 2 s (.inl I) results13 I rt iY I I uR ⟨I,hle15.trans hle6,⟨1,n,1,0,0,[⟨a1,1⟩,⟨a2,-1⟩],[]⟩,⟨_,_,I,hs6,zc1 _ _⟩,by simp,by simp,fun _=>I,fun h _ _ _=>⟨fun _=>hn64 h,fun h1=>absurd (show (1:Int)=3 from h1) dC⟩⟩
  ·refine rZ (yE I (aT I ?_));refine iP I (fun h2=>?_) (fun h2=>?_)
   ·refine SC.cut (ι:=Nat×Option Addr×Nat) (fun i=>[(2,pp b2 0),(4,pp b4 0),(14,pp i.1 0)]) (fun _=>g5) (fun i=>pt i.1 (.cells #[vi 1,vi n,vi xd,vi 0,vi 0,.slice i.2.1 X.sides.length i.2.2,.slice none 0 0] 42 (0,0))::rowA encSide 75 (.slice i.2.1 X.sides.length i.2.2) X.sides::pt b12 (.cells #[vi yi,vi yd,.slice yp Y.sides.length yc] 56 (0,0))::pt b10 (.cells #[vi xi,vi xd,.slice xp X.sides.length xc] 56 (0,0))::pt b4 (.cells #[vi 0,vi 0,vi 0,vi 0,vi 0,.slice none 0 0,.slice none 0 0] 42 (0,0))::pt b3 (.cells #[.slice p l.length c] 29 (0,0))::pt b2 (.cells #[vi k0,vi ka,vi kb,vi kc] 44 (0,0))::s) (fun _=>True) ?_ ?_
    ·refine SC.drawX [9] ze3 kR ?_;refine SX.u (i:=0) I kR (mV I) dC (SX.u (i:=1) I kR (fA au I zT3 I) dC (SX.q (i:=2) I kR (qL (v:=vi xd) iT3 I (cO (by exact 1) I I)) dC ?_));refine SX.u (i:=4) I kR (fA au I bQ I) dC (SX.q (i:=5) I kR (qL (v:=.slice xp X.sides.length xc) cZ I (cO (by exact 1) I I)) dC ?_);refine zd7 3 8 kR ?_ ?_
     ·refine SB.o (i:=3) I (bS sty39 I I I (ae trivial) dC) dC (.inr iR) ?_;rintro _ _ _ ⟨b95,rfl,rfl,rfl⟩;refine SX.drop (zj1 _ _) ?_;refine zd7 6 8 kR ?_ ?_
      ·refine SB.o (i:=6) I (SO.appNewA (e:=encSide) sty39 I I hxs5 oM oM) dC (.inr iR) ?_;rintro v98 _ _ ⟨rfl,rfl⟩;refine SX.facts fun ⟨w0,hw0⟩=>?_;obtain ⟨q8,d8,rfl⟩:=ag (e:=encSide) (l:=X.sides) (i:=0) hw0 rfl;clear hw0 w0
       first | refine SX.to (fun w hw=>At.perm hw (zk1 (pt b14 _) _ _)) ?_ | skip
       refine SX.u (i:=7) I kR (za3 I (bB42 _ _ _ _ _ _)) dC ?_;refine zd6 8 kR ?_
       ·refine SB.o (i:=8) I (aL zl7) dC (.inr iR) ?_;rintro _ _ _ ⟨b14,rfl,rfl,rfl⟩;refine zd6 9 kR ?_
        ·refine SB.on (i:=9) rfl (sK 0 iY rfl rfl rfl rfl rfl (by (repeat' (first | exact trivial | refine⟨by rfl,?_⟩)))) (.inl dC) ?_;rintro _ _ _ ⟨rfl,rfl⟩;refine SX.nil kR ?_;exact za9 (b14,q8,d8) sB I I trivial
      ·refine SB.o (i:=8) I (aL zl7) dC (.inr iR) ?_;rintro _ _ _ ⟨b14,rfl,rfl,rfl⟩;refine zd6 6 kR ?_
       ·refine SB.o (i:=6) I (SO.appNewA (e:=encSide) sty39 I I hxs5 oM oM) dC (.inr iR) ?_;rintro v98 _ _ ⟨rfl,rfl⟩;refine SX.facts fun ⟨w0,hw0⟩=>?_;obtain ⟨q8,d8,rfl⟩:=ag (e:=encSide) (l:=X.sides) (i:=0) hw0 rfl;clear hw0 w0
        first | refine SX.to (fun w hw=>At.perm hw (zk1 (pt b14 _) _ _)) ?_ | skip
        refine SX.u (i:=7) I kR (za3 I (bB42 _ _ _ _ _ _)) dC ?_;refine zd6 9 kR ?_
        ·refine SB.on (i:=9) rfl (sK 0 iY rfl rfl rfl rfl rfl (by (repeat' (first | exact trivial | refine⟨by rfl,?_⟩)))) (.inl dC) ?_;rintro _ _ _ ⟨rfl,rfl⟩;refine SX.nil kR ?_;exact za9 (b14,q8,d8) sB I I trivial
     ·refine SB.o (i:=8) I (aL zl7) dC (.inr iR) ?_;rintro _ _ _ ⟨b14,rfl,rfl,rfl⟩;refine zd6 3 kR ?_
      ·refine SB.o (i:=3) I (bS sty39 I I I (ae trivial) dC) dC (.inr iR) ?_;rintro _ _ _ ⟨b95,rfl,rfl,rfl⟩;refine SX.drop (zj1 _ _) ?_;refine zd6 6 kR ?_
       ·refine SB.o (i:=6) I (SO.appNewA (e:=encSide) sty39 I I hxs5 oM oM) dC (.inr iR) ?_;rintro v98 _ _ ⟨rfl,rfl⟩;refine SX.facts fun ⟨w0,hw0⟩=>?_;obtain ⟨q8,d8,rfl⟩:=ag (e:=encSide) (l:=X.sides) (i:=0) hw0 rfl;clear hw0 w0
        first | refine SX.to (fun w hw=>At.perm hw (zk1 (pt b14 _) _ _)) ?_ | skip
        refine SX.u (i:=7) I kR (za3 I (bB42 _ _ _ _ _ _)) dC ?_;refine zd6 9 kR ?_
        ·refine SB.on (i:=9) rfl (sK 0 iY rfl rfl rfl rfl rfl (by (repeat' (first | exact trivial | refine⟨by rfl,?_⟩)))) (.inl dC) ?_;rintro _ _ _ ⟨rfl,rfl⟩;refine SX.nil kR ?_;exact za9 (b14,q8,d8) sB I I trivial
    rintro ⟨b14,q8,d8⟩ -;try dsimp only
    refine SC.cut (ι:=Int) (fun _=>[(2,pp b2 0),(4,pp b4 0),(14,pp b14 0)]) (fun _=>g5) (fun d=>pt b14 (.cells #[vi 1,vi n,vi d,vi 0,vi 0,.slice q8 X.sides.length d8,.slice none 0 0] 42 (0,0))::rowA encSide 75 (.slice q8 X.sides.length d8) X.sides::pt b12 (.cells #[vi yi,vi yd,.slice yp Y.sides.length yc] 56 (0,0))::pt b10 (.cells #[vi xi,vi xd,.slice xp X.sides.length xc] 56 (0,0))::pt b4 (.cells #[vi 0,vi 0,vi 0,vi 0,vi 0,.slice none 0 0,.slice none 0 0] 42 (0,0))::pt b3 (.cells #[.slice p l.length c] 29 (0,0))::pt b2 (.cells #[vi k0,vi ka,vi kb,vi kc] 44 (0,0))::s) (fun _=>True) ?_ ?_
    ·refine rZ (lU (fA ir I zT3 I) (lK (qL (v:=vi kb) iT3 I (cO 6 I I)) (lU (zd8 I I dC) (yE I (tZ ?_)))));refine iP I (fun hz=>?_) (fun hz=>?_)
     ·refine rG (lU (fA cY rfl zT3 rfl) (lK (qL (v:=vi xd) iT3 rfl (cO 0 rfl rfl)) (lU (ze1 rfl rfl) (lU (fA cY rfl zT3 rfl) (oZ (SO.store1 0 zT3 rfl rfl rfl rfl (bE rfl) (by rfl)) ?_)))));refine nL ?_;exact za9 (IntKind.i64.wrap (xd+1)) sB I I trivial
     ·refine kP ?_;exact za9 xd sB I I trivial
    rintro ed -;try dsimp only
    refine SC.cut (ι:=List Side) (fun _=>[(4,pp b4 0),(14,pp b14 0)]) (fun _=>g5) (fun S=>pt b14 (.cells #[vi 1,vi n,vi ed,vi 0,vi 0,.slice q8 X.sides.length d8,.slice none 0 0] 42 (0,0))::rowA encSide 75 (.slice q8 X.sides.length d8) S::pt b12 (.cells #[vi yi,vi yd,.slice yp Y.sides.length yc] 56 (0,0))::pt b10 (.cells #[vi xi,vi xd,.slice xp X.sides.length xc] 56 (0,0))::pt b4 (.cells #[vi 0,vi 0,vi 0,vi 0,vi 0,.slice none 0 0,.slice none 0 0] 42 (0,0))::pt b3 (.cells #[.slice p l.length c] 29 (0,0))::pt b2 (.cells #[vi k0,vi ka,vi kb,vi kc] 44 (0,0))::s) (fun S=>S.length=X.sides.length) ?_ ?_
    ·refine SC.cutB 117 (decide (kb.tmod 9=4)&&decide (0<X.sides.length)) ?_ ?_
     ·refine rG (lU (fA ir I zT3 I) (lK (qL (v:=vi kb) iT3 I (cO 6 I I)) (lU (zd8 I I dC) (yE I (lM I ?_)))));refine sP ?_ ?_
      ·intro h112;refine lY I I I (fA cY I bQ I) (SL.gq (gT I I I dC) (qL (v:=.slice q8 X.sides.length d8) cZ I (cO 0 I I)) dC (lY I I I (eN aY I) (lY I I I (gR I I) (yP I (nL ?_)))));exact zb1 (by (simp_all[bh]; done)) mI
      ·intro h112;refine yA I (yA I (yA I (yA I (yF I (nL ?_)))));exact zb1 (by (simp_all[bh]; done)) mI
     refine iQ I (fun hq=>?_) (fun hq=>?_)
     ·simp only[zj3,zj6] at hq;have hg0:X.sides[0]?=some (X.sides[0]'hq.2):=gE hq.2;generalize X.sides[0]'hq.2=x0 at *;refine SC.facts fun ⟨w0,hw0⟩=>?_;obtain ⟨bu,cap,hbu⟩:=aW (e:=encSide) (l:=X.sides) (i:=1) hw0 rfl oM;obtain ⟨rfl,rfl⟩:q8=some ⟨bu,0,none⟩∧d8=cap:=by injection hbu with h1 _ h2; exact⟨h1,h2⟩
      clear hw0 w0 hbu;refine dW [10] [(0,2),(1,1),(2,2),(3,1),(4,2),(5,2),(6,1),(7,2),(8,2),(9,2),(10,0)] ze3 kR ?_;refine pU I (fA cY I bQ I) (pK I (qL (v:=.slice (some ⟨bu,0,none⟩) X.sides.length d8) cZ I (cO 0 I I)) (pU I (fA cY I bQ I) (pK I (qL (v:=.slice (some ⟨bu,0,none⟩) X.sides.length d8) cZ I (cO 0 I I)) (pU I (iA aY aI I I I oM sL) (pU I (fA dw I zT3 I) (pK I (aZ (e:=encSide) (a:=x0) (j:=0) (o:=1) (u:=vi x0.sign) iT3 I (zb7 1 I) hg0 I) (pU I (SU.neg I) (pU I (iA aY aI I I I oM sL) (pU I (fA dw I zT3 I) (SP.on I (SO.partA (e:=encSide) (a:=x0) (j:=0) (o:=1) 1 ⟨x0.cell,IntKind.i64.wrap (0 - x0.sign)⟩ zT3 I I I hg0 I I dC I) (.inl dC) ?_))))))))));rintro _ _ _ ⟨rfl,rfl⟩;refine pN ?_;exact za9 (X.sides.set 0 ⟨x0.cell,IntKind.i64.wrap (0 - x0.sign)⟩) sB I I (by simp)
     ·refine kP ?_;exact za9 X.sides sB I I I
    rintro S hS;try dsimp only at hS ⊢
    refine rZ (lK (qV 0 rt iY I I I) ?_);refine oZ (sK 4 iY rfl rfl rfl rfl rfl (by (repeat' (first | exact trivial | refine⟨by rfl,?_⟩)))) ?_;refine tZ (rE (bR (tR ?_)));rw[← hS];refine ST.perm (zk1 _ _ _) (fT fun g6 hle6 hs6=>?_);exact ST.retCD 3 s (.inl I) results13 I rt iY I I uR ⟨I,hle15.trans hle6,⟨1,n,ed,0,0,S,[]⟩,⟨_,_,I,hs6,zc1 _ _⟩,by dsimp only; omega,by simp,fun _=>I,fun h _ _ _=>⟨fun _=>hn64 h,fun h1=>absurd (show (1:Int)=3 from h1) dC⟩⟩
   ·refine rZ (yE I (aT I ?_));refine iP I (fun h3=>?_) (fun h3=>?_)
    ·refine sW I (lU (fA au I zT3 I) (lK (qL (v:=vi xd) iT3 I (cO 1 I I)) (lU (ze1 I I) (lU (fA au I zT3 I) (lK (qL (v:=vi xi) iT3 I (cO 1 I I)) (lU (za3 I (buildS75 _ _)) (lU (fA au I zT3 I) (lK (qL (v:=vi yi) iT3 I (cO 0 I I)) (lU (za3 I (buildS75 _ _)) (lW (bS sty39 I I I (ae sB) dC) ?_))))))))));rintro _ _ _ ⟨b88,rfl,rfl,rfl⟩;refine zb5 fun g6 hle6 hb6=>?_;have hs6:SlA encSide g6 (.slice (some ⟨b88,0,none⟩) 2 2) [⟨xi,1⟩,⟨yi,-1⟩]:=SlA.lit hb6 rfl rfl;refine lU (za3 I (bB42 _ _ _ _ _ _)) ?_;refine oZ (sK 2 iY rfl rfl rfl rfl rfl (by (repeat' (first | exact trivial | refine⟨by rfl,?_⟩)))) ?_;refine tZ (rE (bR (tR ?_)));exact ST.retCD 2 s (.inl I) results13 I rt iY I I uR ⟨I,hle15.trans hle6,⟨1,n,IntKind.i64.wrap (xd+1),0,0,[⟨xi,1⟩,⟨yi,-1⟩],[]⟩,⟨_,_,I,hs6,zc1 _ _⟩,by simp,by simp,fun _=>I,fun h _ _ _=>⟨fun _=>hn64 h,fun h1=>absurd (show (1:Int)=3 from h1) dC⟩⟩
    ·refine rZ (yE I (aT I ?_));refine iP I (fun h4=>?_) (fun h4=>?_)
     ·refine sQ (rZ (lU (fA ir I zT3 I) (lK (qL (v:=vi kb) iT3 I (cO 4 I I)) (lU (zd8 I I dC) (lU (nQ I I) (tZ ?_))))));refine iP I (fun hz=>?_) (fun hz=>?_)
      ·refine sQ ?_;refine dW [6] [(0,1),(2,2),(3,1),(1,0),(4,0),(5,2),(6,0)] ze3 kR ?_;refine pK I (qV 3 ba aC I I I) (pU I (fA ir I zT3 I) (pK I (qL (v:=vi ka) iT3 I (cO 4 I I)) (SP.o I (cL call49 I (vG E g5 _ _ l hv5 hf)) dC (.inr iR) ?_)));rintro _ g6 _ ⟨rfl,hle6,hT⟩;obtain ⟨pT,cT,rfl⟩:=za4 hT;refine SP.o I (cL call47 I (dV E g6 _ _ (wu l) ka hT htl)) dC (.inr iR) ?_;rintro _ _ _ ⟨rfl,rfl,a1,rfl⟩;refine pU I (za3 I (bA42 _ _)) ?_;refine SP.on rfl (sK 2 iY rfl rfl rfl rfl rfl (by (repeat' (first | exact trivial | refine⟨by rfl,?_⟩)))) (.inl dC) ?_;rintro _ _ _ ⟨rfl,rfl⟩;refine pN (tN (rE (tR (bR (tR ?_)))));exact ST.retCD 2 s (.inl I) results13 I rt iY I I uR ⟨I,hle15.trans hle6,⟨2,a1,0,0,0,[],[]⟩,⟨_,_,I,zc1 _ _,zc1 _ _⟩,by simp,by simp,(by intro hk3; exfalso; omega),fun _ _ _ _=>⟨fun h1=>absurd (show (2:Int)=1 from h1) dC,fun h1=>absurd (show (2:Int)=3 from h1) dC⟩⟩
      ·refine kP (tN (rZ (lU (fA au I zT3 I) (lK (qL (v:=vi xi) iT3 I (cO 1 I I)) (lU (za3 I (bA42 _ _)) ?_)))));refine oZ (sK 2 iY rfl rfl rfl rfl rfl (by (repeat' (first | exact trivial | refine⟨by rfl,?_⟩)))) ?_;refine tZ (rE (bR (tR ?_)));exact ST.retCD 2 s (.inl I) results13 I rt iY I I uR ⟨I,hle15,⟨2,xi,0,0,0,[],[]⟩,⟨_,_,I,zc1 _ _,zc1 _ _⟩,by simp,by simp,(by intro hk3; exfalso; omega),fun _ _ _ _=>⟨fun h1=>absurd (show (2:Int)=1 from h1) dC,fun h1=>absurd (show (2:Int)=3 from h1) dC⟩⟩
     ·refine SC.cut (ι:=Unit) (fun _=>[(2,pp b2 0),(3,pp b3 0),(4,pp b4 0),(7,.slice pV V.length cV),(8,.slice pW W.length cW),(9,vi n),(10,pp b10 0),(12,pp b12 0),(70,vi kd),(158,vb (decide (kd=5∨kd=6)))]) (fun _=>g5) (fun _=>pt b12 (.cells #[vi yi,vi yd,.slice yp Y.sides.length yc] 56 (0,0))::pt b10 (.cells #[vi xi,vi xd,.slice xp X.sides.length xc] 56 (0,0))::pt b4 (.cells #[vi 0,vi 0,vi 0,vi 0,vi 0,.slice none 0 0,.slice none 0 0] 42 (0,0))::pt b3 (.cells #[.slice p l.length c] 29 (0,0))::pt b2 (.cells #[vi k0,vi ka,vi kb,vi kc] 44 (0,0))::s) (fun _=>True) ?_ ?_
      ·refine rZ (yE I (aT I ?_));refine iP I (fun h5=>?_) (fun h5=>?_)
       ·refine kP ?_;exact za9 () ⟨I,I,I,I,I,I,I,I,I,by rw[decide_eq_decide.2 (show (kd=5∨kd=6)↔kd=5 from ⟨fun _=>h5,.inl⟩)]; rfl,trivial⟩ rfl rfl trivial
       ·refine rG (yE I (lA I (nL ?_)));exact za9 () ⟨I,I,I,I,I,I,I,I,I,by rw[decide_eq_decide.2 (show (kd=5∨kd=6)↔kd=6 from ⟨fun h=>h.resolve_left h5,.inr⟩)]; rfl,trivial⟩ rfl rfl trivial
      rintro _ -;try dsimp only
      refine iP I (fun h56=>?_) (fun h56=>?_)
      ·refine SC.cut (ι:=Nat×Int) (fun i=>[(2,pp b2 0),(4,pp b4 0),(9,vi n),(10,pp b10 0),(15,pp i.1 0)]) (fun _=>g5) (fun i=>pt i.1 (.cells #[vi 3,vi i.2,vi 0,vi n,vi (IntKind.i64.wrap (n+1)),.slice none 0 0,.slice none 0 0] 42 (0,0))::pt b12 (.cells #[vi yi,vi yd,.slice yp Y.sides.length yc] 56 (0,0))::pt b10 (.cells #[vi xi,vi xd,.slice xp X.sides.length xc] 56 (0,0))::pt b4 (.cells #[vi 0,vi 0,vi 0,vi 0,vi 0,.slice none 0 0,.slice none 0 0] 42 (0,0))::pt b3 (.cells #[.slice p l.length c] 29 (0,0))::pt b2 (.cells #[vi k0,vi ka,vi kb,vi kc] 44 (0,0))::s) (fun _=>True) ?_ ?_
       ·refine rG (lM I (lU (fA ir I zT3 I) (lK (qL (v:=vi ka) iT3 I (cO 4 I I)) (lW (cL call47 I (dV E g5 _ _ W ka hW5 hl1)) ?_))));rintro _ _ _ ⟨rfl,rfl,a1,rfl⟩;refine lM I (lM I (lU (ze1 I I) (lU (za3 I (bC42 _ _ _ _)) (bW (aL zl7) fun b15=>?_))));refine oZ (sK 0 iY rfl rfl rfl rfl rfl (by (repeat' (first | exact trivial | refine⟨by rfl,?_⟩)))) ?_;refine nL ?_;exact za9 (b15,a1) sB I I trivial
       rintro ⟨b15,a1⟩ -;try dsimp only
       refine SC.cut (ι:=Int×Int×Int) (fun _=>[(4,pp b4 0),(15,pp b15 0)]) (fun _=>g5) (fun i=>pt b15 (.cells #[vi 3,vi i.1,vi 0,vi i.2.1,vi i.2.2,.slice none 0 0,.slice none 0 0] 42 (0,0))::pt b12 (.cells #[vi yi,vi yd,.slice yp Y.sides.length yc] 56 (0,0))::pt b10 (.cells #[vi xi,vi xd,.slice xp X.sides.length xc] 56 (0,0))::pt b4 (.cells #[vi 0,vi 0,vi 0,vi 0,vi 0,.slice none 0 0,.slice none 0 0] 42 (0,0))::pt b3 (.cells #[.slice p l.length c] 29 (0,0))::pt b2 (.cells #[vi k0,vi ka,vi kb,vi kc] 44 (0,0))::s) (fun i=>(∀ c∈l,bw c.id)→bw i.2.1∧bw i.2.2) ?_ ?_
       ·refine rZ (lU (fA ir I zT3 I) (lK (qL (v:=vi kb) iT3 I (cO 5 I I)) (lW (cL mh I (bL E g5 _ kb 12 dC)) ?_)));rintro _ _ _ ⟨rfl,rfl,rfl⟩;generalize co kb 12=kt at *;refine tZ (bK (rZ (yE I (aT I ?_))));refine iP I (fun k0=>?_) (fun k0=>?_)
        ·refine rG (lU (fA au rfl zT3 rfl) (lK (qL (v:=vi xi) iT3 rfl (cO 2 rfl rfl)) (lU (fA cY rfl zT3 rfl) (oZ (SO.store1 0 zT3 rfl rfl rfl rfl (bE rfl) (by rfl)) ?_))));refine nL (bN ?_);exact za9 (xi,n,IntKind.i64.wrap (n+1)) sB I I fun h=>⟨hn64 h,jp _⟩
        ·refine rZ (yE I (aT I ?_));refine iP I (fun k1=>?_) (fun k1=>?_)
         ·refine rG (lU (fA cY rfl zT3 rfl) (lK (qL (v:=vi (IntKind.i64.wrap (n+1))) iT3 rfl (cO 0 rfl rfl)) (lU (fA cY rfl zT3 rfl) (oZ (SO.store1 0 zT3 rfl rfl rfl rfl (bE rfl) (by rfl)) ?_))));refine nL (bN ?_);exact za9 (a1,IntKind.i64.wrap (n+1),IntKind.i64.wrap (n+1)) sB I I fun h=>⟨jp _,jp _⟩
         ·refine rZ (yE I (aT I ?_));refine iP I (fun k2=>?_) (fun k2=>?_)
          ·refine rG (lU (fA ir rfl zT3 rfl) (lK (qL (v:=vi ka) iT3 rfl (cO 5 rfl rfl)) (lU (SU.neg rfl) (lU (fA cY rfl zT3 rfl) (oZ (SO.store1 0 zT3 rfl rfl rfl rfl (bE rfl) (by rfl)) ?_)))));refine nL (bN ?_);exact za9 (a1,n,IntKind.i64.wrap (0 - ka)) sB I I fun h=>⟨hn64 h,jp _⟩
          ·refine rZ (yE I (aT I ?_));refine iP I (fun k3=>?_) (fun k3=>?_)
           ·refine sW rfl (lU (ze1 rfl rfl) (lU (fA cY rfl zT3 rfl) (oZ (SO.store1 0 zT3 rfl rfl rfl rfl (bE rfl) (by rfl)) ?_)));refine tZ (rG (lM rfl (lU (fA cY rfl zT3 rfl) (oZ (SO.store1 0 zT3 rfl rfl rfl rfl (bE rfl) (by rfl)) ?_))));refine nL (bN ?_);exact za9 (a1,IntKind.i64.wrap (n+1),n) sB I I fun h=>⟨jp _,hn64 h⟩
           ·refine kP (bN ?_);exact za9 (a1,n,IntKind.i64.wrap (n+1)) sB I I fun h=>⟨hn64 h,jp _⟩
       rintro ⟨e1,e2,e3⟩ he64;try dsimp only at he64 ⊢
       refine rZ (lK (qV 0 rt iY I I I) ?_);refine oZ (sK 3 iY rfl rfl rfl rfl rfl (by (repeat' (first | exact trivial | refine⟨by rfl,?_⟩)))) ?_;refine tZ (rE (bR (tR ?_)));exact ST.retCD 3 s (.inl I) results13 I rt iY I I uR ⟨I,hle15,⟨3,e1,0,e2,e3,[],[]⟩,⟨_,_,I,zc1 _ _,zc1 _ _⟩,by simp,by simp,(by intro hk3; exfalso; omega),fun h ha _ _=>⟨fun h1=>absurd (show (3:Int)=1 from h1) dC,fun _=>he64 h⟩⟩
      ·refine rZ (yE I (aT I ?_));refine iP I (fun h7=>?_) (fun h7=>?_)
       ·refine SC.cut (ι:=Nat×Option Addr×Nat×List Pr) (fun i=>[(2,pp b2 0),(3,pp b3 0),(4,pp b4 0),(7,.slice pV V.length cV),(8,.slice pW W.length cW),(16,pp i.1 0)]) (fun _=>g5) (fun i=>pt i.1 (.cells #[vi 4,vi 0,vi 0,vi 0,vi 0,.slice none 0 0,.slice i.2.1 i.2.2.2.length i.2.2.1] 42 (0,0))::rowA iT 76 (.slice i.2.1 i.2.2.2.length i.2.2.1) i.2.2.2::pt b12 (.cells #[vi yi,vi yd,.slice yp Y.sides.length yc] 56 (0,0))::pt b10 (.cells #[vi xi,vi xd,.slice xp X.sides.length xc] 56 (0,0))::pt b4 (.cells #[vi 0,vi 0,vi 0,vi 0,vi 0,.slice none 0 0,.slice none 0 0] 42 (0,0))::pt b3 (.cells #[.slice p l.length c] 29 (0,0))::pt b2 (.cells #[vi k0,vi ka,vi kb,vi kc] 44 (0,0))::s) (fun i=>i.2.2.2.length≤1) ?_ ?_
        ·refine rG (lU (fA au I zT3 I) (lK (qL (v:=vi xi) iT3 I (cO 1 I I)) (lU (fA au I zT3 I) (lK (qL (v:=vi yi) iT3 I (cO 0 I I)) (lU (za3 I (build76 _ _)) (lW (bS sty40 I I I (ae ⟨I,trivial⟩) dC) ?_))))));rintro _ _ _ ⟨b203,rfl,rfl,rfl⟩;refine SL.to (fun w hw=>At.litRow (e:=iT) (l:=[(xi,yi)]) (n:=0) hw I I dC) ?_;refine lU (za3 I (bD42 _ _ _ _)) (bW (aL zl7) fun b16=>?_);refine oZ (sK 0 iY rfl rfl rfl rfl rfl (by (repeat' (first | exact trivial | refine⟨by rfl,?_⟩)))) ?_;refine nL ?_;exact za9 (b16,some ⟨b203,0,none⟩,1,[(xi,yi)]) sB I I (lR 1)
        rintro ⟨b16,q6,d6,P6⟩ hP6;dsimp only at hP6 ⊢;refine SC.cut (ι:=Option Addr×Nat×List Pr) (fun _=>[(2,pp b2 0),(3,pp b3 0),(4,pp b4 0),(7,.slice pV V.length cV),(8,.slice pW W.length cW),(16,pp b16 0)]) (fun i=>g5) (fun i=>pt b16 (.cells #[vi 4,vi 0,vi 0,vi 0,vi 0,.slice none 0 0,.slice i.1 i.2.2.length i.2.1] 42 (0,0))::rowA iT 76 (.slice i.1 i.2.2.length i.2.1) i.2.2::pt b12 (.cells #[vi yi,vi yd,.slice yp Y.sides.length yc] 56 (0,0))::pt b10 (.cells #[vi xi,vi xd,.slice xp X.sides.length xc] 56 (0,0))::pt b4 (.cells #[vi 0,vi 0,vi 0,vi 0,vi 0,.slice none 0 0,.slice none 0 0] 42 (0,0))::pt b3 (.cells #[.slice p l.length c] 29 (0,0))::pt b2 (.cells #[vi k0,vi ka,vi kb,vi kc] 44 (0,0))::s) (fun i=>i.2.2.length≤1) ?_ ?_
        ·refine rZ (lU (fA ir I zT3 I) (lK (qL (v:=vi kb) iT3 I (cO 6 I I)) (lU (zd8 I I dC) (yE I (tZ ?_)))));refine iP I (fun hz=>?_) (fun hz=>?_)
         ·refine dW [12] [(0,2),(1,2),(2,1),(4,2),(5,2),(6,1),(7,2),(3,0),(8,0),(9,2),(10,0),(11,2),(12,0)] ze3 kR ?_;refine yM I (pU I (fA ir I zT3 I) (pK I (qL (v:=vi ka) iT3 I (cO 6 I I)) (yM I (pU I (fA ir I zT3 I) (pK I (qL (v:=vi kb) iT3 I (cO 6 I I)) (pU I (SU.quo I I dC) (SP.o I (cL call47 I (dV E g5 _ _ V ka hV5 hl0)) dC (.inr iR) ?_)))))));rintro _ _ _ ⟨rfl,rfl,a1,rfl⟩;refine SP.o I (cL call47 I (dV E g5 _ _ V _ hV5 hl0)) dC (.inr iR) ?_;rintro _ _ _ ⟨rfl,rfl,a2,rfl⟩;refine pU I (za3 I (build76 _ _)) (SP.o I (bS sty40 I I I (ae ⟨I,trivial⟩) dC) dC (.inr iR) ?_);rintro _ _ _ ⟨b219,rfl,rfl,rfl⟩;refine SP.to (fun w hw=>At.litRow (e:=iT) (l:=[(a1,a2)]) (n:=0) hw I I dC) ?_;refine SP.drop (.cons_cons _ (.cons_cons _ (.cons _ (.refl _)))) ?_;refine SP.to (fun w hw=>At.perm hw (zk1 (pt b16 _) _ _)) ?_;refine pU rfl (fA cY rfl sizeOf40 rfl) (SP.on rfl (SO.store1 0 sizeOf40 rfl rfl rfl rfl (bE rfl) (by rfl)) (.inl dC) ?_);rintro _ _ _ ⟨rfl,rfl⟩;refine pN ?_;exact za9 (some ⟨b219,0,none⟩,1,[(a1,a2)]) sB I I (lR 1)
         ·refine kP ?_;exact za9 (q6,d6,P6) sB I I hP6
        clear hP6;rintro ⟨q6,d6,P6⟩ hP6;dsimp only at hP6 ⊢;refine SC.cut (ι:=PH×Option Addr×Nat×List Pr) (fun _=>[(2,pp b2 0),(3,pp b3 0),(4,pp b4 0),(7,.slice pV V.length cV),(8,.slice pW W.length cW),(16,pp b16 0)]) (fun i=>i.1) (fun i=>pt b16 (.cells #[vi 4,vi 0,vi 0,vi 0,vi 0,.slice none 0 0,.slice i.2.1 i.2.2.2.length i.2.2.1] 42 (0,0))::rowA iT 76 (.slice i.2.1 i.2.2.2.length i.2.2.1) i.2.2.2::pt b12 (.cells #[vi yi,vi yd,.slice yp Y.sides.length yc] 56 (0,0))::pt b10 (.cells #[vi xi,vi xd,.slice xp X.sides.length xc] 56 (0,0))::pt b4 (.cells #[vi 0,vi 0,vi 0,vi 0,vi 0,.slice none 0 0,.slice none 0 0] 42 (0,0))::pt b3 (.cells #[.slice p l.length c] 29 (0,0))::pt b2 (.cells #[vi k0,vi ka,vi kb,vi kc] 44 (0,0))::s) (fun i=>Le g5 i.1∧i.2.2.2.length≤1) ?_ ?_
        ·refine rZ (lU (fA ir I zT3 I) (lK (qL (v:=vi kb) iT3 I (cO 6 I I)) (lU (zd8 I I dC) (yE I (tZ ?_)))));refine iP I (fun hz=>?_) (fun hz=>?_)
         ·refine rG (lK (qV 5 ba aC I I I) (lU (fA ir I zT3 I) (lK (qL (v:=vi ka) iT3 I (cO 6 I I)) (lW (cL call50 I (Ay E g5 _ _ l ka hv5 hf)) ?_))));rintro v228 g6 _ ⟨Q6,rfl,hle6,hQ6⟩;refine zd3 fun ⟨w0,hw0⟩=>?_;obtain ⟨q7,d7,rfl⟩:=ag (e:=iT) (l:=Q6) (i:=0) hw0 rfl;clear hw0 w0;refine SL.drop (.cons_cons _ (.cons_cons _ (.cons _ (.refl _)))) ?_;refine SL.to (fun w hw=>At.perm hw (zk1 (pt b16 _) _ _)) ?_;refine lU (fA cY rfl sizeOf40 rfl) (oZ (SO.store1 0 sizeOf40 rfl rfl rfl rfl (bE rfl) (by rfl)) ?_);refine nL ?_;exact za9 (g6,q7,d7,Q6) sB I I ⟨hle6,hQ6⟩
         ·refine kP ?_;exact za9 (g5,q6,d6,P6) sB I I ⟨zb9 _,hP6⟩
        clear hP6;rintro ⟨g6,q6,d6,P6⟩ ⟨hle6,hP6⟩;dsimp only at hle6 hP6 ⊢;have hV6:=za5 hV5 hle6;have hW6:=za5 hW5 hle6;refine SC.cut (ι:=PH×Option Addr×Nat×List Pr) (fun _=>[(4,pp b4 0),(16,pp b16 0)]) (fun i=>i.1) (fun i=>pt b16 (.cells #[vi 4,vi 0,vi 0,vi 0,vi 0,.slice none 0 0,.slice i.2.1 i.2.2.2.length i.2.2.1] 42 (0,0))::rowA iT 76 (.slice i.2.1 i.2.2.2.length i.2.2.1) i.2.2.2::pt b12 (.cells #[vi yi,vi yd,.slice yp Y.sides.length yc] 56 (0,0))::pt b10 (.cells #[vi xi,vi xd,.slice xp X.sides.length xc] 56 (0,0))::pt b4 (.cells #[vi 0,vi 0,vi 0,vi 0,vi 0,.slice none 0 0,.slice none 0 0] 42 (0,0))::pt b3 (.cells #[.slice p l.length c] 29 (0,0))::pt b2 (.cells #[vi k0,vi ka,vi kb,vi kc] 44 (0,0))::s) (fun i=>i.1=g6∧i.2.2.2.length≤2) ?_ ?_
        ·refine rZ (lU (fA ir I zT3 I) (lK (qL (v:=vi kc) iT3 I (cO 6 I I)) (lU (zd8 I I dC) (yE I (tZ ?_)))));refine iP I (fun hz=>?_) (fun hz=>?_)
         ·refine dW [12,14] [(0,2),(1,1),(2,2),(3,2),(4,1),(6,2),(7,2),(8,1),(5,0),(9,0),(10,2),(11,0),(12,0),(13,2),(14,0)] ze3 kR ?_;refine pU I (fA cY I sizeOf40 I) (pK I (qL (v:=.slice q6 P6.length d6) isAgg40 I (cO 0 I I)) (yM I (pU I (fA ir I zT3 I) (pK I (qL (v:=vi ka) iT3 I (cO 6 I I)) (yM I (pU I (fA ir I zT3 I) (pK I (qL (v:=vi kb) iT3 I (cO 6 I I)) (SP.o I (cL call47 I (dV E g6 _ _ W ka hW6 hl1)) dC (.inr iR) ?_))))))));rintro _ _ _ ⟨rfl,rfl,a1,rfl⟩;refine SP.o I (cL call47 I (dV E g6 _ _ W kb hW6 hl1)) dC (.inr iR) ?_;rintro _ _ _ ⟨rfl,rfl,a2,rfl⟩;refine pU I (za3 I (build76 _ _)) (SP.o I (bS sty40 I I I (ae ⟨I,trivial⟩) dC) dC (.inr iR) ?_);rintro _ _ _ ⟨b245,rfl,rfl,rfl⟩;refine SP.o I (aP (e:=iT) (l:=P6) 1 (a1,a2) sty40 I I I I I oM oM) dC (.inl dC) ?_;rintro v246 _ _ ⟨rfl,rfl⟩;refine zd2 fun ⟨w0,hw0⟩=>?_;obtain ⟨q7,d7,rfl⟩:=ag (e:=iT) (l:=P6++[(a1,a2)]) (i:=1) hw0 rfl;clear hw0 w0;refine pU rfl (fA cY rfl sizeOf40 rfl) (SP.on rfl (SO.store1 0 sizeOf40 rfl rfl rfl rfl (bE rfl) (by rfl)) (.inl dC) ?_);rintro _ _ _ ⟨rfl,rfl⟩;refine pN ?_;exact za9 (g6,q7,d7,P6++[(a1,a2)]) sB I I ⟨I,by dsimp only; rw[ze5,ze7]; omega⟩
         ·refine kP ?_;exact za9 (g6,q6,d6,P6) sB I I ⟨I,by dsimp only; omega⟩
        clear hP6;rintro ⟨g7,q6,d6,P6⟩ ⟨hg7,hP6⟩;dsimp only at hg7 hP6 ⊢;subst hg7;refine rZ (lK (qV 0 rt iY I I I) ?_);refine oZ (sK 4 iY rfl rfl rfl rfl rfl (by (repeat' (first | exact trivial | refine⟨by rfl,?_⟩)))) ?_;refine tZ (rE (bR (tR (ST.perm (zk1 _ _ _) (fT fun g8 hle8 hs8=>?_)))));exact ST.retCD 3 s (.inl I) results13 I rt iY I I uR ⟨I,hle15.trans (hle6.trans hle8),⟨4,0,0,0,0,[],P6⟩,⟨_,_,I,zc1 _ _,hs8⟩,by simp,by dsimp only; omega,(by intro hk3; exfalso; omega),fun _ _ _ _=>⟨fun h1=>absurd (show (4:Int)=1 from h1) dC,fun h1=>absurd (show (4:Int)=3 from h1) dC⟩⟩
       ·refine rZ (yE I (aT I ?_));refine iP I (fun h8=>?_) (fun h8=>?_)
        ·refine rZ (lK (qV 3 ba aC I I I) (lW (cL call51 I (xr E g5 _ _ l hv5 hf)) ?_));rintro v252 g6 _ ⟨rfl,hle6,F8,hF8,hFl⟩;obtain ⟨pF,cF,rfl⟩:=za4 hF8;have hle16:=hle15.trans hle6;refine aT I ?_;refine SC.cut (ι:=Unit) (fun _=>[(4,pp b4 0),(10,pp b10 0),(12,pp b12 0)]) (fun _=>g6) (fun _=>pt b12 (.cells #[vi yi,vi yd,.slice yp Y.sides.length yc] 56 (0,0))::pt b10 (.cells #[vi xi,vi xd,.slice xp X.sides.length xc] 56 (0,0))::pt b4 (.cells #[vi 0,vi 0,vi 0,vi 0,vi 0,.slice none 0 0,.slice none 0 0] 42 (0,0))::pt b3 (.cells #[.slice p l.length c] 29 (0,0))::pt b2 (.cells #[vi k0,vi ka,vi kb,vi kc] 44 (0,0))::s) (fun _=>True) ?_ ?_
         ·refine SC.cutB 261 (decide (0<F8.length)&&decide (kb.tmod 5≠0)) ?_ ?_
          ·refine rG (lM I (lU (eN AE I) (lU (gR I I) (lM I ?_))));refine sP ?_ ?_
           ·intro h256;refine lY I I I (fA ir I zT3 I) (SL.gq (gT I I I dC) (qL (v:=vi kb) iT3 I (cO 4 I I)) dC (lY I I I (zd8 I I dC) (lY I I I (nQ I I) (yP I (nL ?_)))));exact zb1 (by (simp_all[bh]; done)) mI
           ·intro h256;refine yA I (yA I (yA I (yA I (yF I (nL ?_)))));exact zb1 (by (simp_all[bh]; done)) mI
          refine iQ I (fun hq=>?_) (fun hq=>?_)
          ·simp only[zj3,zj6] at hq;obtain ⟨hm1,hm2⟩:=sN ka F8.length oM oM;have hbF:=za6 hF8 hq.1;have hgF:F8[(co ka F8.length).toNat]?=some F8[(co ka F8.length).toNat]:=gE hm2;generalize F8[(co ka F8.length).toNat]=pr at *;obtain ⟨p1,p2⟩:=pr;refine sW I (lU (fA ir I zT3 I) (lK (qL (v:=vi ka) iT3 I (cO 4 I I)) (lM I (lU (eN AE I) (lW (cL mh I (bL E g6 _ ka F8.length oM)) ?_)))));rintro _ _ _ ⟨rfl,rfl,rfl⟩;rw[hm1];refine lU (iA AE rq I I hbF oM sL) (lK (eA isAgg76 rq I (za7 hF8) hgF) (bW (aL zeroValue76) fun b18=>?_));refine oZ (sK 0 rq I I I I I sB) ?_;refine tZ (rZ (lU (iB md zT3 I I dC dC) (lK (qL (v:=vi p1) iT3 I (cO 0 I I)) (lU (iB md zT3 I I dC dC) (lK (qL (v:=vi p2) iT3 I (cO 0 I I)) (lU (za3 I (bE42 _ _ _)) ?_))))));refine oZ (sK 3 iY rfl rfl rfl rfl rfl (by (repeat' (first | exact trivial | refine⟨by rfl,?_⟩)))) ?_;refine tZ (rE (tR (bR (tR ?_))));exact ST.retCD 3 s (.inl I) results13 I rt iY I I uR ⟨I,hle16,⟨5,p1,0,0,p2,[],[]⟩,⟨_,_,I,zc1 _ _,zc1 _ _⟩,by simp,by simp,(by intro hk3; exfalso; omega),fun _ _ _ _=>⟨fun h1=>absurd (show (5:Int)=1 from h1) dC,fun h1=>absurd (show (5:Int)=3 from h1) dC⟩⟩
          ·refine kP ?_;exact za9 () sB I I trivial
         rintro _ -;try dsimp only
         refine rZ (lU (fA au I zT3 I) (lK (qL (v:=vi xi) iT3 I (cO 1 I I)) (lU (fA au I zT3 I) (lK (qL (v:=vi yi) iT3 I (cO 0 I I)) (lU (za3 I (bE42 _ _ _)) ?_)))));refine oZ (sK 2 iY rfl rfl rfl rfl rfl (by (repeat' (first | exact trivial | refine⟨by rfl,?_⟩)))) ?_;refine tZ (rE (bR (tR ?_)));exact ST.retCD 2 s (.inl I) results13 I rt iY I I uR ⟨I,hle16,⟨5,xi,0,0,yi,[],[]⟩,⟨_,_,I,zc1 _ _,zc1 _ _⟩,by simp,by simp,(by intro hk3; exfalso; omega),fun _ _ _ _=>⟨fun h1=>absurd (show (5:Int)=1 from h1) dC,fun h1=>absurd (show (5:Int)=3 from h1) dC⟩⟩
        ·refine kP (bN (tN (rZ (lU (fA ir I zT3 I) (lK (qL (v:=vi ka) iT3 I (cO 4 I I)) (lU (zd8 I I dC) (lU (SU.subW I I) (lU (fA ir I zT3 I) (lK (qL (v:=vi kb) iT3 I (cO 4 I I)) (lU (fA ir I zT3 I) (lK (qL (v:=vi kc) iT3 I (cO 4 I I)) (lU (zd8 I I dC) (lU (fA ir I zT3 I) (lK (qL (v:=vi ka) iT3 I (cO 4 I I)) (lU (fA ir I zT3 I) (lK (qL (v:=vi kc) iT3 I (cO 4 I I)) (lU (fA ir I zT3 I) (lK (qL (v:=vi kb) iT3 I (cO 4 I I)) (lU (za3 I (buildS75 _ _)) (lW (bS sty39 I I I (ae ⟨I,trivial⟩) dC) ?_))))))))))))))))))));rintro _ _ _ ⟨b296,rfl,rfl,rfl⟩;refine zb5 fun g6 hle6 hb6=>?_;have hs6:SlA encSide g6 (.slice (some ⟨b296,0,none⟩) 1 1) [⟨kb,1⟩]:=SlA.lit hb6 rfl rfl;refine lU (fA ir I zT3 I) (lK (qL (v:=vi ka) iT3 I (cO 4 I I)) (lU (fA ir I zT3 I) (lK (qL (v:=vi kc) iT3 I (cO 4 I I)) (lU (za3 I (build76 _ _)) (lW (bS sty40 I I I (ae ⟨I,trivial⟩) dC) ?_)))));rintro _ _ _ ⟨b302,rfl,rfl,rfl⟩;refine zb5 fun g7 hle7 hb7=>?_;have hs7:SlA iT g7 (.slice (some ⟨b302,0,none⟩) 1 1) [(ka,kc)]:=SlA.lit hb7 rfl rfl;refine lU (za3 I (bF42 _ _ _ _ _ _ _ _ _ _ _)) ?_;refine oZ (sK 2 iY rfl rfl rfl rfl rfl (by (repeat' (first | exact trivial | refine⟨by rfl,?_⟩)))) ?_;refine tZ (rE ?_);exact ST.retCD 2 s (.inl I) results13 I rt iY I I uR ⟨I,hle15.trans (hle6.trans hle7),⟨_,kb,_,ka,kc,[⟨kb,1⟩],[(ka,kc)]⟩,⟨_,_,I,za5 hs6 hle7,hs7⟩,by simp,by simp,(by intro hk3; exfalso; omega),fun _ ha hb hc=>⟨fun _=>hb,fun _=>⟨ha,hc⟩⟩⟩
set_option maxHeartbeats 1000000
def fM (S:List Side)(r:Int):Int:=(S.map fun y=>if y.cell=r then y.sign else 0).sum
def inc (A:List Cl)(id r:Int):Int:=fM ((am A id).getD cJ).sides r
def cf (ts:List Tm)(r:Int):Int:=(ts.map fun t=>if t.1=r then t.2 else 0).sum
def chL (D:List Cl)(ts:List Tm)(r:Int):Int:=(ts.map fun t=>t.2 * inc D t.1 r).sum
def chR (img:Int→List Tm)(S:List Side)(r:Int):Int:=(S.map fun y=>y.sign * cf (img y.cell) r).sum
def jk (A D:List Cl)(img:Int→List Tm):Prop:=∀ x∈A,∀ r,chL D (img x.id) r=chR img x.sides r
theorem DX (S T:List Side)(r:Int):fM (S++T) r=fM S r+fM T r:=by simp[fM]
theorem mC (y:Side)(S:List Side)(r:Int):fM (y::S) r=(if y.cell=r then y.sign else 0)+fM S r:=by simp[fM]
theorem mB {S T:List Side}(h:S.Perm T)(r:Int):fM S r=fM T r:=iW (h.map _)
theorem ob {A:List Cl}(h:Rt A){c:Cl}(hc:c∈A)(r:Int):inc A c.id r=fM c.sides r:=by unfold inc; rw[h.find hc]; rfl
theorem pC {B:List Cl}{b:Cl}(hb:b∈B):bP b∈aa B:=by
 unfold aa;exact zf2.2 ⟨b,(dj (key:=Cl.id) B).mem_iff.2 hb,I⟩
theorem tO {B:List Cl}(hD:Rt (aa B)){b:Cl}(hb:b∈B)(r:Int):inc (aa B) b.id r=fM b.sides r:=by
 have h1:=ob hD (pC hb) r;have h2:fM (bP b).sides r=fM b.sides r:=mB (dj (key:=Side.cell) b.sides) r;rw[← h2,← h1];rfl
theorem wo (k v r:Int):cf [(k,v)] r=if k=r then v else 0:=by simp[cf]
theorem kZ (D:List Cl)(k r:Int):chL D [(k,1)] r=inc D k r:=by simp[chL]
theorem sY (img:Int→List Tm)(y:Side)(S:List Side)(r:Int):chR img (y::S) r=y.sign * cf (img y.cell) r+chR img S r:=by simp[chR]
theorem ke {img:Int→List Tm}:∀ {S:List Side},(∀ y∈S,img y.cell=[(y.cell,1)])→∀ r,chR img S r=fM S r
 | [],_,_=>rfl
 | y::S,h,r=>by
  rw[sY,mC,ke (fun z hz=>h z (by simp[hz])) r,h y (by simp),wo];by_cases e:y.cell=r
  ·rw[zg1 e,zg1 e,Int.mul_one]
  ·rw[zf9 e,zf9 e,Int.mul_zero]
theorem Ao {A B:List Cl}(hD:Rt (aa B))(hs:∀ x∈A,x∈B):jk A (aa B) fun k=>[(k,1)]:=fun x hx r=>by
 rw[kZ,tO hD (hs x hx),ke fun _ _=>rfl]
theorem An {D A:List Cl}(hA:Rt A)(hs:∀ x∈D,x∈A):jk D A fun k=>[(k,1)]:=fun x hx r=>by
 rw[kZ,ob hA (hs x hx),ke fun _ _=>rfl]
theorem Eh (e:Ed)(r:Int):cf (dT e) r=(if e.cell=r then 1 else 0)+(if e.other=r then 1 else 0):=by
 unfold dT;split
 ·simp only[cf,zg4,List.map_nil,List.sum_cons,List.sum_nil]; omega
 ·simp only[cf,zg4,List.map_nil,List.sum_cons,List.sum_nil]; omega
theorem Cg (e:Ed)(y:Side)(S:List Side):nN e (y::S)=if y.cell=e.cell then ⟨e.other,y.sign⟩::nN e S else nN e S:=by
 unfold nN;by_cases h:y.cell=e.cell
 ·rw[zg1 h,List.filter_cons_of_pos (by simpa using h)]; rfl
 ·rw[zf9 h,List.filter_cons_of_neg (by simpa using h)]
theorem uS (e:Ed)(r:Int):∀ S:List Side,chR (cj e) S r=fM S r+fM (nN e S) r
 | []=>rfl
 | y::S=>by
  have ih:=uS e r S;rw[sY,mC,Cg,ih];by_cases hy:y.cell=e.cell
  ·rw[zg1 hy,mC,cj,zg1 hy,Eh,hy];dsimp only;by_cases a:e.cell=r
   ·by_cases b:e.other=r
    ·simp only[zg1 a,zg1 b]; omega
    ·simp only[zg1 a,zf9 b]; omega
   ·by_cases b:e.other=r
    ·simp only[zf9 a,zg1 b]; omega
    ·simp only[zf9 a,zf9 b]; omega
  ·rw[zf9 hy,cj,zf9 hy,wo];by_cases a:y.cell=r
   ·simp only[zg1 a]; omega
   ·simp only[zf9 a]; omega
theorem AK (e:Ed)(a:Int)(y:Cl):(bC e a y).id=y.id:=by unfold bC; split <;> rfl
theorem Fk (e:Ed)(a:Int)(y:Cl):(bC e a y).dim=y.dim:=by unfold bC; split <;> rfl
theorem CM {z0 z1:Side}(hs:(z0.sign=1∧z1.sign = -1)∨(z0.sign = -1∧z1.sign=1))(n r:Int):fM [⟨(iz [z0,z1] false).cell,-1⟩,⟨n,1⟩] r+fM [⟨n,-1⟩,⟨(iz [z0,z1] true).cell,1⟩] r=fM [z0,z1] r:=by
 obtain ⟨c0,s0⟩:=z0;obtain ⟨c1,s1⟩:=z1
 rcases hs with ⟨h0,h1⟩ | ⟨h0,h1⟩ <;> dsimp only at h0 h1 <;> subst h0 <;> subst h1
 ·have e1:(iz [⟨c0,1⟩,⟨c1,-1⟩] false).cell=c1:=rfl;have e2:(iz [⟨c0,1⟩,⟨c1,-1⟩] true).cell=c0:=rfl;rw[e1,e2];simp only[fM,zg4,List.map_nil,List.sum_cons,List.sum_nil];by_cases a:c0=r <;> by_cases b:c1=r <;> by_cases d:n=r <;> simp[a,b,d]
 ·have e1:(iz [⟨c0,-1⟩,⟨c1,1⟩] false).cell=c0:=rfl;have e2:(iz [⟨c0,-1⟩,⟨c1,1⟩] true).cell=c1:=rfl;rw[e1,e2];simp only[fM,zg4,List.map_nil,List.sum_cons,List.sum_nil];by_cases a:c0=r <;> by_cases b:c1=r <;> by_cases d:n=r <;> simp[a,b,d]
theorem lx {A:List Cl}{e:Ed}(h:Rt A)(hc:aU A e=0):∃ c,c∈A∧c.id=e.cell∧am A e.cell=some c∧c.dim=1 ∧
  bH A e=[⟨e.new,0,[]⟩,⟨e.other,1,[⟨e.new,-1⟩,⟨(iz c.sides true).cell,1⟩]⟩]++A.map (bC e (iz c.sides false).cell):=by
 unfold aU at hc;cases hf:am A e.cell with
 | none=>rw[hf] at hc; cases hc
 | some c =>
  rw[hf] at hc;dsimp only at hc;obtain ⟨hcA,hci⟩:=cw hf;have hd:c.dim=1:=by
   by_cases hd:c.dim=1
   ·exact hd
   ·rw[zg1 hd] at hc; cases hc
  exact⟨c,hcA,hci,I,hd,by unfold bH; rw[h.findC,hf]; rfl⟩
theorem xC {A:List Cl}{e:Ed}(h:Rt A)(hc:aU A e=0)(hD:Rt (aa (bH A e))):jk A (aa (bH A e)) (cj e):=fun x hx r=>by
 obtain ⟨c,hcA,hci,hf,hd,hout⟩:=lx h hc;obtain ⟨z0,z1,hz,hs⟩:=h.edge hcA hd;have hx':bC e (iz c.sides false).cell x∈bH A e:=by
  rw[hout];exact List.mem_append_right _ (zf2.2 ⟨x,hx,I⟩)
 have h2:=tO hD hx' r;rw[AK] at h2;by_cases hxe:x.id=e.cell
 ·have hxc:x=c:=h.same hx hcA (hxe.trans hci.symm);subst hxc;have h1:chL (aa (bH A e)) (cj e x.id) r=inc (aa (bH A e)) e.cell r+inc (aa (bH A e)) e.other r:=by
   rw[cj,zg1 hxe];unfold dT;split
   ·simp only[chL,zg4,List.map_nil,List.sum_cons,List.sum_nil]; omega
   ·simp only[chL,zg4,List.map_nil,List.sum_cons,List.sum_nil]; omega
  have h3:=tO hD (b:=⟨e.other,1,[⟨e.new,-1⟩,⟨(iz x.sides true).cell,1⟩]⟩) (by rw[hout]; simp) r;rw[bC,zg1 hxe,hxe] at h2;dsimp only at h2 h3;rw[h1,h2,h3,ke (fun y hy=>?_),hz,CM hs];have hne:y.cell≠e.cell:=fun he=>by
   obtain ⟨d,h4,h5⟩:=(h.form x hx).found y hy;rw[he,hf] at h4;cases h4;omega
  rw[cj,zf9 hne]
 ·have h1:cj e x.id=[(x.id,1)]:=by rw[cj,zf9 hxe]
  rw[bC,zf9 hxe] at h2;dsimp only at h2;rw[h1,kZ,h2,DX,uS]
theorem lC (e:Ed)(k:Int):ec e k=[((byF e.pairs k).getD k,1)]:=by
 unfold ec;cases byF e.pairs k <;> rfl
theorem uT (e:Ed)(r:Int):∀ S:List Side,chR (ec e) S r=fM (S.map (gn (byF e.pairs))) r
 | []=>rfl
 | y::S=>by
  rw[sY,zg4,mC,uT e r S,lC,wo];show y.sign * (if (byF e.pairs y.cell).getD y.cell=r then 1 else 0)+_=(if (byF e.pairs y.cell).getD y.cell=r then y.sign else 0)+_;by_cases a:(byF e.pairs y.cell).getD y.cell=r
  ·rw[zg1 a,zg1 a,Int.mul_one]
  ·rw[zf9 a,zf9 a,Int.mul_zero]
theorem zg {ps:List Pr}{p:Pr}(h:p∈ps):p.1∈iC ps∧p.2∈iC ps:=by
 unfold iC;exact⟨List.mem_flatMap.2 ⟨p,h,by simp⟩,List.mem_flatMap.2 ⟨p,h,by simp⟩⟩
theorem nE:∀ {ps:List Pr},(iC ps).Nodup→∀ p∈ps,∀ q∈ps,p.1≠q.2
 | [],_,p,hp,_,_=>by cases hp
 | a::ps,h,p,hp,q,hq=>by
  have h1:iC (a::ps)=a.1::a.2::iC ps:=rfl;rw[h1,zk3,zk3] at h;obtain ⟨h2,h3,h4⟩:=h;have h5:a.1≠a.2∧a.1 ∉ iC ps:=⟨fun e=>h2 (by rw[e]; simp),fun e=>h2 (by simp[e])⟩
  rcases zf1.1 hp with h6 | h6
  ·rcases zf1.1 hq with h7 | h7
   ·rw[h6,h7]; exact h5.1
   ·exact fun e=>h5.2 (by rw[← h6,e]; exact (zg h7).2)
  ·rcases zf1.1 hq with h7 | h7
   ·exact fun e=>h3 (by rw[← h7,← e]; exact (zg h6).1)
   ·exact nE h4 p h6 q h7
theorem qu {A:List Cl}{e:Ed}(hc:dX A e=0):(∀ p∈e.pairs,(am A p.1).isSome=true∧(am A p.2).isSome=true)∧(iC e.pairs).Nodup∧(∀ p∈e.pairs,dimOf A p.1=dimOf A p.2)∧∀ p∈e.pairs,je A e.pairs p=true:=by
 unfold dX at hc;split at hc
 ·rename_i h1;split at hc
  ·cases hc
  ·rename_i h2;split at hc
   ·cases hc
   ·rename_i h3;split at hc
    ·rename_i h4;refine⟨fun p hp=>by simpa using zj9.1 h1 p hp,?_,fun p hp=>?_,fun p hp=>zj9.1 h4 p hp⟩
     ·unfold vR at h2;simpa using h2
     ·rw[zj7,zk6] at h3;simpa using h3 p hp
    ·cases hc
 ·cases hc
theorem yV {ps:List Pr}{k t:Int}(h:byF ps k=some t):∃ p∈ps,p.2=k∧p.1=t:=by
 unfold byF at h;obtain ⟨p,h1,h2⟩:=Option.map_eq_some_iff.1 h;exact⟨p,zk7 h1,by simpa using List.find?_some h1,h2⟩
theorem Bt {ps:List Pr}{k:Int}(h:byF ps k=none):k ∉ ps.map Prod.snd:=fun hm=>by
 obtain ⟨p,hp,rfl⟩:=zf2.1 hm;unfold byF at h;rw[Option.map_eq_none_iff,List.find?_eq_none] at h;exact h p hp (by simp)
theorem fG {A:List Cl}{ks:List Int}{c:Cl}:c∈fp A ks↔c∈A∧c.id ∉ ks:=by
 unfold fp;rw[zh4];simp
theorem xD {A:List Cl}{e:Ed}(h:Rt A)(hc:dX A e=0)(hD:Rt (aa (dn A e))):jk A (aa (dn A e)) (ec e):=fun x hx r=>by
 obtain ⟨h1,h2,_,h3⟩:=qu hc;rw[uT,lC,kZ];have key:∀ c∈A,c.id ∉ e.pairs.map Prod.snd→inc (aa (dn A e)) c.id r=fM (c.sides.map (gn (byF e.pairs))) r:=fun c hc hn =>
  tO hD (b:=GL (byF e.pairs) c) (zf2.2 ⟨c,fG.2 ⟨hc,hn⟩,rfl⟩) r
 cases hb:byF e.pairs x.id with
 | none=>exact key x hx (Bt hb)
 | some t =>
  obtain ⟨p,hp,hp2,rfl⟩:=yV hb;obtain ⟨c,hf⟩:=zh8.1 (h1 p hp).1;obtain ⟨hcA,hci⟩:=cw hf;have hn:c.id ∉ e.pairs.map Prod.snd:=fun hm=>by
   obtain ⟨q,hq,he⟩:=zf2.1 hm;exact nE h2 p hp q hq (by rw[← hci,he])
  have hk:=key c hcA hn;rw[hci] at hk;show inc _ p.1 r=_;rw[hk];have ha:=h3 p hp;unfold je wk at ha;rw[hf,hp2,h.find hx] at ha;have ha:=zg3 ha;rw[← mB (eL (c.sides.map (gn (byF e.pairs)))),← mB (eL (x.sides.map (gn (byF e.pairs))))];exact ze2 (fun S=>fM S r) ha
theorem mq {cell:Int}(G:Side→Int):∀ {S:List Side},(S.map Side.cell).Nodup→S.any (fun x=>decide (x.cell=cell))=true →
  ∃ y0∈S,y0.cell=cell∧sgF S cell=y0.sign∧(S.map G).sum=G y0+((S.filter fun x=>!decide (x.cell=cell)).map G).sum
 | [],_,h=>by cases h
 | x::S,hn,h=>by
  rw[zg4,zk3] at hn;by_cases hx:x.cell=cell
  ·have hno:∀ y∈S,y.cell≠cell:=fun y hy e=>hn.1 (zf2.2 ⟨y,hy,by rw[e,hx]⟩);have h1:S.filter (fun x=>!decide (x.cell=cell))=S:=List.filter_eq_self.2 fun y hy=>by simp[hno y hy]
   refine⟨x,by simp,hx,?_,?_⟩
   ·unfold sgF;rw[zi8,zg1 hx,vT _ hno]
   ·rw[List.filter_cons_of_neg (by simpa using hx),h1,zg4,List.sum_cons]
  ·have h1:S.any (fun x=>decide (x.cell=cell))=true:=by simpa [hx] using h
   obtain ⟨y0,h2,h3,h4,h5⟩:=mq G hn.2 h1;refine⟨y0,by simp[h2],h3,?_,?_⟩
   ·rw[← h4];unfold sgF;rw[zi8,zf9 hx]
   ·rw[List.filter_cons_of_pos (by simpa using hx),zg4,List.sum_cons,zg4,List.sum_cons,h5];omega
theorem oV (k:Int)(G:Side→Int):∀ S:List Side,(S.map fun y=>k * G y).sum=k * (S.map G).sum
 | []=>by simp
 | y::S=>by rw[zg4,List.sum_cons,zg4,List.sum_cons,oV k G S,Int.mul_add]
theorem xY (A:List Cl)(r:Int):∀ S:List Side,vQ A S r=(S.map fun y=>y.sign * inc A y.cell r).sum
 | []=>rfl
 | y::S=>by
  have ih:=xY A r S;unfold vQ at ih ⊢;rw[zh5,List.sum_append,ih,zg4,List.sum_cons];refine ze2 (· + _) ?_;unfold inc fM;rw[← oV];refine ze2 List.sum (zc8 fun q _=>?_);by_cases e:q.cell=r
  ·rw[zg1 e,zg1 e]
  ·rw[zf9 e,zf9 e,Int.mul_zero]
theorem Ek {A:List Cl}(h:Rt A){c:Cl}(hc:c∈A)(r:Int):(c.sides.map fun y=>y.sign * inc A y.cell r).sum=0:=by
 by_cases hd:c.dim>1
 ·by_cases h0:0<c.sides.length
  ·rw[← xY];exact ((nD h0 (h.difS hc)).1 (h.around c hc hd)).1 r
  ·have:c.sides=[]:=List.length_eq_zero_iff.1 oM;rw[this]; rfl
 ·have hz:∀ y∈c.sides,y.sign * inc A y.cell r=0:=fun y hy=>by
   obtain ⟨d,h1,h2⟩:=(h.form c hc).found y hy;obtain ⟨h3,h4⟩:=cw h1;have h5:=h.form d h3;have h6:d.dim=0:=by have:=h5.dim; omega
   have h7:d.sides=[]:=by
    have:=h5.cnt;unfold aR at this;simp[h6] at this;exact this
   rw[← h4,ob h h3,h7];exact Int.mul_zero _
  rw[zc8 (g:=fun _=>(0:Int)) hz];induction c.sides with
  | nil=>rfl
  | cons y S ih=>simpa using ih
theorem uM {A:List Cl}{e:Ed}(hc:dP A e=0):aj A e.cell=[e.other]∧aj A e.other=[]:=by
 unfold dP at hc;split at hc
 ·split at hc
  ·rename_i h1;exact⟨h1.1,List.length_eq_zero_iff.1 oM⟩
  ·cases hc
 ·cases hc
theorem CS {A:List Cl}{e:Ed}(h:Rt A)(hc:dP A e=0)(hD:Rt (aa (fp A [e.cell,e.other]))):jk A (aa (fp A [e.cell,e.other])) (dF A e):=fun x hx r=>by
 obtain ⟨ha,hb⟩:=uM hc;obtain ⟨c,hcA,hi,hf,hh⟩:=h.above_one ha;have hne:e.cell≠e.other:=fun he=>h.not_self e.cell (by rw[ha,he]; simp);have hR:cg A e=(c.sides.filter fun x=>!decide (x.cell=e.cell)).map fun x=>(x.cell,-sgF c.sides e.cell * x.sign):=by unfold cg; rw[h.findC,hf]; rfl
 have hleft:∀ y∈A,y.id≠e.cell→y.id≠e.other→inc (aa (fp A [e.cell,e.other])) y.id r=fM y.sides r:=fun y hy h1 h2=>tO hD (fG.2 ⟨hy,by simp[h1,h2]⟩) r;have hnoO:∀ y∈A,∀ q∈y.sides,q.cell≠e.other:=fun y hy q hq he=>by
  have:y.id∈aj A e.other:=h.mem_above.2 ⟨y,hy,rfl,zj8.2 ⟨q,hq,by simpa using he⟩⟩;rw[hb] at this;cases this
 have hnoC:∀ y∈A,y.id≠e.other→∀ q∈y.sides,q.cell≠e.cell:=fun y hy h1 q hq he=>by
  have:y.id∈aj A e.cell:=h.mem_above.2 ⟨y,hy,rfl,zj8.2 ⟨q,hq,by simpa using he⟩⟩;rw[ha] at this;exact h1 (by simpa using this)
 have hself:∀ k,k≠e.cell→k≠e.other→dF A e k=[(k,1)]:=fun k h1 h2=>by rw[dF,zf9 h1,zf9 h2]
 have hfil:∀ q∈c.sides.filter (fun x=>!decide (x.cell=e.cell)),q∈c.sides∧q.cell≠e.cell:=fun q hq=>by
  obtain ⟨h1,h2⟩:=zh4.1 hq;exact⟨h1,by simpa using h2⟩
 by_cases hxo:x.id=e.other
 ·have hxc:x=c:=h.same hx hcA (hxo.trans hi.symm);subst hxc;obtain ⟨y0,hy0,hy1,hy2,hy3⟩:=mq (fun y=>y.sign * cf (dF A e y.cell) r) (h.difS hx) hh;have hsq:sgF x.sides e.cell * sgF x.sides e.cell=1:=by
   rw[hy2]
   rcases h.signs hx y0 hy0 with h1 | h1 <;> rw[h1] <;> rfl
  have h0:dF A e x.id=[]:=by rw[dF,zf9 (fun he=>hne (he.symm.trans hxo)),zg1 hxo]
  have h1:cf (cg A e) r = -sgF x.sides e.cell * fM (x.sides.filter fun x=>!decide (x.cell=e.cell)) r:=by
   rw[hR];unfold cf fM;rw[zi5,← oV];refine ze2 List.sum (zc8 fun q _=>?_);show (if q.cell=r then -sgF x.sides e.cell * q.sign else 0)=_;by_cases e1:q.cell=r
   ·rw[zg1 e1,zg1 e1]
   ·rw[zf9 e1,zf9 e1,Int.mul_zero]
  have h2:((x.sides.filter fun x=>!decide (x.cell=e.cell)).map fun y=>y.sign * cf (dF A e y.cell) r).sum=fM (x.sides.filter fun x=>!decide (x.cell=e.cell)) r :=
   ke (img:=dF A e) (fun q hq=>hself _ (hfil q hq).2 (hnoO x hx q (hfil q hq).1)) r
  have h3:dF A e y0.cell=cg A e:=by rw[dF,zg1 hy1]
  show chL _ _ _=(x.sides.map fun y=>y.sign * cf (dF A e y.cell) r).sum;rw[hy3,h2,h0,h3,h1,← hy2,← Int.mul_assoc,Int.mul_neg,hsq];show (0:Int)=_;omega
 ·have hsides:∀ q∈x.sides,dF A e q.cell=[(q.cell,1)]:=fun q hq=>hself _ (hnoC x hx hxo q hq) (hnoO x hx q hq);rw[ke hsides];by_cases hxe:x.id=e.cell
  ·obtain ⟨y0,hy0,hy1,hy2,hy3⟩:=mq (fun y=>y.sign * inc A y.cell r) (h.difS hcA) hh;have hsq:sgF c.sides e.cell * sgF c.sides e.cell=1:=by
    rw[hy2]
    rcases h.signs hcA y0 hy0 with h1 | h1 <;> rw[h1] <;> rfl
   rw[Ek h hcA] at hy3;have h1:chL (aa (fp A [e.cell,e.other])) (cg A e) r = -sgF c.sides e.cell * ((c.sides.filter fun x=>!decide (x.cell=e.cell)).map fun y=>y.sign * inc A y.cell r).sum:=by
    rw[hR];unfold chL;rw[zi5,← oV];refine ze2 List.sum (zc8 fun q hq=>?_);show -sgF c.sides e.cell * q.sign * inc (aa (fp A [e.cell,e.other])) q.cell r=_;obtain ⟨hq1,hq2⟩:=hfil q hq;obtain ⟨d,h4,_⟩:=(h.form c hcA).found q hq1;obtain ⟨h5,h6⟩:=cw h4;have h7:=hleft d h5 (by rw[h6]; exact hq2) (by rw[h6]; exact hnoO c hcA q hq1);rw[h6] at h7;have h8:=ob h h5 r;rw[h6] at h8;rw[h7,h8,Int.mul_assoc]
   have h2:((c.sides.filter fun x=>!decide (x.cell=e.cell)).map fun y=>y.sign * inc A y.cell r).sum = -(y0.sign * inc A y0.cell r):=by
    try dsimp only at hy3
    omega
   rw[dF,zg1 hxe,h1,h2,← hy2,Int.neg_mul_neg,← Int.mul_assoc,hsq,Int.one_mul,hy1,← hxe,ob h hx]
  ·rw[hself _ hxe hxo,kZ,hleft x hx hxe hxo]
theorem nz {A:List Cl}{e:Ed}(h:jN A e=0):e.kind=1∨e.kind=2∨e.kind=3∨e.kind=4∨e.kind=5:=by
 unfold jN at h
 split at h
 ·omega
 split at h
 ·omega
 split at h
 ·omega
 split at h
 ·omega
 split at h
 ·omega
 cases h
theorem Ap {l:List Cl}{e:Ed}(h:(dB l e).1=0):if bkK e=true then jk (dB l e).2 (aa l) (nG (aa l) e) else jk (aa l) (dB l e).2 (nG (aa l) e):=by
 obtain ⟨hD,h1,h2,h3⟩:=jj h;have hA:=iL h1;rw[h3] at hD ⊢;generalize aa l=A at *;have hk:=nz h2;unfold jN at h2;unfold m9 at hD ⊢;have hi:∀ k,nG A e k=if e.kind=3 then cj e k else if e.kind=4 then ec e k else if e.kind=5 then dF A e k else [(k,1)]:=fun _=>rfl
 rcases hk with hk | hk | hk | hk | hk
 ·have hb:¬ bkK e=true:=by unfold bkK; simp[hk]
  rw[zf9 hb];rw[zg1 hk] at hD ⊢;have:nG A e=fun k=>[(k,1)]:=funext fun k=>by rw[hi,zf9 oM,zf9 oM,zf9 oM]
  rw[this];exact Ao hD fun x hx=>by simp[hx]
 ·have hb:bkK e=true:=by unfold bkK; simp[hk]
  rw[zg1 hb];rw[zf9 oM,zg1 hk] at hD ⊢;have:nG A e=fun k=>[(k,1)]:=funext fun k=>by rw[hi,zf9 oM,zf9 oM,zf9 oM]
  rw[this];exact An hA fun x hx=>by
   rw[(uq hA [e.cell]).1] at hx;exact (fG.1 hx).1
 ·have hb:¬ bkK e=true:=by unfold bkK; simp[hk]
  rw[zf9 hb];rw[zf9 oM,zf9 oM,zg1 hk] at h2 hD ⊢;have:nG A e=cj e:=funext fun k=>by rw[hi,zg1 hk]
  rw[this];exact xC hA h2 hD
 ·have hb:¬ bkK e=true:=by unfold bkK; simp[hk]
  rw[zf9 hb];rw[zf9 oM,zf9 oM,zf9 oM,zg1 hk] at h2 hD ⊢;have:nG A e=ec e:=funext fun k=>by rw[hi,zf9 oM,zg1 hk]
  rw[this];exact xD hA h2 hD
 ·have hb:¬ bkK e=true:=by unfold bkK; simp[hk]
  rw[zf9 hb];rw[zf9 oM,zf9 oM,zf9 oM,zf9 oM] at h2 hD ⊢;rw[zg1 hk] at h2;have:nG A e=dF A e:=funext fun k=>by rw[hi,zf9 oM,zf9 oM,zg1 hk]
  rw[this];exact CS hA h2 hD
def lq (D:List Cl)(d:Int)(ts:List Tm):Prop:=(ts.Pairwise fun a b=>a.1<b.1)∧(∀ t∈ts,t.2=1∨t.2 = -1)∧(∀ t∈ts,∃ c,am D t.1=some c∧c.dim=d)∧ts.length≤64
theorem mW {D:List Cl}{d k:Int}(h:∃ c,am D k=some c∧c.dim=d):lq D d [(k,1)] :=
 ⟨by simp,by simp,by simpa using h,by simp⟩
theorem mX {B:List Cl}(hD:Rt (aa B)){b:Cl}(hb:b∈B):∃ c,am (aa B) b.id=some c∧c.dim=b.dim:=⟨bP b,hD.find (pC hb),rfl⟩
theorem CJ {A:List Cl}{e:Ed}(h:Rt A)(hc:aU A e=0)(hD:Rt (aa (bH A e))){x:Cl}(hx:x∈A):lq (aa (bH A e)) x.dim (cj e x.id):=by
 obtain ⟨c,hcA,hci,hf,hd,hout⟩:=lx h hc;have hx':bC e (iz c.sides false).cell x∈bH A e:=by
  rw[hout];exact List.mem_append_right _ (zf2.2 ⟨x,hx,I⟩)
 have h2:=mX hD hx';rw[AK,Fk] at h2;by_cases hxe:x.id=e.cell
 ·have hxc:x=c:=h.same hx hcA (hxe.trans hci.symm);subst hxc;have h3:=mX hD (b:=⟨e.other,1,[⟨e.new,-1⟩,⟨(iz x.sides true).cell,1⟩]⟩) (by rw[hout]; simp);dsimp only at h3;rw[hxe] at h2;rw[← hd] at h3;have hne:e.cell≠e.other:=fun he=>by
   unfold aU at hc;rw[hf] at hc;dsimp only at hc;rw[zf9 oM] at hc;split at hc
   ·cases hc
   ·split at hc
    ·cases hc
    ·rename_i h4;rw[← he,hf] at h4;simp at h4
  rw[cj,zg1 hxe];unfold dT;by_cases h4:e.other<e.cell
  ·rw[zg1 h4];exact⟨by simpa using h4,by simp,by simpa using ⟨h3,h2⟩,by simp⟩
  ·rw[zf9 h4];exact⟨by simp; omega,by simp,by simpa using ⟨h2,h3⟩,by simp⟩
 ·rw[cj,zf9 hxe];exact mW h2
theorem CK {A:List Cl}{e:Ed}(h:Rt A)(hc:dX A e=0)(hD:Rt (aa (dn A e))){x:Cl}(hx:x∈A):lq (aa (dn A e)) x.dim (ec e x.id):=by
 obtain ⟨h1,h2,h3,_⟩:=qu hc;have key:∀ c∈A,c.id ∉ e.pairs.map Prod.snd→∃ d,am (aa (dn A e)) c.id=some d∧d.dim=c.dim:=fun c hc hn =>
  mX hD (b:=GL (byF e.pairs) c) (zf2.2 ⟨c,fG.2 ⟨hc,hn⟩,rfl⟩)
 rw[lC];cases hb:byF e.pairs x.id with
 | none=>exact mW (key x hx (Bt hb))
 | some t =>
  obtain ⟨p,hp,hp2,rfl⟩:=yV hb;obtain ⟨c,hf⟩:=zh8.1 (h1 p hp).1;obtain ⟨hcA,hci⟩:=cw hf;have hn:c.id ∉ e.pairs.map Prod.snd:=fun hm=>by
   obtain ⟨q,hq,he⟩:=zf2.1 hm;exact nE h2 p hp q hq (by rw[← hci,he])
  have hk:=key c hcA hn;have hdm:=h3 p hp;unfold dimOf at hdm;rw[hf,hp2,h.find hx] at hdm;have hdm:c.dim=x.dim:=hdm;rw[hci,hdm] at hk;exact mW hk
theorem FR {A:List Cl}{e:Ed}(h:Rt A)(hc:dP A e=0)(hD:Rt (aa (fp A [e.cell,e.other]))){x:Cl}(hx:x∈A):lq (aa (fp A [e.cell,e.other])) x.dim (dF A e x.id):=by
 obtain ⟨ha,hb⟩:=uM hc;obtain ⟨c,hcA,hi,hf,hh⟩:=h.above_one ha;have hR:cg A e=(c.sides.filter fun x=>!decide (x.cell=e.cell)).map fun x=>(x.cell,-sgF c.sides e.cell * x.sign):=by unfold cg; rw[h.findC,hf]; rfl
 have hnoO:∀ y∈A,∀ q∈y.sides,q.cell≠e.other:=fun y hy q hq he=>by
  have:y.id∈aj A e.other:=h.mem_above.2 ⟨y,hy,rfl,zj8.2 ⟨q,hq,by simpa using he⟩⟩;rw[hb] at this;cases this
 by_cases hxe:x.id=e.cell
 ·obtain ⟨y0,hy0,hy1,hy2,_⟩:=mq (fun _=>0) (h.difS hcA) hh;obtain ⟨d0,h1,h2⟩:=(h.form c hcA).found y0 hy0;rw[hy1,← hxe,h.find hx] at h1;cases h1;rw[dF,zg1 hxe,hR];refine⟨?_,fun t ht=>?_,fun t ht=>?_,?_⟩
  ·rw[zk5];exact (h.form c hcA).asc.sublist List.filter_sublist
  ·obtain ⟨q,hq,rfl⟩:=zf2.1 ht;have hs:=h.signs hcA q (zh4.1 hq).1;have hs0:=h.signs hcA y0 hy0;rw[hy2];dsimp only
   rcases hs with e1 | e1 <;> rcases hs0 with e2 | e2 <;> rw[e1,e2] <;> simp
  ·obtain ⟨q,hq,rfl⟩:=zf2.1 ht;obtain ⟨hq1,hq2⟩:=zh4.1 hq;obtain ⟨d,h4,h5⟩:=(h.form c hcA).found q hq1;obtain ⟨h6,h7⟩:=cw h4;obtain ⟨d',h8,h9⟩:=mX hD (b:=d) (fG.2 ⟨h6,by rw[h7]; simpa using ⟨by simpa using hq2,hnoO c hcA q hq1⟩⟩);rw[h7] at h8;exact⟨d',h8,oM⟩
  ·have:=h.few64 hcA;have h2:=zc5 (fun x:Side=>!decide (x.cell=e.cell)) c.sides;rw[ze6];omega
 ·by_cases hxo:x.id=e.other
  ·rw[dF,zf9 hxe,zg1 hxo];exact⟨by simp,by simp,by simp,by simp⟩
  ·rw[dF,zf9 hxe,zf9 hxo];exact mW (mX hD (fG.2 ⟨hx,by simp[hxe,hxo]⟩))
theorem D9 {l:List Cl}{e:Ed}(h:(dB l e).1=0):if bkK e=true then ∀ x∈(dB l e).2,lq (aa l) x.dim (nG (aa l) e x.id) else ∀ x∈aa l,lq (dB l e).2 x.dim (nG (aa l) e x.id):=by
 obtain ⟨hD,h1,h2,h3⟩:=jj h;have hA:=iL h1;rw[h3] at hD ⊢;generalize aa l=A at *;have hk:=nz h2;unfold jN at h2;unfold m9 at hD ⊢;have hi:∀ k,nG A e k=if e.kind=3 then cj e k else if e.kind=4 then ec e k else if e.kind=5 then dF A e k else [(k,1)]:=fun _=>rfl
 rcases hk with hk | hk | hk | hk | hk
 ·have hb:¬ bkK e=true:=by unfold bkK; simp[hk]
  rw[zf9 hb];rw[zg1 hk] at hD ⊢;intro x hx;rw[hi,zf9 oM,zf9 oM,zf9 oM];exact mW (mX hD (by simp[hx]))
 ·have hb:bkK e=true:=by unfold bkK; simp[hk]
  rw[zg1 hb];rw[zf9 oM,zg1 hk] at hD ⊢;intro x hx;rw[hi,zf9 oM,zf9 oM,zf9 oM];rw[(uq hA [e.cell]).1] at hx;exact mW ⟨x,hA.find (fG.1 hx).1,I⟩
 ·have hb:¬ bkK e=true:=by unfold bkK; simp[hk]
  rw[zf9 hb];rw[zf9 oM,zf9 oM,zg1 hk] at h2 hD ⊢;intro x hx;rw[hi,zg1 hk];exact CJ hA h2 hD hx
 ·have hb:¬ bkK e=true:=by unfold bkK; simp[hk]
  rw[zf9 hb];rw[zf9 oM,zf9 oM,zf9 oM,zg1 hk] at h2 hD ⊢;intro x hx;rw[hi,zf9 oM,zg1 hk];exact CK hA h2 hD hx
 ·have hb:¬ bkK e=true:=by unfold bkK; simp[hk]
  rw[zf9 hb];rw[zf9 oM,zf9 oM,zf9 oM,zf9 oM] at h2 hD ⊢;rw[zg1 hk] at h2;intro x hx;rw[hi,zf9 oM,zf9 oM,zg1 hk];exact FR hA h2 hD hx
def oT (F:Int→Int)(ts:List Tm):Prop:=(ts.Pairwise fun a b=>a.1<b.1)∧(∀ t∈ts,t.2≠0)∧∀ r,cf ts r=F r
theorem dQ (t:Tm)(ts:List Tm)(r:Int):cf (t::ts) r=(if t.1=r then t.2 else 0)+cf ts r:=by simp[cf]
theorem mT {r:Int}:∀ {ts:List Tm},(∀ t∈ts,t.1≠r)→cf ts r=0
 | [],_=>rfl
 | t::ts,h=>by rw[dQ,zf9 (h t (by simp)),mT fun u hu=>h u (by simp[hu])]; rfl
theorem y8:∀ {ts us:List Tm},(ts.Pairwise fun a b=>a.1<b.1)→(us.Pairwise fun a b=>a.1<b.1)→(∀ t∈ts,t.2≠0)→(∀ t∈us,t.2≠0)→(∀ r,cf ts r=cf us r)→ts=us
 | [],[],_,_,_,_,_=>rfl
 | [],u::us,_,h2,_,h4,h5=>by
  rw[zk4] at h2;have h6:=h5 u.1;rw[dQ,zg1 rfl,mT (ts:=us) fun t ht=>by have:=h2.1 t ht; omega] at h6;have h7:=h4 u (by simp);have h8:cf [] u.1=0:=rfl;omega
 | t::ts,[],h1,_,h3,_,h5=>by
  rw[zk4] at h1;have h6:=h5 t.1;rw[dQ,zg1 rfl,mT fun u hu=>by have:=h1.1 u hu; omega] at h6;have h7:=h3 t (by simp);have h8:cf [] t.1=0:=rfl;omega
 | t::ts,u::us,h1,h2,h3,h4,h5=>by
  rw[zk4] at h1 h2;have ht:=h3 t (by simp);have hu:=h4 u (by simp);have e1:=h5 t.1;have e2:=h5 u.1;rw[dQ,zg1 rfl,mT fun v hv=>by have:=h1.1 v hv; omega] at e1;rw[dQ u,zg1 rfl,mT (ts:=us) fun v hv=>by have:=h2.1 v hv; omega] at e2;have h6:t.1=u.1:=by
   rcases Int.lt_trichotomy t.1 u.1 with h | h | h
   ·rw[dQ,zf9 oM,mT fun v hv=>by have:=h2.1 v hv; omega] at e1;omega
   ·exact h
   ·rw[dQ,zf9 oM,mT fun v hv=>by have:=h1.1 v hv; omega] at e2;omega
  have h7:t.2=u.2:=by
   rw[dQ,zg1 h6.symm,mT fun v hv=>by have:=h2.1 v hv; omega] at e1;omega
  have h8:t=u:=Prod.ext h6 h7;subst h8;rw[y8 h1.2 h2.2 (fun v hv=>h3 v (by simp[hv])) (fun v hv=>h4 v (by simp[hv])) fun r=>by
   have:=h5 r;rw[dQ,dQ] at this;omega]
theorem oT.uniq {F G:Int→Int}{ts us:List Tm}(h:oT F ts)(h':oT G us)(hF:∀ r,F r=G r):ts=us :=
 y8 h.1 h'.1 h.2.1 h'.2.1 fun r=>by rw[h.2.2,h'.2.2,hF]
theorem lq.can {D:List Cl}{d:Int}{ts:List Tm}(h:lq D d ts):oT (cf ts) ts:=⟨h.1,fun t ht=>by rcases h.2.1 t ht with e | e <;> omega,fun _=>rfl⟩
theorem um {A:List Cl}(h:Rt A){x:Cl}(hx:x∈A):oT (fun r=>fM x.sides r) (x.sides.map fun y=>(y.cell,y.sign)):=by
 refine⟨by rw[zk5]; exact (h.form x hx).asc,fun t ht=>?_,fun r=>?_⟩
 ·obtain ⟨y,hy,rfl⟩:=zf2.1 ht
  rcases h.signs hx y hy with e | e <;> dsimp only <;> omega
 ·unfold cf fM;rw[zi5];rfl
def bdF (C:List Cl)(G:Int→Int)(r:Int):Int:=(C.map fun c=>G c.id * fM c.sides r).sum
theorem pE (l:List Cl)(G:Int→Int)(r:Int):bdF (aa l) G r=bdF l G r:=by
 unfold bdF aa;rw[zi5];have h1:((fun c:Cl=>G c.id * fM c.sides r) ∘ bP)=fun c=>G c.id * fM c.sides r:=funext fun c=>by
  show G c.id * fM (sortBy Side.cell c.sides) r=_;rw[mB (dj (key:=Side.cell) c.sides)]
 rw[h1];exact iW ((dj (key:=Cl.id) l).map _)
theorem Bz (G H:Int→Int)(r:Int):∀ C:List Cl,bdF C (fun k=>G k+H k) r=bdF C G r+bdF C H r
 | []=>rfl
 | c::C=>by
  have:=Bz G H r C;unfold bdF at this ⊢;rw[zg4,List.sum_cons,this,zg4,List.sum_cons,zg4,List.sum_cons,Int.add_mul];omega
theorem AP (G:Int→Int)(r:Int):∀ {C:List Cl},(∀ c∈C,G c.id=0)→bdF C G r=0
 | [],_=>rfl
 | c::C,h=>by
  have:=AP G r (C:=C) fun d hd=>h d (List.mem_cons_of_mem _ hd);unfold bdF at this ⊢;rw[zg4,List.sum_cons,this,h c (by simp),Int.zero_mul];rfl
theorem Bx (k v r:Int):∀ {C:List Cl},(C.map Cl.id).Nodup→bdF C (fun j=>if k=j then v else 0) r=v * inc C k r
 | [],_=>by simp[bdF,inc,am,cJ,fM]
 | c::C,h=>by
  rw[zg4,zk3] at h;have hs:bdF (c::C) (fun j=>if k=j then v else 0) r=(if k=c.id then v else 0) * fM c.sides r+bdF C (fun j=>if k=j then v else 0) r:=by unfold bdF; rw[zg4,List.sum_cons]
  rw[hs];by_cases hk:k=c.id
  ·have h1:bdF C (fun j=>if k=j then v else 0) r=0:=AP _ r fun d hd=>zf9 fun e=>h.1 (zf2.2 ⟨d,hd,oM⟩);have h2:inc (c::C) k r=fM c.sides r:=by
    unfold inc am;rw[List.find?_cons_of_pos (by simp[hk])];rfl
   rw[zg1 hk,h1,h2,Int.add_zero]
  ·have h2:inc (c::C) k r=inc C k r:=by
    unfold inc am;rw[List.find?_cons_of_neg (by simpa using fun e=>hk e.symm)]
   rw[zf9 hk,Int.zero_mul,Int.zero_add,Bx k v r h.2,h2]
theorem mF {A:List Cl}(h:Rt A)(r:Int):∀ ts:List Tm,bdF A (cf ts) r=chL A ts r
 | []=>AP _ r fun _ _=>rfl
 | t::ts=>by
  have h1:cf (t::ts)=fun k=>(if t.1=k then t.2 else 0)+cf ts k:=funext fun k=>dQ t ts k;rw[h1,Bz,Bx t.1 t.2 r h.ids,mF h r ts];unfold chL;rw[zg4,List.sum_cons]
def onF (img:Int→List Tm)(us:List Tm)(r:Int):Int:=(us.map fun t=>t.2 * cf (img t.1) r).sum
theorem Cf (img:Int→List Tm)(S:List Side)(r:Int):onF img (S.map fun y=>(y.cell,y.sign)) r=chR img S r:=by
 unfold onF chR;rw[zi5];rfl
theorem CR {l m:List Cl}{img:Int→List Tm}(hl:Rt (aa l))(hm:Rt (aa m))(h:jk (aa l) (aa m) img){x:Cl}(hx:x∈aa l){us:List Tm}(hu:oT (bdF l (cf [(x.id,1)])) us)(r:Int) :
  bdF m (cf (img x.id)) r=onF img us r:=by
 have h1:us=x.sides.map fun y=>(y.cell,y.sign):=hu.uniq (um hl hx) fun r=>by
  rw[← pE,mF hl,kZ,ob hl hx]
 rw[h1,Cf,← pE,mF hm];exact h x hx r
def gx (zl:List (Int×Int)):List (Int×Value):=zl.map fun p=>(p.1,dK p.2)
theorem wn (zl:List (Int×Int))(k:Int):(df (gx zl) k).getD (dK 0)=dK (c8 zl k):=by
 induction zl with
 | nil=>rfl
 | cons p r ih =>
  obtain ⟨a,z⟩:=p;by_cases h:k=a
  ·subst h; simp[gx,df,fnd,c8]
  ·simp only[c8,zf9 h];rw[← ih];unfold gx;rw[zg4,df,fnd,zf9 h,j3]
theorem GI (zl:List (Int×Int))(k x:Int):dG (gx zl) k (dK (c8 zl k+x))=gx (em zl k x):=by
 induction zl with
 | nil=>simp[gx,dG,em,c8]
 | cons p r ih =>
  obtain ⟨a,z⟩:=p;by_cases h:k=a
  ·subst h; simp[gx,dG,em,c8]
  ·simp only[c8,zf9 h,em];unfold gx at ih ⊢;rw[zg4,dG,zf9 h,ih,zg4]
def ku (zl:List (Int×Int))(ts:List Tm):List (Int×Int):=ts.foldl (fun zl t=>em zl t.1 t.2) zl
theorem BK {ts:List Tm}{k:Nat}(hk:k<ts.length)(zl:List (Int×Int)):ku zl (ts.take (k+1))=em (ku zl (ts.take k)) ts[k].1 ts[k].2:=by
 unfold ku;rw[tS hk,zi9];rfl
theorem uE:∀ (ts:List Tm) (zl:List (Int×Int)) (r:Int),c8 (ku zl ts) r=c8 zl r+cf ts r
 | [],_,_=>(Int.add_zero _).symm
 | t::ts,zl,r=>by
  show c8 (ku (em zl t.1 t.2) ts) r=_;rw[uE ts,po,dQ];by_cases h:r=t.1
  ·rw[zg1 h,zg1 h.symm]; omega
  ·rw[zf9 h,zf9 fun e=>h e.symm]; omega
theorem i7:∀ (ts:List Tm) {zl:List (Int×Int)},(zl.map Prod.fst).Nodup→((ku zl ts).map Prod.fst).Nodup
 | [],_,h=>h
 | t::ts,zl,h=>i7 ts (nF h t.1 t.2)
theorem zk (zl:List (Int×Int))(k x:Int):(em zl k x).length≤zl.length+1:=by
 induction zl with
 | nil=>simp[em]
 | cons p r ih =>
  obtain ⟨a,z⟩:=p;simp only[em];split <;> simp <;> omega
theorem lL:∀ (ts:List Tm) (zl:List (Int×Int)),(ku zl ts).length≤zl.length+ts.length
 | [],_=>lR _
 | t::ts,zl=>by
  have h1:=lL ts (em zl t.1 t.2);have h2:=zk zl t.1 t.2;show (ku (em zl t.1 t.2) ts).length≤_;rw[ze8];omega
def WBd (B:Nat)(zl:List (Int×Int)):Prop:=∀ p∈zl,p.2.natAbs≤B
theorem WBd.nil:WBd 0 []:=fun _ h=>by cases h
theorem WBd.mono {B C:Nat}{zl:List (Int×Int)}(h:WBd B zl)(hl:B≤C):WBd C zl:=fun p hp=>zk8 (h p hp) hl
theorem WBd.get {B:Nat}:∀ {zl:List (Int×Int)},WBd B zl→∀ k,(c8 zl k).natAbs≤B
 | [],_,_=>zf6 _
 | (a,z)::r,h,k=>by
  simp only[c8];split
  ·exact h (a,z) (by simp)
  ·exact WBd.get (fun p hp=>h p (List.mem_cons_of_mem _ hp)) k
theorem WBd.add {B C:Nat}{x:Int}(hx:x.natAbs≤C)(k:Int):∀ {zl:List (Int×Int)},WBd B zl→WBd (B+C) (em zl k x)
 | [],_=>fun p hp=>by simp[em] at hp; subst hp; dsimp only; omega
 | (a,z)::r,h=>by
  have h1:=h (a,z) (by simp);have h2:WBd B r:=fun p hp=>h p (List.mem_cons_of_mem _ hp);simp only[em];split
  ·intro p hp
   rcases zf1.1 hp with rfl | hp
   ·dsimp only at h1 ⊢; omega
   ·exact zk8 (h2 p hp) (Nat.le_add_right _ _)
  ·intro p hp
   rcases zf1.1 hp with rfl | hp
   ·dsimp only at h1 ⊢; omega
   ·exact WBd.add hx k h2 p hp
def gW (zl:List (Int×Int)):List Tm:=((ei (zl.map Prod.fst)).filter fun k=>decide (c8 zl k≠0)).map fun k=>(k,c8 zl k)
theorem Bq (F:Int→Int)(r:Int):∀ {K:List Int},K.Nodup→cf (K.map fun k=>(k,F k)) r=if r∈K then F r else 0
 | [],_=>by simp[cf]
 | k::K,h=>by
  rw[zk3] at h;rw[zg4,dQ,Bq F r h.2];by_cases hk:k=r
  ·subst hk;rw[zg1 rfl,zf9 h.1,zg1 (by simp),Int.add_zero]
  ·rw[zf9 hk,Int.zero_add];by_cases hr:r∈K
   ·rw[zg1 hr,zg1 (by simp[hr])]
   ·rw[zf9 hr,zf9 (by simp[hr]; exact fun e=>hk e.symm)]
theorem nj {zl:List (Int×Int)}(h:(zl.map Prod.fst).Nodup):oT (c8 zl) (gW zl):=by
 have hp:=np (zl.map Prod.fst);have hn:(ei (zl.map Prod.fst)).Nodup:=hp.symm.nodup h;have ha:(ei (zl.map Prod.fst)).Pairwise (· < ·):=((kC _).and hn).imp fun h=>by have:=h.1; have:=h.2; omega
 refine⟨?_,fun t ht=>?_,fun r=>?_⟩
 ·unfold gW;rw[zk5];exact ha.sublist List.filter_sublist
 ·unfold gW at ht;obtain ⟨k,hk,rfl⟩:=zf2.1 ht;exact zg3 (zh4.1 hk).2
 ·unfold gW;rw[Bq (c8 zl) r (hn.sublist List.filter_sublist)];by_cases h0:c8 zl r=0
  ·rw[h0]; split <;> rfl
  ·obtain ⟨p,hp1,hp2,_⟩:=pn h0;rw[zg1 (zh4.2 ⟨hp.mem_iff.2 (zf2.2 ⟨p,hp1,hp2⟩),by simpa using h0⟩)]
theorem rC (zl:List (Int×Int)):(gW zl).length≤zl.length:=by
 unfold gW;rw[ze6];refine zk8 (zc5 _ _) ?_;rw[ff,ze6];exact lR _
theorem nu (n k:Int):∀ zl:List (Int×Int),c8 (zl.map fun p=>(p.1,n * p.2)) k=n * c8 zl k
 | []=>(Int.mul_zero n).symm
 | (a,z)::r=>by
  simp only[zg4,c8];split
  ·rfl
  ·exact nu n k r
structure jP (l m:List Cl)(img:Int→List Tm):Prop where
 cl:(aG l).2=0
 cm:(aG m).2=0
 fit:∀ x∈aa l,lq (aa m) x.dim (img x.id)
 chain:jk (aa l) (aa m) img
def kV (l:List Cl)(e:Ed):List Cl:=if bkK e=true then (dB l e).2 else l
def o9 (l:List Cl)(e:Ed):List Cl:=if bkK e=true then l else (dB l e).2
theorem Gu {l:List Cl}{e:Ed}(h:(dB l e).1=0):jP (kV l e) (o9 l e) (nG (aa l) e):=by
 obtain ⟨hD,h1,_,_⟩:=jj h;have h2:=Ap h;have h3:=D9 h;have h4:(aG (dB l e).2).2=0:=by rw[hD.check]
 unfold kV o9;by_cases hb:bkK e=true
 ·rw[zg1 hb] at h2 h3 ⊢;rw[zg1 hb];exact⟨h4,h1,by rw[hD.canon]; exact h3,by rw[hD.canon]; exact h2⟩
 ·rw[zf9 hb] at h2 h3 ⊢;rw[zf9 hb];exact⟨h1,h4,by rw[hD.canon]; exact h3,by rw[hD.canon]; exact h2⟩
theorem EN {l:List Cl}{e:Ed}(h:(dB l e).1=0):th l e=(aa (kV l e)).map fun c=>(c.id,nG (aa l) e c.id):=by
 obtain ⟨hD,_,_,_⟩:=jj h;unfold th kV;by_cases hb:bkK e=true
 ·rw[zg1 hb,zg1 hb,hD.canon]
 ·rw[zf9 hb,zf9 hb]
section
variable {l m:List Cl}{img:Int→List Tm}(h:jP l m img)
include h
theorem jP.canonic {x:Cl}(hx:x∈aa l){us:List Tm}(hu:oT (cf (img x.id)) us):us=img x.id:=hu.uniq (h.fit x hx).can fun _=>rfl
theorem jP.small {x:Cl}(hx:x∈aa l):∀ t∈img x.id,t.2.natAbs≤1:=fun t ht=>by
 rcases (h.fit x hx).2.1 t ht with e | e <;> omega
theorem jP.dimOf {x:Cl}(hx:x∈aa l):findC l x.id=some x:=by
 have hl:=iL h.cl;have h1:ak l=aa l:=bG hl.asc;unfold findC;rw[h1];exact hl.find hx
theorem jP.bound {x:Cl}(hx:x∈aa l){us:List Tm}(hu:oT (bdF l (cf [(x.id,1)])) us):us=x.sides.map fun y=>(y.cell,y.sign):=by
 have hl:=iL h.cl;refine hu.uniq (um hl hx) fun r=>?_;rw[← pE,mF hl,kZ,ob hl hx]
theorem jP.found {x:Cl}(hx:x∈aa l){us:List Tm}(hu:oT (bdF l (cf [(x.id,1)])) us):us.length≤64∧∀ t∈us,(t.2=1∨t.2 = -1)∧∃ y∈aa l,y.id=t.1:=by
 have hl:=iL h.cl;rw[h.bound hx hu];refine⟨by rw[ze6]; exact hl.few64 hx,fun t ht=>?_⟩;obtain ⟨y,hy,rfl⟩:=zf2.1 ht;obtain ⟨d,h1,_⟩:=(hl.form x hx).found y hy;obtain ⟨h2,h3⟩:=cw h1;exact⟨hl.signs hx y hy,d,h2,h3⟩
theorem jP.equal {x:Cl}(hx:x∈aa l){us cs bs:List Tm}(hu:oT (bdF l (cf [(x.id,1)])) us)(ha:oT (bdF m (cf (img x.id))) cs)(hb:oT (onF img us) bs):cs=bs :=
 ha.uniq hb fun r=>CR (iL h.cl) (iL h.cm) h.chain hx hu r
theorem jP.there {x:Cl}(hx:x∈aa l):∀ t∈img x.id,∃ c∈m,c.id=t.1∧c.dim=x.dim:=fun t ht=>by
 obtain ⟨c,h1,h2⟩:=(h.fit x hx).2.2.1 t ht;obtain ⟨h3,h4⟩:=cw h1;unfold aa at h3;obtain ⟨d,hd,rfl⟩:=zf2.1 h3;exact⟨d,(dj (key:=Cl.id) m).mem_iff.1 hd,h4,h2⟩
end
structure JInv (tl:List Cl)(l:List Side)(J:List Int):Prop where
 len:J.length=l.length
 low:∀ (i:Nat) (v:Int),J[i]?=some v→0≤v∧v≤i
 link:∀ (i:Nat) (v:Int) (x y:Side),J[i]?=some v→l[i]?=some x→l[v.toNat]?=some y→Cn (vr tl l) x.cell y.cell
end Go.Proofs.YtbbppeihhkhkcaaGreatDoor
namespace Go.Sy
open Go
section
variable {P:Program}{b:Frame}{a:Act}{k:List Item}{cs:List Frame}{w:World}{Q:Exit→Act→World→Prop}
end
section
variable {P:Program}{M:Md}{N:Nat}{E:World}{Q:Exit→Act→World→Prop}{f:Fr}{g:PH}{s:Own}
end
section
variable {P:Program}{M:Md}{N:Nat}{E:World}{Q:Exit→Act→World→Prop}{f:Fr}{g:PH}{s:Own}{dst:Option Tmp}{ty:TypeId}{pos:String}{af:Array Edge}{gd:Option (Nat×Bool)}
end
section
variable {P:Program}{M:Md}{N:Nat}{E:World}{Q:Exit→Act→World→Prop}{f:Fr}{g:PH}{s:Own}{ops:Array Oper}{b:Nat}{o:Obj}
theorem XL.freeze {l:List Oper}(h:∀ g',Le g g'→g' b=some o→XL P M N E ops Q l f g' s):XL P M N E ops Q l f g (pt b o::s):=fun a w ha hw=>by
 have h1:=hw.own (pt b o) (by simp);simp only[pt,Option.bind_some] at h1;obtain ⟨h2,h3⟩:=hw.freeze (b:=b) rfl h1;exact h _ h3 (gp _ _ _) a w ha h2
theorem XL.freezeMap {l:List (Int×Value)}{k:List Oper}(h:∀ g',Le g g'→Mp g' b l→XL P M N E ops Q k f g' s):XL P M N E ops Q k f g (mp b l::s):=fun a w ha hw=>by
 obtain ⟨g',h1,h2,h3⟩:=hw.freezeMap;exact h g' h1 h3 a w ha h2
end
section
variable {P:Program}{M:Md}{N:Nat}{E:World}{ops:Array Oper}{Q:Exit→Act→World→Prop}{g0:PH}{s0:Own}{tail:List Nat}{f:Fr}{g:PH}{s s':Own}{L:Array Bool}{n:Nat}
end
end Go.Sy
namespace Go.Proofs.YtbbppeihhkhkcaaGreatDoor
open _root_.Go.Proofs.Tryz _root_.Go.Proofs.YtbbppeihhkhkcaaGreatDoor.Tryz
open Go Go.Sy Go.Pl Go.Proofs
set_option maxRecDepth 100000
set_option maxHeartbeats 4000000
theorem Tryz.sty109:STy Tryz.prog 109 29 1 24 (.agg #[.slice none 0 0]):=⟨underlying109,⟨t29,by kernel_rfl,by kernel_rfl,by kernel_rfl,by kernel_rfl⟩,rfl,by decide⟩
def AR (E:World)(pv:Value)(q:Tm→Bool)(g:PH):Prop :=
 ∀ g' s a,Le g g'→c4 Tryz.prog E pv [.agg (a6.enc a).toArray] g' s (fun x g'' s''=>x=vb (q a)∧g'=g''∧s=s'')
theorem z7 (E:World)(g:PH)(s:Own)(v:Value)(kn:FuncId)(kc:Array Value)(l:List Tm)(q:Tm→Bool)(hv:SlA a6 g v l)(hl:l.length<1099511627776)(hp:AR E (.func (.func kn) #[] kc) q g) :
  Ctr Tryz.prog E 182 #[v,.func (.func kn) #[] kc] g s (fun r g' s'=>(∃ n:Int,r=vi n∧decide (n≥0)=l.any q)∧g=g'∧s=s'):=by
 obtain ⟨p,c,rfl⟩:=hv.form;refine zb2 (args:=[.slice p l.length c,.func (.func kn) #[] kc]) func182 I ntmps182 (bE I) ?_;refine rZ (aT I (sQ (sW I (lU (eN tf I) (lM I (tZ (bK ?_)))))));refine oP (ι:=Nat) (fun k=>[(0,.slice p l.length c),(1,.func (.func kn) #[] kc),(7,vi l.length),(8,vi k)]) (fun _=>g) (fun _=>s) (fun k=>k≤l.length∧(l.take k).any q=false) (fun k=>l.length - k) 0
  sB rfl rfl ⟨zf6 _,by simp⟩ ?_
 rintro k ⟨hk,hno⟩;refine rZ (yL I (tZ (sQ ?_)));refine iP I (fun hlt=>?_) (fun hlt=>?_)
 ·have hkl:k<l.length:=oM;have hb1:=hv.based oM;refine kP (tN (sQ (bK (sW I (aT I (sW I (lM I (lM I (lU (iA tf qD I I hb1 oM sL) ?_)))))))));refine SL.q (eA isAgg82 qD I hv.rd (gE hkl)) dC ?_;refine lW (SO.callV I I (hp g _ l[k] (zb9 g))) ?_;rintro _ _ _ ⟨rfl,rfl,rfl⟩;refine tZ ?_;refine iQ I (fun hq=>?_) (fun hq=>?_)
  ·refine sW I (aT I (rE (bR (tR (tR (bR (tR ?_)))))));have hany:l.any q=true:=zj8.2 ⟨l[k],gM hkl,hq⟩;exact za8 (.inl I) results182 I ⟨⟨k,I,by rw[hany]; simp⟩,I,I⟩
  ·refine kP (bN (tN (rG (yD I (lM I (nL ?_))))));exact ST.again (k+1) sB I I ⟨oM,by rw[tS hkl,List.any_append,hno]; simpa using hq⟩ oM
 ·refine xI (tX (tX (bX (tN (rZ (aT I (rE ?_)))))));have hkk:l.take k=l:=tL oM;rw[hkk] at hno;exact za8 (.inl I) results182 I ⟨⟨-1,I,by rw[hno]; rfl⟩,rfl,rfl⟩
theorem tH (E:World)(g:PH)(s:Own)(v:Value)(kn:FuncId)(kc:Array Value)(l:List Tm)(q:Tm→Bool)(hv:SlA a6 g v l)(hl:l.length<1099511627776)(hp:AR E (.func (.func kn) #[] kc) q g) :
  Ctr Tryz.prog E 124 #[v,.func (.func kn) #[] kc] g s (fun r g' s'=>r=vb (l.any q)∧g=g'∧s=s'):=by
 refine zb2 (args:=[v,.func (.func kn) #[] kc]) func124 I ntmps124 (bE I) ?_;refine rZ (aT I (sW I (lM I (lW (cL call182 I (z7 E g _ v kn kc l q hv hl hp)) ?_))));rintro _ _ _ ⟨⟨n,rfl,hn⟩,rfl,rfl⟩;refine lU (gQ I I) (aT I (rE ?_));exact za8 (.inl I) results124 I ⟨by rw[hn],I,I⟩
theorem yR (E:World)(g:PH)(s:Own)(v u:Value)(l:List Tm)(hv:SlA a6 g v l)(hu:SlA a6 g u l)(hl:l.length<1099511627776) :
  Ctr Tryz.prog E 58 #[v,u] g s (fun r g' s'=>r=vb true∧g=g'∧s=s'):=by
 obtain ⟨p,c,rfl⟩:=za4 hv;obtain ⟨q,d,rfl⟩:=za4 hu;refine zb2 (args:=[.slice p l.length c,.slice q l.length d]) func58 I ntmps58 (bE I) ?_;refine rZ (aT I (sQ (sW I (lU (eN tf I) (lM I (lU (eN tf I) (lU (SU.eq (v':=vb false) (nQ I I) (ze2 vb (zf7 (by simp)))) ?_)))))));refine tZ (za1 I (kP (tN (sQ (sW I (lU (eN tf I) (lM I (tZ (bK ?_)))))))));refine oP (ι:=Nat) (fun k=>[(0,.slice p l.length c),(1,.slice q l.length d),(12,vi l.length),(13,vi k)]) (fun _=>g) (fun _=>s) (fun k=>k≤l.length) (fun k=>l.length - k) 0
  sB rfl rfl (zf6 _) ?_
 rintro k hk;refine rZ (yL I (tZ (sQ ?_)));refine iP I (fun hlt=>?_) (fun hlt=>?_)
 ·have hkl:k<l.length:=oM;have hb1:=za6 hv oM;have hb2:=za6 hu oM;refine kP (tN (sQ (bK (sW I (aT I (sQ ?_))))));refine dW [] [(0,2),(1,2),(2,2),(3,1),(4,2),(5,2),(6,2),(7,1),(8,2)] ze3 kR ?_;refine yM I (yM I (pU I (iA tf qD I I hb1 oM sL) ?_));refine pQ I (eA isAgg82 qD I (za7 hv) (gE hkl)) dC ?_;refine yM I (yM I (pU I (iA tf qD I I hb2 oM sL) ?_));refine pQ I (eA isAgg82 qD I (za7 hu) (gE hkl)) dC ?_;refine pU I (SU.eq (v':=vb false) (SU.neqTmT l[k] I I) I) (pN (tN (za1 I (kP (bN (tN (rG (yD I (lM I (nL ?_))))))))));exact ST.again (k+1) sB I I oM oM
 ·refine xI (tX (tX (bX (tN (rZ (aT I (rE ?_)))))));exact za8 (.inl I) results58 I ⟨I,I,I⟩
open Go Go.Sy Go.Pl Go.Proofs Go.Shelf Go.Sort
def Tryz.keysW_ren:Ren :=
 {
  f:=fun x =>
   match x with
   | 7=>180
   | 10=>228
   | n=>n,
  t:=fun x =>
   match x with
   | 23=>171
   | 26=>3
   | 3=>80
   | 28=>129
   | 0=>0
   | 27=>128
   | 33=>193
   | 4=>4
   | n=>n,
  g:=fun x =>
   have n:=x;
   n }
theorem Tryz.keysW:SlLaysZI.n7 Tryz.prog Tryz.keysW_ren :=
  {
  mixed:=Eq.refl true,
  f7 :=
   Exists.intro "maps.Keys[cocycle/chains.sum,int,cocycle/api.Wide]"
    ⟨zg3 (id (Eq.refl true)),
     zb8 func180
      (ze2 some
       kR)⟩,
  f10 :=
   Exists.intro "maps.Keys[cocycle/chains.sum,int,cocycle/api.Wide]$1"
    ⟨zg3 (id (Eq.refl true)),
     zb8 func228
      (ze2 some
       kR)⟩,
  t0:=uT0,a0:=isAgg0,z0:=sizeOf0,v0:=zl2,t4:=uT4,
  a4:=iT4,z4:=zT4,v4:=zl9,t23:=underlying171,a23:=isAgg171,
  z23:=sizeOf171,v23:=zeroValue171,t26:=uT3,a26:=iT3,z26:=zT3,
  v26:=zl1,t27:=underlying128,a27:=isAgg128,z27:=sizeOf128,
  v27:=zeroValue128,t28:=underlying129,a28:=isAgg129,z28:=sizeOf129,
  v28:=zeroValue129,t33:=underlying193,a33:=isAgg193,z33:=sizeOf193,
  v33:=zeroValue193 }
theorem zZ (E:World)(g:PH)(s:Own)(m:Nat) :
  Ctr Tryz.prog E 180 #[.map (some m)] g s (fun r g' s'=>s=s'∧Le g g'∧∃ b,r = .func (.func 228) #[] #[pp b 0]∧g' b=some (.cells #[.map (some m)] 171 (0,0))):=by
 refine zb2 (args:=[.map (some m)]) func180 I ntmps180 (bE I) ?_;refine rZ (bW (bO I) fun b1=>?_);refine aT I (rZ (lU (SU.mkFunc I) (aT I (rE (ST.freeze fun g1 h1 hb=>?_)))));exact za8 (.inl I) results180 I ⟨I,h1,_,I,hb⟩
theorem vB (E:World)(hE:E.drawn=0)(g:PH)(s:Own)(b m:Nat)(l:List (Int×Value))(hb:g b=some (.cells #[.map (some m)] 171 (0,0)))(hm:Mp g m l)(hl:l.length<1099511627776)(hw:∀ p∈l,bw p.1) :
  Ctr Tryz.prog E 146 #[.func (.func 228) #[] #[pp b 0]] g s (fun r g' s'=>s=s'∧Le g g'∧eG g' r (ei (l.map Prod.fst))):=by
 intro w hat;obtain ⟨es,clk,hes,hmi,hst⟩:=hm;have hesl:es.toList.length=l.length:=by have:=ze2 List.length hmi; simpa using this
 have hesz:es.size=l.length:=by simpa using hesl
 have hreads:∀ x∈es.toList,∃ y,WideElems.rd (H:=Unit) Tryz.prog 3 (fun _=>some (.lit (.bool true),[])) x=some y∧∃ p∈l,y.1 = .int .i64 p.1:=fun x hx=>by
  have h1:im x∈es.toList.map im:=zf2.2 ⟨x,hx,rfl⟩;rw[hmi] at h1;obtain ⟨p,hp,he⟩:=zf2.1 h1;have hk:x.key=vi p.1:=(ze2 Prod.fst he).symm;have hkey:keyOf Tryz.prog 3 x.key=some (.int .i64 p.1):=by
   rw[hk]; exact Maps.keyOf_int_mk uT3 (EB (hw p hp))
  exact⟨(.int .i64 p.1,.lit (.bool true)),by simp[WideElems.rd,hkey],p,hp,I⟩
 have hown:w.ownsMap Tryz.prog 3 (fun _=>some (.lit (.bool true),[])) m l.length (.map ((es.toList.map (WideElems.rg (H:=Unit) Tryz.prog 3 (fun _=>some (.lit (.bool true),[])))).foldr DataW.insert [])) :=
  ⟨es,clk,hat.known _ _ hes,⟨by rw[hesz]; unfold maxLen; omega,hst,fun x hx=>(hreads x hx).imp fun _ h=>h.1⟩,oM,rfl⟩
 have hkeys:(l.map Prod.fst).Perm (intKeys (.map ((es.toList.map (WideElems.rg (H:=Unit) Tryz.prog 3 (fun _=>some (.lit (.bool true),[])))).foldr DataW.insert []))):=by
  have h1:(es.toList.map (WideElems.rg (H:=Unit) Tryz.prog 3 (fun _=>some (.lit (.bool true),[])))).map (fun p=>Go.intOf p.1)=l.map Prod.fst:=by
   have h2:l.map Prod.fst=(es.toList.map im).map (fun q=>(unV q).1):=by rw[hmi,zi5]; rfl
   rw[h2,zi5,zi5];refine zc8 fun x hx=>?_;have h3:im x∈es.toList.map im:=zf2.2 ⟨x,hx,rfl⟩;rw[hmi] at h3;obtain ⟨p,hp,he⟩:=zf2.1 h3;have hk:x.key=vi p.1:=(ze2 Prod.fst he).symm;have hkey:keyOf Tryz.prog 3 x.key=some (.int .i64 p.1):=by
    rw[hk]; exact Maps.keyOf_int_mk uT3 (EB (hw p hp))
   simp[WideElems.rg,WideElems.rd,hkey,hk ▸ hkey,Go.intOf,im,unV,hk]
  rw[← h1];exact ((WideShapes.sorted_perm _).map _).symm
 have hsize:Maps.size (.map ((es.toList.map (WideElems.rg (H:=Unit) Tryz.prog 3 (fun _=>some (.lit (.bool true),[])))).foldr DataW.insert []))=l.length:=by
  have:=hkeys.length_eq;simpa [intKeys,Maps.size] using this.symm
 have hseq:=AnyZI.keys_gives (ρ:=Tryz.keysW_ren) { Tryz.keysW with } Fence.wide 2 trivial rfl oM b m l.length _ (R:=fun _=>some (.lit (.bool true),[])) w (hat.lt hb) (by simp[World.cell?,hat.known _ _ hb]) hown;have cS:=AnyZI.sorted_in Tryz.sortedA Fence.wide 5 trivial trivial trivial trivial rfl oM (Tryz.sortsA _) (enters_of func132 kR rfl) 228 #[.pointer (some ⟨b,0,none⟩)] trivial (enters_of func228 kR rfl) _ _ (by rw[hsize]; unfold maxLen; omega) (by rw[hsize]; omega) w hseq;refine ((callsIn_wide (n:=5)).1 cS).mono ?_;rintro e w' ⟨v,ss,rfl,hss,hrow,hnil,hbel⟩;have hsrt:ss.mergeSort (fun x y=>decide (x≤y))=ei (l.map Prod.fst):=mergeSort_of_perm_i (hss.trans hkeys.symm);rw[hsrt] at hrow;have hat2:At E g s w':=by
  refine⟨hbel.os.trans hat.os,⟨hbel.tape.trans hat.tape.1,by rw[hE]; exact zf6 _⟩,hbel.output.trans hat.output,fun k o hk=>?_,fun x hx=>?_,fun x hx k hk=>⟨(hat.fresh x hx k hk).1,Nat.lt_of_lt_of_le (hat.fresh x hx k hk).2 hbel.size⟩,hat.apart⟩
  ·rw[hbel.block k (hat.lt hk)]; exact hat.known k o hk
  ·have h1:=hat.own x hx;cases hbk:x.blk with
   | none=>simpa [hbk] using h1
   | some k =>
    simp only[hbk,Option.bind_some] at h1 ⊢;rw[hbel.block k (hat.fresh x hx k hbk).2];exact h1
 rcases hrow.2 with ⟨rfl,h0⟩ | ⟨gb,cap,cur,rfl,hbase,hgb,r1,r2,r3,r4⟩
 ·have hss0:ss=[]:=zf4 h0;have hl0:l.map Prod.fst=[]:=by
   have:=(hss.trans hkeys.symm).length_eq;rw[hss0] at this;exact zf4 (by simpa using this.symm)
  refine⟨_,g,s,I,hat2,I,zb9 g,?_⟩;rw[hl0];have:ei []=[]:=by simp[ei]
  rw[this];exact zc1 g 1
 ·have hfresh:g gb=none:=by
   cases h:g gb with
   | none=>rfl
   | some o=>have:=hat.lt h; omega
  refine⟨_,upd g gb (.cells cur 3 (0,0)),s,I,⟨hat2.os,hat2.tape,hat2.output,fun k o hk=>?_,hat2.own,fun x hx k hk=>⟨?_,(hat2.fresh x hx k hk).2⟩,hat2.apart⟩,I,EH hfresh,?_⟩
  ·unfold upd at hk;split at hk
   ·rename_i e1; subst e1; injection hk with hk; subst hk; exact hgb
   ·exact hat2.known k o hk
  ·have h1:=hat.fresh x hx k hk;have hne:k≠gb:=oM;simp only[upd,hne,if_false];exact h1.1
  ·have hlen:(ei (l.map Prod.fst)).length=ss.length:=by rw[ff]; exact (hss.trans hkeys.symm).length_eq.symm
   refine⟨some ⟨gb,0,none⟩,cap,by rw[hlen],⟨by rw[encInt.length],oM⟩,fun _=>⟨gb,0,cur,_,(0,0),I,gp _ _ _,fun j x hj=>?_⟩⟩;rw[py] at hj;have hj2:(cur.toList.take (ss.length * 1))[j]?=some x:=by rw[r4]; exact hj
   rw[zi1] at hj2;split at hj2
   ·simpa using hj2
   ·cases hj2
end Go.Proofs.YtbbppeihhkhkcaaGreatDoor
