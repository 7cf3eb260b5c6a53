/-
  A cell that is attached can be removed again, and a top cell that is removed can be attached again (EditsBack). No conditions.
-/
import Derived.Test.YtackilpikhkijaaGreatDoorBa10
import Derived.Test.YtackilpikhkijaaGreatDoorBa06
import Derived.Test.YtackilpikhkijaaGreatDoorBa12
import Derived.Test.YtackilpikhkijaaGreatDoorBa08
import Derived.Test.YtackilpikhkijaaGreatDoorTie
import Derived.Test.YtackilpikhkijaaGreatDoorCards
import Derived.LaidMore
import Derived.Lay
import Derived.SevenTiedAt
import Derived.Stop.Joined
set_option linter.unusedSimpArgs false
set_option linter.unusedVariables false
namespace Go.Proofs.YtackilpikhkijaaGreatDoor
open _root_.Go.Proofs.Tryz _root_.Go.Proofs.YtackilpikhkijaaGreatDoor.Tryz
open Go Go.Sy Go.Pl Go.Proofs
open Go.ChangeShapes Go.WideShapes Go.ChangeAt Go.RowKit
set_option maxRecDepth 100000
abbrev Ac:=Int×Int×Int×Int
def encAc:Enc Ac 4:=⟨fun a=>[vi a.1,vi a.2.1,vi a.2.2.1,vi a.2.2.2],fun _=>rfl,fun _ u hu=>by simp at hu; rcases hu with rfl | rfl | rfl | rfl <;> rfl,by decide⟩
theorem row_slk {W:World}{k:Nat}{a:Addr}{len cap:Nat}{xs:List Value}(hl:len≤cap)(hx:xs.length=len * k)(hc:∀ i x,xs[i]?=some x→W.cell? (a.add i)=some x):Sl (held W) k (.slice (some a) len cap) len xs:=by
 refine⟨some a,cap,I,⟨hx,hl⟩,fun hne=>?_⟩;obtain ⟨b,o,sp⟩:=a;have h0:0<xs.length:=List.length_pos_iff.2 hne;have hc0:=hc 0 xs[0] (gE h0);have hsp:sp=none:=by simpa [Addr.add] using World.cell?_spot hc0
 subst hsp;have hadd:∀ i,(⟨b,o,none⟩:Addr).add i=⟨b,o+i,none⟩:=fun i=>by unfold Addr.add; split <;> simp_all
 simp only[hadd] at hc;have hcell:∀ i x,xs[i]?=some x→∃ cs T fr,W.heap[b]?=some (.cells cs T fr)∧cs[o+i]?=some x:=fun i x hi=>by
  have h1:=hc i x hi;unfold World.cell? at h1;split at h1
  ·rename_i cs T fr hh;exact⟨cs,T,fr,hh,by simpa using h1⟩
  ·cases h1
 obtain ⟨cs,T,fr,hb,_⟩:=hcell 0 xs[0] (gE h0);refine⟨b,o,cs,T,fr,I,hb,fun j x hj=>?_⟩;obtain ⟨cs',T',fr',hb',h2⟩:=hcell j x hj;rw[hb] at hb';cases hb';exact h2
theorem enc_split {α:Type}{k:Nat}(e:Enc α k){l:List α}{j:Nat}{x:Value}(h:(l.flatMap e.enc)[j]?=some x):∃ i a,l[i]?=some a∧j=i * k+j % k∧j % k<k∧(e.enc a)[j % k]?=some x:=by
 have hj:=(List.getElem?_eq_some_iff.1 h).1;rw[e.length] at hj;have hk:=e.pos;have h1:j / k<l.length:=by rw[Nat.div_lt_iff_lt_mul hk]; exact hj
 have h2:j % k<k:=Nat.mod_lt _ hk;have h3:j=j / k * k+j % k:=by rw[Nat.mul_comm]; exact (Nat.div_add_mod j k).symm
 refine⟨j / k,l[j / k],gE h1,h3,h2,?_⟩;have h4:(e.enc l[j / k])[j % k]?=some ((e.enc l[j / k])[j % k]'(by rw[e.len]; exact h2)):=gE _;have h5:=e.get (gE h1) h4;rw[← h3,h] at h5;rw[h4,← h5]
section
variable {H:Type}{enc:TypeId×Value→H}{W:World}{base:Nat}{spare:Nat→Bool}{hd:Bool}
theorem Tryz.cells37:Tryz.prog.cellsOf 37=4:=by kernel_rfl
theorem act_of {fuel:Nat}{cs:List Value}{x:DataW H×List MemPlace}(h:DataW.trod enc Tryz.prog W base spare hd fuel 37 cs=some x):∃ a:Ac,cs=encAc.enc a:=by
 obtain ⟨y0,y1,y2,y3,n,_,hl,h0,h1,h2,h3⟩:=Go.Joins.trod_struct4 uT37 h;rw[cells37] at hl
 match cs,hl with
 | [c0,c1,c2,c3],_ =>
  rw[cells3] at h0 h1 h2 h3;obtain ⟨a,e0,_,_⟩:=DataW.trod_int uT3 h0;obtain ⟨b,e1,_,_⟩:=DataW.trod_int uT3 h1;obtain ⟨c,e2,_,_⟩:=DataW.trod_int uT3 h2;obtain ⟨d,e3,_,_⟩:=DataW.trod_int uT3 h3;simp at e0 e1 e2 e3;subst e0 e1 e2 e3;exact⟨(a,b,c,d),I⟩
theorem acts_of {fuel:Nat}{v:Value}{x:DataW H×List MemPlace}(h:DataW.trod enc Tryz.prog W base spare hd fuel 25 [v]=some x):∃ l:List Ac,SlA encAc (held W) v l:=by
 rcases Go.Deep.open_slice underlying25 h with ⟨hcs,_⟩ | ⟨a,len,cap,m,n,D,Pl,hcs,_,hl,_,hmm,_,hx⟩
 ·simp at hcs;subst hcs;exact⟨[],Sl.nil _ _⟩
 ·simp at hcs;subst hcs;have hlm:len≤m:=by rw[hmm]; split <;> omega
  obtain ⟨f,hf⟩:=Go.Deep.choose_lt (α:=Ac) (n:=len) (p:=fun i y=>∀ j x,(encAc.enc y)[j]?=some x→W.cell? (a.add (i * 4+j))=some x) fun i hi=>by
   obtain ⟨cs',h1,h2⟩:=hx i oM;rw[cells37] at h1;obtain ⟨y,rfl⟩:=act_of h2;obtain ⟨_,_,h3⟩:=World.cells?_some h1;refine⟨y,fun j x hj=>?_⟩;have hj4:j<4:=by have:=(List.getElem?_eq_some_iff.1 hj).1; rwa [encAc.len] at this
   rw[← Go.Deep.add_add,h3 j hj4,hj]
  refine⟨(List.range len).map f,?_⟩;show Sl (held W) 4 _ ((List.range len).map f).length (((List.range len).map f).flatMap encAc.enc);rw[List.length_map,List.length_range];refine row_slk hl (by rw[encAc.length,List.length_map,List.length_range]) fun j y hj=>?_;obtain ⟨i,b,hi,h1,h2,h3⟩:=enc_split encAc hj;rw[List.getElem?_map] at hi;cases hc:(List.range len)[i]? with
  | none=>rw[hc] at hi; cases hi
  | some z =>
   rw[hc] at hi;cases hi;obtain ⟨h4,h5⟩:=List.getElem?_eq_some_iff.1 hc;simp at h4 h5;subst h5;rw[h1];exact hf i h4 _ _ h3
theorem acts_arg {v:Value}{d:DataW H}{p:List MemPlace}(h:DataW.Trod enc Tryz.prog W base spare hd 25 v d p)(hv:v.cells = #[v]):∃ l:List Ac,SlA encAc (held W) v l:=by
 obtain ⟨f,hf⟩:=h;rw[hv] at hf;exact acts_of hf
end
set_option maxHeartbeats 2000000
theorem tmIn (x:Tm)(w:World):(Op.equalIn 10000 77 (.agg (encTm.enc x).toArray) (.agg (encTm.enc x).toArray)).run Tryz.prog w = .ok true w:=by
 have hu:Tryz.prog.underlying 77=some (.struct (Tryz.prog.fieldsOf 77)):=by kernel_rfl
 have hu2:Tryz.prog.underlying 75=some (.struct (Tryz.prog.fieldsOf 75)):=by kernel_rfl
 rw[run_equalIn_agg w 9999 77 _ _ hu stoodInHeld77]
 have hfs : ∃ f1 f2,(Tryz.prog.fieldsOf 77).toList = [f1,f2] ∧ f1.name ≠ "_" ∧ f2.name ≠ "_" ∧ f1.type = 3 ∧ f2.type = 75 ∧ f1.offset = 0 ∧ f2.offset = 1:=⟨_,_,rfl,by decide,by decide,rfl,rfl,rfl,rfl⟩
 obtain ⟨f1,f2,e,n1,n2,t1,t2,o1,o2⟩:=hfs
 have hgs : ∃ f1 f2,(Tryz.prog.fieldsOf 75).toList = [f1,f2] ∧ f1.name ≠ "_" ∧ f2.name ≠ "_" ∧ f1.type = 4 ∧ f2.type = 9 ∧ f1.offset = 0 ∧ f2.offset = 1:=⟨_,_,rfl,by decide,by decide,rfl,rfl,rfl,rfl⟩
 obtain ⟨f3,f4,e2,n3,n4,t3,t4,o3,o4⟩:=hgs;obtain ⟨a,n⟩:=x;rw[e];have h1:=run_equalIn_int (P:=Tryz.prog) w 9998 3 .i64 .i64 a a uT3;have h2:(Op.equalIn 9999 75 (.agg #[vb (wneg n),txt (magB n.natAbs)]) (.agg #[vb (wneg n),txt (magB n.natAbs)])).run Tryz.prog w = .ok true w:=by
  rw[run_equalIn_agg w 9998 75 _ _ hu2 stoodInHeld75,e2];have h3:=run_equalIn_bool (P:=Tryz.prog) w 9997 4 (wneg n) (wneg n) uT4;have h4:=run_equalIn_string (P:=Tryz.prog) w 9997 9 ⟨(magB n.natAbs).toArray⟩ ⟨(magB n.natAbs).toArray⟩ uT9;simp only[Op.eqFields,n3,n4,t3,t4,o3,o4,txt,Go.part,ne_eq,not_false_eq_true,if_true,Sem.run_bind,isAgg4,isAgg9,Result.andThen_ok];simp[h3,h4]
 simp only[Op.eqFields,n1,n2,t1,t2,o1,o2,encTm,Go.part,ne_eq,not_false_eq_true,if_true,Sem.run_bind,iT3,isAgg75,zT75,Result.andThen_ok];simp[h1,h2]
theorem SU.eqlTmT {N:Nat}{f:Fr}{dst:Option Tmp}{ty:TypeId}{pos:String}{af:Array Edge}{gd:Option (Nat×Bool)}{x y:Operand}(a:Tm){U:TypeId}(hx:ev f x=some (.agg (encTm.enc a).toArray))(hy:ev f y=some (.agg (encTm.enc a).toArray)) :
  SU Tryz.prog N ⟨dst,.binOp .eql 77 x y U,ty,pos,af,gd⟩ f (vb true):=fun ac w ha=>by
 have hg:=run_eqGuard_agg (P:=Tryz.prog) w .eql 77 x y (encTm.enc a).toArray (encTm.enc a).toArray eqGuardType77;simp only[execOp,ha.ev hx,ha.ev hy,Sem.run_bind,hg,Result.andThen_ok];rw[run_eql_struct,tmIn];rfl
theorem sent_spec (E:World)(g:PH)(s:Own)(v:Value)(L:List (Int×List Tm))(k0:Int)(hv:Ims g v L)(hs:L.length≤4000) :
  Ctr Tryz.prog E 27 #[.agg #[v],vi k0] g s (fun r g' s'=>g=g'∧s=s'∧SlA encTm g r (((L.find? fun p=>decide (p.1=k0)).map Prod.snd).getD [])):=by
 obtain ⟨ra,hra,halla⟩:=hv;have eal:=halla.length;obtain ⟨pa,ca,rfl⟩:=SlA.form hra;refine Ctr.of (args:=[.agg #[.slice pa ra.length ca],vi k0]) func27 I ntmps27 (bE I) ?_;refine rZ (bW (bO I) fun b2=>?_);refine aT I (sQ (rZ (aT I (bK ?_))));refine oP (ι:=Nat) (fun k=>[(1,vi k0),(2,pp b2 0),(5,vi k)]) (fun _=>g) (fun _=>pt b2 (.cells #[.slice pa ra.length ca] 44 (0,0))::s) (fun k=>k≤L.length∧(L.take k).find? (fun p=>decide (p.1=k0))=none) (fun k=>L.length - k) 0 sB I I ⟨Nat.zero_le _,I⟩ ?_;rintro k ⟨hk,hno⟩;try dsimp only at hk ⊢
 refine sQ (sW I (lU (fA underlying44 I sizeOf42 I) (lK (qL (v:=.slice pa ra.length ca) isAgg42 I (cO 0 I I)) (lU (eN underlying42 I) (lU (lS I I) (tZ ?_))))));refine iP I (fun hlt=>?_) (fun hlt=>?_)
 ·have hkl:k<L.length:=oM;have hb1:=SlA.based hra oM;have h1:=halla.get (gE hkl) (gE (show k<ra.length by omega));have g1:ra[((k:Nat):Int).toNat]?=some ra[k]:=gE (show k<ra.length by omega);have htk:L.take (k+1)=L.take k++[L[k]]:=tS hkl;have hLk:L=L.take k++L[k]::L.drop (k+1):=by rw[← List.drop_eq_getElem_cons hkl,List.take_append_drop]
  generalize L[k]=X at *;generalize ra[k]=xa at *;obtain ⟨ia,pA,nA,cA⟩:=xa;obtain ⟨f1,hA⟩:=h1;dsimp only at f1 hA;subst f1;refine kP (tN (sQ (bK (rZ (lU (fA underlying44 I sizeOf42 I) (lK (qL (v:=.slice pa ra.length ca) isAgg42 I (cO 0 I I)) (lM I (lU (iA underlying42 sizeOf113 I I hb1 oM sL) (lU (fC underlying113 I zT3 I hb1) (lK (aZ (e:=encIm) (o:=0) (u:=vi X.1) iT3 I (SlA.rd hra) g1 I) (lM I (lU (eQ I I) (tZ ?_)))))))))))));refine iP I (fun he=>?_) (fun he=>?_)
  ·refine rZ (lU (fA underlying44 I sizeOf42 I) (lK (qL (v:=.slice pa ra.length ca) isAgg42 I (cO 0 I I)) (lM I (lU (iA underlying42 sizeOf113 I I hb1 oM sL) (lU (fC underlying113 I sizeOf72 I hb1) (lK (aZ (e:=encIm) (o:=1) (u:=.slice pA nA cA) isAgg72 I (SlA.rd hra) g1 I) (aT I (rE (bR (tR (tR (bR (tR (dR (s':=s) uR ?_))))))))))))));exact ST.ret1 (.inl I) results27 I ⟨I,I,by rw[hLk,List.find?_append,hno,List.find?_cons,decide_eq_true he]; exact hA⟩
  ·refine kP (bN (tN (rG (lM I (lU (aD I I oM) (lA I (nL ?_)))))));exact gA (k+1) sB I I ⟨oM,by rw[htk,List.find?_append,hno]; simp[he]⟩ oM
 ·refine xI (tX (tX (bX (tN (rZ (aT I (rE ?_)))))));have hL:L.take k=L:=tL oM;rw[hL] at hno;refine dR (s':=s) uR ?_;exact ST.ret1 (.inl I) results27 I ⟨I,I,by rw[hno]; exact Sl.nil _ _⟩
set_option maxHeartbeats 8000000
theorem cells_n {g:PH}{p:Option Addr}{n c:Nat}{l:List Cl}(h:Cells g (.slice p n c) l):n=l.length:=by
 obtain ⟨q,d,e⟩:=h.form;injection e
theorem triangle12_spec (E:World)(g:PH)(s:Own):Ctr Tryz.prog E 26 #[] g s (fun r g' s'=>s=s'∧Le g g'∧∃ u,r = .agg #[u]∧Cells g' u triL):=by
 refine Ctr.of (args:=[]) func26 I ntmps26 (bE I) ?_;refine rZ (bW (aL zeroValue29) fun b0=>?_);refine tZ (rZ (lW (bS sty83 I I I (szs_mk sB) dC) ?_));rintro _ _ _ ⟨b1,rfl,rfl,rfl⟩;refine SL.freeze fun g1 hle1 hb1=>?_;refine lW (bS sty22 I I I (szs_mk ⟨I,trivial⟩) dC) ?_;rintro _ _ _ ⟨b2,rfl,rfl,rfl⟩;refine SL.freeze fun g2 hle2 hb2=>?_;have hlit:Lists g2 (.slice (some ⟨b2,0,none⟩) 1 1) [[0,1,2]]:=⟨[svOf (.slice (some ⟨b1,0,none⟩) 3 3)],SlA.lit hb2 rfl rfl,⟨SlA.lit (hle2 _ _ hb1) rfl rfl,trivial⟩⟩;refine lW (cL call60 I (simplicial_spec E g2 _ _ _ hlit dC dC)) ?_;rintro _ g3 _ ⟨rfl,hle3,u,rfl,hu⟩;rw[simp_tri] at hu;obtain ⟨q,d,rfl⟩:=hu.form;refine oZ (sK 0 zT29 I I I I I sB) ?_;refine tZ (rE ?_);exact ST.retCD 0 s (.inl I) results26 I iT29 zT29 I I uR ⟨I,hle1.trans (hle2.trans hle3),_,I,hu⟩
def exA:Ed:=⟨1,8,2,0,0,[⟨4,1⟩,⟨5,-1⟩,⟨6,1⟩],[]⟩
def exB:Ed:=⟨2,4,0,0,0,[],[]⟩
def exC:Ed:=⟨2,7,0,0,0,[],[]⟩
def exD:Ed:=⟨3,4,0,10,11,[],[]⟩
def exE:Ed:=⟨5,5,0,0,7,[],[]⟩
def exF:Ed:=⟨4,0,0,0,0,[],[(1,2)]⟩
theorem exA_ok:(appC triL exA).1=0∧(appC triL exA).2.length=8:=by decide +kernel
theorem exB_ok:(appC triL exB).1=31:=by decide +kernel
theorem exC_ok:(appC triL exC).1=0∧(appC triL exC).2.length=6∧(imO triL exC).2=true:=by decide +kernel
theorem exD_ok:(appC triL exD).1=0∧(findC (appC triL exD).2 7).getD zeroC=⟨7,2,[⟨4,1⟩,⟨5,-1⟩,⟨6,1⟩,⟨11,1⟩]⟩:=by
 refine⟨by decide +kernel,by kernel_rfl⟩
theorem exE_ok:(appC triL exE).1=0∧(((imO triL exE).1.find? fun p=>decide (p.1=5)).map Prod.snd).getD []=[(4,1),(6,1)]:=by decide +kernel
theorem exF_ok:(appC triL exF).1=22:=by decide +kernel
theorem exam (E:World)(g:PH)(s:Own)(v ev:Value)(e:Ed)(code:Int)(hv:Cells g v triL)(he:EdR g ev e)(hs:e.sides.length<1099511627776)(hp:e.pairs.length<1099511627776)(hc:(appC triL e).1=code) :
  Ctr Tryz.prog E 16 #[.agg #[v],ev] g s (fun r g' s'=>s=s'∧Le g g'∧∃ u:Sv,∃ x:Sr,r = .tuple #[.agg #[.slice u.p (appC triL e).2.length u.c],srv x,vi code]∧Cells g' (.slice u.p (appC triL e).2.length u.c) (appC triL e).2∧StK g' (imO triL e) x) :=
 (prog_apply E g s v ev triL e hv tri_fits he hs hp).mono fun r g' s' ⟨h1,h2,h3⟩=>by
  obtain ⟨u,x,h4,h5,h6⟩:=h3.one;have:=cells_n h5;refine⟨h1,h2,u,x,?_,?_,h6⟩
  ·rw[h4,this,hc]
  ·rw[← this]; exact h5
theorem Tryz.xA35 (a b d:Int)(q:Option Addr)(qn qc:Nat)(w:World):(Instr.build 35 #[(0,vi a),(1,vi b),(2,vi d),(5,.slice q qn qc)]).run Tryz.prog w = .ok (.agg #[vi a,vi b,vi d,vi 0,vi 0,.slice q qn qc,.slice none 0 0]) w:=by
 have h0:∀ a:Int,(vi a).cells = #[vi a]:=fun _=>rfl;have h3:(Value.slice q qn qc).cells = #[.slice q qn qc]:=rfl;simp[Instr.build,Instr.fill,h0,h3];rfl
theorem Tryz.xB35 (a b:Int)(w:World):(Instr.build 35 #[(0,vi a),(1,vi b)]).run Tryz.prog w = .ok (.agg #[vi a,vi b,vi 0,vi 0,vi 0,.slice none 0 0,.slice none 0 0]) w:=by
 have h0:∀ a:Int,(vi a).cells = #[vi a]:=fun _=>rfl;simp[Instr.build,Instr.fill,h0];rfl
theorem Tryz.xC35 (a b d e:Int)(w:World):(Instr.build 35 #[(0,vi a),(1,vi b),(3,vi d),(4,vi e)]).run Tryz.prog w = .ok (.agg #[vi a,vi b,vi 0,vi d,vi e,.slice none 0 0,.slice none 0 0]) w:=by
 have h0:∀ a:Int,(vi a).cells = #[vi a]:=fun _=>rfl;simp[Instr.build,Instr.fill,h0];rfl
theorem Tryz.xD35 (a b d:Int)(w:World):(Instr.build 35 #[(0,vi a),(1,vi b),(4,vi d)]).run Tryz.prog w = .ok (.agg #[vi a,vi b,vi 0,vi 0,vi d,.slice none 0 0,.slice none 0 0]) w:=by
 have h0:∀ a:Int,(vi a).cells = #[vi a]:=fun _=>rfl;simp[Instr.build,Instr.fill,h0];rfl
theorem Tryz.xE35 (a:Int)(q:Option Addr)(qn qc:Nat)(w:World):(Instr.build 35 #[(0,vi a),(6,.slice q qn qc)]).run Tryz.prog w = .ok (.agg #[vi a,vi 0,vi 0,vi 0,vi 0,.slice none 0 0,.slice q qn qc]) w:=by
 have h0:∀ a:Int,(vi a).cells = #[vi a]:=fun _=>rfl;have h3:(Value.slice q qn qc).cells = #[.slice q qn qc]:=rfl;simp[Instr.build,Instr.fill,h0,h3];rfl
theorem sanity12_spec (E:World)(g:PH)(s:Own):Ctr Tryz.prog E 10 #[] g s (fun r g' s'=>r=vb true∧s=s'∧Le g g'):=by
 refine Ctr.of (args:=[]) func10 I ntmps10 (bE I) ?_;refine rZ (aT I (rZ (lW (cL call26 I (triangle12_spec E g s)) ?_)));rintro _ g1 _ ⟨rfl,hle1,u,rfl,hu⟩;obtain ⟨q,d,rfl⟩:=hu.form;have hac:=hle1;refine bW (aL zeroValue29) fun b1=>?_;refine oZ (sK 0 zT29 I I I I I sB) ?_;refine tZ (rZ (lK (qV 0 iT29 zT29 I I I) (lU (SU.build I (buildS55 _ _)) (lU (SU.build I (buildS55 _ _)) (lU (SU.build I (buildS55 _ _)) (lW (bS sty32 I I I (szs_mk sB) dC) ?_))))));rintro _ _ _ ⟨b31,rfl,rfl,rfl⟩;refine SL.freeze fun g2 hle hb2=>?_;have hs2:SlA encSide g2 (.slice (some ⟨b31,0,none⟩) 3 3) exA.sides:=SlA.lit hb2 rfl rfl;have hu:=hu.mono hle;have hac:=hac.trans hle;clear hle;refine lU (SU.build I (xA35 _ _ _ _ _ _)) (lW (cL call16 I (exam E g2 _ _ _ exA 0 hu ⟨_,_,I,hs2,Sl.nil _ _⟩ dC dC exA_ok.1)) ?_);rintro _ g3 _ ⟨rfl,hle,⟨a1,a2,a3⟩,⟨⟨ax,ay,az⟩,ab⟩,rfl,hDa,hSa⟩;rw[exA_ok.2] at *;clear hSa;have hu:=hu.mono hle;have hac:=hac.trans hle;clear hle;refine lM I (lU (xT I I) (lU (xT I I) (lU (xT I I) (bW (aL zeroValue29) fun b2=>?_))));refine bW (aL zeroValue46) fun b3=>?_;refine oZ (sK 1 zT29 I I I I I sB) ?_;refine oZ (sK 0 zT46 I I I I I sB) ?_;refine aT I (rZ (lK (qV 2 iT29 zT29 I I I) (lU (SU.build I (xB35 _ _)) (lW (cL call16 I (exam E g3 _ _ _ exB 31 hu ⟨_,_,I,Sl.nil _ _,Sl.nil _ _⟩ dC dC exB_ok)) ?_))));rintro _ g4 _ ⟨rfl,hle,⟨w1,w2,w3⟩,⟨⟨wx,wy,wz⟩,wb⟩,rfl,hDw,hSw⟩;clear hSw hDw;generalize (appC triL exB).2.length=nb at *;have hu:=hu.mono hle;have hac:=hac.trans hle;clear hle;refine lM I (lU (xT I I) (lU (xT I I) (lU (xT I I) (bW (aL zeroValue29) fun b5=>?_))));refine bW (aL zeroValue46) fun b6=>?_;refine oZ (sK 1 zT29 I I I I I sB) ?_;refine oZ (sK 0 zT46 I I I I I sB) ?_;refine aT I (rZ (lK (qV 4 iT29 zT29 I I I) (lU (SU.build I (xB35 _ _)) (lW (cL call16 I (exam E g4 _ _ _ exC 0 hu ⟨_,_,I,Sl.nil _ _,Sl.nil _ _⟩ dC dC exC_ok.1)) ?_))));rintro _ g5 _ ⟨rfl,hle,⟨c1,c2,c3⟩,⟨⟨cx,cy,cz⟩,cb⟩,rfl,hDc,hSc⟩;have hcb:cb=true:=hSc.1.trans exC_ok.2.2;subst hcb;rw[exC_ok.2.1] at *;clear hSc;have hu:=hu.mono hle;have hac:=hac.trans hle;clear hle;refine lM I (lU (xT I I) (lU (xT I I) (lU (xT I I) (bW (aL zeroValue29) fun b8=>?_))));refine bW (aL zeroValue46) fun b9=>?_;refine oZ (sK 1 zT29 I I I I I sB) ?_;refine oZ (sK 0 zT46 I I I I I sB) ?_;refine aT I (rZ (lK (qV 6 iT29 zT29 I I I) (lU (SU.build I (xC35 _ _ _ _)) (lW (cL call16 I (exam E g5 _ _ _ exD 0 hu ⟨_,_,I,Sl.nil _ _,Sl.nil _ _⟩ dC dC exD_ok.1)) ?_))));rintro _ g6 _ ⟨rfl,hle,⟨d1,d2,d3⟩,⟨⟨dx,dy,dz⟩,db⟩,rfl,hDd,hSd⟩;clear hSd;have hu:=hu.mono hle;have hac:=hac.trans hle;clear hle;refine lM I (lU (xT I I) (lU (xT I I) (lU (xT I I) (bW (aL zeroValue29) fun b11=>?_))));refine bW (aL zeroValue46) fun b12=>?_;refine oZ (sK 1 zT29 I I I I I sB) ?_;refine oZ (sK 0 zT46 I I I I I sB) ?_;refine aT I (rZ (lK (qV 1 iT29 zT29 I I I) (lW (cL call20 I (find_spec E g6 _ _ _ 7 hDd (appC_fits _ _))) ?_)));rintro _ g7 _ ⟨rfl,hle,⟨zi,zd,zp,zn,zc⟩,rfl,hz⟩;rw[exD_ok.2] at hz;obtain ⟨-,-,hzs⟩:=hz;have hzn:zn=4:=Sl.slen hzs;subst hzn;have hbz:based (.slice zp 4 zc)=true:=SlA.based hzs dC;have hu:=hu.mono hle;have hac:=hac.trans hle;clear hle;refine lM I (lU (xT I I) (lU (xT I I) (bW (aL zeroValue53) fun b14=>?_)));refine oZ (sK 0 zT53 I I I I I sB) ?_;refine aT I (rZ (lK (qV 9 iT29 zT29 I I I) (lU (SU.build I (xD35 _ _ _)) (lW (cL call16 I (exam E g7 _ _ _ exE 0 hu ⟨_,_,I,Sl.nil _ _,Sl.nil _ _⟩ dC dC exE_ok.1)) ?_))));rintro _ g8 _ ⟨rfl,hle,⟨e1,e2,e3⟩,⟨⟨ex,ey,ez⟩,eb⟩,rfl,hDe,hSe⟩;have hu:=hu.mono hle;have hac:=hac.trans hle;have hzs:=SlA.mono hzs hle;clear hle;refine lM I (lU (xT I I) (lU (xT I I) (lU (xT I I) (bW (aL zeroValue29) fun b16=>?_))));refine bW (aL zeroValue46) fun b17=>?_;refine oZ (sK 1 zT29 I I I I I sB) ?_;refine oZ (sK 0 zT46 I I I I I sB) ?_;refine aT I (rZ (lK (qV 11 iT29 zT29 I I I) (lU (SU.build I (build60 _ _)) (lW (bS sty33 I I I (szs_mk ⟨I,trivial⟩) dC) ?_))));rintro _ _ _ ⟨b73,rfl,rfl,rfl⟩;refine SL.freeze fun g9 hle hb9=>?_;have hs9:SlA encPr g9 (.slice (some ⟨b73,0,none⟩) 1 1) exF.pairs:=SlA.lit hb9 rfl rfl;have hu:=hu.mono hle;have hac:=hac.trans hle;have hzs:=SlA.mono hzs hle;have hSe:=hSe.mono hle;clear hle;refine lU (SU.build I (xE35 _ _ _ _)) (lW (cL call16 I (exam E g9 _ _ _ exF 22 hu ⟨_,_,I,Sl.nil _ _,hs9⟩ dC dC exF_ok)) ?_);rintro _ g10 _ ⟨rfl,hle,⟨f1,f2,f3⟩,⟨⟨fx,fy,fz⟩,fb⟩,rfl,hDf,hSf⟩;clear hSf hDf;have hu:=hu.mono hle;have hac:=hac.trans hle;have hzs:=SlA.mono hzs hle;have hSe:=hSe.mono hle;clear hle;refine lM I (lU (xT I I) (lU (xT I I) (lU (xT I I) (bW (aL zeroValue29) fun b19=>?_))));refine bW (aL zeroValue46) fun b20=>?_;refine oZ (sK 1 zT29 I I I I I sB) ?_;refine oZ (sK 0 zT46 I I I I I sB) ?_;refine aT I (rZ (lU (fA underlying46 I sizeOf44 I) (lK (SQ.loadOne isAgg44 sizeOf44 I (cO (v:=.slice ex ey ez) 2 I I)) (lW (cL call27 I (sent_spec E g10 _ _ _ 5 hSe.2 (imO_small _ _).1)) ?_))));rintro v81 _ _ ⟨rfl,rfl,hl81⟩;rw[exE_ok.2] at hl81;obtain ⟨lp,lc,rfl⟩:=SlA.form hl81;have hbl:based (.slice lp 2 lc)=true:=SlA.based hl81 dC;refine aT I (sW I (lU (SU.eq (v':=vb true) (eQ I I) (congrArg vb (decide_eq_true I))) (lM I (lY I I I (fA uT29 I zT27 I) (SL.gq (gT I I I dC) (qL (v:=.slice a1 8 a3) iT27 I (cO 12 I I)) dC (lY I I I (eN uT27 I) (lY I I I (SU.eq (v':=vb true) (eQ I I) (congrArg vb (decide_eq_true I))) (lU (wT I I) (lM I (lY I I I (mV I) (lY I I I (SU.eq (v':=vb true) (eQ I I) (congrArg vb (decide_eq_true I))) (lU (wT I I) (lM I (lY I I I (mV I) (lY I I I (SU.eq (v':=vb true) (eQ I I) (congrArg vb (decide_eq_true I))) (lU (wT I I) (lM I (lY I I I (fA uT29 I zT27 I) (SL.gq (gT I I I dC) (qL (v:=.slice c1 6 c3) iT27 I (cO 8 I I)) dC (lY I I I (eN uT27 I) (lY I I I (SU.eq (v':=vb true) (eQ I I) (congrArg vb (decide_eq_true I))) (lU (wT I I) (lM I (lY I I I (fA underlying46 I zT4 I) (SL.gq (gT I I I dC) (qL (v:=vb true) isAgg4 I (cO 7 I I)) dC ?_)))))))))))))))))))))))));refine lU (wT I I) (aT I (sW I (lU (SU.eq (v':=vb true) (eQ I I) (congrArg vb (decide_eq_true I))) (lM I (lY I I I (fA uT53 I zT32 I) (SL.gq (gT I I I dC) (qL (v:=.slice zp 4 zc) iT32 I (cO 4 I I)) dC (lY I I I (eN uT32 I) (lY I I I (SU.eq (v':=vb true) (eQ I I) (congrArg vb (decide_eq_true I))) (lU (wT I I) (lM I (lY I I I (fA uT53 I zT32 I) (SL.gq (gT I I I dC) (qL (v:=.slice zp 4 zc) iT32 I (cO 4 I I)) dC (lY I I I (iA uT32 zT55 I I hbz dC (by show (3:Int)<4; decide)) ?_)))))))))))));refine SL.gq (gT I I I dC) (eA (a:=(⟨11,1⟩:Side)) iT55 zT55 I (SlA.rd hzs) I) dC (lY I I I (SU.build I (buildS55 _ _)) (lY I I I (SU.eq (SU.eqlSide ⟨11,1⟩ ⟨11,1⟩ I I) (congrArg vb (decide_eq_true I))) (lU (wT I I) (aT I (sQ ?_)))));refine dW [] [(0,2),(1,2),(2,2),(3,2),(4,2),(5,2),(6,2),(7,2),(8,2),(9,2),(10,2),(11,2),(12,2),(13,2),(14,2),(15,2),(16,1),(17,0),(18,2),(19,2),(20,2),(21,2),(22,2),(23,2),(24,2),(25,2)] Tryz.mixed kR ?_;refine pU I (mV I) (pU I (mV I) (SP.gu I (gT I I I dC) (mV I) dC (pU I (wT I I) (pU I (mV I) (SP.gu I (gT I I I dC) (mV I) dC (SP.gu I (gT I I I dC) (SU.eq (v':=vb true) (eQ I I) (congrArg vb (decide_eq_true I))) dC (pU I (wT I I) (pU I (mV I) (SP.gu I (gT I I I dC) (mV I) dC (SP.gu I (gT I I I dC) (eN underlying72 I) dC (SP.gu I (gT I I I dC) (SU.eq (v':=vb true) (eQ I I) (congrArg vb (decide_eq_true I))) dC (pU I (wT I I) (pU I (mV I) (SP.gu I (gT I I I dC) (mV I) dC (SP.gu I (gT I I I dC) (iA underlying72 sizeOf77 I I hbl dC (by show (0:Int)<2; decide)) dC ?_)))))))))))))));refine SP.gq I (gT I I I dC) (eA (a:=((4,1):Tm)) isAgg77 sizeOf77 I (SlA.rd hl81) I) dC (SP.go I (gT I I I dC) (cL call28 I (refFrom_spec E g10 _ 1 dC dC)) dC (.inr iR) ?_);rintro _ g11 _ ⟨rfl,rfl,hle11⟩;refine SP.gu I (gT I I I dC) (SU.build I (build77 _ _ _)) dC (SP.gu I (gT I I I dC) (SU.eqlTmT (4,1) I I) dC (pU I (wT I I) (pU I (mV I) (SP.gu I (gT I I I dC) (mV I) dC (SP.gu I (gT I I I dC) (SU.eq (v':=vb true) (eQ I I) (congrArg vb (decide_eq_true I))) dC (pU I (wT I I) (pU I (aS I) (pN (tN (rE (dR (s':=s) uR ?_)))))))))));exact ST.ret1 (.inl I) results10 I ⟨I,I,hac.trans hle11⟩
theorem editsBack_spec (E:World)(g:PH)(s:Own)(v:Value)(kd y:Int)(ls:List (List Int))(av:Value)(acts:List Ac)(hv:Lists g v ls)(ha:SlA encAc g av acts) :
  Ctr Tryz.prog E 6 #[.agg #[vi kd,v,vi y],av] g s (fun r g' s'=>r=vb true∧s=s'∧Le g g'):=by
 obtain ⟨p,n,c,rfl⟩:∃ p n c,v = .slice p n c:=by
  obtain ⟨rs0,hrs0,_⟩:=hv;obtain ⟨p,c,rfl⟩:=SlA.form hrs0;exact⟨_,_,_,I⟩
 obtain ⟨pa,ca,rfl⟩:=SlA.form ha;have hmf:=madeC_fits kd ls y;have hmade:=fun g s v hv=>made_spec E g s v kd y ls hv;generalize madeC kd ls y=M at *;refine Ctr.of (args:=[.agg #[vi kd,.slice p n c,vi y],.slice pa acts.length ca]) func6 I ntmps6 (bE I) ?_;refine rZ (bW (bO I) fun b2=>?_);refine aT I (rZ (lW (cL call10 I (sanity12_spec E g _)) ?_));rintro _ g1 _ ⟨rfl,rfl,hle1⟩;have hv1:=hv.mono hle1;refine aT I (rZ (lK (qV 0 isAgg24 sizeOf24 I I I) (lW (cL call11 I (hmade g1 _ _ hv1)) ?_)));rintro _ g2 _ ⟨rfl,hle2,xm,rfl,hxm⟩;obtain ⟨qm,dm,rfl⟩:=hxm.form;have hle12:=hle1.trans hle2;have ha2:=SlA.mono ha hle12;refine bW (aL zeroValue29) fun b6=>?_;refine oZ (sK 0 zT29 I I I I I sB) ?_;refine tZ (sQ (rZ (aT I (bK ?_))));refine oP (ι:=Nat×PH) (fun i=>[(1,.slice pa acts.length ca),(5,vb true),(6,pp b6 0),(7,vi i.1)]) (fun i=>i.2) (fun _=>pt b6 (.cells #[.slice qm M.length dm] 29 (0,0))::pt b2 (.cells #[vi kd,.slice p n c,vi y] 24 (0,0))::s) (fun i=>i.1≤acts.length∧i.1≤10∧Le g2 i.2) (fun i=>acts.length - i.1) (0,g2) sB I I ⟨Nat.zero_le _,Nat.zero_le _,Le.refl _⟩ ?_;rintro ⟨k,gk⟩ ⟨hk,hk10,hlek⟩;dsimp only at hk hk10 hlek ⊢;refine sQ ?_;refine SC.cutB 30 (decide (k<acts.length)&&decide (k<10)) ?_ ?_
 ·refine rG (lM I (lM I (lU (eN underlying25 I) (lU (lS I I) (lM I ?_)))));refine sP ?_ ?_
  ·intro h27;refine lY I I I (mV I) (lY I I I (lS I I) (lU (wT I I) (nL ?_)));exact ST.mid1 (by (simp_all[get?]; omega)) mI
  ·intro h27;refine lZ I I I (lZ I I I (lU (wF I I) (nL ?_)));exact ST.mid1 (by (simp_all[get?]; omega)) mI
 refine iQ I (fun hlt=>?_) (fun hlt=>?_)
 ·simp only[Bool.and_eq_true,decide_eq_true_iff] at hlt;obtain ⟨hka,hk9⟩:=hlt;have hak:=SlA.mono ha2 hlek;have hba:=SlA.based hak oM;have hgx:acts[((k:Nat):Int).toNat]?=some acts[k]:=gE hka;generalize acts[k]=x at *;obtain ⟨k0,k1,k2,k3⟩:=x;have hxk:=hxm.mono hlek;refine kP (tN (sQ (bK ?_)));refine SC.cut (ι:=Nat×PH×Ed×Option Addr×Nat×Option Addr×Nat) (fun i=>[(1,.slice pa acts.length ca),(5,vb true),(6,pp b6 0),(7,vi k),(8,pp i.1 0)]) (fun i=>i.2.1) (fun i=>pt i.1 (.cells #[vi i.2.2.1.kind,vi i.2.2.1.cell,vi i.2.2.1.dim,vi i.2.2.1.new,vi i.2.2.1.other,.slice i.2.2.2.1 i.2.2.1.sides.length i.2.2.2.2.1,.slice i.2.2.2.2.2.1 i.2.2.1.pairs.length i.2.2.2.2.2.2] 35 (0,0))::pt b6 (.cells #[.slice qm M.length dm] 29 (0,0))::pt b2 (.cells #[vi kd,.slice p n c,vi y] 24 (0,0))::s)
   (fun i=>Le gk i.2.1∧SlA encSide i.2.1 (.slice i.2.2.2.1 i.2.2.1.sides.length i.2.2.2.2.1) i.2.2.1.sides∧SlA encPr i.2.1 (.slice i.2.2.2.2.2.1 i.2.2.1.pairs.length i.2.2.2.2.2.2) i.2.2.1.pairs∧EdS i.2.2.1) ?_ ?_
  ·refine SC.drawX [7] Tryz.mixed kR ?_;refine SX.u (i:=0) I kR (mV I) dC (SX.u (i:=1) I kR (mV I) dC (SX.u (i:=2) I kR (iA underlying25 sizeOf37 I I hba oM sL) dC (SX.q (i:=3) I kR (eA isAgg37 sizeOf37 I (SlA.rd hak) hgx) dC (SX.q (i:=4) I kR (qV (by exact 0) iT29 zT29 I I I) dC ?_))))
   repeat' (first
    | (refine SB.o (i:=5) rfl (cL call13 rfl (actEdit_spec E gk _ _ M k0 k1 k2 k3 hxk hmf)) dC (.inr iR) ?_; rintro ev g3 _ ⟨rfl,hle3,e,he,hse⟩; obtain ⟨sv,pv,rfl,hsv,hpv⟩:=he; obtain ⟨sp,sc,rfl⟩:=SlA.form hsv; obtain ⟨pq,pc,rfl⟩:=SlA.form hpv)
    | (refine SB.o (i:=5) rfl (cL call13 rfl (actEdit_spec E gk _ _ M k0 k1 k2 k3 hxk hmf)) dC (.inr iR) ?_; rintro ev g3 _ ⟨rfl,hle3,e,he,hse⟩; obtain ⟨sv,pv,rfl,hsv,hpv⟩:=he; obtain ⟨sp,sc,rfl⟩:=SlA.form hsv; obtain ⟨pq,pc,rfl⟩:=SlA.form hpv)
    | (refine SB.o (i:=6) rfl (aL zeroValue35) dC (.inr iR) ?_; rintro _ _ _ ⟨b8,rfl,rfl,rfl⟩)
    | (refine SB.o (i:=6) rfl (aL zeroValue35) dC (.inr iR) ?_; rintro _ _ _ ⟨b8,rfl,rfl,rfl⟩)
    | (refine SB.on (i:=7) rfl (sK 0 zT35 rfl rfl rfl rfl rfl (by (repeat' (first | exact trivial | refine⟨by rfl,?_⟩)))) (.inl dC) ?_; rintro _ _ _ ⟨rfl,rfl⟩)
    | refine SX.br2 5 6 kD ?_ ?_
    | refine SX.br1 6 kD ?_
    | refine SX.br1 7 kD ?_
    | refine SX.br1 5 kD ?_
    | (refine SX.nil kD ?_; exact ST.mid (b8,g3,e,sp,sc,pq,pc) sB rfl rfl ⟨hle3,hsv,hpv,hse⟩))
  rintro ⟨b8,g3,e,sp,sc,pq,pc⟩ ⟨hle3,hsv,hpv,hse⟩;dsimp only at hle3 hsv hpv hse ⊢;have hx3:=hxk.mono hle3;have hDf:=appC_fits M e;refine rZ (lK (qV 1 iT29 zT29 I I I) (lK (qV 0 iT35 zT35 I I I) (lW (cL call16 I (prog_apply E g3 _ _ _ M e hx3 hmf ⟨_,_,I,hsv,hpv⟩ hse.1 (by have:=hse.2; omega))) ?_)));rintro _ g4 _ ⟨rfl,hle4,hR⟩;obtain ⟨⟨d1,d2,d3⟩,⟨⟨y1,y2,y3⟩,y4⟩,rfl,hD,hS⟩:=hR.one;have hdn:=cells_n hD;subst hdn;have hx4:=hx3.mono hle4;have hle34:=hle3.trans hle4;have hsv4:=SlA.mono hsv hle4;have hpv4:=SlA.mono hpv hle4;clear hS hR;refine lM I (lU (xT I I) (lU (xT I I) (lU (xT I I) (bW (aL zeroValue29) fun b9=>?_))));refine bW (aL zeroValue46) fun b10=>?_;refine oZ (sK 1 zT29 I I I I I sB) ?_;refine oZ (sK 0 zT46 I I I I I sB) ?_;refine aT I (sQ (sW I (lU (nQ I I) (tZ ?_))));refine iP I (fun hz=>?_) (fun hz=>?_)
  ·refine xI (tX (bX (tN (rG (lM I (lU (aD I I oM) (lA I (nL (dR (.cons _ (.cons _ (.cons _ (.refl _)))) ?_)))))))));exact gA (k+1,g4) sB I I ⟨by dsimp only; omega,by dsimp only; omega,hlek.trans (hle34)⟩ (by dsimp only; omega)
  ·have hz:=Decidable.not_not.1 hz;have hck:=(appC_rt hz).2.1;have hcm:decide (canonC (canonC M)=canonC M)=true:=decide_eq_true (canonC_idem M);have hcf:=canonC_fits hmf;refine kP (tN (rZ (lU (fA uT35 I zT3 I) (lK (qL (v:=vi e.kind) iT3 I (cO 2 I I)) (tZ (bK (rZ (lU (eQ I I) (aT I ?_)))))))));refine iP I (fun h1=>?_) (fun h1=>?_)
   ·have hap:=attach_back hz h1 0 0 0 [] [];refine rZ (lK (qV 1 iT29 zT29 I I I) (lU (fA uT35 I zT3 I) (lK (qL (v:=vi e.cell) iT3 I (cO 2 I I)) (lU (SU.build I (bA35 _ _)) (lW (cL call16 I (prog_apply E g4 _ _ _ _ ⟨2,e.cell,0,0,0,[],[]⟩ hD hDf ⟨_,_,I,Sl.nil _ _,Sl.nil _ _⟩ (by simp) (by simp))) ?_)))));rintro _ g5 _ ⟨rfl,hle5,hR2⟩;obtain ⟨⟨f1,f2,f3⟩,⟨⟨w1,w2,w3⟩,w4⟩,rfl,hF,-⟩:=hR2.one;rw[hap] at hF ⊢;have hx5:=hx4.mono hle5;refine lM I (lU (xT I I) (lU (xT I I) (lU (xT I I) (bW (aL zeroValue29) fun b12=>?_))));refine bW (aL zeroValue46) fun b13=>?_;refine oZ (sK 1 zT29 I I I I I sB) ?_;refine oZ (sK 0 zT46 I I I I I sB) ?_;refine aT I (sW I (lU (SU.eq (v':=vb false) (nQ I I) (congrArg vb (decide_eq_false (by simp)))) ?_));refine lM I (SL.gq (gT I I I dC) (qV 1 iT29 zT29 I I I) dC (SL.gq (gT I I I dC) (qV 5 iT29 zT29 I I I) dC (SL.go (gT I I I dC) (cL call21 I (equal_spec E g5 _ _ _ _ M hF hx5 hcf hmf)) dC ?_)));rintro _ _ _ ⟨rfl,rfl,rfl⟩;rw[hcm];refine lY I I I (SU.not I) (lU (wF I I) (tZ (SC.condF I (kP (bN (bN (tN (rG (lM I (lU (aD I I oM) (lA I (nL (dR (.cons _ (.cons _ (.cons _ (.cons _ (.cons _ (.refl _)))))) ?_)))))))))))));exact gA (k+1,g5) sB I I ⟨by dsimp only; omega,by dsimp only; omega,hlek.trans (hle34.trans hle5)⟩ (by dsimp only; omega)
   ·refine rZ (lU (eQ I I) (aT I ?_));refine iP I (fun h2=>?_) (fun h2=>?_)
    ·have hap:=remove_back hz h2 0 0 [];refine rZ (lK (qV 3 iT29 zT29 I I I) (lU (fA uT35 I zT3 I) (lK (qL (v:=vi e.cell) iT3 I (cO 2 I I)) (lW (cL call20 I (find_spec E g4 _ _ M e.cell hx4 hmf)) ?_))));rintro _ g5 _ ⟨rfl,hle5,⟨z1,z2,z3,z4,z5⟩,rfl,hz5⟩;have hxl:=findC_few hmf e.cell;generalize (findC M e.cell).getD zeroC=X at *;obtain ⟨hz1,hz2,hzs⟩:=hz5;dsimp only at hz1 hz2 hzs;have hzn:z4=X.sides.length:=Sl.slen hzs;subst hz1 hz2 hzn;have hD5:=hD.mono hle5;have hx5:=hx4.mono hle5;refine lM I (lU (xT I I) (lU (xT I I) (bW (aL zeroValue53) fun b15=>?_)));refine oZ (sK 0 zT53 I I I I I sB) ?_;refine aT I (rZ (lK (qV 2 iT29 zT29 I I I) (lU (fA uT53 I zT3 I) (lK (qL (v:=vi X.id) iT3 I (cO 0 I I)) (lU (fA uT53 I zT3 I) (lK (qL (v:=vi X.dim) iT3 I (cO 0 I I)) (lU (fA uT53 I zT32 I) (lK (qL (v:=.slice z3 X.sides.length z5) iT32 I (cO 0 I I)) (lU (SU.build I (bB35 _ _ _ _ _ _)) (lW (cL call16 I (prog_apply E g5 _ _ _ _ ⟨1,X.id,X.dim,0,0,X.sides,[]⟩ hD5 hDf ⟨_,_,I,hzs,Sl.nil _ _⟩ hxl (by simp))) ?_))))))))));rintro _ g6 _ ⟨rfl,hle6,hR2⟩;obtain ⟨⟨f1,f2,f3⟩,⟨⟨w1,w2,w3⟩,w4⟩,rfl,hF,-⟩:=hR2.one;rw[hap] at hF ⊢;have hx6:=hx5.mono hle6;refine lM I (lU (xT I I) (lU (xT I I) (lU (xT I I) (bW (aL zeroValue29) fun b17=>?_))));refine bW (aL zeroValue46) fun b18=>?_;refine oZ (sK 1 zT29 I I I I I sB) ?_;refine oZ (sK 0 zT46 I I I I I sB) ?_;refine aT I (sW I (lU (SU.eq (v':=vb false) (nQ I I) (congrArg vb (decide_eq_false (by simp)))) ?_));refine lM I (SL.gq (gT I I I dC) (qV 1 iT29 zT29 I I I) dC (SL.gq (gT I I I dC) (qV 6 iT29 zT29 I I I) dC (SL.go (gT I I I dC) (cL call21 I (equal_spec E g6 _ _ _ _ M hF hx6 hcf hmf)) dC ?_)));rintro _ _ _ ⟨rfl,rfl,rfl⟩;rw[hcm];refine lY I I I (SU.not I) (lU (wF I I) (tZ (SC.condF I (kP (bN (bN (tN (rG (lM I (lU (aD I I oM) (lA I (nL (dR (.cons _ (.cons _ (.cons _ (.cons _ (.cons _ (.cons _ (.refl _))))))) ?_)))))))))))));exact gA (k+1,g6) sB I I ⟨by dsimp only; omega,by dsimp only; omega,hlek.trans (hle34.trans (hle5.trans hle6))⟩ (by dsimp only; omega)
    ·refine kP (bN (bN (tN (rG (lM I (lU (aD I I oM) (lA I (nL (dR (.cons _ (.cons _ (.cons _ (.refl _)))) ?_)))))))));exact gA (k+1,g4) sB I I ⟨by dsimp only; omega,by dsimp only; omega,hlek.trans hle34⟩ (by dsimp only; omega)
 ·refine xI (tX (tX (bX (tN (sW I (aT I (rE (dR (s':=s) uR ?_))))))));exact ST.ret1 (.inl I) results6 I ⟨I,I,hle12.trans hlek⟩
end Go.Proofs.YtackilpikhkijaaGreatDoor
namespace Go.Proofs.YtackilpikhkijaaGreatDoor.editsBackDone
open _root_.Go.Proofs.Tryz _root_.Go.Proofs.YtackilpikhkijaaGreatDoor.Tryz
open Go Go.Sy Go.Pl Go.Proofs Go.Proofs.YtackilpikhkijaaGreatDoor
open Go.ChangeShapes Go.WideShapes Go.ChangeAt Go.RowKit
set_option linter.unusedVariables false
theorem own:ownKnob Tryz.prog.godebug=none:=by kernel_rfl
theorem laidOut:laidOutB Tryz.prog=true:=by kernel_rfl
set_option maxRecDepth 100000 in
theorem lifted (os:Os)(started:os.Started)(H:Type)(enc:TypeId×Value→H) :
  ReturnsInHanded {} Tryz.checked os 6 .any (fun w args=>(Rows.editsBackSpec.pre enc Tryz.prog f6 Rows.editsBackRow.domain false w args∧laidMetH Tryz.prog Rows.editsBackRow.laid w)∧sizedMet enc Tryz.prog f6 (OpenSpec.ofChange Rows.editsBackSpec) false w args)
   (Rows.editsBackSpec.post enc Tryz.prog f6 false true false false):=by
 refine returnsInHanded_of_change_and (C:=Tryz.checked) (X:=fun w _=>laidMetH Tryz.prog Rows.editsBackRow.laid w) (fun _ _ _ hh h=>h.of_heap hh) own started kR func6
  (ChangeSpec.witness_shaped (enc:=enc) (C:=Tryz.checked) (os:=os) (X:=fun w _=>laidMetH Tryz.prog Rows.editsBackRow.laid w) false (World.laidAll Tryz.prog os Rows.editsBackRow.laid) #[.agg #[.int .i64 0,.slice none 0 0,.int .i64 0],.slice none 0 0] 8 (World.laidAll_os _ _ _)
   (World.shaped_of_ZipB kR kR) kR kR kR
   (by rw[MakeChecks.laidMetH_plain _ _ _ kR]; exact laidMet_laidAll _ kR kR)) ?_
 intro W base args ds gs before hval0 hW hcnd hsz0 hL _;have hval:∀ (j:Nat) t v,f6.params[j]?=some t→args[j]?=some v→Value.okWide Tryz.prog W .any base t v:=hval0;have hW':=hW;obtain ⟨p,q,hA0,hV,rfl,hfz,hnd⟩:=hW;have hA:DataW.TrodAll enc Tryz.prog W 0 (fun _=>true) true f6.params.toList args.toList ds p:=hA0;rw[params6] at hA hval;obtain ⟨v0,vs0,d0,ds0,p0,q0,hargs,rfl,rfl,h0,r0⟩:=trodAll_cons hA;obtain ⟨v1,vs1,d1,ds1,p1,q1,rfl,rfl,rfl,h1,r1⟩:=trodAll_cons r0;obtain ⟨rfl,rfl,rfl⟩:=trodAll_nil r1;obtain rfl:args = #[v0,v1]:=by cases args; simp_all
 obtain ⟨rfl,rfl⟩:=trodVars_none hV;have lt0:∀ x∈p0,x.block<W.heap.size:=by obtain ⟨m,hm⟩:=h0; exact DataW.trod_lt m _ _ _ hm
 have lt1:∀ x∈p1,x.block<W.heap.size:=by obtain ⟨m,hm⟩:=h1; exact DataW.trod_lt m _ _ _ hm
 obtain ⟨kd,y,u,ls,e0,hls⟩:=shape_of (hval 0 24 v0 rfl rfl) h0;obtain ⟨a1,n1,c1,s1⟩:=okWide_slice underlying25 (hval 1 25 v1 rfl rfl);obtain ⟨as1,ha1⟩:=acts_arg h1 (by rw[s1]; rfl);clear hA0 hval0;have walk:Calls Tryz.prog 6 #[v0,v1] W fun e w'=>e = .returned (.bool true)∧Below W.heap.size W w':=by
  rw[e0];refine (editsBack_spec (E0 W) (held W) [] u kd y ls _ as1 hls ha1 W (at_start W)).mono ?_;rintro e w' ⟨v,g',s',rfl,hat,rfl,rfl,hle⟩;exact⟨I,at_below hat hle⟩
 refine walk.mono fun e W' ⟨he,bel⟩=>?_;subst he;exact⟨_,I,_,_,_,[],_,[],hW',trodAll_mk1 (shut_bool uT4 _),(trodAll_cons_mk (Below.trod laidOut kR (of_decide_eq_true kR) h0 bel lt0) (trodAll_cons_mk (Below.trod laidOut kR (of_decide_eq_true kR) h1 bel lt1) trodAll_mk0)),I,bel.frame _,fun h=>by cases h⟩
theorem over:Rows.editsBackRow.holds Tryz.pinned (OpenSpec.ofChange Rows.editsBackSpec) :=
 OpenClaim.holds_of_wide 6 f6 rfl rfl rfl rfl rfl rfl rfl ⟨rfl,rfl,rfl,rfl,rfl⟩ rfl rfl rfl rfl rfl kR func6 kR
  (of_decide_eq_true kR) (by unfold Func.isWrapper; first | (rw[if_pos (by decide +kernel)]; kernel_rfl) | (rw[if_neg (by decide +kernel)]; exact⟨rfl,rfl⟩))
  (fun os started H enc _=>lifted os started H enc)
theorem proved:Rows.EditsBackCardSaid :=
 Claim7.holds_tied_plain_at .later [] [.data,.pinned] true (true, "85c63643d982c1dc8445885ae8d9f831c52b04b8be462a812c531b9780928fe8") false
  over (fun _ h=>by cases h) kR (fun _ h=>by cases h) editsBack_row_tie rfl ⟨rfl,rfl⟩ kR rfl
  (fun f fn hf hfn=>by
   obtain rfl : f = 6:=Option.some.inj ((show Tryz.prog.funcNamed "cocycle/cocyclelaw12.EditsBack" = some 6 by kernel_rfl).symm.trans hf) |>.symm
   obtain rfl:fn=f6:=(Option.some.inj (func6.symm.trans hfn)).symm;exact⟨by kernel_rfl,fun j t ht=>by
    rw[params6] at ht;have hm:t∈[24,25]:=by simpa using Array.mem_of_getElem? ht
    have hall:([24,25].all fun u=>!Tryz.prog.wantsStandIn u)=true:=by kernel_rfl
    exact (show Tryz.prog.wantsStandIn t=false by simpa using List.all_eq_true.1 hall t hm)⟩)
  kR
#print axioms proved
end Go.Proofs.YtackilpikhkijaaGreatDoor.editsBackDone
