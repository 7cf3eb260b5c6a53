/- Wid1 Wid2 Wid3 Wid4 Agr1 Frm3 ShP Mch1 Mch2 Bes Spc Shp M13 -/
import Derived.Test.YteahknngoogpaaaGreatDoorRs09
import Derived.Test.YteahknngoogpaaaGreatDoorRs02
import Derived.Shelf.Strings.Trim
import Derived.Test.YteahknngoogpaaaGreatDoorRs04
import Derived.Test.YteahknngoogpaaaGreatDoorRs08
import Derived.Test.YteahknngoogpaaaGreatDoorRs05
import Derived.Test.YteahknngoogpaaaGreatDoorRs03
set_option linter.unusedSimpArgs false
set_option linter.unusedVariables false
namespace Go.Proofs.YteahknngoogpaaaGreatDoor
open _root_.Go.Proofs.Tryz _root_.Go.Proofs.YteahknngoogpaaaGreatDoor.Tryz
open Go Go.Sy Go.Pl Go.Proofs Go.Shelf
set_option maxRecDepth 100000
set_option maxHeartbeats 1000000
theorem getVi {f:Fr}{t:Nat}{a b:Int}(h:get? f t=some (vi a))(e:a=b):get? f t=some (vi b):=e ▸ h
theorem Tryz.sty191:STy Tryz.prog 191 189 1 8 (.int .u64 0):=⟨underlying191,⟨t189,by kernel_rfl,by kernel_rfl,by kernel_rfl,by kernel_rfl⟩,rfl,by decide⟩
theorem Tryz.sty23:STy Tryz.prog 23 5 1 1 (.int .u8 0):=⟨underlying23,⟨t5,by kernel_rfl,by kernel_rfl,by kernel_rfl,by kernel_rfl⟩,rfl,by decide⟩
def trimZ (l:List Int):List Int:=(l.reverse.dropWhile (· == 0)).reverse
theorem trimZ_drop {m:List Int}(h:0<m.length)(h0:m.getD (m.length - 1) 1=0):trimZ (m.take (m.length - 1))=trimZ m:=by
 rcases List.eq_nil_or_concat m with rfl | ⟨a,x,rfl⟩
 ·simp at h
 ·have hx:x=0:=by simpa [List.getD_eq_getElem?_getD] using h0
  subst hx;simp[trimZ]
theorem trimZ_stop {m:List Int}(h:(decide ((m.length:Int)>0)&&decide (m.getD (m.length - 1) 1=0))=false):trimZ m=m:=by
 rcases List.eq_nil_or_concat m with rfl | ⟨a,x,rfl⟩
 ·rfl
 ·have hx:x≠0:=by simpa [List.getD_eq_getElem?_getD] using h
  simp[trimZ,hx]
theorem norm_spec (E:World)(g:PH)(s:Own)(v:Value)(l:List Int)(hv:SlA encU g v l)(hl:l.length<1099511627776) :
  Ctr Tryz.prog E 171 #[v] g s (fun r g' s'=>g=g'∧s=s'∧SlA encU g r (trimZ l)):=by
 refine Ctr.of (args:=[v]) func171 I ntmps171 (bE I) ?_;refine SC.sR (lA I (SL.nT (sQ (bK ?_))));refine oP (ι:=Value×List Int) (fun i=>[(0,i.1)]) (fun _=>g) (fun _=>s) (fun i=>SlA encU g i.1 i.2∧trimZ i.2=trimZ l∧i.2.length≤l.length) (fun i=>i.2.length) (v,l) ⟨I,trivial⟩ I I ⟨hv,I,lR _⟩ ?_;rintro ⟨v1,m⟩ ⟨hm,htr,hle⟩;dsimp only at hm htr hle ⊢;obtain ⟨p,c,rfl⟩:=SlA.form hm;have hcap:=(SlA.cap hm).2;have f1:(m.length:Int)>0→(decide ((m.length:Int)>0)&&decide (m.getD (m.length - 1) 1=0))=decide (m.getD (m.length - 1) 1=0):=fun h=>by rw[decide_eq_true h,Bool.true_and]
 have f2:¬ (m.length:Int)>0→(decide ((m.length:Int)>0)&&decide (m.getD (m.length - 1) 1=0))=false:=fun h=>by simp only[h,decide_false,Bool.false_and]
 have hgl:(m.length:Int)>0→m[((m.length:Int) - 1).toNat]?=some (m.getD (m.length - 1) 1):=fun h=>by
  have h1:((m.length:Int) - 1).toNat=m.length - 1:=oM;have h2:m.length - 1<m.length:=oM;rw[h1,List.getD_eq_getElem?_getD,gE h2]; rfl
 have hbs:(m.length:Int)>0→based (.slice p m.length c)=true:=fun h=>SlA.based hm oM;refine sQ ?_;refine SC.cutB 14 ((decide ((m.length:Int)>0)&&decide (m.getD (m.length - 1) 1=0))) ?_ ?_
 ·refine rG (lM I (lU (eN uT191 I) (lU (gR I I) (lM I ?_))));refine sP ?_ ?_
  ·intro h6;refine lY I I I (mV I) (lY I I I (mV I) (lY I I I (eN uT191 I) (lY I I I (sU I I oM) (lY I I I (iA uT191 sizeOf189 I I (hbs h6) oM sL) (SL.gq (gT I I I dC) (eB isAgg189 I (SlA.rd hm) (hgl h6) I) dC (lY I I I (eQ I I) (lU (pT I I) (nL ?_))))))));exact ST.mid1 (by (rw[f1 h6]; rfl)) mI
  ·intro h6;refine lZ I I I (lZ I I I (lZ I I I (lZ I I I (lZ I I I (lZ I I I (lZ I I I (lU (pF I I) (nL ?_))))))));exact ST.mid1 (by (rw[f2 h6]; rfl)) mI
 refine iQ I (fun hc=>?_) (fun hc=>?_)
 ·rw[Bool.and_eq_true,decide_eq_true_iff,decide_eq_true_iff] at hc;obtain ⟨hpos,hlast⟩:=hc;have h1:((m.length:Int) - 1).toNat=m.length - 1:=oM;refine kP (tN (bK (rG (lM I (lM I (lU (eN uT191 I) (lU (sU I I oM) (lU (SU.sliceH uT191 sizeOf189 I I oM oM) (lA I (nL (bN ?_)))))))))));refine ST.again (sliced p 0 ((m.length:Int) - 1).toNat c 1,m.take (m.length - 1)) ⟨I,trivial⟩ I I ⟨?_,?_,?_⟩ (by dsimp only; rw[List.length_take]; omega)
  ·have:=SlA.cut hm (l:=0) (m:=m.length - 1) (Nat.zero_le _) oM;dsimp only;rw[h1];simpa using this
  ·dsimp only; rw[trimZ_drop oM hlast]; exact htr
  ·dsimp only; rw[List.length_take]; omega
 ·refine xI (tX (tX (bX (tN (SC.sR (lM I (lA I (SL.nT (rE ?_)))))))));exact ST.ret1 (.inl I) results171 I ⟨I,I,by rw[← htr,trimZ_stop hc]; exact hm⟩
theorem refTrim_spec (E:World)(g:PH)(s:Own)(v:Value)(l:List Int)(hv:SlA encInt g v l)(hl:l.length<1099511627776) :
  Ctr Tryz.prog E 179 #[v] g s (fun r g' s'=>g=g'∧s=s'∧SlA encInt g r (trimZ l)):=by
 refine Ctr.of (args:=[v]) func179 I ntmps179 (bE I) ?_;refine SC.sR (lA I (SL.nT (sQ (bK ?_))));refine oP (ι:=Value×List Int) (fun i=>[(0,i.1)]) (fun _=>g) (fun _=>s) (fun i=>SlA encInt g i.1 i.2∧trimZ i.2=trimZ l∧i.2.length≤l.length) (fun i=>i.2.length) (v,l) ⟨I,trivial⟩ I I ⟨hv,I,lR _⟩ ?_;rintro ⟨v1,m⟩ ⟨hm,htr,hle⟩;dsimp only at hm htr hle ⊢;obtain ⟨p,c,rfl⟩:=SlA.form hm;have hcap:=(SlA.cap hm).2;have f1:(m.length:Int)>0→(decide ((m.length:Int)>0)&&decide (m.getD (m.length - 1) 1=0))=decide (m.getD (m.length - 1) 1=0):=fun h=>by rw[decide_eq_true h,Bool.true_and]
 have f2:¬ (m.length:Int)>0→(decide ((m.length:Int)>0)&&decide (m.getD (m.length - 1) 1=0))=false:=fun h=>by simp only[h,decide_false,Bool.false_and]
 have hgl:(m.length:Int)>0→m[((m.length:Int) - 1).toNat]?=some (m.getD (m.length - 1) 1):=fun h=>by
  have h1:((m.length:Int) - 1).toNat=m.length - 1:=oM;have h2:m.length - 1<m.length:=oM;rw[h1,List.getD_eq_getElem?_getD,gE h2]; rfl
 have hbs:(m.length:Int)>0→based (.slice p m.length c)=true:=fun h=>SlA.based hm oM;refine sQ ?_;refine SC.cutB 14 ((decide ((m.length:Int)>0)&&decide (m.getD (m.length - 1) 1=0))) ?_ ?_
 ·refine rG (lM I (lU (eN uT22 I) (lU (gR I I) (lM I ?_))));refine sP ?_ ?_
  ·intro h6;refine lY I I I (mV I) (lY I I I (mV I) (lY I I I (eN uT22 I) (lY I I I (sU I I oM) (lY I I I (iA uT22 zT3 I I (hbs h6) oM sL) (SL.gq (gT I I I dC) (eB iT3 I (SlA.rd hm) (hgl h6) I) dC (lY I I I (eQ I I) (lU (pT I I) (nL ?_))))))));exact ST.mid1 (by (rw[f1 h6]; rfl)) mI
  ·intro h6;refine lZ I I I (lZ I I I (lZ I I I (lZ I I I (lZ I I I (lZ I I I (lZ I I I (lU (pF I I) (nL ?_))))))));exact ST.mid1 (by (rw[f2 h6]; rfl)) mI
 refine iQ I (fun hc=>?_) (fun hc=>?_)
 ·rw[Bool.and_eq_true,decide_eq_true_iff,decide_eq_true_iff] at hc;obtain ⟨hpos,hlast⟩:=hc;have h1:((m.length:Int) - 1).toNat=m.length - 1:=oM;refine kP (tN (bK (rG (lM I (lM I (lU (eN uT22 I) (lU (sU I I oM) (lU (SU.sliceH uT22 zT3 I I oM oM) (lA I (nL (bN ?_)))))))))));refine ST.again (sliced p 0 ((m.length:Int) - 1).toNat c 1,m.take (m.length - 1)) ⟨I,trivial⟩ I I ⟨?_,?_,?_⟩ (by dsimp only; rw[List.length_take]; omega)
  ·have:=SlA.cut hm (l:=0) (m:=m.length - 1) (Nat.zero_le _) oM;dsimp only;rw[h1];simpa using this
  ·dsimp only; rw[trimZ_drop oM hlast]; exact htr
  ·dsimp only; rw[List.length_take]; omega
 ·refine xI (tX (tX (bX (tN (SC.sR (lM I (lA I (SL.nT (rE ?_)))))))));exact ST.ret1 (.inl I) results179 I ⟨I,I,by rw[← htr,trimZ_stop hc]; exact hm⟩
theorem backward_spec (E:World)(g:PH)(s:Own)(v:Value)(hv:v.cells = #[v]) :
  Ctr Tryz.prog E 172 #[v] g s (fun r g' s'=>s=s'∧Le g g'∧∃ b,r = .func (.func 189) #[] #[pp b 0]∧g' b=some (.cells #[v] 191 (0,0))):=by
 refine Ctr.of (args:=[v]) func172 I ntmps172 (bE I) ?_;refine SC.sR (SL.bx (bO I) fun b1=>?_);refine lA I (SL.nT (SC.sR (lU (SU.mkFunc I) (lA I (SL.nT (rE ?_))))));rw[hv];refine ST.freeze fun g1 hle hb=>?_;exact ST.ret1 (.inl I) results172 I ⟨I,hle,_,I,hb⟩
def revP (l:List Int):List (Nat×Int):=(l.zipIdx.map fun p=>(p.2,p.1)).reverse
theorem revP_length (l:List Int):(revP l).length=l.length:=by simp[revP]
theorem revP_get {l:List Int}{k:Nat}(h:k<l.length):(revP l)[l.length - 1 - k]?=some (k,l[k]):=by
 unfold revP;rw[List.getElem?_reverse (by simp; omega)];simp only[List.length_map,List.length_zipIdx];rw[show l.length - 1 - (l.length - 1 - k)=k by omega];simp[h]
theorem revP_snd (l:List Int):(revP l).map Prod.snd=l.reverse:=by
 unfold revP;rw[List.map_reverse,List.map_map];congr 1;have:((Prod.snd ∘ fun p:Int×Nat=>(p.2,p.1)):Int×Nat→Int)=Prod.fst:=rfl;rw[this];simp
theorem backward_gives (E:World)(g0:PH)(b:Nat)(v:Value)(l:List Int)(hb:g0 b=some (.cells #[v] 191 (0,0)))(hv:SlA encU g0 v l)(hl:l.length<1099511627776) :
  Gives Tryz.prog E 189 [pp b 0] (fun x:Nat×Int=>[vi x.1,.int .u64 x.2]) (revP l) g0:=by
 intro k ι G S J i0 h0 hmono hY sx;obtain ⟨p,c,rfl⟩:=SlA.form hv;refine Ctr.ofX (args:=[.func (.yield k) #[] #[],pp b 0]) func189 I ntmps189 (bE I) ?_;refine XC.seq ?_;refine XC.region ?_;refine XL.q (qL (v:=.slice p l.length c) isAgg191 I (cK (hmono _ _ h0 _ _ hb) I)) dC ?_;refine XL.u (eN uT191 I) dC ?_;refine XL.u (sU I I oM) dC ?_;refine XL.u (aS I) dC ?_;refine XL.nil ?_;refine XT.thenN ?_;refine XC.block ?_;refine XC.loop (ι:=ι×Nat) (fun i=>[(0,.func (.yield k) #[] #[]),(1,pp b 0),(3,vi ((i.2:Int) - 1))]) (fun i=>G i.1) (fun i=>S i.1++sx) (fun i=>i.2≤l.length∧J ((revP l).take (l.length - i.2)) i.1) (fun i=>i.2) (i0,l.length)
  sB rfl rfl ⟨lR _,by simpa using h0⟩ ?_
 rintro ⟨j,n⟩ ⟨hn,hJ⟩;dsimp only at hn hJ ⊢;have hle:=hmono _ _ hJ;refine XC.seq ?_;refine XC.seq ?_;refine XC.region ?_;refine XL.u (mV I) dC ?_;refine XL.u (gQ I I) dC ?_;refine XL.nil ?_;refine XT.thenN ?_;refine XC.ifP I (fun hge=>?_) (fun hge=>?_)
 ·have hn1:n - 1<l.length:=oM;have hv':=SlA.mono hv hle;have hb1:=SlA.based hv' oM;have hgx:l[((n:Int) - 1).toNat]?=some l[n - 1]:=by rw[show ((n:Int) - 1).toNat=n - 1 by omega]; exact gE hn1
  have hrg:=revP_get hn1;rw[show l.length - 1 - (n - 1)=l.length - n by omega] at hrg;have hsp:revP l=(revP l).take (l.length - n)++(n - 1,l[n - 1])::(revP l).drop (l.length - n+1):=by
   obtain ⟨h1,h2⟩:=List.getElem?_eq_some_iff.1 hrg;rw[← h2,List.getElem_cons_drop,List.take_append_drop]
  have hy:=hY _ _ _ j sx hsp hJ;have htk:(revP l).take (l.length - (n - 1))=(revP l).take (l.length - n)++[(n - 1,l[n - 1])]:=by
   obtain ⟨h1,h2⟩:=List.getElem?_eq_some_iff.1 hrg;rw[show l.length - (n - 1)=l.length - n+1 by omega,tS h1,h2]
  generalize l[n - 1]=x at *;have hvn:vi ((n - 1:Nat):Int)=vi ((n:Int) - 1):=congrArg vi oM;dsimp only at hy;rw[hvn] at hy;refine XC.skip ?_;refine XT.thenN ?_;refine XC.seq ?_;refine XC.block ?_;refine XC.seq ?_;refine XC.region ?_;refine XL.u (mV I) dC ?_;refine XL.u (mV I) dC ?_;refine XL.q (qL (v:=.slice p l.length c) isAgg191 I (cK (hle _ _ hb) I)) dC ?_;refine XL.u (mV I) dC ?_;refine XL.u (iA uT191 sizeOf189 I I hb1 oM sL) dC ?_;refine XL.q (eB isAgg189 I (SlA.rd hv') hgx I) dC ?_;refine XL.x (XO.yield I I hy) dC ?_;rintro _ _ _ ⟨rfl,j',hJ',rfl,rfl⟩;refine XL.u (SU.not I) dC ?_;refine XL.nil ?_;refine XT.thenN ?_;refine XC.condF I ?_;refine XC.skip ?_;refine XT.blockN ?_;refine XT.thenN ?_;refine XC.region ?_;refine XL.u (mV I) dC ?_;refine XL.u (sU I I oM) dC ?_;refine XL.u (aS I) dC ?_;refine XL.nil ?_;exact XT.again (j',n - 1) ⟨I,I,getVi I oM,trivial⟩ I I ⟨by dsimp only; omega,by dsimp only; rw[htk]; exact hJ'⟩ (by dsimp only; omega)
 ·have hn0:n=0:=oM;subst hn0;refine XC.exit ?_;refine XT.thenX ?_;refine XT.thenX ?_;refine XT.blockX ?_;exact XT.leave0 (.inr I) (ST.ret0 (.inr I) results189 ⟨j,by have:=hJ; rwa [tL (by rw[revP_length]; omega)] at this,I,I⟩)
def lays161_ren:Ren :=
 {
  f:=fun x =>
   match x with
   | 161=>173
   | 231=>190
   | 227=>191
   | 233=>192
   | 235=>193
   | 228=>200
   | 197=>201
   | 151=>202
   | 260=>204
   | 152=>205
   | 137=>206
   | 119=>207
   | 224=>208
   | 225=>209
   | 217=>210
   | 266=>211
   | n=>n,
  t:=fun x =>
   match x with
   | 9=>9
   | 4=>4
   | 3=>3
   | 5=>5
   | 117=>228
   | 116=>227
   | 0=>0
   | 124=>231
   | 105=>238
   | 21=>21
   | 119=>243
   | 46=>184
   | 139=>246
   | 138=>245
   | n=>n,
  g:=fun x =>
   match x with
   | 3=>0
   | 4=>1
   | n=>n }
theorem Tryz.lays161:Lays.n161 Tryz.prog lays161_ren :=
  {
  mixed:=Eq.refl true,f119:=Eq.trans func207 (congrArg some (by kernel_rfl)),
  f137:=Eq.trans func206 (congrArg some (by kernel_rfl)),
  f151:=Eq.trans func202 (congrArg some (by kernel_rfl)),
  f152:=Eq.trans func205 (congrArg some (by kernel_rfl)),
  f161:=Eq.trans func173 (congrArg some (by kernel_rfl)),
  f197:=Eq.trans func201 (congrArg some (by kernel_rfl)),
  f217:=Eq.trans func210 (congrArg some (by kernel_rfl)),
  f224:=Eq.trans func208 (congrArg some (by kernel_rfl)),
  f225:=Eq.trans func209 (congrArg some (by kernel_rfl)),
  f227:=Eq.trans func191 (congrArg some (by kernel_rfl)),
  f228:=Eq.trans func200 (congrArg some (by kernel_rfl)),
  f231:=Eq.trans func190 (congrArg some (by kernel_rfl)),
  f233:=Eq.trans func192 (congrArg some (by kernel_rfl)),
  f235:=Eq.trans func193 (congrArg some (by kernel_rfl)),
  f260:=Eq.trans func204 (congrArg some (by kernel_rfl)),
  f266:=Eq.trans func211 (congrArg some (by kernel_rfl)),t0:=underlying0,
  a0:=isAgg0,z0:=sizeOf0,v0:=zeroValue0,t3:=uT3,a3:=iT3,
  z3:=zT3,v3:=zeroValue3,t4:=underlying4,a4:=isAgg4,z4:=zT4,
  v4:=zeroValue4,t5:=uT5,a5:=isAgg5,z5:=sizeOf5,v5:=zeroValue5,
  t9:=underlying9,a9:=isAgg9,z9:=sizeOf9,v9:=zeroValue9,t21:=underlying21,
  a21:=isAgg21,z21:=sizeOf21,v21:=zeroValue21,t46:=uT184,a46:=isAgg184,
  z46:=sizeOf184,v46:=zeroValue184,t105:=underlying238,a105:=isAgg238,
  z105:=sizeOf238,v105:=zeroValue238,t116:=underlying227,a116:=isAgg227,
  z116:=sizeOf227,t117:=underlying228,a117:=isAgg228,z117:=sizeOf228,
  v117:=zeroValue228,t119:=underlying243,a119:=isAgg243,z119:=sizeOf243,
  t124:=underlying231,a124:=isAgg231,z124:=sizeOf231,v124:=zeroValue231,
  t138:=underlying245,a138:=isAgg245,z138:=sizeOf245,v138:=zeroValue245,
  t139:=underlying246,a139:=isAgg246,z139:=sizeOf246,v139:=zeroValue246,
  g3:=(by kernel_rfl),g4:=(by kernel_rfl) }
def dropZ (l:List UInt8):List UInt8:=l.dropWhile (· == 0)
theorem trimLeft_spec (E:World)(g:PH)(s:Own)(l:List UInt8) :
  Ctr Tryz.prog E 173 #[txt l,txt [0]] g s (fun r g' s'=>r=txt (dropZ l)∧g=g'∧s=s'):=by
 intro w hw;refine (Any.strings_TrimLeft_one lays161 ⟨l.toArray⟩ 0 dC w).mono ?_;rintro e w' ⟨rfl,rfl⟩;exact⟨_,g,s,I,hw,I,I,I⟩
def by4 (x:Int):List Int:=[IntKind.u8.wrap (x.fdiv (2 ^ min (24:Int).toNat IntKind.u64.bits)),IntKind.u8.wrap (x.fdiv (2 ^ min (16:Int).toNat IntKind.u64.bits)),IntKind.u8.wrap (x.fdiv (2 ^ min (8:Int).toNat IntKind.u64.bits)),IntKind.u8.wrap x]
def byP (x:Nat×Int):List Int:=by4 x.2
theorem byP_length (l:List (Nat×Int)):(l.flatMap byP).length=4 * l.length:=by
 induction l with
 | nil=>rfl
 | cons a t ih=>simp only[List.flatMap_cons,List.length_append,ih,List.length_cons,byP,by4,List.length_nil]; omega
theorem trimZ_le (l:List Int):(trimZ l).length≤l.length:=by
 unfold trimZ;rw[List.length_reverse];have:=(List.dropWhile_sublist (l:=l.reverse) (· == 0)).length_le;simpa using this
def wordsT (l:List Int):List UInt8:=dropZ (byt ((revP (trimZ l)).flatMap byP))
def wideV (neg:Bool)(bs:List UInt8):Value:=.agg #[vb (neg&&decide (bs≠[])),txt bs]
theorem Tryz.build154 (a:Bool)(l:List UInt8)(w:World):(Instr.build 154 #[(0,vb a),(1,txt l)]).run Tryz.prog w = .ok (.agg #[vb a,txt l]) w:=by
 have h1:(vb a).cells = #[vb a]:=rfl;have h2:(txt l).cells = #[txt l]:=rfl;simp[Instr.build,Instr.fill,h1,h2];rfl
theorem natWide_spec (E:World)(g:PH)(s:Own)(v:Value)(l:List Int)(neg:Bool)(hv:SlA encU g v l)(hl:l.length<1099511627776) :
  Ctr Tryz.prog E 154 #[v,vb neg] g s (fun r g' s'=>r=wideV neg (wordsT l)∧s=s'∧Le g g'):=by
 have htl:=trimZ_le l;refine Ctr.ofX (args:=[v,vb neg]) func154 I ntmps154 (bE I) ?_;refine XC.seq ?_;refine XC.region ?_;refine XL.o (aL zeroValue154) dC ?_;rintro _ _ _ ⟨b4,rfl,rfl,rfl⟩;refine XL.nil ?_;refine XT.thenN ?_;refine XC.seq ?_;refine XC.region ?_;refine XL.u (mV I) dC ?_;refine XL.o (SO.call call171 I (norm_spec E g _ v l hv hl)) dC ?_;rintro v10 _ _ ⟨rfl,rfl,hm⟩;obtain ⟨q,d,rfl⟩:=SlA.form hm;refine XL.u (aS I) dC ?_;refine XL.nil ?_;refine XT.thenN ?_;refine XC.seq ?_;refine XC.region ?_;refine XL.u (mV I) dC ?_;refine XL.u (eN uT191 I) dC ?_;refine XL.u (SU.eq (v':=vi ((4 * (trimZ l).length:Nat))) (SU.mul I I oM) (congrArg vi oM)) dC ?_;refine XL.o (SO.makeC encB sty23 I I oM oM) dC ?_;rintro v14 _ _ ⟨rfl,rfl⟩;refine XL.facts fun ⟨w0,hw0⟩=>?_;obtain ⟨p14,c14,rfl⟩:=rowA_form (i:=0) hw0 rfl;clear hw0 w0;refine XL.o (aL zeroValue23) dC ?_;rintro _ _ _ ⟨b5,rfl,rfl,rfl⟩;refine XL.on (sK 0 sizeOf23 I I I I I sB) ?_;rintro _ _ _ ⟨rfl,rfl⟩;refine XL.nil ?_;refine XT.thenN ?_;refine XC.seq ?_;refine XC.seq ?_;refine XC.region ?_;refine XL.u (mV I) dC ?_;refine XL.o (SO.call call172 I (backward_spec E _ _ _ I)) dC ?_;rintro _ g1 _ ⟨rfl,hle,bb,rfl,hbb⟩;refine XL.nil ?_;refine XT.thenN ?_;refine XC.block ?_;refine XC.to (g':=g1) (s':=rowA encB 5 (.slice p14 0 c14) []::pt b5 (.cells #[.slice p14 0 c14] 23 (0,0))::pt b4 (.cells #[vb false,txt []] 154 (0,0))::s) (fun w hw=>hw.perm (List.Perm.swap _ _ _)) ?_;refine XC.rangeFunc (α:=Nat×Int) (ι:=Value×List Int) (encs:=fun x=>[vi x.1,.int .u64 x.2]) (xs:=revP (trimZ l)) (g0:=g1) (fun _=>g1) (fun i=>rowA encB 5 i.1 i.2::pt b5 (.cells #[i.1] 23 (0,0))::pt b4 (.cells #[vb false,txt []] 154 (0,0))::[]) (fun pre i=>i.2=pre.flatMap byP) (.slice p14 0 c14,[]) s
  (fun x=>[(18,.int .u64 x.2),(17,vi x.1),(5,pp b5 0)]) (fun _ x _=>[(7,.int .u64 x.2),(5,pp b5 0)]) rfl rfl call189 (fun _=>rfl) rfl rfl (backward_gives E g1 bb _ _ hbb (SlA.mono hm hle) oM) (fun _ _ _=>Le.refl _) rfl
  (fun x a h=>params2 (h.sub (g:=[(5,pp b5 0)]) ⟨rfl,trivial⟩) dC dC) ?_ ?_ ?_
 ·intro k pre x i sx hJ;refine XC.region ?_;refine XL.u (aS I) dC ?_;refine XL.nil ?_;exact XT.assignEnd sB
 ·rintro k pre ⟨xi,x⟩ suf ⟨bv,bs⟩ sx hxs hJ;dsimp only at hJ ⊢;have hpl:pre.length<(trimZ l).length:=by
   have:=congrArg List.length hxs;rw[revP_length,List.length_append,List.length_cons] at this;omega
  have hbl:bs.length=4 * pre.length:=by rw[hJ,byP_length]
  refine XC.facts fun ⟨w0,hw0⟩=>?_;obtain ⟨q2,d2,rfl⟩:=rowA_form (i:=0) hw0 rfl;clear hw0 w0;refine XC.block ?_;refine XC.region ?_;refine XL.q (qL (v:=.slice q2 bs.length d2) isAgg23 I (cO 1 I I)) dC ?_;refine XL.u (mV I) dC ?_;refine XL.u (SU.shr I I dC) dC ?_;refine XL.u (SU.convert underlying189 uT5 I) dC ?_;refine XL.u (mV I) dC ?_;refine XL.u (SU.shr I I dC) dC ?_;refine XL.u (SU.convert underlying189 uT5 I) dC ?_;refine XL.u (mV I) dC ?_;refine XL.u (SU.shr I I dC) dC ?_;refine XL.u (SU.convert underlying189 uT5 I) dC ?_;refine XL.u (mV I) dC ?_;refine XL.u (SU.convert underlying189 uT5 I) dC ?_;refine XL.o (SO.buildSlice sty23 I I I (szs_mk sB) dC) dC ?_;rintro _ _ _ ⟨b31,rfl,rfl,rfl⟩;refine XL.to (fun w hw=>At.litRow (e:=encB) (l:=by4 x) (n:=3) hw I I dC) ?_;refine XL.o (SO.appendE (m:=4) 1 (bs++by4 x).length ((bs++by4 x).flatMap encB.enc) sty23 I I I I I (Rd.rowA 0 I) (encB.length (by4 x)) (encB.ones _) (by simp[by4]) (by simp) (by simp[by4]; omega) (by simp[by4]; omega)) dC ?_;rintro v32 _ _ ⟨rfl,rfl⟩;refine XL.facts fun ⟨w0,hw0⟩=>?_;obtain ⟨q3,d3,rfl⟩:=rowA_form (e:=encB) (l:=bs++by4 x) (i:=1) hw0 rfl;clear hw0 w0;refine XL.on (sK 2 sizeOf23 I I I I I sB) ?_;rintro _ _ _ ⟨rfl,rfl⟩;refine XL.nil ?_;refine XT.blockN ?_;refine XT.drop (List.sublist_cons_self _ _) ?_;exact XT.roundEnd (.slice q3 (bs++by4 x).length d3,bs++by4 x) I I (by dsimp only; rw[List.flatMap_append,hJ]; simp[byP])
 ·rintro D ⟨bv,bs⟩ hJ;dsimp only at hJ ⊢;refine XT.facts fun ⟨w0,hw0⟩=>?_;obtain ⟨q2,d2,rfl⟩:=rowA_form (i:=1) hw0 rfl;clear hw0 w0;refine XT.blockN ?_;refine XT.thenN ?_;refine XC.seq ?_;refine XC.region ?_;refine XL.q (qL (v:=.slice q2 bs.length d2) isAgg23 I (cO 2 I I)) dC ?_;refine XL.q (SQ.bytesText underlying23 uT5 underlying9 I (Rd.rowA 1 I)) dC ?_;refine XL.o (SO.call call173 I (trimLeft_spec E g1 _ (byt bs))) dC ?_;rintro _ _ _ ⟨rfl,rfl,rfl⟩;refine XL.u (aS I) dC ?_;refine XL.nil ?_;refine XT.thenN ?_;have hbs:dropZ (byt bs)=wordsT l:=by unfold wordsT; rw[hJ]
  rw[hbs];generalize wordsT l=T at *;cases neg
  ·refine XC.seq ?_;refine XC.region ?_;refine XL.u (mV I) dC ?_;refine XL.u (mV I) dC ?_;refine XL.off (gF I I I dC) dC ?_;refine XL.off (gF I I I dC) dC ?_;refine XL.u (pF I I) dC ?_;refine XL.u (mV I) dC ?_;refine XL.u (SU.build I (build154 _ _)) dC ?_;refine XL.on (sK 3 sizeOf154 I I I I I sB) ?_;rintro _ _ _ ⟨rfl,rfl⟩;refine XL.nil ?_;refine XT.thenN ?_;refine XC.ret ?_;exact XT.leave1 (.inl I) (ST.retCD 2 s (.inl I) results154 I isAgg154 sizeOf154 I I (.cons _ (.cons _ (.cons _ (.refl _)))) ⟨I,I,hle⟩)
  ·refine XC.seq ?_;refine XC.region ?_;refine XL.u (mV I) dC ?_;refine XL.u (mV I) dC ?_;refine XL.gu (gT I I I dC) (mV I) dC ?_;refine XL.gu (gT I I I dC) (SU.neqT I I) dC ?_;refine XL.u (pT I I) dC ?_;refine XL.u (mV I) dC ?_;refine XL.u (SU.build I (build154 _ _)) dC ?_;refine XL.on (sK 3 sizeOf154 I I I I I sB) ?_;rintro _ _ _ ⟨rfl,rfl⟩;refine XL.nil ?_;refine XT.thenN ?_;refine XC.ret ?_;exact XT.leave1 (.inl I) (ST.retCD 2 s (.inl I) results154 I isAgg154 sizeOf154 I I (.cons _ (.cons _ (.cons _ (.refl _)))) ⟨I,I,hle⟩)
open Go Go.Sy Go.Pl Go.Proofs
theorem SU.negK {P:Program}{N:Nat}{f:Fr}{dst:Option Tmp}{ty:TypeId}{pos:String}{af:Array Edge}{gd:Option (Nat×Bool)}{x:Operand}{T:TypeId}{k:IntKind}{n:Int}(hx:ev f x=some (.int k n)):SU P N ⟨dst,.unOp .neg T x,ty,pos,af,gd⟩ f (.int k (k.wrap (0 - n))):=fun a w ha=>by
 simp only[execOp,ha.ev hx]; rfl
theorem u64w (n:Int):IntKind.u64.wrap n=n % 18446744073709551616:=by simp[IntKind.wrap,IntKind.bits,IntKind.signed]
theorem mask32 (m:Nat)(h:m<18446744073709551616):IntKind.u64.wrap (BitVec.ofInt IntKind.u64.bits (m:Int) &&& BitVec.ofInt IntKind.u64.bits 4294967295).toNat=((m % 4294967296:Nat):Int):=by
 have h1:(BitVec.ofInt IntKind.u64.bits (m:Int) &&& BitVec.ofInt IntKind.u64.bits 4294967295).toNat=m % 4294967296:=by
  have hb:IntKind.u64.bits=64:=rfl;rw[hb,BitVec.toNat_and];have e1:(BitVec.ofInt 64 (m:Int)).toNat=m:=by
   rw[BitVec.toNat_ofInt];omega
  have e2:(BitVec.ofInt 64 4294967295).toNat=2 ^ 32 - 1:=by decide
  rw[e1,e2,Nat.and_two_pow_sub_one_eq_mod]
 rw[h1];exact IntWalk.u64_in _ oM
theorem shr32 (m:Nat):((m:Nat):Int).fdiv (2 ^ min (32:Int).toNat IntKind.u64.bits)=((m / 4294967296:Nat):Int):=by
 have h1:((2:Int) ^ min (32:Int).toNat IntKind.u64.bits)=4294967296:=by decide
 rw[h1,Int.fdiv_eq_ediv_of_nonneg _ dC];omega
theorem Tryz.buildE154 (w:World):(Instr.build 154 #[]).run Tryz.prog w = .ok (.agg #[vb false,txt []]) w:=by
 simp[Instr.build,Instr.fill];rfl
def words (n:Int):List Int:=[((n.natAbs % 4294967296:Nat):Int),((n.natAbs / 4294967296:Nat):Int)]
theorem from_raw (E:World)(g:PH)(s:Own)(n:Int)(h0 : -9223372036854775808≤n)(h1:n<9223372036854775808) :
  Ctr Tryz.prog E 143 #[vi n] g s (fun r g' s'=>r=wideV (decide (n<0)) (wordsT (words n))∧s=s'∧Le g g'):=by
 refine Ctr.of (args:=[vi n]) func143 I ntmps143 (bE I) ?_;refine SC.sR (SL.bx (aL zeroValue154) fun b2=>?_);refine SL.nT (SC.sR (lM I (lU (SU.convert uT3 underlying189 I) (lA I (SL.nT ?_)))));refine SC.cut (ι:=Unit) (fun _=>[(0,vi n),(2,pp b2 0),(3,.int .u64 (n.natAbs:Int))]) (fun _=>g) (fun _=>pt b2 (.cells #[vb false,txt []] 154 (0,0))::s) (fun _=>True) ?_ ?_
 ·refine SC.sR (lM I (lU (lS I I) (SL.nT ?_)));refine iP I (fun hn=>?_) (fun hn=>?_)
  ·have hw:IntKind.u64.wrap (0 - IntKind.u64.wrap n)=(n.natAbs:Int):=by
    rw[u64w,u64w]; omega
   refine rG (lM I (lU (SU.negK I) (lA I (nL ?_))));exact ST.mid () ⟨rfl,rfl,by rw[← hw]; rfl,trivial⟩ rfl rfl trivial
  ·have hw:IntKind.u64.wrap n=(n.natAbs:Int):=by
    rw[u64w]; omega
   refine kP ?_;exact ST.mid () ⟨rfl,rfl,by rw[← hw]; rfl,trivial⟩ rfl rfl trivial
 rintro _ -;try dsimp only
 refine SC.sR (lM I (lU (SU.eq (v':=.int .u64 ((n.natAbs % 4294967296:Nat):Int)) (SU.and I I) (congrArg _ (mask32 _ oM))) (lM I (lU (SU.eq (v':=.int .u64 ((n.natAbs / 4294967296:Nat):Int)) (SU.shr I I dC) (congrArg _ (shr32 _))) (lW (SO.buildSlice sty191 I I I (szs_mk sB) dC) ?_)))));rintro _ _ _ ⟨b14,rfl,rfl,rfl⟩;refine SL.freeze fun g1 hle1 hb=>?_;refine lM I (lU (lS I I) (lW (SO.call call154 I (natWide_spec E g1 _ _ (words n) _ (SlA.lit hb I I) (by simp[words]))) ?_));rintro _ g2 _ ⟨rfl,rfl,hle2⟩;refine SL.O2 (sK 0 sizeOf154 I I I I I sB) ?_;refine SL.nT (rE ?_);exact ST.retCD 0 s (.inl I) results143 I isAgg154 sizeOf154 I I (.cons _ (.refl _)) ⟨I,I,hle1.trans hle2⟩
def hiB (x:Int):Int:=IntKind.u8.wrap (IntKind.i64.wrap (x.tdiv 256))
def loB (x:Int):Int:=IntKind.u8.wrap (x.tmod 256)
def bytesD:List Int→List Int
 | []=>[]
 | x::D=>bytesD D++((if decide (D≠[])||decide (x≥256) then [hiB x] else [])++[loB x])
theorem bytesD_le:∀ D:List Int,(bytesD D).length≤2 * D.length
 | []=>by simp[bytesD]
 | x::D=>by
  have:=bytesD_le D;simp only[bytesD,List.length_append,List.length_cons,List.length_nil];split <;> simp <;> omega
theorem refWide_spec (E:World)(g:PH)(s:Own)(v:Value)(neg:Bool)(l:List Int)(hv:SlA encInt g v l)(hl:l.length<1099511627776) :
  Ctr Tryz.prog E 165 #[vb neg,v] g s (fun r g' s'=>r = .agg #[vb (neg&&decide (trimZ l≠[])),txt (byt (bytesD (trimZ l)))]∧s=s'∧Le g g'):=by
 have htl:=trimZ_le l;refine Ctr.of (args:=[vb neg,v]) func165 I ntmps165 (bE I) ?_;refine SC.sR (SL.bx (aL zeroValue154) fun b4=>?_);refine SL.nT (SC.sR (lM I (lW (SO.call call179 I (refTrim_spec E g _ v l hv hl)) ?_)));rintro v8 _ _ ⟨rfl,rfl,hm⟩;obtain ⟨q,d,rfl⟩:=SlA.form hm;refine lA I (SL.nT (sQ (SC.sR (lM I (lU (eN uT22 I) (lU (eQ I I) (SL.nT ?_)))))));generalize trimZ l=t at *;refine iP I (fun hz=>?_) (fun hz=>?_)
 ·have ht0:t=[]:=List.eq_nil_of_length_eq_zero oM;subst ht0;refine SC.sR (lU (SU.build I (buildE154)) (SL.O2 (sK 0 sizeOf154 I I I I I sB) ?_));refine SL.nT (rE (tR ?_));exact ST.retCD 0 s (.inl I) results165 I isAgg154 sizeOf154 I I (.cons _ (.refl _)) ⟨by cases neg <;> rfl,I,Le.refl g⟩
 ·refine kP (tN (SC.sR (lA I (SL.nT (sQ (SC.sR (lM I (lU (eN uT22 I) (lU (sU I I oM) (lA I (SL.nT (bK (SC.nilRow 5 1 ?_)))))))))))));refine oP (ι:=Nat×Value) (fun i=>[(0,vb neg),(1,.slice q t.length d),(4,pp b4 0),(5,i.2),(6,vi ((i.1:Int) - 1))]) (fun _=>g) (fun i=>rowA encB 5 i.2 (bytesD (t.drop i.1))::pt b4 (.cells #[vb false,txt []] 154 (0,0))::s) (fun i=>i.1≤t.length) (fun i=>i.1) (t.length,.slice none 0 0)
   sB rfl (by dsimp only; rw[List.drop_length]; rfl) (lR _) ?_
  rintro ⟨n,bv⟩ hn;dsimp only at hn ⊢;refine sQ (SC.sR (lM I (lU (gQ I I) (SL.nT ?_))));refine iP I (fun hge=>?_) (fun hge=>?_)
  ·have hn1:n - 1<t.length:=oM;have hb1:=SlA.based hm oM;have hgx:t[((n:Int) - 1).toNat]?=some t[n - 1]:=by rw[show ((n:Int) - 1).toNat=n - 1 by omega]; exact gE hn1
   have hdr:t.drop (n - 1)=t[n - 1]::t.drop n:=by
    have:=List.drop_eq_getElem_cons hn1;rwa [show n - 1+1=n by omega] at this
   have hne:decide (t.drop n≠[])=decide ((n:Int) - 1<(t.length:Int) - 1):=by
    rw[decide_eq_decide];constructor
    ·intro h;have:=List.length_pos_iff.2 h;rw[List.length_drop] at this;omega
    ·intro h e;have:=congrArg List.length e;rw[List.length_drop,List.length_nil] at this;omega
   have hlb:=bytesD_le (t.drop n);rw[List.length_drop] at hlb;generalize t[n - 1]=x at *;have hst:bytesD (t.drop (n - 1))=bytesD (t.drop n)++((if decide ((n:Int) - 1<(t.length:Int) - 1)||decide (x≥256) then [hiB x] else [])++[loB x]):=by rw[hdr,bytesD,hne]
   generalize bytesD (t.drop n)=B at *;have f1:(n:Int) - 1<(t.length:Int) - 1→(decide ((n:Int) - 1<(t.length:Int) - 1)||decide (x≥256))=true:=fun h=>by rw[decide_eq_true h,Bool.true_or]
   have f2:¬ (n:Int) - 1<(t.length:Int) - 1→(decide ((n:Int) - 1<(t.length:Int) - 1)||decide (x≥256))=decide (x≥256):=fun h=>by rw[decide_eq_false h,Bool.false_or]
   refine kP (tN (sQ (bK ?_)));refine SC.cut (ι:=Value) (fun i=>[(0,vb neg),(1,.slice q t.length d),(4,pp b4 0),(5,i),(6,vi ((n:Int) - 1))]) (fun _=>g) (fun i=>rowA encB 5 i (B++(if decide ((n:Int) - 1<(t.length:Int) - 1)||decide (x≥256) then [hiB x] else []))::pt b4 (.cells #[vb false,txt []] 154 (0,0))::s) (fun _=>True) ?_ ?_
   ·refine SC.cutB 31 ((decide ((n:Int) - 1<(t.length:Int) - 1)||decide (x≥256))) ?_ ?_
    ·refine rG (lM I (lM I (lU (eN uT22 I) (lU (sU I I oM) (lU (lS I I) (lM I ?_))))));refine sP ?_ ?_
     ·intro h25;refine lZ I I I (lZ I I I (lZ I I I (lZ I I I (lZ I I I (lU (pT I I) (nL ?_))))));exact ST.mid1 (by (rw[f1 h25]; rfl)) mI
     ·intro h25;refine lY I I I (mV I) (lY I I I (mV I) (lY I I I (iA uT22 zT3 I I hb1 oM sL) (SL.gq (gT I I I dC) (eB iT3 I (SlA.rd hm) hgx I) dC (lY I I I (gQ I I) (lU (pF I I) (nL ?_))))));exact ST.mid1 (by (rw[f2 h25]; rfl)) mI
    refine iQ I (fun hc=>?_) (fun hc=>?_)
    ·refine rG (lM I (lM I (lM I (lU (iA uT22 zT3 I I hb1 oM sL) (lK (eB iT3 I (SlA.rd hm) hgx I) (lU (SU.quo I I dC) (lU (SU.eq (v':=.int .u8 (hiB x)) (SU.convert uT3 uT5 I) I) (lW (SO.buildSlice sty23 I I I (szs_mk sB) dC) ?_))))))));rintro _ _ _ ⟨b39,rfl,rfl,rfl⟩;refine lW (aP (e:=encB) 0 (hiB x) sty23 I I I I I oM oM) ?_;rintro bv' _ _ ⟨rfl,rfl⟩;refine lA I (nL ?_);exact ST.mid bv' sB rfl (by rw[if_pos hc]; rfl) trivial
    ·refine kP ?_;exact ST.mid bv sB I (by rw[if_neg (by rw[hc]; simp),List.append_nil]) trivial
   rintro bv2 -;try dsimp only
   have hB2:(B++(if decide ((n:Int) - 1<(t.length:Int) - 1)||decide (x≥256) then [hiB x] else [])).length≤B.length+1:=by
    rw[List.length_append]; split <;> simp
   rw[← List.append_assoc] at hst;generalize (B++(if decide ((n:Int) - 1<(t.length:Int) - 1)||decide (x≥256) then [hiB x] else []))=B2 at *;refine rG (lM I (lM I (lM I (lU (iA uT22 zT3 I I hb1 oM sL) (lK (eB iT3 I (SlA.rd hm) hgx I) (lU (SU.rem I I dC) (lU (SU.eq (v':=.int .u8 (loB x)) (SU.convert uT3 uT5 I) I) (lW (SO.buildSlice sty23 I I I (szs_mk sB) dC) ?_))))))));rintro _ _ _ ⟨b48,rfl,rfl,rfl⟩;refine lW (aP (e:=encB) 0 (loB x) sty23 I I I I I oM oM) ?_;rintro bv3 _ _ ⟨rfl,rfl⟩;refine lA I (nL (bN (tN (rG (lM I (lU (sU I I oM) (lA I (nL ?_))))))));exact ST.again (n - 1,bv3) ⟨rfl,rfl,rfl,rfl,getVi rfl oM,trivial⟩ rfl (by dsimp only; rw[hst]; rfl) (by dsimp only; omega) (by dsimp only; omega)
  ·have hn0:n=0:=oM;subst hn0;refine SC.facts fun ⟨w0,hw0⟩=>?_;obtain ⟨q2,d2,rfl⟩:=rowA_form (i:=0) hw0 rfl;clear hw0 w0;rw[List.drop_zero] at *;refine xI (tX (tX (bX (tN (SC.sR (lM I (lM I (lK (SQ.bytesText underlying23 uT5 underlying9 I (Rd.rowA 0 I)) (lU (SU.build I (build154 _ _)) (SL.O2 (sK 1 sizeOf154 I I I I I sB) ?_))))))))));refine SL.nT (rE ?_);exact ST.retCD 1 s (.inl rfl) results165 rfl isAgg154 sizeOf154 rfl rfl (.cons _ (.cons _ (.refl _))) ⟨by rw[show decide (t≠[])=true from decide_eq_true (fun e:t=[]=>hz (by rw[e]; rfl)),Bool.and_true]; rfl,rfl,Le.refl g⟩
def digs (m:Nat):List Int:=if h:m=0 then [] else ((m % 65536:Nat):Int)::digs (m / 65536)
termination_by m
decreasing_by omega
theorem digs_zero:digs 0=[]:=by unfold digs; rfl
theorem digs_pos {m:Nat}(h:m≠0):digs m=((m % 65536:Nat):Int)::digs (m / 65536):=by rw[digs,dif_neg h]
theorem digs_length:∀ (k m:Nat),m<65536 ^ k→(digs m).length≤k
 | 0,m,h=>by
  have:m=0:=by simpa using h
  subst this; rw[digs_zero]; simp
 | k+1,m,h=>by
  by_cases h0:m=0
  ·subst h0; rw[digs_zero]; simp
  ·rw[digs_pos h0,List.length_cons];have:=digs_length k (m / 65536) (by rw[Nat.div_lt_iff_lt_mul dC]; rwa [Nat.pow_succ] at h);omega
theorem digs_trim (m:Nat):trimZ (digs m)=digs m:=by
 have key:∀ m,digs m=[]∨∃ a x,digs m=a++[x]∧x≠0:=by
  intro m;induction m using Nat.strongRecOn with
  | _ m ih =>
   by_cases h0:m=0
   ·left; subst h0; exact digs_zero
   ·right;rw[digs_pos h0]
    rcases ih (m / 65536) oM with h | ⟨a,x,h,hx⟩
    ·refine⟨[],_,by rw[h]; rfl,?_⟩;by_cases h1:m / 65536=0
     ·omega
     ·rw[digs_pos h1] at h; cases h
    ·exact⟨_::a,x,by rw[h]; rfl,hx⟩
 rcases key m with h | ⟨a,x,h,hx⟩
 ·rw[h]; rfl
 ·rw[h]; simp[trimZ,hx]
theorem refFrom_raw (E:World)(g:PH)(s:Own)(n:Int)(h0 : -9223372036854775808≤n)(h1:n<9223372036854775808) :
  Ctr Tryz.prog E 147 #[vi n] g s (fun r g' s'=>r = .agg #[vb (decide (n<0)&&decide (digs n.natAbs≠[])),txt (byt (bytesD (digs n.natAbs)))]∧s=s'∧Le g g'):=by
 have hdl:=digs_length 4 n.natAbs oM;refine Ctr.of (args:=[vi n]) func147 I ntmps147 (bE I) ?_;refine SC.sR (SL.bx (aL zeroValue154) fun b2=>?_);refine SL.nT (SC.sR (lA I (SL.nT (SC.sR (lM I (lU (SU.convert uT3 underlying189 I) (lA I (SL.nT ?_))))))));refine SC.cut (ι:=Unit) (fun _=>[(0,vi n),(2,pp b2 0),(3,.slice none 0 0),(4,.int .u64 (n.natAbs:Int))]) (fun _=>g) (fun _=>pt b2 (.cells #[vb false,txt []] 154 (0,0))::s) (fun _=>True) ?_ ?_
 ·refine SC.sR (lM I (lU (lS I I) (SL.nT ?_)));refine iP I (fun hn=>?_) (fun hn=>?_)
  ·have hw:IntKind.u64.wrap (0 - IntKind.u64.wrap n)=(n.natAbs:Int):=by
    rw[u64w,u64w]; omega
   refine rG (lM I (lU (SU.negK I) (lA I (nL ?_))));exact ST.mid () ⟨rfl,rfl,rfl,by rw[← hw]; rfl,trivial⟩ rfl rfl trivial
  ·have hw:IntKind.u64.wrap n=(n.natAbs:Int):=by
    rw[u64w]; omega
   refine kP ?_;exact ST.mid () ⟨rfl,rfl,rfl,by rw[← hw]; rfl,trivial⟩ rfl rfl trivial
 rintro _ -;try dsimp only
 refine sQ (bK (SC.nilRow 3 1 ?_));refine oP (ι:=Nat×Value×List Int) (fun i=>[(0,vi n),(2,pp b2 0),(3,i.2.1),(4,.int .u64 (i.1:Int))]) (fun _=>g) (fun i=>rowA encInt 3 i.2.1 i.2.2::pt b2 (.cells #[vb false,txt []] 154 (0,0))::s) (fun i=>i.2.2++digs i.1=digs n.natAbs∧i.1≤n.natAbs) (fun i=>i.1) (n.natAbs,.slice none 0 0,[])
  sB rfl rfl ⟨rfl,lR _⟩ ?_
 rintro ⟨m,bv,D⟩ ⟨hD,hm⟩;dsimp only at hD hm ⊢;have hDl:D.length≤4:=by have:=congrArg List.length hD; rw[List.length_append] at this; omega
 refine sQ (SC.sR (lM I (lU (gR I I) (SL.nT ?_))));refine iP I (fun hpos=>?_) (fun hpos=>?_)
 ·have hm0:m≠0:=oM;have hds:=digs_pos hm0;refine kP (tN (bK (SC.sR (lM I (lM I (lU (SU.rem I I dC) (lU (SU.eq (v':=vi ((m % 65536:Nat):Int)) (SU.convert underlying189 uT3 I) (congrArg vi (by rw[show ((m:Int)).tmod 65536=((m % 65536:Nat):Int) by rw[Int.tmod_eq_emod_of_nonneg oM]; omega]; exact IntWalk.i64_in _ oM))) ?_)))))));refine lW (SO.buildSlice sty22 I I I (szs_mk sB) dC) ?_;rintro _ _ _ ⟨b17,rfl,rfl,rfl⟩;refine lW (aP (e:=encInt) 0 ((m % 65536:Nat):Int) sty22 I I I I I oM oM) ?_;rintro bv' _ _ ⟨rfl,rfl⟩;refine lA I (SL.nT (rG (lM I (lU (SU.eq (v':=.int .u64 ((m / 65536:Nat):Int)) (SU.quo I I dC) (congrArg _ (by rw[show ((m:Int)).tdiv 65536=((m / 65536:Nat):Int) by rw[Int.tdiv_eq_ediv_of_nonneg oM]; omega]; exact IntWalk.u64_in _ oM))) ?_))));refine lA I (nL (bN ?_));exact ST.again (m / 65536,bv',D++[((m % 65536:Nat):Int)]) sB I I ⟨by dsimp only; rw[← hD,hds]; simp,by dsimp only; omega⟩ (by dsimp only; omega)
 ·have hm0:m=0:=oM;subst hm0;rw[digs_zero,List.append_nil] at hD;subst hD;refine xI (tX (tX (bX (tN (sQ (fS fun g1 hle1 hs1=>?_))))));refine rG (lM I (lU (lS I I) (lM I (lW (SO.call call165 I (refWide_spec E g1 _ bv _ (digs n.natAbs) hs1 oM)) ?_))));rintro _ g2 _ ⟨rfl,rfl,hle2⟩;refine SL.O2 (sK 0 sizeOf154 I I I I I sB) ?_;refine SL.nT (rE ?_);exact ST.retCD 0 s (.inl rfl) results147 rfl isAgg154 sizeOf154 rfl rfl (.cons _ (.refl _)) ⟨by rw[digs_trim]; rfl,rfl,hle1.trans hle2⟩
theorem ofNat_congr {a b:Nat}(h:a % 256=b % 256):UInt8.ofNat a=UInt8.ofNat b:=by
 apply UInt8.toNat.inj;simpa using h
theorem u8w (k:Nat):IntKind.u8.wrap (k:Int)=((k % 256:Nat):Int):=by simp[IntKind.wrap,IntKind.bits,IntKind.signed]
theorem ofNat_u8 (k:Nat):UInt8.ofNat (IntKind.u8.wrap (k:Int)).toNat=UInt8.ofNat k:=by
 rw[u8w,Int.toNat_natCast]; exact ofNat_congr oM
theorem fdiv_nat (k e:Nat):(k:Int).fdiv ((e:Nat):Int)=((k / e:Nat):Int):=by
 rw[Int.fdiv_eq_ediv_of_nonneg _ oM]; simp
theorem byt_by4 (k:Nat):byt (by4 (k:Int))=[UInt8.ofNat (k / 16777216),UInt8.ofNat (k / 65536),UInt8.ofNat (k / 256),UInt8.ofNat k]:=by
 have h1:((2:Int) ^ min (24:Int).toNat IntKind.u64.bits)=((16777216:Nat):Int):=by decide
 have h2:((2:Int) ^ min (16:Int).toNat IntKind.u64.bits)=((65536:Nat):Int):=by decide
 have h3:((2:Int) ^ min (8:Int).toNat IntKind.u64.bits)=((256:Nat):Int):=by decide
 unfold by4;rw[h1,h2,h3,fdiv_nat,fdiv_nat,fdiv_nat];simp only[byt,List.map_cons,List.map_nil,ofNat_u8]
def beK:Nat→Nat→List UInt8
 | 0,_=>[]
 | k+1,m=>beK k (m / 65536)++[UInt8.ofNat (m / 256),UInt8.ofNat m]
def magB (m:Nat):List UInt8:=dropZ (beK 4 m)
theorem beK_zero:∀ k,dropZ (beK k 0)=[]
 | 0=>rfl
 | k+1=>by
  have ih:=beK_zero k;unfold dropZ at *;rw[beK,List.dropWhile_append,ih];rfl
theorem ofNat_ne {a:Nat}(h0:a≠0)(h:a<256):UInt8.ofNat a≠0:=fun e=>by
 have:=congrArg UInt8.toNat e;simp at this;omega
theorem digs_bytes:∀ (k m:Nat),m<65536 ^ k→byt (bytesD (digs m))=dropZ (beK k m)
 | 0,m,h=>by
  have:m=0:=by simpa using h
  subst this; rw[digs_zero]; rfl
 | k+1,m,h=>by
  by_cases h0:m=0
  ·subst h0; rw[digs_zero,beK_zero]; rfl
  ·have ih:=digs_bytes k (m / 65536) (by rw[Nat.div_lt_iff_lt_mul dC]; rwa [Nat.pow_succ] at h);rw[digs_pos h0,beK];have hlo:UInt8.ofNat (loB ((m % 65536:Nat):Int)).toNat=UInt8.ofNat m:=by
    unfold loB;rw[show (((m % 65536:Nat):Int)).tmod 256=((m % 65536 % 256:Nat):Int) by rw[Int.tmod_eq_emod_of_nonneg oM]; omega,ofNat_u8];exact ofNat_congr oM
   have hhi:UInt8.ofNat (hiB ((m % 65536:Nat):Int)).toNat=UInt8.ofNat (m % 65536 / 256):=by
    unfold hiB;rw[show (((m % 65536:Nat):Int)).tdiv 256=((m % 65536 / 256:Nat):Int) by rw[Int.tdiv_eq_ediv_of_nonneg oM]; omega,IntWalk.i64_in _ oM,ofNat_u8]
   by_cases h1:m / 65536=0
   ·rw[h1,digs_zero];have hz:=beK_zero k;unfold dropZ at *;rw[List.dropWhile_append,hz];have hm:m % 65536=m:=oM;rw[hm] at hlo hhi ⊢;simp only[bytesD,List.nil_append,ne_eq,not_true_eq_false,decide_false,Bool.false_or,List.isEmpty_nil,if_true];by_cases h2:(m:Int)≥256
    ·have hne:(UInt8.ofNat (m / 256) == 0)=false:=by simpa using ofNat_ne (a:=m / 256) oM oM
     rw[decide_eq_true h2,if_pos rfl,List.dropWhile_cons,hne];simp only[byt,List.map_append,List.map_cons,List.map_nil,hlo,hhi];rfl
    ·have hq:m / 256=0:=oM;have hne:(UInt8.ofNat m == 0)=false:=by simpa using ofNat_ne (a:=m) h0 oM
     rw[decide_eq_false h2,if_neg (by simp),hq,List.dropWhile_cons,show (UInt8.ofNat 0 == 0)=true from rfl,if_pos rfl,List.dropWhile_cons,hne];simp only[byt,List.nil_append,List.map_cons,List.map_nil,hlo];rfl
   ·have hD:digs (m / 65536)≠[]:=by rw[digs_pos h1]; simp
    have hne:byt (bytesD (digs (m / 65536)))≠[]:=by
     rw[digs_pos h1];simp[byt,bytesD]
    have hq:UInt8.ofNat (m % 65536 / 256)=UInt8.ofNat (m / 256):=ofNat_congr oM;rw[ih] at hne;unfold dropZ at *;rw[List.dropWhile_append];have he:(List.dropWhile (fun x=>x == 0) (beK k (m / 65536))).isEmpty=false:=by simpa using hne
    rw[he];simp only[bytesD,Bool.false_eq_true,if_false];rw[decide_eq_true hD,Bool.true_or,if_pos rfl];rw[← ih];simp only[byt,List.map_append,List.map_cons,List.map_nil,hlo,hhi,hq];rfl
theorem trimZ1 {a:Int}(h:a≠0):trimZ [a,0]=[a]:=by simp[trimZ,h]
theorem trimZ2 {a b:Int}(h:b≠0):trimZ [a,b]=[a,b]:=by simp[trimZ,h]
theorem words_bytes (n:Int)(h:n.natAbs<18446744073709551616):wordsT (words n)=magB n.natAbs:=by
 obtain ⟨m,hm⟩:∃ m,m=n.natAbs:=⟨_,rfl⟩;unfold words;rw[← hm] at h ⊢;have hlo:=byt_by4 (m % 4294967296);have hhi:=byt_by4 (m / 4294967296);have hbe:beK 4 m=[UInt8.ofNat (m / 4294967296 / 16777216),UInt8.ofNat (m / 4294967296 / 65536),UInt8.ofNat (m / 4294967296 / 256),UInt8.ofNat (m / 4294967296),UInt8.ofNat (m % 4294967296 / 16777216),UInt8.ofNat (m % 4294967296 / 65536),UInt8.ofNat (m % 4294967296 / 256),UInt8.ofNat (m % 4294967296)]:=by
  simp only[beK,List.nil_append,List.cons_append];refine congr (congrArg List.cons ?_) (congr (congrArg List.cons ?_) (congr (congrArg List.cons ?_) (congr (congrArg List.cons ?_) (congr (congrArg List.cons ?_) (congr (congrArg List.cons ?_) (congr (congrArg List.cons ?_) (congr (congrArg List.cons ?_) I)))))))
  all_goals exact ofNat_congr oM
 unfold magB wordsT;rw[hbe];by_cases h1:m / 4294967296=0
 ·by_cases h2:m % 4294967296=0
  ·rw[h1,h2]; rfl
  ·have ht:trimZ [((m % 4294967296:Nat):Int),((m / 4294967296:Nat):Int)]=[((m % 4294967296:Nat):Int)]:=by
    rw[h1];exact trimZ1 oM
   rw[ht];show dropZ (byt (by4 _++[]))=_;rw[List.append_nil,hlo,h1];rfl
 ·have ht:trimZ [((m % 4294967296:Nat):Int),((m / 4294967296:Nat):Int)]=[((m % 4294967296:Nat):Int),((m / 4294967296:Nat):Int)]:=by
   exact trimZ2 oM
  rw[ht];show dropZ (byt (by4 _++(by4 _++[])))=_;rw[List.append_nil];have:byt (by4 ((m / 4294967296:Nat):Int)++by4 ((m % 4294967296:Nat):Int))=byt (by4 ((m / 4294967296:Nat):Int))++byt (by4 ((m % 4294967296:Nat):Int)):=by simp[byt]
  rw[this,hhi,hlo];rfl
def wideN (n:Int):Value:=wideV (decide (n<0)) (magB n.natAbs)
theorem from_spec (E:World)(g:PH)(s:Own)(n:Int)(h0 : -9223372036854775808≤n)(h1:n<9223372036854775808) :
  Ctr Tryz.prog E 143 #[vi n] g s (fun r g' s'=>r=wideN n∧s=s'∧Le g g') :=
 (from_raw E g s n h0 h1).mono fun _ _ _ ⟨h2,h3⟩=>⟨by rw[h2,words_bytes _ oM]; rfl,h3⟩
theorem digs_nil (m:Nat):decide (digs m≠[])=decide (m≠0):=by
 rw[decide_eq_decide];by_cases h:m=0
 ·subst h; rw[digs_zero]; simp
 ·rw[digs_pos h]; simp[h]
theorem magB_nil {m:Nat}(h:m<18446744073709551616):decide (magB m≠[])=decide (m≠0):=by
 rw[show magB m=byt (bytesD (digs m)) from (digs_bytes 4 m oM).symm,decide_eq_decide];by_cases h0:m=0
 ·subst h0; rw[digs_zero]; simp[bytesD,byt]
 ·rw[digs_pos h0]; simp[h0,bytesD,byt]
theorem refFrom_spec (E:World)(g:PH)(s:Own)(n:Int)(h0 : -9223372036854775808≤n)(h1:n<9223372036854775808) :
  Ctr Tryz.prog E 147 #[vi n] g s (fun r g' s'=>r=wideN n∧s=s'∧Le g g') :=
 (refFrom_raw E g s n h0 h1).mono fun _ _ _ ⟨h2,h3⟩=>⟨by
  rw[h2,digs_bytes 4 _ oM,digs_nil];unfold wideN wideV;rw[magB_nil oM];rfl,h3⟩
theorem maxD_perm {l m:List Cl}(h:l.Perm m):∀ a,maxD l a=maxD m a:=by
 induction h with
 | nil=>exact fun _=>rfl
 | cons x _ ih=>exact fun a=>ih _
 | swap x y l=>intro a; simp only[maxD]; congr 1; omega
 | trans _ _ h1 h2=>exact fun a=>(h1 a).trans (h2 a)
def sideIds (l:List Cl):List Int:=l.flatMap fun c=>c.sides.map Side.cell
theorem sideIds_has (A:List Cl)(k:Int):(sideIds A).contains k=sideOf A k:=by
 rw[Bool.eq_iff_iff];simp[sideIds,sideOf,hasC]
theorem sideIds_succ {A:List Cl}{k:Nat}(h:k<A.length):sideIds (A.take (k+1))=sideIds (A.take k)++A[k].sides.map Side.cell:=by
 unfold sideIds;rw[tS h,List.flatMap_append];simp only[List.flatMap_cons,List.flatMap_nil,List.append_nil]
theorem flags_no {A:List Cl}{id:Int}(h:findT A id=none)(m:List Int):flags A (m++[id])=flags A m:=by
 unfold flags;refine List.map_congr_left fun c hc=>?_;have:=List.find?_eq_none.1 h c hc;simp only[decide_eq_true_eq] at this;simp[this]
theorem mapS_succ {ss:List Side}{j:Nat}(h:j<ss.length)(m:List Int):m++(ss.take (j+1)).map Side.cell=(m++(ss.take j).map Side.cell)++[ss[j].cell]:=by
 rw[tS h,List.map_append,List.append_assoc]; rfl
theorem refTops_spec (E:World)(g:PH)(s:Own)(v:Value)(l:List Cl)(hv:Cells g v l)(hf:Fits l) :
  Ctr Tryz.prog E 31 #[.agg #[v]] g s (fun r g' s'=>s=s'∧Le g g'∧Ints g' r (topsC l)):=by
 have hft:=tabC_fits hf;have hfl:=hft.1;have hsrt:=tabC_sorted l;have hnd:=tabC_nodup l;refine Ctr.of (args:=[.agg #[v]]) func31 I ntmps31 (bE I) ?_;refine SC.sR (SL.bx (bO I) fun b1=>?_);refine lA I (SL.nT (SC.sR (lA I (SL.nT (SC.sR (lK (qV 0 iT29 zT29 I I I) (lW (SO.call call42 I (refCells_spec E g _ _ l hv hf)) ?_)))))));rintro v11 g1 _ ⟨rfl,hle,hc⟩;obtain ⟨rs,hrs,hall⟩:=hc;have hcs:Cells g1 _ (tabC l):=⟨rs,hrs,hall⟩;obtain ⟨q,dd,rfl⟩:=hrs.form;have hrl:=hall.length;refine lA I (SL.nT (SC.sR (lM I (lU (eN uT27 I) (lW (mK encBool false sty109 I I I oM oM) ?_)))));rintro _ _ _ ⟨b14,rfl,rfl,rfl⟩;refine lA I (SL.nT (sQ (SC.sR (lA I (SL.nT (bK ?_))))));unfold topsC;generalize tabC l=A at *;refine SC.to (g':=g1) (s':=rowA encBool 4 (.slice (some ⟨b14,0,none⟩) rs.length rs.length) (flags A (sideIds (A.take 0)))::pt b1 (.cells #[v] 29 (0,0))::s) (fun w hw=>by rw[show sideIds (A.take 0)=[] from I,flags_nil,hrl]; exact hw) ?_;refine oP (ι:=Nat) (fun i=>[(3,.slice none 0 0),(4,.slice q rs.length dd),(5,.slice (some ⟨b14,0,none⟩) rs.length rs.length),(6,vi i)]) (fun _=>g1)
  (fun i=>rowA encBool 4 (.slice (some ⟨b14,0,none⟩) rs.length rs.length) (flags A (sideIds (A.take i)))::pt b1 (.cells #[v] 29 (0,0))::s)
  (fun i=>i≤A.length) (fun i=>A.length - i) 0 sB rfl rfl (Nat.zero_le _) ?_
 intro k hk;refine sQ (SC.sR (lM I (lM I (lU (eN uT27 I) (lU (lS I I) (SL.nT ?_))))));refine iP I (fun hlt=>?_) (fun hlt=>?_)
 ·have hkl:k<A.length:=oM;have hkr:k<rs.length:=oM;have hb1:=hrs.based oM;have hcr:=hall.get (gE hkl) (gE hkr);have hgr:rs[((k:Nat):Int).toNat]?=some rs[k]:=gE hkr;have hsucc:=sideIds_succ hkl;have hxl:=hft.2 _ (gM hkl);generalize A[k]=x at *;generalize rs[k]=r at *;generalize sideIds (A.take k)=m at *;obtain ⟨ri,rd,rp,rn,rc⟩:=r;have hsv:SlA encSide g1 (.slice rp rn rc) x.sides:=hcr.2.2;have hxn:rn=x.sides.length:=by obtain ⟨q,cc,hq⟩:=SlA.form hsv; simp at hq; exact hq.2.1
  subst hxn;refine kP (tN (sQ (bK (SC.sR (lA I (SL.nT (bK ?_)))))));refine oP (ι:=Nat) (fun j=>[(3,.slice none 0 0),(4,.slice q rs.length dd),(5,.slice (some ⟨b14,0,none⟩) rs.length rs.length),(6,vi k),(7,vi j)]) (fun _=>g1)
   (fun j=>rowA encBool 4 (.slice (some ⟨b14,0,none⟩) rs.length rs.length) (flags A (m++(x.sides.take j).map Side.cell))::pt b1 (.cells #[v] 29 (0,0))::s)
   (fun j=>j≤x.sides.length) (fun j=>x.sides.length - j) 0 sB rfl (by simp) (Nat.zero_le _) ?_
  intro j hj;refine sQ (SC.sR (lM I (lM I (lM I (lU (iA uT27 zT54 I I hb1 oM sL) (lU (fC uT54 I zT37 I hb1) (lK (pA (e:=encCell) (o:=2) (u:=.slice rp x.sides.length rc) iT37 I hrs.rd hgr I) (lU (eN uT37 I) (lU (lS I I) (SL.nT ?_))))))))));refine iP I (fun hlt2=>?_) (fun hlt2=>?_)
  ·have hjl:j<x.sides.length:=oM;have hb2:=SlA.based hsv oM;have hgj:x.sides[((j:Nat):Int).toNat]?=some x.sides[j]:=gE hjl;have hms:=mapS_succ hjl m;generalize m++(x.sides.take j).map Side.cell=m2 at *;generalize x.sides[j]=z at *;have hfl2:(flags A m2).length=A.length:=by simp[flags]
   rcases at_find hsrt z.cell with ⟨hf0,hat⟩ | ⟨c,kk,hf0,hat,hck⟩
   ·refine kP (tN (sQ (bK (SC.sR (lM I (lM I (lM I (lU (iA uT27 zT54 I I hb1 oM sL) (lU (fC uT54 I zT37 I hb1) (lK (pA (e:=encCell) (o:=2) (u:=.slice rp x.sides.length rc) iT37 I hrs.rd hgr I) (lM I (lU (iA uT37 zT56 I I hb2 oM sL) (lU (fC uT56 I zT3 I hb2) (lK (pA (o:=0) (u:=vi z.cell) iT3 I hsv.rd hgj I) (lW (SO.call call62 I (at_spec E g1 _ _ A z.cell hcs hfl hsrt)) ?_)))))))))))))));rintro _ _ _ ⟨rfl,rfl,rfl⟩;rw[hat];refine lA I (SL.nT (SC.sR (lM I (lU (SU.eq (v':=vb false) (gQ I I) (congrArg vb (decide_eq_false oM))) (SL.nT (cF I (kP (bN (tN (rG (lM I (lU (aD I I oM) (lA I (nL ?_))))))))))))));exact ST.again (j+1) sB I (by rw[hms,flags_no hf0]) oM oM
   ·have hkl2:kk<A.length:=(List.getElem?_eq_some_iff.1 hck).1;have hset:(flags A m2).set kk true=flags A (m2++[z.cell]):=by rw[flags_set hnd hck,(findT_mem hf0).2]
    refine kP (tN (sQ (bK (SC.sR (lM I (lM I (lM I (lU (iA uT27 zT54 I I hb1 oM sL) (lU (fC uT54 I zT37 I hb1) (lK (pA (e:=encCell) (o:=2) (u:=.slice rp x.sides.length rc) iT37 I hrs.rd hgr I) (lM I (lU (iA uT37 zT56 I I hb2 oM sL) (lU (fC uT56 I zT3 I hb2) (lK (pA (o:=0) (u:=vi z.cell) iT3 I hsv.rd hgj I) (lW (SO.call call62 I (at_spec E g1 _ _ A z.cell hcs hfl hsrt)) ?_)))))))))))))));rintro _ _ _ ⟨rfl,rfl,rfl⟩;rw[hat];refine lA I (SL.nT (SC.sR (lM I (lU (SU.eq (v':=vb true) (gQ I I) (congrArg vb (decide_eq_true oM))) (SL.nT (cT I (rG (lM I (lM I (lU (iA underlying109 zT4 I I I oM sL) (SL.O2 (sT (e:=encBool) (a:=true) 0 zT4 I I I (by rw[hfl2]; omega) I) ?_)))))))))));refine nL (bN (tN (rG (lM I (lU (aD I I oM) (lA I (nL ?_)))))));exact ST.again (j+1) sB rfl (by rw[hms,← hset]; rfl) oM oM
  ·have hjj:x.sides.take j=x.sides:=tL oM;rw[hjj,← hsucc];refine xI (tX (tX (bX (bN (tN (rG (lM I (lU (aD I I oM) (lA I (nL ?_))))))))));exact ST.again (k+1) sB I I oM oM
 ·have hkk:A.take k=A:=tL oM;rw[hkk];refine xI (tX (tX (bX (tN (sQ (SC.sR (lA I (SL.nT (bK (cP (List.Perm.swap _ _ _) (cP (List.Perm.swap _ _ _) (SC.nilRow 3 1 ?_))))))))))));refine oP (ι:=Value×Nat) (fun i=>[(3,i.1),(4,.slice q rs.length dd),(5,.slice (some ⟨b14,0,none⟩) rs.length rs.length),(9,vi i.2)]) (fun _=>g1)
   (fun i=>rowA encInt 3 i.1 (((A.take i.2).filter fun c=>!sideOf A c.id).map Cl.id)::rowA encBool 4 (.slice (some ⟨b14,0,none⟩) rs.length rs.length) (flags A (sideIds A))::pt b1 (.cells #[v] 29 (0,0))::s)
   (fun i=>i.2≤A.length) (fun i=>A.length - i.2) (.slice none 0 0,0) sB rfl rfl (Nat.zero_le _) ?_
  rintro ⟨ov,i⟩ hi;dsimp only at hi ⊢;refine sQ (SC.sR (lM I (lM I (lU (eN uT27 I) (lU (lS I I) (SL.nT ?_))))));refine iP I (fun hlt3=>?_) (fun hlt3=>?_)
  ·have hil:i<A.length:=oM;have hir:i<rs.length:=oM;have hb1:=hrs.based oM;have hcr:=hall.get (gE hil) (gE hir);have hgr:rs[((i:Nat):Int).toNat]?=some rs[i]:=gE hir;have hsucc:=filt_succ hil (fun c=>!sideOf A c.id) Cl.id;have hlek:=filt_le A i (fun c=>!sideOf A c.id) Cl.id;have hgf:(flags A (sideIds A))[((i:Nat):Int).toNat]?=some (sideOf A A[i].id):=by rw[← sideIds_has]; exact flags_get (gE hil)
   generalize A[i]=x at *;generalize rs[i]=r at *;refine kP (tN (sQ (bK (SC.sR (lM I (lM I (lU (iA underlying109 zT4 I I I oM sL) (lK (eB (e:=encBool) isAgg4 I (Rd.rowA 1 I) hgf I) (lU (SU.not I) (SL.nT ?_))))))))));refine iQ I (fun htop=>?_) (fun htop=>?_)
   ·refine rG (lM rfl (lM rfl (lM rfl (lU (iA uT27 zT54 rfl rfl hb1 oM sL) (lU (fC uT54 rfl zT3 rfl hb1) (lK (pA (e:=encCell) (o:=0) (u:=vi x.id) iT3 rfl hrs.rd hgr (by rw[← hcr.1]; rfl)) ?_))))));refine lW (SO.buildSlice sty22 I I I (szs_mk sB) dC) ?_;rintro _ _ _ ⟨b64,rfl,rfl,rfl⟩;refine lW (aP (e:=encInt) 0 x.id sty22 I I I I I oM oM) ?_;rintro ov' _ _ ⟨rfl,rfl⟩;refine lA I (nL (bN (tN (rG (lM I (lU (aD I I oM) (lA I (nL ?_))))))));refine ST.to (fun w hw=>?_) (g':=g1) (s':=rowA encInt 3 ov' (((A.take (i+1)).filter fun c=>!sideOf A c.id).map Cl.id)::rowA encBool 4 (.slice (some ⟨b14,0,none⟩) rs.length rs.length) (flags A (sideIds A))::pt b1 (.cells #[v] 29 (0,0))::s) ?_
    ·rw[hsucc,if_pos (by simpa using htop)]; exact hw
    exact ST.again (ov',i+1) sB I I (by dsimp only; omega) lN
   ·refine kP (bN (tN (rG (lM I (lU (aD I I oM) (lA I (nL ?_)))))));refine ST.to (fun w hw=>?_) (g':=g1) (s':=rowA encInt 3 ov (((A.take (i+1)).filter fun c=>!sideOf A c.id).map Cl.id)::rowA encBool 4 (.slice (some ⟨b14,0,none⟩) rs.length rs.length) (flags A (sideIds A))::pt b1 (.cells #[v] 29 (0,0))::s) ?_
    ·rw[hsucc,if_neg (by simpa using htop),List.append_nil]; exact hw
    exact ST.again (ov,i+1) sB I I (by dsimp only; omega) lN
  ·have hii:A.take i=A:=tL oM;rw[hii];refine xI (tX (tX (bX (tN (SC.sR (lM I (lA I (SL.nT (rE (fT fun g2 hle2 hs2=>?_))))))))));refine dR (s':=s) (.cons _ (.cons _ (.refl _))) ?_;exact ST.ret1 (.inl I) results31 I ⟨I,hle.trans hle2,hs2⟩
open Go.ChangeShapes Go.WideShapes Go.ChangeAt Go.RowKit
set_option maxRecDepth 100000
section
variable {H:Type}{enc:TypeId×Value→H}{W:World}{base:Nat}{spare:Nat→Bool}{hd:Bool}
theorem lit_wf {n:Int}(h:(Lit.int .i64 n).wf=true):inI64 n:=by
 have h2:IntKind.i64.min≤n∧n≤IntKind.i64.max:=by simpa [Lit.wf] using h
 have e1:IntKind.i64.min = -9223372036854775808:=by decide
 have e2:IntKind.i64.max=9223372036854775807:=by decide
 unfold inI64;omega
theorem three_wf {fuel:Nat}{c0 c1 c2:Value}{x:DataW H×List MemPlace}(h:DataW.trod enc Tryz.prog W base spare hd fuel 41 [c0,c1,c2]=some x):∃ a b c:Int,c0=vi a∧c1=vi b∧c2=vi c∧inI64 a∧inI64 b∧inI64 c:=by
 obtain ⟨y0,y1,y2,n,_,h0,h1,h2⟩:=trod_array3 underlying41 cells3 h;obtain ⟨a,e0,_,w0⟩:=DataW.trod_int uT3 h0;obtain ⟨b,e1,_,w1⟩:=DataW.trod_int uT3 h1;obtain ⟨c,e2,_,w2⟩:=DataW.trod_int uT3 h2;simp at e0 e1 e2;exact⟨a,b,c,e0,e1,e2,lit_wf w0,lit_wf w1,lit_wf w2⟩
end
theorem ins_map {α β:Type}{ka:α→Int}{kb:β→Int}{f:α→β}(h:∀ a,kb (f a)=ka a)(x:α):∀ l:List α,ins kb (f x) (l.map f)=(ins ka x l).map f
 | []=>rfl
 | y::r=>by
  simp only[List.map_cons,ins,h];split
  ·rfl
  ·rw[ins_map h x r]; rfl
theorem sortBy_map {α β:Type}{ka:α→Int}{kb:β→Int}{f:α→β}(h:∀ a,kb (f a)=ka a):∀ l:List α,sortBy kb (l.map f)=(sortBy ka l).map f
 | []=>rfl
 | x::r=>by
  simp only[List.map_cons,sortBy];rw[sortBy_map h r,ins_map h]
theorem sortPerm {α:Type}{key:α→Int}(l:List α):(sortBy key l).Perm l:=by
 induction l with
 | nil=>exact .refl _
 | cons x r ih =>
  have h:∀ m:List α,(ins key x m).Perm (x::m):=by
   intro m;induction m with
   | nil=>exact .refl _
   | cons y t iht =>
    simp only[ins];split
    ·exact .refl _
    ·exact (List.Perm.cons _ iht).trans (List.Perm.swap _ _ _)
  exact (h _).trans (List.Perm.cons _ ih)
theorem sortBy_uniq {α:Type}{key:α→Int}{l m:List α}(h:l.Perm m)(hn:(l.map key).Nodup):sortBy key l=sortBy key m:=by
 have hst:∀ q:List α,(q.map key).Nodup→(sortBy key q).Pairwise fun a b=>key a<key b:=fun q hq=>by
  have h1:=sortBy_srt (key:=key) q;have h2:((sortBy key q).map key).Nodup:=((sortPerm q).map key).symm.nodup hq;have h3:(sortBy key q).Pairwise fun a b=>key a≠key b:=by
   rw[List.nodup_iff_pairwise_ne,List.pairwise_map] at h2;exact h2
  exact (h1.and h3).imp fun h=>by omega
 have hm:(m.map key).Nodup:=(h.map key).nodup hn;refine List.Perm.eq_of_pairwise (le:=fun a b=>key a<key b) (fun a b _ _ h1 h2=>by omega) (hst l hn) (hst m hm) ?_;exact (sortPerm l).trans (h.trans (sortPerm m).symm)
def Dif (l:List Cl):Prop:=(l.map Cl.id).Nodup∧∀ c∈l,(c.sides.map Side.cell).Nodup
theorem normC_shC {a b:Cl}(h:ShC a b)(hn:(a.sides.map Side.cell).Nodup):normC a=normC b:=by
 obtain ⟨h1,h2,h3⟩:=h;unfold normC;rw[h1,h2,sortBy_uniq h3 hn]
theorem canonC_map (l:List Cl):canonC l=sortBy Cl.id (l.map normC):=(sortBy_map (ka:=Cl.id) (kb:=Cl.id) (f:=normC) (fun _=>rfl) l).symm
theorem norm_all2:∀ {l m:List Cl},All2 ShC l m→(∀ c∈l,(c.sides.map Side.cell).Nodup)→l.map normC=m.map normC
 | [],[],_,_=>rfl
 | a::l,b::m,h,hn=>by
  rw[List.map_cons,List.map_cons,normC_shC h.1 (hn a (by simp)),norm_all2 h.2 fun c hc=>hn c (by simp[hc])]
 | [],_::_,h,_=>h.elim
 | _::_,[],h,_=>h.elim
theorem canonC_sh {l m:List Cl}(h:ShL l m)(hd:Dif l):canonC l=canonC m:=by
 obtain ⟨l1,hp,ha⟩:=h;have h1:l1.map normC=m.map normC:=norm_all2 ha fun c hc=>hd.2 c (hp.mem_iff.1 hc);rw[canonC_map,canonC_map,← h1];refine sortBy_uniq (hp.symm.map normC) ?_;rw[List.map_map];exact hd.1
theorem ShL.length {l m:List Cl}(h:ShL l m):l.length=m.length:=by
 obtain ⟨l1,hp,ha⟩:=h;rw[← hp.length_eq,ha.length]
theorem nodup_succ {α:Type}{l:List α}{p:Nat}(h:p<l.length)(h1:(l.take p).Nodup)(h2:∀ q (hq:q<p),l[p]≠l[q]'oM):(l.take (p+1)).Nodup:=by
 rw[tS h,List.nodup_append];refine⟨h1,by simp,fun a ha b hb=>?_⟩;simp at hb;subst hb;obtain ⟨q,hq,rfl⟩:=List.getElem_of_mem ha;rw[List.length_take] at hq;rw[List.getElem_take];exact (h2 q oM).symm
abbrev Pr:=Int×Int
def Ring (adj:Pr→Pr→Bool)(l:List Pr):Prop:=l≠[]∧∀ x∈l,∃ y∈l,y≠x∧adj x y=true
def Cyc (adj:Pr→Pr→Bool)(m:List Pr):Prop:=∃ l,Ring adj l∧∀ x∈l,x∈m
def leadsR (adj:Pr→Pr→Bool)(l:List Pr)(k:Nat):Bool:=(List.range l.length).any fun j=>decide (j≠k)&&adj (l.getD k (0,0)) (l.getD j (0,0))
def freeAt (adj:Pr→Pr→Bool)(l:List Pr):Option Nat:=(List.range l.length).find? fun k=>!leadsR adj l k
def peel (adj:Pr→Pr→Bool):Nat→List Pr→List Pr
 | 0,l=>l
 | n+1,l=>match freeAt adj l with
  | none=>l
  | some k=>peel adj n (l.eraseIdx k)
def ringR (adj:Pr→Pr→Bool)(m:List Pr):Bool:=decide (peel adj m.length m≠[])
theorem peel_succ (adj:Pr→Pr→Bool)(n:Nat)(l:List Pr):peel adj (n+1) l=match freeAt adj l with
  | none=>l
  | some k=>peel adj n (l.eraseIdx k):=rfl
theorem freeAt_some {adj:Pr→Pr→Bool}{l:List Pr}{k:Nat}(h:freeAt adj l=some k):∃ hk:k<l.length,∀ j (hj:j<l.length),j≠k→adj l[k] l[j]=false:=by
 unfold freeAt at h;have h1:=List.find?_some h;have h2:=List.mem_range.1 (List.mem_of_find?_eq_some h);refine⟨h2,fun j hj hne=>?_⟩;unfold leadsR at h1;simp only[Bool.not_eq_true',List.any_eq_false,List.mem_range,Bool.and_eq_true,decide_eq_true_eq,not_and,Bool.not_eq_true] at h1;have:=h1 j hj hne;rwa [List.getD_eq_getElem?_getD,List.getD_eq_getElem?_getD,gE h2,gE hj] at this
theorem freeAt_none {adj:Pr→Pr→Bool}{l:List Pr}(h:freeAt adj l=none){k:Nat}(hk:k<l.length):∃ j,∃ hj:j<l.length,j≠k∧adj l[k] l[j]=true:=by
 unfold freeAt at h;have h1:=List.find?_eq_none.1 h k (List.mem_range.2 hk);unfold leadsR at h1;simp only[Bool.not_eq_true',Bool.not_eq_false,List.any_eq_true,List.mem_range,Bool.and_eq_true,decide_eq_true_eq] at h1;obtain ⟨j,hj,hne,ha⟩:=h1;rw[List.getD_eq_getElem?_getD,List.getD_eq_getElem?_getD,gE hk,gE hj] at ha;exact⟨j,hj,hne,ha⟩
theorem mem_erase {l:List Pr}{k i:Nat}(hi:i<l.length)(h:i≠k):l[i]∈l.eraseIdx k:=by
 rw[List.mem_eraseIdx_iff_getElem];exact⟨i,hi,h,I⟩
theorem peel_keeps {adj:Pr→Pr→Bool}{R:List Pr}(hR:Ring adj R):∀ (n:Nat) {l:List Pr},(∀ x∈R,x∈l)→∀ x∈R,x∈peel adj n l
 | 0,_,h=>h
 | n+1,l,h=>by
  rw[peel_succ];cases hf:freeAt adj l with
  | none=>exact h
  | some k =>
   obtain ⟨hk,hno⟩:=freeAt_some hf;refine peel_keeps hR n fun x hx=>?_;obtain ⟨i,hi,rfl⟩:=List.getElem_of_mem (h x hx);refine mem_erase hi fun e=>?_;subst e;obtain ⟨y,hy,hne,ha⟩:=hR.2 _ hx;obtain ⟨j,hj,rfl⟩:=List.getElem_of_mem (h y hy);have:=hno j hj (fun e=>hne (by subst e; rfl));rw[this] at ha;exact absurd ha dC
theorem peel_free {adj:Pr→Pr→Bool}:∀ (n:Nat) {l:List Pr},l.length≤n→freeAt adj (peel adj n l)=none
 | 0,l,h=>by
  rw[List.eq_nil_of_length_eq_zero (by omega:l.length=0)];rfl
 | n+1,l,h=>by
  rw[peel_succ];cases hf:freeAt adj l with
  | none=>exact hf
  | some k =>
   obtain ⟨hk,-⟩:=freeAt_some hf;exact peel_free n (by rw[List.length_eraseIdx_of_lt hk]; omega)
theorem peel_sub {adj:Pr→Pr→Bool}:∀ (n:Nat) (l:List Pr),(peel adj n l).Sublist l
 | 0,l=>List.Sublist.refl l
 | n+1,l=>by
  rw[peel_succ];cases freeAt adj l with
  | none=>exact List.Sublist.refl l
  | some k=>exact (peel_sub n _).trans (List.eraseIdx_sublist _ _)
theorem ringR_iff {adj:Pr→Pr→Bool}{m:List Pr}(hm:m.Nodup):ringR adj m=true↔Cyc adj m:=by
 unfold ringR;rw[decide_eq_true_iff];constructor
 ·intro h;have hf:=peel_free (adj:=adj) m.length (lR _);have hs:=peel_sub (adj:=adj) m.length m;have hn:=hm.sublist hs;refine⟨_,⟨h,fun x hx=>?_⟩,fun x hx=>hs.subset hx⟩;obtain ⟨k,hk,rfl⟩:=List.getElem_of_mem hx;obtain ⟨j,hj,hne,ha⟩:=freeAt_none hf hk;exact⟨_,gM hj,fun e=>hne ((List.getElem_inj hn).1 e),ha⟩
 ·rintro ⟨R,hR,hsub⟩ e;obtain ⟨x,hx⟩:=List.exists_mem_of_ne_nil _ hR.1;have:=peel_keeps hR m.length hsub x hx;rw[e] at this;simp at this
inductive Pth (adj:Pr→Pr→Bool)(m:List Pr):Pr→Pr→Prop
 | one (x y:Pr) (hy:y∈m) (hne:y≠x) (ha:adj x y=true):Pth adj m x y
 | cons (x y z:Pr) (hy:y∈m) (hne:y≠x) (ha:adj x y=true) (h:Pth adj m y z):Pth adj m x z
theorem Pth.snoc {adj:Pr→Pr→Bool}{m:List Pr}{x y z:Pr}(h:Pth adj m x y)(hz:z∈m)(hne:z≠y)(ha:adj y z=true):Pth adj m x z:=by
 induction h with
 | one x y hy h1 h2=>exact .cons x y z hy h1 h2 (.one y z hz hne ha)
 | cons x y w hy h1 h2 _ ih=>exact .cons x y z hy h1 h2 (ih hne ha)
theorem cyc_iff {adj:Pr→Pr→Bool}{T:List Pr}{p:Pr}(hT:¬ Cyc adj T):Cyc adj (T++[p])↔Pth adj (T++[p]) p p:=by
 classical
 constructor
 ·rintro ⟨L,hL,hsub⟩;have hin:∀ R:List Pr,Ring adj R→(∀ x∈R,x∈T++[p])→p∈R:=fun R hR h=>Classical.byContradiction fun hp=>hT ⟨R,hR,fun x hx=>by
   rcases List.mem_append.1 (h x hx) with h1 | h1
   ·exact h1
   ·exact absurd (by simpa using h1:x=p) fun e=>hp (e ▸ hx)⟩
  have hp:=hin L hL hsub;have hR:Ring adj (L.filter fun y=>decide (Pth adj (T++[p]) p y)):=by
   refine⟨?_,fun x hx=>?_⟩
   ·obtain ⟨y,hy,hne,ha⟩:=hL.2 p hp;intro e;have:y∈L.filter fun y=>decide (Pth adj (T++[p]) p y):=List.mem_filter.2 ⟨hy,by simpa using Pth.one p y (hsub y hy) hne ha⟩;rw[e] at this;simp at this
   ·obtain ⟨h1,h2⟩:=List.mem_filter.1 hx;obtain ⟨y,hy,hne,ha⟩:=hL.2 x h1;exact⟨y,List.mem_filter.2 ⟨hy,by simpa using (of_decide_eq_true h2).snoc (hsub y hy) hne ha⟩,hne,ha⟩
  have:=hin _ hR fun x hx=>hsub x (List.mem_filter.1 hx).1;exact of_decide_eq_true (List.mem_filter.1 this).2
 ·intro h;refine⟨(T++[p]).filter fun y=>decide (Pth adj (T++[p]) p y∧Pth adj (T++[p]) y p),⟨fun e=>?_,fun x hx=>?_⟩,fun x hx=>(List.mem_filter.1 hx).1⟩
  ·have:p∈(T++[p]).filter fun y=>decide (Pth adj (T++[p]) p y∧Pth adj (T++[p]) y p):=List.mem_filter.2 ⟨by simp,by simpa using h⟩;rw[e] at this;simp at this
  ·obtain ⟨h1,h2⟩:=List.mem_filter.1 hx;obtain ⟨h3,h4⟩:=of_decide_eq_true h2;cases h4 with
   | one _ _ hy hne ha=>exact⟨p,List.mem_filter.2 ⟨by simp,by simpa using h⟩,hne,ha⟩
   | cons _ y _ hy hne ha h5=>exact⟨y,List.mem_filter.2 ⟨hy,by simpa using ⟨h3.snoc hy hne ha,h5⟩⟩,hne,ha⟩
def loopP (p:Pr)(H:Int→Option Int)(rc:Pr→List Int→Bool×List Int)(x:Pr):List Int→List Int→Bool×List Int
 | [],seen=>(false,seen)
 | low::r,seen =>
  if low=x.1 then loopP p H rc x r seen
  else if low=p.1 then (true,seen)
  else match H low with
   | none=>loopP p H rc x r seen
   | some nx=>if seen.contains nx then loopP p H rc x r seen else
    if (rc (low,nx) (seen++[nx])).1=true then (true,(rc (low,nx) (seen++[nx])).2) else loopP p H rc x r (rc (low,nx) (seen++[nx])).2
def reachP (p:Pr)(S:Int→List Int)(H:Int→Option Int):Nat→Pr→List Int→Bool×List Int
 | 0,_,seen=>(false,seen)
 | n+1,x,seen=>loopP p H (reachP p S H n) x (S x.2) seen
theorem reachP_succ (p:Pr)(S:Int→List Int)(H:Int→Option Int)(n:Nat)(x:Pr)(seen:List Int):reachP p S H (n+1) x seen=loopP p H (reachP p S H n) x (S x.2) seen:=rfl
def highT (T:List Pr)(low:Int):Option Int:=(T.find? fun q=>decide (q.1=low)).map Prod.snd
theorem highT_mem {T:List Pr}{low nx:Int}(h:highT T low=some nx):(low,nx)∈T:=by
 unfold highT at h;rw[Option.map_eq_some_iff] at h;obtain ⟨q,hq,rfl⟩:=h;have h1:=List.find?_some hq;have h2:=List.mem_of_find?_eq_some hq;simp only[decide_eq_true_eq] at h1;rw[← h1];exact h2
theorem highT_of {T:List Pr}(hT:(T.map Prod.fst).Nodup){y:Pr}(hy:y∈T):highT T y.1=some y.2:=by
 induction T with
 | nil=>simp at hy
 | cons a T ih =>
  rw[List.map_cons,List.nodup_cons] at hT;unfold highT;rw[List.find?_cons]
  rcases List.mem_cons.1 hy with rfl | hy
  ·simp
  ·have:a.1≠y.1:=fun e=>hT.1 (by rw[e]; exact List.mem_map.2 ⟨y,hy,rfl⟩);rw[decide_eq_false this];exact ih hT.2 hy
def adjS (S:Int→List Int)(x y:Pr):Bool:=(S x.2).contains y.1
section
variable {p:Pr}{S:Int→List Int}{T:List Pr}
theorem loopP_true {rc:Pr→List Int→Bool×List Int}{x:Pr}(hrc:∀ y s,(rc y s).1=true→Pth (adjS S) (T++[p]) y p):∀ (q:List Int) (seen:List Int),(∀ z∈q,z∈S x.2)→(loopP p (highT T) rc x q seen).1=true→Pth (adjS S) (T++[p]) x p
 | [],_,_,h=>by simp[loopP] at h
 | low::r,seen,hq,h=>by
  have hr:=loopP_true (x:=x) hrc r;have hin:low∈S x.2:=hq low (by simp);have hq':∀ z∈r,z∈S x.2:=fun z hz=>hq z (by simp[hz]);unfold loopP at h;split at h
  ·exact hr _ hq' h
  ·rename_i h1;split at h
   ·rename_i h2;exact .one x p (by simp) (fun e=>h1 (by rw[h2,e])) (by unfold adjS; rw[List.contains_iff_mem,← h2]; exact hin)
   ·cases hh:highT T low with
    | none=>rw[hh] at h; exact hr _ hq' h
    | some nx =>
     rw[hh] at h;dsimp only at h;split at h
     ·exact hr _ hq' h
     ·split at h
      ·rename_i h4;exact .cons x (low,nx) p (List.mem_append_left _ (highT_mem hh)) (fun e=>h1 (by rw[← e])) (by unfold adjS; rw[List.contains_iff_mem]; exact hin) (hrc _ _ h4)
      ·exact hr _ hq' h
theorem reachP_true:∀ (n:Nat) (x:Pr) (seen:List Int),(reachP p S (highT T) n x seen).1=true→Pth (adjS S) (T++[p]) x p
 | 0,_,_,h=>by simp[reachP] at h
 | n+1,x,seen,h=>loopP_true (fun y s hy=>reachP_true n y s hy) (S x.2) seen (fun _ hz=>hz) h
def Shut (p:Pr)(S:Int→List Int)(T:List Pr)(x:Pr)(s:List Int):Prop:=∀ low∈S x.2,low≠x.1→low≠p.1∧∀ nx,highT T low=some nx→nx∈s
theorem Shut.mono {x:Pr}{s s':List Int}(h:Shut p S T x s)(hs:∀ z∈s,z∈s'):Shut p S T x s':=fun low hl hne=>⟨(h low hl hne).1,fun nx hn=>hs _ ((h low hl hne).2 nx hn)⟩
def cntP (T:List Pr)(seen:List Int):Nat:=(T.filter fun q=>!seen.contains q.2).length
theorem cntP_mono {v v':List Int}(h:∀ x∈v,x∈v'):cntP T v'≤cntP T v:=by
 unfold cntP;rw[← List.countP_eq_length_filter,← List.countP_eq_length_filter];apply List.countP_mono_left;intro c _ hp;simp at hp ⊢;exact fun e=>hp (h _ e)
theorem cntP_lt:∀ {T:List Pr} {v:List Int} {q:Pr},q∈T→v.contains q.2=false→cntP T (v++[q.2])<cntP T v
 | [],_,_,hq,_=>by simp at hq
 | d::t,v,q,hq,hn=>by
  have hm:cntP t (v++[q.2])≤cntP t v:=cntP_mono (fun x hx=>by simp[hx]);have e1:∀ u:List Int,cntP (d::t) u=(if u.contains d.2 then 0 else 1)+cntP t u:=fun u=>by
   unfold cntP;rw[List.filter_cons];cases u.contains d.2 <;> simp <;> omega
  rw[e1,e1]
  rcases List.mem_cons.1 hq with rfl | hq'
  ·have:(v++[q.2]).contains q.2=true:=by simp
   rw[this,hn];simp;omega
  ·have:=cntP_lt hq' hn;cases h1:v.contains d.2
   ·cases h2:(v++[q.2]).contains d.2 <;> simp <;> omega
   ·have h2:(v++[q.2]).contains d.2=true:=by simp at h1 ⊢; exact .inl h1
    rw[h2];simp;exact this
def Done (p:Pr)(S:Int→List Int)(T:List Pr)(v s:List Int):Prop:=(∀ z∈v,z∈s)∧∀ low nx,highT T low=some nx→nx∈s→nx ∉ v→Shut p S T (low,nx) s
theorem loopP_false (hinj:∀ a b n,highT T a=some n→highT T b=some n→a=b){n:Nat}{rc:Pr→List Int→Bool×List Int}(hrc:∀ y v,cntP T v<n→(rc y v).1=false→Done p S T v (rc y v).2∧Shut p S T y (rc y v).2){x:Pr}:∀ (q v:List Int),cntP T v<n+1→(loopP p (highT T) rc x q v).1=false →
  Done p S T v (loopP p (highT T) rc x q v).2∧∀ low∈q,low≠x.1→low≠p.1∧∀ nx,highT T low=some nx→nx∈(loopP p (highT T) rc x q v).2
 | [],v,_,_=>⟨⟨fun z hz=>hz,fun _ _ _ h1 h2=>absurd h1 h2⟩,by simp⟩
 | low::r,v,hc,h=>by
  have ih:=loopP_false hinj hrc (x:=x) r;unfold loopP at h ⊢;split at h
  ·rename_i h1;rw[if_pos h1];obtain ⟨d1,d2⟩:=ih v hc h;exact⟨d1,fun z hz hne=>by
    rcases List.mem_cons.1 hz with rfl | hz
    ·exact absurd h1 hne
    ·exact d2 z hz hne⟩
  ·rename_i h1;rw[if_neg h1];split at h
   ·simp at h
   ·rename_i h2;rw[if_neg h2];cases hh:highT T low with
    | none =>
     rw[hh] at h;dsimp only at h ⊢;obtain ⟨d1,d2⟩:=ih v hc h;exact⟨d1,fun z hz hne=>by
      rcases List.mem_cons.1 hz with rfl | hz
      ·exact⟨h2,fun nx hn=>by rw[hh] at hn; cases hn⟩
      ·exact d2 z hz hne⟩
    | some nx =>
     rw[hh] at h;dsimp only at h ⊢;split at h
     ·rename_i h3;rw[if_pos h3];obtain ⟨d1,d2⟩:=ih v hc h;exact⟨d1,fun z hz hne=>by
       rcases List.mem_cons.1 hz with rfl | hz
       ·exact⟨h2,fun ny hn=>by
         rw[hh] at hn;injection hn with hn
         subst hn;exact d1.1 _ (List.contains_iff_mem.1 h3)⟩
       ·exact d2 z hz hne⟩
     ·rename_i h3;have h3':v.contains nx=false:=by simpa using h3
      rw[if_neg h3];split at h
      ·simp at h
      ·rename_i h4;rw[if_neg h4];have hlt:cntP T (v++[nx])<n:=by
        have:=cntP_lt (q:=(low,nx)) (highT_mem hh) h3';dsimp only at this;omega
       obtain ⟨e1,e2⟩:=hrc (low,nx) (v++[nx]) hlt (by simpa using h4);have hc2:cntP T (rc (low,nx) (v++[nx])).2<n+1:=by
        have:=cntP_mono (T:=T) e1.1;omega
       obtain ⟨d1,d2⟩:=ih _ hc2 h;refine⟨⟨fun z hz=>d1.1 z (e1.1 z (by simp[hz])),fun a b hab hb hnv=>?_⟩,fun z hz hne=>?_⟩
       ·by_cases h5:b∈(rc (low,nx) (v++[nx])).2
        ·by_cases h6:b∈v++[nx]
         ·rcases List.mem_append.1 h6 with h7 | h7
          ·exact absurd h7 hnv
          ·have h7:b=nx:=by simpa using h7
           subst h7;rw[hinj a low b hab hh];exact e2.mono d1.1
         ·exact (e1.2 a b hab h5 h6).mono d1.1
        ·exact d1.2 a b hab hb h5
       ·rcases List.mem_cons.1 hz with rfl | hz
        ·exact⟨h2,fun ny hn=>by
          rw[hh] at hn;injection hn with hn
          subst hn;exact d1.1 _ (e1.1 _ (by simp))⟩
        ·exact d2 z hz hne
theorem reachP_false (hinj:∀ a b n,highT T a=some n→highT T b=some n→a=b):∀ (n:Nat) (x:Pr) (v:List Int),cntP T v<n→(reachP p S (highT T) n x v).1=false→Done p S T v (reachP p S (highT T) n x v).2∧Shut p S T x (reachP p S (highT T) n x v).2
 | 0,_,_,hc,_=>absurd hc oM
 | n+1,x,v,hc,h=>loopP_false hinj (fun y w hw hy=>reachP_false hinj n y w hw hy) (S x.2) v hc h
theorem reach_ring {n:Nat}(hT:¬ Cyc (adjS S) T)(h1:((T++[p]).map Prod.fst).Nodup)(h2:(T.map Prod.snd).Nodup)(hn:T.length<n):(reachP p S (highT T) n p []).1=ringR (adjS S) (T++[p]):=by
 have hnd:(T++[p]).Nodup:=(List.pairwise_map.1 h1).imp fun h e=>h (by rw[e]);have hTf:(T.map Prod.fst).Nodup:=by
  rw[List.map_append] at h1;exact (List.nodup_append.1 h1).1
 have hp:∀ y∈T,y.1≠p.1:=fun y hy e=>by
  rw[List.map_append,List.nodup_append] at h1;exact h1.2.2 _ (List.mem_map.2 ⟨y,hy,I⟩) p.1 (by simp) e
 have hinj:∀ a b n,highT T a=some n→highT T b=some n→a=b:=fun a b k ha hb=>by
  have m1:=highT_mem ha;have m2:=highT_mem hb;obtain ⟨i,hi,e1⟩:=List.getElem_of_mem m1;obtain ⟨j,hj,e2⟩:=List.getElem_of_mem m2;have:(T.map Prod.snd)[i]'(by simpa using hi)=(T.map Prod.snd)[j]'(by simpa using hj):=by simp[e1,e2]
  have:=(List.getElem_inj h2).1 this;subst this;rw[e1] at e2;exact congrArg Prod.fst e2
 rw[Bool.eq_iff_iff,ringR_iff hnd,cyc_iff hT];refine⟨fun h=>reachP_true n p [] h,fun h=>?_⟩;refine Classical.byContradiction fun hf=>?_;have hf:(reachP p S (highT T) n p []).1=false:=by simpa using hf
 have hc:cntP T []<n:=by
  have:cntP T []≤T.length:=List.length_filter_le _ _;omega
 obtain ⟨d1,d2⟩:=reachP_false hinj n p [] hc hf;generalize (reachP p S (highT T) n p []).2=s at *;have key:∀ x z,Pth (adjS S) (T++[p]) x z→z=p→(x=p∨(x∈T∧x.2∈s))→False:=by
  intro x z hxz;have stepx:∀ x y:Pr,(x=p∨(x∈T∧x.2∈s))→y∈T++[p]→y≠x→adjS S x y=true→y≠p∧y∈T∧y.2∈s:=by
   intro x y hx hy hne ha;have hsh:Shut p S T x s:=by
    rcases hx with rfl | ⟨hx,hs⟩
    ·exact d2
    ·exact d1.2 x.1 x.2 (highT_of hTf hx) hs (by simp)
   have hl:y.1≠x.1:=fun e=>hne (by
    rcases List.mem_append.1 hy with hy1 | hy1
    ·rcases hx with rfl | ⟨hx,-⟩
     ·exact absurd e (hp y hy1)
     ·have a1:=highT_of hTf hx;have a2:=highT_of hTf hy1;rw[e,a1] at a2;injection a2 with a2
      exact Prod.ext e a2.symm
    ·have hy2:y=p:=by simpa using hy1
     subst hy2
     rcases hx with rfl | ⟨hx,-⟩
     ·rfl
     ·exact absurd e.symm (hp x hx))
   obtain ⟨g1,g2⟩:=hsh y.1 (List.contains_iff_mem.1 ha) hl;have hyp:y≠p:=fun e=>g1 (by rw[e])
   rcases List.mem_append.1 hy with hy | hy
   ·exact⟨hyp,hy,g2 y.2 (highT_of hTf hy)⟩
   ·exact absurd (by simpa using hy) hyp
  induction hxz with
  | one x y hy hne ha=>exact fun e hx=>(stepx x y hx hy hne ha).1 e
  | cons x y w hy hne ha _ ih =>
   intro e hx;obtain ⟨a1,a2,a3⟩:=stepx x y hx hy hne ha;exact ih e (.inr ⟨a2,a3⟩)
 exact key p p h I (.inl I)
end
def sidC (l:List Cl)(h:Int):List Int:=((findC l h).getD zeroC).sides.map Side.cell
def sgnP (l:List Cl)(low high:Int):Int:=(((findC l high).getD zeroC).sides.find? fun s=>decide (s.cell=low)).elim 0 Side.sign
def usedR (m:List Pr)(id:Int):Bool:=(m.any fun q=>decide (q.1=id))||(m.any fun q=>decide (q.2=id))
def pairBad (l:List Cl)(m:List Pr)(k:Nat):Bool:=usedR (m.take k) (m.getD k (0,0)).1||usedR (m.take k) (m.getD k (0,0)).2||decide (sgnP l (m.getD k (0,0)).1 (m.getD k (0,0)).2=0)
def adjR (l:List Cl)(x y:Pr):Bool:=decide (sgnP l y.1 x.2≠0)
def mcheckR (l:List Cl)(m:List Pr):Int:=if (checkC l).2≠0 then (checkC l).2 else if (List.range m.length).any (pairBad l m) then 42 else if ringR (adjR l) m then 43 else 0
def takeR (l:List Cl)(T:List Pr)(p:Pr):List Pr:=if mcheckR l (T++[p])=0 then T++[p] else T
def keepR (l:List Cl)(m:List Pr):List Pr:=m.foldl (takeR l) []
def pairsR (l:List Cl):List Pr:=(tabC l).flatMap fun c=>(aboveC l c.id).map fun h=>(c.id,h)
def extendR (l:List Cl)(m:List Pr):List Pr:=if (checkC l).2=0 then (pairsR l).foldl (takeR l) (keepR l m) else []
def takeP (r:Bool)(S:Int→List Int)(T:List Pr)(p:Pr):List Pr:=if r && !usedR T p.1 && !usedR T p.2&&(S p.2).contains p.1 && !(reachP p S (highT T) (T.length+1) p []).1 then T++[p] else T
def keepP (r:Bool)(S:Int→List Int)(m:List Pr):List Pr:=m.foldl (takeP r S) []
def pairsP (l:List Cl):List Pr:=(canonC l).flatMap fun c=>(aboveC l c.id).map fun h=>(c.id,h)
def extendP (r:Bool)(S:Int→List Int)(l:List Cl)(m:List Pr):List Pr:=(pairsP l).foldl (takeP r S) (keepP r S m)
structure Vd (l:List Cl)(T:List Pr):Prop where
 once:(T.map Prod.fst++T.map Prod.snd).Nodup
 side:∀ q∈T,q.1∈sidC l q.2
 free:¬ Cyc (adjS (sidC l)) T
theorem Vd.nil (l:List Cl):Vd l []:=⟨by simp,by simp,fun ⟨L,hL,hs⟩=>by
 obtain ⟨x,hx⟩:=List.exists_mem_of_ne_nil _ hL.1;exact absurd (hs x hx) (by simp)⟩
theorem used_iff {T:List Pr}{id:Int}:usedR T id=true↔id∈T.map Prod.fst++T.map Prod.snd:=by
 unfold usedR;simp only[Bool.or_eq_true,List.any_eq_true,decide_eq_true_eq,List.mem_append,List.mem_map]
section
variable {l:List Cl}(hl:(checkC l).2=0)
include hl
theorem rt_sides {h:Int}{s:Side}(hs:s∈((findC l h).getD zeroC).sides):∃ c,findC l h=some c∧c∈canonC l∧c.id=h∧(s.sign=1∨s.sign = -1)∧∃ d,findC l s.cell=some d∧d.dim=c.dim - 1:=by
 have hr:=rt_of hl;have ht:tabC l=canonC l:=tabC_strict hr.asc;cases hc:findC l h with
 | none=>rw[hc] at hs; simp[zeroC] at hs
 | some c =>
  rw[hc] at hs;have hs:s∈c.sides:=hs;have h1:findT (tabC l) h=some c:=hc;rw[ht] at h1;obtain ⟨h2,h3⟩:=findT_mem h1;obtain ⟨d,hd,hdd⟩:=(hr.form c h2).found s hs;refine⟨c,I,h2,h3,(hr.form c h2).sg s hs,d,?_,hdd⟩;show findT (tabC l) s.cell=some d;rw[ht];exact hd
theorem sgn_side (low high:Int):sgnP l low high≠0↔low∈sidC l high:=by
 unfold sgnP sidC;cases hf:((findC l high).getD zeroC).sides.find? fun s=>decide (s.cell=low) with
 | none =>
  refine⟨fun h=>absurd I h,fun h=>?_⟩;obtain ⟨s,hs,rfl⟩:=List.mem_map.1 h;have:=List.find?_eq_none.1 hf s hs;simp at this
 | some s =>
  have h1:=List.mem_of_find?_eq_some hf;have h2:s.cell=low:=by simpa using List.find?_some hf
  obtain ⟨_,_,_,_,hsg,_⟩:=rt_sides hl h1;refine⟨fun _=>List.mem_map.2 ⟨s,h1,h2⟩,fun _=>?_⟩;show s.sign≠0
  rcases hsg with e | e <;> rw[e] <;> decide
theorem adjR_eq:adjR l=adjS (sidC l):=by
 funext x y;unfold adjR adjS;rw[Bool.eq_iff_iff,decide_eq_true_iff,List.contains_iff_mem];exact sgn_side hl _ _
theorem side_ne {low high:Int}(h:low∈sidC l high):low≠high:=by
 rintro rfl;obtain ⟨s,hs,e⟩:=List.mem_map.1 h;obtain ⟨c,hc,-,-,-,d,hd,hdd⟩:=rt_sides hl hs;rw[e,hc] at hd;injection hd with hd
 subst hd;omega
theorem Vd.bad {T:List Pr}(hT:Vd l T)(p:Pr){k:Nat}(hk:k<T.length):pairBad l (T++[p]) k=false:=by
 have hg:(T++[p]).getD k (0,0)=T[k]:=by rw[List.getD_eq_getElem?_getD,List.getElem?_append_left hk,gE hk]; rfl
 have htk:(T++[p]).take k=T.take k:=List.take_append_of_le_length oM;have hm:=gM hk;have hs:=hT.side _ hm;have hno:∀ id,(id=T[k].1∨id=T[k].2)→usedR (T.take k) id=false:=fun id hid=>by
  rw[Bool.eq_false_iff];intro hu;rw[used_iff,List.mem_append,List.mem_map,List.mem_map] at hu;have hnd:=List.nodup_append.1 hT.once;have key:∀ q∈T.take k,∃ j,∃ hj:j<T.length,j<k∧q=T[j]:=fun q hq=>by
   obtain ⟨j,hj,e⟩:=List.getElem_of_mem hq;rw[List.length_take] at hj;exact⟨j,oM,oM,by rw[← e,List.getElem_take]⟩
  rcases hu with ⟨q,hq,e⟩ | ⟨q,hq,e⟩
  ·obtain ⟨j,hj,hjk,rfl⟩:=key q hq
   rcases hid with rfl | rfl
   ·have:=(List.getElem_inj (xs:=T.map Prod.fst) (i:=j) (j:=k) (h₀:=by simpa using hj) (h₁:=by simpa using hk) hnd.1).1 (by simpa using e);omega
   ·exact hnd.2.2 _ (List.mem_map.2 ⟨T[j],gM hj,I⟩) _ (List.mem_map.2 ⟨T[k],hm,I⟩) e
  ·obtain ⟨j,hj,hjk,rfl⟩:=key q hq
   rcases hid with rfl | rfl
   ·exact hnd.2.2 _ (List.mem_map.2 ⟨T[k],hm,I⟩) _ (List.mem_map.2 ⟨T[j],gM hj,I⟩) e.symm
   ·have:=(List.getElem_inj (xs:=T.map Prod.snd) (i:=j) (j:=k) (h₀:=by simpa using hj) (h₁:=by simpa using hk) hnd.2.1).1 (by simpa using e);omega
 unfold pairBad;rw[hg,htk,hno _ (.inl rfl),hno _ (.inr rfl),Bool.false_or,Bool.false_or,decide_eq_false_iff_not];exact (sgn_side hl _ _).2 hs
theorem mcheck_snoc {T:List Pr}(hT:Vd l T)(p:Pr):mcheckR l (T++[p])=if usedR T p.1||usedR T p.2 || !(sidC l p.2).contains p.1 then 42 else if ringR (adjS (sidC l)) (T++[p]) then 43 else 0:=by
 have h1:(List.range (T++[p]).length).any (pairBad l (T++[p]))=(usedR T p.1||usedR T p.2 || !(sidC l p.2).contains p.1):=by
  have hg:(T++[p]).getD T.length (0,0)=p:=by rw[List.getD_eq_getElem?_getD]; simp
  have htk:(T++[p]).take T.length=T:=by simp
  have hlast:pairBad l (T++[p]) T.length=(usedR T p.1||usedR T p.2 || !(sidC l p.2).contains p.1):=by
   unfold pairBad;rw[hg,htk];congr 1;rw[Bool.eq_iff_iff,decide_eq_true_iff,Bool.not_eq_true',← Bool.not_eq_true,List.contains_iff_mem,← sgn_side hl];exact Decidable.not_not.symm
  have hbefore:(List.range T.length).any (pairBad l (T++[p]))=false:=List.any_eq_false.2 fun k hk=>by
   rw[hT.bad hl p (List.mem_range.1 hk)];decide
  rw[List.length_append,List.length_singleton,List.range_succ,List.any_append,hbefore,Bool.false_or];simp[hlast]
 unfold mcheckR;rw[if_neg (by rw[hl]; decide),h1,adjR_eq hl]
theorem Vd.snoc {T:List Pr}(hT:Vd l T){p:Pr}(h1:usedR T p.1=false)(h2:usedR T p.2=false)(h3:p.1∈sidC l p.2)(h4:ringR (adjS (sidC l)) (T++[p])=false):Vd l (T++[p]):=by
 have hne:=side_ne hl h3;have u1:p.1 ∉ T.map Prod.fst++T.map Prod.snd:=fun h=>by rw[used_iff.2 h] at h1; cases h1
 have u2:p.2 ∉ T.map Prod.fst++T.map Prod.snd:=fun h=>by rw[used_iff.2 h] at h2; cases h2
 rw[List.mem_append] at u1 u2;have hnd:=List.nodup_append.1 hT.once;have honce:((T++[p]).map Prod.fst++(T++[p]).map Prod.snd).Nodup:=by
  rw[List.map_append,List.map_append,List.map_singleton,List.map_singleton,List.nodup_append];refine⟨?_,?_,?_⟩
  ·rw[List.nodup_append];exact⟨hnd.1,by simp,fun a ha b hb=>by
    have hb:b=p.1:=by simpa using hb
    subst hb;exact fun e=>u1 (.inl (e ▸ ha))⟩
  ·rw[List.nodup_append];exact⟨hnd.2.1,by simp,fun a ha b hb=>by
    have hb:b=p.2:=by simpa using hb
    subst hb;exact fun e=>u2 (.inr (e ▸ ha))⟩
  ·intro a ha b hb
   rcases List.mem_append.1 ha with ha | ha
   ·rcases List.mem_append.1 hb with hb | hb
    ·exact hnd.2.2 a ha b hb
    ·have hb:b=p.2:=by simpa using hb
     subst hb;exact fun e=>u2 (.inl (e ▸ ha))
   ·have ha:a=p.1:=by simpa using ha
    subst ha
    rcases List.mem_append.1 hb with hb | hb
    ·exact fun e=>u1 (.inr (e ▸ hb))
    ·have hb:b=p.2:=by simpa using hb
     subst hb;exact hne
 refine⟨honce,fun q hq=>?_,fun h=>?_⟩
 ·rcases List.mem_append.1 hq with hq | hq
  ·exact hT.side q hq
  ·have hq:q=p:=by simpa using hq
   subst hq;exact h3
 ·have hnd2:(T++[p]).Nodup:=(List.pairwise_map.1 (List.nodup_append.1 honce).1).imp fun h e=>h (by rw[e]);rw[(ringR_iff hnd2).2 h] at h4;cases h4
theorem take_eq {T:List Pr}(hT:Vd l T)(p:Pr):takeR l T p=takeP true (sidC l) T p∧Vd l (takeR l T p):=by
 unfold takeR takeP;rw[mcheck_snoc hl hT p];by_cases hb:(usedR T p.1||usedR T p.2 || !(sidC l p.2).contains p.1)=true
 ·rw[if_pos hb,if_neg dC];refine⟨?_,hT⟩;have:(true && !usedR T p.1 && !usedR T p.2&&(sidC l p.2).contains p.1)=false:=by
   revert hb
   cases usedR T p.1 <;> cases usedR T p.2 <;> cases (sidC l p.2).contains p.1 <;> simp
  rw[this];rfl
 ·have hb':(usedR T p.1||usedR T p.2 || !(sidC l p.2).contains p.1)=false:=by simpa using hb
  rw[Bool.or_eq_false_iff,Bool.or_eq_false_iff] at hb';obtain ⟨⟨h1,h2⟩,h3⟩:=hb';have h3:(sidC l p.2).contains p.1=true:=by simpa using h3
  have hp:=List.contains_iff_mem.1 h3;have hne:=side_ne hl hp;rw[if_neg hb];have u1:p.1 ∉ T.map Prod.fst++T.map Prod.snd:=fun h=>by rw[used_iff.2 h] at h1; cases h1
  have hnd:=List.nodup_append.1 hT.once;have hreach:=reach_ring (p:=p) (n:=T.length+1) hT.free (by
   rw[List.map_append,List.map_singleton,List.nodup_append];exact⟨hnd.1,by simp,fun a ha b hb=>by
    have hb:b=p.1:=by simpa using hb
    subst hb;exact fun e=>u1 (List.mem_append.2 (.inl (e ▸ ha)))⟩) hnd.2.1 (Nat.lt_succ_self _)
  rw[hreach,h1,h2,h3];cases hr:ringR (adjS (sidC l)) (T++[p]) with
  | true=>exact⟨rfl,hT⟩
  | false=>exact⟨rfl,hT.snoc hl h1 h2 hp hr⟩
theorem fold_take:∀ (m:List Pr) {T:List Pr},Vd l T→m.foldl (takeR l) T=m.foldl (takeP true (sidC l)) T∧Vd l (m.foldl (takeR l) T)
 | [],_,h=>⟨rfl,h⟩
 | p::m,T,h=>by
  obtain ⟨h1,h2⟩:=take_eq hl h p;obtain ⟨h3,h4⟩:=fold_take m h2;rw[List.foldl_cons,List.foldl_cons,← h1];exact⟨h3,h4⟩
theorem pairs_eq:pairsP l=pairsR l:=by
 unfold pairsP pairsR;rw[tabC_strict (rt_of hl).asc]
end
theorem takeR_wrong {l:List Cl}(h:(checkC l).2≠0)(T:List Pr)(p:Pr):takeR l T p=T:=by
 unfold takeR mcheckR;rw[if_pos h,if_neg h]
theorem keepR_wrong {l:List Cl}(h:(checkC l).2≠0)(m T:List Pr):m.foldl (takeR l) T=T:=by
 induction m generalizing T with
 | nil=>rfl
 | cons p m ih=>rw[List.foldl_cons,takeR_wrong h,ih]
theorem keepP_wrong (S:Int→List Int)(m T:List Pr):m.foldl (takeP false S) T=T:=by
 induction m generalizing T with
 | nil=>rfl
 | cons p m ih=>rw[List.foldl_cons]; exact ih T
theorem keep_eq (l:List Cl)(m:List Pr):keepP (decide ((checkC l).2=0)) (sidC l) m=keepR l m:=by
 unfold keepP keepR;by_cases h:(checkC l).2=0
 ·rw[decide_eq_true h];exact (fold_take h m (Vd.nil l)).1.symm
 ·rw[decide_eq_false h,keepP_wrong,keepR_wrong h]
theorem extend_eq (l:List Cl)(m:List Pr):extendP (decide ((checkC l).2=0)) (sidC l) l m=extendR l m:=by
 unfold extendP extendR;by_cases h:(checkC l).2=0
 ·have hk:=keep_eq l m;rw[decide_eq_true h] at hk ⊢;rw[hk,if_pos h,pairs_eq h];exact (fold_take h _ (fold_take h m (Vd.nil l)).2).1.symm
 ·unfold keepP;rw[decide_eq_false h,keepP_wrong,keepP_wrong,if_neg h]
theorem ins_mono {α β:Type}{ka:α→Int}{kb:β→Int}{f:α→β}(h:∀ a b,kb (f a)≤kb (f b)↔ka a≤ka b)(x:α):∀ l:List α,ins kb (f x) (l.map f)=(ins ka x l).map f
 | []=>rfl
 | y::r=>by
  simp only[List.map_cons,ins,h];split
  ·rfl
  ·rw[ins_mono h x r]; rfl
theorem sortBy_mono {α β:Type}{ka:α→Int}{kb:β→Int}{f:α→β}(h:∀ a b,kb (f a)≤kb (f b)↔ka a≤ka b):∀ l:List α,sortBy kb (l.map f)=(sortBy ka l).map f
 | []=>rfl
 | x::r=>by
  simp only[List.map_cons,sortBy];rw[sortBy_mono h r,ins_mono h]
theorem canonC_norm (l:List Cl):canonC (l.map normC)=canonC l:=by
 unfold canonC;rw[sortBy_mono (ka:=Cl.id) (kb:=Cl.id) (f:=normC) (fun _ _=>Iff.rfl),List.map_map];exact List.map_congr_left fun c _=>normC_idem c
theorem canon_of_perm {l F:List Cl}(hF:Rt F)(hp:(l.map normC).Perm F):canonC l=F:=by
 rw[← canonC_norm];exact perm_canon hF hp
theorem canonC_perm0 (l:List Cl):(l.map normC).Perm (canonC l):=((sortBy_perm (key:=Cl.id) l).map normC).symm
def shS (m:Int)(s:Side):Side:=⟨s.cell+m,s.sign⟩
def shC (m:Int)(c:Cl):Cl:=⟨c.id+m,c.dim,c.sides.map (shS m)⟩
theorem normC_sh (m:Int)(c:Cl):normC (shC m c)=shC m (normC c):=by
 unfold normC shC;dsimp only;rw[sortBy_mono (ka:=Side.cell) (kb:=Side.cell) (f:=shS m) (fun a b=>by unfold shS; dsimp only; omega)]
theorem find_sh (m:Int)(k:Int):∀ B:List Cl,findT (B.map (shC m)) (k+m)=(findT B k).map (shC m)
 | []=>rfl
 | c::B=>by
  have ih:=find_sh m k B;unfold findT at ih ⊢;rw[List.map_cons,List.find?_cons,List.find?_cons,ih];by_cases e:c.id=k
  ·have e2:(shC m c).id=k+m:=by unfold shC; dsimp only; omega
   rw[decide_eq_true e,decide_eq_true e2]; rfl
  ·have e2:¬ (shC m c).id=k+m:=by unfold shC; dsimp only; omega
   rw[decide_eq_false e,decide_eq_false e2]
theorem sides_sh (m:Int)(B:List Cl)(x:Side):sidesOf (B.map (shC m)) (shS m x)=(sidesOf B x).map (shS m):=by
 unfold sidesOf;rw[show (shS m x).cell=x.cell+m from rfl,find_sh];cases findT B x.cell <;> rfl
theorem around_sh (m:Int)(B:List Cl)(c:Cl):aroundC (B.map (shC m)) (shC m c)=aroundC B c:=by
 rw[aroundC_L,aroundC_L];have h:lookL (B.map (shC m)) (shC m c)=renL (fun k=>k+m) (lookL B c):=by
  unfold lookL renL;rw[show (shC m c).sides=c.sides.map (shS m) from rfl,List.map_map,List.map_map];refine List.map_congr_left fun x _=>?_;show (x.sign,sidesOf (B.map (shC m)) (shS m x))=(x.sign,(sidesOf B x).map (renS fun k=>k+m));rw[sides_sh];rfl
 rw[h];exact aroundL_ren fun a _ b _ e=>by omega
theorem rt_shift {B:List Cl}(h:Rt B){m:Int}(hm:0≤m):Rt (B.map (shC m)):=by
 refine⟨by rw[List.length_map]; exact h.few,?_,fun x hx=>?_,fun x hx=>?_,fun x hx hd=>?_⟩
 ·rw[List.pairwise_map];exact h.asc.imp fun h=>by unfold shC; dsimp only; omega
 ·obtain ⟨c,hc,rfl⟩:=List.mem_map.1 hx;have:=h.pos c hc;unfold shC;dsimp only;omega
 ·obtain ⟨c,hc,rfl⟩:=List.mem_map.1 hx;have hf:=h.form c hc;refine⟨hf.dim,?_,fun x hx=>?_,?_,fun x hx=>?_,fun h1=>?_⟩
  ·have:=hf.cnt;unfold cntBad at this ⊢;unfold shC;simpa using this
  ·obtain ⟨s,hs,rfl⟩:=List.mem_map.1 hx;obtain ⟨d,hd,hdd⟩:=hf.found s hs;refine⟨shC m d,?_,hdd⟩;show findT (B.map (shC m)) (s.cell+m)=_;rw[find_sh,hd];rfl
  ·show (c.sides.map (shS m)).Pairwise _;rw[List.pairwise_map];exact hf.asc.imp fun h=>by unfold shS; dsimp only; omega
  ·obtain ⟨s,hs,rfl⟩:=List.mem_map.1 hx;exact hf.sg s hs
  ·have:=hf.one h1;unfold sumS at this ⊢;show ((c.sides.map (shS m)).map Side.sign).sum=0;rw[List.map_map];exact this
 ·obtain ⟨c,hc,rfl⟩:=List.mem_map.1 hx;rw[around_sh];exact h.around c hc hd
theorem find_append (A B:List Cl)(k:Int):findT (A++B) k=(findT A k).or (findT B k):=by
 unfold findT;exact List.find?_append
theorem around_look {A B:List Cl}{c:Cl}(h:∀ x∈c.sides,sidesOf A x=sidesOf B x):aroundC A c=aroundC B c:=by
 rw[aroundC_L,aroundC_L];unfold lookL;rw[List.map_congr_left fun x hx=>by rw[h x hx]]
theorem rt_append {A B:List Cl}(hA:Rt A)(hB:Rt B)(hlt:∀ a∈A,∀ b∈B,a.id<b.id)(hf:A.length+B.length≤4000):Rt (A++B):=by
 have fa:∀ k d,findT A k=some d→findT (A++B) k=some d:=fun k d hd=>by rw[find_append,hd]; rfl
 have fb:∀ k d,findT B k=some d→findT (A++B) k=some d:=fun k d hd=>by
  rw[find_append];cases ha:findT A k with
  | none=>exact hd
  | some a =>
   obtain ⟨h1,h2⟩:=findT_mem ha;obtain ⟨h3,h4⟩:=findT_mem hd;have:=hlt a h1 d h3;omega
 have form:∀ C:List Cl,Rt C→(∀ k d,findT C k=some d→findT (A++B) k=some d)→∀ x∈C,Fm (A++B) x∧(x.dim>1→aroundC (A++B) x=0):=fun C hC hfd x hx=>by
  have hfm:=hC.form x hx;refine⟨⟨hfm.dim,hfm.cnt,fun s hs=>?_,hfm.asc,hfm.sg,hfm.one⟩,fun hd=>?_⟩
  ·obtain ⟨d,hd,hdd⟩:=hfm.found s hs;exact⟨d,hfd _ _ hd,hdd⟩
  ·rw[← hC.around x hx hd];refine around_look fun s hs=>?_;obtain ⟨d,hd,-⟩:=hfm.found s hs;unfold sidesOf;rw[hd,hfd _ _ hd]
 refine⟨by rw[List.length_append]; exact hf,List.pairwise_append.2 ⟨hA.asc,hB.asc,hlt⟩,fun x hx=>?_,fun x hx=>?_,fun x hx=>?_⟩
 ·rcases List.mem_append.1 hx with h | h
  ·exact hA.pos x h
  ·exact hB.pos x h
 ·rcases List.mem_append.1 hx with h | h
  ·exact (form A hA fa x h).1
  ·exact (form B hB fb x h).1
 ·rcases List.mem_append.1 hx with h | h
  ·exact (form A hA fa x h).2
  ·exact (form B hB fb x h).2
def besideC (m:Int)(a b:List Cl):List Cl:=a++b.map (shC m)
theorem beside_right {m:Int}{a b:List Cl}(ha:Rt (canonC a))(hb:Rt (canonC b))(hm:0≤m)(hmx:∀ c∈a,c.id≤m)(hf:a.length+b.length≤4000):Rt (canonC (besideC m a b)):=by
 have hF:Rt (canonC a++(canonC b).map (shC m)):=by
  refine rt_append ha (rt_shift hb hm) (fun x hx y hy=>?_) (by rw[List.length_map,canonC_length,canonC_length]; exact hf);obtain ⟨d,hd,rfl⟩:=List.mem_map.1 hy;have h1:=hb.pos d hd;obtain ⟨e,he,rfl⟩:=List.mem_map.1 ((canonC_perm0 a).mem_iff.2 hx);have h2:=hmx e he;show e.id<d.id+m;omega
 rw[canon_of_perm hF ?_]
 ·exact hF
 ·unfold besideC;rw[List.map_append,List.map_map,show normC ∘ shC m=shC m ∘ normC from funext fun c=>normC_sh m c,← List.map_map];exact (canonC_perm0 a).append ((canonC_perm0 b).map _)
theorem tops_not {l:List Cl}{t:Int}(h:t∈topsC l):∀ c∈tabC l,∀ x∈c.sides,x.cell≠t:=fun c hc x hx e=>by
 unfold topsC at h;obtain ⟨d,hd,rfl⟩:=List.mem_map.1 h;have:=(List.mem_filter.1 hd).2;rw[Bool.not_eq_true',← Bool.not_eq_true] at this;refine this ?_;unfold sideOf;rw[List.any_eq_true];refine⟨c,hc,?_⟩;unfold hasC;rw[List.any_eq_true];exact⟨x,hx,by simpa using e⟩
theorem gone_right {l:List Cl}(hr:Rt (canonC l)){t:Int}(h:t∈topsC l):Rt (canonC (l.filter fun c=>decide (c.id≠t))):=by
 have ht:tabC l=canonC l:=tabC_strict hr.asc;have hp:ClosedP (canonC l) fun k=>decide (k≠t):=fun c hc _ x hx=>by
  have:=tops_not h c (by rw[ht]; exact hc) x hx;simpa using this
 have hF:=part_right hr hp;rw[canon_of_perm hF ?_]
 ·exact hF
 ·unfold part;have h1:(l.filter fun c=>decide (c.id≠t)).map normC=(l.map normC).filter fun c=>decide (c.id≠t):=by
   rw[List.filter_map];rfl
  rw[h1];exact (canonC_perm0 l).filter _
theorem max_dim:∀ {A:List Cl},A≠[]→∃ c∈A,∀ d∈A,d.dim≤c.dim
 | [],h=>absurd rfl h
 | [a],_=>⟨a,by simp,fun d hd=>by simp at hd; subst hd; omega⟩
 | a::b::r,_=>by
  obtain ⟨c,hc,hm⟩:=max_dim (A:=b::r) (by simp);by_cases h:a.dim≤c.dim
  ·exact⟨c,List.mem_cons_of_mem _ hc,fun d hd=>by
    rcases List.mem_cons.1 hd with rfl | hd
    ·exact h
    ·exact hm d hd⟩
  ·exact⟨a,by simp,fun d hd=>by
    rcases List.mem_cons.1 hd with rfl | hd
    ·omega
    ·have:=hm d hd; omega⟩
theorem tops_some {l:List Cl}(hr:Rt (canonC l))(h:l≠[]):topsC l≠[]:=by
 have ht:tabC l=canonC l:=tabC_strict hr.asc;have hne:canonC l≠[]:=fun e=>h (List.eq_nil_of_length_eq_zero (by rw[← canonC_length,e]; rfl));obtain ⟨c,hc,hm⟩:=max_dim hne;intro e;have hin:c.id∈topsC l:=by
  unfold topsC;rw[ht];refine List.mem_map.2 ⟨c,List.mem_filter.2 ⟨hc,?_⟩,I⟩;rw[Bool.not_eq_true',← Bool.not_eq_true];intro hs;unfold sideOf at hs;obtain ⟨d,hd,hx⟩:=List.any_eq_true.1 hs;unfold hasC at hx;obtain ⟨x,hx,e⟩:=List.any_eq_true.1 hx;have e:x.cell=c.id:=by simpa using e
  obtain ⟨f,hf,hfd⟩:=(hr.form d hd).found x hx;rw[e,hr.find hc] at hf;injection hf with hf
  subst hf;have:=hm d hd;omega
 rw[e] at hin;simp at hin
def sideB (s:Int):Side:=if s<0 then ⟨-s,-1⟩ else ⟨s,1⟩
def cellB (id dim:Int)(r:List Int):Cl:=⟨id,dim,r.map sideB⟩
def rowsC:Int→List (List Int)→List Cl
 | _,[]=>[]
 | n,r::t=>cellB n (r.headD 0) r.tail::rowsC (n+1) t
def sphRow (n:Int):List Int:=if n % 2=0 then [n,2 * n - 1,-(2 * n)] else [n,-(2 * n - 1),2 * n]
def sphL:Nat→List (List Int)
 | 0=>[[0],[0]]
 | n+1=>sphL n++[sphRow (n+1),sphRow (n+1)]
def mooreA (n:Nat):List (List Int):=(List.range (3 * n)).map fun k:Nat=>[1,-1,((2+k % 3:Nat):Int)]
def mooreB (n:Nat):List (List Int):=(List.range (3 * n)).map fun k:Nat=>[2,((8+k:Nat):Int),((5+k % 3:Nat):Int),-((8+(k+1) % (3 * n):Nat):Int)]
def mooreL (n:Nat):List (List Int):=[[0],[0],[0],[0],[1,-2,3],[1,-3,4],[1,-4,2]]++mooreA n++mooreB n
def spcL:Nat→List (List Int)
 | 0=>[[0]]
 | 1=>sphL 1
 | 2=>sphL 2
 | 3=>sphL 3
 | 4=>sphL 0
 | 5=>[[0],[0],[0],[1,-1,2],[1,-1,2],[1,-2,3],[1,-2,3],[1,-1,3],[1,-1,3],[2,4,6,-8],[2,4,7,-9],[2,5,6,-9],[2,5,7,-8]]
 | 6=>mooreL 3
 | 7=>[[0],[0],[0],[0],[1,-1,2],[1,-1,2],[1,-3,4],[1,-3,4],[1,-1,3],[1,-2,4],[1,-3,1],[1,-4,2],[2,5,10,-7,-9],[2,6,10,-8,-9],[2,7,12,-6,-11],[2,8,12,-5,-11]]
 | 8=>[[0],[0],[0],[0],[1,-1,2],[1,-1,2],[1,-3,4],[1,-3,4],[1,-1,3],[1,-2,4],[1,-3,1],[1,-4,2],[2,5,10,-7,-9],[2,6,10,-8,-9],[2,7,12,-5,-11],[2,8,12,-6,-11]]
 | _=>mooreL 4
def spaceC (n:Nat):List Cl:=rowsC 1 (spcL n)
theorem space_check:∀ n,n<10→(checkC (spaceC n)).2=0∧(spaceC n).length≤31∧∀ c∈spaceC n,0<c.id∧c.id≤31∧c.sides.length≤4:=by decide +kernel
theorem space_right {n:Nat}(h:n<10):Rt (canonC (spaceC n)):=rt_of (space_check n h).1
def goneStep (c:List Cl)(q:Nat):List Cl:=c.filter fun x=>decide (x.id≠(topsC c).getD (q % (topsC c).length) 0)
def goneTo (G:List Nat)(c:List Cl):Nat→List Cl
 | 0=>c
 | k+1=>if (goneTo G c k).length>1 then goneStep (goneTo G c k) (G.getD k 0) else goneTo G c k
def maxId (c:List Cl):Int:=c.foldl (fun m x=>max m x.id) 0
def bitsL (n:Int):List Int:=(((List.range 6).filter fun v:Nat=>decide (n / 2 ^ v % 2=1)).take 4).map fun v:Nat=>(v:Int)
def simL (L:List Int):List Cl:=simpC ((L.take 5).map bitsL)
def firstC (sp:Nat)(L:List Int):List Cl:=if sp % 26≥10 then simL L else spaceC (sp % 10)
def complexC (sp:Nat)(L:List Int)(G:List Nat)(bs:Nat):List Cl :=
 if bs % 4=3∧(goneTo G (firstC sp L) (min 6 G.length)).length<26 then besideC (maxId (goneTo G (firstC sp L) (min 6 G.length))) (goneTo G (firstC sp L) (min 6 G.length)) (spaceC (bs / 4 % 5)) else goneTo G (firstC sp L) (min 6 G.length)
structure Gd8 (l:List Cl):Prop where
 right:Rt (canonC l)
 ids:∀ c∈l,0<c.id∧c.id≤4000
theorem Gd8.few {l:List Cl}(h:Gd8 l):l.length≤4000:=by
 have:=h.right.few;rwa [canonC_length] at this
theorem first_good (sp:Nat)(L:List Int):Gd8 (firstC sp L):=by
 unfold firstC;split
 ·unfold simL;obtain ⟨h1,h2⟩:=rt_simp ((L.take 5).map bitsL);have hc:Rt (canonC (simpC ((L.take 5).map bitsL))):=by rw[h1.canon]; exact h1
  exact⟨hc,fun c hc=>⟨h1.pos c hc,by have:=h2 c hc; have:=h1.few; omega⟩⟩
 ·have:=space_check (sp % 10) (Nat.mod_lt _ dC);exact⟨space_right (Nat.mod_lt _ dC),fun c hc=>by have:=this.2.2 c hc; omega⟩
theorem gone_good {c:List Cl}(h:Gd8 c)(hl:c.length>1)(q:Nat):Gd8 (goneStep c q):=by
 have hne:c≠[]:=fun e=>by subst e; simp at hl
 have ht:=tops_some h.right hne;have hlt:q % (topsC c).length<(topsC c).length:=Nat.mod_lt _ (List.length_pos_iff.2 ht);have hm:(topsC c).getD (q % (topsC c).length) 0∈topsC c:=by
  rw[List.getD_eq_getElem?_getD,gE hlt];exact gM hlt
 exact⟨gone_right h.right hm,fun d hd=>h.ids d (List.mem_filter.1 hd).1⟩
theorem goneTo_good {c:List Cl}(h:Gd8 c)(G:List Nat):∀ k,Gd8 (goneTo G c k)
 | 0=>h
 | k+1=>by
  have ih:=goneTo_good h G k;rw[goneTo];split
  ·rename_i hl;exact gone_good ih hl _
  ·exact ih
theorem goneTo_stop {c:List Cl}{G:List Nat}{k:Nat}(h:¬ (goneTo G c k).length>1):∀ {n:Nat},k≤n→goneTo G c n=goneTo G c k
 | 0,hn=>by rw[show k=0 by omega]
 | n+1,hn=>by
  by_cases e:k=n+1
  ·rw[e]
  ·have ih:=goneTo_stop h (n:=n) oM;rw[goneTo,ih,if_neg h]
theorem maxId_ge (c:List Cl):∀ m:Int,m≤c.foldl (fun m x=>max m x.id) m∧∀ x∈c,x.id≤c.foldl (fun m x=>max m x.id) m:=by
 induction c with
 | nil=>exact fun m=>⟨Int.le_refl _,by simp⟩
 | cons a c ih =>
  intro m;obtain ⟨h1,h2⟩:=ih (max m a.id);rw[List.foldl_cons];refine⟨oM,fun x hx=>?_⟩
  rcases List.mem_cons.1 hx with rfl | hx
  ·omega
  ·exact h2 x hx
theorem maxId_le {c:List Cl}{K:Int}(h:∀ x∈c,x.id≤K):∀ m:Int,m≤K→c.foldl (fun m x=>max m x.id) m≤K:=by
 induction c with
 | nil=>exact fun m hm=>hm
 | cons a c ih =>
  intro m hm;rw[List.foldl_cons];exact ih (fun x hx=>h x (by simp[hx])) _ (by have:=h a (by simp); omega)
theorem complex_good (sp:Nat)(L:List Int)(G:List Nat)(bs:Nat):Rt (canonC (complexC sp L G bs))∧∀ c∈complexC sp L G bs,0<c.id∧c.id≤8000:=by
 have h:=goneTo_good (first_good sp L) G (min 6 G.length);unfold complexC;generalize goneTo G (firstC sp L) (min 6 G.length)=c at *;split
 ·rename_i hl;have hs:=space_check (bs / 4 % 5) oM;have hm:=maxId_ge c 0;have hM:=maxId_le (K:=4000) (fun x hx=>(h.ids x hx).2) 0 dC;refine⟨beside_right h.right (space_right oM) hm.1 hm.2 oM,fun x hx=>?_⟩;unfold besideC at hx
  rcases List.mem_append.1 hx with hx | hx
  ·have:=h.ids x hx; omega
  ·obtain ⟨d,hd,rfl⟩:=List.mem_map.1 hx;have:=hs.2.2 d hd;have h1:=hm.1;unfold maxId shC;dsimp only;omega
 ·exact⟨h.right,fun x hx=>by have:=h.ids x hx; omega⟩
def encPr:Enc Pr 2:=⟨fun p=>[vi p.1,vi p.2],fun _=>rfl,fun _ u hu=>by simp at hu; rcases hu with rfl | rfl <;> rfl,by decide⟩
theorem SU.indexAddrC {P:Program}{N:Nat}{f:Fr}{dst:Option Tmp}{ty:TypeId}{pos:String}{af:Array Edge}{gd:Option (Nat×Bool)}{x y:Operand}{T e:TypeId}{k n o:Nat}{i:Int}{v:Value}(hT:P.underlying T=some (.array n e))(hs:∀ w,(sizeOf e).run P w = .ok k w)
  (hx:ev f x=some (cptr v o)) (hb:based v=true) (hy:ev f y=some (vi i)) (h0:0≤i) (h1:i<n) :
  SU P N ⟨dst,.indexAddr T x y,ty,pos,af,gd⟩ f (cptr v (o+i.toNat * k)):=by
 cases v <;> simp[based] at hb
 rename_i p m c;cases p <;> simp at hb
 simp only[cptr] at hx ⊢;have:=iB (P:=P) (N:=N) (dst:=dst) (ty:=ty) (pos:=pos) (af:=af) (gd:=gd) hT hs hx hy h0 h1;rwa [Nat.add_assoc] at this
theorem Tryz.sty31:STy Tryz.prog 31 44 2 16 (.agg #[vi 0,vi 0]):=⟨underlying31,⟨t44,by kernel_rfl,by kernel_rfl,by kernel_rfl,by kernel_rfl⟩,rfl,by decide⟩
def at2 (p:Pr)(k:Nat):Int:=if k=0 then p.1 else p.2
def posP (m:List Pr)(k:Nat)(id:Int):Int:=if m.any (fun q=>decide (at2 q k=id)) then (m.findIdx fun q=>decide (at2 q k=id):Nat) else -1
theorem pairPos_spec (E:World)(g:PH)(s:Own)(v:Value)(m:List Pr)(k:Nat)(id:Int)(hv:SlA encPr g v m)(hl:m.length<1099511627776)(hk:k<2) :
  Ctr Tryz.prog E 134 #[v,vi k,vi id] g s (fun r g' s'=>(∃ n:Int,r=vi n∧decide (n≥0)=m.any (fun q=>decide (at2 q k=id)))∧g=g'∧s=s'):=by
 obtain ⟨p,c,rfl⟩:=SlA.form hv;refine Ctr.of (args:=[.slice p m.length c,vi k,vi id]) func134 I ntmps134 (bE I) ?_;refine SC.sR (lA I (SL.nT (sQ (SC.sR (lA I (SL.nT (bK ?_)))))));refine oP (ι:=Nat) (fun i=>[(0,.slice p m.length c),(1,vi k),(2,vi id),(7,vi i)]) (fun _=>g) (fun _=>s) (fun i=>i≤m.length∧(m.take i).any (fun q=>decide (at2 q k=id))=false) (fun i=>m.length - i) 0 sB I I ⟨Nat.zero_le _,by simp⟩ ?_;rintro i ⟨hi,hno⟩;refine sQ (SC.sR (lM I (lM I (lU (eN uT31 I) (lU (lS I I) (SL.nT ?_))))));refine iP I (fun hlt=>?_) (fun hlt=>?_)
 ·have hil:i<m.length:=oM;have hb1:=SlA.based hv oM;have hgx:m[((i:Nat):Int).toNat]?=some m[i]:=gE hil;have hu:(encPr.enc m[i])[((k:Nat):Int).toNat * 1]?=some (vi (at2 m[i] k)):=by
   rcases (by omega:k=0∨k=1) with rfl | rfl <;> rfl
  have hmi:=gM hil;refine kP (tN (sQ (bK (SC.sR (lM I (lM I (lM I (lU (iA uT31 zT44 I I hb1 oM sL) (lU (SU.indexAddrC uT44 zT3 I hb1 I oM oM) (lK (pA (e:=encPr) (u:=vi (at2 m[i] k)) iT3 I (SlA.rd hv) hgx hu) (lM I (lU (eQ I I) (SL.nT ?_)))))))))))));refine iP I (fun he=>?_) (fun he=>?_)
  ·refine SC.sR (lM I (lA I (SL.nT (rE (bR (tR (tR (bR (tR ?_)))))))));have hany:m.any (fun q=>decide (at2 q k=id))=true:=List.any_eq_true.2 ⟨m[i],hmi,by simpa using he⟩;exact ST.ret1 (.inl I) results134 I ⟨⟨i,I,by rw[hany]; simp⟩,I,I⟩
  ·refine kP (bN (tN (rG (lM I (lU (aD I I oM) (lA I (nL ?_)))))));exact ST.again (i+1) sB I I ⟨oM,by rw[tS hil,List.any_append,hno]; simpa using he⟩ oM
 ·refine xI (tX (tX (bX (tN (SC.sR (lA I (SL.nT (rE ?_))))))));have hkk:m.take i=m:=tL oM;rw[hkk] at hno;exact ST.ret1 (.inl rfl) results134 rfl ⟨⟨-1,rfl,by rw[hno]; rfl⟩,rfl,rfl⟩
theorem paired_spec (E:World)(g:PH)(s:Own)(v:Value)(m:List Pr)(id:Int)(hv:SlA encPr g v m)(hl:m.length<1099511627776) :
  Ctr Tryz.prog E 100 #[v,vi id] g s (fun r g' s'=>r=vb (usedR m id)∧g=g'∧s=s'):=by
 have hu:usedR m id=((m.any fun q=>decide (at2 q 0=id))||(m.any fun q=>decide (at2 q 1=id))):=rfl;rw[hu]
 rcases Bool.eq_false_or_eq_true (m.any fun q=>decide (at2 q 0=id)) with h1 | h1
 ·rw[h1];refine Ctr.of (args:=[v,vi id]) func100 I ntmps100 (bE I) ?_;refine SC.sR (lA I (SL.nT (SC.sR (lM I (lM I (lW (SO.call call134 I (pairPos_spec E g _ v m 0 id hv hl dC)) ?_))))));rintro _ _ _ ⟨⟨n,rfl,hn⟩,rfl,rfl⟩;refine lU (SU.eq (v':=vb true) (gQ I I) (congrArg vb (hn.trans h1))) (lM I (lZ I I I (lZ I I I (lZ I I I (lZ I I I (lU (pT I I) (lA I (SL.nT (rE ?_)))))))));exact ST.ret1 (.inl I) results100 I ⟨I,I,I⟩
 ·rw[h1];refine Ctr.of (args:=[v,vi id]) func100 I ntmps100 (bE I) ?_;refine SC.sR (lA I (SL.nT (SC.sR (lM I (lM I (lW (SO.call call134 I (pairPos_spec E g _ v m 0 id hv hl dC)) ?_))))));rintro _ _ _ ⟨⟨n,rfl,hn⟩,rfl,rfl⟩;refine lU (SU.eq (v':=vb false) (gQ I I) (congrArg vb (hn.trans h1))) (lM I (lY I I I (mV I) (lY I I I (mV I) (SL.go (gT I I I dC) (SO.call call134 I (pairPos_spec E g _ v m 1 id hv hl dC)) dC ?_))));rintro _ _ _ ⟨⟨n2,rfl,hn2⟩,rfl,rfl⟩;refine lY I I I (SU.eq (v':=vb (m.any fun q=>decide (at2 q 1=id))) (gQ I I) (congrArg vb hn2)) ?_;refine lU (pF I I) (lA I (SL.nT (rE ?_)));exact ST.ret1 (.inl I) results100 I ⟨I,I,I⟩
theorem find_at {α:Type}{p:α→Bool}{l:List α}{i:Nat}(hi:i<l.length)(h0:(l.take i).any p=false)(h1:p l[i]=true):l.find? p=some l[i]:=by
 have e:l=l.take i++l[i]::l.drop (i+1):=by rw[List.getElem_cons_drop,List.take_append_drop]
 have h2:(l.take i).find? p=none:=List.find?_eq_none.2 fun x hx=>by
  have:=List.any_eq_false.1 h0 x hx;simpa using this
 generalize l[i]=a at *;rw[e,List.find?_append,h2,List.find?_cons,h1];rfl
theorem find_none {α:Type}{p:α→Bool}{l:List α}(h0:l.any p=false):l.find? p=none:=List.find?_eq_none.2 fun x hx=>by
 have:=List.any_eq_false.1 h0 x hx;simpa using this
theorem sgn13_spec (E:World)(g:PH)(s:Own)(v:Value)(l:List Cl)(low high:Int)(hv:Cells g v l)(hf:Fits l) :
  Ctr Tryz.prog E 101 #[.agg #[v],vi low,vi high] g s (fun r g' s'=>r=vi (sgnP l low high)∧s=s'∧Le g g'):=by
 have hft:=tabC_fits hf;have hsl:((findC l high).getD zeroC).sides.length<1099511627776:=by
  cases hc:findC l high with
  | none=>simp[zeroC]
  | some c=>exact hft.2 c (List.mem_of_find?_eq_some hc)
 have hok:((findC l high).getD zeroC).sides.length>0→(findC l high).isSome=true:=fun h=>by
  cases hc:findC l high with
  | none=>rw[hc] at h; simp[zeroC] at h
  | some c=>rfl
 refine Ctr.of (args:=[.agg #[v],vi low,vi high]) func101 I ntmps101 (bE I) ?_;refine SC.sR (SL.bx (bO I) fun b3=>?_);refine lA I (SL.nT (SC.sR (lK (qV 0 iT29 zT29 I I I) (lM I (lW (SO.call call68 I (refFind_spec E g _ v l high hv hf)) ?_)))));rintro _ g1 _ ⟨rfl,hle,x,rfl,hx⟩;obtain ⟨xi,xd,xp,xn,xc⟩:=x;have hx3:=hx.2.2;dsimp only at hx3;have hxn:xn=((findC l high).getD zeroC).sides.length:=Sl.slen hx3;subst hxn;clear hx;refine lM I (lU (xT I I) (lU (xT I I) (SL.bx (aL zeroValue54) fun b7=>?_)));refine SL.O2 (sK 0 zT54 I I I I I sB) ?_;refine lA I (SL.nT (sQ (SC.sR (lA I (SL.nT (bK ?_))))));have hsg:sgnP l low high=(((findC l high).getD zeroC).sides.find? fun s=>decide (s.cell=low)).elim 0 Side.sign:=rfl;rw[hsg];generalize ((findC l high).getD zeroC).sides=S at *;generalize (findC l high).isSome=ok at *;refine oP (ι:=Nat) (fun i=>[(1,vi low),(7,pp b7 0),(8,vb ok),(9,vi i)]) (fun _=>g1) (fun _=>pt b7 (.cells #[vi xi,vi xd,.slice xp S.length xc] 54 (0,0))::pt b3 (.cells #[v] 29 (0,0))::s) (fun i=>i≤S.length∧(S.take i).any (fun q=>decide (q.cell=low))=false) (fun i=>S.length - i) 0 sB I I ⟨Nat.zero_le _,by simp⟩ ?_;rintro i ⟨hi,hno⟩;have f1:(i:Int)<(S.length:Int)→ok=true:=fun h=>hok oM;refine sQ ?_;refine SC.cutB 23 (decide ((i:Int)<(S.length:Int))) ?_ ?_
 ·refine rG (lM I (lU (fA uT54 I zT37 I) (lK (qL (v:=.slice xp S.length xc) iT37 I (cO 0 I I)) (lU (eN uT37 I) (lU (lS I I) (lM I ?_))))));refine sP ?_ ?_
  ·intro h21;refine lY I I I (mV I) (lU (pT I I) (nL ?_));exact ST.mid1 (by (have h5:=f1 (by assumption); subst h5; simp_all[get?]; done)) mI
  ·intro h21;refine lZ I I I (lU (pF I I) (nL ?_));exact ST.mid1 (by (simp_all[get?]; done)) mI
 refine iP I (fun hlt=>?_) (fun hlt=>?_)
 ·have hil:i<S.length:=oM;have hb1:=SlA.based hx3 oM;have hgx:S[((i:Nat):Int).toNat]?=some S[i]:=gE hil;refine kP (tN (sQ (bK (SC.sR (lU (fA uT54 I zT37 I) (lK (qL (v:=.slice xp S.length xc) iT37 I (cO 0 I I)) (lM I (lU (iA uT37 zT56 I I hb1 oM sL) (lU (fC uT56 I zT3 I hb1) (lK (pA (e:=encSide) (o:=0) (u:=vi S[i].cell) iT3 I (SlA.rd hx3) hgx I) (lM I (lU (eQ I I) (SL.nT ?_)))))))))))));refine iP I (fun he=>?_) (fun he=>?_)
  ·refine SC.sR (lU (fA uT54 I zT37 I) (lK (qL (v:=.slice xp S.length xc) iT37 I (cO 0 I I)) (lM I (lU (iA uT37 zT56 I I hb1 oM sL) (lU (fC uT56 I zT3 I hb1) (lK (pA (e:=encSide) (o:=1) (u:=vi S[i].sign) iT3 I (SlA.rd hx3) hgx I) (lA I (SL.nT (rE (bR (tR (tR (bR (tR (dR (s':=s) (.cons _ (.cons _ (.refl _))) ?_)))))))))))))));exact ST.ret1 (.inl rfl) results101 rfl ⟨by rw[find_at hil hno (by simpa using he)]; rfl,rfl,hle⟩
  ·refine kP (bN (tN (rG (lM I (lU (aD I I oM) (lA I (nL ?_)))))));exact ST.again (i+1) sB I I ⟨oM,by rw[tS hil,List.any_append,hno]; simpa using he⟩ oM
 ·refine xI (tX (tX (bX (tN (SC.sR (lA I (SL.nT (rE ?_))))))));have hkk:S.take i=S:=tL oM;rw[hkk] at hno;refine dR (s':=s) (.cons _ (.cons _ (.refl _))) ?_;exact ST.ret1 (.inl rfl) results101 rfl ⟨by rw[find_none hno]; rfl,rfl,hle⟩
end Go.Proofs.YteahknngoogpaaaGreatDoor
