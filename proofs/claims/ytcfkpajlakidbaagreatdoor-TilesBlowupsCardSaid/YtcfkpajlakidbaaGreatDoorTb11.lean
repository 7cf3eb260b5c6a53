/- 11 -/
import Derived.Test.YtcfkpajlakidbaaGreatDoorTb10
import Derived.Test.YtcfkpajlakidbaaGreatDoorTb04
import Derived.Test.YtcfkpajlakidbaaGreatDoorTb09
import Derived.Test.YtcfkpajlakidbaaGreatDoorTb07
import Derived.Test.YtcfkpajlakidbaaGreatDoorTb06
import Derived.Test.YtcfkpajlakidbaaGreatDoorTb08
import Derived.Test.YtcfkpajlakidbaaGreatDoorTb05
import Derived.Test.YtcfkpajlakidbaaGreatDoorTb02
import Derived.Test.YtcfkpajlakidbaaGreatDoorTb03
import Derived.ChangeKeysEq
import Derived.Scope
import Derived.Shelf.SlSortCmp.NoneTotal
import Derived.Below
set_option linter.unusedSimpArgs false
set_option linter.unusedVariables false
namespace Go.Proofs.YtcfkpajlakidbaaGreatDoor
open _root_.Go.Proofs.Tryz _root_.Go.Proofs.YtcfkpajlakidbaaGreatDoor.Tryz
open Go Go.Sy Go.Pl Go.Proofs Go.Shelf
set_option maxRecDepth 100000
set_option maxHeartbeats 1000000
def vf:Ren :=
 {
  f:=fun x =>
   match x with
   | 161=>134
   | 231=>159
   | 227=>160
   | 233=>161
   | 235=>162
   | 228=>193
   | 197=>194
   | 151=>195
   | 260=>209
   | 152=>210
   | 137=>223
   | 119=>224
   | 224=>225
   | 225=>226
   | 217=>228
   | 266=>229
   | n=>n,
  t:=fun x =>
   match x with
   | 9=>9
   | 4=>4
   | 3=>3
   | 5=>5
   | 117=>210
   | 116=>209
   | 0=>0
   | 124=>213
   | 105=>236
   | 21=>21
   | 119=>264
   | 46=>132
   | 139=>267
   | 138=>266
   | n=>n,
  g:=fun x =>
   match x with
   | 3=>0
   | 4=>1
   | n=>n }
theorem Tryz.lays161:Lays.n161 Tryz.prog vf :=
  {
  mixed:=Eq.refl true,f119:=zb6 func224 (zd9 some kR),
  f137:=zb6 func223 (zd9 some kR),
  f151:=zb6 func195 (zd9 some kR),
  f152:=zb6 func210 (zd9 some kR),
  f161:=zb6 func134 (zd9 some kR),
  f197:=zb6 func194 (zd9 some kR),
  f217:=zb6 func228 (zd9 some kR),
  f224:=zb6 func225 (zd9 some kR),
  f225:=zb6 func226 (zd9 some kR),
  f227:=zb6 func160 (zd9 some kR),
  f228:=zb6 func193 (zd9 some kR),
  f231:=zb6 func159 (zd9 some kR),
  f233:=zb6 func161 (zd9 some kR),
  f235:=zb6 func162 (zd9 some kR),
  f260:=zb6 func209 (zd9 some kR),
  f266:=zb6 func229 (zd9 some kR),t0:=underlying0,
  a0:=isAgg0,z0:=sizeOf0,v0:=zeroValue0,t3:=uT3,a3:=iT3,
  z3:=zT3,v3:=zk6,t4:=underlying4,a4:=isAgg4,z4:=sizeOf4,
  v4:=zeroValue4,t5:=uT5,a5:=isAgg5,z5:=sizeOf5,v5:=zeroValue5,
  t9:=underlying9,a9:=isAgg9,z9:=sizeOf9,v9:=zeroValue9,t21:=underlying21,
  a21:=isAgg21,z21:=sizeOf21,v21:=zeroValue21,t46:=iZ,a46:=isAgg132,
  z46:=sizeOf132,v46:=zeroValue132,t105:=underlying236,a105:=isAgg236,
  z105:=sizeOf236,v105:=zeroValue236,t116:=underlying209,a116:=isAgg209,
  z116:=sizeOf209,t117:=underlying210,a117:=isAgg210,z117:=sizeOf210,
  v117:=zeroValue210,t119:=underlying264,a119:=isAgg264,z119:=sizeOf264,
  t124:=underlying213,a124:=isAgg213,z124:=sizeOf213,v124:=zeroValue213,
  t138:=underlying266,a138:=isAgg266,z138:=sizeOf266,v138:=zeroValue266,
  t139:=underlying267,a139:=isAgg267,z139:=sizeOf267,v139:=zeroValue267,
  g3:=kR,g4:=kR }
def vn (l:List UInt8):List UInt8:=l.dropWhile (· == 0)
theorem rh (E:World)(g:PH)(s:Own)(l:List UInt8) :
  Ctr Tryz.prog E 134 #[txt l,txt [0]] g s (fun r g' s'=>r=txt (vn l)∧g=g'∧s=s'):=by
 intro w hw;refine (Any.strings_TrimLeft_one lays161 ⟨l.toArray⟩ 0 dC w).mono ?_;rintro e w' ⟨rfl,rfl⟩;exact⟨_,g,s,I,hw,I,I,I⟩
def by4 (x:Int):List Int:=[IntKind.u8.wrap (x.fdiv (2 ^ min (24:Int).toNat IntKind.u64.bits)),IntKind.u8.wrap (x.fdiv (2 ^ min (16:Int).toNat IntKind.u64.bits)),IntKind.u8.wrap (x.fdiv (2 ^ min (8:Int).toNat IntKind.u64.bits)),IntKind.u8.wrap x]
def byP (x:Nat×Int):List Int:=by4 x.2
theorem xQ (l:List (Nat×Int)):(l.flatMap byP).length=4 * l.length:=by
 induction l with
 | nil=>rfl
 | cons a t ih=>simp only[zh3,ze3,ih,ze6,byP,by4,zc2]; omega
theorem vO (l:List Int):(ed l).length≤l.length:=by
 unfold ed;rw[List.length_reverse];have:=(List.dropWhile_sublist (l:=l.reverse) (· == 0)).length_le;simpa using this
def mH (l:List Int):List UInt8:=vn (byt ((rN (ed l)).flatMap byP))
def CO (neg:Bool)(bs:List UInt8):Value:=.agg #[vb (neg&&decide (bs≠[])),txt bs]
theorem Tryz.build84 (a:Bool)(l:List UInt8)(w:World):(Instr.build 84 #[(0,vb a),(1,txt l)]).run Tryz.prog w = .ok (.agg #[vb a,txt l]) w:=by
 have h1:(vb a).cells = #[vb a]:=rfl;have h2:(txt l).cells = #[txt l]:=rfl;simp[Instr.build,Instr.fill,h1,h2];rfl
theorem tE (E:World)(g:PH)(s:Own)(v:Value)(l:List Int)(neg:Bool)(hv:SlA DR g v l)(hl:l.length<1099511627776) :
  Ctr Tryz.prog E 90 #[v,vb neg] g s (fun r g' s'=>r=CO neg (mH l)∧s=s'∧Le g g'):=by
 have htl:=vO l;refine Ctr.ofX (args:=[v,vb neg]) func90 I ntmps90 (bE I) ?_;refine XC.seq ?_;refine XC.region ?_;refine XL.o (aL zeroValue84) dC ?_;rintro _ _ _ ⟨b4,rfl,rfl,rfl⟩;refine XL.nil ?_;refine XT.thenN ?_;refine XC.seq ?_;refine XC.region ?_;refine XL.u (mV I) dC ?_;refine XL.o (cL call132 I (z2 E g _ v l hv hl)) dC ?_;rintro v10 _ _ ⟨rfl,rfl,hm⟩;obtain ⟨q,d,rfl⟩:=za2 hm;refine XL.u (aS I) dC ?_;refine XL.nil ?_;refine XT.thenN ?_;refine XC.seq ?_;refine XC.region ?_;refine XL.u (mV I) dC ?_;refine XL.u (eN qQ I) dC ?_;refine XL.u (SU.eq (v':=vi ((4 * (ed l).length:Nat))) (SU.mul I I oM) (zd9 vi oM)) dC ?_;refine XL.o (SO.makeC qX sty183 I I oM oM) dC ?_;rintro v14 _ _ ⟨rfl,rfl⟩;refine XL.facts fun ⟨w0,hw0⟩=>?_;obtain ⟨p14,c14,rfl⟩:=ag (i:=0) hw0 rfl;clear hw0 w0;refine XL.o (aL zeroValue183) dC ?_;rintro _ _ _ ⟨b5,rfl,rfl,rfl⟩;refine XL.on (sK 0 sizeOf183 I I I I I sB) ?_;rintro _ _ _ ⟨rfl,rfl⟩;refine XL.nil ?_;refine XT.thenN ?_;refine XC.seq ?_;refine XC.seq ?_;refine XC.region ?_;refine XL.u (mV I) dC ?_;refine XL.o (cL call133 I (rF E _ _ _ I)) dC ?_;rintro _ g1 _ ⟨rfl,hle,bb,rfl,hbb⟩;refine XL.nil ?_;refine XT.thenN ?_;refine XC.block ?_;refine XC.to (g':=g1) (s':=rowA qX 5 (.slice p14 0 c14) []::pt b5 (.cells #[.slice p14 0 c14] 183 (0,0))::pt b4 (.cells #[vb false,txt []] 84 (0,0))::s) (fun w hw=>hw.perm (zj5 _ _ _)) ?_;refine XC.rangeFunc (α:=Nat×Int) (ι:=Value×List Int) (encs:=fun x=>[vi x.1,.int .u64 x.2]) (xs:=rN (ed l)) (g0:=g1) (fun _=>g1) (fun i=>rowA qX 5 i.1 i.2::pt b5 (.cells #[i.1] 183 (0,0))::pt b4 (.cells #[vb false,txt []] 84 (0,0))::[]) (fun pre i=>i.2=pre.flatMap byP) (.slice p14 0 c14,[]) s
  (fun x=>[(18,.int .u64 x.2),(17,vi x.1),(5,pp b5 0)]) (fun _ x _=>[(7,.int .u64 x.2),(5,pp b5 0)]) rfl rfl call158 (fun _=>rfl) rfl rfl (o6 E g1 bb _ _ hbb (za3 hm hle) oM) (fun _ _ _=>zb7 _) rfl
  (fun x a h=>Dm (h.sub (g:=[(5,pp b5 0)]) ⟨rfl,trivial⟩) dC dC) ?_ ?_ ?_
 ·intro k pre x i sx hJ;refine XC.region ?_;refine XL.u (aS I) dC ?_;refine XL.nil ?_;exact XT.assignEnd sB
 ·rintro k pre ⟨xi,x⟩ suf ⟨bv,bs⟩ sx hxs hJ;dsimp only at hJ ⊢;have hpl:pre.length<(ed l).length:=by
   have:=zd9 List.length hxs;rw[n8,ze3,ze6] at this;omega
  have hbl:bs.length=4 * pre.length:=by rw[hJ,xQ]
  refine XC.facts fun ⟨w0,hw0⟩=>?_;obtain ⟨q2,d2,rfl⟩:=ag (i:=0) hw0 rfl;clear hw0 w0;refine XC.block ?_;refine XC.region ?_;refine XL.q (qL (v:=.slice q2 bs.length d2) isAgg183 I (cO 1 I I)) dC ?_;refine XL.u (mV I) dC ?_;refine XL.u (SU.shr I I dC) dC ?_;refine XL.u (zd7 ng uT5 I) dC ?_;refine XL.u (mV I) dC ?_;refine XL.u (SU.shr I I dC) dC ?_;refine XL.u (zd7 ng uT5 I) dC ?_;refine XL.u (mV I) dC ?_;refine XL.u (SU.shr I I dC) dC ?_;refine XL.u (zd7 ng uT5 I) dC ?_;refine XL.u (mV I) dC ?_;refine XL.u (zd7 ng uT5 I) dC ?_;refine XL.o (bS sty183 I I I (ab sB) dC) dC ?_;rintro _ _ _ ⟨b31,rfl,rfl,rfl⟩;refine XL.to (fun w hw=>At.litRow (e:=qX) (l:=by4 x) (n:=3) hw I I dC) ?_;refine XL.o (SO.appendE (m:=4) 1 (bs++by4 x).length ((bs++by4 x).flatMap qX.enc) sty183 I I I I I (zb5 0 I) (qX.length (by4 x)) (qX.ones _) (by simp[by4]) (by simp) (by simp[by4]; omega) (by simp[by4]; omega)) dC ?_;rintro v32 _ _ ⟨rfl,rfl⟩;refine XL.facts fun ⟨w0,hw0⟩=>?_;obtain ⟨q3,d3,rfl⟩:=ag (e:=qX) (l:=bs++by4 x) (i:=1) hw0 rfl;clear hw0 w0;refine XL.on (sK 2 sizeOf183 I I I I I sB) ?_;rintro _ _ _ ⟨rfl,rfl⟩;refine XL.nil ?_;refine XT.blockN ?_;refine XT.drop (zi7 _ _) ?_;exact XT.roundEnd (.slice q3 (bs++by4 x).length d3,bs++by4 x) I I (by dsimp only; rw[List.flatMap_append,hJ]; simp[byP])
 ·rintro D ⟨bv,bs⟩ hJ;dsimp only at hJ ⊢;refine XT.facts fun ⟨w0,hw0⟩=>?_;obtain ⟨q2,d2,rfl⟩:=ag (i:=1) hw0 rfl;clear hw0 w0;refine XT.blockN ?_;refine XT.thenN ?_;refine XC.seq ?_;refine XC.region ?_;refine XL.q (qL (v:=.slice q2 bs.length d2) isAgg183 I (cO 2 I I)) dC ?_;refine XL.q (SQ.bytesText underlying183 uT5 underlying9 I (zb5 1 I)) dC ?_;refine XL.o (cL call134 I (rh E g1 _ (byt bs))) dC ?_;rintro _ _ _ ⟨rfl,rfl,rfl⟩;refine XL.u (aS I) dC ?_;refine XL.nil ?_;refine XT.thenN ?_;have hbs:vn (byt bs)=mH l:=by unfold mH; rw[hJ]
  rw[hbs];generalize mH l=T at *;cases neg
  ·refine XC.seq ?_;refine XC.region ?_;refine XL.u (mV I) dC ?_;refine XL.u (mV I) dC ?_;refine XL.off (gZ I I I dC) dC ?_;refine XL.off (gZ I I I dC) dC ?_;refine XL.u (wF I I) dC ?_;refine XL.u (mV I) dC ?_;refine XL.u (za1 I (build84 _ _)) dC ?_;refine XL.on (sK 3 rK I I I I I sB) ?_;rintro _ _ _ ⟨rfl,rfl⟩;refine XL.nil ?_;refine XT.thenN ?_;refine XC.ret ?_;exact XT.leave1 (.inl I) (ST.retCD 2 s (.inl I) results90 I isAgg84 rK I I (.cons _ (.cons _ (.cons _ (.refl _)))) ⟨I,I,hle⟩)
  ·refine XC.seq ?_;refine XC.region ?_;refine XL.u (mV I) dC ?_;refine XL.u (mV I) dC ?_;refine XL.gu (gT I I I dC) (mV I) dC ?_;refine XL.gu (gT I I I dC) (SU.neqT I I) dC ?_;refine XL.u (wT I I) dC ?_;refine XL.u (mV I) dC ?_;refine XL.u (za1 I (build84 _ _)) dC ?_;refine XL.on (sK 3 rK I I I I I sB) ?_;rintro _ _ _ ⟨rfl,rfl⟩;refine XL.nil ?_;refine XT.thenN ?_;refine XC.ret ?_;exact XT.leave1 (.inl I) (ST.retCD 2 s (.inl I) results90 I isAgg84 rK I I (.cons _ (.cons _ (.cons _ (.refl _)))) ⟨I,I,hle⟩)
open Go Go.Sy Go.Pl Go.Proofs
theorem SU.negK {P:Program}{N:Nat}{f:Fr}{dst:Option Tmp}{ty:TypeId}{pos:String}{af:Array Edge}{gd:Option (Nat×Bool)}{x:Operand}{T:TypeId}{k:IntKind}{n:Int}(hx:ev f x=some (.int k n)):SU P N ⟨dst,.unOp .neg T x,ty,pos,af,gd⟩ f (.int k (k.wrap (0 - n))):=fun a w ha=>by
 simp only[execOp,ha.ev hx]; rfl
theorem CJ (n:Int):IntKind.u64.wrap n=n % 18446744073709551616:=by simp[IntKind.wrap,IntKind.bits,IntKind.signed]
theorem El (m:Nat)(h:m<18446744073709551616):IntKind.u64.wrap (BitVec.ofInt IntKind.u64.bits (m:Int) &&& BitVec.ofInt IntKind.u64.bits 4294967295).toNat=((m % 4294967296:Nat):Int):=by
 have h1:(BitVec.ofInt IntKind.u64.bits (m:Int) &&& BitVec.ofInt IntKind.u64.bits 4294967295).toNat=m % 4294967296:=by
  have hb:IntKind.u64.bits=64:=rfl;rw[hb,BitVec.toNat_and];have e1:(BitVec.ofInt 64 (m:Int)).toNat=m:=by
   rw[BitVec.toNat_ofInt];omega
  have e2:(BitVec.ofInt 64 4294967295).toNat=2 ^ 32 - 1:=by decide
  rw[e1,e2,Nat.and_two_pow_sub_one_eq_mod]
 rw[h1];exact IntWalk.u64_in _ oM
theorem EH (m:Nat):((m:Nat):Int).fdiv (2 ^ min (32:Int).toNat IntKind.u64.bits)=((m / 4294967296:Nat):Int):=by
 have h1:((2:Int) ^ min (32:Int).toNat IntKind.u64.bits)=4294967296:=by decide
 rw[h1,Int.fdiv_eq_ediv_of_nonneg _ dC];omega
theorem Tryz.buildE84 (w:World):(Instr.build 84 #[]).run Tryz.prog w = .ok (.agg #[vb false,txt []]) w:=by
 simp[Instr.build,Instr.fill];rfl
def x4 (n:Int):List Int:=[((n.natAbs % 4294967296:Nat):Int),((n.natAbs / 4294967296:Nat):Int)]
theorem BP (E:World)(g:PH)(s:Own)(n:Int)(h0 : -9223372036854775808≤n)(h1:n<9223372036854775808) :
  Ctr Tryz.prog E 39 #[vi n] g s (fun r g' s'=>r=CO (decide (n<0)) (mH (x4 n))∧s=s'∧Le g g'):=by
 refine za9 (args:=[vi n]) func39 I ntmps39 (bE I) ?_;refine rZ (bW (aL zeroValue84) fun b2=>?_);refine tZ (sW I (lU (zd7 uT3 ng I) (aT I ?_)));refine SC.cut (ι:=Unit) (fun _=>[(0,vi n),(2,pp b2 0),(3,.int .u64 (n.natAbs:Int))]) (fun _=>g) (fun _=>pt b2 (.cells #[vb false,txt []] 84 (0,0))::s) (fun _=>True) ?_ ?_
 ·refine sW I (yL I (tZ ?_));refine iP I (fun hn=>?_) (fun hn=>?_)
  ·have hw:IntKind.u64.wrap (0 - IntKind.u64.wrap n)=(n.natAbs:Int):=by
    rw[CJ,CJ]; omega
   refine rG (lM I (lU (SU.negK I) (lA I (nL ?_))));exact za7 () ⟨I,I,by rw[← hw]; rfl,trivial⟩ rfl rfl trivial
  ·have hw:IntKind.u64.wrap n=(n.natAbs:Int):=by
    rw[CJ]; omega
   refine kP ?_;exact za7 () ⟨I,I,by rw[← hw]; rfl,trivial⟩ rfl rfl trivial
 rintro _ -;try dsimp only
 refine sW I (lU (SU.eq (v':=.int .u64 ((n.natAbs % 4294967296:Nat):Int)) (SU.and I I) (zd9 _ (El _ oM))) (lM I (lU (SU.eq (v':=.int .u64 ((n.natAbs / 4294967296:Nat):Int)) (SU.shr I I dC) (zd9 _ (EH _))) (lW (bS sty142 I I I (ab sB) dC) ?_))));rintro _ _ _ ⟨b14,rfl,rfl,rfl⟩;refine zb3 fun g1 hle1 hb=>?_;refine lM I (yL I (lW (cL call90 I (tE E g1 _ _ (x4 n) _ (SlA.lit hb I I) (by simp[x4]))) ?_));rintro _ g2 _ ⟨rfl,rfl,hle2⟩;refine oZ (sK 0 rK I I I I I sB) ?_;refine tZ (rE ?_);exact ST.retCD 0 s (.inl I) results39 I isAgg84 rK I I uR ⟨I,I,hle1.trans hle2⟩
def hiB (x:Int):Int:=IntKind.u8.wrap (IntKind.i64.wrap (x.tdiv 256))
def loB (x:Int):Int:=IntKind.u8.wrap (x.tmod 256)
def fG:List Int→List Int
 | []=>[]
 | x::D=>fG D++((if decide (D≠[])||decide (x≥256) then [hiB x] else [])++[loB x])
theorem sO:∀ D:List Int,(fG D).length≤2 * D.length
 | []=>by simp[fG]
 | x::D=>by
  have:=sO D;simp only[fG,ze3,ze6,zc2];split <;> simp <;> omega
theorem tt (E:World)(g:PH)(s:Own)(v:Value)(neg:Bool)(l:List Int)(hv:SlA encInt g v l)(hl:l.length<1099511627776) :
  Ctr Tryz.prog E 118 #[vb neg,v] g s (fun r g' s'=>r = .agg #[vb (neg&&decide (ed l≠[])),txt (byt (fG (ed l)))]∧s=s'∧Le g g'):=by
 have htl:=vO l;refine za9 (args:=[vb neg,v]) func118 I ntmps118 (bE I) ?_;refine rZ (bW (aL zeroValue84) fun b4=>?_);refine tZ (sW I (lW (cL call151 I (tu E g _ v l hv hl)) ?_));rintro v8 _ _ ⟨rfl,rfl,hm⟩;obtain ⟨q,d,rfl⟩:=za2 hm;refine aT I (sQ (sW I (lU (eN ak I) (yE I (tZ ?_)))));generalize ed l=t at *;refine iP I (fun hz=>?_) (fun hz=>?_)
 ·have ht0:t=[]:=zf2 oM;subst ht0;refine rZ (lU (za1 I (buildE84)) (oZ (sK 0 rK I I I I I sB) ?_));refine tZ (rE (tR ?_));exact ST.retCD 0 s (.inl I) results118 I isAgg84 rK I I uR ⟨by cases neg <;> rfl,I,zb7 g⟩
 ·refine kP (tN (rZ (aT I (sQ (sW I (lU (eN ak I) (lU (sU I I oM) (aT I (bK (zb4 5 1 ?_))))))))));refine oP (ι:=Nat×Value) (fun i=>[(0,vb neg),(1,.slice q t.length d),(4,pp b4 0),(5,i.2),(6,vi ((i.1:Int) - 1))]) (fun _=>g) (fun i=>rowA qX 5 i.2 (fG (t.drop i.1))::pt b4 (.cells #[vb false,txt []] 84 (0,0))::s) (fun i=>i.1≤t.length) (fun i=>i.1) (t.length,.slice none 0 0)
   sB rfl (by dsimp only; rw[List.drop_length]; rfl) (lR _) ?_
  rintro ⟨n,bv⟩ hn;dsimp only at hn ⊢;refine sQ (sW I (lU (gQ I I) (tZ ?_)));refine iP I (fun hge=>?_) (fun hge=>?_)
  ·have hn1:n - 1<t.length:=oM;have hb1:=za4 hm oM;have hgx:t[((n:Int) - 1).toNat]?=some t[n - 1]:=by rw[show ((n:Int) - 1).toNat=n - 1 by omega]; exact gE hn1
   have hdr:t.drop (n - 1)=t[n - 1]::t.drop n:=by
    have:=zg4 hn1;rwa [show n - 1+1=n by omega] at this
   have hne:decide (t.drop n≠[])=decide ((n:Int) - 1<(t.length:Int) - 1):=by
    rw[decide_eq_decide];constructor
    ·intro h;have:=List.length_pos_iff.2 h;rw[ze7] at this;omega
    ·intro h e;have:=zd9 List.length e;rw[ze7,zc2] at this;omega
   have hlb:=sO (t.drop n);rw[ze7] at hlb;generalize t[n - 1]=x at *;have hst:fG (t.drop (n - 1))=fG (t.drop n)++((if decide ((n:Int) - 1<(t.length:Int) - 1)||decide (x≥256) then [hiB x] else [])++[loB x]):=by rw[hdr,fG,hne]
   generalize fG (t.drop n)=B at *;have f1:(n:Int) - 1<(t.length:Int) - 1→(decide ((n:Int) - 1<(t.length:Int) - 1)||decide (x≥256))=true:=fun h=>by rw[zf6 h,Bool.true_or]
   have f2:¬ (n:Int) - 1<(t.length:Int) - 1→(decide ((n:Int) - 1<(t.length:Int) - 1)||decide (x≥256))=decide (x≥256):=fun h=>by rw[zf5 h,Bool.false_or]
   refine kP (tN (sQ (bK ?_)));refine SC.cut (ι:=Value) (fun i=>[(0,vb neg),(1,.slice q t.length d),(4,pp b4 0),(5,i),(6,vi ((n:Int) - 1))]) (fun _=>g) (fun i=>rowA qX 5 i (B++(if decide ((n:Int) - 1<(t.length:Int) - 1)||decide (x≥256) then [hiB x] else []))::pt b4 (.cells #[vb false,txt []] 84 (0,0))::s) (fun _=>True) ?_ ?_
   ·refine SC.cutB 31 ((decide ((n:Int) - 1<(t.length:Int) - 1)||decide (x≥256))) ?_ ?_
    ·refine rG (lM I (lM I (lU (eN ak I) (lU (sU I I oM) (yL I (lM I ?_))))));refine sP ?_ ?_
     ·intro h25;refine yA I (yA I (yA I (yA I (yA I (yP I (nL ?_))))));exact za8 (by (rw[f1 h25]; rfl)) mI
     ·intro h25;refine yC I (yC I (lY I I I (iA ak zT3 I I hb1 oM sL) (SL.gq (gT I I I dC) (eB iT3 I (za5 hm) hgx I) dC (lY I I I (gQ I I) (yF I (nL ?_))))));exact za8 (by (rw[f2 h25]; rfl)) mI
    refine iQ I (fun hc=>?_) (fun hc=>?_)
    ·refine rG (lM I (lM I (lM I (lU (iA ak zT3 I I hb1 oM sL) (lK (eB iT3 I (za5 hm) hgx I) (lU (SU.quo I I dC) (lU (SU.eq (v':=.int .u8 (hiB x)) (zd7 uT3 uT5 I) I) (lW (bS sty183 I I I (ab sB) dC) ?_))))))));rintro _ _ _ ⟨b39,rfl,rfl,rfl⟩;refine lW (aP (e:=qX) 0 (hiB x) sty183 I I I I I oM oM) ?_;rintro bv' _ _ ⟨rfl,rfl⟩;refine lA I (nL ?_);exact za7 bv' sB I (by rw[zf8 hc]; rfl) trivial
    ·refine kP ?_;exact za7 bv sB I (by rw[zf7 (by rw[hc]; simp),zc4]) trivial
   rintro bv2 -;try dsimp only
   have hB2:(B++(if decide ((n:Int) - 1<(t.length:Int) - 1)||decide (x≥256) then [hiB x] else [])).length≤B.length+1:=by
    rw[ze3]; split <;> simp
   rw[← zg6] at hst;generalize (B++(if decide ((n:Int) - 1<(t.length:Int) - 1)||decide (x≥256) then [hiB x] else []))=B2 at *;refine rG (lM I (lM I (lM I (lU (iA ak zT3 I I hb1 oM sL) (lK (eB iT3 I (za5 hm) hgx I) (lU (zd6 I I dC) (lU (SU.eq (v':=.int .u8 (loB x)) (zd7 uT3 uT5 I) I) (lW (bS sty183 I I I (ab sB) dC) ?_))))))));rintro _ _ _ ⟨b48,rfl,rfl,rfl⟩;refine lW (aP (e:=qX) 0 (loB x) sty183 I I I I I oM oM) ?_;rintro bv3 _ _ ⟨rfl,rfl⟩;refine lA I (nL (bN (tN (rG (lM I (lU (sU I I oM) (lA I (nL ?_))))))));exact gA (n - 1,bv3) ⟨I,I,I,I,D0 I oM,trivial⟩ I (by dsimp only; rw[hst]; rfl) (by dsimp only; omega) (by dsimp only; omega)
  ·have hn0:n=0:=oM;subst hn0;refine zd2 fun ⟨w0,hw0⟩=>?_;obtain ⟨q2,d2,rfl⟩:=ag (i:=0) hw0 rfl;clear hw0 w0;rw[List.drop_zero] at *;refine xI (tX (tX (bX (tN (sW I (lM I (lK (SQ.bytesText underlying183 uT5 underlying9 I (zb5 0 I)) (lU (za1 I (build84 _ _)) (oZ (sK 1 rK I I I I I sB) ?_)))))))));refine tZ (rE ?_);exact ST.retCD 1 s (.inl I) results118 I isAgg84 rK I I uR ⟨by rw[show decide (t≠[])=true from zf6 (fun e:t=[]=>hz (by rw[e]; rfl)),Bool.and_true]; rfl,rfl,zb7 g⟩
def m4 (m:Nat):List Int:=if h:m=0 then [] else ((m % 65536:Nat):Int)::m4 (m / 65536)
termination_by m
decreasing_by omega
theorem iW:m4 0=[]:=by unfold m4; rfl
theorem kA {m:Nat}(h:m≠0):m4 m=((m % 65536:Nat):Int)::m4 (m / 65536):=by rw[m4,dif_neg h]
theorem ol:∀ (k m:Nat),m<65536 ^ k→(m4 m).length≤k
 | 0,m,h=>by
  have:m=0:=by simpa using h
  subst this; rw[iW]; simp
 | k+1,m,h=>by
  by_cases h0:m=0
  ·subst h0; rw[iW]; simp
  ·rw[kA h0,ze6];have:=ol k (m / 65536) (by rw[Nat.div_lt_iff_lt_mul dC]; rwa [Nat.pow_succ] at h);omega
theorem Ax (m:Nat):ed (m4 m)=m4 m:=by
 have key:∀ m,m4 m=[]∨∃ a x,m4 m=a++[x]∧x≠0:=by
  intro m;induction m using Nat.strongRecOn with
  | _ m ih =>
   by_cases h0:m=0
   ·left; subst h0; exact iW
   ·right;rw[kA h0]
    rcases ih (m / 65536) oM with h | ⟨a,x,h,hx⟩
    ·refine⟨[],_,by rw[h]; rfl,?_⟩;by_cases h1:m / 65536=0
     ·omega
     ·rw[kA h1] at h; cases h
    ·exact⟨_::a,x,by rw[h]; rfl,hx⟩
 rcases key m with h | ⟨a,x,h,hx⟩
 ·rw[h]; rfl
 ·rw[h]; simp[ed,hx]
theorem uQ (E:World)(g:PH)(s:Own)(n:Int)(h0 : -9223372036854775808≤n)(h1:n<9223372036854775808) :
  Ctr Tryz.prog E 77 #[vi n] g s (fun r g' s'=>r = .agg #[vb (decide (n<0)&&decide (m4 n.natAbs≠[])),txt (byt (fG (m4 n.natAbs)))]∧s=s'∧Le g g'):=by
 have hdl:=ol 4 n.natAbs oM;refine za9 (args:=[vi n]) func77 I ntmps77 (bE I) ?_;refine rZ (bW (aL zeroValue84) fun b2=>?_);refine tZ (rZ (aT I (sW I (lU (zd7 uT3 ng I) (aT I ?_)))));refine SC.cut (ι:=Unit) (fun _=>[(0,vi n),(2,pp b2 0),(3,.slice none 0 0),(4,.int .u64 (n.natAbs:Int))]) (fun _=>g) (fun _=>pt b2 (.cells #[vb false,txt []] 84 (0,0))::s) (fun _=>True) ?_ ?_
 ·refine sW I (yL I (tZ ?_));refine iP I (fun hn=>?_) (fun hn=>?_)
  ·have hw:IntKind.u64.wrap (0 - IntKind.u64.wrap n)=(n.natAbs:Int):=by
    rw[CJ,CJ]; omega
   refine rG (lM I (lU (SU.negK I) (lA I (nL ?_))));exact za7 () ⟨I,I,I,by rw[← hw]; rfl,trivial⟩ rfl rfl trivial
  ·have hw:IntKind.u64.wrap n=(n.natAbs:Int):=by
    rw[CJ]; omega
   refine kP ?_;exact za7 () ⟨I,I,I,by rw[← hw]; rfl,trivial⟩ rfl rfl trivial
 rintro _ -;try dsimp only
 refine sQ (bK (zb4 3 1 ?_));refine oP (ι:=Nat×Value×List Int) (fun i=>[(0,vi n),(2,pp b2 0),(3,i.2.1),(4,.int .u64 (i.1:Int))]) (fun _=>g) (fun i=>rowA encInt 3 i.2.1 i.2.2::pt b2 (.cells #[vb false,txt []] 84 (0,0))::s) (fun i=>i.2.2++m4 i.1=m4 n.natAbs∧i.1≤n.natAbs) (fun i=>i.1) (n.natAbs,.slice none 0 0,[])
  sB rfl rfl ⟨rfl,lR _⟩ ?_
 rintro ⟨m,bv,D⟩ ⟨hD,hm⟩;dsimp only at hD hm ⊢;have hDl:D.length≤4:=by have:=zd9 List.length hD; rw[ze3] at this; omega
 refine sQ (sW I (lU (gR I I) (tZ ?_)));refine iP I (fun hpos=>?_) (fun hpos=>?_)
 ·have hm0:m≠0:=oM;have hds:=kA hm0;refine kP (tN (bK (sW I (lM I (lU (zd6 I I dC) (lU (SU.eq (v':=vi ((m % 65536:Nat):Int)) (zd7 ng uT3 I) (zd9 vi (by rw[show ((m:Int)).tmod 65536=((m % 65536:Nat):Int) by rw[Int.tmod_eq_emod_of_nonneg oM]; omega]; exact zk5 _ oM))) ?_))))));refine lW (bS sty25 I I I (ab sB) dC) ?_;rintro _ _ _ ⟨b17,rfl,rfl,rfl⟩;refine lW (aP (e:=encInt) 0 ((m % 65536:Nat):Int) sty25 I I I I I oM oM) ?_;rintro bv' _ _ ⟨rfl,rfl⟩;refine aT I (rG (lM I (lU (SU.eq (v':=.int .u64 ((m / 65536:Nat):Int)) (SU.quo I I dC) (zd9 _ (by rw[show ((m:Int)).tdiv 65536=((m / 65536:Nat):Int) by rw[Int.tdiv_eq_ediv_of_nonneg oM]; omega]; exact IntWalk.u64_in _ oM))) ?_)));refine lA I (nL (bN ?_));exact gA (m / 65536,bv',D++[((m % 65536:Nat):Int)]) sB I I ⟨by dsimp only; rw[← hD,hds]; simp,by dsimp only; omega⟩ (by dsimp only; omega)
 ·have hm0:m=0:=oM;subst hm0;rw[iW,zc4] at hD;subst hD;refine xI (tX (tX (bX (tN (sQ (fS fun g1 hle1 hs1=>?_))))));refine rG (lM I (yL I (lM I (lW (cL call118 I (tt E g1 _ bv _ (m4 n.natAbs) hs1 oM)) ?_))));rintro _ g2 _ ⟨rfl,rfl,hle2⟩;refine oZ (sK 0 rK I I I I I sB) ?_;refine tZ (rE ?_);exact ST.retCD 0 s (.inl I) results77 I isAgg84 rK I I uR ⟨by rw[Ax]; rfl,rfl,hle1.trans hle2⟩
theorem oc {a b:Nat}(h:a % 256=b % 256):UInt8.ofNat a=UInt8.ofNat b:=by
 apply UInt8.toNat.inj;simpa using h
theorem u8w (k:Nat):IntKind.u8.wrap (k:Int)=((k % 256:Nat):Int):=by simp[IntKind.wrap,IntKind.bits,IntKind.signed]
theorem BB (k:Nat):UInt8.ofNat (IntKind.u8.wrap (k:Int)).toNat=UInt8.ofNat k:=by
 rw[u8w,Int.toNat_natCast]; exact oc oM
theorem qI (k e:Nat):(k:Int).fdiv ((e:Nat):Int)=((k / e:Nat):Int):=by
 rw[Int.fdiv_eq_ediv_of_nonneg _ oM]; simp
theorem zr (k:Nat):byt (by4 (k:Int))=[UInt8.ofNat (k / 16777216),UInt8.ofNat (k / 65536),UInt8.ofNat (k / 256),UInt8.ofNat k]:=by
 have h1:((2:Int) ^ min (24:Int).toNat IntKind.u64.bits)=((16777216:Nat):Int):=by decide
 have h2:((2:Int) ^ min (16:Int).toNat IntKind.u64.bits)=((65536:Nat):Int):=by decide
 have h3:((2:Int) ^ min (8:Int).toNat IntKind.u64.bits)=((256:Nat):Int):=by decide
 unfold by4;rw[h1,h2,h3,qI,qI,qI];simp only[byt,zg2,List.map_nil,BB]
def beK:Nat→Nat→List UInt8
 | 0,_=>[]
 | k+1,m=>beK k (m / 65536)++[UInt8.ofNat (m / 256),UInt8.ofNat m]
def tU (m:Nat):List UInt8:=vn (beK 4 m)
theorem D9 {a:Int}(h:a≠0):ed [a,0]=[a]:=by simp[ed,h]
theorem D8 {a b:Int}(h:b≠0):ed [a,b]=[a,b]:=by simp[ed,h]
theorem uy (n:Int)(h:n.natAbs<18446744073709551616):mH (x4 n)=tU n.natAbs:=by
 obtain ⟨m,hm⟩:∃ m,m=n.natAbs:=⟨_,rfl⟩;unfold x4;rw[← hm] at h ⊢;have hlo:=zr (m % 4294967296);have hhi:=zr (m / 4294967296);have hbe:beK 4 m=[UInt8.ofNat (m / 4294967296 / 16777216),UInt8.ofNat (m / 4294967296 / 65536),UInt8.ofNat (m / 4294967296 / 256),UInt8.ofNat (m / 4294967296),UInt8.ofNat (m % 4294967296 / 16777216),UInt8.ofNat (m % 4294967296 / 65536),UInt8.ofNat (m % 4294967296 / 256),UInt8.ofNat (m % 4294967296)]:=by
  simp only[beK,List.nil_append,List.cons_append];refine congr (zd9 List.cons ?_) (congr (zd9 List.cons ?_) (congr (zd9 List.cons ?_) (congr (zd9 List.cons ?_) (congr (zd9 List.cons ?_) (congr (zd9 List.cons ?_) (congr (zd9 List.cons ?_) (congr (zd9 List.cons ?_) I)))))))
  all_goals exact oc oM
 unfold tU mH;rw[hbe];by_cases h1:m / 4294967296=0
 ·by_cases h2:m % 4294967296=0
  ·rw[h1,h2]; rfl
  ·have ht:ed [((m % 4294967296:Nat):Int),((m / 4294967296:Nat):Int)]=[((m % 4294967296:Nat):Int)]:=by
    rw[h1];exact D9 oM
   rw[ht];show vn (byt (by4 _++[]))=_;rw[zc4,hlo,h1];rfl
 ·have ht:ed [((m % 4294967296:Nat):Int),((m / 4294967296:Nat):Int)]=[((m % 4294967296:Nat):Int),((m / 4294967296:Nat):Int)]:=by
   exact D8 oM
  rw[ht];show vn (byt (by4 _++(by4 _++[])))=_;rw[zc4];have:byt (by4 ((m / 4294967296:Nat):Int)++by4 ((m % 4294967296:Nat):Int))=byt (by4 ((m / 4294967296:Nat):Int))++byt (by4 ((m % 4294967296:Nat):Int)):=by simp[byt]
  rw[this,hhi,hlo];rfl
def DV (n:Int):Value:=CO (decide (n<0)) (tU n.natAbs)
theorem An (E:World)(g:PH)(s:Own)(n:Int)(h0 : -9223372036854775808≤n)(h1:n<9223372036854775808) :
  Ctr Tryz.prog E 39 #[vi n] g s (fun r g' s'=>r=DV n∧s=s'∧Le g g') :=
 (BP E g s n h0 h1).mono fun _ _ _ ⟨h2,h3⟩=>⟨by rw[h2,uy _ oM]; rfl,h3⟩
theorem rz (E:World)(g:PH)(s:Own)(n:Int)(hn:n=0∨n=1∨n = -1) :
  Ctr Tryz.prog E 77 #[vi n] g s (fun r g' s'=>r=DV n∧s=s'∧Le g g') :=
 (uQ E g s n oM oM).mono fun _ _ _ ⟨h2,h3⟩=>⟨by
  rw[h2];have e0:m4 0=[]:=iW;have e1:m4 1=[1]:=by rw[kA dC,e0]; rfl
  rcases hn with rfl | rfl | rfl
  ·simp only[Int.natAbs_zero,e0];rw[show byt (fG [])=tU (0:Int).natAbs from by decide]; rfl
  ·simp only[show (1:Int).natAbs=1 from rfl,e1];rw[show byt (fG [1])=tU (1:Int).natAbs from by decide]; rfl
  ·simp only[show (-1:Int).natAbs=1 from rfl,e1];rw[show byt (fG [1])=tU (-1:Int).natAbs from by decide]; rfl,h3⟩
theorem Ab {l m:List Cl}(h:l.Perm m):∀ a,tT l a=tT m a:=by
 induction h with
 | nil=>exact fun _=>rfl
 | cons x _ ih=>exact fun a=>ih _
 | swap x y l=>intro a; simp only[tT]; congr 1; omega
 | trans _ _ h1 h2=>exact fun a=>(h1 a).trans (h2 a)
theorem wz (E:World)(g:PH)(s:Own)(v:Value)(l:List Cl)(hv:ao g v l)(hf:cU l) :
  Ctr Tryz.prog E 52 #[.agg #[v]] g s (fun r g' s'=>r=vi (yj l)∧s=s'∧Le g g'):=by
 have hft:=eY hf;have hfl:=hft.1;refine za9 (args:=[.agg #[v]]) func52 I ntmps52 (bE I) ?_;refine rZ (bW (bO I) fun b1=>?_);refine aT I (rZ (aT I (sQ (rZ (lK (qV 0 aY ar I I I) (lW (cL call34 I (ug E g _ v l hv hf)) ?_))))));rintro tv g1 _ ⟨rfl,hle,ht⟩;have htab:=ht;obtain ⟨b,m,iv,rs,rfl,hb,hm,hI,hall⟩:=ht;obtain ⟨es,clk,hes,hmi⟩:=hm;refine lU (nC I) (lU (fA oK I sizeOf99 I) (lK (qL isAgg99 I (cK hb I)) (lW (SO.range underlying99 I hes) ?_)));rintro _ _ _ ⟨it,rfl,rfl,rfl⟩;refine tZ (bK ?_);have hlen:=hall.length;refine oP (ι:=List MapEntry×List (Int×Value)×List Cl) (fun i=>[(3,vi (tT i.2.2 (-1))),(11,pp it 0)]) (fun _=>g1)
  (fun i=>ke it m es clk i.1::pt b1 (.cells #[v] 31 (0,0))::s)
  (fun i=>qZ (rs.map dE) es i.1 i.2.1∧(∀ c∈i.2.2,c∈ae l)∧i.2.1.map Prod.fst=i.2.2.map Cl.id) (fun i=>rs.length - i.2.1.length)
  ([],[],[]) sB rfl rfl ⟨qZ.nil _ _,by simp,rfl⟩ ?_
 rintro ⟨vis,vl,vc⟩ ⟨hrv,hvs,hvl⟩;dsimp only at hrv hvs hvl ⊢;have hvle:=hrv.len hmi;simp only[ze4] at hvle;have hvcl:vl.length=vc.length:=by have:=zd9 List.length hvl; simpa using this
 refine rZ (lW (SO.nextP 0 I I hes hmi hrv) ?_);rintro _ _ _ ⟨rfl,hcase⟩
 rcases hcase with ⟨rfl,rfl,hperm⟩ | ⟨e,pr,he,hp1,hk1,hv1,hrv2,rfl,rfl⟩
 ·have hp:=tg hvl hvs (fB l) hall hperm;refine yX I (tZ (sQ (cF I (xI (tX (tX (bX (tN (sW I (aT I (rE (dR (s':=s) uR ?_))))))))))));exact za6 (.inl I) results52 I ⟨by rw[Ab hp]; rfl,rfl,hle⟩
 ·obtain ⟨x,hx,rfl⟩:=ze9.1 hp1;obtain ⟨cx,hcm,hcx⟩:=Cf hall hx;have hvs2:∀ c∈vc++[cx],c∈ae l:=fun c hc=>by
   rcases zf1.1 hc with h | h
   ·exact hvs c h
   ·simp at h; rw[h]; exact hcm
  have hvl2:(vl++[dE x]).map Prod.fst=(vc++[cx]).map Cl.id:=by rw[zg3,zg3,hvl]; simp[dE,hcx.1]
  have hm2:=hrv2.len hmi;simp only[ze4,ze3,ze5] at hm2;obtain ⟨xi,xd,xv⟩:=x;have hxd:xd=cx.dim:=hcx.2.1;subst hxd;have hmx:=od cx vc (-1);refine yX I (tZ (sQ (cT I (kP (tN (bK (rZ (lK (SQ.entryP 0 I I hes hmi he hk1 hv1) (yX I (bW (aL zk9) fun b5=>?_))))))))));refine oZ (sK 0 aw I I I I I sB) ?_;refine tZ (rG (lM I (lU (fA am I zT3 I) (lK (qL iT3 I (cO 0 I I)) (lU (SU.eq (v':=vi (tT (vc++[cx]) (-1))) (SU.maxI I I) (zd9 vi hmx.symm)) (lA I (nL (bN (dR (s':=ke it m es clk (vis++[e])::pt b1 (.cells #[v] 31 (0,0))::s) (.cons _ (.refl _)) ?_)))))))));exact gA (vis++[e],vl++[dE ⟨xi,cx.dim,xv⟩],vc++[cx]) sB I I ⟨hrv2,hvs2,hvl2⟩ lN
def eJ (l:List Cl):List Int:=l.flatMap fun c=>c.sides.map aj.cell
theorem uK (A:List Cl)(k:Int):(eJ A).contains k=iE A k:=by
 rw[Bool.eq_iff_iff];simp[eJ,iE,ER]
theorem tq {A:List Cl}{k:Nat}(h:k<A.length):eJ (A.take (k+1))=eJ (A.take k)++A[k].sides.map aj.cell:=by
 unfold eJ;rw[tS h,List.flatMap_append];simp only[zh3,List.flatMap_nil,zc4]
theorem BR {A:List Cl}{id:Int}(h:aG A id=none)(m:List Int):cD A (m++[id])=cD A m:=by
 unfold cD;refine zc6 fun c hc=>?_;have:=List.find?_eq_none.1 h c hc;simp only[zj1] at this;simp[this]
theorem Ac {ss:List aj}{j:Nat}(h:j<ss.length)(m:List Int):m++(ss.take (j+1)).map aj.cell=(m++(ss.take j).map aj.cell)++[ss[j].cell]:=by
 rw[tS h,zg3,zg6]; rfl
theorem tw (E:World)(g:PH)(s:Own)(v:Value)(l:List Cl)(hv:ao g v l)(hf:cU l) :
  Ctr Tryz.prog E 25 #[.agg #[v]] g s (fun r g' s'=>s=s'∧Le g g'∧bZ g' r (fQ l)):=by
 have hft:=eY hf;have hfl:=hft.1;have hsrt:=em l;have hnd:=fB l;refine za9 (args:=[.agg #[v]]) func25 I ntmps25 (bE I) ?_;refine rZ (bW (bO I) fun b1=>?_);refine aT I (rZ (aT I (rZ (lK (qV 0 aY ar I I I) (lW (cL call67 I (ct E g _ _ l hv hf)) ?_)))));rintro v11 g1 _ ⟨rfl,hle,hc⟩;obtain ⟨rs,hrs,hall⟩:=hc;have hcs:ao g1 _ (ae l):=⟨rs,hrs,hall⟩;obtain ⟨q,dd,rfl⟩:=hrs.form;have hrl:=hall.length;refine aT I (sW I (lU (eN az I) (lW (mK cG false sty123 I I I oM oM) ?_)));rintro _ _ _ ⟨b14,rfl,rfl,rfl⟩;refine aT I (sQ (rZ (aT I (bK ?_))));unfold fQ;generalize ae l=A at *;refine SC.to (g':=g1) (s':=rowA cG 4 (.slice (some ⟨b14,0,none⟩) rs.length rs.length) (cD A (eJ (A.take 0)))::pt b1 (.cells #[v] 31 (0,0))::s) (fun w hw=>by rw[show eJ (A.take 0)=[] from I,sz,hrl]; exact hw) ?_;refine oP (ι:=Nat) (fun i=>[(3,.slice none 0 0),(4,.slice q rs.length dd),(5,.slice (some ⟨b14,0,none⟩) rs.length rs.length),(6,vi i)]) (fun _=>g1)
  (fun i=>rowA cG 4 (.slice (some ⟨b14,0,none⟩) rs.length rs.length) (cD A (eJ (A.take i)))::pt b1 (.cells #[v] 31 (0,0))::s)
  (fun i=>i≤A.length) (fun i=>A.length - i) 0 sB rfl rfl (zf4 _) ?_
 intro k hk;refine sQ (sW I (lM I (lU (eN az I) (yL I (tZ ?_)))));refine iP I (fun hlt=>?_) (fun hlt=>?_)
 ·have hkl:k<A.length:=oM;have hkr:k<rs.length:=oM;have hb1:=hrs.based oM;have hcr:=hall.get (gE hkl) (gE hkr);have hgr:rs[((k:Nat):Int).toNat]?=some rs[k]:=gE hkr;have hsucc:=tq hkl;have hxl:=hft.2 _ (gM hkl);generalize A[k]=x at *;generalize rs[k]=r at *;generalize eJ (A.take k)=m at *;obtain ⟨ri,rd,rp,rn,rc⟩:=r;have hsv:SlA encSide g1 (.slice rp rn rc) x.sides:=hcr.2.2;have hxn:rn=x.sides.length:=by obtain ⟨q,cc,hq⟩:=za2 hsv; simp at hq; exact hq.2.1
  subst hxn;refine kP (tN (sQ (bK (rZ (aT I (bK ?_))))));refine oP (ι:=Nat) (fun j=>[(3,.slice none 0 0),(4,.slice q rs.length dd),(5,.slice (some ⟨b14,0,none⟩) rs.length rs.length),(6,vi k),(7,vi j)]) (fun _=>g1)
   (fun j=>rowA cG 4 (.slice (some ⟨b14,0,none⟩) rs.length rs.length) (cD A (m++(x.sides.take j).map aj.cell))::pt b1 (.cells #[v] 31 (0,0))::s)
   (fun j=>j≤x.sides.length) (fun j=>x.sides.length - j) 0 sB rfl (by simp) (zf4 _) ?_
  intro j hj;refine sQ (sW I (lM I (lM I (lU (iA az aw I I hb1 oM sL) (lU (fC am I aX I hb1) (lK (aZ (e:=encCell) (o:=2) (u:=.slice rp x.sides.length rc) bH I hrs.rd hgr I) (lU (eN bF I) (yL I (tZ ?_)))))))));refine iP I (fun hlt2=>?_) (fun hlt2=>?_)
  ·have hjl:j<x.sides.length:=oM;have hb2:=za4 hsv oM;have hgj:x.sides[((j:Nat):Int).toNat]?=some x.sides[j]:=gE hjl;have hms:=Ac hjl m;generalize m++(x.sides.take j).map aj.cell=m2 at *;generalize x.sides[j]=z at *;have hfl2:(cD A m2).length=A.length:=by simp[cD]
   rcases lh hsrt z.cell with ⟨hf0,hat⟩ | ⟨c,kk,hf0,hat,hck⟩
   ·refine kP (tN (sQ (bK (sW I (lM I (lM I (lU (iA az aw I I hb1 oM sL) (lU (fC am I aX I hb1) (lK (aZ (e:=encCell) (o:=2) (u:=.slice rp x.sides.length rc) bH I hrs.rd hgr I) (lM I (lU (iA bF bJ I I hb2 oM sL) (lU (fC de I zT3 I hb2) (lK (aZ (o:=0) (u:=vi z.cell) iT3 I hsv.rd hgj I) (lW (cL call68 I (e8 E g1 _ _ A z.cell hcs hfl hsrt)) ?_))))))))))))));rintro _ _ _ ⟨rfl,rfl,rfl⟩;rw[hat];refine aT I (sW I (lU (SU.eq (v':=vb false) (gQ I I) (zd9 vb (zf5 oM))) (tZ (cF I (kP (bN (tN (rG (lM I (yD I (lA I (nL ?_))))))))))));exact gA (j+1) sB I (by rw[hms,BR hf0]) oM oM
   ·have hkl2:kk<A.length:=(zf3.1 hck).1;have hset:(cD A m2).set kk true=cD A (m2++[z.cell]):=by rw[sw hnd hck,(cV hf0).2]
    refine kP (tN (sQ (bK (sW I (lM I (lM I (lU (iA az aw I I hb1 oM sL) (lU (fC am I aX I hb1) (lK (aZ (e:=encCell) (o:=2) (u:=.slice rp x.sides.length rc) bH I hrs.rd hgr I) (lM I (lU (iA bF bJ I I hb2 oM sL) (lU (fC de I zT3 I hb2) (lK (aZ (o:=0) (u:=vi z.cell) iT3 I hsv.rd hgj I) (lW (cL call68 I (e8 E g1 _ _ A z.cell hcs hfl hsrt)) ?_))))))))))))));rintro _ _ _ ⟨rfl,rfl,rfl⟩;rw[hat];refine aT I (sW I (lU (SU.eq (v':=vb true) (gQ I I) (zd9 vb (zf6 oM))) (tZ (cT I (rG (lM I (lM I (lU (iA underlying123 sizeOf4 I I I oM sL) (oZ (sT (e:=cG) (a:=true) 0 sizeOf4 I I I (by rw[hfl2]; omega) I) ?_)))))))));refine nL (bN (tN (rG (lM I (yD I (lA I (nL ?_)))))));exact gA (j+1) sB I (by rw[hms,← hset]; rfl) oM oM
  ·have hjj:x.sides.take j=x.sides:=tL oM;rw[hjj,← hsucc];refine xI (tX (tX (bX (bN (tN (rG (lM I (yD I (lA I (nL ?_))))))))));exact gA (k+1) sB I I oM oM
 ·have hkk:A.take k=A:=tL oM;rw[hkk];refine xI (tX (tX (bX (tN (sQ (rZ (aT I (bK (cP (zj5 _ _ _) (cP (zj5 _ _ _) (zb4 3 1 ?_)))))))))));refine oP (ι:=Value×Nat) (fun i=>[(3,i.1),(4,.slice q rs.length dd),(5,.slice (some ⟨b14,0,none⟩) rs.length rs.length),(9,vi i.2)]) (fun _=>g1)
   (fun i=>rowA encInt 3 i.1 (((A.take i.2).filter fun c=>!iE A c.id).map Cl.id)::rowA cG 4 (.slice (some ⟨b14,0,none⟩) rs.length rs.length) (cD A (eJ A))::pt b1 (.cells #[v] 31 (0,0))::s)
   (fun i=>i.2≤A.length) (fun i=>A.length - i.2) (.slice none 0 0,0) sB rfl rfl (zf4 _) ?_
  rintro ⟨ov,i⟩ hi;dsimp only at hi ⊢;refine sQ (sW I (lM I (lU (eN az I) (yL I (tZ ?_)))));refine iP I (fun hlt3=>?_) (fun hlt3=>?_)
  ·have hil:i<A.length:=oM;have hir:i<rs.length:=oM;have hb1:=hrs.based oM;have hcr:=hall.get (gE hil) (gE hir);have hgr:rs[((i:Nat):Int).toNat]?=some rs[i]:=gE hir;have hsucc:=sA hil (fun c=>!iE A c.id) Cl.id;have hlek:=zf A i (fun c=>!iE A c.id) Cl.id;have hgf:(cD A (eJ A))[((i:Nat):Int).toNat]?=some (iE A A[i].id):=by rw[← uK]; exact nD (gE hil)
   generalize A[i]=x at *;generalize rs[i]=r at *;refine kP (tN (sQ (bK (sW I (lM I (lU (iA underlying123 sizeOf4 I I I oM sL) (lK (eB (e:=cG) isAgg4 I (zb5 1 I) hgf I) (lU (SU.not I) (tZ ?_)))))))));refine iQ I (fun htop=>?_) (fun htop=>?_)
   ·refine rG (lM I (lM I (lM I (lU (iA az aw I I hb1 oM sL) (lU (fC am I zT3 I hb1) (lK (aZ (e:=encCell) (o:=0) (u:=vi x.id) iT3 I hrs.rd hgr (by rw[← hcr.1]; rfl)) ?_))))));refine lW (bS sty25 I I I (ab sB) dC) ?_;rintro _ _ _ ⟨b64,rfl,rfl,rfl⟩;refine lW (aP (e:=encInt) 0 x.id sty25 I I I I I oM oM) ?_;rintro ov' _ _ ⟨rfl,rfl⟩;refine lA I (nL (bN (tN (rG (lM I (yD I (lA I (nL ?_))))))));refine ST.to (fun w hw=>?_) (g':=g1) (s':=rowA encInt 3 ov' (((A.take (i+1)).filter fun c=>!iE A c.id).map Cl.id)::rowA cG 4 (.slice (some ⟨b14,0,none⟩) rs.length rs.length) (cD A (eJ A))::pt b1 (.cells #[v] 31 (0,0))::s) ?_
    ·rw[hsucc,zf8 (by simpa using htop)]; exact hw
    exact gA (ov',i+1) sB I I (by dsimp only; omega) lN
   ·refine kP (bN (tN (rG (lM I (yD I (lA I (nL ?_)))))));refine ST.to (fun w hw=>?_) (g':=g1) (s':=rowA encInt 3 ov (((A.take (i+1)).filter fun c=>!iE A c.id).map Cl.id)::rowA cG 4 (.slice (some ⟨b14,0,none⟩) rs.length rs.length) (cD A (eJ A))::pt b1 (.cells #[v] 31 (0,0))::s) ?_
    ·rw[hsucc,zf7 (by simpa using htop),zc4]; exact hw
    exact gA (ov,i+1) sB I I (by dsimp only; omega) lN
  ·have hii:A.take i=A:=tL oM;rw[hii];refine xI (tX (tX (bX (tN (sW I (aT I (rE (fT fun g2 hle2 hs2=>?_))))))));refine dR (s':=s) uR ?_;exact za6 (.inl I) results25 I ⟨I,hle.trans hle2,hs2⟩
theorem vy {A:List Cl}{ids:List Int}{x:Int}(h:x∈cQ A ids):∃ c∈A,c.id=x:=by
 obtain ⟨c,hc,e⟩:=nH h;exact⟨c,hc,e⟩
theorem Bb (l:List Cl):((ae l).map Cl.id).Pairwise (· < ·):=by
 have h1:=em l;have h2:=fB l;have h3:=h1.and h2;exact h3.imp fun h=>by omega
theorem iw (l:List Cl)(ids:List Int):eR l ids=((ae l).filter fun c=>(cQ (ae l) ids).contains c.id).map Cl.id:=by
 unfold eR;refine iq ?_ ?_ fun x=>?_
 ·have h2:=jf (cQ (ae l) ids);have h3:(ee (cQ (ae l) ids)).Nodup:=(lp _).symm.nodup (ot _ _);exact (h2.and h3).imp fun ⟨h4,h5⟩=>by omega
 ·exact ((Bb l)).sublist (List.filter_sublist.map _)
 ·rw[(lp _).mem_iff,ze9];constructor
  ·intro hx;obtain ⟨c,hc,rfl⟩:=vy hx;exact⟨c,zh2.2 ⟨hc,by simpa using hx⟩,I⟩
  ·rintro ⟨c,hc,rfl⟩;simpa using (zh2.1 hc).2
theorem oJ (E:World)(g:PH)(s:Own)(v iv:Value)(l:List Cl)(ids:List Int)(hv:ao g v l)(hf:cU l)(hi:bZ g iv ids)(hb:ids.length+fv (ae l) []<1099511627776) :
  Ctr Tryz.prog E 117 #[.agg #[v],iv] g s (fun r g' s'=>s=s'∧Le g g'∧bZ g' r (eR l ids)):=by
 have hft:=eY hf;have hfl:=hft.1;have hsrt:=em l;have hnd:=fB l;rw[iw];refine za9 (args:=[.agg #[v],iv]) func117 I ntmps117 (bE I) ?_;refine rZ (bW (bO I) fun b2=>?_);refine aT I (rZ (lK (qV 0 aY ar I I I) (lW (cL call67 I (ct E g _ _ l hv hf)) ?_)));rintro v9 g1 _ ⟨rfl,hle,hc⟩;obtain ⟨rs,hrs,hall⟩:=hc;have hcs:ao g1 _ (ae l):=⟨rs,hrs,hall⟩;obtain ⟨q,dd,rfl⟩:=hrs.form;have hrl:=hall.length;refine aT I (sW I (lM I (lW (cL call150 I (tx E g1 _ _ _ (ae l) ids hcs (za3 hi hle) hft hsrt hnd hb)) ?_)));rintro v13 g2 _ ⟨rfl,hle2,hfg⟩;obtain ⟨qf,df,rfl⟩:=za2 hfg;have hrs:=hrs.mono hle2;have hall:=hall.mono fun _ _=>aq.mono hle2;have hle:=hle.trans hle2;refine aT I (rZ (aT I (sQ (rZ (aT I (bK ?_))))));generalize ae l=A at *;have hffl:(cD A (cQ A ids)).length=A.length:=by simp[cD]
 refine zb4 3 1 ?_;refine oP (ι:=Value×Nat) (fun i=>[(5,.slice q rs.length dd),(6,.slice qf (cD A (cQ A ids)).length df),(7,i.1),(8,vi i.2)]) (fun _=>g2) (fun i=>rowA encInt 3 i.1 (((A.take i.2).filter fun c=>(cQ A ids).contains c.id).map Cl.id)::pt b2 (.cells #[v] 31 (0,0))::s)
  (fun i=>i.2≤A.length) (fun i=>A.length - i.2) (.slice none 0 0,0) sB rfl rfl (zf4 _) ?_
 rintro ⟨ov,k⟩ hk;dsimp only at hk ⊢;refine sQ (sW I (lM I (lU (eN az I) (yL I (tZ ?_)))));refine iP I (fun hlt=>?_) (fun hlt=>?_)
 ·have hkl:k<A.length:=oM;have hkr:k<rs.length:=oM;have hb1:=hrs.based oM;have hb2:=za4 hfg oM;have hcr:=hall.get (gE hkl) (gE hkr);have hgr:rs[((k:Nat):Int).toNat]?=some rs[k]:=gE hkr;have hgf:(cD A (cQ A ids))[((k:Nat):Int).toNat]?=some ((cQ A ids).contains A[k].id):=nD (gE hkl);have hsucc:=sA hkl (fun c=>(cQ A ids).contains c.id) Cl.id;have hlek:=zf A k (fun c=>(cQ A ids).contains c.id) Cl.id;generalize A[k]=x at *;generalize rs[k]=r at *;refine kP (tN (sQ (bK (sW I (lM I (lU (iA underlying123 sizeOf4 I I hb2 oM sL) (lK (eB (e:=cG) isAgg4 I (za5 hfg) hgf I) (tZ ?_))))))));refine iQ I (fun hin=>?_) (fun hin=>?_)
  ·refine rG (lM I (lM I (lM I (lU (iA az aw I I hb1 oM sL) (lU (fC am I zT3 I hb1) (lK (aZ (e:=encCell) (o:=0) (u:=vi x.id) iT3 I hrs.rd hgr (by rw[← hcr.1]; rfl)) ?_))))));refine lW (bS sty25 I I I (ab sB) dC) ?_;rintro _ _ _ ⟨b30,rfl,rfl,rfl⟩;refine lW (aP (e:=encInt) 0 x.id sty25 I I I I I oM oM) ?_;rintro ov' _ _ ⟨rfl,rfl⟩;refine lA I (nL (bN (tN (rG (lM I (yD I (lA I (nL ?_))))))));refine ST.to (fun w hw=>?_) (g':=g2) (s':=rowA encInt 3 ov' (((A.take (k+1)).filter fun c=>(cQ A ids).contains c.id).map Cl.id)::pt b2 (.cells #[v] 31 (0,0))::s) ?_
   ·rw[hsucc,zf8 hin]; exact hw
   exact gA (ov',k+1) sB I I (by dsimp only; omega) lN
  ·refine kP (bN (tN (rG (lM I (yD I (lA I (nL ?_)))))));refine ST.to (fun w hw=>?_) (g':=g2) (s':=rowA encInt 3 ov (((A.take (k+1)).filter fun c=>(cQ A ids).contains c.id).map Cl.id)::pt b2 (.cells #[v] 31 (0,0))::s) ?_
   ·rw[hsucc,zf7 (by rw[hin]; decide),zc4]; exact hw
   exact gA (ov,k+1) sB I I (by dsimp only; omega) lN
 ·have hkk:A.take k=A:=tL oM;rw[hkk];refine xI (tX (tX (bX (tN (sW I (aT I (rE (fT fun g3 hle3 hs3=>?_))))))));refine dR (s':=s) uR ?_;exact za6 (.inl I) results117 I ⟨I,hle.trans hle3,hs3⟩
def gn (L S:Nat)(l:List Cl):Prop:=l.length≤L∧∀ c∈l,c.sides.length≤S
theorem gn.mono {L S L' S':Nat}{l:List Cl}(h:gn L S l)(h1:L≤L')(h2:S≤S'):gn L' S' l:=⟨zk3 h.1 h1,fun c hc=>zk3 (h.2 c hc) h2⟩
theorem gn.fits {L S:Nat}{l:List Cl}(h:gn L S l)(h1:L<1099511627776)(h2:S<1099511627776):cU l:=⟨by have:=h.1; omega,fun c hc=>by have:=h.2 c hc; omega⟩
theorem gn.pick {L S:Nat}{l:List Cl}(h:gn L S l)(n:Int):(di l n).sides.length≤S:=by
 unfold di;rw[zg8];cases hc:l[(aI n l.length).toNat]? with
 | none=>simp[ET]
 | some c=>exact h.2 c (zf9 hc)
theorem gn.set {L S:Nat}{l:List Cl}(h:gn L S l)(k:Nat){c:Cl}(hc:c.sides.length≤2 * S+1):gn (L+1) (2 * S+1) (l.set k c):=by
 refine⟨by rw[zi1]; have:=h.1; omega,fun d hd=>?_⟩
 rcases List.mem_or_eq_of_mem_set hd with hd | rfl
 ·have:=h.2 d hd; omega
 ·omega
theorem gn.snoc {L S:Nat}{l:List Cl}(h:gn L S l){c:Cl}(hc:c.sides.length≤2 * S+1):gn (L+1) (2 * S+1) (l++[c]):=by
 refine⟨by rw[ze3,ze5]; have:=h.1; omega,fun d hd=>?_⟩
 rcases zf1.1 hd with hd | hd
 ·have:=h.2 d hd; omega
 ·simp at hd; subst hd; omega
theorem Bp {L S:Nat}{p:Prop}[Decidable p]{a b:List Cl}(ha:gn L S a)(hb:gn L S b):gn L S (if p then a else b):=by split <;> assumption
theorem uD {L S:Nat}{l:List Cl}(h:gn L S l)(q0 q1 q2:Int):gn (L+1) (2 * S+1) (jk l q0 q1 q2):=by
 unfold jk;split
 ·exact⟨by simp,by simp⟩
 ·have hx:=h.pick q1;have hy:=h.pick q2;generalize di l q1=x at *;generalize aI q0 13=m;unfold rH
  repeat' with_reducible refine Bp ?_ ?_
  ·exact h.set _ (c:=⟨_,_,x.sides⟩) (by show x.sides.length≤_; omega)
  ·exact h.set _ (c:=⟨_,_,x.sides⟩) (by show x.sides.length≤_; omega)
  ·exact⟨by have:=List.length_eraseIdx_le l (aI q1 l.length).toNat; have:=h.1; omega,fun c hc=>by have:=h.2 c (List.mem_of_mem_eraseIdx hc); omega⟩
  ·exact h.set _ (by simp only[jy,zi1]; omega)
  ·exact h.set _ (by simp only[jy,zi1]; omega)
  ·exact h.set _ (by simp only[jy,zi1]; omega)
  ·exact h.set _ (by simp only[jy]; have:=List.length_eraseIdx_le x.sides (dI x q2); omega)
  ·exact h.set _ (by simp only[jy,ze3,ze5]; omega)
  ·exact h.snoc (c:=x) oM
  ·exact h.set _ (by simp only[jy,ze3]; omega)
  ·exact h.set _ (by simp only[jy,ze4]; omega)
  ·exact h.snoc (c:=⟨_,_,x.sides⟩) (by show x.sides.length≤_; omega)
  ·exact⟨by have:=h.1; omega,fun c hc=>by have:=h.2 c hc; omega⟩
theorem rS {L S:Nat}{l:List Cl}(h:gn L S l):gn L S (ae l):=by
 refine⟨by have:=jO l; have:=h.1; omega,fun c hc=>?_⟩;have hc:=mL hc;simp only[aa,ze9] at hc;obtain ⟨c0,h0,rfl⟩:=hc;simp only[cN,eF];exact h.2 c0 ((dp l c0).1 h0)
theorem Be {S:Nat}{l:List Cl}(h:∀ c∈l,c.sides.length≤S):(l.map fun c=>c.sides.length).sum≤l.length * S:=by
 induction l with
 | nil=>simp
 | cons c r ih =>
  have h1:=h c (by simp);have h2:=ih fun d hd=>h d (by simp[hd]);simp only[zg2,List.sum_cons,ze6,Nat.succ_mul];omega
theorem gn.cost {L S:Nat}{l:List Cl}(h:gn L S l):fv (ae l) []≤L * S:=by
 have ht:=rS h;have h3:=Be ht.2;have h4:fv (ae l) []=((ae l).map fun c=>c.sides.length).sum:=by
  unfold fv;rw[List.filter_eq_self.2 (by simp)]
 have h5:(ae l).length * S≤L * S:=Nat.mul_le_mul_right S ht.1;omega
def i6 (l:List Cl):Prop:=∀ c∈l,dJ c.id
theorem i6.pick {l:List Cl}(h:i6 l)(n:Int):dJ (di l n).id:=by
 unfold di;rw[zg8];cases hc:l[(aI n l.length).toNat]? with
 | none=>exact⟨by decide,by decide⟩
 | some c=>exact h c (zf9 hc)
theorem i6.set {l:List Cl}(h:i6 l)(k:Nat){c:Cl}(hc:dJ c.id):i6 (l.set k c):=fun d hd=>by
 rcases List.mem_or_eq_of_mem_set hd with hd | rfl
 ·exact h d hd
 ·exact hc
theorem i6.snoc {l:List Cl}(h:i6 l){c:Cl}(hc:dJ c.id):i6 (l++[c]):=fun d hd=>by
 rcases zf1.1 hd with hd | hd
 ·exact h d hd
 ·simp at hd; subst hd; exact hc
theorem Ak {p:Prop}[Decidable p]{a b:List Cl}(ha:i6 a)(hb:i6 b):i6 (if p then a else b):=by split <;> assumption
theorem wY {l:List Cl}(h:i6 l)(q0 q1 q2:Int)(h1:dJ q1):i6 (jk l q0 q1 q2):=by
 unfold jk;split
 ·intro c hc;simp at hc;subst hc;exact h1
 ·have hx:=h.pick q1;have h9:=jW q2 9 dC dC;have h3:=jW q2 3 dC dC;generalize di l q1=x at *;generalize aI q0 13=m;unfold rH
  repeat' with_reducible refine Ak ?_ ?_
  ·exact h.set _ (c:=⟨_,_,x.sides⟩) ⟨by dsimp only; omega,by dsimp only; omega⟩
  ·exact h.set _ (c:=⟨_,_,x.sides⟩) hx
  ·exact fun c hc=>h c (List.mem_of_mem_eraseIdx hc)
  ·exact h.set _ hx
  ·exact h.set _ hx
  ·exact h.set _ hx
  ·exact h.set _ hx
  ·exact h.set _ hx
  ·exact h.snoc (c:=x) hx
  ·exact h.set _ hx
  ·exact h.set _ hx
  ·exact h.snoc (c:=⟨_,_,x.sides⟩) ⟨by dsimp only; omega,by dsimp only; omega⟩
  ·exact h
open Go.ChangeShapes Go.WideShapes Go.ChangeAt Go.RowKit
set_option maxRecDepth 100000
section
variable {H:Type}{enc:TypeId×Value→H}{W:World}{base:Nat}{spare:Nat→Bool}{hd:Bool}
theorem yo {n:Int}(h:(Lit.int .i64 n).wf=true):dJ n:=by
 have h2:IntKind.i64.min≤n∧n≤IntKind.i64.max:=by simpa [Lit.wf] using h
 have e1:IntKind.i64.min = -9223372036854775808:=by decide
 have e2:IntKind.i64.max=9223372036854775807:=by decide
 unfold dJ;omega
theorem vP {fuel:Nat}{c0 c1 c2:Value}{x:DataW H×List MemPlace}(h:DataW.trod enc Tryz.prog W base spare hd fuel 26 [c0,c1,c2]=some x):∃ a b c:Int,c0=vi a∧c1=vi b∧c2=vi c∧dJ a∧dJ b∧dJ c:=by
 obtain ⟨y0,y1,y2,n,_,h0,h1,h2⟩:=trod_array3 ja cells3 h;obtain ⟨a,e0,_,w0⟩:=DataW.trod_int uT3 h0;obtain ⟨b,e1,_,w1⟩:=DataW.trod_int uT3 h1;obtain ⟨c,e2,_,w2⟩:=DataW.trod_int uT3 h2;simp at e0 e1 e2;exact⟨a,b,c,e0,e1,e2,yo w0,yo w1,yo w2⟩
theorem Tryz.cells27:Tryz.prog.cellsOf 27=6:=by kernel_rfl
theorem Eb {r:Reach}{b0:Nat}{v:Value}{d:DataW H}{p:List MemPlace}(hv:Value.okWide Tryz.prog W r b0 27 v)(h:DataW.Trod enc Tryz.prog W base spare hd 27 v d p) :
  ∃ a0 a1 a2 c0 c1 c2:Int,v = .agg #[vi a0,vi a1,vi a2,vi c0,vi c1,vi c2]∧dJ a1∧dJ c1:=by
 obtain ⟨cs,rfl,hsz⟩:=tD underlying27 hv;rw[cells27] at hsz;obtain ⟨l⟩:=cs
 match l,hsz with
 | [c0,c1,c2,c3,c4,c5],_ =>
  obtain ⟨fuel,hf⟩:=h;obtain ⟨xs,m,_,_,_,hl,hel⟩:=DataW.trod_array underlying27 (show DataW.trod enc Tryz.prog W base spare hd fuel 27 [c0,c1,c2,c3,c4,c5]=some (d,p) by simpa [Value.cells] using hf);have h0:=hel 0 dC;have h1:=hel 1 dC;rw[cells26,gE oM] at h0 h1;obtain ⟨a0,a1,a2,rfl,rfl,rfl,_,w1,_⟩:=vP (c0:=c0) (c1:=c1) (c2:=c2) h0;obtain ⟨b0,b1,b2,rfl,rfl,rfl,_,w2,_⟩:=vP (c0:=c3) (c1:=c4) (c2:=c5) h1;exact⟨a0,a1,a2,b0,b1,b2,I,w1,w2⟩
end
theorem y7 {α β:Type}{ka:α→Int}{kb:β→Int}{f:α→β}(h:∀ a,kb (f a)=ka a)(x:α):∀ l:List α,ins kb (f x) (l.map f)=(ins ka x l).map f
 | []=>rfl
 | y::r=>by
  simp only[zg2,ins,h];split
  ·rfl
  ·rw[y7 h x r]; rfl
theorem lq {α β:Type}{ka:α→Int}{kb:β→Int}{f:α→β}(h:∀ a,kb (f a)=ka a):∀ l:List α,sortBy kb (l.map f)=(sortBy ka l).map f
 | []=>rfl
 | x::r=>by
  simp only[zg2,sortBy];rw[lq h r,y7 h]
abbrev Pr:=Int×Int
def Ring (adj:Pr→Pr→Bool)(l:List Pr):Prop:=l≠[]∧∀ x∈l,∃ y∈l,y≠x∧adj x y=true
def Cyc (adj:Pr→Pr→Bool)(m:List Pr):Prop:=∃ l,Ring adj l∧∀ x∈l,x∈m
inductive Pth (adj:Pr→Pr→Bool)(m:List Pr):Pr→Pr→Prop
 | one (x y:Pr) (hy:y∈m) (hne:y≠x) (ha:adj x y=true):Pth adj m x y
 | cons (x y z:Pr) (hy:y∈m) (hne:y≠x) (ha:adj x y=true) (h:Pth adj m y z):Pth adj m x z
def adjS (S:Int→List Int)(x y:Pr):Bool:=(S x.2).contains y.1
section
variable {p:Pr}{S:Int→List Int}{T:List Pr}
end
def EP (l:List Cl)(h:Int):List Int:=((AU l h).getD fK).sides.map aj.cell
structure Vd (l:List Cl)(T:List Pr):Prop where
 once:(T.map Prod.fst++T.map Prod.snd).Nodup
 side:∀ q∈T,q.1∈EP l q.2
 free:¬ Cyc (adjS (EP l)) T
section
variable {l:List Cl}(hl:(aU l).2=0)
include hl
end
structure Gd8 (l:List Cl):Prop where
 right:Rt (aa l)
 ids:∀ c∈l,0<c.id∧c.id≤4000
def at2 (p:Pr)(k:Nat):Int:=if k=0 then p.1 else p.2
end Go.Proofs.YtcfkpajlakidbaaGreatDoor
namespace Go.Sy
open Go Go.MapKept
section
variable {P:Program}{w:World}{t kt et:TypeId}{z:Value}{b:Nat}{es:Array MapEntry}{clk:Nat}{l:List (Int×Value)}
end
section
variable {P:Program}{N:Nat}{E:World}{f:Fr}{g:PH}{s:Own}{dst:Option Tmp}{ty:TypeId}{pos:String}{af:Array Edge}{gd:Option (Nat×Bool)}
variable {t kt et:TypeId}{z:Value}{b:Nat}{l:List (Int×Value)}{x y u:Operand}{k:Int}{v:Value}
end
end Go.Sy
namespace Go.Sy
open Go
section
variable {P:Program}{M:Md}{N:Nat}{E:World}{Q:Exit→Act→World→Prop}{f:Fr}{g:PH}{s:Own}{dst:Option Tmp}{ty:TypeId}{pos:String}{af:Array Edge}{gd:Option (Nat×Bool)}
end
end Go.Sy
namespace Go.Proofs.YtcfkpajlakidbaaGreatDoor
open _root_.Go.Proofs.Tryz _root_.Go.Proofs.YtcfkpajlakidbaaGreatDoor.Tryz
open Go Go.Sy Go.Pl Go.Proofs
set_option maxRecDepth 100000
set_option maxHeartbeats 1000000
set_option maxHeartbeats 2000000
section
variable {P:Program}{N:Nat}{E:World}{f:Fr}{g:PH}{s:Own}{dst:Option Tmp}{ty:TypeId}{pos:String}{af:Array Edge}{gd:Option (Nat×Bool)}
variable {t kt et:TypeId}{z:Value}{b:Nat}{l:List (Int×Value)}{x y u:Operand}{k:Int}{v:Value}
end
end Go.Proofs.YtcfkpajlakidbaaGreatDoor
namespace Go.Sy
open Go Go.MapKept
section
variable {P:Program}{w:World}{t kt et ty:TypeId}{z:Value}{b:Nat}{es:Array MapEntry}{clk:Nat}{l:List (Int×Value)}
end
section
variable {P:Program}{N:Nat}{E:World}{ops:Array Oper}{Q:Exit→Act→World→Prop}{f:Fr}{g:PH}{s:Own}{dst:Option Tmp}{ty:TypeId}{pos:String}{af:Array Edge}{gd:Option (Nat×Bool)}
variable {t kt et:TypeId}{z:Value}{b:Nat}{l:List (Int×Value)}{x y:Operand}{k:Int}
end
end Go.Sy
namespace Go.Sy
open Go
section
variable {P:Program}{N:Nat}{E:World}{f:Fr}{g:PH}{s:Own}{dst:Option Tmp}{ty:TypeId}{pos:String}{af:Array Edge}{gd:Option (Nat×Bool)}
theorem SQ.sof {o:Oper}{v:Value}(h:SQ P N E o f g s v):SO P N E o f g s fun v' g' s'=>v'=v∧g=g'∧s=s':=SO.mono h.so fun _ _ _ ⟨h1,h2,h3⟩=>⟨h1,h2.symm,h3.symm⟩
theorem SQ.loadOne {x:Operand}{T:TypeId}{b o:Nat}{v:Value}(hT:∀ w,(isAgg T).run P w = .ok true w)(hk:∀ w,(sizeOf T).run P w = .ok 1 w)(hx:ev f x=some (pp b o))(hc:eC g s ⟨b,o,none⟩ v) :
  SQ P N E ⟨dst,.load T x,ty,pos,af,gd⟩ f g s (.agg #[v]) :=
 SQ.loadAggAt (vs:=[v]) hT hk hx rfl fun j u hu=>by
  cases j with
  | zero=>simp at hu; subst hu; exact hc
  | succ j=>simp at hu
end
section
variable {α:Type}{k:Nat}{P:Program}{N:Nat}{E:World}{f:Fr}{g:PH}{s:Own}{dst:Option Tmp}{ty:TypeId}{pos:String}{af:Array Edge}{gd:Option (Nat×Bool)}
theorem SO.appNewA {e:Enc α k}{bytes:Nat}{x y:Operand}{t T:TypeId}{z u:Value}{p:Option Addr}{m:List α}(hT:STy P t T k bytes z)(hx:ev f x=some (.slice p 0 0))(hy:ev f y=some u)(hu:SlA e g u m)
  (hb:m.length * bytes≤140737488355328) (hlen:m.length≤4611686018427387904) :
  SO P N E ⟨dst,.call ⟨.builtin .append,#[x,y],#[t,t]⟩,ty,pos,af,gd⟩ f g s fun v' g' s'=>g=g'∧s'=rowA e T v' m::s:=fun a w ha hw =>
 aQ (e:=e) (l:=[]) (s:=rowA e T (.slice p 0 0) []::s) 0 hT hx hy rfl hu (by simpa using hb) (by simpa using hlen) a w ha (hw.emptyRow T k p)
end
section
variable {P:Program}{N:Nat}{E:World}{f:Fr}{g:PH}{s:Own}{fn:Func}{R:Value→PH→Own→Prop}{e:Exit}
end
end Go.Sy
namespace Go.Proofs.YtcfkpajlakidbaaGreatDoor
open _root_.Go.Proofs.Tryz _root_.Go.Proofs.YtcfkpajlakidbaaGreatDoor.Tryz
open Go Go.Sy Go.Pl Go.Proofs
set_option maxRecDepth 100000
set_option maxHeartbeats 1000000
structure Ed where
 kind:Int
 cell:Int
 dim:Int
 new:Int
 other:Int
 sides:List aj
 pairs:List Pr
abbrev Tm:=Int×Int
def DQ (n:Int):Bool:=decide (n<0)&&decide (tU n.natAbs≠[])
def nj:Enc Tm 3:=⟨fun p=>[vi p.1,vb (DQ p.2),txt (tU p.2.natAbs)],fun _=>rfl,fun _ u hu=>by simp at hu; rcases hu with rfl | rfl | rfl <;> rfl,by decide⟩
structure Im where
 cell:Int
 sv:Sv
def l8:Enc Im 2:=⟨fun r=>[vi r.cell,.slice r.sv.p r.sv.n r.sv.c],fun _=>rfl,fun _ u hu=>by simp at hu; rcases hu with rfl | rfl <;> rfl,by decide⟩
def ImR (g:PH)(c:Int×List Tm)(r:Im):Prop:=r.cell=c.1∧SlA nj g (.slice r.sv.p r.sv.n r.sv.c) c.2
theorem ImR.mono {g g':PH}(hl:Le g g'){c:Int×List Tm}{r:Im}(h:ImR g c r):ImR g' c r:=⟨h.1,za3 h.2 hl⟩
def Ims (g:PH)(v:Value)(l:List (Int×List Tm)):Prop:=∃ rs,SlA l8 g v rs∧au (ImR g) l rs
theorem Ims.mono {g g':PH}{v:Value}{l:List (Int×List Tm)}(h:Ims g v l)(hl:Le g g'):Ims g' v l:=by
 obtain ⟨rs,h1,h2⟩:=h;exact⟨rs,za3 h1 hl,h2.mono fun _ _=>ImR.mono hl⟩
theorem Tryz.build87 (x:Int)(b:Bool)(l:List UInt8)(w:World):(Instr.build 87 #[(0,vi x),(1,.agg #[vb b,txt l])]).run Tryz.prog w = .ok (.agg #[vi x,vb b,txt l]) w:=by
 have h1:(vi x).cells = #[vi x]:=rfl;have h2:(Value.agg #[vb b,txt l]).cells = #[vb b,txt l]:=rfl;simp[Instr.build,Instr.fill,h1,h2];rfl
theorem Tryz.sty76:STy Tryz.prog 76 87 3 32 (.agg #[vi 0,vb false,txt []]):=⟨underlying76,⟨t87,by kernel_rfl,by kernel_rfl,by kernel_rfl,by kernel_rfl⟩,rfl,by decide⟩
theorem Tryz.sty43:STy Tryz.prog 43 78 2 32 (.agg #[vi 0,.slice none 0 0]):=⟨underlying43,⟨t78,by kernel_rfl,by kernel_rfl,by kernel_rfl,by kernel_rfl⟩,rfl,by decide⟩
set_option maxHeartbeats 2000000
set_option maxHeartbeats 4000000
end Go.Proofs.YtcfkpajlakidbaaGreatDoor
namespace Go.Sy
open Go
section
variable {P:Program}{N:Nat}{E:World}{ops:Array Oper}{Q:Exit→Act→World→Prop}{g0:PH}{s0:Own}{tail:List Nat}{f:Fr}{g:PH}{s s':Own}{L:Array Bool}{n:Nat}
end
end Go.Sy
namespace Go.Proofs.YtcfkpajlakidbaaGreatDoor
open _root_.Go.Proofs.Tryz _root_.Go.Proofs.YtcfkpajlakidbaaGreatDoor.Tryz
open Go Go.Sy Go.Pl Go.Proofs
set_option maxRecDepth 100000
set_option maxHeartbeats 4000000
end Go.Proofs.YtcfkpajlakidbaaGreatDoor
namespace Go.Sy
open Go Go.MapKept
instance quiet_scope {Q:Exit→Act→World→Prop}[h:Quiet Q]:Quiet (Exit.noGoto Q):=⟨fun c a a' w hd hq=>h.out c a a' w hd hq⟩
section
variable {P:Program}{N:Nat}{E:World}{Q:Exit→Act→World→Prop}{f:Fr}{g:PH}{s:Own}
theorem SC.scope {c:Code}(h:SC P N E c (Exit.noGoto Q) f g s):SC P N E (.scope c) Q f g s:=fun a w ha hw=>wp_scope_straight (h a w ha hw)
theorem ST.scopeR (h:ST N E Q .ret f g s):ST N E (Exit.noGoto Q) .ret f g s:=h
end
end Go.Sy
namespace Go.Proofs.YtcfkpajlakidbaaGreatDoor
open _root_.Go.Proofs.Tryz _root_.Go.Proofs.YtcfkpajlakidbaaGreatDoor.Tryz
open Go Go.Sy Go.Pl Go.Proofs Go.Shelf Go.Sort
set_option maxRecDepth 100000
set_option maxHeartbeats 2000000
open Go Go.Sy Go.Pl Go.Proofs
set_option maxHeartbeats 4000000
instance:Inhabited aj:=⟨⟨0,0⟩⟩
end Go.Proofs.YtcfkpajlakidbaaGreatDoor
namespace Go.Sy
open Go Go.MapKept
section
variable {P:Program}{N:Nat}{E:World}{f:Fr}{g:PH}{s:Own}{dst:Option Tmp}{ty:TypeId}{pos:String}{af:Array Edge}{gd:Option (Nat×Bool)}
variable {t kt et:TypeId}{m r clk:Nat}{es:Array MapEntry}{vis:List MapEntry}{x y u:Operand}{l vl:List (Int×Value)}{z:Value}{b:Nat}{k:Int}{v:Value}
abbrev mx (b:Nat)(es:Array MapEntry)(clk:Nat):Ent:=pt b (.map es clk)
end
end Go.Sy
namespace Go.Proofs.YtcfkpajlakidbaaGreatDoor
open _root_.Go.Proofs.Tryz _root_.Go.Proofs.YtcfkpajlakidbaaGreatDoor.Tryz
open Go Go.Sy Go.Pl Go.Proofs
section
variable {F:Cl→Cl}(hF:∀ y,(F y).id=y.id)
include hF
end
set_option maxRecDepth 100000
set_option maxHeartbeats 8000000
set_option maxHeartbeats 4000000
set_option maxHeartbeats 1000000
set_option maxHeartbeats 2000000
structure Er where
 kind:Int
 cell:Int
 dim:Int
 new:Int
 other:Int
 sv:Sv
 pv:Sv
structure Sr where
 sv:Sv
 bk:Bool
theorem tmIn (x:Tm)(w:World):(Op.equalIn 10000 87 (.agg (nj.enc x).toArray) (.agg (nj.enc x).toArray)).run Tryz.prog w = .ok true w:=by
 have hu:Tryz.prog.underlying 87=some (.struct (Tryz.prog.fieldsOf 87)):=by kernel_rfl
 have hu2:Tryz.prog.underlying 84=some (.struct (Tryz.prog.fieldsOf 84)):=by kernel_rfl
 rw[run_equalIn_agg w 9999 87 _ _ hu stoodInHeld87]
 have hfs : ∃ f1 f2,(Tryz.prog.fieldsOf 87).toList = [f1,f2] ∧ f1.name ≠ "_" ∧ f2.name ≠ "_" ∧ f1.type = 3 ∧ f2.type = 84 ∧ f1.offset = 0 ∧ f2.offset = 1:=⟨_,_,rfl,by decide,by decide,rfl,rfl,rfl,rfl⟩
 obtain ⟨f1,f2,e,n1,n2,t1,t2,o1,o2⟩:=hfs
 have hgs : ∃ f1 f2,(Tryz.prog.fieldsOf 84).toList = [f1,f2] ∧ f1.name ≠ "_" ∧ f2.name ≠ "_" ∧ f1.type = 4 ∧ f2.type = 9 ∧ f1.offset = 0 ∧ f2.offset = 1:=⟨_,_,rfl,by decide,by decide,rfl,rfl,rfl,rfl⟩
 obtain ⟨f3,f4,e2,n3,n4,t3,t4,o3,o4⟩:=hgs;obtain ⟨a,n⟩:=x;rw[e];have h1:=run_equalIn_int (P:=Tryz.prog) w 9998 3 .i64 .i64 a a uT3;have h2:(Op.equalIn 9999 84 (.agg #[vb (DQ n),txt (tU n.natAbs)]) (.agg #[vb (DQ n),txt (tU n.natAbs)])).run Tryz.prog w = .ok true w:=by
  rw[run_equalIn_agg w 9998 84 _ _ hu2 stoodInHeld84,e2];have h3:=run_equalIn_bool (P:=Tryz.prog) w 9997 4 (DQ n) (DQ n) underlying4;have h4:=run_equalIn_string (P:=Tryz.prog) w 9997 9 ⟨(tU n.natAbs).toArray⟩ ⟨(tU n.natAbs).toArray⟩ underlying9;simp only[Op.eqFields,n3,n4,t3,t4,o3,o4,txt,Go.part,ne_eq,not_false_eq_true,if_true,Sem.run_bind,isAgg4,isAgg9,zc8];simp[h3,h4]
 simp only[Op.eqFields,n1,n2,t1,t2,o1,o2,nj,Go.part,ne_eq,not_false_eq_true,if_true,Sem.run_bind,iT3,isAgg84,rK,zc8];simp[h1,h2]
theorem SU.neqTmT {N:Nat}{f:Fr}{dst:Option Tmp}{ty:TypeId}{pos:String}{af:Array Edge}{gd:Option (Nat×Bool)}{x y:Operand}(a:Tm){U:TypeId}(hx:ev f x=some (.agg (nj.enc a).toArray))(hy:ev f y=some (.agg (nj.enc a).toArray)) :
  SU Tryz.prog N ⟨dst,.binOp .neq 87 x y U,ty,pos,af,gd⟩ f (vb false):=fun ac w ha=>by
 have hg:=run_eqGuard_agg (P:=Tryz.prog) w .neq 87 x y (nj.enc a).toArray (nj.enc a).toArray eqGuardType87;simp only[execOp,ha.ev hx,ha.ev hy,Sem.run_bind,hg,zc8];rw[run_neq_struct,tmIn];rfl
theorem tr (E:World)(g:PH)(s:Own)(v u:Value)(L:List (Int×List Tm))(hv:Ims g v L)(hu:Ims g u L)(hs:L.length≤4000∧∀ p∈L,p.2.length≤64) :
  Ctr Tryz.prog E 75 #[.agg #[v],.agg #[u]] g s (fun r g' s'=>r=vb true∧g=g'∧s=s'):=by
 obtain ⟨ra,hra,halla⟩:=hv;obtain ⟨rb,hrb,hallb⟩:=hu;have eal:=halla.length;have ebl:=hallb.length;have hll:=hs.1;obtain ⟨pa,ca,rfl⟩:=za2 hra;obtain ⟨pb,cb,rfl⟩:=za2 hrb;refine za9 (args:=[.agg #[.slice pa ra.length ca],.agg #[.slice pb rb.length cb]]) func75 I ntmps75 (bE I) ?_;refine rZ (bW (bO I) fun b2=>?_);refine bW (bO I) fun b3=>?_;refine aT I (sQ (rZ (lU (fA rM I oA I) (lK (qL (v:=.slice pa ra.length ca) isAgg43 I (cO 1 I I)) (lU (eN underlying43 I) (lU (fA rM I oA I) (lK (qL (v:=.slice pb rb.length cb) isAgg43 I (cO 0 I I)) (lU (eN underlying43 I) (lU (SU.eq (v':=vb false) (nQ I I) (zd9 vb (zf5 (by (try simp only[slen]); omega)))) ?_)))))))));refine tZ (cF I (kP (tN (sQ (rZ (aT I (bK ?_)))))));refine oP (ι:=Nat) (fun k=>[(2,pp b2 0),(3,pp b3 0),(5,vi k)]) (fun _=>g) (fun _=>pt b3 (.cells #[.slice pb rb.length cb] 45 (0,0))::pt b2 (.cells #[.slice pa ra.length ca] 45 (0,0))::s) (fun k=>k≤L.length) (fun k=>L.length - k) 0 sB I I (zf4 _) ?_;rintro k hk;try dsimp only at hk ⊢
 refine sQ (sW I (lU (fA rM I oA I) (lK (qL (v:=.slice pa ra.length ca) isAgg43 I (cO 1 I I)) (lU (eN underlying43 I) (yL I (tZ ?_))))));refine iP I (fun hlt=>?_) (fun hlt=>?_)
 ·have hkl:k<L.length:=oM;have hb1:=za4 hra oM;have hb2:=za4 hrb oM;have h1:=halla.get (gE hkl) (gE (show k<ra.length by omega));have h2:=hallb.get (gE hkl) (gE (show k<rb.length by omega));have g1:ra[((k:Nat):Int).toNat]?=some ra[k]:=gE (show k<ra.length by omega);have g2:rb[((k:Nat):Int).toNat]?=some rb[k]:=gE (show k<rb.length by omega);have hxl:=hs.2 _ (gM hkl);generalize L[k]=X at *;generalize ra[k]=xa at *;generalize rb[k]=xb at *;obtain ⟨ia,pA,nA,cA⟩:=xa;obtain ⟨ib,pB,nB,cB⟩:=xb;obtain ⟨f1,hA⟩:=h1;obtain ⟨f2,hB⟩:=h2;dsimp only at f1 f2 hA hB;subst f1 f2;have hnA:nA=X.2.length:=zb9 hA;have hnB:nB=X.2.length:=zb9 hB;subst hnA hnB;refine kP (tN (sQ (bK (rZ (lU (fA rM I oA I) (lK (qL (v:=.slice pa ra.length ca) isAgg43 I (cO 1 I I)) (lM I (lU (iA underlying43 tQ I I hb1 oM sL) (lK (eA isAgg78 tQ I (za5 hra) g1) (bW (aL zeroValue78) fun b6=>?_))))))))));refine oZ (sK 0 tQ I I I I I sB) ?_;refine tZ (rZ (lU (fA rM I oA I) (lK (qL (v:=.slice pb rb.length cb) isAgg43 I (cO 1 I I)) (lM I (lU (iA underlying43 tQ I I hb2 oM sL) (lK (eA isAgg78 tQ I (za5 hrb) g2) (bW (aL zeroValue78) fun b7=>?_)))))));refine oZ (sK 0 tQ I I I I I sB) ?_;refine tZ (sQ (rZ (lU (fA vI I zT3 I) (lK (qL (v:=vi X.1) iT3 I (cO 1 I I)) (lU (fA vI I zT3 I) (lK (qL (v:=vi X.1) iT3 I (cO 0 I I)) (lU (SU.eq (v':=vb false) (nQ I I) (zd9 vb (zf5 (by simp)))) ?_)))))));refine lM I (lY I I I (fA vI I sizeOf76 I) (SL.gq (gT I I I dC) (qL (v:=.slice pA X.2.length cA) isAgg76 I (cO 1 I I)) dC (lY I I I (eN underlying76 I) (lY I I I (fA vI I sizeOf76 I) (SL.gq (gT I I I dC) (qL (v:=.slice pB X.2.length cB) isAgg76 I (cO 0 I I)) dC (lY I I I (eN underlying76 I) (lY I I I (SU.eq (v':=vb false) (nQ I I) (zd9 vb (zf5 (by simp[slen])))) ?_)))))));refine yF I (tZ (cF I (kP (tN (rZ (aT I (bK ?_)))))));refine oP (ι:=Nat) (fun j=>[(2,pp b2 0),(3,pp b3 0),(5,vi k),(6,pp b6 0),(7,pp b7 0),(8,vi j)]) (fun _=>g) (fun _=>pt b7 (.cells #[vi X.1,.slice pB X.2.length cB] 78 (0,0))::pt b6 (.cells #[vi X.1,.slice pA X.2.length cA] 78 (0,0))::pt b3 (.cells #[.slice pb rb.length cb] 45 (0,0))::pt b2 (.cells #[.slice pa ra.length ca] 45 (0,0))::s)
   (fun j=>j≤X.2.length) (fun j=>X.2.length - j) 0 sB rfl rfl (zf4 _) ?_
  rintro j hj;try dsimp only at hj ⊢
  refine sQ (sW I (lU (fA vI I sizeOf76 I) (lK (qL (v:=.slice pA X.2.length cA) isAgg76 I (cO 1 I I)) (lU (eN underlying76 I) (yL I (tZ ?_))))));refine iP I (fun hlt2=>?_) (fun hlt2=>?_)
  ·have hjl:j<X.2.length:=oM;have hb3:=za4 hA oM;have hb4:=za4 hB oM;have g3:X.2[((j:Nat):Int).toNat]?=some X.2[j]:=gE hjl;generalize X.2[j]=z at *;refine kP (tN (sQ (bK (sQ ?_))));refine dW [] [(0,2),(1,1),(2,2),(3,2),(4,1),(5,2),(6,1),(7,2),(8,2),(9,1),(10,2)] ze1 kR ?_;refine pU I (fA vI I sizeOf76 I) (pK I (qL (v:=.slice pA X.2.length cA) isAgg76 I (cO 1 I I)) (yM I (pU I (iA underlying76 sizeOf87 I I hb3 oM sL) (pK I (eA isAgg87 sizeOf87 I (za5 hA) g3) (pU I (fA vI I sizeOf76 I) (pK I (qL (v:=.slice pB X.2.length cB) isAgg76 I (cO 0 I I)) (yM I (pU I (iA underlying76 sizeOf87 I I hb4 oM sL) (pK I (eA isAgg87 sizeOf87 I (za5 hB) g3) (pU I (SU.neqTmT z I I) (pN (tN (cF I (kP (bN (tN (rG (lM I (yD I (lA I (nL ?_)))))))))))))))))))));exact gA (j+1) sB I I oM oM
  ·refine xI (tX (tX (bX (bN (tN (rG (lM I (yD I (lA I (nL (dR (.cons _ (.cons _ (.refl _))) ?_)))))))))));exact gA (k+1) sB I I oM oM
 ·refine xI (tX (tX (bX (tN (rZ (aT I (rE (dR (s':=s) uR ?_))))))));exact za6 (.inl I) results75 I ⟨I,I,I⟩
def incS (S:List aj)(r:Int):Int:=(S.map fun y=>if y.cell=r then y.sign else 0).sum
def inc (A:List Cl)(id r:Int):Int:=incS ((aG A id).getD fK).sides r
def cf (ts:List Tm)(r:Int):Int:=(ts.map fun t=>if t.1=r then t.2 else 0).sum
def chL (D:List Cl)(ts:List Tm)(r:Int):Int:=(ts.map fun t=>t.2 * inc D t.1 r).sum
def chR (img:Int→List Tm)(S:List aj)(r:Int):Int:=(S.map fun y=>y.sign * cf (img y.cell) r).sum
def DP (A D:List Cl)(img:Int→List Tm):Prop:=∀ x∈A,∀ r,chL D (img x.id) r=chR img x.sides r
def EA (D:List Cl)(d:Int)(ts:List Tm):Prop:=(ts.Pairwise fun a b=>a.1<b.1)∧(∀ t∈ts,t.2=1∨t.2 = -1)∧(∀ t∈ts,∃ c,aG D t.1=some c∧c.dim=d)∧ts.length≤64
structure D1 (l m:List Cl)(img:Int→List Tm):Prop where
 cl:(aU l).2=0
 cm:(aU m).2=0
 fit:∀ x∈aa l,EA (aa m) x.dim (img x.id)
 chain:DP (aa l) (aa m) img
section
variable {l m:List Cl}{img:Int→List Tm}(h:D1 l m img)
include h
end
def allI (Ls:List (List Cl)):List Int:=(ae Ls.flatten).map Cl.id
def yv (A B:List Cl)(id:Int):Bool:=decide (aG A id=aG B id)
def pickT (B L R:List Cl)(id:Int):Option (Option Cl) :=
 if yv L R id||yv R B id then some (aG L id) else if yv L B id then some (aG R id) else none
def aR (B L R:List Cl):List Cl:=(allI [B,L,R]).filterMap fun id=>(pickT B L R id).join
structure JInv (tl:List Cl)(l:List aj)(J:List Int):Prop where
 len:J.length=l.length
 low:∀ (i:Nat) (v:Int),J[i]?=some v→0≤v∧v≤i
 link:∀ (i:Nat) (v:Int) (x y:aj),J[i]?=some v→l[i]?=some x→l[v.toNat]?=some y→Cn (s6 tl l) x.cell y.cell
end Go.Proofs.YtcfkpajlakidbaaGreatDoor
namespace Go.Sy
open Go
section
variable {P:Program}{b:Frame}{a:Act}{k:List Item}{cs:List Frame}{w:World}{Q:Exit→Act→World→Prop}
end
section
variable {P:Program}{M:Md}{N:Nat}{E:World}{Q:Exit→Act→World→Prop}{f:Fr}{g:PH}{s:Own}
end
section
variable {P:Program}{M:Md}{N:Nat}{E:World}{Q:Exit→Act→World→Prop}{f:Fr}{g:PH}{s:Own}{dst:Option Tmp}{ty:TypeId}{pos:String}{af:Array Edge}{gd:Option (Nat×Bool)}
end
section
variable {P:Program}{M:Md}{N:Nat}{E:World}{Q:Exit→Act→World→Prop}{f:Fr}{g:PH}{s:Own}{ops:Array Oper}{b:Nat}{o:Obj}
end
section
variable {P:Program}{M:Md}{N:Nat}{E:World}{ops:Array Oper}{Q:Exit→Act→World→Prop}{g0:PH}{s0:Own}{tail:List Nat}{f:Fr}{g:PH}{s s':Own}{L:Array Bool}{n:Nat}
end
end Go.Sy
namespace Go.Proofs.YtcfkpajlakidbaaGreatDoor
open _root_.Go.Proofs.Tryz _root_.Go.Proofs.YtcfkpajlakidbaaGreatDoor.Tryz
open Go Go.Sy Go.Pl Go.Proofs
set_option maxRecDepth 100000
set_option maxHeartbeats 4000000
open Go Go.Sy Go.Pl Go.Proofs Go.Shelf Go.Sort
def EO (ts:List Tm):Prop:=∀ t∈ts,dJ t.1
structure Tame (ts:List Tm):Prop where
 part:∀ j r,(cf (ts.take j) r).natAbs≤1000000000
 coef:∀ t∈ts,t.2.natAbs≤1000000000
 len:ts.length<1000000
 fit:EO ts
theorem bI (a:Int)(u:Value)(r:List (Int×Value))(k:Int):fj ((a,u)::r) k=if k=a then some u else fj r k:=by
 unfold fj;rw[fnd];split
 ·rfl
 ·exact kN k r 1
set_option maxHeartbeats 8000000
end Go.Proofs.YtcfkpajlakidbaaGreatDoor
namespace Go.Pl
def aR (l:List Nat)(f:Nat→Int):Int:=(l.map f).sum
theorem mM (f:Nat→Int):aR [] f=0:=rfl
theorem cZ (a:Nat)(l:List Nat)(f:Nat→Int):aR (a::l) f=f a+aR l f:=by simp[aR]
theorem ks (l m:List Nat)(f:Nat→Int):aR (l++m) f=aR l f+aR m f:=by simp[aR]
theorem qv (l:List Nat)(f g:Nat→Int):aR l (fun j=>f j+g j)=aR l f+aR l g:=by
 induction l with
 | nil=>rfl
 | cons a l ih=>simp only[cZ,ih]; omega
theorem dv (l:List Nat)(c:Int)(f:Nat→Int):aR l (fun j=>c * f j)=c * aR l f:=by
 induction l with
 | nil=>simp[aR]
 | cons a l ih=>simp only[cZ,ih,Int.mul_add]
theorem fD (l:List Nat)(c:Int)(f:Nat→Int):aR l (fun j=>f j * c)=aR l f * c:=by
 induction l with
 | nil=>simp[aR]
 | cons a l ih=>simp only[cZ,ih,Int.add_mul]
theorem iT (l:List Nat):aR l (fun _=>0)=0:=by
 induction l with
 | nil=>rfl
 | cons a l ih=>simp only[cZ,ih]; rfl
theorem ax {l:List Nat}{f g:Nat→Int}(h:∀ j∈l,f j=g j):aR l f=aR l g:=by
 unfold aR;rw[List.map_congr_left h]
theorem eZ (l m:List Nat)(f:Nat→Nat→Int):aR l (fun i=>aR m fun j=>f i j)=aR m fun j=>aR l fun i=>f i j:=by
 induction l with
 | nil=>simp only[mM,iT]
 | cons a l ih=>simp only[cZ,ih,qv]
def Eqm (p a b:Int):Prop:=p ∣ a - b
section
variable {p:Int}
theorem Eqm.refl (a:Int):Eqm p a a:=by unfold Eqm; rw[Int.sub_self]; exact Int.dvd_zero p
theorem Eqm.symm {a b:Int}(h:Eqm p a b):Eqm p b a:=by
 unfold Eqm at *;have:=Int.dvd_neg.2 h;rwa [Int.neg_sub] at this
theorem Eqm.trans {a b c:Int}(h:Eqm p a b)(k:Eqm p b c):Eqm p a c:=by
 unfold Eqm at *;have:=Int.dvd_add h k;rwa [show a - b+(b - c)=a - c by omega] at this
theorem Eqm.add {a b c d:Int}(h:Eqm p a b)(k:Eqm p c d):Eqm p (a+c) (b+d):=by
 unfold Eqm at *;have:=Int.dvd_add h k;rwa [show a - b+(c - d)=a+c - (b+d) by omega] at this
theorem Eqm.mul {a b c d:Int}(h:Eqm p a b)(k:Eqm p c d):Eqm p (a * c) (b * d):=by
 unfold Eqm at *;have h1:p ∣ (a - b) * c:=Int.dvd_mul_of_dvd_left h;have h2:p ∣ b * (c - d):=Int.dvd_mul_of_dvd_right k;have:=Int.dvd_add h1 h2;rwa [Int.sub_mul,Int.mul_sub,show a * c - b * c+(b * c - b * d)=a * c - b * d by omega] at this
theorem Eqm.of {a b:Int}(h:a=b):Eqm p a b:=by rw[h]; exact .refl b
theorem Eqm.sum {l:List Nat}{f g:Nat→Int}(h:∀ j∈l,Eqm p (f j) (g j)):Eqm p (aR l f) (aR l g):=by
 induction l with
 | nil=>exact .refl _
 | cons a l ih =>
  rw[cZ,cZ];exact (h a (by simp)).add (ih fun j hj=>h j (by simp[hj]))
theorem Eqm.sum0 {l:List Nat}{f:Nat→Int}(h:∀ j∈l,Eqm p (f j) 0):Eqm p (aR l f) 0:=by
 have:=Eqm.sum (g:=fun _=>0) h;rwa [iT] at this
def Fld (p:Int):Prop:=¬ Eqm p 1 0∧∀ a,¬ Eqm p a 0→∃ b,Eqm p (a * b) 1
theorem qB (hp:Fld p):∀ (s:Nat) (cs:List Nat) (Y:Nat→Nat→Int),cs.Nodup→s<cs.length→∃ v:Nat→Int,(∃ j∈cs,¬ Eqm p (v j) 0)∧∀ i,i<s→Eqm p (aR cs fun j=>Y i j * v j) 0
 | 0,cs,Y,_,hs=>by
  cases cs with
  | nil=>simp at hs
  | cons a l=>exact⟨fun _=>1,⟨a,by simp,hp.1⟩,fun i hi=>by omega⟩
 | s+1,cs,Y,hn,hs=>by
  by_cases hall:∀ j∈cs,Eqm p (Y s j) 0
  ·obtain ⟨v,h1,h2⟩:=qB hp s cs Y hn (by omega);refine⟨v,h1,fun i hi=>?_⟩;by_cases e:i=s
   ·subst e;refine Eqm.sum0 fun j hj=>?_;have:=(hall j hj).mul (Eqm.refl (v j));rwa [Int.zero_mul] at this
   ·exact h2 i (by omega)
  ·have ⟨j0,hj0,hy⟩:∃ j0∈cs,¬ Eqm p (Y s j0) 0:=by
    apply Classical.byContradiction;intro h;exact hall fun j hj=>Classical.byContradiction fun k=>h ⟨j,hj,k⟩
   obtain ⟨b,hb⟩:=hp.2 _ hy;obtain ⟨l1,l2,rfl⟩:=List.append_of_mem hj0;have hn2:(l1++l2).Nodup:=by
    have:=(List.nodup_append.1 hn);refine List.nodup_append.2 ⟨this.1,(List.nodup_cons.1 this.2.1).2,fun x hx y hy=>this.2.2 x hx y (by simp[hy])⟩
   have hnot:∀ j∈l1++l2,j≠j0:=fun j hj e=>by
    subst e;have h3:=List.nodup_append.1 hn
    rcases List.mem_append.1 hj with h | h
    ·exact h3.2.2 j h j (by simp) rfl
    ·exact (List.nodup_cons.1 h3.2.1).1 h
   obtain ⟨v,⟨j1,hj1,hv1⟩,h2⟩:=qB hp s (l1++l2) (fun i j=>Y i j - Y i j0 * b * Y s j) hn2 (by simp at hs ⊢; omega)
   let t:Int:=-(b * aR (l1++l2) fun j=>Y s j * v j)
   let w:Nat→Int:=fun j=>if j=j0 then t else v j
   have hw:∀ j∈l1++l2,w j=v j:=fun j hj=>if_neg (hnot j hj);have hsum:∀ i,aR (l1++j0::l2) (fun j=>Y i j * w j)=(aR (l1++l2) fun j=>Y i j * v j)+Y i j0 * t:=fun i=>by
    rw[ks,cZ,ks];have e1:aR l1 (fun j=>Y i j * w j)=aR l1 fun j=>Y i j * v j:=ax fun j hj=>by rw[hw j (by simp[hj])]
    have e2:aR l2 (fun j=>Y i j * w j)=aR l2 fun j=>Y i j * v j:=ax fun j hj=>by rw[hw j (by simp[hj])]
    have e3:w j0=t:=if_pos rfl;rw[e1,e2,e3];omega
   refine⟨w,⟨j1,by rcases List.mem_append.1 hj1 with h | h <;> simp[h],by rw[hw j1 hj1]; exact hv1⟩,fun i hi=>?_⟩;rw[hsum i];by_cases e:i=s
   ·subst e;have h3:Eqm p (Y i j0 * t) (-(aR (l1++l2) fun j=>Y i j * v j)):=by
     have:=(hb.mul (Eqm.refl (-(aR (l1++l2) fun j=>Y i j * v j))));rw[Int.one_mul] at this;refine Eqm.trans (Eqm.of ?_) this;show Y i j0 * -(b * _)=_;rw[Int.mul_neg,Int.mul_neg,Int.mul_assoc]
    have:=(Eqm.refl (aR (l1++l2) fun j=>Y i j * v j)).add h3;rwa [Int.add_right_neg] at this
   ·have h4:=h2 i (by omega);refine Eqm.trans (Eqm.of ?_) h4;have h5:(aR (l1++l2) fun j=>(Y i j - Y i j0 * b * Y s j) * v j)=(aR (l1++l2) fun j=>Y i j * v j)+aR (l1++l2) fun j=>-(Y i j0 * b) * (Y s j * v j):=by
     rw[← qv];refine ax fun j _=>?_;rw[Int.sub_mul,Int.neg_mul,Int.mul_assoc (Y i j0 * b)];omega
    rw[h5,dv];show _+Y i j0 * -(b * _)=_;rw[Int.mul_neg,Int.neg_mul,Int.mul_assoc]
theorem Cu (hp:Fld p){r s:Nat}{X Y:Nat→Nat→Int}(h:∀ i,i<r→∀ j,j<r→Eqm p (aR (List.range s) fun k=>X i k * Y k j) (if i=j then 1 else 0)):r≤s:=by
 apply Classical.byContradiction;intro hlt;obtain ⟨v,⟨j,hj,hv⟩,h2⟩:=qB hp s (List.range r) Y List.nodup_range (by simp; omega);rw[List.mem_range] at hj;apply hv;have h3:Eqm p (aR (List.range r) fun k=>(aR (List.range s) fun i=>X j i * Y i k) * v k) (aR (List.range r) fun k=>(if j=k then 1 else 0) * v k) :=
  Eqm.sum fun k hk=>(h j hj k (List.mem_range.1 hk)).mul (Eqm.refl _)
 have h4:(aR (List.range r) fun k=>(aR (List.range s) fun i=>X j i * Y i k) * v k)=aR (List.range s) fun i=>X j i * aR (List.range r) fun k=>Y i k * v k:=by
  have e:∀ k,(aR (List.range s) fun i=>X j i * Y i k) * v k=aR (List.range s) fun i=>X j i * (Y i k * v k):=fun k=>by
   rw[← fD];exact ax fun i _=>Int.mul_assoc _ _ _
  simp only[e];rw[eZ];exact ax fun i _=>dv _ _ _
 have h5:Eqm p (aR (List.range s) fun i=>X j i * aR (List.range r) fun k=>Y i k * v k) 0:=Eqm.sum0 fun i hi=>by
  have:=(Eqm.refl (X j i)).mul (h2 i (List.mem_range.1 hi));rwa [Int.mul_zero] at this
 have h6:∀ n,j<n→(aR (List.range n) fun k=>(if j=k then 1 else 0) * v k)=v j:=fun n hn=>by
  induction n with
  | zero=>omega
  | succ n ih =>
   rw[List.range_succ,ks,cZ,mM];by_cases e:j=n
   ·subst e;rw[if_pos rfl,Int.one_mul,ax (g:=fun _=>0) (fun k hk=>by rw[if_neg (by have:=List.mem_range.1 hk; omega),Int.zero_mul]),iT];omega
   ·rw[ih (by omega),if_neg e];omega
 rw[h4,h6 r hj] at h3;exact h3.symm.trans h5
structure dS (p:Int)(A:Nat→Nat→Int)(m n r:Nat):Prop where
 thru:∃ X Y:Nat→Nat→Int,∀ i,i<m→∀ j,j<n→Eqm p (A i j) (aR (List.range r) fun k=>X i k * Y k j)
 one:∃ L R:Nat→Nat→Int,∀ i,i<r→∀ j,j<r→Eqm p (aR (List.range m) fun a=>L i a * aR (List.range n) fun b=>A a b * R b j) (if i=j then 1 else 0)
theorem dS.le (hp:Fld p){A A' U V:Nat→Nat→Int}{m n m' n' r r':Nat}(h:dS p A m n r)(h':dS p A' m' n' r')
  (hu:∀ i,i<m'→∀ j,j<n'→Eqm p (A' i j) (aR (List.range m) fun a=>U i a * aR (List.range n) fun b=>A a b * V b j)):r'≤r:=by
 obtain ⟨X,Y,hXY⟩:=h.thru;obtain ⟨L,R,hLR⟩:=h'.one;refine Cu hp (X:=fun i k=>aR (List.range m') fun a=>L i a * aR (List.range m) fun c=>U a c * X c k) (Y:=fun k j=>aR (List.range n') fun b=>(aR (List.range n) fun d=>Y k d * V d b) * R b j) fun i hi j hj=>?_;refine Eqm.trans ?_ (hLR i hi j hj);have key:∀ a,a<m'→∀ b,b<n'→Eqm p (aR (List.range r) fun k=>(aR (List.range m) fun c=>U a c * X c k) * aR (List.range n) fun d=>Y k d * V d b) (A' a b):=fun a ha b hb=>by
  refine Eqm.trans ?_ (hu a ha b hb).symm;have e1:(aR (List.range r) fun k=>(aR (List.range m) fun c=>U a c * X c k) * aR (List.range n) fun d=>Y k d * V d b)=aR (List.range m) fun c=>U a c * aR (List.range n) fun d=>(aR (List.range r) fun k=>X c k * Y k d) * V d b:=by
   have f1:∀ k,((aR (List.range m) fun c=>U a c * X c k) * aR (List.range n) fun d=>Y k d * V d b)=aR (List.range m) fun c=>aR (List.range n) fun d=>U a c * (X c k * Y k d * V d b):=fun k=>by
    rw[← fD];refine ax fun c _=>?_;rw[← dv];refine ax fun d _=>?_;simp only[Int.mul_assoc]
   simp only[f1];rw[eZ];refine ax fun c _=>?_;rw[eZ,← dv];refine ax fun d _=>?_;rw[dv,fD]
  rw[e1];exact Eqm.sum fun c hc=>(Eqm.refl _).mul (Eqm.sum fun d hd=>(hXY c (List.mem_range.1 hc) d (List.mem_range.1 hd)).symm.mul (Eqm.refl _))
 have e2:(aR (List.range r) fun k=>(aR (List.range m') fun a=>L i a * aR (List.range m) fun c=>U a c * X c k) * aR (List.range n') fun b=>(aR (List.range n) fun d=>Y k d * V d b) * R b j)=aR (List.range m') fun a=>L i a * aR (List.range n') fun b=>(aR (List.range r) fun k=>(aR (List.range m) fun c=>U a c * X c k) * aR (List.range n) fun d=>Y k d * V d b) * R b j:=by
  have f1:∀ k,((aR (List.range m') fun a=>L i a * aR (List.range m) fun c=>U a c * X c k) * aR (List.range n') fun b=>(aR (List.range n) fun d=>Y k d * V d b) * R b j)=aR (List.range m') fun a=>aR (List.range n') fun b=>L i a * (((aR (List.range m) fun c=>U a c * X c k) * aR (List.range n) fun d=>Y k d * V d b) * R b j):=fun k=>by
   rw[← fD];refine ax fun a _=>?_;rw[← dv];refine ax fun b _=>?_;simp only[Int.mul_assoc]
  simp only[f1];rw[eZ];refine ax fun a _=>?_;rw[eZ,← dv];refine ax fun b _=>?_;rw[dv,fD]
 rw[e2];exact Eqm.sum fun a ha=>(Eqm.refl _).mul (Eqm.sum fun b hb=>(key a (List.mem_range.1 ha) b (List.mem_range.1 hb)).mul (Eqm.refl _))
theorem dS.turn {A:Nat→Nat→Int}{m n r:Nat}(h:dS p A m n r):dS p (fun i j=>A j i) n m r:=by
 obtain ⟨X,Y,hXY⟩:=h.thru;obtain ⟨L,R,hLR⟩:=h.one;refine⟨⟨fun i k=>Y k i,fun k j=>X j k,fun i hi j hj=>(hXY j hj i hi).trans (Eqm.of (ax fun k _=>Int.mul_comm _ _))⟩,⟨fun i a=>R a i,fun b j=>L j b,fun i hi j hj=>?_⟩⟩;have h1:=hLR j hj i hi;rw[show (if j=i then (1:Int) else 0)=if i=j then 1 else 0 by by_cases e:i=j <;> simp[e,eq_comm]] at h1;refine Eqm.trans (Eqm.of ?_) h1;have f1:∀ a,R a i * (aR (List.range m) fun b=>A b a * L j b)=aR (List.range m) fun b=>L j b * (A b a * R a i):=fun a=>by
  rw[← dv];refine ax fun b _=>?_;rw[Int.mul_comm,Int.mul_comm (A b a),Int.mul_assoc]
 simp only[f1];rw[eZ];exact ax fun b _=>dv _ _ _
end
end Go.Pl
namespace Go.Pl
section
variable {p:Int}
theorem ko (n i:Nat)(h:i<n)(f:Nat→Int):(aR (List.range n) fun k=>(if i=k then 1 else 0) * f k)=f i:=by
 induction n with
 | zero=>omega
 | succ n ih =>
  rw[List.range_succ,ks,cZ,mM];by_cases e:i=n
  ·subst e;rw[if_pos rfl,Int.one_mul,ax (g:=fun _=>0) (fun k hk=>by rw[if_neg (by have:=List.mem_range.1 hk; omega),Int.zero_mul]),iT];omega
  ·rw[ih (by omega),if_neg e];omega
def dK (p:Int)(A:Nat→Nat→Int)(m n:Nat)(v:Nat→Int):Prop:=∃ w:Nat→Int,∀ j,j<n→Eqm p (v j) (aR (List.range m) fun a=>w a * A a j)
theorem dK.self {A:Nat→Nat→Int}{m n i:Nat}(h:i<m):dK p A m n (A i):=⟨fun k=>if i=k then 1 else 0,fun j _=>Eqm.of (ko m i h fun k=>A k j).symm⟩
theorem dK.add {A:Nat→Nat→Int}{m n:Nat}{u v:Nat→Int}(c:Int)(h:dK p A m n u)(k:dK p A m n v):dK p A m n fun j=>u j+c * v j:=by
 obtain ⟨x,hx⟩:=h;obtain ⟨y,hy⟩:=k;refine⟨fun a=>x a+c * y a,fun j hj=>((hx j hj).add ((Eqm.refl c).mul (hy j hj))).trans (Eqm.of ?_)⟩;rw[← dv,← qv];exact ax fun a _=>by rw[Int.add_mul,Int.mul_assoc]
theorem dK.mul {A:Nat→Nat→Int}{m n:Nat}{v:Nat→Int}(c:Int)(k:dK p A m n v):dK p A m n fun j=>c * v j:=by
 obtain ⟨y,hy⟩:=k;refine⟨fun a=>c * y a,fun j hj=>((Eqm.refl c).mul (hy j hj)).trans (Eqm.of ?_)⟩;rw[← dv];exact ax fun a _=>by rw[Int.mul_assoc]
theorem dK.congr {A:Nat→Nat→Int}{m n:Nat}{u v:Nat→Int}(k:dK p A m n v)(h:∀ j,j<n→Eqm p (u j) (v j)):dK p A m n u:=by
 obtain ⟨y,hy⟩:=k;exact⟨y,fun j hj=>(h j hj).trans (hy j hj)⟩
theorem dK.sum {A:Nat→Nat→Int}{m n:Nat}{B:Nat→Nat→Int}(w:Nat→Int):∀ {l:List Nat},(∀ a∈l,dK p A m n (B a))→dK p A m n fun j=>aR l fun a=>w a * B a j
 | [],_=>⟨fun _=>0,fun j _=>Eqm.of (by
   show (0:Int)=_;rw[ax (g:=fun _=>0) (fun a _=>Int.zero_mul _),iT])⟩
 | a::l,h=>by
  have h1:=(dK.sum w fun b hb=>h b (by simp[hb]):dK p A m n fun j=>aR l fun a=>w a * B a j);refine (h1.add (w a) (h a (by simp))).congr fun j _=>Eqm.of ?_;rw[cZ];omega
theorem dK.trans {A B:Nat→Nat→Int}{m n k:Nat}{v:Nat→Int}(h:dK p B k n v)(hb:∀ a,a<k→dK p A m n (B a)):dK p A m n v:=by
 obtain ⟨w,hw⟩:=h;exact (dK.sum w fun a ha=>hb a (List.mem_range.1 ha)).congr hw
structure lj (p:Int)(A:Nat→Nat→Int)(m n:Nat)(M:Nat→Nat→Int)(J:List Nat)(c:Nat):Prop where
 fwd:∀ i,i<m→dK p A m n (M i)
 bwd:∀ i,i<m→dK p M m n (A i)
 col:∀ j∈J,j<c
 piv:∀ k j,J[k]?=some j→∀ i,i<m→Eqm p (M i j) (if i=k then 1 else 0)
 low:∀ i,J.length≤i→i<m→∀ j,j<c→Eqm p (M i j) 0
 len:J.length≤m
theorem lj.start (A:Nat→Nat→Int)(m n:Nat):lj p A m n A [] 0:=⟨fun _ h=>.self h,fun _ h=>.self h,by simp,by simp,fun _ _ _ j hj=>by omega,Nat.zero_le _⟩
theorem lj.none {A M:Nat→Nat→Int}{m n c:Nat}{J:List Nat}(h:lj p A m n M J c)(h0:∀ i,J.length≤i→i<m→Eqm p (M i c) 0):lj p A m n M J (c+1) :=
 ⟨h.fwd,h.bwd,fun j hj=>by have:=h.col j hj; omega,h.piv,fun i h1 h2 j hj=>by
  by_cases e:j=c
  ·subst e; exact h0 i h1 h2
  ·exact h.low i h1 h2 j (by omega),h.len⟩
theorem lj.pivot {A M M':Nat→Nat→Int}{m n c i0:Nat}{b:Int}{J:List Nat}(h:lj p A m n M J c)(hc:c<n)(h1:J.length≤i0)(h2:i0<m)(hb:Eqm p (b * M i0 c) 1)
  (hM:∀ i,i<m→∀ j,j<n→Eqm p (M' i j) (if i=J.length then b * M i0 j else M (if i=i0 then J.length else i) j - M (if i=i0 then J.length else i) c * (b * M i0 j))):lj p A m n M' (J++[c]) (c+1):=by
 have hr:J.length<m:=by omega
 have hsw:∀ i,i<m→(if i=i0 then J.length else i)<m:=fun i hi=>by split <;> omega
 have rowr:∀ j,j<n→Eqm p (M' J.length j) (b * M i0 j):=fun j hj=>by
  have:=hM J.length hr j hj;rwa [if_pos rfl] at this
 have rown:∀ i,i<m→i≠J.length→∀ j,j<n→Eqm p (M' i j) (M (if i=i0 then J.length else i) j - M (if i=i0 then J.length else i) c * (b * M i0 j)):=fun i hi hne j hj=>by
  have:=hM i hi j hj;rwa [if_neg hne] at this
 have colc:∀ i,i<m→Eqm p (M' i c) (if i=J.length then 1 else 0):=fun i hi=>by
  by_cases e:i=J.length
  ·subst e;rw[if_pos rfl];exact (rowr c hc).trans hb
  ·rw[if_neg e];refine (rown i hi e c hc).trans ?_;have h3:=(Eqm.refl (-(M (if i=i0 then J.length else i) c))).mul hb;have h4:=(Eqm.refl (M (if i=i0 then J.length else i) c)).add h3;rw[Int.mul_one,Int.add_right_neg] at h4;refine (Eqm.of ?_).trans h4;rw[Int.neg_mul];omega
 -- the old rows lie in the new ones
 have old0:dK p M' m n (M i0):=by
  have h3:dK p M' m n fun j=>M i0 c * M' J.length j:=(dK.self hr).mul _;refine h3.congr fun j hj=>?_;have h4:=(Eqm.refl (M i0 c)).mul (rowr j hj);have h5:=hb.mul (Eqm.refl (M i0 j));rw[Int.one_mul] at h5;refine (h5.symm.trans (Eqm.of ?_)).trans h4.symm;rw[← Int.mul_assoc,Int.mul_comm b]
 have old:∀ i,i<m→dK p M' m n (M i):=fun i hi=>by
  by_cases e0:i=i0
  ·subst e0; exact old0
  ·-- i sits at place t of the new matrix
   have ⟨t,ht,htr,hti⟩:∃ t,t<m∧t≠J.length∧(if t=i0 then J.length else t)=i:=by
    by_cases e:i=J.length
    ·exact⟨i0,h2,fun e2=>e0 (by rw[e,e2]),by rw[if_pos rfl]; exact e.symm⟩
    ·exact⟨i,hi,e,if_neg e0⟩
   have h3:dK p M' m n fun j=>M' t j+(M i c * b) * M i0 j:=(dK.self ht).add _ old0;refine h3.congr fun j hj=>?_;have h4:=rown t ht htr j hj;rw[hti] at h4;refine Eqm.symm ((h4.add (Eqm.refl _)).trans (Eqm.of ?_));rw[Int.mul_assoc];omega
 refine⟨fun i hi=>?_,fun i hi=>(h.bwd i hi).trans old,fun j hj=>?_,fun k j hk i hi=>?_,fun i hi1 hi2 j hj=>?_,by simp; omega⟩
 ·by_cases e:i=J.length
  ·subst e;exact ((h.fwd i0 h2).mul b).congr rowr
  ·refine ((h.fwd _ (hsw i hi)).add (-(M (if i=i0 then J.length else i) c * b)) (h.fwd i0 h2)).congr fun j hj=>(rown i hi e j hj).trans (Eqm.of ?_);rw[Int.neg_mul,Int.mul_assoc];omega
 ·rcases List.mem_append.1 hj with h3 | h3
  ·have:=h.col j h3; omega
  ·simp at h3; omega
 ·by_cases hkl:k<J.length
  ·rw[List.getElem?_append_left hkl] at hk;have hjc:j<c:=h.col j (List.mem_of_getElem? hk);have z0:Eqm p (M i0 j) 0:=h.low i0 h1 h2 j hjc;have z1:∀ x,Eqm p (x * M i0 j) 0:=fun x=>by
    have:=(Eqm.refl x).mul z0;rwa [Int.mul_zero] at this
   by_cases e:i=J.length
   ·subst e;rw[if_neg (by omega)];exact (rowr j (by omega)).trans (z1 b)
   ·refine (rown i hi e j (by omega)).trans ?_;have h3:Eqm p (M (if i=i0 then J.length else i) j - M (if i=i0 then J.length else i) c * (b * M i0 j)) (M (if i=i0 then J.length else i) j):=by
     have h4:=z1 (-(M (if i=i0 then J.length else i) c * b));have h5:=(Eqm.refl (M (if i=i0 then J.length else i) j)).add h4;rw[Int.add_zero] at h5;refine (Eqm.of ?_).trans h5;rw[Int.neg_mul,Int.mul_assoc];omega
    refine h3.trans ?_;by_cases e0:i=i0
    ·rw[if_pos e0,if_neg (by omega)];exact h.low J.length (Nat.le_refl _) hr j hjc
    ·rw[if_neg e0];exact h.piv k j hk i hi
  ·have hk2:k=J.length∧j=c:=by
    rw[List.getElem?_append_right (by omega)] at hk;cases hd:k - J.length with
    | zero=>rw[hd] at hk; simp at hk; exact⟨by omega,hk.symm⟩
    | succ d=>rw[hd] at hk; simp at hk
   obtain ⟨rfl,rfl⟩:=hk2;exact colc i hi
 ·rw[List.length_append,List.length_singleton] at hi1;by_cases e:j=c
  ·subst e;have:=colc i hi2;rwa [if_neg (by omega)] at this
  ·have hjc:j<c:=by omega
   have z0:Eqm p (M i0 j) 0:=h.low i0 h1 h2 j hjc;refine (rown i hi2 (by omega) j (by omega)).trans ?_;have h4:=(Eqm.refl (-(M (if i=i0 then J.length else i) c * b))).mul z0;rw[Int.mul_zero] at h4;have h6:Eqm p (M (if i=i0 then J.length else i) j) 0:=h.low _ (by split <;> omega) (hsw i hi2) j hjc;have h5:=h6.add h4;refine (Eqm.of ?_).trans h5;rw[Int.neg_mul,Int.mul_assoc];omega
theorem y4 {f:Nat→Int}(w:Nat→Int){r m:Nat}(hr:r≤m)(h:∀ a,r≤a→a<m→Eqm p (f a) 0):Eqm p (aR (List.range m) fun a=>w a * f a) (aR (List.range r) fun a=>w a * f a):=by
 induction m with
 | zero=>rw[show r=0 by omega]; exact .refl _
 | succ m ih =>
  by_cases e:r=m+1
  ·rw[e]; exact .refl _
  ·rw[List.range_succ,ks,cZ,mM];have h1:=(Eqm.refl (w m)).mul (h m (by omega) (by omega));rw[Int.mul_zero] at h1;have h2:=(ih (by omega) fun a k1 k2=>h a k1 (by omega)).add h1;rw[Int.add_zero] at h2;rwa [Int.add_zero]
theorem lj.rank {A M:Nat→Nat→Int}{m n:Nat}{J:List Nat}(h:lj p A m n M J n):dS p A m n J.length:=by
 have hb:∀ i,∃ w:Nat→Int,i<m→∀ j,j<n→Eqm p (A i j) (aR (List.range m) fun a=>w a * M a j):=fun i=>by
  by_cases hi:i<m
  ·obtain ⟨w,hw⟩:=h.bwd i hi;exact⟨w,fun _=>hw⟩
  ·exact⟨fun _=>0,fun k=>absurd k hi⟩
 have hf:∀ i,∃ w:Nat→Int,i<m→∀ j,j<n→Eqm p (M i j) (aR (List.range m) fun a=>w a * A a j):=fun i=>by
  by_cases hi:i<m
  ·obtain ⟨w,hw⟩:=h.fwd i hi;exact⟨w,fun _=>hw⟩
  ·exact⟨fun _=>0,fun k=>absurd k hi⟩
 refine⟨⟨fun i=>(hb i).choose,M,fun i hi j hj=>?_⟩,⟨fun i=>(hf i).choose,fun b k=>if J[k]?=some b then 1 else 0,fun i hi k hk=>?_⟩⟩
 ·refine ((hb i).choose_spec hi j hj).trans ?_;exact y4 _ h.len fun a h1 h2=>h.low a h1 h2 j hj
 ·obtain ⟨jc,hjc⟩:∃ jc,J[k]?=some jc:=⟨J[k],List.getElem?_eq_getElem hk⟩;have hjn:jc<n:=h.col jc (List.mem_of_getElem? hjc);have him:i<m:=by have:=h.len; omega
  have e:∀ a,(aR (List.range n) fun b=>A a b * (if J[k]?=some b then 1 else 0))=A a jc:=fun a=>by
   rw[hjc];rw[ax (g:=fun b=>(if jc=b then 1 else 0) * A a b) (fun b _=>by rw[Int.mul_comm]; congr 1; by_cases q:jc=b <;> simp[q])];exact ko n jc hjn _
  simp only[e];exact ((hf i).choose_spec him jc hjn).symm.trans (h.piv k jc hjc i him)
theorem dS.same (hp:Fld p){A:Nat→Nat→Int}{m n r r':Nat}(h:dS p A m n r)(h':dS p A m n r'):r=r':=by
 have key:∀ i,i<m→∀ j,j<n→Eqm p (A i j) (aR (List.range m) fun a=>(if i=a then 1 else 0) * aR (List.range n) fun b=>A a b * (if j=b then 1 else 0)):=fun i hi j hj=>by
  rw[ko m i hi,ax (g:=fun b=>(if j=b then 1 else 0) * A i b) (fun b _=>Int.mul_comm _ _),ko n j hj];exact .refl _
 exact Nat.le_antisymm (h'.le hp h key) (h.le hp h' key)
end
end Go.Pl
