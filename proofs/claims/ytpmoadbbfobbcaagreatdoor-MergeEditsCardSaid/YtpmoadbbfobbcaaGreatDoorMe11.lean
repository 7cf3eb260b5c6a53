/- 11 -/
import Derived.Test.YtpmoadbbfobbcaaGreatDoorMe10
import Derived.ChangeKeysEq
set_option linter.unusedSimpArgs false
set_option linter.unusedVariables false
set_option linter.defProp false
namespace Go.Proofs.YtpmoadbbfobbcaaGreatDoor
open _root_.Go.Proofs.Tryz _root_.Go.Proofs.YtpmoadbbfobbcaaGreatDoor.Tryz
open Go Go.Sy Go.Pl Go.Proofs Go.Shelf
set_option maxRecDepth 100000
set_option maxHeartbeats 1000000
def yQ:Ren :=
 {
  f:=fun x =>
   match x with
   | 161=>236
   | 231=>250
   | 227=>251
   | 233=>252
   | 235=>253
   | 228=>258
   | 197=>259
   | 151=>260
   | 260=>262
   | 152=>263
   | 137=>264
   | 119=>265
   | 224=>266
   | 225=>267
   | 217=>268
   | 266=>269
   | n=>n,
  t:=fun x =>
   match x with
   | 9=>9
   | 4=>4
   | 3=>3
   | 5=>5
   | 117=>264
   | 116=>263
   | 0=>0
   | 124=>267
   | 105=>272
   | 21=>21
   | 119=>277
   | 46=>126
   | 139=>280
   | 138=>279
   | n=>n,
  g:=fun x =>
   match x with
   | 3=>0
   | 4=>1
   | n=>n }
theorem Tryz.lays161:Lays.n161 Tryz.prog yQ :=
  {
  mixed:=Eq.refl true,f119:=zb8 func265<|ze3 some kR,
  f137:=zb8 func264<|ze3 some kR,
  f151:=zb8 func260<|ze3 some kR,
  f152:=zb8 func263<|ze3 some kR,
  f161:=zb8 func236<|ze3 some kR,
  f197:=zb8 func259<|ze3 some kR,
  f217:=zb8 func268<|ze3 some kR,
  f224:=zb8 func266<|ze3 some kR,
  f225:=zb8 func267<|ze3 some kR,
  f227:=zb8 func251<|ze3 some kR,
  f228:=zb8 func258<|ze3 some kR,
  f231:=zb8 func250<|ze3 some kR,
  f233:=zb8 func252<|ze3 some kR,
  f235:=zb8 func253<|ze3 some kR,
  f260:=zb8 func262<|ze3 some kR,
  f266:=zb8 func269<|ze3 some kR,t0:=uT0,
  a0:=isAgg0,z0:=sizeOf0,v0:=zm3,t3:=uT3,a3:=iT3,
  z3:=zT3,v3:=zl7,t4:=uT4,a4:=isAgg4,z4:=zT4,
  v4:=zm2,t5:=uT5,a5:=isAgg5,z5:=sizeOf5,v5:=zeroValue5,
  t9:=uT9,a9:=isAgg9,z9:=sizeOf9,v9:=zeroValue9,t21:=underlying21,
  a21:=isAgg21,z21:=sizeOf21,v21:=zeroValue21,t46:=j7,a46:=isAgg126,
  z46:=sizeOf126,v46:=zeroValue126,t105:=underlying272,a105:=isAgg272,
  z105:=sizeOf272,v105:=zeroValue272,t116:=underlying263,a116:=isAgg263,
  z116:=sizeOf263,t117:=underlying264,a117:=isAgg264,z117:=sizeOf264,
  v117:=zeroValue264,t119:=underlying277,a119:=isAgg277,z119:=sizeOf277,
  t124:=underlying267,a124:=isAgg267,z124:=sizeOf267,v124:=zeroValue267,
  t138:=underlying279,a138:=isAgg279,z138:=sizeOf279,v138:=zeroValue279,
  t139:=underlying280,a139:=isAgg280,z139:=sizeOf280,v139:=zeroValue280,
  g3:=kR,g4:=kR }
def Ea (l:List UInt8):List UInt8:=l.dropWhile (· == 0)
variable (E:World)(g:PH)(s:Own)
theorem uz (l:List UInt8) :
  Ctr Tryz.prog E 236 #[txt l,txt [0]] g s fun r g' s'=>r=txt (Ea l)∧g=g'∧s=s':=by
 intro w a;refine (Any.strings_TrimLeft_one lays161 ⟨l.toArray⟩ 0 dC w).mono ?_;rintro e w' ⟨rfl,rfl⟩;exact⟨_,g,s,I,a,I,I,I⟩
def by4 (x:Int):List Int:=[IntKind.u8.wrap<|x.fdiv<|2 ^ min (24:Int).toNat IntKind.u64.bits,IntKind.u8.wrap<|x.fdiv<|2 ^ min (16:Int).toNat IntKind.u64.bits,IntKind.u8.wrap<|x.fdiv<|2 ^ min (8:Int).toNat IntKind.u64.bits,IntKind.u8.wrap x]
def byP (x:Nat×Int):List Int:=by4 x.2
theorem BC (l:List<|Nat×Int):(l.flatMap byP).length=4 * l.length:=by
 induction l with
 | nil=>rfl
 | cons a t ih=>simp only[zh6,ze6,ih,ze9,byP,by4,zc5];omega
theorem zy (l:List Int):(gV l).length≤l.length:=by
 unfold gV;rw[List.length_reverse];have:=(List.dropWhile_sublist (l:=l.reverse) (· == 0)).length_le;simpa using this
def nf (l:List Int):List UInt8:=Ea<|byt<|(vf<|gV l).flatMap byP
def FX (neg:Bool)(bs:List UInt8):Value:=.agg #[vb<|neg&&decide (bs≠[]),txt bs]
theorem Tryz.build187 (a:Bool)(l:List UInt8)(w:World):(Instr.build 187 #[(0,vb a),(1,txt l)]).run Tryz.prog w = .ok (.agg #[vb a,txt l]) w:=by
 have b:(vb a).cells = #[vb a]:=rfl;have c:(txt l).cells = #[txt l]:=rfl;simp[Instr.build,Instr.fill,b,c];rfl
theorem wS (v:Value)(l:List Int)(neg:Bool)(J:SlA GS g v l)(hl:l.length<1099511627776) :
  Ctr Tryz.prog E 219 #[v,vb neg] g s fun r g' s'=>r=FX neg (nf l)∧s=s'∧Le g g':=by
 have K:=zy l;refine Jj (args:=[v,vb neg]) func219 I ntmps219 (bE I)<|hX<|cu<|Ib (aL zeroValue187) dC ?_;rintro _ _ _ ⟨H,rfl,rfl,rfl⟩;refine iF<|dr<|hX<|cu<|ka (mV I) dC<|Ib (bt call234 I<|Dn E g _ v l J hl) dC ?_;rintro v10 _ _ ⟨rfl,rfl,hm⟩;obtain ⟨q,d,rfl⟩:=za4 hm;refine ka (aS I) dC<|iF<|dr<|hX<|cu<|ka (mV I) dC<|ka (eN uk I) dC<|ka (SU.eq (v':=vi<|(4 * (gV l).length:Nat)) (Iz I I oM)<|ze3 vi oM) dC<|Ib (SO.makeC us sty249 I I oM oM) dC ?_;rintro v14 _ _ ⟨rfl,rfl⟩;refine Jh fun ⟨f,b⟩=>?_;obtain ⟨j,p,rfl⟩:=ag (i:=0) b rfl;clear b f;refine Ib (aL zeroValue249) dC ?_;rintro _ _ _ ⟨z,rfl,rfl,rfl⟩;refine ID (sK 0 sizeOf249 I I I I I sB) ?_;rintro _ _ _ ⟨rfl,rfl⟩;refine iF<|dr<|hX<|hX<|cu<|ka (mV I) dC<|Ib (bt call235 I<|uX E _ _ _ I) dC ?_;rintro _ g1 _ ⟨rfl,t,L,rfl,A⟩;refine iF<|dr<|uu<|Jw (g':=g1) (s':=rowA us 5 (.slice j 0 p) []::pt z (bY #[.slice j 0 p] 249)::pt H (.cells #[vb false,txt []] 187 (0,0))::s) (fun w B=>B.perm<|zk2 _ _ _)<|XC.rangeFunc (α:=Nat×Int) (ι:=Value×List Int) (encs:=fun x=>[vi x.1,.int .u64 x.2]) (xs:=vf<|gV l) (g0:=g1) (fun _=>g1) (fun i=>rowA us 5 i.1 i.2::pt z (bY #[i.1] 249)::pt H (.cells #[vb false,txt []] 187 (0,0))::[]) (fun pre i=>i.2=pre.flatMap byP) (.slice j 0 p,[]) s
  (fun x=>[(18,.int .u64 x.2),(17,vi x.1),(5,pp z 0)]) (fun _ x _=>[(7,.int .u64 x.2),(5,pp z 0)]) rfl rfl call249 (fun _=>rfl) rfl rfl (rQ E g1 L _ _ A (za5 hm t) oM) (fun _ _ _=>zb9 _) rfl
  (fun x a h=>GA (h.sub (g:=[(5,pp z 0)]) ⟨rfl,trivial⟩) dC dC) ?_ ?_ ?_
 ·intro k pre x i sx y;exact cu<|ka (aS I) dC<|iF<|XT.assignEnd sB
 ·rintro k pre ⟨R,x⟩ M ⟨bv,c⟩ sx C y;dsimp only at y ⊢;have N:pre.length<(gV l).length:=by
   have:=ze3 List.length C;rw[qy,ze6,ze9] at this;omega
  have O:c.length=4 * pre.length:=by rw[y,BC]
  refine Jv fun ⟨f,b⟩=>?_;obtain ⟨F,d2,rfl⟩:=ag (i:=0) b rfl;clear b f;refine uu<|cu<|Ia (qL (v:=.slice F c.length d2) isAgg249 I<|cO 1 I I) dC<|ka (mV I) dC<|ka (I0 I I dC) dC<|ka (ze1 nK uT5 I) dC<|ka (mV I) dC<|ka (I0 I I dC) dC<|ka (ze1 nK uT5 I) dC<|ka (mV I) dC<|ka (I0 I I dC) dC<|ka (ze1 nK uT5 I) dC<|ka (mV I) dC<|ka (ze1 nK uT5 I) dC<|Ib (bS sty249 I I I (ab sB) dC) dC ?_;rintro _ _ _ ⟨P,rfl,rfl,rfl⟩;refine XL.to (fun w B=>Ig (e:=us) (l:=by4 x) (n:=3) B I I dC)<|Ib (IU (m:=4) 1 (c++by4 x).length ((c++by4 x).flatMap us.enc) sty249 I I I I I (zb7 0 I) (us.length<|by4 x) (us.ones _) (by simp[by4]) dO (by simp[by4];omega)<|by simp[by4];omega) dC ?_;rintro v32 _ _ ⟨rfl,rfl⟩;refine Jh fun ⟨f,b⟩=>?_;obtain ⟨Q,d3,rfl⟩:=ag (e:=us) (l:=c++by4 x) (i:=1) b rfl;clear b f;refine ID (sK 2 sizeOf249 I I I I I sB) ?_;rintro _ _ _ ⟨rfl,rfl⟩;exact iF<|wc<|IY (zj2 _ _)<|XT.roundEnd (.slice Q (c++by4 x).length d3,c++by4 x) I I (by dsimp only;rw[H4,y];simp[byP])
 ·rintro D ⟨bv,c⟩ y;dsimp only at y ⊢;refine Jy fun ⟨f,b⟩=>?_;obtain ⟨F,d2,rfl⟩:=ag (i:=1) b rfl;clear b f;refine wc<|dr<|hX<|cu<|Ia (qL (v:=.slice F c.length d2) isAgg249 I<|cO 2 I I) dC<|Ia (SQ.bytesText underlying249 uT5 uT9 I<|zb7 1 I) dC<|Ib (bt call236 I<|uz E g1 _<|byt c) dC ?_;rintro _ _ _ ⟨rfl,rfl,rfl⟩;refine ka (aS I) dC<|iF<|dr ?_;have G:Ea (byt c)=nf l:=by unfold nf;rw[y]
  rw[G];generalize nf l=T at *;cases neg
  ·refine hX<|cu<|ka (mV I) dC<|ka (mV I) dC<|Jd (gZ I I I dC) dC<|Jd (gZ I I I dC) dC<|ka (wF I I) dC<|ka (mV I) dC<|ka (za3 I<|build187 _ _) dC<|ID (sK 3 sizeOf187 I I I I I sB) ?_;rintro _ _ _ ⟨rfl,rfl⟩;exact iF<|dr<|Jg<|II (.inl I)<|kn 2 s (.inl I) results219 I isAgg187 sizeOf187 I I (.cons _<|.cons _<|.cons _<|.refl _) ⟨I,I,t⟩
  ·refine hX<|cu<|ka (mV I) dC<|ka (mV I) dC<|JK (gT I I I dC) (mV I) dC<|JK (gT I I I dC) (SU.neqT I I) dC<|ka (wT I I) dC<|ka (mV I) dC<|ka (za3 I<|build187 _ _) dC<|ID (sK 3 sizeOf187 I I I I I sB) ?_;rintro _ _ _ ⟨rfl,rfl⟩;exact iF<|dr<|Jg<|II (.inl I)<|kn 2 s (.inl I) results219 I isAgg187 sizeOf187 I I (.cons _<|.cons _<|.cons _<|.refl _) ⟨I,I,t⟩
open Go Go.Sy Go.Pl Go.Proofs
theorem SU.negK {P:Program}{N:Nat}{f:Fr}{dst:Option Tmp}{ty:TypeId}{pos:String}{af:Array Edge}{gd:Option<|Nat×Bool}{x:Operand}{T:TypeId}{k:IntKind}{n:Int}(b:ev f x=some (.int k n)):SU P N ⟨dst,.unOp .neg T x,ty,pos,af,gd⟩ f<|.int k<|k.wrap<|0 - n:=fun a w c=>by
 simp only[execOp,c.ev b];rfl
theorem FP (n:Int):IntKind.u64.wrap n=n % 18446744073709551616:=by simp[IntKind.wrap,IntKind.bits,IntKind.signed]
theorem Ho (m:Nat)(h:m<18446744073709551616):IntKind.u64.wrap (BitVec.ofInt IntKind.u64.bits (m:Int) &&& BitVec.ofInt IntKind.u64.bits 4294967295).toNat=((m % 4294967296:Nat):Int):=by
 have a:(BitVec.ofInt IntKind.u64.bits (m:Int) &&& BitVec.ofInt IntKind.u64.bits 4294967295).toNat=m % 4294967296:=by
  have hb:IntKind.u64.bits=64:=rfl;rw[hb,BitVec.toNat_and];have e1:(BitVec.ofInt 64 (m:Int)).toNat=m:=by
   rw[BitVec.toNat_ofInt];omega
  have e2:(BitVec.ofInt 64 4294967295).toNat=2 ^ 32 - 1:=by decide
  rw[e1,e2,Nat.and_two_pow_sub_one_eq_mod]
 rw[a];exact IntWalk.u64_in _ oM
theorem HO (m:Nat):((m:Nat):Int).fdiv (2 ^ min (32:Int).toNat IntKind.u64.bits)=((m / 4294967296:Nat):Int):=by
 have a:((2:Int) ^ min (32:Int).toNat IntKind.u64.bits)=4294967296:=by decide
 rw[a,Int.fdiv_eq_ediv_of_nonneg _ dC];omega
theorem Tryz.buildE187 (w:World):(Instr.build 187 #[]).run Tryz.prog w = .ok (.agg #[vb false,txt []]) w:=by
 simp[Instr.build,Instr.fill];rfl
def xR (n:Int):List Int:=[((n.natAbs % 4294967296:Nat):Int),((n.natAbs / 4294967296:Nat):Int)]
theorem E7 (n:Int)(f : -9223372036854775808≤n)(i:n<9223372036854775808) :
  Ctr Tryz.prog E 199 #[vi n] g s fun r g' s'=>r=FX (decide<|n<0) (nf<|xR n)∧s=s'∧Le g g':=by
 refine zb2 (args:=[vi n]) func199 I ntmps199 (bE I)<|rZ (bW (aL zeroValue187) fun d=>?_);refine tZ<|sW I<|lU (ze1 uT3 nK I)<|aT I<|lu (ι:=Unit) (fun _=>[(0,vi n),(2,pp d 0),(3,.int .u64 (n.natAbs:Int))]) (fun _=>g) (fun _=>pt d (.cells #[vb false,txt []] 187 (0,0))::s) (fun _=>True) ?_ ?_
 ·refine sW I<|yL I<|tZ<|iP I (fun hn=>?_) (fun hn=>?_)
  ·have c:IntKind.u64.wrap (0 - IntKind.u64.wrap n)=(n.natAbs:Int):=by
    rw[FP,FP];omega
   exact rG<|lM I<|lU (SU.negK I)<|lA I<|cp<|za9 () ⟨I,I,by rw[← c];rfl,trivial⟩ rfl rfl trivial
  ·have c:IntKind.u64.wrap n=(n.natAbs:Int):=by
    rw[FP];omega
   exact kP<|za9 () ⟨I,I,by rw[← c];rfl,trivial⟩ rfl rfl trivial
 rintro _ -;try dsimp only
 refine sW I<|lU (SU.eq (v':=.int .u64 ((n.natAbs % 4294967296:Nat):Int)) (SU.and I I)<|ze3 _<|Ho _ oM)<|lM I<|lU (SU.eq (v':=.int .u64 ((n.natAbs / 4294967296:Nat):Int)) (I0 I I dC)<|ze3 _<|HO _)<|lW (bS sty238 I I I (ab sB) dC) ?_;rintro _ _ _ ⟨e,rfl,rfl,rfl⟩;refine zb5 fun g1 a hb=>?_;refine lM I<|yL I<|lW (bt call219 I<|wS E g1 _ _ (xR n) _ (kb hb I I)<|by simp[xR]) ?_;rintro _ g2 _ ⟨rfl,rfl,b⟩;refine oZ (sK 0 sizeOf187 I I I I I sB) ?_;refine tZ<|rE ?_;exact kn 0 s (.inl I) results199 I isAgg187 sizeOf187 I I uR ⟨I,I,a.trans b⟩
def hiB (x:Int):Int:=IntKind.u8.wrap<|IntKind.i64.wrap<|x.tdiv 256
def loB (x:Int):Int:=IntKind.u8.wrap<|x.tmod 256
def iy:List Int→List Int
 | []=>[]
 | x::D=>iy D++((if decide (D≠[])||decide (x≥256) then [hiB x] else [])++[loB x])
theorem wm:∀ D:List Int,(iy D).length≤2 * D.length
 | []=>by simp[iy]
 | x::D=>by
  have:=wm D;simp only[iy,ze6,ze9,zc5];split <;> simp <;> omega
theorem wL (v:Value)(neg:Bool)(l:List Int)(A:SlA encInt g v l)(hl:l.length<1099511627776) :
  Ctr Tryz.prog E 230 #[vb neg,v] g s fun r g' s'=>r = .agg #[vb<|neg&&decide (gV l≠[]),txt<|byt<|iy<|gV l]∧s=s'∧Le g g':=by
 have C:=zy l;refine zb2 (args:=[vb neg,v]) func230 I ntmps230 (bE I)<|rZ (bW (aL zeroValue187) fun m=>?_);refine tZ<|sW I<|lW (bt call240 I<|wM E g _ v l A hl) ?_;rintro v8 _ _ ⟨rfl,rfl,hm⟩;obtain ⟨q,d,rfl⟩:=za4 hm;refine aT I<|sQ<|sW I<|lU (eN aA I)<|yE I<|tZ ?_;generalize gV l=t at *;refine iP I (fun hz=>?_) (fun hz=>?_)
 ·have o:t=[]:=zf5 oM;subst o;exact rZ<|lU (za3 I<|buildE187)<|oZ (sK 0 sizeOf187 I I I I I sB)<|tZ<|rE<|tR<|kn 0 s (.inl I) results230 I isAgg187 sizeOf187 I I uR ⟨by cases neg <;> rfl,I,zb9 g⟩
 ·refine kP<|tN<|rZ<|aT I<|sQ<|sW I<|lU (eN aA I)<|lU (sU I I oM)<|aT I<|bK<|zb6 5 1<|oP (ι:=Nat×Value) (fun i=>[(0,vb neg),(1,.slice q t.length d),(4,pp m 0),(5,i.2),(6,vi<|(i.1:Int) - 1)]) (fun _=>g) (fun i=>rowA us 5 i.2 (iy<|t.drop i.1)::pt m (.cells #[vb false,txt []] 187 (0,0))::s) (fun i=>i.1≤t.length) (fun i=>i.1) (t.length,.slice none 0 0)
   sB rfl (by dsimp only;rw[List.drop_length];rfl) (dm _) ?_
  rintro ⟨n,bv⟩ hn;dsimp only at hn ⊢;refine sQ<|sW I<|lU (gQ I I)<|tZ<|iP I (fun p=>?_) (fun p=>?_)
  ·have f:n - 1<t.length:=oM;have a:=za6 hm oM;have b:t[((n:Int) - 1).toNat]?=some t[n - 1]:=by rw[show ((n:Int) - 1).toNat=n - 1 by omega];exact bd f
   have u:t.drop (n - 1)=t[n - 1]::t.drop n:=by
    have:=zg7 f;rwa [show n - 1+1=n by omega] at this
   have w:decide (t.drop n≠[])=decide ((n:Int) - 1<(t.length:Int) - 1):=by
    rw[decide_eq_decide];constructor
    ·intro h;have:=List.length_pos_iff.2 h;rw[zf1] at this;omega
    ·intro h e;have:=ze3 List.length e;rw[zf1,zc5] at this;omega
   have y:=wm<|t.drop n;rw[zf1] at y;generalize t[n - 1]=x at *;have j:iy (t.drop<|n - 1)=iy (t.drop n)++((if decide ((n:Int) - 1<(t.length:Int) - 1)||decide (x≥256) then [hiB x] else [])++[loB x]):=by rw[u,iy,w]
   generalize iy (t.drop n)=B at *;have f1:(n:Int) - 1<(t.length:Int) - 1→(decide ((n:Int) - 1<(t.length:Int) - 1)||decide (x≥256))=true:=fun h=>by rw[zf9 h,Bool.true_or]
   have f2:¬ (n:Int) - 1<(t.length:Int) - 1→(decide ((n:Int) - 1<(t.length:Int) - 1)||decide (x≥256))=decide (x≥256):=fun h=>by rw[zf8 h,Bool.false_or]
   refine kP<|tN<|sQ<|bK<|lu (ι:=Value) (fun i=>[(0,vb neg),(1,.slice q t.length d),(4,pp m 0),(5,i),(6,vi<|(n:Int) - 1)]) (fun _=>g) (fun i=>rowA us 5 i (B++(if decide ((n:Int) - 1<(t.length:Int) - 1)||decide (x≥256) then [hiB x] else []))::pt m (.cells #[vb false,txt []] 187 (0,0))::s) (fun _=>True) ?_ ?_
   ·refine BY 31 ((decide ((n:Int) - 1<(t.length:Int) - 1)||decide (x≥256))) ?_ ?_
    ·refine rG<|lM I<|lM I<|lU (eN aA I)<|lU (sU I I oM)<|yL I<|lM I<|sP ?_ ?_
     ·intro c;exact yA I<|yA I<|yA I<|yA I<|yA I<|yP I<|cp<|zb1 (by (rw[f1 c];rfl)) mI
     ·intro c;exact yC I<|yC I<|lY I I I (iA aA zT3 I I a oM sL)<|lR (gT I I I dC) (eB iT3 I (za7 hm) b I) dC<|lY I I I (gQ I I)<|yF I<|cp<|zb1 (by (rw[f2 c];rfl)) mI
    refine iQ I (fun hc=>?_) (fun hc=>?_)
    ·refine rG<|lM I<|lM I<|lM I<|lU (iA aA zT3 I I a oM sL)<|lK (eB iT3 I (za7 hm) b I)<|lU (IZ I I dC)<|lU (SU.eq (v':=.int .u8<|hiB x) (ze1 uT3 uT5 I) I)<|lW (bS sty249 I I I (ab sB) dC) ?_;rintro _ _ _ ⟨D,rfl,rfl,rfl⟩;refine lW (aP (e:=us) 0 (hiB x) sty249 I I I I I oM oM) ?_;rintro bv' _ _ ⟨rfl,rfl⟩;exact lA I<|cp<|za9 bv' sB I (by rw[zg2 hc];rfl) trivial
    ·exact kP<|za9 bv sB I (by rw[zg1<|by rw[hc];simp,zc7]) trivial
   rintro bv2 -;try dsimp only
   have F:(B++(if decide ((n:Int) - 1<(t.length:Int) - 1)||decide (x≥256) then [hiB x] else [])).length≤B.length+1:=by
    rw[ze6];split <;> simp
   rw[← zg9] at j;generalize (B++(if decide ((n:Int) - 1<(t.length:Int) - 1)||decide (x≥256) then [hiB x] else []))=B2 at *;refine rG<|lM I<|lM I<|lM I<|lU (iA aA zT3 I I a oM sL)<|lK (eB iT3 I (za7 hm) b I)<|lU (zd9 I I dC)<|lU (SU.eq (v':=.int .u8<|loB x) (ze1 uT3 uT5 I) I)<|lW (bS sty249 I I I (ab sB) dC) ?_;rintro _ _ _ ⟨G,rfl,rfl,rfl⟩;refine lW (aP (e:=us) 0 (loB x) sty249 I I I I I oM oM) ?_;rintro bv3 _ _ ⟨rfl,rfl⟩;exact lA I<|cp<|bN<|tN<|rG<|lM I<|lU (sU I I oM)<|lA I<|cp<|ct (n - 1,bv3) ⟨I,I,I,I,G2 I oM,trivial⟩ I (by dsimp only;rw[j];rfl) (by dsimp only;omega) (by dsimp only;omega)
  ·have z:n=0:=oM;subst z;refine IT fun ⟨H,k⟩=>?_;obtain ⟨J,d2,rfl⟩:=ag (i:=0) k rfl;clear k H;rw[List.drop_zero] at *;exact xI<|tX<|tX<|bX<|tN<|sW I<|lM I<|lK (SQ.bytesText underlying249 uT5 uT9 I<|zb7 0 I)<|lU (za3 I<|build187 _ _)<|oZ (sK 1 sizeOf187 I I I I I sB)<|tZ<|rE<|kn 1 s (.inl I) results230 I isAgg187 sizeOf187 I I uR ⟨by rw[show decide (t≠[])=true from zf9 fun e:t=[]=>hz<|by rw[e];rfl,Bool.and_true];rfl,rfl,zb9 g⟩
def oH (m:Nat):List Int:=if h:m=0 then [] else ((m % 65536:Nat):Int)::oH (m / 65536)
termination_by m
decreasing_by omega
theorem j3:oH 0=[]:=by unfold oH;rfl
theorem mi {m:Nat}(h:m≠0):oH m=((m % 65536:Nat):Int)::oH (m / 65536):=by rw[oH,dif_neg h]
theorem qK:∀ (k m:Nat),m<65536 ^ k→(oH m).length≤k
 | 0,m,h=>by
  have:m=0:=by simpa using h
  subst this;rw[j3];simp
 | k+1,m,h=>by
  by_cases a:m=0
  ·subst a;rw[j3];simp
  ·rw[mi a,ze9];have:=qK k (m / 65536) (by rw[Nat.div_lt_iff_lt_mul dC];rwa [Nat.pow_succ] at h);omega
theorem DT (m:Nat):gV (oH m)=oH m:=by
 have key:∀ m,oH m=[]∨∃ a x,oH m=a++[x]∧x≠0:=by
  intro m;induction m using Nat.strongRecOn with
  | _ m ih =>
   by_cases c:m=0
   ·left;subst c;exact j3
   ·right;rw[mi c]
    rcases ih (m / 65536) oM with h | ⟨a,x,h,b⟩
    ·refine⟨[],_,by rw[h];rfl,?_⟩;by_cases d:m / 65536=0
     ·omega
     ·rw[mi d] at h;cases h
    ·exact⟨_::a,x,by rw[h];rfl,b⟩
 rcases key m with h | ⟨a,x,h,b⟩
 ·rw[h];rfl
 ·rw[h];simp[gV,b]
theorem yo (n:Int)(u : -9223372036854775808≤n)(v:n<9223372036854775808) :
  Ctr Tryz.prog E 208 #[vi n] g s fun r g' s'=>r = .agg #[vb<|decide (n<0)&&decide (oH n.natAbs≠[]),txt<|byt<|iy<|oH n.natAbs]∧s=s'∧Le g g':=by
 have p:=qK 4 n.natAbs oM;refine zb2 (args:=[vi n]) func208 I ntmps208 (bE I)<|rZ (bW (aL zeroValue187) fun j=>?_);refine tZ<|rZ<|aT I<|sW I<|lU (ze1 uT3 nK I)<|aT I<|lu (ι:=Unit) (fun _=>[(0,vi n),(2,pp j 0),(3,.slice none 0 0),(4,.int .u64 (n.natAbs:Int))]) (fun _=>g) (fun _=>pt j (.cells #[vb false,txt []] 187 (0,0))::s) (fun _=>True) ?_ ?_
 ·refine sW I<|yL I<|tZ<|iP I (fun hn=>?_) (fun hn=>?_)
  ·have k:IntKind.u64.wrap (0 - IntKind.u64.wrap n)=(n.natAbs:Int):=by
    rw[FP,FP];omega
   exact rG<|lM I<|lU (SU.negK I)<|lA I<|cp<|za9 () ⟨I,I,I,by rw[← k];rfl,trivial⟩ rfl rfl trivial
  ·have k:IntKind.u64.wrap n=(n.natAbs:Int):=by
    rw[FP];omega
   exact kP<|za9 () ⟨I,I,I,by rw[← k];rfl,trivial⟩ rfl rfl trivial
 rintro _ -;try dsimp only
 refine sQ<|bK<|zb6 3 1<|oP (ι:=Nat×Value×List Int) (fun i=>[(0,vi n),(2,pp j 0),(3,i.2.1),(4,.int .u64 (i.1:Int))]) (fun _=>g) (fun i=>rowA encInt 3 i.2.1 i.2.2::pt j (.cells #[vb false,txt []] 187 (0,0))::s) (fun i=>i.2.2++oH i.1=oH n.natAbs∧i.1≤n.natAbs) (fun i=>i.1) (n.natAbs,.slice none 0 0,[])
  sB rfl rfl ⟨rfl,dm _⟩ ?_
 rintro ⟨m,bv,D⟩ ⟨b,hm⟩;dsimp only at b hm ⊢;have q:D.length≤4:=by have:=ze3 List.length b;rw[ze6] at this;omega
 refine sQ<|sW I<|lU (gR I I)<|tZ<|iP I (fun c=>?_) (fun c=>?_)
 ·have a:m≠0:=oM;have l:=mi a;refine kP<|tN<|bK<|sW I<|lM I<|lU (zd9 I I dC)<|lU (SU.eq (v':=vi ((m % 65536:Nat):Int)) (ze1 nK uT3 I)<|ze3 vi<|by rw[show ((m:Int)).tmod 65536=((m % 65536:Nat):Int) by rw[Int.tmod_eq_emod_of_nonneg oM];omega];exact zl1 _ oM)<|lW (bS sty43 I I I (ab sB) dC) ?_;rintro _ _ _ ⟨t,rfl,rfl,rfl⟩;refine lW (aP (e:=encInt) 0 ((m % 65536:Nat):Int) sty43 I I I I I oM oM) ?_;rintro bv' _ _ ⟨rfl,rfl⟩;refine aT I<|rG<|lM I<|lU (SU.eq (v':=.int .u64 ((m / 65536:Nat):Int)) (IZ I I dC)<|ze3 _<|by rw[show ((m:Int)).tdiv 65536=((m / 65536:Nat):Int) by rw[Int.tdiv_eq_ediv_of_nonneg oM];omega];exact IntWalk.u64_in _ oM) ?_;refine lA I<|cp<|bN ?_;exact ct (m / 65536,bv',D++[((m % 65536:Nat):Int)]) sB I I ⟨by dsimp only;rw[← b,l];simp,by dsimp only;omega⟩ (by dsimp only;omega)
 ·have a:m=0:=oM;subst a;rw[j3,zc7] at b;subst b;refine xI (tX<|tX<|bX<|tN<|sQ<|fS fun g1 d o=>?_);refine rG<|lM I<|yL I<|lM I<|lW (bt call230 I<|wL E g1 _ bv _ (oH n.natAbs) o oM) ?_;rintro _ g2 _ ⟨rfl,rfl,f⟩;exact oZ (sK 0 sizeOf187 I I I I I sB)<|tZ<|rE<|kn 0 s (.inl I) results208 I isAgg187 sizeOf187 I I uR ⟨by rw[DT];rfl,rfl,d.trans f⟩
def beK:Nat→Nat→List UInt8
 | 0,_=>[]
 | k+1,m=>beK k (m / 65536)++[UInt8.ofNat<|m / 256,UInt8.ofNat m]
def zw (m:Nat):List UInt8:=Ea<|beK 4 m
def GV (n:Int):Value:=FX (decide<|n<0)<|zw n.natAbs
theorem Bq (n:Int)(hn:n=0∨n=1∨n = -1) :
  Ctr Tryz.prog E 199 #[vi n] g s (fun r g' s'=>r=GV n∧s=s'∧Le g g') :=
 (E7 E g s n oM oM).mono fun _ _ _ ⟨a,b⟩=>⟨by
  rw[a]
  rcases hn with rfl | rfl | rfl
  ·rw[show nf (xR 0)=zw (0:Int).natAbs from by decide];rfl
  ·rw[show nf (xR 1)=zw (1:Int).natAbs from by decide];rfl
  ·rw[show nf (xR<|-1)=zw (-1:Int).natAbs from by decide];rfl,b⟩
theorem uN (n:Int)(hn:n=0∨n=1∨n = -1) :
  Ctr Tryz.prog E 208 #[vi n] g s (fun r g' s'=>r=GV n∧s=s'∧Le g g') :=
 (yo E g s n oM oM).mono fun _ _ _ ⟨a,b⟩=>⟨by
  rw[a];have e0:oH 0=[]:=j3;have e1:oH 1=[1]:=by rw[mi dC,e0];rfl
  rcases hn with rfl | rfl | rfl
  ·simp only[Int.natAbs_zero,e0];rw[show byt (iy [])=zw (0:Int).natAbs from by decide];rfl
  ·simp only[show (1:Int).natAbs=1 from rfl,e1];rw[show byt (iy [1])=zw (1:Int).natAbs from by decide];rfl
  ·simp only[show (-1:Int).natAbs=1 from rfl,e1];rw[show byt (iy [1])=zw (-1:Int).natAbs from by decide];rfl,b⟩
def fI (l:List Cl):List Int:=l.flatMap fun c=>c.sides.map ak.cell
theorem yb (A:List Cl)(k:Int):(fI A).contains k=lq A k:=by
 rw[Bool.eq_iff_iff];simp[fI,lq,oG]
theorem wI {A:List Cl}{k:Nat}(h:k<A.length):fI (A.take<|k+1)=fI (A.take k)++A[k].sides.map ak.cell:=by
 unfold fI;rw[tS h,H4];simp only[zh6,List.flatMap_nil,zc7]
theorem E9 {A:List Cl}{id:Int}(h:ah A id=none)(m:List Int):dz A (m++[id])=dz A m:=by
 unfold dz;refine zc9 fun c hc=>?_;have:=List.find?_eq_none.1 h c hc;simp only[zj6] at this;simp[this]
theorem Du {ss:List ak}{j:Nat}(h:j<ss.length)(m:List Int):m++(ss.take<|j+1).map ak.cell=(m++(ss.take j).map ak.cell)++[ss[j].cell]:=by
 rw[tS h,zg6,zg9];rfl
theorem wN (v:Value)(l:List Cl)(hv:ai g v l)(hf:aM l) :
  Ctr Tryz.prog E 122 #[.agg #[v]] g s fun r g' s'=>s=s'∧Le g g'∧dA g' r (xS l):=by
 have M:=bG hf;have N:=M.1;have t:=eL l;have a1:=iq l;refine zb2 (args:=[.agg #[v]]) func122 I ntmps122 (bE I)<|rZ (bW (bO I) fun L=>?_);refine aT I<|rZ<|aT I<|rZ<|lK (qV 0 aj ae I I I)<|lW (bt call41 I<|bA E g _ _ l hv hf) ?_;rintro v11 g1 _ ⟨rfl,a2,hc⟩;obtain ⟨rs,n,p⟩:=hc;have O:ai g1 _<|am l:=⟨rs,n,p⟩;obtain ⟨q,dd,rfl⟩:=n.form;have a3:=p.length;refine aT I<|sW I<|lU (eN aB I)<|lW (mK bw false sty139 I I I oM oM) ?_;rintro _ _ _ ⟨b,rfl,rfl,rfl⟩;refine aT I<|sQ<|rZ<|aT I<|bK ?_;unfold xS;generalize am l=A at *;refine SC.to (g':=g1) (s':=rowA bw 4 (.slice (some ⟨b,0,none⟩) rs.length rs.length) (dz A<|fI<|A.take 0)::pt L (bY #[v] 29)::s) (fun w P=>by rw[show fI (A.take 0)=[] from I,vS,a3];exact P) ?_;refine oP (ι:=Nat) (fun i=>[(3,.slice none 0 0),(4,.slice q rs.length dd),(5,.slice (some ⟨b,0,none⟩) rs.length rs.length),(6,vi i)]) (fun _=>g1)
  (fun i=>rowA bw 4 (.slice (some ⟨b,0,none⟩) rs.length rs.length) (dz A<|fI<|A.take i)::pt L (bY #[v] 29)::s)
  (fun i=>i≤A.length) (fun i=>A.length - i) 0 sB rfl rfl (zf7 _) ?_
 intro k hk;refine sQ<|sW I<|lM I<|lU (eN aB I)<|yL I<|tZ<|iP I (fun a4=>?_) (fun a4=>?_)
 ·have F:k<A.length:=oM;have Q:k<rs.length:=oM;have d:=n.based oM;have G:=p.get (bd F)<|bd Q;have y:rs[((k:Nat):Int).toNat]?=some rs[k]:=bd Q;have f:=wI F;have b7:=M.2 _<|gM F;generalize A[k]=x at *;generalize rs[k]=r at *;generalize fI (A.take k)=m at *;obtain ⟨ri,rd,rp,rn,rc⟩:=r;have C:SlA encSide g1 (.slice rp rn rc) x.sides:=G.2.2;have a5:rn=x.sides.length:=by obtain ⟨q,cc,hq⟩:=za4 C;simp at hq;exact hq.2.1
  subst a5;refine kP<|tN<|sQ<|bK<|rZ<|aT I<|bK<|oP (ι:=Nat) (fun j=>[(3,.slice none 0 0),(4,.slice q rs.length dd),(5,.slice (some ⟨b,0,none⟩) rs.length rs.length),(6,vi k),(7,vi j)]) (fun _=>g1)
   (fun j=>rowA bw 4 (.slice (some ⟨b,0,none⟩) rs.length rs.length) (dz A<|m++(x.sides.take j).map ak.cell)::pt L (bY #[v] 29)::s)
   (fun j=>j≤x.sides.length) (fun j=>x.sides.length - j) 0 sB rfl dO (zf7 _) ?_
  intro j hj;refine sQ<|sW I<|lM I<|lM I<|lU (iA aB ar I I d oM sL)<|lU (fC ap I aI I d)<|lK (aZ (e:=encCell) (o:=2) (u:=.slice rp x.sides.length rc) bg I n.rd y I)<|lU (eN aW I)<|yL I<|tZ<|iP I (fun R=>?_) (fun R=>?_)
  ·have S:j<x.sides.length:=oM;have D:=za6 C oM;have T:x.sides[((j:Nat):Int).toNat]?=some x.sides[j]:=bd S;have U:=Du S m;generalize m++(x.sides.take j).map ak.cell=m2 at *;generalize x.sides[j]=z at *;have V:(dz A m2).length=A.length:=by simp[dz]
   rcases na t z.cell with ⟨H,J⟩ | ⟨c,kk,H,J,W⟩
   ·refine kP<|tN<|sQ<|bK<|sW I<|lM I<|lM I<|lU (iA aB ar I I d oM sL)<|lU (fC ap I aI I d)<|lK (aZ (e:=encCell) (o:=2) (u:=.slice rp x.sides.length rc) bg I n.rd y I)<|lM I<|lU (iA aW aV I I D oM sL)<|lU (fC dh I zT3 I D)<|lK (aZ (o:=0) (u:=vi z.cell) iT3 I C.rd T I)<|lW (bt call93 I<|fp E g1 _ _ A z.cell O N t) ?_;rintro _ _ _ ⟨rfl,rfl,rfl⟩;rw[J];exact aT I<|sW I<|lU (SU.eq (v':=vb false) (gQ I I)<|ze3 vb<|zf8 oM)<|tZ<|za1 I<|kP<|bN<|tN<|rG<|lM I<|yD I<|lA I<|cp<|ct (j+1) sB I (by rw[U,E9 H]) oM oM
   ·have b5:kk<A.length:=(zf6.1 W).1;have X:(dz A m2).set kk true=dz A (m2++[z.cell]):=by rw[vR a1 W,(aC H).2]
    refine kP<|tN<|sQ<|bK<|sW I<|lM I<|lM I<|lU (iA aB ar I I d oM sL)<|lU (fC ap I aI I d)<|lK (aZ (e:=encCell) (o:=2) (u:=.slice rp x.sides.length rc) bg I n.rd y I)<|lM I<|lU (iA aW aV I I D oM sL)<|lU (fC dh I zT3 I D)<|lK (aZ (o:=0) (u:=vi z.cell) iT3 I C.rd T I)<|lW (bt call93 I<|fp E g1 _ _ A z.cell O N t) ?_;rintro _ _ _ ⟨rfl,rfl,rfl⟩;rw[J];refine aT I<|sW I<|lU (SU.eq (v':=vb true) (gQ I I)<|ze3 vb<|zf9 oM)<|tZ<|za2 I<|rG<|lM I<|lM I<|lU (iA qZ zT4 I I I oM sL)<|oZ (IM (e:=bw) (a:=true) 0 zT4 I I I (by rw[V];omega) I) ?_;exact cp<|bN<|tN<|rG<|lM I<|yD I<|lA I<|cp<|ct (j+1) sB I (by rw[U,← X];rfl) oM oM
  ·have a9:x.sides.take j=x.sides:=tL oM;rw[a9,← f];exact xI<|tX<|tX<|bX<|bN<|tN<|rG<|lM I<|yD I<|lA I<|cp<|ct (k+1) sB I I oM oM
 ·have b0:A.take k=A:=tL oM;rw[b0];refine xI<|tX<|tX<|bX<|tN<|sQ<|rZ<|aT I<|bK<|cP (zk2 _ _ _)<|cP (zk2 _ _ _)<|zb6 3 1<|oP (ι:=Value×Nat) (fun i=>[(3,i.1),(4,.slice q rs.length dd),(5,.slice (some ⟨b,0,none⟩) rs.length rs.length),(9,vi i.2)]) (fun _=>g1)
   (fun i=>rowA encInt 3 i.1 (((A.take i.2).filter fun c=>!lq A c.id).map Cl.id)::rowA bw 4 (.slice (some ⟨b,0,none⟩) rs.length rs.length) (dz A<|fI A)::pt L (bY #[v] 29)::s)
   (fun i=>i.2≤A.length) (fun i=>A.length - i.2) (.slice none 0 0,0) sB rfl rfl (zf7 _) ?_
  rintro ⟨ov,i⟩ hi;dsimp only at hi ⊢;refine sQ<|sW I<|lM I<|lU (eN aB I)<|yL I<|tZ<|iP I (fun Y=>?_) (fun Y=>?_)
  ·have K:i<A.length:=oM;have Z:i<rs.length:=oM;have d:=n.based oM;have G:=p.get (bd K)<|bd Z;have y:rs[((i:Nat):Int).toNat]?=some rs[i]:=bd Z;have f:=pH K (fun c=>!lq A c.id) Cl.id;have b6:=xB A i (fun c=>!lq A c.id) Cl.id;have b2:(dz A<|fI A)[((i:Nat):Int).toNat]?=some (lq A A[i].id):=by rw[← yb];exact pG<|bd K
   generalize A[i]=x at *;generalize rs[i]=r at *;refine kP<|tN<|sQ<|bK<|sW I<|lM I<|lU (iA qZ zT4 I I I oM sL)<|lK (eB (e:=bw) isAgg4 I (zb7 1 I) b2 I)<|lU (oF I)<|tZ<|iQ I (fun B=>?_) (fun B=>?_)
   ·refine rG<|lM I<|lM I<|lM I<|lU (iA aB ar I I d oM sL)<|lU (fC ap I zT3 I d)<|lK (aZ (e:=encCell) (o:=0) (u:=vi x.id) iT3 I n.rd y<|by rw[← G.1];rfl) ?_;refine lW (bS sty43 I I I (ab sB) dC) ?_;rintro _ _ _ ⟨b8,rfl,rfl,rfl⟩;refine lW (aP (e:=encInt) 0 x.id sty43 I I I I I oM oM) ?_;rintro ov' _ _ ⟨rfl,rfl⟩;refine lA I<|cp<|bN<|tN<|rG<|lM I<|yD I<|lA I<|cp ?_;refine ST.to (fun w P=>?_) (g':=g1) (s':=rowA encInt 3 ov' (((A.take<|i+1).filter fun c=>!lq A c.id).map Cl.id)::rowA bw 4 (.slice (some ⟨b,0,none⟩) rs.length rs.length) (dz A<|fI A)::pt L (bY #[v] 29)::s) ?_
    ·rw[f,zg2<|by simpa using B];exact P
    exact ct (ov',i+1) sB I I (by dsimp only;omega) lN
   ·refine kP<|bN<|tN<|rG<|lM I<|yD I<|lA I<|cp ?_;refine ST.to (fun w P=>?_) (g':=g1) (s':=rowA encInt 3 ov (((A.take<|i+1).filter fun c=>!lq A c.id).map Cl.id)::rowA bw 4 (.slice (some ⟨b,0,none⟩) rs.length rs.length) (dz A<|fI A)::pt L (bY #[v] 29)::s) ?_
    ·rw[f,zg1<|by simpa using B,zc7];exact P
    exact ct (ov,i+1) sB I I (by dsimp only;omega) lN
  ·have b3:A.take i=A:=tL oM;rw[b3];refine xI (tX<|tX<|bX<|tN<|sW I<|aT I<|rE<|fT fun g2 a0 b4=>?_);exact dR (s':=s) uR<|za8 (.inl I) results122 I ⟨I,a2.trans a0,b4⟩
open Go.ChangeShapes Go.WideShapes Go.ChangeAt Go.RowKit
set_option maxRecDepth 100000
section
variable {H:Type}{enc:TypeId×Value→H}{W:World}{base:Nat}{spare:Nat→Bool}{hd:Bool}
end
theorem CB {α β:Type}{b:α→Int}{c:β→Int}{f:α→β}(h:∀ a,c (f a)=b a)(x:α):∀ l:List α,ins c (f x) (l.map f)=(ins b x l).map f
 | []=>rfl
 | y::r=>by
  simp only[zg5,ins,h];split
  ·rfl
  ·rw[CB h x r];rfl
theorem nn {α β:Type}{b:α→Int}{c:β→Int}{f:α→β}(h:∀ a,c (f a)=b a):∀ l:List α,sortBy c (l.map f)=(sortBy b l).map f
 | []=>rfl
 | x::r=>by
  simp only[zg5,sortBy];rw[nn h r,CB h]
abbrev Pr:=Int×Int
def Ring (adj:Pr→Pr→Bool)(l:List Pr):Prop:=l≠[]∧∀ x∈l,∃ y∈l,y≠x∧adj x y=true
def Cyc (adj:Pr→Pr→Bool)(m:List Pr):Prop:=∃ l,Ring adj l∧∀ x∈l,x∈m
inductive Pth (adj:Pr→Pr→Bool)(m:List Pr):Pr→Pr→Prop
 | one (x y:Pr) (hy:y∈m) (hne:y≠x) (ha:adj x y=true):Pth adj m x y
 | cons (x y z:Pr) (hy:y∈m) (hne:y≠x) (ha:adj x y=true) (h:Pth adj m y z):Pth adj m x z
def G1 (T:List Pr)(low:Int):Option Int:=(T.find? fun q=>decide<|q.1=low).map Prod.snd
def adjS (S:Int→List Int)(x y:Pr):Bool:=(S x.2).contains y.1
section
variable {p:Pr}{S:Int→List Int}{T:List Pr}
end
def HX (l:List Cl)(h:Int):List Int:=((findC l h).getD aJ).sides.map ak.cell
structure Vd (l:List Cl)(T:List Pr):Prop where
 once:(T.map Prod.fst++T.map Prod.snd).Nodup
 side:∀ q∈T,q.1∈HX l q.2
 free:¬ Cyc (adjS<|HX l) T
section
variable {l:List Cl}(hl:(aq l).2=0)
include hl
end
structure Gd8 (l:List Cl):Prop where
 right:Rt (aa l)
 ids:∀ c∈l,0<c.id∧c.id≤4000
def em:Enc Pr 2:=⟨fun p=>[vi p.1,vi p.2],fun _=>rfl,fun _ u hu=>by simp at hu;rcases hu with rfl | rfl <;> rfl,by decide⟩
theorem SU.indexAddrC {P:Program}{N:Nat}{f:Fr}{dst:Option Tmp}{ty:TypeId}{pos:String}{af:Array Edge}{gd:Option<|Nat×Bool}{x y:Operand}{T e:TypeId}{k n o:Nat}{i:Int}{v:Value}(b:P.underlying T=some (.array n e))(d:∀ w,(sizeOf e).run P w = .ok k w)
  (a:ev f x=some (oa v o)) (hb:based v=true) (g:ev f y=some (vi i)) (j:0≤i) (l:i<n) :
  SU P N ⟨dst,.indexAddr T x y,ty,pos,af,gd⟩ f<|oa v<|o+i.toNat * k:=by
 cases v <;> simp[based] at hb
 rename_i p m c;cases p <;> simp at hb
 simp only[oa] at a ⊢;have:=iB (P:=P) (N:=N) (dst:=dst) (ty:=ty) (pos:=pos) (af:=af) (gd:=gd) b d a g j l;rwa [Nat.add_assoc] at this
theorem Tryz.sty46:STy Tryz.prog 46 88 2 16<|.agg #[vi 0,vi 0]:=⟨underlying46,⟨t88,by kernel_rfl,by kernel_rfl,by kernel_rfl,by kernel_rfl⟩,rfl,by decide⟩
theorem Tryz.build88 (a b:Int)(w:World):(Instr.build 88 #[(0,vi a),(1,vi b)]).run Tryz.prog w = .ok (.agg #[vi a,vi b]) w:=by
 have c:∀ n,(vi n).cells = #[vi n]:=fun _=>rfl;simp[Instr.build,Instr.fill,c];rfl
end Go.Proofs.YtpmoadbbfobbcaaGreatDoor
namespace Go.Sy
open Go Go.MapKept
variable {P:Program}
section
variable {w:World}{t kt et:TypeId}{z:Value}{b:Nat}{es:Array MapEntry}{clk:Nat}{l:List<|Int×Value}
end
section
variable {N:Nat}{E:World}{f:Fr}{g:PH}{s:Own}{dst:Option Tmp}{ty:TypeId}{pos:String}{af:Array Edge}{gd:Option<|Nat×Bool}
variable {t kt et:TypeId}{z:Value}{b:Nat}{l:List<|Int×Value}{x y u:Operand}{k:Int}{v:Value}
end
open Go
def FN (P:Program)(E:World)(gf:FuncId)(lb:List Value){α:Type}(encs:α→List Value)(xs:List α)(g0:PH):Prop :=
 ∀ (l:Nat) (ι:Type) (G:ι→PH) (S:ι→Own) (J:List α→ι→Prop) (i0:ι),J [] i0→(∀ pre i,J pre i→Le g0 (G i))→(∀ pre i g',J pre i→Le (G i) g'→∃ i',J pre i'∧G i'=g'∧S i'=S i) →
  (∀ pre x suf i sx,xs=pre++x::suf→J pre i→xN P E l (encs x).toArray (G i) (S i++sx) (fun v g' s'=>v = .bool true∧∃ j,J (pre++[x]) j∧Le (G i) (G j)∧g'=G j∧s'=S j++sx)) →
  ∀ sx,Ctr P E gf (.func (.yield l) #[] #[]::lb).toArray (G i0) (S i0++sx) (fun _ g' s'=>∃ j,J xs j∧g'=G j∧s'=S j++sx)
section
variable {M:Md}{N:Nat}{E:World}{Q:Exit→Act→World→Prop}{f:Fr}{g:PH}{s:Own}{dst:Option Tmp}{ty:TypeId}{pos:String}{af:Array Edge}{gd:Option<|Nat×Bool}
def qf {α ι:Type}(E:World)(G:ι→PH)(S:ι→Own)(J:List α→ι→Prop)(pre:List α)(x:α)(g:PH)(sx:Own):Exit→Act→World→Prop:=fun e _ w'=>e = .normal∧∃ j,At E (G j) (S j++sx) w'∧J (pre++[x]) j∧Le g (G j)
theorem XT.roundEnd2 {α ι:Type}{G:ι→PH}{S:ι→Own}{J:List α→ι→Prop}{pre:List α}{x:α}{g1:PH}{a:Own}(j:ι)(hg:G j=g)(b:S j++a=s)(c:J (pre++[x]) j)(hl:Le g1<|G j):XT M N E (qf E G S J pre x g1 a) .normal f g s:=fun _ _ _ d=>⟨rfl,j,by rw[hg,b];exact d,c,hl⟩
theorem XC.rangeFuncB {α ι κ:Type}{A:Operand}{ps:Array Tmp}{assign body:Code}{B:FuncId}{C:List Value}{encs:α→List Value}{xs:List α}{g0:PH}(G:ι→PH)(S:ι→Own)(J:List α→ι→Prop)(i0:ι)(c:Own)(fa:α→Fr)(fb:List α→α→ι→κ→Fr)(X:α→κ→Own)
  (b1:M.ro=none) (hg:ev f A=some (.func (.func B) #[] C.toArray)) (eg:∀ args w,(callFunc B args).run P w = .ok (.enter B args) w) (b2:∀ x,(encs x).length=ps.size)
  (hG:G i0=g) (hS:S i0++c=s) (a0:FN P E B C encs xs g0) (F:∀ pre i,J pre i→Le g0 (G i)) (b3:∀ pre i g',J pre i→Le (G i) g'→∃ i',J pre i'∧G i'=g'∧S i'=S i) (h0:J [] i0)
  (b4:∀ x a,Ok N f (jW a)→Ok N (fa x) { tmps:=(ps.zip (encs x).toArray).foldl (fun t (p,v)=>t.setIfInBounds p v) a.tmps,defers:=[] })
  (o:∀ l pre x i z,J pre i→XC P ⟨some l,[]⟩ N E assign (nE (N:=N) E (G i) (S i++z) (fb pre x i)<|X x) (fa x) (G i) (S i++z))
  (H:∀ l pre x K i z q,(∃ (r:Loop) (k:Nat),z[k]?=some (pt l<|.loop r))→xs=pre++x::K→J pre i→XC P ⟨some l,[]⟩ N E body (qf E G S J pre x (G i) z) (fb pre x i q) (G i) (X x q++(S i++z)))
  (O:∀ D j,J xs j→XT ⟨none,⟨.collected D,#[]⟩::M.ds⟩ N E Q .normal f (G j) (pt D (.deferred<|some [])::(S j++c))):XC P M N E (.rangeFunc A ps assign body) Q f g s:=by
 subst hG hS;intro a w ha hw;rw[b1];refine wpIn_rangeFunc ?_;intro fn _;obtain ⟨rec,b⟩:∃ rec:LoopState→Option Code→Loop,rec=fun st pe=>{ state:=st,pending:=pe,fn,tmps:=a.tmps,params:=ps,assign,body,defers:=w.heap.size }:=⟨_,rfl⟩;obtain ⟨L,hL⟩:∃ L,L=w.heap.size+1:=⟨_,rfl⟩;obtain ⟨D,hD⟩:∃ D,D=w.heap.size:=⟨_,rfl⟩;obtain ⟨W1,a4⟩:∃ W1,(w.alloc<|.deferred<|some []).alloc (.loop<|rec .ready none)=W1:=⟨_,rfl⟩;have hA:At E (G i0) (pt L (.loop<|rec .ready none)::pt D (.deferred<|some [])::(S i0++c)) W1:=by
  rw[← a4,hL,hD];have R:At E (G i0) (pt w.heap.size (.deferred<|some [])::(S i0++c))<|w.alloc<|.deferred<|some []:=hw.alloc (e:=pt w.heap.size<|.deferred<|some []) rfl rfl;have T:=R.alloc (e:=pt (w.alloc<|.deferred<|some []).heap.size<|.loop<|rec .ready none) rfl rfl;rw[World.size_alloc] at T;exact T
 obtain ⟨S2,y⟩:∃ S2:ι→Own,S2=fun i=>S i++(pt L (.loop<|rec .ready none)::pt D (.deferred<|some [])::c):=⟨_,rfl⟩;have b5:At E (G i0) (S2 i0++[]) W1:=by
  rw[y,zc7];dsimp only;refine hA.perm ?_;have R:(pt L (.loop<|rec .ready none)::pt D (.deferred<|some [])::(S i0++c))=[pt L<|.loop<|rec .ready none,pt D<|.deferred<|some []]++(S i0++c):=rfl;have T:S i0++(pt L (.loop<|rec .ready none)::pt D (.deferred<|some [])::c)=S i0++([pt L<|.loop<|rec .ready none,pt D<|.deferred<|some []]++c):=rfl;rw[R,T,← zg9,← zg9];exact List.perm_append_comm.append_right _
 refine⟨L,[{ target:=.collected D,args:=#[] }],W1,{ target:=.fn (.func B) C.toArray,args:=#[.func (.yield L) #[] #[]] },W1,B,(.func (.yield L) #[] #[]::C).toArray,W1,?_,?_,fun _ _=>trivial,?_,fun h=>(by cases h),?_⟩
 ·rw[← a4,b,hL,hD];exact run_enterLoop_outer _ _ _ _ _
 ·have R:a.eval A = .func (.func B) #[] C.toArray:=ha.ev hg;simp only[resolve,R];simp[go_sem]
 ·have:(#[.func (.yield L) #[] #[]]++C.toArray:Array Value)=(.func (.yield L) #[] #[]::C).toArray:=by simp
  simp[invoke,go_sem,eg]
 ·refine (callsIn_wide (n:=0 - 1)).2<|(a0 L ι G S2 J i0 h0 F (fun pre i g' Z hl=>by obtain ⟨i',a1,a2,a3⟩:=b3 pre i g' Z hl;exact⟨i',a1,a2,by rw[y];dsimp only;rw[a3]⟩) ?_ [] W1 b5).mono ?_
  ·intro pre x K i z b6 Z W hW;rw[y] at hW;simp only[zg9,List.cons_append] at hW;have c3:(S i).length=(S i).length:=rfl;have gl:∀ (i:ι) (u d:Ent) (r:Own),(S i++u::d::r)[(S i).length]?=some u:=fun i u d r=>by simp
   have hl:=hW.here<|gl i _ _ _;have hy:=run_yield (P:=P) (args:=(encs x).toArray) hl (by rw[b];simpa using b2 x);rw[b] at hy;refine⟨fn,_,assign,body,hy,roundIn_of_wpIn trivial ?_⟩;refine Code.wpIn_mono (fun e a1 w1 R=>?_)<|o L pre x i _ Z { tmps:=(ps.zip (encs x).toArray).foldl (fun t (p,v)=>t.setIfInBounds p v) a.tmps,defers:=[] } W ⟨I,b4 x a ha.2⟩ hW;obtain ⟨rfl,q,b7,a5⟩:=R;have glX:∀ (X:Own) (i:ι) (u d:Ent) (r:Own),(X++(S i++u::d::r))[X.length+(S i).length]?=some u:=fun X i u d r=>by rw[zh4 oM,Nat.add_sub_cancel_left];exact gl i u d r
   have b8:=a5.here<|glX _ i _ _ _;refine⟨_,run_beginRound b8<|by rw[b],?_⟩;have m:∀ (i:ι) (u d v:Ent) (r:Own),(S i++u::d::r).set (S i).length v=S i++v::d::r:=fun i u d v r=>by simp
   have U:∀ (X:Own) (i:ι) (u d v:Ent) (r:Own),(X++(S i++u::d::r)).set (X.length+(S i).length) v=X++(S i++v::d::r):=fun X i u d v r=>by rw[List.set_append_right _ _ oM,Nat.add_sub_cancel_left,m]
   have a9:=a5.obj (o':=.loop { rec .ready none with state:=.busy })<|glX _ i _ _ _;rw[U] at a9;refine Code.wpIn_mono (fun e a3 w3 h3=>?_)<|H L pre x K i _ q ⟨_,0,I⟩ b6 Z a1 _ b7 a9;obtain ⟨rfl,j,b0,b9,c0⟩:=h3;have c1:=b0.here<|gl j _ _ _;have he:=run_endRound (P:=P) none c1;have V:=b0.obj (o':=.loop { (rec .ready none) with state:=.ready,pending:=none })<|gl j _ _ _;rw[m] at V;refine⟨_,_,he,.bool true,G j,S2 j++z,I,?_,I,j,b9,c0,I,I⟩;rw[y];simp only[zg9,List.cons_append];rw[b] at V ⊢;exact V
  ·rintro e W2 ⟨v,g',s',rfl,Y,j,Z,rfl,rfl⟩;rw[y,zc7] at Y;have gl:∀ (i:ι) (u d:Ent) (r:Own),(S i++u::d::r)[(S i).length]?=some u:=fun i u d r=>by simp
   have hl:=Y.here<|gl j _ _ _;have he:=run_endLoop (P:=P) hl (by rw[b];simp);have T:=Y.obj (o':=.loop { (rec .ready none) with state:=.exhausted })<|gl j _ _ _;have m:∀ (i:ι) (u d v:Ent) (r:Own),(S i++u::d::r).set (S i).length v=S i++v::d::r:=fun i u d v r=>by simp
   rw[m] at T;have c2:(rec .ready none).pending=none:=by rw[b]
   refine⟨none,_,he.trans<|ze3 (fun p=>Result.ok p _) c2,?_⟩;refine O D j Z _ _ ⟨by rw[← ha.1];rfl,ha.2⟩ ?_;have h3:=(T.sublist (s':=S j++pt D (.deferred<|some [])::c)<|by exact (zc4 _).append<|zj2 _ _).perm List.perm_middle;exact h3
end
def Ii:=@XT.roundEnd2
def Jp:=@XC.rangeFuncB
end Go.Sy
namespace Go.Proofs.YtpmoadbbfobbcaaGreatDoor
open _root_.Go.Proofs.Tryz _root_.Go.Proofs.YtpmoadbbfobbcaaGreatDoor.Tryz
open Go Go.Sy Go.Pl Go.Proofs
set_option maxRecDepth 100000
set_option maxHeartbeats 1000000
set_option maxHeartbeats 2000000
variable (E:World)(g:PH)(s:Own)
theorem wX (v:Value)(l:List Cl)(a:ai g v l)(b:aM l) :
  Ctr Tryz.prog E 31 #[.agg #[v]] g s fun r g' s'=>r=vb (decide<|(aq l).2=0)∧g=g'∧s=s':=by
 obtain ⟨q,d,rfl⟩:=a.form;refine zb2 (args:=[.agg #[.slice q l.length d]]) func31 I ntmps31 (bE I)<|rZ (bW (bO I) fun c=>?_);refine aT I<|rZ<|lK (qV 0 aj ae I I I)<|lW (bt call75 I<|nx E g _ _ l a b) ?_;rintro _ _ _ ⟨rfl,rfl,rfl⟩;exact lM I<|yX I<|yX I<|lA I<|aT I<|sW I<|yE I<|aT I<|rE<|dR (s':=s) uR<|za8 (.inl I) results31 I ⟨I,I,I⟩
section
variable {P:Program}{N:Nat}{E:World}{f:Fr}{g:PH}{s:Own}{dst:Option Tmp}{ty:TypeId}{pos:String}{af:Array Edge}{gd:Option<|Nat×Bool}
variable {t kt et:TypeId}{z:Value}{b:Nat}{l:List<|Int×Value}{x y u:Operand}{k:Int}{v:Value}
theorem SO.insertK (i:Nat)(B:MTy P t kt et z)(C:ev f x=some (.map<|some b))(D:ev f y=some (vi k))(F:ev f u=some v)(m:s[i]?=some (mp b l)) :
  SO P N E ⟨dst,.insert t x y u,ty,pos,af,gd⟩ f g s fun _ g' s'=>g=g'∧s'=s.set i (mp b<|gS l k v) :=
 Jr fun a w n o=>by
  obtain ⟨es,clk,G,H⟩:=o.own _<|zg3 m;have hb:w.heap[b]?=some (.map es clk):=by simpa [mp] using G
  obtain ⟨d,c,hr,p⟩:=jv B hb H k v;have r:=o.fresh _ (zg3 m) b rfl;obtain ⟨J,K⟩:=MapKept.heap_set (o':=.map d c) hb;refine⟨_,g,s.set i<|mp b<|gS l k v,by simp[execOp,n.ev C,n.ev D,n.ev F,hr];rfl,?_,rfl,rfl⟩;refine o.turn m I ⟨I,(by exact dm _)⟩ I dO (fun q _ A=>K q<|fun e=>A<|by simp[mp,e]) ⟨d,c,by simpa [mp] using J,p⟩ fun L j=>?_;simp only[mp,zg8] at j;subst j;exact⟨by simpa using r.2,.inl I⟩
end
def rk:List<|Int×Value:=[(1,.func (.func 144) #[] #[]),(2,.func (.func 145) #[] #[]),(3,.func (.func 146) #[] #[]),(4,.func (.func 147) #[] #[]),(5,.func (.func 148) #[] #[])]
theorem Tryz.mtyKinds:∃ z,MTy Tryz.prog 132 3 130 z:=⟨_,rfl,rfl,fun _=>rfl⟩
theorem nr:Ctr Tryz.prog E 86 #[] g s fun r g' s'=>s=s'∧Le g g'∧∃ b,r = .map (some b)∧Mp g' b rk:=by
 obtain ⟨z,a⟩:=Tryz.mtyKinds;refine zb2 (args:=[]) func86 I ntmps86 (bE I)<|rZ<|aT I<|rZ<|lW (Io) ?_;rintro _ _ _ ⟨d,rfl,rfl,rfl⟩;refine lO (SO.insertK 0 a I I I I) ?_;rintro _ _ _ ⟨rfl,rfl⟩;refine lO (SO.insertK 0 a I I I I) ?_;rintro _ _ _ ⟨rfl,rfl⟩;refine lO (SO.insertK 0 a I I I I) ?_;rintro _ _ _ ⟨rfl,rfl⟩;refine lO (SO.insertK 0 a I I I I) ?_;rintro _ _ _ ⟨rfl,rfl⟩;refine lO (SO.insertK 0 a I I I I) ?_;rintro _ _ _ ⟨rfl,rfl⟩;refine lM I<|aT I<|rE<|ST.to (g':=g) (s':=mp d rk::s) (fun w e=>e) (Ju fun g1 c hm=>?_);exact za8 (.inl I) results86 I ⟨I,c,d,I,hm⟩
end Go.Proofs.YtpmoadbbfobbcaaGreatDoor
namespace Go.Sy
open Go Go.MapKept
def vg:List (Int×Value)→Int→List (Int×Value)
 | [],_=>[]
 | (a,v)::r,k=>if k=a then r else (a,v)::vg r k
theorem vG (k:Int):∀ (l:List<|Int×Value),(∀ p∈l,p.1≠k)→vg l k=l
 | [],_=>rfl
 | (a,u)::r,h=>by
  have b:k≠a:=fun e=>h (a,u) dO e.symm;simp only[vg,b,if_false,vG k r fun p hp=>h p<|by simp[hp]]
theorem CD (k:Int):∀ (l:List<|Int×Value) (i:Nat),(fnd k l i=none∧∀ p∈l,p.1≠k)∨∃ j v,fnd k l i=some (i+j,v)∧j<l.length∧vg l k=l.eraseIdx j
 | [],_=>.inl ⟨rfl,by simp⟩
 | (a,v)::r,i=>by
  by_cases h:k=a
  ·subst h;exact .inr ⟨0,v,by simp[fnd],by simp,by simp[vg]⟩
  ·rcases CD k r (i+1) with ⟨b,c⟩ | ⟨j,v',b,c,d⟩
   ·refine .inl ⟨by simp[fnd,h,b],fun p hp=>?_⟩
    rcases zf2.1 hp with e | e
    ·rw[e];exact fun f=>h f.symm
    ·exact c p e
   ·exact .inr ⟨j+1,v',by simp[fnd,h,b];omega,by simpa using c,by simp[vg,h,d]⟩
theorem ph {α β:Type}(f:α→β):∀ (l:List α) (j:Nat),(l.eraseIdx j).map f=(l.map f).eraseIdx j
 | [],_=>rfl
 | _::_,0=>rfl
 | x::l,j+1=>ze3 (List.cons<|f x)<|ph f l j
variable {P:Program}{ty t T:TypeId}{b N:Nat}{E:World}{f:Fr}{g:PH}{s:Own}{z:Value}{dst:Option Tmp}{pos:String}{af:Array Edge}{gd:Option<|Nat×Bool}{x:Operand}
section
variable {w:World}{kt et:TypeId}{es:Array MapEntry}{clk:Nat}{l:List<|Int×Value}
theorem rH (e:MTy P t kt et z)(hb:w.heap[b]?=some (.map es clk))(hm:xq l es clk)(k:Int) :
  ∃ c a,(Builtin.delete_ #[t,kt] ty #[.map<|some b,vi k]).run P w = .ok (.tuple #[]) { w with heap:=w.heap.setIfInBounds b (.map c a) }∧xq (vg l k) c a:=by
 have o:=kY k es.toList l 0 hm.1;have f:=MapKept.run_findKey (w:=w) e.key o;have m:=MapKept.run_checkKey (P:=P) (w:=w) e.key (k:=vi k) rfl es.isEmpty 9999;have n:es.toList.length=l.length:=by have:=ze3 List.length hm.1;simpa using this
 rcases CD k l 0 with ⟨hn,g⟩ | ⟨j,u,p,r,d⟩
 ·refine⟨es,clk,?_,?_⟩
  ·rw[hn] at f;simp[Builtin.delete_,run_underlying e.und,MapKept.run_getObj_map hb,m,f,MapKept.run_setObj_map _ hb,Result.andThen]
  ·rw[vG k l g];exact hm
 ·rw[p,Nat.zero_add] at f;refine⟨es.eraseIdxIfInBounds j,clk,?_,?_,stamped_erase hm.2 j⟩
  ·simp[Builtin.delete_,run_underlying e.und,MapKept.run_getObj_map hb,m,f,MapKept.run_setObj_map _ hb,Result.andThen]
  ·have i:j<es.size:=by
    have q:j<es.toList.length:=oM;simpa using q
   rw[d];unfold Array.eraseIdxIfInBounds;rw[dif_pos i,Array.toList_eraseIdx,ph,hm.1,← ph]
end
section
variable {ops:Array Oper}{Q:Exit→Act→World→Prop}
variable {kt et:TypeId}{l:List<|Int×Value}{y:Operand}{k:Int}
theorem SO.delete (i:Nat)(v:MTy P t kt et z)(A:ev f x=some (.map<|some b))(B:ev f y=some (vi k))(m:s[i]?=some (mp b l)) :
  SO P N E ⟨dst,.call ⟨.builtin .delete,#[x,y],#[t,kt]⟩,ty,pos,af,gd⟩ f g s fun _ g' s'=>g=g'∧s'=s.set i (mp b<|vg l k) :=
 IH fun a w u n=>by
  obtain ⟨es,clk,C,D⟩:=n.own _<|zg3 m;have hb:w.heap[b]?=some (.map es clk):=by simpa [mp] using C
  obtain ⟨d,c,hr,o⟩:=rH (ty:=ty) v hb D k;have p:=n.fresh _ (zg3 m) b rfl;obtain ⟨F,G⟩:=MapKept.heap_set (o':=.map d c) hb;refine⟨_,_,g,s.set i<|mp b<|vg l k,by simp[execOp,resolve,invoke,builtin,u.ev A,u.ev B,hr];exact⟨I,I⟩,?_,I,I⟩;refine n.turn m I ⟨I,(by exact dm _)⟩ I dO (fun q _ r=>G q<|fun e=>r<|by simp[mp,e]) ⟨d,c,by simpa [mp] using F,o⟩ fun H j=>?_;simp only[mp,zg8] at j;subst j;exact⟨by simpa using p.2,.inl I⟩
end
open Go
theorem SQ.sof {o:Oper}{v:Value}(h:SQ P N E o f g s v):SO P N E o f g s fun v' g' s'=>v'=v∧g=g'∧s=s':=SO.mono h.so fun _ _ _ ⟨a,b,c⟩=>⟨a,b.symm,c.symm⟩
theorem SQ.loadOne {o:Nat}{v:Value}(c:∀ w,(isAgg T).run P w = .ok true w)(d:∀ w,(sizeOf T).run P w = .ok 1 w)(e:ev f x=some (pp b o))(hc:ao g s ⟨b,o,none⟩ v) :
  SQ P N E ⟨dst,.load T x,ty,pos,af,gd⟩ f g s (.agg #[v]) :=
 SQ.loadAggAt (vs:=[v]) c d e rfl fun j u a=>by
  cases j with
  | zero=>simp at a;subst a;exact hc
  | succ j=>simp at a
section
variable {α:Type}{k:Nat}
theorem SO.appNewA {e:Enc α k}{bytes:Nat}{y:Operand}{u:Value}{p:Option Addr}{m:List α}(c:STy P t T k bytes z)(d:ev f x=some (.slice p 0 0))(i:ev f y=some u)(j:SlA e g u m)
  (hb:m.length * bytes≤140737488355328) (b:m.length≤4611686018427387904) :
  SO P N E ⟨dst,.call ⟨.builtin .append,#[x,y],#[t,t]⟩,ty,pos,af,gd⟩ f g s fun v' g' s'=>g=g'∧s'=rowA e T v' m::s:=fun a w n o =>
 aQ (e:=e) (l:=[]) (s:=rowA e T (.slice p 0 0) []::s) 0 c d i rfl j (by simpa using hb) (by simpa using b) a w n<|o.emptyRow T k p
end
section
variable {fn:Func}{R:Value→PH→Own→Prop}{e:Exit}
theorem ST.retCCT {U T' U':TypeId}{t j u z k A:Nat}{cs cs':Array Value}{G l:Nat×Nat}{x:Value}(i H:Nat)(s':Own)(J:e = .ret∨e = .normal)(hr:fn.results = #[.cell t T,.cell j T',.tmp u])(K:aU f t=some (pp b 0))(m:aU f j=some (pp z 0))(L:aU f u=some x)
  (M:∀ w,(isAgg T).run P w = .ok true w) (O:∀ w,(sizeOf T).run P w = .ok k w) (n:∀ w,(isAgg T').run P w = .ok true w) (o:∀ w,(sizeOf T').run P w = .ok A w)
  (Q:s[i]?=some (pt b<|.cells cs U G)) (hc:cs.size=k) (p:s[H]?=some (pt z<|.cells cs' U' l)) (q:cs'.size=A) (r:s'.Sublist s) (S:R (.tuple #[.agg cs,.agg cs',x]) g s'):ST N E (bodyPost P fn<|nI E R) e f g s :=
 fun a w c v=>by
  have V:=cw (P:=P) v M (by rw[hc];exact O) Q;have y:=cw (P:=P) v n (by rw[q];exact o) p;have B:=c.at_ t _ K;have d:=c.at_ j _ m;have C:=c.at_ u _ L;simp only[Array.getD_eq_getD_getElem?] at B d C;have D:(results fn a.tmps).run P w = .ok (.tuple #[.agg cs,.agg cs',x]) w:=by simp[results,hr,asAddr,pp,B,d,V,y,C]
  have F:nI E R (.returned<|.tuple #[.agg cs,.agg cs',x]) w:=⟨_,g,s',rfl,v.sublist r,S⟩
  rcases J with rfl | rfl
  ·exact⟨c.defers,_,D,F⟩
  ·exact⟨c.defers,_,D,F⟩
end
def IE:=@SQ.sof
def Jq:=@SO.appNewA
def oR:=@ST.retCCT
end Go.Sy
namespace Go.Proofs.YtpmoadbbfobbcaaGreatDoor
open _root_.Go.Proofs.Tryz _root_.Go.Proofs.YtpmoadbbfobbcaaGreatDoor.Tryz
open Go Go.Sy Go.Pl Go.Proofs
def mx:List Cl→Cl→List Cl
 | [],c=>[c]
 | x::l,c=>if c.id=x.id then c::l else x::mx l c
def D6:List Rc→Rc→List Rc
 | [],c=>[c]
 | x::l,c=>if c.id=x.id then c::l else x::D6 l c
def BZ:List Cl→Int→List Cl
 | [],_=>[]
 | x::l,k=>if k=x.id then l else x::BZ l k
def Ei:List Rc→Int→List Rc
 | [],_=>[]
 | x::l,k=>if k=x.id then l else x::Ei l k
theorem lc (r:Rc):∀ rs:List Rc,gS (rs.map au) r.id (rcv r)=(D6 rs r).map au
 | []=>rfl
 | x::rs=>by
  simp only[zg5,au,gS,D6];by_cases h:r.id=x.id
  ·rw[zg2 h,zg2 h];rfl
  ·rw[zg1 h,zg1 h];exact ze3 _<|lc r rs
theorem Cw (k:Int):∀ rs:List Rc,vg (rs.map au) k=(Ei rs k).map au
 | []=>rfl
 | x::rs=>by
  simp only[zg5,au,vg,Ei];by_cases h:k=x.id
  ·rw[zg2 h,zg2 h]
  ·rw[zg1 h,zg1 h];exact ze3 _<|Cw k rs
theorem Av {R:Cl→Rc→Prop}(b:∀ c r,R c r→r.id=c.id){c:Cl}{r:Rc}(h:R c r):∀ {B:List Cl} {rs:List Rc},ay R B rs→ay R (mx B c) (D6 rs r)
 | [],[],_=>⟨h,trivial⟩
 | x::B,y::rs,a=>by
  have e1:=b _ _ h;have e2:=b _ _ a.1;unfold mx D6;rw[e1,e2];split
  ·exact⟨h,a.2⟩
  ·exact⟨a.1,Av b h a.2⟩
 | [],_::_,a=>a.elim
 | _::_,[],a=>a.elim
theorem Ay {R:Cl→Rc→Prop}(b:∀ c r,R c r→r.id=c.id)(k:Int):∀ {B:List Cl} {rs:List Rc},ay R B rs→ay R (BZ B k) (Ei rs k)
 | [],[],_=>trivial
 | x::B,y::rs,a=>by
  have e2:=b _ _ a.1;unfold BZ Ei;rw[e2];split
  ·exact a.2
  ·exact⟨a.1,Ay b k a.2⟩
 | [],_::_,a=>a.elim
 | _::_,[],a=>a.elim
theorem ox {c:Cl}:∀ {B:List Cl},(∀ x∈B,x.id≠c.id)→mx B c=B++[c]
 | [],_=>rfl
 | x::B,h=>by
  have a:¬ c.id=x.id:=fun e=>h x dO e.symm;unfold mx;rw[zg1 a,ox fun y b=>h y<|by simp[b]];rfl
theorem ku {c:Rc}:∀ {B:List Rc},(∀ x∈B,x.id≠c.id)→D6 B c=B++[c]
 | [],_=>rfl
 | x::B,h=>by
  have a:¬ c.id=x.id:=fun e=>h x dO e.symm;unfold D6;rw[zg1 a,ku fun y b=>h y<|by simp[b]];rfl
theorem zP {c y:Cl}:∀ {B:List Cl},y∈mx B c→y=c∨y∈B
 | [],h=>by simpa [mx] using h
 | x::B,h=>by
  unfold mx at h;split at h
  ·rcases zf2.1 h with e | e
   ·exact .inl e
   ·exact .inr (by simp[e])
  ·rcases zf2.1 h with e | e
   ·exact .inr (by simp[e])
   ·rcases zP e with e | e
    ·exact .inl e
    ·exact .inr (by simp[e])
theorem kV {c:Cl}:∀ {B:List Cl},(B.map Cl.id).Nodup→((mx B c).map Cl.id).Nodup
 | [],_=>by simp[mx]
 | x::B,h=>by
  rw[zg5,zk3] at h;unfold mx;split
  ·rename_i e;rw[zg5,zk3,e];exact h
  ·rename_i e;rw[zg5,zk3];refine⟨fun hm=>?_,kV h.2⟩;obtain ⟨y,b,a⟩:=zf3.1 hm
   rcases zP b with e3 | e3
   ·exact e (by rw[← e3];exact a)
   ·exact h.1 (by rw[← a];exact zf3.2 ⟨y,e3,I⟩)
theorem qM (k:Int):∀ {B:List Cl},(B.map Cl.id).Nodup→BZ B k=B.filter fun c=>!decide (c.id=k)
 | [],_=>rfl
 | x::B,h=>by
  rw[zg5,zk3] at h;unfold BZ;by_cases e:k=x.id
  ·rw[zg2 e,zi8];have b:∀ y∈B,(!decide (y.id=k))=true:=fun y d=>by
    have:y.id≠k:=fun a=>h.1 (by rw[← e,← a];exact zf3.2 ⟨y,d,I⟩);simpa using this
   rw[List.filter_eq_self.2 b];simp[e]
  ·rw[zg1 e,zi8,qM k h.2];have:(!decide (x.id=k))=true:=by simpa using fun a=>e a.symm
   rw[zg2 this]
theorem vn {α:Type}{key:α→Int}{l m:List α}(h:l.Perm m)(hn:(l.map key).Nodup):aN key l m:=by
 refine⟨h.length_eq.symm,fun c=>?_⟩;have hp:=h.filter fun a=>key a == c;have b:∀ q:List α,(q.map key).Nodup→(q.filter fun a=>key a == c).length≤1:=by
  intro q;induction q with
  | nil=>intro _;simp
  | cons x r ih =>
   intro hq;rw[zg5,zk3] at hq;rw[zi8];by_cases e:(key x == c)=true
   ·rw[zg2 e];have:r.filter (fun a=>key a == c)=[]:=lL fun y f g=>hq.1 (by
     have e1:key x=c:=by simpa using e
     rw[e1,← g];exact zf3.2 ⟨y,f,I⟩)
    rw[this];simp
   ·rw[zg1 e];exact ih hq.2
 have d:=b l hn
 match hl:l.filter (fun a=>key a == c),hm:m.filter (fun a=>key a == c) with
 | [],[]=>rfl
 | [],y::t=>rw[hl,hm] at hp;exact absurd hp.length_eq dO
 | x::t,[]=>rw[hl,hm] at hp;exact absurd hp.length_eq dO
 | x::t,y::u =>
  rw[hl,hm] at hp;rw[hl] at d;have i:t=[]:=zf5 (by simpa using d);subst i;have:=hp.length_eq;have j:u=[]:=zf5 (by simpa using this.symm);subst j;have:=hp.subset<|List.mem_cons_self ..;simp at this;rw[this]
theorem xg {l m:List Cl}(h:l.Perm m)(hn:(l.map Cl.id).Nodup):aa l=aa m:=by
 have:sortBy Cl.id l=sortBy Cl.id m:=(c8 l).unique (c8 m)<|(cI l).symm.trans<|(vn h hn).trans<|cI m;unfold aa;rw[this]
set_option maxRecDepth 100000
set_option maxHeartbeats 1000000
structure Ed where
 kind:Int
 cell:Int
 dim:Int
 new:Int
 other:Int
 sides:List ak
 pairs:List Pr
def EdR (g:PH)(v:Value)(e:Ed):Prop:=∃ sv pv,v = .agg #[vi e.kind,vi e.cell,vi e.dim,vi e.new,vi e.other,sv,pv]∧SlA encSide g sv e.sides∧SlA em g pv e.pairs
variable {c:Cl}{g':PH}{v:Value}
theorem EdR.mono {g:PH}{e:Ed}(h:EdR g v e)(hl:Le g g'):EdR g' v e:=by
 obtain ⟨sv,pv,a,b,c⟩:=h;exact⟨sv,pv,a,za5 b hl,za5 c hl⟩
abbrev edP (bx:Nat)(u:Value)(mb ms:Nat)(bk:Bool):Ent:=pt bx<|bY #[u,.map<|some mb,.map<|some ms,vb bk] 183
theorem Tryz.build183 (u:Value)(h:u.cells = #[u])(x y:Option Nat)(w:World):(Instr.build 183 #[(0,.agg #[u]),(1,.map x),(2,.map y)]).run Tryz.prog w = .ok (.agg #[u,.map x,.map y,vb false]) w:=by
 have a:∀ x,(Value.map x).cells = #[.map x]:=fun _=>rfl;have b:(Value.agg #[u]).cells = #[u]:=rfl;simp[Instr.build,Instr.fill,a,b];rfl
theorem BK {R:Cl→Rc→Prop}(d:∀ c r,R c r→r.id=c.id){tl:List Cl}{rs:List Rc}(h:ay R tl rs)(k:Int):∃ r,(eU (rs.map au) k).getD (.agg #[vi 0,vi 0,.slice none 0 0])=rcv r∧(eU (rs.map au) k).isSome=(ah tl k).isSome:=by
 rcases s8 d h k with ⟨b,a⟩ | ⟨c,r,b,a,e⟩
 ·exact⟨BQ,by rw[a];rfl,by unfold ah;rw[b,a];rfl⟩
 ·exact⟨r,by rw[a];rfl,by unfold ah;rw[b,a];rfl⟩
variable (E:World)(g:PH)(s:Own)
theorem CM (v:Value)(l:List ak)(a:SlA encSide g v l)(hn:l.length<1099511627776) :
  Ctr Tryz.prog E 130 #[v] g s fun r g' s'=>g=g'∧s'=rowA encSide 87 r l::s:=by
 obtain ⟨p,c,rfl⟩:=za4 a;refine zb2 (args:=[.slice p l.length c]) func130 I ntmps130 (bE I)<|rZ<|aT I<|sQ<|sW I<|lU (Jz aW I I)<|tZ<|iQ I (fun hp=>?_) (fun hp=>?_)
 ·refine rZ<|aT I<|rE<|tR ?_;have hl:l=[]:=by
   cases l with
   | nil=>rfl
   | cons x r =>
    have hb:=za6 a dO;cases p with
    | none=>simp[based] at hb
    | some q=>simp at hp
  subst hl;exact I7 87 2<|za8 (.inl I) results130 I ⟨I,I⟩
 ·refine kP<|tN<|rZ<|lW (bS sty45 I I I (ab trivial) dC) ?_;rintro _ _ _ ⟨b,rfl,rfl,rfl⟩;refine Is 87 2 (some ⟨b,0,none⟩)<|lM I<|lW (IU (m:=l.length) 0 l.length (l.flatMap encSide.enc) sty45 I I I I I (Sl.rd a) (encSide.length l) (encSide.ones l) oM dO oM oM) ?_;rintro r7 _ _ ⟨rfl,rfl⟩;exact aT I<|rE<|dR (s':=rowA encSide 87 r7 l::s) (.cons_cons _<|.cons _<|.refl _)<|za8 (.inl I) results130 I ⟨I,I⟩
theorem EN (v:Value)(l:List Cl)(hv:ai g v l)(Y:aM l)(J:((aa l).map Cl.id).Nodup) :
  Ctr Tryz.prog E 87 #[.agg #[v]] g s fun r g' s'=>Le g g'∧∃ bx u Z ms rs,r=pp bx 0∧ai g' u (aa l)∧ay zq (aa l) rs∧s'=edP bx u Z ms false::mp Z (rs.map au)::mp ms []::(qS (aa l) rs++s):=by
 have t:=aF Y;refine zb2 (args:=[.agg #[v]]) func87 I ntmps87 (bE I)<|rZ (bW (bO I) fun L=>?_);refine aT I<|rZ<|lK (qV 0 aj ae I I I)<|lW (bt call24 I<|fm E g _ v l hv Y) ?_;rintro _ g1 _ ⟨rfl,y,u,rfl,hc⟩;have M:=hc;obtain ⟨rs,n,m⟩:=hc;obtain ⟨q,d,rfl⟩:=za4 n;refine lW (Io) ?_;rintro _ _ _ ⟨f,rfl,rfl,rfl⟩;refine lW (Io) ?_;rintro _ _ _ ⟨j,rfl,rfl,rfl⟩;refine lU (za3 I<|build183 _ I _ _) (bW (bO I) fun b=>?_);refine aT I<|sQ<|sW I<|lU (nC I)<|lU (bj ly I ae I)<|lU (bj dw I cg I)<|lK (qL ei I<|cO 0 I I)<|lU (eN aB I)<|lM I<|tZ<|bK ?_;generalize aa l=A at *;have a0:=m.length;have a1:=t.1;refine oP (ι:=Nat×List Rc) (fun i=>[(3,pp b 0),(16,.slice q rs.length d),(17,vi rs.length),(18,vi i.1)]) (fun _=>g1)
  (fun i=>edP b (.slice q rs.length d) f j false::mp j []::mp f (i.2.map au)::pt L (bY #[v] 29)::(qS (A.take i.1) i.2++s))
  (fun i=>i.1≤rs.length∧ay zq (A.take i.1) i.2) (fun i=>rs.length - i.1) (0,[])
  sB rfl rfl ⟨zf7 _,by simp[ay]⟩ ?_
 rintro ⟨k,acc⟩ ⟨hk,a⟩;dsimp only at hk a ⊢;have N:=a.length;refine rZ<|yL I<|tZ<|sQ<|iP I (fun O=>?_) (fun O=>?_)
 ·have z:k<rs.length:=oM;have o:k<A.length:=oM;have P:=za6 n oM;have Q:=m.get (bd o)<|bd z;have R:rs[((k:Nat):Int).toNat]?=some rs[k]:=bd z;have B:A.take (k+1)=A.take k++[A[k]]:=tS o;have S:=t.2 _<|gM o;have C:∀ x∈acc,x.id≠A[k].id:=fun x hx=>by
   obtain ⟨i,hi,rfl⟩:=zc8 hx;have D:i<(A.take k).length:=oM;have T:i<k:=by rw[ze5] at D;omega
   have U:=(a.get (bd D)<|bd hi).1;rw[U,List.getElem_take];intro e;have H:=zd1.1 (List.nodup_iff_pairwise_ne.1 J) i k (by rw[ze7];omega) (by rw[ze7];omega) T;simp only[List.getElem_map] at H;exact H e
  generalize rs[k]=x at *;generalize A[k]=cx at *;obtain ⟨xi,xd,xp,xn,xc⟩:=x;obtain ⟨e1,e2,c⟩:=Q;dsimp only at e1 e2 c;have V:xn=cx.sides.length:=zc2 c;subst V e1 e2;refine kP<|tN<|sQ<|bK<|rZ<|lU (iA aB ar I I P oM (show (k:Int)<((rs.length:Nat):Int) by omega))<|lK (iN dT ar I (za7 n) R) (bW (aL zl6) fun b5=>?_);refine oZ (sK 0 ar I I I I I sB) ?_;refine tZ<|rZ<|lU (bj ap I aI I)<|lK (qL (v:=.slice xp cx.sides.length xc) bg I<|cO 0 I I)<|lW (bt call130 I<|CM E g1 _ _ cx.sides c S) ?_;rintro v24 _ _ ⟨rfl,rfl⟩;refine zd4 fun ⟨w0,F⟩=>?_;obtain ⟨p,d2,rfl⟩:=ag (e:=encSide) (l:=cx.sides) (i:=0) F rfl;clear F w0;refine lU (bj ap rfl aI rfl)<|oZ (oi 1 aI rfl rfl rfl rfl (bE rfl)<|by rfl)<|tZ<|dW [7] [(0,2),(1,2),(2,2),(3,1),(4,2),(5,1),(6,1),(7,0)] ze4 kR ?_;refine yM I<|pU I (nC I)<|pU I (bj ly I rm I)<|gB I (qL ru I<|cO 2 I I)<|pU I (bj ap I zT3 I)<|gB I (qL iT3 I<|cO 1 I I)<|gB I (qV 1 dT ar I I I)<|H8 I (tn 4 mty56 I I I I) (.inl dC) ?_;rintro _ _ _ ⟨rfl,rfl⟩;refine du<|bN<|tN<|rG<|yD I<|lM I<|cp ?_;refine ST.to (fun w W=>?_) (g':=g1) (s':=edP b (.slice q rs.length d) f j false::mp j []::mp f ((acc++[(⟨cx.id,cx.dim,⟨p,cx.sides.length,d2⟩⟩:Rc)]).map au)::pt L (bY #[v] 29)::(qS (A.take<|k+1) (acc++[(⟨cx.id,cx.dim,⟨p,cx.sides.length,d2⟩⟩:Rc)])++s)) ?_
  ·rw[B,qD cx _ N];have G:gS (acc.map au) cx.id (rcv ⟨cx.id,cx.dim,⟨p,cx.sides.length,d2⟩⟩)=(acc++[(⟨cx.id,cx.dim,⟨p,cx.sides.length,d2⟩⟩:Rc)]).map au:=by
    rw[← ku C];exact lc ⟨cx.id,cx.dim,⟨p,cx.sides.length,d2⟩⟩ acc
   rw[← G];have U:=(W.sublist (s':=HH cx ⟨cx.id,cx.dim,⟨p,cx.sides.length,d2⟩⟩::(edP b (.slice q rs.length d) f j false::mp j []::mp f (gS (acc.map au) cx.id<|rcv ⟨cx.id,cx.dim,⟨p,cx.sides.length,d2⟩⟩)::pt L (bY #[v] 29)::qS (A.take k) acc)++s)<|.cons_cons _<|.cons _<|.refl _);have H:=U.perm List.perm_middle.symm;simpa using H
  exact ct (k+1,_) sB I I ⟨by dsimp only;omega,by
   dsimp only;rw[B];exact a.append ⟨⟨I,I,I⟩,trivial⟩⟩ (by dsimp only;omega)
 ·have X:A.take k=A:=tL oM;rw[X] at a ⊢;refine xI<|tX<|tX<|bX<|tN<|sW I<|aT I<|rE ?_;refine ST.to (g':=g1) (s':=edP b (.slice q rs.length d) f j false::mp f (acc.map au)::mp j []::(qS A acc++s)) (fun w W=>(W.perm<|List.Perm.cons _<|zk2 _ _ _).sublist<|.cons_cons _<|.cons_cons _<|.cons_cons _<|.cons _<|.refl _) ?_;exact za8 (.inl I) results87 I ⟨y,b,_,f,j,acc,I,M,a,I⟩
theorem sw (bx b ms:Nat)(u:Value)(bk:Bool)(k:Int)(R:Cl→Rc→Prop)(f:∀ c r,R c r→r.id=c.id)(B:List Cl)(rs:List Rc)(a:ay R B rs)(i j:Nat)(l:s[i]?=some (edP bx u b ms bk))(m:s[j]?=some (mp b<|rs.map au)) :
  Ctr Tryz.prog E 193 #[pp bx 0,vi k] g s fun r g' s'=>r=vb (ah B k).isSome∧g=g'∧s=s':=by
 obtain ⟨x,d,e⟩:=BK f a k;refine zb2 (args:=[pp bx 0,vi k]) func193 I ntmps193 (bE I)<|rZ<|aT I<|sW I<|lU (nC I)<|lU (bj ly I rm I)<|lK (qL (v:=.map<|some b) ru I<|cO i l I)<|lM I<|lK (SQ.eq (v':=.tuple #[rcv x,vb (ah B k).isSome]) (qn mty56 I I<|bo.own j m)<|by rw[d,e]) ?_;refine lM I (yX I<|yX I<|bW (aL zl6) fun n=>?_);refine oZ (sK 0 ar I I I I I sB) ?_;refine aT I<|sW I<|aT I<|rE<|dR (s':=s) uR ?_;exact za8 (.inl I) results193 I ⟨I,I,I⟩
theorem y8 (bx c ms:Nat)(u v:Value)(bk:Bool)(e:Ed)(B:List Cl)(rs:List Rc)(a:ay (an g) B rs)(i j:Nat)(m:s[i]?=some (edP bx u c ms bk))(n:s[j]?=some (mp c<|rs.map au))(t:EdR g v e)(l:e.sides.length<1099511627776) :
  Ctr Tryz.prog E 144 #[pp bx 0,v] g s fun r g' s'=>Le g g'∧((r=vi 54∧(ah B e.cell).isSome=true∧s=s')∨(r=vi 0∧(ah B e.cell).isSome=false∧∃ d,ay (an g') (mx B ⟨e.cell,e.dim,e.sides⟩) d∧s'=s.set j (mp c<|d.map au))):=by
 obtain ⟨sv,pv,rfl,f,w⟩:=t;obtain ⟨sp,p,rfl⟩:=za4 f;refine zb2 (args:=[pp bx 0,.agg #[vi e.kind,vi e.cell,vi e.dim,vi e.new,vi e.other,.slice sp e.sides.length p,pv]]) func144 I ntmps144 (bE I)<|rZ (bW (bO I) fun x=>?_);refine aT I<|sQ<|sW I<|lU (bj aO I zT3 I)<|lK (qL iT3 I<|cO 0 I I)<|lW (bt call193 I<|sw E g _ bx c ms u bk e.cell _ (fun _ _ h=>h.1) B rs a (i+1) (j+1) m n) ?_;rintro _ _ _ ⟨rfl,rfl,rfl⟩;refine tZ<|iQ I (fun hp=>?_) (fun hp=>?_)
 ·exact rZ<|aT I<|rE<|tR<|dR (s':=s) uR<|za8 (.inl I) results144 I ⟨zb9 _,.inl ⟨I,hp,I⟩⟩
 ·refine kP<|tN<|sQ<|dW [14] [(0,2),(1,2),(2,2),(3,1),(4,2),(5,1),(6,2),(7,1),(8,2),(9,1),(10,2),(11,1),(12,0),(13,2),(14,0)] ze4 kR<|yM I<|pU I (nC I)<|pU I (bj ly I rm I)<|gB I (qL (v:=.map<|some c) ru I<|cO (i+1) m I)<|pU I (bj aO I zT3 I)<|gB I (qL iT3 I<|cO 0 I I)<|pU I (bj aO I zT3 I)<|gB I (qL iT3 I<|cO 0 I I)<|pU I (bj aO I zT3 I)<|gB I (qL iT3 I<|cO 0 I I)<|pU I (bj aO I aI I)<|gB I (qL (v:=.slice sp e.sides.length p) bg I<|cO 0 I I)<|mf I (bt call130 I<|CM E g _ _ e.sides f l) dC (.inr iR) ?_;rintro v21 _ _ ⟨rfl,rfl⟩;refine Jb fun g2 b k=>?_;obtain ⟨q,d2,rfl⟩:=zc3 k;refine pU I (za3 I<|buildF61 _ _ _ I)<|H8 I (tn (j+1) mty56 I I I n) (.inl dC) ?_;rintro _ _ _ ⟨rfl,rfl⟩;refine du<|tN<|rZ<|aT I<|rE<|dR (s':=s.set j<|mp c<|gS (rs.map au) e.cell<|rcv ⟨e.cell,e.dim,⟨q,e.sides.length,d2⟩⟩) (.cons _<|.refl _)<|za8 (.inl I) results144 I ⟨b,.inr ⟨I,hp,D6 rs ⟨e.cell,e.dim,⟨q,e.sides.length,d2⟩⟩,Av (fun _ _ h=>h.1) ⟨I,I,k⟩ (a.mono fun _ _=>an.mono b),?_⟩⟩;rw[← lc]
theorem yg (bx a ms:Nat)(u v:Value)(bk:Bool)(e:Ed)(A B:List Cl)(rs:List Rc)(q:ai g u A)(w:aM A)(d:ay (an g) B rs)(i j:Nat)(k:s[i]?=some (edP bx u a ms bk))(t:s[j]?=some (mp a<|rs.map au))(l:j≠i)(x:EdR g v e) :
  Ctr Tryz.prog E 145 #[pp bx 0,v] g s fun r g' s'=>Le g g'∧((r=vi 30∧(ah B e.cell).isSome=false∧s=s')∨(r=vi 31∧(ah B e.cell).isSome=true∧0<(aG A e.cell).length∧s=s')∨(r=vi 0∧(ah B e.cell).isSome=true∧aG A e.cell=[]∧s'=(s.set j<|mp a<|(Ei rs e.cell).map au).set i (edP bx u a ms true))):=by
 obtain ⟨sv,pv,rfl,y,z⟩:=x;obtain ⟨p,c,rfl⟩:=q.form;refine zb2 (args:=[pp bx 0,.agg #[vi e.kind,vi e.cell,vi e.dim,vi e.new,vi e.other,sv,pv]]) func145 I ntmps145 (bE I)<|rZ (bW (bO I) fun D=>?_);refine aT I<|sQ<|bK<|sW I<|lU (bj aO I zT3 I)<|lK (qL iT3 I<|cO 0 I I)<|lW (bt call193 I<|sw E g _ bx a ms _ bk e.cell _ (fun _ _ h=>h.1) B rs d (i+1) (j+1) k t) ?_;rintro _ _ _ ⟨rfl,rfl,rfl⟩;refine lU (oF I)<|aT I<|iQ I (fun hp=>?_) (fun hp=>?_)
 ·exact rZ<|aT I<|rE<|bR<|tR<|dR (s':=s) uR<|za8 (.inl I) results145 I ⟨zb9 _,.inl ⟨I,by simpa using hp,I⟩⟩
 ·have f:(ah B e.cell).isSome=true:=by simpa using hp
  refine sQ<|dW [] [(0,2),(1,2),(2,2),(3,1),(4,2),(5,1),(6,0),(7,2),(8,2),(9,2)] ze4 kR<|yM I<|pU I (nC I)<|pU I (bj ly I ae I)<|gB I (SQ.loadOne aj ae I<|cO (v:=.slice p A.length c) (i+1) k I)<|pU I (bj aO I zT3 I)<|gB I (qL iT3 I<|cO 0 I I)<|mf I (bt call194 I<|BP E g _ _ A e.cell q w) dC (.inr iR) ?_;rintro v18 g1 _ ⟨rfl,b,C⟩;obtain ⟨F,d2,rfl⟩:=za4 C;refine pU I (eN aA I)<|pU I (gR I I)<|pU I (aS I)<|du<|tN<|iP I (fun m=>?_) (fun m=>?_)
  ·exact rZ<|aT I<|rE<|bR<|tR<|dR (s':=s) uR<|za8 (.inl I) results145 I ⟨b,.inr<|.inl ⟨I,f,oM,I⟩⟩
  ·have n:(s.set j<|mp a<|vg (rs.map au) e.cell)[i]?=some (edP bx (.slice p A.length c) a ms bk):=by rw[List.getElem?_set_ne l];exact k
   refine kP<|bN<|tN<|sQ<|dW [6] [(0,2),(1,2),(2,2),(3,1),(4,2),(5,1),(6,0)] ze4 kR<|yM I<|pU I (nC I)<|pU I (bj ly I rm I)<|gB I (qL (v:=.map<|some a) ru I<|cO (i+1) k I)<|pU I (bj aO I zT3 I)<|gB I (qL iT3 I<|cO 0 I I)<|H8 I (SO.delete (j+1) mty56 I I t) (.inl dC) ?_;rintro _ _ _ ⟨rfl,rfl⟩;refine du<|tN<|sW I<|lU (nC I)<|lU (bj ly I zT4 I)<|oZ (oi (i+1) zT4 I I n I (bE I) I)<|tZ<|rZ<|aT I<|rE<|dR (s':=(s.set j<|mp a<|vg (rs.map au) e.cell).set i<|edP bx (.slice p A.length c) a ms true) (.cons _<|.refl _)<|za8 (.inl I) results145 I ⟨b,.inr<|.inr ⟨I,f,zf5 oM,by rw[← Cw]⟩⟩
theorem AU (bx A ms:Nat)(u:Value)(bk:Bool)(B:List Cl)(rs:List Rc)(b:ay (an g) B rs)(hn:(B.map Cl.id).Nodup)(T:aM B)(hm:Mp g A<|rs.map au)(i:Nat)(W:s[i]?=some (edP bx u A ms bk)) :
  Ctr Tryz.prog E 88 #[pp bx 0] g s fun r g' s'=>s=s'∧Le g g'∧∃ U,r = .agg #[U]∧gr (mns g' g) U (aa B):=by
 obtain ⟨es,clk,m,f⟩:=hm;have X:=b.length;have Y:=T.1;refine zb2 (args:=[pp bx 0]) func88 I ntmps88 (bE I)<|rZ (bW (aL zl9) fun J=>?_);refine tZ (rZ<|bW (aL zl9) fun K=>?_);refine tZ<|sQ<|sW I<|lU (nC I)<|lU (bj ly I rm I)<|lK (qL (v:=.map<|some A) ru I<|cO (i+2) W I)<|lW (I4 underlying56 I m) ?_;rintro _ _ _ ⟨it,rfl,rfl,rfl⟩;refine tZ<|bK<|zb6 61 3<|oP (ι:=List MapEntry×List Rc×List Cl×Value) (fun _=>[(2,pp J 0),(3,pp K 0),(10,pp it 0)]) (fun _=>g)
  (fun i=>rowA encCell 61 i.2.2.2 i.2.1::iter it A es clk i.1::pt K (bY #[i.2.2.2] 29)::pt J (bY #[.slice none 0 0] 29)::s)
  (fun i=>mC (rs.map au) es i.1 (i.2.1.map au)∧ay (an g) i.2.2.1 i.2.1∧(∀ c∈i.2.2.1,c∈B)) (fun i=>rs.length - i.2.1.length)
  ([],[],[],.slice none 0 0) sB rfl rfl ⟨mC.nil _ _,trivial,by simp⟩ ?_
 rintro ⟨vis,acc,C,V⟩ ⟨o,a,j⟩;dsimp only at o a j ⊢;have D:=o.len f;simp only[ze7] at D;have Z:=a.length;refine rZ<|lW (I3 1 I I m f o) ?_;rintro _ _ _ ⟨rfl,q⟩
 rcases q with ⟨rfl,rfl,t⟩ | ⟨e,pr,he,L,M,N,k,rfl,rfl⟩
 ·have y:C.Perm B:=wA (by rw[zi6,kC a];rfl) j hn b t;have O:aa C=aa B:=xg y<|(y.map Cl.id).symm.nodup hn;have P:aM C:=⟨by have:=y.length_eq;omega,fun c hc=>T.2 c<|j c hc⟩;refine yX I (tZ<|sQ<|za1 I<|xI<|tX<|tX<|bX<|tN<|sQ<|fS fun g2 d F=>?_);obtain ⟨q2,d2,rfl⟩:=zc3 F;refine rG<|lK (qV 1 aj ae I I I)<|lW (bt call24 I<|pO E g2 _ _ C ⟨acc,F,a.mono fun _ _=>an.mono d⟩ P) ?_;rintro _ g3 _ ⟨rfl,G,u3,rfl,z⟩;rw[O] at z;have Q:=z.cells<|fN _ _;obtain ⟨q3,d3,rfl⟩:=Q.form;refine oZ (sK 2 ae I I I I I sB) ?_;refine tZ<|rE ?_;exact kn 2 s (.inl I) results88 I aj ae I I uR ⟨I,d.trans G,_,I,z.mono<|kx d⟩
 ·obtain ⟨x,hx,rfl⟩:=zf3.1 L;obtain ⟨cx,R,S⟩:=Aw b hx;refine yX I<|tZ<|sQ<|za2 I<|kP<|tN<|bK<|rZ<|lK (IL 1 I I m f he M N)<|yX I (bW (aL zl6) fun b5=>?_);refine oZ (sK 0 ar I I I I I sB)<|tZ ?_;refine SC.to (g':=g) (s':=pt b5 (bY #[vi x.id,vi x.dim,.slice x.sv.p x.sv.n x.sv.c] 61)::rowA encCell 61 V acc::iter it A es clk (vis++[e])::pt K (bY #[V] 29)::pt J (bY #[.slice none 0 0] 29)::s) (fun w hw=>hw) ?_;refine rG<|lU (bj dw I cg I)<|lK (qL ei I<|cO 3 I I)<|lK (qV 0 dT ar I I I)<|lW (bS sty27 I I I (ab sB) dC) ?_;rintro _ _ _ ⟨a0,rfl,rfl,rfl⟩;refine lW (aP (e:=encCell) 1 x sty27 I I I I I oM oM) ?_;rintro ov' _ _ ⟨rfl,rfl⟩;refine zd4 fun ⟨w0,H⟩=>?_;obtain ⟨q',d',rfl⟩:=ag (e:=encCell) (l:=acc++[x]) (i:=1) H rfl;clear H w0;refine lU (bj dw I cg I)<|oZ (sK 3 cg I I I I I sB) ?_;refine cp<|bN<|dR (.cons _<|.refl _) ?_;exact ct (vis++[e],acc++[x],C++[cx],_) sB I I ⟨by dsimp only;rw[zg6];exact k,a.append ⟨S,trivial⟩,fun c hc=>by
   rcases zf4.1 hc with h | h
   ·exact j c h
   ·simp at h;rw[h];exact R⟩ (by
   have:=k.len f;simp only[ze7,ze6,ze8] at this ⊢;omega)
abbrev Tm:=Int×Int
def HE (n:Int):Bool:=decide (n<0)&&decide (zw n.natAbs≠[])
def fF:Enc Tm 3:=⟨fun p=>[vi p.1,vb<|HE p.2,txt<|zw p.2.natAbs],fun _=>rfl,fun _ u hu=>by simp at hu;rcases hu with rfl | rfl | rfl <;> rfl,by decide⟩
structure Im where
 cell:Int
 sv:Sv
def lQ:Enc Im 2:=⟨fun r=>[vi r.cell,.slice r.sv.p r.sv.n r.sv.c],fun _=>rfl,fun _ u hu=>by simp at hu;rcases hu with rfl | rfl <;> rfl,by decide⟩
def ImR (g:PH)(c:Int×List Tm)(r:Im):Prop:=r.cell=c.1∧SlA fF g (.slice r.sv.p r.sv.n r.sv.c) c.2
theorem ImR.mono {g:PH}(hl:Le g g'){c:Int×List Tm}{r:Im}(h:ImR g c r):ImR g' c r:=⟨h.1,za5 h.2 hl⟩
def Ims (g:PH)(v:Value)(l:List<|Int×List Tm):Prop:=∃ rs,SlA lQ g v rs∧ay (ImR g) l rs
theorem Ims.mono {g:PH}{l:List<|Int×List Tm}(h:Ims g v l)(hl:Le g g'):Ims g' v l:=by
 obtain ⟨rs,a,b⟩:=h;exact⟨rs,za5 a hl,b.mono fun _ _=>ImR.mono hl⟩
theorem Tryz.build189 (x:Int)(b:Bool)(l:List UInt8)(w:World):(Instr.build 189 #[(0,vi x),(1,.agg #[vb b,txt l])]).run Tryz.prog w = .ok (.agg #[vi x,vb b,txt l]) w:=by
 have a:(vi x).cells = #[vi x]:=rfl;have c:(Value.agg #[vb b,txt l]).cells = #[vb b,txt l]:=rfl;simp[Instr.build,Instr.fill,a,c];rfl
theorem Tryz.build195 (x:Int)(p:Option Addr)(n c:Nat)(w:World):(Instr.build 195 #[(0,vi x),(1,.slice p n c)]).run Tryz.prog w = .ok (.agg #[vi x,.slice p n c]) w:=by
 have a:(vi x).cells = #[vi x]:=rfl;have b:(Value.slice p n c).cells = #[.slice p n c]:=rfl;simp[Instr.build,Instr.fill,a,b];rfl
theorem Tryz.buildB74 (b:Bool)(w:World):(Instr.build 74 #[(1,vb b)]).run Tryz.prog w = .ok (.agg #[.slice none 0 0,vb b]) w:=by
 have a:(vb b).cells = #[vb b]:=rfl;simp[Instr.build,Instr.fill,a];rfl
theorem Tryz.mty181:MTy Tryz.prog 181 3 184<|.slice none 0 0:=⟨underlying181,underlying3,zeroValue184⟩
theorem Tryz.sty184:STy Tryz.prog 184 189 3 32<|.agg #[vi 0,vb false,txt []]:=⟨underlying184,⟨t189,by kernel_rfl,by kernel_rfl,by kernel_rfl,by kernel_rfl⟩,rfl,by decide⟩
theorem Tryz.sty70:STy Tryz.prog 70 195 2 32<|.agg #[vi 0,.slice none 0 0]:=⟨underlying70,⟨t195,by kernel_rfl,by kernel_rfl,by kernel_rfl,by kernel_rfl⟩,rfl,by decide⟩
theorem CY (c n:Int)(hn:n=0∨n=1∨n = -1) :
  Ctr Tryz.prog E 150 #[vi c,vi n] g s fun r g' s'=>r = .agg (fF.enc (c,n)).toArray∧s=s'∧Le g g':=by
 refine zb2 (args:=[vi c,vi n]) func150 I ntmps150 (bE I)<|rZ (bW (aL zeroValue189) fun b=>?_);refine tZ<|sW I<|lM I<|lW (bt call199 I<|Bq E g _ n hn) ?_;rintro _ g1 _ ⟨rfl,rfl,a⟩;exact lU (za3 I<|build189 _ _ _)<|oZ (sK 0 sizeOf189 I I I I I sB)<|tZ<|rE<|kn 0 s (.inl I) results150 I isAgg189 sizeOf189 I I uR ⟨I,I,a⟩
def gW (c:Cl):Int×List Tm:=(c.id,[(c.id,1)])
set_option maxHeartbeats 2000000
theorem Ctr.freezeO {P:Program}{E:World}{n:FuncId}{args:Array Value}{g:PH}{L s:Own}{R:Value→PH→Own→Prop}{A:List Cl}{rs:List Rc}(a:ay zq A rs)
  (h:∀ g1,Le g g1→ay (an g1) A rs→Ctr P E n args g1 (L++s) R):Ctr P E n args g (L++(qS A rs++s)) R:=fun w b=>by
 have c:(L++(qS A rs++s)).Perm<|qS A rs++(L++s):=by
  rw[← zg9,← zg9];exact List.perm_append_comm.append_right s
 obtain ⟨g1,d,e,f⟩:=Go.Proofs.YtpmoadbbfobbcaaGreatDoor.freezeO a<|b.perm c;exact h g1 d f w e
def tt (fv:Value)(e:Ed)(A:List Cl)(code:Int)(B:List Cl)(bk:Bool):Prop :=
 ∀ (E:World) (g:PH) (s:Own) (bx mb ms:Nat) (u v:Value) (rs:List Rc),ai g u A→ay zq A rs→EdR g v e →
  cQ Tryz.prog E fv [pp bx 0,v] g (edP bx u mb ms false::mp mb (rs.map au)::mp ms []::(qS A rs++s)) (fun r g' s'=>Le g g'∧r=vi code∧(if code=0 then ∃ rs',ay (an g') B rs'∧s'=edP bx u mb ms bk::mp mb (rs'.map au)::mp ms []::s else ∃ h,s'=h++s))
def fX (A:List Cl)(e:Ed):Int:=if (ah A e.cell).isSome then 54 else 0
def ji (A:List Cl)(e:Ed):Int:=if (ah A e.cell).isSome then (if 0<(aG A e.cell).length then 31 else 0) else 30
theorem BE (A:List Cl)(e:Ed)(i:e.sides.length<1099511627776):tt (.func (.func 144) #[] #[]) e A (fX A e) (mx A ⟨e.cell,e.dim,e.sides⟩) false:=by
 intro E g s bx mb ms u v rs m j k;refine cQ.mk (args:=[_,_]) (cap:=[]) call144<|Ctr.freezeO (L:=[edP bx u mb ms false,mp mb<|rs.map au,mp ms []]) j fun g1 a b=>?_;refine (y8 E g1 _ bx mb ms u v false e A rs b 0 1 I I (k.mono a) i).mono ?_;rintro r g' s' ⟨c,h⟩;refine⟨a.trans c,?_⟩;unfold fX
 rcases h with ⟨rfl,d,rfl⟩ | ⟨rfl,d,f,l,rfl⟩
 ·rw[d];exact⟨I,[edP bx u mb ms false,mp mb<|rs.map au,mp ms []],I⟩
 ·rw[d];exact⟨I,f,l,I⟩
theorem AX (A:List Cl)(i:aM A)(e:Ed):tt (.func (.func 145) #[] #[]) e A (ji A e) (BZ A e.cell) true:=by
 intro E g s bx mb ms u v rs j k l;refine cQ.mk (args:=[_,_]) (cap:=[]) call145<|Ctr.freezeO (L:=[edP bx u mb ms false,mp mb<|rs.map au,mp ms []]) k fun g1 a b=>?_;refine (yg E g1 _ bx mb ms u v false e A A rs (j.mono a) i b 0 1 I I dC<|l.mono a).mono ?_;rintro r g' s' ⟨c,h⟩;refine⟨a.trans c,?_⟩;unfold ji
 rcases h with ⟨rfl,d,rfl⟩ | ⟨rfl,d,f,rfl⟩ | ⟨rfl,d,f,rfl⟩
 ·rw[d];exact⟨I,[edP bx u mb ms false,mp mb<|rs.map au,mp ms []],I⟩
 ·rw[d,zg2 rfl,zg2 f];exact⟨I,[edP bx u mb ms false,mp mb<|rs.map au,mp ms []],I⟩
 ·rw[d,f];exact⟨I,Ei rs e.cell,(Ay (fun _ _ h=>h.1) e.cell b).mono fun _ _=>an.mono c,I⟩
theorem vK {α:Type}(L r:List α)(k:Nat):(L++r)[L.length+k]?=r[k]?:=by
 rw[zh4 oM,Nat.add_sub_cancel_left]
def aX (code:Int)(B:List Cl):Int×List Cl :=
 if code≠0 then (code,[]) else if (aq<|aa B).2≠0 then ((aq<|aa B).2,[]) else (0,aa B)
theorem Tryz.buildZ74 (w:World):(Instr.build 74 #[]).run Tryz.prog w = .ok (.agg #[.slice none 0 0,vb false]) w:=by
 simp[Instr.build,Instr.fill];rfl
theorem ai.nil (g:PH):ai g (.slice none 0 0) []:=⟨[],zc1 g _,trivial⟩
theorem mP (v:Value)(l:List Cl)(a:ai g v l)(c:aM l)(b:Bool)(hb:decide ((aq l).2=0)=b) :
  Ctr Tryz.prog E 31 #[.agg #[v]] g s fun r g' s'=>r=vb b∧g=g'∧s=s':=by
 subst hb;exact wX E g s v l a c
open Go.ChangeShapes Go.WideShapes Go.ChangeAt Go.RowKit
set_option maxRecDepth 100000
section
variable {H:Type}{enc:TypeId×Value→H}{W:World}{base:Nat}{spare:Nat→Bool}{hd:Bool}
end
theorem eS (c n:Int)(hn:n=0∨n=1∨n = -1) :
  Ctr Tryz.prog E 181 #[vi c,vi n] g s fun r g' s'=>r = .agg (fF.enc (c,n)).toArray∧s=s'∧Le g g':=by
 refine zb2 (args:=[vi c,vi n]) func181 I ntmps181 (bE I)<|rZ (bW (aL zeroValue189) fun b=>?_);refine tZ<|sW I<|lM I<|lW (bt call208 I<|uN E g _ n hn) ?_;rintro _ g1 _ ⟨rfl,rfl,a⟩;exact lU (za3 I<|build189 _ _ _)<|oZ (sK 0 sizeOf189 I I I I I sB)<|tZ<|rE<|kn 0 s (.inl I) results181 I isAgg189 sizeOf189 I I uR ⟨I,I,a⟩
theorem dB (v:Value)(l:List Cl)(id:Int)(b:ai g v l)(c:aM l) :
  Ctr Tryz.prog E 177 #[.agg #[v],vi id] g s fun r g' s'=>r=vb (findC l id).isSome∧s=s'∧Le g g':=by
 refine zb2 (args:=[.agg #[v],vi id]) func177 I ntmps177 (bE I)<|rZ (bW (bO I) fun d=>?_);refine aT I<|rZ<|lK (qV 0 aj ae I I I)<|lM I<|lW (bt call42 I<|aK E g _ v l id b c) ?_;rintro _ g1 _ ⟨rfl,a,⟨e,f,i,j,yc⟩,rfl,hc⟩;refine lM I (yX I<|yX I<|bW (aL zl6) fun k=>?_);exact oZ (sK 0 ar I I I I I sB)<|aT I<|sW I<|aT I<|rE<|dR (s':=s) uR<|za8 (.inl I) results177 I ⟨I,I,a⟩
theorem pj {α β:Type}(f:α→β){l:List α}{k:Nat}(h:k<l.length):(l.take<|k+1).map f=(l.take k).map f++[f l[k]]:=by
 rw[tS h,zg6];rfl
theorem fZ (v:Value)(l:List Cl)(S:ai g v l)(M:aM l) :
  Ctr Tryz.prog E 178 #[.agg #[v]] g s fun r g' s'=>s=s'∧Le g g'∧∃ N,r = .agg #[N]∧Ims g' N ((am l).map gW):=by
 have U:=(bG M).1;refine zb2 (args:=[.agg #[v]]) func178 I ntmps178 (bE I)<|rZ (bW (bO I) fun V=>?_);refine bW (aL zl8) fun O=>tZ (rZ<|bW (aL zl8) fun P=>?_);refine tZ<|rZ<|lK (qV 2 aj ae I I I)<|lW (bt call41 I<|bA E g _ v l S M) ?_;rintro v7 g1 _ ⟨rfl,t,hc⟩;obtain ⟨rs,j,q⟩:=hc;obtain ⟨p,c,rfl⟩:=za4 j;refine aT I<|sQ<|rZ<|aT I<|bK ?_;generalize am l=T at *;have W:=q.length;refine zb6 195 2<|oP (ι:=Nat×PH×Value×List Im) (fun i=>[(2,pp O 0),(3,pp P 0),(4,.slice p rs.length c),(5,vi i.1)]) (fun i=>i.2.1)
  (fun i=>rowA lQ 195 i.2.2.1 i.2.2.2::pt P (bY #[i.2.2.1] 72)::pt O (bY #[.slice none 0 0] 72)::pt V (bY #[v] 29)::s)
  (fun i=>i.1≤rs.length∧Le g1 i.2.1∧ay (ImR i.2.1) ((T.take i.1).map gW) i.2.2.2) (fun i=>rs.length - i.1) (0,g1,.slice none 0 0,[])
  sB rfl rfl ⟨zf7 _,zb9 _,by simp[ay]⟩ ?_
 rintro ⟨k,g2,ov,acc⟩ ⟨X,a,b⟩;dsimp only at X a b ⊢;have C:=b.length;rw[ze7,ze5] at C;refine sQ<|sW I<|lM I<|lU (eN aB I)<|yL I<|tZ<|iP I (fun D=>?_) (fun D=>?_)
 ·have u:k<rs.length:=oM;have w:k<T.length:=oM;have m:=za6 j oM;have F:=q.get (bd w)<|bd u;have y:rs[((k:Nat):Int).toNat]?=some rs[k]:=bd u;have G:=pj gW w;generalize rs[k]=x at *;generalize T[k]=cx at *;obtain ⟨xi,xd,xp,xn,xc⟩:=x;obtain ⟨Q,R,-⟩:=F;dsimp only at Q R;subst Q R;refine kP<|tN<|sQ<|bK ?_;refine dW [16,18] [(0,2),(1,1),(2,2),(3,2),(4,2),(5,2),(6,1),(7,2),(8,2),(9,2),(10,2),(11,1),(12,0),(13,0),(14,2),(15,0),(16,0),(17,2),(18,0)] ze4 kR<|pU I (bj AC I un I)<|gB I (qL isAgg70 I<|cO 1 I I)<|yM I<|yM I<|pU I (iA aB ar I I m oM (show (k:Int)<((rs.length:Nat):Int) by omega)) ?_;refine pU I (fC ap I zT3 I m)<|gB I (aZ (e:=encCell) (o:=0) iT3 I (za7<|za5 j a) y I)<|yM I<|yM I<|pU I (iA aB ar I I m oM (show (k:Int)<((rs.length:Nat):Int) by omega)) ?_;refine pU I (fC ap I zT3 I m)<|gB I (aZ (e:=encCell) (o:=0) iT3 I (za7<|za5 j a) y I)<|mf I (bt call181 I<|eS E g2 _ cx.id 1<|.inr<|.inl I) dC (.inr iR) ?_;rintro _ g3 _ ⟨rfl,rfl,d⟩;refine mf I (bS sty184 I I I (ab ⟨I,trivial⟩) dC) dC (.inr iR) ?_;rintro _ _ _ ⟨n,rfl,rfl,rfl⟩;refine I5 fun g4 z H=>?_;have J:SlA fF g4 (.slice (some ⟨n,0,none⟩) 1 1) [(cx.id,1)]:=kb H rfl rfl;have f:=d.trans z;refine pU I (za3 I<|build195 _ _ _ _)<|mf I (bS sty70 I I I (ab sB) dC) dC (.inr iR) ?_;rintro _ _ _ ⟨Y,rfl,rfl,rfl⟩;refine mf I (aP (e:=lQ) 0 ⟨cx.id,⟨some ⟨n,0,none⟩,1,1⟩⟩ sty70 I I I I I oM oM) dC (.inl dC) ?_;rintro ov' _ _ ⟨rfl,rfl⟩;refine zd3 fun ⟨Z,A⟩=>?_;obtain ⟨q',d',rfl⟩:=ag (e:=lQ) (l:=acc++[⟨cx.id,⟨some ⟨n,0,none⟩,1,1⟩⟩]) (i:=0) A rfl;clear A Z;refine pU I (bj AC I un I)<|H8 I (sK 1 un I I I I I sB) (.inl dC) ?_;rintro _ _ _ ⟨rfl,rfl⟩;refine du<|bN<|tN<|rG<|lM I<|yD I<|lA I<|cp ?_;exact ct (k+1,g4,_,acc++[⟨cx.id,⟨some ⟨n,0,none⟩,1,1⟩⟩]) sB I I ⟨by dsimp only;omega,a.trans f,by
   dsimp only;rw[G];exact (b.mono fun _ _=>ImR.mono f).append ⟨⟨I,J⟩,trivial⟩⟩ (by dsimp only;omega)
 ·have L:T.take k=T:=tL oM;rw[L] at b;refine xI (tX<|tX<|bX<|tN<|sQ<|fS fun g3 d B=>?_);obtain ⟨q3,d3,rfl⟩:=zc3 B;exact rG<|lK (qV 0 isAgg72 qR I I I)<|oZ (sK 1 qR I I I I I sB)<|tZ<|rE<|kn 1 s (.inl I) results178 I isAgg72 qR I I uR ⟨I,t.trans<|a.trans d,_,I,acc,B,b.mono fun _ _=>ImR.mono d⟩
set_option maxHeartbeats 4000000
theorem Tryz.buildS74 (p:Option Addr)(n c:Nat)(w:World):(Instr.build 74 #[(0,.agg #[.slice p n c])]).run Tryz.prog w = .ok (.agg #[.slice p n c,vb false]) w:=by
 have a:(Value.agg #[Value.slice p n c]).cells = #[.slice p n c]:=rfl;simp[Instr.build,Instr.fill,a];rfl
def FV (code:Int)(D:List Cl)(ims:List<|Int×List Tm)(bk:Bool)(r:Value)(g':PH):Prop:=∃ u p n c,r = .tuple #[.agg #[u],.agg #[.slice p n c,vb bk],vi code]∧ai g' u D∧(code=0→Ims g' (.slice p n c) ims)
theorem Ims.form {g:PH}{l:List<|Int×List Tm}(h:Ims g v l):∃ p n c,v = .slice p n c:=by
 obtain ⟨rs,a,b⟩:=h;obtain ⟨p,c,e⟩:=za4 a;exact⟨p,_,c,e⟩
theorem rM (v ev:Value)(l:List Cl)(e:Ed)(Z:ai g v l)(T:aM l)(he:EdR g ev e)(a1:e.sides.length<1099511627776)(code:Int)(k:code=if (findC l e.cell).isSome then 54 else 0) :
  Ctr Tryz.prog E 114 #[.agg #[v],ev] g s fun r g' s'=>s=s'∧Le g g'∧FV code (if code=0 then l++[⟨e.cell,e.dim,e.sides⟩] else l) ((am l).map gW) false r g':=by
 obtain ⟨sv,pv,rfl,M,U⟩:=he;obtain ⟨sp,V,rfl⟩:=za4 M;obtain ⟨pq,pc,rfl⟩:=za4 U;have J:=Z;obtain ⟨rs,N,D⟩:=Z;have a0:=D.length;have a2:=T.1;obtain ⟨p,c,rfl⟩:=za4 N;refine zb2 (args:=[.agg #[.slice p rs.length c],.agg #[vi e.kind,vi e.cell,vi e.dim,vi e.new,vi e.other,.slice sp e.sides.length V,.slice pq e.pairs.length pc]]) func114 I ntmps114 (bE I)<|rZ (bW (bO I) fun b2=>?_);refine bW (bO I) fun b3=>bW (aL zl9) fun b4=>bW (aL zl4) fun b5=>aT I<|sQ<|rZ<|lK (qV 3 aj ae I I I)<|lU (bj aO I zT3 I)<|lK (qL iT3 I<|cO 2 I I)<|lW (bt call177 I<|dB E g _ _ l e.cell J T) ?_;rintro _ g1 _ ⟨rfl,rfl,a⟩;refine tZ<|iQ I (fun hp=>?_) (fun hp=>?_)
 ·have hc:code=54:=by rw[k,hp];rfl
  subst hc;exact rZ<|lK (qV 3 aj ae I I I)<|lU (za3 I buildZ74)<|oZ (sK 1 ae I I I I I sB)<|oZ (sK 0 bZ I I I I I sB)<|aT I<|rE<|tR<|ST.retCCT 1 0 s (.inl I) results114 I I I aj ae gX bZ I I I I uR ⟨I,a,_,_,_,_,I,J.mono a,fun h=>by cases h⟩
 ·have hc:code=0:=by rw[k,hp];rfl
  subst hc;have F:=za5 N a;have G:=za5 M a;have m:=D.mono fun _ _=>an.mono a;have W:=J.mono a;generalize g1=gg at *;refine kP<|tN<|lu (ι:=Nat×Option Addr×Nat×Nat×PH) (fun i=>[(2,pp b2 0),(3,pp b3 0),(4,pp b4 0),(5,pp b5 0),(7,pp i.1 0)]) (fun i=>i.2.2.2.2) (fun i=>pt i.1 (bY #[.slice i.2.1 i.2.2.1 i.2.2.2.1] 29)::pt b5 (bY #[.slice none 0 0,vb false] 74)::pt b4 (bY #[.slice none 0 0] 29)::pt b3 (bY #[vi e.kind,vi e.cell,vi e.dim,vi e.new,vi e.other,.slice sp e.sides.length V,.slice pq e.pairs.length pc] 48)::pt b2 (bY #[.slice p rs.length c] 29)::s)
   (fun i=>Le gg i.2.2.2.2∧ai i.2.2.2.2 (.slice i.2.1 i.2.2.1 i.2.2.2.1) (l++[⟨e.cell,e.dim,e.sides⟩])) ?_ ?_
  ·refine C1 [] ze4 kR ?_;refine iO (i:=1) I kR (bj dw I cg I) dC<|Ie (i:=2) I kR (qL (v:=.slice p rs.length c) ei I<|cO 3 I I) dC<|iO (i:=4) I kR (bj aO I zT3 I) dC<|Ie (i:=5) I kR (qL iT3 I<|cO 2 I I) dC<|iO (i:=6) I kR (bj aO I zT3 I) dC<|Ie (i:=7) I kR (qL iT3 I<|cO 2 I I) dC<|iO (i:=9) I kR (bj aO I aI I) dC<|Ie (i:=10) I kR (qL (v:=.slice sp e.sides.length V) bg I<|cO 2 I I) dC ?_
   repeat' (first
    | (refine SB.o (i:=0) I (bS sty27 I I I (ab trivial) dC) dC (.inr iR) ?_;rintro _ _ _ ⟨X,rfl,rfl,rfl⟩;refine Jm (zj2 _ _) ?_)
    | (refine SB.o (i:=0) I (bS sty27 I I I (ab trivial) dC) dC (.inr iR) ?_;rintro _ _ _ ⟨X,rfl,rfl,rfl⟩;refine Jm (zj2 _ _) ?_)
    | (refine SB.o (i:=3) I (SO.appNewA (e:=encCell) sty27 I I F oM oM) dC (.inr iR) ?_;rintro v17 _ _ ⟨rfl,rfl⟩)
    | (refine SB.o (i:=3) I (SO.appNewA (e:=encCell) sty27 I I F oM oM) dC (.inr iR) ?_;rintro v17 _ _ ⟨rfl,rfl⟩)
    | (refine SB.o (i:=8) I (bS sty45 I I I (ab trivial) dC) dC (.inr iR) ?_;rintro _ _ _ ⟨O,rfl,rfl,rfl⟩;refine Jm (zj2 _ _) ?_)
    | (refine SB.o (i:=8) I (bS sty45 I I I (ab trivial) dC) dC (.inr iR) ?_;rintro _ _ _ ⟨O,rfl,rfl,rfl⟩;refine Jm (zj2 _ _) ?_)
    | (refine SB.o (i:=8) I (bS sty45 I I I (ab trivial) dC) dC (.inr iR) ?_;rintro _ _ _ ⟨O,rfl,rfl,rfl⟩;refine Jm (zj2 _ _) ?_)
    | (refine SB.o (i:=11) I (SO.appNewA (e:=encSide) sty45 I I G oM oM) dC (.inr iR) ?_;rintro v25 _ _ ⟨rfl,rfl⟩;refine Ic fun g2 t x=>?_;obtain ⟨B,d2,rfl⟩:=za4 (e:=encSide) x;refine iO (i:=12) I kD (za3 I<|buildF61 _ _ _ I) dC ?_)
    | (refine SB.o (i:=11) I (SO.appNewA (e:=encSide) sty45 I I G oM oM) dC (.inr iR) ?_;rintro v25 _ _ ⟨rfl,rfl⟩;refine Ic fun g2 t x=>?_;obtain ⟨B,d2,rfl⟩:=za4 (e:=encSide) x;refine iO (i:=12) I kD (za3 I<|buildF61 _ _ _ I) dC ?_)
    | (refine SB.o (i:=13) I (bS sty27 I I I (ab ⟨I,trivial⟩) dC) dC (.inr iR) ?_;rintro _ _ _ ⟨Y,rfl,rfl,rfl⟩;refine I9 (fun w y=>Ig (e:=encCell) (l:=[⟨e.cell,e.dim,⟨B,e.sides.length,d2⟩⟩]) (n:=0) y I I dC) ?_;refine Ic fun g3 d L=>?_;have j:=t.trans d)
    | (refine SB.o (i:=13) I (bS sty27 I I I (ab ⟨I,trivial⟩) dC) dC (.inr iR) ?_;rintro _ _ _ ⟨Y,rfl,rfl,rfl⟩;refine I9 (fun w y=>Ig (e:=encCell) (l:=[⟨e.cell,e.dim,⟨B,e.sides.length,d2⟩⟩]) (n:=0) y I I dC) ?_;refine Ic fun g3 d L=>?_;have j:=t.trans d)
    | (refine SB.o (i:=14) I (aQ (e:=encCell) (l:=rs) 0 sty27 I I I L (by simp;omega)<|by simp;omega) dC (.inr iR) ?_;rintro v28 _ _ ⟨rfl,rfl⟩;refine Ic fun g4 f z=>?_;have b:=j.trans f;obtain ⟨S,d4,rfl⟩:=za4 (e:=encCell) z;have P:ai g4 (.slice S (rs++[(⟨e.cell,e.dim,⟨B,e.sides.length,d2⟩⟩:Rc)]).length d4)<|l++[⟨e.cell,e.dim,e.sides⟩]:=⟨rs++[(⟨e.cell,e.dim,⟨B,e.sides.length,d2⟩⟩:Rc)],z,ay.append (m.mono fun _ _=>an.mono b) (show ay (an g4) [⟨e.cell,e.dim,e.sides⟩] [⟨e.cell,e.dim,⟨B,e.sides.length,d2⟩⟩] from ⟨⟨rfl,rfl,za5 x<|d.trans f⟩,trivial⟩)⟩;refine iO (i:=15) I kD (za3 I<|build29 _ I) dC ?_)
    | (refine SB.o (i:=14) I (aQ (e:=encCell) (l:=rs) 0 sty27 I I I L (by simp;omega)<|by simp;omega) dC (.inr iR) ?_;rintro v28 _ _ ⟨rfl,rfl⟩;refine Ic fun g4 f z=>?_;have b:=j.trans f;obtain ⟨S,d4,rfl⟩:=za4 (e:=encCell) z;have P:ai g4 (.slice S (rs++[(⟨e.cell,e.dim,⟨B,e.sides.length,d2⟩⟩:Rc)]).length d4)<|l++[⟨e.cell,e.dim,e.sides⟩]:=⟨rs++[(⟨e.cell,e.dim,⟨B,e.sides.length,d2⟩⟩:Rc)],z,ay.append (m.mono fun _ _=>an.mono b) (show ay (an g4) [⟨e.cell,e.dim,e.sides⟩] [⟨e.cell,e.dim,⟨B,e.sides.length,d2⟩⟩] from ⟨⟨rfl,rfl,za5 x<|d.trans f⟩,trivial⟩)⟩;refine iO (i:=15) I kD (za3 I<|build29 _ I) dC ?_)
    | (refine SB.o (i:=16) I (aL zl9) dC (.inr iR) ?_;rintro _ _ _ ⟨C,rfl,rfl,rfl⟩;first | refine I9 (fun w y=>IW y<|zk2 (rowA encCell 61 v17 rs) _ _) ?_ | skip)
    | (refine SB.o (i:=16) I (aL zl9) dC (.inr iR) ?_;rintro _ _ _ ⟨C,rfl,rfl,rfl⟩;first | refine I9 (fun w y=>IW y<|zk2 (rowA encCell 61 v17 rs) _ _) ?_ | skip)
    | (refine SB.o (i:=16) I (aL zl9) dC (.inr iR) ?_;rintro _ _ _ ⟨C,rfl,rfl,rfl⟩;first | refine I9 (fun w y=>IW y<|zk2 (rowA encCell 61 v17 rs) _ _) ?_ | skip)
    | (refine SB.o (i:=16) I (aL zl9) dC (.inr iR) ?_;rintro _ _ _ ⟨C,rfl,rfl,rfl⟩;first | refine I9 (fun w y=>IW y<|zk2 (rowA encCell 61 v17 rs) _ _) ?_ | skip)
    | (refine SB.on (i:=17) I (sK 0 ae I I I I I sB) (.inr iR) ?_;rintro _ _ _ ⟨rfl,rfl⟩)
    | refine IG 0 8 16 kD ?_ ?_ ?_
    | refine IG 3 8 16 kD ?_ ?_ ?_
    | refine zd8 8 16 kD ?_ ?_
    | refine zd8 11 16 kD ?_ ?_
    | refine zd8 13 16 kD ?_ ?_
    | refine zd8 14 16 kD ?_ ?_
    | refine zd7 16 kD ?_
    | refine zd7 17 kD ?_
    | refine zd7 14 kD ?_
    | refine zd7 13 kD ?_
    | refine zd7 11 kD ?_
    | refine zd7 8 kD ?_
    | refine zd8 3 16 kD ?_ ?_
    | refine zd7 3 kD ?_
    | refine zd8 3 8 kD ?_ ?_
    | refine zd8 0 16 kD ?_ ?_
    | refine zd7 0 kD ?_
    | refine zd8 0 8 kD ?_ ?_
    | (refine H5 kD ?_;exact za9 (C,S,(rs++[(⟨e.cell,e.dim,⟨B,e.sides.length,d2⟩⟩:Rc)]).length,d4,g4) sB I I ⟨b,P⟩))
  rintro ⟨b7,q7,n7,d7,g5⟩ ⟨A,Q⟩;dsimp only at A Q ⊢;refine sQ<|dW [4,5] [(0,1),(1,1),(2,0),(3,2),(4,0),(5,0),(6,2)] ze4 kR<|gB I (qV 0 aj ae I I I)<|gB I (qV 4 aj ae I I I)<|mf I (bt call178 I<|fZ E g5 _ _ l (W.mono A) T) dC (.inr iR) ?_;rintro _ g6 _ ⟨rfl,H,iv,rfl,R⟩;obtain ⟨q6,n6,d6,rfl⟩:=R.form;refine pU I (za3 I<|buildS74 _ _ _)<|H8 I (sK 2 ae I I I I I sB) (.inl dC) ?_;rintro _ _ _ ⟨rfl,rfl⟩;refine H8 I (sK 1 bZ I I I I I sB) (.inl dC) ?_;rintro _ _ _ ⟨rfl,rfl⟩;exact pU I (aS I)<|du<|tN<|rE<|ST.retCCT 2 1 s (.inl I) results114 I I I aj ae gX bZ I I I I uR ⟨I,a.trans<|A.trans H,_,_,_,_,I,Q.mono H,fun _=>R⟩
end Go.Proofs.YtpmoadbbfobbcaaGreatDoor
