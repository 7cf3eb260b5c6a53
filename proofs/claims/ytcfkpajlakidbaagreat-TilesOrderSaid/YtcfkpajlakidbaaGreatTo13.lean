/-
  The law TilesOrder of the chapter on tiles.
-/
import Derived.Test.YtcfkpajlakidbaaGreatTo12
import Derived.Test.YtcfkpajlakidbaaGreatTo08
import Derived.Test.YtcfkpajlakidbaaGreatTo09
import Derived.Test.YtcfkpajlakidbaaGreatTo07
import Derived.Test.YtcfkpajlakidbaaGreatTo10
import Derived.Test.YtcfkpajlakidbaaGreatTo11
set_option linter.unusedSimpArgs false
set_option linter.unusedVariables false
namespace Go.Proofs.YtcfkpajlakidbaaGreat
open _root_.Go.Proofs.Tryz _root_.Go.Proofs.YtcfkpajlakidbaaGreat.Tryz
open Go Go.Sy Go.Pl Go.Proofs
set_option maxRecDepth 100000
set_option maxHeartbeats 1000000
def yK (y:Int):Int:=if bG y 2=0 then 4 else 5
theorem s9 (y:Int):([4,5]:List Int)[(bG y 2).toNat]?=some (yK y):=by
 have:=a8 y 2 dC dC;unfold yK
 rcases (by omega:bG y 2=0∨bG y 2=1) with e | e
 ·rw[e]; rfl
 ·rw[e]; rfl
def eH (kd:Int)(ls:List (List Int))(y:Int):List Cl:=if (ja kd ls y).length>20 then ja (yK y) [] (bG y 8) else ja kd ls y
def gX (kd:Int)(ls:List (List Int))(y:Int):List Cl:=if (eH kd ls y).length>20 then bC [[0,1,2],[1,2,3],[0,3]] else eH kd ls y
theorem Tryz.buildK24 (a b:Int)(w:World):(Instr.build 24 #[(0,vi a),(2,vi b)]).run Tryz.prog w = .ok (.agg #[vi a,.slice none 0 0,vi b]) w:=by
 have h1:∀ n,(vi n).cells = #[vi n]:=fun _=>rfl;simp[Instr.build,Instr.fill,h1];rfl
theorem uF (E:World)(g:PH)(s:Own)(v:Value)(kd y:Int)(ls:List (List Int))(hv:aK g v ls) :
  Ctr Tryz.prog E 8 #[.agg #[vi kd,v,vi y]] g s (fun r g' s'=>s=s'∧Le g g'∧∃ u,r = .agg #[u]∧aq g' u (gX kd ls y)):=by
 obtain ⟨p,n,c,rfl⟩:∃ p n c,v = .slice p n c:=by
  obtain ⟨rs0,hrs0,_⟩:=hv;obtain ⟨p,c,rfl⟩:=za2 hrs0;exact⟨_,_,_,I⟩
 have hy:=a8 y 2 dC dC;have hf1:=(kw kd ls y).1;have hf2:=(kw (yK y) [] (bG y 8)).1;refine za9 (args:=[.agg #[vi kd,.slice p n c,vi y]]) func8 I ntmps8 (bE I) ?_;refine rZ (bW (bO I) fun b1=>?_);refine bW (aL zk3) fun b2=>?_;refine tZ (rZ (lK (qV 1 isAgg24 sizeOf24 I I I) (lW (cL call27 I (qk E g _ _ kd y ls hv)) ?_)));rintro _ g1 _ ⟨rfl,hle1,u1,rfl,hu1⟩;obtain ⟨q1,d1,rfl⟩:=hu1.form;refine bW (aL zk3) fun b3=>?_;refine oZ (sK 0 aA I I I I I ⟨I,trivial⟩) (tZ ?_);refine SC.cut (ι:=PH×Option Addr×Nat) (fun i=>[(2,pp b2 0),(3,pp b3 0)]) (fun i=>i.1) (fun i=>pt b3 (.cells #[.slice i.2.1 (eH kd ls y).length i.2.2] 30 (0,0))::pt b2 (.cells #[.slice none 0 0] 30 (0,0))::pt b1 (.cells #[vi kd,.slice p n c,vi y] 24 (0,0))::s) (fun i=>Le g1 i.1∧aq i.1 (.slice i.2.1 (eH kd ls y).length i.2.2) (eH kd ls y)) ?_ ?_
 ·refine rZ (lU (fA dg I cw I) (lK (qL (v:=.slice q1 (ja kd ls y).length d1) dV I (cO 0 I I)) (lU (eN aJ I) (lU (gR I I) (tZ ?_)))));refine iP I (fun h20=>?_) (fun h20=>?_)
  ·have hs2:eH kd ls y=ja (yK y) [] (bG y 8):=by unfold eH; rw[zf4 oM]
   rw[hs2];refine SC.drawX [11] zd6 kR ?_;refine SX.u (i:=1) I kR (fA jF I zT3 I) dC (SX.q (i:=2) I kR (qL (v:=vi y) iT3 I (cO 2 I I)) dC (SX.u (i:=6) I kR (fA jF I zT3 I) dC (SX.q (i:=7) I kR (qL (v:=vi y) iT3 I (cO 2 I I)) dC ?_)))
   repeat' (first
    | (refine SB.o (i:=0) I (bS sty25 I I I (ab sB) dC) dC (.inr iR) ?_; rintro _ _ _ ⟨b10,rfl,rfl,rfl⟩; refine SX.freeze fun g2 hle2 hb10=>?_; have h10:SlA encInt g2 (.slice (some ⟨b10,0,none⟩) 2 2) [4,5]:=SlA.lit hb10 rfl rfl; refine SX.u (i:=4) I kD (iA aj zT3 I I I oM (show bG y 2<((2:Nat):Int) by omega)) dC ?_)
    | (refine SB.o (i:=0) I (bS sty25 I I I (ab sB) dC) dC (.inr iR) ?_; rintro _ _ _ ⟨b10,rfl,rfl,rfl⟩; refine SX.freeze fun g2 hle2 hb10=>?_; have h10:SlA encInt g2 (.slice (some ⟨b10,0,none⟩) 2 2) [4,5]:=SlA.lit hb10 rfl rfl)
    | (refine SB.o (i:=3) I (cL iG I (aW E _ _ y 2 dC)) dC (.inr iR) ?_; rintro _ _ _ ⟨rfl,rfl,rfl⟩; refine SX.u (i:=4) I kD (iA aj zT3 I I I oM (show bG y 2<((2:Nat):Int) by omega)) dC ?_)
    | (refine SB.o (i:=3) I (cL iG I (aW E _ _ y 2 dC)) dC (.inr iR) ?_; rintro _ _ _ ⟨rfl,rfl,rfl⟩)
    | (refine SB.o (i:=5) I (SQ.sof (eB iT3 I (za5 h10) (s9 y) I)) dC (.inr iR) ?_; rintro _ _ _ ⟨rfl,rfl,rfl⟩; refine SX.u (i:=9) I kD (za1 I (buildK24 _ _)) dC ?_)
    | (refine SB.o (i:=5) I (SQ.sof (eB iT3 I (za5 h10) (s9 y) I)) dC (.inr iR) ?_; rintro _ _ _ ⟨rfl,rfl,rfl⟩)
    | (refine SB.o (i:=8) I (cL iG I (aW E _ _ y 8 dC)) dC (.inr iR) ?_; rintro _ _ _ ⟨rfl,rfl,rfl⟩; refine SX.u (i:=9) I kD (za1 I (buildK24 _ _)) dC ?_)
    | (refine SB.o (i:=8) I (cL iG I (aW E _ _ y 8 dC)) dC (.inr iR) ?_; rintro _ _ _ ⟨rfl,rfl,rfl⟩)
    | (refine SB.o (i:=8) I (cL iG I (aW E _ _ y 8 dC)) dC (.inr iR) ?_; rintro _ _ _ ⟨rfl,rfl,rfl⟩)
    | (refine SB.o (i:=10) rfl (cL call27 rfl (qk E g2 _ _ (yK y) (bG y 8) [] ⟨[],zb8 _ _,trivial⟩)) dC (.inr (by rintro _ g3 _ ⟨rfl,hle3,u3,rfl,hu3⟩; exact⟨by exact Le.trans (by assumption) (by assumption),(by exact .refl _)⟩)) ?_; rintro _ g3 _ ⟨rfl,hle3,u3,rfl,hu3⟩; obtain ⟨q3,d3,rfl⟩:=hu3.form)
    | (refine SB.on (i:=11) I (sK 0 aA I I I I I ⟨I,trivial⟩) (.inl dC) ?_; rintro _ _ _ ⟨rfl,rfl⟩)
    | refine SX.br2 0 3 kD ?_ ?_
    | refine zd1 3 kD ?_
    | refine SX.br2 5 8 kD ?_ ?_
    | refine zd1 8 kD ?_
    | refine zd1 10 kD ?_
    | refine zd1 11 kD ?_
    | refine zd1 5 kD ?_
    | refine SX.br2 0 8 kD ?_ ?_
    | refine zd1 0 kD ?_
    | (refine SX.nil kD ?_; exact za7 (g3,q3,d3) sB I I ⟨hle2.trans hle3,hu3⟩))
  ·have hs2:eH kd ls y=ja kd ls y:=by unfold eH; rw[zf3 oM]
   rw[hs2];refine kP ?_;exact za7 (g1,q1,d1) sB I I ⟨zb7 _,hu1⟩
 rintro ⟨g3,q3,d3⟩ ⟨hle3,hu3⟩;dsimp only at hle3 hu3 ⊢;have hf2:(eH kd ls y).length<1099511627776:=by
  have h2:=(kw (yK y) [] (bG y 8)).1;unfold eH;split <;> omega
 refine sQ (rZ (lU (fA dg I cw I) (lK (qL (v:=.slice q3 (eH kd ls y).length d3) dV I (cO 0 I I)) (lU (eN aJ I) (lU (gR I I) (tZ ?_))))));refine iP I (fun h21=>?_) (fun h21=>?_)
 ·have hs:gX kd ls y=bC [[0,1,2],[1,2,3],[0,3]]:=by unfold gX; rw[zf4 oM]
  refine rG (lW (bS sty25 I I I (ab sB) dC) ?_);rintro _ _ _ ⟨b25,rfl,rfl,rfl⟩;refine zb3 fun g4 hle4 hb25=>?_;refine lW (bS sty25 I I I (ab sB) dC) ?_;rintro _ _ _ ⟨b26,rfl,rfl,rfl⟩;refine zb3 fun g5 hle5 hb26=>?_;refine lW (bS sty25 I I I (ab sB) dC) ?_;rintro _ _ _ ⟨b27,rfl,rfl,rfl⟩;refine zb3 fun g6 hle6 hb27=>?_;refine lW (bS sty22 I I I (ab sB) dC) ?_;rintro _ _ _ ⟨b28,rfl,rfl,rfl⟩;refine zb3 fun g7 hle7 hb28=>?_;have hlit:aK g7 (.slice (some ⟨b28,0,none⟩) 3 3) [[0,1,2],[1,2,3],[0,3]]:=⟨[ef (.slice (some ⟨b25,0,none⟩) 3 3),ef (.slice (some ⟨b26,0,none⟩) 3 3),ef (.slice (some ⟨b27,0,none⟩) 2 2)],SlA.lit hb28 rfl rfl,⟨SlA.lit ((hle5.trans (hle6.trans hle7)) _ _ hb25) rfl rfl,SlA.lit ((hle6.trans hle7) _ _ hb26) rfl rfl,SlA.lit (hle7 _ _ hb27) rfl rfl,trivial⟩⟩;refine lW (cL call21 I (aH E g7 _ _ _ hlit dC dC)) ?_;rintro _ g8 _ ⟨rfl,hle8,u8,rfl,hu8⟩;obtain ⟨q8,d8,rfl⟩:=hu8.form;refine oZ (sK 0 aA I I I I I ⟨I,trivial⟩) (tZ (rZ (lK (qV 0 bD aA I I I) (oZ (sK 1 aA I I I I I ⟨I,trivial⟩) (tZ (rE ?_))))));exact ST.retCD 1 s (.inl I) results8 I bD aA I I uR ⟨I,hle1.trans (hle3.trans (hle4.trans (hle5.trans (hle6.trans (hle7.trans hle8))))),_,I,by rw[hs]; exact hu8⟩
 ·have hs:gX kd ls y=eH kd ls y:=by unfold gX; rw[zf3 oM]
  refine kP (tN (rZ (lK (qV 0 bD aA I I I) (oZ (sK 1 aA I I I I I ⟨I,trivial⟩) (tZ (rE ?_))))));exact ST.retCD 1 s (.inl I) results8 I bD aA I I uR ⟨I,hle1.trans hle3,_,I,by rw[hs]; exact hu3⟩
structure Sml (l:List Cl):Prop where
 rt:Rt l
 few:l.length≤20
 ids:∀ c∈l,gD c.id
theorem BT:bC [[0,1,2],[1,2,3],[0,3]]=[⟨1,0,[]⟩,⟨2,0,[]⟩,⟨3,0,[]⟩,⟨4,0,[]⟩,⟨5,1,[⟨1,-1⟩,⟨2,1⟩]⟩,⟨6,1,[⟨1,-1⟩,⟨3,1⟩]⟩,⟨7,1,[⟨1,-1⟩,⟨4,1⟩]⟩,⟨8,1,[⟨2,-1⟩,⟨3,1⟩]⟩,⟨9,1,[⟨2,-1⟩,⟨4,1⟩]⟩,⟨10,1,[⟨3,-1⟩,⟨4,1⟩]⟩,⟨11,2,[⟨5,1⟩,⟨6,-1⟩,⟨8,1⟩]⟩,⟨12,2,[⟨8,1⟩,⟨9,-1⟩,⟨10,1⟩]⟩]:=by
 have h123:bM [1,2,3]=[1,2,3]:=by
  unfold bM;rw[iz dC];rfl
 have h03:bM [0,3]=[0,3]:=by
  unfold bM;rw[iz dC];rfl
 simp only[bC,aC,ze,h123,h03];rfl
theorem xj (kd:Int)(ls:List (List Int))(y:Int):Sml (gX kd ls y):=by
 have key:∀ k m z,(ja k m z).length≤20→Sml (ja k m z):=fun k m z h=>⟨nR k m z,h,zD k m z⟩;unfold gX;split
 ·have hr:=mL [[0,1,2],[1,2,3],[0,3]];rw[BT] at hr ⊢;have h0:=kO (zd5 Prod.snd hr);rw[show aa _=_ from by kernel_rfl] at h0;exact⟨h0,by decide,by unfold gD; decide⟩
 ·rename_i h;unfold eH at h ⊢;split
  ·rename_i h1;rw[zf4 h1] at h;exact key _ _ _ oM
  ·rename_i h1;exact key _ _ _ oM
open Go.ChangeShapes Go.WideShapes Go.ChangeAt Go.RowKit
set_option maxRecDepth 100000
section
variable {H:Type}{enc:TypeId×Value→H}{W:World}{base:Nat}{spare:Nat→Bool}{hd:Bool}
theorem zI {v:Value}{d:DataW H}{p:List MemPlace}(h:DataW.Trod enc Tryz.prog W base spare hd 25 v d p)(hv:v.cells = #[v]):∃ l:List Int,bZ (s8 W) v l:=by
 obtain ⟨fuel,hf⟩:=h;rw[hv] at hf;obtain ⟨l,r,-,hl⟩:=wH hf;exact⟨l,hl⟩
end
set_option maxHeartbeats 2000000
abbrev Rws:=List (Sv×List Int)
def fM (ts:Rws):Own:=ts.map fun t=>rowA encInt 3 (.slice t.1.p t.1.n t.1.c) t.2
theorem xr {ts:Rws}{j:Nat}{v:Sv}{l:List Int}(h:ts[j]?=some (v,l))(s:Own):(fM ts++s)[j]?=some (rowA encInt 3 (.slice v.p v.n v.c) l):=by
 have hj:=(ze8.1 h).1;rw[zg5 (by simpa [fM] using hj)];simp[fM,h]
theorem xq {ts:Rws}{j:Nat}{v v':Sv}{l l':List Int}(h:ts[j]?=some (v,l))(s:Own):(fM ts++s).set j (rowA encInt 3 (.slice v'.p v'.n v'.c) l')=fM (ts.set j (v',l'))++s:=by
 have hj:=(ze8.1 h).1;rw[List.set_append_left _ _ (by simpa [fM] using hj)];simp[fM,List.map_set]
theorem p8 {E:World}{g:PH}{w:World}(hd:Own):∀ (n:Nat) (s:Own),At E g (hd++s) w→At E g (hd++(fM (List.replicate n (⟨none,0,0⟩,[]))++s)) w
 | 0,s,h=>h
 | n+1,s,h=>by
  have h1:=(p8 hd n s h).nilRow 3 1;rw[List.replicate_succ];exact h1.perm List.perm_middle.symm
theorem freezeTs {E:World}{w:World}:∀ (ts:Rws) (g:PH) (s:Own),At E g (fM ts++s) w→∃ g',Le g g'∧At E g' s w∧aw (br g') (ts.map Prod.snd) (ts.map Prod.fst)
 | [],g,s,h=>⟨g,zb7 g,h,trivial⟩
 | (v,l)::r,g,s,h=>by
  have h':At E g (row 3 1 (.slice v.p v.n v.c) l.length (l.flatMap encInt.enc)::(fM r++s)) w:=h;obtain ⟨g1,hl1,h1,h2⟩:=h'.freezeRow;obtain ⟨g2,hl2,h3,h4⟩:=freezeTs r g1 s h1;exact⟨g2,hl1.trans hl2,h3,Sl.mono h2 hl2,h4⟩
theorem SC.freezeTs {P:Program}{N:Nat}{E:World}{c:Code}{Q:Exit→Act→World→Prop}{f:Fr}{g:PH}{s:Own}{ts:Rws}(h:∀ g',Le g g'→aw (br g') (ts.map Prod.snd) (ts.map Prod.fst)→SC P N E c Q f g' s):SC P N E c Q f g (fM ts++s):=fun a w ha hw=>by
 obtain ⟨g',h1,h2,h3⟩:=Go.Proofs.YtcfkpajlakidbaaGreat.freezeTs ts g s hw;exact h g' h1 h3 a w ha h2
theorem AN {ts:Rws}{j:Nat}{v:Sv}{l:List Int}(h:ts[j]?=some (v,l)){hd:Own}(s:Own){x:Ent}(hh:hd.length=2):((hd++(fM ts++s)).set (j+2) x)[j+2]?=some x:=by
 have hj:=(ze8.1 h).1;rw[List.getElem?_set_self];simp only[zd8,fM,zd9];omega
def TIn (ts:Rws)(x:Int):Prop:=∃ t∈ts,x∈t.2
theorem TIn.set {ts:Rws}{j:Nat}{v v':Sv}{l:List Int}(h:ts[j]?=some (v,l))(x:Int){y:Int}(hy:TIn ts y):TIn (ts.set j (v',l++[x])) y:=by
 obtain ⟨t,ht,h2⟩:=hy;have hj:=(ze8.1 h).1;obtain ⟨i,hi,e⟩:=List.mem_iff_getElem.1 ht;by_cases e2:j=i
 ·subst e2;refine⟨(v',l++[x]),List.mem_set hj _,?_⟩;obtain ⟨_,e3⟩:=ze8.1 h;rw[← e,e3] at h2;simp only[ze6];exact .inl h2
 ·refine⟨t,?_,h2⟩;have:(ts.set j (v',l++[x]))[i]?=some t:=by rw[List.getElem?_set_ne e2,gE hi,e]
  exact zf5 this
theorem TIn.new {ts:Rws}{j:Nat}{v v':Sv}{l:List Int}(h:ts[j]?=some (v,l))(x:Int):TIn (ts.set j (v',l++[x])) x :=
 ⟨(v',l++[x]),List.mem_set (ze8.1 h).1 _,by simp⟩
structure TOk (l:List Cl)(T:List (List Int)):Prop where
 pos:1≤T.length
 few:T.length≤4
 few3:l.length>12→T.length≤3
 mem:∀ t∈T,∀ x∈t,x∈fI l
 len:∀ t∈T,t.length≤4 * (fI l).length
 cov:∀ x∈fI l,∃ t∈T,x∈t
theorem BF {k n:Nat}(hk:k<n)(hn:n≤4):IntKind.i64.wrap (1 * 2 ^ min ((k:Nat):Int).toNat IntKind.i64.bits)=((2 ^ k:Nat):Int):=by
 have key:∀ k,k<5→IntKind.i64.wrap (1 * 2 ^ min ((k:Nat):Int).toNat IntKind.i64.bits)=((2 ^ k:Nat):Int):=by decide +kernel
 exact key k oM
theorem z6 {n:Nat}(hn:n≤4):IntKind.i64.wrap (1 * 2 ^ min ((n:Nat):Int).toNat IntKind.i64.bits)=((2 ^ n:Nat):Int):=by
 have key:∀ k,k<5→IntKind.i64.wrap (1 * 2 ^ min ((k:Nat):Int).toNat IntKind.i64.bits)=((2 ^ k:Nat):Int):=by decide +kernel
 exact key n oM
theorem BG {M k:Nat}(hM:M<16)(hk:k<4):IntKind.i64.wrap (BitVec.ofInt IntKind.i64.bits (((M:Nat):Int).fdiv (2 ^ min ((k:Nat):Int).toNat IntKind.i64.bits)) &&& BitVec.ofInt IntKind.i64.bits 1).toNat=if M.testBit k then 1 else 0:=by
 have key:∀ M,M<16→∀ k,k<4→IntKind.i64.wrap (BitVec.ofInt IntKind.i64.bits (((M:Nat):Int).fdiv (2 ^ min ((k:Nat):Int).toNat IntKind.i64.bits)) &&& BitVec.ofInt IntKind.i64.bits 1).toNat=if M.testBit k then 1 else 0:=by decide +kernel
 exact key M hM k hk
theorem z2 {M n:Nat}(h0:1≤M)(h1:M<2 ^ n)(hn:n≤4):∃ k,k<n∧M.testBit k=true:=by
 have key:∀ n,n<5→∀ M,M<2 ^ n→1≤M→∃ k,k<n∧M.testBit k=true:=by decide +kernel
 exact key n oM M h1 h0
theorem zn {n:Nat}(hn:n≤4)(h0:1≤n):2≤2 ^ n∧2 ^ n≤16:=by
 have key:∀ n,n<5→1≤n→2≤2 ^ n∧2 ^ n≤16:=by decide
 exact key n oM h0
theorem uz (E:World)(g:PH)(s:Own)(v nv:Value)(l:List Cl)(sd:Int)(ns:List Int)(hv:aq g v l)(hf:c4 l)(hl:(ae l).length≤1000)(hn:bZ g nv ns) :
  Ctr Tryz.prog E 9 #[.agg #[v],vi sd,nv] g s (fun r g' s'=>s=s'∧Le g g'∧∃ T,aK g' r T∧TOk l T):=by
 obtain ⟨vp,vc,rfl⟩:=hv.form;obtain ⟨np,nc,rfl⟩:=za2 hn;have hll:=hf.1;have hm4:=a8 sd 4 dC dC;have hm3:=a8 sd 3 dC dC;have htl:(fI l).length≤1000:=by
  unfold fI;rw[zd9];exact zj8 (zc1 _ _) hl
 refine za9 (args:=[.agg #[.slice vp l.length vc],vi sd,.slice np ns.length nc]) func9 I ntmps9 (bE I) ?_;refine rZ (bW (bO I) fun b3=>?_);refine aT I (sW I (lW (cL iG I (aW E g _ sd 4 dC)) ?_));rintro _ _ _ ⟨rfl,rfl,rfl⟩;refine yD I (aT I ?_);refine SC.cut (ι:=Nat) (fun n=>[(2,.slice np ns.length nc),(3,pp b3 0),(7,vi n)]) (fun _=>g) (fun _=>pt b3 (.cells #[.slice vp l.length vc] 30 (0,0))::s) (fun n=>1≤n∧n≤4∧(l.length>12→n≤3)) ?_ ?_
 ·refine rZ (lU (fA dg I cw I) (lK (qL (v:=.slice vp l.length vc) dV I (cO 0 I I)) (lU (eN aJ I) (lU (gR I I) (tZ ?_)))));refine iP I (fun h12=>?_) (fun h12=>?_)
  ·refine rG (lM I (lW (cL iG I (aW E g _ sd 3 dC)) ?_));rintro _ _ _ ⟨rfl,rfl,rfl⟩;refine lU (SU.eq (v':=vi (1+(bG sd 3).toNat:Nat)) (aD I I oM) (zd5 vi oM)) (lA I (nL ?_));exact za7 (1+(bG sd 3).toNat) sB I I ⟨oM,oM,fun _=>by omega⟩
  ·refine kP ?_;refine za7 (1+(bG sd 4).toNat) ⟨I,I,?_,trivial⟩ I I ⟨oM,oM,fun h=>by omega⟩;show some (vi (1+bG sd 4))=_;exact zd5 (fun x=>some (vi x)) oM
 rintro n ⟨hn1,hn4,hn3⟩;have hpw:=zn hn4 hn1;refine sW I (lW (mK aU ⟨none,0,0⟩ sty22 I I I oM oM) ?_);rintro _ _ _ ⟨bt,rfl,rfl,rfl⟩;refine aT I (rZ (lK (qV 1 bD aA I I I) (lW (cL call28 I (qW E g _ _ l hv hf)) ?_)));rintro _ g1 _ ⟨rfl,hle1,hA⟩;obtain ⟨ap,ac,rfl⟩:=za2 hA;refine aT I (sQ (rZ (aT I (bK ?_))));have hTok:∀ ts:Rws,ts.length=n→(∀ t∈ts,t.2.length≤4 * (fI l).length∧∀ x∈t.2,x∈fI l)→(∀ j<(fI l).length,∀ x,(fI l)[j]?=some x→TIn ts x)→TOk l (ts.map Prod.snd):=fun ts h1 h2 h3=>⟨by rw[zd9]; omega,by rw[zd9]; omega,fun h=>by rw[zd9]; have:=hn3 h; omega,fun t ht=>by
  obtain ⟨u,hu,rfl⟩:=ze5.1 ht;exact (h2 u hu).2,fun t ht=>by
  obtain ⟨u,hu,rfl⟩:=ze5.1 ht;exact (h2 u hu).1,fun x hx=>by
  obtain ⟨j,hj,e⟩:=List.mem_iff_getElem.1 hx;obtain ⟨t,ht,hxt⟩:=h3 j hj x (by rw[gE hj,e]);exact⟨t.2,ze5.2 ⟨t,ht,I⟩,hxt⟩⟩
 generalize fI l=A at *;refine SC.to (fun w hw=>p8 [rowA aU 25 (.slice (some ⟨bt,0,none⟩) n n) (List.replicate n ⟨none,0,0⟩),pt b3 (.cells #[.slice vp l.length vc] 30 (0,0))] n s hw) ?_;refine oP (ι:=Nat×Rws) (fun z=>[(2,.slice np ns.length nc),(7,vi n),(8,.slice (some ⟨bt,0,none⟩) n n),(9,.slice ap A.length ac),(10,vi z.1)]) (fun _=>g1) (fun z=>rowA aU 25 (.slice (some ⟨bt,0,none⟩) n n) (z.2.map Prod.fst)::pt b3 (.cells #[.slice vp l.length vc] 30 (0,0))::(fM z.2++s)) (fun z=>z.1≤A.length∧z.2.length=n∧(∀ t∈z.2,t.2.length≤4 * z.1∧∀ x∈t.2,x∈A)∧∀ j<z.1,∀ x,A[j]?=some x→TIn z.2 x) (fun z=>A.length - z.1) (0,List.replicate n (⟨none,0,0⟩,[])) sB I (by dsimp only; rw[List.map_replicate]; rfl) ⟨ze9 _,by dsimp only; rw[List.length_replicate],fun t ht=>by rw[(List.mem_replicate.1 ht).2]; exact⟨ze9 _,by simp⟩,fun j hj=>absurd hj (Nat.not_lt_zero j)⟩ ?_;rintro ⟨i,ts⟩ ⟨hi,htn,htm,htc⟩;dsimp only at hi htn htm htc ⊢;refine sQ (sW I (lM I (lU (eN aj I) (yL I (tZ ?_)))));refine iP I (fun hlt=>?_) (fun hlt=>?_)
 ·have hiA:i<A.length:=oM;have hgi:A[((i:Nat):Int).toNat]?=some A[i]:=gE hiA;have hgi0:A[i]?=some A[i]:=gE hiA;have hAm:A[i]∈A:=gM hiA;have hbA:=za4 hA oM;generalize A[i]=x at *;have hk:i % n<n:=Nat.mod_lt _ oM;have hrem:((i:Nat):Int).tmod ((n:Nat):Int)=((i % n:Nat):Int):=(Int.ofNat_tmod i n).symm;refine kP (tN (sQ (bK (sW I (lM I (lU (SU.eq (v':=vi (i % n:Nat)) (zd2 I I oM) (zd5 vi hrem)) (lU (SU.eq (v':=vi (2 ^ (i % n):Nat)) (SU.shl I I oM) (zd5 vi (BF hk hn4))) (aT I ?_))))))));refine SC.cut (ι:=Int) (fun m=>[(2,.slice np ns.length nc),(7,vi n),(8,.slice (some ⟨bt,0,none⟩) n n),(9,.slice ap A.length ac),(10,vi i),(11,vi m)]) (fun _=>g1) (fun _=>rowA aU 25 (.slice (some ⟨bt,0,none⟩) n n) (ts.map Prod.fst)::pt b3 (.cells #[.slice vp l.length vc] 30 (0,0))::(fM ts++s)) (fun _=>True) ?_ ?_
  ·refine sW I (lU (eN aj I) (lU (gR I I) (tZ ?_)));refine iP I (fun hns=>?_) (fun hns=>?_)
   ·have hnl:0<ns.length:=oM;have hr2:((i:Nat):Int).tmod ((ns.length:Nat):Int)=((i % ns.length:Nat):Int):=(Int.ofNat_tmod i _).symm;have hkl:i % ns.length<ns.length:=Nat.mod_lt _ hnl;have hgn:ns[((i % ns.length:Nat):Int).toNat]?=some ns[i % ns.length]:=gE hkl;have hbn:=za4 hn hnl;refine dW [] [(0,2),(1,2),(2,2),(3,2),(4,2),(5,2),(6,1),(7,2),(8,2),(9,2),(10,2),(11,2),(12,2)] zd6 kR ?_;refine yM I (yM I (yM I (pU I (eN aj I) (pU I (SU.eq (v':=vi (i % ns.length:Nat)) (zd2 I I oM) (zd5 vi hr2)) (pU I (iA aj zT3 I I hbn oM (show ((i % ns.length:Nat):Int)<((ns.length:Nat):Int) by omega)) ?_)))));refine pK I (eB iT3 I (za5 (za3 hn hle1)) hgn I) (yM I (yM I (pU I (eN aj I) (pU I (SU.quo I I oM) (pU I (zd4 I I) (pU I (aS I) (pN ?_)))))));exact za7 _ sB I I trivial
   ·refine kP ?_;exact za7 _ sB I I trivial
  rintro m -;have hmr:=a8 m (2 ^ n:Nat) oM oM;refine sW I (lM I (lU (SU.eq (v':=vi (2 ^ n:Nat)) (SU.shl I I oM) (zd5 vi (z6 hn4))) (lW (cL iG I (aW E g1 _ m (2 ^ n:Nat) oM)) ?_)));rintro _ _ _ ⟨rfl,rfl,rfl⟩;refine aT I ?_;refine SC.cut (ι:=Nat) (fun M=>[(2,.slice np ns.length nc),(7,vi n),(8,.slice (some ⟨bt,0,none⟩) n n),(9,.slice ap A.length ac),(10,vi i),(11,vi M)]) (fun _=>g1) (fun _=>rowA aU 25 (.slice (some ⟨bt,0,none⟩) n n) (ts.map Prod.fst)::pt b3 (.cells #[.slice vp l.length vc] 30 (0,0))::(fM ts++s)) (fun M=>1≤M∧M<2 ^ n) ?_ ?_
  ·refine sW I (yE I (tZ ?_));refine iP I (fun hz=>?_) (fun hz=>?_)
   ·refine rG (lA I (nL ?_));exact za7 1 sB I I ⟨oM,oM⟩
   ·refine kP ?_;refine za7 (bG m (2 ^ n:Nat)).toNat ⟨I,I,I,I,I,?_,trivial⟩ I I ⟨oM,oM⟩;show some (vi (bG m (2 ^ n:Nat)))=_;exact zd5 (fun x=>some (vi x)) oM
  rintro M ⟨hM1,hM2⟩;refine rZ (aT I (bK ?_));refine oP (ι:=Nat×Rws) (fun z=>[(2,.slice np ns.length nc),(7,vi n),(8,.slice (some ⟨bt,0,none⟩) n n),(9,.slice ap A.length ac),(10,vi i),(11,vi M),(12,vi z.1)]) (fun _=>g1) (fun z=>rowA aU 25 (.slice (some ⟨bt,0,none⟩) n n) (z.2.map Prod.fst)::pt b3 (.cells #[.slice vp l.length vc] 30 (0,0))::(fM z.2++s)) (fun z=>z.1≤n∧z.2.length=n∧(∀ t∈z.2,t.2.length≤4 * i+z.1∧∀ x∈t.2,x∈A)∧(∀ j<i,∀ x,A[j]?=some x→TIn z.2 x)∧∀ b<z.1,M.testBit b=true→TIn z.2 x) (fun z=>n - z.1) (0,ts) sB I I ⟨ze9 _,htn,fun t ht=>⟨(htm t ht).1,(htm t ht).2⟩,htc,fun b hb=>absurd hb (Nat.not_lt_zero b)⟩ ?_;clear htn htm htc;rintro ⟨k,us⟩ ⟨hk2,hun,hum,huc,hub⟩;dsimp only at hk2 hun hum huc hub ⊢;refine sQ (sW I (lM I (yL I (tZ ?_))));refine iP I (fun hlt2=>?_) (fun hlt2=>?_)
  ·have hkn:k<n:=oM;have hand:=BG (M:=M) (k:=k) oM oM;refine kP (tN (sQ (bK (sW I (lM I (lU (SU.shr I I oM) (lU (SU.eq (v':=vi (if M.testBit k then 1 else 0)) (SU.and I I) (zd5 vi hand)) (yE I (tZ ?_)))))))));refine iP I (fun hbit=>?_) (fun hbit=>?_)
   ·have htb:M.testBit k=true:=by
     cases h:M.testBit k with
     | true=>rfl
     | false=>rw[h] at hbit; simp at hbit
    have hku:k<us.length:=oM;have hgk:us[k]?=some us[k]:=gE hku;have hgs:(us.map Prod.fst)[((k:Nat):Int).toNat]?=some us[k].1:=by
     rw[show ((k:Nat):Int).toNat=k from rfl,zh3,hgk];rfl
    have hum1:=hum _ (gM hku);generalize us[k]=u0 at *;obtain ⟨sv,lu⟩:=u0;dsimp only at hgs hum1;refine SC.drawT 2 [13] [(0,2),(1,2),(2,2),(3,2),(4,2),(5,1),(6,2),(7,2),(8,2),(9,1),(10,0),(11,0),(12,2),(13,0)] zd6 kR ?_;refine yM rfl (yM rfl (yM rfl (yM rfl (pU rfl (iA bL cg rfl rfl rfl oM sL) (pK rfl (eB (u:=.slice sv.p sv.n sv.c) dG rfl (zb5 (e:=aU) 0 rfl) hgs rfl) (yM rfl (yM rfl (pU rfl (iA aj zT3 rfl rfl hbA oM sL) (pK rfl (eB iT3 rfl (za5 hA) hgi rfl) (SP.o rfl (bS sty25 rfl rfl rfl (ab ⟨rfl,trivial⟩) dC) dC (.inr (by rintro _ _ _ ⟨b78,rfl,rfl,rfl⟩; exact⟨by exact zb7 _,(by exact .cons _ (List.take_sublist _ _))⟩)) ?_))))))))));rintro _ _ _ ⟨b78,rfl,rfl,rfl⟩;refine SP.o rfl (aP (e:=encInt) (l:=lu) (k+2) x sty25 rfl rfl rfl (xr hgk s) rfl oM oM) dC (.inr (by rintro v79 _ _ ⟨rfl,rfl⟩; exact⟨by exact zb7 _,(by exact ez _ _ _ _)⟩)) ?_;rintro v79 _ _ ⟨rfl,rfl⟩;refine zc7 fun ⟨w0,hw0⟩=>?_;obtain ⟨q79,d79,rfl⟩:=ag (e:=encInt) (l:=lu++[x]) (i:=k+2) hw0 (AN (hd:=[rowA aU 25 (.slice (some ⟨bt,0,none⟩) n n) (us.map Prod.fst),pt b3 (.cells #[.slice vp l.length vc] 30 (0,0))]) hgk s rfl);clear hw0 w0;refine pU I (SU.eq (v':=.pointer (some ⟨bt,0+k * 1,none⟩)) (iA bL cg I I I oM sL) I) (SP.on I (sT (e:=aU) (a:=⟨q79,(lu++[x]).length,d79⟩) (j:=k) 0 cg I I I (by rw[zd9]; omega) I) (.inl dC) ?_);rintro _ _ _ ⟨rfl,rfl⟩;refine pN (bN (tN (rG (lM I (yD I (lA I (nL (dR (s':=rowA aU 25 (.slice (some ⟨bt,0,none⟩) n n) ((us.set k (⟨q79,(lu++[x]).length,d79⟩,lu++[x])).map Prod.fst)::pt b3 (.cells #[.slice vp l.length vc] 30 (0,0))::(fM (us.set k (⟨q79,(lu++[x]).length,d79⟩,lu++[x]))++s)) (by rw[List.map_set,← xq hgk s]; exact .refl _) ?_))))))));exact gA (k+1,(us.set k (⟨q79,(lu++[x]).length,d79⟩,lu++[x]))) sB I I ⟨by dsimp only; omega,by dsimp only; rw[zh6]; exact hun,fun t ht=>by
     dsimp only at ht ⊢
     rcases List.mem_or_eq_of_mem_set ht with h | h
     ·exact⟨by have:=(hum t h).1; omega,(hum t h).2⟩
     ·subst h;refine⟨by dsimp only; rw[zd8,ze1]; omega,fun y hy=>?_⟩
      rcases ze6.1 hy with h | h
      ·exact hum1.2 y h
      ·rw[zh1.1 h]; exact hAm,fun j hj y hy=>TIn.set hgk x (huc j hj y hy),fun b hb hb2=>TIn.new hgk x⟩ (by dsimp only; omega)
   ·have htb:M.testBit k=false:=by
     cases h:M.testBit k with
     | false=>rfl
     | true=>rw[h] at hbit; simp at hbit
    refine kP (bN (tN (rG (lM I (yD I (lA I (nL ?_)))))));exact gA (k+1,us) sB I I ⟨by dsimp only; omega,hun,fun t ht=>⟨by have:=(hum t ht).1; dsimp only; omega,(hum t ht).2⟩,huc,fun b hb hb2=>by
     dsimp only at hb;by_cases e:b=k
     ·rw[e,htb] at hb2; cases hb2
     ·exact hub b oM hb2⟩ (by dsimp only; omega)
  ·have hke:k=n:=oM;subst hke;obtain ⟨b,hb1,hb2⟩:=z2 hM1 hM2 hn4;have hx:=hub b hb1 hb2;refine xI (tX (tX (bX (bN (tN (rG (lM I (yD I (lA I (nL ?_))))))))));exact gA (i+1,us) sB I I ⟨by dsimp only; omega,hun,fun t ht=>⟨by have:=(hum t ht).1; dsimp only; omega,(hum t ht).2⟩,fun j hj y hy=>by
    dsimp only at hj;by_cases e:j=i
    ·subst e;rw[hgi0] at hy;injection hy with hy
     rw[← hy];exact hx
    ·exact huc j oM y hy⟩ (by dsimp only; omega)
 ·have hie:i=A.length:=oM;subst hie;have hok:=hTok ts htn htm htc;have hsl:(ts.map Prod.fst).length=n:=by rw[zd9]; exact htn
  refine fS fun g2 hle2 hs2=>?_;refine SC.drop (.cons _ (.refl _)) (SC.freezeTs fun g3 hle3 hall=>?_);refine xI (tX (tX (bX (tN (sW I (aT I (rE ?_)))))));exact za6 (.inl I) results9 I ⟨I,hle1.trans (hle2.trans hle3),ts.map Prod.snd,⟨ts.map Prod.fst,Sl.mono hs2 hle3,hall⟩,hok⟩
theorem fZ {l:List Cl}{d:Int}(h:∀ c∈l,c.dim≤d):∀ c∈aa l,c.dim≤d:=fun c hc=>by
 obtain ⟨x,hx,rfl⟩:=ze5.1 hc;exact h x ((cq _ _).1 hx)
theorem zd (x:List Int):(bM x).length≤x.length:=by
 unfold bM;exact zj8 (gI _ _) (by rw[eC]; exact lR _)
theorem jr {n:Nat}:∀ {ls all out:List (List Int)},(∀ x∈all,x.length≤n)→(∀ x∈ls,x.length≤n)→aC all ls=some out→∀ x∈out,x.length≤n
 | [],all,out,h1,_,h=>by
  simp only[aC,zg1] at h;subst h;exact h1
 | s::r,all,out,h1,h2,h=>by
  have hr:∀ x∈r,x.length≤n:=fun x hx=>h2 x (by simp[hx]);unfold aC at h;split at h
  ·exact jr h1 hr h
  ·split at h
   ·cases h
   ·refine jr (fun x hx=>?_) hr h
    rcases (fk _ _ _).1 hx with k | k
    ·exact h1 x k
    ·have k1:=((fy _ _).1 k).1.length_le;have k2:=zd s;have k3:=h2 s (by simp);omega
theorem e9 {ls:List (List Int)}{n:Nat}(h:∀ x∈ls,x.length≤n):∀ c∈bC ls,c.dim≤(n:Int) - 1:=by
 unfold bC;cases hs:aC [] ls with
 | none=>intro c hc; cases hc
 | some all =>
  refine fZ fun c hc=>?_;obtain ⟨p,hp,rfl⟩:=ze5.1 hc;have:=jr (n:=n) (by simp) h hs p.1 (List.fst_mem_of_mem_zipIdx hp);show (p.1.length:Int) - 1≤_;omega
theorem fB {a b:List Cl}{m n:Int}(ha:∀ c∈a,c.dim≤m)(hb:∀ c∈b,c.dim≤n):∀ c∈bA a b,c.dim≤m+n:=by
 unfold bA;split
 ·intro c hc; cases hc
 ·split
  ·refine fZ fun c hc=>?_;obtain ⟨x,hx,hc⟩:=List.mem_flatMap.1 hc;obtain ⟨z,hz,rfl⟩:=ze5.1 hc;have h1:=fZ ha x hx;have h2:=fZ hb z hz;show x.dim+z.dim≤_;omega
  ·intro c hc; cases hc
theorem xB (n:Nat):∀ c∈qO n,c.dim≤2:=by
 refine fZ fun c hc=>?_;unfold dy at hc
 rcases ze6.1 hc with hc | hc
 ·rcases ze6.1 hc with hc | hc
  ·rcases ze6.1 hc with hc | hc
   ·obtain ⟨i,-,rfl⟩:=ze5.1 hc;exact (by decide:(0:Int)≤2)
   ·obtain ⟨i,-,rfl⟩:=ze5.1 hc;exact (by decide:(1:Int)≤2)
  ·rw[zh1.1 hc];exact Int.le_refl _
 ·split at hc
  ·rw[zh1.1 hc];exact Int.le_refl _
  ·cases hc
theorem tu (ls:List (List Int)):∀ x∈kM ls,x.length≤4:=fun x hx=>by
 obtain ⟨l,-,rfl⟩:=ze5.1 hx;rw[zd9,zd7];omega
theorem yl (m:Int)(ls:List (List Int))(y:Int):∀ c∈lQ m ls y,c.dim≤3:=by
 have up:∀ {l:List Cl} {d:Int},(∀ c∈l,c.dim≤d)→d≤3→∀ c∈l,c.dim≤3:=fun h1 h2 c hc=>by
  have:=h1 c hc;omega
 have hsf:=(nA y).2.2;have e1:∀ c∈bC [[0,1]],c.dim≤((2:Nat):Int) - 1:=e9 dC;unfold lQ;split
 ·exact up (e9 hsf) dC
 ·split
  ·exact up (fB (e9 (eg _).2) (e9 (eg _).2)) dC
  ·split
   ·exact up (xB _) dC
   ·split
    ·exact up (fB (fB e1 e1) e1) dC
    ·split
     ·refine up (e9 (n:=4) fun x hx=>?_) dC
      rcases ze6.1 hx with h | h
      ·exact tu ls x h
      ·have:=hsf x (List.mem_of_mem_take h);omega
     ·exact up (e9 (tu ls)) dC
theorem qm (kd:Int)(ls:List (List Int))(y:Int):∀ c∈ja kd ls y,c.dim≤3:=fun c hc=>by
 obtain ⟨a,ha,rfl⟩:=lD (AD y) hc;show a.dim≤3;unfold ny at ha;split at ha
 ·have e1:∀ c∈bC [[0,1],[1,2],[0,2]],c.dim≤((2:Nat):Int) - 1:=e9 dC;have:=fB e1 e1 a ha;omega
 ·exact yl _ _ _ a ha
theorem uG (kd:Int)(ls:List (List Int))(y:Int):∀ c∈gX kd ls y,c.dim≤3:=by
 unfold gX;split
 ·rw[BT];decide
 ·unfold eH;split
  ·exact qm _ _ _
  ·exact qm _ _ _
theorem lX {l:List Cl}(h:Rt l){c:Cl}(hc:c∈l):c.sides.length≤l.length:=by
 have hf:=h.form c hc;have hn:(c.sides.map ah.cell).Nodup:=by
  rw[List.Nodup,zj4];exact hf.asc.imp fun h=>by omega
 have:=jK (m:=l.map Cl.id) hn fun x hx=>by
  obtain ⟨q,hq,rfl⟩:=ze5.1 hx;obtain ⟨d,hd,-⟩:=hf.found q hq;obtain ⟨h1,h2⟩:=cX hd;exact ze5.2 ⟨d,h1,h2⟩
 rwa [zd9,zd9] at this
theorem rC (L:List Cl)(id:Int):∀ (T:List (List Int)) (k:Nat),(∃ t∈T,id∈cY L t)→tlB L k T id≠0
 | [],_,h=>by obtain ⟨t,ht,_⟩:=h; cases ht
 | t::T,k,h=>by
  unfold tlB;by_cases e:id∈cY L t
  ·rw[zf4 (by simpa using e)];have:=Nat.two_pow_pos k;omega
  ·have:tlB L (k+1) T id≠0:=rC L id T (k+1) (by
    obtain ⟨u,hu,h2⟩:=h
    rcases ze4.1 hu with rfl | hu
    ·exact absurd h2 e
    ·exact⟨u,hu,h2⟩)
   omega
theorem wj {l:List Cl}(h:Rt l){T:List (List Int)}(hT:TOk l T):∀ k:Nat,∀ c∈l,9≤c.dim+k→∃ t∈T,c.id∈cY l t:=by
 intro k;induction k with
 | zero =>
  intro c hc hk;have:=(h.form c hc).dim.2;omega
 | succ k ih =>
  intro c hc hk;by_cases e:gY l c.id=true
  ·unfold gY at e;obtain ⟨d,hd,h2⟩:=zi9.1 e;obtain ⟨x,hx,h3⟩:=zi9.1 h2;have h3:x.cell=c.id:=zf6 h3;obtain ⟨c',hf,hdim⟩:=(h.form d hd).found x hx;rw[h3,h.find hc] at hf;injection hf with hf
   subst hf;obtain ⟨t,ht,hm⟩:=ih d hd oM;refine⟨t,ht,?_⟩;have:=mW h t d hd (by simpa using hm) x hx;rw[h3] at this;simpa using this
  ·have hm:c.id∈fI l:=by
    unfold fI;rw[h.tab];refine ze5.2 ⟨c,zg7.2 ⟨hc,?_⟩,I⟩;simpa using e
   obtain ⟨t,ht,hx⟩:=hT.cov _ hm;refine⟨t,ht,(ir l t c.id).2 ⟨c.id,hx,.refl _ ?_⟩⟩;unfold jd;rw[h.find hc];simp
theorem td {l:List Cl}(h:Rt l){T:List (List Int)}(hT:TOk l T):dI l T=0:=by
 have h4:=hT.few;have hf:(T.any fun t=>t.any fun id=>(aO (ae l) id).isNone)=false:=by
  rw[zj5];intro t ht;rw[zi8,zj5];intro x hx;have:=hT.mem t ht x hx;unfold fI at this;obtain ⟨c,hc,rfl⟩:=ze5.1 this;rw[h.tab] at hc ⊢;rw[h.find (zg7.1 hc).1];simp
 have hz:((ae l).any fun c=>decide (tlB (ae l) 0 T c.id=0))=false:=by
  rw[h.tab,zj5];intro c hc;have hd:=(h.form c hc).dim;obtain ⟨t,ht,hm⟩:=wj h hT (9 - c.dim).toNat c hc oM;have:=rC l c.id T 0 ⟨t,ht,hm⟩;simpa using this
 unfold dI;rw[h.check,zf3 (by simp),zf3 oM,hf,zf3 (by simp),hz,zf3 (by simp)]
theorem tj (n b:Nat)(hn:n≤4)(hb:b<2 ^ n):(bH b).length≤2 ^ n - 1:=by
 have key:∀ n,n<5→∀ b,b<2 ^ n→(bH b).length≤2 ^ n - 1:=by decide +kernel
 exact key n oM b hb
theorem o4 {α β:Type}{f:α→List β}{m:Nat}:∀ {q:List α},(∀ x∈q,(f x).length≤m)→(q.flatMap f).length≤q.length * m
 | [],_=>by simp
 | x::q,h=>by
  have h1:=h x (by simp);have h2:=o4 (q:=q) fun z hz=>h z (by simp[hz]);rw[zg8,zd8,ze2,Nat.succ_mul];omega
structure Sm3 (l:List Cl):Prop extends Sml l where
 dims:∀ c∈l,c.dim≤3
theorem xk (kd:Int)(ls:List (List Int))(y:Int):Sm3 (gX kd ls y):=⟨xj kd ls y,uG kd ls y⟩
theorem zV {l:List Cl}(h:Sm3 l){T:List (List Int)}(hT:TOk l T):(ct l T).length≤200:=by
 have h1:(ct l T).length=(ke l T).length:=ak _;have h2:(ke l T).length≤l.zipIdx.length * (2 ^ T.length - 1):=o4 fun q _=>by
  rw[zd9];exact tj _ _ hT.few (ia l q.1.id T)
 rw[List.length_zipIdx] at h2;have h3:=h.few;have h4:=hT.few;have h5:=hT.few3;have h6:=hT.pos;rw[h1];refine zj8 h2 ?_;by_cases e:l.length>12
 ·have h7:=h5 e
  rcases (by omega:T.length=1∨T.length=2∨T.length=3) with k | k | k <;> rw[k] <;> omega
 ·rcases (by omega:T.length=1∨T.length=2∨T.length=3∨T.length=4) with k | k | k | k <;> rw[k] <;> omega
theorem AY {l:List Cl}(h:Sm3 l){T:List (List Int)}(hT:TOk l T):Cov l (tlB l 0 T) T.length :=
 mh h.rt hT.few (by have:=h.few; omega) (fun c hc=>by have:=h.dims c hc; omega) fun c hc=>by have:=lX h.rt hc; have:=h.few; omega
theorem pR {l:List Cl}(h:Sm3 l){T:List (List Int)}(hT:TOk l T){p:Int}(hp:fv p=true):cD l T p=0:=by
 have hr:Rt (ct l T):=vy h.rt hT.few (by have:=h.few; omega) (fun c hc=>by have:=h.dims c hc; omega) fun c hc=>by have:=lX h.rt hc; have:=h.few; omega
 have hm:nh (ct l T)=false:=rJ fun d=>zj8 (zc1 _ _) (zV h hT);unfold cD;rw[zf3 (by rw[hp]; simp),td h.rt hT,zf3 (by simp),h.rt.tab,hr.check,hm,zf3 (by simp)]
def pgN (f:Nat→Nat→Nat→Int)(n D k:Nat):List (List Int):=(List.range n).map fun a=>(List.range D).map fun b=>f k a b
structure Nums (P:List (List (List Int)))(n D:Nat)(e:Int)(f:Nat→Nat→Nat→Int):Prop where
 few:P.length≤n
 n4:n≤4
 d9:D≤9
 page:∀ k,k<P.length→P[k]?=some (pgN f n D k)
 pos:∀ k a b,a<n→0≤f k a b
 less:∀ k a b,a<n→f (k+1) a b≤f k a b
 bd:∀ k a b,(f k a b).natAbs≤800
 sum:∀ k,k<n→(aG (List.range n) fun a=>aG (List.range D) fun b=>f k a b * sgP ((a:Int)+b))=e
def eE (n s:Nat):Nat:=((List.range n).map fun k=>if s.testBit k then 2 ^ (n - 1 - k) else 0).sum
def pL (s:Nat):Int:=if onesB s % 4≤1 then 1 else -1
theorem dx {n s:Nat}(hn:n≤4)(hs:s<2 ^ n):eE n s<2 ^ n∧eE n (eE n s)=s∧(0<s→0<eE n s)∧onesB (eE n s)=onesB s∧∀ k,k<n→(eE n s).testBit k=s.testBit (n - 1 - k):=by
 have key:∀ n,n<5→∀ s,s<2 ^ n→eE n s<2 ^ n∧eE n (eE n s)=s∧(0<s→0<eE n s)∧onesB (eE n s)=onesB s∧∀ k,k<n→(eE n s).testBit k=s.testBit (n - 1 - k):=by decide +kernel
 exact key n oM s hs
theorem Bf {n s b:Nat}(hn:n≤4)(hs:s<2 ^ n)(hb:b<2 ^ n)(h:s &&& b=s):eE n s &&& eE n b=eE n s:=by
 have key:∀ n,n<5→∀ s,s<2 ^ n→∀ b,b<2 ^ n→s &&& b=s→eE n s &&& eE n b=eE n s:=by decide +kernel
 exact key n oM s hs b hb h
theorem Cc {n s t:Nat}(hn:n≤4)(hs:s<2 ^ n)(ht:t<2 ^ n):iB (eE n s) (eE n t) 0=pL s * (iB s t 0 * pL t):=by
 have key:∀ n,n<5→∀ s,s<2 ^ n→∀ t,t<2 ^ n→iB (eE n s) (eE n t) 0=pL s * (iB s t 0 * pL t):=by decide +kernel
 exact key n oM s hs t ht
theorem rK (s:Nat):pL s * pL s=1:=by
 unfold pL;split <;> rfl
theorem Bg {n s t:Nat}(hn:n≤4)(hs:s<2 ^ n)(ht:t<2 ^ n)(d:Int):iB (eE n s) (eE n t) d=pL s * (iB s t d * pL t):=by
 have key:∀ a x y z:Int,a * (x * (y * z))=x * (a * y * z):=fun a x y z=>by rw[Int.mul_left_comm,Int.mul_assoc a y z]
 rw[pH _ _ d,pH s t d,Cc hn hs ht];exact key _ _ _ _
section
variable {L:List Cl}{f:Int→Nat}{n:Nat}(h:Cov L f n)
include h
theorem Cov.ent {d:Cl}(hd:d∈L){u:Nat}(hu:u∈bH (f d.id)){e:Cl}(he:e∈L){t:Nat}(ht:t∈bH (f e.id)) :
  gr (au (bq L n (ixB L d.id) d u)) (au (bq L n (ixB L e.id) e t))=(if t=u then gr d e else 0)+(if e=d then iB u t d.dim else 0):=by
 have h1:=h.inner hd hu he ht 1;rw[Int.one_mul] at h1;rw[← h1];unfold Go.Proofs.YtcfkpajlakidbaaGreat.inner ao;rw[h.find hd hu];unfold gr;refine zd5 List.sum (zc4 fun q _=>?_);show (if q.cell=bId n (ixB L e.id) t then q.sign else 0)=if q.cell=bId n (ixB L e.id) t then 1 * q.sign else 0
 rw[Int.one_mul]
end
section
variable {L:List Cl}{f f':Int→Nat}{n:Nat}(h:Cov L f n)(h':Cov L f' n)(hr:∀ c∈L,f' c.id=eE n (f c.id))
def yO (n:Nat)(z:Cl):Nat:=z.id.toNat % 2 ^ n
def lL (B:List Cl)(n:Nat)(z:Cl):Cl:=(aO B (bId n (z.id.toNat / 2 ^ n) (eE n (yO n z)))).getD gB
include h h' hr
theorem li {c:Cl}(hc:c∈L){s:Nat}(hs:s∈bH (f' c.id)):eE n s∈bH (f c.id):=by
 obtain ⟨h1,h2⟩:=co.1 hs;have hs2:=(h'.s16 hc hs).1;have hl:=h.lt c hc;have hrl:=(dx h.n4 hl);rw[hr c hc] at h2;have h3:=Bf h.n4 hs2 hrl.1 h2;rw[hrl.2.1] at h3;exact co.2 ⟨(dx h.n4 hs2).2.2.1 h1,h3⟩
theorem lE {c:Cl}(hc:c∈L){s:Nat}(hs:s∈bH (f' c.id)):lL (aa (aM L f n)) n (au (bq L n (ixB L c.id) c s))=au (bq L n (ixB L c.id) c (eE n s))∧yO n (au (bq L n (ixB L c.id) c s))=s:=by
 have hs2:=(h'.s16 hc hs).1;have e0:(au (bq L n (ixB L c.id) c s)).id=bId n (ixB L c.id) s:=rfl;have e1:(bId n (ixB L c.id) s).toNat % 2 ^ n=s:=by
  unfold bId;rw[Int.toNat_natCast,Nat.mul_comm,Nat.mul_add_mod,Nat.mod_eq_of_lt hs2]
 have e2:(bId n (ixB L c.id) s).toNat / 2 ^ n=ixB L c.id:=by
  unfold bId;rw[Int.toNat_natCast,Nat.mul_comm,Nat.mul_add_div (Nat.two_pow_pos n),Nat.div_eq_of_lt hs2,Nat.add_zero]
 have e3:yO n (au (bq L n (ixB L c.id) c s))=s:=e1;refine⟨?_,e3⟩;unfold lL;rw[e3,e0,e2,h.find hc (li h h' hr hc hs)];rfl
theorem oW {z:Cl}(hz:z∈aa (aM L f' n)):lL (aa (aM L f n)) n z∈aa (aM L f n)∧(lL (aa (aM L f n)) n z).dim=z.dim∧ii n (lL (aa (aM L f n)) n z).id=ii n z.id:=by
 obtain ⟨c,hc,s,hs,rfl⟩:=h'.mem.1 hz;have hs2:=(h'.s16 hc hs).1;have hf:=dx h.n4 hs2;have hm:=li h h' hr hc hs;rw[(lE h h' hr hc hs).1];refine⟨h.mem.2 ⟨c,hc,_,hm,I⟩,?_,?_⟩
 ·show c.dim+onesB (eE n s) - 1=c.dim+onesB s - 1;rw[hf.2.2.2.1]
 ·show ii n (bId n (ixB L c.id) (eE n s))=ii n (bId n (ixB L c.id) s);rw[h.deg hc hm,h'.deg hc hs,hf.2.2.2.1]
theorem zC {z w:Cl}(hz:z∈aa (aM L f' n))(hw:w∈aa (aM L f' n)):gr z w=pL (yO n z) * (gr (lL (aa (aM L f n)) n z) (lL (aa (aM L f n)) n w) * pL (yO n w)):=by
 obtain ⟨d,hd,u,hu,rfl⟩:=h'.mem.1 hz;obtain ⟨e,he,t,ht,rfl⟩:=h'.mem.1 hw;obtain ⟨m1,s1⟩:=lE h h' hr hd hu;obtain ⟨m2,s2⟩:=lE h h' hr he ht;have hu2:=(h'.s16 hd hu).1;have ht2:=(h'.s16 he ht).1;have fu:=dx h.n4 hu2;have ft:=dx h.n4 ht2;rw[m1,m2,s1,s2,h'.ent hd hu he ht,h.ent hd (li h h' hr hd hu) he (li h h' hr he ht),Int.add_mul,Int.mul_add];have hiff:eE n t=eE n u↔t=u:=⟨fun k=>by rw[← ft.2.1,k,fu.2.1],fun k=>by rw[k]⟩;congr 1
 ·by_cases e1:t=u
  ·subst e1;rw[zf4 rfl,zf4 rfl,Int.mul_comm (gr d e),← Int.mul_assoc,rK,Int.one_mul]
  ·rw[zf3 e1,zf3 fun k=>e1 (hiff.1 k),Int.zero_mul,Int.mul_zero]
 ·by_cases e1:e=d
  ·subst e1;rw[zf4 rfl,zf4 rfl,Bg h.n4 hu2 ht2 e.dim];have key:∀ a b x:Int,a * a=1→b * b=1→x=a * (a * (x * b) * b):=fun a b x h1 h2=>by
    rw[Int.mul_assoc a (x * b) b,Int.mul_assoc x b b,h2,Int.mul_one,← Int.mul_assoc,h1,Int.one_mul]
   exact key _ _ _ (rK u) (rK t)
  ·rw[zf3 e1,zf3 e1,Int.zero_mul,Int.mul_zero]
theorem wC {p:Int}(hp:Fld p)(a d low d':Int):rkP p (gF n (aa (aM L f' n)) a d) (kQ n (aa (aM L f' n)) low d')≤rkP p (gF n (aa (aM L f n)) a d) (kQ n (aa (aM L f n)) low d'):=by
 refine B9 hp (lL (aa (aM L f n)) n) (lL (aa (aM L f n)) n) (fun z=>pL (yO n z)) (fun z=>pL (yO n z)) (fun z hz=>?_) (fun z hz=>?_) fun z hz w hw=>?_
 ·obtain ⟨h1,h2,h3⟩:=gx.1 hz;obtain ⟨k1,k2,k3⟩:=oW h h' hr h1;exact gx.2 ⟨k1,by rw[k2]; exact h2,by rw[k3]; exact h3⟩
 ·obtain ⟨h1,h2,h3⟩:=oV.1 hz;obtain ⟨k1,k2,k3⟩:=oW h h' hr h1;exact oV.2 ⟨k1,by rw[k2]; exact h2,by rw[k3]; exact h3⟩
 ·exact Eqm.of (zC h h' hr (gx.1 hz).1 (oV.1 hw).1)
theorem tK (a d:Int):(gF n (aa (aM L f' n)) a d).length≤(gF n (aa (aM L f n)) a d).length:=by
 have hn:((gF n (aa (aM L f' n)) a d).map fun z=>(lL (aa (aM L f n)) n z).id).Nodup:=by
  rw[List.Nodup,zj4];have h1:(gF n (aa (aM L f' n)) a d).Pairwise fun a b=>a.id<b.id:=h'.right.asc.filter _;refine List.Pairwise.imp_of_mem ?_ h1;intro z w hz hw hlt k;obtain ⟨c,hc,s,hs,rfl⟩:=h'.mem.1 (gx.1 hz).1;obtain ⟨e,he,t,ht,rfl⟩:=h'.mem.1 (gx.1 hw).1;rw[(lE h h' hr hc hs).1,(lE h h' hr he ht).1] at k;have hs2:=(h'.s16 hc hs).1;have ht2:=(h'.s16 he ht).1;have fs:=dx h.n4 hs2;have ft:=dx h.n4 ht2;have k:bId n (ixB L c.id) (eE n s)=bId n (ixB L e.id) (eE n t):=k;obtain ⟨k1,k2⟩:=ew fs.1 ft.1 k;have k3:s=t:=by rw[← fs.2.1,k2,ft.2.1]
  have hlt:bId n (ixB L c.id) s<bId n (ixB L e.id) t:=hlt;rw[k1,k3] at hlt;omega
 have:=jK (m:=(gF n (aa (aM L f n)) a d).map Cl.id) hn fun x hx=>by
  obtain ⟨z,hz,rfl⟩:=ze5.1 hx;obtain ⟨h1,h2,h3⟩:=gx.1 hz;obtain ⟨k1,k2,k3⟩:=oW h h' hr h1;exact ze5.2 ⟨_,gx.2 ⟨k1,by rw[k2]; exact h2,by rw[k3]; exact h3⟩,I⟩
 rwa [zd9,zd9] at this
end
theorem xK {L:List Cl}{f f':Int→Nat}{n:Nat}(h:Cov L f n)(h':Cov L f' n)(hr:∀ c∈L,f' c.id=eE n (f c.id)){p:Int}(hp:Fld p)(a low d:Int) :
  eF (rkP p) n (aa (aM L f' n)) a low d=eF (rkP p) n (aa (aM L f n)) a low d:=by
 have hr':∀ c∈L,f c.id=eE n (f' c.id):=fun c hc=>by rw[hr c hc,(dx h.n4 (h.lt c hc)).2.1]
 have l1:=tK h h' hr a d;have l2:=tK h' h hr' a d;have r1:=wC h h' hr hp a d low (d - 1);have r2:=wC h' h hr' hp a d low (d - 1);unfold eF;omega
theorem uZ {L:List Cl}{f f':Int→Nat}{n:Nat}(h:Cov L f n)(h':Cov L f' n)(hr:∀ c∈L,f' c.id=eE n (f c.id)){p:Int}(hp:Fld p)(D:Nat) :
  gf (rkP p) n (aa (aM L f' n)) D=gf (rkP p) n (aa (aM L f n)) D:=by
 unfold gf vL;refine zc4 fun r _=>zc4 fun a _=>zc4 fun b _=>?_;unfold uu ph;simp only[xK h h' hr hp]
theorem B8 {l:List Cl}(h:Rt l):Dif l:=by
 refine⟨?_,fun c hc=>?_⟩
 ·rw[List.Nodup,zj4];exact h.asc.imp fun h=>by omega
 ·rw[List.Nodup,zj4];exact (h.form c hc).asc.imp fun h=>by omega
theorem lc {l m:List Cl}(h:Rt l)(hs:ShL l m):aa m=l:=by
 rw[← yf hs (B8 h),h.canon]
theorem pE {l m:List Cl}(h:Rt l)(hs:ShL l m):ae m=l:=by
 rw[a7 (by rw[lc h hs]; exact h.asc),lc h hs]
theorem y7 {l m:List Cl}(h:Rt l)(hs:ShL l m):aY m=(0,0):=by
 have hc:=lc h hs;have hf:=h.few;refine o6 (by rw[← ak m,hc]; exact hf) ?_ ?_ ?_ ?_ <;> rw[hc]
 ·exact h.pos
 ·exact h.asc
 ·exact fun x hx=>(h.form x hx).ok
 ·exact h.around
def kH (t:List Int):List Int:=t.reverse.flatMap fun x=>[x,x]
theorem ox (t:List Int)(x:Int):x∈kH t↔x∈t:=by
 unfold kH;rw[List.mem_flatMap];constructor
 ·rintro ⟨y,hy,hx⟩;have hx:x=y:=by simpa using hx
  subst hx;exact List.mem_reverse.1 hy
 ·exact fun h=>⟨x,List.mem_reverse.2 h,by simp⟩
theorem BB (t:List Int):(kH t).length=2 * t.length:=by
 have key:∀ l:List Int,(l.flatMap fun x=>[x,x]).length=2 * l.length:=fun l=>by
  induction l with
  | nil=>rfl
  | cons a l ih=>rw[zg8,zd8,ih,ze2,ze2,ze2,zb9]; omega
 unfold kH;rw[key,List.length_reverse]
theorem zQ (L:List Cl)(t:List Int)(x:Int):(cY L (kH t)).contains x=(cY L t).contains x:=by
 rw[Bool.eq_iff_iff,List.contains_iff_mem,List.contains_iff_mem,ir,ir];constructor
 ·rintro ⟨i,hi,hr⟩;exact⟨i,(ox t i).1 hi,hr⟩
 ·rintro ⟨i,hi,hr⟩;exact⟨i,(ox t i).2 hi,hr⟩
theorem oe (L:List Cl)(id:Int):∀ (T:List (List Int)) (k:Nat),tlB L k (T.map kH) id=tlB L k T id
 | [],_=>rfl
 | t::T,k=>by
  rw[zf7];unfold tlB;rw[zQ,oe L id T (k+1)]
theorem rD (L:List Cl)(id:Int):∀ (T:List (List Int)) (k:Nat),(tlB L 0 T id).testBit k=match T[k]? with
  | some t=>(cY L t).contains id
  | none=>false
 | [],k=>by simp[tlB]
 | t::T,0=>by
  rw[k8,Nat.testBit_zero];show _=(cY L t).contains id;cases hc:(cY L t).contains id
  ·rw[zf3 (by simp)];exact zf1 oM
  ·rw[zf4 rfl];exact zf2 oM
 | t::T,k+1=>by
  rw[k8,Nat.testBit_succ];have:((if (cY L t).contains id=true then 1 else 0)+2 * tlB L 0 T id) / 2=tlB L 0 T id:=by split <;> omega
  rw[this,rD L id T k];rfl
theorem AO (L:List Cl)(id:Int){T:List (List Int)}(hT:T.length≤4):tlB L 0 T.reverse id=eE T.length (tlB L 0 T id):=by
 have h1:=ia L id T;have h2:=ia L id T.reverse;rw[List.length_reverse] at h2;obtain ⟨f1,-,-,-,f5⟩:=dx hT h1;refine Nat.eq_of_testBit_eq fun k=>?_;by_cases hk:k<T.length
 ·rw[f5 k hk,rD,rD,List.getElem?_reverse hk]
 ·have hp:2 ^ T.length≤2 ^ k:=Nat.pow_le_pow_right dC oM;rw[Nat.testBit_lt_two_pow oM,Nat.testBit_lt_two_pow oM]
def m5 (T:List (List Int)):List (List Int):=(T.map kH).reverse
theorem gw (T:List (List Int)):(m5 T).length=T.length:=by unfold m5; rw[List.length_reverse,zd9]
theorem te (L:List Cl)(id:Int){T:List (List Int)}(hT:T.length≤4):tlB L 0 (m5 T) id=eE T.length (tlB L 0 T id):=by
 unfold m5;rw[AO L id (by rw[zd9]; exact hT),zd9,oe]
theorem qg {l m:List Cl}(h:Sm3 l){T:List (List Int)}(hT:TOk l T)(hs:ShL l m){T':List (List Int)}(hlen:T'.length=T.length)(hm:∀ t∈T',∀ x∈t,∃ u∈T,x∈u)(hz:∀ c∈l,tlB l 0 T' c.id≠0):dI m T'=0:=by
 have h4:=hT.few;have hf:(T'.any fun t=>t.any fun id=>(aO l id).isNone)=false:=by
  rw[zj5];intro t ht;rw[zi8,zj5];intro x hx;obtain ⟨u,hu,hxu⟩:=hm t ht x hx;have:=hT.mem u hu x hxu;unfold fI at this;obtain ⟨c,hc,rfl⟩:=ze5.1 this;rw[h.rt.tab] at hc;rw[h.rt.find (zg7.1 hc).1];simp
 have hz2:(l.any fun c=>decide (tlB l 0 T' c.id=0))=false:=by
  rw[zj5];intro c hc;simpa using hz c hc
 unfold dI;rw[y7 h.rt hs,zf3 (by simp),zf3 oM,pE h.rt hs,hf,zf3 (by simp),hz2,zf3 (by simp)]
theorem Am {l:List Cl}(h:Sm3 l){T:List (List Int)}(hT:TOk l T):∀ c∈l,tlB l 0 T c.id≠0:=fun c hc=>by
 have hd:=(h.rt.form c hc).dim;obtain ⟨t,ht,hm⟩:=wj h.rt hT (9 - c.dim).toNat c hc oM;exact rC l c.id T 0 ⟨t,ht,hm⟩
theorem zu {l m:List Cl}(h:Sm3 l){T:List (List Int)}(hT:TOk l T)(hs:ShL l m):dI m (T.map kH)=0 :=
 qg h hT hs (zd9 _) (fun t ht x hx=>by
  obtain ⟨u,hu,rfl⟩:=ze5.1 ht;exact⟨u,hu,(ox u x).1 hx⟩) fun c hc=>by rw[oe]; exact Am h hT c hc
theorem zt {l m:List Cl}(h:Sm3 l){T:List (List Int)}(hT:TOk l T)(hs:ShL l m):dI m (m5 T)=0 :=
 qg h hT hs (gw T) (fun t ht x hx=>by
  obtain ⟨u,hu,rfl⟩:=ze5.1 (List.mem_reverse.1 ht);exact⟨u,hu,(ox u x).1 hx⟩) fun c hc=>by
   rw[te l c.id hT.few];have:=(dx hT.few (ia l c.id T)).2.2.1 (Nat.pos_of_ne_zero (Am h hT c hc));omega
theorem yh (L:List Cl)(T:List (List Int)):ct L (T.map kH)=ct L T:=by
 unfold ct ke;rw[zd9];simp only[oe]
theorem vx {l m:List Cl}(h:Sm3 l){T:List (List Int)}(hT:TOk l T)(hs:ShL l m):dB m (T.map kH)=dB l T:=by
 unfold dB;rw[zu h hT hs,td h.rt hT,pE h.rt hs,h.rt.tab,yh]
theorem wy {l:List Cl}(h:Sm3 l){T:List (List Int)}(hT:TOk l T):Cov l (tlB l 0 (m5 T)) T.length:=by
 have:=mh (T:=m5 T) h.rt (by rw[gw]; exact hT.few) (by have:=h.few; omega) (fun c hc=>by have:=h.dims c hc; omega) fun c hc=>by have:=lX h.rt hc; have:=h.few; omega
 rwa [gw] at this
theorem tB (l:List Cl)(T:List (List Int)):ct l (m5 T)=aa (aM l (tlB l 0 (m5 T)) T.length):=by
 unfold ct;rw[rM,gw]
theorem yg {l:List Cl}(h:Sm3 l){T T':List (List Int)}(hT:TOk l T)(hlen:T'.length=T.length):(ct l T').length≤200:=by
 have h1:(ct l T').length=(ke l T').length:=ak _;have h4:=hT.few;have h2:(ke l T').length≤l.zipIdx.length * (2 ^ T'.length - 1):=o4 fun q _=>by
  rw[zd9];exact tj _ _ oM (ia l q.1.id T')
 rw[List.length_zipIdx,hlen] at h2;have h3:=h.few;have h5:=hT.few3;have h6:=hT.pos;rw[h1];refine zj8 h2 ?_;by_cases e:l.length>12
 ·have h7:=h5 e
  rcases (by omega:T.length=1∨T.length=2∨T.length=3) with k | k | k <;> rw[k] <;> omega
 ·rcases (by omega:T.length=1∨T.length=2∨T.length=3∨T.length=4) with k | k | k | k <;> rw[k] <;> omega
theorem nM {l m:List Cl}(h:Sm3 l){T:List (List Int)}(hT:TOk l T)(hs:ShL l m){p:Int}(hp:fv p=true):cD m (m5 T) p=0:=by
 have hr:Rt (ct l (m5 T)):=by rw[tB]; exact (wy h hT).right
 have hm:nh (ct l (m5 T))=false:=rJ fun d=>zj8 (zc1 _ _) (yg h hT (gw T));unfold cD;rw[zf3 (by rw[hp]; simp),zt h hT hs,zf3 (by simp),pE h.rt hs,hr.check,hm,zf3 (by simp)]
theorem xE {l m:List Cl}(h:Sm3 l){T:List (List Int)}(hT:TOk l T)(hs:ShL l m){p:Int}(hp:fv p=true):cj m (m5 T) p=cj l T p:=by
 have e1:=(jJ (nM h hT hs hp)).eq;have ho:=jJ (pR h hT hp);have e3:dimN m=dimN l:=by unfold dimN; rw[pE h.rt hs,h.rt.tab]
 rw[e1,ho.eq,e3,gw,pE h.rt hs,h.rt.tab,tB,uZ (AY h hT) (wy h hT) (fun c _=>te l c.id hT.few) ho.fp.fld];rfl
theorem B7 {l m:List Cl}(h:Sm3 l)(hs:ShL l m):∀ c∈m,gD c.id:=fun c hc=>by
 have h1:au c∈aa m:=ze5.2 ⟨c,(cq _ _).2 hc,rfl⟩;rw[lc h.rt hs] at h1;exact (show gD (au c).id from h.ids _ h1)
theorem sa (E:World)(g:PH)(s:Own)(v u:Value)(l:List Cl)(hv:aq g v l)(hu:aq g u l)(hf:c4 l) :
  Ctr Tryz.prog E 19 #[.agg #[v],.agg #[u]] g s (fun r g' s'=>r=vb true∧g=g'∧s=s'):=by
 obtain ⟨rs,hrs,hallr⟩:=hv;obtain ⟨qs,hqs,hallq⟩:=hu;have hlr:=hallr.length;have hlq:=hallq.length;obtain ⟨rp,rc,rfl⟩:=za2 hrs;obtain ⟨qp,qc,rfl⟩:=za2 hqs;have hl:=hf.1;refine za9 (args:=[.agg #[.slice rp rs.length rc],.agg #[.slice qp qs.length qc]]) func19 I ntmps19 (bE I) ?_;refine rZ (bW (bO I) fun b2=>?_);refine bW (bO I) fun b3=>?_;refine aT I (sQ (rZ (lU (fA dg I cw I) (lK (qL (v:=.slice rp rs.length rc) dV I (cO 1 I I)) (lU (eN aJ I) (lU (fA dg I cw I) (lK (qL (v:=.slice qp qs.length qc) dV I (cO 0 I I)) (lU (eN aJ I) (lU (SU.eq (v':=vb false) (nQ I I) (zd5 vb (zf1 oM))) (tZ (cF I (kP (tN (sQ (rZ (aT I (bK ?_)))))))))))))))));refine oP (ι:=Nat) (fun k=>[(2,pp b2 0),(3,pp b3 0),(5,vi k)]) (fun _=>g) (fun _=>pt b3 (.cells #[.slice qp qs.length qc] 30 (0,0))::pt b2 (.cells #[.slice rp rs.length rc] 30 (0,0))::s) (fun k=>k≤rs.length) (fun k=>rs.length - k) 0 sB I I (ze9 _) ?_;rintro k hk;refine sQ (sW I (lU (fA dg I cw I) (lK (qL (v:=.slice rp rs.length rc) dV I (cO 1 I I)) (lU (eN aJ I) (yL I (tZ ?_))))));refine iP I (fun hlt=>?_) (fun hlt=>?_)
 ·have hkr:k<rs.length:=oM;have hkq:k<qs.length:=oM;have hkl:k<l.length:=oM;have hb1:=za4 hrs oM;have hb2:=za4 hqs oM;have hgr:rs[((k:Nat):Int).toNat]?=some rs[k]:=gE hkr;have hgq:qs[((k:Nat):Int).toNat]?=some qs[k]:=gE hkq;have hR:=hallr.get (gE hkl) (gE hkr);have hQ:=hallq.get (gE hkl) (gE hkq);have hxl:=hf.2 _ (gM hkl);generalize l[k]=x at *;generalize rs[k]=r at *;generalize qs[k]=q at *;obtain ⟨r1,r2,⟨r3,r4,r5⟩⟩:=r;obtain ⟨q1,q2,⟨q3,q4,q5⟩⟩:=q;refine kP (tN (sQ (bK (sQ ?_))));refine dW [] [(0,2),(1,1),(2,2),(3,2),(4,1),(5,2),(6,1),(7,2),(8,2),(9,1),(10,0),(11,2)] zd6 kR ?_;refine pU I (fA dg I cw I) (pK I (qL (v:=.slice rp rs.length rc) dV I (cO 1 I I)) (yM I (pU I (iA aJ az I I hb1 oM sL) (pK I (eA eL az I (za5 hrs) hgr) (pU I (fA dg I cw I) (pK I (qL (v:=.slice qp qs.length qc) dV I (cO 0 I I)) (yM I (pU I (iA aJ az I I hb2 oM sL) (pK I (eA eL az I (za5 hqs) hgq) (SP.o I (cL call46 I (px E g _ x x ⟨r1,r2,⟨r3,r4,r5⟩⟩ ⟨q1,q2,⟨q3,q4,q5⟩⟩ hR hQ hxl)) dC (.inr iR) ?_))))))))));rintro _ _ _ ⟨rfl,rfl,rfl⟩;rw[show decide (x=x)=true from zf2 rfl];refine pU I (SU.not I) (pN (tN (cF I (kP (bN (tN (rG (lM I (yD I (lA I (nL ?_)))))))))));exact gA (k+1) sB I I oM oM
 ·refine xI (tX (tX (bX (tN (rZ (aT I (rE (dR (s':=s) uR ?_))))))));exact za6 (.inl I) results19 I ⟨I,I,I⟩
theorem Cd {t:List Int}{k:Nat}(h:k<t.length):∃ x,t[((t.length:Int) - 1 - k).toNat]?=some x∧t.reverse.take (k+1)=t.reverse.take k++[x]:=by
 have hk:k<t.reverse.length:=by rw[List.length_reverse]; exact h
 refine⟨t.reverse[k],?_,tS hk⟩;rw[← gE hk,List.getElem?_reverse h,show ((t.length:Int) - 1 - k).toNat=t.length - 1 - k by omega]
theorem BC (q:List Int):(q.flatMap fun x=>[x,x]).length=2 * q.length:=by
 induction q with
 | nil=>rfl
 | cons a l ih=>rw[zg8,zd8,ih,ze2,ze2,ze2,zb9]; omega
theorem m9 (E:World)(hE:E.drawn=0)(g:PH)(s:Own)(v nv:Value)(kd y:Int)(ls:List (List Int))(ns:List Int)(z:Int)(hv:aK g v ls)(hn:bZ g nv ns) :
  Ctr Tryz.prog E 4 #[.agg #[vi kd,v,vi y],nv,vi z] g s (fun r g' s'=>r=vb true∧s=s'∧Le g g'):=by
 obtain ⟨p,n,c,rfl⟩:∃ p n c,v = .slice p n c:=by
  obtain ⟨rs0,hrs0,_⟩:=hv;obtain ⟨p,c,rfl⟩:=za2 hrs0;exact⟨_,_,_,I⟩
 have hsm:=xk kd ls y;have hpr:fv 3=true:=by decide
 generalize hMd:gX kd ls y=M at *;have hMf:c4 M:=⟨by have:=hsm.few; omega,fun c hc=>by have:=oY (hsm.rt.form c hc); omega⟩;have hMt:(ae M).length≤1000:=by rw[hsm.rt.tab]; have:=hsm.few; omega
 refine za9 (args:=[.agg #[vi kd,.slice p n c,vi y],nv,vi z]) func4 I ntmps4 (bE I) ?_;refine rZ (bW (bO I) fun b3=>?_);refine aT I (rZ (lW (cL call7 I (pu E hE g _)) ?_));rintro _ g1 _ ⟨rfl,rfl,hle1⟩;have hv1:=hv.mono hle1;refine aT I (rZ (lK (qV 0 isAgg24 sizeOf24 I I I) (lW (cL call8 I (uF E g1 _ _ kd y ls hv1)) ?_)));rintro _ g2 _ ⟨rfl,hle2,u2,rfl,hu2⟩;rw[hMd] at hu2;obtain ⟨q2,d2,rfl⟩:=hu2.form;refine bW (aL zk3) fun b8=>?_;refine oZ (sK 0 aA I I I I I ⟨I,trivial⟩) (tZ (rZ (lK (qV 0 bD aA I I I) (lM I (lU (SU.quo I I dC) (lM I (lW (cL call9 I (uz E g2 _ _ _ M (IntKind.i64.wrap (z.tdiv 3)) ns hu2 hMf hMt (za3 hn (hle1.trans hle2)))) ?_)))))));rintro tv g3 _ ⟨rfl,hle3,T,hT,hok⟩;have hu3:=hu2.mono hle3;refine aT I (rZ (lK (qV 0 bD aA I I I) (lM I (lW (cL call18 I (pn E g3 _ _ M z hu3 hMf)) ?_))));rintro _ g4 _ ⟨rfl,hle4,u4,m,rfl,hu4,hsh⟩;obtain ⟨q4,d4,rfl⟩:=hu4.form;refine bW (aL zk3) fun b10=>?_;refine oZ (sK 0 aA I I I I I ⟨I,trivial⟩) (tZ (rZ (aT I (rZ (aT I (sQ (rZ (aT I (bK ?_)))))))));have hmf:=hsh.fits hMf;have hmi:=B7 hsm hsh;have hTn:=hok.few;have hTl:T.length<1099511627776:=oM;have hTs:∀ t∈T,t.length<1099511627776 / 4:=fun t ht=>by
  have h1:=hok.len t ht;have h2:(fI M).length≤(ae M).length:=by unfold fI; rw[zd9]; exact zc1 _ _
  omega
 have hu3:=hu3.mono hle4;have hT4:=hT.mono hle4;obtain ⟨ts,hts,hallt⟩:=id hT4;obtain ⟨tp,tc,rfl⟩:=za2 hts;have htl:=hallt.length;refine zb4 25 1 ?_;refine oP (ι:=Nat×PH×Value×List Sv×Value×List Sv) (fun i=>[(7,vb true),(8,pp b8 0),(9,.slice tp ts.length tc),(10,pp b10 0),(11,i.2.2.1),(12,i.2.2.2.2.1),(13,vi i.1)]) (fun i=>i.2.1) (fun i=>rowA aU 25 i.2.2.1 i.2.2.2.1::pt b10 (.cells #[.slice q4 m.length d4] 30 (0,0))::pt b8 (.cells #[.slice q2 M.length d2] 30 (0,0))::pt b3 (.cells #[vi kd,.slice p n c,vi y] 24 (0,0))::s) (fun i=>i.1≤T.length∧Le g4 i.2.1∧aw (br i.2.1) ((T.map kH).take i.1) i.2.2.2.1∧SlA aU i.2.1 i.2.2.2.2.1 i.2.2.2.2.2∧aw (br i.2.1) ((T.map kH).take i.1).reverse i.2.2.2.2.2) (fun i=>T.length - i.1) (0,g4,.slice none 0 0,[],.slice none 0 0,[]) sB I I ⟨ze9 _,zb7 _,trivial,zb8 _ _,trivial⟩ ?_;rintro ⟨i,g5,v11,s11,v12,s12⟩ ⟨hi,hle5,hac1,hs12,hac2⟩;dsimp only at hi hle5 hac1 hs12 hac2 ⊢;have hl1:=hac1.length;have hl2:=hac2.length;rw[List.length_reverse] at hl2;rw[zd7,zd9] at hl1 hl2;refine sQ (sW I (lM I (lU (eN bL I) (yL I (tZ ?_)))));refine iP I (fun hlt=>?_) (fun hlt=>?_)
 ·have hiT:i<T.length:=oM;have hit:i<ts.length:=oM;have hgt:ts[((i:Nat):Int).toNat]?=some ts[i]:=gE hit;have hbt:=za4 hts oM;have hR:=hallt.get (gE hiT) (gE hit);have htm:=hTs _ (gM hiT);have hsucc:(T.map kH).take (i+1)=(T.map kH).take i++[kH T[i]]:=by
   rw[tS (by rw[zd9]; exact hiT),List.getElem_map]
  generalize T[i]=t at *;generalize ts[i]=r at *;obtain ⟨rp,rn,rc⟩:=r;have hR:bZ g4 (.slice rp rn rc) t:=hR;have hrn:=(SlA.cap hR).1;subst hrn;refine kP (tN (sQ (bK (rZ (aT I (sQ (sW I (lM I (lU (iA bL cg I I hbt oM sL) (lK (eB (u:=.slice rp t.length rc) dG I (za5 (za3 hts hle5)) hgt I) (lU (eN aj I) (lU (sU I I oM) (aT I (bK (zb4 3 1 ?_)))))))))))))));refine oP (ι:=Nat×PH×Value) (fun k=>[(7,vb true),(8,pp b8 0),(9,.slice tp ts.length tc),(10,pp b10 0),(11,v11),(12,v12),(13,vi i),(14,k.2.2),(15,vi ((t.length:Int) - 1 - k.1))]) (fun k=>k.2.1) (fun k=>rowA encInt 3 k.2.2 ((t.reverse.take k.1).flatMap fun x=>[x,x])::rowA aU 25 v11 s11::pt b10 (.cells #[.slice q4 m.length d4] 30 (0,0))::pt b8 (.cells #[.slice q2 M.length d2] 30 (0,0))::pt b3 (.cells #[vi kd,.slice p n c,vi y] 24 (0,0))::s) (fun k=>k.1≤t.length∧Le g5 k.2.1) (fun k=>t.length - k.1) (0,g5,.slice none 0 0) ⟨I,I,I,I,I,I,I,I,by simp only[Int.natCast_zero,Int.sub_zero]; rfl,trivial⟩ rfl rfl ⟨ze9 _,zb7 _⟩ ?_;rintro ⟨k,g6,v14⟩ ⟨hk,hle6⟩;dsimp only at hk hle6 ⊢;have hal:=BC (t.reverse.take k);rw[zd7,List.length_reverse] at hal;refine sQ (sW I (lU (gQ I I) (tZ ?_)));refine iP I (fun hge=>?_) (fun hge=>?_)
  ·have hkt:k<t.length:=oM;obtain ⟨x,hgx,hsx⟩:=Cd hkt;have hbr:=za4 hR oM;have hR6:=za3 hR (hle5.trans hle6);have hx2:([x,x]:List Int).length=2:=rfl;refine kP (tN (sQ (bK ?_)));refine dW [16] [(0,2),(1,2),(2,2),(3,2),(4,1),(5,2),(6,2),(7,1),(8,2),(9,2),(10,2),(11,1),(12,2),(13,2),(14,1),(15,0),(16,0),(17,2)] zd6 kR ?_;refine yM I (yM I (yM I (pU I (iA bL cg I I hbt oM sL) (pK I (eB (u:=.slice rp t.length rc) dG I (za5 (za3 hts (hle5.trans hle6))) hgt I) (yM I (pU I (iA aj zT3 I I hbr oM (show ((t.length:Int) - 1 - k)<((t.length:Nat):Int) by omega)) ?_))))));refine pK I (eB iT3 I (za5 hR6) hgx I) (yM I (yM I (pU I (iA bL cg I I hbt oM sL) (pK I (eB (u:=.slice rp t.length rc) dG I (za5 (za3 hts (hle5.trans hle6))) hgt I) (yM I (pU I (iA aj zT3 I I hbr oM (show ((t.length:Int) - 1 - k)<((t.length:Nat):Int) by omega)) ?_))))));refine pK I (eB iT3 I (za5 hR6) hgx I) (SP.o I (bS sty25 I I I (ab sB) dC) dC (.inr iR) ?_);rintro _ _ _ ⟨b62,rfl,rfl,rfl⟩;refine SP.freeze fun g7 hle7 hb62=>?_;have h62:SlA encInt g7 (.slice (some ⟨b62,0,none⟩) 2 2) [x,x]:=SlA.lit hb62 rfl rfl;refine SP.o I (aQ (e:=encInt) (l:=(t.reverse.take k).flatMap fun x=>[x,x]) (m:=[x,x]) 0 sty25 I I I h62 oM oM) dC (.inl dC) ?_;rintro v63 _ _ ⟨rfl,rfl⟩;refine pU I (aS I) (pN (bN (tN (rG (lM I (lU (sU I I oM) (lA I (nL ?_))))))));exact gA (k+1,g7,v63) ⟨I,I,I,I,I,I,I,I,by dsimp only; exact zd5 (fun x=>some (vi x)) oM,trivial⟩ I (by dsimp only; rw[hsx,List.flatMap_append]; rfl) ⟨by dsimp only; omega,hle6.trans hle7⟩ (by dsimp only; omega)
  ·have hke:k=t.length:=oM;subst hke;rw[show t.reverse.take t.length=t.reverse from tL (by rw[List.length_reverse]; exact lR _)] at hal ⊢;refine fS fun g7 hle7 hs7=>?_;obtain ⟨q14,d14,rfl⟩:=Sl.form hs7;have hD:bZ g7 (.slice q14 (t.reverse.flatMap fun x=>[x,x]).length d14) (kH t):=hs7;have hl12:=za3 hs12 (hle6.trans hle7);have h1l:([(⟨q14,(t.reverse.flatMap fun x=>[x,x]).length,d14⟩:Sv)]).length=1:=rfl;refine xI (tX (tX (bX (tN (sW I (lM I (lW (bS sty22 I I I (ab ⟨I,trivial⟩) dC) ?_)))))));rintro _ _ _ ⟨b66,rfl,rfl,rfl⟩;refine lW (aP (e:=aU) (l:=s11) 0 ⟨q14,(t.reverse.flatMap fun x=>[x,x]).length,d14⟩ sty22 I I I I I oM oM) ?_;rintro v67 _ _ ⟨rfl,rfl⟩;refine aT I (rG (lM I (lW (bS sty22 I I I (ab ⟨I,trivial⟩) dC) ?_)));rintro _ _ _ ⟨b69,rfl,rfl,rfl⟩;refine SL.to (fun w hw=>At.litRow (e:=aU) (l:=[⟨q14,(t.reverse.flatMap fun x=>[x,x]).length,d14⟩]) (n:=0) hw I I dC) ?_;refine lM I (lW (aQ (e:=aU) (l:=[⟨q14,(t.reverse.flatMap fun x=>[x,x]).length,d14⟩]) (m:=s12) 0 sty22 I I I hl12 oM oM) ?_);rintro v71 _ _ ⟨rfl,rfl⟩;refine lA I (nL (bN (tN (rG (lM I (yD I (lA I (nL (fT fun g8 hle8 hs8=>?_)))))))));exact gA (i+1,g8,v67,s11++[⟨q14,(t.reverse.flatMap fun x=>[x,x]).length,d14⟩],v71,⟨q14,(t.reverse.flatMap fun x=>[x,x]).length,d14⟩::s12) sB I I ⟨by dsimp only; omega,hle5.trans (hle6.trans (hle7.trans hle8)),by
    dsimp only;rw[hsucc];exact (hac1.mono fun _ _=>br.mono (hle6.trans (hle7.trans hle8))).append ⟨za3 hD hle8,trivial⟩,hs8,by
    dsimp only;rw[hsucc,List.reverse_append];exact⟨za3 hD hle8,hac2.mono fun _ _=>br.mono (hle6.trans (hle7.trans hle8))⟩⟩ (by dsimp only; omega)
 ·have hie:i=T.length:=oM;subst hie;rw[tL (by rw[zd9]; exact lR _)] at hac1 hac2;refine fS fun g6 hle6 hs6=>?_;obtain ⟨q11,d11,rfl⟩:=Sl.form hs6;obtain ⟨q12,d12,rfl⟩:=za2 hs12;have hD1:aK g6 (.slice q11 s11.length d11) (T.map kH):=⟨s11,hs6,hac1.mono fun _ _=>br.mono hle6⟩;have hD2:aK g6 (.slice q12 s12.length d12) (m5 T):=⟨s12,za3 hs12 hle6,hac2.mono fun _ _=>br.mono hle6⟩;have hT6:=hT4.mono (hle5.trans hle6);have hu3:=hu3.mono (hle5.trans hle6);have hu4:=hu4.mono (hle5.trans hle6);have hP0:=pR hsm hok hpr;have hP1:=nM hsm hok hsh hpr;have hPe:=xE hsm hok hsh hpr;have hbe:=vx hsm hok hsh;have hpf:=qe (l:=M) (T:=T) (p:=3);have hpb:=tE hP0;have hd9:=(jJ hP0).dims;have hbf:c4 (dB M T):=by
   unfold dB;split
   ·exact⟨by simp,by simp⟩
   ·rw[hsm.rt.tab];exact cd (jZ hsm.rt oM)
  have hTs0:∀ t∈T,t.length<1099511627776:=fun t ht=>by have:=hTs t ht; omega
  have h1l:(T.map kH).length<1099511627776:=by rw[zd9]; exact hTl
  have h1s:∀ t∈T.map kH,t.length<1099511627776:=fun t ht=>by
   obtain ⟨u,hu,rfl⟩:=ze5.1 ht;rw[BB];have:=hTs u hu;omega
  have h2l:(m5 T).length<1099511627776:=by rw[gw]; exact hTl
  have h2s:∀ t∈m5 T,t.length<1099511627776:=fun t ht=>h1s t (List.mem_reverse.1 ht);have hlb:Le g g6:=hle1.trans (hle2.trans (hle3.trans (hle4.trans (hle5.trans hle6))));refine xI (tX (tX (bX (tN (rZ (lK (qV 1 bD aA I I I) (lM I (lW (cL call12 I (iZ E hE g6 _ _ _ M T 3 hu3 hMf hsm.ids hT6 hTl hTs0 dC dC)) ?_))))))));rintro _ g7 _ ⟨rfl,hle7,u7,rfl,hPg7⟩;rw[hP0];have hu3:=hu3.mono hle7;have hu4:=hu4.mono hle7;have hD2:=hD2.mono hle7;refine lM I (yX I (yX I (lA I (aT I (rZ (lK (qV 0 bD aA I I I) (lM I (lW (cL call12 I (iZ E hE g7 _ _ _ m (m5 T) 3 hu4 hmf hmi hD2 h2l h2s dC dC)) ?_))))))));rintro _ g8 _ ⟨rfl,hle8,u8,rfl,hPg8⟩;rw[hP1];rw[hPe] at hPg8;have hu3:=hu3.mono hle8;have hu4:=hu4.mono hle8;have hT8:=hT6.mono (hle7.trans hle8);have hD1:=hD1.mono (hle7.trans hle8);have hPg7:=hPg7.mono hle8;generalize cj M T 3=P at *;refine lM I (yX I (yX I (lA I (aT I (sQ ?_)))));refine dW [] [(0,2),(1,2),(2,1),(3,2),(5,1),(6,2),(4,0),(7,0),(8,0),(9,2),(10,2),(11,2),(12,2),(13,2),(14,2),(15,2),(16,2),(17,2),(18,2),(19,2),(20,2),(21,0),(22,2),(23,2)] zd6 kR ?_;refine yM I (yM I (SP.gq I (gT I I I dC) (qV 1 bD aA I I I) dC (yJ I (SP.gq I (gT I I I dC) (qV 0 bD aA I I I) dC (yJ I (SP.go I (gT I I I dC) (cL call20 I (jD E hE g8 _ _ _ M T hu3 hMf hsm.ids hT8 hTl hTs0)) dC (.inr (by rintro _ g9 _ ⟨rfl,hle9,u9,rfl,hB9⟩; exact⟨by assumption,(by exact .refl _)⟩)) ?_))))));rintro _ g9 _ ⟨rfl,hle9,u9,rfl,hB9⟩;refine SP.go rfl (gT rfl rfl rfl dC) (cL call20 rfl (jD E hE g9 _ _ _ m (T.map kH) (hu4.mono hle9) hmf hmi (hD1.mono hle9) h1l h1s)) dC (.inr (by rintro _ g10 _ ⟨rfl,hle10,u10,rfl,hB10⟩; exact⟨by exact Le.trans (by assumption) (by assumption),(by exact .refl _)⟩)) ?_;rintro _ g10 _ ⟨rfl,hle10,u10,rfl,hB10⟩;rw[hbe] at hB10;have hPg7:=hPg7.mono (hle9.trans hle10);have hPg8:=hPg8.mono (hle9.trans hle10);refine SP.go rfl (gT rfl rfl rfl dC) (cL call19 rfl (sa E g10 _ _ _ (dB M T) (hB9.mono hle10) hB10 hbf)) dC (.inr (by rintro _ _ _ ⟨rfl,rfl,rfl⟩; exact⟨by exact Le.trans (by assumption) (by assumption),(by exact .refl _)⟩)) ?_;rintro _ _ _ ⟨rfl,rfl,rfl⟩;refine pU I (wT I I) (yM I (yJ I (zb1 I (gT I I I dC) (eQ I I) dC (pU I (wT I I) (yM I (yJ I (zb1 I (gT I I I dC) (eQ I I) dC (pU I (wT I I) (yM I (yJ I (yJ I (SP.go I (gT I I I dC) (cL call16 I (jg E g10 _ _ _ P P hPg7 hPg8 oM (fun A hA=>⟨by have:=(hpb A hA).1; omega,fun x hx=>by have:=((hpb A hA).2 x hx).1; omega⟩) oM (fun A hA=>by have:=(hpb A hA).1; omega))) dC (.inr (by rintro _ _ _ ⟨rfl,rfl,rfl⟩; exact⟨by exact Le.trans (by assumption) (by assumption),(by exact .refl _)⟩)) ?_))))))))))));rintro _ _ _ ⟨rfl,rfl,rfl⟩;rw[show decide (P=P)=true from zf2 rfl];refine pU I (wT I I) (pU I (aS I) (pN (tN (rE (dR (s':=s) uR ?_)))));exact za6 (.inl I) results4 I ⟨I,I,hlb.trans (hle7.trans (hle8.trans (hle9.trans hle10)))⟩
end Go.Proofs.YtcfkpajlakidbaaGreat
namespace Go.Proofs.YtcfkpajlakidbaaGreat.tilesOrderDone
open _root_.Go.Proofs.Tryz _root_.Go.Proofs.YtcfkpajlakidbaaGreat.Tryz
open Go Go.Sy Go.Pl Go.Proofs Go.Proofs.YtcfkpajlakidbaaGreat
open Go.ChangeShapes Go.WideShapes Go.ChangeAt Go.RowKit
set_option linter.unusedVariables false
theorem own:ownKnob Tryz.prog.godebug=none:=by kernel_rfl
theorem laidOut:laidOutB Tryz.prog=true:=by kernel_rfl
set_option maxRecDepth 100000 in
theorem lifted (os:Os)(started:os.Started)(H:Type)(enc:TypeId×Value→H) :
  ReturnsInHanded {} Tryz.checked os 4 .any (Rows.tilesOrderSpec.pre6 enc Tryz.prog f4 Rows.tilesOrderRow.domain false) (Rows.tilesOrderSpec.post enc Tryz.prog f4 false true false false):=by
 refine returnsInHanded_of_change (C:=Tryz.checked) own started kR func4
  (ChangeSpec.witness6 (enc:=enc) (C:=Tryz.checked) false ⟨#[],#[.agg #[.int .i64 0,.slice none 0 0,.int .i64 0],.slice none 0 0,.int .i64 0],[]⟩ 8 kR kR kR kR) ?_
 intro W base args ds gs before hval0 hW hcnd _;have hval:∀ (j:Nat) t v,f4.params[j]?=some t→args[j]?=some v→Value.okWide Tryz.prog W .any base t v:=hval0;have hW':=hW;obtain ⟨p,q,hA0,hV,rfl,hfz,hnd⟩:=hW;have hA:DataW.TrodAll enc Tryz.prog W 0 (fun _=>true) true f4.params.toList args.toList ds p:=hA0;rw[params4] at hA hval;obtain ⟨v0,vs0,d0,ds0,p0,q0,hargs,rfl,rfl,h0,r0⟩:=trodAll_cons hA;obtain ⟨v1,vs1,d1,ds1,p1,q1,rfl,rfl,rfl,h1,r1⟩:=trodAll_cons r0;obtain ⟨v2,vs2,d2,ds2,p2,q2,rfl,rfl,rfl,h2,r2⟩:=trodAll_cons r1;obtain ⟨rfl,rfl,rfl⟩:=trodAll_nil r2;obtain rfl:args = #[v0,v1,v2]:=by cases args; simp_all
 obtain ⟨rfl,rfl⟩:=trodVars_none hV;have lt0:∀ x∈p0,x.block<W.heap.size:=by obtain ⟨m,hm⟩:=h0; exact DataW.trod_lt m _ _ _ hm
 have lt1:∀ x∈p1,x.block<W.heap.size:=by obtain ⟨m,hm⟩:=h1; exact DataW.trod_lt m _ _ _ hm
 have lt2:∀ x∈p2,x.block<W.heap.size:=by obtain ⟨m,hm⟩:=h2; exact DataW.trod_lt m _ _ _ hm
 obtain ⟨kd,y,u,ls,e0,hls⟩:=y6 (hval 0 24 v0 rfl rfl) h0;obtain ⟨a1,n1,c1,s1⟩:=okWide_slice aj (hval 1 25 v1 rfl rfl);obtain ⟨ns1,hn1⟩:=zI h1 (by rw[s1]; rfl);obtain ⟨n2,e2⟩:=okWide_int uT3 (hval 2 3 v2 rfl rfl);clear hA0 hval0;have walk:Calls Tryz.prog 4 #[v0,v1,v2] W fun e w'=>e = .returned (.bool true)∧Below W.heap.size W w':=by
  rw[e0,e2];refine (m9 (E0 W) I (s8 W) [] u _ kd y ls ns1 n2 hls hn1 W (z8 W)).mono ?_;rintro e w' ⟨v,g',s',rfl,hat,rfl,rfl,hle⟩;exact⟨I,Ab hat hle⟩
 refine walk.mono fun e W' ⟨he,bel⟩=>?_;subst he;exact⟨_,I,_,_,_,[],_,[],hW',trodAll_mk1 (shut_bool underlying4 _),(trodAll_cons_mk (Below.trod laidOut kR (zf6 kR) h0 bel lt0) (trodAll_cons_mk (Below.trod laidOut kR (zf6 kR) h1 bel lt1) (trodAll_cons_mk (Below.trod laidOut kR (zf6 kR) h2 bel lt2) trodAll_mk0))),I,bel.frame _,fun h=>by cases h⟩
theorem over:Rows.tilesOrderRow.holds Tryz.pinned (OpenSpec.ofChange Rows.tilesOrderSpec) :=
 OpenClaim.holds_of_wide 4 f4 rfl rfl rfl rfl rfl rfl rfl ⟨rfl,rfl,rfl,rfl,rfl⟩ rfl rfl rfl rfl rfl kR func4 kR
  (zf6 kR) (by unfold Func.isWrapper; first | (rw[zf4 (by decide +kernel)]; kernel_rfl) | (rw[zf3 (by decide +kernel)]; exact⟨I,I⟩))
  (fun os started H enc _=>lifted os started H enc)
theorem proved:Rows.TilesOrderSaid:=over
#print axioms proved
end Go.Proofs.YtcfkpajlakidbaaGreat.tilesOrderDone
