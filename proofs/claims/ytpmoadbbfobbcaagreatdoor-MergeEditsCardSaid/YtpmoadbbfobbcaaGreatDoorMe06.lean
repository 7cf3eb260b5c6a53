/- 6 -/
import Derived.Test.YtpmoadbbfobbcaaGreatDoorMe05
import Derived.Shelf.SlIterI.Sorted
set_option linter.unusedSimpArgs false
set_option linter.unusedVariables false
namespace Go.Proofs.YtpmoadbbfobbcaaGreatDoor
open _root_.Go.Proofs.Tryz _root_.Go.Proofs.YtpmoadbbfobbcaaGreatDoor.Tryz
open Go Go.Sy Go.Pl Go.Proofs Go.Shelf Go.Sort
set_option maxRecDepth 100000
def Tryz.keysA_ren:Ren :=
 {
  f:=fun x =>
   match x with
   | 7=>103
   | 10=>172
   | n=>n,
  t:=fun x =>
   match x with
   | 23=>80
   | 26=>3
   | 3=>4
   | 28=>101
   | 0=>0
   | 27=>100
   | 33=>129
   | 4=>4
   | n=>n,
  g:=fun x =>
   have n:=x;
   n }
theorem Tryz.keysA:SlLaysZI.n7 Tryz.prog Tryz.keysA_ren :=
  {
  mixed:=Eq.refl true,
  f7 :=
   Exists.intro "maps.Keys[map[int]bool,int,bool]"
    ⟨zg4<|id<|Eq.refl true,
     zb8 func103
      (ze3 some
       kR)⟩,
  f10 :=
   Exists.intro "maps.Keys[map[int]bool,int,bool]$1"
    ⟨zg4<|id<|Eq.refl true,
     zb8 func172
      (ze3 some
       kR)⟩,
  t0:=uT0,a0:=isAgg0,z0:=sizeOf0,v0:=zm3,t4:=uT4,
  a4:=isAgg4,z4:=zT4,v4:=zm2,t23:=underlying80,a23:=isAgg80,
  z23:=sizeOf80,v23:=zeroValue80,t26:=uT3,a26:=iT3,z26:=zT3,
  v26:=zl7,t27:=underlying100,a27:=isAgg100,z27:=sizeOf100,
  v27:=zeroValue100,t28:=underlying101,a28:=isAgg101,z28:=sizeOf101,
  v28:=zeroValue101,t33:=underlying129,a33:=isAgg129,z33:=sizeOf129,
  v33:=zeroValue129 }
def Tryz.sortedA_ren:Ren :=
 {
  f:=fun x =>
   match x with
   | 6=>102
   | 8=>107
   | 9=>44
   | 11=>174
   | 13=>82
   | 12=>97
   | 23=>141
   | 24=>142
   | 14=>155
   | 15=>156
   | 16=>157
   | 17=>158
   | 18=>159
   | 19=>160
   | 20=>161
   | 21=>162
   | 22=>163
   | 25=>201
   | 26=>188
   | 27=>189
   | 28=>202
   | 29=>203
   | 30=>85
   | 31=>228
   | n=>n,
  t:=fun x =>
   match x with
   | 26=>3
   | 28=>101
   | 24=>43
   | 0=>0
   | 3=>3
   | 37=>126
   | 48=>177
   | 50=>179
   | 4=>4
   | 40=>171
   | 39=>170
   | 45=>97
   | 5=>5
   | 9=>9
   | 51=>216
   | 55=>220
   | 57=>233
   | 58=>234
   | 33=>129
   | n=>n,
  g:=fun x =>
   have n:=x;
   n }
theorem Tryz.sortedA:SlLaysZI.n6 Tryz.prog Tryz.sortedA_ren :=
  {
  mixed:=Eq.refl true,
  f6 :=
   Exists.intro "slices.Sorted[int]"
    ⟨zg4<|id<|Eq.refl true,
     zb8 func102
      (ze3 some
       kR)⟩,
  f8 :=
   Exists.intro "slices.Collect[int]"
    ⟨zg4<|id<|Eq.refl true,
     zb8 func107
      (ze3 some
       kR)⟩,
  f11 :=
   Exists.intro "slices.AppendSeq[[]int,int]"
    ⟨zg4<|id<|Eq.refl true,
     zb8 func174
      (ze3 some
       kR)⟩,
  t0:=uT0,a0:=isAgg0,z0:=sizeOf0,v0:=zm3,t24:=aA,
  a24:=iE,z24:=gy,v24:=zeroValue43,t26:=uT3,a26:=iT3,
  z26:=zT3,v26:=zl7,t28:=underlying101,a28:=isAgg101,z28:=sizeOf101,
  v28:=zeroValue101,i26:=Eq.refl (some (some (Value.int IntKind.i64 0),1,8)) }
theorem Tryz.sortsA (m:Nat):AnyZI.SortsIn Tryz.prog Tryz.sortedA_ren Fence.wide m :=
 -- 102
 ⟨fun blk off cap ss W c a b=>callsIn_wide.2<|Any.slices_Sort_int lays189 blk off cap ss W c a b,
  fun p cap W=>callsIn_wide.2<|Any.slices_Sort_int_none lays189 p cap W⟩
variable (E:World)(g:PH)(s:Own)
theorem DB (m:Nat) :
  Ctr Tryz.prog E 103 #[.map<|some m] g s fun r g' s'=>s=s'∧Le g g'∧∃ b,r = .func (.func 172) #[] #[pp b 0]∧g' b=some (bY #[.map<|some m] 80):=by
 refine zb2 (args:=[.map<|some m]) func103 I ntmps103 (bE I)<|rZ (bW (bO I) fun c=>?_);refine aT I (rZ<|lU (Ih I)<|aT I<|rE<|I6 fun g1 a hb=>?_);exact za8 (.inl I) results103 I ⟨I,a,_,I,hb⟩
def bh (x:Int):Prop:=-9223372036854775808≤x∧x≤9223372036854775807
theorem Fx {x:Int}(h:bh x):(Lit.int .i64 x).wf=true:=by
 unfold bh at h;simp[Lit.wf,IntKind.min,IntKind.max,IntKind.bits,IntKind.signed];omega
theorem xW (E:World)(hE:E.drawn=0)(g:PH)(s:Own)(b m:Nat)(l:List<|Int×Value)(hb:g b=some (bY #[.map<|some m] 80))(hm:Mp g m l)(hl:l.length<1099511627776)(hw:∀ p∈l,bh p.1) :
  Ctr Tryz.prog E 102 #[.func (.func 172) #[] #[pp b 0]] g s fun r g' s'=>s=s'∧Le g g'∧dA g' r (fh<|l.map Prod.fst):=by
 intro w a;obtain ⟨es,clk,U,B,V⟩:=hm;have M:es.toList.length=l.length:=by have:=ze3 List.length B;simpa using this
 have N:es.size=l.length:=by simpa using M
 have C:∀ x∈es.toList,∃ y,WideElems.rd (H:=Unit) Tryz.prog 3 (fun _=>some (.lit<|.bool true,[])) x=some y∧∃ p∈l,y.1 = .int .i64 p.1:=fun x t=>by
  have A:n9 x∈es.toList.map n9:=zf3.2 ⟨x,t,rfl⟩;rw[B] at A;obtain ⟨p,hp,W⟩:=zf3.1 A;have d:x.key=vi p.1:=(ze3 Prod.fst W).symm;have u:keyOf Tryz.prog 3 x.key=some (.int .i64 p.1):=by
   rw[d];exact Maps.keyOf_int_mk uT3<|Fx<|hw p hp
  exact⟨(.int .i64 p.1,.lit<|.bool true),by simp[WideElems.rd,u],p,hp,I⟩
 have O:w.ownsMap Tryz.prog 3 (fun _=>some (.lit<|.bool true,[])) m l.length (.map<|(es.toList.map<|WideElems.rg (H:=Unit) Tryz.prog 3<|fun _=>some (.lit<|.bool true,[])).foldr DataW.insert []) :=
  ⟨es,clk,a.known _ _ U,⟨by rw[N];unfold maxLen;omega,V,fun x t=>(C x t).imp fun _ h=>h.1⟩,oM,rfl⟩
 have i:(l.map Prod.fst).Perm<|intKeys<|.map<|(es.toList.map<|WideElems.rg (H:=Unit) Tryz.prog 3<|fun _=>some (.lit<|.bool true,[])).foldr DataW.insert []:=by
  have A:(es.toList.map<|WideElems.rg (H:=Unit) Tryz.prog 3<|fun _=>some (.lit<|.bool true,[])).map (fun p=>Go.intOf p.1)=l.map Prod.fst:=by
   have h2:l.map Prod.fst=(es.toList.map n9).map (fun q=>(unV q).1):=by rw[B,zi6];rfl
   rw[h2,zi6,zi6];refine zc9 fun x t=>?_;have h3:n9 x∈es.toList.map n9:=zf3.2 ⟨x,t,rfl⟩;rw[B] at h3;obtain ⟨p,hp,W⟩:=zf3.1 h3;have d:x.key=vi p.1:=(ze3 Prod.fst W).symm;have u:keyOf Tryz.prog 3 x.key=some (.int .i64 p.1):=by
    rw[d];exact Maps.keyOf_int_mk uT3<|Fx<|hw p hp
   simp[WideElems.rg,WideElems.rd,u,d ▸ u,Go.intOf,n9,unV,d]
  rw[← A];exact ((WideShapes.sorted_perm _).map _).symm
 have z:Maps.size (.map<|(es.toList.map<|WideElems.rg (H:=Unit) Tryz.prog 3<|fun _=>some (.lit<|.bool true,[])).foldr DataW.insert [])=l.length:=by
  have:=i.length_eq;simpa [intKeys,Maps.size] using this.symm
 have P:=AnyZI.keys_gives (ρ:=Tryz.keysA_ren) { Tryz.keysA with } Fence.wide 2 trivial rfl oM b m l.length _ (R:=fun _=>some (.lit<|.bool true,[])) w (a.lt hb) (by simp[World.cell?,a.known _ _ hb]) O;have cS:=AnyZI.sorted_in Tryz.sortedA Fence.wide 5 trivial trivial trivial trivial rfl oM (Tryz.sortsA _) (enters_of func44 kR rfl) 172 #[.pointer<|some ⟨b,0,none⟩] trivial (enters_of func172 kR rfl) _ _ (by rw[z];unfold maxLen;omega) (by rw[z];omega) w P;refine ((callsIn_wide (n:=5)).1 cS).mono ?_;rintro e w' ⟨v,ss,rfl,J,G,a1,f⟩;have Q:ss.mergeSort (fun x y=>decide<|x≤y)=fh (l.map Prod.fst):=mergeSort_of_perm_i<|J.trans i.symm;rw[Q] at G;have c:At E g s w':=by
  refine⟨f.os.trans a.os,⟨f.tape.trans a.tape.1,by rw[hE];exact zf7 _⟩,f.output.trans a.output,fun k o d=>?_,fun x t=>?_,fun x t k d=>⟨(a.fresh x t k d).1,Nat.lt_of_lt_of_le (a.fresh x t k d).2 f.size⟩,a.apart⟩
  ·rw[f.block k<|a.lt d];exact a.known k o d
  ·have A:=a.own x t;cases K:x.blk with
   | none=>simpa [K] using A
   | some k =>
    simp only[K,Option.bind_some] at A ⊢;rw[f.block k (a.fresh x t k K).2];exact A
 rcases G.2 with ⟨rfl,h0⟩ | ⟨L,cap,cur,rfl,X,Y,r1,r2,r3,r4⟩
 ·have S:ss=[]:=zf5 h0;have Z:l.map Prod.fst=[]:=by
   have:=(J.trans i.symm).length_eq;rw[S] at this;exact zf5 (by simpa using this.symm)
  refine⟨_,g,s,I,c,I,zb9 g,?_⟩;rw[Z];have:fh []=[]:=by simp[fh]
  rw[this];exact zc1 g 1
 ·have D:g L=none:=by
   cases h:g L with
   | none=>rfl
   | some o=>have:=a.lt h;omega
  refine⟨_,upd g L<|.cells cur 3 (0,0),s,I,⟨c.os,c.tape,c.output,fun k o d=>?_,c.own,fun x t k d=>⟨?_,(c.fresh x t k d).2⟩,c.apart⟩,I,FD D,?_⟩
  ·unfold upd at d;split at d
   ·rename_i e1;subst e1;injection d with d;subst d;exact Y
   ·exact c.known k o d
  ·have A:=a.fresh x t k d;have a0:k≠L:=oM;simp only[upd,a0,if_false];exact A.1
  ·have T:(fh<|l.map Prod.fst).length=ss.length:=by rw[gN];exact (J.trans i.symm).length_eq.symm
   refine⟨some ⟨L,0,none⟩,cap,by rw[T],⟨by rw[encInt.length],oM⟩,fun _=>⟨L,0,cur,_,(0,0),I,fw _ _ _,fun j x hj=>?_⟩⟩;rw[pz] at hj;have F:(cur.toList.take<|ss.length * 1)[j]?=some x:=by rw[r4];exact hj
   rw[zi2] at F;split at F
   ·simpa using F
   ·cases F
theorem tI {α:Type}[DecidableEq α]:∀ {l m:List α},l.Nodup→(∀ x∈l,x∈m)→l.length≤m.length
 | [],_,_,_=>zf7 _
 | x::l,m,hn,b=>by
  obtain ⟨f,g⟩:=zk3.1 hn;have c:x∈m:=b x dO;have i:=tI (m:=m.erase x) g (fun y d=>by
   have a:y≠x:=fun e=>f<|e ▸ d;exact (List.mem_erase_of_ne a).2<|b y<|by simp[d])
  have j:=List.length_erase_of_mem c;have k:=List.length_pos_of_mem c;simp only[ze9];omega
variable {l:List Cl}{all:List<|List Int}{k:Nat}{t:List Int}
theorem F6 {c:Cl}(h:c∈am l):∃ d∈l,d.id=c.id:=by
 have a:=tw h;unfold aa at a;obtain ⟨d,hd,rfl⟩:=zf3.1 a;exact⟨d,(er l d).1 hd,I⟩
open Go Go.Sy Go.Pl Go.Proofs
theorem GZ {g:PH}:∀ {ls:List<|List Int} {rs:List Sv},ay (ep g) ls rs→(∀ x∈ls,x.length<1099511627776)→∃ L:List (LV g),L.map LV.l=ls∧L.map LV.sv=rs
 | [],[],_,_=>⟨[],rfl,rfl⟩
 | x::ls,r::rs,h,hl=>by
  obtain ⟨L,a,b⟩:=GZ h.2 (fun y c=>hl y<|by simp[c]);exact⟨⟨r,x,h.1,hl x dO⟩::L,by simp[a],by simp[b]⟩
 | [],_::_,h,_=>h.elim
 | _::_,[],h,_=>h.elim
theorem FB {g:PH}:∀ (L:List<|LV g),ay (ep g) (L.map LV.l) (L.map LV.sv)
 | []=>trivial
 | x::L=>⟨x.h,FB L⟩
theorem Cx {g:PH}:∀ (L:List<|LV g),L.flatMap (lP g).enc=(L.map LV.sv).flatMap ec.enc
 | []=>rfl
 | x::L=>by simp only[zh6,zg5,Cx L];rfl
theorem FA {g:PH}(T:TypeId)(v:Value)(L:List<|LV g):rowA (lP g) T v L=rowA ec T v (L.map LV.sv):=by
 simp only[rowA,Cx,ze7]
def eqL (a b:List Int):Bool:=decide<|a=b
theorem nk {α β:Type}(f:α→β)(eq:α→α→Bool)(c:β→β→Bool)(h:∀ a b,eq a b=c (f a) (f b)):∀ (x:α) (l:List α),(bn eq x l).map f=bn c (f x) (l.map f)
 | _,[]=>rfl
 | x,y::r=>by
  simp only[bn,zg5,h];split
  ·exact nk f eq c h y r
  ·rw[zg5,nk f eq c h y r]
theorem Ek {α β:Type}(f:α→β)(eq:α→α→Bool)(c:β→β→Bool)(h:∀ a b,eq a b=c (f a) (f b))(l:List α):(je eq l).map f=je c (l.map f):=by
 cases l with
 | nil=>rfl
 | cons x r=>simp only[je,zg5,nk f eq c h]
theorem nj {α:Type}(eq:α→α→Bool):∀ (x:α) (l:List α),(bn eq x l).Sublist l
 | _,[]=>.slnil
 | x,y::r=>by
  simp only[bn];split
  ·exact (nj eq y r).cons y
  ·exact (nj eq y r).cons_cons y
theorem tu {α:Type}(eq:α→α→Bool)(l:List α):(je eq l).Sublist l:=by
 cases l with
 | nil=>exact .slnil
 | cons x r=>exact (nj eq x r).cons_cons x
def dM (s:List Int):List Int:=je (fun a b:Int=>decide<|a=b)<|fh s
def jO:List Int→Bool
 | []=>true
 | a::r=>decide (a<0)||decide (((a::r).length:Int)>9)
def e7 (all:List<|List Int)(t:List Int):List<|List Int:=je eqL<|oW<|all++bU t
def a8:List (List Int)→List (List Int)→Option (List<|List Int)
 | all,[]=>some all
 | all,s::r=>if jO (dM s) then a8 all r else if ((e7 all<|dM s).length:Int)>4000 then none else a8 (e7 all<|dM s) r
def gh (all:List<|List Int)(s:List Int)(k:Nat):List ak:=if 0<(s.eraseIdx k).length then [⟨lbL all (s.eraseIdx k)+1,dK k⟩] else []
def a7 (all:List<|List Int)(s:List Int)(j:Nat):List ak:=(List.range j).flatMap<|gh all s
def og (all:List<|List Int)(p:List Int×Nat):Cl:=⟨p.2+1,(p.1.length:Int) - 1,a7 all p.1 p.1.length⟩
def bi (all:List<|List Int):List Cl:=all.zipIdx.map<|og all
def dJ (l:List<|List Int):List Cl:=match a8 [] l with
 | none=>[]
 | some all=>aa<|bi all
theorem qW (t:List Int)(h:t.length≤9):(bU t).length≤511:=by
 have:=B6 t.length h;simp[bU];omega
theorem i7 (h:t.length≤9):∀ x∈bU t,x.length≤9:=fun x a=>by
 obtain ⟨i,_,rfl⟩:=zf3.1 a;exact zk8 (gP _ _) h
theorem wD (h:t≠[]):0<(bU t).length:=by
 have a:0<t.length:=List.length_pos_iff.2 h;have b:2 ^ 1≤2 ^ t.length:=Nat.pow_le_pow_right dC a;simp[bU];omega
theorem l7 {x:List Int}(h:x∈e7 all t):x∈all∨x∈bU t:=by
 have a:=(tu eqL _).subset h;have b:=(jh _).subset a;exact zf4.1 b
theorem zm (all:List<|List Int)(t:List Int):ux<|e7 all t:=(jX _).sublist<|tu eqL _
theorem zD (h:ux all)(t:List Int):∀ i j (d:i<all.length) (e:j<all.length),i<j→aw all[j] t<0→aw all[i] t<0:=fun i j d e c a=>by
 have f:=zd1.1 h i j d e c
 rcases ex all[i] all[j] with b | b | b
 ·exact fg _ _ _ b a
 ·rw[b];exact a
 ·exact absurd b f
theorem gJ (all:List<|List Int)(s:List Int)(j:Nat):a7 all s (j+1)=a7 all s j++gh all s j:=by
 simp[a7,wb]
theorem fk (all:List<|List Int)(s:List Int)(j:Nat):(a7 all s j).length≤j:=by
 induction j with
 | zero=>simp[a7]
 | succ j ih =>
  rw[gJ,ze6];have:(gh all s j).length≤1:=by unfold gh;split <;> simp
  omega
theorem bT (all:List<|List Int):(bi all).length=all.length:=by simp[bi]
theorem jJ (h:k<all.length):(bi all)[k]?=some (og all (all[k],k)):=by
 simp[bi,h]
theorem li (h:all.length≤4000)(a:∀ x∈all,x.length≤9):aM<|bi all:=by
 refine⟨by rw[bT];omega,fun c hc=>?_⟩;obtain ⟨p,hp,rfl⟩:=zf3.1 hc;have b:p.1∈all:=by
  have:=List.mem_map_of_mem (f:=Prod.fst) hp;simpa using this
 have d:=a _ b;have e:=fk all p.1 p.1.length;show (a7 all p.1 p.1.length).length<_;omega
theorem B7 (ls:List<|List Int)(t:List Int):lbL ls t≤ls.length:=zc6 _ _
def jQ (v:Value):Sv:=match v with
 | .slice p n c=>⟨p,n,c⟩
 | _=>⟨none,0,0⟩
theorem qX (v:Value)(ls:List<|List Int)(hv:dn g v ls)(hn:ls.length<1099511627776)(hl:∀ x∈ls,x.length<17592186044416) :
  Ctr Tryz.prog E 12 #[v] g s fun r g' s'=>s=s'∧Le g g'∧∃ u,r = .agg #[u]∧ai g' u (dJ ls):=by
 obtain ⟨B,X,Y⟩:=hv;have b4:=Y.length;obtain ⟨p,c,rfl⟩:=za4 X;refine zb2 (args:=[.slice p B.length c]) func12 I ntmps12 (bE I)<|rZ (bW (aL zl9) fun b2=>?_);refine tZ<|rZ<|aT I<|sQ<|sW I<|lU (eN fe I)<|lM I<|tZ<|bK<|zb6 43 1<|oP (ι:=PH×Value×List Sv×List (List Int)×Nat) (fun i=>[(0,.slice p B.length c),(2,pp b2 0),(3,i.2.1),(14,.slice p B.length c),(15,vi B.length),(16,vi i.2.2.2.2)]) (fun i=>i.1)
  (fun i=>rowA ec 43 i.2.1 i.2.2.1::pt b2 (bY #[.slice none 0 0] 29)::s)
  (fun i=>Le g i.1∧i.2.2.2.2≤B.length∧ay (ep i.1) i.2.2.2.1 i.2.2.1∧(i.2.2.2.1.length≤4000∧∀ x∈i.2.2.2.1,x.length≤9)∧ux i.2.2.2.1∧a8 [] ls=a8 i.2.2.2.1 (ls.drop i.2.2.2.2)) (fun i=>B.length - i.2.2.2.2)
  (g,.slice none 0 0,[],[],0) sB rfl rfl ⟨zb9 g,zf7 _,trivial,⟨zf7 _,by simp⟩,List.Pairwise.nil,rfl⟩ ?_
 rintro ⟨g1,av,rs,all,k⟩ ⟨H,hk,R,⟨a4,J⟩,S,O⟩;dsimp only at H hk R a4 J S O ⊢;have p1:=R.length;refine rZ<|yL I<|tZ<|sQ<|iP I (fun i0=>?_) (fun i0=>?_)
 ·have b5:k<ls.length:=oM;have d1:k<B.length:=oM;have hR:=(Y.get (bd b5)<|bd d1).mono H;have d3:=hl _<|gM b5;have b7:=X.based oM;have b8:ls.drop k=ls[k]::ls.drop (k+1):=zg7 b5;rw[b8] at O;generalize hx:ls[k]=x at *;generalize hr:B[k]=r at *;have c0:B[((k:Nat):Int).toNat]?=some r:=by rw[← hr];exact bd d1
  have p2:=gN x;have p3:=lx (fun a b:Int=>decide<|a=b)<|fh x;refine kP<|tN<|sQ<|bK<|rZ<|lU (iA fe gy I I b7 oM sL)<|lK (eB iE I (X.mono H).rd c0 I)<|aT I<|sW I<|lW (bt call43 I<|Hw E g1 _ _ x hR d3) ?_;rintro v21 _ _ ⟨rfl,rfl⟩;refine aT I<|sW I<|lW (bt call44 I<|uA E g1 _ v21 x 0 I d3) ?_;rintro _ _ _ ⟨rfl,rfl⟩;refine tZ<|sW I<|lW (bt call45 I<|Fg E g1 _ v21 (fh x) oM) ?_;rintro v25 _ _ ⟨rfl,rfl⟩;refine aT I (sQ<|fS fun g2 D W=>?_);have U:dA g2 v25<|dM x:=W;have i1:(dM x).length<17592186044416:=by unfold dM;omega
  obtain ⟨q2,d2,rfl⟩:=za4 U;have c1:dM x=[]∨∃ a t,dM x=a::t:=by cases dM x with
   | nil=>exact .inl rfl
   | cons a t=>exact .inr ⟨a,t,rfl⟩
  have C:=R.mono fun _ _=>ep.mono D;clear W;generalize hT:dM x=T at *
  rcases c1 with i2 | ⟨a,t,a5⟩
  ·subst i2;have F:jO (dM x)=true:=by rw[hT];rfl
   refine sW I<|lU (eN aA I)<|lU (SU.eq (v':=vb true) (eQ I I)<|ze3 vb<|zf9<|by simp) ?_;refine lM I<|yA I<|yA I<|yA I<|yA I<|yP I<|lM I<|yA I<|yA I<|yA I<|yP I<|tZ<|za2 I<|xI<|tX<|bX<|tN<|rG<|yD I<|lM I<|cp<|ct (g2,av,rs,all,k+1) sB I I ⟨H.trans D,lN,C,⟨a4,J⟩,S,?_⟩ lN;rw[O,a8,zg2 F]
  ·have p4:T.length=t.length+1:=by rw[a5];rfl
   have i3:=za6 U oM;have j0:T[((0:Nat):Int).toNat]?=some a:=by rw[a5];rfl
   have d4:jO (dM x)=(decide (a<0)||decide ((T.length:Int)>9)):=by rw[hT,a5];rfl
   have d7:a<0→(decide (a<0)||decide ((T.length:Int)>9))=true:=fun h=>by simp[h]
   have d8:¬ a<0→(decide (a<0)||decide ((T.length:Int)>9))=decide ((T.length:Int)>9):=fun h=>by simp[h]
   refine SC.sub (f':=[(0,.slice p B.length c),(2,pp b2 0),(3,av),(5,.slice q2 T.length d2),(14,.slice p B.length c),(15,vi B.length),(16,vi k)]) sB<|BY 39 ((decide (a<0)||decide ((T.length:Int)>9))) ?_ ?_
   ·refine rG<|lM I<|lU (eN aA I)<|lU (SU.eq (v':=vb false) (eQ I I)<|ze3 vb<|zf8 oM)<|lM I<|yC I<|lY I I I (iA aA zT3 I I i3 dC sL)<|lR (gT I I I dC) (eB iT3 I (za7 U) j0 I) dC<|lY I I I (lS I I)<|yF I<|lM I<|sP ?_ ?_
    ·intro c2;exact yA I<|yA I<|yA I<|yP I<|cp<|zb1 (by (rw[d7 c2];rfl)) mI
    ·intro c2;exact yC I<|lY I I I (eN aA I)<|lY I I I (gR I I)<|yF I<|cp<|zb1 (by (rw[d8 c2];rfl)) mI
   refine iQ I (fun F=>?_) (fun F=>?_)
   ·refine xI<|tX<|bX<|tN<|rG<|yD I<|lM I<|cp<|ct (g2,av,rs,all,k+1) sB I I ⟨H.trans D,lN,C,⟨a4,J⟩,S,?_⟩ lN;rw[O,a8,zg2<|d4.trans F]
   ·have c3:T.length≤9:=by simp at F;omega
    have j1:=qW T c3;have Z:=i7 c3;have j2:=wD (t:=T) (by rw[a5];simp);have e0:¬ jO (dM x)=true:=by rw[d4,F];simp
    refine kP<|tN<|sW I<|lM I<|lW (bt call46 I<|wC E g2 _ _ T U c3) ?_;rintro v42 g3 _ ⟨rfl,f,e1⟩;obtain ⟨p5,e2,a0⟩:=e1;have n7:=a0.length;refine lW (aQ (e:=ec) 0 sty22 I I I e2 oM oM) ?_;rintro v43 _ _ ⟨rfl,rfl⟩;have c4:=(C.mono fun _ _=>ep.mono f).append a0;obtain ⟨L,e4,l0⟩:=GZ c4 fun y hy=>(zf4.1 hy).elim (fun h=>Nat.lt_of_le_of_lt (J y h) dC)<|fun h=>Nat.lt_of_le_of_lt (Z y h) dC;have p6:L.length=all.length+(bU T).length:=(by have:=ze3 List.length e4;simpa using this);rw[← l0,← FA];refine aT I<|sW I<|lW (bt call47 I<|xY E g3 _ _ L oM oM) ?_;rintro _ _ _ ⟨rfl,L2,l1,W,rfl⟩;have n8:=l1.length_eq;have c5:∀ (x y:LV g3) s',cQ Tryz.prog E (.func (.func 50) #[] #[]) [x.val,y.val] g3 s' (fun r g' l2=>r=vb (decide<|x.l=y.l)∧g3=g'∧s'=l2):=fun x y s'=>cQ.mk (args:=[x.val,y.val]) (cap:=[]) call50<|DP E g3 s' _ _ x.l y.l x.h y.h x.len;refine tZ<|sW I<|lW (bt call49 I<|Ff (lP g3) LV.val (fun _=>I) (fun _=>I) E g3 _ _ 50 (fun x y=>decide<|x.l=y.l) L2 oM c5) ?_;rintro v47 _ _ ⟨rfl,rfl⟩;refine zd4 fun ⟨w0,M⟩=>?_;obtain ⟨q,d,rfl⟩:=ag (i:=0) M rfl;clear M w0;rw[FA];have b1:(je (fun x y:LV g3=>decide<|x.l=y.l) L2).map LV.l=e7 all T:=(by rw[Ek LV.l (fun x y:LV g3=>decide<|x.l=y.l) eqL fun _ _=>rfl,W,e4];rfl);have a9:(je (fun x y:LV g3=>decide<|x.l=y.l) L2).length=(e7 all T).length:=(by rw[← b1,ze7]);have a1:=FB<|je (fun x y:LV g3=>decide<|x.l=y.l) L2;rw[b1] at a1;generalize (je (fun x y:LV g3=>decide<|x.l=y.l) L2).length=n47 at *;generalize (je (fun x y:LV g3=>decide<|x.l=y.l) L2).map LV.sv=rs5 at *;refine aT I<|sW I<|lU (eN fe I)<|lU (gR I I)<|tZ (iP I (fun c6=>?_) fun c6=>?_)
    ·have c7:a8 [] ls=none:=by rw[O,a8,zg1 e0,hT,zg2 oM]
     exact rZ<|lU (za3 I<|buildE29)<|oZ (sK 1 ae I I I I I sB)<|tZ<|rE<|bR<|tR<|tR<|bR<|tR<|kn 1 s (.inl I) results12 I aj ae I I uR ⟨I,H.trans<|D.trans f,_,I,by simp only[dJ,c7];exact⟨[],zc1 _ _,trivial⟩⟩
    ·refine kP<|bN<|tN<|rG<|yD I<|lM I<|cp<|ct (g3,.slice q n47 d,rs5,e7 all T,k+1) sB I I ⟨H.trans<|D.trans f,lN,a1,⟨lN,fun y hy=>?_⟩,zm all T,?_⟩ lN
     ·rcases l7 hy with h | h
      ·exact J y h
      ·exact Z y h
     ·rw[O,a8,zg1 e0,hT,zg1 oM]
 ·have l3:k=B.length:=oM;have c9:a8 [] ls=some all:=by rw[O,l3,← b4,List.drop_length];rfl
  have e9:=li a4 J;refine xI (tX<|tX<|bX<|tN<|sQ<|fS fun g2 D W=>?_);have b0:SlA ec g2 av rs:=W;obtain ⟨q,d,rfl⟩:=za4 b0;have C:=R.mono fun _ _=>ep.mono D;refine rG (bW (aL zl9) fun b6=>?_);refine tZ<|sQ<|sW I<|lU (eN fe I)<|lM I<|tZ<|bK<|zb6 61 3<|oP (ι:=PH×Value×List Rc×Nat) (fun i=>[(2,pp b2 0),(3,.slice q rs.length d),(6,pp b6 0),(53,.slice q rs.length d),(54,vi rs.length),(55,vi i.2.2.2)]) (fun i=>i.1)
   (fun i=>rowA encCell 61 i.2.1 i.2.2.1::pt b6 (bY #[i.2.1] 29)::pt b2 (bY #[.slice none 0 0] 29)::s)
   (fun i=>Le g2 i.1∧i.2.2.2≤rs.length∧ay (an i.1) ((bi all).take i.2.2.2) i.2.2.1) (fun i=>rs.length - i.2.2.2)
   (g2,.slice none 0 0,[],0) sB rfl rfl ⟨zb9 g2,zf7 _,trivial⟩ ?_
  rintro ⟨g3,ov,P,n⟩ ⟨f,l4,N⟩;dsimp only at f l4 N ⊢;have f7:=N.length;rw[ze5,bT] at f7;refine rZ<|yL I<|tZ<|sQ<|iP I (fun f8=>?_) (fun f8=>?_)
  ·have a9:n<all.length:=oM;have g7:n<rs.length:=oM;have b7:=b0.based oM;have hR:=(C.get (bd a9)<|bd g7).mono f;have g8:=hR.len;have p7:=J _<|gM a9;have g9:=jJ a9;generalize hx:all[n]=x at *;generalize hr:rs[n]=r at *;obtain ⟨rp,rn,rc⟩:=r;dsimp only at g8;subst g8;have m1:dA g3 (.slice rp x.length rc) x:=hR;have c0:rs[((n:Nat):Int).toNat]?=some ⟨rp,x.length,rc⟩:=by rw[← hr];exact bd g7
   refine kP (tN<|sQ<|bK<|sW I<|lU (iA fe gy I I b7 oM sL)<|lK (eB (u:=.slice rp x.length rc) iE I (b0.mono f).rd c0 I)<|lA I<|aT I<|sW I<|yD I<|lM I<|lU (eN aA I)<|lU (sU I I oM)<|lU (za3 I<|buildC61 _ _)<|bW (aL zl6) fun b9=>?_);refine oZ (sK 0 ar I I I I I sB)<|tZ<|sQ<|sQ<|zb6 87 2<|rG<|lM I<|lU (eN aA I)<|lM I<|tZ<|bK<|oP (ι:=PH×Value×Nat) (fun i=>[(2,pp b2 0),(3,.slice q rs.length d),(6,pp b6 0),(53,.slice q rs.length d),(54,vi rs.length),(55,vi n),(8,.slice rp x.length rc),(9,pp b9 0),(66,.slice rp x.length rc),(67,vi x.length),(68,vi i.2.2)]) (fun i=>i.1)
    (fun i=>rowA encSide 87 i.2.1 (a7 all x i.2.2)::pt b9 (bY #[vi<|(n:Int)+1,vi<|(x.length:Int) - 1,i.2.1] 61)::rowA encCell 61 ov P::pt b6 (bY #[ov] 29)::pt b2 (bY #[.slice none 0 0] 29)::s)
    (fun i=>Le g3 i.1∧i.2.2≤x.length) (fun i=>x.length - i.2.2)
    (g3,.slice none 0 0,0) sB rfl rfl ⟨zb9 g3,zf7 _⟩ ?_
   rintro ⟨g4,sv,j⟩ ⟨z,hj⟩;dsimp only at z hj ⊢;have o1:=fk all x j;have G:=gJ all x j;refine rZ<|yL I<|tZ<|sQ<|iP I (fun h0=>?_) (fun h0=>?_)
   ·have m2:j<x.length:=oM;have a2:dA g4 (.slice rp x.length rc) x:=m1.mono z;have o2:=(IK a2).2;have h1:=IC a2 (l:=0) (m:=j) oM oM;have h2:=IC a2 (l:=j+1) (m:=x.length) oM oM;have m3:(x.drop 0).take (j - 0)=x.take j:=by simp
    have m4:(x.drop<|j+1).take (x.length - (j+1))=x.drop (j+1):=tL (by rw[zf1];omega);rw[m3] at h1;rw[m4] at h2;have n0:[x.take j,x.drop<|j+1].flatten=x.eraseIdx j:=by rw[List.eraseIdx_eq_take_drop_succ];simp
    have p9:(x.eraseIdx j).length=x.length - 1:=by rw[List.length_eraseIdx];simp[m2]
    have h3:jn [x.take j,x.drop<|j+1]<1099511627776:=by simp[jn];omega
    refine kP<|tN<|sQ<|bK<|sW I<|aT I<|sQ<|dW [] [(0,2),(1,2),(2,2),(3,2),(4,2),(5,2),(6,2),(7,0),(8,0),(9,2)] ze4 kR<|yM I<|yM I<|pU I (Il aA zT3 I I oM oM)<|yM I<|yM I<|pU I (aD I I oM)<|pU I (SU.eq (v':=sliced rp (j+1) x.length rc 1) (Ik aA zT3 I I oM oM)<|by rw[show ((j:Int)+1).toNat=j+1 by omega])<|mf I (bS sty22 I I I (ab sB) dC) dC (.inr iR) ?_;rintro _ _ _ ⟨n1,rfl,rfl,rfl⟩;refine I5 fun g5 A h4=>?_;have h5:dn g5 (.slice (some ⟨n1,0,none⟩) 2 2) [x.take j,x.drop<|j+1]:=⟨[jQ<|sliced rp 0 j rc 1,jQ<|sliced rp (j+1) x.length rc 1],kb h4 rfl rfl,⟨h1.mono A,h2.mono A,trivial⟩⟩;refine mf I (bt call51 I<|yW E g5 _ _ _ h5 dO h3) dC (.inr iR) ?_;rintro v79 _ _ ⟨rfl,rfl⟩;refine pU I (aS I) (du<|tN<|sQ<|fS fun g6 V h6=>?_);have a3:dA g6 v79<|x.eraseIdx j:=(by rw[← n0];exact h6);obtain ⟨q6,d6,rfl⟩:=za4 a3;clear h6;refine rG<|lM I<|lU (eN aA I)<|lU (gR I I)<|tZ (iP I (fun h7=>?_) fun h7=>?_)
    ·have Q:gh all x j=[⟨lbL all (x.eraseIdx j)+1,dK j⟩]:=by unfold gh;rw[zg2 oM]
     have q0:=B7 all<|x.eraseIdx j;rw[Q] at G;have d0:dn g6 (.slice q rs.length d) all:=⟨rs,b0.mono<|f.trans<|z.trans<|A.trans V,C.mono fun _ _=>ep.mono<|f.trans<|z.trans<|A.trans V⟩;refine sW I<|lM I<|lW (bt call52 I<|BD E g6 _ _ _ all (x.eraseIdx j) d0 a3 oM (fun y hy=>by have:=J y hy;omega)<|zD S _) ?_;rintro _ _ _ ⟨⟨fb,rfl⟩,rfl,rfl⟩;refine lM I<|yX I<|yX I<|lA I<|aT I<|dW [8,9,10] [(0,2),(1,1),(2,2),(3,2),(4,2),(5,0),(6,2),(7,0),(8,0),(9,0),(10,0)] ze4 kR<|pU I (bj ap I aI I)<|gB I (qL bg I<|cO 1 I I)<|yM I<|pU I (aD I I oM)<|yM I<|mf I (bt call53 I<|C6 E g6 _ j) dC (.inr iR) ?_;rintro _ _ _ ⟨rfl,rfl,rfl⟩;refine pU I (za3 I<|buildS87 _ _)<|mf I (bS sty45 I I I (ab sB) dC) dC (.inr iR) ?_;rintro _ _ _ ⟨q1,rfl,rfl,rfl⟩;refine mf I (aP (e:=encSide) 0 ⟨lbL all (x.eraseIdx j)+1,dK j⟩ sty45 I I I I I oM oM) dC (.inl dC) ?_;rintro v97 _ _ ⟨rfl,rfl⟩;rw[← G];refine zd3 fun ⟨w0,M⟩=>?_;obtain ⟨q3,d97,rfl⟩:=ag (i:=0) M rfl;clear M w0;refine oU rfl (bj ap rfl aI rfl) dC (.inl dC)<|H8 rfl (oi 1 aI rfl rfl rfl rfl (bE rfl)<|by rfl) (.inl dC) ?_;rintro _ _ _ ⟨rfl,rfl⟩;refine du<|bN<|tN<|rG<|yD I<|lM I<|cp ?_;exact ct (g6,_,j+1) sB I I ⟨z.trans<|A.trans V,lN⟩ lN
    ·have Q:gh all x j=[]:=by unfold gh;rw[zg1 oM]
     rw[Q,zc7] at G;refine kP<|bN<|tN<|rG<|yD I<|lM I<|cp ?_;refine ST.to (fun w hw=>?_) (g':=g6) (s':=rowA encSide 87 sv (a7 all x<|j+1)::pt b9 (bY #[vi<|(n:Int)+1,vi<|(x.length:Int) - 1,sv] 61)::rowA encCell 61 ov P::pt b6 (bY #[ov] 29)::pt b2 (bY #[.slice none 0 0] 29)::s) ?_
     ·rw[G];exact hw
     exact ct (g6,sv,j+1) sB I I ⟨z.trans<|A.trans V,lN⟩ lN
   ·have n2:j=x.length:=oM;subst n2;refine xI (tX<|tX<|bX<|tN<|rG<|zd6 fun g5 A n3=>?_);have h8:SlA encSide g5 sv<|a7 all x x.length:=n3;obtain ⟨q5,d5,rfl⟩:=za4 h8;obtain ⟨nc,h9⟩:∃ nc:Rc,nc=⟨(n:Int)+1,(x.length:Int) - 1,⟨q5,(a7 all x x.length).length,d5⟩⟩:=⟨_,rfl⟩;refine lU (bj dw I cg I)<|lK (qL ei I<|cO 2 I I)<|lK (qV 0 dT ar I I I)<|lW (bS sty27 I I I (ab sB) dC) ?_;rintro _ _ _ ⟨p0,rfl,rfl,rfl⟩;refine lW (aP (e:=encCell) 1 nc sty27 I I I I (by rw[h9];rfl) oM oM) ?_;rintro v104 _ _ ⟨rfl,rfl⟩;refine zd4 fun ⟨w0,M⟩=>?_;obtain ⟨b3,d104,rfl⟩:=ag (i:=1) M rfl;clear M w0;refine lU (bj dw I cg I)<|oZ (sK 2 cg I I I I I sB)<|cp<|bN<|tN<|rG<|yD I<|lM I<|cp<|dR (s':=rowA encCell 61 (.slice b3 (P++[nc]).length d104) (P++[nc])::pt b6 (.cells #[.slice b3 (P++[nc]).length d104] 29 (0,0))::pt b2 (bY #[.slice none 0 0] 29)::s) (.cons _<|.refl _)<|ct (g5,_,P++[nc],n+1) sB I I ⟨f.trans<|z.trans A,lN,?_⟩ lN;dsimp only;rw[gK g9];exact (N.mono fun _ _=>an.mono<|z.trans A).append ⟨(by rw[h9];exact⟨I,I,h8⟩),trivial⟩
  ·have q4:n=rs.length:=oM;have n4:(bi all).take n=bi all:=tL (by rw[bT];omega);rw[n4] at N;refine xI (tX<|tX<|bX<|tN<|sQ<|fS fun g4 z n5=>?_);have n6:ai g4 ov<|bi all:=⟨P,n5,N.mono fun _ _=>an.mono z⟩;refine rG<|lK (qV 0 aj ae I I I)<|lW (bt call24 I<|fm E g4 _ ov (bi all) n6 e9) ?_;rintro _ g5 _ ⟨rfl,A,u,rfl,hu⟩;obtain ⟨q9,d9,rfl⟩:=hu.form;exact oZ (sK 1 ae I I I I I sB)<|tZ<|rE<|kn 1 s (.inl I) results12 I aj ae I I uR ⟨I,H.trans<|D.trans<|f.trans<|z.trans A,_,I,by simp only[dJ,c9];exact hu⟩
def zq (c:Cl)(r:Rc):Prop:=r.id=c.id∧r.dim=c.dim∧r.sv.n=c.sides.length
def HH (c:Cl)(r:Rc):Ent:=rowA encSide 87 (.slice r.sv.p r.sv.n r.sv.c) c.sides
def qS:List Cl→List Rc→Own
 | c::l,r::rs=>HH c r::qS l rs
 | _,_=>[]
theorem qD:∀ {l:List Cl} {rs:List Rc} (c:Cl) (r:Rc),l.length=rs.length→qS (l++[c]) (rs++[r])=qS l rs++[HH c r]
 | [],[],_,_,_=>rfl
 | x::l,y::rs,c,r,h=>by
  simp only[List.cons_append,qS];rw[qD c r<|by simpa using h]
 | [],_::_,_,_,h=>by simp at h
 | _::_,[],_,_,h=>by simp at h
theorem freezeO {E:World}{s:Own}{w:World}:∀ {l:List Cl} {rs:List Rc} {g:PH},ay zq l rs→At E g (qS l rs++s) w→∃ g',Le g g'∧At E g' s w∧ay (an g') l rs
 | [],[],g,_,h=>⟨g,zb9 g,h,trivial⟩
 | c::l,r::rs,g,a,h=>by
  obtain ⟨g1,d,e,f⟩:=At.freezeRow h;obtain ⟨g2,b,i,j⟩:=freezeO a.2 e;exact⟨g2,d.trans b,i,⟨a.1.1,a.1.2.1,za5 f b⟩,j⟩
 | [],_::_,_,a,_=>a.elim
 | _::_,[],_,a,_=>a.elim
theorem Gj (x y:ak)(w:World):(binOp .eql 87 (.agg (encSide.enc x).toArray)<|.agg (encSide.enc y).toArray).run Tryz.prog w = .ok (.bool<|decide<|x=y) w:=by
 have j:Tryz.prog.underlying 87=some (.struct<|Tryz.prog.fieldsOf 87):=by kernel_rfl
 rw[run_eql_struct,run_equalIn_agg w 9999 87 _ _ j stoodInHeld87]
 have f : ∃ f1 f2,(Tryz.prog.fieldsOf 87).toList = [f1,f2] ∧ f1.name ≠ "_" ∧ f2.name ≠ "_" ∧ f1.type = 3 ∧ f2.type = 3 ∧ f1.offset = 0 ∧ f2.offset = 1:=⟨_,_,rfl,by decide,by decide,rfl,rfl,rfl,rfl⟩
 obtain ⟨f1,f2,e,k,l,t1,t2,m,n⟩:=f;obtain ⟨a,b⟩:=x;obtain ⟨c,d⟩:=y;rw[e];have o:=run_equalIn_int (P:=Tryz.prog) w 9998 3 .i64 .i64 a c uT3;have p:=run_equalIn_int (P:=Tryz.prog) w 9998 3 .i64 .i64 b d uT3;simp only[Op.eqFields,k,l,t1,t2,m,n,encSide,part,ne_eq,not_false_eq_true,if_true,Sem.run_bind,iT3,zd2];simp[o,p];by_cases g:a=c <;> by_cases i:b=d <;> simp[g,i]
theorem SU.eqlSide {N:Nat}{f:Fr}{dst:Option Tmp}{ty:TypeId}{pos:String}{af:Array Edge}{gd:Option<|Nat×Bool}{x y:Operand}(a b:ak){U:TypeId}(d:ev f x=some (.agg (encSide.enc a).toArray))(e:ev f y=some (.agg (encSide.enc b).toArray)) :
  SU Tryz.prog N ⟨dst,.binOp .eql 87 x y U,ty,pos,af,gd⟩ f<|.bool<|decide<|a=b:=fun ac w c=>by
 have hg:=run_eqGuard_agg (P:=Tryz.prog) w .eql 87 x y (encSide.enc a).toArray (encSide.enc b).toArray eqGuardType87;simp only[execOp,c.ev d,c.ev e,Sem.run_bind,hg,zd2,Gj];rfl
theorem zI {l:List Int}(h:l.Pairwise (· ≤ ·)):fh l=l:=by
 unfold fh;exact List.mergeSort_of_pairwise (h.imp fun h=>by simpa using h)
theorem Gm:dM [0,1]=[0,1]:=by
 unfold dM;rw[zI dC];rfl
theorem kz (h:(l.all fun c=>decide<|c.sides.length<100)=true)(a:l.length<100):aM l:=by
 rw[zk1] at h;exact⟨oM,fun c hc=>by have:=h c hc;simp at this;omega⟩
theorem ay.cons_left {α β:Type}{R:α→β→Prop}{a:α}{l:List α}{m:List β}(h:ay R (a::l) m):∃ b c,m=b::c∧R a b∧ay R l c:=by
 cases m with
 | nil=>exact h.elim
 | cons b m=>exact⟨b,m,rfl,h.1,h.2⟩
theorem ay.nil_left {α β:Type}{R:α→β→Prop}{m:List β}(h:ay R ([]:List α) m):m=[]:=by
 cases m with
 | nil=>rfl
 | cons b m=>exact h.elim
theorem cG {g:PH}{c:Cl}{r:Rc}(h:an g c r):∃ p d,r=⟨c.id,c.dim,⟨p,c.sides.length,d⟩⟩∧SlA encSide g (.slice p c.sides.length d) c.sides:=by
 obtain ⟨i,j,p,n,d⟩:=r;obtain ⟨b,e,a⟩:=h;dsimp only at b e a;have f:=(IK a).1;subst b e f;exact⟨p,d,I,a⟩
theorem DF {α:Type}{key:α→Int}{l out:List α}{x:α}(g:Srt key out)(b:aN key l out)(i:∀ y∈out.take k,key y≤key x)(e:∀ y∈out.drop k,key x<key y) :
  Srt key (out.take k++x::out.drop k)∧aN key (l++[x]) (out.take k++x::out.drop k):=by
 have c:Srt key<|out.take k++out.drop k:=by rw[zj3];exact g
 have d:=Srt.append_iff.1 c;refine⟨Srt.append_iff.2 ⟨d.1,Srt.cons_iff.2 ⟨fun y a=>Int.le_of_lt<|e y a,d.2.1⟩,fun y a z hz=>?_⟩,?_⟩
 ·rcases zf2.1 hz with rfl | hz
  ·exact i y a
  ·exact d.2.2 y a z hz
 ·have f:aN key (l++[x])<|out++[x]:=b.append<|aN.refl [x];have j:aN key (out.drop k++[x])<|[x]++out.drop k:=aN.swap (fun y a z hz=>by simp at hz;subst hz;have:=e y a;omega);have m:=aN.append (aN.refl (key:=key)<|out.take k) j;have n:out++[x]=out.take k++(out.drop k++[x]):=by rw[← zg9,zj3]
  rw[n] at f;simpa using f.trans m
theorem xV {α:Type}{key:α→Int}{out:List α}{c:Int}(e:Srt key out)(b:k<out.length)(h:c<key out[k]):∀ y∈out.drop k,c<key y:=by
 rw[zg7 b];intro y a;have d:Srt key<|out.drop k:=List.Pairwise.sublist (List.drop_sublist k out) e;rw[zg7 b] at d
 rcases zf2.1 a with rfl | a
 ·exact h
 ·have:=(Srt.cons_iff.1 d).1 y a;omega
theorem rY (v:Value)(l:List ak)(P:SlA encSide g v l)(hl:l.length<1099511627776) :
  Ctr Tryz.prog E 111 #[v] g s fun r g' s'=>s=s'∧Le g g'∧SlA encSide g' r (sortBy ak.cell l):=by
 obtain ⟨p,c,rfl⟩:=za4 P;refine zb2 (args:=[.slice p l.length c]) func111 I ntmps111 (bE I)<|rZ<|aT I<|rZ<|aT I<|sQ<|rZ<|aT I<|bK<|oP (ι:=PH×Value×List ak×Nat) (fun i=>[(0,.slice p l.length c),(3,i.2.1),(4,vi i.2.2.2)]) (fun i=>i.1) (fun _=>s)
  (fun i=>Le g i.1∧SlA encSide i.1 i.2.1 i.2.2.1∧i.2.2.2≤l.length∧Srt ak.cell i.2.2.1∧aN ak.cell (l.take i.2.2.2) i.2.2.1) (fun i=>l.length - i.2.2.2)
  (g,.slice none 0 0,[],0) sB rfl rfl ⟨zb9 g,zc1 g _,zf7 _,Srt.nil,aN.refl _⟩ ?_
 rintro ⟨g1,ov,out,i⟩ ⟨j,a,Y,f,t⟩;dsimp only at j a Y f t ⊢;have Z:out.length=i:=by have:=t.1;rw[ze5] at this;omega
 obtain ⟨q,d,rfl⟩:=za4 a;have a0:=(IK a).2;refine sQ<|sW I<|lM I<|lU (eN aW I)<|yL I<|tZ<|iP I (fun Q=>?_) (fun Q=>?_)
 ·have D:i<l.length:=oM;have A:=za6 (P.mono j) oM;have F:l[((i:Nat):Int).toNat]?=some l[i]:=bd D;have R:l.take (i+1)=l.take i++[l[i]]:=tS D;generalize l[i]=x at *;refine kP<|tN<|sQ<|bK<|rZ<|aT I<|lu (ι:=Nat) (fun k=>[(0,.slice p l.length c),(3,.slice q out.length d),(4,vi i),(5,vi k)]) (fun _=>g1) (fun _=>s) (fun k=>k≤out.length∧(∀ y∈out.take k,y.cell≤x.cell)∧∀ y∈out.drop k,x.cell<y.cell) ?_ ?_
  ·refine bK<|oP (ι:=Nat) (fun k=>[(0,.slice p l.length c),(3,.slice q out.length d),(4,vi i),(5,vi k)]) (fun _=>g1) (fun _=>s) (fun k=>k≤out.length∧∀ y∈out.take k,y.cell≤x.cell) (fun k=>out.length - k) 0
    sB rfl rfl ⟨zf7 _,by simp⟩ ?_
   rintro k ⟨G,b⟩;by_cases H:(k:Int)<(out.length:Int)
   ·have B:k<out.length:=oM;have J:=za6 a oM;have hd:decide ((k:Int)<(out.length:Int))=true:=zf9 H;refine sQ<|sQ<|dW [] [(0,2),(1,2),(2,2),(3,2),(4,2),(5,2),(6,2),(7,2),(8,2),(9,1),(10,2),(11,2),(12,2),(13,2),(14,1),(15,2),(16,2)] ze4 kR<|yM I<|yM I<|pU I (eN aW I)<|pU I (SU.eq (lS I I)<|ze3 vb hd)<|yM I<|yJ I<|yJ I<|zb3 I (gT I I I dC) (iA aW aV I I J oM sL) dC<|zb3 I (gT I I I dC) (fC dh I zT3 I J) dC<|By I (gT I I I dC) (aZ (o:=0) iT3 I a.rd (bd B) I) dC ?_;refine yJ I<|yJ I<|zb3 I (gT I I I dC) (iA aW aV I I A oM sL) dC<|zb3 I (gT I I I dC) (fC dh I zT3 I A) dC<|By I (gT I I I dC) (aZ (o:=0) iT3 I (P.mono j).rd F I) dC<|zb3 I (gT I I I dC) (JG I I) dC<|pU I (wT I I)<|du<|tN<|iP I (fun hc=>?_) (fun hc=>?_)
    ·refine kP<|tN<|bK<|rG<|lM I<|yD I<|lA I<|cp<|bN ?_;exact ct (k+1) sB I I ⟨oM,by
      rw[tS B];intro y hy
      rcases zf4.1 hy with h | h
      ·exact b y h
      ·simp at h;subst h;exact hc⟩ oM
    ·exact xI<|tX<|tX<|bX<|za9 k sB I I ⟨G,b,xV f B oM⟩
   ·have hd:decide ((k:Int)<(out.length:Int))=false:=zf8 H;exact sQ<|sQ<|dW [] [(0,2),(1,2),(2,2),(3,2),(4,2),(5,2),(6,2),(7,2),(8,2),(9,1),(10,2),(11,2),(12,2),(13,2),(14,1),(15,2),(16,2)] ze4 kR<|yM I<|yM I<|pU I (eN aW I)<|pU I (SU.eq (lS I I)<|ze3 vb hd)<|yM I<|yG I<|yG I<|yG I<|yG I<|yI I<|yG I<|yG I<|yG I<|yG I<|yI I<|yG I<|pU I (wF I I)<|du<|tN<|za1 I<|xI<|tX<|tX<|bX<|za9 k sB I I ⟨G,b,by rw[List.drop_eq_nil_of_le oM];simp⟩
  ·rintro k ⟨G,S,T⟩;have u:=DF f t S T;have L:=IC a (l:=k) (m:=out.length) G<|dm _;have M:=IC a (l:=0) (m:=k) (zf7 _) G;rw[tL<|by rw[zf1];exact dm _] at L;rw[List.drop_zero,Nat.sub_zero] at M;refine sQ<|dW [8] [(0,2),(1,2),(2,2),(3,1),(5,2),(6,2),(7,2),(4,0),(8,0),(9,2)] ze4 kR<|yM I<|yM I<|pU I (iA aW aV I I A oM sL)<|gB I (iN iV aV I (P.mono j).rd F)<|yM I<|yM I<|pU I (Ik aW aV I I oM oM)<|mf I (bS sty45 I I I (ab ⟨I,trivial⟩) dC) dC (.inr iR) ?_;rintro _ _ _ ⟨a1,rfl,rfl,rfl⟩;refine JJ (fun w hw=>Ig (e:=encSide) (l:=[x]) (n:=0) hw I I dC) ?_;refine mf I (aQ (e:=encSide) 0 sty45 I I I L (by rw[zf1];(first | with_reducible rfl | ((try dsimp only);(try simp only[ze6,ze9,zc5,ze8,ze5,zf1])<;>omega)))<|by rw[zf1];(first | with_reducible rfl | ((try dsimp only);(try simp only[ze6,ze9,zc5,ze8,ze5,zf1])<;>omega))) dC (.inl dC) ?_;rintro v40 _ _ ⟨rfl,rfl⟩;refine pU I (aS I) (du<|tN<|fS fun g2 z U=>?_);have C:SlA encSide g2 v40<|[x]++out.drop k:=U;refine rG<|lW (bS sty45 I I I (ab trivial) dC) ?_;rintro _ _ _ ⟨V,rfl,rfl,rfl⟩;refine Is 87 2 (some ⟨V,0,none⟩)<|lM I<|lM I<|lU (Il aW aV I I oM oM)<|lW (aQ (e:=encSide) (l:=[]) 0 sty45 I I I (M.mono z) (by rw[ze5];(first | with_reducible rfl | ((try dsimp only);(try simp only[ze6,ze9,zc5,ze8,ze5,zf1])<;>omega)))<|by rw[ze5];(first | with_reducible rfl | ((try dsimp only);(try simp only[ze6,ze9,zc5,ze8,ze5,zf1])<;>omega))) ?_;rintro v45 _ _ ⟨rfl,rfl⟩;refine lM I<|lW (aQ (e:=encSide) 0 sty45 I I I C lN lN) ?_;rintro v47 _ _ ⟨rfl,rfl⟩;refine lA I (cp<|bN<|tN<|rG<|lM I<|yD I<|lA I<|cp<|fT fun g3 N W=>?_);refine dR (s':=s) uR ?_;have O:SlA encSide g3 v47<|out.take k++x::out.drop k:=by have h:SlA encSide g3 v47<|[]++out.take k++([x]++out.drop k):=W;simpa using h
   exact ct (g3,v47,out.take k++x::out.drop k,i+1) sB I I ⟨j.trans<|z.trans N,O,lN,u.1,by dsimp only;rw[R];exact u.2⟩ lN
 ·have X:l.take i=l:=tL oM;rw[X] at t;exact xI<|tX<|tX<|bX<|tN<|sW I<|aT I<|rE<|za8 (.inl I) results111 I ⟨I,j,by rw[← bl f t];exact a⟩
theorem ay.drop {α β:Type}{R:α→β→Prop}:∀ {l:List α} {m:List β} (k:Nat),ay R l m→ay R (l.drop k) (m.drop k)
 | _,_,0,h=>by simpa using h
 | [],[],k+1,_=>trivial
 | _::_,_::_,k+1,h=>by simpa using ay.drop k h.2
 | [],_::_,_+1,h=>h.elim
 | _::_,[],_+1,h=>h.elim
theorem ay.take {α β:Type}{R:α→β→Prop}:∀ {l:List α} {m:List β} (k:Nat),ay R l m→ay R (l.take k) (m.take k)
 | _,_,0,_=>by simp;trivial
 | [],[],k+1,_=>trivial
 | _::_,_::_,k+1,h=>⟨h.1,ay.take k h.2⟩
 | [],_::_,_+1,h=>h.elim
 | _::_,[],_+1,h=>h.elim
theorem ai.cut {g:PH}{p:Option Addr}{c a b n:Nat}(h:ai g (.slice p n c) l)(f:a≤b)(hb:b≤l.length):ai g (sliced p a b c 3)<|(l.drop a).take<|b - a:=by
 obtain ⟨rs,d,e⟩:=h;have hl:=e.length;have hn:=(IK d).1;subst hn;exact⟨_,IC d f oM,ay.take (b - a)<|ay.drop a e⟩
theorem ai.cap {g:PH}{p:Option Addr}{c n:Nat}(h:ai g (.slice p n c) l):n=l.length∧l.length≤c:=by
 obtain ⟨rs,a,b⟩:=h;have:=IK a;rw[b.length];exact⟨this.1,this.2⟩
theorem ny (l:List Cl):aa l=sortBy Cl.id (l.map cH):=by
 unfold aa;rw[nn];rfl
theorem jm (l:List Cl):Srt Cl.id<|aa l:=by rw[ny];exact c8 _
theorem qO (l:List Cl):aN Cl.id (l.map cH)<|aa l:=by rw[ny];exact cI _
theorem Tryz.buildF61 (x y:Int)(v:Value)(a:v.cells = #[v])(w:World):(Instr.build 61 #[(0,vi x),(1,vi y),(2,v)]).run Tryz.prog w = .ok (.agg #[vi x,vi y,v]) w:=by
 have hz:(Value.agg #[vi 0,vi 0,Value.slice none 0 0]).cells = #[vi 0,vi 0,.slice none 0 0]:=rfl;have b:(vi x).cells = #[vi x]:=rfl;have c:(vi y).cells = #[vi y]:=rfl;simp[Instr.build,Instr.fill,a,hz,b,c]
theorem mN (n:Nat)(h:n<4611686018427387904):IntKind.i64.wrap (((n:Nat):Int).tdiv 2)=((n / 2:Nat):Int):=by
 have a:((n:Nat):Int).tdiv 2=((n / 2:Nat):Int):=by
  rw[Int.tdiv_eq_ediv_of_nonneg oM];simp
 rw[a,zl1 _ oM]
theorem kL (E:World):∀ (n:Nat) (g:PH) (s:Own) (v:Value) (l:List Cl),l.length≤n→ai g v l→aM l →
  Ctr Tryz.prog E 96 #[v] g s (fun r g' s'=>s=s'∧Le g g'∧ai g' r (aa l)):=by
 intro n;induction n with
 | zero =>
  intro g s v l hn V hf;have Y:l=[]:=zf5 oM;subst Y;obtain ⟨p,c,rfl⟩:=V.form;refine zb2 (args:=[.slice p 0 c]) func96 I ntmps96 (bE I)<|rZ<|aT I<|sQ<|sW I<|lU (eN aB I)<|yE I<|tZ<|iP I (fun h0=>?_) (fun h0=>?_)
  ·exact rZ<|aT I<|rE<|tR<|za8 (.inl I) results96 I ⟨I,zb9 g,[],zc1 g _,trivial⟩
  ·exact absurd I h0
 | succ n ih =>
  intro g s v l hn V hf;obtain ⟨rs,O,P⟩:=V;have V:ai g v l:=⟨rs,O,P⟩;have d3:=P.length;have d6:=hf.1;obtain ⟨p,c,rfl⟩:=V.form;have d4:=(ai.cap V).2;refine zb2 (args:=[.slice p l.length c]) func96 I ntmps96 (bE I)<|rZ<|aT I<|sQ<|sW I<|lU (eN aB I)<|yE I<|tZ<|iP I (fun h0=>?_) (fun h0=>?_)
  ·have Y:l=[]:=zf5 oM;subst Y;exact rZ<|aT I<|rE<|tR<|za8 (.inl I) results96 I ⟨I,zb9 g,[],zc1 g _,trivial⟩
  ·refine kP<|tN<|sQ<|sW I<|lU (eN aB I)<|yE I<|tZ<|iP I (fun h1=>?_) (fun h1=>?_)
   ·obtain ⟨x,Z⟩:∃ x,l=[x]:=by
     match l,h1 with
     | [x],_=>exact⟨x,rfl⟩
     | [],h=>simp at h
     | _::_::_,h=>simp at h;omega
    subst Z;obtain ⟨r,d7,rfl,hr,b5⟩:=ay.cons_left P;have a3:=ay.nil_left b5;subst a3;obtain ⟨rp,rd,rfl,b6⟩:=cG hr;have G:=O.based dO;have b7:=hf.2 x dO;refine sQ<|dW [] [(0,2),(1,2),(2,2),(3,1),(4,2),(5,2),(6,2),(7,1),(8,2),(9,2),(10,2),(11,1),(12,0),(13,2),(14,0),(15,2)] ze4 kR<|yM I<|pU I (iA aB ar I I G dC (show (0:Int)<((1:Nat):Int) by decide)) ?_;refine pU I (fC ap I zT3 I G)<|gB I (aZ (e:=encCell) (o:=0) (j:=0) (u:=vi x.id) iT3 I O.rd I I)<|yM I<|pU I (iA aB ar I I G dC (show (0:Int)<((1:Nat):Int) by decide)) ?_;refine pU I (fC ap I zT3 I G)<|gB I (aZ (e:=encCell) (o:=1) (j:=0) (u:=vi x.dim) iT3 I O.rd I I)<|yM I<|pU I (iA aB ar I I G dC (show (0:Int)<((1:Nat):Int) by decide)) ?_;refine pU I (fC ap I aI I G)<|gB I (aZ (e:=encCell) (o:=2) (j:=0) (u:=.slice rp x.sides.length rd) bg I O.rd I I)<|mf I (bt call111 I<|rY E g _ _ x.sides b6 b7) dC (.inr iR) ?_;rintro v24 g1 _ ⟨rfl,D,a4⟩;obtain ⟨q,d,rfl⟩:=za4 a4;refine pU I (za3 I<|buildF61 _ _ _ I)<|mf I (bS sty27 I I I (ab sB) dC) dC (.inr iR) ?_;rintro _ _ _ ⟨d8,rfl,rfl,rfl⟩;refine pU I (aS I) (du<|tN<|rE<|tR<|I6 fun g2 C hb=>?_);exact za8 (.inl I) results96 I ⟨I,D.trans C,[⟨x.id,x.dim,⟨q,(sortBy ak.cell x.sides).length,d⟩⟩],kb hb I I,⟨⟨I,I,a4.mono C⟩,trivial⟩⟩
   ·have d9:l.length / 2<l.length:=oM;have e0:0<l.length / 2:=oM;have a5:=ai.cut V (a:=0) (b:=l.length / 2) oM oM;have a9:=ai.cut V (a:=l.length / 2) (b:=l.length) oM oM;rw[List.drop_zero,Nat.sub_zero] at a5;rw[tL<|by rw[zf1];exact dm _] at a9;have b8:aM<|l.take<|l.length / 2:=⟨by rw[ze5];omega,fun c hc=>hf.2 c<|List.mem_of_mem_take hc⟩;have b9:aM<|l.drop<|l.length / 2:=⟨by rw[zf1];omega,fun c hc=>hf.2 c<|List.mem_of_mem_drop hc⟩;have c0:=ax<|l.take<|l.length / 2;have c1:=ax<|l.drop<|l.length / 2;have b0:=jm<|l.take<|l.length / 2;have b1:=jm<|l.drop<|l.length / 2;have c2:aN Cl.id (l.map cH)<|aa (l.take<|l.length / 2)++aa (l.drop<|l.length / 2):=by
     have h2:=(qO<|l.take<|l.length / 2).append<|qO<|l.drop<|l.length / 2;rwa [← zg6,zj3] at h2
    rw[ze5] at c0;rw[zf1] at c1;refine kP<|tN<|sW I<|lM I<|lU (eN aB I)<|lU (SU.eq (v':=vi ((l.length / 2:Nat):Int)) (IZ I I dC)<|ze3 vi<|mN _ oM)<|lU (Il aB ar I I oM oM)<|lW (bt call96 I<|ih g _ _ (l.take<|l.length / 2) (by rw[ze5];omega) a5 b8) ?_;rintro va0 g1 _ ⟨rfl,D,hA⟩;refine aT I<|sW I<|lM I<|lU (eN aB I)<|lU (SU.eq (v':=vi ((l.length / 2:Nat):Int)) (IZ I I dC)<|ze3 vi<|mN _ oM)<|lU (Ik aB ar I I oM oM)<|lW (bt call96 I<|ih g1 _ _ (l.drop<|l.length / 2) (by rw[zf1];omega) (a9.mono D) b9) ?_;rintro vb0 g2 _ ⟨rfl,C,hB⟩;refine aT I<|rZ<|aT I ?_;generalize e4:aa (l.take<|l.length / 2)=A0 at *;generalize e9:aa (l.drop<|l.length / 2)=B0 at *;refine zb6 61 3<|lu (ι:=Value×Value×Value×List Cl×List Cl×List Cl×List Rc) (fun i=>[(3,i.1),(4,i.2.1),(5,i.2.2.1)]) (fun _=>g2) (fun i=>rowA encCell 61 i.2.2.1 i.2.2.2.2.2.2::s)
     (fun i=>ai g2 i.1 i.2.2.2.1∧ai g2 i.2.1 i.2.2.2.2.1∧ay (an g2) i.2.2.2.2.2.1 i.2.2.2.2.2.2∧i.2.2.2.2.2.1++i.2.2.2.1++i.2.2.2.2.1=aa l) ?_ ?_
    ·refine bK<|oP (ι:=Value×Value×Value×List Cl×List Cl×List Cl×List Cl×List Cl×List Rc) (fun i=>[(3,i.1),(4,i.2.1),(5,i.2.2.1)]) (fun _=>g2) (fun i=>rowA encCell 61 i.2.2.1 i.2.2.2.2.2.2.2.2::s)
      (fun i=>(ai g2 i.1 i.2.2.2.2.1∧ai g2 i.2.1 i.2.2.2.2.2.2.1)∧ay (an g2) i.2.2.2.2.2.2.2.1 i.2.2.2.2.2.2.2.2∧A0=i.2.2.2.1++i.2.2.2.2.1∧B0=i.2.2.2.2.2.1++i.2.2.2.2.2.2.1∧Srt Cl.id i.2.2.2.2.2.2.2.1∧aN Cl.id (i.2.2.2.1++i.2.2.2.2.2.1) i.2.2.2.2.2.2.2.1 ∧
       (∀ y∈i.2.2.2.2.2.2.2.1,∀ z∈i.2.2.2.2.1++i.2.2.2.2.2.2.1,y.id≤z.id)∧(∀ y∈i.2.2.2.2.2.1,∀ z∈i.2.2.2.2.1,y.id<z.id)) (fun i=>i.2.2.2.2.1.length+i.2.2.2.2.2.2.1.length)
      (va0,vb0,.slice none 0 0,[],A0,[],B0,[],[]) sB rfl rfl ⟨⟨hA.mono C,hB⟩,trivial,rfl,rfl,Srt.nil,aN.refl _,by simp,by simp⟩ ?_
     rintro ⟨va,c3,vo,A1,A2,B1,B2,out,ro⟩ ⟨⟨k,m⟩,A,H,J,T,L,B,Q⟩;dsimp only at k m A H J T L B Q ⊢;have f7:out.length=A1.length+B1.length:=by have:=L.1;simpa using this
     have d5:=A.length;have c4:A0.length=A1.length+A2.length:=by rw[H];simp
     have c5:B0.length=B1.length+B2.length:=by rw[J];simp
     rw[H] at b0;rw[J] at b1;have F:=(Srt.append_iff.1 b0).2.1;have R:=(Srt.append_iff.1 b1).2.1;obtain ⟨pa,ca,rfl⟩:=k.form;obtain ⟨pb,cb,rfl⟩:=m.form;have c6:=(ai.cap k).2;have c7:=(ai.cap m).2;have W:A2=[]∨B2=[]→out++A2++B2=aa l:=fun h=>by
      rw[ny];refine bl ?_ ?_
      ·rw[zg9];refine Srt.append_iff.2 ⟨T,?_,B⟩
       rcases h with rfl | rfl
       ·simpa using R
       ·simpa using F
      ·refine c2.trans ?_;rw[H,J]
       rcases h with rfl | rfl
       ·have h2:=L.append<|aN.refl (key:=Cl.id) B2;simpa using h2
       ·have h3:aN Cl.id (A2++B1)<|B1++A2:=aN.swap (fun x Z y hy=>by have:=Q y hy x Z;omega);have h4:=(aN.refl (key:=Cl.id) A1).append h3;have h5:=L.append<|aN.refl (key:=Cl.id) A2;simp only[zc7,zg9] at h4 h5 ⊢;exact h4.trans h5
     cases A2 with
     | nil =>
      exact sQ<|sW I<|lU (eN aB I)<|lU (SU.eq (v':=vb false) (gR I I) I)<|lM I<|yA I<|yA I<|yA I<|yF I<|tZ<|za1 I<|xI<|tX<|tX<|bX<|za9 (_,_,vo,[],B2,out,ro) sB I I ⟨k,m,A,W<|.inl I⟩
     | cons x A3 =>
      have U:(0:Int)<((x::A3).length:Int):=by simp
      cases B2 with
      | nil =>
       exact sQ<|sW I<|lU (eN aB I)<|lU (SU.eq (v':=vb true) (gR I I)<|ze3 vb<|zf9 U)<|lM I<|yC I<|lY I I I (eN aB I)<|lY I I I (SU.eq (v':=vb false) (gR I I) I)<|yP I<|tZ<|za1 I<|xI<|tX<|tX<|bX<|za9 (_,_,vo,x::A3,[],out,ro) sB I I ⟨k,m,A,W<|.inr I⟩
      | cons y B3 =>
       have a0:(0:Int)<((y::B3).length:Int):=by simp
       obtain ⟨ra,M,t⟩:=k;obtain ⟨rb,N,w⟩:=m;have k:ai g2 _<|x::A3:=⟨ra,M,t⟩;have m:ai g2 _<|y::B3:=⟨rb,N,w⟩;have b2:=ai.cut k (a:=1) (b:=(x::A3).length) dO<|dm _;have b3:=ai.cut m (a:=1) (b:=(y::B3).length) dO<|dm _;have c9:((x::A3).drop 1).take ((x::A3).length - 1)=A3:=by simp
       have d0:((y::B3).drop 1).take ((y::B3).length - 1)=B3:=by simp
       rw[c9] at b2;rw[d0] at b3;obtain ⟨x',f8,rfl,Z,_⟩:=ay.cons_left t;obtain ⟨y',g4,rfl,hy,_⟩:=ay.cons_left w;have a1:=M.based dO;have a2:=N.based dO;have d1:A3.length+1+(B3.length+1)+out.length≤l.length:=by simp only[ze9] at c4 c5;omega
       refine sQ<|sW I<|lU (eN aB I)<|lU (SU.eq (v':=vb true) (gR I I)<|ze3 vb<|zf9 U)<|lM I<|yC I<|lY I I I (eN aB I)<|lY I I I (SU.eq (v':=vb true) (gR I I)<|ze3 vb<|zf9 a0)<|yP I<|tZ<|za2 I<|kP<|tN<|bK<|sQ<|dW [] [(0,2),(1,2),(2,2),(3,1),(4,2),(5,2),(6,2),(7,1),(8,2)] ze4 kR<|yM I<|pU I (iA aB ar I I a2 dC a0)<|pU I (fC ap I zT3 I a2)<|gB I (aZ (e:=encCell) (o:=0) (j:=0) (u:=vi y'.id) iT3 I N.rd I I)<|yM I<|pU I (iA aB ar I I a1 dC U)<|pU I (fC ap I zT3 I a1)<|gB I (aZ (e:=encCell) (o:=0) (j:=0) (u:=vi x'.id) iT3 I M.rd I I)<|pU I (lS I I)<|du<|tN<|iP I (fun hc=>?_) (fun hc=>?_)
       ·refine sW I<|lM I<|lU (iA aB ar I I a2 dC a0)<|lK (iN (e:=encCell) (a:=y') (j:=0) dT ar I N.rd I)<|lW (bS sty27 I I I (ab sB) dC) ?_;rintro _ _ _ ⟨g5,rfl,rfl,rfl⟩;refine lW (aP (e:=encCell) 0 y' sty27 I I I I I oM oM) ?_;rintro v61 _ _ ⟨rfl,rfl⟩;refine aT I<|rG<|lM I<|lU (Ik aB ar I I dC<|by simp only[ze9];omega) ?_;refine lA I<|cp<|bN ?_;rw[Z.1,hy.1] at hc;refine ct (_,_,v61,A1,x::A3,B1++[y],B3,out++[y],ro++[y']) sB I I ⟨⟨k,b3⟩,A.append ⟨hy,trivial⟩,H,by rw[J];simp,?_,?_,?_,?_⟩ lN
        ·refine Srt.append_iff.2 ⟨T,Srt.one y,fun a f b hb=>?_⟩;simp at hb;subst hb;exact B a f b dO
        ·have h2:=L.append<|aN.refl (key:=Cl.id) [y];simpa using h2
        ·intro a f b hb;dsimp only at f hb
         rcases zf4.1 f with f | f
         ·refine B a f b ?_;simp at hb ⊢
          rcases hb with h | h | h
          ·exact .inl h
          ·exact .inr<|.inl h
          ·exact .inr<|.inr<|.inr h
         ·simp at f;subst f
          rcases zf4.1 hb with hb | hb
          ·rcases zf2.1 hb with rfl | hb
           ·omega
           ·have:=(Srt.cons_iff.1 F).1 b hb;omega
          ·exact (Srt.cons_iff.1 R).1 b hb
        ·intro a f b hb;dsimp only at f hb
         rcases zf4.1 f with f | f
         ·exact Q a f b hb
         ·simp at f;subst f
          rcases zf2.1 hb with rfl | hb
          ·omega
          ·have:=(Srt.cons_iff.1 F).1 b hb;omega
       ·refine sW I<|lM I<|lU (iA aB ar I I a1 dC U)<|lK (iN (e:=encCell) (a:=x') (j:=0) dT ar I M.rd I)<|lW (bS sty27 I I I (ab sB) dC) ?_;rintro _ _ _ ⟨g6,rfl,rfl,rfl⟩;refine lW (aP (e:=encCell) 0 x' sty27 I I I I I oM oM) ?_;rintro v69 _ _ ⟨rfl,rfl⟩;refine aT I<|rG<|lM I<|lU (Ik aB ar I I dC<|by simp only[ze9];omega) ?_;refine lA I<|cp<|bN ?_;rw[Z.1,hy.1] at hc;refine ct (_,_,v69,A1++[x],A3,B1,y::B3,out++[x],ro++[x']) sB I I ⟨⟨b2,m⟩,A.append ⟨Z,trivial⟩,by rw[H];simp,J,?_,?_,?_,?_⟩ lN
        ·refine Srt.append_iff.2 ⟨T,Srt.one x,fun a f b hb=>?_⟩;simp at hb;subst hb;exact B a f b dO
        ·have h2:aN Cl.id ([x]++B1)<|B1++[x]:=aN.swap (fun a f b hb=>by simp at f;subst f;have:=Q b hb a dO;omega);have h3:=(aN.refl (key:=Cl.id) A1).append h2;have h4:=L.append<|aN.refl (key:=Cl.id) [x];dsimp only;simp only[zg9] at h3 h4 ⊢;exact h3.trans h4
        ·intro a f b hb;dsimp only at f hb
         rcases zf4.1 f with f | f
         ·refine B a f b ?_;simp at hb ⊢
          rcases hb with h | h | h
          ·exact .inr<|.inl h
          ·exact .inr<|.inr<|.inl h
          ·exact .inr<|.inr<|.inr h
         ·simp at f;subst f
          rcases zf4.1 hb with hb | hb
          ·exact (Srt.cons_iff.1 F).1 b hb
          ·rcases zf2.1 hb with rfl | hb
           ·omega
           ·have:=(Srt.cons_iff.1 R).1 b hb;omega
        ·intro a f b hb;exact Q a f b (by simp[hb])
    ·rintro ⟨va,c3,vo,A2,B2,out,ro⟩ ⟨k,m,A,S⟩;dsimp only at k m A S ⊢;obtain ⟨ra,M,t⟩:=k;obtain ⟨rb,N,w⟩:=m;have b4:=ze3 List.length S;rw[ax] at b4;simp only[ze6] at b4;have e1:=A.length;have e2:=t.length;have e3:=w.length;refine sW I<|lM I<|lW (aQ (e:=encCell) 0 sty27 I I I M oM oM) ?_;rintro v74 _ _ ⟨rfl,rfl⟩;refine lM I<|lW (aQ (e:=encCell) 0 sty27 I I I N lN lN) ?_;rintro v76 _ _ ⟨rfl,rfl⟩;refine aT I (rE<|fT fun g3 X d2=>?_);exact za8 (.inl I) results96 I ⟨I,D.trans<|C.trans X,ro++ra++rb,d2,by rw[← S];exact (((A.append t).append w).mono fun _ _=>an.mono X)⟩
theorem co (v:Value)(l:List Cl)(b:ai g v l)(f:aM l) :
  Ctr Tryz.prog E 70 #[.agg #[v]] g s fun r g' s'=>s=s'∧Le g g'∧∃ u,r = .agg #[u]∧ai g' u (aa l):=by
 obtain ⟨p,c,rfl⟩:=b.form;refine zb2 (args:=[.agg #[.slice p l.length c]]) func70 I ntmps70 (bE I)<|rZ (bW (bO I) fun i=>?_);refine bW (aL zl9) fun j=>tZ<|rZ<|lU (bj dw I cg I)<|lK (qL ei I<|cO 1 I I)<|lW (bt call96 I<|kL E l.length g _ _ l (dm _) b f) ?_;rintro v5 g1 _ ⟨rfl,a,e⟩;obtain ⟨q,d,rfl⟩:=e.form;exact lU (za3 I<|build29 _ I)<|oZ (sK 0 ae I I I I I sB)<|tZ<|rE<|kn 0 s (.inl I) results70 I aj ae I I uR ⟨I,a,_,I,e⟩
theorem uJ (a b:Cl)(J L:Rc)(M:an g a J)(hb:an g b L)(hl:a.sides.length<1099511627776) :
  Ctr Tryz.prog E 94 #[rcv J,rcv L] g s fun r g' s'=>r=vb (decide<|a=b)∧g=g'∧s=s':=by
 obtain ⟨p,c,rfl,m⟩:=cG M;obtain ⟨q,d,rfl,n⟩:=cG hb;have f1:a.id≠b.id→(decide (a.id≠b.id)||decide (a.dim≠b.dim)||decide ((a.sides.length:Int)≠b.sides.length))=true:=fun h=>by simp[h]
 have f2:¬ a.id≠b.id→a.dim≠b.dim→(decide (a.id≠b.id)||decide (a.dim≠b.dim)||decide ((a.sides.length:Int)≠b.sides.length))=true:=fun h y=>by simp[h,y]
 have f3:¬ a.id≠b.id→¬ a.dim≠b.dim→(decide (a.id≠b.id)||decide (a.dim≠b.dim)||decide ((a.sides.length:Int)≠b.sides.length))=decide ((a.sides.length:Int)≠b.sides.length):=fun h y=>by simp[h,y]
 refine zb2 (args:=[.agg #[vi a.id,vi a.dim,.slice p a.sides.length c],.agg #[vi b.id,vi b.dim,.slice q b.sides.length d]]) func94 I ntmps94 (bE I)<|rZ (bW (bO I) fun z=>?_);refine bW (bO I) fun A=>aT I<|sQ<|SC.to (g':=g) (s':=pt A (bY #[vi b.id,vi b.dim,.slice q b.sides.length d] 61)::pt z (bY #[vi a.id,vi a.dim,.slice p a.sides.length c] 61)::s) (fun w N=>N) ?_;refine BY 26 ((decide (a.id≠b.id)||decide (a.dim≠b.dim)||decide ((a.sides.length:Int)≠b.sides.length))) ?_ ?_
 ·refine rG<|lU (bj ap I zT3 I)<|lK (qL (v:=vi a.id) iT3 I<|cO 1 I I)<|lU (bj ap I zT3 I)<|lK (qL (v:=vi b.id) iT3 I<|cO 0 I I)<|lU (nQ I I)<|lM I<|sP ?_ ?_
  ·intro i;exact yA I<|yA I<|yA I<|yA I<|yA I<|yP I<|lM I<|yA I<|yA I<|yA I<|yA I<|yA I<|yA I<|yA I<|yP I<|cp<|zb1 (by (rw[f1 i];rfl)) mI
  ·intro i;refine lY I I I (bj ap I zT3 I)<|lR (gT I I I dC) (qL (v:=vi a.dim) iT3 I<|cO 1 I I) dC<|lY I I I (bj ap I zT3 I)<|lR (gT I I I dC) (qL (v:=vi b.dim) iT3 I<|cO 0 I I) dC<|lY I I I (nQ I I)<|yF I<|lM I<|sP ?_ ?_
   ·intro j;exact yA I<|yA I<|yA I<|yA I<|yA I<|yA I<|yA I<|yP I<|cp<|zb1 (by (rw[f2 i j];rfl)) mI
   ·intro j;exact lY I I I (bj ap I aI I)<|lR (gT I I I dC) (qL (v:=.slice p a.sides.length c) bg I<|cO 1 I I) dC<|lY I I I (eN aW I)<|lY I I I (bj ap I aI I)<|lR (gT I I I dC) (qL (v:=.slice q b.sides.length d) bg I<|cO 0 I I) dC<|lY I I I (eN aW I)<|lY I I I (nQ I I)<|yF I<|cp<|zb1 (by (rw[f3 i j];rfl)) mI
 refine iQ I (fun f=>?_) (fun f=>?_)
 ·exact rZ<|aT I<|rE<|tR<|dR (s':=s) uR<|za8 (.inl I) results94 I ⟨ze3 vb<|Eq.symm (zf8 fun e=>by rw[e] at f;simp at f),I,I⟩
 ·have B:a.id=b.id:=by simp at f;exact f.1.1
  have o:a.dim=b.dim:=by simp at f;exact f.1.2
  have C:a.sides.length=b.sides.length:=by simp at f;omega
  refine kP<|tN<|sQ<|rZ<|aT I<|bK<|oP (ι:=Nat) (fun k=>[(2,pp z 0),(3,pp A 0),(5,vi k)]) (fun _=>g) (fun _=>pt A (bY #[vi b.id,vi b.dim,.slice q b.sides.length d] 61)::pt z (bY #[vi a.id,vi a.dim,.slice p a.sides.length c] 61)::s) (fun k=>k≤a.sides.length∧a.sides.take k=b.sides.take k) (fun k=>a.sides.length - k) 0
   sB rfl rfl ⟨zf7 _,by simp⟩ ?_
  rintro k ⟨P,t⟩;refine sQ<|sW I<|lU (bj ap I aI I)<|lK (qL (v:=.slice p a.sides.length c) bg I<|cO 1 I I)<|lU (eN aW I)<|yL I<|tZ<|iP I (fun D=>?_) (fun D=>?_)
  ·have u:k<a.sides.length:=oM;have x:k<b.sides.length:=oM;have F:=m.based oM;have G:=n.based oM;refine kP<|tN<|sQ<|bK<|sQ<|dW [] [(0,2),(1,1),(2,2),(3,2),(4,1),(5,2),(6,1),(7,2),(8,2),(9,1),(10,2)] ze4 kR<|pU I (bj ap I aI I)<|gB I (qL (v:=.slice p a.sides.length c) bg I<|cO 1 I I)<|yM I<|pU I (iA aW aV I I F oM sL)<|pQ I (iN iV aV I m.rd<|bd u) dC ?_;refine pU I (bj ap I aI I)<|gB I (qL (v:=.slice q b.sides.length d) bg I<|cO 0 I I)<|yM I<|pU I (iA aW aV I I G oM sL)<|pQ I (iN iV aV I n.rd<|bd x) dC ?_;refine pU I (SU.neqSide I I)<|du<|tN<|iP I (fun l=>?_) (fun l=>?_)
   ·exact rZ<|aT I<|rE<|bR<|tR<|tR<|bR<|tR<|dR (s':=s) uR<|za8 (.inl I) results94 I ⟨ze3 vb (Eq.symm<|zf8 fun e=>l<|by simp[e]),I,I⟩
   ·exact kP<|bN<|tN<|rG<|lM I<|yD I<|lA I<|cp<|ct (k+1) sB I I ⟨oM,gL u x t<|zh1 l⟩ oM
  ·have H:k=a.sides.length:=oM;subst H;have O:=iC C t;exact xI<|tX<|tX<|bX<|tN<|rZ<|aT I<|rE<|dR (s':=s) uR<|za8 (.inl I) results94 I ⟨ze3 vb<|Eq.symm<|zf9<|BT.2 ⟨B,o,O⟩,I,I⟩
theorem DL (l:List Cl):∀ (acc:List Cl) (c:Cl),(c∈acc∨c∈l)→∃ x∈l.foldl gU acc,x.id=c.id:=by
 induction l with
 | nil=>intro acc c h;rcases h with h | h;exact⟨c,h,I⟩;simp at h
 | cons y r ih =>
  intro acc c h;simp only[zi9]
  rcases h with h | h
  ·exact ih (gU acc y) c<|.inl (by unfold gU;split;exact h;simp[h])
  ·rcases zf2.1 h with rfl | h
   ·by_cases a:acc.any (fun x=>x.id == c.id)=true
    ·rw[uh a];rw[zj9] at a;obtain ⟨z,hz,e⟩:=a;obtain ⟨x,f,b⟩:=ih acc z<|.inl hz;exact⟨x,f,by rw[b];simpa using e⟩
    ·have d:acc.any (fun x=>x.id == c.id)=false:=by simpa using a
     rw[mr d];exact ih _ c (.inl<|by simp)
   ·exact ih _ c<|.inr h
theorem Gg {L:List Cl}(e:Srt Cl.id L)(l:0<k)(g:k<L.length):((L.take k).foldl gU []).any (fun x=>x.id == L[k].id)=decide (L[k].id=(L[k - 1]'oM).id):=by
 rw[Bool.eq_iff_iff,zj9,zj7];constructor
 ·rintro ⟨x,b,a⟩;have hm:=(vD _ [] x b).resolve_left dO;obtain ⟨j,i,rfl⟩:=zc8 hm;rw[ze5] at i;rw[List.getElem_take] at a;have c:(L[j]'oM).id=L[k].id:=by simpa using a
  rcases Nat.lt_or_ge j (k - 1) with h | h
  ·have m:=zd1.1 e j (k - 1) oM oM h;have f:=zd1.1 e (k - 1) k oM g oM;omega
  ·have:j=k - 1:=oM;subst this;exact c.symm
 ·intro a;have hm:(L[k - 1]'oM)∈L.take k:=by
   have:k - 1<(L.take k).length:=by rw[ze5];omega
   have f:=gM this;rwa [List.getElem_take] at f
  obtain ⟨x,b,d⟩:=DL (L.take k) [] _ (.inr hm);exact⟨x,b,by rw[d,← a];simp⟩
theorem bA (v:Value)(l:List Cl)(Q:ai g v l)(R:aM l) :
  Ctr Tryz.prog E 41 #[.agg #[v]] g s fun r g' s'=>s=s'∧Le g g'∧ai g' r (am l):=by
 obtain ⟨p,c,rfl⟩:=Q.form;have C:=jm l;have S:=ax l;have T:=R.1;refine zb2 (args:=[.agg #[.slice p l.length c]]) func41 I ntmps41 (bE I)<|rZ (bW (bO I) fun U=>?_);refine aT I<|rZ<|lU (bj dw I cg I)<|lK (qL ei I<|cO 0 I I)<|lW (bt call96 I<|kL E l.length g _ _ l (dm _) Q R) ?_;rintro v8 g1 _ ⟨rfl,J,V⟩;obtain ⟨rs,b,j⟩:=V;have W:=j.length;obtain ⟨q,d,rfl⟩:=b.form;refine aT I<|rZ<|aT I<|sQ<|rZ<|aT I<|bK<|zb6 61 3<|oP (ι:=Value×Nat×List Rc) (fun i=>[(3,.slice q rs.length d),(4,i.1),(5,vi i.2.1)]) (fun _=>g1) (fun i=>rowA encCell 61 i.1 i.2.2::pt U (bY #[.slice p l.length c] 29)::s)
  (fun i=>i.2.1≤rs.length∧ay (an g1) (((aa l).take i.2.1).foldl gU []) i.2.2) (fun i=>rs.length - i.2.1) (.slice none 0 0,0,[]) sB rfl rfl ⟨zf7 _,by simp[ay]⟩ ?_
 rintro ⟨X,k,acc⟩ ⟨Y,a⟩;dsimp only at Y a ⊢;have Z:=a.length;have D:=ig ((aa l).take k) [];simp only[ze5,zc5] at D;refine sQ<|sW I<|lM I<|lU (eN aB I)<|yL I<|tZ<|iP I (fun K=>?_) (fun K=>?_)
 ·have F:k<rs.length:=oM;have z:k<(aa l).length:=oM;have f:=b.based oM;have A:=j.get (bd z)<|bd F;have m:((aa l).take<|k+1).foldl gU []=gU (((aa l).take k).foldl gU []) (aa l)[k]:=by
   rw[tS z,zj1];rfl
  have B:rs[((k:Nat):Int).toNat]?=some rs[k]:=bd F;have t:gU (((aa l).take k).foldl gU []) (aa l)[k]=((aa l).take k).foldl gU []++[(aa l)[k]]→ay (an g1) (((aa l).take<|k+1).foldl gU []) (acc++[rs[k]]):=fun h=>by
   rw[m,h];exact a.append ⟨A,trivial⟩
  by_cases L:k=0
  ·subst L;refine kP<|tN<|sQ<|bK<|sQ<|dW [] [(0,2),(1,2),(2,2),(3,2),(4,2),(5,2),(6,2),(7,1),(8,2),(9,2),(10,2),(11,2),(12,2),(13,1),(14,2),(15,2)] ze4 kR<|yM I<|pU I (SU.eq (v':=vb true) (eQ I I) I)<|yM I<|yG I<|yG I<|yG I<|yG I<|yI I<|yG I<|yG I<|yG I<|yG I<|yG I<|yI I<|yG I<|pU I (wT I I)<|du<|tN<|za2 I<|rG<|lM I<|lM I<|lM I<|lU (iA aB ar I I f oM sL)<|lK (iN dT ar I b.rd B)<|lW (bS sty27 I I I (ab sB) dC) ?_;rintro _ _ _ ⟨M,rfl,rfl,rfl⟩;refine lW (aP (e:=encCell) 0 rs[0] sty27 I I I I I oM oM) ?_;rintro v37 _ _ ⟨rfl,rfl⟩;exact lA I<|cp<|bN<|tN<|rG<|lM I<|yD I<|lA I<|cp<|ct (v37,0+1,acc++[rs[0]]) sB I I ⟨lN,t<|mr<|by simp⟩ lN
  ·have G:k - 1<rs.length:=oM;have H:k - 1<(aa l).length:=oM;have w:=Gg C (by omega:0<k) z;have x:=j.get (bd H)<|bd G;have N:rs[((k:Int) - 1).toNat]?=some rs[k - 1]:=by rw[show ((k:Int) - 1).toNat=k - 1 by omega];exact bd G
   refine kP<|tN<|sQ<|bK<|sQ<|dW [] [(0,2),(1,2),(2,2),(3,2),(4,2),(5,2),(6,2),(7,1),(8,2),(9,2),(10,2),(11,2),(12,2),(13,1),(14,2),(15,2)] ze4 kR<|yM I<|pU I (SU.eq (v':=vb false) (eQ I I)<|ze3 vb<|zf8 oM)<|yM I<|yJ I<|yJ I<|zb3 I (gT I I I dC) (iA aB ar I I f oM sL) dC<|zb3 I (gT I I I dC) (fC ap I zT3 I f) dC<|By I (gT I I I dC) (aZ (e:=encCell) (o:=0) (u:=vi rs[k].id) iT3 I b.rd B I) dC<|yJ I<|yJ I<|zb3 I (gT I I I dC) (sU I I oM) dC<|zb3 I (gT I I I dC) (iA aB ar I I f oM sL) dC<|zb3 I (gT I I I dC) (fC ap I zT3 I f) dC<|By I (gT I I I dC) (aZ (e:=encCell) (o:=0) (u:=vi rs[k - 1].id) iT3 I b.rd N I) dC<|zb3 I (gT I I I dC) (nQ I I) dC<|pU I (wF I I)<|du<|tN<|iP I (fun n=>?_) (fun n=>?_)
   ·refine rG<|lM I<|lM I<|lM I<|lU (iA aB ar I I f oM sL)<|lK (iN dT ar I b.rd B)<|lW (bS sty27 I I I (ab sB) dC) ?_;rintro _ _ _ ⟨M,rfl,rfl,rfl⟩;refine lW (aP (e:=encCell) 0 rs[k] sty27 I I I I I oM oM) ?_;rintro v37 _ _ ⟨rfl,rfl⟩;refine lA I<|cp<|bN<|tN<|rG<|lM I<|yD I<|lA I<|cp ?_;rw[A.1,x.1] at n;exact ct (v37,k+1,acc++[rs[k]]) sB I I ⟨lN,t<|mr<|by rw[w];exact zf8 n⟩ lN
   ·refine kP<|bN<|tN<|rG<|lM I<|yD I<|lA I<|cp ?_;rw[A.1,x.1] at n;exact ct (X,k+1,acc) sB I I ⟨lN,by dsimp only;rw[m,uh<|by rw[w];exact zf9<|zh1 n];exact a⟩ lN
 ·have O:(aa l).take k=aa l:=tL oM;rw[O] at a;refine xI (tX<|tX<|bX<|tN<|sW I<|aT I<|rE<|fT fun g2 y P=>?_);exact dR (s':=s) uR<|za8 (.inl I) results41 I ⟨I,J.trans y,acc,P,a.mono fun _ _=>an.mono y⟩
def atC (l:List Cl)(id:Int):Int:=if (l.map Cl.id).contains id then lbI (l.map Cl.id) id else -1
theorem fp (v:Value)(l:List Cl)(id:Int)(R:ai g v l)(hl:l.length<1099511627776)(H:(l.map Cl.id).Pairwise (· ≤ ·)) :
  Ctr Tryz.prog E 93 #[v,vi id] g s fun r g' s'=>r=vi (atC l id)∧g=g'∧s=s':=by
 obtain ⟨rs,d,t⟩:=R;have S:=t.length;obtain ⟨p,c,rfl⟩:=d.form;have y:=kC t;have T:(l.map Cl.id).length=l.length:=by simp
 have z:∀ k (h:k<(l.map Cl.id).length) (J:k<rs.length),(l.map Cl.id)[k]=rs[k].id:=fun k h J=>by simp only[y];simp
 unfold atC;refine zb2 (args:=[.slice p rs.length c,vi id]) func93 I ntmps93 (bE I)<|rZ<|aT I<|rZ<|aT I<|sW I<|lU (eN aB I)<|aT I ?_;generalize l.map Cl.id=L at *;refine lu (ι:=Nat) (fun i=>[(0,.slice p rs.length c),(1,vi id),(5,vi i)]) (fun _=>g) (fun _=>s) (fun i=>i≤L.length∧(∀ k (h:k<L.length),k<i→L[k]<id)∧∀ k (h:k<L.length),i≤k→id≤L[k]) ?_ ?_
 ·refine bK<|oP (ι:=Nat×Nat) (fun q=>[(0,.slice p rs.length c),(1,vi id),(5,vi q.1),(6,vi q.2)]) (fun _=>g) (fun _=>s)
   (fun q=>q.1≤q.2∧q.2≤L.length∧(∀ k (h:k<L.length),k<q.1→L[k]<id)∧∀ k (h:k<L.length),q.2≤k→id≤L[k]) (fun q=>q.2 - q.1) (0,L.length)
   ⟨rfl,rfl,rfl,bP oM,trivial⟩ rfl rfl ⟨zf7 _,dm _,fun k _ h=>absurd h oM,fun k U J=>absurd U<|by dsimp only at J;omega⟩ ?_
  rintro ⟨i,j⟩ ⟨K,A,a,b⟩;dsimp only at K A a b ⊢;refine sQ<|sW I<|lM I<|yL I<|tZ<|iP I (fun M=>?_) (fun M=>?_)
  ·have f:=d.based oM;have m:(i+j) / 2<L.length:=oM;have B:(i+j) / 2<rs.length:=oM;have x:rs[((((i+j) / 2:Nat):Int)).toNat]?=some rs[(i+j) / 2]:=bd B;have n:=z _ m B;refine kP<|tN<|bK<|sW I<|lM I<|yD I<|lU (SU.eq (v':=vi (((i+j) / 2:Nat):Int)) (IZ I I dC)<|ze3 vi<|by rw[← Int.natCast_add];exact mN _ oM) ?_;refine aT I<|sW I<|lM I<|lU (iA aB ar I I f oM sL)<|lU (fC ap I zT3 I f)<|lK (aZ (e:=encCell) (o:=0) (u:=vi rs[(i+j) / 2].id) iT3 I d.rd x I)<|lM I<|yL I<|tZ<|iP I (fun hc=>?_) (fun hc=>?_)
   ·refine rG<|lM I<|yD I<|lA I<|cp<|bN<|ct ((i+j) / 2+1,j) sB I I ⟨lN,A,fun k N h=>?_,b⟩ lN;dsimp only at h;rw[← n] at hc
    rcases Nat.eq_or_lt_of_le (show k≤(i+j) / 2 by omega) with rfl | C
    ·exact hc
    ·have:=zd1.1 H k ((i+j) / 2) N m C;omega
   ·refine rG<|lM I<|lA I<|cp<|bN<|ct (i,(i+j) / 2) sB I I ⟨lN,lN,a,fun k N h=>?_⟩ lN;dsimp only at h;rw[← n] at hc
    rcases Nat.eq_or_lt_of_le (show (i+j) / 2≤k by omega) with C | C
    ·subst C;omega
    ·have:=zd1.1 H ((i+j) / 2) k m N C;omega
  ·have O:i=j:=oM;subst O;exact xI<|tX<|tX<|bX<|za9 i sB I I ⟨A,a,b⟩
 ·rintro i ⟨A,a,b⟩;have P:=HQ A a b;by_cases D:(i:Int)<(rs.length:Int)
  ·have F:i<rs.length:=oM;have G:i<L.length:=oM;have f:=d.based oM;have x:rs[((i:Nat):Int).toNat]?=some rs[i]:=bd F;have n:=z _ G F;have w:=E8 H a b G;refine sQ<|sW I<|lM I<|lU (eN aB I)<|lU (SU.eq (v':=vb true) (lS I I)<|ze3 vb<|zf9 D)<|lM I<|yC I<|yC I<|lY I I I (iA aB ar I I f oM sL)<|lY I I I (fC ap I zT3 I f)<|lR (gT I I I dC) (aZ (e:=encCell) (o:=0) (u:=vi rs[i].id) iT3 I d.rd x I) dC<|yC I<|lY I I I (eQ I I)<|yP I<|tZ<|iP I (fun hc=>?_) (fun hc=>?_)
   ·refine sW I<|aT I<|rE<|tR ?_;rw[← n] at hc;exact za8 (.inl I) results93 I ⟨by rw[← w,zf9 hc,zg2 I,P],I,I⟩
   ·refine kP<|tN<|rZ<|aT I<|rE ?_;rw[← n] at hc;exact za8 (.inl I) results93 I ⟨by rw[← w,zf8 hc];rfl,rfl,rfl⟩
  ·have Q:=EQ a oM;exact sQ<|sW I<|lM I<|lU (eN aB I)<|lU (SU.eq (v':=vb false) (lS I I)<|ze3 vb<|zf8 D)<|lM I<|yA I<|yA I<|yA I<|yA I<|yA I<|yA I<|yA I<|yF I<|tZ<|za1 I<|kP<|tN<|rZ<|aT I<|rE<|za8 (.inl I) results93 I ⟨by rw[Q];rfl,rfl,rfl⟩
theorem Dz {l:List Int}(g:l.Pairwise (· ≤ ·))(x:Int):(∀ k (h:k<l.length),k<lbI l x→l[k]<x)∧(∀ k (h:k<l.length),lbI l x≤k→x≤l[k]):=by
 induction l with
 | nil=>exact⟨fun k h=>absurd h dO,fun k h=>absurd h dO⟩
 | cons a r ih =>
  obtain ⟨f,i⟩:=zk4.1 g;obtain ⟨i1,i2⟩:=ih i;by_cases b:a<x
  ·have hl:lbI (a::r) x=lbI r x+1:=by simp[lbI,b]
   rw[hl];refine⟨fun k h c=>?_,fun k h c=>?_⟩
   ·cases k with
    | zero=>exact b
    | succ k=>exact i1 k (by simpa using h) oM
   ·cases k with
    | zero=>omega
    | succ k=>exact i2 k (by simpa using h) oM
  ·have hz:lbI (a::r) x=0:=by
    unfold lbI;rw[List.length_eq_zero_iff,List.filter_eq_nil_iff];intro y d
    rcases zf2.1 d with rfl | d
    ·simpa using Int.not_lt.1 b
    ·have:=f y d;simp;omega
   rw[hz];refine⟨fun k h c=>absurd c oM,fun k h _=>?_⟩;cases k with
   | zero=>exact Int.not_lt.1 b
   | succ k =>
    have e:k<r.length:=by simpa using h
    have:=f r[k]<|gM e;simp;omega
theorem na {tl:List Cl}(p:(tl.map Cl.id).Pairwise (· ≤ ·))(id:Int):(ah tl id=none∧atC tl id = -1)∨∃ c k,ah tl id=some c∧atC tl id=((k:Nat):Int)∧tl[k]?=some c:=by
 obtain ⟨g,s⟩:=Dz p id;by_cases hc:(tl.map Cl.id).contains id=true
 ·right;have hm:id∈tl.map Cl.id:=by simpa using hc
  obtain ⟨t,a,q⟩:=zf3.1 hm;cases f:ah tl id with
  | none =>
   have:=List.find?_eq_none.1 f t a;simp[q] at this
  | some c =>
   have i:lbI (tl.map Cl.id) id<tl.length:=by
    rcases Nat.lt_or_ge (lbI (tl.map Cl.id) id) tl.length with h | h
    ·exact h
    ·obtain ⟨j,d,rfl⟩:=zc8 a;have:=g j (by simpa using d) oM;simp at this;omega
   refine⟨c,lbI (tl.map Cl.id) id,I,by unfold atC;rw[zg2 hc],?_⟩;rw[bd i];have l:=s _ (by simpa using i)<|dm _;have m:tl[lbI (tl.map Cl.id) id].id=id:=by
    obtain ⟨j,d,rfl⟩:=zc8 a;have b:lbI (tl.map Cl.id) id≤j:=by
     rcases Nat.lt_or_ge j (lbI (tl.map Cl.id) id) with h | h
     ·have:=g j (by simpa using d) h;simp at this;omega
     ·exact h
    rcases Nat.eq_or_lt_of_le b with h | h
    ·simp only[h];exact q
    ·have u:=zd1.1 p _ j (by simpa using i) (by simpa using d) h;simp at u l;omega
   unfold ah at f;rw[List.find?_eq_some_iff_getElem] at f;obtain ⟨hp,j,d,r,n⟩:=f;have o:c.id=id:=by simpa using hp
   congr 1;rw[← r];have b:j=lbI (tl.map Cl.id) id:=by
    rcases Nat.lt_trichotomy j (lbI (tl.map Cl.id) id) with h | h | h
    ·have:=g j (by simpa using d) h;simp[r,o] at this
    ·exact h
    ·have:=n _ h;simp[m] at this
   simp only[b]
 ·left;have hn:id ∉ tl.map Cl.id:=by simpa using hc
  refine⟨?_,by unfold atC;rw[zg1 hc]⟩;unfold ah;rw[List.find?_eq_none];intro x v;simp;exact fun e=>hn<|zf3.2 ⟨x,v,e⟩
theorem CT {l:List ak}(e:l.length=2)(c:l.any cj=false):∃ a b,l=[a,b]∧(decide<|nG l≠0)=decide (a.sign=b.sign):=by
 match l,e with
 | [a,b],_ =>
  simp only[List.any_cons,List.any_nil,Bool.or_false,Bool.or_eq_false_iff] at c;have e1:a.sign=1∨a.sign = -1:=by
   have d:=c.1;simp only[cj,Bool.and_eq_false_iff,hP,ne_eq,Decidable.not_not] at d;exact d
  have e2:b.sign=1∨b.sign = -1:=by
   have d:=c.2;simp only[cj,Bool.and_eq_false_iff,hP,ne_eq,Decidable.not_not] at d;exact d
  refine⟨a,b,I,?_⟩;rw[Bool.eq_iff_iff];simp[nG];omega
theorem sJ (v:Value)(tl:List Cl)(c:Cl)(r:Rc)(hv:ai g v tl)(T:tl.length<1099511627776)(hs:(tl.map Cl.id).Pairwise (· ≤ ·))(hc:an g c r)(hl:c.sides.length<1099511627776) :
  Ctr Tryz.prog E 153 #[v,rcv r] g s fun r g' s'=>r=vi (dj tl c)∧g=g'∧s=s':=by
 obtain ⟨rs,F,L⟩:=hv;have hv:ai g v tl:=⟨rs,F,L⟩;have c5:=L.length;obtain ⟨vp,vc,rfl⟩:=F.form;obtain ⟨t,d,rfl,l⟩:=cG hc;have Y:=fun h=>l.based h;refine zb2 (args:=[.slice vp rs.length vc,.agg #[vi c.id,vi c.dim,.slice t c.sides.length d]]) func153 I ntmps153 (bE I)<|rZ (bW (bO I) fun b3=>?_);refine aT I<|sQ (SC.to (g':=g) (s':=pt b3 (bY #[vi c.id,vi c.dim,.slice t c.sides.length d] 61)::s) (fun w hw=>hw)<|BY 16 (gp c) ?_ ?_)
 ·refine rG<|lU (bj ap I zT3 I)<|lK (qL (v:=vi c.dim) iT3 I<|cO 0 I I)<|yL I<|lM I<|sP ?_ ?_
  ·intro b7;exact yA I<|yA I<|yA I<|yP I<|cp<|zb1 (by simp_all[aU,gp] <;> omega) mI
  ·intro b7;exact lY I I I (bj ap I zT3 I)<|lR (gT I I I dC) (qL (v:=vi c.dim) iT3 I<|cO 0 I I) dC<|lY I I I (gR I I)<|yF I<|cp<|zb1 (by simp_all[aU,gp] <;> omega) mI
 refine iQ I (fun m=>?_) (fun m=>?_)
 ·exact rZ<|aT I<|rE<|tR<|dR (s':=s) uR<|za8 (.inl I) results153 I ⟨by unfold dj;rw[zg2 m],I,I⟩
 ·have c6:0≤c.dim∧c.dim≤8:=by simp[gp] at m;omega
  refine kP<|tN<|rZ<|lU (bj ap I aI I)<|lK (qL (v:=.slice t c.sides.length d) bg I<|cO 0 I I)<|lU (eN aW I)<|aT I<|sQ<|BY 48 (aY c) ?_ ?_
  ·refine rG<|lU (bj ap I zT3 I)<|lK (qL (v:=vi c.dim) iT3 I<|cO 0 I I)<|yE I<|lM I<|sP ?_ ?_
   ·intro b8;refine yC I<|lY I I I (gR I I)<|yP I<|lM I<|sP ?_ ?_
    ·intro b9;exact yA I<|yA I<|yA I<|yA I<|yB I<|yB I<|yA I<|yP I<|lM I<|yA I<|yA I<|yA I<|yA I<|yB I<|yB I<|yB I<|yB I<|yB I<|yB I<|yA I<|yP I<|cp<|zb1 (by simp_all[aU,aY] <;> omega) mI
    ·intro b9;refine lY I I I (bj ap I zT3 I)<|lR (gT I I I dC) (qL (v:=vi c.dim) iT3 I<|cO 0 I I) dC<|lY I I I (eQ I I)<|yC I<|sP ?_ ?_
     ·intro Z;refine yC I<|lY I I I (nQ I I)<|lY I I I (wT I I)<|yF I<|lM I<|sP ?_ ?_
      ·intro a0;exact yA I<|yA I<|yA I<|yA I<|yB I<|yB I<|yB I<|yB I<|yB I<|yB I<|yA I<|yP I<|cp<|zb1 (by simp_all[aU,aY] <;> omega) mI
      ·intro a0;refine lY I I I (bj ap I zT3 I)<|lR (gT I I I dC) (qL (v:=vi c.dim) iT3 I<|cO 0 I I) dC<|lY I I I (gR I I)<|yC I<|sP ?_ ?_
       ·intro z;refine yC I<|lY I I I (lS I I)<|yC I<|sP ?_ ?_
        ·intro A;exact yA I<|yA I<|lY I I I (wT I I)<|lY I I I (wT I I)<|yF I<|cp<|zb1 (by simp_all[aU,aY] <;> omega) mI
        ·intro A;exact yC I<|lY I I I (gR I I)<|lY I I I (wF I I)<|lY I I I (wT I I)<|yF I<|cp<|zb1 (by simp_all[aU,aY] <;> omega) mI
       ·intro z;exact yA I<|yA I<|yA I<|yB I<|yB I<|yA I<|lY I I I (wF I I)<|yF I<|cp<|zb1 (by simp_all[aU,aY] <;> omega) mI
     ·intro Z;refine yA I<|yA I<|lY I I I (wF I I)<|yF I<|lM I<|lY I I I (bj ap I zT3 I)<|lR (gT I I I dC) (qL (v:=vi c.dim) iT3 I<|cO 0 I I) dC<|lY I I I (gR I I)<|yC I<|sP ?_ ?_
      ·intro z;refine yC I<|lY I I I (lS I I)<|yC I<|sP ?_ ?_
       ·intro A;exact yA I<|yA I<|lY I I I (wT I I)<|lY I I I (wT I I)<|yF I<|cp<|zb1 (by simp_all[aU,aY] <;> omega) mI
       ·intro A;exact yC I<|lY I I I (gR I I)<|lY I I I (wF I I)<|lY I I I (wT I I)<|yF I<|cp<|zb1 (by simp_all[aU,aY] <;> omega) mI
      ·intro z;exact yA I<|yA I<|yA I<|yB I<|yB I<|yA I<|lY I I I (wF I I)<|yF I<|cp<|zb1 (by simp_all[aU,aY] <;> omega) mI
   ·intro b8;refine yA I<|yA I<|yF I<|lM I<|lY I I I (bj ap I zT3 I)<|lR (gT I I I dC) (qL (v:=vi c.dim) iT3 I<|cO 0 I I) dC<|lY I I I (eQ I I)<|yC I<|sP ?_ ?_
    ·intro Z;refine yC I<|lY I I I (nQ I I)<|lY I I I (wT I I)<|yF I<|lM I<|sP ?_ ?_
     ·intro a0;exact yA I<|yA I<|yA I<|yA I<|yB I<|yB I<|yB I<|yB I<|yB I<|yB I<|yA I<|yP I<|cp<|zb1 (by simp_all[aU,aY] <;> omega) mI
     ·intro a0;refine lY I I I (bj ap I zT3 I)<|lR (gT I I I dC) (qL (v:=vi c.dim) iT3 I<|cO 0 I I) dC<|lY I I I (gR I I)<|yC I<|sP ?_ ?_
      ·intro z;refine yC I<|lY I I I (lS I I)<|yC I<|sP ?_ ?_
       ·intro A;exact yA I<|yA I<|lY I I I (wT I I)<|lY I I I (wT I I)<|yF I<|cp<|zb1 (by simp_all[aU,aY] <;> omega) mI
       ·intro A;exact yC I<|lY I I I (gR I I)<|lY I I I (wF I I)<|lY I I I (wT I I)<|yF I<|cp<|zb1 (by simp_all[aU,aY] <;> omega) mI
      ·intro z;exact yA I<|yA I<|yA I<|yB I<|yB I<|yA I<|lY I I I (wF I I)<|yF I<|cp<|zb1 (by simp_all[aU,aY] <;> omega) mI
    ·intro Z;refine yA I<|yA I<|lY I I I (wF I I)<|yF I<|lM I<|lY I I I (bj ap I zT3 I)<|lR (gT I I I dC) (qL (v:=vi c.dim) iT3 I<|cO 0 I I) dC<|lY I I I (gR I I)<|yC I<|sP ?_ ?_
     ·intro z;refine yC I<|lY I I I (lS I I)<|yC I<|sP ?_ ?_
      ·intro A;exact yA I<|yA I<|lY I I I (wT I I)<|lY I I I (wT I I)<|yF I<|cp<|zb1 (by simp_all[aU,aY] <;> omega) mI
      ·intro A;exact yC I<|lY I I I (gR I I)<|lY I I I (wF I I)<|lY I I I (wT I I)<|yF I<|cp<|zb1 (by simp_all[aU,aY] <;> omega) mI
     ·intro z;exact yA I<|yA I<|yA I<|yB I<|yB I<|yA I<|lY I I I (wF I I)<|yF I<|cp<|zb1 (by simp_all[aU,aY] <;> omega) mI
  refine iQ I (fun n=>?_) (fun n=>?_)
  ·exact rZ<|aT I<|rE<|tR<|dR (s':=s) uR<|za8 (.inl I) results153 I ⟨by unfold dj;rw[zg1<|by simp[m],zg2 n],I,I⟩
  ·refine kP<|tN<|sQ<|rZ<|aT I<|bK<|oP (ι:=Nat) (fun k=>[(0,.slice vp rs.length vc),(3,pp b3 0),(5,vi c.sides.length),(6,vi k)]) (fun _=>g)
    (fun _=>pt b3 (bY #[vi c.id,vi c.dim,.slice t c.sides.length d] 61)::s) (fun k=>k≤c.sides.length∧(List.range k).any (jz tl c)=false) (fun k=>c.sides.length - k) 0
    sB rfl rfl ⟨zf7 _,by simp⟩ ?_
   rintro k ⟨hk,M⟩;refine sQ<|sW I<|lM I<|yL I<|tZ<|iP I (fun c0=>?_) (fun c0=>?_)
   ·have B:k<c.sides.length:=oM;have f:=Y oM;have p:c.sides[((k:Nat):Int).toNat]?=some c.sides[k]:=bd B;have a9:c.sides[k]?=some c.sides[k]:=bd B;have a1:(k:Int)>0→∃ q,c.sides[((k:Int) - 1).toNat]?=some q∧c.sides[k - 1]?=some q:=fun h=>by
     have h2:k - 1<c.sides.length:=oM;exact⟨c.sides[k - 1],by rw[show ((k:Int) - 1).toNat=k - 1 by omega];exact bd h2,bd h2⟩
    generalize c.sides[k]=y at *;have W:jz tl c k=cJ tl c k y:=by unfold jz;rw[a9]
    have hT:cJ tl c k y=true→(List.range c.sides.length).any (jz tl c)=true:=fun h=>zj9.2 ⟨k,List.mem_range.2 B,by rw[W];exact h⟩;have hF:cJ tl c k y=false→(List.range<|k+1).any (jz tl c)=false:=fun h=>by rw[wb,List.any_append,M];simp[W,h]
    rcases na hs y.cell with ⟨c1,N⟩ | ⟨yc,kk,b0,N,b1⟩
    ·have O:cJ tl c k y=true:=pS (by rw[c1];simp);refine kP<|tN<|sQ<|bK<|sW I<|lU (bj ap I aI I)<|lK (qL (v:=.slice t c.sides.length d) bg I<|cO 0 I I)<|lM I<|lU (iA aW aV I I f oM sL)<|lU (fC dh I zT3 I f)<|lK (aZ (e:=encSide) (o:=0) (u:=vi y.cell) iT3 I l.rd p I)<|lW (bt call93 I<|fp E g _ _ tl y.cell hv T hs) ?_;rintro _ _ _ ⟨rfl,rfl,rfl⟩;rw[N];exact aT I<|sQ<|dW [] [(0,2),(1,2),(2,2),(3,2),(4,2),(5,2),(6,2),(7,1),(8,2),(9,1),(10,2),(11,2),(12,2),(13,2),(14,2),(15,2),(16,2),(17,2),(18,1),(19,2),(20,2),(21,2),(22,1),(23,2),(24,1),(25,2),(26,2),(27,2),(28,2),(29,1),(30,2),(31,2),(32,2)] ze4 kR<|yM I<|pU I (SU.eq (v':=vb true) (lS I I) I)<|yM I<|yG I<|yG I<|yG I<|yG I<|yI I<|yG I<|yI I<|yG I<|yG I<|pU I (wT I I)<|yM I<|yG I<|yG I<|yG I<|yH I<|It I (zb4 I I I dC) dC<|yH I<|yH I<|yH I<|It I (zb4 I I I dC) dC<|yH I<|It I (zb4 I I I dC) dC<|yH I<|yH I<|yH I<|yH I<|It I (zb4 I I I dC) dC<|yH I<|yG I<|pU I (wT I I)<|du<|tN<|za2 I<|rZ<|aT I<|rE<|bR<|tR<|tR<|bR<|tR<|dR (s':=s) uR<|za8 (.inl I) results153 I ⟨by unfold dj;rw[zg1<|by simp[m],zg1<|by simp[n],zg2<|hT O],I,I⟩
    ·have U:kk<tl.length:=(zf6.1 b1).1;have b2:kk<rs.length:=oM;have G:=F.based oM;have a2:=L.get b1<|bd b2;have a3:rs[((kk:Nat):Int).toNat]?=some rs[kk]:=bd b2;have C:(ah tl y.cell).isSome=true:=by rw[b0];rfl
     have P:((ah tl y.cell).getD aJ)=yc:=by rw[b0];rfl
     by_cases H:yc.dim≠c.dim - 1
     ·have O:cJ tl c k y=true:=ws C (by rw[P];exact H);refine kP<|tN<|sQ<|bK<|sW I<|lU (bj ap I aI I)<|lK (qL (v:=.slice t c.sides.length d) bg I<|cO 0 I I)<|lM I<|lU (iA aW aV I I f oM sL)<|lU (fC dh I zT3 I f)<|lK (aZ (e:=encSide) (o:=0) (u:=vi y.cell) iT3 I l.rd p I)<|lW (bt call93 I<|fp E g _ _ tl y.cell hv T hs) ?_;rintro _ _ _ ⟨rfl,rfl,rfl⟩;rw[N];refine aT I<|sQ<|dW [] [(0,2),(1,2),(2,2),(3,2),(4,2),(5,2),(6,2),(7,1),(8,2),(9,1),(10,2),(11,2),(12,2),(13,2),(14,2),(15,2),(16,2),(17,2),(18,1),(19,2),(20,2),(21,2),(22,1),(23,2),(24,1),(25,2),(26,2),(27,2),(28,2),(29,1),(30,2),(31,2),(32,2)] ze4 kR<|yM I<|pU I (SU.eq (v':=vb false) (lS I I)<|ze3 vb<|zf8 oM)<|yM I<|yJ I<|yJ I<|zb3 I (gT I I I dC) (iA aB ar I I G oM sL) dC<|zb3 I (gT I I I dC) (fC ap I zT3 I G) dC<|By I (gT I I I dC) (aZ (e:=encCell) (o:=1) (u:=vi rs[kk].dim) iT3 I F.rd a3 I) dC<|zb3 I (gT I I I dC) (bj ap I zT3 I) dC<|By I (gT I I I dC) (qL (v:=vi c.dim) iT3 I<|cO 0 I I) dC<|zb3 I (gT I I I dC) (sU I I oM) dC<|zb3 I (gT I I I dC) (SU.eq (v':=vb true) (nQ I I)<|ze3 vb<|zf9<|by rw[a2.2.1];exact H) dC ?_;exact pU I (wF I I)<|yM I<|yG I<|yG I<|yG I<|yH I<|It I (zb4 I I I dC) dC<|yH I<|yH I<|yH I<|It I (zb4 I I I dC) dC<|yH I<|It I (zb4 I I I dC) dC<|yH I<|yH I<|yH I<|yH I<|It I (zb4 I I I dC) dC<|yH I<|yG I<|pU I (wT I I)<|du<|tN<|za2 I<|rZ<|aT I<|rE<|bR<|tR<|tR<|bR<|tR<|dR (s':=s) uR<|za8 (.inl I) results153 I ⟨by unfold dj;rw[zg1<|by simp[m],zg1<|by simp[n],zg2<|hT O],I,I⟩
     ·by_cases Q:(k:Int)>0
      ·obtain ⟨q,c2,c3⟩:=a1 Q;have V:=wn (i:=k) C (by rw[P];exact H) Q c3;refine kP<|tN<|sQ<|bK<|sW I<|lU (bj ap I aI I)<|lK (qL (v:=.slice t c.sides.length d) bg I<|cO 0 I I)<|lM I<|lU (iA aW aV I I f oM sL)<|lU (fC dh I zT3 I f)<|lK (aZ (e:=encSide) (o:=0) (u:=vi y.cell) iT3 I l.rd p I)<|lW (bt call93 I<|fp E g _ _ tl y.cell hv T hs) ?_;rintro _ _ _ ⟨rfl,rfl,rfl⟩;rw[N];refine aT I<|sQ<|dW [] [(0,2),(1,2),(2,2),(3,2),(4,2),(5,2),(6,2),(7,1),(8,2),(9,1),(10,2),(11,2),(12,2),(13,2),(14,2),(15,2),(16,2),(17,2),(18,1),(19,2),(20,2),(21,2),(22,1),(23,2),(24,1),(25,2),(26,2),(27,2),(28,2),(29,1),(30,2),(31,2),(32,2)] ze4 kR<|yM I<|pU I (SU.eq (v':=vb false) (lS I I)<|ze3 vb<|zf8 oM)<|yM I<|yJ I<|yJ I<|zb3 I (gT I I I dC) (iA aB ar I I G oM sL) dC<|zb3 I (gT I I I dC) (fC ap I zT3 I G) dC<|By I (gT I I I dC) (aZ (e:=encCell) (o:=1) (u:=vi rs[kk].dim) iT3 I F.rd a3 I) dC<|zb3 I (gT I I I dC) (bj ap I zT3 I) dC<|By I (gT I I I dC) (qL (v:=vi c.dim) iT3 I<|cO 0 I I) dC<|zb3 I (gT I I I dC) (sU I I oM) dC<|zb3 I (gT I I I dC) (SU.eq (v':=vb false) (nQ I I)<|ze3 vb<|zf8<|by rw[a2.2.1];exact H) dC ?_;refine pU I (wF I I)<|yM I<|yJ I<|zb3 I (gT I I I dC) (SU.eq (v':=vb true) (gR I I)<|ze3 vb<|zf9 Q) dC<|yJ I<|zb3 I (gT I I I dC) (bj ap I aI I) dC<|By I (gT I I I dC) (qL (v:=.slice t c.sides.length d) bg I<|cO 0 I I) dC<|yJ I<|zb3 I (gT I I I dC) (iA aW aV I I f oM sL) dC<|zb3 I (gT I I I dC) (fC dh I zT3 I f) dC<|By I (gT I I I dC) (aZ (e:=encSide) (o:=0) (u:=vi y.cell) iT3 I l.rd p I) dC<|zb3 I (gT I I I dC) (bj ap I aI I) dC<|By I (gT I I I dC) (qL (v:=.slice t c.sides.length d) bg I<|cO 0 I I) dC<|yJ I<|zb3 I (gT I I I dC) (sU I I oM) dC<|zb3 I (gT I I I dC) (iA aW aV I I f oM sL) dC<|zb3 I (gT I I I dC) (fC dh I zT3 I f) dC<|By I (gT I I I dC) (aZ (e:=encSide) (o:=0) (u:=vi q.cell) iT3 I l.rd c2 I) dC<|zb3 I (gT I I I dC) (eQ I I) dC<|zb3 I (gT I I I dC) (wT I I) dC<|pU I (wF I I)<|du<|tN<|iP I (fun D=>?_) (fun D=>?_)
       ·exact rZ<|aT I<|rE<|bR<|tR<|tR<|bR<|tR<|dR (s':=s) uR<|za8 (.inl I) results153 I ⟨by unfold dj;rw[zg1<|by simp[m],zg1<|by simp[n],zg2<|hT<|by rw[V];exact zf9 D.symm],I,I⟩
       ·exact kP<|bN<|tN<|rG<|lM I<|yD I<|lA I<|cp<|ct (k+1) sB I I ⟨oM,hF<|by rw[V];exact zf8 fun e=>D e.symm⟩ oM
      ·have V:=wo (i:=k) (x:=y) C (by rw[P];exact H) Q;refine kP<|tN<|sQ<|bK<|sW I<|lU (bj ap I aI I)<|lK (qL (v:=.slice t c.sides.length d) bg I<|cO 0 I I)<|lM I<|lU (iA aW aV I I f oM sL)<|lU (fC dh I zT3 I f)<|lK (aZ (e:=encSide) (o:=0) (u:=vi y.cell) iT3 I l.rd p I)<|lW (bt call93 I<|fp E g _ _ tl y.cell hv T hs) ?_;rintro _ _ _ ⟨rfl,rfl,rfl⟩;rw[N];refine aT I<|sQ<|dW [] [(0,2),(1,2),(2,2),(3,2),(4,2),(5,2),(6,2),(7,1),(8,2),(9,1),(10,2),(11,2),(12,2),(13,2),(14,2),(15,2),(16,2),(17,2),(18,1),(19,2),(20,2),(21,2),(22,1),(23,2),(24,1),(25,2),(26,2),(27,2),(28,2),(29,1),(30,2),(31,2),(32,2)] ze4 kR<|yM I<|pU I (SU.eq (v':=vb false) (lS I I)<|ze3 vb<|zf8 oM)<|yM I<|yJ I<|yJ I<|zb3 I (gT I I I dC) (iA aB ar I I G oM sL) dC<|zb3 I (gT I I I dC) (fC ap I zT3 I G) dC<|By I (gT I I I dC) (aZ (e:=encCell) (o:=1) (u:=vi rs[kk].dim) iT3 I F.rd a3 I) dC<|zb3 I (gT I I I dC) (bj ap I zT3 I) dC<|By I (gT I I I dC) (qL (v:=vi c.dim) iT3 I<|cO 0 I I) dC<|zb3 I (gT I I I dC) (sU I I oM) dC<|zb3 I (gT I I I dC) (SU.eq (v':=vb false) (nQ I I)<|ze3 vb<|zf8<|by rw[a2.2.1];exact H) dC ?_;exact pU I (wF I I)<|yM I<|yJ I<|zb3 I (gT I I I dC) (SU.eq (v':=vb false) (gR I I)<|ze3 vb<|zf8 Q) dC<|yJ I<|yG I<|yI I<|yG I<|yG I<|yG I<|yI I<|yG I<|yI I<|yG I<|yG I<|yG I<|yG I<|yI I<|yG I<|zb3 I (gT I I I dC) (wF I I) dC<|pU I (wF I I)<|du<|tN<|za1 I<|kP<|bN<|tN<|rG<|lM I<|yD I<|lA I<|cp<|ct (k+1) sB I I ⟨oM,hF V⟩ oM
   ·refine xI<|tX<|tX<|bX<|tN<|sQ<|rZ<|aT I<|bK ?_;have U:k=c.sides.length:=oM;subst U;refine oP (ι:=Nat) (fun k=>[(3,pp b3 0),(5,vi c.sides.length),(8,vi k)]) (fun _=>g)
     (fun _=>pt b3 (bY #[vi c.id,vi c.dim,.slice t c.sides.length d] 61)::s) (fun k=>k≤c.sides.length∧(c.sides.take k).any cj=false) (fun k=>c.sides.length - k) 0
     sB rfl rfl ⟨zf7 _,by simp⟩ ?_
    rintro k ⟨c7,J⟩;refine sQ<|sW I<|lM I<|yL I<|tZ<|iP I (fun b4=>?_) (fun b4=>?_)
    ·have B:k<c.sides.length:=oM;have f:=Y oM;have p:c.sides[((k:Nat):Int).toNat]?=some c.sides[k]:=bd B;have c4:c.sides.take (k+1)=c.sides.take k++[c.sides[k]]:=tS B;have a4:c.sides[k]∈c.sides:=gM B;generalize c.sides[k]=y at *;refine kP<|tN<|sQ<|bK<|BY 115 (cj y) ?_ ?_
     ·refine rG<|lU (bj ap I aI I)<|lK (qL (v:=.slice t c.sides.length d) bg I<|cO 0 I I)<|lM I<|lU (iA aW aV I I f oM sL)<|lU (fC dh I zT3 I f)<|lK (aZ (e:=encSide) (o:=1) (u:=vi y.sign) iT3 I l.rd p I)<|lU (nQ I I)<|lM I<|sP ?_ ?_
      ·intro R;exact lY I I I (bj ap I aI I)<|lR (gT I I I dC) (qL (v:=.slice t c.sides.length d) bg I<|cO 0 I I) dC<|yC I<|lY I I I (iA aW aV I I f oM sL)<|lY I I I (fC dh I zT3 I f)<|lR (gT I I I dC) (aZ (e:=encSide) (o:=1) (u:=vi y.sign) iT3 I l.rd p I) dC<|lY I I I (nQ I I)<|yP I<|cp<|zb1 (by exact ze3 (fun b=>some<|Value.bool b) (vu R).symm) mI
      ·intro R;exact yA I<|yA I<|yA I<|yA I<|yA I<|yA I<|yA I<|yF I<|cp<|zb1 (by exact ze3 (fun b=>some<|Value.bool b) (vq R).symm) mI
     refine iQ I (fun a5=>?_) (fun a5=>?_)
     ·refine rZ<|aT I<|rE<|bR<|tR<|tR<|bR<|tR<|dR (s':=s) uR ?_;have b5:c.sides.any cj=true:=zj9.2 ⟨y,a4,a5⟩;exact za8 (.inl I) results153 I ⟨by unfold dj;rw[zg1<|by simp[m],zg1<|by simp[n],zg1<|by simp[M],zg2 b5],I,I⟩
     ·exact kP<|bN<|tN<|rG<|lM I<|yD I<|lA I<|cp<|ct (k+1) sB I I ⟨oM,by rw[c4,List.any_append,J];simp[a5]⟩ oM
    ·have U:c.sides.take k=c.sides:=tL oM;rw[U] at J;by_cases S:c.dim=1
     ·have h2:c.sides.length=2:=by
       simp[aY] at n;have:=n.1.2 S;omega
      obtain ⟨a,b,b6,X⟩:=CT h2 J;have f:=Y oM;refine xI<|tX<|tX<|bX<|tN<|sQ<|sQ<|dW [] [(0,2),(1,1),(2,2),(3,2),(4,2),(5,1),(6,2),(7,2),(8,1),(9,2),(10,1),(11,2),(12,2),(13,1),(14,2),(15,2)] ze4 kR<|pU I (bj ap I zT3 I)<|gB I (qL (v:=vi c.dim) iT3 I<|cO 0 I I)<|pU I (SU.eq (v':=vb true) (eQ I I)<|ze3 vb<|zf9 S)<|yM I<|zb3 I (gT I I I dC) (bj ap I aI I) dC<|By I (gT I I I dC) (qL (v:=.slice t c.sides.length d) bg I<|cO 0 I I) dC<|zb3 I (gT I I I dC) (iA aW aV I I f dC sL) dC<|zb3 I (gT I I I dC) (fC dh I zT3 I f) dC<|By I (gT I I I dC) (aZ (e:=encSide) (j:=0) (o:=1) (u:=vi a.sign) (a:=a) iT3 I l.rd (by rw[b6];rfl) rfl) dC ?_;refine zb3 I (gT I I I dC) (bj ap I aI I) dC<|By I (gT I I I dC) (qL (v:=.slice t c.sides.length d) bg I<|cO 0 I I) dC<|zb3 I (gT I I I dC) (iA aW aV I I f dC sL) dC<|zb3 I (gT I I I dC) (fC dh I zT3 I f) dC<|By I (gT I I I dC) (aZ (e:=encSide) (j:=1) (o:=1) (u:=vi b.sign) (a:=b) iT3 I l.rd (by rw[b6];rfl) rfl) dC ?_;refine zb3 I (gT I I I dC) (eQ I I) dC<|pU I (wT I I)<|du<|tN<|iP I (fun D=>?_) (fun D=>?_)
      ·exact rZ<|aT I<|rE<|tR<|dR (s':=s) uR<|za8 (.inl I) results153 I ⟨by unfold dj;rw[zg1<|by simp[m],zg1<|by simp[n],zg1<|by simp[M],zg1<|by simp[J],zg2<|by rw[X];simp[S,D]],I,I⟩
      ·exact kP<|tN<|rZ<|aT I<|rE<|dR (s':=s) uR<|za8 (.inl I) results153 I ⟨by unfold dj;rw[zg1<|by simp[m],zg1<|by simp[n],zg1<|by simp[M],zg1<|by simp[J],zg1<|by rw[X];simp[D]],I,I⟩
     ·exact xI<|tX<|tX<|bX<|tN<|sQ<|sQ<|dW [] [(0,2),(1,1),(2,2),(3,2),(4,2),(5,1),(6,2),(7,2),(8,1),(9,2),(10,1),(11,2),(12,2),(13,1),(14,2),(15,2)] ze4 kR<|pU I (bj ap I zT3 I)<|gB I (qL (v:=vi c.dim) iT3 I<|cO 0 I I)<|pU I (SU.eq (v':=vb false) (eQ I I)<|ze3 vb<|zf8 S)<|yM I<|yG I<|yI I<|yG I<|yG I<|yI I<|yG I<|yI I<|yG I<|yG I<|yI I<|yG I<|pU I (wF I I)<|du<|tN<|za1 I<|kP<|tN<|rZ<|aT I<|rE<|dR (s':=s) uR<|za8 (.inl I) results153 I ⟨by unfold dj;rw[zg1<|by simp[m],zg1<|by simp[n],zg1<|by simp[M],zg1<|by simp[J],zg1<|by simp[S]],I,I⟩
end Go.Proofs.YtpmoadbbfobbcaaGreatDoor
