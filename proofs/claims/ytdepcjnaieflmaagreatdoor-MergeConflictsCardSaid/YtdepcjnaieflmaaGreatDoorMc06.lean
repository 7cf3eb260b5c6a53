/- 6 -/
import Derived.Test.YtdepcjnaieflmaaGreatDoorMc05
import Derived.Shelf.SlIterI.Sorted
set_option linter.unusedSimpArgs false
set_option linter.unusedVariables false
namespace Go.Proofs.YtdepcjnaieflmaaGreatDoor
open _root_.Go.Proofs.Tryz _root_.Go.Proofs.YtdepcjnaieflmaaGreatDoor.Tryz
open Go Go.Sy Go.Pl Go.Proofs Go.Shelf Go.Sort
set_option maxRecDepth 100000
def Tryz.keysA_ren:Ren :=
 {
  f:=fun x =>
   match x with
   | 7=>84
   | 10=>132
   | n=>n,
  t:=fun x =>
   match x with
   | 23=>96
   | 26=>3
   | 3=>4
   | 28=>68
   | 0=>0
   | 27=>67
   | 33=>122
   | 4=>4
   | n=>n,
  g:=fun x =>
   have n:=x;
   n }
theorem Tryz.keysA:SlLaysZI.n7 Tryz.prog Tryz.keysA_ren :=
  {
  mixed:=Eq.refl true,
  f7 :=
   Exists.intro "maps.Keys[map[int]bool,int,bool]"
    ⟨zg5 (id (Eq.refl true)),
     zb8 func84
      (ze4 some
       kR)⟩,
  f10 :=
   Exists.intro "maps.Keys[map[int]bool,int,bool]$1"
    ⟨zg5 (id (Eq.refl true)),
     zb8 func132
      (ze4 some
       kR)⟩,
  t0:=uT0,a0:=isAgg0,z0:=sizeOf0,v0:=zm4,t4:=uT4,
  a4:=isAgg4,z4:=zT4,v4:=zl9,t23:=underlying96,a23:=isAgg96,
  z23:=sizeOf96,v23:=zeroValue96,t26:=uT3,a26:=iT3,z26:=zT3,
  v26:=zl4,t27:=underlying67,a27:=isAgg67,z27:=sizeOf67,v27:=zeroValue67,
  t28:=underlying68,a28:=isAgg68,z28:=sizeOf68,v28:=zeroValue68,
  t33:=underlying122,a33:=isAgg122,z33:=sizeOf122,v33:=zeroValue122 }
def Tryz.sortedA_ren:Ren :=
 {
  f:=fun x =>
   match x with
   | 6=>83
   | 8=>89
   | 9=>59
   | 11=>134
   | 13=>97
   | 12=>111
   | 23=>149
   | 24=>150
   | 14=>163
   | 15=>164
   | 16=>165
   | 17=>166
   | 18=>167
   | 19=>168
   | 20=>169
   | 21=>170
   | 22=>171
   | 25=>204
   | 26=>191
   | 27=>192
   | 28=>205
   | 29=>206
   | 30=>100
   | 31=>231
   | n=>n,
  t:=fun x =>
   match x with
   | 26=>3
   | 28=>68
   | 24=>32
   | 0=>0
   | 3=>3
   | 37=>138
   | 48=>181
   | 50=>183
   | 4=>4
   | 40=>175
   | 39=>174
   | 45=>108
   | 5=>5
   | 9=>9
   | 51=>217
   | 55=>221
   | 57=>234
   | 58=>235
   | 33=>122
   | n=>n,
  g:=fun x =>
   have n:=x;
   n }
theorem Tryz.sortedA:SlLaysZI.n6 Tryz.prog Tryz.sortedA_ren :=
  {
  mixed:=Eq.refl true,
  f6 :=
   Exists.intro "slices.Sorted[int]"
    ⟨zg5 (id (Eq.refl true)),
     zb8 func83
      (ze4 some
       kR)⟩,
  f8 :=
   Exists.intro "slices.Collect[int]"
    ⟨zg5 (id (Eq.refl true)),
     zb8 func89
      (ze4 some
       kR)⟩,
  f11 :=
   Exists.intro "slices.AppendSeq[[]int,int]"
    ⟨zg5 (id (Eq.refl true)),
     zb8 func134
      (ze4 some
       kR)⟩,
  t0:=uT0,a0:=isAgg0,z0:=sizeOf0,v0:=zm4,t24:=az,
  a24:=ic,z24:=fW,v24:=zeroValue32,t26:=uT3,a26:=iT3,
  z26:=zT3,v26:=zl4,t28:=underlying68,a28:=isAgg68,z28:=sizeOf68,
  v28:=zeroValue68,i26:=Eq.refl (some (some (Value.int IntKind.i64 0),1,8)) }
theorem Tryz.sortsA (m:Nat):AnyZI.SortsIn Tryz.prog Tryz.sortedA_ren Fence.wide m :=
 -- 83
 ⟨fun blk off cap ss W c a b=>callsIn_wide.2 (Any.slices_Sort_int lays189 blk off cap ss W c a b),
  fun p cap W=>callsIn_wide.2 (Any.slices_Sort_int_none lays189 p cap W)⟩
theorem Ci (E:World)(g:PH)(s:Own)(m:Nat) :
  Ctr Tryz.prog E 84 #[.map<|some m] g s (fun r g' s'=>s=s'∧Le g g'∧∃ b,r = .func (.func 132) #[] #[pp b 0]∧g' b=some (bY #[.map<|some m] 96)):=by
 refine zb2 (args:=[.map<|some m]) func84 I ntmps84 (bE I)<|rZ (bW (bO I) fun c=>?_);refine aT I (rZ<|lU (SU.mkFunc I)<|aT I<|rE<|ST.freeze fun g1 a hb=>?_);exact za8 (.inl I) results84 I ⟨I,a,_,I,hb⟩
def a8 (x:Int):Prop:=-9223372036854775808≤x∧x≤9223372036854775807
theorem Eh {x:Int}(h:a8 x):(Lit.int .i64 x).wf=true:=by
 unfold a8 at h;simp[Lit.wf,IntKind.min,IntKind.max,IntKind.bits,IntKind.signed];omega
theorem wB (E:World)(hE:E.drawn=0)(g:PH)(s:Own)(b m:Nat)(l:List (Int×Value))(hb:g b=some (bY #[.map<|some m] 96))(hm:Mp g m l)(hl:l.length<1099511627776)(hw:∀ p∈l,a8 p.1) :
  Ctr Tryz.prog E 83 #[.func (.func 132) #[] #[pp b 0]] g s (fun r g' s'=>s=s'∧Le g g'∧dp g' r (eW<|l.map Prod.fst)):=by
 intro w a;obtain ⟨es,clk,U,B,V⟩:=hm;have M:es.toList.length=l.length:=by have:=ze4 List.length B;simpa using this
 have N:es.size=l.length:=by simpa using M
 have C:∀ x∈es.toList,∃ y,WideElems.rd (H:=Unit) Tryz.prog 3 (fun _=>some (.lit<|.bool true,[])) x=some y∧∃ p∈l,y.1 = .int .i64 p.1:=fun x t=>by
  have A:ny x∈es.toList.map ny:=zf4.2 ⟨x,t,rfl⟩;rw[B] at A;obtain ⟨p,hp,W⟩:=zf4.1 A;have d:x.key=vi p.1:=(ze4 Prod.fst W).symm;have u:keyOf Tryz.prog 3 x.key=some (.int .i64 p.1):=by
   rw[d];exact Maps.keyOf_int_mk uT3<|Eh<|hw p hp
  exact⟨(.int .i64 p.1,.lit<|.bool true),by simp[WideElems.rd,u],p,hp,I⟩
 have O:w.ownsMap Tryz.prog 3 (fun _=>some (.lit<|.bool true,[])) m l.length (.map<|(es.toList.map<|WideElems.rg (H:=Unit) Tryz.prog 3<|fun _=>some (.lit<|.bool true,[])).foldr DataW.insert []) :=
  ⟨es,clk,a.known _ _ U,⟨by rw[N];unfold maxLen;omega,V,fun x t=>(C x t).imp fun _ h=>h.1⟩,oM,rfl⟩
 have i:(l.map Prod.fst).Perm (intKeys<|.map<|(es.toList.map<|WideElems.rg (H:=Unit) Tryz.prog 3<|fun _=>some (.lit<|.bool true,[])).foldr DataW.insert []):=by
  have A:(es.toList.map<|WideElems.rg (H:=Unit) Tryz.prog 3<|fun _=>some (.lit<|.bool true,[])).map (fun p=>Go.intOf p.1)=l.map Prod.fst:=by
   have h2:l.map Prod.fst=(es.toList.map ny).map (fun q=>(unV q).1):=by rw[B,zi7];rfl
   rw[h2,zi7,zi7];refine zc9 fun x t=>?_;have h3:ny x∈es.toList.map ny:=zf4.2 ⟨x,t,rfl⟩;rw[B] at h3;obtain ⟨p,hp,W⟩:=zf4.1 h3;have d:x.key=vi p.1:=(ze4 Prod.fst W).symm;have u:keyOf Tryz.prog 3 x.key=some (.int .i64 p.1):=by
    rw[d];exact Maps.keyOf_int_mk uT3<|Eh<|hw p hp
   simp[WideElems.rg,WideElems.rd,u,d ▸ u,Go.intOf,ny,unV,d]
  rw[← A];exact ((WideShapes.sorted_perm _).map _).symm
 have z:Maps.size (.map<|(es.toList.map<|WideElems.rg (H:=Unit) Tryz.prog 3<|fun _=>some (.lit<|.bool true,[])).foldr DataW.insert [])=l.length:=by
  have:=i.length_eq;simpa [intKeys,Maps.size] using this.symm
 have P:=AnyZI.keys_gives (ρ:=Tryz.keysA_ren) { Tryz.keysA with } Fence.wide 2 trivial rfl oM b m l.length _ (R:=fun _=>some (.lit<|.bool true,[])) w (a.lt hb) (by simp[World.cell?,a.known _ _ hb]) O;have cS:=AnyZI.sorted_in Tryz.sortedA Fence.wide 5 trivial trivial trivial trivial rfl oM (Tryz.sortsA _) (enters_of func59 kR rfl) 132 #[.pointer<|some ⟨b,0,none⟩] trivial (enters_of func132 kR rfl) _ _ (by rw[z];unfold maxLen;omega) (by rw[z];omega) w P;refine ((callsIn_wide (n:=5)).1 cS).mono ?_;rintro e w' ⟨v,ss,rfl,J,G,a1,f⟩;have Q:ss.mergeSort (fun x y=>decide (x≤y))=eW (l.map Prod.fst):=mergeSort_of_perm_i<|J.trans i.symm;rw[Q] at G;have c:At E g s w':=by
  refine⟨f.os.trans a.os,⟨f.tape.trans a.tape.1,by rw[hE];exact zf8 _⟩,f.output.trans a.output,fun k o d=>?_,fun x t=>?_,fun x t k d=>⟨(a.fresh x t k d).1,Nat.lt_of_lt_of_le (a.fresh x t k d).2 f.size⟩,a.apart⟩
  ·rw[f.block k<|a.lt d];exact a.known k o d
  ·have A:=a.own x t;cases K:x.blk with
   | none=>simpa [K] using A
   | some k =>
    simp only[K,Option.bind_some] at A ⊢;rw[f.block k (a.fresh x t k K).2];exact A
 rcases G.2 with ⟨rfl,h0⟩ | ⟨L,cap,cur,rfl,X,Y,r1,r2,r3,r4⟩
 ·have S:ss=[]:=zf6 h0;have Z:l.map Prod.fst=[]:=by
   have:=(J.trans i.symm).length_eq;rw[S] at this;exact zf6 (by simpa using this.symm)
  refine⟨_,g,s,I,c,I,zb9 g,?_⟩;rw[Z];have:eW []=[]:=by simp[eW]
  rw[this];exact zc1 g 1
 ·have D:g L=none:=by
   cases h:g L with
   | none=>rfl
   | some o=>have:=a.lt h;omega
  refine⟨_,upd g L<|.cells cur 3 (0,0),s,I,⟨c.os,c.tape,c.output,fun k o d=>?_,c.own,fun x t k d=>⟨?_,(c.fresh x t k d).2⟩,c.apart⟩,I,Eo D,?_⟩
  ·unfold upd at d;split at d
   ·rename_i e1;subst e1;injection d with d;subst d;exact Y
   ·exact c.known k o d
  ·have A:=a.fresh x t k d;have a0:k≠L:=oM;simp only[upd,a0,if_false];exact A.1
  ·have T:(eW<|l.map Prod.fst).length=ss.length:=by rw[ge];exact (J.trans i.symm).length_eq.symm
   refine⟨some ⟨L,0,none⟩,cap,by rw[T],⟨by rw[encInt.length],oM⟩,fun _=>⟨L,0,cur,_,(0,0),I,fc _ _ _,fun j x hj=>?_⟩⟩;rw[oJ] at hj;have F:(cur.toList.take<|ss.length * 1)[j]?=some x:=by rw[r4];exact hj
   rw[zi3] at F;split at F
   ·simpa using F
   ·cases F
theorem sN {α:Type}[DecidableEq α]:∀ {l m:List α},l.Nodup→(∀ x∈l,x∈m)→l.length≤m.length
 | [],_,_,_=>zf8 _
 | x::l,m,hn,b=>by
  obtain ⟨f,g⟩:=zk4.1 hn;have c:x∈m:=b x dO;have i:=sN (m:=m.erase x) g (fun y d=>by
   have a:y≠x:=fun e=>f (e ▸ d);exact (List.mem_erase_of_ne a).2 (b y (by simp[d])))
  have j:=List.length_erase_of_mem c;have k:=List.length_pos_of_mem c;simp only[zf1];omega
theorem EQ {l:List Cl}{c:Cl}(h:c∈am l):∃ d∈l,d.id=c.id:=by
 have a:=sk h;unfold aa at a;obtain ⟨d,hd,rfl⟩:=zf4.1 a;exact⟨d,(fz l d).1 hd,I⟩
open Go Go.Sy Go.Pl Go.Proofs
theorem FG {g:PH}:∀ {ls:List (List Int)} {rs:List Sv},ax (dZ g) ls rs→(∀ x∈ls,x.length<1099511627776)→∃ L:List (LV g),L.map LV.l=ls∧L.map LV.sv=rs
 | [],[],_,_=>⟨[],rfl,rfl⟩
 | x::ls,r::rs,h,hl=>by
  obtain ⟨L,a,b⟩:=FG h.2 (fun y c=>hl y<|by simp[c]);exact⟨⟨r,x,h.1,hl x dO⟩::L,by simp[a],by simp[b]⟩
 | [],_::_,h,_=>h.elim
 | _::_,[],h,_=>h.elim
theorem Em {g:PH}:∀ (L:List (LV g)),ax (dZ g) (L.map LV.l) (L.map LV.sv)
 | []=>trivial
 | x::L=>⟨x.h,Em L⟩
theorem Be {g:PH}:∀ (L:List (LV g)),L.flatMap (lh g).enc=(L.map LV.sv).flatMap dQ.enc
 | []=>rfl
 | x::L=>by simp only[zh7,zg6,Be L];rfl
theorem El {g:PH}(T:TypeId)(v:Value)(L:List (LV g)):rowA (lh g) T v L=rowA dQ T v (L.map LV.sv):=by
 simp only[rowA,Be,ze8]
def eqL (a b:List Int):Bool:=decide (a=b)
theorem mQ {α β:Type}(f:α→β)(eq:α→α→Bool)(c:β→β→Bool)(h:∀ a b,eq a b=c (f a) (f b)):∀ (x:α) (l:List α),(bg eq x l).map f=bg c (f x) (l.map f)
 | _,[]=>rfl
 | x,y::r=>by
  simp only[bg,zg6,h];split
  ·exact mQ f eq c h y r
  ·rw[zg6,mQ f eq c h y r]
theorem C4 {α β:Type}(f:α→β)(eq:α→α→Bool)(c:β→β→Bool)(h:∀ a b,eq a b=c (f a) (f b))(l:List α):(iT eq l).map f=iT c (l.map f):=by
 cases l with
 | nil=>rfl
 | cons x r=>simp only[iT,zg6,mQ f eq c h]
theorem mP {α:Type}(eq:α→α→Bool):∀ (x:α) (l:List α),(bg eq x l).Sublist l
 | _,[]=>.slnil
 | x,y::r=>by
  simp only[bg];split
  ·exact (mP eq y r).cons y
  ·exact (mP eq y r).cons_cons y
theorem sj {α:Type}(eq:α→α→Bool)(l:List α):(iT eq l).Sublist l:=by
 cases l with
 | nil=>exact .slnil
 | cons x r=>exact (mP eq x r).cons_cons x
def dB (s:List Int):List Int:=iT (fun a b:Int=>decide (a=b)) (eW s)
def jz:List Int→Bool
 | []=>true
 | a::r=>decide (a<0)||decide (((a::r).length:Int)>9)
def eP (all:List (List Int))(t:List Int):List (List Int):=iT eqL (og<|all++bM t)
def aX:List (List Int)→List (List Int)→Option (List<|List Int)
 | all,[]=>some all
 | all,s::r=>if jz (dB s) then aX all r else if ((eP all<|dB s).length:Int)>4000 then none else aX (eP all<|dB s) r
def fJ (all:List (List Int))(s:List Int)(k:Nat):List aj:=if 0<(s.eraseIdx k).length then [⟨lbL all (s.eraseIdx k)+1,dz k⟩] else []
def aV (all:List (List Int))(s:List Int)(j:Nat):List aj:=(List.range j).flatMap (fJ all s)
def nF (all:List (List Int))(p:List Int×Nat):Cl:=⟨p.2+1,(p.1.length:Int) - 1,aV all p.1 p.1.length⟩
def be (all:List (List Int)):List Cl:=all.zipIdx.map (nF all)
def dy (l:List (List Int)):List Cl:=match aX [] l with
 | none=>[]
 | some all=>aa<|be all
theorem qj (t:List Int)(h:t.length≤9):(bM t).length≤511:=by
 have:=AI t.length h;simp[bM];omega
theorem iH {t:List Int}(h:t.length≤9):∀ x∈bM t,x.length≤9:=fun x a=>by
 obtain ⟨i,_,rfl⟩:=zf4.1 a;exact zk9 (gi _ _) h
theorem vq {t:List Int}(h:t≠[]):0<(bM t).length:=by
 have a:0<t.length:=List.length_pos_iff.2 h;have b:2 ^ 1≤2 ^ t.length:=Nat.pow_le_pow_right dC a;simp[bM];omega
theorem lp {all:List (List Int)}{t x:List Int}(h:x∈eP all t):x∈all∨x∈bM t:=by
 have a:=(sj eqL _).subset h;have b:=(iY _).subset a;exact zf5.1 b
theorem xC (all:List (List Int))(t:List Int):tr (eP all t):=(jF _).sublist (sj eqL _)
theorem xN {all:List (List Int)}(h:tr all)(t:List Int):∀ i j (d:i<all.length) (e:j<all.length),i<j→au all[j] t<0→au all[i] t<0:=fun i j d e c a=>by
 have f:=zd1.1 h i j d e c
 rcases eh all[i] all[j] with b | b | b
 ·exact eV _ _ _ b a
 ·rw[b];exact a
 ·exact absurd b f
theorem fZ (all:List (List Int))(s:List Int)(j:Nat):aV all s (j+1)=aV all s j++fJ all s j:=by
 simp[aV,List.range_succ]
theorem eY (all:List (List Int))(s:List Int)(j:Nat):(aV all s j).length≤j:=by
 induction j with
 | zero=>simp[aV]
 | succ j ih =>
  rw[fZ,ze7];have:(fJ all s j).length≤1:=by unfold fJ;split <;> simp
  omega
theorem bL (all:List (List Int)):(be all).length=all.length:=by simp[be]
theorem jt {all:List (List Int)}{k:Nat}(h:k<all.length):(be all)[k]?=some (nF all (all[k],k)):=by
 simp[be,h]
theorem kK {all:List (List Int)}(h:all.length≤4000)(a:∀ x∈all,x.length≤9):aM (be all):=by
 refine⟨by rw[bL];omega,fun c hc=>?_⟩;obtain ⟨p,hp,rfl⟩:=zf4.1 hc;have b:p.1∈all:=by
  have:=List.mem_map_of_mem (f:=Prod.fst) hp;simpa using this
 have d:=a _ b;have e:=eY all p.1 p.1.length;show (aV all p.1 p.1.length).length<_;omega
theorem AJ (ls:List (List Int))(t:List Int):lbL ls t≤ls.length:=zc6 _ _
def jA (v:Value):Sv:=match v with
 | .slice p n c=>⟨p,n,c⟩
 | _=>⟨none,0,0⟩
theorem qk (E:World)(g:PH)(s:Own)(v:Value)(ls:List (List Int))(hv:cQ g v ls)(hn:ls.length<1099511627776)(hl:∀ x∈ls,x.length<17592186044416) :
  Ctr Tryz.prog E 18 #[v] g s (fun r g' s'=>s=s'∧Le g g'∧∃ u,r = .agg #[u]∧ai g' u (dy ls)):=by
 obtain ⟨B,W,X⟩:=hv;have b3:=X.length;obtain ⟨p,c,rfl⟩:=za4 W;refine zb2 (args:=[.slice p B.length c]) func18 I ntmps18 (bE I)<|rZ (bW (aL zl3) fun b2=>?_);refine tZ<|rZ<|aT I<|sQ<|sW I<|lU (eN eS I)<|lM I<|tZ<|bK<|zb6 32 1<|oP (ι:=PH×Value×List Sv×List (List Int)×Nat) (fun i=>[(0,.slice p B.length c),(2,pp b2 0),(3,i.2.1),(14,.slice p B.length c),(15,vi B.length),(16,vi i.2.2.2.2)]) (fun i=>i.1)
  (fun i=>rowA dQ 32 i.2.1 i.2.2.1::pt b2 (bY #[.slice none 0 0] 29)::s)
  (fun i=>Le g i.1∧i.2.2.2.2≤B.length∧ax (dZ i.1) i.2.2.2.1 i.2.2.1∧(i.2.2.2.1.length≤4000∧∀ x∈i.2.2.2.1,x.length≤9)∧tr i.2.2.2.1∧aX [] ls=aX i.2.2.2.1 (ls.drop i.2.2.2.2)) (fun i=>B.length - i.2.2.2.2)
  (g,.slice none 0 0,[],[],0) sB rfl rfl ⟨zb9 g,zf8 _,trivial,⟨zf8 _,by simp⟩,List.Pairwise.nil,rfl⟩ ?_
 rintro ⟨g1,av,rs,all,k⟩ ⟨H,hk,Q,⟨a3,J⟩,R,N⟩;dsimp only at H hk Q a3 J R N ⊢;have p2:=Q.length;refine rZ<|yL I<|tZ<|sQ<|iP I (fun i0=>?_) (fun i0=>?_)
 ·have b4:k<ls.length:=oM;have d1:k<B.length:=oM;have hR:=(X.get (List.getElem?_eq_getElem b4)<|List.getElem?_eq_getElem d1).mono H;have d3:=hl _<|gM b4;have b5:=W.based oM;have b7:ls.drop k=ls[k]::ls.drop (k+1):=zg8 b4;rw[b7] at N;generalize hx:ls[k]=x at *;generalize hr:B[k]=r at *;have b8:B[((k:Nat):Int).toNat]?=some r:=by rw[← hr];exact List.getElem?_eq_getElem d1
  have p3:=ge x;have p5:=kU (fun a b:Int=>decide (a=b))<|eW x;refine kP<|tN<|sQ<|bK<|rZ<|lU (iA eS fW I I b5 oM sL)<|lK (eB ic I (W.mono H).rd b8 I)<|aT I<|sW I<|lW (SO.call call58 I<|Gj E g1 _ _ x hR d3) ?_;rintro v21 _ _ ⟨rfl,rfl⟩;refine aT I<|sW I<|lW (SO.call call59 I<|tw E g1 _ v21 x 0 I d3) ?_;rintro _ _ _ ⟨rfl,rfl⟩;refine tZ<|sW I<|lW (SO.call call60 I<|DZ E g1 _ v21 (eW x) oM) ?_;rintro v25 _ _ ⟨rfl,rfl⟩;refine aT I (sQ<|fS fun g2 D V=>?_);have S:dp g2 v25 (dB x):=V;have i1:(dB x).length<17592186044416:=by unfold dB;omega
  obtain ⟨q2,d2,rfl⟩:=za4 S;have c0:dB x=[]∨∃ a t,dB x=a::t:=by cases dB x with
   | nil=>exact .inl rfl
   | cons a t=>exact .inr ⟨a,t,rfl⟩
  have C:=Q.mono fun _ _=>dZ.mono D;clear V;generalize hT:dB x=T at *
  rcases c0 with i2 | ⟨a,t,a4⟩
  ·subst i2;have F:jz (dB x)=true:=by rw[hT];rfl
   refine sW I<|lU (eN az I)<|lU (SU.eq (v':=vb true) (eQ I I)<|ze4 vb<|zg1<|by simp) ?_;refine lM I<|yA I<|yA I<|yA I<|yA I<|yP I<|lM I<|yA I<|yA I<|yA I<|yP I<|tZ<|za2 I<|xI<|tX<|bX<|tN<|rG<|yD I<|lM I<|SL.nil ?_;refine ST.again (g2,av,rs,all,k+1) sB I I ⟨H.trans D,lN,C,⟨a3,J⟩,R,?_⟩ lN;rw[N,aX,zg3 F]
  ·have p6:T.length=t.length+1:=by rw[a4];rfl
   have i3:=za6 S oM;have j0:T[((0:Nat):Int).toNat]?=some a:=by rw[a4];rfl
   have d4:jz (dB x)=(decide (a<0)||decide ((T.length:Int)>9)):=by rw[hT,a4];rfl
   have d7:a<0→(decide (a<0)||decide ((T.length:Int)>9))=true:=fun h=>by simp[h]
   have d8:¬ a<0→(decide (a<0)||decide ((T.length:Int)>9))=decide ((T.length:Int)>9):=fun h=>by simp[h]
   refine SC.sub (f':=[(0,.slice p B.length c),(2,pp b2 0),(3,av),(5,.slice q2 T.length d2),(14,.slice p B.length c),(15,vi B.length),(16,vi k)]) sB<|SC.cutB 39 ((decide (a<0)||decide ((T.length:Int)>9))) ?_ ?_
   ·refine rG<|lM I<|lU (eN az I)<|lU (SU.eq (v':=vb false) (eQ I I)<|ze4 vb<|zf9 oM)<|lM I<|yC I<|lY I I I (iA az zT3 I I i3 dC sL)<|SL.gq (gT I I I dC) (eB iT3 I (za7 S) j0 I) dC<|lY I I I (lS I I)<|yF I<|lM I<|sP ?_ ?_
    ·intro c1;exact yA I<|yA I<|yA I<|yP I<|SL.nil<|zb1 (by (rw[d7 c1];rfl)) mI
    ·intro c1;exact yC I<|lY I I I (eN az I)<|lY I I I (gR I I)<|yF I<|SL.nil<|zb1 (by (rw[d8 c1];rfl)) mI
   refine iQ I (fun F=>?_) (fun F=>?_)
   ·refine xI<|tX<|bX<|tN<|rG<|yD I<|lM I<|SL.nil<|ST.again (g2,av,rs,all,k+1) sB I I ⟨H.trans D,lN,C,⟨a3,J⟩,R,?_⟩ lN;rw[N,aX,zg3<|d4.trans F]
   ·have c2:T.length≤9:=by simp at F;omega
    have j1:=qj T c2;have Y:=iH c2;have j2:=vq (t:=T) (by rw[a4];simp);have e0:¬ jz (dB x)=true:=by rw[d4,F];simp
    refine kP<|tN<|sW I<|lM I<|lW (SO.call call61 I<|vn E g2 _ _ T S c2) ?_;rintro v42 g3 _ ⟨rfl,f,e1⟩;obtain ⟨p7,e2,Z⟩:=e1;have n8:=Z.length;refine lW (aQ (e:=dQ) 0 sty22 I I I e2 oM oM) ?_;rintro v43 _ _ ⟨rfl,rfl⟩;have c3:=(C.mono fun _ _=>dZ.mono f).append Z;obtain ⟨L,e4,l0⟩:=FG c3 (fun y hy=>(zf5.1 hy).elim (fun h=>Nat.lt_of_le_of_lt (J y h) dC)<|fun h=>Nat.lt_of_le_of_lt (Y y h) dC);have p9:L.length=all.length+(bM T).length:=(by have:=ze4 List.length e4;simpa using this);rw[← l0,← El];refine aT I<|sW I<|lW (SO.call call62 I<|wD E g3 _ _ L oM oM) ?_;rintro _ _ _ ⟨rfl,L2,l1,V,rfl⟩;have o1:=l1.length_eq;have c5:∀ (x y:LV g3) s',cU Tryz.prog E (.func (.func 65) #[] #[]) [x.val,y.val] g3 s' (fun r g' l2=>r=vb (decide (x.l=y.l))∧g3=g'∧s'=l2):=fun x y s'=>cU.mk (args:=[x.val,y.val]) (cap:=[]) call65<|Cz E g3 s' _ _ x.l y.l x.h y.h x.len;refine tZ<|sW I<|lW (SO.call call64 I<|DY (lh g3) LV.val (fun _=>I) (fun _=>I) E g3 _ _ 65 (fun x y=>decide (x.l=y.l)) L2 oM c5) ?_;rintro v47 _ _ ⟨rfl,rfl⟩;refine zd4 fun ⟨w0,K⟩=>?_;obtain ⟨q,d,rfl⟩:=ah (i:=0) K rfl;clear K w0;rw[El];have b0:(iT (fun x y:LV g3=>decide (x.l=y.l)) L2).map LV.l=eP all T:=(by rw[C4 LV.l (fun x y:LV g3=>decide (x.l=y.l)) eqL (fun _ _=>rfl),V,e4];rfl);have a5:(iT (fun x y:LV g3=>decide (x.l=y.l)) L2).length=(eP all T).length:=(by rw[← b0,ze8]);have a0:=Em<|iT (fun x y:LV g3=>decide (x.l=y.l)) L2;rw[b0] at a0;generalize (iT (fun x y:LV g3=>decide (x.l=y.l)) L2).length=n47 at *;generalize (iT (fun x y:LV g3=>decide (x.l=y.l)) L2).map LV.sv=rs5 at *;refine aT I<|sW I<|lU (eN eS I)<|lU (gR I I)<|tZ ?_;refine iP I (fun c6=>?_) (fun c6=>?_)
    ·have c7:aX [] ls=none:=by rw[N,aX,zg2 e0,hT,zg3 oM]
     exact rZ<|lU (za3 I<|buildE29)<|oZ (sK 1 ae I I I I I sB)<|tZ<|rE<|bR<|tR<|tR<|bR<|tR<|ST.retCD 1 s (.inl I) results18 I an ae I I uR ⟨I,H.trans<|D.trans f,_,I,by simp only[dy,c7];exact⟨[],zc1 _ _,trivial⟩⟩
    ·refine kP<|bN<|tN<|rG<|yD I<|lM I<|SL.nil<|ST.again (g3,.slice q n47 d,rs5,eP all T,k+1) sB I I ⟨H.trans<|D.trans f,lN,a0,⟨lN,fun y hy=>?_⟩,xC all T,?_⟩ lN
     ·rcases lp hy with h | h
      ·exact J y h
      ·exact Y y h
     ·rw[N,aX,zg2 e0,hT,zg2 oM]
 ·have l3:k=B.length:=oM;have c9:aX [] ls=some all:=by rw[N,l3,← b3,List.drop_length];rfl
  have e9:=kK a3 J;refine xI (tX<|tX<|bX<|tN<|sQ<|fS fun g2 D V=>?_);have a9:SlA dQ g2 av rs:=V;obtain ⟨q,d,rfl⟩:=za4 a9;have C:=Q.mono fun _ _=>dZ.mono D;refine rG (bW (aL zl3) fun b6=>?_);refine tZ<|sQ<|sW I<|lU (eN eS I)<|lM I<|tZ<|bK<|zb6 37 3<|oP (ι:=PH×Value×List Rc×Nat) (fun i=>[(2,pp b2 0),(3,.slice q rs.length d),(6,pp b6 0),(53,.slice q rs.length d),(54,vi rs.length),(55,vi i.2.2.2)]) (fun i=>i.1)
   (fun i=>rowA encCell 37 i.2.1 i.2.2.1::pt b6 (bY #[i.2.1] 29)::pt b2 (bY #[.slice none 0 0] 29)::s)
   (fun i=>Le g2 i.1∧i.2.2.2≤rs.length∧ax (ak i.1) ((be all).take i.2.2.2) i.2.2.1) (fun i=>rs.length - i.2.2.2)
   (g2,.slice none 0 0,[],0) sB rfl rfl ⟨zb9 g2,zf8 _,trivial⟩ ?_
  rintro ⟨g3,ov,O,n⟩ ⟨f,l4,M⟩;dsimp only at f l4 M ⊢;have f7:=M.length;rw[ze6,bL] at f7;refine rZ<|yL I<|tZ<|sQ<|iP I (fun f8=>?_) (fun f8=>?_)
  ·have a5:n<all.length:=oM;have g7:n<rs.length:=oM;have b5:=a9.based oM;have hR:=(C.get (List.getElem?_eq_getElem a5)<|List.getElem?_eq_getElem g7).mono f;have g8:=hR.len;have q0:=J _<|gM a5;have g9:=jt a5;generalize hx:all[n]=x at *;generalize hr:rs[n]=r at *;obtain ⟨rp,rn,rc⟩:=r;dsimp only at g8;subst g8;have m1:dp g3 (.slice rp x.length rc) x:=hR;have b8:rs[((n:Nat):Int).toNat]?=some ⟨rp,x.length,rc⟩:=by rw[← hr];exact List.getElem?_eq_getElem g7
   refine kP (tN<|sQ<|bK<|sW I<|lU (iA eS fW I I b5 oM sL)<|lK (eB (u:=.slice rp x.length rc) ic I (a9.mono f).rd b8 I)<|lA I<|aT I<|sW I<|yD I<|lM I<|lU (eN az I)<|lU (sU I I oM)<|lU (za3 I<|buildC37 _ _)<|bW (aL zm2) fun b9=>?_);refine oZ (sK 0 ar I I I I I sB)<|tZ<|sQ<|sQ<|zb6 80 2<|rG<|lM I<|lU (eN az I)<|lM I<|tZ<|bK<|oP (ι:=PH×Value×Nat) (fun i=>[(2,pp b2 0),(3,.slice q rs.length d),(6,pp b6 0),(53,.slice q rs.length d),(54,vi rs.length),(55,vi n),(8,.slice rp x.length rc),(9,pp b9 0),(66,.slice rp x.length rc),(67,vi x.length),(68,vi i.2.2)]) (fun i=>i.1)
    (fun i=>rowA encSide 80 i.2.1 (aV all x i.2.2)::pt b9 (bY #[vi<|(n:Int)+1,vi<|(x.length:Int) - 1,i.2.1] 37)::rowA encCell 37 ov O::pt b6 (bY #[ov] 29)::pt b2 (bY #[.slice none 0 0] 29)::s)
    (fun i=>Le g3 i.1∧i.2.2≤x.length) (fun i=>x.length - i.2.2)
    (g3,.slice none 0 0,0) sB rfl rfl ⟨zb9 g3,zf8 _⟩ ?_
   rintro ⟨g4,sv,j⟩ ⟨z,hj⟩;dsimp only at z hj ⊢;have o2:=eY all x j;have G:=fZ all x j;refine rZ<|yL I<|tZ<|sQ<|iP I (fun h0=>?_) (fun h0=>?_)
   ·have m2:j<x.length:=oM;have a1:dp g4 (.slice rp x.length rc) x:=m1.mono z;have p0:=(SlA.cap a1).2;have h1:=SlA.cut a1 (l:=0) (m:=j) oM oM;have h2:=SlA.cut a1 (l:=j+1) (m:=x.length) oM oM;have m3:(x.drop 0).take (j - 0)=x.take j:=by simp
    have m4:(x.drop<|j+1).take (x.length - (j+1))=x.drop (j+1):=tL (by rw[zf2];omega);rw[m3] at h1;rw[m4] at h2;have n0:[x.take j,x.drop<|j+1].flatten=x.eraseIdx j:=by rw[List.eraseIdx_eq_take_drop_succ];simp
    have q1:(x.eraseIdx j).length=x.length - 1:=by rw[List.length_eraseIdx];simp[m2]
    have h3:i5 [x.take j,x.drop<|j+1]<1099511627776:=by simp[i5];omega
    refine kP<|tN<|sQ<|bK<|sW I<|aT I<|sQ<|dW [] [(0,2),(1,2),(2,2),(3,2),(4,2),(5,2),(6,2),(7,0),(8,0),(9,2)] ze5 kR<|yM I<|yM I<|pU I (SU.sliceH az zT3 I I oM oM)<|yM I<|yM I<|pU I (aD I I oM)<|pU I (SU.eq (v':=sliced rp (j+1) x.length rc 1) (SU.sliceL az zT3 I I oM oM)<|by rw[show ((j:Int)+1).toNat=j+1 by omega]) ?_;refine SP.o I (bS sty22 I I I (ab sB) dC) dC (.inr iR) ?_;rintro _ _ _ ⟨n1,rfl,rfl,rfl⟩;refine SP.freeze fun g5 A h4=>?_;have h5:cQ g5 (.slice (some ⟨n1,0,none⟩) 2 2) [x.take j,x.drop<|j+1]:=⟨[jA<|sliced rp 0 j rc 1,jA<|sliced rp (j+1) x.length rc 1],SlA.lit h4 rfl rfl,⟨h1.mono A,h2.mono A,trivial⟩⟩;refine SP.o I (SO.call call66 I<|xk E g5 _ _ _ h5 dO h3) dC (.inr iR) ?_;rintro v79 _ _ ⟨rfl,rfl⟩;refine pU I (aS I) (pN<|tN<|sQ<|fS fun g6 U h6=>?_);have a2:dp g6 v79 (x.eraseIdx j):=(by rw[← n0];exact h6);obtain ⟨q6,d6,rfl⟩:=za4 a2;clear h6;refine rG<|lM I<|lU (eN az I)<|lU (gR I I)<|tZ ?_;refine iP I (fun h7=>?_) (fun h7=>?_)
    ·have P:fJ all x j=[⟨lbL all (x.eraseIdx j)+1,dz j⟩]:=by unfold fJ;rw[zg3 oM]
     have q3:=AJ all<|x.eraseIdx j;rw[P] at G;have d0:cQ g6 (.slice q rs.length d) all:=⟨rs,a9.mono<|f.trans<|z.trans<|A.trans U,C.mono fun _ _=>dZ.mono<|f.trans<|z.trans<|A.trans U⟩;refine sW I<|lM I<|lW (SO.call call67 I<|Al E g6 _ _ _ all (x.eraseIdx j) d0 a2 oM (fun y hy=>by have:=J y hy;omega)<|xN R _) ?_;rintro _ _ _ ⟨⟨fb,rfl⟩,rfl,rfl⟩;refine lM I<|yX I<|yX I<|lA I<|aT I<|dW [8,9,10] [(0,2),(1,1),(2,2),(3,2),(4,2),(5,0),(6,2),(7,0),(8,0),(9,0),(10,0)] ze5 kR<|pU I (fA ao I aH I)<|pK I (qL bi I<|cO 1 I I)<|yM I<|pU I (aD I I oM)<|yM I<|SP.o I (SO.call call68 I<|BK E g6 _ j) dC (.inr iR) ?_;rintro _ _ _ ⟨rfl,rfl,rfl⟩;refine pU I (za3 I<|buildS80 _ _)<|SP.o I (bS sty35 I I I (ab sB) dC) dC (.inr iR) ?_;rintro _ _ _ ⟨q4,rfl,rfl,rfl⟩;refine SP.o I (aP (e:=encSide) 0 ⟨lbL all (x.eraseIdx j)+1,dz j⟩ sty35 I I I I I oM oM) dC (.inl dC) ?_;rintro v97 _ _ ⟨rfl,rfl⟩;rw[← G];refine zd3 fun ⟨w0,K⟩=>?_;obtain ⟨q7,d97,rfl⟩:=ah (i:=0) K rfl;clear K w0;refine oU rfl (fA ao rfl aH rfl) dC (.inl dC)<|SP.on rfl (SO.store1 1 aH rfl rfl rfl rfl (bE rfl)<|by rfl) (.inl dC) ?_;rintro _ _ _ ⟨rfl,rfl⟩;refine pN<|bN<|tN<|rG<|yD I<|lM I<|SL.nil ?_;exact ST.again (g6,_,j+1) sB I I ⟨z.trans<|A.trans U,lN⟩ lN
    ·have P:fJ all x j=[]:=by unfold fJ;rw[zg2 oM]
     rw[P,zc7] at G;refine kP<|bN<|tN<|rG<|yD I<|lM I<|SL.nil ?_;refine ST.to (fun w hw=>?_) (g':=g6) (s':=rowA encSide 80 sv (aV all x<|j+1)::pt b9 (bY #[vi<|(n:Int)+1,vi<|(x.length:Int) - 1,sv] 37)::rowA encCell 37 ov O::pt b6 (bY #[ov] 29)::pt b2 (bY #[.slice none 0 0] 29)::s) ?_
     ·rw[G];exact hw
     exact ST.again (g6,sv,j+1) sB I I ⟨z.trans<|A.trans U,lN⟩ lN
   ·have n2:j=x.length:=oM;subst n2;refine xI (tX<|tX<|bX<|tN<|rG<|zd6 fun g5 A n3=>?_);have h8:SlA encSide g5 sv (aV all x x.length):=n3;obtain ⟨q5,d5,rfl⟩:=za4 h8;obtain ⟨nc,h9⟩:∃ nc:Rc,nc=⟨(n:Int)+1,(x.length:Int) - 1,⟨q5,(aV all x x.length).length,d5⟩⟩:=⟨_,rfl⟩;refine lU (fA dA I cq I)<|lK (qL eG I<|cO 2 I I)<|lK (qV 0 dH ar I I I)<|lW (bS sty27 I I I (ab sB) dC) ?_;rintro _ _ _ ⟨p1,rfl,rfl,rfl⟩;refine lW (aP (e:=encCell) 1 nc sty27 I I I I (by rw[h9];rfl) oM oM) ?_;rintro v104 _ _ ⟨rfl,rfl⟩;refine zd4 fun ⟨w0,K⟩=>?_;obtain ⟨b1,d104,rfl⟩:=ah (i:=1) K rfl;clear K w0;refine lU (fA dA I cq I)<|oZ (sK 2 cq I I I I I sB)<|SL.nil<|bN<|tN<|rG<|yD I<|lM I<|SL.nil<|dR (s':=rowA encCell 37 (.slice b1 (O++[nc]).length d104) (O++[nc])::pt b6 (.cells #[.slice b1 (O++[nc]).length d104] 29 (0,0))::pt b2 (bY #[.slice none 0 0] 29)::s) (.cons _<|.refl _)<|ST.again (g5,_,O++[nc],n+1) sB I I ⟨f.trans<|z.trans A,lN,?_⟩ lN;dsimp only;rw[f9 g9];exact (M.mono fun _ _=>ak.mono<|z.trans A).append ⟨(by rw[h9];exact⟨I,I,h8⟩),trivial⟩
  ·have q8:n=rs.length:=oM;have n5:(be all).take n=be all:=tL (by rw[bL];omega);rw[n5] at M;refine xI (tX<|tX<|bX<|tN<|sQ<|fS fun g4 z n6=>?_);have n7:ai g4 ov (be all):=⟨O,n6,M.mono fun _ _=>ak.mono z⟩;refine rG<|lK (qV 0 an ae I I I)<|lW (SO.call call34 I<|gU E g4 _ ov (be all) n7 e9) ?_;rintro _ g5 _ ⟨rfl,A,u,rfl,hu⟩;obtain ⟨q9,d9,rfl⟩:=hu.form;exact oZ (sK 1 ae I I I I I sB)<|tZ<|rE<|ST.retCD 1 s (.inl I) results18 I an ae I I uR ⟨I,H.trans<|D.trans<|f.trans<|z.trans A,_,I,by simp only[dy,c9];exact hu⟩
def xE (c:Cl)(r:Rc):Prop:=r.id=c.id∧r.dim=c.dim∧r.sv.n=c.sides.length
def Gv (c:Cl)(r:Rc):Ent:=rowA encSide 80 (.slice r.sv.p r.sv.n r.sv.c) c.sides
def qe:List Cl→List Rc→Own
 | c::l,r::rs=>Gv c r::qe l rs
 | _,_=>[]
theorem pz:∀ {l:List Cl} {rs:List Rc} (c:Cl) (r:Rc),l.length=rs.length→qe (l++[c]) (rs++[r])=qe l rs++[Gv c r]
 | [],[],_,_,_=>rfl
 | x::l,y::rs,c,r,h=>by
  simp only[List.cons_append,qe];rw[pz c r (by simpa using h)]
 | [],_::_,_,_,h=>by simp at h
 | _::_,[],_,_,h=>by simp at h
theorem freezeO {E:World}{s:Own}{w:World}:∀ {l:List Cl} {rs:List Rc} {g:PH},ax xE l rs→At E g (qe l rs++s) w→∃ g',Le g g'∧At E g' s w∧ax (ak g') l rs
 | [],[],g,_,h=>⟨g,zb9 g,h,trivial⟩
 | c::l,r::rs,g,a,h=>by
  obtain ⟨g1,d,e,f⟩:=At.freezeRow h;obtain ⟨g2,b,i,j⟩:=freezeO a.2 e;exact⟨g2,d.trans b,i,⟨a.1.1,a.1.2.1,za5 f b⟩,j⟩
 | [],_::_,_,a,_=>a.elim
 | _::_,[],_,a,_=>a.elim
theorem E1 (x y:aj)(w:World):(binOp .eql 80 (.agg (encSide.enc x).toArray)<|.agg (encSide.enc y).toArray).run Tryz.prog w = .ok (.bool<|decide (x=y)) w:=by
 have j:Tryz.prog.underlying 80=some (.struct<|Tryz.prog.fieldsOf 80):=by kernel_rfl
 rw[run_eql_struct,run_equalIn_agg w 9999 80 _ _ j stoodInHeld80]
 have f : ∃ f1 f2,(Tryz.prog.fieldsOf 80).toList = [f1,f2] ∧ f1.name ≠ "_" ∧ f2.name ≠ "_" ∧ f1.type = 3 ∧ f2.type = 3 ∧ f1.offset = 0 ∧ f2.offset = 1:=⟨_,_,rfl,by decide,by decide,rfl,rfl,rfl,rfl⟩
 obtain ⟨f1,f2,e,k,l,t1,t2,m,n⟩:=f;obtain ⟨a,b⟩:=x;obtain ⟨c,d⟩:=y;rw[e];have o:=run_equalIn_int (P:=Tryz.prog) w 9998 3 .i64 .i64 a c uT3;have p:=run_equalIn_int (P:=Tryz.prog) w 9998 3 .i64 .i64 b d uT3;simp only[Op.eqFields,k,l,t1,t2,m,n,encSide,part,ne_eq,not_false_eq_true,if_true,Sem.run_bind,iT3,zd2];simp[o,p];by_cases g:a=c <;> by_cases i:b=d <;> simp[g,i]
theorem SU.eqlSide {N:Nat}{f:Fr}{dst:Option Tmp}{ty:TypeId}{pos:String}{af:Array Edge}{gd:Option (Nat×Bool)}{x y:Operand}(a b:aj){U:TypeId}(d:ev f x=some (.agg (encSide.enc a).toArray))(e:ev f y=some (.agg (encSide.enc b).toArray)) :
  SU Tryz.prog N ⟨dst,.binOp .eql 80 x y U,ty,pos,af,gd⟩ f (.bool<|decide (a=b)):=fun ac w c=>by
 have hg:=run_eqGuard_agg (P:=Tryz.prog) w .eql 80 x y (encSide.enc a).toArray (encSide.enc b).toArray eqGuardType80;simp only[execOp,c.ev d,c.ev e,Sem.run_bind,hg,zd2,E1];rfl
theorem xR {l:List Int}(h:l.Pairwise (· ≤ ·)):eW l=l:=by
 unfold eW;exact List.mergeSort_of_pairwise (h.imp fun h=>by simpa using h)
theorem E4:dB [0,1]=[0,1]:=by
 unfold dB;rw[xR dC];rfl
theorem jT {l:List Cl}(h:(l.all fun c=>decide (c.sides.length<100))=true)(a:l.length<100):aM l:=by
 rw[zk2] at h;exact⟨oM,fun c hc=>by have:=h c hc;simp at this;omega⟩
theorem ax.cons_left {α β:Type}{R:α→β→Prop}{a:α}{l:List α}{m:List β}(h:ax R (a::l) m):∃ b c,m=b::c∧R a b∧ax R l c:=by
 cases m with
 | nil=>exact h.elim
 | cons b m=>exact⟨b,m,rfl,h.1,h.2⟩
theorem ax.nil_left {α β:Type}{R:α→β→Prop}{m:List β}(h:ax R ([]:List α) m):m=[]:=by
 cases m with
 | nil=>rfl
 | cons b m=>exact h.elim
theorem ec {g:PH}{c:Cl}{r:Rc}(h:ak g c r):∃ p d,r=⟨c.id,c.dim,⟨p,c.sides.length,d⟩⟩∧SlA encSide g (.slice p c.sides.length d) c.sides:=by
 obtain ⟨i,j,p,n,d⟩:=r;obtain ⟨b,e,a⟩:=h;dsimp only at b e a;have f:=(SlA.cap a).1;subst b e f;exact⟨p,d,I,a⟩
theorem Cm {α:Type}{key:α→Int}{l out:List α}{x:α}{k:Nat}(g:Srt key out)(b:aI key l out)(i:∀ y∈out.take k,key y≤key x)(e:∀ y∈out.drop k,key x<key y) :
  Srt key (out.take k++x::out.drop k)∧aI key (l++[x]) (out.take k++x::out.drop k):=by
 have c:Srt key (out.take k++out.drop k):=by rw[zj4];exact g
 have d:=Srt.append_iff.1 c;refine⟨Srt.append_iff.2 ⟨d.1,Srt.cons_iff.2 ⟨fun y a=>Int.le_of_lt<|e y a,d.2.1⟩,fun y a z hz=>?_⟩,?_⟩
 ·rcases zf3.1 hz with rfl | hz
  ·exact i y a
  ·exact d.2.2 y a z hz
 ·have f:aI key (l++[x]) (out++[x]):=b.append<|aI.refl [x];have j:aI key (out.drop k++[x]) ([x]++out.drop k):=aI.swap (fun y a z hz=>by simp at hz;subst hz;have:=e y a;omega);have m:=aI.append (aI.refl (key:=key)<|out.take k) j;have n:out++[x]=out.take k++(out.drop k++[x]):=by rw[← zh1,zj4]
  rw[n] at f;simpa using f.trans m
theorem wA {α:Type}{key:α→Int}{out:List α}{c:Int}{k:Nat}(e:Srt key out)(b:k<out.length)(h:c<key out[k]):∀ y∈out.drop k,c<key y:=by
 rw[zg8 b];intro y a;have d:Srt key (out.drop k):=List.Pairwise.sublist (List.drop_sublist k out) e;rw[zg8 b] at d
 rcases zf3.1 a with rfl | a
 ·exact h
 ·have:=(Srt.cons_iff.1 d).1 y a;omega
theorem qR (E:World)(g:PH)(s:Own)(v:Value)(l:List aj)(O:SlA encSide g v l)(hl:l.length<1099511627776) :
  Ctr Tryz.prog E 117 #[v] g s (fun r g' s'=>s=s'∧Le g g'∧SlA encSide g' r (sortBy aj.cell l)):=by
 obtain ⟨p,c,rfl⟩:=za4 O;refine zb2 (args:=[.slice p l.length c]) func117 I ntmps117 (bE I)<|rZ<|aT I<|rZ<|aT I<|sQ<|rZ<|aT I<|bK<|oP (ι:=PH×Value×List aj×Nat) (fun i=>[(0,.slice p l.length c),(3,i.2.1),(4,vi i.2.2.2)]) (fun i=>i.1) (fun _=>s)
  (fun i=>Le g i.1∧SlA encSide i.1 i.2.1 i.2.2.1∧i.2.2.2≤l.length∧Srt aj.cell i.2.2.1∧aI aj.cell (l.take i.2.2.2) i.2.2.1) (fun i=>l.length - i.2.2.2)
  (g,.slice none 0 0,[],0) sB rfl rfl ⟨zb9 g,zc1 g _,zf8 _,Srt.nil,aI.refl _⟩ ?_
 rintro ⟨g1,ov,out,i⟩ ⟨j,a,X,f,t⟩;dsimp only at j a X f t ⊢;have Y:out.length=i:=by have:=t.1;rw[ze6] at this;omega
 obtain ⟨q,d,rfl⟩:=za4 a;have Z:=(SlA.cap a).2;refine sQ<|sW I<|lM I<|lU (eN a7 I)<|yL I<|tZ<|iP I (fun P=>?_) (fun P=>?_)
 ·have D:i<l.length:=oM;have A:=za6 (O.mono j) oM;have F:l[((i:Nat):Int).toNat]?=some l[i]:=List.getElem?_eq_getElem D;have Q:l.take (i+1)=l.take i++[l[i]]:=tS D;generalize l[i]=x at *;refine kP<|tN<|sQ<|bK<|rZ<|aT I<|SC.cut (ι:=Nat) (fun k=>[(0,.slice p l.length c),(3,.slice q out.length d),(4,vi i),(5,vi k)]) (fun _=>g1) (fun _=>s) (fun k=>k≤out.length∧(∀ y∈out.take k,y.cell≤x.cell)∧∀ y∈out.drop k,x.cell<y.cell) ?_ ?_
  ·refine bK<|oP (ι:=Nat) (fun k=>[(0,.slice p l.length c),(3,.slice q out.length d),(4,vi i),(5,vi k)]) (fun _=>g1) (fun _=>s) (fun k=>k≤out.length∧∀ y∈out.take k,y.cell≤x.cell) (fun k=>out.length - k) 0
    sB rfl rfl ⟨zf8 _,by simp⟩ ?_
   rintro k ⟨G,b⟩;by_cases H:(k:Int)<(out.length:Int)
   ·have B:k<out.length:=oM;have J:=za6 a oM;have hd:decide ((k:Int)<(out.length:Int))=true:=zg1 H;refine sQ<|sQ<|dW [] [(0,2),(1,2),(2,2),(3,2),(4,2),(5,2),(6,2),(7,2),(8,2),(9,1),(10,2),(11,2),(12,2),(13,2),(14,1),(15,2),(16,2)] ze5 kR<|yM I<|yM I<|pU I (eN a7 I)<|pU I (SU.eq (lS I I)<|ze4 vb hd)<|yM I<|yJ I<|yJ I<|zb3 I (gT I I I dC) (iA a7 aR I I J oM sL) dC<|zb3 I (gT I I I dC) (fC de I zT3 I J) dC<|SP.gq I (gT I I I dC) (aZ (o:=0) iT3 I a.rd (List.getElem?_eq_getElem B) I) dC ?_;refine yJ I<|yJ I<|zb3 I (gT I I I dC) (iA a7 aR I I A oM sL) dC<|zb3 I (gT I I I dC) (fC de I zT3 I A) dC<|SP.gq I (gT I I I dC) (aZ (o:=0) iT3 I (O.mono j).rd F I) dC<|zb3 I (gT I I I dC) (SU.leq I I) dC<|pU I (wT I I)<|pN<|tN<|iP I (fun hc=>?_) (fun hc=>?_)
    ·refine kP (tN (bK (rG (lM I (yD I (lA I (SL.nil (bN ?_))))))));exact ST.again (k+1) sB I I ⟨oM,by
      rw[tS B];intro y hy
      rcases zf5.1 hy with h | h
      ·exact b y h
      ·simp at h;subst h;exact hc⟩ oM
    ·exact xI<|tX<|tX<|bX<|za9 k sB I I ⟨G,b,wA f B oM⟩
   ·have hd:decide ((k:Int)<(out.length:Int))=false:=zf9 H;exact sQ<|sQ<|dW [] [(0,2),(1,2),(2,2),(3,2),(4,2),(5,2),(6,2),(7,2),(8,2),(9,1),(10,2),(11,2),(12,2),(13,2),(14,1),(15,2),(16,2)] ze5 kR<|yM I<|yM I<|pU I (eN a7 I)<|pU I (SU.eq (lS I I)<|ze4 vb hd)<|yM I<|yG I<|yG I<|yG I<|yG I<|yI I<|yG I<|yG I<|yG I<|yG I<|yI I<|yG I<|pU I (wF I I)<|pN<|tN<|za1 I<|xI<|tX<|tX<|bX<|za9 k sB I I ⟨G,b,by rw[List.drop_eq_nil_of_le oM];simp⟩
  ·rintro k ⟨G,R,S⟩;have u:=Cm f t R S;have K:=SlA.cut a (l:=k) (m:=out.length) G<|Nat.le_refl _;have L:=SlA.cut a (l:=0) (m:=k) (zf8 _) G;rw[tL (by rw[zf2];exact Nat.le_refl _)] at K;rw[List.drop_zero,Nat.sub_zero] at L;refine sQ<|dW [8] [(0,2),(1,2),(2,2),(3,1),(5,2),(6,2),(7,2),(4,0),(8,0),(9,2)] ze5 kR<|yM I<|yM I<|pU I (iA a7 aR I I A oM sL)<|pK I (SQ.elemA iU aR I (O.mono j).rd F)<|yM I<|yM I<|pU I (SU.sliceL a7 aR I I oM oM)<|SP.o I (bS sty35 I I I (ab ⟨I,trivial⟩) dC) dC (.inr iR) ?_;rintro _ _ _ ⟨a0,rfl,rfl,rfl⟩;refine SP.to (fun w hw=>At.litRow (e:=encSide) (l:=[x]) (n:=0) hw I I dC) ?_;refine SP.o I (aQ (e:=encSide) 0 sty35 I I I K (by rw[zf2];(first | with_reducible rfl | ((try dsimp only);(try simp only[ze7,zf1,zc5,ze9,ze6,zf2])<;>omega))) (by rw[zf2];(first | with_reducible rfl | ((try dsimp only);(try simp only[ze7,zf1,zc5,ze9,ze6,zf2])<;>omega)))) dC (.inl dC) ?_;rintro v40 _ _ ⟨rfl,rfl⟩;refine pU I (aS I) (pN<|tN<|fS fun g2 z T=>?_);have C:SlA encSide g2 v40 ([x]++out.drop k):=T;refine rG<|lW (bS sty35 I I I (ab trivial) dC) ?_;rintro _ _ _ ⟨U,rfl,rfl,rfl⟩;refine SL.emptyRow 80 2 (some ⟨U,0,none⟩)<|lM I<|lM I<|lU (SU.sliceH a7 aR I I oM oM)<|lW (aQ (e:=encSide) (l:=[]) 0 sty35 I I I (L.mono z) (by rw[ze6];(first | with_reducible rfl | ((try dsimp only);(try simp only[ze7,zf1,zc5,ze9,ze6,zf2])<;>omega))) (by rw[ze6];(first | with_reducible rfl | ((try dsimp only);(try simp only[ze7,zf1,zc5,ze9,ze6,zf2])<;>omega)))) ?_;rintro v45 _ _ ⟨rfl,rfl⟩;refine lM I<|lW (aQ (e:=encSide) 0 sty35 I I I C lN lN) ?_;rintro v47 _ _ ⟨rfl,rfl⟩;refine lA I (SL.nil<|bN<|tN<|rG<|lM I<|yD I<|lA I<|SL.nil<|fT fun g3 M V=>?_);refine dR (s':=s) uR ?_;have N:SlA encSide g3 v47 (out.take k++x::out.drop k):=by have h:SlA encSide g3 v47 ([]++out.take k++([x]++out.drop k)):=V;simpa using h
   exact ST.again (g3,v47,out.take k++x::out.drop k,i+1) sB I I ⟨j.trans<|z.trans M,N,lN,u.1,by dsimp only;rw[Q];exact u.2⟩ lN
 ·have W:l.take i=l:=tL oM;rw[W] at t;exact xI<|tX<|tX<|bX<|tN<|sW I<|aT I<|rE<|za8 (.inl I) results117 I ⟨I,j,by rw[← bJ f t];exact a⟩
theorem ax.drop {α β:Type}{R:α→β→Prop}:∀ {l:List α} {m:List β} (k:Nat),ax R l m→ax R (l.drop k) (m.drop k)
 | _,_,0,h=>by simpa using h
 | [],[],k+1,_=>trivial
 | _::_,_::_,k+1,h=>by simpa using ax.drop k h.2
 | [],_::_,_+1,h=>h.elim
 | _::_,[],_+1,h=>h.elim
theorem ax.take {α β:Type}{R:α→β→Prop}:∀ {l:List α} {m:List β} (k:Nat),ax R l m→ax R (l.take k) (m.take k)
 | _,_,0,_=>by simp;trivial
 | [],[],k+1,_=>trivial
 | _::_,_::_,k+1,h=>⟨h.1,ax.take k h.2⟩
 | [],_::_,_+1,h=>h.elim
 | _::_,[],_+1,h=>h.elim
theorem ai.cut {g:PH}{p:Option Addr}{c a b n:Nat}{l:List Cl}(h:ai g (.slice p n c) l)(f:a≤b)(hb:b≤l.length):ai g (sliced p a b c 3) ((l.drop a).take<|b - a):=by
 obtain ⟨rs,d,e⟩:=h;have hl:=e.length;have hn:=(SlA.cap d).1;subst hn;exact⟨_,SlA.cut d f oM,ax.take (b - a)<|ax.drop a e⟩
theorem ai.cap {g:PH}{p:Option Addr}{c n:Nat}{l:List Cl}(h:ai g (.slice p n c) l):n=l.length∧l.length≤c:=by
 obtain ⟨rs,a,b⟩:=h;have:=SlA.cap a;rw[b.length];exact⟨this.1,this.2⟩
theorem m5 (l:List Cl):aa l=sortBy Cl.id (l.map cj):=by
 unfold aa;rw[mT];rfl
theorem i4 (l:List Cl):Srt Cl.id (aa l):=by rw[m5];exact dj _
theorem pS (l:List Cl):aI Cl.id (l.map cj) (aa l):=by rw[m5];exact co _
theorem Tryz.buildF37 (x y:Int)(v:Value)(a:v.cells = #[v])(w:World):(Instr.build 37 #[(0,vi x),(1,vi y),(2,v)]).run Tryz.prog w = .ok (.agg #[vi x,vi y,v]) w:=by
 have hz:(Value.agg #[vi 0,vi 0,Value.slice none 0 0]).cells = #[vi 0,vi 0,.slice none 0 0]:=rfl;have b:(vi x).cells = #[vi x]:=rfl;have c:(vi y).cells = #[vi y]:=rfl;simp[Instr.build,Instr.fill,a,hz,b,c]
theorem mc (n:Nat)(h:n<4611686018427387904):IntKind.i64.wrap (((n:Nat):Int).tdiv 2)=((n / 2:Nat):Int):=by
 have a:((n:Nat):Int).tdiv 2=((n / 2:Nat):Int):=by
  rw[Int.tdiv_eq_ediv_of_nonneg oM];simp
 rw[a,zl2 _ oM]
theorem j8 (E:World):∀ (n:Nat) (g:PH) (s:Own) (v:Value) (l:List Cl),l.length≤n→ai g v l→aM l →
  Ctr Tryz.prog E 109 #[v] g s (fun r g' s'=>s=s'∧Le g g'∧ai g' r (aa l)):=by
 intro n;induction n with
 | zero =>
  intro g s v l hn U hf;have X:l=[]:=zf6 oM;subst X;obtain ⟨p,c,rfl⟩:=U.form;refine zb2 (args:=[.slice p 0 c]) func109 I ntmps109 (bE I)<|rZ<|aT I<|sQ<|sW I<|lU (eN aF I)<|yE I<|tZ<|iP I (fun h0=>?_) (fun h0=>?_)
  ·exact rZ<|aT I<|rE<|tR<|za8 (.inl I) results109 I ⟨I,zb9 g,[],zc1 g _,trivial⟩
  ·exact absurd I h0
 | succ n ih =>
  intro g s v l hn U hf;obtain ⟨rs,N,O⟩:=U;have U:ai g v l:=⟨rs,N,O⟩;have d4:=O.length;have d7:=hf.1;obtain ⟨p,c,rfl⟩:=U.form;have d5:=(ai.cap U).2;refine zb2 (args:=[.slice p l.length c]) func109 I ntmps109 (bE I)<|rZ<|aT I<|sQ<|sW I<|lU (eN aF I)<|yE I<|tZ<|iP I (fun h0=>?_) (fun h0=>?_)
  ·have X:l=[]:=zf6 oM;subst X;exact rZ<|aT I<|rE<|tR<|za8 (.inl I) results109 I ⟨I,zb9 g,[],zc1 g _,trivial⟩
  ·refine kP<|tN<|sQ<|sW I<|lU (eN aF I)<|yE I<|tZ<|iP I (fun h1=>?_) (fun h1=>?_)
   ·obtain ⟨x,Y⟩:∃ x,l=[x]:=by
     match l,h1 with
     | [x],_=>exact⟨x,rfl⟩
     | [],h=>simp at h
     | _::_::_,h=>simp at h;omega
    subst Y;obtain ⟨r,d8,rfl,hr,b5⟩:=ax.cons_left O;have a3:=ax.nil_left b5;subst a3;obtain ⟨rp,rd,rfl,b6⟩:=ec hr;have G:=N.based dO;have b7:=hf.2 x dO;refine sQ<|dW [] [(0,2),(1,2),(2,2),(3,1),(4,2),(5,2),(6,2),(7,1),(8,2),(9,2),(10,2),(11,1),(12,0),(13,2),(14,0),(15,2)] ze5 kR<|yM I<|pU I (iA aF ar I I G dC (show (0:Int)<((1:Nat):Int) by decide)) ?_;refine pU I (fC ao I zT3 I G)<|pK I (aZ (e:=encCell) (o:=0) (j:=0) (u:=vi x.id) iT3 I N.rd I I)<|yM I<|pU I (iA aF ar I I G dC (show (0:Int)<((1:Nat):Int) by decide)) ?_;refine pU I (fC ao I zT3 I G)<|pK I (aZ (e:=encCell) (o:=1) (j:=0) (u:=vi x.dim) iT3 I N.rd I I)<|yM I<|pU I (iA aF ar I I G dC (show (0:Int)<((1:Nat):Int) by decide)) ?_;refine pU I (fC ao I aH I G)<|pK I (aZ (e:=encCell) (o:=2) (j:=0) (u:=.slice rp x.sides.length rd) bi I N.rd I I)<|SP.o I (SO.call call117 I<|qR E g _ _ x.sides b6 b7) dC (.inr iR) ?_;rintro v24 g1 _ ⟨rfl,D,a4⟩;obtain ⟨q,d,rfl⟩:=za4 a4;refine pU I (za3 I<|buildF37 _ _ _ I)<|SP.o I (bS sty27 I I I (ab sB) dC) dC (.inr iR) ?_;rintro _ _ _ ⟨d9,rfl,rfl,rfl⟩;refine pU I (aS I) (pN<|tN<|rE<|tR<|ST.freeze fun g2 C hb=>?_);exact za8 (.inl I) results109 I ⟨I,D.trans C,[⟨x.id,x.dim,⟨q,(sortBy aj.cell x.sides).length,d⟩⟩],SlA.lit hb I I,⟨⟨I,I,a4.mono C⟩,trivial⟩⟩
   ·have e0:l.length / 2<l.length:=oM;have e4:0<l.length / 2:=oM;have a5:=ai.cut U (a:=0) (b:=l.length / 2) oM oM;have a9:=ai.cut U (a:=l.length / 2) (b:=l.length) oM oM;rw[List.drop_zero,Nat.sub_zero] at a5;rw[tL (by rw[zf2];exact Nat.le_refl _)] at a9;have b8:aM (l.take<|l.length / 2):=⟨by rw[ze6];omega,fun c hc=>hf.2 c<|List.mem_of_mem_take hc⟩;have b9:aM (l.drop<|l.length / 2):=⟨by rw[zf2];omega,fun c hc=>hf.2 c<|List.mem_of_mem_drop hc⟩;have c0:=aw<|l.take<|l.length / 2;have c1:=aw<|l.drop<|l.length / 2;have b0:=i4<|l.take<|l.length / 2;have b1:=i4<|l.drop<|l.length / 2;have c2:aI Cl.id (l.map cj) (aa (l.take<|l.length / 2)++aa (l.drop<|l.length / 2)):=by
     have Z:=(pS<|l.take<|l.length / 2).append<|pS<|l.drop<|l.length / 2;rwa [← zg7,zj4] at Z
    rw[ze6] at c0;rw[zf2] at c1;refine kP<|tN<|sW I<|lM I<|lU (eN aF I)<|lU (SU.eq (v':=vi ((l.length / 2:Nat):Int)) (SU.quo I I dC)<|ze4 vi<|mc _ oM)<|lU (SU.sliceH aF ar I I oM oM)<|lW (SO.call call109 I<|ih g _ _ (l.take<|l.length / 2) (by rw[ze6];omega) a5 b8) ?_;rintro va0 g1 _ ⟨rfl,D,hA⟩;refine aT I<|sW I<|lM I<|lU (eN aF I)<|lU (SU.eq (v':=vi ((l.length / 2:Nat):Int)) (SU.quo I I dC)<|ze4 vi<|mc _ oM)<|lU (SU.sliceL aF ar I I oM oM)<|lW (SO.call call109 I<|ih g1 _ _ (l.drop<|l.length / 2) (by rw[zf2];omega) (a9.mono D) b9) ?_;rintro vb0 g2 _ ⟨rfl,C,hB⟩;refine aT I<|rZ<|aT I ?_;generalize e9:aa (l.take<|l.length / 2)=A0 at *;generalize f7:aa (l.drop<|l.length / 2)=B0 at *;refine zb6 37 3<|SC.cut (ι:=Value×Value×Value×List Cl×List Cl×List Cl×List Rc) (fun i=>[(3,i.1),(4,i.2.1),(5,i.2.2.1)]) (fun _=>g2) (fun i=>rowA encCell 37 i.2.2.1 i.2.2.2.2.2.2::s)
     (fun i=>ai g2 i.1 i.2.2.2.1∧ai g2 i.2.1 i.2.2.2.2.1∧ax (ak g2) i.2.2.2.2.2.1 i.2.2.2.2.2.2∧i.2.2.2.2.2.1++i.2.2.2.1++i.2.2.2.2.1=aa l) ?_ ?_
    ·refine bK<|oP (ι:=Value×Value×Value×List Cl×List Cl×List Cl×List Cl×List Cl×List Rc) (fun i=>[(3,i.1),(4,i.2.1),(5,i.2.2.1)]) (fun _=>g2) (fun i=>rowA encCell 37 i.2.2.1 i.2.2.2.2.2.2.2.2::s)
      (fun i=>(ai g2 i.1 i.2.2.2.2.1∧ai g2 i.2.1 i.2.2.2.2.2.2.1)∧ax (ak g2) i.2.2.2.2.2.2.2.1 i.2.2.2.2.2.2.2.2∧A0=i.2.2.2.1++i.2.2.2.2.1∧B0=i.2.2.2.2.2.1++i.2.2.2.2.2.2.1∧Srt Cl.id i.2.2.2.2.2.2.2.1∧aI Cl.id (i.2.2.2.1++i.2.2.2.2.2.1) i.2.2.2.2.2.2.2.1 ∧
       (∀ y∈i.2.2.2.2.2.2.2.1,∀ z∈i.2.2.2.2.1++i.2.2.2.2.2.2.1,y.id≤z.id)∧(∀ y∈i.2.2.2.2.2.1,∀ z∈i.2.2.2.2.1,y.id<z.id)) (fun i=>i.2.2.2.2.1.length+i.2.2.2.2.2.2.1.length)
      (va0,vb0,.slice none 0 0,[],A0,[],B0,[],[]) sB rfl rfl ⟨⟨hA.mono C,hB⟩,trivial,rfl,rfl,Srt.nil,aI.refl _,by simp,by simp⟩ ?_
     rintro ⟨va,c3,vo,A1,A2,B1,B2,out,ro⟩ ⟨⟨k,m⟩,A,H,J,S,K,B,P⟩;dsimp only at k m A H J S K B P ⊢;have f8:out.length=A1.length+B1.length:=by have:=K.1;simpa using this
     have d6:=A.length;have c5:A0.length=A1.length+A2.length:=by rw[H];simp
     have c6:B0.length=B1.length+B2.length:=by rw[J];simp
     rw[H] at b0;rw[J] at b1;have F:=(Srt.append_iff.1 b0).2.1;have Q:=(Srt.append_iff.1 b1).2.1;obtain ⟨pa,ca,rfl⟩:=k.form;obtain ⟨pb,cb,rfl⟩:=m.form;have c7:=(ai.cap k).2;have c9:=(ai.cap m).2;have V:A2=[]∨B2=[]→out++A2++B2=aa l:=fun h=>by
      rw[m5];refine bJ ?_ ?_
      ·rw[zh1];refine Srt.append_iff.2 ⟨S,?_,B⟩
       rcases h with rfl | rfl
       ·simpa using Q
       ·simpa using F
      ·refine c2.trans ?_;rw[H,J]
       rcases h with rfl | rfl
       ·have Z:=K.append<|aI.refl (key:=Cl.id) B2;simpa using Z
       ·have h3:aI Cl.id (A2++B1) (B1++A2):=aI.swap (fun x Y y hy=>by have:=P y hy x Y;omega);have h4:=(aI.refl (key:=Cl.id) A1).append h3;have h5:=K.append<|aI.refl (key:=Cl.id) A2;simp only[zc7,zh1] at h4 h5 ⊢;exact h4.trans h5
     cases A2 with
     | nil =>
      exact sQ<|sW I<|lU (eN aF I)<|lU (SU.eq (v':=vb false) (gR I I) I)<|lM I<|yA I<|yA I<|yA I<|yF I<|tZ<|za1 I<|xI<|tX<|tX<|bX<|za9 (_,_,vo,[],B2,out,ro) sB I I ⟨k,m,A,V<|.inl I⟩
     | cons x A3 =>
      have T:(0:Int)<((x::A3).length:Int):=by simp
      cases B2 with
      | nil =>
       exact sQ<|sW I<|lU (eN aF I)<|lU (SU.eq (v':=vb true) (gR I I)<|ze4 vb<|zg1 T)<|lM I<|yC I<|lY I I I (eN aF I)<|lY I I I (SU.eq (v':=vb false) (gR I I) I)<|yP I<|tZ<|za1 I<|xI<|tX<|tX<|bX<|za9 (_,_,vo,x::A3,[],out,ro) sB I I ⟨k,m,A,V<|.inr I⟩
      | cons y B3 =>
       have a0:(0:Int)<((y::B3).length:Int):=by simp
       obtain ⟨ra,L,t⟩:=k;obtain ⟨rb,M,w⟩:=m;have k:ai g2 _ (x::A3):=⟨ra,L,t⟩;have m:ai g2 _ (y::B3):=⟨rb,M,w⟩;have b2:=ai.cut k (a:=1) (b:=(x::A3).length) dO<|Nat.le_refl _;have b3:=ai.cut m (a:=1) (b:=(y::B3).length) dO<|Nat.le_refl _;have d0:((x::A3).drop 1).take ((x::A3).length - 1)=A3:=by simp
       have d1:((y::B3).drop 1).take ((y::B3).length - 1)=B3:=by simp
       rw[d0] at b2;rw[d1] at b3;obtain ⟨x',g4,rfl,Y,_⟩:=ax.cons_left t;obtain ⟨y',g5,rfl,hy,_⟩:=ax.cons_left w;have a1:=L.based dO;have a2:=M.based dO;have d2:A3.length+1+(B3.length+1)+out.length≤l.length:=by simp only[zf1] at c5 c6;omega
       refine sQ<|sW I<|lU (eN aF I)<|lU (SU.eq (v':=vb true) (gR I I)<|ze4 vb<|zg1 T)<|lM I<|yC I<|lY I I I (eN aF I)<|lY I I I (SU.eq (v':=vb true) (gR I I)<|ze4 vb<|zg1 a0)<|yP I<|tZ<|za2 I<|kP<|tN<|bK<|sQ<|dW [] [(0,2),(1,2),(2,2),(3,1),(4,2),(5,2),(6,2),(7,1),(8,2)] ze5 kR<|yM I<|pU I (iA aF ar I I a2 dC a0)<|pU I (fC ao I zT3 I a2)<|pK I (aZ (e:=encCell) (o:=0) (j:=0) (u:=vi y'.id) iT3 I M.rd I I)<|yM I<|pU I (iA aF ar I I a1 dC T)<|pU I (fC ao I zT3 I a1)<|pK I (aZ (e:=encCell) (o:=0) (j:=0) (u:=vi x'.id) iT3 I L.rd I I)<|pU I (lS I I)<|pN<|tN<|iP I (fun hc=>?_) (fun hc=>?_)
       ·refine sW I<|lM I<|lU (iA aF ar I I a2 dC a0)<|lK (SQ.elemA (e:=encCell) (a:=y') (j:=0) dH ar I M.rd I)<|lW (bS sty27 I I I (ab sB) dC) ?_;rintro _ _ _ ⟨g6,rfl,rfl,rfl⟩;refine lW (aP (e:=encCell) 0 y' sty27 I I I I I oM oM) ?_;rintro v61 _ _ ⟨rfl,rfl⟩;refine aT I<|rG<|lM I<|lU (SU.sliceL aF ar I I dC (by simp only[zf1];omega)) ?_;refine lA I<|SL.nil<|bN ?_;rw[Y.1,hy.1] at hc;refine ST.again (_,_,v61,A1,x::A3,B1++[y],B3,out++[y],ro++[y']) sB I I ⟨⟨k,b3⟩,A.append ⟨hy,trivial⟩,H,by rw[J];simp,?_,?_,?_,?_⟩ lN
        ·refine Srt.append_iff.2 ⟨S,Srt.one y,fun a f b hb=>?_⟩;simp at hb;subst hb;exact B a f b dO
        ·have Z:=K.append<|aI.refl (key:=Cl.id) [y];simpa using Z
        ·intro a f b hb;dsimp only at f hb
         rcases zf5.1 f with f | f
         ·refine B a f b ?_;simp at hb ⊢
          rcases hb with h | h | h
          ·exact .inl h
          ·exact .inr<|.inl h
          ·exact .inr<|.inr<|.inr h
         ·simp at f;subst f
          rcases zf5.1 hb with hb | hb
          ·rcases zf3.1 hb with rfl | hb
           ·omega
           ·have:=(Srt.cons_iff.1 F).1 b hb;omega
          ·exact (Srt.cons_iff.1 Q).1 b hb
        ·intro a f b hb;dsimp only at f hb
         rcases zf5.1 f with f | f
         ·exact P a f b hb
         ·simp at f;subst f
          rcases zf3.1 hb with rfl | hb
          ·omega
          ·have:=(Srt.cons_iff.1 F).1 b hb;omega
       ·refine sW I<|lM I<|lU (iA aF ar I I a1 dC T)<|lK (SQ.elemA (e:=encCell) (a:=x') (j:=0) dH ar I L.rd I)<|lW (bS sty27 I I I (ab sB) dC) ?_;rintro _ _ _ ⟨g7,rfl,rfl,rfl⟩;refine lW (aP (e:=encCell) 0 x' sty27 I I I I I oM oM) ?_;rintro v69 _ _ ⟨rfl,rfl⟩;refine aT I<|rG<|lM I<|lU (SU.sliceL aF ar I I dC (by simp only[zf1];omega)) ?_;refine lA I<|SL.nil<|bN ?_;rw[Y.1,hy.1] at hc;refine ST.again (_,_,v69,A1++[x],A3,B1,y::B3,out++[x],ro++[x']) sB I I ⟨⟨b2,m⟩,A.append ⟨Y,trivial⟩,by rw[H];simp,J,?_,?_,?_,?_⟩ lN
        ·refine Srt.append_iff.2 ⟨S,Srt.one x,fun a f b hb=>?_⟩;simp at hb;subst hb;exact B a f b dO
        ·have Z:aI Cl.id ([x]++B1) (B1++[x]):=aI.swap (fun a f b hb=>by simp at f;subst f;have:=P b hb a dO;omega);have h3:=(aI.refl (key:=Cl.id) A1).append Z;have h4:=K.append<|aI.refl (key:=Cl.id) [x];dsimp only;simp only[zh1] at h3 h4 ⊢;exact h3.trans h4
        ·intro a f b hb;dsimp only at f hb
         rcases zf5.1 f with f | f
         ·refine B a f b ?_;simp at hb ⊢
          rcases hb with h | h | h
          ·exact .inr<|.inl h
          ·exact .inr<|.inr<|.inl h
          ·exact .inr<|.inr<|.inr h
         ·simp at f;subst f
          rcases zf5.1 hb with hb | hb
          ·exact (Srt.cons_iff.1 F).1 b hb
          ·rcases zf3.1 hb with rfl | hb
           ·omega
           ·have:=(Srt.cons_iff.1 Q).1 b hb;omega
        ·intro a f b hb;exact P a f b (by simp[hb])
    ·rintro ⟨va,c3,vo,A2,B2,out,ro⟩ ⟨k,m,A,R⟩;dsimp only at k m A R ⊢;obtain ⟨ra,L,t⟩:=k;obtain ⟨rb,M,w⟩:=m;have b4:=ze4 List.length R;rw[aw] at b4;simp only[ze7] at b4;have e1:=A.length;have e2:=t.length;have e3:=w.length;refine sW I<|lM I<|lW (aQ (e:=encCell) 0 sty27 I I I L oM oM) ?_;rintro v74 _ _ ⟨rfl,rfl⟩;refine lM I<|lW (aQ (e:=encCell) 0 sty27 I I I M lN lN) ?_;rintro v76 _ _ ⟨rfl,rfl⟩;refine aT I (rE<|fT fun g3 W d3=>?_);exact za8 (.inl I) results109 I ⟨I,D.trans<|C.trans W,ro++ra++rb,d3,by rw[← R];exact (((A.append t).append w).mono fun _ _=>ak.mono W)⟩
theorem cd (E:World)(g:PH)(s:Own)(v:Value)(l:List Cl)(b:ai g v l)(f:aM l) :
  Ctr Tryz.prog E 77 #[.agg #[v]] g s (fun r g' s'=>s=s'∧Le g g'∧∃ u,r = .agg #[u]∧ai g' u (aa l)):=by
 obtain ⟨p,c,rfl⟩:=b.form;refine zb2 (args:=[.agg #[.slice p l.length c]]) func77 I ntmps77 (bE I)<|rZ (bW (bO I) fun i=>?_);refine bW (aL zl3) fun j=>tZ<|rZ<|lU (fA dA I cq I)<|lK (qL eG I<|cO 1 I I)<|lW (SO.call call109 I<|j8 E l.length g _ _ l (Nat.le_refl _) b f) ?_;rintro v5 g1 _ ⟨rfl,a,e⟩;obtain ⟨q,d,rfl⟩:=e.form;exact lU (za3 I<|build29 _ I)<|oZ (sK 0 ae I I I I I sB)<|tZ<|rE<|ST.retCD 0 s (.inl I) results77 I an ae I I uR ⟨I,a,_,I,e⟩
theorem jv (E:World)(g:PH)(s:Own)(a b:Cl)(J K:Rc)(L:ak g a J)(hb:ak g b K)(hl:a.sides.length<1099511627776) :
  Ctr Tryz.prog E 10 #[rcv J,rcv K] g s (fun r g' s'=>r=vb (decide (a=b))∧g=g'∧s=s'):=by
 obtain ⟨p,c,rfl,m⟩:=ec L;obtain ⟨q,d,rfl,n⟩:=ec hb;have f1:a.id≠b.id→(decide (a.id≠b.id)||decide (a.dim≠b.dim)||decide ((a.sides.length:Int)≠b.sides.length))=true:=fun h=>by simp[h]
 have f2:¬ a.id≠b.id→a.dim≠b.dim→(decide (a.id≠b.id)||decide (a.dim≠b.dim)||decide ((a.sides.length:Int)≠b.sides.length))=true:=fun h y=>by simp[h,y]
 have f3:¬ a.id≠b.id→¬ a.dim≠b.dim→(decide (a.id≠b.id)||decide (a.dim≠b.dim)||decide ((a.sides.length:Int)≠b.sides.length))=decide ((a.sides.length:Int)≠b.sides.length):=fun h y=>by simp[h,y]
 refine zb2 (args:=[.agg #[vi a.id,vi a.dim,.slice p a.sides.length c],.agg #[vi b.id,vi b.dim,.slice q b.sides.length d]]) func10 I ntmps10 (bE I)<|rZ (bW (bO I) fun z=>?_);refine bW (bO I) fun A=>aT I<|sQ ?_;refine SC.to (g':=g) (s':=pt A (bY #[vi b.id,vi b.dim,.slice q b.sides.length d] 37)::pt z (bY #[vi a.id,vi a.dim,.slice p a.sides.length c] 37)::s) (fun w M=>M) ?_;refine SC.cutB 26 ((decide (a.id≠b.id)||decide (a.dim≠b.dim)||decide ((a.sides.length:Int)≠b.sides.length))) ?_ ?_
 ·refine rG<|lU (fA ao I zT3 I)<|lK (qL (v:=vi a.id) iT3 I<|cO 1 I I)<|lU (fA ao I zT3 I)<|lK (qL (v:=vi b.id) iT3 I<|cO 0 I I)<|lU (nQ I I)<|lM I<|sP ?_ ?_
  ·intro i;exact yA I<|yA I<|yA I<|yA I<|yA I<|yP I<|lM I<|yA I<|yA I<|yA I<|yA I<|yA I<|yA I<|yA I<|yP I<|SL.nil<|zb1 (by (rw[f1 i];rfl)) mI
  ·intro i;refine lY I I I (fA ao I zT3 I)<|SL.gq (gT I I I dC) (qL (v:=vi a.dim) iT3 I<|cO 1 I I) dC<|lY I I I (fA ao I zT3 I)<|SL.gq (gT I I I dC) (qL (v:=vi b.dim) iT3 I<|cO 0 I I) dC<|lY I I I (nQ I I)<|yF I<|lM I<|sP ?_ ?_
   ·intro j;exact yA I<|yA I<|yA I<|yA I<|yA I<|yA I<|yA I<|yP I<|SL.nil<|zb1 (by (rw[f2 i j];rfl)) mI
   ·intro j;exact lY I I I (fA ao I aH I)<|SL.gq (gT I I I dC) (qL (v:=.slice p a.sides.length c) bi I<|cO 1 I I) dC<|lY I I I (eN a7 I)<|lY I I I (fA ao I aH I)<|SL.gq (gT I I I dC) (qL (v:=.slice q b.sides.length d) bi I<|cO 0 I I) dC<|lY I I I (eN a7 I)<|lY I I I (nQ I I)<|yF I<|SL.nil<|zb1 (by (rw[f3 i j];rfl)) mI
 refine iQ I (fun f=>?_) (fun f=>?_)
 ·exact rZ<|aT I<|rE<|tR<|dR (s':=s) uR<|za8 (.inl I) results10 I ⟨ze4 vb<|Eq.symm (zf9 fun e=>by rw[e] at f;simp at f),I,I⟩
 ·have B:a.id=b.id:=by simp at f;exact f.1.1
  have o:a.dim=b.dim:=by simp at f;exact f.1.2
  have C:a.sides.length=b.sides.length:=by simp at f;omega
  refine kP<|tN<|sQ<|rZ<|aT I<|bK<|oP (ι:=Nat) (fun k=>[(2,pp z 0),(3,pp A 0),(5,vi k)]) (fun _=>g) (fun _=>pt A (bY #[vi b.id,vi b.dim,.slice q b.sides.length d] 37)::pt z (bY #[vi a.id,vi a.dim,.slice p a.sides.length c] 37)::s) (fun k=>k≤a.sides.length∧a.sides.take k=b.sides.take k) (fun k=>a.sides.length - k) 0
   sB rfl rfl ⟨zf8 _,by simp⟩ ?_
  rintro k ⟨O,t⟩;refine sQ<|sW I<|lU (fA ao I aH I)<|lK (qL (v:=.slice p a.sides.length c) bi I<|cO 1 I I)<|lU (eN a7 I)<|yL I<|tZ<|iP I (fun D=>?_) (fun D=>?_)
  ·have u:k<a.sides.length:=oM;have x:k<b.sides.length:=oM;have F:=m.based oM;have G:=n.based oM;refine kP<|tN<|sQ<|bK<|sQ<|dW [] [(0,2),(1,1),(2,2),(3,2),(4,1),(5,2),(6,1),(7,2),(8,2),(9,1),(10,2)] ze5 kR<|pU I (fA ao I aH I)<|pK I (qL (v:=.slice p a.sides.length c) bi I<|cO 1 I I)<|yM I<|pU I (iA a7 aR I I F oM sL)<|pQ I (SQ.elemA iU aR I m.rd<|List.getElem?_eq_getElem u) dC ?_;refine pU I (fA ao I aH I)<|pK I (qL (v:=.slice q b.sides.length d) bi I<|cO 0 I I)<|yM I<|pU I (iA a7 aR I I G oM sL)<|pQ I (SQ.elemA iU aR I n.rd<|List.getElem?_eq_getElem x) dC ?_;refine pU I (SU.neqSide I I)<|pN<|tN<|iP I (fun l=>?_) (fun l=>?_)
   ·exact rZ<|aT I<|rE<|bR<|tR<|tR<|bR<|tR<|dR (s':=s) uR<|za8 (.inl I) results10 I ⟨ze4 vb (Eq.symm<|zf9 fun e=>l<|by simp[e]),I,I⟩
   ·exact kP<|bN<|tN<|rG<|lM I<|yD I<|lA I<|SL.nil<|ST.again (k+1) sB I I ⟨oM,ix u x t<|zh2 l⟩ oM
  ·have H:k=a.sides.length:=oM;subst H;have N:=jm C t;exact xI<|tX<|tX<|bX<|tN<|rZ<|aT I<|rE<|dR (s':=s) uR<|za8 (.inl I) results10 I ⟨ze4 vb<|Eq.symm<|zg1<|AC.2 ⟨B,o,N⟩,I,I⟩
theorem Ct (l:List Cl):∀ (acc:List Cl) (c:Cl),(c∈acc∨c∈l)→∃ x∈l.foldl gn acc,x.id=c.id:=by
 induction l with
 | nil=>intro acc c h;rcases h with h | h;exact⟨c,h,I⟩;simp at h
 | cons y r ih =>
  intro acc c h;simp only[zj1]
  rcases h with h | h
  ·exact ih (gn acc y) c<|.inl (by unfold gn;split;exact h;simp[h])
  ·rcases zf3.1 h with rfl | h
   ·by_cases a:acc.any (fun x=>x.id == c.id)=true
    ·rw[td a];rw[zk1] at a;obtain ⟨z,hz,e⟩:=a;obtain ⟨x,f,b⟩:=ih acc z<|.inl hz;exact⟨x,f,by rw[b];simpa using e⟩
    ·have d:acc.any (fun x=>x.id == c.id)=false:=by simpa using a
     rw[lG d];exact ih _ c (.inl<|by simp)
   ·exact ih _ c<|.inr h
theorem EX {L:List Cl}(e:Srt Cl.id L){k:Nat}(l:0<k)(g:k<L.length):((L.take k).foldl gn []).any (fun x=>x.id == L[k].id)=decide (L[k].id=(L[k - 1]'oM).id):=by
 rw[Bool.eq_iff_iff,zk1,zj8];constructor
 ·rintro ⟨x,b,a⟩;have hm:=(un _ [] x b).resolve_left dO;obtain ⟨j,i,rfl⟩:=zc8 hm;rw[ze6] at i;rw[List.getElem_take] at a;have c:(L[j]'oM).id=L[k].id:=by simpa using a
  rcases Nat.lt_or_ge j (k - 1) with h | h
  ·have m:=zd1.1 e j (k - 1) oM oM h;have f:=zd1.1 e (k - 1) k oM g oM;omega
  ·have:j=k - 1:=oM;subst this;exact c.symm
 ·intro a;have hm:(L[k - 1]'oM)∈L.take k:=by
   have:k - 1<(L.take k).length:=by rw[ze6];omega
   have f:=gM this;rwa [List.getElem_take] at f
  obtain ⟨x,b,d⟩:=Ct (L.take k) [] _ (.inr hm);exact⟨x,b,by rw[d,← a];simp⟩
theorem dw (E:World)(g:PH)(s:Own)(v:Value)(l:List Cl)(Q:ai g v l)(R:aM l) :
  Ctr Tryz.prog E 54 #[.agg #[v]] g s (fun r g' s'=>s=s'∧Le g g'∧ai g' r (am l)):=by
 obtain ⟨p,c,rfl⟩:=Q.form;have C:=i4 l;have S:=aw l;have T:=R.1;refine zb2 (args:=[.agg #[.slice p l.length c]]) func54 I ntmps54 (bE I)<|rZ (bW (bO I) fun U=>?_);refine aT I<|rZ<|lU (fA dA I cq I)<|lK (qL eG I<|cO 0 I I)<|lW (SO.call call109 I<|j8 E l.length g _ _ l (Nat.le_refl _) Q R) ?_;rintro v8 g1 _ ⟨rfl,J,V⟩;obtain ⟨rs,b,j⟩:=V;have W:=j.length;obtain ⟨q,d,rfl⟩:=b.form;refine aT I<|rZ<|aT I<|sQ<|rZ<|aT I<|bK<|zb6 37 3<|oP (ι:=Value×Nat×List Rc) (fun i=>[(3,.slice q rs.length d),(4,i.1),(5,vi i.2.1)]) (fun _=>g1) (fun i=>rowA encCell 37 i.1 i.2.2::pt U (bY #[.slice p l.length c] 29)::s)
  (fun i=>i.2.1≤rs.length∧ax (ak g1) (((aa l).take i.2.1).foldl gn []) i.2.2) (fun i=>rs.length - i.2.1) (.slice none 0 0,0,[]) sB rfl rfl ⟨zf8 _,by simp[ax]⟩ ?_
 rintro ⟨X,k,acc⟩ ⟨Y,a⟩;dsimp only at Y a ⊢;have Z:=a.length;have D:=gw ((aa l).take k) [];simp only[ze6,zc5] at D;refine sQ<|sW I<|lM I<|lU (eN aF I)<|yL I<|tZ<|iP I (fun K=>?_) (fun K=>?_)
 ·have F:k<rs.length:=oM;have z:k<(aa l).length:=oM;have f:=b.based oM;have A:=j.get (List.getElem?_eq_getElem z)<|List.getElem?_eq_getElem F;have m:((aa l).take<|k+1).foldl gn []=gn (((aa l).take k).foldl gn []) (aa l)[k]:=by
   rw[tS z,zj2];rfl
  have B:rs[((k:Nat):Int).toNat]?=some rs[k]:=List.getElem?_eq_getElem F;have t:gn (((aa l).take k).foldl gn []) (aa l)[k]=((aa l).take k).foldl gn []++[(aa l)[k]]→ax (ak g1) (((aa l).take<|k+1).foldl gn []) (acc++[rs[k]]):=fun h=>by
   rw[m,h];exact a.append ⟨A,trivial⟩
  by_cases L:k=0
  ·subst L;refine kP<|tN<|sQ<|bK<|sQ<|dW [] [(0,2),(1,2),(2,2),(3,2),(4,2),(5,2),(6,2),(7,1),(8,2),(9,2),(10,2),(11,2),(12,2),(13,1),(14,2),(15,2)] ze5 kR<|yM I<|pU I (SU.eq (v':=vb true) (eQ I I) I)<|yM I<|yG I<|yG I<|yG I<|yG I<|yI I<|yG I<|yG I<|yG I<|yG I<|yG I<|yI I<|yG I<|pU I (wT I I)<|pN<|tN<|za2 I<|rG<|lM I<|lM I<|lM I<|lU (iA aF ar I I f oM sL)<|lK (SQ.elemA dH ar I b.rd B)<|lW (bS sty27 I I I (ab sB) dC) ?_;rintro _ _ _ ⟨M,rfl,rfl,rfl⟩;refine lW (aP (e:=encCell) 0 rs[0] sty27 I I I I I oM oM) ?_;rintro v37 _ _ ⟨rfl,rfl⟩;exact lA I<|SL.nil<|bN<|tN<|rG<|lM I<|yD I<|lA I<|SL.nil<|ST.again (v37,0+1,acc++[rs[0]]) sB I I ⟨lN,t (lG<|by simp)⟩ lN
  ·have G:k - 1<rs.length:=oM;have H:k - 1<(aa l).length:=oM;have w:=EX C (by omega:0<k) z;have x:=j.get (List.getElem?_eq_getElem H)<|List.getElem?_eq_getElem G;have N:rs[((k:Int) - 1).toNat]?=some rs[k - 1]:=by rw[show ((k:Int) - 1).toNat=k - 1 by omega];exact List.getElem?_eq_getElem G
   refine kP<|tN<|sQ<|bK<|sQ<|dW [] [(0,2),(1,2),(2,2),(3,2),(4,2),(5,2),(6,2),(7,1),(8,2),(9,2),(10,2),(11,2),(12,2),(13,1),(14,2),(15,2)] ze5 kR<|yM I<|pU I (SU.eq (v':=vb false) (eQ I I)<|ze4 vb<|zf9 oM)<|yM I<|yJ I<|yJ I<|zb3 I (gT I I I dC) (iA aF ar I I f oM sL) dC<|zb3 I (gT I I I dC) (fC ao I zT3 I f) dC<|SP.gq I (gT I I I dC) (aZ (e:=encCell) (o:=0) (u:=vi rs[k].id) iT3 I b.rd B I) dC<|yJ I<|yJ I<|zb3 I (gT I I I dC) (sU I I oM) dC<|zb3 I (gT I I I dC) (iA aF ar I I f oM sL) dC<|zb3 I (gT I I I dC) (fC ao I zT3 I f) dC<|SP.gq I (gT I I I dC) (aZ (e:=encCell) (o:=0) (u:=vi rs[k - 1].id) iT3 I b.rd N I) dC<|zb3 I (gT I I I dC) (nQ I I) dC<|pU I (wF I I)<|pN<|tN<|iP I (fun n=>?_) (fun n=>?_)
   ·refine rG<|lM I<|lM I<|lM I<|lU (iA aF ar I I f oM sL)<|lK (SQ.elemA dH ar I b.rd B)<|lW (bS sty27 I I I (ab sB) dC) ?_;rintro _ _ _ ⟨M,rfl,rfl,rfl⟩;refine lW (aP (e:=encCell) 0 rs[k] sty27 I I I I I oM oM) ?_;rintro v37 _ _ ⟨rfl,rfl⟩;refine lA I<|SL.nil<|bN<|tN<|rG<|lM I<|yD I<|lA I<|SL.nil ?_;rw[A.1,x.1] at n;exact ST.again (v37,k+1,acc++[rs[k]]) sB I I ⟨lN,t<|lG (by rw[w];exact zf9 n)⟩ lN
   ·refine kP<|bN<|tN<|rG<|lM I<|yD I<|lA I<|SL.nil ?_;rw[A.1,x.1] at n;exact ST.again (X,k+1,acc) sB I I ⟨lN,by dsimp only;rw[m,td (by rw[w];exact zg1<|zh2 n)];exact a⟩ lN
 ·have O:(aa l).take k=aa l:=tL oM;rw[O] at a;refine xI (tX<|tX<|bX<|tN<|sW I<|aT I<|rE<|fT fun g2 y P=>?_);exact dR (s':=s) uR<|za8 (.inl I) results54 I ⟨I,J.trans y,acc,P,a.mono fun _ _=>ak.mono y⟩
def atC (l:List Cl)(id:Int):Int:=if (l.map Cl.id).contains id then lbI (l.map Cl.id) id else -1
theorem ip (E:World)(g:PH)(s:Own)(v:Value)(l:List Cl)(id:Int)(R:ai g v l)(hl:l.length<1099511627776)(H:(l.map Cl.id).Pairwise (· ≤ ·)) :
  Ctr Tryz.prog E 107 #[v,vi id] g s (fun r g' s'=>r=vi (atC l id)∧g=g'∧s=s'):=by
 obtain ⟨rs,d,t⟩:=R;have S:=t.length;obtain ⟨p,c,rfl⟩:=d.form;have y:=jW t;have T:(l.map Cl.id).length=l.length:=by simp
 have z:∀ k (h:k<(l.map Cl.id).length) (J:k<rs.length),(l.map Cl.id)[k]=rs[k].id:=fun k h J=>by simp only[y];simp
 unfold atC;refine zb2 (args:=[.slice p rs.length c,vi id]) func107 I ntmps107 (bE I)<|rZ<|aT I<|rZ<|aT I<|sW I<|lU (eN aF I)<|aT I ?_;generalize l.map Cl.id=L at *;refine SC.cut (ι:=Nat) (fun i=>[(0,.slice p rs.length c),(1,vi id),(5,vi i)]) (fun _=>g) (fun _=>s) (fun i=>i≤L.length∧(∀ k (h:k<L.length),k<i→L[k]<id)∧∀ k (h:k<L.length),i≤k→id≤L[k]) ?_ ?_
 ·refine bK<|oP (ι:=Nat×Nat) (fun q=>[(0,.slice p rs.length c),(1,vi id),(5,vi q.1),(6,vi q.2)]) (fun _=>g) (fun _=>s)
   (fun q=>q.1≤q.2∧q.2≤L.length∧(∀ k (h:k<L.length),k<q.1→L[k]<id)∧∀ k (h:k<L.length),q.2≤k→id≤L[k]) (fun q=>q.2 - q.1) (0,L.length)
   ⟨rfl,rfl,rfl,bG oM,trivial⟩ rfl rfl ⟨zf8 _,Nat.le_refl _,fun k _ h=>absurd h oM,fun k U J=>absurd U (by dsimp only at J;omega)⟩ ?_
  rintro ⟨i,j⟩ ⟨K,A,a,b⟩;dsimp only at K A a b ⊢;refine sQ<|sW I<|lM I<|yL I<|tZ<|iP I (fun M=>?_) (fun M=>?_)
  ·have f:=d.based oM;have m:(i+j) / 2<L.length:=oM;have B:(i+j) / 2<rs.length:=oM;have x:rs[((((i+j) / 2:Nat):Int)).toNat]?=some rs[(i+j) / 2]:=List.getElem?_eq_getElem B;have n:=z _ m B;refine kP<|tN<|bK<|sW I<|lM I<|yD I<|lU (SU.eq (v':=vi (((i+j) / 2:Nat):Int)) (SU.quo I I dC)<|ze4 vi (by rw[← Int.natCast_add];exact mc _ oM)) ?_;refine aT I<|sW I<|lM I<|lU (iA aF ar I I f oM sL)<|lU (fC ao I zT3 I f)<|lK (aZ (e:=encCell) (o:=0) (u:=vi rs[(i+j) / 2].id) iT3 I d.rd x I)<|lM I<|yL I<|tZ<|iP I (fun hc=>?_) (fun hc=>?_)
   ·refine rG<|lM I<|yD I<|lA I<|SL.nil<|bN<|ST.again ((i+j) / 2+1,j) sB I I ⟨lN,A,fun k N h=>?_,b⟩ lN;dsimp only at h;rw[← n] at hc
    rcases Nat.eq_or_lt_of_le (show k≤(i+j) / 2 by omega) with rfl | C
    ·exact hc
    ·have:=zd1.1 H k ((i+j) / 2) N m C;omega
   ·refine rG<|lM I<|lA I<|SL.nil<|bN<|ST.again (i,(i+j) / 2) sB I I ⟨lN,lN,a,fun k N h=>?_⟩ lN;dsimp only at h;rw[← n] at hc
    rcases Nat.eq_or_lt_of_le (show (i+j) / 2≤k by omega) with C | C
    ·subst C;omega
    ·have:=zd1.1 H ((i+j) / 2) k m N C;omega
  ·have O:i=j:=oM;subst O;exact xI<|tX<|tX<|bX<|za9 i sB I I ⟨A,a,b⟩
 ·rintro i ⟨A,a,b⟩;have P:=GE A a b;by_cases D:(i:Int)<(rs.length:Int)
  ·have F:i<rs.length:=oM;have G:i<L.length:=oM;have f:=d.based oM;have x:rs[((i:Nat):Int).toNat]?=some rs[i]:=List.getElem?_eq_getElem F;have n:=z _ G F;have w:=DQ H a b G;refine sQ<|sW I<|lM I<|lU (eN aF I)<|lU (SU.eq (v':=vb true) (lS I I)<|ze4 vb<|zg1 D)<|lM I<|yC I<|yC I<|lY I I I (iA aF ar I I f oM sL)<|lY I I I (fC ao I zT3 I f)<|SL.gq (gT I I I dC) (aZ (e:=encCell) (o:=0) (u:=vi rs[i].id) iT3 I d.rd x I) dC<|yC I<|lY I I I (eQ I I)<|yP I<|tZ<|iP I (fun hc=>?_) (fun hc=>?_)
   ·refine sW I<|aT I<|rE<|tR ?_;rw[← n] at hc;exact za8 (.inl I) results107 I ⟨by rw[← w,zg1 hc,zg3 I,P],I,I⟩
   ·refine kP<|tN<|rZ<|aT I<|rE ?_;rw[← n] at hc;exact za8 (.inl I) results107 I ⟨by rw[← w,zf9 hc];rfl,rfl,rfl⟩
  ·have Q:=Dx a oM;exact sQ<|sW I<|lM I<|lU (eN aF I)<|lU (SU.eq (v':=vb false) (lS I I)<|ze4 vb<|zf9 D)<|lM I<|yA I<|yA I<|yA I<|yA I<|yA I<|yA I<|yA I<|yF I<|tZ<|za1 I<|kP<|tN<|rZ<|aT I<|rE<|za8 (.inl I) results107 I ⟨by rw[Q];rfl,rfl,rfl⟩
theorem Cg {l:List Int}(g:l.Pairwise (· ≤ ·))(x:Int):(∀ k (h:k<l.length),k<lbI l x→l[k]<x)∧(∀ k (h:k<l.length),lbI l x≤k→x≤l[k]):=by
 induction l with
 | nil=>exact⟨fun k h=>absurd h dO,fun k h=>absurd h dO⟩
 | cons a r ih =>
  obtain ⟨f,i⟩:=zk5.1 g;obtain ⟨i1,i2⟩:=ih i;by_cases b:a<x
  ·have hl:lbI (a::r) x=lbI r x+1:=by simp[lbI,b]
   rw[hl];refine⟨fun k h c=>?_,fun k h c=>?_⟩
   ·cases k with
    | zero=>exact b
    | succ k=>exact i1 k (by simpa using h) oM
   ·cases k with
    | zero=>omega
    | succ k=>exact i2 k (by simpa using h) oM
  ·have hz:lbI (a::r) x=0:=by
    unfold lbI;rw[List.length_eq_zero_iff,List.filter_eq_nil_iff];intro y d
    rcases zf3.1 d with rfl | d
    ·simpa using Int.not_lt.1 b
    ·have:=f y d;simp;omega
   rw[hz];refine⟨fun k h c=>absurd c oM,fun k h _=>?_⟩;cases k with
   | zero=>exact Int.not_lt.1 b
   | succ k =>
    have e:k<r.length:=by simpa using h
    have:=f r[k] (gM e);simp;omega
theorem se {tl:List Cl}(p:(tl.map Cl.id).Pairwise (· ≤ ·))(id:Int):(ag tl id=none∧atC tl id = -1)∨∃ c k,ag tl id=some c∧atC tl id=((k:Nat):Int)∧tl[k]?=some c:=by
 obtain ⟨g,s⟩:=Cg p id;by_cases hc:(tl.map Cl.id).contains id=true
 ·right;have hm:id∈tl.map Cl.id:=by simpa using hc
  obtain ⟨t,a,q⟩:=zf4.1 hm;cases f:ag tl id with
  | none =>
   have:=List.find?_eq_none.1 f t a;simp[q] at this
  | some c =>
   have i:lbI (tl.map Cl.id) id<tl.length:=by
    rcases Nat.lt_or_ge (lbI (tl.map Cl.id) id) tl.length with h | h
    ·exact h
    ·obtain ⟨j,d,rfl⟩:=zc8 a;have:=g j (by simpa using d) oM;simp at this;omega
   refine⟨c,lbI (tl.map Cl.id) id,I,by unfold atC;rw[zg3 hc],?_⟩;rw[List.getElem?_eq_getElem i];have l:=s _ (by simpa using i)<|Nat.le_refl _;have m:tl[lbI (tl.map Cl.id) id].id=id:=by
    obtain ⟨j,d,rfl⟩:=zc8 a;have b:lbI (tl.map Cl.id) id≤j:=by
     rcases Nat.lt_or_ge j (lbI (tl.map Cl.id) id) with h | h
     ·have:=g j (by simpa using d) h;simp at this;omega
     ·exact h
    rcases Nat.eq_or_lt_of_le b with h | h
    ·simp only[h];exact q
    ·have u:=zd1.1 p _ j (by simpa using i) (by simpa using d) h;simp at u l;omega
   unfold ag at f;rw[List.find?_eq_some_iff_getElem] at f;obtain ⟨hp,j,d,r,n⟩:=f;have o:c.id=id:=by simpa using hp
   congr 1;rw[← r];have b:j=lbI (tl.map Cl.id) id:=by
    rcases Nat.lt_trichotomy j (lbI (tl.map Cl.id) id) with h | h | h
    ·have:=g j (by simpa using d) h;simp[r,o] at this
    ·exact h
    ·have:=n _ h;simp[m] at this
   simp only[b]
 ·left;have hn:id ∉ tl.map Cl.id:=by simpa using hc
  refine⟨?_,by unfold atC;rw[zg2 hc]⟩;unfold ag;rw[List.find?_eq_none];intro x v;simp;exact fun e=>hn<|zf4.2 ⟨x,v,e⟩
theorem Bx {l:List aj}(e:l.length=2)(c:l.any bZ=false):∃ a b,l=[a,b]∧(decide (na l≠0))=decide (a.sign=b.sign):=by
 match l,e with
 | [a,b],_ =>
  simp only[List.any_cons,List.any_nil,Bool.or_false,Bool.or_eq_false_iff] at c;have e1:a.sign=1∨a.sign = -1:=by
   have d:=c.1;simp only[bZ,Bool.and_eq_false_iff,decide_eq_false_iff_not,ne_eq,Decidable.not_not] at d;exact d
  have e2:b.sign=1∨b.sign = -1:=by
   have d:=c.2;simp only[bZ,Bool.and_eq_false_iff,decide_eq_false_iff_not,ne_eq,Decidable.not_not] at d;exact d
  refine⟨a,b,I,?_⟩;rw[Bool.eq_iff_iff];simp[na];omega
theorem rz (E:World)(g:PH)(s:Own)(v:Value)(tl:List Cl)(c:Cl)(r:Rc)(hv:ai g v tl)(S:tl.length<1099511627776)(hs:(tl.map Cl.id).Pairwise (· ≤ ·))(hc:ak g c r)(hl:c.sides.length<1099511627776) :
  Ctr Tryz.prog E 161 #[v,rcv r] g s (fun r g' s'=>r=vi (cN tl c)∧g=g'∧s=s'):=by
 obtain ⟨rs,F,K⟩:=hv;have hv:ai g v tl:=⟨rs,F,K⟩;have c5:=K.length;obtain ⟨vp,vc,rfl⟩:=F.form;obtain ⟨t,d,rfl,l⟩:=ec hc;have X:=fun h=>l.based h;refine zb2 (args:=[.slice vp rs.length vc,.agg #[vi c.id,vi c.dim,.slice t c.sides.length d]]) func161 I ntmps161 (bE I)<|rZ (bW (bO I) fun b3=>?_);refine aT I<|sQ ?_;refine SC.to (g':=g) (s':=pt b3 (bY #[vi c.id,vi c.dim,.slice t c.sides.length d] 37)::s) (fun w hw=>hw) ?_;refine SC.cutB 16 (fM c) ?_ ?_
 ·refine rG<|lU (fA ao I zT3 I)<|lK (qL (v:=vi c.dim) iT3 I<|cO 0 I I)<|yL I<|lM I<|sP ?_ ?_
  ·intro b6;exact yA I<|yA I<|yA I<|yP I<|SL.nil<|zb1 (by simp_all[aN,fM] <;> omega) mI
  ·intro b6;exact lY I I I (fA ao I zT3 I)<|SL.gq (gT I I I dC) (qL (v:=vi c.dim) iT3 I<|cO 0 I I) dC<|lY I I I (gR I I)<|yF I<|SL.nil<|zb1 (by simp_all[aN,fM] <;> omega) mI
 refine iQ I (fun m=>?_) (fun m=>?_)
 ·exact rZ<|aT I<|rE<|tR<|dR (s':=s) uR<|za8 (.inl I) results161 I ⟨by unfold cN;rw[zg3 m],I,I⟩
 ·have c6:0≤c.dim∧c.dim≤8:=by simp[fM] at m;omega
  refine kP<|tN<|rZ<|lU (fA ao I aH I)<|lK (qL (v:=.slice t c.sides.length d) bi I<|cO 0 I I)<|lU (eN a7 I)<|aT I<|sQ<|SC.cutB 48 (aO c) ?_ ?_
  ·refine rG<|lU (fA ao I zT3 I)<|lK (qL (v:=vi c.dim) iT3 I<|cO 0 I I)<|yE I<|lM I<|sP ?_ ?_
   ·intro b7;refine yC I<|lY I I I (gR I I)<|yP I<|lM I<|sP ?_ ?_
    ·intro b8;exact yA I<|yA I<|yA I<|yA I<|yB I<|yB I<|yA I<|yP I<|lM I<|yA I<|yA I<|yA I<|yA I<|yB I<|yB I<|yB I<|yB I<|yB I<|yB I<|yA I<|yP I<|SL.nil<|zb1 (by simp_all[aN,aO] <;> omega) mI
    ·intro b8;refine lY I I I (fA ao I zT3 I)<|SL.gq (gT I I I dC) (qL (v:=vi c.dim) iT3 I<|cO 0 I I) dC<|lY I I I (eQ I I)<|yC I<|sP ?_ ?_
     ·intro Y;refine yC I<|lY I I I (nQ I I)<|lY I I I (wT I I)<|yF I<|lM I<|sP ?_ ?_
      ·intro Z;exact yA I<|yA I<|yA I<|yA I<|yB I<|yB I<|yB I<|yB I<|yB I<|yB I<|yA I<|yP I<|SL.nil<|zb1 (by simp_all[aN,aO] <;> omega) mI
      ·intro Z;refine lY I I I (fA ao I zT3 I)<|SL.gq (gT I I I dC) (qL (v:=vi c.dim) iT3 I<|cO 0 I I) dC<|lY I I I (gR I I)<|yC I<|sP ?_ ?_
       ·intro z;refine yC I<|lY I I I (lS I I)<|yC I<|sP ?_ ?_
        ·intro A;exact yA I<|yA I<|lY I I I (wT I I)<|lY I I I (wT I I)<|yF I<|SL.nil<|zb1 (by simp_all[aN,aO] <;> omega) mI
        ·intro A;exact yC I<|lY I I I (gR I I)<|lY I I I (wF I I)<|lY I I I (wT I I)<|yF I<|SL.nil<|zb1 (by simp_all[aN,aO] <;> omega) mI
       ·intro z;exact yA I<|yA I<|yA I<|yB I<|yB I<|yA I<|lY I I I (wF I I)<|yF I<|SL.nil<|zb1 (by simp_all[aN,aO] <;> omega) mI
     ·intro Y;refine yA I<|yA I<|lY I I I (wF I I)<|yF I<|lM I<|lY I I I (fA ao I zT3 I)<|SL.gq (gT I I I dC) (qL (v:=vi c.dim) iT3 I<|cO 0 I I) dC<|lY I I I (gR I I)<|yC I<|sP ?_ ?_
      ·intro z;refine yC I<|lY I I I (lS I I)<|yC I<|sP ?_ ?_
       ·intro A;exact yA I<|yA I<|lY I I I (wT I I)<|lY I I I (wT I I)<|yF I<|SL.nil<|zb1 (by simp_all[aN,aO] <;> omega) mI
       ·intro A;exact yC I<|lY I I I (gR I I)<|lY I I I (wF I I)<|lY I I I (wT I I)<|yF I<|SL.nil<|zb1 (by simp_all[aN,aO] <;> omega) mI
      ·intro z;exact yA I<|yA I<|yA I<|yB I<|yB I<|yA I<|lY I I I (wF I I)<|yF I<|SL.nil<|zb1 (by simp_all[aN,aO] <;> omega) mI
   ·intro b7;refine yA I<|yA I<|yF I<|lM I<|lY I I I (fA ao I zT3 I)<|SL.gq (gT I I I dC) (qL (v:=vi c.dim) iT3 I<|cO 0 I I) dC<|lY I I I (eQ I I)<|yC I<|sP ?_ ?_
    ·intro Y;refine yC I<|lY I I I (nQ I I)<|lY I I I (wT I I)<|yF I<|lM I<|sP ?_ ?_
     ·intro Z;exact yA I<|yA I<|yA I<|yA I<|yB I<|yB I<|yB I<|yB I<|yB I<|yB I<|yA I<|yP I<|SL.nil<|zb1 (by simp_all[aN,aO] <;> omega) mI
     ·intro Z;refine lY I I I (fA ao I zT3 I)<|SL.gq (gT I I I dC) (qL (v:=vi c.dim) iT3 I<|cO 0 I I) dC<|lY I I I (gR I I)<|yC I<|sP ?_ ?_
      ·intro z;refine yC I<|lY I I I (lS I I)<|yC I<|sP ?_ ?_
       ·intro A;exact yA I<|yA I<|lY I I I (wT I I)<|lY I I I (wT I I)<|yF I<|SL.nil<|zb1 (by simp_all[aN,aO] <;> omega) mI
       ·intro A;exact yC I<|lY I I I (gR I I)<|lY I I I (wF I I)<|lY I I I (wT I I)<|yF I<|SL.nil<|zb1 (by simp_all[aN,aO] <;> omega) mI
      ·intro z;exact yA I<|yA I<|yA I<|yB I<|yB I<|yA I<|lY I I I (wF I I)<|yF I<|SL.nil<|zb1 (by simp_all[aN,aO] <;> omega) mI
    ·intro Y;refine yA I<|yA I<|lY I I I (wF I I)<|yF I<|lM I<|lY I I I (fA ao I zT3 I)<|SL.gq (gT I I I dC) (qL (v:=vi c.dim) iT3 I<|cO 0 I I) dC<|lY I I I (gR I I)<|yC I<|sP ?_ ?_
     ·intro z;refine yC I<|lY I I I (lS I I)<|yC I<|sP ?_ ?_
      ·intro A;exact yA I<|yA I<|lY I I I (wT I I)<|lY I I I (wT I I)<|yF I<|SL.nil<|zb1 (by simp_all[aN,aO] <;> omega) mI
      ·intro A;exact yC I<|lY I I I (gR I I)<|lY I I I (wF I I)<|lY I I I (wT I I)<|yF I<|SL.nil<|zb1 (by simp_all[aN,aO] <;> omega) mI
     ·intro z;exact yA I<|yA I<|yA I<|yB I<|yB I<|yA I<|lY I I I (wF I I)<|yF I<|SL.nil<|zb1 (by simp_all[aN,aO] <;> omega) mI
  refine iQ I (fun n=>?_) (fun n=>?_)
  ·exact rZ<|aT I<|rE<|tR<|dR (s':=s) uR<|za8 (.inl I) results161 I ⟨by unfold cN;rw[zg2 (by simp[m]),zg3 n],I,I⟩
  ·refine kP<|tN<|sQ<|rZ<|aT I<|bK<|oP (ι:=Nat) (fun k=>[(0,.slice vp rs.length vc),(3,pp b3 0),(5,vi c.sides.length),(6,vi k)]) (fun _=>g)
    (fun _=>pt b3 (bY #[vi c.id,vi c.dim,.slice t c.sides.length d] 37)::s) (fun k=>k≤c.sides.length∧(List.range k).any (jh tl c)=false) (fun k=>c.sides.length - k) 0
    sB rfl rfl ⟨zf8 _,by simp⟩ ?_
   rintro k ⟨hk,L⟩;refine sQ<|sW I<|lM I<|yL I<|tZ<|iP I (fun b9=>?_) (fun b9=>?_)
   ·have B:k<c.sides.length:=oM;have f:=X oM;have p:c.sides[((k:Nat):Int).toNat]?=some c.sides[k]:=List.getElem?_eq_getElem B;have a5:c.sides[k]?=some c.sides[k]:=List.getElem?_eq_getElem B;have a0:(k:Int)>0→∃ q,c.sides[((k:Int) - 1).toNat]?=some q∧c.sides[k - 1]?=some q:=fun h=>by
     have h2:k - 1<c.sides.length:=oM;exact⟨c.sides[k - 1],by rw[show ((k:Int) - 1).toNat=k - 1 by omega];exact List.getElem?_eq_getElem h2,List.getElem?_eq_getElem h2⟩
    generalize c.sides[k]=y at *;have V:jh tl c k=cw tl c k y:=by unfold jh;rw[a5]
    have hT:cw tl c k y=true→(List.range c.sides.length).any (jh tl c)=true:=fun h=>zk1.2 ⟨k,List.mem_range.2 B,by rw[V];exact h⟩;have hF:cw tl c k y=false→(List.range<|k+1).any (jh tl c)=false:=fun h=>by rw[List.range_succ,List.any_append,L];simp[V,h]
    rcases se hs y.cell with ⟨c0,M⟩ | ⟨yc,kk,a9,M,b0⟩
    ·have N:cw tl c k y=true:=oT (by rw[c0];simp);refine kP<|tN<|sQ<|bK<|sW I<|lU (fA ao I aH I)<|lK (qL (v:=.slice t c.sides.length d) bi I<|cO 0 I I)<|lM I<|lU (iA a7 aR I I f oM sL)<|lU (fC de I zT3 I f)<|lK (aZ (e:=encSide) (o:=0) (u:=vi y.cell) iT3 I l.rd p I)<|lW (SO.call call107 I<|ip E g _ _ tl y.cell hv S hs) ?_;rintro _ _ _ ⟨rfl,rfl,rfl⟩;rw[M];exact aT I<|sQ<|dW [] [(0,2),(1,2),(2,2),(3,2),(4,2),(5,2),(6,2),(7,1),(8,2),(9,1),(10,2),(11,2),(12,2),(13,2),(14,2),(15,2),(16,2),(17,2),(18,1),(19,2),(20,2),(21,2),(22,1),(23,2),(24,1),(25,2),(26,2),(27,2),(28,2),(29,1),(30,2),(31,2),(32,2)] ze5 kR<|yM I<|pU I (SU.eq (v':=vb true) (lS I I) I)<|yM I<|yG I<|yG I<|yG I<|yG I<|yI I<|yG I<|yI I<|yG I<|yG I<|pU I (wT I I)<|yM I<|yG I<|yG I<|yG I<|yH I<|SP.off1 I (zb4 I I I dC) dC<|yH I<|yH I<|yH I<|SP.off1 I (zb4 I I I dC) dC<|yH I<|SP.off1 I (zb4 I I I dC) dC<|yH I<|yH I<|yH I<|yH I<|SP.off1 I (zb4 I I I dC) dC<|yH I<|yG I<|pU I (wT I I)<|pN<|tN<|za2 I<|rZ<|aT I<|rE<|bR<|tR<|tR<|bR<|tR<|dR (s':=s) uR<|za8 (.inl I) results161 I ⟨by unfold cN;rw[zg2 (by simp[m]),zg2 (by simp[n]),zg3<|hT N],I,I⟩
    ·have T:kk<tl.length:=(zf7.1 b0).1;have b1:kk<rs.length:=oM;have G:=F.based oM;have a1:=K.get b0<|List.getElem?_eq_getElem b1;have a2:rs[((kk:Nat):Int).toNat]?=some rs[kk]:=List.getElem?_eq_getElem b1;have C:(ag tl y.cell).isSome=true:=by rw[a9];rfl
     have O:((ag tl y.cell).getD aA)=yc:=by rw[a9];rfl
     by_cases H:yc.dim≠c.dim - 1
     ·have N:cw tl c k y=true:=uV C (by rw[O];exact H);refine kP<|tN<|sQ<|bK<|sW I<|lU (fA ao I aH I)<|lK (qL (v:=.slice t c.sides.length d) bi I<|cO 0 I I)<|lM I<|lU (iA a7 aR I I f oM sL)<|lU (fC de I zT3 I f)<|lK (aZ (e:=encSide) (o:=0) (u:=vi y.cell) iT3 I l.rd p I)<|lW (SO.call call107 I<|ip E g _ _ tl y.cell hv S hs) ?_;rintro _ _ _ ⟨rfl,rfl,rfl⟩;rw[M];refine aT I<|sQ<|dW [] [(0,2),(1,2),(2,2),(3,2),(4,2),(5,2),(6,2),(7,1),(8,2),(9,1),(10,2),(11,2),(12,2),(13,2),(14,2),(15,2),(16,2),(17,2),(18,1),(19,2),(20,2),(21,2),(22,1),(23,2),(24,1),(25,2),(26,2),(27,2),(28,2),(29,1),(30,2),(31,2),(32,2)] ze5 kR<|yM I<|pU I (SU.eq (v':=vb false) (lS I I)<|ze4 vb<|zf9 oM)<|yM I<|yJ I<|yJ I<|zb3 I (gT I I I dC) (iA aF ar I I G oM sL) dC<|zb3 I (gT I I I dC) (fC ao I zT3 I G) dC<|SP.gq I (gT I I I dC) (aZ (e:=encCell) (o:=1) (u:=vi rs[kk].dim) iT3 I F.rd a2 I) dC<|zb3 I (gT I I I dC) (fA ao I zT3 I) dC<|SP.gq I (gT I I I dC) (qL (v:=vi c.dim) iT3 I<|cO 0 I I) dC<|zb3 I (gT I I I dC) (sU I I oM) dC<|zb3 I (gT I I I dC) (SU.eq (v':=vb true) (nQ I I)<|ze4 vb<|zg1 (by rw[a1.2.1];exact H)) dC ?_;exact pU I (wF I I)<|yM I<|yG I<|yG I<|yG I<|yH I<|SP.off1 I (zb4 I I I dC) dC<|yH I<|yH I<|yH I<|SP.off1 I (zb4 I I I dC) dC<|yH I<|SP.off1 I (zb4 I I I dC) dC<|yH I<|yH I<|yH I<|yH I<|SP.off1 I (zb4 I I I dC) dC<|yH I<|yG I<|pU I (wT I I)<|pN<|tN<|za2 I<|rZ<|aT I<|rE<|bR<|tR<|tR<|bR<|tR<|dR (s':=s) uR<|za8 (.inl I) results161 I ⟨by unfold cN;rw[zg2 (by simp[m]),zg2 (by simp[n]),zg3<|hT N],I,I⟩
     ·by_cases P:(k:Int)>0
      ·obtain ⟨q,c1,c2⟩:=a0 P;have U:=uT (i:=k) C (by rw[O];exact H) P c2;refine kP<|tN<|sQ<|bK<|sW I<|lU (fA ao I aH I)<|lK (qL (v:=.slice t c.sides.length d) bi I<|cO 0 I I)<|lM I<|lU (iA a7 aR I I f oM sL)<|lU (fC de I zT3 I f)<|lK (aZ (e:=encSide) (o:=0) (u:=vi y.cell) iT3 I l.rd p I)<|lW (SO.call call107 I<|ip E g _ _ tl y.cell hv S hs) ?_;rintro _ _ _ ⟨rfl,rfl,rfl⟩;rw[M];refine aT I<|sQ<|dW [] [(0,2),(1,2),(2,2),(3,2),(4,2),(5,2),(6,2),(7,1),(8,2),(9,1),(10,2),(11,2),(12,2),(13,2),(14,2),(15,2),(16,2),(17,2),(18,1),(19,2),(20,2),(21,2),(22,1),(23,2),(24,1),(25,2),(26,2),(27,2),(28,2),(29,1),(30,2),(31,2),(32,2)] ze5 kR<|yM I<|pU I (SU.eq (v':=vb false) (lS I I)<|ze4 vb<|zf9 oM)<|yM I<|yJ I<|yJ I<|zb3 I (gT I I I dC) (iA aF ar I I G oM sL) dC<|zb3 I (gT I I I dC) (fC ao I zT3 I G) dC<|SP.gq I (gT I I I dC) (aZ (e:=encCell) (o:=1) (u:=vi rs[kk].dim) iT3 I F.rd a2 I) dC<|zb3 I (gT I I I dC) (fA ao I zT3 I) dC<|SP.gq I (gT I I I dC) (qL (v:=vi c.dim) iT3 I<|cO 0 I I) dC<|zb3 I (gT I I I dC) (sU I I oM) dC<|zb3 I (gT I I I dC) (SU.eq (v':=vb false) (nQ I I)<|ze4 vb<|zf9 (by rw[a1.2.1];exact H)) dC ?_;refine pU I (wF I I)<|yM I<|yJ I<|zb3 I (gT I I I dC) (SU.eq (v':=vb true) (gR I I)<|ze4 vb<|zg1 P) dC<|yJ I<|zb3 I (gT I I I dC) (fA ao I aH I) dC<|SP.gq I (gT I I I dC) (qL (v:=.slice t c.sides.length d) bi I<|cO 0 I I) dC<|yJ I<|zb3 I (gT I I I dC) (iA a7 aR I I f oM sL) dC<|zb3 I (gT I I I dC) (fC de I zT3 I f) dC<|SP.gq I (gT I I I dC) (aZ (e:=encSide) (o:=0) (u:=vi y.cell) iT3 I l.rd p I) dC<|zb3 I (gT I I I dC) (fA ao I aH I) dC<|SP.gq I (gT I I I dC) (qL (v:=.slice t c.sides.length d) bi I<|cO 0 I I) dC<|yJ I<|zb3 I (gT I I I dC) (sU I I oM) dC<|zb3 I (gT I I I dC) (iA a7 aR I I f oM sL) dC<|zb3 I (gT I I I dC) (fC de I zT3 I f) dC<|SP.gq I (gT I I I dC) (aZ (e:=encSide) (o:=0) (u:=vi q.cell) iT3 I l.rd c1 I) dC<|zb3 I (gT I I I dC) (eQ I I) dC<|zb3 I (gT I I I dC) (wT I I) dC<|pU I (wF I I)<|pN<|tN<|iP I (fun D=>?_) (fun D=>?_)
       ·exact rZ<|aT I<|rE<|bR<|tR<|tR<|bR<|tR<|dR (s':=s) uR<|za8 (.inl I) results161 I ⟨by unfold cN;rw[zg2 (by simp[m]),zg2 (by simp[n]),zg3<|hT (by rw[U];exact zg1 D.symm)],I,I⟩
       ·exact kP<|bN<|tN<|rG<|lM I<|yD I<|lA I<|SL.nil<|ST.again (k+1) sB I I ⟨oM,hF (by rw[U];exact zf9 fun e=>D e.symm)⟩ oM
      ·have U:=uU (i:=k) (x:=y) C (by rw[O];exact H) P;refine kP<|tN<|sQ<|bK<|sW I<|lU (fA ao I aH I)<|lK (qL (v:=.slice t c.sides.length d) bi I<|cO 0 I I)<|lM I<|lU (iA a7 aR I I f oM sL)<|lU (fC de I zT3 I f)<|lK (aZ (e:=encSide) (o:=0) (u:=vi y.cell) iT3 I l.rd p I)<|lW (SO.call call107 I<|ip E g _ _ tl y.cell hv S hs) ?_;rintro _ _ _ ⟨rfl,rfl,rfl⟩;rw[M];refine aT I<|sQ<|dW [] [(0,2),(1,2),(2,2),(3,2),(4,2),(5,2),(6,2),(7,1),(8,2),(9,1),(10,2),(11,2),(12,2),(13,2),(14,2),(15,2),(16,2),(17,2),(18,1),(19,2),(20,2),(21,2),(22,1),(23,2),(24,1),(25,2),(26,2),(27,2),(28,2),(29,1),(30,2),(31,2),(32,2)] ze5 kR<|yM I<|pU I (SU.eq (v':=vb false) (lS I I)<|ze4 vb<|zf9 oM)<|yM I<|yJ I<|yJ I<|zb3 I (gT I I I dC) (iA aF ar I I G oM sL) dC<|zb3 I (gT I I I dC) (fC ao I zT3 I G) dC<|SP.gq I (gT I I I dC) (aZ (e:=encCell) (o:=1) (u:=vi rs[kk].dim) iT3 I F.rd a2 I) dC<|zb3 I (gT I I I dC) (fA ao I zT3 I) dC<|SP.gq I (gT I I I dC) (qL (v:=vi c.dim) iT3 I<|cO 0 I I) dC<|zb3 I (gT I I I dC) (sU I I oM) dC<|zb3 I (gT I I I dC) (SU.eq (v':=vb false) (nQ I I)<|ze4 vb<|zf9 (by rw[a1.2.1];exact H)) dC ?_;exact pU I (wF I I)<|yM I<|yJ I<|zb3 I (gT I I I dC) (SU.eq (v':=vb false) (gR I I)<|ze4 vb<|zf9 P) dC<|yJ I<|yG I<|yI I<|yG I<|yG I<|yG I<|yI I<|yG I<|yI I<|yG I<|yG I<|yG I<|yG I<|yI I<|yG I<|zb3 I (gT I I I dC) (wF I I) dC<|pU I (wF I I)<|pN<|tN<|za1 I<|kP<|bN<|tN<|rG<|lM I<|yD I<|lA I<|SL.nil<|ST.again (k+1) sB I I ⟨oM,hF U⟩ oM
   ·refine xI<|tX<|tX<|bX<|tN<|sQ<|rZ<|aT I<|bK ?_;have T:k=c.sides.length:=oM;subst T;refine oP (ι:=Nat) (fun k=>[(3,pp b3 0),(5,vi c.sides.length),(8,vi k)]) (fun _=>g)
     (fun _=>pt b3 (bY #[vi c.id,vi c.dim,.slice t c.sides.length d] 37)::s) (fun k=>k≤c.sides.length∧(c.sides.take k).any bZ=false) (fun k=>c.sides.length - k) 0
     sB rfl rfl ⟨zf8 _,by simp⟩ ?_
    rintro k ⟨c7,J⟩;refine sQ<|sW I<|lM I<|yL I<|tZ<|iP I (fun b2=>?_) (fun b2=>?_)
    ·have B:k<c.sides.length:=oM;have f:=X oM;have p:c.sides[((k:Nat):Int).toNat]?=some c.sides[k]:=List.getElem?_eq_getElem B;have c3:c.sides.take (k+1)=c.sides.take k++[c.sides[k]]:=tS B;have a3:c.sides[k]∈c.sides:=gM B;generalize c.sides[k]=y at *;refine kP<|tN<|sQ<|bK<|SC.cutB 115 (bZ y) ?_ ?_
     ·refine rG<|lU (fA ao I aH I)<|lK (qL (v:=.slice t c.sides.length d) bi I<|cO 0 I I)<|lM I<|lU (iA a7 aR I I f oM sL)<|lU (fC de I zT3 I f)<|lK (aZ (e:=encSide) (o:=1) (u:=vi y.sign) iT3 I l.rd p I)<|lU (nQ I I)<|lM I<|sP ?_ ?_
      ·intro Q;exact lY I I I (fA ao I aH I)<|SL.gq (gT I I I dC) (qL (v:=.slice t c.sides.length d) bi I<|cO 0 I I) dC<|yC I<|lY I I I (iA a7 aR I I f oM sL)<|lY I I I (fC de I zT3 I f)<|SL.gq (gT I I I dC) (aZ (e:=encSide) (o:=1) (u:=vi y.sign) iT3 I l.rd p I) dC<|lY I I I (nQ I I)<|yP I<|SL.nil<|zb1 (by exact ze4 (fun b=>some<|Value.bool b) (ug Q).symm) mI
      ·intro Q;exact yA I<|yA I<|yA I<|yA I<|yA I<|yA I<|yA I<|yF I<|SL.nil<|zb1 (by exact ze4 (fun b=>some<|Value.bool b) (uf Q).symm) mI
     refine iQ I (fun a4=>?_) (fun a4=>?_)
     ·refine rZ<|aT I<|rE<|bR<|tR<|tR<|bR<|tR<|dR (s':=s) uR ?_;have b4:c.sides.any bZ=true:=zk1.2 ⟨y,a3,a4⟩;exact za8 (.inl I) results161 I ⟨by unfold cN;rw[zg2 (by simp[m]),zg2 (by simp[n]),zg2 (by simp[L]),zg3 b4],I,I⟩
     ·exact kP<|bN<|tN<|rG<|lM I<|yD I<|lA I<|SL.nil<|ST.again (k+1) sB I I ⟨oM,by rw[c3,List.any_append,J];simp[a4]⟩ oM
    ·have T:c.sides.take k=c.sides:=tL oM;rw[T] at J;by_cases R:c.dim=1
     ·have h2:c.sides.length=2:=by
       simp[aO] at n;have:=n.1.2 R;omega
      obtain ⟨a,b,b5,W⟩:=Bx h2 J;have f:=X oM;refine xI<|tX<|tX<|bX<|tN<|sQ<|sQ<|dW [] [(0,2),(1,1),(2,2),(3,2),(4,2),(5,1),(6,2),(7,2),(8,1),(9,2),(10,1),(11,2),(12,2),(13,1),(14,2),(15,2)] ze5 kR<|pU I (fA ao I zT3 I)<|pK I (qL (v:=vi c.dim) iT3 I<|cO 0 I I)<|pU I (SU.eq (v':=vb true) (eQ I I)<|ze4 vb<|zg1 R)<|yM I<|zb3 I (gT I I I dC) (fA ao I aH I) dC<|SP.gq I (gT I I I dC) (qL (v:=.slice t c.sides.length d) bi I<|cO 0 I I) dC<|zb3 I (gT I I I dC) (iA a7 aR I I f dC sL) dC<|zb3 I (gT I I I dC) (fC de I zT3 I f) dC<|SP.gq I (gT I I I dC) (aZ (e:=encSide) (j:=0) (o:=1) (u:=vi a.sign) (a:=a) iT3 I l.rd (by rw[b5];rfl) rfl) dC ?_;refine zb3 I (gT I I I dC) (fA ao I aH I) dC<|SP.gq I (gT I I I dC) (qL (v:=.slice t c.sides.length d) bi I<|cO 0 I I) dC<|zb3 I (gT I I I dC) (iA a7 aR I I f dC sL) dC<|zb3 I (gT I I I dC) (fC de I zT3 I f) dC<|SP.gq I (gT I I I dC) (aZ (e:=encSide) (j:=1) (o:=1) (u:=vi b.sign) (a:=b) iT3 I l.rd (by rw[b5];rfl) rfl) dC ?_;refine zb3 I (gT I I I dC) (eQ I I) dC<|pU I (wT I I)<|pN<|tN<|iP I (fun D=>?_) (fun D=>?_)
      ·exact rZ<|aT I<|rE<|tR<|dR (s':=s) uR<|za8 (.inl I) results161 I ⟨by unfold cN;rw[zg2 (by simp[m]),zg2 (by simp[n]),zg2 (by simp[L]),zg2 (by simp[J]),zg3 (by rw[W];simp[R,D])],I,I⟩
      ·exact kP<|tN<|rZ<|aT I<|rE<|dR (s':=s) uR<|za8 (.inl I) results161 I ⟨by unfold cN;rw[zg2 (by simp[m]),zg2 (by simp[n]),zg2 (by simp[L]),zg2 (by simp[J]),zg2 (by rw[W];simp[D])],I,I⟩
     ·exact xI<|tX<|tX<|bX<|tN<|sQ<|sQ<|dW [] [(0,2),(1,1),(2,2),(3,2),(4,2),(5,1),(6,2),(7,2),(8,1),(9,2),(10,1),(11,2),(12,2),(13,1),(14,2),(15,2)] ze5 kR<|pU I (fA ao I zT3 I)<|pK I (qL (v:=vi c.dim) iT3 I<|cO 0 I I)<|pU I (SU.eq (v':=vb false) (eQ I I)<|ze4 vb<|zf9 R)<|yM I<|yG I<|yI I<|yG I<|yG I<|yI I<|yG I<|yI I<|yG I<|yG I<|yI I<|yG I<|pU I (wF I I)<|pN<|tN<|za1 I<|kP<|tN<|rZ<|aT I<|rE<|dR (s':=s) uR<|za8 (.inl I) results161 I ⟨by unfold cN;rw[zg2 (by simp[m]),zg2 (by simp[n]),zg2 (by simp[L]),zg2 (by simp[J]),zg2 (by simp[R])],I,I⟩
end Go.Proofs.YtdepcjnaieflmaaGreatDoor
