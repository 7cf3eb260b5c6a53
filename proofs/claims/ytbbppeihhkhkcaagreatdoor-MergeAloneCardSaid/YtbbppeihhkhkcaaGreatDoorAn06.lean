/- 6 -/
import Derived.Test.YtbbppeihhkhkcaaGreatDoorAn05
import Derived.Shelf.SlIterI.Sorted
set_option linter.unusedSimpArgs false
set_option linter.unusedVariables false
namespace Go.Proofs.YtbbppeihhkhkcaaGreatDoor
open _root_.Go.Proofs.Tryz _root_.Go.Proofs.YtbbppeihhkhkcaaGreatDoor.Tryz
open Go Go.Sy Go.Pl Go.Proofs Go.Shelf Go.Sort
set_option maxRecDepth 100000
def Tryz.keysA_ren:Ren :=
 {
  f:=fun x =>
   match x with
   | 7=>147
   | 10=>198
   | n=>n,
  t:=fun x =>
   match x with
   | 23=>143
   | 26=>3
   | 3=>4
   | 28=>129
   | 0=>0
   | 27=>128
   | 33=>193
   | 4=>4
   | n=>n,
  g:=fun x =>
   have n:=x;
   n }
theorem Tryz.keysA:SlLaysZI.n7 Tryz.prog Tryz.keysA_ren :=
  {
  mixed:=Eq.refl true,
  f7 :=
   Exists.intro "maps.Keys[map[int]bool,int,bool]"
    ⟨zg5 (id (Eq.refl true)),
     zb8 func147
      (ze4 some
       kR)⟩,
  f10 :=
   Exists.intro "maps.Keys[map[int]bool,int,bool]$1"
    ⟨zg5 (id (Eq.refl true)),
     zb8 func198
      (ze4 some
       kR)⟩,
  t0:=uT0,a0:=isAgg0,z0:=sizeOf0,v0:=zl6,t4:=uT4,
  a4:=isAgg4,z4:=zT4,v4:=zl5,t23:=underlying143,a23:=isAgg143,
  z23:=sizeOf143,v23:=zeroValue143,t26:=uT3,a26:=iT3,z26:=zT3,
  v26:=zm4,t27:=underlying128,a27:=isAgg128,z27:=sizeOf128,
  v27:=zeroValue128,t28:=underlying129,a28:=isAgg129,z28:=sizeOf129,
  v28:=zeroValue129,t33:=underlying193,a33:=isAgg193,z33:=sizeOf193,
  v33:=zeroValue193 }
def Tryz.sortedA_ren:Ren :=
 {
  f:=fun x =>
   match x with
   | 6=>146
   | 8=>152
   | 9=>132
   | 11=>199
   | 13=>156
   | 12=>188
   | 23=>209
   | 24=>210
   | 14=>235
   | 15=>236
   | 16=>237
   | 17=>238
   | 18=>239
   | 19=>240
   | 20=>241
   | 21=>242
   | 22=>243
   | 25=>276
   | 26=>259
   | 27=>260
   | 28=>277
   | 29=>278
   | 30=>159
   | 31=>296
   | n=>n,
  t:=fun x =>
   match x with
   | 26=>3
   | 28=>129
   | 24=>52
   | 0=>0
   | 3=>3
   | 37=>203
   | 48=>239
   | 50=>145
   | 4=>4
   | 40=>233
   | 39=>232
   | 45=>149
   | 5=>5
   | 9=>9
   | 51=>270
   | 55=>274
   | 57=>292
   | 58=>293
   | 33=>193
   | n=>n,
  g:=fun x =>
   have n:=x;
   n }
theorem Tryz.sortedA:SlLaysZI.n6 Tryz.prog Tryz.sortedA_ren :=
  {
  mixed:=Eq.refl true,
  f6 :=
   Exists.intro "slices.Sorted[int]"
    ⟨zg5 (id (Eq.refl true)),
     zb8 func146
      (ze4 some
       kR)⟩,
  f8 :=
   Exists.intro "slices.Collect[int]"
    ⟨zg5 (id (Eq.refl true)),
     zb8 func152
      (ze4 some
       kR)⟩,
  f11 :=
   Exists.intro "slices.AppendSeq[[]int,int]"
    ⟨zg5 (id (Eq.refl true)),
     zb8 func199
      (ze4 some
       kR)⟩,
  t0:=uT0,a0:=isAgg0,z0:=sizeOf0,v0:=zl6,t24:=az,
  a24:=hZ,z24:=fY,v24:=zeroValue52,t26:=uT3,a26:=iT3,
  z26:=zT3,v26:=zm4,t28:=underlying129,a28:=isAgg129,z28:=sizeOf129,
  v28:=zeroValue129,i26:=Eq.refl (some (some (Value.int IntKind.i64 0),1,8)) }
theorem Tryz.sortsA (m:Nat):AnyZI.SortsIn Tryz.prog Tryz.sortedA_ren Fence.wide m :=
 -- 146
 ⟨fun blk off cap ss W c a b=>callsIn_wide.2 (Any.slices_Sort_int lays189 blk off cap ss W c a b),
  fun p cap W=>callsIn_wide.2 (Any.slices_Sort_int_none lays189 p cap W)⟩
theorem Cg (E:World)(g:PH)(s:Own)(m:Nat) :
  Ctr Tryz.prog E 147 #[.map<|some m] g s (fun r g' s'=>s=s'∧Le g g'∧∃ b,r = .func (.func 198) #[] #[pp b 0]∧g' b=some (.cells #[.map<|some m] 143 (0,0))):=by
 refine zb2 (args:=[.map<|some m]) func147 I ntmps147 (bE I)<|rZ (bW (bO I) fun b1=>?_);refine aT I (rZ<|lU (SU.mkFunc I)<|aT I<|rE<|ST.freeze fun g1 a hb=>?_);exact za8 (.inl I) results147 I ⟨I,a,_,I,hb⟩
def a7 (x:Int):Prop:=-9223372036854775808≤x∧x≤9223372036854775807
theorem Ef {x:Int}(h:a7 x):(Lit.int .i64 x).wf=true:=by
 unfold a7 at h;simp[Lit.wf,IntKind.min,IntKind.max,IntKind.bits,IntKind.signed];omega
theorem wz (E:World)(hE:E.drawn=0)(g:PH)(s:Own)(b m:Nat)(l:List (Int×Value))(hb:g b=some (.cells #[.map<|some m] 143 (0,0)))(hm:Mp g m l)(hl:l.length<1099511627776)(hw:∀ p∈l,a7 p.1) :
  Ctr Tryz.prog E 146 #[.func (.func 198) #[] #[pp b 0]] g s (fun r g' s'=>s=s'∧Le g g'∧dp g' r (eU<|l.map Prod.fst)):=by
 intro w a;obtain ⟨es,clk,V,B,W⟩:=hm;have M:es.toList.length=l.length:=by have:=ze4 List.length B; simpa using this
 have N:es.size=l.length:=by simpa using M
 have C:∀ x∈es.toList,∃ y,WideElems.rd (H:=Unit) Tryz.prog 3 (fun _=>some (.lit<|.bool true,[])) x=some y∧∃ p∈l,y.1 = .int .i64 p.1:=fun x t=>by
  have A:nD x∈es.toList.map nD:=zf4.2 ⟨x,t,rfl⟩;rw[B] at A;obtain ⟨p,U,X⟩:=zf4.1 A;have d:x.key=vi p.1:=(ze4 Prod.fst X).symm;have u:keyOf Tryz.prog 3 x.key=some (.int .i64 p.1):=by
   rw[d]; exact Maps.keyOf_int_mk uT3<|Ef<|hw p U
  exact⟨(.int .i64 p.1,.lit<|.bool true),by simp[WideElems.rd,u],p,U,I⟩
 have O:w.ownsMap Tryz.prog 3 (fun _=>some (.lit<|.bool true,[])) m l.length (.map<|(es.toList.map<|WideElems.rg (H:=Unit) Tryz.prog 3<|fun _=>some (.lit<|.bool true,[])).foldr DataW.insert []) :=
  ⟨es,clk,a.known _ _ V,⟨by rw[N]; unfold maxLen; omega,W,fun x t=>(C x t).imp fun _ h=>h.1⟩,oM,rfl⟩
 have i:(l.map Prod.fst).Perm (intKeys<|.map<|(es.toList.map<|WideElems.rg (H:=Unit) Tryz.prog 3<|fun _=>some (.lit<|.bool true,[])).foldr DataW.insert []):=by
  have A:(es.toList.map<|WideElems.rg (H:=Unit) Tryz.prog 3<|fun _=>some (.lit<|.bool true,[])).map (fun p=>Go.intOf p.1)=l.map Prod.fst:=by
   have h2:l.map Prod.fst=(es.toList.map nD).map (fun q=>(unV q).1):=by rw[B,zi7]; rfl
   rw[h2,zi7,zi7];refine zc9 fun x t=>?_;have h3:nD x∈es.toList.map nD:=zf4.2 ⟨x,t,rfl⟩;rw[B] at h3;obtain ⟨p,U,X⟩:=zf4.1 h3;have d:x.key=vi p.1:=(ze4 Prod.fst X).symm;have u:keyOf Tryz.prog 3 x.key=some (.int .i64 p.1):=by
    rw[d]; exact Maps.keyOf_int_mk uT3<|Ef<|hw p U
   simp[WideElems.rg,WideElems.rd,u,d ▸ u,Go.intOf,nD,unV,d]
  rw[← A];exact ((WideShapes.sorted_perm _).map _).symm
 have z:Maps.size (.map<|(es.toList.map<|WideElems.rg (H:=Unit) Tryz.prog 3<|fun _=>some (.lit<|.bool true,[])).foldr DataW.insert [])=l.length:=by
  have:=i.length_eq;simpa [intKeys,Maps.size] using this.symm
 have P:=AnyZI.keys_gives (ρ:=Tryz.keysA_ren) { Tryz.keysA with } Fence.wide 2 trivial rfl oM b m l.length _ (R:=fun _=>some (.lit<|.bool true,[])) w (a.lt hb) (by simp[World.cell?,a.known _ _ hb]) O;have cS:=AnyZI.sorted_in Tryz.sortedA Fence.wide 5 trivial trivial trivial trivial rfl oM (Tryz.sortsA _) (enters_of func132 kR rfl) 198 #[.pointer<|some ⟨b,0,none⟩] trivial (enters_of func198 kR rfl) _ _ (by rw[z]; unfold maxLen; omega) (by rw[z]; omega) w P;refine ((callsIn_wide (n:=5)).1 cS).mono ?_;rintro e w' ⟨v,ss,rfl,J,G,a2,f⟩;have Q:ss.mergeSort (fun x y=>decide (x≤y))=eU (l.map Prod.fst):=mergeSort_of_perm_i<|J.trans i.symm;rw[Q] at G;have c:At E g s w':=by
  refine⟨f.os.trans a.os,⟨f.tape.trans a.tape.1,by rw[hE]; exact zf8 _⟩,f.output.trans a.output,fun k o d=>?_,fun x t=>?_,fun x t k d=>⟨(a.fresh x t k d).1,Nat.lt_of_lt_of_le (a.fresh x t k d).2 f.size⟩,a.apart⟩
  ·rw[f.block k<|a.lt d]; exact a.known k o d
  ·have A:=a.own x t;cases K:x.blk with
   | none=>simpa [K] using A
   | some k =>
    simp only[K,Option.bind_some] at A ⊢;rw[f.block k (a.fresh x t k K).2];exact A
 rcases G.2 with ⟨rfl,h0⟩ | ⟨gb,cap,L,rfl,Y,Z,r1,r2,r3,r4⟩
 ·have S:ss=[]:=zf6 h0;have a0:l.map Prod.fst=[]:=by
   have:=(J.trans i.symm).length_eq;rw[S] at this;exact zf6 (by simpa using this.symm)
  refine⟨_,g,s,I,c,I,zb9 g,?_⟩;rw[a0];have:eU []=[]:=by simp[eU]
  rw[this];exact zc1 g 1
 ·have D:g gb=none:=by
   cases h:g gb with
   | none=>rfl
   | some o=>have:=a.lt h; omega
  refine⟨_,upd g gb<|.cells L 3 (0,0),s,I,⟨c.os,c.tape,c.output,fun k o d=>?_,c.own,fun x t k d=>⟨?_,(c.fresh x t k d).2⟩,c.apart⟩,I,El D,?_⟩
  ·unfold upd at d;split at d
   ·rename_i e1; subst e1; injection d with d; subst d; exact Z
   ·exact c.known k o d
  ·have A:=a.fresh x t k d;have a1:k≠gb:=oM;simp only[upd,a1,if_false];exact A.1
  ·have T:(eU<|l.map Prod.fst).length=ss.length:=by rw[gj]; exact (J.trans i.symm).length_eq.symm
   refine⟨some ⟨gb,0,none⟩,cap,by rw[T],⟨by rw[encInt.length],oM⟩,fun _=>⟨gb,0,L,_,(0,0),I,fc _ _ _,fun j x hj=>?_⟩⟩;rw[oL] at hj;have F:(L.toList.take<|ss.length * 1)[j]?=some x:=by rw[r4]; exact hj
   rw[zi3] at F;split at F
   ·simpa using F
   ·cases F
theorem sH {α:Type}[DecidableEq α]:∀ {l m:List α},l.Nodup→(∀ x∈l,x∈m)→l.length≤m.length
 | [],_,_,_=>zf8 _
 | x::l,m,hn,b=>by
  obtain ⟨f,g⟩:=zk4.1 hn;have c:x∈m:=b x (by simp);have h:=sH (m:=m.erase x) g (fun y d=>by
   have a:y≠x:=fun e=>f (e ▸ d);exact (List.mem_erase_of_ne a).2 (b y (by simp[d])))
  have i:=List.length_erase_of_mem c;have j:=List.length_pos_of_mem c;simp only[zf1];omega
theorem EO {l:List Cl}{c:Cl}(h:c∈am l):∃ d∈l,d.id=c.id:=by
 have a:=si h;unfold aa at a;obtain ⟨d,hd,rfl⟩:=zf4.1 a;exact⟨d,(fD l d).1 hd,I⟩
open Go Go.Sy Go.Pl Go.Proofs
theorem FG {g:PH}:∀ {ls:List (List Int)} {rs:List Sv},ax (dU g) ls rs→(∀ x∈ls,x.length<1099511627776)→∃ L:List (LV g),L.map LV.l=ls∧L.map LV.sv=rs
 | [],[],_,_=>⟨[],rfl,rfl⟩
 | x::ls,r::rs,h,hl=>by
  obtain ⟨L,a,b⟩:=FG h.2 (fun y c=>hl y<|by simp[c]);exact⟨⟨r,x,h.1,hl x (by simp)⟩::L,by simp[a],by simp[b]⟩
 | [],_::_,h,_=>h.elim
 | _::_,[],h,_=>h.elim
theorem Ek {g:PH}:∀ (L:List (LV g)),ax (dU g) (L.map LV.l) (L.map LV.sv)
 | []=>trivial
 | x::L=>⟨x.h,Ek L⟩
theorem Ba {g:PH}:∀ (L:List (LV g)),L.flatMap (lk g).enc=(L.map LV.sv).flatMap dL.enc
 | []=>rfl
 | x::L=>by simp only[zh7,zg6,Ba L]; rfl
theorem Ej {g:PH}(T:TypeId)(v:Value)(L:List (LV g)):rowA (lk g) T v L=rowA dL T v (L.map LV.sv):=by
 simp only[rowA,Ba,ze8]
def eqL (a b:List Int):Bool:=decide (a=b)
theorem mS {α β:Type}(f:α→β)(eq:α→α→Bool)(eq':β→β→Bool)(h:∀ a b,eq a b=eq' (f a) (f b)):∀ (x:α) (l:List α),(bg eq x l).map f=bg eq' (f x) (l.map f)
 | _,[]=>rfl
 | x,y::r=>by
  simp only[bg,zg6,h];split
  ·exact mS f eq eq' h y r
  ·rw[zg6,mS f eq eq' h y r]
theorem C3 {α β:Type}(f:α→β)(eq:α→α→Bool)(eq':β→β→Bool)(h:∀ a b,eq a b=eq' (f a) (f b))(l:List α):(iT eq l).map f=iT eq' (l.map f):=by
 cases l with
 | nil=>rfl
 | cons x r=>simp only[iT,zg6,mS f eq eq' h]
theorem mR {α:Type}(eq:α→α→Bool):∀ (x:α) (l:List α),(bg eq x l).Sublist l
 | _,[]=>.slnil
 | x,y::r=>by
  simp only[bg];split
  ·exact (mR eq y r).cons y
  ·exact (mR eq y r).cons_cons y
theorem sf {α:Type}(eq:α→α→Bool)(l:List α):(iT eq l).Sublist l:=by
 cases l with
 | nil=>exact .slnil
 | cons x r=>exact (mR eq x r).cons_cons x
def dA (s:List Int):List Int:=iT (fun a b:Int=>decide (a=b)) (eU s)
def jC:List Int→Bool
 | []=>true
 | a::r=>decide (a<0)||decide (((a::r).length:Int)>9)
def eI (all:List (List Int))(t:List Int):List (List Int):=iT eqL (om<|all++bL t)
def aW:List (List Int)→List (List Int)→Option (List<|List Int)
 | all,[]=>some all
 | all,s::r=>if jC (dA s) then aW all r else if ((eI all<|dA s).length:Int)>4000 then none else aW (eI all<|dA s) r
def fM (all:List (List Int))(s:List Int)(k:Nat):List ak:=if 0<(s.eraseIdx k).length then [⟨lbL all (s.eraseIdx k)+1,dz k⟩] else []
def aU (all:List (List Int))(s:List Int)(j:Nat):List ak:=(List.range j).flatMap (fM all s)
def nJ (all:List (List Int))(p:List Int×Nat):Cl:=⟨p.2+1,(p.1.length:Int) - 1,aU all p.1 p.1.length⟩
def bc (all:List (List Int)):List Cl:=all.zipIdx.map (nJ all)
def dy (l:List (List Int)):List Cl:=match aW [] l with
 | none=>[]
 | some all=>aa<|bc all
theorem qh (t:List Int)(h:t.length≤9):(bL t).length≤511:=by
 have:=AH t.length h;simp[bL];omega
theorem iG {t:List Int}(h:t.length≤9):∀ x∈bL t,x.length≤9:=fun x a=>by
 obtain ⟨i,_,rfl⟩:=zf4.1 a;exact zk9 (gp _ _) h
theorem vh {t:List Int}(h:t≠[]):0<(bL t).length:=by
 have a:0<t.length:=List.length_pos_iff.2 h;have b:2 ^ 1≤2 ^ t.length:=Nat.pow_le_pow_right dC a;simp[bL];omega
theorem lr {all:List (List Int)}{t x:List Int}(h:x∈eI all t):x∈all∨x∈bL t:=by
 have a:=(sf eqL _).subset h;have b:=(iX _).subset a;exact zf5.1 b
theorem xA (all:List (List Int))(t:List Int):tq (eI all t):=(jI _).sublist (sf eqL _)
theorem xL {all:List (List Int)}(h:tq all)(t:List Int):∀ i j (d:i<all.length) (e:j<all.length),i<j→ar all[j] t<0→ar all[i] t<0:=fun i j d e c a=>by
 have f:=zd1.1 h i j d e c
 rcases dY all[i] all[j] with b | b | b
 ·exact eP _ _ _ b a
 ·rw[b]; exact a
 ·exact absurd b f
theorem gh (all:List (List Int))(s:List Int)(j:Nat):aU all s (j+1)=aU all s j++fM all s j:=by
 simp[aU,List.range_succ]
theorem eW (all:List (List Int))(s:List Int)(j:Nat):(aU all s j).length≤j:=by
 induction j with
 | zero=>simp[aU]
 | succ j ih =>
  rw[gh,ze7];have:(fM all s j).length≤1:=by unfold fM; split <;> simp
  omega
theorem bJ (all:List (List Int)):(bc all).length=all.length:=by simp[bc]
theorem ju {all:List (List Int)}{k:Nat}(h:k<all.length):(bc all)[k]?=some (nJ all (all[k],k)):=by
 simp[bc,h]
theorem kN {all:List (List Int)}(h:all.length≤4000)(a:∀ x∈all,x.length≤9):aJ (bc all):=by
 refine⟨by rw[bJ]; omega,fun c b=>?_⟩;obtain ⟨p,d,rfl⟩:=zf4.1 b;have e:p.1∈all:=by
  have:=List.mem_map_of_mem (f:=Prod.fst) d;simpa using this
 have g:=a _ e;have i:=eW all p.1 p.1.length;show (aU all p.1 p.1.length).length<_;omega
theorem AI (ls:List (List Int))(t:List Int):lbL ls t≤ls.length:=zc6 _ _
def jD (v:Value):Sv:=match v with
 | .slice p n c=>⟨p,n,c⟩
 | _=>⟨none,0,0⟩
theorem qi (E:World)(g:PH)(s:Own)(v:Value)(ls:List (List Int))(hv:cU g v ls)(hn:ls.length<1099511627776)(hl:∀ x∈ls,x.length<17592186044416) :
  Ctr Tryz.prog E 65 #[v] g s (fun r g' s'=>s=s'∧Le g g'∧∃ u,r = .agg #[u]∧ai g' u (dy ls)):=by
 obtain ⟨B,X,Y⟩:=hv;have b5:=Y.length;obtain ⟨p,c,rfl⟩:=za4 X;refine zb2 (args:=[.slice p B.length c]) func65 I ntmps65 (bE I)<|rZ (bW (aL zl9) fun b2=>?_);refine tZ<|rZ<|aT I<|sQ<|sW I<|lU (eN eL I)<|lM I<|tZ<|bK<|zb6 52 1<|oP (ι:=PH×Value×List Sv×List (List Int)×Nat) (fun i=>[(0,.slice p B.length c),(2,pp b2 0),(3,i.2.1),(14,.slice p B.length c),(15,vi B.length),(16,vi i.2.2.2.2)]) (fun i=>i.1)
  (fun i=>rowA dL 52 i.2.1 i.2.2.1::pt b2 (.cells #[.slice none 0 0] 29 (0,0))::s)
  (fun i=>Le g i.1∧i.2.2.2.2≤B.length∧ax (dU i.1) i.2.2.2.1 i.2.2.1∧(i.2.2.2.1.length≤4000∧∀ x∈i.2.2.2.1,x.length≤9)∧tq i.2.2.2.1∧aW [] ls=aW i.2.2.2.1 (ls.drop i.2.2.2.2)) (fun i=>B.length - i.2.2.2.2)
  (g,.slice none 0 0,[],[],0) sB rfl rfl ⟨zb9 g,zf8 _,trivial,⟨zf8 _,by simp⟩,List.Pairwise.nil,rfl⟩ ?_
 rintro ⟨g1,av,rs,all,k⟩ ⟨H,hk,R,⟨a4,J⟩,S,O⟩;dsimp only at H hk R a4 J S O ⊢;have n8:=R.length;refine rZ<|yL I<|tZ<|sQ<|iP I (fun h5=>?_) (fun h5=>?_)
 ·have b7:k<ls.length:=oM;have d4:k<B.length:=oM;have hR:=(Y.get (List.getElem?_eq_getElem b7)<|List.getElem?_eq_getElem d4).mono H;have d7:=hl _<|gM b7;have b8:=X.based oM;have c0:ls.drop k=ls[k]::ls.drop (k+1):=zg8 b7;rw[c0] at O;generalize hx:ls[k]=x at *;generalize hr:B[k]=r at *;have c1:B[((k:Nat):Int).toNat]?=some r:=by rw[← hr]; exact List.getElem?_eq_getElem d4
  have o1:=gj x;have o2:=kX (fun a b:Int=>decide (a=b))<|eU x;refine kP<|tN<|sQ<|bK<|rZ<|lU (iA eL fY I I b8 oM sL)<|SL.K (eB hZ I (X.mono H).rd c1 I)<|aT I<|sW I<|lW (SO.call call131 I<|Gk E g1 _ _ x hR d7) ?_;rintro v21 _ _ ⟨rfl,rfl⟩;refine aT I<|sW I<|lW (SO.call call132 I<|tu E g1 _ v21 x 0 I d7) ?_;rintro _ _ _ ⟨rfl,rfl⟩;refine tZ<|sW I<|lW (SO.call call133 I<|DY E g1 _ v21 (eU x) oM) ?_;rintro v25 _ _ ⟨rfl,rfl⟩;refine aT I (sQ<|fS fun g2 D W=>?_);have U:dp g2 v25 (dA x):=W;have h6:(dA x).length<17592186044416:=by unfold dA; omega
  obtain ⟨q2,d2,rfl⟩:=za4 U;have c2:dA x=[]∨∃ a t,dA x=a::t:=by cases dA x with
   | nil=>exact .inl rfl
   | cons a t=>exact .inr ⟨a,t,rfl⟩
  have C:=R.mono fun _ _=>dU.mono D;clear W;generalize hT:dA x=T at *
  rcases c2 with h7 | ⟨a,t,a5⟩
  ·subst h7;have F:jC (dA x)=true:=by rw[hT]; rfl
   refine sW I<|lU (eN az I)<|lU (SU.eq (v':=vb true) (eQ I I)<|ze4 vb<|zg1<|by simp) ?_;refine lM I<|yA I<|yA I<|yA I<|yA I<|yP I<|lM I<|yA I<|yA I<|yA I<|yP I<|tZ<|za2 I<|xI<|tX<|bX<|tN<|rG<|yD I<|lM I<|SL.nil ?_;refine ST.again (g2,av,rs,all,k+1) sB I I ⟨H.trans D,lN,C,⟨a4,J⟩,S,?_⟩ lN;rw[O,aW,zg3 F]
  ·have p0:T.length=t.length+1:=by rw[a5]; rfl
   have h8:=za6 U oM;have h9:T[((0:Nat):Int).toNat]?=some a:=by rw[a5]; rfl
   have d8:jC (dA x)=(decide (a<0)||decide ((T.length:Int)>9)):=by rw[hT,a5]; rfl
   have e0:a<0→(decide (a<0)||decide ((T.length:Int)>9))=true:=fun h=>by simp[h]
   have e1:¬ a<0→(decide (a<0)||decide ((T.length:Int)>9))=decide ((T.length:Int)>9):=fun h=>by simp[h]
   refine SC.sub (f':=[(0,.slice p B.length c),(2,pp b2 0),(3,av),(5,.slice q2 T.length d2),(14,.slice p B.length c),(15,vi B.length),(16,vi k)]) sB<|SC.cutB 39 ((decide (a<0)||decide ((T.length:Int)>9))) ?_ ?_
   ·refine rG<|lM I<|lU (eN az I)<|lU (SU.eq (v':=vb false) (eQ I I)<|ze4 vb<|zf9 oM)<|lM I<|yC I<|lY I I I (iA az zT3 I I h8 dC sL)<|SL.gq (gT I I I dC) (eB iT3 I (za7 U) h9 I) dC<|lY I I I (lS I I)<|yF I<|lM I<|sP ?_ ?_
    ·intro c3;exact yA I<|yA I<|yA I<|yP I<|SL.nil<|zb1 (by (rw[e0 c3]; rfl)) mI
    ·intro c3;exact yC I<|lY I I I (eN az I)<|lY I I I (gR I I)<|yF I<|SL.nil<|zb1 (by (rw[e1 c3]; rfl)) mI
   refine iQ I (fun F=>?_) (fun F=>?_)
   ·refine xI<|tX<|bX<|tN<|rG<|yD I<|lM I<|SL.nil<|ST.again (g2,av,rs,all,k+1) sB I I ⟨H.trans D,lN,C,⟨a4,J⟩,S,?_⟩ lN;rw[O,aW,zg3<|d8.trans F]
   ·have c5:T.length≤9:=by simp at F; omega
    have i0:=qh T c5;have Z:=iG c5;have i1:=vh (t:=T) (by rw[a5]; simp);have e2:¬ jC (dA x)=true:=by rw[d8,F]; simp
    refine kP<|tN<|sW I<|lM I<|lW (SO.call call134 I<|vg E g2 _ _ T U c5) ?_;rintro v42 g3 _ ⟨rfl,f,e4⟩;obtain ⟨p1,e9,a0⟩:=e4;have n2:=a0.length;refine lW (aQ (e:=dL) 0 sty22 I I I e9 oM oM) ?_;rintro v43 _ _ ⟨rfl,rfl⟩;have c6:=(C.mono fun _ _=>dU.mono f).append a0;obtain ⟨L,f1,i2⟩:=FG c6 (fun y hy=>(zf5.1 hy).elim (fun h=>Nat.lt_of_le_of_lt (J y h) dC)<|fun h=>Nat.lt_of_le_of_lt (Z y h) dC);have p2:L.length=all.length+(bL T).length:=(by have:=ze4 List.length f1; simpa using this);rw[← i2,← Ej];refine aT I<|sW I<|lW (SO.call call135 I<|wB E g3 _ _ L oM oM) ?_;rintro _ _ _ ⟨rfl,L2,i3,W,rfl⟩;have n3:=i3.length_eq;have c7:∀ (x y:LV g3) s',cz Tryz.prog E (.func (.func 138) #[] #[]) [x.val,y.val] g3 s' (fun r g' j0=>r=vb (decide (x.l=y.l))∧g3=g'∧s'=j0):=fun x y s'=>cz.mk (args:=[x.val,y.val]) (cap:=[]) call138<|Cx E g3 s' _ _ x.l y.l x.h y.h x.len;refine tZ<|sW I<|lW (SO.call call137 I<|DX (lk g3) LV.val (fun _=>I) (fun _=>I) E g3 _ _ 138 (fun x y=>decide (x.l=y.l)) L2 oM c7) ?_;rintro v47 _ _ ⟨rfl,rfl⟩;refine zd4 fun ⟨w0,M⟩=>?_;obtain ⟨q,d,rfl⟩:=ag (i:=0) M rfl;clear M w0;rw[Ej];have b1:(iT (fun x y:LV g3=>decide (x.l=y.l)) L2).map LV.l=eI all T:=(by rw[C3 LV.l (fun x y:LV g3=>decide (x.l=y.l)) eqL (fun _ _=>rfl),W,f1]; rfl);have a9:(iT (fun x y:LV g3=>decide (x.l=y.l)) L2).length=(eI all T).length:=(by rw[← b1,ze8]);have a1:=Ek<|iT (fun x y:LV g3=>decide (x.l=y.l)) L2;rw[b1] at a1;generalize (iT (fun x y:LV g3=>decide (x.l=y.l)) L2).length=n47 at *;generalize (iT (fun x y:LV g3=>decide (x.l=y.l)) L2).map LV.sv=rs5 at *;refine aT I<|sW I<|lU (eN eL I)<|lU (gR I I)<|tZ ?_;refine iP I (fun c9=>?_) (fun c9=>?_)
    ·have d0:aW [] ls=none:=by rw[O,aW,zg2 e2,hT,zg3 oM]
     exact rZ<|lU (za3 I<|buildE29)<|oZ (sK 1 ae I I I I I sB)<|tZ<|rE<|bR<|tR<|tR<|bR<|tR<|ST.retCD 1 s (.inl I) results65 I aj ae I I uR ⟨I,H.trans<|D.trans f,_,I,by simp only[dy,d0]; exact⟨[],zc1 _ _,trivial⟩⟩
    ·refine kP<|bN<|tN<|rG<|yD I<|lM I<|SL.nil<|ST.again (g3,.slice q n47 d,rs5,eI all T,k+1) sB I I ⟨H.trans<|D.trans f,lN,a1,⟨lN,fun y hy=>?_⟩,xA all T,?_⟩ lN
     ·rcases lr hy with h | h
      ·exact J y h
      ·exact Z y h
     ·rw[O,aW,zg2 e2,hT,zg2 oM]
 ·have j1:k=B.length:=oM;have d1:aW [] ls=some all:=by rw[O,j1,← b5,List.drop_length]; rfl
  have f2:=kN a4 J;refine xI (tX<|tX<|bX<|tN<|sQ<|fS fun g2 D W=>?_);have b0:SlA dL g2 av rs:=W;obtain ⟨q,d,rfl⟩:=za4 b0;have C:=R.mono fun _ _=>dU.mono D;refine rG (bW (aL zl9) fun b6=>?_);refine tZ<|sQ<|sW I<|lU (eN eL I)<|lM I<|tZ<|bK<|zb6 56 3<|oP (ι:=PH×Value×List Rc×Nat) (fun i=>[(2,pp b2 0),(3,.slice q rs.length d),(6,pp b6 0),(53,.slice q rs.length d),(54,vi rs.length),(55,vi i.2.2.2)]) (fun i=>i.1)
   (fun i=>rowA encCell 56 i.2.1 i.2.2.1::pt b6 (.cells #[i.2.1] 29 (0,0))::pt b2 (.cells #[.slice none 0 0] 29 (0,0))::s)
   (fun i=>Le g2 i.1∧i.2.2.2≤rs.length∧ax (an i.1) ((bc all).take i.2.2.2) i.2.2.1) (fun i=>rs.length - i.2.2.2)
   (g2,.slice none 0 0,[],0) sB rfl rfl ⟨zb9 g2,zf8 _,trivial⟩ ?_
  rintro ⟨g3,ov,P,n⟩ ⟨f,j2,N⟩;dsimp only at f j2 N ⊢;have f3:=N.length;rw[ze6,bJ] at f3;refine rZ<|yL I<|tZ<|sQ<|iP I (fun f4=>?_) (fun f4=>?_)
  ·have a9:n<all.length:=oM;have f5:n<rs.length:=oM;have b8:=b0.based oM;have hR:=(C.get (List.getElem?_eq_getElem a9)<|List.getElem?_eq_getElem f5).mono f;have f6:=hR.len;have p3:=J _<|gM a9;have f7:=ju a9;generalize hx:all[n]=x at *;generalize hr:rs[n]=r at *;obtain ⟨rp,rn,rc⟩:=r;dsimp only at f6;subst f6;have l0:dp g3 (.slice rp x.length rc) x:=hR;have c1:rs[((n:Nat):Int).toNat]?=some ⟨rp,x.length,rc⟩:=by rw[← hr]; exact List.getElem?_eq_getElem f5
   refine kP (tN<|sQ<|bK<|sW I<|lU (iA eL fY I I b8 oM sL)<|SL.K (eB (u:=.slice rp x.length rc) hZ I (b0.mono f).rd c1 I)<|lA I<|aT I<|sW I<|yD I<|lM I<|lU (eN az I)<|lU (sU I I oM)<|lU (za3 I<|buildC56 _ _)<|bW (aL zl7) fun b9=>?_);refine oZ (sK 0 aw I I I I I sB)<|tZ<|sQ<|sQ<|zb6 75 2<|rG<|lM I<|lU (eN az I)<|lM I<|tZ<|bK<|oP (ι:=PH×Value×Nat) (fun i=>[(2,pp b2 0),(3,.slice q rs.length d),(6,pp b6 0),(53,.slice q rs.length d),(54,vi rs.length),(55,vi n),(8,.slice rp x.length rc),(9,pp b9 0),(66,.slice rp x.length rc),(67,vi x.length),(68,vi i.2.2)]) (fun i=>i.1)
    (fun i=>rowA encSide 75 i.2.1 (aU all x i.2.2)::pt b9 (.cells #[vi<|(n:Int)+1,vi<|(x.length:Int) - 1,i.2.1] 56 (0,0))::rowA encCell 56 ov P::pt b6 (.cells #[ov] 29 (0,0))::pt b2 (.cells #[.slice none 0 0] 29 (0,0))::s)
    (fun i=>Le g3 i.1∧i.2.2≤x.length) (fun i=>x.length - i.2.2)
    (g3,.slice none 0 0,0) sB rfl rfl ⟨zb9 g3,zf8 _⟩ ?_
   rintro ⟨g4,sv,j⟩ ⟨z,hj⟩;dsimp only at z hj ⊢;have n5:=eW all x j;have G:=gh all x j;refine rZ<|yL I<|tZ<|sQ<|iP I (fun f8=>?_) (fun f8=>?_)
   ·have l1:j<x.length:=oM;have a2:dp g4 (.slice rp x.length rc) x:=l0.mono z;have n6:=(SlA.cap a2).2;have f9:=SlA.cut a2 (l:=0) (m:=j) oM oM;have g7:=SlA.cut a2 (l:=j+1) (m:=x.length) oM oM;have l2:(x.drop 0).take (j - 0)=x.take j:=by simp
    have l3:(x.drop<|j+1).take (x.length - (j+1))=x.drop (j+1):=tL (by rw[zf2]; omega);rw[l2] at f9;rw[l3] at g7;have l4:[x.take j,x.drop<|j+1].flatten=x.eraseIdx j:=by rw[List.eraseIdx_eq_take_drop_succ]; simp
    have p5:(x.eraseIdx j).length=x.length - 1:=by rw[List.length_eraseIdx]; simp[l1]
    have g8:i4 [x.take j,x.drop<|j+1]<1099511627776:=by simp[i4]; omega
    refine kP<|tN<|sQ<|bK<|sW I<|aT I<|sQ<|dW [] [(0,2),(1,2),(2,2),(3,2),(4,2),(5,2),(6,2),(7,0),(8,0),(9,2)] ze5 kR<|yM I<|yM I<|pU I (SU.sliceH az zT3 I I oM oM)<|yM I<|yM I<|pU I (aD I I oM)<|pU I (SU.eq (v':=sliced rp (j+1) x.length rc 1) (SU.sliceL az zT3 I I oM oM)<|by rw[show ((j:Int)+1).toNat=j+1 by omega]) ?_;refine SP.o I (bS sty22 I I I (ab sB) dC) dC (.inr iR) ?_;rintro _ _ _ ⟨m1,rfl,rfl,rfl⟩;refine SP.freeze fun g5 A g9=>?_;have h0:cU g5 (.slice (some ⟨m1,0,none⟩) 2 2) [x.take j,x.drop<|j+1]:=⟨[jD<|sliced rp 0 j rc 1,jD<|sliced rp (j+1) x.length rc 1],SlA.lit g9 rfl rfl,⟨f9.mono A,g7.mono A,trivial⟩⟩;refine SP.o I (SO.call call139 I<|xh E g5 _ _ _ h0 (by simp) g8) dC (.inr iR) ?_;rintro v79 _ _ ⟨rfl,rfl⟩;refine pU I (aS I) (pN<|tN<|sQ<|fS fun g6 V h1=>?_);have a3:dp g6 v79 (x.eraseIdx j):=(by rw[← l4]; exact h1);obtain ⟨q6,d6,rfl⟩:=za4 a3;clear h1;refine rG<|lM I<|lU (eN az I)<|lU (gR I I)<|tZ ?_;refine iP I (fun h2=>?_) (fun h2=>?_)
    ·have Q:fM all x j=[⟨lbL all (x.eraseIdx j)+1,dz j⟩]:=by unfold fM; rw[zg3 oM]
     have p6:=AI all<|x.eraseIdx j;rw[Q] at G;have d3:cU g6 (.slice q rs.length d) all:=⟨rs,b0.mono<|f.trans<|z.trans<|A.trans V,C.mono fun _ _=>dU.mono<|f.trans<|z.trans<|A.trans V⟩;refine sW I<|lM I<|lW (SO.call call140 I<|Ai E g6 _ _ _ all (x.eraseIdx j) d3 a3 oM (fun y hy=>by have:=J y hy; omega)<|xL S _) ?_;rintro _ _ _ ⟨⟨fb,rfl⟩,rfl,rfl⟩;refine lM I<|yX I<|yX I<|lA I<|aT I<|dW [8,9,10] [(0,2),(1,1),(2,2),(3,2),(4,2),(5,0),(6,2),(7,0),(8,0),(9,0),(10,0)] ze5 kR<|pU I (fA ao I aM I)<|pK I (qL br I<|cO 1 I I)<|yM I<|pU I (aD I I oM)<|yM I<|SP.o I (SO.call call141 I<|BJ E g6 _ j) dC (.inr iR) ?_;rintro _ _ _ ⟨rfl,rfl,rfl⟩;refine pU I (za3 I<|buildS75 _ _)<|SP.o I (bS sty39 I I I (ab sB) dC) dC (.inr iR) ?_;rintro _ _ _ ⟨p7,rfl,rfl,rfl⟩;refine SP.o I (aP (e:=encSide) 0 ⟨lbL all (x.eraseIdx j)+1,dz j⟩ sty39 I I I I I oM oM) dC (.inl dC) ?_;rintro v97 _ _ ⟨rfl,rfl⟩;rw[← G];refine zd3 fun ⟨w0,M⟩=>?_;obtain ⟨p9,q0,rfl⟩:=ag (i:=0) M rfl;clear M w0;refine oU rfl (fA ao rfl aM rfl) dC (.inl dC)<|SP.on rfl (SO.store1 1 aM rfl rfl rfl rfl (bE rfl)<|by rfl) (.inl dC) ?_;rintro _ _ _ ⟨rfl,rfl⟩;refine pN<|bN<|tN<|rG<|yD I<|lM I<|SL.nil ?_;exact ST.again (g6,_,j+1) sB I I ⟨z.trans<|A.trans V,lN⟩ lN
    ·have Q:fM all x j=[]:=by unfold fM; rw[zg2 oM]
     rw[Q,zc7] at G;refine kP<|bN<|tN<|rG<|yD I<|lM I<|SL.nil ?_;refine ST.to (fun w hw=>?_) (g':=g6) (s':=rowA encSide 75 sv (aU all x<|j+1)::pt b9 (.cells #[vi<|(n:Int)+1,vi<|(x.length:Int) - 1,sv] 56 (0,0))::rowA encCell 56 ov P::pt b6 (.cells #[ov] 29 (0,0))::pt b2 (.cells #[.slice none 0 0] 29 (0,0))::s) ?_
     ·rw[G]; exact hw
     exact ST.again (g6,sv,j+1) sB I I ⟨z.trans<|A.trans V,lN⟩ lN
   ·have m2:j=x.length:=oM;subst m2;refine xI (tX<|tX<|bX<|tN<|rG<|zd6 fun g5 A m3=>?_);have h3:SlA encSide g5 sv (aU all x x.length):=m3;obtain ⟨q5,d5,rfl⟩:=za4 h3;obtain ⟨nc,h4⟩:∃ nc:Rc,nc=⟨(n:Int)+1,(x.length:Int) - 1,⟨q5,(aU all x x.length).length,d5⟩⟩:=⟨_,rfl⟩;refine lU (fA dn I cq I)<|SL.K (qL eh I<|cO 2 I I)<|SL.K (qV 0 dT aw I I I)<|lW (bS sty27 I I I (ab sB) dC) ?_;rintro _ _ _ ⟨n7,rfl,rfl,rfl⟩;refine lW (aP (e:=encCell) 1 nc sty27 I I I I (by rw[h4]; rfl) oM oM) ?_;rintro v104 _ _ ⟨rfl,rfl⟩;refine zd4 fun ⟨w0,M⟩=>?_;obtain ⟨b3,b4,rfl⟩:=ag (i:=1) M rfl;clear M w0;refine lU (fA dn I cq I)<|oZ (sK 2 cq I I I I I sB)<|SL.nil<|bN<|tN<|rG<|yD I<|lM I<|SL.nil<|dR (s':=rowA encCell 56 (.slice b3 (P++[nc]).length b4) (P++[nc])::pt b6 (.cells #[.slice b3 (P++[nc]).length b4] 29 (0,0))::pt b2 (.cells #[.slice none 0 0] 29 (0,0))::s) (.cons _<|.refl _)<|ST.again (g5,_,P++[nc],n+1) sB I I ⟨f.trans<|z.trans A,lN,?_⟩ lN;dsimp only;rw[gi f7];exact (N.mono fun _ _=>an.mono<|z.trans A).append ⟨(by rw[h4]; exact⟨I,I,h3⟩),trivial⟩
  ·have q1:n=rs.length:=oM;have m4:(bc all).take n=bc all:=tL (by rw[bJ]; omega);rw[m4] at N;refine xI (tX<|tX<|bX<|tN<|sQ<|fS fun g4 z n0=>?_);have n1:ai g4 ov (bc all):=⟨P,n0,N.mono fun _ _=>an.mono z⟩;refine rG<|SL.K (qV 0 aj ae I I I)<|lW (SO.call call53 I<|eY E g4 _ ov (bc all) n1 f2) ?_;rintro _ g5 _ ⟨rfl,A,u,rfl,hu⟩;obtain ⟨q9,d9,rfl⟩:=hu.form;exact oZ (sK 1 ae I I I I I sB)<|tZ<|rE<|ST.retCD 1 s (.inl I) results65 I aj ae I I uR ⟨I,H.trans<|D.trans<|f.trans<|z.trans A,_,I,by simp only[dy,d1]; exact hu⟩
def xC (c:Cl)(r:Rc):Prop:=r.id=c.id∧r.dim=c.dim∧r.sv.n=c.sides.length
def Gw (c:Cl)(r:Rc):Ent:=rowA encSide 75 (.slice r.sv.p r.sv.n r.sv.c) c.sides
def qd:List Cl→List Rc→Own
 | c::l,r::rs=>Gw c r::qd l rs
 | _,_=>[]
theorem pH:∀ {l:List Cl} {rs:List Rc} (c:Cl) (r:Rc),l.length=rs.length→qd (l++[c]) (rs++[r])=qd l rs++[Gw c r]
 | [],[],_,_,_=>rfl
 | x::l,y::rs,c,r,h=>by
  simp only[List.cons_append,qd];rw[pH c r (by simpa using h)]
 | [],_::_,_,_,h=>by simp at h
 | _::_,[],_,_,h=>by simp at h
theorem freezeO {E:World}{s:Own}{w:World}:∀ {l:List Cl} {rs:List Rc} {g:PH},ax xC l rs→At E g (qd l rs++s) w→∃ g',Le g g'∧At E g' s w∧ax (an g') l rs
 | [],[],g,_,h=>⟨g,zb9 g,h,trivial⟩
 | c::l,r::rs,g,a,h=>by
  obtain ⟨g1,d,e,f⟩:=At.freezeRow h;obtain ⟨g2,b,i,j⟩:=freezeO a.2 e;exact⟨g2,d.trans b,i,⟨a.1.1,a.1.2.1,za5 f b⟩,j⟩
 | [],_::_,_,a,_=>a.elim
 | _::_,[],_,a,_=>a.elim
theorem E1 (x y:ak)(w:World):(binOp .eql 75 (.agg (encSide.enc x).toArray)<|.agg (encSide.enc y).toArray).run Tryz.prog w = .ok (.bool<|decide (x=y)) w:=by
 have i:Tryz.prog.underlying 75=some (.struct<|Tryz.prog.fieldsOf 75):=by kernel_rfl
 rw[run_eql_struct,run_equalIn_agg w 9999 75 _ _ i stoodInHeld75]
 have f : ∃ f1 f2,(Tryz.prog.fieldsOf 75).toList = [f1,f2] ∧ f1.name ≠ "_" ∧ f2.name ≠ "_" ∧ f1.type = 3 ∧ f2.type = 3 ∧ f1.offset = 0 ∧ f2.offset = 1:=⟨_,_,rfl,by decide,by decide,rfl,rfl,rfl,rfl⟩
 obtain ⟨f1,f2,e,n1,n2,t1,t2,o1,o2⟩:=f;obtain ⟨a,b⟩:=x;obtain ⟨c,d⟩:=y;rw[e];have j:=run_equalIn_int (P:=Tryz.prog) w 9998 3 .i64 .i64 a c uT3;have k:=run_equalIn_int (P:=Tryz.prog) w 9998 3 .i64 .i64 b d uT3;simp only[Op.eqFields,n1,n2,t1,t2,o1,o2,encSide,part,ne_eq,not_false_eq_true,if_true,Sem.run_bind,iT3,zd2];simp[j,k];by_cases g:a=c <;> by_cases h:b=d <;> simp[g,h]
theorem SU.eqlSide {N:Nat}{f:Fr}{dst:Option Tmp}{ty:TypeId}{pos:String}{af:Array Edge}{gd:Option (Nat×Bool)}{x y:Operand}(a b:ak){U:TypeId}(d:ev f x=some (.agg (encSide.enc a).toArray))(e:ev f y=some (.agg (encSide.enc b).toArray)) :
  SU Tryz.prog N ⟨dst,.binOp .eql 75 x y U,ty,pos,af,gd⟩ f (.bool<|decide (a=b)):=fun ac w c=>by
 have hg:=run_eqGuard_agg (P:=Tryz.prog) w .eql 75 x y (encSide.enc a).toArray (encSide.enc b).toArray eqGuardType75;simp only[execOp,c.ev d,c.ev e,Sem.run_bind,hg,zd2,E1];rfl
theorem xP {l:List Int}(h:l.Pairwise (· ≤ ·)):eU l=l:=by
 unfold eU;exact List.mergeSort_of_pairwise (h.imp fun h=>by simpa using h)
theorem E4:dA [0,1]=[0,1]:=by
 unfold dA;rw[xP dC];rfl
theorem jW {l:List Cl}(h:(l.all fun c=>decide (c.sides.length<100))=true)(b:l.length<100):aJ l:=by
 rw[zk2] at h;exact⟨oM,fun c a=>by have:=h c a; simp at this; omega⟩
theorem ax.cons_left {α β:Type}{R:α→β→Prop}{a:α}{l:List α}{m:List β}(h:ax R (a::l) m):∃ b m',m=b::m'∧R a b∧ax R l m':=by
 cases m with
 | nil=>exact h.elim
 | cons b m=>exact⟨b,m,rfl,h.1,h.2⟩
theorem ax.nil_left {α β:Type}{R:α→β→Prop}{m:List β}(h:ax R ([]:List α) m):m=[]:=by
 cases m with
 | nil=>rfl
 | cons b m=>exact h.elim
theorem eX {g:PH}{c:Cl}{r:Rc}(h:an g c r):∃ p d,r=⟨c.id,c.dim,⟨p,c.sides.length,d⟩⟩∧SlA encSide g (.slice p c.sides.length d) c.sides:=by
 obtain ⟨i,dm,p,n,d⟩:=r;obtain ⟨b,e,a⟩:=h;dsimp only at b e a;have f:=(SlA.cap a).1;subst b e f;exact⟨p,d,I,a⟩
theorem Cj {α:Type}{key:α→Int}{l out:List α}{x:α}{k:Nat}(g:Srt key out)(b:aI key l out)(h:∀ y∈out.take k,key y≤key x)(e:∀ y∈out.drop k,key x<key y) :
  Srt key (out.take k++x::out.drop k)∧aI key (l++[x]) (out.take k++x::out.drop k):=by
 have c:Srt key (out.take k++out.drop k):=by rw[zj4]; exact g
 have d:=Srt.append_iff.1 c;refine⟨Srt.append_iff.2 ⟨d.1,Srt.cons_iff.2 ⟨fun y a=>Int.le_of_lt<|e y a,d.2.1⟩,fun y a z hz=>?_⟩,?_⟩
 ·rcases zf3.1 hz with rfl | hz
  ·exact h y a
  ·exact d.2.2 y a z hz
 ·have f:aI key (l++[x]) (out++[x]):=b.append<|aI.refl [x];have i:aI key (out.drop k++[x]) ([x]++out.drop k):=aI.swap (fun y a z hz=>by simp at hz; subst hz; have:=e y a; omega);have j:=aI.append (aI.refl (key:=key)<|out.take k) i;have m:out++[x]=out.take k++(out.drop k++[x]):=by rw[← zh1,zj4]
  rw[m] at f;simpa using f.trans j
theorem wy {α:Type}{key:α→Int}{out:List α}{c:Int}{k:Nat}(e:Srt key out)(b:k<out.length)(h:c<key out[k]):∀ y∈out.drop k,c<key y:=by
 rw[zg8 b];intro y a;have d:Srt key (out.drop k):=List.Pairwise.sublist (List.drop_sublist k out) e;rw[zg8 b] at d
 rcases zf3.1 a with rfl | a
 ·exact h
 ·have:=(Srt.cons_iff.1 d).1 y a;omega
theorem qR (E:World)(g:PH)(s:Own)(v:Value)(l:List ak)(P:SlA encSide g v l)(hl:l.length<1099511627776) :
  Ctr Tryz.prog E 100 #[v] g s (fun r g' s'=>s=s'∧Le g g'∧SlA encSide g' r (sortBy ak.cell l)):=by
 obtain ⟨p,c,rfl⟩:=za4 P;refine zb2 (args:=[.slice p l.length c]) func100 I ntmps100 (bE I)<|rZ<|aT I<|rZ<|aT I<|sQ<|rZ<|aT I<|bK<|oP (ι:=PH×Value×List ak×Nat) (fun i=>[(0,.slice p l.length c),(3,i.2.1),(4,vi i.2.2.2)]) (fun i=>i.1) (fun _=>s)
  (fun i=>Le g i.1∧SlA encSide i.1 i.2.1 i.2.2.1∧i.2.2.2≤l.length∧Srt ak.cell i.2.2.1∧aI ak.cell (l.take i.2.2.2) i.2.2.1) (fun i=>l.length - i.2.2.2)
  (g,.slice none 0 0,[],0) sB rfl rfl ⟨zb9 g,zc1 g _,zf8 _,Srt.nil,aI.refl _⟩ ?_
 rintro ⟨g1,ov,a,i⟩ ⟨t,b,Z,j,u⟩;dsimp only at t b Z j u ⊢;have a0:a.length=i:=by have:=u.1; rw[ze6] at this; omega
 obtain ⟨q,d,rfl⟩:=za4 b;have a1:=(SlA.cap b).2;refine sQ<|sW I<|lM I<|lU (eN be I)<|yL I<|tZ<|iP I (fun Q=>?_) (fun Q=>?_)
 ·have F:i<l.length:=oM;have B:=za6 (P.mono t) oM;have G:l[((i:Nat):Int).toNat]?=some l[i]:=List.getElem?_eq_getElem F;have R:l.take (i+1)=l.take i++[l[i]]:=tS F;generalize l[i]=x at *;refine kP<|tN<|sQ<|bK<|rZ<|aT I<|SC.cut (ι:=Nat) (fun k=>[(0,.slice p l.length c),(3,.slice q a.length d),(4,vi i),(5,vi k)]) (fun _=>g1) (fun _=>s) (fun k=>k≤a.length∧(∀ y∈a.take k,y.cell≤x.cell)∧∀ y∈a.drop k,x.cell<y.cell) ?_ ?_
  ·refine bK<|oP (ι:=Nat) (fun k=>[(0,.slice p l.length c),(3,.slice q a.length d),(4,vi i),(5,vi k)]) (fun _=>g1) (fun _=>s) (fun k=>k≤a.length∧∀ y∈a.take k,y.cell≤x.cell) (fun k=>a.length - k) 0
    sB rfl rfl ⟨zf8 _,by simp⟩ ?_
   rintro k ⟨H,f⟩;by_cases J:(k:Int)<(a.length:Int)
   ·have C:k<a.length:=oM;have K:=za6 b oM;have hd:decide ((k:Int)<(a.length:Int))=true:=zg1 J;refine sQ<|sQ<|dW [] [(0,2),(1,2),(2,2),(3,2),(4,2),(5,2),(6,2),(7,2),(8,2),(9,1),(10,2),(11,2),(12,2),(13,2),(14,1),(15,2),(16,2)] ze5 kR<|yM I<|yM I<|pU I (eN be I)<|pU I (SU.eq (lS I I)<|ze4 vb hd)<|yM I<|yJ I<|yJ I<|zb3 I (gT I I I dC) (iA be aY I I K oM sL) dC<|zb3 I (gT I I I dC) (fC c4 I zT3 I K) dC<|SP.gq I (gT I I I dC) (aZ (o:=0) iT3 I b.rd (List.getElem?_eq_getElem C) I) dC ?_;refine yJ I<|yJ I<|zb3 I (gT I I I dC) (iA be aY I I B oM sL) dC<|zb3 I (gT I I I dC) (fC c4 I zT3 I B) dC<|SP.gq I (gT I I I dC) (aZ (o:=0) iT3 I (P.mono t).rd G I) dC<|zb3 I (gT I I I dC) (SU.leq I I) dC<|pU I (wT I I)<|pN<|tN<|iP I (fun Y=>?_) (fun Y=>?_)
    ·refine kP (tN (bK (rG (lM I (yD I (lA I (SL.nil (bN ?_))))))));exact ST.again (k+1) sB I I ⟨oM,by
      rw[tS C];intro y hy
      rcases zf5.1 hy with h | h
      ·exact f y h
      ·simp at h; subst h; exact Y⟩ oM
    ·exact xI<|tX<|tX<|bX<|za9 k sB I I ⟨H,f,wy j C oM⟩
   ·have hd:decide ((k:Int)<(a.length:Int))=false:=zf9 J;exact sQ<|sQ<|dW [] [(0,2),(1,2),(2,2),(3,2),(4,2),(5,2),(6,2),(7,2),(8,2),(9,1),(10,2),(11,2),(12,2),(13,2),(14,1),(15,2),(16,2)] ze5 kR<|yM I<|yM I<|pU I (eN be I)<|pU I (SU.eq (lS I I)<|ze4 vb hd)<|yM I<|yG I<|yG I<|yG I<|yG I<|yI I<|yG I<|yG I<|yG I<|yG I<|yI I<|yG I<|pU I (wF I I)<|pN<|tN<|za1 I<|xI<|tX<|tX<|bX<|za9 k sB I I ⟨H,f,by rw[List.drop_eq_nil_of_le oM]; simp⟩
  ·rintro k ⟨H,S,T⟩;have z:=Cj j u S T;have L:=SlA.cut b (l:=k) (m:=a.length) H<|Nat.le_refl _;have M:=SlA.cut b (l:=0) (m:=k) (zf8 _) H;rw[tL (by rw[zf2]; exact Nat.le_refl _)] at L;rw[List.drop_zero,Nat.sub_zero] at M;refine sQ<|dW [8] [(0,2),(1,2),(2,2),(3,1),(5,2),(6,2),(7,2),(4,0),(8,0),(9,2)] ze5 kR<|yM I<|yM I<|pU I (iA be aY I I B oM sL)<|pK I (SQ.elemA jn aY I (P.mono t).rd G)<|yM I<|yM I<|pU I (SU.sliceL be aY I I oM oM)<|SP.o I (bS sty39 I I I (ab ⟨I,trivial⟩) dC) dC (.inr iR) ?_;rintro _ _ _ ⟨a2,rfl,rfl,rfl⟩;refine SP.to (fun w hw=>At.litRow (e:=encSide) (l:=[x]) (n:=0) hw I I dC) ?_;refine SP.o I (aQ (e:=encSide) 0 sty39 I I I L (by rw[zf2]; (first | with_reducible rfl | ((try dsimp only); (try simp only[ze7,zf1,zc5,ze9,ze6,zf2])<;>omega))) (by rw[zf2]; (first | with_reducible rfl | ((try dsimp only); (try simp only[ze7,zf1,zc5,ze9,ze6,zf2])<;>omega)))) dC (.inl dC) ?_;rintro v40 _ _ ⟨rfl,rfl⟩;refine pU I (aS I) (pN<|tN<|fS fun g2 A U=>?_);have D:SlA encSide g2 v40 ([x]++a.drop k):=U;refine rG<|lW (bS sty39 I I I (ab trivial) dC) ?_;rintro _ _ _ ⟨V,rfl,rfl,rfl⟩;refine SL.emptyRow 75 2 (some ⟨V,0,none⟩)<|lM I<|lM I<|lU (SU.sliceH be aY I I oM oM)<|lW (aQ (e:=encSide) (l:=[]) 0 sty39 I I I (M.mono A) (by rw[ze6]; (first | with_reducible rfl | ((try dsimp only); (try simp only[ze7,zf1,zc5,ze9,ze6,zf2])<;>omega))) (by rw[ze6]; (first | with_reducible rfl | ((try dsimp only); (try simp only[ze7,zf1,zc5,ze9,ze6,zf2])<;>omega)))) ?_;rintro v45 _ _ ⟨rfl,rfl⟩;refine lM I<|lW (aQ (e:=encSide) 0 sty39 I I I D lN lN) ?_;rintro v47 _ _ ⟨rfl,rfl⟩;refine lA I (SL.nil<|bN<|tN<|rG<|lM I<|yD I<|lA I<|SL.nil<|fT fun g3 N W=>?_);refine dR (s':=s) uR ?_;have O:SlA encSide g3 v47 (a.take k++x::a.drop k):=by have h:SlA encSide g3 v47 ([]++a.take k++([x]++a.drop k)):=W; simpa using h
   exact ST.again (g3,v47,a.take k++x::a.drop k,i+1) sB I I ⟨t.trans<|A.trans N,O,lN,z.1,by dsimp only; rw[R]; exact z.2⟩ lN
 ·have X:l.take i=l:=tL oM;rw[X] at u;exact xI<|tX<|tX<|bX<|tN<|sW I<|aT I<|rE<|za8 (.inl I) results100 I ⟨I,t,by rw[← bI j u]; exact b⟩
theorem ax.drop {α β:Type}{R:α→β→Prop}:∀ {l:List α} {m:List β} (k:Nat),ax R l m→ax R (l.drop k) (m.drop k)
 | _,_,0,h=>by simpa using h
 | [],[],k+1,_=>trivial
 | _::_,_::_,k+1,h=>by simpa using ax.drop k h.2
 | [],_::_,_+1,h=>h.elim
 | _::_,[],_+1,h=>h.elim
theorem ax.take {α β:Type}{R:α→β→Prop}:∀ {l:List α} {m:List β} (k:Nat),ax R l m→ax R (l.take k) (m.take k)
 | _,_,0,_=>by simp; trivial
 | [],[],k+1,_=>trivial
 | _::_,_::_,k+1,h=>⟨h.1,ax.take k h.2⟩
 | [],_::_,_+1,h=>h.elim
 | _::_,[],_+1,h=>h.elim
theorem ai.cut {g:PH}{p:Option Addr}{c a b n:Nat}{l:List Cl}(h:ai g (.slice p n c) l)(f:a≤b)(hb:b≤l.length):ai g (sliced p a b c 3) ((l.drop a).take<|b - a):=by
 obtain ⟨rs,d,e⟩:=h;have hl:=e.length;have hn:=(SlA.cap d).1;subst hn;exact⟨_,SlA.cut d f oM,ax.take (b - a)<|ax.drop a e⟩
theorem ai.cap {g:PH}{p:Option Addr}{c n:Nat}{l:List Cl}(h:ai g (.slice p n c) l):n=l.length∧l.length≤c:=by
 obtain ⟨rs,a,b⟩:=h;have:=SlA.cap a;rw[b.length];exact⟨this.1,this.2⟩
theorem m8 (l:List Cl):aa l=sortBy Cl.id (l.map ci):=by
 unfold aa;rw[mU];rfl
theorem iZ (l:List Cl):Srt Cl.id (aa l):=by rw[m8]; exact di _
theorem pY (l:List Cl):aI Cl.id (l.map ci) (aa l):=by rw[m8]; exact co _
theorem Tryz.buildF56 (x y:Int)(v:Value)(a:v.cells = #[v])(w:World):(Instr.build 56 #[(0,vi x),(1,vi y),(2,v)]).run Tryz.prog w = .ok (.agg #[vi x,vi y,v]) w:=by
 have hz:(Value.agg #[vi 0,vi 0,Value.slice none 0 0]).cells = #[vi 0,vi 0,.slice none 0 0]:=rfl;have b:(vi x).cells = #[vi x]:=rfl;have c:(vi y).cells = #[vi y]:=rfl;simp[Instr.build,Instr.fill,a,hz,b,c]
theorem md (n:Nat)(h:n<4611686018427387904):IntKind.i64.wrap (((n:Nat):Int).tdiv 2)=((n / 2:Nat):Int):=by
 have a:((n:Nat):Int).tdiv 2=((n / 2:Nat):Int):=by
  rw[Int.tdiv_eq_ediv_of_nonneg oM]; simp
 rw[a,zl2 _ oM]
theorem kh (E:World):∀ (n:Nat) (g:PH) (s:Own) (v:Value) (l:List Cl),l.length≤n→ai g v l→aJ l →
  Ctr Tryz.prog E 163 #[v] g s (fun r g' s'=>s=s'∧Le g g'∧ai g' r (aa l)):=by
 intro n;induction n with
 | zero =>
  intro g s v l hn W hf;have Z:l=[]:=zf6 oM;subst Z;obtain ⟨p,c,rfl⟩:=W.form;refine zb2 (args:=[.slice p 0 c]) func163 I ntmps163 (bE I)<|rZ<|aT I<|sQ<|sW I<|lU (eN aB I)<|yE I<|tZ<|iP I (fun h0=>?_) (fun h0=>?_)
  ·exact rZ<|aT I<|rE<|tR<|za8 (.inl I) results163 I ⟨I,zb9 g,[],zc1 g _,trivial⟩
  ·exact absurd I h0
 | succ n ih =>
  intro g s v l hn W hf;obtain ⟨rs,P,Q⟩:=W;have W:ai g v l:=⟨rs,P,Q⟩;have d4:=Q.length;have d7:=hf.1;obtain ⟨p,c,rfl⟩:=W.form;have d5:=(ai.cap W).2;refine zb2 (args:=[.slice p l.length c]) func163 I ntmps163 (bE I)<|rZ<|aT I<|sQ<|sW I<|lU (eN aB I)<|yE I<|tZ<|iP I (fun h0=>?_) (fun h0=>?_)
  ·have Z:l=[]:=zf6 oM;subst Z;exact rZ<|aT I<|rE<|tR<|za8 (.inl I) results163 I ⟨I,zb9 g,[],zc1 g _,trivial⟩
  ·refine kP<|tN<|sQ<|sW I<|lU (eN aB I)<|yE I<|tZ<|iP I (fun h1=>?_) (fun h1=>?_)
   ·obtain ⟨x,hx⟩:∃ x,l=[x]:=by
     match l,h1 with
     | [x],_=>exact⟨x,rfl⟩
     | [],h=>simp at h
     | _::_::_,h=>simp at h; omega
    subst hx;obtain ⟨r,d8,rfl,hr,b5⟩:=ax.cons_left Q;have a3:=ax.nil_left b5;subst a3;obtain ⟨rp,rd,rfl,b6⟩:=eX hr;have H:=P.based (by simp);have b7:=hf.2 x (by simp);refine sQ<|dW [] [(0,2),(1,2),(2,2),(3,1),(4,2),(5,2),(6,2),(7,1),(8,2),(9,2),(10,2),(11,1),(12,0),(13,2),(14,0),(15,2)] ze5 kR<|yM I<|pU I (iA aB aw I I H dC (show (0:Int)<((1:Nat):Int) by decide)) ?_;refine pU I (fC ao I zT3 I H)<|pK I (aZ (e:=encCell) (o:=0) (j:=0) (u:=vi x.id) iT3 I P.rd I I)<|yM I<|pU I (iA aB aw I I H dC (show (0:Int)<((1:Nat):Int) by decide)) ?_;refine pU I (fC ao I zT3 I H)<|pK I (aZ (e:=encCell) (o:=1) (j:=0) (u:=vi x.dim) iT3 I P.rd I I)<|yM I<|pU I (iA aB aw I I H dC (show (0:Int)<((1:Nat):Int) by decide)) ?_;refine pU I (fC ao I aM I H)<|pK I (aZ (e:=encCell) (o:=2) (j:=0) (u:=.slice rp x.sides.length rd) br I P.rd I I)<|SP.o I (SO.call call100 I<|qR E g _ _ x.sides b6 b7) dC (.inr iR) ?_;rintro v24 g1 _ ⟨rfl,F,a4⟩;obtain ⟨q,d,rfl⟩:=za4 a4;refine pU I (za3 I<|buildF56 _ _ _ I)<|SP.o I (bS sty27 I I I (ab sB) dC) dC (.inr iR) ?_;rintro _ _ _ ⟨d9,rfl,rfl,rfl⟩;refine pU I (aS I) (pN<|tN<|rE<|tR<|ST.freeze fun g2 C hb=>?_);exact za8 (.inl I) results163 I ⟨I,F.trans C,[⟨x.id,x.dim,⟨q,(sortBy ak.cell x.sides).length,d⟩⟩],SlA.lit hb I I,⟨⟨I,I,a4.mono C⟩,trivial⟩⟩
   ·have e0:l.length / 2<l.length:=oM;have e4:0<l.length / 2:=oM;have a5:=ai.cut W (a:=0) (b:=l.length / 2) oM oM;have a9:=ai.cut W (a:=l.length / 2) (b:=l.length) oM oM;rw[List.drop_zero,Nat.sub_zero] at a5;rw[tL (by rw[zf2]; exact Nat.le_refl _)] at a9;have b8:aJ (l.take<|l.length / 2):=⟨by rw[ze6]; omega,fun c hc=>hf.2 c<|List.mem_of_mem_take hc⟩;have b9:aJ (l.drop<|l.length / 2):=⟨by rw[zf2]; omega,fun c hc=>hf.2 c<|List.mem_of_mem_drop hc⟩;have c0:=au<|l.take<|l.length / 2;have c1:=au<|l.drop<|l.length / 2;have b0:=iZ<|l.take<|l.length / 2;have b1:=iZ<|l.drop<|l.length / 2;have c2:aI Cl.id (l.map ci) (aa (l.take<|l.length / 2)++aa (l.drop<|l.length / 2)):=by
     have h2:=(pY<|l.take<|l.length / 2).append<|pY<|l.drop<|l.length / 2;rwa [← zg7,zj4] at h2
    rw[ze6] at c0;rw[zf2] at c1;refine kP<|tN<|sW I<|lM I<|lU (eN aB I)<|lU (SU.eq (v':=vi ((l.length / 2:Nat):Int)) (SU.quo I I dC)<|ze4 vi<|md _ oM)<|lU (SU.sliceH aB aw I I oM oM)<|lW (SO.call call163 I<|ih g _ _ (l.take<|l.length / 2) (by rw[ze6]; omega) a5 b8) ?_;rintro va0 g1 _ ⟨rfl,F,hA⟩;refine aT I<|sW I<|lM I<|lU (eN aB I)<|lU (SU.eq (v':=vi ((l.length / 2:Nat):Int)) (SU.quo I I dC)<|ze4 vi<|md _ oM)<|lU (SU.sliceL aB aw I I oM oM)<|lW (SO.call call163 I<|ih g1 _ _ (l.drop<|l.length / 2) (by rw[zf2]; omega) (a9.mono F) b9) ?_;rintro vb0 g2 _ ⟨rfl,C,hB⟩;refine aT I<|rZ<|aT I ?_;generalize e9:aa (l.take<|l.length / 2)=A0 at *;generalize f1:aa (l.drop<|l.length / 2)=B0 at *;refine zb6 56 3<|SC.cut (ι:=Value×Value×Value×List Cl×List Cl×List Cl×List Rc) (fun i=>[(3,i.1),(4,i.2.1),(5,i.2.2.1)]) (fun _=>g2) (fun i=>rowA encCell 56 i.2.2.1 i.2.2.2.2.2.2::s)
     (fun i=>ai g2 i.1 i.2.2.2.1∧ai g2 i.2.1 i.2.2.2.2.1∧ax (an g2) i.2.2.2.2.2.1 i.2.2.2.2.2.2∧i.2.2.2.2.2.1++i.2.2.2.1++i.2.2.2.2.1=aa l) ?_ ?_
    ·refine bK<|oP (ι:=Value×Value×Value×List Cl×List Cl×List Cl×List Cl×List Cl×List Rc) (fun i=>[(3,i.1),(4,i.2.1),(5,i.2.2.1)]) (fun _=>g2) (fun i=>rowA encCell 56 i.2.2.1 i.2.2.2.2.2.2.2.2::s)
      (fun i=>(ai g2 i.1 i.2.2.2.2.1∧ai g2 i.2.1 i.2.2.2.2.2.2.1)∧ax (an g2) i.2.2.2.2.2.2.2.1 i.2.2.2.2.2.2.2.2∧A0=i.2.2.2.1++i.2.2.2.2.1∧B0=i.2.2.2.2.2.1++i.2.2.2.2.2.2.1∧Srt Cl.id i.2.2.2.2.2.2.2.1∧aI Cl.id (i.2.2.2.1++i.2.2.2.2.2.1) i.2.2.2.2.2.2.2.1 ∧
       (∀ y∈i.2.2.2.2.2.2.2.1,∀ z∈i.2.2.2.2.1++i.2.2.2.2.2.2.1,y.id≤z.id)∧(∀ y∈i.2.2.2.2.2.1,∀ z∈i.2.2.2.2.1,y.id<z.id)) (fun i=>i.2.2.2.2.1.length+i.2.2.2.2.2.2.1.length)
      (va0,vb0,.slice none 0 0,[],A0,[],B0,[],[]) sB rfl rfl ⟨⟨hA.mono C,hB⟩,trivial,rfl,rfl,Srt.nil,aI.refl _,by simp,by simp⟩ ?_
     rintro ⟨va,c3,vo,A1,A2,B1,B2,D,ro⟩ ⟨⟨k,m⟩,A,J,L,U,M,B,R⟩;dsimp only at k m A J L U M B R ⊢;have f2:D.length=A1.length+B1.length:=by have:=M.1; simpa using this
     have d6:=A.length;have c5:A0.length=A1.length+A2.length:=by rw[J]; simp
     have c6:B0.length=B1.length+B2.length:=by rw[L]; simp
     rw[J] at b0;rw[L] at b1;have G:=(Srt.append_iff.1 b0).2.1;have S:=(Srt.append_iff.1 b1).2.1;obtain ⟨pa,ca,rfl⟩:=k.form;obtain ⟨pb,cb,rfl⟩:=m.form;have c7:=(ai.cap k).2;have c9:=(ai.cap m).2;have X:A2=[]∨B2=[]→D++A2++B2=aa l:=fun h=>by
      rw[m8];refine bI ?_ ?_
      ·rw[zh1];refine Srt.append_iff.2 ⟨U,?_,B⟩
       rcases h with rfl | rfl
       ·simpa using S
       ·simpa using G
      ·refine c2.trans ?_;rw[J,L]
       rcases h with rfl | rfl
       ·have h2:=M.append<|aI.refl (key:=Cl.id) B2;simpa using h2
       ·have h3:aI Cl.id (A2++B1) (B1++A2):=aI.swap (fun x hx y hy=>by have:=R y hy x hx; omega);have h4:=(aI.refl (key:=Cl.id) A1).append h3;have h5:=M.append<|aI.refl (key:=Cl.id) A2;simp only[zc7,zh1] at h4 h5 ⊢;exact h4.trans h5
     cases A2 with
     | nil =>
      exact sQ<|sW I<|lU (eN aB I)<|lU (SU.eq (v':=vb false) (gR I I) I)<|lM I<|yA I<|yA I<|yA I<|yF I<|tZ<|za1 I<|xI<|tX<|tX<|bX<|za9 (_,_,vo,[],B2,D,ro) sB I I ⟨k,m,A,X<|.inl I⟩
     | cons x A3 =>
      have V:(0:Int)<((x::A3).length:Int):=by simp
      cases B2 with
      | nil =>
       exact sQ<|sW I<|lU (eN aB I)<|lU (SU.eq (v':=vb true) (gR I I)<|ze4 vb<|zg1 V)<|lM I<|yC I<|lY I I I (eN aB I)<|lY I I I (SU.eq (v':=vb false) (gR I I) I)<|yP I<|tZ<|za1 I<|xI<|tX<|tX<|bX<|za9 (_,_,vo,x::A3,[],D,ro) sB I I ⟨k,m,A,X<|.inr I⟩
      | cons y B3 =>
       have a0:(0:Int)<((y::B3).length:Int):=by simp
       obtain ⟨ra,N,t⟩:=k;obtain ⟨rb,O,w⟩:=m;have k:ai g2 _ (x::A3):=⟨ra,N,t⟩;have m:ai g2 _ (y::B3):=⟨rb,O,w⟩;have b2:=ai.cut k (a:=1) (b:=(x::A3).length) (by simp)<|Nat.le_refl _;have b3:=ai.cut m (a:=1) (b:=(y::B3).length) (by simp)<|Nat.le_refl _;have d0:((x::A3).drop 1).take ((x::A3).length - 1)=A3:=by simp
       have d1:((y::B3).drop 1).take ((y::B3).length - 1)=B3:=by simp
       rw[d0] at b2;rw[d1] at b3;obtain ⟨x',f3,rfl,hx,_⟩:=ax.cons_left t;obtain ⟨y',f4,rfl,hy,_⟩:=ax.cons_left w;have a1:=N.based (by simp);have a2:=O.based (by simp);have d2:A3.length+1+(B3.length+1)+D.length≤l.length:=by simp only[zf1] at c5 c6; omega
       refine sQ<|sW I<|lU (eN aB I)<|lU (SU.eq (v':=vb true) (gR I I)<|ze4 vb<|zg1 V)<|lM I<|yC I<|lY I I I (eN aB I)<|lY I I I (SU.eq (v':=vb true) (gR I I)<|ze4 vb<|zg1 a0)<|yP I<|tZ<|za2 I<|kP<|tN<|bK<|sQ<|dW [] [(0,2),(1,2),(2,2),(3,1),(4,2),(5,2),(6,2),(7,1),(8,2)] ze5 kR<|yM I<|pU I (iA aB aw I I a2 dC a0)<|pU I (fC ao I zT3 I a2)<|pK I (aZ (e:=encCell) (o:=0) (j:=0) (u:=vi y'.id) iT3 I O.rd I I)<|yM I<|pU I (iA aB aw I I a1 dC V)<|pU I (fC ao I zT3 I a1)<|pK I (aZ (e:=encCell) (o:=0) (j:=0) (u:=vi x'.id) iT3 I N.rd I I)<|pU I (lS I I)<|pN<|tN<|iP I (fun hc=>?_) (fun hc=>?_)
       ·refine sW I<|lM I<|lU (iA aB aw I I a2 dC a0)<|SL.K (SQ.elemA (e:=encCell) (a:=y') (j:=0) dT aw I O.rd I)<|lW (bS sty27 I I I (ab sB) dC) ?_;rintro _ _ _ ⟨f5,rfl,rfl,rfl⟩;refine lW (aP (e:=encCell) 0 y' sty27 I I I I I oM oM) ?_;rintro v61 _ _ ⟨rfl,rfl⟩;refine aT I<|rG<|lM I<|lU (SU.sliceL aB aw I I dC (by simp only[zf1]; omega)) ?_;refine lA I<|SL.nil<|bN ?_;rw[hx.1,hy.1] at hc;refine ST.again (_,_,v61,A1,x::A3,B1++[y],B3,D++[y],ro++[y']) sB I I ⟨⟨k,b3⟩,A.append ⟨hy,trivial⟩,J,by rw[L]; simp,?_,?_,?_,?_⟩ lN
        ·refine Srt.append_iff.2 ⟨U,Srt.one y,fun a f b hb=>?_⟩;simp at hb; subst hb; exact B a f b (by simp)
        ·have h2:=M.append<|aI.refl (key:=Cl.id) [y];simpa using h2
        ·intro a f b hb;dsimp only at f hb
         rcases zf5.1 f with f | f
         ·refine B a f b ?_;simp at hb ⊢
          rcases hb with h | h | h
          ·exact .inl h
          ·exact .inr<|.inl h
          ·exact .inr<|.inr<|.inr h
         ·simp at f; subst f
          rcases zf5.1 hb with hb | hb
          ·rcases zf3.1 hb with rfl | hb
           ·omega
           ·have:=(Srt.cons_iff.1 G).1 b hb; omega
          ·exact (Srt.cons_iff.1 S).1 b hb
        ·intro a f b hb;dsimp only at f hb
         rcases zf5.1 f with f | f
         ·exact R a f b hb
         ·simp at f; subst f
          rcases zf3.1 hb with rfl | hb
          ·omega
          ·have:=(Srt.cons_iff.1 G).1 b hb; omega
       ·refine sW I<|lM I<|lU (iA aB aw I I a1 dC V)<|SL.K (SQ.elemA (e:=encCell) (a:=x') (j:=0) dT aw I N.rd I)<|lW (bS sty27 I I I (ab sB) dC) ?_;rintro _ _ _ ⟨f6,rfl,rfl,rfl⟩;refine lW (aP (e:=encCell) 0 x' sty27 I I I I I oM oM) ?_;rintro v69 _ _ ⟨rfl,rfl⟩;refine aT I<|rG<|lM I<|lU (SU.sliceL aB aw I I dC (by simp only[zf1]; omega)) ?_;refine lA I<|SL.nil<|bN ?_;rw[hx.1,hy.1] at hc;refine ST.again (_,_,v69,A1++[x],A3,B1,y::B3,D++[x],ro++[x']) sB I I ⟨⟨b2,m⟩,A.append ⟨hx,trivial⟩,by rw[J]; simp,L,?_,?_,?_,?_⟩ lN
        ·refine Srt.append_iff.2 ⟨U,Srt.one x,fun a f b hb=>?_⟩;simp at hb; subst hb; exact B a f b (by simp)
        ·have h2:aI Cl.id ([x]++B1) (B1++[x]):=aI.swap (fun a f b hb=>by simp at f; subst f; have:=R b hb a (by simp); omega);have h3:=(aI.refl (key:=Cl.id) A1).append h2;have h4:=M.append<|aI.refl (key:=Cl.id) [x];dsimp only;simp only[zh1] at h3 h4 ⊢;exact h3.trans h4
        ·intro a f b hb;dsimp only at f hb
         rcases zf5.1 f with f | f
         ·refine B a f b ?_;simp at hb ⊢
          rcases hb with h | h | h
          ·exact .inr<|.inl h
          ·exact .inr<|.inr<|.inl h
          ·exact .inr<|.inr<|.inr h
         ·simp at f; subst f
          rcases zf5.1 hb with hb | hb
          ·exact (Srt.cons_iff.1 G).1 b hb
          ·rcases zf3.1 hb with rfl | hb
           ·omega
           ·have:=(Srt.cons_iff.1 S).1 b hb; omega
        ·intro a f b hb;exact R a f b (by simp[hb])
    ·rintro ⟨va,c3,vo,A2,B2,D,ro⟩ ⟨k,m,A,T⟩;dsimp only at k m A T ⊢;obtain ⟨ra,N,t⟩:=k;obtain ⟨rb,O,w⟩:=m;have b4:=ze4 List.length T;rw[au] at b4;simp only[ze7] at b4;have e1:=A.length;have e2:=t.length;have e3:=w.length;refine sW I<|lM I<|lW (aQ (e:=encCell) 0 sty27 I I I N oM oM) ?_;rintro v74 _ _ ⟨rfl,rfl⟩;refine lM I<|lW (aQ (e:=encCell) 0 sty27 I I I O lN lN) ?_;rintro v76 _ _ ⟨rfl,rfl⟩;refine aT I (rE<|fT fun g3 Y d3=>?_);exact za8 (.inl I) results163 I ⟨I,F.trans<|C.trans Y,ro++ra++rb,d3,by rw[← T]; exact (((A.append t).append w).mono fun _ _=>an.mono Y)⟩
theorem bZ (E:World)(g:PH)(s:Own)(v:Value)(l:List Cl)(b:ai g v l)(f:aJ l) :
  Ctr Tryz.prog E 102 #[.agg #[v]] g s (fun r g' s'=>s=s'∧Le g g'∧∃ u,r = .agg #[u]∧ai g' u (aa l)):=by
 obtain ⟨p,c,rfl⟩:=b.form;refine zb2 (args:=[.agg #[.slice p l.length c]]) func102 I ntmps102 (bE I)<|rZ (bW (bO I) fun b1=>?_);refine bW (aL zl9) fun b2=>tZ<|rZ<|lU (fA dn I cq I)<|SL.K (qL eh I<|cO 1 I I)<|lW (SO.call call163 I<|kh E l.length g _ _ l (Nat.le_refl _) b f) ?_;rintro v5 g1 _ ⟨rfl,a,e⟩;obtain ⟨q,d,rfl⟩:=e.form;exact lU (za3 I<|build29 _ I)<|oZ (sK 0 ae I I I I I sB)<|tZ<|rE<|ST.retCD 0 s (.inl I) results102 I aj ae I I uR ⟨I,a,_,I,e⟩
theorem Cs (l:List Cl):∀ (acc:List Cl) (c:Cl),(c∈acc∨c∈l)→∃ x∈l.foldl gt acc,x.id=c.id:=by
 induction l with
 | nil=>intro acc c h; rcases h with h | h; exact⟨c,h,I⟩; simp at h
 | cons y r ih =>
  intro acc c h;simp only[zj1]
  rcases h with h | h
  ·exact ih (gt acc y) c<|.inl (by unfold gt; split; exact h; simp[h])
  ·rcases zf3.1 h with rfl | h
   ·by_cases a:acc.any (fun x=>x.id == c.id)=true
    ·rw[s9 a];rw[zk1] at a;obtain ⟨z,hz,e⟩:=a;obtain ⟨x,f,b⟩:=ih acc z<|.inl hz;exact⟨x,f,by rw[b]; simpa using e⟩
    ·have d:acc.any (fun x=>x.id == c.id)=false:=by simpa using a
     rw[lH d];exact ih _ c (.inl<|by simp)
   ·exact ih _ c<|.inr h
theorem EW {L:List Cl}(e:Srt Cl.id L){k:Nat}(l:0<k)(g:k<L.length):((L.take k).foldl gt []).any (fun x=>x.id == L[k].id)=decide (L[k].id=(L[k - 1]'oM).id):=by
 rw[Bool.eq_iff_iff,zk1,zj8];constructor
 ·rintro ⟨x,b,a⟩;have hm:=(uj _ [] x b).resolve_left (by simp);obtain ⟨j,i,rfl⟩:=zc8 hm;rw[ze6] at i;rw[List.getElem_take] at a;have c:(L[j]'oM).id=L[k].id:=by simpa using a
  rcases Nat.lt_or_ge j (k - 1) with h | h
  ·have m:=zd1.1 e j (k - 1) oM oM h;have f:=zd1.1 e (k - 1) k oM g oM;omega
  ·have:j=k - 1:=oM;subst this;exact c.symm
 ·intro a;have hm:(L[k - 1]'oM)∈L.take k:=by
   have:k - 1<(L.take k).length:=by rw[ze6]; omega
   have f:=gM this;rwa [List.getElem_take] at f
  obtain ⟨x,b,d⟩:=Cs (L.take k) [] _ (.inr hm);exact⟨x,b,by rw[d,← a]; simp⟩
theorem dw (E:World)(g:PH)(s:Own)(v:Value)(l:List Cl)(S:ai g v l)(T:aJ l) :
  Ctr Tryz.prog E 96 #[.agg #[v]] g s (fun r g' s'=>s=s'∧Le g g'∧ai g' r (am l)):=by
 obtain ⟨p,c,rfl⟩:=S.form;have D:=iZ l;have U:=au l;have V:=T.1;refine zb2 (args:=[.agg #[.slice p l.length c]]) func96 I ntmps96 (bE I)<|rZ (bW (bO I) fun b1=>?_);refine aT I<|rZ<|lU (fA dn I cq I)<|SL.K (qL eh I<|cO 0 I I)<|lW (SO.call call163 I<|kh E l.length g _ _ l (Nat.le_refl _) S T) ?_;rintro v8 g1 _ ⟨rfl,L,W⟩;obtain ⟨rs,b,j⟩:=W;have X:=j.length;obtain ⟨q,d,rfl⟩:=b.form;refine aT I<|rZ<|aT I<|sQ<|rZ<|aT I<|bK<|zb6 56 3<|oP (ι:=Value×Nat×List Rc) (fun i=>[(3,.slice q rs.length d),(4,i.1),(5,vi i.2.1)]) (fun _=>g1) (fun i=>rowA encCell 56 i.1 i.2.2::pt b1 (.cells #[.slice p l.length c] 29 (0,0))::s)
  (fun i=>i.2.1≤rs.length∧ax (an g1) (((aa l).take i.2.1).foldl gt []) i.2.2) (fun i=>rs.length - i.2.1) (.slice none 0 0,0,[]) sB rfl rfl ⟨zf8 _,by simp[ax]⟩ ?_
 rintro ⟨ov,k,m⟩ ⟨Y,a⟩;dsimp only at Y a ⊢;have Z:=a.length;have F:=gI ((aa l).take k) [];simp only[ze6,zc5] at F;refine sQ<|sW I<|lM I<|lU (eN aB I)<|yL I<|tZ<|iP I (fun M=>?_) (fun M=>?_)
 ·have G:k<rs.length:=oM;have A:k<(aa l).length:=oM;have f:=b.based oM;have B:=j.get (List.getElem?_eq_getElem A)<|List.getElem?_eq_getElem G;have n:((aa l).take<|k+1).foldl gt []=gt (((aa l).take k).foldl gt []) (aa l)[k]:=by
   rw[tS A,zj2]; rfl
  have C:rs[((k:Nat):Int).toNat]?=some rs[k]:=List.getElem?_eq_getElem G;have w:gt (((aa l).take k).foldl gt []) (aa l)[k]=((aa l).take k).foldl gt []++[(aa l)[k]]→ax (an g1) (((aa l).take<|k+1).foldl gt []) (m++[rs[k]]):=fun h=>by
   rw[n,h]; exact a.append ⟨B,trivial⟩
  by_cases N:k=0
  ·subst N;refine kP<|tN<|sQ<|bK<|sQ<|dW [] [(0,2),(1,2),(2,2),(3,2),(4,2),(5,2),(6,2),(7,1),(8,2),(9,2),(10,2),(11,2),(12,2),(13,1),(14,2),(15,2)] ze5 kR<|yM I<|pU I (SU.eq (v':=vb true) (eQ I I) I)<|yM I<|yG I<|yG I<|yG I<|yG I<|yI I<|yG I<|yG I<|yG I<|yG I<|yG I<|yI I<|yG I<|pU I (wT I I)<|pN<|tN<|za2 I<|rG<|lM I<|lM I<|lM I<|lU (iA aB aw I I f oM sL)<|SL.K (SQ.elemA dT aw I b.rd C)<|lW (bS sty27 I I I (ab sB) dC) ?_;rintro _ _ _ ⟨O,rfl,rfl,rfl⟩;refine lW (aP (e:=encCell) 0 rs[0] sty27 I I I I I oM oM) ?_;rintro v37 _ _ ⟨rfl,rfl⟩;exact lA I<|SL.nil<|bN<|tN<|rG<|lM I<|yD I<|lA I<|SL.nil<|ST.again (v37,0+1,m++[rs[0]]) sB I I ⟨lN,w (lH<|by simp)⟩ lN
  ·have H:k - 1<rs.length:=oM;have J:k - 1<(aa l).length:=oM;have x:=EW D (by omega:0<k) A;have y:=j.get (List.getElem?_eq_getElem J)<|List.getElem?_eq_getElem H;have P:rs[((k:Int) - 1).toNat]?=some rs[k - 1]:=by rw[show ((k:Int) - 1).toNat=k - 1 by omega]; exact List.getElem?_eq_getElem H
   refine kP<|tN<|sQ<|bK<|sQ<|dW [] [(0,2),(1,2),(2,2),(3,2),(4,2),(5,2),(6,2),(7,1),(8,2),(9,2),(10,2),(11,2),(12,2),(13,1),(14,2),(15,2)] ze5 kR<|yM I<|pU I (SU.eq (v':=vb false) (eQ I I)<|ze4 vb<|zf9 oM)<|yM I<|yJ I<|yJ I<|zb3 I (gT I I I dC) (iA aB aw I I f oM sL) dC<|zb3 I (gT I I I dC) (fC ao I zT3 I f) dC<|SP.gq I (gT I I I dC) (aZ (e:=encCell) (o:=0) (u:=vi rs[k].id) iT3 I b.rd C I) dC<|yJ I<|yJ I<|zb3 I (gT I I I dC) (sU I I oM) dC<|zb3 I (gT I I I dC) (iA aB aw I I f oM sL) dC<|zb3 I (gT I I I dC) (fC ao I zT3 I f) dC<|SP.gq I (gT I I I dC) (aZ (e:=encCell) (o:=0) (u:=vi rs[k - 1].id) iT3 I b.rd P I) dC<|zb3 I (gT I I I dC) (nQ I I) dC<|pU I (wF I I)<|pN<|tN<|iP I (fun t=>?_) (fun t=>?_)
   ·refine rG<|lM I<|lM I<|lM I<|lU (iA aB aw I I f oM sL)<|SL.K (SQ.elemA dT aw I b.rd C)<|lW (bS sty27 I I I (ab sB) dC) ?_;rintro _ _ _ ⟨O,rfl,rfl,rfl⟩;refine lW (aP (e:=encCell) 0 rs[k] sty27 I I I I I oM oM) ?_;rintro v37 _ _ ⟨rfl,rfl⟩;refine lA I<|SL.nil<|bN<|tN<|rG<|lM I<|yD I<|lA I<|SL.nil ?_;rw[B.1,y.1] at t;exact ST.again (v37,k+1,m++[rs[k]]) sB I I ⟨lN,w<|lH (by rw[x]; exact zf9 t)⟩ lN
   ·refine kP<|bN<|tN<|rG<|lM I<|yD I<|lA I<|SL.nil ?_;rw[B.1,y.1] at t;exact ST.again (ov,k+1,m) sB I I ⟨lN,by dsimp only; rw[n,s9 (by rw[x]; exact zg1<|zh2 t)]; exact a⟩ lN
 ·have Q:(aa l).take k=aa l:=tL oM;rw[Q] at a;refine xI (tX<|tX<|bX<|tN<|sW I<|aT I<|rE<|fT fun g2 z R=>?_);exact dR (s':=s) uR<|za8 (.inl I) results96 I ⟨I,L.trans z,m,R,a.mono fun _ _=>an.mono z⟩
def atC (l:List Cl)(id:Int):Int:=if (l.map Cl.id).contains id then lbI (l.map Cl.id) id else -1
theorem il (E:World)(g:PH)(s:Own)(v:Value)(l:List Cl)(id:Int)(T:ai g v l)(hl:l.length<1099511627776)(J:(l.map Cl.id).Pairwise (· ≤ ·)) :
  Ctr Tryz.prog E 101 #[v,vi id] g s (fun r g' s'=>r=vi (atC l id)∧g=g'∧s=s'):=by
 obtain ⟨rs,d,w⟩:=T;have U:=w.length;obtain ⟨p,c,rfl⟩:=d.form;have z:=jZ w;have V:(l.map Cl.id).length=l.length:=by simp
 have A:∀ k (h:k<(l.map Cl.id).length) (M:k<rs.length),(l.map Cl.id)[k]=rs[k].id:=fun k h M=>by simp only[z]; simp
 unfold atC;refine zb2 (args:=[.slice p rs.length c,vi id]) func101 I ntmps101 (bE I)<|rZ<|aT I<|rZ<|aT I<|sW I<|lU (eN aB I)<|aT I ?_;generalize l.map Cl.id=L at *;refine SC.cut (ι:=Nat) (fun i=>[(0,.slice p rs.length c),(1,vi id),(5,vi i)]) (fun _=>g) (fun _=>s) (fun i=>i≤L.length∧(∀ k (h:k<L.length),k<i→L[k]<id)∧∀ k (h:k<L.length),i≤k→id≤L[k]) ?_ ?_
 ·refine bK<|oP (ι:=Nat×Nat) (fun q=>[(0,.slice p rs.length c),(1,vi id),(5,vi q.1),(6,vi q.2)]) (fun _=>g) (fun _=>s)
   (fun q=>q.1≤q.2∧q.2≤L.length∧(∀ k (h:k<L.length),k<q.1→L[k]<id)∧∀ k (h:k<L.length),q.2≤k→id≤L[k]) (fun q=>q.2 - q.1) (0,L.length)
   ⟨rfl,rfl,rfl,bD oM,trivial⟩ rfl rfl ⟨zf8 _,Nat.le_refl _,fun k _ h=>absurd h oM,fun k W M=>absurd W (by dsimp only at M; omega)⟩ ?_
  rintro ⟨i,j⟩ ⟨N,B,a,b⟩;dsimp only at N B a b ⊢;refine sQ<|sW I<|lM I<|yL I<|tZ<|iP I (fun O=>?_) (fun O=>?_)
  ·have f:=d.based oM;have m:(i+j) / 2<L.length:=oM;have C:(i+j) / 2<rs.length:=oM;have y:rs[((((i+j) / 2:Nat):Int)).toNat]?=some rs[(i+j) / 2]:=List.getElem?_eq_getElem C;have n:=A _ m C;refine kP<|tN<|bK<|sW I<|lM I<|yD I<|lU (SU.eq (v':=vi (((i+j) / 2:Nat):Int)) (SU.quo I I dC)<|ze4 vi (by rw[← Int.natCast_add]; exact md _ oM)) ?_;refine aT I<|sW I<|lM I<|lU (iA aB aw I I f oM sL)<|lU (fC ao I zT3 I f)<|SL.K (aZ (e:=encCell) (o:=0) (u:=vi rs[(i+j) / 2].id) iT3 I d.rd y I)<|lM I<|yL I<|tZ<|iP I (fun t=>?_) (fun t=>?_)
   ·refine rG<|lM I<|yD I<|lA I<|SL.nil<|bN<|ST.again ((i+j) / 2+1,j) sB I I ⟨lN,B,fun k P h=>?_,b⟩ lN;dsimp only at h;rw[← n] at t
    rcases Nat.eq_or_lt_of_le (show k≤(i+j) / 2 by omega) with rfl | D
    ·exact t
    ·have:=zd1.1 J k ((i+j) / 2) P m D;omega
   ·refine rG<|lM I<|lA I<|SL.nil<|bN<|ST.again (i,(i+j) / 2) sB I I ⟨lN,lN,a,fun k P h=>?_⟩ lN;dsimp only at h;rw[← n] at t
    rcases Nat.eq_or_lt_of_le (show (i+j) / 2≤k by omega) with D | D
    ·subst D; omega
    ·have:=zd1.1 J ((i+j) / 2) k m P D;omega
  ·have Q:i=j:=oM;subst Q;exact xI<|tX<|tX<|bX<|za9 i sB I I ⟨B,a,b⟩
 ·rintro i ⟨B,a,b⟩;have R:=GE B a b;by_cases F:(i:Int)<(rs.length:Int)
  ·have G:i<rs.length:=oM;have H:i<L.length:=oM;have f:=d.based oM;have y:rs[((i:Nat):Int).toNat]?=some rs[i]:=List.getElem?_eq_getElem G;have n:=A _ H G;have x:=DR J a b H;refine sQ<|sW I<|lM I<|lU (eN aB I)<|lU (SU.eq (v':=vb true) (lS I I)<|ze4 vb<|zg1 F)<|lM I<|yC I<|yC I<|lY I I I (iA aB aw I I f oM sL)<|lY I I I (fC ao I zT3 I f)<|SL.gq (gT I I I dC) (aZ (e:=encCell) (o:=0) (u:=vi rs[i].id) iT3 I d.rd y I) dC<|yC I<|lY I I I (eQ I I)<|yP I<|tZ<|iP I (fun t=>?_) (fun t=>?_)
   ·refine sW I<|aT I<|rE<|tR ?_;rw[← n] at t;exact za8 (.inl I) results101 I ⟨by rw[← x,zg1 t,zg3 I,R],I,I⟩
   ·refine kP<|tN<|rZ<|aT I<|rE ?_;rw[← n] at t;exact za8 (.inl I) results101 I ⟨by rw[← x,zf9 t]; rfl,rfl,rfl⟩
  ·have S:=Dx a oM;exact sQ<|sW I<|lM I<|lU (eN aB I)<|lU (SU.eq (v':=vb false) (lS I I)<|ze4 vb<|zf9 F)<|lM I<|yA I<|yA I<|yA I<|yA I<|yA I<|yA I<|yA I<|yF I<|tZ<|za1 I<|kP<|tN<|rZ<|aT I<|rE<|za8 (.inl I) results101 I ⟨by rw[S]; rfl,rfl,rfl⟩
theorem Ce {l:List Int}(g:l.Pairwise (· ≤ ·))(x:Int):(∀ k (h:k<l.length),k<lbI l x→l[k]<x)∧(∀ k (h:k<l.length),lbI l x≤k→x≤l[k]):=by
 induction l with
 | nil=>exact⟨fun k h=>absurd h (by simp),fun k h=>absurd h (by simp)⟩
 | cons a r ih =>
  obtain ⟨f,i⟩:=zk5.1 g;obtain ⟨i1,i2⟩:=ih i;by_cases b:a<x
  ·have hl:lbI (a::r) x=lbI r x+1:=by simp[lbI,b]
   rw[hl];refine⟨fun k h c=>?_,fun k h c=>?_⟩
   ·cases k with
    | zero=>exact b
    | succ k=>exact i1 k (by simpa using h) oM
   ·cases k with
    | zero=>omega
    | succ k=>exact i2 k (by simpa using h) oM
  ·have hz:lbI (a::r) x=0:=by
    unfold lbI;rw[List.length_eq_zero_iff,List.filter_eq_nil_iff];intro y d
    rcases zf3.1 d with rfl | d
    ·simpa using Int.not_lt.1 b
    ·have:=f y d; simp; omega
   rw[hz];refine⟨fun k h c=>absurd c oM,fun k h _=>?_⟩;cases k with
   | zero=>exact Int.not_lt.1 b
   | succ k =>
    have e:k<r.length:=by simpa using h
    have:=f r[k] (gM e);simp;omega
theorem sb {tl:List Cl}(q:(tl.map Cl.id).Pairwise (· ≤ ·))(id:Int):(ah tl id=none∧atC tl id = -1)∨∃ c k,ah tl id=some c∧atC tl id=((k:Nat):Int)∧tl[k]?=some c:=by
 obtain ⟨i,r⟩:=Ce q id;by_cases f:(tl.map Cl.id).contains id=true
 ·right;have hm:id∈tl.map Cl.id:=by simpa using f
  obtain ⟨c0,a,e0⟩:=zf4.1 hm;cases g:ah tl id with
  | none =>
   have:=List.find?_eq_none.1 g c0 a;simp[e0] at this
  | some c =>
   have l:lbI (tl.map Cl.id) id<tl.length:=by
    rcases Nat.lt_or_ge (lbI (tl.map Cl.id) id) tl.length with h | h
    ·exact h
    ·obtain ⟨j,d,rfl⟩:=zc8 a;have:=i j (by simpa using d) oM;simp at this;omega
   refine⟨c,lbI (tl.map Cl.id) id,I,by unfold atC; rw[zg3 f],?_⟩;rw[List.getElem?_eq_getElem l];have m:=r _ (by simpa using l)<|Nat.le_refl _;have n:tl[lbI (tl.map Cl.id) id].id=id:=by
    obtain ⟨j,d,rfl⟩:=zc8 a;have b:lbI (tl.map Cl.id) id≤j:=by
     rcases Nat.lt_or_ge j (lbI (tl.map Cl.id) id) with h | h
     ·have:=i j (by simpa using d) h; simp at this; omega
     ·exact h
    rcases Nat.eq_or_lt_of_le b with h | h
    ·simp only[h]; exact e0
    ·have s:=zd1.1 q _ j (by simpa using l) (by simpa using d) h;simp at s m;omega
   unfold ah at g;rw[List.find?_eq_some_iff_getElem] at g;obtain ⟨t,j,d,ej,o⟩:=g;have p:c.id=id:=by simpa using t
   congr 1;rw[← ej];have b:j=lbI (tl.map Cl.id) id:=by
    rcases Nat.lt_trichotomy j (lbI (tl.map Cl.id) id) with h | h | h
    ·have:=i j (by simpa using d) h; simp[ej,p] at this
    ·exact h
    ·have:=o _ h; simp[n] at this
   simp only[b]
 ·left;have hn:id ∉ tl.map Cl.id:=by simpa using f
  refine⟨?_,by unfold atC; rw[zg2 f]⟩;unfold ah;rw[List.find?_eq_none];intro x u;simp;exact fun e=>hn<|zf4.2 ⟨x,u,e⟩
theorem Bv {l:List ak}(e:l.length=2)(c:l.any bV=false):∃ a b,l=[a,b]∧(decide (nf l≠0))=decide (a.sign=b.sign):=by
 match l,e with
 | [a,b],_ =>
  simp only[List.any_cons,List.any_nil,Bool.or_false,Bool.or_eq_false_iff] at c;have e1:a.sign=1∨a.sign = -1:=by
   have d:=c.1;simp only[bV,Bool.and_eq_false_iff,decide_eq_false_iff_not,ne_eq,Decidable.not_not] at d;exact d
  have e2:b.sign=1∨b.sign = -1:=by
   have d:=c.2;simp only[bV,Bool.and_eq_false_iff,decide_eq_false_iff_not,ne_eq,Decidable.not_not] at d;exact d
  refine⟨a,b,I,?_⟩;rw[Bool.eq_iff_iff];simp[nf];omega
theorem rz (E:World)(g:PH)(s:Own)(v:Value)(tl:List Cl)(c:Cl)(r:Rc)(hv:ai g v tl)(S:tl.length<1099511627776)(hs:(tl.map Cl.id).Pairwise (· ≤ ·))(hc:an g c r)(hl:c.sides.length<1099511627776) :
  Ctr Tryz.prog E 212 #[v,rcv r] g s (fun r g' s'=>r=vi (cQ tl c)∧g=g'∧s=s'):=by
 obtain ⟨rs,D,J⟩:=hv;have hv:ai g v tl:=⟨rs,D,J⟩;have c5:=J.length;obtain ⟨vp,vc,rfl⟩:=D.form;obtain ⟨rp,d,rfl,l⟩:=eX hc;have X:=fun h=>l.based h;refine zb2 (args:=[.slice vp rs.length vc,.agg #[vi c.id,vi c.dim,.slice rp c.sides.length d]]) func212 I ntmps212 (bE I)<|rZ (bW (bO I) fun b3=>?_);refine aT I<|sQ ?_;refine SC.to (g':=g) (s':=pt b3 (.cells #[vi c.id,vi c.dim,.slice rp c.sides.length d] 56 (0,0))::s) (fun w hw=>hw) ?_;refine SC.cutB 16 (fQ c) ?_ ?_
 ·refine rG<|lU (fA ao I zT3 I)<|SL.K (qL (v:=vi c.dim) iT3 I<|cO 0 I I)<|yL I<|lM I<|sP ?_ ?_
  ·intro b6;exact yA I<|yA I<|yA I<|yP I<|SL.nil<|zb1 (by simp_all[aN,fQ] <;> omega) mI
  ·intro b6;exact lY I I I (fA ao I zT3 I)<|SL.gq (gT I I I dC) (qL (v:=vi c.dim) iT3 I<|cO 0 I I) dC<|lY I I I (gR I I)<|yF I<|SL.nil<|zb1 (by simp_all[aN,fQ] <;> omega) mI
 refine iQ I (fun m=>?_) (fun m=>?_)
 ·exact rZ<|aT I<|rE<|tR<|dR (s':=s) uR<|za8 (.inl I) results212 I ⟨by unfold cQ; rw[zg3 m],I,I⟩
 ·have c6:0≤c.dim∧c.dim≤8:=by simp[fQ] at m; omega
  refine kP<|tN<|rZ<|lU (fA ao I aM I)<|SL.K (qL (v:=.slice rp c.sides.length d) br I<|cO 0 I I)<|lU (eN be I)<|aT I<|sQ<|SC.cutB 48 (aO c) ?_ ?_
  ·refine rG<|lU (fA ao I zT3 I)<|SL.K (qL (v:=vi c.dim) iT3 I<|cO 0 I I)<|yE I<|lM I<|sP ?_ ?_
   ·intro b7;refine yC I<|lY I I I (gR I I)<|yP I<|lM I<|sP ?_ ?_
    ·intro b8;exact yA I<|yA I<|yA I<|yA I<|yB I<|yB I<|yA I<|yP I<|lM I<|yA I<|yA I<|yA I<|yA I<|yB I<|yB I<|yB I<|yB I<|yB I<|yB I<|yA I<|yP I<|SL.nil<|zb1 (by simp_all[aN,aO] <;> omega) mI
    ·intro b8;refine lY I I I (fA ao I zT3 I)<|SL.gq (gT I I I dC) (qL (v:=vi c.dim) iT3 I<|cO 0 I I) dC<|lY I I I (eQ I I)<|yC I<|sP ?_ ?_
     ·intro Y;refine yC I<|lY I I I (nQ I I)<|lY I I I (wT I I)<|yF I<|lM I<|sP ?_ ?_
      ·intro Z;exact yA I<|yA I<|yA I<|yA I<|yB I<|yB I<|yB I<|yB I<|yB I<|yB I<|yA I<|yP I<|SL.nil<|zb1 (by simp_all[aN,aO] <;> omega) mI
      ·intro Z;refine lY I I I (fA ao I zT3 I)<|SL.gq (gT I I I dC) (qL (v:=vi c.dim) iT3 I<|cO 0 I I) dC<|lY I I I (gR I I)<|yC I<|sP ?_ ?_
       ·intro t;refine yC I<|lY I I I (lS I I)<|yC I<|sP ?_ ?_
        ·intro z;exact yA I<|yA I<|lY I I I (wT I I)<|lY I I I (wT I I)<|yF I<|SL.nil<|zb1 (by simp_all[aN,aO] <;> omega) mI
        ·intro z;exact yC I<|lY I I I (gR I I)<|lY I I I (wF I I)<|lY I I I (wT I I)<|yF I<|SL.nil<|zb1 (by simp_all[aN,aO] <;> omega) mI
       ·intro t;exact yA I<|yA I<|yA I<|yB I<|yB I<|yA I<|lY I I I (wF I I)<|yF I<|SL.nil<|zb1 (by simp_all[aN,aO] <;> omega) mI
     ·intro Y;refine yA I<|yA I<|lY I I I (wF I I)<|yF I<|lM I<|lY I I I (fA ao I zT3 I)<|SL.gq (gT I I I dC) (qL (v:=vi c.dim) iT3 I<|cO 0 I I) dC<|lY I I I (gR I I)<|yC I<|sP ?_ ?_
      ·intro t;refine yC I<|lY I I I (lS I I)<|yC I<|sP ?_ ?_
       ·intro z;exact yA I<|yA I<|lY I I I (wT I I)<|lY I I I (wT I I)<|yF I<|SL.nil<|zb1 (by simp_all[aN,aO] <;> omega) mI
       ·intro z;exact yC I<|lY I I I (gR I I)<|lY I I I (wF I I)<|lY I I I (wT I I)<|yF I<|SL.nil<|zb1 (by simp_all[aN,aO] <;> omega) mI
      ·intro t;exact yA I<|yA I<|yA I<|yB I<|yB I<|yA I<|lY I I I (wF I I)<|yF I<|SL.nil<|zb1 (by simp_all[aN,aO] <;> omega) mI
   ·intro b7;refine yA I<|yA I<|yF I<|lM I<|lY I I I (fA ao I zT3 I)<|SL.gq (gT I I I dC) (qL (v:=vi c.dim) iT3 I<|cO 0 I I) dC<|lY I I I (eQ I I)<|yC I<|sP ?_ ?_
    ·intro Y;refine yC I<|lY I I I (nQ I I)<|lY I I I (wT I I)<|yF I<|lM I<|sP ?_ ?_
     ·intro Z;exact yA I<|yA I<|yA I<|yA I<|yB I<|yB I<|yB I<|yB I<|yB I<|yB I<|yA I<|yP I<|SL.nil<|zb1 (by simp_all[aN,aO] <;> omega) mI
     ·intro Z;refine lY I I I (fA ao I zT3 I)<|SL.gq (gT I I I dC) (qL (v:=vi c.dim) iT3 I<|cO 0 I I) dC<|lY I I I (gR I I)<|yC I<|sP ?_ ?_
      ·intro t;refine yC I<|lY I I I (lS I I)<|yC I<|sP ?_ ?_
       ·intro z;exact yA I<|yA I<|lY I I I (wT I I)<|lY I I I (wT I I)<|yF I<|SL.nil<|zb1 (by simp_all[aN,aO] <;> omega) mI
       ·intro z;exact yC I<|lY I I I (gR I I)<|lY I I I (wF I I)<|lY I I I (wT I I)<|yF I<|SL.nil<|zb1 (by simp_all[aN,aO] <;> omega) mI
      ·intro t;exact yA I<|yA I<|yA I<|yB I<|yB I<|yA I<|lY I I I (wF I I)<|yF I<|SL.nil<|zb1 (by simp_all[aN,aO] <;> omega) mI
    ·intro Y;refine yA I<|yA I<|lY I I I (wF I I)<|yF I<|lM I<|lY I I I (fA ao I zT3 I)<|SL.gq (gT I I I dC) (qL (v:=vi c.dim) iT3 I<|cO 0 I I) dC<|lY I I I (gR I I)<|yC I<|sP ?_ ?_
     ·intro t;refine yC I<|lY I I I (lS I I)<|yC I<|sP ?_ ?_
      ·intro z;exact yA I<|yA I<|lY I I I (wT I I)<|lY I I I (wT I I)<|yF I<|SL.nil<|zb1 (by simp_all[aN,aO] <;> omega) mI
      ·intro z;exact yC I<|lY I I I (gR I I)<|lY I I I (wF I I)<|lY I I I (wT I I)<|yF I<|SL.nil<|zb1 (by simp_all[aN,aO] <;> omega) mI
     ·intro t;exact yA I<|yA I<|yA I<|yB I<|yB I<|yA I<|lY I I I (wF I I)<|yF I<|SL.nil<|zb1 (by simp_all[aN,aO] <;> omega) mI
  refine iQ I (fun n=>?_) (fun n=>?_)
  ·exact rZ<|aT I<|rE<|tR<|dR (s':=s) uR<|za8 (.inl I) results212 I ⟨by unfold cQ; rw[zg2 (by simp[m]),zg3 n],I,I⟩
  ·refine kP<|tN<|sQ<|rZ<|aT I<|bK<|oP (ι:=Nat) (fun k=>[(0,.slice vp rs.length vc),(3,pp b3 0),(5,vi c.sides.length),(6,vi k)]) (fun _=>g)
    (fun _=>pt b3 (.cells #[vi c.id,vi c.dim,.slice rp c.sides.length d] 56 (0,0))::s) (fun k=>k≤c.sides.length∧(List.range k).any (jg tl c)=false) (fun k=>c.sides.length - k) 0
    sB rfl rfl ⟨zf8 _,by simp⟩ ?_
   rintro k ⟨hk,L⟩;refine sQ<|sW I<|lM I<|yL I<|tZ<|iP I (fun b9=>?_) (fun b9=>?_)
   ·have A:k<c.sides.length:=oM;have f:=X oM;have p:c.sides[((k:Nat):Int).toNat]?=some c.sides[k]:=List.getElem?_eq_getElem A;have a5:c.sides[k]?=some c.sides[k]:=List.getElem?_eq_getElem A;have a0:(k:Int)>0→∃ q,c.sides[((k:Int) - 1).toNat]?=some q∧c.sides[k - 1]?=some q:=fun h=>by
     have h2:k - 1<c.sides.length:=oM;exact⟨c.sides[k - 1],by rw[show ((k:Int) - 1).toNat=k - 1 by omega]; exact List.getElem?_eq_getElem h2,List.getElem?_eq_getElem h2⟩
    generalize c.sides[k]=y at *;have V:jg tl c k=cw tl c k y:=by unfold jg; rw[a5]
    have hT:cw tl c k y=true→(List.range c.sides.length).any (jg tl c)=true:=fun h=>zk1.2 ⟨k,List.mem_range.2 A,by rw[V]; exact h⟩;have hF:cw tl c k y=false→(List.range<|k+1).any (jg tl c)=false:=fun h=>by rw[List.range_succ,List.any_append,L]; simp[V,h]
    rcases sb hs y.cell with ⟨c0,M⟩ | ⟨yc,kk,a9,M,b0⟩
    ·have N:cw tl c k y=true:=oW (by rw[c0]; simp);refine kP<|tN<|sQ<|bK<|sW I<|lU (fA ao I aM I)<|SL.K (qL (v:=.slice rp c.sides.length d) br I<|cO 0 I I)<|lM I<|lU (iA be aY I I f oM sL)<|lU (fC c4 I zT3 I f)<|SL.K (aZ (e:=encSide) (o:=0) (u:=vi y.cell) iT3 I l.rd p I)<|lW (SO.call call101 I<|il E g _ _ tl y.cell hv S hs) ?_;rintro _ _ _ ⟨rfl,rfl,rfl⟩;rw[M];exact aT I<|sQ<|dW [] [(0,2),(1,2),(2,2),(3,2),(4,2),(5,2),(6,2),(7,1),(8,2),(9,1),(10,2),(11,2),(12,2),(13,2),(14,2),(15,2),(16,2),(17,2),(18,1),(19,2),(20,2),(21,2),(22,1),(23,2),(24,1),(25,2),(26,2),(27,2),(28,2),(29,1),(30,2),(31,2),(32,2)] ze5 kR<|yM I<|pU I (SU.eq (v':=vb true) (lS I I) I)<|yM I<|yG I<|yG I<|yG I<|yG I<|yI I<|yG I<|yI I<|yG I<|yG I<|pU I (wT I I)<|yM I<|yG I<|yG I<|yG I<|yH I<|SP.off1 I (zb4 I I I dC) dC<|yH I<|yH I<|yH I<|SP.off1 I (zb4 I I I dC) dC<|yH I<|SP.off1 I (zb4 I I I dC) dC<|yH I<|yH I<|yH I<|yH I<|SP.off1 I (zb4 I I I dC) dC<|yH I<|yG I<|pU I (wT I I)<|pN<|tN<|za2 I<|rZ<|aT I<|rE<|bR<|tR<|tR<|bR<|tR<|dR (s':=s) uR<|za8 (.inl I) results212 I ⟨by unfold cQ; rw[zg2 (by simp[m]),zg2 (by simp[n]),zg3<|hT N],I,I⟩
    ·have T:kk<tl.length:=(zf7.1 b0).1;have b1:kk<rs.length:=oM;have F:=D.based oM;have a1:=J.get b0<|List.getElem?_eq_getElem b1;have a2:rs[((kk:Nat):Int).toNat]?=some rs[kk]:=List.getElem?_eq_getElem b1;have B:(ah tl y.cell).isSome=true:=by rw[a9]; rfl
     have O:((ah tl y.cell).getD aH)=yc:=by rw[a9]; rfl
     by_cases G:yc.dim≠c.dim - 1
     ·have N:cw tl c k y=true:=uQ B (by rw[O]; exact G);refine kP<|tN<|sQ<|bK<|sW I<|lU (fA ao I aM I)<|SL.K (qL (v:=.slice rp c.sides.length d) br I<|cO 0 I I)<|lM I<|lU (iA be aY I I f oM sL)<|lU (fC c4 I zT3 I f)<|SL.K (aZ (e:=encSide) (o:=0) (u:=vi y.cell) iT3 I l.rd p I)<|lW (SO.call call101 I<|il E g _ _ tl y.cell hv S hs) ?_;rintro _ _ _ ⟨rfl,rfl,rfl⟩;rw[M];refine aT I<|sQ<|dW [] [(0,2),(1,2),(2,2),(3,2),(4,2),(5,2),(6,2),(7,1),(8,2),(9,1),(10,2),(11,2),(12,2),(13,2),(14,2),(15,2),(16,2),(17,2),(18,1),(19,2),(20,2),(21,2),(22,1),(23,2),(24,1),(25,2),(26,2),(27,2),(28,2),(29,1),(30,2),(31,2),(32,2)] ze5 kR<|yM I<|pU I (SU.eq (v':=vb false) (lS I I)<|ze4 vb<|zf9 oM)<|yM I<|yJ I<|yJ I<|zb3 I (gT I I I dC) (iA aB aw I I F oM sL) dC<|zb3 I (gT I I I dC) (fC ao I zT3 I F) dC<|SP.gq I (gT I I I dC) (aZ (e:=encCell) (o:=1) (u:=vi rs[kk].dim) iT3 I D.rd a2 I) dC<|zb3 I (gT I I I dC) (fA ao I zT3 I) dC<|SP.gq I (gT I I I dC) (qL (v:=vi c.dim) iT3 I<|cO 0 I I) dC<|zb3 I (gT I I I dC) (sU I I oM) dC<|zb3 I (gT I I I dC) (SU.eq (v':=vb true) (nQ I I)<|ze4 vb<|zg1 (by rw[a1.2.1]; exact G)) dC ?_;exact pU I (wF I I)<|yM I<|yG I<|yG I<|yG I<|yH I<|SP.off1 I (zb4 I I I dC) dC<|yH I<|yH I<|yH I<|SP.off1 I (zb4 I I I dC) dC<|yH I<|SP.off1 I (zb4 I I I dC) dC<|yH I<|yH I<|yH I<|yH I<|SP.off1 I (zb4 I I I dC) dC<|yH I<|yG I<|pU I (wT I I)<|pN<|tN<|za2 I<|rZ<|aT I<|rE<|bR<|tR<|tR<|bR<|tR<|dR (s':=s) uR<|za8 (.inl I) results212 I ⟨by unfold cQ; rw[zg2 (by simp[m]),zg2 (by simp[n]),zg3<|hT N],I,I⟩
     ·by_cases P:(k:Int)>0
      ·obtain ⟨q,c1,c2⟩:=a0 P;have U:=uO (i:=k) B (by rw[O]; exact G) P c2;refine kP<|tN<|sQ<|bK<|sW I<|lU (fA ao I aM I)<|SL.K (qL (v:=.slice rp c.sides.length d) br I<|cO 0 I I)<|lM I<|lU (iA be aY I I f oM sL)<|lU (fC c4 I zT3 I f)<|SL.K (aZ (e:=encSide) (o:=0) (u:=vi y.cell) iT3 I l.rd p I)<|lW (SO.call call101 I<|il E g _ _ tl y.cell hv S hs) ?_;rintro _ _ _ ⟨rfl,rfl,rfl⟩;rw[M];refine aT I<|sQ<|dW [] [(0,2),(1,2),(2,2),(3,2),(4,2),(5,2),(6,2),(7,1),(8,2),(9,1),(10,2),(11,2),(12,2),(13,2),(14,2),(15,2),(16,2),(17,2),(18,1),(19,2),(20,2),(21,2),(22,1),(23,2),(24,1),(25,2),(26,2),(27,2),(28,2),(29,1),(30,2),(31,2),(32,2)] ze5 kR<|yM I<|pU I (SU.eq (v':=vb false) (lS I I)<|ze4 vb<|zf9 oM)<|yM I<|yJ I<|yJ I<|zb3 I (gT I I I dC) (iA aB aw I I F oM sL) dC<|zb3 I (gT I I I dC) (fC ao I zT3 I F) dC<|SP.gq I (gT I I I dC) (aZ (e:=encCell) (o:=1) (u:=vi rs[kk].dim) iT3 I D.rd a2 I) dC<|zb3 I (gT I I I dC) (fA ao I zT3 I) dC<|SP.gq I (gT I I I dC) (qL (v:=vi c.dim) iT3 I<|cO 0 I I) dC<|zb3 I (gT I I I dC) (sU I I oM) dC<|zb3 I (gT I I I dC) (SU.eq (v':=vb false) (nQ I I)<|ze4 vb<|zf9 (by rw[a1.2.1]; exact G)) dC ?_;refine pU I (wF I I)<|yM I<|yJ I<|zb3 I (gT I I I dC) (SU.eq (v':=vb true) (gR I I)<|ze4 vb<|zg1 P) dC<|yJ I<|zb3 I (gT I I I dC) (fA ao I aM I) dC<|SP.gq I (gT I I I dC) (qL (v:=.slice rp c.sides.length d) br I<|cO 0 I I) dC<|yJ I<|zb3 I (gT I I I dC) (iA be aY I I f oM sL) dC<|zb3 I (gT I I I dC) (fC c4 I zT3 I f) dC<|SP.gq I (gT I I I dC) (aZ (e:=encSide) (o:=0) (u:=vi y.cell) iT3 I l.rd p I) dC<|zb3 I (gT I I I dC) (fA ao I aM I) dC<|SP.gq I (gT I I I dC) (qL (v:=.slice rp c.sides.length d) br I<|cO 0 I I) dC<|yJ I<|zb3 I (gT I I I dC) (sU I I oM) dC<|zb3 I (gT I I I dC) (iA be aY I I f oM sL) dC<|zb3 I (gT I I I dC) (fC c4 I zT3 I f) dC<|SP.gq I (gT I I I dC) (aZ (e:=encSide) (o:=0) (u:=vi q.cell) iT3 I l.rd c1 I) dC<|zb3 I (gT I I I dC) (eQ I I) dC<|zb3 I (gT I I I dC) (wT I I) dC<|pU I (wF I I)<|pN<|tN<|iP I (fun C=>?_) (fun C=>?_)
       ·exact rZ<|aT I<|rE<|bR<|tR<|tR<|bR<|tR<|dR (s':=s) uR<|za8 (.inl I) results212 I ⟨by unfold cQ; rw[zg2 (by simp[m]),zg2 (by simp[n]),zg3<|hT (by rw[U]; exact zg1 C.symm)],I,I⟩
       ·exact kP<|bN<|tN<|rG<|lM I<|yD I<|lA I<|SL.nil<|ST.again (k+1) sB I I ⟨oM,hF (by rw[U]; exact zf9 fun e=>C e.symm)⟩ oM
      ·have U:=uP (i:=k) (x:=y) B (by rw[O]; exact G) P;refine kP<|tN<|sQ<|bK<|sW I<|lU (fA ao I aM I)<|SL.K (qL (v:=.slice rp c.sides.length d) br I<|cO 0 I I)<|lM I<|lU (iA be aY I I f oM sL)<|lU (fC c4 I zT3 I f)<|SL.K (aZ (e:=encSide) (o:=0) (u:=vi y.cell) iT3 I l.rd p I)<|lW (SO.call call101 I<|il E g _ _ tl y.cell hv S hs) ?_;rintro _ _ _ ⟨rfl,rfl,rfl⟩;rw[M];refine aT I<|sQ<|dW [] [(0,2),(1,2),(2,2),(3,2),(4,2),(5,2),(6,2),(7,1),(8,2),(9,1),(10,2),(11,2),(12,2),(13,2),(14,2),(15,2),(16,2),(17,2),(18,1),(19,2),(20,2),(21,2),(22,1),(23,2),(24,1),(25,2),(26,2),(27,2),(28,2),(29,1),(30,2),(31,2),(32,2)] ze5 kR<|yM I<|pU I (SU.eq (v':=vb false) (lS I I)<|ze4 vb<|zf9 oM)<|yM I<|yJ I<|yJ I<|zb3 I (gT I I I dC) (iA aB aw I I F oM sL) dC<|zb3 I (gT I I I dC) (fC ao I zT3 I F) dC<|SP.gq I (gT I I I dC) (aZ (e:=encCell) (o:=1) (u:=vi rs[kk].dim) iT3 I D.rd a2 I) dC<|zb3 I (gT I I I dC) (fA ao I zT3 I) dC<|SP.gq I (gT I I I dC) (qL (v:=vi c.dim) iT3 I<|cO 0 I I) dC<|zb3 I (gT I I I dC) (sU I I oM) dC<|zb3 I (gT I I I dC) (SU.eq (v':=vb false) (nQ I I)<|ze4 vb<|zf9 (by rw[a1.2.1]; exact G)) dC ?_;exact pU I (wF I I)<|yM I<|yJ I<|zb3 I (gT I I I dC) (SU.eq (v':=vb false) (gR I I)<|ze4 vb<|zf9 P) dC<|yJ I<|yG I<|yI I<|yG I<|yG I<|yG I<|yI I<|yG I<|yI I<|yG I<|yG I<|yG I<|yG I<|yI I<|yG I<|zb3 I (gT I I I dC) (wF I I) dC<|pU I (wF I I)<|pN<|tN<|za1 I<|kP<|bN<|tN<|rG<|lM I<|yD I<|lA I<|SL.nil<|ST.again (k+1) sB I I ⟨oM,hF U⟩ oM
   ·refine xI<|tX<|tX<|bX<|tN<|sQ<|rZ<|aT I<|bK ?_;have T:k=c.sides.length:=oM;subst T;refine oP (ι:=Nat) (fun k=>[(3,pp b3 0),(5,vi c.sides.length),(8,vi k)]) (fun _=>g)
     (fun _=>pt b3 (.cells #[vi c.id,vi c.dim,.slice rp c.sides.length d] 56 (0,0))::s) (fun k=>k≤c.sides.length∧(c.sides.take k).any bV=false) (fun k=>c.sides.length - k) 0
     sB rfl rfl ⟨zf8 _,by simp⟩ ?_
    rintro k ⟨c7,H⟩;refine sQ<|sW I<|lM I<|yL I<|tZ<|iP I (fun b2=>?_) (fun b2=>?_)
    ·have A:k<c.sides.length:=oM;have f:=X oM;have p:c.sides[((k:Nat):Int).toNat]?=some c.sides[k]:=List.getElem?_eq_getElem A;have c3:c.sides.take (k+1)=c.sides.take k++[c.sides[k]]:=tS A;have a3:c.sides[k]∈c.sides:=gM A;generalize c.sides[k]=y at *;refine kP<|tN<|sQ<|bK<|SC.cutB 115 (bV y) ?_ ?_
     ·refine rG<|lU (fA ao I aM I)<|SL.K (qL (v:=.slice rp c.sides.length d) br I<|cO 0 I I)<|lM I<|lU (iA be aY I I f oM sL)<|lU (fC c4 I zT3 I f)<|SL.K (aZ (e:=encSide) (o:=1) (u:=vi y.sign) iT3 I l.rd p I)<|lU (nQ I I)<|lM I<|sP ?_ ?_
      ·intro Q;exact lY I I I (fA ao I aM I)<|SL.gq (gT I I I dC) (qL (v:=.slice rp c.sides.length d) br I<|cO 0 I I) dC<|yC I<|lY I I I (iA be aY I I f oM sL)<|lY I I I (fC c4 I zT3 I f)<|SL.gq (gT I I I dC) (aZ (e:=encSide) (o:=1) (u:=vi y.sign) iT3 I l.rd p I) dC<|lY I I I (nQ I I)<|yP I<|SL.nil<|zb1 (by exact ze4 (fun b=>some<|Value.bool b) (t8 Q).symm) mI
      ·intro Q;exact yA I<|yA I<|yA I<|yA I<|yA I<|yA I<|yA I<|yF I<|SL.nil<|zb1 (by exact ze4 (fun b=>some<|Value.bool b) (t7 Q).symm) mI
     refine iQ I (fun a4=>?_) (fun a4=>?_)
     ·refine rZ<|aT I<|rE<|bR<|tR<|tR<|bR<|tR<|dR (s':=s) uR ?_;have b4:c.sides.any bV=true:=zk1.2 ⟨y,a3,a4⟩;exact za8 (.inl I) results212 I ⟨by unfold cQ; rw[zg2 (by simp[m]),zg2 (by simp[n]),zg2 (by simp[L]),zg3 b4],I,I⟩
     ·exact kP<|bN<|tN<|rG<|lM I<|yD I<|lA I<|SL.nil<|ST.again (k+1) sB I I ⟨oM,by rw[c3,List.any_append,H]; simp[a4]⟩ oM
    ·have T:c.sides.take k=c.sides:=tL oM;rw[T] at H;by_cases R:c.dim=1
     ·have h2:c.sides.length=2:=by
       simp[aO] at n;have:=n.1.2 R;omega
      obtain ⟨a,b,b5,W⟩:=Bv h2 H;have f:=X oM;refine xI<|tX<|tX<|bX<|tN<|sQ<|sQ<|dW [] [(0,2),(1,1),(2,2),(3,2),(4,2),(5,1),(6,2),(7,2),(8,1),(9,2),(10,1),(11,2),(12,2),(13,1),(14,2),(15,2)] ze5 kR<|pU I (fA ao I zT3 I)<|pK I (qL (v:=vi c.dim) iT3 I<|cO 0 I I)<|pU I (SU.eq (v':=vb true) (eQ I I)<|ze4 vb<|zg1 R)<|yM I<|zb3 I (gT I I I dC) (fA ao I aM I) dC<|SP.gq I (gT I I I dC) (qL (v:=.slice rp c.sides.length d) br I<|cO 0 I I) dC<|zb3 I (gT I I I dC) (iA be aY I I f dC sL) dC<|zb3 I (gT I I I dC) (fC c4 I zT3 I f) dC<|SP.gq I (gT I I I dC) (aZ (e:=encSide) (j:=0) (o:=1) (u:=vi a.sign) (a:=a) iT3 I l.rd (by rw[b5]; rfl) rfl) dC ?_;refine zb3 I (gT I I I dC) (fA ao I aM I) dC<|SP.gq I (gT I I I dC) (qL (v:=.slice rp c.sides.length d) br I<|cO 0 I I) dC<|zb3 I (gT I I I dC) (iA be aY I I f dC sL) dC<|zb3 I (gT I I I dC) (fC c4 I zT3 I f) dC<|SP.gq I (gT I I I dC) (aZ (e:=encSide) (j:=1) (o:=1) (u:=vi b.sign) (a:=b) iT3 I l.rd (by rw[b5]; rfl) rfl) dC ?_;refine zb3 I (gT I I I dC) (eQ I I) dC<|pU I (wT I I)<|pN<|tN<|iP I (fun C=>?_) (fun C=>?_)
      ·exact rZ<|aT I<|rE<|tR<|dR (s':=s) uR<|za8 (.inl I) results212 I ⟨by unfold cQ; rw[zg2 (by simp[m]),zg2 (by simp[n]),zg2 (by simp[L]),zg2 (by simp[H]),zg3 (by rw[W]; simp[R,C])],I,I⟩
      ·exact kP<|tN<|rZ<|aT I<|rE<|dR (s':=s) uR<|za8 (.inl I) results212 I ⟨by unfold cQ; rw[zg2 (by simp[m]),zg2 (by simp[n]),zg2 (by simp[L]),zg2 (by simp[H]),zg2 (by rw[W]; simp[C])],I,I⟩
     ·exact xI<|tX<|tX<|bX<|tN<|sQ<|sQ<|dW [] [(0,2),(1,1),(2,2),(3,2),(4,2),(5,1),(6,2),(7,2),(8,1),(9,2),(10,1),(11,2),(12,2),(13,1),(14,2),(15,2)] ze5 kR<|pU I (fA ao I zT3 I)<|pK I (qL (v:=vi c.dim) iT3 I<|cO 0 I I)<|pU I (SU.eq (v':=vb false) (eQ I I)<|ze4 vb<|zf9 R)<|yM I<|yG I<|yI I<|yG I<|yG I<|yI I<|yG I<|yI I<|yG I<|yG I<|yI I<|yG I<|pU I (wF I I)<|pN<|tN<|za1 I<|kP<|tN<|rZ<|aT I<|rE<|dR (s':=s) uR<|za8 (.inl I) results212 I ⟨by unfold cQ; rw[zg2 (by simp[m]),zg2 (by simp[n]),zg2 (by simp[L]),zg2 (by simp[H]),zg2 (by simp[R])],I,I⟩
end Go.Proofs.YtbbppeihhkhkcaaGreatDoor
