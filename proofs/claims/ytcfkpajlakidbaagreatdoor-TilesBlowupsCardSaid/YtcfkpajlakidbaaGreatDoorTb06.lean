/- 6 -/
import Derived.Shelf.SlIterI.Sorted
import Derived.Test.YtcfkpajlakidbaaGreatDoorTb04
import Derived.Test.YtcfkpajlakidbaaGreatDoorTb03
import Derived.Test.YtcfkpajlakidbaaGreatDoorTb05
import Derived.Test.YtcfkpajlakidbaaGreatDoorTb02
set_option linter.unusedSimpArgs false
set_option linter.unusedVariables false
namespace Go.Proofs.YtcfkpajlakidbaaGreatDoor
open _root_.Go.Proofs.Tryz _root_.Go.Proofs.YtcfkpajlakidbaaGreatDoor.Tryz
open Go Go.Sy Go.Pl Go.Proofs Go.Shelf Go.Sort
set_option maxRecDepth 100000
def Tryz.keysA_ren:Ren :=
 {
  f:=fun x =>
   match x with
   | 7=>120
   | 10=>153
   | n=>n,
  t:=fun x =>
   match x with
   | 23=>139
   | 26=>3
   | 3=>4
   | 28=>171
   | 0=>0
   | 27=>170
   | 33=>102
   | 4=>4
   | n=>n,
  g:=fun x =>
   have n:=x;
   n }
theorem Tryz.keysA:SlLaysZI.n7 Tryz.prog Tryz.keysA_ren :=
  {
  mixed:=Eq.refl true,
  f7 :=
   Exists.intro "maps.Keys[map[int]bool,int,bool]"
    ⟨zg1 (id (Eq.refl true)),
     zb6 func120
      (zd9 some
       kR)⟩,
  f10 :=
   Exists.intro "maps.Keys[map[int]bool,int,bool]$1"
    ⟨zg1 (id (Eq.refl true)),
     zb6 func153
      (zd9 some
       kR)⟩,
  t0:=underlying0,a0:=isAgg0,z0:=sizeOf0,v0:=zeroValue0,t4:=underlying4,
  a4:=isAgg4,z4:=sizeOf4,v4:=zeroValue4,t23:=underlying139,a23:=isAgg139,
  z23:=sizeOf139,v23:=zeroValue139,t26:=uT3,a26:=iT3,z26:=zT3,
  v26:=zk6,t27:=underlying170,a27:=isAgg170,z27:=sizeOf170,
  v27:=zeroValue170,t28:=underlying171,a28:=isAgg171,z28:=sizeOf171,
  v28:=zeroValue171,t33:=underlying102,a33:=isAgg102,z33:=sizeOf102,
  v33:=zeroValue102 }
def Tryz.sortedA_ren:Ren :=
 {
  f:=fun x =>
   match x with
   | 6=>119
   | 8=>152
   | 9=>100
   | 11=>188
   | 13=>143
   | 12=>142
   | 23=>176
   | 24=>177
   | 14=>167
   | 15=>168
   | 16=>169
   | 17=>170
   | 18=>171
   | 19=>172
   | 20=>173
   | 21=>174
   | 22=>175
   | 25=>196
   | 26=>197
   | 27=>198
   | 28=>199
   | 29=>200
   | 30=>156
   | 31=>211
   | n=>n,
  t:=fun x =>
   match x with
   | 26=>3
   | 28=>171
   | 24=>25
   | 0=>0
   | 3=>3
   | 37=>132
   | 48=>176
   | 50=>140
   | 4=>4
   | 40=>217
   | 39=>216
   | 45=>119
   | 5=>5
   | 9=>9
   | 51=>239
   | 55=>243
   | 57=>250
   | 58=>251
   | 33=>102
   | n=>n,
  g:=fun x =>
   have n:=x;
   n }
theorem Tryz.sortedA:SlLaysZI.n6 Tryz.prog Tryz.sortedA_ren :=
  {
  mixed:=Eq.refl true,
  f6 :=
   Exists.intro "slices.Sorted[int]"
    ⟨zg1 (id (Eq.refl true)),
     zb6 func119
      (zd9 some
       kR)⟩,
  f8 :=
   Exists.intro "slices.Collect[int]"
    ⟨zg1 (id (Eq.refl true)),
     zb6 func152
      (zd9 some
       kR)⟩,
  f11 :=
   Exists.intro "slices.AppendSeq[[]int,int]"
    ⟨zg1 (id (Eq.refl true)),
     zb6 func188
      (zd9 some
       kR)⟩,
  t0:=underlying0,a0:=isAgg0,z0:=sizeOf0,v0:=zeroValue0,t24:=ak,
  a24:=dG,z24:=bP,v24:=zeroValue25,t26:=uT3,a26:=iT3,
  z26:=zT3,v26:=zk6,t28:=underlying171,a28:=isAgg171,z28:=sizeOf171,
  v28:=zeroValue171,i26:=Eq.refl (some (some (Value.int IntKind.i64 0),1,8)) }
theorem Tryz.sortsA (m:Nat):AnyZI.SortsIn Tryz.prog Tryz.sortedA_ren Fence.wide m :=
 -- 119
 ⟨fun blk off cap ss W hH hblk hsz=>callsIn_wide.2 (Any.slices_Sort_int lays189 blk off cap ss W hH hblk hsz),
  fun p cap W=>callsIn_wide.2 (Any.slices_Sort_int_none lays189 p cap W)⟩
theorem Ag (E:World)(g:PH)(s:Own)(m:Nat) :
  Ctr Tryz.prog E 120 #[.map (some m)] g s (fun r g' s'=>s=s'∧Le g g'∧∃ b,r = .func (.func 153) #[] #[pp b 0]∧g' b=some (.cells #[.map (some m)] 139 (0,0))):=by
 refine za9 (args:=[.map (some m)]) func120 I ntmps120 (bE I) ?_;refine rZ (bW (bO I) fun b1=>?_);refine aT I (rZ (lU (SU.mkFunc I) (aT I (rE (ST.freeze fun g1 h1 hb=>?_)))));exact za6 (.inl I) results120 I ⟨I,h1,_,I,hb⟩
def dJ (x:Int):Prop:=-9223372036854775808≤x∧x≤9223372036854775807
theorem Co {x:Int}(h:dJ x):(Lit.int .i64 x).wf=true:=by
 unfold dJ at h;simp[Lit.wf,IntKind.min,IntKind.max,IntKind.bits,IntKind.signed];omega
theorem uE (E:World)(hE:E.drawn=0)(g:PH)(s:Own)(b m:Nat)(l:List (Int×Value))(hb:g b=some (.cells #[.map (some m)] 139 (0,0)))(hm:Mp g m l)(hl:l.length<1099511627776)(hw:∀ p∈l,dJ p.1) :
  Ctr Tryz.prog E 119 #[.func (.func 153) #[] #[pp b 0]] g s (fun r g' s'=>s=s'∧Le g g'∧bZ g' r (ee (l.map Prod.fst))):=by
 intro w hat;obtain ⟨es,clk,hes,hmi,hst⟩:=hm;have hesl:es.toList.length=l.length:=by have:=zd9 List.length hmi; simpa using this
 have hesz:es.size=l.length:=by simpa using hesl
 have hreads:∀ x∈es.toList,∃ y,WideElems.rd (H:=Unit) Tryz.prog 3 (fun _=>some (.lit (.bool true),[])) x=some y∧∃ p∈l,y.1 = .int .i64 p.1:=fun x hx=>by
  have h1:mE x∈es.toList.map mE:=ze9.2 ⟨x,hx,rfl⟩;rw[hmi] at h1;obtain ⟨p,hp,he⟩:=ze9.1 h1;have hk:x.key=vi p.1:=(zd9 Prod.fst he).symm;have hkey:keyOf Tryz.prog 3 x.key=some (.int .i64 p.1):=by
   rw[hk]; exact Maps.keyOf_int_mk uT3 (Co (hw p hp))
  exact⟨(.int .i64 p.1,.lit (.bool true)),by simp[WideElems.rd,hkey],p,hp,I⟩
 have hown:w.ownsMap Tryz.prog 3 (fun _=>some (.lit (.bool true),[])) m l.length (.map ((es.toList.map (WideElems.rg (H:=Unit) Tryz.prog 3 (fun _=>some (.lit (.bool true),[])))).foldr DataW.insert [])) :=
  ⟨es,clk,hat.known _ _ hes,⟨by rw[hesz]; unfold maxLen; omega,hst,fun x hx=>(hreads x hx).imp fun _ h=>h.1⟩,oM,rfl⟩
 have hkeys:(l.map Prod.fst).Perm (intKeys (.map ((es.toList.map (WideElems.rg (H:=Unit) Tryz.prog 3 (fun _=>some (.lit (.bool true),[])))).foldr DataW.insert []))):=by
  have h1:(es.toList.map (WideElems.rg (H:=Unit) Tryz.prog 3 (fun _=>some (.lit (.bool true),[])))).map (fun p=>Go.intOf p.1)=l.map Prod.fst:=by
   have h2:l.map Prod.fst=(es.toList.map mE).map (fun q=>(unV q).1):=by rw[hmi,zi3]; rfl
   rw[h2,zi3,zi3];refine zc6 fun x hx=>?_;have h3:mE x∈es.toList.map mE:=ze9.2 ⟨x,hx,rfl⟩;rw[hmi] at h3;obtain ⟨p,hp,he⟩:=ze9.1 h3;have hk:x.key=vi p.1:=(zd9 Prod.fst he).symm;have hkey:keyOf Tryz.prog 3 x.key=some (.int .i64 p.1):=by
    rw[hk]; exact Maps.keyOf_int_mk uT3 (Co (hw p hp))
   simp[WideElems.rg,WideElems.rd,hkey,hk ▸ hkey,Go.intOf,mE,unV,hk]
  rw[← h1];exact ((WideShapes.sorted_perm _).map _).symm
 have hsize:Maps.size (.map ((es.toList.map (WideElems.rg (H:=Unit) Tryz.prog 3 (fun _=>some (.lit (.bool true),[])))).foldr DataW.insert []))=l.length:=by
  have:=hkeys.length_eq;simpa [intKeys,Maps.size] using this.symm
 have hseq:=AnyZI.keys_gives (ρ:=Tryz.keysA_ren) { Tryz.keysA with } Fence.wide 2 trivial rfl oM b m l.length _ (R:=fun _=>some (.lit (.bool true),[])) w (hat.lt hb) (by simp[World.cell?,hat.known _ _ hb]) hown;have cS:=AnyZI.sorted_in Tryz.sortedA Fence.wide 5 trivial trivial trivial trivial rfl oM (Tryz.sortsA _) (enters_of func100 kR rfl) 153 #[.pointer (some ⟨b,0,none⟩)] trivial (enters_of func153 kR rfl) _ _ (by rw[hsize]; unfold maxLen; omega) (by rw[hsize]; omega) w hseq;refine ((callsIn_wide (n:=5)).1 cS).mono ?_;rintro e w' ⟨v,ss,rfl,hss,hrow,hnil,hbel⟩;have hsrt:ss.mergeSort (fun x y=>decide (x≤y))=ee (l.map Prod.fst):=mergeSort_of_perm_i (hss.trans hkeys.symm);rw[hsrt] at hrow;have hat2:At E g s w':=by
  refine⟨hbel.os.trans hat.os,⟨hbel.tape.trans hat.tape.1,by rw[hE]; exact zf4 _⟩,hbel.output.trans hat.output,fun k o hk=>?_,fun x hx=>?_,fun x hx k hk=>⟨(hat.fresh x hx k hk).1,Nat.lt_of_lt_of_le (hat.fresh x hx k hk).2 hbel.size⟩,hat.apart⟩
  ·rw[hbel.block k (hat.lt hk)]; exact hat.known k o hk
  ·have h1:=hat.own x hx;cases hbk:x.blk with
   | none=>simpa [hbk] using h1
   | some k =>
    simp only[hbk,Option.bind_some] at h1 ⊢;rw[hbel.block k (hat.fresh x hx k hbk).2];exact h1
 rcases hrow.2 with ⟨rfl,h0⟩ | ⟨gb,cap,cur,rfl,hbase,hgb,r1,r2,r3,r4⟩
 ·have hss0:ss=[]:=zf2 h0;have hl0:l.map Prod.fst=[]:=by
   have:=(hss.trans hkeys.symm).length_eq;rw[hss0] at this;exact zf2 (by simpa using this.symm)
  refine⟨_,g,s,I,hat2,I,zb7 g,?_⟩;rw[hl0];have:ee []=[]:=by simp[ee]
  rw[this];exact zb8 g 1
 ·have hfresh:g gb=none:=by
   cases h:g gb with
   | none=>rfl
   | some o=>have:=hat.lt h; omega
  refine⟨_,upd g gb (.cells cur 3 (0,0)),s,I,⟨hat2.os,hat2.tape,hat2.output,fun k o hk=>?_,hat2.own,fun x hx k hk=>⟨?_,(hat2.fresh x hx k hk).2⟩,hat2.apart⟩,I,Cx hfresh,?_⟩
  ·unfold upd at hk;split at hk
   ·rename_i e1; subst e1; injection hk with hk; subst hk; exact hgb
   ·exact hat2.known k o hk
  ·have h1:=hat.fresh x hx k hk;have hne:k≠gb:=oM;simp only[upd,hne,if_false];exact h1.1
  ·have hlen:(ee (l.map Prod.fst)).length=ss.length:=by rw[ff]; exact (hss.trans hkeys.symm).length_eq.symm
   refine⟨some ⟨gb,0,none⟩,cap,by rw[hlen],⟨by rw[encInt.length],oM⟩,fun _=>⟨gb,0,cur,_,(0,0),I,fl _ _ _,fun j x hj=>?_⟩⟩;rw[nz] at hj;have hj2:(cur.toList.take (ss.length * 1))[j]?=some x:=by rw[r4]; exact hj
   rw[zh8] at hj2;split at hj2
   ·simpa using hj2
   ·cases hj2
theorem pw (tl:List Cl):∀ (n:Nat) (id:Int) (vis:List Int) (x:Int),x∈cq tl n id vis→x∈vis∨∃ c∈tl,c.id=x
 | 0,_,_,_,h=>.inl h
 | n+1,id,vis,x,h=>by
  unfold cq at h;split at h
  ·exact .inl h
  ·rename_i c hc;split at h
   ·exact .inl h
   ·have key:∀ (l:List aj) (v:List Int),x∈l.foldl (fun v y=>cq tl n y.cell v) v→x∈v∨∃ c∈tl,c.id=x:=by
     intro l;induction l with
     | nil=>intro v hv; exact .inl hv
     | cons y r ih =>
      intro v hv
      rcases ih _ hv with h1 | h1
      ·exact pw tl n y.cell v x h1
      ·exact .inr h1
    rcases key _ _ h with h1 | h1
    ·rcases zf1.1 h1 with h2 | h2
     ·exact .inl h2
     ·simp at h2;obtain ⟨h3,h4⟩:=cV hc;exact .inr ⟨c,h3,by rw[h4,h2]⟩
    ·exact .inr h1
theorem mr (tl:List Cl):∀ (n:Nat) (id:Int) (vis:List Int),vis.Nodup→(cq tl n id vis).Nodup
 | 0,_,_,h=>h
 | n+1,id,vis,h=>by
  unfold cq;split
  ·exact h
  ·split
   ·exact h
   ·rename_i hc;have key:∀ (l:List aj) (v:List Int),v.Nodup→(l.foldl (fun v y=>cq tl n y.cell v) v).Nodup:=by
     intro l;induction l with
     | nil=>intro v hv; exact hv
     | cons y r ih=>intro v hv; exact ih _ (mr tl n y.cell v hv)
    refine key _ _ (List.nodup_append.2 ⟨h,by simp,fun a ha b hb=>?_⟩);simp at hb hc;rw[hb];exact fun e=>hc (e ▸ ha)
theorem nH {tl:List Cl}{ids:List Int}{x:Int}(h:x∈cQ tl ids):∃ c∈tl,c.id=x:=by
 have key:∀ (l:List Int) (v:List Int),x∈l.foldl (fun v id=>cq tl (tl.length+1) id v) v→x∈v∨∃ c∈tl,c.id=x:=by
  intro l;induction l with
  | nil=>intro v hv; exact .inl hv
  | cons y r ih =>
   intro v hv
   rcases ih _ hv with h1 | h1
   ·exact pw tl _ y v x h1
   ·exact .inr h1
 exact (key _ _ h).resolve_left (by simp)
theorem ot (tl:List Cl)(ids:List Int):(cQ tl ids).Nodup:=by
 have key:∀ (l:List Int) (v:List Int),v.Nodup→(l.foldl (fun v id=>cq tl (tl.length+1) id v) v).Nodup:=by
  intro l;induction l with
  | nil=>intro v hv; exact hv
  | cons y r ih=>intro v hv; exact ih _ (mr tl _ y v hv)
 exact key _ _ (by simp)
theorem qC {α:Type}[DecidableEq α]:∀ {l m:List α},l.Nodup→(∀ x∈l,x∈m)→l.length≤m.length
 | [],_,_,_=>zf4 _
 | x::l,m,hn,hs=>by
  obtain ⟨h1,h2⟩:=zj6.1 hn;have hx:x∈m:=hs x (by simp);have h3:=qC (m:=m.erase x) h2 (fun y hy=>by
   have hne:y≠x:=fun e=>h1 (e ▸ hy);exact (List.mem_erase_of_ne hne).2 (hs y (by simp[hy])))
  have h4:=List.length_erase_of_mem hx;have h5:=List.length_pos_of_mem hx;simp only[ze6];omega
theorem tP (tl:List Cl)(ids:List Int):(cQ tl ids).length≤tl.length:=by
 have:=qC (ot tl ids) (m:=tl.map Cl.id) (fun x hx=>by obtain ⟨c,hc,e⟩:=nH hx; exact ze9.2 ⟨c,hc,e⟩);simpa using this
theorem CW {l:List Cl}{c:Cl}(h:c∈ae l):∃ d∈l,d.id=c.id:=by
 have h1:=mL h;unfold aa at h1;obtain ⟨d,hd,rfl⟩:=ze9.1 h1;exact⟨d,(dp l d).1 hd,I⟩
def eR (l:List Cl)(ids:List Int):List Int:=ee (cQ (ae l) ids)
theorem xP (E:World)(hE:E.drawn=0)(g:PH)(s:Own)(v iv:Value)(l:List Cl)(ids:List Int)(hv:ao g v l)(hf:cU l)(hi:bZ g iv ids)(hl:ids.length<1099511627776)(hw:∀ c∈l,dJ c.id) :
  Ctr Tryz.prog E 78 #[.agg #[v],iv] g s (fun r g' s'=>s=s'∧Le g g'∧bZ g' r (eR l ids)):=by
 have hft:=eY hf;have hcl:=tP (ae l) ids;have hfl:=hft.1;refine za9 (args:=[.agg #[v],iv]) func78 I ntmps78 (bE I) ?_;refine rZ (bW (bO I) fun b2=>?_);refine aT I (rZ (lK (qV 0 aY ar I I I) (lW (cL call34 I (ug E g _ v l hv hf)) ?_)));rintro tv g1 _ ⟨rfl,hle,ht⟩;refine lM I (lW (cL call121 I (tO E g1 _ _ _ (ae l) ids ht hft (hi.mono hle) hl)) ?_);rintro _ g2 _ ⟨m,rfl,hle2,rfl⟩;refine SL.freezeMap fun g3 hle3 hm=>?_;refine lW (cL call120 I (Ag E g3 _ m)) ?_;rintro _ g4 _ ⟨rfl,hle4,b,rfl,hb⟩;refine lW (cL call119 I (uE E hE g4 _ b m (lI (cQ (ae l) ids)) hb (hm.mono hle4) (by simp only[lI,ze4]; omega) (fun p hp=>by obtain ⟨x,hx,rfl⟩:=ze9.1 hp; obtain ⟨c,hc,rfl⟩:=nH hx; obtain ⟨d,hd,e⟩:=CW hc; rw[← e]; exact hw d hd))) ?_;rintro r g5 _ ⟨rfl,hle5,hr⟩;refine aT I (rE (dR (s':=s) uR ?_));exact za6 (.inl I) results78 I ⟨I,hle.trans (hle2.trans (hle3.trans (hle4.trans hle5))),by unfold eR; simpa [lI,Function.comp_def] using hr⟩
open Go Go.Sy Go.Pl Go.Proofs
theorem DZ {g:PH}:∀ {ls:List (List Int)} {rs:List Sv},au (be g) ls rs→(∀ x∈ls,x.length<1099511627776)→∃ L:List (LV g),L.map LV.l=ls∧L.map LV.sv=rs
 | [],[],_,_=>⟨[],rfl,rfl⟩
 | x::ls,r::rs,h,hl=>by
  obtain ⟨L,h1,h2⟩:=DZ h.2 (fun y hy=>hl y (by simp[hy]));exact⟨⟨r,x,h.1,hl x (by simp)⟩::L,by simp[h1],by simp[h2]⟩
 | [],_::_,h,_=>h.elim
 | _::_,[],h,_=>h.elim
theorem Cw {g:PH}:∀ (L:List (LV g)),au (be g) (L.map LV.l) (L.map LV.sv)
 | []=>trivial
 | x::L=>⟨x.h,Cw L⟩
theorem y3 {g:PH}:∀ (L:List (LV g)),L.flatMap (jX g).enc=(L.map LV.sv).flatMap aA.enc
 | []=>rfl
 | x::L=>by simp only[zh3,zg2,y3 L]; rfl
theorem Cv {g:PH}(T:TypeId)(v:Value)(L:List (LV g)):rowA (jX g) T v L=rowA aA T v (L.map LV.sv):=by
 simp only[rowA,y3,ze4]
def eqL (a b:List Int):Bool:=decide (a=b)
theorem lm {α β:Type}(f:α→β)(eq:α→α→Bool)(eq':β→β→Bool)(h:∀ a b,eq a b=eq' (f a) (f b)):∀ (x:α) (l:List α),(ba eq x l).map f=ba eq' (f x) (l.map f)
 | _,[]=>rfl
 | x,y::r=>by
  simp only[ba,zg2,h];split
  ·exact lm f eq eq' h y r
  ·rw[zg2,lm f eq eq' h y r]
theorem A6 {α β:Type}(f:α→β)(eq:α→α→Bool)(eq':β→β→Bool)(h:∀ a b,eq a b=eq' (f a) (f b))(l:List α):(gB eq l).map f=gB eq' (l.map f):=by
 cases l with
 | nil=>rfl
 | cons x r=>simp only[gB,zg2,lm f eq eq' h]
theorem ll {α:Type}(eq:α→α→Bool):∀ (x:α) (l:List α),(ba eq x l).Sublist l
 | _,[]=>.slnil
 | x,y::r=>by
  simp only[ba];split
  ·exact (ll eq y r).cons y
  ·exact (ll eq y r).cons_cons y
theorem qu {α:Type}(eq:α→α→Bool)(l:List α):(gB eq l).Sublist l:=by
 cases l with
 | nil=>exact .slnil
 | cons x r=>exact (ll eq x r).cons_cons x
def cg (s:List Int):List Int:=gB (fun a b:Int=>decide (a=b)) (ee s)
def iH:List Int→Bool
 | []=>true
 | a::r=>decide (a<0)||decide (((a::r).length:Int)>9)
def dY (all:List (List Int))(t:List Int):List (List Int):=gB eqL (ni (all++bD t))
def aM:List (List Int)→List (List Int)→Option (List (List Int))
 | all,[]=>some all
 | all,s::r=>if iH (cg s) then aM all r else if ((dY all (cg s)).length:Int)>4000 then none else aM (dY all (cg s)) r
def eU (all:List (List Int))(s:List Int)(k:Nat):List aj:=if 0<(s.eraseIdx k).length then [⟨lbL all (s.eraseIdx k)+1,cI k⟩] else []
def a6 (all:List (List Int))(s:List Int)(j:Nat):List aj:=(List.range j).flatMap (eU all s)
def mO (all:List (List Int))(p:List Int×Nat):Cl:=⟨p.2+1,(p.1.length:Int) - 1,a6 all p.1 p.1.length⟩
def a8 (all:List (List Int)):List Cl:=all.zipIdx.map (mO all)
def bT (l:List (List Int)):List Cl:=match aM [] l with
 | none=>[]
 | some all=>aa (a8 all)
theorem oG (t:List Int)(h:t.length≤9):(bD t).length≤511:=by
 have:=ym t.length h;simp[bD];omega
theorem gw {t:List Int}(h:t.length≤9):∀ x∈bD t,x.length≤9:=fun x hx=>by
 obtain ⟨i,_,rfl⟩:=ze9.1 hx;exact zk3 (fh _ _) h
theorem tj {t:List Int}(h:t≠[]):0<(bD t).length:=by
 have h1:0<t.length:=List.length_pos_iff.2 h;have h2:2 ^ 1≤2 ^ t.length:=Nat.pow_le_pow_right dC h1;simp[bD];omega
theorem j8 {all:List (List Int)}{t x:List Int}(h:x∈dY all t):x∈all∨x∈bD t:=by
 have h1:=(qu eqL _).subset h;have h2:=(gD _).subset h1;exact zf1.1 h2
theorem vF (all:List (List Int))(t:List Int):qY (dY all t):=(iU _).sublist (qu eqL _)
theorem vS {all:List (List Int)}(h:qY all)(t:List Int):∀ i j (hi:i<all.length) (hj:j<all.length),i<j→ai all[j] t<0→ai all[i] t<0:=fun i j hi hj hij hlt=>by
 have h1:=zc7.1 h i j hi hj hij
 rcases dy all[i] all[j] with h2 | h2 | h2
 ·exact ei _ _ _ h2 hlt
 ·rw[h2]; exact hlt
 ·exact absurd h2 h1
theorem e9 (all:List (List Int))(s:List Int)(j:Nat):a6 all s (j+1)=a6 all s j++eU all s j:=by
 simp[a6,List.range_succ]
theorem er (all:List (List Int))(s:List Int)(j:Nat):(a6 all s j).length≤j:=by
 induction j with
 | zero=>simp[a6]
 | succ j ih =>
  rw[e9,ze3];have:(eU all s j).length≤1:=by unfold eU; split <;> simp
  omega
theorem bC (all:List (List Int)):(a8 all).length=all.length:=by simp[a8]
theorem ir {all:List (List Int)}{k:Nat}(h:k<all.length):(a8 all)[k]?=some (mO all (all[k],k)):=by
 simp[a8,h]
theorem jF {all:List (List Int)}(h:all.length≤4000)(hs:∀ x∈all,x.length≤9):cU (a8 all):=by
 refine⟨by rw[bC]; omega,fun c hc=>?_⟩;obtain ⟨p,hp,rfl⟩:=ze9.1 hc;have h1:p.1∈all:=by
  have:=List.mem_map_of_mem (f:=Prod.fst) hp;simpa using this
 have h2:=hs _ h1;have h3:=er all p.1 p.1.length;show (a6 all p.1 p.1.length).length<_;omega
theorem yq (ls:List (List Int))(t:List Int):lbL ls t≤ls.length:=zc3 _ _
def eL (v:Value):Sv:=match v with
 | .slice p n c=>⟨p,n,c⟩
 | _=>⟨none,0,0⟩
theorem oH (E:World)(g:PH)(s:Own)(v:Value)(ls:List (List Int))(hv:aH g v ls)(hn:ls.length<1099511627776)(hl:∀ x∈ls,x.length<17592186044416) :
  Ctr Tryz.prog E 50 #[v] g s (fun r g' s'=>s=s'∧Le g g'∧∃ u,r = .agg #[u]∧ao g' u (bT ls)):=by
 obtain ⟨rs0,hrs0,hall0⟩:=hv;have hlen0:=hall0.length;obtain ⟨p,c,rfl⟩:=za2 hrs0;refine za9 (args:=[.slice p rs0.length c]) func50 I ntmps50 (bE I) ?_;refine rZ (bW (aL zk8) fun b2=>?_);refine tZ (rZ (aT I (sQ (sW I (lU (eN br I) (lM I (tZ (bK (zb4 25 1 ?_)))))))));refine oP (ι:=PH×Value×List Sv×List (List Int)×Nat) (fun i=>[(0,.slice p rs0.length c),(2,pp b2 0),(3,i.2.1),(14,.slice p rs0.length c),(15,vi rs0.length),(16,vi i.2.2.2.2)]) (fun i=>i.1)
  (fun i=>rowA aA 25 i.2.1 i.2.2.1::pt b2 (.cells #[.slice none 0 0] 31 (0,0))::s)
  (fun i=>Le g i.1∧i.2.2.2.2≤rs0.length∧au (be i.1) i.2.2.2.1 i.2.2.1∧(i.2.2.2.1.length≤4000∧∀ x∈i.2.2.2.1,x.length≤9)∧qY i.2.2.2.1∧aM [] ls=aM i.2.2.2.1 (ls.drop i.2.2.2.2)) (fun i=>rs0.length - i.2.2.2.2)
  (g,.slice none 0 0,[],[],0) sB rfl rfl ⟨zb7 g,zf4 _,trivial,⟨zf4 _,by simp⟩,List.Pairwise.nil,rfl⟩ ?_
 rintro ⟨g1,av,rs,all,k⟩ ⟨hle,hk,hall,⟨hal,has⟩,hsrt,hsa⟩;dsimp only at hle hk hall hal has hsrt hsa ⊢;have hrl:=hall.length;refine rZ (yL I (tZ (sQ ?_)));refine iP I (fun hlt=>?_) (fun hlt=>?_)
 ·have hkl:k<ls.length:=oM;have hkr:k<rs0.length:=oM;have hR:=(hall0.get (gE hkl) (gE hkr)).mono hle;have hxl:=hl _ (gM hkl);have hb1:=hrs0.based oM;have hdrop:ls.drop k=ls[k]::ls.drop (k+1):=zg4 hkl;rw[hdrop] at hsa;generalize hx:ls[k]=x at *;generalize hr:rs0[k]=r at *;have hgr:rs0[((k:Nat):Int).toNat]?=some r:=by rw[← hr]; exact gE hkr
  have hsl:=ff x;have hul:=ie (fun a b:Int=>decide (a=b)) (ee x);refine kP (tN (sQ (bK (rZ (lU (iA br bP I I hb1 oM sL) (lK (eB dG I (hrs0.mono hle).rd hgr I) (aT I (sW I (lW (cL call99 I (yt E g1 _ _ x hR hxl)) ?_)))))))));rintro v21 _ _ ⟨rfl,rfl⟩;refine aT I (sW I (lW (cL call100 I (rj E g1 _ v21 x 0 I hxl)) ?_));rintro _ _ _ ⟨rfl,rfl⟩;refine tZ (sW I (lW (cL call101 I (BZ E g1 _ v21 (ee x) oM)) ?_));rintro v25 _ _ ⟨rfl,rfl⟩;refine aT I (sQ (fS fun g2 hle2 hs2=>?_));have hset:bZ g2 v25 (cg x):=hs2;have hsetl:(cg x).length<17592186044416:=by unfold cg; omega
  obtain ⟨q2,d2,rfl⟩:=za2 hset;have hcase:cg x=[]∨∃ a t,cg x=a::t:=by cases cg x with
   | nil=>exact .inl rfl
   | cons a t=>exact .inr ⟨a,t,rfl⟩
  have hall2:=hall.mono fun _ _=>be.mono hle2;clear hs2;generalize hT:cg x=T at *
  rcases hcase with hT0 | ⟨a,t,hTa⟩
  ·subst hT0;have hbad:iH (cg x)=true:=by rw[hT]; rfl
   refine sW I (lU (eN ak I) (lU (SU.eq (v':=vb true) (eQ I I) (zd9 vb (zf6 (by simp)))) ?_));refine lM I (yA I (yA I (yA I (yA I (yP I (lM I (yA I (yA I (yA I (yP I (tZ (cT I (xI (tX (bX (tN (rG (yD I (lM I (nL ?_))))))))))))))))))));refine gA (g2,av,rs,all,k+1) sB I I ⟨hle.trans hle2,lN,hall2,⟨hal,has⟩,hsrt,?_⟩ lN;rw[hsa,aM,zf8 hbad]
  ·have hTl:T.length=t.length+1:=by rw[hTa]; rfl
   have hbT:=za4 hset oM;have hga:T[((0:Nat):Int).toNat]?=some a:=by rw[hTa]; rfl
   have hbe:iH (cg x)=(decide (a<0)||decide ((T.length:Int)>9)):=by rw[hT,hTa]; rfl
   have hbe1:a<0→(decide (a<0)||decide ((T.length:Int)>9))=true:=fun h=>by simp[h]
   have hbe2:¬ a<0→(decide (a<0)||decide ((T.length:Int)>9))=decide ((T.length:Int)>9):=fun h=>by simp[h]
   refine SC.sub (f':=[(0,.slice p rs0.length c),(2,pp b2 0),(3,av),(5,.slice q2 T.length d2),(14,.slice p rs0.length c),(15,vi rs0.length),(16,vi k)]) sB ?_;refine SC.cutB 39 ((decide (a<0)||decide ((T.length:Int)>9))) ?_ ?_
   ·refine rG (lM I (lU (eN ak I) (lU (SU.eq (v':=vb false) (eQ I I) (zd9 vb (zf5 oM))) (lM I (yC I (lY I I I (iA ak zT3 I I hbT dC sL) (SL.gq (gT I I I dC) (eB iT3 I (za5 hset) hga I) dC (lY I I I (lS I I) (yF I (lM I ?_))))))))));refine sP ?_ ?_
    ·intro h35;refine yA I (yA I (yA I (yP I (nL ?_))));exact za8 (by (rw[hbe1 h35]; rfl)) mI
    ·intro h35;refine yC I (lY I I I (eN ak I) (lY I I I (gR I I) (yF I (nL ?_))));exact za8 (by (rw[hbe2 h35]; rfl)) mI
   refine iQ I (fun hbad=>?_) (fun hbad=>?_)
   ·refine xI (tX (bX (tN (rG (yD I (lM I (nL ?_)))))));refine gA (g2,av,rs,all,k+1) sB I I ⟨hle.trans hle2,lN,hall2,⟨hal,has⟩,hsrt,?_⟩ lN;rw[hsa,aM,zf8 (hbe.trans hbad)]
   ·have hb9:T.length≤9:=by simp at hbad; omega
    have hsub1:=oG T hb9;have hsub2:=gw hb9;have hsub3:=tj (t:=T) (by rw[hTa]; simp);have hnb:¬ iH (cg x)=true:=by rw[hbe,hbad]; simp
    refine kP (tN (sW I (lM I (lW (cL call102 I (th E g2 _ _ T hset hb9)) ?_))));rintro v42 g3 _ ⟨rfl,hle3,hsub⟩;obtain ⟨rs2,hrs2,hall3⟩:=hsub;have hrl2:=hall3.length;refine lW (aQ (e:=aA) 0 sty22 I I I hrs2 oM oM) ?_;rintro v43 _ _ ⟨rfl,rfl⟩;have hall4:=(hall2.mono fun _ _=>be.mono hle3).append hall3;obtain ⟨L,hL1,hL2⟩:=DZ hall4 (fun y hy=>(zf1.1 hy).elim (fun h=>Nat.lt_of_le_of_lt (has y h) dC) (fun h=>Nat.lt_of_le_of_lt (hsub2 y h) dC));have hLl:L.length=all.length+(bD T).length:=(by have:=zd9 List.length hL1; simpa using this);rw[← hL2,← Cv];refine aT I (sW I (lW (cL call103 I (uH E g3 _ _ L oM oM)) ?_));rintro _ _ _ ⟨rfl,L2,hp2,hs2,rfl⟩;have hL2l:=hp2.length_eq;have hcall:∀ (x y:LV g3) s',dn Tryz.prog E (.func (.func 56) #[] #[]) [x.val,y.val] g3 s' (fun r g' s''=>r=vb (decide (x.l=y.l))∧g3=g'∧s'=s''):=fun x y s'=>dn.mk (args:=[x.val,y.val]) (cap:=[]) call56 (sD E g3 s' _ _ x.l y.l x.h y.h x.len);refine tZ (sW I (lW (cL call105 I (BX (jX g3) LV.val (fun _=>I) (fun _=>I) E g3 _ _ 56 (fun x y=>decide (x.l=y.l)) L2 oM hcall)) ?_));rintro v47 _ _ ⟨rfl,rfl⟩;refine zd1 fun ⟨w0,hw0⟩=>?_;obtain ⟨q,d,rfl⟩:=ag (i:=0) hw0 rfl;clear hw0 w0;rw[Cv];have hnew:(gB (fun x y:LV g3=>decide (x.l=y.l)) L2).map LV.l=dY all T:=(by rw[A6 LV.l (fun x y:LV g3=>decide (x.l=y.l)) eqL (fun _ _=>rfl),hs2,hL1]; rfl);have hnl:(gB (fun x y:LV g3=>decide (x.l=y.l)) L2).length=(dY all T).length:=(by rw[← hnew,ze4]);have hall5:=Cw (gB (fun x y:LV g3=>decide (x.l=y.l)) L2);rw[hnew] at hall5;generalize (gB (fun x y:LV g3=>decide (x.l=y.l)) L2).length=n47 at *;generalize (gB (fun x y:LV g3=>decide (x.l=y.l)) L2).map LV.sv=rs5 at *;refine aT I (sW I (lU (eN br I) (lU (gR I I) (tZ ?_))));refine iP I (fun hmany=>?_) (fun hmany=>?_)
    ·have hnone:aM [] ls=none:=by rw[hsa,aM,zf7 hnb,hT,zf8 oM]
     refine rZ (lU (za1 I (buildE31)) (oZ (sK 1 ar I I I I I sB) ?_));refine tZ (rE (bR (tR (tR (bR (tR ?_))))));exact ST.retCD 1 s (.inl I) results50 I aY ar I I uR ⟨I,hle.trans (hle2.trans hle3),_,I,by simp only[bT,hnone]; exact⟨[],zb8 _ _,trivial⟩⟩
    ·refine kP (bN (tN (rG (yD I (lM I (nL ?_))))));refine gA (g3,.slice q n47 d,rs5,dY all T,k+1) sB I I ⟨hle.trans (hle2.trans hle3),lN,hall5,⟨lN,fun y hy=>?_⟩,vF all T,?_⟩ lN
     ·rcases j8 hy with h | h
      ·exact has y h
      ·exact hsub2 y h
     ·rw[hsa,aM,zf7 hnb,hT,zf7 oM]
 ·have hk0:k=rs0.length:=oM;have hsome:aM [] ls=some all:=by rw[hsa,hk0,← hlen0,List.drop_length]; rfl
  have hfit:=jF hal has;refine xI (tX (tX (bX (tN (sQ (fS fun g2 hle2 hs2=>?_))))));have hav:SlA aA g2 av rs:=hs2;obtain ⟨q,d,rfl⟩:=za2 hav;have hall2:=hall.mono fun _ _=>be.mono hle2;refine rG (bW (aL zk8) fun b6=>?_);refine tZ (sQ (sW I (lU (eN br I) (lM I (tZ (bK (zb4 64 3 ?_)))))));refine oP (ι:=PH×Value×List Rc×Nat) (fun i=>[(2,pp b2 0),(3,.slice q rs.length d),(6,pp b6 0),(53,.slice q rs.length d),(54,vi rs.length),(55,vi i.2.2.2)]) (fun i=>i.1)
   (fun i=>rowA encCell 64 i.2.1 i.2.2.1::pt b6 (.cells #[i.2.1] 31 (0,0))::pt b2 (.cells #[.slice none 0 0] 31 (0,0))::s)
   (fun i=>Le g2 i.1∧i.2.2.2≤rs.length∧au (aq i.1) ((a8 all).take i.2.2.2) i.2.2.1) (fun i=>rs.length - i.2.2.2)
   (g2,.slice none 0 0,[],0) sB rfl rfl ⟨zb7 g2,zf4 _,trivial⟩ ?_
  rintro ⟨g3,ov,rcs,n⟩ ⟨hle3,hn3,hrcs⟩;dsimp only at hle3 hn3 hrcs ⊢;have hrcl:=hrcs.length;rw[ze2,bC] at hrcl;refine rZ (yL I (tZ (sQ ?_)));refine iP I (fun hlt2=>?_) (fun hlt2=>?_)
  ·have hnl:n<all.length:=oM;have hnr:n<rs.length:=oM;have hb1:=hav.based oM;have hR:=(hall2.get (gE hnl) (gE hnr)).mono hle3;have hRl:=hR.len;have hx9:=has _ (gM hnl);have hget:=ir hnl;generalize hx:all[n]=x at *;generalize hr:rs[n]=r at *;obtain ⟨rp,rn,rc⟩:=r;dsimp only at hRl;subst hRl;have hxs:bZ g3 (.slice rp x.length rc) x:=hR;have hgr:rs[((n:Nat):Int).toNat]?=some ⟨rp,x.length,rc⟩:=by rw[← hr]; exact gE hnr
   refine kP (tN (sQ (bK (sW I (lU (iA br bP I I hb1 oM sL) (lK (eB (u:=.slice rp x.length rc) dG I (hav.mono hle3).rd hgr I) (lA I (aT I (sW I (yD I (lM I (lU (eN ak I) (lU (sU I I oM) (lU (za1 I (buildC64 _ _)) (bW (aL zk9) fun b9=>?_)))))))))))))));refine oZ (sK 0 aw I I I I I sB) ?_;refine tZ (sQ (sQ (zb4 67 2 (rG (lM I (lU (eN ak I) (lM I (tZ (bK ?_)))))))));refine oP (ι:=PH×Value×Nat) (fun i=>[(2,pp b2 0),(3,.slice q rs.length d),(6,pp b6 0),(53,.slice q rs.length d),(54,vi rs.length),(55,vi n),(8,.slice rp x.length rc),(9,pp b9 0),(66,.slice rp x.length rc),(67,vi x.length),(68,vi i.2.2)]) (fun i=>i.1)
    (fun i=>rowA encSide 67 i.2.1 (a6 all x i.2.2)::pt b9 (.cells #[vi ((n:Int)+1),vi ((x.length:Int) - 1),i.2.1] 64 (0,0))::rowA encCell 64 ov rcs::pt b6 (.cells #[ov] 31 (0,0))::pt b2 (.cells #[.slice none 0 0] 31 (0,0))::s)
    (fun i=>Le g3 i.1∧i.2.2≤x.length) (fun i=>x.length - i.2.2)
    (g3,.slice none 0 0,0) sB rfl rfl ⟨zb7 g3,zf4 _⟩ ?_
   rintro ⟨g4,sv,j⟩ ⟨hle4,hj⟩;dsimp only at hle4 hj ⊢;have hssl:=er all x j;have hsucc:=e9 all x j;refine rZ (yL I (tZ (sQ ?_)));refine iP I (fun hlt3=>?_) (fun hlt3=>?_)
   ·have hjl:j<x.length:=oM;have hxs4:bZ g4 (.slice rp x.length rc) x:=hxs.mono hle4;have hcap:=(SlA.cap hxs4).2;have hc1:=SlA.cut hxs4 (l:=0) (m:=j) oM oM;have hc2:=SlA.cut hxs4 (l:=j+1) (m:=x.length) oM oM;have he1:(x.drop 0).take (j - 0)=x.take j:=by simp
    have he2:(x.drop (j+1)).take (x.length - (j+1))=x.drop (j+1):=tL (by rw[ze7]; omega);rw[he1] at hc1;rw[he2] at hc2;have her:[x.take j,x.drop (j+1)].flatten=x.eraseIdx j:=by rw[List.eraseIdx_eq_take_drop_succ]; simp
    have hel:(x.eraseIdx j).length=x.length - 1:=by rw[List.length_eraseIdx]; simp[hjl]
    have hsum:gJ [x.take j,x.drop (j+1)]<1099511627776:=by simp[gJ]; omega
    refine kP (tN (sQ (bK (sW I (aT I (sQ ?_))))));refine dW [] [(0,2),(1,2),(2,2),(3,2),(4,2),(5,2),(6,2),(7,0),(8,0),(9,2)] ze1 kR ?_;refine yM I (yM I (pU I (SU.sliceH ak zT3 I I oM oM) (yM I (yM I (pU I (aD I I oM) (pU I (SU.eq (v':=sliced rp (j+1) x.length rc 1) (SU.sliceL ak zT3 I I oM oM) (by rw[show ((j:Int)+1).toNat=j+1 by omega])) ?_))))));refine SP.o I (bS sty22 I I I (ab sB) dC) dC (.inr iR) ?_;rintro _ _ _ ⟨b78,rfl,rfl,rfl⟩;refine SP.freeze fun g5 hle5 hb78=>?_;have hlit:aH g5 (.slice (some ⟨b78,0,none⟩) 2 2) [x.take j,x.drop (j+1)]:=⟨[eL (sliced rp 0 j rc 1),eL (sliced rp (j+1) x.length rc 1)],SlA.lit hb78 rfl rfl,⟨hc1.mono hle5,hc2.mono hle5,trivial⟩⟩;refine SP.o I (cL call106 I (vq E g5 _ _ _ hlit (by simp) hsum)) dC (.inr iR) ?_;rintro v79 _ _ ⟨rfl,rfl⟩;refine pU I (aS I) (pN (tN (sQ (fS fun g6 hle6 hs6=>?_))));have hrest:bZ g6 v79 (x.eraseIdx j):=(by rw[← her]; exact hs6);obtain ⟨q6,d6,rfl⟩:=za2 hrest;clear hs6;refine rG (lM I (lU (eN ak I) (lU (gR I I) (tZ ?_))));refine iP I (fun hpos=>?_) (fun hpos=>?_)
    ·have hside:eU all x j=[⟨lbL all (x.eraseIdx j)+1,cI j⟩]:=by unfold eU; rw[zf8 oM]
     have hlb:=yq all (x.eraseIdx j);rw[hside] at hsucc;have hlist:aH g6 (.slice q rs.length d) all:=⟨rs,hav.mono (hle3.trans (hle4.trans (hle5.trans hle6))),hall2.mono fun _ _=>be.mono (hle3.trans (hle4.trans (hle5.trans hle6)))⟩;refine sW I (lM I (lW (cL call107 I (xV E g6 _ _ _ all (x.eraseIdx j) hlist hrest oM (fun y hy=>by have:=has y hy; omega) (vS hsrt _))) ?_));rintro _ _ _ ⟨⟨fb,rfl⟩,rfl,rfl⟩;refine lM I (yX I (yX I (lA I (aT I ?_))));refine dW [8,9,10] [(0,2),(1,1),(2,2),(3,2),(4,2),(5,0),(6,2),(7,0),(8,0),(9,0),(10,0)] ze1 kR ?_;refine pU I (fA am I aX I) (pK I (qL bH I (cO 1 I I)) (yM I (pU I (aD I I oM) (yM I (SP.o I (cL call108 I (zN E g6 _ j)) dC (.inr iR) ?_)))));rintro _ _ _ ⟨rfl,rfl,rfl⟩;refine pU I (za1 I (buildS67 _ _)) (SP.o I (bS sty62 I I I (ab sB) dC) dC (.inr iR) ?_);rintro _ _ _ ⟨b96,rfl,rfl,rfl⟩;refine SP.o I (aP (e:=encSide) 0 ⟨lbL all (x.eraseIdx j)+1,cI j⟩ sty62 I I I I I oM oM) dC (.inl dC) ?_;rintro v97 _ _ ⟨rfl,rfl⟩;rw[← hsucc];refine zc9 fun ⟨w0,hw0⟩=>?_;obtain ⟨q97,d97,rfl⟩:=ag (i:=0) hw0 rfl;clear hw0 w0;refine oU rfl (fA am rfl aX rfl) dC (.inl dC) (SP.on rfl (SO.store1 1 aX rfl rfl rfl rfl (bE rfl) (by rfl)) (.inl dC) ?_);rintro _ _ _ ⟨rfl,rfl⟩;refine pN (bN (tN (rG (yD I (lM I (nL ?_))))));exact gA (g6,_,j+1) sB I I ⟨hle4.trans (hle5.trans hle6),lN⟩ lN
    ·have hside:eU all x j=[]:=by unfold eU; rw[zf7 oM]
     rw[hside,zc4] at hsucc;refine kP (bN (tN (rG (yD I (lM I (nL ?_))))));refine ST.to (fun w hw=>?_) (g':=g6) (s':=rowA encSide 67 sv (a6 all x (j+1))::pt b9 (.cells #[vi ((n:Int)+1),vi ((x.length:Int) - 1),sv] 64 (0,0))::rowA encCell 64 ov rcs::pt b6 (.cells #[ov] 31 (0,0))::pt b2 (.cells #[.slice none 0 0] 31 (0,0))::s) ?_
     ·rw[hsucc]; exact hw
     exact gA (g6,sv,j+1) sB I I ⟨hle4.trans (hle5.trans hle6),lN⟩ lN
   ·have hjj:j=x.length:=oM;subst hjj;refine xI (tX (tX (bX (tN (rG (fR fun g5 hle5 hs5=>?_))))));have hsd:SlA encSide g5 sv (a6 all x x.length):=hs5;obtain ⟨q5,d5,rfl⟩:=za2 hsd;obtain ⟨nc,hnc⟩:∃ nc:Rc,nc=⟨(n:Int)+1,(x.length:Int) - 1,⟨q5,(a6 all x x.length).length,d5⟩⟩:=⟨_,rfl⟩;refine lU (fA cH I bG I) (lK (qL dg I (cO 2 I I)) (lK (qV 0 eO aw I I I) (lW (bS sty29 I I I (ab sB) dC) ?_)));rintro _ _ _ ⟨b103,rfl,rfl,rfl⟩;refine lW (aP (e:=encCell) 1 nc sty29 I I I I (by rw[hnc]; rfl) oM oM) ?_;rintro v104 _ _ ⟨rfl,rfl⟩;refine zd1 fun ⟨w0,hw0⟩=>?_;obtain ⟨q104,d104,rfl⟩:=ag (i:=1) hw0 rfl;clear hw0 w0;refine lU (fA cH I bG I) (oZ (sK 2 bG I I I I I sB) ?_);refine nL (bN (tN (rG (yD I (lM I (nL (dR (s':=rowA encCell 64 (.slice q104 (rcs++[nc]).length d104) (rcs++[nc])::pt b6 (.cells #[.slice q104 (rcs++[nc]).length d104] 31 (0,0))::pt b2 (.cells #[.slice none 0 0] 31 (0,0))::s) (.cons _ (.refl _)) ?_)))))));refine gA (g5,_,rcs++[nc],n+1) sB I I ⟨hle3.trans (hle4.trans hle5),lN,?_⟩ lN;dsimp only;rw[fe hget];exact (hrcs.mono fun _ _=>aq.mono (hle4.trans hle5)).append ⟨(by rw[hnc]; exact⟨I,I,hsd⟩),trivial⟩
  ·have hnn:n=rs.length:=oM;have htk:(a8 all).take n=a8 all:=tL (by rw[bC]; omega);rw[htk] at hrcs;refine xI (tX (tX (bX (tN (sQ (fS fun g4 hle4 hs4=>?_))))));have hov:ao g4 ov (a8 all):=⟨rcs,hs4,hrcs.mono fun _ _=>aq.mono hle4⟩;refine rG (lK (qV 0 aY ar I I I) (lW (cL call35 I (jw E g4 _ ov (a8 all) hov hfit)) ?_));rintro _ g5 _ ⟨rfl,hle5,u,rfl,hu⟩;obtain ⟨q9,d9,rfl⟩:=hu.form;refine oZ (sK 1 ar I I I I I sB) ?_;refine tZ (rE ?_);exact ST.retCD 1 s (.inl I) results50 I aY ar I I uR ⟨I,hle.trans (hle2.trans (hle3.trans (hle4.trans hle5))),_,I,by simp only[bT,hsome]; exact hu⟩
def oO (c:Cl)(r:Rc):Prop:=r.id=c.id∧r.dim=c.dim∧r.sv.n=c.sides.length
def ye (c:Cl)(r:Rc):Ent:=rowA encSide 67 (.slice r.sv.p r.sv.n r.sv.c) c.sides
def jB:List Cl→List Rc→Own
 | c::l,r::rs=>ye c r::jB l rs
 | _,_=>[]
theorem ob:∀ {l:List Cl} {rs:List Rc} (c:Cl) (r:Rc),l.length=rs.length→jB (l++[c]) (rs++[r])=jB l rs++[ye c r]
 | [],[],_,_,_=>rfl
 | x::l,y::rs,c,r,h=>by
  simp only[List.cons_append,jB];rw[ob c r (by simpa using h)]
 | [],_::_,_,_,h=>by simp at h
 | _::_,[],_,_,h=>by simp at h
theorem ui {E:World}{s:Own}{w:World}:∀ {l:List Cl} {rs:List Rc} {g:PH},au oO l rs→At E g (jB l rs++s) w→∃ g',Le g g'∧At E g' s w∧au (aq g') l rs
 | [],[],g,_,h=>⟨g,zb7 g,h,trivial⟩
 | c::l,r::rs,g,h1,h=>by
  obtain ⟨g1,hl1,ha1,hs1⟩:=At.freezeRow h;obtain ⟨g2,hl2,ha2,hs2⟩:=ui h1.2 ha1;exact⟨g2,hl1.trans hl2,ha2,⟨h1.1.1,h1.1.2.1,za3 hs1 hl2⟩,hs2⟩
 | [],_::_,_,h1,_=>h1.elim
 | _::_,[],_,h1,_=>h1.elim
theorem BW (E:World)(g:PH)(s:Own)(v:Value)(l:List Cl)(hv:ao g v l)(hf:cU l) :
  Ctr Tryz.prog E 26 #[.agg #[v]] g s (fun r g' s'=>g=g'∧∃ u rs,r = .agg #[u]∧au oO l rs∧s'=rowA encCell 64 u rs::(jB l rs++s)):=by
 obtain ⟨rs,hrs,hall⟩:=hv;have hlen:=hall.length;have hfl:=hf.1;obtain ⟨p,c,rfl⟩:=hrs.form;refine za9 (args:=[.agg #[.slice p rs.length c]]) func26 I ntmps26 (bE I) ?_;refine rZ (bW (bO I) fun b1=>?_);refine bW (aL zk8) fun b2=>?_;refine tZ (rZ (bW (aL zk8) fun b3=>?_));refine tZ (sQ (rZ (aT I (bK (zb4 64 3 ?_)))));refine oP (ι:=Nat×Value×List Rc) (fun i=>[(1,pp b1 0),(2,pp b2 0),(3,pp b3 0),(4,vi i.1)]) (fun _=>g)
  (fun i=>rowA encCell 64 i.2.1 i.2.2::pt b3 (.cells #[i.2.1] 31 (0,0))::pt b2 (.cells #[.slice none 0 0] 31 (0,0))::pt b1 (.cells #[.slice p rs.length c] 31 (0,0))::(jB (l.take i.1) i.2.2++s))
  (fun i=>i.1≤rs.length∧au oO (l.take i.1) i.2.2) (fun i=>rs.length - i.1) (0,.slice none 0 0,[])
  sB rfl rfl ⟨zf4 _,by simp[au]⟩ ?_
 rintro ⟨k,ov,acc⟩ ⟨hk,hacc⟩;dsimp only at hk hacc ⊢;have hal:=hacc.length;refine sQ (sW I (lU (fA cH I bG I) (lK (qL dg I (cO 3 I I)) (lU (eN az I) (yL I (tZ ?_))))));refine iP I (fun hlt=>?_) (fun hlt=>?_)
 ·have hkr:k<rs.length:=oM;have hkl:k<l.length:=oM;have hb1:=hrs.based oM;have hcr:=hall.get (gE hkl) (gE hkr);have hgx:rs[((k:Nat):Int).toNat]?=some rs[k]:=gE hkr;have htk:l.take (k+1)=l.take k++[l[k]]:=tS hkl;have hxl:=hf.2 _ (gM hkl);have hal2:(l.take k).length≤k:=by simp; omega
  generalize rs[k]=x at *;generalize l[k]=cx at *;obtain ⟨xi,xd,xp,xn,xc⟩:=x;have hxsl:SlA encSide g (.slice xp xn xc) cx.sides:=hcr.2.2;have hxn:xn=cx.sides.length:=zb9 hxsl;subst hxn;refine kP (tN (sQ (bK (rZ (lU (fA cH I bG I) (lK (qL dg I (cO 3 I I)) (lM I (lU (iA az aw I I hb1 oM (show (k:Int)<((rs.length:Nat):Int) by omega)) ?_))))))));refine lK (eA eO aw I hrs.rd hgx) (bW (aL zk9) fun b5=>?_);refine oZ (sK 0 aw I I I I I sB) ?_;refine tZ (rZ (lW (bS sty62 I I I (ab trivial) dC) ?_));rintro _ _ _ ⟨b18,rfl,rfl,rfl⟩;refine SL.emptyRow 67 2 (some ⟨b18,0,none⟩) (lU (fA am I aX I) (lK (qL bH I (cO 2 I I)) (lW (SO.appendE (m:=cx.sides.length) 0 cx.sides.length (cx.sides.flatMap encSide.enc) sty62 I I I I I (Sl.rd hxsl) (encSide.length cx.sides) (encSide.ones cx.sides) oM (by simp) oM oM) ?_)));rintro r21 _ _ ⟨rfl,rfl⟩;refine zd1 fun ⟨w0,hw0⟩=>?_;obtain ⟨q2,d2,rfl⟩:=ag (e:=encSide) (l:=cx.sides) (i:=0) hw0 rfl;clear hw0 w0;obtain ⟨nc,hnc⟩:∃ nc:Rc,nc=⟨xi,xd,q2,cx.sides.length,d2⟩:=⟨_,rfl⟩;refine lU (fA am rfl aX rfl) (oZ (SO.store1 2 aX rfl rfl rfl rfl (bE rfl) (by rfl)) ?_);refine tZ (rG (lU (fA cH I bG I) (lK (qL dg I (cO 4 I I)) (lK (qV 2 eO aw I I I) (lW (bS sty29 I I I (ab sB) dC) ?_)))));rintro _ _ _ ⟨b26,rfl,rfl,rfl⟩;refine lW (aP (e:=encCell) 3 nc sty29 I I I I (by rw[hnc]; rfl) lN lN) ?_;rintro ov' _ _ ⟨rfl,rfl⟩;refine zd1 fun ⟨w0,hw0⟩=>?_;obtain ⟨q',d',rfl⟩:=ag (e:=encCell) (l:=acc++[nc]) (i:=3) hw0 rfl;clear hw0 w0;refine lU (fA cH I bG I) (oZ (sK 4 bG I I I I I sB) ?_);refine nL (bN (tN (rG (lM I (yD I (lA I (nL ?_)))))));refine ST.to (fun w hw=>?_) (g':=g) (s':=rowA encCell 64 (.slice q' (acc++[nc]).length d') (acc++[nc])::pt b3 (.cells #[.slice q' (acc++[nc]).length d'] 31 (0,0))::pt b2 (.cells #[.slice none 0 0] 31 (0,0))::pt b1 (.cells #[.slice p rs.length c] 31 (0,0))::(jB (l.take (k+1)) (acc++[nc])++s)) ?_
  ·rw[htk,ob cx nc hal];have h1:=(hw.sublist (s':=ye cx nc::(rowA encCell 64 (.slice q' (acc++[nc]).length d') (acc++[nc])::pt b3 (.cells #[.slice q' (acc++[nc]).length d'] 31 (0,0))::pt b2 (.cells #[.slice none 0 0] 31 (0,0))::pt b1 (.cells #[.slice p rs.length c] 31 (0,0))::jB (l.take k) acc)++s) (by rw[hnc]; exact .cons_cons _ (.cons _ (.cons _ (.refl _)))));have h2:=h1.perm List.perm_middle.symm;simpa using h2
  exact gA (k+1,_,acc++[nc]) sB I I ⟨lN,by
   dsimp only;rw[htk];exact hacc.append ⟨(by rw[hnc]; exact⟨hcr.1,hcr.2.1,I⟩),trivial⟩⟩ lN
 ·have hkk:l.take k=l:=tL oM;rw[hkk] at hacc ⊢;refine xI (tX (tX (bX (tN (sQ ?_)))));refine zd2 fun ⟨w0,hw0⟩=>?_;obtain ⟨q2,d2,rfl⟩:=ag (i:=0) hw0 rfl;clear hw0 w0;refine rG (lK (qV 1 aY ar I I I) (oZ (sK 2 ar I I I I I sB) ?_));refine tZ (rE ?_);exact ST.retCD 2 _ (.inl I) results26 I aY ar I I (.cons_cons _ (.cons _ (.cons _ (.cons _ (.refl _))))) ⟨I,_,acc,I,hacc,I⟩
theorem pG:∀ {A:List Cl} {RA:List Rc} (x:Cl) (rx:Rc) (B:List Cl) (RB:List Rc),A.length=RA.length→jB (A++x::B) (RA++rx::RB)=jB A RA++ye x rx::jB B RB
 | [],[],_,_,_,_,_=>rfl
 | a::A,r::RA,x,rx,B,RB,h=>by simp only[List.cons_append,jB]; rw[pG x rx B RB (by simpa using h)]
 | [],_::_,_,_,_,_,h=>by simp at h
 | _::_,[],_,_,_,_,h=>by simp at h
theorem freezeBut {E:World}{s:Own}{w:World}{g:PH}{R:Ent}{A B:List Cl}{RA RB:List Rc}{x:Cl}{rx:Rc}(h1:au oO A RA)(h2:au oO B RB)(h:At E g (R::(jB (A++x::B) (RA++rx::RB)++s)) w) :
  ∃ g',Le g g'∧At E g' (R::ye x rx::s) w∧au (aq g') A RA∧au (aq g') B RB:=by
 rw[pG x rx B RB h1.length] at h;have hp:(R::(jB A RA++ye x rx::jB B RB++s)).Perm (jB A RA++(jB B RB++(R::ye x rx::s))):=by
  rw[zg6];refine List.perm_middle.symm.trans (List.Perm.append_left _ ?_);refine (List.Perm.cons R (List.perm_middle (l₁:=jB B RB)).symm).trans ?_;exact List.perm_middle.symm
 obtain ⟨g1,hl1,ha1,hs1⟩:=ui h1 (h.perm hp);obtain ⟨g2,hl2,ha2,hs2⟩:=ui h2 ha1;exact⟨g2,hl1.trans hl2,ha2,hs1.mono fun _ _=>aq.mono hl2,hs2⟩
theorem SC.freezeBut {P:Program}{N:Nat}{E:World}{Q:Exit→Act→World→Prop}{f:Fr}{g:PH}{s:Own}{o:Code}{R S:Ent}{A B:List Cl}{RA RB:List Rc}{x:Cl}{rx:Rc}(h1:au oO A RA)(h2:au oO B RB)
  (h:∀ g',Le g g'→au (aq g') A RA→au (aq g') B RB→SC P N E o Q f g' (R::ye x rx::S::s)):SC P N E o Q f g (S::R::(jB (A++x::B) (RA++rx::RB)++s)):=fun a w ha hw=>by
 have hp:(S::R::(jB (A++x::B) (RA++rx::RB)++s)).Perm (R::(jB (A++x::B) (RA++rx::RB)++(S::s))):=(zj5 _ _ _).trans (List.Perm.cons R List.perm_middle.symm);obtain ⟨g',h3,h4,h5,h6⟩:=Go.Proofs.YtcfkpajlakidbaaGreatDoor.freezeBut h1 h2 (hw.perm hp);exact h g' h3 h5 h6 a w ha h4
theorem au.split {α β:Type}{R:α→β→Prop}:∀ {l:List α} {rs:List β} {k:Nat},au R l rs→k<l.length→∃ A x B RA rx RB,l=A++x::B∧rs=RA++rx::RB∧A.length=k∧RA.length=k∧au R A RA∧R x rx∧au R B RB
 | x::l,r::rs,0,h,_=>⟨[],x,l,[],r,rs,rfl,rfl,rfl,rfl,trivial,h.1,h.2⟩
 | x::l,r::rs,k+1,h,hk=>by
  obtain ⟨A,y,B,RA,ry,RB,rfl,rfl,h1,h2,h3,h4,h5⟩:=au.split h.2 (by simpa using hk);exact⟨x::A,y,B,r::RA,ry,RB,I,I,by simp[h1],by simp[h2],⟨h.1,h3⟩,h4,h5⟩
 | [],[],_,_,hk=>by simp at hk
 | [],_::_,_,h,_=>h.elim
 | _::_,[],_,h,_=>h.elim
theorem uq {α:Type}{A B:List α}{x y:α}{k:Nat}(h:A.length=k):(A++x::B).set k y=A++y::B:=by subst h; simp
theorem yr {α:Type}{A B:List α}{x:α}{k:Nat}(h:A.length=k):(A++x::B)[k]?=some x:=by subst h; simp
theorem SC.freezeBut' {P:Program}{N:Nat}{E:World}{Q:Exit→Act→World→Prop}{f:Fr}{g:PH}{s:Own}{o:Code}{R S:Ent}{l A B:List Cl}{rs RA RB:List Rc}{x:Cl}{rx:Rc}(hl:l=A++x::B)(hr:rs=RA++rx::RB)(h1:au oO A RA)(h2:au oO B RB)
  (h:∀ g',Le g g'→au (aq g') A RA→au (aq g') B RB→SC P N E o Q f g' (R::ye x rx::S::s)):SC P N E o Q f g (S::R::(jB l rs++s)):=by
 subst hl;subst hr;exact SC.freezeBut h1 h2 h
theorem i7 {l:List Int}(h:l.Pairwise (· ≤ ·)):ee l=l:=by
 unfold ee;exact List.mergeSort_of_pairwise (h.imp fun h=>by simpa using h)
theorem Bl:cg [0,1,2]=[0,1,2]:=by
 unfold cg;rw[i7 dC];rfl
theorem Dc:cg [0,1]=[0,1]:=by
 unfold cg;rw[i7 dC];rfl
theorem BS {l:List Cl}(h:(l.all fun c=>decide (c.sides.length<100))=true)(h2:l.length<100):cU l:=by
 rw[List.all_eq_true] at h;exact⟨oM,fun c hc=>by have:=h c hc; simp at this; omega⟩
theorem au.cons_left {α β:Type}{R:α→β→Prop}{a:α}{l:List α}{m:List β}(h:au R (a::l) m):∃ b m',m=b::m'∧R a b∧au R l m':=by
 cases m with
 | nil=>exact h.elim
 | cons b m=>exact⟨b,m,rfl,h.1,h.2⟩
theorem au.nil_left {α β:Type}{R:α→β→Prop}{m:List β}(h:au R ([]:List α) m):m=[]:=by
 cases m with
 | nil=>rfl
 | cons b m=>exact h.elim
theorem dq {g:PH}{c:Cl}{r:Rc}(h:aq g c r):∃ p d,r=⟨c.id,c.dim,⟨p,c.sides.length,d⟩⟩∧SlA encSide g (.slice p c.sides.length d) c.sides:=by
 obtain ⟨i,dm,p,n,d⟩:=r;obtain ⟨h1,h2,h3⟩:=h;dsimp only at h1 h2 h3;have h4:=(SlA.cap h3).1;subst h1 h2 h4;exact⟨p,d,I,h3⟩
theorem Ai {α:Type}{key:α→Int}{l out:List α}{x:α}{k:Nat}(hs:Srt key out)(hst:aV key l out)(h1:∀ y∈out.take k,key y≤key x)(h2:∀ y∈out.drop k,key x<key y) :
  Srt key (out.take k++x::out.drop k)∧aV key (l++[x]) (out.take k++x::out.drop k):=by
 have hs':Srt key (out.take k++out.drop k):=by rw[zi8]; exact hs
 have h3:=Srt.append_iff.1 hs';refine⟨Srt.append_iff.2 ⟨h3.1,Srt.cons_iff.2 ⟨fun y hy=>Int.le_of_lt (h2 y hy),h3.2.1⟩,fun y hy z hz=>?_⟩,?_⟩
 ·rcases ze8.1 hz with rfl | hz
  ·exact h1 y hy
  ·exact h3.2.2 y hy z hz
 ·have h4:aV key (l++[x]) (out++[x]):=hst.append (aV.refl [x]);have h5:aV key (out.drop k++[x]) ([x]++out.drop k):=aV.swap (fun y hy z hz=>by simp at hz; subst hz; have:=h2 y hy; omega);have h6:=aV.append (aV.refl (key:=key) (out.take k)) h5;have h7:out++[x]=out.take k++(out.drop k++[x]):=by rw[← zg6,zi8]
  rw[h7] at h4;simpa using h4.trans h6
theorem uB {α:Type}{key:α→Int}{out:List α}{c:Int}{k:Nat}(hs:Srt key out)(hk:k<out.length)(h:c<key out[k]):∀ y∈out.drop k,c<key y:=by
 rw[zg4 hk];intro y hy;have h1:Srt key (out.drop k):=List.Pairwise.sublist (List.drop_sublist k out) hs;rw[zg4 hk] at h1
 rcases ze8.1 hy with rfl | hy
 ·exact h
 ·have:=(Srt.cons_iff.1 h1).1 y hy;omega
theorem pm (E:World)(g:PH)(s:Own)(v:Value)(l:List aj)(hv:SlA encSide g v l)(hl:l.length<1099511627776) :
  Ctr Tryz.prog E 66 #[v] g s (fun r g' s'=>s=s'∧Le g g'∧SlA encSide g' r (sortBy aj.cell l)):=by
 obtain ⟨p,c,rfl⟩:=za2 hv;refine za9 (args:=[.slice p l.length c]) func66 I ntmps66 (bE I) ?_;refine rZ (aT I (rZ (aT I (sQ (rZ (aT I (bK ?_)))))));refine oP (ι:=PH×Value×List aj×Nat) (fun i=>[(0,.slice p l.length c),(3,i.2.1),(4,vi i.2.2.2)]) (fun i=>i.1) (fun _=>s)
  (fun i=>Le g i.1∧SlA encSide i.1 i.2.1 i.2.2.1∧i.2.2.2≤l.length∧Srt aj.cell i.2.2.1∧aV aj.cell (l.take i.2.2.2) i.2.2.1) (fun i=>l.length - i.2.2.2)
  (g,.slice none 0 0,[],0) sB rfl rfl ⟨zb7 g,zb8 g _,zf4 _,Srt.nil,aV.refl _⟩ ?_
 rintro ⟨g1,ov,out,i⟩ ⟨hle,hov,hi,hsrt,hst⟩;dsimp only at hle hov hi hsrt hst ⊢;have hol:out.length=i:=by have:=hst.1; rw[ze2] at this; omega
 obtain ⟨q,d,rfl⟩:=za2 hov;have hqc:=(SlA.cap hov).2;refine sQ (sW I (lM I (lU (eN bF I) (yL I (tZ ?_)))));refine iP I (fun hlt=>?_) (fun hlt=>?_)
 ·have hil:i<l.length:=oM;have hb1:=za4 (hv.mono hle) oM;have hgi:l[((i:Nat):Int).toNat]?=some l[i]:=gE hil;have htk:l.take (i+1)=l.take i++[l[i]]:=tS hil;generalize l[i]=x at *;refine kP (tN (sQ (bK (rZ (aT I ?_)))));refine SC.cut (ι:=Nat) (fun k=>[(0,.slice p l.length c),(3,.slice q out.length d),(4,vi i),(5,vi k)]) (fun _=>g1) (fun _=>s) (fun k=>k≤out.length∧(∀ y∈out.take k,y.cell≤x.cell)∧∀ y∈out.drop k,x.cell<y.cell) ?_ ?_
  ·refine bK ?_;refine oP (ι:=Nat) (fun k=>[(0,.slice p l.length c),(3,.slice q out.length d),(4,vi i),(5,vi k)]) (fun _=>g1) (fun _=>s) (fun k=>k≤out.length∧∀ y∈out.take k,y.cell≤x.cell) (fun k=>out.length - k) 0
    sB rfl rfl ⟨zf4 _,by simp⟩ ?_
   rintro k ⟨hk,htake⟩;by_cases hin:(k:Int)<(out.length:Int)
   ·have hkl:k<out.length:=oM;have hb2:=za4 hov oM;have hd:decide ((k:Int)<(out.length:Int))=true:=zf6 hin;refine sQ (sQ ?_);refine dW [] [(0,2),(1,2),(2,2),(3,2),(4,2),(5,2),(6,2),(7,2),(8,2),(9,1),(10,2),(11,2),(12,2),(13,2),(14,1),(15,2),(16,2)] ze1 kR ?_;refine yM I (yM I (pU I (eN bF I) (pU I (SU.eq (lS I I) (zd9 vb hd)) (yM I (yJ I (yJ I (zb1 I (gT I I I dC) (iA bF bJ I I hb2 oM sL) dC (zb1 I (gT I I I dC) (fC de I zT3 I hb2) dC ?_))))))));refine SP.gq I (gT I I I dC) (aZ (o:=0) iT3 I hov.rd (gE hkl) I) dC ?_;refine yJ I (yJ I (zb1 I (gT I I I dC) (iA bF bJ I I hb1 oM sL) dC (zb1 I (gT I I I dC) (fC de I zT3 I hb1) dC (SP.gq I (gT I I I dC) (aZ (o:=0) iT3 I (hv.mono hle).rd hgi I) dC (zb1 I (gT I I I dC) (SU.leq I I) dC (pU I (wT I I) (pN (tN ?_))))))));refine iP I (fun hc=>?_) (fun hc=>?_)
    ·refine kP (tN (bK (rG (lM I (yD I (lA I (nL (bN ?_))))))));exact gA (k+1) sB I I ⟨oM,by
      rw[tS hkl];intro y hy
      rcases zf1.1 hy with h | h
      ·exact htake y h
      ·simp at h; subst h; exact hc⟩ oM
    ·refine xI (tX (tX (bX ?_)));exact za7 k sB I I ⟨hk,htake,uB hsrt hkl oM⟩
   ·have hd:decide ((k:Int)<(out.length:Int))=false:=zf5 hin;refine sQ (sQ ?_);refine dW [] [(0,2),(1,2),(2,2),(3,2),(4,2),(5,2),(6,2),(7,2),(8,2),(9,1),(10,2),(11,2),(12,2),(13,2),(14,1),(15,2),(16,2)] ze1 kR ?_;refine yM I (yM I (pU I (eN bF I) (pU I (SU.eq (lS I I) (zd9 vb hd)) (yM I (yG I (yG I (yG I (yG I (yI I (yG I (yG I (yG I (yG I (yI I (yG I (pU I (wF I I) (pN (tN (cF I (xI (tX (tX (bX ?_)))))))))))))))))))))));exact za7 k sB I I ⟨hk,htake,by rw[List.drop_eq_nil_of_le oM]; simp⟩
  ·rintro k ⟨hk,hk1,hk2⟩;have hnew:=Ai hsrt hst hk1 hk2;have hc1:=SlA.cut hov (l:=k) (m:=out.length) hk (lR _);have hc2:=SlA.cut hov (l:=0) (m:=k) (zf4 _) hk;rw[tL (by rw[ze7]; exact lR _)] at hc1;rw[List.drop_zero,Nat.sub_zero] at hc2;refine sQ ?_;refine dW [8] [(0,2),(1,2),(2,2),(3,1),(5,2),(6,2),(7,2),(4,0),(8,0),(9,2)] ze1 kR ?_;refine yM I (yM I (pU I (iA bF bJ I I hb1 oM sL) (pK I (eA mD bJ I (hv.mono hle).rd hgi) (yM I (yM I (pU I (SU.sliceL bF bJ I I oM oM) (SP.o I (bS sty62 I I I (ab ⟨I,trivial⟩) dC) dC (.inr iR) ?_)))))));rintro _ _ _ ⟨b36,rfl,rfl,rfl⟩;refine SP.to (fun w hw=>At.litRow (e:=encSide) (l:=[x]) (n:=0) hw I I dC) ?_;refine SP.o I (aQ (e:=encSide) 0 sty62 I I I hc1 (by rw[ze7]; (first | with_reducible rfl | ((try dsimp only); (try simp only[ze3,ze6,zc2,ze5,ze2,ze7])<;>omega))) (by rw[ze7]; (first | with_reducible rfl | ((try dsimp only); (try simp only[ze3,ze6,zc2,ze5,ze2,ze7])<;>omega)))) dC (.inl dC) ?_;rintro v40 _ _ ⟨rfl,rfl⟩;refine pU I (aS I) (pN (tN (fS fun g2 hle2 hs2=>?_)));have hrest:SlA encSide g2 v40 ([x]++out.drop k):=hs2;refine rG (lW (bS sty62 I I I (ab trivial) dC) ?_);rintro _ _ _ ⟨b41,rfl,rfl,rfl⟩;refine SL.emptyRow 67 2 (some ⟨b41,0,none⟩) (lM I (lM I (lU (SU.sliceH bF bJ I I oM oM) (lW (aQ (e:=encSide) (l:=[]) 0 sty62 I I I (hc2.mono hle2) (by rw[ze2]; (first | with_reducible rfl | ((try dsimp only); (try simp only[ze3,ze6,zc2,ze5,ze2,ze7])<;>omega))) (by rw[ze2]; (first | with_reducible rfl | ((try dsimp only); (try simp only[ze3,ze6,zc2,ze5,ze2,ze7])<;>omega)))) ?_))));rintro v45 _ _ ⟨rfl,rfl⟩;refine lM I (lW (aQ (e:=encSide) 0 sty62 I I I hrest lN lN) ?_);rintro v47 _ _ ⟨rfl,rfl⟩;refine lA I (nL (bN (tN (rG (lM I (yD I (lA I (nL (fT fun g3 hle3 hs3=>?_)))))))));refine dR (s':=s) uR ?_;have hres:SlA encSide g3 v47 (out.take k++x::out.drop k):=by have h:SlA encSide g3 v47 ([]++out.take k++([x]++out.drop k)):=hs3; simpa using h
   exact gA (g3,v47,out.take k++x::out.drop k,i+1) sB I I ⟨hle.trans (hle2.trans hle3),hres,lN,hnew.1,by dsimp only; rw[htk]; exact hnew.2⟩ lN
 ·have hii:l.take i=l:=tL oM;rw[hii] at hst;refine xI (tX (tX (bX (tN (sW I (aT I (rE ?_)))))));exact za6 (.inl I) results66 I ⟨I,hle,by rw[← dX hsrt hst]; exact hov⟩
theorem au.drop {α β:Type}{R:α→β→Prop}:∀ {l:List α} {m:List β} (k:Nat),au R l m→au R (l.drop k) (m.drop k)
 | _,_,0,h=>by simpa using h
 | [],[],k+1,_=>trivial
 | _::_,_::_,k+1,h=>by simpa using au.drop k h.2
 | [],_::_,_+1,h=>h.elim
 | _::_,[],_+1,h=>h.elim
theorem au.take {α β:Type}{R:α→β→Prop}:∀ {l:List α} {m:List β} (k:Nat),au R l m→au R (l.take k) (m.take k)
 | _,_,0,_=>by simp; trivial
 | [],[],k+1,_=>trivial
 | _::_,_::_,k+1,h=>⟨h.1,au.take k h.2⟩
 | [],_::_,_+1,h=>h.elim
 | _::_,[],_+1,h=>h.elim
theorem ao.cut {g:PH}{p:Option Addr}{c a b n:Nat}{l:List Cl}(h:ao g (.slice p n c) l)(ha:a≤b)(hb:b≤l.length):ao g (sliced p a b c 3) ((l.drop a).take (b - a)):=by
 obtain ⟨rs,h1,h2⟩:=h;have hl:=h2.length;have hn:=(SlA.cap h1).1;subst hn;exact⟨_,SlA.cut h1 ha oM,au.take (b - a) (au.drop a h2)⟩
theorem ao.cap {g:PH}{p:Option Addr}{c n:Nat}{l:List Cl}(h:ao g (.slice p n c) l):n=l.length∧l.length≤c:=by
 obtain ⟨rs,h1,h2⟩:=h;have:=SlA.cap h1;rw[h2.length];exact⟨this.1,this.2⟩
theorem lG (l:List Cl):aa l=sortBy Cl.id (l.map cN):=by
 unfold aa;rw[lq];rfl
theorem gH (l:List Cl):Srt Cl.id (aa l):=by rw[lG]; exact eu _
theorem ow (l:List Cl):aV Cl.id (l.map cN) (aa l):=by rw[lG]; exact eT _
theorem Tryz.buildF64 (x y:Int)(v:Value)(hv:v.cells = #[v])(w:World):(Instr.build 64 #[(0,vi x),(1,vi y),(2,v)]).run Tryz.prog w = .ok (.agg #[vi x,vi y,v]) w:=by
 have hz:(Value.agg #[vi 0,vi 0,Value.slice none 0 0]).cells = #[vi 0,vi 0,.slice none 0 0]:=rfl;have h1:(vi x).cells = #[vi x]:=rfl;have h2:(vi y).cells = #[vi y]:=rfl;simp[Instr.build,Instr.fill,hv,hz,h1,h2]
theorem kM (n:Nat)(h:n<4611686018427387904):IntKind.i64.wrap (((n:Nat):Int).tdiv 2)=((n / 2:Nat):Int):=by
 have h1:((n:Nat):Int).tdiv 2=((n / 2:Nat):Int):=by
  rw[Int.tdiv_eq_ediv_of_nonneg oM]; simp
 rw[h1,zk5 _ oM]
theorem jh (E:World):∀ (n:Nat) (g:PH) (s:Own) (v:Value) (l:List Cl),l.length≤n→ao g v l→cU l →
  Ctr Tryz.prog E 114 #[v] g s (fun r g' s'=>s=s'∧Le g g'∧ao g' r (aa l)):=by
 intro n;induction n with
 | zero =>
  intro g s v l hn hv hf;have hl0:l=[]:=zf2 oM;subst hl0;obtain ⟨p,c,rfl⟩:=hv.form;refine za9 (args:=[.slice p 0 c]) func114 I ntmps114 (bE I) ?_;refine rZ (aT I (sQ (sW I (lU (eN az I) (yE I (tZ ?_))))));refine iP I (fun h0=>?_) (fun h0=>?_)
  ·refine rZ (aT I (rE (tR ?_)));exact za6 (.inl I) results114 I ⟨I,zb7 g,[],zb8 g _,trivial⟩
  ·exact absurd I h0
 | succ n ih =>
  intro g s v l hn hv hf;obtain ⟨rs,hrs,hall⟩:=hv;have hv:ao g v l:=⟨rs,hrs,hall⟩;have hlen:=hall.length;have hfl:=hf.1;obtain ⟨p,c,rfl⟩:=hv.form;have hcap:=(ao.cap hv).2;refine za9 (args:=[.slice p l.length c]) func114 I ntmps114 (bE I) ?_;refine rZ (aT I (sQ (sW I (lU (eN az I) (yE I (tZ ?_))))));refine iP I (fun h0=>?_) (fun h0=>?_)
  ·have hl0:l=[]:=zf2 oM;subst hl0;refine rZ (aT I (rE (tR ?_)));exact za6 (.inl I) results114 I ⟨I,zb7 g,[],zb8 g _,trivial⟩
  ·refine kP (tN (sQ (sW I (lU (eN az I) (yE I (tZ ?_))))));refine iP I (fun h1=>?_) (fun h1=>?_)
   ·obtain ⟨x,hx⟩:∃ x,l=[x]:=by
     match l,h1 with
     | [x],_=>exact⟨x,rfl⟩
     | [],h=>simp at h
     | _::_::_,h=>simp at h; omega
    subst hx;obtain ⟨r,rs',rfl,hr,hn'⟩:=au.cons_left hall;have hrs0:=au.nil_left hn';subst hrs0;obtain ⟨rp,rd,rfl,hsd⟩:=dq hr;have hb1:=hrs.based (by simp);have hxl:=hf.2 x (by simp);refine sQ ?_;refine dW [] [(0,2),(1,2),(2,2),(3,1),(4,2),(5,2),(6,2),(7,1),(8,2),(9,2),(10,2),(11,1),(12,0),(13,2),(14,0),(15,2)] ze1 kR ?_;refine yM I (pU I (iA az aw I I hb1 dC (show (0:Int)<((1:Nat):Int) by decide)) ?_);refine pU I (fC am I zT3 I hb1) (pK I (aZ (e:=encCell) (o:=0) (j:=0) (u:=vi x.id) iT3 I hrs.rd I I) (yM I (pU I (iA az aw I I hb1 dC (show (0:Int)<((1:Nat):Int) by decide)) ?_)));refine pU I (fC am I zT3 I hb1) (pK I (aZ (e:=encCell) (o:=1) (j:=0) (u:=vi x.dim) iT3 I hrs.rd I I) (yM I (pU I (iA az aw I I hb1 dC (show (0:Int)<((1:Nat):Int) by decide)) ?_)));refine pU I (fC am I aX I hb1) (pK I (aZ (e:=encCell) (o:=2) (j:=0) (u:=.slice rp x.sides.length rd) bH I hrs.rd I I) (SP.o I (cL call66 I (pm E g _ _ x.sides hsd hxl)) dC (.inr iR) ?_));rintro v24 g1 _ ⟨rfl,hle1,hs1⟩;obtain ⟨q,d,rfl⟩:=za2 hs1;refine pU I (za1 I (buildF64 _ _ _ I)) (SP.o I (bS sty29 I I I (ab sB) dC) dC (.inr iR) ?_);rintro _ _ _ ⟨b26,rfl,rfl,rfl⟩;refine pU I (aS I) (pN (tN (rE (tR (ST.freeze fun g2 hle2 hb=>?_)))));exact za6 (.inl I) results114 I ⟨I,hle1.trans hle2,[⟨x.id,x.dim,⟨q,(sortBy aj.cell x.sides).length,d⟩⟩],SlA.lit hb I I,⟨⟨I,I,hs1.mono hle2⟩,trivial⟩⟩
   ·have hm1:l.length / 2<l.length:=oM;have hm0:0<l.length / 2:=oM;have hc1:=ao.cut hv (a:=0) (b:=l.length / 2) oM oM;have hc2:=ao.cut hv (a:=l.length / 2) (b:=l.length) oM oM;rw[List.drop_zero,Nat.sub_zero] at hc1;rw[tL (by rw[ze7]; exact lR _)] at hc2;have hf1:cU (l.take (l.length / 2)):=⟨by rw[ze2]; omega,fun c hc=>hf.2 c (List.mem_of_mem_take hc)⟩;have hf2:cU (l.drop (l.length / 2)):=⟨by rw[ze7]; omega,fun c hc=>hf.2 c (List.mem_of_mem_drop hc)⟩;have hca:=ay (l.take (l.length / 2));have hcb:=ay (l.drop (l.length / 2));have hsa:=gH (l.take (l.length / 2));have hsb:=gH (l.drop (l.length / 2));have hst:aV Cl.id (l.map cN) (aa (l.take (l.length / 2))++aa (l.drop (l.length / 2))):=by
     have h2:=(ow (l.take (l.length / 2))).append (ow (l.drop (l.length / 2)));rwa [← zg3,zi8] at h2
    rw[ze2] at hca;rw[ze7] at hcb;refine kP (tN (sW I (lM I (lU (eN az I) (lU (SU.eq (v':=vi ((l.length / 2:Nat):Int)) (SU.quo I I dC) (zd9 vi (kM _ oM))) (lU (SU.sliceH az aw I I oM oM) (lW (cL call114 I (ih g _ _ (l.take (l.length / 2)) (by rw[ze2]; omega) hc1 hf1)) ?_)))))));rintro va0 g1 _ ⟨rfl,hle1,hA⟩;refine aT I (sW I (lM I (lU (eN az I) (lU (SU.eq (v':=vi ((l.length / 2:Nat):Int)) (SU.quo I I dC) (zd9 vi (kM _ oM))) (lU (SU.sliceL az aw I I oM oM) (lW (cL call114 I (ih g1 _ _ (l.drop (l.length / 2)) (by rw[ze7]; omega) (hc2.mono hle1) hf2)) ?_))))));rintro vb0 g2 _ ⟨rfl,hle2,hB⟩;refine aT I (rZ (aT I ?_));generalize hA0:aa (l.take (l.length / 2))=A0 at *;generalize hB0:aa (l.drop (l.length / 2))=B0 at *;refine zb4 64 3 ?_;refine SC.cut (ι:=Value×Value×Value×List Cl×List Cl×List Cl×List Rc) (fun i=>[(3,i.1),(4,i.2.1),(5,i.2.2.1)]) (fun _=>g2) (fun i=>rowA encCell 64 i.2.2.1 i.2.2.2.2.2.2::s)
     (fun i=>ao g2 i.1 i.2.2.2.1∧ao g2 i.2.1 i.2.2.2.2.1∧au (aq g2) i.2.2.2.2.2.1 i.2.2.2.2.2.2∧i.2.2.2.2.2.1++i.2.2.2.1++i.2.2.2.2.1=aa l) ?_ ?_
    ·refine bK ?_;refine oP (ι:=Value×Value×Value×List Cl×List Cl×List Cl×List Cl×List Cl×List Rc) (fun i=>[(3,i.1),(4,i.2.1),(5,i.2.2.1)]) (fun _=>g2) (fun i=>rowA encCell 64 i.2.2.1 i.2.2.2.2.2.2.2.2::s)
      (fun i=>(ao g2 i.1 i.2.2.2.2.1∧ao g2 i.2.1 i.2.2.2.2.2.2.1)∧au (aq g2) i.2.2.2.2.2.2.2.1 i.2.2.2.2.2.2.2.2∧A0=i.2.2.2.1++i.2.2.2.2.1∧B0=i.2.2.2.2.2.1++i.2.2.2.2.2.2.1∧Srt Cl.id i.2.2.2.2.2.2.2.1∧aV Cl.id (i.2.2.2.1++i.2.2.2.2.2.1) i.2.2.2.2.2.2.2.1 ∧
       (∀ y∈i.2.2.2.2.2.2.2.1,∀ z∈i.2.2.2.2.1++i.2.2.2.2.2.2.1,y.id≤z.id)∧(∀ y∈i.2.2.2.2.2.1,∀ z∈i.2.2.2.2.1,y.id<z.id)) (fun i=>i.2.2.2.2.1.length+i.2.2.2.2.2.2.1.length)
      (va0,vb0,.slice none 0 0,[],A0,[],B0,[],[]) sB rfl rfl ⟨⟨hA.mono hle2,hB⟩,trivial,rfl,rfl,Srt.nil,aV.refl _,by simp,by simp⟩ ?_
     rintro ⟨va,vb1,vo,A1,A2,B1,B2,out,ro⟩ ⟨⟨hva,hvb⟩,hro,hA',hB',hso,hto,hout,hlt⟩;dsimp only at hva hvb hro hA' hB' hso hto hout hlt ⊢;have hol:out.length=A1.length+B1.length:=by have:=hto.1; simpa using this
     have hrol:=hro.length;have hAl:A0.length=A1.length+A2.length:=by rw[hA']; simp
     have hBl:B0.length=B1.length+B2.length:=by rw[hB']; simp
     rw[hA'] at hsa;rw[hB'] at hsb;have hsa2:=(Srt.append_iff.1 hsa).2.1;have hsb2:=(Srt.append_iff.1 hsb).2.1;obtain ⟨pa,ca,rfl⟩:=hva.form;obtain ⟨pb,cb,rfl⟩:=hvb.form;have hcapa:=(ao.cap hva).2;have hcapb:=(ao.cap hvb).2;have hfin:A2=[]∨B2=[]→out++A2++B2=aa l:=fun h=>by
      rw[lG];refine dX ?_ ?_
      ·rw[zg6];refine Srt.append_iff.2 ⟨hso,?_,hout⟩
       rcases h with rfl | rfl
       ·simpa using hsb2
       ·simpa using hsa2
      ·refine hst.trans ?_;rw[hA',hB']
       rcases h with rfl | rfl
       ·have h2:=hto.append (aV.refl (key:=Cl.id) B2);simpa using h2
       ·have h3:aV Cl.id (A2++B1) (B1++A2):=aV.swap (fun x hx y hy=>by have:=hlt y hy x hx; omega);have h4:=(aV.refl (key:=Cl.id) A1).append h3;have h5:=hto.append (aV.refl (key:=Cl.id) A2);simp only[zc4,zg6] at h4 h5 ⊢;exact h4.trans h5
     cases A2 with
     | nil =>
      refine sQ (sW I (lU (eN az I) (lU (SU.eq (v':=vb false) (gR I I) I) (lM I (yA I (yA I (yA I (yF I (tZ (cF I (xI (tX (tX (bX ?_))))))))))))));exact za7 (_,_,vo,[],B2,out,ro) sB I I ⟨hva,hvb,hro,hfin (.inl I)⟩
     | cons x A3 =>
      have hpa:(0:Int)<((x::A3).length:Int):=by simp
      cases B2 with
      | nil =>
       refine sQ (sW I (lU (eN az I) (lU (SU.eq (v':=vb true) (gR I I) (zd9 vb (zf6 hpa))) (lM I (yC I (lY I I I (eN az I) (lY I I I (SU.eq (v':=vb false) (gR I I) I) (yP I (tZ (cF I (xI (tX (tX (bX ?_))))))))))))));exact za7 (_,_,vo,x::A3,[],out,ro) sB I I ⟨hva,hvb,hro,hfin (.inr I)⟩
      | cons y B3 =>
       have hpb:(0:Int)<((y::B3).length:Int):=by simp
       obtain ⟨ra,hra,halla⟩:=hva;obtain ⟨rb,hrb,hallb⟩:=hvb;have hva:ao g2 _ (x::A3):=⟨ra,hra,halla⟩;have hvb:ao g2 _ (y::B3):=⟨rb,hrb,hallb⟩;have hna:=ao.cut hva (a:=1) (b:=(x::A3).length) (by simp) (lR _);have hnb:=ao.cut hvb (a:=1) (b:=(y::B3).length) (by simp) (lR _);have hda:((x::A3).drop 1).take ((x::A3).length - 1)=A3:=by simp
       have hdb:((y::B3).drop 1).take ((y::B3).length - 1)=B3:=by simp
       rw[hda] at hna;rw[hdb] at hnb;obtain ⟨x',ra',rfl,hx,_⟩:=au.cons_left halla;obtain ⟨y',rb',rfl,hy,_⟩:=au.cons_left hallb;have hba:=hra.based (by simp);have hbb:=hrb.based (by simp);have hlen3:A3.length+1+(B3.length+1)+out.length≤l.length:=by simp only[ze6] at hAl hBl; omega
       refine sQ (sW I (lU (eN az I) (lU (SU.eq (v':=vb true) (gR I I) (zd9 vb (zf6 hpa))) (lM I (yC I (lY I I I (eN az I) (lY I I I (SU.eq (v':=vb true) (gR I I) (zd9 vb (zf6 hpb))) (yP I (tZ (cT I (kP (tN (bK (sQ ?_))))))))))))));refine dW [] [(0,2),(1,2),(2,2),(3,1),(4,2),(5,2),(6,2),(7,1),(8,2)] ze1 kR ?_;refine yM I (pU I (iA az aw I I hbb dC hpb) (pU I (fC am I zT3 I hbb) (pK I (aZ (e:=encCell) (o:=0) (j:=0) (u:=vi y'.id) iT3 I hrb.rd I I) (yM I (pU I (iA az aw I I hba dC hpa) (pU I (fC am I zT3 I hba) (pK I (aZ (e:=encCell) (o:=0) (j:=0) (u:=vi x'.id) iT3 I hra.rd I I) (pU I (lS I I) (pN (tN ?_))))))))));refine iP I (fun hc=>?_) (fun hc=>?_)
       ·refine sW I (lM I (lU (iA az aw I I hbb dC hpb) (lK (eA (e:=encCell) (a:=y') (j:=0) eO aw I hrb.rd I) (lW (bS sty29 I I I (ab sB) dC) ?_))));rintro _ _ _ ⟨b60,rfl,rfl,rfl⟩;refine lW (aP (e:=encCell) 0 y' sty29 I I I I I oM oM) ?_;rintro v61 _ _ ⟨rfl,rfl⟩;refine aT I (rG (lM I (lU (SU.sliceL az aw I I dC (by simp only[ze6]; omega)) ?_)));refine lA I (nL (bN ?_));rw[hx.1,hy.1] at hc;refine gA (_,_,v61,A1,x::A3,B1++[y],B3,out++[y],ro++[y']) sB I I ⟨⟨hva,hnb⟩,hro.append ⟨hy,trivial⟩,hA',by rw[hB']; simp,?_,?_,?_,?_⟩ lN
        ·refine Srt.append_iff.2 ⟨hso,Srt.one y,fun a ha b hb=>?_⟩;simp at hb; subst hb; exact hout a ha b (by simp)
        ·have h2:=hto.append (aV.refl (key:=Cl.id) [y]);simpa using h2
        ·intro a ha b hb;dsimp only at ha hb
         rcases zf1.1 ha with ha | ha
         ·refine hout a ha b ?_;simp at hb ⊢
          rcases hb with h | h | h
          ·exact .inl h
          ·exact .inr (.inl h)
          ·exact .inr (.inr (.inr h))
         ·simp at ha; subst ha
          rcases zf1.1 hb with hb | hb
          ·rcases ze8.1 hb with rfl | hb
           ·omega
           ·have:=(Srt.cons_iff.1 hsa2).1 b hb; omega
          ·exact (Srt.cons_iff.1 hsb2).1 b hb
        ·intro a ha b hb;dsimp only at ha hb
         rcases zf1.1 ha with ha | ha
         ·exact hlt a ha b hb
         ·simp at ha; subst ha
          rcases ze8.1 hb with rfl | hb
          ·omega
          ·have:=(Srt.cons_iff.1 hsa2).1 b hb; omega
       ·refine sW I (lM I (lU (iA az aw I I hba dC hpa) (lK (eA (e:=encCell) (a:=x') (j:=0) eO aw I hra.rd I) (lW (bS sty29 I I I (ab sB) dC) ?_))));rintro _ _ _ ⟨b68,rfl,rfl,rfl⟩;refine lW (aP (e:=encCell) 0 x' sty29 I I I I I oM oM) ?_;rintro v69 _ _ ⟨rfl,rfl⟩;refine aT I (rG (lM I (lU (SU.sliceL az aw I I dC (by simp only[ze6]; omega)) ?_)));refine lA I (nL (bN ?_));rw[hx.1,hy.1] at hc;refine gA (_,_,v69,A1++[x],A3,B1,y::B3,out++[x],ro++[x']) sB I I ⟨⟨hna,hvb⟩,hro.append ⟨hx,trivial⟩,by rw[hA']; simp,hB',?_,?_,?_,?_⟩ lN
        ·refine Srt.append_iff.2 ⟨hso,Srt.one x,fun a ha b hb=>?_⟩;simp at hb; subst hb; exact hout a ha b (by simp)
        ·have h2:aV Cl.id ([x]++B1) (B1++[x]):=aV.swap (fun a ha b hb=>by simp at ha; subst ha; have:=hlt b hb a (by simp); omega);have h3:=(aV.refl (key:=Cl.id) A1).append h2;have h4:=hto.append (aV.refl (key:=Cl.id) [x]);dsimp only;simp only[zg6] at h3 h4 ⊢;exact h3.trans h4
        ·intro a ha b hb;dsimp only at ha hb
         rcases zf1.1 ha with ha | ha
         ·refine hout a ha b ?_;simp at hb ⊢
          rcases hb with h | h | h
          ·exact .inr (.inl h)
          ·exact .inr (.inr (.inl h))
          ·exact .inr (.inr (.inr h))
         ·simp at ha; subst ha
          rcases zf1.1 hb with hb | hb
          ·exact (Srt.cons_iff.1 hsa2).1 b hb
          ·rcases ze8.1 hb with rfl | hb
           ·omega
           ·have:=(Srt.cons_iff.1 hsb2).1 b hb; omega
        ·intro a ha b hb;exact hlt a ha b (by simp[hb])
    ·rintro ⟨va,vb1,vo,A2,B2,out,ro⟩ ⟨hva,hvb,hro,hres⟩;dsimp only at hva hvb hro hres ⊢;obtain ⟨ra,hra,halla⟩:=hva;obtain ⟨rb,hrb,hallb⟩:=hvb;have hl1:=zd9 List.length hres;rw[ay] at hl1;simp only[ze3] at hl1;have e1:=hro.length;have e2:=halla.length;have e3:=hallb.length;refine sW I (lM I (lW (aQ (e:=encCell) 0 sty29 I I I hra oM oM) ?_));rintro v74 _ _ ⟨rfl,rfl⟩;refine lM I (lW (aQ (e:=encCell) 0 sty29 I I I hrb lN lN) ?_);rintro v76 _ _ ⟨rfl,rfl⟩;refine aT I (rE (fT fun g3 hle3 hs3=>?_));exact za6 (.inl I) results114 I ⟨I,hle1.trans (hle2.trans hle3),ro++ra++rb,hs3,by rw[← hres]; exact (((hro.append halla).append hallb).mono fun _ _=>aq.mono hle3)⟩
theorem eH (E:World)(g:PH)(s:Own)(v:Value)(l:List Cl)(hv:ao g v l)(hf:cU l) :
  Ctr Tryz.prog E 110 #[.agg #[v]] g s (fun r g' s'=>s=s'∧Le g g'∧∃ u,r = .agg #[u]∧ao g' u (aa l)):=by
 obtain ⟨p,c,rfl⟩:=hv.form;refine za9 (args:=[.agg #[.slice p l.length c]]) func110 I ntmps110 (bE I) ?_;refine rZ (bW (bO I) fun b1=>?_);refine bW (aL zk8) fun b2=>?_;refine tZ (rZ (lU (fA cH I bG I) (lK (qL dg I (cO 1 I I)) (lW (cL call114 I (jh E l.length g _ _ l (lR _) hv hf)) ?_))));rintro v5 g1 _ ⟨rfl,hle,h5⟩;obtain ⟨q,d,rfl⟩:=h5.form;refine lU (za1 I (build31 _ I)) (oZ (sK 0 ar I I I I I sB) ?_);refine tZ (rE ?_);exact ST.retCD 0 s (.inl I) results110 I aY ar I I uR ⟨I,hle,_,I,h5⟩
theorem rv (E:World)(g:PH)(s:Own)(a b:Cl)(ra rb:Rc)(ha:aq g a ra)(hb:aq g b rb)(hl:a.sides.length<1099511627776) :
  Ctr Tryz.prog E 72 #[rcv ra,rcv rb] g s (fun r g' s'=>r=vb (decide (a=b))∧g=g'∧s=s'):=by
 obtain ⟨p,c,rfl,hsa⟩:=dq ha;obtain ⟨q,d,rfl,hsb⟩:=dq hb;have f1:a.id≠b.id→(decide (a.id≠b.id)||decide (a.dim≠b.dim)||decide ((a.sides.length:Int)≠b.sides.length))=true:=fun h=>by simp[h]
 have f2:¬ a.id≠b.id→a.dim≠b.dim→(decide (a.id≠b.id)||decide (a.dim≠b.dim)||decide ((a.sides.length:Int)≠b.sides.length))=true:=fun h h2=>by simp[h,h2]
 have f3:¬ a.id≠b.id→¬ a.dim≠b.dim→(decide (a.id≠b.id)||decide (a.dim≠b.dim)||decide ((a.sides.length:Int)≠b.sides.length))=decide ((a.sides.length:Int)≠b.sides.length):=fun h h2=>by simp[h,h2]
 refine za9 (args:=[.agg #[vi a.id,vi a.dim,.slice p a.sides.length c],.agg #[vi b.id,vi b.dim,.slice q b.sides.length d]]) func72 I ntmps72 (bE I) ?_;refine rZ (bW (bO I) fun b2=>?_);refine bW (bO I) fun b3=>?_;refine aT I (sQ ?_);refine SC.to (g':=g) (s':=pt b3 (.cells #[vi b.id,vi b.dim,.slice q b.sides.length d] 64 (0,0))::pt b2 (.cells #[vi a.id,vi a.dim,.slice p a.sides.length c] 64 (0,0))::s) (fun w hw=>hw) ?_;refine SC.cutB 26 ((decide (a.id≠b.id)||decide (a.dim≠b.dim)||decide ((a.sides.length:Int)≠b.sides.length))) ?_ ?_
 ·refine rG (lU (fA am I zT3 I) (lK (qL (v:=vi a.id) iT3 I (cO 1 I I)) (lU (fA am I zT3 I) (lK (qL (v:=vi b.id) iT3 I (cO 0 I I)) (lU (nQ I I) (lM I ?_))))));refine sP ?_ ?_
  ·intro h11;refine yA I (yA I (yA I (yA I (yA I (yP I (lM I (yA I (yA I (yA I (yA I (yA I (yA I (yA I (yP I (nL ?_)))))))))))))));exact za8 (by (rw[f1 h11]; rfl)) mI
  ·intro h11;refine lY I I I (fA am I zT3 I) (SL.gq (gT I I I dC) (qL (v:=vi a.dim) iT3 I (cO 1 I I)) dC (lY I I I (fA am I zT3 I) (SL.gq (gT I I I dC) (qL (v:=vi b.dim) iT3 I (cO 0 I I)) dC (lY I I I (nQ I I) (yF I (lM I ?_))))));refine sP ?_ ?_
   ·intro h18;refine yA I (yA I (yA I (yA I (yA I (yA I (yA I (yP I (nL ?_))))))));exact za8 (by (rw[f2 h11 h18]; rfl)) mI
   ·intro h18;refine lY I I I (fA am I aX I) (SL.gq (gT I I I dC) (qL (v:=.slice p a.sides.length c) bH I (cO 1 I I)) dC (lY I I I (eN bF I) (lY I I I (fA am I aX I) (SL.gq (gT I I I dC) (qL (v:=.slice q b.sides.length d) bH I (cO 0 I I)) dC (lY I I I (eN bF I) (lY I I I (nQ I I) (yF I (nL ?_))))))));exact za8 (by (rw[f3 h11 h18]; rfl)) mI
 refine iQ I (fun hbad=>?_) (fun hbad=>?_)
 ·refine rZ (aT I (rE (tR (dR (s':=s) uR ?_))));exact za6 (.inl I) results72 I ⟨zd9 vb (Eq.symm (zf5 fun e=>by rw[e] at hbad; simp at hbad)),I,I⟩
 ·have hid:a.id=b.id:=by simp at hbad; exact hbad.1.1
  have hdim:a.dim=b.dim:=by simp at hbad; exact hbad.1.2
  have hln:a.sides.length=b.sides.length:=by simp at hbad; omega
  refine kP (tN (sQ (rZ (aT I (bK ?_)))));refine oP (ι:=Nat) (fun k=>[(2,pp b2 0),(3,pp b3 0),(5,vi k)]) (fun _=>g) (fun _=>pt b3 (.cells #[vi b.id,vi b.dim,.slice q b.sides.length d] 64 (0,0))::pt b2 (.cells #[vi a.id,vi a.dim,.slice p a.sides.length c] 64 (0,0))::s) (fun k=>k≤a.sides.length∧a.sides.take k=b.sides.take k) (fun k=>a.sides.length - k) 0
   sB rfl rfl ⟨zf4 _,by simp⟩ ?_
  rintro k ⟨hk,heq⟩;refine sQ (sW I (lU (fA am I aX I) (lK (qL (v:=.slice p a.sides.length c) bH I (cO 1 I I)) (lU (eN bF I) (yL I (tZ ?_))))));refine iP I (fun hlt=>?_) (fun hlt=>?_)
  ·have hka:k<a.sides.length:=oM;have hkb:k<b.sides.length:=oM;have hb1:=hsa.based oM;have hb2:=hsb.based oM;refine kP (tN (sQ (bK (sQ ?_))));refine dW [] [(0,2),(1,1),(2,2),(3,2),(4,1),(5,2),(6,1),(7,2),(8,2),(9,1),(10,2)] ze1 kR ?_;refine pU I (fA am I aX I) (pK I (qL (v:=.slice p a.sides.length c) bH I (cO 1 I I)) (yM I (pU I (iA bF bJ I I hb1 oM sL) ?_)));refine pQ I (eA mD bJ I hsa.rd (gE hka)) dC ?_;refine pU I (fA am I aX I) (pK I (qL (v:=.slice q b.sides.length d) bH I (cO 0 I I)) (yM I (pU I (iA bF bJ I I hb2 oM sL) ?_)));refine pQ I (eA mD bJ I hsb.rd (gE hkb)) dC ?_;refine pU I (SU.neqSide I I) (pN (tN ?_));refine iP I (fun hne=>?_) (fun hne=>?_)
   ·refine rZ (aT I (rE (bR (tR (tR (bR (tR (dR (s':=s) uR ?_))))))));exact za6 (.inl I) results72 I ⟨zd9 vb (Eq.symm (zf5 fun e=>hne (by simp[e]))),I,I⟩
   ·refine kP (bN (tN (rG (lM I (yD I (lA I (nL ?_)))))));exact gA (k+1) sB I I ⟨oM,md hka hkb heq (zg7 hne)⟩ oM
  ·have hkk:k=a.sides.length:=oM;subst hkk;have hs:=nU hln heq;refine xI (tX (tX (bX (tN (rZ (aT I (rE (dR (s':=s) uR ?_))))))));exact za6 (.inl I) results72 I ⟨zd9 vb (Eq.symm (zf6 (EM.2 ⟨hid,hdim,hs⟩))),I,I⟩
theorem Aq (l:List Cl):∀ (acc:List Cl) (c:Cl),(c∈acc∨c∈l)→∃ x∈l.foldl fW acc,x.id=c.id:=by
 induction l with
 | nil=>intro acc c h; rcases h with h | h; exact⟨c,h,I⟩; simp at h
 | cons y r ih =>
  intro acc c h;simp only[zi5]
  rcases h with h | h
  ·exact ih (fW acc y) c (.inl (by unfold fW; split; exact h; simp[h]))
  ·rcases ze8.1 h with rfl | h
   ·by_cases ha:acc.any (fun x=>x.id == c.id)=true
    ·rw[qO ha];rw[zj4] at ha;obtain ⟨z,hz,he⟩:=ha;obtain ⟨x,hx,hxe⟩:=ih acc z (.inl hz);exact⟨x,hx,by rw[hxe]; simpa using he⟩
    ·have ha':acc.any (fun x=>x.id == c.id)=false:=by simpa using ha
     rw[kC ha'];exact ih _ c (.inl (by simp))
   ·exact ih _ c (.inr h)
theorem C2 {L:List Cl}(hs:Srt Cl.id L){k:Nat}(h0:0<k)(hk:k<L.length):((L.take k).foldl fW []).any (fun x=>x.id == L[k].id)=decide (L[k].id=(L[k - 1]'oM).id):=by
 rw[Bool.eq_iff_iff,zj4,zj2];constructor
 ·rintro ⟨x,hx,he⟩;have hm:=(sa _ [] x hx).resolve_left (by simp);obtain ⟨j,hj,rfl⟩:=zc5 hm;rw[ze2] at hj;rw[List.getElem_take] at he;have he':(L[j]'oM).id=L[k].id:=by simpa using he
  rcases Nat.lt_or_ge j (k - 1) with h | h
  ·have h1:=zc7.1 hs j (k - 1) oM oM h;have h2:=zc7.1 hs (k - 1) k oM hk oM;omega
  ·have:j=k - 1:=oM;subst this;exact he'.symm
 ·intro he;have hm:(L[k - 1]'oM)∈L.take k:=by
   have:k - 1<(L.take k).length:=by rw[ze2]; omega
   have h2:=gM this;rwa [List.getElem_take] at h2
  obtain ⟨x,hx,hxe⟩:=Aq (L.take k) [] _ (.inr hm);exact⟨x,hx,by rw[hxe,← he]; simp⟩
theorem ct (E:World)(g:PH)(s:Own)(v:Value)(l:List Cl)(hv:ao g v l)(hf:cU l) :
  Ctr Tryz.prog E 67 #[.agg #[v]] g s (fun r g' s'=>s=s'∧Le g g'∧ao g' r (ae l)):=by
 obtain ⟨p,c,rfl⟩:=hv.form;have hsrt:=gH l;have hcl:=ay l;have hfl:=hf.1;refine za9 (args:=[.agg #[.slice p l.length c]]) func67 I ntmps67 (bE I) ?_;refine rZ (bW (bO I) fun b1=>?_);refine aT I (rZ (lU (fA cH I bG I) (lK (qL dg I (cO 0 I I)) (lW (cL call114 I (jh E l.length g _ _ l (lR _) hv hf)) ?_))));rintro v8 g1 _ ⟨rfl,hle,h8⟩;obtain ⟨rs,hrs,hall⟩:=h8;have hrl:=hall.length;obtain ⟨q,d,rfl⟩:=hrs.form;refine aT I (rZ (aT I (sQ (rZ (aT I (bK (zb4 64 3 ?_)))))));refine oP (ι:=Value×Nat×List Rc) (fun i=>[(3,.slice q rs.length d),(4,i.1),(5,vi i.2.1)]) (fun _=>g1) (fun i=>rowA encCell 64 i.1 i.2.2::pt b1 (.cells #[.slice p l.length c] 31 (0,0))::s)
  (fun i=>i.2.1≤rs.length∧au (aq g1) (((aa l).take i.2.1).foldl fW []) i.2.2) (fun i=>rs.length - i.2.1) (.slice none 0 0,0,[]) sB rfl rfl ⟨zf4 _,by simp[au]⟩ ?_
 rintro ⟨ov,k,acc⟩ ⟨hk,hacc⟩;dsimp only at hk hacc ⊢;have hal:=hacc.length;have hal2:=fm ((aa l).take k) [];simp only[ze2,zc2] at hal2;refine sQ (sW I (lM I (lU (eN az I) (yL I (tZ ?_)))));refine iP I (fun hlt=>?_) (fun hlt=>?_)
 ·have hkr:k<rs.length:=oM;have hkl:k<(aa l).length:=oM;have hb1:=hrs.based oM;have hcr:=hall.get (gE hkl) (gE hkr);have htake:((aa l).take (k+1)).foldl fW []=fW (((aa l).take k).foldl fW []) (aa l)[k]:=by
   rw[tS hkl,zi6]; rfl
  have hgx:rs[((k:Nat):Int).toNat]?=some rs[k]:=gE hkr;have hnew:fW (((aa l).take k).foldl fW []) (aa l)[k]=((aa l).take k).foldl fW []++[(aa l)[k]]→au (aq g1) (((aa l).take (k+1)).foldl fW []) (acc++[rs[k]]):=fun h=>by
   rw[htake,h]; exact hacc.append ⟨hcr,trivial⟩
  by_cases hk0:k=0
  ·subst hk0;refine kP (tN (sQ (bK (sQ ?_))));refine dW [] [(0,2),(1,2),(2,2),(3,2),(4,2),(5,2),(6,2),(7,1),(8,2),(9,2),(10,2),(11,2),(12,2),(13,1),(14,2),(15,2)] ze1 kR ?_;refine yM I (pU I (SU.eq (v':=vb true) (eQ I I) I) (yM I (yG I (yG I (yG I (yG I (yI I (yG I (yG I (yG I (yG I (yG I (yI I (yG I (pU I (wT I I) (pN (tN (cT I (rG (lM I (lM I (lM I (lU (iA az aw I I hb1 oM sL) (lK (eA eO aw I hrs.rd hgx) (lW (bS sty29 I I I (ab sB) dC) ?_)))))))))))))))))))))))));rintro _ _ _ ⟨b36,rfl,rfl,rfl⟩;refine lW (aP (e:=encCell) 0 rs[0] sty29 I I I I I oM oM) ?_;rintro v37 _ _ ⟨rfl,rfl⟩;refine lA I (nL (bN (tN (rG (lM I (yD I (lA I (nL ?_))))))));exact gA (v37,0+1,acc++[rs[0]]) sB I I ⟨lN,hnew (kC (by simp))⟩ lN
  ·have hk1:k - 1<rs.length:=oM;have hk1l:k - 1<(aa l).length:=oM;have hany:=C2 hsrt (by omega:0<k) hkl;have hcr1:=hall.get (gE hk1l) (gE hk1);have hgy:rs[((k:Int) - 1).toNat]?=some rs[k - 1]:=by rw[show ((k:Int) - 1).toNat=k - 1 by omega]; exact gE hk1
   refine kP (tN (sQ (bK (sQ ?_))));refine dW [] [(0,2),(1,2),(2,2),(3,2),(4,2),(5,2),(6,2),(7,1),(8,2),(9,2),(10,2),(11,2),(12,2),(13,1),(14,2),(15,2)] ze1 kR ?_;refine yM I (pU I (SU.eq (v':=vb false) (eQ I I) (zd9 vb (zf5 oM))) (yM I (yJ I (yJ I (zb1 I (gT I I I dC) (iA az aw I I hb1 oM sL) dC (zb1 I (gT I I I dC) (fC am I zT3 I hb1) dC (SP.gq I (gT I I I dC) (aZ (e:=encCell) (o:=0) (u:=vi rs[k].id) iT3 I hrs.rd hgx I) dC (yJ I (yJ I (zb1 I (gT I I I dC) (sU I I oM) dC (zb1 I (gT I I I dC) (iA az aw I I hb1 oM sL) dC (zb1 I (gT I I I dC) (fC am I zT3 I hb1) dC (SP.gq I (gT I I I dC) (aZ (e:=encCell) (o:=0) (u:=vi rs[k - 1].id) iT3 I hrs.rd hgy I) dC (zb1 I (gT I I I dC) (nQ I I) dC (pU I (wF I I) (pN (tN ?_)))))))))))))))));refine iP I (fun hne=>?_) (fun hne=>?_)
   ·refine rG (lM I (lM I (lM I (lU (iA az aw I I hb1 oM sL) (lK (eA eO aw I hrs.rd hgx) (lW (bS sty29 I I I (ab sB) dC) ?_))))));rintro _ _ _ ⟨b36,rfl,rfl,rfl⟩;refine lW (aP (e:=encCell) 0 rs[k] sty29 I I I I I oM oM) ?_;rintro v37 _ _ ⟨rfl,rfl⟩;refine lA I (nL (bN (tN (rG (lM I (yD I (lA I (nL ?_))))))));rw[hcr.1,hcr1.1] at hne;exact gA (v37,k+1,acc++[rs[k]]) sB I I ⟨lN,hnew (kC (by rw[hany]; exact zf5 hne))⟩ lN
   ·refine kP (bN (tN (rG (lM I (yD I (lA I (nL ?_)))))));rw[hcr.1,hcr1.1] at hne;exact gA (ov,k+1,acc) sB I I ⟨lN,by dsimp only; rw[htake,qO (by rw[hany]; exact zf6 (zg7 hne))]; exact hacc⟩ lN
 ·have hkk:(aa l).take k=aa l:=tL oM;rw[hkk] at hacc;refine xI (tX (tX (bX (tN (sW I (aT I (rE (fT fun g2 hle2 hs2=>?_))))))));refine dR (s':=s) uR ?_;exact za6 (.inl I) results67 I ⟨I,hle.trans hle2,acc,hs2,hacc.mono fun _ _=>aq.mono hle2⟩
def atC (l:List Cl)(id:Int):Int:=if (l.map Cl.id).contains id then lbI (l.map Cl.id) id else -1
theorem e8 (E:World)(g:PH)(s:Own)(v:Value)(l:List Cl)(id:Int)(hv:ao g v l)(hl:l.length<1099511627776)(hs:(l.map Cl.id).Pairwise (· ≤ ·)) :
  Ctr Tryz.prog E 68 #[v,vi id] g s (fun r g' s'=>r=vi (atC l id)∧g=g'∧s=s'):=by
 obtain ⟨rs,hrs,hall⟩:=hv;have hrl:=hall.length;obtain ⟨p,c,rfl⟩:=hrs.form;have hids:=qN hall;have hml:(l.map Cl.id).length=l.length:=by simp
 have hri:∀ k (h:k<(l.map Cl.id).length) (h2:k<rs.length),(l.map Cl.id)[k]=rs[k].id:=fun k h h2=>by simp only[hids]; simp
 unfold atC;refine za9 (args:=[.slice p rs.length c,vi id]) func68 I ntmps68 (bE I) ?_;refine rZ (aT I (rZ (aT I (sW I (lU (eN az I) (aT I ?_))))));generalize l.map Cl.id=L at *;refine SC.cut (ι:=Nat) (fun i=>[(0,.slice p rs.length c),(1,vi id),(5,vi i)]) (fun _=>g) (fun _=>s) (fun i=>i≤L.length∧(∀ k (h:k<L.length),k<i→L[k]<id)∧∀ k (h:k<L.length),i≤k→id≤L[k]) ?_ ?_
 ·refine bK ?_;refine oP (ι:=Nat×Nat) (fun q=>[(0,.slice p rs.length c),(1,vi id),(5,vi q.1),(6,vi q.2)]) (fun _=>g) (fun _=>s)
   (fun q=>q.1≤q.2∧q.2≤L.length∧(∀ k (h:k<L.length),k<q.1→L[k]<id)∧∀ k (h:k<L.length),q.2≤k→id≤L[k]) (fun q=>q.2 - q.1) (0,L.length)
   ⟨rfl,rfl,rfl,bQ oM,trivial⟩ rfl rfl ⟨zf4 _,lR _,fun k _ h=>absurd h oM,fun k h1 h2=>absurd h1 (by dsimp only at h2; omega)⟩ ?_
  rintro ⟨i,j⟩ ⟨hij,hj,hlo,hhi⟩;dsimp only at hij hj hlo hhi ⊢;refine sQ (sW I (lM I (yL I (tZ ?_))));refine iP I (fun hlt=>?_) (fun hlt=>?_)
  ·have hb1:=hrs.based oM;have hml2:(i+j) / 2<L.length:=oM;have hmr:(i+j) / 2<rs.length:=oM;have hmx:rs[((((i+j) / 2:Nat):Int)).toNat]?=some rs[(i+j) / 2]:=gE hmr;have hmi:=hri _ hml2 hmr;refine kP (tN (bK (sW I (lM I (yD I (lU (SU.eq (v':=vi (((i+j) / 2:Nat):Int)) (SU.quo I I dC) (zd9 vi (by rw[← Int.natCast_add]; exact kM _ oM))) ?_))))));refine aT I (sW I (lM I (lU (iA az aw I I hb1 oM sL) (lU (fC am I zT3 I hb1) (lK (aZ (e:=encCell) (o:=0) (u:=vi rs[(i+j) / 2].id) iT3 I hrs.rd hmx I) (lM I (yL I (tZ ?_))))))));refine iP I (fun hc=>?_) (fun hc=>?_)
   ·refine rG (lM I (yD I (lA I (nL (bN ?_)))));refine gA ((i+j) / 2+1,j) sB I I ⟨lN,hj,fun k hk h=>?_,hhi⟩ lN;dsimp only at h;rw[← hmi] at hc
    rcases Nat.eq_or_lt_of_le (show k≤(i+j) / 2 by omega) with rfl | h'
    ·exact hc
    ·have:=zc7.1 hs k ((i+j) / 2) hk hml2 h';omega
   ·refine rG (lM I (lA I (nL (bN ?_))));refine gA (i,(i+j) / 2) sB I I ⟨lN,lN,hlo,fun k hk h=>?_⟩ lN;dsimp only at h;rw[← hmi] at hc
    rcases Nat.eq_or_lt_of_le (show (i+j) / 2≤k by omega) with h' | h'
    ·subst h'; omega
    ·have:=zc7.1 hs ((i+j) / 2) k hml2 hk h';omega
  ·have hie:i=j:=oM;subst hie;refine xI (tX (tX (bX ?_)));exact za7 i sB I I ⟨hj,hlo,hhi⟩
 ·rintro i ⟨hj,hlo,hhi⟩;have hlb:=EJ hj hlo hhi;by_cases hin:(i:Int)<(rs.length:Int)
  ·have hir:i<rs.length:=oM;have hil:i<L.length:=oM;have hb1:=hrs.based oM;have hmx:rs[((i:Nat):Int).toNat]?=some rs[i]:=gE hir;have hmi:=hri _ hil hir;have hfnd:=BQ hs hlo hhi hil;refine sQ (sW I (lM I (lU (eN az I) (lU (SU.eq (v':=vb true) (lS I I) (zd9 vb (zf6 hin))) (lM I (yC I (yC I (lY I I I (iA az aw I I hb1 oM sL) (lY I I I (fC am I zT3 I hb1) (SL.gq (gT I I I dC) (aZ (e:=encCell) (o:=0) (u:=vi rs[i].id) iT3 I hrs.rd hmx I) dC (yC I (lY I I I (eQ I I) (yP I (tZ ?_))))))))))))));refine iP I (fun hc=>?_) (fun hc=>?_)
   ·refine sW I (aT I (rE (tR ?_)));rw[← hmi] at hc;exact za6 (.inl I) results68 I ⟨by rw[← hfnd,zf6 hc,zf8 I,hlb],I,I⟩
   ·refine kP (tN (rZ (aT I (rE ?_))));rw[← hmi] at hc;exact za6 (.inl I) results68 I ⟨by rw[← hfnd,zf5 hc]; rfl,rfl,rfl⟩
  ·have hnf:=BC hlo oM;refine sQ (sW I (lM I (lU (eN az I) (lU (SU.eq (v':=vb false) (lS I I) (zd9 vb (zf5 hin))) (lM I (yA I (yA I (yA I (yA I (yA I (yA I (yA I (yF I (tZ (cF I (kP (tN (rZ (aT I (rE ?_))))))))))))))))))));exact za6 (.inl I) results68 I ⟨by rw[hnf]; rfl,rfl,rfl⟩
theorem Af {l:List Int}(hs:l.Pairwise (· ≤ ·))(x:Int):(∀ k (h:k<l.length),k<lbI l x→l[k]<x)∧(∀ k (h:k<l.length),lbI l x≤k→x≤l[k]):=by
 induction l with
 | nil=>exact⟨fun k h=>absurd h (by simp),fun k h=>absurd h (by simp)⟩
 | cons a r ih =>
  obtain ⟨h1,h2⟩:=zj7.1 hs;obtain ⟨i1,i2⟩:=ih h2;by_cases ha:a<x
  ·have hl:lbI (a::r) x=lbI r x+1:=by simp[lbI,ha]
   rw[hl];refine⟨fun k h hk=>?_,fun k h hk=>?_⟩
   ·cases k with
    | zero=>exact ha
    | succ k=>exact i1 k (by simpa using h) oM
   ·cases k with
    | zero=>omega
    | succ k=>exact i2 k (by simpa using h) oM
  ·have hz:lbI (a::r) x=0:=by
    unfold lbI;rw[List.length_eq_zero_iff,List.filter_eq_nil_iff];intro y hy
    rcases ze8.1 hy with rfl | hy
    ·simpa using Int.not_lt.1 ha
    ·have:=h1 y hy; simp; omega
   rw[hz];refine⟨fun k h hk=>absurd hk oM,fun k h _=>?_⟩;cases k with
   | zero=>exact Int.not_lt.1 ha
   | succ k =>
    have hk':k<r.length:=by simpa using h
    have:=h1 r[k] (gM hk');simp;omega
theorem lh {tl:List Cl}(hs:(tl.map Cl.id).Pairwise (· ≤ ·))(id:Int):(aG tl id=none∧atC tl id = -1)∨∃ c k,aG tl id=some c∧atC tl id=((k:Nat):Int)∧tl[k]?=some c:=by
 obtain ⟨h1,h2⟩:=Af hs id;by_cases hc:(tl.map Cl.id).contains id=true
 ·right;have hm:id∈tl.map Cl.id:=by simpa using hc
  obtain ⟨c0,hc0,e0⟩:=ze9.1 hm;cases hf:aG tl id with
  | none =>
   have:=List.find?_eq_none.1 hf c0 hc0;simp[e0] at this
  | some c =>
   have hi:lbI (tl.map Cl.id) id<tl.length:=by
    rcases Nat.lt_or_ge (lbI (tl.map Cl.id) id) tl.length with h | h
    ·exact h
    ·obtain ⟨j,hj,rfl⟩:=zc5 hc0;have:=h1 j (by simpa using hj) oM;simp at this;omega
   refine⟨c,lbI (tl.map Cl.id) id,I,by unfold atC; rw[zf8 hc],?_⟩;rw[gE hi];have hge:=h2 _ (by simpa using hi) (lR _);have hid:tl[lbI (tl.map Cl.id) id].id=id:=by
    obtain ⟨j,hj,rfl⟩:=zc5 hc0;have hji:lbI (tl.map Cl.id) id≤j:=by
     rcases Nat.lt_or_ge j (lbI (tl.map Cl.id) id) with h | h
     ·have:=h1 j (by simpa using hj) h; simp at this; omega
     ·exact h
    rcases Nat.eq_or_lt_of_le hji with h | h
    ·simp only[h]; exact e0
    ·have h3:=zc7.1 hs _ j (by simpa using hi) (by simpa using hj) h;simp at h3 hge;omega
   unfold aG at hf;rw[List.find?_eq_some_iff_getElem] at hf;obtain ⟨hp,j,hj,ej,hlt⟩:=hf;have hp':c.id=id:=by simpa using hp
   congr 1;rw[← ej];have hji:j=lbI (tl.map Cl.id) id:=by
    rcases Nat.lt_trichotomy j (lbI (tl.map Cl.id) id) with h | h | h
    ·have:=h1 j (by simpa using hj) h; simp[ej,hp'] at this
    ·exact h
    ·have:=hlt _ h; simp[hid] at this
   simp only[hji]
 ·left;have hn:id ∉ tl.map Cl.id:=by simpa using hc
  refine⟨?_,by unfold atC; rw[zf7 hc]⟩;unfold aG;rw[List.find?_eq_none];intro x hx;simp;exact fun e=>hn (ze9.2 ⟨x,hx,e⟩)
theorem zB {l:List aj}(h2:l.length=2)(hns:l.any bL=false):∃ a b,l=[a,b]∧(decide (mC l≠0))=decide (a.sign=b.sign):=by
 match l,h2 with
 | [a,b],_ =>
  simp only[List.any_cons,List.any_nil,Bool.or_false,Bool.or_eq_false_iff] at hns;have e1:a.sign=1∨a.sign = -1:=by
   have h1:=hns.1;simp only[bL,Bool.and_eq_false_iff,decide_eq_false_iff_not,ne_eq,Decidable.not_not] at h1;exact h1
  have e2:b.sign=1∨b.sign = -1:=by
   have h1:=hns.2;simp only[bL,Bool.and_eq_false_iff,decide_eq_false_iff_not,ne_eq,Decidable.not_not] at h1;exact h1
  refine⟨a,b,I,?_⟩;rw[Bool.eq_iff_iff];simp[mC];omega
theorem pR (E:World)(g:PH)(s:Own)(v:Value)(tl:List Cl)(c:Cl)(r:Rc)(hv:ao g v tl)(htl:tl.length<1099511627776)(hs:(tl.map Cl.id).Pairwise (· ≤ ·))(hc:aq g c r)(hl:c.sides.length<1099511627776) :
  Ctr Tryz.prog E 115 #[v,rcv r] g s (fun r g' s'=>r=vi (cz tl c)∧g=g'∧s=s'):=by
 obtain ⟨rs,hrs,hall⟩:=hv;have hv:ao g v tl:=⟨rs,hrs,hall⟩;have hrl:=hall.length;obtain ⟨vp,vc,rfl⟩:=hrs.form;obtain ⟨rp,rcap,rfl,hcs⟩:=dq hc;have hx0:=fun h=>hcs.based h;refine za9 (args:=[.slice vp rs.length vc,.agg #[vi c.id,vi c.dim,.slice rp c.sides.length rcap]]) func115 I ntmps115 (bE I) ?_;refine rZ (bW (bO I) fun b3=>?_);refine aT I (sQ ?_);refine SC.to (g':=g) (s':=pt b3 (.cells #[vi c.id,vi c.dim,.slice rp c.sides.length rcap] 64 (0,0))::s) (fun w hw=>hw) ?_;refine SC.cutB 16 (eX c) ?_ ?_
 ·refine rG (lU (fA am I zT3 I) (lK (qL (v:=vi c.dim) iT3 I (cO 0 I I)) (yL I (lM I ?_))));refine sP ?_ ?_
  ·intro h12;refine yA I (yA I (yA I (yP I (nL ?_))));exact za8 (by simp_all[bB,eX] <;> omega) mI
  ·intro h12;refine lY I I I (fA am I zT3 I) (SL.gq (gT I I I dC) (qL (v:=vi c.dim) iT3 I (cO 0 I I)) dC (lY I I I (gR I I) (yF I (nL ?_))));exact za8 (by simp_all[bB,eX] <;> omega) mI
 refine iQ I (fun hdb=>?_) (fun hdb=>?_)
 ·refine rZ (aT I (rE (tR (dR (s':=s) uR ?_))));exact za6 (.inl I) results115 I ⟨by unfold cz; rw[zf8 hdb],I,I⟩
 ·have hd8:0≤c.dim∧c.dim≤8:=by simp[eX] at hdb; omega
  refine kP (tN (rZ (lU (fA am I aX I) (lK (qL (v:=.slice rp c.sides.length rcap) bH I (cO 0 I I)) (lU (eN bF I) (aT I (sQ ?_)))))));refine SC.cutB 48 (aW c) ?_ ?_
  ·refine rG (lU (fA am I zT3 I) (lK (qL (v:=vi c.dim) iT3 I (cO 0 I I)) (yE I (lM I ?_))));refine sP ?_ ?_
   ·intro h23;refine yC I (lY I I I (gR I I) (yP I (lM I ?_)));refine sP ?_ ?_
    ·intro h27;refine yA I (yA I (yA I (yA I (yB I (yB I (yA I (yP I (lM I (yA I (yA I (yA I (yA I (yB I (yB I (yB I (yB I (yB I (yB I (yA I (yP I (nL ?_)))))))))))))))))))));exact za8 (by simp_all[bB,aW] <;> omega) mI
    ·intro h27;refine lY I I I (fA am I zT3 I) (SL.gq (gT I I I dC) (qL (v:=vi c.dim) iT3 I (cO 0 I I)) dC (lY I I I (eQ I I) (yC I ?_)));refine sP ?_ ?_
     ·intro h31;refine yC I (lY I I I (nQ I I) (lY I I I (wT I I) (yF I (lM I ?_))));refine sP ?_ ?_
      ·intro h36;refine yA I (yA I (yA I (yA I (yB I (yB I (yB I (yB I (yB I (yB I (yA I (yP I (nL ?_))))))))))));exact za8 (by simp_all[bB,aW] <;> omega) mI
      ·intro h36;refine lY I I I (fA am I zT3 I) (SL.gq (gT I I I dC) (qL (v:=vi c.dim) iT3 I (cO 0 I I)) dC (lY I I I (gR I I) (yC I ?_)));refine sP ?_ ?_
       ·intro h40;refine yC I (lY I I I (lS I I) (yC I ?_));refine sP ?_ ?_
        ·intro h43;refine yA I (yA I (lY I I I (wT I I) (lY I I I (wT I I) (yF I (nL ?_)))));exact za8 (by simp_all[bB,aW] <;> omega) mI
        ·intro h43;refine yC I (lY I I I (gR I I) (lY I I I (wF I I) (lY I I I (wT I I) (yF I (nL ?_)))));exact za8 (by simp_all[bB,aW] <;> omega) mI
       ·intro h40;refine yA I (yA I (yA I (yB I (yB I (yA I (lY I I I (wF I I) (yF I (nL ?_))))))));exact za8 (by simp_all[bB,aW] <;> omega) mI
     ·intro h31;refine yA I (yA I (lY I I I (wF I I) (yF I (lM I (lY I I I (fA am I zT3 I) (SL.gq (gT I I I dC) (qL (v:=vi c.dim) iT3 I (cO 0 I I)) dC (lY I I I (gR I I) (yC I ?_))))))));refine sP ?_ ?_
      ·intro h40;refine yC I (lY I I I (lS I I) (yC I ?_));refine sP ?_ ?_
       ·intro h43;refine yA I (yA I (lY I I I (wT I I) (lY I I I (wT I I) (yF I (nL ?_)))));exact za8 (by simp_all[bB,aW] <;> omega) mI
       ·intro h43;refine yC I (lY I I I (gR I I) (lY I I I (wF I I) (lY I I I (wT I I) (yF I (nL ?_)))));exact za8 (by simp_all[bB,aW] <;> omega) mI
      ·intro h40;refine yA I (yA I (yA I (yB I (yB I (yA I (lY I I I (wF I I) (yF I (nL ?_))))))));exact za8 (by simp_all[bB,aW] <;> omega) mI
   ·intro h23;refine yA I (yA I (yF I (lM I (lY I I I (fA am I zT3 I) (SL.gq (gT I I I dC) (qL (v:=vi c.dim) iT3 I (cO 0 I I)) dC (lY I I I (eQ I I) (yC I ?_)))))));refine sP ?_ ?_
    ·intro h31;refine yC I (lY I I I (nQ I I) (lY I I I (wT I I) (yF I (lM I ?_))));refine sP ?_ ?_
     ·intro h36;refine yA I (yA I (yA I (yA I (yB I (yB I (yB I (yB I (yB I (yB I (yA I (yP I (nL ?_))))))))))));exact za8 (by simp_all[bB,aW] <;> omega) mI
     ·intro h36;refine lY I I I (fA am I zT3 I) (SL.gq (gT I I I dC) (qL (v:=vi c.dim) iT3 I (cO 0 I I)) dC (lY I I I (gR I I) (yC I ?_)));refine sP ?_ ?_
      ·intro h40;refine yC I (lY I I I (lS I I) (yC I ?_));refine sP ?_ ?_
       ·intro h43;refine yA I (yA I (lY I I I (wT I I) (lY I I I (wT I I) (yF I (nL ?_)))));exact za8 (by simp_all[bB,aW] <;> omega) mI
       ·intro h43;refine yC I (lY I I I (gR I I) (lY I I I (wF I I) (lY I I I (wT I I) (yF I (nL ?_)))));exact za8 (by simp_all[bB,aW] <;> omega) mI
      ·intro h40;refine yA I (yA I (yA I (yB I (yB I (yA I (lY I I I (wF I I) (yF I (nL ?_))))))));exact za8 (by simp_all[bB,aW] <;> omega) mI
    ·intro h31;refine yA I (yA I (lY I I I (wF I I) (yF I (lM I (lY I I I (fA am I zT3 I) (SL.gq (gT I I I dC) (qL (v:=vi c.dim) iT3 I (cO 0 I I)) dC (lY I I I (gR I I) (yC I ?_))))))));refine sP ?_ ?_
     ·intro h40;refine yC I (lY I I I (lS I I) (yC I ?_));refine sP ?_ ?_
      ·intro h43;refine yA I (yA I (lY I I I (wT I I) (lY I I I (wT I I) (yF I (nL ?_)))));exact za8 (by simp_all[bB,aW] <;> omega) mI
      ·intro h43;refine yC I (lY I I I (gR I I) (lY I I I (wF I I) (lY I I I (wT I I) (yF I (nL ?_)))));exact za8 (by simp_all[bB,aW] <;> omega) mI
     ·intro h40;refine yA I (yA I (yA I (yB I (yB I (yA I (lY I I I (wF I I) (yF I (nL ?_))))))));exact za8 (by simp_all[bB,aW] <;> omega) mI
  refine iQ I (fun hcb=>?_) (fun hcb=>?_)
  ·refine rZ (aT I (rE (tR (dR (s':=s) uR ?_))));exact za6 (.inl I) results115 I ⟨by unfold cz; rw[zf7 (by simp[hdb]),zf8 hcb],I,I⟩
  ·refine kP (tN (sQ (rZ (aT I (bK ?_)))));refine oP (ι:=Nat) (fun k=>[(0,.slice vp rs.length vc),(3,pp b3 0),(5,vi c.sides.length),(6,vi k)]) (fun _=>g)
    (fun _=>pt b3 (.cells #[vi c.id,vi c.dim,.slice rp c.sides.length rcap] 64 (0,0))::s) (fun k=>k≤c.sides.length∧(List.range k).any (hX tl c)=false) (fun k=>c.sides.length - k) 0
    sB rfl rfl ⟨zf4 _,by simp⟩ ?_
   rintro k ⟨hk,hno⟩;refine sQ (sW I (lM I (yL I (tZ ?_))));refine iP I (fun hlt=>?_) (fun hlt=>?_)
   ·have hkl:k<c.sides.length:=oM;have hb1:=hx0 oM;have hjx:c.sides[((k:Nat):Int).toNat]?=some c.sides[k]:=gE hkl;have hjx':c.sides[k]?=some c.sides[k]:=gE hkl;have hprev:(k:Int)>0→∃ q,c.sides[((k:Int) - 1).toNat]?=some q∧c.sides[k - 1]?=some q:=fun h=>by
     have h2:k - 1<c.sides.length:=oM;exact⟨c.sides[k - 1],by rw[show ((k:Int) - 1).toNat=k - 1 by omega]; exact gE h2,gE h2⟩
    generalize c.sides[k]=y at *;have hbat:hX tl c k=cj tl c k y:=by unfold hX; rw[hjx']
    have hT:cj tl c k y=true→(List.range c.sides.length).any (hX tl c)=true:=fun h=>zj4.2 ⟨k,List.mem_range.2 hkl,by rw[hbat]; exact h⟩;have hF:cj tl c k y=false→(List.range (k+1)).any (hX tl c)=false:=fun h=>by rw[List.range_succ,List.any_append,hno]; simp[hbat,h]
    rcases lh hs y.cell with ⟨hfn,hat⟩ | ⟨yc,kk,hfs,hat,hyc⟩
    ·have hbad:cj tl c k y=true:=nM (by rw[hfn]; simp);refine kP (tN (sQ (bK (sW I (lU (fA am I aX I) (lK (qL (v:=.slice rp c.sides.length rcap) bH I (cO 0 I I)) (lM I (lU (iA bF bJ I I hb1 oM sL) (lU (fC de I zT3 I hb1) (lK (aZ (e:=encSide) (o:=0) (u:=vi y.cell) iT3 I hcs.rd hjx I) (lW (cL call68 I (e8 E g _ _ tl y.cell hv htl hs)) ?_)))))))))));rintro _ _ _ ⟨rfl,rfl,rfl⟩;rw[hat];refine aT I (sQ ?_);refine dW [] [(0,2),(1,2),(2,2),(3,2),(4,2),(5,2),(6,2),(7,1),(8,2),(9,1),(10,2),(11,2),(12,2),(13,2),(14,2),(15,2),(16,2),(17,2),(18,1),(19,2),(20,2),(21,2),(22,1),(23,2),(24,1),(25,2),(26,2),(27,2),(28,2),(29,1),(30,2),(31,2),(32,2)] ze1 kR ?_;refine yM I (pU I (SU.eq (v':=vb true) (lS I I) I) (yM I (yG I (yG I (yG I (yG I (yI I (yG I (yI I (yG I (yG I (pU I (wT I I) (yM I (yG I (yG I (yG I (yH I (SP.off1 I (zb2 I I I dC) dC (yH I (yH I (yH I (SP.off1 I (zb2 I I I dC) dC (yH I (SP.off1 I (zb2 I I I dC) dC (yH I (yH I (yH I (yH I (SP.off1 I (zb2 I I I dC) dC ?_)))))))))))))))))))))))))))));refine yH I (yG I (pU I (wT I I) (pN (tN (cT I (rZ (aT I (rE (bR (tR (tR (bR (tR (dR (s':=s) uR ?_))))))))))))));exact za6 (.inl I) results115 I ⟨by unfold cz; rw[zf7 (by simp[hdb]),zf7 (by simp[hcb]),zf8 (hT hbad)],I,I⟩
    ·have hkk:kk<tl.length:=(zf3.1 hyc).1;have hkr:kk<rs.length:=oM;have hbv:=hrs.based oM;have hyr:=hall.get hyc (gE hkr);have hgr:rs[((kk:Nat):Int).toNat]?=some rs[kk]:=gE hkr;have hsome:(aG tl y.cell).isSome=true:=by rw[hfs]; rfl
     have hget:((aG tl y.cell).getD fK)=yc:=by rw[hfs]; rfl
     by_cases hdm:yc.dim≠c.dim - 1
     ·have hbad:cj tl c k y=true:=sX hsome (by rw[hget]; exact hdm);refine kP (tN (sQ (bK (sW I (lU (fA am I aX I) (lK (qL (v:=.slice rp c.sides.length rcap) bH I (cO 0 I I)) (lM I (lU (iA bF bJ I I hb1 oM sL) (lU (fC de I zT3 I hb1) (lK (aZ (e:=encSide) (o:=0) (u:=vi y.cell) iT3 I hcs.rd hjx I) (lW (cL call68 I (e8 E g _ _ tl y.cell hv htl hs)) ?_)))))))))));rintro _ _ _ ⟨rfl,rfl,rfl⟩;rw[hat];refine aT I (sQ ?_);refine dW [] [(0,2),(1,2),(2,2),(3,2),(4,2),(5,2),(6,2),(7,1),(8,2),(9,1),(10,2),(11,2),(12,2),(13,2),(14,2),(15,2),(16,2),(17,2),(18,1),(19,2),(20,2),(21,2),(22,1),(23,2),(24,1),(25,2),(26,2),(27,2),(28,2),(29,1),(30,2),(31,2),(32,2)] ze1 kR ?_;refine yM I (pU I (SU.eq (v':=vb false) (lS I I) (zd9 vb (zf5 oM))) (yM I (yJ I (yJ I (zb1 I (gT I I I dC) (iA az aw I I hbv oM sL) dC (zb1 I (gT I I I dC) (fC am I zT3 I hbv) dC (SP.gq I (gT I I I dC) (aZ (e:=encCell) (o:=1) (u:=vi rs[kk].dim) iT3 I hrs.rd hgr I) dC (zb1 I (gT I I I dC) (fA am I zT3 I) dC (SP.gq I (gT I I I dC) (qL (v:=vi c.dim) iT3 I (cO 0 I I)) dC (zb1 I (gT I I I dC) (sU I I oM) dC (zb1 I (gT I I I dC) (SU.eq (v':=vb true) (nQ I I) (zd9 vb (zf6 (by rw[hyr.2.1]; exact hdm)))) dC ?_)))))))))));refine pU I (wF I I) (yM I (yG I (yG I (yG I (yH I (SP.off1 I (zb2 I I I dC) dC (yH I (yH I (yH I (SP.off1 I (zb2 I I I dC) dC (yH I (SP.off1 I (zb2 I I I dC) dC (yH I (yH I (yH I (yH I (SP.off1 I (zb2 I I I dC) dC (yH I (yG I (pU I (wT I I) (pN (tN (cT I (rZ (aT I (rE ?_))))))))))))))))))))))))));refine bR (tR (tR (bR (tR (dR (s':=s) uR ?_)))));exact za6 (.inl I) results115 I ⟨by unfold cz; rw[zf7 (by simp[hdb]),zf7 (by simp[hcb]),zf8 (hT hbad)],I,I⟩
     ·by_cases hk0:(k:Int)>0
      ·obtain ⟨q,hq1,hq2⟩:=hprev hk0;have hbd:=sS (i:=k) hsome (by rw[hget]; exact hdm) hk0 hq2;refine kP (tN (sQ (bK (sW I (lU (fA am I aX I) (lK (qL (v:=.slice rp c.sides.length rcap) bH I (cO 0 I I)) (lM I (lU (iA bF bJ I I hb1 oM sL) (lU (fC de I zT3 I hb1) (lK (aZ (e:=encSide) (o:=0) (u:=vi y.cell) iT3 I hcs.rd hjx I) (lW (cL call68 I (e8 E g _ _ tl y.cell hv htl hs)) ?_)))))))))));rintro _ _ _ ⟨rfl,rfl,rfl⟩;rw[hat];refine aT I (sQ ?_);refine dW [] [(0,2),(1,2),(2,2),(3,2),(4,2),(5,2),(6,2),(7,1),(8,2),(9,1),(10,2),(11,2),(12,2),(13,2),(14,2),(15,2),(16,2),(17,2),(18,1),(19,2),(20,2),(21,2),(22,1),(23,2),(24,1),(25,2),(26,2),(27,2),(28,2),(29,1),(30,2),(31,2),(32,2)] ze1 kR ?_;refine yM I (pU I (SU.eq (v':=vb false) (lS I I) (zd9 vb (zf5 oM))) (yM I (yJ I (yJ I (zb1 I (gT I I I dC) (iA az aw I I hbv oM sL) dC (zb1 I (gT I I I dC) (fC am I zT3 I hbv) dC (SP.gq I (gT I I I dC) (aZ (e:=encCell) (o:=1) (u:=vi rs[kk].dim) iT3 I hrs.rd hgr I) dC (zb1 I (gT I I I dC) (fA am I zT3 I) dC (SP.gq I (gT I I I dC) (qL (v:=vi c.dim) iT3 I (cO 0 I I)) dC (zb1 I (gT I I I dC) (sU I I oM) dC (zb1 I (gT I I I dC) (SU.eq (v':=vb false) (nQ I I) (zd9 vb (zf5 (by rw[hyr.2.1]; exact hdm)))) dC ?_)))))))))));refine pU I (wF I I) (yM I (yJ I (zb1 I (gT I I I dC) (SU.eq (v':=vb true) (gR I I) (zd9 vb (zf6 hk0))) dC (yJ I (zb1 I (gT I I I dC) (fA am I aX I) dC (SP.gq I (gT I I I dC) (qL (v:=.slice rp c.sides.length rcap) bH I (cO 0 I I)) dC (yJ I (zb1 I (gT I I I dC) (iA bF bJ I I hb1 oM sL) dC (zb1 I (gT I I I dC) (fC de I zT3 I hb1) dC (SP.gq I (gT I I I dC) (aZ (e:=encSide) (o:=0) (u:=vi y.cell) iT3 I hcs.rd hjx I) dC (zb1 I (gT I I I dC) (fA am I aX I) dC (SP.gq I (gT I I I dC) (qL (v:=.slice rp c.sides.length rcap) bH I (cO 0 I I)) dC (yJ I (zb1 I (gT I I I dC) (sU I I oM) dC (zb1 I (gT I I I dC) (iA bF bJ I I hb1 oM sL) dC (zb1 I (gT I I I dC) (fC de I zT3 I hb1) dC (SP.gq I (gT I I I dC) (aZ (e:=encSide) (o:=0) (u:=vi q.cell) iT3 I hcs.rd hq1 I) dC (zb1 I (gT I I I dC) (eQ I I) dC (zb1 I (gT I I I dC) (wT I I) dC (pU I (wF I I) (pN (tN ?_))))))))))))))))))))));refine iP I (fun heq=>?_) (fun heq=>?_)
       ·refine rZ (aT I (rE (bR (tR (tR (bR (tR (dR (s':=s) uR ?_))))))));exact za6 (.inl I) results115 I ⟨by unfold cz; rw[zf7 (by simp[hdb]),zf7 (by simp[hcb]),zf8 (hT (by rw[hbd]; exact zf6 heq.symm))],I,I⟩
       ·refine kP (bN (tN (rG (lM I (yD I (lA I (nL ?_)))))));exact gA (k+1) sB I I ⟨oM,hF (by rw[hbd]; exact zf5 fun e=>heq e.symm)⟩ oM
      ·have hbd:=sV (i:=k) (x:=y) hsome (by rw[hget]; exact hdm) hk0;refine kP (tN (sQ (bK (sW I (lU (fA am I aX I) (lK (qL (v:=.slice rp c.sides.length rcap) bH I (cO 0 I I)) (lM I (lU (iA bF bJ I I hb1 oM sL) (lU (fC de I zT3 I hb1) (lK (aZ (e:=encSide) (o:=0) (u:=vi y.cell) iT3 I hcs.rd hjx I) (lW (cL call68 I (e8 E g _ _ tl y.cell hv htl hs)) ?_)))))))))));rintro _ _ _ ⟨rfl,rfl,rfl⟩;rw[hat];refine aT I (sQ ?_);refine dW [] [(0,2),(1,2),(2,2),(3,2),(4,2),(5,2),(6,2),(7,1),(8,2),(9,1),(10,2),(11,2),(12,2),(13,2),(14,2),(15,2),(16,2),(17,2),(18,1),(19,2),(20,2),(21,2),(22,1),(23,2),(24,1),(25,2),(26,2),(27,2),(28,2),(29,1),(30,2),(31,2),(32,2)] ze1 kR ?_;refine yM I (pU I (SU.eq (v':=vb false) (lS I I) (zd9 vb (zf5 oM))) (yM I (yJ I (yJ I (zb1 I (gT I I I dC) (iA az aw I I hbv oM sL) dC (zb1 I (gT I I I dC) (fC am I zT3 I hbv) dC (SP.gq I (gT I I I dC) (aZ (e:=encCell) (o:=1) (u:=vi rs[kk].dim) iT3 I hrs.rd hgr I) dC (zb1 I (gT I I I dC) (fA am I zT3 I) dC (SP.gq I (gT I I I dC) (qL (v:=vi c.dim) iT3 I (cO 0 I I)) dC (zb1 I (gT I I I dC) (sU I I oM) dC (zb1 I (gT I I I dC) (SU.eq (v':=vb false) (nQ I I) (zd9 vb (zf5 (by rw[hyr.2.1]; exact hdm)))) dC ?_)))))))))));refine pU I (wF I I) (yM I (yJ I (zb1 I (gT I I I dC) (SU.eq (v':=vb false) (gR I I) (zd9 vb (zf5 hk0))) dC (yJ I (yG I (yI I (yG I (yG I (yG I (yI I (yG I (yI I (yG I (yG I (yG I (yG I (yI I (yG I (zb1 I (gT I I I dC) (wF I I) dC (pU I (wF I I) (pN (tN (cF I (kP (bN (tN (rG (lM I (yD I ?_)))))))))))))))))))))))))))));refine lA I (nL ?_);exact gA (k+1) sB I I ⟨oM,hF hbd⟩ oM
   ·refine xI (tX (tX (bX (tN (sQ (rZ (aT I (bK ?_))))))));have hkk:k=c.sides.length:=oM;subst hkk;refine oP (ι:=Nat) (fun k=>[(3,pp b3 0),(5,vi c.sides.length),(8,vi k)]) (fun _=>g)
     (fun _=>pt b3 (.cells #[vi c.id,vi c.dim,.slice rp c.sides.length rcap] 64 (0,0))::s) (fun k=>k≤c.sides.length∧(c.sides.take k).any bL=false) (fun k=>c.sides.length - k) 0
     sB rfl rfl ⟨zf4 _,by simp⟩ ?_
    rintro k ⟨hk2,hns⟩;refine sQ (sW I (lM I (yL I (tZ ?_))));refine iP I (fun hlt2=>?_) (fun hlt2=>?_)
    ·have hkl:k<c.sides.length:=oM;have hb1:=hx0 oM;have hjx:c.sides[((k:Nat):Int).toNat]?=some c.sides[k]:=gE hkl;have htk:c.sides.take (k+1)=c.sides.take k++[c.sides[k]]:=tS hkl;have hmemy:c.sides[k]∈c.sides:=gM hkl;generalize c.sides[k]=y at *;refine kP (tN (sQ (bK ?_)));refine SC.cutB 115 (bL y) ?_ ?_
     ·refine rG (lU (fA am I aX I) (lK (qL (v:=.slice rp c.sides.length rcap) bH I (cO 0 I I)) (lM I (lU (iA bF bJ I I hb1 oM sL) (lU (fC de I zT3 I hb1) (lK (aZ (e:=encSide) (o:=1) (u:=vi y.sign) iT3 I hcs.rd hjx I) (lU (nQ I I) (lM I ?_))))))));refine sP ?_ ?_
      ·intro h107;refine lY I I I (fA am I aX I) (SL.gq (gT I I I dC) (qL (v:=.slice rp c.sides.length rcap) bH I (cO 0 I I)) dC (yC I (lY I I I (iA bF bJ I I hb1 oM sL) (lY I I I (fC de I zT3 I hb1) (SL.gq (gT I I I dC) (aZ (e:=encSide) (o:=1) (u:=vi y.sign) iT3 I hcs.rd hjx I) dC (lY I I I (nQ I I) (yP I (nL ?_))))))));exact za8 (by exact zd9 (fun b=>some (Value.bool b)) (rX h107).symm) mI
      ·intro h107;refine yA I (yA I (yA I (yA I (yA I (yA I (yA I (yF I (nL ?_))))))));exact za8 (by exact zd9 (fun b=>some (Value.bool b)) (rW h107).symm) mI
     refine iQ I (fun hsg=>?_) (fun hsg=>?_)
     ·refine rZ (aT I (rE (bR (tR (tR (bR (tR (dR (s':=s) uR ?_))))))));have hany:c.sides.any bL=true:=zj4.2 ⟨y,hmemy,hsg⟩;exact za6 (.inl I) results115 I ⟨by unfold cz; rw[zf7 (by simp[hdb]),zf7 (by simp[hcb]),zf7 (by simp[hno]),zf8 hany],I,I⟩
     ·refine kP (bN (tN (rG (lM I (yD I (lA I (nL ?_)))))));exact gA (k+1) sB I I ⟨oM,by rw[htk,List.any_append,hns]; simp[hsg]⟩ oM
    ·have hkk:c.sides.take k=c.sides:=tL oM;rw[hkk] at hns;by_cases hd1:c.dim=1
     ·have h2:c.sides.length=2:=by
       simp[aW] at hcb;have:=hcb.1.2 hd1;omega
      obtain ⟨a,b,hab,hsum⟩:=zB h2 hns;have hb1:=hx0 oM;refine xI (tX (tX (bX (tN (sQ (sQ ?_))))));refine dW [] [(0,2),(1,1),(2,2),(3,2),(4,2),(5,1),(6,2),(7,2),(8,1),(9,2),(10,1),(11,2),(12,2),(13,1),(14,2),(15,2)] ze1 kR ?_;refine pU I (fA am I zT3 I) (pK I (qL (v:=vi c.dim) iT3 I (cO 0 I I)) (pU I (SU.eq (v':=vb true) (eQ I I) (zd9 vb (zf6 hd1))) (yM I (zb1 I (gT I I I dC) (fA am I aX I) dC (SP.gq I (gT I I I dC) (qL (v:=.slice rp c.sides.length rcap) bH I (cO 0 I I)) dC (zb1 I (gT I I I dC) (iA bF bJ I I hb1 dC sL) dC (zb1 I (gT I I I dC) (fC de I zT3 I hb1) dC (SP.gq I (gT I I I dC) (aZ (e:=encSide) (j:=0) (o:=1) (u:=vi a.sign) (a:=a) iT3 I hcs.rd (by rw[hab]; rfl) rfl) dC ?_))))))));refine zb1 I (gT I I I dC) (fA am I aX I) dC (SP.gq I (gT I I I dC) (qL (v:=.slice rp c.sides.length rcap) bH I (cO 0 I I)) dC (zb1 I (gT I I I dC) (iA bF bJ I I hb1 dC sL) dC (zb1 I (gT I I I dC) (fC de I zT3 I hb1) dC (SP.gq I (gT I I I dC) (aZ (e:=encSide) (j:=1) (o:=1) (u:=vi b.sign) (a:=b) iT3 I hcs.rd (by rw[hab]; rfl) rfl) dC ?_))));refine zb1 I (gT I I I dC) (eQ I I) dC (pU I (wT I I) (pN (tN ?_)));refine iP I (fun heq=>?_) (fun heq=>?_)
      ·refine rZ (aT I (rE (tR (dR (s':=s) uR ?_))));exact za6 (.inl I) results115 I ⟨by unfold cz; rw[zf7 (by simp[hdb]),zf7 (by simp[hcb]),zf7 (by simp[hno]),zf7 (by simp[hns]),zf8 (by rw[hsum]; simp[hd1,heq])],I,I⟩
      ·refine kP (tN (rZ (aT I (rE (dR (s':=s) uR ?_)))));exact za6 (.inl I) results115 I ⟨by unfold cz; rw[zf7 (by simp[hdb]),zf7 (by simp[hcb]),zf7 (by simp[hno]),zf7 (by simp[hns]),zf7 (by rw[hsum]; simp[heq])],I,I⟩
     ·refine xI (tX (tX (bX (tN (sQ (sQ ?_))))));refine dW [] [(0,2),(1,1),(2,2),(3,2),(4,2),(5,1),(6,2),(7,2),(8,1),(9,2),(10,1),(11,2),(12,2),(13,1),(14,2),(15,2)] ze1 kR ?_;refine pU I (fA am I zT3 I) (pK I (qL (v:=vi c.dim) iT3 I (cO 0 I I)) (pU I (SU.eq (v':=vb false) (eQ I I) (zd9 vb (zf5 hd1))) (yM I (yG I (yI I (yG I (yG I (yI I (yG I (yI I (yG I (yG I (yI I (yG I (pU I (wF I I) (pN (tN (cF I (kP (tN (rZ (aT I (rE (dR (s':=s) uR ?_))))))))))))))))))))))));exact za6 (.inl I) results115 I ⟨by unfold cz; rw[zf7 (by simp[hdb]),zf7 (by simp[hcb]),zf7 (by simp[hno]),zf7 (by simp[hns]),zf7 (by simp[hd1])],I,I⟩
end Go.Proofs.YtcfkpajlakidbaaGreatDoor
