/- 6 -/
import Derived.Shelf.SlIterI.Sorted
import Derived.Test.YtkbagdedfdfjhaaGreatDoorFi04
import Derived.Test.YtkbagdedfdfjhaaGreatDoorFi03
import Derived.Test.YtkbagdedfdfjhaaGreatDoorFi05
import Derived.Test.YtkbagdedfdfjhaaGreatDoorFi02
set_option linter.unusedSimpArgs false
set_option linter.unusedVariables false
namespace Go.Proofs.YtkbagdedfdfjhaaGreatDoor
open _root_.Go.Proofs.Tryz _root_.Go.Proofs.YtkbagdedfdfjhaaGreatDoor.Tryz
open Go Go.Sy Go.Pl Go.Proofs Go.Shelf Go.Sort
set_option maxRecDepth 100000
def Tryz.keysA_ren:Ren :=
 {
  f:=fun x =>
   match x with
   | 7=>127
   | 10=>171
   | n=>n,
  t:=fun x =>
   match x with
   | 23=>97
   | 26=>3
   | 3=>4
   | 28=>170
   | 0=>0
   | 27=>169
   | 33=>54
   | 4=>4
   | n=>n,
  g:=fun x =>
   have n:=x;
   n }
theorem Tryz.keysA:SlLaysZI.n7 Tryz.prog Tryz.keysA_ren :=
  {
  mixed:=Eq.refl true,
  f7 :=
   Exists.intro "maps.Keys[map[int]bool,int,bool]"
    ⟨zf9 (id (Eq.refl true)),
     zb6 func127
      (zd8 some
       kR)⟩,
  f10 :=
   Exists.intro "maps.Keys[map[int]bool,int,bool]$1"
    ⟨zf9 (id (Eq.refl true)),
     zb6 func171
      (zd8 some
       kR)⟩,
  t0:=underlying0,a0:=isAgg0,z0:=sizeOf0,v0:=zeroValue0,t4:=uT4,
  a4:=isAgg4,z4:=zT4,v4:=zeroValue4,t23:=underlying97,a23:=isAgg97,
  z23:=sizeOf97,v23:=zeroValue97,t26:=uT3,a26:=iT3,z26:=zT3,
  v26:=zl6,t27:=underlying169,a27:=isAgg169,z27:=sizeOf169,
  v27:=zeroValue169,t28:=underlying170,a28:=isAgg170,z28:=sizeOf170,
  v28:=zeroValue170,t33:=underlying54,a33:=isAgg54,z33:=sizeOf54,
  v33:=zeroValue54 }
def Tryz.sortedA_ren:Ren :=
 {
  f:=fun x =>
   match x with
   | 6=>126
   | 8=>170
   | 9=>97
   | 11=>213
   | 13=>138
   | 12=>137
   | 23=>184
   | 24=>185
   | 14=>176
   | 15=>177
   | 16=>178
   | 17=>179
   | 18=>180
   | 19=>181
   | 20=>124
   | 21=>182
   | 22=>183
   | 25=>216
   | 26=>217
   | 27=>218
   | 28=>219
   | 29=>220
   | 30=>135
   | 31=>234
   | n=>n,
  t:=fun x =>
   match x with
   | 26=>3
   | 28=>170
   | 24=>25
   | 0=>0
   | 3=>3
   | 37=>133
   | 48=>174
   | 50=>160
   | 4=>4
   | 40=>227
   | 39=>226
   | 45=>110
   | 5=>5
   | 9=>9
   | 51=>254
   | 55=>258
   | 57=>273
   | 58=>274
   | 33=>54
   | n=>n,
  g:=fun x =>
   have n:=x;
   n }
theorem Tryz.sortedA:SlLaysZI.n6 Tryz.prog Tryz.sortedA_ren :=
  {
  mixed:=Eq.refl true,
  f6 :=
   Exists.intro "slices.Sorted[int]"
    ⟨zf9 (id (Eq.refl true)),
     zb6 func126
      (zd8 some
       kR)⟩,
  f8 :=
   Exists.intro "slices.Collect[int]"
    ⟨zf9 (id (Eq.refl true)),
     zb6 func170
      (zd8 some
       kR)⟩,
  f11 :=
   Exists.intro "slices.AppendSeq[[]int,int]"
    ⟨zf9 (id (Eq.refl true)),
     zb6 func213
      (zd8 some
       kR)⟩,
  t0:=underlying0,a0:=isAgg0,z0:=sizeOf0,v0:=zeroValue0,t24:=ak,
  a24:=dx,z24:=bZ,v24:=zeroValue25,t26:=uT3,a26:=iT3,
  z26:=zT3,v26:=zl6,t28:=underlying170,a28:=isAgg170,z28:=sizeOf170,
  v28:=zeroValue170,i26:=Eq.refl (some (some (Value.int IntKind.i64 0),1,8)) }
theorem Tryz.sortsA (m:Nat):AnyZI.SortsIn Tryz.prog Tryz.sortedA_ren Fence.wide m :=
 -- 126
 ⟨fun blk off cap ss W hH hblk hsz=>callsIn_wide.2 (Any.slices_Sort_int lays189 blk off cap ss W hH hblk hsz),
  fun p cap W=>callsIn_wide.2 (Any.slices_Sort_int_none lays189 p cap W)⟩
theorem Cv (E:World)(g:PH)(s:Own)(m:Nat) :
  Ctr Tryz.prog E 127 #[.map (some m)] g s (fun r g' s'=>s=s'∧Le g g'∧∃ b,r = .func (.func 171) #[] #[pp b 0]∧g' b=some (.cells #[.map (some m)] 97 (0,0))):=by
 refine za9 (args:=[.map (some m)]) func127 I ntmps127 (bE I) ?_;refine rZ (bW (bO I) fun b1=>?_);refine aT I (rZ (lU (SU.mkFunc I) (aT I (rE (ST.freeze fun g1 h1 hb=>?_)))));exact za6 (.inl I) results127 I ⟨I,h1,_,I,hb⟩
def gz (x:Int):Prop:=-9223372036854775808≤x∧x≤9223372036854775807
theorem E4 {x:Int}(h:gz x):(Lit.int .i64 x).wf=true:=by
 unfold gz at h;simp[Lit.wf,IntKind.min,IntKind.max,IntKind.bits,IntKind.signed];omega
theorem we (E:World)(hE:E.drawn=0)(g:PH)(s:Own)(b m:Nat)(l:List (Int×Value))(hb:g b=some (.cells #[.map (some m)] 97 (0,0)))(hm:Mp g m l)(hl:l.length<1099511627776)(hw:∀ p∈l,gz p.1) :
  Ctr Tryz.prog E 126 #[.func (.func 171) #[] #[pp b 0]] g s (fun r g' s'=>s=s'∧Le g g'∧bT g' r (dZ (l.map Prod.fst))):=by
 intro w hat;obtain ⟨es,clk,hes,hmi,hst⟩:=hm;have hesl:es.toList.length=l.length:=by have:=zd8 List.length hmi; simpa using this
 have hesz:es.size=l.length:=by simpa using hesl
 have hreads:∀ x∈es.toList,∃ y,WideElems.rd (H:=Unit) Tryz.prog 3 (fun _=>some (.lit (.bool true),[])) x=some y∧∃ p∈l,y.1 = .int .i64 p.1:=fun x hx=>by
  have h1:nj x∈es.toList.map nj:=ze8.2 ⟨x,hx,rfl⟩;rw[hmi] at h1;obtain ⟨p,hp,he⟩:=ze8.1 h1;have hk:x.key=vi p.1:=(zd8 Prod.fst he).symm;have hkey:keyOf Tryz.prog 3 x.key=some (.int .i64 p.1):=by
   rw[hk]; exact Maps.keyOf_int_mk uT3 (E4 (hw p hp))
  exact⟨(.int .i64 p.1,.lit (.bool true)),by simp[WideElems.rd,hkey],p,hp,I⟩
 have hown:w.ownsMap Tryz.prog 3 (fun _=>some (.lit (.bool true),[])) m l.length (.map ((es.toList.map (WideElems.rg (H:=Unit) Tryz.prog 3 (fun _=>some (.lit (.bool true),[])))).foldr DataW.insert [])) :=
  ⟨es,clk,hat.known _ _ hes,⟨by rw[hesz]; unfold maxLen; omega,hst,fun x hx=>(hreads x hx).imp fun _ h=>h.1⟩,oM,rfl⟩
 have hkeys:(l.map Prod.fst).Perm (intKeys (.map ((es.toList.map (WideElems.rg (H:=Unit) Tryz.prog 3 (fun _=>some (.lit (.bool true),[])))).foldr DataW.insert []))):=by
  have h1:(es.toList.map (WideElems.rg (H:=Unit) Tryz.prog 3 (fun _=>some (.lit (.bool true),[])))).map (fun p=>Go.intOf p.1)=l.map Prod.fst:=by
   have h2:l.map Prod.fst=(es.toList.map nj).map (fun q=>(unV q).1):=by rw[hmi,zi2]; rfl
   rw[h2,zi2,zi2];refine zc5 fun x hx=>?_;have h3:nj x∈es.toList.map nj:=ze8.2 ⟨x,hx,rfl⟩;rw[hmi] at h3;obtain ⟨p,hp,he⟩:=ze8.1 h3;have hk:x.key=vi p.1:=(zd8 Prod.fst he).symm;have hkey:keyOf Tryz.prog 3 x.key=some (.int .i64 p.1):=by
    rw[hk]; exact Maps.keyOf_int_mk uT3 (E4 (hw p hp))
   simp[WideElems.rg,WideElems.rd,hkey,hk ▸ hkey,Go.intOf,nj,unV,hk]
  rw[← h1];exact ((WideShapes.sorted_perm _).map _).symm
 have hsize:Maps.size (.map ((es.toList.map (WideElems.rg (H:=Unit) Tryz.prog 3 (fun _=>some (.lit (.bool true),[])))).foldr DataW.insert []))=l.length:=by
  have:=hkeys.length_eq;simpa [intKeys,Maps.size] using this.symm
 have hseq:=AnyZI.keys_gives (ρ:=Tryz.keysA_ren) { Tryz.keysA with } Fence.wide 2 trivial rfl oM b m l.length _ (R:=fun _=>some (.lit (.bool true),[])) w (hat.lt hb) (by simp[World.cell?,hat.known _ _ hb]) hown;have cS:=AnyZI.sorted_in Tryz.sortedA Fence.wide 5 trivial trivial trivial trivial rfl oM (Tryz.sortsA _) (enters_of func97 kR rfl) 171 #[.pointer (some ⟨b,0,none⟩)] trivial (enters_of func171 kR rfl) _ _ (by rw[hsize]; unfold maxLen; omega) (by rw[hsize]; omega) w hseq;refine ((callsIn_wide (n:=5)).1 cS).mono ?_;rintro e w' ⟨v,ss,rfl,hss,hrow,hnil,hbel⟩;have hsrt:ss.mergeSort (fun x y=>decide (x≤y))=dZ (l.map Prod.fst):=mergeSort_of_perm_i (hss.trans hkeys.symm);rw[hsrt] at hrow;have hat2:At E g s w':=by
  refine⟨hbel.os.trans hat.os,⟨hbel.tape.trans hat.tape.1,by rw[hE]; exact zf3 _⟩,hbel.output.trans hat.output,fun k o hk=>?_,fun x hx=>?_,fun x hx k hk=>⟨(hat.fresh x hx k hk).1,Nat.lt_of_lt_of_le (hat.fresh x hx k hk).2 hbel.size⟩,hat.apart⟩
  ·rw[hbel.block k (hat.lt hk)]; exact hat.known k o hk
  ·have h1:=hat.own x hx;cases hbk:x.blk with
   | none=>simpa [hbk] using h1
   | some k =>
    simp only[hbk,Option.bind_some] at h1 ⊢;rw[hbel.block k (hat.fresh x hx k hbk).2];exact h1
 rcases hrow.2 with ⟨rfl,h0⟩ | ⟨gb,cap,cur,rfl,hbase,hgb,r1,r2,r3,r4⟩
 ·have hss0:ss=[]:=zf1 h0;have hl0:l.map Prod.fst=[]:=by
   have:=(hss.trans hkeys.symm).length_eq;rw[hss0] at this;exact zf1 (by simpa using this.symm)
  refine⟨_,g,s,I,hat2,I,zb7 g,?_⟩;rw[hl0];have:dZ []=[]:=by simp[dZ]
  rw[this];exact zb8 g 1
 ·have hfresh:g gb=none:=by
   cases h:g gb with
   | none=>rfl
   | some o=>have:=hat.lt h; omega
  refine⟨_,upd g gb (.cells cur 3 (0,0)),s,I,⟨hat2.os,hat2.tape,hat2.output,fun k o hk=>?_,hat2.own,fun x hx k hk=>⟨?_,(hat2.fresh x hx k hk).2⟩,hat2.apart⟩,I,Fh hfresh,?_⟩
  ·unfold upd at hk;split at hk
   ·rename_i e1; subst e1; injection hk with hk; subst hk; exact hgb
   ·exact hat2.known k o hk
  ·have h1:=hat.fresh x hx k hk;have hne:k≠gb:=oM;simp only[upd,hne,if_false];exact h1.1
  ·have hlen:(dZ (l.map Prod.fst)).length=ss.length:=by rw[fj]; exact (hss.trans hkeys.symm).length_eq.symm
   refine⟨some ⟨gb,0,none⟩,cap,by rw[hlen],⟨by rw[encInt.length],oM⟩,fun _=>⟨gb,0,cur,_,(0,0),I,fw _ _ _,fun j x hj=>?_⟩⟩;rw[oT] at hj;have hj2:(cur.toList.take (ss.length * 1))[j]?=some x:=by rw[r4]; exact hj
   rw[zh7] at hj2;split at hj2
   ·simpa using hj2
   ·cases hj2
theorem qT (tl:List Cl):∀ (n:Nat) (id:Int) (vis:List Int) (x:Int),x∈ci tl n id vis→x∈vis∨∃ c∈tl,c.id=x
 | 0,_,_,_,h=>.inl h
 | n+1,id,vis,x,h=>by
  unfold ci at h;split at h
  ·exact .inl h
  ·rename_i c hc;split at h
   ·exact .inl h
   ·have key:∀ (l:List ai) (v:List Int),x∈l.foldl (fun v y=>ci tl n y.cell v) v→x∈v∨∃ c∈tl,c.id=x:=by
     intro l;induction l with
     | nil=>intro v hv; exact .inl hv
     | cons y r ih =>
      intro v hv
      rcases ih _ hv with h1 | h1
      ·exact qT tl n y.cell v x h1
      ·exact .inr h1
    rcases key _ _ h with h1 | h1
    ·rcases ze9.1 h1 with h2 | h2
     ·exact .inl h2
     ·simp at h2;obtain ⟨h3,h4⟩:=bF hc;exact .inr ⟨c,h3,by rw[h4,h2]⟩
    ·exact .inr h1
theorem ne (tl:List Cl):∀ (n:Nat) (id:Int) (vis:List Int),vis.Nodup→(ci tl n id vis).Nodup
 | 0,_,_,h=>h
 | n+1,id,vis,h=>by
  unfold ci;split
  ·exact h
  ·split
   ·exact h
   ·rename_i hc;have key:∀ (l:List ai) (v:List Int),v.Nodup→(l.foldl (fun v y=>ci tl n y.cell v) v).Nodup:=by
     intro l;induction l with
     | nil=>intro v hv; exact hv
     | cons y r ih=>intro v hv; exact ih _ (ne tl n y.cell v hv)
    refine key _ _ (List.nodup_append.2 ⟨h,by simp,fun a ha b hb=>?_⟩);simp at hb hc;rw[hb];exact fun e=>hc (e ▸ ha)
theorem o4 {tl:List Cl}{ids:List Int}{x:Int}(h:x∈cu tl ids):∃ c∈tl,c.id=x:=by
 have key:∀ (l:List Int) (v:List Int),x∈l.foldl (fun v id=>ci tl (tl.length+1) id v) v→x∈v∨∃ c∈tl,c.id=x:=by
  intro l;induction l with
  | nil=>intro v hv; exact .inl hv
  | cons y r ih =>
   intro v hv
   rcases ih _ hv with h1 | h1
   ·exact qT tl _ y v x h1
   ·exact .inr h1
 exact (key _ _ h).resolve_left (by simp)
theorem pS (tl:List Cl)(ids:List Int):(cu tl ids).Nodup:=by
 have key:∀ (l:List Int) (v:List Int),v.Nodup→(l.foldl (fun v id=>ci tl (tl.length+1) id v) v).Nodup:=by
  intro l;induction l with
  | nil=>intro v hv; exact hv
  | cons y r ih=>intro v hv; exact ih _ (ne tl _ y v hv)
 exact key _ _ (by simp)
theorem nE {α:Type}[DecidableEq α]:∀ {l m:List α},l.Nodup→(∀ x∈l,x∈m)→l.length≤m.length
 | [],_,_,_=>zf3 _
 | x::l,m,hn,hs=>by
  obtain ⟨h1,h2⟩:=zj8.1 hn;have hx:x∈m:=hs x (by simp);have h3:=nE (m:=m.erase x) h2 (fun y hy=>by
   have hne:y≠x:=fun e=>h1 (e ▸ hy);exact (List.mem_erase_of_ne hne).2 (hs y (by simp[hy])))
  have h4:=List.length_erase_of_mem hx;have h5:=List.length_pos_of_mem hx;simp only[ze5];omega
theorem vx (tl:List Cl)(ids:List Int):(cu tl ids).length≤tl.length:=by
 have:=nE (pS tl ids) (m:=tl.map Cl.id) (fun x hx=>by obtain ⟨c,hc,e⟩:=o4 hx; exact ze8.2 ⟨c,hc,e⟩);simpa using this
theorem FQ {l:List Cl}{c:Cl}(h:c∈ab l):∃ d∈l,d.id=c.id:=by
 have h1:=rX h;unfold aa at h1;obtain ⟨d,hd,rfl⟩:=ze8.1 h1;exact⟨d,(dh l d).1 hd,I⟩
def fz (l:List Cl)(ids:List Int):List Int:=dZ (cu (ab l) ids)
theorem z6 (E:World)(hE:E.drawn=0)(g:PH)(s:Own)(v iv:Value)(l:List Cl)(ids:List Int)(hv:am g v l)(hf:cZ l)(hi:bT g iv ids)(hl:ids.length<1099511627776)(hw:∀ c∈l,gz c.id) :
  Ctr Tryz.prog E 77 #[.agg #[v],iv] g s (fun r g' s'=>s=s'∧Le g g'∧bT g' r (fz l ids)):=by
 have hft:=e6 hf;have hcl:=vx (ab l) ids;have hfl:=hft.1;refine za9 (args:=[.agg #[v],iv]) func77 I ntmps77 (bE I) ?_;refine rZ (bW (bO I) fun b2=>?_);refine aT I (rZ (lK (qV 0 bq aw I I I) (lW (cL call42 I (jo E g _ v l hv hf)) ?_)));rintro tv g1 _ ⟨rfl,hle,ht⟩;refine lM I (lW (cL call49 I (jU E g1 _ _ _ (ab l) ids ht hft (hi.mono hle) hl)) ?_);rintro _ g2 _ ⟨m,rfl,hle2,rfl⟩;refine SL.freezeMap fun g3 hle3 hm=>?_;refine lW (cL call127 I (Cv E g3 _ m)) ?_;rintro _ g4 _ ⟨rfl,hle4,b,rfl,hb⟩;refine lW (cL call126 I (we E hE g4 _ b m (ka (cu (ab l) ids)) hb (hm.mono hle4) (by simp only[ka,ze3]; omega) (fun p hp=>by obtain ⟨x,hx,rfl⟩:=ze8.1 hp; obtain ⟨c,hc,rfl⟩:=o4 hx; obtain ⟨d,hd,e⟩:=FQ hc; rw[← e]; exact hw d hd))) ?_;rintro r g5 _ ⟨rfl,hle5,hr⟩;refine aT I (rE (dR (s':=s) uR ?_));exact za6 (.inl I) results77 I ⟨I,hle.trans (hle2.trans (hle3.trans (hle4.trans hle5))),by unfold fz; simpa [ka,Function.comp_def] using hr⟩
open Go Go.Sy Go.Pl Go.Proofs
theorem GT {g:PH}:∀ {ls:List (List Int)} {rs:List Sv},aB (bJ g) ls rs→(∀ x∈ls,x.length<1099511627776)→∃ L:List (LV g),L.map LV.l=ls∧L.map LV.sv=rs
 | [],[],_,_=>⟨[],rfl,rfl⟩
 | x::ls,r::rs,h,hl=>by
  obtain ⟨L,h1,h2⟩:=GT h.2 (fun y hy=>hl y (by simp[hy]));exact⟨⟨r,x,h.1,hl x (by simp)⟩::L,by simp[h1],by simp[h2]⟩
 | [],_::_,h,_=>h.elim
 | _::_,[],h,_=>h.elim
theorem Ff {g:PH}:∀ (L:List (LV g)),aB (bJ g) (L.map LV.l) (L.map LV.sv)
 | []=>trivial
 | x::L=>⟨x.h,Ff L⟩
theorem Bf {g:PH}:∀ (L:List (LV g)),L.flatMap (kQ g).enc=(L.map LV.sv).flatMap encSv.enc
 | []=>rfl
 | x::L=>by simp only[zh2,zg1,Bf L]; rfl
theorem Fe {g:PH}(T:TypeId)(v:Value)(L:List (LV g)):rowA (kQ g) T v L=rowA encSv T v (L.map LV.sv):=by
 simp only[rowA,Bf,ze3]
def eqL (a b:List Int):Bool:=decide (a=b)
theorem mr {α β:Type}(f:α→β)(eq:α→α→Bool)(eq':β→β→Bool)(h:∀ a b,eq a b=eq' (f a) (f b)):∀ (x:α) (l:List α),(aX eq x l).map f=aX eq' (f x) (l.map f)
 | _,[]=>rfl
 | x,y::r=>by
  simp only[aX,zg1,h];split
  ·exact mr f eq eq' h y r
  ·rw[zg1,mr f eq eq' h y r]
theorem Dp {α β:Type}(f:α→β)(eq:α→α→Bool)(eq':β→β→Bool)(h:∀ a b,eq a b=eq' (f a) (f b))(l:List α):(ig eq l).map f=ig eq' (l.map f):=by
 cases l with
 | nil=>rfl
 | cons x r=>simp only[ig,zg1,mr f eq eq' h]
theorem mo {α:Type}(eq:α→α→Bool):∀ (x:α) (l:List α),(aX eq x l).Sublist l
 | _,[]=>.slnil
 | x,y::r=>by
  simp only[aX];split
  ·exact (mo eq y r).cons y
  ·exact (mo eq y r).cons_cons y
theorem rW {α:Type}(eq:α→α→Bool)(l:List α):(ig eq l).Sublist l:=by
 cases l with
 | nil=>exact .slnil
 | cons x r=>exact (mo eq x r).cons_cons x
def ce (s:List Int):List Int:=ig (fun a b:Int=>decide (a=b)) (dZ s)
def jk:List Int→Bool
 | []=>true
 | a::r=>decide (a<0)||decide (((a::r).length:Int)>9)
def dT (all:List (List Int))(t:List Int):List (List Int):=ig eqL (ot (all++bI t))
def aG:List (List Int)→List (List Int)→Option (List (List Int))
 | all,[]=>some all
 | all,s::r=>if jk (ce s) then aG all r else if ((dT all (ce s)).length:Int)>4000 then none else aG (dT all (ce s)) r
def eX (all:List (List Int))(s:List Int)(k:Nat):List ai:=if 0<(s.eraseIdx k).length then [⟨lbL all (s.eraseIdx k)+1,cH k⟩] else []
def aM (all:List (List Int))(s:List Int)(j:Nat):List ai:=(List.range j).flatMap (eX all s)
def nt (all:List (List Int))(p:List Int×Nat):Cl:=⟨p.2+1,(p.1.length:Int) - 1,aM all p.1 p.1.length⟩
def aU (all:List (List Int)):List Cl:=all.zipIdx.map (nt all)
def bQ (l:List (List Int)):List Cl:=match aG [] l with
 | none=>[]
 | some all=>aa (aU all)
theorem qe (t:List Int)(h:t.length≤9):(bI t).length≤511:=by
 have:=AC t.length h;simp[bI];omega
theorem gU {t:List Int}(h:t.length≤9):∀ x∈bI t,x.length≤9:=fun x hx=>by
 obtain ⟨i,_,rfl⟩:=ze8.1 hx;exact zk6 (fk _ _) h
theorem uY {t:List Int}(h:t≠[]):0<(bI t).length:=by
 have h1:0<t.length:=List.length_pos_iff.2 h;have h2:2 ^ 1≤2 ^ t.length:=Nat.pow_le_pow_right dC h1;simp[bI];omega
theorem kY {all:List (List Int)}{t x:List Int}(h:x∈dT all t):x∈all∨x∈bI t:=by
 have h1:=(rW eqL _).subset h;have h2:=(im _).subset h1;exact ze9.1 h2
theorem xe (all:List (List Int))(t:List Int):sZ (dT all t):=(jw _).sublist (rW eqL _)
theorem xF {all:List (List Int)}(h:sZ all)(t:List Int):∀ i j (hi:i<all.length) (hj:j<all.length),i<j→aj all[j] t<0→aj all[i] t<0:=fun i j hi hj hij hlt=>by
 have h1:=zc6.1 h i j hi hj hij
 rcases dn all[i] all[j] with h2 | h2 | h2
 ·exact ed _ _ _ h2 hlt
 ·rw[h2]; exact hlt
 ·exact absurd h2 h1
theorem ff (all:List (List Int))(s:List Int)(j:Nat):aM all s (j+1)=aM all s j++eX all s j:=by
 simp[aM,List.range_succ]
theorem em (all:List (List Int))(s:List Int)(j:Nat):(aM all s j).length≤j:=by
 induction j with
 | zero=>simp[aM]
 | succ j ih =>
  rw[ff,ze2];have:(eX all s j).length≤1:=by unfold eX; split <;> simp
  omega
theorem bG (all:List (List Int)):(aU all).length=all.length:=by simp[aU]
theorem ja {all:List (List Int)}{k:Nat}(h:k<all.length):(aU all)[k]?=some (nt all (all[k],k)):=by
 simp[aU,h]
theorem ku {all:List (List Int)}(h:all.length≤4000)(hs:∀ x∈all,x.length≤9):cZ (aU all):=by
 refine⟨by rw[bG]; omega,fun c hc=>?_⟩;obtain ⟨p,hp,rfl⟩:=ze8.1 hc;have h1:p.1∈all:=by
  have:=List.mem_map_of_mem (f:=Prod.fst) hp;simpa using this
 have h2:=hs _ h1;have h3:=em all p.1 p.1.length;show (aM all p.1 p.1.length).length<_;omega
theorem AF (ls:List (List Int))(t:List Int):lbL ls t≤ls.length:=zc2 _ _
def eI (v:Value):Sv:=match v with
 | .slice p n c=>⟨p,n,c⟩
 | _=>⟨none,0,0⟩
theorem qf (E:World)(g:PH)(s:Own)(v:Value)(ls:List (List Int))(hv:aF g v ls)(hn:ls.length<1099511627776)(hl:∀ x∈ls,x.length<17592186044416) :
  Ctr Tryz.prog E 55 #[v] g s (fun r g' s'=>s=s'∧Le g g'∧∃ u,r = .agg #[u]∧am g' u (bQ ls)):=by
 obtain ⟨rs0,hrs0,hall0⟩:=hv;have hlen0:=hall0.length;obtain ⟨p,c,rfl⟩:=za2 hrs0;refine za9 (args:=[.slice p rs0.length c]) func55 I ntmps55 (bE I) ?_;refine rZ (bW (aL zl4) fun b2=>?_);refine tZ (rZ (aT I (sQ (sW I (lU (eN bH I) (lM I (tZ (bK (zb4 25 1 ?_)))))))));refine oP (ι:=PH×Value×List Sv×List (List Int)×Nat) (fun i=>[(0,.slice p rs0.length c),(2,pp b2 0),(3,i.2.1),(14,.slice p rs0.length c),(15,vi rs0.length),(16,vi i.2.2.2.2)]) (fun i=>i.1)
  (fun i=>rowA encSv 25 i.2.1 i.2.2.1::pt b2 (.cells #[.slice none 0 0] 30 (0,0))::s)
  (fun i=>Le g i.1∧i.2.2.2.2≤rs0.length∧aB (bJ i.1) i.2.2.2.1 i.2.2.1∧(i.2.2.2.1.length≤4000∧∀ x∈i.2.2.2.1,x.length≤9)∧sZ i.2.2.2.1∧aG [] ls=aG i.2.2.2.1 (ls.drop i.2.2.2.2)) (fun i=>rs0.length - i.2.2.2.2)
  (g,.slice none 0 0,[],[],0) sB rfl rfl ⟨zb7 g,zf3 _,trivial,⟨zf3 _,by simp⟩,List.Pairwise.nil,rfl⟩ ?_
 rintro ⟨g1,av,rs,all,k⟩ ⟨hle,hk,hall,⟨hal,has⟩,hsrt,hsa⟩;dsimp only at hle hk hall hal has hsrt hsa ⊢;have hrl:=hall.length;refine rZ (yL I (tZ (sQ ?_)));refine iP I (fun hlt=>?_) (fun hlt=>?_)
 ·have hkl:k<ls.length:=oM;have hkr:k<rs0.length:=oM;have hR:=(hall0.get (gE hkl) (gE hkr)).mono hle;have hxl:=hl _ (gM hkl);have hb1:=hrs0.based oM;have hdrop:ls.drop k=ls[k]::ls.drop (k+1):=zg3 hkl;rw[hdrop] at hsa;generalize hx:ls[k]=x at *;generalize hr:rs0[k]=r at *;have hgr:rs0[((k:Nat):Int).toNat]?=some r:=by rw[← hr]; exact gE hkr
  have hsl:=fj x;have hul:=iZ (fun a b:Int=>decide (a=b)) (dZ x);refine kP (tN (sQ (bK (rZ (lU (iA bH bZ I I hb1 oM sL) (lK (eB dx I (hrs0.mono hle).rd hgr I) (aT I (sW I (lW (cL call96 I (AH E g1 _ _ x hR hxl)) ?_)))))))));rintro v21 _ _ ⟨rfl,rfl⟩;refine aT I (sW I (lW (cL call97 I (s4 E g1 _ v21 x 0 I hxl)) ?_));rintro _ _ _ ⟨rfl,rfl⟩;refine tZ (sW I (lW (cL call98 I (ED E g1 _ v21 (dZ x) oM)) ?_));rintro v25 _ _ ⟨rfl,rfl⟩;refine aT I (sQ (fS fun g2 hle2 hs2=>?_));have hset:bT g2 v25 (ce x):=hs2;have hsetl:(ce x).length<17592186044416:=by unfold ce; omega
  obtain ⟨q2,d2,rfl⟩:=za2 hset;have hcase:ce x=[]∨∃ a t,ce x=a::t:=by cases ce x with
   | nil=>exact .inl rfl
   | cons a t=>exact .inr ⟨a,t,rfl⟩
  have hall2:=hall.mono fun _ _=>bJ.mono hle2;clear hs2;generalize hT:ce x=T at *
  rcases hcase with hT0 | ⟨a,t,hTa⟩
  ·subst hT0;have hbad:jk (ce x)=true:=by rw[hT]; rfl
   refine sW I (lU (eN ak I) (lU (SU.eq (v':=vb true) (eQ I I) (zd8 vb (zf5 (by simp)))) ?_));refine lM I (yA I (yA I (yA I (yA I (yP I (lM I (yA I (yA I (yA I (yP I (tZ (cT I (xI (tX (bX (tN (rG (yD I (lM I (nL ?_))))))))))))))))))));refine gA (g2,av,rs,all,k+1) sB I I ⟨hle.trans hle2,lN,hall2,⟨hal,has⟩,hsrt,?_⟩ lN;rw[hsa,aG,zf7 hbad]
  ·have hTl:T.length=t.length+1:=by rw[hTa]; rfl
   have hbT:=za4 hset oM;have hga:T[((0:Nat):Int).toNat]?=some a:=by rw[hTa]; rfl
   have hbe:jk (ce x)=(decide (a<0)||decide ((T.length:Int)>9)):=by rw[hT,hTa]; rfl
   have hbe1:a<0→(decide (a<0)||decide ((T.length:Int)>9))=true:=fun h=>by simp[h]
   have hbe2:¬ a<0→(decide (a<0)||decide ((T.length:Int)>9))=decide ((T.length:Int)>9):=fun h=>by simp[h]
   refine SC.sub (f':=[(0,.slice p rs0.length c),(2,pp b2 0),(3,av),(5,.slice q2 T.length d2),(14,.slice p rs0.length c),(15,vi rs0.length),(16,vi k)]) sB ?_;refine SC.cutB 39 ((decide (a<0)||decide ((T.length:Int)>9))) ?_ ?_
   ·refine rG (lM I (lU (eN ak I) (lU (SU.eq (v':=vb false) (eQ I I) (zd8 vb (zf4 oM))) (lM I (yC I (lY I I I (iA ak zT3 I I hbT dC sL) (SL.gq (gT I I I dC) (eB iT3 I (za5 hset) hga I) dC (lY I I I (lS I I) (yF I (lM I ?_))))))))));refine sP ?_ ?_
    ·intro h35;refine yA I (yA I (yA I (yP I (nL ?_))));exact za8 (by (rw[hbe1 h35]; rfl)) mI
    ·intro h35;refine yC I (lY I I I (eN ak I) (lY I I I (gR I I) (yF I (nL ?_))));exact za8 (by (rw[hbe2 h35]; rfl)) mI
   refine iQ I (fun hbad=>?_) (fun hbad=>?_)
   ·refine xI (tX (bX (tN (rG (yD I (lM I (nL ?_)))))));refine gA (g2,av,rs,all,k+1) sB I I ⟨hle.trans hle2,lN,hall2,⟨hal,has⟩,hsrt,?_⟩ lN;rw[hsa,aG,zf7 (hbe.trans hbad)]
   ·have hb9:T.length≤9:=by simp at hbad; omega
    have hsub1:=qe T hb9;have hsub2:=gU hb9;have hsub3:=uY (t:=T) (by rw[hTa]; simp);have hnb:¬ jk (ce x)=true:=by rw[hbe,hbad]; simp
    refine kP (tN (sW I (lM I (lW (cL call99 I (uX E g2 _ _ T hset hb9)) ?_))));rintro v42 g3 _ ⟨rfl,hle3,hsub⟩;obtain ⟨rs2,hrs2,hall3⟩:=hsub;have hrl2:=hall3.length;refine lW (aQ (e:=encSv) 0 sty22 I I I hrs2 oM oM) ?_;rintro v43 _ _ ⟨rfl,rfl⟩;have hall4:=(hall2.mono fun _ _=>bJ.mono hle3).append hall3;obtain ⟨L,hL1,hL2⟩:=GT hall4 (fun y hy=>(ze9.1 hy).elim (fun h=>Nat.lt_of_le_of_lt (has y h) dC) (fun h=>Nat.lt_of_le_of_lt (hsub2 y h) dC));have hLl:L.length=all.length+(bI T).length:=(by have:=zd8 List.length hL1; simpa using this);rw[← hL2,← Fe];refine aT I (sW I (lW (cL call100 I (wi E g3 _ _ L oM oM)) ?_));rintro _ _ _ ⟨rfl,L2,hp2,hs2,rfl⟩;have hL2l:=hp2.length_eq;have hcall:∀ (x y:LV g3) s',cI Tryz.prog E (.func (.func 41) #[] #[]) [x.val,y.val] g3 s' (fun r g' s''=>r=vb (decide (x.l=y.l))∧g3=g'∧s'=s''):=fun x y s'=>cI.mk (args:=[x.val,y.val]) (cap:=[]) call41 (ur E g3 s' _ _ x.l y.l x.h y.h x.len);refine tZ (sW I (lW (cL call102 I (EC (kQ g3) LV.val (fun _=>I) (fun _=>I) E g3 _ _ 41 (fun x y=>decide (x.l=y.l)) L2 oM hcall)) ?_));rintro v47 _ _ ⟨rfl,rfl⟩;refine zc9 fun ⟨w0,hw0⟩=>?_;obtain ⟨q,d,rfl⟩:=ah (i:=0) hw0 rfl;clear hw0 w0;rw[Fe];have hnew:(ig (fun x y:LV g3=>decide (x.l=y.l)) L2).map LV.l=dT all T:=(by rw[Dp LV.l (fun x y:LV g3=>decide (x.l=y.l)) eqL (fun _ _=>rfl),hs2,hL1]; rfl);have hnl:(ig (fun x y:LV g3=>decide (x.l=y.l)) L2).length=(dT all T).length:=(by rw[← hnew,ze3]);have hall5:=Ff (ig (fun x y:LV g3=>decide (x.l=y.l)) L2);rw[hnew] at hall5;generalize (ig (fun x y:LV g3=>decide (x.l=y.l)) L2).length=n47 at *;generalize (ig (fun x y:LV g3=>decide (x.l=y.l)) L2).map LV.sv=rs5 at *;refine aT I (sW I (lU (eN bH I) (lU (gR I I) (tZ ?_))));refine iP I (fun hmany=>?_) (fun hmany=>?_)
    ·have hnone:aG [] ls=none:=by rw[hsa,aG,zf6 hnb,hT,zf7 oM]
     refine rZ (lU (za1 I (buildE30)) (oZ (sK 1 aw I I I I I sB) ?_));refine tZ (rE (bR (tR (tR (bR (tR ?_))))));exact ST.retCD 1 s (.inl I) results55 I bq aw I I uR ⟨I,hle.trans (hle2.trans hle3),_,I,by simp only[bQ,hnone]; exact⟨[],zb8 _ _,trivial⟩⟩
    ·refine kP (bN (tN (rG (yD I (lM I (nL ?_))))));refine gA (g3,.slice q n47 d,rs5,dT all T,k+1) sB I I ⟨hle.trans (hle2.trans hle3),lN,hall5,⟨lN,fun y hy=>?_⟩,xe all T,?_⟩ lN
     ·rcases kY hy with h | h
      ·exact has y h
      ·exact hsub2 y h
     ·rw[hsa,aG,zf6 hnb,hT,zf6 oM]
 ·have hk0:k=rs0.length:=oM;have hsome:aG [] ls=some all:=by rw[hsa,hk0,← hlen0,List.drop_length]; rfl
  have hfit:=ku hal has;refine xI (tX (tX (bX (tN (sQ (fS fun g2 hle2 hs2=>?_))))));have hav:SlA encSv g2 av rs:=hs2;obtain ⟨q,d,rfl⟩:=za2 hav;have hall2:=hall.mono fun _ _=>bJ.mono hle2;refine rG (bW (aL zl4) fun b6=>?_);refine tZ (sQ (sW I (lU (eN bH I) (lM I (tZ (bK (zb4 78 3 ?_)))))));refine oP (ι:=PH×Value×List Rc×Nat) (fun i=>[(2,pp b2 0),(3,.slice q rs.length d),(6,pp b6 0),(53,.slice q rs.length d),(54,vi rs.length),(55,vi i.2.2.2)]) (fun i=>i.1)
   (fun i=>rowA encCell 78 i.2.1 i.2.2.1::pt b6 (.cells #[i.2.1] 30 (0,0))::pt b2 (.cells #[.slice none 0 0] 30 (0,0))::s)
   (fun i=>Le g2 i.1∧i.2.2.2≤rs.length∧aB (au i.1) ((aU all).take i.2.2.2) i.2.2.1) (fun i=>rs.length - i.2.2.2)
   (g2,.slice none 0 0,[],0) sB rfl rfl ⟨zb7 g2,zf3 _,trivial⟩ ?_
  rintro ⟨g3,ov,rcs,n⟩ ⟨hle3,hn3,hrcs⟩;dsimp only at hle3 hn3 hrcs ⊢;have hrcl:=hrcs.length;rw[ze1,bG] at hrcl;refine rZ (yL I (tZ (sQ ?_)));refine iP I (fun hlt2=>?_) (fun hlt2=>?_)
  ·have hnl:n<all.length:=oM;have hnr:n<rs.length:=oM;have hb1:=hav.based oM;have hR:=(hall2.get (gE hnl) (gE hnr)).mono hle3;have hRl:=hR.len;have hx9:=has _ (gM hnl);have hget:=ja hnl;generalize hx:all[n]=x at *;generalize hr:rs[n]=r at *;obtain ⟨rp,rn,rc⟩:=r;dsimp only at hRl;subst hRl;have hxs:bT g3 (.slice rp x.length rc) x:=hR;have hgr:rs[((n:Nat):Int).toNat]?=some ⟨rp,x.length,rc⟩:=by rw[← hr]; exact gE hnr
   refine kP (tN (sQ (bK (sW I (lU (iA bH bZ I I hb1 oM sL) (lK (eB (u:=.slice rp x.length rc) dx I (hav.mono hle3).rd hgr I) (lA I (aT I (sW I (yD I (lM I (lU (eN ak I) (lU (sU I I oM) (lU (za1 I (buildC78 _ _)) (bW (aL zl1) fun b9=>?_)))))))))))))));refine oZ (sK 0 aK I I I I I sB) ?_;refine tZ (sQ (sQ (zb4 94 2 (rG (lM I (lU (eN ak I) (lM I (tZ (bK ?_)))))))));refine oP (ι:=PH×Value×Nat) (fun i=>[(2,pp b2 0),(3,.slice q rs.length d),(6,pp b6 0),(53,.slice q rs.length d),(54,vi rs.length),(55,vi n),(8,.slice rp x.length rc),(9,pp b9 0),(66,.slice rp x.length rc),(67,vi x.length),(68,vi i.2.2)]) (fun i=>i.1)
    (fun i=>rowA encSide 94 i.2.1 (aM all x i.2.2)::pt b9 (.cells #[vi ((n:Int)+1),vi ((x.length:Int) - 1),i.2.1] 78 (0,0))::rowA encCell 78 ov rcs::pt b6 (.cells #[ov] 30 (0,0))::pt b2 (.cells #[.slice none 0 0] 30 (0,0))::s)
    (fun i=>Le g3 i.1∧i.2.2≤x.length) (fun i=>x.length - i.2.2)
    (g3,.slice none 0 0,0) sB rfl rfl ⟨zb7 g3,zf3 _⟩ ?_
   rintro ⟨g4,sv,j⟩ ⟨hle4,hj⟩;dsimp only at hle4 hj ⊢;have hssl:=em all x j;have hsucc:=ff all x j;refine rZ (yL I (tZ (sQ ?_)));refine iP I (fun hlt3=>?_) (fun hlt3=>?_)
   ·have hjl:j<x.length:=oM;have hxs4:bT g4 (.slice rp x.length rc) x:=hxs.mono hle4;have hcap:=(SlA.cap hxs4).2;have hc1:=SlA.cut hxs4 (l:=0) (m:=j) oM oM;have hc2:=SlA.cut hxs4 (l:=j+1) (m:=x.length) oM oM;have he1:(x.drop 0).take (j - 0)=x.take j:=by simp
    have he2:(x.drop (j+1)).take (x.length - (j+1))=x.drop (j+1):=tL (by rw[ze6]; omega);rw[he1] at hc1;rw[he2] at hc2;have her:[x.take j,x.drop (j+1)].flatten=x.eraseIdx j:=by rw[List.eraseIdx_eq_take_drop_succ]; simp
    have hel:(x.eraseIdx j).length=x.length - 1:=by rw[List.length_eraseIdx]; simp[hjl]
    have hsum:iz [x.take j,x.drop (j+1)]<1099511627776:=by simp[iz]; omega
    refine kP (tN (sQ (bK (sW I (aT I (sQ ?_))))));refine dW [] [(0,2),(1,2),(2,2),(3,2),(4,2),(5,2),(6,2),(7,0),(8,0),(9,2)] zd9 kR ?_;refine yM I (yM I (pU I (SU.sliceH ak zT3 I I oM oM) (yM I (yM I (pU I (aD I I oM) (pU I (SU.eq (v':=sliced rp (j+1) x.length rc 1) (SU.sliceL ak zT3 I I oM oM) (by rw[show ((j:Int)+1).toNat=j+1 by omega])) ?_))))));refine SP.o I (bS sty22 I I I (ae sB) dC) dC (.inr iR) ?_;rintro _ _ _ ⟨b78,rfl,rfl,rfl⟩;refine SP.freeze fun g5 hle5 hb78=>?_;have hlit:aF g5 (.slice (some ⟨b78,0,none⟩) 2 2) [x.take j,x.drop (j+1)]:=⟨[eI (sliced rp 0 j rc 1),eI (sliced rp (j+1) x.length rc 1)],SlA.lit hb78 rfl rfl,⟨hc1.mono hle5,hc2.mono hle5,trivial⟩⟩;refine SP.o I (cL call103 I (wS E g5 _ _ _ hlit (by simp) hsum)) dC (.inr iR) ?_;rintro v79 _ _ ⟨rfl,rfl⟩;refine pU I (aS I) (pN (tN (sQ (fS fun g6 hle6 hs6=>?_))));have hrest:bT g6 v79 (x.eraseIdx j):=(by rw[← her]; exact hs6);obtain ⟨q6,d6,rfl⟩:=za2 hrest;clear hs6;refine rG (lM I (lU (eN ak I) (lU (gR I I) (tZ ?_))));refine iP I (fun hpos=>?_) (fun hpos=>?_)
    ·have hside:eX all x j=[⟨lbL all (x.eraseIdx j)+1,cH j⟩]:=by unfold eX; rw[zf7 oM]
     have hlb:=AF all (x.eraseIdx j);rw[hside] at hsucc;have hlist:aF g6 (.slice q rs.length d) all:=⟨rs,hav.mono (hle3.trans (hle4.trans (hle5.trans hle6))),hall2.mono fun _ _=>bJ.mono (hle3.trans (hle4.trans (hle5.trans hle6)))⟩;refine sW I (lM I (lW (cL call104 I (Ae E g6 _ _ _ all (x.eraseIdx j) hlist hrest oM (fun y hy=>by have:=has y hy; omega) (xF hsrt _))) ?_));rintro _ _ _ ⟨⟨fb,rfl⟩,rfl,rfl⟩;refine lM I (yX I (yX I (lA I (aT I ?_))));refine dW [8,9,10] [(0,2),(1,1),(2,2),(3,2),(4,2),(5,0),(6,2),(7,0),(8,0),(9,0),(10,0)] zd9 kR ?_;refine pU I (fA ar I cA I) (pK I (qL dE I (cO 1 I I)) (yM I (pU I (aD I I oM) (yM I (SP.o I (cL call105 I (BS E g6 _ j)) dC (.inr iR) ?_)))));rintro _ _ _ ⟨rfl,rfl,rfl⟩;refine pU I (za1 I (buildS94 _ _)) (SP.o I (bS sty76 I I I (ae sB) dC) dC (.inr iR) ?_);rintro _ _ _ ⟨b96,rfl,rfl,rfl⟩;refine SP.o I (aP (e:=encSide) 0 ⟨lbL all (x.eraseIdx j)+1,cH j⟩ sty76 I I I I I oM oM) dC (.inl dC) ?_;rintro v97 _ _ ⟨rfl,rfl⟩;rw[← hsucc];refine zc8 fun ⟨w0,hw0⟩=>?_;obtain ⟨q97,d97,rfl⟩:=ah (i:=0) hw0 rfl;clear hw0 w0;refine oU rfl (fA ar rfl cA rfl) dC (.inl dC) (SP.on rfl (SO.store1 1 cA rfl rfl rfl rfl (bE rfl) (by rfl)) (.inl dC) ?_);rintro _ _ _ ⟨rfl,rfl⟩;refine pN (bN (tN (rG (yD I (lM I (nL ?_))))));exact gA (g6,_,j+1) sB I I ⟨hle4.trans (hle5.trans hle6),lN⟩ lN
    ·have hside:eX all x j=[]:=by unfold eX; rw[zf6 oM]
     rw[hside,zc3] at hsucc;refine kP (bN (tN (rG (yD I (lM I (nL ?_))))));refine ST.to (fun w hw=>?_) (g':=g6) (s':=rowA encSide 94 sv (aM all x (j+1))::pt b9 (.cells #[vi ((n:Int)+1),vi ((x.length:Int) - 1),sv] 78 (0,0))::rowA encCell 78 ov rcs::pt b6 (.cells #[ov] 30 (0,0))::pt b2 (.cells #[.slice none 0 0] 30 (0,0))::s) ?_
     ·rw[hsucc]; exact hw
     exact gA (g6,sv,j+1) sB I I ⟨hle4.trans (hle5.trans hle6),lN⟩ lN
   ·have hjj:j=x.length:=oM;subst hjj;refine xI (tX (tX (bX (tN (rG (fR fun g5 hle5 hs5=>?_))))));have hsd:SlA encSide g5 sv (aM all x x.length):=hs5;obtain ⟨q5,d5,rfl⟩:=za2 hsd;obtain ⟨nc,hnc⟩:∃ nc:Rc,nc=⟨(n:Int)+1,(x.length:Int) - 1,⟨q5,(aM all x x.length).length,d5⟩⟩:=⟨_,rfl⟩;refine lU (fA fq I ek I) (lK (qL ii I (cO 2 I I)) (lK (qV 0 gJ aK I I I) (lW (bS sty28 I I I (ae sB) dC) ?_)));rintro _ _ _ ⟨b103,rfl,rfl,rfl⟩;refine lW (aP (e:=encCell) 1 nc sty28 I I I I (by rw[hnc]; rfl) oM oM) ?_;rintro v104 _ _ ⟨rfl,rfl⟩;refine zc9 fun ⟨w0,hw0⟩=>?_;obtain ⟨q104,d104,rfl⟩:=ah (i:=1) hw0 rfl;clear hw0 w0;refine lU (fA fq I ek I) (oZ (sK 2 ek I I I I I sB) ?_);refine nL (bN (tN (rG (yD I (lM I (nL (dR (s':=rowA encCell 78 (.slice q104 (rcs++[nc]).length d104) (rcs++[nc])::pt b6 (.cells #[.slice q104 (rcs++[nc]).length d104] 30 (0,0))::pt b2 (.cells #[.slice none 0 0] 30 (0,0))::s) (.cons _ (.refl _)) ?_)))))));refine gA (g5,_,rcs++[nc],n+1) sB I I ⟨hle3.trans (hle4.trans hle5),lN,?_⟩ lN;dsimp only;rw[fg hget];exact (hrcs.mono fun _ _=>au.mono (hle4.trans hle5)).append ⟨(by rw[hnc]; exact⟨I,I,hsd⟩),trivial⟩
  ·have hnn:n=rs.length:=oM;have htk:(aU all).take n=aU all:=tL (by rw[bG]; omega);rw[htk] at hrcs;refine xI (tX (tX (bX (tN (sQ (fS fun g4 hle4 hs4=>?_))))));have hov:am g4 ov (aU all):=⟨rcs,hs4,hrcs.mono fun _ _=>au.mono hle4⟩;refine rG (lK (qV 0 bq aw I I I) (lW (cL call15 I (ir E g4 _ ov (aU all) hov hfit)) ?_));rintro _ g5 _ ⟨rfl,hle5,u,rfl,hu⟩;obtain ⟨q9,d9,rfl⟩:=hu.form;refine oZ (sK 1 aw I I I I I sB) ?_;refine tZ (rE ?_);exact ST.retCD 1 s (.inl I) results55 I bq aw I I uR ⟨I,hle.trans (hle2.trans (hle3.trans (hle4.trans hle5))),_,I,by simp only[bQ,hsome]; exact hu⟩
theorem jG {l:List Int}(h:l.Pairwise (· ≤ ·)):dZ l=l:=by
 unfold dZ;exact List.mergeSort_of_pairwise (h.imp fun h=>by simpa using h)
theorem DJ:ce [0,1,2]=[0,1,2]:=by
 unfold ce;rw[jG dC];rfl
theorem F5:ce [0,1]=[0,1]:=by
 unfold ce;rw[jG dC];rfl
theorem Ex {l:List Cl}(h:(l.all fun c=>decide (c.sides.length<100))=true)(h2:l.length<100):cZ l:=by
 rw[zj6] at h;exact⟨oM,fun c hc=>by have:=h c hc; simp at this; omega⟩
theorem aB.cons_left {α β:Type}{R:α→β→Prop}{a:α}{l:List α}{m:List β}(h:aB R (a::l) m):∃ b m',m=b::m'∧R a b∧aB R l m':=by
 cases m with
 | nil=>exact h.elim
 | cons b m=>exact⟨b,m,rfl,h.1,h.2⟩
theorem aB.nil_left {α β:Type}{R:α→β→Prop}{m:List β}(h:aB R ([]:List α) m):m=[]:=by
 cases m with
 | nil=>rfl
 | cons b m=>exact h.elim
theorem eo {g:PH}{c:Cl}{r:Rc}(h:au g c r):∃ p d,r=⟨c.id,c.dim,⟨p,c.sides.length,d⟩⟩∧SlA encSide g (.slice p c.sides.length d) c.sides:=by
 obtain ⟨i,dm,p,n,d⟩:=r;obtain ⟨h1,h2,h3⟩:=h;dsimp only at h1 h2 h3;have h4:=(SlA.cap h3).1;subst h1 h2 h4;exact⟨p,d,I,h3⟩
theorem Cy {α:Type}{key:α→Int}{l out:List α}{x:α}{k:Nat}(hs:Srt key out)(hst:aJ key l out)(h1:∀ y∈out.take k,key y≤key x)(h2:∀ y∈out.drop k,key x<key y) :
  Srt key (out.take k++x::out.drop k)∧aJ key (l++[x]) (out.take k++x::out.drop k):=by
 have hs':Srt key (out.take k++out.drop k):=by rw[zi8]; exact hs
 have h3:=Srt.append_iff.1 hs';refine⟨Srt.append_iff.2 ⟨h3.1,Srt.cons_iff.2 ⟨fun y hy=>Int.le_of_lt (h2 y hy),h3.2.1⟩,fun y hy z hz=>?_⟩,?_⟩
 ·rcases ze7.1 hz with rfl | hz
  ·exact h1 y hy
  ·exact h3.2.2 y hy z hz
 ·have h4:aJ key (l++[x]) (out++[x]):=hst.append (aJ.refl [x]);have h5:aJ key (out.drop k++[x]) ([x]++out.drop k):=aJ.swap (fun y hy z hz=>by simp at hz; subst hz; have:=h2 y hy; omega);have h6:=aJ.append (aJ.refl (key:=key) (out.take k)) h5;have h7:out++[x]=out.take k++(out.drop k++[x]):=by rw[← zg5,zi8]
  rw[h7] at h4;simpa using h4.trans h6
theorem wc {α:Type}{key:α→Int}{out:List α}{c:Int}{k:Nat}(hs:Srt key out)(hk:k<out.length)(h:c<key out[k]):∀ y∈out.drop k,c<key y:=by
 rw[zg3 hk];intro y hy;have h1:Srt key (out.drop k):=List.Pairwise.sublist (List.drop_sublist k out) hs;rw[zg3 hk] at h1
 rcases ze7.1 hy with rfl | hy
 ·exact h
 ·have:=(Srt.cons_iff.1 h1).1 y hy;omega
theorem qP (E:World)(g:PH)(s:Own)(v:Value)(l:List ai)(hv:SlA encSide g v l)(hl:l.length<1099511627776) :
  Ctr Tryz.prog E 64 #[v] g s (fun r g' s'=>s=s'∧Le g g'∧SlA encSide g' r (sortBy ai.cell l)):=by
 obtain ⟨p,c,rfl⟩:=za2 hv;refine za9 (args:=[.slice p l.length c]) func64 I ntmps64 (bE I) ?_;refine rZ (aT I (rZ (aT I (sQ (rZ (aT I (bK ?_)))))));refine oP (ι:=PH×Value×List ai×Nat) (fun i=>[(0,.slice p l.length c),(3,i.2.1),(4,vi i.2.2.2)]) (fun i=>i.1) (fun _=>s)
  (fun i=>Le g i.1∧SlA encSide i.1 i.2.1 i.2.2.1∧i.2.2.2≤l.length∧Srt ai.cell i.2.2.1∧aJ ai.cell (l.take i.2.2.2) i.2.2.1) (fun i=>l.length - i.2.2.2)
  (g,.slice none 0 0,[],0) sB rfl rfl ⟨zb7 g,zb8 g _,zf3 _,Srt.nil,aJ.refl _⟩ ?_
 rintro ⟨g1,ov,out,i⟩ ⟨hle,hov,hi,hsrt,hst⟩;dsimp only at hle hov hi hsrt hst ⊢;have hol:out.length=i:=by have:=hst.1; rw[ze1] at this; omega
 obtain ⟨q,d,rfl⟩:=za2 hov;have hqc:=(SlA.cap hov).2;refine sQ (sW I (lM I (lU (eN cM I) (yL I (tZ ?_)))));refine iP I (fun hlt=>?_) (fun hlt=>?_)
 ·have hil:i<l.length:=oM;have hb1:=za4 (hv.mono hle) oM;have hgi:l[((i:Nat):Int).toNat]?=some l[i]:=gE hil;have htk:l.take (i+1)=l.take i++[l[i]]:=tS hil;generalize l[i]=x at *;refine kP (tN (sQ (bK (rZ (aT I ?_)))));refine SC.cut (ι:=Nat) (fun k=>[(0,.slice p l.length c),(3,.slice q out.length d),(4,vi i),(5,vi k)]) (fun _=>g1) (fun _=>s) (fun k=>k≤out.length∧(∀ y∈out.take k,y.cell≤x.cell)∧∀ y∈out.drop k,x.cell<y.cell) ?_ ?_
  ·refine bK ?_;refine oP (ι:=Nat) (fun k=>[(0,.slice p l.length c),(3,.slice q out.length d),(4,vi i),(5,vi k)]) (fun _=>g1) (fun _=>s) (fun k=>k≤out.length∧∀ y∈out.take k,y.cell≤x.cell) (fun k=>out.length - k) 0
    sB rfl rfl ⟨zf3 _,by simp⟩ ?_
   rintro k ⟨hk,htake⟩;by_cases hin:(k:Int)<(out.length:Int)
   ·have hkl:k<out.length:=oM;have hb2:=za4 hov oM;have hd:decide ((k:Int)<(out.length:Int))=true:=zf5 hin;refine sQ (sQ ?_);refine dW [] [(0,2),(1,2),(2,2),(3,2),(4,2),(5,2),(6,2),(7,2),(8,2),(9,1),(10,2),(11,2),(12,2),(13,2),(14,1),(15,2),(16,2)] zd9 kR ?_;refine yM I (yM I (pU I (eN cM I) (pU I (SU.eq (lS I I) (zd8 vb hd)) (yM I (yJ I (yJ I (zb1 I (gT I I I dC) (iA cM cq I I hb2 oM sL) dC (zb1 I (gT I I I dC) (fC dK I zT3 I hb2) dC ?_))))))));refine SP.gq I (gT I I I dC) (aZ (o:=0) iT3 I hov.rd (gE hkl) I) dC ?_;refine yJ I (yJ I (zb1 I (gT I I I dC) (iA cM cq I I hb1 oM sL) dC (zb1 I (gT I I I dC) (fC dK I zT3 I hb1) dC (SP.gq I (gT I I I dC) (aZ (o:=0) iT3 I (hv.mono hle).rd hgi I) dC (zb1 I (gT I I I dC) (SU.leq I I) dC (pU I (wT I I) (pN (tN ?_))))))));refine iP I (fun hc=>?_) (fun hc=>?_)
    ·refine kP (tN (bK (rG (lM I (yD I (lA I (nL (bN ?_))))))));exact gA (k+1) sB I I ⟨oM,by
      rw[tS hkl];intro y hy
      rcases ze9.1 hy with h | h
      ·exact htake y h
      ·simp at h; subst h; exact hc⟩ oM
    ·refine xI (tX (tX (bX ?_)));exact za7 k sB I I ⟨hk,htake,wc hsrt hkl oM⟩
   ·have hd:decide ((k:Int)<(out.length:Int))=false:=zf4 hin;refine sQ (sQ ?_);refine dW [] [(0,2),(1,2),(2,2),(3,2),(4,2),(5,2),(6,2),(7,2),(8,2),(9,1),(10,2),(11,2),(12,2),(13,2),(14,1),(15,2),(16,2)] zd9 kR ?_;refine yM I (yM I (pU I (eN cM I) (pU I (SU.eq (lS I I) (zd8 vb hd)) (yM I (yG I (yG I (yG I (yG I (yI I (yG I (yG I (yG I (yG I (yI I (yG I (pU I (wF I I) (pN (tN (cF I (xI (tX (tX (bX ?_)))))))))))))))))))))));exact za7 k sB I I ⟨hk,htake,by rw[List.drop_eq_nil_of_le oM]; simp⟩
  ·rintro k ⟨hk,hk1,hk2⟩;have hnew:=Cy hsrt hst hk1 hk2;have hc1:=SlA.cut hov (l:=k) (m:=out.length) hk (lR _);have hc2:=SlA.cut hov (l:=0) (m:=k) (zf3 _) hk;rw[tL (by rw[ze6]; exact lR _)] at hc1;rw[List.drop_zero,Nat.sub_zero] at hc2;refine sQ ?_;refine dW [8] [(0,2),(1,2),(2,2),(3,1),(5,2),(6,2),(7,2),(4,0),(8,0),(9,2)] zd9 kR ?_;refine yM I (yM I (pU I (iA cM cq I I hb1 oM sL) (pK I (eA mT cq I (hv.mono hle).rd hgi) (yM I (yM I (pU I (SU.sliceL cM cq I I oM oM) (SP.o I (bS sty76 I I I (ae ⟨I,trivial⟩) dC) dC (.inr iR) ?_)))))));rintro _ _ _ ⟨b36,rfl,rfl,rfl⟩;refine SP.to (fun w hw=>At.litRow (e:=encSide) (l:=[x]) (n:=0) hw I I dC) ?_;refine SP.o I (aQ (e:=encSide) 0 sty76 I I I hc1 (by rw[ze6]; (first | with_reducible rfl | ((try dsimp only); (try simp only[ze2,ze5,zc1,ze4,ze1,ze6])<;>omega))) (by rw[ze6]; (first | with_reducible rfl | ((try dsimp only); (try simp only[ze2,ze5,zc1,ze4,ze1,ze6])<;>omega)))) dC (.inl dC) ?_;rintro v40 _ _ ⟨rfl,rfl⟩;refine pU I (aS I) (pN (tN (fS fun g2 hle2 hs2=>?_)));have hrest:SlA encSide g2 v40 ([x]++out.drop k):=hs2;refine rG (lW (bS sty76 I I I (ae trivial) dC) ?_);rintro _ _ _ ⟨b41,rfl,rfl,rfl⟩;refine SL.emptyRow 94 2 (some ⟨b41,0,none⟩) (lM I (lM I (lU (SU.sliceH cM cq I I oM oM) (lW (aQ (e:=encSide) (l:=[]) 0 sty76 I I I (hc2.mono hle2) (by rw[ze1]; (first | with_reducible rfl | ((try dsimp only); (try simp only[ze2,ze5,zc1,ze4,ze1,ze6])<;>omega))) (by rw[ze1]; (first | with_reducible rfl | ((try dsimp only); (try simp only[ze2,ze5,zc1,ze4,ze1,ze6])<;>omega)))) ?_))));rintro v45 _ _ ⟨rfl,rfl⟩;refine lM I (lW (aQ (e:=encSide) 0 sty76 I I I hrest lN lN) ?_);rintro v47 _ _ ⟨rfl,rfl⟩;refine lA I (nL (bN (tN (rG (lM I (yD I (lA I (nL (fT fun g3 hle3 hs3=>?_)))))))));refine dR (s':=s) uR ?_;have hres:SlA encSide g3 v47 (out.take k++x::out.drop k):=by have h:SlA encSide g3 v47 ([]++out.take k++([x]++out.drop k)):=hs3; simpa using h
   exact gA (g3,v47,out.take k++x::out.drop k,i+1) sB I I ⟨hle.trans (hle2.trans hle3),hres,lN,hnew.1,by dsimp only; rw[htk]; exact hnew.2⟩ lN
 ·have hii:l.take i=l:=tL oM;rw[hii] at hst;refine xI (tX (tX (bX (tN (sW I (aT I (rE ?_)))))));exact za6 (.inl I) results64 I ⟨I,hle,by rw[← dS hsrt hst]; exact hov⟩
theorem aB.drop {α β:Type}{R:α→β→Prop}:∀ {l:List α} {m:List β} (k:Nat),aB R l m→aB R (l.drop k) (m.drop k)
 | _,_,0,h=>by simpa using h
 | [],[],k+1,_=>trivial
 | _::_,_::_,k+1,h=>by simpa using aB.drop k h.2
 | [],_::_,_+1,h=>h.elim
 | _::_,[],_+1,h=>h.elim
theorem aB.take {α β:Type}{R:α→β→Prop}:∀ {l:List α} {m:List β} (k:Nat),aB R l m→aB R (l.take k) (m.take k)
 | _,_,0,_=>by simp; trivial
 | [],[],k+1,_=>trivial
 | _::_,_::_,k+1,h=>⟨h.1,aB.take k h.2⟩
 | [],_::_,_+1,h=>h.elim
 | _::_,[],_+1,h=>h.elim
theorem am.cut {g:PH}{p:Option Addr}{c a b n:Nat}{l:List Cl}(h:am g (.slice p n c) l)(ha:a≤b)(hb:b≤l.length):am g (sliced p a b c 3) ((l.drop a).take (b - a)):=by
 obtain ⟨rs,h1,h2⟩:=h;have hl:=h2.length;have hn:=(SlA.cap h1).1;subst hn;exact⟨_,SlA.cut h1 ha oM,aB.take (b - a) (aB.drop a h2)⟩
theorem am.cap {g:PH}{p:Option Addr}{c n:Nat}{l:List Cl}(h:am g (.slice p n c) l):n=l.length∧l.length≤c:=by
 obtain ⟨rs,h1,h2⟩:=h;have:=SlA.cap h1;rw[h2.length];exact⟨this.1,this.2⟩
theorem mQ (l:List Cl):aa l=sortBy Cl.id (l.map ay):=by
 unfold aa;rw[zo];rfl
theorem iu (l:List Cl):Srt Cl.id (aa l):=by rw[mQ]; exact dH _
theorem pT (l:List Cl):aJ Cl.id (l.map ay) (aa l):=by rw[mQ]; exact eW _
theorem Tryz.buildF78 (x y:Int)(v:Value)(hv:v.cells = #[v])(w:World):(Instr.build 78 #[(0,vi x),(1,vi y),(2,v)]).run Tryz.prog w = .ok (.agg #[vi x,vi y,v]) w:=by
 have hz:(Value.agg #[vi 0,vi 0,Value.slice none 0 0]).cells = #[vi 0,vi 0,.slice none 0 0]:=rfl;have h1:(vi x).cells = #[vi x]:=rfl;have h2:(vi y).cells = #[vi y]:=rfl;simp[Instr.build,Instr.fill,hv,hz,h1,h2]
theorem lG (n:Nat)(h:n<4611686018427387904):IntKind.i64.wrap (((n:Nat):Int).tdiv 2)=((n / 2:Nat):Int):=by
 have h1:((n:Nat):Int).tdiv 2=((n / 2:Nat):Int):=by
  rw[Int.tdiv_eq_ediv_of_nonneg oM]; simp
 rw[h1,zk8 _ oM]
theorem jR (E:World):∀ (n:Nat) (g:PH) (s:Own) (v:Value) (l:List Cl),l.length≤n→am g v l→cZ l →
  Ctr Tryz.prog E 111 #[v] g s (fun r g' s'=>s=s'∧Le g g'∧am g' r (aa l)):=by
 intro n;induction n with
 | zero =>
  intro g s v l hn hv hf;have hl0:l=[]:=zf1 oM;subst hl0;obtain ⟨p,c,rfl⟩:=hv.form;refine za9 (args:=[.slice p 0 c]) func111 I ntmps111 (bE I) ?_;refine rZ (aT I (sQ (sW I (lU (eN aO I) (yE I (tZ ?_))))));refine iP I (fun h0=>?_) (fun h0=>?_)
  ·refine rZ (aT I (rE (tR ?_)));exact za6 (.inl I) results111 I ⟨I,zb7 g,[],zb8 g _,trivial⟩
  ·exact absurd I h0
 | succ n ih =>
  intro g s v l hn hv hf;obtain ⟨rs,hrs,hall⟩:=hv;have hv:am g v l:=⟨rs,hrs,hall⟩;have hlen:=hall.length;have hfl:=hf.1;obtain ⟨p,c,rfl⟩:=hv.form;have hcap:=(am.cap hv).2;refine za9 (args:=[.slice p l.length c]) func111 I ntmps111 (bE I) ?_;refine rZ (aT I (sQ (sW I (lU (eN aO I) (yE I (tZ ?_))))));refine iP I (fun h0=>?_) (fun h0=>?_)
  ·have hl0:l=[]:=zf1 oM;subst hl0;refine rZ (aT I (rE (tR ?_)));exact za6 (.inl I) results111 I ⟨I,zb7 g,[],zb8 g _,trivial⟩
  ·refine kP (tN (sQ (sW I (lU (eN aO I) (yE I (tZ ?_))))));refine iP I (fun h1=>?_) (fun h1=>?_)
   ·obtain ⟨x,hx⟩:∃ x,l=[x]:=by
     match l,h1 with
     | [x],_=>exact⟨x,rfl⟩
     | [],h=>simp at h
     | _::_::_,h=>simp at h; omega
    subst hx;obtain ⟨r,rs',rfl,hr,hn'⟩:=aB.cons_left hall;have hrs0:=aB.nil_left hn';subst hrs0;obtain ⟨rp,rd,rfl,hsd⟩:=eo hr;have hb1:=hrs.based (by simp);have hxl:=hf.2 x (by simp);refine sQ ?_;refine dW [] [(0,2),(1,2),(2,2),(3,1),(4,2),(5,2),(6,2),(7,1),(8,2),(9,2),(10,2),(11,1),(12,0),(13,2),(14,0),(15,2)] zd9 kR ?_;refine yM I (pU I (iA aO aK I I hb1 dC (show (0:Int)<((1:Nat):Int) by decide)) ?_);refine pU I (fC ar I zT3 I hb1) (pK I (aZ (e:=encCell) (o:=0) (j:=0) (u:=vi x.id) iT3 I hrs.rd I I) (yM I (pU I (iA aO aK I I hb1 dC (show (0:Int)<((1:Nat):Int) by decide)) ?_)));refine pU I (fC ar I zT3 I hb1) (pK I (aZ (e:=encCell) (o:=1) (j:=0) (u:=vi x.dim) iT3 I hrs.rd I I) (yM I (pU I (iA aO aK I I hb1 dC (show (0:Int)<((1:Nat):Int) by decide)) ?_)));refine pU I (fC ar I cA I hb1) (pK I (aZ (e:=encCell) (o:=2) (j:=0) (u:=.slice rp x.sides.length rd) dE I hrs.rd I I) (SP.o I (cL call64 I (qP E g _ _ x.sides hsd hxl)) dC (.inr iR) ?_));rintro v24 g1 _ ⟨rfl,hle1,hs1⟩;obtain ⟨q,d,rfl⟩:=za2 hs1;refine pU I (za1 I (buildF78 _ _ _ I)) (SP.o I (bS sty28 I I I (ae sB) dC) dC (.inr iR) ?_);rintro _ _ _ ⟨b26,rfl,rfl,rfl⟩;refine pU I (aS I) (pN (tN (rE (tR (ST.freeze fun g2 hle2 hb=>?_)))));exact za6 (.inl I) results111 I ⟨I,hle1.trans hle2,[⟨x.id,x.dim,⟨q,(sortBy ai.cell x.sides).length,d⟩⟩],SlA.lit hb I I,⟨⟨I,I,hs1.mono hle2⟩,trivial⟩⟩
   ·have hm1:l.length / 2<l.length:=oM;have hm0:0<l.length / 2:=oM;have hc1:=am.cut hv (a:=0) (b:=l.length / 2) oM oM;have hc2:=am.cut hv (a:=l.length / 2) (b:=l.length) oM oM;rw[List.drop_zero,Nat.sub_zero] at hc1;rw[tL (by rw[ze6]; exact lR _)] at hc2;have hf1:cZ (l.take (l.length / 2)):=⟨by rw[ze1]; omega,fun c hc=>hf.2 c (List.mem_of_mem_take hc)⟩;have hf2:cZ (l.drop (l.length / 2)):=⟨by rw[ze6]; omega,fun c hc=>hf.2 c (List.mem_of_mem_drop hc)⟩;have hca:=aq (l.take (l.length / 2));have hcb:=aq (l.drop (l.length / 2));have hsa:=iu (l.take (l.length / 2));have hsb:=iu (l.drop (l.length / 2));have hst:aJ Cl.id (l.map ay) (aa (l.take (l.length / 2))++aa (l.drop (l.length / 2))):=by
     have h2:=(pT (l.take (l.length / 2))).append (pT (l.drop (l.length / 2)));rwa [← zg2,zi8] at h2
    rw[ze1] at hca;rw[ze6] at hcb;refine kP (tN (sW I (lM I (lU (eN aO I) (lU (SU.eq (v':=vi ((l.length / 2:Nat):Int)) (SU.quo I I dC) (zd8 vi (lG _ oM))) (lU (SU.sliceH aO aK I I oM oM) (lW (cL call111 I (ih g _ _ (l.take (l.length / 2)) (by rw[ze1]; omega) hc1 hf1)) ?_)))))));rintro va0 g1 _ ⟨rfl,hle1,hA⟩;refine aT I (sW I (lM I (lU (eN aO I) (lU (SU.eq (v':=vi ((l.length / 2:Nat):Int)) (SU.quo I I dC) (zd8 vi (lG _ oM))) (lU (SU.sliceL aO aK I I oM oM) (lW (cL call111 I (ih g1 _ _ (l.drop (l.length / 2)) (by rw[ze6]; omega) (hc2.mono hle1) hf2)) ?_))))));rintro vb0 g2 _ ⟨rfl,hle2,hB⟩;refine aT I (rZ (aT I ?_));generalize hA0:aa (l.take (l.length / 2))=A0 at *;generalize hB0:aa (l.drop (l.length / 2))=B0 at *;refine zb4 78 3 ?_;refine SC.cut (ι:=Value×Value×Value×List Cl×List Cl×List Cl×List Rc) (fun i=>[(3,i.1),(4,i.2.1),(5,i.2.2.1)]) (fun _=>g2) (fun i=>rowA encCell 78 i.2.2.1 i.2.2.2.2.2.2::s)
     (fun i=>am g2 i.1 i.2.2.2.1∧am g2 i.2.1 i.2.2.2.2.1∧aB (au g2) i.2.2.2.2.2.1 i.2.2.2.2.2.2∧i.2.2.2.2.2.1++i.2.2.2.1++i.2.2.2.2.1=aa l) ?_ ?_
    ·refine bK ?_;refine oP (ι:=Value×Value×Value×List Cl×List Cl×List Cl×List Cl×List Cl×List Rc) (fun i=>[(3,i.1),(4,i.2.1),(5,i.2.2.1)]) (fun _=>g2) (fun i=>rowA encCell 78 i.2.2.1 i.2.2.2.2.2.2.2.2::s)
      (fun i=>(am g2 i.1 i.2.2.2.2.1∧am g2 i.2.1 i.2.2.2.2.2.2.1)∧aB (au g2) i.2.2.2.2.2.2.2.1 i.2.2.2.2.2.2.2.2∧A0=i.2.2.2.1++i.2.2.2.2.1∧B0=i.2.2.2.2.2.1++i.2.2.2.2.2.2.1∧Srt Cl.id i.2.2.2.2.2.2.2.1∧aJ Cl.id (i.2.2.2.1++i.2.2.2.2.2.1) i.2.2.2.2.2.2.2.1 ∧
       (∀ y∈i.2.2.2.2.2.2.2.1,∀ z∈i.2.2.2.2.1++i.2.2.2.2.2.2.1,y.id≤z.id)∧(∀ y∈i.2.2.2.2.2.1,∀ z∈i.2.2.2.2.1,y.id<z.id)) (fun i=>i.2.2.2.2.1.length+i.2.2.2.2.2.2.1.length)
      (va0,vb0,.slice none 0 0,[],A0,[],B0,[],[]) sB rfl rfl ⟨⟨hA.mono hle2,hB⟩,trivial,rfl,rfl,Srt.nil,aJ.refl _,by simp,by simp⟩ ?_
     rintro ⟨va,vb1,vo,A1,A2,B1,B2,out,ro⟩ ⟨⟨hva,hvb⟩,hro,hA',hB',hso,hto,hout,hlt⟩;dsimp only at hva hvb hro hA' hB' hso hto hout hlt ⊢;have hol:out.length=A1.length+B1.length:=by have:=hto.1; simpa using this
     have hrol:=hro.length;have hAl:A0.length=A1.length+A2.length:=by rw[hA']; simp
     have hBl:B0.length=B1.length+B2.length:=by rw[hB']; simp
     rw[hA'] at hsa;rw[hB'] at hsb;have hsa2:=(Srt.append_iff.1 hsa).2.1;have hsb2:=(Srt.append_iff.1 hsb).2.1;obtain ⟨pa,ca,rfl⟩:=hva.form;obtain ⟨pb,cb,rfl⟩:=hvb.form;have hcapa:=(am.cap hva).2;have hcapb:=(am.cap hvb).2;have hfin:A2=[]∨B2=[]→out++A2++B2=aa l:=fun h=>by
      rw[mQ];refine dS ?_ ?_
      ·rw[zg5];refine Srt.append_iff.2 ⟨hso,?_,hout⟩
       rcases h with rfl | rfl
       ·simpa using hsb2
       ·simpa using hsa2
      ·refine hst.trans ?_;rw[hA',hB']
       rcases h with rfl | rfl
       ·have h2:=hto.append (aJ.refl (key:=Cl.id) B2);simpa using h2
       ·have h3:aJ Cl.id (A2++B1) (B1++A2):=aJ.swap (fun x hx y hy=>by have:=hlt y hy x hx; omega);have h4:=(aJ.refl (key:=Cl.id) A1).append h3;have h5:=hto.append (aJ.refl (key:=Cl.id) A2);simp only[zc3,zg5] at h4 h5 ⊢;exact h4.trans h5
     cases A2 with
     | nil =>
      refine sQ (sW I (lU (eN aO I) (lU (SU.eq (v':=vb false) (gR I I) I) (lM I (yA I (yA I (yA I (yF I (tZ (cF I (xI (tX (tX (bX ?_))))))))))))));exact za7 (_,_,vo,[],B2,out,ro) sB I I ⟨hva,hvb,hro,hfin (.inl I)⟩
     | cons x A3 =>
      have hpa:(0:Int)<((x::A3).length:Int):=by simp
      cases B2 with
      | nil =>
       refine sQ (sW I (lU (eN aO I) (lU (SU.eq (v':=vb true) (gR I I) (zd8 vb (zf5 hpa))) (lM I (yC I (lY I I I (eN aO I) (lY I I I (SU.eq (v':=vb false) (gR I I) I) (yP I (tZ (cF I (xI (tX (tX (bX ?_))))))))))))));exact za7 (_,_,vo,x::A3,[],out,ro) sB I I ⟨hva,hvb,hro,hfin (.inr I)⟩
      | cons y B3 =>
       have hpb:(0:Int)<((y::B3).length:Int):=by simp
       obtain ⟨ra,hra,halla⟩:=hva;obtain ⟨rb,hrb,hallb⟩:=hvb;have hva:am g2 _ (x::A3):=⟨ra,hra,halla⟩;have hvb:am g2 _ (y::B3):=⟨rb,hrb,hallb⟩;have hna:=am.cut hva (a:=1) (b:=(x::A3).length) (by simp) (lR _);have hnb:=am.cut hvb (a:=1) (b:=(y::B3).length) (by simp) (lR _);have hda:((x::A3).drop 1).take ((x::A3).length - 1)=A3:=by simp
       have hdb:((y::B3).drop 1).take ((y::B3).length - 1)=B3:=by simp
       rw[hda] at hna;rw[hdb] at hnb;obtain ⟨x',ra',rfl,hx,_⟩:=aB.cons_left halla;obtain ⟨y',rb',rfl,hy,_⟩:=aB.cons_left hallb;have hba:=hra.based (by simp);have hbb:=hrb.based (by simp);have hlen3:A3.length+1+(B3.length+1)+out.length≤l.length:=by simp only[ze5] at hAl hBl; omega
       refine sQ (sW I (lU (eN aO I) (lU (SU.eq (v':=vb true) (gR I I) (zd8 vb (zf5 hpa))) (lM I (yC I (lY I I I (eN aO I) (lY I I I (SU.eq (v':=vb true) (gR I I) (zd8 vb (zf5 hpb))) (yP I (tZ (cT I (kP (tN (bK (sQ ?_))))))))))))));refine dW [] [(0,2),(1,2),(2,2),(3,1),(4,2),(5,2),(6,2),(7,1),(8,2)] zd9 kR ?_;refine yM I (pU I (iA aO aK I I hbb dC hpb) (pU I (fC ar I zT3 I hbb) (pK I (aZ (e:=encCell) (o:=0) (j:=0) (u:=vi y'.id) iT3 I hrb.rd I I) (yM I (pU I (iA aO aK I I hba dC hpa) (pU I (fC ar I zT3 I hba) (pK I (aZ (e:=encCell) (o:=0) (j:=0) (u:=vi x'.id) iT3 I hra.rd I I) (pU I (lS I I) (pN (tN ?_))))))))));refine iP I (fun hc=>?_) (fun hc=>?_)
       ·refine sW I (lM I (lU (iA aO aK I I hbb dC hpb) (lK (eA (e:=encCell) (a:=y') (j:=0) gJ aK I hrb.rd I) (lW (bS sty28 I I I (ae sB) dC) ?_))));rintro _ _ _ ⟨b60,rfl,rfl,rfl⟩;refine lW (aP (e:=encCell) 0 y' sty28 I I I I I oM oM) ?_;rintro v61 _ _ ⟨rfl,rfl⟩;refine aT I (rG (lM I (lU (SU.sliceL aO aK I I dC (by simp only[ze5]; omega)) ?_)));refine lA I (nL (bN ?_));rw[hx.1,hy.1] at hc;refine gA (_,_,v61,A1,x::A3,B1++[y],B3,out++[y],ro++[y']) sB I I ⟨⟨hva,hnb⟩,hro.append ⟨hy,trivial⟩,hA',by rw[hB']; simp,?_,?_,?_,?_⟩ lN
        ·refine Srt.append_iff.2 ⟨hso,Srt.one y,fun a ha b hb=>?_⟩;simp at hb; subst hb; exact hout a ha b (by simp)
        ·have h2:=hto.append (aJ.refl (key:=Cl.id) [y]);simpa using h2
        ·intro a ha b hb;dsimp only at ha hb
         rcases ze9.1 ha with ha | ha
         ·refine hout a ha b ?_;simp at hb ⊢
          rcases hb with h | h | h
          ·exact .inl h
          ·exact .inr (.inl h)
          ·exact .inr (.inr (.inr h))
         ·simp at ha; subst ha
          rcases ze9.1 hb with hb | hb
          ·rcases ze7.1 hb with rfl | hb
           ·omega
           ·have:=(Srt.cons_iff.1 hsa2).1 b hb; omega
          ·exact (Srt.cons_iff.1 hsb2).1 b hb
        ·intro a ha b hb;dsimp only at ha hb
         rcases ze9.1 ha with ha | ha
         ·exact hlt a ha b hb
         ·simp at ha; subst ha
          rcases ze7.1 hb with rfl | hb
          ·omega
          ·have:=(Srt.cons_iff.1 hsa2).1 b hb; omega
       ·refine sW I (lM I (lU (iA aO aK I I hba dC hpa) (lK (eA (e:=encCell) (a:=x') (j:=0) gJ aK I hra.rd I) (lW (bS sty28 I I I (ae sB) dC) ?_))));rintro _ _ _ ⟨b68,rfl,rfl,rfl⟩;refine lW (aP (e:=encCell) 0 x' sty28 I I I I I oM oM) ?_;rintro v69 _ _ ⟨rfl,rfl⟩;refine aT I (rG (lM I (lU (SU.sliceL aO aK I I dC (by simp only[ze5]; omega)) ?_)));refine lA I (nL (bN ?_));rw[hx.1,hy.1] at hc;refine gA (_,_,v69,A1++[x],A3,B1,y::B3,out++[x],ro++[x']) sB I I ⟨⟨hna,hvb⟩,hro.append ⟨hx,trivial⟩,by rw[hA']; simp,hB',?_,?_,?_,?_⟩ lN
        ·refine Srt.append_iff.2 ⟨hso,Srt.one x,fun a ha b hb=>?_⟩;simp at hb; subst hb; exact hout a ha b (by simp)
        ·have h2:aJ Cl.id ([x]++B1) (B1++[x]):=aJ.swap (fun a ha b hb=>by simp at ha; subst ha; have:=hlt b hb a (by simp); omega);have h3:=(aJ.refl (key:=Cl.id) A1).append h2;have h4:=hto.append (aJ.refl (key:=Cl.id) [x]);dsimp only;simp only[zg5] at h3 h4 ⊢;exact h3.trans h4
        ·intro a ha b hb;dsimp only at ha hb
         rcases ze9.1 ha with ha | ha
         ·refine hout a ha b ?_;simp at hb ⊢
          rcases hb with h | h | h
          ·exact .inr (.inl h)
          ·exact .inr (.inr (.inl h))
          ·exact .inr (.inr (.inr h))
         ·simp at ha; subst ha
          rcases ze9.1 hb with hb | hb
          ·exact (Srt.cons_iff.1 hsa2).1 b hb
          ·rcases ze7.1 hb with rfl | hb
           ·omega
           ·have:=(Srt.cons_iff.1 hsb2).1 b hb; omega
        ·intro a ha b hb;exact hlt a ha b (by simp[hb])
    ·rintro ⟨va,vb1,vo,A2,B2,out,ro⟩ ⟨hva,hvb,hro,hres⟩;dsimp only at hva hvb hro hres ⊢;obtain ⟨ra,hra,halla⟩:=hva;obtain ⟨rb,hrb,hallb⟩:=hvb;have hl1:=zd8 List.length hres;rw[aq] at hl1;simp only[ze2] at hl1;have e1:=hro.length;have e2:=halla.length;have e3:=hallb.length;refine sW I (lM I (lW (aQ (e:=encCell) 0 sty28 I I I hra oM oM) ?_));rintro v74 _ _ ⟨rfl,rfl⟩;refine lM I (lW (aQ (e:=encCell) 0 sty28 I I I hrb lN lN) ?_);rintro v76 _ _ ⟨rfl,rfl⟩;refine aT I (rE (fT fun g3 hle3 hs3=>?_));exact za6 (.inl I) results111 I ⟨I,hle1.trans (hle2.trans hle3),ro++ra++rb,hs3,by rw[← hres]; exact (((hro.append halla).append hallb).mono fun _ _=>au.mono hle3)⟩
theorem fN (E:World)(g:PH)(s:Own)(v:Value)(l:List Cl)(hv:am g v l)(hf:cZ l) :
  Ctr Tryz.prog E 107 #[.agg #[v]] g s (fun r g' s'=>s=s'∧Le g g'∧∃ u,r = .agg #[u]∧am g' u (aa l)):=by
 obtain ⟨p,c,rfl⟩:=hv.form;refine za9 (args:=[.agg #[.slice p l.length c]]) func107 I ntmps107 (bE I) ?_;refine rZ (bW (bO I) fun b1=>?_);refine bW (aL zl4) fun b2=>?_;refine tZ (rZ (lU (fA fq I ek I) (lK (qL ii I (cO 1 I I)) (lW (cL call111 I (jR E l.length g _ _ l (lR _) hv hf)) ?_))));rintro v5 g1 _ ⟨rfl,hle,h5⟩;obtain ⟨q,d,rfl⟩:=h5.form;refine lU (za1 I (build30 _ I)) (oZ (sK 0 aw I I I I I sB) ?_);refine tZ (rE ?_);exact ST.retCD 0 s (.inl I) results107 I bq aw I I uR ⟨I,hle,_,I,h5⟩
theorem CE (l:List Cl):∀ (acc:List Cl) (c:Cl),(c∈acc∨c∈l)→∃ x∈l.foldl gC acc,x.id=c.id:=by
 induction l with
 | nil=>intro acc c h; rcases h with h | h; exact⟨c,h,I⟩; simp at h
 | cons y r ih =>
  intro acc c h;simp only[zi5]
  rcases h with h | h
  ·exact ih (gC acc y) c (.inl (by unfold gC; split; exact h; simp[h]))
  ·rcases ze7.1 h with rfl | h
   ·by_cases ha:acc.any (fun x=>x.id == c.id)=true
    ·rw[sG ha];rw[zj5] at ha;obtain ⟨z,hz,he⟩:=ha;obtain ⟨x,hx,hxe⟩:=ih acc z (.inl hz);exact⟨x,hx,by rw[hxe]; simpa using he⟩
    ·have ha':acc.any (fun x=>x.id == c.id)=false:=by simpa using ha
     rw[lq ha'];exact ih _ c (.inl (by simp))
   ·exact ih _ c (.inr h)
theorem FW {L:List Cl}(hs:Srt Cl.id L){k:Nat}(h0:0<k)(hk:k<L.length):((L.take k).foldl gC []).any (fun x=>x.id == L[k].id)=decide (L[k].id=(L[k - 1]'oM).id):=by
 rw[Bool.eq_iff_iff,zj5,zj3];constructor
 ·rintro ⟨x,hx,he⟩;have hm:=(tW _ [] x hx).resolve_left (by simp);obtain ⟨j,hj,rfl⟩:=zc4 hm;rw[ze1] at hj;rw[List.getElem_take] at he;have he':(L[j]'oM).id=L[k].id:=by simpa using he
  rcases Nat.lt_or_ge j (k - 1) with h | h
  ·have h1:=zc6.1 hs j (k - 1) oM oM h;have h2:=zc6.1 hs (k - 1) k oM hk oM;omega
  ·have:j=k - 1:=oM;subst this;exact he'.symm
 ·intro he;have hm:(L[k - 1]'oM)∈L.take k:=by
   have:k - 1<(L.take k).length:=by rw[ze1]; omega
   have h2:=gM this;rwa [List.getElem_take] at h2
  obtain ⟨x,hx,hxe⟩:=CE (L.take k) [] _ (.inr hm);exact⟨x,hx,by rw[hxe,← he]; simp⟩
theorem fM (E:World)(g:PH)(s:Own)(v:Value)(l:List Cl)(hv:am g v l)(hf:cZ l) :
  Ctr Tryz.prog E 65 #[.agg #[v]] g s (fun r g' s'=>s=s'∧Le g g'∧am g' r (ab l)):=by
 obtain ⟨p,c,rfl⟩:=hv.form;have hsrt:=iu l;have hcl:=aq l;have hfl:=hf.1;refine za9 (args:=[.agg #[.slice p l.length c]]) func65 I ntmps65 (bE I) ?_;refine rZ (bW (bO I) fun b1=>?_);refine aT I (rZ (lU (fA fq I ek I) (lK (qL ii I (cO 0 I I)) (lW (cL call111 I (jR E l.length g _ _ l (lR _) hv hf)) ?_))));rintro v8 g1 _ ⟨rfl,hle,h8⟩;obtain ⟨rs,hrs,hall⟩:=h8;have hrl:=hall.length;obtain ⟨q,d,rfl⟩:=hrs.form;refine aT I (rZ (aT I (sQ (rZ (aT I (bK (zb4 78 3 ?_)))))));refine oP (ι:=Value×Nat×List Rc) (fun i=>[(3,.slice q rs.length d),(4,i.1),(5,vi i.2.1)]) (fun _=>g1) (fun i=>rowA encCell 78 i.1 i.2.2::pt b1 (.cells #[.slice p l.length c] 30 (0,0))::s)
  (fun i=>i.2.1≤rs.length∧aB (au g1) (((aa l).take i.2.1).foldl gC []) i.2.2) (fun i=>rs.length - i.2.1) (.slice none 0 0,0,[]) sB rfl rfl ⟨zf3 _,by simp[aB]⟩ ?_
 rintro ⟨ov,k,acc⟩ ⟨hk,hacc⟩;dsimp only at hk hacc ⊢;have hal:=hacc.length;have hal2:=fB ((aa l).take k) [];simp only[ze1,zc1] at hal2;refine sQ (sW I (lM I (lU (eN aO I) (yL I (tZ ?_)))));refine iP I (fun hlt=>?_) (fun hlt=>?_)
 ·have hkr:k<rs.length:=oM;have hkl:k<(aa l).length:=oM;have hb1:=hrs.based oM;have hcr:=hall.get (gE hkl) (gE hkr);have htake:((aa l).take (k+1)).foldl gC []=gC (((aa l).take k).foldl gC []) (aa l)[k]:=by
   rw[tS hkl,zi6]; rfl
  have hgx:rs[((k:Nat):Int).toNat]?=some rs[k]:=gE hkr;have hnew:gC (((aa l).take k).foldl gC []) (aa l)[k]=((aa l).take k).foldl gC []++[(aa l)[k]]→aB (au g1) (((aa l).take (k+1)).foldl gC []) (acc++[rs[k]]):=fun h=>by
   rw[htake,h]; exact hacc.append ⟨hcr,trivial⟩
  by_cases hk0:k=0
  ·subst hk0;refine kP (tN (sQ (bK (sQ ?_))));refine dW [] [(0,2),(1,2),(2,2),(3,2),(4,2),(5,2),(6,2),(7,1),(8,2),(9,2),(10,2),(11,2),(12,2),(13,1),(14,2),(15,2)] zd9 kR ?_;refine yM I (pU I (SU.eq (v':=vb true) (eQ I I) I) (yM I (yG I (yG I (yG I (yG I (yI I (yG I (yG I (yG I (yG I (yG I (yI I (yG I (pU I (wT I I) (pN (tN (cT I (rG (lM I (lM I (lM I (lU (iA aO aK I I hb1 oM sL) (lK (eA gJ aK I hrs.rd hgx) (lW (bS sty28 I I I (ae sB) dC) ?_)))))))))))))))))))))))));rintro _ _ _ ⟨b36,rfl,rfl,rfl⟩;refine lW (aP (e:=encCell) 0 rs[0] sty28 I I I I I oM oM) ?_;rintro v37 _ _ ⟨rfl,rfl⟩;refine lA I (nL (bN (tN (rG (lM I (yD I (lA I (nL ?_))))))));exact gA (v37,0+1,acc++[rs[0]]) sB I I ⟨lN,hnew (lq (by simp))⟩ lN
  ·have hk1:k - 1<rs.length:=oM;have hk1l:k - 1<(aa l).length:=oM;have hany:=FW hsrt (by omega:0<k) hkl;have hcr1:=hall.get (gE hk1l) (gE hk1);have hgy:rs[((k:Int) - 1).toNat]?=some rs[k - 1]:=by rw[show ((k:Int) - 1).toNat=k - 1 by omega]; exact gE hk1
   refine kP (tN (sQ (bK (sQ ?_))));refine dW [] [(0,2),(1,2),(2,2),(3,2),(4,2),(5,2),(6,2),(7,1),(8,2),(9,2),(10,2),(11,2),(12,2),(13,1),(14,2),(15,2)] zd9 kR ?_;refine yM I (pU I (SU.eq (v':=vb false) (eQ I I) (zd8 vb (zf4 oM))) (yM I (yJ I (yJ I (zb1 I (gT I I I dC) (iA aO aK I I hb1 oM sL) dC (zb1 I (gT I I I dC) (fC ar I zT3 I hb1) dC (SP.gq I (gT I I I dC) (aZ (e:=encCell) (o:=0) (u:=vi rs[k].id) iT3 I hrs.rd hgx I) dC (yJ I (yJ I (zb1 I (gT I I I dC) (sU I I oM) dC (zb1 I (gT I I I dC) (iA aO aK I I hb1 oM sL) dC (zb1 I (gT I I I dC) (fC ar I zT3 I hb1) dC (SP.gq I (gT I I I dC) (aZ (e:=encCell) (o:=0) (u:=vi rs[k - 1].id) iT3 I hrs.rd hgy I) dC (zb1 I (gT I I I dC) (nQ I I) dC (pU I (wF I I) (pN (tN ?_)))))))))))))))));refine iP I (fun hne=>?_) (fun hne=>?_)
   ·refine rG (lM I (lM I (lM I (lU (iA aO aK I I hb1 oM sL) (lK (eA gJ aK I hrs.rd hgx) (lW (bS sty28 I I I (ae sB) dC) ?_))))));rintro _ _ _ ⟨b36,rfl,rfl,rfl⟩;refine lW (aP (e:=encCell) 0 rs[k] sty28 I I I I I oM oM) ?_;rintro v37 _ _ ⟨rfl,rfl⟩;refine lA I (nL (bN (tN (rG (lM I (yD I (lA I (nL ?_))))))));rw[hcr.1,hcr1.1] at hne;exact gA (v37,k+1,acc++[rs[k]]) sB I I ⟨lN,hnew (lq (by rw[hany]; exact zf4 hne))⟩ lN
   ·refine kP (bN (tN (rG (lM I (yD I (lA I (nL ?_)))))));rw[hcr.1,hcr1.1] at hne;exact gA (ov,k+1,acc) sB I I ⟨lN,by dsimp only; rw[htake,sG (by rw[hany]; exact zf5 (zg6 hne))]; exact hacc⟩ lN
 ·have hkk:(aa l).take k=aa l:=tL oM;rw[hkk] at hacc;refine xI (tX (tX (bX (tN (sW I (aT I (rE (fT fun g2 hle2 hs2=>?_))))))));refine dR (s':=s) uR ?_;exact za6 (.inl I) results65 I ⟨I,hle.trans hle2,acc,hs2,hacc.mono fun _ _=>au.mono hle2⟩
def atC (l:List Cl)(id:Int):Int:=if (l.map Cl.id).contains id then lbI (l.map Cl.id) id else -1
theorem iH (E:World)(g:PH)(s:Own)(v:Value)(l:List Cl)(id:Int)(hv:am g v l)(hl:l.length<1099511627776)(hs:(l.map Cl.id).Pairwise (· ≤ ·)) :
  Ctr Tryz.prog E 66 #[v,vi id] g s (fun r g' s'=>r=vi (atC l id)∧g=g'∧s=s'):=by
 obtain ⟨rs,hrs,hall⟩:=hv;have hrl:=hall.length;obtain ⟨p,c,rfl⟩:=hrs.form;have hids:=lp hall;have hml:(l.map Cl.id).length=l.length:=by simp
 have hri:∀ k (h:k<(l.map Cl.id).length) (h2:k<rs.length),(l.map Cl.id)[k]=rs[k].id:=fun k h h2=>by simp only[hids]; simp
 unfold atC;refine za9 (args:=[.slice p rs.length c,vi id]) func66 I ntmps66 (bE I) ?_;refine rZ (aT I (rZ (aT I (sW I (lU (eN aO I) (aT I ?_))))));generalize l.map Cl.id=L at *;refine SC.cut (ι:=Nat) (fun i=>[(0,.slice p rs.length c),(1,vi id),(5,vi i)]) (fun _=>g) (fun _=>s) (fun i=>i≤L.length∧(∀ k (h:k<L.length),k<i→L[k]<id)∧∀ k (h:k<L.length),i≤k→id≤L[k]) ?_ ?_
 ·refine bK ?_;refine oP (ι:=Nat×Nat) (fun q=>[(0,.slice p rs.length c),(1,vi id),(5,vi q.1),(6,vi q.2)]) (fun _=>g) (fun _=>s)
   (fun q=>q.1≤q.2∧q.2≤L.length∧(∀ k (h:k<L.length),k<q.1→L[k]<id)∧∀ k (h:k<L.length),q.2≤k→id≤L[k]) (fun q=>q.2 - q.1) (0,L.length)
   ⟨rfl,rfl,rfl,bP oM,trivial⟩ rfl rfl ⟨zf3 _,lR _,fun k _ h=>absurd h oM,fun k h1 h2=>absurd h1 (by dsimp only at h2; omega)⟩ ?_
  rintro ⟨i,j⟩ ⟨hij,hj,hlo,hhi⟩;dsimp only at hij hj hlo hhi ⊢;refine sQ (sW I (lM I (yL I (tZ ?_))));refine iP I (fun hlt=>?_) (fun hlt=>?_)
  ·have hb1:=hrs.based oM;have hml2:(i+j) / 2<L.length:=oM;have hmr:(i+j) / 2<rs.length:=oM;have hmx:rs[((((i+j) / 2:Nat):Int)).toNat]?=some rs[(i+j) / 2]:=gE hmr;have hmi:=hri _ hml2 hmr;refine kP (tN (bK (sW I (lM I (yD I (lU (SU.eq (v':=vi (((i+j) / 2:Nat):Int)) (SU.quo I I dC) (zd8 vi (by rw[← Int.natCast_add]; exact lG _ oM))) ?_))))));refine aT I (sW I (lM I (lU (iA aO aK I I hb1 oM sL) (lU (fC ar I zT3 I hb1) (lK (aZ (e:=encCell) (o:=0) (u:=vi rs[(i+j) / 2].id) iT3 I hrs.rd hmx I) (lM I (yL I (tZ ?_))))))));refine iP I (fun hc=>?_) (fun hc=>?_)
   ·refine rG (lM I (yD I (lA I (nL (bN ?_)))));refine gA ((i+j) / 2+1,j) sB I I ⟨lN,hj,fun k hk h=>?_,hhi⟩ lN;dsimp only at h;rw[← hmi] at hc
    rcases Nat.eq_or_lt_of_le (show k≤(i+j) / 2 by omega) with rfl | h'
    ·exact hc
    ·have:=zc6.1 hs k ((i+j) / 2) hk hml2 h';omega
   ·refine rG (lM I (lA I (nL (bN ?_))));refine gA (i,(i+j) / 2) sB I I ⟨lN,lN,hlo,fun k hk h=>?_⟩ lN;dsimp only at h;rw[← hmi] at hc
    rcases Nat.eq_or_lt_of_le (show (i+j) / 2≤k by omega) with h' | h'
    ·subst h'; omega
    ·have:=zc6.1 hs ((i+j) / 2) k hml2 hk h';omega
  ·have hie:i=j:=oM;subst hie;refine xI (tX (tX (bX ?_)));exact za7 i sB I I ⟨hj,hlo,hhi⟩
 ·rintro i ⟨hj,hlo,hhi⟩;have hlb:=GU hj hlo hhi;by_cases hin:(i:Int)<(rs.length:Int)
  ·have hir:i<rs.length:=oM;have hil:i<L.length:=oM;have hb1:=hrs.based oM;have hmx:rs[((i:Nat):Int).toNat]?=some rs[i]:=gE hir;have hmi:=hri _ hil hir;have hfnd:=ye hs hlo hhi hil;refine sQ (sW I (lM I (lU (eN aO I) (lU (SU.eq (v':=vb true) (lS I I) (zd8 vb (zf5 hin))) (lM I (yC I (yC I (lY I I I (iA aO aK I I hb1 oM sL) (lY I I I (fC ar I zT3 I hb1) (SL.gq (gT I I I dC) (aZ (e:=encCell) (o:=0) (u:=vi rs[i].id) iT3 I hrs.rd hmx I) dC (yC I (lY I I I (eQ I I) (yP I (tZ ?_))))))))))))));refine iP I (fun hc=>?_) (fun hc=>?_)
   ·refine sW I (aT I (rE (tR ?_)));rw[← hmi] at hc;exact za6 (.inl I) results66 I ⟨by rw[← hfnd,zf5 hc,zf7 I,hlb],I,I⟩
   ·refine kP (tN (rZ (aT I (rE ?_))));rw[← hmi] at hc;exact za6 (.inl I) results66 I ⟨by rw[← hfnd,zf4 hc]; rfl,rfl,rfl⟩
  ·have hnf:=xS hlo oM;refine sQ (sW I (lM I (lU (eN aO I) (lU (SU.eq (v':=vb false) (lS I I) (zd8 vb (zf4 hin))) (lM I (yA I (yA I (yA I (yA I (yA I (yA I (yA I (yF I (tZ (cF I (kP (tN (rZ (aT I (rE ?_))))))))))))))))))));exact za6 (.inl I) results66 I ⟨by rw[hnf]; rfl,rfl,rfl⟩
theorem Cu {l:List Int}(hs:l.Pairwise (· ≤ ·))(x:Int):(∀ k (h:k<l.length),k<lbI l x→l[k]<x)∧(∀ k (h:k<l.length),lbI l x≤k→x≤l[k]):=by
 induction l with
 | nil=>exact⟨fun k h=>absurd h (by simp),fun k h=>absurd h (by simp)⟩
 | cons a r ih =>
  obtain ⟨h1,h2⟩:=zj9.1 hs;obtain ⟨i1,i2⟩:=ih h2;by_cases ha:a<x
  ·have hl:lbI (a::r) x=lbI r x+1:=by simp[lbI,ha]
   rw[hl];refine⟨fun k h hk=>?_,fun k h hk=>?_⟩
   ·cases k with
    | zero=>exact ha
    | succ k=>exact i1 k (by simpa using h) oM
   ·cases k with
    | zero=>omega
    | succ k=>exact i2 k (by simpa using h) oM
  ·have hz:lbI (a::r) x=0:=by
    unfold lbI;rw[List.length_eq_zero_iff,List.filter_eq_nil_iff];intro y hy
    rcases ze7.1 hy with rfl | hy
    ·simpa using Int.not_lt.1 ha
    ·have:=h1 y hy; simp; omega
   rw[hz];refine⟨fun k h hk=>absurd hk oM,fun k h _=>?_⟩;cases k with
   | zero=>exact Int.not_lt.1 ha
   | succ k =>
    have hk':k<r.length:=by simpa using h
    have:=h1 r[k] (gM hk');simp;omega
theorem rU {tl:List Cl}(hs:(tl.map Cl.id).Pairwise (· ≤ ·))(id:Int):(az tl id=none∧atC tl id = -1)∨∃ c k,az tl id=some c∧atC tl id=((k:Nat):Int)∧tl[k]?=some c:=by
 obtain ⟨h1,h2⟩:=Cu hs id;by_cases hc:(tl.map Cl.id).contains id=true
 ·right;have hm:id∈tl.map Cl.id:=by simpa using hc
  obtain ⟨c0,hc0,e0⟩:=ze8.1 hm;cases hf:az tl id with
  | none =>
   have:=List.find?_eq_none.1 hf c0 hc0;simp[e0] at this
  | some c =>
   have hi:lbI (tl.map Cl.id) id<tl.length:=by
    rcases Nat.lt_or_ge (lbI (tl.map Cl.id) id) tl.length with h | h
    ·exact h
    ·obtain ⟨j,hj,rfl⟩:=zc4 hc0;have:=h1 j (by simpa using hj) oM;simp at this;omega
   refine⟨c,lbI (tl.map Cl.id) id,I,by unfold atC; rw[zf7 hc],?_⟩;rw[gE hi];have hge:=h2 _ (by simpa using hi) (lR _);have hid:tl[lbI (tl.map Cl.id) id].id=id:=by
    obtain ⟨j,hj,rfl⟩:=zc4 hc0;have hji:lbI (tl.map Cl.id) id≤j:=by
     rcases Nat.lt_or_ge j (lbI (tl.map Cl.id) id) with h | h
     ·have:=h1 j (by simpa using hj) h; simp at this; omega
     ·exact h
    rcases Nat.eq_or_lt_of_le hji with h | h
    ·simp only[h]; exact e0
    ·have h3:=zc6.1 hs _ j (by simpa using hi) (by simpa using hj) h;simp at h3 hge;omega
   unfold az at hf;rw[List.find?_eq_some_iff_getElem] at hf;obtain ⟨hp,j,hj,ej,hlt⟩:=hf;have hp':c.id=id:=by simpa using hp
   congr 1;rw[← ej];have hji:j=lbI (tl.map Cl.id) id:=by
    rcases Nat.lt_trichotomy j (lbI (tl.map Cl.id) id) with h | h | h
    ·have:=h1 j (by simpa using hj) h; simp[ej,hp'] at this
    ·exact h
    ·have:=hlt _ h; simp[hid] at this
   simp only[hji]
 ·left;have hn:id ∉ tl.map Cl.id:=by simpa using hc
  refine⟨?_,by unfold atC; rw[zf6 hc]⟩;unfold az;rw[List.find?_eq_none];intro x hx;simp;exact fun e=>hn (ze8.2 ⟨x,hx,e⟩)
theorem BG {l:List ai}(h2:l.length=2)(hns:l.any bL=false):∃ a b,l=[a,b]∧(decide (l8 l≠0))=decide (a.sign=b.sign):=by
 match l,h2 with
 | [a,b],_ =>
  simp only[List.any_cons,List.any_nil,Bool.or_false,Bool.or_eq_false_iff] at hns;have e1:a.sign=1∨a.sign = -1:=by
   have h1:=hns.1;simp only[bL,Bool.and_eq_false_iff,decide_eq_false_iff_not,ne_eq,Decidable.not_not] at h1;exact h1
  have e2:b.sign=1∨b.sign = -1:=by
   have h1:=hns.2;simp only[bL,Bool.and_eq_false_iff,decide_eq_false_iff_not,ne_eq,Decidable.not_not] at h1;exact h1
  refine⟨a,b,I,?_⟩;rw[Bool.eq_iff_iff];simp[l8];omega
theorem ru (E:World)(g:PH)(s:Own)(v:Value)(tl:List Cl)(c:Cl)(r:Rc)(hv:am g v tl)(htl:tl.length<1099511627776)(hs:(tl.map Cl.id).Pairwise (· ≤ ·))(hc:au g c r)(hl:c.sides.length<1099511627776) :
  Ctr Tryz.prog E 194 #[v,rcv r] g s (fun r g' s'=>r=vi (ct tl c)∧g=g'∧s=s'):=by
 obtain ⟨rs,hrs,hall⟩:=hv;have hv:am g v tl:=⟨rs,hrs,hall⟩;have hrl:=hall.length;obtain ⟨vp,vc,rfl⟩:=hrs.form;obtain ⟨rp,rcap,rfl,hcs⟩:=eo hc;have hx0:=fun h=>hcs.based h;refine za9 (args:=[.slice vp rs.length vc,.agg #[vi c.id,vi c.dim,.slice rp c.sides.length rcap]]) func194 I ntmps194 (bE I) ?_;refine rZ (bW (bO I) fun b3=>?_);refine aT I (sQ ?_);refine SC.to (g':=g) (s':=pt b3 (.cells #[vi c.id,vi c.dim,.slice rp c.sides.length rcap] 78 (0,0))::s) (fun w hw=>hw) ?_;refine SC.cutB 16 (eZ c) ?_ ?_
 ·refine rG (lU (fA ar I zT3 I) (lK (qL (v:=vi c.dim) iT3 I (cO 0 I I)) (yL I (lM I ?_))));refine sP ?_ ?_
  ·intro h12;refine yA I (yA I (yA I (yP I (nL ?_))));exact za8 (by simp_all[bk,eZ] <;> omega) mI
  ·intro h12;refine lY I I I (fA ar I zT3 I) (SL.gq (gT I I I dC) (qL (v:=vi c.dim) iT3 I (cO 0 I I)) dC (lY I I I (gR I I) (yF I (nL ?_))));exact za8 (by simp_all[bk,eZ] <;> omega) mI
 refine iQ I (fun hdb=>?_) (fun hdb=>?_)
 ·refine rZ (aT I (rE (tR (dR (s':=s) uR ?_))));exact za6 (.inl I) results194 I ⟨by unfold ct; rw[zf7 hdb],I,I⟩
 ·have hd8:0≤c.dim∧c.dim≤8:=by simp[eZ] at hdb; omega
  refine kP (tN (rZ (lU (fA ar I cA I) (lK (qL (v:=.slice rp c.sides.length rcap) dE I (cO 0 I I)) (lU (eN cM I) (aT I (sQ ?_)))))));refine SC.cutB 48 (ax c) ?_ ?_
  ·refine rG (lU (fA ar I zT3 I) (lK (qL (v:=vi c.dim) iT3 I (cO 0 I I)) (yE I (lM I ?_))));refine sP ?_ ?_
   ·intro h23;refine yC I (lY I I I (gR I I) (yP I (lM I ?_)));refine sP ?_ ?_
    ·intro h27;refine yA I (yA I (yA I (yA I (yB I (yB I (yA I (yP I (lM I (yA I (yA I (yA I (yA I (yB I (yB I (yB I (yB I (yB I (yB I (yA I (yP I (nL ?_)))))))))))))))))))));exact za8 (by simp_all[bk,ax] <;> omega) mI
    ·intro h27;refine lY I I I (fA ar I zT3 I) (SL.gq (gT I I I dC) (qL (v:=vi c.dim) iT3 I (cO 0 I I)) dC (lY I I I (eQ I I) (yC I ?_)));refine sP ?_ ?_
     ·intro h31;refine yC I (lY I I I (nQ I I) (lY I I I (wT I I) (yF I (lM I ?_))));refine sP ?_ ?_
      ·intro h36;refine yA I (yA I (yA I (yA I (yB I (yB I (yB I (yB I (yB I (yB I (yA I (yP I (nL ?_))))))))))));exact za8 (by simp_all[bk,ax] <;> omega) mI
      ·intro h36;refine lY I I I (fA ar I zT3 I) (SL.gq (gT I I I dC) (qL (v:=vi c.dim) iT3 I (cO 0 I I)) dC (lY I I I (gR I I) (yC I ?_)));refine sP ?_ ?_
       ·intro h40;refine yC I (lY I I I (lS I I) (yC I ?_));refine sP ?_ ?_
        ·intro h43;refine yA I (yA I (lY I I I (wT I I) (lY I I I (wT I I) (yF I (nL ?_)))));exact za8 (by simp_all[bk,ax] <;> omega) mI
        ·intro h43;refine yC I (lY I I I (gR I I) (lY I I I (wF I I) (lY I I I (wT I I) (yF I (nL ?_)))));exact za8 (by simp_all[bk,ax] <;> omega) mI
       ·intro h40;refine yA I (yA I (yA I (yB I (yB I (yA I (lY I I I (wF I I) (yF I (nL ?_))))))));exact za8 (by simp_all[bk,ax] <;> omega) mI
     ·intro h31;refine yA I (yA I (lY I I I (wF I I) (yF I (lM I (lY I I I (fA ar I zT3 I) (SL.gq (gT I I I dC) (qL (v:=vi c.dim) iT3 I (cO 0 I I)) dC (lY I I I (gR I I) (yC I ?_))))))));refine sP ?_ ?_
      ·intro h40;refine yC I (lY I I I (lS I I) (yC I ?_));refine sP ?_ ?_
       ·intro h43;refine yA I (yA I (lY I I I (wT I I) (lY I I I (wT I I) (yF I (nL ?_)))));exact za8 (by simp_all[bk,ax] <;> omega) mI
       ·intro h43;refine yC I (lY I I I (gR I I) (lY I I I (wF I I) (lY I I I (wT I I) (yF I (nL ?_)))));exact za8 (by simp_all[bk,ax] <;> omega) mI
      ·intro h40;refine yA I (yA I (yA I (yB I (yB I (yA I (lY I I I (wF I I) (yF I (nL ?_))))))));exact za8 (by simp_all[bk,ax] <;> omega) mI
   ·intro h23;refine yA I (yA I (yF I (lM I (lY I I I (fA ar I zT3 I) (SL.gq (gT I I I dC) (qL (v:=vi c.dim) iT3 I (cO 0 I I)) dC (lY I I I (eQ I I) (yC I ?_)))))));refine sP ?_ ?_
    ·intro h31;refine yC I (lY I I I (nQ I I) (lY I I I (wT I I) (yF I (lM I ?_))));refine sP ?_ ?_
     ·intro h36;refine yA I (yA I (yA I (yA I (yB I (yB I (yB I (yB I (yB I (yB I (yA I (yP I (nL ?_))))))))))));exact za8 (by simp_all[bk,ax] <;> omega) mI
     ·intro h36;refine lY I I I (fA ar I zT3 I) (SL.gq (gT I I I dC) (qL (v:=vi c.dim) iT3 I (cO 0 I I)) dC (lY I I I (gR I I) (yC I ?_)));refine sP ?_ ?_
      ·intro h40;refine yC I (lY I I I (lS I I) (yC I ?_));refine sP ?_ ?_
       ·intro h43;refine yA I (yA I (lY I I I (wT I I) (lY I I I (wT I I) (yF I (nL ?_)))));exact za8 (by simp_all[bk,ax] <;> omega) mI
       ·intro h43;refine yC I (lY I I I (gR I I) (lY I I I (wF I I) (lY I I I (wT I I) (yF I (nL ?_)))));exact za8 (by simp_all[bk,ax] <;> omega) mI
      ·intro h40;refine yA I (yA I (yA I (yB I (yB I (yA I (lY I I I (wF I I) (yF I (nL ?_))))))));exact za8 (by simp_all[bk,ax] <;> omega) mI
    ·intro h31;refine yA I (yA I (lY I I I (wF I I) (yF I (lM I (lY I I I (fA ar I zT3 I) (SL.gq (gT I I I dC) (qL (v:=vi c.dim) iT3 I (cO 0 I I)) dC (lY I I I (gR I I) (yC I ?_))))))));refine sP ?_ ?_
     ·intro h40;refine yC I (lY I I I (lS I I) (yC I ?_));refine sP ?_ ?_
      ·intro h43;refine yA I (yA I (lY I I I (wT I I) (lY I I I (wT I I) (yF I (nL ?_)))));exact za8 (by simp_all[bk,ax] <;> omega) mI
      ·intro h43;refine yC I (lY I I I (gR I I) (lY I I I (wF I I) (lY I I I (wT I I) (yF I (nL ?_)))));exact za8 (by simp_all[bk,ax] <;> omega) mI
     ·intro h40;refine yA I (yA I (yA I (yB I (yB I (yA I (lY I I I (wF I I) (yF I (nL ?_))))))));exact za8 (by simp_all[bk,ax] <;> omega) mI
  refine iQ I (fun hcb=>?_) (fun hcb=>?_)
  ·refine rZ (aT I (rE (tR (dR (s':=s) uR ?_))));exact za6 (.inl I) results194 I ⟨by unfold ct; rw[zf6 (by simp[hdb]),zf7 hcb],I,I⟩
  ·refine kP (tN (sQ (rZ (aT I (bK ?_)))));refine oP (ι:=Nat) (fun k=>[(0,.slice vp rs.length vc),(3,pp b3 0),(5,vi c.sides.length),(6,vi k)]) (fun _=>g)
    (fun _=>pt b3 (.cells #[vi c.id,vi c.dim,.slice rp c.sides.length rcap] 78 (0,0))::s) (fun k=>k≤c.sides.length∧(List.range k).any (iY tl c)=false) (fun k=>c.sides.length - k) 0
    sB rfl rfl ⟨zf3 _,by simp⟩ ?_
   rintro k ⟨hk,hno⟩;refine sQ (sW I (lM I (yL I (tZ ?_))));refine iP I (fun hlt=>?_) (fun hlt=>?_)
   ·have hkl:k<c.sides.length:=oM;have hb1:=hx0 oM;have hjx:c.sides[((k:Nat):Int).toNat]?=some c.sides[k]:=gE hkl;have hjx':c.sides[k]?=some c.sides[k]:=gE hkl;have hprev:(k:Int)>0→∃ q,c.sides[((k:Int) - 1).toNat]?=some q∧c.sides[k - 1]?=some q:=fun h=>by
     have h2:k - 1<c.sides.length:=oM;exact⟨c.sides[k - 1],by rw[show ((k:Int) - 1).toNat=k - 1 by omega]; exact gE h2,gE h2⟩
    generalize c.sides[k]=y at *;have hbat:iY tl c k=cf tl c k y:=by unfold iY; rw[hjx']
    have hT:cf tl c k y=true→(List.range c.sides.length).any (iY tl c)=true:=fun h=>zj5.2 ⟨k,List.mem_range.2 hkl,by rw[hbat]; exact h⟩;have hF:cf tl c k y=false→(List.range (k+1)).any (iY tl c)=false:=fun h=>by rw[List.range_succ,List.any_append,hno]; simp[hbat,h]
    rcases rU hs y.cell with ⟨hfn,hat⟩ | ⟨yc,kk,hfs,hat,hyc⟩
    ·have hbad:cf tl c k y=true:=o8 (by rw[hfn]; simp);refine kP (tN (sQ (bK (sW I (lU (fA ar I cA I) (lK (qL (v:=.slice rp c.sides.length rcap) dE I (cO 0 I I)) (lM I (lU (iA cM cq I I hb1 oM sL) (lU (fC dK I zT3 I hb1) (lK (aZ (e:=encSide) (o:=0) (u:=vi y.cell) iT3 I hcs.rd hjx I) (lW (cL call66 I (iH E g _ _ tl y.cell hv htl hs)) ?_)))))))))));rintro _ _ _ ⟨rfl,rfl,rfl⟩;rw[hat];refine aT I (sQ ?_);refine dW [] [(0,2),(1,2),(2,2),(3,2),(4,2),(5,2),(6,2),(7,1),(8,2),(9,1),(10,2),(11,2),(12,2),(13,2),(14,2),(15,2),(16,2),(17,2),(18,1),(19,2),(20,2),(21,2),(22,1),(23,2),(24,1),(25,2),(26,2),(27,2),(28,2),(29,1),(30,2),(31,2),(32,2)] zd9 kR ?_;refine yM I (pU I (SU.eq (v':=vb true) (lS I I) I) (yM I (yG I (yG I (yG I (yG I (yI I (yG I (yI I (yG I (yG I (pU I (wT I I) (yM I (yG I (yG I (yG I (yH I (SP.off1 I (zb2 I I I dC) dC (yH I (yH I (yH I (SP.off1 I (zb2 I I I dC) dC (yH I (SP.off1 I (zb2 I I I dC) dC (yH I (yH I (yH I (yH I (SP.off1 I (zb2 I I I dC) dC ?_)))))))))))))))))))))))))))));refine yH I (yG I (pU I (wT I I) (pN (tN (cT I (rZ (aT I (rE (bR (tR (tR (bR (tR (dR (s':=s) uR ?_))))))))))))));exact za6 (.inl I) results194 I ⟨by unfold ct; rw[zf6 (by simp[hdb]),zf6 (by simp[hcb]),zf7 (hT hbad)],I,I⟩
    ·have hkk:kk<tl.length:=(zf2.1 hyc).1;have hkr:kk<rs.length:=oM;have hbv:=hrs.based oM;have hyr:=hall.get hyc (gE hkr);have hgr:rs[((kk:Nat):Int).toNat]?=some rs[kk]:=gE hkr;have hsome:(az tl y.cell).isSome=true:=by rw[hfs]; rfl
     have hget:((az tl y.cell).getD gt)=yc:=by rw[hfs]; rfl
     by_cases hdm:yc.dim≠c.dim - 1
     ·have hbad:cf tl c k y=true:=uI hsome (by rw[hget]; exact hdm);refine kP (tN (sQ (bK (sW I (lU (fA ar I cA I) (lK (qL (v:=.slice rp c.sides.length rcap) dE I (cO 0 I I)) (lM I (lU (iA cM cq I I hb1 oM sL) (lU (fC dK I zT3 I hb1) (lK (aZ (e:=encSide) (o:=0) (u:=vi y.cell) iT3 I hcs.rd hjx I) (lW (cL call66 I (iH E g _ _ tl y.cell hv htl hs)) ?_)))))))))));rintro _ _ _ ⟨rfl,rfl,rfl⟩;rw[hat];refine aT I (sQ ?_);refine dW [] [(0,2),(1,2),(2,2),(3,2),(4,2),(5,2),(6,2),(7,1),(8,2),(9,1),(10,2),(11,2),(12,2),(13,2),(14,2),(15,2),(16,2),(17,2),(18,1),(19,2),(20,2),(21,2),(22,1),(23,2),(24,1),(25,2),(26,2),(27,2),(28,2),(29,1),(30,2),(31,2),(32,2)] zd9 kR ?_;refine yM I (pU I (SU.eq (v':=vb false) (lS I I) (zd8 vb (zf4 oM))) (yM I (yJ I (yJ I (zb1 I (gT I I I dC) (iA aO aK I I hbv oM sL) dC (zb1 I (gT I I I dC) (fC ar I zT3 I hbv) dC (SP.gq I (gT I I I dC) (aZ (e:=encCell) (o:=1) (u:=vi rs[kk].dim) iT3 I hrs.rd hgr I) dC (zb1 I (gT I I I dC) (fA ar I zT3 I) dC (SP.gq I (gT I I I dC) (qL (v:=vi c.dim) iT3 I (cO 0 I I)) dC (zb1 I (gT I I I dC) (sU I I oM) dC (zb1 I (gT I I I dC) (SU.eq (v':=vb true) (nQ I I) (zd8 vb (zf5 (by rw[hyr.2.1]; exact hdm)))) dC ?_)))))))))));refine pU I (wF I I) (yM I (yG I (yG I (yG I (yH I (SP.off1 I (zb2 I I I dC) dC (yH I (yH I (yH I (SP.off1 I (zb2 I I I dC) dC (yH I (SP.off1 I (zb2 I I I dC) dC (yH I (yH I (yH I (yH I (SP.off1 I (zb2 I I I dC) dC (yH I (yG I (pU I (wT I I) (pN (tN (cT I (rZ (aT I (rE ?_))))))))))))))))))))))))));refine bR (tR (tR (bR (tR (dR (s':=s) uR ?_)))));exact za6 (.inl I) results194 I ⟨by unfold ct; rw[zf6 (by simp[hdb]),zf6 (by simp[hcb]),zf7 (hT hbad)],I,I⟩
     ·by_cases hk0:(k:Int)>0
      ·obtain ⟨q,hq1,hq2⟩:=hprev hk0;have hbd:=uG (i:=k) hsome (by rw[hget]; exact hdm) hk0 hq2;refine kP (tN (sQ (bK (sW I (lU (fA ar I cA I) (lK (qL (v:=.slice rp c.sides.length rcap) dE I (cO 0 I I)) (lM I (lU (iA cM cq I I hb1 oM sL) (lU (fC dK I zT3 I hb1) (lK (aZ (e:=encSide) (o:=0) (u:=vi y.cell) iT3 I hcs.rd hjx I) (lW (cL call66 I (iH E g _ _ tl y.cell hv htl hs)) ?_)))))))))));rintro _ _ _ ⟨rfl,rfl,rfl⟩;rw[hat];refine aT I (sQ ?_);refine dW [] [(0,2),(1,2),(2,2),(3,2),(4,2),(5,2),(6,2),(7,1),(8,2),(9,1),(10,2),(11,2),(12,2),(13,2),(14,2),(15,2),(16,2),(17,2),(18,1),(19,2),(20,2),(21,2),(22,1),(23,2),(24,1),(25,2),(26,2),(27,2),(28,2),(29,1),(30,2),(31,2),(32,2)] zd9 kR ?_;refine yM I (pU I (SU.eq (v':=vb false) (lS I I) (zd8 vb (zf4 oM))) (yM I (yJ I (yJ I (zb1 I (gT I I I dC) (iA aO aK I I hbv oM sL) dC (zb1 I (gT I I I dC) (fC ar I zT3 I hbv) dC (SP.gq I (gT I I I dC) (aZ (e:=encCell) (o:=1) (u:=vi rs[kk].dim) iT3 I hrs.rd hgr I) dC (zb1 I (gT I I I dC) (fA ar I zT3 I) dC (SP.gq I (gT I I I dC) (qL (v:=vi c.dim) iT3 I (cO 0 I I)) dC (zb1 I (gT I I I dC) (sU I I oM) dC (zb1 I (gT I I I dC) (SU.eq (v':=vb false) (nQ I I) (zd8 vb (zf4 (by rw[hyr.2.1]; exact hdm)))) dC ?_)))))))))));refine pU I (wF I I) (yM I (yJ I (zb1 I (gT I I I dC) (SU.eq (v':=vb true) (gR I I) (zd8 vb (zf5 hk0))) dC (yJ I (zb1 I (gT I I I dC) (fA ar I cA I) dC (SP.gq I (gT I I I dC) (qL (v:=.slice rp c.sides.length rcap) dE I (cO 0 I I)) dC (yJ I (zb1 I (gT I I I dC) (iA cM cq I I hb1 oM sL) dC (zb1 I (gT I I I dC) (fC dK I zT3 I hb1) dC (SP.gq I (gT I I I dC) (aZ (e:=encSide) (o:=0) (u:=vi y.cell) iT3 I hcs.rd hjx I) dC (zb1 I (gT I I I dC) (fA ar I cA I) dC (SP.gq I (gT I I I dC) (qL (v:=.slice rp c.sides.length rcap) dE I (cO 0 I I)) dC (yJ I (zb1 I (gT I I I dC) (sU I I oM) dC (zb1 I (gT I I I dC) (iA cM cq I I hb1 oM sL) dC (zb1 I (gT I I I dC) (fC dK I zT3 I hb1) dC (SP.gq I (gT I I I dC) (aZ (e:=encSide) (o:=0) (u:=vi q.cell) iT3 I hcs.rd hq1 I) dC (zb1 I (gT I I I dC) (eQ I I) dC (zb1 I (gT I I I dC) (wT I I) dC (pU I (wF I I) (pN (tN ?_))))))))))))))))))))));refine iP I (fun heq=>?_) (fun heq=>?_)
       ·refine rZ (aT I (rE (bR (tR (tR (bR (tR (dR (s':=s) uR ?_))))))));exact za6 (.inl I) results194 I ⟨by unfold ct; rw[zf6 (by simp[hdb]),zf6 (by simp[hcb]),zf7 (hT (by rw[hbd]; exact zf5 heq.symm))],I,I⟩
       ·refine kP (bN (tN (rG (lM I (yD I (lA I (nL ?_)))))));exact gA (k+1) sB I I ⟨oM,hF (by rw[hbd]; exact zf4 fun e=>heq e.symm)⟩ oM
      ·have hbd:=uH (i:=k) (x:=y) hsome (by rw[hget]; exact hdm) hk0;refine kP (tN (sQ (bK (sW I (lU (fA ar I cA I) (lK (qL (v:=.slice rp c.sides.length rcap) dE I (cO 0 I I)) (lM I (lU (iA cM cq I I hb1 oM sL) (lU (fC dK I zT3 I hb1) (lK (aZ (e:=encSide) (o:=0) (u:=vi y.cell) iT3 I hcs.rd hjx I) (lW (cL call66 I (iH E g _ _ tl y.cell hv htl hs)) ?_)))))))))));rintro _ _ _ ⟨rfl,rfl,rfl⟩;rw[hat];refine aT I (sQ ?_);refine dW [] [(0,2),(1,2),(2,2),(3,2),(4,2),(5,2),(6,2),(7,1),(8,2),(9,1),(10,2),(11,2),(12,2),(13,2),(14,2),(15,2),(16,2),(17,2),(18,1),(19,2),(20,2),(21,2),(22,1),(23,2),(24,1),(25,2),(26,2),(27,2),(28,2),(29,1),(30,2),(31,2),(32,2)] zd9 kR ?_;refine yM I (pU I (SU.eq (v':=vb false) (lS I I) (zd8 vb (zf4 oM))) (yM I (yJ I (yJ I (zb1 I (gT I I I dC) (iA aO aK I I hbv oM sL) dC (zb1 I (gT I I I dC) (fC ar I zT3 I hbv) dC (SP.gq I (gT I I I dC) (aZ (e:=encCell) (o:=1) (u:=vi rs[kk].dim) iT3 I hrs.rd hgr I) dC (zb1 I (gT I I I dC) (fA ar I zT3 I) dC (SP.gq I (gT I I I dC) (qL (v:=vi c.dim) iT3 I (cO 0 I I)) dC (zb1 I (gT I I I dC) (sU I I oM) dC (zb1 I (gT I I I dC) (SU.eq (v':=vb false) (nQ I I) (zd8 vb (zf4 (by rw[hyr.2.1]; exact hdm)))) dC ?_)))))))))));refine pU I (wF I I) (yM I (yJ I (zb1 I (gT I I I dC) (SU.eq (v':=vb false) (gR I I) (zd8 vb (zf4 hk0))) dC (yJ I (yG I (yI I (yG I (yG I (yG I (yI I (yG I (yI I (yG I (yG I (yG I (yG I (yI I (yG I (zb1 I (gT I I I dC) (wF I I) dC (pU I (wF I I) (pN (tN (cF I (kP (bN (tN (rG (lM I (yD I ?_)))))))))))))))))))))))))))));refine lA I (nL ?_);exact gA (k+1) sB I I ⟨oM,hF hbd⟩ oM
   ·refine xI (tX (tX (bX (tN (sQ (rZ (aT I (bK ?_))))))));have hkk:k=c.sides.length:=oM;subst hkk;refine oP (ι:=Nat) (fun k=>[(3,pp b3 0),(5,vi c.sides.length),(8,vi k)]) (fun _=>g)
     (fun _=>pt b3 (.cells #[vi c.id,vi c.dim,.slice rp c.sides.length rcap] 78 (0,0))::s) (fun k=>k≤c.sides.length∧(c.sides.take k).any bL=false) (fun k=>c.sides.length - k) 0
     sB rfl rfl ⟨zf3 _,by simp⟩ ?_
    rintro k ⟨hk2,hns⟩;refine sQ (sW I (lM I (yL I (tZ ?_))));refine iP I (fun hlt2=>?_) (fun hlt2=>?_)
    ·have hkl:k<c.sides.length:=oM;have hb1:=hx0 oM;have hjx:c.sides[((k:Nat):Int).toNat]?=some c.sides[k]:=gE hkl;have htk:c.sides.take (k+1)=c.sides.take k++[c.sides[k]]:=tS hkl;have hmemy:c.sides[k]∈c.sides:=gM hkl;generalize c.sides[k]=y at *;refine kP (tN (sQ (bK ?_)));refine SC.cutB 115 (bL y) ?_ ?_
     ·refine rG (lU (fA ar I cA I) (lK (qL (v:=.slice rp c.sides.length rcap) dE I (cO 0 I I)) (lM I (lU (iA cM cq I I hb1 oM sL) (lU (fC dK I zT3 I hb1) (lK (aZ (e:=encSide) (o:=1) (u:=vi y.sign) iT3 I hcs.rd hjx I) (lU (nQ I I) (lM I ?_))))))));refine sP ?_ ?_
      ·intro h107;refine lY I I I (fA ar I cA I) (SL.gq (gT I I I dC) (qL (v:=.slice rp c.sides.length rcap) dE I (cO 0 I I)) dC (yC I (lY I I I (iA cM cq I I hb1 oM sL) (lY I I I (fC dK I zT3 I hb1) (SL.gq (gT I I I dC) (aZ (e:=encSide) (o:=1) (u:=vi y.sign) iT3 I hcs.rd hjx I) dC (lY I I I (nQ I I) (yP I (nL ?_))))))));exact za8 (by exact zd8 (fun b=>some (Value.bool b)) (tP h107).symm) mI
      ·intro h107;refine yA I (yA I (yA I (yA I (yA I (yA I (yA I (yF I (nL ?_))))))));exact za8 (by exact zd8 (fun b=>some (Value.bool b)) (tO h107).symm) mI
     refine iQ I (fun hsg=>?_) (fun hsg=>?_)
     ·refine rZ (aT I (rE (bR (tR (tR (bR (tR (dR (s':=s) uR ?_))))))));have hany:c.sides.any bL=true:=zj5.2 ⟨y,hmemy,hsg⟩;exact za6 (.inl I) results194 I ⟨by unfold ct; rw[zf6 (by simp[hdb]),zf6 (by simp[hcb]),zf6 (by simp[hno]),zf7 hany],I,I⟩
     ·refine kP (bN (tN (rG (lM I (yD I (lA I (nL ?_)))))));exact gA (k+1) sB I I ⟨oM,by rw[htk,List.any_append,hns]; simp[hsg]⟩ oM
    ·have hkk:c.sides.take k=c.sides:=tL oM;rw[hkk] at hns;by_cases hd1:c.dim=1
     ·have h2:c.sides.length=2:=by
       simp[ax] at hcb;have:=hcb.1.2 hd1;omega
      obtain ⟨a,b,hab,hsum⟩:=BG h2 hns;have hb1:=hx0 oM;refine xI (tX (tX (bX (tN (sQ (sQ ?_))))));refine dW [] [(0,2),(1,1),(2,2),(3,2),(4,2),(5,1),(6,2),(7,2),(8,1),(9,2),(10,1),(11,2),(12,2),(13,1),(14,2),(15,2)] zd9 kR ?_;refine pU I (fA ar I zT3 I) (pK I (qL (v:=vi c.dim) iT3 I (cO 0 I I)) (pU I (SU.eq (v':=vb true) (eQ I I) (zd8 vb (zf5 hd1))) (yM I (zb1 I (gT I I I dC) (fA ar I cA I) dC (SP.gq I (gT I I I dC) (qL (v:=.slice rp c.sides.length rcap) dE I (cO 0 I I)) dC (zb1 I (gT I I I dC) (iA cM cq I I hb1 dC sL) dC (zb1 I (gT I I I dC) (fC dK I zT3 I hb1) dC (SP.gq I (gT I I I dC) (aZ (e:=encSide) (j:=0) (o:=1) (u:=vi a.sign) (a:=a) iT3 I hcs.rd (by rw[hab]; rfl) rfl) dC ?_))))))));refine zb1 I (gT I I I dC) (fA ar I cA I) dC (SP.gq I (gT I I I dC) (qL (v:=.slice rp c.sides.length rcap) dE I (cO 0 I I)) dC (zb1 I (gT I I I dC) (iA cM cq I I hb1 dC sL) dC (zb1 I (gT I I I dC) (fC dK I zT3 I hb1) dC (SP.gq I (gT I I I dC) (aZ (e:=encSide) (j:=1) (o:=1) (u:=vi b.sign) (a:=b) iT3 I hcs.rd (by rw[hab]; rfl) rfl) dC ?_))));refine zb1 I (gT I I I dC) (eQ I I) dC (pU I (wT I I) (pN (tN ?_)));refine iP I (fun heq=>?_) (fun heq=>?_)
      ·refine rZ (aT I (rE (tR (dR (s':=s) uR ?_))));exact za6 (.inl I) results194 I ⟨by unfold ct; rw[zf6 (by simp[hdb]),zf6 (by simp[hcb]),zf6 (by simp[hno]),zf6 (by simp[hns]),zf7 (by rw[hsum]; simp[hd1,heq])],I,I⟩
      ·refine kP (tN (rZ (aT I (rE (dR (s':=s) uR ?_)))));exact za6 (.inl I) results194 I ⟨by unfold ct; rw[zf6 (by simp[hdb]),zf6 (by simp[hcb]),zf6 (by simp[hno]),zf6 (by simp[hns]),zf6 (by rw[hsum]; simp[heq])],I,I⟩
     ·refine xI (tX (tX (bX (tN (sQ (sQ ?_))))));refine dW [] [(0,2),(1,1),(2,2),(3,2),(4,2),(5,1),(6,2),(7,2),(8,1),(9,2),(10,1),(11,2),(12,2),(13,1),(14,2),(15,2)] zd9 kR ?_;refine pU I (fA ar I zT3 I) (pK I (qL (v:=vi c.dim) iT3 I (cO 0 I I)) (pU I (SU.eq (v':=vb false) (eQ I I) (zd8 vb (zf4 hd1))) (yM I (yG I (yI I (yG I (yG I (yI I (yG I (yI I (yG I (yG I (yI I (yG I (pU I (wF I I) (pN (tN (cF I (kP (tN (rZ (aT I (rE (dR (s':=s) uR ?_))))))))))))))))))))))));exact za6 (.inl I) results194 I ⟨by unfold ct; rw[zf6 (by simp[hdb]),zf6 (by simp[hcb]),zf6 (by simp[hno]),zf6 (by simp[hns]),zf6 (by simp[hd1])],I,I⟩
end Go.Proofs.YtkbagdedfdfjhaaGreatDoor
