/- SoK Ed10 Ed11 Ed12 Ed13 Ed14 Ed15 -/
import Derived.Shelf.SlSortCmp.NoneTotal
import Derived.Test.YtackilpikhkijaaGreatDoorAl05
import Derived.Test.YtackilpikhkijaaGreatDoorAl10
import Derived.Test.YtackilpikhkijaaGreatDoorAl02
set_option linter.unusedSimpArgs false
set_option linter.unusedVariables false
namespace Go.Proofs.YtackilpikhkijaaGreatDoor
open _root_.Go.Proofs.Tryz _root_.Go.Proofs.YtackilpikhkijaaGreatDoor.Tryz
open Go Go.Sy Go.Pl Go.Proofs Go.Shelf Go.Sort
set_option maxRecDepth 100000
theorem oD {α:Type}[Inhabited α]{k:Nat}(en:Enc α k)(l:List α):(flatK en.enc k l.toArray).toList=l.flatMap en.enc:=by
 apply List.ext_getElem?;intro t;by_cases ht:t<l.length * k
 ·have h1:t / k<l.length:=by rw[Nat.div_lt_iff_lt_mul en.pos]; exact ht
  have h2:t % k<k:=Nat.mod_lt _ en.pos;have h3:l[t / k]?=some l[t / k]:=gE h1;have h4:t % k<(en.enc l[t / k]).length:=by rw[en.len]; exact h2
  have h5:=Enc.get (e:=en) (l:=l) h3 (gE h4);rw[show t / k * k+t % k=t from Nat.div_add_mod' t k] at h5;rw[h5];have hs:t<(flatK en.enc k l.toArray).size:=by simpa using ht
  rw[Array.getElem?_toList,Array.getElem?_eq_getElem hs];have h6:=get_flatK en.enc k l.toArray t (by simpa using ht);rw[getElem!_pos _ t hs] at h6;rw[h6];have h7:l.toArray[t / k]! = l[t / k]:=by rw[getElem!_pos l.toArray (t / k) (by simpa using h1)]; simp
  rw[h7,getElem!_pos (en.enc l[t / k]) (t % k) h4]
 ·rw[List.getElem?_eq_none (by simp; omega),List.getElem?_eq_none (by rw[Enc.length]; omega)]
def B9 (P:Program)(fn:Nat){α:Type}(enc:α→List Value)(cf:α→α→Int):Prop:=∀ (E:World) (g:PH) (s:Own) (x y:α),
 Ctr P E fn #[.agg (enc x).toArray,.agg (enc y).toArray] g s (fun r g' s'=>r = .int .i64 (cf x y)∧g=g'∧s=s')
theorem ud {P:Program}{ρ:Ren}(L:SlLaysF0.n6 P ρ){α:Type}[Inhabited α]{k:Nat}(en:Enc α k)(aE:∀ w,(isAgg (ρ.t 24)).run P w = .ok true w)(zE:∀ w,(Go.sizeOf (ρ.t 24)).run P w = .ok k w)(cf:α→α→Int)(hO:SWO (ltOf cf))(fn:Nat)
  (eg:∀ args w,(callFunc fn args).run P w = .ok (.enter fn args) w) (hcmp:B9 P fn en.enc cf) (T:TypeId) (E:World) (g:PH) (s:Own) (v:Value) (l:List α) (i:Nat) (hi:s[i]?=some (rowA en T v l)) (hl:l.length<1099511627776) :
  Ctr P E (ρ.f 6) #[v,.func (.func fn) #[] #[]] g s (fun _ g' s'=>g=g'∧∃ l':List α,l'.Perm l∧(l'.Pairwise fun x y=>¬ cf y x<0)∧s'=s.set i (rowA en T v l')):=by
 intro w hw;obtain ⟨h1,h2⟩:=gx hw hi
 rcases h2 with ⟨p,rfl,hn⟩ | ⟨b,cap,cur,rfl,hb,hle,hcm,hcs,ht⟩
 ·have hnil:l=[]:=List.eq_nil_of_length_eq_zero hn;subst hnil;refine (AnyF.slices_SortFunc_none L p 0 (.func (.func fn) #[] #[]) w).mono ?_;rintro e w' ⟨rfl,rfl⟩;exact⟨_,g,s,I,hw,I,[],.nil,.nil,(mh hi).symm⟩
 ·have hfr:=hw.fresh _ (List.mem_of_getElem? hi) b rfl;have hblt:=(Array.getElem?_eq_some_iff.1 hb).1;have hfl:=oD en l;have hcmp':CmpLays P fn #[] en.enc k cf b 0 l.toArray.size w:=by
   intro m os dk hs x y;refine (hcmp (sortWorldK en.enc k w b 0 m dk os) (tM _) [] x y _ (Ag _)).mono ?_;rintro e w' ⟨v',g',s',rfl,hat,rfl,rfl,rfl⟩;exact⟨I,uD hat⟩
  have hH:HoldsK en.enc k w b 0 l.toArray:=by
   intro j hj;have hj':j<l.length * k:=by simpa using hj
   refine⟨?_,by simp[World.frozen?,hb]⟩;have h1:(cur.toList.take (l.length * k))[j]?=(flatK en.enc k l.toArray).toList[j]?:=by rw[ht,hfl]
   rw[List.getElem?_take_of_lt hj'] at h1;have hs:j<(flatK en.enc k l.toArray).size:=by simpa using hj'
   simp only[World.cell?,hb,Nat.zero_add];simp only[Option.isSome_none,Bool.false_eq_true,if_false];rw[← Array.getElem?_toList,h1,Array.getElem?_toList,Array.getElem?_eq_getElem hs,getElem!_pos _ j hs];rfl
  refine (AnyQ.slices_SortFunc L k aE zE en.enc en.len en.one cf hO fn #[] b 0 (cap+1) l.toArray w eg hcmp' hH hblt (by simp; omega)).mono ?_;rintro e w' ⟨rfl,d',n,os,hp,hsd,rfl⟩;obtain ⟨d'⟩:=d';have hdl:d'.length=l.length:=by have:=hp.1; simpa using this
  have hperm:d'.Perm l:=by
   have h5:=hp.2.2;simp only[List.size_toArray,List.extract_toArray] at h5;simpa [List.extract_eq_take_drop,hdl,tL (Nat.le_of_eq hdl)] using h5
  have hsrt:d'.Pairwise fun x y=>¬ cf y x<0:=by
   rw[List.pairwise_iff_getElem];intro i j hi hj hij;have h5:=hsd i j (Nat.zero_le _) hij (by simp; omega);simp only[ltOf,decide_eq_false_iff_not] at h5;simpa [hi,hj] using h5
  have hfd:=oD en d';have hfs:(flatK en.enc k d'.toArray).size=l.length * k:=by simp[hdl]
  refine⟨_,g,s.set i (rowA en T (.slice (some ⟨b,0,none⟩) l.length (cap+1)) d'),I,?_,I,d',hperm,hsrt,I⟩;have h5:(sortWorldK en.enc k w b 0 n d'.toArray os).heap[b]?=some (.cells (putCells id 0 (flatK en.enc k d'.toArray) cur) T (0,0)):=by
   show (grow (putRow id (Sort.ahead w n) b 0 (flatK en.enc k d'.toArray)) os).heap[b]?=_;rw[heap_grow_old _ _ (by simpa using hblt)];simp[putRow,mapBlock,Sort.ahead,Array.getElem?_modify,hb,onCells]
  exact hw.turn (i:=i) (w':=sortWorldK en.enc k w b 0 n d'.toArray os) (e':=rowA en T (.slice (some ⟨b,0,none⟩) l.length (cap+1)) d') hi I ⟨I,Nat.le_add_right _ _⟩ I (by simp[sortWorldK,grow,putRowK,putRow,mapBlock,Sort.ahead]) (fun q hq hne=>by
    have hne':b≠q:=fun e=>hne (by rw[e]; rfl);show (grow (putRow id (Sort.ahead w n) b 0 (flatK en.enc k d'.toArray)) os).heap[q]?=_;rw[heap_grow_old _ _ (by simpa using hq)];simp[putRow,mapBlock,Sort.ahead,Array.getElem?_modify,hne']) (by
    have:=dL (w:=sortWorldK en.enc k w b 0 n d'.toArray os) (T:=T) (k:=k) (n:=d'.length) (b:=b) (cap:=cap) (xs:=d'.flatMap en.enc) (by rw[en.length]) h5 oM hcm (by simp[putCells]; simpa using hcs) (by
     rw[← hfd];apply List.ext_getElem?;intro j;by_cases hj:j<d'.length * k
     ·have hj2:j<(flatK en.enc k d'.toArray).size:=by simpa using hj
      have hj3:j<cur.size:=by
       have:d'.length * k≤(cap+1) * k:=Nat.mul_le_mul_right _ oM;omega
      rw[List.getElem?_take_of_lt hj,Array.getElem?_toList,Array.getElem?_toList,Array.getElem?_eq_getElem hj2];simp only[putCells,Array.getElem?_mapIdx,Array.getElem?_eq_getElem hj3,Option.map_some,Nat.zero_le,true_and,Nat.zero_add,Nat.sub_zero];rw[if_pos hj2,getElem!_pos _ j hj2];rfl
     ·rw[List.getElem?_take_eq_none oM,List.getElem?_eq_none (by simp; omega)])
    rw[show rowA en T (.slice (some ⟨b,0,none⟩) l.length (cap+1)) d'=row T k (.slice (some ⟨b,0,none⟩) d'.length (cap+1)) d'.length (d'.flatMap en.enc) by simp only[rowA,hdl]];exact this) (fun b' hb'=>by
    simp only[rowA,row,l7,Option.some.injEq] at hb';subst hb';exact⟨(Array.getElem?_eq_some_iff.1 h5).1,.inl I⟩)
set_option maxHeartbeats 2000000
abbrev Ts:=List (Int×Value×List Tm)
def di (ts:Ts):Own:=ts.map fun t=>rowA bV 77 t.2.1 t.2.2
def gG (ts:Ts):List (Int×Value):=ts.map fun t=>(t.1,t.2.1)
theorem qK (k:Int):∀ ts:Ts,(dK (gG ts) k=none∧∀ t∈ts,t.1≠k)∨∃ (m:Nat) (t:Int×Value×List Tm),ts[m]?=some t∧t.1=k∧dK (gG ts) k=some t.2.1∧ts.find? (fun t=>decide (t.1=k))=some t
 | []=>.inl ⟨rfl,by simp⟩
 | t::ts=>by
  have hc:gG (t::ts)=(t.1,t.2.1)::gG ts:=rfl;rw[hc,cG];by_cases h:k=t.1
  ·rw[if_pos h];exact .inr ⟨0,t,I,h.symm,I,by rw[List.find?_cons,decide_eq_true h.symm]⟩
  ·rw[if_neg h]
   rcases qK k ts with ⟨h1,h2⟩ | ⟨m,u,h1,h2,h3,h4⟩
   ·exact .inl ⟨h1,fun x hx=>by
     rcases List.mem_cons.1 hx with rfl | hx
     ·exact fun e=>h e.symm
     ·exact h2 x hx⟩
   ·exact .inr ⟨m+1,u,h1,h2,h3,by rw[List.find?_cons,decide_eq_false (fun e=>h e.symm)]; exact h4⟩
theorem xu {ts:Ts}{m:Nat}{t:Int×Value×List Tm}(h:ts[m]?=some t)(p q:Own):(p++(di ts++q))[p.length+m]?=some (rowA bV 77 t.2.1 t.2.2):=by
 have hj:=(List.getElem?_eq_some_iff.1 h).1;rw[qT,List.getElem?_append_left (by simpa [di] using hj)];simp[di,h]
theorem xt {ts:Ts}{m:Nat}{t:Int×Value×List Tm}(h:ts[m]?=some t)(l':List Tm)(p q:Own):(p++(di ts++q)).set (p.length+m) (rowA bV 77 t.2.1 l')=p++(di (ts.set m (t.1,t.2.1,l'))++q):=by
 have hj:=(List.getElem?_eq_some_iff.1 h).1;rw[List.set_append_right _ _ oM,Nat.add_sub_cancel_left,List.set_append_left _ _ (by simpa [di] using hj)];simp[di,List.map_set]
theorem freezeRowsT {E:World}{w:World}:∀ (ts:Ts) (g:PH) (s:Own),At E g (di ts++s) w→∃ g',Le g g'∧At E g' s w∧∀ t∈ts,SlA bV g' t.2.1 t.2.2
 | [],g,s,h=>⟨g,Le.refl g,h,by simp⟩
 | (a,v,l)::r,g,s,h=>by
  have h':At E g (row 77 3 v l.length (l.flatMap bV.enc)::(di r++s)) w:=h;obtain ⟨g1,hl1,h1,h2⟩:=h'.freezeRow;obtain ⟨g2,hl2,h3,h4⟩:=freezeRowsT r g1 s h1;refine⟨g2,hl1.trans hl2,h3,fun t ht=>?_⟩
  rcases List.mem_cons.1 ht with rfl | ht
  ·exact Sl.mono h2 hl2
  ·exact h4 t ht
theorem SC.freezeRowsT {P:Program}{N:Nat}{E:World}{c:Code}{Q:Exit→Act→World→Prop}{f:Fr}{g:PH}{p q:Own}{ts:Ts}(h:∀ g',Le g g'→(∀ t∈ts,SlA bV g' t.2.1 t.2.2)→SC P N E c Q f g' (p++q)):SC P N E c Q f g (p++(di ts++q)):=fun a w ha hw=>by
 have h0:(p++(di ts++q)).Perm (di ts++(p++q)):=by
  rw[← List.append_assoc,← List.append_assoc];exact List.perm_append_comm.append_right q
 obtain ⟨g',h1,h2,h3⟩:=Go.Proofs.YtackilpikhkijaaGreatDoor.freezeRowsT ts g (p++q) (hw.perm h0);exact h g' h1 h3 a w ha h2
def yw (ts:Ts):Prop:=∀ t∈ts,t.2.2.length<1099511627776∧(t.2.2.map Prod.fst).Nodup∧∃ p n c,t.2.1 = .slice p n c
def qw (ts:Ts)(k:Int):List Tm:=match ts.find? (fun t=>decide (t.1=k)) with
 | some t=>sortBy Prod.fst t.2.2
 | none=>[(k,1)]
theorem xh {l l':List Tm}(hp:l'.Perm l)(hs:l'.Pairwise fun x y=>¬ jG y.1 x.1<0)(hn:(l.map Prod.fst).Nodup):l'=sortBy Prod.fst l:=by
 have h1:Srt Prod.fst l':=hs.imp fun h=>by rw[cE] at h; omega
 exact cH h1 (qB hp.symm hn)
def Tryz.sortT_ren:Ren :=
 {
  f:=fun x =>
   match x with
   | 6=>88
   | 15=>131
   | 14=>130
   | 28=>157
   | 29=>158
   | 20=>149
   | 21=>150
   | 22=>151
   | 23=>152
   | 24=>153
   | 25=>154
   | 26=>155
   | 27=>156
   | 46=>185
   | 47=>186
   | 48=>187
   | 49=>188
   | 50=>189
   | 57=>212
   | n=>n,
  t:=fun x =>
   match x with
   | 22=>72
   | 24=>77
   | 25=>134
   | 3=>3
   | 39=>170
   | 0=>0
   | 53=>192
   | 55=>114
   | 4=>4
   | 46=>186
   | 45=>185
   | 50=>118
   | 5=>5
   | 9=>9
   | 66=>214
   | 70=>218
   | 76=>239
   | 77=>240
   | n=>n,
  g:=fun x =>
   have n:=x;
   n }
theorem Tryz.sortT:SlLaysF0.n6 Tryz.prog Tryz.sortT_ren :=
  {
  mixed:=Eq.refl true,
  f6 :=
   Exists.intro "slices.SortFunc[[]cocycle/api.Term,cocycle/api.Term]"
    ⟨of_decide_eq_true (id (Eq.refl true)),
     Eq.trans func88
      (congrArg some
       kR)⟩,
  f14 :=
   Exists.intro "slices.pdqsortCmpFunc[cocycle/api.Term]"
    ⟨of_decide_eq_true (id (Eq.refl true)),
     Eq.trans func130
      (congrArg some
       kR)⟩,
  f15:=Eq.trans func131 (congrArg some kR),
  f20 :=
   Exists.intro "slices.insertionSortCmpFunc[cocycle/api.Term]"
    ⟨of_decide_eq_true (id (Eq.refl true)),
     Eq.trans func149
      (congrArg some
       kR)⟩,
  f21 :=
   Exists.intro "slices.heapSortCmpFunc[cocycle/api.Term]"
    ⟨of_decide_eq_true (id (Eq.refl true)),
     Eq.trans func150
      (congrArg some
       kR)⟩,
  f22 :=
   Exists.intro "slices.breakPatternsCmpFunc[cocycle/api.Term]"
    ⟨of_decide_eq_true (id (Eq.refl true)),
     Eq.trans func151
      (congrArg some
       kR)⟩,
  f23 :=
   Exists.intro "slices.choosePivotCmpFunc[cocycle/api.Term]"
    ⟨of_decide_eq_true (id (Eq.refl true)),
     Eq.trans func152
      (congrArg some
       kR)⟩,
  f24 :=
   Exists.intro "slices.reverseRangeCmpFunc[cocycle/api.Term]"
    ⟨of_decide_eq_true (id (Eq.refl true)),
     Eq.trans func153
      (congrArg some
       kR)⟩,
  f25 :=
   Exists.intro "slices.partialInsertionSortCmpFunc[cocycle/api.Term]"
    ⟨of_decide_eq_true (id (Eq.refl true)),
     Eq.trans func154
      (congrArg some
       kR)⟩,
  f26 :=
   Exists.intro "slices.partitionEqualCmpFunc[cocycle/api.Term]"
    ⟨of_decide_eq_true (id (Eq.refl true)),
     Eq.trans func155
      (congrArg some
       kR)⟩,
  f27 :=
   Exists.intro "slices.partitionCmpFunc[cocycle/api.Term]"
    ⟨of_decide_eq_true (id (Eq.refl true)),
     Eq.trans func156
      (congrArg some
       kR)⟩,
  f28:=Eq.trans func157 (congrArg some kR),
  f29:=Eq.trans func158 (congrArg some kR),
  f46 :=
   Exists.intro "slices.siftDownCmpFunc[cocycle/api.Term]"
    ⟨of_decide_eq_true (id (Eq.refl true)),
     Eq.trans func185
      (congrArg some
       kR)⟩,
  f47:=Eq.trans func186 (congrArg some kR),
  f48:=Eq.trans func187 (congrArg some kR),
  f49 :=
   Exists.intro "slices.medianAdjacentCmpFunc[cocycle/api.Term]"
    ⟨of_decide_eq_true (id (Eq.refl true)),
     Eq.trans func188
      (congrArg some
       kR)⟩,
  f50 :=
   Exists.intro "slices.medianCmpFunc[cocycle/api.Term]"
    ⟨of_decide_eq_true (id (Eq.refl true)),
     Eq.trans func189
      (congrArg some
       kR)⟩,
  f57 :=
   Exists.intro "slices.order2CmpFunc[cocycle/api.Term]"
    ⟨of_decide_eq_true (id (Eq.refl true)),
     Eq.trans func212
      (congrArg some
       kR)⟩,
  t0:=underlying0,a0:=isAgg0,z0:=sizeOf0,v0:=zeroValue0,t3:=uT3,
  a3:=iT3,z3:=zT3,v3:=zeroValue3,t4:=uT4,a4:=isAgg4,
  z4:=zT4,v4:=zeroValue4,t5:=uT5,a5:=isAgg5,z5:=sizeOf5,
  v5:=zeroValue5,t9:=uT9,a9:=isAgg9,z9:=sizeOf9,v9:=zeroValue9,
  t22:=yu,a22:=isAgg72,z22:=sizeOf72,v22:=zeroValue72,
  t25:=underlying134,a25:=isAgg134,z25:=sizeOf134,v25:=zeroValue134,
  t39:=ft,a39:=isAgg170,z39:=sizeOf170,v39:=zeroValue170,
  t45:=underlying185,a45:=isAgg185,z45:=sizeOf185,v45:=zeroValue185,
  t46:=underlying186,a46:=isAgg186,z46:=sizeOf186,v46:=zeroValue186,
  t50:=underlying118,a50:=isAgg118,z50:=sizeOf118,v50:=zeroValue118,
  t53:=underlying192,a53:=isAgg192,z53:=sizeOf192,v53:=zeroValue192,
  t55:=lv,a55:=isAgg114,z55:=sizeOf114,v55:=zeroValue114,
  t66:=underlying214,a66:=isAgg214,z66:=sizeOf214,v66:=zeroValue214,
  t70:=underlying218,a70:=isAgg218,z70:=sizeOf218,v70:=zeroValue218,
  t76:=underlying239,a76:=isAgg239,z76:=sizeOf239,v76:=zeroValue239,
  t77:=underlying240,a77:=isAgg240,z77:=sizeOf240,v77:=zeroValue240 }
theorem Bd:B9 Tryz.prog 89 bV.enc (fun x y=>jG x.1 y.1):=by
 intro E g s x y;obtain ⟨x1,x2⟩:=x;obtain ⟨y1,y2⟩:=y;refine Ctr.of (args:=[.agg #[vi x1,vb (yB x2),txt (qv x2.natAbs)],.agg #[vi y1,vb (yB y2),txt (qv y2.natAbs)]]) func89 I ntmps89 (bE I) ?_;refine rZ (bW (bO I) fun b2=>?_);refine bW (bO I) fun b3=>?_;refine aT I (rZ (lU (fA underlying77 I zT3 I) (lK (qL (v:=vi x1) iT3 I (cO 1 I I)) (lU (fA underlying77 I zT3 I) (lK (qL (v:=vi y1) iT3 I (cO 0 I I)) (lW (cL call90 I (dU E g _ x1 y1)) ?_))))));rintro _ _ _ ⟨rfl,rfl,rfl⟩;refine aT I (rE (dR (s':=s) uR ?_));exact ST.ret1 (.inl I) results89 I ⟨I,I,I⟩
theorem BE {α:Type}(key:α→Int):SWO (ltOf fun x y:α=>jG (key x) (key y)):=⟨fun x=>by simp[ltOf,cE],fun x y z h1 h2=>by simp[ltOf,cE] at *; omega,fun x y z h1 h2=>by simp[ltOf,cE] at *; omega⟩
theorem xj (E:World)(g:PH)(s:Own)(v:Value)(l:List Tm)(i:Nat)(hi:s[i]?=some (rowA bV 77 v l))(hl:l.length<1099511627776)(hn:(l.map Prod.fst).Nodup) :
  Ctr Tryz.prog E 88 #[v,.func (.func 89) #[] #[]] g s (fun _ g' s'=>g=g'∧s'=s.set i (rowA bV 77 v (sortBy Prod.fst l))) :=
 (ud Tryz.sortT bV isAgg77 sizeOf77 (fun x y=>jG x.1 y.1) (BE Prod.fst) 89 call89 Bd 77 E g s v l i hi hl).mono fun _ _ _ ⟨h1,l',h2,h3,h4⟩=>⟨h1,by rw[h4,xh h2 h3 hn]⟩
theorem vE (E:World)(g:PH)(p q:Own)(b2 bx mb ms:Nat)(u:Value)(bk:Bool)(k:Int)(ts:Ts)(hts:yw ts)(i j z:Nat)(hq:p[z]?=some (pt b2 (.cells #[pp bx 0] 97 (0,0))))(hi:p[i]?=some (edP bx u mb ms bk))(hj:p[j]?=some (mp ms (gG ts))) :
  dn Tryz.prog E (.func (.func 86) #[] #[pp b2 0]) [vi k] g (p++(di ts++q)) (fun r g' s'=>Le g g'∧∃ ts',s'=p++(di ts'++q)∧((ts.find? (fun t=>decide (t.1=k))=none∧ts'=ts∧SlA bV g' r [(k,1)])∨∃ (m:Nat) (t:Int×Value×List Tm),ts[m]?=some t∧t.1=k∧ts.find? (fun t=>decide (t.1=k))=some t∧r=t.2.1∧ts'=ts.set m (t.1,t.2.1,sortBy Prod.fst t.2.2))):=by
 refine dn.mk (args:=[_]) (cap:=[pp b2 0]) call86 ?_;have left:∀ {n:Nat} {x:Ent},p[n]?=some x→(p++(di ts++q))[n]?=some x:=fun {n x} h=>by
  rw[List.getElem?_append_left (List.getElem?_eq_some_iff.1 h).1]; exact h
 have hq':=left hq;have hi':=left hi;have hj':=left hj;generalize hs:p++(di ts++q)=s at *
 rcases qK k ts with ⟨h1,h2⟩ | ⟨m,t,h1,h2,h3,h4⟩
 ·have hf:ts.find? (fun t=>decide (t.1=k))=none:=List.find?_eq_none.2 fun t ht=>by simpa using h2 t ht
  refine Ctr.of (args:=[vi k,pp b2 0]) func86 I ntmps86 (bE I) ?_;refine rZ (aT rfl (rZ (lK (qL (v:=pp bx 0) isAgg97 rfl (cO z hq' rfl)) (lU (nC rfl) (lU (fA cX rfl sizeOf127 rfl) (lK (qL (v:=.map (some ms)) isAgg127 rfl (cO i hi' rfl)) (lM rfl (lK (SQ.eq (v':=.tuple #[.slice none 0 0,vb false]) (SQ.lookupOk mty127 rfl rfl (cw.own j hj')) (by rw[h1]; rfl)) ?_))))))));refine lM I (lU (xT I I) (lU (xT I I) (lA I (aT I (sQ (sW I (lU (SU.not I) (tZ (SC.condT I (sW I (lW (cL call87 I (jb E g _ k 1 dC dC)) ?_)))))))))));rintro _ g1 _ ⟨rfl,rfl,hle1⟩;refine lW (bS sty72 I I I (ae ⟨I,trivial⟩) dC) ?_;rintro _ _ _ ⟨b19,rfl,rfl,rfl⟩;refine SL.freeze fun g2 hle2 hb2=>?_;refine aT I (rE (tR ?_));exact ST.ret1 (.inl I) results86 I ⟨hle1.trans hle2,ts,hs.symm,.inl ⟨hf,I,SlA.lit hb2 I I⟩⟩
 ·have hrow:=xu h1 p q;have hset:=xt h1 (sortBy Prod.fst t.2.2) p q;rw[hs] at hrow hset;obtain ⟨hl1,hl2,_⟩:=hts t (List.mem_of_getElem? h1);refine Ctr.of (args:=[vi k,pp b2 0]) func86 I ntmps86 (bE I) ?_;refine rZ (aT rfl (rZ (lK (qL (v:=pp bx 0) isAgg97 rfl (cO z hq' rfl)) (lU (nC rfl) (lU (fA cX rfl sizeOf127 rfl) (lK (qL (v:=.map (some ms)) isAgg127 rfl (cO i hi' rfl)) (lM rfl (lK (SQ.eq (v':=.tuple #[t.2.1,vb true]) (SQ.lookupOk mty127 rfl rfl (cw.own j hj')) (by rw[h3]; rfl)) ?_))))))));refine lM I (lU (xT I I) (lU (xT I I) (lA I (aT I (sQ (sW I (lU (SU.not I) (tZ (SC.condF I (kP (tN (sW I (lW (cL call88 I (xj E g _ t.2.1 t.2.2 _ hrow hl1 hl2)) ?_)))))))))))));rintro _ _ _ ⟨rfl,rfl⟩;refine tZ (sW I (aT I (rE ?_)));exact ST.ret1 (.inl I) results86 I ⟨Le.refl _,_,hset,.inr ⟨m,t,h1,h2,h4,I,I⟩⟩
open Go Go.Sy Go.Pl Go.Proofs
theorem iW9 {p : Prop} (h : p := by
  intro _ _ _ h
  repeat (obtain ⟨_, h⟩ := h)
  subst_vars
  constructor
  first | exact Le.refl _ | assumption
  repeat (first | exact List.Sublist.refl _ | apply List.Sublist.cons)
  done) : p := h
theorem vd (l:List Tm):sortBy Prod.fst (sortBy Prod.fst l)=sortBy Prod.fst l:=(cH (co l) (aF.refl _)).symm
def i9 (ts:Ts)(ids:List Int):Ts:=ts.map fun t=>if t.1∈ids then (t.1,t.2.1,sortBy Prod.fst t.2.2) else t
theorem yK (ts:Ts):i9 ts []=ts:=by simp[i9]
theorem wZ {ts:Ts}{ids:List Int}{k:Int}(h:(i9 ts ids).find? (fun t=>decide (t.1=k))=none):∀ t∈ts,t.1≠k:=fun t ht e=>by
 have h1:=List.find?_eq_none.1 h _ (List.mem_map.2 ⟨t,ht,rfl⟩);apply h1;split <;> exact decide_eq_true e
theorem wY {ts:Ts}{ids:List Int}{k:Int}(h:∀ t∈ts,t.1≠k):i9 ts (ids++[k])=i9 ts ids:=by
 unfold i9;apply List.map_congr_left;intro t ht;have hne:=h t ht;by_cases h1:t.1∈ids
 ·rw[if_pos h1,if_pos (by simp[h1])]
 ·rw[if_neg h1,if_neg (by simp[h1,hne])]
theorem yL {ts:Ts}{ids:List Int}{m:Nat}{t':Int×Value×List Tm}(h:(i9 ts ids)[m]?=some t'):∃ t,ts[m]?=some t∧t.1=t'.1∧t.2.1=t'.2.1∧sortBy Prod.fst t'.2.2=sortBy Prod.fst t.2.2:=by
 unfold i9 at h;rw[List.getElem?_map] at h;cases ht:ts[m]? with
 | none=>rw[ht] at h; cases h
 | some t =>
  rw[ht] at h;simp only[Option.map_some,Option.some.injEq] at h;subst h;refine⟨t,I,?_,?_,?_⟩
  ·split <;> rfl
  ·split <;> rfl
  ·split
   ·exact vd _
   ·rfl
theorem wW {ts:Ts}(hn:(ts.map Prod.fst).Nodup){ids:List Int}{k:Int}{m:Nat}{t':Int×Value×List Tm}(h:(i9 ts ids)[m]?=some t')(hk:t'.1=k):(i9 ts ids).set m (t'.1,t'.2.1,sortBy Prod.fst t'.2.2)=i9 ts (ids++[k]):=by
 obtain ⟨t,h1,h2,h3,h4⟩:=yL h;apply List.ext_getElem?;intro n;rw[List.getElem?_set];by_cases e:m=n
 ·subst e;have hj:=(List.getElem?_eq_some_iff.1 h).1;rw[if_pos rfl,if_pos hj];unfold i9;rw[List.getElem?_map,h1,Option.map_some,if_pos (by simp[h2,hk]),← h4,← h2,← h3]
 ·rw[if_neg e];unfold i9;rw[List.getElem?_map,List.getElem?_map];cases hn2:ts[n]? with
  | none=>rfl
  | some u =>
   have hne:u.1≠k:=fun e2=>by
    have hm1:=(List.getElem?_eq_some_iff.1 h1).1;have hn1:=(List.getElem?_eq_some_iff.1 hn2).1;have h5:(ts.map Prod.fst)[m]'(by simpa using hm1)=(ts.map Prod.fst)[n]'(by simpa using hn1):=by
     rw[List.getElem_map,List.getElem_map,(List.getElem?_eq_some_iff.1 h1).2,(List.getElem?_eq_some_iff.1 hn2).2,h2,hk,e2]
    exact e ((List.getElem_inj hn).1 h5)
   rw[Option.map_some,Option.map_some];by_cases h5:u.1∈ids
   ·rw[if_pos h5,if_pos (by simp[h5])]
   ·rw[if_neg h5,if_neg (by simp[h5,hne])]
theorem wv {ts:Ts}(h:yw ts)(ids:List Int):yw (i9 ts ids):=fun t ht=>by
 obtain ⟨u,hu,rfl⟩:=List.mem_map.1 ht;obtain ⟨h1,h2,h3⟩:=h u hu;split
 ·exact⟨by rw[eV]; exact h1,((s6 u.2.2).map Prod.fst).symm.nodup h2,h3⟩
 ·exact⟨h1,h2,h3⟩
theorem yJ (ts:Ts)(ids:List Int):gG (i9 ts ids)=gG ts:=by
 unfold gG i9;rw[List.map_map];apply List.map_congr_left;intro t _;simp only[Function.comp];split <;> rfl
theorem rt {α β γ:Type}{R:α→γ→Prop}{S:β→γ→Prop}{f:α→β}:∀ {l:List α} {m:List γ},(∀ a c,a∈l→R a c→S (f a) c)→aC R l m→aC S (l.map f) m
 | [],[],_,_=>trivial
 | a::l,c::m,h,⟨h1,h2⟩=>⟨h a c (by simp) h1,rt (fun x y hx=>h x y (by simp[hx])) h2⟩
 | [],_::_,_,h=>h.elim
 | _::_,[],_,h=>h.elim
def ImS (ts:Ts)(g:PH)(c:Cl)(r:Im):Prop:=r.cell=c.id∧match ts.find? (fun t=>decide (t.1=c.id)) with
 | some t=>.slice r.sv.p r.sv.n r.sv.c=t.2.1
 | none=>SlA bV g (.slice r.sv.p r.sv.n r.sv.c) [(c.id,1)]
theorem ImS.mono {ts:Ts}{g g':PH}(hl:Le g g'){c:Cl}{r:Im}(h:ImS ts g c r):ImS ts g' c r:=by
 refine⟨h.1,?_⟩;have h2:=h.2
 revert h2
 cases ts.find? (fun t=>decide (t.1=c.id)) with
 | some t=>exact id
 | none=>exact fun h2=>SlA.mono h2 hl
theorem ImS.done {ts:Ts}{g:PH}{F:List Cl}(hk:∀ t∈i9 ts (F.map Cl.id),SlA bV g t.2.1 t.2.2){c:Cl}(hc:c∈F){r:Im}(h:ImS ts g c r):ImR g (c.id,qw ts c.id) r:=by
 refine⟨h.1,?_⟩;have h2:=h.2;unfold qw;dsimp only
 revert h2
 cases hf:ts.find? (fun t=>decide (t.1=c.id)) with
 | some t =>
  intro h2;have h3:=List.mem_of_find?_eq_some hf;have h4:t.1=c.id:=by simpa using List.find?_some hf
  dsimp only at h2 ⊢;rw[h2];exact hk (t.1,t.2.1,sortBy Prod.fst t.2.2) (List.mem_map.2 ⟨t,h3,by rw[if_pos (by rw[h4]; exact List.mem_map.2 ⟨c,hc,I⟩)]⟩)
 | none=>exact id
theorem wX {ts:Ts}{ids:List Int}{k:Int}{t':Int×Value×List Tm}(h:(i9 ts ids).find? (fun t=>decide (t.1=k))=some t'):∃ t,ts.find? (fun t=>decide (t.1=k))=some t∧t.2.1=t'.2.1:=by
 unfold i9 at h;rw[List.find?_map] at h;rw[Option.map_eq_some_iff] at h;obtain ⟨t,h1,h2⟩:=h;refine⟨t,?_,?_⟩
 ·rw[← h1];congr 1;funext u;simp only[Function.comp];split <;> rfl
 ·rw[← h2];split <;> rfl
theorem xS {ts ts2:Ts}(htn:(ts.map Prod.fst).Nodup)(hok:yw ts){ids:List Int}{cx:Cl}{g2:PH}{v:Value}
  (h:((i9 ts ids).find? (fun t=>decide (t.1=cx.id))=none∧ts2=i9 ts ids∧SlA bV g2 v [(cx.id,1)])∨∃ (m:Nat) (t:Int×Value×List Tm),(i9 ts ids)[m]?=some t∧t.1=cx.id∧(i9 ts ids).find? (fun t=>decide (t.1=cx.id))=some t∧v=t.2.1∧ts2=(i9 ts ids).set m (t.1,t.2.1,sortBy Prod.fst t.2.2)) :
  ∃ q n d,v = .slice q n d∧ts2=i9 ts (ids++[cx.id])∧ImS ts g2 cx ⟨cx.id,⟨q,n,d⟩⟩:=by
 rcases h with ⟨h1,rfl,h3⟩ | ⟨m,t,h1,h2,h3,rfl,rfl⟩
 ·obtain ⟨p,c,rfl⟩:=SlA.form h3;have hne:=wZ h1;refine⟨p,_,c,I,(wY hne).symm,I,?_⟩;rw[show ts.find? (fun t=>decide (t.1=cx.id))=none from List.find?_eq_none.2 fun t ht=>by simpa using hne t ht];exact h3
 ·obtain ⟨_,_,p,n,c,hv⟩:=wv hok ids t (List.mem_of_getElem? h1);obtain ⟨u,hu1,hu2⟩:=wX h3;refine⟨p,n,c,hv,wW htn h1 h2,I,?_⟩;rw[hu1];dsimp only;rw[hu2,hv]
theorem xf (E:World)(g:PH)(p0 q0:Own)(bx mb ms:Nat)(u v:Value)(bk:Bool)(A D:List Cl)(ts:Ts)(hts:yw ts)(htn:(ts.map Prod.fst).Nodup)(hu:ao g u A)(hv:ao g v D)(hA:A.length<1099511627776)(hD:D.length<1099511627776)(i j:Nat)(hi0:p0[i]?=some (edP bx u mb ms bk))(hj0:p0[j]?=some (mp ms (gG ts))) :
  Ctr Tryz.prog E 50 #[pp bx 0,.agg #[v]] g (p0++(di ts++q0)) (fun r g' s'=>s'=p0++q0∧Le g g'∧∃ iv,r = .agg #[iv,vb bk]∧Ims g' iv ((if bk then D else A).map fun c=>(c.id,qw ts c.id))):=by
 have hi:(p0++(di ts++q0))[i]?=some (edP bx u mb ms bk):=by rw[List.getElem?_append_left (List.getElem?_eq_some_iff.1 hi0).1]; exact hi0
 obtain ⟨pu,cu,rfl⟩:=hu.form;obtain ⟨pv,cv,rfl⟩:=hv.form;refine Ctr.of (args:=[pp bx 0,.agg #[.slice pv D.length cv]]) func50 I ntmps50 (bE I) ?_;refine rZ (bW (bO I) fun b2=>?_);refine bW (bO I) fun b3=>?_;refine bW (aL zeroValue46) fun b4=>?_;refine tZ (rZ (lK (qL isAgg97 I (cO 2 I I)) (lU (nC I) (lU (fA cX I ag I) (lK (SQ.loadOne ar ag I (cO (v:=.slice pu A.length cu) (i+3) hi I)) (bW (aL zeroValue29) fun b5=>?_))))));refine oZ (sK 0 ag I I I I I sB) ?_;refine tZ ?_;refine SC.cut (ι:=Unit) (fun _=>[(2,pp b2 0),(3,pp b3 0),(4,pp b4 0),(5,pp b5 0)]) (fun _=>g) (fun _=>pt b5 (.cells #[if bk then .slice pv D.length cv else .slice pu A.length cu] 29 (0,0))::pt b4 (.cells #[.slice none 0 0,vb false] 46 (0,0))::pt b3 (.cells #[.slice pv D.length cv] 29 (0,0))::pt b2 (.cells #[pp bx 0] 97 (0,0))::(p0++(di ts++q0))) (fun _=>True) ?_ ?_
 ·refine rZ (lK (qL isAgg97 I (cO 3 I I)) (lU (nC I) (lU (fA cX I zT4 I) (lK (qL (v:=vb bk) isAgg4 I (cO (i+4) hi I)) (tZ ?_)))));cases bk with
  | true =>
   refine SC.condT I (rG (lK (qV 2 ar ag I I I) (oZ (sK 0 ag I I I I I sB) ?_)));refine nL ?_;exact ST.mid () sB I I trivial
  | false =>
   refine SC.condF I (kP ?_);exact ST.mid () sB I I trivial
 rintro _ -;try dsimp only
 have hF:ao g (if bk then .slice pv D.length cv else .slice pu A.length cu) (if bk then D else A):=by cases bk <;> assumption
 have hFl:(if bk then D else A).length<1099511627776:=by cases bk <;> assumption
 generalize (if bk=true then D else A)=F at *;generalize (if bk=true then Value.slice pv D.length cv else Value.slice pu A.length cu)=w at *;obtain ⟨rs,hrs,hall⟩:=hF;have hrl:=hall.length;obtain ⟨p,c,rfl⟩:=SlA.form hrs;refine rZ (lK (qL isAgg97 I (cO 3 I I)) (lU (nC I) (lU (fA cX I zT4 I) (lK (qL (v:=vb bk) isAgg4 I (cO (i+4) hi I)) (lU (SU.build I (buildB46 _)) (bW (aL zeroValue46) fun b6=>?_))))));refine oZ (sK 0 bC I I I I I sB) ?_;refine tZ (rZ (lU (SU.mkFunc I) (aT I (sQ (rZ (lU (fA c8 I cj I) (lK (qL dS I (cO 1 I I)) (lU (eN aH I) (lM I (tZ (bK ?_)))))))))));clear hi;refine SC.nilRow 113 2 ?_;refine oP (ι:=Nat×PH×Value×List Im) (fun i=>[(2,pp b2 0),(4,pp b4 0),(6,pp b6 0),(7,.func (.func 86) #[] #[pp b2 0]),(26,.slice p rs.length c),(27,vi rs.length),(28,vi i.1)]) (fun i=>i.2.1)
  (fun i=>rowA jh 113 i.2.2.1 i.2.2.2::pt b6 (.cells #[i.2.2.1,vb bk] 46 (0,0))::pt b5 (.cells #[.slice p rs.length c] 29 (0,0))::pt b4 (.cells #[.slice none 0 0,vb false] 46 (0,0))::pt b3 (.cells #[.slice pv D.length cv] 29 (0,0))::pt b2 (.cells #[pp bx 0] 97 (0,0))::(p0++(di (i9 ts ((F.take i.1).map Cl.id))++q0)))
  (fun i=>i.1≤rs.length∧Le g i.2.1∧aC (ImS ts i.2.1) (F.take i.1) i.2.2.2) (fun i=>rs.length - i.1) (0,g,.slice none 0 0,[])
  sB rfl (by dsimp only; rw[List.take_zero,List.map_nil,yK]; rfl) ⟨Nat.zero_le _,Le.refl g,by simp[aC]⟩ ?_
 rintro ⟨k,g1,ov,acc⟩ ⟨hk,hle,hacc⟩;dsimp only at hk hle hacc ⊢;have hal:=hacc.length;rw[List.length_take] at hal;refine rZ (lU (lS I I) (tZ (sQ ?_)));refine iP I (fun hlt=>?_) (fun hlt=>?_)
 ·have hkr:k<rs.length:=oM;have hkl:k<F.length:=oM;have hb1:=SlA.based hrs oM;have hcr:=hall.get (gE hkl) (gE hkr);have hgx:rs[((k:Nat):Int).toNat]?=some rs[k]:=gE hkr;have htk:F.take (k+1)=F.take k++[F[k]]:=tS hkl;generalize rs[k]=x at *;generalize F[k]=cx at *;obtain ⟨xi,xd,xp,xn,xc⟩:=x;obtain ⟨e1,e2,-⟩:=hcr;dsimp only at e1 e2;subst e1 e2;refine kP (tN (sQ (bK (rZ (lU (iA aH au I I hb1 oM (show (k:Int)<((rs.length:Nat):Int) by omega)) ?_)))));refine lK (eA du au I (SlA.rd (SlA.mono hrs hle)) hgx) (bW (aL zeroValue53) fun b9=>?_);refine oZ (sK 0 au I I I I I sB) ?_;refine tZ ?_;refine SC.drawT 3 [11,14] [(0,2),(1,2),(2,1),(3,2),(4,1),(5,2),(6,2),(7,1),(8,0),(9,2),(10,0),(11,0),(12,2),(13,2),(14,0)] Tryz.mixed kR ?_;refine pU rfl (fA yv rfl j9 rfl) (pU rfl (fA mA rfl km rfl) (pK rfl (qL isAgg42 rfl (cO 2 rfl rfl)) (pU rfl (fA aq rfl zT3 rfl) (pK rfl (qL iT3 rfl (cO 0 rfl rfl)) (pU rfl (mV rfl) (pU rfl (fA aq rfl zT3 rfl) (pK rfl (qL iT3 rfl (cO 0 rfl rfl)) (SP.o rfl (SO.callV rfl rfl (vE E g1 (pt b9 (.cells #[vi cx.id,vi cx.dim,.slice xp xn xc] 53 (0,0))::rowA jh 113 ov acc::pt b6 (.cells #[ov,vb bk] 46 (0,0))::pt b5 (.cells #[.slice p rs.length c] 29 (0,0))::pt b4 (.cells #[.slice none 0 0,vb false] 46 (0,0))::pt b3 (.cells #[.slice pv D.length cv] 29 (0,0))::pt b2 (.cells #[pp bx 0] 97 (0,0))::p0) q0 b2 bx mb ms _ bk cx.id (i9 ts ((F.take k).map Cl.id)) (wv hts _) (i+7) (j+7) 6 rfl hi0 (by rw[yJ]; exact hj0))) dC (.inr (by rintro v40 g2 _ ⟨hle2,ts2,rfl,hcase⟩; exact⟨by assumption,(by exact .cons_cons _ (.cons_cons _ (.cons_cons _ (List.nil_sublist _))))⟩)) ?_))))))));rintro v40 g2 _ ⟨hle2,ts2,rfl,hcase⟩;obtain ⟨q2,n2,d2,rfl,hts2,him2⟩:=xS htn hts hcase;subst hts2;refine pU rfl (SU.build rfl (build113 _ _ _ _)) (SP.o rfl (bS sty42 rfl rfl rfl (ae sB) dC) dC (.inr (by rintro _ _ _ ⟨b42,rfl,rfl,rfl⟩; exact⟨by assumption,(by exact .cons _ (.cons_cons _ (.cons_cons _ (.cons_cons _ (List.nil_sublist _)))))⟩)) ?_);rintro _ _ _ ⟨b42,rfl,rfl,rfl⟩;refine SP.o I (aP (e:=jh) 1 ⟨cx.id,⟨q2,n2,d2⟩⟩ sty42 I I I I I oM oM) dC (.inl dC) ?_;rintro ov' _ _ ⟨rfl,rfl⟩;refine SP.facts fun ⟨w0,hw0⟩=>?_;obtain ⟨q',d',rfl⟩:=ah (e:=jh) (l:=acc++[⟨cx.id,⟨q2,n2,d2⟩⟩]) (i:=1) hw0 rfl;clear hw0 w0;refine pU rfl (fA yv rfl j9 rfl) (pU rfl (fA mA rfl km rfl) (SP.on rfl (SO.store1 2 km rfl rfl rfl rfl (bE rfl) (by rfl)) (.inl dC) ?_));rintro _ _ _ ⟨rfl,rfl⟩;refine pN (bN (tN (rG (lU (aD I I oM) (lM I (nL (dR (.cons _ (.refl _)) ?_)))))));exact gA (k+1,g2,_,acc++[⟨cx.id,⟨q2,n2,d2⟩⟩]) sB rfl (by dsimp only; rw[htk,List.map_append]; rfl) ⟨by dsimp only; omega,hle.trans hle2,by
   dsimp only;rw[htk];exact (hacc.mono fun _ _=>ImS.mono hle2).append ⟨him2,trivial⟩⟩ (by dsimp only; omega)
 ·have hkk:F.take k=F:=tL oM;rw[hkk] at hacc ⊢;refine xI (tX (tX (bX (tN (sQ (fS fun g2 hle2 hs2=>?_))))));obtain ⟨q2,d2,rfl⟩:=Sl.form hs2;refine SC.freezeRowsT (p:=pt b6 (.cells #[.slice q2 acc.length d2,vb bk] 46 (0,0))::pt b5 (.cells #[.slice p rs.length c] 29 (0,0))::pt b4 (.cells #[.slice none 0 0,vb false] 46 (0,0))::pt b3 (.cells #[.slice pv D.length cv] 29 (0,0))::pt b2 (.cells #[pp bx 0] 97 (0,0))::p0) (q:=q0) fun g3 hle3 hfr=>?_;refine rG (lK (qV 0 fD bC I I I) (oZ (sK 2 bC I I I I I sB) ?_));refine tZ (rE ?_);have hdone:aC (ImR g3) (F.map fun c=>(c.id,qw ts c.id)) acc:=rt (fun c r hc hr=>ImS.done hfr hc (hr.mono (hle2.trans hle3))) hacc;exact ST.retCD 2 (p0++q0) (.inl I) results50 I fD bC I I uR ⟨I,hle.trans (hle2.trans hle3),_,I,acc,SlA.mono hs2 hle3,hdone⟩
def tT (p:Side→Bool)(l:List Side):Int:=if l.any p then ((l.findIdx p:Nat):Int) else -1
theorem uu {p:Side→Bool}{l:List Side}{k:Nat}(hk:k<l.length)(h0:∀ j (hj:j<k),p (l[j]'oM)=false)(h1:p l[k]=true):tT p l=k:=by
 unfold tT;rw[if_pos (List.any_eq_true.2 ⟨_,gM hk,h1⟩),List.findIdx_eq hk |>.2 ⟨h1,fun j hj=>by rw[h0 j hj]⟩]
theorem us {p:Side→Bool}{l:List Side}(h0:∀ j (hj:j<l.length),p l[j]=false):tT p l = -1:=by
 unfold tT;rw[if_neg];intro h;obtain ⟨x,hx,h1⟩:=List.any_eq_true.1 h;obtain ⟨j,hj,rfl⟩:=List.getElem_of_mem hx;rw[h0 j hj] at h1;cases h1
theorem qR (E:World)(g:PH)(s:Own)(v fv:Value)(l:List Side)(p:Side→Bool)(hv:SlA encSide g v l)(hl:l.length<1099511627776)(hfv:fv.cells = #[fv])(hc:∀ x:Side,dn Tryz.prog E fv [.agg #[vi x.cell,vi x.sign]] g s (fun r g' s'=>r=vb (p x)∧g=g'∧s=s')) :
  Ctr Tryz.prog E 123 #[v,fv] g s (fun r g' s'=>r=vi (tT p l)∧g=g'∧s=s'):=by
 obtain ⟨q,c,rfl⟩:=SlA.form hv;refine Ctr.of (args:=[.slice q l.length c,fv]) func123 I ntmps123 (bE I) ?_;refine rZ (aT I (sQ (sW I (lU (eN aN I) (lM I (tZ (bK ?_)))))));refine oP (ι:=Nat) (fun k=>[(0,.slice q l.length c),(1,fv),(7,vi l.length),(8,vi k)]) (fun _=>g) (fun _=>s)
  (fun k=>k≤l.length∧∀ j (hj:j<k) (hl:j<l.length),p l[j]=false) (fun k=>l.length - k) 0 sB rfl rfl ⟨Nat.zero_le _,fun j hj=>absurd hj oM⟩ ?_
 rintro k ⟨hk,hno⟩;try dsimp only at hk hno ⊢
 refine rZ (lU (lS I I) (tZ (sQ ?_)));refine iP I (fun hlt=>?_) (fun hlt=>?_)
 ·have hkl:k<l.length:=oM;have hb1:=SlA.based hv oM;have hgk:l[((k:Nat):Int).toNat]?=some l[k]:=gE hkl;have hhere:=fun h=>uu (p:=p) hkl (fun j hj=>hno j hj oM) h;have hsucc:p l[k]=false→∀ j (hj:j<k+1) (hl:j<l.length),p l[j]=false:=fun h j hj hl=>by
   by_cases e:j=k
   ·subst e; exact h
   ·exact hno j oM hl
  generalize l[k]=x at *;refine kP (tN (sQ (bK (sW I (aT I (sW I (lM I (lM I (lU (iA aN aG I I hb1 oM sL) (lK (eA eu aG I (SlA.rd hv) hgk) (lW (SO.callV I I (hc x)) ?_)))))))))));rintro _ _ _ ⟨rfl,rfl,rfl⟩;refine tZ ?_;refine iQ I (fun hp=>?_) (fun hp=>?_)
  ·refine sW I (aT I (rE (bR (tR (tR (bR (tR ?_)))))));exact ST.ret1 (.inl I) results123 I ⟨by rw[hhere hp],I,I⟩
  ·refine kP (bN (tN (rG (lU (aD I I oM) (lM I (nL ?_))))));exact gA (k+1) sB I I ⟨oM,hsucc hp⟩ oM
 ·refine xI (tX (tX (bX (tN (rZ (aT I (rE ?_)))))));exact ST.ret1 (.inl I) results123 I ⟨by rw[us fun j hj=>hno j oM hj],I,I⟩
abbrev edV (e:Ed)(sv pv:Value):Array Value:=#[vi e.kind,vi e.cell,vi e.dim,vi e.new,vi e.other,sv,pv]
theorem zu (E:World)(g:PH)(s:Own)(b3:Nat)(e:Ed)(sv pv:Value)(x:Side)(q:Nat)(hq:s[q]?=some (pt b3 (.cells (edV e sv pv) 35 (0,0)))) :
  dn Tryz.prog E (.func (.func 127) #[] #[pp b3 0]) [.agg #[vi x.cell,vi x.sign]] g s (fun r g' s'=>r=vb (decide (x.cell=e.cell))∧g=g'∧s=s'):=by
 refine dn.mk (args:=[_]) (cap:=[pp b3 0]) call127 ?_;refine Ctr.of (args:=[.agg #[vi x.cell,vi x.sign],pp b3 0]) func127 I ntmps127 (bE I) ?_;refine rZ (bW (bO I) fun b2=>?_);refine aT I (rZ (lU (fA cl I zT3 I) (lK (qL (v:=vi x.cell) iT3 I (cO 0 I I)) (lU (fA aK I zT3 I) (lK (qL (v:=vi e.cell) iT3 I (cO (q+1) hq I)) (lU (eQ I I) (aT I (rE (dR (s':=s) uR ?_)))))))));exact ST.ret1 (.inl I) results127 I ⟨I,I,I⟩
def br (A:List Cl)(e:Ed):List Side:=((aA A e.other).getD bA).sides
def kV (l:List Side)(i:Nat):Int:=(l[i]?.map Side.sign).getD 0
def er (A:List Cl)(e:Ed):List Tm:=((br A e).eraseIdx ((br A e).findIdx fun x=>decide (x.cell=e.cell))).map fun x=>(x.cell,-kV (br A e) ((br A e).findIdx fun x=>decide (x.cell=e.cell)) * x.sign)
def dH (A:List Cl)(e:Ed):Int:=if (aA A e.cell).isSome&&(aA A e.other).isSome then (if aj A e.cell=[e.other]∧¬ 0<(aj A e.other).length then 0 else 32) else 30
theorem vJ {l:List Side}{i k:Nat}(hk:k<l.length)(h:i≠k):(l.take (k+1)).eraseIdx i=(l.take k).eraseIdx i++[l[k]]:=by
 rw[tS hk];by_cases h2:i<k
 ·rw[List.eraseIdx_append_of_lt_length (by rw[List.length_take]; omega)]
 ·rw[List.eraseIdx_of_length_le (l:=l.take k) (by rw[List.length_take]; omega),List.eraseIdx_of_length_le (by rw[List.length_append,List.length_take,List.length_singleton]; omega)]
theorem vK {l:List Side}{k:Nat}(hk:k<l.length):(l.take (k+1)).eraseIdx k=(l.take k).eraseIdx k:=by
 rw[tS hk,List.eraseIdx_of_length_le (l:=l.take k) (by rw[List.length_take]; omega),List.eraseIdx_append_of_length_le (by rw[List.length_take]; omega)];rw[List.length_take,show k - min k l.length=0 by omega];simp
theorem qi (E:World)(g:PH)(s:Own)(bx mb ms:Nat)(u v:Value)(e:Ed)(A:List Cl)(rs:List Rc)(hu:ao g u A)(hf:be A)(hall:aC (aw g) A rs)(he:EdR g v e)
  (hsg:∀ x∈br A e,x.sign=1∨x.sign = -1) (hlen:(br A e).length≤64) (hmem:aj A e.cell=[e.other]→(br A e).any (fun x=>decide (x.cell=e.cell))=true) :
  Ctr Tryz.prog E 82 #[pp bx 0,v] g (edP bx u mb ms false::mp mb (rs.map ak)::mp ms []::s) (fun r g' s'=>Le g g'∧r=vi (dH A e) ∧
   (if dH A e=0 then ∃ v1 p n c,v1 = .slice p n c∧s'=edP bx u mb ms false::mp mb ((mB (mB rs e.cell) e.other).map ak)::mp ms (gG [(e.cell,v1,er A e),(e.other,.slice none 0 0,[])])::(di [(e.cell,v1,er A e),(e.other,.slice none 0 0,[])]++s) else ∃ h,s'=h++s)):=by
 obtain ⟨sv,pv,rfl,hsv,hpv⟩:=he;obtain ⟨p,c,rfl⟩:=hu.form;have hal:(aj A e.cell).length<1099511627776:=Nat.lt_of_le_of_lt (by unfold aj; rw[List.length_map]; exact List.length_filter_le _ _) (bJ hf).1;have hsvf:=SlA.form hsv;have hpvf:=SlA.form hpv;obtain ⟨sp,sc,rfl⟩:=hsvf;obtain ⟨qp,qc,rfl⟩:=hpvf;refine Ctr.of (args:=[pp bx 0,.agg #[vi e.kind,vi e.cell,vi e.dim,vi e.new,vi e.other,.slice sp e.sides.length sc,.slice qp e.pairs.length qc]]) func82 I ntmps82 (bE I) ?_;cases hc:(aA A e.cell).isSome with
 | false =>
  have hcode:dH A e=30:=by unfold dH; rw[hc]; rfl
  rw[hcode];refine rZ (bW (bO I) fun b3=>?_);refine aT I (sQ (sW I (lU (fA aK I zT3 I) (lK (qL (v:=vi e.cell) iT3 I (cO 0 I I)) (lW (cL call121 I (bM E g _ bx mb ms _ false e.cell _ (fun _ _ h=>h.1) A rs hall 1 2 I I)) ?_)))));rintro _ _ _ ⟨rfl,rfl,rfl⟩;refine lU (SU.eq (v':=vb true) (SU.not rfl) (congrArg vb (by rw[hc]; rfl))) ?_;refine lM I (lZ I I I (lZ I I I (lZ I I I (lZ I I I (lZ I I I (lU (wT I I) (tZ (SC.condT I (rZ (aT I (rE (tR ?_))))))))))));exact ST.ret1 (.inl I) results82 I ⟨Le.refl _,I,by rw[if_neg dC]; exact⟨[_,_,_,_],I⟩⟩
 | true =>
  cases ho:(aA A e.other).isSome with
  | false =>
   have hcode:dH A e=30:=by unfold dH; rw[hc,ho]; rfl
   rw[hcode];refine rZ (bW (bO I) fun b3=>?_);refine aT I (sQ (sW I (lU (fA aK I zT3 I) (lK (qL (v:=vi e.cell) iT3 I (cO 0 I I)) (lW (cL call121 I (bM E g _ bx mb ms _ false e.cell _ (fun _ _ h=>h.1) A rs hall 1 2 I I)) ?_)))));rintro _ _ _ ⟨rfl,rfl,rfl⟩;refine lU (SU.eq (v':=vb false) (SU.not rfl) (congrArg vb (by rw[hc]; rfl))) ?_;refine lM I (lY I I I (mV I) (lY I I I (fA aK I zT3 I) (SL.gq (gT I I I dC) (qL (v:=vi e.other) iT3 I (cO 0 I I)) dC (SL.go (gT I I I dC) (cL call121 I (bM E g _ bx mb ms _ false e.other _ (fun _ _ h=>h.1) A rs hall 1 2 I I)) dC ?_))));rintro _ _ _ ⟨rfl,rfl,rfl⟩;refine lY rfl rfl rfl (SU.eq (v':=vb true) (SU.not rfl) (congrArg vb (by rw[ho]; rfl))) ?_;refine lU (wF I I) (tZ (SC.condT I (rZ (aT I (rE (tR ?_))))));exact ST.ret1 (.inl I) results82 I ⟨Le.refl _,I,by rw[if_neg dC]; exact⟨[_,_,_,_],I⟩⟩
  | true =>
   refine rZ (bW (bO I) fun b3=>?_);refine aT I (sQ (sW I (lU (fA aK I zT3 I) (lK (qL (v:=vi e.cell) iT3 I (cO 0 I I)) (lW (cL call121 I (bM E g _ bx mb ms _ false e.cell _ (fun _ _ h=>h.1) A rs hall 1 2 I I)) ?_)))));rintro _ _ _ ⟨rfl,rfl,rfl⟩;refine lU (SU.eq (v':=vb false) (SU.not rfl) (congrArg vb (by rw[hc]; rfl))) ?_;refine lM I (lY I I I (mV I) (lY I I I (fA aK I zT3 I) (SL.gq (gT I I I dC) (qL (v:=vi e.other) iT3 I (cO 0 I I)) dC (SL.go (gT I I I dC) (cL call121 I (bM E g _ bx mb ms _ false e.other _ (fun _ _ h=>h.1) A rs hall 1 2 I I)) dC ?_))));rintro _ _ _ ⟨rfl,rfl,rfl⟩;refine lY rfl rfl rfl (SU.eq (v':=vb false) (SU.not rfl) (congrArg vb (by rw[ho]; rfl))) ?_;refine lU (wF I I) (tZ (SC.condF I (kP (tN (sQ ?_)))));refine SC.cut (ι:=PH) (fun _=>[(0,pp bx 0),(3,pp b3 0),(44,vb (!decide (aj A e.cell=[e.other])||decide (0<(aj A e.other).length)))]) (fun g'=>g') (fun _=>pt b3 (.cells (edV e (.slice sp e.sides.length sc) (.slice qp e.pairs.length qc)) 35 (0,0))::edP bx (.slice p A.length c) mb ms false::mp mb (rs.map ak)::mp ms []::s) (fun g'=>Le g g') ?_ ?_
   ·by_cases hab:aj A e.cell=[e.other]
    ·refine SC.drawX [] Tryz.mixed kR ?_;refine SX.u (i:=0) I kR (mV I) dC (SX.u (i:=1) I kR (nC I) dC (SX.u (i:=2) I kR (fA cX I ag I) dC (SX.q (i:=3) I kR (SQ.loadOne ar ag I (cO (v:=.slice p A.length c) 1 I I)) dC (SX.u (i:=4) I kR (fA aK I zT3 I) dC (SX.q (i:=5) I kR (qL (v:=vi e.cell) iT3 I (cO 0 I I)) dC (SX.u (i:=7) I kR (fA aK I zT3 I) dC (SX.q (i:=8) I kR (qL (v:=vi e.other) iT3 I (cO 0 I I)) dC ?_)))))))
     repeat' (first
      | (refine SB.o (i:=6) rfl (cL call122 rfl (fm E _ _ _ A e.cell (by exact hu.mono (by assumption)) hf)) dC (.inr (by rintro v28 g1 _ ⟨rfl,hle1,ha1⟩; exact⟨by exact Le.trans (by assumption) (by assumption),(by exact .refl _)⟩)) ?_; rintro v28 g1 _ ⟨rfl,hle1,ha1⟩; first | have hleB:=hle2.trans hle1 | skip)
      | (refine SB.o (i:=6) rfl (cL call122 rfl (fm E _ _ _ A e.cell (by exact hu) hf)) dC (.inr iW9) ?_; rintro v28 g1 _ ⟨rfl,hle1,ha1⟩; first | have hleB:=hle2.trans hle1 | skip)
      | (refine SB.o (i:=9) rfl (bS sty83 rfl rfl rfl (ae ⟨rfl,trivial⟩) dC) dC (.inr iW9) ?_; rintro _ _ _ ⟨b31,rfl,rfl,rfl⟩; refine SX.to (fun w hw=>At.litRow (e:=encInt) (l:=[e.other]) (n:=0) hw rfl rfl dC) ?_; refine SX.freezeRow fun g2 hle2 hs2=>?_; first | have hleB:=hle1.trans hle2 | skip)
      | (refine SB.o (i:=9) rfl (bS sty83 rfl rfl rfl (ae ⟨rfl,trivial⟩) dC) dC (.inr iW9) ?_; rintro _ _ _ ⟨b31,rfl,rfl,rfl⟩; refine SX.to (fun w hw=>At.litRow (e:=encInt) (l:=[e.other]) (n:=0) hw rfl rfl dC) ?_; refine SX.freezeRow fun g2 hle2 hs2=>?_; first | have hleB:=hle1.trans hle2 | skip)
      | (refine SB.o (i:=10) rfl (cL call104 rfl (jd E _ _ _ _ (aj A e.cell) [e.other] (by exact SlA.mono ha1 (by assumption)) (by exact hs2) hal)) dC (.inr iW9) ?_; rintro _ _ _ ⟨rfl,rfl,rfl⟩; refine SX.u (i:=11) rfl kD (SU.eq (v':=vb false) (SU.not rfl) (congrArg vb (by rw[decide_eq_true hab]; rfl))) dC ?_; refine SX.u (i:=12) rfl kD (mV rfl) dC ?_; refine SX.gu (i:=13) rfl kD (gT rfl rfl rfl dC) (mV rfl) dC ?_; refine SX.gu (i:=14) rfl kD (gT rfl rfl rfl dC) (nC rfl) dC ?_; refine SX.gu (i:=15) rfl kD (gT rfl rfl rfl dC) (fA cX rfl ag rfl) dC ?_; refine SX.gq (i:=16) rfl kD (gT rfl rfl rfl dC) (SQ.loadOne ar ag rfl (cO (v:=.slice p A.length c) 1 rfl rfl)) dC ?_; refine SX.gu (i:=17) rfl kD (gT rfl rfl rfl dC) (fA aK rfl zT3 rfl) dC ?_; refine SX.gq (i:=18) rfl kD (gT rfl rfl rfl dC) (qL (v:=vi e.other) iT3 rfl (cO 0 rfl rfl)) dC ?_)
      | (refine SB.o (i:=10) rfl (cL call104 rfl (jd E _ _ _ _ (aj A e.cell) [e.other] (by exact ha1) (by exact SlA.mono hs2 (by assumption)) hal)) dC (.inr iW9) ?_; rintro _ _ _ ⟨rfl,rfl,rfl⟩; refine SX.u (i:=11) rfl kD (SU.eq (v':=vb false) (SU.not rfl) (congrArg vb (by rw[decide_eq_true hab]; rfl))) dC ?_; refine SX.u (i:=12) rfl kD (mV rfl) dC ?_; refine SX.gu (i:=13) rfl kD (gT rfl rfl rfl dC) (mV rfl) dC ?_; refine SX.gu (i:=14) rfl kD (gT rfl rfl rfl dC) (nC rfl) dC ?_; refine SX.gu (i:=15) rfl kD (gT rfl rfl rfl dC) (fA cX rfl ag rfl) dC ?_; refine SX.gq (i:=16) rfl kD (gT rfl rfl rfl dC) (SQ.loadOne ar ag rfl (cO (v:=.slice p A.length c) 1 rfl rfl)) dC ?_; refine SX.gu (i:=17) rfl kD (gT rfl rfl rfl dC) (fA aK rfl zT3 rfl) dC ?_; refine SX.gq (i:=18) rfl kD (gT rfl rfl rfl dC) (qL (v:=vi e.other) iT3 rfl (cO 0 rfl rfl)) dC ?_)
      | (refine SB.go (i:=19) rfl (gT rfl rfl rfl dC) (cL call122 rfl (fm E _ _ _ A e.other (hu.mono hleB) hf)) dC (.inr (by rintro v41 g5 _ ⟨rfl,hle5,ha5⟩; exact⟨by exact Le.trans (by assumption) (by assumption),(by exact .refl _)⟩)) ?_; rintro v41 g5 _ ⟨rfl,hle5,ha5⟩; obtain ⟨q5,d5,rfl⟩:=SlA.form ha5; have hleF:=hleB.trans hle5; refine SX.gu (i:=20) rfl kD (gT rfl rfl rfl dC) (eN aI rfl) dC ?_; refine SX.gu (i:=21) rfl kD (gT rfl rfl rfl dC) (SU.eq (v':=vb (decide (0<(aj A e.other).length))) (gR rfl rfl) (congrArg vb (by simp only[gt_iff_lt,Int.natCast_pos]))) dC ?_; refine SX.u (i:=22) rfl kD (wF rfl rfl) dC ?_)
      | refine SX.br2 6 9 kD ?_ ?_
      | refine SX.br1 9 kD ?_
      | refine SX.br1 10 kD ?_
      | refine SX.br1 19 kD ?_
      | refine SX.br1 6 kD ?_
      | (refine SX.nil kD ?_; exact ST.mid _ ⟨rfl,rfl,(by rw[decide_eq_true hab]; rfl),trivial⟩ rfl rfl hleF))
    ·refine SC.drawX [] Tryz.mixed kR ?_;refine SX.u (i:=0) I kR (mV I) dC (SX.u (i:=1) I kR (nC I) dC (SX.u (i:=2) I kR (fA cX I ag I) dC (SX.q (i:=3) I kR (SQ.loadOne ar ag I (cO (v:=.slice p A.length c) 1 I I)) dC (SX.u (i:=4) I kR (fA aK I zT3 I) dC (SX.q (i:=5) I kR (qL (v:=vi e.cell) iT3 I (cO 0 I I)) dC (SX.u (i:=7) I kR (fA aK I zT3 I) dC (SX.q (i:=8) I kR (qL (v:=vi e.other) iT3 I (cO 0 I I)) dC ?_)))))))
     repeat' (first
      | (refine SB.o (i:=6) rfl (cL call122 rfl (fm E _ _ _ A e.cell (by exact hu.mono (by assumption)) hf)) dC (.inr (by rintro v28 g1 _ ⟨rfl,hle1,ha1⟩; exact⟨by exact Le.trans (by assumption) (by assumption),(by exact .refl _)⟩)) ?_; rintro v28 g1 _ ⟨rfl,hle1,ha1⟩; first | have hleB:=hle2.trans hle1 | skip)
      | (refine SB.o (i:=6) rfl (cL call122 rfl (fm E _ _ _ A e.cell (by exact hu) hf)) dC (.inr iW9) ?_; rintro v28 g1 _ ⟨rfl,hle1,ha1⟩; first | have hleB:=hle2.trans hle1 | skip)
      | (refine SB.o (i:=9) rfl (bS sty83 rfl rfl rfl (ae ⟨rfl,trivial⟩) dC) dC (.inr iW9) ?_; rintro _ _ _ ⟨b31,rfl,rfl,rfl⟩; refine SX.to (fun w hw=>At.litRow (e:=encInt) (l:=[e.other]) (n:=0) hw rfl rfl dC) ?_; refine SX.freezeRow fun g2 hle2 hs2=>?_; first | have hleB:=hle1.trans hle2 | skip)
      | (refine SB.o (i:=9) rfl (bS sty83 rfl rfl rfl (ae ⟨rfl,trivial⟩) dC) dC (.inr iW9) ?_; rintro _ _ _ ⟨b31,rfl,rfl,rfl⟩; refine SX.to (fun w hw=>At.litRow (e:=encInt) (l:=[e.other]) (n:=0) hw rfl rfl dC) ?_; refine SX.freezeRow fun g2 hle2 hs2=>?_; first | have hleB:=hle1.trans hle2 | skip)
      | (refine SB.o (i:=10) rfl (cL call104 rfl (jd E _ _ _ _ (aj A e.cell) [e.other] (by exact SlA.mono ha1 (by assumption)) (by exact hs2) hal)) dC (.inr iW9) ?_; rintro _ _ _ ⟨rfl,rfl,rfl⟩; refine SX.u (i:=11) rfl kD (SU.eq (v':=vb true) (SU.not rfl) (congrArg vb (by rw[decide_eq_false hab]; rfl))) dC ?_; refine SX.u (i:=12) rfl kD (mV rfl) dC ?_; refine SX.off (i:=13) rfl kD (gZ rfl rfl rfl dC) dC ?_; refine SX.off (i:=14) rfl kD (gZ rfl rfl rfl dC) dC ?_; refine SX.off (i:=15) rfl kD (gZ rfl rfl rfl dC) dC ?_; refine SX.off (i:=16) rfl kD (gZ rfl rfl rfl dC) dC ?_; refine SX.off (i:=17) rfl kD (gZ rfl rfl rfl dC) dC ?_; refine SX.off (i:=18) rfl kD (gZ rfl rfl rfl dC) dC ?_)
      | (refine SB.o (i:=10) rfl (cL call104 rfl (jd E _ _ _ _ (aj A e.cell) [e.other] (by exact ha1) (by exact SlA.mono hs2 (by assumption)) hal)) dC (.inr iW9) ?_; rintro _ _ _ ⟨rfl,rfl,rfl⟩; refine SX.u (i:=11) rfl kD (SU.eq (v':=vb true) (SU.not rfl) (congrArg vb (by rw[decide_eq_false hab]; rfl))) dC ?_; refine SX.u (i:=12) rfl kD (mV rfl) dC ?_; refine SX.off (i:=13) rfl kD (gZ rfl rfl rfl dC) dC ?_; refine SX.off (i:=14) rfl kD (gZ rfl rfl rfl dC) dC ?_; refine SX.off (i:=15) rfl kD (gZ rfl rfl rfl dC) dC ?_; refine SX.off (i:=16) rfl kD (gZ rfl rfl rfl dC) dC ?_; refine SX.off (i:=17) rfl kD (gZ rfl rfl rfl dC) dC ?_; refine SX.off (i:=18) rfl kD (gZ rfl rfl rfl dC) dC ?_)
      | (refine SB.offo (i:=19) rfl (gZ rfl rfl rfl dC) dC ⟨by assumption,(by exact .refl _)⟩ ?_; refine SX.off (i:=20) rfl kD (gZ rfl rfl rfl dC) dC ?_; refine SX.off (i:=21) rfl kD (gZ rfl rfl rfl dC) dC ?_; refine SX.u (i:=22) rfl kD (wT rfl rfl) dC ?_)
      | refine SX.br2 6 9 kD ?_ ?_
      | refine SX.br1 9 kD ?_
      | refine SX.br1 10 kD ?_
      | refine SX.br1 19 kD ?_
      | refine SX.br1 6 kD ?_
      | (refine SX.nil kD ?_; exact ST.mid _ ⟨rfl,rfl,(by rw[decide_eq_false hab]; rfl),trivial⟩ rfl rfl hleB))
   rintro g1 hle1;try dsimp only at hle1 ⊢
   refine iQ I (fun hcond=>?_) (fun hcond=>?_)
   ·have hcode:dH A e=32:=by
     unfold dH;rw[hc,ho,Bool.and_true,if_pos rfl,if_neg];rintro ⟨h1,h2⟩;rw[decide_eq_true h1,decide_eq_false h2] at hcond;cases hcond
    rw[hcode];refine rZ (aT I (rE (tR ?_)));exact ST.ret1 (.inl I) results82 I ⟨hle1,I,by rw[if_neg dC]; exact⟨[_,_,_,_],I⟩⟩
   ·rw[Bool.or_eq_false_iff,Bool.not_eq_false',decide_eq_true_iff,decide_eq_false_iff_not] at hcond;obtain ⟨hab,hno⟩:=hcond;have hcode:dH A e=0:=by
     unfold dH;rw[hc,ho,Bool.and_true,if_pos rfl,if_pos ⟨hab,hno⟩]
    have hany:=hmem hab;have hne:¬ e.other=e.cell:=fun h=>hno (by rw[h,hab]; simp);rw[hcode];have hall1:=hall.mono fun _ _=>aw.mono hle1
    rcases fl (fun _ _ h=>h.1) hall1 e.other with ⟨h1,_⟩ | ⟨cy,ry,h1,h2,h3⟩
    ·unfold aA at ho;rw[h1] at ho;cases ho
    have hcs:br A e=cy.sides:=by unfold br aA; rw[h1]; rfl
    have hch:er A e=(cy.sides.eraseIdx (cy.sides.findIdx fun x=>decide (x.cell=e.cell))).map fun x=>(x.cell,-kV cy.sides (cy.sides.findIdx fun x=>decide (x.cell=e.cell)) * x.sign):=by unfold er; rw[hcs]
    rw[hch];rw[hcs] at hsg hlen hany;obtain ⟨yi,yd,yp,yn,yc⟩:=ry;obtain ⟨-,-,hys⟩:=h3;dsimp only at hys;have hyn:yn=cy.sides.length:=Sl.slen hys;subst hyn;have hidx:tT (fun x=>decide (x.cell=e.cell)) cy.sides=((cy.sides.findIdx fun x=>decide (x.cell=e.cell):Nat):Int):=if_pos hany;have hil:(cy.sides.findIdx fun x=>decide (x.cell=e.cell))<cy.sides.length:=by
     obtain ⟨x,hx,hx2⟩:=List.any_eq_true.1 hany;exact List.findIdx_lt_length_of_exists ⟨x,hx,hx2⟩
    generalize hi0:(cy.sides.findIdx fun x=>decide (x.cell=e.cell))=i0 at *;have hgi:cy.sides[((i0:Nat):Int).toNat]?=some cy.sides[i0]:=gE hil;have hcsg:kV cy.sides i0=cy.sides[i0].sign:=by unfold kV; rw[gE hil]; rfl
    have hs1:=hsg _ (gM hil);rw[hcsg];generalize cy.sides[i0]=z at *;obtain ⟨zc,zs⟩:=z;dsimp only at hs1 hcsg ⊢;have hneg:IntKind.i64.wrap (0 - zs) = -zs:=by rcases hs1 with h | h <;> subst h <;> decide
    have hby:=SlA.based hys oM;refine kP (tN (sQ ?_));refine dW [] [(0,2),(1,2),(2,2),(3,1),(4,2),(5,1),(6,1),(7,2),(8,2)] Tryz.mixed kR ?_;refine pU rfl (mV rfl) (pU rfl (nC rfl) (pU rfl (fA cX rfl dX rfl) (pK rfl (qL (v:=.map (some mb)) dY rfl (cO 1 rfl rfl)) (pU rfl (fA aK rfl zT3 rfl) (pK rfl (qL (v:=vi e.other) iT3 rfl (cO 0 rfl rfl)) (pK rfl (SQ.eq (v':=.agg #[vi yi,vi yd,.slice yp cy.sides.length yc]) (SQ.lookup mty104 rfl rfl (cw.own 2 rfl)) (by rw[h2]; rfl)) ?_))))));refine pU I (SU.field aq I bw I I) (pU I (aS I) (pN (tN (sW I (lU (SU.mkFunc I) (lW (cL call123 I (qR E g1 _ _ _ cy.sides (fun x=>decide (x.cell=e.cell)) hys oM I (fun x=>zu E g1 _ b3 e _ _ x 0 I))) ?_))))));rintro _ _ _ ⟨rfl,rfl,rfl⟩;rw[hidx];refine aT I (rZ (aT I (sQ (sW I (lU (eN aN I) (lM I (tZ (bK (SC.nilRow 77 3 ?_)))))))));refine oP (ι:=Nat×PH×Value) (fun i=>[(0,pp bx 0),(3,pp b3 0),(5,.slice yp cy.sides.length yc),(6,vi i0),(7,i.2.2),(56,.slice yp cy.sides.length yc),(57,vi cy.sides.length),(58,vi i.1)]) (fun i=>i.2.1)
     (fun i=>rowA bV 77 i.2.2 (((cy.sides.take i.1).eraseIdx i0).map fun x=>(x.cell,-zs * x.sign))::pt b3 (.cells (edV e (.slice sp e.sides.length sc) (.slice qp e.pairs.length qc)) 35 (0,0))::edP bx (.slice p A.length c) mb ms false::mp mb (rs.map ak)::mp ms []::s)
     (fun i=>i.1≤cy.sides.length∧Le g1 i.2.1) (fun i=>cy.sides.length - i.1) (0,g1,.slice none 0 0) sB rfl rfl ⟨Nat.zero_le _,Le.refl _⟩ ?_
    rintro ⟨k,g2,w⟩ ⟨hk,hle2⟩;dsimp only at hk hle2 ⊢;refine rZ (lU (lS I I) (tZ (sQ ?_)));refine iP I (fun hlt=>?_) (fun hlt=>?_)
    ·have hkl:k<cy.sides.length:=oM;have hys2:=SlA.mono hys hle2;have hgk:cy.sides[((k:Nat):Int).toNat]?=some cy.sides[k]:=gE hkl;have hsk:=hsg _ (gM hkl);have hes:i0≠k→((cy.sides.take (k+1)).eraseIdx i0).map (fun x=>(x.cell,-zs * x.sign))=((cy.sides.take k).eraseIdx i0).map (fun x=>(x.cell,-zs * x.sign))++[(cy.sides[k].cell,-zs * cy.sides[k].sign)]:=fun h=>by rw[vJ hkl h,List.map_append]; rfl
     have hee:i0=k→((cy.sides.take (k+1)).eraseIdx i0).map (fun x=>(x.cell,-zs * x.sign))=((cy.sides.take k).eraseIdx i0).map (fun x=>(x.cell,-zs * x.sign)):=fun h=>by subst h; rw[vK hkl]
     have hel:(((cy.sides.take k).eraseIdx i0).map (fun x=>(x.cell,-zs * x.sign))).length≤64:=by
      rw[List.length_map];have:=List.length_eraseIdx_le (cy.sides.take k) i0;rw[List.length_take] at this;omega
     generalize cy.sides[k]=y at *;obtain ⟨yc1,ys1⟩:=y;dsimp only at hsk hes;have hpr : -9223372036854775808 ≤ -zs * ys1 ∧ -zs * ys1≤9223372036854775807:=by rcases hs1 with h | h <;> rcases hsk with h' | h' <;> subst h <;> subst h' <;> decide
     refine kP (tN (sQ (bK (sW I (lU (iA aN aG I I hby oM sL) ?_)))));refine lK (eA eu aG I (SlA.rd hys2) hgk) (bW (aL zeroValue55) fun b9=>?_);refine lA I (oZ (sK 0 aG I I I I I sB) ?_);refine tZ (sW I (lM I (lU (nQ I I) (tZ ?_))));refine iP I (fun hki=>?_) (fun hki=>?_)
     ·have hes':=hes oM;refine dW [14] [(0,2),(1,2),(2,1),(3,2),(4,2),(5,2),(6,2),(7,1),(8,2),(9,2),(10,1),(11,2),(12,0),(13,0),(14,0),(15,2)] Tryz.mixed kR ?_;refine pU I (mV I) (pU I (fA cl I zT3 I) (pK I (qL (v:=vi yc1) iT3 I (cO 0 I I)) (pU I (mV I) (pU I (mV I) (pU I (iA aN aG I I hby oM sL) ?_)))));refine pU I (fC cl I zT3 I hby) (pK I (aZ (e:=encSide) (o:=1) (u:=vi zs) iT3 I (SlA.rd hys2) hgi I) (pU I (SU.eq (v':=vi (-zs)) (SU.neg I) (congrArg vi hneg)) (pU I (fA cl I zT3 I) (pK I (qL (v:=vi ys1) iT3 I (cO 0 I I)) (pU I (SU.mul I I hpr) (SP.o I (cL call87 I (jb E g2 _ yc1 (-zs * ys1) hpr.1 oM)) dC (.inr iW9) ?_))))));rintro _ g3 _ ⟨rfl,rfl,hle3⟩;refine SP.o I (bS sty72 I I I (ae ⟨I,trivial⟩) dC) dC (.inr iW9) ?_;rintro _ _ _ ⟨b79,rfl,rfl,rfl⟩;refine SP.o I (aP (e:=bV) 1 (yc1,-zs * ys1) sty72 I I I I I oM oM) dC (.inl dC) ?_;rintro w' _ _ ⟨rfl,rfl⟩;refine pU I (aS I) (pN (bN (tN (rG (lU (aD I I oM) (lM I (nL (dR (.cons _ (.refl _)) ?_))))))));exact gA (k+1,g3,w') sB rfl (by dsimp only; rw[hes']; rfl) ⟨by dsimp only; omega,hle2.trans hle3⟩ (by dsimp only; omega)
     ·have hee':=hee oM;refine kP (bN (tN (rG (lU (aD I I oM) (lM I (nL (dR (.cons _ (.refl _)) ?_)))))));exact gA (k+1,g2,w) sB I (by dsimp only; rw[hee']) ⟨by dsimp only; omega,hle2⟩ (by dsimp only; omega)
    ·have hkk:cy.sides.take k=cy.sides:=tL oM;rw[hkk];have hput:eE (eE [] e.cell w) e.other (.slice none 0 0)=gG [(e.cell,w,(cy.sides.eraseIdx i0).map fun x=>(x.cell,-zs * x.sign)),(e.other,.slice none 0 0,[])]:=by
      show eE [(e.cell,w)] e.other _=_;unfold eE;rw[if_neg hne];rfl
     refine xI (tX (tX (bX (tN (sQ ?_)))));refine SC.drawT 3 [] [(0,2),(1,2),(2,2),(3,1),(4,2),(5,1),(6,2),(7,2),(8,2),(9,1),(10,2),(11,1),(12,2),(13,0),(14,2),(15,0),(16,0),(17,2),(18,0)] Tryz.mixed kR ?_;refine pU rfl (mV rfl) (pU rfl (nC rfl) (pU rfl (fA cX rfl sizeOf127 rfl) (pK rfl (qL (v:=.map (some ms)) isAgg127 rfl (cO 2 rfl rfl)) (pU rfl (fA aK rfl zT3 rfl) (pK rfl (qL (v:=vi e.cell) iT3 rfl (cO 1 rfl rfl)) (pU rfl (mV rfl) (pU rfl (nC rfl) (pU rfl (fA cX rfl sizeOf127 rfl) (pK rfl (qL (v:=.map (some ms)) isAgg127 rfl (cO 2 rfl rfl)) (pU rfl (fA aK rfl zT3 rfl) (pK rfl (qL (v:=vi e.other) iT3 rfl (cO 1 rfl rfl)) (pU rfl (mV rfl) (SP.o rfl (SO.mapEntry 4 mty127 rfl rfl rfl) dC (.inr (by rintro _ _ _ ⟨st1,j1,l1,rfl,rfl,rfl,hk1,hp1⟩; exact⟨by exact Le.refl _,(by exact fI _ _ _ _)⟩)) ?_)))))))))))));rintro _ _ _ ⟨st1,j1,l1,rfl,rfl,rfl,hk1,hp1⟩;refine pU rfl (xT rfl rfl) (SP.on rfl (SO.entryStore 4 rfl rfl rfl rfl hk1) (.inr (by rintro _ _ _ ⟨rfl,rfl⟩; exact⟨by exact Le.refl _,(by exact .cons_cons _ (.cons_cons _ (.cons_cons _ (List.nil_sublist _))))⟩)) ?_);rintro _ _ _ ⟨rfl,rfl⟩;rw[← hp1];refine SP.o rfl (SO.mapEntry 4 mty127 rfl rfl rfl) dC (.inr (by rintro _ _ _ ⟨st2,j2,l2,rfl,rfl,rfl,hk2,hp2⟩; exact⟨by exact Le.refl _,(by exact .cons_cons _ (.cons_cons _ (.cons_cons _ (List.nil_sublist _))))⟩)) ?_;rintro _ _ _ ⟨st2,j2,l2,rfl,rfl,rfl,hk2,hp2⟩;refine pU rfl (xT rfl rfl) (SP.on rfl (SO.entryStore 4 rfl rfl rfl rfl hk2) (.inr (by rintro _ _ _ ⟨rfl,rfl⟩; exact⟨by exact Le.refl _,(by exact .cons_cons _ (.cons_cons _ (.cons_cons _ (List.nil_sublist _))))⟩)) ?_);rintro _ _ _ ⟨rfl,rfl⟩;rw[← hp2,hput];refine pN (tN (sQ ?_));refine dW [6] [(0,2),(1,2),(2,2),(3,1),(4,2),(5,1),(6,0)] Tryz.mixed kR ?_;refine pU I (mV I) (pU I (nC I) (pU I (fA cX I dX I) (pK I (qL (v:=.map (some mb)) dY I (cO 2 I I)) (pU I (fA aK I zT3 I) (pK I (qL (v:=vi e.cell) iT3 I (cO 1 I I)) (SP.on I (SO.delete 3 mty104 I I I) (.inl dC) ?_))))));rintro _ _ _ ⟨rfl,rfl⟩;refine pN (tN (sQ ?_));refine dW [6] [(0,2),(1,2),(2,2),(3,1),(4,2),(5,1),(6,0)] Tryz.mixed kR ?_;refine pU I (mV I) (pU I (nC I) (pU I (fA cX I dX I) (pK I (qL (v:=.map (some mb)) dY I (cO 2 I I)) (pU I (fA aK I zT3 I) (pK I (qL (v:=vi e.other) iT3 I (cO 1 I I)) (SP.on I (SO.delete 3 mty104 I I I) (.inl dC) ?_))))));rintro _ _ _ ⟨rfl,rfl⟩;rw[mE,mE];refine pN (tN (rZ (aT rfl (rE (ST.facts fun ⟨w0,hw0⟩=>?_)))));obtain ⟨wp,wc,hwf⟩:=ah (e:=bV) (l:=(cy.sides.eraseIdx i0).map fun x=>(x.cell,-zs * x.sign)) (i:=0) hw0 rfl;clear hw0 w0;refine ST.nilRow 77 3 ?_;refine ST.to (g':=g2) (s':=edP bx (.slice p A.length c) mb ms false::mp mb ((mB (mB rs e.cell) e.other).map ak)::mp ms (gG [(e.cell,w,(cy.sides.eraseIdx i0).map fun x=>(x.cell,-zs * x.sign)),(e.other,.slice none 0 0,[])])::(di [(e.cell,w,(cy.sides.eraseIdx i0).map fun x=>(x.cell,-zs * x.sign)),(e.other,.slice none 0 0,[])]++s)) (fun w1 hw1=>?_) ?_
     ·have h5:=hw1.sublist (s':=rowA bV 77 (.slice none 0 0) []::rowA bV 77 w ((cy.sides.eraseIdx i0).map fun x=>(x.cell,-zs * x.sign))::([edP bx (.slice p A.length c) mb ms false,mp mb ((mB (mB rs e.cell) e.other).map ak),mp ms (gG [(e.cell,w,(cy.sides.eraseIdx i0).map fun x=>(x.cell,-zs * x.sign)),(e.other,.slice none 0 0,[])])]++s)) (.cons_cons _ (.cons_cons _ (.cons _ (.refl _))));refine h5.perm ((List.Perm.swap _ _ _).trans ?_);have h6:∀ (x y:Ent) (L:Own),(x::y::(L++s)).Perm (L++(x::y::s)):=fun x y L=>(List.perm_append_comm (l₁:=[x,y]) (l₂:=L)).append_right s |>.trans (by simp);exact h6 _ _ _
     exact ST.ret1 (.inl I) results82 I ⟨hle1.trans hle2,I,by rw[if_pos I]; exact⟨w,wp,_,wc,hwf,I⟩⟩
set_option maxHeartbeats 4000000
theorem SU.min2 {P:Program}{N:Nat}{f:Fr}{dst:Option Tmp}{ty:TypeId}{pos:String}{af:Array Edge}{gd:Option (Nat×Bool)}{x y:Operand}{T U:TypeId}{m n:Int}(hx:ev f x=some (vi m))(hy:ev f y=some (vi n)) :
  SU P N ⟨dst,.call ⟨.builtin .min,#[x,y],#[T,U]⟩,ty,pos,af,gd⟩ f (vi (min m n)):=fun a w ha=>by
 have h:=run_min_int2 (P:=P) (w:=w) #[T,U] ty .i64 .i64 m n;have h2:(if n<m then n else m)=min m n:=by split <;> omega
 rw[h2] at h;simp[execOp,resolve,invoke,builtin,ha.ev hx,ha.ev hy,h]
theorem o9 (id:Int):∀ {B:List Cl} {rs:List Rc},aC jJ B rs→(aA B id=none∧dK (rs.map ak) id=none)∨∃ (m:Nat) (c:Cl) (r:Rc),aA B id=some c∧c.id=id∧dK (rs.map ak) id=some (rcv r)∧jJ c r∧(f5 B rs)[m]?=some (yF c r) ∧
  ∀ c' r',c'.id=id→r'.id=id→jJ c' r'→(f5 B rs).set m (yF c' r')=f5 (dZ B c') (ij rs r')∧aC jJ (dZ B c') (ij rs r')
 | [],[],_=>.inl ⟨rfl,rfl⟩
 | c::B,r::rs,⟨h1,h2⟩=>by
  have hm:(r::rs).map ak=(r.id,rcv r)::rs.map ak:=rfl;rw[hm,cG];unfold aA;rw[List.find?_cons];by_cases e:c.id=id
  ·rw[decide_eq_true e,if_pos (by rw[h1.1,e])];refine .inr ⟨0,c,r,I,e,I,h1,I,fun c' r' e1 e2 h3=>?_⟩;have e3:dZ (c::B) c'=c'::B:=by simp[dZ,e,e1]
   have e4:ij (r::rs) r'=r'::rs:=by simp[ij,h1.1,e,e2]
   rw[e3,e4];exact⟨I,h3,h2⟩
  ·rw[decide_eq_false e,if_neg (by rw[h1.1]; exact fun h=>e h.symm)]
   rcases o9 id h2 with ⟨h3,h4⟩ | ⟨m,c0,r0,h3,h4,h5,h6,h7,h8⟩
   ·exact .inl ⟨h3,h4⟩
   ·refine .inr ⟨m+1,c0,r0,h3,h4,h5,h6,h7,fun c' r' e1 e2 h9=>?_⟩;have e':¬ id=c.id:=fun h=>e h.symm;have e3:dZ (c::B) c'=c::dZ B c':=by simp[dZ,e',e1]
    have e4:ij (r::rs) r'=r::ij rs r':=by simp[ij,h1.1,e',e2]
    rw[e3,e4];obtain ⟨h10,h11⟩:=h8 c' r' e1 e2 h9;exact⟨by show yF c r::(f5 B rs).set m _=_; rw[h10]; rfl,h1,h11⟩
 | [],_::_,h=>h.elim
 | _::_,[],h=>h.elim
def Al (l:List Side)(cell:Int):Int:=((l.find? fun x=>decide (x.cell=cell)).map Side.sign).getD 0
def eG (e:Ed)(y:Cl):Cl:=⟨y.id,y.dim,y.sides++[⟨e.other,Al y.sides e.cell⟩]⟩
def aW (A:List Cl)(e:Ed)(ids:List Int):List Cl:=A.map fun y=>if y.id∈ids then eG e y else y
theorem ng {e:Ed}{ids:List Int}{id:Int}(hid:id ∉ ids){y:Cl}:∀ {A:List Cl},(A.map Cl.id).Nodup→aA A id=some y→dZ (aW A e ids) (eG e y)=aW A e (ids++[id])
 | [],_,hy=>by cases hy
 | c::A,hn,hy=>by
  rw[List.map_cons,List.nodup_cons] at hn;unfold aA at hy;rw[List.find?_cons] at hy;have hs:∀ i,aW (c::A) e i=(if c.id∈i then eG e c else c)::aW A e i:=fun _=>rfl;rw[hs,hs];by_cases h:c.id=id
  ·rw[decide_eq_true h] at hy;injection hy with hy
   subst hy;subst h;rw[if_neg hid,if_pos (by simp)];have e1:dZ (c::aW A e ids) (eG e c)=eG e c::aW A e ids:=by simp[dZ,eG]
   rw[e1];congr 1;unfold aW;refine List.map_congr_left fun x hx=>?_;have hne:x.id≠c.id:=fun he=>hn.1 (by rw[← he]; exact List.mem_map.2 ⟨x,hx,rfl⟩);by_cases h1:x.id∈ids
   ·rw[if_pos h1,if_pos (by simp[h1])]
   ·rw[if_neg h1,if_neg (by simp[h1,hne])]
  ·rw[decide_eq_false h] at hy;have hyid:y.id=id:=by simpa using List.find?_some hy
   have ih:=ng (e:=e) hid hn.2 hy;have h1:(if c.id∈ids then eG e c else c).id=c.id:=by split <;> rfl
   have e1:∀ (d:Cl) (L:List Cl),d.id=c.id→dZ (d::L) (eG e y)=d::dZ L (eG e y):=fun d L hd=>by
    have:¬ (eG e y).id=d.id:=by rw[hd]; show ¬ y.id=c.id; rw[hyid]; exact fun h'=>h h'.symm
    simp[dZ,this]
   rw[e1 _ _ h1,ih];congr 1;by_cases h2:c.id∈ids
   ·rw[if_pos h2,if_pos (by simp[h2])]
   ·rw[if_neg h2,if_neg (by simp[h2,h])]
theorem lH {A:List Cl}{e:Ed}{ids:List Int}{id:Int}(hid:id ∉ ids):aA (aW A e ids) id=aA A id:=by
 unfold aA aW;rw[List.find?_map];have h1:((fun c:Cl=>decide (c.id=id)) ∘ fun y=>if y.id∈ids then eG e y else y)=fun c:Cl=>decide (c.id=id):=by
  funext c;simp only[Function.comp];split <;> rfl
 rw[h1];cases h:A.find? fun c=>decide (c.id=id) with
 | none=>rfl
 | some c =>
  have:c.id=id:=by simpa using List.find?_some h
  rw[Option.map_some,if_neg (by rw[this]; exact hid)]
def iz (l:List Side)(b:Bool):Side:=(l.find? fun x=>decide (0<x.sign) == b).getD ⟨0,0⟩
def a6 (A:List Cl)(e:Ed):Int:=match aA A e.cell with
 | none=>30
 | some c=>if c.dim≠1 then 21 else if min e.new e.other<1∨e.new=e.other then 1 else if (aA A e.new).isSome||(aA A e.other).isSome then 54 else 0
def eR (A:List Cl)(e:Ed):List Cl :=
 dZ (dZ (dZ (aW A e (aj A e.cell)) ⟨e.new,0,[]⟩) ⟨e.other,1,[⟨e.new,-1⟩,iz ((aA A e.cell).getD bA).sides true]⟩) ⟨e.cell,1,[iz ((aA A e.cell).getD bA).sides false,⟨e.new,1⟩]⟩
theorem A7 (E:World)(g:PH)(s:Own)(q:Option Addr)(c:Nat)(fv:Value)(l:List Side)(p:Side→Bool)(hv:Rd g s (.slice q l.length c) (l.flatMap encSide.enc))(hb:0<l.length→based (.slice q l.length c)=true)(hl:l.length<1099511627776)(hfv:fv.cells = #[fv])(hc:∀ x:Side,dn Tryz.prog E fv [.agg #[vi x.cell,vi x.sign]] g s (fun r g' s'=>r=vb (p x)∧g=g'∧s=s')) :
  Ctr Tryz.prog E 123 #[.slice q l.length c,fv] g s (fun r g' s'=>r=vi (tT p l)∧g=g'∧s=s'):=by
 refine Ctr.of (args:=[.slice q l.length c,fv]) func123 I ntmps123 (bE I) ?_;refine rZ (aT I (sQ (sW I (lU (eN aN I) (lM I (tZ (bK ?_)))))));refine oP (ι:=Nat) (fun k=>[(0,.slice q l.length c),(1,fv),(7,vi l.length),(8,vi k)]) (fun _=>g) (fun _=>s)
  (fun k=>k≤l.length∧∀ j (hj:j<k) (hl:j<l.length),p l[j]=false) (fun k=>l.length - k) 0 sB rfl rfl ⟨Nat.zero_le _,fun j hj=>absurd hj oM⟩ ?_
 rintro k ⟨hk,hno⟩;try dsimp only at hk hno ⊢
 refine rZ (lU (lS I I) (tZ (sQ ?_)));refine iP I (fun hlt=>?_) (fun hlt=>?_)
 ·have hkl:k<l.length:=oM;have hb1:=hb oM;have hgk:l[((k:Nat):Int).toNat]?=some l[k]:=gE hkl;have hhere:=fun h=>uu (p:=p) hkl (fun j hj=>hno j hj oM) h;have hsucc:p l[k]=false→∀ j (hj:j<k+1) (hl:j<l.length),p l[j]=false:=fun h j hj hl=>by
   by_cases e:j=k
   ·subst e; exact h
   ·exact hno j oM hl
  generalize l[k]=x at *;refine kP (tN (sQ (bK (sW I (aT I (sW I (lM I (lM I (lU (iA aN aG I I hb1 oM sL) (lK (eA eu aG I hv hgk) (lW (SO.callV I I (hc x)) ?_)))))))))));rintro _ _ _ ⟨rfl,rfl,rfl⟩;refine tZ ?_;refine iQ I (fun hp=>?_) (fun hp=>?_)
  ·refine sW I (aT I (rE (bR (tR (tR (bR (tR ?_)))))));exact ST.ret1 (.inl I) results123 I ⟨by rw[hhere hp],I,I⟩
  ·refine kP (bN (tN (rG (lU (aD I I oM) (lM I (nL ?_))))));exact gA (k+1) sB I I ⟨oM,hsucc hp⟩ oM
 ·refine xI (tX (tX (bX (tN (rZ (aT I (rE ?_)))))));exact ST.ret1 (.inl I) results123 I ⟨by rw[us fun j hj=>hno j oM hj],I,I⟩
theorem zr (E:World)(g:PH)(s:Own)(b3:Nat)(e:Ed)(sv pv:Value)(x:Side)(q:Nat)(hq:s[q]?=some (pt b3 (.cells (edV e sv pv) 35 (0,0)))) :
  dn Tryz.prog E (.func (.func 124) #[] #[pp b3 0]) [.agg #[vi x.cell,vi x.sign]] g s (fun r g' s'=>r=vb (decide (x.cell=e.cell))∧g=g'∧s=s'):=by
 refine dn.mk (args:=[_]) (cap:=[pp b3 0]) call124 ?_;refine Ctr.of (args:=[.agg #[vi x.cell,vi x.sign],pp b3 0]) func124 I ntmps124 (bE I) ?_;refine rZ (bW (bO I) fun b2=>?_);refine aT I (rZ (lU (fA cl I zT3 I) (lK (qL (v:=vi x.cell) iT3 I (cO 0 I I)) (lU (fA aK I zT3 I) (lK (qL (v:=vi e.cell) iT3 I (cO (q+1) hq I)) (lU (eQ I I) (aT I (rE (dR (s':=s) uR ?_)))))))));exact ST.ret1 (.inl I) results124 I ⟨I,I,I⟩
theorem A5 (E:World)(g:PH)(s:Own)(x:Side) :
  dn Tryz.prog E (.func (.func 125) #[] #[]) [.agg #[vi x.cell,vi x.sign]] g s (fun r g' s'=>r=vb (decide (0<x.sign))∧g=g'∧s=s'):=by
 refine dn.mk (args:=[_]) (cap:=[]) call125 ?_;refine Ctr.of (args:=[.agg #[vi x.cell,vi x.sign]]) func125 I ntmps125 (bE I) ?_;refine rZ (bW (bO I) fun b1=>?_);refine aT I (rZ (lU (fA cl I zT3 I) (lK (qL (v:=vi x.sign) iT3 I (cO 0 I I)) (lU (gR I I) (aT I (rE (dR (s':=s) uR ?_)))))));exact ST.ret1 (.inl I) results125 I ⟨I,I,I⟩
theorem SC.freezeO {P:Program}{N:Nat}{E:World}{c:Code}{Q:Exit→Act→World→Prop}{f:Fr}{g:PH}{L s:Own}{A:List Cl}{rs:List Rc}(hO:aC jJ A rs)
  (h:∀ g1,Le g g1→aC (aw g1) A rs→SC P N E c Q f g1 (L++s)):SC P N E c Q f g (L++(f5 A rs++s)):=fun a w ha hw=>by
 have h1:(L++(f5 A rs++s)).Perm (f5 A rs++(L++s)):=by
  rw[← List.append_assoc,← List.append_assoc];exact List.perm_append_comm.append_right s
 obtain ⟨g1,h2,h3,h4⟩:=Go.Proofs.YtackilpikhkijaaGreatDoor.freezeO hO (hw.perm h1);exact h g1 h2 h4 a w ha h3
theorem AR {a b:Rc}(h:rcv a=rcv b):a=b:=by
 obtain ⟨ai,ad,ap,an,ac⟩:=a;obtain ⟨bi,bd,bp,bn,bc⟩:=b;simp[rcv] at h;obtain ⟨rfl,rfl,rfl,rfl,rfl⟩:=h;rfl
theorem Tryz.buildI53 (x:Int)(w:World):(Instr.build 53 #[(0,vi x)]).run Tryz.prog w = .ok (.agg #[vi x,vi 0,.slice none 0 0]) w:=by
 have h1:(vi x).cells = #[vi x]:=rfl;simp[Instr.build,Instr.fill,h1];rfl
theorem AK {l:List Side}{cell:Int}{i:Nat}(hi:i<l.length)(h:(l.findIdx fun x=>decide (x.cell=cell))=i):Al l cell=l[i].sign:=by
 unfold Al;have h1:l.find? (fun x=>decide (x.cell=cell))=some l[i]:=by
  obtain ⟨h2,h3⟩:=(List.findIdx_eq hi).1 h;exact List.find?_eq_some_iff_getElem.2 ⟨h2,i,hi,rfl,fun j hj=>by rw[h3 j hj]; rfl⟩
 rw[h1];rfl
theorem Bb {l:List Side}{z0 z1:Side}(hl:l=[z0,z1])(h:(z0.sign=1∧z1.sign = -1)∨(z0.sign = -1∧z1.sign=1)):∃ (i:Nat) (zE zO:Side),i<2∧tT (fun x=>decide (0<x.sign)) l=(i:Int)∧l[i]?=some zE∧l[1 - i]?=some zO∧iz l true=zE∧iz l false=zO:=by
 subst hl
 rcases h with ⟨h0,h1⟩ | ⟨h0,h1⟩
 ·exact⟨0,z0,z1,oM,by simp[tT,h0,h1,List.findIdx_cons],I,I,by simp[iz,h0,h1],by simp[iz,h0,h1]⟩
 ·exact⟨1,z1,z0,oM,by simp[tT,h0,h1,List.findIdx_cons],I,I,by simp[iz,h0,h1],by simp[iz,h0,h1]⟩
theorem uZ (E:World)(g:PH)(s:Own)(bx mb ms:Nat)(u v:Value)(e:Ed)(A:List Cl)(rs:List Rc)(hu:ao g u A)(hf:be A)(hn:(A.map Cl.id).Nodup)(hO:aC jJ A rs)(he:EdR g v e)
  (hab:∀ id∈aj A e.cell,∃ y,aA A id=some y∧y.sides.any (fun x=>decide (x.cell=e.cell))=true∧y.sides.length≤64) (habn:(aj A e.cell).Nodup) (hself:e.cell ∉ aj A e.cell)
  (hedge:∀ c,aA A e.cell=some c→c.dim=1→∃ z0 z1,c.sides=[z0,z1]∧((z0.sign=1∧z1.sign = -1)∨(z0.sign = -1∧z1.sign=1))) :
  Ctr Tryz.prog E 80 #[pp bx 0,v] g (edP bx u mb ms false::mp mb (rs.map ak)::mp ms []::(f5 A rs++s)) (fun r g' s'=>Le g g'∧r=vi (a6 A e) ∧
   (if a6 A e=0 then ∃ rs' v1 p n c,v1 = .slice p n c∧aC (aw g') (eR A e) rs'∧s'=edP bx u mb ms false::mp mb (rs'.map ak)::mp ms (gG [(e.cell,v1,[(e.cell,1),(e.other,1)])])::(di [(e.cell,v1,[(e.cell,1),(e.other,1)])]++s) else ∃ h,s'=h++s)):=by
 obtain ⟨sv,pv,rfl,hsv,hpv⟩:=he;obtain ⟨p,c,rfl⟩:=hu.form;have hsvf:=SlA.form hsv;have hpvf:=SlA.form hpv;obtain ⟨sp,sc,rfl⟩:=hsvf;obtain ⟨qp,qc,rfl⟩:=hpvf;have hHl:(aj A e.cell).length<1099511627776:=Nat.lt_of_le_of_lt (by unfold aj; rw[List.length_map]; exact List.length_filter_le _ _) (bJ hf).1;refine Ctr.of (args:=[pp bx 0,.agg #[vi e.kind,vi e.cell,vi e.dim,vi e.new,vi e.other,.slice sp e.sides.length sc,.slice qp e.pairs.length qc]]) func80 I ntmps80 (bE I) ?_
 rcases o9 e.cell hO with ⟨h1,h2⟩ | ⟨m0,c0,r0,h1,hcid,h2,hco,hrow0,-⟩
 ·have hcode:a6 A e=30:=by unfold a6; rw[h1]
  rw[hcode];refine rZ (bW (bO I) fun b3=>?_);refine aT I (sQ ?_);refine dW [] [(0,2),(1,2),(2,2),(3,1),(4,2),(5,1),(6,1),(7,2),(8,2),(9,2),(10,0),(11,0),(12,2)] Tryz.mixed kR ?_;refine pU rfl (mV rfl) (pU rfl (nC rfl) (pU rfl (fA cX rfl dX rfl) (pK rfl (qL (v:=.map (some mb)) dY rfl (cO 1 rfl rfl)) (pU rfl (fA aK rfl zT3 rfl) (pK rfl (qL (v:=vi e.cell) iT3 rfl (cO 0 rfl rfl)) (pK rfl (SQ.eq (v':=.tuple #[.agg #[vi 0,vi 0,.slice none 0 0],vb false]) (SQ.lookupOk mty104 rfl rfl (cw.own 2 rfl)) (by rw[h2]; rfl)) ?_))))));refine pU I (mV I) (pU I (xT I I) (pU I (xT I I) (SP.o I (aL zeroValue53) dC (.inr iW9) ?_)));rintro _ _ _ ⟨b5,rfl,rfl,rfl⟩;refine SP.on I (sK 0 au I I I I I sB) (.inr iW9) ?_;rintro _ _ _ ⟨rfl,rfl⟩;refine pU I (aS I) (pN (tN (sQ (bK (sW I (lU (SU.not I) (aT I (SC.condT I (rZ (aT I (rE (bR (tR ?_)))))))))))));exact ST.ret1 (.inl I) results80 I ⟨Le.refl _,I,by rw[if_neg dC]; exact⟨_::_::_::_::_::f5 A rs,I⟩⟩
 obtain ⟨ri,rd,rp,rn,rc⟩:=r0;obtain ⟨e1,e2,e3⟩:=hco;dsimp only at e1 e2 e3;subst e1 e2 e3;refine rZ (bW (bO I) fun b3=>?_);refine aT I (sQ ?_);refine dW [] [(0,2),(1,2),(2,2),(3,1),(4,2),(5,1),(6,1),(7,2),(8,2),(9,2),(10,0),(11,0),(12,2)] Tryz.mixed kR ?_;refine pU rfl (mV rfl) (pU rfl (nC rfl) (pU rfl (fA cX rfl dX rfl) (pK rfl (qL (v:=.map (some mb)) dY rfl (cO 1 rfl rfl)) (pU rfl (fA aK rfl zT3 rfl) (pK rfl (qL (v:=vi e.cell) iT3 rfl (cO 0 rfl rfl)) (pK rfl (SQ.eq (v':=.tuple #[.agg #[vi c0.id,vi c0.dim,.slice rp c0.sides.length rc],vb true]) (SQ.lookupOk mty104 rfl rfl (cw.own 2 rfl)) (by rw[h2]; rfl)) ?_))))));refine pU I (mV I) (pU I (xT I I) (pU I (xT I I) (SP.o I (aL zeroValue53) dC (.inr iW9) ?_)));rintro _ _ _ ⟨b5,rfl,rfl,rfl⟩;refine SP.on I (sK 0 au I I I I I sB) (.inr iW9) ?_;rintro _ _ _ ⟨rfl,rfl⟩;refine pU I (aS I) (pN (tN (sQ (bK (sW I (lU (SU.not I) (aT I (SC.condF I (rZ (lU (fA aq I zT3 I) (lK (qL iT3 I (cO 0 I I)) (lU (nQ I I) (aT I ?_)))))))))))));refine iP I (fun hd=>?_) (fun hd=>?_)
 ·have hcode:a6 A e=21:=by unfold a6; rw[h1]; exact if_pos hd
  rw[hcode];refine rZ (aT I (rE (bR (tR ?_))));exact ST.ret1 (.inl I) results80 I ⟨Le.refl _,I,by rw[if_neg dC]; exact⟨_::_::_::_::_::f5 A rs,I⟩⟩
 have hd1:c0.dim=1:=Decidable.not_not.1 hd;by_cases hmin:min e.new e.other<1
 ·have hcode:a6 A e=1:=by
   unfold a6;rw[h1];show (if c0.dim≠1 then (21:Int) else if min e.new e.other<1∨e.new=e.other then 1 else _)=1;rw[if_neg hd,if_pos (.inl hmin)]
  rw[hcode];refine rZ (lU (fA aK I zT3 I) (lK (qL (v:=vi e.new) iT3 I (cO 1 I I)) (lU (fA aK I zT3 I) (lK (qL (v:=vi e.other) iT3 I (cO 1 I I)) (lU (SU.min2 I I) (lU (SU.eq (v':=vb true) (lS I I) (congrArg vb (decide_eq_true hmin))) (lM I (lZ I I I (lZ I I I (lZ I I I (lZ I I I (lZ I I I (lU (wT I I) (aT I (SC.condT I (rZ (aT I (rE (bR (tR ?_))))))))))))))))))));exact ST.ret1 (.inl I) results80 I ⟨Le.refl _,I,by rw[if_neg dC]; exact⟨_::_::_::_::_::f5 A rs,I⟩⟩
 refine rZ (lU (fA aK I zT3 I) (lK (qL (v:=vi e.new) iT3 I (cO 1 I I)) (lU (fA aK I zT3 I) (lK (qL (v:=vi e.other) iT3 I (cO 1 I I)) (lU (SU.min2 I I) (lU (SU.eq (v':=vb false) (lS I I) (congrArg vb (decide_eq_false hmin))) (lM I (lY I I I (fA aK I zT3 I) (SL.gq (gT I I I dC) (qL (v:=vi e.new) iT3 I (cO 1 I I)) dC (lY I I I (fA aK I zT3 I) (SL.gq (gT I I I dC) (qL (v:=vi e.other) iT3 I (cO 1 I I)) dC (lY I I I (eQ I I) (lU (wF I I) (aT I ?_))))))))))))));refine iP I (fun hne=>?_) (fun hne=>?_)
 ·have hcode:a6 A e=1:=by
   unfold a6;rw[h1];show (if c0.dim≠1 then (21:Int) else if min e.new e.other<1∨e.new=e.other then 1 else _)=1;rw[if_neg hd,if_pos (.inr hne)]
  rw[hcode];refine rZ (aT I (rE (bR (tR ?_))));exact ST.ret1 (.inl I) results80 I ⟨Le.refl _,I,by rw[if_neg dC]; exact⟨_::_::_::_::_::f5 A rs,I⟩⟩
 have hcode:a6 A e=if (aA A e.new).isSome||(aA A e.other).isSome then 54 else 0:=by
  unfold a6;rw[h1];show (if c0.dim≠1 then (21:Int) else if min e.new e.other<1∨e.new=e.other then 1 else if (aA A e.new).isSome||(aA A e.other).isSome then 54 else 0)=_;rw[if_neg hd,if_neg (fun h=>h.elim hmin hne)]
 rw[hcode];cases hnw:(aA A e.new).isSome with
 | true =>
  have e54:(if (true||(aA A e.other).isSome)=true then (54:Int) else 0)=54:=rfl;rw[e54];refine sW I (lU (fA aK I zT3 I) (lK (qL (v:=vi e.new) iT3 I (cO 1 I I)) (lW (cL call121 I (bM E g _ bx mb ms _ false e.new _ (fun _ _ h=>h.1) A rs hO 2 3 I I)) ?_)));rintro _ _ _ ⟨rfl,rfl,rfl⟩;rw[hnw];refine lM I (lZ I I I (lZ I I I (lZ I I I (lZ I I I (lU (wT I I) (aT I (SC.condT I (rZ (aT I (rE (bR (tR ?_))))))))))));exact ST.ret1 (.inl I) results80 I ⟨Le.refl _,I,by rw[if_neg dC]; exact⟨_::_::_::_::_::f5 A rs,I⟩⟩
 | false =>
 rw[Bool.false_or];refine sW I (lU (fA aK I zT3 I) (lK (qL (v:=vi e.new) iT3 I (cO 1 I I)) (lW (cL call121 I (bM E g _ bx mb ms _ false e.new _ (fun _ _ h=>h.1) A rs hO 2 3 I I)) ?_)));rintro _ _ _ ⟨rfl,rfl,rfl⟩;rw[hnw];refine lM I (lY I I I (mV I) (lY I I I (fA aK I zT3 I) (SL.gq (gT I I I dC) (qL (v:=vi e.other) iT3 I (cO 1 I I)) dC (SL.go (gT I I I dC) (cL call121 I (bM E g _ bx mb ms _ false e.other _ (fun _ _ h=>h.1) A rs hO 2 3 I I)) dC ?_))));rintro _ _ _ ⟨rfl,rfl,rfl⟩;refine lU (wF I I) (aT I ?_);refine iQ I (fun hot=>?_) (fun hot=>?_)
 ·rw[if_pos hot];refine rZ (aT I (rE (bR (tR ?_))));exact ST.ret1 (.inl I) results80 I ⟨Le.refl _,I,by rw[if_neg dC]; exact⟨_::_::_::_::_::f5 A rs,I⟩⟩
 rw[if_neg (by rw[hot]; exact Bool.false_ne_true)];refine kP (bN (tN (sQ (sQ ?_))));refine dW [] [(0,2),(1,2),(2,2),(3,1),(4,2),(5,1),(8,2),(6,0),(7,2)] Tryz.mixed kR ?_;refine pU I (mV I) (pU I (nC I) (pU I (fA cX I ag I) (pK I (SQ.loadOne ar ag I (cO (v:=.slice p A.length c) 2 I I)) (pU I (fA aK I zT3 I) (pK I (qL (v:=vi e.cell) iT3 I (cO 1 I I)) (pU I (mV I) (SP.o I (cL call122 I (fm E g _ _ A e.cell hu hf)) dC (.inr iW9) ?_)))))));rintro _ g1 _ ⟨rfl,hle1,hav⟩;obtain ⟨qa,da,rfl⟩:=SlA.form hav;refine pU I (eN aI I) (pN (tN (bK ?_)));have hat0:aW A e []=A:=by simp[aW]
 refine oP (ι:=Nat×List Rc) (fun i=>[(0,pp bx 0),(3,pp b3 0),(5,pp b5 0),(60,.slice qa (aj A e.cell).length da),(61,vi (aj A e.cell).length),(62,vi i.1)]) (fun _=>g1)
  (fun i=>pt b5 (.cells #[vi c0.id,vi c0.dim,.slice rp c0.sides.length rc] 53 (0,0))::pt b3 (.cells (edV e (.slice sp e.sides.length sc) (.slice qp e.pairs.length qc)) 35 (0,0))::edP bx (.slice p A.length c) mb ms false::mp mb (i.2.map ak)::mp ms []::(f5 (aW A e ((aj A e.cell).take i.1)) i.2++s))
  (fun i=>i.1≤(aj A e.cell).length∧aC jJ (aW A e ((aj A e.cell).take i.1)) i.2∧dK (i.2.map ak) e.cell=some (rcv ⟨c0.id,c0.dim,⟨rp,c0.sides.length,rc⟩⟩)) (fun i=>(aj A e.cell).length - i.1) (0,rs)
  sB rfl (by dsimp only; rw[List.take_zero,hat0]; rfl) ⟨Nat.zero_le _,by dsimp only; rw[List.take_zero,hat0]; exact hO,h2⟩ ?_
 rintro ⟨k,rs1⟩ ⟨hk,hO1,hg1⟩;dsimp only at hk hO1 hg1 ⊢;refine rZ (lU (lS I I) (tZ (sQ ?_)));refine iP I (fun hlt=>?_) (fun hlt=>?_)
 ·have hkl:k<(aj A e.cell).length:=oM;have hba:=SlA.based hav oM;have hgk:(aj A e.cell)[((k:Nat):Int).toNat]?=some (aj A e.cell)[k]:=gE hkl;have htk:(aj A e.cell).take (k+1)=(aj A e.cell).take k++[(aj A e.cell)[k]]:=tS hkl;obtain ⟨y,hy1,hy2,hy3⟩:=hab _ (gM hkl);have hnot:(aj A e.cell)[k] ∉ (aj A e.cell).take k:=fun hm=>by
   obtain ⟨j,hj,hje⟩:=List.getElem_of_mem hm;rw[List.length_take] at hj;rw[List.getElem_take] at hje;have:=(List.getElem_inj habn).1 hje;omega
  have hne1:e.cell≠(aj A e.cell)[k]:=fun h=>hself (by have h9:=gM hkl; rwa [← h] at h9);have hput:=ng (e:=e) hnot hn hy1;rw[← htk] at hput;have hfd:=lH (e:=e) (A:=A) hnot;rw[hy1] at hfd;generalize hH1:(aj A e.cell).take (k+1)=H1 at *;generalize (aj A e.cell).take k=H0 at *;generalize (aj A e.cell)[k]=id at *
  rcases o9 id hO1 with ⟨h3,_⟩ | ⟨m,y',r1,h3,hyid,h4,hco1,hrow1,hset1⟩
  ·rw[hfd] at h3; cases h3
  rw[hfd] at h3;injection h3 with h3
  subst h3;obtain ⟨si,sd,sp1,sn1,sc1⟩:=r1;obtain ⟨f1,f2,f3⟩:=hco1;dsimp only at f1 f2 f3;subst f1 f2 f3;subst hyid;have hm1:m<(f5 (aW A e H0) rs1).length:=(List.getElem?_eq_some_iff.1 hrow1).1;have hrow2:(f5 (aW A e H0) rs1++s)[m]?=some (rowA encSide 55 (.slice sp1 y.sides.length sc1) y.sides):=by rw[List.getElem?_append_left hm1]; exact hrow1
  have hset2:∀ (q':Option Addr) (d':Nat) (x:Side),(eG e y).sides=y.sides++[x]→f5 (aW A e H1) (ij rs1 ⟨y.id,y.dim,⟨q',(y.sides++[x]).length,d'⟩⟩)++s=(f5 (aW A e H0) rs1++s).set m (rowA encSide 55 (.slice q' (y.sides++[x]).length d') (y.sides++[x]))∧aC jJ (aW A e H1) (ij rs1 ⟨y.id,y.dim,⟨q',(y.sides++[x]).length,d'⟩⟩):=fun q' d' x hx=>by
   obtain ⟨h5,h6⟩:=hset1 (eG e y) ⟨y.id,y.dim,⟨q',(y.sides++[x]).length,d'⟩⟩ rfl rfl ⟨rfl,rfl,by dsimp only; rw[hx]⟩;rw[hput] at h5 h6;refine⟨?_,h6⟩;rw[← h5,List.set_append_left _ _ hm1];unfold yF;rw[hx]
  have hidx:tT (fun x=>decide (x.cell=e.cell)) y.sides=((y.sides.findIdx fun x=>decide (x.cell=e.cell):Nat):Int):=if_pos hy2;have hil:(y.sides.findIdx fun x=>decide (x.cell=e.cell))<y.sides.length:=by
   obtain ⟨x,hx,hx2⟩:=List.any_eq_true.1 hy2;exact List.findIdx_lt_length_of_exists ⟨x,hx,hx2⟩
  generalize hi0:(y.sides.findIdx fun x=>decide (x.cell=e.cell))=i0 at *;have hgi:y.sides[((i0:Nat):Int).toNat]?=some y.sides[i0]:=gE hil;have hws:(eG e y).sides=y.sides++[⟨e.other,y.sides[i0].sign⟩]:=by unfold eG; rw[AK hil hi0]
  generalize y.sides[i0]=z at *;obtain ⟨zc,zs⟩:=z;dsimp only at hws;refine SC.facts fun ⟨w0,hw0⟩=>?_;obtain ⟨bb,cc,hbb⟩:=aV (i:=m+5) hw0 hrow2 oM;clear hw0 w0;have hby:based (.slice sp1 y.sides.length sc1)=true:=by rw[hbb]; rfl
  refine kP (tN (sQ (bK (rZ (lU (iA aI zT3 rfl rfl hba oM sL) (lK (eB iT3 rfl (SlA.rd hav) hgk rfl) (aT rfl (sW rfl (lU (nC rfl) (lU (fA cX rfl dX rfl) (lK (qL (v:=.map (some mb)) dY rfl (cO 2 rfl rfl)) (lM rfl (lK (SQ.eq (v':=.agg #[vi y.id,vi y.dim,.slice sp1 y.sides.length sc1]) (SQ.lookup mty104 rfl rfl (cw.own 3 rfl)) (by rw[h4]; rfl)) ?_)))))))))))));refine bW (aL zeroValue53) fun b9=>?_;refine oZ (sK 0 au I I I I I sB) ?_;refine tZ (rZ (lU (fA aq I aU I) (lK (qL (v:=.slice sp1 y.sides.length sc1) bw I (cO 0 I I)) (lU (SU.mkFunc I) (lW (cL call123 I (A7 E g1 _ _ _ _ y.sides (fun x=>decide (x.cell=e.cell)) (Rd.rowA (m+6) hrow2) (fun _=>hby) oM I (fun x=>zr E g1 _ b3 e _ _ x 2 I))) ?_)))));rintro _ _ _ ⟨rfl,rfl,rfl⟩;rw[hidx];refine aT I (sQ ?_);refine dW [12,14] [(0,2),(1,1),(2,2),(3,1),(4,2),(5,1),(6,2),(7,2),(8,2),(9,1),(10,2),(11,0),(12,0),(13,2),(14,0)] Tryz.mixed kR ?_;refine pU I (fA aq I aU I) (pK I (qL (v:=.slice sp1 y.sides.length sc1) bw I (cO 0 I I)) (pU I (fA aK I zT3 I) (pK I (qL (v:=vi e.other) iT3 I (cO 2 I I)) (pU I (fA aq I aU I) (pK I (qL (v:=.slice sp1 y.sides.length sc1) bw I (cO 0 I I)) (pU I (mV I) (pU I (iA aN aG I I hby oM sL) ?_)))))));refine pU I (fC cl I zT3 I hby) (pK I (aZ (e:=encSide) (o:=1) (u:=vi zs) iT3 I (Rd.rowA (m+6) hrow2) hgi I) (pU I (SU.build I (buildS55 _ _)) (SP.o I (bS sty32 I I I (ae ⟨I,trivial⟩) dC) dC (.inr iW9) ?_)));rintro _ _ _ ⟨b87,rfl,rfl,rfl⟩;refine SP.o I (aP (e:=encSide) (m+6) ⟨e.other,zs⟩ sty32 I I I hrow2 I oM oM) dC (.inl dC) ?_;rintro v88 _ _ ⟨rfl,rfl⟩;refine SP.facts fun ⟨w0,hw0⟩=>?_;obtain ⟨q',d',rfl⟩:=ah (e:=encSide) (l:=y.sides++[(⟨e.other,zs⟩:Side)]) (i:=m+6) hw0 (wM hrow2 _);clear hw0 w0;refine pU rfl (fA aq rfl aU rfl) (SP.on rfl (SO.store1 0 aU rfl rfl rfl rfl (bE rfl) (by rfl)) (.inl dC) ?_);rintro _ _ _ ⟨rfl,rfl⟩;refine pN (tN ?_);obtain ⟨hown,hO2⟩:=hset2 q' d' ⟨e.other,zs⟩ hws;refine SC.to (g':=g1) (s':=pt b9 (.cells #[vi y.id,vi y.dim,.slice q' (y.sides++[(⟨e.other,zs⟩:Side)]).length d'] 53 (0,0))::pt b5 (.cells #[vi c0.id,vi c0.dim,.slice rp c0.sides.length rc] 53 (0,0))::pt b3 (.cells (edV e (.slice sp e.sides.length sc) (.slice qp e.pairs.length qc)) 35 (0,0))::edP bx (.slice p A.length c) mb ms false::mp mb (rs1.map ak)::mp ms []::(f5 (aW A e H1) (ij rs1 ⟨y.id,y.dim,⟨q',(y.sides++[(⟨e.other,zs⟩:Side)]).length,d'⟩⟩)++s)) (fun w hw=>by rw[hown]; exact hw) ?_;refine dW [6] [(0,2),(1,2),(2,2),(3,1),(4,2),(5,1),(6,0)] Tryz.mixed kR ?_;refine pU I (mV I) (pU I (nC I) (pU I (fA cX I dX I) (pK I (qL (v:=.map (some mb)) dY I (cO 3 I I)) (pU I (mV I) (pK I (qV 0 du au I I I) (SP.on I (SO.mapUpdate 4 mty104 I I I I) (.inl dC) ?_))))));rintro _ _ _ ⟨rfl,rfl⟩;rw[show eE (rs1.map ak) y.id (.agg #[vi y.id,vi y.dim,.slice q' (y.sides++[(⟨e.other,zs⟩:Side)]).length d'])=(ij rs1 ⟨y.id,y.dim,⟨q',(y.sides++[(⟨e.other,zs⟩:Side)]).length,d'⟩⟩).map ak from iu ⟨y.id,y.dim,⟨q',(y.sides++[(⟨e.other,zs⟩:Side)]).length,d'⟩⟩ rs1];refine pN (bN (tN (rG (lU (aD I I oM) (lM I (nL (dR (.cons _ (.refl _)) ?_)))))));exact gA (k+1,ij rs1 ⟨y.id,y.dim,⟨q',(y.sides++[(⟨e.other,zs⟩:Side)]).length,d'⟩⟩) sB rfl (by dsimp only; rw[hH1]; rfl) ⟨by dsimp only; omega,by dsimp only; rw[hH1]; exact hO2,by
   dsimp only;rw[← iu,qM,if_neg hne1];exact hg1⟩ (by dsimp only; omega)
 ·have hkk:(aj A e.cell).take k=aj A e.cell:=tL oM;rw[hkk] at hO1 ⊢;have hfe:=lH (e:=e) (A:=A) hself;rw[h1] at hfe;obtain ⟨z0,z1,hz,hzs⟩:=hedge c0 h1 hd1;obtain ⟨iE,zE,zO,hiE,hixE,hgE,hgO,heE,heO⟩:=Bb hz hzs;have hl2:c0.sides.length=2:=by rw[hz]; rfl
  have hout:eR A e=dZ (dZ (dZ (aW A e (aj A e.cell)) ⟨e.new,0,[]⟩) ⟨e.other,1,[⟨e.new,-1⟩,zE]⟩) ⟨e.cell,1,[zO,⟨e.new,1⟩]⟩:=by
   unfold eR;rw[h1];show dZ (dZ (dZ (aW A e (aj A e.cell)) ⟨e.new,0,[]⟩) ⟨e.other,1,[⟨e.new,-1⟩,iz c0.sides true]⟩) ⟨e.cell,1,[iz c0.sides false,⟨e.new,1⟩]⟩=_;rw[heE,heO]
  rw[hout];refine xI (tX (tX (bX (tN (sQ (SC.freezeO (L:=[pt b5 (.cells #[vi c0.id,vi c0.dim,.slice rp c0.sides.length rc] 53 (0,0)),pt b3 (.cells (edV e (.slice sp e.sides.length sc) (.slice qp e.pairs.length qc)) 35 (0,0)),edP bx (.slice p A.length c) mb ms false,mp mb (rs1.map ak),mp ms []]) hO1 fun g2 hle2 hall2=>?_))))));refine SC.to (g':=g2) (s':=pt b5 (.cells #[vi c0.id,vi c0.dim,.slice rp c0.sides.length rc] 53 (0,0))::pt b3 (.cells (edV e (.slice sp e.sides.length sc) (.slice qp e.pairs.length qc)) 35 (0,0))::edP bx (.slice p A.length c) mb ms false::mp mb (rs1.map ak)::mp ms []::s) (fun w hw=>hw) ?_;have hsl:SlA encSide g2 (.slice rp c0.sides.length rc) c0.sides:=by
   rcases fl (fun _ _ h=>h.1) hall2 e.cell with ⟨h5,_⟩ | ⟨c1,r1,h5,h6,h7⟩
   ·unfold aA at hfe; rw[h5] at hfe; cases hfe
   ·rw[hg1] at h6; injection h6 with h6; have h8:=AR h6; subst h8; unfold aA at hfe; rw[h5] at hfe; injection hfe with hfe; subst hfe; exact h7.2.2
  generalize aW A e (aj A e.cell)=B0 at *;have hbE:=SlA.based hsl oM;have hgE':c0.sides[((iE:Nat):Int).toNat]?=some zE:=hgE;have hgO':c0.sides[((1 - (iE:Int)):Int).toNat]?=some zO:=by rw[show (1 - (iE:Int)).toNat=1 - iE by omega]; exact hgO
  refine rG (lU (fA aq I aU I) (lK (qL (v:=.slice rp c0.sides.length rc) bw I (cO 0 I I)) (lW (cL call123 I (qR E g2 _ _ _ c0.sides (fun x=>decide (0<x.sign)) hsl oM I (fun x=>A5 E g2 _ x))) ?_)));rintro _ _ _ ⟨rfl,rfl,rfl⟩;rw[hixE];refine aT I (sQ ?_);refine dW [9] [(0,2),(1,2),(2,2),(3,1),(4,2),(5,1),(6,2),(7,1),(8,2),(9,0)] Tryz.mixed kR ?_;refine pU I (mV I) (pU I (nC I) (pU I (fA cX I dX I) (pK I (qL (v:=.map (some mb)) dY I (cO 2 I I)) (pU I (fA aK I zT3 I) (pK I (qL (v:=vi e.new) iT3 I (cO 1 I I)) (pU I (fA aK I zT3 I) (pK I (qL (v:=vi e.new) iT3 I (cO 1 I I)) (pU I (SU.build I (buildI53 _)) (SP.on I (SO.mapUpdate 3 mty104 I I I I) (.inl dC) ?_)))))))));rintro _ _ _ ⟨rfl,rfl⟩;rw[show eE (rs1.map ak) e.new (.agg #[vi e.new,vi 0,.slice none 0 0])=(ij rs1 ⟨e.new,0,⟨none,0,0⟩⟩).map ak from iu ⟨e.new,0,⟨none,0,0⟩⟩ rs1];refine pN (tN (sQ ?_));have hall3:aC (aw g2) (dZ B0 ⟨e.new,0,[]⟩) (ij rs1 ⟨e.new,0,⟨none,0,0⟩⟩):=jj (fun _ _ h=>h.1) ⟨rfl,rfl,Sl.nil _ _⟩ hall2;generalize ij rs1 ⟨e.new,0,⟨none,0,0⟩⟩=rs2 at *;generalize dZ B0 ⟨e.new,0,[]⟩=B1 at *;refine dW [18] [(0,2),(1,2),(2,2),(3,1),(4,2),(5,1),(6,2),(7,1),(8,2),(9,1),(10,2),(11,2),(12,1),(13,2),(14,2),(15,1),(16,0),(17,2),(18,0)] Tryz.mixed kR ?_;refine pU I (mV I) (pU I (nC I) (pU I (fA cX I dX I) (pK I (qL (v:=.map (some mb)) dY I (cO 2 I I)) (pU I (fA aK I zT3 I) (pK I (qL (v:=vi e.other) iT3 I (cO 1 I I)) (pU I (fA aK I zT3 I) (pK I (qL (v:=vi e.other) iT3 I (cO 1 I I)) (pU I (fA aK I zT3 I) (pK I (qL (v:=vi e.new) iT3 I (cO 1 I I)) (pU I (SU.build I (buildS55 _ _)) (pU I (fA aq I aU I) (pK I (qL (v:=.slice rp c0.sides.length rc) bw I (cO 0 I I)) (pU I (mV I) (pU I (iA aN aG I I hbE oM sL) (pK I (eA eu aG I (SlA.rd hsl) hgE') (SP.o I (bS sty32 I I I (ae sB) dC) dC (.inr iW9) ?_))))))))))))))));rintro _ _ _ ⟨b125,rfl,rfl,rfl⟩;refine SP.freeze fun g3 hle3 hb3=>?_;have hs3:SlA encSide g3 (.slice (some ⟨b125,0,none⟩) 2 2) [⟨e.new,-1⟩,zE]:=SlA.lit hb3 rfl rfl;refine pU I (SU.build I (buildF53 _ _ _ I)) (SP.on I (SO.mapUpdate 3 mty104 I I I I) (.inl dC) ?_);rintro _ _ _ ⟨rfl,rfl⟩;rw[show eE (rs2.map ak) e.other (.agg #[vi e.other,vi 1,.slice (some ⟨b125,0,none⟩) 2 2])=(ij rs2 ⟨e.other,1,⟨some ⟨b125,0,none⟩,2,2⟩⟩).map ak from iu ⟨e.other,1,⟨some ⟨b125,0,none⟩,2,2⟩⟩ rs2];refine pN (tN (sQ ?_));have hall4:aC (aw g3) (dZ B1 ⟨e.other,1,[⟨e.new,-1⟩,zE]⟩) (ij rs2 ⟨e.other,1,⟨some ⟨b125,0,none⟩,2,2⟩⟩):=jj (fun _ _ h=>h.1) ⟨rfl,rfl,hs3⟩ (hall3.mono fun _ _=>aw.mono hle3);have hsl3:=SlA.mono hsl hle3;generalize ij rs2 ⟨e.other,1,⟨some ⟨b125,0,none⟩,2,2⟩⟩=rs3 at *;generalize dZ B1 ⟨e.other,1,[⟨e.new,-1⟩,zE]⟩=B2 at *;refine dW [19] [(0,2),(1,2),(2,2),(3,1),(4,2),(5,1),(6,2),(7,1),(8,2),(9,1),(10,2),(11,2),(12,2),(13,1),(14,2),(15,1),(16,2),(17,0),(18,2),(19,0)] Tryz.mixed kR ?_;refine pU I (mV I) (pU I (nC I) (pU I (fA cX I dX I) (pK I (qL (v:=.map (some mb)) dY I (cO 2 I I)) (pU I (fA aK I zT3 I) (pK I (qL (v:=vi e.cell) iT3 I (cO 1 I I)) (pU I (fA aK I zT3 I) (pK I (qL (v:=vi e.cell) iT3 I (cO 1 I I)) (pU I (fA aq I aU I) (pK I (qL (v:=.slice rp c0.sides.length rc) bw I (cO 0 I I)) (pU I (mV I) (pU I (sU I I oM) (pU I (iA aN aG I I hbE oM sL) (pK I (eA eu aG I (SlA.rd hsl3) hgO') (pU I (fA aK I zT3 I) (pK I (qL (v:=vi e.new) iT3 I (cO 1 I I)) (pU I (SU.build I (buildS55 _ _)) (SP.o I (bS sty32 I I I (ae sB) dC) dC (.inr iW9) ?_)))))))))))))))));rintro _ _ _ ⟨b144,rfl,rfl,rfl⟩;refine SP.freeze fun g4 hle4 hb4=>?_;have hs4:SlA encSide g4 (.slice (some ⟨b144,0,none⟩) 2 2) [zO,⟨e.new,1⟩]:=SlA.lit hb4 rfl rfl;refine pU I (SU.build I (buildF53 _ _ _ I)) (SP.on I (SO.mapUpdate 3 mty104 I I I I) (.inl dC) ?_);rintro _ _ _ ⟨rfl,rfl⟩;rw[show eE (rs3.map ak) e.cell (.agg #[vi e.cell,vi 1,.slice (some ⟨b144,0,none⟩) 2 2])=(ij rs3 ⟨e.cell,1,⟨some ⟨b144,0,none⟩,2,2⟩⟩).map ak from iu ⟨e.cell,1,⟨some ⟨b144,0,none⟩,2,2⟩⟩ rs3];refine pN (tN (sQ ?_));have hall5:aC (aw g4) (dZ B2 ⟨e.cell,1,[zO,⟨e.new,1⟩]⟩) (ij rs3 ⟨e.cell,1,⟨some ⟨b144,0,none⟩,2,2⟩⟩):=jj (fun _ _ h=>h.1) ⟨rfl,rfl,hs4⟩ (hall4.mono fun _ _=>aw.mono hle4);generalize ij rs3 ⟨e.cell,1,⟨some ⟨b144,0,none⟩,2,2⟩⟩=rs4 at *;refine dW [13] [(0,2),(1,2),(2,2),(3,1),(4,2),(5,1),(6,2),(7,1),(9,2),(10,1),(8,0),(11,0),(12,0),(13,0)] Tryz.mixed kR ?_;refine pU I (mV I) (pU I (nC I) (pU I (fA cX I sizeOf127 I) (pK I (qL (v:=.map (some ms)) isAgg127 I (cO 2 I I)) (pU I (fA aK I zT3 I) (pK I (qL (v:=vi e.cell) iT3 I (cO 1 I I)) (pU I (fA aK I zT3 I) (pK I (qL (v:=vi e.cell) iT3 I (cO 1 I I)) (pU I (fA aK I zT3 I) (pK I (qL (v:=vi e.other) iT3 I (cO 1 I I)) (SP.o I (cL call87 I (jb E g4 _ e.cell 1 dC dC)) dC (.inr iW9) ?_))))))))));rintro _ g5 _ ⟨rfl,rfl,hle5⟩;refine SP.o rfl (cL call87 rfl (jb E g5 _ e.other 1 dC dC)) dC (.inr (by rintro _ g6 _ ⟨rfl,rfl,hle6⟩; exact⟨by exact Le.trans (by assumption) (by assumption),(by exact .refl _)⟩)) ?_;rintro _ g6 _ ⟨rfl,rfl,hle6⟩;have hle46:=hle5.trans hle6;refine SP.o I (bS sty72 I I I (ae sB) dC) dC (.inr iW9) ?_;rintro _ _ _ ⟨b158,rfl,rfl,rfl⟩;refine SP.to (fun w hw=>At.litRow (e:=bV) (l:=[(e.cell,1),(e.other,1)]) (n:=1) hw I I dC) ?_;refine SP.on I (SO.mapUpdate 5 mty127 I I I I) (.inl dC) ?_;rintro _ _ _ ⟨rfl,rfl⟩;refine pN (tN (rZ (aT I (rE ?_))));refine ST.to (g':=g6) (s':=edP bx (.slice p A.length c) mb ms false::mp mb (rs4.map ak)::mp ms (gG [(e.cell,.slice (some ⟨b158,0,none⟩) 2 2,[(e.cell,1),(e.other,1)])])::(di [(e.cell,.slice (some ⟨b158,0,none⟩) 2 2,[(e.cell,1),(e.other,1)])]++s)) (fun w1 hw1=>?_) ?_
  ·have h5:=hw1.sublist (s':=rowA bV 77 (.slice (some ⟨b158,0,none⟩) 2 2) [(e.cell,1),(e.other,1)]::([edP bx (.slice p A.length c) mb ms false,mp mb (rs4.map ak),mp ms (gG [(e.cell,.slice (some ⟨b158,0,none⟩) 2 2,[(e.cell,1),(e.other,1)])])]++s)) (.cons_cons _ (.cons _ (.cons _ (.refl _))));exact h5.perm (List.perm_middle (l₁:=[edP bx (.slice p A.length c) mb ms false,mp mb (rs4.map ak),mp ms (gG [(e.cell,.slice (some ⟨b158,0,none⟩) 2 2,[(e.cell,1),(e.other,1)])])])).symm
  exact ST.ret1 (.inl I) results80 I ⟨hle1.trans (hle2.trans (hle3.trans (hle4.trans hle46))),I,by rw[if_pos I]; exact⟨rs4,_,_,_,_,I,hall5.mono fun _ _=>aw.mono hle46,I⟩⟩
def Tryz.sortSd_ren:Ren :=
 {
  f:=fun x =>
   match x with
   | 6=>146
   | 15=>131
   | 14=>181
   | 28=>157
   | 29=>158
   | 20=>192
   | 21=>200
   | 22=>201
   | 23=>202
   | 24=>203
   | 25=>204
   | 26=>205
   | 27=>206
   | 46=>217
   | 47=>186
   | 48=>187
   | 49=>218
   | 50=>219
   | 57=>225
   | n=>n,
  t:=fun x =>
   match x with
   | 22=>32
   | 24=>55
   | 25=>174
   | 3=>3
   | 39=>170
   | 0=>0
   | 53=>192
   | 55=>114
   | 4=>4
   | 46=>186
   | 45=>185
   | 50=>118
   | 5=>5
   | 9=>9
   | 66=>214
   | 70=>218
   | 76=>239
   | 77=>240
   | n=>n,
  g:=fun x =>
   have n:=x;
   n }
theorem Tryz.sortSd:SlLaysF0.n6 Tryz.prog Tryz.sortSd_ren :=
  {
  mixed:=Eq.refl true,
  f6 :=
   Exists.intro "slices.SortFunc[[]cocycle/api.Side,cocycle/api.Side]"
    ⟨of_decide_eq_true (id (Eq.refl true)),
     Eq.trans func146
      (congrArg some
       kR)⟩,
  f14 :=
   Exists.intro "slices.pdqsortCmpFunc[cocycle/api.Side]"
    ⟨of_decide_eq_true (id (Eq.refl true)),
     Eq.trans func181
      (congrArg some
       kR)⟩,
  f15:=Eq.trans func131 (congrArg some kR),
  f20 :=
   Exists.intro "slices.insertionSortCmpFunc[cocycle/api.Side]"
    ⟨of_decide_eq_true (id (Eq.refl true)),
     Eq.trans func192
      (congrArg some
       kR)⟩,
  f21 :=
   Exists.intro "slices.heapSortCmpFunc[cocycle/api.Side]"
    ⟨of_decide_eq_true (id (Eq.refl true)),
     Eq.trans func200
      (congrArg some
       kR)⟩,
  f22 :=
   Exists.intro "slices.breakPatternsCmpFunc[cocycle/api.Side]"
    ⟨of_decide_eq_true (id (Eq.refl true)),
     Eq.trans func201
      (congrArg some
       kR)⟩,
  f23 :=
   Exists.intro "slices.choosePivotCmpFunc[cocycle/api.Side]"
    ⟨of_decide_eq_true (id (Eq.refl true)),
     Eq.trans func202
      (congrArg some
       kR)⟩,
  f24 :=
   Exists.intro "slices.reverseRangeCmpFunc[cocycle/api.Side]"
    ⟨of_decide_eq_true (id (Eq.refl true)),
     Eq.trans func203
      (congrArg some
       kR)⟩,
  f25 :=
   Exists.intro "slices.partialInsertionSortCmpFunc[cocycle/api.Side]"
    ⟨of_decide_eq_true (id (Eq.refl true)),
     Eq.trans func204
      (congrArg some
       kR)⟩,
  f26 :=
   Exists.intro "slices.partitionEqualCmpFunc[cocycle/api.Side]"
    ⟨of_decide_eq_true (id (Eq.refl true)),
     Eq.trans func205
      (congrArg some
       kR)⟩,
  f27 :=
   Exists.intro "slices.partitionCmpFunc[cocycle/api.Side]"
    ⟨of_decide_eq_true (id (Eq.refl true)),
     Eq.trans func206
      (congrArg some
       kR)⟩,
  f28:=Eq.trans func157 (congrArg some kR),
  f29:=Eq.trans func158 (congrArg some kR),
  f46 :=
   Exists.intro "slices.siftDownCmpFunc[cocycle/api.Side]"
    ⟨of_decide_eq_true (id (Eq.refl true)),
     Eq.trans func217
      (congrArg some
       kR)⟩,
  f47:=Eq.trans func186 (congrArg some kR),
  f48:=Eq.trans func187 (congrArg some kR),
  f49 :=
   Exists.intro "slices.medianAdjacentCmpFunc[cocycle/api.Side]"
    ⟨of_decide_eq_true (id (Eq.refl true)),
     Eq.trans func218
      (congrArg some
       kR)⟩,
  f50 :=
   Exists.intro "slices.medianCmpFunc[cocycle/api.Side]"
    ⟨of_decide_eq_true (id (Eq.refl true)),
     Eq.trans func219
      (congrArg some
       kR)⟩,
  f57 :=
   Exists.intro "slices.order2CmpFunc[cocycle/api.Side]"
    ⟨of_decide_eq_true (id (Eq.refl true)),
     Eq.trans func225
      (congrArg some
       kR)⟩,
  t0:=underlying0,a0:=isAgg0,z0:=sizeOf0,v0:=zeroValue0,t3:=uT3,
  a3:=iT3,z3:=zT3,v3:=zeroValue3,t4:=uT4,a4:=isAgg4,
  z4:=zT4,v4:=zeroValue4,t5:=uT5,a5:=isAgg5,z5:=sizeOf5,
  v5:=zeroValue5,t9:=uT9,a9:=isAgg9,z9:=sizeOf9,v9:=zeroValue9,
  t22:=aN,a22:=bw,z22:=aU,v22:=zeroValue32,
  t25:=underlying174,a25:=isAgg174,z25:=sizeOf174,v25:=zeroValue174,
  t39:=ft,a39:=isAgg170,z39:=sizeOf170,v39:=zeroValue170,
  t45:=underlying185,a45:=isAgg185,z45:=sizeOf185,v45:=zeroValue185,
  t46:=underlying186,a46:=isAgg186,z46:=sizeOf186,v46:=zeroValue186,
  t50:=underlying118,a50:=isAgg118,z50:=sizeOf118,v50:=zeroValue118,
  t53:=underlying192,a53:=isAgg192,z53:=sizeOf192,v53:=zeroValue192,
  t55:=lv,a55:=isAgg114,z55:=sizeOf114,v55:=zeroValue114,
  t66:=underlying214,a66:=isAgg214,z66:=sizeOf214,v66:=zeroValue214,
  t70:=underlying218,a70:=isAgg218,z70:=sizeOf218,v70:=zeroValue218,
  t76:=underlying239,a76:=isAgg239,z76:=sizeOf239,v76:=zeroValue239,
  t77:=underlying240,a77:=isAgg240,z77:=sizeOf240,v77:=zeroValue240 }
instance:Inhabited Side:=⟨⟨0,0⟩⟩
def pE (x y:Side):Int:=orI [jG x.cell y.cell,jG x.sign y.sign]
theorem gw (x y:Side):pE x y<0↔x.cell<y.cell∨(x.cell=y.cell∧x.sign<y.sign):=by
 unfold pE orI orI orI jG;split <;> split <;> (try split)<;>(try split)<;>simp_all <;> omega
theorem Ca:SWO (ltOf pE):=⟨fun x=>by simp[ltOf,gw],fun x y z h1 h2=>by simp[ltOf,gw] at *; omega,fun x y z h1 h2=>by simp[ltOf,gw] at *; omega⟩
def As (l:List Side):Prop:=l.Pairwise fun x y=>¬ pE y x<0
theorem oN {l m:List Side}(hl:As l)(hm:As m)(hp:l.Perm m):l=m:=by
 refine hp.eq_of_pairwise (le:=fun x y=>¬ pE y x<0) (fun x y _ _ h1 h2=>?_) hl hm;rw[gw] at h1 h2;obtain ⟨xc,xs⟩:=x;obtain ⟨yc,ys⟩:=y;dsimp only at h1 h2;have e1:xc=yc:=oM;have e2:xs=ys:=oM;rw[e1,e2]
theorem Be:B9 Tryz.prog 147 encSide.enc pE:=by
 intro E g s x y;obtain ⟨x1,x2⟩:=x;obtain ⟨y1,y2⟩:=y;refine Ctr.of (args:=[.agg #[vi x1,vi x2],.agg #[vi y1,vi y2]]) func147 I ntmps147 (bE I) ?_;refine rZ (bW (bO I) fun b2=>?_);refine bW (bO I) fun b3=>?_;refine aT I (sQ ?_);refine dW [] [(0,2),(1,1),(2,2),(3,1),(5,2),(6,1),(7,2),(8,1),(4,0),(9,0),(10,0),(11,0),(12,2)] Tryz.mixed kR ?_;refine pU I (fA cl I zT3 I) (pK I (qL (v:=vi x1) iT3 I (cO 1 I I)) (pU I (fA cl I zT3 I) (pK I (qL (v:=vi y1) iT3 I (cO 0 I I)) (pU I (fA cl I zT3 I) (pK I (qL (v:=vi x2) iT3 I (cO 1 I I)) (pU I (fA cl I zT3 I) (pK I (qL (v:=vi y2) iT3 I (cO 0 I I)) (SP.o I (cL call90 I (dU E g _ x1 y1)) dC (.inr iW9) ?_))))))));rintro _ _ _ ⟨rfl,rfl,rfl⟩;refine SP.o I (cL call90 I (dU E g _ x2 y2)) dC (.inr iW9) ?_;rintro _ _ _ ⟨rfl,rfl,rfl⟩;refine SP.o I (bS sty83 I I I (ae sB) dC) dC (.inr iW9) ?_;rintro _ _ _ ⟨b15,rfl,rfl,rfl⟩;refine SP.o I (cL call140 I (wE E g _ _ [jG x1 y1,jG x2 y2] (Rd.pt 0 I) ⟨_,_,I⟩ (fun _=>I) (by simp))) dC (.inr iW9) ?_;rintro _ _ _ ⟨rfl,rfl,rfl⟩;refine pU I (aS I) (pN (tN (rE (dR (s':=s) uR ?_))));exact ST.ret1 (.inl I) results147 I ⟨I,I,I⟩
theorem xk (E:World)(g:PH)(s:Own)(v:Value)(l:List Side)(i:Nat)(hi:s[i]?=some (rowA encSide 55 v l))(hl:l.length<1099511627776) :
  Ctr Tryz.prog E 146 #[v,.func (.func 147) #[] #[]] g s (fun _ g' s'=>g=g'∧∃ l',l'.Perm l∧As l'∧s'=s.set i (rowA encSide 55 v l')) :=
 ud Tryz.sortSd encSide eu aG pE Ca 147 call147 Be 55 E g s v l i hi hl
def dQ (f:Int→Option Int)(x:Side):Side:=⟨(f x.cell).getD x.cell,x.sign⟩
theorem iX (E:World)(g:PH)(s:Own)(v:Value)(l:List Side)(bb:Nat)(pm:List (Int×Value))(f:Int→Option Int)(hv:SlA encSide g v l)(hl:l.length<1099511627776)(hb:Mp g bb pm)(hf:∀ k,dK pm k=(f k).map vi) :
  Ctr Tryz.prog E 126 #[v,.map (some bb)] g s (fun r g' s'=>g=g'∧∃ l',l'.Perm (l.map (dQ f))∧As l'∧s'=rowA encSide 55 r l'::s):=by
 obtain ⟨p,c,rfl⟩:=SlA.form hv;refine Ctr.of (args:=[.slice p l.length c,.map (some bb)]) func126 I ntmps126 (bE I) ?_;refine rZ (aT I (sW I (lW (cL call83 I (sC E g _ _ l hv hl)) ?_)));rintro v11 _ _ ⟨rfl,rfl⟩;refine SL.facts fun ⟨w0,hw0⟩=>?_;obtain ⟨q,d,rfl⟩:=ah (e:=encSide) (l:=l) (i:=0) hw0 rfl;have hbb:0<l.length→based (.slice q l.length d)=true:=fun h=>(by obtain ⟨b,c',hv'⟩:=aV (e:=encSide) (l:=l) (i:=0) hw0 rfl h; rw[hv']; rfl);clear hw0 w0;refine aT I (sQ (sW I (lU (eN aN I) (lM I (tZ (bK ?_))))));refine oP (ι:=Nat) (fun k=>[(1,.map (some bb)),(5,.slice q l.length d),(12,.slice q l.length d),(13,vi l.length),(14,vi k)]) (fun _=>g) (fun k=>rowA encSide 55 (.slice q l.length d) ((l.take k).map (dQ f)++l.drop k)::s)
  (fun k=>k≤l.length) (fun k=>l.length - k) 0 sB rfl (by simp) (Nat.zero_le _) ?_
 rintro k hk;try dsimp only at hk ⊢
 refine rZ (lU (lS I I) (tZ (sQ ?_)));refine iP I (fun hlt=>?_) (fun hlt=>?_)
 ·have hkl:k<l.length:=oM;have hb1:=hbb oM;have hcur:((l.take k).map (dQ f)++l.drop k)[((k:Nat):Int).toNat]?=some l[k]:=by
   show ((l.take k).map (dQ f)++l.drop k)[k]?=_;rw[List.getElem?_append_right (by rw[List.length_map,List.length_take]; omega),List.length_map,List.length_take,show k - min k l.length=0 by omega,List.drop_eq_getElem_cons hkl];rfl
  have hnext:(l.take (k+1)).map (dQ f)++l.drop (k+1)=((l.take k).map (dQ f)++l.drop k).set k (dQ f l[k]):=by
   rw[tS hkl,List.map_append,List.append_assoc,List.set_append_right _ _ (by rw[List.length_map,List.length_take]; omega),List.length_map,List.length_take,show k - min k l.length=0 by omega];congr 1;rw[List.drop_eq_getElem_cons hkl];rfl
  have hself:f l[k].cell=none→((l.take k).map (dQ f)++l.drop k).set k (dQ f l[k])=(l.take k).map (dQ f)++l.drop k:=fun h=>by
   have h2:dQ f l[k]=l[k]:=by unfold dQ; rw[h]; rfl
   rw[h2];exact mh hcur
  have hlen2:((l.take k).map (dQ f)++l.drop k).length=l.length:=by simp; omega
  generalize l[k]=x at *;obtain ⟨xc,xs⟩:=x;generalize hcu:(l.take k).map (dQ f)++l.drop k=L at *;dsimp only at hself;cases hfx:f xc with
  | none =>
   refine kP (tN (sQ (bK (sW I (lU (iA aN aG I I hb1 oM sL) (lK (eA eu aG I (Rd.rowA 0 I) hcur) (bW (aL zeroValue55) fun b7=>?_)))))));refine lA I (oZ (sK 0 aG I I I I I sB) ?_);refine tZ (sW rfl (lU (fA cl rfl zT3 rfl) (lK (qL (v:=vi xc) iT3 rfl (cO 0 rfl rfl)) (lK (SQ.eq (v':=.tuple #[vi 0,vb false]) (SQ.lookupOk mty163 rfl rfl (cw.known hb)) (by rw[hf,hfx]; rfl)) ?_))));refine lM I (lU (xT I I) (lU (xT I I) (lA I (aT I (sW I (tZ (SC.condF I (kP (bN (tN (rG (lU (aD I I oM) (lM I (nL (dR (.cons _ (.refl _)) ?_)))))))))))))));exact gA (k+1) sB I (by rw[hnext,hself hfx]) oM oM
  | some t =>
   have hrep:dQ f ⟨xc,xs⟩=⟨t,xs⟩:=by unfold dQ; rw[hfx]; rfl
   rw[hrep] at hnext;refine kP (tN (sQ (bK (sW I (lU (iA aN aG I I hb1 oM sL) (lK (eA eu aG I (Rd.rowA 0 I) hcur) (bW (aL zeroValue55) fun b7=>?_)))))));refine lA I (oZ (sK 0 aG I I I I I sB) ?_);refine tZ (sW rfl (lU (fA cl rfl zT3 rfl) (lK (qL (v:=vi xc) iT3 rfl (cO 0 rfl rfl)) (lK (SQ.eq (v':=.tuple #[vi t,vb true]) (SQ.lookupOk mty163 rfl rfl (cw.known hb)) (by rw[hf,hfx]; rfl)) ?_))));refine lM I (lU (xT I I) (lU (xT I I) (lA I (aT I (sW I (tZ (SC.condT I (rG (lM I (lM I (lM I (lU (iA aN aG I I hb1 oM sL) (lU (fC cl I zT3 I hb1) (oZ (SO.partA (e:=encSide) (o:=0) 1 (⟨t,xs⟩:Side) zT3 I I I hcur I I dC I) (nL (bN (tN (rG (lU (aD I I oM) (lM I (nL (dR (.cons _ (.refl _)) ?_))))))))))))))))))))));exact gA (k+1) sB rfl (by rw[hnext]; rfl) oM oM
 ·have hall:(l.take k).map (dQ f)++l.drop k=l.map (dQ f):=by
   rw[tL oM,List.drop_of_length_le oM,List.append_nil]
  rw[hall];refine xI (tX (tX (bX (tN (sW I (lW (cL call146 I (xk E g _ _ (l.map (dQ f)) 0 I (by rw[List.length_map]; exact hl))) ?_))))));rintro _ _ _ ⟨rfl,l',hp,ha,rfl⟩;refine tZ (sW I (aT I (rE ?_)));exact ST.ret1 (.inl I) results126 I ⟨I,l',hp,ha,I⟩
end Go.Proofs.YtackilpikhkijaaGreatDoor
