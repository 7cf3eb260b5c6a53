/- 12 -/
import Derived.Test.YtcfkpajlakidbaaGreatTo11
import Derived.WideKeyArr
import Derived.Test.YtcfkpajlakidbaaGreatTo05
import Derived.Test.YtcfkpajlakidbaaGreatTo10
import Derived.Test.YtcfkpajlakidbaaGreatTo09
import Derived.Test.YtcfkpajlakidbaaGreatTo06
set_option linter.unusedSimpArgs false
set_option linter.unusedVariables false
namespace Go.Proofs.YtcfkpajlakidbaaGreat
open _root_.Go.Proofs.Tryz _root_.Go.Proofs.YtcfkpajlakidbaaGreat.Tryz
open Go Go.Sy Go.Pl Go.Proofs
set_option maxRecDepth 100000
set_option maxHeartbeats 2000000
def lP (L:List Cl)(T:List (List Int))(k:Nat):List Cl:=(L.zipIdx.take k).flatMap fun q=>(bH (tlB L 0 T q.1.id)).map (bq L T.length q.2 q.1)
theorem qH (L:List Cl)(T:List (List Int)):lP L T L.length=ke L T:=by
 unfold lP ke;rw[tL (by rw[List.length_zipIdx]; exact lR _)]
theorem vz {L:List Cl}{T:List (List Int)}{k:Nat}(h:k<L.length):lP L T (k+1)=lP L T k++(bH (tlB L 0 T L[k].id)).map (bq L T.length k L[k]):=by
 have hz:k<L.zipIdx.length:=by rw[List.length_zipIdx]; exact h
 unfold lP;rw[tS hz,List.flatMap_append,List.getElem_zipIdx,Nat.zero_add,zg8,List.flatMap_nil,zc2]
theorem BX (L:List Cl)(id:Int){T:List (List Int)}(hT:T.length≤6):tlB L 0 T id<64:=Nat.lt_of_lt_of_le (ia L id T) (yy hT)
theorem qG (L:List Cl){T:List (List Int)}(hT:T.length≤6)(k:Nat):(lP L T k).length≤L.length * 64:=by
 have h1:=o0 (fun q:Cl×Nat=>(bH (tlB L 0 T q.1.id)).map (bq L T.length q.2 q.1)) 64 (l:=L.zipIdx.take k) fun q _=>by
  rw[zd9];have:=pY (tlB L 0 T q.1.id);have:=BX L q.1.id hT;omega
 have h2:(L.zipIdx.take k).length≤L.length:=by rw[zd7,List.length_zipIdx]; omega
 exact zj8 h1 (Nat.mul_le_mul_right 64 h2)
theorem jZ {L:List Cl}(hL:Rt L){T:List (List Int)}(hT:T.length≤6):c4 (ke L T):=by
 refine⟨?_,fun c hc=>?_⟩
 ·rw[← qH];have h1:=qG L hT L.length;have h2:=hL.few;omega
 ·obtain ⟨q,hq,hz⟩:=List.mem_flatMap.1 hc;obtain ⟨s,hs,rfl⟩:=ze5.1 hz;have hy:q.1∈L:=zf5 (List.mem_zipIdx_iff_getElem?.1 hq);have h1:=(hL.form _ hy).cnt;have h2:=(hL.form _ hy).dim;simp only[ax,Bool.or_eq_false_iff,Bool.and_eq_false_iff,decide_eq_false_iff_not] at h1;have h3:=BX L q.1.id hT;have h4:=sub_le (co.1 hs).2;have h5:=oL s oM;show (ki L T.length q.2 q.1 s).length<_;rw[od,zd8,zd9];have h6:(if onesB s≤1 then ([]:List ah) else (eG s).zipIdx.map (vP T.length q.2 s q.1.dim)).length≤6:=by
   split
   ·simp
   ·rw[zd9,List.length_zipIdx];exact h5
  omega
theorem cG.mono {P:Program}{E:World}{v:Value}{args:List Value}{g:PH}{s:Own}{R R':Value→PH→Own→Prop}(h:cG P E v args g s R)(hr:∀ v g' s',R v g' s'→R' v g' s'):cG P E v args g s R':=by
 obtain ⟨n,cap,h1,h2,h3⟩:=h;exact⟨n,cap,h1,h2,h3.mono hr⟩
theorem mZ (E:World)(g:PH)(s:Own)(pv:Value)(L:List Cl)(T:List (List Int))(hcov:vW g pv L T)(hL:Rt L)(hT:T.length≤6) :
  Ctr Tryz.prog E 31 #[pv] g s (fun x g' s'=>s=s'∧Le g g'∧∃ u,x = .agg #[u]∧aq g' u (ct L T)):=by
 have hcov0:=hcov;obtain ⟨b,m,cv,iv,rfl,hb,hcv,hm,hiv⟩:=hcov;obtain ⟨us,hus,hallu⟩:=hcv;have hul:=hallu.length;obtain ⟨up,uc,rfl⟩:=za2 hus;obtain ⟨ip,ic,rfl⟩:=za2 hiv;have hfew:=hL.few;refine za9 (args:=[pp b 0]) func31 I ntmps31 (bE I) ?_;refine rZ (bW (bO I) fun b1=>?_);refine bW (aL zk3) fun b2=>?_;refine tZ (rZ (bW (aL zk3) fun b3=>?_));refine tZ (sQ (sQ (cP ((zj1 _ _ _).cons _ |>.trans (zj1 _ _ _)) (SC.freeze fun g1 hle1 hb1=>?_))));refine zb4 63 3 (cP (zj1 _ _ _) (rG (lK (qL (v:=pp b 0) isAgg65 I (cK hb1 I)) (lU (nC I) (lU (fA m4 I cw I) (lK (qL (v:=.slice up us.length uc) dV I (cK (hle1 _ _ hb) I)) (lU (eN aJ I) (lM I (tZ (bK ?_))))))))));refine oP (ι:=PH×Nat×Value×List Rc) (fun z=>[(1,pp b1 0),(2,pp b2 0),(3,pp b3 0),(9,.slice up us.length uc),(10,vi us.length),(11,vi z.2.1)]) (fun z=>z.1) (fun z=>pt b3 (.cells #[z.2.2.1] 30 (0,0))::rowA encCell 63 z.2.2.1 z.2.2.2::pt b2 (.cells #[.slice none 0 0] 30 (0,0))::s) (fun z=>Le g1 z.1∧z.2.1≤us.length∧aw (ay z.1) (lP L T z.2.1) z.2.2.2) (fun z=>us.length - z.2.1) (g1,0,.slice none 0 0,[]) sB I I ⟨zb7 _,ze9 _,trivial⟩ ?_;rintro ⟨g2,k,ov,rs⟩ ⟨hle2,hk,hacc⟩;dsimp only at hle2 hk hacc ⊢;refine rZ (yL I (tZ (sQ ?_)));refine iP I (fun hlt=>?_) (fun hlt=>?_)
 ·have hku:k<us.length:=oM;have hkl:k<L.length:=oM;have hb1':=za4 hus oM;have hgk:us[((k:Nat):Int).toNat]?=some us[k]:=gE hku;have hR:=hallu.get (gE hkl) (gE hku);have hyg:L[k]?=some L[k]:=gE hkl;have hsucc:=vz (T:=T) hkl;have hge:(L.map fun c=>((tlB L 0 T c.id:Nat):Int))[((k:Nat):Int).toNat]?=some ((tlB L 0 T L[k].id:Nat):Int):=by
   rw[zh3,show ((k:Nat):Int).toNat=k from rfl,hyg];rfl
  have hbi:=za4 hiv (by rw[zd9]; omega);have hin:=BX L L[k].id hT;have hklen:=qG L hT k;have hrl:=hacc.length;generalize L[k]=y at *;generalize us[k]=r at *;have hcall:∀ (b4 b5:Nat) (g4:PH),Le g2 g4→g4 b4=some (.cells #[vi k] 3 (0,0))→g4 b5=some (.cells (encCell.enc r).toArray 63 (0,0))→∀ pre t (z:PH×Value×List Rc),(Le g4 z.1∧aw (ay z.1) (lP L T k++pre.map (bq L T.length k y)) z.2.2)→pre.length≤tlB L 0 T y.id→0<t→t≤tlB L 0 T y.id→t &&& tlB L 0 T y.id=t→cG Tryz.prog E (.func (.func 66) #[] #[pp b1 0,pp b4 0,pp b5 0,pp b3 0]) [vi (t:Nat)] z.1 (pt b3 (.cells #[z.2.1] 30 (0,0))::rowA encCell 63 z.2.1 z.2.2::pt b2 (.cells #[.slice none 0 0] 30 (0,0))::s) (fun _ g' s'=>∃ j:PH×Value×List Rc,j.1=g'∧(pt b3 (.cells #[j.2.1] 30 (0,0))::rowA encCell 63 j.2.1 j.2.2::pt b2 (.cells #[.slice none 0 0] 30 (0,0))::s)=s'∧Le g4 j.1∧aw (ay j.1) (lP L T k++(pre++[t]).map (bq L T.length k y)) j.2.2):=by
   rintro b4 b5 g4 hle24 hb4 hb5 pre t ⟨g6,ov6,rs6⟩ ⟨hle6,hacc6⟩ hpl ht0 htb -;dsimp only at hle6 hacc6 ⊢;have hl6:=hacc6.length;rw[zd8,zd9] at hl6;refine cG.mono (vA E g6 _ b1 b4 b5 b3 (pp b 0) ov6 L T k t y r rs6 (hcov0.mono (hle1.trans (hle2.trans (hle24.trans hle6)))) hL hT hyg (hR.mono (hle1.trans (hle2.trans (hle24.trans hle6)))) ((hle2.trans (hle24.trans hle6)) _ _ hb1) (hle6 _ _ hb4) (hle6 _ _ hb5) oM ht0 oM) ?_;rintro _ g7 s7 ⟨hle7,ov7,r7,rfl,hc7⟩;refine⟨(g7,ov7,rs6++[r7]),I,I,hle6.trans hle7,?_⟩;rw[zf8,← zg2];exact (hacc6.mono fun _ _=>ay.mono hle7).append ⟨hc7,trivial⟩
  refine kP (tN (sQ (bK (sW I (lU (iA aJ az I I hb1' oM sL) (lK (eA eL az I (za5 (za3 hus (hle1.trans hle2))) hgk) (bW (aL zk6) fun b4=>?_)))))));refine bW (aL zk4) fun b5=>?_;refine oZ (SO.store1 1 zT3 I I I I (by show 0<1; decide) I) ?_;refine oZ (sK 0 az I I I I I sB) (tZ (SC.freeze fun g3 hle3 hb5=>?_));refine SC.freeze fun g4 hle4 hb4=>?_;have hle24:=hle3.trans hle4;have hle04:=hle1.trans (hle2.trans hle24);refine dW [8] [(0,1),(1,2),(2,2),(3,1),(4,1),(5,2),(6,1),(7,2),(8,0)] zd6 kR ?_;refine pK I (qL (v:=pp b 0) isAgg65 I (cK ((hle2.trans hle24) _ _ hb1) I)) (pU I (nC I) (pU I (fA m4 I cg I) (pK I (qL (v:=.slice ip (L.map fun c=>((tlB L 0 T c.id:Nat):Int)).length ic) dG I (cK (hle04 _ _ hb) I)) ?_)));refine pK I (qL (v:=vi k) iT3 I (cK hb4 I)) (pU I (iA aj zT3 I I hbi oM (by simp only[slen,zd9]; omega)) ?_);refine pK I (eB iT3 I (za5 (za3 hiv hle04)) hge I) (pU I (SU.mkFunc I) (SP.o I (cL call65 I (uK E (ι:=PH×Value×List Rc) (fun z=>z.1) (fun z=>pt b3 (.cells #[z.2.1] 30 (0,0))::rowA encCell 63 z.2.1 z.2.2::pt b2 (.cells #[.slice none 0 0] 30 (0,0))::s) (fun done z=>Le g4 z.1∧aw (ay z.1) (lP L T k++done.map (bq L T.length k y)) z.2.2) _ _ (tlB L 0 T y.id) hin (g4,ov,rs) ⟨zb7 _,by rw[List.map_nil,zc2]; exact hacc.mono fun _ _=>ay.mono hle24⟩ (hcall b4 b5 g4 hle24 hb4 (hle4 _ _ hb5)))) dC (.inl dC) ?_));rintro _ _ _ ⟨⟨g5,ov5,rs5⟩,rfl,rfl,hle5,hacc5⟩;refine pN (bN (tN (rG (yD I (lM I (nL ?_))))));rw[← hsucc] at hacc5;exact gA (g5,k+1,ov5,rs5) sB I I ⟨hle2.trans (hle24.trans hle5),by dsimp only; omega,hacc5⟩ (by dsimp only; omega)
 ·have hkk:k=L.length:=oM;subst hkk;rw[qH] at hacc;refine cP (zj1 _ _ _) (fS fun g5 hle5 hs5=>?_);have hcells:aq g5 ov (ke L T):=⟨rs,hs5,hacc.mono fun _ _=>ay.mono hle5⟩;refine xI (tX (tX (bX (tN (rZ (lK (qV 0 bD aA I I I) (lW (cL call51 I (i6 E g5 _ _ (ke L T) hcells (jZ hL hT))) ?_)))))));rintro _ g6 _ ⟨rfl,hle6,u,rfl,hu⟩;obtain ⟨qp,qc,rfl⟩:=hu.form;refine oZ (sK 1 aA I I I I I ⟨I,trivial⟩) (tZ (rE ?_));exact ST.retCD 1 s (.inl I) results31 I bD aA I I uR ⟨I,hle1.trans (hle2.trans (hle5.trans hle6)),_,I,hu⟩
open Go Go.Sy Go.Pl Go.Proofs Go.WideMaps
set_option maxHeartbeats 1000000
def kV (a b c:Int):Value:=.agg #[vi a,vi b,vi c]
theorem BN:ArrKey Tryz.prog 35 3 3:=⟨underlying35,by kernel_rfl,by kernel_rfl,by kernel_rfl⟩
def sml (a:Int):Prop:=a.natAbs≤1000000
theorem B5 {a b c:Int}(ha:sml a)(hb:sml b)(hc:sml c):∃ l,keyOf Tryz.prog 35 (kV a b c)=some l:=by
 have w1:∀ x:Int,sml x→(Lit.int .i64 x).wf=true:=fun x hx=>by
  unfold sml at hx;simp[Lit.wf,IntKind.min,IntKind.max,IntKind.bits,IntKind.signed];omega
 have h1:Tryz.prog.keyType 35=true:=by kernel_rfl
 have ⟨m,hm⟩:∃ m,Tryz.prog.types.size=m+1:=⟨Tryz.prog.types.size - 1,by kernel_rfl⟩;have c1:Tryz.prog.cellsOf 3=1:=by kernel_rfl
 have c3:Tryz.prog.cellsOf 35=3:=by kernel_rfl
 have h3:(kV a b c).formed Tryz.prog 35=true:=by
  unfold kV Value.formed;rw[underlying35,c3];rfl
 have h4:∀ x:Int,sml x→Tryz.prog.keyLits (m+1) 3 [vi x]=some [.int .i64 x]:=fun x hx=>by
  unfold Program.keyLits;rw[uT3];simp[w1 x hx]
 have h5:Tryz.prog.keyLits (m+1+1) 35 (kV a b c).cells.toList=some [.int .i64 a,.int .i64 b,.int .i64 c]:=by
  unfold Program.keyLits;rw[underlying35];simp only[c1,c3];rw[zf4 (show (kV a b c).cells.toList.length=3 from rfl)];have r3:List.range 3=[0,1,2]:=rfl;have e0:(((kV a b c).cells.toList).drop (0 * 1)).take 1=[vi a]:=rfl;have e1:(((kV a b c).cells.toList).drop (1 * 1)).take 1=[vi b]:=rfl;have e2:(((kV a b c).cells.toList).drop (2 * 1)).take 1=[vi c]:=rfl;rw[r3];simp only[List.mapM_cons,List.mapM_nil,e0,e1,e2,h4 a ha,h4 b hb,h4 c hc];rfl
 unfold keyOf;rw[underlying35];simp only[h1,h3,Bool.and_self,if_true];rw[hm,h5];exact⟨_,I⟩
def knE (m:Nat)(F:Int→Int→Int→Int):Ent:=⟨some m,fun oo=>∃ es clk,oo=some (.map es clk)∧∀ e∈es.toList,∃ a b c:Int,sml a∧sml b∧sml c∧e.key=kV a b c∧e.val=vi (F a b c)⟩
theorem Cj {a b c a' b' c':Int}(h:kV a b c=kV a' b' c'):a=a'∧b=b'∧c=c':=by
 unfold kV at h;simpa using h
section
variable {N:Nat}{E:World}{f:Fr}{g:PH}{s:Own}{dst:Option Tmp}{ty:TypeId}{pos:String}{af:Array Edge}{gd:Option (Nat×Bool)}{x y u:Operand}{m:Nat}{F:Int→Int→Int→Int}{a b c:Int}
theorem SO.mkKn:SO Tryz.prog N E ⟨dst,.makeMap 70 none,ty,pos,af,gd⟩ f g s fun u g' s'=>∃ b,u = .map (some b)∧g=g'∧s'=knE b F::s :=
 SO.of_run fun a w _ hw=>⟨.map (some w.heap.size),_,g,_,by simp[execOp,Instr.makeMap],hw.alloc (e:=knE w.heap.size F) rfl ⟨#[],0,rfl,by simp⟩,_,rfl,rfl,rfl⟩
theorem SO.lookK (i:Nat)(hi:s[i]?=some (knE m F))(hx:ev f x=some (.map (some m)))(hy:ev f y=some (kV a b c))(ha:sml a)(hb:sml b)(hc:sml c) :
  SO Tryz.prog N E ⟨dst,.lookup 70 x y true,ty,pos,af,gd⟩ f g s fun v g' s'=>(∃ n t,v = .tuple #[vi n,vb t]∧(t=true→n=F a b c))∧g=g'∧s=s' :=
 SO.of_run fun ac w hac hw=>by
  have h0:=hw.own _ (zf5 hi);simp only[knE,Option.bind_some] at h0;obtain ⟨es,clk,h1,h2⟩:=h0;obtain ⟨l,hl⟩:=B5 ha hb hc;have h3:=BN.law.check w es.isEmpty hl;have h4:=BN.law.find w hl es.toList fun e he=>by
   obtain ⟨a',b',c',ha',hb',hc',hk,_⟩:=h2 e he;rw[hk];exact B5 ha' hb' hc'
  rcases h4 with ⟨h4,_⟩ | ⟨j,e,h4,h5,h6⟩
  ·refine⟨.tuple #[vi 0,vb false],w,g,s,?_,hw,⟨0,false,I,fun h=>by cases h⟩,I,I⟩;simp[execOp,hac.ev hx,hac.ev hy,Instr.lookup,run_underlying underlying70,MapKept.run_getObj_map h1,h3,h4,zk6]
  ·obtain ⟨a',b',c',ha',hb',hc',hk,hv⟩:=h2 e (zf5 h5);rw[h6] at hk;obtain ⟨rfl,rfl,rfl⟩:=Cj hk;refine⟨.tuple #[vi (F a b c),vb true],w,g,s,?_,hw,⟨_,true,I,fun _=>I⟩,I,I⟩;simp[execOp,hac.ev hx,hac.ev hy,Instr.lookup,run_underlying underlying70,MapKept.run_getObj_map h1,h3,h4,hv]
theorem SO.mapK (i:Nat)(hi:s[i]?=some (knE m F))(hx:ev f x=some (.map (some m)))(hy:ev f y=some (kV a b c))(hu:ev f u=some (vi (F a b c)))(ha:sml a)(hb:sml b)(hc:sml c) :
  SO Tryz.prog N E ⟨dst,.mapUpdate 70 x y u,ty,pos,af,gd⟩ f g s fun _ g' s'=>g=g'∧s=s' :=
 SO.of_skip fun ac w hac hw=>by
  have h0:=hw.own _ (zf5 hi);simp only[knE,Option.bind_some] at h0;obtain ⟨es,clk,h1,h2⟩:=h0;obtain ⟨l,hl⟩:=B5 ha hb hc;have h3:=BN.law.check w false hl;have h4:=BN.law.find w hl es.toList fun e he=>by
   obtain ⟨a',b',c',ha',hb',hc',hk,_⟩:=h2 e he;rw[hk];exact B5 ha' hb' hc'
  have hfr:=hw.fresh _ (zf5 hi) m rfl;have fin:∀ (es':Array MapEntry) (clk':Nat),(∀ e∈es'.toList,∃ a b c:Int,sml a∧sml b∧sml c∧e.key=kV a b c∧e.val=vi (F a b c))→At E g s { w with heap:=w.heap.setIfInBounds m (.map es' clk') }:=fun es' clk' h=>by
   obtain ⟨e1,e2⟩:=MapKept.heap_set (o':=.map es' clk') h1;have h7:=hw.turn (w':={ w with heap:=w.heap.setIfInBounds m (.map es' clk') }) (e':=knE m F) hi rfl ⟨rfl,lR _⟩ rfl (by simp) (fun q _ hne=>e2 q (fun e=>hne (by simp[knE,e]))) ⟨es',clk',by simpa [knE] using e1,h⟩ (fun b' hb'=>by
    simp only[knE,zg1] at hb';subst hb';exact⟨by simpa using hfr.2,.inl I⟩)
   rwa [ld hi] at h7
  rcases h4 with ⟨h4,_⟩ | ⟨j,e,h4,h5,h6⟩
  ·refine⟨_,g,s,?_,fin (es.push { key:=kV a b c,val:=vi (F a b c),born:=clk }) (clk+1) fun e he=>?_,I,I⟩
   ·simp[execOp,hac.ev hx,hac.ev hy,hac.ev hu,Instr.mapUpdate,run_underlying underlying70,MapKept.run_getObj_map h1,h3,h4,MapKept.run_setObj_map _ h1]
   ·rw[Array.toList_push,ze6,zh1] at he
    rcases he with he | rfl
    ·exact h2 e he
    ·exact⟨a,b,c,ha,hb,hc,I,I⟩
  ·have hje:es[j]?=some e:=by rw[← Array.getElem?_toList]; exact h5
   have h8:=BN.law.stays w hl;refine⟨_,g,s,?_,fin (es.modify j fun e=>{ e with key:=kV a b c,val:=vi (F a b c) }) clk fun e' he'=>?_,I,I⟩
   ·simp[execOp,hac.ev hx,hac.ev hy,hac.ev hu,Instr.mapUpdate,run_underlying underlying70,MapKept.run_getObj_map h1,h3,h4,hje,h6,h8,MapKept.run_setObj_map _ h1]
   ·rw[Array.toList_modify] at he';obtain ⟨q,hq⟩:=List.mem_iff_getElem?.1 he';rw[List.getElem?_modify] at hq;by_cases e0:j=q
    ·subst e0;rw[h5] at hq;simp at hq;subst hq;exact⟨a,b,c,ha,hb,hc,I,I⟩
    ·simp only[e0,if_false] at hq;have:es.toList[q]?=some e':=by simpa using hq
     exact h2 e' (zf5 this)
end
abbrev Mk:=List (Int×Value×List Rc)
def eR (ms:Mk):Own:=ms.map fun t=>rowA encCell 63 t.2.1 t.2.2
def m6 (ms:Mk):List (Int×Value):=ms.map fun t=>(t.1,t.2.1)
def nq (ms:Mk):List (Int×List Rc):=ms.map fun t=>(t.1,t.2.2)
def yv:List (Int×List Rc)→Int→Rc→List (Int×List Rc)
 | [],k,x=>[(k,[x])]
 | (a,l)::r,k,x=>if k=a then (a,l++[x])::r else (a,l)::yv r k x
def lq:List (Int×List Rc)→Int→List Rc
 | [],_=>[]
 | (a,l)::r,k=>if k=a then l else lq r k
theorem tV (x:Rc)(k d:Int):∀ l:List (Int×List Rc),lq (yv l k x) d=if d=k then lq l k++[x] else lq l d
 | []=>by
  unfold yv lq;split <;> rfl
 | (a,l)::r=>by
  unfold yv;by_cases h:k=a
  ·subst h;rw[zf4 rfl];unfold lq;by_cases e:d=k
   ·subst e; simp
   ·rw[zf3 e,zf3 e,zf3 e]
  ·rw[zf3 h];unfold lq;by_cases e:d=a
   ·subst e;rw[zf4 rfl,zf3 (fun q=>h q.symm),zf4 rfl]
   ·rw[zf3 e,zf3 h,zf3 e,tV x k d r]
theorem Tryz.mty69:MTy Tryz.prog 69 3 28 (.slice none 0 0):=⟨underlying69,underlying3,zeroValue28⟩
theorem CB (ms:Mk)(k:Int):∃ (ms':Mk) (j:Nat) (v:Value) (l:List Rc),lq (nq ms) k=l∧ms'[j]?=some (k,v,l)∧(e8 (m6 ms) k).getD (.slice none 0 0)=v∧(∀ v' x,jb (m6 ms) k v'=m6 (ms'.set j (k,v',l++[x]))) ∧
  (∀ v' x,nq (ms'.set j (k,v',l++[x]))=yv (nq ms) k x)∧(∀ B,(∀ t∈ms,t.2.2.length≤B)→∀ t∈ms',t.2.2.length≤B)∧∀ E g (hd s:Own) w,At E g (hd++(eR ms++s)) w→At E g (hd++(eR ms'++s)) w:=by
 induction ms with
 | nil =>
  refine⟨[(k,.slice none 0 0,[])],0,.slice none 0 0,[],I,I,I,fun v' x=>I,fun v' x=>by simp[nq,yv],fun B _ t ht=>by simp at ht; subst ht; simp,fun E g hd s w h=>?_⟩;have h1:=h.nilRow 63 3;refine h1.perm ?_;simp only[eR,List.map_nil,List.nil_append,zf7,List.singleton_append];exact List.perm_middle.symm
 | cons p r ih =>
  obtain ⟨a,u,l0⟩:=p;by_cases hk:k=a
  ·subst hk;refine⟨(k,u,l0)::r,0,u,l0,by simp[nq,lq],I,by simp[m6,bI],fun v' x=>by simp[m6,jb],fun v' x=>by simp[nq,yv],fun B h=>h,fun E g hd s w h=>h⟩
  ·obtain ⟨ms',j,v,l,h0,h1,h2,h3,h4,h6,h5⟩:=ih;refine⟨(a,u,l0)::ms',j+1,v,l,by rw[← h0]; simp[nq,lq,hk],by simpa using h1,?_,fun v' x=>?_,fun v' x=>?_,fun B h t ht=>?_,fun E g hd s w h=>?_⟩
   ·rw[← h2];simp[m6,bI,hk]
   ·have:=h3 v' x;simp only[m6,zf7,jb,List.set_cons_succ] at this ⊢;rw[zf3 hk,this]
   ·have:=h4 v' x;simp only[nq,zf7,yv,List.set_cons_succ] at this ⊢;rw[zf3 hk,this]
   ·rcases ze4.1 ht with rfl | ht
    ·exact h _ (by simp)
    ·exact h6 B (fun t ht=>h t (by simp[ht])) t ht
   ·have:=h5 E g (hd++[rowA encCell 63 u l0]) s w (by simpa [eR] using h);simpa [eR] using this
theorem xw {ms:Mk}{j:Nat}{k:Int}{v:Value}{l:List Rc}(h:ms[j]?=some (k,v,l))(s:Own):(eR ms++s)[j]?=some (rowA encCell 63 v l):=by
 have hj:=(ze8.1 h).1;rw[zg5 (by simpa [eR] using hj)];simp[eR,h]
theorem xu {ms:Mk}{j:Nat}{k:Int}{v v':Value}{l l':List Rc}(h:ms[j]?=some (k,v,l))(s:Own):(eR ms++s).set j (rowA encCell 63 v' l')=eR (ms.set j (k,v',l'))++s:=by
 have hj:=(ze8.1 h).1;rw[List.set_append_left _ _ (by simpa [eR] using hj)];simp[eR,List.map_set]
theorem freezeKs {E:World}{w:World}:∀ (ms:Mk) (g:PH) (s:Own),At E g (eR ms++s) w→∃ g',Le g g'∧At E g' s w∧∀ t∈ms,SlA encCell g' t.2.1 t.2.2
 | [],g,s,h=>⟨g,zb7 g,h,by simp⟩
 | (a,v,l)::r,g,s,h=>by
  have h':At E g (row 63 3 v l.length (l.flatMap encCell.enc)::(eR r++s)) w:=h;obtain ⟨g1,hl1,h1,h2⟩:=h'.freezeRow;obtain ⟨g2,hl2,h3,h4⟩:=freezeKs r g1 s h1;refine⟨g2,hl1.trans hl2,h3,fun t ht=>?_⟩
  rcases ze4.1 ht with rfl | ht
  ·exact Sl.mono h2 hl2
  ·exact h4 t ht
theorem SC.freezeKs {P:Program}{N:Nat}{E:World}{c:Code}{Q:Exit→Act→World→Prop}{f:Fr}{g:PH}{s:Own}{ms:Mk}(h:∀ g',Le g g'→(∀ t∈ms,SlA encCell g' t.2.1 t.2.2)→SC P N E c Q f g' s):SC P N E c Q f g (eR ms++s):=fun a w ha hw=>by
 obtain ⟨g',h1,h2,h3⟩:=Go.Proofs.YtcfkpajlakidbaaGreat.freezeKs ms g s hw;exact h g' h1 h3 a w ha h2
theorem tM:∀ (ms:Mk) (d:Int),∃ v,(e8 (m6 ms) d).getD (.slice none 0 0)=v∧((∃ t∈ms,t.1=d∧t.2.1=v∧t.2.2=lq (nq ms) d)∨(v = .slice none 0 0∧lq (nq ms) d=[]))
 | [],d=>⟨_,rfl,.inr ⟨rfl,rfl⟩⟩
 | (a,u,l)::r,d=>by
  obtain ⟨v,h1,h2⟩:=tM r d;by_cases e:d=a
  ·subst e;refine⟨u,by simp[m6,bI],.inl ⟨(d,u,l),by simp,I,I,?_⟩⟩;simp[nq,lq]
  ·refine⟨v,?_,?_⟩
   ·rw[← h1];simp[m6,bI,e]
   ·have e2:lq (nq ((a,u,l)::r)) d=lq (nq r) d:=by simp[nq,lq,e]
    rw[e2]
    rcases h2 with ⟨t,h3,h4⟩ | h2
    ·exact .inl ⟨t,by simp[h3],h4⟩
    ·exact .inr h2
theorem x4 {rs:List Rc}{k:Nat}(h:k<rs.length)(d:Int):(rs.take (k+1)).filter (fun r=>decide (r.dim=d))=if d=rs[k].dim then (rs.take k).filter (fun r=>decide (r.dim=d))++[rs[k]] else (rs.take k).filter fun r=>decide (r.dim=d):=by
 rw[tS h,zg9];by_cases e:d=rs[k].dim
 ·rw[zf4 e,List.filter_cons_of_pos (by simpa using e.symm)];rfl
 ·rw[zf3 e,List.filter_cons_of_neg (by simpa using fun q=>e q.symm)];simp
theorem ln {g:PH}:∀ {l:List Cl} {rs:List Rc},aw (ay g) l rs→∀ d:Int,aw (ay g) (l.filter fun c=>decide (c.dim=d)) (rs.filter fun r=>decide (r.dim=d))
 | [],[],_,_=>trivial
 | c::l,r::rs,h,d=>by
  obtain ⟨h1,h2⟩:=h;have ih:=ln h2 d;rw[zh9,zh9,h1.2.1];split
  ·exact⟨h1,ih⟩
  ·exact ih
def ByR (g:PH)(m:Nat)(B:List Cl):Prop:=∃ prs,Mp g m prs∧∀ d,∃ v rs,(e8 prs d).getD (.slice none 0 0)=v∧SlA encCell g v rs∧aw (ay g) (B.filter fun c=>decide (c.dim=d)) rs
theorem ByR.mono {g g':PH}{m:Nat}{B:List Cl}(h:ByR g m B)(hl:Le g g'):ByR g' m B:=by
 obtain ⟨prs,h1,h2⟩:=h;refine⟨prs,h1.mono hl,fun d=>?_⟩;obtain ⟨v,rs,h3,h4,h5⟩:=h2 d;exact⟨v,rs,h3,za3 h4 hl,h5.mono fun _ _=>ay.mono hl⟩
theorem Cs {g:PH}{m:Nat}{B:List Cl}{rs:List Rc}{ms:Mk}(hm:Mp g m (m6 ms))(hk:∀ t∈ms,SlA encCell g t.2.1 t.2.2)(hall:aw (ay g) B rs)(hc:∀ d,lq (nq ms) d=rs.filter fun r=>decide (r.dim=d)):ByR g m B:=by
 refine⟨m6 ms,hm,fun d=>?_⟩;obtain ⟨v,h1,h2⟩:=tM ms d;refine⟨v,_,h1,?_,ln hall d⟩;rw[← hc d]
 rcases h2 with ⟨t,h3,h4,h5,h6⟩ | ⟨h3,h4⟩
 ·rw[← h5,← h6];exact hk t h3
 ·rw[h3,h4];exact zb8 g _
theorem vd:∀ n:Nat,n≤6→∀ m:Nat,m<4611686018427387904→IntKind.i64.wrap (BitVec.ofInt IntKind.i64.bits (m:Int) &&& BitVec.ofInt IntKind.i64.bits ((2 ^ n:Nat) - 1:Int)).toNat=((m % 2 ^ n:Nat):Int):=fun n hn m h=>by
 have h1:(BitVec.ofInt IntKind.i64.bits (m:Int) &&& BitVec.ofInt IntKind.i64.bits ((2 ^ n:Nat) - 1:Int)).toNat=m % 2 ^ n:=by
  have hb:IntKind.i64.bits=64:=rfl;rw[hb,BitVec.toNat_and];have e1:(BitVec.ofInt 64 (m:Int)).toNat=m:=by
   rw[BitVec.toNat_ofInt];omega
  have hp:=yy hn;have hp0:0<2 ^ n:=Nat.two_pow_pos n;have e2:(BitVec.ofInt 64 ((2 ^ n:Nat) - 1:Int)).toNat=2 ^ n - 1:=by
   rw[BitVec.toNat_ofInt];omega
  rw[e1,e2,Nat.and_two_pow_sub_one_eq_mod]
 have hm:m % 2 ^ n≤m:=Nat.mod_le _ _;rw[h1];exact zk1 _ oM
theorem mT (E:World)(g:PH)(s:Own)(v:Value)(L:List Cl)(T:List (List Int))(id:Int)(hv:vW g v L T)(hT:T.length≤6)(h0:0≤id)(h1:id<4611686018427387904) :
  Ctr Tryz.prog E 103 #[v,vi id] g s (fun x g' s'=>x=vi (ii T.length id)∧g=g'∧s=s'):=by
 obtain ⟨b,m,cv,iv,rfl,hb,-⟩:=hv;have hp:=yy hT;have hp0:0<2 ^ T.length:=Nat.two_pow_pos _;have hml:id.toNat % 2 ^ T.length<64:=Nat.lt_of_lt_of_le (Nat.mod_lt _ hp0) hp;have hmask:=vd T.length hT id.toNat oM;rw[Int.toNat_of_nonneg h0] at hmask;have ho:=oL _ hml;refine za9 (args:=[pp b 0,vi id]) func103 I ntmps103 (bE I) ?_;refine rZ (aT I (sW I (lM I (lU (nC I) (lU (fA m4 I zT3 I) (lK (qL (v:=vi T.length) iT3 I (cK hb I)) (lU (SU.eq (v':=vi (2 ^ T.length:Nat)) (SU.shl I I oM) (zd5 vi (wq _ oM))) (lU (sU I I oM) (lU (SU.eq (v':=vi (id.toNat % 2 ^ T.length:Nat)) (SU.and I I) (zd5 vi hmask)) (lU (SU.eq (v':=.int .u64 (id.toNat % 2 ^ T.length:Nat)) (zd3 uT3 i8 I) (zd5 (Value.int .u64) (wi _ hml))) (lW (cL call68 I (ku E g _ _ hml)) ?_)))))))))));rintro _ _ _ ⟨rfl,rfl,rfl⟩;refine lU (SU.eq (v':=vi (ii T.length id)) (sU I I oM) I) (aT I (rE ?_));exact za6 (.inl I) results103 I ⟨I,I,I⟩
set_option maxHeartbeats 4000000
def s4 (g:PH)(v:Value)(L:List Cl)(T:List (List Int))(p:Int)(B:List Cl)(mk:Nat):Prop:=∃ bs mb pv,v=pp bs 0∧g bs=some (.cells #[pv,vi p,.map (some mb),.map (some mk)] 72 (0,0))∧vW g pv L T∧ByR g mb B
theorem s4.mono {g g':PH}{v:Value}{L:List Cl}{T:List (List Int)}{p:Int}{B:List Cl}{mk:Nat}(h:s4 g v L T p B mk)(hl:Le g g'):s4 g' v L T p B mk:=by
 obtain ⟨bs,mb,pv,h1,h2,h3,h4⟩:=h;exact⟨bs,mb,pv,h1,hl _ _ h2,h3.mono hl,h4.mono hl⟩
structure Bok (n:Nat)(B:List Cl):Prop where
 rt:Rt B
 lt:∀ c∈B,c.id<4611686018427387904
 cnt:∀ d:Int,(B.filter fun c=>decide (c.dim=d)).length≤200
theorem Tryz.build35 (a b c:Int)(w:World):(Instr.build 35 #[(0,vi a),(1,vi b),(2,vi c)]).run Tryz.prog w = .ok (kV a b c) w:=by
 have h1:∀ n,(vi n).cells = #[vi n]:=fun _=>rfl;simp[Instr.build,Instr.fill,h1];rfl
theorem ui (n:Nat)(B:List Cl)(a d:Int):gF n B a d=(B.filter fun c=>decide (c.dim=d)).filter fun c=>decide (ii n c.id≤a):=by
 unfold gF;rw[List.filter_filter];refine List.filter_congr fun c _=>?_;rw[Bool.and_comm]
theorem zg (n:Nat)(B:List Cl)(a d:Int):kQ n B a d=(B.filter fun c=>decide (c.dim=d)).filter fun c=>decide (ii n c.id>a):=by
 unfold kQ;rw[List.filter_filter];refine List.filter_congr fun c _=>?_;rw[Bool.and_comm]
theorem qx {α:Type}{l:List α}{k:Nat}(h:k<l.length)(q:α→Bool):(l.take (k+1)).filter q=if q l[k]=true then (l.take k).filter q++[l[k]] else (l.take k).filter q:=by
 rw[tS h,zg9,zh9];split
 ·rfl
 ·simp
def lr (q:List ah)(id:Int):Int:=(q.map fun x=>if x.cell=id then x.sign else 0).sum
theorem mf (q:List ah)(x:ah)(id:Int):lr (q++[x]) id=lr q id+if x.cell=id then x.sign else 0:=by
 unfold lr;rw[zf8,List.sum_append];simp
theorem BA {q:List ah}{id:Int}(h:∀ x∈q,x.cell≠id):lr q id=0:=BM fun x hx=>zf3 (h x hx)
theorem wN (id:Int):∀ {q:List ah},(∀ x∈q,x.sign=1∨x.sign = -1)→(lr q id).natAbs≤q.length
 | [],_=>by simp[lr]
 | x::q,h=>by
  have ih:=wN id (q:=q) fun y hy=>h y (by simp[hy]);have h1:=h x (by simp);have e:lr (x::q) id=(if x.cell=id then x.sign else 0)+lr q id:=by simp[lr]
  rw[e,ze2];split <;> omega
theorem oY {tl:List Cl}{c:Cl}(h:Fm tl c):c.sides.length≤64:=by
 have h1:=h.cnt;have h2:=h.dim;simp only[ax,Bool.or_eq_false_iff,Bool.and_eq_false_iff,decide_eq_false_iff_not] at h1;omega
theorem vf {L:List Cl}(hn:(L.map Cl.id).Nodup)(F G:Cl→Int){i:Nat}{c:Cl}(hi:L[i]?=some c)(y:Int)(hy:G c=y)(hG:∀ d∈L,d.id≠c.id→G d=F d):(L.map F).set i y=L.map G:=by
 refine List.ext_getElem? fun j=>?_;rw[List.getElem?_set,zh3,zh3,zd9];have hil:=(ze8.1 hi).1;by_cases e:i=j
 ·subst e;rw[zf4 rfl,zf4 hil,hi,← hy];rfl
 ·rw[zf3 e];cases hj:L[j]? with
  | none=>rfl
  | some d =>
   show some (F d)=some (G d);rw[hG d (zf5 hj) fun e2=>?_];obtain ⟨a1,a2⟩:=ze8.1 hi;obtain ⟨b1,b2⟩:=ze8.1 hj;have key:∀ {a b:Nat} (ha:a<L.length) (hb:b<L.length),a<b→L[a].id≠L[b].id:=fun {a b} ha hb h=>by
    have:=zc5.1 hn a b (by simpa using ha) (by simpa using hb) h;simpa using this
   rcases Nat.lt_trichotomy i j with h | h | h
   ·exact key a1 b1 h (by rw[a2,b2,e2])
   ·exact e h
   ·exact key b1 a1 h (by rw[a2,b2,e2])
theorem uL {p:Int}(hp:Fp p)(cols Rw:List Cl)(A:List Int)(C:Nat)(hC:C=if cols=[] then 0 else Rw.length)(h:∀ i<cols.length,∀ j<C,atF A C i j=elM (cols.map fun x=>Rw.map fun r=>gr x r) i j % p):rk p (atF A C) cols.length C=rkP p cols Rw:=by
 by_cases h0:cols=[]
 ·subst h0;have h1:=ly hp.fld (atF A C) 0 C;have h2:=ly hp.fld (mx ([]:List Cl) Rw gr) 0 Rw.length;show rk p (atF A C) 0 C=rk p (mx ([]:List Cl) Rw gr) 0 Rw.length;omega
 ·rw[zf3 h0] at hC;subst hC;show _=rk p (mx cols Rw gr) cols.length Rw.length;refine tA hp.fld fun i hi j hj=>?_;rw[h i hi j hj,wa (gE hi) (gE hj)];refine (ot _ _).trans (Eqm.of ?_);rw[wO (by rw[zd9]; exact hi) (by rw[List.getElem_map,zd9]; exact hj)];simp
theorem jU (E:World)(g:PH)(s:Own)(v:Value)(L:List Cl)(T:List (List Int))(p:Int)(hp:Fp p)(B:List Cl)(mk ik:Nat)(a low dim:Int)(hv:s4 g v L T p B mk)(hB:Bok T.length B)(hT:T.length≤6)(hk:s[ik]?=some (knE mk fun a low dim=>eF (rkP p) T.length B a low dim))(ha:a.natAbs≤1000)(hlow:low.natAbs≤1000)(hdim:dim.natAbs≤1000) :
  Ctr Tryz.prog E 70 #[v,vi a,vi low,vi dim] g s (fun x g' s'=>x=vi (ph (rkP p) T.length B a low dim)∧s=s'∧Le g g'):=by
 obtain ⟨bs,mb,pv,rfl,hbs,hcov,hby⟩:=hv;have hcov0:=hcov;obtain ⟨bc,m,cv,iv,rfl,hbc,-⟩:=hcov;have hA1 : -1≤min (max a (-1)) ((T.length:Int) - 1)∧min (max a (-1)) ((T.length:Int) - 1)≤1000:=oM;have hW1 : -1≤max low (-1)∧max low (-1)≤1000:=oM;obtain ⟨prs,hmp,hlook⟩:=hby
 obtain ⟨vr,rr,hvr,hrr,hallr⟩:=hlook (dim - 1);obtain ⟨vc,rc,hvc,hrc,hallc⟩:=hlook dim;have hcr:=hB.cnt (dim - 1);have hcc:=hB.cnt dim;obtain ⟨rp,rcap,rfl⟩:=za2 hrr;obtain ⟨cp,ccap,rfl⟩:=za2 hrc;have hsz:ph (rkP p) T.length B a low dim=eF (rkP p) T.length B (min (max a (-1)) ((T.length:Int) - 1)) (max low (-1)) dim:=rfl;rw[hsz];have hRl:=hallr.length;have hCl:=hallc.length;have hRn:((B.filter fun c=>decide (c.dim=dim - 1)).map Cl.id).Nodup:=by
  rw[List.Nodup,zj4];exact (hB.rt.asc.filter _).imp fun h=>by omega
 have hRm:∀ c∈B.filter (fun c=>decide (c.dim=dim - 1)),0≤c.id∧c.id<4611686018427387904:=fun c hc=>by
  have h1:=(zg7.1 hc).1;have h2:=hB.rt.pos c h1;exact⟨oM,hB.lt c h1⟩
 have hCm:∀ c∈B.filter (fun c=>decide (c.dim=dim)),c∈B∧0≤c.id∧c.id<4611686018427387904:=fun c hc=>by
  have h1:=(zg7.1 hc).1;have h2:=hB.rt.pos c h1;exact⟨h1,oM,hB.lt c h1⟩
 have hrowsB:=zg T.length B (max low (-1)) (dim - 1);have hcolsB:=ui T.length B (min (max a (-1)) ((T.length:Int) - 1)) dim;refine za9 (args:=[pp bs 0,vi a,vi low,vi dim]) func70 I ntmps70 (bE I) ?_;refine rZ (aT I (sW I (lU (SU.maxF I I) (lM I (lU (nC I) (lU (fA s5 I sizeOf65 I) (lK (qL (v:=pp bc 0) isAgg65 I (cK hbs I)) (lU (nC I) (lU (fA m4 I zT3 I) (lK (qL (v:=vi T.length) iT3 I (cK hbc I)) (lU (sU I I oM) (lU (SU.minF I I) (lM I (lU (SU.maxF I I) (lA I (aT I (sW I (lM I (lM I (lU (za1 I (build35 _ _ _)) ?_))))))))))))))))))));refine bW (aL zeroValue35) fun b9=>?_;refine oZ (sK 0 sizeOf35 I I I I I sB) (tZ (sQ (sQ ?_)));refine dW [] [(0,2),(1,2),(2,2),(3,1),(4,1),(5,0),(6,2),(7,2),(8,2),(9,2),(10,2)] zd6 kR ?_;refine yM I (pU I (nC I) (pU I (fA s5 I sizeOf70 I) (pK I (qL (v:=.map (some mk)) isAgg70 I (cK hbs I)) (pK I (SQ.eq (v':=kV (min (max a (-1)) ((T.length:Int) - 1)) (max low (-1)) dim) (qV 0 isAgg35 sizeOf35 I I I) I) (SP.o I (SO.lookK (ik+1) hk I I (by unfold sml; omega) (by unfold sml; omega) (by unfold sml; omega)) dC (.inr iR) ?_)))));rintro _ _ _ ⟨⟨n0,b0,rfl,hn0⟩,rfl,rfl⟩;refine yM I (pU I (xT I I) (pU I (xT I I) (pU I (aS I) (pU I (aS I) (pN (tN (sW I (tZ ?_))))))));refine iQ I (fun hb0=>?_) (fun hb0=>?_)
 ·refine sW I (aT I (rE (tR ?_)));rw[hn0 hb0];refine dR (s':=s) uR ?_;exact za6 (.inl I) results70 I ⟨I,I,zb7 _⟩
 ·generalize min (max a (-1)) ((T.length:Int) - 1)=A at *;generalize max low (-1)=W at *;generalize B.filter (fun c=>decide (c.dim=dim - 1))=RR at *;generalize B.filter (fun c=>decide (c.dim=dim))=CC at *;refine kP (tN (rZ (lW (SO.mkMap) ?_)));rintro _ _ _ ⟨b53,rfl,rfl,rfl⟩;refine aT I (sQ (sW I (lU (nC I) (lU (fA s5 I sizeOf69 I) (lK (qL (v:=.map (some mb)) isAgg69 I (cK hbs I)) (lM I (lU (sU I I oM) (lK (SQ.eq (v':=.slice rp rr.length rcap) (SQ.lookup mty69 I I (cU.known hmp)) hvr) (lU (eN aJ I) (lM I (tZ (bK ?_))))))))))));refine oP (ι:=Nat) (fun k=>[(0,pp bs 0),(1,vi A),(2,vi W),(3,vi dim),(9,pp b9 0),(12,.map (some b53)),(60,.slice rp rr.length rcap),(61,vi rr.length),(62,vi k)]) (fun _=>g) (fun k=>mp b53 (atP ((RR.take k).filter fun c=>decide (ii T.length c.id>W)))::pt b9 (.cells #[vi A,vi W,vi dim] 35 (0,0))::s) (fun k=>k≤rr.length) (fun k=>rr.length - k) 0 sB I I (ze9 _) ?_;rintro k hkk;refine rZ (yL I (tZ (sQ ?_)));refine iP I (fun hlt=>?_) (fun hlt=>?_)
  ·have hkr:k<rr.length:=oM;have hkl:k<RR.length:=oM;have hb1:=za4 hrr oM;have hgr:rr[((k:Nat):Int).toNat]?=some rr[k]:=gE hkr;have hR:=hallr.get (gE hkl) (gE hkr);have hsn:=qx hkl fun c=>decide (ii T.length c.id>W);have hmem:=hRm _ (gM hkl);have hnew:∀ d∈(RR.take k).filter (fun c=>decide (ii T.length c.id>W)),d.id≠RR[k].id:=fun d hd=>by
    obtain ⟨j,hj,rfl⟩:=List.mem_iff_getElem.1 (zg7.1 hd).1;rw[zd7] at hj;rw[List.getElem_take];have:=zc5.1 hRn j k (by rw[zd9]; omega) (by rw[zd9]; omega) oM;simpa using this
   have hput:=wX hnew;have hal:(atP ((RR.take k).filter fun c=>decide (ii T.length c.id>W))).length=((RR.take k).filter fun c=>decide (ii T.length c.id>W)).length:=by
    unfold atP;rw[zd9,List.length_zipIdx]
   generalize RR[k]=x at *;rw[← hR.1] at hmem hput;have hid:=hR.1;generalize rr[k]=r at *;refine kP (tN (sQ (bK (rZ (lU (iA aJ az I I hb1 oM sL) (lK (eA eL az I (za5 hrr) hgr) (bW (aL zk4) fun b14=>?_)))))));refine oZ (sK 0 az I I I I I sB) (tZ (sQ ?_));refine dW [] [(0,2),(1,2),(2,2),(3,1),(4,2),(5,1),(7,2),(6,0),(8,2)] zd6 kR ?_;refine yM I (pU I (nC I) (pU I (fA s5 I sizeOf65 I) (pK I (qL (v:=pp bc 0) isAgg65 I (cK hbs I)) (pU I (fA ar I zT3 I) (pK I (qL (v:=vi r.id) iT3 I (cO 0 I I)) (yM I (SP.o I (cL call103 I (mT E g _ _ L T r.id hcov0 hT hmem.1 hmem.2)) dC (.inr iR) ?_)))))));rintro _ _ _ ⟨rfl,rfl,rfl⟩;refine pU I (gR I I) (pN (tN ?_));refine iP I (fun hdeg=>?_) (fun hdeg=>?_)
   ·rw[zf4 (by rw[← hid]; exact zf2 hdeg)] at hsn;rw[← hsn] at hput;refine rG (lM I (lU (fA ar I zT3 I) (lK (qL (v:=vi r.id) iT3 I (cO 0 I I)) (lM I (lK (SQ.eq (v':=vi ((RR.take k).filter fun c=>decide (ii T.length c.id>W)).length) (SQ.lenMap underlying73 I (cU.own 1 I)) (by rw[hal])) ?_)))));refine lO (SO.mapUpdate 1 mty73 I I I I) ?_;rintro _ _ _ ⟨rfl,rfl⟩;rw[hput];refine nL (bN (tN (rG (yD I (lM I (nL (dR (.cons _ (.refl _)) ?_)))))));exact gA (k+1) sB I I oM oM
   ·rw[zf3 (by rw[← hid]; simpa using hdeg)] at hsn;refine kP (bN (tN (rG (yD I (lM I (nL (dR (.cons _ (.refl _)) ?_)))))));exact gA (k+1) sB I (by rw[hsn]) oM oM
  ·have hke:k=RR.length:=oM;subst hke;rw[List.take_length,← hrowsB];have hRw:((kQ T.length B W (dim - 1)).map Cl.id).Nodup:=by
    rw[hrowsB];exact (List.filter_sublist.map _).nodup hRn
   have hRwl:(kQ T.length B W (dim - 1)).length≤200:=by
    rw[hrowsB];exact zj8 (zc1 _ _) hcr
   generalize hRwd:kQ T.length B W (dim - 1)=Rw at *;have hal:(atP Rw).length=Rw.length:=by unfold atP; rw[zd9,List.length_zipIdx]
   refine xI (tX (tX (bX (tN (rZ (aT I (rZ (aT I (sQ (sW I (lU (nC I) (lU (fA s5 I sizeOf69 I) (lK (qL (v:=.map (some mb)) isAgg69 I (cK hbs I)) (lM I (lK (SQ.eq (v':=.slice cp rc.length ccap) (SQ.lookup mty69 I I (cU.known hmp)) hvc) (lU (eN aJ I) (lM I (tZ (bK (zb4 25 1 ?_))))))))))))))))))));refine oP (ι:=PH×Nat×Value×List Sv) (fun z=>[(0,pp bs 0),(1,vi A),(9,pp b9 0),(12,.map (some b53)),(15,z.2.2.1),(16,vi z.2.2.2.length),(86,.slice cp rc.length ccap),(87,vi rc.length),(88,vi z.2.1)]) (fun z=>z.1) (fun z=>rowA aU 25 z.2.2.1 z.2.2.2::mp b53 (atP Rw)::pt b9 (.cells #[vi A,vi W,vi dim] 35 (0,0))::s) (fun z=>Le g z.1∧z.2.1≤rc.length∧aw (br z.1) (((CC.take z.2.1).filter fun c=>decide (ii T.length c.id≤A)).map fun x=>Rw.map fun r=>gr x r) z.2.2.2) (fun z=>rc.length - z.2.1) (g,0,.slice none 0 0,[]) sB I I ⟨zb7 _,ze9 _,trivial⟩ ?_;rintro ⟨g2,k,colsv,svs⟩ ⟨hle2,hkk,hacc⟩;dsimp only at hle2 hkk hacc ⊢;have hsl:=hacc.length;rw[zd9] at hsl;have hfl:((CC.take k).filter fun c=>decide (ii T.length c.id≤A)).length≤200:=zj8 (zc1 _ _) (by rw[zd7]; omega);refine rZ (yL I (tZ (sQ ?_)));refine iP I (fun hlt2=>?_) (fun hlt2=>?_)
   ·have hkr:k<rc.length:=oM;have hkl:k<CC.length:=oM;have hb1:=za4 hrc oM;have hgr:rc[((k:Nat):Int).toNat]?=some rc[k]:=gE hkr;have hR:=hallc.get (gE hkl) (gE hkr);have hsn:=qx hkl fun c=>decide (ii T.length c.id≤A);obtain ⟨hxB,hx0,hx1⟩:=hCm _ (gM hkl);have hfm:=hB.rt.form _ hxB;have hx64:=oY hfm;generalize CC[k]=x at *;generalize rc[k]=r at *;obtain ⟨ri,rd,sp,sn,sc⟩:=r;obtain ⟨hid,hdd,hss⟩:=hR;dsimp only at hid hdd hss;have hsn2:sn=x.sides.length:=Sl.slen hss;subst hid hdd hsn2;refine kP (tN (sQ (bK (rZ (lU (iA aJ az I I hb1 oM sL) (lK (eA eL az I (za5 (za3 hrc hle2)) hgr) (bW (aL zk4) fun b18=>?_)))))));refine oZ (sK 0 az I I I I I sB) (tZ (sQ (sQ ?_)));refine dW [] [(0,2),(1,2),(2,2),(3,1),(4,2),(5,1),(7,2),(6,0),(8,2)] zd6 kR ?_;refine yM I (pU I (nC I) (pU I (fA s5 I sizeOf65 I) (pK I (qL (v:=pp bc 0) isAgg65 I (cK (hle2 _ _ hbs) I)) (pU I (fA ar I zT3 I) (pK I (qL (v:=vi x.id) iT3 I (cO 0 I I)) (yM I (SP.o I (cL call103 I (mT E g2 _ _ L T x.id (hcov0.mono hle2) hT hx0 hx1)) dC (.inr iR) ?_)))))));rintro _ _ _ ⟨rfl,rfl,rfl⟩;refine pU I (gR I I) (pN (tN ?_));refine iP I (fun hdeg=>?_) (fun hdeg=>?_)
    ·rw[zf3 (by simp; omega)] at hsn;refine xI (tX (bX (tN (rG (yD I (lM I (nL (dR (.cons _ (.refl _)) ?_))))))));exact gA (g2,k+1,colsv,svs) sB I I ⟨hle2,by dsimp only; omega,by dsimp only; rw[hsn]; exact hacc⟩ (by dsimp only; omega)
    ·rw[zf4 (by simp; omega)] at hsn;refine kP (tN (sW I (yD I (aT I (sW I (lK (SQ.eq (v':=vi Rw.length) (SQ.lenMap underlying73 I (cU.own 2 I)) (by rw[hal])) ?_))))));refine lW (mK encInt 0 sty25 I I I oM oM) ?_;rintro _ _ _ ⟨bl,rfl,rfl,rfl⟩;refine aT I (sQ (rZ (lU (fA ar I bJ I) (lK (qL (v:=.slice sp x.sides.length sc) cI I (cO 1 I I)) (lU (eN cf I) (lM I (tZ (bK ?_))))))));refine oP (ι:=Nat) (fun j=>[(0,pp bs 0),(1,vi A),(9,pp b9 0),(12,.map (some b53)),(15,colsv),(16,vi (svs.length+1:Nat)),(19,.slice (some ⟨bl,0,none⟩) Rw.length Rw.length),(86,.slice cp rc.length ccap),(87,vi rc.length),(88,vi k),(107,.slice sp x.sides.length sc),(108,vi x.sides.length),(109,vi j)]) (fun _=>g2) (fun j=>rowA encInt 3 (.slice (some ⟨bl,0,none⟩) Rw.length Rw.length) (Rw.map fun r=>lr (x.sides.take j) r.id)::pt b18 (.cells #[vi x.id,vi x.dim,.slice sp x.sides.length sc] 63 (0,0))::rowA aU 25 colsv svs::mp b53 (atP Rw)::pt b9 (.cells #[vi A,vi W,vi dim] 35 (0,0))::s) (fun j=>j≤x.sides.length) (fun j=>x.sides.length - j) 0 sB I (by rw[show (Rw.map fun r=>lr (x.sides.take 0) r.id)=List.replicate Rw.length 0 from List.map_const']; rfl) (ze9 _) ?_;rintro j hj;refine rZ (yL I (tZ (sQ ?_)));refine iP I (fun hlt3=>?_) (fun hlt3=>?_)
     ·have hjl:j<x.sides.length:=oM;have hb2:=za4 hss oM;have hgj:x.sides[((j:Nat):Int).toNat]?=some x.sides[j]:=gE hjl;have htj:x.sides.take (j+1)=x.sides.take j++[x.sides[j]]:=tS hjl;have hprev:∀ y∈x.sides.take j,y.cell≠x.sides[j].cell:=fun y hy=>by
       obtain ⟨i,hi,rfl⟩:=List.mem_iff_getElem.1 hy;rw[zd7] at hi;rw[List.getElem_take];have:=zc5.1 hfm.asc i j oM hjl oM;omega
      generalize x.sides[j]=q at *
      rcases kE q.cell Rw 0 with ⟨h1,h2⟩ | ⟨cx,i,h1,h2,h3⟩
      ·refine kP (tN (sQ (bK (rZ (lU (iA cf bB I I hb2 oM sL) (lK (eA jR bB I (za5 (za3 hss hle2)) hgj) (bW (aL zk2) fun b21=>?_)))))));refine oZ (sK 0 bB I I I I I sB) (tZ (sW I (lU (fA dE I zT3 I) (lK (qL (v:=vi q.cell) iT3 I (cO 0 I I)) (lK (SQ.eq (v':=.tuple #[vi 0,vb false]) (SQ.lookupOk mty73 I I (cU.own 4 I)) (by rw[show e8 (atP Rw) q.cell=none from h1]; rfl)) ?_)))));refine lM I (yX I (yX I (lA I (aT I (sW I (tZ (cF I (kP (bN (tN (rG (yD I (lM I (nL ?_))))))))))))));have hst:(Rw.map fun r=>lr (x.sides.take (j+1)) r.id)=Rw.map fun r=>lr (x.sides.take j) r.id:=zc4 fun d hd=>by
        rw[htj,mf,zf3,Int.add_zero];intro e;unfold aO at h2;have:=List.find?_eq_none.1 h2 d hd;simp[e] at this
       refine dR (.cons _ (.refl _)) ?_;exact gA (j+1) sB I (by rw[hst]) oM oM
      ·have hci:=(cX h1).2;have hil:=(ze8.1 h2).1;have hset:=vf hRw (fun r=>lr (x.sides.take j) r.id) (fun r=>lr (x.sides.take (j+1)) r.id) h2 q.sign (by
        show lr (x.sides.take (j+1)) cx.id=_;rw[htj,mf,zf4 hci.symm,BA fun y hy e=>hprev y hy (by rw[e,hci]),Int.zero_add]) (fun d _ hd=>by
        show lr (x.sides.take (j+1)) d.id=_;rw[htj,mf,zf3 (fun e=>hd (by rw[← e,hci])),Int.add_zero])
       refine kP (tN (sQ (bK (rZ (lU (iA cf bB I I hb2 oM sL) (lK (eA jR bB I (za5 (za3 hss hle2)) hgj) (bW (aL zk2) fun b21=>?_)))))));refine oZ (sK 0 bB I I I I I sB) (tZ (sW I (lU (fA dE I zT3 I) (lK (qL (v:=vi q.cell) iT3 I (cO 0 I I)) (lK (SQ.eq (v':=.tuple #[vi (i:Nat),vb true]) (SQ.lookupOk mty73 I I (cU.own 4 I)) (by rw[show e8 (atP Rw) q.cell=some (vi (0+i:Nat)) from h3,Nat.zero_add]; rfl)) ?_)))));refine lM I (yX I (yX I (lA I (aT I (sW I (tZ (cT I (rG (lM I (lM I (lU (fA dE I zT3 I) (lK (qL (v:=vi q.sign) iT3 I (cO 0 I I)) (lU (SU.eq (v':=.pointer (some ⟨bl,0+i * 1,none⟩)) (iA aj zT3 I I I oM sL) I) (oZ (sT (e:=encInt) (a:=q.sign) (j:=i) 1 zT3 I I I (by rw[zd9]; exact hil) I) ?_))))))))))))));rw[hset];refine nL (bN (tN (rG (yD I (lM I (nL (dR (.cons _ (.refl _)) ?_)))))));exact gA (j+1) sB I I oM oM
     ·have hje:j=x.sides.length:=oM;subst hje;rw[List.take_length];refine fS fun g3 hle3 hs3=>?_;have hs3':bZ g3 (.slice (some ⟨bl,0,none⟩) Rw.length Rw.length) (Rw.map fun r=>gr x r):=hs3;refine xI (tX (tX (bX (tN (rG (lM I (lM I (lW (bS sty22 I I I (ab ⟨I,trivial⟩) dC) ?_))))))));rintro _ _ _ ⟨b129,rfl,rfl,rfl⟩;refine lW (aP (e:=aU) (l:=svs) 1 ⟨some ⟨bl,0,none⟩,Rw.length,Rw.length⟩ sty22 I I I I I oM oM) ?_;rintro v130 _ _ ⟨rfl,rfl⟩;refine lA I (nL (bN (tN (rG (yD I (lM I (nL (dR (.cons _ (.refl _)) ?_))))))));exact gA (g3,k+1,v130,svs++[⟨some ⟨bl,0,none⟩,Rw.length,Rw.length⟩]) ⟨I,I,I,I,I,by rw[zd8]; rfl,rfl,rfl,rfl,trivial⟩ rfl rfl ⟨hle2.trans hle3,by dsimp only; omega,by dsimp only; rw[hsn,zf8]; exact (hacc.mono fun _ _=>br.mono hle3).append ⟨hs3',trivial⟩⟩ (by dsimp only; omega)
   ·have hke:k=CC.length:=oM;subst hke;rw[List.take_length,← hcolsB] at hacc hsl hfl;generalize hcw:gF T.length B A dim=cols at *;refine fS fun g3 hle3 hs3=>?_;have hLs:aK g3 colsv (cols.map fun x=>Rw.map fun r=>gr x r):=⟨svs,hs3,hacc.mono fun _ _=>br.mono hle3⟩;have hle03:=hle2.trans hle3;have hfin:eF (rkP p) T.length B A W dim=(cols.length:Int) - (rkP p cols Rw:Int):=by
     unfold eF;rw[hcw,hRwd]
    have hbd:∀ r∈cols.map (fun x=>Rw.map fun r=>gr x r),∀ y∈r,y.natAbs≤1000000:=fun r hr y hy=>by
     obtain ⟨x,hx,rfl⟩:=ze5.1 hr;obtain ⟨c,-,rfl⟩:=ze5.1 hy;have hxc:x∈CC:=by
      rw[hcolsB] at hx;exact (zg7.1 hx).1
     have hf:=hB.rt.form x (hCm x hxc).1;have h1:=wN c.id hf.sg;have h2:=oY hf;show (lr x.sides c.id).natAbs≤_;omega
    have hrkb:=ly hp.fld (mx cols Rw gr) cols.length Rw.length;have hrkb2:rkP p cols Rw≤cols.length:=hrkb;refine xI (tX (tX (bX (tN (sW I (lM I (lU (nC I) (lU (fA s5 I zT3 I) (lK (qL (v:=vi p) iT3 I (cK (hle03 _ _ hbs) I)) (lM I (lW (cL call105 I (zO E g3 _ colsv p hp (cols.map fun x=>Rw.map fun r=>gr x r) (if cols=[] then 0 else Rw.length) hLs (by rw[zd9]; omega) (by split <;> omega) (fun r hr=>by obtain ⟨x,hx,rfl⟩:=ze5.1 hr; rw[zd9,zf3 (List.ne_nil_of_mem hx)]) (fun h=>zf4 (List.map_eq_nil_iff.1 h)) hbd)) ?_)))))))))));rintro v138 g4 _ ⟨rfl,hle4,MA,hMA,hMl,hMp,hMe⟩;refine lW (cL call104 I (vn E g4 _ v138 p hp _ _ (by rw[zd9]; omega) (by split <;> omega) MA hMl hMA hMp)) ?_;rintro _ g5 _ ⟨rfl,hle5,rfl⟩;rw[zd9] at hMe ⊢;rw[uL hp cols Rw MA _ rfl hMe];refine lU (SU.eq (v':=vi (eF (rkP p) T.length B A W dim)) (sU I I oM) (zd5 vi (by rw[hfin,hsl]))) ?_;refine aT I (sQ ?_);refine dW [6] [(0,2),(1,2),(2,2),(3,1),(4,1),(5,2),(6,0)] zd6 kR ?_;refine yM I (pU I (nC I) (pU I (fA s5 I sizeOf70 I) (pK I (qL (v:=.map (some mk)) isAgg70 I (cK ((hle03.trans (hle4.trans hle5)) _ _ hbs) I)) (pK I (SQ.eq (v':=kV A W dim) (qV 1 isAgg35 sizeOf35 I I I) I) (yM I (SP.on I (SO.mapK (ik+2) hk I I I (by unfold sml; omega) (by unfold sml; omega) (by unfold sml; omega)) (.inl dC) ?_))))));rintro _ _ _ ⟨rfl,rfl⟩;refine pN (tN (sW I (aT I (rE (dR (s':=s) uR ?_)))));exact za6 (.inl I) results70 I ⟨I,I,hle03.trans (hle4.trans hle5)⟩
theorem tr {p:Int}(hp:Fp p){n:Nat}{B:List Cl}(hB:Bok n B)(a low d:Int):(ph (rkP p) n B a low d).natAbs≤200:=by
 have key:∀ A W,(eF (rkP p) n B A W d).natAbs≤200:=fun A W=>by
  have h1:(gF n B A d).length≤200:=by
   rw[ui];exact zj8 (zc1 _ _) (hB.cnt d)
  have h2:rkP p (gF n B A d) (kQ n B W (d - 1))≤(gF n B A d).length:=ly hp.fld _ _ _;unfold eF;omega
 exact key _ _
theorem sr (E:World)(g:PH)(s:Own)(v:Value)(L:List Cl)(T:List (List Int))(p:Int)(hp:Fp p)(B:List Cl)(mk ik:Nat)(r a b:Int)(hv:s4 g v L T p B mk)(hB:Bok T.length B)(hT:T.length≤6)(hk:s[ik]?=some (knE mk fun a low dim=>eF (rkP p) T.length B a low dim))(hr:r.natAbs≤100)(ha:a.natAbs≤100)(hb:b.natAbs≤100) :
  Ctr Tryz.prog E 33 #[v,vi r,vi a,vi b] g s (fun x g' s'=>x=vi (uu (rkP p) T.length B r a b)∧s=s'∧Le g g'):=by
 have hbd:=tr hp hB;have b1:=hbd a (a - r) (a+b);have b2:=hbd (a - 1) (a - r) (a+b);have b3:=hbd (a+r - 1) a (a+b+1);have b4:=hbd (a+r - 1) (a - 1) (a+b+1);refine za9 (args:=[v,vi r,vi a,vi b]) func33 I ntmps33 (bE I) ?_;refine rZ (aT I (sW I (lM I (yD I (aT I (sW I (lM I (lM I (lM I (lU (sU I I oM) (lM I (lW (cL call70 I (jU E g s v L T p hp B mk ik a (a - r) (a+b) hv hB hT hk oM oM oM)) ?_))))))))))));rintro _ g1 _ ⟨rfl,rfl,hle1⟩;refine lM I (lM I (lU (sU I I oM) (lM I (lM I (lU (sU I I oM) (lM I (lW (cL call70 I (jU E g1 s v L T p hp B mk ik (a - 1) (a - r) (a+b) (hv.mono hle1) hB hT hk oM oM oM)) ?_)))))));rintro _ g2 _ ⟨rfl,rfl,hle2⟩;refine lU (sU I I oM) (lM I (lM I (lM I (yD I (lU (sU I I oM) (lM I (lM I (yD I (lW (cL call70 I (jU E g2 s v L T p hp B mk ik (a+r - 1) a (a+b+1) (hv.mono (hle1.trans hle2)) hB hT hk oM oM oM)) ?_)))))))));rintro _ g3 _ ⟨rfl,rfl,hle3⟩;refine lU (sU I I oM) (lM I (lM I (lM I (yD I (lU (sU I I oM) (lM I (lU (sU I I oM) (lM I (yD I (lW (cL call70 I (jU E g3 s v L T p hp B mk ik (a+r - 1) (a - 1) (a+b+1) (hv.mono (hle1.trans (hle2.trans hle3))) hB hT hk oM oM oM)) ?_))))))))));rintro _ g4 _ ⟨rfl,rfl,hle4⟩;refine yD I (aT I (rE ?_));exact za6 (.inl I) results33 I ⟨I,I,hle1.trans (hle2.trans (hle3.trans hle4))⟩
theorem vv (E:World)(g:PH)(s:Own)(v u:Value)(P Q:List (List Int))(hv:aK g v P)(hu:aK g u Q)(hP:P.length<1099511627776)(hPl:∀ x∈P,x.length<1099511627776)(hQ:Q.length<1099511627776) :
  Ctr Tryz.prog E 35 #[v,u,.func (.func 36) #[] #[]] g s (fun r g' s'=>r=vb (decide (P=Q))∧g=g'∧s=s'):=by
 obtain ⟨rs,hrs,hallr⟩:=hv;obtain ⟨qs,hqs,hallq⟩:=hu;have hlr:=hallr.length;have hlq:=hallq.length;obtain ⟨rp,rc,rfl⟩:=za2 hrs;obtain ⟨qp,qc,rfl⟩:=za2 hqs;refine za9 (args:=[.slice rp rs.length rc,.slice qp qs.length qc,.func (.func 36) #[] #[]]) func35 I ntmps35 (bE I) ?_;refine rZ (aT I (sQ (sW I (lU (eN bL I) (lM I (lU (eN bL I) (lU (nQ I I) (tZ ?_))))))));refine iP I (fun hne=>?_) (fun hne=>?_)
 ·refine rZ (aT I (rE (tR ?_)));have h0:decide (P=Q)=false:=zf1 fun e=>hne (by rw[← hlr,← hlq,e]);exact za6 (.inl I) results35 I ⟨by rw[h0],I,I⟩
 ·have hlen:rs.length=qs.length:=oM;refine kP (tN (sQ (sW I (lU (eN bL I) (lM I (tZ (bK ?_)))))));refine oP (ι:=Nat) (fun k=>[(0,.slice rp rs.length rc),(1,.slice qp qs.length qc),(2,.func (.func 36) #[] #[]),(15,.slice rp rs.length rc),(16,vi rs.length),(17,vi k)]) (fun _=>g) (fun _=>s) (fun k=>k≤rs.length∧P.take k=Q.take k) (fun k=>rs.length - k) 0 sB I I ⟨ze9 _,I⟩ ?_;rintro k ⟨hk,heq⟩;refine rZ (yL I (tZ (sQ ?_)));refine iP I (fun hlt=>?_) (fun hlt=>?_)
  ·have hkr:k<rs.length:=oM;have hkq:k<qs.length:=oM;have hkP:k<P.length:=oM;have hkQ:k<Q.length:=oM;have hb1:=za4 hrs oM;have hb2:=za4 hqs oM;have hgr:rs[((k:Nat):Int).toNat]?=some rs[k]:=gE hkr;have hgq:qs[((k:Nat):Int).toNat]?=some qs[k]:=gE hkq;have hR:=hallr.get (gE hkP) (gE hkr);have hQ':=hallq.get (gE hkQ) (gE hkq);have h1:P.take (k+1)=P.take k++[P[k]]:=tS hkP;have h2:Q.take (k+1)=Q.take k++[Q[k]]:=tS hkQ;have hpl:=hPl _ (gM hkP);have hdiff:P[k]≠Q[k]→decide (P=Q)=false:=fun h=>zf1 fun e=>h (by subst e; rfl);generalize P[k]=x at *;generalize Q[k]=y at *;generalize rs[k]=r at *;generalize qs[k]=q at *;obtain ⟨ap,an,ac⟩:=r;obtain ⟨bp,bn,bc⟩:=q;refine kP (tN (sQ (bK (sW I (lU (iA bL cg I I hb1 oM sL) (lK (eB (u:=.slice ap an ac) dG I (za5 hrs) hgr I) (lA I (aT I (sW I (lM I (lU (iA bL cg I I hb2 oM sL) (lK (eB (u:=.slice bp bn bc) dG I (za5 hqs) hgq I) (aT I (sW I (lM I (lM I (lW (SO.callV I I (cG.mk (cap:=[]) call36 (qy E g s (.slice ap an ac) (.slice bp bn bc) x y hR hQ' hpl))) ?_)))))))))))))))));rintro _ _ _ ⟨rfl,rfl,rfl⟩;refine lU (SU.notP I) (tZ ?_);refine iQ I (fun hxy=>?_) (fun hxy=>?_)
   ·have hxy':x≠y:=by simpa using hxy
    refine rZ (aT I (rE (bR (tR (tR (bR (tR ?_)))))));exact za6 (.inl I) results35 I ⟨by rw[hdiff hxy'],I,I⟩
   ·have hxy':x=y:=by simpa using hxy
    refine kP (bN (tN (rG (yD I (lM I (nL ?_))))));exact gA (k+1) sB I I ⟨oM,by rw[h1,h2,heq,hxy']⟩ oM
  ·have hkk:k=rs.length:=oM;subst hkk;rw[tL oM,tL oM] at heq;refine xI (tX (tX (bX (tN (rZ (aT I (rE ?_)))))));have h0:decide (P=Q)=true:=zf2 heq;exact za6 (.inl I) results35 I ⟨by rw[h0],I,I⟩
theorem qY (E:World)(g:PH)(s:Own)(v u:Value)(P Q:List (List Int))(hv:aK g v P)(hu:aK g u Q)(hP:P.length<1099511627776)(hPl:∀ x∈P,x.length<1099511627776)(hQ:Q.length<1099511627776) :
  Ctr Tryz.prog E 34 #[v,u] g s (fun r g' s'=>r=vb (decide (P=Q))∧g=g'∧s=s'):=by
 refine za9 (args:=[v,u]) func34 I ntmps34 (bE I) ?_;refine rZ (aT I (sW I (lM I (lW (cL call35 I (vv E g s v u P Q hv hu hP hPl hQ)) ?_))));rintro _ _ _ ⟨rfl,rfl,rfl⟩;refine aT I (rE ?_);exact za6 (.inl I) results34 I ⟨I,I,I⟩
def Pgs (g:PH)(v:Value)(P:List (List (List Int))):Prop:=∃ rs,SlA aU g v rs∧aw (fun (Q:List (List Int)) (r:Sv)=>aK g (.slice r.p r.n r.c) Q) P rs
theorem Pgs.mono {g g':PH}{v:Value}{P:List (List (List Int))}(h:Pgs g v P)(hl:Le g g'):Pgs g' v P:=by
 obtain ⟨rs,h1,h2⟩:=h;exact⟨rs,za3 h1 hl,h2.mono fun _ _ h=>h.mono hl⟩
theorem Pgs.nil (g:PH):Pgs g (.slice none 0 0) []:=⟨[],zb8 g _,trivial⟩
theorem xa {α:Type}[DecidableEq α]{P:List α}{n:Nat}(h1:1<n)(hn:n≤P.length):i9 (P.take n)=if P[n - 1]'oM=P[n - 2]'oM then i9 (P.take (n - 1)) else P.take n:=by
 have e1:P.take n=P.take (n - 2)++[P[n - 2]'oM]++[P[n - 1]'oM]:=by
  have a1:=tS (l:=P) (i:=n - 1) oM;have a2:=tS (l:=P) (i:=n - 2) oM;rw[show n - 2+1=n - 1 by omega] at a2;rw[show n - 1+1=n by omega] at a1;rw[a1,a2]
 have e2:P.take (n - 1)=P.take (n - 2)++[P[n - 2]'oM]:=by
  have a2:=tS (l:=P) (i:=n - 2) oM;rwa [show n - 2+1=n - 1 by omega] at a2
 rw[e1,e2];generalize P.take (n - 2)=q;generalize P[n - 2]'oM=a;generalize P[n - 1]'oM=b;unfold i9;rw[List.reverse_append,List.reverse_append];show (nf (b::a::q.reverse)).reverse=if b=a then (nf (a::q.reverse)).reverse else q++[a]++[b]
 conv=>lhs; unfold nf
 split
 ·rfl
 ·simp
theorem yV {α:Type}[DecidableEq α]{P:List α}{n:Nat}(h:¬ 1<n):i9 (P.take n)=P.take n:=by
 have hl:(P.take n).length≤1:=by rw[zd7]; omega
 generalize P.take n=q at hl
 match q,hl with
 | [],_=>rfl
 | [a],_=>rfl
theorem wW {L:List Cl}(hL:Rt L){T:List (List Int)}(hT:T.length≤6):∀ c∈ct L T,c.id<4611686018427387904:=fun z hz=>by
 obtain ⟨d,hd,rfl⟩:=ze5.1 hz;have hd:=(cq _ _).1 hd;rw[rM] at hd;obtain ⟨c,hc,s,hs,rfl⟩:=(l7 hL).1 hd;have h1:=sub_le (co.1 hs).2;have h2:=BX L c.id hT;have h3:=(ze8.1 (hL.ix_get hc)).1;have h4:=hL.few;have h5:=AC (i:=ixB L c.id) (s:=s) hT oM oM;show bId T.length (ixB L c.id) s<_;omega
theorem wP {l:List Cl}(h:(aY l).2=0) : -1≤vU l∧vU l≤8:=by
 have hr:=kO h;have ht:ae l=aa l:=a7 hr.asc;have key:∀ (q:List Cl) (m:Int),(∀ c∈q,c.dim≤8) → -1≤m→m≤8 → -1≤rA q m∧rA q m≤8:=by
  intro q;induction q with
  | nil=>exact fun m _ h1 h2=>⟨h1,h2⟩
  | cons c q ih =>
   intro m hq h1 h2;have hc:=hq c (by simp);exact ih (max m c.dim) (fun d hd=>hq d (by simp[hd])) oM oM
 unfold vU;rw[ht];exact key _ _ (fun c hc=>(hr.form c hc).dim.2) dC dC
theorem wD {B:List Cl}{c:Cl}(hc:c∈B)(h:200<(B.filter fun x=>decide (x.dim=c.dim)).length):nh B=true:=zi9.2 ⟨c,hc,zf2 h⟩
theorem rJ {B:List Cl}(h:∀ d:Int,(B.filter fun x=>decide (x.dim=d)).length≤200):nh B=false:=by
 rw[Bool.eq_false_iff];intro k;obtain ⟨c,hc,h2⟩:=zi9.1 k;have:=h c.dim;simp at h2;omega
theorem Tryz.build72 (b mb mk:Nat)(p:Int)(w:World):(Instr.build 72 #[(0,pp b 0),(1,vi p),(2,.map (some mb)),(3,.map (some mk))]).run Tryz.prog w = .ok (.agg #[pp b 0,vi p,.map (some mb),.map (some mk)]) w:=by
 have h1:∀ n,(vi n).cells = #[vi n]:=fun _=>rfl;have h2:(pp b 0).cells = #[pp b 0]:=rfl;have h3:∀ m:Nat,(Value.map (some m)).cells = #[.map (some m)]:=fun _=>rfl;simp[Instr.build,Instr.fill,h1,h2,h3];rfl
theorem qf {rf:List Cl→List Cl→Nat}{n:Nat}{B:List Cl}{D:Nat}{r:Int}:(vL rf n B D r).length=n:=by
 unfold vL;rw[zd9,zh7]
theorem ks {α:Type}(f:Nat→α)(k:Nat):(List.range (k+1)).map f=(List.range k).map f++[f k]:=by
 rw[List.range_succ,zf8];rfl
theorem AZ {ms:Mk}{j:Nat}{k:Int}{v:Value}{l:List Rc}(h:ms[j]?=some (k,v,l)){hd:Own}(s:Own){x:Ent}(hh:hd.length=6):((hd++(eR ms++s)).set (j+6) x)[j+6]?=some x:=by
 have hj:=(ze8.1 h).1;rw[List.getElem?_set_self];simp only[zd8,eR,zd9];omega
theorem nN {rf:List Cl→List Cl→Nat}{n:Nat}{B:List Cl}{D:Nat}:(gf rf n B D).length=n:=by
 unfold gf;rw[zd9,zh7]
theorem qZ {rf:List Cl→List Cl→Nat}{n:Nat}{B:List Cl}{D:Nat}:∀ Q∈gf rf n B D,Q.length=n∧∀ x∈Q,x.length=D:=fun Q h=>by
 obtain ⟨r,-,rfl⟩:=ze5.1 h;refine⟨qf,fun x hx=>?_⟩;obtain ⟨a,-,rfl⟩:=ze5.1 hx;rw[zd9,zh7]
theorem Tryz.sty37:STy Tryz.prog 37 22 1 24 (.slice none 0 0):=⟨underlying37,⟨t22,by kernel_rfl,by kernel_rfl,by kernel_rfl,by kernel_rfl⟩,rfl,by decide⟩
theorem iZ (E:World)(hE:E.drawn=0)(g:PH)(s:Own)(v tv:Value)(l:List Cl)(T:List (List Int))(p:Int)(hv:aq g v l)(hf:c4 l)(hw:∀ c∈l,gD c.id)(ht:aK g tv T)(hT:T.length<1099511627776)(hTl:∀ t∈T,t.length<1099511627776)(hp2:2≤p)(hp9:p<9) :
  Ctr Tryz.prog E 12 #[.agg #[v],tv,vi p] g s (fun x g' s'=>s=s'∧Le g g'∧∃ u,x = .tuple #[u,vi (cD l T p)]∧Pgs g' u (cj l T p)):=by
 obtain ⟨vp,vc,rfl⟩:=hv.form;have hnone:cD l T p≠0→cj l T p=[]:=fun h=>by unfold cj; rw[zf4 h]
 refine za9 (args:=[.agg #[.slice vp l.length vc],tv,vi p]) func12 I ntmps12 (bE I) ?_;refine rZ (bW (bO I) fun b3=>?_);refine lA I (aT I (sQ (sW I (lW (cL call29 I (nI E g _ p hp2 hp9)) ?_))));rintro _ _ _ ⟨rfl,rfl,rfl⟩;refine lU (SU.not I) (tZ ?_);refine iQ I (fun hpr=>?_) (fun hpr=>?_)
 ·have hpr:fv p=false:=by simpa using hpr
  refine rZ (lA I (aT I (rE (tR ?_))));have he:cD l T p=46:=by unfold cD; rw[zf4 hpr]
  refine dR (s':=s) uR ?_;exact ST.ret2 (.inl I) results12 I I ⟨I,zb7 g,_,by rw[he],by rw[hnone (by rw[he]; decide)]; exact Pgs.nil g⟩
 ·have hpr:fv p=true:=by simpa using hpr
  have hp:=fW.1 hpr;refine kP (tN (rZ (lK (qV 0 bD aA I I I) (lM I (lW (cL call30 I (l5 E hE g _ _ tv l T hv hf hw ht hT hTl)) ?_)))));rintro _ g1 _ ⟨rfl,hle1,pv,rfl,hcov⟩;refine lM I (yX I (yX I (lA I (aT I (sQ (sW I (lU (nQ I I) (tZ ?_))))))));refine iP I (fun hop=>?_) (fun hop=>?_)
  ·refine sW I (lA I (aT I (rE (tR ?_))));have he:cD l T p=dI l T:=by unfold cD; rw[zf3 (by rw[hpr]; simp),zf4 hop]
   refine dR (s':=s) uR ?_;exact ST.ret2 (.inl I) results12 I I ⟨I,hle1,_,by rw[he]; rfl,by rw[hnone (by rw[he]; exact hop)]; exact Pgs.nil _⟩
  ·have hop0:dI l T=0:=zg3 hop;have hcov:=hcov hop0;obtain ⟨hok,hT6⟩:=jx hop0;have hRt:=kO hok;have hLt:ae l=aa l:=a7 hRt.asc;have hRt:Rt (ae l):=by rw[hLt]; exact hRt
   have hBf:=cd (jZ hRt hT6);have hBlt:=wW hRt hT6;have hdim:=wP hok;refine kP (tN (sW I (lW (cL call31 I (mZ E g1 _ pv (ae l) T hcov hRt hT6)) ?_)));rintro _ g2 _ ⟨rfl,hle2,u,rfl,hu⟩;obtain ⟨up,uc,rfl⟩:=hu.form;refine bW (aL zk3) fun b10=>?_;refine oZ (sK 0 aA I I I I I ⟨I,trivial⟩) (tZ (sQ (rZ (lK (qV 0 bD aA I I I) (lW (cL call24 I (kA E g2 _ _ (ct (ae l) T) hu hBf)) ?_)))));rintro _ _ _ ⟨rfl,rfl,rfl⟩;refine lM I (yX I (yX I (lA I (aT I (sW I (lU (nQ I I) (tZ ?_)))))));refine iP I (fun hbl=>?_) (fun hbl=>?_)
   ·refine rZ (lA I (aT I (rE (tR ?_))));have he:cD l T p=2:=by unfold cD; rw[zf3 (by rw[hpr]; simp),zf3 hop,zf4 (.inl hbl)]
    refine dR (s':=s) uR ?_;exact ST.ret2 (.inl I) results12 I I ⟨I,hle1.trans hle2,_,by rw[he],by rw[hnone (by rw[he]; decide)]; exact Pgs.nil _⟩
   ·have hBR:Rt (ct (ae l) T):=by
     have:=kO (zg3 hbl);unfold ct at this ⊢;rwa [fj] at this
    generalize hBd:ct (ae l) T=B at *;obtain ⟨us,hus,hallu⟩:=hu;have hul:=hallu.length;obtain ⟨bc,mc,cv,iv,rfl,hbc,-⟩:=id hcov;refine kP (tN (sW I (lM I (lW (SO.mkMap) ?_))));rintro _ _ _ ⟨b46,rfl,rfl,rfl⟩;refine lW (SO.mkKn (F:=fun a low dim=>eF (rkP p) T.length B a low dim)) ?_;rintro _ _ _ ⟨b47,rfl,rfl,rfl⟩;refine lU (za1 I (build72 _ _ _ _)) (bW (bO I) fun b49=>?_);refine aT I (sQ (rZ (lU (fA dg I cw I) (lK (qL (v:=.slice up B.length uc) dV I (cO 3 I I)) (lU (eN aJ I) (lM I (tZ (bK ?_))))))));refine oP (ι:=Nat×Mk) (fun z=>[(3,pp b3 0),(8,pp bc 0),(10,pp b10 0),(13,pp b49 0),(51,.slice up B.length uc),(52,vi B.length),(53,vi z.1)]) (fun _=>g2) (fun z=>pt b49 (.cells #[pp bc 0,vi p,.map (some b46),.map (some b47)] 72 (0,0))::knE b47 (fun a low dim=>eF (rkP p) T.length B a low dim)::mp b46 (m6 z.2)::pt b10 (.cells #[.slice up B.length uc] 30 (0,0))::pt b3 (.cells #[.slice vp l.length vc] 30 (0,0))::(eR z.2++s)) (fun z=>z.1≤us.length∧(∀ d,lq (nq z.2) d=(us.take z.1).filter fun r=>decide (r.dim=d))∧∀ d:Int,((us.take z.1).filter fun r=>decide (r.dim=d)).length≤200) (fun z=>us.length - z.1) (0,[]) sB I I ⟨ze9 _,fun _=>I,fun _=>by simp⟩ ?_;rintro ⟨k,ms⟩ ⟨hk,hcon,hcnt⟩;dsimp only at hk hcon hcnt ⊢;refine rZ (yL I (tZ (sQ ?_)));refine iP I (fun hlt=>?_) (fun hlt=>?_)
    ·have hkr:k<us.length:=oM;have hkB:k<B.length:=oM;have hb1:=za4 hus oM;have hgr:us[((k:Nat):Int).toNat]?=some us[k]:=gE hkr;have hsn:=x4 hkr;have hR:=hallu.get (gE hkB) (gE hkr);have hmB:B[k]∈B:=gM hkB;have hfB:=(ln hallu B[k].dim).length;have hsub:∀ d:Int,((us.take (k+1)).filter fun r=>decide (r.dim=d)).length≤(us.filter fun r=>decide (r.dim=d)).length:=fun d=>((List.take_sublist _ _).filter _).length_le;have hlB:=hBR.few;generalize us[k]=x at *;generalize B[k]=y at *;obtain ⟨xi,xd,xp,xn,xc⟩:=x;obtain ⟨-,hyd,-⟩:=hR;dsimp only at hyd hsn;obtain ⟨ms1,j0,v0,l0,hp0,hp1,hp2,hp3,hp4,-,hp5⟩:=CB ms xd;have hl0:l0.length≤200:=by rw[← hp0,hcon]; exact hcnt _
     have hl1:((us.take (k+1)).filter fun r=>decide (r.dim=xd))=l0++[⟨xi,xd,⟨xp,xn,xc⟩⟩]:=by rw[hsn,zf4 rfl,← hp0,hcon]
     refine kP (tN (sQ (bK (rZ (lU (iA aJ az I I hb1 oM sL) (lK (eA eL az I (za5 hus) hgr) (bW (aL zk4) fun b15=>?_)))))));refine oZ (sK 0 az I I I I I sB) (tZ (sQ ?_));refine SC.to (fun w hw=>hp5 E g2 [pt b15 (.cells #[vi xi,vi xd,.slice xp xn xc] 63 (0,0)),pt b49 (.cells #[pp bc 0,vi p,.map (some b46),.map (some b47)] 72 (0,0)),knE b47 (fun a low dim=>eF (rkP p) T.length B a low dim),mp b46 (m6 ms),pt b10 (.cells #[.slice up B.length uc] 30 (0,0)),pt b3 (.cells #[.slice vp l.length vc] 30 (0,0))] s w hw) ?_;refine SC.drawT 6 [16] [(0,2),(1,2),(2,2),(3,1),(4,2),(5,1),(6,2),(7,2),(8,2),(9,1),(10,2),(11,1),(12,1),(13,1),(14,0),(15,0),(16,0)] zd6 kR ?_;refine yM rfl (pU rfl (nC rfl) (pU rfl (fA s5 rfl sizeOf69 rfl) (pK rfl (qL (v:=.map (some b46)) isAgg69 rfl (cO 1 rfl rfl)) (pU rfl (fA ar rfl zT3 rfl) (pK rfl (qL (v:=vi xd) iT3 rfl (cO 0 rfl rfl)) (yM rfl (pU rfl (nC rfl) (pU rfl (fA s5 rfl sizeOf69 rfl) (pK rfl (qL (v:=.map (some b46)) isAgg69 rfl (cO 1 rfl rfl)) (pU rfl (fA ar rfl zT3 rfl) (pK rfl (qL (v:=vi xd) iT3 rfl (cO 0 rfl rfl)) (pK rfl (SQ.eq (v':=v0) (SQ.lookup mty69 rfl rfl (cU.own 3 rfl)) hp2) (pK rfl (qV 0 eL az rfl rfl rfl) (SP.o rfl (bS sty28 rfl rfl rfl (ab ⟨rfl,trivial⟩) dC) dC (.inr (by rintro _ _ _ ⟨b71,rfl,rfl,rfl⟩; exact⟨by exact zb7 _,(by exact .cons _ (List.take_sublist _ _))⟩)) ?_))))))))))))));rintro _ _ _ ⟨b71,rfl,rfl,rfl⟩;refine SP.o rfl (aP (e:=encCell) (l:=l0) (j0+6) ⟨xi,xd,⟨xp,xn,xc⟩⟩ sty28 rfl rfl rfl (xw hp1 s) rfl oM oM) dC (.inr (by rintro v72 _ _ ⟨rfl,rfl⟩; exact⟨by exact zb7 _,(by exact ez _ _ _ _)⟩)) ?_;rintro v72 _ _ ⟨rfl,rfl⟩;refine zc7 fun ⟨w0,hw0⟩=>?_;obtain ⟨q72,d72,rfl⟩:=ag (e:=encCell) (l:=l0++[⟨xi,xd,⟨xp,xn,xc⟩⟩]) (i:=j0+6) hw0 (AZ hp1 s rfl);clear hw0 w0;refine SP.on I (SO.mapUpdate 3 mty69 I I I I) (.inl dC) ?_;rintro _ _ _ ⟨rfl,rfl⟩;refine pN (tN (sQ (SC.drop (s':=pt b15 (.cells #[vi xi,vi xd,.slice xp xn xc] 63 (0,0))::pt b49 (.cells #[pp bc 0,vi p,.map (some b46),.map (some b47)] 72 (0,0))::knE b47 (fun a low dim=>eF (rkP p) T.length B a low dim)::mp b46 (m6 (ms1.set j0 (xd,Value.slice q72 (l0++[(⟨xi,xd,⟨xp,xn,xc⟩⟩:Rc)]).length d72,l0++[(⟨xi,xd,⟨xp,xn,xc⟩⟩:Rc)])))::pt b10 (.cells #[.slice up B.length uc] 30 (0,0))::pt b3 (.cells #[.slice vp l.length vc] 30 (0,0))::(eR (ms1.set j0 (xd,Value.slice q72 (l0++[(⟨xi,xd,⟨xp,xn,xc⟩⟩:Rc)]).length d72,l0++[(⟨xi,xd,⟨xp,xn,xc⟩⟩:Rc)]))++s)) (by rw[← hp3,← xu hp1 s]; exact .refl _) ?_)));refine dW [] [(0,2),(1,2),(2,2),(3,1),(4,2),(5,1),(6,1),(7,2),(8,2)] zd6 kR ?_;refine yM I (pU I (nC I) (pU I (fA s5 I sizeOf69 I) (pK I (qL (v:=.map (some b46)) isAgg69 I (cO 1 I I)) (pU I (fA ar I zT3 I) (pK I (qL (v:=vi xd) iT3 I (cO 0 I I)) (pK I (SQ.eq (v':=Value.slice q72 (l0++[(⟨xi,xd,⟨xp,xn,xc⟩⟩:Rc)]).length d72) (SQ.lookup mty69 I I (cU.own 3 I)) (by rw[← hp3,xG,zf4 I]; rfl)) ?_))))));refine pU I (eN aJ I) (pU I (gR I I) (pN (tN ?_)));refine iP I (fun hbig=>?_) (fun hbig=>?_)
     ·have hmany:nh B=true:=wD hmB (by
       rw[hfB,← hyd];have:=hsub xd;rw[hl1] at this;omega)
      have he:cD l T p=2:=by unfold cD; rw[zf3 (by rw[hpr]; simp),zf3 hop,hBd,zf4 (.inr hmany)]
      refine rZ (lA I (aT I (rE (bR (tR (tR (bR (tR (dR (s':=s) (.cons _ (.cons _ (.cons _ (.cons _ (.cons _ (.cons _ (List.sublist_append_right _ _))))))) ?_)))))))));exact ST.ret2 (.inl I) results12 I I ⟨I,hle1.trans hle2,_,by rw[he],by rw[hnone (by rw[he]; decide)]; exact Pgs.nil _⟩
     ·refine kP (bN (tN (rG (yD I (lM I (nL (dR (.cons _ (.refl _)) ?_)))))));exact gA (k+1,(ms1.set j0 (xd,Value.slice q72 (l0++[(⟨xi,xd,⟨xp,xn,xc⟩⟩:Rc)]).length d72,l0++[(⟨xi,xd,⟨xp,xn,xc⟩⟩:Rc)]))) sB I I ⟨by dsimp only; omega,fun d=>by
       dsimp only;rw[hp4,tV,hcon,hcon,hsn];by_cases e:d=xd
       ·subst e; rfl
       ·rw[zf3 e,zf3 e],fun d=>by
       dsimp only;by_cases e:d=xd
       ·rw[e,hl1]; omega
       ·rw[hsn,zf3 e]; exact hcnt d⟩ (by dsimp only; omega)
    ·have hke:k=us.length:=oM;subst hke;rw[List.take_length] at hcon hcnt;refine xI (tX (tX (bX (tN (sQ (SC.freeze fun g3 hl3 hb49=>?_))))));refine cP (s':=mp b46 (m6 ms)::pt b10 (.cells #[.slice up B.length uc] 30 (0,0))::pt b3 (.cells #[.slice vp l.length vc] 30 (0,0))::(eR ms++knE b47 (fun a low dim=>eF (rkP p) T.length B a low dim)::s)) (List.perm_middle (a:=knE b47 (fun a low dim=>eF (rkP p) T.length B a low dim)) (l₁:=mp b46 (m6 ms)::pt b10 (.cells #[.slice up B.length uc] 30 (0,0))::pt b3 (.cells #[.slice vp l.length vc] 30 (0,0))::eR ms) (l₂:=s)).symm ?_;refine SC.freezeMap fun g4 hl4 hmp=>?_;refine SC.freeze fun g5 hl5 hb10=>?_;refine SC.freeze fun g6 hl6 hb3=>?_;refine SC.freezeKs fun g7 hl7 hks=>?_;refine rG (aT I (sQ (sW I (lU (nC I) (lU (fA m4 I zT3 I) (lK (qL (v:=vi T.length) iT3 I (cK ((hle2.trans (hl3.trans (hl4.trans (hl5.trans (hl6.trans hl7))))) _ _ hbc) I)) (lM I (tZ (bK ?_)))))))));have hcnt':∀ d:Int,(B.filter fun c=>decide (c.dim=d)).length≤200:=fun d=>by
      rw[(ln hallu d).length];exact hcnt d
     have hno:nh B=false:=rJ hcnt';have hl57:=hl5.trans (hl6.trans hl7);have hl37:=hl4.trans hl57;have hl27:=hl3.trans hl37;have hspec:s4 g7 (pp b49 0) (ae l) T p B b47:=⟨b49,b46,pp bc 0,rfl,hl37 _ _ hb49,hcov.mono (hle2.trans hl27),Cs (hmp.mono hl57) hks (hallu.mono fun _ _=>ay.mono hl27) hcon⟩;have hbc7:=(hle2.trans hl27) _ _ hbc;have hb37:=hl7 _ _ hb3;have hv7:=hv.mono (hle1.trans (hle2.trans hl27));have hBok:Bok T.length B:=⟨hBR,hBlt,hcnt'⟩;have hD:vU l+1=((dimN l:Nat):Int):=by unfold dimN vU at *; omega
     have hD9:dimN l≤9:=oM;have he:cD l T p=0:=by unfold cD; rw[zf3 (by rw[hpr]; simp),zf3 hop,hBd,zf3]; rw[hno]; rintro (h | h); exact hbl h; cases h
     have hC:cj l T p=i9 (gf (rkP p) T.length B (dimN l)):=by unfold cj; rw[zf3 (by rw[he]; simp),hBd]
     generalize dimN l=D at *;refine zb4 22 1 ?_;refine oP (ι:=PH×Nat×Value×List Sv) (fun z=>[(3,pp b3 0),(8,pp bc 0),(13,pp b49 0),(16,z.2.2.1),(86,vi T.length),(87,vi z.2.1)]) (fun z=>z.1) (fun z=>rowA aU 22 z.2.2.1 z.2.2.2::knE b47 (fun a low dim=>eF (rkP p) T.length B a low dim)::s) (fun z=>Le g7 z.1∧z.2.1≤T.length∧aw (fun (Q:List (List Int)) (r:Sv)=>aK z.1 (.slice r.p r.n r.c) Q) ((List.range z.2.1).map fun r:Nat=>vL (rkP p) T.length B D ((r:Int)+1)) z.2.2.2) (fun z=>T.length - z.2.1) (g7,0,.slice none 0 0,[]) sB I I ⟨zb7 _,ze9 _,trivial⟩ ?_;rintro ⟨g8,k2,ov,os⟩ ⟨hle8,hk2,hacc⟩;dsimp only at hle8 hk2 hacc ⊢;have hol:=hacc.length;rw[zd9,zh7] at hol;refine rZ (yL I (tZ (sQ ?_)));refine iP I (fun hlt=>?_) (fun hlt=>?_)
     ·refine kP (tN (sQ (bK (sW I (aT I (rZ (aT I (sQ (sW I (lU (nC I) (lU (fA m4 I zT3 I) (lK (qL (v:=vi T.length) iT3 I (cK (hle8 _ _ hbc7) I)) (lM I (tZ (bK (zb4 25 1 ?_))))))))))))))));refine oP (ι:=PH×Nat×Value×List Sv) (fun z=>[(3,pp b3 0),(8,pp bc 0),(13,pp b49 0),(16,ov),(17,vi k2),(18,z.2.2.1),(86,vi T.length),(87,vi k2),(93,vi T.length),(94,vi z.2.1)]) (fun z=>z.1) (fun z=>rowA aU 25 z.2.2.1 z.2.2.2::rowA aU 22 ov os::knE b47 (fun a low dim=>eF (rkP p) T.length B a low dim)::s) (fun z=>Le g8 z.1∧z.2.1≤T.length∧aw (br z.1) ((List.range z.2.1).map fun a:Nat=>(List.range D).map fun b:Nat=>uu (rkP p) T.length B ((k2:Int)+1) a b) z.2.2.2) (fun z=>T.length - z.2.1) (g8,0,.slice none 0 0,[]) sB I I ⟨zb7 _,ze9 _,trivial⟩ ?_;rintro ⟨g9,k3,pv,ps⟩ ⟨hle9,hk3,hac2⟩;dsimp only at hle9 hk3 hac2 ⊢;have hpl:=hac2.length;rw[zd9,zh7] at hpl;have hle79:=hle8.trans hle9;refine rZ (yL I (tZ (sQ ?_)));refine iP I (fun hlt3=>?_) (fun hlt3=>?_)
      ·refine kP (tN (sQ (bK (sW I (aT I (rZ (aT I (sQ (rZ (lK (SQ.loadOne bD aA I (cK (hle79 _ _ hb37) I)) (lW (cL call32 I (uh E g9 _ (.slice vp l.length vc) l (hv7.mono hle79) hf)) ?_)))))))))));rintro _ g10 _ ⟨rfl,rfl,hle10⟩;refine lU (SU.eq (v':=vi D) (aD I I oM) (zd5 vi hD)) (lM I (tZ (bK (zb4 3 1 ?_))));refine oP (ι:=PH×Nat×Value) (fun z=>[(3,pp b3 0),(8,pp bc 0),(13,pp b49 0),(16,ov),(17,vi k2),(18,pv),(19,vi k3),(20,z.2.2),(86,vi T.length),(87,vi k2),(93,vi T.length),(94,vi k3),(99,vi D),(100,vi z.2.1)]) (fun z=>z.1) (fun z=>rowA encInt 3 z.2.2 ((List.range z.2.1).map fun b:Nat=>uu (rkP p) T.length B ((k2:Int)+1) k3 b)::rowA aU 25 pv ps::rowA aU 22 ov os::knE b47 (fun a low dim=>eF (rkP p) T.length B a low dim)::s) (fun z=>Le g10 z.1∧z.2.1≤D) (fun z=>D - z.2.1) (g10,0,.slice none 0 0) sB I I ⟨zb7 _,ze9 _⟩ ?_;rintro ⟨g11,k4,iv⟩ ⟨hle11,hk4⟩;dsimp only at hle11 hk4 ⊢;have hle711:=hle79.trans (hle10.trans hle11);have hil:((List.range k4).map fun b:Nat=>uu (rkP p) T.length B ((k2:Int)+1) k3 b).length=k4:=by rw[zd9,zh7]
       refine rZ (yL I (tZ (sQ ?_)));refine iP I (fun hlt4=>?_) (fun hlt4=>?_)
       ·refine kP (tN (sQ (bK (sW I (aT I (rG (lM I (lM I (lM I (yD I (lM I (lM I (lW (cL call33 I (sr E g11 _ (pp b49 0) (ae l) T p hp B b47 3 ((k2:Int)+1) k3 k4 (hspec.mono hle711) hBok hT6 I oM oM oM)) ?_)))))))))))));rintro _ g12 _ ⟨rfl,rfl,hle12⟩;refine lW (bS sty25 I I I (ab ⟨I,trivial⟩) dC) ?_;rintro _ _ _ ⟨b110,rfl,rfl,rfl⟩;refine lW (aP (e:=encInt) (l:=(List.range k4).map fun b:Nat=>uu (rkP p) T.length B ((k2:Int)+1) k3 b) 0 (uu (rkP p) T.length B ((k2:Int)+1) k3 k4) sty25 I I I I I oM oM) ?_;rintro v111 _ _ ⟨rfl,rfl⟩;refine lA I (nL (bN (tN (rG (yD I (lM I (nL ?_)))))));exact gA (g12,k4+1,v111) sB I (by dsimp only; rw[ks]; rfl) ⟨hle11.trans hle12,by dsimp only; omega⟩ (by dsimp only; omega)
       ·have hke4:k4=D:=oM;subst hke4;refine fS fun g12 hle12 hs12=>?_;obtain ⟨q12,c12,rfl⟩:=Sl.form hs12;rw[hil] at hs12 ⊢;refine xI (tX (tX (bX (tN (rG (lM I (lM I (lW (bS sty22 I I I (ab ⟨I,trivial⟩) dC) ?_))))))));rintro _ _ _ ⟨b115,rfl,rfl,rfl⟩;refine lW (aP (e:=aU) (l:=ps) 0 ⟨q12,k4,c12⟩ sty22 I I I I I oM oM) ?_;rintro v116 _ _ ⟨rfl,rfl⟩;refine lA I (nL (bN (tN (rG (yD I (lM I (nL ?_)))))));exact gA (g12,k3+1,v116,ps++[⟨q12,k4,c12⟩]) sB I I ⟨hle9.trans (hle10.trans (hle11.trans hle12)),by dsimp only; omega,by
         dsimp only;rw[ks];refine (hac2.mono fun _ _=>br.mono (hle10.trans (hle11.trans hle12))).append ⟨?_,trivial⟩;show Sl _ _ _ _ _;rw[hil];exact hs12⟩ (by dsimp only; omega)
      ·have hke3:k3=T.length:=oM;subst hke3;refine fS fun g10 hle10 hs10=>?_;obtain ⟨q10,c10,rfl⟩:=Sl.form hs10;refine xI (tX (tX (bX (tN (rG (lM I (lM I (lW (bS sty37 I I I (ab ⟨I,trivial⟩) dC) ?_))))))));rintro _ _ _ ⟨b120,rfl,rfl,rfl⟩;refine lW (aP (e:=aU) (l:=os) 0 ⟨q10,ps.length,c10⟩ sty37 I I I I I oM oM) ?_;rintro v121 _ _ ⟨rfl,rfl⟩;refine lA I (nL (bN (tN (rG (yD I (lM I (nL ?_)))))));exact gA (g10,k2+1,v121,os++[⟨q10,ps.length,c10⟩]) sB I I ⟨hle8.trans (hle9.trans hle10),by dsimp only; omega,by
        dsimp only;rw[ks];exact (hacc.mono fun _ _ h=>h.mono (hle9.trans hle10)).append ⟨⟨ps,hs10,hac2.mono fun _ _=>br.mono hle10⟩,trivial⟩⟩ (by dsimp only; omega)
     ·have hke2:k2=T.length:=oM;subst hke2;have hacc:aw (fun (Q:List (List Int)) (r:Sv)=>aK g8 (.slice r.p r.n r.c) Q) (gf (rkP p) T.length B D) os:=hacc;have hPAl:=nN (rf:=rkP p) (n:=T.length) (B:=B) (D:=D);have hPAs:=qZ (rf:=rkP p) (n:=T.length) (B:=B) (D:=D);rw[hC];generalize gf (rkP p) T.length B D=PA at *;refine fS fun g9 hle9 hs9=>?_;obtain ⟨q9,c9,rfl⟩:=Sl.form hs9;have hacc:=hacc.mono fun _ _ h=>aK.mono h hle9;refine xI (tX (tX (bX (tN (rZ (aT I (sQ (bK ?_))))))));refine oP (ι:=Nat×Option Addr×Nat) (fun z=>[(16,.slice z.2.1 z.1 z.2.2),(22,.func (.func 34) #[] #[])]) (fun _=>g9) (fun _=>knE b47 (fun a low dim=>eF (rkP p) T.length B a low dim)::s) (fun z=>z.1≤os.length∧SlA aU g9 (.slice z.2.1 z.1 z.2.2) (os.take z.1)∧i9 (PA.take z.1)=i9 PA) (fun z=>z.1) (os.length,q9,c9) sB I I ⟨lR _,by dsimp only; rw[List.take_length]; exact hs9,by dsimp only; rw[← hol,← hPAl,List.take_length]⟩ ?_;rintro ⟨m,q,c⟩ ⟨hm,hsm,htr⟩;dsimp only at hm hsm htr ⊢;by_cases h1:1<m
      ·have hst:=xa (P:=PA) h1 oM;have hP1:PA[m - 1]'oM∈PA:=gM _;have hP2:PA[m - 2]'oM∈PA:=gM _;have hL1:=hacc.get (gE (i:=m - 1) oM) (gE (i:=m - 1) oM);have hL2:=hacc.get (gE (i:=m - 2) oM) (gE (i:=m - 2) oM);have hg1:(os.take m)[((m:Int) - 1).toNat]?=some (os[m - 1]'oM):=by
        rw[show ((m:Int) - 1).toNat=m - 1 by omega,zh4,zf4 oM];exact gE _
       have hg2:(os.take m)[((m:Int) - 2).toNat]?=some (os[m - 2]'oM):=by
        rw[show ((m:Int) - 2).toNat=m - 2 by omega,zh4,zf4 oM];exact gE _
       generalize PA[m - 1]'oM=Q1 at *;generalize PA[m - 2]'oM=Q2 at *;generalize os[m - 1]'oM=r1 at *;generalize os[m - 2]'oM=r2 at *;obtain ⟨p1,n1,c1⟩:=r1;obtain ⟨p2,n2,c2⟩:=r2;have hbm:=za4 hsm (by rw[zd7]; omega);have hmc:=(SlA.cap hsm).2;rw[zd7,Nat.min_eq_left hm] at hmc;have hcut:=SlA.cut (l:=0) (m:=m - 1) (k:=1) (e:=aU) (xs:=os.take m) (p:=q) (c:=c) (g:=g9) (by rw[zd7,Nat.min_eq_left hm]; exact hsm) (ze9 _) (by rw[zd7]; omega);rw[List.drop_zero,Nat.sub_zero,List.take_take,Nat.min_eq_left oM] at hcut;obtain ⟨q',c',hq'⟩:=za2 hcut;rw[zd7,Nat.min_eq_left oM] at hq';rw[hq'] at hcut;refine sQ (sQ ?_);refine dW [] [(0,2),(1,2),(2,2),(3,2),(4,2),(5,2),(6,2),(7,2),(8,2),(9,2),(10,1),(11,2),(12,2),(13,2),(14,2),(15,2),(16,1),(17,0),(18,2)] zd6 kR ?_;refine yM I (pU I (eN nm I) (pU I (SU.eq (v':=vb true) (gR I I) (zd5 vb (zf2 oM))) (yM I (yJ I (yJ I (yJ I (zb1 I (gT I I I dC) (eN nm I) dC (zb1 I (gT I I I dC) (sU I I oM) dC (zb1 I (gT I I I dC) (iA nm pI I I hbm oM sL) dC (SP.gq I (gT I I I dC) (eB (u:=.slice p1 n1 c1) isAgg22 I (za5 hsm) hg1 I) dC (yJ I (yJ I (zb1 I (gT I I I dC) (eN nm I) dC (zb1 I (gT I I I dC) (sU I I oM) dC (zb1 I (gT I I I dC) (iA nm pI I I hbm oM sL) dC (SP.gq I (gT I I I dC) (eB (u:=.slice p2 n2 c2) isAgg22 I (za5 hsm) hg2 I) dC (SP.go I (gT I I I dC) (SO.callV I I (cG.mk (cap:=[]) call34 (qY E g9 _ (.slice p1 n1 c1) (.slice p2 n2 c2) Q1 Q2 hL1 hL2 (by rw[(hPAs _ hP1).1]; omega) (fun x hx=>by rw[(hPAs _ hP1).2 x hx]; omega) (by rw[(hPAs _ hP2).1]; omega)))) dC (.inr iR) ?_)))))))))))))))));rintro _ _ _ ⟨rfl,rfl,rfl⟩;refine pU I (wT I I) (pN (tN ?_));refine iQ I (fun heq=>?_) (fun heq=>?_)
       ·rw[zf4 (by simpa using heq)] at hst;refine kP (tN (bK (rG (lM I (lM I (lU (eN nm I) (lU (sU I I oM) (lU (SU.eq (v':=.slice q' (m - 1) c') (SU.sliceH nm pI I I oM oM) (by rw[show ((m:Int) - 1).toNat=m - 1 by omega]; exact hq')) ?_))))))));refine lA I (nL (bN ?_));exact gA (m - 1,q',c') sB I I ⟨by dsimp only; omega,hcut,by dsimp only; rw[← hst]; exact htr⟩ (by dsimp only; omega)
       ·rw[zf3 (by simpa using heq)] at hst;refine xI (tX (tX (bX (tN (sW I (lA I (aT I (rE (dR (s':=s) uR ?_)))))))));exact ST.ret2 (.inl I) results12 I I ⟨I,hle1.trans (hle2.trans (hl27.trans (hle8.trans hle9))),_,by rw[he],by rw[← htr,hst]; exact⟨os.take m,hsm,aw.take m hacc⟩⟩
      ·have hst:=yV (P:=PA) h1;refine sQ (sQ ?_);refine dW [] [(0,2),(1,2),(2,2),(3,2),(4,2),(5,2),(6,2),(7,2),(8,2),(9,2),(10,1),(11,2),(12,2),(13,2),(14,2),(15,2),(16,1),(17,0),(18,2)] zd6 kR ?_;refine yM I (pU I (eN nm I) (pU I (SU.eq (v':=vb false) (gR I I) (zd5 vb (zf1 oM))) (yM I (yG I (yG I (yG I (yG I (yG I (yG I (yI I (yG I (yG I (yG I (yG I (yG I (yI I (fO I (gZ I I I dC) dC ⟨by exact zb7 _,(by exact .refl _)⟩ ?_)))))))))))))))));refine pU I (wF I I) (pN (tN (cF I (xI (tX (tX (bX (tN (sW I (lA I (aT I (rE (dR (s':=s) uR ?_)))))))))))));exact ST.ret2 (.inl I) results12 I I ⟨I,hle1.trans (hle2.trans (hl27.trans (hle8.trans hle9))),_,by rw[he],by rw[← htr,hst]; exact⟨os.take m,hsm,aw.take m hacc⟩⟩
structure PgOk (l:List Cl)(T:List (List Int))(p:Int):Prop where
 fp:Fp p
 opn:dI l T=0
 few:T.length≤6
 bok:Bok T.length (ct (ae l) T)
 dim:vU l+1=((dimN l:Nat):Int)
 dims:dimN l≤9
 eq:cj l T p=i9 (gf (rkP p) T.length (ct (ae l) T) (dimN l))
theorem sJ {B:List Cl}(h:nh B=false)(d:Int):(B.filter fun c=>decide (c.dim=d)).length≤200:=by
 cases hd:B.filter (fun c=>decide (c.dim=d)) with
 | nil=>simp
 | cons c q =>
  have hc:c∈B.filter fun c=>decide (c.dim=d):=by rw[hd]; simp
  obtain ⟨h1,h2⟩:=zg7.1 hc;have h2:c.dim=d:=zf6 h2;subst h2;rw[← hd];refine Nat.le_of_not_lt fun h3=>?_;rw[wD h1 h3] at h;cases h
theorem jJ {l:List Cl}{T:List (List Int)}{p:Int}(h:cD l T p=0):PgOk l T p:=by
 have hC:cj l T p=i9 (gf (rkP p) T.length (ct (ae l) T) (dimN l)):=by unfold cj; rw[zf3 (by rw[h]; simp)]
 unfold cD at h;split at h
 ·cases h
 ·rename_i hpr;split at h
  ·rename_i hop; exact absurd h hop
  ·rename_i hop;have hop:=zg3 hop;split at h
   ·cases h
   ·rename_i hbl;have hbl1:(aY (ct (ae l) T)).2=0:=zg3 fun k=>hbl (.inl k);have hmany:nh (ct (ae l) T)=false:=Bool.eq_false_iff.2 fun k=>hbl (.inr k);obtain ⟨hok,hT6⟩:=jx hop;have hRt:=kO hok;have hLt:ae l=aa l:=a7 hRt.asc;have hRt:Rt (ae l):=by rw[hLt]; exact hRt
    have hBR:Rt (ct (ae l) T):=by
     have:=kO hbl1;unfold ct at this ⊢;rwa [fj] at this
    have hdim:=wP hok;have hD:vU l+1=((dimN l:Nat):Int):=by unfold dimN vU at *; omega
    exact⟨fW.1 (by simpa using hpr),hop,hT6,⟨hBR,wW hRt hT6,sJ hmany⟩,hD,oM,hC⟩
theorem pO {α:Type}[DecidableEq α]:∀ {l:List α} {x:α},x∈nf l→x∈l
 | [],_,h=>h
 | [_],_,h=>h
 | a::b::l,x,h=>by
  unfold nf at h;split at h
  ·exact List.mem_cons_of_mem _ (pO h)
  ·exact h
theorem xb {α:Type}[DecidableEq α]{l:List α}{x:α}(h:x∈i9 l):x∈l:=by
 unfold i9 at h;rw[List.mem_reverse] at h;have:=pO h;rwa [List.mem_reverse] at this
theorem pP {α:Type}[DecidableEq α]:∀ {l:List α},(nf l).length≤l.length
 | []=>lR _
 | [_]=>lR _
 | a::b::l=>by
  unfold nf;split
  ·exact zj8 pP (Nat.le_succ _)
  ·exact lR _
theorem xe {α:Type}[DecidableEq α]{l:List α}:(i9 l).length≤l.length:=by
 unfold i9;rw[List.length_reverse];have:=pP (l:=l.reverse);rwa [List.length_reverse] at this
theorem Bp {p:Int}(hp:Fp p){n:Nat}{B:List Cl}(hB:Bok n B)(r a b:Int):(uu (rkP p) n B r a b).natAbs≤800:=by
 have hbd:=tr hp hB;have b1:=hbd a (a - r) (a+b);have b2:=hbd (a - 1) (a - r) (a+b);have b3:=hbd (a+r - 1) a (a+b+1);have b4:=hbd (a+r - 1) (a - 1) (a+b+1);unfold uu;omega
theorem tE {l:List Cl}{T:List (List Int)}{p:Int}(h:cD l T p=0):∀ Q∈cj l T p,Q.length=T.length∧∀ x∈Q,x.length=dimN l∧∀ y∈x,y.natAbs≤800:=fun Q hQ=>by
 have ho:=jJ h;rw[ho.eq] at hQ;obtain ⟨r,-,rfl⟩:=ze5.1 (xb hQ);refine⟨qf,fun x hx=>?_⟩;obtain ⟨a,-,rfl⟩:=ze5.1 hx;refine⟨by rw[zd9,zh7],fun y hy=>?_⟩;obtain ⟨b,-,rfl⟩:=ze5.1 hy;exact Bp ho.fp ho.bok _ _ _
theorem qe {l:List Cl}{T:List (List Int)}{p:Int}:(cj l T p).length≤T.length:=by
 unfold cj;split
 ·exact ze9 _
 ·refine zj8 xe ?_;rw[nN];exact lR _
def rB (P:List (List Int))(d:Nat):Int:=((P.zipIdx.map fun q=>if q.2≤d then q.1.getD (d - q.2) 0 else 0)).sum
theorem fa (D:Nat)(P:List (List Int)):fg D P=(List.range D).map (rB P):=rfl
theorem j2 (P:List (List Int))(x:List Int)(d:Nat):rB (P++[x]) d=rB P d+if P.length≤d then x.getD (d - P.length) 0 else 0:=by
 unfold rB;rw[List.zipIdx_append,zf8,List.sum_append];simp
theorem z7 (P:List (List Int))(d:Nat):rB (P++[[]]) d=rB P d:=by rw[j2]; simp
theorem nD {m:Nat}:∀ {q:List Int},(∀ y∈q,y.natAbs≤m)→q.sum.natAbs≤q.length * m
 | [],_=>by simp
 | y::q,h=>by
  have h1:=h y (by simp);have h2:=nD (q:=q) fun z hz=>h z (by simp[hz]);rw[List.sum_cons,ze2,Nat.succ_mul];omega
theorem BI {m:Nat}{P:List (List Int)}(h:∀ x∈P,∀ y∈x,y.natAbs≤m)(d:Nat):(rB P d).natAbs≤P.length * m:=by
 have:=nD (m:=m) (q:=P.zipIdx.map fun q=>if q.2≤d then q.1.getD (d - q.2) 0 else 0) fun y hy=>by
  obtain ⟨q,hq,rfl⟩:=ze5.1 hy;split
  ·rw[zg4];cases hx:q.1[d - q.2]? with
   | none=>simp
   | some y=>exact h q.1 (List.fst_mem_of_mem_zipIdx hq) y (zf5 hx)
  ·simp
 rwa [zd9,List.length_zipIdx] at this
theorem un (D:Nat)(P:List (List Int))(x:List Int)(j:Nat)(hj:j<x.length):fg D (P++[x.take (j+1)])=(fg D (P++[x.take j])).set (P.length+j) (rB (P++[x.take j]) (P.length+j)+x[j]):=by
 rw[fa,fa];refine List.ext_getElem? fun d=>?_;rw[List.getElem?_set,zh3,zh3,zd9,zh7];by_cases hd:d<D
 ·rw[List.getElem?_range hd];show some _=if P.length+j=d then (if P.length+j<D then some (rB (P++[x.take j]) (P.length+j)+x[j]) else none) else some (rB (P++[x.take j]) d)
  rw[j2,j2,j2];have e1:x.take (j+1)=x.take j++[x[j]]:=tS hj;by_cases e:P.length+j=d
  ·subst e;rw[zf4 rfl,zf4 hd,zf4 oM,zf4 oM,Nat.add_sub_cancel_left,e1];simp[zg4,Nat.le_of_lt hj,zg6,gE hj]
  ·rw[zf3 e];congr 2;by_cases e2:P.length≤d
   ·rw[zf4 e2,zf4 e2,zg4,zg4];congr 1;rw[zh4,zh4];split <;> split <;> first | rfl | omega | skip
   ·rw[zf3 e2,zf3 e2]
 ·rw[List.getElem?_eq_none (by rw[zh7]; omega)];split
  ·rw[zf3 oM]; rfl
  ·rfl
theorem BH {D:Nat}{P:List (List Int)}{x:List Int}{j:Nat}(hj:j<x.length)(h:¬ P.length+j<D):fg D (P++[x.take (j+1)])=fg D (P++[x.take j]):=by
 rw[un D P x j hj,List.set_eq_of_length_le];rw[fa,zd9,zh7];omega
theorem vD (E:World)(hE:E.drawn=0)(g:PH)(s:Own)(v tv:Value)(l:List Cl)(T:List (List Int))(p:Int)(hv:aq g v l)(hf:c4 l)(hw:∀ c∈l,gD c.id)(ht:aK g tv T)(hT:T.length<1099511627776)(hTl:∀ t∈T,t.length<1099511627776)(hp2:2≤p)(hp9:p<9) :
  Ctr Tryz.prog E 14 #[.agg #[v],tv,vi p] g s (fun x g' s'=>s=s'∧Le g g'∧∃ u,x = .tuple #[u,vi (cD l T p)]∧bZ g' u (iT l T p)):=by
 obtain ⟨vp,vc,rfl⟩:=hv.form;refine za9 (args:=[.agg #[.slice vp l.length vc],tv,vi p]) func14 I ntmps14 (bE I) ?_;refine rZ (bW (bO I) fun b3=>?_);refine lA I (aT I (rZ (lK (qV 0 bD aA I I I) (lM I (lM I (lW (cL call12 I (iZ E hE g _ _ tv l T p hv hf hw ht hT hTl hp2 hp9)) ?_))))));rintro _ g1 _ ⟨rfl,hle1,u,rfl,us,hus,hall⟩;obtain ⟨up,uc,rfl⟩:=za2 hus;have hlen:=hall.length;by_cases he:cD l T p=0
 ·refine lM I (yX I (yX I (lA I (aT I (sQ (sW I (lU (SU.eq (v':=vb false) (nQ I I) (zd5 vb (by rw[he]; rfl))) ?_)))))));refine lM I (yC I (lY I I I (eN nm I) (lY I I I (eQ I I) (yF I (tZ ?_)))));refine iP I (fun h0=>?_) (fun h0=>?_)
  ·refine sW I (lA I (aT I (rE (tR ?_))));have hb:iT l T p=[]:=by unfold iT; rw[zf4 oM]
   refine dR (s':=s) uR ?_;exact ST.ret2 (.inl I) results14 I I ⟨I,hle1,_,I,by rw[hb]; exact zb8 _ _⟩
  ·have ho:=jJ he;have hbd:=tE he;obtain ⟨hfp,-,hT6,hbok,hD,hD9,-⟩:=ho;have hb:iT l T p=fg (dimN l) ((cj l T p).getLastD []):=by unfold iT; rw[zf3 oM]
   have hpf:=qe (l:=l) (T:=T) (p:=p);have hPl:us.length - 1<(cj l T p).length:=oM;have hQ:(cj l T p)[us.length - 1]?=some ((cj l T p)[us.length - 1]):=gE hPl;have hlast:(cj l T p).getLastD []=(cj l T p)[us.length - 1]:=by
    rw[List.getLastD_eq_getLast?,List.getLast?_eq_getElem?,hlen,hQ];rfl
   have hQm:=gM hPl;have hQR:=hall.get hQ (gE (i:=us.length - 1) oM);have hgu:us[((us.length:Int) - 1).toNat]?=some (us[us.length - 1]'oM):=by
    rw[show ((us.length:Int) - 1).toNat=us.length - 1 by omega];exact gE _
   rw[hlast] at hb;have hb1:=za4 hus oM;generalize (cj l T p)[us.length - 1]=Q at *;generalize us[us.length - 1]'oM=r1 at *;obtain ⟨p1,n1,c1⟩:=r1;obtain ⟨hQl,hQx⟩:=hbd Q hQm;obtain ⟨rs,hrs,hallr⟩:=hQR;dsimp only at hrs;obtain ⟨rfl,-⟩:=SlA.cap hrs;have hrl:=hallr.length;refine kP (tN (rZ (lK (qV 0 bD aA I I I) (lW (cL call32 I (uh E g1 _ (.slice vp l.length vc) l (hv.mono hle1) hf)) ?_))));rintro _ g2 _ ⟨rfl,rfl,hle2⟩;refine lU (SU.eq (v':=vi (dimN l)) (aD I I oM) (zd5 vi hD)) (lW (mK encInt 0 sty25 I I I oM oM) ?_);rintro _ _ _ ⟨bl,rfl,rfl,rfl⟩;refine aT I (sQ (sW I (lM I (lU (eN nm I) (lU (sU I I oM) (lU (iA nm pI I I hb1 oM (show ((us.length:Int) - 1)<((us.length:Nat):Int) by omega)) ?_))))));refine lK (eB (u:=.slice p1 rs.length c1) isAgg22 I (za5 (za3 hus hle2)) hgu I) (lU (eN bL I) (lM I (tZ (bK ?_))));generalize dimN l=D at *;have h00:fg D []=List.replicate D 0:=by
    rw[fa,List.eq_replicate_iff];exact⟨by simp,fun b hb=>by obtain ⟨d,_,rfl⟩:=ze5.1 hb; rfl⟩
   rw[← h00];have hrs2:=za3 hrs hle2;refine oP (ι:=Nat) (fun a=>[(10,.slice (some ⟨bl,0,none⟩) D D),(39,.slice p1 rs.length c1),(40,vi rs.length),(41,vi a)]) (fun _=>g2) (fun a=>rowA encInt 3 (.slice (some ⟨bl,0,none⟩) D D) (fg D (Q.take a))::pt b3 (.cells #[.slice vp l.length vc] 30 (0,0))::s) (fun a=>a≤rs.length) (fun a=>rs.length - a) 0 sB I I (ze9 _) ?_;rintro a ha;refine rZ (yL I (tZ (sQ ?_)));refine iP I (fun hlt=>?_) (fun hlt=>?_)
   ·have har:a<rs.length:=oM;have haQ:a<Q.length:=oM;have hgr:rs[((a:Nat):Int).toNat]?=some rs[a]:=gE har;have hR:=hallr.get (gE haQ) (gE har);have hb2:=za4 hrs oM;have hxm:=gM haQ;have htk:Q.take (a+1)=Q.take a++[Q[a]]:=tS haQ;have hQtl:(Q.take a).length=a:=by rw[zd7]; omega
    have hQtm:∀ y∈Q.take a,∀ z∈y,z.natAbs≤800:=fun y hy=>(hQx y (List.mem_of_mem_take hy)).2;generalize Q.take a=Qa at *;generalize Q[a]=x at *;generalize rs[a]=r at *;obtain ⟨p2,n2,c2⟩:=r;have hR:bZ g1 (.slice p2 n2 c2) x:=hR;obtain ⟨rfl,-⟩:=SlA.cap hR;obtain ⟨hxl,hxb⟩:=hQx x hxm;have hR2:=za3 hR hle2;refine kP (tN (sQ (bK (sW I (lU (iA bL cg I I hb2 oM sL) (lK (eB (u:=.slice p2 x.length c2) dG I (za5 hrs2) hgr I) (lA I (aT I (sW I (lU (eN aj I) (lM I (tZ (bK ?_)))))))))))));refine oP (ι:=Nat) (fun j=>[(10,.slice (some ⟨bl,0,none⟩) D D),(11,vi a),(39,.slice p1 rs.length c1),(40,vi rs.length),(41,vi a),(46,.slice p2 x.length c2),(47,vi x.length),(48,vi j)]) (fun _=>g2) (fun j=>rowA encInt 3 (.slice (some ⟨bl,0,none⟩) D D) (fg D (Qa++[x.take j]))::pt b3 (.cells #[.slice vp l.length vc] 30 (0,0))::s) (fun j=>j≤x.length) (fun j=>x.length - j) 0 sB I (by rw[show fg D (Qa++[x.take 0])=fg D Qa from zc4 fun d _=>z7 Qa d]) (ze9 _) ?_;rintro j hj;refine rZ (yL I (tZ (sQ ?_)));refine iP I (fun hlt2=>?_) (fun hlt2=>?_)
    ·have hjx:j<x.length:=oM;have hb3:=za4 hR oM;have hgx:x[((j:Nat):Int).toNat]?=some x[j]:=gE hjx;have hst:=un D Qa x j hjx;have hou:=BH (D:=D) (P:=Qa) hjx;have hyb:=hxb _ (gM hjx);rw[hQtl] at hst hou;refine kP (tN (sQ (bK (sW I (lU (iA aj zT3 I I hb3 oM sL) (lK (eB iT3 I (za5 hR2) hgx I) (lA I (aT I (sW I (lM I (yD I (lM I (lU (eN aj I) (yL I (tZ ?_)))))))))))))));refine iP I (fun hin=>?_) (fun hin=>?_)
     ·have hin':a+j<D:=oM;have hBb:=BI (P:=Qa++[x.take j]) (m:=800) (fun y hy=>by
       rcases ze6.1 hy with h | h
       ·exact hQtm y h
       ·rw[zh1] at h;subst h;exact fun z hz=>hxb z (List.mem_of_mem_take hz)) (a+j)
      rw[zd8,ze1,hQtl] at hBb;have hBk:(fg D (Qa++[x.take j]))[((a:Int)+j).toNat]?=some (rB (Qa++[x.take j]) (a+j)):=by
       rw[show ((a:Int)+j).toNat=a+j by omega,fa,zh3,List.getElem?_range hin'];rfl
      have hBl:(fg D (Qa++[x.take j])).length=D:=by rw[fa,zd9,zh7]
      generalize rB (Qa++[x.take j]) (a+j)=y0 at *;refine rG (lM I (lM I (lM I (yD I (lU (iA aj zT3 I I I oM sL) (lK (eB iT3 I (zb5 (e:=encInt) 0 I) hBk I) (lM I (yD I (lU (SU.eq (v':=.pointer (some ⟨bl,0+(a+j) * 1,none⟩)) (iA aj zT3 I I I oM sL) (by rw[show ((a:Int)+j).toNat=a+j by omega]; rfl)) ?_)))))))));refine oZ (sT (e:=encInt) (a:=y0+x[j]) (j:=a+j) 0 zT3 I I I (by rw[hBl]; exact hin') I) ?_;rw[← hst];refine nL (bN (tN (rG (yD I (lM I (nL ?_))))));exact gA (j+1) sB I I oM oM
     ·rw[← hou oM];refine kP (bN (tN (rG (yD I (lM I (nL ?_))))));exact gA (j+1) sB I I oM oM
    ·have hje:j=x.length:=oM;subst hje;rw[List.take_length,← htk];refine xI (tX (tX (bX (bN (tN (rG (yD I (lM I (nL ?_)))))))));exact gA (a+1) sB I I oM oM
   ·have hae:a=rs.length:=oM;subst hae;rw[← hrl,List.take_length,← hb];refine xI (tX (tX (bX (tN (sW I (lA I (aT I (rE ?_))))))));have hlb:(iT l T p).length=D:=by rw[hb,fa,zd9,zh7]
    refine fT fun g3 hle3 hs3=>?_;refine dR (s':=s) uR ?_;exact ST.ret2 (.inl I) results14 I I ⟨I,hle1.trans (hle2.trans hle3),_,by rw[he],by unfold bZ SlA; rw[← hlb] at hs3 ⊢; exact hs3⟩
 ·refine lM I (yX I (yX I (lA I (aT I (sQ (sW I (lU (SU.eq (v':=vb true) (nQ I I) (zd5 vb (zf2 he))) (lM I (yA I (yA I (yA I (yP I (tZ (cT I (sW I (lA I (aT I (rE (tR ?_)))))))))))))))))));have hb:iT l T p=[]:=by
   unfold iT;rw[zf4];unfold cj;rw[zf4 he];rfl
  refine dR (s':=s) uR ?_;exact ST.ret2 (.inl I) results14 I I ⟨I,hle1,_,I,by rw[hb]; exact zb8 _ _⟩
theorem Az (g:PH):aq g (.slice none 0 0) []:=⟨[],zb8 g _,trivial⟩
theorem nr (E:World)(hE:E.drawn=0)(g:PH)(s:Own)(v tv:Value)(l:List Cl)(T:List (List Int))(hv:aq g v l)(hf:c4 l)(hw:∀ c∈l,gD c.id)(ht:aK g tv T)(hT:T.length<1099511627776)(hTl:∀ t∈T,t.length<1099511627776) :
  Ctr Tryz.prog E 23 #[.agg #[v],tv] g s (fun x g' s'=>s=s'∧Le g g'∧x=vi (dI l T)):=by
 obtain ⟨vp,vc,rfl⟩:=hv.form;refine za9 (args:=[.agg #[.slice vp l.length vc],tv]) func23 I ntmps23 (bE I) ?_;refine rZ (bW (bO I) fun b2=>?_);refine aT I (rZ (lK (qV 0 bD aA I I I) (lM I (lW (cL call30 I (l5 E hE g _ _ tv l T hv hf hw ht hT hTl)) ?_))));rintro _ g1 _ ⟨rfl,hle1,pv,rfl,-⟩;refine lM I (yX I (yX I (lA I (aT I (sW I (aT I (rE (dR (s':=s) uR ?_))))))));exact za6 (.inl I) results23 I ⟨I,hle1,I⟩
theorem Tryz.buildN30 (w:World):(Instr.build 30 #[]).run Tryz.prog w = .ok (.agg #[.slice none 0 0]) w:=by
 simp[Instr.build,Instr.fill];rfl
theorem jD (E:World)(hE:E.drawn=0)(g:PH)(s:Own)(v tv:Value)(l:List Cl)(T:List (List Int))(hv:aq g v l)(hf:c4 l)(hw:∀ c∈l,gD c.id)(ht:aK g tv T)(hT:T.length<1099511627776)(hTl:∀ t∈T,t.length<1099511627776) :
  Ctr Tryz.prog E 20 #[.agg #[v],tv] g s (fun x g' s'=>s=s'∧Le g g'∧∃ u,x = .agg #[u]∧aq g' u (dB l T)):=by
 obtain ⟨vp,vc,rfl⟩:=hv.form;refine za9 (args:=[.agg #[.slice vp l.length vc],tv]) func20 I ntmps20 (bE I) ?_;refine rZ (bW (bO I) fun b2=>?_);refine bW (aL zk3) fun b4=>?_;refine tZ (rZ (lK (qV 1 bD aA I I I) (lM I (lW (cL call30 I (l5 E hE g _ _ tv l T hv hf hw ht hT hTl)) ?_))));rintro _ g1 _ ⟨rfl,hle1,pv,rfl,hcov⟩;refine lM I (yX I (yX I (lA I (aT I (sQ (sW I (lU (nQ I I) (tZ ?_))))))));refine iP I (fun hop=>?_) (fun hop=>?_)
 ·have hb:dB l T=[]:=by unfold dB; rw[zf4 (.inl hop)]
  refine rZ (lU (za1 I buildN30) (oZ (sK 0 aA I I I I I ⟨I,trivial⟩) (tZ (rE (tR ?_)))));exact ST.retCD 0 s (.inl I) results20 I bD aA I I uR ⟨I,hle1,_,I,by rw[hb]; exact Az _⟩
 ·have hop0:dI l T=0:=zg3 hop;have hcov:=hcov hop0;obtain ⟨hok,hT6⟩:=jx hop0;have hRt:=kO hok;have hLt:ae l=aa l:=a7 hRt.asc;have hRt:Rt (ae l):=by rw[hLt]; exact hRt
  have hBf:=cd (jZ hRt hT6);refine kP (tN (sW I (lW (cL call31 I (mZ E g1 _ pv (ae l) T hcov hRt hT6)) ?_)));rintro _ g2 _ ⟨rfl,hle2,u,rfl,hu⟩;obtain ⟨up,uc,rfl⟩:=hu.form;refine bW (aL zk3) fun b7=>?_;refine oZ (sK 0 aA I I I I I ⟨I,trivial⟩) (tZ (sQ (rZ (lK (qV 0 bD aA I I I) (lW (cL call24 I (kA E g2 _ _ (ct (ae l) T) hu hBf)) ?_)))));rintro _ _ _ ⟨rfl,rfl,rfl⟩;refine lM I (yX I (yX I (lA I (aT I (sW I (lU (nQ I I) (tZ ?_)))))));refine iP I (fun hbl=>?_) (fun hbl=>?_)
  ·have hb:dB l T=[]:=by unfold dB; rw[zf4 (.inr hbl)]
   refine rZ (lU (za1 I buildN30) (oZ (sK 1 aA I I I I I ⟨I,trivial⟩) (tZ (rE (tR ?_)))));exact ST.retCD 1 s (.inl I) results20 I bD aA I I uR ⟨I,hle1.trans hle2,_,I,by rw[hb]; exact Az _⟩
  ·have hb:dB l T=ct (ae l) T:=by unfold dB; rw[zf3]; rintro (h | h); exact hop h; exact hbl h
   refine kP (tN (rZ (lK (qV 0 bD aA I I I) (oZ (sK 1 aA I I I I I ⟨I,trivial⟩) (tZ (rE ?_))))));exact ST.retCD 1 s (.inl I) results20 I bD aA I I uR ⟨I,hle1.trans hle2,_,I,by rw[hb]; exact hu⟩
theorem pw (E:World)(g:PH)(s:Own)(v u:Value)(P Q:List (List Int))(hv:aK g v P)(hu:aK g u Q)(hP:P.length<1099511627776)(hPl:∀ x∈P,x.length<1099511627776)(hQ:Q.length<1099511627776) :
  Ctr Tryz.prog E 44 #[v,u] g s (fun r g' s'=>r=vb (decide (P=Q))∧g=g'∧s=s'):=by
 obtain ⟨rs,hrs,hallr⟩:=hv;obtain ⟨qs,hqs,hallq⟩:=hu;have hlr:=hallr.length;have hlq:=hallq.length;obtain ⟨rp,rc,rfl⟩:=za2 hrs;obtain ⟨qp,qc,rfl⟩:=za2 hqs;refine za9 (args:=[.slice rp rs.length rc,.slice qp qs.length qc]) func44 I ntmps44 (bE I) ?_;refine rZ (aT I (sQ (sW I (lU (eN bL I) (lM I (lU (eN bL I) (lU (nQ I I) (tZ ?_))))))));refine iP I (fun hne=>?_) (fun hne=>?_)
 ·refine rZ (aT I (rE (tR ?_)));have h0:decide (P=Q)=false:=zf1 fun e=>hne (by rw[← hlr,← hlq,e]);exact za6 (.inl I) results44 I ⟨by rw[h0],I,I⟩
 ·have hlen:rs.length=qs.length:=oM;refine kP (tN (sQ (rZ (aT I (bK ?_)))));refine oP (ι:=Nat) (fun k=>[(0,.slice rp rs.length rc),(1,.slice qp qs.length qc),(5,vi k)]) (fun _=>g) (fun _=>s) (fun k=>k≤rs.length∧P.take k=Q.take k) (fun k=>rs.length - k) 0 sB I I ⟨ze9 _,I⟩ ?_;rintro k ⟨hk,heq⟩;refine sQ (sW I (lM I (lU (eN bL I) (yL I (tZ ?_)))));refine iP I (fun hlt=>?_) (fun hlt=>?_)
  ·have hkr:k<rs.length:=oM;have hkq:k<qs.length:=oM;have hkP:k<P.length:=oM;have hkQ:k<Q.length:=oM;have hb1:=za4 hrs oM;have hb2:=za4 hqs oM;have hgr:rs[((k:Nat):Int).toNat]?=some rs[k]:=gE hkr;have hgq:qs[((k:Nat):Int).toNat]?=some qs[k]:=gE hkq;have hR:=hallr.get (gE hkP) (gE hkr);have hQ':=hallq.get (gE hkQ) (gE hkq);have h1:P.take (k+1)=P.take k++[P[k]]:=tS hkP;have h2:Q.take (k+1)=Q.take k++[Q[k]]:=tS hkQ;have hpl:=hPl _ (gM hkP);have hdiff:P[k]≠Q[k]→decide (P=Q)=false:=fun h=>zf1 fun e=>h (by subst e; rfl);generalize P[k]=x at *;generalize Q[k]=y at *;generalize rs[k]=r at *;generalize qs[k]=q at *;obtain ⟨ap,an,ac⟩:=r;obtain ⟨bp,bn,bc⟩:=q;refine kP (tN (sQ (bK (sQ ?_))));refine dW [] [(0,2),(1,2),(2,2),(3,1),(4,2),(5,2),(6,2),(7,1),(8,0),(9,2)] zd6 kR ?_;refine yM I (yM I (pU I (iA bL cg I I hb1 oM sL) (pK I (eB (u:=.slice ap an ac) dG I (za5 hrs) hgr I) (yM I (yM I (pU I (iA bL cg I I hb2 oM sL) (pK I (eB (u:=.slice bp bn bc) dG I (za5 hqs) hgq I) (SP.o I (cL call17 I (qn E g s (.slice ap an ac) (.slice bp bn bc) x y hR hQ' oM)) dC (.inr iR) ?_))))))));rintro _ _ _ ⟨rfl,rfl,rfl⟩;refine pU I (aS I) (pN (tN (sW I (lU (SU.notP I) (tZ ?_)))));refine iQ I (fun hxy=>?_) (fun hxy=>?_)
   ·have hxy':x≠y:=by simpa using hxy
    refine rZ (aT I (rE (bR (tR (tR (bR (tR ?_)))))));exact za6 (.inl I) results44 I ⟨by rw[hdiff hxy'],I,I⟩
   ·have hxy':x=y:=by simpa using hxy
    refine kP (bN (tN (rG (lM I (yD I (lA I (nL ?_)))))));exact gA (k+1) sB I I ⟨oM,by rw[h1,h2,heq,hxy']⟩ oM
  ·have hkk:k=rs.length:=oM;subst hkk;rw[tL oM,tL oM] at heq;refine xI (tX (tX (bX (tN (rZ (aT I (rE ?_)))))));have h0:decide (P=Q)=true:=zf2 heq;exact za6 (.inl I) results44 I ⟨by rw[h0],I,I⟩
theorem jg (E:World)(g:PH)(s:Own)(v u:Value)(P Q:List (List (List Int)))(hv:Pgs g v P)(hu:Pgs g u Q)(hP:P.length<1099511627776)(hPl:∀ A∈P,A.length<1099511627776∧∀ x∈A,x.length<1099511627776)(hQ:Q.length<1099511627776)(hQl:∀ A∈Q,A.length<1099511627776) :
  Ctr Tryz.prog E 16 #[v,u] g s (fun r g' s'=>r=vb (decide (P=Q))∧g=g'∧s=s'):=by
 obtain ⟨rs,hrs,hallr⟩:=hv;obtain ⟨qs,hqs,hallq⟩:=hu;have hlr:=hallr.length;have hlq:=hallq.length;obtain ⟨rp,rc,rfl⟩:=za2 hrs;obtain ⟨qp,qc,rfl⟩:=za2 hqs;refine za9 (args:=[.slice rp rs.length rc,.slice qp qs.length qc]) func16 I ntmps16 (bE I) ?_;refine rZ (aT I (sQ (sW I (lU (eN nm I) (lM I (lU (eN nm I) (lU (nQ I I) (tZ ?_))))))));refine iP I (fun hne=>?_) (fun hne=>?_)
 ·refine rZ (aT I (rE (tR ?_)));have h0:decide (P=Q)=false:=zf1 fun e=>hne (by rw[← hlr,← hlq,e]);exact za6 (.inl I) results16 I ⟨by rw[h0],I,I⟩
 ·have hlen:rs.length=qs.length:=oM;refine kP (tN (sQ (rZ (aT I (bK ?_)))));refine oP (ι:=Nat) (fun k=>[(0,.slice rp rs.length rc),(1,.slice qp qs.length qc),(5,vi k)]) (fun _=>g) (fun _=>s) (fun k=>k≤rs.length∧P.take k=Q.take k) (fun k=>rs.length - k) 0 sB I I ⟨ze9 _,I⟩ ?_;rintro k ⟨hk,heq⟩;refine sQ (sW I (lM I (lU (eN nm I) (yL I (tZ ?_)))));refine iP I (fun hlt=>?_) (fun hlt=>?_)
  ·have hkr:k<rs.length:=oM;have hkq:k<qs.length:=oM;have hkP:k<P.length:=oM;have hkQ:k<Q.length:=oM;have hb1:=za4 hrs oM;have hb2:=za4 hqs oM;have hgr:rs[((k:Nat):Int).toNat]?=some rs[k]:=gE hkr;have hgq:qs[((k:Nat):Int).toNat]?=some qs[k]:=gE hkq;have hR:=hallr.get (gE hkP) (gE hkr);have hQ':=hallq.get (gE hkQ) (gE hkq);have h1:P.take (k+1)=P.take k++[P[k]]:=tS hkP;have h2:Q.take (k+1)=Q.take k++[Q[k]]:=tS hkQ;have hpl:=hPl _ (gM hkP);have hql:=hQl _ (gM hkQ);have hdiff:P[k]≠Q[k]→decide (P=Q)=false:=fun h=>zf1 fun e=>h (by subst e; rfl);generalize P[k]=x at *;generalize Q[k]=y at *;generalize rs[k]=r at *;generalize qs[k]=q at *;obtain ⟨ap,an,ac⟩:=r;obtain ⟨bp,bn,bc⟩:=q;refine kP (tN (sQ (bK (sQ ?_))));refine dW [] [(0,2),(1,2),(2,2),(3,1),(4,2),(5,2),(6,2),(7,1),(8,0),(9,2)] zd6 kR ?_;refine yM I (yM I (pU I (iA nm pI I I hb1 oM sL) (pK I (eB (u:=.slice ap an ac) isAgg22 I (za5 hrs) hgr I) (yM I (yM I (pU I (iA nm pI I I hb2 oM sL) (pK I (eB (u:=.slice bp bn bc) isAgg22 I (za5 hqs) hgq I) (SP.o I (cL call44 I (pw E g s (.slice ap an ac) (.slice bp bn bc) x y hR hQ' hpl.1 hpl.2 hql)) dC (.inr iR) ?_))))))));rintro _ _ _ ⟨rfl,rfl,rfl⟩;refine pU I (aS I) (pN (tN (sW I (lU (SU.notP I) (tZ ?_)))));refine iQ I (fun hxy=>?_) (fun hxy=>?_)
   ·have hxy':x≠y:=by simpa using hxy
    refine rZ (aT I (rE (bR (tR (tR (bR (tR ?_)))))));exact za6 (.inl I) results16 I ⟨by rw[hdiff hxy'],I,I⟩
   ·have hxy':x=y:=by simpa using hxy
    refine kP (bN (tN (rG (lM I (yD I (lA I (nL ?_)))))));exact gA (k+1) sB I I ⟨oM,by rw[h1,h2,heq,hxy']⟩ oM
  ·have hkk:k=rs.length:=oM;subst hkk;rw[tL oM,tL oM] at heq;refine xI (tX (tX (bX (tN (rZ (aT I (rE ?_)))))));have h0:decide (P=Q)=true:=zf2 heq;exact za6 (.inl I) results16 I ⟨by rw[h0],I,I⟩
def nx:List Cl:=[⟨1,0,[]⟩,⟨2,0,[]⟩,⟨3,0,[]⟩,⟨4,1,[⟨1,-1⟩,⟨2,1⟩]⟩,⟨5,1,[⟨1,-1⟩,⟨3,1⟩]⟩,⟨6,1,[⟨2,-1⟩,⟨3,1⟩]⟩]
theorem A7:bM [1,2]=[1,2]:=by
 unfold bM;rw[iz dC];rfl
theorem A8:bM [0,2]=[0,2]:=by
 unfold bM;rw[iz dC];rfl
theorem y5:bC [[0,1],[1,2],[0,2]]=nx:=by
 simp only[bC,aC,A9,A7,A8];rfl
theorem lm:c4 nx:=zN dC dC
theorem oy:∀ c∈nx,gD c.id:=by unfold gD; decide
theorem zU:dI nx [[4,6],[5]]=0:=by kernel_rfl
theorem BE:dI nx [[4],[5]]=45:=by kernel_rfl
theorem ya:(aY (ct (ae nx) [[4,6],[5]])).2=0:=by kernel_rfl
theorem yb:(dB nx [[4,6],[5]]).length=10:=by
 unfold dB;rw[zf3 (by rintro (h | h); exact h zU; exact h ya)]
 kernel_rfl
theorem kz:cD nx [[4,6],[5]] 2=0:=by kernel_rfl
theorem Be:rkP 2=fun C R=>rkF C R gr:=funext fun C=>funext fun R=>Ca C R gr
theorem qB:cj nx [[4,6],[5]] 2=[[[2,0],[2,0]],[[1,0],[1,0]]]:=by
 unfold cj;rw[zf3 (by rw[kz]; simp),Be]
 kernel_rfl
theorem yd:iT nx [[4,6],[5]] 2=[1,1]:=by
 unfold iT;rw[qB]
 kernel_rfl
theorem sS (E:World)(g:PH)(s:Own):Ctr Tryz.prog E 26 #[] g s (fun r g' s'=>s=s'∧Le g g'∧∃ u,r = .agg #[u]∧aq g' u nx):=by
 refine za9 (args:=[]) func26 I ntmps26 (bE I) ?_;refine rZ (bW (aL zk3) fun b0=>?_);refine tZ (rZ (lW (bS sty25 I I I (ab sB) dC) ?_));rintro _ _ _ ⟨b1,rfl,rfl,rfl⟩;refine zb3 fun g1 hle1 hb1=>?_;refine lW (bS sty25 I I I (ab sB) dC) ?_;rintro _ _ _ ⟨b2,rfl,rfl,rfl⟩;refine zb3 fun g2 hle2 hb2=>?_;refine lW (bS sty25 I I I (ab sB) dC) ?_;rintro _ _ _ ⟨b3,rfl,rfl,rfl⟩;refine zb3 fun g3 hle3 hb3=>?_;refine lW (bS sty22 I I I (ab sB) dC) ?_;rintro _ _ _ ⟨b4,rfl,rfl,rfl⟩;refine zb3 fun g4 hle4 hb4=>?_;have hlit:aK g4 (.slice (some ⟨b4,0,none⟩) 3 3) [[0,1],[1,2],[0,2]]:=⟨[ef (.slice (some ⟨b1,0,none⟩) 2 2),ef (.slice (some ⟨b2,0,none⟩) 2 2),ef (.slice (some ⟨b3,0,none⟩) 2 2)],SlA.lit hb4 rfl rfl,⟨SlA.lit ((hle2.trans (hle3.trans hle4)) _ _ hb1) rfl rfl,SlA.lit ((hle3.trans hle4) _ _ hb2) rfl rfl,SlA.lit (hle4 _ _ hb3) rfl rfl,trivial⟩⟩;refine lW (cL call54 I (nb E g4 _ _ _ hlit dC dC)) ?_;rintro _ g5 _ ⟨rfl,hle5,u,rfl,hu⟩;rw[y5] at hu;obtain ⟨q,d,rfl⟩:=hu.form;refine oZ (sK 0 aA I I I I I sB) ?_;refine tZ (rE ?_);exact ST.retCD 0 s (.inl I) results26 I bD aA I I uR ⟨I,hle1.trans (hle2.trans (hle3.trans (hle4.trans hle5))),_,I,hu⟩
theorem pu (E:World)(hE:E.drawn=0)(g:PH)(s:Own):Ctr Tryz.prog E 7 #[] g s (fun r g' s'=>r=vb true∧s=s'∧Le g g'):=by
 refine za9 (args:=[]) func7 I ntmps7 (bE I) ?_;refine rZ (aT I (rZ (lW (cL call26 I (sS E g s)) ?_)));rintro _ g1 _ ⟨rfl,hle1,u,rfl,hu⟩;obtain ⟨q,d,rfl⟩:=hu.form;refine bW (aL zk3) fun b1=>?_;refine oZ (sK 0 aA I I I I I ⟨I,trivial⟩) (tZ (rZ (lW (bS sty25 I I I (ab sB) dC) ?_)));rintro _ _ _ ⟨b10,rfl,rfl,rfl⟩;refine zb3 fun g2 hle2 hb10=>?_;refine lW (bS sty25 I I I (ab ⟨I,trivial⟩) dC) ?_;rintro _ _ _ ⟨b11,rfl,rfl,rfl⟩;refine zb3 fun g3 hle3 hb11=>?_;refine lW (bS sty22 I I I (ab sB) dC) ?_;rintro _ _ _ ⟨b12,rfl,rfl,rfl⟩;refine zb3 fun g4 hle4 hb12=>?_;have hT:aK g4 (.slice (some ⟨b12,0,none⟩) 2 2) [[4,6],[5]]:=⟨[ef (.slice (some ⟨b10,0,none⟩) 2 2),ef (.slice (some ⟨b11,0,none⟩) 1 1)],SlA.lit hb12 rfl rfl,⟨SlA.lit ((hle3.trans hle4) _ _ hb10) rfl rfl,SlA.lit (hle4 _ _ hb11) rfl rfl,trivial⟩⟩;have hu4:=hu.mono (hle2.trans (hle3.trans hle4));refine aT I (rZ (lK (qV 0 bD aA I I I) (lM I (lW (cL call20 I (jD E hE g4 _ _ _ nx [[4,6],[5]] hu4 lm oy hT dC dC)) ?_))));rintro _ g5 _ ⟨rfl,hle5,u5,rfl,hu5⟩;obtain ⟨q5,d5,rfl⟩:=hu5.form;rw[yb];have hu5':=hu4.mono hle5;have hT5:=hT.mono hle5;refine bW (aL zk3) fun b3=>?_;refine oZ (sK 0 aA I I I I I ⟨I,trivial⟩) (tZ (rZ (lK (qV 1 bD aA I I I) (lM I (lW (cL call12 I (iZ E hE g5 _ _ _ nx [[4,6],[5]] 2 hu5' lm oy hT5 dC dC dC dC)) ?_)))));rintro _ g6 _ ⟨rfl,hle6,u6,rfl,hP⟩;rw[kz];rw[qB] at hP;have hu6:=hu5'.mono hle6;have hT6:=hT5.mono hle6;refine lM I (yX I (yX I (lA I (aT I (rZ (lK (qV 1 bD aA I I I) (lM I (lW (cL call14 I (vD E hE g6 _ _ _ nx [[4,6],[5]] 2 hu6 lm oy hT6 dC dC dC dC)) ?_))))))));rintro _ g7 _ ⟨rfl,hle7,u7,rfl,hB⟩;rw[kz];rw[yd] at hB;have hu7:=hu6.mono hle7;have hP7:=hP.mono hle7;refine lM I (yX I (yX I (lA I (aT I (rZ (lW (bS sty25 I I I (ab sB) dC) ?_))))));rintro _ _ _ ⟨b28,rfl,rfl,rfl⟩;refine zb3 fun g8 hle8 hb28=>?_;refine lW (bS sty25 I I I (ab sB) dC) ?_;rintro _ _ _ ⟨b29,rfl,rfl,rfl⟩;refine zb3 fun g9 hle9 hb29=>?_;refine lW (bS sty22 I I I (ab sB) dC) ?_;rintro _ _ _ ⟨b30,rfl,rfl,rfl⟩;refine zb3 fun g10 hle10 hb30=>?_;have h30:aK g10 (.slice (some ⟨b30,0,none⟩) 2 2) [[2,0],[2,0]]:=⟨[ef (.slice (some ⟨b28,0,none⟩) 2 2),ef (.slice (some ⟨b29,0,none⟩) 2 2)],SlA.lit hb30 rfl rfl,⟨SlA.lit ((hle9.trans hle10) _ _ hb28) rfl rfl,SlA.lit (hle10 _ _ hb29) rfl rfl,trivial⟩⟩;refine lW (bS sty25 I I I (ab sB) dC) ?_;rintro _ _ _ ⟨b31,rfl,rfl,rfl⟩;refine zb3 fun g11 hle11 hb31=>?_;refine lW (bS sty25 I I I (ab sB) dC) ?_;rintro _ _ _ ⟨b32,rfl,rfl,rfl⟩;refine zb3 fun g12 hle12 hb32=>?_;refine lW (bS sty22 I I I (ab sB) dC) ?_;rintro _ _ _ ⟨b33,rfl,rfl,rfl⟩;refine zb3 fun g13 hle13 hb33=>?_;have h33:aK g13 (.slice (some ⟨b33,0,none⟩) 2 2) [[1,0],[1,0]]:=⟨[ef (.slice (some ⟨b31,0,none⟩) 2 2),ef (.slice (some ⟨b32,0,none⟩) 2 2)],SlA.lit hb33 rfl rfl,⟨SlA.lit ((hle12.trans hle13) _ _ hb31) rfl rfl,SlA.lit (hle13 _ _ hb32) rfl rfl,trivial⟩⟩;refine lW (bS sty37 I I I (ab sB) dC) ?_;rintro _ _ _ ⟨b34,rfl,rfl,rfl⟩;refine zb3 fun g14 hle14 hb34=>?_;have hW:Pgs g14 (.slice (some ⟨b34,0,none⟩) 2 2) [[[2,0],[2,0]],[[1,0],[1,0]]]:=⟨[ef (.slice (some ⟨b30,0,none⟩) 2 2),ef (.slice (some ⟨b33,0,none⟩) 2 2)],SlA.lit hb34 rfl rfl,⟨h30.mono (hle11.trans (hle12.trans (hle13.trans hle14))),h33.mono hle14,trivial⟩⟩;have hl14:=hle8.trans (hle9.trans (hle10.trans (hle11.trans (hle12.trans (hle13.trans hle14)))));have hP14:=hP7.mono hl14;have hB14:=za3 hB hl14;have hu14:=hu7.mono hl14;refine aT I (rZ (lU (fA dg I cw I) (lK (qL (v:=.slice q5 10 d5) dV I (cO 0 I I)) (lU (eN aJ I) (yE I (lM I (yC I (lY I I I (eQ I I) (yP I (lM I (yC I (yC I (SL.go (gT I I I dC) (cL call16 I (jg E g14 _ _ _ _ _ hP14 hW dC dC dC dC)) dC ?_)))))))))))));rintro _ _ _ ⟨rfl,rfl,rfl⟩;rw[show decide (([[[2,0],[2,0]],[[1,0],[1,0]]]:List (List (List Int)))=[[[2,0],[2,0]],[[1,0],[1,0]]])=true from zf2 rfl];refine yP I (lM I (yC I (lY I I I (eQ I I) (yP I (lM I (yC I (SL.go (gT I I I dC) (bS sty25 I I I (ab sB) dC) dC ?_)))))));rintro _ _ _ ⟨b54,rfl,rfl,rfl⟩;refine zb3 fun g15 hle15 hb54=>?_;have hW54:bZ g15 (.slice (some ⟨b54,0,none⟩) 2 2) [1,1]:=SlA.lit hb54 rfl rfl;have hB15:=za3 hB14 hle15;refine SL.go (gT I I I dC) (cL call17 I (qn E g15 _ _ _ _ _ hB15 hW54 dC)) dC ?_;rintro _ _ _ ⟨rfl,rfl,rfl⟩;rw[show decide (([1,1]:List Int)=[1,1])=true from zf2 rfl];refine yP I (lM I (SL.gq (gT I I I dC) (qV 1 bD aA I I I) dC (SL.go (gT I I I dC) (bS sty25 I I I (ab ⟨I,trivial⟩) dC) dC ?_)));rintro _ _ _ ⟨b59,rfl,rfl,rfl⟩;refine zb3 fun g16 hle16 hb59=>?_;refine SL.go (gT I I I dC) (bS sty25 I I I (ab ⟨I,trivial⟩) dC) dC ?_;rintro _ _ _ ⟨b60,rfl,rfl,rfl⟩;refine zb3 fun g17 hle17 hb60=>?_;refine SL.go (gT I I I dC) (bS sty22 I I I (ab sB) dC) dC ?_;rintro _ _ _ ⟨b61,rfl,rfl,rfl⟩;refine zb3 fun g18 hle18 hb61=>?_;have hT2:aK g18 (.slice (some ⟨b61,0,none⟩) 2 2) [[4],[5]]:=⟨[ef (.slice (some ⟨b59,0,none⟩) 1 1),ef (.slice (some ⟨b60,0,none⟩) 1 1)],SlA.lit hb61 rfl rfl,⟨SlA.lit ((hle17.trans hle18) _ _ hb59) rfl rfl,SlA.lit (hle18 _ _ hb60) rfl rfl,trivial⟩⟩;have hu18:=hu14.mono (hle15.trans (hle16.trans (hle17.trans hle18)));refine SL.go (gT I I I dC) (cL call23 I (nr E hE g18 _ _ _ nx [[4],[5]] hu18 lm oy hT2 dC dC)) dC ?_;rintro _ g19 _ ⟨rfl,hle19,rfl⟩;rw[BE];refine lY I I I (eQ I I) (yP I (aT I (rE (dR (s':=s) uR ?_))));exact za6 (.inl I) results7 I ⟨I,I,hle1.trans (hle2.trans (hle3.trans (hle4.trans (hle5.trans (hle6.trans (hle7.trans (hl14.trans (hle15.trans (hle16.trans (hle17.trans (hle18.trans hle19)))))))))))⟩
end Go.Proofs.YtcfkpajlakidbaaGreat
