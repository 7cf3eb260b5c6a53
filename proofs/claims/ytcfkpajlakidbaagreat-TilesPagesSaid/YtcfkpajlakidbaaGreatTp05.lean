/- 5 -/
import Derived.Test.YtcfkpajlakidbaaGreatTp04
import Derived.Test.YtcfkpajlakidbaaGreatTp03
import Derived.Shelf.SlSortCmp.Whole1
import Derived.Shelf.SlIterI.Sorted
import Derived.Test.YtcfkpajlakidbaaGreatTp02
set_option linter.unusedSimpArgs false
set_option linter.unusedVariables false
namespace Go.Proofs.YtcfkpajlakidbaaGreat
open _root_.Go.Proofs.Tryz _root_.Go.Proofs.YtcfkpajlakidbaaGreat.Tryz
open Go Go.Sy Go.Pl Go.Proofs
set_option maxRecDepth 100000
def fN (tl:List Cl):List Cl→Int→Option (Int×Int)
 | [],_=>none
 | x::r,last=>if x.id≤last then some (x.id,20) else if cz tl x≠0 then some (x.id,cz tl x) else fN tl r x.id
def mf (tl:List Cl):List Cl→Option (Int×Int)
 | []=>none
 | x::r=>if x.dim>1∧cC tl x≠0 then some (x.id,cC tl x) else mf tl r
def aX (l:List Cl):Int×Int:=if (l.length:Int)>4000 then (0,2) else (fN (ae l) (aa l) 0).getD ((mf (ae l) (aa l)).getD (0,0))
theorem iD {tl:List Cl}{c:Cl}(h:cz tl c=0):c.sides.length≤64∧∀ x∈c.sides,x.sign=1∨x.sign = -1:=by
 unfold cz at h;split at h
 ·simp at h
 ·rename_i hdb;split at h
  ·simp at h
  ·rename_i hcb;split at h
   ·simp at h
   ·split at h
    ·simp at h
    ·rename_i hsg;refine⟨?_,fun x hx=>?_⟩
     ·simp[fv] at hdb;simp[aU] at hcb
      rcases Int.lt_trichotomy c.dim 1 with h | h | h
      ·have:c.dim=0:=oM;have:=hcb.1.1 this;simp[this]
      ·have:=hcb.1.2 h;omega
      ·have:=hcb.2 h;omega
     ·have h1:c.sides.any bZ=false:=by simpa using hsg
      rw[zj8] at h1;have h2:=h1 x hx;simp only[bZ,zi8,zi9,ne_eq,not_and,Decidable.not_not] at h2;by_cases h3:x.sign=1
      ·exact .inl h3
      ·exact .inr (h2 h3)
theorem kr {tl:List Cl}:∀ {l:List Cl} {last:Int},fN tl l last=none→∀ x∈l,cz tl x=0
 | [],_,_,x,hx=>by simp at hx
 | y::r,last,h,x,hx=>by
  unfold fN at h;split at h
  ·simp at h
  ·split at h
   ·simp at h
   ·rename_i h0
    rcases ze8.1 hx with rfl | hx
    ·exact zg7 h0
    ·exact kr h x hx
theorem wL {l:List Cl}(h:∀ x∈aa l,cz (ae l) x=0){c:Cl}(hc:c∈aa l):AOk (ae l) c:=by
 obtain ⟨h1,h2⟩:=iD (h c hc);refine⟨h1,h2,fun x hx=>?_⟩;unfold aB;cases hf:aJ (ae l) x.cell with
 | none=>simp[gN]
 | some y=>exact iD (h y (lG (cI hf).1))
theorem k8 (E:World)(g:PH)(s:Own)(v:Value)(l:List Cl)(hv:am g v l)(hf:cR l) :
  Ctr Tryz.prog E 24 #[.agg #[v]] g s (fun r g' s'=>r = .tuple #[vi (aX l).1,vi (aX l).2]∧g=g'∧s=s'):=by
 have hfc:=ci hf;have hfl:=hf.1;obtain ⟨p,cp,hvf⟩:=hv.form;subst hvf;refine za9 (args:=[.agg #[.slice p l.length cp]]) func24 I ntmps24 (bE I) ?_;refine rZ (bW (bO I) fun b1=>?_);refine lA I (aT I (sQ (rZ (lU (fA ed I c8 I) (lK (qL eY I (cO 0 I I)) (lU (eN aA I) (lU (gR I I) (tZ ?_))))))));refine iP I (fun hbig=>?_) (fun hbig=>?_)
 ·refine rZ (lA I (aT I (rE (tR (dR (s':=s) uR ?_)))));exact ST.ret2 (.inl I) results24 I I ⟨by unfold aX; rw[zf8 hbig],I,I⟩
 ·refine kP (tN (rZ (lK (qV 0 bh aw I I I) (lW (cL call50 I (sh E g _ _ l hv hf)) ?_))));rintro tv g1 _ ⟨rfl,hle1,ht⟩;refine aT I (rZ (lK (qV 0 bh aw I I I) (lW (cL call51 I (jq E g1 _ _ l (hv.mono hle1) hf)) ?_)));rintro _ g2 _ ⟨rfl,hle2,u,rfl,rs,hrs,hall⟩;obtain ⟨q,d,rfl⟩:=hrs.form;refine lU (SU.field ed I eY I I) (lA I (aT I (sQ (sW I (lU (eN aA I) (lM I (tZ (bK ?_))))))));have hres:aX l=(fN (ae l) (aa l) 0).getD ((mf (ae l) (aa l)).getD (0,0)):=by unfold aX; rw[zf7 hbig]
  have ht2:=ht.mono hle2;have hlen:=hall.length;have hcl:=hfc.1;have hleg:=hle1.trans hle2;refine oP (ι:=Nat×Int) (fun i=>[(4,tv),(5,vi i.2),(6,.slice q rs.length d),(22,.slice q rs.length d),(23,vi rs.length),(24,vi i.1)]) (fun _=>g2)
   (fun _=>pt b1 (.cells #[.slice p l.length cp] 30 (0,0))::s) (fun i=>i.1≤rs.length∧fN (ae l) (aa l) 0=fN (ae l) ((aa l).drop i.1) i.2) (fun i=>rs.length - i.1) (0,0)
   sB rfl rfl ⟨zf4 _,by simp⟩ ?_
  rintro ⟨k,last⟩ ⟨hk,heq⟩;dsimp only at hk heq ⊢;refine rZ (yL I (tZ (sQ ?_)));refine iP I (fun hlt=>?_) (fun hlt=>?_)
  ·have hkr:k<rs.length:=oM;have hkc:k<(aa l).length:=oM;have hb1:=hrs.based oM;have hcr:=hall.get (gE hkc) (gE hkr);have hgx:rs[((k:Nat):Int).toNat]?=some rs[k]:=gE hkr;have hdrop:(aa l).drop k=(aa l)[k]::(aa l).drop (k+1):=zg4 hkc;have hxl:=hfc.2 _ (gM hkc);generalize rs[k]=x at *;generalize (aa l)[k]=cx at *;rw[hdrop] at heq;obtain ⟨xi,xd,xv⟩:=x;have hxi:xi=cx.id:=hcr.1;subst hxi;refine kP (tN (sQ (bK (rZ (lU (iA aA au I I hb1 oM sL) (lK (eA eX au I hrs.rd hgx) (bW (aL zk8) fun b8=>?_)))))));refine oZ (sK 0 au I I I I I sB) ?_;refine tZ (sQ (rZ (lU (fA ao I zT3 I) (lK (qL iT3 I (cO 0 I I)) (lM I (lU (SU.leq I I) (tZ ?_)))))));refine iP I (fun hid=>?_) (fun hid=>?_)
   ·refine rZ (lU (fA ao I zT3 I) (lK (qL iT3 I (cO 0 I I)) (lA I (aT I (rE (tR (bR (tR (tR (bR (tR ?_)))))))))));refine dR (s':=s) (.cons _ (.cons _ (.refl _))) (ST.less hleg ?_);have h1:aX l=(cx.id,20):=by rw[hres,heq]; unfold fN; rw[zf8 hid]; rfl
    exact ST.ret2 (.inl I) results24 I I ⟨by (rw[h1]; rfl),rfl,rfl⟩
   ·refine kP (tN (rZ (lU (fA ao I zT3 I) (lK (qL iT3 I (cO 0 I I)) (aT I (sW I (lK (qV 0 eX au I I I) (lW (cL call52 I (yo E g2 _ tv (ae l) cx _ ht2 hcr hxl)) ?_))))))));rintro _ _ _ ⟨rfl,rfl,rfl⟩;refine aT I (sW I (lU (nQ I I) (tZ ?_)));refine iP I (fun he=>?_) (fun he=>?_)
    ·refine rZ (lU (fA ao I zT3 I) (lK (qL iT3 I (cO 0 I I)) (lM I (lA I (aT I (rE (bR (tR (tR (bR (tR ?_)))))))))));refine dR (s':=s) (.cons _ (.cons _ (.refl _))) (ST.less hleg ?_);have h1:aX l=(cx.id,cz (ae l) cx):=by rw[hres,heq]; unfold fN; rw[zf7 hid,zf8 he]; rfl
     exact ST.ret2 (.inl I) results24 I I ⟨by (rw[h1]; rfl),rfl,rfl⟩
    ·refine kP (bN (tN (rG (yD I (lM I (nL (dR (s':=pt b1 (.cells #[.slice p l.length cp] 30 (0,0))::s) (.cons _ (.refl _)) ?_)))))));exact gA (k+1,cx.id) sB I I ⟨lN,by rw[heq]; rw[fN,zf7 hid,zf7 he]⟩ lN
  ·have hkk:(aa l).drop k=[]:=List.drop_of_length_le oM;rw[hkk] at heq;have hall0:=kr heq;refine xI (tX (tX (bX (tN (sQ (sW I (lU (eN aA I) (lM I (tZ (bK ?_))))))))));refine oP (ι:=Nat) (fun i=>[(4,tv),(45,.slice q rs.length d),(46,vi rs.length),(47,vi i)]) (fun _=>g2)
    (fun _=>pt b1 (.cells #[.slice p l.length cp] 30 (0,0))::s) (fun i=>i≤rs.length∧mf (ae l) (aa l)=mf (ae l) ((aa l).drop i)) (fun i=>rs.length - i) 0
    sB rfl rfl ⟨zf4 _,by simp⟩ ?_
   rintro k ⟨hk,heq2⟩;try dsimp only
   refine rZ (yL I (tZ (sQ ?_)));refine iP I (fun hlt2=>?_) (fun hlt2=>?_)
   ·have hkr:k<rs.length:=oM;have hkc:k<(aa l).length:=oM;have hb1:=hrs.based oM;have hcr:=hall.get (gE hkc) (gE hkr);have hgx:rs[((k:Nat):Int).toNat]?=some rs[k]:=gE hkr;have hdrop:(aa l).drop k=(aa l)[k]::(aa l).drop (k+1):=zg4 hkc;have hcm:=gM hkc;have haok:=wL hall0 hcm;generalize rs[k]=x at *;generalize (aa l)[k]=cx at *;rw[hdrop] at heq2;obtain ⟨xi,xd,xv⟩:=x;have hxi:xi=cx.id:=hcr.1;have hxd:xd=cx.dim:=hcr.2.1;subst hxi hxd;refine kP (tN (sQ (bK (rZ (lU (iA aA au I I hb1 oM sL) (lK (eA eX au I hrs.rd hgx) (bW (aL zk8) fun b11=>?_)))))));refine oZ (sK 0 au I I I I I sB) ?_;refine tZ (rZ (lU (fA ao I zT3 I) (lK (qL iT3 I (cO 0 I I)) (lU (gR I I) (tZ ?_)))));refine iP I (fun hd1=>?_) (fun hd1=>?_)
    ·refine sW I (lK (qV 0 eX au I I I) (lW (cL call53 I (tO E g2 _ tv (ae l) cx _ ht2 hcr haok)) ?_));rintro _ _ _ ⟨rfl,rfl,rfl⟩;refine aT I (sW I (lU (nQ I I) (tZ ?_)));refine iP I (fun he=>?_) (fun he=>?_)
     ·refine rZ (lU (fA ao I zT3 I) (lK (qL iT3 I (cO 0 I I)) (lM I (lA I (aT I (rE (bR (tR (tR (bR (tR ?_)))))))))));refine dR (s':=s) (.cons _ (.cons _ (.refl _))) (ST.less hleg ?_);have h1:aX l=(cx.id,cC (ae l) cx):=by rw[hres,heq,heq2]; unfold mf; rw[zf8 ⟨hd1,he⟩]; rfl
      exact ST.ret2 (.inl I) results24 I I ⟨by (rw[h1]; rfl),rfl,rfl⟩
     ·refine kP (bN (tN (rG (yD I (lM I (nL (dR (s':=pt b1 (.cells #[.slice p l.length cp] 30 (0,0))::s) (.cons _ (.refl _)) ?_)))))));exact gA (k+1) sB I I ⟨oM,by rw[heq2]; rw[mf,zf7 (fun h=>he h.2)]⟩ oM
    ·refine kP (bN (tN (rG (yD I (lM I (nL (dR (s':=pt b1 (.cells #[.slice p l.length cp] 30 (0,0))::s) (.cons _ (.refl _)) ?_)))))));exact gA (k+1) sB I I ⟨oM,by rw[heq2]; rw[mf,zf7 (fun h=>hd1 h.1)]⟩ oM
   ·have hkk2:(aa l).drop k=[]:=List.drop_of_length_le oM;rw[hkk2] at heq2;refine xI (tX (tX (bX (tN (rZ (lA I (aT I (rE ?_))))))));refine dR (s':=s) (.cons _ (.refl _)) (ST.less hleg ?_);have h1:aX l=(0,0):=by rw[hres,heq,heq2]; rfl
    exact ST.ret2 (.inl I) results24 I I ⟨by (rw[h1]; done),I,I⟩
def lbI (l:List Int)(x:Int):Nat:=(l.filter fun y=>decide (y<x)).length
theorem CZ {l:List Int}{x:Int}{i:Nat}(hi:i≤l.length)(h1:∀ k (h:k<l.length),k<i→l[k]<x)(h2:∀ k (h:k<l.length),i≤k→x≤l[k]):lbI l x=i:=by
 unfold lbI;have e:l=l.take i++l.drop i:=(zi7 i l).symm;rw[e,zh4];have f1:(l.take i).filter (fun y=>decide (y<x))=l.take i:=by
  rw[List.filter_eq_self];intro y hy;obtain ⟨k,hk,rfl⟩:=zc4 hy;simp at hk;simpa using h1 k oM oM
 have f2:(l.drop i).filter (fun y=>decide (y<x))=[]:=by
  rw[List.filter_eq_nil_iff];intro y hy;obtain ⟨k,hk,rfl⟩:=zc4 hy;simp at hk;have:=h2 (i+k) oM oM;simp only[List.getElem_drop];simp;omega
 rw[f1,f2];simp;omega
theorem Ai {l:List Int}{x:Int}{i:Nat}(hs:l.Pairwise (· ≤ ·))(h1:∀ k (h:k<l.length),k<i→l[k]<x)(h2:∀ k (h:k<l.length),i≤k→x≤l[k])(hi:i<l.length):decide (l[i]=x)=l.contains x:=by
 rw[Bool.eq_iff_iff];simp;constructor
 ·intro e; rw[← e]; exact gM hi
 ·intro hm;obtain ⟨k,hk,e⟩:=zc4 hm;have hki:i≤k:=by
   rcases Nat.lt_or_ge k i with h | h
   ·have:=h1 k hk h; omega
   ·exact h
  have h3:=h2 i hi (lR _)
  rcases Nat.eq_or_lt_of_le hki with rfl | h
  ·exact e
  ·have:=zc6.1 hs i k hi hk h;omega
theorem zV {l:List Int}{x:Int}{i:Nat}(h1:∀ k (h:k<l.length),k<i→l[k]<x)(hi:¬ i<l.length):l.contains x=false:=by
 rw[Bool.eq_false_iff];intro hm;simp at hm;obtain ⟨k,hk,e⟩:=zc4 hm;have:=h1 k hk oM;omega
def cB (n:Int):Int:=1 - 2 * (n % 2)
theorem o6 (n:Int):IntKind.i64.wrap ((BitVec.ofInt IntKind.i64.bits n &&& BitVec.ofInt IntKind.i64.bits 1).toNat:Int)=n % 2:=by
 have h1:(BitVec.ofInt 64 n &&& BitVec.ofInt 64 1).toNat=(n % 2).toNat:=by
  rw[BitVec.toNat_and,show (BitVec.ofInt 64 1).toNat=1 from rfl,Nat.and_one_is_mod,BitVec.toNat_ofInt];omega
 show IntKind.i64.wrap ((BitVec.ofInt 64 n &&& BitVec.ofInt 64 1).toNat:Int)=n % 2;rw[h1,zk4 _ oM];omega
theorem xR (E:World)(g:PH)(s:Own)(n:Int):Ctr Tryz.prog E 93 #[vi n] g s (fun r g' s'=>r=vi (cB n)∧g=g'∧s=s'):=by
 refine za9 (args:=[vi n]) func93 I ntmps93 (bE I) ?_;refine rZ (aT I (sW I (lU (SU.eq (SU.and I I) (zd9 vi (o6 n))) (lU (SU.mul I I oM) (lU (sU I I oM) (aT I (rE ?_)))))));exact za6 (.inl I) results93 I ⟨I,I,I⟩
theorem yq (l:List Cl):∀ acc:List Cl,∃ r,l.foldl fE acc=acc++r∧r.Sublist l:=by
 induction l with
 | nil=>intro acc; exact⟨[],by simp,.refl _⟩
 | cons c t ih =>
  intro acc;simp only[zi5];obtain ⟨r,h1,h2⟩:=ih (fE acc c);unfold fE at h1;unfold fE;split at h1
  ·rename_i hc;rw[zf8 hc];exact⟨r,h1,h2.cons _⟩
  ·rename_i hc;rw[zf7 hc];exact⟨c::r,by rw[h1]; simp,h2.cons_cons _⟩
theorem uh (l:List Cl):(ae l).Sublist (aa l):=by
 obtain ⟨r,h1,h2⟩:=yq (aa l) [];unfold ae;rw[h1];simpa using h2
theorem oS (l:List Cl):(aa l).map Cl.id=(sortBy Cl.id l).map Cl.id:=by
 unfold aa;rw[zi3];rfl
theorem ii (l:List Cl):((aa l).map Cl.id).Pairwise (· ≤ ·):=by
 rw[oS,zj7];exact dV l
theorem dS (l:List Cl):((ae l).map Cl.id).Pairwise (· ≤ ·):=(ii l).sublist ((uh l).map _)
def a6 (tl ul:List Cl)(x y:Int):Int:=lbI (tl.map Cl.id) x * ul.length+lbI (ul.map Cl.id) y+1
theorem A5 (l:List Int)(x:Int):lbI l x≤l.length:=zc2 _ _
theorem tt {a b:Nat}(ha:a≤4000)(hb:b≤4000):(a:Int) * (b:Int)≤16000000∧0≤(a:Int) * (b:Int):=by
 have:a * b≤4000 * 4000:=Nat.mul_le_mul ha hb;have e:(a:Int) * (b:Int)=((a * b:Nat):Int):=by simp
 omega
theorem yS {l:List Cl}(h:(aX l).2=0):l.length≤4000:=by
 unfold aX at h;split at h
 ·simp at h
 ·omega
theorem Tryz.buildE30 (w:World):(Instr.build 30 #[]).run Tryz.prog w = .ok (.agg #[.slice none 0 0]) w:=by
 simp[Instr.build,Instr.fill];rfl
theorem Tryz.buildC63 (x y:Int)(w:World):(Instr.build 63 #[(0,vi x),(1,vi y)]).run Tryz.prog w = .ok (.agg #[vi x,vi y,.slice none 0 0]) w:=by
 have hz:(Value.agg #[vi 0,vi 0,Value.slice none 0 0]).cells = #[vi 0,vi 0,.slice none 0 0]:=rfl;have h1:∀ z:Int,(vi z).cells = #[vi z]:=fun _=>rfl;simp[Instr.build,Instr.fill,hz,h1]
theorem Tryz.buildS87 (x y:Int)(w:World):(Instr.build 87 #[(0,vi x),(1,vi y)]).run Tryz.prog w = .ok (.agg #[vi x,vi y]) w:=by
 have hz:(Value.agg #[vi 0,vi 0]).cells = #[vi 0,vi 0]:=rfl;have h1:∀ z:Int,(vi z).cells = #[vi z]:=fun _=>rfl;simp[Instr.build,Instr.fill,hz,h1]
theorem gY {α β γ:Type}(l:List α)(m:List β)(f:α→β→γ):(l.flatMap fun x=>m.map (f x)).length=l.length * m.length:=by
 induction l with
 | nil=>simp
 | cons x t ih=>rw[zh3,ze3,ih,ze4,ze6,Nat.succ_mul]; omega
theorem sY (n:Int):cB n=1∨cB n = -1:=by unfold cB; omega
def mh (a b:List Cl):Bool:=!decide ((aX a).2=0) || !decide ((aX b).2=0)||decide ((a.length:Int) * b.length>4000)
theorem vK {a b:List Cl}(h:mh a b=false):(aX a).2=0∧(aX b).2=0∧(a.length:Int) * b.length≤4000:=by
 simp only[mh,Bool.or_eq_false_iff,Bool.not_eq_false',zi9,decide_eq_false_iff_not] at h;exact⟨h.1.1,h.1.2,oM⟩
theorem sw {tl:List Cl}:∀ {l:List Cl} {last:Int} {p:Int×Int},fN tl l last=some p→p.2≠0
 | [],_,_,h=>by simp[fN] at h
 | y::r,last,p,h=>by
  unfold fN at h;split at h
  ·injection h with h; subst h; show (20:Int)≠0; decide
  ·split at h
   ·rename_i h0; injection h with h; subst h; exact h0
   ·exact sw h
theorem uK {tl:List Cl}{c:Cl}(h:cz tl c=0):0≤c.dim∧c.dim≤8:=by
 unfold cz at h;split at h
 ·simp at h
 ·rename_i hdb;simp[fv] at hdb;omega
theorem ay (l:List Cl):(aa l).length=l.length:=by simp[aa,er]
theorem jH (l:List Cl):(ae l).length≤l.length:=by
 rw[← ay l];exact (uh l).length_le
def cZ (tl ul:List Cl)(x y:Cl):Cl:=⟨a6 tl ul x.id y.id,x.dim+y.dim,x.sides.map (fun q=>⟨a6 tl ul q.cell y.id,q.sign⟩)++y.sides.map (fun q=>⟨a6 tl ul x.id q.cell,cB x.dim * q.sign⟩)⟩
def cU (a b:List Cl):List Cl:=(aa a).flatMap fun x=>(aa b).map (cZ (ae a) (ae b) x)
def Bk (a b:List Cl):List Cl:=if mh a b then [] else if (aX (cU a b)).2=0 then aa (cU a b) else []
theorem wK (E:World)(g:PH)(s:Own)(v:Value)(l:List Int)(hv:bC g v l)(hn:l.length<17592186044416) :
  Ctr Tryz.prog E 84 #[v] g s (fun r g' s'=>g=g'∧s'=rowA encInt 3 r l::s):=by
 obtain ⟨p,c,rfl⟩:=za2 hv;refine za9 (args:=[.slice p l.length c]) func84 I ntmps84 (bE I) ?_;refine rZ (aT I (sQ (sW I (lU (SU.eqlNil ah I I) (tZ ?_)))));refine iQ I (fun hp=>?_) (fun hp=>?_)
 ·refine rZ (aT I (rE (tR ?_)));have hl:l=[]:=by
   cases l with
   | nil=>rfl
   | cons x r =>
    have hb:=za4 hv (by simp);cases p with
    | none=>simp[based] at hb
    | some q=>simp at hp
  subst hl;refine ST.nilRow 3 1 ?_;exact za6 (.inl I) results84 I ⟨I,I⟩
 ·refine kP (tN (rZ (lW (bS sty25 I I I (ab trivial) dC) ?_)));rintro _ _ _ ⟨b5,rfl,rfl,rfl⟩;refine SL.emptyRow 3 1 (some ⟨b5,0,none⟩) (lM I (lW (SO.appendE (m:=l.length) 0 l.length (l.flatMap encInt.enc) sty25 I I I I I (Sl.rd hv) (encInt.length l) (encInt.ones l) oM (by simp) oM oM) ?_));rintro r7 _ _ ⟨rfl,rfl⟩;refine aT I (rE (dR (s':=rowA encInt 3 r7 l::s) (.cons_cons _ (.cons _ (.refl _))) ?_));exact za6 (.inl I) results84 I ⟨I,I⟩
def orI:List Int→Int
 | []=>0
 | a::r=>if a≠0 then a else orI r
def fy:List Int→List Int→Int
 | [],[]=>0
 | [],_::_=>-1
 | _::_,[]=>1
 | a::r,b::t=>if ld a b≠0 then ld a b else fy r t
def ai (a b:List Int):Int:=if ld a.length b.length≠0 then ld a.length b.length else fy a b
theorem BO (E:World)(g:PH)(s:Own)(v:Value)(l:List Int)(hv:Rd g s v (l.flatMap encInt.enc))(hf:∃ p c,v = .slice p l.length c)(hb:0<l.length→based v=true)(hl:l.length<1099511627776) :
  Ctr Tryz.prog E 122 #[v] g s (fun r g' s'=>r=vi (orI l)∧g=g'∧s=s'):=by
 obtain ⟨p,c,rfl⟩:=hf;refine za9 (args:=[.slice p l.length c]) func122 I ntmps122 (bE I) ?_;refine rZ (aT I (rZ (aT I (sQ (sW I (lU (eN ah I) (lM I (tZ (bK ?_)))))))));refine oP (ι:=Nat) (fun k=>[(3,vi 0),(6,.slice p l.length c),(7,vi l.length),(8,vi k)]) (fun _=>g) (fun _=>s) (fun k=>k≤l.length∧orI l=orI (l.drop k)) (fun k=>l.length - k) 0
  sB rfl rfl ⟨zf4 _,by simp⟩ ?_
 rintro k ⟨hk,heq⟩;refine rZ (yL I (tZ (sQ ?_)));refine iP I (fun hlt=>?_) (fun hlt=>?_)
 ·have hkl:k<l.length:=oM;have hb1:=hb oM;have hgx:l[((k:Nat):Int).toNat]?=some l[k]:=gE hkl;have hdrop:l.drop k=l[k]::l.drop (k+1):=zg4 hkl;generalize l[k]=x at *;rw[hdrop] at heq;refine kP (tN (sQ (bK (rZ (lU (iA ah zT3 I I hb1 oM sL) (lK (eB iT3 I hv hgx I) (aT I (sW I (lM I (lU (nQ I I) (tZ ?_)))))))))));refine iP I (fun hd=>?_) (fun hd=>?_)
  ·refine sW I (aT I (rE (bR (tR (tR (bR (tR ?_)))))));exact za6 (.inl I) results122 I ⟨by rw[heq,orI,zf8 hd],I,I⟩
  ·refine kP (bN (tN (rG (yD I (lM I (nL ?_))))));exact gA (k+1) sB I I ⟨oM,by rw[heq,orI,zf7 hd]⟩ oM
 ·refine xI (tX (tX (bX (tN (sW I (aT I (rE ?_)))))));have hkk:l.drop k=[]:=List.drop_of_length_le oM;rw[hkk] at heq;exact za6 (.inl I) results122 I ⟨by rw[heq]; rfl,rfl,rfl⟩
theorem qJ (E:World)(g:PH)(s:Own)(v u:Value)(l m:List Int)(hv:bC g v l)(hu:bC g u m)(hl:l.length<1099511627776) :
  Ctr Tryz.prog E 36 #[v,u] g s (fun r g' s'=>r=vb (decide (l=m))∧g=g'∧s=s'):=by
 obtain ⟨p,c,rfl⟩:=za2 hv;obtain ⟨q,d,rfl⟩:=za2 hu;refine za9 (args:=[.slice p l.length c,.slice q m.length d]) func36 I ntmps36 (bE I) ?_;refine rZ (aT I (sQ (sW I (lU (eN ah I) (lM I (lU (eN ah I) (lU (nQ I I) (tZ ?_))))))));refine iP I (fun hne=>?_) (fun hne=>?_)
 ·refine rZ (aT I (rE (tR ?_)));exact za6 (.inl I) results36 I ⟨by have:l≠m:=fun e=>hne (by rw[e]); simp[this],I,I⟩
 ·refine kP (tN (sQ (sW I (lU (eN ah I) (lM I (tZ (bK ?_)))))));have hlen:l.length=m.length:=oM;refine oP (ι:=Nat) (fun k=>[(0,.slice p l.length c),(1,.slice q m.length d),(12,vi l.length),(13,vi k)]) (fun _=>g) (fun _=>s) (fun k=>k≤l.length∧l.take k=m.take k) (fun k=>l.length - k) 0
   sB rfl rfl ⟨zf4 _,by simp⟩ ?_
  rintro k ⟨hk,heq⟩;refine rZ (yL I (tZ (sQ ?_)));refine iP I (fun hlt=>?_) (fun hlt=>?_)
  ·have hkl:k<l.length:=oM;have hkm:k<m.length:=oM;have hb1:=za4 hv oM;have hb2:=za4 hu oM;refine kP (tN (sQ (bK (sW I (aT I (sQ ?_))))));refine dW [] [(0,2),(1,2),(2,2),(3,1),(4,2),(5,2),(6,2),(7,1),(8,2)] ze1 kR ?_;refine yM I (yM I (pU I (iA ah zT3 I I hb1 oM sL) ?_));refine pQ I (eB iT3 I (za5 hv) (gE hkl) I) dC ?_;refine yM I (yM I (pU I (iA ah zT3 I I hb2 oM sL) ?_));refine pQ I (eB iT3 I (za5 hu) (gE hkm) I) dC ?_;refine pU I (nQ I I) (pN (tN ?_));refine iP I (fun hd=>?_) (fun hd=>?_)
   ·refine rZ (aT I (rE (bR (tR (tR (bR (tR ?_)))))));exact za6 (.inl I) results36 I ⟨by have:l≠m:=fun e=>hd (by simp[e]); simp[this],I,I⟩
   ·refine kP (bN (tN (rG (yD I (lM I (nL ?_))))));exact gA (k+1) sB I I ⟨oM,rA hkl hkm heq (zg7 hd)⟩ oM
  ·refine xI (tX (tX (bX (tN (rZ (aT I (rE ?_)))))));have hkk:k=l.length:=oM;subst hkk;have:l=m:=sH hlen heq;exact za6 (.inl I) results36 I ⟨by simp[this],I,I⟩
theorem tF (E:World)(g:PH)(s:Own)(v u:Value)(l m:List Int)(hv:bC g v l)(hu:bC g u m)(hl:l.length<1099511627776) :
  Ctr Tryz.prog E 123 #[v,u] g s (fun r g' s'=>r=vi (fy l m)∧g=g'∧s=s'):=by
 obtain ⟨p,c,rfl⟩:=za2 hv;obtain ⟨q,d,rfl⟩:=za2 hu;refine za9 (args:=[.slice p l.length c,.slice q m.length d]) func123 I ntmps123 (bE I) ?_;refine rZ (aT I (sQ (sW I (lU (eN ah I) (lM I (tZ (bK ?_)))))));refine oP (ι:=Nat) (fun k=>[(0,.slice p l.length c),(1,.slice q m.length d),(9,.slice p l.length c),(10,vi l.length),(11,vi k)]) (fun _=>g) (fun _=>s) (fun k=>k≤l.length∧k≤m.length∧fy l m=fy (l.drop k) (m.drop k)) (fun k=>l.length - k) 0
  sB rfl rfl ⟨zf4 _,zf4 _,by simp⟩ ?_
 rintro k ⟨hk,hkm,heq⟩;refine rZ (yL I (tZ (sQ ?_)));refine iP I (fun hlt=>?_) (fun hlt=>?_)
 ·have hkl:k<l.length:=oM;have hb1:=za4 hv oM;have hgx:l[((k:Nat):Int).toNat]?=some l[k]:=gE hkl;have hdrop:l.drop k=l[k]::l.drop (k+1):=zg4 hkl;generalize l[k]=x at *;rw[hdrop] at heq;refine kP (tN (sQ (bK (sW I (lU (iA ah zT3 I I hb1 oM sL) (lK (eB iT3 I (za5 hv) hgx I) (lA I (aT I (sQ (sW I (lM I (lU (eN ah I) (lU (gQ I I) (tZ ?_))))))))))))));refine iP I (fun hge=>?_) (fun hge=>?_)
  ·refine rZ (aT I (rE (tR (bR (tR (tR (bR (tR ?_))))))));have hmk:m.drop k=[]:=List.drop_of_length_le oM;rw[hmk] at heq;exact za6 (.inl I) results123 I ⟨by rw[heq]; rfl,rfl,rfl⟩
  ·have hkm2:k<m.length:=oM;have hb2:=za4 hu oM;have hgy:m[((k:Nat):Int).toNat]?=some m[k]:=gE hkm2;have hdrop2:m.drop k=m[k]::m.drop (k+1):=zg4 hkm2;generalize m[k]=y at *;rw[hdrop2] at heq;refine kP (tN (sW I (lM I (lU (iA ah zT3 I I hb2 oM sL) (lK (eB iT3 I (za5 hu) hgy I) (aT I (sW I (lM I (lW (cL call115 I (fL E g _ x y)) ?_)))))))));rintro _ _ _ ⟨rfl,rfl,rfl⟩;refine aT I (sW I (lU (nQ I I) (tZ ?_)));refine iP I (fun hd=>?_) (fun hd=>?_)
   ·refine sW I (aT I (rE (bR (tR (tR (bR (tR ?_)))))));exact za6 (.inl I) results123 I ⟨by rw[heq,fy,zf8 hd],I,I⟩
   ·refine kP (bN (tN (rG (yD I (lM I (nL ?_))))));exact gA (k+1) sB I I ⟨oM,oM,by rw[heq,fy,zf7 hd]⟩ oM
 ·refine xI (tX (tX (bX (tN (sQ (sW I (lU (eN ah I) (lM I (lU (eN ah I) (yL I (tZ ?_)))))))))));have hkk:l.drop k=[]:=List.drop_of_length_le oM;rw[hkk] at heq;refine iP I (fun hll=>?_) (fun hll=>?_)
  ·refine rZ (aT I (rE (tR ?_)));have hkm2:k<m.length:=oM;have hdrop2:m.drop k=m[k]::m.drop (k+1):=zg4 hkm2;rw[hdrop2] at heq;exact za6 (.inl I) results123 I ⟨by rw[heq]; rfl,rfl,rfl⟩
  ·refine kP (tN (rZ (aT I (rE ?_))));have hmk:m.drop k=[]:=List.drop_of_length_le oM;rw[hmk] at heq;exact za6 (.inl I) results123 I ⟨by rw[heq]; rfl,rfl,rfl⟩
theorem jS (E:World)(g:PH)(s:Own)(v u:Value)(l m:List Int)(hv:bC g v l)(hu:bC g u m)(hl:l.length<1099511627776) :
  Ctr Tryz.prog E 89 #[v,u] g s (fun r g' s'=>r=vi (ai l m)∧g=g'∧s=s'):=by
 obtain ⟨p,c,rfl⟩:=za2 hv;obtain ⟨q,d,rfl⟩:=za2 hu;refine za9 (args:=[.slice p l.length c,.slice q m.length d]) func89 I ntmps89 (bE I) ?_;refine rZ (aT I (sW I (lU (eN ah I) (lM I (lU (eN ah I) (lW (cL call115 I (fL E g _ l.length m.length)) ?_))))));rintro _ _ _ ⟨rfl,rfl,rfl⟩;refine lM I (lM I (lW (cL call123 I (tF E g _ _ _ l m hv hu hl)) ?_));rintro _ _ _ ⟨rfl,rfl,rfl⟩;refine lW (bS sty25 I I I (ab sB) dC) ?_;rintro _ _ _ ⟨b13,rfl,rfl,rfl⟩;refine lW (cL call122 I (BO E g _ _ [ld l.length m.length,fy l m] (Rd.pt 0 I) ⟨_,_,I⟩ (fun _=>I) (by simp))) ?_;rintro _ _ _ ⟨rfl,rfl,rfl⟩;refine aT I (rE (dR (s':=s) uR ?_));exact za6 (.inl I) results89 I ⟨by unfold ai; simp only[orI]; split <;> simp_all,I,I⟩
def a7 (g:PH)(l:List Int)(r:Sv):Prop:=bC g (.slice r.p r.n r.c) l
theorem a7.mono {g g':PH}(hl:Le g g'){l:List Int}{r:Sv}(h:a7 g l r):a7 g' l r:=za3 h hl
theorem a7.len {g:PH}{l:List Int}{r:Sv}(h:a7 g l r):r.n=l.length:=(SlA.cap h).1
def ax (g:PH)(v:Value)(l:List (List Int)):Prop:=∃ rs,SlA ak g v rs∧az (a7 g) l rs
theorem ax.mono {g g':PH}{v:Value}{l:List (List Int)}(h:ax g v l)(hl:Le g g'):ax g' v l:=by
 obtain ⟨rs,h1,h2⟩:=h;exact⟨rs,h1.mono hl,h2.mono fun _ _=>a7.mono hl⟩
def dT (bits:Nat)(l:List Int):List Int:=(l.zipIdx.filter fun p=>bits / 2 ^ p.2 % 2 == 1).map (·.1)
def bH (l:List Int):List (List Int):=(List.range (2 ^ l.length - 1)).map fun i=>dT (i+1) l
theorem wS:∀ n,n<10→IntKind.i64.wrap (1 * 2 ^ min ((n:Nat):Int).toNat IntKind.i64.bits)=((2 ^ n:Nat):Int):=by decide
theorem wR (b k:Nat)(hk:k<10):(((b:Nat):Int).fdiv (2 ^ min ((k:Nat):Int).toNat IntKind.i64.bits)) % 2=((b / 2 ^ k % 2:Nat):Int):=by
 have h1:min ((k:Nat):Int).toNat IntKind.i64.bits=k:=by
  have:IntKind.i64.bits=64:=rfl;rw[this]; omega
 rw[h1,Int.fdiv_eq_ediv_of_nonneg _ (Int.le_of_lt (Int.pow_pos dC))];simp
theorem wI (n:Nat)(h:n≤9):2 ^ n≤512:=by
 have:(2:Nat) ^ n≤2 ^ 9:=Nat.pow_le_pow_right dC h;simpa using this
theorem ox {bits k:Nat}{l:List Int}(h:k<l.length):dT bits (l.take (k+1))=if bits / 2 ^ k % 2=1 then dT bits (l.take k)++[l[k]] else dT bits (l.take k):=by
 unfold dT;rw[tS h,List.zipIdx_append,zh4,zg3];have:(List.take k l).length=k:=by rw[ze2]; omega
 rw[this];simp only[List.zipIdx_cons,List.zipIdx_nil,Nat.zero_add,zi4,List.filter_nil];by_cases hb:bits / 2 ^ k % 2=1
 ·simp[hb]
 ·simp[hb]
theorem eW (bits:Nat)(l:List Int):(dT bits l).length≤l.length:=by
 unfold dT;rw[ze4];have:=zc2 (fun p:Int×Nat=>bits / 2 ^ p.2 % 2 == 1) l.zipIdx;simpa using this
theorem rB (E:World)(g:PH)(s:Own)(v:Value)(l:List Int)(hv:bC g v l)(hl:l.length≤9) :
  Ctr Tryz.prog E 87 #[v] g s (fun r g' s'=>s=s'∧Le g g'∧ax g' r (bH l)):=by
 obtain ⟨p,c,rfl⟩:=za2 hv;have hpow:=wI l.length hl;refine za9 (args:=[.slice p l.length c]) func87 I ntmps87 (bE I) ?_;refine rZ (aT I (rZ (aT I (sQ (rZ (aT I (bK (zb4 25 1 ?_))))))));refine oP (ι:=PH×Value×Nat×List Sv) (fun i=>[(0,.slice p l.length c),(3,i.2.1),(4,vi (i.2.2.1+1:Nat))]) (fun i=>i.1)
  (fun i=>rowA ak 25 i.2.1 i.2.2.2::s) (fun i=>Le g i.1∧i.2.2.1+1≤2 ^ l.length∧az (a7 i.1) ((List.range i.2.2.1).map fun j=>dT (j+1) l) i.2.2.2) (fun i=>2 ^ l.length - i.2.2.1)
  (g,.slice none 0 0,0,[]) sB rfl rfl ⟨zb7 g,Nat.one_le_two_pow,trivial⟩ ?_
 rintro ⟨g1,ov,b,rs⟩ ⟨hle,hb,hall⟩;dsimp only at hle hb hall ⊢;have hrl:=hall.length;simp only[ze4,zi2] at hrl;refine sQ (sW I (lM I (lU (eN ah I) (lU (SU.eq (v':=vi ((2 ^ l.length:Nat):Int)) (SU.shl I I oM) (zd9 vi (wS l.length oM))) (yL I (tZ ?_))))));refine iP I (fun hlt=>?_) (fun hlt=>?_)
 ·have hbl:b+1<2 ^ l.length:=oM;refine kP (tN (sQ (bK (rZ (aT I (sQ (sQ (zb4 3 1 (rG (lM I (lU (eN ah I) (lM I (tZ (bK ?_))))))))))))));refine oP (ι:=Value×Nat) (fun i=>[(0,.slice p l.length c),(3,ov),(4,vi (b+1:Nat)),(5,i.1),(15,.slice p l.length c),(16,vi l.length),(17,vi i.2)]) (fun _=>g1)
   (fun i=>rowA encInt 3 i.1 (dT (b+1) (l.take i.2))::rowA ak 25 ov rs::s) (fun i=>i.2≤l.length) (fun i=>l.length - i.2) (.slice none 0 0,0)
   sB rfl rfl (zf4 _) ?_
  rintro ⟨cv,k⟩ hk;dsimp only at hk ⊢;have hpl:=eW (b+1) (l.take k);rw[ze2] at hpl;refine rZ (yL I (tZ (sQ ?_)));refine iP I (fun hlt2=>?_) (fun hlt2=>?_)
  ·have hkl:k<l.length:=oM;have hb1:=za4 (hv.mono hle) oM;have hsucc:=ox (bits:=b+1) hkl;refine kP (tN (sQ (bK (sW I (lU (iA ah zT3 I I hb1 oM sL) ?_)))));refine SL.q (eB iT3 I (za5 (hv.mono hle)) (gE hkl) I) dC ?_;refine lA I (aT I (sW I (lM I (lU (SU.shr I I oM) (lU (SU.eq (v':=vi (((b+1) / 2 ^ k % 2:Nat):Int)) (SU.and I I) (zd9 vi ((o6 _).trans (wR (b+1) k oM)))) (yE I (tZ ?_)))))));refine iP I (fun hbit=>?_) (fun hbit=>?_)
   ·refine rG (lM I (lM I (lW (bS sty25 I I I (ab sB) dC) ?_)));rintro _ _ _ ⟨b29,rfl,rfl,rfl⟩;refine lW (aP 0 l[k] sty25 I I I I I oM oM) ?_;rintro cv' _ _ ⟨rfl,rfl⟩;refine lA I (nL (bN (tN (rG (yD I (lM I (nL ?_)))))));refine ST.to (fun w hw=>?_) (g':=g1) (s':=rowA encInt 3 cv' (dT (b+1) (l.take (k+1)))::rowA ak 25 ov rs::s) ?_
    ·rw[hsucc,zf8 oM]; exact hw
    exact gA (cv',k+1) sB I I lN lN
   ·refine kP (bN (tN (rG (yD I (lM I (nL ?_))))));refine ST.to (fun w hw=>?_) (g':=g1) (s':=rowA encInt 3 cv (dT (b+1) (l.take (k+1)))::rowA ak 25 ov rs::s) ?_
    ·rw[hsucc,zf7 oM]; exact hw
    exact gA (cv,k+1) sB I I lN lN
  ·have hkk:l.take k=l:=tL oM;refine xI (tX (tX (bX (tN (rG (fR fun g2 hle2 hs2=>?_))))));rw[hkk] at hs2;obtain ⟨q2,d2,rfl⟩:=za2 (e:=encInt) hs2;refine lM I (lM I (lW (bS sty22 I I I (ab sB) dC) ?_));rintro _ _ _ ⟨b34,rfl,rfl,rfl⟩;refine lW (aP (e:=ak) 0 ⟨q2,(dT (b+1) l).length,d2⟩ sty22 I I I I I oM oM) ?_;rintro ov' _ _ ⟨rfl,rfl⟩;refine lA I (nL (bN (tN (rG (lM I (yD I (lA I (nL ?_))))))));exact gA (g2,ov',b+1,rs++[⟨q2,(dT (b+1) l).length,d2⟩]) ⟨I,I,bP (by simp),trivial⟩ I I ⟨hle.trans hle2,hbl,by
    dsimp only;rw[List.range_succ,zg3];exact (hall.mono fun _ _=>a7.mono hle2).append ⟨hs2,trivial⟩⟩ lN
 ·refine xI (tX (tX (bX (tN (sW I (aT I (rE (fT fun g2 hle2 hs2=>?_))))))));have hbb:b=2 ^ l.length - 1:=oM;exact za6 (.inl I) results87 I ⟨I,hle.trans hle2,rs,hs2,by rw[hbb] at hall; exact hall.mono fun _ _=>a7.mono hle2⟩
def bd {α:Type}(eq:α→α→Bool):α→List α→List α
 | _,[]=>[]
 | x,y::r=>if eq y x then bd eq y r else y::bd eq y r
def gh {α:Type}(eq:α→α→Bool):List α→List α
 | []=>[]
 | x::r=>x::bd eq x r
theorem hZ {α:Type}(eq:α→α→Bool):∀ (x:α) (a:List α) (y:α) (r:List α),bd eq x (a++y::r)=bd eq x (a++[y])++bd eq y r
 | x,[],y,r=>by simp only[List.nil_append,bd]; split <;> simp
 | x,z::a,y,r=>by
  simp only[List.cons_append,bd];split
  ·exact hZ eq z a y r
  ·rw[hZ eq z a y r]; rfl
theorem gV {α:Type}(eq:α→α→Bool)(a:List α)(y:α)(r:List α):gh eq (a++y::r)=gh eq (a++[y])++bd eq y r:=by
 cases a with
 | nil=>rfl
 | cons x a=>simp only[List.cons_append,gh]; rw[hZ]
theorem ku {α:Type}(eq:α→α→Bool):∀ (x:α) (r:List α),(bd eq x r).length≤r.length
 | _,[]=>lR _
 | x,y::r=>by
  have:=ku eq y r;simp only[bd];split <;> simp <;> omega
theorem gU {α:Type}(eq:α→α→Bool)(l:List α):(gh eq l).length≤l.length:=by
 cases l with
 | nil=>exact lR _
 | cons x r=>have:=ku eq x r; simp[gh]; exact this
theorem uk {α:Type}{l:List α}{k:Nat}(h:k+1<l.length):∃ A x y R,l=A++x::y::R∧A.length=k:=by
 refine⟨l.take k,l[k],l[k+1],l.drop (k+2),?_,by rw[ze2]; omega⟩;have h1:l.drop k=l[k]::l.drop (k+1):=zg4 oM;have h2:l.drop (k+1)=l[k+1]::l.drop (k+2):=zg4 oM;rw[← h2,← h1,zi7]
theorem oX {α:Type}(A:List α)(x:α)(R:List α):(A++x::R).take (A.length+1)=A++[x]:=by
 rw[List.take_append,tL oM];simp
theorem jh {α:Type}(eq:α→α→Bool){l:List α}(h:l.length<2):gh eq l=l:=by
 match l,h with
 | [],_=>rfl
 | [a],_=>rfl
theorem oY {b o n c l k:Nat}(h:l<c):sliced (some ⟨b,o,none⟩) l n c k = .slice (some ⟨b,o+l * k,none⟩) (n - l) (c - l):=by
 have hadd:(⟨b,o,none⟩:Addr).add (l * k)=⟨b,o+l * k,none⟩:=by unfold Addr.add; split <;> simp_all
 simp only[sliced];rw[zf7 oM];simp[hadd]
theorem Bj {b o n c k:Nat}:sliced (some ⟨b,o,none⟩) 0 n c k = .slice (some ⟨b,o,none⟩) n c:=by
 have hadd:(⟨b,o,none⟩:Addr).add 0=⟨b,o,none⟩:=by unfold Addr.add; split <;> simp_all
 simp[sliced,hadd]
theorem wW {α:Type}{k:Nat}{e:Enc α k}{E:World}{g:PH}{s:Own}{w:World}{T:TypeId}{p:Option Addr}{c i:Nat}{l:List α}(h:At E g s w)(hi:s[i]?=some (rowA e T (.slice p l.length c) l))(h0:0<l.length):∃ b cap,p=some ⟨b,0,none⟩∧c=cap+1∧l.length≤cap+1:=by
 obtain ⟨_,h1⟩:=eK h hi
 rcases h1 with ⟨q,_,h2⟩ | ⟨b,cap,cur,he,_,hle,_⟩
 ·omega
 ·injection he with e1 e2 e3
  exact⟨b,cap,e1,e3,hle⟩
theorem Aq {α:Type}(e1:Enc α 1)(val:α→Value)(hval:∀ a,e1.enc a=[val a])(hvc:∀ a,(val a).cells = #[val a])(E:World)(g:PH)(s:Own)(v:Value)(fn:FuncId)(eq:α→α→Bool)(l:List α)(hl:l.length<1099511627776)
  (hcall:∀ a b s',cX Tryz.prog E (.func (.func fn) #[] #[]) [val a,val b] g s' (fun r g' s''=>r=vb (eq a b)∧g=g'∧s'=s'')) :
  Ctr Tryz.prog E 90 #[v,.func (.func fn) #[] #[]] g (rowA e1 25 v l::s) (fun r g' s'=>g=g'∧s'=rowA e1 25 r (gh eq l)::s):=by
 refine Ctr.facts fun ⟨w0,hw0⟩=>?_;obtain ⟨p,c,rfl⟩:=ag (i:=0) hw0 rfl;have hrow:=fun h=>wW (i:=0) hw0 rfl h;clear hw0 w0;refine za9 (args:=[.slice p l.length c,.func (.func fn) #[] #[]]) func90 I ntmps90 (bE I) ?_;refine rZ (aT I (sQ (sW I (lU (eN aY I) (yL I (tZ ?_))))));refine iP I (fun h2=>?_) (fun h2=>?_)
 ·refine sW I (aT I (rE (tR ?_)));exact za6 (.inl I) results90 I ⟨I,by rw[jh eq oM]⟩
 ·obtain ⟨b,cap,rfl,rfl,hcap⟩:=hrow oM;refine kP (tN (sQ (rZ (aT I (bK ?_)))));refine oP (ι:=Nat) (fun k=>[(0,.slice (some ⟨b,0,none⟩) l.length (cap+1)),(1,.func (.func fn) #[] #[]),(5,vi (k+1))]) (fun _=>g) (fun _=>rowA e1 25 (.slice (some ⟨b,0,none⟩) l.length (cap+1)) l::s) (fun k=>k+1≤l.length∧gh eq (l.take (k+1))=l.take (k+1)) (fun k=>l.length - k) 0
   sB rfl rfl ⟨oM,jh eq (by rw[ze2]; omega)⟩ ?_
  rintro k ⟨hk,huq⟩;refine sQ (sW I (lM I (lU (eN aY I) (yL I (tZ ?_)))));refine iP I (fun hlt=>?_) (fun hlt=>?_)
  ·obtain ⟨A,x,y,R,hsp,hA⟩:=uk (l:=l) (k:=k) oM;have hlen:l.length=k+2+R.length:=by rw[hsp]; simp; omega
   have hg1:l[((k:Int)+1).toNat]?=some y:=by
    have h3:l=(A++[x])++y::R:=by rw[hsp]; simp
    rw[h3]; exact bT (by simp; omega)
   have hg0:l[((k:Int)+1 - 1).toNat]?=some x:=by rw[hsp]; exact bT oM
   have htk:l.take (k+1)=A++[x]:=by rw[hsp,← hA]; exact oX A x (y::R)
   rw[htk] at huq;refine kP (tN (sQ (bK (sQ ?_))));refine dW [] [(0,2),(1,2),(2,2),(3,2),(4,1),(5,2),(6,2),(7,2),(8,2),(9,1),(10,0)] ze1 kR ?_;refine yM I (yM I (yM I (pU I (iA aY aR I I I oM sL) (pK I (eB bM I (zb5 0 I) hg1 (hval _)) (yM I (yM I (pU I (sU I I oM) (pU I (iA aY aR I I I oM sL) (pK I (eB bM I (zb5 0 I) hg0 (hval _)) (SP.o I (SO.callV I I (hcall _ _ _)) dC (.inr iR) ?_))))))))));rintro _ _ _ ⟨rfl,rfl,rfl⟩;refine pN (tN ?_);refine iQ I (fun heq=>?_) (fun heq=>?_)
   ·have hU:gh eq l=(A++[x])++bd eq y R:=by rw[hsp,gV,huq]; simp only[bd,heq,if_true]
    refine sW I (lM I (lU (SU.eq (v':=.slice (some ⟨b,0+(k+1) * 1,none⟩) (l.length - (k+1)) (cap+1 - (k+1))) (SU.sliceL aY aR I I oM oM) (by rw[show ((k:Int)+1).toNat=k+1 by omega]; exact oY oM)) ?_));refine aT I (sQ (rZ (aT I (bK ?_))));refine oP (ι:=List α×List α×α×List α×Nat) (fun i=>[(0,.slice (some ⟨b,0,none⟩) l.length (cap+1)),(1,.func (.func fn) #[] #[]),(5,vi i.1.length),(6,.slice (some ⟨b,0+(k+1) * 1,none⟩) (l.length - (k+1)) (cap+1 - (k+1))),(7,vi i.2.2.2.2)]) (fun _=>g)
     (fun i=>rowA e1 25 (.slice (some ⟨b,0,none⟩) l.length (cap+1)) (i.1++(i.2.1++[i.2.2.1])++i.2.2.2.1)::s)
     (fun i=>i.1.length+i.2.1.length=k+i.2.2.2.2∧1≤i.2.2.2.2∧gh eq l=i.1++bd eq i.2.2.1 i.2.2.2.1∧i.1.length+i.2.1.length+1+i.2.2.2.1.length=l.length) (fun i=>i.2.2.2.1.length)
     (A++[x],[],y,R,1) ⟨rfl,rfl,bP lN,rfl,rfl,trivial⟩ rfl (by dsimp only; rw[hsp]; simp) ⟨lN,lR _,hU,lN⟩ ?_
    rintro ⟨D,J0,z,R',n⟩ ⟨hn1,hn2,hu,hln⟩;dsimp only at hn1 hn2 hu hln ⊢;have hrl:(D++(J0++[z])++R').length=l.length:=lN;refine sQ (sW I (lM I (lU (eN aY I) (yL I (tZ ?_)))));refine iP I (fun hlt2=>?_) (fun hlt2=>?_)
    ·cases R' with
     | nil=>simp at hln; omega
     | cons y' R2 =>
     simp only[ze6] at hln;have hy1:((D++(J0++[z])++y'::R2).drop (k+1))[((n:Nat):Int).toNat]?=some y':=by
      rw[zh9]; exact bT lN
     have hy0:((D++(J0++[z])++y'::R2).drop (k+1))[((n:Nat):Int) - 1 |>.toNat]?=some z:=by
      rw[zh9,show D++(J0++[z])++y'::R2=(D++J0)++z::y'::R2 by simp]; exact bT lN
     have hrd:∀ s',Rd g (rowA e1 25 (.slice (some ⟨b,0,none⟩) l.length (cap+1)) (D++(J0++[z])++y'::R2)::s') (.slice (some ⟨b,0+(k+1) * 1,none⟩) (l.length - (k+1)) (cap+1 - (k+1))) (((D++(J0++[z])++y'::R2).drop (k+1)).flatMap e1.enc):=fun s'=>by
      rw[Nat.zero_add]; exact Rd.fromA (zb5 0 I)
     refine kP (tN (sQ (bK (sQ ?_))));refine dW [] [(0,2),(1,2),(2,2),(3,2),(4,1),(5,2),(6,2),(7,2),(8,2),(9,1),(10,0),(11,2)] ze1 kR ?_;refine yM I (yM I (yM I (pU I (iA aY aR I I I oM sL) (pK I (eB bM I (hrd _) hy1 (hval _)) (yM I (yM I (pU I (sU I I oM) (pU I (iA aY aR I I I oM sL) (pK I (eB bM I (hrd _) hy0 (hval _)) (SP.o I (SO.callV I I (hcall _ _ _)) dC (.inr iR) ?_))))))))));rintro _ _ _ ⟨rfl,rfl,rfl⟩;refine pU I (SU.not I) (pN (tN ?_));refine iQ I (fun hne=>?_) (fun hne=>?_)
     ·have hne':eq y' z=false:=by simpa using hne
      refine sW I (lM I (lM I (lM I (lU (iA aY aR I I I oM sL) (lK (eB bM I (hrd _) hy1 (hval _)) (lU (iA aY aR I I I oM sL) (oZ (sT (a:=y') 0 aR I I I lN (by rw[hvc,hval])) ?_)))))));refine tZ (rG (lM I (yD I (lA I (nL (bN (tN (rG (lM I (yD I (lA I (nL ?_))))))))))));have hset:∃ J',(D++(J0++[z])++y'::R2).set ((D.length:Nat):Int).toNat y'=(D++[y'])++(J'++[y'])++R2∧J'.length=J0.length:=by
       cases J0 with
       | nil=>exact⟨[],by rw[show D++([]++[z])++y'::R2=D++z::y'::R2 by simp,dH oM]; simp,rfl⟩
       | cons j J1=>exact⟨J1++[z],by rw[show D++(j::J1++[z])++y'::R2=D++j::(J1++[z]++y'::R2) by simp,dH oM]; simp,by simp⟩
      obtain ⟨J',hset,hJ'⟩:=hset;refine ST.to (fun w hw=>?_) (g':=g) (s':=rowA e1 25 (.slice (some ⟨b,0,none⟩) l.length (cap+1)) ((D++[y'])++(J'++[y'])++R2)::s) ?_
      ·rw[← hset]; exact hw
      exact gA (D++[y'],J',y',R2,n+1) ⟨I,I,bP lN,I,I,trivial⟩ I I ⟨lN,lN,by rw[hu]; simp only[bd,hne']; simp,lN⟩ lN
     ·have he':eq y' z=true:=by simpa using hne
      refine kP (bN (tN (rG (lM I (yD I (lA I (nL ?_)))))));refine ST.to (fun w hw=>?_) (g':=g) (s':=rowA e1 25 (.slice (some ⟨b,0,none⟩) l.length (cap+1)) (D++((J0++[z])++[y'])++R2)::s) ?_
      ·rw[show D++((J0++[z])++[y'])++R2=D++(J0++[z])++y'::R2 by simp]; exact hw
      exact gA (D,J0++[z],y',R2,n+1) sB I I ⟨lN,lN,by rw[hu]; simp only[bd,he']; simp,lN⟩ lN
    ·have hR:R'=[]:=zf2 oM;subst hR;simp only[zc1] at hln;refine xI (tX (tX (bX (tN (rZ ?_)))));refine SL.to (fun w hw=>At.shrink (i:=0) (D:=D) (J:=J0++[z]) hw (by rw[zc3]; rfl) rfl) ?_;refine lM I (lM I (lU (SU.eq (v':=.slice (some ⟨b,D.length * 1,none⟩) (l.length - D.length) (cap+1 - D.length)) (SU.sliceL aY aR I I oM oM) (by rw[Int.toNat_natCast,oY oM,Nat.zero_add])) ?_));refine lO (SO.clearA (D:=D) 0 sty22 (mi (l:=[.slice none 0 0]) ⟨I,trivial⟩) I I I oM) ?_;rintro _ _ _ ⟨rfl,rfl⟩;refine tZ (sW I (lM I (lU (SU.eq (v':=.slice (some ⟨b,0,none⟩) D.length (cap+1)) (SU.sliceH aY aR I I oM oM) (by rw[Int.toNat_natCast]; exact Bj)) ?_)));refine aT I (rE (bR (tR (tR (bR (tR ?_))))));exact za6 (.inl I) results90 I ⟨I,by rw[hu]; simp[bd]⟩
   ·refine kP (bN (tN (rG (lM I (yD I (lA I (nL ?_)))))));exact gA (k+1) ⟨I,I,bP oM,trivial⟩ I I ⟨oM,by
     have h3:l=(A++[x])++y::R:=by rw[hsp]; simp
     have h4:l.take (k+1+1)=(A++[x])++[y]:=by
      rw[h3,show k+1+1=(A++[x]).length+1 by simp; omega]; exact oX _ y R
     rw[h4,show (A++[x])++[y]=A++x::[y] by simp,gV,huq];simp[bd,heq]⟩ oM
  ·have hkk:k+1=l.length:=oM;rw[hkk,tL (lR _)] at huq;refine xI (tX (tX (bX (tN (sW I (aT I (rE ?_)))))));exact za6 (.inl I) results90 I ⟨I,by rw[huq]⟩
theorem Ar (E:World)(g:PH)(s:Own)(v:Value)(l:List Int)(hl:l.length<17592186044416) :
  Ctr Tryz.prog E 86 #[v] g (rowA encInt 3 v l::s) (fun r g' s'=>g=g'∧s'=rowA encInt 3 r (gh (fun a b:Int=>decide (a=b)) l)::s):=by
 refine Ctr.facts fun ⟨w0,hw0⟩=>?_;obtain ⟨p,c,rfl⟩:=ag (i:=0) hw0 rfl;have hrow:=fun h=>wW (i:=0) hw0 rfl h;clear hw0 w0;refine za9 (args:=[.slice p l.length c]) func86 I ntmps86 (bE I) ?_;refine rZ (aT I (sQ (sW I (lU (eN ah I) (yL I (tZ ?_))))));refine iP I (fun h2=>?_) (fun h2=>?_)
 ·refine sW I (aT I (rE (tR ?_)));exact za6 (.inl I) results86 I ⟨I,by rw[jh (fun a b:Int=>decide (a=b)) oM]⟩
 ·obtain ⟨b,cap,rfl,rfl,hcap⟩:=hrow oM;refine kP (tN (sQ (rZ (aT I (bK ?_)))));refine oP (ι:=Nat) (fun k=>[(0,.slice (some ⟨b,0,none⟩) l.length (cap+1)),(3,vi (k+1))]) (fun _=>g) (fun _=>rowA encInt 3 (.slice (some ⟨b,0,none⟩) l.length (cap+1)) l::s) (fun k=>k+1≤l.length∧gh (fun a b:Int=>decide (a=b)) (l.take (k+1))=l.take (k+1)) (fun k=>l.length - k) 0
   sB rfl rfl ⟨oM,jh (fun a b:Int=>decide (a=b)) (by rw[ze2]; omega)⟩ ?_
  rintro k ⟨hk,huq⟩;refine sQ (sW I (lM I (lU (eN ah I) (yL I (tZ ?_)))));refine iP I (fun hlt=>?_) (fun hlt=>?_)
  ·obtain ⟨A,x,y,R,hsp,hA⟩:=uk (l:=l) (k:=k) oM;have hlen:l.length=k+2+R.length:=by rw[hsp]; simp; omega
   have hg1:l[((k:Int)+1).toNat]?=some y:=by
    have h3:l=(A++[x])++y::R:=by rw[hsp]; simp
    rw[h3]; exact bT (by simp; omega)
   have hg0:l[((k:Int)+1 - 1).toNat]?=some x:=by rw[hsp]; exact bT oM
   have htk:l.take (k+1)=A++[x]:=by rw[hsp,← hA]; exact oX A x (y::R)
   rw[htk] at huq;refine kP (tN (sQ (bK (sQ ?_))));refine dW [] [(0,2),(1,2),(2,2),(3,1),(4,2),(5,2),(6,2),(7,2),(8,1),(9,2)] ze1 kR ?_;refine yM I (yM I (pU I (iA ah zT3 I I I oM sL) (pK I (eB iT3 I (zb5 0 I) hg1 I) (yM I (yM I (pU I (sU I I oM) (pU I (iA ah zT3 I I I oM sL) (pK I (eB iT3 I (zb5 0 I) hg0 I) (pU I (eQ I I) (pN (tN ?_)))))))))));refine iQ I (fun heq=>?_) (fun heq=>?_)
   ·have hU:gh (fun a b:Int=>decide (a=b)) l=(A++[x])++bd (fun a b:Int=>decide (a=b)) y R:=by rw[hsp,gV,huq]; simp only[bd,heq,if_true]
    refine sW I (lM I (lU (SU.eq (v':=.slice (some ⟨b,0+(k+1) * 1,none⟩) (l.length - (k+1)) (cap+1 - (k+1))) (SU.sliceL ah zT3 I I oM oM) (by rw[show ((k:Int)+1).toNat=k+1 by omega]; exact oY oM)) ?_));refine aT I (sQ (rZ (aT I (bK ?_))));refine oP (ι:=List Int×List Int×Int×List Int×Nat) (fun i=>[(0,.slice (some ⟨b,0,none⟩) l.length (cap+1)),(3,vi i.1.length),(4,.slice (some ⟨b,0+(k+1) * 1,none⟩) (l.length - (k+1)) (cap+1 - (k+1))),(5,vi i.2.2.2.2)]) (fun _=>g)
     (fun i=>rowA encInt 3 (.slice (some ⟨b,0,none⟩) l.length (cap+1)) (i.1++(i.2.1++[i.2.2.1])++i.2.2.2.1)::s)
     (fun i=>i.1.length+i.2.1.length=k+i.2.2.2.2∧1≤i.2.2.2.2∧gh (fun a b:Int=>decide (a=b)) l=i.1++bd (fun a b:Int=>decide (a=b)) i.2.2.1 i.2.2.2.1∧i.1.length+i.2.1.length+1+i.2.2.2.1.length=l.length) (fun i=>i.2.2.2.1.length)
     (A++[x],[],y,R,1) ⟨rfl,bP lN,rfl,rfl,trivial⟩ rfl (by dsimp only; rw[hsp]; simp) ⟨lN,lR _,hU,lN⟩ ?_
    rintro ⟨D,J0,z,R',n⟩ ⟨hn1,hn2,hu,hln⟩;dsimp only at hn1 hn2 hu hln ⊢;have hrl:(D++(J0++[z])++R').length=l.length:=lN;refine sQ (sW I (lM I (lU (eN ah I) (yL I (tZ ?_)))));refine iP I (fun hlt2=>?_) (fun hlt2=>?_)
    ·cases R' with
     | nil=>simp at hln; omega
     | cons y' R2 =>
     simp only[ze6] at hln;have hy1:((D++(J0++[z])++y'::R2).drop (k+1))[((n:Nat):Int).toNat]?=some y':=by
      rw[zh9]; exact bT lN
     have hy0:((D++(J0++[z])++y'::R2).drop (k+1))[((n:Nat):Int) - 1 |>.toNat]?=some z:=by
      rw[zh9,show D++(J0++[z])++y'::R2=(D++J0)++z::y'::R2 by simp]; exact bT lN
     have hrd:∀ s',Rd g (rowA encInt 3 (.slice (some ⟨b,0,none⟩) l.length (cap+1)) (D++(J0++[z])++y'::R2)::s') (.slice (some ⟨b,0+(k+1) * 1,none⟩) (l.length - (k+1)) (cap+1 - (k+1))) (((D++(J0++[z])++y'::R2).drop (k+1)).flatMap encInt.enc):=fun s'=>by
      rw[Nat.zero_add]; exact Rd.fromA (zb5 0 I)
     refine kP (tN (sQ (bK (sQ ?_))));refine dW [] [(0,2),(1,2),(2,2),(3,1),(4,2),(5,2),(6,2),(7,2),(8,1),(9,2)] ze1 kR ?_;refine yM I (yM I (pU I (iA ah zT3 I I I oM sL) (pK I (eB iT3 I (hrd _) hy1 I) (yM I (yM I (pU I (sU I I oM) (pU I (iA ah zT3 I I I oM sL) (pK I (eB iT3 I (hrd _) hy0 I) (pU I (nQ I I) (pN (tN ?_)))))))))));refine iQ I (fun hne=>?_) (fun hne=>?_)
     ·have hne':decide (y'=z)=false:=by simpa using hne
      refine sW I (lM I (lM I (lM I (lU (iA ah zT3 I I I oM sL) (lK (eB iT3 I (hrd _) hy1 I) (lU (iA ah zT3 I I I oM sL) (oZ (sT (a:=y') 0 zT3 I I I lN I) ?_)))))));refine tZ (rG (lM I (yD I (lA I (nL (bN (tN (rG (lM I (yD I (lA I (nL ?_))))))))))));have hset:∃ J',(D++(J0++[z])++y'::R2).set ((D.length:Nat):Int).toNat y'=(D++[y'])++(J'++[y'])++R2∧J'.length=J0.length:=by
       cases J0 with
       | nil=>exact⟨[],by rw[show D++([]++[z])++y'::R2=D++z::y'::R2 by simp,dH oM]; simp,rfl⟩
       | cons j J1=>exact⟨J1++[z],by rw[show D++(j::J1++[z])++y'::R2=D++j::(J1++[z]++y'::R2) by simp,dH oM]; simp,by simp⟩
      obtain ⟨J',hset,hJ'⟩:=hset;refine ST.to (fun w hw=>?_) (g':=g) (s':=rowA encInt 3 (.slice (some ⟨b,0,none⟩) l.length (cap+1)) ((D++[y'])++(J'++[y'])++R2)::s) ?_
      ·rw[← hset]; exact hw
      exact gA (D++[y'],J',y',R2,n+1) ⟨I,bP lN,I,I,trivial⟩ I I ⟨lN,lN,by rw[hu]; simp only[bd,hne']; simp,lN⟩ lN
     ·have he':decide (y'=z)=true:=by simpa using hne
      refine kP (bN (tN (rG (lM I (yD I (lA I (nL ?_)))))));refine ST.to (fun w hw=>?_) (g':=g) (s':=rowA encInt 3 (.slice (some ⟨b,0,none⟩) l.length (cap+1)) (D++((J0++[z])++[y'])++R2)::s) ?_
      ·rw[show D++((J0++[z])++[y'])++R2=D++(J0++[z])++y'::R2 by simp]; exact hw
      exact gA (D,J0++[z],y',R2,n+1) sB I I ⟨lN,lN,by rw[hu]; simp only[bd,he']; simp,lN⟩ lN
    ·have hR:R'=[]:=zf2 oM;subst hR;simp only[zc1] at hln;refine xI (tX (tX (bX (tN (rZ ?_)))));refine SL.to (fun w hw=>At.shrink (i:=0) (D:=D) (J:=J0++[z]) hw (by rw[zc3]; rfl) rfl) ?_;refine lM I (lM I (lU (SU.eq (v':=.slice (some ⟨b,D.length * 1,none⟩) (l.length - D.length) (cap+1 - D.length)) (SU.sliceL ah zT3 I I oM oM) (by rw[Int.toNat_natCast,oY oM,Nat.zero_add])) ?_));refine lO (SO.clearA (D:=D) 0 sty25 (mi (l:=[vi 0]) ⟨I,trivial⟩) I I I oM) ?_;rintro _ _ _ ⟨rfl,rfl⟩;refine tZ (sW I (lM I (lU (SU.eq (v':=.slice (some ⟨b,0,none⟩) D.length (cap+1)) (SU.sliceH ah zT3 I I oM oM) (by rw[Int.toNat_natCast]; exact Bj)) ?_)));refine aT I (rE (bR (tR (tR (bR (tR ?_))))));exact za6 (.inl I) results86 I ⟨I,by rw[hu]; simp[bd]⟩
   ·refine kP (bN (tN (rG (lM I (yD I (lA I (nL ?_)))))));exact gA (k+1) ⟨I,bP oM,trivial⟩ I I ⟨oM,by
     have h3:l=(A++[x])++y::R:=by rw[hsp]; simp
     have h4:l.take (k+1+1)=(A++[x])++[y]:=by
      rw[h3,show k+1+1=(A++[x]).length+1 by simp; omega]; exact oX _ y R
     rw[h4,show (A++[x])++[y]=A++x::[y] by simp,gV,huq];simp[bd,heq]⟩ oM
  ·have hkk:k+1=l.length:=oM;rw[hkk,tL (lR _)] at huq;refine xI (tX (tX (bX (tN (sW I (aT I (rE ?_)))))));exact za6 (.inl I) results86 I ⟨I,by rw[huq]⟩
theorem B4 (E:World)(g:PH)(s:Own)(n:Nat)(hn:n<1099511627776) :
  Ctr Tryz.prog E 124 #[.slice none 0 0,vi n] g s (fun r g' s'=>g=g'∧s'=rowA encInt 3 r []::s):=by
 refine za9 (args:=[.slice none 0 0,vi n]) func124 I ntmps124 (bE I) ?_;refine rZ (aT I (sQ (sW I (yL I (tZ ?_)))));refine iP I (fun hneg=>?_) (fun hneg=>?_)
 ·exfalso;omega
 ·refine kP (tN (sQ (sW I (lM I (lU (SU.cap ah I) (lM I (lU (eN ah I) (lU (sU I I oM) (lU (SU.eq (v':=vi n) (sU I I oM) (zd9 vi oM)) (aT I (sW I (lU (gR I I) (tZ ?_)))))))))))));refine iP I (fun hpos=>?_) (fun hpos=>?_)
  ·refine rG (lM I (lM I (lU (SU.cap ah I) (lU (SU.eq (v':=.slice none 0 0) (SU.sliceH ah zT3 I I oM oM) I) (lM I (lW (SO.appendZ encInt sty25 uT3 I I oM oM oM) ?_))))));rintro _ _ _ ⟨b,cap,rfl,hcap,rfl,rfl⟩;refine lM I (lU (eN ah I) (lU (SU.eq (v':=.slice (some ⟨b,0,none⟩) 0 (cap+1)) (SU.sliceH ah zT3 I I oM oM) Bj) (aT I (sW I (aT I (rE ?_))))));exact za6 (.inl I) results124 I ⟨I,I⟩
  ·refine kP (tN (sW I (aT I (rE (ST.nilRow 3 1 ?_)))));exact za6 (.inl I) results124 I ⟨I,I⟩
def gt (ls:List (List Int)):Nat:=(ls.map List.length).sum
theorem jI (ls:List (List Int))(k:Nat):gt (ls.take k)≤gt ls:=by
 have h:=zd9 (fun l=>(l.map List.length).sum) (zi7 k ls);simp only[zg3,List.sum_append] at h;unfold gt;omega
theorem m3 {ls:List (List Int)}{k:Nat}(h:k<ls.length):gt (ls.take (k+1))=gt (ls.take k)+ls[k].length:=by
 unfold gt;rw[tS h,zg3,List.sum_append];rfl
theorem nX (ls:List (List Int)):ls.flatten.length=gt ls:=List.length_flatten
theorem tE (E:World)(g:PH)(s:Own)(v:Value)(ls:List (List Int))(hv:ax g v ls)(hn:ls.length<1099511627776)(hl:gt ls<1099511627776) :
  Ctr Tryz.prog E 91 #[v] g s (fun r g' s'=>g=g'∧s'=rowA encInt 3 r ls.flatten::s):=by
 obtain ⟨rs,hrs,hall⟩:=hv;have hlen:=hall.length;obtain ⟨p,c,rfl⟩:=za2 hrs;refine za9 (args:=[.slice p rs.length c]) func91 I ntmps91 (bE I) ?_;refine rZ (aT I (rZ (aT I (sQ (sW I (lU (eN aY I) (lM I (tZ (bK ?_)))))))));refine oP (ι:=Nat) (fun k=>[(0,.slice p rs.length c),(3,vi (gt (ls.take k))),(9,.slice p rs.length c),(10,vi rs.length),(11,vi k)]) (fun _=>g) (fun _=>s) (fun k=>k≤rs.length) (fun k=>rs.length - k) 0
  sB rfl rfl (zf4 _) ?_
 rintro k hk;have hsl:=jI ls k;refine rZ (yL I (tZ (sQ ?_)));refine iP I (fun hlt=>?_) (fun hlt=>?_)
 ·have hkl:k<ls.length:=oM;have hkr:k<rs.length:=oM;have hR:=hall.get (gE hkl) (gE hkr);have hRl:=hR.len;have hb1:=hrs.based oM;have hs1:=m3 hkl;have hs2:=jI ls (k+1);refine kP (tN (sQ (bK (rZ (lU (iA aY aR I I hb1 oM sL) ?_)))));refine SL.q (eB bM I hrs.rd (gE hkr) I) dC ?_;refine aT I (sW I (lM I (lU (eN ah I) (yD I (aT I (sW I (yL I (tZ ?_))))))));refine iP I (fun hneg=>?_) (fun hneg=>?_)
  ·exfalso;omega
  ·refine kP (bN (tN (rG (yD I (lM I (nL ?_))))));exact gA (k+1) ⟨I,bP oM,I,I,I,trivial⟩ I I oM oM
 ·have hkk:ls.take k=ls:=tL oM;refine xI (tX (tX (bX (tN (sW I (lW (cL call124 I (B4 E g s (gt (ls.take k)) oM)) ?_))))));rintro nv _ _ ⟨rfl,rfl⟩;refine aT I (sQ (sW I (lU (eN aY I) (lM I (tZ (bK ?_))))));refine oP (ι:=Value×Nat) (fun i=>[(0,.slice p rs.length c),(6,i.1),(25,.slice p rs.length c),(26,vi rs.length),(27,vi i.2)]) (fun _=>g) (fun i=>rowA encInt 3 i.1 (ls.take i.2).flatten::s) (fun i=>i.2≤rs.length) (fun i=>rs.length - i.2) (nv,0)
   sB rfl rfl (zf4 _) ?_
  rintro ⟨cv,m⟩ hm;dsimp only at hm ⊢;refine rZ (yL I (tZ (sQ ?_)));refine iP I (fun hlt2=>?_) (fun hlt2=>?_)
  ·have hml:m<ls.length:=oM;have hmr:m<rs.length:=oM;have hR:=hall.get (gE hml) (gE hmr);have hb1:=hrs.based oM;have hs1:=m3 hml;have hs2:=jI ls (m+1);have hs3:=nX (ls.take m);refine kP (tN (sQ (bK (rZ (lU (iA aY aR I I hb1 oM sL) ?_)))));refine SL.q (eB bM I hrs.rd (gE hmr) I) dC ?_;refine aT I (rG (lM I (lM I (lW (aQ (e:=encInt) 0 sty25 I I I hR oM oM) ?_))));rintro cv' _ _ ⟨rfl,rfl⟩;refine lA I (nL (bN (tN (rG (yD I (lM I (nL ?_)))))));refine ST.to (fun w hw=>?_) (g':=g) (s':=rowA encInt 3 cv' (ls.take (m+1)).flatten::s) ?_
   ·rw[tS hml,List.flatten_append,List.flatten_singleton]; exact hw
   exact gA (cv',m+1) sB I I lN lN
  ·have hmm:ls.take m=ls:=tL oM;rw[hmm];refine xI (tX (tX (bX (tN (sW I (aT I (rE ?_)))))));exact za6 (.inl I) results91 I ⟨I,I⟩
def lbL (ls:List (List Int))(t:List Int):Nat:=(ls.filter fun x=>decide (ai x t<0)).length
theorem AZ {α:Type}{p:α→Bool}{l:List α}{i:Nat}(hi:i≤l.length)(h1:∀ k (h:k<l.length),k<i→p l[k]=true)(h2:∀ k (h:k<l.length),i≤k→p l[k]=false):(l.filter p).length=i:=by
 rw[← zi7 i l,zh4,ze3];have f1:(l.take i).filter p=l.take i:=List.filter_eq_self.2 fun x hx=>by
  obtain ⟨k,hk,rfl⟩:=zc4 hx;rw[ze2] at hk;rw[List.getElem_take];exact h1 k oM oM
 have f2:(l.drop i).filter p=[]:=List.filter_eq_nil_iff.2 fun x hx=>by
  obtain ⟨k,hk,rfl⟩:=zc4 hx;rw[ze7] at hk;rw[List.getElem_drop,h2 (i+k) oM oM];simp
 rw[f1,f2];simp;omega
theorem wm (E:World)(g:PH)(s:Own)(v u:Value)(ls:List (List Int))(t:List Int)(hv:ax g v ls)(hu:bC g u t)(hl:ls.length<1099511627776)(hll:∀ x∈ls,x.length<1099511627776)
  (hs:∀ i j (hi:i<ls.length) (hj:j<ls.length),i<j→ai ls[j] t<0→ai ls[i] t<0) :
  Ctr Tryz.prog E 92 #[v,u,.func (.func 89) #[] #[]] g s (fun r g' s'=>(∃ b,r = .tuple #[vi (lbL ls t),vb b])∧g=g'∧s=s'):=by
 obtain ⟨rs,hrs,hall⟩:=hv;have hlen:=hall.length;obtain ⟨p,c,rfl⟩:=za2 hrs;refine za9 (args:=[.slice p rs.length c,u,.func (.func 89) #[] #[]]) func92 I ntmps92 (bE I) ?_;refine rZ (lA I (aT I (sW I (lU (eN aY I) (aT I (sW I (lA I (aT I (sQ (bK ?_))))))))));refine oP (ι:=Nat×Nat) (fun q=>[(0,.slice p rs.length c),(1,u),(2,.func (.func 89) #[] #[]),(8,vi rs.length),(9,vi q.1),(10,vi q.2)]) (fun _=>g) (fun _=>s)
  (fun q=>q.1≤q.2∧q.2≤ls.length∧(∀ k (h:k<ls.length),k<q.1→ai ls[k] t<0)∧∀ k (h:k<ls.length),q.2≤k→¬ ai ls[k] t<0) (fun q=>q.2 - q.1) (0,ls.length)
  ⟨rfl,rfl,rfl,rfl,rfl,bP oM,trivial⟩ rfl rfl ⟨zf4 _,lR _,fun k _ h=>absurd h oM,fun k h1 h2=>absurd h1 (by dsimp only at h2; omega)⟩ ?_
 rintro ⟨i,j⟩ ⟨hij,hj,hlo,hhi⟩;dsimp only at hij hj hlo hhi ⊢;refine sQ (sW I (lM I (yL I (tZ ?_))));refine iP I (fun hlt=>?_) (fun hlt=>?_)
 ·have hb1:=hrs.based oM;have hmid:((i:Int)+(j:Int)) / 2=(((i+j) / 2:Nat):Int):=oM;have hml:(i+j) / 2<ls.length:=oM;have hmr:(i+j) / 2<rs.length:=oM;have hmx:rs[((((i+j) / 2:Nat):Int)).toNat]?=some rs[(i+j) / 2]:=gE hmr;have hR:=hall.get (gE hml) (gE hmr);have hxl:=hll _ (gM hml);refine kP (tN (bK (sW I (lM I (yD I (lU (zd6 uT3 jt I) (lU (SU.shr I I dC) (lU (SU.eq (zd6 jt uT3 I) (zd9 vi ((j8 _ oM oM).trans hmid))) (aT I (sW I (lM I (lM I (lU (iA aY aR I I hb1 oM sL) (lK (eB bM I hrs.rd hmx I) (lM I (lW (SO.callV I I (cX.mk (args:=[_,_]) (cap:=[]) call89 (jS E g _ _ _ ls[(i+j) / 2] t hR hu hxl))) ?_))))))))))))))));rintro _ _ _ ⟨rfl,rfl,rfl⟩;refine yL I (tZ ?_);refine iP I (fun hc=>?_) (fun hc=>?_)
  ·refine rG (lM I (yD I (lA I (nL (bN ?_)))));refine gA ((i+j) / 2+1,j) sB I I ⟨lN,hj,fun k hk h=>?_,hhi⟩ lN;dsimp only at h
   rcases Nat.eq_or_lt_of_le (show k≤(i+j) / 2 by omega) with rfl | h'
   ·exact hc
   ·exact hs k ((i+j) / 2) hk hml h' hc
  ·refine rG (lM I (lA I (nL (bN ?_))));refine gA (i,(i+j) / 2) sB I I ⟨lN,lN,hlo,fun k hk h=>?_⟩ lN;dsimp only at h
   rcases Nat.eq_or_lt_of_le (show (i+j) / 2≤k by omega) with h' | h'
   ·subst h'; exact hc
   ·exact fun hx=>hc (hs ((i+j) / 2) k hml hk h' hx)
 ·have hie:i=j:=oM;subst hie;have hlb:lbL ls t=i:=AZ hj (fun k h h'=>by simpa using hlo k h h') (fun k h h'=>by simpa using hhi k h h');have hx0:=fun h=>hrs.based h;have hx:(i:Int)<(rs.length:Int)→∃ r,rs[((i:Nat):Int).toNat]?=some r∧∃ x,a7 g x r∧x.length<1099511627776:=fun h=>by
   have h2:i<ls.length:=oM;have h3:i<rs.length:=oM;exact⟨rs[i],gE h3,ls[i],hall.get (gE h2) (gE h3),hll _ (gM h2)⟩
  by_cases hin:(i:Int)<(rs.length:Int)
  ·obtain ⟨r,hr,x,hxr,hxl⟩:=hx hin;have hd:decide ((i:Int)<(rs.length:Int))=true:=zf6 hin;refine xI (tX (tX (bX (tN (sW I (lM I (lM I (lU (SU.eq (lS I I) (zd9 vb hd)) (lM I (yC I (yC I (yC I (lY I I I (iA aY aR I I (hx0 oM) oM sL) (SL.gq (gT I I I dC) (eB bM I hrs.rd hr I) dC (yC I (zd8 (gT I I I dC) (SO.callV I I (cX.mk (args:=[_,_]) (cap:=[]) call89 (jS E g _ _ _ x t hxr hu hxl))) dC ?_))))))))))))))));rintro _ _ _ ⟨rfl,rfl,rfl⟩;refine lY I I I (eQ I I) (yP I (lA I (aT I (rE ?_))));exact ST.ret2 (.inl I) results92 I I ⟨⟨_,by rw[hlb]⟩,I,I⟩
  ·have hd:decide ((i:Int)<(rs.length:Int))=false:=zf5 hin;refine xI (tX (tX (bX (tN (sW I (lM I (lM I (lU (SU.eq (lS I I) (zd9 vb hd)) (lM I (yA I (yA I (yA I (yA I (yA I (yA I (yA I (yA I (yF I (lA I (aT I (rE ?_)))))))))))))))))))));exact ST.ret2 (.inl I) results92 I I ⟨⟨_,by rw[hlb]⟩,I,I⟩
theorem bA (a b:Int):(a<b∧ld a b = -1)∨(a=b∧ld a b=0)∨(b<a∧ld a b=1):=by
 unfold ld;by_cases h:a<b
 ·exact .inl ⟨h,zf8 h⟩
 ·by_cases h2:a>b
  ·exact .inr (.inr ⟨h2,by rw[zf7 h,zf8 h2]⟩)
  ·exact .inr (.inl ⟨oM,by rw[zf7 h,zf7 h2]⟩)
theorem kB:∀ a b:List Int,fy b a = - fy a b
 | [],[]=>rfl
 | [],_::_=>rfl
 | _::_,[]=>rfl
 | x::a,y::b=>by
  have ih:=kB a b;simp only[fy]
  rcases bA x y with ⟨h,e⟩ | ⟨h,e⟩ | ⟨h,e⟩ <;> rcases bA y x with ⟨h',e'⟩ | ⟨h',e'⟩ | ⟨h',e'⟩ <;> simp[e,e'] <;> omega
theorem xw:∀ a b:List Int,fy a b=0↔a=b
 | [],[]=>by simp[fy]
 | [],_::_=>by simp[fy]
 | _::_,[]=>by simp[fy]
 | x::a,y::b=>by
  have ih:=xw a b;simp only[fy]
  rcases bA x y with ⟨h,e⟩ | ⟨h,e⟩ | ⟨h,e⟩
  ·simp[e]; omega
  ·subst h; simp[e,ih]
  ·simp[e]; omega
theorem oL:∀ a b c:List Int,fy a b<0→fy b c<0→fy a c<0
 | [],[],_,h,_=>by simp[fy] at h
 | [],_::_,[],_,h=>by simp[fy] at h
 | [],_::_,_::_,_,_=>by simp[fy]
 | _::_,[],_,h,_=>by simp[fy] at h
 | _::_,_::_,[],_,h=>by simp[fy] at h
 | x::a,y::b,z::c,h1,h2=>by
  have ih:=oL a b c;simp only[fy] at h1 h2 ⊢
  rcases bA x y with ⟨h,e⟩ | ⟨h,e⟩ | ⟨h,e⟩ <;> rcases bA y z with ⟨h',e'⟩ | ⟨h',e'⟩ | ⟨h',e'⟩ <;> rcases bA x z with ⟨h'',e''⟩ | ⟨h'',e''⟩ | ⟨h'',e''⟩ <;> simp[e,e',e''] at h1 h2 ⊢ <;> first | omega | exact ih h1 h2
theorem gK (a b:List Int):ai b a = - ai a b:=by
 have h1:=kB a b;unfold ai
 rcases bA a.length b.length with ⟨h,e⟩ | ⟨h,e⟩ | ⟨h,e⟩ <;> rcases bA b.length a.length with ⟨h',e'⟩ | ⟨h',e'⟩ | ⟨h',e'⟩ <;> simp[e,e'] <;> omega
theorem nn (a b:List Int):ai a b=0↔a=b:=by
 have h1:=xw a b;unfold ai
 rcases bA a.length b.length with ⟨h,e⟩ | ⟨h,e⟩ | ⟨h,e⟩
 ·simp[e]; intro h2; rw[h2] at h; omega
 ·simp[e,h1]
 ·simp[e]; intro h2; rw[h2] at h; omega
theorem dQ (a b c:List Int)(h1:ai a b<0)(h2:ai b c<0):ai a c<0:=by
 have ih:=oL a b c;unfold ai at *
 rcases bA a.length b.length with ⟨h,e⟩ | ⟨h,e⟩ | ⟨h,e⟩ <;> rcases bA b.length c.length with ⟨h',e'⟩ | ⟨h',e'⟩ | ⟨h',e'⟩ <;> rcases bA a.length c.length with ⟨h'',e''⟩ | ⟨h'',e''⟩ | ⟨h'',e''⟩ <;> simp[e,e',e''] at h1 h2 ⊢ <;> first | omega | exact ih h1 h2
theorem ce (a:List Int):ai a a=0:=(nn a a).2 rfl
theorem dg (a b:List Int):ai a b<0∨a=b∨ai b a<0:=by
 have h1:=gK a b
 rcases Int.lt_trichotomy (ai a b) 0 with h | h | h
 ·exact .inl h
 ·exact .inr (.inl ((nn a b).1 h))
 ·exact .inr (.inr oM)
theorem fz (a b c:List Int)(h1:¬ ai a b<0)(h2:¬ ai b c<0):¬ ai a c<0:=by
 intro h3
 rcases dg a b with h | h | h
 ·exact h1 h
 ·subst h; exact h2 h3
 ·exact h2 (dQ b a c h h3)
def pM (l:List (List Int)):Prop:=l.Pairwise fun a b=>¬ ai b a<0
def Bg (x:List Int):List (List Int)→List (List Int)
 | []=>[x]
 | y::r=>if ai y x<0 then y::Bg x r else x::y::r
def my:List (List Int)→List (List Int)
 | []=>[]
 | x::r=>Bg x (my r)
theorem mL (x:List Int):∀ l,(Bg x l).Perm (x::l)
 | []=>.refl _
 | y::r=>by
  unfold Bg;split
  ·exact ((mL x r).cons y).trans (.swap x y r)
  ·exact .refl _
theorem gl:∀ l,(my l).Perm l
 | []=>.refl _
 | x::r=>(mL x (my r)).trans ((gl r).cons x)
theorem uG (x:List Int):∀ {l},pM l→pM (Bg x l)
 | [],_=>List.pairwise_singleton _ _
 | y::r,h=>by
  obtain ⟨h1,h2⟩:=zj6.1 h;unfold Bg;split
  ·rename_i hy;refine zj6.2 ⟨fun z hz=>?_,uG x h2⟩
   rcases ze8.1 ((mL x r).subset hz) with rfl | hz
   ·intro h3; have:=dQ y z y hy h3; rw[ce] at this; omega
   ·exact h1 z hz
  ·rename_i hy;refine zj6.2 ⟨fun z hz=>?_,h⟩
   rcases ze8.1 hz with rfl | hz
   ·exact hy
   ·exact fz z y x (h1 z hz) hy
theorem iH:∀ l,pM (my l)
 | []=>List.Pairwise.nil
 | x::r=>uG x (iH r)
theorem m5:∀ {l m:List (List Int)},pM l→pM m→l.Perm m→l=m
 | [],m,_,_,h=>(List.nil_perm.1 h).symm
 | x::l,[],_,_,h=>by have:=h.length_eq; simp at this
 | x::l,y::m,hl,hm,h=>by
  obtain ⟨h1,h2⟩:=zj6.1 hl;obtain ⟨h3,h4⟩:=zj6.1 hm;have hxy:x=y:=by
   have hx:x∈y::m:=h.subset (by simp);have hy:y∈x::l:=h.symm.subset (by simp)
   rcases ze8.1 hx with e | hx
   ·exact e
   ·rcases ze8.1 hy with e | hy
    ·exact e.symm
    ·rcases dg x y with h5 | h5 | h5
     ·exact absurd h5 (h3 x hx)
     ·exact h5
     ·exact absurd h5 (h1 y hy)
  subst hxy;rw[m5 h2 h4 (h.cons_inv)]
open Go Go.Sy Go.Pl Go.Proofs Go.Shelf Go.Sort
def Tryz.sortF_ren:Ren :=
 {
  f:=fun x =>
   match x with
   | 6=>88
   | 15=>120
   | 14=>121
   | 28=>145
   | 29=>146
   | 20=>147
   | 21=>148
   | 22=>149
   | 23=>150
   | 24=>151
   | 25=>152
   | 26=>153
   | 27=>154
   | 46=>171
   | 47=>167
   | 48=>168
   | 49=>172
   | 50=>173
   | 57=>186
   | n=>n,
  t:=fun x =>
   match x with
   | 22=>22
   | 24=>25
   | 25=>129
   | 3=>3
   | 39=>113
   | 0=>0
   | 53=>142
   | 55=>144
   | 4=>4
   | 46=>166
   | 45=>165
   | 50=>91
   | 5=>5
   | 9=>9
   | 66=>183
   | 70=>187
   | 76=>201
   | 77=>202
   | n=>n,
  g:=fun x =>
   have n:=x;
   n }
theorem Tryz.sortF:SlLaysF.n6 Tryz.prog Tryz.sortF_ren :=
  {
  mixed:=Eq.refl true,
  f6 :=
   Exists.intro "slices.SortFunc[[][]int,[]int]"
    ⟨zg1 (id (Eq.refl true)),
     zb6 func88
      (zd9 some
       kR)⟩,
  f14 :=
   Exists.intro "slices.pdqsortCmpFunc[[]int]"
    ⟨zg1 (id (Eq.refl true)),
     zb6 func121
      (zd9 some
       kR)⟩,
  f15:=zb6 func120 (zd9 some kR),
  f20 :=
   Exists.intro "slices.insertionSortCmpFunc[[]int]"
    ⟨zg1 (id (Eq.refl true)),
     zb6 func147
      (zd9 some
       kR)⟩,
  f21 :=
   Exists.intro "slices.heapSortCmpFunc[[]int]"
    ⟨zg1 (id (Eq.refl true)),
     zb6 func148
      (zd9 some
       kR)⟩,
  f22 :=
   Exists.intro "slices.breakPatternsCmpFunc[[]int]"
    ⟨zg1 (id (Eq.refl true)),
     zb6 func149
      (zd9 some
       kR)⟩,
  f23 :=
   Exists.intro "slices.choosePivotCmpFunc[[]int]"
    ⟨zg1 (id (Eq.refl true)),
     zb6 func150
      (zd9 some
       kR)⟩,
  f24 :=
   Exists.intro "slices.reverseRangeCmpFunc[[]int]"
    ⟨zg1 (id (Eq.refl true)),
     zb6 func151
      (zd9 some
       kR)⟩,
  f25 :=
   Exists.intro "slices.partialInsertionSortCmpFunc[[]int]"
    ⟨zg1 (id (Eq.refl true)),
     zb6 func152
      (zd9 some
       kR)⟩,
  f26 :=
   Exists.intro "slices.partitionEqualCmpFunc[[]int]"
    ⟨zg1 (id (Eq.refl true)),
     zb6 func153
      (zd9 some
       kR)⟩,
  f27 :=
   Exists.intro "slices.partitionCmpFunc[[]int]"
    ⟨zg1 (id (Eq.refl true)),
     zb6 func154
      (zd9 some
       kR)⟩,
  f28:=zb6 func145 (zd9 some kR),
  f29:=zb6 func146 (zd9 some kR),
  f46 :=
   Exists.intro "slices.siftDownCmpFunc[[]int]"
    ⟨zg1 (id (Eq.refl true)),
     zb6 func171
      (zd9 some
       kR)⟩,
  f47:=zb6 func167 (zd9 some kR),
  f48:=zb6 func168 (zd9 some kR),
  f49 :=
   Exists.intro "slices.medianAdjacentCmpFunc[[]int]"
    ⟨zg1 (id (Eq.refl true)),
     zb6 func172
      (zd9 some
       kR)⟩,
  f50 :=
   Exists.intro "slices.medianCmpFunc[[]int]"
    ⟨zg1 (id (Eq.refl true)),
     zb6 func173
      (zd9 some
       kR)⟩,
  f57 :=
   Exists.intro "slices.order2CmpFunc[[]int]"
    ⟨zg1 (id (Eq.refl true)),
     zb6 func186
      (zd9 some
       kR)⟩,
  t0:=underlying0,a0:=isAgg0,z0:=sizeOf0,v0:=zeroValue0,t3:=uT3,
  a3:=iT3,z3:=zT3,v3:=zk7,t4:=underlying4,a4:=isAgg4,
  z4:=sizeOf4,v4:=zeroValue4,t5:=underlying5,a5:=isAgg5,z5:=sizeOf5,
  v5:=zeroValue5,t9:=underlying9,a9:=isAgg9,z9:=sizeOf9,v9:=zeroValue9,
  t22:=aY,a22:=lD,z22:=kO,v22:=zeroValue22,a24:=bM,
  z24:=aR,t25:=underlying129,a25:=isAgg129,z25:=sizeOf129,
  v25:=zeroValue129,t39:=jt,a39:=isAgg113,z39:=sizeOf113,
  v39:=zeroValue113,t45:=underlying165,a45:=isAgg165,z45:=sizeOf165,
  v45:=zeroValue165,t46:=underlying166,a46:=isAgg166,z46:=sizeOf166,
  v46:=zeroValue166,t50:=underlying91,a50:=isAgg91,z50:=sizeOf91,
  v50:=zeroValue91,t53:=underlying142,a53:=isAgg142,z53:=sizeOf142,
  v53:=zeroValue142,t55:=underlying144,a55:=isAgg144,z55:=sizeOf144,
  v55:=zeroValue144,t66:=underlying183,a66:=isAgg183,z66:=sizeOf183,
  v66:=zeroValue183,t70:=underlying187,a70:=isAgg187,z70:=sizeOf187,
  v70:=zeroValue187,t76:=underlying201,a76:=isAgg201,z76:=sizeOf201,
  v76:=zeroValue201,t77:=underlying202,a77:=isAgg202,z77:=sizeOf202,
  v77:=zeroValue202 }
structure LV (g:PH) where
 sv:Sv
 l:List Int
 h:a7 g l sv
 len:l.length<1099511627776
def LV.val {g:PH}(x:LV g):Value:=.slice x.sv.p x.sv.n x.sv.c
def jR (g:PH):Enc (LV g) 1:=⟨fun x=>[x.val],fun _=>rfl,fun _ u hu=>by simp at hu; subst hu; rfl,by decide⟩
instance (g:PH):Inhabited (LV g):=⟨⟨⟨none,0,0⟩,[],zb8 g 1,by decide⟩⟩
theorem xk {g:PH}(l:List (LV g)):l.flatMap (jR g).enc=l.map LV.val:=by
 induction l with
 | nil=>rfl
 | cons a t ih=>simp only[zh3,zg2,ih]; rfl
def wz (W:World):PH:=fun b=>W.heap[b]?
theorem CP (W:World):At W (wz W) [] W:=⟨rfl,⟨rfl,Nat.le_refl _⟩,rfl,fun _ _ h=>h,by simp,by simp,List.Pairwise.nil⟩
theorem AB {W w':World}(h:At W (wz W) [] w'):∃ q os',w'=grow (W.drewN q) os':=by
 refine⟨w'.drawn - W.drawn,w'.heap.extract W.heap.size,?_⟩;have hpre:∀ k,k<W.heap.size→w'.heap[k]?=W.heap[k]?:=fun k hk=>by
  rw[h.known k W.heap[k] (by simp[wz,hk]),Array.getElem?_eq_getElem hk]
 have hsz:W.heap.size≤w'.heap.size:=by
  rcases Nat.eq_zero_or_pos W.heap.size with h0 | h0
  ·omega
  ·have:=hpre (W.heap.size - 1) oM;rw[Array.getElem?_eq_getElem (xs:=W.heap) oM] at this;have:=(Array.getElem?_eq_some_iff.1 this).1;omega
 have hheap:w'.heap=W.heap++w'.heap.extract W.heap.size:=by
  apply Array.ext_getElem?;intro k;rw[Array.getElem?_append];split
  ·exact hpre k (by assumption)
  ·rename_i hk;rw[Array.getElem?_extract];by_cases hk2:k<w'.heap.size
   ·rw[zf8 oM]; congr 1; omega
   ·rw[zf7 oM,Array.getElem?_eq_none oM]
 obtain ⟨hp,tp,dr,osx,ou⟩:=w';have h1:=h.os; have h2:=h.tape; have h3:=h.output;simp only at h1 h2 h3 hheap;simp only[grow,World.drewN];obtain ⟨h2a,h2b⟩:=h2;subst h1; subst h2a; subst h3;congr 1;omega
theorem B7 {E:World}{g:PH}{s:Own}{l:List (LV g)}{w:World}{b off:Nat}(hw:At E g s w)(hb:g b=none):CmpLays1 Tryz.prog 89 #[] (LV.val (g:=g)) (fun x y=>ai x.l y.l) b off l.toArray.size w:=by
 intro m os dk hs x y;have hle:Le g (wz (sortWorld LV.val w b off m dk os)):=fun k o hk=>by
  have h1:=hw.known k o hk;have hlt:=hw.lt hk;have hne:b≠k:=fun e=>by rw[e] at hb; rw[hb] at hk; cases hk
  show (grow (putRow LV.val (Sort.ahead w m) b off dk) os).heap[k]?=some o;rw[heap_grow_old _ _ (by simpa using hlt)];simp[putRow,mapBlock,Sort.ahead,Array.getElem?_modify,hne,h1]
 have h2:=jS (sortWorld LV.val w b off m dk os) (wz _) [] x.val y.val x.l y.l (za3 x.h hle) (za3 y.h hle) x.len _ (CP _);refine h2.mono ?_;rintro e w' ⟨v',g',s',rfl,hat,rfl,rfl,rfl⟩;exact⟨I,AB hat⟩
theorem sX (E:World)(g:PH)(s:Own)(v:Value)(l:List (LV g))(h0:0<l.length)(hl:l.length<1099511627776) :
  Ctr Tryz.prog E 88 #[v,.func (.func 89) #[] #[]] g (rowA (jR g) 25 v l::s) (fun _ g' s'=>g=g'∧∃ l':List (LV g),l'.Perm l∧l'.map LV.l=my (l.map LV.l)∧s'=rowA (jR g) 25 v l'::s):=by
 intro w hw;obtain ⟨h1,h2⟩:=eK (i:=0) hw rfl
 rcases h2 with ⟨p,rfl,hn⟩ | ⟨b,cap,cur,rfl,hb,hle,hcm,hcs,ht⟩
 ·omega
 ·have hfr:=hw.fresh _ (by simp:rowA (jR g) 25 (.slice (some ⟨b,0,none⟩) l.length (cap+1)) l∈_) b rfl;have hblt:=(Array.getElem?_eq_some_iff.1 hb).1;have ht':cur.toList.take l.length=l.map LV.val:=by rw[← xk]; simpa using ht
  have hH:Holds LV.val w b 0 l.toArray:=by
   intro j hj;have hj':j<l.length:=by simpa using hj
   refine⟨?_,by simp[World.frozen?,hb]⟩;have h1:(cur.toList.take l.length)[j]?=(l.map LV.val)[j]?:=by rw[ht']
   rw[List.getElem?_take_of_lt hj'] at h1;simp only[World.cell?,hb,Nat.zero_add];simp only[Option.isSome_none,Bool.false_eq_true,if_false];rw[← Array.getElem?_toList,h1];simp[hj']
  have hswo:SWO (ltOf fun x y:LV g=>ai x.l y.l):=⟨fun x=>by simp[ltOf,ce],fun x y z h1 h2=>by simp[ltOf] at *; exact dQ _ _ _ h1 h2,fun x y z h1 h2=>by
   simp only[ltOf,decide_eq_false_iff_not] at *; exact fz _ _ _ h1 h2⟩
  refine (Any.slices_SortFunc Tryz.sortF LV.val (fun _=>I) (fun x y:LV g=>ai x.l y.l) hswo 89 #[] b 0 (cap+1) l.toArray w call89 (B7 hw hfr.1) hH hblt (by simp; omega)).mono ?_;rintro e w' ⟨rfl,d',n,os,hp,hsd,rfl⟩;obtain ⟨d'⟩:=d';have hdl:d'.length=l.length:=by have:=hp.1; simpa using this
  have hperm:d'.Perm l:=by
   have h5:=hp.2.2;simp only[List.size_toArray,List.extract_toArray] at h5;simpa [List.extract_eq_take_drop,hdl,tL (Nat.le_of_eq hdl)] using h5
  have hsrt:pM (d'.map LV.l):=by
   rw[pM,zj7,zc6];intro i j hi hj hij;have h5:=hsd i j (zf4 _) hij (by simp; omega);simp only[ltOf,decide_eq_false_iff_not] at h5;simpa [hi,hj] using h5
  have huni:d'.map LV.l=my (l.map LV.l):=m5 hsrt (iH _) ((hperm.map _).trans (gl _).symm);refine⟨_,g,rowA (jR g) 25 (.slice (some ⟨b,0,none⟩) l.length (cap+1)) d'::s,I,?_,I,d',hperm,huni,I⟩;have h5:(sortWorld LV.val w b 0 n d'.toArray os).heap[b]?=some (.cells (putCells LV.val 0 d'.toArray cur) 25 (0,0)):=by
   show (grow (putRow LV.val (Sort.ahead w n) b 0 d'.toArray) os).heap[b]?=_;rw[heap_grow_old _ _ (by simpa using hblt)];simp[putRow,mapBlock,Sort.ahead,Array.getElem?_modify,hb,onCells]
  have h6:=hw.turn (i:=0) (w':=sortWorld LV.val w b 0 n d'.toArray os) (e':=rowA (jR g) 25 (.slice (some ⟨b,0,none⟩) l.length (cap+1)) d') rfl rfl ⟨rfl,Nat.le_add_right _ _⟩ rfl (by simp[sortWorld,grow,putRow,mapBlock,Sort.ahead]) (fun k hk hne=>by
    have hne':b≠k:=fun e=>hne (by rw[e]; rfl);show (grow (putRow LV.val (Sort.ahead w n) b 0 d'.toArray) os).heap[k]?=_;rw[heap_grow_old _ _ (by simpa using hk)];simp[putRow,mapBlock,Sort.ahead,Array.getElem?_modify,hne']) (by
    have:=cW (w:=sortWorld LV.val w b 0 n d'.toArray os) (T:=25) (k:=1) (n:=d'.length) (b:=b) (cap:=cap) (xs:=d'.flatMap (jR g).enc) (by rw[(jR g).length]) h5 oM hcm (by simp[putCells]; simpa using hcs) (by
     rw[xk,Nat.mul_one];apply List.ext_getElem?;intro j;by_cases hj:j<d'.length
     ·rw[List.getElem?_take_of_lt hj,Array.getElem?_toList];simp[putCells,hj,show j<cur.size by omega]
     ·rw[List.getElem?_take_eq_none oM,List.getElem?_eq_none (by simp; omega)])
    rw[show rowA (jR g) 25 (.slice (some ⟨b,0,none⟩) l.length (cap+1)) d'=row 25 1 (.slice (some ⟨b,0,none⟩) d'.length (cap+1)) d'.length (d'.flatMap (jR g).enc) by simp only[rowA,hdl]];exact this) (fun b' hb'=>by
    simp only[rowA,row,gW,zg5] at hb';subst hb';exact⟨(Array.getElem?_eq_some_iff.1 h5).1,.inl I⟩)
  exact h6
def Tryz.keysA_ren:Ren :=
 {
  f:=fun x =>
   match x with
   | 7=>98
   | 10=>126
   | n=>n,
  t:=fun x =>
   match x with
   | 23=>124
   | 26=>3
   | 3=>4
   | 28=>137
   | 0=>0
   | 27=>136
   | 33=>64
   | 4=>4
   | n=>n,
  g:=fun x =>
   have n:=x;
   n }
theorem Tryz.keysA:SlLaysZI.n7 Tryz.prog Tryz.keysA_ren :=
  {
  mixed:=Eq.refl true,
  f7 :=
   Exists.intro "maps.Keys[map[int]bool,int,bool]"
    ⟨zg1 (id (Eq.refl true)),
     zb6 func98
      (zd9 some
       kR)⟩,
  f10 :=
   Exists.intro "maps.Keys[map[int]bool,int,bool]$1"
    ⟨zg1 (id (Eq.refl true)),
     zb6 func126
      (zd9 some
       kR)⟩,
  t0:=underlying0,a0:=isAgg0,z0:=sizeOf0,v0:=zeroValue0,t4:=underlying4,
  a4:=isAgg4,z4:=sizeOf4,v4:=zeroValue4,t23:=underlying124,a23:=isAgg124,
  z23:=sizeOf124,v23:=zeroValue124,t26:=uT3,a26:=iT3,z26:=zT3,
  v26:=zk7,t27:=underlying136,a27:=isAgg136,z27:=sizeOf136,
  v27:=zeroValue136,t28:=underlying137,a28:=isAgg137,z28:=sizeOf137,
  v28:=zeroValue137,t33:=underlying64,a33:=isAgg64,z33:=sizeOf64,
  v33:=zeroValue64 }
def Tryz.sortedA_ren:Ren :=
 {
  f:=fun x =>
   match x with
   | 6=>97
   | 8=>125
   | 9=>85
   | 11=>155
   | 13=>120
   | 12=>119
   | 23=>145
   | 24=>146
   | 14=>136
   | 15=>137
   | 16=>138
   | 17=>139
   | 18=>140
   | 19=>141
   | 20=>142
   | 21=>143
   | 22=>144
   | 25=>166
   | 26=>167
   | 27=>168
   | 28=>169
   | 29=>170
   | 30=>134
   | 31=>185
   | n=>n,
  t:=fun x =>
   match x with
   | 26=>3
   | 28=>137
   | 24=>25
   | 0=>0
   | 3=>3
   | 37=>113
   | 48=>142
   | 50=>144
   | 4=>4
   | 40=>166
   | 39=>165
   | 45=>91
   | 5=>5
   | 9=>9
   | 51=>183
   | 55=>187
   | 57=>201
   | 58=>202
   | 33=>64
   | n=>n,
  g:=fun x =>
   have n:=x;
   n }
theorem Tryz.sortedA:SlLaysZI.n6 Tryz.prog Tryz.sortedA_ren :=
  {
  mixed:=Eq.refl true,
  f6 :=
   Exists.intro "slices.Sorted[int]"
    ⟨zg1 (id (Eq.refl true)),
     zb6 func97
      (zd9 some
       kR)⟩,
  f8 :=
   Exists.intro "slices.Collect[int]"
    ⟨zg1 (id (Eq.refl true)),
     zb6 func125
      (zd9 some
       kR)⟩,
  f11 :=
   Exists.intro "slices.AppendSeq[[]int,int]"
    ⟨zg1 (id (Eq.refl true)),
     zb6 func155
      (zd9 some
       kR)⟩,
  t0:=underlying0,a0:=isAgg0,z0:=sizeOf0,v0:=zeroValue0,t24:=ah,
  a24:=bM,z24:=aR,v24:=zeroValue25,t26:=uT3,a26:=iT3,
  z26:=zT3,v26:=zk7,t28:=underlying137,a28:=isAgg137,z28:=sizeOf137,
  v28:=zeroValue137,i26:=Eq.refl (some (some (Value.int IntKind.i64 0),1,8)) }
theorem Tryz.sortsA (m:Nat):AnyZI.SortsIn Tryz.prog Tryz.sortedA_ren Fence.wide m :=
 -- 97
 ⟨fun blk off cap ss W hH hblk hsz=>callsIn_wide.2 (Any.slices_Sort_int lays189 blk off cap ss W hH hblk hsz),
  fun p cap W=>callsIn_wide.2 (Any.slices_Sort_int_none lays189 p cap W)⟩
theorem yh (E:World)(g:PH)(s:Own)(m:Nat) :
  Ctr Tryz.prog E 98 #[.map (some m)] g s (fun r g' s'=>s=s'∧Le g g'∧∃ b,r = .func (.func 126) #[] #[pp b 0]∧g' b=some (.cells #[.map (some m)] 124 (0,0))):=by
 refine za9 (args:=[.map (some m)]) func98 I ntmps98 (bE I) ?_;refine rZ (bW (bO I) fun b1=>?_);refine aT I (rZ (lU (SU.mkFunc I) (aT I (rE (ST.freeze fun g1 h1 hb=>?_)))));exact za6 (.inl I) results98 I ⟨I,h1,_,I,hb⟩
def iS (x:Int):Prop:=-9223372036854775808≤x∧x≤9223372036854775807
theorem AM {x:Int}(h:iS x):(Lit.int .i64 x).wf=true:=by
 unfold iS at h;simp[Lit.wf,IntKind.min,IntKind.max,IntKind.bits,IntKind.signed];omega
theorem sO (E:World)(hE:E.drawn=0)(g:PH)(s:Own)(b m:Nat)(l:List (Int×Value))(hb:g b=some (.cells #[.map (some m)] 124 (0,0)))(hm:Mp g m l)(hl:l.length<1099511627776)(hw:∀ p∈l,iS p.1) :
  Ctr Tryz.prog E 97 #[.func (.func 126) #[] #[pp b 0]] g s (fun r g' s'=>s=s'∧Le g g'∧bC g' r (dN (l.map Prod.fst))):=by
 intro w hat;obtain ⟨es,clk,hes,hmi,hst⟩:=hm;have hesl:es.toList.length=l.length:=by have:=zd9 List.length hmi; simpa using this
 have hesz:es.size=l.length:=by simpa using hesl
 have hreads:∀ x∈es.toList,∃ y,WideElems.rd (H:=Unit) Tryz.prog 3 (fun _=>some (.lit (.bool true),[])) x=some y∧∃ p∈l,y.1 = .int .i64 p.1:=fun x hx=>by
  have h1:lE x∈es.toList.map lE:=ze9.2 ⟨x,hx,rfl⟩;rw[hmi] at h1;obtain ⟨p,hp,he⟩:=ze9.1 h1;have hk:x.key=vi p.1:=(zd9 Prod.fst he).symm;have hkey:keyOf Tryz.prog 3 x.key=some (.int .i64 p.1):=by
   rw[hk]; exact Maps.keyOf_int_mk uT3 (AM (hw p hp))
  exact⟨(.int .i64 p.1,.lit (.bool true)),by simp[WideElems.rd,hkey],p,hp,I⟩
 have hown:w.ownsMap Tryz.prog 3 (fun _=>some (.lit (.bool true),[])) m l.length (.map ((es.toList.map (WideElems.rg (H:=Unit) Tryz.prog 3 (fun _=>some (.lit (.bool true),[])))).foldr DataW.insert [])) :=
  ⟨es,clk,hat.known _ _ hes,⟨by rw[hesz]; unfold maxLen; omega,hst,fun x hx=>(hreads x hx).imp fun _ h=>h.1⟩,oM,rfl⟩
 have hkeys:(l.map Prod.fst).Perm (intKeys (.map ((es.toList.map (WideElems.rg (H:=Unit) Tryz.prog 3 (fun _=>some (.lit (.bool true),[])))).foldr DataW.insert []))):=by
  have h1:(es.toList.map (WideElems.rg (H:=Unit) Tryz.prog 3 (fun _=>some (.lit (.bool true),[])))).map (fun p=>Go.intOf p.1)=l.map Prod.fst:=by
   have h2:l.map Prod.fst=(es.toList.map lE).map (fun q=>(unV q).1):=by rw[hmi,zi3]; rfl
   rw[h2,zi3,zi3];refine zc5 fun x hx=>?_;have h3:lE x∈es.toList.map lE:=ze9.2 ⟨x,hx,rfl⟩;rw[hmi] at h3;obtain ⟨p,hp,he⟩:=ze9.1 h3;have hk:x.key=vi p.1:=(zd9 Prod.fst he).symm;have hkey:keyOf Tryz.prog 3 x.key=some (.int .i64 p.1):=by
    rw[hk]; exact Maps.keyOf_int_mk uT3 (AM (hw p hp))
   simp[WideElems.rg,WideElems.rd,hkey,hk ▸ hkey,Go.intOf,lE,unV,hk]
  rw[← h1];exact ((WideShapes.sorted_perm _).map _).symm
 have hsize:Maps.size (.map ((es.toList.map (WideElems.rg (H:=Unit) Tryz.prog 3 (fun _=>some (.lit (.bool true),[])))).foldr DataW.insert []))=l.length:=by
  have:=hkeys.length_eq;simpa [intKeys,Maps.size] using this.symm
 have hseq:=AnyZI.keys_gives (ρ:=Tryz.keysA_ren) { Tryz.keysA with } Fence.wide 2 trivial rfl oM b m l.length _ (R:=fun _=>some (.lit (.bool true),[])) w (hat.lt hb) (by simp[World.cell?,hat.known _ _ hb]) hown;have cS:=AnyZI.sorted_in Tryz.sortedA Fence.wide 5 trivial trivial trivial trivial rfl oM (Tryz.sortsA _) (enters_of func85 kR rfl) 126 #[.pointer (some ⟨b,0,none⟩)] trivial (enters_of func126 kR rfl) _ _ (by rw[hsize]; unfold maxLen; omega) (by rw[hsize]; omega) w hseq;refine ((callsIn_wide (n:=5)).1 cS).mono ?_;rintro e w' ⟨v,ss,rfl,hss,hrow,hnil,hbel⟩;have hsrt:ss.mergeSort (fun x y=>decide (x≤y))=dN (l.map Prod.fst):=mergeSort_of_perm_i (hss.trans hkeys.symm);rw[hsrt] at hrow;have hat2:At E g s w':=by
  refine⟨hbel.os.trans hat.os,⟨hbel.tape.trans hat.tape.1,by rw[hE]; exact zf4 _⟩,hbel.output.trans hat.output,fun k o hk=>?_,fun x hx=>?_,fun x hx k hk=>⟨(hat.fresh x hx k hk).1,Nat.lt_of_lt_of_le (hat.fresh x hx k hk).2 hbel.size⟩,hat.apart⟩
  ·rw[hbel.block k (hat.lt hk)]; exact hat.known k o hk
  ·have h1:=hat.own x hx;cases hbk:x.blk with
   | none=>simpa [hbk] using h1
   | some k =>
    simp only[hbk,Option.bind_some] at h1 ⊢;rw[hbel.block k (hat.fresh x hx k hbk).2];exact h1
 rcases hrow.2 with ⟨rfl,h0⟩ | ⟨gb,cap,cur,rfl,hbase,hgb,r1,r2,r3,r4⟩
 ·have hss0:ss=[]:=zf2 h0;have hl0:l.map Prod.fst=[]:=by
   have:=(hss.trans hkeys.symm).length_eq;rw[hss0] at this;exact zf2 (by simpa using this.symm)
  refine⟨_,g,s,I,hat2,I,zb7 g,?_⟩;rw[hl0];have:dN []=[]:=by simp[dN]
  rw[this];exact zb8 g 1
 ·have hfresh:g gb=none:=by
   cases h:g gb with
   | none=>rfl
   | some o=>have:=hat.lt h; omega
  refine⟨_,upd g gb (.cells cur 3 (0,0)),s,I,⟨hat2.os,hat2.tape,hat2.output,fun k o hk=>?_,hat2.own,fun x hx k hk=>⟨?_,(hat2.fresh x hx k hk).2⟩,hat2.apart⟩,I,AY hfresh,?_⟩
  ·unfold upd at hk;split at hk
   ·rename_i e1; subst e1; injection hk with hk; subst hk; exact hgb
   ·exact hat2.known k o hk
  ·have h1:=hat.fresh x hx k hk;have hne:k≠gb:=oM;simp only[upd,hne,if_false];exact h1.1
  ·have hlen:(dN (l.map Prod.fst)).length=ss.length:=by rw[eU]; exact (hss.trans hkeys.symm).length_eq.symm
   refine⟨some ⟨gb,0,none⟩,cap,by rw[hlen],⟨by rw[encInt.length],oM⟩,fun _=>⟨gb,0,cur,_,(0,0),I,e8 _ _ _,fun j x hj=>?_⟩⟩;rw[mO] at hj;have hj2:(cur.toList.take (ss.length * 1))[j]?=some x:=by rw[r4]; exact hj
   rw[zh8] at hj2;split at hj2
   ·simpa using hj2
   ·cases hj2
theorem ol (tl:List Cl):∀ (n:Nat) (id:Int) (vis:List Int) (x:Int),x∈cd tl n id vis→x∈vis∨∃ c∈tl,c.id=x
 | 0,_,_,_,h=>.inl h
 | n+1,id,vis,x,h=>by
  unfold cd at h;split at h
  ·exact .inl h
  ·rename_i c hc;split at h
   ·exact .inl h
   ·have key:∀ (l:List aj) (v:List Int),x∈l.foldl (fun v y=>cd tl n y.cell v) v→x∈v∨∃ c∈tl,c.id=x:=by
     intro l;induction l with
     | nil=>intro v hv; exact .inl hv
     | cons y r ih =>
      intro v hv
      rcases ih _ hv with h1 | h1
      ·exact ol tl n y.cell v x h1
      ·exact .inr h1
    rcases key _ _ h with h1 | h1
    ·rcases zf1.1 h1 with h2 | h2
     ·exact .inl h2
     ·simp at h2;obtain ⟨h3,h4⟩:=cI hc;exact .inr ⟨c,h3,by rw[h4,h2]⟩
    ·exact .inr h1
theorem lr (tl:List Cl):∀ (n:Nat) (id:Int) (vis:List Int),vis.Nodup→(cd tl n id vis).Nodup
 | 0,_,_,h=>h
 | n+1,id,vis,h=>by
  unfold cd;split
  ·exact h
  ·split
   ·exact h
   ·rename_i hc;have key:∀ (l:List aj) (v:List Int),v.Nodup→(l.foldl (fun v y=>cd tl n y.cell v) v).Nodup:=by
     intro l;induction l with
     | nil=>intro v hv; exact hv
     | cons y r ih=>intro v hv; exact ih _ (lr tl n y.cell v hv)
    refine key _ _ (List.nodup_append.2 ⟨h,by simp,fun a ha b hb=>?_⟩);simp at hb hc;rw[hb];exact fun e=>hc (e ▸ ha)
theorem mT {tl:List Cl}{ids:List Int}{x:Int}(h:x∈dq tl ids):∃ c∈tl,c.id=x:=by
 have key:∀ (l:List Int) (v:List Int),x∈l.foldl (fun v id=>cd tl (tl.length+1) id v) v→x∈v∨∃ c∈tl,c.id=x:=by
  intro l;induction l with
  | nil=>intro v hv; exact .inl hv
  | cons y r ih =>
   intro v hv
   rcases ih _ hv with h1 | h1
   ·exact ol tl _ y v x h1
   ·exact .inr h1
 exact (key _ _ h).resolve_left (by simp)
theorem nr (tl:List Cl)(ids:List Int):(dq tl ids).Nodup:=by
 have key:∀ (l:List Int) (v:List Int),v.Nodup→(l.foldl (fun v id=>cd tl (tl.length+1) id v) v).Nodup:=by
  intro l;induction l with
  | nil=>intro v hv; exact hv
  | cons y r ih=>intro v hv; exact ih _ (lr tl _ y v hv)
 exact key _ _ (by simp)
theorem pu {α:Type}[DecidableEq α]:∀ {l m:List α},l.Nodup→(∀ x∈l,x∈m)→l.length≤m.length
 | [],_,_,_=>zf4 _
 | x::l,m,hn,hs=>by
  obtain ⟨h1,h2⟩:=zj5.1 hn;have hx:x∈m:=hs x (by simp);have h3:=pu (m:=m.erase x) h2 (fun y hy=>by
   have hne:y≠x:=fun e=>h1 (e ▸ hy);exact (List.mem_erase_of_ne hne).2 (hs y (by simp[hy])))
  have h4:=List.length_erase_of_mem hx;have h5:=List.length_pos_of_mem hx;simp only[ze6];omega
theorem rX (tl:List Cl)(ids:List Int):(dq tl ids).length≤tl.length:=by
 have:=pu (nr tl ids) (m:=tl.map Cl.id) (fun x hx=>by obtain ⟨c,hc,e⟩:=mT hx; exact ze9.2 ⟨c,hc,e⟩);simpa using this
theorem Bo {l:List Cl}{c:Cl}(h:c∈ae l):∃ d∈l,d.id=c.id:=by
 have h1:=lG h;unfold aa at h1;obtain ⟨d,hd,rfl⟩:=ze9.1 h1;exact⟨d,(dy l d).1 hd,I⟩
def eE (l:List Cl)(ids:List Int):List Int:=dN (dq (ae l) ids)
theorem wi (E:World)(hE:E.drawn=0)(g:PH)(s:Own)(v iv:Value)(l:List Cl)(ids:List Int)(hv:am g v l)(hf:cR l)(hi:bC g iv ids)(hl:ids.length<1099511627776)(hw:∀ c∈l,iS c.id) :
  Ctr Tryz.prog E 63 #[.agg #[v],iv] g s (fun r g' s'=>s=s'∧Le g g'∧bC g' r (eE l ids)):=by
 have hft:=dG hf;have hcl:=rX (ae l) ids;have hfl:=hft.1;refine za9 (args:=[.agg #[v],iv]) func63 I ntmps63 (bE I) ?_;refine rZ (bW (bO I) fun b2=>?_);refine aT I (rZ (lK (qV 0 bh aw I I I) (lW (cL call50 I (sh E g _ v l hv hf)) ?_)));rintro tv g1 _ ⟨rfl,hle,ht⟩;refine lM I (lW (cL call99 I (rW E g1 _ _ _ (ae l) ids ht hft (hi.mono hle) hl)) ?_);rintro _ g2 _ ⟨m,rfl,hle2,rfl⟩;refine SL.freezeMap fun g3 hle3 hm=>?_;refine lW (cL call98 I (yh E g3 _ m)) ?_;rintro _ g4 _ ⟨rfl,hle4,b,rfl,hb⟩;refine lW (cL call97 I (sO E hE g4 _ b m (lb (dq (ae l) ids)) hb (hm.mono hle4) (by simp only[lb,ze4]; omega) (fun p hp=>by obtain ⟨x,hx,rfl⟩:=ze9.1 hp; obtain ⟨c,hc,rfl⟩:=mT hx; obtain ⟨d,hd,e⟩:=Bo hc; rw[← e]; exact hw d hd))) ?_;rintro r g5 _ ⟨rfl,hle5,hr⟩;refine aT I (rE (dR (s':=s) uR ?_));exact za6 (.inl I) results63 I ⟨I,hle.trans (hle2.trans (hle3.trans (hle4.trans hle5))),by unfold eE; simpa [lb,Function.comp_def] using hr⟩
theorem Co {g:PH}:∀ {ls:List (List Int)} {rs:List Sv},az (a7 g) ls rs→(∀ x∈ls,x.length<1099511627776)→∃ L:List (LV g),L.map LV.l=ls∧L.map LV.sv=rs
 | [],[],_,_=>⟨[],rfl,rfl⟩
 | x::ls,r::rs,h,hl=>by
  obtain ⟨L,h1,h2⟩:=Co h.2 (fun y hy=>hl y (by simp[hy]));exact⟨⟨r,x,h.1,hl x (by simp)⟩::L,by simp[h1],by simp[h2]⟩
 | [],_::_,h,_=>h.elim
 | _::_,[],h,_=>h.elim
theorem AX {g:PH}:∀ (L:List (LV g)),az (a7 g) (L.map LV.l) (L.map LV.sv)
 | []=>trivial
 | x::L=>⟨x.h,AX L⟩
theorem xa {g:PH}:∀ (L:List (LV g)),L.flatMap (jR g).enc=(L.map LV.sv).flatMap ak.enc
 | []=>rfl
 | x::L=>by simp only[zh3,zg2,xa L]; rfl
theorem AW {g:PH}(T:TypeId)(v:Value)(L:List (LV g)):rowA (jR g) T v L=rowA ak T v (L.map LV.sv):=by
 simp only[rowA,xa,ze4]
def eqL (a b:List Int):Bool:=decide (a=b)
theorem kT {α β:Type}(f:α→β)(eq:α→α→Bool)(eq':β→β→Bool)(h:∀ a b,eq a b=eq' (f a) (f b)):∀ (x:α) (l:List α),(bd eq x l).map f=bd eq' (f x) (l.map f)
 | _,[]=>rfl
 | x,y::r=>by
  simp only[bd,zg2,h];split
  ·exact kT f eq eq' h y r
  ·rw[zg2,kT f eq eq' h y r]
theorem zk {α β:Type}(f:α→β)(eq:α→α→Bool)(eq':β→β→Bool)(h:∀ a b,eq a b=eq' (f a) (f b))(l:List α):(gh eq l).map f=gh eq' (l.map f):=by
 cases l with
 | nil=>rfl
 | cons x r=>simp only[gh,zg2,kT f eq eq' h]
theorem kS {α:Type}(eq:α→α→Bool):∀ (x:α) (l:List α),(bd eq x l).Sublist l
 | _,[]=>.slnil
 | x,y::r=>by
  simp only[bd];split
  ·exact (kS eq y r).cons y
  ·exact (kS eq y r).cons_cons y
theorem o8 {α:Type}(eq:α→α→Bool)(l:List α):(gh eq l).Sublist l:=by
 cases l with
 | nil=>exact .slnil
 | cons x r=>exact (kS eq x r).cons_cons x
def bV (s:List Int):List Int:=gh (fun a b:Int=>decide (a=b)) (dN s)
def iu:List Int→Bool
 | []=>true
 | a::r=>decide (a<0)||decide (((a::r).length:Int)>9)
def dL (all:List (List Int))(t:List Int):List (List Int):=gh eqL (my (all++bH t))
def aG:List (List Int)→List (List Int)→Option (List (List Int))
 | all,[]=>some all
 | all,s::r=>if iu (bV s) then aG all r else if ((dL all (bV s)).length:Int)>4000 then none else aG (dL all (bV s)) r
def eJ (all:List (List Int))(s:List Int)(k:Nat):List aj:=if 0<(s.eraseIdx k).length then [⟨lbL all (s.eraseIdx k)+1,cB k⟩] else []
def aW (all:List (List Int))(s:List Int)(j:Nat):List aj:=(List.range j).flatMap (eJ all s)
def lJ (all:List (List Int))(p:List Int×Nat):Cl:=⟨p.2+1,(p.1.length:Int) - 1,aW all p.1 p.1.length⟩
def ba (all:List (List Int)):List Cl:=all.zipIdx.map (lJ all)
def bQ (l:List (List Int)):List Cl:=match aG [] l with
 | none=>[]
 | some all=>aa (ba all)
theorem nI (t:List Int)(h:t.length≤9):(bH t).length≤511:=by
 have:=wI t.length h;simp[bH];omega
theorem fY {t:List Int}(h:t.length≤9):∀ x∈bH t,x.length≤9:=fun x hx=>by
 obtain ⟨i,_,rfl⟩:=ze9.1 hx;exact zk2 (eW _ _) h
theorem rC {t:List Int}(h:t≠[]):0<(bH t).length:=by
 have h1:0<t.length:=List.length_pos_iff.2 h;have h2:2 ^ 1≤2 ^ t.length:=Nat.pow_le_pow_right dC h1;simp[bH];omega
theorem jX {all:List (List Int)}{t x:List Int}(h:x∈dL all t):x∈all∨x∈bH t:=by
 have h1:=(o8 eqL _).subset h;have h2:=(gl _).subset h1;exact zf1.1 h2
theorem tQ (all:List (List Int))(t:List Int):pM (dL all t):=(iH _).sublist (o8 eqL _)
theorem uj {all:List (List Int)}(h:pM all)(t:List Int):∀ i j (hi:i<all.length) (hj:j<all.length),i<j→ai all[j] t<0→ai all[i] t<0:=fun i j hi hj hij hlt=>by
 have h1:=zc6.1 h i j hi hj hij
 rcases dg all[i] all[j] with h2 | h2 | h2
 ·exact dQ _ _ _ h2 hlt
 ·rw[h2]; exact hlt
 ·exact absurd h2 h1
theorem eS (all:List (List Int))(s:List Int)(j:Nat):aW all s (j+1)=aW all s j++eJ all s j:=by
 simp[aW,List.range_succ]
theorem dU (all:List (List Int))(s:List Int)(j:Nat):(aW all s j).length≤j:=by
 induction j with
 | zero=>simp[aW]
 | succ j ih =>
  rw[eS,ze3];have:(eJ all s j).length≤1:=by unfold eJ; split <;> simp
  omega
theorem bD (all:List (List Int)):(ba all).length=all.length:=by simp[ba]
theorem ib {all:List (List Int)}{k:Nat}(h:k<all.length):(ba all)[k]?=some (lJ all (all[k],k)):=by
 simp[ba,h]
theorem jz {all:List (List Int)}(h:all.length≤4000)(hs:∀ x∈all,x.length≤9):cR (ba all):=by
 refine⟨by rw[bD]; omega,fun c hc=>?_⟩;obtain ⟨p,hp,rfl⟩:=ze9.1 hc;have h1:p.1∈all:=by
  have:=List.mem_map_of_mem (f:=Prod.fst) hp;simpa using this
 have h2:=hs _ h1;have h3:=dU all p.1 p.1.length;show (aW all p.1 p.1.length).length<_;omega
theorem wJ (ls:List (List Int))(t:List Int):lbL ls t≤ls.length:=zc2 _ _
def eC (v:Value):Sv:=match v with
 | .slice p n c=>⟨p,n,c⟩
 | _=>⟨none,0,0⟩
theorem nJ (E:World)(g:PH)(s:Own)(v:Value)(ls:List (List Int))(hv:ax g v ls)(hn:ls.length<1099511627776)(hl:∀ x∈ls,x.length<17592186044416) :
  Ctr Tryz.prog E 54 #[v] g s (fun r g' s'=>s=s'∧Le g g'∧∃ u,r = .agg #[u]∧am g' u (bQ ls)):=by
 obtain ⟨rs0,hrs0,hall0⟩:=hv;have hlen0:=hall0.length;obtain ⟨p,c,rfl⟩:=za2 hrs0;refine za9 (args:=[.slice p rs0.length c]) func54 I ntmps54 (bE I) ?_;refine rZ (bW (aL zk9) fun b2=>?_);refine tZ (rZ (aT I (sQ (sW I (lU (eN aY I) (lM I (tZ (bK (zb4 25 1 ?_)))))))));refine oP (ι:=PH×Value×List Sv×List (List Int)×Nat) (fun i=>[(0,.slice p rs0.length c),(2,pp b2 0),(3,i.2.1),(14,.slice p rs0.length c),(15,vi rs0.length),(16,vi i.2.2.2.2)]) (fun i=>i.1)
  (fun i=>rowA ak 25 i.2.1 i.2.2.1::pt b2 (.cells #[.slice none 0 0] 30 (0,0))::s)
  (fun i=>Le g i.1∧i.2.2.2.2≤rs0.length∧az (a7 i.1) i.2.2.2.1 i.2.2.1∧(i.2.2.2.1.length≤4000∧∀ x∈i.2.2.2.1,x.length≤9)∧pM i.2.2.2.1∧aG [] ls=aG i.2.2.2.1 (ls.drop i.2.2.2.2)) (fun i=>rs0.length - i.2.2.2.2)
  (g,.slice none 0 0,[],[],0) sB rfl rfl ⟨zb7 g,zf4 _,trivial,⟨zf4 _,by simp⟩,List.Pairwise.nil,rfl⟩ ?_
 rintro ⟨g1,av,rs,all,k⟩ ⟨hle,hk,hall,⟨hal,has⟩,hsrt,hsa⟩;dsimp only at hle hk hall hal has hsrt hsa ⊢;have hrl:=hall.length;refine rZ (yL I (tZ (sQ ?_)));refine iP I (fun hlt=>?_) (fun hlt=>?_)
 ·have hkl:k<ls.length:=oM;have hkr:k<rs0.length:=oM;have hR:=(hall0.get (gE hkl) (gE hkr)).mono hle;have hxl:=hl _ (gM hkl);have hb1:=hrs0.based oM;have hdrop:ls.drop k=ls[k]::ls.drop (k+1):=zg4 hkl;rw[hdrop] at hsa;generalize hx:ls[k]=x at *;generalize hr:rs0[k]=r at *;have hgr:rs0[((k:Nat):Int).toNat]?=some r:=by rw[← hr]; exact gE hkr
  have hsl:=eU x;have hul:=gU (fun a b:Int=>decide (a=b)) (dN x);refine kP (tN (sQ (bK (rZ (lU (iA aY aR I I hb1 oM sL) (lK (eB bM I (hrs0.mono hle).rd hgr I) (aT I (sW I (lW (cL call84 I (wK E g1 _ _ x hR hxl)) ?_)))))))));rintro v21 _ _ ⟨rfl,rfl⟩;refine aT I (sW I (lW (cL call85 I (pR E g1 _ v21 x 0 I hxl)) ?_));rintro _ _ _ ⟨rfl,rfl⟩;refine tZ (sW I (lW (cL call86 I (Ar E g1 _ v21 (dN x) oM)) ?_));rintro v25 _ _ ⟨rfl,rfl⟩;refine aT I (sQ (fS fun g2 hle2 hs2=>?_));have hset:bC g2 v25 (bV x):=hs2;have hsetl:(bV x).length<17592186044416:=by unfold bV; omega
  obtain ⟨q2,d2,rfl⟩:=za2 hset;have hcase:bV x=[]∨∃ a t,bV x=a::t:=by cases bV x with
   | nil=>exact .inl rfl
   | cons a t=>exact .inr ⟨a,t,rfl⟩
  have hall2:=hall.mono fun _ _=>a7.mono hle2;clear hs2;generalize hT:bV x=T at *
  rcases hcase with hT0 | ⟨a,t,hTa⟩
  ·subst hT0;have hbad:iu (bV x)=true:=by rw[hT]; rfl
   refine sW I (lU (eN ah I) (lU (SU.eq (v':=vb true) (eQ I I) (zd9 vb (zf6 (by simp)))) ?_));refine lM I (yA I (yA I (yA I (yA I (yP I (lM I (yA I (yA I (yA I (yP I (tZ (cT I (xI (tX (bX (tN (rG (yD I (lM I (nL ?_))))))))))))))))))));refine gA (g2,av,rs,all,k+1) sB I I ⟨hle.trans hle2,lN,hall2,⟨hal,has⟩,hsrt,?_⟩ lN;rw[hsa,aG,zf8 hbad]
  ·have hTl:T.length=t.length+1:=by rw[hTa]; rfl
   have hbT:=za4 hset oM;have hga:T[((0:Nat):Int).toNat]?=some a:=by rw[hTa]; rfl
   have hbe:iu (bV x)=(decide (a<0)||decide ((T.length:Int)>9)):=by rw[hT,hTa]; rfl
   have hbe1:a<0→(decide (a<0)||decide ((T.length:Int)>9))=true:=fun h=>by simp[h]
   have hbe2:¬ a<0→(decide (a<0)||decide ((T.length:Int)>9))=decide ((T.length:Int)>9):=fun h=>by simp[h]
   refine SC.sub (f':=[(0,.slice p rs0.length c),(2,pp b2 0),(3,av),(5,.slice q2 T.length d2),(14,.slice p rs0.length c),(15,vi rs0.length),(16,vi k)]) sB ?_;refine SC.cutB 39 ((decide (a<0)||decide ((T.length:Int)>9))) ?_ ?_
   ·refine rG (lM I (lU (eN ah I) (lU (SU.eq (v':=vb false) (eQ I I) (zd9 vb (zf5 oM))) (lM I (yC I (lY I I I (iA ah zT3 I I hbT dC sL) (SL.gq (gT I I I dC) (eB iT3 I (za5 hset) hga I) dC (lY I I I (lS I I) (yF I (lM I ?_))))))))));refine sP ?_ ?_
    ·intro h35;refine yA I (yA I (yA I (yP I (nL ?_))));exact za8 (by (rw[hbe1 h35]; rfl)) mI
    ·intro h35;refine yC I (lY I I I (eN ah I) (lY I I I (gR I I) (yF I (nL ?_))));exact za8 (by (rw[hbe2 h35]; rfl)) mI
   refine iQ I (fun hbad=>?_) (fun hbad=>?_)
   ·refine xI (tX (bX (tN (rG (yD I (lM I (nL ?_)))))));refine gA (g2,av,rs,all,k+1) sB I I ⟨hle.trans hle2,lN,hall2,⟨hal,has⟩,hsrt,?_⟩ lN;rw[hsa,aG,zf8 (hbe.trans hbad)]
   ·have hb9:T.length≤9:=by simp at hbad; omega
    have hsub1:=nI T hb9;have hsub2:=fY hb9;have hsub3:=rC (t:=T) (by rw[hTa]; simp);have hnb:¬ iu (bV x)=true:=by rw[hbe,hbad]; simp
    refine kP (tN (sW I (lM I (lW (cL call87 I (rB E g2 _ _ T hset hb9)) ?_))));rintro v42 g3 _ ⟨rfl,hle3,hsub⟩;obtain ⟨rs2,hrs2,hall3⟩:=hsub;have hrl2:=hall3.length;refine lW (aQ (e:=ak) 0 sty22 I I I hrs2 oM oM) ?_;rintro v43 _ _ ⟨rfl,rfl⟩;have hall4:=(hall2.mono fun _ _=>a7.mono hle3).append hall3;obtain ⟨L,hL1,hL2⟩:=Co hall4 (fun y hy=>(zf1.1 hy).elim (fun h=>Nat.lt_of_le_of_lt (has y h) dC) (fun h=>Nat.lt_of_le_of_lt (hsub2 y h) dC));have hLl:L.length=all.length+(bH T).length:=(by have:=zd9 List.length hL1; simpa using this);rw[← hL2,← AW];refine aT I (sW I (lW (cL call88 I (sX E g3 _ _ L oM oM)) ?_));rintro _ _ _ ⟨rfl,L2,hp2,hs2,rfl⟩;have hL2l:=hp2.length_eq;have hcall:∀ (x y:LV g3) s',cX Tryz.prog E (.func (.func 36) #[] #[]) [x.val,y.val] g3 s' (fun r g' s''=>r=vb (decide (x.l=y.l))∧g3=g'∧s'=s''):=fun x y s'=>cX.mk (args:=[x.val,y.val]) (cap:=[]) call36 (qJ E g3 s' _ _ x.l y.l x.h y.h x.len);refine tZ (sW I (lW (cL call90 I (Aq (jR g3) LV.val (fun _=>I) (fun _=>I) E g3 _ _ 36 (fun x y=>decide (x.l=y.l)) L2 oM hcall)) ?_));rintro v47 _ _ ⟨rfl,rfl⟩;refine zc9 fun ⟨w0,hw0⟩=>?_;obtain ⟨q,d,rfl⟩:=ag (i:=0) hw0 rfl;clear hw0 w0;rw[AW];have hnew:(gh (fun x y:LV g3=>decide (x.l=y.l)) L2).map LV.l=dL all T:=(by rw[zk LV.l (fun x y:LV g3=>decide (x.l=y.l)) eqL (fun _ _=>rfl),hs2,hL1]; rfl);have hnl:(gh (fun x y:LV g3=>decide (x.l=y.l)) L2).length=(dL all T).length:=(by rw[← hnew,ze4]);have hall5:=AX (gh (fun x y:LV g3=>decide (x.l=y.l)) L2);rw[hnew] at hall5;generalize (gh (fun x y:LV g3=>decide (x.l=y.l)) L2).length=n47 at *;generalize (gh (fun x y:LV g3=>decide (x.l=y.l)) L2).map LV.sv=rs5 at *;refine aT I (sW I (lU (eN aY I) (lU (gR I I) (tZ ?_))));refine iP I (fun hmany=>?_) (fun hmany=>?_)
    ·have hnone:aG [] ls=none:=by rw[hsa,aG,zf7 hnb,hT,zf8 oM]
     refine rZ (lU (za1 I (buildE30)) (oZ (sK 1 aw I I I I I sB) ?_));refine tZ (rE (bR (tR (tR (bR (tR ?_))))));exact ST.retCD 1 s (.inl I) results54 I bh aw I I uR ⟨I,hle.trans (hle2.trans hle3),_,I,by simp only[bQ,hnone]; exact⟨[],zb8 _ _,trivial⟩⟩
    ·refine kP (bN (tN (rG (yD I (lM I (nL ?_))))));refine gA (g3,.slice q n47 d,rs5,dL all T,k+1) sB I I ⟨hle.trans (hle2.trans hle3),lN,hall5,⟨lN,fun y hy=>?_⟩,tQ all T,?_⟩ lN
     ·rcases jX hy with h | h
      ·exact has y h
      ·exact hsub2 y h
     ·rw[hsa,aG,zf7 hnb,hT,zf7 oM]
 ·have hk0:k=rs0.length:=oM;have hsome:aG [] ls=some all:=by rw[hsa,hk0,← hlen0,List.drop_length]; rfl
  have hfit:=jz hal has;refine xI (tX (tX (bX (tN (sQ (fS fun g2 hle2 hs2=>?_))))));have hav:SlA ak g2 av rs:=hs2;obtain ⟨q,d,rfl⟩:=za2 hav;have hall2:=hall.mono fun _ _=>a7.mono hle2;refine rG (bW (aL zk9) fun b6=>?_);refine tZ (sQ (sW I (lU (eN aY I) (lM I (tZ (bK (zb4 63 3 ?_)))))));refine oP (ι:=PH×Value×List Rc×Nat) (fun i=>[(2,pp b2 0),(3,.slice q rs.length d),(6,pp b6 0),(53,.slice q rs.length d),(54,vi rs.length),(55,vi i.2.2.2)]) (fun i=>i.1)
   (fun i=>rowA encCell 63 i.2.1 i.2.2.1::pt b6 (.cells #[i.2.1] 30 (0,0))::pt b2 (.cells #[.slice none 0 0] 30 (0,0))::s)
   (fun i=>Le g2 i.1∧i.2.2.2≤rs.length∧az (aC i.1) ((ba all).take i.2.2.2) i.2.2.1) (fun i=>rs.length - i.2.2.2)
   (g2,.slice none 0 0,[],0) sB rfl rfl ⟨zb7 g2,zf4 _,trivial⟩ ?_
  rintro ⟨g3,ov,rcs,n⟩ ⟨hle3,hn3,hrcs⟩;dsimp only at hle3 hn3 hrcs ⊢;have hrcl:=hrcs.length;rw[ze2,bD] at hrcl;refine rZ (yL I (tZ (sQ ?_)));refine iP I (fun hlt2=>?_) (fun hlt2=>?_)
  ·have hnl:n<all.length:=oM;have hnr:n<rs.length:=oM;have hb1:=hav.based oM;have hR:=(hall2.get (gE hnl) (gE hnr)).mono hle3;have hRl:=hR.len;have hx9:=has _ (gM hnl);have hget:=ib hnl;generalize hx:all[n]=x at *;generalize hr:rs[n]=r at *;obtain ⟨rp,rn,rc⟩:=r;dsimp only at hRl;subst hRl;have hxs:bC g3 (.slice rp x.length rc) x:=hR;have hgr:rs[((n:Nat):Int).toNat]?=some ⟨rp,x.length,rc⟩:=by rw[← hr]; exact gE hnr
   refine kP (tN (sQ (bK (sW I (lU (iA aY aR I I hb1 oM sL) (lK (eB (u:=.slice rp x.length rc) bM I (hav.mono hle3).rd hgr I) (lA I (aT I (sW I (yD I (lM I (lU (eN ah I) (lU (sU I I oM) (lU (za1 I (buildC63 _ _)) (bW (aL zk8) fun b9=>?_)))))))))))))));refine oZ (sK 0 au I I I I I sB) ?_;refine tZ (sQ (sQ (zb4 87 2 (rG (lM I (lU (eN ah I) (lM I (tZ (bK ?_)))))))));refine oP (ι:=PH×Value×Nat) (fun i=>[(2,pp b2 0),(3,.slice q rs.length d),(6,pp b6 0),(53,.slice q rs.length d),(54,vi rs.length),(55,vi n),(8,.slice rp x.length rc),(9,pp b9 0),(66,.slice rp x.length rc),(67,vi x.length),(68,vi i.2.2)]) (fun i=>i.1)
    (fun i=>rowA encSide 87 i.2.1 (aW all x i.2.2)::pt b9 (.cells #[vi ((n:Int)+1),vi ((x.length:Int) - 1),i.2.1] 63 (0,0))::rowA encCell 63 ov rcs::pt b6 (.cells #[ov] 30 (0,0))::pt b2 (.cells #[.slice none 0 0] 30 (0,0))::s)
    (fun i=>Le g3 i.1∧i.2.2≤x.length) (fun i=>x.length - i.2.2)
    (g3,.slice none 0 0,0) sB rfl rfl ⟨zb7 g3,zf4 _⟩ ?_
   rintro ⟨g4,sv,j⟩ ⟨hle4,hj⟩;dsimp only at hle4 hj ⊢;have hssl:=dU all x j;have hsucc:=eS all x j;refine rZ (yL I (tZ (sQ ?_)));refine iP I (fun hlt3=>?_) (fun hlt3=>?_)
   ·have hjl:j<x.length:=oM;have hxs4:bC g4 (.slice rp x.length rc) x:=hxs.mono hle4;have hcap:=(SlA.cap hxs4).2;have hc1:=SlA.cut hxs4 (l:=0) (m:=j) oM oM;have hc2:=SlA.cut hxs4 (l:=j+1) (m:=x.length) oM oM;have he1:(x.drop 0).take (j - 0)=x.take j:=by simp
    have he2:(x.drop (j+1)).take (x.length - (j+1))=x.drop (j+1):=tL (by rw[ze7]; omega);rw[he1] at hc1;rw[he2] at hc2;have her:[x.take j,x.drop (j+1)].flatten=x.eraseIdx j:=by rw[List.eraseIdx_eq_take_drop_succ]; simp
    have hel:(x.eraseIdx j).length=x.length - 1:=by rw[List.length_eraseIdx]; simp[hjl]
    have hsum:gt [x.take j,x.drop (j+1)]<1099511627776:=by simp[gt]; omega
    refine kP (tN (sQ (bK (sW I (aT I (sQ ?_))))));refine dW [] [(0,2),(1,2),(2,2),(3,2),(4,2),(5,2),(6,2),(7,0),(8,0),(9,2)] ze1 kR ?_;refine yM I (yM I (pU I (SU.sliceH ah zT3 I I oM oM) (yM I (yM I (pU I (aD I I oM) (pU I (SU.eq (v':=sliced rp (j+1) x.length rc 1) (SU.sliceL ah zT3 I I oM oM) (by rw[show ((j:Int)+1).toNat=j+1 by omega])) ?_))))));refine SP.o I (bS sty22 I I I (ab sB) dC) dC (.inr iR) ?_;rintro _ _ _ ⟨b78,rfl,rfl,rfl⟩;refine SP.freeze fun g5 hle5 hb78=>?_;have hlit:ax g5 (.slice (some ⟨b78,0,none⟩) 2 2) [x.take j,x.drop (j+1)]:=⟨[eC (sliced rp 0 j rc 1),eC (sliced rp (j+1) x.length rc 1)],SlA.lit hb78 rfl rfl,⟨hc1.mono hle5,hc2.mono hle5,trivial⟩⟩;refine SP.o I (cL call91 I (tE E g5 _ _ _ hlit (by simp) hsum)) dC (.inr iR) ?_;rintro v79 _ _ ⟨rfl,rfl⟩;refine pU I (aS I) (pN (tN (sQ (fS fun g6 hle6 hs6=>?_))));have hrest:bC g6 v79 (x.eraseIdx j):=(by rw[← her]; exact hs6);obtain ⟨q6,d6,rfl⟩:=za2 hrest;clear hs6;refine rG (lM I (lU (eN ah I) (lU (gR I I) (tZ ?_))));refine iP I (fun hpos=>?_) (fun hpos=>?_)
    ·have hside:eJ all x j=[⟨lbL all (x.eraseIdx j)+1,cB j⟩]:=by unfold eJ; rw[zf8 oM]
     have hlb:=wJ all (x.eraseIdx j);rw[hside] at hsucc;have hlist:ax g6 (.slice q rs.length d) all:=⟨rs,hav.mono (hle3.trans (hle4.trans (hle5.trans hle6))),hall2.mono fun _ _=>a7.mono (hle3.trans (hle4.trans (hle5.trans hle6)))⟩;refine sW I (lM I (lW (cL call92 I (wm E g6 _ _ _ all (x.eraseIdx j) hlist hrest oM (fun y hy=>by have:=has y hy; omega) (uj hsrt _))) ?_));rintro _ _ _ ⟨⟨fb,rfl⟩,rfl,rfl⟩;refine lM I (yX I (yX I (lA I (aT I ?_))));refine dW [8,9,10] [(0,2),(1,1),(2,2),(3,2),(4,2),(5,0),(6,2),(7,0),(8,0),(9,0),(10,0)] ze1 kR ?_;refine pU I (fA ao I bI I) (pK I (qL cQ I (cO 1 I I)) (yM I (pU I (aD I I oM) (yM I (SP.o I (cL call93 I (xR E g6 _ j)) dC (.inr iR) ?_)))));rintro _ _ _ ⟨rfl,rfl,rfl⟩;refine pU I (za1 I (buildS87 _ _)) (SP.o I (bS sty61 I I I (ab sB) dC) dC (.inr iR) ?_);rintro _ _ _ ⟨b96,rfl,rfl,rfl⟩;refine SP.o I (aP (e:=encSide) 0 ⟨lbL all (x.eraseIdx j)+1,cB j⟩ sty61 I I I I I oM oM) dC (.inl dC) ?_;rintro v97 _ _ ⟨rfl,rfl⟩;rw[← hsucc];refine zc8 fun ⟨w0,hw0⟩=>?_;obtain ⟨q97,d97,rfl⟩:=ag (i:=0) hw0 rfl;clear hw0 w0;refine oU rfl (fA ao rfl bI rfl) dC (.inl dC) (SP.on rfl (SO.store1 1 bI rfl rfl rfl rfl (bE rfl) (by rfl)) (.inl dC) ?_);rintro _ _ _ ⟨rfl,rfl⟩;refine pN (bN (tN (rG (yD I (lM I (nL ?_))))));exact gA (g6,_,j+1) sB I I ⟨hle4.trans (hle5.trans hle6),lN⟩ lN
    ·have hside:eJ all x j=[]:=by unfold eJ; rw[zf7 oM]
     rw[hside,zc3] at hsucc;refine kP (bN (tN (rG (yD I (lM I (nL ?_))))));refine ST.to (fun w hw=>?_) (g':=g6) (s':=rowA encSide 87 sv (aW all x (j+1))::pt b9 (.cells #[vi ((n:Int)+1),vi ((x.length:Int) - 1),sv] 63 (0,0))::rowA encCell 63 ov rcs::pt b6 (.cells #[ov] 30 (0,0))::pt b2 (.cells #[.slice none 0 0] 30 (0,0))::s) ?_
     ·rw[hsucc]; exact hw
     exact gA (g6,sv,j+1) sB I I ⟨hle4.trans (hle5.trans hle6),lN⟩ lN
   ·have hjj:j=x.length:=oM;subst hjj;refine xI (tX (tX (bX (tN (rG (fR fun g5 hle5 hs5=>?_))))));have hsd:SlA encSide g5 sv (aW all x x.length):=hs5;obtain ⟨q5,d5,rfl⟩:=za2 hsd;obtain ⟨nc,hnc⟩:∃ nc:Rc,nc=⟨(n:Int)+1,(x.length:Int) - 1,⟨q5,(aW all x x.length).length,d5⟩⟩:=⟨_,rfl⟩;refine lU (fA ed I c8 I) (lK (qL eY I (cO 2 I I)) (lK (qV 0 eX au I I I) (lW (bS sty28 I I I (ab sB) dC) ?_)));rintro _ _ _ ⟨b103,rfl,rfl,rfl⟩;refine lW (aP (e:=encCell) 1 nc sty28 I I I I (by rw[hnc]; rfl) oM oM) ?_;rintro v104 _ _ ⟨rfl,rfl⟩;refine zc9 fun ⟨w0,hw0⟩=>?_;obtain ⟨q104,d104,rfl⟩:=ag (i:=1) hw0 rfl;clear hw0 w0;refine lU (fA ed I c8 I) (oZ (sK 2 c8 I I I I I sB) ?_);refine nL (bN (tN (rG (yD I (lM I (nL (dR (s':=rowA encCell 63 (.slice q104 (rcs++[nc]).length d104) (rcs++[nc])::pt b6 (.cells #[.slice q104 (rcs++[nc]).length d104] 30 (0,0))::pt b2 (.cells #[.slice none 0 0] 30 (0,0))::s) (.cons _ (.refl _)) ?_)))))));refine gA (g5,_,rcs++[nc],n+1) sB I I ⟨hle3.trans (hle4.trans hle5),lN,?_⟩ lN;dsimp only;rw[eT hget];exact (hrcs.mono fun _ _=>aC.mono (hle4.trans hle5)).append ⟨(by rw[hnc]; exact⟨I,I,hsd⟩),trivial⟩
  ·have hnn:n=rs.length:=oM;have htk:(ba all).take n=ba all:=tL (by rw[bD]; omega);rw[htk] at hrcs;refine xI (tX (tX (bX (tN (sQ (fS fun g4 hle4 hs4=>?_))))));have hov:am g4 ov (ba all):=⟨rcs,hs4,hrcs.mono fun _ _=>aC.mono hle4⟩;refine rG (lK (qV 0 bh aw I I I) (lW (cL call51 I (jq E g4 _ ov (ba all) hov hfit)) ?_));rintro _ g5 _ ⟨rfl,hle5,u,rfl,hu⟩;obtain ⟨q9,d9,rfl⟩:=hu.form;refine oZ (sK 1 aw I I I I I sB) ?_;refine tZ (rE ?_);exact ST.retCD 1 s (.inl I) results54 I bh aw I I uR ⟨I,hle.trans (hle2.trans (hle3.trans (hle4.trans hle5))),_,I,by simp only[bQ,hsome]; exact hu⟩
theorem iV {l:List Int}(h:l.Pairwise (· ≤ ·)):dN l=l:=by
 unfold dN;exact List.mergeSort_of_pairwise (h.imp fun h=>by simpa using h)
theorem zD:bV [0,1,2]=[0,1,2]:=by
 unfold bV;rw[iV dC];rfl
theorem BF:bV [0,1]=[0,1]:=by
 unfold bV;rw[iV dC];rfl
theorem Ak {l:List Cl}(h:(l.all fun c=>decide (c.sides.length<100))=true)(h2:l.length<100):cR l:=by
 rw[List.all_eq_true] at h;exact⟨oM,fun c hc=>by have:=h c hc; simp at this; omega⟩
theorem az.cons_left {α β:Type}{R:α→β→Prop}{a:α}{l:List α}{m:List β}(h:az R (a::l) m):∃ b m',m=b::m'∧R a b∧az R l m':=by
 cases m with
 | nil=>exact h.elim
 | cons b m=>exact⟨b,m,rfl,h.1,h.2⟩
theorem az.nil_left {α β:Type}{R:α→β→Prop}{m:List β}(h:az R ([]:List α) m):m=[]:=by
 cases m with
 | nil=>rfl
 | cons b m=>exact h.elim
theorem dY {g:PH}{c:Cl}{r:Rc}(h:aC g c r):∃ p d,r=⟨c.id,c.dim,⟨p,c.sides.length,d⟩⟩∧SlA encSide g (.slice p c.sides.length d) c.sides:=by
 obtain ⟨i,dm,p,n,d⟩:=r;obtain ⟨h1,h2,h3⟩:=h;dsimp only at h1 h2 h3;have h4:=(SlA.cap h3).1;subst h1 h2 h4;exact⟨p,d,I,h3⟩
end Go.Proofs.YtcfkpajlakidbaaGreat
