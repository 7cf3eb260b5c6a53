/-
  More than 1000 edits are not applied, and 1000 are (EditsMany). No conditions.
-/
import Derived.Test.YtackilpikhkijaaGreatDoorMa09
import Derived.Test.YtackilpikhkijaaGreatDoorMa07
import Derived.Test.YtackilpikhkijaaGreatDoorTie
import Derived.Test.YtackilpikhkijaaGreatDoorCards
import Derived.LaidMore
import Derived.Lay
import Derived.SevenTiedAt
import Derived.Stop.Joined
set_option linter.unusedSimpArgs false
set_option linter.unusedVariables false
namespace Go.Proofs.YtackilpikhkijaaGreatDoor
open _root_.Go.Proofs.Tryz _root_.Go.Proofs.YtackilpikhkijaaGreatDoor.Tryz
open Go Go.Sy Go.Pl Go.Proofs
set_option maxRecDepth 100000
set_option maxHeartbeats 4000000
theorem allG_drop {es:List Ed}{k:Nat}(h:k<es.length)(A:List Cl)(ss:List Stp):allG A ss k (es.drop k)=if (appC A es[k]).1=0 then allG (appC A es[k]).2 (ss++[imO A es[k]]) (k+1) (es.drop (k+1)) else (((appC A es[k]).1,(k:Int)),[],[]):=by
 rw[List.drop_eq_getElem_cons h];rfl
theorem allG_end {es:List Ed}{k:Nat}(h:es.length≤k)(A:List Cl)(ss:List Stp):allG A ss k (es.drop k)=((0,0),A,ss):=by
 rw[List.drop_of_length_le h];rfl
theorem cells_n12 {g:PH}{p:Option Addr}{n c:Nat}{l:List Cl}(h:Cells g (.slice p n c) l):n=l.length:=by
 obtain ⟨q,d,e⟩:=h.form;injection e
theorem AllR.nil {g:PH}{code i:Int}:AllR ((code,i),[],[]) (.tuple #[.agg #[.slice none 0 0],.slice none 0 0,vi i,vi code]) g:=⟨_,none,0,0,rfl,Cells.nil g,Sts.nil g⟩
theorem prog_all (E:World)(g:PH)(s:Own)(v ev:Value)(l:List Cl)(es:List Ed)(hv:Cells g v l)(hf:Fits l)(he:Eds g ev es)(hs:∀ e∈es,EdS e)(hel:es.length<1099511627776) :
  Ctr Tryz.prog E 25 #[.agg #[v],ev] g s (fun r g' s'=>s=s'∧Le g g'∧AllR (allC l es) r g'):=by
 obtain ⟨p,c,rfl⟩:=hv.form;obtain ⟨rs,hrs,hall⟩:=he;have hrl:=hall.length;obtain ⟨pe,ce,rfl⟩:=SlA.form hrs;refine Ctr.of (args:=[.agg #[.slice p l.length c],.slice pe rs.length ce]) func25 I ntmps25 (bE I) ?_;refine rZ (bW (bO I) fun b2=>?_);refine bW (aL zeroValue29) fun b4=>?_;refine lA I (lA I (aT I (sQ (bK (sW I (lU (eN underlying63 I) (lU (gR I I) (aT I ?_))))))));refine iP I (fun h0=>?_) (fun h0=>?_)
 ·have hC:allC l es=((2,0),[],[]):=by unfold allC; rw[if_pos oM]
  refine rZ (lU (SU.build I buildE29) (oZ (sK 0 zT29 I I I I I sB) ?_));refine lA I (lA I (aT I (rE (bR (tR ?_)))));rw[hC];exact ST.retC3 0 s (.inl I) results25 I I I I iT29 zT29 I I (.cons _ (.cons _ (.refl _))) ⟨I,Le.refl _,AllR.nil⟩
 ·by_cases hr:(checkC l).2=0
  ·have hC:allC l es=allG (canonC l) [] 0 es:=by unfold allC; rw[if_neg oM,if_neg oM]
   refine rZ (lK (qV 1 iT29 zT29 I I I) (lW (cL call46 I (edRight_B E g _ _ l hv hf true (decide_eq_true hr))) ?_));rintro _ _ _ ⟨rfl,rfl,rfl⟩;refine lU (SU.not I) (aT I (cF I (kP (bN (tN (rZ (lK (qV 1 iT29 zT29 I I I) (lW (cL call55 I (canon_spec E g _ _ l hv hf)) ?_))))))));rintro _ g1 _ ⟨rfl,hle1,u1,rfl,hA⟩;obtain ⟨p1,c1,rfl⟩:=hA.form;refine oZ (sK 1 zT29 I I I I I sB) ?_;refine tZ (rZ (aT I (sQ (sW I (lU (eN underlying63 I) (lM I (tZ (bK ?_))))))));rw[hC];have hAl:=canonC_fits hf;generalize canonC l=A at *;refine SC.nilRow 46 2 ?_;refine oP (ι:=Nat×PH×List Cl×Option Addr×Nat×Value×List Sr×List Stp) (fun i=>[(2,pp b2 0),(4,pp b4 0),(8,i.2.2.2.2.2.1),(26,.slice pe rs.length ce),(27,vi rs.length),(28,vi i.1)]) (fun i=>i.2.1) (fun i=>rowA encSt 46 i.2.2.2.2.2.1 i.2.2.2.2.2.2.1::pt b4 (.cells #[.slice none 0 0] 29 (0,0))::pt b2 (.cells #[.slice i.2.2.2.1 i.2.2.1.length i.2.2.2.2.1] 29 (0,0))::s)
    (fun i=>i.1≤es.length∧Le g1 i.2.1∧Cells i.2.1 (.slice i.2.2.2.1 i.2.2.1.length i.2.2.2.2.1) i.2.2.1∧Fits i.2.2.1∧All2 (StK i.2.1) i.2.2.2.2.2.2.2 i.2.2.2.2.2.2.1∧i.2.2.2.2.2.2.1.length=i.1∧allG A [] 0 es=allG i.2.2.1 i.2.2.2.2.2.2.2 i.1 (es.drop i.1)) (fun i=>es.length - i.1)
    (0,g1,A,p1,c1,.slice none 0 0,[],[]) sB rfl rfl ⟨Nat.zero_le _,Le.refl _,hA,hAl,trivial,rfl,rfl⟩ ?_
   rintro ⟨k,gk,B,pk,ck,ov,acc,ss⟩ ⟨hk,hlek,hB,hBf,hacc,hal,heq⟩;dsimp only at hk hlek hB hBf hacc hal heq ⊢;refine rZ (lU (lS I I) (tZ (sQ ?_)));refine iP I (fun hlt=>?_) (fun hlt=>?_)
   ·have hke:k<es.length:=oM;have hkr:k<rs.length:=oM;have hrk:=SlA.mono hrs (hle1.trans hlek);have hbk:=SlA.based hrk oM;have hgx:rs[((k:Nat):Int).toNat]?=some rs[k]:=gE hkr;have hex:=(hall.get (gE hke) (gE hkr)).mono (hle1.trans hlek);have hsx:=hs _ (gM hke);rw[allG_drop hke] at heq;generalize es[k]=e at *;generalize rs[k]=x at *;obtain ⟨x1,x2,x3,x4,x5,⟨x6,x7,x8⟩,⟨x9,x10,x11⟩⟩:=x;have hDf:=appC_fits B e;refine kP (tN ?_);refine SC.cut (ι:=PH×Option Addr×Nat×Value×Sr) (fun i=>[(2,pp b2 0),(4,pp b4 0),(8,i.2.2.2.1),(26,.slice pe rs.length ce),(27,vi rs.length),(28,vi k)]) (fun i=>i.1) (fun i=>rowA encSt 46 i.2.2.2.1 (acc++[i.2.2.2.2])::pt b4 (.cells #[.slice none 0 0] 29 (0,0))::pt b2 (.cells #[.slice i.2.1 (appC B e).2.length i.2.2.1] 29 (0,0))::s)
     (fun i=>Le gk i.1∧Cells i.1 (.slice i.2.1 (appC B e).2.length i.2.2.1) (appC B e).2∧StK i.1 (imO B e) i.2.2.2.2∧allG A [] 0 es=allG (appC B e).2 (ss++[imO B e]) (k+1) (es.drop (k+1))) ?_ ?_
    ·refine bK (sW I (lU (iA underlying63 sizeOf35 I I hbk oM sL) (lK (eA isAgg35 sizeOf35 I (SlA.rd hrk) hgx) (bW (aL zeroValue35) fun b10=>?_))));refine lA I ?_;refine oZ (sK 0 sizeOf35 rfl rfl rfl rfl rfl (by (repeat' (first | exact trivial | refine⟨by rfl,?_⟩)))) ?_;refine tZ (rZ (lK (qV 3 iT29 zT29 I I I) (lK (qV 0 isAgg35 sizeOf35 I I I) (lW (cL call16 I (prog_apply E gk _ _ _ B e hB hBf hex hsx.1 (by have:=hsx.2; omega))) ?_))));rintro _ g2 _ ⟨rfl,hle2,hR⟩;obtain ⟨⟨d1,d2,d3⟩,⟨⟨y1,y2,y3⟩,y4⟩,rfl,hD,hS⟩:=hR.one;have hdn:=cells_n12 hD;subst hdn;refine lM I (lU (xT I I) (lU (xT I I) (lU (xT I I) (bW (aL zeroValue29) fun b11=>?_))));refine bW (aL zeroValue46) fun b12=>?_;refine oZ (sK 1 zT29 I I I I I sB) ?_;refine oZ (sK 0 zT46 I I I I I sB) ?_;refine aT I (sQ (sW I (lU (nQ I I) (tZ ?_))));refine iP I (fun hz=>?_) (fun hz=>?_)
     ·refine rZ (lU (SU.build I buildE29) (lM I (lM I (oZ (sK 4 zT29 I I I I I sB) ?_))));refine lA I (lA I (aT I (rE (tR (bR (tR (tR (bR (tR ?_)))))))));rw[if_neg hz] at heq;rw[heq];exact ST.retC3 4 s (.inl I) results25 I I I I iT29 zT29 I I (.cons _ (.cons _ (.cons _ (.cons _ (.cons _ (.cons _ (.refl _))))))) ⟨I,hle1.trans (hlek.trans hle2),AllR.nil⟩
     ·have hz:=Decidable.not_not.1 hz;rw[if_pos hz] at heq;refine kP (tN ?_);refine SC.drawX [4,5] Tryz.mixed kR ?_;refine SX.u (i:=1) I kR (mV I) dC (SX.q (i:=2) I kR (qV 0 isAgg46 zT46 I I I) dC ?_);refine SX.br2 0 3 kR ?_ ?_
      ·refine SB.o (i:=0) I (SQ.sof (qV 1 iT29 zT29 I I I)) dC (.inr iR) ?_;rintro _ _ _ ⟨rfl,rfl,rfl⟩;refine SX.br1 3 kR ?_
       ·refine SB.o (i:=3) I (bS sty67 I I I (szs_mk ⟨I,trivial⟩) dC) dC (.inr iR) ?_;rintro _ _ _ ⟨b48,rfl,rfl,rfl⟩;refine SX.br1 4 kR ?_
        ·refine SB.o (i:=4) I (aP (e:=encSt) (l:=acc) 3 ⟨⟨y1,y2,y3⟩,y4⟩ sty67 I I I I I oM oM) dC (.inl dC) ?_;rintro ov' _ _ ⟨rfl,rfl⟩;refine SX.br1 5 kR ?_
         ·refine SB.on (i:=5) I (sK 5 zT29 I I I I I sB) (.inl dC) ?_;rintro _ _ _ ⟨rfl,rfl⟩;refine SX.u (i:=6) I kR (aS I) dC (SX.nil kR (bN ?_));refine dR (.cons _ (.cons _ (.cons _ (.refl _)))) ?_; exact ST.mid (g2,d1,d3,ov',⟨⟨y1,y2,y3⟩,y4⟩) sB I I ⟨hle2,hD,hS,heq⟩
      ·refine SB.o (i:=3) I (bS sty67 I I I (szs_mk ⟨I,trivial⟩) dC) dC (.inr iR) ?_;rintro _ _ _ ⟨b48,rfl,rfl,rfl⟩;refine SX.br2 0 4 kR ?_ ?_
       ·refine SB.o (i:=0) I (SQ.sof (qV 2 iT29 zT29 I I I)) dC (.inr iR) ?_;rintro _ _ _ ⟨rfl,rfl,rfl⟩;refine SX.br1 4 kR ?_
        ·refine SB.o (i:=4) I (aP (e:=encSt) (l:=acc) 3 ⟨⟨y1,y2,y3⟩,y4⟩ sty67 I I I I I oM oM) dC (.inl dC) ?_;rintro ov' _ _ ⟨rfl,rfl⟩;refine SX.br1 5 kR ?_
         ·refine SB.on (i:=5) I (sK 5 zT29 I I I I I sB) (.inl dC) ?_;rintro _ _ _ ⟨rfl,rfl⟩;refine SX.u (i:=6) I kR (aS I) dC (SX.nil kR (bN ?_));refine dR (.cons _ (.cons _ (.cons _ (.refl _)))) ?_; exact ST.mid (g2,d1,d3,ov',⟨⟨y1,y2,y3⟩,y4⟩) sB I I ⟨hle2,hD,hS,heq⟩
       ·refine SB.o (i:=4) I (aP (e:=encSt) (l:=acc) 3 ⟨⟨y1,y2,y3⟩,y4⟩ sty67 I I I I I oM oM) dC (.inl dC) ?_;rintro ov' _ _ ⟨rfl,rfl⟩;refine SX.br1 0 kR ?_
        ·refine SB.ob (i:=0) I (SQ.sof (qV 1 iT29 zT29 I I I)) dC kR ?_;rintro _ _ _ ⟨rfl,rfl,rfl⟩;refine SX.br1 5 kR ?_
         ·refine SB.on (i:=5) I (sK 5 zT29 I I I I I sB) (.inl dC) ?_;rintro _ _ _ ⟨rfl,rfl⟩;refine SX.u (i:=6) I kR (aS I) dC (SX.nil kR (bN ?_));refine dR (.cons _ (.cons _ (.cons _ (.refl _)))) ?_; exact ST.mid (g2,d1,d3,ov',⟨⟨y1,y2,y3⟩,y4⟩) sB I I ⟨hle2,hD,hS,heq⟩
    rintro ⟨g2,d1,d3,ov',⟨⟨y1,y2,y3⟩,y4⟩⟩ ⟨hle2,hD,hS,heq⟩;dsimp only at hle2 hD hS heq ⊢;refine rG (lU (aD I I oM) (lM I (nL ?_)));exact gA (k+1,g2,(appC B e).2,d1,d3,ov',acc++[⟨⟨y1,y2,y3⟩,y4⟩],ss++[imO B e]) sB I I ⟨by dsimp only; omega,hlek.trans hle2,hD,hDf,(hacc.mono fun _ _=>StK.mono hle2).append ⟨hS,trivial⟩,by dsimp only; rw[List.length_append,List.length_singleton]; omega,heq⟩ (by dsimp only; omega)
   ·rw[allG_end oM] at heq;refine xI (tX (tX (bX (tN (sQ (fS fun g2 hle2 hs2=>?_))))));obtain ⟨q2,d2,rfl⟩:=Sl.form hs2;refine rG (lK (qV 1 iT29 zT29 I I I) (lM I (oZ (sK 0 zT29 I I I I I sB) ?_)));refine lA I (lA I (aT I (rE ?_)));rw[heq];exact ST.retC3 0 s (.inl I) results25 I I I I iT29 zT29 I I (.cons _ (.cons _ (.refl _))) ⟨I,hle1.trans (hlek.trans hle2),_,_,_,_,I,hB.mono hle2,acc,hs2,hacc.mono fun _ _=>StK.mono hle2⟩
  ·have hC:allC l es=((1,0),[],[]):=by unfold allC; rw[if_neg oM,if_pos hr]
   refine rZ (lK (qV 1 iT29 zT29 I I I) (lW (cL call46 I (edRight_B E g _ _ l hv hf false (decide_eq_false hr))) ?_));rintro _ _ _ ⟨rfl,rfl,rfl⟩;refine lU (SU.not I) (aT I (cT I (rZ (lU (SU.build I buildE29) (oZ (sK 0 zT29 I I I I I sB) ?_)))));refine lA I (lA I (aT I (rE (bR (tR ?_)))));rw[hC];exact ST.retC3 0 s (.inl I) results25 I I I I iT29 zT29 I I (.cons _ (.cons _ (.refl _))) ⟨I,Le.refl _,AllR.nil⟩
set_option maxHeartbeats 8000000
def edM (i:Nat):Ed:=if i % 2=1 then ⟨2,1,0,0,0,[],[]⟩ else ⟨1,1,0,0,0,[],[]⟩
def stM (i:Nat):List Cl:=if i % 2=1 then [⟨1,0,[]⟩] else []
def altM (k:Nat):List Ed:=(List.range k).map edM
theorem altM_succ (k:Nat):altM (k+1)=altM k++[edM k]:=by unfold altM; rw[List.range_succ,List.map_append]; rfl
theorem altM_len (k:Nat):(altM k).length=k:=by simp[altM]
theorem appM (i:Nat):appC (stM i) (edM i)=(0,stM (i+1)):=by
 unfold stM edM;by_cases h:i % 2=1
 ·rw[if_pos h,if_pos h,if_neg (show ¬ (i+1) % 2=1 by omega)];have h1:(appC [⟨1,0,[]⟩] ⟨2,1,0,0,0,[],[]⟩).1=0:=by decide +kernel
  have h2:(appC [⟨1,0,[]⟩] ⟨2,1,0,0,0,[],[]⟩).2=[]:=by kernel_rfl
  exact Prod.ext h1 h2
 ·rw[if_neg h,if_neg h,if_pos (show (i+1) % 2=1 by omega)];have h1:(appC [] ⟨1,1,0,0,0,[],[]⟩).1=0:=by decide +kernel
  have h2:(appC [] ⟨1,1,0,0,0,[],[]⟩).2=[⟨1,0,[]⟩]:=by kernel_rfl
  exact Prod.ext h1 h2
theorem allG_alt {k:Nat}:∀ (n i:Nat),n=k - i→i≤k→∀ ss:List Stp,∃ ss',allG (stM i) ss i ((altM k).drop i)=((0,0),stM k,ss')∧ss'.length=ss.length+(k - i)
 | 0,i,hn,hi,ss=>by
  have:i=k:=oM;subst this;rw[allG_end (by rw[altM_len]; exact lR _)];exact⟨ss,I,oM⟩
 | n+1,i,hn,hi,ss=>by
  have hlt:i<(altM k).length:=by rw[altM_len]; omega
  rw[allG_drop hlt];have he:(altM k)[i]=edM i:=by simp[altM]
  rw[he,appM];obtain ⟨ss',h1,h2⟩:=allG_alt (k:=k) n (i+1) oM oM (ss++[imO (stM i) (edM i)]);refine⟨ss',h1,?_⟩;rw[h2,List.length_append,List.length_singleton];omega
theorem allC_alt {k:Nat}(h:k≤1000):∃ ss',allC [] (altM k)=((0,0),stM k,ss')∧ss'.length=k:=by
 obtain ⟨ss',h1,h2⟩:=allG_alt (k:=k) k 0 rfl (Nat.zero_le _) [];refine⟨ss',?_,by simpa using h2⟩;unfold allC;rw[if_neg (by rw[altM_len]; omega),if_neg (by decide +kernel)];exact h1
theorem allC_many {k:Nat}(h:1000<k):allC [] (altM k)=((2,0),[],[]):=by
 unfold allC;rw[if_pos (by rw[altM_len]; exact h)]
theorem stM_len (k:Nat):((stM k).length:Int)=(k:Int).tmod 2:=by
 unfold stM;rw[Int.tmod_eq_emod_of_nonneg oM];split <;> simp <;> omega
theorem editsMany_spec (E:World)(g:PH)(s:Own)(n:Nat)(hn:n<256) :
  Ctr Tryz.prog E 9 #[.int .u8 (n:Int)] g s (fun r g' s'=>r=vb true∧s=s'∧Le g g'):=by
 obtain ⟨k,hk⟩:∃ k:Nat,k=995+n % 10:=⟨_,rfl⟩;have hkk:(n:Int).tmod 10=((n % 10:Nat):Int):=by rw[Int.tmod_eq_emod_of_nonneg oM]; rfl
 refine Ctr.of (args:=[.int .u8 (n:Int)]) func9 I ntmps9 (bE I) ?_;refine rZ (aT I (rZ (lW (cL call10 I (sanity12_spec E g _)) ?_)));rintro _ g1 _ ⟨rfl,rfl,hle1⟩;refine aT I (rZ (aT I (sW I (lU (SU.eq (v':=.int .u8 ((n % 10:Nat):Int)) (SU.rem I I dC) (by rw[hkk])) ?_))));refine lU (SU.eq (v':=vi ((n % 10:Nat):Int)) (SU.convert uT5 uT3 I) (congrArg vi (IntWalk.i64_in _ oM))) (lU (SU.eq (v':=vi (k:Int)) (aD I I ⟨oM,oM⟩) (congrArg vi oM)) ?_);refine aT I (sQ (rZ (aT I (bK (SC.nilRow 35 7 ?_)))));refine oP (ι:=Nat×Value×List Er) (fun i=>[(3,vb true),(4,i.2.1),(5,vi k),(6,vi i.1)]) (fun _=>g1) (fun i=>rowA encEd 35 i.2.1 i.2.2::s) (fun i=>i.1≤k∧i.2.2.length=i.1∧All2 (EdK g1) (altM i.1) i.2.2) (fun i=>k - i.1) (0,.slice none 0 0,[]) sB I I ⟨Nat.zero_le _,I,trivial⟩ ?_;rintro ⟨j,ov,acc⟩ ⟨hj,hal,hacc⟩;dsimp only at hj hal hacc ⊢;refine sQ (sW I (lM I (lU (lS I I) (tZ ?_))));refine iP I (fun hlt=>?_) (fun hlt=>?_)
 ·refine kP (tN (sQ (bK (rZ (lU (SU.build I (xB35 _ _)) (bW (aL zeroValue35) fun b7=>?_))))));refine oZ (sK 0 sizeOf35 rfl rfl rfl rfl rfl (by (repeat' (first | exact trivial | refine⟨by rfl,?_⟩)))) ?_;refine tZ ?_;refine SC.cut (ι:=Int) (fun _=>[(3,vb true),(4,ov),(5,vi k),(6,vi j),(7,pp b7 0)]) (fun _=>g1) (fun d=>pt b7 (.cells #[vi d,vi 1,vi 0,vi 0,vi 0,.slice none 0 0,.slice none 0 0] 35 (0,0))::rowA encEd 35 ov acc::s) (fun d=>d=(edM j).kind) ?_ ?_
  ·refine sW rfl (lU (SU.eq (v':=vi ((j % 2:Nat):Int)) (SU.rem rfl rfl dC) (congrArg vi (by rw[Int.tmod_eq_emod_of_nonneg oM]; rfl))) ?_);refine lU (eQ I I) (tZ ?_);refine iP I (fun h1=>?_) (fun h1=>?_)
   ·refine rG (lU (SU.build I (xB35 _ _)) ?_);refine oZ (sK 0 sizeOf35 rfl rfl rfl rfl rfl (by (repeat' (first | exact trivial | refine⟨by rfl,?_⟩)))) ?_;refine nL ?_;exact ST.mid 2 sB I I (by unfold edM; rw[if_pos oM])
   ·refine kP ?_;exact ST.mid 1 sB I I (by unfold edM; rw[if_neg oM])
  rintro d hd;try dsimp only at hd ⊢
  have hE:EdK g1 (edM j) ⟨d,1,0,0,0,⟨none,0,0⟩,⟨none,0,0⟩⟩:=by
   subst hd;unfold edM;split
   ·exact⟨_,_,I,Sl.nil _ _,Sl.nil _ _⟩
   ·exact⟨_,_,I,Sl.nil _ _,Sl.nil _ _⟩
  refine rG (lM I (lK (qV 0 isAgg35 sizeOf35 I I I) (lW (bS sty63 I I I (szs_mk ⟨I,trivial⟩) dC) ?_)));rintro _ _ _ ⟨b29,rfl,rfl,rfl⟩;refine lW (aP (e:=encEd) (l:=acc) 1 ⟨d,1,0,0,0,⟨none,0,0⟩,⟨none,0,0⟩⟩ sty63 I I I I I oM oM) ?_;rintro ov' _ _ ⟨rfl,rfl⟩;refine lA I (nL (bN (tN (rG (lM I (lU (aD I I oM) (lA I (nL (dR (.cons _ (.refl _)) ?_)))))))));exact gA (j+1,ov',acc++[⟨d,1,0,0,0,⟨none,0,0⟩,⟨none,0,0⟩⟩]) sB I I ⟨by dsimp only; omega,by dsimp only; rw[List.length_append,List.length_singleton]; omega,by dsimp only; rw[altM_succ]; exact hacc.append ⟨hE,trivial⟩⟩ (by dsimp only; omega)
 ·have hjk:j=k:=oM;subst hjk;have hsm:∀ e∈altM j,EdS e:=fun e he=>by
   obtain ⟨i,_,rfl⟩:=List.mem_map.1 he;unfold edM;split <;> exact⟨by simp,by simp⟩
  refine xI (tX (tX (bX (tN (sQ (fS fun g2 hle2 hs2=>?_))))));obtain ⟨q2,d2,rfl⟩:=Sl.form hs2;have hE2:Eds g2 (.slice q2 acc.length d2) (altM j):=⟨acc,hs2,hacc.mono fun _ _=>EdK.mono hle2⟩;refine rG (lU (SU.build I buildE29) (lM I (lW (cL call25 I (prog_all E g2 _ _ _ [] (altM j) (Cells.nil _) ⟨by simp,by simp⟩ hE2 hsm (by rw[altM_len]; omega))) ?_)));rintro _ g3 _ ⟨rfl,hle3,u1,q1,n1,c1,rfl,hA1,hS1⟩;obtain ⟨pA,cA,rfl⟩:=hA1.form;obtain ⟨qs,qc,hqs⟩:=hS1.form;obtain ⟨rfl,rfl,rfl⟩:q1=qs∧n1=(allC [] (altM j)).2.2.length∧c1=qc:=by injection hqs with h1 h2 h3; exact⟨h1,h2,h3⟩
  refine lM I (lU (xT I I) (lU (xT I I) (lU (xT I I) (lU (xT I I) (bW (aL zeroValue29) fun b8=>?_)))));refine oZ (sK 0 zT29 I I I I I sB) ?_;refine lA I (lA I (aT I (sQ (sW I (lU (gR I I) (tZ ?_))))));refine iP I (fun hj2=>?_) (fun hj2=>?_)
  ·have hm:1000<j:=oM;rw[allC_many hm];refine sW I (lM I (lY I I I (mV I) (lY I I I (SU.eq (v':=vb true) (eQ I I) (congrArg vb (decide_eq_true I))) (lU (wT I I) (lM I (lY I I I (mV I) (lY I I I (SU.eq (v':=vb true) (eQ I I) (congrArg vb (decide_eq_true I))) (lU (wT I I) (lM I (lY I I I (mV I) (lY I I I (eN underlying67 I) (lY I I I (SU.eq (v':=vb true) (eQ I I) (congrArg vb (decide_eq_true I))) (lU (wT I I) (lM I (lY I I I (fA uT29 I zT27 I) (SL.gq (gT I I I dC) (qL (v:=.slice pA 0 cA) isAgg27 I (cO 0 I I)) dC (lY I I I (eN uT27 I) (lY I I I (SU.eq (v':=vb true) (eQ I I) (congrArg vb (decide_eq_true I))) (lU (wT I I) (aT I (rE (tR (dR (s':=s) uR ?_)))))))))))))))))))))));exact ST.ret1 (.inl I) results9 I ⟨I,I,hle1.trans (hle2.trans hle3)⟩
  ·obtain ⟨ss,hss,hsl⟩:=allC_alt (k:=j) oM;have hst:=stM_len j;rw[hss];refine kP (tN (sW I (lM I (lY I I I (mV I) (lY I I I (SU.eq (v':=vb true) (eQ I I) (congrArg vb (decide_eq_true I))) (lU (wT I I) (lM I (lY I I I (mV I) (lY I I I (SU.eq (v':=vb true) (eQ I I) (congrArg vb (decide_eq_true I))) (lU (wT I I) (lM I (lY I I I (mV I) (lY I I I (eN underlying67 I) (lY I I I (mV I) (lY I I I (SU.eq (v':=vb true) (eQ I I) (congrArg vb (decide_eq_true (by (try simp only[slen]); omega)))) ?_)))))))))))))));refine lU (wT I I) (lM I (lY I I I (fA uT29 I zT27 I) (SL.gq (gT I I I dC) (qL (v:=.slice pA (stM j).length cA) isAgg27 I (cO 0 I I)) dC (lY I I I (eN uT27 I) (lY I I I (mV I) (lY I I I (SU.rem I I dC) (lY I I I (SU.eq (v':=vb true) (eQ I I) (congrArg vb (decide_eq_true (by (try simp only[slen]); exact hst)))) ?_)))))));refine lU (wT I I) (aT I (rE (dR (s':=s) uR ?_)));exact ST.ret1 (.inl I) results9 I ⟨I,I,hle1.trans (hle2.trans hle3)⟩
end Go.Proofs.YtackilpikhkijaaGreatDoor
namespace Go.Proofs.YtackilpikhkijaaGreatDoor.editsManyDone
open _root_.Go.Proofs.Tryz _root_.Go.Proofs.YtackilpikhkijaaGreatDoor.Tryz
open Go Go.Sy Go.Pl Go.Proofs Go.Proofs.YtackilpikhkijaaGreatDoor
open Go.ChangeShapes Go.WideShapes Go.ChangeAt Go.RowKit
set_option linter.unusedVariables false
theorem own:ownKnob Tryz.prog.godebug=none:=by kernel_rfl
theorem laidOut:laidOutB Tryz.prog=true:=by kernel_rfl
set_option maxRecDepth 100000 in
theorem lifted (os:Os)(started:os.Started)(H:Type)(enc:TypeId×Value→H) :
  ReturnsInHanded {} Tryz.checked os 9 .any (fun w args=>(Rows.editsManySpec.pre enc Tryz.prog f9 Rows.editsManyRow.domain false w args∧laidMetH Tryz.prog Rows.editsManyRow.laid w)∧sizedMet enc Tryz.prog f9 (OpenSpec.ofChange Rows.editsManySpec) false w args)
   (Rows.editsManySpec.post enc Tryz.prog f9 false true false false):=by
 refine returnsInHanded_of_change_and (C:=Tryz.checked) (X:=fun w _=>laidMetH Tryz.prog Rows.editsManyRow.laid w) (fun _ _ _ hh h=>h.of_heap hh) own started kR func9
  (ChangeSpec.witness_shaped (enc:=enc) (C:=Tryz.checked) (os:=os) (X:=fun w _=>laidMetH Tryz.prog Rows.editsManyRow.laid w) false (World.laidAll Tryz.prog os Rows.editsManyRow.laid) #[.int .u8 0] 8 (World.laidAll_os _ _ _)
   (World.shaped_of_ZipB kR kR) kR kR kR
   (by rw[MakeChecks.laidMetH_plain _ _ _ kR]; exact laidMet_laidAll _ kR kR)) ?_
 intro W base args ds gs before hval0 hW hcnd hsz0 hL _;have hval:∀ (j:Nat) t v,f9.params[j]?=some t→args[j]?=some v→Value.okWide Tryz.prog W .any base t v:=hval0;have hW':=hW;obtain ⟨p,q,hA0,hV,rfl,hfz,hnd⟩:=hW;have hA:DataW.TrodAll enc Tryz.prog W 0 (fun _=>true) true f9.params.toList args.toList ds p:=hA0;rw[params9] at hA hval;obtain ⟨v0,vs0,d0,ds0,p0,q0,hargs,rfl,rfl,h0,r0⟩:=trodAll_cons hA;obtain ⟨rfl,rfl,rfl⟩:=trodAll_nil r0;obtain rfl:args = #[v0]:=by cases args; simp_all
 obtain ⟨rfl,rfl⟩:=trodVars_none hV;have lt0:∀ x∈p0,x.block<W.heap.size:=by obtain ⟨m,hm⟩:=h0; exact DataW.trod_lt m _ _ _ hm
 obtain ⟨k0,e0,hk0⟩:=u8_arg (hval 0 5 v0 rfl rfl) h0;clear hA0 hval0;have walk:Calls Tryz.prog 9 #[v0] W fun e w'=>e = .returned (.bool true)∧Below W.heap.size W w':=by
  rw[e0];refine (editsMany_spec (E0 W) (held W) [] k0 hk0 W (at_start W)).mono ?_;rintro e w' ⟨v,g',s',rfl,hat,rfl,rfl,hle⟩;exact⟨I,at_below hat hle⟩
 refine walk.mono fun e W' ⟨he,bel⟩=>?_;subst he;exact⟨_,I,_,_,_,[],_,[],hW',trodAll_mk1 (shut_bool uT4 _),(trodAll_cons_mk (Below.trod laidOut kR (of_decide_eq_true kR) h0 bel lt0) trodAll_mk0),I,bel.frame _,fun h=>by cases h⟩
theorem over:Rows.editsManyRow.holds Tryz.pinned (OpenSpec.ofChange Rows.editsManySpec) :=
 OpenClaim.holds_of_wide 9 f9 rfl rfl rfl rfl rfl rfl rfl ⟨rfl,rfl,rfl,rfl,rfl⟩ rfl rfl rfl rfl rfl kR func9 kR
  (of_decide_eq_true kR) (by unfold Func.isWrapper; first | (rw[if_pos (by decide +kernel)]; kernel_rfl) | (rw[if_neg (by decide +kernel)]; exact⟨rfl,rfl⟩))
  (fun os started H enc _=>lifted os started H enc)
theorem proved:Rows.EditsManyCardSaid :=
 Claim7.holds_tied_plain_at .later [] [.data,.pinned] true (true, "85c63643d982c1dc8445885ae8d9f831c52b04b8be462a812c531b9780928fe8") false
  over (fun _ h=>by cases h) kR (fun _ h=>by cases h) editsMany_row_tie rfl ⟨rfl,rfl⟩ kR rfl
  (fun f fn hf hfn=>by
   obtain rfl : f = 9:=Option.some.inj ((show Tryz.prog.funcNamed "cocycle/cocyclelaw12.EditsMany" = some 9 by kernel_rfl).symm.trans hf) |>.symm
   obtain rfl:fn=f9:=(Option.some.inj (func9.symm.trans hfn)).symm;exact⟨by kernel_rfl,fun j t ht=>by
    rw[params9] at ht;have hm:t∈[5]:=by simpa using Array.mem_of_getElem? ht
    have hall:([5].all fun u=>!Tryz.prog.wantsStandIn u)=true:=by kernel_rfl
    exact (show Tryz.prog.wantsStandIn t=false by simpa using List.all_eq_true.1 hall t hm)⟩)
  kR
#print axioms proved
end Go.Proofs.YtackilpikhkijaaGreatDoor.editsManyDone
