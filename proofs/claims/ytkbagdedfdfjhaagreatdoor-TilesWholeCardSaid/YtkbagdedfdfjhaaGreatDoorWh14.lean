/-
  The law TilesWhole holds for all arguments: with one tile that contains everything, the blowup is the complex with other numbers, and there is one page, which has the Betti numbers.
-/
import Derived.Test.YtkbagdedfdfjhaaGreatDoorWh13
import Derived.Test.YtkbagdedfdfjhaaGreatDoorWh06
import Derived.Test.YtkbagdedfdfjhaaGreatDoorWh08
import Derived.Test.YtkbagdedfdfjhaaGreatDoorWh09
import Derived.Test.YtkbagdedfdfjhaaGreatDoorWh07
import Derived.Test.YtkbagdedfdfjhaaGreatDoorWh10
import Derived.Test.YtkbagdedfdfjhaaGreatDoorWh12
import Derived.Test.YtkbagdedfdfjhaaGreatDoorWh11
import Derived.Test.YtkbagdedfdfjhaaGreatDoorTie
import Derived.Test.YtkbagdedfdfjhaaGreatDoorCards
import Derived.JoinedOf
import Derived.LaidMore
import Derived.Lay
import Derived.SevenTiedAt
import Derived.Stop.Joined
set_option linter.unusedSimpArgs false
set_option linter.unusedVariables false
namespace Go.Proofs.YtkbagdedfdfjhaaGreatDoor
open _root_.Go.Proofs.Tryz _root_.Go.Proofs.YtkbagdedfdfjhaaGreatDoor.Tryz
open Go Go.Sy Go.Pl Go.Proofs
set_option maxRecDepth 100000
set_option maxHeartbeats 4000000
structure PgOk (l:List Cl)(T:List (List Int))(p:Int):Prop where
 fp:Fp p
 opn:ep l T=0
 few:T.length≤6
 bok:Bok T.length (cj (ae l) T)
 dim:oL l+1=((dimN l:Nat):Int)
 dims:dimN l≤9
 eq:cD l T p=iS (jH (rkP p) T.length (cj (ae l) T) (dimN l))
theorem uX {B:List Cl}(h:qN B=false)(d:Int):(B.filter fun c=>decide (c.dim=d)).length≤200:=by
 cases hd:B.filter (fun c=>decide (c.dim=d)) with
 | nil=>simp
 | cons c q =>
  have hc:c∈B.filter fun c=>decide (c.dim=d):=by rw[hd]; simp
  obtain ⟨h1,h2⟩:=zg9.1 hc;have h2:c.dim=d:=zf8 h2;subst h2;rw[← hd];refine Nat.le_of_not_lt fun h3=>?_;rw[y8 h1 h3] at h;cases h
theorem qr {l:List Cl}{T:List (List Int)}{p:Int}(h:de l T p=0):PgOk l T p:=by
 have hC:cD l T p=iS (jH (rkP p) T.length (cj (ae l) T) (dimN l)):=by unfold cD; rw[zf5 (by rw[h]; simp)]
 unfold de at h;split at h
 ·cases h
 ·rename_i hpr;split at h
  ·rename_i hop; exact absurd h hop
  ·rename_i hop;have hop:=zg5 hop;split at h
   ·cases h
   ·rename_i hbl;have hbl1:(aW (cj (ae l) T)).2=0:=zg5 fun k=>hbl (.inl k);have hmany:qN (cj (ae l) T)=false:=Bool.eq_false_iff.2 fun k=>hbl (.inr k);obtain ⟨hok,hT6⟩:=jP hop;have hRt:=lC hok;have hLt:ae l=aa l:=a8 hRt.asc;have hRt:Rt (ae l):=by rw[hLt]; exact hRt
    have hBR:Rt (cj (ae l) T):=by
     have:=lC hbl1;unfold cj at this ⊢;rwa [fy] at this
    have hdim:=zo hok;have hD:oL l+1=((dimN l:Nat):Int):=by unfold dimN oL at *; omega
    exact⟨fj.1 (by simpa using hpr),hop,hT6,⟨hBR,zy hRt hT6,uX hmany⟩,hD,oM,hC⟩
theorem rB {α:Type}[DecidableEq α]:∀ {l:List α} {x:α},x∈oA l→x∈l
 | [],_,h=>h
 | [_],_,h=>h
 | a::b::l,x,h=>by
  unfold oA at h;split at h
  ·exact List.mem_cons_of_mem _ (rB h)
  ·exact h
theorem zH {α:Type}[DecidableEq α]{l:List α}{x:α}(h:x∈iS l):x∈l:=by
 unfold iS at h;rw[List.mem_reverse] at h;have:=rB h;rwa [List.mem_reverse] at this
theorem rC {α:Type}[DecidableEq α]:∀ {l:List α},(oA l).length≤l.length
 | []=>lR _
 | [_]=>lR _
 | a::b::l=>by
  unfold oA;split
  ·exact zk3 rC (Nat.le_succ _)
  ·exact lR _
theorem zI {α:Type}[DecidableEq α]{l:List α}:(iS l).length≤l.length:=by
 unfold iS;rw[List.length_reverse];have:=rC (l:=l.reverse);rwa [List.length_reverse] at this
theorem D1 {p:Int}(hp:Fp p){n:Nat}{B:List Cl}(hB:Bok n B)(r a b:Int):(tr (rkP p) n B r a b).natAbs≤800:=by
 have hbd:=vJ hp hB;have b1:=hbd a (a - r) (a+b);have b2:=hbd (a - 1) (a - r) (a+b);have b3:=hbd (a+r - 1) a (a+b+1);have b4:=hbd (a+r - 1) (a - 1) (a+b+1);unfold tr;omega
theorem BJ {l:List Cl}{T:List (List Int)}{p:Int}(h:de l T p=0):∀ Q∈cD l T p,Q.length=T.length∧∀ x∈Q,x.length=dimN l∧∀ y∈x,y.natAbs≤800:=fun Q hQ=>by
 have ho:=qr h;rw[ho.eq] at hQ;obtain ⟨r,-,rfl⟩:=ze7.1 (zH hQ);refine⟨rP,fun x hx=>?_⟩;obtain ⟨a,-,rfl⟩:=ze7.1 hx;refine⟨by rw[ze2,zh9],fun y hy=>?_⟩;obtain ⟨b,-,rfl⟩:=ze7.1 hy;exact D1 ho.fp ho.bok _ _ _
theorem Ad {l:List Cl}{T:List (List Int)}{p:Int}:(cD l T p).length≤T.length:=by
 unfold cD;split
 ·exact zf2 _
 ·refine zk3 zI ?_;rw[px];exact lR _
def ts (P:List (List Int))(d:Nat):Int:=((P.zipIdx.map fun q=>if q.2≤d then q.1.getD (d - q.2) 0 else 0)).sum
theorem fo (D:Nat)(P:List (List Int)):fv D P=(List.range D).map (ts P):=rfl
theorem kx (P:List (List Int))(x:List Int)(d:Nat):ts (P++[x]) d=ts P d+if P.length≤d then x.getD (d - P.length) 0 else 0:=by
 unfold ts;rw[List.zipIdx_append,zg1,List.sum_append];simp
theorem Cs (P:List (List Int))(d:Nat):ts (P++[[]]) d=ts P d:=by rw[kx]; simp
theorem pj {m:Nat}:∀ {q:List Int},(∀ y∈q,y.natAbs≤m)→q.sum.natAbs≤q.length * m
 | [],_=>by simp
 | y::q,h=>by
  have h1:=h y (by simp);have h2:=pj (q:=q) fun z hz=>h z (by simp[hz]);rw[List.sum_cons,ze4,Nat.succ_mul];omega
theorem Ej {m:Nat}{P:List (List Int)}(h:∀ x∈P,∀ y∈x,y.natAbs≤m)(d:Nat):(ts P d).natAbs≤P.length * m:=by
 have:=pj (m:=m) (q:=P.zipIdx.map fun q=>if q.2≤d then q.1.getD (d - q.2) 0 else 0) fun y hy=>by
  obtain ⟨q,hq,rfl⟩:=ze7.1 hy;split
  ·rw[zg6];cases hx:q.1[d - q.2]? with
   | none=>simp
   | some y=>exact h q.1 (List.fst_mem_of_mem_zipIdx hq) y (zf7 hx)
  ·simp
 rwa [ze2,List.length_zipIdx] at this
theorem wE (D:Nat)(P:List (List Int))(x:List Int)(j:Nat)(hj:j<x.length):fv D (P++[x.take (j+1)])=(fv D (P++[x.take j])).set (P.length+j) (ts (P++[x.take j]) (P.length+j)+x[j]):=by
 rw[fo,fo];refine List.ext_getElem? fun d=>?_;rw[List.getElem?_set,zh5,zh5,ze2,zh9];by_cases hd:d<D
 ·rw[List.getElem?_range hd];show some _=if P.length+j=d then (if P.length+j<D then some (ts (P++[x.take j]) (P.length+j)+x[j]) else none) else some (ts (P++[x.take j]) d)
  rw[kx,kx,kx];have e1:x.take (j+1)=x.take j++[x[j]]:=tS hj;by_cases e:P.length+j=d
  ·subst e;rw[zf6 rfl,zf6 hd,zf6 oM,zf6 oM,Nat.add_sub_cancel_left,e1];simp[zg6,Nat.le_of_lt hj,zg8,gE hj]
  ·rw[zf5 e];congr 2;by_cases e2:P.length≤d
   ·rw[zf6 e2,zf6 e2,zg6,zg6];congr 1;rw[zh6,zh6];split <;> split <;> first | rfl | omega | skip
   ·rw[zf5 e2,zf5 e2]
 ·rw[List.getElem?_eq_none (by rw[zh9]; omega)];split
  ·rw[zf5 oM]; rfl
  ·rfl
theorem Ei {D:Nat}{P:List (List Int)}{x:List Int}{j:Nat}(hj:j<x.length)(h:¬ P.length+j<D):fv D (P++[x.take (j+1)])=fv D (P++[x.take j]):=by
 rw[wE D P x j hj,List.set_eq_of_length_le];rw[fo,ze2,zh9];omega
theorem xZ (E:World)(hE:E.drawn=0)(g:PH)(s:Own)(v tv:Value)(l:List Cl)(T:List (List Int))(p:Int)(hv:aq g v l)(hf:dd l)(hw:∀ c∈l,iU c.id)(ht:aG g tv T)(hT:T.length<1099511627776)(hTl:∀ t∈T,t.length<1099511627776)(hp2:2≤p)(hp9:p<9) :
  Ctr Tryz.prog E 9 #[.agg #[v],tv,vi p] g s (fun x g' s'=>s=s'∧Le g g'∧∃ u,x = .tuple #[u,vi (de l T p)]∧bP g' u (jj l T p)):=by
 obtain ⟨vp,vc,rfl⟩:=hv.form;refine za9 (args:=[.agg #[.slice vp l.length vc],tv,vi p]) func9 I ntmps9 (bE I) ?_;refine rZ (bW (bO I) fun b3=>?_);refine lA I (aT I (rZ (lK (qV 0 be ax I I I) (lM I (lM I (lW (cL call13 I (kY E hE g _ _ tv l T p hv hf hw ht hT hTl hp2 hp9)) ?_))))));rintro _ g1 _ ⟨rfl,hle1,u,rfl,us,hus,hall⟩;obtain ⟨up,uc,rfl⟩:=za2 hus;have hlen:=hall.length;by_cases he:de l T p=0
 ·refine lM I (yX I (yX I (lA I (aT I (sQ (sW I (lU (SU.eq (v':=vb false) (nQ I I) (zd7 vb (by rw[he]; rfl))) ?_)))))));refine lM I (yC I (lY I I I (eN lV I) (lY I I I (eQ I I) (yF I (tZ ?_)))));refine iP I (fun h0=>?_) (fun h0=>?_)
  ·refine sW I (lA I (aT I (rE (tR ?_))));have hb:jj l T p=[]:=by unfold jj; rw[zf6 oM]
   refine dR (s':=s) uR ?_;exact ST.ret2 (.inl I) results9 I I ⟨I,hle1,_,I,by rw[hb]; exact zb8 _ _⟩
  ·have ho:=qr he;have hbd:=BJ he;obtain ⟨hfp,-,hT6,hbok,hD,hD9,-⟩:=ho;have hb:jj l T p=fv (dimN l) ((cD l T p).getLastD []):=by unfold jj; rw[zf5 oM]
   have hpf:=Ad (l:=l) (T:=T) (p:=p);have hPl:us.length - 1<(cD l T p).length:=oM;have hQ:(cD l T p)[us.length - 1]?=some ((cD l T p)[us.length - 1]):=gE hPl;have hlast:(cD l T p).getLastD []=(cD l T p)[us.length - 1]:=by
    rw[List.getLastD_eq_getLast?,List.getLast?_eq_getElem?,hlen,hQ];rfl
   have hQm:=gM hPl;have hQR:=hall.get hQ (gE (i:=us.length - 1) oM);have hgu:us[((us.length:Int) - 1).toNat]?=some (us[us.length - 1]'oM):=by
    rw[show ((us.length:Int) - 1).toNat=us.length - 1 by omega];exact gE _
   rw[hlast] at hb;have hb1:=za4 hus oM;generalize (cD l T p)[us.length - 1]=Q at *;generalize us[us.length - 1]'oM=r1 at *;obtain ⟨p1,n1,c1⟩:=r1;obtain ⟨hQl,hQx⟩:=hbd Q hQm;obtain ⟨rs,hrs,hallr⟩:=hQR;dsimp only at hrs;obtain ⟨rfl,-⟩:=SlA.cap hrs;have hrl:=hallr.length;refine kP (tN (rZ (lK (qV 0 be ax I I I) (lW (cL call14 I (i5 E g1 _ (.slice vp l.length vc) l (hv.mono hle1) hf)) ?_))));rintro _ g2 _ ⟨rfl,rfl,hle2⟩;refine lU (SU.eq (v':=vi (dimN l)) (aD I I oM) (zd7 vi hD)) (lW (mK encInt 0 sty25 I I I oM oM) ?_);rintro _ _ _ ⟨bl,rfl,rfl,rfl⟩;refine aT I (sQ (sW I (lM I (lU (eN lV I) (lU (sU I I oM) (lU (iA lV o4 I I hb1 oM (show ((us.length:Int) - 1)<((us.length:Nat):Int) by omega)) ?_))))));refine lK (eB (u:=.slice p1 rs.length c1) isAgg22 I (za5 (za3 hus hle2)) hgu I) (lU (eN bA I) (lM I (tZ (bK ?_))));generalize dimN l=D at *;have h00:fv D []=List.replicate D 0:=by
    rw[fo,List.eq_replicate_iff];exact⟨by simp,fun b hb=>by obtain ⟨d,_,rfl⟩:=ze7.1 hb; rfl⟩
   rw[← h00];have hrs2:=za3 hrs hle2;refine oP (ι:=Nat) (fun a=>[(10,.slice (some ⟨bl,0,none⟩) D D),(39,.slice p1 rs.length c1),(40,vi rs.length),(41,vi a)]) (fun _=>g2) (fun a=>rowA encInt 3 (.slice (some ⟨bl,0,none⟩) D D) (fv D (Q.take a))::pt b3 (.cells #[.slice vp l.length vc] 30 (0,0))::s) (fun a=>a≤rs.length) (fun a=>rs.length - a) 0 sB I I (zf2 _) ?_;rintro a ha;refine rZ (yL I (tZ (sQ ?_)));refine iP I (fun hlt=>?_) (fun hlt=>?_)
   ·have har:a<rs.length:=oM;have haQ:a<Q.length:=oM;have hgr:rs[((a:Nat):Int).toNat]?=some rs[a]:=gE har;have hR:=hallr.get (gE haQ) (gE har);have hb2:=za4 hrs oM;have hxm:=gM haQ;have htk:Q.take (a+1)=Q.take a++[Q[a]]:=tS haQ;have hQtl:(Q.take a).length=a:=by rw[zd9]; omega
    have hQtm:∀ y∈Q.take a,∀ z∈y,z.natAbs≤800:=fun y hy=>(hQx y (List.mem_of_mem_take hy)).2;generalize Q.take a=Qa at *;generalize Q[a]=x at *;generalize rs[a]=r at *;obtain ⟨p2,n2,c2⟩:=r;have hR:bP g1 (.slice p2 n2 c2) x:=hR;obtain ⟨rfl,-⟩:=SlA.cap hR;obtain ⟨hxl,hxb⟩:=hQx x hxm;have hR2:=za3 hR hle2;refine kP (tN (sQ (bK (sW I (lU (iA bA bZ I I hb2 oM sL) (lK (eB (u:=.slice p2 x.length c2) dh I (za5 hrs2) hgr I) (lA I (aT I (sW I (lU (eN aj I) (lM I (tZ (bK ?_)))))))))))));refine oP (ι:=Nat) (fun j=>[(10,.slice (some ⟨bl,0,none⟩) D D),(11,vi a),(39,.slice p1 rs.length c1),(40,vi rs.length),(41,vi a),(46,.slice p2 x.length c2),(47,vi x.length),(48,vi j)]) (fun _=>g2) (fun j=>rowA encInt 3 (.slice (some ⟨bl,0,none⟩) D D) (fv D (Qa++[x.take j]))::pt b3 (.cells #[.slice vp l.length vc] 30 (0,0))::s) (fun j=>j≤x.length) (fun j=>x.length - j) 0 sB I (by rw[show fv D (Qa++[x.take 0])=fv D Qa from zc5 fun d _=>Cs Qa d]) (zf2 _) ?_;rintro j hj;refine rZ (yL I (tZ (sQ ?_)));refine iP I (fun hlt2=>?_) (fun hlt2=>?_)
    ·have hjx:j<x.length:=oM;have hb3:=za4 hR oM;have hgx:x[((j:Nat):Int).toNat]?=some x[j]:=gE hjx;have hst:=wE D Qa x j hjx;have hou:=Ei (D:=D) (P:=Qa) hjx;have hyb:=hxb _ (gM hjx);rw[hQtl] at hst hou;refine kP (tN (sQ (bK (sW I (lU (iA aj zT3 I I hb3 oM sL) (lK (eB iT3 I (za5 hR2) hgx I) (lA I (aT I (sW I (lM I (yD I (lM I (lU (eN aj I) (yL I (tZ ?_)))))))))))))));refine iP I (fun hin=>?_) (fun hin=>?_)
     ·have hin':a+j<D:=oM;have hBb:=Ej (P:=Qa++[x.take j]) (m:=800) (fun y hy=>by
       rcases ze8.1 hy with h | h
       ·exact hQtm y h
       ·rw[zh3] at h;subst h;exact fun z hz=>hxb z (List.mem_of_mem_take hz)) (a+j)
      rw[ze1,ze3,hQtl] at hBb;have hBk:(fv D (Qa++[x.take j]))[((a:Int)+j).toNat]?=some (ts (Qa++[x.take j]) (a+j)):=by
       rw[show ((a:Int)+j).toNat=a+j by omega,fo,zh5,List.getElem?_range hin'];rfl
      have hBl:(fv D (Qa++[x.take j])).length=D:=by rw[fo,ze2,zh9]
      generalize ts (Qa++[x.take j]) (a+j)=y0 at *;refine rG (lM I (lM I (lM I (yD I (lU (iA aj zT3 I I I oM sL) (lK (eB iT3 I (zb5 (e:=encInt) 0 I) hBk I) (lM I (yD I (lU (SU.eq (v':=.pointer (some ⟨bl,0+(a+j) * 1,none⟩)) (iA aj zT3 I I I oM sL) (by rw[show ((a:Int)+j).toNat=a+j by omega]; rfl)) ?_)))))))));refine oZ (sT (e:=encInt) (a:=y0+x[j]) (j:=a+j) 0 zT3 I I I (by rw[hBl]; exact hin') I) ?_;rw[← hst];refine nL (bN (tN (rG (yD I (lM I (nL ?_))))));exact gA (j+1) sB I I oM oM
     ·rw[← hou oM];refine kP (bN (tN (rG (yD I (lM I (nL ?_))))));exact gA (j+1) sB I I oM oM
    ·have hje:j=x.length:=oM;subst hje;rw[List.take_length,← htk];refine xI (tX (tX (bX (bN (tN (rG (yD I (lM I (nL ?_)))))))));exact gA (a+1) sB I I oM oM
   ·have hae:a=rs.length:=oM;subst hae;rw[← hrl,List.take_length,← hb];refine xI (tX (tX (bX (tN (sW I (lA I (aT I (rE ?_))))))));have hlb:(jj l T p).length=D:=by rw[hb,fo,ze2,zh9]
    refine fT fun g3 hle3 hs3=>?_;refine dR (s':=s) uR ?_;exact ST.ret2 (.inl I) results9 I I ⟨I,hle1.trans (hle2.trans hle3),_,by rw[he],by unfold bP SlA; rw[← hlb] at hs3 ⊢; exact hs3⟩
 ·refine lM I (yX I (yX I (lA I (aT I (sQ (sW I (lU (SU.eq (v':=vb true) (nQ I I) (zd7 vb (zf4 he))) (lM I (yA I (yA I (yA I (yP I (tZ (cT I (sW I (lA I (aT I (rE (tR ?_)))))))))))))))))));have hb:jj l T p=[]:=by
   unfold jj;rw[zf6];unfold cD;rw[zf6 he];rfl
  refine dR (s':=s) uR ?_;exact ST.ret2 (.inl I) results9 I I ⟨I,hle1,_,I,by rw[hb]; exact zb8 _ _⟩
set_option maxHeartbeats 1000000
theorem C3 (g:PH):aq g (.slice none 0 0) []:=⟨[],zb8 g _,trivial⟩
theorem oT (E:World)(hE:E.drawn=0)(g:PH)(s:Own)(v tv:Value)(l:List Cl)(T:List (List Int))(hv:aq g v l)(hf:dd l)(hw:∀ c∈l,iU c.id)(ht:aG g tv T)(hT:T.length<1099511627776)(hTl:∀ t∈T,t.length<1099511627776) :
  Ctr Tryz.prog E 22 #[.agg #[v],tv] g s (fun x g' s'=>s=s'∧Le g g'∧x=vi (ep l T)):=by
 obtain ⟨vp,vc,rfl⟩:=hv.form;refine za9 (args:=[.agg #[.slice vp l.length vc],tv]) func22 I ntmps22 (bE I) ?_;refine rZ (bW (bO I) fun b2=>?_);refine aT I (rZ (lK (qV 0 be ax I I I) (lM I (lW (cL call35 I (m6 E hE g _ _ tv l T hv hf hw ht hT hTl)) ?_))));rintro _ g1 _ ⟨rfl,hle1,pv,rfl,-⟩;refine lM I (yX I (yX I (lA I (aT I (sW I (aT I (rE (dR (s':=s) uR ?_))))))));exact za6 (.inl I) results22 I ⟨I,hle1,I⟩
theorem Tryz.buildN30 (w:World):(Instr.build 30 #[]).run Tryz.prog w = .ok (.agg #[.slice none 0 0]) w:=by
 simp[Instr.build,Instr.fill];rfl
theorem oc (E:World)(hE:E.drawn=0)(g:PH)(s:Own)(v tv:Value)(l:List Cl)(T:List (List Int))(hv:aq g v l)(hf:dd l)(hw:∀ c∈l,iU c.id)(ht:aG g tv T)(hT:T.length<1099511627776)(hTl:∀ t∈T,t.length<1099511627776) :
  Ctr Tryz.prog E 20 #[.agg #[v],tv] g s (fun x g' s'=>s=s'∧Le g g'∧∃ u,x = .agg #[u]∧aq g' u (eX l T)):=by
 obtain ⟨vp,vc,rfl⟩:=hv.form;refine za9 (args:=[.agg #[.slice vp l.length vc],tv]) func20 I ntmps20 (bE I) ?_;refine rZ (bW (bO I) fun b2=>?_);refine bW (aL zk6) fun b4=>?_;refine tZ (rZ (lK (qV 1 be ax I I I) (lM I (lW (cL call35 I (m6 E hE g _ _ tv l T hv hf hw ht hT hTl)) ?_))));rintro _ g1 _ ⟨rfl,hle1,pv,rfl,hcov⟩;refine lM I (yX I (yX I (lA I (aT I (sQ (sW I (lU (nQ I I) (tZ ?_))))))));refine iP I (fun hop=>?_) (fun hop=>?_)
 ·have hb:eX l T=[]:=by unfold eX; rw[zf6 (.inl hop)]
  refine rZ (lU (za1 I buildN30) (oZ (sK 0 ax I I I I I ⟨I,trivial⟩) (tZ (rE (tR ?_)))));exact ST.retCD 0 s (.inl I) results20 I be ax I I uR ⟨I,hle1,_,I,by rw[hb]; exact C3 _⟩
 ·have hop0:ep l T=0:=zg5 hop;have hcov:=hcov hop0;obtain ⟨hok,hT6⟩:=jP hop0;have hRt:=lC hok;have hLt:ae l=aa l:=a8 hRt.asc;have hRt:Rt (ae l):=by rw[hLt]; exact hRt
  have hBf:=ck (nr hRt hT6);refine kP (tN (sW I (lW (cL call36 I (ob E g1 _ pv (ae l) T hcov hRt hT6)) ?_)));rintro _ g2 _ ⟨rfl,hle2,u,rfl,hu⟩;obtain ⟨up,uc,rfl⟩:=hu.form;refine bW (aL zk6) fun b7=>?_;refine oZ (sK 0 ax I I I I I ⟨I,trivial⟩) (tZ (sQ (rZ (lK (qV 0 be ax I I I) (lW (cL call37 I (jr E g2 _ _ (cj (ae l) T) hu hBf)) ?_)))));rintro _ _ _ ⟨rfl,rfl,rfl⟩;refine lM I (yX I (yX I (lA I (aT I (sW I (lU (nQ I I) (tZ ?_)))))));refine iP I (fun hbl=>?_) (fun hbl=>?_)
  ·have hb:eX l T=[]:=by unfold eX; rw[zf6 (.inr hbl)]
   refine rZ (lU (za1 I buildN30) (oZ (sK 1 ax I I I I I ⟨I,trivial⟩) (tZ (rE (tR ?_)))));exact ST.retCD 1 s (.inl I) results20 I be ax I I uR ⟨I,hle1.trans hle2,_,I,by rw[hb]; exact C3 _⟩
  ·have hb:eX l T=cj (ae l) T:=by unfold eX; rw[zf5]; rintro (h | h); exact hop h; exact hbl h
   refine kP (tN (rZ (lK (qV 0 be ax I I I) (oZ (sK 1 ax I I I I I ⟨I,trivial⟩) (tZ (rE ?_))))));exact ST.retCD 1 s (.inl I) results20 I be ax I I uR ⟨I,hle1.trans hle2,_,I,by rw[hb]; exact hu⟩
set_option maxHeartbeats 2000000
theorem qW (E:World)(g:PH)(s:Own)(v u:Value)(P Q:List (List Int))(hv:aG g v P)(hu:aG g u Q)(hP:P.length<1099511627776)(hPl:∀ x∈P,x.length<1099511627776)(hQ:Q.length<1099511627776) :
  Ctr Tryz.prog E 52 #[v,u] g s (fun r g' s'=>r=vb (decide (P=Q))∧g=g'∧s=s'):=by
 obtain ⟨rs,hrs,hallr⟩:=hv;obtain ⟨qs,hqs,hallq⟩:=hu;have hlr:=hallr.length;have hlq:=hallq.length;obtain ⟨rp,rc,rfl⟩:=za2 hrs;obtain ⟨qp,qc,rfl⟩:=za2 hqs;refine za9 (args:=[.slice rp rs.length rc,.slice qp qs.length qc]) func52 I ntmps52 (bE I) ?_;refine rZ (aT I (sQ (sW I (lU (eN bA I) (lM I (lU (eN bA I) (lU (nQ I I) (tZ ?_))))))));refine iP I (fun hne=>?_) (fun hne=>?_)
 ·refine rZ (aT I (rE (tR ?_)));have h0:decide (P=Q)=false:=zf3 fun e=>hne (by rw[← hlr,← hlq,e]);exact za6 (.inl I) results52 I ⟨by rw[h0],I,I⟩
 ·have hlen:rs.length=qs.length:=oM;refine kP (tN (sQ (rZ (aT I (bK ?_)))));refine oP (ι:=Nat) (fun k=>[(0,.slice rp rs.length rc),(1,.slice qp qs.length qc),(5,vi k)]) (fun _=>g) (fun _=>s) (fun k=>k≤rs.length∧P.take k=Q.take k) (fun k=>rs.length - k) 0 sB I I ⟨zf2 _,I⟩ ?_;rintro k ⟨hk,heq⟩;refine sQ (sW I (lM I (lU (eN bA I) (yL I (tZ ?_)))));refine iP I (fun hlt=>?_) (fun hlt=>?_)
  ·have hkr:k<rs.length:=oM;have hkq:k<qs.length:=oM;have hkP:k<P.length:=oM;have hkQ:k<Q.length:=oM;have hb1:=za4 hrs oM;have hb2:=za4 hqs oM;have hgr:rs[((k:Nat):Int).toNat]?=some rs[k]:=gE hkr;have hgq:qs[((k:Nat):Int).toNat]?=some qs[k]:=gE hkq;have hR:=hallr.get (gE hkP) (gE hkr);have hQ':=hallq.get (gE hkQ) (gE hkq);have h1:P.take (k+1)=P.take k++[P[k]]:=tS hkP;have h2:Q.take (k+1)=Q.take k++[Q[k]]:=tS hkQ;have hpl:=hPl _ (gM hkP);have hdiff:P[k]≠Q[k]→decide (P=Q)=false:=fun h=>zf3 fun e=>h (by subst e; rfl);generalize P[k]=x at *;generalize Q[k]=y at *;generalize rs[k]=r at *;generalize qs[k]=q at *;obtain ⟨ap,an,ac⟩:=r;obtain ⟨bp,bn,bc⟩:=q;refine kP (tN (sQ (bK (sQ ?_))));refine dW [] [(0,2),(1,2),(2,2),(3,1),(4,2),(5,2),(6,2),(7,1),(8,0),(9,2)] zd8 kR ?_;refine yM I (yM I (pU I (iA bA bZ I I hb1 oM sL) (pK I (eB (u:=.slice ap an ac) dh I (za5 hrs) hgr I) (yM I (yM I (pU I (iA bA bZ I I hb2 oM sL) (pK I (eB (u:=.slice bp bn bc) dh I (za5 hqs) hgq I) (SP.o I (cL call12 I (nb E g s (.slice ap an ac) (.slice bp bn bc) x y hR hQ' oM)) dC (.inr iR) ?_))))))));rintro _ _ _ ⟨rfl,rfl,rfl⟩;refine pU I (aS I) (pN (tN (sW I (lU (SU.notP I) (tZ ?_)))));refine iQ I (fun hxy=>?_) (fun hxy=>?_)
   ·have hxy':x≠y:=by simpa using hxy
    refine rZ (aT I (rE (bR (tR (tR (bR (tR ?_)))))));exact za6 (.inl I) results52 I ⟨by rw[hdiff hxy'],I,I⟩
   ·have hxy':x=y:=by simpa using hxy
    refine kP (bN (tN (rG (lM I (yD I (lA I (nL ?_)))))));exact gA (k+1) sB I I ⟨oM,by rw[h1,h2,heq,hxy']⟩ oM
  ·have hkk:k=rs.length:=oM;subst hkk;rw[tL oM,tL oM] at heq;refine xI (tX (tX (bX (tN (rZ (aT I (rE ?_)))))));have h0:decide (P=Q)=true:=zf4 heq;exact za6 (.inl I) results52 I ⟨by rw[h0],I,I⟩
theorem oW (E:World)(g:PH)(s:Own)(v u:Value)(P Q:List (List (List Int)))(hv:Pgs g v P)(hu:Pgs g u Q)(hP:P.length<1099511627776)(hPl:∀ A∈P,A.length<1099511627776∧∀ x∈A,x.length<1099511627776)(hQ:Q.length<1099511627776)(hQl:∀ A∈Q,A.length<1099511627776) :
  Ctr Tryz.prog E 18 #[v,u] g s (fun r g' s'=>r=vb (decide (P=Q))∧g=g'∧s=s'):=by
 obtain ⟨rs,hrs,hallr⟩:=hv;obtain ⟨qs,hqs,hallq⟩:=hu;have hlr:=hallr.length;have hlq:=hallq.length;obtain ⟨rp,rc,rfl⟩:=za2 hrs;obtain ⟨qp,qc,rfl⟩:=za2 hqs;refine za9 (args:=[.slice rp rs.length rc,.slice qp qs.length qc]) func18 I ntmps18 (bE I) ?_;refine rZ (aT I (sQ (sW I (lU (eN lV I) (lM I (lU (eN lV I) (lU (nQ I I) (tZ ?_))))))));refine iP I (fun hne=>?_) (fun hne=>?_)
 ·refine rZ (aT I (rE (tR ?_)));have h0:decide (P=Q)=false:=zf3 fun e=>hne (by rw[← hlr,← hlq,e]);exact za6 (.inl I) results18 I ⟨by rw[h0],I,I⟩
 ·have hlen:rs.length=qs.length:=oM;refine kP (tN (sQ (rZ (aT I (bK ?_)))));refine oP (ι:=Nat) (fun k=>[(0,.slice rp rs.length rc),(1,.slice qp qs.length qc),(5,vi k)]) (fun _=>g) (fun _=>s) (fun k=>k≤rs.length∧P.take k=Q.take k) (fun k=>rs.length - k) 0 sB I I ⟨zf2 _,I⟩ ?_;rintro k ⟨hk,heq⟩;refine sQ (sW I (lM I (lU (eN lV I) (yL I (tZ ?_)))));refine iP I (fun hlt=>?_) (fun hlt=>?_)
  ·have hkr:k<rs.length:=oM;have hkq:k<qs.length:=oM;have hkP:k<P.length:=oM;have hkQ:k<Q.length:=oM;have hb1:=za4 hrs oM;have hb2:=za4 hqs oM;have hgr:rs[((k:Nat):Int).toNat]?=some rs[k]:=gE hkr;have hgq:qs[((k:Nat):Int).toNat]?=some qs[k]:=gE hkq;have hR:=hallr.get (gE hkP) (gE hkr);have hQ':=hallq.get (gE hkQ) (gE hkq);have h1:P.take (k+1)=P.take k++[P[k]]:=tS hkP;have h2:Q.take (k+1)=Q.take k++[Q[k]]:=tS hkQ;have hpl:=hPl _ (gM hkP);have hql:=hQl _ (gM hkQ);have hdiff:P[k]≠Q[k]→decide (P=Q)=false:=fun h=>zf3 fun e=>h (by subst e; rfl);generalize P[k]=x at *;generalize Q[k]=y at *;generalize rs[k]=r at *;generalize qs[k]=q at *;obtain ⟨ap,an,ac⟩:=r;obtain ⟨bp,bn,bc⟩:=q;refine kP (tN (sQ (bK (sQ ?_))));refine dW [] [(0,2),(1,2),(2,2),(3,1),(4,2),(5,2),(6,2),(7,1),(8,0),(9,2)] zd8 kR ?_;refine yM I (yM I (pU I (iA lV o4 I I hb1 oM sL) (pK I (eB (u:=.slice ap an ac) isAgg22 I (za5 hrs) hgr I) (yM I (yM I (pU I (iA lV o4 I I hb2 oM sL) (pK I (eB (u:=.slice bp bn bc) isAgg22 I (za5 hqs) hgq I) (SP.o I (cL call52 I (qW E g s (.slice ap an ac) (.slice bp bn bc) x y hR hQ' hpl.1 hpl.2 hql)) dC (.inr iR) ?_))))))));rintro _ _ _ ⟨rfl,rfl,rfl⟩;refine pU I (aS I) (pN (tN (sW I (lU (SU.notP I) (tZ ?_)))));refine iQ I (fun hxy=>?_) (fun hxy=>?_)
   ·have hxy':x≠y:=by simpa using hxy
    refine rZ (aT I (rE (bR (tR (tR (bR (tR ?_)))))));exact za6 (.inl I) results18 I ⟨by rw[hdiff hxy'],I,I⟩
   ·have hxy':x=y:=by simpa using hxy
    refine kP (bN (tN (rG (lM I (yD I (lA I (nL ?_)))))));exact gA (k+1) sB I I ⟨oM,by rw[h1,h2,heq,hxy']⟩ oM
  ·have hkk:k=rs.length:=oM;subst hkk;rw[tL oM,tL oM] at heq;refine xI (tX (tX (bX (tN (rZ (aT I (rE ?_)))))));have h0:decide (P=Q)=true:=zf4 heq;exact za6 (.inl I) results18 I ⟨by rw[h0],I,I⟩
def o5:List Cl:=[⟨1,0,[]⟩,⟨2,0,[]⟩,⟨3,0,[]⟩,⟨4,1,[⟨1,-1⟩,⟨2,1⟩]⟩,⟨5,1,[⟨1,-1⟩,⟨3,1⟩]⟩,⟨6,1,[⟨2,-1⟩,⟨3,1⟩]⟩]
theorem DC:bF [1,2]=[1,2]:=by
 unfold bF;rw[iX dC];rfl
theorem DD:bF [0,2]=[0,2]:=by
 unfold bF;rw[iX dC];rfl
theorem Bq:bw [[0,1],[1,2],[0,2]]=o5:=by
 simp only[bw,aB,DE,DC,DD];rfl
theorem mB:dd o5:=Cd dC dC
theorem qd:∀ c∈o5,iU c.id:=by unfold iU; decide
theorem Ck:ep o5 [[4,6],[5]]=0:=by kernel_rfl
theorem Eg:ep o5 [[4],[5]]=45:=by kernel_rfl
theorem AG:(aW (cj (ae o5) [[4,6],[5]])).2=0:=by kernel_rfl
theorem AH:(eX o5 [[4,6],[5]]).length=10:=by
 unfold eX;rw[zf5 (by rintro (h | h); exact h Ck; exact h AG)]
 kernel_rfl
theorem lj:de o5 [[4,6],[5]] 2=0:=by kernel_rfl
theorem DJ:rkP 2=fun C R=>rkF C R fF:=funext fun C=>funext fun R=>EN C R fF
theorem sk:cD o5 [[4,6],[5]] 2=[[[2,0],[2,0]],[[1,0],[1,0]]]:=by
 unfold cD;rw[zf5 (by rw[lj]; simp),DJ]
 kernel_rfl
theorem AI:jj o5 [[4,6],[5]] 2=[1,1]:=by
 unfold jj;rw[sk]
 kernel_rfl
theorem u4 (E:World)(g:PH)(s:Own):Ctr Tryz.prog E 21 #[] g s (fun r g' s'=>s=s'∧Le g g'∧∃ u,r = .agg #[u]∧aq g' u o5):=by
 refine za9 (args:=[]) func21 I ntmps21 (bE I) ?_;refine rZ (bW (aL zk6) fun b0=>?_);refine tZ (rZ (lW (bS sty25 I I I (ab sB) dC) ?_));rintro _ _ _ ⟨b1,rfl,rfl,rfl⟩;refine zb3 fun g1 hle1 hb1=>?_;refine lW (bS sty25 I I I (ab sB) dC) ?_;rintro _ _ _ ⟨b2,rfl,rfl,rfl⟩;refine zb3 fun g2 hle2 hb2=>?_;refine lW (bS sty25 I I I (ab sB) dC) ?_;rintro _ _ _ ⟨b3,rfl,rfl,rfl⟩;refine zb3 fun g3 hle3 hb3=>?_;refine lW (bS sty22 I I I (ab sB) dC) ?_;rintro _ _ _ ⟨b4,rfl,rfl,rfl⟩;refine zb3 fun g4 hle4 hb4=>?_;have hlit:aG g4 (.slice (some ⟨b4,0,none⟩) 3 3) [[0,1],[1,2],[0,2]]:=⟨[em (.slice (some ⟨b1,0,none⟩) 2 2),em (.slice (some ⟨b2,0,none⟩) 2 2),em (.slice (some ⟨b3,0,none⟩) 2 2)],SlA.lit hb4 rfl rfl,⟨SlA.lit ((hle2.trans (hle3.trans hle4)) _ _ hb1) rfl rfl,SlA.lit ((hle3.trans hle4) _ _ hb2) rfl rfl,SlA.lit (hle4 _ _ hb3) rfl rfl,trivial⟩⟩;refine lW (cL call55 I (oy E g4 _ _ _ hlit dC dC)) ?_;rintro _ g5 _ ⟨rfl,hle5,u,rfl,hu⟩;rw[Bq] at hu;obtain ⟨q,d,rfl⟩:=hu.form;refine oZ (sK 0 ax I I I I I sB) ?_;refine tZ (rE ?_);exact ST.retCD 0 s (.inl I) results21 I be ax I I uR ⟨I,hle1.trans (hle2.trans (hle3.trans (hle4.trans hle5))),_,I,hu⟩
theorem qU (E:World)(hE:E.drawn=0)(g:PH)(s:Own):Ctr Tryz.prog E 6 #[] g s (fun r g' s'=>r=vb true∧s=s'∧Le g g'):=by
 refine za9 (args:=[]) func6 I ntmps6 (bE I) ?_;refine rZ (aT I (rZ (lW (cL call21 I (u4 E g s)) ?_)));rintro _ g1 _ ⟨rfl,hle1,u,rfl,hu⟩;obtain ⟨q,d,rfl⟩:=hu.form;refine bW (aL zk6) fun b1=>?_;refine oZ (sK 0 ax I I I I I ⟨I,trivial⟩) (tZ (rZ (lW (bS sty25 I I I (ab sB) dC) ?_)));rintro _ _ _ ⟨b10,rfl,rfl,rfl⟩;refine zb3 fun g2 hle2 hb10=>?_;refine lW (bS sty25 I I I (ab ⟨I,trivial⟩) dC) ?_;rintro _ _ _ ⟨b11,rfl,rfl,rfl⟩;refine zb3 fun g3 hle3 hb11=>?_;refine lW (bS sty22 I I I (ab sB) dC) ?_;rintro _ _ _ ⟨b12,rfl,rfl,rfl⟩;refine zb3 fun g4 hle4 hb12=>?_;have hT:aG g4 (.slice (some ⟨b12,0,none⟩) 2 2) [[4,6],[5]]:=⟨[em (.slice (some ⟨b10,0,none⟩) 2 2),em (.slice (some ⟨b11,0,none⟩) 1 1)],SlA.lit hb12 rfl rfl,⟨SlA.lit ((hle3.trans hle4) _ _ hb10) rfl rfl,SlA.lit (hle4 _ _ hb11) rfl rfl,trivial⟩⟩;have hu4:=hu.mono (hle2.trans (hle3.trans hle4));refine aT I (rZ (lK (qV 0 be ax I I I) (lM I (lW (cL call20 I (oc E hE g4 _ _ _ o5 [[4,6],[5]] hu4 mB qd hT dC dC)) ?_))));rintro _ g5 _ ⟨rfl,hle5,u5,rfl,hu5⟩;obtain ⟨q5,d5,rfl⟩:=hu5.form;rw[AH];have hu5':=hu4.mono hle5;have hT5:=hT.mono hle5;refine bW (aL zk6) fun b3=>?_;refine oZ (sK 0 ax I I I I I ⟨I,trivial⟩) (tZ (rZ (lK (qV 1 be ax I I I) (lM I (lW (cL call13 I (kY E hE g5 _ _ _ o5 [[4,6],[5]] 2 hu5' mB qd hT5 dC dC dC dC)) ?_)))));rintro _ g6 _ ⟨rfl,hle6,u6,rfl,hP⟩;rw[lj];rw[sk] at hP;have hu6:=hu5'.mono hle6;have hT6:=hT5.mono hle6;refine lM I (yX I (yX I (lA I (aT I (rZ (lK (qV 1 be ax I I I) (lM I (lW (cL call9 I (xZ E hE g6 _ _ _ o5 [[4,6],[5]] 2 hu6 mB qd hT6 dC dC dC dC)) ?_))))))));rintro _ g7 _ ⟨rfl,hle7,u7,rfl,hB⟩;rw[lj];rw[AI] at hB;have hu7:=hu6.mono hle7;have hP7:=hP.mono hle7;refine lM I (yX I (yX I (lA I (aT I (rZ (lW (bS sty25 I I I (ab sB) dC) ?_))))));rintro _ _ _ ⟨b28,rfl,rfl,rfl⟩;refine zb3 fun g8 hle8 hb28=>?_;refine lW (bS sty25 I I I (ab sB) dC) ?_;rintro _ _ _ ⟨b29,rfl,rfl,rfl⟩;refine zb3 fun g9 hle9 hb29=>?_;refine lW (bS sty22 I I I (ab sB) dC) ?_;rintro _ _ _ ⟨b30,rfl,rfl,rfl⟩;refine zb3 fun g10 hle10 hb30=>?_;have h30:aG g10 (.slice (some ⟨b30,0,none⟩) 2 2) [[2,0],[2,0]]:=⟨[em (.slice (some ⟨b28,0,none⟩) 2 2),em (.slice (some ⟨b29,0,none⟩) 2 2)],SlA.lit hb30 rfl rfl,⟨SlA.lit ((hle9.trans hle10) _ _ hb28) rfl rfl,SlA.lit (hle10 _ _ hb29) rfl rfl,trivial⟩⟩;refine lW (bS sty25 I I I (ab sB) dC) ?_;rintro _ _ _ ⟨b31,rfl,rfl,rfl⟩;refine zb3 fun g11 hle11 hb31=>?_;refine lW (bS sty25 I I I (ab sB) dC) ?_;rintro _ _ _ ⟨b32,rfl,rfl,rfl⟩;refine zb3 fun g12 hle12 hb32=>?_;refine lW (bS sty22 I I I (ab sB) dC) ?_;rintro _ _ _ ⟨b33,rfl,rfl,rfl⟩;refine zb3 fun g13 hle13 hb33=>?_;have h33:aG g13 (.slice (some ⟨b33,0,none⟩) 2 2) [[1,0],[1,0]]:=⟨[em (.slice (some ⟨b31,0,none⟩) 2 2),em (.slice (some ⟨b32,0,none⟩) 2 2)],SlA.lit hb33 rfl rfl,⟨SlA.lit ((hle12.trans hle13) _ _ hb31) rfl rfl,SlA.lit (hle13 _ _ hb32) rfl rfl,trivial⟩⟩;refine lW (bS sty40 I I I (ab sB) dC) ?_;rintro _ _ _ ⟨b34,rfl,rfl,rfl⟩;refine zb3 fun g14 hle14 hb34=>?_;have hW:Pgs g14 (.slice (some ⟨b34,0,none⟩) 2 2) [[[2,0],[2,0]],[[1,0],[1,0]]]:=⟨[em (.slice (some ⟨b30,0,none⟩) 2 2),em (.slice (some ⟨b33,0,none⟩) 2 2)],SlA.lit hb34 rfl rfl,⟨h30.mono (hle11.trans (hle12.trans (hle13.trans hle14))),h33.mono hle14,trivial⟩⟩;have hl14:=hle8.trans (hle9.trans (hle10.trans (hle11.trans (hle12.trans (hle13.trans hle14)))));have hP14:=hP7.mono hl14;have hB14:=za3 hB hl14;have hu14:=hu7.mono hl14;refine aT I (rZ (lU (fA eK I dJ I) (lK (qL (v:=.slice q5 10 d5) fQ I (cO 0 I I)) (lU (eN aU I) (yE I (lM I (yC I (lY I I I (eQ I I) (yP I (lM I (yC I (yC I (SL.go (gT I I I dC) (cL call18 I (oW E g14 _ _ _ _ _ hP14 hW dC dC dC dC)) dC ?_)))))))))))));rintro _ _ _ ⟨rfl,rfl,rfl⟩;rw[show decide (([[[2,0],[2,0]],[[1,0],[1,0]]]:List (List (List Int)))=[[[2,0],[2,0]],[[1,0],[1,0]]])=true from zf4 rfl];refine yP I (lM I (yC I (lY I I I (eQ I I) (yP I (lM I (yC I (SL.go (gT I I I dC) (bS sty25 I I I (ab sB) dC) dC ?_)))))));rintro _ _ _ ⟨b54,rfl,rfl,rfl⟩;refine zb3 fun g15 hle15 hb54=>?_;have hW54:bP g15 (.slice (some ⟨b54,0,none⟩) 2 2) [1,1]:=SlA.lit hb54 rfl rfl;have hB15:=za3 hB14 hle15;refine SL.go (gT I I I dC) (cL call12 I (nb E g15 _ _ _ _ _ hB15 hW54 dC)) dC ?_;rintro _ _ _ ⟨rfl,rfl,rfl⟩;rw[show decide (([1,1]:List Int)=[1,1])=true from zf4 rfl];refine yP I (lM I (SL.gq (gT I I I dC) (qV 1 be ax I I I) dC (SL.go (gT I I I dC) (bS sty25 I I I (ab ⟨I,trivial⟩) dC) dC ?_)));rintro _ _ _ ⟨b59,rfl,rfl,rfl⟩;refine zb3 fun g16 hle16 hb59=>?_;refine SL.go (gT I I I dC) (bS sty25 I I I (ab ⟨I,trivial⟩) dC) dC ?_;rintro _ _ _ ⟨b60,rfl,rfl,rfl⟩;refine zb3 fun g17 hle17 hb60=>?_;refine SL.go (gT I I I dC) (bS sty22 I I I (ab sB) dC) dC ?_;rintro _ _ _ ⟨b61,rfl,rfl,rfl⟩;refine zb3 fun g18 hle18 hb61=>?_;have hT2:aG g18 (.slice (some ⟨b61,0,none⟩) 2 2) [[4],[5]]:=⟨[em (.slice (some ⟨b59,0,none⟩) 1 1),em (.slice (some ⟨b60,0,none⟩) 1 1)],SlA.lit hb61 rfl rfl,⟨SlA.lit ((hle17.trans hle18) _ _ hb59) rfl rfl,SlA.lit (hle18 _ _ hb60) rfl rfl,trivial⟩⟩;have hu18:=hu14.mono (hle15.trans (hle16.trans (hle17.trans hle18)));refine SL.go (gT I I I dC) (cL call22 I (oT E hE g18 _ _ _ o5 [[4],[5]] hu18 mB qd hT2 dC dC)) dC ?_;rintro _ g19 _ ⟨rfl,hle19,rfl⟩;rw[Eg];refine lY I I I (eQ I I) (yP I (aT I (rE (dR (s':=s) uR ?_))));exact za6 (.inl I) results6 I ⟨I,I,hle1.trans (hle2.trans (hle3.trans (hle4.trans (hle5.trans (hle6.trans (hle7.trans (hl14.trans (hle15.trans (hle16.trans (hle17.trans (hle18.trans hle19)))))))))))⟩
def A7 (y:Int):Int:=if cq y 2=0 then 4 else 5
theorem vz (y:Int):([4,5]:List Int)[(cq y 2).toNat]?=some (A7 y):=by
 have:=bM y 2 dC dC;unfold A7
 rcases (by omega:cq y 2=0∨cq y 2=1) with e | e
 ·rw[e]; rfl
 ·rw[e]; rfl
def eO (kd:Int)(ls:List (List Int))(y:Int):List Cl:=if (jv kd ls y).length>20 then jv (A7 y) [] (cq y 8) else jv kd ls y
def ir (kd:Int)(ls:List (List Int))(y:Int):List Cl:=if (eO kd ls y).length>20 then bw [[0,1,2],[1,2,3],[0,3]] else eO kd ls y
theorem Tryz.buildK24 (a b:Int)(w:World):(Instr.build 24 #[(0,vi a),(2,vi b)]).run Tryz.prog w = .ok (.agg #[vi a,.slice none 0 0,vi b]) w:=by
 have h1:∀ n,(vi n).cells = #[vi n]:=fun _=>rfl;simp[Instr.build,Instr.fill,h1];rfl
theorem xe (E:World)(g:PH)(s:Own)(v:Value)(kd y:Int)(ls:List (List Int))(hv:aG g v ls) :
  Ctr Tryz.prog E 7 #[.agg #[vi kd,v,vi y]] g s (fun r g' s'=>s=s'∧Le g g'∧∃ u,r = .agg #[u]∧aq g' u (ir kd ls y)):=by
 obtain ⟨p,n,c,rfl⟩:∃ p n c,v = .slice p n c:=by
  obtain ⟨rs0,hrs0,_⟩:=hv;obtain ⟨p,c,rfl⟩:=za2 hrs0;exact⟨_,_,_,I⟩
 have hy:=bM y 2 dC dC;have hf1:=(lg kd ls y).1;have hf2:=(lg (A7 y) [] (cq y 8)).1;refine za9 (args:=[.agg #[vi kd,.slice p n c,vi y]]) func7 I ntmps7 (bE I) ?_;refine rZ (bW (bO I) fun b1=>?_);refine bW (aL zk6) fun b2=>?_;refine tZ (rZ (lK (qV 1 isAgg24 sizeOf24 I I I) (lW (cL call23 I (rU E g _ _ kd y ls hv)) ?_)));rintro _ g1 _ ⟨rfl,hle1,u1,rfl,hu1⟩;obtain ⟨q1,d1,rfl⟩:=hu1.form;refine bW (aL zk6) fun b3=>?_;refine oZ (sK 0 ax I I I I I ⟨I,trivial⟩) (tZ ?_);refine SC.cut (ι:=PH×Option Addr×Nat) (fun i=>[(2,pp b2 0),(3,pp b3 0)]) (fun i=>i.1) (fun i=>pt b3 (.cells #[.slice i.2.1 (eO kd ls y).length i.2.2] 30 (0,0))::pt b2 (.cells #[.slice none 0 0] 30 (0,0))::pt b1 (.cells #[vi kd,.slice p n c,vi y] 24 (0,0))::s) (fun i=>Le g1 i.1∧aq i.1 (.slice i.2.1 (eO kd ls y).length i.2.2) (eO kd ls y)) ?_ ?_
 ·refine rZ (lU (fA eK I dJ I) (lK (qL (v:=.slice q1 (jv kd ls y).length d1) fQ I (cO 0 I I)) (lU (eN aU I) (lU (gR I I) (tZ ?_)))));refine iP I (fun h20=>?_) (fun h20=>?_)
  ·have hs2:eO kd ls y=jv (A7 y) [] (cq y 8):=by unfold eO; rw[zf6 oM]
   rw[hs2];refine SC.drawX [11] zd8 kR ?_;refine SX.u (i:=1) I kR (fA jW I zT3 I) dC (SX.q (i:=2) I kR (qL (v:=vi y) iT3 I (cO 2 I I)) dC (SX.u (i:=6) I kR (fA jW I zT3 I) dC (SX.q (i:=7) I kR (qL (v:=vi y) iT3 I (cO 2 I I)) dC ?_)))
   repeat' (first
    | (refine SB.o (i:=0) I (bS sty25 I I I (ab sB) dC) dC (.inr iR) ?_; rintro _ _ _ ⟨b10,rfl,rfl,rfl⟩; refine SX.freeze fun g2 hle2 hb10=>?_; have h10:SlA encInt g2 (.slice (some ⟨b10,0,none⟩) 2 2) [4,5]:=SlA.lit hb10 rfl rfl; refine SX.u (i:=4) I kD (iA aj zT3 I I I oM (show cq y 2<((2:Nat):Int) by omega)) dC ?_)
    | (refine SB.o (i:=0) I (bS sty25 I I I (ab sB) dC) dC (.inr iR) ?_; rintro _ _ _ ⟨b10,rfl,rfl,rfl⟩; refine SX.freeze fun g2 hle2 hb10=>?_; have h10:SlA encInt g2 (.slice (some ⟨b10,0,none⟩) 2 2) [4,5]:=SlA.lit hb10 rfl rfl)
    | (refine SB.o (i:=3) I (cL kT8 I (bk E _ _ y 2 dC)) dC (.inr iR) ?_; rintro _ _ _ ⟨rfl,rfl,rfl⟩; refine SX.u (i:=4) I kD (iA aj zT3 I I I oM (show cq y 2<((2:Nat):Int) by omega)) dC ?_)
    | (refine SB.o (i:=3) I (cL kT8 I (bk E _ _ y 2 dC)) dC (.inr iR) ?_; rintro _ _ _ ⟨rfl,rfl,rfl⟩)
    | (refine SB.o (i:=5) I (SQ.sof (eB iT3 I (za5 h10) (vz y) I)) dC (.inr iR) ?_; rintro _ _ _ ⟨rfl,rfl,rfl⟩; refine SX.u (i:=9) I kD (za1 I (buildK24 _ _)) dC ?_)
    | (refine SB.o (i:=5) I (SQ.sof (eB iT3 I (za5 h10) (vz y) I)) dC (.inr iR) ?_; rintro _ _ _ ⟨rfl,rfl,rfl⟩)
    | (refine SB.o (i:=8) I (cL kT8 I (bk E _ _ y 8 dC)) dC (.inr iR) ?_; rintro _ _ _ ⟨rfl,rfl,rfl⟩; refine SX.u (i:=9) I kD (za1 I (buildK24 _ _)) dC ?_)
    | (refine SB.o (i:=8) I (cL kT8 I (bk E _ _ y 8 dC)) dC (.inr iR) ?_; rintro _ _ _ ⟨rfl,rfl,rfl⟩)
    | (refine SB.o (i:=8) I (cL kT8 I (bk E _ _ y 8 dC)) dC (.inr iR) ?_; rintro _ _ _ ⟨rfl,rfl,rfl⟩)
    | (refine SB.o (i:=10) rfl (cL call23 rfl (rU E g2 _ _ (A7 y) (cq y 8) [] ⟨[],zb8 _ _,trivial⟩)) dC (.inr (by rintro _ g3 _ ⟨rfl,hle3,u3,rfl,hu3⟩; exact⟨by exact Le.trans (by assumption) (by assumption),(by exact .refl _)⟩)) ?_; rintro _ g3 _ ⟨rfl,hle3,u3,rfl,hu3⟩; obtain ⟨q3,d3,rfl⟩:=hu3.form)
    | (refine SB.on (i:=11) I (sK 0 ax I I I I I ⟨I,trivial⟩) (.inl dC) ?_; rintro _ _ _ ⟨rfl,rfl⟩)
    | refine SX.br2 0 3 kD ?_ ?_
    | refine zd3 3 kD ?_
    | refine SX.br2 5 8 kD ?_ ?_
    | refine zd3 8 kD ?_
    | refine zd3 10 kD ?_
    | refine zd3 11 kD ?_
    | refine zd3 5 kD ?_
    | refine SX.br2 0 8 kD ?_ ?_
    | refine zd3 0 kD ?_
    | (refine SX.nil kD ?_; exact za7 (g3,q3,d3) sB I I ⟨hle2.trans hle3,hu3⟩))
  ·have hs2:eO kd ls y=jv kd ls y:=by unfold eO; rw[zf5 oM]
   rw[hs2];refine kP ?_;exact za7 (g1,q1,d1) sB I I ⟨zb7 _,hu1⟩
 rintro ⟨g3,q3,d3⟩ ⟨hle3,hu3⟩;dsimp only at hle3 hu3 ⊢;have hf2:(eO kd ls y).length<1099511627776:=by
  have h2:=(lg (A7 y) [] (cq y 8)).1;unfold eO;split <;> omega
 refine sQ (rZ (lU (fA eK I dJ I) (lK (qL (v:=.slice q3 (eO kd ls y).length d3) fQ I (cO 0 I I)) (lU (eN aU I) (lU (gR I I) (tZ ?_))))));refine iP I (fun h21=>?_) (fun h21=>?_)
 ·have hs:ir kd ls y=bw [[0,1,2],[1,2,3],[0,3]]:=by unfold ir; rw[zf6 oM]
  refine rG (lW (bS sty25 I I I (ab sB) dC) ?_);rintro _ _ _ ⟨b25,rfl,rfl,rfl⟩;refine zb3 fun g4 hle4 hb25=>?_;refine lW (bS sty25 I I I (ab sB) dC) ?_;rintro _ _ _ ⟨b26,rfl,rfl,rfl⟩;refine zb3 fun g5 hle5 hb26=>?_;refine lW (bS sty25 I I I (ab sB) dC) ?_;rintro _ _ _ ⟨b27,rfl,rfl,rfl⟩;refine zb3 fun g6 hle6 hb27=>?_;refine lW (bS sty22 I I I (ab sB) dC) ?_;rintro _ _ _ ⟨b28,rfl,rfl,rfl⟩;refine zb3 fun g7 hle7 hb28=>?_;have hlit:aG g7 (.slice (some ⟨b28,0,none⟩) 3 3) [[0,1,2],[1,2,3],[0,3]]:=⟨[em (.slice (some ⟨b25,0,none⟩) 3 3),em (.slice (some ⟨b26,0,none⟩) 3 3),em (.slice (some ⟨b27,0,none⟩) 2 2)],SlA.lit hb28 rfl rfl,⟨SlA.lit ((hle5.trans (hle6.trans hle7)) _ _ hb25) rfl rfl,SlA.lit ((hle6.trans hle7) _ _ hb26) rfl rfl,SlA.lit (hle7 _ _ hb27) rfl rfl,trivial⟩⟩;refine lW (cL call24 I (aF E g7 _ _ _ hlit dC dC)) ?_;rintro _ g8 _ ⟨rfl,hle8,u8,rfl,hu8⟩;obtain ⟨q8,d8,rfl⟩:=hu8.form;refine oZ (sK 0 ax I I I I I ⟨I,trivial⟩) (tZ (rZ (lK (qV 0 be ax I I I) (oZ (sK 1 ax I I I I I ⟨I,trivial⟩) (tZ (rE ?_))))));exact ST.retCD 1 s (.inl I) results7 I be ax I I uR ⟨I,hle1.trans (hle3.trans (hle4.trans (hle5.trans (hle6.trans (hle7.trans hle8))))),_,I,by rw[hs]; exact hu8⟩
 ·have hs:ir kd ls y=eO kd ls y:=by unfold ir; rw[zf5 oM]
  refine kP (tN (rZ (lK (qV 0 be ax I I I) (oZ (sK 1 ax I I I I I ⟨I,trivial⟩) (tZ (rE ?_))))));exact ST.retCD 1 s (.inl I) results7 I be ax I I uR ⟨I,hle1.trans hle3,_,I,by rw[hs]; exact hu3⟩
structure Sml (l:List Cl):Prop where
 rt:Rt l
 few:l.length≤20
 ids:∀ c∈l,iU c.id
theorem Ey:bw [[0,1,2],[1,2,3],[0,3]]=[⟨1,0,[]⟩,⟨2,0,[]⟩,⟨3,0,[]⟩,⟨4,0,[]⟩,⟨5,1,[⟨1,-1⟩,⟨2,1⟩]⟩,⟨6,1,[⟨1,-1⟩,⟨3,1⟩]⟩,⟨7,1,[⟨1,-1⟩,⟨4,1⟩]⟩,⟨8,1,[⟨2,-1⟩,⟨3,1⟩]⟩,⟨9,1,[⟨2,-1⟩,⟨4,1⟩]⟩,⟨10,1,[⟨3,-1⟩,⟨4,1⟩]⟩,⟨11,2,[⟨5,1⟩,⟨6,-1⟩,⟨8,1⟩]⟩,⟨12,2,[⟨8,1⟩,⟨9,-1⟩,⟨10,1⟩]⟩]:=by
 have h123:bF [1,2,3]=[1,2,3]:=by
  unfold bF;rw[iX dC];rfl
 have h03:bF [0,3]=[0,3]:=by
  unfold bF;rw[iX dC];rfl
 simp only[bw,aB,Bv,h123,h03];rfl
theorem zO (kd:Int)(ls:List (List Int))(y:Int):Sml (ir kd ls y):=by
 have key:∀ k m z,(jv k m z).length≤20→Sml (jv k m z):=fun k m z h=>⟨pA k m z,h,BX k m z⟩;unfold ir;split
 ·have hr:=nI [[0,1,2],[1,2,3],[0,3]];rw[Ey] at hr ⊢;have h0:=lC (zd7 Prod.snd hr);rw[show aa _=_ from by kernel_rfl] at h0;exact⟨h0,by decide,by unfold iU; decide⟩
 ·rename_i h;unfold eO at h ⊢;split
  ·rename_i h1;rw[zf6 h1] at h;exact key _ _ _ oM
  ·rename_i h1;exact key _ _ _ oM
open Go.ChangeShapes Go.WideShapes Go.ChangeAt Go.RowKit
set_option maxRecDepth 100000
section
variable {H:Type}{enc:TypeId×Value→H}{W:World}{base:Nat}{spare:Nat→Bool}{hd:Bool}
theorem Fd {n:Int}(h:(Lit.int .u8 n).wf=true):∃ k:Nat,n=(k:Int)∧k<256:=by
 have h2:IntKind.u8.min≤n∧n≤IntKind.u8.max:=by simpa [Lit.wf] using h
 have e1:IntKind.u8.min=0:=by decide
 have e2:IntKind.u8.max=255:=by decide
 exact⟨n.toNat,oM,oM⟩
theorem Eh {fuel:Nat}{v:Value}{x:DataW H×List MemPlace}(h:DataW.trod enc Tryz.prog W base spare hd fuel 5 [v]=some x):∃ k:Nat,v = .int .u8 (k:Int)∧k<256:=by
 obtain ⟨a,e,_,w⟩:=DataW.trod_int uT5 h;obtain ⟨k,rfl,hk⟩:=Fd w;simp at e;exact⟨k,e,hk⟩
theorem EJ {r:Reach}{b0:Nat}{v:Value}{d:DataW H}{p:List MemPlace}(hv:Value.okWide Tryz.prog W r b0 5 v)(h:DataW.Trod enc Tryz.prog W base spare hd 5 v d p):∃ k:Nat,v = .int .u8 (k:Int)∧k<256:=by
 obtain ⟨n,rfl⟩:=okWide_int uT5 hv;obtain ⟨fuel,hf⟩:=h;exact Eh (show DataW.trod enc Tryz.prog W base spare hd fuel 5 [.int .u8 n]=some (d,p) by simpa [Value.cells] using hf)
end
structure TOk (l:List Cl)(T:List (List Int)):Prop where
 pos:1≤T.length
 few:T.length≤4
 few3:l.length>12→T.length≤3
 mem:∀ t∈T,∀ x∈t,x∈df l
 len:∀ t∈T,t.length≤4 * (df l).length
 cov:∀ x∈df l,∃ t∈T,x∈t
theorem gB {l:List Cl}{d:Int}(h:∀ c∈l,c.dim≤d):∀ c∈aa l,c.dim≤d:=fun c hc=>by
 obtain ⟨x,hx,rfl⟩:=ze7.1 hc;exact h x ((cN _ _).1 hx)
theorem Bu (x:List Int):(bF x).length≤x.length:=by
 unfold bF;exact zk3 (hX _ _) (by rw[eH]; exact lR _)
theorem jL {n:Nat}:∀ {ls all out:List (List Int)},(∀ x∈all,x.length≤n)→(∀ x∈ls,x.length≤n)→aB all ls=some out→∀ x∈out,x.length≤n
 | [],all,out,h1,_,h=>by
  simp only[aB,zg3] at h;subst h;exact h1
 | s::r,all,out,h1,h2,h=>by
  have hr:∀ x∈r,x.length≤n:=fun x hx=>h2 x (by simp[hx]);unfold aB at h;split at h
  ·exact jL h1 hr h
  ·split at h
   ·cases h
   ·refine jL (fun x hx=>?_) hr h
    rcases (fz _ _ _).1 hx with k | k
    ·exact h1 x k
    ·have k1:=((fJ _ _).1 k).1.length_le;have k2:=Bu s;have k3:=h2 s (by simp);omega
theorem fl {ls:List (List Int)}{n:Nat}(h:∀ x∈ls,x.length≤n):∀ c∈bw ls,c.dim≤(n:Int) - 1:=by
 unfold bw;cases hs:aB [] ls with
 | none=>intro c hc; cases hc
 | some all =>
  refine gB fun c hc=>?_;obtain ⟨p,hp,rfl⟩:=ze7.1 hc;have:=jL (n:=n) (by simp) h hs p.1 (List.fst_mem_of_mem_zipIdx hp);show (p.1.length:Int) - 1≤_;omega
theorem fL {a b:List Cl}{m n:Int}(ha:∀ c∈a,c.dim≤m)(hb:∀ c∈b,c.dim≤n):∀ c∈br a b,c.dim≤m+n:=by
 unfold br;split
 ·intro c hc; cases hc
 ·split
  ·refine gB fun c hc=>?_;obtain ⟨x,hx,hc⟩:=List.mem_flatMap.1 hc;obtain ⟨z,hz,rfl⟩:=ze7.1 hc;have h1:=gB ha x hx;have h2:=gB hb z hz;show x.dim+z.dim≤_;omega
  ·intro c hc; cases hc
theorem z2 (n:Nat):∀ c∈sN n,c.dim≤2:=by
 refine gB fun c hc=>?_;unfold dz at hc
 rcases ze8.1 hc with hc | hc
 ·rcases ze8.1 hc with hc | hc
  ·rcases ze8.1 hc with hc | hc
   ·obtain ⟨i,-,rfl⟩:=ze7.1 hc;exact (by decide:(0:Int)≤2)
   ·obtain ⟨i,-,rfl⟩:=ze7.1 hc;exact (by decide:(1:Int)≤2)
  ·rw[zh3.1 hc];exact Int.le_refl _
 ·split at hc
  ·rw[zh3.1 hc];exact Int.le_refl _
  ·cases hc
theorem vL (ls:List (List Int)):∀ x∈lz ls,x.length≤4:=fun x hx=>by
 obtain ⟨l,-,rfl⟩:=ze7.1 hx;rw[ze2,zd9];omega
theorem AN (m:Int)(ls:List (List Int))(y:Int):∀ c∈m0 m ls y,c.dim≤3:=by
 have up:∀ {l:List Cl} {d:Int},(∀ c∈l,c.dim≤d)→d≤3→∀ c∈l,c.dim≤3:=fun h1 h2 c hc=>by
  have:=h1 c hc;omega
 have hsf:=(pg y).2.2;have e1:∀ c∈bw [[0,1]],c.dim≤((2:Nat):Int) - 1:=fl dC;unfold m0;split
 ·exact up (fl hsf) dC
 ·split
  ·exact up (fL (fl (eu _).2) (fl (eu _).2)) dC
  ·split
   ·exact up (z2 _) dC
   ·split
    ·exact up (fL (fL e1 e1) e1) dC
    ·split
     ·refine up (fl (n:=4) fun x hx=>?_) dC
      rcases ze8.1 hx with h | h
      ·exact vL ls x h
      ·have:=hsf x (List.mem_of_mem_take h);omega
     ·exact up (fl (vL ls)) dC
theorem rV (kd:Int)(ls:List (List Int))(y:Int):∀ c∈jv kd ls y,c.dim≤3:=fun c hc=>by
 obtain ⟨a,ha,rfl⟩:=mR (Da y) hc;show a.dim≤3;unfold o6 at ha;split at ha
 ·have e1:∀ c∈bw [[0,1],[1,2],[0,2]],c.dim≤((2:Nat):Int) - 1:=fl dC;have:=fL e1 e1 a ha;omega
 ·exact AN _ _ _ a ha
theorem xf (kd:Int)(ls:List (List Int))(y:Int):∀ c∈ir kd ls y,c.dim≤3:=by
 unfold ir;split
 ·rw[Ey];decide
 ·unfold eO;split
  ·exact rV _ _ _
  ·exact rV _ _ _
theorem m5 {l:List Cl}(h:Rt l){c:Cl}(hc:c∈l):c.sides.length≤l.length:=by
 have hf:=h.form c hc;have hn:(c.sides.map ai.cell).Nodup:=by
  rw[List.Nodup,zj7];exact hf.asc.imp fun h=>by omega
 have:=mi (m:=l.map Cl.id) hn fun x hx=>by
  obtain ⟨q,hq,rfl⟩:=ze7.1 hx;obtain ⟨d,hd,-⟩:=hf.found q hq;obtain ⟨h1,h2⟩:=c4 hd;exact ze7.2 ⟨d,h1,h2⟩
 rwa [ze2,ze2] at this
theorem tt (L:List Cl)(id:Int):∀ (T:List (List Int)) (k:Nat),(∃ t∈T,id∈ee L t)→tlB L k T id≠0
 | [],_,h=>by obtain ⟨t,ht,_⟩:=h; cases ht
 | t::T,k,h=>by
  unfold tlB;by_cases e:id∈ee L t
  ·rw[zf6 (by simpa using e)];have:=Nat.two_pow_pos k;omega
  ·have:tlB L (k+1) T id≠0:=tt L id T (k+1) (by
    obtain ⟨u,hu,h2⟩:=h
    rcases ze6.1 hu with rfl | hu
    ·exact absurd h2 e
    ·exact⟨u,hu,h2⟩)
   omega
theorem yK {l:List Cl}(h:Rt l){T:List (List Int)}(hT:TOk l T):∀ k:Nat,∀ c∈l,9≤c.dim+k→∃ t∈T,c.id∈ee l t:=by
 intro k;induction k with
 | zero =>
  intro c hc hk;have:=(h.form c hc).dim.2;omega
 | succ k ih =>
  intro c hc hk;by_cases e:ji l c.id=true
  ·unfold ji at e;obtain ⟨d,hd,h2⟩:=zj3.1 e;obtain ⟨x,hx,h3⟩:=zj3.1 h2;have h3:x.cell=c.id:=zf8 h3;obtain ⟨c',hf,hdim⟩:=(h.form d hd).found x hx;rw[h3,h.find hc] at hf;injection hf with hf
   subst hf;obtain ⟨t,ht,hm⟩:=ih d hd oM;refine⟨t,ht,?_⟩;have:=n8 h t d hd (by simpa using hm) x hx;rw[h3] at this;simpa using this
  ·have hm:c.id∈df l:=by
    unfold df;rw[h.tab];refine ze7.2 ⟨c,zg9.2 ⟨hc,?_⟩,I⟩;simpa using e
   obtain ⟨t,ht,hx⟩:=hT.cov _ hm;refine⟨t,ht,(m8 l t c.id).2 ⟨c.id,hx,.refl _ ?_⟩⟩;unfold jz;rw[h.find hc];simp
theorem vA {l:List Cl}(h:Rt l){T:List (List Int)}(hT:TOk l T):ep l T=0:=by
 have h4:=hT.few;have hf:(T.any fun t=>t.any fun id=>(aM (ae l) id).isNone)=false:=by
  rw[zj8];intro t ht;rw[zj2,zj8];intro x hx;have:=hT.mem t ht x hx;unfold df at this;obtain ⟨c,hc,rfl⟩:=ze7.1 this;rw[h.tab] at hc ⊢;rw[h.find (zg9.1 hc).1];simp
 have hz:((ae l).any fun c=>decide (tlB (ae l) 0 T c.id=0))=false:=by
  rw[h.tab,zj8];intro c hc;have hd:=(h.form c hc).dim;obtain ⟨t,ht,hm⟩:=yK h hT (9 - c.dim).toNat c hc oM;have:=tt l c.id T 0 ⟨t,ht,hm⟩;simpa using this
 unfold ep;rw[h.check,zf5 (by simp),zf5 oM,hf,zf5 (by simp),hz,zf5 (by simp)]
theorem Bm (n b:Nat)(hn:n≤4)(hb:b<2 ^ n):(bD b).length≤2 ^ n - 1:=by
 have key:∀ n,n<5→∀ b,b<2 ^ n→(bD b).length≤2 ^ n - 1:=by decide +kernel
 exact key n oM b hb
theorem wt {α β:Type}{f:α→List β}{m:Nat}:∀ {q:List α},(∀ x∈q,(f x).length≤m)→(q.flatMap f).length≤q.length * m
 | [],_=>by simp
 | x::q,h=>by
  have h1:=h x (by simp);have h2:=wt (q:=q) fun z hz=>h z (by simp[hz]);rw[zh1,ze1,ze4,Nat.succ_mul];omega
structure Sm3 (l:List Cl):Prop extends Sml l where
 dims:∀ c∈l,c.dim≤3
theorem zP (kd:Int)(ls:List (List Int))(y:Int):Sm3 (ir kd ls y):=⟨zO kd ls y,xf kd ls y⟩
theorem Cm {l:List Cl}(h:Sm3 l){T:List (List Int)}(hT:TOk l T):(cj l T).length≤200:=by
 have h1:(cj l T).length=(oE l T).length:=am _;have h2:(oE l T).length≤l.zipIdx.length * (2 ^ T.length - 1):=wt fun q _=>by
  rw[ze2];exact Bm _ _ hT.few (mN l q.1.id T)
 rw[List.length_zipIdx] at h2;have h3:=h.few;have h4:=hT.few;have h5:=hT.few3;have h6:=hT.pos;rw[h1];refine zk3 h2 ?_;by_cases e:l.length>12
 ·have h7:=h5 e
  rcases (by omega:T.length=1∨T.length=2∨T.length=3) with k | k | k <;> rw[k] <;> omega
 ·rcases (by omega:T.length=1∨T.length=2∨T.length=3∨T.length=4) with k | k | k | k <;> rw[k] <;> omega
theorem Dx {l:List Cl}(h:Sm3 l){T:List (List Int)}(hT:TOk l T):Cov l (tlB l 0 T) T.length :=
 sf h.rt hT.few (by have:=h.few; omega) (fun c hc=>by have:=h.dims c hc; omega) fun c hc=>by have:=m5 h.rt hc; have:=h.few; omega
theorem rD {l:List Cl}(h:Sm3 l){T:List (List Int)}(hT:TOk l T){p:Int}(hp:fu p=true):de l T p=0:=by
 have hr:Rt (cj l T):=pP h.rt hT.few (by have:=h.few; omega) (fun c hc=>by have:=h.dims c hc; omega) fun c hc=>by have:=m5 h.rt hc; have:=h.few; omega
 have hm:qN (cj l T)=false:=y9 fun d=>zk3 (zc2 _ _) (Cm h hT);unfold de;rw[zf5 (by rw[hp]; simp),vA h.rt hT,zf5 (by simp),h.rt.tab,hr.check,hm,zf5 (by simp)]
theorem pY:∀ (q:List Cl) (m:Int),m≤lX q m∧∀ c∈q,c.dim≤lX q m
 | [],m=>⟨Int.le_refl _,by simp⟩
 | c::q,m=>by
  obtain ⟨h1,h2⟩:=pY q (max m c.dim);have e:lX (c::q) m=lX q (max m c.dim):=rfl;rw[e];refine⟨oM,fun d hd=>?_⟩
  rcases ze6.1 hd with rfl | hd
  ·omega
  ·exact h2 d hd
def pgN (f:Nat→Nat→Nat→Int)(n D k:Nat):List (List Int):=(List.range n).map fun a=>(List.range D).map fun b=>f k a b
structure Nums (P:List (List (List Int)))(n D:Nat)(e:Int)(f:Nat→Nat→Nat→Int):Prop where
 few:P.length≤n
 n4:n≤4
 d9:D≤9
 page:∀ k,k<P.length→P[k]?=some (pgN f n D k)
 pos:∀ k a b,a<n→0≤f k a b
 less:∀ k a b,a<n→f (k+1) a b≤f k a b
 bd:∀ k a b,(f k a b).natAbs≤800
 sum:∀ k,k<n→(az (List.range n) fun a=>az (List.range D) fun b=>f k a b * sgP ((a:Int)+b))=e
def dZ (X:List Cl)(d:Int):List Cl:=X.filter fun c=>decide (c.dim=d)
theorem iY {X:List Cl}{d:Int}{c:Cl}:c∈dZ X d↔c∈X∧c.dim=d:=by
 unfold dZ;rw[zg9,zi9]
noncomputable def rkD (p:Int) (X:List Cl) (d:Int):Nat:=rkP p (dZ X d) (dZ X (d - 1))
noncomputable def o7 (p:Int) (X:List Cl) (d:Int):Int:=(dZ X d).length - (rkD p X d:Int) - (rkD p X (d+1):Int)
section
variable {p:Int}(hp:Fld p){n:Nat}{B:List Cl}(hdeg:∀ c∈B,0≤gJ n c.id∧gJ n c.id≤(n:Int) - 1)
include hdeg
theorem vI (d:Int):cH (rkP p) n B ((n:Int) - 1) (-1) d=(dZ B d).length - (rkD p B d:Int):=by
 have e1:lF n B ((n:Int) - 1) d=dZ B d:=List.filter_congr fun c hc=>by
  have:=hdeg c hc;have h5:gJ n c.id≤(n:Int) - 1:=this.2;simp[h5]
 have e2:oC n B (-1) (d - 1)=dZ B (d - 1):=List.filter_congr fun c hc=>by
  have:=hdeg c hc;have h5:gJ n c.id > -1:=oM;simp[h5]
 unfold cH;rw[e1,e2];rfl
include hp
theorem Bo (d:Int):cH (rkP p) n B ((n:Int) - 1) ((n:Int) - 1) d=(dZ B d).length:=by
 have e1:lF n B ((n:Int) - 1) d=dZ B d:=List.filter_congr fun c hc=>by
  have:=hdeg c hc;have h5:gJ n c.id≤(n:Int) - 1:=this.2;simp[h5]
 have e2:oC n B ((n:Int) - 1) (d - 1)=[]:=List.filter_eq_nil_iff.2 fun c hc=>by
  have:=hdeg c hc;simp;omega
 unfold cH;rw[e1,e2,vP hp];omega
theorem Dy (low d:Int):cH (rkP p) n B (-1) low d=0:=by
 have e1:lF n B (-1) d=[]:=List.filter_eq_nil_iff.2 fun c hc=>by
  have:=hdeg c hc;simp;omega
 unfold cH;rw[e1,DH hp];rfl
theorem B6 (h1:1≤n)(d:Int):(az (List.range n) fun a=>uB (rkP p) n B n a d - vB (rkP p) n B n a (d+1))=o7 p B d:=by
 have key:∀ m:Nat,m≤n→(az (List.range m) fun a=>uB (rkP p) n B n a d - vB (rkP p) n B n a (d+1))=cH (rkP p) n B ((m:Int) - 1) (-1) d - cH (rkP p) n B ((n:Int) - 1) ((m:Int) - 1) (d+1)+cH (rkP p) n B ((n:Int) - 1) (-1) (d+1):=by
  intro m;induction m with
  | zero =>
   intro _;have h0:=Dy hp hdeg (-1) d;rw[List.range_zero,gN];show 0=cH (rkP p) n B ((0:Int) - 1) (-1) d - cH (rkP p) n B ((n:Int) - 1) ((0:Int) - 1) (d+1)+_;rw[show (0:Int) - 1 = -1 by omega,h0];omega
  | succ m ih =>
   intro hm;rw[zM,ih oM];unfold uB vB;rw[show max ((m:Int) - (n:Int)) (-1) = -1 by omega,show min ((m:Int)+(n:Int) - 1) ((n:Int) - 1)=(n:Int) - 1 by omega,show ((m+1:Nat):Int) - 1=(m:Int) by omega];omega
 rw[key n (lR _),vI hdeg,vI hdeg,Bo hp hdeg];unfold o7;omega
end
section
variable {L:List Cl}{f:Int→Nat}{n:Nat}(h:Cov L f n)
include h
theorem Cov.ent {d:Cl}(hd:d∈L){u:Nat}(hu:u∈bD (f d.id)){e:Cl}(he:e∈L){t:Nat}(ht:t∈bD (f e.id)) :
  fF (ay (a7 L n (ixB L d.id) d u)) (ay (a7 L n (ixB L e.id) e t))=(if t=u then fF d e else 0)+(if e=d then iB u t d.dim else 0):=by
 have h1:=h.inner hd hu he ht 1;unfold Go.Proofs.YtkbagdedfdfjhaaGreatDoor.inner ao at h1;rw[h.find hd hu] at h1;rw[Int.one_mul] at h1;rw[← h1];unfold fF;show _=((ay (a7 L n (ixB L d.id) d u)).sides.map fun q=>if q.cell=bId n (ixB L e.id) t then 1 * q.sign else 0).sum;congr 1;refine zc5 fun q _=>?_;rw[Int.one_mul];rfl
end
theorem DL {p:Int}(hp:Fld p){α β α' β':Type}(R:List α)(C:List β)(g:α→α')(k:β→β')(e:α'→β'→Int)(e':α→β→Int)(he:∀ r∈R,∀ c∈C,e (g r) (k c)=e' r c):rkL p (R.map g) (C.map k) e=rkL p R C e':=by
 unfold rkL;rw[ze2,ze2];refine mf hp fun i hi j hj=>?_;rw[oI (r:=g R[i]) (c:=k C[j]) (by rw[zh5,gE hi]; rfl) (by rw[zh5,gE hj]; rfl),oI (gE hi) (gE hj),he _ (gM hi) _ (gM hj)];exact .refl _
theorem ws {α β:Type}{g:α→List β}{k:α→β}:∀ {l:List α},(∀ x∈l,g x=[k x])→l.flatMap g=l.map k
 | [],_=>rfl
 | a::l,h=>by
  rw[zh1,h a (by simp),ws fun x hx=>h x (by simp[hx])];rfl
theorem l8:bD 1=[1]:=by decide
theorem qv:onesB 1=1:=by decide
theorem EZ (d:Int):iB 1 1 d=0:=by
 unfold iB;rw[show cw 1=[] by decide];rfl
theorem AD (X:List Cl)(d:Int):(dZ (aa X) d).length=(dZ X d).length:=by
 unfold dZ aa;rw[List.filter_map,ze2];exact ((fx X).filter _).length_eq
section
variable {L:List Cl}{f:Int→Nat}{n:Nat}(h:Cov L f n)(h1:∀ c∈L,f c.id=1)
include h h1
theorem tx {z:Cl}:z∈aa (a6 L f n)↔∃ c∈L,z=ay (a7 L n (ixB L c.id) c 1):=by
 rw[h.mem];constructor
 ·rintro ⟨c,hc,s,hs,rfl⟩;rw[h1 c hc,l8,zh3] at hs;exact⟨c,hc,by rw[hs]⟩
 ·rintro ⟨c,hc,rfl⟩;exact⟨c,hc,1,by rw[h1 c hc,l8,zh3],I⟩
omit h in
theorem vV:a6 L f n=L.zipIdx.map fun q=>a7 L n q.2 q.1 1:=by
 unfold a6;refine ws fun q hq=>?_;have hm:q.1∈L:=zf7 (List.mem_zipIdx_iff_getElem?.1 hq);rw[h1 _ hm,l8];rfl
omit h in
theorem BL (d:Int):(dZ (aa (a6 L f n)) d).length=(dZ L d).length:=by
 rw[AD,vV h1];unfold dZ;rw[List.filter_map,ze2];have e:L.filter (fun c=>decide (c.dim=d))=(L.zipIdx.map Prod.fst).filter fun c=>decide (c.dim=d):=by rw[List.zipIdx_map_fst]
 rw[e,List.filter_map,ze2];congr 1;refine List.filter_congr fun q _=>?_;show decide ((a7 L n q.2 q.1 1).dim=d)=decide (q.1.dim=d);unfold a7;rw[qv];dsimp only;rw[show q.1.dim+((1:Nat):Int) - 1=q.1.dim by omega]
theorem vU {d:Int}{z:Cl}:z∈dZ (aa (a6 L f n)) d↔z∈(dZ L d).map fun c=>ay (a7 L n (ixB L c.id) c 1):=by
 have hdim:∀ c:Cl,(ay (a7 L n (ixB L c.id) c 1)).dim=c.dim:=fun c=>by
  show c.dim+(onesB 1:Int) - 1=c.dim;rw[qv];omega
 rw[iY,tx h h1,ze7];constructor
 ·rintro ⟨⟨c,hc,rfl⟩,hd⟩;rw[hdim] at hd;exact⟨c,iY.2 ⟨hc,hd⟩,I⟩
 ·rintro ⟨c,hc,rfl⟩;obtain ⟨hc,hd⟩:=iY.1 hc;exact⟨⟨c,hc,I⟩,by rw[hdim]; exact hd⟩
theorem CQ {p:Int}(hp:Fld p)(d:Int):rkD p (aa (a6 L f n)) d=rkD p L d:=by
 unfold rkD rkP;rw[DK hp (R':=(dZ L d).map fun c=>ay (a7 L n (ixB L c.id) c 1)) (C':=(dZ L (d - 1)).map fun c=>ay (a7 L n (ixB L c.id) c 1)) (fun z=>vU h h1) (fun z=>vU h h1)];refine DL hp _ _ _ _ _ _ fun r hr c hc=>?_;have hr:=(iY.1 hr).1;have hc:=(iY.1 hc).1;have hu:∀ c∈L,1∈bD (f c.id):=fun c hc=>by rw[h1 c hc,l8,zh3]
 rw[h.ent hr (hu r hr) hc (hu c hc),zf6 rfl,EZ];split <;> omega
theorem DZ {p:Int}(hp:Fld p)(d:Int):o7 p (aa (a6 L f n)) d=o7 p L d:=by
 unfold o7;rw[BL h1,CQ h h1 hp,CQ h h1 hp]
omit h in
theorem DY:(aa (a6 L f n)).length=L.length:=by rw[am,vV h1,ze2,List.length_zipIdx]
end
theorem pX {M:Int}:∀ (q:List Cl) (m:Int),m≤M→(∀ c∈q,c.dim≤M)→lX q m≤M
 | [],m,h,_=>h
 | c::q,m,h,hq=>pX q (max m c.dim) (by have:=hq c (by simp); omega) fun d hd=>hq d (by simp[hd])
theorem BM {L:List Cl}{f:Int→Nat}{n:Nat}(h:Cov L f n)(h1:∀ c∈L,f c.id=1):oL (aa (a6 L f n))=oL L:=by
 unfold oL;rw[h.right.tab,h.rt.tab];have g1:=pY L (-1);have g2:=pY (aa (a6 L f n)) (-1);have hdim:∀ c:Cl,(ay (a7 L n (ixB L c.id) c 1)).dim=c.dim:=fun c=>by
  show c.dim+(onesB 1:Int) - 1=c.dim;rw[qv];omega
 have a:=pX (M:=lX L (-1)) (aa (a6 L f n)) (-1) g1.1 fun z hz=>by
  obtain ⟨c,hc,rfl⟩:=(tx h h1).1 hz;rw[hdim];exact g1.2 c hc
 have b:=pX (M:=lX (aa (a6 L f n)) (-1)) L (-1) g2.1 fun c hc=>by
  have:=g2.2 _ ((tx h h1).2 ⟨c,hc,rfl⟩);rwa [hdim] at this
 omega
theorem qg {l:List Cl}(h:Sm3 l):TOk l [df l]:=⟨Nat.le_refl _,by simp,by simp,fun t ht x hx=>by rw[zh3] at ht; rwa [← ht],fun t ht=>by rw[zh3] at ht; rw[ht]; omega,fun x hx=>⟨_,zh3.2 rfl,hx⟩⟩
theorem Bh {l:List Cl}(h:Sm3 l):∀ c∈l,tlB l 0 [df l] c.id=1:=fun c hc=>by
 have hd:=(h.rt.form c hc).dim;obtain ⟨t,ht,hm⟩:=yK h.rt (qg h) (9 - c.dim).toNat c hc oM;have h1:=tt l c.id [df l] 0 ⟨t,ht,hm⟩;have h2:=mN l c.id [df l];rw[ze3] at h2;omega
theorem tW {l:List Cl}(h:Sm3 l){p:Int}(hp:fu p=true) :
  cD l [df l] p=[[(List.range (dimN l)).map fun d:Nat=>o7 p l d]]∧(cj l [df l]).length=l.length∧oL (cj l [df l])=oL l:=by
 have hT:=qg h;have hcov:=Dx h hT;have h1:=Bh h;have hE:=rD h hT hp;have ho:=qr hE;have hB:cj l [df l]=aa (a6 l (tlB l 0 [df l]) [df l].length):=by unfold cj; rw[tD]
 refine⟨?_,?_,?_⟩
 ·rw[ho.eq,h.rt.tab];have hone:∀ d:Nat,tr (rkP p) [df l].length (cj l [df l]) 1 ((0:Nat):Int) d=o7 p l d:=fun d=>by
   have hs:=B6 (p:=p) (n:=[df l].length) (B:=cj l [df l]) ho.fp.fld (by rw[hB]; exact hcov.degs) (lR _) d;rw[ET _ _ _ oM oM (by rw[ze3]; omega)];rw[hB,DZ hcov h1 ho.fp.fld] at hs;rw[← hs,← hB];show _=az [0] _;rw[cg,gN,Int.add_zero];show _=uB _ _ _ _ ((0:Nat):Int) _ - _;rw[show ((0:Nat):Int)+(d:Int)=(d:Int) by omega];rfl
  show iS [uy _ _ _ _ _]=_;show [uy _ _ _ _ _]=_;congr 1;show [(List.range (dimN l)).map _]=_;congr 1;exact zc5 fun d _=>hone d
 ·rw[hB,DY h1]
 ·rw[hB,BM hcov h1]
theorem j2 {M:List Cl}(h:Rt M)(d:Int):cd M d=(dZ M d).map Cl.id:=by
 unfold cd dZ;rw[h.tab]
theorem B9 (L:List Int)(p:Int)(k:Nat):(L.map (· % p)).getD k 0=L.getD k 0 % p:=by
 rw[zg6,zg6,zh5];cases L[k]? with
 | none=>exact (Int.zero_emod p).symm
 | some x=>rfl
theorem DI {p:Int}(hp:Fld p){M:List Cl}(h:Rt M)(d:Int):rk p (atF ((wN M d).map (· % p)) (cd M d).length) (cd M (d - 1)).length (cd M d).length=rkD p M d:=by
 have l1:(cd M d).length=(dZ M d).length:=by rw[j2 h,ze2]
 have l0:(cd M (d - 1)).length=(dZ M (d - 1)).length:=by rw[j2 h,ze2]
 have h1:rk p (atF ((wN M d).map (· % p)) (cd M d).length) (cd M (d - 1)).length (cd M d).length=rkL p (dZ M (d - 1)) (dZ M d) (fun r c=>fF c r):=by
  have h2:rk p (atF ((wN M d).map (· % p)) (cd M d).length) (cd M (d - 1)).length (cd M d).length=rk p (mx (dZ M (d - 1)) (dZ M d) fun r c=>fF c r) (cd M (d - 1)).length (cd M d).length:=by
   refine mf hp fun i hi j hj=>?_;have e1:i<(dZ M (d - 1)).length:=oM;have e2:j<(dZ M d).length:=oM;rw[oI (gE e1) (gE e2)];unfold atF;rw[B9,BW h hi hj,j2 h d,j2 h (d - 1)];have c1:((dZ M d).map Cl.id).getD j 0=((dZ M d)[j]).id:=by
    rw[zg6,zh5,gE e2];rfl
   have c2:((dZ M (d - 1)).map Cl.id).getD i 0=((dZ M (d - 1))[i]).id:=by
    rw[zg6,zh5,gE e1];rfl
   have c3:dY (ae M) ((dZ M d)[j]).id=(dZ M d)[j]:=by
    unfold dY;rw[h.tab,h.find (iY.1 (gM e2)).1];rfl
   rw[c1,c2,c3];exact mS _ _
  rw[h2,l1,l0];rfl
 rw[h1];exact BB hp (dZ M d) (dZ M (d - 1)) fF
theorem BC {p:Int}(hp:Fld p){M:List Cl}(h:Rt M):rkD p M 0=0:=by
 have:dZ M (0 - 1)=[]:=List.filter_eq_nil_iff.2 fun c hc=>by
  have:=(h.form c hc).dim.1;simp only[zi9];omega
 unfold rkD;rw[this];exact vP hp _
theorem p4 {M:List Cl}(h:Rt M)(d:Int):(cd M d).length=(dZ M d).length∧(dZ M d).length≤M.length:=⟨by rw[j2 h,ze2],zc2 _ _⟩
theorem B4 (n:Nat):(c8 n).length≤1:=by
 unfold c8;split <;> simp
theorem we {n:Nat}(h:n≠0):c8 n=[(n:Int)]:=by unfold c8; rw[zf5 h]
theorem nS (E:World)(g:PH)(s:Own)(v u:Value)(n m:Nat)(hv:SlA gv g v (c8 n))(hu:SlA gv g u (c8 m))(h:n<m) :
  Ctr Tryz.prog E 120 #[v,u] g s (fun r g' s'=>r = .tuple #[.slice none 0 0,v]∧g=g'∧s=s'):=by
 refine za9 (args:=[v,u]) func120 I ntmps120 (bE I) ?_;refine rZ (lA I (aT I (sQ (sW I (lM I (lW (cL call164 I (uE E g _ v u n m hv hu)) ?_))))));rintro _ _ _ ⟨rfl,rfl,rfl⟩;refine lU (SU.eq (v':=vb true) (lS I I) (zd7 vb (zf4 ((Cj n m).2 h)))) (tZ (cT I (sW I (lA I (aT I (rE (tR ?_)))))));exact ST.ret2 (.inl I) results120 I I ⟨I,I,I⟩
theorem tT (E:World)(g:PH)(s:Own)(x:Bool)(B C:List UInt8)(l1:B.length≤4)(l2:C.length≤4)(h:beN B<beN C)(hx:x=true→beN B≠0) :
  Ctr Tryz.prog E 71 #[.agg #[vb x,txt B],.agg #[vb false,txt C]] g s (fun r g' s'=>s=s'∧Le g g'∧∃ (qb:Bool) (qt:List UInt8),r = .tuple #[.agg #[vb qb,txt qt],tQ false (gC (c8 (if x=true then beN C - beN B else beN B))),vb true]):=by
 have hC:=ns C;have hC4:=yo l2;have hlC:=we (n:=beN C) oM;refine za9 (args:=[.agg #[vb x,txt B],.agg #[vb false,txt C]]) func71 I ntmps71 (bE I) ?_;refine rZ (bW (bO I) fun b2=>?_);refine bW (bO I) fun b3=>?_;refine bW (aL zk8) fun b4=>?_;refine bW (aL zk8) fun b5=>?_;refine aT I (sQ ?_);refine dW [] [(0,1),(2,1),(1,0),(3,0),(4,2),(5,2)] zd8 kR ?_;refine pK I (qV 3 isAgg121 dG I I I) (pK I (qV 2 isAgg121 dG I I I) (SP.o I (cL call119 I (qJ E _ _ x B l1)) dC (.inr iR) ?_));rintro v6 g1 _ ⟨rfl,hle1,hs1⟩;obtain ⟨p1,c1,rfl⟩:=za2 hs1;refine SP.o rfl (cL call119 rfl (qJ E _ _ false C l2)) dC (.inr (by rintro v8 g2 _ ⟨rfl,hle2,hs2⟩; exact⟨by exact Le.trans (by assumption) (by assumption),(by exact .refl _)⟩)) ?_;rintro v8 g2 _ ⟨rfl,hle2,hs2⟩;obtain ⟨p2,c2,rfl⟩:=za2 hs2;have h12:=hle1.trans hle2;have hs1:=za3 hs1 hle2;have hlC2:(c8 (beN C)).length=1:=by rw[hlC]; rfl
 refine pU I (aS I) (pU I (aS I) (pN (tN (sQ (sW I (lU (eN aY I) (lU (SU.eq (v':=vb false) (eQ I I) (zd7 vb (zf3 oM))) (tZ ?_))))))));cases x with
 | false =>
  rw[zf5 dC];refine cF I (kP (tN (sW I (lM I (lW (cL call120 I (nS E g2 _ _ _ (beN B) (beN C) hs1 hs2 h)) ?_)))));rintro _ _ _ ⟨rfl,rfl,rfl⟩;refine lM I (yX I (yX I (lA I (aT I (sQ (rZ (lU (fA lx I sizeOf4 I) (lK (qL isAgg4 I (cO 3 I I)) (lM I (yA I (yA I (yA I (yF I (tZ (cF I (kP (tN (sW I (lU (fA lx I sizeOf4 I) (lK (qL isAgg4 I (cO 3 I I)) (lU (fA lx I sizeOf4 I) (lK (qL isAgg4 I (cO 2 I I)) (lU (SU.neqB uT4 I I) ?_)))))))))))))))))))))));refine lW (cL call118 I (eJ E _ _ (.slice none 0 0) [] _ (zb8 _ _) dC)) ?_;rintro _ g3 _ ⟨rfl,rfl,hle3⟩;have h13:=h12.trans hle3;refine lM I (lW (cL call118 I (eJ E _ _ _ (c8 (beN B)) _ (za3 hs1 hle3) (qB _))) ?_);rintro _ g4 _ ⟨rfl,rfl,hle4⟩;have h14:=h13.trans hle4;refine oZ (sK 1 dG I I I I I sB) ?_;refine oZ (sK 0 dG I I I I I sB) ?_;refine aT I (rE ?_);exact ST.retCCT 1 0 s (.inl I) results71 I I I isAgg121 dG isAgg121 dG I I I I uR ⟨I,h14,_,_,I⟩
 | true =>
  have hB:=we (hx rfl);have hB2:(c8 (beN B)).length=1:=by rw[hB]; rfl
  rw[zf6 rfl];refine cF I (kP (tN (sW I (lM I (lW (cL call120 I (nS E g2 _ _ _ (beN B) (beN C) hs1 hs2 h)) ?_)))));rintro _ _ _ ⟨rfl,rfl,rfl⟩;refine lM I (yX I (yX I (lA I (aT I (sQ (rZ (lU (fA lx I sizeOf4 I) (lK (qL isAgg4 I (cO 3 I I)) (lM I (yC I (lY I I I (eN aY I) (lY I I I (SU.eq (v':=vb true) (gR I I) (zd7 vb (zf4 oM))) (yP I (tZ (cT I (rG (lM I (lW (bS sty162 I I I (ab ⟨I,trivial⟩) dC) ?_))))))))))))))))));rintro _ _ _ ⟨b34,rfl,rfl,rfl⟩;refine zb3 fun g3 hle3 hb34=>?_;have h13:=h12.trans hle3;refine lW (cL call121 I (uF E _ _ (.slice none 0 0) _ 0 1 (zb8 _ _) (SlA.lit hb34 I I) dC)) ?_;rintro v35 g4 _ ⟨rfl,hle4,hs4⟩;have h14:=h13.trans hle4;refine lM I (lM I (lW (cL call122 I (uD E _ _ _ _ (beN C) (beN B) (za3 hs2 (hle3.trans hle4)) (za3 hs1 (hle3.trans hle4)) oM oM)) ?_));rintro v38 g5 _ ⟨rfl,hle5,hs5⟩;have h15:=h14.trans hle5;have hs4:=za3 hs4 hle5;refine lA I (aT I (sW I (lU (fA lx I sizeOf4 I) (lK (qL isAgg4 I (cO 3 I I)) (lU (fA lx I sizeOf4 I) (lK (qL isAgg4 I (cO 2 I I)) (lU (SU.neqB uT4 I I) (lW (cL call118 I (eJ E _ _ v35 _ _ hs4 (qB _))) ?_))))))));rintro _ g6 _ ⟨rfl,rfl,hle6⟩;have h16:=h15.trans hle6;refine lM I (lW (cL call118 I (eJ E _ _ v38 _ _ (za3 hs5 hle6) (qB _))) ?_);rintro _ g7 _ ⟨rfl,rfl,hle7⟩;have h17:=h16.trans hle7;refine oZ (sK 1 dG I I I I I sB) ?_;refine oZ (sK 0 dG I I I I I sB) ?_;refine aT I (rE ?_);exact ST.retCCT 1 0 s (.inl I) results71 I I I isAgg121 dG isAgg121 dG I I I I uR ⟨I,h17,_,_,I⟩
theorem sV (E:World)(g:PH)(s:Own)(n p:Int)(hp:p<4294967296)(hn:(n.natAbs:Int)<p) :
  Ctr Tryz.prog E 71 #[oz n,oz p] g s (fun r g' s'=>s=s'∧Le g g'∧∃ (qb:Bool) (qt:List UInt8),r = .tuple #[.agg #[vb qb,txt qt],oz (n % p),vb true]):=by
 have hfin:tQ false (gC (c8 (if decide (n<0)=true then p.natAbs - n.natAbs else n.natAbs)))=oz (n % p):=by
  have hm:n % p=if n<0 then n+p else n:=by
   split
   ·rw[← Int.add_emod_right];exact Int.emod_eq_of_lt oM oM
   ·exact Int.emod_eq_of_lt oM oM
  rw[hm];by_cases h0:n<0
  ·rw[zf6 (zf4 h0),zf6 h0];exact vx oM oM fun _=>(zf3 oM).symm
  ·rw[zf5 (by simp[h0]),zf5 h0];exact vx oM oM fun _=>(zf3 oM).symm
 rw[← hfin,kO (z:=n) oM,kO (z:=p) oM,zf3 (p:=p<0) oM];have e1:=mD (m:=n.natAbs) oM;have e2:=mD (m:=p.natAbs) oM;have:=tT E g s (decide (n<0)) (ju n.natAbs) (ju p.natAbs) (qA oM) (qA oM) (by rw[e1,e2]; omega) (fun h=>by rw[e1]; have:=zf8 h; omega);rwa [e1,e2] at this
def Es (k i:Nat):Int:=if i=0 then 0 else k
theorem tV (E:World)(g:PH)(s:Own)(B:List UInt8)(hB:B.length≤4) :
  Ctr Tryz.prog E 72 #[.agg #[vb false,txt B]] g s (fun r g' s'=>s=s'∧Le g g'∧r = .tuple #[vi (beN B),vb true]):=by
 have hC:=ns B;have hC4:=yo hB;obtain ⟨k,hk⟩:∃ k,k=beN B:=⟨_,rfl⟩;have hck:=cf k;refine za9 (args:=[.agg #[vb false,txt B]]) func72 I ntmps72 (bE I) ?_;refine rZ (bW (bO I) fun b1=>?_);refine lA I (aT I (rZ (lK (qV 0 isAgg121 dG I I I) (lW (cL call119 I (qJ E _ _ false B hB)) ?_))));rintro v6 g1 _ ⟨rfl,hle1,hs1⟩;rw[← hk] at hs1 hC ⊢;obtain ⟨p1,c1,rfl⟩:=za2 hs1;have hll:=B4 k;refine aT I (sQ (sW I (lU (eN aY I) (lU (SU.eq (v':=vb false) (gR I I) (zd7 vb (zf3 oM))) (tZ (cF I (kP (tN (rZ (aT I (sQ (sW I (lU (eN aY I) (lM I (tZ (bK ?_))))))))))))))));refine oP (ι:=Nat) (fun i=>[(1,pp b1 0),(5,.int .u64 (Es k i)),(13,.slice p1 (c8 k).length c1),(14,vi (c8 k).length),(15,vi i)]) (fun _=>g1) (fun _=>pt b1 (.cells #[vb false,txt B] 121 (0,0))::s) (fun i=>i≤(c8 k).length) (fun i=>(c8 k).length - i) 0 sB I I (zf2 _) ?_;rintro i hi;refine rZ (yL I (tZ (sQ ?_)));refine iP I (fun hlt=>?_) (fun hlt=>?_)
 ·obtain rfl:i=0:=oM
  rcases hck with ⟨e,-⟩ | ⟨e,hk0⟩
  ·rw[e] at hlt;simp at hlt
  have hb1:=za4 hs1 (by rw[e]; exact Nat.zero_lt_one);have hg0:(c8 k)[((0:Nat):Int).toNat]?=some (k:Int):=by rw[e]; rfl
  have hor:IntKind.u64.wrap (BitVec.ofInt IntKind.u64.bits (Es k 0) ||| BitVec.ofInt IntKind.u64.bits (k:Int)).toNat=Es k 1:=by
   have:=CP 0 k dC oM;rw[Nat.zero_or] at this;exact this
  refine kP (tN (sQ (bK (sW I (lU (iA aY dM I I hb1 dC sL) (lK (eB isAgg160 I (za5 hs1) hg0 I) (lA I (aT I (rG (lM I (lM I (lM I (lU (SU.eq (v':=vi 0) (SU.mulW I I) (zd7 vi (zk5 _ dC))) (lU (SU.eq (v':=.int .u64 (k:Int)) (SU.shl I I dC) (zd7 (Value.int .u64) (by rw[show (2:Int) ^ min (0:Int).toNat IntKind.u64.bits=1 by decide,vq]; omega))) ?_))))))))))))));refine lU (SU.eq (v':=.int .u64 (Es k 1)) (SU.or I I) (zd7 (Value.int .u64) hor)) (lA I (nL (bN (tN (rG (yD I (lM I (nL ?_))))))));exact gA 1 sB I I (by rw[e]; exact lR _) (by rw[e]; exact Nat.zero_lt_one)
 ·obtain rfl:i=(c8 k).length:=oM;have hacc:Es k (c8 k).length=(k:Int):=by
   rcases hck with ⟨e,h0⟩ | ⟨e,-⟩
   ·rw[e,h0]; rfl
   ·rw[e]; rfl
  rw[hacc];refine xI (tX (tX (bX (tN (sQ (bK (rZ (lU (fA lx I sizeOf4 I) (lK (qL isAgg4 I (cO 0 I I)) (lM I (yA I (yA I (yF I (aT I (cF I (sW I (lU (SU.eq (v':=vb false) (gQ I I) (zd7 vb (zf3 oM))) (aT I (cF I (kP (bN (tN ?_))))))))))))))))))))));refine sW I (lU (SU.eq (v':=vi k) (zd5 mW uT3 I) (zd7 vi (zk5 _ oM))) (lA I (aT I (rE (dR (s':=s) uR ?_)))));exact ST.ret2 (.inl I) results72 I I ⟨I,hle1,I⟩
theorem sX (E:World)(g:PH)(s:Own)(n:Int)(h0:0≤n)(h1:n<4294967296) :
  Ctr Tryz.prog E 72 #[oz n] g s (fun r g' s'=>s=s'∧Le g g'∧r = .tuple #[vi n,vb true]):=by
 have e1:=mD (m:=n.natAbs) oM;have:=tV E g s (ju n.natAbs) (qA oM);rw[e1,show ((n.natAbs:Nat):Int)=n by omega] at this;rw[kO oM,zf3 (p:=n<0) oM];exact this
def yh (L:List Int)(p:Int)(i:Nat):List Int:=(L.take i).map (· % p)++List.replicate (L.length - i) 0
theorem BR (L:List Int)(p:Int){i:Nat}(h:i≤L.length):(yh L p i).length=L.length:=by
 unfold yh;rw[ze1,ze2,zd9,List.length_replicate];omega
theorem Af (L:List Int)(p:Int):yh L p 0=List.replicate L.length 0:=rfl
theorem BS (L:List Int)(p:Int):yh L p L.length=L.map (· % p):=by
 unfold yh;rw[List.take_length,Nat.sub_self];simp
theorem BQ (L:List Int)(p:Int){i:Nat}(h:i<L.length):(yh L p i).set i (L[i] % p)=yh L p (i+1):=by
 unfold yh;have hl:((L.take i).map (· % p)).length=i:=by rw[ze2,zd9]; omega
 rw[List.set_append_right _ _ oM,hl,Nat.sub_self,show L.length - i=(L.length - (i+1))+1 by omega,List.replicate_succ,List.set_cons_zero,tS h,zg1];simp
theorem AA (E:World)(g:PH)(s:Own)(v:Value)(p:Int)(hp:Fp p)(R C:Nat)(hR:R≤400)(hC:C≤400)(L:List Int)(hL:L.length=R * C)(hv:Eu g v (R,C,L))(h1:∀ n∈L,n.natAbs≤1) :
  Ctr Tryz.prog E 32 #[vi p,v] g s (fun x g' s'=>s=s'∧Le g g'∧FmR g' x p R C (L.map (· % p))):=by
 have hlt:=hp.lt;have hm:=yg hR hC;obtain ⟨q,c,rfl,hs⟩:=hv;dsimp only at hs ⊢;refine za9 (args:=[vi p,.agg #[vi R,vi C,.slice q L.length c]]) func32 I ntmps32 (bE I) ?_;refine rZ (bW (bO I) fun b3=>?_);refine bW (aL zl2) fun b4=>?_;refine tZ (sW I (lU (fA underlying58 I zT3 I) (lK (qL (v:=vi R) iT3 I (cO 1 I I)) (lU (fA underlying58 I zT3 I) (lK (qL (v:=vi C) iT3 I (cO 1 I I)) (lW (cL call69 I (r6 E g _ p hp R C hR hC)) ?_))))));rintro _ _ _ ⟨rfl,bz,rfl,rfl⟩;refine bW (aL zl2) fun b5=>?_;refine oZ (sK 0 eT rfl rfl rfl rfl rfl (by (repeat' (first | exact trivial | refine⟨by rfl,?_⟩)))) ?_;refine tZ (sQ (rZ (lU (fA fN I zT3 I) (lK (qL (v:=vi p) iT3 I (cO 0 I I)) (lU (SU.eq (v':=vb false) (eQ I I) (zd7 vb (zf3 oM))) (lM I (lY I I I (fA underlying58 I sizeOf56 I) (SL.gq (gT I I I dC) (qL (v:=.slice q L.length c) isAgg56 I (cO 3 I I)) dC (lY I I I (eN underlying56 I) (lY I I I (fA fN I bZ I) (SL.gq (gT I I I dC) (qL (v:=.slice (some ⟨bz,0,none⟩) (R * C) (R * C)) dh I (cO 0 I I)) dC (lY I I I (eN aj I) (lY I I I (SU.eq (v':=vb false) (nQ I I) (zd7 vb (by rw[hL]; simp))) ?_)))))))))))));refine yF I (tZ (cF I (kP (tN (sW I (lW (cL call70 I (r9 E g _ p oM oM)) ?_))))));rintro _ g1 _ ⟨rfl,rfl,hle1⟩;refine bW (aL zk8) fun b6=>?_;refine oZ (sK 0 dG I I I I I sB) ?_;refine tZ (sQ (rZ (lU (fA underlying58 I sizeOf56 I) (lK (qL (v:=.slice q L.length c) isAgg56 I (cO 4 I I)) (lU (eN underlying56 I) (lM I (tZ (bK ?_))))))));refine oP (ι:=PH×Nat) (fun z=>[(3,pp b3 0),(4,pp b4 0),(5,pp b5 0),(6,pp b6 0),(34,.slice q L.length c),(35,vi L.length),(36,vi z.2)]) (fun z=>z.1) (fun z=>pt b6 (.cells #[vb (decide (p<0)&&decide (ju p.natAbs≠[])),txt (ju p.natAbs)] 121 (0,0))::pt b5 (.cells #[vi p,vi R,vi C,.slice (some ⟨bz,0,none⟩) (R * C) (R * C)] 62 (0,0))::rowA encInt 3 (.slice (some ⟨bz,0,none⟩) (R * C) (R * C)) (yh L p z.2)::pt b4 (.cells #[vi 0,vi 0,vi 0,.slice none 0 0] 62 (0,0))::pt b3 (.cells #[vi R,vi C,.slice q L.length c] 58 (0,0))::s) (fun z=>z.2≤L.length∧Le g z.1) (fun z=>L.length - z.2) (g1,0) sB I (by rw[Af,hL]; rfl) ⟨zf2 _,hle1⟩ ?_;rintro ⟨g2,i⟩ ⟨hi,hle2⟩;dsimp only at hi hle2 ⊢;refine rZ (yL I (tZ (sQ ?_)));refine iP I (fun hlt2=>?_) (fun hlt2=>?_)
 ·have hiL:i<L.length:=oM;have hs2:=za3 hs hle2;have hlm:(L.map wd).length=L.length:=ze2 ..;have hb1:=za4 hs (by rw[hlm]; omega);have hgi:(L.map wd)[((i:Nat):Int).toNat]?=some (wd L[i]):=by rw[zh5]; show (L[i]?).map wd=_; rw[gE hiL]; rfl
  have hml:=BR L p hi;have hset:=BQ L p hiL;have ha:=h1 _ (gM hiL);generalize L[i]=a at *;have hr0:0≤a % p:=zk2 _ oM;have hr1:a % p<p:=zk1 _ oM;refine kP (tN (sQ (bK (sW I (lU (iA underlying56 dG I I hb1 oM sL) (lK (eA isAgg121 dG I (za5 hs2) hgi) (bW (aL zk8) fun b8=>?_)))))));refine lA I (oZ (sK 0 dG I I I I I sB) ?_);refine tZ (rZ (lK (qV 0 isAgg121 dG I I I) (lK (qV 1 isAgg121 dG I I I) (lW (cL call71 I (sV E g2 _ a p oM oM)) ?_))));rintro _ g3 _ ⟨rfl,hle3,qb,qt,rfl⟩;refine lM I (yX I (yX I (yX I (bW (aL zk8) fun b9=>?_))));refine bW (aL zk8) fun b10=>?_;refine oZ (sK 1 dG I I I I I sB) ?_;refine oZ (sK 0 dG I I I I I sB) ?_;refine aT I ?_;refine dW [9] [(0,2),(1,1),(2,2),(3,1),(4,0),(5,2),(6,2),(7,2),(8,2),(9,0)] zd8 kR ?_;refine pU I (fA fN I bZ I) (pK I (qL (v:=.slice (some ⟨bz,0,none⟩) (R * C) (R * C)) dh I (cO 4 I I)) (yM I (pK I (qV 0 isAgg121 dG I I I) (SP.o I (cL call72 I (sX E g3 _ (a % p) hr0 oM)) dC (.inr iR) ?_))));rintro _ g4 _ ⟨rfl,hle4,rfl⟩;refine yM I (pU I (xT I I) (pU I (xT I I) (pU I (iA aj zT3 I I I oM sL) (SP.on I (sT (a:=a % p) (j:=i) 5 zT3 I I I (by rw[hml]; exact hiL) I) (.inl dC) ?_))));rintro _ _ _ ⟨rfl,rfl⟩;refine pN (bN (tN (rG (yD I (lM I (nL (dR (.cons _ (.cons _ (.cons _ (.refl _)))) ?_)))))));exact gA (g4,i+1) sB I (by rw[← hset]; rfl) ⟨by dsimp only; omega,hle2.trans (hle3.trans hle4)⟩ (by dsimp only; omega)
 ·obtain rfl:i=L.length:=oM;rw[BS];refine xI (tX (tX (bX (tN (rZ (lK (qV 1 om eT I I I) ?_))))));refine oZ (sK 3 eT rfl rfl rfl rfl rfl (by (repeat' (first | exact trivial | refine⟨by rfl,?_⟩)))) ?_;refine tZ (rE (dR (.cons _ (.cons _ (.refl _))) (fT fun g4 hle4 hs4=>?_)));have e:(L.map (· % p)).length=R * C:=by rw[ze2,hL]
  exact ST.retCD 0 s (.inl I) results32 I om eT I I uR ⟨I,hle2.trans hle4,some ⟨bz,0,none⟩,R * C,by rw[e]; rfl,by rw[e]; exact hs4⟩
theorem qj {A:List Cl}(h:Rt A):dd A:=⟨by have:=h.few; omega,fun c hc=>by have:=mw (h.form c hc); omega⟩
theorem yt {l:List Cl}(h:Rt l):oL l+1=((dimN l:Nat):Int)∧dimN l≤9:=by
 have h1:=(pY (ae l) (-1)).1;have h2:=pX (M:=8) (ae l) (-1) oM fun c hc=>by
  rw[h.tab] at hc;have:=(h.form c hc).dim;omega
 unfold oL dimN;omega
theorem EU {p:Int}(h2:2≤p)(L:List Int):∀ x∈L.map (· % p),0≤x∧x<p:=fun x hx=>by
 obtain ⟨y,-,rfl⟩:=ze7.1 hx;exact⟨zk2 _ oM,zk1 _ oM⟩
theorem zZ (E:World)(g:PH)(s:Own)(p:Int)(h2:2≤p)(h9:p<9)(hp:fu p=true) :
  Ctr Tryz.prog E 26 #[vi p] g s (fun r g' s'=>r=vb true∧g=g'∧s=s'):=by
 have:=kX E g s p h2 h9;rwa [hp] at this
theorem uJ (E:World)(g:PH)(s:Own)(v:Value)(l:List Cl)(hv:aq g v l)(hr:Rt l)(h100:l.length≤100) :
  Ctr Tryz.prog E 27 #[.agg #[v]] g s (fun x g' s'=>s=s'∧Le g g'∧x=vi 0):=by
 have hf:=qj hr;obtain ⟨q,c,rfl⟩:=hv.form;obtain ⟨hD,hD9⟩:=yt hr;refine za9 (args:=[.agg #[.slice q l.length c]]) func27 I ntmps27 (bE I) ?_;refine rZ (bW (bO I) fun b1=>?_);refine aT I (sQ (rZ (lK (qV 0 be ax I I I) (lW (cL call37 I (jr E g _ _ l hv hf)) ?_))));rintro _ _ _ ⟨rfl,rfl,rfl⟩;rw[hr.check];refine lM I (yX I (yX I (lA I (aT I (sW I (lU (SU.eq (v':=vb false) (nQ I I) (zd7 vb (by simp))) ?_))))));refine tZ (cF I (kP (tN (sQ (rZ (lK (qV 0 be ax I I I) (lW (cL call14 I (i5 E g _ _ l hv hf)) ?_)))))));rintro _ g1 _ ⟨rfl,rfl,hle1⟩;refine lU (SU.eq (v':=vi (dimN l:Nat)) (aD I I oM) (zd7 vi hD)) (lM I (tZ (bK ?_)));refine oP (ι:=PH×Nat) (fun z=>[(1,pp b1 0),(16,vi (dimN l)),(17,vi z.2)]) (fun z=>z.1) (fun z=>pt b1 (.cells #[.slice q l.length c] 30 (0,0))::s) (fun z=>z.2≤dimN l∧Le g z.1) (fun z=>dimN l - z.2) (g1,0) sB I I ⟨zf2 _,hle1⟩ ?_;rintro ⟨g2,n⟩ ⟨hn,hle2⟩;dsimp only at hn hle2 ⊢;refine rZ (yL I (tZ (sQ ?_)));refine iP I (fun hlt=>?_) (fun hlt=>?_)
 ·obtain ⟨e1,e2⟩:=p4 hr (n:Int);refine kP (tN (sQ (bK (sW I (aT I (rZ (lK (qV 0 be ax I I I) (lM I (lW (cL call34 I (mo E g2 _ _ l (n:Int) (hv.mono hle2) hf)) ?_)))))))));rintro u g3 _ ⟨rfl,hle3,hu⟩;obtain ⟨p1,c1,rfl⟩:=za2 hu;refine lU (eN aj I) (lU (SU.eq (v':=vb false) (gR I I) (zd7 vb (zf3 oM))) (tZ (cF I (kP (bN (tN (rG (yD I (lM I (nL ?_))))))))));exact gA (g3,n+1) sB I I ⟨by dsimp only; omega,hle2.trans hle3⟩ (by dsimp only; omega)
 ·refine xI (tX (tX (bX (tN (rZ (aT I (rE (dR (s':=s) uR ?_))))))));exact za6 (.inl I) results27 I ⟨I,hle2,I⟩
theorem ve (E:World)(g:PH)(s:Own)(v:Value)(b k:Nat)(p:Int)(hp:Fp p)(R C:Nat)(hR:R≤400)(hC:C≤400)(L:List Int)(hL:L.length=R * C)(hv:Eu g v (R,C,L))(h1:∀ n∈L,n.natAbs≤1)(hk:s[k]?=some (pt b (.cells #[vi p] 3 (0,0)))) :
  Ctr Tryz.prog E 30 #[v,pp b 0] g s (fun x g' s'=>s=s'∧Le g g'∧x=vi (rk p (atF (L.map (· % p)) C) R C:Nat)):=by
 have hv0:=hv;have hp2:=hp.lt;obtain ⟨q,c,rfl,hs⟩:=hv;dsimp only at hs hv0 ⊢;refine za9 (args:=[.agg #[vi R,vi C,.slice q L.length c],pp b 0]) func30 I ntmps30 (bE I) ?_;refine rZ (bW (bO I) fun b2=>?_);refine aT I (rZ (lK (qL (v:=vi p) iT3 I (cO (k+1) hk I)) (lK (qV 0 isAgg58 oK I I I) (lW (cL call32 I (AA E g _ _ p hp R C hR hC L hL hv0 h1)) ?_))));rintro v6 g1 _ ⟨rfl,hle1,hm⟩;refine lW (cL call31 I (pH E g1 _ v6 p hp R C hR hC (L.map (· % p)) (by rw[ze2]; exact hL) hm (EU oM L))) ?_;rintro _ g2 _ ⟨rfl,hle2,rfl⟩;refine aT I (rE (dR (s':=s) uR ?_));exact za6 (.inl I) results30 I ⟨I,hle1.trans hle2,I⟩
theorem CM {p:Int}(hp:Fld p)(X:List Cl)(d:Int):rkD p X d≤X.length:=by
 have h1:rkP p (dZ X d) (dZ X (d - 1))≤(dZ X d).length:=by
  unfold rkP rkL;exact jw hp _ _ _
 have h2:(dZ X d).length≤X.length:=zc2 _ _;unfold rkD;omega
theorem uu {β:Type}(f:Nat→β)(d:Nat):(List.range (d+1)).map f=(List.range d).map f++[f d]:=by rw[List.range_succ,zg1]; rfl
theorem uP (E:World)(g:PH)(s:Own)(v:Value)(l:List Cl)(p:Int)(hv:aq g v l)(hr:Rt l)(h100:l.length≤100)(hp:fu p=true) :
  Ctr Tryz.prog E 11 #[.agg #[v],vi p] g s (fun x g' s'=>s=s'∧Le g g'∧∃ u,x = .tuple #[u,vi 0]∧bP g' u ((List.range (dimN l)).map fun d:Nat=>o7 p l d)):=by
 have hf:=qj hr;have hfp:=fj.1 hp;have hpl:=hfp.lt;have hfld:=hfp.fld;obtain ⟨q,c,rfl⟩:=hv.form;obtain ⟨hD,hD9⟩:=yt hr;refine za9 (args:=[.agg #[.slice q l.length c],vi p]) func11 I ntmps11 (bE I) ?_;refine rZ (bW (bO I) fun b2=>?_);refine bW (bO I) fun b3=>?_;refine lA I (aT I (sQ (rZ (lK (qL (v:=vi p) iT3 I (cO 0 I I)) (lU (SU.eq (v':=vb true) (nQ I I) (zd7 vb (zf4 oM))) (lM I (SL.gq (gT I I I dC) (qL (v:=vi p) iT3 I (cO 0 I I)) dC (SL.go (gT I I I dC) (cL call26 I (zZ E g _ p oM oM hp)) dC ?_))))))));rintro _ _ _ ⟨rfl,rfl,rfl⟩;refine lY I I I (SU.not I) (yP I (tZ (cF I (kP (tN (sQ (rZ (lK (qV 1 be ax I I I) (lW (cL call27 I (uJ E g _ _ l hv hr h100)) ?_)))))))));rintro _ g1 _ ⟨rfl,hle1,rfl⟩;refine aT I (sW I (lU (SU.eq (v':=vb false) (nQ I I) (zd7 vb (by simp))) ?_));refine tZ (cF I (kP (tN (rZ (aT I (sQ (rZ (lK (qL (v:=vi p) iT3 I (cO 0 I I)) (lU (SU.eq (v':=vb true) (nQ I I) (zd7 vb (zf4 oM))) (tZ (cT I (rG (lU (SU.mkFunc I) (aT I (rZ (aT I (rZ ?_)))))))))))))))));refine aT I (sQ (rZ (lK (qV 1 be ax I I I) (lW (cL call14 I (i5 E g1 _ _ l (hv.mono hle1) hf)) ?_))));rintro _ g2 _ ⟨rfl,rfl,hle2⟩;refine lU (SU.eq (v':=vi (dimN l:Nat)) (aD I I oM) (zd7 vi hD)) (lM I (tZ (bK (zb4 3 1 ?_))));have h00:=BC hfld hr;refine oP (ι:=PH×Nat×Value) (fun z=>[(2,pp b2 0),(3,pp b3 0),(7,.func (.func 30) #[] #[pp b3 0]),(8,z.2.2),(9,vi (rkD p l (z.2.1:Int):Nat)),(29,vi (dimN l)),(30,vi z.2.1)]) (fun z=>z.1) (fun z=>rowA encInt 3 z.2.2 ((List.range z.2.1).map fun d:Nat=>o7 p l d)::pt b3 (.cells #[vi p] 3 (0,0))::pt b2 (.cells #[.slice q l.length c] 30 (0,0))::s) (fun z=>z.2.1≤dimN l∧Le g z.1) (fun z=>dimN l - z.2.1) (g2,0,.slice none 0 0) ⟨I,I,I,I,by show _=some (vi ((rkD p l 0:Nat):Int)); rw[h00]; rfl,rfl,rfl,trivial⟩ rfl rfl ⟨zf2 _,hle1.trans hle2⟩ ?_;rintro ⟨g3,n,ov⟩ ⟨hn,hle3⟩;dsimp only at hn hle3 ⊢;have hrl:((List.range n).map fun d:Nat=>o7 p l d).length=n:=by rw[ze2,zh9]
 refine rZ (yL I (tZ (sQ ?_)));refine iP I (fun hlt2=>?_) (fun hlt2=>?_)
 ·obtain ⟨e1,e2⟩:=p4 hr (n:Int);obtain ⟨e3,e4⟩:=p4 hr ((n:Int)+1);have e5:=(p4 hr ((n:Int)+1 - 1));have hmr:=Ai oM hr.tab ((n:Int)+1) (M:=l);have hrk:=DI hfld hr ((n:Int)+1);have hb1:=CM hfld l (n:Int);have hb2:=CM hfld l ((n:Int)+1);have hbet:o7 p l ((n:Nat):Int)=((cd l (n:Int)).length:Int) - (rkD p l (n:Int):Int) - (rkD p l ((n:Int)+1):Int):=by rw[e1]; rfl
  refine kP (tN (sQ (bK (sW I (aT I (sW I (lK (qV 2 be ax I I I) (lM I (yD I (lW (cL call33 I (uI E g3 _ _ l ((n:Int)+1) (hv.mono hle3) hf oM)) ?_))))))))));rintro v37 g4 _ ⟨rfl,hle4,hm4⟩;rw[hmr] at hm4;refine lW (SO.callV I I (cz.mk (cap:=[pp b3 0]) call30 (ve E g4 _ v37 b3 1 p hfp _ _ oM oM (wN l ((n:Int)+1)) (wb l ((n:Int)+1)) hm4 (D4 hr ((n:Int)+1)) I))) ?_;rintro _ g5 _ ⟨rfl,hle5,rfl⟩;rw[hrk];refine aT I (sW I (lK (qV 2 be ax I I I) (lM I (lW (cL call34 I (mo E g5 _ _ l (n:Int) (hv.mono (hle3.trans (hle4.trans hle5))) hf)) ?_))));rintro u g6 _ ⟨rfl,hle6,hu⟩;obtain ⟨p1,c1,rfl⟩:=za2 hu;refine lU (eN aj I) (lM I (lU (sU I I oM) (lM I (lU (SU.eq (v':=vi (o7 p l ((n:Nat):Int))) (sU I I oM) (zd7 vi hbet.symm)) (lW (bS sty25 I I I (ab ⟨I,trivial⟩) dC) ?_)))));rintro _ _ _ ⟨b48,rfl,rfl,rfl⟩;refine lW (aP (e:=encInt) (l:=(List.range n).map fun d:Nat=>o7 p l d) 0 (o7 p l ((n:Nat):Int)) sty25 I I I I I oM oM) ?_;rintro v49 _ _ ⟨rfl,rfl⟩;refine aT I (rG (lM I (lA I (nL (bN (tN (rG (yD I (lM I (nL ?_))))))))));exact gA (g6,n+1,v49) sB I (by dsimp only; rw[uu]; rfl) ⟨by dsimp only; omega,hle3.trans (hle4.trans (hle5.trans hle6))⟩ (by dsimp only; omega)
 ·obtain rfl:n=dimN l:=oM;refine xI (tX (tX (bX (tN (sW I (lA I (aT I (rE (fT fun g4 hle4 hs4=>?_)))))))));refine dR (s':=s) uR ?_;exact ST.ret2 (.inl I) results11 I I ⟨I,hle3.trans hle4,_,I,hs4⟩
theorem SU.indexAddrK {P:Program}{N:Nat}{f:Fr}{dst:Option Tmp}{ty:TypeId}{pos:String}{af:Array Edge}{gd:Option (Nat×Bool)}{x y:Operand}{T e:TypeId}{k:Nat}{v:Value}{i:Int}{κ:IntKind}(hT:P.underlying T=some (.slice e))(hs:∀ w,(sizeOf e).run P w = .ok k w)
  (hx:ev f x=some v) (hy:ev f y=some (.int κ i)) (hb:based v=true) (h0:0≤i) (h1:i<slen v) :
  SU P N ⟨dst,.indexAddr T x y,ty,pos,af,gd⟩ f (mJ v (i.toNat * k)):=fun a w ha=>by
 cases v <;> simp[based] at hb
 rename_i p n c;cases p <;> simp at hb
 rename_i ad;obtain ⟨b,o,sp⟩:=ad;simp at hb;subst hb;simp only[slen] at h1;have hadd:(⟨b,o,none⟩:Addr).add (i.toNat * k)=⟨b,o+i.toNat * k,none⟩:=by unfold Addr.add; split <;> simp_all
 simp[execOp,ha.ev hx,ha.ev hy,Instr.indexAt,asIntOf,run_underlying hT,h0,h1,hs w,mJ,hadd]
def AV (k:Nat):Int:=if k=0 then 2 else if k=1 then 3 else 5
theorem Bj {k:Nat}(h:k<3):([2,3,5]:List Int)[((k:Nat):Int).toNat]?=some (AV k):=by
 rcases (by omega:k=0∨k=1∨k=2) with rfl | rfl | rfl <;> rfl
theorem Dm (k:Nat):fu (AV k)=true∧2≤AV k∧AV k<9:=by
 unfold AV;split
 ·decide
 ·split
  ·decide
  ·decide
theorem wY {l:List Cl}(h:Sm3 l){T:List (List Int)}(hT:TOk l T):eX l T=cj l T∧Rt (cj l T):=by
 have hr:Rt (cj l T):=pP h.rt hT.few (by have:=h.few; omega) (fun c hc=>by have:=h.dims c hc; omega) fun c hc=>by have:=m5 h.rt hc; have:=h.few; omega
 refine⟨?_,hr⟩;unfold eX;rw[zf5,h.rt.tab];rw[h.rt.tab,vA h.rt hT,hr.check];simp
theorem DR {g:PH}{u:Value}{A:List Int}(h:Pgs g u [[A]]):∃ p c r,u = .slice p 1 c∧SlA encSv g (.slice p 1 c) [r]∧r.n=1∧∃ z,SlA encSv g (.slice r.p 1 r.c) [z]∧bP g (.slice z.p z.n z.c) A:=by
 obtain ⟨us,hus,hall⟩:=h
 match us,hus,hall with
 | [],_,hall=>exact absurd hall id
 | r::r'::us,_,hall=>exact absurd hall.2 id
 | [r],hus,hall =>
  obtain ⟨p,c,rfl⟩:=za2 hus;obtain ⟨hr,-⟩:=hall;obtain ⟨rs,hrs,hallr⟩:=hr
  match rs,hrs,hallr with
  | [],_,hallr=>exact absurd hallr id
  | z::z'::rs,_,hallr=>exact absurd hallr.2 id
  | [z],hrs,hallr =>
   obtain ⟨hz,-⟩:=hallr;have hn:=(SlA.cap hrs).1;refine⟨p,c,r,I,hus,hn,z,?_,hz⟩;obtain ⟨r1,r2,r3⟩:=r;dsimp only at hn hrs ⊢;rw[ze3] at hn;subst hn;exact hrs
theorem ow (E:World)(hE:E.drawn=0)(g:PH)(s:Own)(v:Value)(kd y:Int)(ls:List (List Int))(bt:Nat)(hv:aG g v ls) :
  Ctr Tryz.prog E 5 #[.agg #[vi kd,v,vi y],.int .u8 (bt:Int)] g s (fun r g' s'=>r=vb true∧s=s'∧Le g g'):=by
 obtain ⟨p,n,c,rfl⟩:∃ p n c,v = .slice p n c:=by
  obtain ⟨rs0,hrs0,_⟩:=hv;obtain ⟨p,c,rfl⟩:=za2 hrs0;exact⟨_,_,_,I⟩
 have hsm:=zP kd ls y;obtain ⟨hpr,hp2,hp9⟩:=Dm (bt % 3);have hg3:=Bj (k:=bt % 3) oM;generalize hMd:ir kd ls y=M at *;have hMl:=hsm.few;have hMf:dd M:=⟨oM,fun c hc=>by have:=mw (hsm.rt.form c hc); omega⟩;have hok:=qg hsm;have hpe:=rD hsm hok hpr;obtain ⟨hpg,hbl,hbd⟩:=tW hsm hpr;obtain ⟨hbu,hbr⟩:=wY hsm hok;have hTs:∀ t∈[df M],t.length<1099511627776:=fun t ht=>by
  have h1:=hok.len t ht;have h2:(df M).length≤(ae M).length:=by unfold df; rw[ze2]; exact zc2 _ _
  rw[hsm.rt.tab] at h2;omega
 have hBf:=qj hbr;obtain ⟨nn,hnn⟩:∃ nn,nn=bt % 3:=⟨_,rfl⟩;rw[← hnn] at hpr hp2 hp9 hg3 hpe hpg;refine za9 (args:=[.agg #[vi kd,.slice p n c,vi y],.int .u8 (bt:Int)]) func5 I ntmps5 (bE I) ?_;refine rZ (bW (bO I) fun b2=>?_);refine aT I (rZ (lW (cL call6 I (qU E hE g _)) ?_));rintro _ g1 _ ⟨rfl,rfl,hle1⟩;have hv1:=hv.mono hle1;refine aT I (rZ (lK (qV 0 isAgg24 sizeOf24 I I I) (lW (cL call7 I (xe E g1 _ _ kd y ls hv1)) ?_)));rintro _ g2 _ ⟨rfl,hle2,u2,rfl,hu2⟩;rw[hMd] at hu2;obtain ⟨q2,d2,rfl⟩:=hu2.form;refine bW (aL zk6) fun b6=>?_;refine oZ (sK 0 ax I I I I I ⟨I,trivial⟩) (tZ (rZ (lW (bS sty25 I I I (ab sB) dC) ?_)));rintro _ _ _ ⟨b17,rfl,rfl,rfl⟩;refine zb3 fun g3 hle3 hb17=>?_;have h17:SlA encInt g3 (.slice (some ⟨b17,0,none⟩) 3 3) [2,3,5]:=SlA.lit hb17 rfl rfl;have hu3:=hu2.mono hle3;refine lM I (lU (SU.eq (v':=.int .u8 (nn:Int)) (zd4 I I dC) (zd7 (Value.int .u8) (by have h:=Int.ofNat_tmod bt 3; rw[hnn]; exact h.symm))) ?_);refine lU (SU.indexAddrK aj zT3 I I I oM (show ((nn:Nat):Int)<((3:Nat):Int) by omega)) ?_;refine lK (eB iT3 I (za5 h17) hg3 I) (aT I (rZ (lK (qV 0 be ax I I I) (lW (cL call19 I (zJ E g3 _ _ M hu3 hMf)) ?_))));rintro v23 g4 _ ⟨rfl,hle4,h23⟩;obtain ⟨p23,c23,rfl⟩:=za2 h23;refine lW (bS sty22 I I I (ab ⟨I,trivial⟩) dC) ?_;rintro _ _ _ ⟨b24,rfl,rfl,rfl⟩;refine zb3 fun g5 hle5 hb24=>?_;have hT:aG g5 (.slice (some ⟨b24,0,none⟩) 1 1) [df M]:=⟨[em (.slice p23 (df M).length c23)],SlA.lit hb24 rfl rfl,⟨za3 h23 hle5,trivial⟩⟩;have hu5:=hu3.mono (hle4.trans hle5);refine aT I (rZ (lK (qV 0 be ax I I I) (lM I (lM I (lW (cL call13 I (kY E hE g5 _ _ _ M [df M] (AV nn) hu5 hMf hsm.ids hT (show 1<1099511627776 by decide) hTs hp2 hp9)) ?_)))));rintro _ g6 _ ⟨rfl,hle6,u6,rfl,hP⟩;rw[hpe];rw[hpg] at hP;have hu6:=hu5.mono hle6;refine lM I (yX I (yX I (lA I (aT I (rZ (lK (qV 0 be ax I I I) (lM I (lW (cL call11 I (uP E g6 _ _ M (AV nn) hu6 hsm.rt oM hpr)) ?_))))))));rintro _ g7 _ ⟨rfl,hle7,u7,rfl,hB⟩;have hu7:=hu6.mono hle7;refine lM I (yX I (yX I (lA I (aT I (rZ (lK (qV 0 be ax I I I) (lM I (lW (cL call20 I (oc E hE g7 _ _ _ M [df M] hu7 hMf hsm.ids (hT.mono (hle6.trans hle7)) (show 1<1099511627776 by decide) hTs)) ?_))))))));rintro _ g8 _ ⟨rfl,hle8,u8,rfl,hC⟩;rw[hbu] at hC;obtain ⟨q8,d8,rfl⟩:=hC.form;have hu8:=hu7.mono hle8;have hP8:=hP.mono (hle7.trans hle8);have hB8:=za3 hB hle8;obtain ⟨pp8,cc8,r8,rfl,hr8,hrn,z8,hz8,hi8⟩:=DR hP8;have hbb1:=za4 hr8 Nat.zero_lt_one;have hbb2:=za4 hz8 Nat.zero_lt_one;obtain ⟨rp8,rn8,rc8⟩:=r8;obtain ⟨zp8,zn8,zc8⟩:=z8;dsimp only at hrn hz8 hi8 hbb2;subst hrn;refine bW (aL zk6) fun b13=>?_;refine oZ (sK 0 ax I I I I I ⟨I,trivial⟩) (tZ (sQ ?_));refine dW [] [(0,2),(1,2),(2,2),(3,2),(4,2),(5,2),(6,2),(7,2),(8,2),(9,2),(10,2),(11,2),(12,2),(13,1),(14,2),(15,2),(16,2),(17,2),(18,2),(19,2),(20,1),(21,2),(22,1),(23,2),(24,0),(25,2),(26,2),(27,2),(28,1),(29,2),(30,2),(31,1),(32,2),(33,2),(34,2),(35,2),(36,1),(38,1),(37,0),(39,0),(40,2),(41,2),(42,2)] zd8 kR ?_;refine yM I (yM I (yJ I (zb1 I (gT I I I dC) (eQ I I) dC (pU I (wT I I) (yM I (yJ I (zb1 I (gT I I I dC) (eN lV I) dC (zb1 I (gT I I I dC) (eQ I I) dC (pU I (wT I I) (yM I (yJ I (zb1 I (gT I I I dC) (iA lV o4 I I hbb1 dC (by simp[slen])) dC ?_))))))))))));refine SP.gq I (gT I I I dC) (eB (u:=.slice rp8 1 rc8) isAgg22 I (za5 hr8) (j:=0) I I) dC (zb1 I (gT I I I dC) (eN bA I) dC (zb1 I (gT I I I dC) (eQ I I) dC (pU I (wT I I) (yM I (yJ I (zb1 I (gT I I I dC) (iA lV o4 I I hbb1 dC (by simp[slen])) dC ?_))))));refine SP.gq I (gT I I I dC) (eB (u:=.slice rp8 1 rc8) isAgg22 I (za5 hr8) (j:=0) I I) dC (zb1 I (gT I I I dC) (iA bA bZ I I hbb2 dC (by simp[slen])) dC ?_);refine SP.gq I (gT I I I dC) (eB (u:=.slice zp8 zn8 zc8) dh I (za5 hz8) (j:=0) I I) dC (yJ I (SP.go I (gT I I I dC) (cL call12 I (nb E g8 _ _ _ _ _ hi8 hB8 (by rw[ze2,zh9]; have:=(yt hsm.rt).2; omega))) dC (.inr (by rintro _ _ _ ⟨rfl,rfl,rfl⟩; exact⟨Le.refl _,(by exact .refl _)⟩)) ?_));rintro _ _ _ ⟨rfl,rfl,rfl⟩;rw[zf4 (rfl:(List.range (dimN M)).map (fun d:Nat=>o7 (AV nn) M d)=_)];refine pU I (wT I I) (yM I (zb1 I (gT I I I dC) (fA eK I dJ I) dC (SP.gq I (gT I I I dC) (qL (v:=.slice q8 (cj M [df M]).length d8) fQ I (cO 0 I I)) dC (zb1 I (gT I I I dC) (eN aU I) dC (zb1 I (gT I I I dC) (fA eK I dJ I) dC (SP.gq I (gT I I I dC) (qL (v:=.slice q2 M.length d2) fQ I (cO 1 I I)) dC (zb1 I (gT I I I dC) (eN aU I) dC (zb1 I (gT I I I dC) (SU.eq (v':=vb true) (eQ I I) (zd7 vb (zf4 (by rw[hbl])))) dC ?_))))))));refine pU I (wT I I) (yM I (SP.gq I (gT I I I dC) (qV 0 be ax I I I) dC (SP.gq I (gT I I I dC) (qV 1 be ax I I I) dC (SP.go I (gT I I I dC) (cL call14 I (i5 E g8 _ _ (cj M [df M]) hC hBf)) dC (.inr (by rintro _ g9 _ ⟨rfl,rfl,hle9⟩; exact⟨by first | exact Le.refl _ | assumption | exact Le.trans (by assumption) (by assumption),(by exact .refl _)⟩)) ?_))));rintro _ g9 _ ⟨rfl,rfl,hle9⟩;have hu9:=hu8.mono hle9;refine SP.go rfl (gT rfl rfl rfl dC) (cL call14 rfl (i5 E g9 _ _ M hu9 hMf)) dC (.inr (by rintro _ g10 _ ⟨rfl,rfl,hle10⟩; exact⟨by exact Le.trans (by assumption) (by assumption),(by exact .refl _)⟩)) ?_;rintro _ g10 _ ⟨rfl,rfl,hle10⟩;refine zb1 I (gT I I I dC) (SU.eq (v':=vb true) (eQ I I) (zd7 vb (zf4 hbd))) dC (pU I (wT I I) (pU I (aS I) (pN (tN (rE (dR (s':=s) uR ?_))))));exact za6 (.inl I) results5 I ⟨I,I,hle1.trans (hle2.trans (hle3.trans (hle4.trans (hle5.trans (hle6.trans (hle7.trans (hle8.trans (hle9.trans hle10))))))))⟩
end Go.Proofs.YtkbagdedfdfjhaaGreatDoor
namespace Go.Proofs.YtkbagdedfdfjhaaGreatDoor.tilesWholeDone
open _root_.Go.Proofs.Tryz _root_.Go.Proofs.YtkbagdedfdfjhaaGreatDoor.Tryz
open Go Go.Sy Go.Pl Go.Proofs Go.Proofs.YtkbagdedfdfjhaaGreatDoor
open Go.ChangeShapes Go.WideShapes Go.ChangeAt Go.RowKit
set_option linter.unusedVariables false
theorem own:ownKnob Tryz.prog.godebug=none:=by kernel_rfl
theorem laidOut:laidOutB Tryz.prog=true:=by kernel_rfl
set_option maxRecDepth 100000 in
theorem lifted (os:Os)(started:os.Started)(H:Type)(enc:TypeId×Value→H) :
  ReturnsInHanded {} Tryz.checked os 5 .any (fun w args=>(Rows.tilesWholeSpec.pre enc Tryz.prog f5 Rows.tilesWholeRow.domain false w args∧laidMetH Tryz.prog Rows.tilesWholeRow.laid w)∧sizedMet enc Tryz.prog f5 (OpenSpec.ofChange Rows.tilesWholeSpec) false w args)
   (Rows.tilesWholeSpec.post enc Tryz.prog f5 false true false false):=by
 refine returnsInHanded_of_change_and (C:=Tryz.checked) (X:=fun w _=>laidMetH Tryz.prog Rows.tilesWholeRow.laid w) (fun _ _ _ hh h=>h.of_heap hh) own started kR func5
  (ChangeSpec.witness_shaped (enc:=enc) (C:=Tryz.checked) (os:=os) (X:=fun w _=>laidMetH Tryz.prog Rows.tilesWholeRow.laid w) false (World.laidAll Tryz.prog os Rows.tilesWholeRow.laid) #[.agg #[.int .i64 0,.slice none 0 0,.int .i64 0],.int .u8 0] 8 (World.laidAll_os _ _ _)
   (World.shaped_of_ZipB kR kR) kR kR kR
   (by rw[MakeChecks.laidMetH_plain _ _ _ kR]; exact laidMet_laidAll _ kR kR)) ?_
 intro W base args ds gs before hval0 hW hcnd hsz0 hL _;have hval:∀ (j:Nat) t v,f5.params[j]?=some t→args[j]?=some v→Value.okWide Tryz.prog W .any base t v:=hval0;have hW':=hW;obtain ⟨p,q,hA0,hV,rfl,hfz,hnd⟩:=hW;have hA:DataW.TrodAll enc Tryz.prog W 0 (fun _=>true) true f5.params.toList args.toList ds p:=hA0;rw[params5] at hA hval;obtain ⟨v0,vs0,d0,ds0,p0,q0,hargs,rfl,rfl,h0,r0⟩:=trodAll_cons hA;obtain ⟨v1,vs1,d1,ds1,p1,q1,rfl,rfl,rfl,h1,r1⟩:=trodAll_cons r0;obtain ⟨rfl,rfl,rfl⟩:=trodAll_nil r1;obtain rfl:args = #[v0,v1]:=by cases args; simp_all
 obtain ⟨rfl,rfl⟩:=trodVars_none hV;have lt0:∀ x∈p0,x.block<W.heap.size:=by obtain ⟨m,hm⟩:=h0; exact DataW.trod_lt m _ _ _ hm
 have lt1:∀ x∈p1,x.block<W.heap.size:=by obtain ⟨m,hm⟩:=h1; exact DataW.trod_lt m _ _ _ hm
 obtain ⟨kd,y,u,ls,e0,hls⟩:=Br (hval 0 24 v0 rfl rfl) h0;obtain ⟨k1,e1,hk1⟩:=EJ (hval 1 5 v1 rfl rfl) h1;clear hA0 hval0;have walk:Calls Tryz.prog 5 #[v0,v1] W fun e w'=>e = .returned (.bool true)∧Below W.heap.size W w':=by
  rw[e0,e1];refine (ow (E0 W) I (wO W) [] u kd y ls k1 hls W (Cu W)).mono ?_;rintro e w' ⟨v,g',s',rfl,hat,rfl,rfl,hle⟩;exact⟨I,Cw hat hle⟩
 refine walk.mono fun e W' ⟨he,bel⟩=>?_;subst he;exact⟨_,I,_,_,_,[],_,[],hW',trodAll_mk1 (shut_bool uT4 _),(trodAll_cons_mk (Below.trod laidOut kR (zf8 kR) h0 bel lt0) (trodAll_cons_mk (Below.trod laidOut kR (zf8 kR) h1 bel lt1) trodAll_mk0)),I,bel.frame _,fun h=>by cases h⟩
def CZ (P:Program)(fn:Func)(c:OpenClaim):Bool:=(c.kinds == (if c.domain.isEmpty then [] else fn.params.toList.map fun t=>match P.underlying t with | some (.int k)=>some k | _=>none))
theorem gw {a b:Bool}(h:a=true)(k:b=true):(a&&b)=true:=by rw[h,k]; rfl
theorem Ao {P:Program}{f:FuncId}{fn:Func}{s:ChangeSpec}{c:OpenClaim}
  (h0:(c.wf (OpenSpec.ofChange s))=true)
  (h1:(laidOutB P)=true)
  (h2:(mapsRowed P)=true)
  (h3:(fn.params.all (P.readableRec ·))=true)
  (h4:(namedTie P c.named s.vars)=true)
  (h5:((c.stops == []))=true)
  (h6:((P.stops == []))=true)
  (h7:((c.knobs == []))=true)
  (h8:((P.stopKnobs == []))=true)
  (h9:((c.inPlace == P.inPlace f))=true)
  (h10:((c.unfollowed == P.unfollowed f))=true)
  (h11:((c.recurses == P.recurses f))=true)
  (h12:((c.named == P.varsNamed f))=true)
  (h13:((c.maps == (fn.params.toList++s.plain.varTypes P).any (P.mapsRec ·)))=true)
  (h14:((c.ifaces == (fn.params.toList++s.plain.varTypes P).any (P.ifacesRec ·)))=true)
  (h15:((c.mapsOut == P.mapsAmong fn.resultTypes.toList))=true)
  (h16:((c.loops == (fn.params.toList++s.plain.varTypes P).any (P.loopsFrom ·)))=true)
  (h17:((c.wideKeys == (fn.params.toList++s.plain.varTypes P++fn.resultTypes.toList).any (P.wideKeysFrom ·)))=true)
  (h18:(s.vars.all (P.varReadable ·))=true)
  (h19:(fn.resultTypes.all (fun t=>P.readableRec t&&decide (t<P.types.size)))=true)
  (h20:((c.ifacesOut == fn.resultTypes.toList.any (P.ifacesRec ·)))=true)
  (h21:((c.loopsOut == fn.resultTypes.toList.any (P.loopsFrom ·)))=true)
  (h22:((c.plainKeys == P.plainKeys))=true)
  (h23:(c.shortTexts.isNone)=true)
  (h24:(P.stopsHeard)=true)
  (h25:(P.mayEnter)=true)
  (h26:((c.lifted == P.liftsFinal))=true)
  (h27:((P.make == some c.make))=true)
  (h28:(CZ P fn c)=true)
  (h29:((c.pinned == c.pinnedBy))=true)
  (h30:((c.veiled == (fn.params.toList++s.plain.varTypes P++fn.resultTypes.toList).any (P.veiledRec ·)))=true)
  (h31:(c.veiledFits P fn.params.toList (fn.params.toList++s.plain.varTypes P++fn.resultTypes.toList))=true)
  : joinedFacts P f fn s c=true:=by
 exact gw (gw (gw (gw (gw (gw (gw (gw (gw (gw (gw (gw (gw (gw (gw (gw (gw (gw (gw (gw (gw (gw (gw (gw (gw (gw (gw (gw (gw (gw (gw h0 h1) h2) h3) h4) h5) h6) h7) h8) h9) h10) h11) h12) h13) h14) h15) h16) h17) h18) h19) h20) h21) h22) h23) h24) h25) h26) h27) h28) h29) h30) h31
theorem k0:(Rows.tilesWholeRow.wf (OpenSpec.ofChange Rows.tilesWholeSpec))=true:=by kernel_rfl
theorem k1:(laidOutB Tryz.prog)=true:=by kernel_rfl
theorem k2:(mapsRowed Tryz.prog)=true:=by kernel_rfl
theorem k3:(f5.params.all (Tryz.prog.readableRec ·))=true:=by kernel_rfl
theorem k4:(namedTie Tryz.prog Rows.tilesWholeRow.named Rows.tilesWholeSpec.vars)=true:=by kernel_rfl
theorem k5:((Rows.tilesWholeRow.stops == []))=true:=by kernel_rfl
theorem k6:((Tryz.prog.stops == []))=true:=by kernel_rfl
theorem k7:((Rows.tilesWholeRow.knobs == []))=true:=by kernel_rfl
theorem k8:((Tryz.prog.stopKnobs == []))=true:=by kernel_rfl
theorem k9:((Rows.tilesWholeRow.inPlace == Tryz.prog.inPlace 5))=true:=by kernel_rfl
theorem k10:((Rows.tilesWholeRow.unfollowed == Tryz.prog.unfollowed 5))=true:=by kernel_rfl
theorem k11:((Rows.tilesWholeRow.recurses == Tryz.prog.recurses 5))=true:=by kernel_rfl
theorem k12:((Rows.tilesWholeRow.named == Tryz.prog.varsNamed 5))=true:=by kernel_rfl
theorem k13:((Rows.tilesWholeRow.maps == (f5.params.toList++Rows.tilesWholeSpec.plain.varTypes Tryz.prog).any (Tryz.prog.mapsRec ·)))=true:=by kernel_rfl
theorem k14:((Rows.tilesWholeRow.ifaces == (f5.params.toList++Rows.tilesWholeSpec.plain.varTypes Tryz.prog).any (Tryz.prog.ifacesRec ·)))=true:=by kernel_rfl
theorem k15:((Rows.tilesWholeRow.mapsOut == Tryz.prog.mapsAmong f5.resultTypes.toList))=true:=by kernel_rfl
theorem k16:((Rows.tilesWholeRow.loops == (f5.params.toList++Rows.tilesWholeSpec.plain.varTypes Tryz.prog).any (Tryz.prog.loopsFrom ·)))=true:=by kernel_rfl
theorem k17:((Rows.tilesWholeRow.wideKeys == (f5.params.toList++Rows.tilesWholeSpec.plain.varTypes Tryz.prog++f5.resultTypes.toList).any (Tryz.prog.wideKeysFrom ·)))=true:=by kernel_rfl
theorem k18:(Rows.tilesWholeSpec.vars.all (Tryz.prog.varReadable ·))=true:=by kernel_rfl
theorem k19:(f5.resultTypes.all (fun t=>Tryz.prog.readableRec t&&decide (t<Tryz.prog.types.size)))=true:=by kernel_rfl
theorem k20:((Rows.tilesWholeRow.ifacesOut == f5.resultTypes.toList.any (Tryz.prog.ifacesRec ·)))=true:=by kernel_rfl
theorem k21:((Rows.tilesWholeRow.loopsOut == f5.resultTypes.toList.any (Tryz.prog.loopsFrom ·)))=true:=by kernel_rfl
theorem k22:((Rows.tilesWholeRow.plainKeys == Tryz.prog.plainKeys))=true:=by kernel_rfl
theorem k23:(Rows.tilesWholeRow.shortTexts.isNone)=true:=by kernel_rfl
theorem k24:(Tryz.prog.stopsHeard)=true:=by kernel_rfl
theorem k25:(Tryz.prog.mayEnter)=true:=by kernel_rfl
theorem k26:((Rows.tilesWholeRow.lifted == Tryz.prog.liftsFinal))=true:=by kernel_rfl
theorem k27:((Tryz.prog.make == some Rows.tilesWholeRow.make))=true:=by kernel_rfl
theorem k28:(CZ Tryz.prog f5 Rows.tilesWholeRow)=true:=by kernel_rfl
theorem k29:((Rows.tilesWholeRow.pinned == Rows.tilesWholeRow.pinnedBy))=true:=by kernel_rfl
theorem k30:((Rows.tilesWholeRow.veiled == (f5.params.toList++Rows.tilesWholeSpec.plain.varTypes Tryz.prog++f5.resultTypes.toList).any (Tryz.prog.veiledRec ·)))=true:=by kernel_rfl
theorem k31:(Rows.tilesWholeRow.veiledFits Tryz.prog f5.params.toList (f5.params.toList++Rows.tilesWholeSpec.plain.varTypes Tryz.prog++f5.resultTypes.toList))=true:=by kernel_rfl
theorem kp:Rows.tilesWholeRow.wfByText (OpenSpec.ofChange Rows.tilesWholeSpec)=true:=by kernel_rfl
theorem kf : Tryz.prog.funcNamed "cocycle/cocyclelaw24.TilesWhole" = some 5:=by kernel_rfl
theorem kr:Tryz.pinned.checked.prog.funcNamed Rows.tilesWholeRow.func=some 5:=by kernel_rfl
theorem kj:joinedFacts Tryz.pinned.checked.prog 5 f5 Rows.tilesWholeSpec Rows.tilesWholeRow=true :=
 Ao k0 k1 k2 k3 k4 k5 k6 k7 k8 k9 k10 k11 k12 k13 k14 k15 k16 k17 k18 k19 k20 k21 k22 k23 k24 k25 k26 k27 k28 k29 k30 k31
theorem ki:f5.isInstance Tryz.prog Rows.tilesWholeRow.origin Rows.tilesWholeRow.targs:=zf8 kR
theorem kw:f5.isWrapper Tryz.prog Rows.tilesWholeRow.wrapper Rows.tilesWholeRow.mainSum:=by unfold Func.isWrapper; first | (rw[zf6 (by decide +kernel)]; kernel_rfl) | (rw[zf5 (by decide +kernel)]; exact⟨I,I⟩)
theorem km : Tryz.prog.mainIs = some (true,("d4cc9f3dc6a9b5effe993f82a597ef4545549033ec323cd3a6c24d7557273b7e" : String).toList):=by kernel_rfl
theorem kl:false=Tryz.prog.looks []:=by kernel_rfl
theorem kg:false=Rows.tilesWholeRow.goesBy Tryz.prog:=by kernel_rfl
theorem kq:([24,5].all fun u=>!Tryz.prog.wantsStandIn u)=true:=by kernel_rfl
theorem over:Rows.tilesWholeRow.holds Tryz.pinned (OpenSpec.ofChange Rows.tilesWholeSpec) :=
 OpenClaim.holds_of_wide 5 f5 rfl rfl rfl rfl rfl rfl rfl ⟨rfl,rfl,rfl,rfl,rfl⟩ rfl rfl rfl rfl rfl kr func5 kj ki kw
  (fun os started H enc _=>lifted os started H enc)
theorem proved:Rows.TilesWholeCardSaid :=
 Claim7.holds_tied_plain_at .later [] [.data,.pinned] true (true, "d4cc9f3dc6a9b5effe993f82a597ef4545549033ec323cd3a6c24d7557273b7e") false
  over (fun _ h=>by cases h) kp (fun _ h=>by cases h) tilesWhole_row_tie rfl ⟨rfl,rfl⟩ km rfl
  (fun f fn hf hfn=>by
   obtain rfl:f=5:=Option.some.inj (kf.symm.trans hf) |>.symm;obtain rfl:fn=f5:=(Option.some.inj (func5.symm.trans hfn)).symm;exact⟨kl,fun j t ht=>by
    rw[params5] at ht;have hm:t∈[24,5]:=by simpa using Array.mem_of_getElem? ht
    exact (show Tryz.prog.wantsStandIn t=false by simpa using List.all_eq_true.1 kq t hm)⟩)
  kg
#print axioms proved
end Go.Proofs.YtkbagdedfdfjhaaGreatDoor.tilesWholeDone
