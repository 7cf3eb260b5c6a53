/-
  The law TilesShrink of the chapter on tiles.
-/
import Derived.Test.YtcfkpajlakidbaaGreatTs12
import Derived.Test.YtcfkpajlakidbaaGreatTs06
import Derived.Test.YtcfkpajlakidbaaGreatTs08
import Derived.Test.YtcfkpajlakidbaaGreatTs09
import Derived.Test.YtcfkpajlakidbaaGreatTs07
import Derived.Test.YtcfkpajlakidbaaGreatTs11
set_option linter.unusedSimpArgs false
set_option linter.unusedVariables false
namespace Go.Proofs.YtcfkpajlakidbaaGreat
open _root_.Go.Proofs.Tryz _root_.Go.Proofs.YtcfkpajlakidbaaGreat.Tryz
open Go Go.Sy Go.Pl Go.Proofs
set_option maxRecDepth 100000
set_option maxHeartbeats 4000000
structure PgOk (l:List Cl)(T:List (List Int))(p:Int):Prop where
 fp:Fp p
 opn:er l T=0
 few:T.length≤6
 bok:Bok T.length (cD (ae l) T)
 dim:wq l+1=((dimN l:Nat):Int)
 dims:dimN l≤9
 eq:cz l T p=fY (i5 (rkP p) T.length (cD (ae l) T) (dimN l))
theorem tj {B:List Cl}(h:pD B=false)(d:Int):(B.filter fun c=>decide (c.dim=d)).length≤200:=by
 cases hd:B.filter (fun c=>decide (c.dim=d)) with
 | nil=>simp
 | cons c q =>
  have hc:c∈B.filter fun c=>decide (c.dim=d):=by rw[hd]; simp
  obtain ⟨h1,h2⟩:=zg7.1 hc;have h2:c.dim=d:=zf6 h2;subst h2;rw[← hd];refine Nat.le_of_not_lt fun h3=>?_;rw[wY h1 h3] at h;cases h
theorem o6 {l:List Cl}{T:List (List Int)}{p:Int}(h:c4 l T p=0):PgOk l T p:=by
 have hC:cz l T p=fY (i5 (rkP p) T.length (cD (ae l) T) (dimN l)):=by unfold cz; rw[zf3 (by rw[h]; simp)]
 unfold c4 at h;split at h
 ·cases h
 ·rename_i hpr;split at h
  ·rename_i hop; exact absurd h hop
  ·rename_i hop;have hop:=zg3 hop;split at h
   ·cases h
   ·rename_i hbl;have hbl1:(a6 (cD (ae l) T)).2=0:=zg3 fun k=>hbl (.inl k);have hmany:pD (cD (ae l) T)=false:=Bool.eq_false_iff.2 fun k=>hbl (.inr k);obtain ⟨hok,hT6⟩:=jB hop;have hRt:=kY hok;have hLt:ae l=aa l:=a8 hRt.asc;have hRt:Rt (ae l):=by rw[hLt]; exact hRt
    have hBR:Rt (cD (ae l) T):=by
     have:=kY hbl1;unfold cD at this ⊢;rwa [fy] at this
    have hdim:=xj hok;have hD:wq l+1=((dimN l:Nat):Int):=by unfold dimN wq at *; omega
    exact⟨gt.1 (by simpa using hpr),hop,hT6,⟨hBR,xr hRt hT6,tj hmany⟩,hD,oM,hC⟩
theorem p4 {α:Type}[DecidableEq α]:∀ {l:List α} {x:α},x∈kT l→x∈l
 | [],_,h=>h
 | [_],_,h=>h
 | a::b::l,x,h=>by
  unfold kT at h;split at h
  ·exact List.mem_cons_of_mem _ (p4 h)
  ·exact h
theorem xB {α:Type}[DecidableEq α]{l:List α}{x:α}(h:x∈fY l):x∈l:=by
 unfold fY at h;rw[List.mem_reverse] at h;have:=p4 h;rwa [List.mem_reverse] at this
theorem p8 {α:Type}[DecidableEq α]:∀ {l:List α},(kT l).length≤l.length
 | []=>lR _
 | [_]=>lR _
 | a::b::l=>by
  unfold kT;split
  ·exact zj5 p8 (Nat.le_succ _)
  ·exact lR _
theorem qd {α:Type}[DecidableEq α]{l:List α}:(fY l).length≤l.length:=by
 unfold fY;rw[List.length_reverse];have:=p8 (l:=l.reverse);rwa [List.length_reverse] at this
theorem wS {p:Int}(hp:Fp p){n:Nat}{B:List Cl}(hB:Bok n B)(r a b:Int):(ni (rkP p) n B r a b).natAbs≤800:=by
 have hbd:=tO hp hB;have b1:=hbd a (a - r) (a+b);have b2:=hbd (a - 1) (a - r) (a+b);have b3:=hbd (a+r - 1) a (a+b+1);have b4:=hbd (a+r - 1) (a - 1) (a+b+1);unfold ni;omega
theorem zT {l:List Cl}{T:List (List Int)}{p:Int}(h:c4 l T p=0):∀ Q∈cz l T p,Q.length=T.length∧∀ x∈Q,x.length=dimN l∧∀ y∈x,y.natAbs≤800:=fun Q hQ=>by
 have ho:=o6 h;rw[ho.eq] at hQ;obtain ⟨r,-,rfl⟩:=ze5.1 (xB hQ);refine⟨qy,fun x hx=>?_⟩;obtain ⟨a,-,rfl⟩:=ze5.1 hx;refine⟨by rw[zd9,zh7],fun y hy=>?_⟩;obtain ⟨b,-,rfl⟩:=ze5.1 hy;exact wS ho.fp ho.bok _ _ _
theorem qx {l:List Cl}{T:List (List Int)}{p:Int}:(cz l T p).length≤T.length:=by
 unfold cz;split
 ·exact ze9 _
 ·refine zj5 qd ?_;rw[kB];exact lR _
def rR (P:List (List Int))(d:Nat):Int:=((P.zipIdx.map fun q=>if q.2≤d then q.1.getD (d - q.2) 0 else 0)).sum
theorem fq (D:Nat)(P:List (List Int)):fv D P=(List.range D).map (rR P):=rfl
theorem j7 (P:List (List Int))(x:List Int)(d:Nat):rR (P++[x]) d=rR P d+if P.length≤d then x.getD (d - P.length) 0 else 0:=by
 unfold rR;rw[List.zipIdx_append,zf8,List.sum_append];simp
theorem Av (P:List (List Int))(d:Nat):rR (P++[[]]) d=rR P d:=by rw[j7]; simp
theorem nR {m:Nat}:∀ {q:List Int},(∀ y∈q,y.natAbs≤m)→q.sum.natAbs≤q.length * m
 | [],_=>by simp
 | y::q,h=>by
  have h1:=h y (by simp);have h2:=nR (q:=q) fun z hz=>h z (by simp[hz]);rw[List.sum_cons,ze2,Nat.succ_mul];omega
theorem Ca {m:Nat}{P:List (List Int)}(h:∀ x∈P,∀ y∈x,y.natAbs≤m)(d:Nat):(rR P d).natAbs≤P.length * m:=by
 have:=nR (m:=m) (q:=P.zipIdx.map fun q=>if q.2≤d then q.1.getD (d - q.2) 0 else 0) fun y hy=>by
  obtain ⟨q,hq,rfl⟩:=ze5.1 hy;split
  ·rw[zg4];cases hx:q.1[d - q.2]? with
   | none=>simp
   | some y=>exact h q.1 (List.fst_mem_of_mem_zipIdx hq) y (zf5 hx)
  ·simp
 rwa [zd9,List.length_zipIdx] at this
theorem uI (D:Nat)(P:List (List Int))(x:List Int)(j:Nat)(hj:j<x.length):fv D (P++[x.take (j+1)])=(fv D (P++[x.take j])).set (P.length+j) (rR (P++[x.take j]) (P.length+j)+x[j]):=by
 rw[fq,fq];refine List.ext_getElem? fun d=>?_;rw[List.getElem?_set,zh3,zh3,zd9,zh7];by_cases hd:d<D
 ·rw[List.getElem?_range hd];show some _=if P.length+j=d then (if P.length+j<D then some (rR (P++[x.take j]) (P.length+j)+x[j]) else none) else some (rR (P++[x.take j]) d)
  rw[j7,j7,j7];have e1:x.take (j+1)=x.take j++[x[j]]:=tS hj;by_cases e:P.length+j=d
  ·subst e;rw[zf4 rfl,zf4 hd,zf4 oM,zf4 oM,Nat.add_sub_cancel_left,e1];simp[zg4,Nat.le_of_lt hj,zg6,gE hj]
  ·rw[zf3 e];congr 2;by_cases e2:P.length≤d
   ·rw[zf4 e2,zf4 e2,zg4,zg4];congr 1;rw[zh4,zh4];split <;> split <;> first | rfl | omega | skip
   ·rw[zf3 e2,zf3 e2]
 ·rw[List.getElem?_eq_none (by rw[zh7]; omega)];split
  ·rw[zf3 oM]; rfl
  ·rfl
theorem B9 {D:Nat}{P:List (List Int)}{x:List Int}{j:Nat}(hj:j<x.length)(h:¬ P.length+j<D):fv D (P++[x.take (j+1)])=fv D (P++[x.take j]):=by
 rw[uI D P x j hj,List.set_eq_of_length_le];rw[fq,zd9,zh7];omega
theorem vW (E:World)(hE:E.drawn=0)(g:PH)(s:Own)(v tv:Value)(l:List Cl)(T:List (List Int))(p:Int)(hv:ar g v l)(hf:dM l)(hw:∀ c∈l,fI c.id)(ht:aJ g tv T)(hT:T.length<1099511627776)(hTl:∀ t∈T,t.length<1099511627776)(hp2:2≤p)(hp9:p<9) :
  Ctr Tryz.prog E 14 #[.agg #[v],tv,vi p] g s (fun x g' s'=>s=s'∧Le g g'∧∃ u,x = .tuple #[u,vi (c4 l T p)]∧cd g' u (i6 l T p)):=by
 obtain ⟨vp,vc,rfl⟩:=hv.form;refine za9 (args:=[.agg #[.slice vp l.length vc],tv,vi p]) func14 I ntmps14 (bE I) ?_;refine rZ (bW (bO I) fun b3=>?_);refine lA I (aT I (rZ (lK (qV 0 bZ aH I I I) (lM I (lM I (lW (cL call12 I (kA E hE g _ _ tv l T p hv hf hw ht hT hTl hp2 hp9)) ?_))))));rintro _ g1 _ ⟨rfl,hle1,u,rfl,us,hus,hall⟩;obtain ⟨up,uc,rfl⟩:=za2 hus;have hlen:=hall.length;by_cases he:c4 l T p=0
 ·refine lM I (yX I (yX I (lA I (aT I (sQ (sW I (lU (SU.eq (v':=vb false) (nQ I I) (zd5 vb (by rw[he]; rfl))) ?_)))))));refine lM I (yC I (lY I I I (eN jI I) (lY I I I (eQ I I) (yF I (tZ ?_)))));refine iP I (fun h0=>?_) (fun h0=>?_)
  ·refine sW I (lA I (aT I (rE (tR ?_))));have hb:i6 l T p=[]:=by unfold i6; rw[zf4 oM]
   refine dR (s':=s) uR ?_;exact ST.ret2 (.inl I) results14 I I ⟨I,hle1,_,I,by rw[hb]; exact zb8 _ _⟩
  ·have ho:=o6 he;have hbd:=zT he;obtain ⟨hfp,-,hT6,hbok,hD,hD9,-⟩:=ho;have hb:i6 l T p=fv (dimN l) ((cz l T p).getLastD []):=by unfold i6; rw[zf3 oM]
   have hpf:=qx (l:=l) (T:=T) (p:=p);have hPl:us.length - 1<(cz l T p).length:=oM;have hQ:(cz l T p)[us.length - 1]?=some ((cz l T p)[us.length - 1]):=gE hPl;have hlast:(cz l T p).getLastD []=(cz l T p)[us.length - 1]:=by
    rw[List.getLastD_eq_getLast?,List.getLast?_eq_getElem?,hlen,hQ];rfl
   have hQm:=gM hPl;have hQR:=hall.get hQ (gE (i:=us.length - 1) oM);have hgu:us[((us.length:Int) - 1).toNat]?=some (us[us.length - 1]'oM):=by
    rw[show ((us.length:Int) - 1).toNat=us.length - 1 by omega];exact gE _
   rw[hlast] at hb;have hb1:=za4 hus oM;generalize (cz l T p)[us.length - 1]=Q at *;generalize us[us.length - 1]'oM=r1 at *;obtain ⟨p1,n1,c1⟩:=r1;obtain ⟨hQl,hQx⟩:=hbd Q hQm;obtain ⟨rs,hrs,hallr⟩:=hQR;dsimp only at hrs;obtain ⟨rfl,-⟩:=SlA.cap hrs;have hrl:=hallr.length;refine kP (tN (rZ (lK (qV 0 bZ aH I I I) (lW (cL call32 I (uA E g1 _ (.slice vp l.length vc) l (hv.mono hle1) hf)) ?_))));rintro _ g2 _ ⟨rfl,rfl,hle2⟩;refine lU (SU.eq (v':=vi (dimN l)) (aD I I oM) (zd5 vi hD)) (lW (mK encInt 0 sty25 I I I oM oM) ?_);rintro _ _ _ ⟨bl,rfl,rfl,rfl⟩;refine aT I (sQ (sW I (lM I (lU (eN jI I) (lU (sU I I oM) (lU (iA jI lC I I hb1 oM (show ((us.length:Int) - 1)<((us.length:Nat):Int) by omega)) ?_))))));refine lK (eB (u:=.slice p1 rs.length c1) nk I (za5 (za3 hus hle2)) hgu I) (lU (eN bF I) (lM I (tZ (bK ?_))));generalize dimN l=D at *;have h00:fv D []=List.replicate D 0:=by
    rw[fq,List.eq_replicate_iff];exact⟨by simp,fun b hb=>by obtain ⟨d,_,rfl⟩:=ze5.1 hb; rfl⟩
   rw[← h00];have hrs2:=za3 hrs hle2;refine oP (ι:=Nat) (fun a=>[(10,.slice (some ⟨bl,0,none⟩) D D),(39,.slice p1 rs.length c1),(40,vi rs.length),(41,vi a)]) (fun _=>g2) (fun a=>rowA encInt 3 (.slice (some ⟨bl,0,none⟩) D D) (fv D (Q.take a))::pt b3 (.cells #[.slice vp l.length vc] 30 (0,0))::s) (fun a=>a≤rs.length) (fun a=>rs.length - a) 0 sB I I (ze9 _) ?_;rintro a ha;refine rZ (yL I (tZ (sQ ?_)));refine iP I (fun hlt=>?_) (fun hlt=>?_)
   ·have har:a<rs.length:=oM;have haQ:a<Q.length:=oM;have hgr:rs[((a:Nat):Int).toNat]?=some rs[a]:=gE har;have hR:=hallr.get (gE haQ) (gE har);have hb2:=za4 hrs oM;have hxm:=gM haQ;have htk:Q.take (a+1)=Q.take a++[Q[a]]:=tS haQ;have hQtl:(Q.take a).length=a:=by rw[zd7]; omega
    have hQtm:∀ y∈Q.take a,∀ z∈y,z.natAbs≤800:=fun y hy=>(hQx y (List.mem_of_mem_take hy)).2;generalize Q.take a=Qa at *;generalize Q[a]=x at *;generalize rs[a]=r at *;obtain ⟨p2,n2,c2⟩:=r;have hR:cd g1 (.slice p2 n2 c2) x:=hR;obtain ⟨rfl,-⟩:=SlA.cap hR;obtain ⟨hxl,hxb⟩:=hQx x hxm;have hR2:=za3 hR hle2;refine kP (tN (sQ (bK (sW I (lU (iA bF cg I I hb2 oM sL) (lK (eB (u:=.slice p2 x.length c2) dx I (za5 hrs2) hgr I) (lA I (aT I (sW I (lU (eN am I) (lM I (tZ (bK ?_)))))))))))));refine oP (ι:=Nat) (fun j=>[(10,.slice (some ⟨bl,0,none⟩) D D),(11,vi a),(39,.slice p1 rs.length c1),(40,vi rs.length),(41,vi a),(46,.slice p2 x.length c2),(47,vi x.length),(48,vi j)]) (fun _=>g2) (fun j=>rowA encInt 3 (.slice (some ⟨bl,0,none⟩) D D) (fv D (Qa++[x.take j]))::pt b3 (.cells #[.slice vp l.length vc] 30 (0,0))::s) (fun j=>j≤x.length) (fun j=>x.length - j) 0 sB I (by rw[show fv D (Qa++[x.take 0])=fv D Qa from zc4 fun d _=>Av Qa d]) (ze9 _) ?_;rintro j hj;refine rZ (yL I (tZ (sQ ?_)));refine iP I (fun hlt2=>?_) (fun hlt2=>?_)
    ·have hjx:j<x.length:=oM;have hb3:=za4 hR oM;have hgx:x[((j:Nat):Int).toNat]?=some x[j]:=gE hjx;have hst:=uI D Qa x j hjx;have hou:=B9 (D:=D) (P:=Qa) hjx;have hyb:=hxb _ (gM hjx);rw[hQtl] at hst hou;refine kP (tN (sQ (bK (sW I (lU (iA am zT3 I I hb3 oM sL) (lK (eB iT3 I (za5 hR2) hgx I) (lA I (aT I (sW I (lM I (yD I (lM I (lU (eN am I) (yL I (tZ ?_)))))))))))))));refine iP I (fun hin=>?_) (fun hin=>?_)
     ·have hin':a+j<D:=oM;have hBb:=Ca (P:=Qa++[x.take j]) (m:=800) (fun y hy=>by
       rcases ze6.1 hy with h | h
       ·exact hQtm y h
       ·rw[zh1] at h;subst h;exact fun z hz=>hxb z (List.mem_of_mem_take hz)) (a+j)
      rw[zd8,ze1,hQtl] at hBb;have hBk:(fv D (Qa++[x.take j]))[((a:Int)+j).toNat]?=some (rR (Qa++[x.take j]) (a+j)):=by
       rw[show ((a:Int)+j).toNat=a+j by omega,fq,zh3,List.getElem?_range hin'];rfl
      have hBl:(fv D (Qa++[x.take j])).length=D:=by rw[fq,zd9,zh7]
      generalize rR (Qa++[x.take j]) (a+j)=y0 at *;refine rG (lM I (lM I (lM I (yD I (lU (iA am zT3 I I I oM sL) (lK (eB iT3 I (zb5 (e:=encInt) 0 I) hBk I) (lM I (yD I (lU (SU.eq (v':=.pointer (some ⟨bl,0+(a+j) * 1,none⟩)) (iA am zT3 I I I oM sL) (by rw[show ((a:Int)+j).toNat=a+j by omega]; rfl)) ?_)))))))));refine oZ (sT (e:=encInt) (a:=y0+x[j]) (j:=a+j) 0 zT3 I I I (by rw[hBl]; exact hin') I) ?_;rw[← hst];refine nL (bN (tN (rG (yD I (lM I (nL ?_))))));exact gA (j+1) sB I I oM oM
     ·rw[← hou oM];refine kP (bN (tN (rG (yD I (lM I (nL ?_))))));exact gA (j+1) sB I I oM oM
    ·have hje:j=x.length:=oM;subst hje;rw[List.take_length,← htk];refine xI (tX (tX (bX (bN (tN (rG (yD I (lM I (nL ?_)))))))));exact gA (a+1) sB I I oM oM
   ·have hae:a=rs.length:=oM;subst hae;rw[← hrl,List.take_length,← hb];refine xI (tX (tX (bX (tN (sW I (lA I (aT I (rE ?_))))))));have hlb:(i6 l T p).length=D:=by rw[hb,fq,zd9,zh7]
    refine fT fun g3 hle3 hs3=>?_;refine dR (s':=s) uR ?_;exact ST.ret2 (.inl I) results14 I I ⟨I,hle1.trans (hle2.trans hle3),_,by rw[he],by unfold cd SlA; rw[← hlb] at hs3 ⊢; exact hs3⟩
 ·refine lM I (yX I (yX I (lA I (aT I (sQ (sW I (lU (SU.eq (v':=vb true) (nQ I I) (zd5 vb (zf2 he))) (lM I (yA I (yA I (yA I (yP I (tZ (cT I (sW I (lA I (aT I (rE (tR ?_)))))))))))))))))));have hb:i6 l T p=[]:=by
   unfold i6;rw[zf4];unfold cz;rw[zf4 he];rfl
  refine dR (s':=s) uR ?_;exact ST.ret2 (.inl I) results14 I I ⟨I,hle1,_,I,by rw[hb]; exact zb8 _ _⟩
set_option maxHeartbeats 1000000
theorem A6 (g:PH):ar g (.slice none 0 0) []:=⟨[],zb8 g _,trivial⟩
theorem nG (E:World)(hE:E.drawn=0)(g:PH)(s:Own)(v tv:Value)(l:List Cl)(T:List (List Int))(hv:ar g v l)(hf:dM l)(hw:∀ c∈l,fI c.id)(ht:aJ g tv T)(hT:T.length<1099511627776)(hTl:∀ t∈T,t.length<1099511627776) :
  Ctr Tryz.prog E 23 #[.agg #[v],tv] g s (fun x g' s'=>s=s'∧Le g g'∧x=vi (er l T)):=by
 obtain ⟨vp,vc,rfl⟩:=hv.form;refine za9 (args:=[.agg #[.slice vp l.length vc],tv]) func23 I ntmps23 (bE I) ?_;refine rZ (bW (bO I) fun b2=>?_);refine aT I (rZ (lK (qV 0 bZ aH I I I) (lM I (lW (cL call30 I (mi E hE g _ _ tv l T hv hf hw ht hT hTl)) ?_))));rintro _ g1 _ ⟨rfl,hle1,pv,rfl,-⟩;refine lM I (yX I (yX I (lA I (aT I (sW I (aT I (rE (dR (s':=s) uR ?_))))))));exact za6 (.inl I) results23 I ⟨I,hle1,I⟩
theorem Tryz.buildN30 (w:World):(Instr.build 30 #[]).run Tryz.prog w = .ok (.agg #[.slice none 0 0]) w:=by
 simp[Instr.build,Instr.fill];rfl
theorem tw (E:World)(hE:E.drawn=0)(g:PH)(s:Own)(v tv:Value)(l:List Cl)(T:List (List Int))(hv:ar g v l)(hf:dM l)(hw:∀ c∈l,fI c.id)(ht:aJ g tv T)(hT:T.length<1099511627776)(hTl:∀ t∈T,t.length<1099511627776) :
  Ctr Tryz.prog E 20 #[.agg #[v],tv] g s (fun x g' s'=>s=s'∧Le g g'∧∃ u,x = .agg #[u]∧ar g' u (gF l T)):=by
 obtain ⟨vp,vc,rfl⟩:=hv.form;refine za9 (args:=[.agg #[.slice vp l.length vc],tv]) func20 I ntmps20 (bE I) ?_;refine rZ (bW (bO I) fun b2=>?_);refine bW (aL zk2) fun b4=>?_;refine tZ (rZ (lK (qV 1 bZ aH I I I) (lM I (lW (cL call30 I (mi E hE g _ _ tv l T hv hf hw ht hT hTl)) ?_))));rintro _ g1 _ ⟨rfl,hle1,pv,rfl,hcov⟩;refine lM I (yX I (yX I (lA I (aT I (sQ (sW I (lU (nQ I I) (tZ ?_))))))));refine iP I (fun hop=>?_) (fun hop=>?_)
 ·have hb:gF l T=[]:=by unfold gF; rw[zf4 (.inl hop)]
  refine rZ (lU (za1 I buildN30) (oZ (sK 0 aH I I I I I ⟨I,trivial⟩) (tZ (rE (tR ?_)))));exact ST.retCD 0 s (.inl I) results20 I bZ aH I I uR ⟨I,hle1,_,I,by rw[hb]; exact A6 _⟩
 ·have hop0:er l T=0:=zg3 hop;have hcov:=hcov hop0;obtain ⟨hok,hT6⟩:=jB hop0;have hRt:=kY hok;have hLt:ae l=aa l:=a8 hRt.asc;have hRt:Rt (ae l):=by rw[hLt]; exact hRt
  have hBf:=cw (mH hRt hT6);refine kP (tN (sW I (lW (cL call31 I (nb E g1 _ pv (ae l) T hcov hRt hT6)) ?_)));rintro _ g2 _ ⟨rfl,hle2,u,rfl,hu⟩;obtain ⟨up,uc,rfl⟩:=hu.form;refine bW (aL zk2) fun b7=>?_;refine oZ (sK 0 aH I I I I I ⟨I,trivial⟩) (tZ (sQ (rZ (lK (qV 0 bZ aH I I I) (lW (cL call24 I (kI E g2 _ _ (cD (ae l) T) hu hBf)) ?_)))));rintro _ _ _ ⟨rfl,rfl,rfl⟩;refine lM I (yX I (yX I (lA I (aT I (sW I (lU (nQ I I) (tZ ?_)))))));refine iP I (fun hbl=>?_) (fun hbl=>?_)
  ·have hb:gF l T=[]:=by unfold gF; rw[zf4 (.inr hbl)]
   refine rZ (lU (za1 I buildN30) (oZ (sK 1 aH I I I I I ⟨I,trivial⟩) (tZ (rE (tR ?_)))));exact ST.retCD 1 s (.inl I) results20 I bZ aH I I uR ⟨I,hle1.trans hle2,_,I,by rw[hb]; exact A6 _⟩
  ·have hb:gF l T=cD (ae l) T:=by unfold gF; rw[zf3]; rintro (h | h); exact hop h; exact hbl h
   refine kP (tN (rZ (lK (qV 0 bZ aH I I I) (oZ (sK 1 aH I I I I I ⟨I,trivial⟩) (tZ (rE ?_))))));exact ST.retCD 1 s (.inl I) results20 I bZ aH I I uR ⟨I,hle1.trans hle2,_,I,by rw[hb]; exact hu⟩
set_option maxHeartbeats 2000000
theorem pJ (E:World)(g:PH)(s:Own)(v u:Value)(P Q:List (List Int))(hv:aJ g v P)(hu:aJ g u Q)(hP:P.length<1099511627776)(hPl:∀ x∈P,x.length<1099511627776)(hQ:Q.length<1099511627776) :
  Ctr Tryz.prog E 44 #[v,u] g s (fun r g' s'=>r=vb (decide (P=Q))∧g=g'∧s=s'):=by
 obtain ⟨rs,hrs,hallr⟩:=hv;obtain ⟨qs,hqs,hallq⟩:=hu;have hlr:=hallr.length;have hlq:=hallq.length;obtain ⟨rp,rc,rfl⟩:=za2 hrs;obtain ⟨qp,qc,rfl⟩:=za2 hqs;refine za9 (args:=[.slice rp rs.length rc,.slice qp qs.length qc]) func44 I ntmps44 (bE I) ?_;refine rZ (aT I (sQ (sW I (lU (eN bF I) (lM I (lU (eN bF I) (lU (nQ I I) (tZ ?_))))))));refine iP I (fun hne=>?_) (fun hne=>?_)
 ·refine rZ (aT I (rE (tR ?_)));have h0:decide (P=Q)=false:=zf1 fun e=>hne (by rw[← hlr,← hlq,e]);exact za6 (.inl I) results44 I ⟨by rw[h0],I,I⟩
 ·have hlen:rs.length=qs.length:=oM;refine kP (tN (sQ (rZ (aT I (bK ?_)))));refine oP (ι:=Nat) (fun k=>[(0,.slice rp rs.length rc),(1,.slice qp qs.length qc),(5,vi k)]) (fun _=>g) (fun _=>s) (fun k=>k≤rs.length∧P.take k=Q.take k) (fun k=>rs.length - k) 0 sB I I ⟨ze9 _,I⟩ ?_;rintro k ⟨hk,heq⟩;refine sQ (sW I (lM I (lU (eN bF I) (yL I (tZ ?_)))));refine iP I (fun hlt=>?_) (fun hlt=>?_)
  ·have hkr:k<rs.length:=oM;have hkq:k<qs.length:=oM;have hkP:k<P.length:=oM;have hkQ:k<Q.length:=oM;have hb1:=za4 hrs oM;have hb2:=za4 hqs oM;have hgr:rs[((k:Nat):Int).toNat]?=some rs[k]:=gE hkr;have hgq:qs[((k:Nat):Int).toNat]?=some qs[k]:=gE hkq;have hR:=hallr.get (gE hkP) (gE hkr);have hQ':=hallq.get (gE hkQ) (gE hkq);have h1:P.take (k+1)=P.take k++[P[k]]:=tS hkP;have h2:Q.take (k+1)=Q.take k++[Q[k]]:=tS hkQ;have hpl:=hPl _ (gM hkP);have hdiff:P[k]≠Q[k]→decide (P=Q)=false:=fun h=>zf1 fun e=>h (by subst e; rfl);generalize P[k]=x at *;generalize Q[k]=y at *;generalize rs[k]=r at *;generalize qs[k]=q at *;obtain ⟨ap,an,ac⟩:=r;obtain ⟨bp,bn,bc⟩:=q;refine kP (tN (sQ (bK (sQ ?_))));refine dW [] [(0,2),(1,2),(2,2),(3,1),(4,2),(5,2),(6,2),(7,1),(8,0),(9,2)] zd6 kR ?_;refine yM I (yM I (pU I (iA bF cg I I hb1 oM sL) (pK I (eB (u:=.slice ap an ac) dx I (za5 hrs) hgr I) (yM I (yM I (pU I (iA bF cg I I hb2 oM sL) (pK I (eB (u:=.slice bp bn bc) dx I (za5 hqs) hgq I) (SP.o I (cL call17 I (qD E g s (.slice ap an ac) (.slice bp bn bc) x y hR hQ' oM)) dC (.inr iR) ?_))))))));rintro _ _ _ ⟨rfl,rfl,rfl⟩;refine pU I (aS I) (pN (tN (sW I (lU (SU.notP I) (tZ ?_)))));refine iQ I (fun hxy=>?_) (fun hxy=>?_)
   ·have hxy':x≠y:=by simpa using hxy
    refine rZ (aT I (rE (bR (tR (tR (bR (tR ?_)))))));exact za6 (.inl I) results44 I ⟨by rw[hdiff hxy'],I,I⟩
   ·have hxy':x=y:=by simpa using hxy
    refine kP (bN (tN (rG (lM I (yD I (lA I (nL ?_)))))));exact gA (k+1) sB I I ⟨oM,by rw[h1,h2,heq,hxy']⟩ oM
  ·have hkk:k=rs.length:=oM;subst hkk;rw[tL oM,tL oM] at heq;refine xI (tX (tX (bX (tN (rZ (aT I (rE ?_)))))));have h0:decide (P=Q)=true:=zf2 heq;exact za6 (.inl I) results44 I ⟨by rw[h0],I,I⟩
theorem nI (E:World)(g:PH)(s:Own)(v u:Value)(P Q:List (List (List Int)))(hv:Pgs g v P)(hu:Pgs g u Q)(hP:P.length<1099511627776)(hPl:∀ A∈P,A.length<1099511627776∧∀ x∈A,x.length<1099511627776)(hQ:Q.length<1099511627776)(hQl:∀ A∈Q,A.length<1099511627776) :
  Ctr Tryz.prog E 16 #[v,u] g s (fun r g' s'=>r=vb (decide (P=Q))∧g=g'∧s=s'):=by
 obtain ⟨rs,hrs,hallr⟩:=hv;obtain ⟨qs,hqs,hallq⟩:=hu;have hlr:=hallr.length;have hlq:=hallq.length;obtain ⟨rp,rc,rfl⟩:=za2 hrs;obtain ⟨qp,qc,rfl⟩:=za2 hqs;refine za9 (args:=[.slice rp rs.length rc,.slice qp qs.length qc]) func16 I ntmps16 (bE I) ?_;refine rZ (aT I (sQ (sW I (lU (eN jI I) (lM I (lU (eN jI I) (lU (nQ I I) (tZ ?_))))))));refine iP I (fun hne=>?_) (fun hne=>?_)
 ·refine rZ (aT I (rE (tR ?_)));have h0:decide (P=Q)=false:=zf1 fun e=>hne (by rw[← hlr,← hlq,e]);exact za6 (.inl I) results16 I ⟨by rw[h0],I,I⟩
 ·have hlen:rs.length=qs.length:=oM;refine kP (tN (sQ (rZ (aT I (bK ?_)))));refine oP (ι:=Nat) (fun k=>[(0,.slice rp rs.length rc),(1,.slice qp qs.length qc),(5,vi k)]) (fun _=>g) (fun _=>s) (fun k=>k≤rs.length∧P.take k=Q.take k) (fun k=>rs.length - k) 0 sB I I ⟨ze9 _,I⟩ ?_;rintro k ⟨hk,heq⟩;refine sQ (sW I (lM I (lU (eN jI I) (yL I (tZ ?_)))));refine iP I (fun hlt=>?_) (fun hlt=>?_)
  ·have hkr:k<rs.length:=oM;have hkq:k<qs.length:=oM;have hkP:k<P.length:=oM;have hkQ:k<Q.length:=oM;have hb1:=za4 hrs oM;have hb2:=za4 hqs oM;have hgr:rs[((k:Nat):Int).toNat]?=some rs[k]:=gE hkr;have hgq:qs[((k:Nat):Int).toNat]?=some qs[k]:=gE hkq;have hR:=hallr.get (gE hkP) (gE hkr);have hQ':=hallq.get (gE hkQ) (gE hkq);have h1:P.take (k+1)=P.take k++[P[k]]:=tS hkP;have h2:Q.take (k+1)=Q.take k++[Q[k]]:=tS hkQ;have hpl:=hPl _ (gM hkP);have hql:=hQl _ (gM hkQ);have hdiff:P[k]≠Q[k]→decide (P=Q)=false:=fun h=>zf1 fun e=>h (by subst e; rfl);generalize P[k]=x at *;generalize Q[k]=y at *;generalize rs[k]=r at *;generalize qs[k]=q at *;obtain ⟨ap,an,ac⟩:=r;obtain ⟨bp,bn,bc⟩:=q;refine kP (tN (sQ (bK (sQ ?_))));refine dW [] [(0,2),(1,2),(2,2),(3,1),(4,2),(5,2),(6,2),(7,1),(8,0),(9,2)] zd6 kR ?_;refine yM I (yM I (pU I (iA jI lC I I hb1 oM sL) (pK I (eB (u:=.slice ap an ac) nk I (za5 hrs) hgr I) (yM I (yM I (pU I (iA jI lC I I hb2 oM sL) (pK I (eB (u:=.slice bp bn bc) nk I (za5 hqs) hgq I) (SP.o I (cL call44 I (pJ E g s (.slice ap an ac) (.slice bp bn bc) x y hR hQ' hpl.1 hpl.2 hql)) dC (.inr iR) ?_))))))));rintro _ _ _ ⟨rfl,rfl,rfl⟩;refine pU I (aS I) (pN (tN (sW I (lU (SU.notP I) (tZ ?_)))));refine iQ I (fun hxy=>?_) (fun hxy=>?_)
   ·have hxy':x≠y:=by simpa using hxy
    refine rZ (aT I (rE (bR (tR (tR (bR (tR ?_)))))));exact za6 (.inl I) results16 I ⟨by rw[hdiff hxy'],I,I⟩
   ·have hxy':x=y:=by simpa using hxy
    refine kP (bN (tN (rG (lM I (yD I (lA I (nL ?_)))))));exact gA (k+1) sB I I ⟨oM,by rw[h1,h2,heq,hxy']⟩ oM
  ·have hkk:k=rs.length:=oM;subst hkk;rw[tL oM,tL oM] at heq;refine xI (tX (tX (bX (tN (rZ (aT I (rE ?_)))))));have h0:decide (P=Q)=true:=zf2 heq;exact za6 (.inl I) results16 I ⟨by rw[h0],I,I⟩
def nK:List Cl:=[⟨1,0,[]⟩,⟨2,0,[]⟩,⟨3,0,[]⟩,⟨4,1,[⟨1,-1⟩,⟨2,1⟩]⟩,⟨5,1,[⟨1,-1⟩,⟨3,1⟩]⟩,⟨6,1,[⟨2,-1⟩,⟨3,1⟩]⟩]
theorem BA:bI [1,2]=[1,2]:=by
 unfold bI;rw[iJ dC];rfl
theorem BB:bI [0,2]=[0,2]:=by
 unfold bI;rw[iJ dC];rfl
theorem zx:bA [[0,1],[1,2],[0,2]]=nK:=by
 simp only[bA,az,BC,BA,BB];rfl
theorem ly:dM nK:=Ag dC dC
theorem oO:∀ c∈nK,fI c.id:=by unfold fI; decide
theorem Am:er nK [[4,6],[5]]=0:=by kernel_rfl
theorem B6:er nK [[4],[5]]=45:=by kernel_rfl
theorem yw:(a6 (cD (ae nK) [[4,6],[5]])).2=0:=by kernel_rfl
theorem yx:(gF nK [[4,6],[5]]).length=10:=by
 unfold gF;rw[zf3 (by rintro (h | h); exact h Am; exact h yw)]
 kernel_rfl
theorem kH:c4 nK [[4,6],[5]] 2=0:=by kernel_rfl
theorem BF:rkP 2=fun C R=>rkF C R ec:=funext fun C=>funext fun R=>CB C R ec
theorem qP:cz nK [[4,6],[5]] 2=[[[2,0],[2,0]],[[1,0],[1,0]]]:=by
 unfold cz;rw[zf3 (by rw[kH]; simp),BF]
 kernel_rfl
theorem yy:i6 nK [[4,6],[5]] 2=[1,1]:=by
 unfold i6;rw[qP]
 kernel_rfl
theorem tt (E:World)(g:PH)(s:Own):Ctr Tryz.prog E 26 #[] g s (fun r g' s'=>s=s'∧Le g g'∧∃ u,r = .agg #[u]∧ar g' u nK):=by
 refine za9 (args:=[]) func26 I ntmps26 (bE I) ?_;refine rZ (bW (aL zk2) fun b0=>?_);refine tZ (rZ (lW (bS sty25 I I I (ab sB) dC) ?_));rintro _ _ _ ⟨b1,rfl,rfl,rfl⟩;refine zb3 fun g1 hle1 hb1=>?_;refine lW (bS sty25 I I I (ab sB) dC) ?_;rintro _ _ _ ⟨b2,rfl,rfl,rfl⟩;refine zb3 fun g2 hle2 hb2=>?_;refine lW (bS sty25 I I I (ab sB) dC) ?_;rintro _ _ _ ⟨b3,rfl,rfl,rfl⟩;refine zb3 fun g3 hle3 hb3=>?_;refine lW (bS sty22 I I I (ab sB) dC) ?_;rintro _ _ _ ⟨b4,rfl,rfl,rfl⟩;refine zb3 fun g4 hle4 hb4=>?_;have hlit:aJ g4 (.slice (some ⟨b4,0,none⟩) 3 3) [[0,1],[1,2],[0,2]]:=⟨[eo (.slice (some ⟨b1,0,none⟩) 2 2),eo (.slice (some ⟨b2,0,none⟩) 2 2),eo (.slice (some ⟨b3,0,none⟩) 2 2)],SlA.lit hb4 rfl rfl,⟨SlA.lit ((hle2.trans (hle3.trans hle4)) _ _ hb1) rfl rfl,SlA.lit ((hle3.trans hle4) _ _ hb2) rfl rfl,SlA.lit (hle4 _ _ hb3) rfl rfl,trivial⟩⟩;refine lW (cL call54 I (nr E g4 _ _ _ hlit dC dC)) ?_;rintro _ g5 _ ⟨rfl,hle5,u,rfl,hu⟩;rw[zx] at hu;obtain ⟨q,d,rfl⟩:=hu.form;refine oZ (sK 0 aH I I I I I sB) ?_;refine tZ (rE ?_);exact ST.retCD 0 s (.inl I) results26 I bZ aH I I uR ⟨I,hle1.trans (hle2.trans (hle3.trans (hle4.trans hle5))),_,I,hu⟩
theorem pI (E:World)(hE:E.drawn=0)(g:PH)(s:Own):Ctr Tryz.prog E 7 #[] g s (fun r g' s'=>r=vb true∧s=s'∧Le g g'):=by
 refine za9 (args:=[]) func7 I ntmps7 (bE I) ?_;refine rZ (aT I (rZ (lW (cL call26 I (tt E g s)) ?_)));rintro _ g1 _ ⟨rfl,hle1,u,rfl,hu⟩;obtain ⟨q,d,rfl⟩:=hu.form;refine bW (aL zk2) fun b1=>?_;refine oZ (sK 0 aH I I I I I ⟨I,trivial⟩) (tZ (rZ (lW (bS sty25 I I I (ab sB) dC) ?_)));rintro _ _ _ ⟨b10,rfl,rfl,rfl⟩;refine zb3 fun g2 hle2 hb10=>?_;refine lW (bS sty25 I I I (ab ⟨I,trivial⟩) dC) ?_;rintro _ _ _ ⟨b11,rfl,rfl,rfl⟩;refine zb3 fun g3 hle3 hb11=>?_;refine lW (bS sty22 I I I (ab sB) dC) ?_;rintro _ _ _ ⟨b12,rfl,rfl,rfl⟩;refine zb3 fun g4 hle4 hb12=>?_;have hT:aJ g4 (.slice (some ⟨b12,0,none⟩) 2 2) [[4,6],[5]]:=⟨[eo (.slice (some ⟨b10,0,none⟩) 2 2),eo (.slice (some ⟨b11,0,none⟩) 1 1)],SlA.lit hb12 rfl rfl,⟨SlA.lit ((hle3.trans hle4) _ _ hb10) rfl rfl,SlA.lit (hle4 _ _ hb11) rfl rfl,trivial⟩⟩;have hu4:=hu.mono (hle2.trans (hle3.trans hle4));refine aT I (rZ (lK (qV 0 bZ aH I I I) (lM I (lW (cL call20 I (tw E hE g4 _ _ _ nK [[4,6],[5]] hu4 ly oO hT dC dC)) ?_))));rintro _ g5 _ ⟨rfl,hle5,u5,rfl,hu5⟩;obtain ⟨q5,d5,rfl⟩:=hu5.form;rw[yx];have hu5':=hu4.mono hle5;have hT5:=hT.mono hle5;refine bW (aL zk2) fun b3=>?_;refine oZ (sK 0 aH I I I I I ⟨I,trivial⟩) (tZ (rZ (lK (qV 1 bZ aH I I I) (lM I (lW (cL call12 I (kA E hE g5 _ _ _ nK [[4,6],[5]] 2 hu5' ly oO hT5 dC dC dC dC)) ?_)))));rintro _ g6 _ ⟨rfl,hle6,u6,rfl,hP⟩;rw[kH];rw[qP] at hP;have hu6:=hu5'.mono hle6;have hT6:=hT5.mono hle6;refine lM I (yX I (yX I (lA I (aT I (rZ (lK (qV 1 bZ aH I I I) (lM I (lW (cL call14 I (vW E hE g6 _ _ _ nK [[4,6],[5]] 2 hu6 ly oO hT6 dC dC dC dC)) ?_))))))));rintro _ g7 _ ⟨rfl,hle7,u7,rfl,hB⟩;rw[kH];rw[yy] at hB;have hu7:=hu6.mono hle7;have hP7:=hP.mono hle7;refine lM I (yX I (yX I (lA I (aT I (rZ (lW (bS sty25 I I I (ab sB) dC) ?_))))));rintro _ _ _ ⟨b28,rfl,rfl,rfl⟩;refine zb3 fun g8 hle8 hb28=>?_;refine lW (bS sty25 I I I (ab sB) dC) ?_;rintro _ _ _ ⟨b29,rfl,rfl,rfl⟩;refine zb3 fun g9 hle9 hb29=>?_;refine lW (bS sty22 I I I (ab sB) dC) ?_;rintro _ _ _ ⟨b30,rfl,rfl,rfl⟩;refine zb3 fun g10 hle10 hb30=>?_;have h30:aJ g10 (.slice (some ⟨b30,0,none⟩) 2 2) [[2,0],[2,0]]:=⟨[eo (.slice (some ⟨b28,0,none⟩) 2 2),eo (.slice (some ⟨b29,0,none⟩) 2 2)],SlA.lit hb30 rfl rfl,⟨SlA.lit ((hle9.trans hle10) _ _ hb28) rfl rfl,SlA.lit (hle10 _ _ hb29) rfl rfl,trivial⟩⟩;refine lW (bS sty25 I I I (ab sB) dC) ?_;rintro _ _ _ ⟨b31,rfl,rfl,rfl⟩;refine zb3 fun g11 hle11 hb31=>?_;refine lW (bS sty25 I I I (ab sB) dC) ?_;rintro _ _ _ ⟨b32,rfl,rfl,rfl⟩;refine zb3 fun g12 hle12 hb32=>?_;refine lW (bS sty22 I I I (ab sB) dC) ?_;rintro _ _ _ ⟨b33,rfl,rfl,rfl⟩;refine zb3 fun g13 hle13 hb33=>?_;have h33:aJ g13 (.slice (some ⟨b33,0,none⟩) 2 2) [[1,0],[1,0]]:=⟨[eo (.slice (some ⟨b31,0,none⟩) 2 2),eo (.slice (some ⟨b32,0,none⟩) 2 2)],SlA.lit hb33 rfl rfl,⟨SlA.lit ((hle12.trans hle13) _ _ hb31) rfl rfl,SlA.lit (hle13 _ _ hb32) rfl rfl,trivial⟩⟩;refine lW (bS sty37 I I I (ab sB) dC) ?_;rintro _ _ _ ⟨b34,rfl,rfl,rfl⟩;refine zb3 fun g14 hle14 hb34=>?_;have hW:Pgs g14 (.slice (some ⟨b34,0,none⟩) 2 2) [[[2,0],[2,0]],[[1,0],[1,0]]]:=⟨[eo (.slice (some ⟨b30,0,none⟩) 2 2),eo (.slice (some ⟨b33,0,none⟩) 2 2)],SlA.lit hb34 rfl rfl,⟨h30.mono (hle11.trans (hle12.trans (hle13.trans hle14))),h33.mono hle14,trivial⟩⟩;have hl14:=hle8.trans (hle9.trans (hle10.trans (hle11.trans (hle12.trans (hle13.trans hle14)))));have hP14:=hP7.mono hl14;have hB14:=za3 hB hl14;have hu14:=hu7.mono hl14;refine aT I (rZ (lU (fA fB I dZ I) (lK (qL (v:=.slice q5 10 d5) gX I (cO 0 I I)) (lU (eN aU I) (yE I (lM I (yC I (lY I I I (eQ I I) (yP I (lM I (yC I (yC I (SL.go (gT I I I dC) (cL call16 I (nI E g14 _ _ _ _ _ hP14 hW dC dC dC dC)) dC ?_)))))))))))));rintro _ _ _ ⟨rfl,rfl,rfl⟩;rw[show decide (([[[2,0],[2,0]],[[1,0],[1,0]]]:List (List (List Int)))=[[[2,0],[2,0]],[[1,0],[1,0]]])=true from zf2 rfl];refine yP I (lM I (yC I (lY I I I (eQ I I) (yP I (lM I (yC I (SL.go (gT I I I dC) (bS sty25 I I I (ab sB) dC) dC ?_)))))));rintro _ _ _ ⟨b54,rfl,rfl,rfl⟩;refine zb3 fun g15 hle15 hb54=>?_;have hW54:cd g15 (.slice (some ⟨b54,0,none⟩) 2 2) [1,1]:=SlA.lit hb54 rfl rfl;have hB15:=za3 hB14 hle15;refine SL.go (gT I I I dC) (cL call17 I (qD E g15 _ _ _ _ _ hB15 hW54 dC)) dC ?_;rintro _ _ _ ⟨rfl,rfl,rfl⟩;rw[show decide (([1,1]:List Int)=[1,1])=true from zf2 rfl];refine yP I (lM I (SL.gq (gT I I I dC) (qV 1 bZ aH I I I) dC (SL.go (gT I I I dC) (bS sty25 I I I (ab ⟨I,trivial⟩) dC) dC ?_)));rintro _ _ _ ⟨b59,rfl,rfl,rfl⟩;refine zb3 fun g16 hle16 hb59=>?_;refine SL.go (gT I I I dC) (bS sty25 I I I (ab ⟨I,trivial⟩) dC) dC ?_;rintro _ _ _ ⟨b60,rfl,rfl,rfl⟩;refine zb3 fun g17 hle17 hb60=>?_;refine SL.go (gT I I I dC) (bS sty22 I I I (ab sB) dC) dC ?_;rintro _ _ _ ⟨b61,rfl,rfl,rfl⟩;refine zb3 fun g18 hle18 hb61=>?_;have hT2:aJ g18 (.slice (some ⟨b61,0,none⟩) 2 2) [[4],[5]]:=⟨[eo (.slice (some ⟨b59,0,none⟩) 1 1),eo (.slice (some ⟨b60,0,none⟩) 1 1)],SlA.lit hb61 rfl rfl,⟨SlA.lit ((hle17.trans hle18) _ _ hb59) rfl rfl,SlA.lit (hle18 _ _ hb60) rfl rfl,trivial⟩⟩;have hu18:=hu14.mono (hle15.trans (hle16.trans (hle17.trans hle18)));refine SL.go (gT I I I dC) (cL call23 I (nG E hE g18 _ _ _ nK [[4],[5]] hu18 ly oO hT2 dC dC)) dC ?_;rintro _ g19 _ ⟨rfl,hle19,rfl⟩;rw[B6];refine lY I I I (eQ I I) (yP I (aT I (rE (dR (s':=s) uR ?_))));exact za6 (.inl I) results7 I ⟨I,I,hle1.trans (hle2.trans (hle3.trans (hle4.trans (hle5.trans (hle6.trans (hle7.trans (hl14.trans (hle15.trans (hle16.trans (hle17.trans (hle18.trans hle19)))))))))))⟩
def y7 (y:Int):Int:=if bC y 2=0 then 4 else 5
theorem tG (y:Int):([4,5]:List Int)[(bC y 2).toNat]?=some (y7 y):=by
 have:=aW y 2 dC dC;unfold y7
 rcases (by omega:bC y 2=0∨bC y 2=1) with e | e
 ·rw[e]; rfl
 ·rw[e]; rfl
def eR (kd:Int)(ls:List (List Int))(y:Int):List Cl:=if (jh kd ls y).length>20 then jh (y7 y) [] (bC y 8) else jh kd ls y
def il (kd:Int)(ls:List (List Int))(y:Int):List Cl:=if (eR kd ls y).length>20 then bA [[0,1,2],[1,2,3],[0,3]] else eR kd ls y
theorem Tryz.buildK24 (a b:Int)(w:World):(Instr.build 24 #[(0,vi a),(2,vi b)]).run Tryz.prog w = .ok (.agg #[vi a,.slice none 0 0,vi b]) w:=by
 have h1:∀ n,(vi n).cells = #[vi n]:=fun _=>rfl;simp[Instr.build,Instr.fill,h1];rfl
theorem u4 (E:World)(g:PH)(s:Own)(v:Value)(kd y:Int)(ls:List (List Int))(hv:aJ g v ls) :
  Ctr Tryz.prog E 8 #[.agg #[vi kd,v,vi y]] g s (fun r g' s'=>s=s'∧Le g g'∧∃ u,r = .agg #[u]∧ar g' u (il kd ls y)):=by
 obtain ⟨p,n,c,rfl⟩:∃ p n c,v = .slice p n c:=by
  obtain ⟨rs0,hrs0,_⟩:=hv;obtain ⟨p,c,rfl⟩:=za2 hrs0;exact⟨_,_,_,I⟩
 have hy:=aW y 2 dC dC;have hf1:=(kE kd ls y).1;have hf2:=(kE (y7 y) [] (bC y 8)).1;refine za9 (args:=[.agg #[vi kd,.slice p n c,vi y]]) func8 I ntmps8 (bE I) ?_;refine rZ (bW (bO I) fun b1=>?_);refine bW (aL zk2) fun b2=>?_;refine tZ (rZ (lK (qV 1 isAgg24 sizeOf24 I I I) (lW (cL call27 I (qB E g _ _ kd y ls hv)) ?_)));rintro _ g1 _ ⟨rfl,hle1,u1,rfl,hu1⟩;obtain ⟨q1,d1,rfl⟩:=hu1.form;refine bW (aL zk2) fun b3=>?_;refine oZ (sK 0 aH I I I I I ⟨I,trivial⟩) (tZ ?_);refine SC.cut (ι:=PH×Option Addr×Nat) (fun i=>[(2,pp b2 0),(3,pp b3 0)]) (fun i=>i.1) (fun i=>pt b3 (.cells #[.slice i.2.1 (eR kd ls y).length i.2.2] 30 (0,0))::pt b2 (.cells #[.slice none 0 0] 30 (0,0))::pt b1 (.cells #[vi kd,.slice p n c,vi y] 24 (0,0))::s) (fun i=>Le g1 i.1∧ar i.1 (.slice i.2.1 (eR kd ls y).length i.2.2) (eR kd ls y)) ?_ ?_
 ·refine rZ (lU (fA fB I dZ I) (lK (qL (v:=.slice q1 (jh kd ls y).length d1) gX I (cO 0 I I)) (lU (eN aU I) (lU (gR I I) (tZ ?_)))));refine iP I (fun h20=>?_) (fun h20=>?_)
  ·have hs2:eR kd ls y=jh (y7 y) [] (bC y 8):=by unfold eR; rw[zf4 oM]
   rw[hs2];refine SC.drawX [11] zd6 kR ?_;refine SX.u (i:=1) I kR (fA jJ I zT3 I) dC (SX.q (i:=2) I kR (qL (v:=vi y) iT3 I (cO 2 I I)) dC (SX.u (i:=6) I kR (fA jJ I zT3 I) dC (SX.q (i:=7) I kR (qL (v:=vi y) iT3 I (cO 2 I I)) dC ?_)))
   repeat' (first
    | (refine SB.o (i:=0) I (bS sty25 I I I (ab sB) dC) dC (.inr iR) ?_; rintro _ _ _ ⟨b10,rfl,rfl,rfl⟩; refine SX.freeze fun g2 hle2 hb10=>?_; have h10:SlA encInt g2 (.slice (some ⟨b10,0,none⟩) 2 2) [4,5]:=SlA.lit hb10 rfl rfl; refine SX.u (i:=4) I kD (iA am zT3 I I I oM (show bC y 2<((2:Nat):Int) by omega)) dC ?_)
    | (refine SB.o (i:=0) I (bS sty25 I I I (ab sB) dC) dC (.inr iR) ?_; rintro _ _ _ ⟨b10,rfl,rfl,rfl⟩; refine SX.freeze fun g2 hle2 hb10=>?_; have h10:SlA encInt g2 (.slice (some ⟨b10,0,none⟩) 2 2) [4,5]:=SlA.lit hb10 rfl rfl)
    | (refine SB.o (i:=3) I (cL iS I (aR E _ _ y 2 dC)) dC (.inr iR) ?_; rintro _ _ _ ⟨rfl,rfl,rfl⟩; refine SX.u (i:=4) I kD (iA am zT3 I I I oM (show bC y 2<((2:Nat):Int) by omega)) dC ?_)
    | (refine SB.o (i:=3) I (cL iS I (aR E _ _ y 2 dC)) dC (.inr iR) ?_; rintro _ _ _ ⟨rfl,rfl,rfl⟩)
    | (refine SB.o (i:=5) I (SQ.sof (eB iT3 I (za5 h10) (tG y) I)) dC (.inr iR) ?_; rintro _ _ _ ⟨rfl,rfl,rfl⟩; refine SX.u (i:=9) I kD (za1 I (buildK24 _ _)) dC ?_)
    | (refine SB.o (i:=5) I (SQ.sof (eB iT3 I (za5 h10) (tG y) I)) dC (.inr iR) ?_; rintro _ _ _ ⟨rfl,rfl,rfl⟩)
    | (refine SB.o (i:=8) I (cL iS I (aR E _ _ y 8 dC)) dC (.inr iR) ?_; rintro _ _ _ ⟨rfl,rfl,rfl⟩; refine SX.u (i:=9) I kD (za1 I (buildK24 _ _)) dC ?_)
    | (refine SB.o (i:=8) I (cL iS I (aR E _ _ y 8 dC)) dC (.inr iR) ?_; rintro _ _ _ ⟨rfl,rfl,rfl⟩)
    | (refine SB.o (i:=8) I (cL iS I (aR E _ _ y 8 dC)) dC (.inr iR) ?_; rintro _ _ _ ⟨rfl,rfl,rfl⟩)
    | (refine SB.o (i:=10) rfl (cL call27 rfl (qB E g2 _ _ (y7 y) (bC y 8) [] ⟨[],zb8 _ _,trivial⟩)) dC (.inr (by rintro _ g3 _ ⟨rfl,hle3,u3,rfl,hu3⟩; exact⟨by exact Le.trans (by assumption) (by assumption),(by exact .refl _)⟩)) ?_; rintro _ g3 _ ⟨rfl,hle3,u3,rfl,hu3⟩; obtain ⟨q3,d3,rfl⟩:=hu3.form)
    | (refine SB.on (i:=11) I (sK 0 aH I I I I I ⟨I,trivial⟩) (.inl dC) ?_; rintro _ _ _ ⟨rfl,rfl⟩)
    | refine SX.br2 0 3 kD ?_ ?_
    | refine zd1 3 kD ?_
    | refine SX.br2 5 8 kD ?_ ?_
    | refine zd1 8 kD ?_
    | refine zd1 10 kD ?_
    | refine zd1 11 kD ?_
    | refine zd1 5 kD ?_
    | refine SX.br2 0 8 kD ?_ ?_
    | refine zd1 0 kD ?_
    | (refine SX.nil kD ?_; exact za7 (g3,q3,d3) sB I I ⟨hle2.trans hle3,hu3⟩))
  ·have hs2:eR kd ls y=jh kd ls y:=by unfold eR; rw[zf3 oM]
   rw[hs2];refine kP ?_;exact za7 (g1,q1,d1) sB I I ⟨zb7 _,hu1⟩
 rintro ⟨g3,q3,d3⟩ ⟨hle3,hu3⟩;dsimp only at hle3 hu3 ⊢;have hf2:(eR kd ls y).length<1099511627776:=by
  have h2:=(kE (y7 y) [] (bC y 8)).1;unfold eR;split <;> omega
 refine sQ (rZ (lU (fA fB I dZ I) (lK (qL (v:=.slice q3 (eR kd ls y).length d3) gX I (cO 0 I I)) (lU (eN aU I) (lU (gR I I) (tZ ?_))))));refine iP I (fun h21=>?_) (fun h21=>?_)
 ·have hs:il kd ls y=bA [[0,1,2],[1,2,3],[0,3]]:=by unfold il; rw[zf4 oM]
  refine rG (lW (bS sty25 I I I (ab sB) dC) ?_);rintro _ _ _ ⟨b25,rfl,rfl,rfl⟩;refine zb3 fun g4 hle4 hb25=>?_;refine lW (bS sty25 I I I (ab sB) dC) ?_;rintro _ _ _ ⟨b26,rfl,rfl,rfl⟩;refine zb3 fun g5 hle5 hb26=>?_;refine lW (bS sty25 I I I (ab sB) dC) ?_;rintro _ _ _ ⟨b27,rfl,rfl,rfl⟩;refine zb3 fun g6 hle6 hb27=>?_;refine lW (bS sty22 I I I (ab sB) dC) ?_;rintro _ _ _ ⟨b28,rfl,rfl,rfl⟩;refine zb3 fun g7 hle7 hb28=>?_;have hlit:aJ g7 (.slice (some ⟨b28,0,none⟩) 3 3) [[0,1,2],[1,2,3],[0,3]]:=⟨[eo (.slice (some ⟨b25,0,none⟩) 3 3),eo (.slice (some ⟨b26,0,none⟩) 3 3),eo (.slice (some ⟨b27,0,none⟩) 2 2)],SlA.lit hb28 rfl rfl,⟨SlA.lit ((hle5.trans (hle6.trans hle7)) _ _ hb25) rfl rfl,SlA.lit ((hle6.trans hle7) _ _ hb26) rfl rfl,SlA.lit (hle7 _ _ hb27) rfl rfl,trivial⟩⟩;refine lW (cL call21 I (aC E g7 _ _ _ hlit dC dC)) ?_;rintro _ g8 _ ⟨rfl,hle8,u8,rfl,hu8⟩;obtain ⟨q8,d8,rfl⟩:=hu8.form;refine oZ (sK 0 aH I I I I I ⟨I,trivial⟩) (tZ (rZ (lK (qV 0 bZ aH I I I) (oZ (sK 1 aH I I I I I ⟨I,trivial⟩) (tZ (rE ?_))))));exact ST.retCD 1 s (.inl I) results8 I bZ aH I I uR ⟨I,hle1.trans (hle3.trans (hle4.trans (hle5.trans (hle6.trans (hle7.trans hle8))))),_,I,by rw[hs]; exact hu8⟩
 ·have hs:il kd ls y=eR kd ls y:=by unfold il; rw[zf3 oM]
  refine kP (tN (rZ (lK (qV 0 bZ aH I I I) (oZ (sK 1 aH I I I I I ⟨I,trivial⟩) (tZ (rE ?_))))));exact ST.retCD 1 s (.inl I) results8 I bZ aH I I uR ⟨I,hle1.trans hle3,_,I,by rw[hs]; exact hu3⟩
structure Sml (l:List Cl):Prop where
 rt:Rt l
 few:l.length≤20
 ids:∀ c∈l,fI c.id
theorem Cp:bA [[0,1,2],[1,2,3],[0,3]]=[⟨1,0,[]⟩,⟨2,0,[]⟩,⟨3,0,[]⟩,⟨4,0,[]⟩,⟨5,1,[⟨1,-1⟩,⟨2,1⟩]⟩,⟨6,1,[⟨1,-1⟩,⟨3,1⟩]⟩,⟨7,1,[⟨1,-1⟩,⟨4,1⟩]⟩,⟨8,1,[⟨2,-1⟩,⟨3,1⟩]⟩,⟨9,1,[⟨2,-1⟩,⟨4,1⟩]⟩,⟨10,1,[⟨3,-1⟩,⟨4,1⟩]⟩,⟨11,2,[⟨5,1⟩,⟨6,-1⟩,⟨8,1⟩]⟩,⟨12,2,[⟨8,1⟩,⟨9,-1⟩,⟨10,1⟩]⟩]:=by
 have h123:bI [1,2,3]=[1,2,3]:=by
  unfold bI;rw[iJ dC];rfl
 have h03:bI [0,3]=[0,3]:=by
  unfold bI;rw[iJ dC];rfl
 simp only[bA,az,zD,h123,h03];rfl
theorem xG (kd:Int)(ls:List (List Int))(y:Int):Sml (il kd ls y):=by
 have key:∀ k m z,(jh k m z).length≤20→Sml (jh k m z):=fun k m z h=>⟨n9 k m z,h,z6 k m z⟩;unfold il;split
 ·have hr:=mX [[0,1,2],[1,2,3],[0,3]];rw[Cp] at hr ⊢;have h0:=kY (zd5 Prod.snd hr);rw[show aa _=_ from by kernel_rfl] at h0;exact⟨h0,by decide,by unfold fI; decide⟩
 ·rename_i h;unfold eR at h ⊢;split
  ·rename_i h1;rw[zf4 h1] at h;exact key _ _ _ oM
  ·rename_i h1;exact key _ _ _ oM
open Go.ChangeShapes Go.WideShapes Go.ChangeAt Go.RowKit
set_option maxRecDepth 100000
section
variable {H:Type}{enc:TypeId×Value→H}{W:World}{base:Nat}{spare:Nat→Bool}{hd:Bool}
theorem Ab {v:Value}{d:DataW H}{p:List MemPlace}(h:DataW.Trod enc Tryz.prog W base spare hd 25 v d p)(hv:v.cells = #[v]):∃ l:List Int,cd (tF W) v l:=by
 obtain ⟨fuel,hf⟩:=h;rw[hv] at hf;obtain ⟨l,r,-,hl⟩:=w8 hf;exact⟨l,hl⟩
end
open Go.ChangeShapes Go.WideShapes Go.ChangeAt Go.RowKit
set_option maxRecDepth 100000
section
variable {H:Type}{enc:TypeId×Value→H}{W:World}{base:Nat}{spare:Nat→Bool}{hd:Bool}
theorem Tryz.cells56:Tryz.prog.cellsOf 56=2:=by kernel_rfl
theorem Cc {r:Reach}{b0:Nat}{v:Value}{d:DataW H}{p:List MemPlace}(hv:Value.okWide Tryz.prog W r b0 56 v)(h:DataW.Trod enc Tryz.prog W base spare hd 56 v d p) :
  ∃ a b:Int,v = .agg #[vi a,vi b]∧fI a∧fI b:=by
 obtain ⟨cs,rfl,hsz⟩:=rH underlying56 hv;rw[cells56] at hsz;obtain ⟨l⟩:=cs
 match l,hsz with
 | [c0,c1],_ =>
  obtain ⟨fuel,hf⟩:=h;obtain ⟨xs,m,_,_,_,hl,hel⟩:=DataW.trod_array underlying56 (show DataW.trod enc Tryz.prog W base spare hd fuel 56 [c0,c1]=some (d,p) by simpa [Value.cells] using hf);have h0:=hel 0 dC;have h1:=hel 1 dC;rw[cells3,gE oM] at h0 h1;obtain ⟨a,e0,_,w0⟩:=DataW.trod_int uT3 h0;obtain ⟨b,e1,_,w1⟩:=DataW.trod_int uT3 h1;simp at e0 e1;subst e0 e1;exact⟨a,b,I,AX w0,AX w1⟩
end
abbrev Rws:=List (Sv×List Int)
def gf (ts:Rws):Own:=ts.map fun t=>rowA encInt 3 (.slice t.1.p t.1.n t.1.c) t.2
theorem xN {ts:Rws}{j:Nat}{v:Sv}{l:List Int}(h:ts[j]?=some (v,l))(s:Own):(gf ts++s)[j]?=some (rowA encInt 3 (.slice v.p v.n v.c) l):=by
 have hj:=(ze8.1 h).1;rw[zg5 (by simpa [gf] using hj)];simp[gf,h]
theorem xM {ts:Rws}{j:Nat}{v v':Sv}{l l':List Int}(h:ts[j]?=some (v,l))(s:Own):(gf ts++s).set j (rowA encInt 3 (.slice v'.p v'.n v'.c) l')=gf (ts.set j (v',l'))++s:=by
 have hj:=(ze8.1 h).1;rw[List.set_append_left _ _ (by simpa [gf] using hj)];simp[gf,List.map_set]
theorem qv {E:World}{g:PH}{w:World}(hd:Own):∀ (n:Nat) (s:Own),At E g (hd++s) w→At E g (hd++(gf (List.replicate n (⟨none,0,0⟩,[]))++s)) w
 | 0,s,h=>h
 | n+1,s,h=>by
  have h1:=(qv hd n s h).nilRow 3 1;rw[List.replicate_succ];exact h1.perm List.perm_middle.symm
theorem freezeTs {E:World}{w:World}:∀ (ts:Rws) (g:PH) (s:Own),At E g (gf ts++s) w→∃ g',Le g g'∧At E g' s w∧aG (bU g') (ts.map Prod.snd) (ts.map Prod.fst)
 | [],g,s,h=>⟨g,zb7 g,h,trivial⟩
 | (v,l)::r,g,s,h=>by
  have h':At E g (row 3 1 (.slice v.p v.n v.c) l.length (l.flatMap encInt.enc)::(gf r++s)) w:=h;obtain ⟨g1,hl1,h1,h2⟩:=h'.freezeRow;obtain ⟨g2,hl2,h3,h4⟩:=freezeTs r g1 s h1;exact⟨g2,hl1.trans hl2,h3,Sl.mono h2 hl2,h4⟩
theorem SC.freezeTs {P:Program}{N:Nat}{E:World}{c:Code}{Q:Exit→Act→World→Prop}{f:Fr}{g:PH}{s:Own}{ts:Rws}(h:∀ g',Le g g'→aG (bU g') (ts.map Prod.snd) (ts.map Prod.fst)→SC P N E c Q f g' s):SC P N E c Q f g (gf ts++s):=fun a w ha hw=>by
 obtain ⟨g',h1,h2,h3⟩:=Go.Proofs.YtcfkpajlakidbaaGreat.freezeTs ts g s hw;exact h g' h1 h3 a w ha h2
theorem Bl {ts:Rws}{j:Nat}{v:Sv}{l:List Int}(h:ts[j]?=some (v,l)){hd:Own}(s:Own){x:Ent}(hh:hd.length=2):((hd++(gf ts++s)).set (j+2) x)[j+2]?=some x:=by
 have hj:=(ze8.1 h).1;rw[List.getElem?_set_self];simp only[zd8,gf,zd9];omega
def TIn (ts:Rws)(x:Int):Prop:=∃ t∈ts,x∈t.2
theorem TIn.set {ts:Rws}{j:Nat}{v v':Sv}{l:List Int}(h:ts[j]?=some (v,l))(x:Int){y:Int}(hy:TIn ts y):TIn (ts.set j (v',l++[x])) y:=by
 obtain ⟨t,ht,h2⟩:=hy;have hj:=(ze8.1 h).1;obtain ⟨i,hi,e⟩:=List.mem_iff_getElem.1 ht;by_cases e2:j=i
 ·subst e2;refine⟨(v',l++[x]),List.mem_set hj _,?_⟩;obtain ⟨_,e3⟩:=ze8.1 h;rw[← e,e3] at h2;simp only[ze6];exact .inl h2
 ·refine⟨t,?_,h2⟩;have:(ts.set j (v',l++[x]))[i]?=some t:=by rw[List.getElem?_set_ne e2,gE hi,e]
  exact zf5 this
theorem TIn.new {ts:Rws}{j:Nat}{v v':Sv}{l:List Int}(h:ts[j]?=some (v,l))(x:Int):TIn (ts.set j (v',l++[x])) x :=
 ⟨(v',l++[x]),List.mem_set (ze8.1 h).1 _,by simp⟩
structure TOk (l:List Cl)(T:List (List Int)):Prop where
 pos:1≤T.length
 few:T.length≤4
 few3:l.length>12→T.length≤3
 mem:∀ t∈T,∀ x∈t,x∈gP l
 len:∀ t∈T,t.length≤4 * (gP l).length
 cov:∀ x∈gP l,∃ t∈T,x∈t
theorem B7 {k n:Nat}(hk:k<n)(hn:n≤4):IntKind.i64.wrap (1 * 2 ^ min ((k:Nat):Int).toNat IntKind.i64.bits)=((2 ^ k:Nat):Int):=by
 have key:∀ k,k<5→IntKind.i64.wrap (1 * 2 ^ min ((k:Nat):Int).toNat IntKind.i64.bits)=((2 ^ k:Nat):Int):=by decide +kernel
 exact key k oM
theorem Au {n:Nat}(hn:n≤4):IntKind.i64.wrap (1 * 2 ^ min ((n:Nat):Int).toNat IntKind.i64.bits)=((2 ^ n:Nat):Int):=by
 have key:∀ k,k<5→IntKind.i64.wrap (1 * 2 ^ min ((k:Nat):Int).toNat IntKind.i64.bits)=((2 ^ k:Nat):Int):=by decide +kernel
 exact key n oM
theorem B8 {M k:Nat}(hM:M<16)(hk:k<4):IntKind.i64.wrap (BitVec.ofInt IntKind.i64.bits (((M:Nat):Int).fdiv (2 ^ min ((k:Nat):Int).toNat IntKind.i64.bits)) &&& BitVec.ofInt IntKind.i64.bits 1).toNat=if M.testBit k then 1 else 0:=by
 have key:∀ M,M<16→∀ k,k<4→IntKind.i64.wrap (BitVec.ofInt IntKind.i64.bits (((M:Nat):Int).fdiv (2 ^ min ((k:Nat):Int).toNat IntKind.i64.bits)) &&& BitVec.ofInt IntKind.i64.bits 1).toNat=if M.testBit k then 1 else 0:=by decide +kernel
 exact key M hM k hk
theorem As {M n:Nat}(h0:1≤M)(h1:M<2 ^ n)(hn:n≤4):∃ k,k<n∧M.testBit k=true:=by
 have key:∀ n,n<5→∀ M,M<2 ^ n→1≤M→∃ k,k<n∧M.testBit k=true:=by decide +kernel
 exact key n oM M h1 h0
theorem zP {n:Nat}(hn:n≤4)(h0:1≤n):2≤2 ^ n∧2 ^ n≤16:=by
 have key:∀ n,n<5→1≤n→2≤2 ^ n∧2 ^ n≤16:=by decide
 exact key n oM h0
theorem uU (E:World)(g:PH)(s:Own)(v nv:Value)(l:List Cl)(sd:Int)(ns:List Int)(hv:ar g v l)(hf:dM l)(hl:(ae l).length≤1000)(hn:cd g nv ns) :
  Ctr Tryz.prog E 9 #[.agg #[v],vi sd,nv] g s (fun r g' s'=>s=s'∧Le g g'∧∃ T,aJ g' r T∧TOk l T):=by
 obtain ⟨vp,vc,rfl⟩:=hv.form;obtain ⟨np,nc,rfl⟩:=za2 hn;have hll:=hf.1;have hm4:=aW sd 4 dC dC;have hm3:=aW sd 3 dC dC;have htl:(gP l).length≤1000:=by
  unfold gP;rw[zd9];exact zj5 (zc1 _ _) hl
 refine za9 (args:=[.agg #[.slice vp l.length vc],vi sd,.slice np ns.length nc]) func9 I ntmps9 (bE I) ?_;refine rZ (bW (bO I) fun b3=>?_);refine aT I (sW I (lW (cL iS I (aR E g _ sd 4 dC)) ?_));rintro _ _ _ ⟨rfl,rfl,rfl⟩;refine yD I (aT I ?_);refine SC.cut (ι:=Nat) (fun n=>[(2,.slice np ns.length nc),(3,pp b3 0),(7,vi n)]) (fun _=>g) (fun _=>pt b3 (.cells #[.slice vp l.length vc] 30 (0,0))::s) (fun n=>1≤n∧n≤4∧(l.length>12→n≤3)) ?_ ?_
 ·refine rZ (lU (fA fB I dZ I) (lK (qL (v:=.slice vp l.length vc) gX I (cO 0 I I)) (lU (eN aU I) (lU (gR I I) (tZ ?_)))));refine iP I (fun h12=>?_) (fun h12=>?_)
  ·refine rG (lM I (lW (cL iS I (aR E g _ sd 3 dC)) ?_));rintro _ _ _ ⟨rfl,rfl,rfl⟩;refine lU (SU.eq (v':=vi (1+(bC sd 3).toNat:Nat)) (aD I I oM) (zd5 vi oM)) (lA I (nL ?_));exact za7 (1+(bC sd 3).toNat) sB I I ⟨oM,oM,fun _=>by omega⟩
  ·refine kP ?_;refine za7 (1+(bC sd 4).toNat) ⟨I,I,?_,trivial⟩ I I ⟨oM,oM,fun h=>by omega⟩;show some (vi (1+bC sd 4))=_;exact zd5 (fun x=>some (vi x)) oM
 rintro n ⟨hn1,hn4,hn3⟩;have hpw:=zP hn4 hn1;refine sW I (lW (mK a7 ⟨none,0,0⟩ sty22 I I I oM oM) ?_);rintro _ _ _ ⟨bt,rfl,rfl,rfl⟩;refine aT I (rZ (lK (qV 1 bZ aH I I I) (lW (cL call28 I (rB E g _ _ l hv hf)) ?_)));rintro _ g1 _ ⟨rfl,hle1,hA⟩;obtain ⟨ap,ac,rfl⟩:=za2 hA;refine aT I (sQ (rZ (aT I (bK ?_))));have hTok:∀ ts:Rws,ts.length=n→(∀ t∈ts,t.2.length≤4 * (gP l).length∧∀ x∈t.2,x∈gP l)→(∀ j<(gP l).length,∀ x,(gP l)[j]?=some x→TIn ts x)→TOk l (ts.map Prod.snd):=fun ts h1 h2 h3=>⟨by rw[zd9]; omega,by rw[zd9]; omega,fun h=>by rw[zd9]; have:=hn3 h; omega,fun t ht=>by
  obtain ⟨u,hu,rfl⟩:=ze5.1 ht;exact (h2 u hu).2,fun t ht=>by
  obtain ⟨u,hu,rfl⟩:=ze5.1 ht;exact (h2 u hu).1,fun x hx=>by
  obtain ⟨j,hj,e⟩:=List.mem_iff_getElem.1 hx;obtain ⟨t,ht,hxt⟩:=h3 j hj x (by rw[gE hj,e]);exact⟨t.2,ze5.2 ⟨t,ht,I⟩,hxt⟩⟩
 generalize gP l=A at *;refine SC.to (fun w hw=>qv [rowA a7 25 (.slice (some ⟨bt,0,none⟩) n n) (List.replicate n ⟨none,0,0⟩),pt b3 (.cells #[.slice vp l.length vc] 30 (0,0))] n s hw) ?_;refine oP (ι:=Nat×Rws) (fun z=>[(2,.slice np ns.length nc),(7,vi n),(8,.slice (some ⟨bt,0,none⟩) n n),(9,.slice ap A.length ac),(10,vi z.1)]) (fun _=>g1) (fun z=>rowA a7 25 (.slice (some ⟨bt,0,none⟩) n n) (z.2.map Prod.fst)::pt b3 (.cells #[.slice vp l.length vc] 30 (0,0))::(gf z.2++s)) (fun z=>z.1≤A.length∧z.2.length=n∧(∀ t∈z.2,t.2.length≤4 * z.1∧∀ x∈t.2,x∈A)∧∀ j<z.1,∀ x,A[j]?=some x→TIn z.2 x) (fun z=>A.length - z.1) (0,List.replicate n (⟨none,0,0⟩,[])) sB I (by dsimp only; rw[List.map_replicate]; rfl) ⟨ze9 _,by dsimp only; rw[List.length_replicate],fun t ht=>by rw[(List.mem_replicate.1 ht).2]; exact⟨ze9 _,by simp⟩,fun j hj=>absurd hj (Nat.not_lt_zero j)⟩ ?_;rintro ⟨i,ts⟩ ⟨hi,htn,htm,htc⟩;dsimp only at hi htn htm htc ⊢;refine sQ (sW I (lM I (lU (eN am I) (yL I (tZ ?_)))));refine iP I (fun hlt=>?_) (fun hlt=>?_)
 ·have hiA:i<A.length:=oM;have hgi:A[((i:Nat):Int).toNat]?=some A[i]:=gE hiA;have hgi0:A[i]?=some A[i]:=gE hiA;have hAm:A[i]∈A:=gM hiA;have hbA:=za4 hA oM;generalize A[i]=x at *;have hk:i % n<n:=Nat.mod_lt _ oM;have hrem:((i:Nat):Int).tmod ((n:Nat):Int)=((i % n:Nat):Int):=(Int.ofNat_tmod i n).symm;refine kP (tN (sQ (bK (sW I (lM I (lU (SU.eq (v':=vi (i % n:Nat)) (zd2 I I oM) (zd5 vi hrem)) (lU (SU.eq (v':=vi (2 ^ (i % n):Nat)) (SU.shl I I oM) (zd5 vi (B7 hk hn4))) (aT I ?_))))))));refine SC.cut (ι:=Int) (fun m=>[(2,.slice np ns.length nc),(7,vi n),(8,.slice (some ⟨bt,0,none⟩) n n),(9,.slice ap A.length ac),(10,vi i),(11,vi m)]) (fun _=>g1) (fun _=>rowA a7 25 (.slice (some ⟨bt,0,none⟩) n n) (ts.map Prod.fst)::pt b3 (.cells #[.slice vp l.length vc] 30 (0,0))::(gf ts++s)) (fun _=>True) ?_ ?_
  ·refine sW I (lU (eN am I) (lU (gR I I) (tZ ?_)));refine iP I (fun hns=>?_) (fun hns=>?_)
   ·have hnl:0<ns.length:=oM;have hr2:((i:Nat):Int).tmod ((ns.length:Nat):Int)=((i % ns.length:Nat):Int):=(Int.ofNat_tmod i _).symm;have hkl:i % ns.length<ns.length:=Nat.mod_lt _ hnl;have hgn:ns[((i % ns.length:Nat):Int).toNat]?=some ns[i % ns.length]:=gE hkl;have hbn:=za4 hn hnl;refine dW [] [(0,2),(1,2),(2,2),(3,2),(4,2),(5,2),(6,1),(7,2),(8,2),(9,2),(10,2),(11,2),(12,2)] zd6 kR ?_;refine yM I (yM I (yM I (pU I (eN am I) (pU I (SU.eq (v':=vi (i % ns.length:Nat)) (zd2 I I oM) (zd5 vi hr2)) (pU I (iA am zT3 I I hbn oM (show ((i % ns.length:Nat):Int)<((ns.length:Nat):Int) by omega)) ?_)))));refine pK I (eB iT3 I (za5 (za3 hn hle1)) hgn I) (yM I (yM I (pU I (eN am I) (pU I (SU.quo I I oM) (pU I (zd4 I I) (pU I (aS I) (pN ?_)))))));exact za7 _ sB I I trivial
   ·refine kP ?_;exact za7 _ sB I I trivial
  rintro m -;have hmr:=aW m (2 ^ n:Nat) oM oM;refine sW I (lM I (lU (SU.eq (v':=vi (2 ^ n:Nat)) (SU.shl I I oM) (zd5 vi (Au hn4))) (lW (cL iS I (aR E g1 _ m (2 ^ n:Nat) oM)) ?_)));rintro _ _ _ ⟨rfl,rfl,rfl⟩;refine aT I ?_;refine SC.cut (ι:=Nat) (fun M=>[(2,.slice np ns.length nc),(7,vi n),(8,.slice (some ⟨bt,0,none⟩) n n),(9,.slice ap A.length ac),(10,vi i),(11,vi M)]) (fun _=>g1) (fun _=>rowA a7 25 (.slice (some ⟨bt,0,none⟩) n n) (ts.map Prod.fst)::pt b3 (.cells #[.slice vp l.length vc] 30 (0,0))::(gf ts++s)) (fun M=>1≤M∧M<2 ^ n) ?_ ?_
  ·refine sW I (yE I (tZ ?_));refine iP I (fun hz=>?_) (fun hz=>?_)
   ·refine rG (lA I (nL ?_));exact za7 1 sB I I ⟨oM,oM⟩
   ·refine kP ?_;refine za7 (bC m (2 ^ n:Nat)).toNat ⟨I,I,I,I,I,?_,trivial⟩ I I ⟨oM,oM⟩;show some (vi (bC m (2 ^ n:Nat)))=_;exact zd5 (fun x=>some (vi x)) oM
  rintro M ⟨hM1,hM2⟩;refine rZ (aT I (bK ?_));refine oP (ι:=Nat×Rws) (fun z=>[(2,.slice np ns.length nc),(7,vi n),(8,.slice (some ⟨bt,0,none⟩) n n),(9,.slice ap A.length ac),(10,vi i),(11,vi M),(12,vi z.1)]) (fun _=>g1) (fun z=>rowA a7 25 (.slice (some ⟨bt,0,none⟩) n n) (z.2.map Prod.fst)::pt b3 (.cells #[.slice vp l.length vc] 30 (0,0))::(gf z.2++s)) (fun z=>z.1≤n∧z.2.length=n∧(∀ t∈z.2,t.2.length≤4 * i+z.1∧∀ x∈t.2,x∈A)∧(∀ j<i,∀ x,A[j]?=some x→TIn z.2 x)∧∀ b<z.1,M.testBit b=true→TIn z.2 x) (fun z=>n - z.1) (0,ts) sB I I ⟨ze9 _,htn,fun t ht=>⟨(htm t ht).1,(htm t ht).2⟩,htc,fun b hb=>absurd hb (Nat.not_lt_zero b)⟩ ?_;clear htn htm htc;rintro ⟨k,us⟩ ⟨hk2,hun,hum,huc,hub⟩;dsimp only at hk2 hun hum huc hub ⊢;refine sQ (sW I (lM I (yL I (tZ ?_))));refine iP I (fun hlt2=>?_) (fun hlt2=>?_)
  ·have hkn:k<n:=oM;have hand:=B8 (M:=M) (k:=k) oM oM;refine kP (tN (sQ (bK (sW I (lM I (lU (SU.shr I I oM) (lU (SU.eq (v':=vi (if M.testBit k then 1 else 0)) (SU.and I I) (zd5 vi hand)) (yE I (tZ ?_)))))))));refine iP I (fun hbit=>?_) (fun hbit=>?_)
   ·have htb:M.testBit k=true:=by
     cases h:M.testBit k with
     | true=>rfl
     | false=>rw[h] at hbit; simp at hbit
    have hku:k<us.length:=oM;have hgk:us[k]?=some us[k]:=gE hku;have hgs:(us.map Prod.fst)[((k:Nat):Int).toNat]?=some us[k].1:=by
     rw[show ((k:Nat):Int).toNat=k from rfl,zh3,hgk];rfl
    have hum1:=hum _ (gM hku);generalize us[k]=u0 at *;obtain ⟨sv,lu⟩:=u0;dsimp only at hgs hum1;refine SC.drawT 2 [13] [(0,2),(1,2),(2,2),(3,2),(4,2),(5,1),(6,2),(7,2),(8,2),(9,1),(10,0),(11,0),(12,2),(13,0)] zd6 kR ?_;refine yM rfl (yM rfl (yM rfl (yM rfl (pU rfl (iA bF cg rfl rfl rfl oM sL) (pK rfl (eB (u:=.slice sv.p sv.n sv.c) dx rfl (zb5 (e:=a7) 0 rfl) hgs rfl) (yM rfl (yM rfl (pU rfl (iA am zT3 rfl rfl hbA oM sL) (pK rfl (eB iT3 rfl (za5 hA) hgi rfl) (SP.o rfl (bS sty25 rfl rfl rfl (ab ⟨rfl,trivial⟩) dC) dC (.inr (by rintro _ _ _ ⟨b78,rfl,rfl,rfl⟩; exact⟨by exact zb7 _,(by exact .cons _ (List.take_sublist _ _))⟩)) ?_))))))))));rintro _ _ _ ⟨b78,rfl,rfl,rfl⟩;refine SP.o rfl (aP (e:=encInt) (l:=lu) (k+2) x sty25 rfl rfl rfl (xN hgk s) rfl oM oM) dC (.inr (by rintro v79 _ _ ⟨rfl,rfl⟩; exact⟨by exact zb7 _,(by exact eK _ _ _ _)⟩)) ?_;rintro v79 _ _ ⟨rfl,rfl⟩;refine zc7 fun ⟨w0,hw0⟩=>?_;obtain ⟨q79,d79,rfl⟩:=ak (e:=encInt) (l:=lu++[x]) (i:=k+2) hw0 (Bl (hd:=[rowA a7 25 (.slice (some ⟨bt,0,none⟩) n n) (us.map Prod.fst),pt b3 (.cells #[.slice vp l.length vc] 30 (0,0))]) hgk s rfl);clear hw0 w0;refine pU I (SU.eq (v':=.pointer (some ⟨bt,0+k * 1,none⟩)) (iA bF cg I I I oM sL) I) (SP.on I (sT (e:=a7) (a:=⟨q79,(lu++[x]).length,d79⟩) (j:=k) 0 cg I I I (by rw[zd9]; omega) I) (.inl dC) ?_);rintro _ _ _ ⟨rfl,rfl⟩;refine pN (bN (tN (rG (lM I (yD I (lA I (nL (dR (s':=rowA a7 25 (.slice (some ⟨bt,0,none⟩) n n) ((us.set k (⟨q79,(lu++[x]).length,d79⟩,lu++[x])).map Prod.fst)::pt b3 (.cells #[.slice vp l.length vc] 30 (0,0))::(gf (us.set k (⟨q79,(lu++[x]).length,d79⟩,lu++[x]))++s)) (by rw[List.map_set,← xM hgk s]; exact .refl _) ?_))))))));exact gA (k+1,(us.set k (⟨q79,(lu++[x]).length,d79⟩,lu++[x]))) sB I I ⟨by dsimp only; omega,by dsimp only; rw[zh6]; exact hun,fun t ht=>by
     dsimp only at ht ⊢
     rcases List.mem_or_eq_of_mem_set ht with h | h
     ·exact⟨by have:=(hum t h).1; omega,(hum t h).2⟩
     ·subst h;refine⟨by dsimp only; rw[zd8,ze1]; omega,fun y hy=>?_⟩
      rcases ze6.1 hy with h | h
      ·exact hum1.2 y h
      ·rw[zh1.1 h]; exact hAm,fun j hj y hy=>TIn.set hgk x (huc j hj y hy),fun b hb hb2=>TIn.new hgk x⟩ (by dsimp only; omega)
   ·have htb:M.testBit k=false:=by
     cases h:M.testBit k with
     | false=>rfl
     | true=>rw[h] at hbit; simp at hbit
    refine kP (bN (tN (rG (lM I (yD I (lA I (nL ?_)))))));exact gA (k+1,us) sB I I ⟨by dsimp only; omega,hun,fun t ht=>⟨by have:=(hum t ht).1; dsimp only; omega,(hum t ht).2⟩,huc,fun b hb hb2=>by
     dsimp only at hb;by_cases e:b=k
     ·rw[e,htb] at hb2; cases hb2
     ·exact hub b oM hb2⟩ (by dsimp only; omega)
  ·have hke:k=n:=oM;subst hke;obtain ⟨b,hb1,hb2⟩:=As hM1 hM2 hn4;have hx:=hub b hb1 hb2;refine xI (tX (tX (bX (bN (tN (rG (lM I (yD I (lA I (nL ?_))))))))));exact gA (i+1,us) sB I I ⟨by dsimp only; omega,hun,fun t ht=>⟨by have:=(hum t ht).1; dsimp only; omega,(hum t ht).2⟩,fun j hj y hy=>by
    dsimp only at hj;by_cases e:j=i
    ·subst e;rw[hgi0] at hy;injection hy with hy
     rw[← hy];exact hx
    ·exact huc j oM y hy⟩ (by dsimp only; omega)
 ·have hie:i=A.length:=oM;subst hie;have hok:=hTok ts htn htm htc;have hsl:(ts.map Prod.fst).length=n:=by rw[zd9]; exact htn
  refine fS fun g2 hle2 hs2=>?_;refine SC.drop (.cons _ (.refl _)) (SC.freezeTs fun g3 hle3 hall=>?_);refine xI (tX (tX (bX (tN (sW I (aT I (rE ?_)))))));exact za6 (.inl I) results9 I ⟨I,hle1.trans (hle2.trans hle3),ts.map Prod.snd,⟨ts.map Prod.fst,Sl.mono hs2 hle3,hall⟩,hok⟩
theorem gx {l:List Cl}{d:Int}(h:∀ c∈l,c.dim≤d):∀ c∈aa l,c.dim≤d:=fun c hc=>by
 obtain ⟨x,hx,rfl⟩:=ze5.1 hc;exact h x ((cQ _ _).1 hx)
theorem zC (x:List Int):(bI x).length≤x.length:=by
 unfold bI;exact zj5 (gV _ _) (by rw[eL]; exact lR _)
theorem jx {n:Nat}:∀ {ls all out:List (List Int)},(∀ x∈all,x.length≤n)→(∀ x∈ls,x.length≤n)→az all ls=some out→∀ x∈out,x.length≤n
 | [],all,out,h1,_,h=>by
  simp only[az,zg1] at h;subst h;exact h1
 | s::r,all,out,h1,h2,h=>by
  have hr:∀ x∈r,x.length≤n:=fun x hx=>h2 x (by simp[hx]);unfold az at h;split at h
  ·exact jx h1 hr h
  ·split at h
   ·cases h
   ·refine jx (fun x hx=>?_) hr h
    rcases (fz _ _ _).1 hx with k | k
    ·exact h1 x k
    ·have k1:=((fL _ _).1 k).1.length_le;have k2:=zC s;have k3:=h2 s (by simp);omega
theorem fl {ls:List (List Int)}{n:Nat}(h:∀ x∈ls,x.length≤n):∀ c∈bA ls,c.dim≤(n:Int) - 1:=by
 unfold bA;cases hs:az [] ls with
 | none=>intro c hc; cases hc
 | some all =>
  refine gx fun c hc=>?_;obtain ⟨p,hp,rfl⟩:=ze5.1 hc;have:=jx (n:=n) (by simp) h hs p.1 (List.fst_mem_of_mem_zipIdx hp);show (p.1.length:Int) - 1≤_;omega
theorem fN {a b:List Cl}{m n:Int}(ha:∀ c∈a,c.dim≤m)(hb:∀ c∈b,c.dim≤n):∀ c∈br a b,c.dim≤m+n:=by
 unfold br;split
 ·intro c hc; cases hc
 ·split
  ·refine gx fun c hc=>?_;obtain ⟨x,hx,hc⟩:=List.mem_flatMap.1 hc;obtain ⟨z,hz,rfl⟩:=ze5.1 hc;have h1:=gx ha x hx;have h2:=gx hb z hz;show x.dim+z.dim≤_;omega
  ·intro c hc; cases hc
theorem xW (n:Nat):∀ c∈rm n,c.dim≤2:=by
 refine gx fun c hc=>?_;unfold dA at hc
 rcases ze6.1 hc with hc | hc
 ·rcases ze6.1 hc with hc | hc
  ·rcases ze6.1 hc with hc | hc
   ·obtain ⟨i,-,rfl⟩:=ze5.1 hc;exact (by decide:(0:Int)≤2)
   ·obtain ⟨i,-,rfl⟩:=ze5.1 hc;exact (by decide:(1:Int)≤2)
  ·rw[zh1.1 hc];exact Int.le_refl _
 ·split at hc
  ·rw[zh1.1 hc];exact Int.le_refl _
  ·cases hc
theorem tQ (ls:List (List Int)):∀ x∈kW ls,x.length≤4:=fun x hx=>by
 obtain ⟨l,-,rfl⟩:=ze5.1 hx;rw[zd9,zd7];omega
theorem yQ (m:Int)(ls:List (List Int))(y:Int):∀ c∈me m ls y,c.dim≤3:=by
 have up:∀ {l:List Cl} {d:Int},(∀ c∈l,c.dim≤d)→d≤3→∀ c∈l,c.dim≤3:=fun h1 h2 c hc=>by
  have:=h1 c hc;omega
 have hsf:=(nO y).2.2;have e1:∀ c∈bA [[0,1]],c.dim≤((2:Nat):Int) - 1:=fl dC;unfold me;split
 ·exact up (fl hsf) dC
 ·split
  ·exact up (fN (fl (ey _).2) (fl (ey _).2)) dC
  ·split
   ·exact up (xW _) dC
   ·split
    ·exact up (fN (fN e1 e1) e1) dC
    ·split
     ·refine up (fl (n:=4) fun x hx=>?_) dC
      rcases ze6.1 hx with h | h
      ·exact tQ ls x h
      ·have:=hsf x (List.mem_of_mem_take h);omega
     ·exact up (fl (tQ ls)) dC
theorem qC (kd:Int)(ls:List (List Int))(y:Int):∀ c∈jh kd ls y,c.dim≤3:=fun c hc=>by
 obtain ⟨a,ha,rfl⟩:=lV (Ba y) hc;show a.dim≤3;unfold nM at ha;split at ha
 ·have e1:∀ c∈bA [[0,1],[1,2],[0,2]],c.dim≤((2:Nat):Int) - 1:=fl dC;have:=fN e1 e1 a ha;omega
 ·exact yQ _ _ _ a ha
theorem vd (kd:Int)(ls:List (List Int))(y:Int):∀ c∈il kd ls y,c.dim≤3:=by
 unfold il;split
 ·rw[Cp];decide
 ·unfold eR;split
  ·exact qC _ _ _
  ·exact qC _ _ _
theorem qu {l:List Cl}(h:Rt l){c:Cl}(hc:c∈l):c.sides.length≤l.length:=by
 have hf:=h.form c hc;have hn:(c.sides.map ai.cell).Nodup:=by
  rw[List.Nodup,zj3];exact hf.asc.imp fun h=>by omega
 have:=lq (m:=l.map Cl.id) hn fun x hx=>by
  obtain ⟨q,hq,rfl⟩:=ze5.1 hx;obtain ⟨d,hd,-⟩:=hf.found q hq;obtain ⟨h1,h2⟩:=ck hd;exact ze5.2 ⟨d,h1,h2⟩
 rwa [zd9,zd9] at this
theorem rT (L:List Cl)(id:Int):∀ (T:List (List Int)) (k:Nat),(∃ t∈T,id∈ef L t)→tlB L k T id≠0
 | [],_,h=>by obtain ⟨t,ht,_⟩:=h; cases ht
 | t::T,k,h=>by
  unfold tlB;by_cases e:id∈ef L t
  ·rw[zf4 (by simpa using e)];have:=Nat.two_pow_pos k;omega
  ·have:tlB L (k+1) T id≠0:=rT L id T (k+1) (by
    obtain ⟨u,hu,h2⟩:=h
    rcases ze4.1 hu with rfl | hu
    ·exact absurd h2 e
    ·exact⟨u,hu,h2⟩)
   omega
theorem wH {l:List Cl}(h:Rt l){T:List (List Int)}(hT:TOk l T):∀ k:Nat,∀ c∈l,9≤c.dim+k→∃ t∈T,c.id∈ef l t:=by
 intro k;induction k with
 | zero =>
  intro c hc hk;have:=(h.form c hc).dim.2;omega
 | succ k ih =>
  intro c hc hk;by_cases e:im l c.id=true
  ·unfold im at e;obtain ⟨d,hd,h2⟩:=zi8.1 e;obtain ⟨x,hx,h3⟩:=zi8.1 h2;have h3:x.cell=c.id:=zf6 h3;obtain ⟨c',hf,hdim⟩:=(h.form d hd).found x hx;rw[h3,h.find hc] at hf;injection hf with hf
   subst hf;obtain ⟨t,ht,hm⟩:=ih d hd oM;refine⟨t,ht,?_⟩;have:=m8 h t d hd (by simpa using hm) x hx;rw[h3] at this;simpa using this
  ·have hm:c.id∈gP l:=by
    unfold gP;rw[h.tab];refine ze5.2 ⟨c,zg7.2 ⟨hc,?_⟩,I⟩;simpa using e
   obtain ⟨t,ht,hx⟩:=hT.cov _ hm;refine⟨t,ht,(mr l t c.id).2 ⟨c.id,hx,.refl _ ?_⟩⟩;unfold jk;rw[h.find hc];simp
theorem zj {l:List Cl}(h:Rt l){T:List (List Int)}(hT:TOk l T):er l T=0:=by
 have h4:=hT.few;have hf:(T.any fun t=>t.any fun id=>(aO (ae l) id).isNone)=false:=by
  rw[zj4];intro t ht;rw[zi7,zj4];intro x hx;have:=hT.mem t ht x hx;unfold gP at this;obtain ⟨c,hc,rfl⟩:=ze5.1 this;rw[h.tab] at hc ⊢;rw[h.find (zg7.1 hc).1];simp
 have hz:((ae l).any fun c=>decide (tlB (ae l) 0 T c.id=0))=false:=by
  rw[h.tab,zj4];intro c hc;have hd:=(h.form c hc).dim;obtain ⟨t,ht,hm⟩:=wH h hT (9 - c.dim).toNat c hc oM;have:=rT l c.id T 0 ⟨t,ht,hm⟩;simpa using this
 unfold er;rw[h.check,zf3 (by simp),zf3 oM,hf,zf3 (by simp),hz,zf3 (by simp)]
theorem zt (n b:Nat)(hn:n≤4)(hb:b<2 ^ n):(bQ b).length≤2 ^ n - 1:=by
 have key:∀ n,n<5→∀ b,b<2 ^ n→(bQ b).length≤2 ^ n - 1:=by decide +kernel
 exact key n oM b hb
theorem uv {α β:Type}{f:α→List β}{m:Nat}:∀ {q:List α},(∀ x∈q,(f x).length≤m)→(q.flatMap f).length≤q.length * m
 | [],_=>by simp
 | x::q,h=>by
  have h1:=h x (by simp);have h2:=uv (q:=q) fun z hz=>h z (by simp[hz]);rw[zg8,zd8,ze2,Nat.succ_mul];omega
structure Sm3 (l:List Cl):Prop extends Sml l where
 dims:∀ c∈l,c.dim≤3
theorem xH (kd:Int)(ls:List (List Int))(y:Int):Sm3 (il kd ls y):=⟨xG kd ls y,vd kd ls y⟩
theorem An {l:List Cl}(h:Sm3 l){T:List (List Int)}(hT:TOk l T):(cD l T).length≤200:=by
 have h1:(cD l T).length=(nx l T).length:=aq _;have h2:(nx l T).length≤l.zipIdx.length * (2 ^ T.length - 1):=uv fun q _=>by
  rw[zd9];exact zt _ _ hT.few (oz l q.1.id T)
 rw[List.length_zipIdx] at h2;have h3:=h.few;have h4:=hT.few;have h5:=hT.few3;have h6:=hT.pos;rw[h1];refine zj5 h2 ?_;by_cases e:l.length>12
 ·have h7:=h5 e
  rcases (by omega:T.length=1∨T.length=2∨T.length=3) with k | k | k <;> rw[k] <;> omega
 ·rcases (by omega:T.length=1∨T.length=2∨T.length=3∨T.length=4) with k | k | k | k <;> rw[k] <;> omega
theorem Bv {l:List Cl}(h:Sm3 l){T:List (List Int)}(hT:TOk l T):Cov l (tlB l 0 T) T.length :=
 qM h.rt hT.few (by have:=h.few; omega) (fun c hc=>by have:=h.dims c hc; omega) fun c hc=>by have:=qu h.rt hc; have:=h.few; omega
theorem qe {l:List Cl}(h:Sm3 l){T:List (List Int)}(hT:TOk l T){p:Int}(hp:gz p=true):c4 l T p=0:=by
 have hr:Rt (cD l T):=vQ h.rt hT.few (by have:=h.few; omega) (fun c hc=>by have:=h.dims c hc; omega) fun c hc=>by have:=qu h.rt hc; have:=h.few; omega
 have hm:pD (cD l T)=false:=wZ fun d=>zj5 (zc1 _ _) (An h hT);unfold c4;rw[zf3 (by rw[hp]; simp),zj h.rt hT,zf3 (by simp),h.rt.tab,hr.check,hm,zf3 (by simp)]
theorem pZ {α:Type}[DecidableEq α]:∀ l:List α,∃ q,l=q++kT l
 | []=>⟨[],rfl⟩
 | [_]=>⟨[],rfl⟩
 | a::b::l=>by
  unfold kT;split
  ·obtain ⟨q,h⟩:=pZ (b::l);exact⟨a::q,by rw[List.cons_append,← h]⟩
  ·exact⟨[],I⟩
theorem xC {α:Type}[DecidableEq α]{l:List α}{k:Nat}(h:k<(fY l).length):(fY l)[k]?=l[k]?:=by
 obtain ⟨q,hq⟩:=pZ l.reverse;have e:l=fY l++q.reverse:=by
  unfold fY;rw[← List.reverse_append,← hq,List.reverse_reverse]
 conv=>rhs; rw[e]
 rw[zg5 h]
theorem wX:∀ (q:List Cl) (m:Int),m≤nB q m∧∀ c∈q,c.dim≤nB q m
 | [],m=>⟨Int.le_refl _,by simp⟩
 | c::q,m=>by
  obtain ⟨h1,h2⟩:=wX q (max m c.dim);have e:nB (c::q) m=nB q (max m c.dim):=rfl;rw[e];refine⟨oM,fun d hd=>?_⟩
  rcases ze4.1 hd with rfl | hd
  ·omega
  ·exact h2 d hd
theorem CK {l:List Cl}(h:Rt l):∀ c∈l,c.dim<((dimN l:Nat):Int):=fun c hc=>by
 have h1:=(wX (ae l) (-1)).2 c (by rw[h.tab]; exact hc);unfold dimN;omega
def pgN (f:Nat→Nat→Nat→Int)(n D k:Nat):List (List Int):=(List.range n).map fun a=>(List.range D).map fun b=>f k a b
structure Nums (P:List (List (List Int)))(n D:Nat)(e:Int)(f:Nat→Nat→Nat→Int):Prop where
 few:P.length≤n
 n4:n≤4
 d9:D≤9
 page:∀ k,k<P.length→P[k]?=some (pgN f n D k)
 pos:∀ k a b,a<n→0≤f k a b
 less:∀ k a b,a<n→f (k+1) a b≤f k a b
 bd:∀ k a b,(f k a b).natAbs≤800
 sum:∀ k,k<n→(aj (List.range n) fun a=>aj (List.range D) fun b=>f k a b * sgP ((a:Int)+b))=e
theorem zk {l:List Cl}(h:Sm3 l){T:List (List Int)}(hT:TOk l T){p:Int}(hp:gz p=true):∃ f,Nums (cz l T p) T.length (dimN l) (zf l) f:=by
 have ho:=o6 (qe h hT hp);have hcov:=Bv h hT;have heq:=ho.eq;have hbok:=ho.bok;rw[h.rt.tab] at heq hbok;have hB:cD l T=aa (bB l (tlB l 0 T) T.length):=by unfold cD; rw[r8]
 have hdeg:∀ c∈cD l T,0≤de T.length c.id∧de T.length c.id≤(T.length:Int) - 1:=by rw[hB]; exact hcov.degs
 have hdim:∀ c∈cD l T,0≤c.dim - de T.length c.id∧c.dim - de T.length c.id<((dimN l:Nat):Int):=by rw[hB]; exact hcov.dims _ (CK h.rt)
 have hpos:∀ c∈l,0<tlB l 0 T c.id:=fun c hc=>by
  have hd:=(h.rt.form c hc).dim;obtain ⟨t,ht,hm⟩:=wH h.rt hT (9 - c.dim).toNat c hc oM;have:=rT l c.id T 0 ⟨t,ht,hm⟩;omega
 have heul:((cD l T).map fun c=>sgP c.dim).sum=zf l:=by
  rw[← r5 hbok.rt,hB];exact hcov.euler hpos
 refine⟨fun k a b=>ni (rkP p) T.length (cD l T) ((k:Int)+1) a b,qx,hT.few,ho.dims,fun k hk=>?_,fun k a b ha=>?_,fun k a b ha=>?_,fun k a b=>?_,fun k hk=>?_⟩
 ·rw[heq] at hk ⊢;rw[xC hk];have hk2:=Nat.lt_of_lt_of_le hk qd;rw[kB] at hk2;unfold i5;rw[zh3,List.getElem?_range hk2];rfl
 ·exact BO ho.fp.fld hbok.rt hdeg oM oM oM
 ·have:=zV (n:=T.length) (B:=cD l T) ho.fp.fld (r:=(k:Int)+1) (a:=a) (b:=b) oM oM oM;rw[show (((k+1:Nat):Int)+1)=(k:Int)+1+1 by omega];exact this
 ·exact wS ho.fp hbok _ _ _
 ·rw[← heul];have:=Cf (n:=T.length) (B:=cD l T) ho.fp.fld hdeg (dimN l) hdim (k+1) oM oM;rw[show (((k+1:Nat)):Int)=(k:Int)+1 by omega] at this;exact this
def wi (y:Int):Int:=if bC y 3=0 then 2 else if bC y 3=1 then 3 else 5
theorem zn (y:Int):([2,3,5]:List Int)[(bC y 3).toNat]?=some (wi y):=by
 have:=aW y 3 dC dC;unfold wi
 rcases (by omega:bC y 3=0∨bC y 3=1∨bC y 3=2) with e | e | e
 ·rw[e]; rfl
 ·rw[e]; rfl
 ·rw[e]; rfl
theorem Bm (y:Int):gz (wi y)=true∧2≤wi y∧wi y<9:=by
 unfold wi;split
 ·decide
 ·split
  ·decide
  ·decide
theorem oB {m:Nat}{f:Nat→Int}(h:∀ i,(f i).natAbs≤m):∀ n,(aj (List.range n) f).natAbs≤n * m
 | 0=>by rw[List.range_zero,fG]; simp
 | n+1=>by
  have h1:=oB h n;have h2:=h n;rw[gh,Nat.succ_mul];omega
theorem rU (m:Int):(sgP m).natAbs=1:=by
 rcases oD m with h | h <;> rw[h] <;> rfl
theorem zz (a b:Nat):1 - 2 * (((a:Int)+b).tmod 2)=sgP ((a:Int)+b):=by
 unfold sgP;have:((a:Int)+b).tmod 2=((a:Int)+b) % 2:=Int.tmod_eq_emod_of_nonneg oM;rw[this]
theorem AS (f:Nat→Nat→Nat→Int){n D k a:Nat}(ha:a<n):(pgN f n D k)[a]?=some ((List.range D).map fun b=>f k a b):=by
 unfold pgN;rw[zh3,List.getElem?_range ha];rfl
theorem AN (f:Nat→Int){D b:Nat}(hb:b<D):((List.range D).map f)[b]?=some (f b):=by
 rw[zh3,List.getElem?_range hb];rfl
theorem wO (a b:Nat):IntKind.i64.wrap (1 - IntKind.i64.wrap (2 * ((a:Int)+b).tmod 2))=sgP ((a:Int)+b):=by
 have h1:=zz a b;have h2:=oD ((a:Int)+b);rw[zj7 (2 * ((a:Int)+b).tmod 2) oM,zj7 _ oM];exact h1
theorem lB (E:World)(hE:E.drawn=0)(g:PH)(s:Own)(v nv:Value)(kd y:Int)(ls:List (List Int))(ns:List Int)(sd z:Int)(hv:aJ g v ls)(hn:cd g nv ns) :
  Ctr Tryz.prog E 6 #[.agg #[vi kd,v,vi y],nv,.agg #[vi sd,vi z]] g s (fun r g' s'=>r=vb true∧s=s'∧Le g g'):=by
 obtain ⟨p,n,c,rfl⟩:∃ p n c,v = .slice p n c:=by
  obtain ⟨rs0,hrs0,_⟩:=hv;obtain ⟨p,c,rfl⟩:=za2 hrs0;exact⟨_,_,_,I⟩
 have hsm:=xH kd ls y;have hzr:=aW z 3 dC dC;obtain ⟨hpr,hp2,hp9⟩:=Bm z;generalize hMd:il kd ls y=M at *;have hMf:dM M:=⟨by have:=hsm.few; omega,fun c hc=>by have:=pn (hsm.rt.form c hc); omega⟩;have hMt:(ae M).length≤1000:=by rw[hsm.rt.tab]; have:=hsm.few; omega
 refine za9 (args:=[.agg #[vi kd,.slice p n c,vi y],nv,.agg #[vi sd,vi z]]) func6 I ntmps6 (bE I) ?_;refine rZ (bW (bO I) fun b3=>?_);refine bW (bO I) fun b5=>?_;refine aT I (rZ (lW (cL call7 I (pI E hE g _)) ?_));rintro _ g1 _ ⟨rfl,rfl,hle1⟩;have hv1:=hv.mono hle1;refine aT I (rZ (lK (qV 1 isAgg24 sizeOf24 I I I) (lW (cL call8 I (u4 E g1 _ _ kd y ls hv1)) ?_)));rintro _ g2 _ ⟨rfl,hle2,u2,rfl,hu2⟩;rw[hMd] at hu2;obtain ⟨q2,d2,rfl⟩:=hu2.form;refine bW (aL zk2) fun b8=>?_;refine oZ (sK 0 aH I I I I I ⟨I,trivial⟩) (tZ (rZ (lK (qV 0 bZ aH I I I) (lU (SU.indexAddrA underlying56 zT3 I I dC dC) (lK (qL (v:=vi sd) iT3 I (cO 1 I I)) (lM I (lW (cL call9 I (uU E g2 _ _ _ M sd ns hu2 hMf hMt (za3 hn (hle1.trans hle2)))) ?_)))))));rintro tv g3 _ ⟨rfl,hle3,T,hT,hok⟩;have hu3:=hu2.mono hle3;refine aT I ?_;have hTl:T.length<1099511627776:=by have:=hok.few; omega
 have hTs:∀ t∈T,t.length<1099511627776:=fun t ht=>by
  have h1:=hok.len t ht;have h2:(gP M).length≤(ae M).length:=by unfold gP; rw[zd9]; exact zc1 _ _
  omega
 obtain ⟨f,hN⟩:=zk hsm hok hpr;have hpe:=qe hsm hok hpr;refine SC.to (g':=g3) (s':=pt b8 (.cells #[.slice q2 M.length d2] 30 (0,0))::pt b5 (.cells #[vi sd,vi z] 56 (0,0))::pt b3 (.cells #[vi kd,.slice p n c,vi y] 24 (0,0))::s) (fun w hw=>hw) ?_;refine SC.cut (ι:=PH×Value) (fun i=>[(7,vb true),(8,pp b8 0),(9,tv),(10,i.2),(11,vi 0)]) (fun i=>i.1) (fun i=>pt b8 (.cells #[.slice q2 M.length d2] 30 (0,0))::s) (fun i=>Le g3 i.1∧Pgs i.1 i.2 (cz M T (wi z))) ?_ ?_
 ·refine SC.drawX [] zd6 kR ?_;refine SX.q (i:=0) I kR (qV 0 bZ aH I I I) dC (SX.u (i:=1) I kR (mV I) dC (SX.u (i:=3) I kR (SU.indexAddrA underlying56 zT3 I I dC dC) dC (SX.q (i:=4) I kR (qL (v:=vi z) iT3 I (cO 1 I I)) dC ?_)))
  repeat' (first
   | (refine SB.o (i:=2) I (bS sty25 I I I (ab sB) dC) dC (.inr iR) ?_; rintro _ _ _ ⟨b28,rfl,rfl,rfl⟩; refine SX.freeze fun g4 hle4 hb28=>?_; have h28:SlA encInt g4 (.slice (some ⟨b28,0,none⟩) 3 3) [2,3,5]:=SlA.lit hb28 rfl rfl; refine SX.u (i:=6) I kD (iA am zT3 I I I oM (show bC z 3<((3:Nat):Int) by omega)) dC ?_)
   | (refine SB.o (i:=2) I (bS sty25 I I I (ab sB) dC) dC (.inr iR) ?_; rintro _ _ _ ⟨b28,rfl,rfl,rfl⟩; refine SX.freeze fun g4 hle4 hb28=>?_; have h28:SlA encInt g4 (.slice (some ⟨b28,0,none⟩) 3 3) [2,3,5]:=SlA.lit hb28 rfl rfl)
   | (refine SB.o (i:=5) I (cL iS I (aR E _ _ z 3 dC)) dC (.inr iR) ?_; rintro _ _ _ ⟨rfl,rfl,rfl⟩; refine SX.u (i:=6) I kD (iA am zT3 I I I oM (show bC z 3<((3:Nat):Int) by omega)) dC ?_)
   | (refine SB.o (i:=5) I (cL iS I (aR E _ _ z 3 dC)) dC (.inr iR) ?_; rintro _ _ _ ⟨rfl,rfl,rfl⟩)
   | (refine SB.o (i:=7) I (SQ.sof (eB iT3 I (za5 h28) (zn z) I)) dC (.inr iR) ?_; rintro _ _ _ ⟨rfl,rfl,rfl⟩)
   | (refine SB.o (i:=8) rfl (cL call12 rfl (kA E hE g4 _ _ tv M T (wi z) (hu3.mono hle4) hMf hsm.ids (hT.mono hle4) hTl hTs hp2 hp9)) dC (.inr (by rintro _ g5 _ ⟨rfl,hle5,u5,rfl,hP⟩; exact⟨by exact Le.trans (by assumption) (by assumption),(by exact .refl _)⟩)) ?_; rintro _ g5 _ ⟨rfl,hle5,u5,rfl,hP⟩; rw[hpe]; refine SX.u (i:=9) I kD (mV I) dC ?_; refine SX.u (i:=10) I kD (xT I I) dC ?_; refine SX.u (i:=11) I kD (xT I I) dC ?_; refine SX.u (i:=12) I kD (aS I) dC ?_; refine SX.u (i:=13) I kD (aS I) dC ?_)
   | refine SX.br2 2 5 kD ?_ ?_
   | refine zd1 5 kD ?_
   | refine zd1 7 kD ?_
   | refine zd1 8 kD ?_
   | refine zd1 2 kD ?_
   | (refine SX.nil kD ?_; refine dR (.cons_cons _ (.cons _ (.cons _ (.refl _)))) ?_; exact za7 (g5,u5) sB I I ⟨hle4.trans hle5,hP⟩))
 rintro ⟨g5,u5⟩ ⟨hle5,us,hus,hall⟩;dsimp only at hle5 hus hall ⊢;obtain ⟨up,uc,rfl⟩:=za2 hus;have hu5:=hu3.mono hle5;have hT5:=hT.mono hle5;obtain ⟨ts,hts,hallt⟩:=hT5;obtain ⟨tp,tc,rfl⟩:=za2 hts;have htl:=hallt.length;have hul:=hall.length;have hle15:=hle1.trans (hle2.trans (hle3.trans hle5));generalize cz M T (wi z)=P at *;generalize dimN M=D at *;generalize T.length=nn at *;obtain ⟨hfew,hn4,hd9,hpage,hpos,hless,hbd,hsum⟩:=hN;refine sQ (sW I (lU (nQ I I) (lM I (yC I (lY I I I (eN jI I) (yC I (lY I I I (eN bF I) (lY I I I (SU.eq (v':=vb false) (gR I I) (zd5 vb (zf1 oM))) (yF I (tZ (cF I (kP (tN (sQ (rZ (aT I (bK ?_)))))))))))))))));refine oP (ι:=Nat) (fun k=>[(7,vb true),(8,pp b8 0),(10,.slice up us.length uc),(12,vi k)]) (fun _=>g5) (fun _=>pt b8 (.cells #[.slice q2 M.length d2] 30 (0,0))::s) (fun k=>k≤us.length) (fun k=>us.length - k) 0 sB I I (ze9 _) ?_;rintro k hk;refine sQ (sW I (lM I (lU (eN jI I) (yL I (tZ ?_)))));refine iP I (fun hlt=>?_) (fun hlt=>?_)
 ·have hku:k<us.length:=oM;have hkP:k<P.length:=oM;have hgu:us[((k:Nat):Int).toNat]?=some us[k]:=gE hku;have hpg:=hpage k hkP;have hR:=hall.get hpg (gE hku);have hbu:=za4 hus oM;have hprev:∀ j,j+1=k→∃ (r1:Sv) (rs1:List Sv),us[((k:Int) - 1).toNat]?=some r1∧SlA a7 g5 (.slice r1.p r1.n r1.c) rs1∧aG (bU g5) (pgN f nn D j) rs1:=fun j hj=>by
   have h1:j<us.length:=oM;obtain ⟨rs1,h2,h3⟩:=hall.get (hpage j oM) (gE h1);refine⟨us[j],rs1,?_,h2,h3⟩;rw[show ((k:Int) - 1).toNat=j by omega];exact gE h1
  generalize us[k]=r at *;obtain ⟨p1,n1,c1⟩:=r;obtain ⟨rs,hrs,hallr⟩:=hR;dsimp only at hrs;obtain ⟨rfl,-⟩:=SlA.cap hrs;have hrl:rs.length=nn:=by
   have:=hallr.length;unfold pgN at this;rw[zd9,zh7] at this;exact this.symm
  have hSD:∀ a,(aj (List.range D) fun b=>f k a b * sgP ((a:Int)+b)).natAbs≤7200:=fun a=>by
   have:=oB (m:=800) (f:=fun b=>f k a b * sgP ((a:Int)+b)) (fun b=>by rw[Int.natAbs_mul,rU,Nat.mul_one]; exact hbd k a b) D;omega
  have hSA:=oB hSD;have hsk:=hsum k oM;refine kP (tN (sQ (bK (rZ (aT I (sQ (rZ (aT I (bK ?_)))))))));refine oP (ι:=Nat) (fun a=>[(7,vb true),(8,pp b8 0),(10,.slice up us.length uc),(12,vi k),(13,vi (aj (List.range a) fun a=>aj (List.range D) fun b=>f k a b * sgP ((a:Int)+b))),(14,vi a)]) (fun _=>g5) (fun _=>pt b8 (.cells #[.slice q2 M.length d2] 30 (0,0))::s) (fun a=>a≤nn) (fun a=>nn - a) 0 sB I I (ze9 _) ?_;rintro a ha;refine sQ (sW I (lM I (lM I (lU (iA jI lC I I hbu oM sL) (lK (eB (u:=.slice p1 rs.length c1) nk I (za5 hus) hgu I) (lU (eN bF I) (yL I (tZ ?_))))))));refine iP I (fun hlt2=>?_) (fun hlt2=>?_)
  ·have han:a<nn:=oM;have har:a<rs.length:=oM;have hbr:=za4 hrs oM;have hgr:rs[((a:Nat):Int).toNat]?=some rs[a]:=gE har;have hX:=hallr.get (AS f (n:=nn) (D:=D) (k:=k) han) (gE har);generalize rs[a]=x at *;obtain ⟨p2,n2,c2⟩:=x;have hX:cd g5 (.slice p2 n2 c2) ((List.range D).map fun b=>f k a b):=hX;have hx2:=(SlA.cap hX).1;rw[zd9,zh7] at hx2;have hx2:=hx2.symm;subst hx2;have hSa:=hSA a;refine kP (tN (sQ (bK (rZ (aT I (bK ?_))))));refine oP (ι:=Nat) (fun b=>[(7,vb true),(8,pp b8 0),(10,.slice up us.length uc),(12,vi k),(13,vi ((aj (List.range a) fun a=>aj (List.range D) fun b=>f k a b * sgP ((a:Int)+b))+(aj (List.range b) fun b=>f k a b * sgP ((a:Int)+b)))),(14,vi a),(15,vi b)]) (fun _=>g5) (fun _=>pt b8 (.cells #[.slice q2 M.length d2] 30 (0,0))::s) (fun b=>b≤D) (fun b=>D - b) 0 ⟨I,I,I,I,by rw[List.range_zero,fG,Int.add_zero]; rfl,rfl,rfl,trivial⟩ rfl rfl (ze9 _) ?_;rintro b hb;refine sQ (sW I (lM I (lM I (lU (iA jI lC I I hbu oM sL) (lK (eB (u:=.slice p1 rs.length c1) nk I (za5 hus) hgu I) (lM I (lU (iA bF cg I I hbr oM sL) (lK (eB (u:=.slice p2 D c2) dx I (za5 hrs) hgr I) (lU (eN am I) (yL I (tZ ?_)))))))))));refine iP I (fun hlt3=>?_) (fun hlt3=>?_)
   ·have hbD:b<D:=oM;have hbx:=za4 hX (by rw[zd9,zh7]; omega);have hgx:((List.range D).map fun b=>f k a b)[((b:Nat):Int).toNat]?=some (f k a b):=AN (fun b=>f k a b) hbD;have hv0:=hpos k a b han;have hprod:(f k a b * sgP ((a:Int)+b)).natAbs≤800:=by rw[Int.natAbs_mul,rU,Nat.mul_one]; exact hbd k a b
    have hSb:=oB (m:=800) (f:=fun b=>f k a b * sgP ((a:Int)+b)) (fun b=>by rw[Int.natAbs_mul,rU,Nat.mul_one]; exact hbd k a b) b;have hnext:(aj (List.range (b+1)) fun b=>f k a b * sgP ((a:Int)+b))=(aj (List.range b) fun b=>f k a b * sgP ((a:Int)+b))+f k a b * sgP ((a:Int)+b):=gh b _;by_cases hk0:k=0
    ·refine kP (tN (sQ (bK (sW I (lM I (lU (iA jI lC I I hbu oM sL) (lK (eB (u:=.slice p1 rs.length c1) nk I (za5 hus) hgu I) (lM I (lU (iA bF cg I I hbr oM sL) (lK (eB (u:=.slice p2 D c2) dx I (za5 hrs) hgr I) (lM I (lU (iA am zT3 I I hbx oM sL) (lK (eB iT3 I (za5 hX) hgx I) (aT I (sQ (sW I (lU (SU.eq (v':=vb false) (lS I I) (zd5 vb (zf1 oM))) (lM I (yC I (lY I I I (SU.eq (v':=vb false) (gR I I) (zd5 vb (zf1 oM))) (yC I (yA I (yA I ?_)))))))))))))))))))))));refine yA I (yA I (yA I (yA I (yA I (yA I (yA I (yA I (yA I (yA I (yA I (lY I I I (wF I I) (yF I (tZ (cF I (kP (tN (rG (lM I (lM I (lM I (lM I (yD I (lU (zd2 I I dC) (lU (SU.mulW I I) (lU (SU.eq (v':=vi (sgP ((a:Int)+b))) (SU.subW I I) (zd5 vi (wO a b))) (lU (SU.eq (v':=vi (f k a b * sgP ((a:Int)+b))) (SU.mulW I I) (zd5 vi (zj7 _ oM))) (lU (SU.eq (v':=vi ((aj (List.range a) fun a=>aj (List.range D) fun b=>f k a b * sgP ((a:Int)+b))+(aj (List.range (b+1)) fun b=>f k a b * sgP ((a:Int)+b)))) (aD I I oM) (zd5 vi (by rw[hnext,Int.add_assoc]))) ?_)))))))))))))))))))))))))));refine lA I (nL (bN (tN (rG (lM I (yD I (lA I (nL ?_))))))));exact gA (b+1) sB I I oM oM
    ·obtain ⟨j,hj⟩:∃ j,j+1=k:=⟨k - 1,oM⟩;obtain ⟨r1,rs1,hg1,hrs1,hall1⟩:=hprev j hj;obtain ⟨e1,e2,e3⟩:=r1;dsimp only at hrs1;obtain ⟨rfl,-⟩:=SlA.cap hrs1;have hrl1:rs1.length=nn:=by
      have:=hall1.length;unfold pgN at this;rw[zd9,zh7] at this;exact this.symm
     have hbr1:=za4 hrs1 oM;have har1:a<rs1.length:=oM;have hgr1:rs1[((a:Nat):Int).toNat]?=some rs1[a]:=gE har1;have hX1:=hall1.get (AS f (n:=nn) (D:=D) (k:=j) han) (gE har1);generalize rs1[a]=x1 at *;obtain ⟨z1,z2,z3⟩:=x1;have hX1:cd g5 (.slice z1 z2 z3) ((List.range D).map fun b=>f j a b):=hX1;have hx3:=(SlA.cap hX1).1;rw[zd9,zh7] at hx3;have hx3:=hx3.symm;subst hx3;have hbx1:=za4 hX1 (by rw[zd9,zh7]; omega);have hgx1:((List.range D).map fun b=>f j a b)[((b:Nat):Int).toNat]?=some (f j a b):=AN (fun b=>f j a b) hbD;have hle:=hless j a b han;rw[hj] at hle;refine kP (tN (sQ (bK (sW I (lM I (lU (iA jI lC I I hbu oM sL) (lK (eB (u:=.slice p1 rs.length c1) nk I (za5 hus) hgu I) (lM I (lU (iA bF cg I I hbr oM sL) (lK (eB (u:=.slice p2 D c2) dx I (za5 hrs) hgr I) (lM I (lU (iA am zT3 I I hbx oM sL) (lK (eB iT3 I (za5 hX) hgx I) (aT I (sQ (sW I (lU (SU.eq (v':=vb false) (lS I I) (zd5 vb (zf1 oM))) (lM I (yC I (lY I I I (SU.eq (v':=vb true) (gR I I) (zd5 vb (zf2 oM))) (yC I (yC I (yC I ?_)))))))))))))))))))))));refine yC I (lY I I I (sU I I oM) (lY I I I (iA jI lC I I hbu oM (show ((k:Int) - 1)<((us.length:Nat):Int) by omega)) ?_));refine SL.gq (gT I I I dC) (eB (u:=.slice e1 rs1.length e3) nk I (za5 hus) hg1 I) dC (yC I (lY I I I (iA bF cg I I hbr1 oM sL) (SL.gq (gT I I I dC) (eB (u:=.slice z1 D z3) dx I (za5 hrs1) hgr1 I) dC (yC I (lY I I I (iA am zT3 I I hbx1 oM sL) (SL.gq (gT I I I dC) (eB iT3 I (za5 hX1) hgx1 I) dC (lY I I I (SU.eq (v':=vb false) (gR I I) (zd5 vb (zf1 oM))) (lY I I I (wT I I) (yF I (tZ (cF I (kP (tN (rG (lM I (lM I (lM I (lM I (yD I (lU (zd2 I I dC) (lU (SU.mulW I I) (lU (SU.eq (v':=vi (sgP ((a:Int)+b))) (SU.subW I I) (zd5 vi (wO a b))) (lU (SU.eq (v':=vi (f k a b * sgP ((a:Int)+b))) (SU.mulW I I) (zd5 vi (zj7 _ oM))) (lU (SU.eq (v':=vi ((aj (List.range a) fun a=>aj (List.range D) fun b=>f k a b * sgP ((a:Int)+b))+(aj (List.range (b+1)) fun b=>f k a b * sgP ((a:Int)+b)))) (aD I I oM) (zd5 vi (by rw[hnext,Int.add_assoc]))) ?_))))))))))))))))))))))));refine lA I (nL (bN (tN (rG (lM I (yD I (lA I (nL ?_))))))));exact gA (b+1) sB I I oM oM
   ·have hbe:b=D:=oM;subst hbe;refine xI (tX (tX (bX (bN (tN (rG (lM I (yD I (lA I (nL ?_))))))))));exact gA (a+1) ⟨I,I,I,I,by rw[gh]; rfl,rfl,trivial⟩ rfl rfl oM oM
  ·have hae:a=nn:=oM;subst hae;rw[hsk];refine xI (tX (tX (bX (tN (sW I (lK (qV 0 bZ aH I I I) (lW (cL call25 I (vL E g5 _ _ M hu5 hMf)) ?_)))))));rintro _ _ _ ⟨rfl,rfl,rfl⟩;refine lU (SU.eq (v':=vb false) (nQ I I) (zd5 vb (by simp))) ?_;refine tZ (cF I (kP (bN (tN (rG (lM I (yD I (lA I (nL ?_)))))))));exact gA (k+1) sB I I oM oM
 ·refine xI (tX (tX (bX (tN (sW I (aT I (rE (dR (s':=s) uR ?_))))))));exact za6 (.inl I) results6 I ⟨I,I,hle15⟩
end Go.Proofs.YtcfkpajlakidbaaGreat
namespace Go.Proofs.YtcfkpajlakidbaaGreat.tilesShrinkDone
open _root_.Go.Proofs.Tryz _root_.Go.Proofs.YtcfkpajlakidbaaGreat.Tryz
open Go Go.Sy Go.Pl Go.Proofs Go.Proofs.YtcfkpajlakidbaaGreat
open Go.ChangeShapes Go.WideShapes Go.ChangeAt Go.RowKit
set_option linter.unusedVariables false
theorem own:ownKnob Tryz.prog.godebug=none:=by kernel_rfl
theorem laidOut:laidOutB Tryz.prog=true:=by kernel_rfl
set_option maxRecDepth 100000 in
theorem lifted (os:Os)(started:os.Started)(H:Type)(enc:TypeId×Value→H) :
  ReturnsInHanded {} Tryz.checked os 6 .any (Rows.tilesShrinkSpec.pre6 enc Tryz.prog f6 Rows.tilesShrinkRow.domain false) (Rows.tilesShrinkSpec.post enc Tryz.prog f6 false true false false):=by
 refine returnsInHanded_of_change (C:=Tryz.checked) own started kR func6
  (ChangeSpec.witness6 (enc:=enc) (C:=Tryz.checked) false ⟨#[],#[.agg #[.int .i64 0,.slice none 0 0,.int .i64 0],.slice none 0 0,.agg #[.int .i64 0,.int .i64 0]],[]⟩ 8 kR kR kR kR) ?_
 intro W base args ds gs before hval0 hW hcnd _;have hval:∀ (j:Nat) t v,f6.params[j]?=some t→args[j]?=some v→Value.okWide Tryz.prog W .any base t v:=hval0;have hW':=hW;obtain ⟨p,q,hA0,hV,rfl,hfz,hnd⟩:=hW;have hA:DataW.TrodAll enc Tryz.prog W 0 (fun _=>true) true f6.params.toList args.toList ds p:=hA0;rw[params6] at hA hval;obtain ⟨v0,vs0,d0,ds0,p0,q0,hargs,rfl,rfl,h0,r0⟩:=trodAll_cons hA;obtain ⟨v1,vs1,d1,ds1,p1,q1,rfl,rfl,rfl,h1,r1⟩:=trodAll_cons r0;obtain ⟨v2,vs2,d2,ds2,p2,q2,rfl,rfl,rfl,h2,r2⟩:=trodAll_cons r1;obtain ⟨rfl,rfl,rfl⟩:=trodAll_nil r2;obtain rfl:args = #[v0,v1,v2]:=by cases args; simp_all
 obtain ⟨rfl,rfl⟩:=trodVars_none hV;have lt0:∀ x∈p0,x.block<W.heap.size:=by obtain ⟨m,hm⟩:=h0; exact DataW.trod_lt m _ _ _ hm
 have lt1:∀ x∈p1,x.block<W.heap.size:=by obtain ⟨m,hm⟩:=h1; exact DataW.trod_lt m _ _ _ hm
 have lt2:∀ x∈p2,x.block<W.heap.size:=by obtain ⟨m,hm⟩:=h2; exact DataW.trod_lt m _ _ _ hm
 obtain ⟨kd,y,u,ls,e0,hls⟩:=zy (hval 0 24 v0 rfl rfl) h0;obtain ⟨a1,n1,c1,s1⟩:=okWide_slice am (hval 1 25 v1 rfl rfl);obtain ⟨ns1,hn1⟩:=Ab h1 (by rw[s1]; rfl);obtain ⟨x2_0,x2_1,e2,w2_0,w2_1⟩:=Cc (hval 2 56 v2 rfl rfl) h2;clear hA0 hval0;have walk:Calls Tryz.prog 6 #[v0,v1,v2] W fun e w'=>e = .returned (.bool true)∧Below W.heap.size W w':=by
  rw[e0,e2];refine (lB (E0 W) I (tF W) [] u _ kd y ls ns1 x2_0 x2_1 hls hn1 W (Aw W)).mono ?_;rintro e w' ⟨v,g',s',rfl,hat,rfl,rfl,hle⟩;exact⟨I,Ay hat hle⟩
 refine walk.mono fun e W' ⟨he,bel⟩=>?_;subst he;exact⟨_,I,_,_,_,[],_,[],hW',trodAll_mk1 (shut_bool underlying4 _),(trodAll_cons_mk (Below.trod laidOut kR (zf6 kR) h0 bel lt0) (trodAll_cons_mk (Below.trod laidOut kR (zf6 kR) h1 bel lt1) (trodAll_cons_mk (Below.trod laidOut kR (zf6 kR) h2 bel lt2) trodAll_mk0))),I,bel.frame _,fun h=>by cases h⟩
theorem over:Rows.tilesShrinkRow.holds Tryz.pinned (OpenSpec.ofChange Rows.tilesShrinkSpec) :=
 OpenClaim.holds_of_wide 6 f6 rfl rfl rfl rfl rfl rfl rfl ⟨rfl,rfl,rfl,rfl,rfl⟩ rfl rfl rfl rfl rfl kR func6 kR
  (zf6 kR) (by unfold Func.isWrapper; first | (rw[zf4 (by decide +kernel)]; kernel_rfl) | (rw[zf3 (by decide +kernel)]; exact⟨I,I⟩))
  (fun os started H enc _=>lifted os started H enc)
theorem proved:Rows.TilesShrinkSaid:=over
#print axioms proved
end Go.Proofs.YtcfkpajlakidbaaGreat.tilesShrinkDone
