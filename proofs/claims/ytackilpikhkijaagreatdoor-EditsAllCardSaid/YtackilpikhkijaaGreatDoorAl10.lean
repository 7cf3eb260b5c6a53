/- Wid4 Agr1 Frm3 ShP Mch1 Mch2 Bes Spc Shp M13 M13b M14 M14b SyEn SyUb Rp1 Rp2 Rp3 Rp4 Rp5 Sp1 Sp2 Sp3 Sp4 Sp5 Sp6 Sp7 Sp8 Lp1 Tri4 LwK Ed1 Ed2 Ed3 SyDe SyCt Edp Ed4 Ed5 Ed6 Ed7 Ed8 Frm4 R12 R12b SyMg R12c -/
import Derived.Test.YtackilpikhkijaaGreatDoorAl09
import Derived.Test.YtackilpikhkijaaGreatDoorAl04
import Derived.Test.YtackilpikhkijaaGreatDoorAl08
import Derived.Test.YtackilpikhkijaaGreatDoorAl05
import Derived.Test.YtackilpikhkijaaGreatDoorAl02
import Derived.Test.YtackilpikhkijaaGreatDoorAl03
import Derived.ChangeKeysEq
import Derived.Test.YtackilpikhkijaaGreatDoorAl07
import Derived.Test.YtackilpikhkijaaGreatDoorAl06
set_option linter.unusedSimpArgs false
set_option linter.unusedVariables false
namespace Go.Proofs.YtackilpikhkijaaGreatDoor
open _root_.Go.Proofs.Tryz _root_.Go.Proofs.YtackilpikhkijaaGreatDoor.Tryz
open Go Go.Sy Go.Pl Go.Proofs
set_option maxRecDepth 100000
theorem iS {a b:Nat}(h:a % 256=b % 256):UInt8.ofNat a=UInt8.ofNat b:=by
 apply UInt8.toNat.inj;simpa using h
theorem u8w (k:Nat):IntKind.u8.wrap (k:Int)=((k % 256:Nat):Int):=by simp[IntKind.wrap,IntKind.bits,IntKind.signed]
theorem pd (k:Nat):UInt8.ofNat (IntKind.u8.wrap (k:Int)).toNat=UInt8.ofNat k:=by
 rw[u8w,Int.toNat_natCast]; exact iS oM
theorem pn (k e:Nat):(k:Int).fdiv ((e:Nat):Int)=((k / e:Nat):Int):=by
 rw[Int.fdiv_eq_ediv_of_nonneg _ oM]; simp
theorem wS (k:Nat):byt (by4 (k:Int))=[UInt8.ofNat (k / 16777216),UInt8.ofNat (k / 65536),UInt8.ofNat (k / 256),UInt8.ofNat k]:=by
 have h1:((2:Int) ^ min (24:Int).toNat IntKind.u64.bits)=((16777216:Nat):Int):=by decide
 have h2:((2:Int) ^ min (16:Int).toNat IntKind.u64.bits)=((65536:Nat):Int):=by decide
 have h3:((2:Int) ^ min (8:Int).toNat IntKind.u64.bits)=((256:Nat):Int):=by decide
 unfold by4;rw[h1,h2,h3,pn,pn,pn];simp only[byt,List.map_cons,List.map_nil,pd]
def beK:Nat→Nat→List UInt8
 | 0,_=>[]
 | k+1,m=>beK k (m / 65536)++[UInt8.ofNat (m / 256),UInt8.ofNat m]
def qv (m:Nat):List UInt8:=lD (beK 4 m)
theorem px:∀ k,lD (beK k 0)=[]
 | 0=>rfl
 | k+1=>by
  have ih:=px k;unfold lD at *;rw[beK,List.dropWhile_append,ih];rfl
theorem uk {a:Nat}(h0:a≠0)(h:a<256):UInt8.ofNat a≠0:=fun e=>by
 have:=congrArg UInt8.toNat e;simp at this;omega
theorem lk:∀ (k m:Nat),m<65536 ^ k→byt (eH (kZ m))=lD (beK k m)
 | 0,m,h=>by
  have:m=0:=by simpa using h
  subst this; rw[eU]; rfl
 | k+1,m,h=>by
  by_cases h0:m=0
  ·subst h0; rw[eU,px]; rfl
  ·have ih:=lk k (m / 65536) (by rw[Nat.div_lt_iff_lt_mul dC]; rwa [Nat.pow_succ] at h);rw[fX h0,beK];have hlo:UInt8.ofNat (loB ((m % 65536:Nat):Int)).toNat=UInt8.ofNat m:=by
    unfold loB;rw[show (((m % 65536:Nat):Int)).tmod 256=((m % 65536 % 256:Nat):Int) by rw[Int.tmod_eq_emod_of_nonneg oM]; omega,pd];exact iS oM
   have hhi:UInt8.ofNat (hiB ((m % 65536:Nat):Int)).toNat=UInt8.ofNat (m % 65536 / 256):=by
    unfold hiB;rw[show (((m % 65536:Nat):Int)).tdiv 256=((m % 65536 / 256:Nat):Int) by rw[Int.tdiv_eq_ediv_of_nonneg oM]; omega,IntWalk.i64_in _ oM,pd]
   by_cases h1:m / 65536=0
   ·rw[h1,eU];have hz:=px k;unfold lD at *;rw[List.dropWhile_append,hz];have hm:m % 65536=m:=oM;rw[hm] at hlo hhi ⊢;simp only[eH,List.nil_append,ne_eq,not_true_eq_false,decide_false,Bool.false_or,List.isEmpty_nil,if_true];by_cases h2:(m:Int)≥256
    ·have hne:(UInt8.ofNat (m / 256) == 0)=false:=by simpa using uk (a:=m / 256) oM oM
     rw[decide_eq_true h2,if_pos rfl,List.dropWhile_cons,hne];simp only[byt,List.map_append,List.map_cons,List.map_nil,hlo,hhi];rfl
    ·have hq:m / 256=0:=oM;have hne:(UInt8.ofNat m == 0)=false:=by simpa using uk (a:=m) h0 oM
     rw[decide_eq_false h2,if_neg (by simp),hq,List.dropWhile_cons,show (UInt8.ofNat 0 == 0)=true from rfl,if_pos rfl,List.dropWhile_cons,hne];simp only[byt,List.nil_append,List.map_cons,List.map_nil,hlo];rfl
   ·have hD:kZ (m / 65536)≠[]:=by rw[fX h1]; simp
    have hne:byt (eH (kZ (m / 65536)))≠[]:=by
     rw[fX h1];simp[byt,eH]
    have hq:UInt8.ofNat (m % 65536 / 256)=UInt8.ofNat (m / 256):=iS oM;rw[ih] at hne;unfold lD at *;rw[List.dropWhile_append];have he:(List.dropWhile (fun x=>x == 0) (beK k (m / 65536))).isEmpty=false:=by simpa using hne
    rw[he];simp only[eH,Bool.false_eq_true,if_false];rw[decide_eq_true hD,Bool.true_or,if_pos rfl];rw[← ih];simp only[byt,List.map_append,List.map_cons,List.map_nil,hlo,hhi,hq];rfl
theorem BD {a:Int}(h:a≠0):ew [a,0]=[a]:=by simp[ew,h]
theorem BC {a b:Int}(h:b≠0):ew [a,b]=[a,b]:=by simp[ew,h]
theorem sO (n:Int)(h:n.natAbs<18446744073709551616):md (wi n)=qv n.natAbs:=by
 obtain ⟨m,hm⟩:∃ m,m=n.natAbs:=⟨_,rfl⟩;unfold wi;rw[← hm] at h ⊢;have hlo:=wS (m % 4294967296);have hhi:=wS (m / 4294967296);have hbe:beK 4 m=[UInt8.ofNat (m / 4294967296 / 16777216),UInt8.ofNat (m / 4294967296 / 65536),UInt8.ofNat (m / 4294967296 / 256),UInt8.ofNat (m / 4294967296),UInt8.ofNat (m % 4294967296 / 16777216),UInt8.ofNat (m % 4294967296 / 65536),UInt8.ofNat (m % 4294967296 / 256),UInt8.ofNat (m % 4294967296)]:=by
  simp only[beK,List.nil_append,List.cons_append];refine congr (congrArg List.cons ?_) (congr (congrArg List.cons ?_) (congr (congrArg List.cons ?_) (congr (congrArg List.cons ?_) (congr (congrArg List.cons ?_) (congr (congrArg List.cons ?_) (congr (congrArg List.cons ?_) (congr (congrArg List.cons ?_) I)))))))
  all_goals exact iS oM
 unfold qv md;rw[hbe];by_cases h1:m / 4294967296=0
 ·by_cases h2:m % 4294967296=0
  ·rw[h1,h2]; rfl
  ·have ht:ew [((m % 4294967296:Nat):Int),((m / 4294967296:Nat):Int)]=[((m % 4294967296:Nat):Int)]:=by
    rw[h1];exact BD oM
   rw[ht];show lD (byt (by4 _++[]))=_;rw[List.append_nil,hlo,h1];rfl
 ·have ht:ew [((m % 4294967296:Nat):Int),((m / 4294967296:Nat):Int)]=[((m % 4294967296:Nat):Int),((m / 4294967296:Nat):Int)]:=by
   exact BC oM
  rw[ht];show lD (byt (by4 _++(by4 _++[])))=_;rw[List.append_nil];have:byt (by4 ((m / 4294967296:Nat):Int)++by4 ((m % 4294967296:Nat):Int))=byt (by4 ((m / 4294967296:Nat):Int))++byt (by4 ((m % 4294967296:Nat):Int)):=by simp[byt]
  rw[this,hhi,hlo];rfl
def Au (n:Int):Value:=yx (decide (n<0)) (qv n.natAbs)
theorem xX (E:World)(g:PH)(s:Own)(n:Int)(h0 : -9223372036854775808≤n)(h1:n<9223372036854775808) :
  Ctr Tryz.prog E 129 #[vi n] g s (fun r g' s'=>r=Au n∧s=s'∧Le g g') :=
 (zz E g s n h0 h1).mono fun _ _ _ ⟨h2,h3⟩=>⟨by rw[h2,sO _ oM]; rfl,h3⟩
theorem zH (m:Nat):decide (kZ m≠[])=decide (m≠0):=by
 rw[decide_eq_decide];by_cases h:m=0
 ·subst h; rw[eU]; simp
 ·rw[fX h]; simp[h]
theorem zm {m:Nat}(h:m<18446744073709551616):decide (qv m≠[])=decide (m≠0):=by
 rw[show qv m=byt (eH (kZ m)) from (lk 4 m oM).symm,decide_eq_decide];by_cases h0:m=0
 ·subst h0; rw[eU]; simp[eH,byt]
 ·rw[fX h0]; simp[h0,eH,byt]
theorem lL (E:World)(g:PH)(s:Own)(n:Int)(h0 : -9223372036854775808≤n)(h1:n<9223372036854775808) :
  Ctr Tryz.prog E 28 #[vi n] g s (fun r g' s'=>r=Au n∧s=s'∧Le g g') :=
 (th E g s n h0 h1).mono fun _ _ _ ⟨h2,h3⟩=>⟨by
  rw[h2,lk 4 _ oM,zH];unfold Au yx;rw[zm oM];rfl,h3⟩
set_option maxHeartbeats 1000000
def eY (l:List Cl):List Int:=l.flatMap fun c=>c.sides.map Side.cell
theorem s8 (A:List Cl)(k:Int):(eY A).contains k=jT A k:=by
 rw[Bool.eq_iff_iff];simp[eY,jT,l8]
theorem rO {A:List Cl}{k:Nat}(h:k<A.length):eY (A.take (k+1))=eY (A.take k)++A[k].sides.map Side.cell:=by
 unfold eY;rw[tS h,List.flatMap_append];simp only[List.flatMap_cons,List.flatMap_nil,List.append_nil]
theorem zB {A:List Cl}{id:Int}(h:aA A id=none)(m:List Int):ge A (m++[id])=ge A m:=by
 unfold ge;refine List.map_congr_left fun c hc=>?_;have:=List.find?_eq_none.1 h c hc;simp only[decide_eq_true_eq] at this;simp[this]
theorem xE {ss:List Side}{j:Nat}(h:j<ss.length)(m:List Int):m++(ss.take (j+1)).map Side.cell=(m++(ss.take j).map Side.cell)++[ss[j].cell]:=by
 rw[tS h,List.map_append,List.append_assoc]; rfl
theorem rT (E:World)(g:PH)(s:Own)(v:Value)(l:List Cl)(hv:ao g v l)(hf:be l) :
  Ctr Tryz.prog E 42 #[.agg #[v]] g s (fun r g' s'=>s=s'∧Le g g'∧dJ g' r (sV l)):=by
 have hft:=bJ hf;have hfl:=hft.1;have hsrt:=gC l;have hnd:=la l;refine Ctr.of (args:=[.agg #[v]]) func42 I ntmps42 (bE I) ?_;refine rZ (bW (bO I) fun b1=>?_);refine aT I (rZ (aT I (rZ (lK (qV 0 ar ag I I I) (lW (cL call66 I (df E g _ _ l hv hf)) ?_)))));rintro v11 g1 _ ⟨rfl,hle,hc⟩;obtain ⟨rs,hrs,hall⟩:=hc;have hcs:ao g1 _ (am l):=⟨rs,hrs,hall⟩;obtain ⟨q,dd,rfl⟩:=hrs.form;have hrl:=hall.length;refine aT I (sW I (lU (eN aH I) (lW (mK iy false sty124 I I I oM oM) ?_)));rintro _ _ _ ⟨b14,rfl,rfl,rfl⟩;refine aT I (sQ (rZ (aT I (bK ?_))));unfold sV;generalize am l=A at *;refine SC.to (g':=g1) (s':=rowA iy 4 (.slice (some ⟨b14,0,none⟩) rs.length rs.length) (ge A (eY (A.take 0)))::pt b1 (.cells #[v] 29 (0,0))::s) (fun w hw=>by rw[show eY (A.take 0)=[] from I,yf,hrl]; exact hw) ?_;refine oP (ι:=Nat) (fun i=>[(3,.slice none 0 0),(4,.slice q rs.length dd),(5,.slice (some ⟨b14,0,none⟩) rs.length rs.length),(6,vi i)]) (fun _=>g1)
  (fun i=>rowA iy 4 (.slice (some ⟨b14,0,none⟩) rs.length rs.length) (ge A (eY (A.take i)))::pt b1 (.cells #[v] 29 (0,0))::s)
  (fun i=>i≤A.length) (fun i=>A.length - i) 0 sB rfl rfl (Nat.zero_le _) ?_
 intro k hk;refine sQ (sW I (lM I (lU (eN aH I) (lU (lS I I) (tZ ?_)))));refine iP I (fun hlt=>?_) (fun hlt=>?_)
 ·have hkl:k<A.length:=oM;have hkr:k<rs.length:=oM;have hb1:=hrs.based oM;have hcr:=hall.get (gE hkl) (gE hkr);have hgr:rs[((k:Nat):Int).toNat]?=some rs[k]:=gE hkr;have hsucc:=rO hkl;have hxl:=hft.2 _ (gM hkl);generalize A[k]=x at *;generalize rs[k]=r at *;generalize eY (A.take k)=m at *;obtain ⟨ri,rd,rp,rn,rc⟩:=r;have hsv:SlA encSide g1 (.slice rp rn rc) x.sides:=hcr.2.2;have hxn:rn=x.sides.length:=by obtain ⟨q,cc,hq⟩:=SlA.form hsv; simp at hq; exact hq.2.1
  subst hxn;refine kP (tN (sQ (bK (rZ (aT I (bK ?_))))));refine oP (ι:=Nat) (fun j=>[(3,.slice none 0 0),(4,.slice q rs.length dd),(5,.slice (some ⟨b14,0,none⟩) rs.length rs.length),(6,vi k),(7,vi j)]) (fun _=>g1)
   (fun j=>rowA iy 4 (.slice (some ⟨b14,0,none⟩) rs.length rs.length) (ge A (m++(x.sides.take j).map Side.cell))::pt b1 (.cells #[v] 29 (0,0))::s)
   (fun j=>j≤x.sides.length) (fun j=>x.sides.length - j) 0 sB rfl (by simp) (Nat.zero_le _) ?_
  intro j hj;refine sQ (sW I (lM I (lM I (lU (iA aH au I I hb1 oM sL) (lU (fC aq I aU I hb1) (lK (aZ (e:=encCell) (o:=2) (u:=.slice rp x.sides.length rc) bw I hrs.rd hgr I) (lU (eN aN I) (lU (lS I I) (tZ ?_)))))))));refine iP I (fun hlt2=>?_) (fun hlt2=>?_)
  ·have hjl:j<x.sides.length:=oM;have hb2:=SlA.based hsv oM;have hgj:x.sides[((j:Nat):Int).toNat]?=some x.sides[j]:=gE hjl;have hms:=xE hjl m;generalize m++(x.sides.take j).map Side.cell=m2 at *;generalize x.sides[j]=z at *;have hfl2:(ge A m2).length=A.length:=by simp[ge]
   rcases oW hsrt z.cell with ⟨hf0,hat⟩ | ⟨c,kk,hf0,hat,hck⟩
   ·refine kP (tN (sQ (bK (sW I (lM I (lM I (lU (iA aH au I I hb1 oM sL) (lU (fC aq I aU I hb1) (lK (aZ (e:=encCell) (o:=2) (u:=.slice rp x.sides.length rc) bw I hrs.rd hgr I) (lM I (lU (iA aN aG I I hb2 oM sL) (lU (fC cl I zT3 I hb2) (lK (aZ (o:=0) (u:=vi z.cell) iT3 I hsv.rd hgj I) (lW (cL call67 I (gL E g1 _ _ A z.cell hcs hfl hsrt)) ?_))))))))))))));rintro _ _ _ ⟨rfl,rfl,rfl⟩;rw[hat];refine aT I (sW I (lU (SU.eq (v':=vb false) (gQ I I) (congrArg vb (decide_eq_false oM))) (tZ (SC.condF I (kP (bN (tN (rG (lM I (lU (aD I I oM) (lA I (nL ?_))))))))))));exact gA (j+1) sB I (by rw[hms,zB hf0]) oM oM
   ·have hkl2:kk<A.length:=(List.getElem?_eq_some_iff.1 hck).1;have hset:(ge A m2).set kk true=ge A (m2++[z.cell]):=by rw[ye hnd hck,(gv hf0).2]
    refine kP (tN (sQ (bK (sW I (lM I (lM I (lU (iA aH au I I hb1 oM sL) (lU (fC aq I aU I hb1) (lK (aZ (e:=encCell) (o:=2) (u:=.slice rp x.sides.length rc) bw I hrs.rd hgr I) (lM I (lU (iA aN aG I I hb2 oM sL) (lU (fC cl I zT3 I hb2) (lK (aZ (o:=0) (u:=vi z.cell) iT3 I hsv.rd hgj I) (lW (cL call67 I (gL E g1 _ _ A z.cell hcs hfl hsrt)) ?_))))))))))))));rintro _ _ _ ⟨rfl,rfl,rfl⟩;rw[hat];refine aT I (sW I (lU (SU.eq (v':=vb true) (gQ I I) (congrArg vb (decide_eq_true oM))) (tZ (SC.condT I (rG (lM I (lM I (lU (iA underlying124 zT4 I I I oM sL) (oZ (sT (e:=iy) (a:=true) 0 zT4 I I I (by rw[hfl2]; omega) I) ?_)))))))));refine nL (bN (tN (rG (lM I (lU (aD I I oM) (lA I (nL ?_)))))));exact gA (j+1) sB rfl (by rw[hms,← hset]; rfl) oM oM
  ·have hjj:x.sides.take j=x.sides:=tL oM;rw[hjj,← hsucc];refine xI (tX (tX (bX (bN (tN (rG (lM I (lU (aD I I oM) (lA I (nL ?_))))))))));exact gA (k+1) sB I I oM oM
 ·have hkk:A.take k=A:=tL oM;rw[hkk];refine xI (tX (tX (bX (tN (sQ (rZ (aT I (bK (cP (List.Perm.swap _ _ _) (cP (List.Perm.swap _ _ _) (SC.nilRow 3 1 ?_)))))))))));refine oP (ι:=Value×Nat) (fun i=>[(3,i.1),(4,.slice q rs.length dd),(5,.slice (some ⟨b14,0,none⟩) rs.length rs.length),(9,vi i.2)]) (fun _=>g1)
   (fun i=>rowA encInt 3 i.1 (((A.take i.2).filter fun c=>!jT A c.id).map Cl.id)::rowA iy 4 (.slice (some ⟨b14,0,none⟩) rs.length rs.length) (ge A (eY A))::pt b1 (.cells #[v] 29 (0,0))::s)
   (fun i=>i.2≤A.length) (fun i=>A.length - i.2) (.slice none 0 0,0) sB rfl rfl (Nat.zero_le _) ?_
  rintro ⟨ov,i⟩ hi;dsimp only at hi ⊢;refine sQ (sW I (lM I (lU (eN aH I) (lU (lS I I) (tZ ?_)))));refine iP I (fun hlt3=>?_) (fun hlt3=>?_)
  ·have hil:i<A.length:=oM;have hir:i<rs.length:=oM;have hb1:=hrs.based oM;have hcr:=hall.get (gE hil) (gE hir);have hgr:rs[((i:Nat):Int).toNat]?=some rs[i]:=gE hir;have hsucc:=mW hil (fun c=>!jT A c.id) Cl.id;have hlek:=sz A i (fun c=>!jT A c.id) Cl.id;have hgf:(ge A (eY A))[((i:Nat):Int).toNat]?=some (jT A A[i].id):=by rw[← s8]; exact yg (gE hil)
   generalize A[i]=x at *;generalize rs[i]=r at *;refine kP (tN (sQ (bK (sW I (lM I (lU (iA underlying124 zT4 I I I oM sL) (lK (eB (e:=iy) isAgg4 I (Rd.rowA 1 I) hgf I) (lU (SU.not I) (tZ ?_)))))))));refine iQ I (fun htop=>?_) (fun htop=>?_)
   ·refine rG (lM rfl (lM rfl (lM rfl (lU (iA aH au rfl rfl hb1 oM sL) (lU (fC aq rfl zT3 rfl hb1) (lK (aZ (e:=encCell) (o:=0) (u:=vi x.id) iT3 rfl hrs.rd hgr (by rw[← hcr.1]; rfl)) ?_))))));refine lW (bS sty83 I I I (ae sB) dC) ?_;rintro _ _ _ ⟨b64,rfl,rfl,rfl⟩;refine lW (aP (e:=encInt) 0 x.id sty83 I I I I I oM oM) ?_;rintro ov' _ _ ⟨rfl,rfl⟩;refine lA I (nL (bN (tN (rG (lM I (lU (aD I I oM) (lA I (nL ?_))))))));refine ST.to (fun w hw=>?_) (g':=g1) (s':=rowA encInt 3 ov' (((A.take (i+1)).filter fun c=>!jT A c.id).map Cl.id)::rowA iy 4 (.slice (some ⟨b14,0,none⟩) rs.length rs.length) (ge A (eY A))::pt b1 (.cells #[v] 29 (0,0))::s) ?_
    ·rw[hsucc,if_pos (by simpa using htop)]; exact hw
    exact gA (ov',i+1) sB I I (by dsimp only; omega) lN
   ·refine kP (bN (tN (rG (lM I (lU (aD I I oM) (lA I (nL ?_)))))));refine ST.to (fun w hw=>?_) (g':=g1) (s':=rowA encInt 3 ov (((A.take (i+1)).filter fun c=>!jT A c.id).map Cl.id)::rowA iy 4 (.slice (some ⟨b14,0,none⟩) rs.length rs.length) (ge A (eY A))::pt b1 (.cells #[v] 29 (0,0))::s) ?_
    ·rw[hsucc,if_neg (by simpa using htop),List.append_nil]; exact hw
    exact gA (ov,i+1) sB I I (by dsimp only; omega) lN
  ·have hii:A.take i=A:=tL oM;rw[hii];refine xI (tX (tX (bX (tN (sW I (aT I (rE (fT fun g2 hle2 hs2=>?_))))))));refine dR (s':=s) uR ?_;exact ST.ret1 (.inl I) results42 I ⟨I,hle.trans hle2,hs2⟩
open Go.ChangeShapes Go.WideShapes Go.ChangeAt Go.RowKit
set_option maxRecDepth 100000
section
variable {H:Type}{enc:TypeId×Value→H}{W:World}{base:Nat}{spare:Nat→Bool}{hd:Bool}
end
theorem wL {α β:Type}{ka:α→Int}{kb:β→Int}{f:α→β}(h:∀ a,kb (f a)=ka a)(x:α):∀ l:List α,ins kb (f x) (l.map f)=(ins ka x l).map f
 | []=>rfl
 | y::r=>by
  simp only[List.map_cons,ins,h];split
  ·rfl
  ·rw[wL h x r]; rfl
theorem lg {α β:Type}{ka:α→Int}{kb:β→Int}{f:α→β}(h:∀ a,kb (f a)=ka a):∀ l:List α,sortBy kb (l.map f)=(sortBy ka l).map f
 | []=>rfl
 | x::r=>by
  simp only[List.map_cons,sortBy];rw[lg h r,wL h]
theorem ji {α:Type}{key:α→Int}(l:List α):(sortBy key l).Perm l:=by
 induction l with
 | nil=>exact .refl _
 | cons x r ih =>
  have h:∀ m:List α,(ins key x m).Perm (x::m):=by
   intro m;induction m with
   | nil=>exact .refl _
   | cons y t iht =>
    simp only[ins];split
    ·exact .refl _
    ·exact (List.Perm.cons _ iht).trans (List.Perm.swap _ _ _)
  exact (h _).trans (List.Perm.cons _ ih)
theorem s5 {α:Type}{key:α→Int}{l m:List α}(h:l.Perm m)(hn:(l.map key).Nodup):sortBy key l=sortBy key m:=by
 have hst:∀ q:List α,(q.map key).Nodup→(sortBy key q).Pairwise fun a b=>key a<key b:=fun q hq=>by
  have h1:=co (key:=key) q;have h2:((sortBy key q).map key).Nodup:=((ji q).map key).symm.nodup hq;have h3:(sortBy key q).Pairwise fun a b=>key a≠key b:=by
   rw[List.nodup_iff_pairwise_ne,List.pairwise_map] at h2;exact h2
  exact (h1.and h3).imp fun h=>by omega
 have hm:(m.map key).Nodup:=(h.map key).nodup hn;refine List.Perm.eq_of_pairwise (le:=fun a b=>key a<key b) (fun a b _ _ h1 h2=>by omega) (hst l hn) (hst m hm) ?_;exact (ji l).trans (h.trans (ji m).symm)
theorem ShL.length {l m:List Cl}(h:ShL l m):l.length=m.length:=by
 obtain ⟨l1,hp,ha⟩:=h;rw[← hp.length_eq,ha.length]
abbrev Pr:=Int×Int
def Ring (adj:Pr→Pr→Bool)(l:List Pr):Prop:=l≠[]∧∀ x∈l,∃ y∈l,y≠x∧adj x y=true
def Cyc (adj:Pr→Pr→Bool)(m:List Pr):Prop:=∃ l,Ring adj l∧∀ x∈l,x∈m
inductive Pth (adj:Pr→Pr→Bool)(m:List Pr):Pr→Pr→Prop
 | one (x y:Pr) (hy:y∈m) (hne:y≠x) (ha:adj x y=true):Pth adj m x y
 | cons (x y z:Pr) (hy:y∈m) (hne:y≠x) (ha:adj x y=true) (h:Pth adj m y z):Pth adj m x z
def adjS (S:Int→List Int)(x y:Pr):Bool:=(S x.2).contains y.1
section
variable {p:Pr}{S:Int→List Int}{T:List Pr}
end
def Cg (l:List Cl)(h:Int):List Int:=((findC l h).getD bA).sides.map Side.cell
structure Vd (l:List Cl)(T:List Pr):Prop where
 once:(T.map Prod.fst++T.map Prod.snd).Nodup
 side:∀ q∈T,q.1∈Cg l q.2
 free:¬ Cyc (adjS (Cg l)) T
section
variable {l:List Cl}(hl:(aJ l).2=0)
include hl
end
structure Gd8 (l:List Cl):Prop where
 right:Rt (aa l)
 ids:∀ c∈l,0<c.id∧c.id≤4000
def dB:Enc Pr 2:=⟨fun p=>[vi p.1,vi p.2],fun _=>rfl,fun _ u hu=>by simp at hu; rcases hu with rfl | rfl <;> rfl,by decide⟩
theorem SU.indexAddrC {P:Program}{N:Nat}{f:Fr}{dst:Option Tmp}{ty:TypeId}{pos:String}{af:Array Edge}{gd:Option (Nat×Bool)}{x y:Operand}{T e:TypeId}{k n o:Nat}{i:Int}{v:Value}(hT:P.underlying T=some (.array n e))(hs:∀ w,(sizeOf e).run P w = .ok k w)
  (hx:ev f x=some (l9 v o)) (hb:based v=true) (hy:ev f y=some (vi i)) (h0:0≤i) (h1:i<n) :
  SU P N ⟨dst,.indexAddr T x y,ty,pos,af,gd⟩ f (l9 v (o+i.toNat * k)):=by
 cases v <;> simp[based] at hb
 rename_i p m c;cases p <;> simp at hb
 simp only[l9] at hx ⊢;have:=iB (P:=P) (N:=N) (dst:=dst) (ty:=ty) (pos:=pos) (af:=af) (gd:=gd) hT hs hx hy h0 h1;rwa [Nat.add_assoc] at this
theorem Tryz.sty33:STy Tryz.prog 33 60 2 16 (.agg #[vi 0,vi 0]):=⟨underlying33,⟨t60,by kernel_rfl,by kernel_rfl,by kernel_rfl,by kernel_rfl⟩,rfl,by decide⟩
theorem Tryz.build60 (a b:Int)(w:World):(Instr.build 60 #[(0,vi a),(1,vi b)]).run Tryz.prog w = .ok (.agg #[vi a,vi b]) w:=by
 have h1:∀ n,(vi n).cells = #[vi n]:=fun _=>rfl;simp[Instr.build,Instr.fill,h1];rfl
end Go.Proofs.YtackilpikhkijaaGreatDoor
namespace Go.Sy
open Go Go.MapKept
def mpE (b:Nat)(l:List (Int×Value))(j:Nat)(st:Int):Ent:=⟨some b,fun oo=>∃ es clk,oo=some (.map es clk)∧iT l es clk∧∃ e,es[j]?=some e∧(e.born:Int)=st⟩
section
variable {P:Program}{w:World}{t kt et:TypeId}{z:Value}{b:Nat}{es:Array MapEntry}{clk:Nat}{l:List (Int×Value)}
theorem mv (hT:MTy P t kt et z)(hb:w.heap[b]?=some (.map es clk))(hm:iT l es clk)(k:Int) :
  ∃ es' clk' st j l',(Instr.mapEntry t (.map (some b)) (vi k)).run P w = .ok (.tuple #[(dK l k).getD z,vi st]) { w with heap:=w.heap.setIfInBounds b (.map es' clk') }∧iT l' es' clk'∧(∃ e,es'[j]?=some e∧(e.born:Int)=st)∧(∃ u,l'[j]?=some (k,u))∧∀ u,eE l k u=l'.set j (k,u):=by
 have hf:=gi k es.toList l 0 hm.1;have h1:=MapKept.run_findKey (w:=w) hT.key hf;have h2:=MapKept.run_checkKey (P:=P) (w:=w) hT.key (k:=vi k) rfl false 9999;have hlen:es.toList.length=l.length:=by have:=congrArg List.length hm.1; simpa using this
 have hsz:es.size=l.length:=by simpa using hlen
 rcases mr k l 0 with ⟨hn,hne⟩ | ⟨j,u,hs,hj,hput⟩
 ·refine⟨es.push { key:=vi k,val:=z,born:=clk },clk+1,clk,l.length,l++[(k,z)],?_,⟨?_,?_⟩,?_,?_,?_⟩
  ·have hg:dK l k=none:=by unfold dK; rw[hn]; rfl
   rw[hn] at h1;rw[hg];simp[Instr.mapEntry,run_underlying hT.und,MapKept.run_getObj_map hb,h2,h1,hT.zero w,MapKept.run_setObj_map _ hb,goInt]
  ·simp[hm.1,i5,eC]
  ·refine stamped_push hm.2 ?_;intro x hx e;have:i5 x∈l.map eC:=by rw[← hm.1]; exact List.mem_map.2 ⟨x,hx,rfl⟩
   obtain ⟨p,hp,hpe⟩:=List.mem_map.1 this;simp only[eC,i5,Prod.mk.injEq] at hpe;refine hne p hp ?_;rw[e] at hpe;simpa using hpe.1
  ·refine⟨{ key:=vi k,val:=z,born:=clk },?_,I⟩;rw[← hsz];simp
  ·exact⟨z,by simp⟩
  ·intro u;rw[gt k u l hne];simp
 ·have hjl:j<es.toList.length:=by rw[hlen]; exact (List.getElem?_eq_some_iff.1 hj).1
  have hkey:(es.toList[j]).key=vi k:=by
   have h3:=congrArg (·[j]?) hm.1;simp only[List.getElem?_map,hj,Option.map_some,gE hjl,Option.some.injEq,i5,eC,Prod.mk.injEq] at h3;exact h3.1
  have hje:es[j]?=some es.toList[j]:=by simp at hjl; simp[hjl]
  have hg:dK l k=some u:=by unfold dK; rw[hs]; rfl
  rw[hs,Nat.zero_add] at h1;have hkey':∀ h:j<es.size,es[j].key=vi k:=fun h=>by simpa using hkey
  refine⟨es.modify j fun e=>{ e with key:=vi k },clk,(es.toList[j].born:Nat),j,l,?_,⟨?_,?_⟩,?_,⟨u,hj⟩,hput⟩
  ·have h4:=MapKept.run_keyThatStays (P:=P) (w:=w) (d:=.int .i64) (k:=vi k) rfl;rw[hg];simp[Instr.mapEntry,run_underlying hT.und,MapKept.run_getObj_map hb,h2,h1,hje,hkey',h4,MapKept.run_setObj_map _ hb,goInt]
  ·apply List.ext_getElem?;intro q;have h3:=congrArg (·[q]?) hm.1;simp only[List.getElem?_map] at h3;rw[List.getElem?_map,List.getElem?_map,Array.toList_modify,List.getElem?_modify];by_cases hq:j=q
   ·subst hq;rw[← h3];simp only[gE hjl,if_true,Option.map_some,i5];rw[hkey];rfl
   ·simp only[hq,if_false];simpa using h3
  ·exact stamped_modify hm.2 _ _ (fun _ _=>I) (fun e' _ he'=>by
    rw[hje] at he';injection he' with he'
    rw[← he',hkey])
  ·refine⟨{ es.toList[j] with key:=vi k },?_,I⟩;rw[Array.getElem?_modify,if_pos rfl,hje];rfl
theorem kW (hb:w.heap[b]?=some (.map es clk))(hm:iT l es clk){j:Nat}{e:MapEntry}(he:es[j]?=some e){k:Int}(hk:∃ u,l[j]?=some (k,u))(v:Value) :
  ∃ es' clk',(Instr.entryStore t (.map (some b)) (vi (e.born:Int)) v).run P w = .ok () { w with heap:=w.heap.setIfInBounds b (.map es' clk') }∧iT (l.set j (k,v)) es' clk':=by
 obtain ⟨u,hu⟩:=hk;have hlen:es.toList.length=l.length:=by have:=congrArg List.length hm.1; simpa using this
 obtain ⟨hj,hje⟩:=Array.getElem?_eq_some_iff.1 he;have hidx:es.findIdx? (fun x=>(x.born:Int) == (e.born:Int))=some j:=by
  rw[Array.findIdx?_eq_some_iff_getElem];refine⟨hj,by rw[hje]; simp,fun i hi h=>?_⟩;have hnd:=hm.2.2.1;have h5:(es[i]'oM).born=es[j].born:=by
   have h':(((es[i]'oM).born:Nat):Int)=(e.born:Int):=by simpa using h
   rw[hje];omega
  have h6:(es.toList.map (·.born))[i]'(by simp; omega)=(es.toList.map (·.born))[j]'(by simp; omega):=by simpa using h5
  have:=(List.getElem_inj hnd).1 h6;omega
 refine⟨es.modify j fun x=>{ x with val:=v },clk,?_,?_,?_⟩
 ·simp[Instr.entryStore,MapKept.run_getObj_map hb,asInt,asIntOf,hidx,MapKept.run_setObj_map _ hb]
 ·apply List.ext_getElem?;intro q;have h3:=congrArg (·[q]?) hm.1;simp only[List.getElem?_map] at h3;rw[List.getElem?_map,List.getElem?_map,List.getElem?_set,Array.toList_modify,List.getElem?_modify];by_cases hq:j=q
  ·subst hq;have hjl:j<l.length:=(List.getElem?_eq_some_iff.1 hu).1;have hjt:j<es.toList.length:=oM;rw[hu,gE hjt] at h3;simp only[Option.map_some,Option.some.injEq,i5,eC,Prod.mk.injEq] at h3;simp only[gE hjt,if_true,hjl,Option.map_some,eC];show some (es.toList[j].key,v)=some (vi k,v);rw[h3.1]
  ·simp only[hq,if_false];simpa using h3
 ·exact stamped_modify hm.2 _ _ (fun _ _=>I) (fun e' _ he'=>I)
end
section
variable {P:Program}{N:Nat}{E:World}{f:Fr}{g:PH}{s:Own}{dst:Option Tmp}{ty:TypeId}{pos:String}{af:Array Edge}{gd:Option (Nat×Bool)}
variable {t kt et:TypeId}{z:Value}{b:Nat}{l:List (Int×Value)}{x y u:Operand}{k:Int}{v:Value}
theorem SO.mapEntry (i:Nat)(hT:MTy P t kt et z)(hx:ev f x=some (.map (some b)))(hy:ev f y=some (vi k))(hi:s[i]?=some (mp b l)) :
  SO P N E ⟨dst,.mapEntry t x y,ty,pos,af,gd⟩ f g s fun v' g' s'=>∃ st j l',v' = .tuple #[(dK l k).getD z,vi st]∧g=g'∧s'=s.set i (mpE b l' j st)∧(∃ u,l'[j]?=some (k,u))∧∀ u,eE l k u=l'.set j (k,u) :=
 SO.of_run fun a w ha hw=>by
  obtain ⟨es,clk,h1,h2⟩:=hw.own _ (List.mem_of_getElem? hi);have hb:w.heap[b]?=some (.map es clk):=by simpa [mp] using h1
  obtain ⟨es',clk',st,j,l',hr,hm',he,hk,hp⟩:=mv hT hb h2 k;have hfr:=hw.fresh _ (List.mem_of_getElem? hi) b rfl;obtain ⟨e1,e2⟩:=MapKept.heap_set (o':=.map es' clk') hb;refine⟨_,_,g,s.set i (mpE b l' j st),by simp[execOp,ha.ev hx,ha.ev hy,hr]; rfl,?_,st,j,l',rfl,rfl,rfl,hk,hp⟩;refine hw.turn hi I ⟨I,(by exact lR _)⟩ I (by simp) (fun q _ hne=>e2 q (fun e=>hne (by simp[mp,e]))) ⟨es',clk',by simpa [mpE] using e1,hm',he⟩ (fun b' hb'=>?_);simp only[mpE,Option.some.injEq] at hb';subst hb';exact⟨by simpa using hfr.2,.inl I⟩
theorem SO.entryStore {j:Nat}{st:Int}(i:Nat)(hx:ev f x=some (.map (some b)))(hy:ev f y=some (vi st))(hu:ev f u=some v)(hi:s[i]?=some (mpE b l j st))(hk:∃ u,l[j]?=some (k,u)) :
  SO P N E ⟨dst,.entryStore t x y u,ty,pos,af,gd⟩ f g s fun _ g' s'=>g=g'∧s'=s.set i (mp b (l.set j (k,v))) :=
 SO.of_skip fun a w ha hw=>by
  obtain ⟨es,clk,h1,h2,e,he,hst⟩:=hw.own _ (List.mem_of_getElem? hi);have hb:w.heap[b]?=some (.map es clk):=by simpa [mpE] using h1
  subst hst;obtain ⟨es',clk',hr,hm'⟩:=kW (P:=P) (t:=t) hb h2 he hk v;have hfr:=hw.fresh _ (List.mem_of_getElem? hi) b rfl;obtain ⟨e1,e2⟩:=MapKept.heap_set (o':=.map es' clk') hb;refine⟨_,g,s.set i (mp b (l.set j (k,v))),by simp[execOp,ha.ev hx,ha.ev hy,ha.ev hu,hr]; rfl,?_,rfl,rfl⟩;refine hw.turn hi I ⟨I,(by exact lR _)⟩ I (by simp) (fun q _ hne=>e2 q (fun e=>hne (by simp[mpE,e]))) ⟨es',clk',by simpa [mp] using e1,hm'⟩ (fun b' hb'=>?_);simp only[mp,Option.some.injEq] at hb';subst hb';exact⟨by simpa using hfr.2,.inl I⟩
end
end Go.Sy
namespace Go.Sy
open Go
section
variable {P:Program}{M:Md}{N:Nat}{E:World}{Q:Exit→Act→World→Prop}{f:Fr}{g:PH}{s:Own}{dst:Option Tmp}{ty:TypeId}{pos:String}{af:Array Edge}{gd:Option (Nat×Bool)}
end
end Go.Sy
namespace Go.Proofs.YtackilpikhkijaaGreatDoor
open _root_.Go.Proofs.Tryz _root_.Go.Proofs.YtackilpikhkijaaGreatDoor.Tryz
open Go Go.Sy Go.Pl Go.Proofs
set_option maxRecDepth 100000
set_option maxHeartbeats 1000000
set_option maxHeartbeats 2000000
theorem rY (E:World)(g:PH)(s:Own)(v:Value)(l:List Cl)(hv:ao g v l)(hf:be l) :
  Ctr Tryz.prog E 46 #[.agg #[v]] g s (fun r g' s'=>r=vb (decide ((aJ l).2=0))∧g=g'∧s=s'):=by
 obtain ⟨q,d,rfl⟩:=hv.form;refine Ctr.of (args:=[.agg #[.slice q l.length d]]) func46 I ntmps46 (bE I) ?_;refine rZ (bW (bO I) fun b1=>?_);refine aT I (rZ (lK (qV 0 ar ag I I I) (lW (cL call49 I (oK E g _ _ l hv hf)) ?_)));rintro _ _ _ ⟨rfl,rfl,rfl⟩;refine lM I (lU (xT I I) (lU (xT I I) (lA I (aT I (sW I (lU (eQ I I) (aT I (rE (dR (s':=s) uR ?_)))))))));exact ST.ret1 (.inl I) results46 I ⟨I,I,I⟩
section
variable {P:Program}{N:Nat}{E:World}{f:Fr}{g:PH}{s:Own}{dst:Option Tmp}{ty:TypeId}{pos:String}{af:Array Edge}{gd:Option (Nat×Bool)}
variable {t kt et:TypeId}{z:Value}{b:Nat}{l:List (Int×Value)}{x y u:Operand}{k:Int}{v:Value}
theorem SO.insertK (i:Nat)(hT:MTy P t kt et z)(hx:ev f x=some (.map (some b)))(hy:ev f y=some (vi k))(hu:ev f u=some v)(hi:s[i]?=some (mp b l)) :
  SO P N E ⟨dst,.insert t x y u,ty,pos,af,gd⟩ f g s fun _ g' s'=>g=g'∧s'=s.set i (mp b (eE l k v)) :=
 SO.of_skip fun a w ha hw=>by
  obtain ⟨es,clk,h1,h2⟩:=hw.own _ (List.mem_of_getElem? hi);have hb:w.heap[b]?=some (.map es clk):=by simpa [mp] using h1
  obtain ⟨es',clk',hr,hm'⟩:=iG hT hb h2 k v;have hfr:=hw.fresh _ (List.mem_of_getElem? hi) b rfl;obtain ⟨e1,e2⟩:=MapKept.heap_set (o':=.map es' clk') hb;refine⟨_,g,s.set i (mp b (eE l k v)),by simp[execOp,ha.ev hx,ha.ev hy,ha.ev hu,hr]; rfl,?_,rfl,rfl⟩;refine hw.turn hi I ⟨I,(by exact lR _)⟩ I (by simp) (fun q _ hne=>e2 q (fun e=>hne (by simp[mp,e]))) ⟨es',clk',by simpa [mp] using e1,hm'⟩ (fun b' hb'=>?_);simp only[mp,Option.some.injEq] at hb';subst hb';exact⟨by simpa using hfr.2,.inl I⟩
end
def k4:List (Int×Value):=[(1,.func (.func 78) #[] #[]),(2,.func (.func 79) #[] #[]),(3,.func (.func 80) #[] #[]),(4,.func (.func 81) #[] #[]),(5,.func (.func 82) #[] #[])]
theorem Tryz.mtyKinds:∃ z,MTy Tryz.prog 94 3 92 z:=⟨_,rfl,rfl,fun _=>rfl⟩
theorem li (E:World)(g:PH)(s:Own):Ctr Tryz.prog E 45 #[] g s (fun r g' s'=>s=s'∧Le g g'∧∃ b,r = .map (some b)∧Mp g' b k4):=by
 obtain ⟨z,hty⟩:=Tryz.mtyKinds;refine Ctr.of (args:=[]) func45 I ntmps45 (bE I) ?_;refine rZ (aT I (rZ (lW (SO.mkMap) ?_)));rintro _ _ _ ⟨b1,rfl,rfl,rfl⟩;refine lO (SO.insertK 0 hty I I I I) ?_;rintro _ _ _ ⟨rfl,rfl⟩;refine lO (SO.insertK 0 hty I I I I) ?_;rintro _ _ _ ⟨rfl,rfl⟩;refine lO (SO.insertK 0 hty I I I I) ?_;rintro _ _ _ ⟨rfl,rfl⟩;refine lO (SO.insertK 0 hty I I I I) ?_;rintro _ _ _ ⟨rfl,rfl⟩;refine lO (SO.insertK 0 hty I I I I) ?_;rintro _ _ _ ⟨rfl,rfl⟩;refine lM I (aT I (rE ?_));refine ST.to (g':=g) (s':=mp b1 k4::s) (fun w hw=>hw) ?_;refine ST.freezeMap fun g1 hle1 hm=>?_;exact ST.ret1 (.inl I) results45 I ⟨I,hle1,b1,I,hm⟩
end Go.Proofs.YtackilpikhkijaaGreatDoor
namespace Go.Sy
open Go Go.MapKept
def qu:List (Int×Value)→Int→List (Int×Value)
 | [],_=>[]
 | (a,v)::r,k=>if k=a then r else (a,v)::qu r k
theorem qO (k:Int):∀ (l:List (Int×Value)),(∀ p∈l,p.1≠k)→qu l k=l
 | [],_=>rfl
 | (a,u)::r,h=>by
  have h1:k≠a:=fun e=>h (a,u) (by simp) e.symm;simp only[qu,h1,if_false,qO k r (fun p hp=>h p (by simp[hp]))]
theorem wN (k:Int):∀ (l:List (Int×Value)) (i:Nat),(fnd k l i=none∧∀ p∈l,p.1≠k)∨∃ j v,fnd k l i=some (i+j,v)∧j<l.length∧qu l k=l.eraseIdx j
 | [],_=>.inl ⟨rfl,by simp⟩
 | (a,v)::r,i=>by
  by_cases h:k=a
  ·subst h;exact .inr ⟨0,v,by simp[fnd],by simp,by simp[qu]⟩
  ·rcases wN k r (i+1) with ⟨h1,h2⟩ | ⟨j,v',h1,h2,h3⟩
   ·refine .inl ⟨by simp[fnd,h,h1],fun p hp=>?_⟩
    rcases List.mem_cons.1 hp with e | e
    ·rw[e]; exact fun e2=>h e2.symm
    ·exact h2 p e
   ·exact .inr ⟨j+1,v',by simp[fnd,h,h1]; omega,by simpa using h2,by simp[qu,h,h3]⟩
theorem mR {α β:Type}(f:α→β):∀ (l:List α) (j:Nat),(l.eraseIdx j).map f=(l.map f).eraseIdx j
 | [],_=>rfl
 | _::_,0=>rfl
 | x::l,j+1=>congrArg (List.cons (f x)) (mR f l j)
section
variable {P:Program}{w:World}{t kt et ty:TypeId}{z:Value}{b:Nat}{es:Array MapEntry}{clk:Nat}{l:List (Int×Value)}
theorem nV (hT:MTy P t kt et z)(hb:w.heap[b]?=some (.map es clk))(hm:iT l es clk)(k:Int) :
  ∃ es' clk',(Builtin.delete_ #[t,kt] ty #[.map (some b),vi k]).run P w = .ok (.tuple #[]) { w with heap:=w.heap.setIfInBounds b (.map es' clk') }∧iT (qu l k) es' clk':=by
 have hf:=gi k es.toList l 0 hm.1;have h1:=MapKept.run_findKey (w:=w) hT.key hf;have h2:=MapKept.run_checkKey (P:=P) (w:=w) hT.key (k:=vi k) rfl es.isEmpty 9999;have hlen:es.toList.length=l.length:=by have:=congrArg List.length hm.1; simpa using this
 rcases wN k l 0 with ⟨hn,hne⟩ | ⟨j,u,hs,hj,hdel⟩
 ·refine⟨es,clk,?_,?_⟩
  ·rw[hn] at h1;simp[Builtin.delete_,run_underlying hT.und,MapKept.run_getObj_map hb,h2,h1,MapKept.run_setObj_map _ hb,Result.andThen]
  ·rw[qO k l hne];exact hm
 ·rw[hs,Nat.zero_add] at h1;refine⟨es.eraseIdxIfInBounds j,clk,?_,?_,stamped_erase hm.2 j⟩
  ·simp[Builtin.delete_,run_underlying hT.und,MapKept.run_getObj_map hb,h2,h1,MapKept.run_setObj_map _ hb,Result.andThen]
  ·have hjs:j<es.size:=by
    have h3:j<es.toList.length:=oM;simpa using h3
   rw[hdel];unfold Array.eraseIdxIfInBounds;rw[dif_pos hjs,Array.toList_eraseIdx,mR,hm.1,← mR]
end
section
variable {P:Program}{N:Nat}{E:World}{ops:Array Oper}{Q:Exit→Act→World→Prop}{f:Fr}{g:PH}{s:Own}{dst:Option Tmp}{ty:TypeId}{pos:String}{af:Array Edge}{gd:Option (Nat×Bool)}
variable {t kt et:TypeId}{z:Value}{b:Nat}{l:List (Int×Value)}{x y:Operand}{k:Int}
theorem SO.delete (i:Nat)(hT:MTy P t kt et z)(hx:ev f x=some (.map (some b)))(hy:ev f y=some (vi k))(hi:s[i]?=some (mp b l)) :
  SO P N E ⟨dst,.call ⟨.builtin .delete,#[x,y],#[t,kt]⟩,ty,pos,af,gd⟩ f g s fun _ g' s'=>g=g'∧s'=s.set i (mp b (qu l k)) :=
 SO.of_run fun a w ha hw=>by
  obtain ⟨es,clk,h1,h2⟩:=hw.own _ (List.mem_of_getElem? hi);have hb:w.heap[b]?=some (.map es clk):=by simpa [mp] using h1
  obtain ⟨es',clk',hr,hm'⟩:=nV (ty:=ty) hT hb h2 k;have hfr:=hw.fresh _ (List.mem_of_getElem? hi) b rfl;obtain ⟨e1,e2⟩:=MapKept.heap_set (o':=.map es' clk') hb;refine⟨_,_,g,s.set i (mp b (qu l k)),by simp[execOp,resolve,invoke,builtin,ha.ev hx,ha.ev hy,hr]; exact⟨I,I⟩,?_,I,I⟩;refine hw.turn hi I ⟨I,(by exact lR _)⟩ I (by simp) (fun q _ hne=>e2 q (fun e=>hne (by simp[mp,e]))) ⟨es',clk',by simpa [mp] using e1,hm'⟩ (fun b' hb'=>?_);simp only[mp,Option.some.injEq] at hb';subst hb';exact⟨by simpa using hfr.2,.inl I⟩
end
end Go.Sy
namespace Go.Sy
open Go
section
variable {P:Program}{N:Nat}{E:World}{f:Fr}{g:PH}{s:Own}{dst:Option Tmp}{ty:TypeId}{pos:String}{af:Array Edge}{gd:Option (Nat×Bool)}
theorem SQ.sof {o:Oper}{v:Value}(h:SQ P N E o f g s v):SO P N E o f g s fun v' g' s'=>v'=v∧g=g'∧s=s':=SO.mono h.so fun _ _ _ ⟨h1,h2,h3⟩=>⟨h1,h2.symm,h3.symm⟩
theorem SQ.loadOne {x:Operand}{T:TypeId}{b o:Nat}{v:Value}(hT:∀ w,(isAgg T).run P w = .ok true w)(hk:∀ w,(sizeOf T).run P w = .ok 1 w)(hx:ev f x=some (pp b o))(hc:gP g s ⟨b,o,none⟩ v) :
  SQ P N E ⟨dst,.load T x,ty,pos,af,gd⟩ f g s (.agg #[v]) :=
 SQ.loadAggAt (vs:=[v]) hT hk hx rfl fun j u hu=>by
  cases j with
  | zero=>simp at hu; subst hu; exact hc
  | succ j=>simp at hu
end
section
variable {α:Type}{k:Nat}{P:Program}{N:Nat}{E:World}{f:Fr}{g:PH}{s:Own}{dst:Option Tmp}{ty:TypeId}{pos:String}{af:Array Edge}{gd:Option (Nat×Bool)}
theorem SO.appNewA {e:Enc α k}{bytes:Nat}{x y:Operand}{t T:TypeId}{z u:Value}{p:Option Addr}{m:List α}(hT:STy P t T k bytes z)(hx:ev f x=some (.slice p 0 0))(hy:ev f y=some u)(hu:SlA e g u m)
  (hb:m.length * bytes≤140737488355328) (hlen:m.length≤4611686018427387904) :
  SO P N E ⟨dst,.call ⟨.builtin .append,#[x,y],#[t,t]⟩,ty,pos,af,gd⟩ f g s fun v' g' s'=>g=g'∧s'=rowA e T v' m::s:=fun a w ha hw =>
 aQ (e:=e) (l:=[]) (s:=rowA e T (.slice p 0 0) []::s) 0 hT hx hy rfl hu (by simpa using hb) (by simpa using hlen) a w ha (hw.emptyRow T k p)
end
section
variable {P:Program}{N:Nat}{E:World}{f:Fr}{g:PH}{s:Own}{fn:Func}{R:Value→PH→Own→Prop}{e:Exit}
theorem ST.retCCT {T U T' U':TypeId}{t t' u b b' k k':Nat}{cs cs':Array Value}{fr fr':Nat×Nat}{x:Value}(i i':Nat)(s':Own)(he:e = .ret∨e = .normal)(hr:fn.results = #[.cell t T,.cell t' T',.tmp u])(hv:a8 f t=some (pp b 0))(hv':a8 f t'=some (pp b' 0))(hu:a8 f u=some x)
  (hT:∀ w,(isAgg T).run P w = .ok true w) (hk:∀ w,(sizeOf T).run P w = .ok k w) (hT':∀ w,(isAgg T').run P w = .ok true w) (hk':∀ w,(sizeOf T').run P w = .ok k' w)
  (hs:s[i]?=some (pt b (.cells cs U fr))) (hc:cs.size=k) (hsb:s[i']?=some (pt b' (.cells cs' U' fr'))) (hc':cs'.size=k') (hs':s'.Sublist s) (hR:R (.tuple #[.agg cs,.agg cs',x]) g s'):ST N E (bodyPost P fn (mC E R)) e f g s :=
 fun a w ha hw=>by
  have h1:=dV (P:=P) hw hT (by rw[hc]; exact hk) hs;have h1':=dV (P:=P) hw hT' (by rw[hc']; exact hk') hsb;have h2:=ha.at_ t _ hv;have h2':=ha.at_ t' _ hv';have h5:=ha.at_ u _ hu;simp only[Array.getD_eq_getD_getElem?] at h2 h2' h5;have h3:(results fn a.tmps).run P w = .ok (.tuple #[.agg cs,.agg cs',x]) w:=by simp[results,hr,asAddr,pp,h2,h2',h1,h1',h5]
  have h4:mC E R (.returned (.tuple #[.agg cs,.agg cs',x])) w:=⟨_,g,s',rfl,hw.sublist hs',hR⟩
  rcases he with rfl | rfl
  ·exact⟨ha.defers,_,h3,h4⟩
  ·exact⟨ha.defers,_,h3,h4⟩
end
end Go.Sy
namespace Go.Proofs.YtackilpikhkijaaGreatDoor
open _root_.Go.Proofs.Tryz _root_.Go.Proofs.YtackilpikhkijaaGreatDoor.Tryz
open Go Go.Sy Go.Pl Go.Proofs
def dZ:List Cl→Cl→List Cl
 | [],c=>[c]
 | x::l,c=>if c.id=x.id then c::l else x::dZ l c
def ij:List Rc→Rc→List Rc
 | [],c=>[c]
 | x::l,c=>if c.id=x.id then c::l else x::ij l c
def nP:List Cl→Int→List Cl
 | [],_=>[]
 | x::l,k=>if k=x.id then l else x::nP l k
def mB:List Rc→Int→List Rc
 | [],_=>[]
 | x::l,k=>if k=x.id then l else x::mB l k
theorem iu (r:Rc):∀ rs:List Rc,eE (rs.map ak) r.id (rcv r)=(ij rs r).map ak
 | []=>rfl
 | x::rs=>by
  simp only[List.map_cons,ak,eE,ij];by_cases h:r.id=x.id
  ·rw[if_pos h,if_pos h]; rfl
  ·rw[if_neg h,if_neg h];exact congrArg _ (iu r rs)
theorem mE (k:Int):∀ rs:List Rc,qu (rs.map ak) k=(mB rs k).map ak
 | []=>rfl
 | x::rs=>by
  simp only[List.map_cons,ak,qu,mB];by_cases h:k=x.id
  ·rw[if_pos h,if_pos h]
  ·rw[if_neg h,if_neg h];exact congrArg _ (mE k rs)
theorem jj {R:Cl→Rc→Prop}(hR:∀ c r,R c r→r.id=c.id){c:Cl}{r:Rc}(h:R c r):∀ {B:List Cl} {rs:List Rc},aC R B rs→aC R (dZ B c) (ij rs r)
 | [],[],_=>⟨h,trivial⟩
 | x::B,y::rs,h2=>by
  have e1:=hR _ _ h;have e2:=hR _ _ h2.1;unfold dZ ij;rw[e1,e2];split
  ·exact⟨h,h2.2⟩
  ·exact⟨h2.1,jj hR h h2.2⟩
 | [],_::_,h2=>h2.elim
 | _::_,[],h2=>h2.elim
theorem kj {R:Cl→Rc→Prop}(hR:∀ c r,R c r→r.id=c.id)(k:Int):∀ {B:List Cl} {rs:List Rc},aC R B rs→aC R (nP B k) (mB rs k)
 | [],[],_=>trivial
 | x::B,y::rs,h2=>by
  have e2:=hR _ _ h2.1;unfold nP mB;rw[e2];split
  ·exact h2.2
  ·exact⟨h2.1,kj hR k h2.2⟩
 | [],_::_,h2=>h2.elim
 | _::_,[],h2=>h2.elim
theorem mn {c:Cl}:∀ {B:List Cl},(∀ x∈B,x.id≠c.id)→dZ B c=B++[c]
 | [],_=>rfl
 | x::B,h=>by
  have h1:¬ c.id=x.id:=fun e=>h x (by simp) e.symm;unfold dZ;rw[if_neg h1,mn fun y hy=>h y (by simp[hy])];rfl
theorem uh {c:Rc}:∀ {B:List Rc},(∀ x∈B,x.id≠c.id)→ij B c=B++[c]
 | [],_=>rfl
 | x::B,h=>by
  have h1:¬ c.id=x.id:=fun e=>h x (by simp) e.symm;unfold ij;rw[if_neg h1,uh fun y hy=>h y (by simp[hy])];rfl
theorem ui {c y:Cl}:∀ {B:List Cl},y∈dZ B c→y=c∨y∈B
 | [],h=>by simpa [dZ] using h
 | x::B,h=>by
  unfold dZ at h;split at h
  ·rcases List.mem_cons.1 h with e | e
   ·exact .inl e
   ·exact .inr (by simp[e])
  ·rcases List.mem_cons.1 h with e | e
   ·exact .inr (by simp[e])
   ·rcases ui e with e | e
    ·exact .inl e
    ·exact .inr (by simp[e])
theorem fk {c:Cl}:∀ {B:List Cl},(B.map Cl.id).Nodup→((dZ B c).map Cl.id).Nodup
 | [],_=>by simp[dZ]
 | x::B,h=>by
  rw[List.map_cons,List.nodup_cons] at h;unfold dZ;split
  ·rename_i e;rw[List.map_cons,List.nodup_cons,e];exact h
  ·rename_i e;rw[List.map_cons,List.nodup_cons];refine⟨fun hm=>?_,fk h.2⟩;obtain ⟨y,hy,e2⟩:=List.mem_map.1 hm
   rcases ui hy with e3 | e3
   ·exact e (by rw[← e3]; exact e2)
   ·exact h.1 (by rw[← e2]; exact List.mem_map.2 ⟨y,e3,I⟩)
theorem ns (k:Int):∀ {B:List Cl},(B.map Cl.id).Nodup→nP B k=B.filter fun c=>!decide (c.id=k)
 | [],_=>rfl
 | x::B,h=>by
  rw[List.map_cons,List.nodup_cons] at h;unfold nP;by_cases e:k=x.id
  ·rw[if_pos e,List.filter_cons];have h1:∀ y∈B,(!decide (y.id=k))=true:=fun y hy=>by
    have:y.id≠k:=fun e2=>h.1 (by rw[← e,← e2]; exact List.mem_map.2 ⟨y,hy,rfl⟩);simpa using this
   rw[List.filter_eq_self.2 h1];simp[e]
  ·rw[if_neg e,List.filter_cons,ns k h.2];have:(!decide (x.id=k))=true:=by simpa using fun e2=>e e2.symm
   rw[if_pos this]
theorem qB {α:Type}{key:α→Int}{l m:List α}(h:l.Perm m)(hn:(l.map key).Nodup):aF key l m:=by
 refine⟨h.length_eq.symm,fun c=>?_⟩;have hp:=h.filter (fun a=>key a == c);have hone:∀ q:List α,(q.map key).Nodup→(q.filter fun a=>key a == c).length≤1:=by
  intro q;induction q with
  | nil=>intro _; simp
  | cons x r ih =>
   intro hq;rw[List.map_cons,List.nodup_cons] at hq;rw[List.filter_cons];by_cases e:(key x == c)=true
   ·rw[if_pos e];have:r.filter (fun a=>key a == c)=[]:=jZ fun y hy e2=>hq.1 (by
     have e1:key x=c:=by simpa using e
     rw[e1,← e2];exact List.mem_map.2 ⟨y,hy,I⟩)
    rw[this];simp
   ·rw[if_neg e];exact ih hq.2
 have h1:=hone l hn
 match hl:l.filter (fun a=>key a == c),hm:m.filter (fun a=>key a == c) with
 | [],[]=>rfl
 | [],y::t=>rw[hl,hm] at hp; exact absurd hp.length_eq (by simp)
 | x::t,[]=>rw[hl,hm] at hp; exact absurd hp.length_eq (by simp)
 | x::t,y::u =>
  rw[hl,hm] at hp;rw[hl] at h1;have ht:t=[]:=List.eq_nil_of_length_eq_zero (by simpa using h1);subst ht;have:=hp.length_eq;have hu:u=[]:=List.eq_nil_of_length_eq_zero (by simpa using this.symm);subst hu;have:=hp.subset (List.mem_cons_self ..);simp at this;rw[this]
theorem sh {l m:List Cl}(h:l.Perm m)(hn:(l.map Cl.id).Nodup):aa l=aa m:=by
 have:sortBy Cl.id l=sortBy Cl.id m:=(co l).unique (co m) ((dP l).symm.trans ((qB h hn).trans (dP m)));unfold aa;rw[this]
set_option maxRecDepth 100000
set_option maxHeartbeats 1000000
structure Ed where
 kind:Int
 cell:Int
 dim:Int
 new:Int
 other:Int
 sides:List Side
 pairs:List Pr
def EdR (g:PH)(v:Value)(e:Ed):Prop:=∃ sv pv,v = .agg #[vi e.kind,vi e.cell,vi e.dim,vi e.new,vi e.other,sv,pv]∧SlA encSide g sv e.sides∧SlA dB g pv e.pairs
theorem EdR.mono {g g':PH}{v:Value}{e:Ed}(h:EdR g v e)(hl:Le g g'):EdR g' v e:=by
 obtain ⟨sv,pv,h1,h2,h3⟩:=h;exact⟨sv,pv,h1,SlA.mono h2 hl,SlA.mono h3 hl⟩
abbrev edP (bx:Nat)(u:Value)(mb ms:Nat)(bk:Bool):Ent:=pt bx (.cells #[u,.map (some mb),.map (some ms),vb bk] 129 (0,0))
theorem Tryz.build129 (u:Value)(h:u.cells = #[u])(x y:Option Nat)(w:World):(Instr.build 129 #[(0,.agg #[u]),(1,.map x),(2,.map y)]).run Tryz.prog w = .ok (.agg #[u,.map x,.map y,vb false]) w:=by
 have h2:∀ x,(Value.map x).cells = #[.map x]:=fun _=>rfl;have h3:(Value.agg #[u]).cells = #[u]:=rfl;simp[Instr.build,Instr.fill,h2,h3];rfl
theorem vX {R:Cl→Rc→Prop}(hR:∀ c r,R c r→r.id=c.id){tl:List Cl}{rs:List Rc}(h:aC R tl rs)(k:Int):∃ r,(dK (rs.map ak) k).getD (.agg #[vi 0,vi 0,.slice none 0 0])=rcv r∧(dK (rs.map ak) k).isSome=(aA tl k).isSome:=by
 rcases fl hR h k with ⟨h1,h2⟩ | ⟨c,r,h1,h2,h3⟩
 ·exact⟨rA,by rw[h2]; rfl,by unfold aA; rw[h1,h2]; rfl⟩
 ·exact⟨r,by rw[h2]; rfl,by unfold aA; rw[h1,h2]; rfl⟩
theorem sC (E:World)(g:PH)(s:Own)(v:Value)(l:List Side)(hv:SlA encSide g v l)(hn:l.length<1099511627776) :
  Ctr Tryz.prog E 83 #[v] g s (fun r g' s'=>g=g'∧s'=rowA encSide 55 r l::s):=by
 obtain ⟨p,c,rfl⟩:=SlA.form hv;refine Ctr.of (args:=[.slice p l.length c]) func83 I ntmps83 (bE I) ?_;refine rZ (aT I (sQ (sW I (lU (SU.eqlNil aN I I) (tZ ?_)))));refine iQ I (fun hp=>?_) (fun hp=>?_)
 ·refine rZ (aT I (rE (tR ?_)));have hl:l=[]:=by
   cases l with
   | nil=>rfl
   | cons x r =>
    have hb:=SlA.based hv (by simp);cases p with
    | none=>simp[based] at hb
    | some q=>simp at hp
  subst hl;refine ST.nilRow 55 2 ?_;exact ST.ret1 (.inl I) results83 I ⟨I,I⟩
 ·refine kP (tN (rZ (lW (bS sty32 I I I (ae trivial) dC) ?_)));rintro _ _ _ ⟨b5,rfl,rfl,rfl⟩;refine SL.emptyRow 55 2 (some ⟨b5,0,none⟩) (lM I (lW (SO.appendE (m:=l.length) 0 l.length (l.flatMap encSide.enc) sty32 I I I I I (Sl.rd hv) (encSide.length l) (encSide.ones l) oM (by simp) oM oM) ?_));rintro r7 _ _ ⟨rfl,rfl⟩;refine aT I (rE (dR (s':=rowA encSide 55 r7 l::s) (.cons_cons _ (.cons _ (.refl _))) ?_));exact ST.ret1 (.inl I) results83 I ⟨I,I⟩
theorem y7 (E:World)(g:PH)(s:Own)(v:Value)(l:List Cl)(hv:ao g v l)(hf:be l)(hnd:((aa l).map Cl.id).Nodup) :
  Ctr Tryz.prog E 47 #[.agg #[v]] g s (fun r g' s'=>Le g g'∧∃ bx u mb ms rs,r=pp bx 0∧ao g' u (aa l)∧aC jJ (aa l) rs∧s'=edP bx u mb ms false::mp mb (rs.map ak)::mp ms []::(f5 (aa l) rs++s)):=by
 have hfc:=bg hf;refine Ctr.of (args:=[.agg #[v]]) func47 I ntmps47 (bE I) ?_;refine rZ (bW (bO I) fun b1=>?_);refine aT I (rZ (lK (qV 0 ar ag I I I) (lW (cL call55 I (jE E g _ v l hv hf)) ?_)));rintro _ g1 _ ⟨rfl,hle1,u,rfl,hc⟩;have hcc:=hc;obtain ⟨rs,hrs,hall⟩:=hc;obtain ⟨q,d,rfl⟩:=SlA.form hrs;refine lW (SO.mkMap) ?_;rintro _ _ _ ⟨b8,rfl,rfl,rfl⟩;refine lW (SO.mkMap) ?_;rintro _ _ _ ⟨b9,rfl,rfl,rfl⟩;refine lU (SU.build I (build129 _ I _ _)) (bW (bO I) fun b11=>?_);refine aT I (sQ (sW I (lU (nC I) (lU (fA cX I ag I) (lU (fA c8 I cj I) (lK (qL dS I (cO 0 I I)) (lU (eN aH I) (lM I (tZ (bK ?_))))))))));generalize aa l=A at *;have hrl:=hall.length;have hAl:=hfc.1;refine oP (ι:=Nat×List Rc) (fun i=>[(3,pp b11 0),(16,.slice q rs.length d),(17,vi rs.length),(18,vi i.1)]) (fun _=>g1)
  (fun i=>edP b11 (.slice q rs.length d) b8 b9 false::mp b9 []::mp b8 (i.2.map ak)::pt b1 (.cells #[v] 29 (0,0))::(f5 (A.take i.1) i.2++s))
  (fun i=>i.1≤rs.length∧aC jJ (A.take i.1) i.2) (fun i=>rs.length - i.1) (0,[])
  sB rfl rfl ⟨Nat.zero_le _,by simp[aC]⟩ ?_
 rintro ⟨k,acc⟩ ⟨hk,hacc⟩;dsimp only at hk hacc ⊢;have hal:=hacc.length;refine rZ (lU (lS I I) (tZ (sQ ?_)));refine iP I (fun hlt=>?_) (fun hlt=>?_)
 ·have hkr:k<rs.length:=oM;have hkl:k<A.length:=oM;have hb1:=SlA.based hrs oM;have hcr:=hall.get (gE hkl) (gE hkr);have hgx:rs[((k:Nat):Int).toNat]?=some rs[k]:=gE hkr;have htk:A.take (k+1)=A.take k++[A[k]]:=tS hkl;have hxl:=hfc.2 _ (gM hkl);have hnew:∀ x∈acc,x.id≠A[k].id:=fun x hx=>by
   obtain ⟨i,hi,rfl⟩:=List.getElem_of_mem hx;have hi2:i<(A.take k).length:=oM;have hi3:i<k:=by rw[List.length_take] at hi2; omega
   have h1:=(hacc.get (gE hi2) (gE hi)).1;rw[h1,List.getElem_take];intro e;have h2:=List.pairwise_iff_getElem.1 (List.nodup_iff_pairwise_ne.1 hnd) i k (by rw[List.length_map]; omega) (by rw[List.length_map]; omega) hi3;simp only[List.getElem_map] at h2;exact h2 e
  generalize rs[k]=x at *;generalize A[k]=cx at *;obtain ⟨xi,xd,xp,xn,xc⟩:=x;obtain ⟨e1,e2,hxsl⟩:=hcr;dsimp only at e1 e2 hxsl;have hxn:xn=cx.sides.length:=Sl.slen hxsl;subst hxn e1 e2;refine kP (tN (sQ (bK (rZ (lU (iA aH au I I hb1 oM (show (k:Int)<((rs.length:Nat):Int) by omega)) ?_)))));refine lK (eA du au I (SlA.rd hrs) hgx) (bW (aL zeroValue53) fun b5=>?_);refine oZ (sK 0 au I I I I I sB) ?_;refine tZ (rZ (lU (fA aq I aU I) (lK (qL (v:=.slice xp cx.sides.length xc) bw I (cO 0 I I)) (lW (cL call83 I (sC E g1 _ _ cx.sides hxsl hxl)) ?_))));rintro v24 _ _ ⟨rfl,rfl⟩;refine SL.facts fun ⟨w0,hw0⟩=>?_;obtain ⟨q2,d2,rfl⟩:=ah (e:=encSide) (l:=cx.sides) (i:=0) hw0 rfl;clear hw0 w0;refine lU (fA aq rfl aU rfl) (oZ (SO.store1 1 aU rfl rfl rfl rfl (bE rfl) (by rfl)) ?_);refine tZ ?_;refine dW [7] [(0,2),(1,2),(2,2),(3,1),(4,2),(5,1),(6,1),(7,0)] Tryz.mixed kR ?_;refine pU I (mV I) (pU I (nC I) (pU I (fA cX I dX I) (pK I (qL dY I (cO 2 I I)) (pU I (fA aq I zT3 I) (pK I (qL iT3 I (cO 1 I I)) (pK I (qV 1 du au I I I) (SP.on I (SO.mapUpdate 4 mty104 I I I I) (.inl dC) ?_)))))));rintro _ _ _ ⟨rfl,rfl⟩;refine pN (bN (tN (rG (lU (aD I I oM) (lM I (nL ?_))))));refine ST.to (fun w hw=>?_) (g':=g1) (s':=edP b11 (.slice q rs.length d) b8 b9 false::mp b9 []::mp b8 ((acc++[(⟨cx.id,cx.dim,⟨q2,cx.sides.length,d2⟩⟩:Rc)]).map ak)::pt b1 (.cells #[v] 29 (0,0))::(f5 (A.take (k+1)) (acc++[(⟨cx.id,cx.dim,⟨q2,cx.sides.length,d2⟩⟩:Rc)])++s)) ?_
  ·rw[htk,nm cx _ hal];have hput:eE (acc.map ak) cx.id (rcv ⟨cx.id,cx.dim,⟨q2,cx.sides.length,d2⟩⟩)=(acc++[(⟨cx.id,cx.dim,⟨q2,cx.sides.length,d2⟩⟩:Rc)]).map ak:=by
    rw[← uh hnew];exact iu ⟨cx.id,cx.dim,⟨q2,cx.sides.length,d2⟩⟩ acc
   rw[← hput];have h1:=(hw.sublist (s':=yF cx ⟨cx.id,cx.dim,⟨q2,cx.sides.length,d2⟩⟩::(edP b11 (.slice q rs.length d) b8 b9 false::mp b9 []::mp b8 (eE (acc.map ak) cx.id (rcv ⟨cx.id,cx.dim,⟨q2,cx.sides.length,d2⟩⟩))::pt b1 (.cells #[v] 29 (0,0))::f5 (A.take k) acc)++s) (.cons_cons _ (.cons _ (.refl _))));have h2:=h1.perm List.perm_middle.symm;simpa using h2
  exact gA (k+1,_) sB I I ⟨by dsimp only; omega,by
   dsimp only;rw[htk];exact hacc.append ⟨⟨I,I,I⟩,trivial⟩⟩ (by dsimp only; omega)
 ·have hkk:A.take k=A:=tL oM;rw[hkk] at hacc ⊢;refine xI (tX (tX (bX (tN (sW I (aT I (rE ?_)))))));refine ST.to (g':=g1) (s':=edP b11 (.slice q rs.length d) b8 b9 false::mp b8 (acc.map ak)::mp b9 []::(f5 A acc++s)) (fun w hw=>(hw.perm (List.Perm.cons _ (List.Perm.swap _ _ _))).sublist (.cons_cons _ (.cons_cons _ (.cons_cons _ (.cons _ (.refl _)))))) ?_;exact ST.ret1 (.inl I) results47 I ⟨hle1,b11,_,b8,b9,acc,I,hcc,hacc,I⟩
theorem bM (E:World)(g:PH)(s:Own)(bx mb ms:Nat)(u:Value)(bk:Bool)(k:Int)(R:Cl→Rc→Prop)(hR:∀ c r,R c r→r.id=c.id)(B:List Cl)(rs:List Rc)(hall:aC R B rs)(i j:Nat)(hi:s[i]?=some (edP bx u mb ms bk))(hj:s[j]?=some (mp mb (rs.map ak))) :
  Ctr Tryz.prog E 121 #[pp bx 0,vi k] g s (fun r g' s'=>r=vb (aA B k).isSome∧g=g'∧s=s'):=by
 obtain ⟨x,hx1,hx2⟩:=vX hR hall k;refine Ctr.of (args:=[pp bx 0,vi k]) func121 I ntmps121 (bE I) ?_;refine rZ (aT I (sW I (lU (nC I) (lU (fA cX I dX I) (lK (qL (v:=.map (some mb)) dY I (cO i hi I)) (lM I (lK (SQ.eq (v':=.tuple #[rcv x,vb (aA B k).isSome]) (SQ.lookupOk mty104 I I (cw.own j hj)) (by rw[hx1,hx2])) ?_)))))));refine lM I (lU (xT I I) (lU (xT I I) (bW (aL zeroValue53) fun b5=>?_)));refine oZ (sK 0 au I I I I I sB) ?_;refine aT I (sW I (aT I (rE (dR (s':=s) uR ?_))));exact ST.ret1 (.inl I) results121 I ⟨I,I,I⟩
theorem tI (E:World)(g:PH)(s:Own)(bx mb ms:Nat)(u v:Value)(bk:Bool)(e:Ed)(B:List Cl)(rs:List Rc)(hall:aC (aw g) B rs)(i j:Nat)(hi:s[i]?=some (edP bx u mb ms bk))(hj:s[j]?=some (mp mb (rs.map ak)))(he:EdR g v e)(hes:e.sides.length<1099511627776) :
  Ctr Tryz.prog E 78 #[pp bx 0,v] g s (fun r g' s'=>Le g g'∧((r=vi 54∧(aA B e.cell).isSome=true∧s=s')∨(r=vi 0∧(aA B e.cell).isSome=false∧∃ rs',aC (aw g') (dZ B ⟨e.cell,e.dim,e.sides⟩) rs'∧s'=s.set j (mp mb (rs'.map ak))))):=by
 obtain ⟨sv,pv,rfl,hsv,hpv⟩:=he;obtain ⟨sp,sc,rfl⟩:=SlA.form hsv;refine Ctr.of (args:=[pp bx 0,.agg #[vi e.kind,vi e.cell,vi e.dim,vi e.new,vi e.other,.slice sp e.sides.length sc,pv]]) func78 I ntmps78 (bE I) ?_;refine rZ (bW (bO I) fun b3=>?_);refine aT I (sQ (sW I (lU (fA aK I zT3 I) (lK (qL iT3 I (cO 0 I I)) (lW (cL call121 I (bM E g _ bx mb ms u bk e.cell _ (fun _ _ h=>h.1) B rs hall (i+1) (j+1) hi hj)) ?_)))));rintro _ _ _ ⟨rfl,rfl,rfl⟩;refine tZ ?_;refine iQ I (fun hp=>?_) (fun hp=>?_)
 ·refine rZ (aT I (rE (tR (dR (s':=s) uR ?_))));exact ST.ret1 (.inl I) results78 I ⟨Le.refl _,.inl ⟨I,hp,I⟩⟩
 ·refine kP (tN (sQ ?_));refine dW [14] [(0,2),(1,2),(2,2),(3,1),(4,2),(5,1),(6,2),(7,1),(8,2),(9,1),(10,2),(11,1),(12,0),(13,2),(14,0)] Tryz.mixed kR ?_;refine pU I (mV I) (pU I (nC I) (pU I (fA cX I dX I) (pK I (qL (v:=.map (some mb)) dY I (cO (i+1) hi I)) (pU I (fA aK I zT3 I) (pK I (qL iT3 I (cO 0 I I)) (pU I (fA aK I zT3 I) (pK I (qL iT3 I (cO 0 I I)) (pU I (fA aK I zT3 I) (pK I (qL iT3 I (cO 0 I I)) (pU I (fA aK I aU I) (pK I (qL (v:=.slice sp e.sides.length sc) bw I (cO 0 I I)) (SP.o I (cL call83 I (sC E g _ _ e.sides hsv hes)) dC (.inr iR) ?_))))))))))));rintro v21 _ _ ⟨rfl,rfl⟩;refine SP.freezeRow fun g2 hle2 hs2=>?_;obtain ⟨q2,d2,rfl⟩:=Sl.form hs2;refine pU I (SU.build I (buildF53 _ _ _ I)) (SP.on I (SO.mapUpdate (j+1) mty104 I I I hj) (.inl dC) ?_);rintro _ _ _ ⟨rfl,rfl⟩;refine pN (tN (rZ (aT I (rE (dR (s':=s.set j (mp mb (eE (rs.map ak) e.cell (rcv ⟨e.cell,e.dim,⟨q2,e.sides.length,d2⟩⟩)))) (.cons _ (.refl _)) ?_)))));refine ST.ret1 (.inl I) results78 I ⟨hle2,.inr ⟨I,hp,ij rs ⟨e.cell,e.dim,⟨q2,e.sides.length,d2⟩⟩,jj (fun _ _ h=>h.1) ⟨I,I,hs2⟩ (hall.mono fun _ _=>aw.mono hle2),?_⟩⟩;rw[← iu]
theorem td (E:World)(g:PH)(s:Own)(bx mb ms:Nat)(u v:Value)(bk:Bool)(e:Ed)(A B:List Cl)(rs:List Rc)(hu:ao g u A)(hf:be A)(hall:aC (aw g) B rs)(i j:Nat)(hi:s[i]?=some (edP bx u mb ms bk))(hj:s[j]?=some (mp mb (rs.map ak)))(hij:j≠i)(he:EdR g v e) :
  Ctr Tryz.prog E 79 #[pp bx 0,v] g s (fun r g' s'=>Le g g'∧((r=vi 30∧(aA B e.cell).isSome=false∧s=s')∨(r=vi 31∧(aA B e.cell).isSome=true∧0<(aj A e.cell).length∧s=s')∨(r=vi 0∧(aA B e.cell).isSome=true∧aj A e.cell=[]∧s'=(s.set j (mp mb ((mB rs e.cell).map ak))).set i (edP bx u mb ms true)))):=by
 obtain ⟨sv,pv,rfl,hsv,hpv⟩:=he;obtain ⟨p,c,rfl⟩:=hu.form;refine Ctr.of (args:=[pp bx 0,.agg #[vi e.kind,vi e.cell,vi e.dim,vi e.new,vi e.other,sv,pv]]) func79 I ntmps79 (bE I) ?_;refine rZ (bW (bO I) fun b3=>?_);refine aT I (sQ (bK (sW I (lU (fA aK I zT3 I) (lK (qL iT3 I (cO 0 I I)) (lW (cL call121 I (bM E g _ bx mb ms _ bk e.cell _ (fun _ _ h=>h.1) B rs hall (i+1) (j+1) hi hj)) ?_))))));rintro _ _ _ ⟨rfl,rfl,rfl⟩;refine lU (SU.not I) (aT I ?_);refine iQ I (fun hp=>?_) (fun hp=>?_)
 ·refine rZ (aT I (rE (bR (tR (dR (s':=s) uR ?_)))));exact ST.ret1 (.inl I) results79 I ⟨Le.refl _,.inl ⟨I,by simpa using hp,I⟩⟩
 ·have hp2:(aA B e.cell).isSome=true:=by simpa using hp
  refine sQ ?_;refine dW [] [(0,2),(1,2),(2,2),(3,1),(4,2),(5,1),(6,0),(7,2),(8,2),(9,2)] Tryz.mixed kR ?_;refine pU I (mV I) (pU I (nC I) (pU I (fA cX I ag I) (pK I (SQ.loadOne ar ag I (cO (v:=.slice p A.length c) (i+1) hi I)) (pU I (fA aK I zT3 I) (pK I (qL iT3 I (cO 0 I I)) (SP.o I (cL call122 I (fm E g _ _ A e.cell hu hf)) dC (.inr iR) ?_))))));rintro v18 g1 _ ⟨rfl,hle1,ha⟩;obtain ⟨q2,d2,rfl⟩:=SlA.form ha;refine pU I (eN aI I) (pU I (gR I I) (pU I (aS I) (pN (tN ?_))));refine iP I (fun ha0=>?_) (fun ha0=>?_)
  ·refine rZ (aT I (rE (bR (tR (dR (s':=s) uR ?_)))));exact ST.ret1 (.inl I) results79 I ⟨hle1,.inr (.inl ⟨I,hp2,oM,I⟩)⟩
  ·have hi2:(s.set j (mp mb (qu (rs.map ak) e.cell)))[i]?=some (edP bx (.slice p A.length c) mb ms bk):=by rw[List.getElem?_set_ne hij]; exact hi
   refine kP (bN (tN (sQ ?_)));refine dW [6] [(0,2),(1,2),(2,2),(3,1),(4,2),(5,1),(6,0)] Tryz.mixed kR ?_;refine pU I (mV I) (pU I (nC I) (pU I (fA cX I dX I) (pK I (qL (v:=.map (some mb)) dY I (cO (i+1) hi I)) (pU I (fA aK I zT3 I) (pK I (qL iT3 I (cO 0 I I)) (SP.on I (SO.delete (j+1) mty104 I I hj) (.inl dC) ?_))))));rintro _ _ _ ⟨rfl,rfl⟩;refine pN (tN (sW I (lU (nC I) (lU (fA cX I zT4 I) (oZ (SO.store1 (i+1) zT4 I I hi2 I (bE I) I) (tZ (rZ (aT I (rE (dR (s':=(s.set j (mp mb (qu (rs.map ak) e.cell))).set i (edP bx (.slice p A.length c) mb ms true)) (.cons _ (.refl _)) ?_))))))))));refine ST.ret1 (.inl I) results79 I ⟨hle1,.inr (.inr ⟨I,hp2,List.eq_nil_of_length_eq_zero oM,by rw[← mE]⟩)⟩
theorem vk (E:World)(g:PH)(s:Own)(bx mb ms:Nat)(u:Value)(bk:Bool)(B:List Cl)(rs:List Rc)(hall:aC (aw g) B rs)(hn:(B.map Cl.id).Nodup)(hf:be B)(hm:Mp g mb (rs.map ak))(i:Nat)(hi:s[i]?=some (edP bx u mb ms bk)) :
  Ctr Tryz.prog E 48 #[pp bx 0] g s (fun r g' s'=>s=s'∧Le g g'∧∃ u',r = .agg #[u']∧gz (mns g' g) u' (aa B)):=by
 obtain ⟨es,clk,hes,hmi⟩:=hm;have hrl:=hall.length;have hBl:=hf.1;refine Ctr.of (args:=[pp bx 0]) func48 I ntmps48 (bE I) ?_;refine rZ (bW (aL zeroValue29) fun b2=>?_);refine tZ (rZ (bW (aL zeroValue29) fun b3=>?_));refine tZ (sQ (sW I (lU (nC I) (lU (fA cX I dX I) (lK (qL (v:=.map (some mb)) dY I (cO (i+2) hi I)) (lW (SO.range underlying104 I hes) ?_))))));rintro _ _ _ ⟨it,rfl,rfl,rfl⟩;refine tZ (bK (SC.nilRow 53 3 ?_));refine oP (ι:=List MapEntry×List Rc×List Cl×Value) (fun _=>[(2,pp b2 0),(3,pp b3 0),(10,pp it 0)]) (fun _=>g)
  (fun i=>rowA encCell 53 i.2.2.2 i.2.1::eP it mb es clk i.1::pt b3 (.cells #[i.2.2.2] 29 (0,0))::pt b2 (.cells #[.slice none 0 0] 29 (0,0))::s)
  (fun i=>kf (rs.map ak) es i.1 (i.2.1.map ak)∧aC (aw g) i.2.2.1 i.2.1∧(∀ c∈i.2.2.1,c∈B)) (fun i=>rs.length - i.2.1.length)
  ([],[],[],.slice none 0 0) sB rfl rfl ⟨kf.nil _ _,trivial,by simp⟩ ?_
 rintro ⟨vis,acc,vc,ov⟩ ⟨hrv,hacc,hvs⟩;dsimp only at hrv hacc hvs ⊢;have hvle:=hrv.len hmi;simp only[List.length_map] at hvle;have hal:=hacc.length;refine rZ (lW (SO.nextP 1 I I hes hmi hrv) ?_);rintro _ _ _ ⟨rfl,hcase⟩
 rcases hcase with ⟨rfl,rfl,hperm⟩ | ⟨e,pr,he,hp1,hk1,hv1,hrv2,rfl,rfl⟩
 ·have hpv:vc.Perm B:=rI (by rw[List.map_map,iI hacc]; rfl) hvs hn hall hperm;have hcn:aa vc=aa B:=sh hpv ((hpv.map Cl.id).symm.nodup hn);have hvf:be vc:=⟨by have:=hpv.length_eq; omega,fun c hc=>hf.2 c (hvs c hc)⟩;refine lU (xT I I) (tZ (sQ (SC.condF I (xI (tX (tX (bX (tN (sQ (fS fun g2 hle2 hs2=>?_))))))))));obtain ⟨q2,d2,rfl⟩:=Sl.form hs2;refine rG (lK (qV 1 ar ag I I I) (lW (cL call55 I (mX E g2 _ _ vc ⟨acc,hs2,hacc.mono fun _ _=>aw.mono hle2⟩ hvf)) ?_));rintro _ g3 _ ⟨rfl,hle3,u3,rfl,hu3⟩;rw[hcn] at hu3;have hu4:=hu3.cells (jw _ _);obtain ⟨q3,d3,rfl⟩:=hu4.form;refine oZ (sK 2 ag I I I I I sB) ?_;refine tZ (rE ?_);exact ST.retCD 2 s (.inl I) results48 I ar ag I I uR ⟨I,hle2.trans hle3,_,I,hu3.mono (mq hle2)⟩
 ·obtain ⟨x,hx,rfl⟩:=List.mem_map.1 hp1;obtain ⟨cx,hcm,hcx⟩:=uJ hall hx;refine lU (xT I I) (tZ (sQ (SC.condT I (kP (tN (bK (rZ (lK (SQ.entryP 1 I I hes hmi he hk1 hv1) (lU (xT I I) (bW (aL zeroValue53) fun b5=>?_))))))))));refine oZ (sK 0 au I I I I I sB) ?_;refine tZ ?_;refine SC.to (g':=g) (s':=pt b5 (.cells #[vi x.id,vi x.dim,.slice x.sv.p x.sv.n x.sv.c] 53 (0,0))::rowA encCell 53 ov acc::eP it mb es clk (vis++[e])::pt b3 (.cells #[ov] 29 (0,0))::pt b2 (.cells #[.slice none 0 0] 29 (0,0))::s) (fun w hw=>hw) ?_;refine rG (lU (fA c8 I cj I) (lK (qL dS I (cO 3 I I)) (lK (qV 0 du au I I I) (lW (bS sty27 I I I (ae sB) dC) ?_))));rintro _ _ _ ⟨b18,rfl,rfl,rfl⟩;refine lW (aP (e:=encCell) 1 x sty27 I I I I I oM oM) ?_;rintro ov' _ _ ⟨rfl,rfl⟩;refine SL.facts fun ⟨w0,hw0⟩=>?_;obtain ⟨q',d',rfl⟩:=ah (e:=encCell) (l:=acc++[x]) (i:=1) hw0 rfl;clear hw0 w0;refine lU (fA c8 I cj I) (oZ (sK 3 cj I I I I I sB) ?_);refine nL (bN (dR (.cons _ (.refl _)) ?_));exact gA (vis++[e],acc++[x],vc++[cx],_) sB I I ⟨by dsimp only; rw[List.map_append]; exact hrv2,hacc.append ⟨hcx,trivial⟩,fun c hc=>by
   rcases List.mem_append.1 hc with h | h
   ·exact hvs c h
   ·simp at h; rw[h]; exact hcm⟩ (by
   have:=hrv2.len hmi;simp only[List.length_map,List.length_append,List.length_singleton] at this ⊢;omega)
abbrev Tm:=Int×Int
def yB (n:Int):Bool:=decide (n<0)&&decide (qv n.natAbs≠[])
def bV:Enc Tm 3:=⟨fun p=>[vi p.1,vb (yB p.2),txt (qv p.2.natAbs)],fun _=>rfl,fun _ u hu=>by simp at hu; rcases hu with rfl | rfl | rfl <;> rfl,by decide⟩
structure Im where
 cell:Int
 sv:Sv
def jh:Enc Im 2:=⟨fun r=>[vi r.cell,.slice r.sv.p r.sv.n r.sv.c],fun _=>rfl,fun _ u hu=>by simp at hu; rcases hu with rfl | rfl <;> rfl,by decide⟩
def ImR (g:PH)(c:Int×List Tm)(r:Im):Prop:=r.cell=c.1∧SlA bV g (.slice r.sv.p r.sv.n r.sv.c) c.2
theorem ImR.mono {g g':PH}(hl:Le g g'){c:Int×List Tm}{r:Im}(h:ImR g c r):ImR g' c r:=⟨h.1,SlA.mono h.2 hl⟩
def Ims (g:PH)(v:Value)(l:List (Int×List Tm)):Prop:=∃ rs,SlA jh g v rs∧aC (ImR g) l rs
theorem Ims.mono {g g':PH}{v:Value}{l:List (Int×List Tm)}(h:Ims g v l)(hl:Le g g'):Ims g' v l:=by
 obtain ⟨rs,h1,h2⟩:=h;exact⟨rs,SlA.mono h1 hl,h2.mono fun _ _=>ImR.mono hl⟩
theorem Tryz.build77 (x:Int)(b:Bool)(l:List UInt8)(w:World):(Instr.build 77 #[(0,vi x),(1,.agg #[vb b,txt l])]).run Tryz.prog w = .ok (.agg #[vi x,vb b,txt l]) w:=by
 have h1:(vi x).cells = #[vi x]:=rfl;have h2:(Value.agg #[vb b,txt l]).cells = #[vb b,txt l]:=rfl;simp[Instr.build,Instr.fill,h1,h2];rfl
theorem Tryz.build113 (x:Int)(p:Option Addr)(n c:Nat)(w:World):(Instr.build 113 #[(0,vi x),(1,.slice p n c)]).run Tryz.prog w = .ok (.agg #[vi x,.slice p n c]) w:=by
 have h1:(vi x).cells = #[vi x]:=rfl;have h2:(Value.slice p n c).cells = #[.slice p n c]:=rfl;simp[Instr.build,Instr.fill,h1,h2];rfl
theorem Tryz.buildB46 (b:Bool)(w:World):(Instr.build 46 #[(1,vb b)]).run Tryz.prog w = .ok (.agg #[.slice none 0 0,vb b]) w:=by
 have h1:(vb b).cells = #[vb b]:=rfl;simp[Instr.build,Instr.fill,h1];rfl
theorem Tryz.mty127:MTy Tryz.prog 127 3 72 (.slice none 0 0):=⟨underlying127,underlying3,zeroValue72⟩
theorem Tryz.sty72:STy Tryz.prog 72 77 3 32 (.agg #[vi 0,vb false,txt []]):=⟨underlying72,⟨t77,by kernel_rfl,by kernel_rfl,by kernel_rfl,by kernel_rfl⟩,rfl,by decide⟩
theorem Tryz.sty42:STy Tryz.prog 42 113 2 32 (.agg #[vi 0,.slice none 0 0]):=⟨underlying42,⟨t113,by kernel_rfl,by kernel_rfl,by kernel_rfl,by kernel_rfl⟩,rfl,by decide⟩
theorem jb (E:World)(g:PH)(s:Own)(c n:Int)(h0 : -9223372036854775808≤n)(h1:n<9223372036854775808) :
  Ctr Tryz.prog E 87 #[vi c,vi n] g s (fun r g' s'=>r = .agg (bV.enc (c,n)).toArray∧s=s'∧Le g g'):=by
 refine Ctr.of (args:=[vi c,vi n]) func87 I ntmps87 (bE I) ?_;refine rZ (bW (aL zeroValue77) fun b4=>?_);refine tZ (sW I (lM I (lW (cL call129 I (xX E g _ n h0 h1)) ?_)));rintro _ g1 _ ⟨rfl,rfl,hle1⟩;refine lU (SU.build I (build77 _ _ _)) (oZ (sK 0 sizeOf77 I I I I I sB) ?_);refine tZ (rE ?_);exact ST.retCD 0 s (.inl I) results87 I isAgg77 sizeOf77 I I uR ⟨I,I,hle1⟩
def fN (c:Cl):Int×List Tm:=(c.id,[(c.id,1)])
set_option maxHeartbeats 2000000
theorem Ctr.freezeO {P:Program}{E:World}{n:FuncId}{args:Array Value}{g:PH}{L s:Own}{R:Value→PH→Own→Prop}{A:List Cl}{rs:List Rc}(hO:aC jJ A rs)
  (h:∀ g1,Le g g1→aC (aw g1) A rs→Ctr P E n args g1 (L++s) R):Ctr P E n args g (L++(f5 A rs++s)) R:=fun w hw=>by
 have h1:(L++(f5 A rs++s)).Perm (f5 A rs++(L++s)):=by
  rw[← List.append_assoc,← List.append_assoc];exact List.perm_append_comm.append_right s
 obtain ⟨g1,h2,h3,h4⟩:=Go.Proofs.YtackilpikhkijaaGreatDoor.freezeO hO (hw.perm h1);exact h g1 h2 h4 w h3
def oX (fv:Value)(e:Ed)(A:List Cl)(code:Int)(B:List Cl)(bk:Bool):Prop :=
 ∀ (E:World) (g:PH) (s:Own) (bx mb ms:Nat) (u v:Value) (rs:List Rc),ao g u A→aC jJ A rs→EdR g v e →
  dn Tryz.prog E fv [pp bx 0,v] g (edP bx u mb ms false::mp mb (rs.map ak)::mp ms []::(f5 A rs++s)) (fun r g' s'=>Le g g'∧r=vi code∧(if code=0 then ∃ rs',aC (aw g') B rs'∧s'=edP bx u mb ms bk::mp mb (rs'.map ak)::mp ms []::s else ∃ h,s'=h++s))
def gn (A:List Cl)(e:Ed):Int:=if (aA A e.cell).isSome then 54 else 0
def jC (A:List Cl)(e:Ed):Int:=if (aA A e.cell).isSome then (if 0<(aj A e.cell).length then 31 else 0) else 30
theorem vR (A:List Cl)(e:Ed)(he:e.sides.length<1099511627776):oX (.func (.func 78) #[] #[]) e A (gn A e) (dZ A ⟨e.cell,e.dim,e.sides⟩) false:=by
 intro E g s bx mb ms u v rs hu hO hv;refine dn.mk (args:=[_,_]) (cap:=[]) call78 ?_;refine Ctr.freezeO (L:=[edP bx u mb ms false,mp mb (rs.map ak),mp ms []]) hO fun g1 hle1 hall=>?_;refine (tI E g1 _ bx mb ms u v false e A rs hall 0 1 I I (hv.mono hle1) he).mono ?_;rintro r g' s' ⟨hle,h⟩;refine⟨hle1.trans hle,?_⟩;unfold gn
 rcases h with ⟨rfl,h1,rfl⟩ | ⟨rfl,h1,rs',h2,rfl⟩
 ·rw[h1];exact⟨I,[edP bx u mb ms false,mp mb (rs.map ak),mp ms []],I⟩
 ·rw[h1];exact⟨I,rs',h2,I⟩
theorem vn (A:List Cl)(hf:be A)(e:Ed):oX (.func (.func 79) #[] #[]) e A (jC A e) (nP A e.cell) true:=by
 intro E g s bx mb ms u v rs hu hO hv;refine dn.mk (args:=[_,_]) (cap:=[]) call79 ?_;refine Ctr.freezeO (L:=[edP bx u mb ms false,mp mb (rs.map ak),mp ms []]) hO fun g1 hle1 hall=>?_;refine (td E g1 _ bx mb ms u v false e A A rs (hu.mono hle1) hf hall 0 1 I I dC (hv.mono hle1)).mono ?_;rintro r g' s' ⟨hle,h⟩;refine⟨hle1.trans hle,?_⟩;unfold jC
 rcases h with ⟨rfl,h1,rfl⟩ | ⟨rfl,h1,h2,rfl⟩ | ⟨rfl,h1,h2,rfl⟩
 ·rw[h1];exact⟨I,[edP bx u mb ms false,mp mb (rs.map ak),mp ms []],I⟩
 ·rw[h1,if_pos rfl,if_pos h2];exact⟨I,[edP bx u mb ms false,mp mb (rs.map ak),mp ms []],I⟩
 ·rw[h1,h2];exact⟨I,mB rs e.cell,(kj (fun _ _ h=>h.1) e.cell hall).mono fun _ _=>aw.mono hle,I⟩
theorem qT {α:Type}(L r:List α)(k:Nat):(L++r)[L.length+k]?=r[k]?:=by
 rw[List.getElem?_append_right oM,Nat.add_sub_cancel_left]
def aR (code:Int)(B:List Cl):Int×List Cl :=
 if code≠0 then (code,[]) else if (aJ (aa B)).2≠0 then ((aJ (aa B)).2,[]) else (0,aa B)
theorem Tryz.buildZ46 (w:World):(Instr.build 46 #[]).run Tryz.prog w = .ok (.agg #[.slice none 0 0,vb false]) w:=by
 simp[Instr.build,Instr.fill];rfl
theorem ao.nil (g:PH):ao g (.slice none 0 0) []:=⟨[],Sl.nil g _,trivial⟩
theorem kA (E:World)(g:PH)(s:Own)(v:Value)(l:List Cl)(hv:ao g v l)(hf:be l)(b:Bool)(hb:decide ((aJ l).2=0)=b) :
  Ctr Tryz.prog E 46 #[.agg #[v]] g s (fun r g' s'=>r=vb b∧g=g'∧s=s'):=by
 subst hb;exact rY E g s v l hv hf
open Go.ChangeShapes Go.WideShapes Go.ChangeAt Go.RowKit
set_option maxRecDepth 100000
section
variable {H:Type}{enc:TypeId×Value→H}{W:World}{base:Nat}{spare:Nat→Bool}{hd:Bool}
end
theorem dT (E:World)(g:PH)(s:Own)(c n:Int)(h0 : -9223372036854775808≤n)(h1:n<9223372036854775808) :
  Ctr Tryz.prog E 113 #[vi c,vi n] g s (fun r g' s'=>r = .agg (bV.enc (c,n)).toArray∧s=s'∧Le g g'):=by
 refine Ctr.of (args:=[vi c,vi n]) func113 I ntmps113 (bE I) ?_;refine rZ (bW (aL zeroValue77) fun b4=>?_);refine tZ (sW I (lM I (lW (cL call28 I (lL E g _ n h0 h1)) ?_)));rintro _ g1 _ ⟨rfl,rfl,hle1⟩;refine lU (SU.build I (build77 _ _ _)) (oZ (sK 0 sizeOf77 I I I I I sB) ?_);refine tZ (rE ?_);exact ST.retCD 0 s (.inl I) results113 I isAgg77 sizeOf77 I I uR ⟨I,I,hle1⟩
theorem cU (E:World)(g:PH)(s:Own)(v:Value)(l:List Cl)(id:Int)(hv:ao g v l)(hf:be l) :
  Ctr Tryz.prog E 110 #[.agg #[v],vi id] g s (fun r g' s'=>r=vb (findC l id).isSome∧s=s'∧Le g g'):=by
 refine Ctr.of (args:=[.agg #[v],vi id]) func110 I ntmps110 (bE I) ?_;refine rZ (bW (bO I) fun b2=>?_);refine aT I (rZ (lK (qV 0 ar ag I I I) (lM I (lW (cL call41 I (bo E g _ v l id hv hf)) ?_))));rintro _ g1 _ ⟨rfl,hle1,⟨yi,yd,yp,yn,yc⟩,rfl,hc⟩;refine lM I (lU (xT I I) (lU (xT I I) (bW (aL zeroValue53) fun b5=>?_)));refine oZ (sK 0 au I I I I I sB) ?_;refine aT I (sW I (aT I (rE (dR (s':=s) uR ?_))));exact ST.ret1 (.inl I) results110 I ⟨I,I,hle1⟩
theorem mS {α β:Type}(f:α→β){l:List α}{k:Nat}(h:k<l.length):(l.take (k+1)).map f=(l.take k).map f++[f l[k]]:=by
 rw[tS h,List.map_append];rfl
theorem fp (E:World)(g:PH)(s:Own)(v:Value)(l:List Cl)(hv:ao g v l)(hf:be l) :
  Ctr Tryz.prog E 111 #[.agg #[v]] g s (fun r g' s'=>s=s'∧Le g g'∧∃ iv,r = .agg #[iv]∧Ims g' iv ((am l).map fN)):=by
 have hft:=(bJ hf).1;refine Ctr.of (args:=[.agg #[v]]) func111 I ntmps111 (bE I) ?_;refine rZ (bW (bO I) fun b1=>?_);refine bW (aL zeroValue44) fun b2=>?_;refine tZ (rZ (bW (aL zeroValue44) fun b3=>?_));refine tZ (rZ (lK (qV 2 ar ag I I I) (lW (cL call66 I (df E g _ v l hv hf)) ?_)));rintro v7 g1 _ ⟨rfl,hle1,hc⟩;obtain ⟨rs,hrs,hall⟩:=hc;obtain ⟨p,c,rfl⟩:=SlA.form hrs;refine aT I (sQ (rZ (aT I (bK ?_))));generalize am l=T at *;have hrl:=hall.length;refine SC.nilRow 113 2 ?_;refine oP (ι:=Nat×PH×Value×List Im) (fun i=>[(2,pp b2 0),(3,pp b3 0),(4,.slice p rs.length c),(5,vi i.1)]) (fun i=>i.2.1)
  (fun i=>rowA jh 113 i.2.2.1 i.2.2.2::pt b3 (.cells #[i.2.2.1] 44 (0,0))::pt b2 (.cells #[.slice none 0 0] 44 (0,0))::pt b1 (.cells #[v] 29 (0,0))::s)
  (fun i=>i.1≤rs.length∧Le g1 i.2.1∧aC (ImR i.2.1) ((T.take i.1).map fN) i.2.2.2) (fun i=>rs.length - i.1) (0,g1,.slice none 0 0,[])
  sB rfl rfl ⟨Nat.zero_le _,Le.refl _,by simp[aC]⟩ ?_
 rintro ⟨k,g2,ov,acc⟩ ⟨hk,hle2,hacc⟩;dsimp only at hk hle2 hacc ⊢;have hal:=hacc.length;rw[List.length_map,List.length_take] at hal;refine sQ (sW I (lM I (lU (eN aH I) (lU (lS I I) (tZ ?_)))));refine iP I (fun hlt=>?_) (fun hlt=>?_)
 ·have hkr:k<rs.length:=oM;have hkl:k<T.length:=oM;have hb1:=SlA.based hrs oM;have hcr:=hall.get (gE hkl) (gE hkr);have hgx:rs[((k:Nat):Int).toNat]?=some rs[k]:=gE hkr;have htk:=mS fN hkl;generalize rs[k]=x at *;generalize T[k]=cx at *;obtain ⟨xi,xd,xp,xn,xc⟩:=x;obtain ⟨e1,e2,-⟩:=hcr;dsimp only at e1 e2;subst e1 e2;refine kP (tN (sQ (bK ?_)));refine dW [16,18] [(0,2),(1,1),(2,2),(3,2),(4,2),(5,2),(6,1),(7,2),(8,2),(9,2),(10,2),(11,1),(12,0),(13,0),(14,2),(15,0),(16,0),(17,2),(18,0)] Tryz.mixed kR ?_;refine pU I (fA mA I km I) (pK I (qL isAgg42 I (cO 1 I I)) (pU I (mV I) (pU I (mV I) (pU I (iA aH au I I hb1 oM (show (k:Int)<((rs.length:Nat):Int) by omega)) ?_))));refine pU I (fC aq I zT3 I hb1) (pK I (aZ (e:=encCell) (o:=0) iT3 I (SlA.rd (SlA.mono hrs hle2)) hgx I) (pU I (mV I) (pU I (mV I) (pU I (iA aH au I I hb1 oM (show (k:Int)<((rs.length:Nat):Int) by omega)) ?_))));refine pU I (fC aq I zT3 I hb1) (pK I (aZ (e:=encCell) (o:=0) iT3 I (SlA.rd (SlA.mono hrs hle2)) hgx I) (SP.o I (cL call113 I (dT E g2 _ cx.id 1 dC dC)) dC (.inr iR) ?_));rintro _ g3 _ ⟨rfl,rfl,hle3⟩;refine SP.o I (bS sty72 I I I (ae ⟨I,trivial⟩) dC) dC (.inr iR) ?_;rintro _ _ _ ⟨b27,rfl,rfl,rfl⟩;refine SP.freeze fun g4 hle4 hb4=>?_;have hch:SlA bV g4 (.slice (some ⟨b27,0,none⟩) 1 1) [(cx.id,1)]:=SlA.lit hb4 rfl rfl;have hle24:=hle3.trans hle4;refine pU I (SU.build I (build113 _ _ _ _)) (SP.o I (bS sty42 I I I (ae sB) dC) dC (.inr iR) ?_);rintro _ _ _ ⟨b29,rfl,rfl,rfl⟩;refine SP.o I (aP (e:=jh) 0 ⟨cx.id,⟨some ⟨b27,0,none⟩,1,1⟩⟩ sty42 I I I I I oM oM) dC (.inl dC) ?_;rintro ov' _ _ ⟨rfl,rfl⟩;refine SP.facts fun ⟨w0,hw0⟩=>?_;obtain ⟨q',d',rfl⟩:=ah (e:=jh) (l:=acc++[⟨cx.id,⟨some ⟨b27,0,none⟩,1,1⟩⟩]) (i:=0) hw0 rfl;clear hw0 w0;refine pU I (fA mA I km I) (SP.on I (sK 1 km I I I I I sB) (.inl dC) ?_);rintro _ _ _ ⟨rfl,rfl⟩;refine pN (bN (tN (rG (lM I (lU (aD I I oM) (lA I (nL ?_)))))));exact gA (k+1,g4,_,acc++[⟨cx.id,⟨some ⟨b27,0,none⟩,1,1⟩⟩]) sB I I ⟨by dsimp only; omega,hle2.trans hle24,by
   dsimp only;rw[htk];exact (hacc.mono fun _ _=>ImR.mono hle24).append ⟨⟨I,hch⟩,trivial⟩⟩ (by dsimp only; omega)
 ·have hkk:T.take k=T:=tL oM;rw[hkk] at hacc;refine xI (tX (tX (bX (tN (sQ (fS fun g3 hle3 hs3=>?_))))));obtain ⟨q3,d3,rfl⟩:=Sl.form hs3;refine rG (lK (qV 0 isAgg44 j9 I I I) (oZ (sK 1 j9 I I I I I sB) ?_));refine tZ (rE ?_);exact ST.retCD 1 s (.inl I) results111 I isAgg44 j9 I I uR ⟨I,hle1.trans (hle2.trans hle3),_,I,acc,hs3,hacc.mono fun _ _=>ImR.mono hle3⟩
set_option maxHeartbeats 4000000
theorem Tryz.buildS46 (p:Option Addr)(n c:Nat)(w:World):(Instr.build 46 #[(0,.agg #[.slice p n c])]).run Tryz.prog w = .ok (.agg #[.slice p n c,vb false]) w:=by
 have h1:(Value.agg #[Value.slice p n c]).cells = #[.slice p n c]:=rfl;simp[Instr.build,Instr.fill,h1];rfl
def Aq (code:Int)(D:List Cl)(ims:List (Int×List Tm))(bk:Bool)(r:Value)(g':PH):Prop:=∃ u p n c,r = .tuple #[.agg #[u],.agg #[.slice p n c,vb bk],vi code]∧ao g' u D∧(code=0→Ims g' (.slice p n c) ims)
theorem Ims.form {g:PH}{v:Value}{l:List (Int×List Tm)}(h:Ims g v l):∃ p n c,v = .slice p n c:=by
 obtain ⟨rs,h1,h2⟩:=h;obtain ⟨p,c,e⟩:=SlA.form h1;exact⟨p,_,c,e⟩
theorem nY (E:World)(g:PH)(s:Own)(v ev:Value)(l:List Cl)(e:Ed)(hv:ao g v l)(hf:be l)(he:EdR g ev e)(hes:e.sides.length<1099511627776)(code:Int)(hcode:code=if (findC l e.cell).isSome then 54 else 0) :
  Ctr Tryz.prog E 70 #[.agg #[v],ev] g s (fun r g' s'=>s=s'∧Le g g'∧Aq code (if code=0 then l++[⟨e.cell,e.dim,e.sides⟩] else l) ((am l).map fN) false r g'):=by
 obtain ⟨sv,pv,rfl,hsv,hpv⟩:=he;obtain ⟨sp,sc,rfl⟩:=SlA.form hsv;obtain ⟨pq,pc,rfl⟩:=SlA.form hpv;have hv0:=hv;obtain ⟨rs,hrs,hall⟩:=hv;have hlen:=hall.length;have hfl:=hf.1;obtain ⟨p,c,rfl⟩:=SlA.form hrs;refine Ctr.of (args:=[.agg #[.slice p rs.length c],.agg #[vi e.kind,vi e.cell,vi e.dim,vi e.new,vi e.other,.slice sp e.sides.length sc,.slice pq e.pairs.length pc]]) func70 I ntmps70 (bE I) ?_;refine rZ (bW (bO I) fun b2=>?_);refine bW (bO I) fun b3=>?_;refine bW (aL zeroValue29) fun b4=>?_;refine bW (aL zeroValue46) fun b5=>?_;refine aT I (sQ (rZ (lK (qV 3 ar ag I I I) (lU (fA aK I zT3 I) (lK (qL iT3 I (cO 2 I I)) (lW (cL call110 I (cU E g _ _ l e.cell hv0 hf)) ?_))))));rintro _ g1 _ ⟨rfl,rfl,hle1⟩;refine tZ ?_;refine iQ I (fun hp=>?_) (fun hp=>?_)
 ·have hc:code=54:=by rw[hcode,hp]; rfl
  subst hc;refine rZ (lK (qV 3 ar ag I I I) (lU (SU.build I buildZ46) (oZ (sK 1 ag I I I I I sB) ?_)));refine oZ (sK 0 bC I I I I I sB) ?_;refine aT I (rE (tR ?_));exact ST.retCCT 1 0 s (.inl I) results70 I I I ar ag fD bC I I I I uR ⟨I,hle1,_,_,_,_,I,hv0.mono hle1,fun h=>by cases h⟩
 ·have hc:code=0:=by rw[hcode,hp]; rfl
  subst hc;have hrs1:=SlA.mono hrs hle1;have hsv1:=SlA.mono hsv hle1;have hall1:=hall.mono fun _ _=>aw.mono hle1;have hv1:=hv0.mono hle1;generalize g1=gg at *;refine kP (tN ?_);refine SC.cut (ι:=Nat×Option Addr×Nat×Nat×PH) (fun i=>[(2,pp b2 0),(3,pp b3 0),(4,pp b4 0),(5,pp b5 0),(7,pp i.1 0)]) (fun i=>i.2.2.2.2) (fun i=>pt i.1 (.cells #[.slice i.2.1 i.2.2.1 i.2.2.2.1] 29 (0,0))::pt b5 (.cells #[.slice none 0 0,vb false] 46 (0,0))::pt b4 (.cells #[.slice none 0 0] 29 (0,0))::pt b3 (.cells #[vi e.kind,vi e.cell,vi e.dim,vi e.new,vi e.other,.slice sp e.sides.length sc,.slice pq e.pairs.length pc] 35 (0,0))::pt b2 (.cells #[.slice p rs.length c] 29 (0,0))::s)
   (fun i=>Le gg i.2.2.2.2∧ao i.2.2.2.2 (.slice i.2.1 i.2.2.1 i.2.2.2.1) (l++[⟨e.cell,e.dim,e.sides⟩])) ?_ ?_
  ·refine SC.drawX [] Tryz.mixed kR ?_;refine SX.u (i:=1) I kR (fA c8 I cj I) dC (SX.q (i:=2) I kR (qL (v:=.slice p rs.length c) dS I (cO 3 I I)) dC (SX.u (i:=4) I kR (fA aK I zT3 I) dC (SX.q (i:=5) I kR (qL iT3 I (cO 2 I I)) dC (SX.u (i:=6) I kR (fA aK I zT3 I) dC (SX.q (i:=7) I kR (qL iT3 I (cO 2 I I)) dC (SX.u (i:=9) I kR (fA aK I aU I) dC (SX.q (i:=10) I kR (qL (v:=.slice sp e.sides.length sc) bw I (cO 2 I I)) dC ?_)))))))
   repeat' (first
    | (refine SB.o (i:=0) rfl (bS sty27 rfl rfl rfl (ae trivial) dC) dC (.inr iR) ?_; rintro _ _ _ ⟨b14,rfl,rfl,rfl⟩; refine SX.drop (List.sublist_cons_self _ _) ?_)
    | (refine SB.o (i:=0) rfl (bS sty27 rfl rfl rfl (ae trivial) dC) dC (.inr iR) ?_; rintro _ _ _ ⟨b14,rfl,rfl,rfl⟩; refine SX.drop (List.sublist_cons_self _ _) ?_)
    | (refine SB.o (i:=3) rfl (SO.appNewA (e:=encCell) sty27 rfl rfl hrs1 oM oM) dC (.inr iR) ?_; rintro v17 _ _ ⟨rfl,rfl⟩)
    | (refine SB.o (i:=3) rfl (SO.appNewA (e:=encCell) sty27 rfl rfl hrs1 oM oM) dC (.inr iR) ?_; rintro v17 _ _ ⟨rfl,rfl⟩)
    | (refine SB.o (i:=8) rfl (bS sty32 rfl rfl rfl (ae trivial) dC) dC (.inr iR) ?_; rintro _ _ _ ⟨b22,rfl,rfl,rfl⟩; refine SX.drop (List.sublist_cons_self _ _) ?_)
    | (refine SB.o (i:=8) rfl (bS sty32 rfl rfl rfl (ae trivial) dC) dC (.inr iR) ?_; rintro _ _ _ ⟨b22,rfl,rfl,rfl⟩; refine SX.drop (List.sublist_cons_self _ _) ?_)
    | (refine SB.o (i:=8) rfl (bS sty32 rfl rfl rfl (ae trivial) dC) dC (.inr iR) ?_; rintro _ _ _ ⟨b22,rfl,rfl,rfl⟩; refine SX.drop (List.sublist_cons_self _ _) ?_)
    | (refine SB.o (i:=11) rfl (SO.appNewA (e:=encSide) sty32 rfl rfl hsv1 oM oM) dC (.inr iR) ?_; rintro v25 _ _ ⟨rfl,rfl⟩; refine SX.freezeRow fun g2 hle2 hs2=>?_; obtain ⟨q2,d2,rfl⟩:=SlA.form (e:=encSide) hs2; refine SX.u (i:=12) rfl kD (SU.build rfl (buildF53 _ _ _ rfl)) dC ?_)
    | (refine SB.o (i:=11) rfl (SO.appNewA (e:=encSide) sty32 rfl rfl hsv1 oM oM) dC (.inr iR) ?_; rintro v25 _ _ ⟨rfl,rfl⟩; refine SX.freezeRow fun g2 hle2 hs2=>?_; obtain ⟨q2,d2,rfl⟩:=SlA.form (e:=encSide) hs2; refine SX.u (i:=12) rfl kD (SU.build rfl (buildF53 _ _ _ rfl)) dC ?_)
    | (refine SB.o (i:=13) rfl (bS sty27 rfl rfl rfl (ae ⟨rfl,trivial⟩) dC) dC (.inr iR) ?_; rintro _ _ _ ⟨b27,rfl,rfl,rfl⟩; refine SX.to (fun w hw=>At.litRow (e:=encCell) (l:=[⟨e.cell,e.dim,⟨q2,e.sides.length,d2⟩⟩]) (n:=0) hw rfl rfl dC) ?_; refine SX.freezeRow fun g3 hle3 hs3=>?_; have hle23:=hle2.trans hle3)
    | (refine SB.o (i:=13) rfl (bS sty27 rfl rfl rfl (ae ⟨rfl,trivial⟩) dC) dC (.inr iR) ?_; rintro _ _ _ ⟨b27,rfl,rfl,rfl⟩; refine SX.to (fun w hw=>At.litRow (e:=encCell) (l:=[⟨e.cell,e.dim,⟨q2,e.sides.length,d2⟩⟩]) (n:=0) hw rfl rfl dC) ?_; refine SX.freezeRow fun g3 hle3 hs3=>?_; have hle23:=hle2.trans hle3)
    | (refine SB.o (i:=14) rfl (aQ (e:=encCell) (l:=rs) 0 sty27 rfl rfl rfl hs3 (by simp; omega) (by simp; omega)) dC (.inr iR) ?_; rintro v28 _ _ ⟨rfl,rfl⟩; refine SX.freezeRow fun g4 hle4 hs4=>?_; have hle24:=hle23.trans hle4; obtain ⟨q4,d4,rfl⟩:=SlA.form (e:=encCell) hs4; have hc4:ao g4 (.slice q4 (rs++[(⟨e.cell,e.dim,⟨q2,e.sides.length,d2⟩⟩:Rc)]).length d4) (l++[⟨e.cell,e.dim,e.sides⟩]):=⟨rs++[(⟨e.cell,e.dim,⟨q2,e.sides.length,d2⟩⟩:Rc)],hs4,aC.append (hall1.mono fun _ _=>aw.mono hle24) (show aC (aw g4) [⟨e.cell,e.dim,e.sides⟩] [⟨e.cell,e.dim,⟨q2,e.sides.length,d2⟩⟩] from ⟨⟨rfl,rfl,SlA.mono hs2 (hle3.trans hle4)⟩,trivial⟩)⟩; refine SX.u (i:=15) rfl kD (SU.build rfl (build29 _ rfl)) dC ?_)
    | (refine SB.o (i:=14) rfl (aQ (e:=encCell) (l:=rs) 0 sty27 rfl rfl rfl hs3 (by simp; omega) (by simp; omega)) dC (.inr iR) ?_; rintro v28 _ _ ⟨rfl,rfl⟩; refine SX.freezeRow fun g4 hle4 hs4=>?_; have hle24:=hle23.trans hle4; obtain ⟨q4,d4,rfl⟩:=SlA.form (e:=encCell) hs4; have hc4:ao g4 (.slice q4 (rs++[(⟨e.cell,e.dim,⟨q2,e.sides.length,d2⟩⟩:Rc)]).length d4) (l++[⟨e.cell,e.dim,e.sides⟩]):=⟨rs++[(⟨e.cell,e.dim,⟨q2,e.sides.length,d2⟩⟩:Rc)],hs4,aC.append (hall1.mono fun _ _=>aw.mono hle24) (show aC (aw g4) [⟨e.cell,e.dim,e.sides⟩] [⟨e.cell,e.dim,⟨q2,e.sides.length,d2⟩⟩] from ⟨⟨rfl,rfl,SlA.mono hs2 (hle3.trans hle4)⟩,trivial⟩)⟩; refine SX.u (i:=15) rfl kD (SU.build rfl (build29 _ rfl)) dC ?_)
    | (refine SB.o (i:=16) rfl (aL zeroValue29) dC (.inr iR) ?_; rintro _ _ _ ⟨b16,rfl,rfl,rfl⟩; first | refine SX.to (fun w hw=>At.perm hw (List.Perm.swap (rowA encCell 53 v17 rs) _ _)) ?_ | skip)
    | (refine SB.o (i:=16) rfl (aL zeroValue29) dC (.inr iR) ?_; rintro _ _ _ ⟨b16,rfl,rfl,rfl⟩; first | refine SX.to (fun w hw=>At.perm hw (List.Perm.swap (rowA encCell 53 v17 rs) _ _)) ?_ | skip)
    | (refine SB.o (i:=16) rfl (aL zeroValue29) dC (.inr iR) ?_; rintro _ _ _ ⟨b16,rfl,rfl,rfl⟩; first | refine SX.to (fun w hw=>At.perm hw (List.Perm.swap (rowA encCell 53 v17 rs) _ _)) ?_ | skip)
    | (refine SB.o (i:=16) rfl (aL zeroValue29) dC (.inr iR) ?_; rintro _ _ _ ⟨b16,rfl,rfl,rfl⟩; first | refine SX.to (fun w hw=>At.perm hw (List.Perm.swap (rowA encCell 53 v17 rs) _ _)) ?_ | skip)
    | (refine SB.on (i:=17) rfl (sK 0 ag rfl rfl rfl rfl rfl sB) (.inr iR) ?_; rintro _ _ _ ⟨rfl,rfl⟩)
    | refine SX.br3 0 8 16 kD ?_ ?_ ?_
    | refine SX.br3 3 8 16 kD ?_ ?_ ?_
    | refine SX.br2 8 16 kD ?_ ?_
    | refine SX.br2 11 16 kD ?_ ?_
    | refine SX.br2 13 16 kD ?_ ?_
    | refine SX.br2 14 16 kD ?_ ?_
    | refine SX.br1 16 kD ?_
    | refine SX.br1 17 kD ?_
    | refine SX.br1 14 kD ?_
    | refine SX.br1 13 kD ?_
    | refine SX.br1 11 kD ?_
    | refine SX.br1 8 kD ?_
    | refine SX.br2 3 16 kD ?_ ?_
    | refine SX.br1 3 kD ?_
    | refine SX.br2 3 8 kD ?_ ?_
    | refine SX.br2 0 16 kD ?_ ?_
    | refine SX.br1 0 kD ?_
    | refine SX.br2 0 8 kD ?_ ?_
    | (refine SX.nil kD ?_; exact ST.mid (b16,q4,(rs++[(⟨e.cell,e.dim,⟨q2,e.sides.length,d2⟩⟩:Rc)]).length,d4,g4) sB rfl rfl ⟨hle24,hc4⟩))
  rintro ⟨b7,q7,n7,d7,g5⟩ ⟨hle5,hc5⟩;dsimp only at hle5 hc5 ⊢;refine sQ ?_;refine dW [4,5] [(0,1),(1,1),(2,0),(3,2),(4,0),(5,0),(6,2)] Tryz.mixed kR ?_;refine pK I (qV 0 ar ag I I I) (pK I (qV 4 ar ag I I I) (SP.o I (cL call111 I (fp E g5 _ _ l (hv1.mono hle5) hf)) dC (.inr iR) ?_));rintro _ g6 _ ⟨rfl,hle6,iv,rfl,him⟩;obtain ⟨q6,n6,d6,rfl⟩:=him.form;refine pU I (SU.build I (buildS46 _ _ _)) (SP.on I (sK 2 ag I I I I I sB) (.inl dC) ?_);rintro _ _ _ ⟨rfl,rfl⟩;refine SP.on I (sK 1 bC I I I I I sB) (.inl dC) ?_;rintro _ _ _ ⟨rfl,rfl⟩;refine pU I (aS I) (pN (tN (rE ?_)));exact ST.retCCT 2 1 s (.inl I) results70 I I I ar ag fD bC I I I I uR ⟨I,hle1.trans (hle5.trans hle6),_,_,_,_,I,hc5.mono hle6,fun _=>him⟩
end Go.Proofs.YtackilpikhkijaaGreatDoor
namespace Go.Sy
open Go
section
variable {P:Program}{N:Nat}{E:World}{ops:Array Oper}{Q:Exit→Act→World→Prop}{g0:PH}{s0:Own}{tail:List Nat}{f:Fr}{g:PH}{s s':Own}{L:Array Bool}{n:Nat}
theorem SX.gq [hQ:Quiet Q]{i d:Nat}{op:Op}{ty:TypeId}{pos:String}{af:Array Edge}{gd:Option (Nat×Bool)}{v:Value}(hi:ops[i]?=some ⟨some d,op,ty,pos,af,gd⟩)(hok:sI ops tail L i=true)(hg:Gd N ops f ⟨some d,op,ty,pos,af,gd⟩ true)
  (hq:SQ P N E ⟨some d,op,ty,pos,af,gd⟩ f g0 s0 v) (hd:d<N)
  (h:SX P N E ops Q g0 s0 tail (L.setIfInBounds i true) n ((d,v)::f) g s):SX P N E ops Q g0 s0 tail L (n+1) f g s:=by
 intro a w hs hcl ha hw hb;simp only[sI,Bool.and_eq_true,Bool.not_eq_true'] at hok;obtain ⟨⟨⟨⟨h1,h2⟩,h3⟩,h4⟩,h5⟩:=hok;refine jo hi (Region.noSelect_spec hs) (fun c a w hh=>hQ.out c _ _ w (cD a d v) hh) (by simpa using h4) (hX h3) _ L a w hcl (Region.free_spec hi h2) (by simpa using h1)
  (.inl ⟨hg a ha,fun w' hw'=>hq a w' ha hw'⟩) h5 (hb h5) ?_
 exact h _ w hs (cd hcl (by simpa using h1)) (ha.put hd v) hw (fun _=>hb h5)
theorem SX.gu [hQ:Quiet Q]{i d:Nat}{op:Op}{ty:TypeId}{pos:String}{af:Array Edge}{gd:Option (Nat×Bool)}{v:Value}(hi:ops[i]?=some ⟨some d,op,ty,pos,af,gd⟩)(hok:nO ops tail L i=true)(hg:Gd N ops f ⟨some d,op,ty,pos,af,gd⟩ true)
  (hq:SU P N ⟨some d,op,ty,pos,af,gd⟩ f v) (hd:d<N)
  (h:SX P N E ops Q g0 s0 tail (L.setIfInBounds i true) n ((d,v)::f) g s):SX P N E ops Q g0 s0 tail L (n+1) f g s:=by
 intro a w hs hcl ha hw hb;simp only[nO,Bool.and_eq_true,Bool.not_eq_true'] at hok;obtain ⟨⟨h1,h2⟩,h4⟩:=hok;have hit:i ∉ tail:=by simpa using h4
 refine gB hi (Region.noSelect_spec hs) (fun c a w hh=>hQ.out c _ _ w (cD a d v) hh) hit _ L a w (Region.free_spec hi h2) (by simpa using h1)
  (.inl ⟨hg a ha,fun w'=>hq a w' ha⟩) hb ?_
 exact h _ w hs (cd hcl (by simpa using h1)) (ha.put hd v) hw (fun hb'=>hb (by rwa [dM hit] at hb'))
theorem SX.off [hQ:Quiet Q]{i d:Nat}{op:Op}{ty:TypeId}{pos:String}{af:Array Edge}{gd:Option (Nat×Bool)}(hi:ops[i]?=some ⟨some d,op,ty,pos,af,gd⟩)(hok:nO ops tail L i=true)(hg:Gd N ops f ⟨some d,op,ty,pos,af,gd⟩ false)(hd:d<N)
  (h:SX P N E ops Q g0 s0 tail (L.setIfInBounds i true) n ((d,undef)::f) g s):SX P N E ops Q g0 s0 tail L (n+1) f g s:=by
 intro a w hs hcl ha hw hb;simp only[nO,Bool.and_eq_true,Bool.not_eq_true'] at hok;obtain ⟨⟨h1,h2⟩,h4⟩:=hok;have hit:i ∉ tail:=by simpa using h4
 refine gB hi (Region.noSelect_spec hs) (fun c a w hh=>hQ.out c _ _ w (cD a d undef) hh) hit _ L a w (Region.free_spec hi h2) (by simpa using h1)
  (.inr ⟨hg a ha,rfl⟩) hb ?_
 exact h _ w hs (cd hcl (by simpa using h1)) (ha.put hd undef) hw (fun hb'=>hb (by rwa [dM hit] at hb'))
theorem SB.go {i d:Nat}{op:Op}{ty:TypeId}{pos:String}{af:Array Edge}{gd:Option (Nat×Bool)}{K:Value→PH→Own→Prop}(hi:ops[i]?=some ⟨some d,op,ty,pos,af,gd⟩)(hg:Gd N ops f ⟨some d,op,ty,pos,af,gd⟩ true)
  (ho:SO P N E ⟨some d,op,ty,pos,af,gd⟩ f g s K) (hd:d<N) (hk:i∈tail∨∀ v g' s',K v g' s'→Le g0 g'∧s0.Sublist s')
  (h:∀ v g' s',K v g' s'→SX P N E ops Q g0 s0 tail (L.setIfInBounds i true) n ((d,v)::f) g' s'):SB P N E ops Q g0 s0 tail L n i f g s :=
 SB.step hi hg ho hk fun v g' s' _ hK ha=>⟨_,ha.put hd v,h v g' s' hK⟩
theorem SB.offo {i d:Nat}{op:Op}{ty:TypeId}{pos:String}{af:Array Edge}{gd:Option (Nat×Bool)}(hi:ops[i]?=some ⟨some d,op,ty,pos,af,gd⟩)
  (hg:Gd N ops f ⟨some d,op,ty,pos,af,gd⟩ false) (hd:d<N) (hk:Le g0 g∧s0.Sublist s)
  (h:SX P N E ops Q g0 s0 tail (L.setIfInBounds i true) n ((d,undef)::f) g s):SB P N E ops Q g0 s0 tail L n i f g s:=by
 intro a w hs hcl hr ha hw hb;unfold wpOp;simp only[hi];rw[if_neg (by rw[hg a ha]; simp)];have hb':fh tail (L.setIfInBounds i true)=false→At E g0 s0 w:=fun _=>(hw.less hk.1).sublist hk.2;exact⟨hb',h _ w hs (cd hcl hr) (ha.put hd undef) hw hb'⟩
theorem SB.ob {i d:Nat}{op:Op}{ty:TypeId}{pos:String}{af:Array Edge}{K:Value→PH→Own→Prop}(hi:ops[i]?=some ⟨some d,op,ty,pos,af,none⟩)
  (ho:SO P N E ⟨some d,op,ty,pos,af,none⟩ f g s K) (hd:d<N) (hbt:fh tail (L.setIfInBounds i true)=true)
  (h:∀ v g' s',K v g' s'→SX P N E ops Q g0 s0 tail (L.setIfInBounds i true) n ((d,v)::f) g' s'):SB P N E ops Q g0 s0 tail L n i f g s:=by
 intro a w hs hcl hr ha hw hb;unfold wpOp;simp only[hi];rw[if_pos (Gd.none rfl a ha)];refine .inl (ho a w ha hw Q _ fun v g' s' w' hK hw'=>?_);have hb':fh tail (L.setIfInBounds i true)=false→At E g0 s0 w':=fun h0=>by rw[hbt] at h0; cases h0
 exact⟨hb',h v g' s' hK _ w' hs (cd hcl hr) (ha.put hd v) hw' hb'⟩
end
end Go.Sy
namespace Go.Proofs.YtackilpikhkijaaGreatDoor
open _root_.Go.Proofs.Tryz _root_.Go.Proofs.YtackilpikhkijaaGreatDoor.Tryz
open Go Go.Sy Go.Pl Go.Proofs
set_option maxRecDepth 100000
set_option maxHeartbeats 4000000
def ql (fn:Nat)(e:Ed)(A:List Cl)(code:Int)(D:List Cl)(ims:List (Int×List Tm))(bk:Bool):Prop:=∀ (E:World) (g:PH) (s:Own) (v ev:Value),ao g v A→EdR g ev e →
 Ctr Tryz.prog E fn #[.agg #[v],ev] g s (fun r g' s'=>s=s'∧Le g g'∧Aq code D ims bk r g')
def e8 (code:Int)(D:List Cl)(ims:List (Int×List Tm))(bk:Bool)(r:Value)(g':PH):Prop:=∃ u p n c b,r = .tuple #[.agg #[u],.agg #[.slice p n c,vb b],vi code]∧ao g' u D∧(code=0→b=bk∧Ims g' (.slice p n c) ims)∧(code≠0→b=false∧Ims g' (.slice p n c) [])
theorem Ims.nil (g:PH):Ims g (.slice none 0 0) []:=⟨[],Sl.nil g _,trivial⟩
theorem fM (l:List Cl):aJ (aa l)=aJ l:=by
 have ht:am (aa l)=am l:=by unfold am; rw[j7]
 unfold aJ;rw[ht,j7,bU]
theorem rU (E:World)(g:PH)(s:Own)(v ev:Value)(l:List Cl)(e:Ed)(ims:List (Int×List Tm))(bk:Bool)(hv:ao g v l)(hf:be l)(he:EdR g ev e)(hbad:(aJ l).2≠0) :
  Ctr Tryz.prog E 37 #[.agg #[v],ev] g s (fun r g' s'=>s=s'∧Le g g'∧e8 1 [] ims bk r g'):=by
 obtain ⟨sv,pv,rfl,hsv,hpv⟩:=he;obtain ⟨sp,sc,rfl⟩:=SlA.form hsv;obtain ⟨pq,pc,rfl⟩:=SlA.form hpv;obtain ⟨p,c,rfl⟩:=hv.form;have hd:decide ((aM l).2=0)=false:=by rw[fJ]; exact decide_eq_false hbad
 refine Ctr.of (args:=[.agg #[.slice p l.length c],.agg #[vi e.kind,vi e.cell,vi e.dim,vi e.new,vi e.other,.slice sp e.sides.length sc,.slice pq e.pairs.length pc]]) func37 I ntmps37 (bE I) ?_;refine rZ (bW (bO I) fun b2=>?_);refine bW (bO I) fun b3=>?_;refine bW (aL zeroValue29) fun b4=>?_;refine bW (aL zeroValue46) fun b5=>?_;refine aT I (rZ (lK (qV 3 ar ag I I I) (lW (cL call65 I (dv E g _ _ l hv hf)) ?_)));rintro _ g1 _ ⟨rfl,rfl,hle1⟩;rw[hd];refine aT I (sQ (sW I (lU (SU.not I) (tZ (SC.condT I (rZ (lU (SU.build I buildE29) (lU (SU.build I buildZ46) (oZ (sK 1 ag I I I I I sB) ?_)))))))));refine oZ (sK 0 bC I I I I I sB) ?_;refine aT I (rE (tR ?_));exact ST.retCCT 1 0 s (.inl I) results37 I I I ar ag fD bC I I I I uR ⟨I,hle1,_,_,_,_,_,I,ao.nil _,(fun h=>by cases h),fun _=>⟨I,Ims.nil _⟩⟩
theorem fK (E:World)(g:PH)(s:Own)(v ev:Value)(l:List Cl)(e:Ed)(code:Int)(D:List Cl)(ims:List (Int×List Tm))(bk:Bool)(hv:ao g v l)(hf:be l)(he:EdR g ev e)(hr:(aJ l).2=0)(hD:be D)
  (hk:e.kind=1∨e.kind=2∨e.kind=3∨e.kind=4∨e.kind=5)
  (h1:e.kind=1→ql 70 e (aa l) code D ims bk) (h2:e.kind=2→ql 71 e (aa l) code D ims bk) (h3:e.kind=3→ql 72 e (aa l) code D ims bk) (h4:e.kind=4→ql 73 e (aa l) code D ims bk) (h5:e.kind=5→ql 74 e (aa l) code D ims bk) :
  Ctr Tryz.prog E 37 #[.agg #[v],ev] g s (fun r g' s'=>s=s'∧Le g g'∧e8 (aR code D).1 (aR code D).2 ims bk r g'):=by
 have he0:=he;obtain ⟨sv,pv,rfl,hsv,hpv⟩:=he;obtain ⟨sp,sc,rfl⟩:=SlA.form hsv;obtain ⟨pq,pc,rfl⟩:=SlA.form hpv;obtain ⟨p,c,rfl⟩:=hv.form;have hd:decide ((aM l).2=0)=true:=by rw[fJ]; exact decide_eq_true hr
 refine Ctr.of (args:=[.agg #[.slice p l.length c],.agg #[vi e.kind,vi e.cell,vi e.dim,vi e.new,vi e.other,.slice sp e.sides.length sc,.slice pq e.pairs.length pc]]) func37 I ntmps37 (bE I) ?_;refine rZ (bW (bO I) fun b2=>?_);refine bW (bO I) fun b3=>?_;refine bW (aL zeroValue29) fun b4=>?_;refine bW (aL zeroValue46) fun b5=>?_;refine aT I (rZ (lK (qV 3 ar ag I I I) (lW (cL call65 I (dv E g _ _ l hv hf)) ?_)));rintro _ g1 _ ⟨rfl,rfl,hle1⟩;rw[hd];refine aT I (sQ (sW I (lU (SU.not I) (tZ (SC.condF I (kP (tN (rZ (lK (qV 3 ar ag I I I) (lW (cL call59 I (bT E g1 _ _ l (hv.mono hle1) hf)) ?_))))))))));rintro _ g2 _ ⟨rfl,hle2,u2,rfl,hA⟩;obtain ⟨p2,c2,rfl⟩:=hA.form;refine bW (aL zeroValue29) fun b8=>?_;refine oZ (sK 0 ag I I I I I sB) ?_;refine tZ (rZ (bW (aL zeroValue29) fun b9=>?_));refine tZ (rZ (bW (aL zeroValue46) fun b10=>?_));refine tZ (rZ (aT I ?_));have hAl:=bg hf;have he2:=he0.mono (hle1.trans hle2);generalize aa l=A at *;refine SC.cut (ι:=PH×Value×Option Addr×Nat×Nat) (fun _=>[(4,pp b4 0),(5,pp b5 0),(9,pp b9 0),(10,pp b10 0),(11,vi code)]) (fun i=>i.1) (fun i=>pt b10 (.cells #[.slice i.2.2.1 i.2.2.2.1 i.2.2.2.2,vb bk] 46 (0,0))::pt b9 (.cells #[i.2.1] 29 (0,0))::pt b5 (.cells #[.slice none 0 0,vb false] 46 (0,0))::pt b4 (.cells #[.slice none 0 0] 29 (0,0))::s)
  (fun i=>Le g2 i.1∧ao i.1 i.2.1 D∧(code=0→Ims i.1 (.slice i.2.2.1 i.2.2.2.1 i.2.2.2.2) ims)) ?_ ?_
 ·rcases hk with hk | hk | hk | hk | hk
  ·refine rZ (lU (fA aK I zT3 I) (lK (qL iT3 I (cO 5 I I)) (tZ (bK (rZ (lU (SU.eq (v':=vb true) (eQ I I) (congrArg vb (decide_eq_true hk))) (aT I (SC.condT I (rG (lK (qV 2 ar ag I I I) (lK (qV 5 jF eT I I I) (lW (cL call70 I (h1 hk E g2 _ _ _ hA he2)) ?_))))))))))));rintro _ g3 _ ⟨rfl,hle3,u3,p3,n3,c3,rfl,hc3,him3⟩;obtain ⟨pu,cu,rfl⟩:=hc3.form;refine lM I (lU (xT I I) (lU (xT I I) (lU (xT I I) (oZ (sK 1 ag I I I I I sB) ?_))));refine oZ (sK 0 bC I I I I I sB) ?_;refine lA I (nL (bN (dR (.cons_cons _ (.cons_cons _ (.cons _ (.cons_cons _ (.cons_cons _ (.cons _ (.cons _ (.refl _)))))))) ?_)));exact ST.mid (g3,_,p3,n3,c3) sB I I ⟨hle3,hc3,him3⟩
  ·refine rZ (lU (fA aK I zT3 I) (lK (qL iT3 I (cO 5 I I)) (tZ (bK (rZ (lU (SU.eq (v':=vb false) (eQ I I) (congrArg vb (decide_eq_false oM))) (aT I (SC.condF I (rZ (lU (SU.eq (v':=vb true) (eQ I I) (congrArg vb (decide_eq_true hk))) (aT I (SC.condT I (rG (lK (qV 2 ar ag I I I) (lK (qV 5 jF eT I I I) (lW (cL call71 I (h2 hk E g2 _ _ _ hA he2)) ?_))))))))))))))));rintro _ g3 _ ⟨rfl,hle3,u3,p3,n3,c3,rfl,hc3,him3⟩;obtain ⟨pu,cu,rfl⟩:=hc3.form;refine lM I (lU (xT I I) (lU (xT I I) (lU (xT I I) (oZ (sK 1 ag I I I I I sB) ?_))));refine oZ (sK 0 bC I I I I I sB) ?_;refine lA I (nL (bN (dR (.cons_cons _ (.cons_cons _ (.cons _ (.cons_cons _ (.cons_cons _ (.cons _ (.cons _ (.refl _)))))))) ?_)));exact ST.mid (g3,_,p3,n3,c3) sB I I ⟨hle3,hc3,him3⟩
  ·refine rZ (lU (fA aK I zT3 I) (lK (qL iT3 I (cO 5 I I)) (tZ (bK (rZ (lU (SU.eq (v':=vb false) (eQ I I) (congrArg vb (decide_eq_false oM))) (aT I (SC.condF I (rZ (lU (SU.eq (v':=vb false) (eQ I I) (congrArg vb (decide_eq_false oM))) (aT I (SC.condF I (rZ (lU (SU.eq (v':=vb true) (eQ I I) (congrArg vb (decide_eq_true hk))) (aT I (SC.condT I (rG (lK (qV 2 ar ag I I I) ?_))))))))))))))))));refine lK (qV 5 jF eT I I I) (lW (cL call72 I (h3 hk E g2 _ _ _ hA he2)) ?_);rintro _ g3 _ ⟨rfl,hle3,u3,p3,n3,c3,rfl,hc3,him3⟩;obtain ⟨pu,cu,rfl⟩:=hc3.form;refine lM I (lU (xT I I) (lU (xT I I) (lU (xT I I) (oZ (sK 1 ag I I I I I sB) ?_))));refine oZ (sK 0 bC I I I I I sB) ?_;refine lA I (nL (bN (dR (.cons_cons _ (.cons_cons _ (.cons _ (.cons_cons _ (.cons_cons _ (.cons _ (.cons _ (.refl _)))))))) ?_)));exact ST.mid (g3,_,p3,n3,c3) sB I I ⟨hle3,hc3,him3⟩
  ·refine rZ (lU (fA aK I zT3 I) (lK (qL iT3 I (cO 5 I I)) (tZ (bK (rZ (lU (SU.eq (v':=vb false) (eQ I I) (congrArg vb (decide_eq_false oM))) (aT I (SC.condF I (rZ (lU (SU.eq (v':=vb false) (eQ I I) (congrArg vb (decide_eq_false oM))) (aT I (SC.condF I (rZ (lU (SU.eq (v':=vb false) (eQ I I) (congrArg vb (decide_eq_false oM))) (aT I (SC.condF I (rZ ?_)))))))))))))))));refine lU (SU.eq (v':=vb true) (eQ I I) (congrArg vb (decide_eq_true hk))) (aT I (SC.condT I (rG (lK (qV 2 ar ag I I I) (lK (qV 5 jF eT I I I) (lW (cL call73 I (h4 hk E g2 _ _ _ hA he2)) ?_))))));rintro _ g3 _ ⟨rfl,hle3,u3,p3,n3,c3,rfl,hc3,him3⟩;obtain ⟨pu,cu,rfl⟩:=hc3.form;refine lM I (lU (xT I I) (lU (xT I I) (lU (xT I I) (oZ (sK 1 ag I I I I I sB) ?_))));refine oZ (sK 0 bC I I I I I sB) ?_;refine lA I (nL (bN (dR (.cons_cons _ (.cons_cons _ (.cons _ (.cons_cons _ (.cons_cons _ (.cons _ (.cons _ (.refl _)))))))) ?_)));exact ST.mid (g3,_,p3,n3,c3) sB I I ⟨hle3,hc3,him3⟩
  ·refine rZ (lU (fA aK I zT3 I) (lK (qL iT3 I (cO 5 I I)) (tZ (bK (rZ (lU (SU.eq (v':=vb false) (eQ I I) (congrArg vb (decide_eq_false oM))) (aT I (SC.condF I (rZ (lU (SU.eq (v':=vb false) (eQ I I) (congrArg vb (decide_eq_false oM))) (aT I (SC.condF I (rZ (lU (SU.eq (v':=vb false) (eQ I I) (congrArg vb (decide_eq_false oM))) (aT I (SC.condF I (rZ ?_)))))))))))))))));refine lU (SU.eq (v':=vb false) (eQ I I) (congrArg vb (decide_eq_false oM))) (aT I (SC.condF I (rZ (lU (SU.eq (v':=vb true) (eQ I I) (congrArg vb (decide_eq_true hk))) (aT I (SC.condT I (rG (lK (qV 2 ar ag I I I) (lK (qV 5 jF eT I I I) (lW (cL call74 I (h5 hk E g2 _ _ _ hA he2)) ?_))))))))));rintro _ g3 _ ⟨rfl,hle3,u3,p3,n3,c3,rfl,hc3,him3⟩;obtain ⟨pu,cu,rfl⟩:=hc3.form;refine lM I (lU (xT I I) (lU (xT I I) (lU (xT I I) (oZ (sK 1 ag I I I I I sB) ?_))));refine oZ (sK 0 bC I I I I I sB) ?_;refine lA I (nL (bN (dR (.cons_cons _ (.cons_cons _ (.cons _ (.cons_cons _ (.cons_cons _ (.cons _ (.cons _ (.refl _)))))))) ?_)));exact ST.mid (g3,_,p3,n3,c3) sB I I ⟨hle3,hc3,him3⟩
 rintro ⟨g3,u3,p3,n3,c3⟩ ⟨hle3,hc3,him3⟩;dsimp only at hle3 hc3 him3 ⊢;have hle13:=hle1.trans (hle2.trans hle3);obtain ⟨pu,cu,rfl⟩:=hc3.form;refine sQ (sW I (lU (eQ I I) (tZ ?_)));refine iP I (fun h0=>?_) (fun h0=>?_)
 ·subst h0;have hout:aR 0 D=if (aJ D).2≠0 then ((aJ D).2,[]) else (0,aa D):=by unfold aR; rw[fM]; rfl
  rw[hout];refine rG (lK (qV 1 ar ag I I I) (lW (cL call75 I (kL E g3 _ _ D hc3 hD)) ?_));rintro _ g4 _ ⟨rfl,rfl,hle4⟩;rw[fJ];refine lM I (lU (xT I I) (lU (xT I I) (aT I (sQ (sW I (lU (nQ I I) (tZ ?_)))))));refine iP I (fun hz=>?_) (fun hz=>?_)
  ·have he3:(if (aJ D).2≠0 then ((aJ D).2,[]) else ((0:Int),aa D))=((aJ D).2,[]):=if_pos hz;rw[he3];refine rZ (lU (SU.build I buildE29) (lU (SU.build I buildZ46) (lM I (oZ (sK 3 ag I I I I I sB) ?_))));refine oZ (sK 2 bC I I I I I sB) ?_;refine aT I (rE (tR ?_));exact ST.retCCT 3 2 s (.inl I) results37 I I I ar ag fD bC I I I I uR ⟨I,hle13.trans hle4,_,_,_,_,_,I,ao.nil _,fun h=>absurd h hz,fun _=>⟨I,Ims.nil _⟩⟩
  ·have he3:(if (aJ D).2≠0 then ((aJ D).2,[]) else ((0:Int),aa D))=(0,aa D):=if_neg hz;rw[he3];refine kP (tN (sQ ?_));refine SC.drawX [2,3,4] Tryz.mixed kR ?_
   repeat' (first
    | (refine SB.o (i:=0) rfl (SQ.sof (qV 1 ar ag rfl rfl rfl)) dC (.inr iR) ?_; rintro _ _ _ ⟨rfl,rfl,rfl⟩)
    | (refine SB.ob (i:=0) rfl (SQ.sof (qV 1 ar ag rfl rfl rfl)) dC kD ?_; rintro _ _ _ ⟨rfl,rfl,rfl⟩)
    | (refine SB.o (i:=1) rfl (cL call59 rfl (bT E g4 _ _ D (hc3.mono hle4) hD)) dC (.inr iR) ?_; rintro _ g5 _ ⟨rfl,hle5,u5,rfl,hA5⟩; obtain ⟨p5,c5,rfl⟩:=hA5.form)
    | (refine SB.ob (i:=1) rfl (cL call59 rfl (bT E g4 _ _ D (hc3.mono hle4) hD)) dC kD ?_; rintro _ g5 _ ⟨rfl,hle5,u5,rfl,hA5⟩; obtain ⟨p5,c5,rfl⟩:=hA5.form)
    | (refine SB.o (i:=2) rfl (SQ.sof (qV 0 fD bC rfl rfl rfl)) dC (.inl dC) ?_; rintro _ _ _ ⟨rfl,rfl,rfl⟩)
    | (refine SB.on (i:=3) rfl (sK 3 ag rfl rfl rfl rfl rfl sB) (.inl dC) ?_; rintro _ _ _ ⟨rfl,rfl⟩)
    | (refine SB.on (i:=4) rfl (sK 2 bC rfl rfl rfl rfl rfl sB) (.inl dC) ?_; rintro _ _ _ ⟨rfl,rfl⟩; refine SX.u (i:=5) rfl kD (aS rfl) dC ?_)
    | refine SX.br2 0 2 kD ?_ ?_
    | refine SX.br2 1 2 kD ?_ ?_
    | refine SX.br2 2 3 kD ?_ ?_
    | refine SX.br1 3 kD ?_
    | refine SX.br1 4 kD ?_
    | refine SX.br1 2 kD ?_
    | refine SX.br1 1 kD ?_
    | refine SX.br1 0 kD ?_
    | (refine SX.nil kD ?_; refine tN ?_; refine rE ?_; exact ST.retCCT 3 2 s (.inl rfl) results37 rfl rfl rfl ar ag fD bC rfl rfl rfl rfl uR ⟨rfl,hle13.trans (hle4.trans hle5),_,_,_,_,_,rfl,hA5,fun _=>⟨rfl,(him3 rfl).mono (hle4.trans hle5)⟩,fun h=>absurd rfl h⟩))
 ·have hout:aR code D=(code,[]):=if_pos h0;rw[hout];refine kP (tN (sQ (sW I (lU (nQ I I) (tZ ?_)))));refine iP I (fun hz=>?_) (fun hz=>?_)
  ·refine rZ (lU (SU.build I buildE29) (lU (SU.build I buildZ46) (lM I (oZ (sK 3 ag I I I I I sB) ?_))));refine oZ (sK 2 bC I I I I I sB) ?_;refine aT I (rE (tR ?_));exact ST.retCCT 3 2 s (.inl I) results37 I I I ar ag fD bC I I I I uR ⟨I,hle13,_,_,_,_,_,I,ao.nil _,fun h=>absurd h h0,fun _=>⟨I,Ims.nil _⟩⟩
  ·exact absurd h0 hz
theorem pZ (E:World)(g:PH)(s:Own)(v ev:Value)(l:List Cl)(e:Ed)(ims:List (Int×List Tm))(bk:Bool)(hv:ao g v l)(hf:be l)(he:EdR g ev e)(hr:(aJ l).2=0)
  (hk1:e.kind≠1) (hk2:e.kind≠2) (hk3:e.kind≠3) (hk4:e.kind≠4) (hk5:e.kind≠5) :
  Ctr Tryz.prog E 37 #[.agg #[v],ev] g s (fun r g' s'=>s=s'∧Le g g'∧e8 1 [] ims bk r g'):=by
 obtain ⟨sv,pv,rfl,hsv,hpv⟩:=he;obtain ⟨sp,sc,rfl⟩:=SlA.form hsv;obtain ⟨pq,pc,rfl⟩:=SlA.form hpv;obtain ⟨p,c,rfl⟩:=hv.form;have hd:decide ((aM l).2=0)=true:=by rw[fJ]; exact decide_eq_true hr
 refine Ctr.of (args:=[.agg #[.slice p l.length c],.agg #[vi e.kind,vi e.cell,vi e.dim,vi e.new,vi e.other,.slice sp e.sides.length sc,.slice pq e.pairs.length pc]]) func37 I ntmps37 (bE I) ?_;refine rZ (bW (bO I) fun b2=>?_);refine bW (bO I) fun b3=>?_;refine bW (aL zeroValue29) fun b4=>?_;refine bW (aL zeroValue46) fun b5=>?_;refine aT I (rZ (lK (qV 3 ar ag I I I) (lW (cL call65 I (dv E g _ _ l hv hf)) ?_)));rintro _ g1 _ ⟨rfl,rfl,hle1⟩;rw[hd];refine aT I (sQ (sW I (lU (SU.not I) (tZ (SC.condF I (kP (tN (rZ (lK (qV 3 ar ag I I I) (lW (cL call59 I (bT E g1 _ _ l (hv.mono hle1) hf)) ?_))))))))));rintro _ g2 _ ⟨rfl,hle2,u2,rfl,hA⟩;obtain ⟨p2,c2,rfl⟩:=hA.form;refine bW (aL zeroValue29) fun b8=>?_;refine oZ (sK 0 ag I I I I I sB) ?_;refine tZ (rZ (bW (aL zeroValue29) fun b9=>?_));refine tZ (rZ (bW (aL zeroValue46) fun b10=>?_));refine tZ (rZ (aT I (sQ (rZ (lU (fA aK I zT3 I) (lK (qL iT3 I (cO 5 I I)) (tZ (bK (rZ (lU (SU.eq (v':=vb false) (eQ I I) (congrArg vb (decide_eq_false hk1))) (aT I (SC.condF I (rZ (lU (SU.eq (v':=vb false) (eQ I I) (congrArg vb (decide_eq_false hk2))) (aT I (SC.condF I (sQ ?_)))))))))))))))));refine rG (lU (SU.eq (v':=vb false) (eQ I I) (congrArg vb (decide_eq_false hk3))) (aT I (SC.condF I (rZ (lU (SU.eq (v':=vb false) (eQ I I) (congrArg vb (decide_eq_false hk4))) (aT I (SC.condF I (rZ (lU (SU.eq (v':=vb false) (eQ I I) (congrArg vb (decide_eq_false hk5))) (aT I (SC.condF I (kP (bN (tN (sQ (sW I (lU (eQ I I) (tZ ?_))))))))))))))))));refine iP I (fun h0=>?_) (fun h0=>?_)
 ·cases h0
 ·refine kP (tN (sQ (sW I (lU (nQ I I) (tZ ?_)))));refine iP I (fun hz=>?_) (fun hz=>?_)
  ·refine rZ (lU (SU.build I buildE29) (lU (SU.build I buildZ46) (lM I (oZ (sK 4 ag I I I I I sB) ?_))));refine oZ (sK 3 bC I I I I I sB) ?_;refine aT I (rE (tR ?_));exact ST.retCCT 4 3 s (.inl I) results37 I I I ar ag fD bC I I I I uR ⟨I,hle1.trans hle2,_,_,_,_,_,I,ao.nil _,(fun h=>by cases h),fun _=>⟨I,Ims.nil _⟩⟩
  ·exact absurd dC hz
end Go.Proofs.YtackilpikhkijaaGreatDoor
