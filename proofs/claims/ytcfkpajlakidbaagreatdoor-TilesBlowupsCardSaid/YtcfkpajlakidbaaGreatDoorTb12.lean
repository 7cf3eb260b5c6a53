/- 12 -/
import Derived.Test.YtcfkpajlakidbaaGreatDoorTb11
import Derived.Test.YtcfkpajlakidbaaGreatDoorTb04
import Derived.Test.YtcfkpajlakidbaaGreatDoorTb03
import Derived.Test.YtcfkpajlakidbaaGreatDoorTb02
import Derived.Test.YtcfkpajlakidbaaGreatDoorTb05
import Derived.Test.YtcfkpajlakidbaaGreatDoorTb10
set_option linter.unusedSimpArgs false
set_option linter.unusedVariables false
namespace Go.Pl
section
variable {p:Int}
def qW (k:Nat)(A B:Nat→Nat→Int):Nat→Nat→Int:=fun i j=>aR (List.range k) fun t=>A i t * B t j
def Meq (p:Int)(m n:Nat)(A B:Nat→Nat→Int):Prop:=∀ i,i<m→∀ j,j<n→Eqm p (A i j) (B i j)
def EQ:Nat→Nat→Int:=fun i j=>if i=j then 1 else 0
theorem xz (k l:Nat)(A B C:Nat→Nat→Int):qW l (qW k A B) C=qW k A (qW l B C):=by
 funext i j;unfold qW;have e:∀ t,(aR (List.range k) fun u=>A i u * B u t) * C t j=aR (List.range k) fun u=>A i u * (B u t * C t j):=fun t=>by
  rw[← fD];exact ax fun u _=>Int.mul_assoc _ _ _
 simp only[e];rw[eZ];exact ax fun u _=>dv _ _ _
theorem Meq.refl {m n:Nat}(A:Nat→Nat→Int):Meq p m n A A:=fun _ _ _ _=>.refl _
theorem Meq.symm {m n:Nat}{A B:Nat→Nat→Int}(h:Meq p m n A B):Meq p m n B A:=fun i hi j hj=>(h i hi j hj).symm
theorem Meq.trans {m n:Nat}{A B C:Nat→Nat→Int}(h:Meq p m n A B)(k:Meq p m n B C):Meq p m n A C:=fun i hi j hj=>(h i hi j hj).trans (k i hi j hj)
theorem Meq.mul {m n k:Nat}{A A' B B':Nat→Nat→Int}(h:Meq p m k A A')(g:Meq p k n B B'):Meq p m n (qW k A B) (qW k A' B'):=fun i hi j hj =>
 Eqm.sum fun t ht=>(h i hi t (List.mem_range.1 ht)).mul (g t (List.mem_range.1 ht) j hj)
theorem qz {A:Nat→Nat→Int}{m n r:Nat}:dS p A m n r↔(∃ X Y,Meq p m n A (qW r X Y))∧∃ L R,Meq p r r (qW m L (qW n A R)) EQ :=
 ⟨fun h=>⟨h.thru,h.one⟩,fun h=>⟨h.1,h.2⟩⟩
structure Red (p:Int)(M:Nat→Nat→Int)(m n r:Nat)(X E L R:Nat→Nat→Int):Prop where
 thru:Meq p m n M (qW r X E)
 rows:Meq p r n (qW m L M) E
 one:Meq p r r (qW n E R) EQ
section
variable {M X E L R:Nat→Nat→Int}{m n r:Nat}(h:Red p M m n r X E L R)
include h
theorem Red.rank:dS p M m n r:=qz.2 ⟨⟨X,E,h.thru⟩,L,R,by
 rw[← xz];exact (h.rows.mul (.refl _)).trans h.one⟩
end
theorem lj.red {A M:Nat→Nat→Int}{m n:Nat}{J:List Nat}(h:lj p A m n M J n):∃ X L R,Red p A m n J.length X M L R:=by
 have hb:∀ i,∃ w:Nat→Int,i<m→∀ j,j<n→Eqm p (A i j) (aR (List.range m) fun a=>w a * M a j):=fun i=>by
  by_cases hi:i<m
  ·obtain ⟨w,hw⟩:=h.bwd i hi;exact⟨w,fun _=>hw⟩
  ·exact⟨fun _=>0,fun k=>absurd k hi⟩
 have hf:∀ i,∃ w:Nat→Int,i<m→∀ j,j<n→Eqm p (M i j) (aR (List.range m) fun a=>w a * A a j):=fun i=>by
  by_cases hi:i<m
  ·obtain ⟨w,hw⟩:=h.fwd i hi;exact⟨w,fun _=>hw⟩
  ·exact⟨fun _=>0,fun k=>absurd k hi⟩
 refine⟨fun i=>(hb i).choose,fun i=>(hf i).choose,fun b k=>if J[k]?=some b then 1 else 0,⟨fun i hi j hj=>?_,fun i hi j hj=>?_,fun i hi k hk=>?_⟩⟩
 ·exact ((hb i).choose_spec hi j hj).trans (y4 _ h.len fun a h1 h2=>h.low a h1 h2 j hj)
 ·exact ((hf i).choose_spec (by have:=h.len; omega) j hj).symm
 ·obtain ⟨jc,hjc⟩:∃ jc,J[k]?=some jc:=⟨J[k],List.getElem?_eq_getElem hk⟩;have hjn:jc<n:=h.col jc (List.mem_of_getElem? hjc);have e:qW n M (fun b k=>if J[k]?=some b then 1 else 0) i k=M i jc:=by
   show (aR (List.range n) fun t=>M i t * (if J[k]?=some t then 1 else 0))=_;rw[hjc];rw[ax (g:=fun b=>(if jc=b then 1 else 0) * M i b) (fun b _=>by rw[Int.mul_comm]; congr 1; by_cases q:jc=b <;> simp[q])];exact ko n jc hjn _
  rw[e];exact h.piv k jc hjc i (by have:=h.len; omega)
end
end Go.Pl
namespace Go.Pl
theorem su {p:Int}(h:p=2∨p=3∨p=5∨p=7):Fld p:=by
 refine⟨fun h1=>?_,fun a ha=>?_⟩
 ·obtain ⟨k,hk⟩:=h1
  rcases h with rfl | rfl | rfl | rfl <;> omega
 ·rcases h with rfl | rfl | rfl | rfl
  ·have:a % 2≠0:=fun e=>ha ⟨a / 2,by omega⟩;exact⟨1,⟨a / 2,by omega⟩⟩
  ·have:a % 3≠0:=fun e=>ha ⟨a / 3,by omega⟩;by_cases h1:a % 3=1
   ·exact⟨1,⟨a / 3,by omega⟩⟩
   ·exact⟨2,⟨a / 3 * 2+1,by omega⟩⟩
  ·have:a % 5≠0:=fun e=>ha ⟨a / 5,by omega⟩;by_cases h1:a % 5=1
   ·exact⟨1,⟨a / 5,by omega⟩⟩
   by_cases h2:a % 5=2
   ·exact⟨3,⟨a / 5 * 3+1,by omega⟩⟩
   by_cases h3:a % 5=3
   ·exact⟨2,⟨a / 5 * 2+1,by omega⟩⟩
   ·exact⟨4,⟨a / 5 * 4+3,by omega⟩⟩
  ·have:a % 7≠0:=fun e=>ha ⟨a / 7,by omega⟩;by_cases h1:a % 7=1
   ·exact⟨1,⟨a / 7,by omega⟩⟩
   by_cases h2:a % 7=2
   ·exact⟨4,⟨a / 7 * 4+1,by omega⟩⟩
   by_cases h3:a % 7=3
   ·exact⟨5,⟨a / 7 * 5+2,by omega⟩⟩
   by_cases h4:a % 7=4
   ·exact⟨2,⟨a / 7 * 2+1,by omega⟩⟩
   by_cases h5:a % 7=5
   ·exact⟨3,⟨a / 7 * 3+2,by omega⟩⟩
   ·exact⟨6,⟨a / 7 * 6+5,by omega⟩⟩
section
variable {p:Int}
theorem Eqm.neg {a b:Int}(h:Eqm p a b):Eqm p (-a) (-b):=by
 have:=(Eqm.refl (-1)).mul h;refine (Eqm.of ?_).trans (this.trans (Eqm.of ?_))<;>omega
theorem Eqm.sub {a b c d:Int}(h:Eqm p a b)(k:Eqm p c d):Eqm p (a - c) (b - d):=by
 have:=h.add k.neg;rwa [← Int.sub_eq_add_neg,← Int.sub_eq_add_neg] at this
theorem wy (hp:Fld p)(A:Nat→Nat→Int)(m n:Nat):∀ c,c≤n→∃ M J,lj p A m n M J c
 | 0,_=>⟨A,[],.start A m n⟩
 | c+1,hc=>by
  obtain ⟨M,J,h⟩:=wy hp A m n c (by omega);by_cases h0:∀ i,J.length≤i→i<m→Eqm p (M i c) 0
  ·exact⟨M,J,h.none h0⟩
  ·have ⟨i0,h1,h2,h3⟩:∃ i0,J.length≤i0∧i0<m∧¬ Eqm p (M i0 c) 0:=by
    apply Classical.byContradiction;intro k;exact h0 fun i a b=>Classical.byContradiction fun e=>k ⟨i,a,b,e⟩
   obtain ⟨b,hb⟩:=hp.2 _ h3;rw[Int.mul_comm] at hb;exact⟨fun i j=>if i=J.length then b * M i0 j else M (if i=i0 then J.length else i) j - M (if i=i0 then J.length else i) c * (b * M i0 j),J++[c],h.pivot (by omega) h1 h2 hb fun i _ j _=>.refl _⟩
theorem Di (hp:Fld p)(A:Nat→Nat→Int)(m n:Nat):∃ r X E L R,Red p A m n r X E L R:=by
 obtain ⟨M,J,h⟩:=wy hp A m n n (Nat.le_refl _);obtain ⟨X,L,R,h1⟩:=h.red;exact⟨_,X,M,L,R,h1⟩
open Classical in
noncomputable def rk (p:Int) (A:Nat→Nat→Int) (m n:Nat):Nat:=if h:∃ r,dS p A m n r then h.choose else 0
theorem AR (hp:Fld p){A:Nat→Nat→Int}{m n r:Nat}(h:dS p A m n r):rk p A m n=r:=by
 have h1:∃ r,dS p A m n r:=⟨r,h⟩;unfold rk;rw[dif_pos h1];exact dS.same hp h1.choose_spec h
theorem AQ (hp:Fld p)(A:Nat→Nat→Int)(m n:Nat):dS p A m n (rk p A m n):=by
 obtain ⟨r,X,E,L,R,h⟩:=Di hp A m n;rw[AR hp h.rank];exact h.rank
theorem dS.congr {A B:Nat→Nat→Int}{m n r:Nat}(h:dS p A m n r)(e:Meq p m n A B):dS p B m n r:=by
 obtain ⟨⟨X,Y,h1⟩,L,R,h2⟩:=qz.1 h;exact qz.2 ⟨⟨X,Y,e.symm.trans h1⟩,L,R,((Meq.refl L).mul (e.symm.mul (.refl R))).trans h2⟩
theorem wb (hp:Fld p){A B:Nat→Nat→Int}{m n:Nat}(e:Meq p m n A B):rk p A m n=rk p B m n:=(AR hp ((AQ hp B m n).congr e.symm))
theorem De (hp:Fld p)(A:Nat→Nat→Int)(m n:Nat):rk p (fun i j=>A j i) n m=rk p A m n:=AR hp (AQ hp A m n).turn
theorem lj.rk (hp:Fld p){A M:Nat→Nat→Int}{m n:Nat}{J:List Nat}(h:lj p A m n M J n):Pl.rk p A m n=J.length:=AR hp h.rank
theorem yU (hp:Fld p)(A:Nat→Nat→Int)(m n:Nat):rk p A m n≤n:=by
 obtain ⟨X,Y,h⟩:=(AQ hp A m n).thru;obtain ⟨L,R,k⟩:=(AQ hp A m n).one;refine Cu hp (X:=fun i b=>aR (List.range m) fun a=>L i a * A a b) (Y:=R) fun i hi j hj=>?_;refine (Eqm.of ?_).trans (k i hi j hj);have e:∀ t,(aR (List.range m) fun a=>L i a * A a t) * R t j=aR (List.range m) fun a=>L i a * (A a t * R t j):=fun t=>by
  rw[← fD];exact ax fun a _=>Int.mul_assoc _ _ _
 simp only[e];rw[eZ];exact ax fun a _=>dv _ _ _
theorem m7 (hp:Fld p)(A:Nat→Nat→Int)(m n:Nat):rk p A m n≤m:=by
 rw[← De hp];exact yU hp _ _ _
def mx {α β:Type}(R:List α)(C:List β)(e:α→β→Int):Nat→Nat→Int:=fun i j=>match R[i]?,C[j]? with
 | some r,some c=>e r c
 | _,_=>0
noncomputable def rkL {α β:Type} (p:Int) (R:List α) (C:List β) (e:α→β→Int):Nat:=rk p (mx R C e) R.length C.length
theorem Eh {α β:Type}{R:List α}{C:List β}{e:α→β→Int}{i j:Nat}{r:α}{c:β}(hr:R[i]?=some r)(hc:C[j]?=some c):mx R C e i j=e r c:=by
 unfold mx;rw[hr,hc]
end
end Go.Pl
namespace Go.Pl
def at2 (M:List (List Int)):Nat→Nat→Int:=fun i j=>(M.getD i []).getD j 0
def AX (m n:Nat)(f:Nat→Nat→Int):List (List Int):=(List.range m).map fun i=>(List.range n).map (f i)
theorem zy {m n:Nat}{f:Nat→Nat→Int}{i j:Nat}(hi:i<m)(hj:j<n):at2 (AX m n f) i j=f i j:=by
 have h1:(AX m n f).getD i []=(List.range n).map (f i):=by
  unfold AX;rw[List.getD_eq_getElem?_getD,List.getElem?_map,List.getElem?_range hi];rfl
 unfold at2;rw[h1,List.getD_eq_getElem?_getD,List.getElem?_map,List.getElem?_range hj];rfl
def AN (p a:Int):Int:=(((List.range p.toNat).find? fun b:Nat=>decide ((b * a) % p=1)).getD 0:Nat)
def x7 (p:Int)(m n:Nat):Nat→Nat→List (List Int)→Nat→Nat
 | 0,_,_,k=>k
 | f+1,c,M,k=>match (List.range m).find? fun i=>decide (k≤i)&&decide (at2 M i c % p≠0) with
  | none=>x7 p m n f (c+1) M k
  | some i0=>x7 p m n f (c+1) (AX m n fun i j=>(if i=k then AN p (at2 M i0 c) * at2 M i0 j else at2 M (if i=i0 then k else i) j - at2 M (if i=i0 then k else i) c * (AN p (at2 M i0 c) * at2 M i0 j)) % p) (k+1)
theorem qk (p a:Int):Eqm p (a % p) a:=by
 refine⟨-(a / p),?_⟩;rw[Int.mul_neg];have:=Int.emod_add_mul_ediv a p;omega
theorem qJ {p:Int}(hp:Fld p)(hinv:∀ a,a % p≠0→Eqm p (AN p a * a) 1){A:Nat→Nat→Int}{m n:Nat}:∀ (f c:Nat) (M:List (List Int)) (J:List Nat),f+c=n→lj p A m n (at2 M) J c→x7 p m n f c M J.length=rk p A m n
 | 0,c,M,J,hc,h=>by
  have:c=n:=by omega
  subst this;exact (h.rk hp).symm
 | f+1,c,M,J,hc,h=>by
  unfold x7;cases hf:(List.range m).find? fun i=>decide (J.length≤i)&&decide (at2 M i c % p≠0) with
  | none =>
   refine qJ hp hinv f (c+1) M J (by omega) (h.none fun i h1 h2=>?_);have:=List.find?_eq_none.1 hf i (List.mem_range.2 h2);simp only[Bool.and_eq_true,decide_eq_true_eq,not_and,Classical.not_not] at this;have h0:=this h1;exact⟨at2 M i c / p,by have:=Int.emod_add_mul_ediv (at2 M i c) p; omega⟩
  | some i0 =>
   have h1:=List.find?_some hf;have h2:=List.mem_range.1 (List.mem_of_find?_eq_some hf);simp only[Bool.and_eq_true,decide_eq_true_eq] at h1;have h3:=h.pivot (M':=at2 (AX m n fun i j=>(if i=J.length then AN p (at2 M i0 c) * at2 M i0 j else at2 M (if i=i0 then J.length else i) j - at2 M (if i=i0 then J.length else i) c * (AN p (at2 M i0 c) * at2 M i0 j)) % p)) (by omega) h1.1 h2 (hinv _ h1.2) fun i hi j hj=>by
    rw[zy hi hj];exact qk _ _
   have:=qJ hp hinv f (c+1) _ (J++[c]) (by omega) h3;rw[List.length_append,List.length_singleton] at this;exact this
theorem Dy (a:Int)(h:a % 2≠0):Eqm 2 (AN 2 a * a) 1:=by
 have h1:AN 2 a=1:=by
  unfold AN;have:(((1:Nat):Int) * a) % 2=1:=by omega
  have h0:¬ (((0:Nat):Int) * a) % 2=1:=by simp
  rw[show List.range (2:Int).toNat=[0,1] from rfl,List.find?_cons_of_neg (by rw[decide_eq_true_eq]; exact h0),List.find?_cons_of_pos (by rw[decide_eq_true_eq]; exact this)];rfl
 rw[h1];exact⟨a / 2,by omega⟩
def rkF {α β:Type}(R:List α)(C:List β)(e:α→β→Int):Nat:=x7 2 R.length C.length C.length 0 (AX R.length C.length (mx R C e)) 0
theorem Ee {α β:Type}(R:List α)(C:List β)(e:α→β→Int):rkL 2 R C e=rkF R C e:=by
 have hp:Fld 2:=su (.inl rfl);unfold rkF rkL;have h1:Meq 2 R.length C.length (mx R C e) (at2 (AX R.length C.length (mx R C e))):=fun i hi j hj=>Eqm.of (zy hi hj).symm;rw[wb hp h1];exact (qJ hp Dy C.length 0 _ [] (by omega) (lj.start _ _ _)).symm
def jL (p:Int):Bool:=decide (p=2)||decide (p=3)||decide (p=5)||decide (p=7)
end Go.Pl
namespace Go.Sy
open Go
section
variable {P:Program}{N:Nat}{E:World}{dst:Option Tmp}{ty:TypeId}{pos:String}{af:Array Edge}{gd:Option (Nat×Bool)}{f:Fr}{g:PH}{s:Own}
theorem SU.mkFuncB {n:FuncId}{l:List Operand}{vs:List Value}(hl:evs f l=some vs):SU P N ⟨dst,.makeFunc (.func n) l.toArray #[],ty,pos,af,gd⟩ f (.func (.func n) vs.toArray #[]):=fun a w ha=>by
 simp[execOp,Instr.makeFunc,ha.evs hl]
def AV (P:Program)(E:World)(v:Value)(args:List Value)(g:PH)(s:Own)(R:Value→PH→Own→Prop):Prop :=
 ∃ n fst,v = .func (.func n) fst #[]∧(∀ args w,(callFunc n args).run P w = .ok (.enter n args) w)∧Ctr P E n (fst++args.toArray) g s R
theorem SO.callB {x:Operand}{l:List Operand}{tys:Array TypeId}{v:Value}{vs:List Value}{R:Value→PH→Own→Prop}(hx:ev f x=some v)(hl:evs f l=some vs)(hc:AV P E v vs g s R) :
  SO P N E ⟨dst,.call ⟨.value x,l.toArray,tys⟩,ty,pos,af,gd⟩ f g s R:=by
 intro a w ha hw Q next hn;obtain ⟨n,fst,rfl,hcall,hfn⟩:=hc;unfold Oper.wp;have hr:(execOp a.eval ⟨dst,.call ⟨.value x,l.toArray,tys⟩,ty,pos,af,gd⟩).run P w = .ok (.enter n (fst++vs.toArray)) w:=by
  simp[execOp,resolve,ha.ev hx,Deferred.ofValue,invoke,hcall,ha.evs hl]
 rw[hr];refine (hfn w hw).mono fun e w' he=>?_;obtain ⟨u,g',s',rfl,hw',hR⟩:=he;exact hn u g' s' w' hR hw'
theorem SU.minF {x y:Operand}{T U:TypeId}{m n:Int}(hx:ev f x=some (vi m))(hy:ev f y=some (vi n)) :
  SU P N ⟨dst,.call ⟨.builtin .min,#[x,y],#[T,U]⟩,ty,pos,af,gd⟩ f (vi (min m n)):=fun a w ha=>by
 have h:=run_min_int2 (P:=P) (w:=w) #[T,U] ty .i64 .i64 m n;have h2:(if n<m then n else m)=min m n:=by split <;> omega
 rw[h2] at h;simp[execOp,resolve,invoke,builtin,ha.ev hx,ha.ev hy,h]
theorem SU.maxF {x y:Operand}{T U:TypeId}{m n:Int}(hx:ev f x=some (vi m))(hy:ev f y=some (vi n)) :
  SU P N ⟨dst,.call ⟨.builtin .max,#[x,y],#[T,U]⟩,ty,pos,af,gd⟩ f (vi (max m n)):=fun a w ha=>by
 have h:=run_max_int2 (P:=P) (w:=w) #[T,U] ty .i64 .i64 m n;have h2:(if m<n then n else m)=max m n:=by split <;> omega
 rw[h2] at h;simp[execOp,resolve,invoke,builtin,ha.ev hx,ha.ev hy,h]
end
end Go.Sy
namespace Go.Proofs.YtcfkpajlakidbaaGreatDoor
open _root_.Go.Proofs.Tryz _root_.Go.Proofs.YtcfkpajlakidbaaGreatDoor.Tryz
open Go Go.Sy Go.Pl Go.Proofs
set_option maxRecDepth 100000
def Fp (p:Int):Prop:=p=2∨p=3∨p=5∨p=7
theorem Fp.fld {p:Int}(h:Fp p):Fld p:=su h
theorem Fp.lt {p:Int}(h:Fp p):2≤p∧p≤7:=by
 rcases h with rfl | rfl | rfl | rfl <;> omega
theorem gF {p:Int}:jL p=true↔Fp p:=by
 unfold jL Fp;simp only[Bool.or_eq_true,zj1];omega
theorem pz (E:World)(g:PH)(s:Own)(p:Int)(h2:2≤p)(h9:p<9) :
  Ctr Tryz.prog E 51 #[vi p] g s (fun r g' s'=>r=vb (jL p)∧g=g'∧s=s'):=by
 refine za9 (args:=[vi p]) func51 I ntmps51 (bE I) ?_;refine rZ (aT I (sQ (sW I (lU (SU.eq (v':=vb false) (lS I I) (zd9 vb (zf5 oM))) (lM I (yC I (lY I I I (SU.eq (v':=vb false) (gR I I) (zd9 vb (zf5 oM))) (yF I (tZ (cF I (kP (tN (sQ (rZ (aT I (bK ?_))))))))))))))));refine oP (ι:=Nat) (fun k=>[(0,vi p),(3,vi k)]) (fun _=>g) (fun _=>s) (fun k=>k=2∨(k=3∧(p=5∨p=7))) (fun k=>3 - k) 2 sB I I (.inl I) ?_;rintro k hk;have hk3:(k:Int)=2∨(k:Int)=3∧(p=5∨p=7):=oM;refine sQ (sW rfl (lM rfl (lU (SU.eq (v':=vi ((k:Int) * k)) (SU.mulW rfl rfl) (zd9 vi (zk5 _ (by rcases hk3 with h | ⟨h,_⟩ <;> rw[h] <;> omega)))) ?_)));refine lM I (lU (SU.leq I I) (tZ ?_));refine iP I (fun hle=>?_) (fun hle=>?_)
 ·have hk2:k=2:=by
   rcases hk with h | ⟨h,h'⟩
   ·exact h
   ·subst h;have:(((3:Nat):Int) * ((3:Nat):Int))=9:=rfl;rw[this] at hle;omega
  subst hk2;have h4:4≤p:=by
   have:(((2:Nat):Int) * ((2:Nat):Int))=4:=rfl;rw[this] at hle;omega
  refine kP (tN (sQ (bK (sW I (lM I (lU (SU.eq (v':=vi (p % 2)) (zd6 I I dC) (zd9 vi (by rw[Int.tmod_eq_emod_of_nonneg oM]; rfl))) ?_))))));refine yE I (tZ ?_);refine iP I (fun hr=>?_) (fun hr=>?_)
  ·refine rZ (aT I (rE (bR (tR (tR (bR (tR ?_)))))));have:jL p=false:=by
    rw[Bool.eq_false_iff,Ne,gF];rintro (h | h | h | h)<;>omega
   rw[this];exact za6 (.inl I) results51 I ⟨I,I,I⟩
  ·refine kP (bN (tN (rG (lM I (yD I (lA I (nL ?_)))))));exact gA 3 sB I I (.inr ⟨I,oM⟩) dC
 ·refine xI (tX (tX (bX (tN (rZ (aT I (rE ?_)))))));have hp:jL p=true:=by
   rw[gF]
   rcases hk with h | ⟨h,h'⟩
   ·subst h;have:(((2:Nat):Int) * ((2:Nat):Int))=4:=rfl;rw[this] at hle;unfold Fp;omega
   ·unfold Fp;omega
  rw[hp];exact za6 (.inl I) results51 I ⟨I,I,I⟩
theorem pS (E:World)(g:PH)(s:Own)(p:Int)(hp:Fp p)(R C:Nat)(hr:R≤400)(hc:C≤400) :
  Ctr Tryz.prog E 206 #[vi p,vi R,vi C] g s (fun x g' s'=>x=vb true∧g=g'∧s=s'):=by
 have hl:=hp.lt;have hps:jL p=true:=gF.2 hp;refine za9 (args:=[vi p,vi R,vi C]) func206 I ntmps206 (bE I) ?_;refine rZ (aT I (sW I (lW (cL call51 I (by have:=pz E g s p oM oM; rw[hps] at this; exact this)) ?_)));rintro _ _ _ ⟨rfl,rfl,rfl⟩;refine lM I (yC I (yC I (lY I I I (SU.minF I I) (lY I I I (SU.eq (v':=vb true) (gQ I I) (zd9 vb (zf6 oM))) (yP I (lM I (yC I (yC I (lY I I I (SU.maxF I I) (lY I I I (SU.eq (v':=vb true) (SU.leq I I) (zd9 vb (zf6 oM))) (yP I (aT I (rE ?_)))))))))))));exact za6 (.inl I) results206 I ⟨I,I,I⟩
theorem AM {r c:Nat}(hr:r≤400)(hc:c≤400):r * c≤160000:=Nat.mul_le_mul hr hc
def FmR (g:PH)(v:Value)(p:Int)(R C:Nat)(A:List Int):Prop:=∃ q c,v = .agg #[vi p,vi R,vi C,.slice q A.length c]∧bZ g (.slice q A.length c) A
theorem Tryz.build201 (m r c:Int)(p:Option Addr)(n k:Nat)(w:World):(Instr.build 201 #[(0,vi m),(1,vi r),(2,vi c),(3,.slice p n k)]).run Tryz.prog w = .ok (.agg #[vi m,vi r,vi c,.slice p n k]) w:=by
 have h1:∀ n,(vi n).cells = #[vi n]:=fun _=>rfl;have h2:(Value.slice p n k).cells = #[.slice p n k]:=rfl;simp[Instr.build,Instr.fill,h1,h2];rfl
theorem Am (E:World)(g:PH)(s:Own)(p:Int)(hp:Fp p)(r c:Nat)(hr:r≤400)(hc:c≤400) :
  Ctr Tryz.prog E 187 #[vi p,vi r,vi c] g s (fun x g' s'=>g=g'∧∃ b,x = .agg #[vi p,vi r,vi c,.slice (some ⟨b,0,none⟩) (r * c) (r * c)]∧s'=rowA encInt 3 (.slice (some ⟨b,0,none⟩) (r * c) (r * c)) (List.replicate (r * c) 0)::s):=by
 have hm:=AM hr hc;refine za9 (args:=[vi p,vi r,vi c]) func187 I ntmps187 (bE I) ?_;refine rZ (bW (aL zl1) fun b6=>?_);refine tZ (sQ (sW I (lM I (lM I (lW (cL call206 I (pS E g _ p hp r c hr hc)) ?_)))));rintro _ _ _ ⟨rfl,rfl,rfl⟩;refine lU (SU.not I) (tZ (cF I (kP (tN (sW I (lM I (lM I (lM I (lM I (lU (SU.eq (v':=vi ((r * c:Nat))) (SU.mulW I I) (zd9 vi (by rw[← Int.natCast_mul]; exact zk5 _ oM))) ?_))))))))));refine lW (mK encInt 0 sty25 I I I oM oM) ?_;rintro _ _ _ ⟨b15,rfl,rfl,rfl⟩;refine lU (za1 I (build201 _ _ _ _ _ _)) ?_;refine oZ (sK 1 dh rfl rfl rfl rfl rfl (by (repeat' (first | exact trivial | refine⟨by rfl,?_⟩)))) ?_;refine tZ (rE ?_);exact ST.retCD 1 _ (.inl I) results187 I isAgg201 dh I I (.cons_cons _ (.cons _ (.refl _))) ⟨I,_,I,I⟩
theorem Ef (E:World)(g:PH)(s:Own)(b:Nat)(p n:Int)(hb:eC g s ⟨b,0,none⟩ (vi p))(h0:0≤n)(hn:n<p) :
  dn Tryz.prog E (.func (.func 214) #[] #[pp b 0]) [vi n] g s (fun x g' s'=>x=vb false∧g=g'∧s=s'):=by
 refine dn.mk (cap:=[pp b 0]) call214 ?_;refine za9 (args:=[vi n,pp b 0]) func214 I ntmps214 (bE I) ?_;refine rZ (aT I (sW I (lU (SU.eq (v':=vb false) (lS I I) (zd9 vb (zf5 oM))) (lM I (yC I (lY I I I (fA dN I zT3 I) (SL.gq (gT I I I dC) (qL (v:=vi p) iT3 I hb) dC (lY I I I (SU.eq (v':=vb false) (gQ I I) (zd9 vb (zf5 oM))) (yF I (aT I (rE ?_)))))))))));exact za6 (.inl I) results214 I ⟨I,I,I⟩
theorem xE (E:World)(g:PH)(s:Own)(v:Value)(kn:FuncId)(kc:Array Value)(l:List Int)(hv:bZ g v l)(hl:l.length<1099511627776)(hp:∀ a∈l,dn Tryz.prog E (.func (.func kn) #[] kc) [vi a] g s (fun x g' s'=>x=vb false∧g=g'∧s=s')) :
  Ctr Tryz.prog E 227 #[v,.func (.func kn) #[] kc] g s (fun r g' s'=>r=vi (-1)∧g=g'∧s=s'):=by
 obtain ⟨p,c,rfl⟩:=za2 hv;refine za9 (args:=[.slice p l.length c,.func (.func kn) #[] kc]) func227 I ntmps227 (bE I) ?_;refine rZ (aT I (sQ (sW I (lU (eN ak I) (lM I (tZ (bK ?_)))))));refine oP (ι:=Nat) (fun k=>[(0,.slice p l.length c),(1,.func (.func kn) #[] kc),(7,vi l.length),(8,vi k)]) (fun _=>g) (fun _=>s) (fun k=>k≤l.length) (fun k=>l.length - k) 0
  sB rfl rfl (zf4 _) ?_
 rintro k hk;refine rZ (yL I (tZ (sQ ?_)));refine iP I (fun hlt=>?_) (fun hlt=>?_)
 ·have hkl:k<l.length:=oM;have hb1:=za4 hv oM;refine kP (tN (sQ (bK (sW I (aT I (sW I (lM I (lM I (lU (iA ak zT3 I I hb1 oM sL) ?_)))))))));refine SL.q (eB iT3 I (za5 hv) (gE hkl) I) dC ?_;refine lW (SO.callV I I (hp l[k] (gM hkl))) ?_;rintro _ _ _ ⟨rfl,rfl,rfl⟩;refine tZ (cF I (kP (bN (tN (rG (yD I (lM I (nL ?_))))))));exact gA (k+1) sB I I oM oM
 ·refine xI (tX (tX (bX (tN (rZ (aT I (rE ?_)))))));exact za6 (.inl I) results227 I ⟨I,I,I⟩
theorem rD (E:World)(g:PH)(s:Own)(v:Value)(kn:FuncId)(kc:Array Value)(l:List Int)(hv:bZ g v l)(hl:l.length<1099511627776)(hp:∀ a∈l,dn Tryz.prog E (.func (.func kn) #[] kc) [vi a] g s (fun x g' s'=>x=vb false∧g=g'∧s=s')) :
  Ctr Tryz.prog E 213 #[v,.func (.func kn) #[] kc] g s (fun r g' s'=>r=vb false∧g=g'∧s=s'):=by
 refine za9 (args:=[v,.func (.func kn) #[] kc]) func213 I ntmps213 (bE I) ?_;refine rZ (aT I (sW I (lM I (lW (cL call227 I (xE E g _ v kn kc l hv hl hp)) ?_))));rintro _ _ _ ⟨rfl,rfl,rfl⟩;refine lU (gQ I I) (aT I (rE ?_));exact za6 (.inl I) results213 I ⟨I,I,I⟩
theorem vm (E:World)(g:PH)(s:Own)(v:Value)(p:Int)(hp:Fp p)(R C:Nat)(hr:R≤400)(hc:C≤400)(A:List Int)(hA:A.length=R * C)(hv:FmR g v p R C A)(h0:∀ x∈A,0≤x∧x<p) :
  Ctr Tryz.prog E 204 #[v] g s (fun x g' s'=>x=vb true∧g=g'∧s=s'):=by
 obtain ⟨q,c,rfl,hs⟩:=hv;have hm:=AM hr hc;refine za9 (args:=[.agg #[vi p,vi R,vi C,.slice q A.length c]]) func204 I ntmps204 (bE I) ?_;refine rZ (bW (bO I) fun b1=>?_);refine aT I (rZ (lU (fA dN I zT3 I) (lK (qL iT3 I (cO 0 I I)) (lU (fA dN I zT3 I) (lK (qL iT3 I (cO 0 I I)) (lU (fA dN I zT3 I) (lK (qL iT3 I (cO 0 I I)) (lW (cL call206 I (pS E g _ p hp R C hr hc)) ?_))))))));rintro _ _ _ ⟨rfl,rfl,rfl⟩;refine lM I (lY I I I (fA dN I bP I) (SL.gq (gT I I I dC) (qL dG I (cO 0 I I)) dC (lY I I I (eN ak I) (lY I I I (fA dN I zT3 I) (SL.gq (gT I I I dC) (qL iT3 I (cO 0 I I)) dC (lY I I I (fA dN I zT3 I) (SL.gq (gT I I I dC) (qL iT3 I (cO 0 I I)) dC (lY I I I (SU.eq (v':=vi ((R * C:Nat))) (SU.mulW I I) (zd9 vi (by rw[← Int.natCast_mul]; exact zk5 _ oM))) ?_))))))));refine lY I I I (SU.eq (v':=vb true) (eQ I I) (zd9 vb (zf6 (by rw[hA])))) ?_;refine yP I (lM I (lY I I I (fA dN I bP I) (SL.gq (gT I I I dC) (qL dG I (cO 0 I I)) dC (lY I I I (SU.mkFunc I) (SL.go (gT I I I dC) (cL call213 I (rD E g _ (.slice q A.length c) _ _ A hs oM fun a ha=>Ef E g _ b1 p a (cO 0 I I) (h0 a ha).1 (h0 a ha).2)) dC ?_)))));rintro _ _ _ ⟨rfl,rfl,rfl⟩;refine lY I I I (SU.not I) (yP I (aT I (rE (dR (s':=s) uR ?_))));exact za6 (.inl I) results204 I ⟨I,I,I⟩
theorem eK {b x y:Nat}(h:x=y):Value.pointer (some ⟨b,x,none⟩)=Value.pointer (some ⟨b,y,none⟩):=by rw[h]
def jb (b i C c:Nat):Value:=.slice (some ⟨b,i * C * 1,none⟩) C (c - i * C)
theorem w8 {b i C c:Nat}(hC:0<C)(hc:(i+1) * C≤c):sliced (some ⟨b,0,none⟩) (i * C) ((i+1) * C) c 1=jb b i C c:=by
 have h1:(i+1) * C=i * C+C:=by rw[Nat.add_mul,Nat.one_mul]
 unfold sliced jb;rw[zf7 oM,h1,Nat.add_sub_cancel_left];simp[Addr.add];exact fun h=>h.symm
def lJ (p:Int)(R C:Nat)(v:Value)(ov:List Int):Array Value:=(vi p::vi R::vi C::v::ov.map vi).toArray
def atF (L:List Int)(C x y:Nat):Int:=L.getD (x * C+y) 0
theorem iL {R C x y:Nat}(hx:x<R)(hy:y<C):x * C+y<R * C:=by
 have:=Nat.mul_le_mul_right C (show x+1≤R from hx);rw[Nat.add_mul,Nat.one_mul] at this;omega
theorem jK {R C x:Nat}(hx:x<R):(x+1) * C≤R * C:=Nat.mul_le_mul_right C hx
theorem zd {C x y x' y':Nat}(hy:y<C)(hy':y'<C):x * C+y=x' * C+y'↔x=x'∧y=y' :=
 ⟨fun h=>by
  have h1:(x * C+y) / C=x:=by rw[Nat.mul_comm,Nat.mul_add_div oM,Nat.div_eq_of_lt hy,Nat.add_zero]
  have h2:(x' * C+y') / C=x':=by rw[Nat.mul_comm,Nat.mul_add_div oM,Nat.div_eq_of_lt hy',Nat.add_zero]
  have h3:x=x':=by rw[← h1,← h2,h]
  subst h3;exact⟨rfl,oM⟩,fun ⟨h1,h2⟩=>by rw[h1,h2]⟩
theorem nf {L:List Int}{R C x y x' y':Nat}(hL:L.length=R * C)(hx:x<R)(hy:y<C)(hy':y'<C)(v:Int):atF (L.set (x * C+y) v) C x' y'=if x=x'∧y=y' then v else atF L C x' y':=by
 unfold atF;rw[zg8,zg8,List.getElem?_set];by_cases h:x=x'∧y=y'
 ·rw[zf8 ((zd hy hy').2 h),zf8 h,zf8 (by rw[hL]; exact iL hx hy)];rfl
 ·rw[zf7 (fun e=>h ((zd hy hy').1 e)),zf7 h]
theorem iM {L:List Int}{R C x y:Nat}(hL:L.length=R * C)(hx:x<R)(hy:y<C):L[x * C+y]?=some (atF L C x y):=by
 have:=iL hx hy;unfold atF;rw[zg8,gE oM];rfl
def Ov (p:Int)(ov:List Int):Prop:=ov.length=998∧∀ i:Nat,i<8→ov.getD i 0=0∨(0<ov.getD i 0∧ov.getD i 0<p∧(ov.getD i 0 * i) % p=1)
def yb (bm:Nat)(p:Int)(R C:Nat)(v:Value):Ent:=⟨some bm,fun oo=>∃ ov,Ov p ov∧oo=some (.cells (lJ p R C v ov) 258 (0,0))⟩
theorem qi {g:PH}{s:Own}{bm:Nat}{p:Int}{R C o:Nat}{v u:Value}(i:Nat)(hi:s[i]?=some (yb bm p R C v))(hu:[vi p,vi R,vi C,v][o]?=some u):eC g s ⟨bm,o,none⟩ u:=fun E w hw=>by
 have:=hw.own _ (zf9 hi);simp only[yb,Option.bind_some] at this;obtain ⟨ov,_,h⟩:=this;have ho:o<4:=(zf3.1 hu).1;have h2:(lJ p R C v ov)[o]?=some u:=by
  rw[← hu];unfold lJ
  match o,ho with
  | 0,_=>rfl
  | 1,_=>rfl
  | 2,_=>rfl
  | 3,_=>rfl
 simp[World.cell?,h,h2]
def gO (p:Int)(R C b cE bm:Nat)(L:List Int)(s:Own):Own:=rowA encInt 3 (.slice (some ⟨b,0,none⟩) (R * C) cE) L::yb bm p R C (.slice (some ⟨b,0,none⟩) (R * C) cE)::s
theorem dV (E:World)(g:PH)(s:Own)(p:Int)(R C b cE bm i:Nat)(L:List Int)(hR:R≤400)(hC:C≤400)(hC0:0<C)(hi:i<R)(hc:R * C≤cE) :
  Ctr Tryz.prog E 215 #[pp bm 0,vi i] g (gO p R C b cE bm L s) (fun x g' s'=>x=jb b i C cE∧g=g'∧s'=gO p R C b cE bm L s):=by
 have hm:=AM hR hC;have h1:=jK (C:=C) hi;have h2:(i+1) * C=i * C+C:=by rw[Nat.add_mul,Nat.one_mul]
 have hsl:=w8 (b:=b) hC0 (zk3 h1 hc);unfold gO;refine za9 (args:=[pp bm 0,vi i]) func215 I ntmps215 (bE I) ?_;refine rZ (aT I (sQ ?_));refine dW [] [(0,2),(1,2),(2,2),(3,2),(4,1),(5,2),(6,2),(7,2),(8,2),(9,2),(10,1),(11,2),(12,2),(13,2),(14,2),(15,2),(16,2),(17,2),(18,1),(19,2),(20,2),(21,2)] ze1 kR ?_;refine yM I (pU I (nC I) (pU I (fA kX I dh I) (pU I (fA dN I bP I) (pK I (qL (v:=.slice (some ⟨b,0,none⟩) (R * C) cE) dG I (qi 1 I I)) (yM I (yM I (pU I (nC I) (pU I (fA kX I dh I) (pU I (fA dN I zT3 I) (pK I (qL (v:=vi C) iT3 I (qi 1 I I)) (pU I (SU.eq (v':=vi ((i * C:Nat))) (SU.mulW I I) (zd9 vi (by rw[← Int.natCast_mul]; exact zk5 _ oM))) ?_)))))))))));refine yM I (pU I (SU.eq (v':=vi ((i+1:Nat))) (aD I I oM) (zd9 vi oM)) (yM I (pU I (nC I) (pU I (fA kX I dh I) (pU I (fA dN I zT3 I) (pK I (qL (v:=vi C) iT3 I (qi 1 I I)) (pU I (SU.eq (v':=vi (((i+1) * C:Nat))) (SU.mulW I I) (zd9 vi (by rw[← Int.natCast_mul]; exact zk5 _ oM))) ?_)))))));refine pU I (SU.eq (v':=jb b i C cE) (SU.sliceLH ak zT3 I I I oM oM oM) (by rw[← hsl]; rfl)) ?_;refine pU I (aS I) (pN (tN (rE ?_)));exact za6 (.inl I) results215 I ⟨I,I,I⟩
def swF (i j x:Nat):Nat:=if x=i then j else if x=j then i else x
theorem CP (i j:Nat):swF i j i=j:=zf8 rfl
theorem EG (i j:Nat):swF i j j=i:=by
 unfold swF;split
 ·rename_i h; exact h
 ·rw[zf8 rfl]
theorem EF {i j x:Nat}(h1:x≠i)(h2:x≠j):swF i j x=x:=by
 unfold swF;rw[zf7 h1,zf7 h2]
theorem xH (E:World)(g:PH)(s:Own)(p:Int)(R C b cE bm i j:Nat)(L:List Int)(hR:R≤400)(hC:C≤400)(hC0:0<C)(hi:i<R)(hj:j<R)(hc:R * C≤cE)(hL:L.length=R * C) :
  Ctr Tryz.prog E 216 #[pp bm 0,vi i,vi j] g (gO p R C b cE bm L s) (fun _ g' s'=>g=g'∧∃ L',s'=gO p R C b cE bm L' s∧L'.length=R * C∧∀ x<R,∀ y<C,atF L' C x y=atF L C (swF i j x) y):=by
 have hm:=AM hR hC;have hi1:=jK (C:=C) hi;have hj1:=jK (C:=C) hj;have hi2:(i+1) * C=i * C+C:=by rw[Nat.add_mul,Nat.one_mul]
 have hj2:(j+1) * C=j * C+C:=by rw[Nat.add_mul,Nat.one_mul]
 refine za9 (args:=[pp bm 0,vi i,vi j]) func216 I ntmps216 (bE I) ?_;refine sW I (lM I (lW (cL call215 I (dV E g s p R C b cE bm i L hR hC hC0 hi hc)) ?_));rintro _ _ _ ⟨rfl,rfl,rfl⟩;refine lM I (lM I (lW (cL call215 I (dV E g s p R C b cE bm j L hR hC hC0 hj hc)) ?_));rintro _ _ _ ⟨rfl,rfl,rfl⟩;refine lA I (aT I (sW I (lU (SU.eq (v':=vi (C:Nat)) (eM ak I I) I) (lM I (tZ (bK ?_))))));refine oP (ι:=Nat×List Int) (fun z=>[(6,jb b i C cE),(7,jb b j C cE),(16,vi C),(17,vi z.1)]) (fun _=>g) (fun z=>gO p R C b cE bm z.2 s) (fun z=>z.1≤C∧z.2.length=R * C∧∀ x<R,∀ y<C,atF z.2 C x y=if y<z.1 then atF L C (swF i j x) y else atF L C x y) (fun z=>C - z.1) (0,L) sB I I ⟨zf4 _,hL,fun x _ y _=>by simp⟩ ?_;rintro ⟨k,M⟩ ⟨hk,hM,hz⟩;dsimp only at hk hM hz ⊢;refine rZ (yL I (tZ (sQ ?_)));refine iP I (fun hlt=>?_) (fun hlt=>?_)
 ·have hkC:k<C:=oM;have gi:=iM hM hi hkC;have gj:=iM hM hj hkC;unfold gO;refine kP (tN (sQ (bK (sW I (aT I ?_)))));refine dW [13,15] [(0,2),(1,2),(2,2),(3,2),(4,2),(5,2),(6,2),(7,1),(8,2),(9,2),(10,2),(11,1),(12,2),(13,0),(14,2),(15,0)] ze1 kR ?_;refine yM I (yM I (yM I (yM I (yM I (yM I (pU I (SU.eq (v':=.pointer (some ⟨b,0+(j * C+k) * 1,none⟩)) (iA ak zT3 I I I oM (by simp only[jb,slen]; omega)) (eK (by simp only[Int.toNat_natCast]; omega))) ?_))))));refine pK I (eB (j:=j * C+k) iT3 I (zb5 0 I) gj I) (yM I (yM I (pU I (SU.eq (v':=.pointer (some ⟨b,0+(i * C+k) * 1,none⟩)) (iA ak zT3 I I I oM (by simp only[jb,slen]; omega)) (eK (by simp only[Int.toNat_natCast]; omega))) ?_)));refine pK I (eB (j:=i * C+k) iT3 I (zb5 0 I) gi I) (pU I (SU.eq (v':=.pointer (some ⟨b,0+(i * C+k) * 1,none⟩)) (iA ak zT3 I I I oM (by simp only[jb,slen]; omega)) (eK (by simp only[Int.toNat_natCast]; omega))) ?_);refine SP.on I (sT (e:=encInt) (a:=atF M C j k) (j:=i * C+k) 0 zT3 I I I (by rw[hM]; exact iL hi hkC) I) (.inl dC) ?_;rintro _ _ _ ⟨rfl,rfl⟩;refine pU I (SU.eq (v':=.pointer (some ⟨b,0+(j * C+k) * 1,none⟩)) (iA ak zT3 I I I oM (by simp only[jb,slen]; omega)) (eK (by simp only[Int.toNat_natCast]; omega))) ?_;refine SP.on I (sT (e:=encInt) (a:=atF M C i k) (j:=j * C+k) 0 zT3 I I I (by rw[zi1,hM]; exact iL hj hkC) I) (.inl dC) ?_;rintro _ _ _ ⟨rfl,rfl⟩;refine pN (bN (tN (rG (yD I (lM I (nL ?_))))));have h1:(M.set (i * C+k) (atF M C j k)).length=R * C:=by rw[zi1,hM]
  exact gA (k+1,(M.set (i * C+k) (atF M C j k)).set (j * C+k) (atF M C i k)) sB I I ⟨by dsimp only; omega,by dsimp only; rw[zi1,h1],fun x hx y hy=>by
   dsimp only;rw[nf h1 hj hkC hy,nf hM hi hkC hy,hz x hx y hy,hz i hi k hkC,hz j hj k hkC,zf7 (Nat.lt_irrefl k),zf7 (Nat.lt_irrefl k)];by_cases e1:j=x∧k=y
   ·obtain ⟨e1,e0⟩:=e1;subst e1;subst e0;rw[zf8 ⟨rfl,rfl⟩,zf8 (Nat.lt_succ_self k),EG]
   ·rw[zf7 e1];by_cases e2:i=x∧k=y
    ·obtain ⟨e2,e0⟩:=e2;subst e2;subst e0;rw[zf8 ⟨rfl,rfl⟩,zf8 (Nat.lt_succ_self k),CP]
    ·rw[zf7 e2];by_cases e3:y<k
     ·rw[zf8 e3,zf8 (Nat.lt_succ_of_lt e3)]
     ·rw[zf7 e3];by_cases e4:y=k
      ·subst e4;rw[zf8 (Nat.lt_succ_self y),EF (fun e=>e2 ⟨e.symm,rfl⟩) (fun e=>e1 ⟨e.symm,rfl⟩)]
      ·rw[zf7 (show ¬ y<k+1 by omega)]⟩ (by dsimp only; omega)
 ·refine xI (tX (tX (bX ?_)));have hkC:k=C:=oM;subst hkC;exact ST.ret0 (.inr I) results216 ⟨I,M,I,hM,fun x hx y hy=>by rw[hz x hx y hy,zf8 hy]⟩
theorem pV (E:World)(g:PH)(s:Own)(p:Int)(R C b cE bm i:Nat)(L:List Int)(hR:R≤400)(hC:C≤400)(hC0:0<C)(hi:i<R)(hc:R * C≤cE)(hL:L.length=R * C)(fn:FuncId)(fst:Array Value)(F:Nat→Int→Int)
  (hF:∀ L',L'.length=R * C→(∀ x<R,x≠i→∀ y<C,atF L' C x y=atF L C x y)→∀ k<C,AV Tryz.prog E (.func (.func fn) fst #[]) [vi k,vi (atF L C i k)] g (gO p R C b cE bm L' s) (fun x g' s'=>x=vi (F k (atF L C i k))∧g=g'∧s'=gO p R C b cE bm L' s)) :
  Ctr Tryz.prog E 217 #[jb b i C cE,.func (.func fn) fst #[]] g (gO p R C b cE bm L s) (fun _ g' s'=>g=g'∧∃ L',s'=gO p R C b cE bm L' s∧L'.length=R * C∧∀ x<R,∀ y<C,atF L' C x y=if x=i then F y (atF L C i y) else atF L C x y):=by
 have hm:=AM hR hC;have hi1:=jK (C:=C) hi;have hi2:(i+1) * C=i * C+C:=by rw[Nat.add_mul,Nat.one_mul]
 refine za9 (args:=[jb b i C cE,.func (.func fn) fst #[]]) func217 I ntmps217 (bE I) ?_;refine sW I (lU (SU.eq (v':=vi (C:Nat)) (eM ak I I) I) (lM I (tZ (bK ?_))));refine oP (ι:=Nat×List Int) (fun z=>[(0,jb b i C cE),(1,.func (.func fn) fst #[]),(6,jb b i C cE),(7,vi C),(8,vi z.1)]) (fun _=>g) (fun z=>gO p R C b cE bm z.2 s) (fun z=>z.1≤C∧z.2.length=R * C∧∀ x<R,∀ y<C,atF z.2 C x y=if x=i∧y<z.1 then F y (atF L C i y) else atF L C x y) (fun z=>C - z.1) (0,L) sB I I ⟨zf4 _,hL,fun x _ y _=>by simp⟩ ?_;rintro ⟨k,M⟩ ⟨hk,hM,hz⟩;dsimp only at hk hM hz ⊢;refine rZ (yL I (tZ (sQ ?_)));refine iP I (fun hlt=>?_) (fun hlt=>?_)
 ·have hkC:k<C:=oM;have gi:=iM hM hi hkC;rw[hz i hi k hkC,zf7 oM] at gi;have hcall:=hF M hM (fun x hx hne y hy=>by rw[hz x hx y hy,zf7 (fun e=>hne e.1)]) k hkC;unfold gO at hcall ⊢;refine kP (tN (sQ (bK (sW I (lU (SU.eq (v':=.pointer (some ⟨b,0+(i * C+k) * 1,none⟩)) (iA ak zT3 I I I oM (by simp only[jb,slen]; omega)) (eK (by simp only[Int.toNat_natCast]; omega))) ?_)))));refine lK (eB (j:=i * C+k) iT3 I (zb5 0 I) gi I) (lA I (aT I (rG (lM I (lM I (lM I (lM I (lM I (lW (SO.callB I I hcall) ?_)))))))));rintro _ _ _ ⟨rfl,rfl,rfl⟩;refine lU (SU.eq (v':=.pointer (some ⟨b,0+(i * C+k) * 1,none⟩)) (iA ak zT3 I I I oM (by simp only[jb,slen]; omega)) (eK (by simp only[Int.toNat_natCast]; omega))) ?_;refine oZ (sT (e:=encInt) (a:=F k (atF L C i k)) (j:=i * C+k) 0 zT3 I I I (by rw[hM]; exact iL hi hkC) I) ?_;refine nL (bN (tN (rG (yD I (lM I (nL ?_))))));exact gA (k+1,M.set (i * C+k) (F k (atF L C i k))) sB I I ⟨by dsimp only; omega,by dsimp only; rw[zi1,hM],fun x hx y hy=>by
   dsimp only;rw[nf hM hi hkC hy,hz x hx y hy];by_cases e1:i=x∧k=y
   ·obtain ⟨rfl,rfl⟩:=e1;rw[zf8 ⟨rfl,rfl⟩,zf8 ⟨rfl,oM⟩]
   ·rw[zf7 e1];by_cases e2:x=i∧y<k
    ·rw[zf8 e2,zf8 ⟨e2.1,oM⟩]
    ·rw[zf7 e2,zf7 (fun e=>e2 ⟨e.1,by
      have:¬ k=y:=fun e3=>e1 ⟨e.1.symm,e3⟩;omega⟩)]⟩ (by dsimp only; omega)
 ·refine xI (tX (tX (bX ?_)));have hkC:k=C:=oM;subst hkC;exact ST.ret0 (.inr I) results217 ⟨I,M,I,hM,fun x hx y hy=>by
   rw[hz x hx y hy];by_cases e:x=i
   ·rw[zf8 ⟨e,hy⟩,zf8 e]
   ·rw[zf7 (fun k=>e k.1),zf7 e]⟩
theorem uu {a b p:Int}(h7:p≤7)(ha:0≤a)(ha1:a<p)(hb:0≤b)(hb1:b<p):0≤a * b∧a * b≤49:=by
 refine⟨Int.mul_nonneg ha hb,?_⟩;have h1:a * b≤7 * 7:=Int.mul_le_mul oM oM hb dC;omega
theorem vk (E:World)(g:PH)(s:Own)(p t n:Int)(k:Nat)(h2:2≤p)(h7:p≤7)(ht:0≤t)(ht1:t<p)(hn:0≤n)(hn1:n<p) :
  AV Tryz.prog E (.func (.func 219) #[.agg #[.slice none 0 0,vi t,vi p]] #[]) [vi k,vi n] g s (fun x g' s'=>x=vi (n * t % p)∧g=g'∧s'=s):=by
 have hb:=uu h7 hn hn1 ht ht1;refine⟨_,_,I,call219,?_⟩;show Ctr _ _ _ #[.agg #[.slice none 0 0,vi t,vi p],vi k,vi n] _ _ _;refine za9 (args:=[.agg #[.slice none 0 0,vi t,vi p],vi k,vi n]) func219 I ntmps219 (bE I) ?_;refine rZ (bW (bO I) fun b3=>?_);refine aT I (sW I (lU (fA underlying263 I zT3 I) (lK (qL iT3 I (cO 0 I I)) (lU (SU.eq (v':=vi (n * t)) (SU.mulW I I) (zd9 vi (zk5 _ oM))) (lU (fA underlying263 I zT3 I) (lK (qL iT3 I (cO 0 I I)) (lU (SU.eq (v':=vi (n * t % p)) (zd6 I I oM) (zd9 vi (Int.tmod_eq_emod_of_nonneg hb.1))) (aT I (rE (dR (s':=s) uR ?_))))))))));exact za6 (.inl I) results219 I ⟨I,I,I⟩
theorem Av (E:World)(g:PH)(s:Own)(p t n:Int)(R C b cE bm i k:Nat)(L:List Int)(h2:2≤p)(h7:p≤7)(ht:0≤t)(ht1:t<p)(hn:0≤n)(hn1:n<p)(hL:L.length=R * C)(hi:i<R)(hk:k<C)(hr:0≤atF L C i k)(hr1:atF L C i k<p)(hR:R≤400)(hC:C≤400) :
  AV Tryz.prog E (.func (.func 220) #[.agg #[jb b i C cE,vi t,vi p]] #[]) [vi k,vi n] g (gO p R C b cE bm L s) (fun x g' s'=>x=vi ((n+atF L C i k * t) % p)∧g=g'∧s'=gO p R C b cE bm L s):=by
 have hm:=AM hR hC;have hi1:=jK (C:=C) hi;have hi2:(i+1) * C=i * C+C:=by rw[Nat.add_mul,Nat.one_mul]
 have hb:=uu h7 hr hr1 ht ht1;have gi:=iM hL hi hk;refine⟨_,_,I,call220,?_⟩;show Ctr _ _ _ #[.agg #[jb b i C cE,vi t,vi p],vi k,vi n] _ _ _;unfold gO;refine za9 (args:=[.agg #[jb b i C cE,vi t,vi p],vi k,vi n]) func220 I ntmps220 (bE I) ?_;refine rZ (bW (bO I) fun b3=>?_);refine aT I (sQ ?_);refine dW [] [(0,2),(1,2),(2,1),(3,2),(4,2),(5,1),(6,2),(7,1),(8,2),(9,2),(10,2),(11,1),(12,2),(13,2)] ze1 kR ?_;refine yM I (pU I (fA underlying263 I bP I) (pK I (qL (v:=jb b i C cE) dG I (cO 0 I I)) (yM I (pU I (SU.eq (v':=.pointer (some ⟨b,0+(i * C+k) * 1,none⟩)) (iA ak zT3 I I I oM (by simp only[jb,slen]; omega)) (eK (by simp only[Int.toNat_natCast]; omega))) ?_))));refine pK I (eB (j:=i * C+k) iT3 I (zb5 1 I) gi I) (pU I (fA underlying263 I zT3 I) (pK I (qL iT3 I (cO 0 I I)) (pU I (SU.eq (v':=vi (atF L C i k * t)) (SU.mulW I I) (zd9 vi (zk5 _ oM))) (pU I (aD I I oM) (pU I (fA underlying263 I zT3 I) (pK I (qL iT3 I (cO 0 I I)) (pU I (SU.eq (v':=vi ((n+atF L C i k * t) % p)) (zd6 I I oM) (zd9 vi (Int.tmod_eq_emod_of_nonneg oM))) (pU I (aS I) (pN (tN (rE (dR (s':=_::_::s) (.cons _ (.refl _)) ?_))))))))))));exact za6 (.inl I) results220 I ⟨I,I,I⟩
def x6 (p:Int)(z:Int×Int×Int):Int×Int×Int:=(if z.2.2 % 2=1 then z.1 * z.2.1 % p else z.1,z.2.1 * z.2.1 % p,z.2.2 / 2)
def A5 (p:Int):Nat→Int×Int×Int→Int
 | 0,z=>z.1
 | f+1,z=>if z.2.2=0 then z.1 else A5 p f (x6 p z)
def yh (p n:Int):Int:=A5 p 3 (1,n,p - 2)
theorem Dz {p n:Int}(hp:Fp p)(h0:0<n)(h1:n<p):0<yh p n∧yh p n<p∧yh p n * n % p=1:=by
 have key:∀ p:Nat,p<8→(p=2∨p=3∨p=5∨p=7)→∀ n:Nat,n<p→0<n→0<yh p n∧yh p n<p∧yh p n * n % p=1:=by decide
 have hl:=hp.lt;have:=key p.toNat oM (by unfold Fp at hp; omega) n.toNat oM oM;rwa [Int.toNat_of_nonneg oM,Int.toNat_of_nonneg oM] at this
theorem As {p:Int}{k:Nat}{z:Int×Int×Int}(h:z.2.2=0):A5 p k z=z.1:=by
 cases k with
 | zero=>rfl
 | succ k=>unfold A5; rw[zf8 h]
theorem DM:∀ e:Nat,e<8→IntKind.i64.wrap (BitVec.ofInt IntKind.i64.bits (e:Int) &&& BitVec.ofInt IntKind.i64.bits 1).toNat=(e:Int) % 2:=by decide
theorem C8:∀ e:Nat,e<8→(e:Int).fdiv (2 ^ min (1:Int).toNat IntKind.i64.bits)=(e:Int) / 2:=by decide
theorem Ce {e:Int}(h:0≤e)(h8:e<8):IntKind.i64.wrap (BitVec.ofInt IntKind.i64.bits e &&& BitVec.ofInt IntKind.i64.bits 1).toNat=e % 2:=by
 have:=DM e.toNat oM;rwa [Int.toNat_of_nonneg h] at this
theorem yN {e:Int}(h:0≤e)(h8:e<8):e.fdiv (2 ^ min (1:Int).toNat IntKind.i64.bits)=e / 2:=by
 have:=C8 e.toNat oM;rwa [Int.toNat_of_nonneg h] at this
theorem ne {a p:Int}(h2:2≤p):0≤a % p∧a % p<p:=⟨zk2 _ oM,zk1 _ oM⟩
theorem Bt {p:Int}{R C n:Nat}{v:Value}{ov:List Int}(h:n<ov.length):(lJ p R C v ov)[0+4+n * 1]?=some (vi (ov.getD n 0)):=by
 unfold lJ;rw[show 0+4+n * 1=n+4 by omega];simp[zg8,gE h]
theorem Bs {p:Int}{R C n:Nat}{v:Value}{ov:List Int}(x:Int):(lJ p R C v ov).setIfInBounds (0+4+n * 1) (vi x)=lJ p R C v (ov.set n x):=by
 unfold lJ;rw[show 0+4+n * 1=n+4 by omega];simp[List.map_set]
theorem Ov.set {p:Int}{ov:List Int}(h:Ov p ov){n:Nat}(hn:n<8){x:Int}(h0:0<x)(h1:x<p)(h2:x * n % p=1):Ov p (ov.set n x):=by
 refine⟨by rw[zi1]; exact h.1,fun i hi=>?_⟩;rw[zg8,List.getElem?_set];by_cases e:n=i
 ·subst e;rw[zf8 rfl,zf8 (by rw[h.1]; omega)];exact .inr ⟨h0,h1,h2⟩
 ·rw[zf7 e,← zg8];exact h.2 i hi
section
variable {P:Program}{N:Nat}{E:World}{Q:Exit→Act→World→Prop}{f:Fr}{g:PH}{s:Own}{bm:Nat}{p:Int}{R C:Nat}{v:Value}
theorem SC.openRed {c:Code}(i:Nat)(hi:s[i]?=some (yb bm p R C v))(h:∀ ov,Ov p ov→SC P N E c Q f g (s.set i (pt bm (.cells (lJ p R C v ov) 258 (0,0))))):SC P N E c Q f g s:=fun a w ha hw=>by
 have h1:=hw.own _ (zf9 hi);have hf:=hw.fresh _ (zf9 hi);simp only[yb,Option.bind_some] at h1;obtain ⟨ov,hov,h2⟩:=h1;exact h ov hov a w ha (hw.turn hi I ⟨I,lR _⟩ I (lR _) (fun _ _ _=>I) (by simpa [pt] using h2) (fun b' hb'=>⟨(hf b' hb').2,.inl hb'⟩))
theorem oz {w:World}{ov:List Int}(i:Nat)(hi:s[i]?=some (pt bm (.cells (lJ p R C v ov) 258 (0,0))))(hov:Ov p ov)(hw:At E g s w):At E g (s.set i (yb bm p R C v)) w:=by
 have h1:=hw.own _ (zf9 hi);have hf:=hw.fresh _ (zf9 hi);exact hw.turn hi I ⟨I,lR _⟩ I (lR _) (fun _ _ _=>I) ⟨ov,hov,by simpa [pt,yb] using h1⟩ (fun b' hb'=>⟨(hf b' hb').2,.inl hb'⟩)
theorem ST.closeRed {e:Exit}{ov:List Int}(i:Nat)(hi:s[i]?=some (pt bm (.cells (lJ p R C v ov) 258 (0,0))))(hov:Ov p ov)(h:ST N E Q e f g (s.set i (yb bm p R C v))):ST N E Q e f g s:=fun a w ha hw=>h a w ha (oz i hi hov hw)
end
theorem tI (E:World)(g:PH)(s:Own)(p n:Int)(hp:Fp p)(R C b cE bm:Nat)(L:List Int)(h0:0<n)(h1:n<p) :
  Ctr Tryz.prog E 218 #[pp bm 0,vi n] g (gO p R C b cE bm L s) (fun x g' s'=>(∃ o,x=vi o∧0<o∧o<p∧o * n % p=1)∧g=g'∧s'=gO p R C b cE bm L s):=by
 have hl:=hp.lt;have hok:=Dz hp h0 h1;have hn:((n.toNat:Nat):Int)=n:=Int.toNat_of_nonneg oM;unfold gO;refine za9 (args:=[pp bm 0,vi n]) func218 I ntmps218 (bE I) ?_;refine SC.openRed 1 I fun ov hov=>?_;have hg:=Bt (p:=p) (R:=R) (C:=C) (v:=.slice (some ⟨b,0,none⟩) (R * C) cE) (ov:=ov) (n:=n.toNat) (by rw[hov.1]; omega);have hon:=hov.2 n.toNat oM;rw[hn] at hon;refine rZ (aT I (sQ (sW I (lM I (lU (nC I) (lU (fA kX I sizeOf256 I) (lU (iB underlying256 zT3 I I oM oM) (lK (qL (v:=vi (ov.getD n.toNat 0)) iT3 I (cO 1 I hg)) (lU (gR I I) (tZ ?_))))))))));refine iP I (fun hpos=>?_) (fun hpos=>?_)
 ·refine sW I (lM I (lU (nC I) (lU (fA kX I sizeOf256 I) (lU (iB underlying256 zT3 I I oM oM) (lK (qL (v:=vi (ov.getD n.toNat 0)) iT3 I (cO 1 I hg)) (aT I (rE (tR ?_))))))));have hon2:0<ov.getD n.toNat 0∧ov.getD n.toNat 0<p∧ov.getD n.toNat 0 * n % p=1:=by
   rcases hon with h | h
   ·omega
   ·exact h
  refine ST.closeRed 1 I hov ?_;exact za6 (.inl I) results218 I ⟨⟨_,I,hon2⟩,I,I⟩
 ·refine kP (tN (sW I (lA I (aT I (sQ (sW I (lU (nC I) (lU (fA kX I dh I) (lU (fA dN I zT3 I) (lK (qL (v:=vi p) iT3 I (cO 1 I I)) (lU (sU I I oM) (aT I (bK ?_)))))))))))));refine oP (ι:=Nat×Int×Int×Int) (fun z=>[(0,pp bm 0),(1,vi n),(5,vi z.2.1),(6,vi z.2.2.1),(7,vi z.2.2.2)]) (fun _=>g) (fun _=>rowA encInt 3 (.slice (some ⟨b,0,none⟩) (R * C) cE) L::pt bm (.cells (lJ p R C (.slice (some ⟨b,0,none⟩) (R * C) cE) ov) 258 (0,0))::s) (fun z=>A5 p z.1 z.2=yh p n∧0≤z.2.1∧z.2.1<p∧0≤z.2.2.1∧z.2.2.1<p∧0≤z.2.2.2∧z.2.2.2<2 ^ z.1∧z.1≤3) (fun z=>z.2.2.2.toNat) (3,1,n,p - 2) sB I I ⟨I,by dsimp only; omega,by dsimp only; omega,by dsimp only; omega,by dsimp only; omega,by dsimp only; omega,by show p - 2<8; omega,lR _⟩ ?_;rintro ⟨k,o,w,e⟩ ⟨hf,ho0,ho1,hw0,hw1,he0,he1,hk3⟩;dsimp only at hf ho0 ho1 hw0 hw1 he0 he1 hk3 ⊢;have he8:e<8:=by
   have:k=0∨k=1∨k=2∨k=3:=oM
   rcases this with h | h | h | h <;> subst h <;> (first | (have h2:(2:Int) ^ 0=1:=rfl; omega) | (have h2:(2:Int) ^ 1=2:=rfl; omega) | (have h2:(2:Int) ^ 2=4:=rfl; omega) | (have h2:(2:Int) ^ 3=8:=rfl; omega))
  have hb1:=uu hl.2 ho0 ho1 hw0 hw1;have hb2:=uu hl.2 hw0 hw1 hw0 hw1;have hm1:=ne (a:=o * w) hl.1;have hm2:=ne (a:=w * w) hl.1;refine sQ (sW I (lU (gR I I) (tZ ?_)));refine iP I (fun hgt=>?_) (fun hgt=>?_)
  ·have hk:∃ k',k=k'+1:=by
    cases k with
    | zero=>rw[Int.pow_zero] at he1; omega
    | succ k'=>exact⟨k',rfl⟩
   obtain ⟨k',rfl⟩:=hk;have hne:¬ e=0:=oM;have hf2:A5 p k' (x6 p (o,w,e))=yh p n:=by
    rw[← hf];show _=if e=0 then o else A5 p k' (x6 p (o,w,e))
    rw[zf7 hne]
   have he2:e / 2<2 ^ k':=by
    have:(2:Int) ^ (k'+1)=2 ^ k' * 2:=Int.pow_succ 2 k';omega
   refine kP (tN (sQ (bK (sQ (sW I (lU (SU.eq (v':=vi (e % 2)) (SU.and I I) (zd9 vi (Ce he0 he8))) (yE I (tZ ?_))))))));refine iP I (fun hodd=>?_) (fun hodd=>?_)
   ·refine rG (lM I (lM I (lU (SU.eq (v':=vi (o * w)) (SU.mulW I I) (zd9 vi (zk5 _ oM))) (lM I (lU (nC I) (lU (fA kX I dh I) (lU (fA dN I zT3 I) (lK (qL (v:=vi p) iT3 I (cO 1 I I)) (lU (SU.eq (v':=vi (o * w % p)) (zd6 I I oM) (zd9 vi (Int.tmod_eq_emod_of_nonneg hb1.1))) (aT I (rG (lM I (lM I (lU (SU.eq (v':=vi (w * w)) (SU.mulW I I) (zd9 vi (zk5 _ oM))) (lM I (lU (nC I) (lU (fA kX I dh I) (lU (fA dN I zT3 I) (lK (qL (v:=vi p) iT3 I (cO 1 I I)) (lU (SU.eq (v':=vi (w * w % p)) (zd6 I I oM) (zd9 vi (Int.tmod_eq_emod_of_nonneg hb2.1))) (lA I (nL (bN (tN (rG (lM I (lU (SU.eq (v':=vi (e / 2)) (SU.shr I I dC) (zd9 vi (yN he0 he8))) ?_)))))))))))))))))))))))))));refine lA I (nL ?_);unfold x6 at hf2;rw[zf8 hodd] at hf2;exact gA (k',o * w % p,w * w % p,e / 2) sB I I ⟨hf2,hm1.1,hm1.2,hm2.1,hm2.2,by dsimp only; omega,he2,by dsimp only; omega⟩ (by dsimp only; omega)
   ·refine kP (tN (rG (lM I (lM I (lU (SU.eq (v':=vi (w * w)) (SU.mulW I I) (zd9 vi (zk5 _ oM))) (lM I (lU (nC I) (lU (fA kX I dh I) (lU (fA dN I zT3 I) (lK (qL (v:=vi p) iT3 I (cO 1 I I)) (lU (SU.eq (v':=vi (w * w % p)) (zd6 I I oM) (zd9 vi (Int.tmod_eq_emod_of_nonneg hb2.1))) (lA I (nL (bN (tN (rG (lM I (lU (SU.eq (v':=vi (e / 2)) (SU.shr I I dC) (zd9 vi (yN he0 he8))) (lA I (nL ?_))))))))))))))))))));unfold x6 at hf2;rw[zf7 hodd] at hf2;exact gA (k',o,w * w % p,e / 2) sB I I ⟨hf2,ho0,ho1,hm2.1,hm2.2,by dsimp only; omega,he2,by dsimp only; omega⟩ (by dsimp only; omega)
  ·have he:e=0:=oM;subst he;rw[As rfl] at hf;have hf:o=yh p n:=hf;rw[← hf] at hok;have hl2:n.toNat<(lJ p R C (.slice (some ⟨b,0,none⟩) (R * C) cE) ov).size - 4:=by
    unfold lJ;simp[hov.1];omega
   refine xI (tX (tX (bX (tN (sW I (lM I (lM I (lU (nC I) (lU (fA kX I sizeOf256 I) (lU (SU.eq (v':=pp bm (0+4+n.toNat * 1)) (iB underlying256 zT3 I I oM oM) I) (oZ (SO.store1 1 zT3 I I I I oM I) (tZ (sW I (aT I (rE ?_)))))))))))))));rw[Bs];refine ST.closeRed 1 I (hov.set (n:=n.toNat) oM hok.1 hok.2.1 (by rw[hn]; exact hok.2.2)) ?_;exact za6 (.inl I) results218 I ⟨⟨_,I,hok⟩,I,I⟩
theorem CT (w:World):(zeroValue 258).run Tryz.prog w = .ok (.agg (vi 0::vi 0::vi 0 :: .slice none 0 0::(List.replicate 998 (vi 0))).toArray) w:=by kernel_rfl
theorem Tryz.build258 (p:Int)(r c:Nat)(q:Option Addr)(n k:Nat)(w:World):(Instr.build 258 #[(0,.agg #[vi p,vi r,vi c,.slice q n k])]).run Tryz.prog w = .ok (.agg (lJ p r c (.slice q n k) (List.replicate 998 0))) w:=by
 have h1:(Value.agg #[vi p,vi r,vi c,.slice q n k]).cells = #[vi p,vi r,vi c,.slice q n k]:=rfl;have h2:∀ l:List Value,(Value.agg (vi 0::vi 0::vi 0 :: .slice none 0 0::l).toArray).cells=(vi 0::vi 0::vi 0 :: .slice none 0 0::l).toArray:=fun _=>rfl;have hu:Tryz.prog.underlying 258=some (.struct (Tryz.prog.fieldsOf 258)):=by kernel_rfl
 have hf:Tryz.prog.fieldsOf 258 = #[(Tryz.prog.fieldsOf 258)[0]!,(Tryz.prog.fieldsOf 258)[1]!]:=by kernel_rfl
 have ho:((Tryz.prog.fieldsOf 258)[0]!).offset=0:=by kernel_rfl
 have ht:((Tryz.prog.fieldsOf 258)[0]!).type=201:=by kernel_rfl
 have ht2:((Tryz.prog.fieldsOf 258)[1]!).type=256:=by kernel_rfl
 simp only[Instr.build,Sem.run_bind,CT,zc8,h2,run_underlying hu];rw[hf];simp[ho,ht,ht2,dh,sizeOf256,Instr.fill,h1,lJ]
set_option maxHeartbeats 2000000
theorem rY {α:Type}{k:Nat}{e:Enc α k}{E:World}{g:PH}{s:Own}{w:World}{T:TypeId}{v:Value}{l:List α}{i:Nat}(h:At E g s w)(hi:s[i]?=some (rowA e T v l))(hn:0<l.length):∃ b c,v = .slice (some ⟨b,0,none⟩) l.length c∧l.length≤c:=by
 obtain ⟨_,h2⟩:=eV h hi
 rcases h2 with ⟨p,rfl,hn'⟩ | ⟨b,cap,cur,rfl,_,h3,_⟩
 ·omega
 ·exact⟨b,cap+1,I,h3⟩
theorem Tryz.build263 (q:Option Addr)(n k:Nat)(t p:Int)(w:World):(Instr.build 263 #[(0,.slice q n k),(1,vi t),(2,vi p)]).run Tryz.prog w = .ok (.agg #[.slice q n k,vi t,vi p]) w:=by
 have h1:∀ n,(vi n).cells = #[vi n]:=fun _=>rfl;have h2:(Value.slice q n k).cells = #[.slice q n k]:=rfl;simp[Instr.build,Instr.fill,h1,h2];rfl
theorem Ea {i j x R:Nat}(hi:i<R)(hj:j<R)(hx:x<R):swF i j x<R:=by
 unfold swF;split
 ·exact hj
 ·split
  ·exact hi
  ·exact hx
def elG (p:Int)(L:List Int)(C at' c x y:Nat):Int:=if x≠at'∧0<atF L C x c then (atF L C x y+atF L C at' y * (p - atF L C x c)) % p else atF L C x y
theorem BU {p o:Int}{R C c i0:Nat}{A:Nat→Nat→Int}{L L1 L2 M:List Int}{J:List Nat}(h:lj p A R C (atF L C) J c)(hc:c<C)(h1:J.length≤i0)(h2:i0<R)(hpos:∀ x<R,∀ y<C,0≤atF L C x y)(ho:o * atF L C i0 c % p=1)
  (hL1:∀ x<R,∀ y<C,atF L1 C x y=atF L C (swF J.length i0 x) y) (hL2:∀ x<R,∀ y<C,atF L2 C x y=if x=J.length then atF L1 C J.length y * o % p else atF L1 C x y)
  (hM:∀ x<R,∀ y<C,atF M C x y=elG p L2 C J.length c x y):lj p A R C (atF M C) (J++[c]) (c+1):=by
 have hat:J.length<R:=oM;refine h.pivot (b:=o) hc h1 h2 ?_ fun x hx y hy=>?_
 ·refine⟨o * atF L C i0 c / p,?_⟩;have:=Int.emod_add_mul_ediv (o * atF L C i0 c) p;omega
 ·rw[hM x hx y hy];unfold elG;have e0:∀ y<C,Eqm p (atF L2 C J.length y) (o * atF L C i0 y):=fun y hy=>by
   rw[hL2 _ hat y hy,zf8 rfl,hL1 _ hat y hy,CP,Int.mul_comm o];exact qk _ _
  by_cases e:x=J.length
  ·subst e;rw[zf7 (fun k=>k.1 rfl),zf8 rfl];exact e0 y hy
  ·have hsw:swF J.length i0 x=if x=i0 then J.length else x:=by
    unfold swF;rw[zf7 e]
   have hlt:swF J.length i0 x<R:=by
    rw[hsw];split <;> omega
   have e1:∀ y<C,atF L2 C x y=atF L C (if x=i0 then J.length else x) y:=fun y hy=>by
    rw[hL2 x hx y hy,zf7 e,hL1 x hx y hy,hsw]
   rw[zf7 e,← e1 y hy,← e1 c hc];have hn:0≤atF L2 C x c:=by
    rw[e1 c hc,← hsw];exact hpos _ hlt c hc
   by_cases k:0<atF L2 C x c
   ·rw[zf8 ⟨e,k⟩];refine (qk _ _).trans ?_;have e2:Eqm p (atF L2 C J.length y * (p - atF L2 C x c)) (o * atF L C i0 y * (0 - atF L2 C x c)):=(e0 y hy).mul (Eqm.sub ⟨1,oM⟩ (.refl _));refine ((Eqm.refl (atF L2 C x y)).add e2).trans (Eqm.of ?_);rw[Int.mul_sub,Int.mul_zero,Int.mul_comm (o * atF L C i0 y)];omega
   ·rw[zf7 (fun q=>k q.2),show atF L2 C x c=0 by omega,Int.zero_mul,Int.sub_zero];exact .refl _
theorem tH (E:World)(g:PH)(s:Own)(v:Value)(p:Int)(hp:Fp p)(R C:Nat)(hR:R≤400)(hC:C≤400)(h0:0<R * C)(A:List Int)(hA:A.length=R * C)(hv:FmR g v p R C A)(hA0:∀ x<R,∀ y<C,0≤atF A C x y∧atF A C x y<p) :
  Ctr Tryz.prog E 205 #[v] g s (fun x g' s'=>s=s'∧Le g g'∧∃ (J:List Nat) (m y:Value),x = .tuple #[.agg #[vi p,vi R,vi C,m],y]∧(∃ q n k,m = .slice q n k)∧bZ g' y (J.map fun j:Nat=>(j:Int))∧J.length=rk p (atF A C) R C∧J.length≤R):=by
 obtain ⟨q,c0,rfl,hs⟩:=hv;have hm:=AM hR hC;have hl:=hp.lt;have hC0:0<C:=Nat.pos_of_ne_zero fun e=>by rw[e,Nat.mul_zero] at h0; omega
 have hcap:=(SlA.cap hs).2;refine za9 (args:=[.agg #[vi p,vi R,vi C,.slice q A.length c0]]) func205 I ntmps205 (bE I) ?_;refine rZ (bW (bO I) fun b1=>?_);refine bW (aL zl1) fun b2=>?_;refine aT I (SC.scope (rZ (lU (fA dN I bP I) (lK (qL (v:=.slice q A.length c0) dG I (cO 1 I I)) (lW (cL call99 I (yt E g _ _ A hs oM)) ?_)))));rintro v13 _ _ ⟨rfl,rfl⟩;refine zd1 fun hx=>?_;obtain ⟨w0,hw0⟩:=hx;obtain ⟨b,cE,rfl,hcE⟩:=rY hw0 (i:=0) rfl oM;rw[hA] at hcE ⊢;refine lU (fA dN I bP I) (oZ (SO.store1 2 bP I I I I (by show 3<4; decide) I) ?_);refine tZ (sQ ?_);refine SC.to (g':=g) (s':=rowA encInt 3 (.slice (some ⟨b,0,none⟩) (R * C) cE) A::pt b2 (.cells #[vi 0,vi 0,vi 0,.slice none 0 0] 201 (0,0))::pt b1 (.cells #[vi p,vi R,vi C,.slice (some ⟨b,0,none⟩) (R * C) cE] 201 (0,0))::s) (fun w hw=>hw) ?_;refine rG (lK (qV 2 isAgg201 dh I I I) (lU (za1 I (build258 _ _ _ _ _ _)) (bW (bO I) fun b17=>?_)));refine aT I (sQ ?_);refine SC.to (g':=g) (s':=gO p R C b cE b17 A (rowA encInt 3 (.slice none 0 0) []::pt b2 (.cells #[vi 0,vi 0,vi 0,.slice none 0 0] 201 (0,0))::pt b1 (.cells #[vi p,vi R,vi C,.slice (some ⟨b,0,none⟩) (R * C) cE] 201 (0,0))::s)) (fun w hw=>((oz (p:=p) (R:=R) (C:=C) (v:=.slice (some ⟨b,0,none⟩) (R * C) cE) (ov:=List.replicate 998 0) 0 I ⟨by simp,fun i hi=>.inl (by rw[zg8,List.getElem?_replicate]; split <;> rfl)⟩ hw).nilRow 3 1).perm ((zj5 _ _ _).trans (((zj5 _ _ _).cons _).trans (zj5 _ _ _)))) ?_;refine rG (aT I (sQ (SC.label (tN (sQ (rZ (lU (fA dN I zT3 I) (lK (qL (v:=vi C) iT3 I (cO 4 I I)) (lM I (tZ (bK ?_)))))))))));refine oP (ι:=Nat×List Int×Value×List Nat) (fun z=>[(1,pp b1 0),(2,pp b2 0),(4,pp b17 0),(5,z.2.2.1),(19,vi C),(20,vi z.1)]) (fun _=>g) (fun z=>gO p R C b cE b17 z.2.1 (rowA encInt 3 z.2.2.1 (z.2.2.2.map fun j:Nat=>(j:Int))::pt b2 (.cells #[vi 0,vi 0,vi 0,.slice none 0 0] 201 (0,0))::pt b1 (.cells #[vi p,vi R,vi C,.slice (some ⟨b,0,none⟩) (R * C) cE] 201 (0,0))::s)) (fun z=>z.1≤C∧z.2.1.length=R * C∧(∀ x<R,∀ y<C,0≤atF z.2.1 C x y∧atF z.2.1 C x y<p)∧lj p (atF A C) R C (atF z.2.1 C) z.2.2.2 z.1) (fun z=>C - z.1) (0,A,.slice none 0 0,[]) sB I I ⟨zf4 _,hA,hA0,lj.start _ _ _⟩ ?_;rintro ⟨c,L,pv,J⟩ ⟨hc,hL,hLp,hE⟩;dsimp only at hc hL hLp hE ⊢;have hJR:=hE.len;refine rZ (yL I (tZ (sQ ?_)));refine iP I (fun hlt=>?_) (fun hlt=>?_)
 ·have hcC:c<C:=oM;refine zd2 fun hx=>?_;obtain ⟨w1,hw1⟩:=hx;obtain ⟨pq,pc,rfl⟩:=ag hw1 (i:=2) rfl;refine kP (tN (sQ (bK (sW I (aT I (sW I (lU (SU.eq (v':=vi (J.length:Nat)) (eN ak I) (by rw[ze4])) ?_)))))));refine aT I (sW I (aT I (bK ?_)));refine oP (ι:=Nat) (fun i=>[(1,pp b1 0),(2,pp b2 0),(4,pp b17 0),(5,.slice pq (J.map fun j:Nat=>(j:Int)).length pc),(6,vi c),(7,vi J.length),(8,vi i),(19,vi C),(20,vi c)]) (fun _=>g) (fun _=>gO p R C b cE b17 L (rowA encInt 3 (.slice pq (J.map fun j:Nat=>(j:Int)).length pc) (J.map fun j:Nat=>(j:Int))::pt b2 (.cells #[vi 0,vi 0,vi 0,.slice none 0 0] 201 (0,0))::pt b1 (.cells #[vi p,vi R,vi C,.slice (some ⟨b,0,none⟩) (R * C) cE] 201 (0,0))::s)) (fun i=>J.length≤i∧i≤R∧∀ x,J.length≤x→x<i→atF L C x c=0) (fun i=>R - i) J.length sB I I ⟨lR _,hJR,fun x h1 h2=>by omega⟩ ?_;rintro i ⟨hi1,hi2,hiz⟩;refine sQ (sW I (lU (fA dN I zT3 I) (lK (qL (v:=vi R) iT3 I (cO 4 I I)) (yL I (tZ ?_)))));refine iP I (fun hlt2=>?_) (fun hlt2=>?_)
  ·have hiR:i<R:=oM;have hin1:=jK (C:=C) hiR;have hin2:(i+1) * C=i * C+C:=by rw[Nat.add_mul,Nat.one_mul]
   have gi:=iM hL hiR hcC;have hb0:=hLp i hiR c hcC;refine kP (tN (sQ (bK (sQ (sW I (lM I (lW (cL call215 I (dV E g _ p R C b cE b17 i L hR hC hC0 hiR hcE)) ?_)))))));rintro _ _ _ ⟨rfl,rfl,rfl⟩;unfold gO;refine lM I (lU (SU.eq (v':=.pointer (some ⟨b,0+(i * C+c) * 1,none⟩)) (iA ak zT3 I I I oM (by simp only[jb,slen]; omega)) (eK (by simp only[Int.toNat_natCast]; omega))) ?_);refine lK (eB (j:=i * C+c) iT3 I (zb5 0 I) gi I) (yE I (tZ ?_));refine iP I (fun hz=>?_) (fun hz=>?_)
   ·refine xI (tX (bX (tN (rG (lM I (yD I (lA I (nL ?_))))))));exact gA (i+1) sB I I ⟨oM,oM,fun x h1 h2=>by
     by_cases e:x=i
     ·rw[e]; exact hz
     ·exact hiz x h1 oM⟩ oM
   ·have hJi:J.length<R:=oM;have hat1:=jK (C:=C) hJi;have hat2:(J.length+1) * C=J.length * C+C:=by rw[Nat.add_mul,Nat.one_mul]
    refine kP (tN (sW I (lM I (lM I (lW (cL call216 I (xH E g _ p R C b cE b17 J.length i L hR hC hC0 hJi hiR hcE hL)) ?_)))));rintro _ _ _ ⟨rfl,L1,rfl,hL1,hat⟩;have ga:=iM hL1 hJi hcC;rw[hat _ hJi c hcC,CP] at ga;have hL1p:∀ x<R,∀ y<C,0≤atF L1 C x y∧atF L1 C x y<p:=(fun x hx y hy=>by rw[hat x hx y hy]; exact hLp _ (Ea hJi hiR hx) y hy);refine tZ (sQ ?_);refine dW [15] [(0,2),(1,2),(3,2),(4,2),(5,2),(7,2),(11,2),(12,1),(2,0),(6,0),(8,2),(9,1),(10,0),(13,2),(14,2),(15,0)] ze1 kR ?_;refine yM I (yM I (yM I (yM I (yM I (yM I (pU I (fA dN I zT3 I) (pK I (qL (v:=vi p) iT3 I (cO 4 I I)) (SP.o I (cL call215 I (dV E g _ p R C b cE b17 J.length L1 hR hC hC0 hJi hcE)) dC (.inr iR) ?_))))))));rintro _ _ _ ⟨rfl,rfl,rfl⟩;refine SP.o I (cL call215 I (dV E g _ p R C b cE b17 J.length L1 hR hC hC0 hJi hcE)) dC (.inr iR) ?_;rintro _ _ _ ⟨rfl,rfl,rfl⟩;refine pU I (SU.eq (v':=.pointer (some ⟨b,0+(J.length * C+c) * 1,none⟩)) (iA ak zT3 I I I oM (by simp only[jb,slen]; omega)) (eK (by simp only[Int.toNat_natCast]; omega))) ?_;refine pK I (eB (j:=J.length * C+c) iT3 I (zb5 0 I) ga I) (SP.o I (cL call218 I (tI E g _ p (atF L C i c) hp R C b cE b17 L1 oM hb0.2)) dC (.inr iR) ?_);rintro _ _ _ ⟨⟨o,rfl,ho0,ho1,ho2⟩,rfl,rfl⟩;refine pU I (za1 I (build263 _ _ _ _ _)) (pU I (SU.mkFuncB I) (SP.o I (cL call217 I (pV E g _ p R C b cE b17 J.length L1 hR hC hC0 hJi hcE hL1 _ _ (fun _ n=>n * o % p) fun L' _ _ k hk=>vk E g _ p o _ k hl.1 hl.2 oM ho1 (hL1p _ hJi k hk).1 (hL1p _ hJi k hk).2)) dC (.inl dC) ?_));rintro _ _ _ ⟨rfl,L2,rfl,hL2,hat2'⟩;refine pN (tN (sQ (rZ (lU (fA dN I zT3 I) (lK (qL (v:=vi R) iT3 I (cO 4 I I)) (lM I (tZ (bK ?_))))))));have hL2p:∀ x<R,∀ y<C,0≤atF L2 C x y∧atF L2 C x y<p:=fun x hx y hy=>by
     rw[hat2' x hx y hy];split
     ·exact ne hl.1
     ·exact hL1p x hx y hy
    refine oP (ι:=Nat×List Int) (fun z=>[(1,pp b1 0),(2,pp b2 0),(4,pp b17 0),(5,.slice pq (J.map fun j:Nat=>(j:Int)).length pc),(6,vi c),(7,vi J.length),(19,vi C),(20,vi c),(60,vi R),(61,vi z.1)]) (fun _=>g) (fun z=>gO p R C b cE b17 z.2 (rowA encInt 3 (.slice pq (J.map fun j:Nat=>(j:Int)).length pc) (J.map fun j:Nat=>(j:Int))::pt b2 (.cells #[vi 0,vi 0,vi 0,.slice none 0 0] 201 (0,0))::pt b1 (.cells #[vi p,vi R,vi C,.slice (some ⟨b,0,none⟩) (R * C) cE] 201 (0,0))::s)) (fun z=>z.1≤R∧z.2.length=R * C∧∀ x<R,∀ y<C,atF z.2 C x y=if x<z.1 then elG p L2 C J.length c x y else atF L2 C x y) (fun z=>R - z.1) (0,L2) sB I I ⟨zf4 _,hL2,fun x _ y _=>by simp⟩ ?_;rintro ⟨k,M⟩ ⟨hk,hM,hMz⟩;dsimp only at hk hM hMz ⊢;refine rZ (yL I (tZ (sQ ?_)));refine iP I (fun hlt3=>?_) (fun hlt3=>?_)
    ·have hkR:k<R:=oM;have hk1:=jK (C:=C) hkR;have hk2:(k+1) * C=k * C+C:=by rw[Nat.add_mul,Nat.one_mul]
     have gk:=iM hM hkR hcC;rw[hMz k hkR c hcC,zf7 (Nat.lt_irrefl k)] at gk;have hkp:=hL2p k hkR;have hkc:=hkp c hcC;have hrowat:∀ y<C,atF M C J.length y=atF L2 C J.length y:=fun y hy=>by
      rw[hMz _ hJi y hy];unfold elG;split
      ·rw[zf7 fun q=>q.1 rfl]
      ·rfl
     have hstep:∀ M2:List Int,(∀ x<R,∀ y<C,atF M2 C x y=if x=k then elG p L2 C J.length c k y else atF M C x y)→∀ x<R,∀ y<C,atF M2 C x y=if x<k+1 then elG p L2 C J.length c x y else atF L2 C x y:=fun M2 h x hx y hy=>by
      rw[h x hx y hy];by_cases e:x=k
      ·subst e;rw[zf8 rfl,zf8 (Nat.lt_succ_self _)]
      ·rw[zf7 e,hMz x hx y hy];by_cases e2:x<k
       ·rw[zf8 e2,zf8 (Nat.lt_succ_of_lt e2)]
       ·rw[zf7 e2,zf7 (show ¬ x<k+1 by omega)]
     by_cases hne:k=J.length
     ·refine kP (tN (sQ (bK (sW I (aT I (sW I (lM I (lW (cL call215 I (dV E g _ p R C b cE b17 k M hR hC hC0 hkR hcE)) ?_))))))));rintro _ _ _ ⟨rfl,rfl,rfl⟩;unfold gO;refine lM I (lU (SU.eq (v':=.pointer (some ⟨b,0+(k * C+c) * 1,none⟩)) (iA ak zT3 I I I oM (by simp only[jb,slen]; omega)) (eK (by simp only[Int.toNat_natCast]; omega))) ?_);refine lK (eB (j:=k * C+c) iT3 I (zb5 0 I) gk I) (aT I (sW I (lM I (lU (SU.eq (v':=vb false) (nQ I I) (zd9 vb (zf5 oM))) (lM I (yA I (yA I (yF I (tZ (cF I (kP (bN (tN (rG (yD I (lM I (nL ?_)))))))))))))))));exact gA (k+1,M) sB I I ⟨by dsimp only; omega,hM,hstep M fun x hx y hy=>by
       by_cases e:x=k
       ·subst e;rw[zf8 rfl,hMz x hx y hy,zf7 (Nat.lt_irrefl x)];unfold elG;rw[zf7 fun q=>q.1 hne]
       ·rw[zf7 e]⟩ (by dsimp only; omega)
     ·by_cases hpos:0<atF L2 C k c
      ·refine kP (tN (sQ (bK (sW I (aT I (sW I (lM I (lW (cL call215 I (dV E g _ p R C b cE b17 k M hR hC hC0 hkR hcE)) ?_))))))));rintro _ _ _ ⟨rfl,rfl,rfl⟩;unfold gO;refine lM I (lU (SU.eq (v':=.pointer (some ⟨b,0+(k * C+c) * 1,none⟩)) (iA ak zT3 I I I oM (by simp only[jb,slen]; omega)) (eK (by simp only[Int.toNat_natCast]; omega))) ?_);refine lK (eB (j:=k * C+c) iT3 I (zb5 0 I) gk I) (aT I (sW I (lM I (lU (SU.eq (v':=vb true) (nQ I I) (zd9 vb (zf6 oM))) (lM I (yC I (lY I I I (SU.eq (v':=vb true) (gR I I) (zd9 vb (zf6 hpos))) (yP I (tZ (cT I ?_))))))))));refine dW [14] [(0,2),(1,2),(3,2),(4,2),(6,2),(7,1),(8,2),(9,2),(10,2),(11,1),(2,0),(5,0),(12,2),(13,2),(14,0)] ze1 kR ?_;refine yM I (yM I (yM I (yM I (pU I (fA dN I zT3 I) (pK I (qL (v:=vi p) iT3 I (cO 4 I I)) (yM I (pU I (sU I I oM) (pU I (fA dN I zT3 I) (pK I (qL (v:=vi p) iT3 I (cO 4 I I)) (SP.o I (cL call215 I (dV E g _ p R C b cE b17 k M hR hC hC0 hkR hcE)) dC (.inr iR) ?_))))))))));rintro _ _ _ ⟨rfl,rfl,rfl⟩;refine SP.o I (cL call215 I (dV E g _ p R C b cE b17 J.length M hR hC hC0 hJi hcE)) dC (.inr iR) ?_;rintro _ _ _ ⟨rfl,rfl,rfl⟩;refine pU I (za1 I (build263 _ _ _ _ _)) (pU I (SU.mkFuncB I) (SP.o I (cL call217 I (pV E g _ p R C b cE b17 k M hR hC hC0 hkR hcE hM _ _ (fun y n=>(n+atF L2 C J.length y * (p - atF L2 C k c)) % p) fun L' hL' hrow y hy=>by have e1:atF L' C J.length y=atF L2 C J.length y:=(hrow _ hJi (fun e=>hne e.symm) y hy).trans (hrowat y hy); have e2:atF M C k y=atF L2 C k y:=(hMz k hkR y hy).trans (zf7 (Nat.lt_irrefl k)); have h3:=Av E g (rowA encInt 3 (.slice pq (J.map fun j:Nat=>(j:Int)).length pc) (J.map fun j:Nat=>(j:Int))::pt b2 (.cells #[vi 0,vi 0,vi 0,.slice none 0 0] 201 (0,0))::pt b1 (.cells #[vi p,vi R,vi C,.slice (some ⟨b,0,none⟩) (R * C) cE] 201 (0,0))::s) p (p - atF L2 C k c) (atF M C k y) R C b cE b17 J.length y L' hl.1 hl.2 (by have:=(hkp c hcC).2; omega) oM (by rw[e2]; exact (hkp y hy).1) (by rw[e2]; exact (hkp y hy).2) hL' hJi hy (by rw[e1]; exact (hL2p _ hJi y hy).1) (by rw[e1]; exact (hL2p _ hJi y hy).2) hR hC; rw[e1] at h3; exact h3)) dC (.inl dC) ?_));rintro _ _ _ ⟨rfl,M2,rfl,hM2,hat3⟩;refine pN (bN (tN (rG (yD I (lM I (nL ?_))))));exact gA (k+1,M2) sB I I ⟨by dsimp only; omega,hM2,hstep M2 fun x hx y hy=>by
        rw[hat3 x hx y hy];split
        ·rename_i e;subst e;unfold elG;rw[zf8 ⟨hne,hpos⟩,hMz x hkR y hy,zf7 (Nat.lt_irrefl x)]
        ·rfl⟩ (by dsimp only; omega)
      ·refine kP (tN (sQ (bK (sW I (aT I (sW I (lM I (lW (cL call215 I (dV E g _ p R C b cE b17 k M hR hC hC0 hkR hcE)) ?_))))))));rintro _ _ _ ⟨rfl,rfl,rfl⟩;unfold gO;refine lM I (lU (SU.eq (v':=.pointer (some ⟨b,0+(k * C+c) * 1,none⟩)) (iA ak zT3 I I I oM (by simp only[jb,slen]; omega)) (eK (by simp only[Int.toNat_natCast]; omega))) ?_);refine lK (eB (j:=k * C+c) iT3 I (zb5 0 I) gk I) (aT I (sW I (lM I (lU (SU.eq (v':=vb true) (nQ I I) (zd9 vb (zf6 oM))) (lM I (yC I (lY I I I (SU.eq (v':=vb false) (gR I I) (zd9 vb (zf5 hpos))) (yP I (tZ (cF I (kP (bN (tN (rG (yD I (lM I (nL ?_)))))))))))))))));exact gA (k+1,M) sB I I ⟨by dsimp only; omega,hM,hstep M fun x hx y hy=>by
        by_cases e:x=k
        ·subst e;rw[zf8 rfl,hMz x hx y hy,zf7 (Nat.lt_irrefl x)];unfold elG;rw[zf7 fun q=>hpos q.2]
        ·rw[zf7 e]⟩ (by dsimp only; omega)
    ·have hkk:k=R:=oM;subst hkk;have hpiv:=BU hE hcC hi1 hiR (fun x hx y hy=>(hLp x hx y hy).1) ho2 hat (fun x hx y hy=>hat2' x hx y hy) (fun x hx y hy=>by rw[hMz x hx y hy,zf8 hx]);unfold gO;refine xI (tX (tX (bX (tN (sW I (lM I (lW (bS sty25 I I I (ab ⟨I,trivial⟩) dC) ?_)))))));rintro _ _ _ ⟨b95,rfl,rfl,rfl⟩;refine lW (aP (e:=encInt) (l:=J.map fun j:Nat=>(j:Int)) 2 (c:Int) sty25 I I I I I (by rw[ze4]; omega) (by rw[ze4]; omega)) ?_;rintro v96 _ _ ⟨rfl,rfl⟩;refine aT I (xI (ST.blockO dC (tX (tX (ST.blockO dC (bX (tN (rG (yD I (lM I (nL ?_)))))))))));refine ST.to (g':=g) (s':=gO p k C b cE b17 M (rowA encInt 3 v96 ((J++[c]).map fun j:Nat=>(j:Int))::pt b2 (.cells #[vi 0,vi 0,vi 0,.slice none 0 0] 201 (0,0))::pt b1 (.cells #[vi p,vi k,vi C,.slice (some ⟨b,0,none⟩) (k * C) cE] 201 (0,0))::s)) (fun w hw=>by rw[zg3]; exact hw) ?_;exact gA (c+1,M,v96,J++[c]) sB I I ⟨by dsimp only; omega,hM,fun x hx y hy=>by
      dsimp only;rw[hMz x hx y hy,zf8 hx];unfold elG;split
      ·exact ne hl.1
      ·exact hL2p x hx y hy,hpiv⟩ (by dsimp only; omega)
  ·refine xI (tX (tX (bX (bN (tN (rG (yD I (lM I (nL ?_)))))))));have hiR:i=R:=oM;subst hiR;exact gA (c+1,L,_,J) sB I I ⟨by dsimp only; omega,hL,hLp,hE.none fun x h1 h2=>by
    rw[hiz x h1 h2];exact .refl _⟩ (by dsimp only; omega)
 ·have hcC:c=C:=oM;subst hcC;unfold gO;refine xI (tX (tX (bX (tN (sW I (lU (nC I) (lU (fA kX I dh I) (lK (SQ.loadAggAt (b:=b17) (o:=0) (vs:=[vi p,vi R,vi c,.slice (some ⟨b,0,none⟩) (R * c) cE]) isAgg201 dh I I (fun j x hj=>by rw[Nat.zero_add]; exact qi (p:=p) (R:=R) (C:=c) (v:=.slice (some ⟨b,0,none⟩) (R * c) cE) 1 I hj)) ?_))))))));refine lM I (oZ (sK 3 dh I I I I I sB) (aT I (rE (ST.scopeR (ST.perm (s':=rowA encInt 3 pv (J.map fun j:Nat=>(j:Int))::rowA encInt 3 (.slice (some ⟨b,0,none⟩) (R * c) cE) L::yb b17 p R c (.slice (some ⟨b,0,none⟩) (R * c) cE)::pt b2 (.cells #[vi p,vi R,vi c,.slice (some ⟨b,0,none⟩) (R * c) cE] 201 (0,0))::pt b1 (.cells #[vi p,vi R,vi c,.slice (some ⟨b,0,none⟩) (R * c) cE] 201 (0,0))::s) (((zj5 _ _ _).cons _).trans (zj5 _ _ _)) ?_)))));refine fT fun g5 hle5 hs5=>?_;exact ST.retCD1 2 s (.inl I) results205 I I isAgg201 dh I I uR ⟨I,hle5,J,_,_,I,⟨_,_,_,I⟩,hs5,(hE.rk hp.fld).symm,hJR⟩
set_option maxHeartbeats 1000000
theorem Dj {g:PH}{s:Own}{bm:Nat}{p:Int}{R C o:Nat}{v u:Value}{ov:List Int}(i:Nat)(hi:s[i]?=some (pt bm (.cells (lJ p R C v ov) 258 (0,0))))(hu:[vi p,vi R,vi C,v][o]?=some u):eC g s ⟨bm,o,none⟩ u:=eC.own i hi (by
 have ho:o<4:=(zf3.1 hu).1;rw[← hu];unfold lJ
 match o,ho with
 | 0,_=>rfl
 | 1,_=>rfl
 | 2,_=>rfl
 | 3,_=>rfl)
theorem tG (E:World)(g:PH)(s:Own)(v:Value)(p:Int)(R C:Nat)(hR:R≤400)(hC:C≤400)(h0:R * C=0)(A:List Int)(hA:A.length=R * C)(hv:FmR g v p R C A) :
  Ctr Tryz.prog E 205 #[v] g s (fun x g' s'=>s=s'∧Le g g'∧∃ (m y:Value),x = .tuple #[.agg #[vi p,vi R,vi C,m],y]∧(∃ q n k,m = .slice q n k)∧bZ g' y []):=by
 obtain ⟨q,c0,rfl,hs⟩:=hv;have hA0:A=[]:=List.length_eq_zero_iff.1 oM;subst hA0;have hRC:R=0∨C=0:=Nat.mul_eq_zero.1 h0;refine za9 (args:=[.agg #[vi p,vi R,vi C,.slice q 0 c0]]) func205 I ntmps205 (bE I) ?_;refine rZ (bW (bO I) fun b1=>?_);refine bW (aL zl1) fun b2=>?_;refine aT I (SC.scope (rZ (lU (fA dN I bP I) (lK (qL (v:=.slice q 0 c0) dG I (cO 1 I I)) (lW (cL call99 I (yt E g _ _ [] hs dC)) ?_)))));rintro v13 _ _ ⟨rfl,rfl⟩;refine zd1 fun hx=>?_;obtain ⟨w0,hw0⟩:=hx;obtain ⟨q1,cE,rfl⟩:=ag hw0 (i:=0) rfl;refine lU (fA dN I bP I) (oZ (SO.store1 2 bP I I I I (by show 3<4; decide) I) ?_);refine tZ (sQ ?_);refine SC.to (g':=g) (s':=pt b2 (.cells #[vi 0,vi 0,vi 0,.slice none 0 0] 201 (0,0))::pt b1 (.cells #[vi p,vi R,vi C,.slice q1 0 cE] 201 (0,0))::s) (fun w hw=>hw.sublist (.cons _ (.refl _))) ?_;refine rG (lK (qV 1 isAgg201 dh I I I) (lU (za1 I (build258 _ _ _ _ _ _)) (bW (bO I) fun b17=>?_)));refine aT I (rZ (aT I (sQ (SC.label (tN (sQ (rZ (lU (fA dN I zT3 I) (lK (qL (v:=vi C) iT3 I (cO 2 I I)) (lM I (tZ (bK ?_))))))))))));refine oP (ι:=Nat) (fun z=>[(1,pp b1 0),(2,pp b2 0),(4,pp b17 0),(5,.slice none 0 0),(19,vi C),(20,vi z)]) (fun _=>g) (fun _=>pt b17 (.cells (lJ p R C (.slice q1 0 cE) (List.replicate 998 0)) 258 (0,0))::pt b2 (.cells #[vi 0,vi 0,vi 0,.slice none 0 0] 201 (0,0))::pt b1 (.cells #[vi p,vi R,vi C,.slice q1 0 cE] 201 (0,0))::s) (fun z=>z≤C) (fun z=>C - z) 0 sB I I (zf4 _) ?_;rintro c hc;refine rZ (yL I (tZ (sQ ?_)));refine iP I (fun hlt=>?_) (fun hlt=>?_)
 ·have hR0:R=0:=oM;subst hR0;refine kP (tN (sQ (bK (sW I (aT I (sW I (lU (eN ak I) (aT I (sW I (aT I (bK ?_)))))))))));refine oP (ι:=Nat) (fun i=>[(1,pp b1 0),(2,pp b2 0),(4,pp b17 0),(5,.slice none 0 0),(6,vi c),(7,vi 0),(8,vi 0),(19,vi C),(20,vi c)]) (fun _=>g) (fun _=>pt b17 (.cells (lJ p 0 C (.slice q1 0 cE) (List.replicate 998 0)) 258 (0,0))::pt b2 (.cells #[vi 0,vi 0,vi 0,.slice none 0 0] 201 (0,0))::pt b1 (.cells #[vi p,vi (0:Nat),vi C,.slice q1 0 cE] 201 (0,0))::s) (fun _=>True) (fun i=>0) 0 sB I I trivial ?_;rintro i _;refine sQ (sW I (lU (fA dN I zT3 I) (lK (qL (v:=vi (0:Nat)) iT3 I (cO 2 I I)) (yL I (tZ ?_)))));refine iP I (fun hlt2=>?_) (fun hlt2=>?_)
  ·exact absurd hlt2 dC
  ·refine xI (tX (tX (bX (bN (tN (rG (yD I (lM I (nL ?_)))))))));exact gA (c+1) sB I I oM oM
 ·have hcC:c=C:=oM;subst hcC;refine xI (tX (tX (bX (tN (sW I (lU (nC I) (lU (fA kX I dh I) (lK (SQ.loadAggAt (b:=b17) (o:=0) (vs:=[vi p,vi R,vi c,.slice q1 0 cE]) isAgg201 dh I I (fun j x hj=>by rw[Nat.zero_add]; exact Dj 0 I hj)) ?_))))))));refine lM I (oZ (sK 1 dh I I I I I sB) (aT I (rE (ST.scopeR ?_))));exact ST.retCD1 1 s (.inl I) results205 I I isAgg201 dh I I uR ⟨I,zb7 _,_,_,I,⟨_,_,_,I⟩,zb8 g _⟩
theorem Bq {p:Int}(hp:Fld p){R C:Nat}(h:R * C=0)(A:Nat→Nat→Int):rk p A R C=0:=by
 rcases Nat.mul_eq_zero.1 h with rfl | rfl
 ·have:=m7 hp A 0 C; omega
 ·have:=yU hp A R 0; omega
theorem tF (E:World)(g:PH)(s:Own)(v:Value)(p:Int)(hp:Fp p)(R C:Nat)(hR:R≤400)(hC:C≤400)(A:List Int)(hA:A.length=R * C)(hv:FmR g v p R C A)(hA0:∀ x<R,∀ y<C,0≤atF A C x y∧atF A C x y<p) :
  Ctr Tryz.prog E 205 #[v] g s (fun x g' s'=>s=s'∧Le g g'∧∃ (J:List Nat) (m y:Value),x = .tuple #[.agg #[vi p,vi R,vi C,m],y]∧(∃ q n k,m = .slice q n k)∧bZ g' y (J.map fun j:Nat=>(j:Int))∧J.length=rk p (atF A C) R C∧J.length≤R):=by
 by_cases h0:R * C=0
 ·refine (tG E g s v p R C hR hC h0 A hA hv).mono ?_;rintro x g' s' ⟨h1,h2,m,y,h3,h4,h5⟩;exact⟨h1,h2,[],m,y,h3,h4,h5,(Bq hp.fld h0 _).symm,zf4 _⟩
 ·exact tH E g s v p hp R C hR hC (Nat.pos_of_ne_zero h0) A hA hv hA0
theorem DL {A:List Int}{R C x y:Nat}(hA:A.length=R * C)(hx:x<R)(hy:y<C):atF A C x y∈A:=zf9 (iM hA hx hy)
theorem rC (E:World)(g:PH)(s:Own)(v:Value)(p:Int)(hp:Fp p)(R C:Nat)(hR:R≤400)(hC:C≤400)(A:List Int)(hA:A.length=R * C)(hv:FmR g v p R C A)(hA0:∀ x∈A,0≤x∧x<p) :
  Ctr Tryz.prog E 186 #[v] g s (fun x g' s'=>s=s'∧Le g g'∧∃ (J:List Nat) (m y:Value),x = .tuple #[.agg #[vi p,vi R,vi C,m],y]∧(∃ q n k,m = .slice q n k)∧bZ g' y (J.map fun j:Nat=>(j:Int))∧J.length=rk p (atF A C) R C∧J.length≤R):=by
 have hv0:=hv;obtain ⟨q,c0,rfl,hs⟩:=hv;refine za9 (args:=[.agg #[vi p,vi R,vi C,.slice q A.length c0]]) func186 I ntmps186 (bE I) ?_;refine rZ (bW (bO I) fun b1=>?_);refine bW (aL zl1) fun b2=>?_;refine aT I (sQ (rZ (lK (qV 1 isAgg201 dh I I I) (lW (cL call204 I (vm E g _ _ p hp R C hR hC A hA hv0 hA0)) ?_))));rintro _ _ _ ⟨rfl,rfl,rfl⟩;refine lU (SU.not I) (tZ (cF I (kP (tN (rZ (lK (qV 1 isAgg201 dh I I I) (lW (cL call205 I (tF E g _ _ p hp R C hR hC A hA hv0 fun x hx y hy=>hA0 _ (DL hA hx hy))) ?_)))))));rintro _ g1 _ ⟨rfl,hle1,J,_,y,rfl,⟨mq,mn,mk,rfl⟩,hy1,hJ,hJR⟩;refine yX I (yX I (oZ (sK 0 dh I I I I I sB) (aT I (rE ?_))));exact ST.retCD1 0 s (.inl I) results186 I I isAgg201 dh I I uR ⟨I,hle1,J,_,y,I,⟨mq,mn,mk,I⟩,hy1,hJ,hJR⟩
theorem xJ (E:World)(g:PH)(s:Own)(v:Value)(p:Int)(hp:Fp p)(R C:Nat)(hR:R≤400)(hC:C≤400)(A:List Int)(hA:A.length=R * C)(hv:FmR g v p R C A)(hA0:∀ x∈A,0≤x∧x<p) :
  Ctr Tryz.prog E 148 #[v] g s (fun x g' s'=>s=s'∧Le g g'∧x=vi (rk p (atF A C) R C:Nat)):=by
 have hv0:=hv;obtain ⟨q,c0,rfl,hs⟩:=hv;refine za9 (args:=[.agg #[vi p,vi R,vi C,.slice q A.length c0]]) func148 I ntmps148 (bE I) ?_;refine rZ (bW (bO I) fun b1=>?_);refine aT I (rZ (lK (qV 0 isAgg201 dh I I I) (lW (cL call186 I (rC E g _ _ p hp R C hR hC A hA hv0 hA0)) ?_)));rintro _ g1 _ ⟨rfl,hle1,J,_,y,rfl,⟨mq,mn,mk,rfl⟩,hy1,hJ,hJR⟩;obtain ⟨yp,yc,rfl⟩:=za2 hy1;refine lM I (yX I (yX I (bW (aL zl1) fun b3=>?_)));refine oZ (sK 0 dh I I I I I sB) (aT I (sW I (lU (SU.eq (v':=vi (rk p (atF A C) R C:Nat)) (eN ak I) (by rw[ze4,hJ])) ?_)));refine aT I (rE (dR (s':=s) uR ?_));exact za6 (.inl I) results148 I ⟨I,hle1,I⟩
def elM (M:List (List Int))(i j:Nat):Int:=(M.getD i []).getD j 0
theorem zh {M:List (List Int)}{i j:Nat}(hi:i<M.length)(hj:j<M[i].length):elM M i j=M[i][j]:=by
 have h1:M.getD i []=M[i]:=by
  rw[zg8,gE hi];rfl
 unfold elM;rw[h1,zg8,gE hj];rfl
theorem BT (E:World)(g:PH)(s:Own)(v:Value)(p:Int)(hp:Fp p)(M:List (List Int))(C:Nat)(hv:aH g v M)(hR:M.length≤400)(hC:C≤400)(hM:∀ r∈M,r.length=C)(hM0:M=[]→C=0)(hb:∀ r∈M,∀ x∈r,x.natAbs≤1000000) :
  Ctr Tryz.prog E 149 #[vi p,v] g s (fun x g' s'=>s=s'∧Le g g'∧∃ A,FmR g' x p M.length C A∧A.length=M.length * C∧(∀ y∈A,0≤y∧y<p)∧∀ i<M.length,∀ j<C,atF A C i j=elM M i j % p):=by
 obtain ⟨rs,hrs,hall⟩:=hv;have hlen:=hall.length;have hm:=AM (show rs.length≤400 by omega) hC;have hl:=hp.lt;obtain ⟨q,c,rfl⟩:=za2 hrs;have row:∀ i (hi:i<rs.length),∃ (hi':i<M.length) (rp:Option Addr) (rc:Nat),rs[i]?=some ⟨rp,C,rc⟩∧bZ g (.slice rp C rc) M[i]∧M[i].length=C:=fun i hi=>by
  have hi':i<M.length:=oM;have hx:=hM _ (gM hi');have h1:=hall.get (gE hi') (gE hi);have h2:=h1.len;generalize hr:rs[i]=r at *;obtain ⟨rp,rn,rc⟩:=r;dsimp only at h2;have h3:rn=C:=oM;subst h3;exact⟨hi',rp,rc,by rw[← hr]; exact gE hi,h1,hx⟩
 refine za9 (args:=[vi p,.slice q rs.length c]) func149 I ntmps149 (bE I) ?_;refine rZ (bW (aL zl1) fun b4=>?_);refine tZ (rZ (aT I (sQ (sW I (lU (eN br I) (lM I (tZ (bK ?_))))))));refine oP (ι:=Nat) (fun k=>[(0,vi p),(1,.slice q rs.length c),(4,pp b4 0),(5,vi (if k=0 then 0 else C:Nat)),(13,.slice q rs.length c),(14,vi rs.length),(15,vi k)]) (fun _=>g) (fun _=>pt b4 (.cells #[vi 0,vi 0,vi 0,.slice none 0 0] 201 (0,0))::s) (fun k=>k≤rs.length) (fun k=>rs.length - k) 0 sB I I (zf4 _) ?_;rintro k hk;refine rZ (yL I (tZ (sQ ?_)));refine iP I (fun hlt=>?_) (fun hlt=>?_)
 ·have hkl:k<rs.length:=oM;obtain ⟨hi',rp,rc,hgr,hxs,hxl⟩:=row k hkl;have hb1:=za4 hrs oM;refine kP (tN (sQ (bK (rZ (lU (iA br bP I I hb1 oM sL) (lK (eB (u:=.slice rp C rc) dG I (za5 hrs) hgr I) (aT I (rG (lM I (lM I (lU (eN ak I) (lU (SU.eq (v':=vi (C:Nat)) (SU.maxF I I) (zd9 vi (by split <;> omega))) ?_))))))))))));refine lA I (nL (bN (tN (rG (yD I (lM I (nL ?_)))))));exact gA (k+1) ⟨I,I,I,by rw[zf7 (Nat.succ_ne_zero k)]; rfl,rfl,rfl,rfl,trivial⟩ rfl rfl oM oM
 ·have hkk:k=rs.length:=oM;subst hkk;have hC1:(if rs.length=0 then 0 else C)=C:=by
   split
   ·rename_i e;exact (hM0 (List.length_eq_zero_iff.1 oM)).symm
   ·rfl
  rw[hC1];refine xI (tX (tX (bX (tN (sW I (lM I (lU (eN br I) (lM I (lW (cL call187 I (Am E g _ p hp rs.length C oM hC)) ?_)))))))));rintro _ _ _ ⟨rfl,bz,rfl,rfl⟩;refine bW (aL zl1) fun b8=>?_;refine oZ (sK 0 dh I I I I I sB) (tZ (sQ (sQ ?_)));refine SC.to (g':=g) (s':=pt b8 (.cells #[vi p,vi rs.length,vi C,.slice (some ⟨bz,0,none⟩) (rs.length * C) (rs.length * C)] 201 (0,0))::rowA encInt 3 (.slice (some ⟨bz,0,none⟩) (rs.length * C) (rs.length * C)) (List.replicate (rs.length * C) 0)::pt b4 (.cells #[vi 0,vi 0,vi 0,.slice none 0 0] 201 (0,0))::s) (fun w hw=>hw) ?_;refine rG (lU (fA dN I bP I) (lK (qL (v:=.slice (some ⟨bz,0,none⟩) (rs.length * C) (rs.length * C)) dG I (cO 0 I I)) (lU (eN ak I) (yE I (tZ ?_)))));refine iP I (fun he=>?_) (fun he=>?_)
  ·refine rZ (lK (qV 0 isAgg201 dh I I I) (oZ (sK 2 dh I I I I I sB) (tZ (rE (tR ?_)))));have hz:rs.length * C=0:=oM;refine ST.perm (zj5 _ _ _) (fT fun g5 hle5 hs5=>?_);exact ST.retCD 1 s (.inl I) results149 I isAgg201 dh I I uR ⟨I,hle5,List.replicate (rs.length * C) 0,⟨some ⟨bz,0,none⟩,rs.length * C,by rw[List.length_replicate,hlen]; rfl,by rw[List.length_replicate]; exact hs5⟩,by rw[List.length_replicate,hlen],fun y hy=>by rw[hz] at hy; simp at hy,fun i hi j hj=>by
    have:=iL hi hj;rw[hlen] at this;omega⟩
  ·have hpos:0<rs.length * C:=oM;refine kP (tN (sQ (sW I (lU (eN br I) (lM I (tZ (bK ?_)))))));refine oP (ι:=Nat×List Int) (fun z=>[(0,vi p),(1,.slice q rs.length c),(4,pp b4 0),(5,vi C),(8,pp b8 0),(34,.slice q rs.length c),(35,vi rs.length),(36,vi z.1)]) (fun _=>g) (fun z=>pt b8 (.cells #[vi p,vi rs.length,vi C,.slice (some ⟨bz,0,none⟩) (rs.length * C) (rs.length * C)] 201 (0,0))::rowA encInt 3 (.slice (some ⟨bz,0,none⟩) (rs.length * C) (rs.length * C)) z.2::pt b4 (.cells #[vi 0,vi 0,vi 0,.slice none 0 0] 201 (0,0))::s) (fun z=>z.1≤rs.length∧z.2.length=rs.length * C∧(∀ y∈z.2,0≤y∧y<p)∧∀ x<z.1,∀ y<C,atF z.2 C x y=elM M x y % p) (fun z=>rs.length - z.1) (0,List.replicate (rs.length * C) 0) sB I I ⟨zf4 _,List.length_replicate,fun y hy=>by rw[List.eq_of_mem_replicate hy]; omega,fun x hx=>by omega⟩ ?_;rintro ⟨i,L⟩ ⟨hi,hL,hLp,hz⟩;dsimp only at hi hL hLp hz ⊢;refine rZ (yL I (tZ (sQ ?_)));refine iP I (fun hlt2=>?_) (fun hlt2=>?_)
   ·have hil:i<rs.length:=oM;obtain ⟨hi',rp,rc,hgr,hxs,hxl⟩:=row i hil;have hb1:=za4 hrs oM;have hin1:=jK (C:=C) hil;have hin2:(i+1) * C=i * C+C:=by rw[Nat.add_mul,Nat.one_mul]
    refine kP (tN (sQ (bK (sW I (lU (iA br bP I I hb1 oM sL) (lK (eB (u:=.slice rp C rc) dG I (za5 hrs) hgr I) (lA I (aT I (sW I (lU (eN ak I) (lM I (tZ (bK ?_)))))))))))));refine oP (ι:=Nat×List Int) (fun z=>[(0,vi p),(1,.slice q rs.length c),(4,pp b4 0),(5,vi C),(8,pp b8 0),(9,vi i),(34,.slice q rs.length c),(35,vi rs.length),(36,vi i),(41,.slice rp C rc),(42,vi C),(43,vi z.1)]) (fun _=>g) (fun z=>pt b8 (.cells #[vi p,vi rs.length,vi C,.slice (some ⟨bz,0,none⟩) (rs.length * C) (rs.length * C)] 201 (0,0))::rowA encInt 3 (.slice (some ⟨bz,0,none⟩) (rs.length * C) (rs.length * C)) z.2::pt b4 (.cells #[vi 0,vi 0,vi 0,.slice none 0 0] 201 (0,0))::s) (fun z=>z.1≤C∧z.2.length=rs.length * C∧(∀ y∈z.2,0≤y∧y<p)∧(∀ x<i,∀ y<C,atF z.2 C x y=elM M x y % p)∧∀ y<z.1,atF z.2 C i y=elM M i y % p) (fun z=>C - z.1) (0,L) sB I I ⟨zf4 _,hL,hLp,hz,fun y hy=>by omega⟩ ?_;rintro ⟨j,K⟩ ⟨hj,hK,hKp,hz1,hz2⟩;dsimp only at hj hK hKp hz1 hz2 ⊢;refine rZ (yL I (tZ (sQ ?_)));refine iP I (fun hlt3=>?_) (fun hlt3=>?_)
    ·have hjC:j<C:=oM;have hij:=iL hil hjC;have hb2:=za4 hxs oM;have hjx:j<M[i].length:=oM;have hgk:M[i][((j:Nat):Int).toNat]?=some M[i][j]:=gE hjx;have hel:=zh hi' hjx;have hbx:=hb _ (gM hi') _ (gM hjx);rw[← hel] at hgk hbx;generalize hn:elM M i j=n at *;have hmo:=ne (a:=n) hl.1;have ht:n.tmod p=n % p∨n.tmod p=n % p - p:=by
      rcases Int.le_total 0 n with h | h
      ·left; exact Int.tmod_eq_emod_of_nonneg h
      ·rw[Int.tmod_eq_emod];split
       ·left; omega
       ·right; omega
     have hmm:(n.tmod p+p).tmod p=n % p:=by
      rw[Int.tmod_eq_emod_of_nonneg oM]
      rcases ht with h | h <;> rw[h]
      ·rw[Int.add_emod_right,Int.emod_emod]
      ·rw[Int.sub_add_cancel,Int.emod_emod]
     refine kP (tN (sQ (bK (sW I (lU (iA ak zT3 I I hb2 oM sL) (lK (eB iT3 I (za5 hxs) hgk I) (lA I (aT I ?_))))))));refine dW [15] [(0,2),(1,1),(2,2),(3,2),(4,2),(5,2),(6,2),(7,2),(8,2),(9,2),(10,2),(11,2),(12,2),(13,2),(14,2),(15,0)] ze1 kR ?_;refine pU I (fA dN I bP I) (pK I (qL (v:=.slice (some ⟨bz,0,none⟩) (rs.length * C) (rs.length * C)) dG I (cO 0 I I)) (yM I (yM I (pU I (SU.eq (v':=vi ((i * C:Nat))) (SU.mulW I I) (zd9 vi (by rw[← Int.natCast_mul]; exact zk5 _ oM))) ?_))));refine yM I (pU I (SU.eq (v':=vi ((i * C+j:Nat))) (aD I I oM) (zd9 vi oM)) (yM I (yM I (pU I (zd6 I I oM) (yM I (pU I (aD I I oM) (yM I (pU I (SU.eq (v':=vi (n % p)) (zd6 I I oM) (zd9 vi hmm)) (pU I (SU.eq (v':=.pointer (some ⟨bz,0+(i * C+j) * 1,none⟩)) (iA ak zT3 I I I oM sL) (eK (by simp only[Int.toNat_natCast]))) ?_)))))))));refine SP.on I (sT (e:=encInt) (a:=n % p) (j:=i * C+j) 1 zT3 I I I (by rw[hK]; exact iL hil hjC) I) (.inl dC) ?_;rintro _ _ _ ⟨rfl,rfl⟩;refine pN (bN (tN (rG (yD I (lM I (nL ?_))))));exact gA (j+1,K.set (i * C+j) (n % p)) sB I I ⟨by dsimp only; omega,by dsimp only; rw[zi1,hK],fun y hy=>by
      rcases List.mem_or_eq_of_mem_set hy with h | h
      ·exact hKp y h
      ·rw[h]; exact hmo,fun x hx y hy=>by
      dsimp only;rw[nf hK hil hjC hy,zf7 (fun e=>by omega),hz1 x hx y hy],fun y hy=>by
      dsimp only at hy ⊢;have hyC:y<C:=oM;rw[nf hK hil hjC hyC];by_cases e:j=y
      ·subst e;rw[zf8 ⟨rfl,rfl⟩];rw[hn]
      ·rw[zf7 (fun k=>e k.2),hz2 y oM]⟩ (by dsimp only; omega)
    ·have hjC:j=C:=oM;subst hjC;refine xI (tX (tX (bX (bN (tN (rG (yD I (lM I (nL ?_)))))))));exact gA (i+1,K) sB I I ⟨by dsimp only; omega,hK,hKp,fun x hx y hy=>by
      dsimp only at hx;by_cases e:x=i
      ·rw[e]; exact hz2 y hy
      ·exact hz1 x oM y hy⟩ (by dsimp only; omega)
   ·have hii:i=rs.length:=oM;subst hii;refine xI (tX (tX (bX (tN (rZ (lK (qV 0 isAgg201 dh I I I) (oZ (sK 2 dh I I I I I sB) (tZ (rE (ST.perm (zj5 _ _ _) (fT fun g5 hle5 hs5=>?_)))))))))));exact ST.retCD 1 s (.inl I) results149 I isAgg201 dh I I uR ⟨I,hle5,L,⟨some ⟨bz,0,none⟩,rs.length * C,by rw[hL,hlen]; rfl,by rw[hL]; exact hs5⟩,by rw[hL,hlen],hLp,fun x hx y hy=>hz x oM y hy⟩
def tlB (L:List Cl):Nat→List (List Int)→Int→Nat
 | _,[],_=>0
 | k,t::T,id=>(if (cQ L t).contains id then 2 ^ k else 0)+tlB L (k+1) T id
theorem ud (L:List Cl)(t:List Int)(id:Int):∀ (T:List (List Int)) (k:Nat),tlB L k (T++[t]) id=tlB L k T id+if (cQ L t).contains id then 2 ^ (k+T.length) else 0
 | [],k=>by simp[tlB]
 | u::T,k=>by
  rw[List.cons_append];unfold tlB;rw[ud L t id T (k+1),ze6,Nat.add_assoc,Nat.add_comm 1,Nat.add_assoc]
theorem Cp (L:List Cl)(id:Int):∀ (T:List (List Int)) (k:Nat),tlB L k T id+2 ^ k≤2 ^ (k+T.length)
 | [],k=>by simp[tlB]
 | u::T,k=>by
  have h:=Cp L id T (k+1);have h2:2 ^ (k+1)=2 * 2 ^ k:=by rw[Nat.pow_succ,Nat.mul_comm]
  rw[ze6,show k+(T.length+1)=k+1+T.length by omega];unfold tlB;split <;> omega
theorem ld (L:List Cl)(id:Int)(T:List (List Int)):tlB L 0 T id<2 ^ T.length:=by
 have:=Cp L id T 0;rw[Nat.zero_add] at this;omega
def bU (l:List Cl)(T:List (List Int)):Int:=if (aU l).2≠0 then (aU l).2 else if (T.length:Int)>6 then 2 else if T.any (fun t=>t.any fun id=>(aG (ae l) id).isNone) then 30 else if (ae l).any (fun c=>decide (tlB (ae l) 0 T c.id=0)) then 45 else 0
def i4 (b:Nat):List Nat:=(List.range (b+1)).filter fun s=>decide (0<s)&&decide (s &&& b=s)
def cW (s:Nat):List Nat:=(List.range 6).filter fun k=>s.testBit k
def onesB (s:Nat):Nat:=(cW s).length
def sgP (m:Int):Int:=1 - 2 * (m % 2)
def bId (n i s:Nat):Int:=((i * 2 ^ n+s:Nat):Int)
def ixB (L:List Cl)(id:Int):Nat:=lbI (L.map Cl.id) id
def iI (L:List Cl)(n i:Nat)(y:Cl)(s:Nat):List aj:=(y.sides.map fun x=>⟨bId n (ixB L x.cell) s,x.sign⟩)++if onesB s≤1 then [] else (cW s).zipIdx.map fun q=>⟨bId n i (s - 2 ^ q.1),sgP (q.2+y.dim)⟩
def j7 (L:List Cl)(n i:Nat)(y:Cl)(s:Nat):Cl:=⟨bId n i s,y.dim+onesB s - 1,iI L n i y s⟩
def j6 (L:List Cl)(T:List (List Int)):List Cl:=L.zipIdx.flatMap fun q=>(i4 (tlB L 0 T q.1.id)).map (j7 L T.length q.2 q.1)
def dz (L:List Cl)(T:List (List Int)):List Cl:=aa (j6 L T)
def jD (n:Nat)(id:Int):Int:=onesB (id.toNat % 2 ^ n) - 1
def aF (l:List Cl)(T:List (List Int)):List Cl:=if bU l T≠0∨(aU (dz (ae l) T)).2≠0 then [] else dz (ae l) T
def rO (c r:Cl):Int:=(c.sides.map fun q=>if q.cell=r.id then q.sign else 0).sum
section
variable (rf:List Cl→List Cl→Nat)(n:Nat)(B:List Cl)
def qT (a dim:Int):List Cl:=B.filter fun c=>decide (c.dim=dim)&&decide (jD n c.id≤a)
def s9 (low dim:Int):List Cl:=B.filter fun c=>decide (c.dim=dim)&&decide (jD n c.id>low)
def fU (a low dim:Int):Int:=(qT n B a dim).length - (rf (qT n B a dim) (s9 n B low (dim - 1)):Int)
def s5 (a low dim:Int):Int:=fU rf n B (min (max a (-1)) ((n:Int) - 1)) (max low (-1)) dim
def yf (r a b:Int):Int:=s5 rf n B a (a - r) (a+b) - s5 rf n B (a - 1) (a - r) (a+b) - s5 rf n B (a+r - 1) a (a+b+1)+s5 rf n B (a+r - 1) (a - 1) (a+b+1)
def AS (D:Nat)(r:Int):List (List Int):=(List.range n).map fun a:Nat=>(List.range D).map fun b:Nat=>yf rf n B r a b
def oL {α:Type}[DecidableEq α]:List α→List α
 | a::b::l=>if a=b then oL (b::l) else a::b::l
 | l=>l
def jz {α:Type}[DecidableEq α](l:List α):List α:=(oL l.reverse).reverse
def jM (D:Nat):List (List (List Int)):=(List.range n).map fun r:Nat=>AS rf n B D ((r:Int)+1)
end
noncomputable def rkP (p:Int) (C R:List Cl):Nat:=rkL p C R rO
def tf (B:List Cl):Bool:=B.any fun c=>decide ((B.filter fun x=>decide (x.dim=c.dim)).length>200)
def ek (l:List Cl)(T:List (List Int))(p:Int):Int:=if jL p=false then 46 else if bU l T≠0 then bU l T else if (aU (dz (ae l) T)).2≠0∨tf (dz (ae l) T)=true then 2 else 0
def dimN (l:List Cl):Nat:=(tT (ae l) (-1)+1).toNat
noncomputable def dj (l:List Cl) (T:List (List Int)) (p:Int):List (List (List Int)):=if ek l T p≠0 then [] else jz (jM (rkP p) T.length (dz (ae l) T) (dimN l))
def fH (D:Nat)(P:List (List Int)):List Int:=(List.range D).map fun d:Nat=>((P.zipIdx.map fun q=>if q.2≤d then q.1.getD (d - q.2) 0 else 0)).sum
noncomputable def jm (l:List Cl) (T:List (List Int)) (p:Int):List Int:=if (dj l T p).length=0 then [] else fH (dimN l) ((dj l T p).getLastD [])
theorem Rt.ix {L:List Cl}(h:Rt L){i:Nat}{c:Cl}(hi:L[i]?=some c):ixB L c.id=i:=by
 have hc:c∈L:=zf9 hi;have h2:(L.map Cl.id).Pairwise (· < ·):=by rw[zj8]; exact h.asc
 rcases lh (tl:=L) (h2.imp fun h=>by omega) c.id with ⟨h1,_⟩ | ⟨d,k,h1,h3,h4⟩
 ·rw[h.find hc] at h1;cases h1
 ·rw[h.find hc] at h1;cases h1;have h5:(L.map Cl.id).contains c.id=true:=by simp; exact⟨c,hc,I⟩
  unfold atC at h3;rw[zf8 h5] at h3;have h6:ixB L c.id=k:=by unfold ixB; omega
  rw[h6];have hi':=zf3.1 hi;have hk':=zf3.1 h4;obtain ⟨a1,a2⟩:=hi';obtain ⟨b1,b2⟩:=hk'
  rcases Nat.lt_trichotomy i k with h | h' | h
  ·have:=zc7.1 (Rt.asc ‹Rt L›) i k a1 b1 h;rw[a2,b2] at this;omega
  ·exact h'.symm
  ·have:=zc7.1 (Rt.asc ‹Rt L›) k i b1 a1 h;rw[a2,b2] at this;omega
theorem Rt.ix_get {L:List Cl}(h:Rt L){c:Cl}(hc:c∈L):L[ixB L c.id]?=some c:=by
 obtain ⟨i,hi,e⟩:=List.mem_iff_getElem.1 hc;have h1:L[i]?=some c:=by rw[gE hi,e]
 rw[h.ix h1];exact h1
theorem nt {b s:Nat}:s∈i4 b↔0<s∧s &&& b=s:=by
 unfold i4;rw[zh2,List.mem_range];simp only[zi9,zj1];constructor
 ·exact fun h=>h.2
 ·intro h;refine⟨?_,h⟩;have:s &&& b≤b:=Nat.and_le_right;omega
theorem sub_le {a b:Nat}(h:a &&& b=a):a≤b:=by
 have:a &&& b≤b:=Nat.and_le_right;omega
def EN (s:Nat):List (Nat×Nat):=if onesB s≤1 then [] else (cW s).zipIdx
def hB (s t:Nat):Nat:=((EN s).filter fun q=>decide (s - 2 ^ q.1=t)).length
def cS (d e:Cl):Nat:=(d.sides.filter fun q=>decide (q.cell=e.id)).length
def CS (L:List Cl)(f:Int→Nat)(n:Nat):List Cl:=L.zipIdx.flatMap fun q=>(i4 (f q.1.id)).map (j7 L n q.2 q.1)
theorem zu (L:List Cl)(T:List (List Int)):j6 L T=CS L (tlB L 0 T) T.length:=rfl
structure Cov (L:List Cl)(f:Int→Nat)(n:Nat):Prop where
 rt:Rt L
 n4:n≤4
 lt:∀ c∈L,f c.id<2 ^ n
 sub:∀ c∈L,∀ x∈c.sides,f c.id &&& f x.cell=f c.id
 few:L.length≤60
 dim:∀ c∈L,c.dim≤4
 sd:∀ c∈L,c.sides.length≤60
section
variable {L:List Cl}{f:Int→Nat}{n:Nat}(h:Cov L f n)
include h
omit h in
theorem sb (h:Rt L){z:Cl}:z∈CS L f n↔∃ c∈L,∃ s∈i4 (f c.id),z=j7 L n (ixB L c.id) c s:=by
 unfold CS;rw[List.mem_flatMap];constructor
 ·rintro ⟨⟨c,i⟩,hq,hz⟩;obtain ⟨s,hs,rfl⟩:=ze9.1 hz;have hi:L[i]?=some c:=List.mem_zipIdx_iff_getElem?.1 hq;exact⟨c,zf9 hi,s,hs,by rw[h.ix hi]⟩
 ·rintro ⟨c,hc,s,hs,rfl⟩;exact⟨(c,ixB L c.id),List.mem_zipIdx_iff_getElem?.2 (h.ix_get hc),ze9.2 ⟨s,hs,I⟩⟩
end
theorem sumz {α:Type}{l:List α}{g:α→Int}(h:∀ x∈l,g x=0):(l.map g).sum=0:=by
 rw[iS (g:=fun _=>(0:Int)) (K:=0) fun x hx=>by rw[h x hx]; rfl,Int.zero_mul]
section
variable {L:List Cl}{f:Int→Nat}{n:Nat}(h:Cov L f n)
include h
end
section
variable {L:List Cl}{f:Int→Nat}{n:Nat}(h:Cov L f n)
include h
omit h in
theorem zJ (b:Nat):(i4 b).length≤b:=by
 unfold i4;rw[List.range_succ_eq_map,List.filter_cons_of_neg (by simp)];have:=zc3 (fun s=>decide (0<s)&&decide (s &&& b=s)) ((List.range b).map Nat.succ);rw[ze4,zi2] at this;exact this
omit h in
theorem wv {α β:Type}(g:α→List β)(K:Nat):∀ {l:List α},(∀ x∈l,(g x).length≤K)→(l.flatMap g).length≤l.length * K
 | [],_=>by simp
 | x::l,h=>by
  rw[zh3,ze3,ze6,Nat.add_mul,Nat.one_mul];have h1:=h x (by simp);have h2:=wv g K (l:=l) fun y hy=>h y (by simp[hy]);omega
end
section
variable {p:Int}(hp:Fld p)(n:Nat)(B:List Cl)
include hp
end
section
variable (rf:List Cl→List Cl→Nat)(n:Nat)(B:List Cl)
end
section
variable {p:Int}(hp:Fld p){n:Nat}{B:List Cl}(hB:Rt B)(hdeg:∀ c∈B,0≤jD n c.id∧jD n c.id≤(n:Int) - 1)
include hp
include hB hdeg
end
section
variable (rf:List Cl→List Cl→Nat)(n:Nat)(B:List Cl)
end
section
variable {p:Int}(hp:Fld p){n:Nat}{B:List Cl}(hdeg:∀ c∈B,0≤jD n c.id∧jD n c.id≤(n:Int) - 1)
include hp
include hdeg
end
section
variable {L:List Cl}{f:Int→Nat}{n:Nat}(h:Cov L f n)
include h
end
theorem Aj (E:World)(g:PH)(s:Own)(v:Value)(l:List Int)(x:Int)(hv:bZ g v l)(hl:l.length<1099511627776) :
  Ctr Tryz.prog E 122 #[v,vi x] g s (fun r g' s'=>(∃ n:Int,r=vi n∧decide (n≥0)=l.contains x)∧g=g'∧s=s'):=by
 obtain ⟨p,c,rfl⟩:=za2 hv;refine za9 (args:=[.slice p l.length c,vi x]) func122 I ntmps122 (bE I) ?_;refine rZ (aT I (sQ (sW I (lU (eN ak I) (lM I (tZ (bK ?_)))))));refine oP (ι:=Nat) (fun k=>[(0,.slice p l.length c),(1,vi x),(7,vi l.length),(8,vi k)]) (fun _=>g) (fun _=>s) (fun k=>k≤l.length∧x ∉ l.take k) (fun k=>l.length - k) 0 sB I I ⟨zf4 _,by simp⟩ ?_;rintro k ⟨hk,hno⟩;refine rZ (yL I (tZ (sQ ?_)));refine iP I (fun hlt=>?_) (fun hlt=>?_)
 ·have hkl:k<l.length:=oM;have hb1:=za4 hv oM;have hgx:l[((k:Nat):Int).toNat]?=some l[k]:=gE hkl;refine kP (tN (sQ (bK (sW I (aT I (sW I (lM I (lM I (lU (iA ak zT3 I I hb1 oM sL) (lK (eB iT3 I (za5 hv) hgx I) (yE I (tZ ?_))))))))))));refine iP I (fun he=>?_) (fun he=>?_)
  ·refine sW I (aT I (rE (bR (tR (tR (bR (tR ?_)))))));have hm:l.contains x=true:=by rw[List.contains_iff_mem,he]; exact gM hkl
   exact za6 (.inl I) results122 I ⟨⟨k,I,by rw[hm]; simp⟩,I,I⟩
  ·refine kP (bN (tN (rG (yD I (lM I (nL ?_))))));exact gA (k+1) sB I I ⟨oM,by rw[tS hkl,zf1]; rintro (h | h); exact hno h; simp at h; exact he h⟩ oM
 ·have hkk:l.take k=l:=tL oM;rw[hkk] at hno;refine xI (tX (tX (bX (tN (rZ (aT I (rE ?_)))))));have hm:l.contains x=false:=by rw[← zj3,List.contains_iff_mem]; exact hno
  exact za6 (.inl I) results122 I ⟨⟨-1,I,by rw[hm]; rfl⟩,rfl,rfl⟩
theorem AA (E:World)(g:PH)(s:Own)(v:Value)(l:List Int)(x:Int)(hv:bZ g v l)(hl:l.length<1099511627776) :
  Ctr Tryz.prog E 79 #[v,vi x] g s (fun r g' s'=>r=vb (l.contains x)∧g=g'∧s=s'):=by
 refine za9 (args:=[v,vi x]) func79 I ntmps79 (bE I) ?_;refine rZ (aT I (sW I (lM I (lW (cL call122 I (Aj E g _ v l x hv hl)) ?_))));rintro _ _ _ ⟨⟨n,rfl,hn⟩,rfl,rfl⟩;refine lU (gQ I I) (aT I (rE ?_));exact za6 (.inl I) results79 I ⟨by rw[hn],I,I⟩
def atP (L:List Cl):List (Int×Value):=L.zipIdx.map fun q=>(q.1.id,vi q.2)
theorem Cd (L:List Cl)(c:Cl):atP (L++[c])=atP L++[(c.id,vi L.length)]:=by
 unfold atP;rw[List.zipIdx_append,zg3];simp
theorem zx {L:List Cl}{c:Cl}(h:∀ d∈L,d.id≠c.id):jC (atP L) c.id (vi L.length)=atP (L++[c]):=by
 rw[Cd];refine iV _ _ _ fun p hp=>?_;obtain ⟨q,hq,rfl⟩:=ze9.1 hp;exact h q.1 (zf9 (List.mem_zipIdx_iff_getElem?.1 hq))
theorem lH (id:Int):∀ (L:List Cl) (k:Nat),fj (L.zipIdx k |>.map fun q=>(q.1.id,vi q.2)) id=none∧aG L id=none∨∃ c i,aG L id=some c∧L[i]?=some c∧fj (L.zipIdx k |>.map fun q=>(q.1.id,vi q.2)) id=some (vi (k+i:Nat))
 | [],_=>.inl ⟨rfl,rfl⟩
 | d::L,k=>by
  rw[List.zipIdx_cons,zg2,bI];unfold aG;rw[List.find?_cons];by_cases e:id=d.id
  ·refine .inr ⟨d,0,?_,I,?_⟩
   ·rw[zf6 (show d.id=id from e.symm)]
   ·rw[zf8 e];rfl
  ·rw[zf7 e,zf5 (fun h:d.id=id=>e h.symm)]
   rcases lH id L (k+1) with ⟨h1,h2⟩ | ⟨c,i,h1,h2,h3⟩
   ·exact .inl ⟨h1,h2⟩
   ·exact .inr ⟨c,i+1,h1,h2,by rw[h3]; congr 2; omega⟩
theorem uk {L:List Cl}(hL:Rt L)(id:Int):(fj (atP L) id=none∧aG L id=none)∨∃ c,aG L id=some c∧L[ixB L c.id]?=some c∧c.id=id∧fj (atP L) id=some (vi (ixB L c.id:Nat)):=by
 rcases lH id L 0 with h | ⟨c,i,h1,h2,h3⟩
 ·exact .inl h
 ·refine .inr ⟨c,h1,?_,(cV h1).2,?_⟩
  ·rw[hL.ix h2]; exact h2
  ·rw[hL.ix h2,← Nat.zero_add i]; exact h3
def yl (g:PH)(v:Value)(L:List Cl)(T:List (List Int)):Prop :=
 ∃ b m cv iv,v=pp b 0∧g b=some (.cells #[cv,.map (some m),iv,vi T.length] 82 (0,0))∧ao g cv L∧Mp g m (atP L)∧bZ g iv (L.map fun c=>((tlB L 0 T c.id:Nat):Int))
theorem yl.mono {g g':PH}{v:Value}{L:List Cl}{T:List (List Int)}(h:yl g v L T)(hl:Le g g'):yl g' v L T:=by
 obtain ⟨b,m,cv,iv,h1,h2,h3,h4,h5⟩:=h;exact⟨b,m,cv,iv,h1,hl _ _ h2,h3.mono hl,h4.mono hl,za3 h5 hl⟩
theorem xB {L:List Cl}(hL:Rt L)(F:Cl→Int){c:Cl}(hc:L[ixB L c.id]?=some c)(y:Int):(L.map F).set (ixB L c.id) y=L.map fun d=>if d.id=c.id then y else F d:=by
 refine List.ext_getElem? fun i=>?_;rw[List.getElem?_set,zh7,zh7,ze4];cases hi:L[i]? with
 | none =>
  have h1:L.length≤i:=List.getElem?_eq_none_iff.1 hi;split
  ·rw[zf7 oM]; rfl
  ·rfl
 | some d =>
  have h1:=hL.ix hi;by_cases e:d.id=c.id
  ·have e2:ixB L c.id=i:=by rw[← e]; exact h1
   have h2:=(zf3.1 hi).1;rw[zf8 e2,zf8 oM];show some y=some (if d.id=c.id then y else F d);rw[zf8 e]
  ·have e2:ixB L c.id≠i:=fun h=>by
    rw[h,hi] at hc;injection hc with hc
    exact e (by rw[hc])
   rw[zf7 e2];show some (F d)=some (if d.id=c.id then y else F d);rw[zf7 e]
theorem Ct:∀ k:Nat,k<6→∀ x:Nat,x<64→x<2 ^ k→IntKind.i64.wrap (BitVec.ofInt IntKind.i64.bits (x:Int) ||| BitVec.ofInt IntKind.i64.bits ((2 ^ k:Nat):Int)).toNat=((x+2 ^ k:Nat):Int):=by decide +kernel
theorem lf:∀ n:Nat,n<10→IntKind.i64.wrap (1 * 2 ^ min ((n:Nat):Int).toNat IntKind.i64.bits)=((2 ^ n:Nat):Int):=by decide
theorem Tryz.build82 (q:Option Addr)(n k m:Nat)(t:Int)(w:World):(Instr.build 82 #[(0,.slice q n k),(1,.map (some m)),(3,vi t)]).run Tryz.prog w = .ok (.agg #[.slice q n k,.map (some m),.slice none 0 0,vi t]) w:=by
 have h1:∀ n,(vi n).cells = #[vi n]:=fun _=>rfl;have h2:(Value.slice q n k).cells = #[.slice q n k]:=rfl;have h3:(Value.map (some m)).cells = #[.map (some m)]:=rfl;simp[Instr.build,Instr.fill,h1,h2,h3];rfl
def wN (L:List Cl)(T:List (List Int))(ids:List Int)(c:Cl):Nat:=tlB L 0 T c.id+if ids.contains c.id then 2 ^ T.length else 0
end Go.Proofs.YtcfkpajlakidbaaGreatDoor
