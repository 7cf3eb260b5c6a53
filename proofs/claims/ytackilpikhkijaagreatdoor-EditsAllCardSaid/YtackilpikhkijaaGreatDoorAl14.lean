/- Pl13 Ed19 Ed20 A12 A12b Alr Frm7 -/
import Derived.Test.YtackilpikhkijaaGreatDoorAl13
import Derived.Test.YtackilpikhkijaaGreatDoorAl09
import Derived.Test.YtackilpikhkijaaGreatDoorAl11
import Derived.Test.YtackilpikhkijaaGreatDoorAl12
import Derived.Test.YtackilpikhkijaaGreatDoorAl08
import Derived.Test.YtackilpikhkijaaGreatDoorAl10
set_option linter.unusedSimpArgs false
set_option linter.unusedVariables false
namespace Go.Proofs.YtackilpikhkijaaGreatDoor
open _root_.Go.Proofs.Tryz _root_.Go.Proofs.YtackilpikhkijaaGreatDoor.Tryz
open Go Go.Sy Go.Pl Go.Proofs
set_option maxHeartbeats 1000000
theorem Rt.findC {A:List Cl}(h:Rt A)(id:Int):findC A id=aA A id:=by
 unfold Go.Proofs.YtackilpikhkijaaGreatDoor.findC;rw[h.tab];rfl
theorem Rt.ids {A:List Cl}(h:Rt A):(A.map Cl.id).Nodup:=by
 rw[List.Nodup,List.pairwise_map];exact h.asc.imp fun h=>by omega
theorem Rt.few64 {A:List Cl}(h:Rt A){c:Cl}(hc:c∈A):c.sides.length≤64:=(iw (h.form c hc).ok).1
theorem Rt.signs {A:List Cl}(h:Rt A){c:Cl}(hc:c∈A):∀ x∈c.sides,x.sign=1∨x.sign = -1:=(h.form c hc).sg
theorem Rt.difS {A:List Cl}(h:Rt A){c:Cl}(hc:c∈A):(c.sides.map Side.cell).Nodup:=by
 rw[List.Nodup,List.pairwise_map];exact (h.form c hc).asc.imp fun h=>by omega
theorem Rt.getD {A:List Cl}(_:Rt A)(id:Int):((aA A id).getD bA)=bA∨((aA A id).getD bA)∈A:=by
 cases h:aA A id with
 | none=>exact .inl rfl
 | some c=>exact .inr (gv h).1
theorem Rt.fits {A:List Cl}(h:Rt A):be A:=⟨by have:=h.few; omega,fun c hc=>by have:=h.few64 hc; omega⟩
theorem Rt.mem_above {A:List Cl}(h:Rt A){k id:Int}:id∈aj A k↔∃ c∈A,c.id=id∧l8 c k=true:=by
 unfold aj;rw[h.tab,List.mem_map];constructor
 ·rintro ⟨c,hc,rfl⟩;obtain ⟨h1,h2⟩:=List.mem_filter.1 hc;exact⟨c,h1,I,h2⟩
 ·rintro ⟨c,h1,rfl,h2⟩;exact⟨c,List.mem_filter.2 ⟨h1,h2⟩,I⟩
theorem Rt.above_nodup {A:List Cl}(h:Rt A)(k:Int):(aj A k).Nodup:=by
 unfold aj;rw[h.tab];exact (List.filter_sublist.map Cl.id).nodup h.ids
theorem Rt.not_self {A:List Cl}(h:Rt A)(k:Int):k ∉ aj A k:=fun hk=>by
 obtain ⟨c,hc,rfl,hh⟩:=h.mem_above.1 hk;unfold l8 at hh;obtain ⟨x,hx,he⟩:=List.any_eq_true.1 hh;obtain ⟨d,hd1,hd2⟩:=(h.form c hc).found x hx;rw[of_decide_eq_true he,h.find hc] at hd1;cases hd1;omega
theorem Rt.edge {A:List Cl}(h:Rt A){c:Cl}(hc:c∈A)(hd:c.dim=1):∃ z0 z1,c.sides=[z0,z1]∧((z0.sign=1∧z1.sign = -1)∨(z0.sign = -1∧z1.sign=1)):=by
 have hf:=h.form c hc;have h1:=hf.cnt;have h2:c.sides.length=2:=by
  unfold a7 at h1;simp[hd] at h1;omega
 obtain ⟨z0,z1,h3⟩:∃ z0 z1,c.sides=[z0,z1]:=by
  match hs:c.sides,h2 with
  | [z0,z1],_=>exact⟨z0,z1,rfl⟩
 refine⟨z0,z1,h3,?_⟩;have h4:=hf.one hd;have h5:=hf.sg z0 (by rw[h3]; simp);have h6:=hf.sg z1 (by rw[h3]; simp);rw[h3] at h4;simp[nF] at h4;omega
theorem Rt.above_one {A:List Cl}(h:Rt A){k m:Int}(ha:aj A k=[m]):∃ c∈A,c.id=m∧aA A m=some c∧l8 c k=true:=by
 obtain ⟨c,hc,rfl,hh⟩:=h.mem_above.1 (show m∈aj A k by rw[ha]; simp);exact⟨c,hc,I,h.find hc,hh⟩
theorem oH {A:List Cl}(h:Rt A)(e:Ed):cq A e=dH A e:=by
 unfold cq dH;rw[h.findC,h.findC,Bool.and_comm]
theorem nu {A:List Cl}(h:Rt A)(e:Ed):∀ x∈br A e,x.sign=1∨x.sign = -1:=by
 unfold br
 rcases h.getD e.other with h1 | h1
 ·rw[h1]; intro x hx; cases hx
 ·exact h.signs h1
theorem jv {A:List Cl}(h:Rt A)(e:Ed):(br A e).length≤64:=by
 unfold br
 rcases h.getD e.other with h1 | h1
 ·rw[h1]; decide
 ·exact h.few64 h1
theorem l5 {A:List Cl}(h:Rt A)(e:Ed)(ha:aj A e.cell=[e.other]):(br A e).any (fun x=>decide (x.cell=e.cell))=true:=by
 obtain ⟨c,hc,hi,hf,hh⟩:=h.above_one ha;unfold br;rw[hf];exact hh
theorem wB {cell:Int}:∀ {S:List Side} (a:Int),(∀ x∈S,x.cell≠cell)→S.foldl (fun a x=>if x.cell=cell then x.sign else a) a=a
 | [],_,_=>rfl
 | x::S,a,h=>by
  rw[List.foldl_cons,if_neg (h x (by simp))];exact wB a fun y hy=>h y (by simp[hy])
theorem qY {cell:Int}:∀ {S:List Side},(S.map Side.cell).Nodup→S.any (fun x=>decide (x.cell=cell))=true→S.eraseIdx (S.findIdx fun x=>decide (x.cell=cell))=S.filter (fun x=>!decide (x.cell=cell))∧kV S (S.findIdx fun x=>decide (x.cell=cell))=sgF S cell
 | [],_,h=>by cases h
 | x::S,hn,h=>by
  rw[List.map_cons,List.nodup_cons] at hn;rw[List.findIdx_cons];by_cases hx:x.cell=cell
  ·have hno:∀ y∈S,y.cell≠cell:=fun y hy e=>hn.1 (List.mem_map.2 ⟨y,hy,by rw[e,hx]⟩);have h1:S.filter (fun x=>!decide (x.cell=cell))=S:=List.filter_eq_self.2 fun y hy=>by simp[hno y hy]
   rw[decide_eq_true hx];refine⟨by simp[hx,h1],?_⟩;show x.sign=_;unfold sgF;rw[List.foldl_cons,if_pos hx,wB _ hno]
  ·have h1:S.any (fun x=>decide (x.cell=cell))=true:=by simpa [hx] using h
   obtain ⟨h2,h3⟩:=qY hn.2 h1;rw[decide_eq_false hx];refine⟨?_,?_⟩
   ·simp[hx,h2]
   ·have h4:sgF (x::S) cell=sgF S cell:=by unfold sgF; rw[List.foldl_cons,if_neg hx]
    rw[h4,← h3];simp[kV]
theorem tH {A:List Cl}(h:Rt A)(e:Ed)(ha:aj A e.cell=[e.other]):sortBy Prod.fst (er A e)=cJ A e:=by
 have hmem:=l5 h e ha;obtain ⟨c,hc,hi,hf,hh⟩:=h.above_one ha;have hS:br A e=c.sides:=by unfold br; rw[hf]; rfl
 have hR:cJ A e=(c.sides.filter fun x=>!decide (x.cell=e.cell)).map fun x=>(x.cell,-sgF c.sides e.cell * x.sign):=by unfold cJ; rw[h.findC,hf]; rfl
 rw[hS] at hmem;obtain ⟨h1,h2⟩:=qY (h.difS hc) hmem;have hC:er A e=cJ A e:=by
  rw[hR];unfold er;rw[hS,h1,h2]
 rw[hC];refine (cH ?_ (aF.refl _)).symm;rw[hR];unfold Srt;rw[List.pairwise_map];exact ((h.form c hc).asc.sublist List.filter_sublist).imp fun h=>by dsimp only; omega
theorem mP {k m:Int}{ch x:List Tm}(h:m=k):cI k ch (m,x)=(m,ch):=if_pos h
theorem ku {k m:Int}{ch x:List Tm}(h:¬ m=k):cI k ch (m,x)=(m,x):=if_neg h
def me (A:List Cl)(e:Ed)(k:Int):List Tm:=if k=e.cell then cJ A e else if k=e.other then [] else [(k,1)]
theorem tG {A:List Cl}(h:Rt A)(e:Ed)(ha:aj A e.cell=[e.other])(v1 v2:Value)(k:Int):qw [(e.cell,v1,er A e),(e.other,v2,[])] k=me A e k:=by
 unfold qw me;by_cases h1:k=e.cell
 ·subst h1;rw[if_pos rfl,List.find?_cons_of_pos (by simp)];exact tH h e ha
 ·rw[if_neg h1,List.find?_cons_of_neg (by simpa using fun e=>h1 e.symm)];by_cases h2:k=e.other
  ·subst h2;rw[if_pos rfl,List.find?_cons_of_pos (by simp)];rfl
  ·rw[if_neg h2,List.find?_cons_of_neg (by simpa using fun e=>h2 e.symm)];rfl
theorem vM {A:List Cl}(h:Rt A)(e:Ed)(ha:aj A e.cell=[e.other]):(((am A).map fN).map (cI e.cell (cJ A e))).map (cI e.other [])=A.map fun c=>(c.id,me A e c.id):=by
 have hne:e.cell≠e.other:=fun he=>by
  have:=h.not_self e.cell;rw[ha,he] at this;exact this (by simp)
 rw[h.tab,List.map_map,List.map_map];refine List.map_congr_left fun c _=>?_;show cI e.other [] (cI e.cell (cJ A e) (c.id,[(c.id,1)]))=_;unfold me;by_cases h1:c.id=e.cell
 ·rw[mP h1,ku (by rw[h1]; exact hne),if_pos h1]
 ·rw[ku h1,if_neg h1];by_cases h2:c.id=e.other
  ·rw[mP h2,if_pos h2]
  ·rw[ku h2,if_neg h2]
theorem rN {A:List Cl}(h:Rt A)(e:Ed):bB A e=a6 A e:=by
 unfold bB a6;rw[h.findC,h.findC,h.findC];have h1:(e.new<1∨e.other<1∨e.new=e.other)↔(min e.new e.other<1∨e.new=e.other):=oM;simp only[h1];cases aA A e.cell <;> rfl
theorem qJ {e:Ed}:∀ {S:List Side},(S.map Side.cell).Nodup→ei e S=if S.any (fun x=>decide (x.cell=e.cell)) then [⟨e.other,Al S e.cell⟩] else []
 | [],_=>rfl
 | x::S,hn=>by
  rw[List.map_cons,List.nodup_cons] at hn;by_cases hx:x.cell=e.cell
  ·have hno:∀ y∈S,y.cell≠e.cell:=fun y hy e'=>hn.1 (List.mem_map.2 ⟨y,hy,by rw[e',hx]⟩);have h1:S.filter (fun x=>decide (x.cell=e.cell))=[]:=List.filter_eq_nil_iff.2 fun y hy=>by simp[hno y hy]
   unfold ei Al;simp[hx,h1]
  ·have ih:=qJ (e:=e) hn.2;unfold ei Al at ih ⊢;simp[hx] at ih ⊢;exact ih
theorem uj {c:Cl}:∀ {B:List Cl},(B.map Cl.id).Nodup→(∃ x∈B,x.id=c.id)→dZ B c=B.map fun y=>if y.id=c.id then c else y
 | [],_,⟨x,hx,_⟩=>by cases hx
 | x::B,hn,hx=>by
  rw[List.map_cons,List.nodup_cons] at hn;unfold dZ;by_cases h1:c.id=x.id
  ·rw[if_pos h1,List.map_cons,if_pos h1.symm];congr 1;have:B.map (fun y=>if y.id=c.id then c else y)=B.map id:=List.map_congr_left fun y hy=>by
    rw[if_neg fun e=>hn.1 (List.mem_map.2 ⟨y,hy,by rw[e,h1]⟩)];rfl
   rw[this,List.map_id]
  ·rw[if_neg h1,List.map_cons,if_neg fun e=>h1 e.symm];congr 1;refine uj hn.2 ?_;obtain ⟨y,hy,he⟩:=hx
   rcases List.mem_cons.1 hy with rfl | hy
   ·exact absurd he.symm h1
   ·exact⟨y,hy,he⟩
theorem uz {A:List Cl}{k:Int}(h:(aA A k).isSome=false):∀ x∈A,x.id≠k:=fun x hx he=>by
 have h1:(aA A k).isSome=true:=by
  unfold aA;rw[List.find?_isSome];exact⟨x,hx,by simpa using he⟩
 rw[h] at h1;cases h1
theorem zG {S:List Side}{z0 z1:Side}(hl:S=[z0,z1])(h:(z0.sign=1∧z1.sign = -1)∨(z0.sign = -1∧z1.sign=1)):iz S true=⟨(iz S true).cell,1⟩∧iz S false=⟨(iz S false).cell,-1⟩:=by
 subst hl;obtain ⟨c0,s0⟩:=z0;obtain ⟨c1,s1⟩:=z1
 rcases h with ⟨h0,h1⟩ | ⟨h0,h1⟩ <;> dsimp only at h0 h1 <;> subst h0 <;> subst h1 <;> exact⟨rfl,rfl⟩
theorem nf {A:List Cl}(h:Rt A)(e:Ed)(hc:a6 A e=0):eR A e=A.map (cZ e (iz ((findC A e.cell).getD bA).sides false).cell)++[⟨e.new,0,[]⟩,⟨e.other,1,[⟨e.new,-1⟩,⟨(iz ((findC A e.cell).getD bA).sides true).cell,1⟩]⟩]:=by
 rw[h.findC];unfold a6 at hc;cases hf:aA A e.cell with
 | none=>rw[hf] at hc; cases hc
 | some c =>
 rw[hf] at hc;dsimp only at hc;split at hc
 ·cases hc
 rename_i hd;split at hc
 ·cases hc
 rename_i hnew;split at hc
 ·cases hc
 rename_i hno;rw[Bool.or_eq_true,not_or,Bool.not_eq_true,Bool.not_eq_true] at hno;have hd:c.dim=1:=Decidable.not_not.1 hd;obtain ⟨hcA,hci⟩:=gv hf;obtain ⟨z0,z1,hz,hsg⟩:=h.edge hcA hd;obtain ⟨e1,e2⟩:=zG hz hsg;unfold eR;rw[hf,Option.getD_some];generalize iz c.sides true=zt at *;generalize iz c.sides false=zf at *;have hids:(aW A e (aj A e.cell)).map Cl.id=A.map Cl.id:=by
  unfold aW;rw[List.map_map];refine List.map_congr_left fun y _=>?_;show (if y.id∈aj A e.cell then eG e y else y).id=y.id;split <;> rfl
 have hmemid:∀ k,(∃ x∈aW A e (aj A e.cell),x.id=k)→∃ x∈A,x.id=k:=fun k ⟨x,hx,he⟩=>by
  have h1:k∈(aW A e (aj A e.cell)).map Cl.id:=List.mem_map.2 ⟨x,hx,he⟩;rw[hids] at h1;obtain ⟨y,hy,he⟩:=List.mem_map.1 h1;exact⟨y,hy,he⟩
 have hno1:=uz hno.1;have hno2:=uz hno.2;have hp1:dZ (aW A e (aj A e.cell)) ⟨e.new,0,[]⟩=aW A e (aj A e.cell)++[⟨e.new,0,[]⟩]:=mn fun x hx he=>by
  obtain ⟨y,hy,he⟩:=hmemid e.new ⟨x,hx,he⟩;exact hno1 y hy he
 have hp2:dZ (aW A e (aj A e.cell)++[⟨e.new,0,[]⟩]) ⟨e.other,1,[⟨e.new,-1⟩,zt]⟩=(aW A e (aj A e.cell)++[⟨e.new,0,[]⟩])++[⟨e.other,1,[⟨e.new,-1⟩,zt]⟩]:=mn fun x hx he=>by
  rcases List.mem_append.1 hx with hx | hx
  ·obtain ⟨y,hy,he⟩:=hmemid e.other ⟨x,hx,he⟩;exact hno2 y hy he
  ·simp at hx;subst hx;exact hnew (.inr he)
 have hcn:e.cell≠e.new:=fun he=>hno1 c hcA (by rw[hci,he]);have hco:e.cell≠e.other:=fun he=>hno2 c hcA (by rw[hci,he]);have hnd:(((aW A e (aj A e.cell)++[(⟨e.new,0,[]⟩:Cl)])++[(⟨e.other,1,[⟨e.new,-1⟩,zt]⟩:Cl)]).map Cl.id).Nodup:=by
  rw[← hp2,← hp1];exact fk (fk (by rw[hids]; exact h.ids))
 rw[hp1,hp2,uj hnd]
 ·rw[List.map_append,List.map_append,List.append_assoc];congr 1
  ·unfold aW;rw[List.map_map];refine List.map_congr_left fun y hy=>?_;show (if (if y.id∈aj A e.cell then eG e y else y).id=e.cell then _ else _)=_;have hyi:(if y.id∈aj A e.cell then eG e y else y).id=y.id:=by split <;> rfl
   rw[hyi];unfold cZ;by_cases h1:y.id=e.cell
   ·have hyc:y=c:=h.same hy hcA (by rw[h1,hci]);subst hyc;rw[if_pos h1,if_pos h1,h1,hd,e2]
   ·rw[if_neg h1,if_neg h1,qJ (h.difS hy)];by_cases h2:l8 y e.cell=true
    ·have h3:y.id∈aj A e.cell:=h.mem_above.2 ⟨y,hy,rfl,h2⟩;unfold l8 at h2;rw[if_pos h3,if_pos h2];rfl
    ·have h3:y.id ∉ aj A e.cell:=fun h4=>by
      obtain ⟨z,hz,he,hh⟩:=h.mem_above.1 h4;rw[h.same hz hy he] at hh;exact h2 hh
     unfold l8 at h2;rw[if_neg h3,if_neg h2,List.append_nil]
  ·simp only[List.map_cons,List.map_nil,List.cons_append,List.nil_append];rw[if_neg (by exact fun he=>hcn he.symm),if_neg (by exact fun he=>hco he.symm),e1]
 ·have h1:e.cell∈(aW A e (aj A e.cell)).map Cl.id:=by
   rw[hids];exact List.mem_map.2 ⟨c,hcA,hci⟩
  obtain ⟨x,hx,he⟩:=List.mem_map.1 h1;exact (by exact⟨x,List.mem_append_left _ (List.mem_append_left _ hx),he⟩)
theorem ShC.refl (c:Cl):ShC c c:=⟨rfl,rfl,.refl _⟩
theorem t7 {A:List Cl}(h:Rt A)(e:Ed)(hc:a6 A e=0):ShL (eR A e) (eI A e):=by
 refine⟨eI A e,?_,?_⟩
 ·rw[nf h e hc];exact List.perm_append_comm
 ·have:∀ l:List Cl,aC ShC l l:=fun l=>by
   induction l with
   | nil=>trivial
   | cons x l ih=>exact⟨ShC.refl x,ih⟩
  exact this _
theorem jL {A:List Cl}(h:Rt A)(e:Ed):((eR A e).map Cl.id).Nodup:=by
 unfold eR;have hids:(aW A e (aj A e.cell)).map Cl.id=A.map Cl.id:=by
  unfold aW;rw[List.map_map];refine List.map_congr_left fun y _=>?_;show (if y.id∈aj A e.cell then eG e y else y).id=y.id;split <;> rfl
 exact fk (fk (fk (by rw[hids]; exact h.ids)))
def iD (e:Ed)(k:Int):List Tm:=if k=e.cell then bQ e else [(k,1)]
theorem pM (e:Ed)(v1:Value)(k:Int):qw [(e.cell,v1,[(e.cell,1),(e.other,1)])] k=iD e k:=by
 unfold qw iD bQ;by_cases h1:k=e.cell
 ·subst h1;rw[if_pos rfl,List.find?_cons_of_pos (by simp)];show sortBy Prod.fst [(e.cell,(1:Int)),(e.other,1)]=_;simp only[sortBy,ins];by_cases h2:e.other<e.cell
  ·rw[if_pos h2,if_neg oM]
  ·rw[if_neg h2,if_pos oM]
 ·rw[if_neg h1,List.find?_cons_of_neg (by simpa using fun e=>h1 e.symm)];rfl
theorem rM {A:List Cl}(h:Rt A)(e:Ed):((am A).map fN).map (cI e.cell (bQ e))=A.map fun c=>(c.id,iD e c.id):=by
 rw[h.tab,List.map_map];refine List.map_congr_left fun c _=>?_;show cI e.cell (bQ e) (c.id,[(c.id,1)])=_;unfold iD;by_cases h1:c.id=e.cell
 ·rw[mP h1,if_pos h1]
 ·rw[ku h1,if_neg h1]
theorem lT {A:List Cl}(h:Rt A)(e:Ed):c4 A e=dw A e:=by
 have h1:lq A=fg A:=funext fun id=>by unfold lq fg; rw[h.findC]
 have h2:il A=qk A:=funext fun id=>by unfold il qk; rw[h.findC]
 have h3:gO A e.pairs=iq A e.pairs:=funext fun p=>by unfold gO iq; rw[h2]
 have h4:(fun p:Pr=>(findC A p.1).isSome&&(findC A p.2).isSome)=fun p=>(aA A p.1).isSome&&(aA A p.2).isSome:=funext fun p=>by rw[h.findC,h.findC]
 unfold c4 dw;rw[h1,h3,h4]
theorem uv (A:List Cl)(e:Ed):ShL (ep A e) (fo A e):=by
 refine⟨ep A e,.refl _,?_⟩;unfold ep fo;have:dj A (e.pairs.map Prod.snd)=gD A (e.pairs.map Prod.snd):=rfl;rw[this];generalize gD A (e.pairs.map Prod.snd)=l;induction l with
 | nil=>trivial
 | cons c l ih=>exact⟨⟨rfl,rfl,fq _⟩,ih⟩
theorem jP {A:List Cl}(h:Rt A)(e:Ed):((ep A e).map Cl.id).Nodup:=by
 unfold ep;rw[List.map_map];have:(Cl.id ∘ yE (byF e.pairs))=Cl.id:=rfl;rw[this];exact (List.filter_sublist.map Cl.id).nodup h.ids
theorem o6 {k:Int}:∀ {ps:List Pr} (ch:List Tm),(ps.map Prod.snd).Nodup→ps.foldl (fun p q=>cI q.2 [(q.1,1)] p) (k,ch)=(k,match byF ps k with | some t=>[(t,1)] | none=>ch)
 | [],_,_=>rfl
 | q::ps,ch,hn=>by
  rw[List.map_cons,List.nodup_cons] at hn;rw[List.foldl_cons];by_cases h1:k=q.2
  ·have h2:cI q.2 [(q.1,1)] (k,ch)=(k,[(q.1,1)]):=if_pos h1;have h3:byF ps k=none:=by
    unfold byF;rw[Option.map_eq_none_iff,List.find?_eq_none];intro p hp he;exact hn.1 (List.mem_map.2 ⟨p,hp,by rw[← h1]; simpa using he⟩)
   have h4:byF (q::ps) k=some q.1:=by unfold byF; rw[List.find?_cons_of_pos (by simpa using h1.symm)]; rfl
   rw[h2,o6 _ hn.2,h3,h4]
  ·have h2:cI q.2 [(q.1,1)] (k,ch)=(k,ch):=if_neg h1;have h4:byF (q::ps) k=byF ps k:=by unfold byF; rw[List.find?_cons_of_neg (by simpa using fun e=>h1 e.symm)]
   rw[h2,o6 _ hn.2,h4]
theorem ni:∀ (ps:List Pr) (M:List (Int×List Tm)),eZ ps M=M.map fun p=>ps.foldl (fun p q=>cI q.2 [(q.1,1)] p) p
 | [],M=>by simp[eZ]
 | q::ps,M=>by
  have h1:eZ (q::ps) M=eZ ps (M.map (cI q.2 [(q.1,1)])):=rfl;rw[h1,ni ps,List.map_map];rfl
theorem rX {A:List Cl}(h:Rt A)(e:Ed)(hd:ln e.pairs=false):eZ e.pairs ((am A).map fN)=A.map fun c=>(c.id,gK e c.id):=by
 have hn:(e.pairs.map Prod.snd).Nodup:=kI (by
  unfold ln at hd;rw[decide_eq_false_iff_not,Decidable.not_not] at hd;exact hd)
 rw[h.tab,ni,List.map_map];refine List.map_congr_left fun c _=>?_;show e.pairs.foldl (fun p q=>cI q.2 [(q.1,1)] p) (c.id,[(c.id,1)])=_;rw[o6 _ hn];unfold gK;cases byF e.pairs c.id <;> rfl
theorem xV {A:List Cl}{e:Ed}(h:dw A e=0):ln e.pairs=false:=by
 unfold dw at h;split at h
 ·split at h
  ·cases h
  ·rename_i h1; simpa using h1
 ·cases h
set_option maxRecDepth 100000
set_option maxHeartbeats 2000000
def bZ (A:List Cl)(e:Ed):Int:=if e.kind=1 then gn A e else if e.kind=2 then jC A e else if e.kind=3 then a6 A e else if e.kind=4 then dw A e else if e.kind=5 then dH A e else 1
def cS (A:List Cl)(e:Ed):List Cl:=if e.kind=1 then A++[⟨e.cell,e.dim,e.sides⟩] else if e.kind=2 then dj A [e.cell] else if e.kind=3 then eI A e else if e.kind=4 then fo A e else dj A [e.cell,e.other]
def sk (A:List Cl)(e:Ed)(k:Int):List Tm:=if e.kind=3 then iD e k else if e.kind=4 then gK e k else if e.kind=5 then me A e k else [(k,1)]
def bkK (e:Ed):Bool:=decide (e.kind=2)
def cQ (l:List Cl)(e:Ed):Int×List Cl:=if (aJ l).2=0 then aR (bZ (aa l) e) (cS (aa l) e) else (1,[])
def sj (l:List Cl)(e:Ed):List (Int×List Tm):=(if bkK e then (cQ l e).2 else aa l).map fun c=>(c.id,sk (aa l) e c.id)
theorem e8.congr {code:Int}{D:List Cl}{ims ims':List (Int×List Tm)}{bk bk':Bool}{r:Value}{g:PH}(h:e8 code D ims bk r g)(hi:code=0→ims=ims')(hb:code=0→bk=bk'):e8 code D ims' bk' r g:=by
 obtain ⟨u,p,n,c,b,h1,h2,h3,h4⟩:=h;refine⟨u,p,n,c,b,h1,h2,fun h0=>?_,h4⟩;obtain ⟨h5,h6⟩:=h3 h0;rw[hi h0] at h6;exact⟨h5.trans (hb h0),h6⟩
theorem xw {A:List Cl}(hn:(A.map Cl.id).Nodup)(a b:Int):nP (nP A a) b=dj A [a,b]:=by
 have h0:A=gD A []:=(List.filter_eq_self.2 fun _ _=>by simp).symm;have h1:nP A a=gD A [a]:=by
  have:=kw hn [] a;rw[← h0] at this;exact this
 rw[h1,kw hn];rfl
theorem xx {A:List Cl}(hn:(A.map Cl.id).Nodup)(a:Int):nP A a=dj A [a]:=by
 have h0:A=gD A []:=(List.filter_eq_self.2 fun _ _=>by simp).symm;have:=kw hn [] a;rw[← h0] at this;exact this
theorem qE {A:List Cl}(hn:(A.map Cl.id).Nodup)(ks:List Int):((dj A ks).map Cl.id).Nodup:=(List.filter_sublist.map Cl.id).nodup hn
theorem qF {A:List Cl}(h:Rt A)(ks:List Int):aa (dj A ks)=dj A ks∧am (dj A ks)=dj A ks:=by
 have h1:(dj A ks).Pairwise fun a b=>a.id<b.id:=h.asc.sublist List.filter_sublist;have h2:aa (dj A ks)=dj A ks:=by
  unfold aa;rw[(cH (key:=Cl.id) (h1.imp fun h=>by omega) (aF.refl _)).symm];have:∀ c∈dj A ks,fB c=c:=fun c hc=>by
   unfold fB;rw[(cH (key:=Side.cell) ((h.form c (List.mem_filter.1 hc).1).asc.imp fun h=>by omega) (aF.refl c.sides)).symm]
  rw[List.map_congr_left this];simp
 exact⟨h2,by rw[dN (by rw[h2]; exact h1),h2]⟩
theorem oh {A:List Cl}(h:Rt A)(e:Ed)(hc:a6 A e=0):be (eR A e):=by
 rw[nf h e hc];have hl:=h.few;refine⟨by simp only[List.length_append,List.length_map,List.length_cons,List.length_nil]; omega,fun c hc=>?_⟩
 rcases List.mem_append.1 hc with hc | hc
 ·obtain ⟨y,hy,rfl⟩:=List.mem_map.1 hc;have h1:=h.few64 hy;have h2:(ei e y.sides).length≤y.sides.length:=by unfold ei; rw[List.length_map]; exact List.length_filter_le _ _
  unfold cZ;split
  ·simp
  ·simp only[List.length_append]; omega
 ·simp at hc
  rcases hc with rfl | rfl <;> simp
theorem oC {A:List Cl}(hf:be A)(e:Ed):be (ep A e):=by
 refine⟨?_,fun c hc=>?_⟩
 ·unfold ep;rw[List.length_map];exact Nat.lt_of_le_of_lt (List.length_filter_le _ _) hf.1
 ·unfold ep at hc;obtain ⟨y,hy,rfl⟩:=List.mem_map.1 hc;have h1:=hf.2 y (List.mem_filter.1 hy).1;show (gU (y.sides.map (dQ (byF e.pairs)))).length<_;rw[(fq _).length_eq,List.length_map];exact h1
theorem xg {A:List Cl}(hA:Rt A)(e:Ed):jk (.func (.func 80) #[] #[]) e A (a6 A e) (eR A e) (iD e) false:=by
 intro E g s bx mb ms u v rs hu hO hv;refine dn.mk (args:=[_,_]) (cap:=[]) call80 ?_;refine (uZ E g s bx mb ms u v e A rs hu hA.fits hA.ids hO hv ?_ (hA.above_nodup _) (hA.not_self _) ?_).mono ?_
 ·intro id hid;obtain ⟨c,hc,rfl,hh⟩:=hA.mem_above.1 hid;exact⟨c,hA.find hc,hh,hA.few64 hc⟩
 ·intro c hc hd;exact hA.edge (gv hc).1 hd
 ·rintro r g' s' ⟨h1,h2,h3⟩;refine⟨h1,h2,?_⟩;by_cases h0:a6 A e=0
  ·rw[if_pos h0] at h3 ⊢;obtain ⟨rs',v1,p,n,c,hv1,h4,rfl⟩:=h3;have hne:e.cell≠e.other:=fun he=>by
    unfold a6 at h0;cases hf:aA A e.cell with
    | none=>rw[hf] at h0; cases h0
    | some c =>
     rw[hf] at h0;rw[he] at hf;rw[hf] at h0;dsimp only at h0;split at h0
     ·cases h0
     ·split at h0
      ·cases h0
      ·simp at h0
   refine⟨rs',_,h4,?_,by simp,pM e v1,I⟩;intro t ht;simp at ht;subst ht;exact⟨by simp,by simpa using hne,p,n,c,hv1⟩
  ·rw[if_neg h0] at h3 ⊢;exact h3
theorem xU {A:List Cl}(hA:Rt A)(e:Ed)(hpl:e.pairs.length<1099511627776):jk (.func (.func 81) #[] #[]) e A (dw A e) (ep A e) (gK e) false:=by
 intro E g s bx mb ms u v rs hu hO hv;refine dn.mk (args:=[_,_]) (cap:=[]) call81 ?_;refine Ctr.freezeO (L:=[edP bx u mb ms false,mp mb (rs.map ak),mp ms []]) hO fun g1 hle1 hall=>?_;refine (qd E g1 s bx mb ms u v e A rs hA.fits hA.ids hall (hv.mono hle1) hpl).mono ?_;rintro r g' s' ⟨h1,h2,h3⟩;exact⟨hle1.trans h1,h2,h3⟩
theorem Bc {A:List Cl}(hA:Rt A)(e:Ed):jk (.func (.func 82) #[] #[]) e A (dH A e) (nP (nP A e.cell) e.other) (me A e) false:=by
 intro E g s bx mb ms u v rs hu hO hv;refine dn.mk (args:=[_,_]) (cap:=[]) call82 ?_;refine Ctr.freezeO (L:=[edP bx u mb ms false,mp mb (rs.map ak),mp ms []]) hO fun g1 hle1 hall=>?_;refine (qi E g1 s bx mb ms u v e A rs (hu.mono hle1) hA.fits hall (hv.mono hle1) (nu hA e) (jv hA e) (l5 hA e)).mono ?_;rintro r g' s' ⟨h1,h2,h3⟩;refine⟨hle1.trans h1,h2,?_⟩;by_cases h0:dH A e=0
 ·rw[if_pos h0] at h3 ⊢;obtain ⟨v1,p,n,c,hv1,rfl⟩:=h3;have ha:aj A e.cell=[e.other]:=by
   unfold dH at h0;split at h0
   ·split at h0
    ·rename_i h; exact h.1
    ·cases h0
   ·cases h0
  obtain ⟨cy,hcy,hi,hf,hh⟩:=hA.above_one ha;have hne:e.cell≠e.other:=fun he=>by
   have:=hA.not_self e.cell;rw[ha,he] at this;exact this (by simp)
  refine⟨mB (mB rs e.cell) e.other,_,((kj (fun _ _ h=>h.1) e.other (kj (fun _ _ h=>h.1) e.cell hall)).mono fun _ _=>aw.mono h1),?_,?_,tG hA e ha v1 (.slice none 0 0),I⟩
  ·intro t ht;simp at ht
   rcases ht with rfl | rfl
   ·have hS:br A e=cy.sides:=by unfold br; rw[hf]; rfl
    have h64:=jv hA e;refine⟨?_,?_,p,n,c,hv1⟩
    ·show (er A e).length<_;unfold er;rw[List.length_map];have:=List.length_eraseIdx_le (br A e) ((br A e).findIdx fun x=>decide (x.cell=e.cell));omega
    ·show ((er A e).map Prod.fst).Nodup;unfold er;rw[List.map_map];have hs:((br A e).eraseIdx ((br A e).findIdx fun x=>decide (x.cell=e.cell))).Sublist (br A e):=List.eraseIdx_sublist _ _;refine (hs.map Side.cell).nodup ?_;rw[hS];exact hA.difS hcy
   ·exact⟨by simp,List.nodup_nil,none,0,0,I⟩
  ·simpa using hne
 ·rw[if_neg h0] at h3 ⊢;exact h3
theorem vS {A:List Cl}{e:Ed}(h:gn A e=0):dZ A ⟨e.cell,e.dim,e.sides⟩=A++[⟨e.cell,e.dim,e.sides⟩]:=by
 refine mn fun x hx hxe=>?_;unfold gn at h;have h1:(aA A e.cell).isSome=true:=by
  unfold aA;rw[List.find?_isSome];exact⟨x,hx,by simpa using hxe⟩
 rw[h1] at h;cases h
theorem uq {A:List Cl}(hA:Rt A)(e:Ed)(hes:e.sides.length<1099511627776)(hpl:e.pairs.length<1099511627776)(hk:e.kind=1∨e.kind=2∨e.kind=3∨e.kind=4∨e.kind=5) :
  ∃ fv B,dK k4 e.kind=some fv∧jk fv e A (bZ A e) B (sk A e) (bkK e)∧(bZ A e=0→be B∧(B.map Cl.id).Nodup∧aR 0 B=aR 0 (cS A e)):=by
 unfold bZ sk bkK cS;have hs:(fun k:Int=>[(k,(1:Int))])=Bo:=rfl
 rcases hk with hk | hk | hk | hk | hk <;> simp only[hk] <;> simp only[Int.reduceEq,if_true,if_false,decide_true,decide_false]
 ·refine⟨_,dZ A ⟨e.cell,e.dim,e.sides⟩,I,(vR A e hes).gen,fun h0=>?_⟩;have hB:=vS h0;refine⟨?_,fk hA.ids,by rw[hB]⟩;rw[hB];have hl:=hA.few;refine⟨by rw[List.length_append,List.length_singleton]; omega,fun c hc=>?_⟩
  rcases List.mem_append.1 hc with hc | hc
  ·exact hA.fits.2 c hc
  ·simp at hc; subst hc; exact hes
 ·refine⟨_,nP A e.cell,I,(vn A hA.fits e).gen,fun h0=>?_⟩;rw[xx hA.ids];exact⟨fj hA.fits _,qE hA.ids _,I⟩
 ·refine⟨_,eR A e,I,xg hA e,fun h0=>?_⟩;exact⟨oh hA e h0,jL hA e,uF (t7 hA e h0) (jL hA e)⟩
 ·refine⟨_,ep A e,I,xU hA e hpl,fun h0=>?_⟩;exact⟨oC hA.fits e,jP hA e,uF (uv A e) (jP hA e)⟩
 ·refine⟨_,nP (nP A e.cell) e.other,I,Bc hA e,fun h0=>?_⟩;rw[xw hA.ids];exact⟨fj hA.fits _,qE hA.ids _,I⟩
theorem AY {e:Ed}(hk:¬ (e.kind=1∨e.kind=2∨e.kind=3∨e.kind=4∨e.kind=5)):dK k4 e.kind=none:=by
 unfold k4;simp only[cG,un]
 repeat' rw[if_neg oM]
theorem oI {A:List Cl}{e:Ed}(hk:¬ (e.kind=1∨e.kind=2∨e.kind=3∨e.kind=4∨e.kind=5)):bZ A e=1:=by
 unfold bZ;rw[if_neg oM,if_neg oM,if_neg oM,if_neg oM,if_neg oM]
theorem i6.congr {g0:PH}{code:Int}{D:List Cl}{ims ims':List (Int×List Tm)}{bk bk':Bool}{r:Value}{g:PH}(h:i6 g0 code D ims bk r g)(hi:code=0→ims=ims')(hb:code=0→bk=bk'):i6 g0 code D ims' bk' r g:=by
 obtain ⟨u,p,n,c,b,h1,h2,h3,h4⟩:=h;refine⟨u,p,n,c,b,h1,h2,fun h0=>?_,h4⟩;obtain ⟨h5,h6⟩:=h3 h0;rw[hi h0] at h6;exact⟨h5.trans (hb h0),h6⟩
theorem tj (E:World)(g:PH)(s:Own)(v ev:Value)(l:List Cl)(e:Ed)(hv:ao g v l)(hf:be l)(he:EdR g ev e)(hes:e.sides.length<1099511627776)(hpl:e.pairs.length<1099511627776) :
  Ctr Tryz.prog E 16 #[.agg #[v],ev] g s (fun r g' s'=>s=s'∧Le g g'∧i6 g (cQ l e).1 (cQ l e).2 (sj l e) (bkK e) r g'):=by
 by_cases hr:(aJ l).2=0
 ·have hA:=wj hr;have hap:cQ l e=aR (bZ (aa l) e) (cS (aa l) e):=if_pos hr;by_cases hk:e.kind=1∨e.kind=2∨e.kind=3∨e.kind=4∨e.kind=5
  ·obtain ⟨fv,B,h1,h2,h3⟩:=uq hA e hes hpl hk;have hout:aR (bZ (aa l) e) B=cQ l e:=by
    rw[hap];by_cases h0:bZ (aa l) e=0
    ·rw[h0]; exact (h3 h0).2.2
    ·unfold aR; rw[if_pos h0,if_pos h0]
   have h4:=vT E g s v ev l e hv hf he hr fv (bZ (aa l) e) B (bkK e) h1 (sk (aa l) e) h2 (fun h0=>⟨(h3 h0).1,(h3 h0).2.1⟩);refine h4.mono fun r g' s' ⟨h5,h6,h7⟩=>⟨h5,h6,?_⟩;rw[hout] at h7;refine h7.congr (fun h0=>?_) fun _=>I;have h8:aa B=(cQ l e).2:=by
    rw[← hout] at h0 ⊢;unfold aR at h0 ⊢;split at h0
    ·rename_i hh; exact absurd h0 hh
    ·rename_i hh;rw[if_neg hh];split at h0
     ·rename_i hh2; exact absurd h0 hh2
     ·rename_i hh2; rw[if_neg hh2]
   unfold sj;rw[h8]
  ·have hc1:=oI (A:=aa l) hk;have hout:cQ l e=(1,[]):=by rw[hap,hc1]; rfl
   rw[hout];exact oO E g s v ev l e hv hf he _ _ (.inl (AY hk))
 ·have hout:cQ l e=(1,[]):=if_neg hr;rw[hout];exact oO E g s v ev l e hv hf he _ _ (.inr hr)
theorem ow (E:World)(g:PH)(s:Own)(v ev:Value)(l:List Cl)(e:Ed)(hv:ao g v l)(hf:be l)(he:EdR g ev e)(hes:e.sides.length<1099511627776)(hpl:e.pairs.length<1099511627776) :
  Ctr Tryz.prog E 16 #[.agg #[v],ev] g s (fun r g' s'=>s=s'∧Le g g'∧e8 (cQ l e).1 (cQ l e).2 (sj l e) (bkK e) r g') :=
 (tj E g s v ev l e hv hf he hes hpl).mono fun _ _ _ ⟨h1,h2,h3⟩=>⟨h1,h2,h3.old⟩
theorem kx (E:World)(g:PH)(s:Own)(v ev:Value)(l:List Cl)(e:Ed)(hv:ao g v l)(hf:be l)(he:EdR g ev e)(hes:e.sides.length<1099511627776)(hpl:e.pairs.length<100000000000) :
  Ctr Tryz.prog E 37 #[.agg #[v],ev] g s (fun r g' s'=>s=s'∧Le g g'∧e8 (cQ l e).1 (cQ l e).2 (sj l e) (bkK e) r g'):=by
 by_cases hr:(aJ l).2=0
 ·have hA:=wj hr;have hAf:=hA.fits;have hap:cQ l e=aR (bZ (aa l) e) (cS (aa l) e):=if_pos hr;by_cases hk:e.kind=1∨e.kind=2∨e.kind=3∨e.kind=4∨e.kind=5
  ·have hfin:∀ (D:List Cl) (ims:List (Int×List Tm)) (bk:Bool) (r:Value) (g':PH),D=(if bZ (aa l) e=0 then cS (aa l) e else aa l)→(bZ (aa l) e=0→ims=(if bkK e then am (cS (aa l) e) else aa l).map fun c=>(c.id,sk (aa l) e c.id))→(bZ (aa l) e=0→bk=bkK e)→(bkK e=true→bZ (aa l) e=0→am (cS (aa l) e)=aa (cS (aa l) e)) →
     e8 (aR (bZ (aa l) e) D).1 (aR (bZ (aa l) e) D).2 ims bk r g'→e8 (cQ l e).1 (cQ l e).2 (sj l e) (bkK e) r g':=fun D ims bk r g' hD hi hb ht h7=>by
    have hout:aR (bZ (aa l) e) D=cQ l e:=by
     rw[hap,hD];by_cases h0:bZ (aa l) e=0
     ·rw[if_pos h0]
     ·unfold aR; rw[if_pos h0,if_pos h0]
    rw[hout] at h7;have hc0:(cQ l e).1=0→bZ (aa l) e=0∧(cQ l e).2=aa (cS (aa l) e):=fun h0=>by
     rw[hap] at h0 ⊢;unfold aR at h0 ⊢;split at h0
     ·rename_i hh; exact absurd h0 hh
     ·rename_i hh;rw[if_neg hh];split at h0
      ·rename_i hh2; exact absurd h0 hh2
      ·rename_i hh2; rw[if_neg hh2]; exact⟨Decidable.not_not.1 hh,rfl⟩
    refine h7.congr (fun h0=>?_) fun h0=>hb (hc0 h0).1;obtain ⟨q1,q2⟩:=hc0 h0;rw[hi q1];unfold sj;rw[q2];cases hbk:bkK e with
    | false=>rfl
    | true=>rw[if_pos rfl,if_pos rfl,ht hbk q1]
   have hDf:be (if bZ (aa l) e=0 then cS (aa l) e else aa l):=by
    obtain ⟨fv,B,h1,h2,h3⟩:=uq hA e hes oM hk;split
    ·rename_i h0
     rcases hk with hk | hk | hk | hk | hk <;> unfold cS <;> simp only[hk] <;> simp only[Int.reduceEq,if_true,if_false]
     ·have hl:=hA.few;refine⟨by rw[List.length_append,List.length_singleton]; omega,fun c hc=>?_⟩
      rcases List.mem_append.1 hc with hc | hc
      ·exact hAf.2 c hc
      ·simp at hc; subst hc; exact hes
     ·exact fj hAf _
     ·have h0':a6 (aa l) e=0:=by unfold bZ at h0; simp only[hk] at h0; simpa using h0
      exact (t7 hA e h0').fits (oh hA e h0')
     ·exact (uv _ e).fits (oC hAf e)
     ·exact fj hAf _
    ·exact hAf
   rcases hk with hk | hk | hk | hk | hk
   ·have hcd:bZ (aa l) e=gn (aa l) e:=by unfold bZ; rw[if_pos hk]
    have hck:cS (aa l) e=aa l++[⟨e.cell,e.dim,e.sides⟩]:=by unfold cS; rw[if_pos hk]
    have h:=fK E g s v ev l e (bZ (aa l) e) (if bZ (aa l) e=0 then cS (aa l) e else aa l) ((am (aa l)).map fN) false hv hf he hr hDf (.inl hk)
     (fun _ E g s v ev hv he=>by rw[hck]; exact nY E g s v ev (aa l) e hv hAf he hes (bZ (aa l) e) (by rw[hcd,hA.findC]; rfl))
     (fun h=>by omega) (fun h=>by omega) (fun h=>by omega) (fun h=>by omega)
    refine h.mono fun r g' s' ⟨h5,h6,h7⟩=>⟨h5,h6,hfin _ _ _ _ _ I (fun _=>?_) (fun _=>?_) (fun hb=>?_) h7⟩
    ·have hb:bkK e=false:=by unfold bkK; rw[hk]; rfl
     rw[hb,hA.tab];refine List.map_congr_left fun c _=>?_;unfold sk;rw[if_neg oM,if_neg oM,if_neg oM];rfl
    ·unfold bkK; rw[hk]; rfl
    ·unfold bkK at hb; rw[hk] at hb; cases hb
   ·have hcd:bZ (aa l) e=jC (aa l) e:=by unfold bZ; rw[if_neg oM,if_pos hk]
    have hck:cS (aa l) e=dj (aa l) [e.cell]:=by unfold cS; rw[if_neg oM,if_pos hk]
    have h:=fK E g s v ev l e (bZ (aa l) e) (if bZ (aa l) e=0 then cS (aa l) e else aa l) ((am (dj (aa l) [e.cell])).map fN) (decide (bZ (aa l) e=0)) hv hf he hr hDf (.inr (.inl hk))
     (fun h=>by omega)
     (fun _ E g s v ev hv he=>by rw[hck]; exact nX E g s v ev (aa l) e hv hAf he (bZ (aa l) e) (by rw[hcd,hA.findC]; rfl))
     (fun h=>by omega) (fun h=>by omega) (fun h=>by omega)
    have hb:bkK e=true:=by unfold bkK; rw[hk]; rfl
    refine h.mono fun r g' s' ⟨h5,h6,h7⟩=>⟨h5,h6,hfin _ _ _ _ _ I (fun _=>?_) (fun h0=>?_) (fun hb h0=>?_) h7⟩
    ·rw[hb,if_pos rfl,hck];refine List.map_congr_left fun c _=>?_;unfold sk;rw[if_neg oM,if_neg oM,if_neg oM];rfl
    ·rw[hb]; exact decide_eq_true h0
    ·rw[hck,(qF hA _).1,(qF hA _).2]
   ·have hcd:bZ (aa l) e=bB (aa l) e:=by unfold bZ; rw[if_neg oM,if_neg oM,if_pos hk,rN hA]
    have hck:cS (aa l) e=eI (aa l) e:=by unfold cS; rw[if_neg oM,if_neg oM,if_pos hk]
    have h:=fK E g s v ev l e (bZ (aa l) e) (if bZ (aa l) e=0 then cS (aa l) e else aa l) (((am (aa l)).map fN).map (cI e.cell (bQ e))) false hv hf he hr hDf (.inr (.inr (.inl hk)))
     (fun h=>by omega) (fun h=>by omega)
     (fun _ E g s v ev hv he=>by
      rw[hck,hcd];refine pY E g s v ev (aa l) e hv hAf he (by have:=hA.few; omega) (fun c hc=>hA.few64 hc) ?_;intro c hc hd;rw[hA.findC] at hc;exact hA.edge (gv hc).1 hd)
     (fun h=>by omega) (fun h=>by omega)
    have hb:bkK e=false:=by unfold bkK; rw[hk]; rfl
    refine h.mono fun r g' s' ⟨h5,h6,h7⟩=>⟨h5,h6,hfin _ _ _ _ _ I (fun _=>?_) (fun _=>hb.symm) (fun hb2=>by rw[hb] at hb2; cases hb2) h7⟩;rw[hb,rM hA];refine List.map_congr_left fun c _=>?_;unfold sk;rw[if_pos hk]
   ·have hcd:bZ (aa l) e=c4 (aa l) e:=by unfold bZ; rw[if_neg oM,if_neg oM,if_neg oM,if_pos hk,lT hA]
    have hck:cS (aa l) e=fo (aa l) e:=by unfold cS; rw[if_neg oM,if_neg oM,if_neg oM,if_pos hk]
    have h:=fK E g s v ev l e (bZ (aa l) e) (if bZ (aa l) e=0 then cS (aa l) e else aa l) (eZ e.pairs ((am (aa l)).map fN)) false hv hf he hr hDf (.inr (.inr (.inr (.inl hk))))
     (fun h=>by omega) (fun h=>by omega) (fun h=>by omega)
     (fun _ E g s v ev hv he=>by
      rw[hck,hcd];refine mw E g s v ev (aa l) e hv hAf he hpl ?_;intro id;unfold il;rw[hA.findC]
      rcases hA.getD id with h1 | h1
      ·rw[h1]; decide
      ·exact hAf.2 _ h1)
     (fun h=>by omega)
    have hb:bkK e=false:=by unfold bkK; rw[hk]; rfl
    refine h.mono fun r g' s' ⟨h5,h6,h7⟩=>⟨h5,h6,hfin _ _ _ _ _ I (fun h0=>?_) (fun _=>hb.symm) (fun hb2=>by rw[hb] at hb2; cases hb2) h7⟩;rw[hcd,lT hA] at h0;rw[hb,rX hA e (xV h0)];refine List.map_congr_left fun c _=>?_;unfold sk;rw[if_neg oM,if_pos hk]
   ·have hcd:bZ (aa l) e=cq (aa l) e:=by unfold bZ; rw[if_neg oM,if_neg oM,if_neg oM,if_neg oM,if_pos hk,oH hA]
    have hck:cS (aa l) e=dj (aa l) [e.cell,e.other]:=by unfold cS; rw[if_neg oM,if_neg oM,if_neg oM,if_neg oM]
    have hgs:((findC (aa l) e.other).getD bA).sides=br (aa l) e:=by rw[hA.findC]; rfl
    have h:=fK E g s v ev l e (bZ (aa l) e) (if bZ (aa l) e=0 then cS (aa l) e else aa l) ((((am (aa l)).map fN).map (cI e.cell (cJ (aa l) e))).map (cI e.other [])) false hv hf he hr hDf (.inr (.inr (.inr (.inr hk))))
     (fun h=>by omega) (fun h=>by omega) (fun h=>by omega) (fun h=>by omega)
     (fun _ E g s v ev hv he=>by
      rw[hck,hcd];refine my E g s v ev (aa l) e hv hAf he ?_ ?_
      ·rw[hgs]; exact nu hA e
      ·rw[hgs]; exact jv hA e)
    have hb:bkK e=false:=by unfold bkK; rw[hk]; rfl
    refine h.mono fun r g' s' ⟨h5,h6,h7⟩=>⟨h5,h6,hfin _ _ _ _ _ I (fun h0=>?_) (fun _=>hb.symm) (fun hb2=>by rw[hb] at hb2; cases hb2) h7⟩;rw[hcd,oH hA] at h0;have ha:aj (aa l) e.cell=[e.other]:=by
     unfold dH at h0;split at h0
     ·split at h0
      ·rename_i h; exact h.1
      ·cases h0
     ·cases h0
    rw[hb,vM hA e ha];refine List.map_congr_left fun c _=>?_;unfold sk;rw[if_neg oM,if_neg oM,if_pos hk]
  ·have hc1:=oI (A:=aa l) hk;have hout:cQ l e=(1,[]):=by rw[hap,hc1]; rfl
   rw[hout];exact pZ E g s v ev l e _ _ hv hf he hr oM oM oM oM oM
 ·have hout:cQ l e=(1,[]):=if_neg hr;rw[hout];exact rU E g s v ev l e _ _ hv hf he hr
theorem tK {code:Int}{B:List Cl}(h:(aR code B).1=0):Rt (aR code B).2∧code=0∧(aR code B).2=aa B:=by
 unfold aR at h ⊢;split at h
 ·rename_i h1; exact absurd h h1
 ·rename_i h1;rw[if_neg h1];split at h
  ·rename_i h2; exact absurd h h2
  ·rename_i h2;rw[if_neg h2];have h3:=wj (Decidable.not_not.1 h2);rw[j7] at h3;exact⟨h3,Decidable.not_not.1 h1,I⟩
theorem sF {l:List Cl}{e:Ed}(h:(cQ l e).1=0):Rt (cQ l e).2∧(aJ l).2=0∧bZ (aa l) e=0∧(cQ l e).2=aa (cS (aa l) e):=by
 unfold cQ at h ⊢;split at h
 ·rename_i h1;rw[if_pos h1];obtain ⟨h2,h3,h4⟩:=tK h;exact⟨h2,h1,h3,h4⟩
 ·cases h
theorem uG {l:List Cl}{e:Ed}(h:(cQ l e).1≠0):(cQ l e).2=[]:=by
 unfold cQ at h ⊢;split at h
 ·rename_i h1;rw[if_pos h1];unfold aR at h ⊢;split at h
  ·rename_i h2; rw[if_pos h2]
  ·rename_i h2;rw[if_neg h2];split at h
   ·rename_i h3; rw[if_pos h3]
   ·exact absurd I h
 ·rename_i h1; rw[if_neg h1]
theorem jf (l:List Cl)(e:Ed):be (cQ l e).2:=by
 by_cases h:(cQ l e).1=0
 ·exact (sF h).1.fits
 ·rw[uG h]; exact⟨by simp,by simp⟩
theorem zR (l:List Cl)(e:Ed):(cQ l e).2.length≤4000:=by
 by_cases h:(cQ l e).1=0
 ·exact (sF h).1.few
 ·rw[uG h]; simp
set_option maxHeartbeats 4000000
theorem vG (E:World)(g:PH)(s:Own)(v:Value)(l:List Cl)(hv:ao g v l)(hf:be l) :
  Ctr Tryz.prog E 39 #[.agg #[v]] g s (fun r g' s'=>s=s'∧g=g'∧∃ n:Int,r=vi n):=by
 obtain ⟨rs,hrs,hall⟩:=hv;have hfl:=hf.1;have hlen:=hall.length;obtain ⟨p,c,rfl⟩:=SlA.form hrs;refine Ctr.of (args:=[.agg #[.slice p rs.length c]]) func39 I ntmps39 (bE I) ?_;refine rZ (bW (bO I) fun b1=>?_);refine aT I (rZ (aT I (sQ (rZ (aT I (bK ?_))))));refine oP (ι:=Nat×Int) (fun k=>[(1,pp b1 0),(3,vi k.2),(4,vi k.1)]) (fun _=>g) (fun _=>pt b1 (.cells #[.slice p rs.length c] 29 (0,0))::s)
  (fun k=>k.1≤rs.length) (fun k=>rs.length - k.1) (0,1) sB rfl rfl (Nat.zero_le _) ?_
 rintro ⟨k,n⟩ hk;dsimp only at hk ⊢;refine sQ (sW I (lU (fA c8 I cj I) (lK (qL (v:=.slice p rs.length c) dS I (cO 0 I I)) (lU (eN aH I) (lU (lS I I) (tZ ?_))))));refine iP I (fun hlt=>?_) (fun hlt=>?_)
 ·have hkr:k<rs.length:=oM;have hb1:=SlA.based hrs oM;have hgx:rs[((k:Nat):Int).toNat]?=some rs[k]:=gE hkr;generalize rs[k]=x at *;refine kP (tN (sQ (bK (rG (lM I (lU (fA c8 I cj I) (lK (qL (v:=.slice p rs.length c) dS I (cO 0 I I)) (lM I (lU (iA aH au I I hb1 oM sL) (lU (fC aq I zT3 I hb1) (lK (aZ (e:=encCell) (o:=0) (u:=vi x.id) iT3 I (SlA.rd hrs) hgx I) (lU (SU.addW I I) (lU (SU.maxI I I) (lA I (nL (bN (tN (rG (lM I (lU (aD I I oM) (lA I (nL ?_))))))))))))))))))))));exact gA (k+1,_) sB I I (by dsimp only; omega) (by dsimp only; omega)
 ·refine xI (tX (tX (bX (tN (sW I (aT I (rE (dR (s':=s) uR ?_))))))));exact ST.ret1 (.inl I) results39 I ⟨I,I,_,I⟩
theorem dp (E:World)(g:PH)(s:Own)(v:Value)(l:List Int)(n:Int)(hv:dJ g v l)(hl:l.length<1099511627776) :
  Ctr Tryz.prog E 40 #[v,vi n] g s (fun r g' s'=>s=s'∧g=g'∧∃ n:Int,r=vi n):=by
 obtain ⟨p,c,rfl⟩:=SlA.form hv;refine Ctr.of (args:=[.slice p l.length c,vi n]) func40 I ntmps40 (bE I) ?_;refine rZ (aT I (sQ (sW I (lU (eN aI I) (lU (eQ I I) (tZ ?_))))));refine iP I (fun h0=>?_) (fun h0=>?_)
 ·refine rZ (aT I (rE (tR ?_)));exact ST.ret1 (.inl I) results40 I ⟨I,I,_,I⟩
 ·obtain ⟨hm1,hm2⟩:=pg n l.length oM oM;have hb:=SlA.based hv oM;have hgm:l[(cY n l.length).toNat]?=some l[(cY n l.length).toNat]:=gE hm2;generalize l[(cY n l.length).toNat]=y at *;refine kP (tN (sW I (lM I (lM I (lU (eN aI I) (lW (cL kp I (bI E g _ n l.length oM)) ?_))))));rintro _ _ _ ⟨rfl,rfl,rfl⟩;rw[hm1];refine lU (iA aI zT3 I I hb oM sL) (lK (eB (u:=vi y) iT3 I (SlA.rd hv) hgm I) (aT I (rE ?_)));exact ST.ret1 (.inl I) results40 I ⟨I,I,_,I⟩
theorem xN (l:List Int):decide ((l.length:Int)=0)=decide (l=[]):=by
 rw[Bool.eq_iff_iff,decide_eq_true_iff,decide_eq_true_iff];exact⟨fun h=>List.eq_nil_of_length_eq_zero oM,fun h=>by rw[h]; rfl⟩
def kT (l:List Cl)(id:Int):Bool:=match aj l id with
 | [m]=>decide (aj l m=[])
 | _=>false
theorem tC (E:World)(g:PH)(s:Own)(v:Value)(l:List Cl)(hv:ao g v l)(hf:be l) :
  Ctr Tryz.prog E 44 #[.agg #[v]] g s (fun r g' s'=>s=s'∧Le g g'∧∃ ps:List Pr,SlA dB g' r ps∧ps.length<1099511627776):=by
 have hv0:=hv;obtain ⟨rs,hrs,hall⟩:=hv;have hfl:=hf.1;have hlen:=hall.length;obtain ⟨p,c,rfl⟩:=SlA.form hrs;refine Ctr.of (args:=[.agg #[.slice p rs.length c]]) func44 I ntmps44 (bE I) ?_;refine rZ (bW (bO I) fun b1=>?_);refine aT I (rZ (aT I (sQ (rZ (aT I (bK (SC.nilRow 60 2 ?_)))))));refine oP (ι:=Nat×PH×Value×List Pr) (fun i=>[(1,pp b1 0),(3,i.2.2.1),(4,vi i.1)]) (fun i=>i.2.1) (fun i=>rowA dB 60 i.2.2.1 i.2.2.2::pt b1 (.cells #[.slice p rs.length c] 29 (0,0))::s)
  (fun i=>i.1≤rs.length∧Le g i.2.1∧i.2.2.2.length≤i.1) (fun i=>rs.length - i.1) (0,g,.slice none 0 0,[]) sB rfl rfl ⟨Nat.zero_le _,Le.refl _,Nat.zero_le _⟩ ?_
 rintro ⟨k,g1,ov,acc⟩ ⟨hk,hle1,hal⟩;dsimp only at hk hle1 hal ⊢;refine sQ (sW I (lU (fA c8 I cj I) (lK (qL (v:=.slice p rs.length c) dS I (cO 1 I I)) (lU (eN aH I) (lU (lS I I) (tZ ?_))))));refine iP I (fun hlt=>?_) (fun hlt=>?_)
 ·have hkr:k<rs.length:=oM;have hb1:=SlA.based hrs oM;have hrs1:=SlA.mono hrs hle1;have hv1:=hv0.mono hle1;have hgx:rs[((k:Nat):Int).toNat]?=some rs[k]:=gE hkr;generalize rs[k]=x at *;have hal2:(aj l x.id).length<1099511627776:=Nat.lt_of_le_of_lt (by unfold aj; rw[List.length_map]; exact List.length_filter_le _ _) (bJ hf).1;refine kP (tN (sQ (bK (sQ ?_))));refine dW [] [(0,1),(1,2),(2,1),(3,2),(4,2),(5,2),(6,1),(7,0),(8,2)] Tryz.mixed kR ?_;refine pK I (qV 1 ar ag I I I) (pU I (fA c8 I cj I) (pK I (qL (v:=.slice p rs.length c) dS I (cO 1 I I)) (pU I (mV I) (pU I (iA aH au I I hb1 oM sL) (pU I (fC aq I zT3 I hb1) (pK I (aZ (e:=encCell) (o:=0) (u:=vi x.id) iT3 I (SlA.rd hrs1) hgx I) (SP.o I (cL call77 I (dh E g1 _ _ l x.id hv1 hf)) dC (.inr iR) ?_)))))));rintro _ g2 _ ⟨rfl,hle2,ha2⟩;obtain ⟨q2,d2,rfl⟩:=SlA.form ha2;have hv2:=hv1.mono hle2;have hrs2:=SlA.mono hrs1 hle2;refine pU I (aS I) (pN (tN ?_));refine SC.cut (ι:=PH) (fun _=>[(1,pp b1 0),(3,ov),(4,vi k),(5,.slice q2 (aj l x.id).length d2),(32,vb (kT l x.id))]) (fun g'=>g') (fun _=>rowA dB 60 ov acc::pt b1 (.cells #[.slice p rs.length c] 29 (0,0))::s) (fun g'=>Le g2 g') ?_ ?_
  ·by_cases h1:(aj l x.id).length=1
   ·obtain ⟨m,hm⟩:∃ m,aj l x.id=[m]:=by
     match hq:aj l x.id,h1 with
     | [m],_=>exact⟨m,rfl⟩
    have hfb:kT l x.id=decide (aj l m=[]):=by unfold kT; rw[hm]
    have hb2:=SlA.based ha2 oM;have hg0:(aj l x.id)[((0:Nat):Int).toNat]?=some m:=by rw[hm]; rfl
    refine SC.drawX [] Tryz.mixed kR ?_;refine SX.u (i:=0) I kR (mV I) dC (SX.u (i:=1) I kR (eN aI I) dC (SX.u (i:=2) I kR (SU.eq (v':=vb true) (eQ I I) (congrArg vb (decide_eq_true oM))) dC (SX.u (i:=3) I kR (mV I) dC (SX.gq (i:=4) I kR (gT I I I dC) (qV 1 ar ag I I I) dC (SX.gu (i:=5) I kR (gT I I I dC) (mV I) dC (SX.gu (i:=6) I kR (gT I I I dC) (iA (i:=0) aI zT3 I I hb2 dC (show (0:Int)<(((aj l x.id).length:Nat):Int) by omega)) dC ?_))))));refine SX.gq (i:=7) I kR (gT I I I dC) (eB iT3 I (SlA.rd ha2) hg0 I) dC ?_;refine SX.br1 8 kR ?_
    ·refine SB.go (i:=8) I (gT I I I dC) (cL call77 I (dh E g2 _ _ l m hv2 hf)) dC (.inr iR) ?_;rintro _ g3 _ ⟨rfl,hle3,ha3⟩;obtain ⟨q3,d3,rfl⟩:=SlA.form ha3;refine SX.gu (i:=9) I kR (gT I I I dC) (eN aI I) dC (SX.gu (i:=10) I kR (gT I I I dC) (SU.eq (v':=vb (decide (aj l m=[]))) (eQ I I) (congrArg vb (xN _))) dC (SX.u (i:=11) I kR (wT I I) dC (SX.nil kR ?_)));exact ST.mid g3 ⟨rfl,rfl,rfl,rfl,(by rw[hfb]; rfl),trivial⟩ rfl rfl hle3
   ·have hfb:kT l x.id=false:=by
     unfold kT;split
     ·rename_i m hm; rw[hm] at h1; exact absurd rfl h1
     ·rfl
    refine SC.drawX [] Tryz.mixed kR ?_;refine SX.u (i:=0) I kR (mV I) dC (SX.u (i:=1) I kR (eN aI I) dC (SX.u (i:=2) I kR (SU.eq (v':=vb false) (eQ I I) (congrArg vb (decide_eq_false oM))) dC (SX.u (i:=3) I kR (mV I) dC (SX.off (i:=4) I kR (gZ I I I dC) dC (SX.off (i:=5) I kR (gZ I I I dC) dC (SX.off (i:=6) I kR (gZ I I I dC) dC (SX.off (i:=7) I kR (gZ I I I dC) dC ?_)))))));refine SX.br1 8 kR ?_
    ·refine SB.offo (i:=8) I (gZ I I I dC) dC ⟨by exact Le.refl _,(by exact .refl _)⟩ ?_;refine SX.off (i:=9) I kR (gZ I I I dC) dC (SX.off (i:=10) I kR (gZ I I I dC) dC (SX.u (i:=11) I kR (wF I I) dC (SX.nil kR ?_)));exact ST.mid g2 ⟨rfl,rfl,rfl,rfl,(by rw[hfb]; rfl),trivial⟩ rfl rfl (Le.refl _)
  rintro g3 hle3;try dsimp only at hle3 ⊢
  have hle13:=hle1.trans (hle2.trans hle3);refine iQ I (fun hb=>?_) (fun hb=>?_)
  ·obtain ⟨m,hm,hm0⟩:∃ m,aj l x.id=[m]∧aj l m=[]:=by
    unfold kT at hb;split at hb
    ·rename_i m hm; exact⟨m,hm,of_decide_eq_true hb⟩
    ·cases hb
   have hb2:=SlA.based ha2 (by rw[hm]; simp);have hg0:(aj l x.id)[((0:Nat):Int).toNat]?=some m:=by rw[hm]; rfl
   have hl1:(aj l x.id).length=1:=by rw[hm]; rfl
   refine dW [12] [(0,2),(1,2),(2,1),(3,2),(4,2),(5,2),(6,1),(7,2),(8,2),(9,1),(10,2),(11,0),(12,0),(13,2)] Tryz.mixed kR ?_;refine pU I (mV I) (pU I (fA c8 I cj I) (pK I (qL (v:=.slice p rs.length c) dS I (cO 1 I I)) (pU I (mV I) (pU I (iA aH au I I hb1 oM sL) (pU I (fC aq I zT3 I hb1) (pK I (aZ (e:=encCell) (o:=0) (u:=vi x.id) iT3 I (SlA.rd (SlA.mono hrs2 hle3)) hgx I) (pU I (mV I) (pU I (iA (i:=0) aI zT3 I I hb2 dC (show (0:Int)<(((aj l x.id).length:Nat):Int) by omega)) ?_))))))));refine pK I (eB iT3 I (SlA.rd (SlA.mono ha2 hle3)) hg0 I) (pU I (SU.build I (build60 _ _)) (SP.o I (bS sty33 I I I (ae ⟨I,trivial⟩) dC) dC (.inr iR) ?_));rintro _ _ _ ⟨b44,rfl,rfl,rfl⟩;refine SP.o I (aP (e:=dB) (l:=acc) 0 (x.id,m) sty33 I I I I I oM oM) dC (.inl dC) ?_;rintro ov' _ _ ⟨rfl,rfl⟩;refine pU I (aS I) (pN (bN (tN (rG (lM I (lU (aD I I oM) (lA I (nL ?_))))))));exact gA (k+1,g3,ov',acc++[(x.id,m)]) sB I I ⟨by dsimp only; omega,hle13,by dsimp only; rw[List.length_append,List.length_singleton]; omega⟩ (by dsimp only; omega)
  ·refine kP (bN (tN (rG (lM I (lU (aD I I oM) (lA I (nL ?_)))))));exact gA (k+1,g3,ov,acc) sB I I ⟨by dsimp only; omega,hle13,by dsimp only; omega⟩ (by dsimp only; omega)
 ·refine xI (tX (tX (bX (tN (sQ (fS fun g2 hle2 hs2=>?_))))));obtain ⟨q0,d0,rfl⟩:=Sl.form hs2;refine rG (lM I (aT I (rE (dR (s':=s) uR ?_))));exact ST.ret1 (.inl I) results44 I ⟨I,hle1.trans hle2,acc,hs2,oM⟩
theorem vY (E:World)(g:PH)(s:Own)(v:Value)(l:List Cl)(n:Int)(hv:ao g v l)(hf:be l) :
  Ctr Tryz.prog E 43 #[.agg #[v],vi n] g s (fun r g' s'=>∃ ps:List Pr,s'=rowA dB 60 r ps::s∧Le g g'∧ps.length≤1):=by
 obtain ⟨rs,hrs,hall⟩:=hv;have hfl:=hf.1;have hlen:=hall.length;obtain ⟨p,c,rfl⟩:=SlA.form hrs;refine Ctr.of (args:=[.agg #[.slice p rs.length c],vi n]) func43 I ntmps43 (bE I) ?_;refine rZ (bW (bO I) fun b2=>?_);refine aT I (rZ (lU (fA c8 I cj I) (lK (qL (v:=.slice p rs.length c) dS I (cO 0 I I)) (lU (eN aH I) (aT I (sQ (rZ (aT I (bK ?_)))))))));refine oP (ι:=Nat) (fun k=>[(1,vi n),(2,pp b2 0),(5,vi rs.length),(6,vi k)]) (fun _=>g) (fun _=>pt b2 (.cells #[.slice p rs.length c] 29 (0,0))::s)
  (fun k=>k≤rs.length) (fun k=>rs.length - k) 0 sB rfl rfl (Nat.zero_le _) ?_
 rintro k hk;try dsimp only at hk ⊢
 refine sQ (sW I (lM I (lU (lS I I) (tZ ?_))));refine iP I (fun hlt=>?_) (fun hlt=>?_)
 ·have hb1:=SlA.based hrs oM;obtain ⟨hm1,hm2⟩:=pg (IntKind.i64.wrap (k+n)) rs.length oM oM;have hgx:rs[(cY (IntKind.i64.wrap (k+n)) rs.length).toNat]?=some rs[(cY (IntKind.i64.wrap (k+n)) rs.length).toNat]:=gE hm2;have hcx:=hall.get (gE (show (cY (IntKind.i64.wrap (k+n)) rs.length).toNat<l.length by omega)) hgx;have hxl:=hf.2 _ (gM (show (cY (IntKind.i64.wrap (k+n)) rs.length).toNat<l.length by omega));generalize l[(cY (IntKind.i64.wrap (k+n)) rs.length).toNat]'oM=cx at *;generalize rs[(cY (IntKind.i64.wrap (k+n)) rs.length).toNat]=x at *;obtain ⟨xi,xd,xp,xn,xc⟩:=x;obtain ⟨f1,f2,hxs⟩:=hcx;dsimp only at f1 f2 hxs;subst f1 f2;refine kP (tN (sQ (bK ?_)));refine SC.cut (ι:=Nat) (fun b=>[(1,vi n),(2,pp b2 0),(5,vi rs.length),(6,vi k),(7,pp b 0)]) (fun _=>g) (fun b=>pt b (.cells #[vi cx.id,vi cx.dim,.slice xp xn xc] 53 (0,0))::pt b2 (.cells #[.slice p rs.length c] 29 (0,0))::s) (fun _=>True) ?_ ?_
  ·refine SC.drawX [10] Tryz.mixed kR ?_;refine SX.u (i:=0) I kR (fA c8 I cj I) dC (SX.q (i:=1) I kR (qL (v:=.slice p rs.length c) dS I (cO (by exact 0) I I)) dC ?_);refine SX.u (i:=2) I kR (mV I) dC (SX.u (i:=3) I kR (mV I) dC (SX.u (i:=4) I kR (SU.addW I I) dC (SX.u (i:=5) I kR (mV I) dC ?_)))
   repeat' (first
    | (refine SB.o (i:=6) rfl (cL kp rfl (bI E g _ _ rs.length oM)) dC (.inr (by rintro _ _ _ ⟨rfl,rfl,rfl⟩; exact⟨by exact Le.refl _,(by exact .cons _ (.refl _))⟩)) ?_; rintro _ _ _ ⟨rfl,rfl,rfl⟩; rw[hm1]; refine SX.u (i:=7) rfl kD (iA aH au rfl rfl hb1 oM sL) dC ?_; refine SX.q (i:=8) rfl kD (eA du au rfl (SlA.rd hrs) hgx) dC ?_)
    | (refine SB.o (i:=6) rfl (cL kp rfl (bI E g _ _ rs.length oM)) dC (.inr (by rintro _ _ _ ⟨rfl,rfl,rfl⟩; exact⟨by exact Le.refl _,(by exact .refl _)⟩)) ?_; rintro _ _ _ ⟨rfl,rfl,rfl⟩; rw[hm1]; refine SX.u (i:=7) rfl kD (iA aH au rfl rfl hb1 oM sL) dC ?_; refine SX.q (i:=8) rfl kD (eA du au rfl (SlA.rd hrs) hgx) dC ?_)
    | (refine SB.o (i:=9) rfl (aL zeroValue53) dC (.inr (by rintro _ _ _ ⟨b7,rfl,rfl,rfl⟩; exact⟨by exact Le.refl _,(by exact .cons _ (.refl _))⟩)) ?_; rintro _ _ _ ⟨b7,rfl,rfl,rfl⟩)
    | (refine SB.on (i:=10) rfl (sK 0 au rfl rfl rfl rfl rfl sB) (.inl dC) ?_; rintro _ _ _ ⟨rfl,rfl⟩)
    | refine SX.br2 6 9 kD ?_ ?_
    | refine SX.br1 9 kD ?_
    | refine SX.br1 10 kD ?_
    | refine SX.br1 6 kD ?_
    | (refine SX.nil kD ?_; exact ST.mid b7 sB rfl rfl trivial))
  rintro b7 -;try dsimp only
  clear hm1 hm2;refine rZ (aT I (bK ?_));refine oP (ι:=Nat) (fun j=>[(1,vi n),(2,pp b2 0),(5,vi rs.length),(6,vi k),(7,pp b7 0),(8,vi j)]) (fun _=>g) (fun _=>pt b7 (.cells #[vi cx.id,vi cx.dim,.slice xp xn xc] 53 (0,0))::pt b2 (.cells #[.slice p rs.length c] 29 (0,0))::s)
   (fun j=>j≤rs.length) (fun j=>rs.length - j) 0 sB rfl rfl (Nat.zero_le _) ?_
  rintro j hj;try dsimp only at hj ⊢
  refine sQ (sW I (lM I (lU (lS I I) (tZ ?_))));refine iP I (fun hlt2=>?_) (fun hlt2=>?_)
  ·have hjr:j<rs.length:=oM;have hjl:j<l.length:=oM;have hgy:rs[((j:Nat):Int).toNat]?=some rs[j]:=gE hjr;have hcy:=hall.get (gE hjl) (gE hjr);have hyl:=hf.2 _ (gM hjl);generalize l[j]=cy at *;generalize rs[j]=y at *;obtain ⟨yi,yd,yp,yn,yc⟩:=y;obtain ⟨f1,f2,hys⟩:=hcy;dsimp only at f1 f2 hys;subst f1 f2;refine kP (tN (sQ (bK (rZ (lU (fA c8 I cj I) (lK (qL (v:=.slice p rs.length c) dS I (cO 1 I I)) (lM I (lU (iA aH au I I hb1 oM sL) (lK (eA du au I (SlA.rd hrs) hgy) (bW (aL zeroValue53) fun b9=>?_))))))))));refine oZ (sK 0 au I I I I I sB) ?_;refine tZ ?_;refine SC.cutB 60 (decide (cx.id≠cy.id)&&decide (cx.dim=cy.dim)&&decide (cx.dim>0)&&decide (gU cx.sides=gU cy.sides)) ?_ ?_
   ·refine rG (lU (fA aq I zT3 I) (lK (qL (v:=vi cx.id) iT3 I (cO 1 I I)) (lU (fA aq I zT3 I) (lK (qL (v:=vi cy.id) iT3 I (cO 0 I I)) (lU (nQ I I) (lM I ?_))))));refine sP ?_ ?_
    ·intro h42;refine lY I I I (fA aq I zT3 I) (SL.gq (gT I I I dC) (qL (v:=vi cx.dim) iT3 I (cO 1 I I)) dC (lY I I I (fA aq I zT3 I) (SL.gq (gT I I I dC) (qL (v:=vi cy.dim) iT3 I (cO 0 I I)) dC (lY I I I (eQ I I) (lU (wT I I) (lM I ?_))))));refine sP ?_ ?_
     ·intro h49;refine lY I I I (fA aq I zT3 I) (SL.gq (gT I I I dC) (qL (v:=vi cx.dim) iT3 I (cO 1 I I)) dC (lY I I I (gR I I) (lU (wT I I) (lM I ?_))));refine sP ?_ ?_
      ·intro h54;refine lY I I I (fA aq I aU I) (SL.gq (gT I I I dC) (qL (v:=.slice xp xn xc) bw I (cO 1 I I)) dC (lY I I I (fA aq I aU I) (SL.gq (gT I I I dC) (qL (v:=.slice yp yn yc) bw I (cO 0 I I)) dC (SL.go (gT I I I dC) (cL call76 I (jN E g _ _ _ _ _ hxs hys hxl hyl)) dC ?_))));rintro _ _ _ ⟨rfl,rfl,rfl⟩;refine lU (wT I I) (nL ?_);exact ST.mid1 (by (simp_all[a8]; done)) mI
      ·intro h54;refine lZ I I I (lZ I I I (lZ I I I (lZ I I I (lZ I I I (lU (wF I I) (nL ?_))))));exact ST.mid1 (by (simp_all[a8]; omega)) mI
     ·intro h49;refine lZ I I I (lZ I I I (lZ I I I (lU (wF I I) (lM I (lZ I I I (lZ I I I (lZ I I I (lZ I I I (lZ I I I (lU (wF I I) (nL ?_)))))))))));exact ST.mid1 (by (simp_all[a8]; done)) mI
    ·intro h42;refine lZ I I I (lZ I I I (lZ I I I (lZ I I I (lZ I I I (lU (wF I I) (lM I (lZ I I I (lZ I I I (lZ I I I (lU (wF I I) (lM I (lZ I I I (lZ I I I (lZ I I I (lZ I I I (lZ I I I (lU (wF I I) (nL ?_))))))))))))))))));exact ST.mid1 (by (simp_all[a8]; done)) mI
   refine iQ I (fun hq=>?_) (fun hq=>?_)
   ·refine rZ (lU (fA aq I zT3 I) (lK (qL (v:=vi cx.id) iT3 I (cO 1 I I)) (lU (fA aq I zT3 I) (lK (qL (v:=vi cy.id) iT3 I (cO 0 I I)) (lU (SU.build I (build60 _ _)) (lW (bS sty33 I I I (ae ⟨I,trivial⟩) dC) ?_))))));rintro _ _ _ ⟨b66,rfl,rfl,rfl⟩;refine SL.to (fun w hw=>At.litRow (e:=dB) (l:=[(cx.id,cy.id)]) (n:=0) hw I I dC) ?_;refine aT I (rE (bR (tR (tR (bR (bR (tR (tR (bR (tR (dR (.cons_cons _ (.cons _ (.cons _ (.cons _ (.refl s))))) ?_)))))))))));exact ST.ret1 (.inl I) results43 I ⟨_,I,Le.refl _,by simp⟩
   ·refine kP (bN (tN (rG (lM I (lU (aD I I oM) (lA I (nL (dR (.cons _ (.refl _)) ?_))))))));exact gA (j+1) sB I I oM oM
  ·refine xI (tX (tX (bX (bN (tN (rG (lM I (lU (aD I I oM) (lA I (nL (dR (.cons _ (.refl _)) ?_)))))))))));exact gA (k+1) sB I I oM oM
 ·refine xI (tX (tX (bX (tN (rZ (aT I (rE (dR (s':=s) (.cons _ (.refl _)) (ST.nilRow 60 2 ?_)))))))));exact ST.ret1 (.inl I) results43 I ⟨[],I,Le.refl _,by simp⟩
set_option maxHeartbeats 8000000
theorem qX {l:List Cl}(hf:be l)(id:Int):((findC l id).getD bA).sides.length<1099511627776:=by
 unfold findC;cases h:(am l).find? (fun c=>decide (c.id=id)) with
 | none=>simp[bA]
 | some c=>exact (bJ hf).2 c (List.mem_of_find?_eq_some h)
theorem Tryz.bA35 (a:Int)(b:Int)  (w:World):(Instr.build 35 #[(0,vi a),(1,vi b)]).run Tryz.prog w = .ok (.agg #[vi a,vi b,vi 0,vi 0,vi 0,.slice none 0 0,.slice none 0 0]) w:=by
 have h0:(vi a).cells = #[vi a]:=rfl;have h1:(vi b).cells = #[vi b]:=rfl;simp[Instr.build,Instr.fill,h0,h1];rfl
theorem Tryz.bB35 (a:Int)(b:Int)(d:Int)(q:Option Addr)(qn qc:Nat)(w:World):(Instr.build 35 #[(0,vi a),(1,vi b),(2,vi d),(5,.slice q qn qc)]).run Tryz.prog w = .ok (.agg #[vi a,vi b,vi d,vi 0,vi 0,.slice q qn qc,.slice none 0 0]) w:=by
 have h0:(vi a).cells = #[vi a]:=rfl;have h1:(vi b).cells = #[vi b]:=rfl;have h2:(vi d).cells = #[vi d]:=rfl;have h3:(Value.slice q qn qc).cells = #[.slice q qn qc]:=rfl;simp[Instr.build,Instr.fill,h0,h1,h2,h3];rfl
theorem Tryz.bC35 (a:Int)(b:Int)(d:Int)(e:Int)  (w:World):(Instr.build 35 #[(0,vi a),(1,vi b),(3,vi d),(4,vi e)]).run Tryz.prog w = .ok (.agg #[vi a,vi b,vi 0,vi d,vi e,.slice none 0 0,.slice none 0 0]) w:=by
 have h0:(vi a).cells = #[vi a]:=rfl;have h1:(vi b).cells = #[vi b]:=rfl;have h2:(vi d).cells = #[vi d]:=rfl;have h3:(vi e).cells = #[vi e]:=rfl;simp[Instr.build,Instr.fill,h0,h1,h2,h3];rfl
theorem Tryz.bD35 (a:Int)(q:Option Addr)(qn qc:Nat)(w:World):(Instr.build 35 #[(0,vi a),(6,.slice q qn qc)]).run Tryz.prog w = .ok (.agg #[vi a,vi 0,vi 0,vi 0,vi 0,.slice none 0 0,.slice q qn qc]) w:=by
 have h0:(vi a).cells = #[vi a]:=rfl;have h1:(Value.slice q qn qc).cells = #[.slice q qn qc]:=rfl;simp[Instr.build,Instr.fill,h0,h1];rfl
theorem Tryz.bE35 (a:Int)(b:Int)(d:Int)  (w:World):(Instr.build 35 #[(0,vi a),(1,vi b),(4,vi d)]).run Tryz.prog w = .ok (.agg #[vi a,vi b,vi 0,vi 0,vi d,.slice none 0 0,.slice none 0 0]) w:=by
 have h0:(vi a).cells = #[vi a]:=rfl;have h1:(vi b).cells = #[vi b]:=rfl;have h2:(vi d).cells = #[vi d]:=rfl;simp[Instr.build,Instr.fill,h0,h1,h2];rfl
theorem Tryz.bF35 (a:Int)(b:Int)(d:Int)(e:Int)(h:Int)(q:Option Addr)(qn qc:Nat)(r:Option Addr)(rn rc:Nat)(w:World):(Instr.build 35 #[(0,vi a),(1,vi b),(2,vi d),(3,vi e),(4,vi h),(5,.slice q qn qc),(6,.slice r rn rc)]).run Tryz.prog w = .ok (.agg #[vi a,vi b,vi d,vi e,vi h,.slice q qn qc,.slice r rn rc]) w:=by
 have h0:(vi a).cells = #[vi a]:=rfl;have h1:(vi b).cells = #[vi b]:=rfl;have h2:(vi d).cells = #[vi d]:=rfl;have h3:(vi e).cells = #[vi e]:=rfl;have h4:(vi h).cells = #[vi h]:=rfl;have h5:(Value.slice q qn qc).cells = #[.slice q qn qc]:=rfl;have h6:(Value.slice r rn rc).cells = #[.slice r rn rc]:=rfl;simp[Instr.build,Instr.fill,h0,h1,h2,h3,h4,h5,h6];rfl
theorem l6 (E:World)(g:PH)(s:Own)(v:Value)(l:List Cl)(k0 ka kb kc:Int)(hv:ao g v l)(hf:be l) :
  Ctr Tryz.prog E 13 #[.agg #[vi k0,vi ka,vi kb,vi kc],.agg #[v]] g s (fun r g' s'=>s=s'∧Le g g'∧∃ e,EdR g' r e∧e.sides.length<1099511627776∧e.pairs.length≤3):=by
 have hv0:=hv;obtain ⟨rs,hrs,hall⟩:=hv;have hlen:=hall.length;have hfl:=hf.1;obtain ⟨p,c,rfl⟩:=SlA.form hrs;have hid:∀ d,(yG l d).length<1099511627776:=fun d=>by
  have h1:(yG l d).length≤(am l).length:=by unfold yG; rw[List.length_map]; exact List.length_filter_le _ _
  have h2:=(bJ hf).1;omega
 have htl:(sV l).length<1099511627776:=by
  have h1:(sV l).length≤(am l).length:=by unfold sV; rw[List.length_map]; exact List.length_filter_le _ _
  have h2:=(bJ hf).1;omega
 have hl0:=hid 0;have hl1:=hid 1;rw[← hlen] at hrs ⊢;have hv1:ao g (.slice p l.length c) l:=⟨rs,hrs,hall⟩;refine Ctr.of (args:=[.agg #[vi k0,vi ka,vi kb,vi kc],.agg #[.slice p l.length c]]) func13 I ntmps13 (bE I) ?_;refine rZ (bW (bO I) fun b2=>?_);refine bW (bO I) fun b3=>?_;refine bW (aL zeroValue35) fun b4=>?_;refine tZ (rZ (aT I (sQ (rZ (aT I (bK (SC.nilRow 3 1 ?_)))))));refine oP (ι:=Nat×Value×List Int) (fun i=>[(2,pp b2 0),(3,pp b3 0),(4,pp b4 0),(5,i.2.1),(6,vi i.1)]) (fun _=>g) (fun i=>rowA encInt 3 i.2.1 i.2.2::pt b4 (.cells #[vi 0,vi 0,vi 0,vi 0,vi 0,.slice none 0 0,.slice none 0 0] 35 (0,0))::pt b3 (.cells #[.slice p l.length c] 29 (0,0))::pt b2 (.cells #[vi k0,vi ka,vi kb,vi kc] 37 (0,0))::s)
  (fun i=>i.1≤l.length∧i.2.2.length=i.1) (fun i=>l.length - i.1) (0,.slice none 0 0,[]) sB rfl rfl ⟨Nat.zero_le _,rfl⟩ ?_
 rintro ⟨k,ov,acc⟩ ⟨hk,hal⟩;dsimp only at hk hal ⊢;refine sQ (sW I (lU (fA c8 I cj I) (lK (qL (v:=.slice p l.length c) dS I (cO 2 I I)) (lU (eN aH I) (lU (lS I I) (tZ ?_))))));refine iP I (fun hlt=>?_) (fun hlt=>?_)
 ·have hkr:k<rs.length:=oM;have hb1:=SlA.based hrs oM;have hgx:rs[((k:Nat):Int).toNat]?=some rs[k]:=gE hkr;generalize rs[k]=x at *;refine kP (tN (sQ (bK (rG (lM I (lU (fA c8 I cj I) (lK (qL (v:=.slice p l.length c) dS I (cO 2 I I)) (lM I (lU (iA aH au I I hb1 oM sL) (lU (fC aq I zT3 I hb1) (lK (aZ (e:=encCell) (o:=0) (u:=vi x.id) iT3 I (SlA.rd hrs) hgx I) (lW (bS sty83 I I I (ae ⟨I,trivial⟩) dC) ?_))))))))))));rintro _ _ _ ⟨b33,rfl,rfl,rfl⟩;refine lW (aP (e:=encInt) (l:=acc) 0 x.id sty83 I I I I I oM oM) ?_;rintro ov' _ _ ⟨rfl,rfl⟩;refine lA I (nL (bN (tN (rG (lM I (lU (aD I I oM) (lA I (nL ?_))))))));exact gA (k+1,ov',acc++[x.id]) sB I I ⟨by dsimp only; omega,by dsimp only; rw[List.length_append,List.length_singleton]; omega⟩ (by dsimp only; omega)
 clear hlt;have hIl:acc.length<1099511627776:=oM;clear hk hal;refine xI (tX (tX (bX (tN (sQ (fS fun g1 hle1 hI=>?_))))));obtain ⟨qI,dI,rfl⟩:=Sl.form hI;have hI:dJ g1 (.slice qI acc.length dI) acc:=hI;have hv2:=hv1.mono hle1;refine rG (lK (qV 1 ar ag I I I) (lW (cL call38 I (nk E g1 _ _ l 0 hv2 hf)) ?_));rintro _ g2 _ ⟨rfl,hle2,hV⟩;obtain ⟨pV,cV,rfl⟩:=SlA.form hV;have hv3:=hv2.mono hle2;have hI:=SlA.mono hI hle2;refine aT I (rZ (lK (qV 1 ar ag I I I) (lW (cL call38 I (nk E g2 _ _ l 1 hv3 hf)) ?_)));rintro _ g3 _ ⟨rfl,hle3,hW⟩;obtain ⟨pW,cW,rfl⟩:=SlA.form hW;have hv4:=hv3.mono hle3;have hI:=SlA.mono hI hle3;have hV:=SlA.mono hV hle3;generalize yG l 0=V at *;generalize yG l 1=W at *;refine aT I (rZ (lK (qV 1 ar ag I I I) (lW (cL call39 I (vG E g3 _ _ l hv4 hf)) ?_)));rintro _ _ _ ⟨rfl,rfl,n0,rfl⟩;have hle13:=hle1.trans (hle2.trans hle3);refine aT I ?_;refine SC.cut (ι:=Int) (fun n=>[(2,pp b2 0),(3,pp b3 0),(4,pp b4 0),(5,.slice qI acc.length dI),(7,.slice pV V.length cV),(8,.slice pW W.length cW),(9,vi n)]) (fun _=>g3) (fun _=>pt b4 (.cells #[vi 0,vi 0,vi 0,vi 0,vi 0,.slice none 0 0,.slice none 0 0] 35 (0,0))::pt b3 (.cells #[.slice p l.length c] 29 (0,0))::pt b2 (.cells #[vi k0,vi ka,vi kb,vi kc] 37 (0,0))::s) (fun _=>True) ?_ ?_
 ·refine rZ (lU (fA gS I zT3 I) (lK (qL (v:=vi kc) iT3 I (cO 2 I I)) (lU (SU.rem I I dC) (lU (eQ I I) (tZ ?_)))));refine iP I (fun hz=>?_) (fun hz=>?_)
  ·refine rG (lM I (lU (fA gS I zT3 I) (lK (qL (v:=vi kc) iT3 I (cO 2 I I)) (lU (SU.quo I I dC) (lW (cL call40 I (dp E g3 _ _ acc _ hI hIl)) ?_)))));rintro _ _ _ ⟨rfl,rfl,n1,rfl⟩;refine lA I (nL ?_);exact ST.mid n1 sB I I trivial
  ·refine kP ?_;exact ST.mid n0 sB I I trivial
 rintro n -;try dsimp only
 refine SC.cut (ι:=Nat×PH×Cl×Rc) (fun i=>[(2,pp b2 0),(3,pp b3 0),(4,pp b4 0),(5,.slice qI acc.length dI),(7,.slice pV V.length cV),(8,.slice pW W.length cW),(9,vi n),(10,pp i.1 0)]) (fun i=>i.2.1) (fun i=>pt i.1 (.cells #[vi i.2.2.2.id,vi i.2.2.2.dim,.slice i.2.2.2.sv.p i.2.2.2.sv.n i.2.2.2.sv.c] 53 (0,0))::pt b4 (.cells #[vi 0,vi 0,vi 0,vi 0,vi 0,.slice none 0 0,.slice none 0 0] 35 (0,0))::pt b3 (.cells #[.slice p l.length c] 29 (0,0))::pt b2 (.cells #[vi k0,vi ka,vi kb,vi kc] 37 (0,0))::s) (fun i=>Le g3 i.2.1∧aw i.2.1 i.2.2.1 i.2.2.2∧i.2.2.1.sides.length<1099511627776) ?_ ?_
 ·refine SC.drawX [10] Tryz.mixed kR ?_;refine SX.q (i:=0) I kR (qV 1 ar ag I I I) dC (SX.u (i:=1) I kR (mV I) dC (SX.u (i:=2) I kR (fA gS I zT3 I) dC (SX.q (i:=3) I kR (qL (v:=vi ka) iT3 I (cO 2 I I)) dC ?_)))
  repeat' (first
   | (refine SB.o (i:=4) rfl (cL call40 rfl (dp E g3 _ _ acc ka hI hIl)) dC (.inr (by rintro _ _ _ ⟨rfl,rfl,m1,rfl⟩; exact⟨by exact Le.refl _,(by exact .cons _ (.refl _))⟩)) ?_; rintro _ _ _ ⟨rfl,rfl,m1,rfl⟩)
   | (refine SB.o (i:=4) rfl (cL call40 rfl (dp E g3 _ _ acc ka hI hIl)) dC (.inr (by rintro _ _ _ ⟨rfl,rfl,m1,rfl⟩; exact⟨by exact Le.refl _,(by exact .refl _)⟩)) ?_; rintro _ _ _ ⟨rfl,rfl,m1,rfl⟩)
   | (refine SB.o (i:=5) rfl (cL call41 rfl (bo E g3 _ _ l m1 hv4 hf)) dC (.inr (by rintro _ gF _ ⟨rfl,hleF,rF,rfl,hcF⟩; exact⟨by assumption,(by exact .cons _ (.refl _))⟩)) ?_; rintro _ gF _ ⟨rfl,hleF,rF,rfl,hcF⟩; refine SX.u (i:=6) rfl kD (mV rfl) dC ?_; refine SX.u (i:=7) rfl kD (xT rfl rfl) dC ?_; refine SX.u (i:=8) rfl kD (xT rfl rfl) dC ?_)
   | (refine SB.o (i:=5) rfl (cL call41 rfl (bo E g3 _ _ l m1 hv4 hf)) dC (.inr (by rintro _ gF _ ⟨rfl,hleF,rF,rfl,hcF⟩; exact⟨by assumption,(by exact .refl _)⟩)) ?_; rintro _ gF _ ⟨rfl,hleF,rF,rfl,hcF⟩; refine SX.u (i:=6) rfl kD (mV rfl) dC ?_; refine SX.u (i:=7) rfl kD (xT rfl rfl) dC ?_; refine SX.u (i:=8) rfl kD (xT rfl rfl) dC ?_)
   | (refine SB.o (i:=9) rfl (aL zeroValue53) dC (.inr (by rintro _ _ _ ⟨bF,rfl,rfl,rfl⟩; exact⟨by exact Le.refl _,(by exact .cons _ (.refl _))⟩)) ?_; rintro _ _ _ ⟨bF,rfl,rfl,rfl⟩)
   | (refine SB.o (i:=9) rfl (aL zeroValue53) dC (.inr (by rintro _ _ _ ⟨bF,rfl,rfl,rfl⟩; exact⟨by assumption,(by exact .cons _ (.refl _))⟩)) ?_; rintro _ _ _ ⟨bF,rfl,rfl,rfl⟩)
   | (refine SB.on (i:=10) rfl (sK 0 au rfl rfl rfl rfl rfl sB) (.inl dC) ?_; rintro _ _ _ ⟨rfl,rfl⟩; refine SX.u (i:=11) rfl kD (aS rfl) dC ?_)
   | refine SX.br2 4 9 kD ?_ ?_
   | refine SX.br2 5 9 kD ?_ ?_
   | refine SX.br1 9 kD ?_
   | refine SX.br1 10 kD ?_
   | refine SX.br1 5 kD ?_
   | refine SX.br1 4 kD ?_
   | (refine SX.nil kD ?_; exact ST.mid (bF,gF,(findC l m1).getD bA,rF) sB rfl rfl ⟨hleF,hcF,qX hf m1⟩))
 rintro ⟨b10,g4,X,⟨xi,xd,xp,xn,xc⟩⟩ ⟨hle4,⟨-,-,hxs⟩,hxl⟩;dsimp only at hle4 hxs hxl ⊢;have hxn:xn=X.sides.length:=Sl.slen hxs;subst hxn;have hv4:=hv4.mono hle4;have hI:=SlA.mono hI hle4;refine SC.cut (ι:=Nat×PH×Cl×Rc) (fun i=>[(2,pp b2 0),(3,pp b3 0),(4,pp b4 0),(5,.slice qI acc.length dI),(7,.slice pV V.length cV),(8,.slice pW W.length cW),(9,vi n),(10,pp b10 0),(12,pp i.1 0)]) (fun i=>i.2.1) (fun i=>pt i.1 (.cells #[vi i.2.2.2.id,vi i.2.2.2.dim,.slice i.2.2.2.sv.p i.2.2.2.sv.n i.2.2.2.sv.c] 53 (0,0))::pt b10 (.cells #[vi xi,vi xd,.slice xp X.sides.length xc] 53 (0,0))::pt b4 (.cells #[vi 0,vi 0,vi 0,vi 0,vi 0,.slice none 0 0,.slice none 0 0] 35 (0,0))::pt b3 (.cells #[.slice p l.length c] 29 (0,0))::pt b2 (.cells #[vi k0,vi ka,vi kb,vi kc] 37 (0,0))::s) (fun i=>Le g4 i.2.1∧aw i.2.1 i.2.2.1 i.2.2.2∧i.2.2.1.sides.length<1099511627776) ?_ ?_
 ·refine SC.drawX [10] Tryz.mixed kR ?_;refine SX.q (i:=0) I kR (qV 2 ar ag I I I) dC (SX.u (i:=1) I kR (mV I) dC (SX.u (i:=2) I kR (fA gS I zT3 I) dC (SX.q (i:=3) I kR (qL (v:=vi kb) iT3 I (cO 3 I I)) dC ?_)))
  repeat' (first
   | (refine SB.o (i:=4) rfl (cL call40 rfl (dp E g4 _ _ acc kb hI hIl)) dC (.inr (by rintro _ _ _ ⟨rfl,rfl,m1,rfl⟩; exact⟨by exact Le.refl _,(by exact .cons _ (.refl _))⟩)) ?_; rintro _ _ _ ⟨rfl,rfl,m1,rfl⟩)
   | (refine SB.o (i:=4) rfl (cL call40 rfl (dp E g4 _ _ acc kb hI hIl)) dC (.inr (by rintro _ _ _ ⟨rfl,rfl,m1,rfl⟩; exact⟨by exact Le.refl _,(by exact .refl _)⟩)) ?_; rintro _ _ _ ⟨rfl,rfl,m1,rfl⟩)
   | (refine SB.o (i:=5) rfl (cL call41 rfl (bo E g4 _ _ l m1 hv4 hf)) dC (.inr (by rintro _ gF _ ⟨rfl,hleF,rF,rfl,hcF⟩; exact⟨by assumption,(by exact .cons _ (.refl _))⟩)) ?_; rintro _ gF _ ⟨rfl,hleF,rF,rfl,hcF⟩; refine SX.u (i:=6) rfl kD (mV rfl) dC ?_; refine SX.u (i:=7) rfl kD (xT rfl rfl) dC ?_; refine SX.u (i:=8) rfl kD (xT rfl rfl) dC ?_)
   | (refine SB.o (i:=5) rfl (cL call41 rfl (bo E g4 _ _ l m1 hv4 hf)) dC (.inr (by rintro _ gF _ ⟨rfl,hleF,rF,rfl,hcF⟩; exact⟨by assumption,(by exact .refl _)⟩)) ?_; rintro _ gF _ ⟨rfl,hleF,rF,rfl,hcF⟩; refine SX.u (i:=6) rfl kD (mV rfl) dC ?_; refine SX.u (i:=7) rfl kD (xT rfl rfl) dC ?_; refine SX.u (i:=8) rfl kD (xT rfl rfl) dC ?_)
   | (refine SB.o (i:=9) rfl (aL zeroValue53) dC (.inr (by rintro _ _ _ ⟨bF,rfl,rfl,rfl⟩; exact⟨by exact Le.refl _,(by exact .cons _ (.refl _))⟩)) ?_; rintro _ _ _ ⟨bF,rfl,rfl,rfl⟩)
   | (refine SB.o (i:=9) rfl (aL zeroValue53) dC (.inr (by rintro _ _ _ ⟨bF,rfl,rfl,rfl⟩; exact⟨by assumption,(by exact .cons _ (.refl _))⟩)) ?_; rintro _ _ _ ⟨bF,rfl,rfl,rfl⟩)
   | (refine SB.on (i:=10) rfl (sK 0 au rfl rfl rfl rfl rfl sB) (.inl dC) ?_; rintro _ _ _ ⟨rfl,rfl⟩; refine SX.u (i:=11) rfl kD (aS rfl) dC ?_)
   | refine SX.br2 4 9 kD ?_ ?_
   | refine SX.br2 5 9 kD ?_ ?_
   | refine SX.br1 9 kD ?_
   | refine SX.br1 10 kD ?_
   | refine SX.br1 5 kD ?_
   | refine SX.br1 4 kD ?_
   | (refine SX.nil kD ?_; exact ST.mid (bF,gF,(findC l m1).getD bA,rF) sB rfl rfl ⟨hleF,hcF,qX hf m1⟩))
 rintro ⟨b12,g5,Y,⟨yi,yd,yp,yn,yc⟩⟩ ⟨hle5,⟨-,-,hys⟩,hyl⟩;dsimp only at hle5 hys hyl ⊢;have hyn:yn=Y.sides.length:=Sl.slen hys;subst hyn;have hv5:=hv4.mono hle5;have hI5:=SlA.mono hI hle5;have hle45:=hle4.trans hle5;have hV5:=SlA.mono hV hle45;have hW5:=SlA.mono hW hle45;have hxs5:=SlA.mono hxs hle5;have hle15:=hle13.trans hle45;refine sQ (rZ (lU (fA gS I zT3 I) (lK (qL (v:=vi k0) iT3 I (cO 4 I I)) (lW (cL kp I (bI E g5 _ k0 10 dC)) ?_))));rintro _ _ _ ⟨rfl,rfl,rfl⟩;generalize cY k0 10=kd at *;refine tZ (bK (rZ (lU (eQ I I) (aT I ?_))));refine iP I (fun h0=>?_) (fun h0=>?_)
 ·refine sW I (lU (SU.build I (bA35 _ _)) ?_);refine oZ (sK 2 eT rfl rfl rfl rfl rfl (by (repeat' (first | exact trivial | refine⟨by rfl,?_⟩)))) ?_;refine tZ (rE (bR (tR ?_)));exact ST.retCD 2 s (.inl I) results13 I jF eT I I uR ⟨I,hle15,⟨1,n,0,0,0,[],[]⟩,⟨_,_,I,Sl.nil _ _,Sl.nil _ _⟩,by simp,by simp⟩
 ·refine rZ (lU (eQ I I) (aT I ?_));refine iP I (fun h1=>?_) (fun h1=>?_)
  ·refine sQ ?_;refine dW [13] [(0,2),(1,2),(2,2),(3,1),(6,2),(7,2),(8,1),(4,0),(5,2),(9,0),(10,2),(11,0),(12,2),(13,0)] Tryz.mixed kR ?_;refine pU I (mV I) (pU I (mV I) (pU I (fA gS I zT3 I) (pK I (qL (v:=vi ka) iT3 I (cO 4 I I)) (pU I (mV I) (pU I (fA gS I zT3 I) (pK I (qL (v:=vi kb) iT3 I (cO 4 I I)) (SP.o I (cL call40 I (dp E g5 _ _ V ka hV5 hl0)) dC (.inr iR) ?_)))))));rintro _ _ _ ⟨rfl,rfl,a1,rfl⟩;refine pU I (SU.build I (buildS55 _ _)) (SP.o I (cL call40 I (dp E g5 _ _ V kb hV5 hl0)) dC (.inr iR) ?_);rintro _ _ _ ⟨rfl,rfl,a2,rfl⟩;refine pU I (SU.build I (buildS55 _ _)) (SP.o I (bS sty32 I I I (ae sB) dC) dC (.inr iR) ?_);rintro _ _ _ ⟨b88,rfl,rfl,rfl⟩;refine SP.freeze fun g6 hle6 hb6=>?_;have hs6:SlA encSide g6 (.slice (some ⟨b88,0,none⟩) 2 2) [⟨a1,1⟩,⟨a2,-1⟩]:=SlA.lit hb6 rfl rfl;refine pU I (SU.build I (bB35 _ _ _ _ _ _)) ?_;refine SP.on rfl (sK 2 eT rfl rfl rfl rfl rfl (by (repeat' (first | exact trivial | refine⟨by rfl,?_⟩)))) (.inl dC) ?_;rintro _ _ _ ⟨rfl,rfl⟩;refine pN (tN (rE (bR (tR ?_))));exact ST.retCD 2 s (.inl I) results13 I jF eT I I uR ⟨I,hle15.trans hle6,⟨1,n,1,0,0,[⟨a1,1⟩,⟨a2,-1⟩],[]⟩,⟨_,_,I,hs6,Sl.nil _ _⟩,by simp,by simp⟩
  ·refine rZ (lU (eQ I I) (aT I ?_));refine iP I (fun h2=>?_) (fun h2=>?_)
   ·refine SC.cut (ι:=Nat×Option Addr×Nat) (fun i=>[(2,pp b2 0),(4,pp b4 0),(14,pp i.1 0)]) (fun _=>g5) (fun i=>pt i.1 (.cells #[vi 1,vi n,vi xd,vi 0,vi 0,.slice i.2.1 X.sides.length i.2.2,.slice none 0 0] 35 (0,0))::rowA encSide 55 (.slice i.2.1 X.sides.length i.2.2) X.sides::pt b12 (.cells #[vi yi,vi yd,.slice yp Y.sides.length yc] 53 (0,0))::pt b10 (.cells #[vi xi,vi xd,.slice xp X.sides.length xc] 53 (0,0))::pt b4 (.cells #[vi 0,vi 0,vi 0,vi 0,vi 0,.slice none 0 0,.slice none 0 0] 35 (0,0))::pt b3 (.cells #[.slice p l.length c] 29 (0,0))::pt b2 (.cells #[vi k0,vi ka,vi kb,vi kc] 37 (0,0))::s) (fun _=>True) ?_ ?_
    ·refine SC.drawX [9] Tryz.mixed kR ?_;refine SX.u (i:=0) I kR (mV I) dC (SX.u (i:=1) I kR (fA aq I zT3 I) dC (SX.q (i:=2) I kR (qL (v:=vi xd) iT3 I (cO (by exact 1) I I)) dC ?_));refine SX.u (i:=4) I kR (fA aq I aU I) dC (SX.q (i:=5) I kR (qL (v:=.slice xp X.sides.length xc) bw I (cO (by exact 1) I I)) dC ?_);refine SX.br2 3 8 kR ?_ ?_
     ·refine SB.o (i:=3) I (bS sty32 I I I (ae trivial) dC) dC (.inr iR) ?_;rintro _ _ _ ⟨b95,rfl,rfl,rfl⟩;refine SX.drop (List.sublist_cons_self _ _) ?_;refine SX.br2 6 8 kR ?_ ?_
      ·refine SB.o (i:=6) I (SO.appNewA (e:=encSide) sty32 I I hxs5 oM oM) dC (.inr iR) ?_;rintro v98 _ _ ⟨rfl,rfl⟩;refine SX.facts fun ⟨w0,hw0⟩=>?_;obtain ⟨q8,d8,rfl⟩:=ah (e:=encSide) (l:=X.sides) (i:=0) hw0 rfl;clear hw0 w0
       first | refine SX.to (fun w hw=>At.perm hw (List.Perm.swap (pt b14 _) _ _)) ?_ | skip
       refine SX.u (i:=7) I kR (SU.build I (bB35 _ _ _ _ _ _)) dC ?_;refine SX.br1 8 kR ?_
       ·refine SB.o (i:=8) I (aL zeroValue35) dC (.inr iR) ?_;rintro _ _ _ ⟨b14,rfl,rfl,rfl⟩;refine SX.br1 9 kR ?_
        ·refine SB.on (i:=9) rfl (sK 0 eT rfl rfl rfl rfl rfl (by (repeat' (first | exact trivial | refine⟨by rfl,?_⟩)))) (.inl dC) ?_;rintro _ _ _ ⟨rfl,rfl⟩;refine SX.nil kR ?_;exact ST.mid (b14,q8,d8) sB I I trivial
      ·refine SB.o (i:=8) I (aL zeroValue35) dC (.inr iR) ?_;rintro _ _ _ ⟨b14,rfl,rfl,rfl⟩;refine SX.br1 6 kR ?_
       ·refine SB.o (i:=6) I (SO.appNewA (e:=encSide) sty32 I I hxs5 oM oM) dC (.inr iR) ?_;rintro v98 _ _ ⟨rfl,rfl⟩;refine SX.facts fun ⟨w0,hw0⟩=>?_;obtain ⟨q8,d8,rfl⟩:=ah (e:=encSide) (l:=X.sides) (i:=0) hw0 rfl;clear hw0 w0
        first | refine SX.to (fun w hw=>At.perm hw (List.Perm.swap (pt b14 _) _ _)) ?_ | skip
        refine SX.u (i:=7) I kR (SU.build I (bB35 _ _ _ _ _ _)) dC ?_;refine SX.br1 9 kR ?_
        ·refine SB.on (i:=9) rfl (sK 0 eT rfl rfl rfl rfl rfl (by (repeat' (first | exact trivial | refine⟨by rfl,?_⟩)))) (.inl dC) ?_;rintro _ _ _ ⟨rfl,rfl⟩;refine SX.nil kR ?_;exact ST.mid (b14,q8,d8) sB I I trivial
     ·refine SB.o (i:=8) I (aL zeroValue35) dC (.inr iR) ?_;rintro _ _ _ ⟨b14,rfl,rfl,rfl⟩;refine SX.br1 3 kR ?_
      ·refine SB.o (i:=3) I (bS sty32 I I I (ae trivial) dC) dC (.inr iR) ?_;rintro _ _ _ ⟨b95,rfl,rfl,rfl⟩;refine SX.drop (List.sublist_cons_self _ _) ?_;refine SX.br1 6 kR ?_
       ·refine SB.o (i:=6) I (SO.appNewA (e:=encSide) sty32 I I hxs5 oM oM) dC (.inr iR) ?_;rintro v98 _ _ ⟨rfl,rfl⟩;refine SX.facts fun ⟨w0,hw0⟩=>?_;obtain ⟨q8,d8,rfl⟩:=ah (e:=encSide) (l:=X.sides) (i:=0) hw0 rfl;clear hw0 w0
        first | refine SX.to (fun w hw=>At.perm hw (List.Perm.swap (pt b14 _) _ _)) ?_ | skip
        refine SX.u (i:=7) I kR (SU.build I (bB35 _ _ _ _ _ _)) dC ?_;refine SX.br1 9 kR ?_
        ·refine SB.on (i:=9) rfl (sK 0 eT rfl rfl rfl rfl rfl (by (repeat' (first | exact trivial | refine⟨by rfl,?_⟩)))) (.inl dC) ?_;rintro _ _ _ ⟨rfl,rfl⟩;refine SX.nil kR ?_;exact ST.mid (b14,q8,d8) sB I I trivial
    rintro ⟨b14,q8,d8⟩ -;try dsimp only
    refine SC.cut (ι:=Int) (fun _=>[(2,pp b2 0),(4,pp b4 0),(14,pp b14 0)]) (fun _=>g5) (fun d=>pt b14 (.cells #[vi 1,vi n,vi d,vi 0,vi 0,.slice q8 X.sides.length d8,.slice none 0 0] 35 (0,0))::rowA encSide 55 (.slice q8 X.sides.length d8) X.sides::pt b12 (.cells #[vi yi,vi yd,.slice yp Y.sides.length yc] 53 (0,0))::pt b10 (.cells #[vi xi,vi xd,.slice xp X.sides.length xc] 53 (0,0))::pt b4 (.cells #[vi 0,vi 0,vi 0,vi 0,vi 0,.slice none 0 0,.slice none 0 0] 35 (0,0))::pt b3 (.cells #[.slice p l.length c] 29 (0,0))::pt b2 (.cells #[vi k0,vi ka,vi kb,vi kc] 37 (0,0))::s) (fun _=>True) ?_ ?_
    ·refine rZ (lU (fA gS I zT3 I) (lK (qL (v:=vi kb) iT3 I (cO 6 I I)) (lU (SU.rem I I dC) (lU (eQ I I) (tZ ?_)))));refine iP I (fun hz=>?_) (fun hz=>?_)
     ·refine rG (lU (fA aK rfl zT3 rfl) (lK (qL (v:=vi xd) iT3 rfl (cO 0 rfl rfl)) (lU (SU.addW rfl rfl) (lU (fA aK rfl zT3 rfl) (oZ (SO.store1 0 zT3 rfl rfl rfl rfl (bE rfl) (by rfl)) ?_)))));refine nL ?_;exact ST.mid (IntKind.i64.wrap (xd+1)) sB I I trivial
     ·refine kP ?_;exact ST.mid xd sB I I trivial
    rintro ed -;try dsimp only
    refine SC.cut (ι:=List Side) (fun _=>[(4,pp b4 0),(14,pp b14 0)]) (fun _=>g5) (fun S=>pt b14 (.cells #[vi 1,vi n,vi ed,vi 0,vi 0,.slice q8 X.sides.length d8,.slice none 0 0] 35 (0,0))::rowA encSide 55 (.slice q8 X.sides.length d8) S::pt b12 (.cells #[vi yi,vi yd,.slice yp Y.sides.length yc] 53 (0,0))::pt b10 (.cells #[vi xi,vi xd,.slice xp X.sides.length xc] 53 (0,0))::pt b4 (.cells #[vi 0,vi 0,vi 0,vi 0,vi 0,.slice none 0 0,.slice none 0 0] 35 (0,0))::pt b3 (.cells #[.slice p l.length c] 29 (0,0))::pt b2 (.cells #[vi k0,vi ka,vi kb,vi kc] 37 (0,0))::s) (fun S=>S.length=X.sides.length) ?_ ?_
    ·refine SC.cutB 117 (decide (kb.tmod 9=4)&&decide (0<X.sides.length)) ?_ ?_
     ·refine rG (lU (fA gS I zT3 I) (lK (qL (v:=vi kb) iT3 I (cO 6 I I)) (lU (SU.rem I I dC) (lU (eQ I I) (lM I ?_)))));refine sP ?_ ?_
      ·intro h112;refine lY I I I (fA aK I aU I) (SL.gq (gT I I I dC) (qL (v:=.slice q8 X.sides.length d8) bw I (cO 0 I I)) dC (lY I I I (eN aN I) (lY I I I (gR I I) (lU (wT I I) (nL ?_)))));exact ST.mid1 (by (simp_all[a8]; done)) mI
      ·intro h112;refine lZ I I I (lZ I I I (lZ I I I (lZ I I I (lU (wF I I) (nL ?_)))));exact ST.mid1 (by (simp_all[a8]; done)) mI
     refine iQ I (fun hq=>?_) (fun hq=>?_)
     ·simp only[Bool.and_eq_true,decide_eq_true_iff] at hq;have hg0:X.sides[0]?=some (X.sides[0]'hq.2):=gE hq.2;generalize X.sides[0]'hq.2=x0 at *;refine SC.facts fun ⟨w0,hw0⟩=>?_;obtain ⟨bu,cap,hbu⟩:=aV (e:=encSide) (l:=X.sides) (i:=1) hw0 rfl oM;obtain ⟨rfl,rfl⟩:q8=some ⟨bu,0,none⟩∧d8=cap:=by injection hbu with h1 _ h2; exact⟨h1,h2⟩
      clear hw0 w0 hbu;refine dW [10] [(0,2),(1,1),(2,2),(3,1),(4,2),(5,2),(6,1),(7,2),(8,2),(9,2),(10,0)] Tryz.mixed kR ?_;refine pU I (fA aK I aU I) (pK I (qL (v:=.slice (some ⟨bu,0,none⟩) X.sides.length d8) bw I (cO 0 I I)) (pU I (fA aK I aU I) (pK I (qL (v:=.slice (some ⟨bu,0,none⟩) X.sides.length d8) bw I (cO 0 I I)) (pU I (iA aN aG I I I oM sL) (pU I (fA cl I zT3 I) (pK I (aZ (e:=encSide) (a:=x0) (j:=0) (o:=1) (u:=vi x0.sign) iT3 I (Rd.rowA 1 I) hg0 I) (pU I (SU.neg I) (pU I (iA aN aG I I I oM sL) (pU I (fA cl I zT3 I) (SP.on I (SO.partA (e:=encSide) (a:=x0) (j:=0) (o:=1) 1 ⟨x0.cell,IntKind.i64.wrap (0 - x0.sign)⟩ zT3 I I I hg0 I I dC I) (.inl dC) ?_))))))))));rintro _ _ _ ⟨rfl,rfl⟩;refine pN ?_;exact ST.mid (X.sides.set 0 ⟨x0.cell,IntKind.i64.wrap (0 - x0.sign)⟩) sB I I (by simp)
     ·refine kP ?_;exact ST.mid X.sides sB I I I
    rintro S hS;try dsimp only at hS ⊢
    refine rZ (lK (qV 0 jF eT I I I) ?_);refine oZ (sK 4 eT rfl rfl rfl rfl rfl (by (repeat' (first | exact trivial | refine⟨by rfl,?_⟩)))) ?_;refine tZ (rE (bR (tR ?_)));rw[← hS];refine ST.perm (List.Perm.swap _ _ _) (fT fun g6 hle6 hs6=>?_);exact ST.retCD 3 s (.inl I) results13 I jF eT I I uR ⟨I,hle15.trans hle6,⟨1,n,ed,0,0,S,[]⟩,⟨_,_,I,hs6,Sl.nil _ _⟩,by dsimp only; omega,by simp⟩
   ·refine rZ (lU (eQ I I) (aT I ?_));refine iP I (fun h3=>?_) (fun h3=>?_)
    ·refine sW I (lU (fA aq I zT3 I) (lK (qL (v:=vi xd) iT3 I (cO 1 I I)) (lU (SU.addW I I) (lU (fA aq I zT3 I) (lK (qL (v:=vi xi) iT3 I (cO 1 I I)) (lU (SU.build I (buildS55 _ _)) (lU (fA aq I zT3 I) (lK (qL (v:=vi yi) iT3 I (cO 0 I I)) (lU (SU.build I (buildS55 _ _)) (lW (bS sty32 I I I (ae sB) dC) ?_))))))))));rintro _ _ _ ⟨b88,rfl,rfl,rfl⟩;refine SL.freeze fun g6 hle6 hb6=>?_;have hs6:SlA encSide g6 (.slice (some ⟨b88,0,none⟩) 2 2) [⟨xi,1⟩,⟨yi,-1⟩]:=SlA.lit hb6 rfl rfl;refine lU (SU.build I (bB35 _ _ _ _ _ _)) ?_;refine oZ (sK 2 eT rfl rfl rfl rfl rfl (by (repeat' (first | exact trivial | refine⟨by rfl,?_⟩)))) ?_;refine tZ (rE (bR (tR ?_)));exact ST.retCD 2 s (.inl I) results13 I jF eT I I uR ⟨I,hle15.trans hle6,⟨1,n,IntKind.i64.wrap (xd+1),0,0,[⟨xi,1⟩,⟨yi,-1⟩],[]⟩,⟨_,_,I,hs6,Sl.nil _ _⟩,by simp,by simp⟩
    ·refine rZ (lU (eQ I I) (aT I ?_));refine iP I (fun h4=>?_) (fun h4=>?_)
     ·refine sQ (rZ (lU (fA gS I zT3 I) (lK (qL (v:=vi kb) iT3 I (cO 4 I I)) (lU (SU.rem I I dC) (lU (nQ I I) (tZ ?_))))));refine iP I (fun hz=>?_) (fun hz=>?_)
      ·refine sQ ?_;refine dW [6] [(0,1),(2,2),(3,1),(1,0),(4,0),(5,2),(6,0)] Tryz.mixed kR ?_;refine pK I (qV 3 ar ag I I I) (pU I (fA gS I zT3 I) (pK I (qL (v:=vi ka) iT3 I (cO 4 I I)) (SP.o I (cL call42 I (rT E g5 _ _ l hv5 hf)) dC (.inr iR) ?_)));rintro _ g6 _ ⟨rfl,hle6,hT⟩;obtain ⟨pT,cT,rfl⟩:=SlA.form hT;refine SP.o I (cL call40 I (dp E g6 _ _ (sV l) ka hT htl)) dC (.inr iR) ?_;rintro _ _ _ ⟨rfl,rfl,a1,rfl⟩;refine pU I (SU.build I (bA35 _ _)) ?_;refine SP.on rfl (sK 2 eT rfl rfl rfl rfl rfl (by (repeat' (first | exact trivial | refine⟨by rfl,?_⟩)))) (.inl dC) ?_;rintro _ _ _ ⟨rfl,rfl⟩;refine pN (tN (rE (tR (bR (tR ?_)))));exact ST.retCD 2 s (.inl I) results13 I jF eT I I uR ⟨I,hle15.trans hle6,⟨2,a1,0,0,0,[],[]⟩,⟨_,_,I,Sl.nil _ _,Sl.nil _ _⟩,by simp,by simp⟩
      ·refine kP (tN (rZ (lU (fA aq I zT3 I) (lK (qL (v:=vi xi) iT3 I (cO 1 I I)) (lU (SU.build I (bA35 _ _)) ?_)))));refine oZ (sK 2 eT rfl rfl rfl rfl rfl (by (repeat' (first | exact trivial | refine⟨by rfl,?_⟩)))) ?_;refine tZ (rE (bR (tR ?_)));exact ST.retCD 2 s (.inl I) results13 I jF eT I I uR ⟨I,hle15,⟨2,xi,0,0,0,[],[]⟩,⟨_,_,I,Sl.nil _ _,Sl.nil _ _⟩,by simp,by simp⟩
     ·refine SC.cut (ι:=Unit) (fun _=>[(2,pp b2 0),(3,pp b3 0),(4,pp b4 0),(7,.slice pV V.length cV),(8,.slice pW W.length cW),(9,vi n),(10,pp b10 0),(12,pp b12 0),(70,vi kd),(158,vb (decide (kd=5∨kd=6)))]) (fun _=>g5) (fun _=>pt b12 (.cells #[vi yi,vi yd,.slice yp Y.sides.length yc] 53 (0,0))::pt b10 (.cells #[vi xi,vi xd,.slice xp X.sides.length xc] 53 (0,0))::pt b4 (.cells #[vi 0,vi 0,vi 0,vi 0,vi 0,.slice none 0 0,.slice none 0 0] 35 (0,0))::pt b3 (.cells #[.slice p l.length c] 29 (0,0))::pt b2 (.cells #[vi k0,vi ka,vi kb,vi kc] 37 (0,0))::s) (fun _=>True) ?_ ?_
      ·refine rZ (lU (eQ I I) (aT I ?_));refine iP I (fun h5=>?_) (fun h5=>?_)
       ·refine kP ?_;exact ST.mid () ⟨rfl,rfl,rfl,rfl,rfl,rfl,rfl,rfl,rfl,by rw[decide_eq_decide.2 (show (kd=5∨kd=6)↔kd=5 from ⟨fun _=>h5,.inl⟩)]; rfl,trivial⟩ rfl rfl trivial
       ·refine rG (lU (eQ I I) (lA I (nL ?_)));exact ST.mid () ⟨rfl,rfl,rfl,rfl,rfl,rfl,rfl,rfl,rfl,by rw[decide_eq_decide.2 (show (kd=5∨kd=6)↔kd=6 from ⟨fun h=>h.resolve_left h5,.inr⟩)]; rfl,trivial⟩ rfl rfl trivial
      rintro _ -;try dsimp only
      refine iP I (fun h56=>?_) (fun h56=>?_)
      ·refine SC.cut (ι:=Nat×Int) (fun i=>[(2,pp b2 0),(4,pp b4 0),(9,vi n),(10,pp b10 0),(15,pp i.1 0)]) (fun _=>g5) (fun i=>pt i.1 (.cells #[vi 3,vi i.2,vi 0,vi n,vi (IntKind.i64.wrap (n+1)),.slice none 0 0,.slice none 0 0] 35 (0,0))::pt b12 (.cells #[vi yi,vi yd,.slice yp Y.sides.length yc] 53 (0,0))::pt b10 (.cells #[vi xi,vi xd,.slice xp X.sides.length xc] 53 (0,0))::pt b4 (.cells #[vi 0,vi 0,vi 0,vi 0,vi 0,.slice none 0 0,.slice none 0 0] 35 (0,0))::pt b3 (.cells #[.slice p l.length c] 29 (0,0))::pt b2 (.cells #[vi k0,vi ka,vi kb,vi kc] 37 (0,0))::s) (fun _=>True) ?_ ?_
       ·refine rG (lM I (lU (fA gS I zT3 I) (lK (qL (v:=vi ka) iT3 I (cO 4 I I)) (lW (cL call40 I (dp E g5 _ _ W ka hW5 hl1)) ?_))));rintro _ _ _ ⟨rfl,rfl,a1,rfl⟩;refine lM I (lM I (lU (SU.addW I I) (lU (SU.build I (bC35 _ _ _ _)) (bW (aL zeroValue35) fun b15=>?_))));refine oZ (sK 0 eT rfl rfl rfl rfl rfl (by (repeat' (first | exact trivial | refine⟨by rfl,?_⟩)))) ?_;refine nL ?_;exact ST.mid (b15,a1) sB I I trivial
       rintro ⟨b15,a1⟩ -;try dsimp only
       refine SC.cut (ι:=Int×Int×Int) (fun _=>[(4,pp b4 0),(15,pp b15 0)]) (fun _=>g5) (fun i=>pt b15 (.cells #[vi 3,vi i.1,vi 0,vi i.2.1,vi i.2.2,.slice none 0 0,.slice none 0 0] 35 (0,0))::pt b12 (.cells #[vi yi,vi yd,.slice yp Y.sides.length yc] 53 (0,0))::pt b10 (.cells #[vi xi,vi xd,.slice xp X.sides.length xc] 53 (0,0))::pt b4 (.cells #[vi 0,vi 0,vi 0,vi 0,vi 0,.slice none 0 0,.slice none 0 0] 35 (0,0))::pt b3 (.cells #[.slice p l.length c] 29 (0,0))::pt b2 (.cells #[vi k0,vi ka,vi kb,vi kc] 37 (0,0))::s) (fun _=>True) ?_ ?_
       ·refine rZ (lU (fA gS I zT3 I) (lK (qL (v:=vi kb) iT3 I (cO 5 I I)) (lW (cL kp I (bI E g5 _ kb 12 dC)) ?_)));rintro _ _ _ ⟨rfl,rfl,rfl⟩;generalize cY kb 12=kt at *;refine tZ (bK (rZ (lU (eQ I I) (aT I ?_))));refine iP I (fun k0=>?_) (fun k0=>?_)
        ·refine rG (lU (fA aq rfl zT3 rfl) (lK (qL (v:=vi xi) iT3 rfl (cO 2 rfl rfl)) (lU (fA aK rfl zT3 rfl) (oZ (SO.store1 0 zT3 rfl rfl rfl rfl (bE rfl) (by rfl)) ?_))));refine nL (bN ?_);exact ST.mid (xi,n,IntKind.i64.wrap (n+1)) sB I I trivial
        ·refine rZ (lU (eQ I I) (aT I ?_));refine iP I (fun k1=>?_) (fun k1=>?_)
         ·refine rG (lU (fA aK rfl zT3 rfl) (lK (qL (v:=vi (IntKind.i64.wrap (n+1))) iT3 rfl (cO 0 rfl rfl)) (lU (fA aK rfl zT3 rfl) (oZ (SO.store1 0 zT3 rfl rfl rfl rfl (bE rfl) (by rfl)) ?_))));refine nL (bN ?_);exact ST.mid (a1,IntKind.i64.wrap (n+1),IntKind.i64.wrap (n+1)) sB I I trivial
         ·refine rZ (lU (eQ I I) (aT I ?_));refine iP I (fun k2=>?_) (fun k2=>?_)
          ·refine rG (lU (fA gS rfl zT3 rfl) (lK (qL (v:=vi ka) iT3 rfl (cO 5 rfl rfl)) (lU (SU.neg rfl) (lU (fA aK rfl zT3 rfl) (oZ (SO.store1 0 zT3 rfl rfl rfl rfl (bE rfl) (by rfl)) ?_)))));refine nL (bN ?_);exact ST.mid (a1,n,IntKind.i64.wrap (0 - ka)) sB I I trivial
          ·refine rZ (lU (eQ I I) (aT I ?_));refine iP I (fun k3=>?_) (fun k3=>?_)
           ·refine sW rfl (lU (SU.addW rfl rfl) (lU (fA aK rfl zT3 rfl) (oZ (SO.store1 0 zT3 rfl rfl rfl rfl (bE rfl) (by rfl)) ?_)));refine tZ (rG (lM rfl (lU (fA aK rfl zT3 rfl) (oZ (SO.store1 0 zT3 rfl rfl rfl rfl (bE rfl) (by rfl)) ?_))));refine nL (bN ?_);exact ST.mid (a1,IntKind.i64.wrap (n+1),n) sB I I trivial
           ·refine kP (bN ?_);exact ST.mid (a1,n,IntKind.i64.wrap (n+1)) sB I I trivial
       rintro ⟨e1,e2,e3⟩ -;try dsimp only
       refine rZ (lK (qV 0 jF eT I I I) ?_);refine oZ (sK 3 eT rfl rfl rfl rfl rfl (by (repeat' (first | exact trivial | refine⟨by rfl,?_⟩)))) ?_;refine tZ (rE (bR (tR ?_)));exact ST.retCD 3 s (.inl I) results13 I jF eT I I uR ⟨I,hle15,⟨3,e1,0,e2,e3,[],[]⟩,⟨_,_,I,Sl.nil _ _,Sl.nil _ _⟩,by simp,by simp⟩
      ·refine rZ (lU (eQ I I) (aT I ?_));refine iP I (fun h7=>?_) (fun h7=>?_)
       ·refine SC.cut (ι:=Nat×Option Addr×Nat×List Pr) (fun i=>[(2,pp b2 0),(3,pp b3 0),(4,pp b4 0),(7,.slice pV V.length cV),(8,.slice pW W.length cW),(16,pp i.1 0)]) (fun _=>g5) (fun i=>pt i.1 (.cells #[vi 4,vi 0,vi 0,vi 0,vi 0,.slice none 0 0,.slice i.2.1 i.2.2.2.length i.2.2.1] 35 (0,0))::rowA dB 60 (.slice i.2.1 i.2.2.2.length i.2.2.1) i.2.2.2::pt b12 (.cells #[vi yi,vi yd,.slice yp Y.sides.length yc] 53 (0,0))::pt b10 (.cells #[vi xi,vi xd,.slice xp X.sides.length xc] 53 (0,0))::pt b4 (.cells #[vi 0,vi 0,vi 0,vi 0,vi 0,.slice none 0 0,.slice none 0 0] 35 (0,0))::pt b3 (.cells #[.slice p l.length c] 29 (0,0))::pt b2 (.cells #[vi k0,vi ka,vi kb,vi kc] 37 (0,0))::s) (fun i=>i.2.2.2.length≤1) ?_ ?_
        ·refine rG (lU (fA aq I zT3 I) (lK (qL (v:=vi xi) iT3 I (cO 1 I I)) (lU (fA aq I zT3 I) (lK (qL (v:=vi yi) iT3 I (cO 0 I I)) (lU (SU.build I (build60 _ _)) (lW (bS sty33 I I I (ae ⟨I,trivial⟩) dC) ?_))))));rintro _ _ _ ⟨b203,rfl,rfl,rfl⟩;refine SL.to (fun w hw=>At.litRow (e:=dB) (l:=[(xi,yi)]) (n:=0) hw I I dC) ?_;refine lU (SU.build I (bD35 _ _ _ _)) (bW (aL zeroValue35) fun b16=>?_);refine oZ (sK 0 eT rfl rfl rfl rfl rfl (by (repeat' (first | exact trivial | refine⟨by rfl,?_⟩)))) ?_;refine nL ?_;exact ST.mid (b16,some ⟨b203,0,none⟩,1,[(xi,yi)]) sB I I (lR 1)
        rintro ⟨b16,q6,d6,P6⟩ hP6;dsimp only at hP6 ⊢;refine SC.cut (ι:=Option Addr×Nat×List Pr) (fun _=>[(2,pp b2 0),(3,pp b3 0),(4,pp b4 0),(7,.slice pV V.length cV),(8,.slice pW W.length cW),(16,pp b16 0)]) (fun i=>g5) (fun i=>pt b16 (.cells #[vi 4,vi 0,vi 0,vi 0,vi 0,.slice none 0 0,.slice i.1 i.2.2.length i.2.1] 35 (0,0))::rowA dB 60 (.slice i.1 i.2.2.length i.2.1) i.2.2::pt b12 (.cells #[vi yi,vi yd,.slice yp Y.sides.length yc] 53 (0,0))::pt b10 (.cells #[vi xi,vi xd,.slice xp X.sides.length xc] 53 (0,0))::pt b4 (.cells #[vi 0,vi 0,vi 0,vi 0,vi 0,.slice none 0 0,.slice none 0 0] 35 (0,0))::pt b3 (.cells #[.slice p l.length c] 29 (0,0))::pt b2 (.cells #[vi k0,vi ka,vi kb,vi kc] 37 (0,0))::s) (fun i=>i.2.2.length≤1) ?_ ?_
        ·refine rZ (lU (fA gS I zT3 I) (lK (qL (v:=vi kb) iT3 I (cO 6 I I)) (lU (SU.rem I I dC) (lU (eQ I I) (tZ ?_)))));refine iP I (fun hz=>?_) (fun hz=>?_)
         ·refine dW [12] [(0,2),(1,2),(2,1),(4,2),(5,2),(6,1),(7,2),(3,0),(8,0),(9,2),(10,0),(11,2),(12,0)] Tryz.mixed kR ?_;refine pU I (mV I) (pU I (fA gS I zT3 I) (pK I (qL (v:=vi ka) iT3 I (cO 6 I I)) (pU I (mV I) (pU I (fA gS I zT3 I) (pK I (qL (v:=vi kb) iT3 I (cO 6 I I)) (pU I (SU.quo I I dC) (SP.o I (cL call40 I (dp E g5 _ _ V ka hV5 hl0)) dC (.inr iR) ?_)))))));rintro _ _ _ ⟨rfl,rfl,a1,rfl⟩;refine SP.o I (cL call40 I (dp E g5 _ _ V _ hV5 hl0)) dC (.inr iR) ?_;rintro _ _ _ ⟨rfl,rfl,a2,rfl⟩;refine pU I (SU.build I (build60 _ _)) (SP.o I (bS sty33 I I I (ae ⟨I,trivial⟩) dC) dC (.inr iR) ?_);rintro _ _ _ ⟨b219,rfl,rfl,rfl⟩;refine SP.to (fun w hw=>At.litRow (e:=dB) (l:=[(a1,a2)]) (n:=0) hw I I dC) ?_;refine SP.drop (.cons_cons _ (.cons_cons _ (.cons _ (.refl _)))) ?_;refine SP.to (fun w hw=>At.perm hw (List.Perm.swap (pt b16 _) _ _)) ?_;refine pU rfl (fA aK rfl i7 rfl) (SP.on rfl (SO.store1 0 i7 rfl rfl rfl rfl (bE rfl) (by rfl)) (.inl dC) ?_);rintro _ _ _ ⟨rfl,rfl⟩;refine pN ?_;exact ST.mid (some ⟨b219,0,none⟩,1,[(a1,a2)]) sB I I (lR 1)
         ·refine kP ?_;exact ST.mid (q6,d6,P6) sB I I hP6
        clear hP6;rintro ⟨q6,d6,P6⟩ hP6;dsimp only at hP6 ⊢;refine SC.cut (ι:=PH×Option Addr×Nat×List Pr) (fun _=>[(2,pp b2 0),(3,pp b3 0),(4,pp b4 0),(7,.slice pV V.length cV),(8,.slice pW W.length cW),(16,pp b16 0)]) (fun i=>i.1) (fun i=>pt b16 (.cells #[vi 4,vi 0,vi 0,vi 0,vi 0,.slice none 0 0,.slice i.2.1 i.2.2.2.length i.2.2.1] 35 (0,0))::rowA dB 60 (.slice i.2.1 i.2.2.2.length i.2.2.1) i.2.2.2::pt b12 (.cells #[vi yi,vi yd,.slice yp Y.sides.length yc] 53 (0,0))::pt b10 (.cells #[vi xi,vi xd,.slice xp X.sides.length xc] 53 (0,0))::pt b4 (.cells #[vi 0,vi 0,vi 0,vi 0,vi 0,.slice none 0 0,.slice none 0 0] 35 (0,0))::pt b3 (.cells #[.slice p l.length c] 29 (0,0))::pt b2 (.cells #[vi k0,vi ka,vi kb,vi kc] 37 (0,0))::s) (fun i=>Le g5 i.1∧i.2.2.2.length≤1) ?_ ?_
        ·refine rZ (lU (fA gS I zT3 I) (lK (qL (v:=vi kb) iT3 I (cO 6 I I)) (lU (SU.rem I I dC) (lU (eQ I I) (tZ ?_)))));refine iP I (fun hz=>?_) (fun hz=>?_)
         ·refine rG (lK (qV 5 ar ag I I I) (lU (fA gS I zT3 I) (lK (qL (v:=vi ka) iT3 I (cO 6 I I)) (lW (cL call43 I (vY E g5 _ _ l ka hv5 hf)) ?_))));rintro v228 g6 _ ⟨Q6,rfl,hle6,hQ6⟩;refine SL.facts fun ⟨w0,hw0⟩=>?_;obtain ⟨q7,d7,rfl⟩:=ah (e:=dB) (l:=Q6) (i:=0) hw0 rfl;clear hw0 w0;refine SL.drop (.cons_cons _ (.cons_cons _ (.cons _ (.refl _)))) ?_;refine SL.to (fun w hw=>At.perm hw (List.Perm.swap (pt b16 _) _ _)) ?_;refine lU (fA aK rfl i7 rfl) (oZ (SO.store1 0 i7 rfl rfl rfl rfl (bE rfl) (by rfl)) ?_);refine nL ?_;exact ST.mid (g6,q7,d7,Q6) sB I I ⟨hle6,hQ6⟩
         ·refine kP ?_;exact ST.mid (g5,q6,d6,P6) sB I I ⟨Le.refl _,hP6⟩
        clear hP6;rintro ⟨g6,q6,d6,P6⟩ ⟨hle6,hP6⟩;dsimp only at hle6 hP6 ⊢;have hV6:=SlA.mono hV5 hle6;have hW6:=SlA.mono hW5 hle6;refine SC.cut (ι:=PH×Option Addr×Nat×List Pr) (fun _=>[(4,pp b4 0),(16,pp b16 0)]) (fun i=>i.1) (fun i=>pt b16 (.cells #[vi 4,vi 0,vi 0,vi 0,vi 0,.slice none 0 0,.slice i.2.1 i.2.2.2.length i.2.2.1] 35 (0,0))::rowA dB 60 (.slice i.2.1 i.2.2.2.length i.2.2.1) i.2.2.2::pt b12 (.cells #[vi yi,vi yd,.slice yp Y.sides.length yc] 53 (0,0))::pt b10 (.cells #[vi xi,vi xd,.slice xp X.sides.length xc] 53 (0,0))::pt b4 (.cells #[vi 0,vi 0,vi 0,vi 0,vi 0,.slice none 0 0,.slice none 0 0] 35 (0,0))::pt b3 (.cells #[.slice p l.length c] 29 (0,0))::pt b2 (.cells #[vi k0,vi ka,vi kb,vi kc] 37 (0,0))::s) (fun i=>i.1=g6∧i.2.2.2.length≤2) ?_ ?_
        ·refine rZ (lU (fA gS I zT3 I) (lK (qL (v:=vi kc) iT3 I (cO 6 I I)) (lU (SU.rem I I dC) (lU (eQ I I) (tZ ?_)))));refine iP I (fun hz=>?_) (fun hz=>?_)
         ·refine dW [12,14] [(0,2),(1,1),(2,2),(3,2),(4,1),(6,2),(7,2),(8,1),(5,0),(9,0),(10,2),(11,0),(12,0),(13,2),(14,0)] Tryz.mixed kR ?_;refine pU I (fA aK I i7 I) (pK I (qL (v:=.slice q6 P6.length d6) kY I (cO 0 I I)) (pU I (mV I) (pU I (fA gS I zT3 I) (pK I (qL (v:=vi ka) iT3 I (cO 6 I I)) (pU I (mV I) (pU I (fA gS I zT3 I) (pK I (qL (v:=vi kb) iT3 I (cO 6 I I)) (SP.o I (cL call40 I (dp E g6 _ _ W ka hW6 hl1)) dC (.inr iR) ?_))))))));rintro _ _ _ ⟨rfl,rfl,a1,rfl⟩;refine SP.o I (cL call40 I (dp E g6 _ _ W kb hW6 hl1)) dC (.inr iR) ?_;rintro _ _ _ ⟨rfl,rfl,a2,rfl⟩;refine pU I (SU.build I (build60 _ _)) (SP.o I (bS sty33 I I I (ae ⟨I,trivial⟩) dC) dC (.inr iR) ?_);rintro _ _ _ ⟨b245,rfl,rfl,rfl⟩;refine SP.o I (aP (e:=dB) (l:=P6) 1 (a1,a2) sty33 I I I I I oM oM) dC (.inl dC) ?_;rintro v246 _ _ ⟨rfl,rfl⟩;refine SP.facts fun ⟨w0,hw0⟩=>?_;obtain ⟨q7,d7,rfl⟩:=ah (e:=dB) (l:=P6++[(a1,a2)]) (i:=1) hw0 rfl;clear hw0 w0;refine pU rfl (fA aK rfl i7 rfl) (SP.on rfl (SO.store1 0 i7 rfl rfl rfl rfl (bE rfl) (by rfl)) (.inl dC) ?_);rintro _ _ _ ⟨rfl,rfl⟩;refine pN ?_;exact ST.mid (g6,q7,d7,P6++[(a1,a2)]) sB I I ⟨I,by dsimp only; rw[List.length_append,List.length_singleton]; omega⟩
         ·refine kP ?_;exact ST.mid (g6,q6,d6,P6) sB I I ⟨I,by dsimp only; omega⟩
        clear hP6;rintro ⟨g7,q6,d6,P6⟩ ⟨hg7,hP6⟩;dsimp only at hg7 hP6 ⊢;subst hg7;refine rZ (lK (qV 0 jF eT I I I) ?_);refine oZ (sK 4 eT rfl rfl rfl rfl rfl (by (repeat' (first | exact trivial | refine⟨by rfl,?_⟩)))) ?_;refine tZ (rE (bR (tR (ST.perm (List.Perm.swap _ _ _) (fT fun g8 hle8 hs8=>?_)))));exact ST.retCD 3 s (.inl I) results13 I jF eT I I uR ⟨I,hle15.trans (hle6.trans hle8),⟨4,0,0,0,0,[],P6⟩,⟨_,_,I,Sl.nil _ _,hs8⟩,by simp,by dsimp only; omega⟩
       ·refine rZ (lU (eQ I I) (aT I ?_));refine iP I (fun h8=>?_) (fun h8=>?_)
        ·refine rZ (lK (qV 3 ar ag I I I) (lW (cL call44 I (tC E g5 _ _ l hv5 hf)) ?_));rintro v252 g6 _ ⟨rfl,hle6,F8,hF8,hFl⟩;obtain ⟨pF,cF,rfl⟩:=SlA.form hF8;have hle16:=hle15.trans hle6;refine aT I ?_;refine SC.cut (ι:=Unit) (fun _=>[(4,pp b4 0),(10,pp b10 0),(12,pp b12 0)]) (fun _=>g6) (fun _=>pt b12 (.cells #[vi yi,vi yd,.slice yp Y.sides.length yc] 53 (0,0))::pt b10 (.cells #[vi xi,vi xd,.slice xp X.sides.length xc] 53 (0,0))::pt b4 (.cells #[vi 0,vi 0,vi 0,vi 0,vi 0,.slice none 0 0,.slice none 0 0] 35 (0,0))::pt b3 (.cells #[.slice p l.length c] 29 (0,0))::pt b2 (.cells #[vi k0,vi ka,vi kb,vi kc] 37 (0,0))::s) (fun _=>True) ?_ ?_
         ·refine SC.cutB 261 (decide (0<F8.length)&&decide (kb.tmod 5≠0)) ?_ ?_
          ·refine rG (lM I (lU (eN i8 I) (lU (gR I I) (lM I ?_))));refine sP ?_ ?_
           ·intro h256;refine lY I I I (fA gS I zT3 I) (SL.gq (gT I I I dC) (qL (v:=vi kb) iT3 I (cO 4 I I)) dC (lY I I I (SU.rem I I dC) (lY I I I (nQ I I) (lU (wT I I) (nL ?_)))));exact ST.mid1 (by (simp_all[a8]; done)) mI
           ·intro h256;refine lZ I I I (lZ I I I (lZ I I I (lZ I I I (lU (wF I I) (nL ?_)))));exact ST.mid1 (by (simp_all[a8]; done)) mI
          refine iQ I (fun hq=>?_) (fun hq=>?_)
          ·simp only[Bool.and_eq_true,decide_eq_true_iff] at hq;obtain ⟨hm1,hm2⟩:=pg ka F8.length oM oM;have hbF:=SlA.based hF8 hq.1;have hgF:F8[(cY ka F8.length).toNat]?=some F8[(cY ka F8.length).toNat]:=gE hm2;generalize F8[(cY ka F8.length).toNat]=pr at *;obtain ⟨p1,p2⟩:=pr;refine sW I (lU (fA gS I zT3 I) (lK (qL (v:=vi ka) iT3 I (cO 4 I I)) (lM I (lU (eN i8 I) (lW (cL kp I (bI E g6 _ ka F8.length oM)) ?_)))));rintro _ _ _ ⟨rfl,rfl,rfl⟩;rw[hm1];refine lU (iA i8 iJ I I hbF oM sL) (lK (eA isAgg60 iJ I (SlA.rd hF8) hgF) (bW (aL zeroValue60) fun b18=>?_));refine oZ (sK 0 iJ I I I I I sB) ?_;refine tZ (rZ (lU (iB gr zT3 I I dC dC) (lK (qL (v:=vi p1) iT3 I (cO 0 I I)) (lU (iB gr zT3 I I dC dC) (lK (qL (v:=vi p2) iT3 I (cO 0 I I)) (lU (SU.build I (bE35 _ _ _)) ?_))))));refine oZ (sK 3 eT rfl rfl rfl rfl rfl (by (repeat' (first | exact trivial | refine⟨by rfl,?_⟩)))) ?_;refine tZ (rE (tR (bR (tR ?_))));exact ST.retCD 3 s (.inl I) results13 I jF eT I I uR ⟨I,hle16,⟨5,p1,0,0,p2,[],[]⟩,⟨_,_,I,Sl.nil _ _,Sl.nil _ _⟩,by simp,by simp⟩
          ·refine kP ?_;exact ST.mid () sB I I trivial
         rintro _ -;try dsimp only
         refine rZ (lU (fA aq I zT3 I) (lK (qL (v:=vi xi) iT3 I (cO 1 I I)) (lU (fA aq I zT3 I) (lK (qL (v:=vi yi) iT3 I (cO 0 I I)) (lU (SU.build I (bE35 _ _ _)) ?_)))));refine oZ (sK 2 eT rfl rfl rfl rfl rfl (by (repeat' (first | exact trivial | refine⟨by rfl,?_⟩)))) ?_;refine tZ (rE (bR (tR ?_)));exact ST.retCD 2 s (.inl I) results13 I jF eT I I uR ⟨I,hle16,⟨5,xi,0,0,yi,[],[]⟩,⟨_,_,I,Sl.nil _ _,Sl.nil _ _⟩,by simp,by simp⟩
        ·refine kP (bN (tN (rZ (lU (fA gS I zT3 I) (lK (qL (v:=vi ka) iT3 I (cO 4 I I)) (lU (SU.rem I I dC) (lU (SU.subW I I) (lU (fA gS I zT3 I) (lK (qL (v:=vi kb) iT3 I (cO 4 I I)) (lU (fA gS I zT3 I) (lK (qL (v:=vi kc) iT3 I (cO 4 I I)) (lU (SU.rem I I dC) (lU (fA gS I zT3 I) (lK (qL (v:=vi ka) iT3 I (cO 4 I I)) (lU (fA gS I zT3 I) (lK (qL (v:=vi kc) iT3 I (cO 4 I I)) (lU (fA gS I zT3 I) (lK (qL (v:=vi kb) iT3 I (cO 4 I I)) (lU (SU.build I (buildS55 _ _)) (lW (bS sty32 I I I (ae ⟨I,trivial⟩) dC) ?_))))))))))))))))))));rintro _ _ _ ⟨b296,rfl,rfl,rfl⟩;refine SL.freeze fun g6 hle6 hb6=>?_;have hs6:SlA encSide g6 (.slice (some ⟨b296,0,none⟩) 1 1) [⟨kb,1⟩]:=SlA.lit hb6 rfl rfl;refine lU (fA gS I zT3 I) (lK (qL (v:=vi ka) iT3 I (cO 4 I I)) (lU (fA gS I zT3 I) (lK (qL (v:=vi kc) iT3 I (cO 4 I I)) (lU (SU.build I (build60 _ _)) (lW (bS sty33 I I I (ae ⟨I,trivial⟩) dC) ?_)))));rintro _ _ _ ⟨b302,rfl,rfl,rfl⟩;refine SL.freeze fun g7 hle7 hb7=>?_;have hs7:SlA dB g7 (.slice (some ⟨b302,0,none⟩) 1 1) [(ka,kc)]:=SlA.lit hb7 rfl rfl;refine lU (SU.build I (bF35 _ _ _ _ _ _ _ _ _ _ _)) ?_;refine oZ (sK 2 eT rfl rfl rfl rfl rfl (by (repeat' (first | exact trivial | refine⟨by rfl,?_⟩)))) ?_;refine tZ (rE ?_);exact ST.retCD 2 s (.inl I) results13 I jF eT I I uR ⟨I,hle15.trans (hle6.trans hle7),⟨_,kb,_,ka,kc,[⟨kb,1⟩],[(ka,kc)]⟩,⟨_,_,I,SlA.mono hs6 hle7,hs7⟩,by simp,by simp⟩
theorem Tryz.sty67:STy Tryz.prog 67 46 2 32 (.agg #[.slice none 0 0,vb false]):=⟨underlying67,⟨t46,by kernel_rfl,by kernel_rfl,by kernel_rfl,by kernel_rfl⟩,rfl,by decide⟩
theorem Tryz.sty63:STy Tryz.prog 63 35 7 88 (.agg #[vi 0,vi 0,vi 0,vi 0,vi 0,.slice none 0 0,.slice none 0 0]):=⟨underlying63,⟨t35,by kernel_rfl,by kernel_rfl,by kernel_rfl,by kernel_rfl⟩,rfl,by decide⟩
structure Er where
 kind:Int
 cell:Int
 dim:Int
 new:Int
 other:Int
 sv:Sv
 pv:Sv
def pD:Enc Er 7:=⟨fun r=>[vi r.kind,vi r.cell,vi r.dim,vi r.new,vi r.other,.slice r.sv.p r.sv.n r.sv.c,.slice r.pv.p r.pv.n r.pv.c],fun _=>rfl,fun _ u hu=>by simp at hu; rcases hu with rfl | rfl | rfl | rfl | rfl | rfl | rfl <;> rfl,by decide⟩
def erv (r:Er):Value:=.agg (pD.enc r).toArray
def EdK (g:PH)(e:Ed)(r:Er):Prop:=EdR g (erv r) e
theorem EdK.mono {g g':PH}(hl:Le g g'){e:Ed}{r:Er}(h:EdK g e r):EdK g' e r:=EdR.mono h hl
theorem EdR.rc {g:PH}{v:Value}{e:Ed}(h:EdR g v e):∃ r:Er,v=erv r∧EdK g e r:=by
 obtain ⟨sv,pv,rfl,h1,h2⟩:=h;obtain ⟨p,c,rfl⟩:=SlA.form h1;obtain ⟨q,d,rfl⟩:=SlA.form h2;exact⟨⟨e.kind,e.cell,e.dim,e.new,e.other,⟨p,e.sides.length,c⟩,⟨q,e.pairs.length,d⟩⟩,I,_,_,I,h1,h2⟩
def EdS (e:Ed):Prop:=e.sides.length<1099511627776∧e.pairs.length≤3
def Eds (g:PH)(v:Value)(l:List Ed):Prop:=∃ rs,SlA pD g v rs∧aC (EdK g) l rs
theorem Eds.mono {g g':PH}{v:Value}{l:List Ed}(h:Eds g v l)(hl:Le g g'):Eds g' v l:=by
 obtain ⟨rs,h1,h2⟩:=h;exact⟨rs,SlA.mono h1 hl,h2.mono fun _ _=>EdK.mono hl⟩
theorem Eds.form {g:PH}{v:Value}{l:List Ed}(h:Eds g v l):∃ p c,v = .slice p l.length c:=by
 obtain ⟨rs,h1,h2⟩:=h;rw[h2.length];exact SlA.form h1
structure Sr where
 sv:Sv
 bk:Bool
abbrev Stp:=List (Int×List Tm)×Bool
def mM:Enc Sr 2:=⟨fun r=>[.slice r.sv.p r.sv.n r.sv.c,vb r.bk],fun _=>rfl,fun _ u hu=>by simp at hu; rcases hu with rfl | rfl <;> rfl,by decide⟩
def srv (r:Sr):Value:=.agg (mM.enc r).toArray
def StK (g:PH)(x:Stp)(r:Sr):Prop:=r.bk=x.2∧Ims g (.slice r.sv.p r.sv.n r.sv.c) x.1
theorem StK.mono {g g':PH}(hl:Le g g'){x:Stp}{r:Sr}(h:StK g x r):StK g' x r:=⟨h.1,h.2.mono hl⟩
def Sts (g:PH)(v:Value)(l:List Stp):Prop:=∃ rs,SlA mM g v rs∧aC (StK g) l rs
theorem Sts.mono {g g':PH}{v:Value}{l:List Stp}(h:Sts g v l)(hl:Le g g'):Sts g' v l:=by
 obtain ⟨rs,h1,h2⟩:=h;exact⟨rs,SlA.mono h1 hl,h2.mono fun _ _=>StK.mono hl⟩
theorem Sts.nil (g:PH):Sts g (.slice none 0 0) []:=⟨[],Sl.nil g _,trivial⟩
def imO (l:List Cl)(e:Ed):Stp:=if (cQ l e).1=0 then (sj l e,bkK e) else ([],false)
theorem e8.one {l:List Cl}{e:Ed}{r:Value}{g:PH}(h:e8 (cQ l e).1 (cQ l e).2 (sj l e) (bkK e) r g) :
  ∃ u:Sv,∃ x:Sr,r = .tuple #[.agg #[.slice u.p u.n u.c],srv x,vi (cQ l e).1]∧ao g (.slice u.p u.n u.c) (cQ l e).2∧StK g (imO l e) x:=by
 obtain ⟨u,p,n,c,b,h1,h2,h3,h4⟩:=h;obtain ⟨q,d,rfl⟩:=h2.form;refine⟨⟨q,_,d⟩,⟨⟨p,n,c⟩,b⟩,h1,h2,?_⟩;unfold imO;by_cases h0:(cQ l e).1=0
 ·rw[if_pos h0]; exact h3 h0
 ·rw[if_neg h0]; exact h4 h0
def StS (x:Stp):Prop:=x.1.length≤4000∧∀ p∈x.1,p.2.length≤64
theorem zv {A:List Cl}(h:Rt A)(e:Ed)(k:Int):(sk A e k).length≤64:=by
 unfold sk;split
 ·unfold iD; split
  ·unfold bQ; split <;> simp
  ·simp
 split
 ·unfold gK; split <;> simp
 split
 ·unfold me; split
  ·unfold cJ;rw[List.length_map];refine Nat.le_trans (List.length_filter_le _ _) ?_
   rcases h.getD e.other with h1 | h1
   ·first | (rw[h1]; decide) | (rw[h.findC,h1]; decide)
   ·first | exact h.few64 h1 | (rw[h.findC]; exact h.few64 h1)
  ·split <;> simp
 ·simp
theorem qS (l:List Cl)(e:Ed):StS (imO l e):=by
 unfold imO;by_cases h0:(cQ l e).1=0
 ·rw[if_pos h0];have hA:=wj (sF h0).2.1;refine⟨?_,fun p hp=>?_⟩
  ·show (sj l e).length≤4000;unfold sj;rw[List.length_map];split
   ·exact zR l e
   ·exact hA.few
  ·have hp':p∈sj l e:=hp;unfold sj at hp';obtain ⟨c,_,rfl⟩:=List.mem_map.1 hp';exact zv hA e c.id
 ·rw[if_neg h0];exact⟨by simp,by simp⟩
def nH:List Cl→List Stp→Nat→List Ed→(Int×Int)×List Cl×List Stp
 | A,ss,_,[]=>((0,0),A,ss)
 | A,ss,i,e::es=>if (cQ A e).1=0 then nH (cQ A e).2 (ss++[imO A e]) (i+1) es else (((cQ A e).1,(i:Int)),[],[])
def mc (l:List Cl)(es:List Ed):(Int×Int)×List Cl×List Stp:=if 1000<es.length then ((2,0),[],[]) else if (aJ l).2≠0 then ((1,0),[],[]) else nH (aa l) [] 0 es
def uQ (R:(Int×Int)×List Cl×List Stp)(r:Value)(g:PH):Prop:=∃ u p n c,r = .tuple #[.agg #[u],.slice p n c,vi R.1.2,vi R.1.1]∧ao g u R.2.1∧Sts g (.slice p n c) R.2.2
theorem vU {es:List Ed}:∀ {A:List Cl} {ss:List Stp} {i:Nat},be A→ss.length+es.length≤1000→(∀ x∈ss,StS x)→be (nH A ss i es).2.1∧(nH A ss i es).2.2.length≤1000∧∀ x∈(nH A ss i es).2.2,StS x:=by
 induction es with
 | nil=>intro A ss i hA hl hs; exact⟨hA,by show ss.length≤1000; simpa using hl,hs⟩
 | cons e es ih =>
  intro A ss i hA hl hs;unfold nH;split
  ·refine ih (jf A e) (by simp at hl ⊢; omega) fun x hx=>?_
   rcases List.mem_append.1 hx with h | h
   ·exact hs x h
   ·simp at h; subst h; exact qS A e
  ·exact⟨⟨by simp,by simp⟩,by simp,by simp⟩
theorem vV {l:List Cl}{es:List Ed}(hf:be l):be (mc l es).2.1∧(mc l es).2.2.length≤1000∧∀ x∈(mc l es).2.2,StS x:=by
 unfold mc;split
 ·exact⟨⟨by simp,by simp⟩,by simp,by simp⟩
 ·split
  ·exact⟨⟨by simp,by simp⟩,by simp,by simp⟩
  ·exact vU (bg hf) (by simp; omega) (by simp)
open Go.ChangeShapes Go.WideShapes Go.ChangeAt Go.RowKit
set_option maxRecDepth 100000
abbrev Ac:=Int×Int×Int×Int
def mN:Enc Ac 4:=⟨fun a=>[vi a.1,vi a.2.1,vi a.2.2.1,vi a.2.2.2],fun _=>rfl,fun _ u hu=>by simp at hu; rcases hu with rfl | rfl | rfl | rfl <;> rfl,by decide⟩
theorem AN {W:World}{k:Nat}{a:Addr}{len cap:Nat}{xs:List Value}(hl:len≤cap)(hx:xs.length=len * k)(hc:∀ i x,xs[i]?=some x→W.cell? (a.add i)=some x):Sl (pH W) k (.slice (some a) len cap) len xs:=by
 refine⟨some a,cap,I,⟨hx,hl⟩,fun hne=>?_⟩;obtain ⟨b,o,sp⟩:=a;have h0:0<xs.length:=List.length_pos_iff.2 hne;have hc0:=hc 0 xs[0] (gE h0);have hsp:sp=none:=by simpa [Addr.add] using World.cell?_spot hc0
 subst hsp;have hadd:∀ i,(⟨b,o,none⟩:Addr).add i=⟨b,o+i,none⟩:=fun i=>by unfold Addr.add; split <;> simp_all
 simp only[hadd] at hc;have hcell:∀ i x,xs[i]?=some x→∃ cs T fr,W.heap[b]?=some (.cells cs T fr)∧cs[o+i]?=some x:=fun i x hi=>by
  have h1:=hc i x hi;unfold World.cell? at h1;split at h1
  ·rename_i cs T fr hh;exact⟨cs,T,fr,hh,by simpa using h1⟩
  ·cases h1
 obtain ⟨cs,T,fr,hb,_⟩:=hcell 0 xs[0] (gE h0);refine⟨b,o,cs,T,fr,I,hb,fun j x hj=>?_⟩;obtain ⟨cs',T',fr',hb',h2⟩:=hcell j x hj;rw[hb] at hb';cases hb';exact h2
theorem yj {α:Type}{k:Nat}(e:Enc α k){l:List α}{j:Nat}{x:Value}(h:(l.flatMap e.enc)[j]?=some x):∃ i a,l[i]?=some a∧j=i * k+j % k∧j % k<k∧(e.enc a)[j % k]?=some x:=by
 have hj:=(List.getElem?_eq_some_iff.1 h).1;rw[e.length] at hj;have hk:=e.pos;have h1:j / k<l.length:=by rw[Nat.div_lt_iff_lt_mul hk]; exact hj
 have h2:j % k<k:=Nat.mod_lt _ hk;have h3:j=j / k * k+j % k:=by rw[Nat.mul_comm]; exact (Nat.div_add_mod j k).symm
 refine⟨j / k,l[j / k],gE h1,h3,h2,?_⟩;have h4:(e.enc l[j / k])[j % k]?=some ((e.enc l[j / k])[j % k]'(by rw[e.len]; exact h2)):=gE _;have h5:=e.get (gE h1) h4;rw[← h3,h] at h5;rw[h4,← h5]
section
variable {H:Type}{enc:TypeId×Value→H}{W:World}{base:Nat}{spare:Nat→Bool}{hd:Bool}
theorem Tryz.cells37:Tryz.prog.cellsOf 37=4:=by kernel_rfl
theorem BX {fuel:Nat}{cs:List Value}{x:DataW H×List MemPlace}(h:DataW.trod enc Tryz.prog W base spare hd fuel 37 cs=some x):∃ a:Ac,cs=mN.enc a:=by
 obtain ⟨y0,y1,y2,y3,n,_,hl,h0,h1,h2,h3⟩:=Go.Joins.trod_struct4 gS h;rw[cells37] at hl
 match cs,hl with
 | [c0,c1,c2,c3],_ =>
  rw[cells3] at h0 h1 h2 h3;obtain ⟨a,e0,_,_⟩:=DataW.trod_int uT3 h0;obtain ⟨b,e1,_,_⟩:=DataW.trod_int uT3 h1;obtain ⟨c,e2,_,_⟩:=DataW.trod_int uT3 h2;obtain ⟨d,e3,_,_⟩:=DataW.trod_int uT3 h3;simp at e0 e1 e2 e3;subst e0 e1 e2 e3;exact⟨(a,b,c,d),I⟩
theorem Bh {fuel:Nat}{v:Value}{x:DataW H×List MemPlace}(h:DataW.trod enc Tryz.prog W base spare hd fuel 25 [v]=some x):∃ l:List Ac,SlA mN (pH W) v l:=by
 rcases Go.Deep.open_slice underlying25 h with ⟨hcs,_⟩ | ⟨a,len,cap,m,n,D,Pl,hcs,_,hl,_,hmm,_,hx⟩
 ·simp at hcs;subst hcs;exact⟨[],Sl.nil _ _⟩
 ·simp at hcs;subst hcs;have hlm:len≤m:=by rw[hmm]; split <;> omega
  obtain ⟨f,hf⟩:=Go.Deep.choose_lt (α:=Ac) (n:=len) (p:=fun i y=>∀ j x,(mN.enc y)[j]?=some x→W.cell? (a.add (i * 4+j))=some x) fun i hi=>by
   obtain ⟨cs',h1,h2⟩:=hx i oM;rw[cells37] at h1;obtain ⟨y,rfl⟩:=BX h2;obtain ⟨_,_,h3⟩:=World.cells?_some h1;refine⟨y,fun j x hj=>?_⟩;have hj4:j<4:=by have:=(List.getElem?_eq_some_iff.1 hj).1; rwa [mN.len] at this
   rw[← Go.Deep.add_add,h3 j hj4,hj]
  refine⟨(List.range len).map f,?_⟩;show Sl (pH W) 4 _ ((List.range len).map f).length (((List.range len).map f).flatMap mN.enc);rw[List.length_map,List.length_range];refine AN hl (by rw[mN.length,List.length_map,List.length_range]) fun j y hj=>?_;obtain ⟨i,b,hi,h1,h2,h3⟩:=yj mN hj;rw[List.getElem?_map] at hi;cases hc:(List.range len)[i]? with
  | none=>rw[hc] at hi; cases hi
  | some z =>
   rw[hc] at hi;cases hi;obtain ⟨h4,h5⟩:=List.getElem?_eq_some_iff.1 hc;simp at h4 h5;subst h5;rw[h1];exact hf i h4 _ _ h3
theorem zU {v:Value}{d:DataW H}{p:List MemPlace}(h:DataW.Trod enc Tryz.prog W base spare hd 25 v d p)(hv:v.cells = #[v]):∃ l:List Ac,SlA mN (pH W) v l:=by
 obtain ⟨f,hf⟩:=h;rw[hv] at hf;exact Bh hf
end
end Go.Proofs.YtackilpikhkijaaGreatDoor
