/- 4 -/
import Derived.Test.YtcfkpajlakidbaaGreatTp03
import Derived.Test.YtcfkpajlakidbaaGreatTp02
import Derived.Shelf.Sort.Plain
import Derived.Shelf.Slices.In.SortNone
import Derived.Sort.OwnSortedInts
set_option linter.unusedSimpArgs false
set_option linter.unusedVariables false
namespace Go.Sy
open Go
def mns (g' g:PH):PH:=fun b=>match g b with | none=>g' b | some _=>none
theorem px {g' g:PH}{b:Nat}(h:g b=none):mns g' g b=g' b:=by simp only[mns,h]
theorem pw {g' g:PH}{b:Nat}{o:Obj}(h:mns g' g b=some o):g b=none∧g' b=some o:=by
 unfold mns at h;split at h
 ·rename_i e; exact⟨e,h⟩
 ·cases h
theorem qd (g' g:PH):Le (mns g' g) g':=fun _ _ h=>(pw h).2
theorem py {g g' g'':PH}(h:Le g' g''):Le (mns g' g) (mns g'' g):=fun b o hb=>by
 obtain ⟨h1,h2⟩:=pw hb;rw[px h1]; exact h _ _ h2
theorem uB {g0 g g':PH}(h:Le g0 g):Le (mns g' g) (mns g' g0):=fun b o hb=>by
 obtain ⟨h1,h2⟩:=pw hb;have:g0 b=none:=by
  cases h3:g0 b with
  | none=>rfl
  | some x=>rw[h _ _ h3] at h1; cases h1
 rw[px this]; exact h2
section
variable {α:Type}{k:Nat}{e:Enc α k}{T U:TypeId}{g g':PH}{s:Own}{v:Value}{l:List α}
def RK (e:Enc α k)(T:TypeId)(g:PH)(v:Value)(l:List α):Prop:=(∃ p,v = .slice p 0 0∧l=[]) ∨
 ∃ b cap cur,v = .slice (some ⟨b,0,none⟩) l.length (cap+1)∧g b=some (.cells cur T (0,0))∧l.length≤cap+1∧cur.size=(cap+1) * k∧cur.toList.take (l.length * k)=l.flatMap e.enc
theorem RK.mono (h:RK e T g v l)(hl:Le g g'):RK e T g' v l:=by
 rcases h with h | ⟨b,cap,cur,h1,h2,h3⟩
 ·exact .inl h
 ·exact .inr ⟨b,cap,cur,h1,hl _ _ h2,h3⟩
theorem RK.sl (h:RK e T g v l):SlA e g v l:=by
 rcases h with ⟨p,rfl,rfl⟩ | ⟨b,cap,cur,rfl,h2,h3,h4,h5⟩
 ·exact⟨p,0,I,⟨by simp,lR _⟩,fun h=>absurd I h⟩
 ·refine⟨_,_,I,⟨e.length l,h3⟩,fun _=>⟨b,0,cur,T,(0,0),I,h2,fun j x hj=>?_⟩⟩;rw[← h5,zh8] at hj;split at hj
  ·simpa using hj
  ·cases hj
theorem RK.form (h:RK e T g v l):∃ p c,v = .slice p l.length c:=h.sl.form
theorem At.freezeRowK {E:World}{w:World}(h:At E g (rowA e T v l::s) w):∃ g',Le g g'∧At E g' s w∧RK e T (mns g' g) v l:=by
 obtain ⟨hlen,h1⟩:=eK (i:=0) h rfl
 rcases h1 with ⟨p,rfl,h0⟩ | ⟨b,cap,cur,rfl,hb,hle,_,hsz,htake⟩
 ·exact⟨g,zb7 g,h.sublist (List.sublist_cons_self _ _),.inl ⟨p,I,zf2 h0⟩⟩
 ·have hf:=h.fresh _ (List.mem_cons_self ..) b rfl;obtain ⟨h2,h3⟩:=h.freeze (b:=b) rfl hb;exact⟨_,h3,h2,.inr ⟨b,cap,cur,I,by rw[px hf.1]; exact e8 _ _ _,hle,hsz,htake⟩⟩
variable {P:Program}{N:Nat}{E:World}{ops:Array Oper}{Q:Exit→Act→World→Prop}{f:Fr}
theorem SL.freezeRowK {o:List Oper}(h:∀ g',Le g g'→RK e T (mns g' g) v l→SL P N E ops Q o f g' s):SL P N E ops Q o f g (rowA e T v l::s):=fun a w ha hw=>by
 obtain ⟨g',h1,h2,h3⟩:=hw.freezeRowK;exact h g' h1 h3 a w ha h2
end
section
variable {P:Program}{N:Nat}{E:World}{f:Fr}{g:PH}{s:Own}{dst:Option Tmp}{ty:TypeId}{pos:String}{af:Array Edge}{gd:Option (Nat×Bool)}
end
section
variable {α:Type}{k:Nat}{e:Enc α k}{T U:TypeId}{g:PH}{v:Value}{l:List α}
end
end Go.Sy
namespace Go.Proofs.YtcfkpajlakidbaaGreat
open _root_.Go.Proofs.Tryz _root_.Go.Proofs.YtcfkpajlakidbaaGreat.Tryz
open Go Go.Sy Go.Pl Go.Proofs
set_option maxRecDepth 100000
structure Cl where
 id:Int
 dim:Int
 sides:List aj
 deriving DecidableEq
def aC (g:PH)(c:Cl)(r:Rc):Prop:=r.id=c.id∧r.dim=c.dim∧SlA encSide g (.slice r.sv.p r.sv.n r.sv.c) c.sides
theorem aC.mono {g g':PH}(hl:Le g g'){c:Cl}{r:Rc}(h:aC g c r):aC g' c r:=⟨h.1,h.2.1,h.2.2.mono hl⟩
def am (g:PH)(v:Value)(l:List Cl):Prop:=∃ rs,SlA encCell g v rs∧az (aC g) l rs
theorem am.mono {g g':PH}{v:Value}{l:List Cl}(h:am g v l)(hl:Le g g'):am g' v l:=by
 obtain ⟨rs,h1,h2⟩:=h;exact⟨rs,h1.mono hl,h2.mono fun _ _=>aC.mono hl⟩
theorem am.form {g:PH}{v:Value}{l:List Cl}(h:am g v l):∃ p c,v = .slice p l.length c:=by
 obtain ⟨rs,h1,h2⟩:=h;rw[h2.length];exact h1.form
def gS (g:PH)(c:Cl)(r:Rc):Prop:=r.id=c.id∧r.dim=c.dim∧RK encSide 87 g (.slice r.sv.p r.sv.n r.sv.c) c.sides
theorem gS.mono {g g':PH}(hl:Le g g'){c:Cl}{r:Rc}(h:gS g c r):gS g' c r:=⟨h.1,h.2.1,h.2.2.mono hl⟩
theorem gS.cr {g g':PH}(hl:Le g g'){c:Cl}{r:Rc}(h:gS g c r):aC g' c r:=⟨h.1,h.2.1,h.2.2.sl.mono hl⟩
def wO (g:PH)(v:Value)(l:List Cl):Prop:=∃ rs,RK encCell 63 g v rs∧az (gS g) l rs
theorem wO.cells {g g':PH}{v:Value}{l:List Cl}(h:wO g v l)(hl:Le g g'):am g' v l:=by
 obtain ⟨rs,h1,h2⟩:=h;exact⟨rs,h1.sl.mono hl,h2.mono fun _ _=>gS.cr hl⟩
def cR (l:List Cl):Prop:=l.length<1099511627776∧∀ c∈l,c.sides.length<1099511627776
def cG (c:Cl):Cl:=⟨c.id,c.dim,sortBy aj.cell c.sides⟩
def aa (l:List Cl):List Cl:=(sortBy Cl.id l).map cG
theorem Tryz.build30 (x:Value)(h:x.cells = #[x])(w:World):(Instr.build 30 #[(0,x)]).run Tryz.prog w = .ok (.agg #[x]) w:=by
 have hz:(Value.agg #[Value.slice none 0 0]).cells = #[.slice none 0 0]:=rfl;simp[Instr.build,Instr.fill,h,hz]
theorem C0 (E:World)(g:PH):wN E (.func (.func 80) #[] #[]) Rc.id g:=by
 intro g s a hle;refine cX.mk (cap:=[]) call80 ?_;refine za9 (args:=[.agg (encCell.enc a).toArray]) func80 I ntmps80 (bE I) ?_;refine rZ (bW (bO I) fun b1=>?_);refine aT I (rZ (lU (fA ao I zT3 I) (lK (qL iT3 I (cO 0 I I)) (aT I (rE (dR (s':=s) uR ?_))))));exact za6 (.inl I) results80 I ⟨I,I,I⟩
theorem BW (E:World)(g:PH):wM E (.func (.func 82) #[] #[]) aj.cell g:=by
 intro g s a hle;refine cX.mk (cap:=[]) call82 ?_;refine za9 (args:=[.agg (encSide.enc a).toArray]) func82 I ntmps82 (bE I) ?_;refine rZ (bW (bO I) fun b1=>?_);refine aT I (rZ (lU (fA dn I zT3 I) (lK (qL iT3 I (cO 0 I I)) (aT I (rE (dR (s':=s) uR ?_))))));exact za6 (.inl I) results82 I ⟨I,I,I⟩
theorem qR (E:World)(g:PH)(s:Own)(v:Value)(l:List Cl)(hv:am g v l)(hf:cR l) :
  Ctr Tryz.prog E 51 #[.agg #[v]] g s (fun r g' s'=>s=s'∧Le g g'∧∃ u,r = .agg #[u]∧wO (mns g' g) u (aa l)):=by
 obtain ⟨rs,hrs,hall⟩:=hv;have hlen:=hall.length;have hfl:=hf.1;have hall':=az.sortBy (f:=Cl.id) (h:=Rc.id) (fun a b h=>h.1.symm) hall;obtain ⟨p,c,rfl⟩:=za2 hrs;refine za9 (args:=[.agg #[.slice p rs.length c]]) func51 I ntmps51 (bE I) ?_;refine rZ (bW (bO I) fun b1=>?_);refine bW (aL zk9) fun b2=>?_;refine tZ (rZ (lU (fA ed I c8 I) (lK (qL eY I (cO 1 I I)) (lW (cL call79 I (Bw E g _ _ 80 #[] Rc.id (C0 E g) rs hrs oM)) ?_))));rintro r3 _ _ ⟨rfl,rfl⟩;refine zc9 fun ⟨w0,hw0⟩=>?_;obtain ⟨q,d,rfl⟩:=ag (i:=0) hw0 rfl;have hbq:0<(sortBy Rc.id rs).length→based (.slice q (sortBy Rc.id rs).length d)=true:=fun h=>(by obtain ⟨b0,c0,he⟩:=cw (i:=0) hw0 rfl h; rw[he]; rfl);clear hw0 w0;refine aT I (sQ (sW I (lU (eN aA I) (lM I (tZ (bK ?_))))));have hsl:(sortBy Rc.id rs).length=rs.length:=er rs;refine oP (ι:=PH×List Rc×List Rc×List Cl×List Cl) (fun i=>[(2,pp b2 0),(3,.slice q (sortBy Rc.id rs).length d),(9,vi (sortBy Rc.id rs).length),(10,vi i.2.1.length)]) (fun i=>i.1)
  (fun i=>rowA encCell 63 (.slice q (sortBy Rc.id rs).length d) (i.2.1++i.2.2.1)::pt b2 (.cells #[.slice none 0 0] 30 (0,0))::pt b1 (.cells #[.slice p rs.length c] 30 (0,0))::s)
  (fun i=>Le g i.1∧az (gS (mns i.1 g)) i.2.2.2.1 i.2.1∧az (aC g) i.2.2.2.2 i.2.2.1∧aa l=i.2.2.2.1++i.2.2.2.2.map cG∧(i.2.1.length+i.2.2.1.length=(sortBy Rc.id rs).length∧∀ x∈i.2.2.2.2,x∈l)) (fun i=>i.2.2.1.length)
  (g,[],sortBy Rc.id rs,[],sortBy Cl.id l) sB rfl rfl ⟨zb7 g,trivial,hall',by simp[aa],by simp,fun x hx=>(dy l x).1 hx⟩ ?_
 rintro ⟨g1,ds,rest,dl,rl⟩ ⟨hle,hd,hr,hcan,hlen1,hmem⟩;dsimp only at hle hd hr hcan hlen1 hmem ⊢;have hrl:=hr.length;refine rZ (yL I (tZ (sQ ?_)));refine iP I (fun hlt=>?_) (fun hlt=>?_)
 ·cases rest with
  | nil=>simp at hlen1; omega
  | cons x rest =>
  obtain ⟨cx,rl',hrle,hcx,hr'⟩:=hr.cons_right;subst hrle;have hxl:cx.sides.length<1099511627776:=hf.2 cx (hmem cx (by simp));simp only[ze6] at hlen1;have hgx:(ds++x::rest)[((ds.length:Nat):Int).toNat]?=some x:=bT oM;have hbs:based (.slice q (sortBy Rc.id rs).length d)=true:=hbq oM;refine kP (tN (sQ (bK (sW I (aT I (rG (lM I (lM I (lM I (lM I (lU (iA aA au I I hbs oM sL) (lU (fC ao I bI I hbs) (lK (aZ (o:=2) cQ I (zb5 0 I) hgx I) (lW (cL call81 I (Bv E g1 _ _ 82 #[] aj.cell (BW E g1) cx.sides (hcx.2.2.mono hle) hxl)) ?_))))))))))))));rintro r20 _ _ ⟨rfl,rfl⟩;refine SL.freezeRowK fun g2 hle2 hs2=>?_;obtain ⟨q2,d2,rfl⟩:=hs2.form;refine lU (iA aA au I I hbs oM sL) (lU (fC ao I bI I hbs) (oZ (SO.partA (o:=2) 0 ⟨x.id,x.dim,q2,_,d2⟩ bI I I I hgx I I dC I) (nL (bN (tN (rG (yD I (lM I (nL ?_)))))))));exact gA (g2,ds++[⟨x.id,x.dim,q2,(sortBy aj.cell cx.sides).length,d2⟩],rest,dl++[cG cx],rl') ⟨I,I,I,bP lN,trivial⟩ I (by
    dsimp only;rw[show (ds++x::rest).set ((ds.length:Nat):Int).toNat ⟨x.id,x.dim,q2,(sortBy aj.cell cx.sides).length,d2⟩=ds++[⟨x.id,x.dim,q2,(sortBy aj.cell cx.sides).length,d2⟩]++rest by rw[dH oM]; simp];rfl) ⟨hle.trans hle2,(hd.mono fun _ _=>gS.mono (py hle2)).append ⟨(by exact⟨hcx.1,hcx.2.1,hs2.mono (uB hle)⟩:gS (mns g2 g) (cG cx) ⟨x.id,x.dim,q2,(sortBy aj.cell cx.sides).length,d2⟩),trivial⟩,hr',by rw[hcan]; simp,lN,fun y hy=>hmem y (by simp[hy])⟩ lN
 ·have hr0:rest=[]:=zf2 oM;subst hr0;have hrl0:rl=[]:=hr.nil_right;subst hrl0;refine xI (tX (tX (bX (tN (rZ (SL.freezeRowK fun g2 hle2 hs2=>?_))))));refine lM I (lU (za1 I (build30 _ I)) (oZ (sK 0 aw I I I I I sB) ?_));refine tZ (rE ?_);refine ST.retCD 0 s (.inl I) results51 I bh aw I I (.cons _ (.cons _ (.refl _))) ⟨I,hle.trans hle2,_,I,ds,?_,?_⟩
  ·simpa using hs2.mono (uB hle)
  ·rw[hcan];simpa using hd.mono fun _ _=>gS.mono (py hle2)
theorem jq (E:World)(g:PH)(s:Own)(v:Value)(l:List Cl)(hv:am g v l)(hf:cR l) :
  Ctr Tryz.prog E 51 #[.agg #[v]] g s (fun r g' s'=>s=s'∧Le g g'∧∃ u,r = .agg #[u]∧am g' u (aa l)) :=
 (qR E g s v l hv hf).mono fun _ _ _ ⟨h1,h2,u,h3,h4⟩=>⟨h1,h2,u,h3,h4.cells (qd _ _)⟩
theorem rA {α:Type}{l m:List α}{k:Nat}(h1:k<l.length)(h2:k<m.length)(h:l.take k=m.take k)(he:l[k]=m[k]):l.take (k+1)=m.take (k+1):=by
 rw[tS h1,tS h2,h,he]
theorem sH {α:Type}{l m:List α}(hl:l.length=m.length)(h:l.take l.length=m.take l.length):l=m:=by
 rw[tL (lR _),tL oM] at h;exact h
theorem ci {l:List Cl}(h:cR l):cR (aa l):=by
 refine⟨by simp[aa,er]; exact h.1,fun c hc=>?_⟩;simp only[aa,ze9] at hc;obtain ⟨c0,h0,rfl⟩:=hc;simp only[cG,er];exact h.2 c0 ((dy l c0).1 h0)
theorem Tryz.mty98:MTy Tryz.prog 98 3 63 (.agg #[vi 0,vi 0,.slice none 0 0]):=⟨underlying98,underlying3,zk8⟩
def fE (acc:List Cl)(c:Cl):List Cl:=if acc.any (fun x=>x.id == c.id) then acc else acc++[c]
theorem pF {acc:List Cl}{c:Cl}(h:acc.any (fun x=>x.id == c.id)=true):fE acc c=acc:=zf8 h
theorem ka {acc:List Cl}{c:Cl}(h:acc.any (fun x=>x.id == c.id)=false):fE acc c=acc++[c]:=zf7 (by rw[h]; simp)
def ae (l:List Cl):List Cl:=(aa l).foldl fE []
def rcv (r:Rc):Value:=.agg (encCell.enc r).toArray
def dj (r:Rc):Int×Value:=(r.id,rcv r)
def Ch (R:Cl→Rc→Prop)(g:PH)(v:Value)(tl:List Cl):Prop :=
 ∃ b m iv rs,v=pp b 0∧g b=some (.cells #[.map (some m),iv] 100 (0,0))∧Mp g m (rs.map dj)∧bC g iv (tl.map Cl.id)∧az R tl rs
def Tab (g:PH)(v:Value)(tl:List Cl):Prop:=Ch (aC g) g v tl
theorem Ch.mono {R R':Cl→Rc→Prop}{g g':PH}{v:Value}{tl:List Cl}(h:Ch R g v tl)(hl:Le g g')(hr:∀ c r,R c r→R' c r):Ch R' g' v tl:=by
 obtain ⟨b,m,iv,rs,h1,h2,h3,h4,h5⟩:=h;exact⟨b,m,iv,rs,h1,hl _ _ h2,h3.mono hl,h4.mono hl,h5.mono hr⟩
theorem Tab.mono {g g':PH}{v:Value}{tl:List Cl}(h:Tab g v tl)(hl:Le g g'):Tab g' v tl:=by
 obtain ⟨b,m,iv,rs,h1,h2,h3,h4,h5⟩:=h;exact⟨b,m,iv,rs,h1,hl _ _ h2,h3.mono hl,h4.mono hl,h5.mono fun _ _=>aC.mono hl⟩
theorem oz (rs:List Rc)(k:Int):fq (rs.map dj) k=(rs.find? (fun r=>r.id == k)).map rcv:=by
 induction rs with
 | nil=>rfl
 | cons r t ih =>
  simp only[zg2,dj,bU,List.find?_cons];by_cases h:k=r.id
  ·subst h; simp
  ·have:(r.id == k)=false:=by simpa using fun e=>h e.symm
   rw[this,zf7 h,← ih]
theorem AG {g:PH}{tl:List Cl}{rs:List Rc}(h:az (aC g) tl rs)(k:Int):tl.any (fun x=>x.id == k)=rs.any (fun r=>r.id == k):=by
 induction tl generalizing rs with
 | nil=>cases rs with | nil=>rfl | cons _ _=>exact h.elim
 | cons c t ih =>
  cases rs with
  | nil=>exact h.elim
  | cons r rs=>simp only[List.any_cons,h.1.1,ih h.2]
theorem pE {g:PH}{tl:List Cl}{rs:List Rc}(h:az (aC g) tl rs):tl.map Cl.id=rs.map Rc.id:=by
 induction tl generalizing rs with
 | nil=>cases rs with | nil=>rfl | cons _ _=>exact h.elim
 | cons c t ih =>
  cases rs with
  | nil=>exact h.elim
  | cons r rs=>simp only[zg2,h.1.1,ih h.2]
theorem e9 (l:List Cl):∀ acc:List Cl,(l.foldl fE acc).length≤acc.length+l.length:=by
 induction l with
 | nil=>intro acc; simp
 | cons c r ih =>
  intro acc;simp only[zi5];have h1:=ih (fE acc c);have h2:(fE acc c).length≤acc.length+1:=by unfold fE; split <;> simp
  simp only[ze6];omega
theorem Tryz.build100 (x:Value)(h:x.cells = #[x])(w:World):(Instr.build 100 #[(0,x)]).run Tryz.prog w = .ok (.agg #[x,.slice none 0 0]) w:=by
 have hz:(Value.agg #[Value.map none,Value.slice none 0 0]).cells = #[.map none,.slice none 0 0]:=rfl;simp[Instr.build,Instr.fill,h,hz]
theorem CA (E:World)(g:PH)(s:Own)(v:Value)(l:List Cl)(hv:am g v l)(hf:cR l) :
  Ctr Tryz.prog E 50 #[.agg #[v]] g s (fun r g' s'=>s=s'∧Le g g'∧Ch (gS (mns g' g)) g' r (ae l)):=by
 have hfc:=ci hf;refine za9 (args:=[.agg #[v]]) func50 I ntmps50 (bE I) ?_;refine rZ (bW (bO I) fun b1=>?_);refine aT I (rZ (lW (SO.mkMap) ?_));rintro _ _ _ ⟨m,rfl,rfl,rfl⟩;refine lU (za1 I (build100 _ I)) (bW (bO I) fun b10=>?_);refine aT I (sQ (rZ (lK (qV 2 bh aw I I I) (lW (cL call51 I (qR E g _ v l hv hf)) ?_))));rintro _ g1 _ ⟨rfl,hle,u,rfl,hc⟩;obtain ⟨rs,hrsK,hall⟩:=hc;have hrs:=hrsK.sl.mono (qd _ _);obtain ⟨p,c,rfl⟩:=hrs.form;refine lU (SU.field ed I eY I I) (lU (eN aA I) (lM I (tZ (bK ?_))));have hlen:=hall.length;have hfl:=hfc.1;refine zb4 3 1 ?_;refine oP (ι:=Value×Nat×List Rc) (fun i=>[(3,pp b10 0),(13,.slice p rs.length c),(14,vi rs.length),(15,vi i.2.1)]) (fun _=>g1)
  (fun i=>rowA encInt 3 i.1 (i.2.2.map Rc.id)::pt b10 (.cells #[.map (some m),i.1] 100 (0,0))::mp m (i.2.2.map dj)::pt b1 (.cells #[v] 30 (0,0))::s)
  (fun i=>i.2.1≤rs.length∧az (gS (mns g1 g)) (((aa l).take i.2.1).foldl fE []) i.2.2) (fun i=>rs.length - i.2.1) (.slice none 0 0,0,[])
  sB rfl rfl ⟨zf4 _,by simp[az]⟩ ?_
 rintro ⟨iv,k,acc⟩ ⟨hk,hacc⟩;dsimp only at hk hacc ⊢;refine rZ (yL I (tZ (sQ ?_)));refine iP I (fun hlt=>?_) (fun hlt=>?_)
 ·have hkr:k<rs.length:=oM;have hkl:k<(aa l).length:=oM;have hb1:=hrs.based oM;have hcr:=hall.get (gE hkl) (gE hkr);have hany:=AG (hacc.mono fun _ _=>gS.cr (qd _ _)) (aa l)[k].id;have htake:((aa l).take (k+1)).foldl fE []=fE (((aa l).take k).foldl fE []) (aa l)[k]:=by
   rw[tS hkl,zi6]; rfl
  have hal:=hacc.length;have hal2:=e9 ((aa l).take k) [];simp only[ze2,zc1] at hal2;generalize hcl:(aa l)[k]=cx at *;generalize hrx:rs[k]=x at *;have hgx:rs[((k:Nat):Int).toNat]?=some x:=by rw[← hrx]; exact gE hkr
  cases hget:acc.find? (fun r=>r.id == x.id) with
  | some y =>
   refine kP (tN (sQ (bK (rZ (lU (iA aA au I I hb1 oM sL) (lK (eA eX au I hrs.rd hgx) (bW (aL zk8) fun b5=>?_)))))));refine oZ (sK 0 au I I I I I sB) ?_;refine tZ (sQ ?_);refine dW [] [(0,2),(1,2),(2,2),(3,1),(4,2),(5,1),(6,1),(7,2),(8,2),(9,2),(10,0),(11,0),(12,2)] ze1 kR ?_;refine yM I (pU I (nC I) (pU I (fA nM I sizeOf98 I) (pK I (qL isAgg98 I (cO 2 I I)) (pU I (fA ao I zT3 I) (pK I (qL iT3 I (cO 0 I I)) (pK I (SQ.eq (SQ.lookupOk mty98 I I (di.own 3 I)) (by (rw[oz,hget]; done))) ?_))))));refine yM I (pU I (xT I I) (pU I (xT I I) (SP.o I (aL zk8) dC (.inr iR) ?_)));rintro _ _ _ ⟨b6,rfl,rfl,rfl⟩;refine SP.on I (sK 0 au I I I I I sB) (.inr iR) ?_;rintro _ _ _ ⟨rfl,rfl⟩;refine pU I (aS I) (pN (tN (sW I (lU (SU.not I) (tZ (cF I (kP (bN (tN (rG (yD I (lM I (nL (dR (s':=rowA encInt 3 iv (acc.map Rc.id)::pt b10 (.cells #[.map (some m),iv] 100 (0,0))::mp m (acc.map dj)::pt b1 (.cells #[v] 30 (0,0))::s) (.cons _ (.cons _ (.refl _))) ?_))))))))))))));have h1:acc.any (fun r=>r.id == cx.id)=true:=by
    rw[zj3];exact⟨y,List.mem_of_find?_eq_some hget,by have:=List.find?_some hget; rw[← hcr.1]; exact this⟩
   exact gA (iv,k+1,acc) sB I I ⟨lN,by dsimp only; rw[htake,pF (hany.trans h1)]; exact hacc⟩ lN
  | none =>
   refine kP (tN (sQ (bK (rZ (lU (iA aA au I I hb1 oM sL) (lK (eA eX au I hrs.rd hgx) (bW (aL zk8) fun b5=>?_)))))));refine oZ (sK 0 au I I I I I sB) ?_;refine tZ (sQ ?_);refine dW [] [(0,2),(1,2),(2,2),(3,1),(4,2),(5,1),(6,1),(7,2),(8,2),(9,2),(10,0),(11,0),(12,2)] ze1 kR ?_;refine yM I (pU I (nC I) (pU I (fA nM I sizeOf98 I) (pK I (qL isAgg98 I (cO 2 I I)) (pU I (fA ao I zT3 I) (pK I (qL iT3 I (cO 0 I I)) (pK I (SQ.eq (SQ.lookupOk mty98 I I (di.own 3 I)) (by (rw[oz,hget]; done))) ?_))))));refine yM I (pU I (xT I I) (pU I (xT I I) (SP.o I (aL zk8) dC (.inr iR) ?_)));rintro _ _ _ ⟨b6,rfl,rfl,rfl⟩;refine SP.on I (sK 0 au I I I I I sB) (.inr iR) ?_;rintro _ _ _ ⟨rfl,rfl⟩;refine pU I (aS I) (pN (tN (sW I (lU (SU.not I) (tZ (cT I (sQ ?_)))))));refine dW [7] [(0,2),(1,2),(2,2),(3,1),(4,2),(5,1),(6,1),(7,0)] ze1 kR ?_;refine yM I (pU I (nC I) (pU I (fA nM I sizeOf98 I) (pK I (qL isAgg98 I (cO 3 I I)) (pU I (fA ao I zT3 I) (pK I (qL iT3 I (cO 1 I I)) (pK I (qV 1 eX au I I I) (SP.on I (SO.mapUpdate 4 mty98 I I I I) (.inl dC) ?_)))))));rintro _ _ _ ⟨rfl,rfl⟩;refine pN (tN ?_);refine dW [8,9,10,11] [(0,2),(1,2),(2,2),(3,2),(4,1),(5,2),(6,1),(7,0),(8,0),(9,0),(10,0),(11,0)] ze1 kR ?_;refine yM I (yM I (pU I (nC I) (pU I (fA nM I aR I) (pK I (qL bM I (cO 3 I I)) (pU I (fA ao I zT3 I) (pK I (qL iT3 I (cO 1 I I)) (SP.o I (bS sty25 I I I (ab sB) dC) dC (.inr iR) ?_)))))));rintro _ _ _ ⟨b45,rfl,rfl,rfl⟩;refine SP.o I (SO.app1 2 (((acc++[x]).map Rc.id).flatMap encInt.enc) ((acc++[x]).map Rc.id).length sty25 I I I I I ⟨I,trivial⟩ (by simp[encInt]; rfl) (by simp) (by simp; omega) (by simp; omega)) dC (.inl dC) ?_;rintro iv' _ _ ⟨rfl,rfl⟩;refine zc8 fun ⟨w0,hw0⟩=>?_;obtain ⟨q',d',rfl⟩:=ag (e:=encInt) (l:=(acc++[x]).map Rc.id) (i:=2) hw0 rfl;clear hw0 w0;refine oU rfl (nC rfl) dC (.inl dC) (oU rfl (fA nM rfl aR rfl) dC (.inl dC) (SP.on rfl (SO.store1 3 aR rfl rfl rfl rfl (bE rfl) (by rfl)) (.inl dC) ?_));rintro _ _ _ ⟨rfl,rfl⟩;refine pN (bN (tN (rG (yD I (lM I (nL ?_))))));have h1:acc.any (fun r=>r.id == cx.id)=false:=by
    rw[zj8];intro y hy;have:=List.find?_eq_none.1 hget y hy;rw[← hcr.1]; exact this
   have hmp:jx (acc.map dj) x.id (rcv x)=(acc++[x]).map dj:=by
    rw[iI _ _ _ (fun q hq=>by
     obtain ⟨y,hy,rfl⟩:=ze9.1 hq;have:=List.find?_eq_none.1 hget y hy;simpa [dj] using this)]
    simp[dj]
   refine dR (s':=rowA encInt 3 (.slice q' ((acc++[x]).map Rc.id).length d') ((acc++[x]).map Rc.id)::pt b10 (.cells #[.map (some m),.slice q' ((acc++[x]).map Rc.id).length d'] 100 (0,0))::mp m ((acc++[x]).map dj)::pt b1 (.cells #[v] 30 (0,0))::s) ?_ ?_
   ·rw[← hmp]; exact .cons _ (.cons _ (.refl _))
   exact gA (.slice q' ((acc++[x]).map Rc.id).length d',k+1,acc++[x]) sB I I ⟨lN,by dsimp only; rw[htake,ka (hany.trans h1)]; exact hacc.append ⟨hcr,trivial⟩⟩ lN
 ·refine xI (tX (tX (bX (tN (sW I (aT I (rE ?_)))))));have hkk:k=rs.length:=oM;have htk:(aa l).take k=aa l:=tL oM;rw[htk] at hacc;refine fT fun g2 h2 hrow=>?_;refine ST.freeze fun g3 h3 hb=>?_;refine ST.freezeMap fun g4 h4 hm=>?_;refine dR (s':=s) uR ?_;have hI:bC g4 iv ((ae l).map Cl.id):=by
   rw[show (ae l).map Cl.id=acc.map Rc.id from pE (hacc.mono fun _ _=>gS.cr (qd _ _))];exact Sl.mono hrow (h3.trans h4)
  exact za6 (.inl I) results50 I ⟨I,hle.trans (h2.trans (h3.trans h4)),b10,m,iv,acc,I,h4 _ _ hb,hm,hI,hacc.mono fun _ _=>gS.mono (py (h2.trans (h3.trans h4)))⟩
theorem sh (E:World)(g:PH)(s:Own)(v:Value)(l:List Cl)(hv:am g v l)(hf:cR l) :
  Ctr Tryz.prog E 50 #[.agg #[v]] g s (fun r g' s'=>s=s'∧Le g g'∧Tab g' r (ae l)) :=
 (CA E g s v l hv hf).mono fun _ _ _ ⟨h1,h2,h3⟩=>⟨h1,h2,h3.mono (zb7 _) fun _ _=>gS.cr (qd _ _)⟩
theorem vQ {acc:List Cl}{c:Cl}(h:(acc.map Cl.id).Nodup):((fE acc c).map Cl.id).Nodup:=by
 unfold fE;split
 ·exact h
 ·rename_i hc;rw[zg3,List.nodup_append];refine⟨h,by simp,fun a ha b hb e=>?_⟩;simp at hb;subst hb;obtain ⟨x,hx,hxe⟩:=ze9.1 ha;apply hc;rw[zj3];exact⟨x,hx,by simp[hxe,e]⟩
theorem tr (l:List Cl):∀ acc:List Cl,(acc.map Cl.id).Nodup→((l.foldl fE acc).map Cl.id).Nodup:=by
 induction l with
 | nil=>intro acc h; exact h
 | cons c r ih=>intro acc h; exact ih _ (vQ h)
theorem fo (l:List Cl):((ae l).map Cl.id).Nodup:=tr _ [] (by simp)
theorem qz (l:List Cl):∀ (acc:List Cl) (x:Cl),x∈l.foldl fE acc→x∈acc∨x∈l:=by
 induction l with
 | nil=>intro acc x h; exact .inl h
 | cons c r ih =>
  intro acc x h
  rcases ih _ x h with h1 | h1
  ·unfold fE at h1;split at h1
   ·exact .inl h1
   ·rcases zf1.1 h1 with h2 | h2
    ·exact .inl h2
    ·right; simp at h2; simp[h2]
  ·exact .inr (by simp[h1])
theorem lG {l:List Cl}{x:Cl}(h:x∈ae l):x∈aa l:=(qz _ [] x h).resolve_left (by simp)
theorem dG {l:List Cl}(h:cR l):cR (ae l):=by
 have hc:=ci h;refine⟨?_,fun c hm=>hc.2 c (lG hm)⟩;have:=e9 (aa l) [];unfold ae;have h1:=hc.1;simp at this;omega
def C6 (c:Cl)(id:Int):Bool:=c.sides.any fun x=>decide (x.cell=id)
theorem Tryz.mty124:MTy Tryz.prog 124 3 4 (vb false):=⟨underlying124,underlying3,zeroValue4⟩
def y6:Rc:=⟨0,0,none,0,0⟩
def gN:Cl:=⟨0,0,[]⟩
theorem wq {R:Cl→Rc→Prop}(hR:∀ c r,R c r→r.id=c.id){tl:List Cl}{rs:List Rc}(h:az R tl rs)(k:Int):(tl.find? (fun c=>decide (c.id=k))=none∧fq (rs.map dj) k=none)∨∃ c r,tl.find? (fun c=>decide (c.id=k))=some c∧fq (rs.map dj) k=some (rcv r)∧R c r:=by
 induction tl generalizing rs with
 | nil=>cases rs with | nil=>exact .inl ⟨rfl,rfl⟩ | cons _ _=>exact h.elim
 | cons c t ih =>
  cases rs with
  | nil=>exact h.elim
  | cons r rs =>
   simp only[zg2,dj,bU,List.find?_cons];by_cases hk:c.id=k
   ·right;have:k=r.id:=by rw[hR _ _ h.1,hk]
    exact⟨c,r,by simp[hk],by rw[zf8 this],h.1⟩
   ·have hk2:¬ k=r.id:=by rw[hR _ _ h.1]; exact fun e=>hk e.symm
    simp only[hk,decide_false,zf7 hk2];exact ih h.2
theorem yW {g:PH}{tl:List Cl}{rs:List Rc}(h:az (aC g) tl rs)(k:Int):(tl.find? (fun c=>decide (c.id=k))=none∧fq (rs.map dj) k=none)∨∃ c r,tl.find? (fun c=>decide (c.id=k))=some c∧fq (rs.map dj) k=some (rcv r)∧aC g c r:=wq (fun _ _ h=>h.1) h k
theorem mW {g:PH}{tl:List Cl}{rs:List Rc}(h:az (aC g) tl rs)(hw:∀ g,aC g gN y6)(k:Int):∃ r,(fq (rs.map dj) k).getD (.agg #[vi 0,vi 0,.slice none 0 0])=rcv r∧(fq (rs.map dj) k).isSome=(tl.find? (fun c=>decide (c.id=k))).isSome∧aC g ((tl.find? (fun c=>decide (c.id=k))).getD gN) r:=by
 rcases yW h k with ⟨h1,h2⟩ | ⟨c,r,h1,h2,h3⟩
 ·exact⟨y6,by rw[h2]; rfl,by rw[h1,h2]; rfl,by rw[h1]; exact hw g⟩
 ·exact⟨r,by rw[h2]; rfl,by rw[h1,h2]; rfl,by rw[h1]; exact h3⟩
theorem sD (g:PH):aC g gN y6:=⟨rfl,rfl,zb8 g _⟩
def tB (l:List Cl)(id:Int):Option Cl:=(ae l).find? fun c=>decide (c.id=id)
def jF (tl:List Cl)(k:Int):Bool:=tl.any fun c=>C6 c k
def il (l:List Cl):List Int:=((ae l).filter fun c=>!jF (ae l) c.id).map Cl.id
theorem AF {g:PH}{tl:List Cl}{rs:List Rc}(h:az (aC g) tl rs){r:Rc}(hr:r∈rs):∃ c,c∈tl∧aC g c r:=by
 obtain ⟨i,hi,rfl⟩:=zc4 hr;have hl:=h.length;have hi':i<tl.length:=oM;exact⟨tl[i],gM hi',h.get (gE hi') (gE hi)⟩
theorem zW {tl:List Cl}(h:(tl.map Cl.id).Nodup){a b:Cl}(ha:a∈tl)(hb:b∈tl)(e:a.id=b.id):a=b:=by
 induction tl with
 | nil=>simp at ha
 | cons c t ih =>
  simp only[zg2,zj5] at h
  rcases ze8.1 ha with rfl | ha' <;> rcases ze8.1 hb with rfl | hb'
  ·rfl
  ·exact absurd (ze9.2 ⟨b,hb',e.symm⟩) h.1
  ·exact absurd (ze9.2 ⟨a,ha',e⟩) h.1
  ·exact ih h.2 ha' hb'
theorem th {vc tl:List Cl}(hs:∀ c∈vc,c∈tl)(hp:(vc.map Cl.id).Perm (tl.map Cl.id))(hn:(tl.map Cl.id).Nodup):vc.Perm tl:=by
 have hn2:(vc.map Cl.id).Nodup:=hp.symm.nodup hn;refine (List.perm_ext_iff_of_nodup (List.Pairwise.of_map Cl.id (fun a b hab e=>hab (by rw[e])) hn2) (List.Pairwise.of_map Cl.id (fun a b hab e=>hab (by rw[e])) hn)).2 fun c=>⟨hs c,fun hc=>?_⟩;obtain ⟨c',h1,h2⟩:=ze9.1 (hp.symm.subset (ze9.2 ⟨c,hc,rfl⟩));rw[← zW hn (hs c' h1) hc h2];exact h1
theorem rz {g:PH}{vl:List (Int×Value)}{rs:List Rc}{vc tl:List Cl}(hv:vl.map Prod.fst=vc.map Cl.id)(hs:∀ c∈vc,c∈tl)(hn:(tl.map Cl.id).Nodup)(hall:az (aC g) tl rs)(hp:vl.Perm (rs.map dj)):vc.Perm tl:=by
 refine th hs ?_ hn;have h1:=hp.map Prod.fst;rw[hv,zi3] at h1;rw[pE hall];exact h1
theorem CH {f:Fr}{t:Nat}{a b:Int}(h:bF f t=some (vi a))(e:a=b):bF f t=some (vi b):=e ▸ h
theorem lL {α:Type}{s:List α}{i:Nat}{a:α}(h:s[i]?=some a):s.set i a=s:=by
 apply List.ext_getElem?;intro j;rw[List.getElem?_set];split
 ·rename_i e;subst e;split
  ·exact h.symm
  ·rename_i h2;rw[List.getElem?_eq_none oM]
 ·rfl
def aJ (tl:List Cl)(id:Int):Option Cl:=tl.find? fun c=>decide (c.id=id)
def cd (tl:List Cl):Nat→Int→List Int→List Int
 | 0,_,vis=>vis
 | n+1,id,vis =>
  match aJ tl id with
  | none=>vis
  | some c=>if vis.contains id then vis else c.sides.foldl (fun v x=>cd tl n x.cell v) (vis++[id])
theorem nh (tl:List Cl)(n:Nat)(id:Int)(vis:List Int):cd tl (n+1) id vis=(match aJ tl id with
  | none=>vis
  | some c=>if vis.contains id then vis else c.sides.foldl (fun v x=>cd tl n x.cell v) (vis++[id])):=rfl
def nG (tl:List Cl)(vis:List Int):Nat:=(tl.filter fun c=>!vis.contains c.id).length
def dq (tl:List Cl)(ids:List Int):List Int:=ids.foldl (fun v id=>cd tl (tl.length+1) id v) []
theorem oh (tl:List Cl):∀ (n:Nat) (id:Int) (vis:List Int) (x:Int),x∈vis→x∈cd tl n id vis
 | 0,_,_,_,h=>h
 | n+1,id,vis,x,h=>by
  unfold cd;split
  ·exact h
  ·split
   ·exact h
   ·rename_i c _ _;have:∀ (l:List aj) (v:List Int),x∈v→x∈l.foldl (fun v y=>cd tl n y.cell v) v:=by
     intro l;induction l with
     | nil=>intro v hv; exact hv
     | cons y t ih=>intro v hv; exact ih _ (oh tl n y.cell v x hv)
    exact this _ _ (by simp[h])
theorem mS {tl:List Cl}{v v':List Int}(h:∀ x∈v,x∈v'):nG tl v'≤nG tl v:=by
 unfold nG;rw[← List.countP_eq_length_filter,← List.countP_eq_length_filter];apply List.countP_mono_left;intro c _ hp;simp at hp ⊢;exact fun e=>hp (h _ e)
theorem xq {tl:List Cl}{v:List Int}{c:Cl}(hc:c∈tl)(hn:v.contains c.id=false):nG tl (v++[c.id])<nG tl v:=by
 induction tl with
 | nil=>simp at hc
 | cons d t ih =>
  have hm:nG t (v++[c.id])≤nG t v:=mS (fun x hx=>by simp[hx]);have e1:∀ u:List Int,nG (d::t) u=(if u.contains d.id then 0 else 1)+nG t u:=fun u=>by
   unfold nG;rw[zi4];cases u.contains d.id <;> simp <;> omega
  rw[e1,e1]
  rcases ze8.1 hc with rfl | hc'
  ·have:(v++[c.id]).contains c.id=true:=by simp
   rw[this,hn];simp;omega
  ·have:=ih hc';cases h1:v.contains d.id
   ·cases h2:(v++[c.id]).contains d.id <;> simp <;> omega
   ·have h2:(v++[c.id]).contains d.id=true:=by simp at h1 ⊢; exact .inl h1
    rw[h2];simp;exact this
def lb (vis:List Int):List (Int×Value):=vis.map fun k=>(k,vb true)
theorem uo (vis:List Int):CU (lb vis) (fun k=>vis.contains k):=by
 intro k;induction vis with
 | nil=>rfl
 | cons a t ih =>
  simp only[lb,zg2,bU] at ih ⊢;by_cases h:k=a
  ·simp[h]
  ·have h2:(k == a)=false:=by simpa using h
   rw[zf7 h,ih];simp[h]
theorem uq {vis:List Int}{id:Int}(h:vis.contains id=false):jx (lb vis) id (vb true)=lb (vis++[id]):=by
 rw[iI _ _ _ (fun p hp=>by
  obtain ⟨a,ha,rfl⟩:=ze9.1 hp;intro e;simp at h;exact h (by rw[← e]; exact ha))]
 simp[lb]
theorem cI {tl:List Cl}{id:Int}{c:Cl}(h:aJ tl id=some c):c∈tl∧c.id=id:=⟨List.mem_of_find?_eq_some h,by simpa using List.find?_some h⟩
theorem eT {α:Type}{l:List α}{j:Nat}{y:α}(h:l[j]?=some y):l.take (j+1)=l.take j++[y]:=by
 obtain ⟨h1,h2⟩:=zf3.1 h;rw[tS h1,h2]
theorem xg {α:Type}{s:List α}{i:Nat}{a:α}(h:s[i]?=some a)(b:α):(s.set i b)[i]?=some b:=by
 have:=(zf3.1 h).1;simp[this]
theorem vI (E:World)(g:PH)(bt bm bf m:Nat)(tv:Value)(tl:List Cl)(hv:Tab g tv tl)(hf:cR tl)(h2:g bt=some (.cells #[tv] 95 (0,0)))(h5:g bm=some (.cells #[.map (some m)] 124 (0,0)))
  (h6:g bf=some (.cells #[.func (.func 127) #[] #[pp bt 0,pp bm 0,pp bf 0]] 115 (0,0))):∀ (n:Nat) (id:Int) (vis:List Int) (s:Own) (i:Nat),nG tl vis<n→s[i]?=some (mp m (lb vis)) →
  Ctr Tryz.prog E 127 #[vi id,pp bt 0,pp bm 0,pp bf 0] g s (fun _ g' s'=>g=g'∧s'=s.set i (mp m (lb (cd tl n id vis)))):=by
 intro n;induction n with
 | zero=>intro id vis s i h; omega
 | succ n ih =>
 intro id vis s i hcnt hi;have hv':=hv;obtain ⟨b,mt,iv,rs,rfl,hb,hm,hI,hall⟩:=hv';obtain ⟨x,hx1,hx2,hx3⟩:=mW hall sD id;obtain ⟨xi,xd,xp,xn,xc⟩:=x;have hxs:SlA encSide g (.slice xp xn xc) ((aJ tl id).getD gN).sides:=hx3.2.2;have hxn:xn=((aJ tl id).getD gN).sides.length:=zb9 hxs;subst hxn;refine za9 (args:=[vi id,pp bt 0,pp bm 0,pp bf 0]) func127 I ntmps127 (bE I) ?_;refine rZ (lK (qL isAgg95 I (cK h2 I)) (lU (nC I) (lU (fA nM I sizeOf98 I) (lK (qL isAgg98 I (cK hb I)) (lM I (lK (SQ.eq (v':=.tuple #[rcv ⟨xi,xd,xp,((aJ tl id).getD gN).sides.length,xc⟩,vb (decide ((aJ tl id).isSome=true))]) (SQ.lookupOk mty98 I I (di.known hm)) (by rw[hx1,hx2,Bool.decide_eq_true]; rfl)) ?_))))));refine lM I (yX I (yX I (bW (aL zk8) fun b5=>?_)));refine oZ (sK 0 au I I I I I sB) ?_;refine aT I (sQ ?_);refine SC.cutB 24 (!(aJ tl id).isSome||vis.contains id) ?_ ?_
 ·refine rG (lM I (lU (SU.notP I) (lM I ?_)));refine sP ?_ ?_
  ·intro h20;refine yA I (yA I (yA I (yP I (nL ?_))));exact za8 (by simp_all[bF]) mI
  ·intro h20;refine SL.gq (gT I I I dC) (qL isAgg124 I (cK h5 I)) dC (yC I (SL.gq (gT I I I dC) (SQ.eq (v':=vb (decide (vis.contains id=true))) (SQ.lookup mty124 I I (di.own (i+1) hi)) (by rw[(uo vis).get id]; simp)) dC ?_));refine yF I (nL ?_);exact za8 (by simp_all[bF]) mI
 refine iQ I (fun hstop=>?_) (fun hstop=>?_)
 ·refine rE (tR (dR (s':=s) uR ?_));have hr:cd tl (n+1) id vis=vis:=by
   unfold cd;cases h:aJ tl id with
   | none=>rfl
   | some c =>
    rw[h] at hstop;simp only[Option.isSome_some,Bool.not_true,Bool.false_or] at hstop;simp only[hstop,if_true]
  exact ST.ret0 (.inl I) results127 ⟨I,by rw[hr,lL hi]⟩
 ·obtain ⟨c,hc⟩:∃ c,aJ tl id=some c:=by
   cases h:aJ tl id with
   | none=>rw[h] at hstop; simp at hstop
   | some c=>exact⟨c,rfl⟩
  obtain ⟨hcm,hcid⟩:=cI hc;have hnv:vis.contains id=false:=by rw[hc] at hstop; simpa using hstop
  have hcl:=hf.2 c hcm;have hcnt2:nG tl (vis++[id])<n:=by
   have:=xq hcm (by rw[hcid]; exact hnv);rw[hcid] at this;omega
  simp only[hc,Option.getD_some] at hxs ⊢;refine kP (tN (rZ (lK (qL isAgg124 I (cK h5 I)) (lM I (lO (SO.mapUpdate (i+1) mty124 I I I hi) ?_)))));rintro _ _ _ ⟨rfl,rfl⟩;rw[uq hnv];refine tZ (rZ (lU (fA ao I bI I) (lK (qL cQ I (cO 0 I I)) (lU (eN cA I) (lM I (tZ (bK (SC.drop (s':=s.set i (mp m (lb (vis++[id])))) (.cons _ (.refl _)) ?_))))))));refine oP (ι:=Nat×List Int) (fun q=>[(3,pp bf 0),(28,.slice xp c.sides.length xc),(29,vi c.sides.length),(30,vi q.1)]) (fun _=>g)
   (fun q=>s.set i (mp m (lb q.2))) (fun q=>q.1≤c.sides.length∧q.2=(c.sides.take q.1).foldl (fun v x=>cd tl n x.cell v) (vis++[id])∧nG tl q.2<n) (fun q=>c.sides.length - q.1)
   (0,vis++[id]) sB rfl rfl ⟨zf4 _,by simp,hcnt2⟩ ?_
  rintro ⟨j,vj⟩ ⟨hj,hvj,hcj⟩;dsimp only at hj hvj hcj ⊢;refine rZ (yL I (tZ (sQ ?_)));refine iP I (fun hlt=>?_) (fun hlt=>?_)
  ·have hjl:j<c.sides.length:=oM;have hb1:=hxs.based oM;have hjx:c.sides[((j:Nat):Int).toNat]?=some c.sides[j]:=gE hjl;generalize c.sides[j]=y at *;refine kP (tN (sQ (bK (rZ (lU (iA cA cj I I hb1 oM sL) (lK (eA nE cj I hxs.rd hjx) (bW (aL zk5) fun b8=>?_)))))));refine oZ (sK 0 cj I I I I I sB) ?_;refine tZ (rG (lK (qL isAgg115 I (cK h6 I)) (lU (fA dn I zT3 I) (lK (qL iT3 I (cO 0 I I)) (lW (SO.callV I I (cX.mk (cap:=[pp bt 0,pp bm 0,pp bf 0]) call127 (ih y.cell vj _ (i+1) hcj (xg hi _)))) ?_)))));rintro _ _ _ ⟨rfl,rfl⟩;refine nL (bN (tN (rG (yD I (lM I (nL (dR (s':=s.set i (mp m (lb (cd tl n y.cell vj)))) (by rw[List.set_cons_zero,List.set_cons_succ,List.set_set]; exact .cons _ (.refl _)) ?_)))))));exact gA (j+1,cd tl n y.cell vj) sB I I ⟨lN,by
    rw[eT (j:=j) hjx,zi6,← hvj]; rfl,Nat.lt_of_le_of_lt (mS fun x hx=>oh tl n _ _ x hx) hcj⟩ lN
  ·refine xI (tX (tX (bX ?_)));have hjj:c.sides.take j=c.sides:=tL oM;have hr:cd tl (n+1) id vis=vj:=by
    rw[hjj] at hvj;rw[hvj,nh,hc];simp only[hnv,Bool.false_eq_true,if_false]
   exact ST.ret0 (.inr I) results127 ⟨I,by rw[hr]⟩
theorem xu (tl:List Cl)(v:List Int):nG tl v≤tl.length:=zc2 _ _
theorem rW (E:World)(g:PH)(s:Own)(v iv:Value)(tl:List Cl)(ids:List Int)(hv:Tab g v tl)(hf:cR tl)(hi:bC g iv ids)(hl:ids.length<1099511627776) :
  Ctr Tryz.prog E 99 #[v,iv] g s (fun r g' s'=>∃ m,r = .map (some m)∧Le g g'∧s'=mp m (lb (dq tl ids))::s):=by
 obtain ⟨p,c,rfl⟩:=za2 hi;have hvc:v.cells = #[v]:=by obtain ⟨b,_,_,_,rfl,_⟩:=hv; rfl
 refine za9 (args:=[v,.slice p ids.length c]) func99 I ntmps99 (bE I) ?_;refine rZ (bW (bO I) fun b2=>?_);refine zb3 fun g1 hle hb2=>?_;rw[hvc] at hb2;refine aT I (rZ (lW (SO.mkMap) ?_));rintro _ _ _ ⟨m,rfl,rfl,rfl⟩;refine bW (aL zeroValue124) fun b5=>?_;refine oZ (sK 0 sizeOf124 I I I I I ⟨I,trivial⟩) (zb3 fun g2 hle2 hb5=>?_);refine tZ (rZ (bW (aL zeroValue115) fun b6=>?_));refine tZ (rZ (lU (SU.mkFunc I) (oZ (sK 0 sizeOf115 I I I I I ⟨I,trivial⟩) (zb3 fun g3 hle3 hb6=>?_))));refine tZ (sQ (sW I (lU (eN ah I) (lM I (tZ (bK ?_))))));have hv3:=hv.mono (hle.trans (hle2.trans hle3));have hi3:=hi.mono (hle.trans (hle2.trans hle3));refine oP (ι:=Nat×List Int) (fun q=>[(5,pp b5 0),(6,pp b6 0),(11,.slice p ids.length c),(12,vi ids.length),(13,vi q.1)]) (fun _=>g3)
  (fun q=>mp m (lb q.2)::s) (fun q=>q.1≤ids.length∧q.2=(ids.take q.1).foldl (fun v id=>cd tl (tl.length+1) id v) []) (fun q=>ids.length - q.1)
  (0,[]) sB rfl rfl ⟨zf4 _,by simp⟩ ?_
 rintro ⟨j,vj⟩ ⟨hj,hvj⟩;dsimp only at hj hvj ⊢;refine rZ (yL I (tZ (sQ ?_)));refine iP I (fun hlt=>?_) (fun hlt=>?_)
 ·have hjl:j<ids.length:=oM;have hb1:=za4 hi oM;have hjx:ids[((j:Nat):Int).toNat]?=some ids[j]:=gE hjl;generalize ids[j]=y at *;refine kP (tN (sQ (bK (rZ (lU (iA ah zT3 I I hb1 oM sL) (lK (eB iT3 I (za5 hi3) hjx I) (aT I (rG (lK (qL isAgg115 I (cK hb6 I)) (lM I (lW (SO.callV I I (cX.mk (cap:=[pp b2 0,pp b5 0,pp b6 0]) call127 (vI E g3 b2 b5 b6 m v tl hv3 hf ((hle2.trans hle3) _ _ hb2) (hle3 _ _ hb5) hb6 (tl.length+1) y vj _ 0 (zk3 (xu _ _)) I))) ?_)))))))))));rintro _ _ _ ⟨rfl,rfl⟩;refine nL (bN (tN (rG (yD I (lM I (nL ?_))))));exact gA (j+1,cd tl (tl.length+1) y vj) sB I I ⟨lN,by rw[eT (j:=j) hjx,zi6,← hvj]; rfl⟩ lN
 ·refine xI (tX (tX (bX (tN (rZ (lK (qL isAgg124 I (cK (hle3 _ _ hb5) I)) (aT I (rE ?_))))))));have hjj:ids.take j=ids:=tL oM;rw[hjj] at hvj;exact za6 (.inl I) results99 I ⟨m,I,hle.trans (hle2.trans hle3),by rw[hvj]; rfl⟩
open Go Go.Sy Go.Pl Go.Proofs Go.Shelf Go.Sort
def tx:Ren :=
 {
  f:=fun x =>
   match x with
   | 189=>85
   | 125=>120
   | 257=>119
   | 128=>145
   | 129=>146
   | 294=>136
   | 295=>137
   | 296=>138
   | 297=>139
   | 298=>140
   | 299=>141
   | 216=>142
   | 300=>143
   | 301=>144
   | 328=>166
   | 329=>167
   | 330=>168
   | 331=>169
   | 332=>170
   | 215=>134
   | 343=>185
   | n=>n,
  t:=fun x =>
   match x with
   | 28=>25
   | 3=>3
   | 46=>113
   | 0=>0
   | 51=>142
   | 53=>144
   | 4=>4
   | 183=>166
   | 182=>165
   | 131=>91
   | 5=>5
   | 9=>9
   | 218=>183
   | 222=>187
   | 228=>201
   | 229=>202
   | n=>n,
  g:=fun x =>
   have n:=x;
   n }
theorem Tryz.lays189:Lays.n189 Tryz.prog tx :=
  {
  mixed:=Eq.refl true,f125:=zb6 func120 (zd9 some kR),
  f128:=zb6 func145 (zd9 some kR),
  f129:=zb6 func146 (zd9 some kR),
  f189:=zb6 func85 (zd9 some kR),
  f215:=zb6 func134 (zd9 some kR),
  f216:=zb6 func142 (zd9 some kR),
  f257:=zb6 func119 (zd9 some kR),
  f294:=zb6 func136 (zd9 some kR),
  f295:=zb6 func137 (zd9 some kR),
  f296:=zb6 func138 (zd9 some kR),
  f297:=zb6 func139 (zd9 some kR),
  f298:=zb6 func140 (zd9 some kR),
  f299:=zb6 func141 (zd9 some kR),
  f300:=zb6 func143 (zd9 some kR),
  f301:=zb6 func144 (zd9 some kR),
  f328:=zb6 func166 (zd9 some kR),
  f329:=zb6 func167 (zd9 some kR),
  f330:=zb6 func168 (zd9 some kR),
  f331:=zb6 func169 (zd9 some kR),
  f332:=zb6 func170 (zd9 some kR),
  f343:=zb6 func185 (zd9 some kR),t0:=underlying0,
  a0:=isAgg0,z0:=sizeOf0,v0:=zeroValue0,t3:=uT3,a3:=iT3,
  z3:=zT3,v3:=zk7,t4:=underlying4,a4:=isAgg4,z4:=sizeOf4,
  v4:=zeroValue4,t5:=underlying5,a5:=isAgg5,z5:=sizeOf5,v5:=zeroValue5,
  t9:=underlying9,a9:=isAgg9,z9:=sizeOf9,v9:=zeroValue9,t28:=ah,
  a28:=bM,z28:=aR,v28:=zeroValue25,t46:=jt,a46:=isAgg113,
  z46:=sizeOf113,v46:=zeroValue113,t51:=underlying142,a51:=isAgg142,
  z51:=sizeOf142,v51:=zeroValue142,t53:=underlying144,a53:=isAgg144,
  z53:=sizeOf144,v53:=zeroValue144,t131:=underlying91,a131:=isAgg91,
  z131:=sizeOf91,v131:=zeroValue91,t182:=underlying165,a182:=isAgg165,
  z182:=sizeOf165,v182:=zeroValue165,t183:=underlying166,a183:=isAgg166,
  z183:=sizeOf166,v183:=zeroValue166,t218:=underlying183,a218:=isAgg183,
  z218:=sizeOf183,v218:=zeroValue183,t222:=underlying187,a222:=isAgg187,
  z222:=sizeOf187,v222:=zeroValue187,t228:=underlying201,a228:=isAgg201,
  z228:=sizeOf201,v228:=zeroValue201,t229:=underlying202,a229:=isAgg202,
  z229:=sizeOf202,v229:=zeroValue202 }
def dN (l:List Int):List Int:=l.mergeSort fun x y=>decide (x≤y)
theorem eU (l:List Int):(dN l).length=l.length:=List.length_mergeSort ..
theorem kW (l:List Int):(dN l).Perm l:=List.mergeSort_perm ..
theorem mO (l:List Int):l.flatMap encInt.enc=l.map (Value.int .i64):=by
 induction l with
 | nil=>rfl
 | cons a t ih=>simp only[zh3,zg2,ih]; rfl
theorem pR (E:World)(g:PH)(s:Own)(v:Value)(l:List Int)(i:Nat)(hi:s[i]?=some (rowA encInt 3 v l))(hl:l.length<17592186044416) :
  Ctr Tryz.prog E 85 #[v] g s (fun _ g' s'=>g=g'∧s'=s.set i (rowA encInt 3 v (dN l))):=by
 intro w hw;obtain ⟨h1,h2⟩:=eK hw hi
 rcases h2 with ⟨p,rfl,hn⟩ | ⟨b,cap,cur,rfl,hb,hle,hcm,hcs,ht⟩
 ·have hl0:l=[]:=zf2 hn;subst hl0;refine (Any.slices_Sort_int_none lays189 p 0 w).mono ?_;rintro e w' ⟨rfl,rfl⟩;refine⟨_,g,s,I,hw,I,?_⟩;have:dN []=[]:=by simp[dN]
  rw[this];exact (lL hi).symm
 ·have ht':cur.toList.take l.length=l.map (Value.int .i64):=by rw[← mO]; simpa using ht
  refine (Any.slices_Sort_int lays189 b 0 (cap+1) l w (holds_of_blockI hb ht') (Array.getElem?_eq_some_iff.1 hb).1 oM).mono ?_;rintro e w' ⟨rfl,n,os,rfl⟩;have hfr:=hw.fresh _ (zf9 hi) b rfl;refine⟨_,g,_,I,?_,I,I⟩;obtain ⟨q1,q2,q3,q4,q5⟩:=grownBy_sortedI (w:=w) (g:=b) (n:=n) (os:=os) (dN l).toArray;refine hw.turn hi I ⟨I,(by exact Nat.le_add_right _ _)⟩ I q4 (fun k hk hne=>q5 k hk hne) ?_ ?_
  ·have h5:=heap_sortedI (n:=n) (os:=os) (dN l).toArray hb;have hlen:=eU l;have:=cW (w:=grow (putRow (Value.int .i64) (Sort.ahead w n) b 0 (dN l).toArray) os) (T:=3) (k:=1) (n:=(dN l).length) (b:=b) (cap:=cap) (xs:=(dN l).flatMap encInt.enc) (by rw[encInt.length]) h5 oM hcm (by simp[putCells]; simpa using hcs) (by
    rw[mO,Nat.mul_one];exact take_putCellsI cur (dN l) (by rw[hlen,hcs]; omega))
   rw[hlen] at this;rw[show rowA encInt 3 (.slice (some ⟨b,0,none⟩) l.length (cap+1)) (dN l)=row 3 1 (.slice (some ⟨b,0,none⟩) l.length (cap+1)) l.length ((dN l).flatMap encInt.enc) by simp only[rowA,hlen]];exact this
  ·intro b' hb';simp only[rowA,row,gW,zg5] at hb';subst hb';exact⟨Nat.lt_of_lt_of_le (Array.getElem?_eq_some_iff.1 hb).1 q4,.inl I⟩
def fv (c:Cl):Bool:=decide (c.dim<0)||decide (c.dim>8)
def aU (c:Cl):Bool:=(decide (c.dim=0)&&decide ((c.sides.length:Int)>0))||(decide (c.dim=1)&&decide ((c.sides.length:Int)≠2))||(decide (c.dim>1)&&(decide ((c.sides.length:Int)<2)||decide ((c.sides.length:Int)>64)))
def cu (tl:List Cl)(c:Cl)(i:Nat)(x:aj):Bool:=!(aJ tl x.cell).isSome||decide (((aJ tl x.cell).getD gN).dim≠c.dim - 1)||(decide (i>0)&&decide ((c.sides[i - 1]?.map aj.cell)=some x.cell))
section
variable {tl:List Cl}{c p:Cl}{i:Nat}{x:aj}
theorem mU (h:¬ (aJ tl x.cell).isSome=true):cu tl c i x=true:=by
 have:(aJ tl x.cell).isSome=false:=by simpa using h
 simp[cu,this]
theorem qZ (h:(aJ tl x.cell).isSome=true)(h2:((aJ tl x.cell).getD gN).dim≠c.dim - 1):cu tl c i x=true:=by
 simp only[cu,h,h2,Bool.not_true,Bool.false_or,ne_eq,not_false_eq_true,decide_true,Bool.true_or]
theorem qY (h:(aJ tl x.cell).isSome=true)(h2:¬ ((aJ tl x.cell).getD gN).dim≠c.dim - 1)(h3:¬ (i:Int)>0):cu tl c i x=false:=by
 have h4:¬ i>0:=oM;simp only[cu,h,h2,h4,Bool.not_true,Bool.false_or,decide_false,Bool.false_and]
theorem qX {q:aj}(h:(aJ tl x.cell).isSome=true)(h2:¬ ((aJ tl x.cell).getD gN).dim≠c.dim - 1)(h3:(i:Int)>0)(hq:c.sides[i - 1]?=some q):cu tl c i x=decide (q.cell=x.cell):=by
 have h4:i>0:=oM;simp only[cu,h,h2,h4,hq,Bool.not_true,Bool.false_or,decide_false,decide_true,Bool.true_and,Option.map_some,zg5]
end
def iU (tl:List Cl)(c:Cl)(i:Nat):Bool:=match c.sides[i]? with
 | some x=>cu tl c i x
 | none=>false
def bZ (x:aj):Bool:=decide (x.sign≠1)&&decide (x.sign ≠ -1)
theorem qu {x:aj}(h:x.sign≠1):bZ x=decide (x.sign ≠ -1):=by simp[bZ,h]
theorem qq {x:aj}(h:¬ x.sign≠1):bZ x=false:=by simp[bZ,h]
def nA (l:List aj):Int:=(l.map aj.sign).sum
def cz (tl:List Cl)(c:Cl):Int :=
 if fv c then 21 else if aU c then 22 else if (List.range c.sides.length).any (iU tl c) then 22 else if c.sides.any bZ then 23 else if (decide (c.dim=1)&&decide (nA c.sides≠0)) then 23 else 0
theorem vu {l:List aj}(h:l.any bZ=false):nA l≤l.length ∧ -(l.length:Int)≤nA l:=by
 induction l with
 | nil=>simp[nA]
 | cons x t ih =>
  simp only[List.any_cons,Bool.or_eq_false_iff] at h;have:=ih h.2;have hx:x.sign=1∨x.sign = -1:=by
   have h1:=h.1;simp only[bZ,Bool.and_eq_false_iff,decide_eq_false_iff_not,ne_eq,Decidable.not_not] at h1;exact h1
  simp only[nA,zg2,List.sum_cons,ze6] at this ⊢;omega
theorem yo (E:World)(g:PH)(s:Own)(v:Value)(tl:List Cl)(c:Cl)(r:Rc)(hv:Tab g v tl)(hc:aC g c r)(hl:c.sides.length<1099511627776) :
  Ctr Tryz.prog E 52 #[v,rcv r] g s (fun r g' s'=>r=vi (cz tl c)∧g=g'∧s=s'):=by
 obtain ⟨b,mt,iv,rs,rfl,hb,hm,hI,hall⟩:=hv;obtain ⟨ri,rd,rp,rn,rcap⟩:=r;have hcs:SlA encSide g (.slice rp rn rcap) c.sides:=hc.2.2;have hrn:rn=c.sides.length:=zb9 hcs;have hrd:rd=c.dim:=hc.2.1;subst hrn hrd;have hx0:=fun h=>hcs.based h;refine za9 (args:=[pp b 0,rcv ⟨ri,c.dim,rp,c.sides.length,rcap⟩]) func52 I ntmps52 (bE I) ?_;refine rZ (bW (bO I) fun b3=>?_);refine aT I (rZ (lU (fA ao I bI I) (lK (qL cQ I (cO 0 I I)) (lU (eN cA I) (aT I (sQ (bK ?_)))))));refine SC.cutB 16 (fv c) ?_ ?_
 ·refine rG (lU (fA ao I zT3 I) (lK (qL iT3 I (cO 0 I I)) (yL I (lM I ?_))));refine sP ?_ ?_
  ·intro h20;refine yA I (yA I (yA I (yP I (lA I (nL ?_)))));exact za8 (by simp_all[bF,fv] <;> omega) mI
  ·intro h20;refine lY I I I (fA ao I zT3 I) (SL.gq (gT I I I dC) (qL iT3 I (cO 0 I I)) dC (lY I I I (gR I I) (yF I (lA I (nL ?_)))));exact za8 (by simp_all[bF,fv] <;> omega) mI
 refine iQ I (fun hdb=>?_) (fun hdb=>?_)
 ·refine rZ (aT I (rE (bR (tR (dR (s':=s) uR ?_)))));exact za6 (.inl I) results52 I ⟨by unfold cz; rw[zf8 hdb],I,I⟩
 ·have hd8:0≤c.dim∧c.dim≤8:=by simp[fv] at hdb; omega
  refine SC.cutB 25 (aU c) ?_ ?_
  ·refine rG (lU (fA ao I zT3 I) (lK (qL iT3 I (cO 0 I I)) (yE I (lM I ?_))));refine sP ?_ ?_
   ·intro h29;refine yC I (lY I I I (gR I I) (yP I (lM I ?_)));refine sP ?_ ?_
    ·intro h33;refine yA I (yA I (yA I (yA I (yB I (yB I (yA I (yP I (lM I (yA I (yA I (yA I (yA I (yB I (yB I (yB I (yB I (yB I (yB I (yA I (yP I (lA I (nL ?_))))))))))))))))))))));exact za8 (by simp_all[bF,aU] <;> omega) mI
    ·intro h33;refine lY I I I (fA ao I zT3 I) (SL.gq (gT I I I dC) (qL iT3 I (cO 0 I I)) dC (lY I I I (eQ I I) (yC I ?_)));refine sP ?_ ?_
     ·intro h37;refine yC I (lY I I I (nQ I I) (lY I I I (wT I I) (yF I (lM I ?_))));refine sP ?_ ?_
      ·intro h42;refine yA I (yA I (yA I (yA I (yB I (yB I (yB I (yB I (yB I (yB I (yA I (yP I (lA I (nL ?_)))))))))))));exact za8 (by simp_all[bF,aU] <;> omega) mI
      ·intro h42;refine lY I I I (fA ao I zT3 I) (SL.gq (gT I I I dC) (qL iT3 I (cO 0 I I)) dC (lY I I I (gR I I) (yC I ?_)));refine sP ?_ ?_
       ·intro h46;refine yC I (lY I I I (lS I I) (yC I ?_));refine sP ?_ ?_
        ·intro h49;refine yA I (yA I (lY I I I (wT I I) (lY I I I (wT I I) (yF I (lA I (nL ?_))))));exact za8 (by simp_all[bF,aU] <;> omega) mI
        ·intro h49;refine yC I (lY I I I (gR I I) (lY I I I (wF I I) (lY I I I (wT I I) (yF I (lA I (nL ?_))))));exact za8 (by simp_all[bF,aU] <;> omega) mI
       ·intro h46;refine yA I (yA I (yA I (yB I (yB I (yA I (lY I I I (wF I I) (yF I (lA I (nL ?_)))))))));exact za8 (by simp_all[bF,aU] <;> omega) mI
     ·intro h37;refine yA I (yA I (lY I I I (wF I I) (yF I (lM I (lY I I I (fA ao I zT3 I) (SL.gq (gT I I I dC) (qL iT3 I (cO 0 I I)) dC (lY I I I (gR I I) (yC I ?_))))))));refine sP ?_ ?_
      ·intro h46;refine yC I (lY I I I (lS I I) (yC I ?_));refine sP ?_ ?_
       ·intro h49;refine yA I (yA I (lY I I I (wT I I) (lY I I I (wT I I) (yF I (lA I (nL ?_))))));exact za8 (by simp_all[bF,aU] <;> omega) mI
       ·intro h49;refine yC I (lY I I I (gR I I) (lY I I I (wF I I) (lY I I I (wT I I) (yF I (lA I (nL ?_))))));exact za8 (by simp_all[bF,aU] <;> omega) mI
      ·intro h46;refine yA I (yA I (yA I (yB I (yB I (yA I (lY I I I (wF I I) (yF I (lA I (nL ?_)))))))));exact za8 (by simp_all[bF,aU] <;> omega) mI
   ·intro h29;refine yA I (yA I (yF I (lM I (lY I I I (fA ao I zT3 I) (SL.gq (gT I I I dC) (qL iT3 I (cO 0 I I)) dC (lY I I I (eQ I I) (yC I ?_)))))));refine sP ?_ ?_
    ·intro h37;refine yC I (lY I I I (nQ I I) (lY I I I (wT I I) (yF I (lM I ?_))));refine sP ?_ ?_
     ·intro h42;refine yA I (yA I (yA I (yA I (yB I (yB I (yB I (yB I (yB I (yB I (yA I (yP I (lA I (nL ?_)))))))))))));exact za8 (by simp_all[bF,aU] <;> omega) mI
     ·intro h42;refine lY I I I (fA ao I zT3 I) (SL.gq (gT I I I dC) (qL iT3 I (cO 0 I I)) dC (lY I I I (gR I I) (yC I ?_)));refine sP ?_ ?_
      ·intro h46;refine yC I (lY I I I (lS I I) (yC I ?_));refine sP ?_ ?_
       ·intro h49;refine yA I (yA I (lY I I I (wT I I) (lY I I I (wT I I) (yF I (lA I (nL ?_))))));exact za8 (by simp_all[bF,aU] <;> omega) mI
       ·intro h49;refine yC I (lY I I I (gR I I) (lY I I I (wF I I) (lY I I I (wT I I) (yF I (lA I (nL ?_))))));exact za8 (by simp_all[bF,aU] <;> omega) mI
      ·intro h46;refine yA I (yA I (yA I (yB I (yB I (yA I (lY I I I (wF I I) (yF I (lA I (nL ?_)))))))));exact za8 (by simp_all[bF,aU] <;> omega) mI
    ·intro h37;refine yA I (yA I (lY I I I (wF I I) (yF I (lM I (lY I I I (fA ao I zT3 I) (SL.gq (gT I I I dC) (qL iT3 I (cO 0 I I)) dC (lY I I I (gR I I) (yC I ?_))))))));refine sP ?_ ?_
     ·intro h46;refine yC I (lY I I I (lS I I) (yC I ?_));refine sP ?_ ?_
      ·intro h49;refine yA I (yA I (lY I I I (wT I I) (lY I I I (wT I I) (yF I (lA I (nL ?_))))));exact za8 (by simp_all[bF,aU] <;> omega) mI
      ·intro h49;refine yC I (lY I I I (gR I I) (lY I I I (wF I I) (lY I I I (wT I I) (yF I (lA I (nL ?_))))));exact za8 (by simp_all[bF,aU] <;> omega) mI
     ·intro h46;refine yA I (yA I (yA I (yB I (yB I (yA I (lY I I I (wF I I) (yF I (lA I (nL ?_)))))))));exact za8 (by simp_all[bF,aU] <;> omega) mI
  refine iQ I (fun hcb=>?_) (fun hcb=>?_)
  ·refine rZ (aT I (rE (bR (tR (dR (s':=s) uR ?_)))));exact za6 (.inl I) results52 I ⟨by unfold cz; rw[zf7 (by simp[hdb]),zf8 hcb],I,I⟩
  ·have hn64:c.sides.length≤64:=by
    simp[aU] at hcb
    rcases Int.lt_trichotomy c.dim 1 with h | h | h
    ·have:c.dim=0:=oM;have:=hcb.1.1 this;simp[this]
    ·have:=hcb.1.2 h;omega
    ·have:=hcb.2 h;omega
   refine kP (bN (tN (sQ (rZ (lU (fA ao I bI I) (lK (qL cQ I (cO 0 I I)) (lU (eN cA I) (lM I (tZ (bK ?_))))))))));refine oP (ι:=Nat) (fun k=>[(0,pp b 0),(3,pp b3 0),(5,vi c.sides.length),(56,.slice rp c.sides.length rcap),(57,vi c.sides.length),(58,vi k)]) (fun _=>g)
    (fun _=>pt b3 (.cells #[vi ri,vi c.dim,.slice rp c.sides.length rcap] 63 (0,0))::s) (fun k=>k≤c.sides.length∧(List.range k).any (iU tl c)=false) (fun k=>c.sides.length - k) 0
    sB rfl rfl ⟨zf4 _,by simp⟩ ?_
   rintro k ⟨hk,hno⟩;try dsimp only
   refine rZ (yL I (tZ (sQ ?_)));refine iP I (fun hlt=>?_) (fun hlt=>?_)
   ·have hkl:k<c.sides.length:=oM;have hb1:=hx0 oM;have hjx:c.sides[((k:Nat):Int).toNat]?=some c.sides[k]:=gE hkl;have hjx':c.sides[k]?=some c.sides[k]:=gE hkl;generalize c.sides[k]=y at *;obtain ⟨x,hx1,hx2,hx3⟩:=mW hall sD y.cell;obtain ⟨xi,xd,xp,xn,xc⟩:=x;have hxd:xd=((aJ tl y.cell).getD gN).dim:=hx3.2.1;subst hxd;have hprev:(k:Int)>0→c.sides[((k:Int) - 1).toNat]?=some (c.sides.getD (k - 1) y):=fun h=>by
     have h1:((k:Int) - 1).toNat=k - 1:=oM;have h2:k - 1<c.sides.length:=oM;rw[h1,gE h2,zg8,gE h2];rfl
    have hprev2:(k:Int)>0→c.sides[k - 1]?=some (c.sides.getD (k - 1) y):=fun h=>by
     have h2:k - 1<c.sides.length:=oM;rw[gE h2,zg8,gE h2];rfl
    refine kP (tN (sQ (bK (sW I (lU (iA cA cj I I hb1 oM sL) (lK (eA nE cj I hcs.rd hjx) (bW (aL zk5) fun b7=>?_)))))));refine lA I (oZ (sK 0 cj I I I I I sB) ?_);refine tZ (sQ ?_);refine dW [11,12] [(0,2),(1,2),(2,2),(3,1),(4,2),(5,1),(6,1),(7,2),(8,2),(9,2),(10,0),(11,0),(12,0)] ze1 kR ?_;refine yM I (pU I (nC I) (pU I (fA nM I sizeOf98 I) (pK I (qL isAgg98 I (cK hb I)) (pU I (fA dn I zT3 I) (pK I (qL iT3 I (cO 0 I I)) (pK I (SQ.eq (v':=.tuple #[rcv ⟨xi,((aJ tl y.cell).getD gN).dim,xp,xn,xc⟩,vb (decide ((aJ tl y.cell).isSome=true))]) (SQ.lookupOk mty98 I I (di.known hm)) (by rw[hx1,hx2,Bool.decide_eq_true]; rfl)) ?_))))));refine yM I (pU I (xT I I) (pU I (xT I I) (SP.o I (aL zk8) dC (.inr iR) ?_)));rintro _ _ _ ⟨b8,rfl,rfl,rfl⟩;refine SP.on I (sK 0 au I I I I I sB) (.inl dC) ?_;rintro _ _ _ ⟨rfl,rfl⟩;refine oU I (aS I) dC (.inl dC) (pN (tN ?_));refine SC.cutB 98 (cu tl c k y) ?_ ?_
    ·refine dW [] [(0,2),(1,2),(2,2),(3,2),(4,1),(5,2),(6,1),(7,2),(8,2),(9,2),(10,2),(11,2),(12,2),(13,2),(14,2),(15,1),(16,2),(17,2),(18,2),(19,2),(20,1),(21,2),(22,1),(23,2),(24,2),(25,2)] ze1 kR ?_;refine yM I (pU I (SU.notP I) (yM I ?_));refine SP.split ?_ ?_
     ·intro h75;refine yG I (yI I (yG I (yI I (yG I (yG I (pU I (wT I I) (yM I (yG I (yG I (yG I (yH I (SP.off1 I (zb2 I I I dC) dC (yH I (yH I (yH I (yH I (SP.off1 I (zb2 I I I dC) dC (yH I (SP.off1 I (zb2 I I I dC) dC (yH I (yG I (pU I (wT I I) (pN ?_)))))))))))))))))))))));exact za8 (by exact zd9 (fun b=>some (Value.bool b)) (mU h75).symm) mI
     ·intro h75;refine zb1 I (gT I I I dC) (fA ao I zT3 I) dC (SP.gq I (gT I I I dC) (qL iT3 I (cO 0 I I)) dC (zb1 I (gT I I I dC) (fA ao I zT3 I) dC (SP.gq I (gT I I I dC) (qL iT3 I (cO 2 I I)) dC (zb1 I (gT I I I dC) (sU I I oM) dC (zb1 I (gT I I I dC) (nQ I I) dC (pU I (wF I I) (yM I ?_)))))));refine SP.split ?_ ?_
      ·intro h83;refine yG I (yG I (yG I (yH I (SP.off1 I (zb2 I I I dC) dC (yH I (yH I (yH I (yH I (SP.off1 I (zb2 I I I dC) dC (yH I (SP.off1 I (zb2 I I I dC) dC (yH I (yG I (pU I (wT I I) (pN ?_)))))))))))))));exact za8 (by exact zd9 (fun b=>some (Value.bool b)) (qZ (zg7 h75) h83).symm) mI
      ·intro h83;refine yJ I (zb1 I (gT I I I dC) (gR I I) dC (yJ I ?_));refine SP.split ?_ ?_
       ·intro h86;refine zb1 I (gT I I I dC) (fA ao I bI I) dC (SP.gq I (gT I I I dC) (qL cQ I (cO 2 I I)) dC (yJ I (zb1 I (gT I I I dC) (sU I I oM) dC (zb1 I (gT I I I dC) (iA cA cj I I (by assumption) oM (by (simp[slen]; omega))) dC ?_))));refine zb1 I (gT I I I dC) (fC dn I zT3 I (by assumption)) dC ?_;refine SP.gq I (gT I I I dC) (aZ (o:=0) iT3 I hcs.rd (hprev h86) I) dC (zb1 I (gT I I I dC) (fA dn I zT3 I) dC (SP.gq I (gT I I I dC) (qL iT3 I (cO 1 I I)) dC (zb1 I (gT I I I dC) (eQ I I) dC (zb1 I (gT I I I dC) (wT I I) dC (pU I (wF I I) (pN ?_))))));exact za8 (by exact zd9 (fun b=>some (Value.bool b)) (qX (zg7 h75) h83 h86 (hprev2 h86)).symm) mI
       ·intro h86;refine yG I (yI I (yG I (yG I (yG I (yG I (yI I (yG I (yI I (yG I (zb1 I (gT I I I dC) (wF I I) dC (pU I (wF I I) (pN ?_))))))))))));exact za8 (by exact zd9 (fun b=>some (Value.bool b)) (qY (zg7 h75) h83 h86).symm) mI
    have hbat:iU tl c k=cu tl c k y:=by unfold iU; rw[hjx']
    refine iQ I (fun hbad=>?_) (fun hbad=>?_)
    ·refine rZ (aT I (rE (bR (tR (tR (bR (tR (dR (s':=s) uR ?_))))))));have hany:(List.range c.sides.length).any (iU tl c)=true:=zj3.2 ⟨k,List.mem_range.2 hkl,by rw[hbat]; exact hbad⟩;exact za6 (.inl I) results52 I ⟨by unfold cz; rw[zf7 (by simp[hdb]),zf7 (by simp[hcb]),zf8 hany],I,I⟩
    ·refine kP (bN (tN (rG (yD I (lM I (nL (dR (s':=pt b3 (.cells #[vi ri,vi c.dim,.slice rp c.sides.length rcap] 63 (0,0))::s) (.cons _ (.cons _ (.refl _))) ?_)))))));exact gA (k+1) sB I I ⟨oM,by rw[List.range_succ,List.any_append,hno]; simp[hbat,hbad]⟩ oM
   ·refine xI (tX (tX (bX (tN (rZ (aT I (sQ (rZ (lU (fA ao I bI I) (lK (qL cQ I (cO 0 I I)) (lU (eN cA I) (lM I (tZ (bK ?_))))))))))))));have hkk:k=c.sides.length:=oM;subst hkk;refine oP (ι:=Nat) (fun k=>[(3,pp b3 0),(10,vi (nA (c.sides.take k))),(101,.slice rp c.sides.length rcap),(102,vi c.sides.length),(103,vi k)]) (fun _=>g)
     (fun _=>pt b3 (.cells #[vi ri,vi c.dim,.slice rp c.sides.length rcap] 63 (0,0))::s) (fun k=>k≤c.sides.length∧(c.sides.take k).any bZ=false) (fun k=>c.sides.length - k) 0
     sB rfl rfl ⟨zf4 _,by simp⟩ ?_
    rintro k ⟨hk2,hns⟩;try dsimp only
    have hsb:=vu hns;have htl:(c.sides.take k).length=k:=by simp; omega
    refine rZ (yL I (tZ (sQ ?_)));refine iP I (fun hlt2=>?_) (fun hlt2=>?_)
    ·have hkl:k<c.sides.length:=oM;have hb1:=hx0 oM;have hjx:c.sides[((k:Nat):Int).toNat]?=some c.sides[k]:=gE hkl;have htk:c.sides.take (k+1)=c.sides.take k++[c.sides[k]]:=tS hkl;have hmemy:c.sides[k]∈c.sides:=gM hkl;generalize c.sides[k]=y at *;refine kP (tN (sQ (bK (rZ (lU (iA cA cj I I hb1 oM sL) (lK (eA nE cj I hcs.rd hjx) (bW (aL zk5) fun b12=>?_)))))));refine oZ (sK 0 cj I I I I I sB) ?_;refine tZ (sQ ?_);refine SC.cutB 114 (bZ y) ?_ ?_
     ·refine rG (lU (fA dn I zT3 I) (lK (qL iT3 I (cO 0 I I)) (lU (nQ I I) (lM I ?_))));refine sP ?_ ?_
      ·intro h110;refine lY I I I (fA dn I zT3 I) (SL.gq (gT I I I dC) (qL iT3 I (cO 0 I I)) dC (lY I I I (nQ I I) (yP I (nL ?_))));exact za8 (by exact zd9 (fun b=>some (Value.bool b)) (qu h110).symm) mI
      ·intro h110;refine yA I (yA I (yA I (yF I (nL ?_))));exact za8 (by exact zd9 (fun b=>some (Value.bool b)) (qq h110).symm) mI
     refine iQ I (fun hsg=>?_) (fun hsg=>?_)
     ·refine rZ (aT I (rE (tR (bR (tR (tR (bR (tR (dR (s':=s) uR ?_)))))))));have hany:c.sides.any bZ=true:=zj3.2 ⟨y,hmemy,hsg⟩;exact za6 (.inl I) results52 I ⟨by unfold cz; rw[zf7 (by simp[hdb]),zf7 (by simp[hcb]),zf7 (by simp[hno]),zf8 hany],I,I⟩
     ·have hyb:y.sign=1∨y.sign = -1:=by
       simp only[bZ,Bool.and_eq_false_iff,decide_eq_false_iff_not,ne_eq,Decidable.not_not] at hsg;exact hsg
      refine kP (tN (rG (lM I (lU (fA dn I zT3 I) (lK (qL iT3 I (cO 0 I I)) (lU (aD (m:=nA (c.sides.take k)) (n:=y.sign) I I oM) (lA I (nL (bN (tN (rG (yD I (lM I (nL (dR (s':=pt b3 (.cells #[vi ri,vi c.dim,.slice rp c.sides.length rcap] 63 (0,0))::s) (.cons _ (.refl _)) ?_)))))))))))))));exact gA (k+1) ⟨I,CH I (by rw[htk]; simp[nA]),I,I,I,trivial⟩ I I ⟨oM,by rw[htk,List.any_append,hns]; simp[hsg]⟩ oM
    ·have hkk:c.sides.take k=c.sides:=tL oM;rw[hkk] at hns;rw[hkk];refine xI (tX (tX (bX (tN (sQ ?_)))));refine SC.cutB 126 ((decide (c.dim=1)&&decide (nA c.sides≠0))) ?_ ?_
     ·refine rG (lU (fA ao I zT3 I) (lK (qL iT3 I (cO 0 I I)) (yE I (lM I ?_))));refine sP ?_ ?_
      ·intro h123;refine yC I (lY I I I (nQ I I) (yP I (nL ?_)));exact za8 (by simp_all[bF]) mI
      ·intro h123;refine yA I (yA I (yF I (nL ?_)));exact za8 (by simp_all[bF]) mI
     refine iQ I (fun hend=>?_) (fun hend=>?_)
     ·refine rZ (aT I (rE (tR (dR (s':=s) uR ?_))));exact za6 (.inl I) results52 I ⟨by unfold cz; rw[zf7 (by simp[hdb]),zf7 (by simp[hcb]),zf7 (by simp[hno]),zf7 (by simp[hns]),zf8 hend],I,I⟩
     ·refine kP (tN (rZ (aT I (rE (dR (s':=s) uR ?_)))));exact za6 (.inl I) results52 I ⟨by unfold cz; rw[zf7 (by simp[hdb]),zf7 (by simp[hcb]),zf7 (by simp[hno]),zf7 (by simp[hns]),zf7 (by rw[hend]; simp)],I,I⟩
theorem Tryz.mty73:MTy Tryz.prog 73 3 3 (vi 0):=⟨underlying73,underlying3,zk7⟩
theorem Tryz.mty123:MTy Tryz.prog 123 3 25 (.slice none 0 0):=⟨underlying123,underlying3,zeroValue25⟩
abbrev Ms:=List (Int×Value×List Int)
def eP (ms:Ms):Own:=ms.map fun t=>rowA encInt 3 t.2.1 t.2.2
def iy (ms:Ms):List (Int×Value):=ms.map fun t=>(t.1,t.2.1)
def fx (ms:Ms):List (Int×List Int):=ms.map fun t=>(t.1,t.2.2)
def fa:List (Int×List Int)→Int→Int→List (Int×List Int)
 | [],k,x=>[(k,[x])]
 | (a,l)::r,k,x=>if k=a then (a,l++[x])::r else (a,l)::fa r k x
def fQ:List (Int×Int)→Int→Int→List (Int×Int)
 | [],k,x=>[(k,x)]
 | (a,z)::r,k,x=>if k=a then (a,z+x)::r else (a,z)::fQ r k x
def gF:List (Int×Int)→Int→Int
 | [],_=>0
 | (a,z)::r,k=>if k=a then z else gF r k
def pJ (zl:List (Int×Int)):List (Int×Value):=zl.map fun p=>(p.1,vi p.2)
theorem Af (zl:List (Int×Int))(k:Int):(fq (pJ zl) k).getD (vi 0)=vi (gF zl k):=by
 induction zl with
 | nil=>rfl
 | cons p r ih =>
  obtain ⟨a,z⟩:=p;simp only[pJ,zg2,bU,gF] at ih ⊢;split
  ·rfl
  ·exact ih
theorem AI (zl:List (Int×Int))(k x:Int):jx (pJ zl) k (vi (gF zl k+x))=pJ (fQ zl k x):=by
 induction zl with
 | nil=>simp[pJ,jx,fQ,gF]
 | cons p r ih =>
  obtain ⟨a,z⟩:=p;simp only[pJ,zg2,jx,gF,fQ] at ih ⊢;split
  ·rename_i h; subst h; rfl
  ·simp only[zg2,ih]
theorem vX {zl:List (Int×Int)}{B:Int}(hB:0≤B)(h:∀ p∈zl,-B≤p.2∧p.2≤B)(k:Int) : -B≤gF zl k∧gF zl k≤B:=by
 induction zl with
 | nil=>simp only[gF]; omega
 | cons p r ih =>
  obtain ⟨a,z⟩:=p;simp only[gF];split
  ·exact h (a,z) (by simp)
  ·exact ih fun q hq=>h q (by simp[hq])
theorem wt {zl:List (Int×Int)}{B:Int}(hB:0≤B)(h:∀ p∈zl,-B≤p.2∧p.2≤B)(k:Int){x:Int}(hx : -1≤x∧x≤1):∀ p∈fQ zl k x,-(B+1)≤p.2∧p.2≤B+1:=by
 induction zl with
 | nil =>
  intro p hp;simp only[fQ,zh5] at hp;subst hp;dsimp only;omega
 | cons q r ih =>
  obtain ⟨a,z⟩:=q;intro p hp;simp only[fQ] at hp;have h0:=h (a,z) (by simp);dsimp only at h0;split at hp
  ·rcases ze8.1 hp with rfl | hp
   ·dsimp only; omega
   ·have:=h p (by simp[hp]); omega
  ·rcases ze8.1 hp with rfl | hp
   ·dsimp only; omega
   ·exact ih (fun q hq=>h q (by simp[hq])) p hp
theorem CS (ms:Ms)(k:Int):∃ (ms':Ms) (j:Nat) (v:Value) (l:List Int),ms'[j]?=some (k,v,l)∧(fq (iy ms) k).getD (.slice none 0 0)=v∧(∀ v' x,jx (iy ms) k v'=iy (ms'.set j (k,v',l++[x]))) ∧
  (∀ v' x,fx (ms'.set j (k,v',l++[x]))=fa (fx ms) k x)∧(∀ B,(∀ t∈ms,t.2.2.length≤B)→∀ t∈ms',t.2.2.length≤B)∧∀ E g (hd s:Own) w,At E g (hd++(eP ms++s)) w→At E g (hd++(eP ms'++s)) w:=by
 induction ms with
 | nil =>
  refine⟨[(k,.slice none 0 0,[])],0,.slice none 0 0,[],I,I,fun v' x=>I,fun v' x=>by simp[fx,fa],fun B _ t ht=>by simp at ht; subst ht; simp,fun E g hd s w h=>?_⟩;have h1:=h.nilRow 3 1;refine h1.perm ?_;simp only[eP,List.map_nil,List.nil_append,zg2,List.singleton_append];exact List.perm_middle.symm
 | cons p r ih =>
  obtain ⟨a,u,l0⟩:=p;by_cases hk:k=a
  ·subst hk;refine⟨(k,u,l0)::r,0,u,l0,I,by simp[iy,bU],fun v' x=>by simp[iy,jx],fun v' x=>by simp[fx,fa],fun B h=>h,fun E g hd s w h=>h⟩
  ·obtain ⟨ms',j,v,l,h1,h2,h3,h4,h6,h5⟩:=ih;refine⟨(a,u,l0)::ms',j+1,v,l,by simpa using h1,?_,fun v' x=>?_,fun v' x=>?_,fun B h t ht=>?_,fun E g hd s w h=>?_⟩
   ·rw[← h2];simp[iy,bU,hk]
   ·have:=h3 v' x;simp only[iy,zg2,jx,List.set_cons_succ] at this ⊢;rw[zf7 hk,this]
   ·have:=h4 v' x;simp only[fx,zg2,fa,List.set_cons_succ] at this ⊢;rw[zf7 hk,this]
   ·rcases ze8.1 ht with rfl | ht
    ·exact h _ (by simp)
    ·exact h6 B (fun t ht=>h t (by simp[ht])) t ht
   ·have:=h5 E g (hd++[rowA encInt 3 u l0]) s w (by simpa [eP] using h);simpa [eP] using this
theorem SC.to {P:Program}{N:Nat}{E:World}{c:Code}{Q:Exit→Act→World→Prop}{f:Fr}{g g':PH}{s s':Own}(h:∀ w,At E g s w→At E g' s' w)(hc:SC P N E c Q f g' s'):SC P N E c Q f g s:=fun a w ha hw=>hc a w ha (h w hw)
theorem ST.to {N:Nat}{E:World}{e:Exit}{Q:Exit→Act→World→Prop}{f:Fr}{g g':PH}{s s':Own}(h:∀ w,At E g s w→At E g' s' w)(hc:ST N E Q e f g' s'):ST N E Q e f g s:=fun a w ha hw=>hc a w ha (h w hw)
theorem SL.to {P:Program}{N:Nat}{E:World}{ops:Array Oper}{l:List Oper}{Q:Exit→Act→World→Prop}{f:Fr}{g g':PH}{s s':Own}(h:∀ w,At E g s w→At E g' s' w)(hc:SL P N E ops Q l f g' s'):SL P N E ops Q l f g s:=fun a w ha hw=>hc a w ha (h w hw)
theorem cg {α:Type}(s:List α)(n j:Nat)(x:α):(s.take n).Sublist (s.set (j+n) x):=by
 rw[show s.take n=(s.set (j+n) x).take n by rw[List.take_set_of_le oM]];exact List.take_sublist _ _
theorem SC.drawT {P:Program}{N:Nat}{E:World}{ops:Array Oper}{Q:Exit→Act→World→Prop}{f:Fr}{g:PH}{s:Own}{id:Nat}(n:Nat)(tail:List Nat)(plan:List (Nat×Nat))(hm:P.follows .mixedOrders=true)(hok:sF ops tail plan=true)
  (h:SP P N E ops Q g (s.take n) tail plan f g s):SC P N E (.region id ops true) Q f g s:=by
 intro a w ha hw;unfold sF at hok;simp only[zi8,beq_iff_eq] at hok;refine wp_region_any hm (jg _ _ _ _ (S:=At E g (s.take n)) (tail:=tail) ?_);have:=h (Array.replicate ops.size false) a { w with drawn:=w.drawn+1 } hok.1.1 (jU _) hok.2 ha (hw.drew _ (Nat.le_succ _)) (fun _=>(hw.sublist (List.take_sublist n s)).drew _ (Nat.le_succ _));rw[hok.1.2] at this;exact this
theorem ph {ms:Ms}{j:Nat}{k:Int}{v:Value}{l:List Int}(h:ms[j]?=some (k,v,l))(s:Own):(eP ms++s)[j]?=some (rowA encInt 3 v l):=by
 have hj:=(zf3.1 h).1;rw[zg9 (by simpa [eP] using hj)];simp[eP,h]
theorem pg {ms:Ms}{j:Nat}{k:Int}{v v':Value}{l l':List Int}(h:ms[j]?=some (k,v,l))(s:Own):(eP ms++s).set j (rowA encInt 3 v' l')=eP (ms.set j (k,v',l'))++s:=by
 have hj:=(zf3.1 h).1;rw[List.set_append_left _ _ (by simpa [eP] using hj)];simp[eP,List.map_set]
theorem freezeRows {E:World}{w:World}:∀ (ms:Ms) (g:PH) (s:Own),At E g (eP ms++s) w→∃ g',Le g g'∧At E g' s w∧∀ t∈ms,bC g' t.2.1 t.2.2
 | [],g,s,h=>⟨g,zb7 g,h,by simp⟩
 | (a,v,l)::r,g,s,h=>by
  have h':At E g (row 3 1 v l.length (l.flatMap encInt.enc)::(eP r++s)) w:=h;obtain ⟨g1,hl1,h1,h2⟩:=h'.freezeRow;obtain ⟨g2,hl2,h3,h4⟩:=freezeRows r g1 s h1;refine⟨g2,hl1.trans hl2,h3,fun t ht=>?_⟩
  rcases ze8.1 ht with rfl | ht
  ·exact Sl.mono h2 hl2
  ·exact h4 t ht
theorem SC.freezeRows {P:Program}{N:Nat}{E:World}{c:Code}{Q:Exit→Act→World→Prop}{f:Fr}{g:PH}{s:Own}{ms:Ms}(h:∀ g',Le g g'→(∀ t∈ms,bC g' t.2.1 t.2.2)→SC P N E c Q f g' s):SC P N E c Q f g (eP ms++s):=fun a w ha hw=>by
 obtain ⟨g',h1,h2,h3⟩:=Go.Proofs.YtcfkpajlakidbaaGreat.freezeRows ms g s hw;exact h g' h1 h3 a w ha h2
def dfs (adj:Int→Option (List Int)):Nat→Int→List Int→List Int
 | 0,_,vis=>vis
 | n+1,id,vis =>
  match adj id with
  | none=>vis
  | some l=>if vis.contains id then vis else l.foldl (fun v x=>dfs adj n x v) (vis++[id])
theorem iW (adj:Int→Option (List Int))(n:Nat)(id:Int)(vis:List Int):dfs adj (n+1) id vis=(match adj id with
  | none=>vis
  | some l=>if vis.contains id then vis else l.foldl (fun v x=>dfs adj n x v) (vis++[id])):=rfl
theorem o4 (adj:Int→Option (List Int)):∀ (n:Nat) (id:Int) (vis:List Int) (x:Int),x∈vis→x∈dfs adj n id vis
 | 0,_,_,_,h=>h
 | n+1,id,vis,x,h=>by
  unfold dfs;split
  ·exact h
  ·split
   ·exact h
   ·have:∀ (l:List Int) (v:List Int),x∈v→x∈l.foldl (fun v y=>dfs adj n y v) v:=by
     intro l;induction l with
     | nil=>intro v hv; exact hv
     | cons y t ih=>intro v hv; exact ih _ (o4 adj n y v x hv)
    exact this _ _ (by simp[h])
def ep:List (Int×List Int)→Int→List Int
 | [],_=>[]
 | (a,l)::r,k=>if k=a then l else ep r k
def zi (jl:List (Int×List Int))(k:Int):Bool:=jl.any fun p=>decide (p.1=k)
theorem qE {jl:List (Int×List Int)}{k:Int}(h:zi jl k=false):ep jl k=[]:=by
 induction jl with
 | nil=>rfl
 | cons p r ih =>
  obtain ⟨a,l⟩:=p;simp only[zi,List.any_cons,Bool.or_eq_false_iff,decide_eq_false_iff_not] at h;simp only[ep];rw[zf7 (fun e=>h.1 e.symm)];exact ih h.2
def me (jl:List (Int×List Int))(vis:List Int):Nat:=(jl.filter fun p=>!vis.contains p.1).length
theorem iK {tl:List (Int×List Int)}{v v':List Int}(h:∀ x∈v,x∈v'):me tl v'≤me tl v:=by
 unfold me;rw[← List.countP_eq_length_filter,← List.countP_eq_length_filter];apply List.countP_mono_left;intro c _ hp;simp at hp ⊢;exact fun e=>hp (h _ e)
theorem xo {tl:List (Int×List Int)}{v:List Int}{k:Int}(hc:zi tl k=true)(hn:v.contains k=false):me tl (v++[k])<me tl v:=by
 induction tl with
 | nil=>simp[zi] at hc
 | cons d t ih =>
  have hm:me t (v++[k])≤me t v:=iK (fun x hx=>by simp[hx]);have e1:∀ u:List Int,me (d::t) u=(if u.contains d.1 then 0 else 1)+me t u:=fun u=>by
   unfold me;rw[zi4];cases u.contains d.1 <;> simp <;> omega
  rw[e1,e1];simp only[zi,List.any_cons,Bool.or_eq_true,zi9] at hc
  rcases hc with rfl | hc'
  ·have:(v++[d.1]).contains d.1=true:=by simp
   rw[this,hn];simp;omega
  ·have:=ih hc';cases h1:v.contains d.1
   ·cases h2:(v++[k]).contains d.1 <;> simp <;> omega
   ·have h2:(v++[k]).contains d.1=true:=by simp at h1 ⊢; exact .inl h1
    rw[h2];simp;exact this
theorem yf {g:PH}(js:Ms)(h:∀ t∈js,bC g t.2.1 t.2.2)(k:Int):∃ v,(fq (iy js) k).getD (.slice none 0 0)=v∧bC g v (ep (fx js) k):=by
 induction js with
 | nil=>exact⟨_,rfl,zb8 g _⟩
 | cons p r ih =>
  obtain ⟨a,u,l⟩:=p;by_cases hk:k=a
  ·subst hk;exact⟨u,by simp[iy,bU],by simpa [fx,ep] using h (k,u,l) (by simp)⟩
  ·obtain ⟨v,h1,h2⟩:=ih fun t ht=>h t (by simp[ht]);exact⟨v,by simpa [iy,bU,hk] using h1,by simpa [fx,ep,hk] using h2⟩
def i6 (jl:List (Int×List Int))(i:Int):Option (List Int):=some (ep jl i)
theorem vh (E:World)(g:PH)(bs bj bf m mj:Nat)(js:Ms)(hj:Mp g mj (iy js))(hjs:∀ t∈js,bC g t.2.1 t.2.2)(hlen:∀ t∈js,t.2.2.length<1099511627776)(h1:g bs=some (.cells #[.map (some m)] 124 (0,0)))(h2:g bj=some (.cells #[.map (some mj)] 123 (0,0)))
  (h3:g bf=some (.cells #[.func (.func 83) #[] #[pp bs 0,pp bj 0,pp bf 0]] 115 (0,0))):∀ (n:Nat) (id:Int) (vis:List Int) (s:Own) (i:Nat),me (fx js) vis<n→s[i]?=some (mp m (lb vis)) →
  Ctr Tryz.prog E 83 #[vi id,pp bs 0,pp bj 0,pp bf 0] g s (fun _ g' s'=>g=g'∧s'=s.set i (mp m (lb (dfs (i6 (fx js)) n id vis)))):=by
 intro n;induction n with
 | zero=>intro id vis s i h; omega
 | succ n ih =>
 intro id vis s i hcnt hi;obtain ⟨v,hv1,hv2⟩:=yf js hjs id;have hvl:(ep (fx js) id).length<1099511627776:=by
  have:∀ q:Ms,(∀ t∈q,t.2.2.length<1099511627776)→(ep (fx q) id).length<1099511627776:=by
   intro q hq;induction q with
   | nil=>simp[fx,ep]
   | cons p r ihq =>
    obtain ⟨a,u,l⟩:=p;simp only[fx,zg2,ep];split
    ·exact hq (a,u,l) (by simp)
    ·exact ihq fun t ht=>hq t (by simp[ht])
  exact this js hlen
 generalize hL:ep (fx js) id=L at hv2 hvl;obtain ⟨p,cp,rfl⟩:=za2 hv2;refine za9 (args:=[vi id,pp bs 0,pp bj 0,pp bf 0]) func83 I ntmps83 (bE I) ?_;refine rZ (lK (qL isAgg124 I (cK h1 I)) (lM I (lK (SQ.eq (v':=vb (vis.contains id)) (SQ.lookup mty124 I I (di.own i hi)) ((uo vis).get id)) (lU (SU.not I) (tZ ?_)))));refine iQ I (fun hc=>?_) (fun hc=>?_)
 ·have hnv:vis.contains id=false:=by simpa using hc
  refine rZ (lK (qL isAgg124 I (cK h1 I)) (lM I (lO (SO.mapUpdate i mty124 I I I hi) ?_)));rintro _ _ _ ⟨rfl,rfl⟩;rw[uq hnv];refine tZ (rZ (lK (qL isAgg123 I (cK h2 I)) (lM I (lK (SQ.eq (SQ.lookup mty123 I I (di.known hj)) hv1) (lU (eN ah I) (lM I (tZ (bK ?_))))))));refine oP (ι:=Nat×List Int) (fun q=>[(3,pp bf 0),(15,.slice p L.length cp),(16,vi L.length),(17,vi q.1)]) (fun _=>g)
   (fun q=>s.set i (mp m (lb q.2))) (fun q=>q.1≤L.length∧q.2=(L.take q.1).foldl (fun v x=>dfs (i6 (fx js)) n x v) (vis++[id])∧(0<L.length→me (fx js) q.2<n)) (fun q=>L.length - q.1)
   (0,vis++[id]) sB rfl rfl ⟨zf4 _,by simp,fun hpos=>?_⟩ ?_
  ·cases hh:zi (fx js) id with
   | false =>
    rw[qE hh] at hL;rw[← hL] at hpos;simp at hpos
   | true =>
    have:=xo hh hnv;dsimp only;omega
  rintro ⟨j,vj⟩ ⟨hj1,hvj,hcj⟩;dsimp only at hj1 hvj hcj ⊢;refine rZ (yL I (tZ (sQ ?_)));refine iP I (fun hlt=>?_) (fun hlt=>?_)
  ·have hjl:j<L.length:=oM;have hb1:=za4 hv2 oM;have hjx:L[((j:Nat):Int).toNat]?=some L[j]:=gE hjl;have hjx':L[j]?=some L[j]:=gE hjl;generalize L[j]=y at *;refine kP (tN (sQ (bK (rZ (lU (iA ah zT3 I I hb1 oM sL) (lK (eB iT3 I (za5 hv2) hjx I) (aT I (rG (lK (qL isAgg115 I (cK h3 I)) (lM I (lW (SO.callV I I (cX.mk (cap:=[pp bs 0,pp bj 0,pp bf 0]) call83 (ih y vj _ i (hcj oM) (xg hi _)))) ?_)))))))))));rintro _ _ _ ⟨rfl,rfl⟩;refine nL (bN (tN (rG (yD I (lM I (nL ?_))))));exact gA (j+1,dfs (i6 (fx js)) n y vj) sB I (by rw[List.set_set]) ⟨lN,by
    rw[eT hjx',zi6,← hvj]; rfl,fun h=>Nat.lt_of_le_of_lt (iK fun x hx=>o4 _ n _ _ x hx) (hcj h)⟩ lN
  ·refine xI (tX (tX (bX ?_)));have hjj:L.take j=L:=tL oM;have hr:dfs (i6 (fx js)) (n+1) id vis=vj:=by
    rw[hjj] at hvj;rw[hvj,iW];simp only[i6,hL,hnv,Bool.false_eq_true,if_false]
   exact ST.ret0 (.inr I) results83 ⟨I,by rw[hr]⟩
 ·refine kP ?_;have hin:vis.contains id=true:=by simpa using hc
  have hr:dfs (i6 (fx js)) (n+1) id vis=vis:=by
   rw[iW];simp only[i6,hin,if_true]
  exact ST.ret0 (.inr I) results83 ⟨I,by rw[hr,lL hi]⟩
inductive Rch (adj:Int→Option (List Int)):Int→Int→Prop
 | refl (a:Int) (h:adj a≠none):Rch adj a a
 | step (a b c:Int) (l:List Int) (h:adj a=some l) (hb:b∈l) (r:Rch adj b c):Rch adj a c
theorem Rch.node {adj:Int→Option (List Int)}{a b:Int}(h:Rch adj a b):adj a≠none:=by
 cases h with
 | refl _ h=>exact h
 | step _ _ _ l h _ _=>rw[h]; simp
theorem mR (adj:Int→Option (List Int)):∀ (n:Nat) (id:Int) (vis:List Int) (x:Int),x∈dfs adj n id vis→x∈vis∨Rch adj id x
 | 0,_,_,_,h=>.inl h
 | n+1,id,vis,x,h=>by
  rw[iW] at h;cases ha:adj id with
  | none=>rw[ha] at h; exact .inl h
  | some l =>
   rw[ha] at h;dsimp only at h;split at h
   ·exact .inl h
   ·have key:∀ (q:List Int) (v:List Int),(∀ y∈q,y∈l)→x∈q.foldl (fun v y=>dfs adj n y v) v→x∈v∨Rch adj id x:=by
     intro q;induction q with
     | nil=>intro v _ hx; exact .inl hx
     | cons y t ih =>
      intro v hq hx
      rcases ih _ (fun z hz=>hq z (by simp[hz])) hx with h1 | h1
      ·rcases mR adj n y v x h1 with h2 | h2
       ·exact .inl h2
       ·exact .inr (.step id y x l ha (hq y (by simp)) h2)
      ·exact .inr h1
    rcases key l _ (fun y hy=>hy) h with h1 | h1
    ·rcases zf1.1 h1 with h2 | h2
     ·exact .inl h2
     ·simp at h2;subst h2;exact .inr (.refl _ (by rw[ha]; simp))
    ·exact .inr h1
theorem iJ (adj:Int→Option (List Int)):∀ (n:Nat) (id:Int) (vis:List Int),vis.Nodup→(dfs adj n id vis).Nodup
 | 0,_,_,h=>h
 | n+1,id,vis,h=>by
  rw[iW];cases adj id with
  | none=>exact h
  | some l =>
   dsimp only;split
   ·exact h
   ·rename_i hc;have key:∀ (q:List Int) (v:List Int),v.Nodup→(q.foldl (fun v y=>dfs adj n y v) v).Nodup:=by
     intro q;induction q with
     | nil=>intro v hv; exact hv
     | cons y t ih=>intro v hv; exact ih _ (iJ adj n y v hv)
    refine key l _ ?_;rw[List.nodup_append];refine⟨h,by simp,fun a ha b hb e=>hc ?_⟩;simp at hb;subst hb;simpa [← e] using ha
theorem jb (adj:Int→Option (List Int))(cnt:List Int→Nat)(hm:∀ v v',(∀ x∈v,x∈v')→cnt v'≤cnt v)(hs:∀ v k l,adj k=some l→l≠[]→v.contains k=false→cnt (v++[k])<cnt v) :
  ∀ (n:Nat) (id:Int) (vis:List Int),cnt vis<n→(adj id≠none→id∈dfs adj n id vis)∧∀ x∈dfs adj n id vis,x ∉ vis→∀ l,adj x=some l→∀ y∈l,adj y≠none→y∈dfs adj n id vis
 | 0,_,_,h=>absurd h oM
 | n+1,id,vis,hc=>by
  rw[iW];cases ha:adj id with
  | none=>exact⟨fun h=>absurd rfl h,fun x hx hn=>absurd hx hn⟩
  | some l =>
   dsimp only;split
   ·rename_i hin;exact⟨fun _=>by simpa using hin,fun x hx hn=>absurd hx hn⟩
   ·rename_i hin;have hin':vis.contains id=false:=by simpa using hin
    have key:∀ (q:List Int) (v:List Int),(∀ x∈vis++[id],x∈v)→(∀ x∈v,x ∉ vis++[id]→∀ l,adj x=some l→∀ y∈l,adj y≠none→y∈v)→(q≠[]→cnt v<n) →
      (∀ x∈v,x∈q.foldl (fun v y=>dfs adj n y v) v)∧(∀ y∈q,adj y≠none→y∈q.foldl (fun v y=>dfs adj n y v) v) ∧
      ∀ x∈q.foldl (fun v y=>dfs adj n y v) v,x ∉ vis++[id]→∀ l,adj x=some l→∀ y∈l,adj y≠none→y∈q.foldl (fun v y=>dfs adj n y v) v:=by
     intro q;induction q with
     | nil=>intro v _ h2 _; exact⟨fun x hx=>hx,by simp,h2⟩
     | cons y t ih =>
      intro v h1 h2 h3;have hcv:=h3 (by simp);obtain ⟨d1,d2⟩:=jb adj cnt hm hs n y v hcv;have hsub:=o4 adj n y v;have hcl:∀ x∈dfs adj n y v,x ∉ vis++[id]→∀ l,adj x=some l→∀ z∈l,adj z≠none→z∈dfs adj n y v:=by
       intro x hx hn l hl z hz hzn;by_cases hxv:x∈v
       ·exact hsub z (h2 x hxv hn l hl z hz hzn)
       ·exact d2 x hx hxv l hl z hz hzn
      obtain ⟨e1,e2,e3⟩:=ih (dfs adj n y v) (fun x hx=>hsub x (h1 x hx)) hcl (fun _=>Nat.lt_of_le_of_lt (hm _ _ hsub) hcv);simp only[zi5];refine⟨fun x hx=>e1 x (hsub x hx),fun z hz hzn=>?_,e3⟩
      rcases ze8.1 hz with rfl | hz
      ·exact e1 z (d1 hzn)
      ·exact e2 z hz hzn
    obtain ⟨k1,k2,k3⟩:=key l (vis++[id]) (fun x hx=>hx) (fun x hx hn=>absurd hx hn) (fun hl=>by have:=hs vis id l ha hl hin'; omega);refine⟨fun _=>k1 id (by simp),fun x hx hn l' hl' y hy hyn=>?_⟩;by_cases hxv:x∈vis++[id]
    ·rcases zf1.1 hxv with h | h
     ·exact absurd h hn
     ·simp at h;subst h;rw[ha] at hl';injection hl' with hl'
      subst hl';exact k2 y hy hyn
    ·exact k3 x hx hxv l' hl' y hy hyn
theorem si {adj:Int→Option (List Int)}{cnt:List Int→Nat}(hm:∀ v v',(∀ x∈v,x∈v')→cnt v'≤cnt v)(hs:∀ v k l,adj k=some l→l≠[]→v.contains k=false→cnt (v++[k])<cnt v){n:Nat}{id:Int}(hc:cnt []<n)(hn:adj id≠none)(x:Int) :
  x∈dfs adj n id []↔Rch adj id x:=by
 obtain ⟨d1,d2⟩:=jb adj cnt hm hs n id [] hc;refine⟨fun h=>(mR adj n id [] x h).resolve_left (by simp),fun h=>?_⟩;have key:∀ a b,Rch adj a b→a∈dfs adj n id []→b∈dfs adj n id []:=by
  intro a b hr;induction hr with
  | refl a _=>exact fun h=>h
  | step a b c l hl hb r ih=>exact fun h=>ih (d2 a h (by simp) l hl b hb r.node)
 exact key id x h (d1 hn)
theorem Rch.mono {adj adj':Int→Option (List Int)}(h:∀ x l,adj x=some l→∀ y∈l,∃ l',adj' x=some l'∧y∈l')(hn:∀ x,adj x≠none→adj' x≠none){a b:Int}(hr:Rch adj a b):Rch adj' a b:=by
 induction hr with
 | refl a h1=>exact .refl a (hn a h1)
 | step a b c l hl hb _ ih =>
  obtain ⟨l',h1,h2⟩:=h a l hl b hb;exact .step a b c l' h1 h2 ih
theorem jT (jl:List (Int×List Int)):∀ v k l,i6 jl k=some l→l≠[]→v.contains k=false→me jl (v++[k])<me jl v:=by
 intro v k l hl hne hv;refine xo ?_ hv;cases h:zi jl k with
 | true=>rfl
 | false =>
  rw[i6,qE h] at hl;injection hl with hl
  exact absurd hl.symm hne
theorem qF (jl:List (Int×List Int))(a b x:Int):ep (fa jl a b) x=if x=a then ep jl x++[b] else ep jl x:=by
 induction jl with
 | nil=>simp[fa,ep]
 | cons p r ih =>
  obtain ⟨k,l⟩:=p;simp only[fa];by_cases h:a=k
  ·subst h;simp only[if_true,ep];split <;> rfl
  ·rw[zf7 h];simp only[ep,ih];by_cases hx:x=k
   ·subst hx;rw[zf8 rfl,zf8 rfl,zf7 (fun e=>h e.symm)]
   ·rw[zf7 hx,zf7 hx]
def aB (tl:List Cl)(x:aj):List aj:=((aJ tl x.cell).getD gN).sides
def kG (x:aj)(zl:List (Int×Int))(r:aj):List (Int×Int):=fQ zl r.cell (x.sign * r.sign)
def eg (i:Int)(ml:List (Int×List Int))(r:aj):List (Int×List Int):=fa ml r.cell i
def fX (tl:List Cl)(l:List aj):List (Int×Int):=l.foldl (fun zl x=>(aB tl x).foldl (kG x) zl) []
def ee (tl:List Cl)(l:List aj):List (Int×List Int):=l.zipIdx.foldl (fun ml p=>(aB tl p.1).foldl (eg p.2) ml) []
def j7 (jl:List (Int×List Int))(p:Int×List Int):List (Int×List Int):=match p.2 with
 | [a,b]=>fa (fa jl a b) b a
 | _=>jl
def cN (ml:List (Int×List Int)):List (Int×List Int):=ml.foldl j7 []
def ir (jl:List (Int×List Int)):List Int:=dfs (i6 jl) (jl.length+1) 0 []
def cC (tl:List Cl)(c:Cl):Int :=
 if (fX tl c.sides).any (fun p=>decide (p.2≠0)) then 24
 else if (ee tl c.sides).any (fun p=>decide ((p.2.length:Int)≠2)) then 25
 else if ((ir (cN (ee tl c.sides))).length:Int)≠c.sides.length then 25 else 0
def AOk (tl:List Cl)(c:Cl):Prop:=c.sides.length≤64∧(∀ x∈c.sides,x.sign=1∨x.sign = -1)∧∀ x∈c.sides,(aB tl x).length≤64∧∀ r∈aB tl x,r.sign=1∨r.sign = -1
theorem vq {tl:List Cl}{l:List aj}{x:aj}:fX tl (l++[x])=(aB tl x).foldl (kG x) (fX tl l):=by
 simp[fX,zi6]
theorem x7 {tl:List Cl}{l:List aj}{x:aj}:ee tl (l++[x])=(aB tl x).foldl (eg l.length) (ee tl l):=by
 simp[ee,List.zipIdx_append,zi6]
theorem um {a b:Int}(ha:a=1∨a = -1)(hb:b=1∨b = -1):a * b=1∨a * b = -1:=by
 rcases ha with rfl | rfl <;> rcases hb with rfl | rfl <;> decide
theorem y3 (ml:List (Int×List Int))(k x:Int):(fa ml k x).map Prod.fst=if ml.any (fun p=>decide (p.1=k)) then ml.map Prod.fst else ml.map Prod.fst++[k]:=by
 induction ml with
 | nil=>rfl
 | cons p r ih =>
  obtain ⟨a,l⟩:=p;simp only[fa];by_cases h:k=a
  ·subst h; simp
  ·have h':¬ a=k:=fun e=>h e.symm;rw[zf7 h];simp only[zg2,ih,List.any_cons,h',decide_false,Bool.false_or];split <;> simp
theorem wu {ml:List (Int×List Int)}(h:(ml.map Prod.fst).Nodup)(k x:Int):((fa ml k x).map Prod.fst).Nodup:=by
 rw[y3];split
 ·exact h
 ·rename_i hk;rw[List.nodup_append];refine⟨h,by simp,fun a ha b hb e=>hk ?_⟩;simp at hb;subst hb;obtain ⟨p,hp,hpe⟩:=ze9.1 ha;rw[zj3];exact⟨p,hp,by simp[hpe,e]⟩
theorem jo (tl:List Cl)(l:List aj):((ee tl l).map Prod.fst).Nodup:=by
 unfold ee;have h2:∀ (q:List (aj×Nat)) (ml:List (Int×List Int)),(ml.map Prod.fst).Nodup→((q.foldl (fun ml p=>(aB tl p.1).foldl (eg p.2) ml) ml).map Prod.fst).Nodup:=by
  intro q;induction q with
  | nil=>intro ml h; exact h
  | cons p t ih =>
   intro ml h;refine ih _ ?_;have h1:∀ (q:List aj) (ml:List (Int×List Int)),(ml.map Prod.fst).Nodup→((q.foldl (eg p.2) ml).map Prod.fst).Nodup:=by
    intro q;induction q with
    | nil=>intro ml h; exact h
    | cons r t ih=>intro ml h; exact ih _ (wu h _ _)
   exact h1 _ _ h
 exact h2 _ _ (by simp)
theorem tT (ml:List (Int×List Int))(k x:Int):(fa ml k x).length≤ml.length+1:=by
 induction ml with
 | nil=>simp[fa]
 | cons p r ih =>
  obtain ⟨a,l⟩:=p;simp only[fa];split <;> simp <;> omega
theorem tw {tl:List Cl}{l:List aj}(h:∀ x∈l,(aB tl x).length≤64):(ee tl l).length≤64 * l.length:=by
 have h2:∀ (q:List (aj×Nat)) (ml:List (Int×List Int)),(∀ p∈q,(aB tl p.1).length≤64)→(q.foldl (fun ml p=>(aB tl p.1).foldl (eg p.2) ml) ml).length≤ml.length+64 * q.length:=by
  intro q;induction q with
  | nil=>intro ml _; simp
  | cons p t ih =>
   intro ml hq;have h1:∀ (q:List aj) (ml:List (Int×List Int)),(q.foldl (eg p.2) ml).length≤ml.length+q.length:=by
    intro q;induction q with
    | nil=>intro ml; simp
    | cons r t ih =>
     intro ml;have h3:=ih (eg p.2 ml r);have h4:=tT ml r.cell p.2;simp only[zi5,ze6];unfold eg at h3 ⊢;omega
   have h5:=ih ((aB tl p.1).foldl (eg p.2) ml) (fun p hp=>hq p (by simp[hp]));have h6:=h1 (aB tl p.1) ml;have h7:=hq p (by simp);simp only[zi5,ze6];omega
 have:=h2 l.zipIdx [] (fun p hp=>h p.1 (by
  obtain ⟨a,i⟩:=p;exact (List.mem_zipIdx hp).2.2 ▸ gM _))
 simpa [ee] using this
theorem tg {α:Type}(f:α→Int){vt ms:List α}(hs:∀ t∈vt,t∈ms)(hp:(vt.map f).Perm (ms.map f))(hn:(ms.map f).Nodup):vt.Perm ms:=by
 have hinj:∀ {l:List α},(l.map f).Nodup→∀ a∈l,∀ b∈l,f a=f b→a=b:=by
  intro l;induction l with
  | nil=>intro _ a ha; simp at ha
  | cons c t ih =>
   intro h a ha b hb e;simp only[zg2,zj5] at h
   rcases ze8.1 ha with rfl | ha' <;> rcases ze8.1 hb with rfl | hb'
   ·rfl
   ·exact absurd (ze9.2 ⟨b,hb',e.symm⟩) h.1
   ·exact absurd (ze9.2 ⟨a,ha',e⟩) h.1
   ·exact ih h.2 a ha' b hb' e
 refine (List.perm_ext_iff_of_nodup (List.Pairwise.of_map f (fun a b hab e=>hab (by rw[e])) (hp.symm.nodup hn)) (List.Pairwise.of_map f (fun a b hab e=>hab (by rw[e])) hn)).2 fun c=>⟨hs c,fun hc=>?_⟩;obtain ⟨c',h1,h2⟩:=ze9.1 (hp.symm.subset (ze9.2 ⟨c,hc,rfl⟩));rw[← hinj hn c' (hs c' h1) c hc h2];exact h1
theorem zY (jl:List (Int×List Int))(a b x y:Int):y∈ep (fa jl a b) x↔y∈ep jl x∨(x=a∧y=b):=by
 rw[qF];split
 ·rename_i h; simp[h]
 ·rename_i h; simp[h]
theorem j6 (ml:List (Int×List Int))(x y:Int):y∈ep (cN ml) x↔∃ p∈ml,p.2=[x,y]∨p.2=[y,x]:=by
 have key:∀ (q:List (Int×List Int)) (jl:List (Int×List Int)),y∈ep (q.foldl j7 jl) x↔y∈ep jl x∨∃ p∈q,p.2=[x,y]∨p.2=[y,x]:=by
  intro q;induction q with
  | nil=>intro jl; simp
  | cons p t ih =>
   intro jl;simp only[zi5,ih];have hp:y∈ep (j7 jl p) x↔y∈ep jl x∨(p.2=[x,y]∨p.2=[y,x]):=by
    obtain ⟨k,l⟩:=p;unfold j7;dsimp only
    match l with
    | []=>simp
    | [_]=>simp
    | [a,b] =>
     simp only[zY,List.cons.injEq,and_true];constructor
     ·rintro ((h | ⟨h1,h2⟩) | ⟨h1,h2⟩)
      ·exact .inl h
      ·exact .inr (.inl ⟨h1.symm,h2.symm⟩)
      ·exact .inr (.inr ⟨h2.symm,h1.symm⟩)
     ·rintro (h | ⟨h1,h2⟩ | ⟨h1,h2⟩)
      ·exact .inl (.inl h)
      ·exact .inl (.inr ⟨h1.symm,h2.symm⟩)
      ·exact .inr ⟨h2.symm,h1.symm⟩
    | _::_::_::q=>simp
   rw[hp];constructor
   ·rintro ((h | h) | ⟨q,h1,h2⟩)
    ·exact .inl h
    ·exact .inr ⟨p,by simp,h⟩
    ·exact .inr ⟨q,by simp[h1],h2⟩
   ·rintro (h | ⟨q,h1,h2⟩)
    ·exact .inl (.inl h)
    ·rcases ze8.1 h1 with rfl | h1
     ·exact .inl (.inr h2)
     ·exact .inr ⟨q,h1,h2⟩
 unfold cN;rw[key];simp[ep]
theorem xU {a b:List (Int×List Int)}(h:a.Perm b):(ir (cN a)).length=(ir (cN b)).length:=by
 have hr:∀ (a b:List (Int×List Int)),a.Perm b→∀ x,Rch (i6 (cN a)) 0 x→Rch (i6 (cN b)) 0 x:=by
  intro a b h x hx;refine hx.mono (fun u l hl y hy=>⟨_,I,?_⟩) (fun _ _=>by simp[i6]);simp only[i6,zg5] at hl;subst hl;rw[j6] at hy ⊢;obtain ⟨p,hp,h2⟩:=hy;exact⟨p,h.subset hp,h2⟩
 have hc:∀ jl:List (Int×List Int),me jl []<jl.length+1:=fun jl=>zk3 (zc2 _ _);have hmem:∀ (q:List (Int×List Int)) (x:Int),x∈ir (cN q)↔Rch (i6 (cN q)) 0 x:=fun q x=>si (cnt:=me (cN q)) (fun v v' h=>iK h) (jT _) (hc _) (by simp[i6]) x;refine List.Perm.length_eq ((List.perm_ext_iff_of_nodup (iJ _ _ _ _ (by simp)) (iJ _ _ _ _ (by simp))).2 fun x=>?_);exact (hmem a x).trans (Iff.trans ⟨hr a b h x,hr b a h.symm x⟩ (hmem b x).symm)
theorem tO (E:World)(g:PH)(s:Own)(v:Value)(tl:List Cl)(c:Cl)(r:Rc)(hv:Tab g v tl)(hc:aC g c r)(hok:AOk tl c) :
  Ctr Tryz.prog E 53 #[v,rcv r] g s (fun r g' s'=>r=vi (cC tl c)∧g=g'∧s=s'):=by
 obtain ⟨b,mt,iv,rs,rfl,hb,hm,hI,hall⟩:=hv;obtain ⟨ri,rd,rp,rn,rcap⟩:=r;have hcs:SlA encSide g (.slice rp rn rcap) c.sides:=hc.2.2;have hrn:rn=c.sides.length:=zb9 hcs;have hrd:rd=c.dim:=hc.2.1;subst hrn hrd;obtain ⟨hn64,hsg,hin⟩:=hok;have hx0:=fun h=>hcs.based h;refine za9 (args:=[pp b 0,rcv ⟨ri,c.dim,rp,c.sides.length,rcap⟩]) func53 I ntmps53 (bE I) ?_;refine rZ (bW (bO I) fun b3=>?_);refine aT I (rZ (lW (SO.mkMap) ?_));rintro _ _ _ ⟨mz,rfl,rfl,rfl⟩;refine lW (SO.mkMap) ?_;rintro _ _ _ ⟨mm,rfl,rfl,rfl⟩;refine lA I (aT I ?_);refine SC.cut (ι:=List (Int×Int)×Ms) (fun _=>[(3,pp b3 0),(5,.map (some mz)),(6,.map (some mm))]) (fun _=>g) (fun q=>mp mm (iy q.2)::mp mz (pJ q.1)::pt b3 (.cells #[vi ri,vi c.dim,.slice rp c.sides.length rcap] 63 (0,0))::(eP q.2++s))
  (fun q=>q.1=fX tl c.sides∧fx q.2=ee tl c.sides∧∀ t∈q.2,t.2.2.length≤4096) ?_ ?_
 ·refine rZ (lU (fA ao I bI I) (lK (qL cQ I (cO 2 I I)) (lU (eN cA I) (lM I (tZ (bK ?_))))));refine oP (ι:=Nat×List (Int×Int)×Ms) (fun q=>[(0,pp b 0),(3,pp b3 0),(5,.map (some mz)),(6,.map (some mm)),(21,.slice rp c.sides.length rcap),(22,vi c.sides.length),(23,vi q.1)]) (fun _=>g)
   (fun q=>mp mm (iy q.2.2)::mp mz (pJ q.2.1)::pt b3 (.cells #[vi ri,vi c.dim,.slice rp c.sides.length rcap] 63 (0,0))::(eP q.2.2++s))
   (fun q=>q.1≤c.sides.length∧q.2.1=fX tl (c.sides.take q.1)∧fx q.2.2=ee tl (c.sides.take q.1)∧(∀ p∈q.2.1,-((64 * q.1:Nat):Int)≤p.2∧p.2≤((64 * q.1:Nat):Int))∧∀ t∈q.2.2,t.2.2.length≤64 * q.1) (fun q=>c.sides.length - q.1)
   (0,[],[]) sB rfl rfl ⟨zf4 _,by simp[fX],by simp[ee,fx],by simp,by simp⟩ ?_
  rintro ⟨k,zl0,ms0⟩ ⟨hk,hz0,hm0,hzb0,hmb0⟩;dsimp only at hk hz0 hm0 hzb0 hmb0 ⊢;refine rZ (yL I (tZ (sQ ?_)));refine iP I (fun hlt=>?_) (fun hlt=>?_)
  ·have hkl:k<c.sides.length:=oM;have hb1:=hx0 oM;have hjx:c.sides[((k:Nat):Int).toNat]?=some c.sides[k]:=gE hkl;have htk:c.sides.take (k+1)=c.sides.take k++[c.sides[k]]:=tS hkl;have hmy:c.sides[k]∈c.sides:=gM hkl;have htkl:(c.sides.take k).length=k:=by simp; omega
   generalize c.sides[k]=y at *;obtain ⟨x,hx1,hx2,hx3⟩:=mW hall sD y.cell;obtain ⟨xi,xd,xp,xn,xc⟩:=x;have hxs:SlA encSide g (.slice xp xn xc) (aB tl y):=hx3.2.2;have hxn:xn=(aB tl y).length:=zb9 hxs;subst hxn;have hysg:=hsg y hmy;obtain ⟨hyl,hyr⟩:=hin y hmy;generalize hsy:aB tl y=sy at hxs hyl hyr;refine kP (tN (sQ (bK (sW I (lU (iA cA cj I I hb1 oM sL) (lK (eA nE cj I hcs.rd hjx) (bW (aL zk5) fun b8=>?_)))))));refine lA I (oZ (sK 0 cj I I I I I sB) ?_);refine tZ (sQ ?_);refine dW [] [(0,2),(1,2),(2,2),(3,1),(4,2),(5,1),(6,1),(7,2),(8,2),(9,2)] ze1 kR ?_;refine yM I (pU I (nC I) (pU I (fA nM I sizeOf98 I) (pK I (qL isAgg98 I (cK hb I)) (pU I (fA dn I zT3 I) (pK I (qL iT3 I (cO 0 I I)) (pK I (SQ.eq (v':=rcv ⟨xi,xd,xp,sy.length,xc⟩) (SQ.lookup mty98 I I (di.known hm)) (by rw[hx1,hsy])) ?_))))));refine pU I (SU.field ao I cQ I I) (pU I (eN cA I) (yM I (pN (tN (bK ?_)))));refine oP (ι:=Nat×List (Int×Int)×Ms) (fun q=>[(0,pp b 0),(3,pp b3 0),(5,.map (some mz)),(6,.map (some mm)),(7,vi k),(8,pp b8 0),(21,.slice rp c.sides.length rcap),(22,vi c.sides.length),(23,vi k),(35,.slice xp sy.length xc),(36,vi sy.length),(37,vi q.1)]) (fun _=>g)
    (fun q=>pt b8 (.cells #[vi y.cell,vi y.sign] 87 (0,0))::mp mm (iy q.2.2)::mp mz (pJ q.2.1)::pt b3 (.cells #[vi ri,vi c.dim,.slice rp c.sides.length rcap] 63 (0,0))::(eP q.2.2++s))
    (fun q=>q.1≤sy.length∧q.2.1=(sy.take q.1).foldl (kG y) zl0∧fx q.2.2=(sy.take q.1).foldl (eg k) (ee tl (c.sides.take k))∧(∀ p∈q.2.1,-((64 * k+q.1:Nat):Int)≤p.2∧p.2≤((64 * k+q.1:Nat):Int))∧∀ t∈q.2.2,t.2.2.length≤64 * k+q.1) (fun q=>sy.length - q.1)
    (0,zl0,ms0) sB rfl rfl ⟨zf4 _,by simp,by simp[hm0],by simpa using hzb0,by simpa using hmb0⟩ ?_
   rintro ⟨j,zl,ms⟩ ⟨hj,hz,hmm,hzb,hmb⟩;dsimp only at hj hz hmm hzb hmb ⊢;refine rZ (yL I (tZ (sQ ?_)));refine iP I (fun hlt2=>?_) (fun hlt2=>?_)
   ·have hjl:j<sy.length:=oM;have hb2:=hxs.based oM;have hjx2:sy[((j:Nat):Int).toNat]?=some sy[j]:=gE hjl;have htj:sy.take (j+1)=sy.take j++[sy[j]]:=tS hjl;have hrsg:=hyr _ (gM hjl);generalize sy[j]=z at *;obtain ⟨ms',j0,u,lu,hp1,hp2,hp3,hp4,hp6,hp5⟩:=CS ms z.cell;have hmb':=hp6 _ hmb;have hlu:=hmb' _ (zf9 hp1);dsimp only at hlu;have hgb:=vX oM hzb z.cell;have hpr:=um hysg hrsg;refine SC.to (fun w hw=>hp5 E g [pt b8 (.cells #[vi y.cell,vi y.sign] 87 (0,0)),mp mm (iy ms),mp mz (pJ zl),pt b3 (.cells #[vi ri,vi c.dim,.slice rp c.sides.length rcap] 63 (0,0))] s w hw) ?_;refine kP (tN (sQ (bK (rZ (lU (iA cA cj I I hb2 oM sL) (lK (eA nE cj I hxs.rd hjx2) (bW (aL zk5) fun b10=>?_)))))));refine oZ (sK 0 cj I I I I I sB) ?_;refine tZ (sW I (lU (fA dn I zT3 I) (lK (qL iT3 I (cO 0 I I)) (lK (SQ.eq (v':=vi (gF zl z.cell)) (SQ.lookup mty73 I I (di.own 3 I)) (Af zl _)) (lU (fA dn I zT3 I) (lK (qL iT3 I (cO 1 I I)) (lU (fA dn I zT3 I) (lK (qL iT3 I (cO 0 I I)) (lU (SU.mul (m:=y.sign) (n:=z.sign) I I oM) (lU (aD (m:=gF zl z.cell) (n:=y.sign * z.sign) I I oM) (lO (SO.mapUpdate 3 mty73 I I I I) ?_)))))))))));rintro _ _ _ ⟨rfl,rfl⟩;rw[AI];refine tZ ?_;refine SC.drawT 5 [10] [(0,2),(1,2),(2,1),(3,2),(4,2),(5,1),(6,1),(7,2),(8,0),(9,0),(10,0)] ze1 kR ?_;refine yM rfl (pU rfl (fA dn rfl zT3 rfl) (pK rfl (qL iT3 rfl (cO 0 rfl rfl)) (yM rfl (pU rfl (fA dn rfl zT3 rfl) (pK rfl (qL iT3 rfl (cO 0 rfl rfl)) (pK rfl (SQ.eq (SQ.lookup mty123 rfl rfl (di.own 2 rfl)) hp2) (yM rfl (SP.o rfl (bS sty25 rfl rfl rfl (ab sB) dC) dC (.inr (by rintro _ _ _ ⟨b59,rfl,rfl,rfl⟩; exact⟨by exact zb7 _,(by exact .cons _ (List.take_sublist _ _))⟩)) ?_))))))));rintro _ _ _ ⟨b59,rfl,rfl,rfl⟩;refine SP.o I (SO.app1 (j0+5) ((lu++[(k:Int)]).flatMap encInt.enc) (lu++[(k:Int)]).length sty25 I I I (ph hp1 s) I ⟨I,trivial⟩ (by simp[encInt]; rfl) (by simp) lN lN) dC (.inr (by rintro u' _ _ ⟨rfl,rfl⟩; exact⟨by exact zb7 _,(by exact cg _ _ _ _)⟩)) ?_;rintro u' _ _ ⟨rfl,rfl⟩;refine SP.on I (SO.mapUpdate 2 mty123 I I I I) (.inl dC) ?_;rintro _ _ _ ⟨rfl,rfl⟩;refine pN (bN (tN (rG (yD I (lM I (nL ?_))))));refine dR (s':=pt b8 (.cells #[vi y.cell,vi y.sign] 87 (0,0))::mp mm (iy (ms'.set j0 (z.cell,u',lu++[(k:Int)])))::mp mz (pJ (fQ zl z.cell (y.sign * z.sign)))::pt b3 (.cells #[vi ri,vi c.dim,.slice rp c.sides.length rcap] 63 (0,0))::(eP (ms'.set j0 (z.cell,u',lu++[(k:Int)]))++s)) (by
     rw[← hp3 u' k,← pg (v':=u') (l':=lu++[(k:Int)]) hp1 s];exact .cons _ (.refl _)) ?_
    exact gA (j+1,fQ zl z.cell (y.sign * z.sign),ms'.set j0 (z.cell,u',lu++[(k:Int)])) sB I I ⟨lN,by rw[htj,zi6,← hz]; rfl,by rw[htj,zi6,← hmm,hp4]; rfl,by
      have:=wt oM hzb z.cell (x:=y.sign * z.sign) oM;intro p hp;have:=this p hp;dsimp only at *;omega,fun t ht=>by
      dsimp only at *
      rcases List.mem_or_eq_of_mem_set ht with h | h
      ·have:=hmb' t h; omega
      ·subst h; simp; omega⟩ lN
   ·refine xI (tX (tX (bX (bN (tN (rG (yD I (lM I (nL ?_)))))))));have hjj:sy.take j=sy:=tL oM;rw[hjj] at hz hmm;refine dR (s':=mp mm (iy ms)::mp mz (pJ zl)::pt b3 (.cells #[vi ri,vi c.dim,.slice rp c.sides.length rcap] 63 (0,0))::(eP ms++s)) (.cons _ (.refl _)) ?_;exact gA (k+1,zl,ms) sB I I ⟨lN,by rw[htk,vq,hsy,← hz0]; exact hz,by rw[htk,x7,hsy,htkl]; exact hmm,by
      intro p hp;have:=hzb p hp;dsimp only at *;omega,fun t ht=>by have:=hmb t ht; dsimp only at *; omega⟩ lN
  ·refine xI (tX (tX (bX ?_)));have hkk:c.sides.take k=c.sides:=tL oM;rw[hkk] at hz0 hm0;exact za7 (zl0,ms0) sB I I ⟨hz0,hm0,fun t ht=>by have:=hmb0 t ht; omega⟩
 ·rintro ⟨zl,ms⟩ ⟨hz,hmc,hmlen⟩;dsimp only at hz hmc hmlen ⊢;refine cP (zj4 _ _ _) (SC.freezeMap fun g1 hl1 hmz=>?_);refine SC.freezeMap fun g2 hl2 hmm=>?_;refine cP List.perm_middle.symm (SC.freezeRows fun g3 hl3 hrows=>?_);obtain ⟨es1,clk1,hes1,hmi1⟩:=hmz.mono (hl2.trans hl3);obtain ⟨es2,clk2,hes2,hmi2⟩:=hmm.mono hl3;have hle3:=hl1.trans (hl2.trans hl3);have hmsl:ms.length≤4096:=by
   have h1:=tw (tl:=tl) (l:=c.sides) (fun x hx=>(hin x hx).1);rw[← hmc] at h1;have h2:(fx ms).length=ms.length:=by simp[fx]
   omega
  refine sQ (sW I (lW (SO.range underlying73 I hes1) ?_));rintro _ _ _ ⟨it,rfl,rfl,rfl⟩;refine tZ (bK ?_);refine oP (ι:=List MapEntry×List (Int×Value)) (fun _=>[(3,pp b3 0),(6,.map (some mm)),(64,pp it 0)]) (fun _=>g3)
   (fun q=>jZ it mz es1 clk1 q.1::pt b3 (.cells #[vi ri,vi c.dim,.slice rp c.sides.length rcap] 63 (0,0))::s)
   (fun q=>pP (pJ zl) es1 q.1 q.2∧∀ p∈q.2,p.2=vi 0) (fun q=>zl.length - q.2.length) ([],[]) sB rfl rfl ⟨pP.nil _ _,by simp⟩ ?_
  rintro ⟨vis,vl⟩ ⟨hrv,hvz⟩;dsimp only at hrv hvz ⊢;refine rZ (lW (SO.nextP 0 I I hes1 hmi1 hrv) ?_);rintro _ _ _ ⟨rfl,hcase⟩
  rcases hcase with ⟨rfl,rfl,hperm⟩ | ⟨e,pr,he,hq1,hk1,hv1,hrv2,rfl,rfl⟩
  ·have hz0:(fX tl c.sides).any (fun p=>decide (p.2≠0))=false:=by
    rw[zj8];intro p hp;rw[← hz] at hp;have:=hvz (p.1,vi p.2) (hperm.symm.subset (ze9.2 ⟨p,hp,rfl⟩));simpa using this
   refine yX I (tZ (sQ (cF I (xI (tX (tX (bX (tN (sQ (SC.drop (s':=pt b3 (.cells #[vi ri,vi c.dim,.slice rp c.sides.length rcap] 63 (0,0))::s) (.cons _ (.refl _)) (rG (lW (SO.mkMap) ?_))))))))))));rintro _ _ _ ⟨mj,rfl,rfl,rfl⟩;refine bW (aL zeroValue123) fun b13=>?_;refine oZ (sK 0 sizeOf123 I I I I I sB) ?_;refine tZ (sQ (sW I (lW (SO.range underlying123 I hes2) ?_)));rintro _ _ _ ⟨it2,rfl,rfl,rfl⟩;refine tZ (bK ?_);refine oP (ι:=List MapEntry×List (Int×Value)×Ms×Ms) (fun _=>[(3,pp b3 0),(13,pp b13 0),(73,pp it2 0)]) (fun _=>g3)
    (fun q=>jZ it2 mm es2 clk2 q.1::pt b13 (.cells #[.map (some mj)] 123 (0,0))::mp mj (iy q.2.2.2)::pt b3 (.cells #[vi ri,vi c.dim,.slice rp c.sides.length rcap] 63 (0,0))::(eP q.2.2.2++s))
    (fun q=>pP (iy ms) es2 q.1 q.2.1∧q.2.1=iy q.2.2.1∧(∀ t∈q.2.2.1,t∈ms∧t.2.2.length=2)∧fx q.2.2.2=cN (fx q.2.2.1)∧∀ t∈q.2.2.2,t.2.2.length≤2 * q.2.2.1.length) (fun q=>ms.length - q.2.1.length) ([],[],[],[]) sB rfl rfl ⟨pP.nil _ _,rfl,by simp,rfl,by simp⟩ ?_
   rintro ⟨vis2,vl2,vt,js⟩ ⟨hrv3,hvl2,hvt,hjs,hjb⟩;dsimp only at hrv3 hvl2 hvt hjs hjb ⊢;have hvtl:vt.length≤ms.length:=by have:=hrv3.len hmi2; rw[hvl2] at this; simpa [iy] using this
   refine rZ (lW (SO.nextP 0 I I hes2 hmi2 hrv3) ?_);rintro _ _ _ ⟨rfl,hcase2⟩
   rcases hcase2 with ⟨rfl,rfl,hperm2⟩ | ⟨e2,pr2,he2,hq2,hk2,hv2,hrv4,rfl,rfl⟩
   ·have hpm:(fx vt).Perm (ee tl c.sides):=by
     rw[← hmc];have hn:(ms.map fun t=>t.1).Nodup:=by
      have:=jo tl c.sides;rw[← hmc] at this;simpa [fx,zi3,Function.comp_def] using this
     have h1:=hperm2.map Prod.fst;rw[hvl2] at h1;simp only[iy,zi3,Function.comp_def] at h1;exact (tg (fun t=>t.1) (fun t ht=>(hvt t ht).1) h1 hn).map _
    have hreg:(ee tl c.sides).any (fun p=>decide ((p.2.length:Int)≠2))=false:=by
     rw[zj8];intro p hp;obtain ⟨t,ht,rfl⟩:=ze9.1 (hpm.symm.subset hp);have:=(hvt t ht).2;simp[this]
    have hjlen:∀ t∈js,t.2.2.length<1099511627776:=fun t ht=>by
     have h1:=hjb t ht;omega
    refine yX I (tZ (sQ (cF I (xI (tX (tX (bX (tN (sQ (SC.drop (.cons _ (.refl _)) (SC.freeze fun g4 hl4 hb13=>?_)))))))))));refine SC.freezeMap fun g5 hl5 hmj=>?_;refine cP List.perm_middle.symm (SC.freezeRows fun g6 hl6 hjrows=>?_);refine rG (lW (SO.mkMap) ?_);rintro _ _ _ ⟨sm,rfl,rfl,rfl⟩;refine bW (aL zeroValue124) fun b16=>?_;refine oZ (sK 0 sizeOf124 I I I I I ⟨I,trivial⟩) (zb3 fun g7 hl7 hb16=>?_);refine tZ (rZ (bW (aL zeroValue115) fun b17=>?_));refine tZ (rZ (lU (SU.mkFunc I) (oZ (sK 0 sizeOf115 I I I I I ⟨I,trivial⟩) (zb3 fun g8 hl8 hb17=>?_))));refine tZ (rZ (lK (qL isAgg115 I (cK hb17 I)) (lW (SO.callV I I (cX.mk (cap:=[pp b16 0,pp b13 0,pp b17 0]) call83 (vh E g8 b16 b13 b17 sm mj js (hmj.mono (hl6.trans (hl7.trans hl8))) (fun t ht=>(hjrows t ht).mono (hl7.trans hl8)) hjlen (hl8 _ _ hb16) ((hl5.trans (hl6.trans (hl7.trans hl8))) _ _ hb13) hb17 ((fx js).length+1) 0 [] _ 0 (zk3 (zc2 _ _)) I))) ?_)));rintro _ _ _ ⟨rfl,rfl⟩;refine tZ (sQ (rZ (lK (qL isAgg124 I (cK (hl8 _ _ hb16) I)) (lK (SQ.lenMap underlying124 I (di.own 0 I)) (lU (fA ao I bI I) (lK (qL cQ I (cO 1 I I)) (lU (eN cA I) (lU (nQ I I) (tZ ?_)))))))));have hseen:(lb (dfs (i6 (fx js)) ((fx js).length+1) 0 [])).length=(ir (cN (ee tl c.sides))).length:=by
     rw[← xU hpm,← hjs];simp[lb,ir]
    rw[hseen];have hlast:=hle3.trans (hl4.trans (hl5.trans (hl6.trans (hl7.trans hl8))));refine iP I (fun hne=>?_) (fun hne=>?_)
    ·refine rZ (aT I (rE (tR ?_)));refine dR (s':=s) (.cons _ (.cons _ (.refl _))) (ST.less hlast ?_);exact za6 (.inl I) results53 I ⟨by unfold cC; rw[zf7 (by rw[hz0]; exact Bool.false_ne_true),zf7 (by rw[hreg]; exact Bool.false_ne_true),zf8 hne],I,I⟩
    ·refine kP (tN (rZ (aT I (rE ?_))));refine dR (s':=s) (.cons _ (.cons _ (.refl _))) (ST.less hlast ?_);exact za6 (.inl I) results53 I ⟨by unfold cC; rw[zf7 (by rw[hz0]; exact Bool.false_ne_true),zf7 (by rw[hreg]; exact Bool.false_ne_true),zf7 hne],I,I⟩
   ·obtain ⟨⟨tk,tv,tl2⟩,ht,rfl⟩:=ze9.1 hq2;have hti:bC g3 tv tl2:=hrows _ ht;have htl:tl2.length≤4096:=hmlen _ ht;obtain ⟨tp,tc,rfl⟩:=za2 hti;refine yX I (tZ (sQ (cT I (kP (tN (bK (rZ (lK (SQ.entryP 0 I I hes2 hmi2 he2 hk2 hv2) (yX I (aT I (sQ (sW I (lU (eN ah I) (lU (nQ I I) (tZ ?_)))))))))))))));refine iP I (fun hne2=>?_) (fun hne2=>?_)
    ·refine rZ (aT I (rE (tR (bR (tR (bR (tR ?_)))))));refine dR (s':=s) (.cons _ (.cons _ (.cons _ (.cons _ (List.sublist_append_right _ _))))) (ST.less hle3 ?_);have hany:(ee tl c.sides).any (fun p=>decide ((p.2.length:Int)≠2))=true:=by
      rw[← hmc,zj3];exact⟨(tk,tl2),ze9.2 ⟨_,ht,I⟩,by simpa using hne2⟩
     exact za6 (.inl I) results53 I ⟨by unfold cC; rw[zf7 (by rw[hz0]; exact Bool.false_ne_true),zf8 hany],I,I⟩
    ·obtain ⟨a,bb,rfl⟩:∃ a bb,tl2=[a,bb]:=by
      match tl2,hne2 with
      | [],h=>exact absurd (by simp) h
      | [_],h=>exact absurd (by simp) h
      | [a,bb],_=>exact⟨a,bb,rfl⟩
      | _::_::_::q,h=>exact absurd (by simp only[ze6]; omega) h
     have hbt:=za4 hti (by simp);obtain ⟨js',j0,u0,lu,hp1,hp2,hp3,hp4,hp6,hp5⟩:=CS js a;have hjb':=hp6 _ hjb;have hlu:=hjb' _ (zf9 hp1);dsimp only at hlu;refine kP (tN (sQ ?_));refine SC.to (fun w hw=>hp5 E g3 [jZ it2 mm es2 clk2 (vis2++[e2]),pt b13 (.cells #[.map (some mj)] 123 (0,0)),mp mj (iy js),pt b3 (.cells #[vi ri,vi c.dim,.slice rp c.sides.length rcap] 63 (0,0))] s w hw) ?_;refine SC.drawT 4 [14] [(0,1),(1,2),(2,2),(3,1),(4,1),(5,2),(6,2),(7,1),(8,1),(9,2),(10,2),(11,1),(12,0),(13,0),(14,0)] ze1 kR ?_;refine pK I (qL isAgg123 I (cO 1 I I)) (yM I (pU I (iA ah zT3 I I hbt dC (show (0:Int)<((2:Nat):Int) by decide)) ?_));refine pK I (eB iT3 I (za5 hti) (j:=0) I I) (pK I (qL isAgg123 I (cO 1 I I)) (yM I (pU I (iA ah zT3 I I hbt dC (show (0:Int)<((2:Nat):Int) by decide)) ?_)));refine pK I (eB iT3 I (za5 hti) (j:=0) I I) (pK I (SQ.eq (SQ.lookup mty123 I I (di.own 2 I)) hp2) (yM I (pU I (iA ah zT3 I I hbt dC (show (1:Int)<((2:Nat):Int) by decide)) ?_)));refine pK rfl (eB iT3 rfl (za5 hti) (j:=1) rfl rfl) (SP.o rfl (bS sty25 rfl rfl rfl (ab sB) dC) dC (.inr (by rintro _ _ _ ⟨b93,rfl,rfl,rfl⟩; exact⟨by exact zb7 _,(by exact .cons _ (List.take_sublist _ _))⟩)) ?_);rintro _ _ _ ⟨b93,rfl,rfl,rfl⟩;refine SP.o I (SO.app1 (j0+4) ((lu++[bb]).flatMap encInt.enc) (lu++[bb]).length sty25 I I I (ph hp1 s) I ⟨I,trivial⟩ (by simp[encInt]; rfl) (by simp) lN lN) dC (.inr (by rintro u1 _ _ ⟨rfl,rfl⟩; exact⟨by exact zb7 _,(by exact cg _ _ _ _)⟩)) ?_;rintro u1 _ _ ⟨rfl,rfl⟩;refine SP.on I (SO.mapUpdate 2 mty123 I I I I) (.inl dC) ?_;rintro _ _ _ ⟨rfl,rfl⟩;refine pN (tN (SC.drop (s':=[jZ it2 mm es2 clk2 (vis2++[e2]),pt b13 (.cells #[.map (some mj)] 123 (0,0)),mp mj (iy (js'.set j0 (a,u1,lu++[bb]))),pt b3 (.cells #[vi ri,vi c.dim,.slice rp c.sides.length rcap] 63 (0,0))]++(eP (js'.set j0 (a,u1,lu++[bb]))++s)) (by rw[← hp3 u1 bb,← pg (v':=u1) (l':=lu++[bb]) hp1 s]; exact .refl _) ?_));have hjb1:∀ t∈(js'.set j0 (a,u1,lu++[bb])),t.2.2.length≤2 * vt.length+1:=fun t ht=>(by rcases List.mem_or_eq_of_mem_set ht with h | h; (have:=hjb' t h; omega); (subst h; simp; omega));obtain ⟨js2,j1,u2,lw,hq1,hq2',hq3,hq4,hq6,hq5⟩:=CS (js'.set j0 (a,u1,lu++[bb])) bb;have hjb2:=hq6 _ hjb1;have hlw:=hjb2 _ (zf9 hq1);dsimp only at hlw;refine SC.to (fun w hw=>hq5 E g3 [jZ it2 mm es2 clk2 (vis2++[e2]),pt b13 (.cells #[.map (some mj)] 123 (0,0)),mp mj (iy (js'.set j0 (a,u1,lu++[bb]))),pt b3 (.cells #[vi ri,vi c.dim,.slice rp c.sides.length rcap] 63 (0,0))] s w hw) ?_;refine SC.drawT 4 [14] [(0,1),(1,2),(2,2),(3,1),(4,1),(5,2),(6,2),(7,1),(8,1),(9,2),(10,2),(11,1),(12,0),(13,0),(14,0)] ze1 kR ?_;refine pK I (qL isAgg123 I (cO 1 I I)) (yM I (pU I (iA ah zT3 I I hbt dC (show (1:Int)<((2:Nat):Int) by decide)) ?_));refine pK I (eB iT3 I (za5 hti) (j:=1) I I) (pK I (qL isAgg123 I (cO 1 I I)) (yM I (pU I (iA ah zT3 I I hbt dC (show (1:Int)<((2:Nat):Int) by decide)) ?_)));refine pK I (eB iT3 I (za5 hti) (j:=1) I I) (pK I (SQ.eq (SQ.lookup mty123 I I (di.own 2 I)) hq2') (yM I (pU I (iA ah zT3 I I hbt dC (show (0:Int)<((2:Nat):Int) by decide)) ?_)));refine pK rfl (eB iT3 rfl (za5 hti) (j:=0) rfl rfl) (SP.o rfl (bS sty25 rfl rfl rfl (ab sB) dC) dC (.inr (by rintro _ _ _ ⟨b107,rfl,rfl,rfl⟩; exact⟨by exact zb7 _,(by exact .cons _ (List.take_sublist _ _))⟩)) ?_);rintro _ _ _ ⟨b107,rfl,rfl,rfl⟩;refine SP.o I (SO.app1 (j1+4) ((lw++[a]).flatMap encInt.enc) (lw++[a]).length sty25 I I I (ph hq1 s) I ⟨I,trivial⟩ (by simp[encInt]; rfl) (by simp) lN lN) dC (.inr (by rintro u3 _ _ ⟨rfl,rfl⟩; exact⟨by exact zb7 _,(by exact cg _ _ _ _)⟩)) ?_;rintro u3 _ _ ⟨rfl,rfl⟩;refine SP.on I (SO.mapUpdate 2 mty123 I I I I) (.inl dC) ?_;rintro _ _ _ ⟨rfl,rfl⟩;refine pN (bN (dR (s':=[jZ it2 mm es2 clk2 (vis2++[e2]),pt b13 (.cells #[.map (some mj)] 123 (0,0)),mp mj (iy (js2.set j1 (bb,u3,lw++[a]))),pt b3 (.cells #[vi ri,vi c.dim,.slice rp c.sides.length rcap] 63 (0,0))]++(eP (js2.set j1 (bb,u3,lw++[a]))++s)) (by rw[← hq3 u3 a,← pg (v':=u3) (l':=lw++[a]) hq1 s]; exact .refl _) ?_));exact gA (vis2++[e2],vl2++[(tk,.slice tp 2 tc)],vt++[(tk,.slice tp 2 tc,[a,bb])],js2.set j1 (bb,u3,lw++[a])) sB I I ⟨hrv4,by rw[hvl2]; simp[iy],fun t ht2=>by
       rcases zf1.1 ht2 with h | h
       ·exact hvt t h
       ·simp at h; subst h; exact⟨ht,I⟩,by rw[hq4,hp4,hjs]; simp[cN,fx,j7],fun t ht2=>by
       simp only[ze3,ze5]
       rcases List.mem_or_eq_of_mem_set ht2 with h | h
       ·have:=hjb2 t h; omega
       ·subst h; simp; omega⟩ (by
       have:=hrv4.len hmi2;simp only[iy,ze4,ze3,ze5] at this ⊢;omega)
  ·obtain ⟨zp,hzp,rfl⟩:=ze9.1 hq1;refine yX I (tZ (sQ (cT I (kP (tN (bK (rZ (lK (SQ.entryP 0 I I hes1 hmi1 he hk1 hv1) (yX I (aT I (sW I (lU (nQ I I) (tZ ?_)))))))))))));refine iP I (fun hne=>?_) (fun hne=>?_)
   ·refine rZ (aT I (rE (bR (tR (bR (tR ?_))))));refine dR (s':=s) (.cons _ (.cons _ (.refl _))) (ST.less hle3 ?_);have hany:(fX tl c.sides).any (fun p=>decide (p.2≠0))=true:=by
     rw[← hz,zj3];exact⟨zp,hzp,by simpa using hne⟩
    exact za6 (.inl I) results53 I ⟨by unfold cC; rw[zf8 hany],I,I⟩
   ·refine kP (bN ?_);exact gA (vis++[e],vl++[(zp.1,vi zp.2)]) sB I I ⟨hrv2,fun p hp=>by
     rcases zf1.1 hp with h | h
     ·exact hvz p h
     ·simp at h; subst h;have:zp.2=0:=by simpa using hne
      simp[this]⟩ (by
     have:=hrv2.len hmi1;simp only[pJ,ze4,ze3,ze5] at this ⊢;omega)
end Go.Proofs.YtcfkpajlakidbaaGreat
