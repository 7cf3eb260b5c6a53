/- 3 -/
import Derived.Test.YtkbagdedfdfjhaaGreatDoorFi02
import Derived.Laws.Slices
import Derived.Laws.MakeOwn
import Derived.Laws.CopyRow
import Derived.Lib.AppendZeros
set_option linter.unusedSimpArgs false
set_option linter.unusedVariables false
namespace Go.Proofs.YtkbagdedfdfjhaaGreatDoor
open _root_.Go.Proofs.Tryz _root_.Go.Proofs.YtkbagdedfdfjhaaGreatDoor.Tryz
open Go Go.Sy Go.Pl Go.Proofs
set_option maxRecDepth 100000
section
variable {α:Type}{k:Nat}{e:Enc α k}{T TS f1 f2 f3 f4 f5 f6:Nat}(w:SoI α k e T TS f1 f2 f3 f4 f5 f6)
include w
set_option maxHeartbeats 1000000 in
theorem FV (E:World)(g:PH)(s:Own)(v cv:Value)(key:α→Int)(hc:oB E cv e key g)(l:List α)(hn:l.length<1152921504606846976)(n:Int)(hnl:n=l.length) :
  Ctr Tryz.prog E f5 #[v,vi n,cv] g (rowA e T v l::s) (fun _ g' s'=>g=g'∧s'=rowA e T v (sortBy key l)::s):=by
 have uS:=w.uS;have zE:=w.zE;have aE:=w.aE;have kf3:=w.kf3;have kf4:=w.kf4;have w2:=w;cases w2
 all_goals
  first | refine za9 (args:=[v,vi n,cv]) func134 rfl ntmps134 (bE rfl) ?_ | refine za9 (args:=[v,vi n,cv]) func136 rfl ntmps136 (bE rfl) ?_
  refine rZ (aT I (sW I (lA I (aT I ?_))));refine SC.cut (ι:=type_of% l×type_of% l) (fun i=>[(0,v),(1,vi n),(2,cv),(6,vi 20),(7,vi i.1.length)]) (fun _=>g) (fun i=>rowA w.en w.ty v (i.1++i.2)::s) (fun i=>FC key 20 i.1∧aJ key l (i.1++i.2)∧i.2.length<20) ?_ ?_
  ·refine bK ?_;refine oP (ι:=type_of% l×type_of% l) (fun i=>[(0,v),(1,vi n),(2,cv),(6,vi 20),(7,vi i.1.length),(8,vi (i.1.length+20))]) (fun _=>g) (fun i=>rowA w.en w.ty v (i.1++i.2)::s) (fun i=>FC key 20 i.1∧aJ key l (i.1++i.2)) (fun i=>i.2.length) ([],l) sB I I ⟨FC.nil,aJ.refl _⟩ ?_;rintro ⟨d,r⟩ ⟨hd,hst⟩;dsimp only at hd hst ⊢;have hlen:d.length+r.length=l.length:=by have:=hst.1; simpa using this
   refine sQ (sW I (lM I (lU (SU.leq I I) (tZ ?_))));refine iP I (fun hle=>?_) (fun hle=>?_)
   ·obtain ⟨c,r',hr,hcl⟩:∃ c r',r=c++r'∧c.length=20:=⟨r.take 20,r.drop 20,by simp,lN⟩;have hrl:r.length=20+r'.length:=by rw[hr]; simp[hcl]
    have e1:d++r=d++c++r':=by rw[hr]; simp
    rw[e1] at hst ⊢;refine kP (tN (bK (sW I (lM I (lM I (lM I (lW (cL kf3 I (rh w E g s v cv key hc d c r' lN _ _ lN lN)) ?_)))))));rintro _ _ _ ⟨rfl,c',hc1,hc2,rfl⟩;refine tZ (sW I (aT I (rG (lM I (lM I (yD I (lA I (nL (bN ?_)))))))));have hc'l:c'.length=20:=by have:=hc1.1; omega
    exact gA (d++c',r') ⟨I,I,I,I,bP lN,bP lN,trivial⟩ I I ⟨hd.snoc hc'l hc2,hst.trans (aJ.append (aJ.append (aJ.refl _) hc1) (aJ.refl _))⟩ lN
   ·refine xI (tX (tX (bX ?_)));exact za7 (d,r) sB I I ⟨hd,hst,lN⟩
  rintro ⟨d,r⟩ ⟨hd,hst,hr20⟩;dsimp only at hd hst hr20 ⊢;have hlen:d.length+r.length=l.length:=by have:=hst.1; simpa using this
  have e1:d++r=d++r++[]:=by simp
  rw[e1];refine sW I (lM I (lM I (lM I (lW (cL kf3 I (rh w E g s v cv key hc d r [] lN _ _ lN lN)) ?_))));rintro _ _ _ ⟨rfl,r',hr1,hr2,rfl⟩;refine tZ (bK ?_);refine oP (ι:=Nat×type_of% l×type_of% l) (fun i=>[(0,v),(1,vi n),(2,cv),(6,vi i.1)]) (fun _=>g) (fun i=>rowA w.en w.ty v (i.2.1++i.2.2)::s) (fun i=>FC key i.1 i.2.1∧aJ key l (i.2.1++i.2.2)∧i.2.2.length<i.1∧Srt key i.2.2) (fun i=>l.length - i.1) (20,d,r') sB I (by simp) ⟨hd,hst.trans (aJ.append (aJ.refl _) hr1),by have:=hr1.1; (first | with_reducible rfl | ((try dsimp only); (try simp only[List.length_append,List.length_cons,List.length_nil,List.length_singleton,List.length_take,List.length_drop])<;>omega)),hr2⟩ ?_;clear hr1 hr2 r' e1 hlen hr20 hst hd r d;rintro ⟨B,d,r⟩ ⟨hd,hst,hrB,hsr⟩;dsimp only at hd hst hrB hsr ⊢;have hlen:d.length+r.length=l.length:=by have:=hst.1; simpa using this
  refine sQ (sW I (lM I (yL I (tZ ?_))));refine iP I (fun hlt=>?_) (fun hlt=>?_)
  ·refine kP (tN (bK (sW I (lU (SU.mul I I oM) (lA I (aT I ?_))))));refine SC.cut (ι:=type_of% l×type_of% l) (fun i=>[(0,v),(1,vi n),(2,cv),(6,vi B),(7,vi i.1.length)]) (fun _=>g) (fun i=>rowA w.en w.ty v (i.1++i.2++r)::s) (fun i=>FC key (2 * B) i.1∧FC key B i.2∧aJ key l (i.1++i.2++r)∧i.2.length+r.length<2 * B) ?_ ?_
   ·refine bK ?_;refine oP (ι:=type_of% l×type_of% l) (fun i=>[(0,v),(1,vi n),(2,cv),(6,vi B),(7,vi i.1.length),(8,vi (i.1.length+2 * B))]) (fun _=>g) (fun i=>rowA w.en w.ty v (i.1++i.2++r)::s) (fun i=>FC key (2 * B) i.1∧FC key B i.2∧aJ key l (i.1++i.2++r)) (fun i=>i.2.length) ([],d) ⟨I,I,I,I,I,bP lN,trivial⟩ I (by simp) ⟨FC.nil,hd,by simpa using hst⟩ ?_;rintro ⟨e,d1⟩ ⟨he,hd1,hst1⟩;dsimp only at he hd1 hst1 ⊢;have hlen1:e.length+d1.length+r.length=l.length:=by have:=hst1.1; simp at this; omega
    refine sQ (sW I (lM I (lU (SU.leq I I) (tZ ?_))));refine iP I (fun hle=>?_) (fun hle=>?_)
    ·obtain ⟨c1,d2,hde,hc1l,hc1s,hd2⟩:=hd1.front oM;have hd1l:d1.length=B+d2.length:=by rw[hde]; simp[hc1l]
     obtain ⟨c2,d3,hde2,hc2l,hc2s,hd3⟩:=hd2.front oM;have hd2l:d2.length=B+d3.length:=by rw[hde2]; simp[hc2l]
     have e1:e++d1++r=e++c1++c2++(d3++r):=by rw[hde,hde2]; simp
     rw[e1] at hst1 ⊢;refine kP (tN (bK (sW I (lM I (lM I (lM I (yD I (lM I (lM I (lW (cL kf4 I (tG w E g v cv key hc _ s e c1 c2 (d3++r) I hc1s hc2s oM oM lN _ _ _ lN lN lN)) ?_))))))))));rintro _ _ _ ⟨rfl,W,hW1,hW2,rfl⟩;refine tZ (sW I (aT I (rG (lM I (lM I (lU (SU.mul I I oM) (yD I (lA I (nL (bN ?_))))))))));have hWl:W.length=2 * B:=by have:=hW1.1; simp at this; omega
     exact gA (e++W,d3) ⟨I,I,I,I,bP lN,bP lN,trivial⟩ I (by simp) ⟨he.snoc hWl hW2,hd3,hst1.trans (by
      have:=aJ.append (aJ.append (aJ.refl (key:=key) e) hW1) (aJ.refl (key:=key) (d3++r));simpa using this)⟩ lN
    ·refine xI (tX (tX (bX ?_)));exact za7 (e,d1) sB I I ⟨he,hd1,hst1,lN⟩
   rintro ⟨e,d1⟩ ⟨he,hd1,hst1,hlt2⟩;dsimp only at he hd1 hst1 hlt2 ⊢;have hlen1:e.length+d1.length+r.length=l.length:=by have:=hst1.1; simp at this; omega
   refine SC.cut (ι:=type_of% l) (fun _=>[(0,v),(1,vi n),(2,cv),(6,vi B)]) (fun _=>g) (fun r'=>rowA w.en w.ty v (e++r')::s) (fun r'=>aJ key (d1++r) r'∧Srt key r') ?_ ?_
   ·refine sW I (lM I (yD I (aT I (sW I (lM I (yL I (tZ ?_)))))));refine iP I (fun hmn=>?_) (fun hmn=>?_)
    ·obtain ⟨c,d2,hde,hcl,hcs,hd2⟩:=hd1.front oM;have hd1l:d1.length=B+d2.length:=by rw[hde]; simp[hcl]
     have hd2e:d2=[]:=by
      cases hd2 with
      | nil=>rfl
      | cons h3 h4 h5=>simp[h3] at hd1l; omega
     have hd2z:d2.length=0:=by rw[hd2e]; rfl
     have hdc:d1=c:=by rw[hde,hd2e]; simp
     have e1:e++d1++r=e++c++r++[]:=by rw[hdc]; simp
     rw[e1];refine rG (lM I (lM I (lM I (lM I (lM I (lW (cL kf4 I (tG w E g v cv key hc _ s e c r [] I hcs hsr oM oM lN _ _ _ lN lN lN)) ?_))))));rintro _ _ _ ⟨rfl,W,hW1,hW2,rfl⟩;refine nL ?_;exact za7 W sB I (by simp) ⟨by rw[hdc]; exact hW1,hW2⟩
    ·refine kP ?_;exact za7 (d1++r) sB I (by simp) ⟨aJ.refl _,by
      rcases Nat.eq_zero_or_pos d1.length with h0 | h0
      ·rw[zf1 h0]; simpa using hsr
      ·obtain ⟨c,d2,hde,hcl,hcs,hd2⟩:=hd1.front h0;have hd1l:d1.length=B+d2.length:=by rw[hde]; simp[hcl]
       have h1:d2=[]:=zf1 oM;have h2:r=[]:=zf1 oM;rw[hde,h1,h2]; simpa using hcs⟩
   rintro r' ⟨hr1,hr2⟩;try dsimp only
   have hr'l:r'.length=d1.length+r.length:=by have:=hr1.1; simpa using this
   refine rG (lM I (lU (SU.mul I I oM) (lA I (nL (bN ?_)))));exact gA (2 * B,e,r') ⟨I,I,I,bP lN,trivial⟩ I I ⟨he,hst1.trans (by
    have:=aJ.append (aJ.refl (key:=key) e) hr1;simpa using this),lN,hr2⟩ lN
  ·refine xI (tX (tX (bX ?_)));have hfin:Srt key (d++r):=by
    rcases Nat.eq_zero_or_pos d.length with h0 | h0
    ·rw[zf1 h0]; simpa using hsr
    ·obtain ⟨c,d2,hde,hcl,hcs,hd2⟩:=hd.front h0;have hd1l:d.length=B+d2.length:=by rw[hde]; simp[hcl]
     have h1:d2=[]:=zf1 oM;have h2:r=[]:=zf1 oM;rw[hde,h1,h2]; simpa using hcs
   exact ST.ret0 (.inr I) (by exact results134) ⟨I,by rw[dS hfin hst]⟩
theorem px (E:World)(g:PH)(s:Own)(v cv:Value)(key:α→Int)(hc:oB E cv e key g)(l:List α)(hn:l.length<1152921504606846976) :
  Ctr Tryz.prog E f6 #[v,cv] g (rowA e T v l::s) (fun _ g' s'=>g=g'∧s'=rowA e T v (sortBy key l)::s):=by
 have uS:=w.uS;have zE:=w.zE;have aE:=w.aE;have kf5:=w.kf5;have w2:=w;cases w2
 all_goals
  refine Ctr.facts fun ⟨w0,hw0⟩=>?_;obtain ⟨p,c,rfl⟩:=ah (i:=0) hw0 rfl;clear hw0 w0
  first | refine za9 (args:=[.slice p l.length c,cv]) func88 rfl ntmps88 (bE rfl) ?_ | refine za9 (args:=[.slice p l.length c,cv]) func92 rfl ntmps92 (bE rfl) ?_
  refine rG (lM I (lM I (lU (eN uS I) (lM I (lW (cL kf5 I (FV w E g s _ cv key hc l hn _ I)) ?_)))));rintro _ _ _ ⟨rfl,rfl⟩;refine nL ?_;exact ST.ret0 (.inr I) (by exact results88) ⟨I,I⟩
end
theorem wh (E:World)(g:PH)(s:Own)(v cv:Value)(key:Rc→Int)(hc:oB E cv encCell key g)(l:List Rc)(hn:l.length<1152921504606846976) :
  Ctr Tryz.prog E 88 #[v,cv] g (rowA encCell 78 v l::s) (fun _ g' s'=>g=g'∧s'=rowA encCell 78 v (sortBy key l)::s) :=
 px .c E g s v cv key hc l hn
def AK (E:World)(kv:Value)(key:Rc→Int)(g:PH):Prop :=
 ∀ g' s a,Le g g'→cI Tryz.prog E kv [.agg (encCell.enc a).toArray] g' s (fun r g'' s''=>r=vi (key a)∧g'=g''∧s=s'')
theorem Ho (E:World)(g:PH)(b:Nat)(kv:Value)(key:Rc→Int)(hk:AK E kv key g)(hb:g b=some (.cells #[kv] 91 (0,0))):oB E (.func (.func 89) #[] #[pp b 0]) encCell key g:=by
 intro g s x y hle;refine cI.mk (cap:=[pp b 0]) call89 ?_;have hb':=hle _ _ hb;refine za9 (args:=[.agg (encCell.enc x).toArray,.agg (encCell.enc y).toArray,pp b 0]) func89 I ntmps89 (bE I) ?_;refine rZ (bW (bO I) fun b3=>?_);refine bW (bO I) fun b4=>?_;refine aT I (sQ ?_);refine dW [] [(0,1),(1,1),(3,1),(4,1),(2,0),(5,0),(6,0),(7,2)] zd9 kR ?_;refine pK I (qL isAgg91 I (cK hb' I)) (pK I (qV 1 gJ aK I I I) (pK I (qL isAgg91 I (cK hb' I)) (pK I (qV 0 gJ aK I I I) (SP.o I (SO.callV I I (hk _ _ x hle)) dC (.inr iR) ?_))));rintro _ _ _ ⟨rfl,rfl,rfl⟩;refine SP.o I (SO.callV I I (hk _ _ y hle)) dC (.inr iR) ?_;rintro _ _ _ ⟨rfl,rfl,rfl⟩;refine SP.o I (cL call90 I (gH E g _ (key x) (key y))) dC (.inr iR) ?_;rintro _ _ _ ⟨rfl,rfl,rfl⟩;refine pU I (aS I) (pN (tN (rE (dR (s':=s) uR ?_))));exact za6 (.inl I) results89 I ⟨I,I,I⟩
theorem Hq (E:World)(g:PH)(s:Own)(v:Value)(l:List Rc)(hv:SlA encCell g v l)(hn:l.length<1099511627776) :
  Ctr Tryz.prog E 87 #[v] g s (fun r g' s'=>g=g'∧s'=rowA encCell 78 r l::s):=by
 obtain ⟨p,c,rfl⟩:=za2 hv;refine za9 (args:=[.slice p l.length c]) func87 I ntmps87 (bE I) ?_;refine rZ (aT I (sQ (sW I (lU (SU.eqlNil aO I I) (tZ ?_)))));refine iQ I (fun hp=>?_) (fun hp=>?_)
 ·refine rZ (aT I (rE (tR ?_)));have hl:l=[]:=by
   cases l with
   | nil=>rfl
   | cons x r =>
    have hb:=za4 hv (by simp);cases p with
    | none=>simp[based] at hb
    | some q=>simp at hp
  subst hl;refine ST.nilRow 78 3 ?_;exact za6 (.inl I) results87 I ⟨I,I⟩
 ·refine kP (tN (rZ (lW (bS sty28 I I I (ae trivial) dC) ?_)));rintro _ _ _ ⟨b5,rfl,rfl,rfl⟩;refine SL.emptyRow 78 3 (some ⟨b5,0,none⟩) (lM I (lW (SO.appendE (m:=l.length) 0 l.length (l.flatMap encCell.enc) sty28 I I I I I (Sl.rd hv) (encCell.length l) (encCell.ones l) oM (by simp) oM oM) ?_));rintro r7 _ _ ⟨rfl,rfl⟩;refine aT I (rE (dR (s':=rowA encCell 78 r7 l::s) (.cons_cons _ (.cons _ (.refl _))) ?_));exact za6 (.inl I) results87 I ⟨I,I⟩
theorem FY (E:World)(g:PH)(s:Own)(v:Value)(kn:FuncId)(kc:Array Value)(key:Rc→Int)(hk:AK E (.func (.func kn) #[] kc) key g)(l:List Rc)(hv:SlA encCell g v l)(hn:l.length<1099511627776) :
  Ctr Tryz.prog E 43 #[v,.func (.func kn) #[] kc] g s (fun r g' s'=>g=g'∧s'=rowA encCell 78 r (sortBy key l)::s):=by
 refine za9 (args:=[v,.func (.func kn) #[] kc]) func43 I ntmps43 (bE I) ?_;refine rZ (bW (bO I) fun b3=>?_);refine zb3 fun g1 hle hb=>?_;refine aT I (sW I (lW (cL call87 I (Hq E g1 s v l (hv.mono hle) hn)) ?_));rintro r7 _ _ ⟨rfl,rfl⟩;refine aT I (sW I (lU (SU.mkFunc I) (lW (cL call88 I (wh E g1 s r7 _ key (Ho E g1 b3 _ key (fun g' s a h=>hk g' s a (hle.trans h)) hb) l oM)) ?_)));rintro _ _ _ ⟨rfl,rfl⟩;refine tZ (sW I (aT I (rE (ST.less hle ?_))));exact za6 (.inl I) results43 I ⟨I,I⟩
theorem wg (E:World)(g:PH)(s:Own)(v cv:Value)(key:ai→Int)(hc:oB E cv encSide key g)(l:List ai)(hn:l.length<1152921504606846976) :
  Ctr Tryz.prog E 92 #[v,cv] g (rowA encSide 94 v l::s) (fun _ g' s'=>g=g'∧s'=rowA encSide 94 v (sortBy key l)::s) :=
 px .s E g s v cv key hc l hn
def AJ (E:World)(kv:Value)(key:ai→Int)(g:PH):Prop :=
 ∀ g' s a,Le g g'→cI Tryz.prog E kv [.agg (encSide.enc a).toArray] g' s (fun r g'' s''=>r=vi (key a)∧g'=g''∧s=s'')
theorem Hn (E:World)(g:PH)(b:Nat)(kv:Value)(key:ai→Int)(hk:AJ E kv key g)(hb:g b=some (.cells #[kv] 95 (0,0))):oB E (.func (.func 93) #[] #[pp b 0]) encSide key g:=by
 intro g s x y hle;refine cI.mk (cap:=[pp b 0]) call93 ?_;have hb':=hle _ _ hb;refine za9 (args:=[.agg (encSide.enc x).toArray,.agg (encSide.enc y).toArray,pp b 0]) func93 I ntmps93 (bE I) ?_;refine rZ (bW (bO I) fun b3=>?_);refine bW (bO I) fun b4=>?_;refine aT I (sQ ?_);refine dW [] [(0,1),(1,1),(3,1),(4,1),(2,0),(5,0),(6,0),(7,2)] zd9 kR ?_;refine pK I (qL isAgg95 I (cK hb' I)) (pK I (qV 1 mT cq I I I) (pK I (qL isAgg95 I (cK hb' I)) (pK I (qV 0 mT cq I I I) (SP.o I (SO.callV I I (hk _ _ x hle)) dC (.inr iR) ?_))));rintro _ _ _ ⟨rfl,rfl,rfl⟩;refine SP.o I (SO.callV I I (hk _ _ y hle)) dC (.inr iR) ?_;rintro _ _ _ ⟨rfl,rfl,rfl⟩;refine SP.o I (cL call90 I (gH E g _ (key x) (key y))) dC (.inr iR) ?_;rintro _ _ _ ⟨rfl,rfl,rfl⟩;refine pU I (aS I) (pN (tN (rE (dR (s':=s) uR ?_))));exact za6 (.inl I) results93 I ⟨I,I,I⟩
theorem Hp (E:World)(g:PH)(s:Own)(v:Value)(l:List ai)(hv:SlA encSide g v l)(hn:l.length<1099511627776) :
  Ctr Tryz.prog E 91 #[v] g s (fun r g' s'=>g=g'∧s'=rowA encSide 94 r l::s):=by
 obtain ⟨p,c,rfl⟩:=za2 hv;refine za9 (args:=[.slice p l.length c]) func91 I ntmps91 (bE I) ?_;refine rZ (aT I (sQ (sW I (lU (SU.eqlNil cM I I) (tZ ?_)))));refine iQ I (fun hp=>?_) (fun hp=>?_)
 ·refine rZ (aT I (rE (tR ?_)));have hl:l=[]:=by
   cases l with
   | nil=>rfl
   | cons x r =>
    have hb:=za4 hv (by simp);cases p with
    | none=>simp[based] at hb
    | some q=>simp at hp
  subst hl;refine ST.nilRow 94 2 ?_;exact za6 (.inl I) results91 I ⟨I,I⟩
 ·refine kP (tN (rZ (lW (bS sty76 I I I (ae trivial) dC) ?_)));rintro _ _ _ ⟨b5,rfl,rfl,rfl⟩;refine SL.emptyRow 94 2 (some ⟨b5,0,none⟩) (lM I (lW (SO.appendE (m:=l.length) 0 l.length (l.flatMap encSide.enc) sty76 I I I I I (Sl.rd hv) (encSide.length l) (encSide.ones l) oM (by simp) oM oM) ?_));rintro r7 _ _ ⟨rfl,rfl⟩;refine aT I (rE (dR (s':=rowA encSide 94 r7 l::s) (.cons_cons _ (.cons _ (.refl _))) ?_));exact za6 (.inl I) results91 I ⟨I,I⟩
theorem FX (E:World)(g:PH)(s:Own)(v:Value)(kn:FuncId)(kc:Array Value)(key:ai→Int)(hk:AJ E (.func (.func kn) #[] kc) key g)(l:List ai)(hv:SlA encSide g v l)(hn:l.length<1099511627776) :
  Ctr Tryz.prog E 45 #[v,.func (.func kn) #[] kc] g s (fun r g' s'=>g=g'∧s'=rowA encSide 94 r (sortBy key l)::s):=by
 refine za9 (args:=[v,.func (.func kn) #[] kc]) func45 I ntmps45 (bE I) ?_;refine rZ (bW (bO I) fun b3=>?_);refine zb3 fun g1 hle hb=>?_;refine aT I (sW I (lW (cL call91 I (Hp E g1 s v l (hv.mono hle) hn)) ?_));rintro r7 _ _ ⟨rfl,rfl⟩;refine aT I (sW I (lU (SU.mkFunc I) (lW (cL call92 I (wg E g1 s r7 _ key (Hn E g1 b3 _ key (fun g' s a h=>hk g' s a (hle.trans h)) hb) l oM)) ?_)));rintro _ _ _ ⟨rfl,rfl⟩;refine tZ (sW I (aT I (rE (ST.less hle ?_))));exact za6 (.inl I) results45 I ⟨I,I⟩
end Go.Proofs.YtkbagdedfdfjhaaGreatDoor
namespace Go.Sy
open Go Go.MapKept
def unV (q:Value×Value):Int×Value:=(match q.1 with | .int _ z=>z | _=>0,q.2)
theorem tA (l:List (Int×Value)):(l.map kM).map unV=l:=by
 rw[zi2]
 conv=>rhs; rw[← List.map_id l]
 rfl
theorem dz {l m:List Nat}(hm:m.Nodup)(hl:l.Nodup)(h:∀ x∈m,x∈l):m.length≤l.length:=by
 have hp:(l.filter (fun x=>decide (x∈m))).Perm m:=(List.perm_ext_iff_of_nodup (hl.filter _) hm).2 fun x=>by
  rw[zh1];exact⟨fun h1=>by simpa using h1.2,fun h1=>⟨h x h1,by simpa using h1⟩⟩
 have:=hp.length_eq;have:=zc2 (fun x=>decide (x∈m)) l;omega
structure qz (l:List (Int×Value))(es:Array MapEntry)(vis:List MapEntry)(vl:List (Int×Value)):Prop where
 ok:Vis es vis
 eq:vis.map nj=vl.map kM
theorem qz.nil (l:List (Int×Value))(es:Array MapEntry):qz l es [] []:=⟨⟨by simp,by simp⟩,rfl⟩
theorem qz.len {l:List (Int×Value)}{es:Array MapEntry}{clk:Nat}{vis:List MapEntry}{vl:List (Int×Value)}(h:qz l es vis vl)(hm:yZ l es clk):vl.length≤l.length:=by
 have h1:vis.length=vl.length:=by have:=zd8 List.length h.eq; simpa using this
 have h2:es.toList.length=l.length:=by have:=zd8 List.length hm.1; simpa using this
 have h3:=dz (l:=es.toList.map (·.born)) h.ok.nodup hm.2.2.1 (fun x hx=>by
  obtain ⟨e,he,rfl⟩:=ze8.1 hx;exact ze8.2 ⟨e,h.ok.sub e he,I⟩)
 simp at h3;simp at h2;omega
theorem qz.all {l:List (Int×Value)}{es:Array MapEntry}{clk:Nat}{vis:List MapEntry}{vl:List (Int×Value)}(h:qz l es vis vl)(hm:yZ l es clk)(ha:∀ e∈es.toList,e∈vis):vl.Perm l:=by
 have hnv:vis.Nodup:=List.Pairwise.of_map (fun e=>e.born) (fun a b hab hne=>hab (by rw[hne])) h.ok.nodup;have hne:es.toList.Nodup:=List.Pairwise.of_map (fun e=>e.born) (fun a b hab hne=>hab (by rw[hne])) hm.2.2.1;have hp:vis.Perm es.toList:=(List.perm_ext_iff_of_nodup hnv hne).2 fun e=>⟨h.ok.sub e,ha e⟩;have h1:=(hp.map nj).map unV;rw[h.eq,hm.1,tA,tA] at h1;exact h1
section
variable {P:Program}{N:Nat}{E:World}{f:Fr}{g:PH}{s:Own}{dst:Option Tmp}{ty:TypeId}{pos:String}{af:Array Edge}{gd:Option (Nat×Bool)}
variable {m r clk:Nat}{es:Array MapEntry}{vis:List MapEntry}{x:Operand}{l vl:List (Int×Value)}
theorem SO.nextP (i:Nat)(hx:ev f x=some (pp r 0))(hi:s[i]?=some (j6 r m es clk vis))(hm:g m=some (.map es clk))(hI:yZ l es clk)(hv:qz l es vis vl) :
  SO P N E ⟨dst,.next x false,ty,pos,af,gd⟩ f g s fun u g' s'=>g=g' ∧
   ((u = .tuple #[.bool false]∧s=s'∧vl.Perm l)∨∃ e p,e∈es.toList∧p∈l∧e.key=vi p.1∧e.val=p.2∧qz l es (vis++[e]) (vl++[p])∧u = .tuple #[.bool true,vi p.1,p.2]∧s'=s.set i (j6 r m es clk (vis++[e]))):=by
 refine SO.mono (SO.next i hx hi hm hI.2 hv.ok) ?_;rintro u g' s' ⟨rfl,h⟩;refine⟨I,?_⟩
 rcases h with ⟨h1,h2,h3⟩ | ⟨e,h1,h2,h3,h4⟩
 ·exact .inl ⟨h1,h2,hv.all hI h3⟩
 ·have hp:nj e∈l.map kM:=by rw[← hI.1]; exact ze8.2 ⟨e,h1,I⟩
  obtain ⟨p,hp1,hp2⟩:=ze8.1 hp;simp only[nj,kM,Prod.mk.injEq] at hp2;refine .inr ⟨e,p,h1,hp1,hp2.1.symm,hp2.2.symm,⟨⟨?_,?_⟩,?_⟩,by rw[h3,hp2.1,hp2.2],h4⟩
  ·intro a ha
   rcases ze9.1 ha with h5 | h5
   ·exact hv.ok.sub a h5
   ·simp at h5; rw[h5]; exact h1
  ·rw[zg2,List.nodup_append];refine⟨hv.ok.nodup,by simp,fun a ha b hb hab=>?_⟩;simp at hb;rw[hab,hb] at ha;exact h2 ha
  ·rw[zg2,zg2,hv.eq];simp[nj,kM,hp2.1,hp2.2]
theorem SQ.entryP {e:MapEntry}{p:Int×Value}(i:Nat)(hx:ev f x=some (pp r 0))(hi:s[i]?=some (j6 r m es clk (vis++[e])))(hm:g m=some (.map es clk))(hI:yZ l es clk)(he:e∈es.toList)(hk:e.key=vi p.1)(hv:e.val=p.2) :
  SQ P N E ⟨dst,.entry x,ty,pos,af,gd⟩ f g s (.tuple #[vi p.1,p.2]):=by
 have:=SQ.entry (P:=P) (N:=N) (E:=E) (f:=f) (s:=s) (dst:=dst) (ty:=ty) (pos:=pos) (af:=af) (gd:=gd) i hx hi hm hI.2 he;rw[hk,hv] at this;exact this
end
def G4 (l:List (Int×Value))(q:Int→Bool):Prop:=∀ k,ft l k=if q k then some (vb true) else none
theorem G4.get {l:List (Int×Value)}{q:Int→Bool}(h:G4 l q)(k:Int):(ft l k).getD (vb false)=vb (q k):=by
 rw[h k];cases q k <;> rfl
end Go.Sy
namespace Go.Sy
open Go
section
variable (P:Program)(N:Nat)(E:World)(ops:Array Oper)(Q:Exit→Act→World→Prop)(g0:PH)(s0:Own)(tail:List Nat)
def SX (L:Array Bool)(n:Nat)(f:Fr)(g:PH)(s:Own):Prop :=
 ∀ a w,Region.noSelect ops=true→mf ops L→Ok N f a→At E g s w→(fK tail L=false→At E g0 s0 w)→kB P ops Q (At E g0 s0) tail n L a w
def SB (L:Array Bool)(n i:Nat)(f:Fr)(g:PH)(s:Own):Prop :=
 ∀ a w,Region.noSelect ops=true→mf ops L→i∈Region.ready .any ops L→Ok N f a→At E g s w→(fK tail L=false→At E g0 s0 w) →
  wpOp P ops Q i (fun a' w'=>(fK tail (L.setIfInBounds i true)=false→At E g0 s0 w')∧kB P ops Q (At E g0 s0) tail n (L.setIfInBounds i true) a' w') a w
end
def E9 (ops:Array Oper)(tail:List Nat)(L:Array Bool)(i:Nat):Bool:=(Region.ready .any ops L).contains i&&Region.free .any ops L i&&lz ops tail i && !tail.contains i && !fK tail L
def Fa (ops:Array Oper)(tail:List Nat)(L:Array Bool)(i:Nat):Bool:=(Region.ready .any ops L).contains i&&Region.free .any ops L i && !tail.contains i
section
variable {P:Program}{N:Nat}{E:World}{ops:Array Oper}{Q:Exit→Act→World→Prop}{g0:PH}{s0:Own}{tail:List Nat}{f:Fr}{g:PH}{s s':Own}{L:Array Bool}{n:Nat}
theorem SC.drawX {id:Nat}(tail:List Nat)(hm:P.follows .mixedOrders=true)(hok:Region.noSelect ops=true)(h:SX P N E ops Q g s tail (Array.replicate ops.size false) ops.size f g s):SC P N E (.region id ops true) Q f g s:=by
 intro a w ha hw;refine wp_region_any hm (jX _ _ _ _ (S:=At E g s) (tail:=tail) ?_);exact h a { w with drawn:=w.drawn+1 } hok (kW _) ha (hw.drew _ (Nat.le_succ _)) (fun _=>hw.drew _ (Nat.le_succ _))
theorem SX.nil (hr:Region.ready .any ops L=[])(h:ST N E Q .normal f g s):SX P N E ops Q g0 s0 tail L 0 f g s:=fun a w _ _ ha hw _=>⟨hr,h a w ha hw⟩
theorem SX.q [hQ:Quiet Q]{i d:Nat}{op:Op}{ty:TypeId}{pos:String}{af:Array Edge}{v:Value}(hi:ops[i]?=some ⟨some d,op,ty,pos,af,none⟩)(hok:E9 ops tail L i=true)
  (hq:SQ P N E ⟨some d,op,ty,pos,af,none⟩ f g0 s0 v) (hd:d<N)
  (h:SX P N E ops Q g0 s0 tail (L.setIfInBounds i true) n ((d,v)::f) g s):SX P N E ops Q g0 s0 tail L (n+1) f g s:=by
 intro a w hs hcl ha hw hb;simp only[E9,zi9,Bool.not_eq_true'] at hok;obtain ⟨⟨⟨⟨h1,h2⟩,h3⟩,h4⟩,h5⟩:=hok;refine m9 hi (Region.noSelect_spec hs) (fun c a w hh=>hQ.out c _ _ w (ec a d v) hh) (by simpa using h4) (ks h3) _ L a w hcl (Region.free_spec hi h2) (by simpa using h1)
  (.inl ⟨Gd.none rfl a ha,fun w' hw'=>hq a w' ha hw'⟩) h5 (hb h5) ?_
 exact h _ w hs (dJ hcl (by simpa using h1)) (ha.put hd v) hw (fun _=>hb h5)
theorem SX.u [hQ:Quiet Q]{i d:Nat}{op:Op}{ty:TypeId}{pos:String}{af:Array Edge}{v:Value}(hi:ops[i]?=some ⟨some d,op,ty,pos,af,none⟩)(hok:Fa ops tail L i=true)
  (hq:SU P N ⟨some d,op,ty,pos,af,none⟩ f v) (hd:d<N)
  (h:SX P N E ops Q g0 s0 tail (L.setIfInBounds i true) n ((d,v)::f) g s):SX P N E ops Q g0 s0 tail L (n+1) f g s:=by
 intro a w hs hcl ha hw hb;simp only[Fa,zi9,Bool.not_eq_true'] at hok;obtain ⟨⟨h1,h2⟩,h4⟩:=hok;have hit:i ∉ tail:=by simpa using h4
 refine kE hi (Region.noSelect_spec hs) (fun c a w hh=>hQ.out c _ _ w (ec a d v) hh) hit _ L a w (Region.free_spec hi h2) (by simpa using h1)
  (.inl ⟨Gd.none rfl a ha,fun w'=>hq a w' ha⟩) hb ?_
 exact h _ w hs (dJ hcl (by simpa using h1)) (ha.put hd v) hw (fun hb'=>hb (by rwa [ey hit] at hb'))
theorem SX.br1 (i:Nat)(hr:Region.ready .any ops L=[i])(h:SB P N E ops Q g0 s0 tail L n i f g s):SX P N E ops Q g0 s0 tail L (n+1) f g s:=by
 intro a w hs hcl ha hw hb;refine⟨fun h0=>(by rw[hr] at h0; cases h0),fun k hk=>?_⟩;have hk':=hk;rw[hr] at hk';simp only[zh4] at hk';subst hk';exact h a w hs hcl hk ha hw hb
theorem SX.br2 (i j:Nat)(hr:Region.ready .any ops L=[i,j])(h:SB P N E ops Q g0 s0 tail L n i f g s)(h2:SB P N E ops Q g0 s0 tail L n j f g s):SX P N E ops Q g0 s0 tail L (n+1) f g s:=by
 intro a w hs hcl ha hw hb;refine⟨fun h0=>(by rw[hr] at h0; cases h0),fun k hk=>?_⟩;have hk':=hk;rw[hr] at hk';simp only[ze7,zh4,List.not_mem_nil,or_false] at hk'
 rcases hk' with rfl | rfl
 ·exact h a w hs hcl hk ha hw hb
 ·exact h2 a w hs hcl hk ha hw hb
theorem SX.br3 (i j m:Nat)(hr:Region.ready .any ops L=[i,j,m])(h:SB P N E ops Q g0 s0 tail L n i f g s)(h2:SB P N E ops Q g0 s0 tail L n j f g s)(h3:SB P N E ops Q g0 s0 tail L n m f g s):SX P N E ops Q g0 s0 tail L (n+1) f g s:=by
 intro a w hs hcl ha hw hb;refine⟨fun h0=>(by rw[hr] at h0; cases h0),fun k hk=>?_⟩;have hk':=hk;rw[hr] at hk';simp only[ze7,zh4,List.not_mem_nil,or_false] at hk'
 rcases hk' with rfl | rfl | rfl
 ·exact h a w hs hcl hk ha hw hb
 ·exact h2 a w hs hcl hk ha hw hb
 ·exact h3 a w hs hcl hk ha hw hb
theorem SB.step {i:Nat}{o:Oper}{K:Value→PH→Own→Prop}(hi:ops[i]?=some o)(hg:Gd N ops f o true)(ho:SO P N E o f g s K)
  (hk:i∈tail∨∀ v g' s',K v g' s'→Le g0 g'∧s0.Sublist s')
  (h:∀ v g' s' a,K v g' s'→Ok N f a→∃ f',Ok N f' (a.put o.dst v)∧SX P N E ops Q g0 s0 tail (L.setIfInBounds i true) n f' g' s'):SB P N E ops Q g0 s0 tail L n i f g s:=by
 intro a w hs hcl hr ha hw hb;unfold wpOp;simp only[hi];rw[zf7 (hg a ha)];refine .inl (ho a w ha hw Q _ fun v g' s' w' hK hw'=>?_);have hb':fK tail (L.setIfInBounds i true)=false→At E g0 s0 w':=by
  intro h0
  rcases hk with hk | hk
  ·exfalso;have hlt:i<L.size:=by
    rcases Nat.lt_or_ge i L.size with h' | h'
    ·exact h'
    ·have:=(mem_ready.1 hr).1;simp[Array.getElem?_eq_none h'] at this
   unfold fK at h0;rw[zk2] at h0;have:=h0 i hk;simp[hlt] at this
  ·obtain ⟨h1,h2⟩:=hk v g' s' hK;exact (hw'.less h1).sublist h2
 obtain ⟨f',hf',hn⟩:=h v g' s' a hK ha;exact⟨hb',hn _ w' hs (dJ hcl hr) hf' hw' hb'⟩
theorem SB.o {i d:Nat}{op:Op}{ty:TypeId}{pos:String}{af:Array Edge}{K:Value→PH→Own→Prop}(hi:ops[i]?=some ⟨some d,op,ty,pos,af,none⟩)
  (ho:SO P N E ⟨some d,op,ty,pos,af,none⟩ f g s K) (hd:d<N) (hk:i∈tail∨∀ v g' s',K v g' s'→Le g0 g'∧s0.Sublist s')
  (h:∀ v g' s',K v g' s'→SX P N E ops Q g0 s0 tail (L.setIfInBounds i true) n ((d,v)::f) g' s'):SB P N E ops Q g0 s0 tail L n i f g s :=
 SB.step hi (Gd.none rfl) ho hk fun v g' s' _ hK ha=>⟨_,ha.put hd v,h v g' s' hK⟩
theorem SB.on {i:Nat}{op:Op}{ty:TypeId}{pos:String}{af:Array Edge}{K:Value→PH→Own→Prop}(hi:ops[i]?=some ⟨none,op,ty,pos,af,none⟩)
  (ho:SO P N E ⟨none,op,ty,pos,af,none⟩ f g s K) (hk:i∈tail∨∀ v g' s',K v g' s'→Le g0 g'∧s0.Sublist s')
  (h:∀ v g' s',K v g' s'→SX P N E ops Q g0 s0 tail (L.setIfInBounds i true) n f g' s'):SB P N E ops Q g0 s0 tail L n i f g s :=
 SB.step hi (Gd.none rfl) ho hk fun v g' s' _ hK ha=>⟨f,ha,h v g' s' hK⟩
theorem SB.k (i:Nat)(h:SB P N E ops Q g0 s0 tail L n i f g s):SB P N E ops Q g0 s0 tail L n i f g s:=h
theorem SX.k (n:Nat)(h:SX P N E ops Q g0 s0 tail L n f g s):SX P N E ops Q g0 s0 tail L n f g s:=h
end
end Go.Sy
namespace Go.Sy
open Go
theorem SP.to {P:Program}{N:Nat}{E:World}{ops:Array Oper}{Q:Exit→Act→World→Prop}{g0:PH}{s0:Own}{tail:List Nat}{plan:List (Nat×Nat)}{f:Fr}{g g':PH}{s s':Own}(h:∀ w,At E g s w→At E g' s' w)(hc:SP P N E ops Q g0 s0 tail plan f g' s'):SP P N E ops Q g0 s0 tail plan f g s:=fun L a w h1 hcl h2 ha hw hb=>hc L a w h1 hcl h2 ha (h w hw) hb
section
variable {P:Program}{N:Nat}{E:World}{f:Fr}{g:PH}{s s1:Own}{dst:Option Tmp}{ty:TypeId}{pos:String}{af:Array Edge}{gd:Option (Nat×Bool)}
theorem SU.sliceLH {x lo hi:Operand}{T e:TypeId}{k n c:Nat}{p:Option Addr}{l h:Int}(hT:P.underlying T=some (.slice e))(hs:∀ w,(sizeOf e).run P w = .ok k w)(hx:ev f x=some (.slice p n c))(hl:ev f lo=some (vi l))(hh:ev f hi=some (vi h))(h0:0≤l)(h1:l≤h)(h2:h≤c) :
  SU P N ⟨dst,.slice T x (some lo) (some hi) none,ty,pos,af,gd⟩ f (sliced p l.toNat h.toNat c k):=fun a w ha=>by
 have eh:(h.toNat:Int)=h:=Int.toNat_of_nonneg oM;have h0':0≤h:=oM;simp[execOp,ha.ev hx,ha.ev hl,ha.ev hh,Instr.sliceAt,Instr.slice,run_underlying hT,Instr.sliceBounds,run_sliceBound,sliced,hs w,eh,h0,h0',h1,h2]
theorem SU.sliceH {x hi:Operand}{T e:TypeId}{k n c:Nat}{p:Option Addr}{h:Int}(hT:P.underlying T=some (.slice e))(hs:∀ w,(sizeOf e).run P w = .ok k w)(hx:ev f x=some (.slice p n c))(hh:ev f hi=some (vi h))(h0:0≤h)(h2:h≤c) :
  SU P N ⟨dst,.slice T x none (some hi) none,ty,pos,af,gd⟩ f (sliced p 0 h.toNat c k):=fun a w ha=>by
 simp[execOp,ha.ev hx,ha.ev hh,Instr.sliceAt,Instr.slice,run_underlying hT,Instr.sliceBounds,run_sliceBound,sliced,hs w,h0,h2]
theorem SU.sliceL {x lo:Operand}{T e:TypeId}{k n c:Nat}{p:Option Addr}{l:Int}(hT:P.underlying T=some (.slice e))(hs:∀ w,(sizeOf e).run P w = .ok k w)(hx:ev f x=some (.slice p n c))(hl:ev f lo=some (vi l))(h0:0≤l)(h1:l≤n) :
  SU P N ⟨dst,.slice T x (some lo) none none,ty,pos,af,gd⟩ f (sliced p l.toNat n c k):=fun a w ha=>by
 simp[execOp,ha.ev hx,ha.ev hl,Instr.sliceAt,Instr.slice,run_underlying hT,Instr.sliceBounds,run_sliceBound,sliced,hs w,h0,h1]
theorem SU.cap {x:Operand}{T e:TypeId}{p:Option Addr}{n c:Nat}(hT:P.underlying T=some (.slice e))(hx:ev f x=some (.slice p n c)) :
  SU P N ⟨dst,.call ⟨.builtin .cap,#[x],#[T]⟩,ty,pos,af,gd⟩ f (vi c):=fun a w ha=>by
 simp[execOp,resolve,invoke,builtin,ha.ev hx,Builtin.cap_,run_underlying hT,goInt]
theorem Sl.cut {k n c l m:Nat}{p:Option Addr}{xs:List Value}(h:Sl g k (.slice p n c) n xs)(hl:l≤m)(hm:m≤n):Sl g k (sliced p l m c k) (m - l) ((xs.drop (l * k)).take ((m - l) * k)):=by
 obtain ⟨p',c',he,⟨h2,hc⟩,h3⟩:=h;injection he with e1 e2 e3
 subst e1; subst e3;refine⟨_,_,I,⟨?_,oM⟩,fun hne=>?_⟩
 ·have:m * k≤n * k:=Nat.mul_le_mul_right k hm;have h5:l * k+(m - l) * k=m * k:=by rw[← Nat.add_mul]; congr 1; omega
  rw[ze1,ze6,h2];omega
 ·have hx0:xs≠[]:=fun e=>hne (by rw[e]; simp);obtain ⟨b,o,cs,T,fr,rfl,h5,h6⟩:=h3 hx0;have hcl:¬ c=l:=fun e=>hne (by
   have:m - l=0:=oM;rw[this]; simp)
  have hadd:(⟨b,o,none⟩:Addr).add (l * k)=⟨b,o+l * k,none⟩:=by unfold Addr.add; split <;> simp_all
  refine⟨b,o+l * k,cs,T,fr,by simp[hcl,hadd],h5,fun j x hj=>?_⟩;rw[zh7] at hj;split at hj
  ·rw[zh8] at hj;rw[Nat.add_assoc];exact h6 _ x hj
  ·cases hj
theorem SlA.cut {α:Type}{k:Nat}{e:Enc α k}{c l m:Nat}{p:Option Addr}{xs:List α}(h:SlA e g (.slice p xs.length c) xs)(hl:l≤m)(hm:m≤xs.length):SlA e g (sliced p l m c k) ((xs.drop l).take (m - l)):=by
 have h1:=Sl.cut h hl hm;have hlen:((xs.drop l).take (m - l)).length=m - l:=by rw[ze1,ze6]; omega
 unfold SlA;rw[hlen];have:((xs.drop l).take (m - l)).flatMap e.enc=((xs.flatMap e.enc).drop (l * k)).take ((m - l) * k):=by
  have key:∀ (ys:List α) (j:Nat),(ys.take j).flatMap e.enc=(ys.flatMap e.enc).take (j * k):=by
   intro ys;induction ys with
   | nil=>intro j; simp
   | cons y r ih =>
    intro j;cases j with
    | zero=>simp
    | succ j =>
     rw[List.take_succ_cons,zh2,zh2,ih,List.take_append,e.len,show (j+1) * k - k=j * k by rw[Nat.succ_mul]; omega,tL (l:=e.enc y) (by rw[e.len,Nat.succ_mul]; omega)]
  have key2:∀ (ys:List α) (j:Nat),(ys.drop j).flatMap e.enc=(ys.flatMap e.enc).drop (j * k):=by
   intro ys;induction ys with
   | nil=>intro j; simp
   | cons y r ih =>
    intro j;cases j with
    | zero=>simp
    | succ j =>
     rw[List.drop_succ_cons,zh2,ih,List.drop_append,e.len,show (j+1) * k - k=j * k by rw[Nat.succ_mul]; omega,List.drop_of_length_le (l:=e.enc y) (by rw[e.len,Nat.succ_mul]; omega)];simp
  rw[key,key2]
 rw[this];exact h1
theorem wj (p:Option Addr)(l m c k:Nat):∃ q,sliced p l m c k = .slice q (m - l) (c - l):=⟨_,rfl⟩
theorem SlA.cap {α:Type}{k:Nat}{e:Enc α k}{c n:Nat}{p:Option Addr}{xs:List α}(h:SlA e g (.slice p n c) xs):n=xs.length∧xs.length≤c:=by
 obtain ⟨p',c',he,⟨_,hc⟩,_⟩:=h;injection he with e1 e2 e3
 exact⟨e2,oM⟩
theorem SlA.lit {α:Type}{k:Nat}{e:Enc α k}{b n:Nat}{cs:Array Value}{T:TypeId}{fr:Nat×Nat}{l:List α}(hb:g b=some (.cells cs T fr))(hc:cs.toList=l.flatMap e.enc)(hn:l.length=n):SlA e g (.slice (some ⟨b,0,none⟩) n n) l:=by
 subst hn;refine⟨_,_,I,⟨by rw[e.length],lR _⟩,fun _=>⟨b,0,cs,T,fr,I,hb,fun j x hj=>?_⟩⟩;rw[← hc] at hj;simpa using hj
theorem At.litRow {α:Type}{k:Nat}{e:Enc α k}{b n:Nat}{cs:Array Value}{T:TypeId}{l:List α}{w:World}(h:At E g (pt b (.cells cs T (0,0))::s) w)(hc:cs.toList=l.flatMap e.enc)(hn:l.length=n+1)(hm:n+1≤maxLen):At E g (rowA e T (.slice (some ⟨b,0,none⟩) (n+1) (n+1)) l::s) w:=by
 refine⟨h.os,h.tape,h.output,h.known,fun x hx=>?_,fun x hx q hq=>?_,zj9.2 ⟨fun x hx q hq=>?_,(zj9.1 h.apart).2⟩⟩
 ·rcases ze7.1 hx with rfl | hx
  ·have h1:=h.own (pt b (.cells cs T (0,0))) (by simp);simp only[pt,Option.bind_some] at h1;have hsz:cs.size=(n+1) * k:=by rw[← Array.length_toList,hc,e.length,hn]
   have:=dN (w:=w) (T:=T) (k:=k) (n:=n+1) (b:=b) (cap:=n) (xs:=l.flatMap e.enc) (by rw[e.length,hn]) h1 (lR _) hm hsz (by rw[← hc,tL (by rw[Array.length_toList,hsz]; exact lR _)]);simpa only[rowA,hn] using this
  ·exact h.own x (by simp[hx])
 ·rcases ze7.1 hx with rfl | hx
  ·simp only[rowA,row,nU,zg4] at hq;exact h.fresh (pt b (.cells cs T (0,0))) (by simp) q (by simp[pt,hq])
  ·exact h.fresh x (by simp[hx]) q hq
 ·simp only[rowA,row,nU,zg4] at hq;exact (zj9.1 h.apart).1 x hx q (by simp[pt,hq])
theorem SO.app1A {α:Type}{k bytes b:Nat}{e:Enc α k}{x y:Operand}{t T:TypeId}{z v:Value}{l:List α}{cs:Array Value}(i:Nat)(a:α)(hT:STy P t T k bytes z)(hx:ev f x=some v)(hy:ev f y=some (.slice (some ⟨b,0,none⟩) 1 1))
  (hs:s=pt b (.cells cs T (0,0))::s1) (hi:s1[i]?=some (rowA e T v l)) (hc:cs.toList=e.enc a) (hb:(l.length+1) * bytes≤140737488355328) (hlen:l.length+1≤4611686018427387904) :
  SO P N E ⟨dst,.call ⟨.builtin .append,#[x,y],#[t,t]⟩,ty,pos,af,gd⟩ f g s fun v' g' s'=>g=g'∧s'=s1.set i (rowA e T v' (l++[a])):=by
 have h1:FE cs.toList:=by
  rw[hc];have:∀ (m:List Value),(∀ u∈m,u.oneCell'=true)→FE m:=by
   intro m;induction m with
   | nil=>intro _; trivial
   | cons q r ih=>intro hq; exact⟨hq q (by simp),ih fun u hu=>hq u (by simp[hu])⟩
  exact this _ (e.one a)
 have:=SO.app1 (P:=P) (N:=N) (E:=E) (f:=f) (g:=g) (dst:=dst) (ty:=ty) (pos:=pos) (af:=af) (gd:=gd) i ((l++[a]).flatMap e.enc) (l++[a]).length hT hx hy hs hi (by rw[← Array.length_toList,hc,e.len]) h1 (by rw[hc]; simp) (by simp) hb hlen;exact this
theorem SO.appA {α:Type}{k bytes:Nat}{e:Enc α k}{x y:Operand}{t T:TypeId}{z v u:Value}{l m:List α}(i:Nat)(hT:STy P t T k bytes z)(hx:ev f x=some v)(hy:ev f y=some u)
  (hi:s[i]?=some (rowA e T v l)) (hu:SlA e g u m) (hb:(l.length+m.length) * bytes≤140737488355328) (hlen:l.length+m.length≤4611686018427387904) :
  SO P N E ⟨dst,.call ⟨.builtin .append,#[x,y],#[t,t]⟩,ty,pos,af,gd⟩ f g s fun v' g' s'=>g=g'∧s'=s.set i (rowA e T v' (l++m)):=by
 have:=SO.appendE (P:=P) (N:=N) (E:=E) (f:=f) (g:=g) (dst:=dst) (ty:=ty) (pos:=pos) (af:=af) (gd:=gd) i (l++m).length ((l++m).flatMap e.enc) hT hx hi hy (Sl.isSl hu) (Sl.slen hu) (SlA.rd hu) (Sl.length hu) (e.ones m) (by simp) (by simp) (by simpa using hb) (by simpa using hlen);exact this
end
theorem aP:type_of% @SO.app1A:=@SO.app1A
theorem aQ:type_of% @SO.appA:=@SO.appA
end Go.Sy
namespace Go.Sy
open Go
theorem td {z:Array Value}{n:Nat}{u:Value}(hz:∀ v∈z.toList,v.oneCell'=true)(hu:u∈(Builtin.zeroCells z n).toList):u.oneCell'=true:=by
 simp only[Builtin.zeroCells,Array.toList_map,ze8] at hu;obtain ⟨i,hi,rfl⟩:=hu;have hi':i<n * z.size:=by simpa using hi
 have hpos:0<z.size:=by
  rcases Nat.eq_zero_or_pos z.size with h | h
  ·rw[h] at hi'; simp at hi'
  ·exact h
 have hlt:i % z.size<z.size:=Nat.mod_lt _ hpos;have:z[i % z.size]! = z[i % z.size]:=getElem!_pos z _ hlt;rw[this];exact hz _ (by simp)
section
variable {α:Type}{k:Nat}{e:Enc α k}{P:Program}{N:Nat}{E:World}{f:Fr}{g:PH}{s:Own}{dst:Option Tmp}{ty:TypeId}{pos:String}{af:Array Edge}{gd:Option (Nat×Bool)}
theorem Rd.from {b o n c m d:Nat}{xs:List Value}(h:Rd g s (.slice (some ⟨b,0,none⟩) n c) xs):Rd g s (.slice (some ⟨b,o,none⟩) m d) (xs.drop o):=fun E w hw j x hj=>by
 rw[zh8] at hj;obtain ⟨a,n',c',he,hs,hc⟩:=h E w hw (o+j) x hj;injection he with e1
 injection e1 with e1
 subst e1;exact⟨_,_,_,I,I,by simpa [Nat.add_assoc] using hc⟩
theorem Enc.drop {l:List α}(j:Nat):(l.drop j).flatMap e.enc=(l.flatMap e.enc).drop (j * k):=by
 induction l generalizing j with
 | nil=>simp
 | cons y r ih =>
  cases j with
  | zero=>simp
  | succ j =>
   rw[List.drop_succ_cons,zh2,ih,List.drop_append,e.len,show (j+1) * k - k=j * k by rw[Nat.succ_mul]; omega,List.drop_of_length_le (l:=e.enc y) (by rw[e.len,Nat.succ_mul]; omega)];simp
theorem Rd.fromA {b o n c m d:Nat}{l:List α}(h:Rd g s (.slice (some ⟨b,0,none⟩) n c) (l.flatMap e.enc)):Rd g s (.slice (some ⟨b,o * k,none⟩) m d) ((l.drop o).flatMap e.enc):=by
 rw[Enc.drop];exact h.from
theorem At.shrink {w:World}{T:TypeId}{p:Option Addr}{n c i m:Nat}{D J:List α}(h:At E g s w)(hi:s[i]?=some (rowA e T (.slice p n c) (D++J)))(hm:m=D.length):At E g (s.set i (rowA e T (.slice p m c) D)) w:=by
 subst hm;obtain ⟨hxl,hform⟩:=ge h hi;have hsame:(rowA e T (.slice p D.length c) D).blk=(rowA e T (.slice p n c) (D++J)).blk:=by
  cases p <;> cases c <;> rfl
 refine h.turn hi I ⟨I,lR _⟩ I (lR _) (fun _ _ _=>I) ?_ (fun b hb=>?_)
 ·rcases hform with ⟨q,he,h0⟩ | ⟨b,cap,cur,he,hg,hle,hcm,hcs,htake⟩
  ·injection he with e1 e2 e3
   subst e3;have hD:D=[]:=zf1 (by rw[ze2] at h0; omega);subst hD;exact⟨by simp,.inl ⟨p,I,I⟩⟩
  ·injection he with e1 e2 e3
   subst e1; subst e3;refine dN (by rw[e.length]) hg (by simp at hle; omega) hcm hcs ?_;have h1:cur.toList.take (D.length * k)=(cur.toList.take ((D++J).length * k)).take (D.length * k):=by
    rw[List.take_take,Nat.min_eq_left (Nat.mul_le_mul_right k (by simp))]
   rw[h1,htake,List.flatMap_append,List.take_append_of_le_length (by rw[e.length]; exact lR _),tL (by rw[e.length]; exact lR _)]
 ·rw[hsame] at hb;exact⟨(h.fresh _ (zf8 hi) b hb).2,.inl hb⟩
theorem SO.clearA {x:Operand}{t T:TypeId}{bytes b c m n d:Nat}{z:Value}{D:List α}(i:Nat)(hT:STy P t T k bytes z)(hz:∀ v∈z.cells.toList,v.oneCell'=true)(hx:ev f x=some (.slice (some ⟨b,D.length * k,none⟩) m d))(hi:s[i]?=some (rowA e T (.slice (some ⟨b,0,none⟩) n (c+1)) D))(hn:n=D.length)(hm:D.length+m≤c+1) :
  SO P N E ⟨dst,.call ⟨.builtin .clear,#[x],#[t]⟩,ty,pos,af,gd⟩ f g s fun _ g' s'=>g=g'∧s=s' :=
 SO.of_run fun a w ha hw=>by
  subst hn;obtain ⟨hxl,hform⟩:=ge hw hi
  rcases hform with ⟨q,he,h0⟩ | ⟨b',cap,cur,he,hg,hle,hcm,hcs,htake⟩
  ·injection he with e1 e2 e3
   cases e3
  ·injection he with e1 e2 e3
   injection e1 with e1
   injection e1 with e1
   injection e3 with e3
   subst e1; subst e3;have hfr:=hw.fresh _ (zf8 hi) b rfl;by_cases hm0:m=0
   ·subst hm0;refine⟨.tuple #[],w,g,s,?_,hw,I,I⟩;simp[execOp,resolve,invoke,builtin,ha.ev hx,Builtin.clear_,run_underlying hT.und]
   ·have hlen:(Builtin.zeroCells z.cells m).toList.length=m * k:=by simp[size_zeroCells,hT.zs]
    have hst:=run_storeCells_at P b (D.length * k) T (Builtin.zeroCells z.cells m).toList 0 cur w hg (by rw[hlen,hcs,Nat.add_zero,← Nat.add_mul]; exact Nat.mul_le_mul_right k hm) (fun v hv=>td hz hv);simp only[Nat.add_zero] at hst;refine⟨.tuple #[],w.setRow b (cur.toList.take (D.length * k)++(Builtin.zeroCells z.cells m).toList++cur.toList.drop (D.length * k+(Builtin.zeroCells z.cells m).toList.length)).toArray,g,s,?_,?_,I,I⟩
    ·cases m with
     | zero=>exact absurd rfl hm0
     | succ m=>simp[execOp,resolve,invoke,builtin,ha.ev hx,Builtin.clear_,run_underlying hT.und,hT.zero w]; simp only[Array.length_toList] at hst; rw[hst]; simp
    ·have h2:=hw.turn (w':=w.setRow b (cur.toList.take (D.length * k)++(Builtin.zeroCells z.cells m).toList++cur.toList.drop (D.length * k+(Builtin.zeroCells z.cells m).toList.length)).toArray) (e':=rowA e T (.slice (some ⟨b,0,none⟩) D.length (c+1)) D) hi rfl ⟨rfl,lR _⟩ rfl (by simp) (fun k' _ hk'=>setRow_other w b k' _ (fun e1=>hk' (by simp[rowA,row,nU,e1]))) (dN (by rw[e.length]) (setRow_heap w b cur _ T _ hg) hle hcm (by
       simp only[List.size_toArray,ze2,ze1,ze6,Array.length_toList];have:D.length * k+m * k≤(c+1) * k:=by rw[← Nat.add_mul]; exact Nat.mul_le_mul_right k hm
       simp only[Array.length_toList] at hlen;omega) (by
       have h3:(cur.toList.take (D.length * k)).length=D.length * k:=by
        have hcl:cur.toList.length=(c+1) * k:=by rw[Array.length_toList]; exact hcs
        rw[ze1,hcl];exact Nat.min_eq_left (Nat.mul_le_mul_right k hle)
       rw[zg5,List.take_append_of_le_length (by rw[h3]; exact lR _),tL (by rw[h3]; exact lR _),htake])) (fun b' hb'=>by
       simp only[rowA,row,nU,zg4] at hb';subst hb';exact⟨by simpa using hfr.2,.inl I⟩)
     have hset:s.set i (rowA e T (.slice (some ⟨b,0,none⟩) D.length (c+1)) D)=s:=by
      apply List.ext_getElem?;intro q;rw[List.getElem?_set];split
      ·rename_i e1; subst e1;split
       ·exact hi.symm
       ·rename_i h2; rw[List.getElem?_eq_none oM]
      ·rfl
     rwa [hset] at h2
end
end Go.Sy
namespace Go.Sy
open Go
section
variable {α:Type}{k:Nat}{e:Enc α k}{P:Program}{N:Nat}{E:World}{f:Fr}{g:PH}{s:Own}{dst:Option Tmp}{ty:TypeId}{pos:String}{af:Array Edge}{gd:Option (Nat×Bool)}
theorem SO.appendZ {x y:Operand}{t tn T:TypeId}{kn:IntKind}{bytes n:Nat}{z:Value}(e:Enc α k)(hT:STy P t T k bytes z)(htn:P.underlying tn=some (.int kn))(hx:ev f x=some (.slice none 0 0))(hy:ev f y=some (vi n))(h0:0<n)(hb:n * bytes≤140737488355328)(hlen:n≤4611686018427387904) :
  SO P N E ⟨dst,.call ⟨.builtin .append,#[x,y],#[t,tn]⟩,ty,pos,af,gd⟩ f g s fun v' g' s'=>∃ b cap,v' = .slice (some ⟨b,0,none⟩) n (cap+1)∧n≤cap+1∧g=g'∧s'=rowA e T (.slice (some ⟨b,0,none⟩) 0 (cap+1)) []::s :=
 SO.of_run fun a w ha hw=>by
  obtain ⟨ti,ht1,ht2,ht3,ht4⟩:=hT.info;have h5:=Lib.run_append_nil_zeros (P:=P) w t tn ty T ti z .i64 kn hT.und htn ht1 ht2 n h0 (by rw[ht3]; exact hT.pos) oM (by rw[ht4]; omega);have hge:=grownCap_ge w n 0 T;have hcm:=grownCap_le_maxLen w n 0 T (by unfold maxLen; omega);obtain ⟨cap,hcap⟩:∃ cap,grownCap w n 0 T=cap+1:=⟨grownCap w n 0 T - 1,oM⟩;rw[hcap] at h5 hge hcm;have h6:=hw.emptyRow T k (none:Option Addr);have hrun:(execOp a.eval ⟨dst,.call ⟨.builtin .append,#[x,y],#[t,tn]⟩,ty,pos,af,gd⟩).run P w = .ok (.value (.slice (some ⟨w.heap.size,0,none⟩) n (cap+1))) (w.drew.alloc (.cells (Builtin.zeroCells z.cells n++Builtin.zeroCells z.cells (cap+1 - n)) T)):=by
   simp[execOp,resolve,invoke,builtin,ha.ev hx,ha.ev hy,h5]
  refine⟨_,_,g,_,hrun,?_,_,_,I,hge,I,I⟩;have hz:(Builtin.zeroCells z.cells n++Builtin.zeroCells z.cells (cap+1 - n)).size=(cap+1) * k:=by
   rw[Array.size_append,size_zeroCells,size_zeroCells,hT.zs,← Nat.add_mul];congr 1;omega
  have hnew:(w.drew.alloc (.cells (Builtin.zeroCells z.cells n++Builtin.zeroCells z.cells (cap+1 - n)) T)).heap[w.heap.size]?=some (.cells (Builtin.zeroCells z.cells n++Builtin.zeroCells z.cells (cap+1 - n)) T (0,0)):=heap_alloc_new w.drew _;have h7:=h6.turn (i:=0) (w':=w.drew.alloc (.cells (Builtin.zeroCells z.cells n++Builtin.zeroCells z.cells (cap+1 - n)) T)) (e':=rowA e T (.slice (some ⟨w.heap.size,0,none⟩) 0 (cap+1)) []) rfl rfl ⟨rfl,by exact Nat.le_add_right _ _⟩ rfl (by simp) (fun q hq _=>by (first | exact heap_alloc_old w.drew _ q hq | exact heap_alloc_old w.drew _ hq))
   (dN (by simp) hnew (zf3 _) hcm hz (by simp)) (fun b hb=>by
    simp only[rowA,row,nU,zg4] at hb;subst hb;exact⟨(Array.getElem?_eq_some_iff.1 hnew).1,.inr (lR _)⟩)
  simpa using h7
end
section
variable {α:Type}{k:Nat}{e:Enc α k}{P:Program}{N:Nat}{E:World}{f:Fr}{g:PH}{s:Own}{dst:Option Tmp}{ty:TypeId}{pos:String}{af:Array Edge}{gd:Option (Nat×Bool)}
theorem Cr {a:α}{zs:Array Value}(n:Nat)(hz:zs.toList=e.enc a):(madeCells zs (n * k)).toList=(List.replicate n a).flatMap e.enc:=by
 have hzs:zs.size=k:=by rw[← Array.length_toList,hz,e.len]
 apply List.ext_getElem?;intro q;by_cases hq:q<n * k
 ·have hk:0<k:=e.pos;have hqk:q % k<k:=Nat.mod_lt _ hk;have hqd:q / k<n:=(Nat.div_lt_iff_lt_mul hk).2 hq;have hsz:q % k<zs.size:=oM;have h1:(e.enc a)[q % k]?=some zs[q % k]:=by rw[← hz]; simp[hsz]
  have h2:=e.get (l:=List.replicate n a) (i:=q / k) (j:=q % k) (a:=a) (by simp[hqd]) h1;rw[show q / k * k+q % k=q by rw[Nat.mul_comm]; exact Nat.div_add_mod q k] at h2;rw[h2];simp[madeCells,hq,hzs];rw[getElem!_pos zs _ hsz]
 ·rw[List.getElem?_eq_none (by simp[madeCells]; omega),List.getElem?_eq_none (by rw[e.length]; simp; omega)]
theorem SO.makeA {x y:Operand}{t T:TypeId}{bytes n:Nat}{z:Value}(e:Enc α k)(a:α)(hT:STy P t T k bytes z)(hz:z.cells.toList=e.enc a)(hx:ev f x=some (vi n))(hy:ev f y=some (vi n))(hb:n * bytes≤140737488355328)(hlen:n≤4611686018427387904) :
  SO P N E ⟨dst,.makeSlice t x y,ty,pos,af,gd⟩ f g s fun v' g' s'=>∃ b,v' = .slice (some ⟨b,0,none⟩) n n∧g=g'∧s'=rowA e T (.slice (some ⟨b,0,none⟩) n n) (List.replicate n a)::s :=
 SO.of_run fun ac w ha hw=>by
  obtain ⟨ti,ht1,ht2,ht3,ht4⟩:=hT.info;have hbi:(ti.bytes:Int) * ((n:Nat):Int)≤281474976710656:=by
   rw[ht4,← Int.natCast_mul,Nat.mul_comm]; omega
  have h5:=run_make (P:=P) w t T ti z hT.und ht1 ht2 .i64 .i64 n n oM (Int.le_refl _) hbi oM;simp only[Int.toNat_natCast] at h5;rw[ht3] at h5;have hrun:(execOp ac.eval ⟨dst,.makeSlice t x y,ty,pos,af,gd⟩).run P w = .ok (.value (.slice (some ⟨w.heap.size,0,none⟩) n n)) (w.alloc (.cells (madeCells z.cells (n * k)) T)):=by
   simp[execOp,ha.ev hx,ha.ev hy,h5]
  have hnew:(w.alloc (.cells (madeCells z.cells (n * k)) T)).heap[w.heap.size]?=some (.cells (madeCells z.cells (n * k)) T (0,0)):=heap_alloc_new w _;refine⟨_,_,g,_,hrun,?_,_,I,I,I⟩;have hml:=Cr (e:=e) (a:=a) n hz;cases n with
  | zero =>
   have h6:=hw.emptyRow T k (some ⟨w.heap.size,0,none⟩);have h7:=h6.alloc (e:=pt w.heap.size (.cells (madeCells z.cells (0 * k)) T (0,0))) (o:=.cells (madeCells z.cells (0 * k)) T (0,0)) rfl rfl;exact h7.sublist (zi7 _ _)
  | succ n =>
   have h6:=hw.alloc (e:=pt w.heap.size (.cells (madeCells z.cells ((n+1) * k)) T (0,0))) (o:=.cells (madeCells z.cells ((n+1) * k)) T (0,0)) rfl rfl;exact h6.litRow hml (by simp) (by unfold maxLen; omega)
end
theorem SP.freeze {P:Program}{N:Nat}{E:World}{ops:Array Oper}{Q:Exit→Act→World→Prop}{g0:PH}{s0:Own}{tail:List Nat}{plan:List (Nat×Nat)}{f:Fr}{g:PH}{s:Own}{b:Nat}{o:Obj}(h:∀ g',Le g g'→g' b=some o→SP P N E ops Q g0 s0 tail plan f g' s):SP P N E ops Q g0 s0 tail plan f g (pt b o::s):=fun L a w h1 hcl h2 ha hw hb=>by
 have ho:w.heap[b]?=some o:=by have:=hw.own (pt b o) (by simp); simpa [pt] using this
 obtain ⟨h3,h4⟩:=hw.freeze (b:=b) rfl ho;exact h _ h4 (fw _ _ _) L a w h1 hcl h2 ha h3 hb
theorem SP.freezeRow {P:Program}{N:Nat}{E:World}{ops:Array Oper}{Q:Exit→Act→World→Prop}{g0:PH}{s0:Own}{tail:List Nat}{plan:List (Nat×Nat)}{f:Fr}{g:PH}{s:Own}{T:TypeId}{k n:Nat}{v:Value}{xs:List Value}(h:∀ g',Le g g'→Sl g' k v n xs→SP P N E ops Q g0 s0 tail plan f g' s):SP P N E ops Q g0 s0 tail plan f g (row T k v n xs::s):=fun L a w h1 hcl h2 ha hw hb=>by
 obtain ⟨g',h3,h4,h5⟩:=hw.freezeRow;exact h g' h3 h5 L a w h1 hcl h2 ha h4 hb
theorem mK:type_of% @SO.makeA:=@SO.makeA
theorem zd2:type_of% @SX.br1:=@SX.br1
theorem zd3:type_of% @SX.br2:=@SX.br2
end Go.Sy
