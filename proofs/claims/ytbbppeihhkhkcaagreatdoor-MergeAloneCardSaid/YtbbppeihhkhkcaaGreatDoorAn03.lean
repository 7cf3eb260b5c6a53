/- 3 -/
import Derived.Test.YtbbppeihhkhkcaaGreatDoorAn02
import Derived.Laws.Slices
import Derived.Laws.MakeOwn
import Derived.Laws.CopyRow
import Derived.Lib.AppendZeros
set_option linter.unusedSimpArgs false
set_option linter.unusedVariables false
namespace Go.Proofs.YtbbppeihhkhkcaaGreatDoor
open _root_.Go.Proofs.Tryz _root_.Go.Proofs.YtbbppeihhkhkcaaGreatDoor.Tryz
open Go Go.Sy Go.Pl Go.Proofs
set_option maxRecDepth 100000
set_option maxHeartbeats 1000000 in
theorem EV {α:Type}{k:Nat}{e:Enc α k}{T TS f1 f2 f3 f4 f5 f6 f7 f8 f9 f10:Nat}(w:SoI α k e T TS f1 f2 f3 f4 f5 f6 f7 f8 f9 f10)(E:World)(g:PH)(s:Own)(v cv:Value)(key:α→Int)(U:nr E cv e key g)(l:List α)(hn:l.length<1152921504606846976)(n:Int)(a5:n=l.length) :
  Ctr Tryz.prog E f5 #[v,vi n,cv] g (rowA e T v l::s) (fun _ g' s'=>g=g'∧s'=rowA e T v (sortBy key l)::s):=by
 have uS:=w.uS;have zE:=w.zE;have aE:=w.aE;have kf3:=w.kf3;have kf4:=w.kf4;have w2:=w;cases w2
 all_goals
  first | refine zb2 (args:=[v,vi n,cv]) func158 rfl ntmps158 (bE rfl) ?_ | refine zb2 (args:=[v,vi n,cv]) func227 rfl ntmps227 (bE rfl) ?_
  refine rZ<|aT I<|sW I<|lA I<|aT I<|SC.cut (ι:=type_of% l×type_of% l) (fun i=>[(0,v),(1,vi n),(2,cv),(6,vi 20),(7,vi i.1.length)]) (fun _=>g) (fun i=>rowA w.en w.ty v (i.1++i.2)::s) (fun i=>FC key 20 i.1∧aI key l (i.1++i.2)∧i.2.length<20) ?_ ?_
  ·refine bK<|oP (ι:=type_of% l×type_of% l) (fun i=>[(0,v),(1,vi n),(2,cv),(6,vi 20),(7,vi i.1.length),(8,vi<|i.1.length+20)]) (fun _=>g) (fun i=>rowA w.en w.ty v (i.1++i.2)::s) (fun i=>FC key 20 i.1∧aI key l (i.1++i.2)) (fun i=>i.2.length) ([],l) sB I I ⟨FC.nil,aI.refl _⟩ ?_;rintro ⟨d,r⟩ ⟨hd,a⟩;dsimp only at hd a ⊢;have p:d.length+r.length=l.length:=by have:=a.1; simpa using this
   refine sQ<|sW I<|lM I<|lU (SU.leq I I)<|tZ<|iP I (fun D=>?_) (fun D=>?_)
   ·obtain ⟨c,r',hr,h⟩:∃ c r',r=c++r'∧c.length=20:=⟨r.take 20,r.drop 20,by simp,lN⟩;have a9:r.length=20+r'.length:=by rw[hr]; simp[h]
    have e1:d++r=d++c++r':=by rw[hr]; simp
    rw[e1] at a ⊢;refine kP<|tN<|bK<|sW I<|lM I<|lM I<|lM I<|lW (SO.call kf3 I<|rk w E g s v cv key U d c r' lN _ _ lN lN) ?_;rintro _ _ _ ⟨rfl,c',K,V,rfl⟩;refine tZ<|sW I<|aT I<|rG<|lM I<|lM I<|yD I<|lA I<|SL.nil<|bN ?_;have L:c'.length=20:=by have:=K.1; omega
    exact ST.again (d++c',r') ⟨I,I,I,I,bD lN,bD lN,trivial⟩ I I ⟨hd.snoc L V,a.trans<|aI.append (aI.append (aI.refl _) K)<|aI.refl _⟩ lN
   ·exact xI<|tX<|tX<|bX<|za9 (d,r) sB I I ⟨hd,a,lN⟩
  rintro ⟨d,r⟩ ⟨hd,a,z⟩;dsimp only at hd a z ⊢;have p:d.length+r.length=l.length:=by have:=a.1; simpa using this
  have e1:d++r=d++r++[]:=by simp
  rw[e1];refine sW I<|lM I<|lM I<|lM I<|lW (SO.call kf3 I<|rk w E g s v cv key U d r [] lN _ _ lN lN) ?_;rintro _ _ _ ⟨rfl,r',o,u,rfl⟩;refine tZ<|bK<|oP (ι:=Nat×type_of% l×type_of% l) (fun i=>[(0,v),(1,vi n),(2,cv),(6,vi i.1)]) (fun _=>g) (fun i=>rowA w.en w.ty v (i.2.1++i.2.2)::s) (fun i=>FC key i.1 i.2.1∧aI key l (i.2.1++i.2.2)∧i.2.2.length<i.1∧Srt key i.2.2) (fun i=>l.length - i.1) (20,d,r') sB I (by simp) ⟨hd,a.trans<|aI.append (aI.refl _) o,by have:=o.1; (first | with_reducible rfl | ((try dsimp only); (try simp only[List.length_append,List.length_cons,List.length_nil,List.length_singleton,List.length_take,List.length_drop])<;>omega)),u⟩ ?_;clear o u r' e1 p z a hd r d;rintro ⟨B,d,r⟩ ⟨hd,a,X,x⟩;dsimp only at hd a X x ⊢;have p:d.length+r.length=l.length:=by have:=a.1; simpa using this
  refine sQ<|sW I<|lM I<|yL I<|tZ<|iP I (fun Y=>?_) (fun Y=>?_)
  ·refine kP<|tN<|bK<|sW I<|lU (SU.mul I I oM)<|lA I<|aT I<|SC.cut (ι:=type_of% l×type_of% l) (fun i=>[(0,v),(1,vi n),(2,cv),(6,vi B),(7,vi i.1.length)]) (fun _=>g) (fun i=>rowA w.en w.ty v (i.1++i.2++r)::s) (fun i=>FC key (2 * B) i.1∧FC key B i.2∧aI key l (i.1++i.2++r)∧i.2.length+r.length<2 * B) ?_ ?_
   ·refine bK<|oP (ι:=type_of% l×type_of% l) (fun i=>[(0,v),(1,vi n),(2,cv),(6,vi B),(7,vi i.1.length),(8,vi<|i.1.length+2 * B)]) (fun _=>g) (fun i=>rowA w.en w.ty v (i.1++i.2++r)::s) (fun i=>FC key (2 * B) i.1∧FC key B i.2∧aI key l (i.1++i.2++r)) (fun i=>i.2.length) ([],d) ⟨I,I,I,I,I,bD lN,trivial⟩ I (by simp) ⟨FC.nil,hd,by simpa using a⟩ ?_;rintro ⟨e,d1⟩ ⟨J,j,b⟩;dsimp only at J j b ⊢;have F:e.length+d1.length+r.length=l.length:=by have:=b.1; simp at this; omega
    refine sQ<|sW I<|lM I<|lU (SU.leq I I)<|tZ<|iP I (fun D=>?_) (fun D=>?_)
    ·obtain ⟨c1,d2,f,M,N,q⟩:=j.front oM;have m:d1.length=B+d2.length:=by rw[f]; simp[M]
     obtain ⟨c2,d3,A,O,P,Z⟩:=q.front oM;have a2:d2.length=B+d3.length:=by rw[A]; simp[O]
     have e1:e++d1++r=e++c1++c2++(d3++r):=by rw[f,A]; simp
     rw[e1] at b ⊢;refine kP<|tN<|bK<|sW I<|lM I<|lM I<|lM I<|yD I<|lM I<|lM I<|lW (SO.call kf4 I<|tW w E g v cv key U _ s e c1 c2 (d3++r) I N P oM oM lN _ _ _ lN lN lN) ?_;rintro _ _ _ ⟨rfl,W,y,G,rfl⟩;refine tZ<|sW I<|aT I<|rG<|lM I<|lM I<|lU (SU.mul I I oM)<|yD I<|lA I<|SL.nil<|bN ?_;have a0:W.length=2 * B:=by have:=y.1; simp at this; omega
     exact ST.again (e++W,d3) ⟨I,I,I,I,bD lN,bD lN,trivial⟩ I (by simp) ⟨J.snoc a0 G,Z,b.trans (by
      have:=aI.append (aI.append (aI.refl (key:=key) e) y) (aI.refl (key:=key) (d3++r));simpa using this)⟩ lN
    ·exact xI<|tX<|tX<|bX<|za9 (e,d1) sB I I ⟨J,j,b,lN⟩
   rintro ⟨e,d1⟩ ⟨J,j,b,Q⟩;dsimp only at J j b Q ⊢;have F:e.length+d1.length+r.length=l.length:=by have:=b.1; simp at this; omega
   refine SC.cut (ι:=type_of% l) (fun _=>[(0,v),(1,vi n),(2,cv),(6,vi B)]) (fun _=>g) (fun r'=>rowA w.en w.ty v (e++r')::s) (fun r'=>aI key (d1++r) r'∧Srt key r') ?_ ?_
   ·refine sW I<|lM I<|yD I<|aT I<|sW I<|lM I<|yL I<|tZ<|iP I (fun a1=>?_) (fun a1=>?_)
    ·obtain ⟨c,d2,f,h,t,q⟩:=j.front oM;have m:d1.length=B+d2.length:=by rw[f]; simp[h]
     have C:d2=[]:=by
      cases q with
      | nil=>rfl
      | cons h3 h4 h5=>simp[h3] at m; omega
     have a3:d2.length=0:=by rw[C]; rfl
     have R:d1=c:=by rw[f,C]; simp
     have e1:e++d1++r=e++c++r++[]:=by rw[R]; simp
     rw[e1];refine rG<|lM I<|lM I<|lM I<|lM I<|lM I<|lW (SO.call kf4 I<|tW w E g v cv key U _ s e c r [] I t x oM oM lN _ _ _ lN lN lN) ?_;rintro _ _ _ ⟨rfl,W,y,G,rfl⟩;exact SL.nil<|za9 W sB I (by simp) ⟨by rw[R]; exact y,G⟩
    ·refine kP ?_;exact za9 (d1++r) sB I (by simp) ⟨aI.refl _,by
      rcases Nat.eq_zero_or_pos d1.length with H | H
      ·rw[zf6 H]; simpa using x
      ·obtain ⟨c,d2,f,h,t,q⟩:=j.front H;have m:d1.length=B+d2.length:=by rw[f]; simp[h]
       have h1:d2=[]:=zf6 oM;have h2:r=[]:=zf6 oM;rw[f,h1,h2]; simpa using t⟩
   rintro r' ⟨o,u⟩;try dsimp only
   have a4:r'.length=d1.length+r.length:=by have:=o.1; simpa using this
   refine rG (lM I (lU (SU.mul I I oM) (lA I (SL.nil (bN ?_)))));exact ST.again (2 * B,e,r') ⟨I,I,I,bD lN,trivial⟩ I I ⟨J,b.trans (by
    have:=aI.append (aI.refl (key:=key) e) o;simpa using this),lN,u⟩ lN
  ·refine xI<|tX<|tX<|bX ?_;have S:Srt key (d++r):=by
    rcases Nat.eq_zero_or_pos d.length with H | H
    ·rw[zf6 H]; simpa using x
    ·obtain ⟨c,d2,f,h,t,q⟩:=hd.front H;have m:d.length=B+d2.length:=by rw[f]; simp[h]
     have h1:d2=[]:=zf6 oM;have h2:r=[]:=zf6 oM;rw[f,h1,h2]; simpa using t
   exact ST.ret0 (.inr I) (by exact results158) ⟨I,by rw[bI S a]⟩
theorem pj {α:Type}{k:Nat}{e:Enc α k}{T TS f1 f2 f3 f4 f5 f6 f7 f8 f9 f10:Nat}(w:SoI α k e T TS f1 f2 f3 f4 f5 f6 f7 f8 f9 f10)(E:World)(g:PH)(s:Own)(v cv:Value)(key:α→Int)(b:nr E cv e key g)(l:List α)(hn:l.length<1152921504606846976) :
  Ctr Tryz.prog E f6 #[v,cv] g (rowA e T v l::s) (fun _ g' s'=>g=g'∧s'=rowA e T v (sortBy key l)::s):=by
 have uS:=w.uS;have zE:=w.zE;have aE:=w.aE;have kf5:=w.kf5;have w2:=w;cases w2
 all_goals
  refine Ctr.facts fun ⟨w0,a⟩=>?_;obtain ⟨p,c,rfl⟩:=ag (i:=0) a rfl;clear a w0
  first | refine zb2 (args:=[.slice p l.length c,cv]) func88 rfl ntmps88 (bE rfl) ?_ | refine zb2 (args:=[.slice p l.length c,cv]) func178 rfl ntmps178 (bE rfl) ?_
  refine rG<|lM I<|lM I<|lU (eN uS I)<|lM I<|lW (SO.call kf5 I<|EV w E g s _ cv key b l hn _ I) ?_;rintro _ _ _ ⟨rfl,rfl⟩;exact SL.nil<|ST.ret0 (.inr I) (by exact results88) ⟨I,I⟩
theorem pm (E:World)(g:PH)(s:Own)(v cv:Value)(key:Rc→Int)(a:nr E cv encCell key g)(l:List Rc)(hn:l.length<1152921504606846976) :
  Ctr Tryz.prog E 88 #[v,cv] g (rowA encCell 56 v l::s) (fun _ g' s'=>g=g'∧s'=rowA encCell 56 v (sortBy key l)::s) :=
 pj .c E g s v cv key a l hn
def AQ (E:World)(kv:Value)(key:Rc→Int)(g:PH):Prop :=
 ∀ g' s a,Le g g'→cz Tryz.prog E kv [.agg (encCell.enc a).toArray] g' s (fun r g'' s''=>r=vi (key a)∧g'=g''∧s=s'')
theorem Gi (E:World)(g:PH)(b:Nat)(kv:Value)(key:Rc→Int)(d:AQ E kv key g)(hb:g b=some (.cells #[kv] 164 (0,0))):nr E (.func (.func 177) #[] #[pp b 0]) encCell key g:=by
 intro g s x y a;refine cz.mk (cap:=[pp b 0]) call177 ?_;have c:=a _ _ hb;refine zb2 (args:=[.agg (encCell.enc x).toArray,.agg (encCell.enc y).toArray,pp b 0]) func177 I ntmps177 (bE I)<|rZ (bW (bO I) fun b3=>?_);refine bW (bO I) fun b4=>aT I<|sQ<|dW [] [(0,1),(1,1),(3,1),(4,1),(2,0),(5,0),(6,0),(7,2)] ze5 kR<|pK I (qL isAgg164 I<|cK c I)<|pK I (qV 1 dT aw I I I)<|pK I (qL isAgg164 I<|cK c I)<|pK I (qV 0 dT aw I I I)<|SP.o I (SO.callV I I<|d _ _ x a) dC (.inr iR) ?_;rintro _ _ _ ⟨rfl,rfl,rfl⟩;refine SP.o I (SO.callV I I<|d _ _ y a) dC (.inr iR) ?_;rintro _ _ _ ⟨rfl,rfl,rfl⟩;refine SP.o I (SO.call call90 I<|dH E g _ (key x)<|key y) dC (.inr iR) ?_;rintro _ _ _ ⟨rfl,rfl,rfl⟩;exact pU I (aS I)<|pN<|tN<|rE<|dR (s':=s) uR<|za8 (.inl I) results177 I ⟨I,I,I⟩
theorem Gl (E:World)(g:PH)(s:Own)(v:Value)(l:List Rc)(a:SlA encCell g v l)(hn:l.length<1099511627776) :
  Ctr Tryz.prog E 176 #[v] g s (fun r g' s'=>g=g'∧s'=rowA encCell 56 r l::s):=by
 obtain ⟨p,c,rfl⟩:=za4 a;refine zb2 (args:=[.slice p l.length c]) func176 I ntmps176 (bE I)<|rZ<|aT I<|sQ<|sW I<|lU (SU.eqlNil aB I I)<|tZ<|iQ I (fun b=>?_) (fun b=>?_)
 ·refine rZ<|aT I<|rE<|tR ?_;have hl:l=[]:=by
   cases l with
   | nil=>rfl
   | cons x r =>
    have hb:=za6 a (by simp);cases p with
    | none=>simp[based] at hb
    | some q=>simp at b
  subst hl;exact ST.nilRow 56 3<|za8 (.inl I) results176 I ⟨I,I⟩
 ·refine kP<|tN<|rZ<|lW (bS sty27 I I I (ab trivial) dC) ?_;rintro _ _ _ ⟨b5,rfl,rfl,rfl⟩;refine SL.emptyRow 56 3 (some ⟨b5,0,none⟩)<|lM I<|lW (SO.appendE (m:=l.length) 0 l.length (l.flatMap encCell.enc) sty27 I I I I I (Sl.rd a) (encCell.length l) (encCell.ones l) oM (by simp) oM oM) ?_;rintro r7 _ _ ⟨rfl,rfl⟩;exact aT I<|rE<|dR (s':=rowA encCell 56 r7 l::s) (.cons_cons _<|.cons _<|.refl _)<|za8 (.inl I) results176 I ⟨I,I⟩
theorem AW (E:World)(g:PH)(s:Own)(v:Value)(kn:FuncId)(kc:Array Value)(key:Rc→Int)(c:AQ E (.func (.func kn) #[] kc) key g)(l:List Rc)(d:SlA encCell g v l)(hn:l.length<1099511627776) :
  Ctr Tryz.prog E 117 #[v,.func (.func kn) #[] kc] g s (fun r g' s'=>g=g'∧s'=rowA encCell 56 r (sortBy key l)::s):=by
 refine zb2 (args:=[v,.func (.func kn) #[] kc]) func117 I ntmps117 (bE I)<|rZ (bW (bO I) fun b3=>?_);refine zb5 fun g1 b hb=>?_;refine aT I<|sW I<|lW (SO.call call176 I<|Gl E g1 s v l (d.mono b) hn) ?_;rintro r7 _ _ ⟨rfl,rfl⟩;refine aT I<|sW I<|lU (SU.mkFunc I)<|lW (SO.call call88 I<|pm E g1 s r7 _ key (Gi E g1 b3 _ key (fun g' s a h=>c g' s a<|b.trans h) hb) l oM) ?_;rintro _ _ _ ⟨rfl,rfl⟩;exact tZ<|sW I<|aT I<|rE<|ST.less b<|za8 (.inl I) results117 I ⟨I,I⟩
theorem wA (E:World)(g:PH)(s:Own)(v cv:Value)(key:ak→Int)(a:nr E cv encSide key g)(l:List ak)(hn:l.length<1152921504606846976) :
  Ctr Tryz.prog E 178 #[v,cv] g (rowA encSide 75 v l::s) (fun _ g' s'=>g=g'∧s'=rowA encSide 75 v (sortBy key l)::s) :=
 pj .s E g s v cv key a l hn
def AP (E:World)(kv:Value)(key:ak→Int)(g:PH):Prop :=
 ∀ g' s a,Le g g'→cz Tryz.prog E kv [.agg (encSide.enc a).toArray] g' s (fun r g'' s''=>r=vi (key a)∧g'=g''∧s=s'')
theorem Gh (E:World)(g:PH)(b:Nat)(kv:Value)(key:ak→Int)(d:AP E kv key g)(hb:g b=some (.cells #[kv] 166 (0,0))):nr E (.func (.func 179) #[] #[pp b 0]) encSide key g:=by
 intro g s x y a;refine cz.mk (cap:=[pp b 0]) call179 ?_;have c:=a _ _ hb;refine zb2 (args:=[.agg (encSide.enc x).toArray,.agg (encSide.enc y).toArray,pp b 0]) func179 I ntmps179 (bE I)<|rZ (bW (bO I) fun b3=>?_);refine bW (bO I) fun b4=>aT I<|sQ<|dW [] [(0,1),(1,1),(3,1),(4,1),(2,0),(5,0),(6,0),(7,2)] ze5 kR<|pK I (qL isAgg166 I<|cK c I)<|pK I (qV 1 jn aY I I I)<|pK I (qL isAgg166 I<|cK c I)<|pK I (qV 0 jn aY I I I)<|SP.o I (SO.callV I I<|d _ _ x a) dC (.inr iR) ?_;rintro _ _ _ ⟨rfl,rfl,rfl⟩;refine SP.o I (SO.callV I I<|d _ _ y a) dC (.inr iR) ?_;rintro _ _ _ ⟨rfl,rfl,rfl⟩;refine SP.o I (SO.call call90 I<|dH E g _ (key x)<|key y) dC (.inr iR) ?_;rintro _ _ _ ⟨rfl,rfl,rfl⟩;exact pU I (aS I)<|pN<|tN<|rE<|dR (s':=s) uR<|za8 (.inl I) results179 I ⟨I,I,I⟩
theorem Gj (E:World)(g:PH)(s:Own)(v:Value)(l:List ak)(a:SlA encSide g v l)(hn:l.length<1099511627776) :
  Ctr Tryz.prog E 110 #[v] g s (fun r g' s'=>g=g'∧s'=rowA encSide 75 r l::s):=by
 obtain ⟨p,c,rfl⟩:=za4 a;refine zb2 (args:=[.slice p l.length c]) func110 I ntmps110 (bE I)<|rZ<|aT I<|sQ<|sW I<|lU (SU.eqlNil be I I)<|tZ<|iQ I (fun b=>?_) (fun b=>?_)
 ·refine rZ<|aT I<|rE<|tR ?_;have hl:l=[]:=by
   cases l with
   | nil=>rfl
   | cons x r =>
    have hb:=za6 a (by simp);cases p with
    | none=>simp[based] at hb
    | some q=>simp at b
  subst hl;exact ST.nilRow 75 2<|za8 (.inl I) results110 I ⟨I,I⟩
 ·refine kP<|tN<|rZ<|lW (bS sty39 I I I (ab trivial) dC) ?_;rintro _ _ _ ⟨b5,rfl,rfl,rfl⟩;refine SL.emptyRow 75 2 (some ⟨b5,0,none⟩)<|lM I<|lW (SO.appendE (m:=l.length) 0 l.length (l.flatMap encSide.enc) sty39 I I I I I (Sl.rd a) (encSide.length l) (encSide.ones l) oM (by simp) oM oM) ?_;rintro r7 _ _ ⟨rfl,rfl⟩;exact aT I<|rE<|dR (s':=rowA encSide 75 r7 l::s) (.cons_cons _<|.cons _<|.refl _)<|za8 (.inl I) results110 I ⟨I,I⟩
theorem AV (E:World)(g:PH)(s:Own)(v:Value)(kn:FuncId)(kc:Array Value)(key:ak→Int)(c:AP E (.func (.func kn) #[] kc) key g)(l:List ak)(d:SlA encSide g v l)(hn:l.length<1099511627776) :
  Ctr Tryz.prog E 119 #[v,.func (.func kn) #[] kc] g s (fun r g' s'=>g=g'∧s'=rowA encSide 75 r (sortBy key l)::s):=by
 refine zb2 (args:=[v,.func (.func kn) #[] kc]) func119 I ntmps119 (bE I)<|rZ (bW (bO I) fun b3=>?_);refine zb5 fun g1 b hb=>?_;refine aT I<|sW I<|lW (SO.call call110 I<|Gj E g1 s v l (d.mono b) hn) ?_;rintro r7 _ _ ⟨rfl,rfl⟩;refine aT I<|sW I<|lU (SU.mkFunc I)<|lW (SO.call call178 I<|wA E g1 s r7 _ key (Gh E g1 b3 _ key (fun g' s a h=>c g' s a<|b.trans h) hb) l oM) ?_;rintro _ _ _ ⟨rfl,rfl⟩;exact tZ<|sW I<|aT I<|rE<|ST.less b<|za8 (.inl I) results119 I ⟨I,I⟩
end Go.Proofs.YtbbppeihhkhkcaaGreatDoor
namespace Go.Sy
open Go Go.MapKept
def unV (q:Value×Value):Int×Value:=(match q.1 with | .int _ z=>z | _=>0,q.2)
theorem tV (l:List (Int×Value)):(l.map li).map unV=l:=by
 rw[zi7]
 conv=>rhs; rw[← List.map_id l]
 rfl
theorem ef {l m:List Nat}(hm:m.Nodup)(hl:l.Nodup)(h:∀ x∈m,x∈l):m.length≤l.length:=by
 have b:(l.filter<|fun x=>decide (x∈m)).Perm m:=(List.perm_ext_iff_of_nodup (hl.filter _) hm).2 fun x=>by
  rw[zh6];exact⟨fun a=>by simpa using a.2,fun a=>⟨h x a,by simpa using a⟩⟩
 have:=b.length_eq;have:=zc6 (fun x=>decide (x∈m)) l;omega
structure lV (l:List (Int×Value))(es:Array MapEntry)(vis:List MapEntry)(vl:List (Int×Value)):Prop where
 ok:Vis es vis
 eq:vis.map nD=vl.map li
theorem lV.nil (l:List (Int×Value))(es:Array MapEntry):lV l es [] []:=⟨⟨by simp,by simp⟩,rfl⟩
theorem lV.len {l:List (Int×Value)}{es:Array MapEntry}{clk:Nat}{vis:List MapEntry}{vl:List (Int×Value)}(h:lV l es vis vl)(hm:vO l es clk):vl.length≤l.length:=by
 have f:vis.length=vl.length:=by have:=ze4 List.length h.eq; simpa using this
 have a:es.toList.length=l.length:=by have:=ze4 List.length hm.1; simpa using this
 have b:=ef (l:=es.toList.map (·.born)) h.ok.nodup hm.2.2.1 (fun x c=>by
  obtain ⟨e,d,rfl⟩:=zf4.1 c;exact zf4.2 ⟨e,h.ok.sub e d,I⟩)
 simp at b;simp at a;omega
theorem lV.all {l:List (Int×Value)}{es:Array MapEntry}{clk:Nat}{vis:List MapEntry}{vl:List (Int×Value)}(h:lV l es vis vl)(hm:vO l es clk)(i:∀ e∈es.toList,e∈vis):vl.Perm l:=by
 have f:vis.Nodup:=List.Pairwise.of_map (fun e=>e.born) (fun a b d c=>d<|by rw[c]) h.ok.nodup;have c:es.toList.Nodup:=List.Pairwise.of_map (fun e=>e.born) (fun a b d c=>d<|by rw[c]) hm.2.2.1;have j:vis.Perm es.toList:=(List.perm_ext_iff_of_nodup f c).2 fun e=>⟨h.ok.sub e,i e⟩;have g:=(j.map nD).map unV;rw[h.eq,hm.1,tV,tV] at g;exact g
section
variable {P:Program}{N:Nat}{E:World}{f:Fr}{g:PH}{s:Own}{dst:Option Tmp}{ty:TypeId}{pos:String}{af:Array Edge}{gd:Option (Nat×Bool)}
variable {m r clk:Nat}{es:Array MapEntry}{vis:List MapEntry}{x:Operand}{l vl:List (Int×Value)}
theorem SO.nextP (i:Nat)(y:ev f x=some (pp r 0))(z:s[i]?=some (iter r m es clk vis))(hm:g m=some (.map es clk))(o:vO l es clk)(d:lV l es vis vl) :
  SO P N E ⟨dst,.next x false,ty,pos,af,gd⟩ f g s fun u g' s'=>g=g' ∧
   ((u = .tuple #[.bool false]∧s=s'∧vl.Perm l)∨∃ e p,e∈es.toList∧p∈l∧e.key=vi p.1∧e.val=p.2∧lV l es (vis++[e]) (vl++[p])∧u = .tuple #[.bool true,vi p.1,p.2]∧s'=s.set i (iter r m es clk<|vis++[e])):=by
 refine SO.mono (SO.next i y z hm o.2 d.ok) ?_;rintro u g' s' ⟨rfl,h⟩;refine⟨I,?_⟩
 rcases h with ⟨j,q,t⟩ | ⟨e,j,q,t,A⟩
 ·exact .inl ⟨j,q,d.all o t⟩
 ·have B:nD e∈l.map li:=by rw[← o.1]; exact zf4.2 ⟨e,j,I⟩
  obtain ⟨p,v,c⟩:=zf4.1 B;simp only[nD,li,Prod.mk.injEq] at c;refine .inr ⟨e,p,j,v,c.1.symm,c.2.symm,⟨⟨?_,?_⟩,?_⟩,by rw[t,c.1,c.2],A⟩
  ·intro a k
   rcases zf5.1 k with n | n
   ·exact d.ok.sub a n
   ·simp at n; rw[n]; exact j
  ·rw[zg7,List.nodup_append];refine⟨d.ok.nodup,by simp,fun a k b hb w=>?_⟩;simp at hb;rw[w,hb] at k;exact q k
  ·rw[zg7,zg7,d.eq];simp[nD,li,c.1,c.2]
theorem SQ.entryP {e:MapEntry}{p:Int×Value}(i:Nat)(a:ev f x=some (pp r 0))(b:s[i]?=some (iter r m es clk<|vis++[e]))(hm:g m=some (.map es clk))(c:vO l es clk)(d:e∈es.toList)(h:e.key=vi p.1)(j:e.val=p.2) :
  SQ P N E ⟨dst,.entry x,ty,pos,af,gd⟩ f g s (.tuple #[vi p.1,p.2]):=by
 have:=SQ.entry (P:=P) (N:=N) (E:=E) (f:=f) (s:=s) (dst:=dst) (ty:=ty) (pos:=pos) (af:=af) (gd:=gd) i a b hm c.2 d;rw[h,j] at this;exact this
end
def Gy (l:List (Int×Value))(q:Int→Bool):Prop:=∀ k,ex l k=if q k then some (vb true) else none
theorem Gy.get {l:List (Int×Value)}{q:Int→Bool}(h:Gy l q)(k:Int):(ex l k).getD (vb false)=vb (q k):=by
 rw[h k];cases q k <;> rfl
end Go.Sy
namespace Go.Sy
open Go
section
variable (P:Program)(N:Nat)(E:World)(ops:Array Oper)(Q:Exit→Act→World→Prop)(g0:PH)(s0:Own)(tail:List Nat)
def SX (L:Array Bool)(n:Nat)(f:Fr)(g:PH)(s:Own):Prop :=
 ∀ a w,Region.noSelect ops=true→mQ ops L→Ok N f a→At E g s w→(fz tail L=false→At E g0 s0 w)→kU P ops Q (At E g0 s0) tail n L a w
def SB (L:Array Bool)(n i:Nat)(f:Fr)(g:PH)(s:Own):Prop :=
 ∀ a w,Region.noSelect ops=true→mQ ops L→i∈Region.ready .any ops L→Ok N f a→At E g s w→(fz tail L=false→At E g0 s0 w) →
  wpOp P ops Q i (fun a' w'=>(fz tail (L.setIfInBounds i true)=false→At E g0 s0 w')∧kU P ops Q (At E g0 s0) tail n (L.setIfInBounds i true) a' w') a w
end
def wi (ops:Array Oper)(tail:List Nat)(L:Array Bool)(i:Nat):Bool:=(Region.ready .any ops L).contains i&&Region.free .any ops L i&&lX ops tail i && !tail.contains i && !fz tail L
def qr (ops:Array Oper)(tail:List Nat)(L:Array Bool)(i:Nat):Bool:=(Region.ready .any ops L).contains i&&Region.free .any ops L i && !tail.contains i
section
variable {P:Program}{N:Nat}{E:World}{ops:Array Oper}{Q:Exit→Act→World→Prop}{g0:PH}{s0:Own}{tail:List Nat}{f:Fr}{g:PH}{s s':Own}{L:Array Bool}{n:Nat}
theorem SC.drawX {id:Nat}(tail:List Nat)(hm:P.follows .mixedOrders=true)(b:Region.noSelect ops=true)(h:SX P N E ops Q g s tail (Array.replicate ops.size false) ops.size f g s):SC P N E (.region id ops true) Q f g s:=by
 intro a w d c;exact wp_region_any hm<|iV _ _ _ _ (S:=At E g s) (tail:=tail)<|h a { w with drawn:=w.drawn+1 } b (jp _) d (c.drew _<|Nat.le_succ _) (fun _=>c.drew _<|Nat.le_succ _)
theorem SX.nil (hr:Region.ready .any ops L=[])(h:ST N E Q .normal f g s):SX P N E ops Q g0 s0 tail L 0 f g s:=fun a w _ _ b c _=>⟨hr,h a w b c⟩
theorem SX.drop (c:s'.Sublist s)(h:SX P N E ops Q g0 s0 tail L n f g s'):SX P N E ops Q g0 s0 tail L n f g s:=fun a w d b e i hb=>h a w d b e (i.sublist c) hb
theorem SX.q [r:Quiet Q]{i d:Nat}{op:Op}{ty:TypeId}{pos:String}{af:Array Edge}{v:Value}(m:ops[i]?=some ⟨some d,op,ty,pos,af,none⟩)(b:wi ops tail L i=true)
  (t:SQ P N E ⟨some d,op,ty,pos,af,none⟩ f g0 s0 v) (hd:d<N)
  (h:SX P N E ops Q g0 s0 tail (L.setIfInBounds i true) n ((d,v)::f) g s):SX P N E ops Q g0 s0 tail L (n+1) f g s:=by
 intro a w o e j u hb;simp only[wi,zj5,Bool.not_eq_true'] at b;obtain ⟨⟨⟨⟨p,x⟩,y⟩,z⟩,k⟩:=b;refine j5 m (Region.noSelect_spec o) (fun c a w A=>r.out c _ _ w (cY a d v) A) (by simpa using z) (iE y) _ L a w e (Region.free_spec m x) (by simpa using p)
  (.inl ⟨Gd.none rfl a j,fun w' l=>t a w' j l⟩) k (hb k) ?_
 exact h _ w o (cg e<|by simpa using p) (j.put hd v) u (fun _=>hb k)
theorem SX.u [q:Quiet Q]{i d:Nat}{op:Op}{ty:TypeId}{pos:String}{af:Array Edge}{v:Value}(m:ops[i]?=some ⟨some d,op,ty,pos,af,none⟩)(b:qr ops tail L i=true)
  (r:SU P N ⟨some d,op,ty,pos,af,none⟩ f v) (hd:d<N)
  (h:SX P N E ops Q g0 s0 tail (L.setIfInBounds i true) n ((d,v)::f) g s):SX P N E ops Q g0 s0 tail L (n+1) f g s:=by
 intro a w o j k t hb;simp only[qr,zj5,Bool.not_eq_true'] at b;obtain ⟨⟨p,x⟩,y⟩:=b;have e:i ∉ tail:=by simpa using y
 refine gY m (Region.noSelect_spec o) (fun c a w z=>q.out c _ _ w (cY a d v) z) e _ L a w (Region.free_spec m x) (by simpa using p)
  (.inl ⟨Gd.none rfl a k,fun w'=>r a w' k⟩) hb ?_
 exact h _ w o (cg j<|by simpa using p) (k.put hd v) t (fun l=>hb<|by rwa [ek e] at l)
theorem SX.br1 (i:Nat)(hr:Region.ready .any ops L=[i])(h:SB P N E ops Q g0 s0 tail L n i f g s):SX P N E ops Q g0 s0 tail L (n+1) f g s:=by
 intro a w j c l m hb;refine⟨fun d=>(by rw[hr] at d; cases d),fun k e=>?_⟩;have b:=e;rw[hr] at b;simp only[zh9] at b;subst b;exact h a w j c e l m hb
theorem SX.br2 (i j:Nat)(hr:Region.ready .any ops L=[i,j])(h:SB P N E ops Q g0 s0 tail L n i f g s)(p:SB P N E ops Q g0 s0 tail L n j f g s):SX P N E ops Q g0 s0 tail L (n+1) f g s:=by
 intro a w e c l m hb;refine⟨fun o=>(by rw[hr] at o; cases o),fun k d=>?_⟩;have b:=d;rw[hr] at b;simp only[zf3,zh9,List.not_mem_nil,or_false] at b
 rcases b with rfl | rfl
 ·exact h a w e c d l m hb
 ·exact p a w e c d l m hb
theorem SX.br3 (i j m:Nat)(hr:Region.ready .any ops L=[i,j,m])(h:SB P N E ops Q g0 s0 tail L n i f g s)(q:SB P N E ops Q g0 s0 tail L n j f g s)(r:SB P N E ops Q g0 s0 tail L n m f g s):SX P N E ops Q g0 s0 tail L (n+1) f g s:=by
 intro a w e b l o hb;refine⟨fun p=>(by rw[hr] at p; cases p),fun k d=>?_⟩;have c:=d;rw[hr] at c;simp only[zf3,zh9,List.not_mem_nil,or_false] at c
 rcases c with rfl | rfl | rfl
 ·exact h a w e b d l o hb
 ·exact q a w e b d l o hb
 ·exact r a w e b d l o hb
theorem SB.step {i:Nat}{o:Oper}{K:Value→PH→Own→Prop}(r:ops[i]?=some o)(hg:Gd N ops f o true)(t:SO P N E o f g s K)
  (b:i∈tail∨∀ v g' s',K v g' s'→Le g0 g'∧s0.Sublist s')
  (h:∀ v g' s' a,K v g' s'→Ok N f a→∃ f',Ok N f' (a.put o.dst v)∧SX P N E ops Q g0 s0 tail (L.setIfInBounds i true) n f' g' s'):SB P N E ops Q g0 s0 tail L n i f g s:=by
 intro a w u e hr j x hb;unfold wpOp;simp only[r];rw[zg3<|hg a j];refine .inl (t a w j x Q _ fun v g' s' w' q c=>?_);have d:fz tail (L.setIfInBounds i true)=false→At E g0 s0 w':=by
  intro k
  rcases b with b | b
  ·exfalso;have l:i<L.size:=by
    rcases Nat.lt_or_ge i L.size with m | m
    ·exact m
    ·have:=(mem_ready.1 hr).1;simp[Array.getElem?_eq_none m] at this
   unfold fz at k;rw[zk7] at k;have:=k i b;simp[l] at this
  ·obtain ⟨y,z⟩:=b v g' s' q;exact (c.less y).sublist z
 obtain ⟨f',p,hn⟩:=h v g' s' a q j;exact⟨d,hn _ w' u (cg e hr) p c d⟩
theorem SB.o {i d:Nat}{op:Op}{ty:TypeId}{pos:String}{af:Array Edge}{K:Value→PH→Own→Prop}(a:ops[i]?=some ⟨some d,op,ty,pos,af,none⟩)
  (b:SO P N E ⟨some d,op,ty,pos,af,none⟩ f g s K) (hd:d<N) (c:i∈tail∨∀ v g' s',K v g' s'→Le g0 g'∧s0.Sublist s')
  (h:∀ v g' s',K v g' s'→SX P N E ops Q g0 s0 tail (L.setIfInBounds i true) n ((d,v)::f) g' s'):SB P N E ops Q g0 s0 tail L n i f g s :=
 SB.step a (Gd.none rfl) b c fun v g' s' _ e j=>⟨_,j.put hd v,h v g' s' e⟩
theorem SB.on {i:Nat}{op:Op}{ty:TypeId}{pos:String}{af:Array Edge}{K:Value→PH→Own→Prop}(a:ops[i]?=some ⟨none,op,ty,pos,af,none⟩)
  (b:SO P N E ⟨none,op,ty,pos,af,none⟩ f g s K) (c:i∈tail∨∀ v g' s',K v g' s'→Le g0 g'∧s0.Sublist s')
  (h:∀ v g' s',K v g' s'→SX P N E ops Q g0 s0 tail (L.setIfInBounds i true) n f g' s'):SB P N E ops Q g0 s0 tail L n i f g s :=
 SB.step a (Gd.none rfl) b c fun v g' s' _ d e=>⟨f,e,h v g' s' d⟩
theorem SB.k (i:Nat)(h:SB P N E ops Q g0 s0 tail L n i f g s):SB P N E ops Q g0 s0 tail L n i f g s:=h
theorem SX.k (n:Nat)(h:SX P N E ops Q g0 s0 tail L n f g s):SX P N E ops Q g0 s0 tail L n f g s:=h
end
end Go.Sy
namespace Go.Sy
open Go
theorem SP.to {P:Program}{N:Nat}{E:World}{ops:Array Oper}{Q:Exit→Act→World→Prop}{g0:PH}{s0:Own}{tail:List Nat}{plan:List (Nat×Nat)}{f:Fr}{g g':PH}{s s':Own}(h:∀ w,At E g s w→At E g' s' w)(c:SP P N E ops Q g0 s0 tail plan f g' s'):SP P N E ops Q g0 s0 tail plan f g s:=fun L a w d b e i j hb=>c L a w d b e i (h w j) hb
section
variable {P:Program}{N:Nat}{E:World}{f:Fr}{g:PH}{s s1:Own}{dst:Option Tmp}{ty:TypeId}{pos:String}{af:Array Edge}{gd:Option (Nat×Bool)}
theorem SU.sliceH {x b:Operand}{T e:TypeId}{k n c:Nat}{p:Option Addr}{h:Int}(g:P.underlying T=some (.slice e))(i:∀ w,(sizeOf e).run P w = .ok k w)(j:ev f x=some (.slice p n c))(l:ev f b=some (vi h))(m:0≤h)(o:h≤c) :
  SU P N ⟨dst,.slice T x none (some b) none,ty,pos,af,gd⟩ f (sliced p 0 h.toNat c k):=fun a w d=>by
 simp[execOp,d.ev j,d.ev l,Instr.sliceAt,Instr.slice,run_underlying g,Instr.sliceBounds,run_sliceBound,sliced,i w,m,o]
theorem SU.sliceL {x lo:Operand}{T e:TypeId}{k n c:Nat}{p:Option Addr}{l:Int}(d:P.underlying T=some (.slice e))(g:∀ w,(sizeOf e).run P w = .ok k w)(h:ev f x=some (.slice p n c))(hl:ev f lo=some (vi l))(i:0≤l)(j:l≤n) :
  SU P N ⟨dst,.slice T x (some lo) none none,ty,pos,af,gd⟩ f (sliced p l.toNat n c k):=fun a w b=>by
 simp[execOp,b.ev h,b.ev hl,Instr.sliceAt,Instr.slice,run_underlying d,Instr.sliceBounds,run_sliceBound,sliced,g w,i,j]
theorem SU.cap {x:Operand}{T e:TypeId}{p:Option Addr}{n c:Nat}(b:P.underlying T=some (.slice e))(d:ev f x=some (.slice p n c)) :
  SU P N ⟨dst,.call ⟨.builtin .cap,#[x],#[T]⟩,ty,pos,af,gd⟩ f (vi c):=fun a w g=>by
 simp[execOp,resolve,invoke,builtin,g.ev d,Builtin.cap_,run_underlying b,goInt]
theorem Sl.cut {k n c l m:Nat}{p:Option Addr}{xs:List Value}(h:Sl g k (.slice p n c) n xs)(hl:l≤m)(hm:m≤n):Sl g k (sliced p l m c k) (m - l) ((xs.drop<|l * k).take<|(m - l) * k):=by
 obtain ⟨p',c',s,⟨t,w⟩,u⟩:=h;injection s with e1 e2 e3
 subst e1; subst e3;refine⟨_,_,I,⟨?_,oM⟩,fun a=>?_⟩
 ·have:m * k≤n * k:=Nat.mul_le_mul_right k hm;have r:l * k+(m - l) * k=m * k:=by rw[← Nat.add_mul]; congr 1; omega
  rw[ze6,zf2,t];omega
 ·have i:xs≠[]:=fun e=>a (by rw[e]; simp);obtain ⟨b,o,cs,T,fr,rfl,r,v⟩:=u i;have q:¬ c=l:=fun e=>a (by
   have:m - l=0:=oM;rw[this]; simp)
  have d:(⟨b,o,none⟩:Addr).add (l * k)=⟨b,o+l * k,none⟩:=by unfold Addr.add; split <;> simp_all
  refine⟨b,o+l * k,cs,T,fr,by simp[q,d],r,fun j x f=>?_⟩;rw[zi3] at f;split at f
  ·rw[zi4] at f;rw[Nat.add_assoc];exact v _ x f
  ·cases f
theorem SlA.cut {α:Type}{k:Nat}{e:Enc α k}{c l m:Nat}{p:Option Addr}{xs:List α}(h:SlA e g (.slice p xs.length c) xs)(hl:l≤m)(hm:m≤xs.length):SlA e g (sliced p l m c k) ((xs.drop l).take<|m - l):=by
 have b:=Sl.cut h hl hm;have a:((xs.drop l).take<|m - l).length=m - l:=by rw[ze6,zf2]; omega
 unfold SlA;rw[a];have:((xs.drop l).take<|m - l).flatMap e.enc=((xs.flatMap e.enc).drop<|l * k).take ((m - l) * k):=by
  have key:∀ (ys:List α) (j:Nat),(ys.take j).flatMap e.enc=(ys.flatMap e.enc).take (j * k):=by
   intro ys;induction ys with
   | nil=>intro j; simp
   | cons y r ih =>
    intro j;cases j with
    | zero=>simp
    | succ j =>
     rw[List.take_succ_cons,zh7,zh7,ih,List.take_append,e.len,show (j+1) * k - k=j * k by rw[Nat.succ_mul]; omega,tL (l:=e.enc y) (by rw[e.len,Nat.succ_mul]; omega)]
  have key2:∀ (ys:List α) (j:Nat),(ys.drop j).flatMap e.enc=(ys.flatMap e.enc).drop (j * k):=by
   intro ys;induction ys with
   | nil=>intro j; simp
   | cons y r ih =>
    intro j;cases j with
    | zero=>simp
    | succ j =>
     rw[List.drop_succ_cons,zh7,ih,List.drop_append,e.len,show (j+1) * k - k=j * k by rw[Nat.succ_mul]; omega,List.drop_of_length_le (l:=e.enc y) (by rw[e.len,Nat.succ_mul]; omega)];simp
  rw[key,key2]
 rw[this];exact b
theorem SlA.cap {α:Type}{k:Nat}{e:Enc α k}{c n:Nat}{p:Option Addr}{xs:List α}(h:SlA e g (.slice p n c) xs):n=xs.length∧xs.length≤c:=by
 obtain ⟨p',c',a,⟨_,b⟩,_⟩:=h;injection a with e1 e2 e3
 exact⟨e2,oM⟩
theorem SlA.lit {α:Type}{k:Nat}{e:Enc α k}{b n:Nat}{cs:Array Value}{T:TypeId}{fr:Nat×Nat}{l:List α}(hb:g b=some (.cells cs T fr))(c:cs.toList=l.flatMap e.enc)(hn:l.length=n):SlA e g (.slice (some ⟨b,0,none⟩) n n) l:=by
 subst hn;refine⟨_,_,I,⟨by rw[e.length],Nat.le_refl _⟩,fun _=>⟨b,0,cs,T,fr,I,hb,fun j x a=>?_⟩⟩;rw[← c] at a;simpa using a
theorem At.litRow {α:Type}{k:Nat}{e:Enc α k}{b n:Nat}{cs:Array Value}{T:TypeId}{l:List α}{w:World}(h:At E g (pt b (.cells cs T (0,0))::s) w)(f:cs.toList=l.flatMap e.enc)(hn:l.length=n+1)(hm:n+1≤maxLen):At E g (rowA e T (.slice (some ⟨b,0,none⟩) (n+1)<|n+1) l::s) w:=by
 refine⟨h.os,h.tape,h.output,h.known,fun x a=>?_,fun x a q c=>?_,zk5.2 ⟨fun x a q c=>?_,(zk5.1 h.apart).2⟩⟩
 ·rcases zf3.1 a with rfl | a
  ·have i:=h.own (pt b<|.cells cs T (0,0)) (by simp);simp only[pt,Option.bind_some] at i;have d:cs.size=(n+1) * k:=by rw[← Array.length_toList,f,e.length,hn]
   have:=ei (w:=w) (T:=T) (k:=k) (n:=n+1) (b:=b) (cap:=n) (xs:=l.flatMap e.enc) (by rw[e.length,hn]) i (Nat.le_refl _) hm d (by rw[← f,tL (by rw[Array.length_toList,d]; exact Nat.le_refl _)]);simpa only[rowA,hn] using this
  ·exact h.own x (by simp[a])
 ·rcases zf3.1 a with rfl | a
  ·simp only[rowA,row,nA,zg9] at c;exact h.fresh (pt b<|.cells cs T (0,0)) (by simp) q (by simp[pt,c])
  ·exact h.fresh x (by simp[a]) q c
 ·simp only[rowA,row,nA,zg9] at c;exact (zk5.1 h.apart).1 x a q (by simp[pt,c])
theorem SO.app1A {α:Type}{k bytes b:Nat}{e:Enc α k}{x y:Operand}{t T:TypeId}{z v:Value}{l:List α}{cs:Array Value}(i:Nat)(a:α)(j:STy P t T k bytes z)(n:ev f x=some v)(o:ev f y=some (.slice (some ⟨b,0,none⟩) 1 1))
  (p:s=pt b (.cells cs T (0,0))::s1) (w:s1[i]?=some (rowA e T v l)) (d:cs.toList=e.enc a) (hb:(l.length+1) * bytes≤140737488355328) (c:l.length+1≤4611686018427387904) :
  SO P N E ⟨dst,.call ⟨.builtin .append,#[x,y],#[t,t]⟩,ty,pos,af,gd⟩ f g s fun v' g' s'=>g=g'∧s'=s1.set i (rowA e T v'<|l++[a]):=by
 have A:EH cs.toList:=by
  rw[d];have:∀ (m:List Value),(∀ u∈m,u.oneCell'=true)→EH m:=by
   intro m;induction m with
   | nil=>intro _; trivial
   | cons q r ih=>intro h; exact⟨h q (by simp),ih fun u B=>h u (by simp[B])⟩
  exact this _<|e.one a
 have:=SO.app1 (P:=P) (N:=N) (E:=E) (f:=f) (g:=g) (dst:=dst) (ty:=ty) (pos:=pos) (af:=af) (gd:=gd) i ((l++[a]).flatMap e.enc) (l++[a]).length j n o p w (by rw[← Array.length_toList,d,e.len]) A (by rw[d]; simp) (by simp) hb c;exact this
theorem SO.appA {α:Type}{k bytes:Nat}{e:Enc α k}{x y:Operand}{t T:TypeId}{z v u:Value}{l m:List α}(i:Nat)(c:STy P t T k bytes z)(d:ev f x=some v)(h:ev f y=some u)
  (j:s[i]?=some (rowA e T v l)) (b:SlA e g u m) (hb:(l.length+m.length) * bytes≤140737488355328) (a:l.length+m.length≤4611686018427387904) :
  SO P N E ⟨dst,.call ⟨.builtin .append,#[x,y],#[t,t]⟩,ty,pos,af,gd⟩ f g s fun v' g' s'=>g=g'∧s'=s.set i (rowA e T v'<|l++m):=by
 have:=SO.appendE (P:=P) (N:=N) (E:=E) (f:=f) (g:=g) (dst:=dst) (ty:=ty) (pos:=pos) (af:=af) (gd:=gd) i (l++m).length ((l++m).flatMap e.enc) c d j h (Sl.isSl b) (zc2 b) (SlA.rd b) (Sl.length b) (e.ones m) (by simp) (by simp) (by simpa using hb) (by simpa using a);exact this
end
theorem aP:type_of% @SO.app1A:=@SO.app1A
theorem aQ:type_of% @SO.appA:=@SO.appA
end Go.Sy
namespace Go.Sy
open Go
theorem tF {z:Array Value}{n:Nat}{u:Value}(hz:∀ v∈z.toList,v.oneCell'=true)(d:u∈(Builtin.zeroCells z n).toList):u.oneCell'=true:=by
 simp only[Builtin.zeroCells,Array.toList_map,zf4] at d;obtain ⟨i,e,rfl⟩:=d;have a:i<n * z.size:=by simpa using e
 have b:0<z.size:=by
  rcases Nat.eq_zero_or_pos z.size with h | h
  ·rw[h] at a; simp at a
  ·exact h
 have c:i % z.size<z.size:=Nat.mod_lt _ b;have:z[i % z.size]! = z[i % z.size]:=getElem!_pos z _ c;rw[this];exact hz _ (by simp)
section
variable {α:Type}{k:Nat}{e:Enc α k}{P:Program}{N:Nat}{E:World}{f:Fr}{g:PH}{s:Own}{dst:Option Tmp}{ty:TypeId}{pos:String}{af:Array Edge}{gd:Option (Nat×Bool)}
theorem Rd.from {b o n c m d:Nat}{xs:List Value}(h:Rd g s (.slice (some ⟨b,0,none⟩) n c) xs):Rd g s (.slice (some ⟨b,o,none⟩) m d) (xs.drop o):=fun E w f j x e=>by
 rw[zi4] at e;obtain ⟨a,n',c',i,l,k⟩:=h E w f (o+j) x e;injection i with e1
 injection e1 with e1
 subst e1;exact⟨_,_,_,I,I,by simpa [Nat.add_assoc] using k⟩
theorem Enc.drop {l:List α}(j:Nat):(l.drop j).flatMap e.enc=(l.flatMap e.enc).drop (j * k):=by
 induction l generalizing j with
 | nil=>simp
 | cons y r ih =>
  cases j with
  | zero=>simp
  | succ j =>
   rw[List.drop_succ_cons,zh7,ih,List.drop_append,e.len,show (j+1) * k - k=j * k by rw[Nat.succ_mul]; omega,List.drop_of_length_le (l:=e.enc y) (by rw[e.len,Nat.succ_mul]; omega)];simp
theorem Rd.fromA {b o n c m d:Nat}{l:List α}(h:Rd g s (.slice (some ⟨b,0,none⟩) n c) (l.flatMap e.enc)):Rd g s (.slice (some ⟨b,o * k,none⟩) m d) ((l.drop o).flatMap e.enc):=by
 rw[Enc.drop];exact h.from
theorem At.shrink {w:World}{T:TypeId}{p:Option Addr}{n c i m:Nat}{D J:List α}(h:At E g s w)(l:s[i]?=some (rowA e T (.slice p n c)<|D++J))(hm:m=D.length):At E g (s.set i<|rowA e T (.slice p m c) D) w:=by
 subst hm;obtain ⟨v,a⟩:=gX h l;have d:(rowA e T (.slice p D.length c) D).blk=(rowA e T (.slice p n c)<|D++J).blk:=by
  cases p <;> cases c <;> rfl
 refine h.turn l I ⟨I,Nat.le_refl _⟩ I (Nat.le_refl _) (fun _ _ _=>I) ?_ (fun b hb=>?_)
 ·rcases a with ⟨q,o,x⟩ | ⟨b,cap,j,o,hg,r,t,u,f⟩
  ·injection o with e1 e2 e3
   subst e3;have y:D=[]:=zf6 (by rw[ze7] at x; omega);subst y;exact⟨by simp,.inl ⟨p,I,I⟩⟩
  ·injection o with e1 e2 e3
   subst e1; subst e3;refine ei (by rw[e.length]) hg (by simp at r; omega) t u ?_;have z:j.toList.take (D.length * k)=(j.toList.take<|(D++J).length * k).take (D.length * k):=by
    rw[List.take_take,Nat.min_eq_left (Nat.mul_le_mul_right k<|by simp)]
   rw[z,f,List.flatMap_append,List.take_append_of_le_length (by rw[e.length]; exact Nat.le_refl _),tL (by rw[e.length]; exact Nat.le_refl _)]
 ·rw[d] at hb;exact⟨(h.fresh _ (zg4 l) b hb).2,.inl hb⟩
theorem SO.clearA {x:Operand}{t T:TypeId}{bytes b c m n d:Nat}{z:Value}{D:List α}(i:Nat)(C:STy P t T k bytes z)(hz:∀ v∈z.cells.toList,v.oneCell'=true)(O:ev f x=some (.slice (some ⟨b,D.length * k,none⟩) m d))(F:s[i]?=some (rowA e T (.slice (some ⟨b,0,none⟩) n<|c+1) D))(hn:n=D.length)(hm:D.length+m≤c+1) :
  SO P N E ⟨dst,.call ⟨.builtin .clear,#[x],#[t]⟩,ty,pos,af,gd⟩ f g s fun _ g' s'=>g=g'∧s=s' :=
 SO.of_run fun a w Q G=>by
  subst hn;obtain ⟨U,l⟩:=gX G F
  rcases l with ⟨q,H,W⟩ | ⟨b',cap,h,H,hg,r,J,u,o⟩
  ·injection H with e1 e2 e3
   cases e3
  ·injection H with e1 e2 e3
   injection e1 with e1
   injection e1 with e1
   injection e3 with e3
   subst e1; subst e3;have K:=G.fresh _ (zg4 F) b rfl;by_cases y:m=0
   ·subst y;refine⟨.tuple #[],w,g,s,?_,G,I,I⟩;simp[execOp,resolve,invoke,builtin,Q.ev O,Builtin.clear_,run_underlying C.und]
   ·have j:(Builtin.zeroCells z.cells m).toList.length=m * k:=by simp[size_zeroCells,C.zs]
    have p:=run_storeCells_at P b (D.length * k) T (Builtin.zeroCells z.cells m).toList 0 h w hg (by rw[j,u,Nat.add_zero,← Nat.add_mul]; exact Nat.mul_le_mul_right k hm) (fun v V=>tF hz V);simp only[Nat.add_zero] at p;refine⟨.tuple #[],w.setRow b (h.toList.take (D.length * k)++(Builtin.zeroCells z.cells m).toList++h.toList.drop (D.length * k+(Builtin.zeroCells z.cells m).toList.length)).toArray,g,s,?_,?_,I,I⟩
    ·cases m with
     | zero=>exact absurd rfl y
     | succ m=>simp[execOp,resolve,invoke,builtin,Q.ev O,Builtin.clear_,run_underlying C.und,C.zero w]; simp only[Array.length_toList] at p; rw[p]; simp
    ·have R:=G.turn (w':=w.setRow b (h.toList.take (D.length * k)++(Builtin.zeroCells z.cells m).toList++h.toList.drop (D.length * k+(Builtin.zeroCells z.cells m).toList.length)).toArray) (e':=rowA e T (.slice (some ⟨b,0,none⟩) D.length (c+1)) D) F rfl ⟨rfl,Nat.le_refl _⟩ rfl (by simp) (fun k' _ L=>setRow_other w b k' _ (fun e1=>L (by simp[rowA,row,nA,e1]))) (ei (by rw[e.length]) (setRow_heap w b h _ T _ hg) r J (by
       simp only[List.size_toArray,ze7,ze6,zf2,Array.length_toList];have:D.length * k+m * k≤(c+1) * k:=by rw[← Nat.add_mul]; exact Nat.mul_le_mul_right k hm
       simp only[Array.length_toList] at j;omega) (by
       have S:(h.toList.take<|D.length * k).length=D.length * k:=by
        have M:h.toList.length=(c+1) * k:=by rw[Array.length_toList]; exact u
        rw[ze6,M];exact Nat.min_eq_left<|Nat.mul_le_mul_right k r
       rw[zh1,List.take_append_of_le_length (by rw[S]; exact Nat.le_refl _),tL (by rw[S]; exact Nat.le_refl _),o])) (fun b' A=>by
       simp only[rowA,row,nA,zg9] at A;subst A;exact⟨by simpa using K.2,.inl I⟩)
     have B:s.set i (rowA e T (.slice (some ⟨b,0,none⟩) D.length<|c+1) D)=s:=by
      apply List.ext_getElem?;intro q;rw[List.getElem?_set];split
      ·rename_i e1; subst e1;split
       ·exact F.symm
       ·rename_i R; rw[List.getElem?_eq_none oM]
      ·rfl
     rwa [B] at R
end
end Go.Sy
namespace Go.Sy
open Go
section
variable {α:Type}{k:Nat}{e:Enc α k}{P:Program}{N:Nat}{E:World}{f:Fr}{g:PH}{s:Own}{dst:Option Tmp}{ty:TypeId}{pos:String}{af:Array Edge}{gd:Option (Nat×Bool)}
theorem SO.appendZ {x y:Operand}{t tn T:TypeId}{kn:IntKind}{bytes n:Nat}{z:Value}(e:Enc α k)(m:STy P t T k bytes z)(o:P.underlying tn=some (.int kn))(F:ev f x=some (.slice none 0 0))(G:ev f y=some (vi n))(H:0<n)(hb:n * bytes≤140737488355328)(A:n≤4611686018427387904) :
  SO P N E ⟨dst,.call ⟨.builtin .append,#[x,y],#[t,tn]⟩,ty,pos,af,gd⟩ f g s fun v' g' s'=>∃ b cap,v' = .slice (some ⟨b,0,none⟩) n (cap+1)∧n≤cap+1∧g=g'∧s'=rowA e T (.slice (some ⟨b,0,none⟩) 0<|cap+1) []::s :=
 SO.of_run fun a w B J=>by
  obtain ⟨ti,p,r,u,v⟩:=m.info;have C:=Lib.run_append_nil_zeros (P:=P) w t tn ty T ti z .i64 kn m.und o p r n H (by rw[u]; exact m.pos) oM (by rw[v]; omega);have d:=grownCap_ge w n 0 T;have h:=grownCap_le_maxLen w n 0 T (by unfold maxLen; omega);obtain ⟨cap,j⟩:∃ cap,grownCap w n 0 T=cap+1:=⟨grownCap w n 0 T - 1,oM⟩;rw[j] at C d h;have K:=J.emptyRow T k (none:Option Addr);have l:(execOp a.eval ⟨dst,.call ⟨.builtin .append,#[x,y],#[t,tn]⟩,ty,pos,af,gd⟩).run P w = .ok (.value<|.slice (some ⟨w.heap.size,0,none⟩) n<|cap+1) (w.drew.alloc<|.cells (Builtin.zeroCells z.cells n++Builtin.zeroCells z.cells (cap+1 - n)) T):=by
   simp[execOp,resolve,invoke,builtin,B.ev F,B.ev G,C]
  refine⟨_,_,g,_,l,?_,_,_,I,d,I,I⟩;have hz:(Builtin.zeroCells z.cells n++Builtin.zeroCells z.cells (cap+1 - n)).size=(cap+1) * k:=by
   rw[Array.size_append,size_zeroCells,size_zeroCells,m.zs,← Nat.add_mul];congr 1;omega
  have c:(w.drew.alloc<|.cells (Builtin.zeroCells z.cells n++Builtin.zeroCells z.cells (cap+1 - n)) T).heap[w.heap.size]?=some (.cells (Builtin.zeroCells z.cells n++Builtin.zeroCells z.cells (cap+1 - n)) T (0,0)):=heap_alloc_new w.drew _;have L:=K.turn (i:=0) (w':=w.drew.alloc<|.cells (Builtin.zeroCells z.cells n++Builtin.zeroCells z.cells (cap+1 - n)) T) (e':=rowA e T (.slice (some ⟨w.heap.size,0,none⟩) 0<|cap+1) []) rfl rfl ⟨rfl,by exact Nat.le_add_right _ _⟩ rfl (by simp) (fun q D _=>by (first | exact heap_alloc_old w.drew _ q D | exact heap_alloc_old w.drew _ D))
   (ei (by simp) c (zf8 _) h hz (by simp)) (fun b hb=>by
    simp only[rowA,row,nA,zg9] at hb;subst hb;exact⟨(Array.getElem?_eq_some_iff.1 c).1,.inr (Nat.le_refl _)⟩)
  simpa using L
end
section
variable {α:Type}{k:Nat}{e:Enc α k}{P:Program}{N:Nat}{E:World}{f:Fr}{g:PH}{s:Own}{dst:Option Tmp}{ty:TypeId}{pos:String}{af:Array Edge}{gd:Option (Nat×Bool)}
theorem Cb {a:α}{zs:Array Value}(n:Nat)(hz:zs.toList=e.enc a):(madeCells zs<|n * k).toList=(List.replicate n a).flatMap e.enc:=by
 have c:zs.size=k:=by rw[← Array.length_toList,hz,e.len]
 apply List.ext_getElem?;intro q;by_cases f:q<n * k
 ·have g:0<k:=e.pos;have m:q % k<k:=Nat.mod_lt _ g;have d:q / k<n:=(Nat.div_lt_iff_lt_mul g).2 f;have b:q % k<zs.size:=oM;have o:(e.enc a)[q % k]?=some zs[q % k]:=by rw[← hz]; simp[b]
  have h:=e.get (l:=List.replicate n a) (i:=q / k) (j:=q % k) (a:=a) (by simp[d]) o;rw[show q / k * k+q % k=q by rw[Nat.mul_comm]; exact Nat.div_add_mod q k] at h;rw[h];simp[madeCells,f,c];rw[getElem!_pos zs _ b]
 ·rw[List.getElem?_eq_none (by simp[madeCells]; omega),List.getElem?_eq_none (by rw[e.length]; simp; omega)]
theorem SO.makeA {x y:Operand}{t T:TypeId}{bytes n:Nat}{z:Value}(e:Enc α k)(a:α)(r:STy P t T k bytes z)(hz:z.cells.toList=e.enc a)(C:ev f x=some (vi n))(D:ev f y=some (vi n))(hb:n * bytes≤140737488355328)(u:n≤4611686018427387904) :
  SO P N E ⟨dst,.makeSlice t x y,ty,pos,af,gd⟩ f g s fun v' g' s'=>∃ b,v' = .slice (some ⟨b,0,none⟩) n n∧g=g'∧s'=rowA e T (.slice (some ⟨b,0,none⟩) n n) (List.replicate n a)::s :=
 SO.of_run fun ac w v A=>by
  obtain ⟨ti,d,h,i,j⟩:=r.info;have l:(ti.bytes:Int) * ((n:Nat):Int)≤281474976710656:=by
   rw[j,← Int.natCast_mul,Nat.mul_comm]; omega
  have m:=run_make (P:=P) w t T ti z r.und d h .i64 .i64 n n oM (Int.le_refl _) l oM;simp only[Int.toNat_natCast] at m;rw[i] at m;have c:(execOp ac.eval ⟨dst,.makeSlice t x y,ty,pos,af,gd⟩).run P w = .ok (.value<|.slice (some ⟨w.heap.size,0,none⟩) n n) (w.alloc<|.cells (madeCells z.cells<|n * k) T):=by
   simp[execOp,v.ev C,v.ev D,m]
  have B:(w.alloc<|.cells (madeCells z.cells<|n * k) T).heap[w.heap.size]?=some (.cells (madeCells z.cells<|n * k) T (0,0)):=heap_alloc_new w _;refine⟨_,_,g,_,c,?_,_,I,I,I⟩;have p:=Cb (e:=e) (a:=a) n hz;cases n with
  | zero =>
   have q:=A.emptyRow T k<|some ⟨w.heap.size,0,none⟩;have F:=q.alloc (e:=pt w.heap.size<|.cells (madeCells z.cells<|0 * k) T (0,0)) (o:=.cells (madeCells z.cells<|0 * k) T (0,0)) rfl rfl;exact F.sublist<|zj3 _ _
  | succ n =>
   have q:=A.alloc (e:=pt w.heap.size<|.cells (madeCells z.cells<|(n+1) * k) T (0,0)) (o:=.cells (madeCells z.cells<|(n+1) * k) T (0,0)) rfl rfl;exact q.litRow p (by simp) (by unfold maxLen; omega)
end
theorem SP.freeze {P:Program}{N:Nat}{E:World}{ops:Array Oper}{Q:Exit→Act→World→Prop}{g0:PH}{s0:Own}{tail:List Nat}{plan:List (Nat×Nat)}{f:Fr}{g:PH}{s:Own}{b:Nat}{o:Obj}(h:∀ g',Le g g'→g' b=some o→SP P N E ops Q g0 s0 tail plan f g' s):SP P N E ops Q g0 s0 tail plan f g (pt b o::s):=fun L a w e c i j d hb=>by
 have k:w.heap[b]?=some o:=by have:=d.own (pt b o) (by simp); simpa [pt] using this
 obtain ⟨l,m⟩:=d.freeze (b:=b) rfl k;exact h _ m (fc _ _ _) L a w e c i j l hb
theorem SP.freezeRow {P:Program}{N:Nat}{E:World}{ops:Array Oper}{Q:Exit→Act→World→Prop}{g0:PH}{s0:Own}{tail:List Nat}{plan:List (Nat×Nat)}{f:Fr}{g:PH}{s:Own}{T:TypeId}{k n:Nat}{v:Value}{xs:List Value}(h:∀ g',Le g g'→Sl g' k v n xs→SP P N E ops Q g0 s0 tail plan f g' s):SP P N E ops Q g0 s0 tail plan f g (row T k v n xs::s):=fun L a w c b d e i hb=>by
 obtain ⟨g',j,l,m⟩:=i.freezeRow;exact h g' j m L a w c b d e l hb
theorem mK:type_of% @SO.makeA:=@SO.makeA
theorem zd7:type_of% @SX.br1:=@SX.br1
theorem zd8:type_of% @SX.br2:=@SX.br2
end Go.Sy
