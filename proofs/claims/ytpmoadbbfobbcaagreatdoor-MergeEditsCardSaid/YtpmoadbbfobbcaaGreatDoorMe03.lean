/- 3 -/
import Derived.Test.YtpmoadbbfobbcaaGreatDoorMe02
import Derived.Laws.Slices
import Derived.Laws.MakeOwn
import Derived.Laws.CopyRow
import Derived.Lib.AppendZeros
set_option linter.unusedSimpArgs false
set_option linter.unusedVariables false
set_option linter.defProp false
namespace Go.Proofs.YtpmoadbbfobbcaaGreatDoor
open _root_.Go.Proofs.Tryz _root_.Go.Proofs.YtpmoadbbfobbcaaGreatDoor.Tryz
open Go Go.Sy Go.Pl Go.Proofs
set_option maxRecDepth 100000
section
variable {α:Type}{k:Nat}{e:Enc α k}{T TS f1 f2 f3 f4 f5 f6:Nat}(w:SoI α k e T TS f1 f2 f3 f4 f5 f6)
include w
set_option maxHeartbeats 1000000 in
theorem Gf (E:World)(g:PH)(s:Own)(v o:Value)(key:α→Int)(hc:nS E o e key g)(l:List α)(hn:l.length<1152921504606846976)(n:Int)(a9:n=l.length) :
  Ctr Tryz.prog E f5 #[v,vi n,o] g (rowA e T v l::s) fun _ g' s'=>g=g'∧s'=rowA e T v (sortBy key l)::s:=by
 have uS:=w.uS;have zE:=w.zE;have aE:=w.aE;have kf3:=w.kf3;have kf4:=w.kf4;have w2:=w;cases w2
 all_goals
  first | refine zb2 (args:=[v,vi n,o]) func84 rfl ntmps84 (bE rfl) ?_ | refine zb2 (args:=[v,vi n,o]) func186 rfl ntmps186 (bE rfl) ?_
  refine rZ<|aT I<|sW I<|lA I<|aT I<|lu (ι:=type_of% l×type_of% l) (fun i=>[(0,v),(1,vi n),(2,o),(6,vi 20),(7,vi i.1.length)]) (fun _=>g) (fun i=>rowA w.en w.ty v (i.1++i.2)::s) (fun i=>FC key 20 i.1∧aN key l (i.1++i.2)∧i.2.length<20) ?_ ?_
  ·refine bK<|oP (ι:=type_of% l×type_of% l) (fun i=>[(0,v),(1,vi n),(2,o),(6,vi 20),(7,vi i.1.length),(8,vi<|i.1.length+20)]) (fun _=>g) (fun i=>rowA w.en w.ty v (i.1++i.2)::s) (fun i=>FC key 20 i.1∧aN key l (i.1++i.2)) (fun i=>i.2.length) ([],l) sB I I ⟨FC.nil,aN.refl _⟩ ?_;rintro ⟨d,r⟩ ⟨hd,a⟩;dsimp only at hd a ⊢;have t:d.length+r.length=l.length:=by have:=a.1;simpa using this
   refine sQ<|sW I<|lM I<|lU (JG I I)<|tZ<|iP I (fun G=>?_) (fun G=>?_)
   ·obtain ⟨c,j,hr,k⟩:∃ c j,r=c++j∧c.length=20:=⟨r.take 20,r.drop 20,by simp,lN⟩;have b0:r.length=20+j.length:=by rw[hr];simp[k]
    have e1:d++r=d++c++j:=by rw[hr];simp
    rw[e1] at a ⊢;refine kP<|tN<|bK<|sW I<|lM I<|lM I<|lM I<|lW (bt kf3 I<|su w E g s v o key hc d c j lN _ _ lN lN) ?_;rintro _ _ _ ⟨rfl,c',M,X,rfl⟩;refine tZ<|sW I<|aT I<|rG<|lM I<|lM I<|yD I<|lA I<|cp<|bN ?_;have N:c'.length=20:=by have:=M.1;omega
    exact ct (d++c',j) ⟨I,I,I,I,bP lN,bP lN,trivial⟩ I I ⟨hd.snoc N X,a.trans<|aN.append (aN.append (aN.refl _) M)<|aN.refl _⟩ lN
   ·exact xI<|tX<|tX<|bX<|za9 (d,r) sB I I ⟨hd,a,lN⟩
  rintro ⟨d,r⟩ ⟨hd,a,C⟩;dsimp only at hd a C ⊢;have t:d.length+r.length=l.length:=by have:=a.1;simpa using this
  have e1:d++r=d++r++[]:=by simp
  rw[e1];refine sW I<|lM I<|lM I<|lM I<|lW (bt kf3 I<|su w E g s v o key hc d r [] lN _ _ lN lN) ?_;rintro _ _ _ ⟨rfl,j,q,y,rfl⟩;refine tZ<|bK<|oP (ι:=Nat×type_of% l×type_of% l) (fun i=>[(0,v),(1,vi n),(2,o),(6,vi i.1)]) (fun _=>g) (fun i=>rowA w.en w.ty v (i.2.1++i.2.2)::s) (fun i=>FC key i.1 i.2.1∧aN key l (i.2.1++i.2.2)∧i.2.2.length<i.1∧Srt key i.2.2) (fun i=>l.length - i.1) (20,d,j) sB I dO ⟨hd,a.trans<|aN.append (aN.refl _) q,by have:=q.1;(first | with_reducible rfl | ((try dsimp only);(try simp only[IS,List.length_cons,List.length_nil,List.length_singleton,List.length_take,List.length_drop])<;>omega)),y⟩ ?_;clear q y j e1 t C a hd r d;rintro ⟨B,d,r⟩ ⟨hd,a,Y,z⟩;dsimp only at hd a Y z ⊢;have t:d.length+r.length=l.length:=by have:=a.1;simpa using this
  refine sQ<|sW I<|lM I<|yL I<|tZ<|iP I (fun Z=>?_) (fun Z=>?_)
  ·refine kP<|tN<|bK<|sW I<|lU (Iz I I oM)<|lA I<|aT I<|lu (ι:=type_of% l×type_of% l) (fun i=>[(0,v),(1,vi n),(2,o),(6,vi B),(7,vi i.1.length)]) (fun _=>g) (fun i=>rowA w.en w.ty v (i.1++i.2++r)::s) (fun i=>FC key (2 * B) i.1∧FC key B i.2∧aN key l (i.1++i.2++r)∧i.2.length+r.length<2 * B) ?_ ?_
   ·refine bK<|oP (ι:=type_of% l×type_of% l) (fun i=>[(0,v),(1,vi n),(2,o),(6,vi B),(7,vi i.1.length),(8,vi<|i.1.length+2 * B)]) (fun _=>g) (fun i=>rowA w.en w.ty v (i.1++i.2++r)::s) (fun i=>FC key (2 * B) i.1∧FC key B i.2∧aN key l (i.1++i.2++r)) (fun i=>i.2.length) ([],d) ⟨I,I,I,I,I,bP lN,trivial⟩ I dO ⟨FC.nil,hd,by simpa using a⟩ ?_;rintro ⟨e,d1⟩ ⟨L,m,b⟩;dsimp only at L m b ⊢;have H:e.length+d1.length+r.length=l.length:=by have:=b.1;simp at this;omega
    refine sQ<|sW I<|lM I<|lU (JG I I)<|tZ<|iP I (fun G=>?_) (fun G=>?_)
    ·obtain ⟨c1,d2,f,O,P,u⟩:=m.front oM;have p:d1.length=B+d2.length:=by rw[f];simp[O]
     obtain ⟨c2,d3,D,Q,R,a0⟩:=u.front oM;have a3:d2.length=B+d3.length:=by rw[D];simp[Q]
     have e1:e++d1++r=e++c1++c2++(d3++r):=by rw[f,D];simp
     rw[e1] at b ⊢;refine kP<|tN<|bK<|sW I<|lM I<|lM I<|lM I<|yD I<|lM I<|lM I<|lW (bt kf4 I<|vk w E g v o key hc _ s e c1 c2 (d3++r) I P R oM oM lN _ _ _ lN lN lN) ?_;rintro _ _ _ ⟨rfl,W,A,J,rfl⟩;refine tZ<|sW I<|aT I<|rG<|lM I<|lM I<|lU (Iz I I oM)<|yD I<|lA I<|cp<|bN ?_;have a1:W.length=2 * B:=by have:=A.1;simp at this;omega
     exact ct (e++W,d3) ⟨I,I,I,I,bP lN,bP lN,trivial⟩ I dO ⟨L.snoc a1 J,a0,b.trans (by
      have:=aN.append (aN.append (aN.refl (key:=key) e) A)<|aN.refl (key:=key)<|d3++r;simpa using this)⟩ lN
    ·exact xI<|tX<|tX<|bX<|za9 (e,d1) sB I I ⟨L,m,b,lN⟩
   rintro ⟨e,d1⟩ ⟨L,m,b,S⟩;dsimp only at L m b S ⊢;have H:e.length+d1.length+r.length=l.length:=by have:=b.1;simp at this;omega
   refine lu (ι:=type_of% l) (fun _=>[(0,v),(1,vi n),(2,o),(6,vi B)]) (fun _=>g) (fun j=>rowA w.en w.ty v (e++j)::s) (fun j=>aN key (d1++r) j∧Srt key j) ?_ ?_
   ·refine sW I<|lM I<|yD I<|aT I<|sW I<|lM I<|yL I<|tZ<|iP I (fun a2=>?_) (fun a2=>?_)
    ·obtain ⟨c,d2,f,k,x,u⟩:=m.front oM;have p:d1.length=B+d2.length:=by rw[f];simp[k]
     have F:d2=[]:=by
      cases u with
      | nil=>rfl
      | cons h3 h4 h5=>simp[h3] at p;omega
     have a4:d2.length=0:=by rw[F];rfl
     have U:d1=c:=by rw[f,F];simp
     have e1:e++d1++r=e++c++r++[]:=by rw[U];simp
     rw[e1];refine rG<|lM I<|lM I<|lM I<|lM I<|lM I<|lW (bt kf4 I<|vk w E g v o key hc _ s e c r [] I x z oM oM lN _ _ _ lN lN lN) ?_;rintro _ _ _ ⟨rfl,W,A,J,rfl⟩;exact cp<|za9 W sB I dO ⟨by rw[U];exact A,J⟩
    ·refine kP ?_;exact za9 (d1++r) sB I dO ⟨aN.refl _,by
      rcases Nat.eq_zero_or_pos d1.length with K | K
      ·rw[zf5 K];simpa using z
      ·obtain ⟨c,d2,f,k,x,u⟩:=m.front K;have p:d1.length=B+d2.length:=by rw[f];simp[k]
       have h1:d2=[]:=zf5 oM;have h2:r=[]:=zf5 oM;rw[f,h1,h2];simpa using x⟩
   rintro j ⟨q,y⟩;try dsimp only
   have a5:j.length=d1.length+r.length:=by have:=q.1;simpa using this
   refine rG<|lM I<|lU (Iz I I oM)<|lA I<|cp<|bN ?_;exact ct (2 * B,e,j) ⟨I,I,I,bP lN,trivial⟩ I I ⟨L,b.trans (by
    have:=aN.append (aN.refl (key:=key) e) q;simpa using this),lN,y⟩ lN
  ·refine xI<|tX<|tX<|bX ?_;have V:Srt key<|d++r:=by
    rcases Nat.eq_zero_or_pos d.length with K | K
    ·rw[zf5 K];simpa using z
    ·obtain ⟨c,d2,f,k,x,u⟩:=hd.front K;have p:d.length=B+d2.length:=by rw[f];simp[k]
     have h1:d2=[]:=zf5 oM;have h2:r=[]:=zf5 oM;rw[f,h1,h2];simpa using x
   exact Iv (.inr I) (by exact results84) ⟨I,by rw[bl V a]⟩
theorem qu (E:World)(g:PH)(s:Own)(v a:Value)(key:α→Int)(hc:nS E a e key g)(l:List α)(hn:l.length<1152921504606846976) :
  Ctr Tryz.prog E f6 #[v,a] g (rowA e T v l::s) fun _ g' s'=>g=g'∧s'=rowA e T v (sortBy key l)::s:=by
 have uS:=w.uS;have zE:=w.zE;have aE:=w.aE;have kf5:=w.kf5;have w2:=w;cases w2
 all_goals
  refine Ji fun ⟨d,b⟩=>?_;obtain ⟨p,c,rfl⟩:=ag (i:=0) b rfl;clear b d
  first | refine zb2 (args:=[.slice p l.length c,a]) func28 rfl ntmps28 (bE rfl) ?_ | refine zb2 (args:=[.slice p l.length c,a]) func131 rfl ntmps131 (bE rfl) ?_
  refine rG<|lM I<|lM I<|lU (eN uS I)<|lM I<|lW (bt kf5 I<|Gf w E g s _ a key hc l hn _ I) ?_;rintro _ _ _ ⟨rfl,rfl⟩;exact cp<|Iv (.inr I) (by exact results28) ⟨I,I⟩
end
variable (E:World)(g:PH)(s:Own)
theorem qv (v a:Value)(key:Rc→Int)(hc:nS E a encCell key g)(l:List Rc)(hn:l.length<1152921504606846976) :
  Ctr Tryz.prog E 28 #[v,a] g (rowA encCell 61 v l::s) (fun _ g' s'=>g=g'∧s'=rowA encCell 61 v (sortBy key l)::s) :=
 qu .c E g s v a key hc l hn
def Cf (E:World)(kv:Value)(key:Rc→Int)(g:PH):Prop :=
 ∀ g' s a,Le g g'→cQ Tryz.prog E kv [.agg (encCell.enc a).toArray] g' s (fun r g'' s''=>r=vi (key a)∧g'=g''∧s=s'')
theorem Hu (E:World)(g:PH)(b:Nat)(d:Value)(key:Rc→Int)(e:Cf E d key g)(hb:g b=some (bY #[d] 121)):nS E (.func (.func 129) #[] #[pp b 0]) encCell key g:=by
 intro g s x y a;refine cQ.mk (cap:=[pp b 0]) call129 ?_;have c:=a _ _ hb;refine zb2 (args:=[.agg (encCell.enc x).toArray,.agg (encCell.enc y).toArray,pp b 0]) func129 I ntmps129 (bE I)<|rZ (bW (bO I) fun f=>?_);refine bW (bO I) fun i=>aT I<|sQ<|dW [] [(0,1),(1,1),(3,1),(4,1),(2,0),(5,0),(6,0),(7,2)] ze4 kR<|gB I (qL isAgg121 I<|ao.known c I)<|gB I (qV 1 dT ar I I I)<|gB I (qL isAgg121 I<|ao.known c I)<|gB I (qV 0 dT ar I I I)<|mf I (DO I I<|e _ _ x a) dC (.inr iR) ?_;rintro _ _ _ ⟨rfl,rfl,rfl⟩;refine mf I (DO I I<|e _ _ y a) dC (.inr iR) ?_;rintro _ _ _ ⟨rfl,rfl,rfl⟩;refine mf I (bt call30 I<|dV E g _ (key x)<|key y) dC (.inr iR) ?_;rintro _ _ _ ⟨rfl,rfl,rfl⟩;exact pU I (aS I)<|du<|tN<|rE<|dR (s':=s) uR<|za8 (.inl I) results129 I ⟨I,I,I⟩
theorem Hx (v:Value)(l:List Rc)(a:SlA encCell g v l)(hn:l.length<1099511627776) :
  Ctr Tryz.prog E 128 #[v] g s fun r g' s'=>g=g'∧s'=rowA encCell 61 r l::s:=by
 obtain ⟨p,c,rfl⟩:=za4 a;refine zb2 (args:=[.slice p l.length c]) func128 I ntmps128 (bE I)<|rZ<|aT I<|sQ<|sW I<|lU (Jz aB I I)<|tZ<|iQ I (fun hp=>?_) (fun hp=>?_)
 ·refine rZ<|aT I<|rE<|tR ?_;have hl:l=[]:=by
   cases l with
   | nil=>rfl
   | cons x r =>
    have hb:=za6 a dO;cases p with
    | none=>simp[based] at hb
    | some q=>simp at hp
  subst hl;exact I7 61 3<|za8 (.inl I) results128 I ⟨I,I⟩
 ·refine kP<|tN<|rZ<|lW (bS sty27 I I I (ab trivial) dC) ?_;rintro _ _ _ ⟨b,rfl,rfl,rfl⟩;refine Is 61 3 (some ⟨b,0,none⟩)<|lM I<|lW (IU (m:=l.length) 0 l.length (l.flatMap encCell.enc) sty27 I I I I I (Sl.rd a) (encCell.length l) (encCell.ones l) oM dO oM oM) ?_;rintro r7 _ _ ⟨rfl,rfl⟩;exact aT I<|rE<|dR (s':=rowA encCell 61 r7 l::s) (.cons_cons _<|.cons _<|.refl _)<|za8 (.inl I) results128 I ⟨I,I⟩
theorem Ck (v:Value)(c:FuncId)(d:Array Value)(key:Rc→Int)(e:Cf E (.func (.func c) #[] d) key g)(l:List Rc)(f:SlA encCell g v l)(hn:l.length<1099511627776) :
  Ctr Tryz.prog E 77 #[v,.func (.func c) #[] d] g s fun r g' s'=>g=g'∧s'=rowA encCell 61 r (sortBy key l)::s:=by
 refine zb2 (args:=[v,.func (.func c) #[] d]) func77 I ntmps77 (bE I)<|rZ (bW (bO I) fun i=>?_);refine zb5 fun g1 b hb=>?_;refine aT I<|sW I<|lW (bt call128 I<|Hx E g1 s v l (f.mono b) hn) ?_;rintro r7 _ _ ⟨rfl,rfl⟩;refine aT I<|sW I<|lU (Ih I)<|lW (bt call28 I<|qv E g1 s r7 _ key (Hu E g1 i _ key (fun g' s a h=>e g' s a<|b.trans h) hb) l oM) ?_;rintro _ _ _ ⟨rfl,rfl⟩;exact tZ<|sW I<|aT I<|rE<|Iu b<|za8 (.inl I) results77 I ⟨I,I⟩
theorem xX (v a:Value)(key:ak→Int)(hc:nS E a encSide key g)(l:List ak)(hn:l.length<1152921504606846976) :
  Ctr Tryz.prog E 131 #[v,a] g (rowA encSide 87 v l::s) (fun _ g' s'=>g=g'∧s'=rowA encSide 87 v (sortBy key l)::s) :=
 qu .s E g s v a key hc l hn
def Ce (E:World)(kv:Value)(key:ak→Int)(g:PH):Prop :=
 ∀ g' s a,Le g g'→cQ Tryz.prog E kv [.agg (encSide.enc a).toArray] g' s (fun r g'' s''=>r=vi (key a)∧g'=g''∧s=s'')
theorem Ht (E:World)(g:PH)(b:Nat)(d:Value)(key:ak→Int)(e:Ce E d key g)(hb:g b=some (bY #[d] 123)):nS E (.func (.func 132) #[] #[pp b 0]) encSide key g:=by
 intro g s x y a;refine cQ.mk (cap:=[pp b 0]) call132 ?_;have c:=a _ _ hb;refine zb2 (args:=[.agg (encSide.enc x).toArray,.agg (encSide.enc y).toArray,pp b 0]) func132 I ntmps132 (bE I)<|rZ (bW (bO I) fun f=>?_);refine bW (bO I) fun i=>aT I<|sQ<|dW [] [(0,1),(1,1),(3,1),(4,1),(2,0),(5,0),(6,0),(7,2)] ze4 kR<|gB I (qL isAgg123 I<|ao.known c I)<|gB I (qV 1 iV aV I I I)<|gB I (qL isAgg123 I<|ao.known c I)<|gB I (qV 0 iV aV I I I)<|mf I (DO I I<|e _ _ x a) dC (.inr iR) ?_;rintro _ _ _ ⟨rfl,rfl,rfl⟩;refine mf I (DO I I<|e _ _ y a) dC (.inr iR) ?_;rintro _ _ _ ⟨rfl,rfl,rfl⟩;refine mf I (bt call30 I<|dV E g _ (key x)<|key y) dC (.inr iR) ?_;rintro _ _ _ ⟨rfl,rfl,rfl⟩;exact pU I (aS I)<|du<|tN<|rE<|dR (s':=s) uR<|za8 (.inl I) results132 I ⟨I,I,I⟩
theorem Hv (v:Value)(l:List ak)(a:SlA encSide g v l)(hn:l.length<1099511627776) :
  Ctr Tryz.prog E 130 #[v] g s fun r g' s'=>g=g'∧s'=rowA encSide 87 r l::s:=by
 obtain ⟨p,c,rfl⟩:=za4 a;refine zb2 (args:=[.slice p l.length c]) func130 I ntmps130 (bE I)<|rZ<|aT I<|sQ<|sW I<|lU (Jz aW I I)<|tZ<|iQ I (fun hp=>?_) (fun hp=>?_)
 ·refine rZ<|aT I<|rE<|tR ?_;have hl:l=[]:=by
   cases l with
   | nil=>rfl
   | cons x r =>
    have hb:=za6 a dO;cases p with
    | none=>simp[based] at hb
    | some q=>simp at hp
  subst hl;exact I7 87 2<|za8 (.inl I) results130 I ⟨I,I⟩
 ·refine kP<|tN<|rZ<|lW (bS sty45 I I I (ab trivial) dC) ?_;rintro _ _ _ ⟨b,rfl,rfl,rfl⟩;refine Is 87 2 (some ⟨b,0,none⟩)<|lM I<|lW (IU (m:=l.length) 0 l.length (l.flatMap encSide.enc) sty45 I I I I I (Sl.rd a) (encSide.length l) (encSide.ones l) oM dO oM oM) ?_;rintro r7 _ _ ⟨rfl,rfl⟩;exact aT I<|rE<|dR (s':=rowA encSide 87 r7 l::s) (.cons_cons _<|.cons _<|.refl _)<|za8 (.inl I) results130 I ⟨I,I⟩
theorem Cj (v:Value)(c:FuncId)(d:Array Value)(key:ak→Int)(e:Ce E (.func (.func c) #[] d) key g)(l:List ak)(f:SlA encSide g v l)(hn:l.length<1099511627776) :
  Ctr Tryz.prog E 79 #[v,.func (.func c) #[] d] g s fun r g' s'=>g=g'∧s'=rowA encSide 87 r (sortBy key l)::s:=by
 refine zb2 (args:=[v,.func (.func c) #[] d]) func79 I ntmps79 (bE I)<|rZ (bW (bO I) fun i=>?_);refine zb5 fun g1 b hb=>?_;refine aT I<|sW I<|lW (bt call130 I<|Hv E g1 s v l (f.mono b) hn) ?_;rintro r7 _ _ ⟨rfl,rfl⟩;refine aT I<|sW I<|lU (Ih I)<|lW (bt call131 I<|xX E g1 s r7 _ key (Ht E g1 i _ key (fun g' s a h=>e g' s a<|b.trans h) hb) l oM) ?_;rintro _ _ _ ⟨rfl,rfl⟩;exact tZ<|sW I<|aT I<|rE<|Iu b<|za8 (.inl I) results79 I ⟨I,I⟩
end Go.Proofs.YtpmoadbbfobbcaaGreatDoor
namespace Go.Sy
open Go Go.MapKept
def unV (q:Value×Value):Int×Value:=(match q.1 with | .int _ z=>z | _=>0,q.2)
theorem vh (l:List<|Int×Value):(l.map lH).map unV=l:=by
 rw[zi6]
 conv=>rhs;rw[← List.map_id l]
 rfl
theorem eG {l m:List Nat}(hm:m.Nodup)(hl:l.Nodup)(h:∀ x∈m,x∈l):m.length≤l.length:=by
 have hp:(l.filter<|fun x=>decide<|x∈m).Perm m:=(List.perm_ext_iff_of_nodup (hl.filter _) hm).2 fun x=>by
  rw[zh5];exact⟨fun a=>by simpa using a.2,fun a=>⟨h x a,by simpa using a⟩⟩
 have:=hp.length_eq;have:=zc6 (fun x=>decide<|x∈m) l;omega
structure mC (l:List<|Int×Value)(es:Array MapEntry)(vis:List MapEntry)(vl:List<|Int×Value):Prop where
 ok:Vis es vis
 eq:vis.map n9=vl.map lH
theorem mC.nil (l:List<|Int×Value)(es:Array MapEntry):mC l es [] []:=⟨⟨by simp,by simp⟩,rfl⟩
variable {n c N m b bytes i d clk:Nat}{T ty t e:TypeId}{x y:Operand}{P:Program}{E w:World}{f:Fr}{g g0:PH}{s s0:Own}{pos:String}{af:Array Edge}{dst:Option Tmp}{gd:Option<|Nat×Bool}{z v:Value}{l vl:List<|Int×Value}{ops:Array Oper}{Q:Exit→Act→World→Prop}{tail:List Nat}{es:Array MapEntry}{vis:List MapEntry}{K:Value→PH→Own→Prop}{plan:List<|Nat×Nat}{xs:List Value}{cs:Array Value}
theorem mC.len (h:mC l es vis vl)(hm:xq l es clk):vl.length≤l.length:=by
 have f:vis.length=vl.length:=by have:=ze3 List.length h.eq;simpa using this
 have a:es.toList.length=l.length:=by have:=ze3 List.length hm.1;simpa using this
 have b:=eG (l:=es.toList.map (·.born)) h.ok.nodup hm.2.2.1 (fun x c=>by
  obtain ⟨e,d,rfl⟩:=zf3.1 c;exact zf3.2 ⟨e,h.ok.sub e d,I⟩)
 simp at b;simp at a;omega
theorem mC.all (h:mC l es vis vl)(hm:xq l es clk)(i:∀ e∈es.toList,e∈vis):vl.Perm l:=by
 have f:vis.Nodup:=List.Pairwise.of_map (fun e=>e.born) (fun a b d c=>d<|by rw[c]) h.ok.nodup;have c:es.toList.Nodup:=List.Pairwise.of_map (fun e=>e.born) (fun a b d c=>d<|by rw[c]) hm.2.2.1;have hp:vis.Perm es.toList:=(List.perm_ext_iff_of_nodup f c).2 fun e=>⟨h.ok.sub e,i e⟩;have g:=(hp.map n9).map unV;rw[h.eq,hm.1,vh,vh] at g;exact g
section
variable {r:Nat}
theorem SO.nextP (i:Nat)(y:ev f x=some (pp r 0))(z:s[i]?=some (iter r m es clk vis))(hm:g m=some (.map es clk))(o:xq l es clk)(d:mC l es vis vl) :
  SO P N E ⟨dst,.next x false,ty,pos,af,gd⟩ f g s fun u g' s'=>g=g' ∧
   ((u = .tuple #[.bool false]∧s=s'∧vl.Perm l)∨∃ e p,e∈es.toList∧p∈l∧e.key=vi p.1∧e.val=p.2∧mC l es (vis++[e]) (vl++[p])∧u = .tuple #[.bool true,vi p.1,p.2]∧s'=s.set i (iter r m es clk<|vis++[e])):=by
 refine SO.mono (SO.next i y z hm o.2 d.ok) ?_;rintro u g' s' ⟨rfl,h⟩;refine⟨I,?_⟩
 rcases h with ⟨j,q,t⟩ | ⟨e,j,q,t,A⟩
 ·exact .inl ⟨j,q,d.all o t⟩
 ·have hp:n9 e∈l.map lH:=by rw[← o.1];exact zf3.2 ⟨e,j,I⟩
  obtain ⟨p,v,c⟩:=zf3.1 hp;simp only[n9,lH,Prod.mk.injEq] at c;refine .inr ⟨e,p,j,v,c.1.symm,c.2.symm,⟨⟨?_,?_⟩,?_⟩,by rw[t,c.1,c.2],A⟩
  ·intro a k
   rcases zf4.1 k with n | n
   ·exact d.ok.sub a n
   ·simp at n;rw[n];exact j
  ·rw[zg6,List.nodup_append];refine⟨d.ok.nodup,by simp,fun a k b hb w=>?_⟩;simp at hb;rw[w,hb] at k;exact q k
  ·rw[zg6,zg6,d.eq];simp[n9,lH,c.1,c.2]
theorem SQ.entryP {e:MapEntry}{p:Int×Value}(i:Nat)(a:ev f x=some (pp r 0))(b:s[i]?=some (iter r m es clk<|vis++[e]))(hm:g m=some (.map es clk))(c:xq l es clk)(d:e∈es.toList)(j:e.key=vi p.1)(k:e.val=p.2) :
  SQ P N E ⟨dst,.entry x,ty,pos,af,gd⟩ f g s<|.tuple #[vi p.1,p.2]:=by
 have:=SQ.entry (P:=P) (N:=N) (E:=E) (f:=f) (s:=s) (dst:=dst) (ty:=ty) (pos:=pos) (af:=af) (gd:=gd) i a b hm c.2 d;rw[j,k] at this;exact this
end
def HK (l:List<|Int×Value)(q:Int→Bool):Prop:=∀ k,eU l k=if q k then some (vb true) else none
theorem HK.get {q:Int→Bool}(h:HK l q)(k:Int):(eU l k).getD (vb false)=vb (q k):=by
 rw[h k];cases q k <;> rfl
def I3:=@SO.nextP
def IL:=@SQ.entryP
open Go
section
variable (P:Program)(N:Nat)(E:World)(ops:Array Oper)(Q:Exit→Act→World→Prop)(g0:PH)(s0:Own)(tail:List Nat)
def SX (L:Array Bool)(n:Nat)(f:Fr)(g:PH)(s:Own):Prop :=
 ∀ a w,Region.noSelect ops=true→ni ops L→Ok N f a→At E g s w→(fW tail L=false→At E g0 s0 w)→lp P ops Q (At E g0 s0) tail n L a w
def SB (L:Array Bool)(n i:Nat)(f:Fr)(g:PH)(s:Own):Prop :=
 ∀ a w,Region.noSelect ops=true→ni ops L→i∈Region.ready .any ops L→Ok N f a→At E g s w→(fW tail L=false→At E g0 s0 w) →
  wpOp P ops Q i (fun a' w'=>(fW tail (L.setIfInBounds i true)=false→At E g0 s0 w')∧lp P ops Q (At E g0 s0) tail n (L.setIfInBounds i true) a' w') a w
end
def xH (ops:Array Oper)(tail:List Nat)(L:Array Bool)(i:Nat):Bool:=(Region.ready .any ops L).contains i&&Region.free .any ops L i&&mD ops tail i && !tail.contains i && !fW tail L
def rh (ops:Array Oper)(tail:List Nat)(L:Array Bool)(i:Nat):Bool:=(Region.ready .any ops L).contains i&&Region.free .any ops L i && !tail.contains i
section
variable {s':Own}{L:Array Bool}
theorem SC.drawX {id:Nat}(tail:List Nat)(hm:P.follows .mixedOrders=true)(b:Region.noSelect ops=true)(h:SX P N E ops Q g s tail (Array.replicate ops.size false) ops.size f g s):SC P N E (.region id ops true) Q f g s:=by
 intro a w d c;exact wp_region_any hm<|jg _ _ _ _ (S:=At E g s) (tail:=tail)<|h a { w with drawn:=w.drawn+1 } b (jE _) d (c.drew _<|Nat.le_succ _) (fun _=>c.drew _<|Nat.le_succ _)
theorem SX.nil (hr:Region.ready .any ops L=[])(h:ST N E Q .normal f g s):SX P N E ops Q g0 s0 tail L 0 f g s:=fun a w _ _ b c _=>⟨hr,h a w b c⟩
theorem SX.drop (c:s'.Sublist s)(h:SX P N E ops Q g0 s0 tail L n f g s'):SX P N E ops Q g0 s0 tail L n f g s:=fun a w d b e i hb=>h a w d b e (i.sublist c) hb
theorem SX.q [r:Quiet Q]{i d:Nat}{op:Op}{ty:TypeId}{pos:String}{af:Array Edge}{v:Value}(m:ops[i]?=some ⟨some d,op,ty,pos,af,none⟩)(b:xH ops tail L i=true)
  (hq:SQ P N E ⟨some d,op,ty,pos,af,none⟩ f g0 s0 v) (hd:d<N)
  (h:SX P N E ops Q g0 s0 tail (L.setIfInBounds i true) n ((d,v)::f) g s):SX P N E ops Q g0 s0 tail L (n+1) f g s:=by
 intro a w o e j t hb;simp only[xH,zj4,Bool.not_eq_true'] at b;obtain ⟨⟨⟨⟨p,u⟩,x⟩,y⟩,k⟩:=b;refine kF m (Region.noSelect_spec o) (fun c a w z=>r.out c _ _ w (dq a d v) z) (by simpa using y) (i6 x) _ L a w e (Region.free_spec m u) (by simpa using p)
  (.inl ⟨IX rfl a j,fun w' l=>hq a w' j l⟩) k (hb k) ?_
 exact h _ w o (cz e<|by simpa using p) (j.put hd v) t fun _=>hb k
theorem SX.u [q:Quiet Q]{i d:Nat}{op:Op}{ty:TypeId}{pos:String}{af:Array Edge}{v:Value}(m:ops[i]?=some ⟨some d,op,ty,pos,af,none⟩)(b:rh ops tail L i=true)
  (hq:SU P N ⟨some d,op,ty,pos,af,none⟩ f v) (hd:d<N)
  (h:SX P N E ops Q g0 s0 tail (L.setIfInBounds i true) n ((d,v)::f) g s):SX P N E ops Q g0 s0 tail L (n+1) f g s:=by
 intro a w o j k r hb;simp only[rh,zj4,Bool.not_eq_true'] at b;obtain ⟨⟨p,t⟩,x⟩:=b;have e:i ∉ tail:=by simpa using x
 refine iz m (Region.noSelect_spec o) (fun c a w y=>q.out c _ _ w (dq a d v) y) e _ L a w (Region.free_spec m t) (by simpa using p)
  (.inl ⟨IX rfl a k,fun w'=>hq a w' k⟩) hb ?_
 exact h _ w o (cz j<|by simpa using p) (k.put hd v) r (fun l=>hb<|by rwa [eI e] at l)
theorem SX.br1 (i:Nat)(hr:Region.ready .any ops L=[i])(h:SB P N E ops Q g0 s0 tail L n i f g s):SX P N E ops Q g0 s0 tail L (n+1) f g s:=by
 intro a w j c l m hb;refine⟨fun d=>(by rw[hr] at d;cases d),fun k e=>?_⟩;have b:=e;rw[hr] at b;simp only[zh8] at b;subst b;exact h a w j c e l m hb
theorem SX.br2 (i j:Nat)(hr:Region.ready .any ops L=[i,j])(h:SB P N E ops Q g0 s0 tail L n i f g s)(p:SB P N E ops Q g0 s0 tail L n j f g s):SX P N E ops Q g0 s0 tail L (n+1) f g s:=by
 intro a w e c l m hb;refine⟨fun o=>(by rw[hr] at o;cases o),fun k d=>?_⟩;have b:=d;rw[hr] at b;simp only[zf2,zh8,List.not_mem_nil,or_false] at b
 rcases b with rfl | rfl
 ·exact h a w e c d l m hb
 ·exact p a w e c d l m hb
theorem SX.br3 (i j m:Nat)(hr:Region.ready .any ops L=[i,j,m])(h:SB P N E ops Q g0 s0 tail L n i f g s)(q:SB P N E ops Q g0 s0 tail L n j f g s)(r:SB P N E ops Q g0 s0 tail L n m f g s):SX P N E ops Q g0 s0 tail L (n+1) f g s:=by
 intro a w e b l o hb;refine⟨fun p=>(by rw[hr] at p;cases p),fun k d=>?_⟩;have c:=d;rw[hr] at c;simp only[zf2,zh8,List.not_mem_nil,or_false] at c
 rcases c with rfl | rfl | rfl
 ·exact h a w e b d l o hb
 ·exact q a w e b d l o hb
 ·exact r a w e b d l o hb
theorem SB.step {o:Oper}(r:ops[i]?=some o)(hg:Gd N ops f o true)(t:SO P N E o f g s K)
  (b:i∈tail∨∀ v g' s',K v g' s'→Le g0 g'∧s0.Sublist s')
  (h:∀ v g' s' a,K v g' s'→Ok N f a→∃ f',Ok N f' (a.put o.dst v)∧SX P N E ops Q g0 s0 tail (L.setIfInBounds i true) n f' g' s'):SB P N E ops Q g0 s0 tail L n i f g s:=by
 intro a w u e hr j x hb;unfold wpOp;simp only[r];rw[zg2<|hg a j];refine .inl (t a w j x Q _ fun v g' s' w' q c=>?_);have d:fW tail (L.setIfInBounds i true)=false→At E g0 s0 w':=by
  intro k
  rcases b with b | b
  ·exfalso;have l:i<L.size:=by
    rcases Nat.lt_or_ge i L.size with m | m
    ·exact m
    ·have:=(mem_ready.1 hr).1;simp[Array.getElem?_eq_none m] at this
   unfold fW at k;rw[zk6] at k;have:=k i b;simp[l] at this
  ·obtain ⟨y,z⟩:=b v g' s' q;exact (c.less y).sublist z
 obtain ⟨f',p,hn⟩:=h v g' s' a q j;exact⟨d,hn _ w' u (cz e hr) p c d⟩
theorem SB.o {op:Op}(a:ops[i]?=some ⟨some d,op,ty,pos,af,none⟩)
  (b:SO P N E ⟨some d,op,ty,pos,af,none⟩ f g s K) (hd:d<N) (c:i∈tail∨∀ v g' s',K v g' s'→Le g0 g'∧s0.Sublist s')
  (h:∀ v g' s',K v g' s'→SX P N E ops Q g0 s0 tail (L.setIfInBounds i true) n ((d,v)::f) g' s'):SB P N E ops Q g0 s0 tail L n i f g s :=
 SB.step a (IX rfl) b c fun v g' s' _ e j=>⟨_,j.put hd v,h v g' s' e⟩
theorem SB.on {op:Op}(a:ops[i]?=some ⟨none,op,ty,pos,af,none⟩)
  (b:SO P N E ⟨none,op,ty,pos,af,none⟩ f g s K) (c:i∈tail∨∀ v g' s',K v g' s'→Le g0 g'∧s0.Sublist s')
  (h:∀ v g' s',K v g' s'→SX P N E ops Q g0 s0 tail (L.setIfInBounds i true) n f g' s'):SB P N E ops Q g0 s0 tail L n i f g s :=
 SB.step a (IX rfl) b c fun v g' s' _ d e=>⟨f,e,h v g' s' d⟩
theorem SB.k (i:Nat)(h:SB P N E ops Q g0 s0 tail L n i f g s):SB P N E ops Q g0 s0 tail L n i f g s:=h
theorem SX.k (n:Nat)(h:SX P N E ops Q g0 s0 tail L n f g s):SX P N E ops Q g0 s0 tail L n f g s:=h
end
def C1:=@SC.drawX
def H5:=@SX.nil
def IG:=@SX.br3
def Ie:=@SX.q
def Ij:=@SX.k
def Jm:=@SX.drop
def iO:=@SX.u
theorem SP.to {g':PH}{s':Own}(h:∀ w,At E g s w→At E g' s' w)(hc:SP P N E ops Q g0 s0 tail plan f g' s'):SP P N E ops Q g0 s0 tail plan f g s:=fun L a w c b d e i hb=>hc L a w c b d e (h w i) hb
section
variable {s1:Own}
theorem SU.sliceH {b:Operand}{k:Nat}{p:Option Addr}{h:Int}(g:P.underlying T=some (.slice e))(i:∀ w,(sizeOf e).run P w = .ok k w)(j:ev f x=some (.slice p n c))(l:ev f b=some (vi h))(m:0≤h)(o:h≤c) :
  SU P N ⟨dst,.slice T x none (some b) none,ty,pos,af,gd⟩ f<|sliced p 0 h.toNat c k:=fun a w d=>by
 simp[execOp,d.ev j,d.ev l,Instr.sliceAt,Instr.slice,run_underlying g,Instr.sliceBounds,run_sliceBound,sliced,i w,m,o]
theorem SU.sliceL {b:Operand}{k:Nat}{p:Option Addr}{l:Int}(g:P.underlying T=some (.slice e))(i:∀ w,(sizeOf e).run P w = .ok k w)(j:ev f x=some (.slice p n c))(hl:ev f b=some (vi l))(m:0≤l)(o:l≤n) :
  SU P N ⟨dst,.slice T x (some b) none none,ty,pos,af,gd⟩ f<|sliced p l.toNat n c k:=fun a w d=>by
 simp[execOp,d.ev j,d.ev hl,Instr.sliceAt,Instr.slice,run_underlying g,Instr.sliceBounds,run_sliceBound,sliced,i w,m,o]
theorem SU.cap {p:Option Addr}(b:P.underlying T=some (.slice e))(d:ev f x=some (.slice p n c)) :
  SU P N ⟨dst,.call ⟨.builtin .cap,#[x],#[T]⟩,ty,pos,af,gd⟩ f<|vi c:=fun a w g=>by
 simp[execOp,resolve,invoke,builtin,g.ev d,Builtin.cap_,run_underlying b,goInt]
theorem Sl.cut {k l:Nat}{p:Option Addr}(h:Sl g k (.slice p n c) n xs)(hl:l≤m)(hm:m≤n):Sl g k (sliced p l m c k) (m - l)<|(xs.drop<|l * k).take<|(m - l) * k:=by
 obtain ⟨y,z,s,⟨t,hc⟩,u⟩:=h;injection s with e1 e2 e3
 subst e1;subst e3;refine⟨_,_,I,⟨?_,oM⟩,fun a=>?_⟩
 ·have:m * k≤n * k:=Nat.mul_le_mul_right k hm;have r:l * k+(m - l) * k=m * k:=by rw[← Nat.add_mul];congr 1;omega
  rw[ze5,zf1,t];omega
 ·have i:xs≠[]:=fun e=>a (by rw[e];simp);obtain ⟨b,o,cs,T,v,rfl,r,w⟩:=u i;have q:¬ c=l:=fun e=>a (by
   have:m - l=0:=oM;rw[this];simp)
  have d:(⟨b,o,none⟩:Addr).add (l * k)=⟨b,o+l * k,none⟩:=by unfold Addr.add;split <;> simp_all
  refine⟨b,o+l * k,cs,T,v,by simp[q,d],r,fun j x f=>?_⟩;rw[zi2] at f;split at f
  ·rw[zi3] at f;rw[Nat.add_assoc];exact w _ x f
  ·cases f
theorem SlA.cut {α:Type}{k:Nat}{e:Enc α k}{l:Nat}{p:Option Addr}{xs:List α}(h:SlA e g (.slice p xs.length c) xs)(hl:l≤m)(hm:m≤xs.length):SlA e g (sliced p l m c k)<|(xs.drop l).take<|m - l:=by
 have d:=Sl.cut h hl hm;have b:((xs.drop l).take<|m - l).length=m - l:=by rw[ze5,zf1];omega
 unfold SlA;rw[b];have:((xs.drop l).take<|m - l).flatMap e.enc=((xs.flatMap e.enc).drop<|l * k).take ((m - l) * k):=by
  have key:∀ (a:List α) (j:Nat),(a.take j).flatMap e.enc=(a.flatMap e.enc).take (j * k):=by
   intro a;induction a with
   | nil=>intro j;simp
   | cons y r ih =>
    intro j;cases j with
    | zero=>simp
    | succ j =>
     rw[List.take_succ_cons,zh6,zh6,ih,List.take_append,e.len,show (j+1) * k - k=j * k by rw[Nat.succ_mul];omega,tL (l:=e.enc y)<|by rw[e.len,Nat.succ_mul];omega]
  have key2:∀ (a:List α) (j:Nat),(a.drop j).flatMap e.enc=(a.flatMap e.enc).drop (j * k):=by
   intro a;induction a with
   | nil=>intro j;simp
   | cons y r ih =>
    intro j;cases j with
    | zero=>simp
    | succ j =>
     rw[List.drop_succ_cons,zh6,ih,List.drop_append,e.len,show (j+1) * k - k=j * k by rw[Nat.succ_mul];omega,List.drop_of_length_le (l:=e.enc y)<|by rw[e.len,Nat.succ_mul];omega];simp
  rw[key,key2]
 rw[this];exact d
theorem SlA.cap {α:Type}{k:Nat}{e:Enc α k}{p:Option Addr}{xs:List α}(h:SlA e g (.slice p n c) xs):n=xs.length∧xs.length≤c:=by
 obtain ⟨b,d,a,⟨_,hc⟩,_⟩:=h;injection a with e1 e2 e3
 exact⟨e2,oM⟩
theorem SlA.lit {α:Type}{k:Nat}{e:Enc α k}{a:Nat×Nat}{l:List α}(hb:g b=some (.cells cs T a))(hc:cs.toList=l.flatMap e.enc)(hn:l.length=n):SlA e g (.slice (some ⟨b,0,none⟩) n n) l:=by
 subst hn;refine⟨_,_,I,⟨by rw[e.length],dm _⟩,fun _=>⟨b,0,cs,T,a,I,hb,fun j x c=>?_⟩⟩;rw[← hc] at c;simpa using c
theorem At.litRow {α:Type}{k:Nat}{e:Enc α k}{l:List α}(h:At E g (pt b (.cells cs T (0,0))::s) w)(hc:cs.toList=l.flatMap e.enc)(hn:l.length=n+1)(hm:n+1≤maxLen):At E g (rowA e T (.slice (some ⟨b,0,none⟩) (n+1)<|n+1) l::s) w:=by
 refine⟨h.os,h.tape,h.output,h.known,fun x a=>?_,fun x a q hq=>?_,zk4.2 ⟨fun x a q hq=>?_,(zk4.1 h.apart).2⟩⟩
 ·rcases zf2.1 a with rfl | a
  ·have d:=h.own (pt b<|.cells cs T (0,0)) dO;simp only[pt,Option.bind_some] at d;have c:cs.size=(n+1) * k:=by rw[← Array.length_toList,hc,e.length,hn]
   have:=eH (w:=w) (T:=T) (k:=k) (n:=n+1) (b:=b) (cap:=n) (xs:=l.flatMap e.enc) (by rw[e.length,hn]) d (dm _) hm c (by rw[← hc,tL<|by rw[Array.length_toList,c];exact dm _]);simpa only[rowA,hn] using this
  ·exact h.own x (by simp[a])
 ·rcases zf2.1 a with rfl | a
  ·simp only[rowA,row,jV,zg8] at hq;exact h.fresh (pt b<|.cells cs T (0,0)) dO q (by simp[pt,hq])
  ·exact h.fresh x (by simp[a]) q hq
 ·simp only[rowA,row,jV,zg8] at hq;exact (zk4.1 h.apart).1 x a q (by simp[pt,hq])
theorem SO.app1A {α:Type}{k:Nat}{e:Enc α k}{l:List α}(i:Nat)(a:α)(d:STy P t T k bytes z)(j:ev f x=some v)(n:ev f y=some (.slice (some ⟨b,0,none⟩) 1 1))
  (o:s=pt b (.cells cs T (0,0))::s1) (p:s1[i]?=some (rowA e T v l)) (hc:cs.toList=e.enc a) (hb:(l.length+1) * bytes≤140737488355328) (c:l.length+1≤4611686018427387904) :
  SO P N E ⟨dst,.call ⟨.builtin .append,#[x,y],#[t,t]⟩,ty,pos,af,gd⟩ f g s fun v' g' s'=>g=g'∧s'=s1.set i (rowA e T v'<|l++[a]):=by
 have w:FW cs.toList:=by
  rw[hc];have:∀ (m:List Value),(∀ u∈m,u.oneCell'=true)→FW m:=by
   intro m;induction m with
   | nil=>intro _;trivial
   | cons q r ih=>intro hq;exact⟨hq q dO,ih fun u A=>hq u<|by simp[A]⟩
  exact this _<|e.one a
 have:=Jl (P:=P) (N:=N) (E:=E) (f:=f) (g:=g) (dst:=dst) (ty:=ty) (pos:=pos) (af:=af) (gd:=gd) i ((l++[a]).flatMap e.enc) (l++[a]).length d j n o p (by rw[← Array.length_toList,hc,e.len]) w (by rw[hc];simp) dO hb c;exact this
theorem SO.appA {α:Type}{k:Nat}{e:Enc α k}{u:Value}{l m:List α}(i:Nat)(c:STy P t T k bytes z)(d:ev f x=some v)(j:ev f y=some u)
  (n:s[i]?=some (rowA e T v l)) (b:SlA e g u m) (hb:(l.length+m.length) * bytes≤140737488355328) (a:l.length+m.length≤4611686018427387904) :
  SO P N E ⟨dst,.call ⟨.builtin .append,#[x,y],#[t,t]⟩,ty,pos,af,gd⟩ f g s fun v' g' s'=>g=g'∧s'=s.set i (rowA e T v'<|l++m):=by
 have:=IU (P:=P) (N:=N) (E:=E) (f:=f) (g:=g) (dst:=dst) (ty:=ty) (pos:=pos) (af:=af) (gd:=gd) i (l++m).length ((l++m).flatMap e.enc) c d n j (Sl.isSl b) (zc2 b) (SlA.rd b) (Sl.length b) (e.ones m) dO dO (by simpa using hb) (by simpa using a);exact this
theorem wK {a:Act}{b c v':Value}{d:World}(e:a.eval x=b)(f:a.eval y=c)(h:(Builtin.append_ #[t,t] ty #[b,c]).run P w = .ok v' d) :
  (execOp a.eval ⟨dst,.call ⟨.builtin .append,#[x,y],#[t,t]⟩,ty,pos,af,gd⟩).run P w = .ok (.value v') d:=by
 simp[execOp,resolve,invoke,builtin,e,f,h]
end
def aP:=@SO.app1A
def aQ:=@SO.appA
def IC:=@SlA.cut
def IK:=@SlA.cap
def Ig:=@At.litRow
def Ik:=@SU.sliceL
def Il:=@SU.sliceH
def JJ:=@SP.to
def kb:=@SlA.lit
theorem uQ {z:Array Value}{u:Value}(hz:∀ v∈z.toList,v.oneCell'=true)(d:u∈(Builtin.zeroCells z n).toList):u.oneCell'=true:=by
 simp only[Builtin.zeroCells,Array.toList_map,zf3] at d;obtain ⟨i,e,rfl⟩:=d;have a:i<n * z.size:=by simpa using e
 have b:0<z.size:=by
  rcases Nat.eq_zero_or_pos z.size with h | h
  ·rw[h] at a;simp at a
  ·exact h
 have c:i % z.size<z.size:=Ja _ b;have:z[i % z.size]! = z[i % z.size]:=getElem!_pos z _ c;rw[this];exact hz _ dO
section
variable {α:Type}{k:Nat}{e:Enc α k}
theorem Rd.from {o:Nat}(h:Rd g s (.slice (some ⟨b,0,none⟩) n c) xs):Rd g s (.slice (some ⟨b,o,none⟩) m d)<|xs.drop o:=fun E w f j x e=>by
 rw[zi3] at e;obtain ⟨a,k,l,i,p,hc⟩:=h E w f (o+j) x e;injection i with e1
 injection e1 with e1
 subst e1;exact⟨_,_,_,I,I,by simpa [Nat.add_assoc] using hc⟩
theorem Enc.drop {l:List α}(j:Nat):(l.drop j).flatMap e.enc=(l.flatMap e.enc).drop (j * k):=by
 induction l generalizing j with
 | nil=>simp
 | cons y r ih =>
  cases j with
  | zero=>simp
  | succ j =>
   rw[List.drop_succ_cons,zh6,ih,List.drop_append,e.len,show (j+1) * k - k=j * k by rw[Nat.succ_mul];omega,List.drop_of_length_le (l:=e.enc y)<|by rw[e.len,Nat.succ_mul];omega];simp
theorem Rd.fromA {o:Nat}{l:List α}(h:Rd g s (.slice (some ⟨b,0,none⟩) n c)<|l.flatMap e.enc):Rd g s (.slice (some ⟨b,o * k,none⟩) m d)<|(l.drop o).flatMap e.enc:=by
 rw[Enc.drop];exact h.from
theorem At.shrink {p:Option Addr}{D J:List α}(h:At E g s w)(j:s[i]?=some (rowA e T (.slice p n c)<|D++J))(hm:m=D.length):At E g (s.set i<|rowA e T (.slice p m c) D) w:=by
 subst hm;obtain ⟨u,a⟩:=ia h j;have d:(rowA e T (.slice p D.length c) D).blk=(rowA e T (.slice p n c)<|D++J).blk:=by
  cases p <;> cases c <;> rfl
 refine h.turn j I ⟨I,dm _⟩ I (dm _) (fun _ _ _=>I) ?_ (fun b hb=>?_)
 ·rcases a with ⟨q,l,v⟩ | ⟨b,cap,cur,l,hg,o,r,t,f⟩
  ·injection l with e1 e2 e3
   subst e3;have x:D=[]:=zf5 (by rw[ze6] at v;omega);subst x;exact⟨by simp,.inl ⟨p,I,I⟩⟩
  ·injection l with e1 e2 e3
   subst e1;subst e3;refine eH (by rw[e.length]) hg (by simp at o;omega) r t ?_;have y:cur.toList.take (D.length * k)=(cur.toList.take<|(D++J).length * k).take (D.length * k):=by
    rw[List.take_take,Nat.min_eq_left<|Nat.mul_le_mul_right k<|by simp]
   rw[y,f,H4,List.take_append_of_le_length<|by rw[e.length];exact dm _,tL<|by rw[e.length];exact dm _]
 ·rw[d] at hb;exact⟨(h.fresh _ (zg3 j) b hb).2,.inl hb⟩
theorem SO.clearA {D:List α}(i:Nat)(F:STy P t T k bytes z)(hz:∀ v∈z.cells.toList,v.oneCell'=true)(Q:ev f x=some (.slice (some ⟨b,D.length * k,none⟩) m d))(G:s[i]?=some (rowA e T (.slice (some ⟨b,0,none⟩) n<|c+1) D))(hn:n=D.length)(hm:D.length+m≤c+1) :
  SO P N E ⟨dst,.call ⟨.builtin .clear,#[x],#[t]⟩,ty,pos,af,gd⟩ f g s fun _ g' s'=>g=g'∧s=s' :=
 IH fun a w R H=>by
  subst hn;obtain ⟨V,o⟩:=ia H G
  rcases o with ⟨q,J,Z⟩ | ⟨W,cap,cur,J,hg,u,K,y,p⟩
  ·injection J with j e2 e3
   cases e3
  ·injection J with j e2 e3
   injection j with j
   injection j with j
   injection e3 with e3
   subst j;subst e3;have L:=H.fresh _ (zg3 G) b rfl;by_cases A:m=0
   ·subst A;refine⟨.tuple #[],w,g,s,?_,H,I,I⟩;simp[execOp,resolve,invoke,builtin,R.ev Q,Builtin.clear_,run_underlying F.und]
   ·have l:(Builtin.zeroCells z.cells m).toList.length=m * k:=by simp[size_zeroCells,F.zs]
    have r:=run_storeCells_at P b (D.length * k) T (Builtin.zeroCells z.cells m).toList 0 cur w hg (by rw[l,y,Nat.add_zero,← Nat.add_mul];exact Nat.mul_le_mul_right k hm) fun v X=>uQ hz X;simp only[Nat.add_zero] at r;refine⟨.tuple #[],w.setRow b (cur.toList.take (D.length * k)++(Builtin.zeroCells z.cells m).toList++cur.toList.drop (D.length * k+(Builtin.zeroCells z.cells m).toList.length)).toArray,g,s,?_,?_,I,I⟩
    ·cases m with
     | zero=>exact absurd rfl A
     | succ m=>simp[execOp,resolve,invoke,builtin,R.ev Q,Builtin.clear_,run_underlying F.und,F.zero w];simp only[Array.length_toList] at r;rw[r];simp
    ·have S:=H.turn (w':=w.setRow b (cur.toList.take (D.length * k)++(Builtin.zeroCells z.cells m).toList++cur.toList.drop (D.length * k+(Builtin.zeroCells z.cells m).toList.length)).toArray) (e':=rowA e T (.slice (some ⟨b,0,none⟩) D.length<|c+1) D) G rfl ⟨rfl,dm _⟩ rfl dO (fun Y _ M=>setRow_other w b Y _ fun j=>M<|by simp[rowA,row,jV,j]) (eH (by rw[e.length]) (setRow_heap w b cur _ T _ hg) u K (by
       simp only[List.size_toArray,ze6,ze5,zf1,Array.length_toList];have:D.length * k+m * k≤(c+1) * k:=by rw[← Nat.add_mul];exact Nat.mul_le_mul_right k hm
       simp only[Array.length_toList] at l;omega) (by
       have U:(cur.toList.take<|D.length * k).length=D.length * k:=by
        have O:cur.toList.length=(c+1) * k:=by rw[Array.length_toList];exact y
        rw[ze5,O];exact Nat.min_eq_left<|Nat.mul_le_mul_right k u
       rw[zg9,List.take_append_of_le_length<|by rw[U];exact dm _,tL<|by rw[U];exact dm _,p])) (fun W B=>by
       simp only[rowA,row,jV,zg8] at B;subst B;exact⟨by simpa using L.2,.inl I⟩)
     have C:s.set i (rowA e T (.slice (some ⟨b,0,none⟩) D.length<|c+1) D)=s:=by
      apply List.ext_getElem?;intro q;rw[List.getElem?_set];split
      ·rename_i j;subst j;split
       ·exact G.symm
       ·rename_i S;rw[List.getElem?_eq_none oM]
      ·rfl
     rwa [C] at S
end
section
variable {α:Type}{k:Nat}{e:Enc α k}
theorem SO.appendZ {o:TypeId}{C:IntKind}(e:Enc α k)(p:STy P t T k bytes z)(r:P.underlying o=some (.int C))(H:ev f x=some (.slice none 0 0))(J:ev f y=some (vi n))(K:0<n)(hb:n * bytes≤140737488355328)(D:n≤4611686018427387904) :
  SO P N E ⟨dst,.call ⟨.builtin .append,#[x,y],#[t,o]⟩,ty,pos,af,gd⟩ f g s fun v' g' s'=>∃ b cap,v' = .slice (some ⟨b,0,none⟩) n (cap+1)∧n≤cap+1∧g=g'∧s'=rowA e T (.slice (some ⟨b,0,none⟩) 0<|cap+1) []::s :=
 IH fun a w F L=>by
  obtain ⟨M,u,v,A,B⟩:=p.info;have G:=Lib.run_append_nil_zeros (P:=P) w t o ty T M z .i64 C p.und r u v n K (by rw[A];exact p.pos) oM (by rw[B];omega);have d:=grownCap_ge w n 0 T;have j:=grownCap_le_maxLen w n 0 T (by unfold maxLen;omega);obtain ⟨cap,l⟩:∃ cap,grownCap w n 0 T=cap+1:=⟨grownCap w n 0 T - 1,oM⟩;rw[l] at G d j;have O:=L.emptyRow T k (none:Option Addr);have m:(execOp a.eval ⟨dst,.call ⟨.builtin .append,#[x,y],#[t,o]⟩,ty,pos,af,gd⟩).run P w = .ok (.value<|.slice (some ⟨w.heap.size,0,none⟩) n<|cap+1) (w.drew.alloc<|.cells (Builtin.zeroCells z.cells n++Builtin.zeroCells z.cells (cap+1 - n)) T):=by
   simp[execOp,resolve,invoke,builtin,F.ev H,F.ev J,G]
  refine⟨_,_,g,_,m,?_,_,_,I,d,I,I⟩;have hz:(Builtin.zeroCells z.cells n++Builtin.zeroCells z.cells (cap+1 - n)).size=(cap+1) * k:=by
   rw[Array.size_append,size_zeroCells,size_zeroCells,p.zs,← Nat.add_mul];congr 1;omega
  have c:(w.drew.alloc<|.cells (Builtin.zeroCells z.cells n++Builtin.zeroCells z.cells (cap+1 - n)) T).heap[w.heap.size]?=some (.cells (Builtin.zeroCells z.cells n++Builtin.zeroCells z.cells (cap+1 - n)) T (0,0)):=heap_alloc_new w.drew _;have Q:=O.turn (i:=0) (w':=w.drew.alloc<|.cells (Builtin.zeroCells z.cells n++Builtin.zeroCells z.cells (cap+1 - n)) T) (e':=rowA e T (.slice (some ⟨w.heap.size,0,none⟩) 0<|cap+1) []) rfl rfl ⟨rfl,by exact Nat.le_add_right _ _⟩ rfl dO (fun q hq _=>by (first | exact heap_alloc_old w.drew _ q hq | exact heap_alloc_old w.drew _ hq))
   (eH dO c (zf7 _) j hz dO) (fun b hb=>by
    simp only[rowA,row,jV,zg8] at hb;subst hb;exact⟨(Array.getElem?_eq_some_iff.1 c).1,.inr<|dm _⟩)
  simpa using Q
end
section
variable {α:Type}{k:Nat}{e:Enc α k}
theorem Dw {a:α}{zs:Array Value}(n:Nat)(hz:zs.toList=e.enc a):(madeCells zs<|n * k).toList=(List.replicate n a).flatMap e.enc:=by
 have c:zs.size=k:=by rw[← Array.length_toList,hz,e.len]
 apply List.ext_getElem?;intro q;by_cases hq:q<n * k
 ·have f:0<k:=e.pos;have m:q % k<k:=Ja _ f;have d:q / k<n:=(Nat.div_lt_iff_lt_mul f).2 hq;have b:q % k<zs.size:=oM;have o:(e.enc a)[q % k]?=some zs[q % k]:=by rw[← hz];simp[b]
  have g:=e.get (l:=List.replicate n a) (i:=q / k) (j:=q % k) (a:=a) (by simp[d]) o;rw[show q / k * k+q % k=q by rw[Nat.mul_comm];exact Nat.div_add_mod q k] at g;rw[g];simp[madeCells,hq,c];rw[getElem!_pos zs _ b]
 ·rw[List.getElem?_eq_none (by simp[madeCells];omega),List.getElem?_eq_none (by rw[e.length];simp;omega)]
theorem SO.makeA (e:Enc α k)(a:α)(u:STy P t T k bytes z)(hz:z.cells.toList=e.enc a)(F:ev f x=some (vi n))(G:ev f y=some (vi n))(hb:n * bytes≤140737488355328)(v:n≤4611686018427387904) :
  SO P N E ⟨dst,.makeSlice t x y,ty,pos,af,gd⟩ f g s fun v' g' s'=>∃ b,v' = .slice (some ⟨b,0,none⟩) n n∧g=g'∧s'=rowA e T (.slice (some ⟨b,0,none⟩) n n) (List.replicate n a)::s :=
 IH fun ac w A B=>by
  obtain ⟨C,d,i,j,l⟩:=u.info;have m:(C.bytes:Int) * ((n:Nat):Int)≤281474976710656:=by
   rw[l,← Iw,Nat.mul_comm];omega
  have p:=run_make (P:=P) w t T C z u.und d i .i64 .i64 n n oM (Int.le_refl _) m oM;simp only[Int.toNat_natCast] at p;rw[j] at p;have c:(execOp ac.eval ⟨dst,.makeSlice t x y,ty,pos,af,gd⟩).run P w = .ok (.value<|.slice (some ⟨w.heap.size,0,none⟩) n n) (w.alloc<|.cells (madeCells z.cells<|n * k) T):=by
   simp[execOp,A.ev F,A.ev G,p]
  have D:(w.alloc<|.cells (madeCells z.cells<|n * k) T).heap[w.heap.size]?=some (.cells (madeCells z.cells<|n * k) T (0,0)):=heap_alloc_new w _;refine⟨_,_,g,_,c,?_,_,I,I,I⟩;have q:=Dw (e:=e) (a:=a) n hz;cases n with
  | zero =>
   have r:=B.emptyRow T k<|some ⟨w.heap.size,0,none⟩;have H:=r.alloc (e:=pt w.heap.size<|.cells (madeCells z.cells<|0 * k) T (0,0)) (o:=.cells (madeCells z.cells<|0 * k) T (0,0)) rfl rfl;exact H.sublist<|zj2 _ _
  | succ n =>
   have r:=B.alloc (e:=pt w.heap.size<|.cells (madeCells z.cells<|(n+1) * k) T (0,0)) (o:=.cells (madeCells z.cells<|(n+1) * k) T (0,0)) rfl rfl;exact r.litRow q dO (by unfold maxLen;omega)
end
theorem SP.freeze {o:Obj}(h:∀ g',Le g g'→g' b=some o→SP P N E ops Q g0 s0 tail plan f g' s):SP P N E ops Q g0 s0 tail plan f g<|pt b o::s:=fun L a w e c i j d hb=>by
 have k:w.heap[b]?=some o:=by have:=d.own (pt b o) dO;simpa [pt] using this
 obtain ⟨l,m⟩:=d.freeze (b:=b) rfl k;exact h _ m (fw _ _ _) L a w e c i j l hb
theorem SP.freezeRow {k:Nat}(h:∀ g',Le g g'→Sl g' k v n xs→SP P N E ops Q g0 s0 tail plan f g' s):SP P N E ops Q g0 s0 tail plan f g<|row T k v n xs::s:=fun L a w c b d e i hb=>by
 obtain ⟨g',j,l,m⟩:=i.freezeRow;exact h g' j m L a w c b d e l hb
def mK:=@SO.makeA
def zd7:=@SX.br1
def zd8:=@SX.br2
def I5:=@SP.freeze
def Jb:=@SP.freezeRow
end Go.Sy
