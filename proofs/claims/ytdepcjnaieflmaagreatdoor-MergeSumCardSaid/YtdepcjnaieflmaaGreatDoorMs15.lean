/- 15 -/
import Derived.Test.YtdepcjnaieflmaaGreatDoorMs14
set_option linter.unusedSimpArgs false
set_option linter.unusedVariables false
namespace Go.Proofs.YtdepcjnaieflmaaGreatDoor
open _root_.Go.Proofs.Tryz _root_.Go.Proofs.YtdepcjnaieflmaaGreatDoor.Tryz
open Go Go.Sy Go.Pl Go.Proofs
set_option maxRecDepth 100000
set_option maxHeartbeats 4000000
theorem XC.freezeMap {P:Program}{M:Md}{N:Nat}{E:World}{Q:Exit→Act→World→Prop}{f:Fr}{g:PH}{s:Own}{c:Code}{b:Nat}{l:List (Int×Value)}(h:∀ g',Le g g'→Mp g' b l→XC P M N E c Q f g' s):XC P M N E c Q f g (mp b l::s):=fun a w d e=>by
 obtain ⟨g',i,j,k⟩:=e.freezeMap;exact h g' i k a w d j
def De:Enc Nat 1:=⟨fun m=>[.map<|some m],fun _=>rfl,fun _ u hu=>by simp at hu;subst hu;rfl,by decide⟩
def Dc (K:List Int)(x:Int):List Int:=if K.contains x then K else K++[x]
theorem D6 {K:List Int}{x y:Int}:y∈Dc K x↔y∈K∨y=x:=by
 unfold Dc;split
 ·rename_i h;rw[List.contains_iff_mem] at h;exact⟨.inl,fun a=>a.elim id fun e=>e ▸ h⟩
 ·simp
theorem Ao {K:List Int}(h:K.Nodup)(x:Int):(Dc K x).Nodup:=by
 unfold Dc;split
 ·exact h
 ·rename_i c;exact List.nodup_append.2 ⟨h,by simp,fun a d b hb e=>by simp at hb;subst hb;subst e;exact c (by simpa using d)⟩
theorem DH {K:List Int}(x:Int):gy (iD K) x (vb true)=iD (Dc K x):=by
 unfold Dc;by_cases h:K.contains x=true
 ·rw[zg4 h];induction K with
  | nil=>simp at h
  | cons a K ih =>
   show (if x=a then (x,vb true)::iD K else (a,vb true)::gy (iD K) x (vb true))=_;by_cases e:x=a
   ·rw[zg4 e,e];rfl
   ·rw[zg3 e,ih (by simpa [e] using h)];rfl
 ·rw[zg3 h];exact sY (by simpa using h)
theorem oG (K:List Int):(iD K).map Prod.fst=K:=by
 unfold iD;rw[zi8];exact List.map_id K
theorem ry:∀ {l m:List Int},l.Nodup→(∀ x∈l,x∈m)→l.length≤m.length
 | [],_,_,_=>zf9 _
 | x::l,m,hn,h=>by
  rw[zk5] at hn;have b:=ry (l:=l) (m:=m.erase x) hn.2 fun y a=>(List.mem_erase_of_ne<|fun e=>hn.1 (by rw[← e];exact a)).2 (h y<|by simp[a]);rw[List.length_erase_of_mem (h x<|by simp)] at b;have:0<m.length:=List.length_pos_of_mem (h x<|by simp);rw[zf2];omega
theorem BK {a b:List Int}(f:a.Pairwise (· < ·))(hb:b.Pairwise (· < ·))(h:∀ x,x∈a↔x∈b):a=b:=by
 have c:a.Nodup:=f.imp fun h e=>by omega
 have d:b.Nodup:=hb.imp fun h e=>by omega
 exact ((List.perm_ext_iff_of_nodup c d).2 h).eq_of_pairwise (fun a b _ _ g i=>by omega) f hb
theorem zR {Ls:List (List Cl)}{K:List Int}(hn:K.Nodup)(h:∀ x,x∈K↔∃ A∈Ls,∃ c∈A,c.id=x):eY K=fV Ls:=by
 have hp:=rh K;refine BK (((ke K).and<|hp.symm.nodup hn).imp fun h=>by have:=h.1;have:=h.2;omega) (lL Ls) fun x=>?_;rw[hp.mem_iff,h,nX]
theorem yr {g:PH}{A:List Cl}{rs:List Rc}(h:ax (ak g) A rs):(rs.map ap).map Prod.fst=A.map Cl.id:=by
 rw[zi8];refine List.ext_getElem? fun i=>?_;rw[zi3,zi3];have hl:=h.length;by_cases b:i<A.length
 ·have a:i<rs.length:=oM;rw[List.getElem?_eq_getElem b,List.getElem?_eq_getElem a];exact ze5 some (h.get (List.getElem?_eq_getElem b)<|List.getElem?_eq_getElem a).1
 ·rw[List.getElem?_eq_none oM,List.getElem?_eq_none oM];rfl
theorem o6 (E:World)(g:PH)(s:Own)(p:Option Addr)(n c:Nat) :
  Ctr Tryz.prog E 27 #[.slice p n c] g s (fun r g' s'=>s=s'∧Le g g'∧∃ b,r = .func (.func 82) #[] #[pp b 0]∧g' b=some (bY #[.slice p n c] 121)):=by
 refine zb2 (args:=[.slice p n c]) func27 I ntmps27 (bE I)<|rZ (bW (bO I) fun d=>?_);refine aT I (rZ<|lU (SU.mkFunc I)<|aT I<|rE<|ST.freeze fun g1 a hb=>?_);exact za8 (.inl I) results27 I ⟨I,a,_,I,hb⟩
theorem m8 (E:World)(hE:E.drawn=0)(g0:PH)(b:Nat)(p:Option Addr)(c:Nat)(ms:List Nat)(Ls:List (List Cl))(hb:g0 b=some (bY #[.slice p ms.length c] 121))(hv:SlA De g0 (.slice p ms.length c) ms)(ha:ax (fun L m=>l5 g0 (.map<|some m) L) Ls ms)
  (hi:∀ L∈Ls,∀ x∈L,a8 x.id) (hl:Ls.flatten.length<1000000) (d5:ms.length<1000) :
  EV Tryz.prog E 82 [pp b 0] (fun k:Int=>[vi k]) (fV Ls) g0:=by
 intro y ι G S J i0 h0 F a5 hY sx;have d6:=ha.length;have H:=F _ _ h0;have a9:=H _ _ hb;have V:=za5 hv H;refine Ctr.ofX (args:=[.func (.yield y) #[] #[],pp b 0]) func82 I ntmps82 (bE I)<|XC.seq<|XC.region<|XL.o (SO.mkMap) dC ?_;rintro _ _ _ ⟨T,rfl,rfl,rfl⟩;refine XL.u (aS I) dC<|XL.nil<|XT.thenN<|XC.seq<|XC.seq<|XC.region<|XL.q (qL (v:=.slice p ms.length c) isAgg121 I<|cK a9 I) dC<|XL.u (eN underlying121 I) dC<|XL.u (mV I) dC<|XL.nil<|XT.thenN<|XC.block<|XC.loop (ι:=Nat×List Int) (fun z=>[(0,.func (.yield y) #[] #[]),(3,.map<|some T),(10,.slice p ms.length c),(11,vi ms.length),(12,vi z.1)]) (fun _=>G i0) (fun z=>mp T (iD z.2)::(S i0++sx)) (fun z=>z.1≤Ls.length∧z.2.Nodup∧∀ x,x∈z.2↔∃ A∈Ls.take z.1,∃ c∈A,c.id=x) (fun z=>Ls.length - z.1) (0,[])
  sB rfl rfl ⟨zf9 _,by simp,by simp⟩ ?_
 rintro ⟨k,K⟩ ⟨hk,t,a⟩;dsimp only at hk t a ⊢;refine XC.seq<|XC.region<|XL.u (lS I I) dC<|XL.nil<|XT.thenN<|XC.seq<|XC.ifP I (fun b0=>?_) (fun b0=>?_)
 ·have W:k<ms.length:=oM;have X:k<Ls.length:=oM;have b1:=za6 V oM;have b2:ms[((k:Nat):Int).toNat]?=some ms[k]:=List.getElem?_eq_getElem W;have hT:=(ha.get (List.getElem?_eq_getElem X)<|List.getElem?_eq_getElem W).mono H;have b3:Ls.take (k+1)=Ls.take k++[Ls[k]]:=tS X;generalize Ls[k]=A at *;generalize ms[k]=m at *;obtain ⟨m',rs,b4,hm,g⟩:=hT;obtain rfl:m=m':=by injection b4 with h;injection h
  obtain ⟨es,clk,M,w⟩:=hm;refine XC.skip<|XT.thenN<|XC.seq<|XC.block<|XC.seq<|XC.region<|XL.u (iA underlying121 wh I I b1 oM sL) dC<|XL.q (eB ep I (za7 V) b2 I) dC<|XL.u (aS I) dC<|XL.nil<|XT.thenN<|XC.seq<|XC.region<|XL.u (mV I) dC<|XL.o (SO.range underlying65 I M) dC ?_;rintro _ _ _ ⟨it,rfl,rfl,rfl⟩;refine XL.nil<|XT.thenN<|XC.block<|XC.loop (ι:=List MapEntry×List (Int×Value)×List Int) (fun z=>[(0,.func (.yield y) #[] #[]),(3,.map<|some T),(10,.slice p ms.length c),(11,vi ms.length),(12,vi k),(17,pp it 0)]) (fun _=>G i0) (fun z=>iter it m es clk z.1::mp T (iD z.2.2)::(S i0++sx)) (fun z=>l6 (rs.map ap) es z.1 z.2.1∧z.2.2.Nodup∧∀ x,x∈z.2.2↔(∃ A∈Ls.take k,∃ c∈A,c.id=x)∨x∈z.2.1.map Prod.fst) (fun z=>rs.length - z.2.1.length) ([],[],K)
   sB rfl rfl ⟨l6.nil _ _,t,fun x=>by simpa using a x⟩ ?_
  rintro ⟨vis,vl,K2⟩ ⟨N,r,d⟩;dsimp only at N r d ⊢;have Y:=N.len w;simp only[ze9] at Y;refine XC.seq<|XC.region<|XL.o (SO.nextP 0 I I M w N) dC ?_;rintro _ _ _ ⟨rfl,O⟩
  rcases O with ⟨rfl,rfl,P⟩ | ⟨e,pr,he,b5,b6,b7,C,rfl,rfl⟩
  ·have Q:∀ x,x∈K2↔∃ A∈Ls.take (k+1),∃ c∈A,c.id=x:=fun x=>by
    rw[d,b3,(P.map Prod.fst).mem_iff,yr g];constructor
    ·rintro (⟨A',n,h2⟩ | h)
     ·exact⟨A',by simp[n],h2⟩
     ·obtain ⟨c,hc,e⟩:=zf5.1 h;exact⟨A,by simp,c,hc,e⟩
    ·rintro ⟨A',n,h2⟩
     rcases zf6.1 n with n | n
     ·exact .inl ⟨A',n,h2⟩
     ·simp at n;subst n;obtain ⟨c,hc,e⟩:=h2;exact .inr<|zf5.2 ⟨c,hc,e⟩
   exact XL.u (xT I I) dC<|XL.nil<|XT.thenN<|XC.seq<|XC.condF I<|XC.exit<|XT.thenX<|XT.thenX<|XT.blockX<|XT.blockN<|XT.thenN<|XC.region<|XL.u (aD I I oM) dC<|XL.u (mV I) dC<|XL.nil<|XT.drop (.cons _<|.refl _)<|XT.again (k+1,K2) sB I I ⟨by dsimp only;omega,r,Q⟩ (by dsimp only;omega)
  ·obtain ⟨x,hx,rfl⟩:=zf5.1 b5;obtain ⟨U,xd,xv⟩:=x;have b8:=C.len w;simp only[ze9,ze8,zf1] at b8;have Z:=DH (K:=K2) U;refine XL.u (xT I I) dC<|XL.nil<|XT.thenN<|XC.seq<|XC.condT I<|XC.skip<|XT.thenN<|XC.block<|XC.seq<|XC.region<|XL.q (SQ.entryP 0 I I M w he b6 b7) dC<|XL.u (xT I I) dC<|XL.u (aS I) dC<|XL.nil<|XT.thenN<|XC.region<|XL.u (mV I) dC<|XL.u (mV I) dC<|XL.on (SO.mapUpdate 1 mty96 I I I I) ?_;rintro _ _ _ ⟨rfl,rfl⟩;rw[show gy (iD K2) (ap ⟨U,xd,xv⟩).1 (vb true)=iD (Dc K2 U) from Z];refine XL.nil<|XT.blockN ?_;exact XT.again (vis++[e],vl++[ap ⟨U,xd,xv⟩],Dc K2 U) sB I I ⟨C,Ao r U,fun z=>by
    dsimp only;rw[D6,d,zg8,zf6];simp only[zg7,List.map_nil,zi1,ap];exact or_assoc⟩ (by dsimp only;simp only[ze8,zf1];omega)
 ·have c0:Ls.take k=Ls:=tL oM;rw[c0] at a;have a0:K.length<1099511627776:=by
   have n:=ry (m:=Ls.flatten.map Cl.id) (l:=K) t fun x hx=>by
    obtain ⟨A,hA,c,hc,e⟩:=(a x).1 hx;exact zf5.2 ⟨c,List.mem_flatten.2 ⟨A,hA,hc⟩,e⟩
   rw[ze9] at n;omega
  have g:=zR t a;refine XC.exit<|XT.thenX<|XT.thenX<|XT.blockX<|XT.thenN<|XC.seq<|XC.freezeMap fun g1 a1 c1=>?_;refine XC.region<|XL.u (mV I) dC<|XL.o (SO.call call84 I<|CE E g1 _ T) dC ?_;rintro _ g2 _ ⟨rfl,D,bk,rfl,c2⟩;refine XL.o (SO.call call83 I<|wP E hE g2 _ bk T (iD K) c2 (c1.mono D) (by rw[← ze9 (f:=Prod.fst),oG];exact a0) (fun q hq=>by have n:q.1∈(iD K).map Prod.fst:=zf5.2 ⟨q,hq,I⟩;rw[oG] at n;obtain ⟨A,hA,c,hc,e⟩:=(a q.1).1 n;rw[← e];exact hi A hA c hc)) dC ?_;rintro _ g3 _ ⟨rfl,a2,B⟩;rw[oG,g] at B;obtain ⟨q3,c3,rfl⟩:=za4 B;refine XL.u (eN az I) dC ?_;refine XL.u (mV I) dC ?_;refine XL.nil ?_;refine XT.thenN ?_;refine XC.block ?_;have R:=a1.trans<|D.trans a2;obtain ⟨i1,c4,a3,c5⟩:=a5 _ _ _ h0 R;refine XC.loop (ι:=ι×Nat) (fun z=>[(0,.func (.yield y) #[] #[]),(27,.slice q3 (fV Ls).length c3),(28,vi (fV Ls).length),(29,vi z.2)]) (fun z=>G z.1) (fun z=>S z.1++sx) (fun z=>z.2≤(fV Ls).length∧Le g3 (G z.1)∧J ((fV Ls).take z.2) z.1) (fun z=>(fV Ls).length - z.2) (i1,0)
   sB a3 (by dsimp only;rw[c5]) ⟨zf9 _,by dsimp only;rw[a3];exact zb9 _,c4⟩ ?_
  rintro ⟨i,j⟩ ⟨hj,s,hJ⟩;dsimp only at hj s hJ ⊢;have d7:(fV Ls).length<1099511627776:=by rw[← g,gt];exact a0
  refine XC.seq<|XC.region<|XL.u (lS I I) dC<|XL.nil<|XT.thenN<|XC.seq<|XC.ifP I (fun c6=>?_) (fun c6=>?_)
  ·have a4:j<(fV Ls).length:=oM;have c7:=za6 B oM;have c9:(fV Ls)[((j:Nat):Int).toNat]?=some (fV Ls)[j]:=List.getElem?_eq_getElem a4;have d0:(fV Ls).take (j+1)=(fV Ls).take j++[(fV Ls)[j]]:=tS a4;have d1:fV Ls=(fV Ls).take j++(fV Ls)[j]::(fV Ls).drop (j+1):=by rw[List.getElem_cons_drop,zj5]
   have hy:=hY _ _ _ i sx d1 hJ;refine XC.skip<|XT.thenN<|XC.seq<|XC.block<|XC.seq<|XC.region<|XL.u (iA az zT3 I I c7 oM sL) dC<|XL.q (eB iT3 I (za7<|za5 B s) c9 I) dC<|XL.u (aS I) dC<|XL.nil<|XT.thenN<|XC.seq<|XC.region<|XL.u (mV I) dC<|XL.u (mV I) dC<|XL.x (XO.yield I I hy) dC ?_;rintro _ _ _ ⟨rfl,j',d2,d3,rfl,rfl⟩;exact XL.u (SU.not I) dC<|XL.nil<|XT.thenN<|XC.condF I<|XC.skip<|XT.blockN<|XT.thenN<|XC.region<|XL.u (aD I I oM) dC<|XL.u (mV I) dC<|XL.nil<|XT.again (j',j+1) sB I I ⟨by dsimp only;omega,s.trans d3,by dsimp only;rw[d0];exact d2⟩ (by dsimp only;omega)
  ·have d4:(fV Ls).take j=fV Ls:=tL oM;rw[d4] at hJ;exact XC.exit<|XT.thenX<|XT.thenX<|XT.blockX<|XT.leave0 (.inr I)<|ST.ret0 (.inr I) results82 ⟨i,hJ,I,I⟩
def jmF:Nat→List Int→List (Int×Value)
 | _,[]=>[]
 | k,v::J=>((k:Int),vi v)::jmF (k+1) J
theorem A9:∀ (J:List Int) (k i:Nat),eu (jmF k J) ((k+i:Nat):Int)=(J[i]?).map vi
 | [],_,_=>rfl
 | v::J,k,0=>by
  unfold jmF;rw[de,zg4 dO];rfl
 | v::J,k,i+1=>by
  unfold jmF;rw[de,zg3 oM];have:=A9 J (k+1) i;rw[show ((k+(i+1):Nat):Int)=((k+1+i:Nat):Int) by omega,this];rfl
theorem A7 (v:Int):∀ (J:List Int) (k i:Nat),i<J.length→gy (jmF k J) ((k+i:Nat):Int) (vi v)=jmF k (J.set i v)
 | [],_,_,h=>by simp at h
 | u::J,k,0,_=>by
  unfold jmF;rw[gy,zg4 dO];rfl
 | u::J,k,i+1,h=>by
  unfold jmF;rw[gy,zg3 oM];have:=A7 v J (k+1) i (by simpa using h);rw[show ((k+(i+1):Nat):Int)=((k+1+i:Nat):Int) by omega,this];rfl
theorem Bx (v:Int):∀ (J:List Int) (k:Nat),gy (jmF k J) ((k+J.length:Nat):Int) (vi v)=jmF k (J++[v])
 | [],k=>by simp[jmF,gy]
 | u::J,k=>by
  unfold jmF;rw[List.cons_append,gy,zg3 (by simp;omega)];have:=Bx v J<|k+1;rw[show ((k+(u::J).length:Nat):Int)=((k+1+J.length:Nat):Int) by simp;omega,this]
theorem wu:∀ (J:List Int) (k:Nat),(jmF k J).map (fun p=>p.2)=J.map vi
 | [],_=>rfl
 | v::J,k=>by
  unfold jmF;rw[zg7,wu J<|k+1];rfl
theorem A8:∀ (J:List Int) (k:Nat),(jmF k J).length=J.length
 | [],_=>rfl
 | v::J,k=>by unfold jmF;rw[zf2,A8 J<|k+1,zf2]
theorem Fb {L J:List Int}(h:(L.map vi).Perm (J.map vi)):L.Perm J:=by
 have b:=h.filterMap unK;rw[List.filterMap_map,List.filterMap_map] at b;have e:(unK ∘ vi)=some:=funext fun a=>Gs a;rw[e,List.filterMap_some,List.filterMap_some] at b;exact b
theorem vC (E:World)(g:PH)(s:Own)(m:Nat) :
  Ctr Tryz.prog E 90 #[.map<|some m] g s (fun r g' s'=>s=s'∧Le g g'∧∃ b,r = .func (.func 135) #[] #[pp b 0]∧g' b=some (bY #[.map<|some m] 128)):=by
 refine zb2 (args:=[.map<|some m]) func90 I ntmps90 (bE I)<|rZ (bW (bO I) fun c=>?_);refine aT I (rZ<|lU (SU.mkFunc I)<|aT I<|rE<|ST.freeze fun g1 a hb=>?_);exact za8 (.inl I) results90 I ⟨I,a,_,I,hb⟩
theorem tH (E:World)(g0:PH)(b m:Nat)(J0:List Int)(hb:g0 b=some (bY #[.map<|some m] 128))(hm:Mp g0 m (jmF 0 J0)) :
  EU Tryz.prog E 135 [pp b 0] (fun v:Int=>[vi v]) (fun pre _=>pre.length≤J0.length) (fun L=>L.Perm J0) g0:=by
 intro y ι G S J i0 Q a R T sx;have r:=a _ _ Q;have F:=r _ _ hb;obtain ⟨es,clk,g,c⟩:=hm;refine Ctr.ofX (args:=[.func (.yield y) #[] #[],pp b 0]) func135 I ntmps135 (bE I)<|XC.seq<|XC.region<|XL.q (qL (v:=.map<|some m) isAgg128 I<|cK F I) dC<|XL.o (SO.range underlying128 I<|r _ _ g) dC ?_;rintro _ _ _ ⟨it,rfl,rfl,rfl⟩;refine XL.nil<|XT.thenN<|XC.block<|XC.to (g':=G i0) (s':=S i0++(iter it m es clk []::sx)) (fun w U=>U.perm List.perm_middle.symm)<|XC.loop (ι:=ι×List MapEntry×List (Int×Value)×List Int) (fun z=>[(0,.func (.yield y) #[] #[]),(6,pp it 0)]) (fun z=>G z.1) (fun z=>S z.1++(iter it m es clk z.2.1::sx)) (fun z=>l6 (jmF 0 J0) es z.2.1 z.2.2.1∧z.2.2.1.map (fun p=>p.2)=z.2.2.2.map vi∧J z.2.2.2 z.1) (fun z=>J0.length - z.2.2.1.length) (i0,[],[],[])
  sB rfl rfl ⟨l6.nil _ _,rfl,Q⟩ ?_
 rintro ⟨i,vis,vl,L⟩ ⟨j,d,D⟩;dsimp only at j d D ⊢;have s:=j.len c;rw[A8] at s;have V:vl.length=L.length:=by have:=ze5 List.length d;simpa using this
 have t:=a _ _ D;refine XC.seq<|XC.region<|XL.o (SO.nextP (S i).length I dO (t _ _ g) c j) dC ?_;rintro _ _ _ ⟨rfl,l⟩
 rcases l with ⟨rfl,rfl,n⟩ | ⟨e,pr,W,H,K,M,f,rfl,A⟩
 ·have N:L.Perm J0:=by
   have B:=n.map fun p=>p.2;rw[d,wu] at B;exact Fb B
  exact XL.u (xT I I) dC<|XL.nil<|XT.thenN<|XC.seq<|XC.condF I<|XC.exit<|XT.thenX<|XT.thenX<|XT.blockX<|XT.drop (s':=S i++sx) ((zc4 _).append<|zj4 _ _)<|XT.leave0 (.inr I)<|ST.ret0 (.inr I) results135 ⟨L,i,N,D,I,I⟩
 ·obtain ⟨k,u⟩:=pr;obtain ⟨v,rfl⟩:∃ v,u=vi v:=by
   have B:u∈(jmF 0 J0).map (fun p=>p.2):=zf5.2 ⟨_,H,rfl⟩;rw[wu] at B;obtain ⟨v,_,e⟩:=zf5.1 B;exact⟨v,e.symm⟩
  have C:(S i++(iter it m es clk vis::sx)).set (S i).length (iter it m es clk<|vis++[e])=S i++(iter it m es clk (vis++[e])::sx):=by simp
  rw[C] at A;subst A;have O:=f.len c;rw[A8,ze8,zf1] at O;have X:=T L v i (iter it m es clk (vis++[e])::sx) oM D;refine XL.u (xT I I) dC<|XL.nil<|XT.thenN<|XC.seq<|XC.condT I<|XC.skip<|XT.thenN<|XC.block<|XC.seq<|XC.region<|XL.q (SQ.entryP (vis:=vis) (S i).length I dO (t _ _ g) c W K M) dC ?_;refine XL.u (xT I I) dC<|XL.u (aS I) dC<|XL.nil<|XT.thenN<|XC.seq<|XC.region<|XL.u (mV I) dC<|XL.u (mV I) dC<|XL.x (XO.yield I I X) dC ?_;rintro _ _ _ ⟨rfl,Y,P,Z,rfl,rfl⟩;exact XL.u (SU.not I) dC<|XL.nil<|XT.thenN<|XC.condF I<|XC.skip<|XT.blockN<|XT.again (Y,vis++[e],vl++[(k,vi v)],L++[v]) sB I I ⟨f,by dsimp only;rw[zg8,zg8,d];rfl,P⟩ (by dsimp only;rw[ze8,zf1];omega)
theorem AK (E:World)(g:PH)(s:Own)(b m:Nat)(J0:List Int)(hb:g b=some (bY #[.map<|some m] 128))(hm:Mp g m (jmF 0 J0))(hl:J0.length<1000000) :
  Ctr Tryz.prog E 134 #[.slice none 0 0,.func (.func 135) #[] #[pp b 0]] g s (fun r g' s'=>s=s'∧Le g g'∧∃ L,dw g' r L∧L.Perm J0):=by
 refine Ctr.ofX (args:=[.slice none 0 0,.func (.func 135) #[] #[pp b 0]]) func134 I ntmps134 (bE I)<|XC.seq<|XC.region<|XL.o (bO I) dC ?_;rintro _ _ _ ⟨f,rfl,rfl,rfl⟩;refine XL.u (aS I) dC<|XL.nil<|XT.thenN<|XC.seq<|XC.seq<|XC.region<|XL.u (mV I) dC<|XL.nil<|XT.thenN<|XC.block<|XC.to (g':=g) (s':=rowA encInt 3 (.slice none 0 0) []::pt f (bY #[.slice none 0 0] 32)::s) (fun w z=>z.nilRow 3 1)<|XC.rangeFuncP (α:=Int) (ι:=PH×Value×List Int) (κ:=Unit) (encs:=fun v=>[vi v]) (g0:=g) (fun i=>i.1) (fun i=>rowA encInt 3 i.2.1 i.2.2::pt f (bY #[i.2.1] 32)::[])
  (fun pre i=>Le g i.1∧i.2.2=pre) (g,.slice none 0 0,[]) s
  (fun x=>[(7,vi x),(2,pp f 0)]) (fun _ x _ _=>[(5,vi x),(2,pp f 0)]) (fun _ _=>[])
  rfl rfl call135 (fun _=>rfl) rfl rfl (tH E g b m J0 hb hm) (fun _ _ h=>h.1) (fun pre i g' n hl=>⟨(g',i.2),⟨n.1.trans hl,n.2⟩,rfl,rfl⟩) ⟨zb9 _,rfl⟩
  (fun x a h=>sr (h.sub (g:=[(2,pp f 0)]) ⟨rfl,trivial⟩) dC) ?_ ?_ ?_
 ·intro y pre x i A n;exact XC.region<|XL.u (aS I) dC<|XL.nil<|XT.assignEndA () sB I
 ·rintro y pre x ⟨g1,B,acc⟩ A q - C ⟨c,rfl⟩;dsimp only at C c ⊢;refine XC.facts fun ⟨j,d⟩=>?_;obtain ⟨F,G,rfl⟩:=ah (e:=encInt) (l:=acc) (i:=0) d rfl;clear d j;refine XC.block<|XC.region<|XL.q (qL ik I<|cO 1 I I) dC<|XL.u (mV I) dC<|XL.o (bS sty32 I I I (ae ⟨I,trivial⟩) dC) dC ?_;rintro _ _ _ ⟨H,rfl,rfl,rfl⟩;refine XL.o (aP (e:=encInt) (l:=acc) 0 x sty32 I I I I I oM oM) dC ?_;rintro ov' _ _ ⟨rfl,rfl⟩;refine XL.facts fun ⟨j,d⟩=>?_;obtain ⟨J,d1,rfl⟩:=ah (e:=encInt) (l:=acc++[x]) (i:=0) d rfl;clear d j;refine XL.on (sK 1 gh I I I I I sB) ?_;rintro _ _ _ ⟨rfl,rfl⟩;exact XL.nil<|XT.blockN<|XT.roundEnd2 (g1,_,acc++[x]) I I ⟨c,I⟩<|zb9 _
 ·rintro D xs ⟨g1,B,acc⟩ t ⟨c,rfl⟩;dsimp only at t c ⊢;refine XT.facts fun ⟨j,d⟩=>?_;obtain ⟨F,G,rfl⟩:=ah (e:=encInt) (l:=acc) (i:=1) d rfl;clear d j;refine XT.blockN<|XT.thenN<|XC.seq<|XC.region<|XL.q (qL ik I<|cO 2 I I) dC<|XL.u (aS I) dC<|XL.nil<|XT.thenN<|XC.ret<|XT.leave1 (.inl I)<|fT fun g2 k p=>?_;exact dR (s':=s) uR<|za8 (.inl I) results134 I ⟨I,c.trans k,acc,p,t⟩
theorem t8 (E:World)(g:PH)(s:Own)(b m:Nat)(J0:List Int)(hb:g b=some (bY #[.map<|some m] 128))(hm:Mp g m (jmF 0 J0))(hl:J0.length<1000000) :
  Ctr Tryz.prog E 89 #[.func (.func 135) #[] #[pp b 0]] g s (fun r g' s'=>s=s'∧Le g g'∧∃ L,dw g' r L∧L.Perm J0):=by
 refine zb2 (args:=[.func (.func 135) #[] #[pp b 0]]) func89 I ntmps89 (bE I)<|rZ<|aT I<|sW I<|lW (SO.call call134 I<|AK E g _ b m J0 hb hm hl) ?_;rintro _ g1 _ ⟨rfl,a,L,c,hp⟩;obtain ⟨d,c1,rfl⟩:=za4 c;exact aT I<|rE<|za8 (.inl I) results89 I ⟨I,a,L,c,hp⟩
theorem Cw (E:World)(g:PH)(s:Own)(v:Value)(L:List Int)(d:dw g v L)(hl:L.length<1099511627776)(f:0<L.length) :
  Ctr Tryz.prog E 88 #[v] g s (fun r g' s'=>(∃ M:Int,r=vi M∧M∈L∧∀ x∈L,x≤M)∧g=g'∧s=s'):=by
 obtain ⟨p,c,rfl⟩:=za4 d;have hb:=za6 d f;have j:L[((0:Nat):Int).toNat]?=some L[0]:=List.getElem?_eq_getElem f;refine zb2 (args:=[.slice p L.length c]) func88 I ntmps88 (bE I)<|rZ<|aT I<|sQ<|sW I<|lU (eN az I)<|lU (SU.eq (v':=vb false) (lS I I)<|ze5 vb<|zg1 oM)<|tZ<|za1 I<|kP<|tN<|sW I<|lU (iA (i:=0) az zT3 I I hb dC (show (0:Int)<((L.length:Nat):Int) by omega)) ?_;refine lK (eB iT3 I (za7 d) j I)<|aT I<|sQ<|rZ<|aT I<|bK ?_;refine oP (ι:=Nat×Int) (fun z=>[(0,.slice p L.length c),(3,vi z.2),(4,vi z.1)]) (fun _=>g) (fun _=>s) (fun z=>1≤z.1∧z.1≤L.length∧z.2∈L∧∀ x∈L.take z.1,x≤z.2) (fun z=>L.length - z.1) (1,L[0])
  sB rfl rfl ⟨Nat.le_refl _,by dsimp only;omega,gM f,fun x l=>by
   dsimp only at l ⊢;rw[tS f] at l;simp at l;omega⟩ ?_
 rintro ⟨k,M⟩ ⟨m,w,u,a⟩;dsimp only at m w u a ⊢;refine sQ<|sW I<|lM I<|lU (eN az I)<|yL I<|tZ<|iP I (fun n=>?_) (fun n=>?_)
 ·have b:k<L.length:=oM;have o:L[((k:Nat):Int).toNat]?=some L[k]:=List.getElem?_eq_getElem b;have q:L.take (k+1)=L.take k++[L[k]]:=tS b;have y:L[k]∈L:=gM b;generalize L[k]=x at *;refine kP (tN (sQ (bK (rG (lM I (lM I (lM I (lU (iA az zT3 I I hb oM sL) (lK (eB iT3 I (za7 d) o I) (lU (SU.maxI I I) (lA I (SL.nil (bN (tN (rG (lM I (yD I (lA I (SL.nil ?_)))))))))))))))))));exact ST.again (k+1,max M x) sB I I ⟨by dsimp only;omega,by dsimp only;omega,by
   dsimp only
   rcases (by omega:max M x=M∨max M x=x) with e | e <;> rw[e] <;> assumption,fun z hz=>by
   dsimp only at hz ⊢;rw[q] at hz
   rcases zf6.1 hz with h | h
   ·have:=a z h;omega
   ·simp at h;omega⟩ (by dsimp only;omega)
 ·have t:L.take k=L:=tL oM;rw[t] at a;exact xI<|tX<|tX<|bX<|tN<|sW I<|aT I<|rE<|za8 (.inl I) results88 I ⟨⟨M,I,u,a⟩,I,I⟩
def qE (S:List Cl)(d:Int)(s:am):Bool:=match ab S s.cell with
 | none=>true
 | some y=>decide (y.dim≠d - 1)
theorem GD (E:World)(g:PH)(f bx:Nat)(v:Value)(tl:List Cl)(r c:Int)(xs:Value)(t:l5 g v tl)(hd:0≤c∧c≤100)(u:g f=some (bY #[v] 65))(w:g bx=some (bY #[vi r,vi c,xs] 37)) :
  Dh E (.func (.func 87) #[] #[pp f 0,pp bx 0]) (qE tl c) g:=by
 intro g s a d;refine cz.mk (cap:=[pp f 0,pp bx 0]) call87 ?_;have i:=d _ _ u;have j:=d _ _ w;obtain ⟨m,rs,rfl,hm,e⟩:=t.mono d;obtain ⟨⟨x,k,z,A,yc⟩,l,n,-,o,-⟩:=dG e ib a.cell;have p:(eu (rs.map ap) a.cell).isSome=(ab tl a.cell).isSome:=n;have b:k=((ab tl a.cell).getD aA).dim:=o;refine zb2 (args:=[.agg (encSide.enc a).toArray,pp f 0,pp bx 0]) func87 I ntmps87 (bE I)<|rZ (bW (bO I) fun B=>?_);refine aT I<|rZ<|lK (qL (v:=.map<|some m) ep I<|cK i I)<|lU (fA df I zT3 I)<|lK (qL (v:=vi a.cell) iT3 I<|cO 0 I I)<|lK (SQ.eq (v':=.tuple #[.agg #[vi x,vi k,.slice z A yc],vb (ab tl a.cell).isSome]) (SQ.lookupOk mty65 I I<|bh.known hm) (by rw[l,p];rfl)) ?_;refine lM I (yX I<|yX I<|bW (aL zl8) fun C=>?_);refine oZ (sK 0 ar I I I I I sB)<|aT I ?_;cases q:ab tl a.cell with
 | none =>
  have hq:qE tl c a=true:=by unfold qE;rw[q]
  exact sW I<|lU (SU.not I)<|lM I<|yA I<|yA I<|yA I<|yA I<|yA I<|yA I<|yP I<|aT I<|rE<|dR (s':=s) uR<|za8 (.inl I) results87 I ⟨by rw[hq],I,I⟩
 | some y =>
  have hq:qE tl c a=decide (y.dim≠c - 1):=by unfold qE;rw[q]
  rw[q] at b;have b:k=y.dim:=b;subst b;exact sW I<|lU (SU.not I)<|lM I<|lY I I I (fA ao I zT3 I)<|SL.gq (gT I I I dC) (qL (v:=vi y.dim) iT3 I<|cO 0 I I) dC<|lY I I I (fA ao I zT3 I)<|SL.gq (gT I I I dC) (qL (v:=vi c) iT3 I<|cK j I) dC<|lY I I I (sU I I ⟨oM,oM⟩)<|lY I I I (nQ I I)<|yF I<|aT I<|rE<|dR (s':=s) uR<|za8 (.inl I) results87 I ⟨by rw[hq],I,I⟩
theorem xw (E:World)(g:PH)(s:Own)(v:Value)(tl:List Cl)(c:Cl)(r:Rc)(l:l5 g v tl)(hc:ak g c r)(hl:c.sides.length<1099511627776)(hd:0≤c.dim∧c.dim≤100) :
  Ctr Tryz.prog E 30 #[v,rcv r] g s (fun r g' s'=>r=vb (jc tl c)∧s=s'∧Le g g'):=by
 obtain ⟨x,rd,n,w,d⟩:=r;obtain ⟨o,p,e⟩:=hc;dsimp only at o p e;have i:w=c.sides.length:=zc2 e;subst o p i;have j:=l;obtain ⟨m,rs,rfl,hm,q⟩:=l;refine zb2 (args:=[.map<|some m,.agg #[vi c.id,vi c.dim,.slice n c.sides.length d]]) func30 I ntmps30 (bE I)<|rZ (bW (bO I) fun t=>?_);refine bW (bO I) fun u=>aT I (sQ<|SC.freeze fun g1 b f=>?_);refine SC.freeze fun g2 a k=>?_;refine rG<|lU (fA ao I aI I)<|lK (qL (v:=.slice n c.sides.length d) bi I<|cK (a _ _ f) I)<|lU (SU.mkFunc I)<|lW (SO.call call86 I<|my E g2 _ _ 87 #[pp t 0,pp u 0] c.sides (qE tl c.dim) (za5 e<|b.trans a) hl (GD E g2 t u _ tl c.id c.dim _ (j.mono<|b.trans a) hd k<|a _ _ f)) ?_;rintro _ _ _ ⟨rfl,rfl,rfl⟩;exact aT I<|rE<|za8 (.inl I) results30 I ⟨I,I,b.trans a⟩
set_option maxHeartbeats 8000000
theorem SU.minM {P:Program}{N:Nat}{f:Fr}{dst:Option Tmp}{ty:TypeId}{pos:String}{af:Array Edge}{gd:Option (Nat×Bool)}{x y:Operand}{T U:TypeId}{m n:Int}(c:ev f x=some (vi m))(d:ev f y=some (vi n)) :
  SU P N ⟨dst,.call ⟨.builtin .min,#[x,y],#[T,U]⟩,ty,pos,af,gd⟩ f (vi<|min m n):=fun a w b=>by
 have h:=run_min_int2 (P:=P) (w:=w) #[T,U] ty .i64 .i64 m n;have e:(if n<m then n else m)=min m n:=by split <;> omega
 rw[e] at h;simp[execOp,resolve,invoke,builtin,b.ev c,b.ev d,h]
theorem tj (k:Int):∀ F:List (Int×Int),eu (gi F) k=(qH F k).map vi
 | []=>rfl
 | (a,z)::F=>by
  show eu ((a,vi z)::gi F) k=_;rw[de,tj k F];simp only[qH];split <;> rfl
theorem yt {k i:Int}:∀ {F:List (Int×Int)},qH F k=none→gy (gi F) k (vi i)=gi (F++[(k,i)])
 | [],_=>rfl
 | (a,z)::F,h=>by
  simp only[qH] at h;split at h
  ·cases h
  ·rename_i b;show (if k=a then _ else (a,vi z)::gy (gi F) k (vi i))=_;rw[zg3 b,yt h];rfl
theorem Am {tl:List Cl}{l:List am}{x:am}:jR tl (l++[x])=(ay tl x).foldl oz (jR tl l):=by
 simp[jR,zj3]
theorem xb (k:Nat):(List.range<|k+1).map (fun i:Nat=>(i:Int))=(List.range k).map (fun i:Nat=>(i:Int))++[(k:Int)]:=by rw[List.range_succ,zg8];rfl
theorem xq (E:World)(g:PH)(s:Own)(v:Value)(tl:List Cl)(c:Cl)(r:Rc)(hv:l5 g v tl)(hc:ak g c r)(n4:AOk tl c)(h0:0<c.sides.length)(hn:(c.sides.map am.cell).Nodup) :
  Ctr Tryz.prog E 32 #[v,rcv r] g s (fun r g' s'=>r=vb (decide (bC tl c≠0))∧s=s'∧Le g g'):=by
 obtain ⟨m,rs,rfl,hm,b7⟩:=hv;obtain ⟨D,rd,l,rn,d⟩:=r;have a2:SlA encSide g (.slice l rn d) c.sides:=hc.2.2;have n5:rn=c.sides.length:=zc2 a2;subst n5;clear hc;obtain ⟨q3,n6,h4⟩:=n4;have h5:=fun h=>za6 a2 h;refine zb2 (args:=[.map<|some m,.agg #[vi D,vi rd,.slice l c.sides.length d]]) func32 I ntmps32 (bE I)<|rZ (bW (bO I) fun o=>?_);refine aT I<|rZ<|lW (SO.mkMap) ?_;rintro _ _ _ ⟨mz,rfl,rfl,rfl⟩;refine lW (SO.mkMap) ?_;rintro _ _ _ ⟨mm,rfl,rfl,rfl⟩;refine lA I<|aT I<|rZ<|lW (SO.mkMap) ?_;rintro _ _ _ ⟨f,rfl,rfl,rfl⟩;refine aT I<|SC.cut (ι:=List (Int×Int)×List (Int×Int)) (fun _=>[(0,.map<|some m),(3,pp o 0),(5,.map<|some mz),(6,.map<|some mm),(7,.map<|some f)]) (fun _=>g) (fun q=>mp f (jmF 0 ((List.range c.sides.length).map fun i:Nat=>(i:Int)))::mp mm (gi q.2)::mp mz (gi q.1)::pt o (bY #[vi D,vi rd,.slice l c.sides.length d] 37)::s)
  (fun q=>q.1=fF tl c.sides∧q.2=jR tl c.sides) ?_ ?_
 ·refine rZ<|lU (fA ao I aI I)<|lK (qL bi I<|cO 3 I I)<|lU (eN a7 I)<|lM I<|tZ<|bK<|oP (ι:=Nat×List (Int×Int)×List (Int×Int)) (fun q=>[(0,.map<|some m),(3,pp o 0),(5,.map<|some mz),(6,.map<|some mm),(7,.map<|some f),(26,.slice l c.sides.length d),(27,vi c.sides.length),(28,vi q.1)]) (fun _=>g)
   (fun q=>mp f (jmF 0 ((List.range q.1).map fun i:Nat=>(i:Int)))::mp mm (gi q.2.2)::mp mz (gi q.2.1)::pt o (bY #[vi D,vi rd,.slice l c.sides.length d] 37)::s)
   (fun q=>q.1≤c.sides.length∧q.2.1=fF tl (c.sides.take q.1)∧q.2.2=jR tl (c.sides.take q.1)∧(∀ p∈q.2.1,-((64 * q.1:Nat):Int)≤p.2∧p.2≤((64 * q.1:Nat):Int))∧∀ p∈q.2.2,-((64 * q.1:Nat):Int)≤p.2∧p.2≤((64 * q.1:Nat):Int)) (fun q=>c.sides.length - q.1)
   (0,[],[]) sB rfl rfl ⟨zf9 _,by simp[fF],by simp[jR],by simp,by simp⟩ ?_
  rintro ⟨k,c9,d0⟩ ⟨hk,a3,a4,b8,c0⟩;dsimp only at hk a3 a4 b8 c0 ⊢;refine rZ<|yL I<|tZ<|sQ<|iP I (fun d1=>?_) (fun d1=>?_)
  ·have A:k<c.sides.length:=oM;have d2:=h5 oM;have d3:c.sides[((k:Nat):Int).toNat]?=some c.sides[k]:=List.getElem?_eq_getElem A;have h6:c.sides.take (k+1)=c.sides.take k++[c.sides[k]]:=tS A;have a5:c.sides[k]∈c.sides:=gM A;have U:=Bx (k:Int) ((List.range k).map fun i:Nat=>(i:Int)) 0;rw[← xb,ze9,zi7,Nat.zero_add] at U;generalize c.sides[k]=y at *;obtain ⟨x,d4,n7,d5⟩:=dG b7 ib y.cell;obtain ⟨xi,xd,xp,xn,xc⟩:=x;have t:SlA encSide g (.slice xp xn xc) (ay tl y):=d5.2.2;have d6:xn=(ay tl y).length:=zc2 t;subst d6;have h7:=n6 y a5;obtain ⟨d7,h8⟩:=h4 y a5;generalize G:ay tl y=sy at t d7 h8;refine kP (tN<|sQ<|bK<|sW I<|lU (iA a7 aR I I d2 oM sL)<|lK (SQ.elemA iY aR I (za7 a2) d3)<|bW (aL zm3) fun b9=>?_);refine lA I<|oZ (sK 0 aR I I I I I sB)<|tZ<|sW I<|lM I<|lM I<|lO (SO.mapUpdate 1 mty128 I I I I) ?_;rintro _ _ _ ⟨rfl,rfl⟩;rw[U];refine tZ<|sW I<|lU (fA df I zT3 I)<|lK (qL (v:=vi y.cell) iT3 I<|cO 0 I I)<|lK (SQ.eq (v':=rcv ⟨xi,xd,xp,sy.length,xc⟩) (SQ.lookup mty65 I I<|bh.known hm)<|by rw[d4,G]) ?_;refine lU (SU.field ao I bi I I)<|lU (eN a7 I)<|lM I<|tZ<|bK ?_;refine oP (ι:=Nat×List (Int×Int)×List (Int×Int)) (fun q=>[(0,.map<|some m),(3,pp o 0),(5,.map<|some mz),(6,.map<|some mm),(7,.map<|some f),(9,pp b9 0),(26,.slice l c.sides.length d),(27,vi c.sides.length),(28,vi k),(40,.slice xp sy.length xc),(41,vi sy.length),(42,vi q.1)]) (fun _=>g)
    (fun q=>pt b9 (bY #[vi y.cell,vi y.sign] 80)::mp f (jmF 0 ((List.range<|k+1).map fun i:Nat=>(i:Int)))::mp mm (gi q.2.2)::mp mz (gi q.2.1)::pt o (bY #[vi D,vi rd,.slice l c.sides.length d] 37)::s)
    (fun q=>q.1≤sy.length∧q.2.1=(sy.take q.1).foldl (jQ y) c9∧q.2.2=(sy.take q.1).foldl oz d0∧(∀ p∈q.2.1,-((64 * k+q.1:Nat):Int)≤p.2∧p.2≤((64 * k+q.1:Nat):Int))∧∀ p∈q.2.2,-((64 * k+q.1:Nat):Int)≤p.2∧p.2≤((64 * k+q.1:Nat):Int)) (fun q=>sy.length - q.1)
    (0,c9,d0) sB rfl rfl ⟨zf9 _,by simp,by simp,by simpa using b8,by simpa using c0⟩ ?_
   rintro ⟨j,w,ml⟩ ⟨hj,hz,R,a9,b0⟩;dsimp only at hj hz R a9 b0 ⊢;refine rZ<|yL I<|tZ<|sQ<|iP I (fun V=>?_) (fun V=>?_)
   ·have H:j<sy.length:=oM;have b1:=za6 t oM;have O:sy[((j:Nat):Int).toNat]?=some sy[j]:=List.getElem?_eq_getElem H;have W:sy.take (j+1)=sy.take j++[sy[j]]:=tS H;have h9:=h8 _ (gM H);generalize sy[j]=z at *;have X:=m5 oM a9 z.cell;have q6:=m5 oM b0 z.cell;have q7:=sX h7 h9;refine kP (tN (sQ (bK (rZ (lU (iA a7 aR I I b1 oM sL) (lK (SQ.elemA iY aR I (za7 t) O) (bW (aL zm3) fun q8=>?_)))))));refine oZ (sK 0 aR I I I I I sB)<|tZ (sW I (lU (fA df I zT3 I) (lK (qL (v:=vi z.cell) iT3 I (cO 0 I I)) (lK (SQ.eq (v':=vi (eW w z.cell)) (SQ.lookup mty128 I I (bh.own 4 I)) (lE w _)) (lU (fA df I zT3 I) (lK (qL (v:=vi y.sign) iT3 I (cO 1 I I)) (lU (fA df I zT3 I) (lK (qL (v:=vi z.sign) iT3 I (cO 0 I I)) (lU (SU.mul (m:=y.sign) (n:=z.sign) I I oM) (lU (aD (m:=eW w z.cell) (n:=y.sign * z.sign) I I oM) (lO (SO.mapUpdate 4 mty128 I I I I) ?_)))))))))));rintro _ _ _ ⟨rfl,rfl⟩;rw[tt];refine tZ (rG (lM I (lU (fA df I zT3 I) (lK (qL (v:=vi z.cell) iT3 I (cO 0 I I)) (lK (SQ.eq (v':=vi (eW ml z.cell)) (SQ.lookup mty128 I I (bh.own 3 I)) (lE ml _)) (lU (aD (m:=eW ml z.cell) (n:=1) I I oM) (lO (SO.mapUpdate 3 mty128 I I I I) ?_)))))));rintro _ _ _ ⟨rfl,rfl⟩;rw[tt];refine SL.nil (bN (tN (rG (yD I (lM I (SL.nil (dR (s':=pt b9 (bY #[vi y.cell,vi y.sign] 80)::mp f (jmF 0 ((List.range (k+1)).map fun i:Nat=>(i:Int)))::mp mm (gi (fE ml z.cell 1))::mp mz (gi (fE w z.cell (y.sign * z.sign)))::pt o (bY #[vi D,vi rd,.slice l c.sides.length d] 37)::s) (.cons _ (.refl _)) ?_)))))));exact ST.again (j+1,fE w z.cell (y.sign * z.sign),fE ml z.cell 1) sB I I ⟨by dsimp only;omega,by rw[W,zj3,← hz];rfl,by rw[W,zj3,← R];rfl,by
      have:=na oM a9 z.cell (x:=y.sign * z.sign) oM;intro p hp;have:=this p hp;dsimp only at *;omega,by
      have:=na oM b0 z.cell (x:=1) oM;intro p hp;have:=this p hp;dsimp only at *;omega⟩ (by dsimp only;omega)
   ·refine xI (tX (tX (bX (bN (tN (rG (yD I (lM I (SL.nil ?_)))))))));have d8:sy.take j=sy:=tL oM;rw[d8] at hz R;refine dR (s':=mp f (jmF 0 ((List.range (k+1)).map fun i:Nat=>(i:Int)))::mp mm (gi ml)::mp mz (gi w)::pt o (bY #[vi D,vi rd,.slice l c.sides.length d] 37)::s) (.cons _ (.refl _)) ?_;exact ST.again (k+1,w,ml) sB I I ⟨by dsimp only;omega,by dsimp only;rw[h6,rf,G,← a3];exact hz,by dsimp only;rw[h6,Am,G,← a4];exact R,by
      intro p hp;have:=a9 p hp;dsimp only at *;omega,by
      intro p hp;have:=b0 p hp;dsimp only at *;omega⟩ (by dsimp only;omega)
  ·refine xI<|tX<|tX<|bX ?_;have d9:k=c.sides.length:=oM;subst d9;rw[List.take_length] at a3 a4;exact za9 (c9,d0) sB I I ⟨a3,a4⟩
 ·rintro ⟨w,ml⟩ ⟨hz,e0⟩;dsimp only at hz e0 ⊢;refine cP (zk4 _ _ _) (SC.freezeMap fun g1 n8 R=>?_);refine cP (zk4 _ _ _) (SC.freezeMap fun g2 i0 i1=>?_);have i2:=R.mono i0;have B:=n8.trans i0;have o1:=hm.mono B;have e1:=b7.mono fun _ _ h=>ak.mono B h;have i3:=za5 a2 B;have j0:=i1;obtain ⟨es,clk,e2,b2⟩:=i1;refine sQ<|sW I<|lW (SO.range underlying128 I e2) ?_;rintro _ _ _ ⟨it,rfl,rfl,rfl⟩;refine tZ<|bK<|oP (ι:=List MapEntry×List (Int×Value)) (fun _=>[(0,.map<|some m),(3,pp o 0),(5,.map<|some mz),(6,.map<|some mm),(7,.map<|some f),(64,pp it 0)]) (fun _=>g2)
   (fun i=>iter it mz es clk i.1::mp f (jmF 0 ((List.range c.sides.length).map fun i:Nat=>(i:Int)))::pt o (bY #[vi D,vi rd,.slice l c.sides.length d] 37)::s)
   (fun i=>l6 (gi w) es i.1 i.2∧∀ p∈w,(p.1,vi p.2)∈i.2→p.2=0∧eW ml p.1=2) (fun i=>w.length - i.2.length) ([],[])
   sB rfl rfl ⟨l6.nil _ _,fun _ _ h=>by simp at h⟩ ?_
  rintro ⟨vis,vl⟩ ⟨e4,K⟩;dsimp only at e4 K ⊢;have c1:(gi w).length=w.length:=by unfold gi;rw[ze9]
  have j1:=e4.len b2;rw[c1] at j1;refine rZ<|lW (SO.nextP 0 I I e2 b2 e4) ?_;rintro _ _ _ ⟨rfl,e9⟩
  rcases e9 with ⟨rfl,rfl,f7⟩ | ⟨e,pr,he,o2,p0,p1,c2,rfl,rfl⟩
  ·have f8:mR tl c.sides=false:=by
    unfold mR;rw[← hz,← e0,zk8];intro p hp;have S:=K p hp<|f7.mem_iff.2<|zf5.2 ⟨p,hp,rfl⟩;simp[S.1,S.2]
   refine yX I<|tZ<|sQ<|za1 I<|xI<|tX<|tX<|bX<|tN<|rZ<|lW (SO.mkMap) ?_;rintro _ _ _ ⟨Y,rfl,rfl,rfl⟩;refine aT I<|sQ<|rZ<|aT I<|bK<|SC.drop (s':=mp Y (gi [])::mp f (jmF 0 ((List.range c.sides.length).map fun i:Nat=>(i:Int)))::pt o (bY #[vi D,vi rd,.slice l c.sides.length d] 37)::s) (.cons_cons _<|.cons _<|.refl _)<|oP (ι:=Bool×List Int×List (Int×Int)) (fun z=>[(0,.map<|some m),(3,pp o 0),(7,.map<|some f),(13,.map<|some Y),(14,vb z.1)]) (fun _=>g2) (fun z=>mp Y (gi z.2.2)::mp f (jmF 0 z.2.1)::pt o (bY #[vi D,vi rd,.slice l c.sides.length d] 37)::s)
    (fun z=>zH tl c.sides z.2.1∧GY tl c.sides z.2.2∧(z.1=false→wI tl c.sides z.2.2 z.2.1 c.sides.length)) (fun z=>z.2.1.sum.toNat+(if z.1 then 1 else 0)) (true,(List.range c.sides.length).map (fun i:Nat=>(i:Int)),[])
    sB rfl rfl ⟨zH.start tl c.sides,(fun r k h=>by cases h),fun h=>by cases h⟩ ?_
   rintro ⟨ch,J,F⟩ ⟨hJ,hF,hQ⟩;dsimp only at hJ hF hQ ⊢;have q9:=Bi fun i v h=>(hJ.low i v h).1;refine sQ<|sW I<|tZ<|iQ I (fun g6=>?_) (fun g6=>?_)
   ·subst g6;refine kP<|tN<|bK<|SC.scope<|rZ<|aT I<|sQ<|SC.label<|tN<|rZ<|lU (fA ao I aI I)<|lK (qL (v:=.slice l c.sides.length d) bi I<|cO 2 I I)<|lU (eN a7 I)<|lM I<|tZ<|bK<|oP (ι:=Nat×Bool×List Int×List (Int×Int)) (fun z=>[(0,.map<|some m),(3,pp o 0),(7,.map<|some f),(13,.map<|some Y),(14,vb z.2.1),(82,.slice l c.sides.length d),(83,vi c.sides.length),(84,vi z.1)]) (fun _=>g2) (fun z=>mp Y (gi z.2.2.2)::mp f (jmF 0 z.2.2.1)::pt o (bY #[vi D,vi rd,.slice l c.sides.length d] 37)::s)
     (fun z=>z.1≤c.sides.length∧zH tl c.sides z.2.2.1∧GY tl c.sides z.2.2.2∧(z.2.1=false→z.2.2.1=J∧wI tl c.sides z.2.2.2 z.2.2.1 z.1)∧z.2.2.1.sum≤J.sum∧(z.2.1=true→z.2.2.1.sum<J.sum)) (fun z=>c.sides.length - z.1) (0,false,J,F)
     sB rfl rfl ⟨zf9 _,hJ,hF,fun _=>⟨rfl,fun i x h=>by omega⟩,Int.le_refl _,fun h=>by cases h⟩ ?_
    rintro ⟨k,ch,J1,F1⟩ ⟨hk,N,g7,Z,j2,g8⟩;dsimp only at hk N g7 Z j2 g8 ⊢;refine rZ<|yL I<|tZ<|sQ<|iP I (fun d1=>?_) (fun d1=>?_)
    ·have A:k<c.sides.length:=oM;have d2:=h5 oM;have d3:c.sides[((k:Nat):Int).toNat]?=some c.sides[k]:=List.getElem?_eq_getElem A;have g9:c.sides[k]?=some c.sides[k]:=List.getElem?_eq_getElem A;have a5:c.sides[k]∈c.sides:=gM A;have l0:k<J1.length:=by rw[N.len];exact A
     have b4:J1[k]?=some J1[k]:=List.getElem?_eq_getElem l0;generalize J1[k]=a at b4;generalize c.sides[k]=y at *;obtain ⟨x,d4,n7,d5⟩:=dG e1 ib y.cell;obtain ⟨xi,xd,xp,xn,xc⟩:=x;have t:SlA encSide g2 (.slice xp xn xc) (ay tl y):=d5.2.2;have d6:xn=(ay tl y).length:=zc2 t;subst d6;obtain ⟨d7,-⟩:=h4 y a5;generalize G:ay tl y=sy at t d7;refine kP (tN<|sQ<|bK<|sW I<|lU (iA a7 aR I I d2 oM sL)<|lK (SQ.elemA iY aR I (za7 i3) d3)<|bW (aL zm3) fun b5=>?_);refine lA I<|oZ (sK 0 aR I I I I I sB)<|tZ<|sW I<|lU (fA df I zT3 I)<|lK (qL (v:=vi y.cell) iT3 I<|cO 0 I I)<|lK (SQ.eq (v':=rcv ⟨xi,xd,xp,sy.length,xc⟩) (SQ.lookup mty65 I I<|bh.known o1)<|by rw[d4,G]) ?_;refine lU (SU.field ao I bi I I)<|lU (eN a7 I)<|lM I<|tZ<|bK ?_;refine oP (ι:=Nat×List (Int×Int)) (fun z=>[(0,.map<|some m),(3,pp o 0),(7,.map<|some f),(13,.map<|some Y),(14,vb ch),(15,vi k),(16,pp b5 0),(82,.slice l c.sides.length d),(83,vi c.sides.length),(84,vi k),(93,.slice xp sy.length xc),(94,vi sy.length),(95,vi z.1)]) (fun _=>g2) (fun z=>pt b5 (bY #[vi y.cell,vi y.sign] 80)::mp Y (gi z.2)::mp f (jmF 0 J1)::pt o (bY #[vi D,vi rd,.slice l c.sides.length d] 37)::s)
      (fun z=>z.1≤sy.length∧GY tl c.sides z.2∧(∀ r v,qH F1 r=some v→qH z.2 r=some v)∧∀ q∈sy.take z.1,∃ n:Nat,qH z.2 q.cell=some (n:Int)∧J1[k]?=J1[n]?) (fun z=>sy.length - z.1) (0,F1)
      sB rfl rfl ⟨zf9 _,g7,fun _ _ h=>h,by simp⟩ ?_
     rintro ⟨j,F2⟩ ⟨hj,T,b6,a0⟩;dsimp only at hj T b6 a0 ⊢;refine rZ<|yL I<|tZ<|sQ<|iP I (fun V=>?_) (fun V=>?_)
     ·have H:j<sy.length:=oM;have b1:=za6 t oM;have O:sy[((j:Nat):Int).toNat]?=some sy[j]:=List.getElem?_eq_getElem H;have W:sy.take (j+1)=sy.take j++[sy[j]]:=tS H;have p2:sy[j]∈ay tl y:=by rw[G];exact gM H
      generalize sy[j]=z at *;have c3:0<kM tl y z.cell:=th.2 ⟨z,p2,rfl⟩;cases C:qH F2 z.cell with
      | none =>
       have l1:=yt (i:=(k:Int)) C;have P:=fun r=>yR (i:=(k:Int)) r C;refine kP (tN (sQ (bK (rZ (lU (iA a7 aR I I b1 oM sL) (lK (SQ.elemA iY aR I (za7 t) O) (bW (aL zm3) fun p3=>?_)))))));refine oZ (sK 0 aR I I I I I sB)<|tZ (sW I (lU (fA df I zT3 I) (lK (qL (v:=vi z.cell) iT3 I (cO 0 I I)) (lK (SQ.eq (v':=.tuple #[vi 0,vb false]) (SQ.lookupOk mty128 I I (bh.own 2 I)) (by rw[tj,C];rfl)) ?_))));refine lM I (yX I (yX I (lA I (aT I (sQ (sW I (lU (SU.not I) (tZ (za2 I (sW I (lU (fA df I zT3 I) (lK (qL (v:=vi z.cell) iT3 I (cO 0 I I)) (lM I (lO (SO.mapUpdate 2 mty128 I I I I) ?_))))))))))))));rintro _ _ _ ⟨rfl,rfl⟩;rw[l1];refine tZ (xI (tX (bX (tN (rG (yD I (lM I (SL.nil (dR (s':=pt b5 (bY #[vi y.cell,vi y.sign] 80)::mp Y (gi (F2++[(z.cell,(k:Int))]))::mp f (jmF 0 J1)::pt o (bY #[vi D,vi rd,.slice l c.sides.length d] 37)::s) (.cons _ (.refl _)) ?_)))))))));exact ST.again (j+1,F2++[(z.cell,(k:Int))]) sB I I ⟨by dsimp only;omega,fun r v hr=>by
        dsimp only at hr;rw[P] at hr;split at hr
        ·rename_i e;injection hr with hr
         exact⟨k,hr.symm,y,g9,by rw[e];exact c3⟩
        ·exact T r v hr,fun r v hr=>by
        dsimp only;have S:=b6 r v hr;rw[P,zg3 (fun e=>by rw[e,C] at S;cases S)];exact S,fun q hq=>by
        dsimp only at hq ⊢;rw[W] at hq
        rcases zf6.1 hq with h | h
        ·obtain ⟨n,S,h2⟩:=a0 q h;refine⟨n,?_,h2⟩;rw[P,zg3 (fun e=>by rw[e,C] at S;cases S)];exact S
        ·simp at h;subst h;exact⟨k,by rw[P,zg4 I],I⟩⟩ (by dsimp only;omega)
      | some v =>
       obtain ⟨n,rfl,u,hu,p4⟩:=T _ _ C;have l2:n<J1.length:=by rw[N.len];exact (zf8.1 hu).1
       have X:J1[n]?=some J1[n]:=List.getElem?_eq_getElem l2;generalize J1[n]=b at X;have l3:eu (jmF 0 J1) ((k:Nat):Int)=some (vi a):=by have:=A9 J1 0 k;rw[Nat.zero_add,b4] at this;exact this
       have l4:eu (jmF 0 J1) ((n:Nat):Int)=some (vi b):=by have:=A9 J1 0 n;rw[Nat.zero_add,X] at this;exact this
       have c4:=A7 (min a b) J1 0 k l0;have c5:=A7 (min a b) (J1.set k<|min a b) 0 n (by rw[zi6];exact l2);rw[Nat.zero_add] at c4 c5;refine kP (tN<|sQ<|bK<|rZ<|lU (iA a7 aR I I b1 oM sL)<|lK (SQ.elemA iY aR I (za7 t) O)<|bW (aL zm3) fun p3=>?_);refine oZ (sK 0 aR I I I I I sB)<|tZ<|sW I<|lU (fA df I zT3 I)<|lK (qL (v:=vi z.cell) iT3 I<|cO 0 I I)<|lK (SQ.eq (v':=.tuple #[vi n,vb true]) (SQ.lookupOk mty128 I I<|bh.own 2 I) (by rw[tj,C];rfl)) ?_;refine lM I<|yX I<|yX I<|lA I<|aT I<|sQ<|sW I<|lU (SU.not I)<|tZ<|za1 I<|kP<|tN<|sW I<|lM I<|lK (SQ.eq (v':=vi a) (SQ.lookup mty128 I I<|bh.own 3 I) (by rw[l3];rfl)) ?_;refine lM I<|lM I<|lK (SQ.eq (v':=vi b) (SQ.lookup mty128 I I<|bh.own 3 I) (by rw[l4];rfl)) ?_;refine lU (SU.minM I I)<|aT I<|sW I<|lM I<|lM I<|lK (SQ.eq (v':=vi a) (SQ.lookup mty128 I I<|bh.own 3 I) (by rw[l3];rfl)) ?_;refine lM I<|lM I<|lK (SQ.eq (v':=vi b) (SQ.lookup mty128 I I<|bh.own 3 I) (by rw[l4];rfl)) ?_;refine lU (SU.maxI I I)<|yL I<|tZ<|iP I (fun m1=>?_) (fun m1=>?_)
       ·obtain ⟨p5,q4⟩:=N.upd g9 hu c3 p4 b4 X m1;refine sW I<|lM I<|lM I<|lM I<|lM I<|lM I<|lO (SO.mapUpdate 3 mty128 I I I I) ?_;rintro _ _ _ ⟨rfl,rfl⟩;rw[c4];refine lO (SO.mapUpdate 3 mty128 I I I I) ?_;rintro _ _ _ ⟨rfl,rfl⟩;rw[c5];exact tZ<|rZ<|aT I<|xI<|ST.blockO dC<|tX<|tX<|ST.blockO dC<|bX<|tN<|rG<|yD I<|lM I<|SL.nil<|dR (s':=mp Y (gi F2)::mp f (jmF 0<|(J1.set k<|min a b).set n<|min a b)::pt o (bY #[vi D,vi rd,.slice l c.sides.length d] 37)::s) (.cons _<|.cons _<|.refl _)<|ST.again (k+1,true,(J1.set k<|min a b).set n<|min a b,F2) sB I I ⟨by dsimp only;omega,p5,T,(fun h=>by cases h),by dsimp only;omega,fun _=>by dsimp only;omega⟩ (by dsimp only;omega)
       ·refine kP (bN (tN (rG (yD I (lM I (SL.nil ?_))))));have m2:a=b:=oM;subst m2;refine dR (s':=pt b5 (bY #[vi y.cell,vi y.sign] 80)::mp Y (gi F2)::mp f (jmF 0 J1)::pt o (bY #[vi D,vi rd,.slice l c.sides.length d] 37)::s) (.cons _ (.refl _)) ?_;exact ST.again (j+1,F2) sB I I ⟨by dsimp only;omega,T,b6,fun q hq=>by
         dsimp only at hq ⊢;rw[W] at hq
         rcases zf6.1 hq with h | h
         ·exact a0 q h
         ·simp at h;subst h;exact⟨n,C,b4.trans X.symm⟩⟩ (by dsimp only;omega)
     ·refine xI (tX (tX (bX (bN (tN (rG (yD I (lM I (SL.nil ?_)))))))));have d8:sy.take j=sy:=tL oM;rw[d8] at a0;refine dR (s':=mp Y (gi F2)::mp f (jmF 0 J1)::pt o (bY #[vi D,vi rd,.slice l c.sides.length d] 37)::s) (.cons _ (.refl _)) ?_;exact ST.again (k+1,ch,J1,F2) sB I I ⟨by dsimp only;omega,N,T,fun hc=>⟨(Z hc).1,fun i x hi hx q hq=>by
       dsimp only at hi ⊢;by_cases e:i=k
       ·subst e;rw[g9] at hx;injection hx with hx
        subst hx;rw[G] at hq;exact a0 q hq
       ·obtain ⟨n,S,h2⟩:=(Z hc).2 i x oM hx q hq;exact⟨n,b6 _ _ S,h2⟩⟩,j2,g8⟩ (by dsimp only;omega)
    ·have d9:k=c.sides.length:=oM;subst d9;have q5:=Bi fun i v h=>(N.low i v h).1;refine xI (tX (tX (bX (ST.scopeN (bN ?_)))));exact ST.again (ch,J1,F1) sB I I ⟨N,g7,fun hc=>(Z hc).2⟩ (by
      dsimp only;cases ch with
      | true=>have:=g8 rfl;simp only[if_true];omega
      | false=>rw[(Z rfl).1];simp)
   ·subst g6;have hQ:=hQ rfl;have m3:=Cq (F:=F) h0 hn f8 hJ hQ;have r0:=hJ.len;refine xI (tX<|tX<|bX<|tN<|sQ<|cP (zk4 _ _ _)<|SC.freezeMap fun g3 m4 p6=>?_);refine rG<|lM I<|lW (SO.call call90 I<|vC E g3 _ f) ?_;rintro _ g4 _ ⟨rfl,c6,bv,rfl,p7⟩;refine lW (SO.call call89 I<|t8 E g4 _ bv f J p7 (p6.mono c6) oM) ?_;rintro _ g5 _ ⟨rfl,n0,L,hL,h3⟩;have r1:=h3.length_eq;refine lW (SO.call call88 I<|Cw E g5 _ _ L hL oM oM) ?_;rintro _ _ _ ⟨⟨M,rfl,p9,q0⟩,rfl,rfl⟩;refine lU (gR I I)<|aT I<|rE<|dR (s':=s) uR ?_;have a1:decide (M>0)=decide (bC tl c≠0):=by
     rw[← m3,Bool.eq_iff_iff,zj9,zk2];constructor
     ·exact fun h=>⟨M,h3.mem_iff.1 p9,zg2 h⟩
     ·rintro ⟨x,hx,h⟩;have S:=q0 x<|h3.mem_iff.2 hx;have h2:=zg6 h;omega
    exact za8 (.inl I) results32 I ⟨by rw[← a1],I,B.trans<|m4.trans<|c6.trans n0⟩
  ·obtain ⟨⟨a,zv⟩,c7,rfl⟩:=zf5.1 o2;have n1:=c2.len b2;rw[c1,ze8,zf1] at n1;have q1:(w.map Prod.fst).Nodup:=by rw[hz];exact lc tl c.sides
   have n2:eW w a=zv:=nO q1 _ c7;refine yX I<|tZ<|sQ<|za2 I<|kP<|tN<|bK<|rZ<|lK (SQ.entryP 0 I I e2 b2 he p0 p1)<|yX I<|aT I<|SC.cutB 78 (decide (eW w a≠0)||decide (eW ml a≠2)) ?_ ?_
   ·refine rG<|lM I<|lM I<|lK (SQ.eq (v':=vi<|eW w a) (SQ.lookup mty128 I I<|bh.known j0)<|lE w _)<|lU (nQ I I)<|lM I<|sP ?_ ?_
    ·intro q2;exact yA I<|yA I<|yA I<|yA I<|yP I<|SL.nil<|zb1 (by (simp_all[aN];done)) mI
    ·intro q2;exact yC I<|yC I<|SL.gq (gT I I I dC) (SQ.eq (v':=vi<|eW ml a) (SQ.lookup mty128 I I<|bh.known i2)<|lE ml _) dC<|lY I I I (nQ I I)<|yF I<|SL.nil<|zb1 (by (simp_all[aN];done)) mI
   refine iQ I (fun Q=>?_) (fun Q=>?_)
   ·have hb:mR tl c.sides=true:=by
     unfold mR;rw[← hz,← e0];exact zk2.2 ⟨_,c7,by rw[n2] at Q;exact Q⟩
    have a1:=zg2<|DS h0 hn hb;exact rZ<|aT I<|rE<|bR<|tR<|bR<|tR<|dR (s':=s) uR<|za8 (.inl I) results32 I ⟨by rw[a1],I,B⟩
   ·refine kP (bN ?_);rw[Bool.or_eq_false_iff,decide_eq_false_iff_not,decide_eq_false_iff_not,n2] at Q;exact ST.again (vis++[e],vl++[(a,vi zv)]) sB I I ⟨c2,fun p hp n3=>by
     dsimp only at n3
     rcases zf6.1 n3 with h | h
     ·exact K p hp h
     ·simp at h;rw[h.1,h.2];exact⟨oM,oM⟩⟩ (by dsimp only;rw[ze8,zf1];omega)
def E9 (E:World)(tv:Value)(pv:Value)(q:Cl→Bool)(S:List Cl)(g:PH):Prop :=
 ∀ g' s c r,Le g g'→c∈S→ak g' c r→cz Tryz.prog E pv [tv,rcv r] g' s (fun x g'' s''=>x=vb (q c)∧Le g' g''∧s''=s)
theorem nW {S:List Cl}(h:S.Pairwise fun a b=>a.id<b.id):fV [S]=S.map Cl.id :=
 BK (lL _) (by rw[zk7];exact h) fun x=>by
  rw[nX,zf5];simp
theorem yY {S:List Cl}(h:S.Pairwise fun a b=>a.id<b.id){c:Cl}(hc:c∈S):ab S c.id=some c:=by
 unfold ab;induction S with
 | nil=>cases hc
 | cons a S ih =>
  rw[zk6] at h
  rcases zf4.1 hc with rfl | hc
  ·simp
  ·have:=h.1 c hc;rw[List.find?_cons_of_neg (by simp;omega)];exact ih h.2 hc
theorem Ay {S:List Cl}(h:S.Pairwise fun a b=>a.id<b.id)(w:Cl→Bool):((fV [S]).filter fun id=>w<|(ab S id).getD aA)=br w S:=by
 rw[nW h];unfold br;rw[List.filter_map];refine ze5 _ (List.filter_congr fun c hc=>?_);show w ((ab S c.id).getD aA)=w c;rw[yY h hc];rfl
theorem yy:∀ {rs:List Rc} {i:Nat},(rs.map Rc.id).Nodup→(h:i<rs.length)→eu (rs.map ap) rs[i].id=some (rcv rs[i])
 | r::rs,0,_,_=>by
  rw[zg7];show eu ((r.id,rcv r)::_) r.id=_;rw[de,zg4 rfl];rfl
 | r::rs,i+1,hn,h=>by
  rw[zg7,zk5] at hn;have b:i<rs.length:=by simpa using h
  have a:rs[i].id≠r.id:=fun e=>hn.1<|zf5.2 ⟨rs[i],gM b,e⟩;rw[zg7];show eu ((r.id,rcv r)::_) rs[i].id=_;rw[de,zg3 a];exact yy hn.2 b
theorem F9 (E:World)(hE:E.drawn=0)(g:PH)(s:Own)(G:Nat)(U:Value)(H:FuncId)(J:Array Value)(S:List Cl)(q:Cl→Bool)(hb:g G=some (bY #[U] 65))(hv:l5 g U S)(V:S.Pairwise fun a b=>a.id<b.id)(hi:∀ x∈S,a8 x.id)(hl:S.length<1000000)(hq:E9 E U (.func (.func H) #[] J) q S g) :
  Ctr Tryz.prog E 29 #[.func (.func H) #[] J,pp G 0] g s (fun r g' s'=>s=s'∧Le g g'∧dw g' r (br q S)):=by
 have W:=hv;obtain ⟨m,rs,rfl,hm,K⟩:=hv;refine Ctr.ofX (args:=[.func (.func H) #[] J,pp G 0]) func29 I ntmps29 (bE I)<|XC.seq<|XC.region<|XL.o (bO I) dC ?_;rintro _ _ _ ⟨M,rfl,rfl,rfl⟩;refine XL.u (aS I) dC<|XL.nil<|XT.thenN<|XC.seq<|XC.region<|XL.o (aL zeroValue32) dC ?_;rintro _ _ _ ⟨N,rfl,rfl,rfl⟩;refine XL.nil<|XT.thenN<|XC.seq<|XC.seq<|XC.region<|XL.q (qL (v:=.map<|some m) ep I<|cK hb I) dC<|XL.o (bS sty121 I I I (ae ⟨I,trivial⟩)<|bE I) dC ?_;rintro _ _ _ ⟨b7,rfl,rfl,rfl⟩;refine XL.freeze fun g1 O X=>?_;have Y:SlA De g1 (.slice (some ⟨b7,0,none⟩) 1 1) [m]:=SlA.lit X rfl rfl;refine XL.o (SO.call call27 I<|o6 E g1 _ _ 1 1) dC ?_;rintro _ g2 _ ⟨rfl,A,ba,rfl,Z⟩;have t:=O.trans A;have a0:=m8 E hE g2 ba _ 1 [m] [S] Z (za5 Y A) ⟨W.mono t,trivial⟩ (fun L hL x hx=>by rw[zi1.1 hL] at hx ;exact hi x hx) (by simpa using hl) dO;refine XL.nil<|XT.thenN<|XC.block<|XC.to (g':=g2) (s':=rowA encInt 3 (.slice none 0 0) []::pt N (bY #[.slice none 0 0] 32)::pt M (.cells #[.func (.func H) #[] J] 71 (0,0))::s) (fun w hw=>hw.nilRow 3 1)<|XC.rangeFuncB (α:=Int) (ι:=PH×Value×List Int) (κ:=Unit) (encs:=fun v=>[vi v]) (xs:=fV [S]) (g0:=g2) (fun i=>i.1) (fun i=>rowA encInt 3 i.2.1 i.2.2::pt N (bY #[i.2.1] 32)::pt M (.cells #[.func (.func H) #[] J] 71 (0,0))::[])
  (fun pre i=>Le g2 i.1∧i.2.2=pre.filter fun id=>q<|(ab S id).getD aA) (g2,.slice none 0 0,[]) s
  (fun x=>[(9,vi x),(1,pp G 0),(2,pp M 0),(4,pp N 0)]) (fun _ x _ _=>[(5,vi x),(1,pp G 0),(2,pp M 0),(4,pp N 0)]) (fun _ _=>[])
  rfl rfl call82 (fun _=>rfl) rfl rfl a0 (fun _ _ h=>h.1) (fun pre i g' hJ hl=>⟨(g',i.2),⟨hJ.1.trans hl,hJ.2⟩,rfl,rfl⟩) ⟨zb9 _,rfl⟩
  (fun x a h=>sr (h.sub (g:=[(1,pp G 0),(2,pp M 0),(4,pp N 0)]) sB) dC) ?_ ?_ ?_
 ·intro y pre x i sx hJ;exact XC.region<|XL.u (aS I) dC<|XL.nil<|XT.assignEndA () sB I
 ·rintro y pre x suf ⟨g3,ov,acc⟩ sx _ - P ⟨d,f⟩;dsimp only at d f ⊢;have j:=t.trans d;have C:=K.mono fun _ _ h=>ak.mono j h;have B:x∈fV [S]:=by rw[P];simp
  have Q:=ze5 List.length P;rw[nW V] at B Q;obtain ⟨c,hc,rfl⟩:=zf5.1 B;have R:=yY V hc;obtain ⟨r,a1,a4,z⟩:=dG C ib c.id;have z:ak g3 ((ab S c.id).getD aA) r:=z;rw[R] at z;have z:ak g3 c r:=z;have a3:acc.length<1000000:=by
   have h1:acc.length≤pre.length:=by rw[f];exact zc6 _ _
   rw[ze9,ze8] at Q;omega
  have n:(pre++[c.id]).filter (fun id=>q<|(ab S id).getD aA)=acc++if q c=true then [c.id] else []:=by
   rw[zh9,← f];refine ze5 _ ?_;rw[zj1,R];rfl
  refine XC.facts fun ⟨T,p⟩=>?_;obtain ⟨p0,c0,rfl⟩:=ah (e:=encInt) (l:=acc) (i:=0) p rfl;clear p T;refine XC.block<|XC.seq<|XC.region<|XL.q (qL (v:=.func (.func H) #[] J) isAgg71 I<|cO 2 I I) dC<|XL.q (qL (v:=.map<|some m) ep I<|cK (j _ _ hb) I) dC<|XL.q (qL (v:=.map<|some m) ep I<|cK (j _ _ hb) I) dC<|XL.u (mV I) dC<|XL.q (SQ.eq (v':=rcv r) (SQ.lookup mty65 I I<|bh.known<|hm.mono j)<|by rw[a1]) dC ?_;refine XL.o (SO.callV I I<|hq g3 _ c r j hc z) dC ?_;rintro _ g4 _ ⟨rfl,k,rfl⟩;refine XL.nil ?_;refine XT.thenN ?_;refine XC.ifB I (fun F=>?_) (fun F=>?_)
  ·rw[zg4 F] at n;refine XC.region<|XL.q (qL (v:=.slice p0 acc.length c0) ik I<|cO 1 I I) dC<|XL.u (mV I) dC<|XL.o (bS sty32 I I I (ae ⟨I,trivial⟩) dC) dC ?_;rintro _ _ _ ⟨a5,rfl,rfl,rfl⟩;refine XL.o (aP (e:=encInt) (l:=acc) 0 c.id sty32 I I I I I oM oM) dC ?_;rintro ov' _ _ ⟨rfl,rfl⟩;refine XL.facts fun ⟨T,p⟩=>?_;obtain ⟨q1,d1,rfl⟩:=ah (e:=encInt) (l:=acc++[c.id]) (i:=0) p rfl;clear p T;refine XL.on (sK 1 gh I I I I I sB) ?_;rintro _ _ _ ⟨rfl,rfl⟩;exact XL.nil<|XT.blockN<|XT.roundEnd2 (g4,_,acc++[c.id]) I I ⟨d.trans k,n.symm⟩ k
  ·rw[zg3 (by rw[F];decide),zc7] at n;exact XC.skip<|XT.blockN<|XT.roundEnd2 (g4,_,acc) I I ⟨d.trans k,n.symm⟩ k
 ·rintro D ⟨g3,ov,acc⟩ ⟨d,f⟩;dsimp only at d f ⊢;rw[Ay V q] at f;subst f;refine XT.facts fun ⟨T,p⟩=>?_;obtain ⟨p0,c0,rfl⟩:=ah (e:=encInt) (l:=br q S) (i:=1) p rfl;clear p T;refine XT.blockN<|XT.thenN<|XC.seq<|XC.region<|XL.q (qL (v:=.slice p0 (br q S).length c0) ik I<|cO 2 I I) dC<|XL.u (aS I) dC<|XL.nil<|XT.thenN<|XC.ret<|XT.leave1 (.inl I)<|fT fun g4 k a2=>?_;exact dR (s':=s) uR<|za8 (.inl I) results29 I ⟨I,t.trans<|d.trans k,a2⟩
theorem t7 (E:World)(hE:E.drawn=0)(g:PH)(s:Own)(tv:Value)(S:List Cl)(hv:l5 g tv S)(U:S.Pairwise fun a b=>a.id<b.id)(hi:∀ x∈S,a8 x.id)(hl:S.length<1000000) :
  Ctr Tryz.prog E 35 #[tv] g s (fun r g' s'=>s=s'∧Le g g'∧∃ u,r = .agg #[u]∧ai g' u S):=by
 have V:=hv;obtain ⟨m,rs,rfl,hm,k⟩:=hv;have H:=k.length;have n:=yr k;refine Ctr.ofX (args:=[.map<|some m]) func35 I ntmps35 (bE I)<|XC.seq<|XC.region<|XL.o (bO I) dC ?_;rintro _ _ _ ⟨N,rfl,rfl,rfl⟩;refine XL.o (aL zm2) dC ?_;rintro _ _ _ ⟨F,rfl,rfl,rfl⟩;refine XL.nil<|XT.thenN<|XC.seq<|XC.region<|XL.o (aL zm2) dC ?_;rintro _ _ _ ⟨G,rfl,rfl,rfl⟩;refine XL.nil<|XT.thenN<|XC.seq<|XC.seq<|XC.to (g':=g) (s':=pt N (bY #[.map<|some m] 65)::pt G (bY #[.slice none 0 0] 29)::pt F (bY #[.slice none 0 0] 29)::s) (fun w W=>W.perm<|(List.Perm.cons _<|zk4 _ _ _).trans<|zk4 _ _ _)<|XC.freeze fun g0 J K=>?_;refine XC.region<|XL.q (qL (v:=.map<|some m) ep I<|cK K I) dC<|XL.o (bS sty121 I I I (ae ⟨I,trivial⟩)<|bE I) dC ?_;rintro _ _ _ ⟨b6,rfl,rfl,rfl⟩;refine XL.freeze fun g1 t X=>?_;have Y:SlA De g1 (.slice (some ⟨b6,0,none⟩) 1 1) [m]:=SlA.lit X rfl rfl;refine XL.o (SO.call call27 I<|o6 E g1 _ _ 1 1) dC ?_;rintro _ g2 _ ⟨rfl,p,ba,rfl,Z⟩;have f:=J.trans<|t.trans p;have a0:=m8 E hE g2 ba _ 1 [m] [S] Z (za5 Y p) ⟨V.mono f,trivial⟩ (fun L hL x hx=>by rw[zi1.1 hL] at hx ;exact hi x hx) (by simpa using hl) dO;refine XL.nil<|XT.thenN<|XC.block<|XC.to (g':=g2) (s':=rowA encCell 37 (.slice none 0 0) []::pt G (bY #[.slice none 0 0] 29)::pt F (bY #[.slice none 0 0] 29)::s) (fun w W=>W.nilRow 37 3)<|XC.rangeFuncB (α:=Int) (ι:=PH×Value×List Rc) (κ:=Unit) (encs:=fun v=>[vi v]) (xs:=fV [S]) (g0:=g2) (fun i=>i.1) (fun i=>rowA encCell 37 i.2.1 i.2.2::pt G (bY #[i.2.1] 29)::pt F (bY #[.slice none 0 0] 29)::[])
  (fun pre i=>Le g2 i.1∧i.2.2=rs.take pre.length) (g2,.slice none 0 0,[]) s
  (fun x=>[(8,vi x),(1,pp N 0),(2,pp F 0),(3,pp G 0)]) (fun _ x _ _=>[(4,vi x),(1,pp N 0),(2,pp F 0),(3,pp G 0)]) (fun _ _=>[])
  rfl rfl call82 (fun _=>rfl) rfl rfl a0 (fun _ _ h=>h.1) (fun pre i g' hJ hl=>⟨(g',i.2),⟨hJ.1.trans hl,hJ.2⟩,rfl,rfl⟩) ⟨zb9 _,by simp⟩
  (fun x a h=>sr (h.sub (g:=[(1,pp N 0),(2,pp F 0),(3,pp G 0)]) sB) dC) ?_ ?_ ?_
 ·intro y pre x i sx hJ;exact XC.region<|XL.u (aS I) dC<|XL.nil<|XT.assignEndA () sB I
 ·rintro y pre x suf ⟨g3,ov,acc⟩ sx _ - A ⟨c,d⟩;dsimp only at c d ⊢;have B:=f.trans c;rw[nW U] at A;have C:pre.length<rs.length:=by
   have:=ze5 List.length A;rw[ze9,ze8,zf2] at this;omega
  have a1:rs[pre.length].id=x:=by
   have h1:(S.map Cl.id)[pre.length]?=some x:=by rw[A];simp
   rw[← n,zi3,zi3,List.getElem?_eq_getElem C] at h1;simpa [ap] using h1
  have a2:(rs.map Rc.id).Nodup:=by
   have h6:rs.map Rc.id=S.map Cl.id:=by rw[← n,zi8];rfl
   rw[h6];exact zk7.2 (U.imp fun h=>by omega)
  have a3:eu (rs.map ap) x=some (rcv rs[pre.length]):=by rw[← a1];exact yy a2 C
  have a4:rs.take (pre.length+1)=acc++[rs[pre.length]]:=by rw[tS C,← d]
  have a9:acc.length<1000000:=by rw[d,ze7];omega
  generalize rs[pre.length]=r at *;obtain ⟨O,P,Q,R,T⟩:=r;refine XC.facts fun ⟨M,j⟩=>?_;obtain ⟨p0,c0,rfl⟩:=ah (e:=encCell) (l:=acc) (i:=0) j rfl;clear j M;refine XC.block<|XC.region<|XL.u (fA dj I cj I) dC<|XL.q (qL (v:=.slice p0 acc.length c0) ef I<|cO 1 I I) dC<|XL.q (qL (v:=.map<|some m) ep I<|cK ((t.trans<|p.trans c) _ _ K) I) dC<|XL.u (mV I) dC<|XL.q (SQ.eq (v':=.agg #[vi O,vi P,.slice Q R T]) (SQ.lookup mty65 I I<|bh.known<|hm.mono B) (by rw[a3];rfl)) dC ?_;refine XL.o (bS sty27 I I I (ae ⟨I,trivial⟩) dC) dC ?_;rintro _ _ _ ⟨b0,rfl,rfl,rfl⟩;refine XL.o (aP (e:=encCell) (l:=acc) 0 ⟨O,P,⟨Q,R,T⟩⟩ sty27 I I I I I oM oM) dC ?_;rintro ov' _ _ ⟨rfl,rfl⟩;refine XL.facts fun ⟨M,j⟩=>?_;obtain ⟨q1,d1,rfl⟩:=ah (e:=encCell) (l:=acc++[⟨O,P,⟨Q,R,T⟩⟩]) (i:=0) j rfl;clear j M;refine XL.u (fA dj I cj I) dC<|XL.on (sK 1 cj I I I I I sB) ?_;rintro _ _ _ ⟨rfl,rfl⟩;exact XL.nil<|XT.blockN<|XT.roundEnd2 (g3,_,acc++[⟨O,P,⟨Q,R,T⟩⟩]) I I ⟨c,by dsimp only;rw[ze8,zf1];exact a4.symm⟩<|zb9 _
 ·rintro D ⟨g3,ov,acc⟩ ⟨c,d⟩;dsimp only at c d ⊢;rw[nW U,ze9,H,List.take_length] at d;subst d;refine XT.facts fun ⟨M,j⟩=>?_;obtain ⟨p0,c0,rfl⟩:=ah (e:=encCell) (l:=acc) (i:=1) j rfl;clear j M;refine XT.blockN<|XT.thenN<|XC.seq<|XC.region<|XL.q (qV 2 aj ag I I I) dC<|XL.on (sK 3 ag I I I I I sB) ?_;rintro _ _ _ ⟨rfl,rfl⟩;refine XL.nil<|XT.thenN<|XC.ret<|XT.leave1 (.inl I)<|fT fun g4 z a5=>?_;exact ST.retCD 1 s (.inl I) results35 I aj ag I I uR ⟨I,f.trans<|c.trans z,_,I,acc,a5,k.mono fun _ _ h=>ak.mono (f.trans<|c.trans z) h⟩
end Go.Proofs.YtdepcjnaieflmaaGreatDoor
