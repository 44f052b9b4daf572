/- Part V35 of the proof. -/
import Derived.Test.YtkbjakfniejkcaaGreatDoorV34
set_option linter.all false
namespace Go.Proofs.YtkbjakfniejkcaaGreatDoor
open Go.Abs
set_option maxRecDepth 20000
set_option maxHeartbeats 4000000
def nwS(T:Nat->Rat)(o:Lq)(j:Nat):Nat->Rat
 |0=>0
 |i+1=>nwS T o j i- T i* coP o (j- i)
def nwL(T:Nat->Rat):Nat->Lq
 |0=>[((1:Int):Rat)]
 |j+1=>nwL T j++[nwS T (nwL T j) j (j+1) / (((j+1:Nat):Int):Rat)]
@[simp] theorem mn (T:Nat->Rat):∀j,(nwL T j).length=j+1
 |0=>rfl
 |j+1=>by rw[nwL,List.length_append,mn T j];rfl
def trT(T:Nat->Rat)(j:Nat):Lq:=aN j T
@[simp] theorem trT_length (T:Nat->Rat)(j:Nat):(trT T j).length=j:=by simp[trT]
theorem trT_s(T:Nat->Rat)(j:Nat):trT T j++[T j]=trT T (j+1):=by unfold trT aN;rw[List.range_succ,List.map_append];rfl
theorem pE_snoc'(l:Lq)(a:Rat):pE l++[qC a]=pE (l++[a]):=by simp[pE]
def dg0(k:Ke)(M:Lw)(T:Nat->Rat):Unit->AState
 |u=>⟨[(2,bKe k),(5,.lptr 1 0 0),(6,.lptr 2 0 0),(20,.clos 147 [] [bM M])],[(1,some ⟨38,1,[[.lsl 3 0 1 none 3]]⟩),(2,some ⟨37,1,[[.emp]]⟩),(3,some ⟨36,3,pE (nwL T 0)⟩)],4,60⟩
def dgs(k:Ke)(M:Lw)(T:Nat->Rat):Nat->AState
 |j=>⟨[(2,bKe k),(5,.lptr 1 0 0),(6,.lptr 2 0 0),(20,.clos 147 [] [bM M])],[(1,some ⟨38,1,[[.lsl 3 0 (j+1+1) none 3]]⟩),(2,some ⟨37,1,[[.lsl 4 0 (j+1) none 3]]⟩),(3,some ⟨36,3,pE (nwL T (j+1))⟩),(4,some ⟨36,3,pE (trT T (j+1))⟩)],5,60⟩
def dgS(k:Ke)(M:Lw)(T:Nat->Rat):Nat->AState
 |0=>dg0 k M T ()
 |j+1=>dgs k M T j
def dgX(m:Nat)(T:Nat->Rat):Unit->AState
 |u=>⟨[(5,.lptr 1 0 0)],[(1,some ⟨38,1,[[.lsl 3 0 (m+1) none 3]]⟩),(3,some ⟨36,3,pE (nwL T m)⟩)],4,60⟩
def dgI(k:Ke)(M:Lw)(T:Nat->Rat)(j:Nat):Nat->AState
 |i=>⟨[(2,bKe k),(5,.lptr 1 0 0),(6,.lptr 2 0 0),(8,i64 ((j+1:Nat):Int)),(9,.lptr 5 0 0),(28,.lsl 4 0 (j+1) none 3),(29,i64 ((j+1:Nat):Int)),(30,i64 i),(1002,bKe k),(1005,.lptr 1 0 0),(1006,.lptr 2 0 0),(1020,.clos 147 [] [bM M])],[(1,some ⟨38,1,[[.lsl 3 0 (j+1) none 3]]⟩),(2,some ⟨37,1,[[.lsl 4 0 (j+1) none 3]]⟩),(3,some ⟨36,3,pE (nwL T j)⟩),(4,some ⟨36,3,pE (trT T (j+1))⟩),(5,some ⟨36,3,[qC (nwS T (nwL T j) j i)]⟩)],6,60⟩
theorem sm8(n:Nat)(h:n<=8):qs (((n:Nat):Int):Rat)<=5:=by
 have:n=0\/n=1\/n=2\/n=3\/n=4\/n=5\/n=6\/n=7\/n=8:=by omega
 rcases this with rfl|rfl|rfl|rfl|rfl|rfl|rfl|rfl|rfl <;> decide
structure OkDt (T:Nat->Rat)(n:Nat):Prop where
 m:∀j i,j< n->i<=j->qs (T i)+qs (coP (nwL T j) (j- i))<=549755813888
 s:∀j i,j< n->i<=j->qs (nwS T (nwL T j) j i)+qs (T i* coP (nwL T j) (j- i))<=549755813888
 d:∀j,j< n->qs (nwS T (nwL T j) j (j+1))+5<=549755813888
theorem fs_detN(k:Ke)(a b:Rat)(pM:Nat->Mx)(h:OkMa k a b)(h0:pM 0=maK k a b)(hn:0< k.length)(hl8:k.length<=8)(hs:∀j,j< k.length->∀i,i< k.length->qs (trQ (pM j) i)+qs (pM j i i)<=549755813888)(hmul:∀j,j+1< k.length->FS 148 [.arr (mE (sqR k.length (pM j))),.arr (mE (sqR k.length (pM 0)))] (.arr (mE (sqR k.length (pM (j+1))))))(hd:OkDt (fun j=>trQ (pM j) k.length) k.length):
    FS 34 [.arr (kE k),.agg (spC a b)] (.arr (pE (ao (nwL (fun j=>trQ (pM j) k.length) k.length)))):=by
 have i1:=dU 1 (by decide);have hm:=vo k a b h;rw[<-h0] at hm;have hgs:=xu pM k.length (k.length- 1) (by omega) (fun j hj=>hs j (by omega)) (fun j hj=>hmul j (by omega));have htr:=xy (sqR k.length (pM 0));have hkl:(kE k).length=k.length:=dY k;obtain⟨T,hT⟩:∃T,T=fun j=>trQ (pM j) k.length:=⟨_,rfl⟩;have hgs:GSpecB Tryz.prog 147 [bM (sqR k.length (pM 0))] (fun j=>some [.agg (qC (T j))]) (k.length- 1):=by rw[hT];exact hgs
 rw[<-hT] at hd⊢;obtain⟨M,hM⟩:∃M,M=sqR k.length (pM 0):=⟨_,rfl⟩;rw[<-hM] at hgs htr hm;have hti:=c9 (nwL T k.length) (by simp;omega);have hcc:Closed (.clos 147 [] [bM M]):=aR af (ac (cj _) af);refine f_n Tryz.func34 ?_ ?_;exact ac (aL k) (ac (az (aZ a b)) af);refine r_z 3 ?_;refine AWp.ent (st':=⟨[(2,bKe k),(3,bSp a b)],[],1,60⟩) ?_ ?_;exact s_x [] (fun hs=>e_46) (fun hs=>e_47);refine r_c 4 (i1) ?_;refine a_z ?_;refine r_z 1 ?_;refine ae (q_z 3 ?_);refine aF (fun _:Unit=>dgX k.length T ()) (fun _=>True) ?_ ?_;refine cT (r_c 4 (hm) ?_);refine c_s (htr) ?_;refine aq ?_;refine aj (AWp.rangeFuncB (α:=Nat) (γ:=Unit) (k.length- 1) (dgS k M T) (fun j=>j) (fun j=>j< k.length) (dgX k.length T) (fun e _=>e= .exit 0) 0 rfl hgs rfl rfl ?_ (fun j=>by cases j <;> exact⟨rfl,rfl⟩) (fun _=>rfl) hn rfl (fun j hj=>by omega) ?_ ?_ ?_ ?_ ?_);intro j xs hT;cases hT;rfl;show SEntT _ (dg0 k M T ());rw[dg0.eq_1];refine s_y [(1,5),(2,6),(3,13)] (fun hs=>e_4) (fun hs=>?_)
 ·repeat' (first|exact aE|refine h_c ?_ ?_|exact bm hs (aJ (nwL T 0))|exact bZ|refine aD ?_|exact av|refine ah ?_ ?_|exact an hs (cW k)|exact an hs hcc|exact aX)
 exact ac (cj _) af;intro ll j xs hj hT;cases hT;cases j with
 |zero=>
  have hsum:pE [T 0]=pE (trT T (0+1)):=rfl;show AWp _ _ _ _ ⟨[(21,.agg (qC (T 0))),(2,bKe k),(5,.lptr 1 0 0),(6,.lptr 2 0 0),(20,.clos 147 [] [bM M]),(1002,bKe k),(1005,.lptr 1 0 0),(1006,.lptr 2 0 0),(1020,.clos 147 [] [bM M])],[(1,some ⟨38,1,[[.lsl 3 0 1 none 3]]⟩),(2,some ⟨37,1,[[.emp]]⟩),(3,some ⟨36,3,pE (nwL T 0)⟩)],4,60⟩;refine r_m 2 ?_;refine a_z ?_;refine aj (r_z 5 ?_);refine r_z 3 ?_;refine r_z 1 ?_;refine ae (r_z 3 ?_);refine aF (fun _:Unit=>dgI k M T (0) (0+1)) (fun _=>True) ?_ ?_;refine aj (aC (dgI k M T (0)) (fun i=>0+1- i) (fun i=>i<=0+1) 0 (Nat.zero_le _) ?_ ?_);rw[dgI.eq_1,nwS,qC0];exact s_z [(1,5),(2,6),(3,100003),(4,28),(5,9)] (fun hs=>e_4) (fun hs=>e_65);intro i hi;rw[dgI.eq_1];by_cases hlt:i< 0+1;have g1:(pE (trT T (0+1)))[0+((i:Nat):Int).toNat]?=some (qC (T i)):=dx hlt _ (by simp);have g2:(pE (nwL T (0)))[0+((((0+1:Nat):Int)- 1- (i:Int))).toNat]?=some (qC (coP (nwL T (0)) (0- i))):=pE_get (ci (by rw[mn];omega)) _ (by omega);have hmu:=c6 (T i) (coP (nwL T (0)) (0- i)) (hd.m _ _ hj (by omega));have hsu:=jC (nwS T (nwL T (0)) (0) i) (T i* coP (nwL T (0)) (0- i)) (hd.s _ _ hj (by omega));have l1:(pE (nwL T (0))).length=0+1:=by simp[pE]
  have l2:(pE (trT T (0+1))).length=0+1:=by simp[pE]
  refine q_z 1 ?_;refine ae (cT (am (ae (aj (s_r 6 ?_)))));refine a_2 ?_;refine aY (.load_l rfl rfl g1 TG.h TS.h (nle rfl)) rfl rfl ?_;refine a_z ?_;refine r_d a7 12 ?_;refine a_8 ?_;refine aY (.load_l rfl rfl g2 TG.h TS.h (nle rfl)) rfl rfl ?_;refine c_s (hmu) ?_;refine c_s (hsu) ?_;refine a_1 ?_;refine aq (n_k ?_);refine r_m 2 ?_;refine a_z ?_;refine⟨i+1,by omega,by omega,?_⟩;rw[dgI.eq_1,nwS];exact s_z [(1,5),(2,6),(3,100003),(4,28),(5,9)] (fun hs=>e_4) (fun hs=>e_20);have he:i=0+1:=by omega
  refine q_z 1 ?_;refine ae (cF (ax ⟨(),trivial,?_⟩));subst he;exact s_z [(1,5),(2,6),(3,100003),(4,28),(5,9)] (fun hs=>e_4) (fun hs=>e_20);rintro _ _;rw[dgI.eq_1];have iJ:=dU (((0+1:Nat):Int)) (by omega);have hq5:qs ((((0+1:Nat):Int)):Rat)<=5:=sm8 _ (by omega);have hov:=lF (nwS T (nwL T (0)) (0) (0+1)) ((((0+1:Nat):Int)):Rat) (De _) (by have:=hd.d _ hj;omega);have l1:(pE (nwL T (0))).length=0+1:=by simp[pE]
  have hnew:pE (nwL T (0))++[qC (nwS T (nwL T (0)) (0) (0+1) / ((((0+1:Nat):Int)):Rat))]=pE (nwL T (0+1)):=by rw[pE_snoc',<-nwL]
  refine ae (r_d a7 8 ?_);refine c_s (iJ) ?_;refine c_s (hov) ?_;refine a_3 ?_;refine aq (n_k ?_);by_cases hend:0+1=k.length;refine q_z 4 ?_;refine cT (ax (⟨rfl,(),rfl,?_⟩));rw[<-hend];show SEntT _ ⟨[(1005,.lptr 1 0 0)],[(1,some ⟨38,1,[[.lsl 3 0 ((0+1)+1) none 3]]⟩),(3,some ⟨36,3,pE (nwL T (0+1))⟩)],4,60⟩;exact s_t [(1,5),(3,53)];refine q_z 4 ?_;refine cF (am (⟨0+1,⟨by omega,rfl⟩,?_⟩));show SEntT _ ⟨[(1002,bKe k),(1005,.lptr 1 0 0),(1006,.lptr 2 0 0),(1020,.clos 147 [] [bM M])],[(1,some ⟨38,1,[[.lsl 3 0 ((0)+1+1) none 3]]⟩),(2,some ⟨37,1,[[.lsl 4 0 ((0)+1) none 3]]⟩),(3,some ⟨36,3,pE (nwL T ((0)+1))⟩),(4,some ⟨36,3,pE (trT T ((0)+1))⟩)],5,60⟩;refine SEntT.to2 [(1,5),(2,6),(3,53),(4,100004)] rfl rfl rfl Af (fun hs=>?_) (fun hs=>?_)
  ·repeat' (first|exact aP|refine ay rfl ?_ ?_)
   all_goals (first|((first|exact an hs (cW k)|exact an hs hcc))|exact aX)
  ·repeat' (first|exact aE|refine lZ rfl rfl rfl rfl ?_ ?_)
   all_goals (first|((first|exact aI hs hnew (aJ _)|exact bm hs (aJ _)))|exact bZ|(refine aD ?_;repeat' (first|exact av|refine ah ?_ ?_)))
   all_goals (first|((first|exact an hs (cW k)|exact an hs hcc))|exact aX)
 |succ j=>
  have hsum:pE (trT T (j+1))++[qC (T (j+1))]=pE (trT T (j+1+1)):=by rw[pE_snoc',trT_s]
  have hsl:(pE (trT T (j+1))).length=j+1:=by simp[pE]
  show AWp _ _ _ _ ⟨[(21,.agg (qC (T (j+1)))),(2,bKe k),(5,.lptr 1 0 0),(6,.lptr 2 0 0),(20,.clos 147 [] [bM M]),(1002,bKe k),(1005,.lptr 1 0 0),(1006,.lptr 2 0 0),(1020,.clos 147 [] [bM M])],[(1,some ⟨38,1,[[.lsl 3 0 (j+1+1) none 3]]⟩),(2,some ⟨37,1,[[.lsl 4 0 (j+1) none 3]]⟩),(3,some ⟨36,3,pE (nwL T (j+1))⟩),(4,some ⟨36,3,pE (trT T (j+1))⟩)],5,60⟩;refine r_m 2 ?_;refine a_z ?_;refine aj (r_z 5 ?_);refine r_z 3 ?_;refine r_z 1 ?_;refine ae (r_z 3 ?_);refine aF (fun _:Unit=>dgI k M T (j+1) (j+1+1)) (fun _=>True) ?_ ?_;refine aj (aC (dgI k M T (j+1)) (fun i=>j+1+1- i) (fun i=>i<=j+1+1) 0 (Nat.zero_le _) ?_ ?_);rw[dgI.eq_1,nwS,qC0];exact s_z [(1,5),(2,6),(3,100003),(4,28),(5,9)] (fun hs=>e_4) (fun hs=>e_65);intro i hi;rw[dgI.eq_1];by_cases hlt:i< j+1+1;have g1:(pE (trT T (j+1+1)))[0+((i:Nat):Int).toNat]?=some (qC (T i)):=dx hlt _ (by simp);have g2:(pE (nwL T (j+1)))[0+((((j+1+1:Nat):Int)- 1- (i:Int))).toNat]?=some (qC (coP (nwL T (j+1)) (j+1- i))):=pE_get (ci (by rw[mn];omega)) _ (by omega);have hmu:=c6 (T i) (coP (nwL T (j+1)) (j+1- i)) (hd.m _ _ hj (by omega));have hsu:=jC (nwS T (nwL T (j+1)) (j+1) i) (T i* coP (nwL T (j+1)) (j+1- i)) (hd.s _ _ hj (by omega));have l1:(pE (nwL T (j+1))).length=j+1+1:=by simp[pE]
  have l2:(pE (trT T (j+1+1))).length=j+1+1:=by simp[pE]
  refine q_z 1 ?_;refine ae (cT (am (ae (aj (s_r 6 ?_)))));refine a_2 ?_;refine aY (.load_l rfl rfl g1 TG.h TS.h (nle rfl)) rfl rfl ?_;refine a_z ?_;refine r_d a7 12 ?_;refine a_8 ?_;refine aY (.load_l rfl rfl g2 TG.h TS.h (nle rfl)) rfl rfl ?_;refine c_s (hmu) ?_;refine c_s (hsu) ?_;refine a_1 ?_;refine aq (n_k ?_);refine r_m 2 ?_;refine a_z ?_;refine⟨i+1,by omega,by omega,?_⟩;rw[dgI.eq_1,nwS];exact s_z [(1,5),(2,6),(3,100003),(4,28),(5,9)] (fun hs=>e_4) (fun hs=>e_20);have he:i=j+1+1:=by omega
  refine q_z 1 ?_;refine ae (cF (ax ⟨(),trivial,?_⟩));subst he;exact s_z [(1,5),(2,6),(3,100003),(4,28),(5,9)] (fun hs=>e_4) (fun hs=>e_20);rintro _ _;rw[dgI.eq_1];have iJ:=dU (((j+1+1:Nat):Int)) (by omega);have hq5:qs ((((j+1+1:Nat):Int)):Rat)<=5:=sm8 _ (by omega);have hov:=lF (nwS T (nwL T (j+1)) (j+1) (j+1+1)) ((((j+1+1:Nat):Int)):Rat) (De _) (by have:=hd.d _ hj;omega);have l1:(pE (nwL T (j+1))).length=j+1+1:=by simp[pE]
  have hnew:pE (nwL T (j+1))++[qC (nwS T (nwL T (j+1)) (j+1) (j+1+1) / ((((j+1+1:Nat):Int)):Rat))]=pE (nwL T (j+1+1)):=by rw[pE_snoc',<-nwL]
  refine ae (r_d a7 8 ?_);refine c_s (iJ) ?_;refine c_s (hov) ?_;refine a_3 ?_;refine aq (n_k ?_);by_cases hend:j+1+1=k.length;refine q_z 4 ?_;refine cT (ax (⟨rfl,(),rfl,?_⟩));rw[<-hend];show SEntT _ ⟨[(1005,.lptr 1 0 0)],[(1,some ⟨38,1,[[.lsl 3 0 ((j+1+1)+1) none 3]]⟩),(3,some ⟨36,3,pE (nwL T (j+1+1))⟩)],4,60⟩;exact s_t [(1,5),(3,53)];refine q_z 4 ?_;refine cF (am (⟨j+1+1,⟨by omega,rfl⟩,?_⟩));show SEntT _ ⟨[(1002,bKe k),(1005,.lptr 1 0 0),(1006,.lptr 2 0 0),(1020,.clos 147 [] [bM M])],[(1,some ⟨38,1,[[.lsl 3 0 ((j+1)+1+1) none 3]]⟩),(2,some ⟨37,1,[[.lsl 4 0 ((j+1)+1) none 3]]⟩),(3,some ⟨36,3,pE (nwL T ((j+1)+1))⟩),(4,some ⟨36,3,pE (trT T ((j+1)+1))⟩)],5,60⟩;refine SEntT.to2 [(1,5),(2,6),(3,53),(4,100004)] rfl rfl rfl Af (fun hs=>?_) (fun hs=>?_)
  ·repeat' (first|exact aP|refine ay rfl ?_ ?_)
   all_goals (first|((first|exact an hs (cW k)|exact an hs hcc))|exact aX)
  ·repeat' (first|exact aE|refine lZ rfl rfl rfl rfl ?_ ?_)
   all_goals (first|((first|exact aI hs hnew (aJ _)|exact bm hs (aJ _)))|exact bZ|(refine aD ?_;repeat' (first|exact av|refine ah ?_ ?_)))
   all_goals (first|((first|exact an hs (cW k)|exact an hs hcc))|exact aX)
 intro j hj hT;cases hT;rintro e u rfl;exact⟨u,trivial,SEnt.refl _⟩;rintro _ _;rw[dgX.eq_1];have hfull:List.take (k.length+1) (List.drop 0 (pE (nwL T k.length)))=pE (nwL T k.length):=by rw[List.drop_zero,List.take_of_length_le (by simp[pE])]
 refine s_r 3 ?_;refine a_1 ?_;refine o_1 (.callS1 rfl rfl rfl (.shut rfl d_n (.nil)) rfl ((by rw[hfull];exact hti))) ?_;refine a_z ?_;exact ai (t_e (aB _))
def opK(k:Ke)(a b:Rat)(u:Lq):Lq:=smK k (rhK k u a b) k.length
theorem C9(k:Ke)(a b:Rat)(u:Lq)(i:Nat):coP (opK k a b u) i=jG (fun z=>coP z.1 i* inQ (aK z.2 u) a b) k:=by
 unfold opK;rw[gw k _ (by simp),l7 _ ([],[])];refine bF k.length fun j c=>?_
 have d:coP (rhK k u a b) j=inQ (aK (k.getD j ([],[])).2 u) a b:=by
  unfold coP rhK;rw[List.getD_eq_getElem?_getD,List.getD_eq_getElem?_getD,List.getElem?_map,List.getElem?_eq_getElem c];rfl
 rw[d]
theorem opK_lin{k:Ke}{a b c:Rat}{r p q:Lq}(h:∀i,coP r i=coP p i- c* coP q i)(i:Nat):coP (opK k a b r) i=coP (opK k a b p) i- c* coP (opK k a b q) i:=by
 rw[C9,C9,C9];exact oj (fun z=>by rw[fm h];grind) k
def opN(k:Ke)(a b:Rat):Nat->Lq->Lq
 |0,u=>u
 |m+1,u=>opK k a b (opN k a b m u)
theorem yS{k:Ke}{a b c:Rat}{r p q:Lq}(h:∀i,coP r i=coP p i- c* coP q i):∀m i,coP (opN k a b m r) i=coP (opN k a b m p) i- c* coP (opN k a b m q) i
 |0,i=>h i
 |m+1,i=>by rw[opN,opN,opN];exact opK_lin (yS h m) i
theorem Ir(k:Ke)(a b:Rat):∀m u,opN k a b (m+1) u=opN k a b m (opK k a b u)
 |0,u=>rfl
 |m+1,u=>by rw[opN,Ir k a b m u];rfl
def pwM(k:Ke)(a b:Rat)(m:Nat):Mx:=fun i j=>inQ (aK (k.getD i ([],[])).2 (opN k a b m (k.getD j ([],[])).1)) a b
theorem E2(k:Ke)(a b:Rat):pwM k a b 0=maK k a b:=rfl
theorem E4{k0:Ke}{a b:Rat}(B:Lq)(m:Nat):∀(k:Ke) (c o:Lq),c.length=k.length->inQ (aK B (opN k0 a b m (ma k c o))) a b=inQ (aK B (opN k0 a b m o)) a b+jG (fun p=>inQ (aK B (opN k0 a b m p.1.1)) a b* p.2) (k.zip c)
 |[],[],o,_=>by rw[ma];show _=_+0;grind
 |p::k,[],_,h=>by cases h
 |[],z::c,_,h=>by cases h
 |p::k,z::c,o,h=>by
  have e:=fm (B:=B) (r:=opN k0 a b m (smF z o p)) (p:=opN k0 a b m o) (q:=opN k0 a b m p.1) (c:= -z) (yS (fun i=>by unfold smF;rw[iB,cy];grind) m) a b;rw[ma,List.tail_cons,dA,E4 B m k c _ (by simpa using h),e,List.zip_cons_cons,jG];grind
theorem opN_nil{k:Ke}{a b:Rat}(B:Lq)(m:Nat):inQ (aK B (opN k a b m [])) a b=0:=by
 have:=fm (B:=B) (yS (k:=k) (a:=a) (b:=b) (r:=[]) (p:=[]) (q:=[]) (c:=1) (fun i=>by rw[show coP [] i=0 from rfl];grind) m) a b;grind
theorem E1(k:Ke)(a b:Rat)(m:Nat):mmQ k.length (pwM k a b m) (pwM k a b 0)=pwM k a b (m+1):=funext fun i=>funext fun j=>by
 unfold mmQ pwM;rw[Ir];have h:=E4 (k0:=k) (a:=a) (b:=b) (k.getD i ([],[])).2 m k (rhK k (k.getD j ([],[])).1 a b) [] (by simp);rw[opN_nil,pR (fun z:Lq×Lq=>inQ (aK (k.getD i ([],[])).2 (opN k a b m z.1)) a b) ([],[]) k _ (by simp)] at h;have e:ma k (rhK k (k.getD j ([],[])).1 a b) []=opK k a b (k.getD j ([],[])).1:=by unfold opK smK;rw[List.take_length]
 rw[<-e,h];rw[show∀z:Rat,(0:Rat)+z=z from fun z=>by grind];refine bF k.length fun t d=>?_
 have c:∀q:Lq,coP (rhK k q a b) t=inQ (aK (k.getD t ([],[])).2 q) a b:=fun q=>by
  unfold coP rhK;rw[List.getD_eq_getElem?_getD,List.getElem?_map,List.getD_eq_getElem?_getD,List.getElem?_eq_getElem d];rfl
 rw[c];rfl
section
variable {k:Ke}{a b:Rat}{p:Lq}{t:Nat}
end

structure TmG (k:Ke):Prop where
 l:k.length<=5
 n:∀p∈k,p.1.length<=4/\p.2.length<=4
 b:∀p∈k,bdL p.1 60/\bdL p.2 60
theorem TmK.toG{k:Ke}(h:TmK k):TmG k:=⟨by have:=h.l;omega,h.n,fun p hp=>⟨bdL_mono' (h.b p hp).1 (by omega),bdL_mono' (h.b p hp).2 (by omega)⟩⟩
theorem Iv{k:Ke}(h:TmG k):pn k:=by
 refine⟨by have:=h.l;omega,?_,fun p hp=>by have:=h.n p hp;omega⟩;rw[List.any_eq_false];intro p hp;have h:=h.n p hp;have a:=bR p.1;have b:=bR p.2
 have:¬(12< if bO p.2> bO p.1 then bO p.2 else bO p.1):=by
  unfold bO;split <;> omega
 unfold Cf;simpa using this
theorem in_G{p u:Lq}{a b:Rat}{t:Nat}(hp:p.length<=4)(bp:bdL p 60)(hu:u.length<=5)(bu:bdL u t)(ht:1<=t)(ht2:t<=100000000)(qa:qs a<=20)(qb:qs b<=20):j7 p u/\OkIn (aK p u) a b/\qs (inQ (aK p u) a b)<=80* t+6000:=by
 have m1:=tM bp bu (by omega) ht;have l1:=vd p u;have e1:p.length* (60+t+1)<=4* (60+t+1):=Nat.mul_le_mul_right _ hp;have m2:=bdL_mono' (b:=4* t+245) m1 (by omega);have i1:=nS m2 (by omega) (by omega);have m:=gF (aK p u);have q:=mxL_le bp (by omega);have o:=mxL_le bu ht;have l:p.length* (mxL p+mxL u+1)<=4* (60+t+1):=Nat.mul_le_mul hp (by omega)
 have ev:∀y:Rat,qs y<=20->gz (aH (aK p u)) y/\qs (ak (aH (aK p u)) y)<=40* t+2871:=fun y f=>by
  have k:=lJ f i1;have i:=mxL_le i1 (by omega);have n:(aH (aK p u)).length* (4* t+245+21+20+1)<=10* (4* t+245+21+20+1):=Nat.mul_le_mul_right _ (by omega);have j:(aH (aK p u)).length* (mxL (aH (aK p u))+qs y+1)<=10* (4* t+287):=Nat.mul_le_mul (by omega) (by omega);exact⟨⟨by omega,by omega⟩,by omega⟩
 obtain⟨g,e⟩:=ev a qa;obtain⟨d,c⟩:=ev b qb;refine⟨⟨by omega,by omega,by omega,by omega⟩,⟨dG m2 (by omega),by omega,d,g,by omega⟩,?_⟩;have h:=me (ak (aH (aK p u)) b) (ak (aH (aK p u)) a);unfold inQ;omega
section
variable {k:Ke}{l a b:Rat}{g:Lq}
end
theorem EM{f:Nat->Rat}{c:Nat}:∀n,(∀t,t< n->qs (f t)<=c)->qs (sQ f n)<=n* (c+1)+1
 |0,_=>by rw[sQ,Nat.zero_mul];decide
 |n+1,h=>by
  have b:=EM n fun t d=>h t (by omega);have a:=h n (by omega);have e:=gx (sQ f n) (f n);rw[sQ,Nat.succ_mul];omega
def pwB:Nat->Nat
 |0=>10900
 |m+1=>5* (pwB m+10901)+1
theorem Ig{m n:Nat}(h:m<=n):pwB m<=pwB n:=by
 induction n with
 |zero=>rw[show m=0 by omega];exact Nat.le_refl _
 |succ n a=>
  by_cases e:m=n+1;rw[e];exact Nat.le_refl _;have:=a (by omega);rw[pwB];omega
section
variable {k:Ke}{a b:Rat}
theorem If(hk:TmG k)(qa:qs a<=20)(qb:qs b<=20):∀m i j,i< k.length->j< k.length->qs (pwM k a b m i j)<=pwB m
 |0,i,j,d,hj=>by
  have g:∀i,i< k.length->k.getD i ([],[])∈k:=fun i d=>by
   rw[List.getD_eq_getElem?_getD,List.getElem?_eq_getElem d];exact List.getElem_mem d
  have h:=(in_G (u:=(k.getD j ([],[])).1) (t:=60) (a:=a) (b:=b) (hk.n _ (g i d)).2 (hk.b _ (g i d)).2 (by have:=(hk.n _ (g j hj)).1;omega) (hk.b _ (g j hj)).1 (by omega) (by omega) qa qb).2.2;rw[show 80* 60+6000=10800 from rfl] at h;rw[show pwB 0=10900 from rfl];show qs (inQ (aK (k.getD i ([],[])).2 (k.getD j ([],[])).1) a b)<=10900;omega
 |m+1,i,j,d,hj=>by
  rw[<-E1];unfold mmQ;have o:=hk.l
  have h:=EM (f:=fun t=>pwM k a b m i t* pwM k a b 0 t j) (c:=pwB m+10900) k.length fun t p=>by
   have r:=If hk qa qb m i t d p;have q:=If hk qa qb 0 t j p hj;have s:=dw (pwM k a b m i t) (pwM k a b 0 t j);rw[show pwB 0=10900 from rfl] at q;omega
  have e:k.length* (pwB m+10900+1)<=5* (pwB m+10900+1):=Nat.mul_le_mul_right _ o;refine Nat.le_trans h ?_;rw[pwB];refine Nat.succ_le_succ (Nat.le_trans e ?_);simp only[Nat.add_assoc,Nat.reduceAdd,Nat.le_refl]
theorem nw_bd{T:Nat->Rat}{τ:Nat}(hT:∀i,i< 5->qs (T i)<=τ)(h1:100<=τ):∀j,j<=5->(∀i,qs (coP (nwL T j) i)<=2^ i* (6* τ))/\(j< 5->∀i,i<=j+1->qs (nwS T (nwL T j) j i)+2^ (j+1- i) * (6* τ)<=i* (τ+1)+1+2^ (j+1) * (6* τ)):=by
 have k:∀i:Nat,6* τ<=2^ i* (6* τ):=fun i=>Nat.le_mul_of_pos_left _ (Nat.one_le_pow _ _ (by omega));have f:qs (0:Rat)<=1:=by decide
 have a:∀j,j< 5->(∀i,qs (coP (nwL T j) i)<=2^ i* (6* τ))->∀i,i<=j+1->qs (nwS T (nwL T j) j i)+2^ (j+1- i) * (6* τ)<=i* (τ+1)+1+2^ (j+1) * (6* τ):=fun j q c i=>by
  induction i with
  |zero=>
   intro _;rw[nwS,Nat.zero_mul,Nat.sub_zero];have:qs (0:Rat)<=1:=f;omega
  |succ i d=>
   intro b;have g:=d (by omega);have l:=hT i (by omega);have u:=c (j- i);have s:=dw (T i) (coP (nwL T j) (j- i));have t:=me (nwS T (nwL T j) j i) (T i* coP (nwL T j) (j- i));have e1:j+1- i=(j- i)+1:=by omega
   have e2:j+1- (i+1)=j- i:=by omega
   rw[e1,Nat.pow_succ,Nat.mul_right_comm] at g;have p:(i+1) * (τ+1)=i* (τ+1)+(τ+1):=Nat.succ_mul _ _;rw[nwS,e2,p];omega
 intro j
 induction j with
 |zero=>
  intro _
  have c:∀i,qs (coP (nwL T 0) i)<=2^ i* (6* τ):=fun i=>by
   have:=k i;cases i with
   |zero=>exact Nat.le_trans (show qs ((1:Int):Rat)<=1 by decide) (by omega)
   |succ i=>exact Nat.le_trans (show qs (0:Rat)<=1 from f) (by omega)
  exact⟨c,fun h=>a 0 h c⟩
 |succ j d=>
  intro q;obtain⟨m,n⟩:=d (by omega);have o:=n (by omega) (j+1) (Nat.le_refl _)
  have c:∀i,qs (coP (nwL T (j+1)) i)<=2^ i* (6* τ):=fun i=>by
   rw[nwL,Ea,mn];by_cases b:i< j+1;rw[if_pos b];exact m i;rw[if_neg b];by_cases e:i=j+1;have g:=ik (nwS T (nwL T j) j (j+1)) ((((j+1:Nat):Int)):Rat);have l:=sm8 (j+1) (by omega);have r:(j+1) * (τ+1)<=5* (τ+1):=Nat.mul_le_mul_right _ (by omega);rw[Nat.sub_self,Nat.pow_zero,Nat.one_mul] at o;rw[e,Nat.sub_self];show qs (nwS T (nwL T j) j (j+1) / ((((j+1:Nat):Int)):Rat))<=_;omega;have:=k i;rw[eH (by simp;omega)];omega
  exact⟨c,fun h=>a (j+1) h c⟩
theorem okDt_G{T:Nat->Rat}{τ n:Nat}(hn:n<=5)(hT:∀i,i< 5->qs (T i)<=τ)(h1:100<=τ)(h2:τ<=80000000):OkDt T n:=by
 have e:∀i:Nat,i<=5->2^ i* (6* τ)<=32* (6* τ):=fun i c=>Nat.mul_le_mul_right _ (by
  have:i=0\/i=1\/i=2\/i=3\/i=4\/i=5:=by omega
  rcases this with rfl|rfl|rfl|rfl|rfl|rfl <;> decide)
 have a:∀j,j< n->(∀i,qs (coP (nwL T j) (j- i))<=32* (6* τ))/\∀i,i<=j+1->qs (nwS T (nwL T j) j i)<=5* (τ+1)+1+32* (6* τ):=fun j b=>by
  obtain⟨k,h⟩:=nw_bd hT h1 j (by omega);refine⟨fun i=>Nat.le_trans (k _) (e _ (by omega)),fun i c=>?_⟩;have g:=h (by omega) i c;have f:=e (j+1) (by omega);have d:i* (τ+1)<=5* (τ+1):=Nat.mul_le_mul_right _ (by omega);omega
 refine⟨fun j i b c=>?_,fun j i b c=>?_,fun j b=>?_⟩;have f:=(a j b).1 i;have d:=hT i (by omega);omega;have f:=(a j b).1 i;have d:=hT i (by omega);have l:=(a j b).2 i (by omega);have m:=dw (T i) (coP (nwL T j) (j- i));omega;have l:=(a j b).2 (j+1) (by omega);omega
end
theorem fs_det0(T:Nat->Rat)(a b:Rat):FS 34 [.arr (kE []),.agg (spC a b)] (.arr (pE (ao (nwL T 0)))):=by
 have i1:=dU 1 (by decide);have c:=c9 (nwL T 0) (by simp);refine f_n Tryz.func34 ?_ ?_;exact ac (aL []) (ac (az (aZ a b)) af);refine r_z 3 ?_;refine AWp.ent (st':=⟨[(2,bKe []),(3,bSp a b)],[],1,60⟩) ?_ ?_;refine s_x [] (fun hs=>?_) (fun hs=>?_)
 ·repeat' (first|exact aP|refine ay rfl ?_ ?_|exact Cv.boxp hs rfl (aT rfl) rfl (ac (aL []) af)|exact Cv.boxp hs rfl (aT rfl) rfl (aZ a b)|exact aX)
 ·repeat' (first|exact aE|refine h_c ?_ ?_|exact bZ|refine aD ?_|exact av|refine ah ?_ ?_|exact Cv.boxp hs rfl (aT rfl) rfl (ac (aL []) af)|exact Cv.boxp hs rfl (aT rfl) rfl (aZ a b)|exact aX)
 refine r_c 4 (i1) ?_;refine a_z ?_;refine r_z 1 ?_;refine ae (s_r 3 ?_);refine a_2 ?_;refine o_0 (.bin rfl rfl (vF kG (rfl))) ?_;refine aq ?_;refine cF (am (s_r 3 ?_));refine a_1 ?_;refine o_1 (.callS1 rfl rfl rfl (.shut rfl d_n (.nil)) rfl (c)) ?_;refine a_z ?_;exact ai (t_e (aB _))
section
variable {k:Ke}{a b:Rat}
theorem pwB_4{m:Nat}(h:m<=4):pwB m<=15400000:=Nat.le_trans (Ig h) (by decide)
theorem ma_G(hk:TmG k)(qa:qs a<=20)(qb:qs b<=20):OkMa k a b:=
 ⟨by have:=hk.l;omega,fun p hp q c=>by
  have h:=in_G (u:=q.1) (t:=60) (a:=a) (b:=b) (hk.n p hp).2 (hk.b p hp).2 (by have:=(hk.n q c).1;omega) (hk.b q c).1 (by omega) (by omega) qa qb;exact⟨h.1,h.2.1⟩⟩
def iT(k:Ke)(a b:Rat):Lq:=ao (nwL (fun m=>trQ (pwM k a b m) k.length) k.length)
theorem Fv(hk:TmG k)(qa:qs a<=20)(qb:qs b<=20):FS 34 [.arr (kE k),.agg (spC a b)] (.arr (pE (iT k a b))):=by
 have g:=hk.l;by_cases r:k.length=0;rw[List.length_eq_zero_iff.1 r];exact fs_det0 _ a b;have bd:∀m i j,m<=4->i< k.length->j< k.length->qs (pwM k a b m i j)<=15400000:=fun m i j p d q=>Nat.le_trans (If hk qa qb m i j d q) (pwB_4 p)
 have tr:∀m n,m<=4->n<=k.length->qs (trQ (pwM k a b m) n)<=78000000:=fun m n p r=>by
  have h:=EM (f:=fun t=>pwM k a b m t t) (c:=15400000) n fun t o=>bd m t t p (by omega) (by omega);have e:n* (15400000+1)<=5* (15400000+1):=Nat.mul_le_mul_right _ (by omega);exact Nat.le_trans h (Nat.le_trans (Nat.succ_le_succ e) (Nat.le_of_ble_eq_true rfl))
 refine fs_detN k a b (pwM k a b) (ma_G hk qa qb) (E2 k a b) (by omega) (by omega) (fun j q i d=>?_) (fun j q=>?_) (okDt_G (τ:=78000000) g (fun i d=>tr i _ (by omega) (Nat.le_refl _)) (by omega) (by omega));have x:=tr j i (by omega) (by omega);have v:=bd j i i (by omega) d d;omega;rw[<-E1];refine fs_mm k.length (pwM k a b j) (pwM k a b 0) (by omega) fun i c t d u o=>?_;have x:=bd j i t (by omega) d o;have v:=bd 0 t c (by omega) o u;have z:=dw (pwM k a b j i t) (pwM k a b 0 t c)
 have w:=EM (f:=fun t=>pwM k a b j i t* pwM k a b 0 t c) (c:=30900000) t fun s hs=>by
  have B:=bd j i s (by omega) d (by omega);have A:=bd 0 s c (by omega) (by omega) u;have C:=dw (pwM k a b j i s) (pwM k a b 0 s c);omega
 have e:t* (30900000+1)<=5* (30900000+1):=Nat.mul_le_mul_right _ (by omega);have y:=Nat.le_trans w (Nat.le_trans (Nat.succ_le_succ e) (show 5* (30900000+1)+1<=155000000 from Nat.le_of_ble_eq_true rfl));exact⟨by omega,Nat.le_trans (Nat.add_le_add y z) (by omega)⟩
theorem FA(hk:TmG k)(qa:qs a<=20)(qb:qs b<=20)(ha:sm a)(hb:sm b)(hab:a<=b):FS 7 [.arr (kE k),.agg (spC a b)] (.tup [.arr (pE (iT k a b)),i64 0]):=by
 have d:=oM k a b (Iv hk) ha hb hab;have c:=Fv hk qa qb;refine f_n Tryz.func7 ?_ ?_;exact ac (aL k) (ac (az (aZ a b)) af);refine r_z 3 ?_;refine ae (r_c 3 (d) ?_);refine aq ?_;refine cF (am (r_c 5 (c) ?_));refine a_z ?_;refine ai (Fin.many ⟨_,_,rfl,rfl,⟨_,_,rfl,rfl,rfl⟩⟩ (nle rfl) ?_);exact ah (an aA (aB _)) (ah (an aA (ag _)) av)
end
section
variable {k:Ke}{a b:Rat}
theorem EE{x y:Lq}(h:∀t,ak x t=ak y t)(i:Nat):coP x i=coP y i:=by
 rw[<-bv x,iw h,bv]
theorem Fm{p q:Lq}(h:∀i,coP p i=coP q i)(a b:Rat):inQ p a b=inQ q a b:=by
 unfold inQ;have e:∀i,coP (aH p) i=coP (aH q) i:=fun i=>by rw[fg,fg];split;rfl;rw[h]
 rw[dZ e,dZ e]
theorem vh{p q p' q':Lq}(hp:∀i,coP p' i=coP p i)(hq:∀i,coP q' i=coP q i)(a b:Rat):inQ (aK q' p') a b=inQ (aK p q) a b:=
 Fm (EE fun t=>by rw[a6,a6,dZ hp,dZ hq];grind) a b
def tuK(k:Ke):Ke:=k.map fun p=>(ao p.2,ao p.1)
@[simp] theorem fc (k:Ke):(tuK k).length=k.length:=by simp[tuK]
theorem ur{i:Nat}(h:i< k.length):(tuK k).getD i ([],[])=(ao (k.getD i ([],[])).2,ao (k.getD i ([],[])).1):=by
 unfold tuK;rw[List.getD_eq_getElem?_getD,List.getD_eq_getElem?_getD,List.getElem?_map,List.getElem?_eq_getElem h];rfl
theorem ma_tu{i j:Nat}(hi:i< k.length)(hj:j< k.length):maK (tuK k) a b i j=maK k a b j i:=by
 unfold maK;rw[ur hi,ur hj];exact vh (bv _) (bv _) a b
theorem rI(f:Nat->Rat):sQ f 0=0/\sQ f 1=f 0/\sQ f 2=f 0+f 1/\sQ f 3=f 0+f 1+f 2:=by
 simp only[sQ];grind
def trE(M:Mx):Nat->Nat->Rat
 |1,0=>M 0 0
 |2,0=>M 0 0+M 1 1
 |2,1=>M 0 0* M 0 0+2* (M 0 1* M 1 0)+M 1 1* M 1 1
 |3,0=>M 0 0+M 1 1+M 2 2
 |3,1=>M 0 0* M 0 0+M 1 1* M 1 1+M 2 2* M 2 2+2* (M 0 1* M 1 0)+2* (M 0 2* M 2 0)+2* (M 1 2* M 2 1)
 |3,2=>M 0 0* M 0 0* M 0 0+M 1 1* M 1 1* M 1 1+M 2 2* M 2 2* M 2 2+3* (M 0 0* (M 0 1* M 1 0)+M 0 0* (M 0 2* M 2 0)+M 1 1* (M 0 1* M 1 0)+M 1 1* (M 1 2* M 2 1)+M 2 2* (M 0 2* M 2 0)+M 2 2* (M 1 2* M 2 1)+M 0 1* M 1 2* M 2 0+M 0 2* M 2 1* M 1 0)
 |_,_=>0
theorem tr_E{n m:Nat}(hn:k.length=n)(h3:n<=3)(hm:m< n):trQ (pwM k a b m) n=trE (maK k a b) n m:=by
 have p1:pwM k a b 1=mmQ n (maK k a b) (maK k a b):=by have:=E1 k a b 0;rw[E2,hn] at this;exact this.symm
 have p2:pwM k a b 2=mmQ n (mmQ n (maK k a b) (maK k a b)) (maK k a b):=by have:=E1 k a b 1;rw[E2,hn,p1] at this;exact this.symm
 generalize d:maK k a b=M at *
 have c:pwM k a b 0=M:=by rw[E2,d]
 rcases(by omega:n=1\/n=2\/n=3) with rfl|rfl|rfl
 obtain rfl:m=0:=by omega
 rw[c];unfold trQ;rw[(rI _).2.1];rfl;rcases(by omega:m=0\/m=1) with rfl|rfl
 rw[c];unfold trQ;rw[(rI _).2.2.1];rfl;rw[p1];unfold trQ trE mmQ;simp only[(rI _).2.2.1];grind;rcases(by omega:m=0\/m=1\/m=2) with rfl|rfl|rfl
 rw[c];unfold trQ;rw[(rI _).2.2.2];rfl;rw[p1];unfold trQ trE mmQ;simp only[(rI _).2.2.2];grind;rw[p2];unfold trQ trE mmQ;simp only[(rI _).2.2.2];grind
theorem qn{T U:Nat->Rat}:∀n,(∀m,m< n->T m=U m)->nwL T n=nwL U n
 |0,_=>rfl
 |n+1,h=>by
  rw[nwL,nwL,qn n fun m b=>h m (by omega)]
  have:∀(o:Lq) (i:Nat),i<=n+1->nwS T o n i=nwS U o n i:=fun o i=>by
   induction i with
   |zero=>intro _;rfl
   |succ i a=>intro c;rw[nwS,nwS,a (by omega),h i (by omega)]
  rw[this _ _ (Nat.le_refl _)]
theorem det_tu(h3:k.length<=3):iT (tuK k) a b=iT k a b:=by
 unfold iT;rw[fc,qn k.length fun m r=>?_];show trQ (pwM (tuK k) a b m) k.length=trQ (pwM k a b m) k.length;rw[tr_E (fc k) h3 r,tr_E rfl h3 r];have e:∀i j,i< k.length->j< k.length->maK (tuK k) a b i j=maK k a b j i:=fun i j s t=>ma_tu s t;generalize maK (tuK k) a b=N at *
 generalize maK k a b=M at *
 generalize k.length=n at *
 rcases(by omega:n=1\/n=2\/n=3) with rfl|rfl|rfl
 obtain rfl:m=0:=by omega
 exact e 0 0 (by omega) (by omega);have d:=e 0 0 (by omega) (by omega);have g:=e 0 1 (by omega) (by omega);have f:=e 1 0 (by omega) (by omega);have c:=e 1 1 (by omega) (by omega);rcases(by omega:m=0\/m=1) with rfl|rfl <;> unfold trE <;> grind
 have d:=e 0 0 (by omega) (by omega);have g:=e 0 1 (by omega) (by omega);have f:=e 1 0 (by omega) (by omega);have c:=e 1 1 (by omega) (by omega);have l:=e 0 2 (by omega) (by omega);have q:=e 1 2 (by omega) (by omega);have o:=e 2 0 (by omega) (by omega);have p:=e 2 1 (by omega) (by omega);have h:=e 2 2 (by omega) (by omega);rcases(by omega:m=0\/m=1\/m=2) with rfl|rfl|rfl <;> unfold trE <;> simp only[d,g,l,f,c,q,o,p,h]<;> grind
theorem det_val{l:Rat}{r:Nat->Rat}(h3:k.length<=3):ak (iT k a b) l=gL k.length (svM (maK k a b) l r k.length):=by
 unfold iT;rw[cP];have e:=fun m (hm:m< k.length)=>tr_E (a:=a) (b:=b) (n:=k.length) rfl h3 hm;rw[qn (U:=trE (maK k a b) k.length) k.length e];clear e;generalize maK k a b=M at *
 generalize k.length=n at *
 rcases(by omega:n=0\/n=1\/n=2\/n=3) with rfl|rfl|rfl|rfl
 simp[nwL,gL,ak];grind;simp[nwL,nwS,gL,svM,ak,coP,trE];grind;simp[nwL,nwS,gL,svM,ak,coP,trE];grind;simp[nwL,nwS,gL,svM,ak,coP,trE];grind
end
theorem sQ_zero'(n:Nat):sQ (fun _=>0) n=0:=by
 rw[bF (g:=fun j=>if j=n then 0 else 0) n fun j a=>by split <;> rfl,ju,if_neg (by omega)]
theorem EL(f:Nat->Nat->Rat)(n:Nat):∀m,sQ (fun i=>sQ (fun j=>f i j) n) m=sQ (fun j=>sQ (fun i=>f i j) m) n
 |0=>by rw[sQ,show(fun j=>sQ (fun i=>f i j) 0)=fun _=>(0:Rat) from rfl,sQ_zero']
 |m+1=>by
  rw[sQ,EL f n m,<-CU];rfl
section
variable {k:Ke}{l a b:Rat}{r:Nat->Rat}
theorem sm_inj{y:Nat->Rat}(hy:Sol 0 (svM (maK k a b) l r k.length) k.length y)(h0:∀i,coP (smK k (aN k.length y) k.length) i=0):∀j,j< k.length->y j=0:=fun j f=>by
 have e:=CX hy f
 have d:inQ (aK (k.getD j ([],[])).2 (smK k (aN k.length y) k.length)) a b=0:=by
  rw[fm (p:=[]) (q:=[]) (c:=0) (fun i=>by rw[h0,show coP [] i=0 from rfl];grind),tP];grind
 rw[oo _ a b k _ (by simp),bF (g:=fun i=>maK k a b j i* y i) k.length fun i h=>by rw[cS h];rfl] at d;rw[d] at e;rw[e];grind
theorem spn_vec{A:Mx}{L:Ln}(hE:Ech A k.length k.length L){F:Ln}(hF:∀f∈F,f< k.length/\f∉L){u:Lq}(h:Spn ((F.map (gq A k.length L)).map fun z=>smK k z k.length) u):
    ∃y:Nat->Rat,Sol 0 A k.length y/\(∀j,j< k.length->j∉L->j∉F->y j=0)/\∀i,coP u i=coP (smK k (aN k.length y) k.length) i:=by
 induction h with
 |zero h=>
  refine⟨fun _=>0,Au A _,fun _ _ _ _=>rfl,fun i=>?_⟩;rw[h,gw k _ (by simp),bF (g:=fun _=>0) k.length fun j a=>by rw[cS a];grind,sQ_zero']
 | @step p d v c _ hd hv ih=>
  obtain⟨y,q,n,s⟩:=ih;obtain⟨z,r,rfl⟩:=List.mem_map.1 hd;obtain⟨f,m,rfl⟩:=List.mem_map.1 r;obtain⟨o,t⟩:=hF f m;refine⟨fun j=>y j- c* zerX A L f j,yu q (hE.zerX o t),fun j a l b=>?_,fun i=>?_⟩;show y j- c* zerX A L f j=0;rw[n j a l b];unfold zerX;rw[if_neg (by simpa using l),if_neg (fun e=>b (by rw[e];exact m))];grind;rw[hv,s,gw k _ (by simp),gw k _ (by simp),gw k _ (by simp),<-ie];refine bF k.length fun j a=>?_;unfold gq;rw[cS a,cS a,cS a];grind
theorem BQ(Z:Lw)(j:Nat):∀m,m<=j->ecK (Z.take j) m=ecK Z m
 |0,_=>rfl
 |m+1,h=>by
  rw[ecK,ecK,BQ Z j m (by omega)];congr 1;rw[List.getD_eq_getElem?_getD,List.getD_eq_getElem?_getD,List.getElem?_take,if_pos (by omega)]
theorem FI{A:Mx}{L:Ln}(hE:Ech A k.length k.length L)(hS:∀x,Sol 0 A k.length x->Sol 0 (svM (maK k a b) l r k.length) k.length x):∀j,j<=(zsK k (A,L)).length->(ecK (zsK k (A,L)) j).length=j
 |0,_=>rfl
 |j+1,h=>by
  have C:=FI hE hS j (by omega);obtain⟨Z,e⟩:∃Z,Z=zsK k (A,L):=⟨_,rfl⟩;rw[<-e] at C h⊢;have Q:=mV Z j;rw[ecK];unfold ecT;by_cases hneg:bO (reP (Z.getD j []) (ecK Z j))< 0;exfalso
  have D:∀i,coP (Abs.rL (Z.getD j []) (ecK Z j)) i=0:=by
   rw[j5,G9] at hneg;intro i;have d:ao (Abs.rL (Z.getD j []) (ecK Z j))=[]:=Classical.byContradiction fun g=>degP_nil.1 hneg g;rw[<-bv,d];rfl
  have d:Spn (ecK Z j) (Z.getD j []):=(E0 Q.piv (Z.getD j [])).ext fun i=>by rw[ff,D];grind
  have N:(Z.take j).length=j:=by rw[List.length_take];omega
  have B:Spn (Z.take j) (Z.getD j []):=by
   rw[<-BQ Z j j (Nat.le_refl _)] at d;have:=(ecL_span (l:=Z.take j)).2 (Z.getD j []);unfold ecL at this;rw[N] at this;exact this.1 d
  have q:Z.take j=(((frL L k.length).take j).map (gq A k.length L)).map fun z=>smK k z k.length:=by
   rw[e];unfold zsK;rw[<-List.map_take,<-List.map_take]
  have p:j< (frL L k.length).length:=by rw[e] at h;unfold zsK at h;simp at h;omega
  obtain⟨f,t⟩:∃f,(frL L k.length)[j]?=some f:=⟨_,List.getElem?_eq_getElem p⟩;have n:=List.mem_of_getElem? t;obtain⟨s,u⟩:=mem_frL.1 n
  have hp:Z.getD j []=smK k (gq A k.length L f) k.length:=by
   rw[List.getD_eq_getElem?_getD,e];unfold zsK;rw[List.getElem?_map,List.getElem?_map,t];rfl
  have v:f∉ (frL L k.length).take j:=fun O=>by
   obtain⟨i,m⟩:=List.getElem?_of_mem O;rw[List.getElem?_take] at m;split at m
   ·rename_i o
    obtain⟨M,G⟩:=List.getElem?_eq_some_iff.1 m;obtain⟨S,K⟩:=List.getElem?_eq_some_iff.1 t;exact(List.pairwise_iff_getElem.1 (xI L k.length)) i j M S o (G.trans K.symm)
   cases m
  rw[q] at B;obtain⟨y,F,R,H⟩:=spn_vec hE (fun g E=>mem_frL.1 (List.mem_of_mem_take E)) B
  have J:=sm_inj (hS _ (yu (c:=1) (hE.zerX s u) F)) (fun i=>by
   have:=H i;rw[hp] at this;rw[gw k _ (by simp),gw k _ (by simp)] at this;rw[gw k _ (by simp),bF (g:=fun j=>(coP (k.getD j ([],[])).1 i* coP (gq A k.length L f) j)- 1* (coP (k.getD j ([],[])).1 i* coP (aN k.length y) j)) k.length fun j w=>by unfold gq;rw[cS w,cS w,cS w];grind,ie,this];grind) f s
  have e1:zerX A L f f=1:=by unfold zerX;rw[if_neg (by simpa using u),if_pos rfl]
  rw[e1,R f s u v] at J;grind;rw[if_neg hneg,ly];simp[C]
theorem Em{g:Lq}:(bK k l g a b).length+(slM (svM (maK k a b) l (fun t=>coP (rhK k g a b) t) k.length) k.length k.length).2.length=k.length:=by
 have c:=dh (svM (maK k a b) l (fun t=>coP (rhK k g a b) t) k.length) k.length k.length;have d:=FI (k:=k) (l:=l) (a:=a) (b:=b) (r:=fun t=>coP (rhK k g a b) t) c (fun x e=>(mc k.length).1 e) _ (Nat.le_refl _);have f:=zw (svM (maK k a b) l (fun t=>coP (rhK k g a b) t) k.length) k.length k.length
 have h:(bK k l g a b).length=(frL (slM (svM (maK k a b) l (fun t=>coP (rhK k g a b) t) k.length) k.length k.length).2 k.length).length:=by
  show(ecK (zsK k (syM k l (rhK k g a b) a b)) _).length=_;unfold syM;rw[d];simp[zsK]
 omega
end
def bE(F:Nat->Bool)(n:Nat):Lc:=(List.range n).map fun j=>[bln (F j)]
@[simp] theorem bE_length (F:Nat->Bool)(n:Nat):(bE F n).length=n:=by simp[bE]
def lvK:Ln->Hp
 |[]=>[]
 |l::L=>[(36,some ⟨3,1,lvE (l::L)⟩)]
def qx(F:Nat->Bool)(n:Nat)(L:Ln):Hp:=(35,some ⟨4,1,bE F n⟩)::lvK L
abbrev qH(R:Nat->List RQ)(n:Nat)(F:Nat->Bool)(L:Ln):Hp:=rqH 73 81 R n n (qx F n L)

abbrev apK(k:Ke)(u:Lq)(a b:Rat)(i:Nat):Lq:=smK k (rhK k u a b) i

section
variable {k:Ke}{g:Lq}{a b l:Rat}
theorem solE_co{G u:Lq}:SolE k l a b G u↔∀i,coP u i=coP G i+l* coP (apK k u a b k.length) i:=by
 have e:∀i,coP (hoP k l G u a b) i=coP G i+l* coP (apK k u a b k.length) i:=fun i=>by
  unfold hoP;rw[iB,cy];show _+coP (apK k u a b k.length) i* l=_;grind
 constructor;intro h i;have c:ao u=ao (hoP k l G u a b):=iw fun x=>by rw[Be];exact h x
 rw[<-e,<-bv u,c,bv];intro h x;rw[<-Be];exact dZ (fun i=>by rw[e];exact h i) x
variable {A:Mx}{n:Nat}{L:Ln}
end
section
variable {k:Ke}{l a b:Rat}{g g':Lq}
theorem HI{r r':Nat->Rat}{i j:Nat}(hi:i< k.length)(hj:j< k.length):svM (maK (tuK k) a b) l r' k.length i j=svM (maK k a b) l r k.length j i:=by
 unfold svM;rw[if_neg (show¬j=k.length by omega),if_neg (show¬i=k.length by omega),ma_tu hi hj];by_cases e:j=i;rw[if_pos e,if_pos e.symm];rw[if_neg e,if_neg (fun h=>e h.symm)]
theorem len_tu(h3:k.length<=3):(bK k l g a b).length=(bK (tuK k) l g' a b).length:=by
 have h:=Em (k:=k) (l:=l) (a:=a) (b:=b) (g:=g);have d:=Em (k:=tuK k) (l:=l) (a:=a) (b:=b) (g:=g');rw[fc] at d;have f:=Gi (M:=svM (maK k a b) l (fun t=>coP (rhK k g a b) t) k.length) (N:=svM (maK (tuK k) a b) l (fun t=>coP (rhK (tuK k) g' a b) t) k.length) h3 fun i j e c=>HI e c;omega
theorem Jp(h3:k.length<=3):0< (bK k l g a b).length↔ak (iT k a b) l=0:=by
 have c:=Em (k:=k) (l:=l) (a:=a) (b:=b) (g:=g);rw[det_val (r:=fun t=>coP (rhK k g a b) t) h3,<-C3 h3];omega
theorem rh_at{t:Nat}(h:t< k.length):coP (rhK k g a b) t=inQ (aK (k.getD t ([],[])).2 g) a b:=by
 unfold coP rhK;rw[List.getD_eq_getElem?_getD,List.getD_eq_getElem?_getD,List.getElem?_map,List.getElem?_eq_getElem h];rfl
theorem fred:ji k.length (syM k l (rhK k g a b) a b).1 (syM k l (rhK k g a b) a b).2=false↔∀u∈bK (tuK k) l g' a b,inQ (aK u g) a b=0:=by
 have G:=dh (svM (maK k a b) l (fun t=>coP (rhK k g a b) t) k.length) k.length k.length;obtain⟨S,A⟩:∃S,S=svM (maK k a b) l (fun t=>coP (rhK k g a b) t) k.length:=⟨_,rfl⟩;have F:∀i,S i k.length=coP (rhK k g a b) i:=fun i=>by rw[A];exact if_pos rfl
 -- the integral of a combination of the turned kernel's polynomials
 have o:∀y:Nat->Rat,inQ (aK (smK (tuK k) (aN k.length y) k.length) g) a b=sQ (fun t=>y t* S t k.length) k.length:=fun y=>by
  have e:=oo g a b (tuK k) (aN k.length y) (by simp);rw[fc] at e;rw[vh (p:=g) (p':=g) (q:=smK (tuK k) (aN k.length y) k.length) (fun _=>rfl) (fun _=>rfl) a b,e];refine bF k.length fun t n=>?_;rw[cS n,F,rh_at n,ur n,vh (p:=(k.getD t ([],[])).2) (q:=g) (bv _) (fun _=>rfl) a b];grind
 rw[show syM k l (rhK k g a b) a b=slM S k.length k.length by unfold syM;rw[A]];rw[<-A] at G;constructor;intro h u w;have M:=(mc k.length).1 (G.oneX (tf h));generalize oneX (slM S k.length k.length).1 k.length (slM S k.length k.length).2=x at M;have w:=bK_span.1 (Spn.of w);have E:=fun i=>solE_co.1 w i;obtain⟨z,C⟩:∃z:Nat->Rat,z=fun j=>l* inQ (aK ((tuK k).getD j ([],[])).2 u) a b:=⟨_,rfl⟩
 have s:∀i,coP u i=coP (smK (tuK k) (aN k.length z) k.length) i:=fun i=>by
  have e1:=gw (tuK k) (rhK (tuK k) u a b) (by simp) i;have e2:=gw (tuK k) (aN k.length z) (by simp) i;rw[fc] at e1 e2;rw[E,e2,fc];show _+l* coP (smK (tuK k) (rhK (tuK k) u a b) k.length) i=_;rw[e1,show coP [] i=0 from rfl,bF (f:=fun j=>coP ((tuK k).getD j ([],[])).1 i* coP (aN k.length z) j) (g:=fun j=>(coP ((tuK k).getD j ([],[])).1 i* coP (rhK (tuK k) u a b) j) * l) k.length fun j m=>by rw[cS m,C,rh_at (k:=tuK k) (by simpa using m)];grind,ny];grind
 rw[Fm (fun i=>EE (x:=aK u g) (y:=aK (smK (tuK k) (aN k.length z) k.length) g) (fun t=>by rw[a6,a6,dZ s]) i) a b,o]
 -- z solves the turned system
 have H:∀i,i< k.length->sQ (fun t=>z t* S t i) k.length=0:=fun i D=>by
  have X:z i=l* sQ (fun j=>maK (tuK k) a b i j* z j) k.length:=by
   have N:=fm (B:=((tuK k).getD i ([],[])).2) (r:=u) (p:=smK (tuK k) (aN k.length z) k.length) (q:=[]) (c:=0) (fun t=>by rw[s];grind) a b;have J:=oo ((tuK k).getD i ([],[])).2 a b (tuK k) (aN k.length z) (by simp);rw[fc] at J;rw[J,bF (g:=fun j=>maK (tuK k) a b i j* z j) k.length fun j m=>by rw[cS m];rfl] at N;rw[show z i=l* inQ (aK ((tuK k).getD i ([],[])).2 u) a b by rw[C],N];grind
  rw[bF (g:=fun t=>(if t=i then z i else 0)- l* (maK (tuK k) a b i t* z t)) k.length fun t n=>?_,ie,ju,if_pos D];rw[<-X];grind;rw[A,<-HI (r:=fun t=>coP (rhK k g a b) t) (r':=fun _=>0) D n];unfold svM;rw[if_neg (by omega)];by_cases e:t=i;subst e;rw[if_pos rfl,if_pos rfl];grind;rw[if_neg e,if_neg e];grind
 rw[bF (g:=fun t=>sQ (fun i=>z t* S t i* x i) k.length) k.length fun t n=>?_,EL,bF (g:=fun _=>0) k.length fun i D=>?_,sQ_zero'];rw[ny (fun t=>z t* S t i) (x i),H i D];grind;have W:=M t n;rw[show S t k.length=sQ (fun j=>S t j* x j) k.length by rw[W];grind];rw[bF (f:=fun i=>z t* S t i* x i) (g:=fun i=>S t i* x i* z t) k.length fun i _=>by grind,ny];grind;intro h;refine Classical.byContradiction fun T=>?_;have V:ji k.length (slM S k.length k.length).1 (slM S k.length k.length).2=true:=by simpa using T
 obtain⟨i,i1,i2,U⟩:=Dc V;obtain⟨y,L⟩:=EK S k.length k.length (Nat.le_refl _) i i2;have C:∀j,j< k.length->sQ (fun t=>y t* S t j) k.length=0:=fun j m=>by rw[<-L j];exact G.rest i j i1 i2 m
 have w:SolE (tuK k) l a b [] (smK (tuK k) (aN k.length y) k.length):=by
  have:=uD (k:=tuK k) (l:=l) (a:=a) (b:=b) (r:=fun _=>0) (x:=y) (fun j m=>by
   rw[fc] at m⊢;rw[show svM (maK (tuK k) a b) l (fun _=>0) k.length j k.length=0 from if_pos rfl,bF (g:=fun t=>y t* S t j) k.length fun t n=>by rw[A,HI (r:=fun t=>coP (rhK k g a b) t) m n];grind,C j m];grind)
  rwa[fc] at this
 have K:inQ (aK (smK (tuK k) (aN k.length y) k.length) g) a b=0:=by
  refine((bK_span (g:=g')).2 w).closed (Q:=fun v=>inQ (aK v g) a b=0) (fun v R=>?_) (fun p d c v hp O hv=>?_) h;rw[vh (p:=g) (p':=g) (q:=v) (fun _=>rfl) (fun _=>rfl) a b,fm (p:=[]) (q:=[]) (c:=0) (fun i=>by rw[R,show coP [] i=0 from rfl];grind),tP];grind;rw[vh (p:=g) (p':=g) (q:=v) (fun _=>rfl) (fun _=>rfl) a b,fm hv,<-vh (p:=g) (p':=g) (q:=p) (fun _=>rfl) (fun _=>rfl) a b,<-vh (p:=g) (p':=g) (q:=d) (fun _=>rfl) (fun _=>rfl) a b,hp,O];grind
 rw[o,<-L k.length] at K;exact U K
end
end Go.Proofs.YtkbjakfniejkcaaGreatDoor
