/- Part V34 of the proof. -/
import Derived.Test.YtdgbhlkabelmbaaGreatDoorV33
set_option linter.all false
namespace Go.Proofs.YtdgbhlkabelmbaaGreatDoor
open Go.Abs
set_option maxRecDepth 20000
set_option maxHeartbeats 4000000
def nwS(T:Nat→Rat)(o:List Rat)(j:Nat):Nat→Rat
 |0=>0
 |i+1=>nwS T o j i- T i* coP o (j- i)
def nwL(T:Nat→Rat):Nat→List Rat
 |0=>[((1:Int):Rat)]
 |j+1=>nwL T j++[nwS T (nwL T j) j (j+1) / (((j+1:Nat):Int):Rat)]
@[simp] theorem ir (T:Nat→Rat):∀j,(nwL T j).length=j+1
 |0=>rfl
 |j+1=>by rw[nwL,List.length_append,ir T j];rfl
def trT(T:Nat→Rat)(j:Nat):List Rat:=aO j T
@[simp] theorem trT_length (T:Nat→Rat)(j:Nat):(trT T j).length=j:=by simp[trT]
theorem trT_s(T:Nat→Rat)(j:Nat):trT T j++[T j]=trT T (j+1):=by unfold trT aO;rw[List.range_succ,List.map_append];rfl
theorem pE_snoc'(l:List Rat)(a:Rat):pE l++[qC a]=pE (l++[a]):=by simp[pE]
def dg0(k:Ke)(M:List (List Rat))(T:Nat→Rat):Unit→AState
 |u=>⟨[(2,bKe k),(5,.lptr 1 0 0),(6,.lptr 2 0 0),(20,.clos 129 [] [bM M])],[(1,some ⟨38,1,[[.lsl 3 0 1 none 3]]⟩),(2,some ⟨37,1,[[.emp]]⟩),(3,some ⟨36,3,pE (nwL T 0)⟩)],4,60⟩
theorem dg0_mk(k:Ke)(M:List (List Rat))(T:Nat→Rat)(u:Unit):dg0 k M T u=⟨[(2,bKe k),(5,.lptr 1 0 0),(6,.lptr 2 0 0),(20,.clos 129 [] [bM M])],[(1,some ⟨38,1,[[.lsl 3 0 1 none 3]]⟩),(2,some ⟨37,1,[[.emp]]⟩),(3,some ⟨36,3,pE (nwL T 0)⟩)],4,60⟩:=rfl
def dgs(k:Ke)(M:List (List Rat))(T:Nat→Rat):Nat→AState
 |j=>⟨[(2,bKe k),(5,.lptr 1 0 0),(6,.lptr 2 0 0),(20,.clos 129 [] [bM M])],[(1,some ⟨38,1,[[.lsl 3 0 (j+1+1) none 3]]⟩),(2,some ⟨37,1,[[.lsl 4 0 (j+1) none 3]]⟩),(3,some ⟨36,3,pE (nwL T (j+1))⟩),(4,some ⟨36,3,pE (trT T (j+1))⟩)],5,60⟩
def dgS(k:Ke)(M:List (List Rat))(T:Nat→Rat):Nat→AState
 |0=>dg0 k M T ()
 |j+1=>dgs k M T j
def dgX(m:Nat)(T:Nat→Rat):Unit→AState
 |u=>⟨[(5,.lptr 1 0 0)],[(1,some ⟨38,1,[[.lsl 3 0 (m+1) none 3]]⟩),(3,some ⟨36,3,pE (nwL T m)⟩)],4,60⟩
def dgI(k:Ke)(M:List (List Rat))(T:Nat→Rat)(j:Nat):Nat→AState
 |i=>⟨[(2,bKe k),(5,.lptr 1 0 0),(6,.lptr 2 0 0),(8,i64 ((j+1:Nat):Int)),(9,.lptr 5 0 0),(28,.lsl 4 0 (j+1) none 3),(29,i64 ((j+1:Nat):Int)),(30,i64 i),(1002,bKe k),(1005,.lptr 1 0 0),(1006,.lptr 2 0 0),(1020,.clos 129 [] [bM M])],[(1,some ⟨38,1,[[.lsl 3 0 (j+1) none 3]]⟩),(2,some ⟨37,1,[[.lsl 4 0 (j+1) none 3]]⟩),(3,some ⟨36,3,pE (nwL T j)⟩),(4,some ⟨36,3,pE (trT T (j+1))⟩),(5,some ⟨36,3,[qC (nwS T (nwL T j) j i)]⟩)],6,60⟩
theorem mw(k:Ke)(M:List (List Rat))(T:Nat→Rat)(j:Nat)(i:Nat):dgI k M T j i=⟨[(2,bKe k),(5,.lptr 1 0 0),(6,.lptr 2 0 0),(8,i64 ((j+1:Nat):Int)),(9,.lptr 5 0 0),(28,.lsl 4 0 (j+1) none 3),(29,i64 ((j+1:Nat):Int)),(30,i64 i),(1002,bKe k),(1005,.lptr 1 0 0),(1006,.lptr 2 0 0),(1020,.clos 129 [] [bM M])],[(1,some ⟨38,1,[[.lsl 3 0 (j+1) none 3]]⟩),(2,some ⟨37,1,[[.lsl 4 0 (j+1) none 3]]⟩),(3,some ⟨36,3,pE (nwL T j)⟩),(4,some ⟨36,3,pE (trT T (j+1))⟩),(5,some ⟨36,3,[qC (nwS T (nwL T j) j i)]⟩)],6,60⟩:=rfl
theorem sm8(n:Nat)(h:n≤8):qs (((n:Nat):Int):Rat)≤5:=by
 have:n=0∨n=1∨n=2∨n=3∨n=4∨n=5∨n=6∨n=7∨n=8:=by omega
 rcases this with rfl|rfl|rfl|rfl|rfl|rfl|rfl|rfl|rfl <;> decide
structure OkDt (T:Nat→Rat)(n:Nat):Prop where
 m:∀j i,j< n→i≤j→qs (T i)+qs (coP (nwL T j) (j- i))≤549755813888
 s:∀j i,j< n→i≤j→qs (nwS T (nwL T j) j i)+qs (T i* coP (nwL T j) (j- i))≤549755813888
 d:∀j,j< n→qs (nwS T (nwL T j) j (j+1))+5≤549755813888
theorem fs_detN(k:Ke)(a b:Rat)(pM:Nat→Mx)(h:OkMa k a b)(h0:pM 0=maK k a b)(hn:0< k.length)(hl8:k.length≤8)(hs:∀j,j< k.length→∀i,i< k.length→qs (trQ (pM j) i)+qs (pM j i i)≤549755813888)(hmul:∀j,j+1< k.length→FS 130 [.arr (mE (sqR k.length (pM j))),.arr (mE (sqR k.length (pM 0)))] (.arr (mE (sqR k.length (pM (j+1))))))(hd:OkDt (fun j=>trQ (pM j) k.length) k.length):
    FS 34 [.arr (kE k),.agg (spC a b)] (.arr (pE (aq (nwL (fun j=>trQ (pM j) k.length) k.length)))):=by
 have i1:=du 1 (by decide);have hm:=uj k a b h;rw[←h0] at hm;have hgs:=we pM k.length (k.length- 1) (by omega) (fun j hj=>hs j (by omega)) (fun j hj=>hmul j (by omega));have htr:=wh (sqR k.length (pM 0));have hkl:(kE k).length=k.length:=dj k;obtain⟨T,hT⟩:∃T,T=fun j=>trQ (pM j) k.length:=⟨_,rfl⟩;have hgs:GSpecB Tryz.prog 129 [bM (sqR k.length (pM 0))] (fun j=>some [.agg (qC (T j))]) (k.length- 1):=by rw[hT];exact hgs
 rw[←hT] at hd⊢;obtain⟨M,hM⟩:∃M,M=sqR k.length (pM 0):=⟨_,rfl⟩;rw[←hM] at hgs htr hm;have hti:=dd (nwL T k.length) (by simp;omega);have hcc:Closed (.clos 129 [] [bM M]):=aP af (ac (b9 _) af);refine f_n Tryz.func34 ?_ ?_;exact ac (aU k) (ac (aC (aY a b)) af);refine r_z 3 ?_;refine AWp.ent (st':=⟨[(2,bKe k),(3,bSp a b)],[],1,60⟩) ?_ ?_;exact s_x [] (fun hs=>e_45) (fun hs=>e_46);refine r_c 4 (i1) ?_;refine a_z ?_;refine r_z 1 ?_;refine ae (q_z 3 ?_);refine aG (fun _:Unit=>dgX k.length T ()) (fun _=>True) ?_ ?_;refine cT (r_c 4 (hm) ?_);refine c_s (htr) ?_;refine ao ?_;refine aj (AWp.rangeFuncB (α:=Nat) (γ:=Unit) (k.length- 1) (dgS k M T) (fun j=>j) (fun j=>j< k.length) (dgX k.length T) (fun e _=>e= .exit 0) 0 rfl hgs rfl rfl ?_ (fun j=>by cases j <;> exact⟨rfl,rfl⟩) (fun _=>rfl) hn rfl (fun j hj=>by omega) ?_ ?_ ?_ ?_ ?_);intro j xs hT;cases hT;rfl;show SEntT _ (dg0 k M T ());rw[dg0_mk];refine s_y [(1,5),(2,6),(3,13)] (fun hs=>e_3) (fun hs=>?_)
 ·repeat' (first|exact aE|refine h_c ?_ ?_|exact a8 hs (aJ (nwL T 0))|exact bC|refine az ?_|exact av|refine ah ?_ ?_|exact am hs (cz k)|exact am hs hcc|exact aV)
 exact ac (b9 _) af;intro ll j xs hj hT;cases hT;cases j with
 |zero=>
  have hsum:pE [T 0]=pE (trT T (0+1)):=rfl;show AWp _ _ _ _ ⟨[(21,.agg (qC (T 0))),(2,bKe k),(5,.lptr 1 0 0),(6,.lptr 2 0 0),(20,.clos 129 [] [bM M]),(1002,bKe k),(1005,.lptr 1 0 0),(1006,.lptr 2 0 0),(1020,.clos 129 [] [bM M])],[(1,some ⟨38,1,[[.lsl 3 0 1 none 3]]⟩),(2,some ⟨37,1,[[.emp]]⟩),(3,some ⟨36,3,pE (nwL T 0)⟩)],4,60⟩;refine r_m 2 ?_;refine a_z ?_;refine aj (r_z 5 ?_);refine r_z 3 ?_;refine r_z 1 ?_;refine ae (r_z 3 ?_);refine aG (fun _:Unit=>dgI k M T (0) (0+1)) (fun _=>True) ?_ ?_;refine aj (aB (dgI k M T (0)) (fun i=>0+1- i) (fun i=>i≤0+1) 0 (Nat.zero_le _) ?_ ?_);rw[mw,nwS,qC0];exact s_z [(1,5),(2,6),(3,100003),(4,28),(5,9)] (fun hs=>e_3) (fun hs=>e_58);intro i hi;rw[mw];by_cases hlt:i< 0+1;have g1:(pE (trT T (0+1)))[0+((i:Nat):Int).toNat]?=some (qC (T i)):=dh hlt _ (by simp);have g2:(pE (nwL T (0)))[0+((((0+1:Nat):Int)- 1- (i:Int))).toNat]?=some (qC (coP (nwL T (0)) (0- i))):=pE_get (ca (by rw[ir];omega)) _ (by omega);have hmu:=cJ (T i) (coP (nwL T (0)) (0- i)) (hd.m _ _ hj (by omega));have hsu:=jL (nwS T (nwL T (0)) (0) i) (T i* coP (nwL T (0)) (0- i)) (hd.s _ _ hj (by omega));have l1:(pE (nwL T (0))).length=0+1:=by simp[pE]
  have l2:(pE (trT T (0+1))).length=0+1:=by simp[pE]
  refine q_z 1 ?_;refine ae (cT (ak (ae (aj (s_r 6 ?_)))));refine a_2 ?_
  first|refine aF (.load_l rfl rfl g1 TG.h TS.h (nle rfl)) rfl rfl ?_|refine aF (.load_a rfl g1 TG.h TS.h (nle rfl)) rfl rfl ?_
  refine a_z ?_;refine r_d a6 12 ?_;refine a_8 ?_
  first|refine aF (.load_l rfl rfl g2 TG.h TS.h (nle rfl)) rfl rfl ?_|refine aF (.load_a rfl g2 TG.h TS.h (nle rfl)) rfl rfl ?_
  refine c_s (hmu) ?_;refine c_s (hsu) ?_;refine a_1 ?_;refine ao (n_k ?_);refine r_m 2 ?_;refine a_z ?_;refine⟨i+1,by omega,by omega,?_⟩;rw[mw,nwS];exact s_z [(1,5),(2,6),(3,100003),(4,28),(5,9)] (fun hs=>e_3) (fun hs=>e_17);have he:i=0+1:=by omega
  refine q_z 1 ?_;refine ae (cF (ay ⟨(),trivial,?_⟩));subst he;exact s_z [(1,5),(2,6),(3,100003),(4,28),(5,9)] (fun hs=>e_3) (fun hs=>e_17);rintro _ _;rw[mw];have iJ:=du (((0+1:Nat):Int)) (by omega);have hq5:qs ((((0+1:Nat):Int)):Rat)≤5:=sm8 _ (by omega);have hov:=kN (nwS T (nwL T (0)) (0) (0+1)) ((((0+1:Nat):Int)):Rat) (BO _) (by have:=hd.d _ hj;omega);have l1:(pE (nwL T (0))).length=0+1:=by simp[pE]
  have hnew:pE (nwL T (0))++[qC (nwS T (nwL T (0)) (0) (0+1) / ((((0+1:Nat):Int)):Rat))]=pE (nwL T (0+1)):=by rw[pE_snoc',←nwL]
  refine ae (r_d a6 8 ?_);refine c_s (iJ) ?_;refine c_s (hov) ?_;refine a_3 ?_;refine ao (n_k ?_);by_cases hend:0+1=k.length;refine q_z 4 ?_;refine cT (ay (⟨rfl,(),rfl,?_⟩));rw[←hend];show SEntT _ ⟨[(1005,.lptr 1 0 0)],[(1,some ⟨38,1,[[.lsl 3 0 ((0+1)+1) none 3]]⟩),(3,some ⟨36,3,pE (nwL T (0+1))⟩)],4,60⟩;exact s_t [(1,5),(3,53)];refine q_z 4 ?_;refine cF (ak (⟨0+1,⟨by omega,rfl⟩,?_⟩));show SEntT _ ⟨[(1002,bKe k),(1005,.lptr 1 0 0),(1006,.lptr 2 0 0),(1020,.clos 129 [] [bM M])],[(1,some ⟨38,1,[[.lsl 3 0 ((0)+1+1) none 3]]⟩),(2,some ⟨37,1,[[.lsl 4 0 ((0)+1) none 3]]⟩),(3,some ⟨36,3,pE (nwL T ((0)+1))⟩),(4,some ⟨36,3,pE (trT T ((0)+1))⟩)],5,60⟩;refine SEntT.to2 [(1,5),(2,6),(3,53),(4,100004)] rfl rfl rfl yE (fun hs=>?_) (fun hs=>?_)
  ·repeat' (first|exact aN|refine aA rfl ?_ ?_)
   all_goals (first|((first|exact am hs (cz k)|exact am hs hcc))|exact aV)
  ·repeat' (first|exact aE|refine k7 rfl rfl rfl rfl ?_ ?_)
   all_goals (first|((first|exact aI hs hnew (aJ _)|exact a8 hs (aJ _)))|exact bC|(refine az ?_;repeat' (first|exact av|refine ah ?_ ?_)))
   all_goals (first|((first|exact am hs (cz k)|exact am hs hcc))|exact aV)
 |succ j=>
  have hsum:pE (trT T (j+1))++[qC (T (j+1))]=pE (trT T (j+1+1)):=by rw[pE_snoc',trT_s]
  have hsl:(pE (trT T (j+1))).length=j+1:=by simp[pE]
  show AWp _ _ _ _ ⟨[(21,.agg (qC (T (j+1)))),(2,bKe k),(5,.lptr 1 0 0),(6,.lptr 2 0 0),(20,.clos 129 [] [bM M]),(1002,bKe k),(1005,.lptr 1 0 0),(1006,.lptr 2 0 0),(1020,.clos 129 [] [bM M])],[(1,some ⟨38,1,[[.lsl 3 0 (j+1+1) none 3]]⟩),(2,some ⟨37,1,[[.lsl 4 0 (j+1) none 3]]⟩),(3,some ⟨36,3,pE (nwL T (j+1))⟩),(4,some ⟨36,3,pE (trT T (j+1))⟩)],5,60⟩;refine r_m 2 ?_;refine a_z ?_;refine aj (r_z 5 ?_);refine r_z 3 ?_;refine r_z 1 ?_;refine ae (r_z 3 ?_);refine aG (fun _:Unit=>dgI k M T (j+1) (j+1+1)) (fun _=>True) ?_ ?_;refine aj (aB (dgI k M T (j+1)) (fun i=>j+1+1- i) (fun i=>i≤j+1+1) 0 (Nat.zero_le _) ?_ ?_);rw[mw,nwS,qC0];exact s_z [(1,5),(2,6),(3,100003),(4,28),(5,9)] (fun hs=>e_3) (fun hs=>e_58);intro i hi;rw[mw];by_cases hlt:i< j+1+1;have g1:(pE (trT T (j+1+1)))[0+((i:Nat):Int).toNat]?=some (qC (T i)):=dh hlt _ (by simp);have g2:(pE (nwL T (j+1)))[0+((((j+1+1:Nat):Int)- 1- (i:Int))).toNat]?=some (qC (coP (nwL T (j+1)) (j+1- i))):=pE_get (ca (by rw[ir];omega)) _ (by omega);have hmu:=cJ (T i) (coP (nwL T (j+1)) (j+1- i)) (hd.m _ _ hj (by omega));have hsu:=jL (nwS T (nwL T (j+1)) (j+1) i) (T i* coP (nwL T (j+1)) (j+1- i)) (hd.s _ _ hj (by omega));have l1:(pE (nwL T (j+1))).length=j+1+1:=by simp[pE]
  have l2:(pE (trT T (j+1+1))).length=j+1+1:=by simp[pE]
  refine q_z 1 ?_;refine ae (cT (ak (ae (aj (s_r 6 ?_)))));refine a_2 ?_
  first|refine aF (.load_l rfl rfl g1 TG.h TS.h (nle rfl)) rfl rfl ?_|refine aF (.load_a rfl g1 TG.h TS.h (nle rfl)) rfl rfl ?_
  refine a_z ?_;refine r_d a6 12 ?_;refine a_8 ?_
  first|refine aF (.load_l rfl rfl g2 TG.h TS.h (nle rfl)) rfl rfl ?_|refine aF (.load_a rfl g2 TG.h TS.h (nle rfl)) rfl rfl ?_
  refine c_s (hmu) ?_;refine c_s (hsu) ?_;refine a_1 ?_;refine ao (n_k ?_);refine r_m 2 ?_;refine a_z ?_;refine⟨i+1,by omega,by omega,?_⟩;rw[mw,nwS];exact s_z [(1,5),(2,6),(3,100003),(4,28),(5,9)] (fun hs=>e_3) (fun hs=>e_17);have he:i=j+1+1:=by omega
  refine q_z 1 ?_;refine ae (cF (ay ⟨(),trivial,?_⟩));subst he;exact s_z [(1,5),(2,6),(3,100003),(4,28),(5,9)] (fun hs=>e_3) (fun hs=>e_17);rintro _ _;rw[mw];have iJ:=du (((j+1+1:Nat):Int)) (by omega);have hq5:qs ((((j+1+1:Nat):Int)):Rat)≤5:=sm8 _ (by omega);have hov:=kN (nwS T (nwL T (j+1)) (j+1) (j+1+1)) ((((j+1+1:Nat):Int)):Rat) (BO _) (by have:=hd.d _ hj;omega);have l1:(pE (nwL T (j+1))).length=j+1+1:=by simp[pE]
  have hnew:pE (nwL T (j+1))++[qC (nwS T (nwL T (j+1)) (j+1) (j+1+1) / ((((j+1+1:Nat):Int)):Rat))]=pE (nwL T (j+1+1)):=by rw[pE_snoc',←nwL]
  refine ae (r_d a6 8 ?_);refine c_s (iJ) ?_;refine c_s (hov) ?_;refine a_3 ?_;refine ao (n_k ?_);by_cases hend:j+1+1=k.length;refine q_z 4 ?_;refine cT (ay (⟨rfl,(),rfl,?_⟩));rw[←hend];show SEntT _ ⟨[(1005,.lptr 1 0 0)],[(1,some ⟨38,1,[[.lsl 3 0 ((j+1+1)+1) none 3]]⟩),(3,some ⟨36,3,pE (nwL T (j+1+1))⟩)],4,60⟩;exact s_t [(1,5),(3,53)];refine q_z 4 ?_;refine cF (ak (⟨j+1+1,⟨by omega,rfl⟩,?_⟩));show SEntT _ ⟨[(1002,bKe k),(1005,.lptr 1 0 0),(1006,.lptr 2 0 0),(1020,.clos 129 [] [bM M])],[(1,some ⟨38,1,[[.lsl 3 0 ((j+1)+1+1) none 3]]⟩),(2,some ⟨37,1,[[.lsl 4 0 ((j+1)+1) none 3]]⟩),(3,some ⟨36,3,pE (nwL T ((j+1)+1))⟩),(4,some ⟨36,3,pE (trT T ((j+1)+1))⟩)],5,60⟩;refine SEntT.to2 [(1,5),(2,6),(3,53),(4,100004)] rfl rfl rfl yE (fun hs=>?_) (fun hs=>?_)
  ·repeat' (first|exact aN|refine aA rfl ?_ ?_)
   all_goals (first|((first|exact am hs (cz k)|exact am hs hcc))|exact aV)
  ·repeat' (first|exact aE|refine k7 rfl rfl rfl rfl ?_ ?_)
   all_goals (first|((first|exact aI hs hnew (aJ _)|exact a8 hs (aJ _)))|exact bC|(refine az ?_;repeat' (first|exact av|refine ah ?_ ?_)))
   all_goals (first|((first|exact am hs (cz k)|exact am hs hcc))|exact aV)
 intro j hj hT;cases hT;rintro e u rfl;exact⟨u,trivial,SEnt.refl _⟩;rintro _ _;rw[dgX.eq_1];have hfull:List.take (k.length+1) (List.drop 0 (pE (nwL T k.length)))=pE (nwL T k.length):=by rw[List.drop_zero,List.take_of_length_le (by simp[pE])]
 refine s_r 3 ?_;refine a_1 ?_;refine o_1 (.callS1 rfl rfl rfl (.shut rfl d_n (.nil)) rfl ((by rw[hfull];exact hti))) ?_;refine a_z ?_;exact ai (t_e (ax _))
theorem tj{α:Type}(f:α→Rat):∀(l m:List α),ei f (l++m)=ei f l+ei f m
 |[],m=>by rw[List.nil_append,ei];grind
 |p::l,m=>by rw[List.cons_append,ei,tj f l m,ei];grind
def nm(p:List Rat)(z:List Rat×List Rat)(b:Bool):Ke:=if b then [(aX z.1 ((2:Int):Rat),p),(z.1,cK z.2 (aX p ((2:Int):Rat)))] else [z]
def oR(p:List Rat)(t:Nat):Ke→Nat→Ke
 |[],_=>[]
 |z::k,i=>oR p t k (i+1)++nm p z (decide (i=t))
def oK(k:Ke)(p:List Rat)(t:Nat):Ke:=oR p t k 0++[(p,[])]
theorem GQ{p:List Rat}{t:Nat}{f:List Rat×List Rat→Rat}(h2:∀A B,f (aX A ((2:Int):Rat),p)+f (A,cK B (aX p ((2:Int):Rat)))=f (A,B)):∀(k:Ke) (i:Nat),ei f (oR p t k i)=ei f k
 |[],_=>rfl
 |z::k,i=>by
  rw[oR,tj,GQ h2 k (i+1),ei];unfold nm;by_cases h:i=t;rw[if_pos (decide_eq_true h),ei,ei,ei];have:=h2 z.1 z.2;grind;rw[if_neg (by simpa using h),ei,ei];grind
theorem BJ{k:Ke}{p:List Rat}{t:Nat}{f:List Rat×List Rat→Rat}(h2:∀A B,f (aX A ((2:Int):Rat),p)+f (A,cK B (aX p ((2:Int):Rat)))=f (A,B))(h0:f (p,[])=0):ei f (oK k p t)=ei f k:=by
 unfold oK;rw[tj,GQ h2 k 0,ei,ei,h0];grind
theorem xz(p:List Rat)(t:Nat):∀(k:Ke) (i:Nat),(oR p t k i).length≤k.length+(if i≤t then 1 else 0)
 |[],i=>Nat.zero_le _
 |z::k,i=>by
  have a:=xz p t k (i+1);rw[oR,List.length_append,List.length_cons];unfold nm;by_cases h:i=t;rw[if_pos (decide_eq_true h),if_pos (by omega)];rw[if_neg (by omega)] at a;simp;omega;rw[if_neg (by simpa using h)];simp only[List.length_singleton];split at a <;> split <;> omega
theorem GU(k:Ke)(p:List Rat)(t:Nat):(oK k p t).length≤k.length+2:=by
 have:=xz p t k 0;unfold oK;rw[List.length_append,List.length_singleton,if_pos (Nat.zero_le _)] at *
 omega
theorem jn{B r p q:List Rat}{c:Rat}(h:∀i,coP r i=coP p i- c* coP q i)(a b:Rat):inQ (aL r B) a b=inQ (aL p B) a b- c* inQ (aL q B) a b:=by
 have d:∀x y:List Rat,inQ (aL x y) a b=inQ (aL y x) a b:=fun x y=>by
  have e:aq (aL x y)=aq (aL y x):=gi fun t=>by rw[eJ,eJ];grind
  have h1:∀i,coP (aL x y) i=coP (aL y x) i:=fun i=>by rw[←b5 (aL x y),e,b5]
  have f:∀t,au (aK (aL x y)) t=au (aK (aL y x)) t:=fun t=>gE (fun i=>by rw[eW,eW];split;rfl;rw[h1]) t;unfold inQ;rw[f,f]
 rw[d r,d p,d q];exact eF h a b
def opK(k:Ke)(a b:Rat)(u:List Rat):List Rat:=smK k (rhK k u a b) k.length
theorem tT(k:Ke)(a b:Rat)(u:List Rat)(i:Nat):coP (opK k a b u) i=ei (fun z=>coP z.1 i* inQ (aL z.2 u) a b) k:=by
 unfold opK;rw[nH k _ (by simp),jW _ ([],[])];refine b4 k.length fun j c=>?_
 have d:coP (rhK k u a b) j=inQ (aL (k.getD j ([],[])).2 u) a b:=by
  unfold coP rhK;rw[List.getD_eq_getElem?_getD,List.getD_eq_getElem?_getD,List.getElem?_map,List.getElem?_eq_getElem c];rfl
 rw[d]
theorem DD{k:Ke}{a b c:Rat}{r p q:List Rat}(h:∀i,coP r i=coP p i- c* coP q i)(i:Nat):coP (opK k a b r) i=coP (opK k a b p) i- c* coP (opK k a b q) i:=by
 rw[tT,tT,tT];exact kw (fun z=>by rw[eF h];grind) k
def opN(k:Ke)(a b:Rat):Nat→List Rat→List Rat
 |0,u=>u
 |m+1,u=>opK k a b (opN k a b m u)
theorem sk{k:Ke}{a b c:Rat}{r p q:List Rat}(h:∀i,coP r i=coP p i- c* coP q i):∀m i,coP (opN k a b m r) i=coP (opN k a b m p) i- c* coP (opN k a b m q) i
 |0,i=>h i
 |m+1,i=>by rw[opN,opN,opN];exact DD (sk h m) i
theorem GI(k:Ke)(a b:Rat):∀m u,opN k a b (m+1) u=opN k a b m (opK k a b u)
 |0,u=>rfl
 |m+1,u=>by rw[opN,GI k a b m u];rfl
def pwM(k:Ke)(a b:Rat)(m:Nat):Mx:=fun i j=>inQ (aL (k.getD i ([],[])).2 (opN k a b m (k.getD j ([],[])).1)) a b
theorem pwM_0(k:Ke)(a b:Rat):pwM k a b 0=maK k a b:=rfl
theorem DB{k0:Ke}{a b:Rat}(B:List Rat)(m:Nat):∀(k:Ke) (c o:List Rat),c.length=k.length→inQ (aL B (opN k0 a b m (la k c o))) a b=inQ (aL B (opN k0 a b m o)) a b+ei (fun p=>inQ (aL B (opN k0 a b m p.1.1)) a b* p.2) (k.zip c)
 |[],[],o,_=>by rw[la];show _=_+0;grind
 |p::k,[],_,h=>by cases h
 |[],z::c,_,h=>by cases h
 |p::k,z::c,o,h=>by
  have e:=eF (B:=B) (r:=opN k0 a b m (smF z o p)) (p:=opN k0 a b m o) (q:=opN k0 a b m p.1) (c:= -z) (sk (fun i=>by unfold smF;rw[ez,bO];grind) m) a b;rw[la,List.tail_cons,fb,DB B m k c _ (by simpa using h),e,List.zip_cons_cons,ei];grind
theorem DC{k:Ke}{a b:Rat}(B:List Rat)(m:Nat):inQ (aL B (opN k a b m [])) a b=0:=by
 have:=eF (B:=B) (sk (k:=k) (a:=a) (b:=b) (r:=[]) (p:=[]) (q:=[]) (c:=1) (fun i=>by rw[show coP [] i=0 from rfl];grind) m) a b;grind
theorem Gw(k:Ke)(a b:Rat)(m:Nat):mmQ k.length (pwM k a b m) (pwM k a b 0)=pwM k a b (m+1):=funext fun i=>funext fun j=>by
 unfold mmQ pwM;rw[GI];have h:=DB (k0:=k) (a:=a) (b:=b) (k.getD i ([],[])).2 m k (rhK k (k.getD j ([],[])).1 a b) [] (by simp);rw[DC,oM (fun z:List Rat×List Rat=>inQ (aL (k.getD i ([],[])).2 (opN k a b m z.1)) a b) ([],[]) k _ (by simp)] at h;have e:la k (rhK k (k.getD j ([],[])).1 a b) []=opK k a b (k.getD j ([],[])).1:=by unfold opK smK;rw[List.take_length]
 rw[←e,h];rw[show∀z:Rat,(0:Rat)+z=z from fun z=>by grind];refine b4 k.length fun t ht=>?_
 have c:∀q:List Rat,coP (rhK k q a b) t=inQ (aL (k.getD t ([],[])).2 q) a b:=fun q=>by
  unfold coP rhK;rw[List.getD_eq_getElem?_getD,List.getElem?_map,List.getD_eq_getElem?_getD,List.getElem?_eq_getElem ht];rfl
 rw[c];rfl
theorem Gv(k:Ke)(a b:Rat)(m:Nat):trQ (pwM k a b m) k.length=ei (fun z=>inQ (aL z.2 (opN k a b m z.1)) a b) k:=by
 unfold trQ pwM;rw[jW _ ([],[])]
section
variable {k:Ke}{a b:Rat}{p:List Rat}{t:Nat}
theorem oK_op(u:List Rat)(i:Nat):coP (opK (oK k p t) a b u) i=coP (opK k a b u) i:=by
 rw[tT,tT];refine BJ (fun A B=>?_) ?_;rw[bO,jn (r:=cK B (aX p ((2:Int):Rat))) (p:=B) (q:=p) (c:=((2:Int):Rat)) (fun j=>by rw[cP,bO];grind)];grind;have:=jn (B:=u) (r:=[]) (p:=[]) (q:=[]) (c:=1) (fun j=>by rw[show coP [] j=0 from rfl];grind) a b;show coP p i* inQ (aL [] u) a b=0;rw[show inQ (aL [] u) a b=0 by grind];grind
theorem GS(u:List Rat):∀m i,coP (opN (oK k p t) a b m u) i=coP (opN k a b m u) i
 |0,_=>rfl
 |m+1,i=>by
  rw[opN,opN,oK_op];have:=DD (k:=k) (a:=a) (b:=b) (r:=opN (oK k p t) a b m u) (p:=opN k a b m u) (q:=[]) (c:=0) (fun j=>by rw[GS u m j];grind) i;rw[this];grind
theorem oK_tr(m:Nat):trQ (pwM (oK k p t) a b m) (oK k p t).length=trQ (pwM k a b m) k.length:=by
 rw[Gv,Gv]
 have e:∀z:List Rat×List Rat,inQ (aL z.2 (opN (oK k p t) a b m z.1)) a b=inQ (aL z.2 (opN k a b m z.1)) a b:=fun z=>by
  have:=eF (B:=z.2) (r:=opN (oK k p t) a b m z.1) (p:=opN k a b m z.1) (q:=[]) (c:=0) (fun j=>by rw[GS z.1 m j];grind) a b;rw[this];grind
 rw[show(fun z:List Rat×List Rat=>inQ (aL z.2 (opN (oK k p t) a b m z.1)) a b)=fun z=>inQ (aL z.2 (opN k a b m z.1)) a b from funext e];refine BJ (fun A B=>?_) ?_;have h1:=eF (B:=p) (sk (k:=k) (a:=a) (b:=b) (r:=aX A ((2:Int):Rat)) (p:=[]) (q:=A) (c:= -((2:Int):Rat)) (fun j=>by rw[bO,show coP [] j=0 from rfl];grind) m) a b;rw[DC] at h1;simp only;rw[h1,jn (r:=cK B (aX p ((2:Int):Rat))) (p:=B) (q:=p) (c:=((2:Int):Rat)) (fun j=>by rw[cP,bO];grind)];grind;have:=jn (B:=opN k a b m p) (r:=[]) (p:=[]) (q:=[]) (c:=1) (fun j=>by rw[show coP [] j=0 from rfl];grind) a b;show inQ (aL [] (opN k a b m p)) a b=0;grind
theorem oK_sol{l:Rat}{g u:List Rat}:SolE (oK k p t) l a b g u↔SolE k l a b g u:=by
 have e:∀x,ei (fun z=>au z.1 x* inQ (aL z.2 u) a b) (oK k p t)=ei (fun z=>au z.1 x* inQ (aL z.2 u) a b) k:=fun x=>by
  refine BJ (fun A B=>?_) ?_;rw[dT,jn (r:=cK B (aX p ((2:Int):Rat))) (p:=B) (q:=p) (c:=((2:Int):Rat)) (fun j=>by rw[cP,bO];grind)];grind;have:=jn (B:=u) (r:=[]) (p:=[]) (q:=[]) (c:=1) (fun j=>by rw[show coP [] j=0 from rfl];grind) a b;show au p x* inQ (aL [] u) a b=0;rw[show inQ (aL [] u) a b=0 by grind];grind
 exact⟨fun h x=>by rw[h x,e],fun h x=>by rw[h x,e]⟩
end
theorem sQ1(f:Nat→Rat):sQ f 1=f 0:=by rw[sQ,sQ];grind
theorem sQ2(f:Nat→Rat):sQ f 2=f 0+f 1:=by rw[sQ,sQ,sQ];grind
theorem sQ3(f:Nat→Rat):sQ f 3=f 0+f 1+f 2:=by rw[sQ,sQ,sQ,sQ];grind
theorem ch3{A:Nat→Mx}(hA:∀m,mmQ 3 (A m) (A 0)=A (m+1)){c1 c2 c3:Rat}(h1:c1= -trQ (A 0) 3)(h2:2* c2= -(trQ (A 0) 3* c1)- trQ (A 1) 3)(h3:3* c3= -(trQ (A 0) 3* c2)- trQ (A 1) 3* c1- trQ (A 2) 3):
    trQ (A 3) 3= -(c1* trQ (A 2) 3+c2* trQ (A 1) 3+c3* trQ (A 0) 3)∧trQ (A 4) 3= -(c1* trQ (A 3) 3+c2* trQ (A 2) 3+c3* trQ (A 1) 3):=by
 have e:∀m i j,A (m+1) i j=A m i 0* A 0 0 j+A m i 1* A 0 1 j+A m i 2* A 0 2 j:=fun m i j=>by rw[←hA m];unfold mmQ;rw[sQ3]
 have t:∀m,trQ (A m) 3=A m 0 0+A m 1 1+A m 2 2:=fun m=>by unfold trQ;rw[sQ3]
 rw[t 0] at h1;rw[t 0,t 1] at h2;rw[t 0,t 1,t 2] at h3;have e1:=e 0;have e2:=e 1;have d:=e 2;have f:=e 3;simp only[Nat.zero_add,Nat.reduceAdd] at e1 e2 d f
 have ch:∀i j,(i=0∨i=1∨i=2)→(j=0∨j=1∨j=2)→A 2 i j= -(c1* A 1 i j+c2* A 0 i j+c3* (if i=j then 1 else 0)):=by
  have h:c3=(-((A 0 0 0+A 0 1 1+A 0 2 2) * c2)- (A 1 0 0+A 1 1 1+A 1 2 2) * c1- (A 2 0 0+A 2 1 1+A 2 2 2)) / 3:=by grind
  have g:c2=(-((A 0 0 0+A 0 1 1+A 0 2 2) * c1)- (A 1 0 0+A 1 1 1+A 1 2 2)) / 2:=by grind
  rintro i j (rfl|rfl|rfl) (rfl|rfl|rfl)<;> rw[h,g,h1]<;> simp only[e2,e1]<;> grind
 have b:∀i j,(i=0∨i=1∨i=2)→(j=0∨j=1∨j=2)→A 3 i j= -(c1* A 2 i j+c2* A 1 i j+c3* A 0 i j):=by
  intro i j a k;rw[d,ch i 0 a (.inl rfl),ch i 1 a (.inr (.inl rfl)),ch i 2 a (.inr (.inr rfl)),e2 i j,e1 i j];rcases a with rfl|rfl|rfl <;> simp <;> grind
 have c:∀i j,(i=0∨i=1∨i=2)→(j=0∨j=1∨j=2)→A 4 i j= -(c1* A 3 i j+c2* A 2 i j+c3* A 1 i j):=by
  intro i j a k;rw[f,b i 0 a (.inl rfl),b i 1 a (.inr (.inl rfl)),b i 2 a (.inr (.inr rfl)),d i j,e2 i j,e1 i j];grind
 constructor;rw[t,t,t,t,b 0 0 (.inl rfl) (.inl rfl),b 1 1 (.inr (.inl rfl)) (.inr (.inl rfl)),b 2 2 (.inr (.inr rfl)) (.inr (.inr rfl))];grind;rw[t,t,t,t,c 0 0 (.inl rfl) (.inl rfl),c 1 1 (.inr (.inl rfl)) (.inr (.inl rfl)),c 2 2 (.inr (.inr rfl)) (.inr (.inr rfl))];grind
theorem ch2{A:Nat→Mx}(hA:∀m,mmQ 2 (A m) (A 0)=A (m+1)){c1 c2:Rat}(h1:c1= -trQ (A 0) 2)(h2:2* c2= -(trQ (A 0) 2* c1)- trQ (A 1) 2):
    trQ (A 2) 2= -(c1* trQ (A 1) 2+c2* trQ (A 0) 2)∧trQ (A 3) 2= -(c1* trQ (A 2) 2+c2* trQ (A 1) 2):=by
 have e:∀m i j,A (m+1) i j=A m i 0* A 0 0 j+A m i 1* A 0 1 j:=fun m i j=>by rw[←hA m];unfold mmQ;rw[sQ2]
 have t:∀m,trQ (A m) 2=A m 0 0+A m 1 1:=fun m=>by unfold trQ;rw[sQ2]
 rw[t 0] at h1;rw[t 0,t 1] at h2;have e1:=e 0;have e2:=e 1;have b:=e 2;simp only[Nat.zero_add,Nat.reduceAdd] at e1 e2 b;have a:c2=(-((A 0 0 0+A 0 1 1) * c1)- (A 1 0 0+A 1 1 1)) / 2:=by grind
 constructor;rw[t,t,t,a,h1];simp only[e2,e1];grind;rw[t,t,t,a,h1];simp only[b,e2,e1];grind
theorem BK(T:Nat→Rat)(n:Nat)(h:nwS T (nwL T n) n (n+1)=0):aq (nwL T (n+1))=aq (nwL T n):=by
 rw[nwL,jt,if_pos (by rw[h,Rat.div_def];grind)]
theorem BM{A:Nat→Mx}{n:Nat}(hn:n≤3)(hA:∀m,mmQ n (A m) (A 0)=A (m+1)):∀d,d≤2→aq (nwL (fun m=>trQ (A m) n) (n+d))=aq (nwL (fun m=>trQ (A m) n) n):=by
 have f:nwS (fun m=>trQ (A m) n) (nwL (fun m=>trQ (A m) n) n) n (n+1)=0∧nwS (fun m=>trQ (A m) n) (nwL (fun m=>trQ (A m) n) (n+1)) (n+1) (n+1+1)=0:=by
  have i:n=0∨n=1∨n=2∨n=3:=by omega
  obtain⟨T,l⟩:∃T,T=fun m=>trQ (A m) n:=⟨_,rfl⟩;have tm:∀m,trQ (A m) n=T m:=fun m=>by rw[l]
  rw[←l]
  have a:∀m,coP (nwL T (m+1)) 0=coP (nwL T m) 0:=fun m=>by
   unfold coP;rw[nwL,List.getD_eq_getElem?_getD,List.getD_eq_getElem?_getD,List.getElem?_append_left (by simp)]
  have k:coP (nwL T 0) 0=1:=rfl;rcases i with rfl|rfl|rfl|rfl
  have t:∀m,T m=0:=fun m=>by rw[←tm];rfl
  have s1:nwS T (nwL T 0) 0 1=0- T 0* coP (nwL T 0) 0:=rfl;have s2:nwS T (nwL T 1) 1 2=0- T 0* coP (nwL T 1) 1- T 1* coP (nwL T 1) 0:=rfl;exact⟨by rw[s1,t];grind,by rw[s2,t,t];grind⟩
  have p:T 1=T 0* T 0:=by
   have:=hA 0;rw[←tm,←tm,←this];unfold trQ mmQ;rw[sQ1,sQ1,sQ1]
  have r:T 2=T 1* T 0:=by
   have:=hA 1;rw[←tm,←tm,←tm,←this];unfold trQ mmQ;rw[sQ1,sQ1,sQ1,sQ1]
  have o1:coP (nwL T 1) 1=(0- T 0* ((1:Int):Rat)) / (((1:Nat):Int):Rat):=rfl;have c:coP (nwL T 1) 0=1:=by rw[a];exact k
  have s1:nwS T (nwL T 1) 1 2=0- T 0* coP (nwL T 1) 1- T 1* coP (nwL T 1) 0:=rfl;have s2:nwS T (nwL T 2) 2 3=0- T 0* coP (nwL T 2) 2- T 1* coP (nwL T 2) 1- T 2* coP (nwL T 2) 0:=rfl;have o2:coP (nwL T 2) 2=nwS T (nwL T 1) 1 2/ (((2:Nat):Int):Rat):=rfl;have b:coP (nwL T 2) 1=coP (nwL T 1) 1:=rfl;have p1:coP (nwL T 1) 1= -T 0:=by rw[o1,Rat.div_def,show(((1:Nat):Int):Rat)=1 from rfl,show((1:Int):Rat)=1 from rfl];grind
  have z:nwS T (nwL T 1) 1 2=0:=by rw[s1,p1,c,p];grind
  exact⟨z,by rw[s2,o2,z,b,p1,a,c,r,p,Rat.div_def];grind⟩;have o1:coP (nwL T 2) 1=(0- T 0* ((1:Int):Rat)) / (((1:Nat):Int):Rat):=rfl;have o2:coP (nwL T 2) 2=(0- T 0* coP (nwL T 2) 1- T 1* coP (nwL T 1) 0) / (((2:Nat):Int):Rat):=rfl;have c:coP (nwL T 1) 0=1:=by rw[a];exact k
  have p1:coP (nwL T 2) 1= -T 0:=by rw[o1,Rat.div_def,show(((1:Nat):Int):Rat)=1 from rfl,show((1:Int):Rat)=1 from rfl];grind
  have p2:2* coP (nwL T 2) 2= -(T 0* coP (nwL T 2) 1)- T 1:=by rw[o2,c,Rat.div_def,show(((2:Nat):Int):Rat)=2 from rfl];grind
  obtain⟨q1,q2⟩:=ch2 hA (c1:=coP (nwL T 2) 1) (c2:=coP (nwL T 2) 2) (by rw[tm];exact p1) (by rw[tm,tm];exact p2);rw[tm,tm,tm] at q1;rw[tm,tm,tm] at q2;have s1:nwS T (nwL T 2) 2 3=0- T 0* coP (nwL T 2) 2- T 1* coP (nwL T 2) 1- T 2* coP (nwL T 2) 0:=rfl;have s2:nwS T (nwL T 3) 3 4=0- T 0* coP (nwL T 3) 3- T 1* coP (nwL T 3) 2- T 2* coP (nwL T 3) 1- T 3* coP (nwL T 3) 0:=rfl;have j:coP (nwL T 3) 3=nwS T (nwL T 2) 2 3/ (((3:Nat):Int):Rat):=rfl;have e:coP (nwL T 3) 2=coP (nwL T 2) 2:=rfl;have b:coP (nwL T 3) 1=coP (nwL T 2) 1:=rfl;have z:nwS T (nwL T 2) 2 3=0:=by rw[s1,a,c,q1];grind
  exact⟨z,by rw[s2,j,z,e,b,a,a,c,q2,Rat.div_def];grind⟩;have o1:coP (nwL T 3) 1=(0- T 0* ((1:Int):Rat)) / (((1:Nat):Int):Rat):=rfl;have o2:coP (nwL T 3) 2=(0- T 0* coP (nwL T 3) 1- T 1* coP (nwL T 1) 0) / (((2:Nat):Int):Rat):=rfl;have j:coP (nwL T 3) 3=(0- T 0* coP (nwL T 3) 2- T 1* coP (nwL T 3) 1- T 2* coP (nwL T 2) 0) / (((3:Nat):Int):Rat):=rfl;have c:coP (nwL T 1) 0=1:=by rw[a];exact k
  have p1:coP (nwL T 3) 1= -T 0:=by rw[o1,Rat.div_def,show(((1:Nat):Int):Rat)=1 from rfl,show((1:Int):Rat)=1 from rfl];grind
  have p2:2* coP (nwL T 3) 2= -(T 0* coP (nwL T 3) 1)- T 1:=by rw[o2,c,Rat.div_def,show(((2:Nat):Int):Rat)=2 from rfl];grind
  have q:3* coP (nwL T 3) 3= -(T 0* coP (nwL T 3) 2)- T 1* coP (nwL T 3) 1- T 2:=by rw[j,a,c,Rat.div_def,show(((3:Nat):Int):Rat)=3 from rfl];grind
  obtain⟨q1,q2⟩:=ch3 hA (c1:=coP (nwL T 3) 1) (c2:=coP (nwL T 3) 2) (c3:=coP (nwL T 3) 3) (by rw[tm];exact p1) (by rw[tm,tm];exact p2) (by rw[tm,tm,tm];exact q);rw[tm,tm,tm,tm] at q1;rw[tm,tm,tm,tm] at q2;have s1:nwS T (nwL T 3) 3 4=0- T 0* coP (nwL T 3) 3- T 1* coP (nwL T 3) 2- T 2* coP (nwL T 3) 1- T 3* coP (nwL T 3) 0:=rfl;have s2:nwS T (nwL T 4) 4 5=0- T 0* coP (nwL T 4) 4- T 1* coP (nwL T 4) 3- T 2* coP (nwL T 4) 2- T 3* coP (nwL T 4) 1- T 4* coP (nwL T 4) 0:=rfl;have s:coP (nwL T 4) 4=nwS T (nwL T 3) 3 4/ (((4:Nat):Int):Rat):=rfl;have g:coP (nwL T 4) 3=coP (nwL T 3) 3:=rfl;have e:coP (nwL T 4) 2=coP (nwL T 3) 2:=rfl;have b:coP (nwL T 4) 1=coP (nwL T 3) 1:=rfl;have z:nwS T (nwL T 3) 3 4=0:=by rw[s1,a,a,c,q1];grind
  exact⟨z,by rw[s2,s,z,g,e,b,a,a,a,c,q2,Rat.div_def];grind⟩
 obtain⟨o,u⟩:=f;intro d v;have h:d=0∨d=1∨d=2:=by omega
 rcases h with rfl|rfl|rfl
 rfl;exact BK _ n o;rw[show n+2=n+1+1 from rfl,BK _ (n+1) u,BK _ n o]
structure TmG (k:Ke):Prop where
 l:k.length≤5
 n:∀p∈k,p.1.length≤4∧p.2.length≤4
 b:∀p∈k,bdL p.1 60∧bdL p.2 60
theorem TmK.toG{k:Ke}(h:TmK k):TmG k:=⟨by have:=h.l;omega,h.n,fun p hp=>⟨bdL_mono' (h.b p hp).1 (by omega),bdL_mono' (h.b p hp).2 (by omega)⟩⟩
theorem GN{k:Ke}(h:TmG k):tX k:=by
 refine⟨by have:=h.l;omega,?_,fun p hp=>by have:=h.n p hp;omega⟩;rw[List.any_eq_false];intro p hp;have h:=h.n p hp;have b:=bF p.1;have a:=bF p.2
 have:¬(12< if bD p.2> bD p.1 then bD p.2 else bD p.1):=by
  unfold bD;split <;> omega
 unfold AO;simpa using this
theorem in_G{p u:List Rat}{a b:Rat}{t:Nat}(hp:p.length≤4)(bp:bdL p 60)(hu:u.length≤5)(bu:bdL u t)(ht:1≤t)(ht2:t≤100000000)(qa:qs a≤20)(qb:qs b≤20):eS p u∧OkIn (aL p u) a b∧qs (inQ (aL p u) a b)≤80* t+6000:=by
 have m1:=DJ bp bu (by omega) ht;have l1:=ua p u;have e1:p.length* (60+t+1)≤4* (60+t+1):=Nat.mul_le_mul_right _ hp;have m2:=bdL_mono' (b:=4* t+245) m1 (by omega);have i1:=zL m2 (by omega) (by omega);have l:=kn (aL p u);have n:=mxL_le bp (by omega);have j:=mxL_le bu ht;have c1:p.length* (mxL p+mxL u+1)≤4* (60+t+1):=Nat.mul_le_mul hp (by omega)
 have ev:∀y:Rat,qs y≤20→ff (aK (aL p u)) y∧qs (au (aK (aL p u)) y)≤40* t+2871:=fun y c=>by
  have h1:=pV c i1;have m:=mxL_le i1 (by omega);have i:(aK (aL p u)).length* (4* t+245+21+20+1)≤10* (4* t+245+21+20+1):=Nat.mul_le_mul_right _ (by omega);have k:(aK (aL p u)).length* (mxL (aK (aL p u))+qs y+1)≤10* (4* t+287):=Nat.mul_le_mul (by omega) (by omega);exact⟨⟨by omega,by omega⟩,by omega⟩
 obtain⟨f,g⟩:=ev a qa;obtain⟨d,e⟩:=ev b qb;refine⟨⟨by omega,by omega,by omega,by omega⟩,⟨c6 m2 (by omega),by omega,d,f,by omega⟩,?_⟩;have h:=qw (au (aK (aL p u)) b) (au (aK (aL p u)) a);unfold inQ;omega
theorem F8{k:Ke}(hk:TmG k){c:List Rat}{C:Nat}(hc:∀i,qs (coP c i)≤C)(hC:C≤10000000000):(∀i,i≤k.length→bdL (smK k c i) (i* (C+62)+1)∧(smK k c i).length≤4)∧∀i p,k[i]?=some p→OkSm k c i p:=by
 have j:=hk.l
 have d:∀i,i≤k.length→bdL (smK k c i) (i* (C+62)+1)∧(smK k c i).length≤4:=fun i=>by
  induction i with
  |zero=>exact fun _=>⟨fun q m=>(by cases m),Nat.zero_le _⟩
  |succ i g=>
   intro f;obtain⟨b1,l1⟩:=g (by omega);obtain⟨p,hp⟩:∃p,k[i]?=some p:=⟨_,List.getElem?_eq_getElem f⟩;have a:=List.mem_of_getElem? hp;have s1:=fJ (hk.b p a).1 (by omega) (hc i);have s2:=cL p.1 (coP c i);have o:=(hk.n p a).1;have h:=yF b1 s1 (by omega) (by omega);have r:=jV (smK k c i) (aX p.1 (coP c i));rw[smK_s hp];unfold smF;exact⟨bdL_mono' h (by rw[Nat.succ_mul];omega),by omega⟩
 refine⟨d,fun i p hp=>?_⟩;have f:=(List.getElem?_eq_some_iff.1 hp).1;obtain⟨b1,l1⟩:=d i (by omega);have a:=List.mem_of_getElem? hp;have e:i* (C+62)≤5* (C+62):=Nat.mul_le_mul_right _ (by omega);have s1:=fJ (hk.b p a).1 (by omega) (hc i);have s2:=cL p.1 (coP c i);have o:=(hk.n p a).1;exact⟨c6 (hk.b p a).1 (by omega),by omega,Nat.le_trans (hc i) (by omega),c6 b1 (by omega),by omega,c6 s1 (by omega),by omega⟩
theorem ta_G{k:Ke}{l a b:Rat}{g:List Rat}(hk:TmG k)(hg:g.length≤5)(bg:bdL g 20)(qL:qs l≤20)(qa:qs a≤20)(qb:qs b≤20)(ab:a≤b):OkTa k l g a b 11000:=by
 have e:=hk.l;have c:=fun p hp u (hu:u.length≤5) bu=>in_G (u:=u) (t:=60) (a:=a) (b:=b) (hk.n p hp).2 (hk.b p hp).2 hu bu (by omega) (by omega) qa qb;have f:bD g≤20:=by have:=Eg g (n:=4) (by omega);omega
 have m:∀i,i< k.length→k.getD i ([],[])∈k:=fun i d=>by
  rw[List.getD_eq_getElem?_getD,List.getElem?_eq_getElem d];exact List.getElem_mem d
 refine⟨GN hk,by unfold sm;omega,by unfold sm;omega,ab,f,by omega,⟨⟨by omega,fun p hp q o=>?_⟩,fun i j d r=>?_,?_⟩,fun p hp=>?_⟩;have h:=c p hp q.1 (by have:=(hk.n q o).1;omega) (hk.b q o).1;exact⟨h.1,h.2.1⟩;have h:=(c _ (m i d) (k.getD j ([],[])).1 (by have:=(hk.n _ (m j r)).1;omega) (hk.b _ (m j r)).1).2.2;unfold maK;omega;have:slB 11000 k.length≤slB 11000 5:=lQ e;exact Nat.le_trans this (by decide);have h:=c p hp g hg (bdL_mono' bg (by omega));exact⟨h.1,h.2.1,by omega⟩
structure FreG (k:Ke)(l a b:Rat)(B:List (List Rat)):Prop where
 bas:Bas B
 sol:∀p∈B,SolE k l a b [] p
 bd:∀p∈B,bdL p 3000000000∧p.length≤4
 len:B.length≤5
theorem bdM_G{k:Ke}{l a b:Rat}{g:List Rat}(h:OkTa k l g a b 11000):bdM (svM (maK k a b) l (fun t=>coP (rhK k g a b) t) k.length) k.length 11000:=h.sy.bd fun i c=>by
 have e:coP (rhK k g a b) i=inQ (aL k[i].2 g) a b:=by
  unfold coP rhK;rw[List.getD_eq_getElem?_getD];simp[c]
 rw[e];exact(h.rh _ (List.getElem_mem c)).2.2
section
variable {k:Ke}{l a b:Rat}{g:List Rat}
theorem sy_G(h:OkTa k l g a b 11000)(hkl:k.length≤5):∃C r,(syM k l (rhK k g a b) a b).2.length=r∧(frL (syM k l (rhK k g a b) a b).2 k.length).length+r=k.length∧1≤C∧C≤12000000∧
    (∀f∈frL (syM k l (rhK k g a b) a b).2 k.length,∀i,qs (coP (ij (syM k l (rhK k g a b) a b).1 k.length (syM k l (rhK k g a b) a b).2 f) i)≤C)∧(∀i,qs (coP (lN k l g a b) i)≤C)∧∀m,m+r≤5→ecB (5* (C+62)+1) m≤3000000000∧rbB (5* (C+62)+150) (ecB (5* (C+62)+1) m) m≤93000000000:=by
 have hb:=Im (bdM_G h) k.length (Nat.le_refl _);have q:=dY (svM (maK k a b) l (fun t=>coP (rhK k g a b) t) k.length) k.length k.length;have d:=D3 (svM (maK k a b) l (fun t=>coP (rhK k g a b) t) k.length) k.length k.length;unfold lN;change∃C r,(slM (svM (maK k a b) l (fun t=>coP (rhK k g a b) t) k.length) k.length k.length).2.length=r∧_;unfold syM;generalize slM (svM (maK k a b) l (fun t=>coP (rhK k g a b) t) k.length) k.length k.length=A at *
 have p:∀j,j∈A.2→A.2.idxOf j< k.length:=fun j o=>by
  have h1:=List.idxOf_lt_length_of_mem o;have w:=q.len2;omega
 have u:1≤slB 11000 A.2.length:=Nat.le_trans (by decide) (lQ (s:=11000) (Nat.zero_le _));refine⟨slB 11000 A.2.length+1,A.2.length,rfl,d,by omega,?_,fun f hf i=>?_,fun i=>?_,fun m c=>?_⟩;have:slB 11000 A.2.length≤slB 11000 5:=lQ (by omega);have e:slB 11000 5=11264682:=by decide
 omega;refine FW (fun j o=>?_) (by omega) i;unfold zerX;split
 ·rename_i c
  rw[iW];exact Nat.le_trans (hb _ _ (p j (by simpa using c)) (by have:=(mem_frL.1 hf).1;omega)) (by omega)
 split;exact Nat.le_trans (by decide:qs 1≤1) (by omega);exact Nat.le_trans (by decide:qs 0≤1) (by omega);refine FW (fun j o=>?_) (by omega) i;unfold oneX;split
 ·rename_i c
  exact Nat.le_trans (hb _ _ (p j (by simpa using c)) (Nat.le_refl _)) (by omega)
 exact Nat.le_trans (by decide:qs 0≤1) (by omega);generalize A.2.length=r at c;have v:r=0∨r=1∨r=2∨r=3∨r=4∨r=5:=by omega
 have n:m=0∨m=1∨m=2∨m=3∨m=4∨m=5:=by omega
 rcases v with rfl|rfl|rfl|rfl|rfl|rfl <;> rcases n with rfl|rfl|rfl|rfl|rfl|rfl <;> first|omega|decide
theorem HR(hk:TmG k)(h:OkTa k l g a b 11000):FreG k l a b (bK k l g a b):=by
 obtain⟨C,r,e1,e2,y,A,x,_,hs⟩:=sy_G h hk.l;have o:=dY (svM (maK k a b) l (fun t=>coP (rhK k g a b) t) k.length) k.length k.length;have m:=hk.l;have u:(zsK k (syM k l (rhK k g a b) a b)).length+r=k.length:=by rw[←e2];simp[zsK]
 have n:=pX (zsK k (syM k l (rhK k g a b) a b)) (zsK k (syM k l (rhK k g a b) a b)).length
 have j:∀p∈zsK k (syM k l (rhK k g a b) a b),bdL p (5* (C+62)+1)∧p.length≤4:=fun p hp=>by
  obtain⟨z,d,rfl⟩:=List.mem_map.1 hp;obtain⟨f,hf,rfl⟩:=List.mem_map.1 d;obtain⟨s1,s2⟩:=(F8 hk (x f hf) (by omega)).1 k.length (Nat.le_refl _);have e:k.length* (C+62)≤5* (C+62):=Nat.mul_le_mul_right _ m;exact⟨bdL_mono' s1 (by omega),s2⟩
 obtain⟨t1,t2⟩:=hs (zsK k (syM k l (rhK k g a b) a b)).length (by omega);have i:=yj (by omega) j (zsK k (syM k l (rhK k g a b) a b)).length;refine⟨jf _ _,yk (Q:=SolE k l a b []) (fun p q c r hp v h=>hp.comb v h) (SolE.nil k l a b) _ (fun p hp=>?_) _,fun p hp=>⟨bdL_mono' (i p hp).1 t1,(i p hp).2⟩,by show(ecK _ _).length≤5;omega⟩;obtain⟨z,d,rfl⟩:=List.mem_map.1 hp;obtain⟨f,hf,rfl⟩:=List.mem_map.1 d;obtain⟨s,w⟩:=mem_frL.1 hf;exact yR (r:=fun t=>coP (rhK k g a b) t) ((mK k.length).1 (o.zerX s w))
theorem ech_G(hk:TmG k)(h:OkTa k l g a b 11000):FS 90 [.arr (mE (zsK k (syM k l (rhK k g a b) a b)))] (.arr (mE (bK k l g a b))):=by
 obtain⟨C,r,e1,e2,m,n,j,_,hs⟩:=sy_G h hk.l;have c:=hk.l;have i:(zsK k (syM k l (rhK k g a b) a b)).length+r=k.length:=by rw[←e2];simp[zsK]
 refine Cn _ (5* (C+62)+1) (by omega) (by omega) (fun p hp=>?_) (Nat.le_trans (hs _ (by omega)).1 (by decide));obtain⟨z,d,rfl⟩:=List.mem_map.1 hp;obtain⟨f,hf,rfl⟩:=List.mem_map.1 d;obtain⟨s1,s2⟩:=(F8 hk (j f hf) (by omega)).1 k.length (Nat.le_refl _);have e:k.length* (C+62)≤5* (C+62):=Nat.mul_le_mul_right _ c;exact⟨bdL_mono' s1 (by omega),by omega⟩
theorem sol_G(hk:TmG k)(h:OkTa k l g a b 11000)(hg:g.length≤5)(bg:bdL g 20)(qL:qs l≤20):
    ∃(u:List Rat) (B:List (List Rat)) (e:Int),FS 12 [.agg (eqC k l g),.agg (spC a b)] (.tup [.arr (pE u),.arr (mE B),i64 e])∧u.length≤5∧bdL u 93000000000∧(∀p∈bK k l g a b,coP u (dg p)=0)∧(e=12∧u=[]∧B=[]∧(∀v,¬SolE k l a b g v)∨e=0∧B=bK k l g a b∧SolE k l a b g u):=by
 cases hN:jG k.length (syM k l (rhK k g a b) a b).1 (syM k l (rhK k g a b) a b).2 with
 |true=>exact⟨[],[],12,wo k l g a b 11000 h hN,Nat.zero_le _,fun q x=>(by cases x),fun _ _=>rfl,.inl ⟨rfl,rfl,rfl,fun v hv=>by have:=GV hv;rw[hN] at this;cases this⟩⟩
 |false=>
  obtain⟨C,r,e1,e2,T,V,F,h1,hs⟩:=sy_G h hk.l;have o:=HR hk h;have n:=hk.l;have G:=dY (svM (maK k a b) l (fun t=>coP (rhK k g a b) t) k.length) k.length k.length;have K:(zsK k (syM k l (rhK k g a b) a b)).length+r=k.length:=by rw[←e2];simp[zsK]
  have j:=pX (zsK k (syM k l (rhK k g a b) a b)) (zsK k (syM k l (rhK k g a b) a b)).length
  have w:∀p∈zsK k (syM k l (rhK k g a b) a b),bdL p (5* (C+62)+1)∧p.length≤4:=fun p hp=>by
   obtain⟨z,y,rfl⟩:=List.mem_map.1 hp;obtain⟨f,hf,rfl⟩:=List.mem_map.1 y;obtain⟨s1,s2⟩:=(F8 hk (F f hf) (by omega)).1 k.length (Nat.le_refl _);have e:k.length* (C+62)≤5* (C+62):=Nat.mul_le_mul_right _ n;exact⟨bdL_mono' s1 (by omega),s2⟩
  have s:=yj (by omega) w (zsK k (syM k l (rhK k g a b) a b)).length;obtain⟨t1,t2⟩:=hs (zsK k (syM k l (rhK k g a b) a b)).length (by omega);obtain⟨s1,s2⟩:=F8 hk h1 (by omega);obtain⟨E,R⟩:=s1 k.length (Nat.le_refl _);have e:k.length* (C+62)≤5* (C+62):=Nat.mul_le_mul_right _ n;have c1:=fJ E (by omega) qL;have W:=cL (smK k (lN k l g a b) k.length) l;have N:=yF bg c1 (by omega) (by omega);have S:=jV g (aX (smK k (lN k l g a b) k.length) l);have A:OkSu k l g a b:=⟨s2,c6 E (by omega),by omega,by unfold sm;omega,c6 bg (by omega),c6 c1 (by omega),by omega⟩;have D:bdL (syU k l g a b) (5* (C+62)+150):=bdL_mono' N (by omega);have O:(syU k l g a b).length≤5:=by show(fR _ _).length≤5;omega
  have d:∀p∈bK k l g a b,Piv p:=o.bas.piv;have m:∀p∈bK k l g a b,bdL p (ecB (5* (C+62)+1) (zsK k (syM k l (rhK k g a b) a b)).length):=fun p hp=>(s p hp).1;have i:=yl (5* (C+62)+1) (zsK k (syM k l (rhK k g a b) a b)).length;have J:=uh d D (by omega) m i j (by omega) (by omega) (fun p hp=>by have:=(o.bd p hp).2;omega) (by omega);obtain⟨M,U⟩:=tN d D (by omega) m i j;refine⟨_,_,0,Fc k l g a b 11000 h A hN (fun f hf=>(F8 hk (F f hf) (by omega)).2) _ (ech_G hk h) J,by omega,bdL_mono' M t2,fun p hp=>?_,.inr ⟨rfl,rfl,?_⟩⟩;rw[lc,b5];exact o7 _ _ _ rfl d o.bas.up p hp;have L:=F7 ((mK k.length).1 (G.oneX (zt hN)));rw[lc];exact(tP (Q:=SolE k l a b g) (H:=SolE k l a b []) (fun p q c r hp x h=>hp.comb x h) _ _ _ rfl (fun p hp=>⟨d p hp,o.sol p hp⟩) L).ext (b5 _)
end
theorem y3{f:Nat→Rat}{c:Nat}:∀n,(∀t,t< n→qs (f t)≤c)→qs (sQ f n)≤n* (c+1)+1
 |0,_=>by rw[sQ,Nat.zero_mul];decide
 |n+1,h=>by
  have h1:=y3 n fun t ht=>h t (by omega);have a:=h n (by omega);have b:=kg (sQ f n) (f n);rw[sQ,Nat.succ_mul];omega
def pwB:Nat→Nat
 |0=>10900
 |m+1=>5* (pwB m+10901)+1
theorem Gx{m n:Nat}(h:m≤n):pwB m≤pwB n:=by
 induction n with
 |zero=>rw[show m=0 by omega];exact Nat.le_refl _
 |succ n a=>
  by_cases e:m=n+1;rw[e];exact Nat.le_refl _;have:=a (by omega);rw[pwB];omega
section
variable {k:Ke}{a b:Rat}
theorem Dz(hk:TmG k)(qa:qs a≤20)(qb:qs b≤20):∀m i j,i< k.length→j< k.length→qs (pwM k a b m i j)≤pwB m
 |0,i,j,d,hj=>by
  have g:∀i,i< k.length→k.getD i ([],[])∈k:=fun i d=>by
   rw[List.getD_eq_getElem?_getD,List.getElem?_eq_getElem d];exact List.getElem_mem d
  have h:=(in_G (u:=(k.getD j ([],[])).1) (t:=60) (a:=a) (b:=b) (hk.n _ (g i d)).2 (hk.b _ (g i d)).2 (by have:=(hk.n _ (g j hj)).1;omega) (hk.b _ (g j hj)).1 (by omega) (by omega) qa qb).2.2;rw[show 80* 60+6000=10800 from rfl] at h;rw[show pwB 0=10900 from rfl];show qs (inQ (aL (k.getD i ([],[])).2 (k.getD j ([],[])).1) a b)≤10900;omega
 |m+1,i,j,d,hj=>by
  rw[←Gw];unfold mmQ;have o:=hk.l
  have h:=y3 (f:=fun t=>pwM k a b m i t* pwM k a b 0 t j) (c:=pwB m+10900) k.length fun t ht=>by
   have h1:=Dz hk qa qb m i t d ht;have p:=Dz hk qa qb 0 t j ht hj;have q:=dK (pwM k a b m i t) (pwM k a b 0 t j);rw[show pwB 0=10900 from rfl] at p;omega
  have e:k.length* (pwB m+10900+1)≤5* (pwB m+10900+1):=Nat.mul_le_mul_right _ o;refine Nat.le_trans h ?_;rw[pwB];refine Nat.succ_le_succ (Nat.le_trans e ?_);simp only[Nat.add_assoc,Nat.reduceAdd,Nat.le_refl]
theorem nw_bd{T:Nat→Rat}{τ:Nat}(hT:∀i,i< 5→qs (T i)≤τ)(h1:100≤τ):∀j,j≤5→(∀i,qs (coP (nwL T j) i)≤2^ i* (6* τ))∧(j< 5→∀i,i≤j+1→qs (nwS T (nwL T j) j i)+2^ (j+1- i) * (6* τ)≤i* (τ+1)+1+2^ (j+1) * (6* τ)):=by
 have k:∀i:Nat,6* τ≤2^ i* (6* τ):=fun i=>Nat.le_mul_of_pos_left _ (Nat.one_le_pow _ _ (by omega));have g:qs (0:Rat)≤1:=by decide
 have a:∀j,j< 5→(∀i,qs (coP (nwL T j) i)≤2^ i* (6* τ))→∀i,i≤j+1→qs (nwS T (nwL T j) j i)+2^ (j+1- i) * (6* τ)≤i* (τ+1)+1+2^ (j+1) * (6* τ):=fun j n c i=>by
  induction i with
  |zero=>
   intro _;rw[nwS,Nat.zero_mul,Nat.sub_zero];have:qs (0:Rat)≤1:=g;omega
  |succ i b=>
   intro d;have f:=b (by omega);have l:=hT i (by omega);have g3:=c (j- i);have s:=dK (T i) (coP (nwL T j) (j- i));have q:=qw (nwS T (nwL T j) j i) (T i* coP (nwL T j) (j- i));have e1:j+1- i=(j- i)+1:=by omega
   have e2:j+1- (i+1)=j- i:=by omega
   rw[e1,Nat.pow_succ,Nat.mul_right_comm] at f;have m:(i+1) * (τ+1)=i* (τ+1)+(τ+1):=Nat.succ_mul _ _;rw[nwS,e2,m];omega
 intro j
 induction j with
 |zero=>
  intro _
  have c:∀i,qs (coP (nwL T 0) i)≤2^ i* (6* τ):=fun i=>by
   have:=k i;cases i with
   |zero=>exact Nat.le_trans (show qs ((1:Int):Rat)≤1 by decide) (by omega)
   |succ i=>exact Nat.le_trans (show qs (0:Rat)≤1 from g) (by omega)
  exact⟨c,fun h=>a 0 h c⟩
 |succ j b=>
  intro n;obtain⟨c1,p⟩:=b (by omega);have o:=p (by omega) (j+1) (Nat.le_refl _)
  have c:∀i,qs (coP (nwL T (j+1)) i)≤2^ i* (6* τ):=fun i=>by
   rw[nwL,CP,ir];by_cases d:i< j+1;rw[if_pos d];exact c1 i;rw[if_neg d];by_cases e:i=j+1;have f:=gO (nwS T (nwL T j) j (j+1)) ((((j+1:Nat):Int)):Rat);have l:=sm8 (j+1) (by omega);have r:(j+1) * (τ+1)≤5* (τ+1):=Nat.mul_le_mul_right _ (by omega);rw[Nat.sub_self,Nat.pow_zero,Nat.one_mul] at o;rw[e,Nat.sub_self];show qs (nwS T (nwL T j) j (j+1) / ((((j+1:Nat):Int)):Rat))≤_;omega;have:=k i;rw[fO (by simp;omega)];omega
  exact⟨c,fun h=>a (j+1) h c⟩
theorem okDt_G{T:Nat→Rat}{τ n:Nat}(hn:n≤5)(hT:∀i,i< 5→qs (T i)≤τ)(h1:100≤τ)(h2:τ≤80000000):OkDt T n:=by
 have f:∀i:Nat,i≤5→2^ i* (6* τ)≤32* (6* τ):=fun i c=>Nat.mul_le_mul_right _ (by
  have:i=0∨i=1∨i=2∨i=3∨i=4∨i=5:=by omega
  rcases this with rfl|rfl|rfl|rfl|rfl|rfl <;> decide)
 have a:∀j,j< n→(∀i,qs (coP (nwL T j) (j- i))≤32* (6* τ))∧∀i,i≤j+1→qs (nwS T (nwL T j) j i)≤5* (τ+1)+1+32* (6* τ):=fun j b=>by
  obtain⟨c1,h⟩:=nw_bd hT h1 j (by omega);refine⟨fun i=>Nat.le_trans (c1 _) (f _ (by omega)),fun i c=>?_⟩;have g:=h (by omega) i c;have d:=f (j+1) (by omega);have e:i* (τ+1)≤5* (τ+1):=Nat.mul_le_mul_right _ (by omega);omega
 refine⟨fun j i b c=>?_,fun j i b c=>?_,fun j b=>?_⟩;have d:=(a j b).1 i;have e:=hT i (by omega);omega;have d:=(a j b).1 i;have e:=hT i (by omega);have g3:=(a j b).2 i (by omega);have k:=dK (T i) (coP (nwL T j) (j- i));omega;have g3:=(a j b).2 (j+1) (by omega);omega
end
end Go.Proofs.YtdgbhlkabelmbaaGreatDoor
