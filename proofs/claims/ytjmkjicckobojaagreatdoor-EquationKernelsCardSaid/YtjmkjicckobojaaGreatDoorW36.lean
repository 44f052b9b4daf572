/- Part W36 of the proof. -/
import Derived.Test.YtjmkjicckobojaaGreatDoorW35
set_option linter.all false
namespace Go.Proofs.YtjmkjicckobojaaGreatDoor
open Go.Abs
set_option maxRecDepth 20000
set_option maxHeartbeats 4000000
def mmQ(n:Nat)(A B:Mx):Mx:=λi j=>sQ (λt=>A i t* B t j) n
def mmS(n:Nat)(A B:Mx)(i j:Nat):Nat->AState
 |t=>⟨[(0,i64 i),(1,i64 j),(2,bM (sqR n A)),(3,bM (sqR n B)),(6,.lptr 1 0 0),(7,.lptr 2 0 0),(10,i64 n),(11,i64 t)],[(1,some ⟨42,3,[zC]⟩),(2,some ⟨42,3,[qC (sQ (λt=>A i t* B t j) t)]⟩)],3,33⟩
theorem fs_mm1(n:Nat)(A B:Mx)(i j:Nat)(hi:i< n)(hj:j< n)(hn:n<=25)(hs:∀t,t< n->qs (A i t)+qs (B t j)<=549755813888/\qs (sQ (λt=>A i t* B t j) t)+qs (A i t* B t j)<=549755813888):FS 262 [i64 i,i64 j,bM (sqR n A),bM (sqR n B)] (.agg (qC (mmQ n A B i j))):=by
 have g:(mE (sqR n A)).length=n:=ψ
 have o:(mE (sqR n B)).length=n:=ψ
 refine f_n Tryz.func262 ?_ ?_;exact ae (ak _) (ae (ak _) (ae (cv _) (ae (cv _) af)));refine r_z 1 ?_;refine r_z 1 ?_;refine ac (r_z 3 ?_);refine aC (λ_:Unit=>⟨[(6,.lptr 1 0 0),(7,.lptr 2 0 0)],[(1,some ⟨42,3,[zC]⟩),(2,some ⟨42,3,[qC (mmQ n A B i j)]⟩)],3,33⟩) (λ_=>True) ?_ ?_;refine ah (ay (mmS n A B i j) (λt=>n- t) (λt=>t<=n) 0 (Nat.zero_le _) ?_ ?_);rw[mmS.eq_1,sQ,qC0];refine s_x [(1,6),(2,7)] (λhs=>?_) (λhs=>?_)
 ·repeat' (first|exact aL|refine az rfl ?_ ?_|exact ao hs (cv _)|(refine Cv.loE hs ?_ (ak _);simp[i64];done)|exact aW)
 ·repeat' (first|exact aB|refine h_c ?_ ?_|exact bG|refine aA ?_|exact av|refine am ?_ ?_|exact ao hs (cv _)|(refine Cv.loE hs ?_ (ak _);simp[i64];done)|exact aW)
 intro t p;rw[mmS.eq_1];by_cases hlt:t< n;have e:(mE (sqR n A))[((i:Nat):Int).toNat]?=some [.arr (pE (aN n (A i)))]:=tj (zD hi) _ ψ;have d:(pE (aN n (A i)))[((t:Nat):Int).toNat]?=some (qC (A i t)):=eJ hlt _ ψ;have f:(mE (sqR n B))[((t:Nat):Int).toNat]?=some [.arr (pE (aN n (B t)))]:=tj (zD hlt) _ ψ;have c:(pE (aN n (B t)))[((j:Nat):Int).toNat]?=some (qC (B t j)):=eJ hj _ ψ;have l1:(pE (aN n (A i))).length=n:=by simp[pE]
 have l2:(pE (aN n (B t))).length=n:=by simp[pE]
 obtain⟨l,m⟩:=hs t hlt;have a:=dk (A i t) (B t j) l;have b:=fD (sQ (λt=>A i t* B t j) t) (A i t* B t j) m;refine q_z 1 ?_;refine ac (cT (aj (ac (ah (r_z 2 ?_)))));refine r_d aX 18 ?_;refine a_3 ?_;refine i_x e ?_;refine l_1 e ?_;refine a_1 ?_;refine i_x d ?_;refine l_x d ?_;refine a_2 ?_;refine i_x f ?_;refine bm (.load_a1 rfl f TG.h rfl) rfl rfl ?_;refine a_1 ?_;refine i_x c ?_;refine l_x c ?_;refine c_s (a) ?_;refine c_s (b) ?_;refine a_1 ?_;refine aq (n_k ?_);refine r_m 2 ?_;refine a_z ?_;refine⟨t+1,ω,ω,?_⟩;rw[mmS.eq_1,sQ];refine s_x [(1,6),(2,7)] (λhs=>?_) (λhs=>?_)
 ·repeat' (first|exact aL|refine az rfl ?_ ?_|exact ao hs (cv _)|exact aW)
 ·repeat' (first|exact aB|refine h_c ?_ ?_|exact bG|refine aA ?_|exact av|refine am ?_ ?_|exact ao hs (cv _)|exact aW)
 have k:t=n:=ω
 refine q_z 1 ?_;refine ac (cF (ax ⟨(),trivial,?_⟩));subst k;unfold mmQ;exact s_e [(1,6),(2,7)];rintro _ _;refine r_z 2 ?_;exact ai (c_e (aP _))
theorem fs_mm(n:Nat)(A B:Mx)(hn:n<=25)(hs:∀i j t,i< n->j< n->t< n->qs (A i t)+qs (B t j)<=549755813888/\qs (sQ (λt=>A i t* B t j) t)+qs (A i t* B t j)<=549755813888):FS 216 [.arr (mE (sqR n A)),.arr (mE (sqR n B))] (.arr (mE (sqR n (mmQ n A B)))):=by
 have c:=H1 (mmQ n A B) n 262 [bM (sqR n A),bM (sqR n B)] hn (ae (cv _) (ae (cv _) af)) λi j b a=>fs_mm1 n A B i j b a hn λt e=>hs i j t b a e;rw[AH] at c;have d:(mE (sqR n A)).length=n:=ψ
 refine f_c Tryz.func216 ?_;refine r_z 3 ?_;refine AWp.ent (st':=⟨[(2,bM (sqR n A)),(3,bM (sqR n B))],[],1,9⟩) ?_ ?_;refine s_x [] (λhs=>?_) (λhs=>?_)
 ·repeat' (first|exact aL|refine az rfl ?_ ?_|exact Cv.boxp hs rfl (aG rfl) rfl (ae (closed_mA (sqR n A)) af)|exact Cv.boxp hs rfl (aG rfl) rfl (ae (closed_mA (sqR n B)) af)|exact aW)
 ·repeat' (first|exact aB|refine h_c ?_ ?_|exact bG|refine aA ?_|exact av|refine am ?_ ?_|exact Cv.boxp hs rfl (aG rfl) rfl (ae (closed_mA (sqR n A)) af)|exact Cv.boxp hs rfl (aG rfl) rfl (ae (closed_mA (sqR n B)) af)|exact aW)
 refine s_r 5 ?_;refine bm (.load_a1 rfl rfl TG.h rfl) rfl rfl ?_;refine bm (.lenC rfl rfl rfl rfl te_155.h) rfl rfl ?_;refine o_0 (.makeFunc rfl rfl) ?_;refine o_0 (.call rfl rfl rfl ((by rw[Dw];exact c))) ?_;refine o_0 (.assign rfl) ?_;refine aq ?_;exact ai (t_e (closed_mA _))
def nwS(T:Nat->Rat)(o:Lq)(j:Nat):Nat->Rat
 |0=>0
 |i+1=>nwS T o j i- T i* coP o (j- i)
def nwL(T:Nat->Rat):Nat->Lq
 |0=>[((1:Int):Rat)]
 |j+1=>nwL T j++[nwS T (nwL T j) j (j+1) / (((j+1:Nat):Int):Rat)]
@[simp] theorem mO (T:Nat->Rat):∀j,(nwL T j).length=j+1
 |0=>rfl
 |j+1=>by rw[nwL,List.length_append,mO T j];rfl
def trT(T:Nat->Rat)(j:Nat):Lq:=aN j T
@[simp] theorem trT_length (T:Nat->Rat)(j:Nat):(trT T j).length=j:=by simp[trT]
theorem trT_s(T:Nat->Rat)(j:Nat):trT T j++[T j]=trT T (j+1):=by unfold trT aN;rw[List.range_succ,List.map_append];rfl
theorem pE_snoc'(l:Lq)(a:Rat):pE l++[qC a]=pE (l++[a]):=by simp[pE]
def dg0(k:Ke)(M:Lw)(T:Nat->Rat):Unit->AState
 |u=>⟨[(2,bKe k),(5,.lptr 1 0 0),(6,.lptr 2 0 0),(20,.clos 215 [] [bM M])],[(1,some ⟨62,1,[[.lsl 3 0 1 none 3]]⟩),(2,some ⟨61,1,[[.emp]]⟩),(3,some ⟨42,3,pE (nwL T 0)⟩)],4,60⟩
def dgs(k:Ke)(M:Lw)(T:Nat->Rat):Nat->AState
 |j=>⟨[(2,bKe k),(5,.lptr 1 0 0),(6,.lptr 2 0 0),(20,.clos 215 [] [bM M])],[(1,some ⟨62,1,[[.lsl 3 0 (j+1+1) none 3]]⟩),(2,some ⟨61,1,[[.lsl 4 0 (j+1) none 3]]⟩),(3,some ⟨42,3,pE (nwL T (j+1))⟩),(4,some ⟨42,3,pE (trT T (j+1))⟩)],5,60⟩
def dgS(k:Ke)(M:Lw)(T:Nat->Rat):Nat->AState
 |0=>dg0 k M T ()
 |j+1=>dgs k M T j
def dgX(m:Nat)(T:Nat->Rat):Unit->AState
 |u=>⟨[(5,.lptr 1 0 0)],[(1,some ⟨62,1,[[.lsl 3 0 (m+1) none 3]]⟩),(3,some ⟨42,3,pE (nwL T m)⟩)],4,60⟩
def dgI(k:Ke)(M:Lw)(T:Nat->Rat)(j:Nat):Nat->AState
 |i=>⟨[(2,bKe k),(5,.lptr 1 0 0),(6,.lptr 2 0 0),(8,i64 ((j+1:Nat):Int)),(9,.lptr 5 0 0),(28,.lsl 4 0 (j+1) none 3),(29,i64 ((j+1:Nat):Int)),(30,i64 i),(1002,bKe k),(1005,.lptr 1 0 0),(1006,.lptr 2 0 0),(1020,.clos 215 [] [bM M])],[(1,some ⟨62,1,[[.lsl 3 0 (j+1) none 3]]⟩),(2,some ⟨61,1,[[.lsl 4 0 (j+1) none 3]]⟩),(3,some ⟨42,3,pE (nwL T j)⟩),(4,some ⟨42,3,pE (trT T (j+1))⟩),(5,some ⟨42,3,[qC (nwS T (nwL T j) j i)]⟩)],6,60⟩
theorem sm8(n:Nat)(h:n<=8):qs (((n:Nat):Int):Rat)<=5:=by
 have:n=0\/n=1\/n=2\/n=3\/n=4\/n=5\/n=6\/n=7\/n=8:=ω
 rcases this with rfl|rfl|rfl|rfl|rfl|rfl|rfl|rfl|rfl <;> decide
structure OkDt (T:Nat->Rat)(n:Nat):Prop where
 m:∀j i,j< n->i<=j->qs (T i)+qs (coP (nwL T j) (j- i))<=549755813888
 s:∀j i,j< n->i<=j->qs (nwS T (nwL T j) j i)+qs (T i* coP (nwL T j) (j- i))<=549755813888
 d:∀j,j< n->qs (nwS T (nwL T j) j (j+1))+5<=549755813888
theorem fs_detN(k:Ke)(a b:Rat)(pM:Nat->Mx)(h:OkMa k a b)(h0:pM 0=maK k a b)(hn:0< k.length)(hl8:k.length<=8)(hs:∀j,j< k.length->∀i,i< k.length->qs (trQ (pM j) i)+qs (pM j i i)<=549755813888)(hmul:∀j,j+1< k.length->FS 216 [.arr (mE (sqR k.length (pM j))),.arr (mE (sqR k.length (pM 0)))] (.arr (mE (sqR k.length (pM (j+1))))))(hd:OkDt (λj=>trQ (pM j) k.length) k.length):
    FS 52 [.arr (kE k),.agg (spC a b)] (.arr (pE (ap (nwL (λj=>trQ (pM j) k.length) k.length)))):=by
 have i1:=eD 1 δ;have hm:=wR k a b h;rw[<-h0] at hm;have hgs:=yL pM k.length (k.length- 1) ω (λj hj=>hs j ω) (λj hj=>hmul j ω);have htr:=yM (sqR k.length (pM 0));have hkl:(kE k).length=k.length:=dP k;obtain⟨T,hT⟩:∃T,T=λj=>trQ (pM j) k.length:=⟨_,rfl⟩;have hgs:GSpecB Tryz.prog 215 [bM (sqR k.length (pM 0))] (λj=>some [.agg (qC (T j))]) (k.length- 1):=by rw[hT];exact hgs
 rw[<-hT] at hd⊢;obtain⟨M,hM⟩:∃M,M=sqR k.length (pM 0):=⟨_,rfl⟩;rw[<-hM] at hgs htr hm;have hti:=dK (nwL T k.length) χ;have hcc:Closed (.clos 215 [] [bM M]):=a6 af (ae (cv _) af);refine f_n Tryz.func52 ?_ ?_;exact ae (aH k) (ae (aE (bt a b)) af);refine r_z 3 ?_;refine AWp.ent (st':=⟨[(2,bKe k),(3,bSp a b)],[],1,60⟩) ?_ ?_;exact s_x [] (λhs=>e_47) (λhs=>e_48);refine r_c 4 (i1) ?_;refine a_z ?_;refine r_z 1 ?_;refine ac (q_z 3 ?_);refine aC (λ_:Unit=>dgX k.length T ()) (λ_=>True) ?_ ?_;refine cT (r_c 4 (hm) ?_);refine c_s (htr) ?_;refine aq ?_;refine ah (AWp.rangeFuncB (α:=Nat) (γ:=Unit) (k.length- 1) (dgS k M T) (λj=>j) (λj=>j< k.length) (dgX k.length T) (λe _=>e= .exit 0) 0 rfl hgs rfl rfl ?_ (λj=>by cases j <;> exact⟨rfl,rfl⟩) (λ_=>rfl) hn rfl (λj hj=>ω) ?_ ?_ ?_ ?_ ?_);intro j xs hT;cases hT;rfl;show SEntT _ (dg0 k M T ());rw[dg0.eq_1];refine s_y [(1,5),(2,6),(3,13)] (λhs=>e_7) (λhs=>?_)
 ·repeat' (first|exact aB|refine h_c ?_ ?_|exact ba hs (aQ (nwL T 0))|exact bG|refine aA ?_|exact av|refine am ?_ ?_|exact ao hs (dm k)|exact ao hs hcc|exact aW)
 exact ae (cv _) af;intro ll j xs hj hT;cases hT;cases j with
 |zero=>
  have hsum:pE [T 0]=pE (trT T (0+1)):=rfl;show AWp _ _ _ _ ⟨[(21,.agg (qC (T 0))),(2,bKe k),(5,.lptr 1 0 0),(6,.lptr 2 0 0),(20,.clos 215 [] [bM M]),(1002,bKe k),(1005,.lptr 1 0 0),(1006,.lptr 2 0 0),(1020,.clos 215 [] [bM M])],[(1,some ⟨62,1,[[.lsl 3 0 1 none 3]]⟩),(2,some ⟨61,1,[[.emp]]⟩),(3,some ⟨42,3,pE (nwL T 0)⟩)],4,60⟩;refine r_m 2 ?_;refine a_z ?_;refine ah (r_z 5 ?_);refine r_z 3 ?_;refine r_z 1 ?_;refine ac (r_z 3 ?_);refine aC (λ_:Unit=>dgI k M T (0) (0+1)) (λ_=>True) ?_ ?_;refine ah (ay (dgI k M T (0)) (λi=>0+1- i) (λi=>i<=0+1) 0 (Nat.zero_le _) ?_ ?_);rw[dgI.eq_1,nwS,qC0];exact s_z [(1,5),(2,6),(3,100003),(4,28),(5,9)] (λhs=>e_7) (λhs=>e_58);intro i hi;rw[dgI.eq_1];by_cases hlt:i< 0+1;have g1:(pE (trT T (0+1)))[0+((i:Nat):Int).toNat]?=some (qC (T i)):=eJ hlt _ ψ;have g2:(pE (nwL T (0)))[0+((((0+1:Nat):Int)- 1- (i:Int))).toNat]?=some (qC (coP (nwL T (0)) (0- i))):=pE_get (ci (by rw[mO];omega)) _ ω;have hmu:=dk (T i) (coP (nwL T (0)) (0- i)) (hd.m _ _ hj ω);have hsu:=kU (nwS T (nwL T (0)) (0) i) (T i* coP (nwL T (0)) (0- i)) (hd.s _ _ hj ω);have l1:(pE (nwL T (0))).length=0+1:=by simp[pE]
  have l2:(pE (trT T (0+1))).length=0+1:=by simp[pE]
  refine q_z 1 ?_;refine ac (cT (aj (ac (ah (s_r 6 ?_)))));refine a_2 ?_;refine bm (.load_l rfl rfl g1 TG.h TS.h (nle rfl)) rfl rfl ?_;refine a_z ?_;refine r_d aX 12 ?_;refine a_8 ?_;refine bm (.load_l rfl rfl g2 TG.h TS.h (nle rfl)) rfl rfl ?_;refine c_s (hmu) ?_;refine c_s (hsu) ?_;refine a_1 ?_;refine aq (n_k ?_);refine r_m 2 ?_;refine a_z ?_;refine⟨i+1,ω,ω,?_⟩;rw[dgI.eq_1,nwS];exact s_z [(1,5),(2,6),(3,100003),(4,28),(5,9)] (λhs=>e_7) (λhs=>e_18);have he:i=0+1:=ω
  refine q_z 1 ?_;refine ac (cF (ax ⟨(),trivial,?_⟩));subst he;exact s_z [(1,5),(2,6),(3,100003),(4,28),(5,9)] (λhs=>e_7) (λhs=>e_18);rintro _ _;rw[dgI.eq_1];have iJ:=eD (((0+1:Nat):Int)) ω;have hq5:qs ((((0+1:Nat):Int)):Rat)<=5:=sm8 _ ω;have hov:=oe (nwS T (nwL T (0)) (0) (0+1)) ((((0+1:Nat):Int)):Rat) (DU _) (by have:=hd.d _ hj;omega);have l1:(pE (nwL T (0))).length=0+1:=by simp[pE]
  have hnew:pE (nwL T (0))++[qC (nwS T (nwL T (0)) (0) (0+1) / ((((0+1:Nat):Int)):Rat))]=pE (nwL T (0+1)):=by rw[pE_snoc',<-nwL]
  refine ac (r_d aX 8 ?_);refine c_s (iJ) ?_;refine c_s (hov) ?_;refine a_3 ?_;refine aq (n_k ?_);by_cases hend:0+1=k.length;refine q_z 4 ?_;refine cT (ax (⟨rfl,(),rfl,?_⟩));rw[<-hend];show SEntT _ ⟨[(1005,.lptr 1 0 0)],[(1,some ⟨62,1,[[.lsl 3 0 ((0+1)+1) none 3]]⟩),(3,some ⟨42,3,pE (nwL T (0+1))⟩)],4,60⟩;exact s_t [(1,5),(3,53)];refine q_z 4 ?_;refine cF (aj (⟨0+1,⟨ω,rfl⟩,?_⟩));show SEntT _ ⟨[(1002,bKe k),(1005,.lptr 1 0 0),(1006,.lptr 2 0 0),(1020,.clos 215 [] [bM M])],[(1,some ⟨62,1,[[.lsl 3 0 ((0)+1+1) none 3]]⟩),(2,some ⟨61,1,[[.lsl 4 0 ((0)+1) none 3]]⟩),(3,some ⟨42,3,pE (nwL T ((0)+1))⟩),(4,some ⟨42,3,pE (trT T ((0)+1))⟩)],5,60⟩;refine SEntT.to2 [(1,5),(2,6),(3,53),(4,100004)] rfl rfl rfl xK (λhs=>?_) (λhs=>?_)
  ·repeat' (first|exact aL|refine az rfl ?_ ?_)
   all_goals (first|((first|exact ao hs (dm k)|exact ao hs hcc))|exact aW)
  ·repeat' (first|exact aB|refine jY rfl rfl rfl rfl ?_ ?_)
   all_goals (first|((first|exact aJ hs hnew (aQ _)|exact ba hs (aQ _)))|exact bG|(refine aA ?_;repeat' (first|exact av|refine am ?_ ?_)))
   all_goals (first|((first|exact ao hs (dm k)|exact ao hs hcc))|exact aW)
 |succ j=>
  have hsum:pE (trT T (j+1))++[qC (T (j+1))]=pE (trT T (j+1+1)):=by rw[pE_snoc',trT_s]
  have hsl:(pE (trT T (j+1))).length=j+1:=by simp[pE]
  show AWp _ _ _ _ ⟨[(21,.agg (qC (T (j+1)))),(2,bKe k),(5,.lptr 1 0 0),(6,.lptr 2 0 0),(20,.clos 215 [] [bM M]),(1002,bKe k),(1005,.lptr 1 0 0),(1006,.lptr 2 0 0),(1020,.clos 215 [] [bM M])],[(1,some ⟨62,1,[[.lsl 3 0 (j+1+1) none 3]]⟩),(2,some ⟨61,1,[[.lsl 4 0 (j+1) none 3]]⟩),(3,some ⟨42,3,pE (nwL T (j+1))⟩),(4,some ⟨42,3,pE (trT T (j+1))⟩)],5,60⟩;refine r_m 2 ?_;refine a_z ?_;refine ah (r_z 5 ?_);refine r_z 3 ?_;refine r_z 1 ?_;refine ac (r_z 3 ?_);refine aC (λ_:Unit=>dgI k M T (j+1) (j+1+1)) (λ_=>True) ?_ ?_;refine ah (ay (dgI k M T (j+1)) (λi=>j+1+1- i) (λi=>i<=j+1+1) 0 (Nat.zero_le _) ?_ ?_);rw[dgI.eq_1,nwS,qC0];exact s_z [(1,5),(2,6),(3,100003),(4,28),(5,9)] (λhs=>e_7) (λhs=>e_58);intro i hi;rw[dgI.eq_1];by_cases hlt:i< j+1+1;have g1:(pE (trT T (j+1+1)))[0+((i:Nat):Int).toNat]?=some (qC (T i)):=eJ hlt _ ψ;have g2:(pE (nwL T (j+1)))[0+((((j+1+1:Nat):Int)- 1- (i:Int))).toNat]?=some (qC (coP (nwL T (j+1)) (j+1- i))):=pE_get (ci (by rw[mO];omega)) _ ω;have hmu:=dk (T i) (coP (nwL T (j+1)) (j+1- i)) (hd.m _ _ hj ω);have hsu:=kU (nwS T (nwL T (j+1)) (j+1) i) (T i* coP (nwL T (j+1)) (j+1- i)) (hd.s _ _ hj ω);have l1:(pE (nwL T (j+1))).length=j+1+1:=by simp[pE]
  have l2:(pE (trT T (j+1+1))).length=j+1+1:=by simp[pE]
  refine q_z 1 ?_;refine ac (cT (aj (ac (ah (s_r 6 ?_)))));refine a_2 ?_;refine bm (.load_l rfl rfl g1 TG.h TS.h (nle rfl)) rfl rfl ?_;refine a_z ?_;refine r_d aX 12 ?_;refine a_8 ?_;refine bm (.load_l rfl rfl g2 TG.h TS.h (nle rfl)) rfl rfl ?_;refine c_s (hmu) ?_;refine c_s (hsu) ?_;refine a_1 ?_;refine aq (n_k ?_);refine r_m 2 ?_;refine a_z ?_;refine⟨i+1,ω,ω,?_⟩;rw[dgI.eq_1,nwS];exact s_z [(1,5),(2,6),(3,100003),(4,28),(5,9)] (λhs=>e_7) (λhs=>e_18);have he:i=j+1+1:=ω
  refine q_z 1 ?_;refine ac (cF (ax ⟨(),trivial,?_⟩));subst he;exact s_z [(1,5),(2,6),(3,100003),(4,28),(5,9)] (λhs=>e_7) (λhs=>e_18);rintro _ _;rw[dgI.eq_1];have iJ:=eD (((j+1+1:Nat):Int)) ω;have hq5:qs ((((j+1+1:Nat):Int)):Rat)<=5:=sm8 _ ω;have hov:=oe (nwS T (nwL T (j+1)) (j+1) (j+1+1)) ((((j+1+1:Nat):Int)):Rat) (DU _) (by have:=hd.d _ hj;omega);have l1:(pE (nwL T (j+1))).length=j+1+1:=by simp[pE]
  have hnew:pE (nwL T (j+1))++[qC (nwS T (nwL T (j+1)) (j+1) (j+1+1) / ((((j+1+1:Nat):Int)):Rat))]=pE (nwL T (j+1+1)):=by rw[pE_snoc',<-nwL]
  refine ac (r_d aX 8 ?_);refine c_s (iJ) ?_;refine c_s (hov) ?_;refine a_3 ?_;refine aq (n_k ?_);by_cases hend:j+1+1=k.length;refine q_z 4 ?_;refine cT (ax (⟨rfl,(),rfl,?_⟩));rw[<-hend];show SEntT _ ⟨[(1005,.lptr 1 0 0)],[(1,some ⟨62,1,[[.lsl 3 0 ((j+1+1)+1) none 3]]⟩),(3,some ⟨42,3,pE (nwL T (j+1+1))⟩)],4,60⟩;exact s_t [(1,5),(3,53)];refine q_z 4 ?_;refine cF (aj (⟨j+1+1,⟨ω,rfl⟩,?_⟩));show SEntT _ ⟨[(1002,bKe k),(1005,.lptr 1 0 0),(1006,.lptr 2 0 0),(1020,.clos 215 [] [bM M])],[(1,some ⟨62,1,[[.lsl 3 0 ((j+1)+1+1) none 3]]⟩),(2,some ⟨61,1,[[.lsl 4 0 ((j+1)+1) none 3]]⟩),(3,some ⟨42,3,pE (nwL T ((j+1)+1))⟩),(4,some ⟨42,3,pE (trT T ((j+1)+1))⟩)],5,60⟩;refine SEntT.to2 [(1,5),(2,6),(3,53),(4,100004)] rfl rfl rfl xK (λhs=>?_) (λhs=>?_)
  ·repeat' (first|exact aL|refine az rfl ?_ ?_)
   all_goals (first|((first|exact ao hs (dm k)|exact ao hs hcc))|exact aW)
  ·repeat' (first|exact aB|refine jY rfl rfl rfl rfl ?_ ?_)
   all_goals (first|((first|exact aJ hs hnew (aQ _)|exact ba hs (aQ _)))|exact bG|(refine aA ?_;repeat' (first|exact av|refine am ?_ ?_)))
   all_goals (first|((first|exact ao hs (dm k)|exact ao hs hcc))|exact aW)
 intro j hj hT;cases hT;rintro e u rfl;exact⟨u,trivial,SEnt.refl _⟩;rintro _ _;rw[dgX.eq_1];have hfull:List.take (k.length+1) (List.drop 0 (pE (nwL T k.length)))=pE (nwL T k.length):=by rw[List.drop_zero,List.take_of_length_le (by simp[pE])]
 refine s_r 3 ?_;refine a_1 ?_;refine o_1 (.callS1 rfl rfl rfl (.shut rfl d_n (.nil)) rfl ((by rw[hfull];exact hti))) ?_;refine a_z ?_;exact ai (t_e (aD _))
def opK(k:Ke)(a b:Rat)(u:Lq):Lq:=smK k (rhK k u a b) k.length
theorem DR(k:Ke)(a b:Rat)(u:Lq)(i:Nat):coP (opK k a b u) i=nD (λz=>coP z.1 i* inQ (aT z.2 u) a b) k:=by
 unfold opK;rw[smK_co k _ ψ,zw _ ([],[])];refine qP k.length λj c=>?_
 have d:coP (rhK k u a b) j=inQ (aT (k.getD j ([],[])).2 u) a b:=by
  unfold coP rhK;rw[List.getD_eq_getElem?_getD,List.getD_eq_getElem?_getD,List.getElem?_map,List.getElem?_eq_getElem c];rfl
 rw[d]
theorem opK_lin{k:Ke}{a b c:Rat}{r p q:Lq}(h:∀i,coP r i=coP p i- c* coP q i)(i:Nat):coP (opK k a b r) i=coP (opK k a b p) i- c* coP (opK k a b q) i:=by
 rw[DR,DR,DR];exact yi (λz=>by rw[wK h];grind) k
def opN(k:Ke)(a b:Rat):Nat->Lq->Lq
 |0,u=>u
 |m+1,u=>opK k a b (opN k a b m u)
theorem z6{k:Ke}{a b c:Rat}{r p q:Lq}(h:∀i,coP r i=coP p i- c* coP q i):∀m i,coP (opN k a b m r) i=coP (opN k a b m p) i- c* coP (opN k a b m q) i
 |0,i=>h i
 |m+1,i=>by rw[opN,opN,opN];exact opK_lin (z6 h m) i
theorem JG(k:Ke)(a b:Rat):∀m u,opN k a b (m+1) u=opN k a b m (opK k a b u)
 |0,u=>rfl
 |m+1,u=>by rw[opN,JG k a b m u];rfl
def pwM(k:Ke)(a b:Rat)(m:Nat):Mx:=λi j=>inQ (aT (k.getD i ([],[])).2 (opN k a b m (k.getD j ([],[])).1)) a b
theorem F0(k:Ke)(a b:Rat):pwM k a b 0=maK k a b:=rfl
theorem F3{k0:Ke}{a b:Rat}(B:Lq)(m:Nat):∀(k:Ke) (c o:Lq),c.length=k.length->inQ (aT B (opN k0 a b m (sS k c o))) a b=inQ (aT B (opN k0 a b m o)) a b+nD (λp=>inQ (aT B (opN k0 a b m p.1.1)) a b* p.2) (k.zip c)
 |[],[],o,_=>by rw[sS];show _=_+0;grind
 |p::k,[],_,h=>by cases h
 |[],z::c,_,h=>by cases h
 |p::k,z::c,o,h=>by
  have e:=wK (B:=B) (r:=opN k0 a b m (smF z o p)) (p:=opN k0 a b m o) (q:=opN k0 a b m p.1) (c:= -z) (z6 (λi=>by unfold smF;rw[ic,cJ];grind) m) a b;rw[sS,List.tail_cons,dC,F3 B m k c _ (by simpa using h),e,List.zip_cons_cons,nD];grind
theorem opN_nil{k:Ke}{a b:Rat}(B:Lq)(m:Nat):inQ (aT B (opN k a b m [])) a b=0:=by
 have:=wK (B:=B) (z6 (k:=k) (a:=a) (b:=b) (r:=[]) (p:=[]) (q:=[]) (c:=1) (λi=>by rw[show coP [] i=0 from rfl];grind) m) a b;grind
theorem FZ(k:Ke)(a b:Rat)(m:Nat):mmQ k.length (pwM k a b m) (pwM k a b 0)=pwM k a b (m+1):=funext λi=>funext λj=>by
 unfold mmQ pwM;rw[JG];have h:=F3 (k0:=k) (a:=a) (b:=b) (k.getD i ([],[])).2 m k (rhK k (k.getD j ([],[])).1 a b) [] ψ;rw[opN_nil,Bm (λz:Lq×Lq=>inQ (aT (k.getD i ([],[])).2 (opN k a b m z.1)) a b) ([],[]) k _ ψ] at h;have e:sS k (rhK k (k.getD j ([],[])).1 a b) []=opK k a b (k.getD j ([],[])).1:=by unfold opK smK;rw[List.take_length]
 rw[<-e,h];rw[show∀z:Rat,(0:Rat)+z=z from λz=>by grind];refine qP k.length λt d=>?_
 have c:∀q:Lq,coP (rhK k q a b) t=inQ (aT (k.getD t ([],[])).2 q) a b:=λq=>by
  unfold coP rhK;rw[List.getD_eq_getElem?_getD,List.getElem?_map,List.getD_eq_getElem?_getD,List.getElem?_eq_getElem d];rfl
 rw[c];rfl
section
variable {k:Ke}{a b:Rat}{p:Lq}{t:Nat}
end

structure TmG (k:Ke):Prop where
 l:k.length<=5
 n:∀p∈k,p.1.length<=4/\p.2.length<=4
 b:∀p∈k,bdL p.1 60/\bdL p.2 60
theorem TmK.toG{k:Ke}(h:TmK k):TmG k:=⟨by have:=h.l;omega,h.n,λp hp=>⟨bdL_mono' (h.b p hp).1 ω,bdL_mono' (h.b p hp).2 ω⟩⟩
theorem okKe_G{k:Ke}(h:TmG k):pp k:=by
 refine⟨by have:=h.l;omega,?_,λp hp=>by have:=h.n p hp;omega⟩;rw[List.any_eq_false];intro p hp;have h:=h.n p hp;have a:=bh p.1;have a2:=bh p.2
 have:¬(12< if dt p.2> dt p.1 then dt p.2 else dt p.1):=by
  unfold dt;split <;> omega
 unfold xZ;simpa using this
theorem in_G{p u:Lq}{a b:Rat}{t:Nat}(hp:p.length<=4)(bp:bdL p 60)(hu:u.length<=5)(bu:bdL u t)(ht:1<=t)(ht2:t<=100000000)(qa:qs a<=20)(qb:qs b<=20):ls p u/\OkIn (aT p u) a b/\qs (inQ (aT p u) a b)<=80* t+6000:=by
 have m1:=uY bp bu ω ht;have l1:=wz p u;have e1:p.length* (60+t+1)<=4* (60+t+1):=Nat.mul_le_mul_right _ hp;have m2:=bdL_mono' (b:=4* t+245) m1 ω;have i1:=n8 m2 ω ω;have m:=gS (aT p u);have q:=mxL_le bp ω;have o:=mxL_le bu ht;have l:p.length* (mxL p+mxL u+1)<=4* (60+t+1):=Nat.mul_le_mul hp ω
 have ev:∀y:Rat,qs y<=20->fM (aM (aT p u)) y/\qs (an (aM (aT p u)) y)<=40* t+2871:=λy f=>by
  have k:=iW f i1;have i:=mxL_le i1 ω;have n:(aM (aT p u)).length* (4* t+245+21+20+1)<=10* (4* t+245+21+20+1):=Nat.mul_le_mul_right _ ω;have j:(aM (aT p u)).length* (mxL (aM (aT p u))+qs y+1)<=10* (4* t+287):=Nat.mul_le_mul ω ω;exact⟨⟨ω,ω⟩,ω⟩
 obtain⟨g,e⟩:=ev a qa;obtain⟨d,c⟩:=ev b qb;refine⟨⟨ω,ω,ω,ω⟩,⟨io m2 ω,ω,d,g,ω⟩,?_⟩;have h:=lK (an (aM (aT p u)) b) (an (aM (aT p u)) a);unfold inQ;omega
section
variable {k:Ke}{l a b:Rat}{g:Lq}
end
theorem FH{f:Nat->Rat}{c:Nat}:∀n,(∀t,t< n->qs (f t)<=c)->qs (sQ f n)<=n* (c+1)+1
 |0,_=>by rw[sQ,Nat.zero_mul];decide
 |n+1,h=>by
  have b:=FH n λt d=>h t ω;have a:=h n ω;have e:=e9 (sQ f n) (f n);rw[sQ,Nat.succ_mul];omega
def pwB:Nat->Nat
 |0=>10900
 |m+1=>5* (pwB m+10901)+1
theorem Js{m n:Nat}(h:m<=n):pwB m<=pwB n:=by
 induction n with
 |zero=>rw[show m=0 by omega];exact Nat.le_refl _
 |succ n a=>
  by_cases e:m=n+1;rw[e];exact Nat.le_refl _;have:=a ω;rw[pwB];omega
section
variable {k:Ke}{a b:Rat}
theorem Jr(hk:TmG k)(qa:qs a<=20)(qb:qs b<=20):∀m i j,i< k.length->j< k.length->qs (pwM k a b m i j)<=pwB m
 |0,i,j,d,hj=>by
  have g:∀i,i< k.length->k.getD i ([],[])∈k:=λi d=>by
   rw[List.getD_eq_getElem?_getD,List.getElem?_eq_getElem d];exact List.getElem_mem d
  have h:=(in_G (u:=(k.getD j ([],[])).1) (t:=60) (a:=a) (b:=b) (hk.n _ (g i d)).2 (hk.b _ (g i d)).2 (by have:=(hk.n _ (g j hj)).1;omega) (hk.b _ (g j hj)).1 ω ω qa qb).2.2;rw[show 80* 60+6000=10800 from rfl] at h;rw[show pwB 0=10900 from rfl];show qs (inQ (aT (k.getD i ([],[])).2 (k.getD j ([],[])).1) a b)<=10900;omega
 |m+1,i,j,d,hj=>by
  rw[<-FZ];unfold mmQ;have o:=hk.l
  have h:=FH (f:=λt=>pwM k a b m i t* pwM k a b 0 t j) (c:=pwB m+10900) k.length λt p=>by
   have r:=Jr hk qa qb m i t d p;have q:=Jr hk qa qb 0 t j p hj;have s:=cx (pwM k a b m i t) (pwM k a b 0 t j);rw[show pwB 0=10900 from rfl] at q;omega
  have e:k.length* (pwB m+10900+1)<=5* (pwB m+10900+1):=Nat.mul_le_mul_right _ o;refine Nat.le_trans h ?_;rw[pwB];refine Nat.succ_le_succ (Nat.le_trans e ?_);simp only[Nat.add_assoc,Nat.reduceAdd,Nat.le_refl]
theorem nw_bd{T:Nat->Rat}{τ:Nat}(hT:∀i,i< 5->qs (T i)<=τ)(h1:100<=τ):∀j,j<=5->(∀i,qs (coP (nwL T j) i)<=2^ i* (6* τ))/\(j< 5->∀i,i<=j+1->qs (nwS T (nwL T j) j i)+2^ (j+1- i) * (6* τ)<=i* (τ+1)+1+2^ (j+1) * (6* τ)):=by
 have k:∀i:Nat,6* τ<=2^ i* (6* τ):=λi=>Nat.le_mul_of_pos_left _ (Nat.one_le_pow _ _ ω);have f:qs (0:Rat)<=1:=δ
 have a:∀j,j< 5->(∀i,qs (coP (nwL T j) i)<=2^ i* (6* τ))->∀i,i<=j+1->qs (nwS T (nwL T j) j i)+2^ (j+1- i) * (6* τ)<=i* (τ+1)+1+2^ (j+1) * (6* τ):=λj q c i=>by
  induction i with
  |zero=>
   intro _;rw[nwS,Nat.zero_mul,Nat.sub_zero];have:qs (0:Rat)<=1:=f;omega
  |succ i d=>
   intro b;have g:=d ω;have l:=hT i ω;have u:=c (j- i);have s:=cx (T i) (coP (nwL T j) (j- i));have t:=lK (nwS T (nwL T j) j i) (T i* coP (nwL T j) (j- i));have e1:j+1- i=(j- i)+1:=ω
   have e2:j+1- (i+1)=j- i:=ω
   rw[e1,Nat.pow_succ,Nat.mul_right_comm] at g;have p:(i+1) * (τ+1)=i* (τ+1)+(τ+1):=Nat.succ_mul _ _;rw[nwS,e2,p];omega
 intro j
 induction j with
 |zero=>
  intro _
  have c:∀i,qs (coP (nwL T 0) i)<=2^ i* (6* τ):=λi=>by
   have:=k i;cases i with
   |zero=>exact Nat.le_trans (show qs ((1:Int):Rat)<=1 by decide) ω
   |succ i=>exact Nat.le_trans (show qs (0:Rat)<=1 from f) ω
  exact⟨c,λh=>a 0 h c⟩
 |succ j d=>
  intro q;obtain⟨m,n⟩:=d ω;have o:=n ω (j+1) (Nat.le_refl _)
  have c:∀i,qs (coP (nwL T (j+1)) i)<=2^ i* (6* τ):=λi=>by
   rw[nwL,EW,mO];by_cases b:i< j+1;rw[if_pos b];exact m i;rw[if_neg b];by_cases e:i=j+1;have g:=fL (nwS T (nwL T j) j (j+1)) ((((j+1:Nat):Int)):Rat);have l:=sm8 (j+1) ω;have r:(j+1) * (τ+1)<=5* (τ+1):=Nat.mul_le_mul_right _ ω;rw[Nat.sub_self,Nat.pow_zero,Nat.one_mul] at o;rw[e,Nat.sub_self];show qs (nwS T (nwL T j) j (j+1) / ((((j+1:Nat):Int)):Rat))<=_;omega;have:=k i;rw[ee χ];omega
  exact⟨c,λh=>a (j+1) h c⟩
theorem okDt_G{T:Nat->Rat}{τ n:Nat}(hn:n<=5)(hT:∀i,i< 5->qs (T i)<=τ)(h1:100<=τ)(h2:τ<=80000000):OkDt T n:=by
 have e:∀i:Nat,i<=5->2^ i* (6* τ)<=32* (6* τ):=λi c=>Nat.mul_le_mul_right _ (by
  have:i=0\/i=1\/i=2\/i=3\/i=4\/i=5:=ω
  rcases this with rfl|rfl|rfl|rfl|rfl|rfl <;> decide)
 have a:∀j,j< n->(∀i,qs (coP (nwL T j) (j- i))<=32* (6* τ))/\∀i,i<=j+1->qs (nwS T (nwL T j) j i)<=5* (τ+1)+1+32* (6* τ):=λj b=>by
  obtain⟨k,h⟩:=nw_bd hT h1 j ω;refine⟨λi=>Nat.le_trans (k _) (e _ ω),λi c=>?_⟩;have g:=h ω i c;have f:=e (j+1) ω;have d:i* (τ+1)<=5* (τ+1):=Nat.mul_le_mul_right _ ω;omega
 refine⟨λj i b c=>?_,λj i b c=>?_,λj b=>?_⟩;have f:=(a j b).1 i;have d:=hT i ω;omega;have f:=(a j b).1 i;have d:=hT i ω;have l:=(a j b).2 i ω;have m:=cx (T i) (coP (nwL T j) (j- i));omega;have l:=(a j b).2 (j+1) ω;omega
end
theorem fs_det0(T:Nat->Rat)(a b:Rat):FS 52 [.arr (kE []),.agg (spC a b)] (.arr (pE (ap (nwL T 0)))):=by
 have i1:=eD 1 δ;have c:=dK (nwL T 0) ψ;refine f_n Tryz.func52 ?_ ?_;exact ae (aH []) (ae (aE (bt a b)) af);refine r_z 3 ?_;refine AWp.ent (st':=⟨[(2,bKe []),(3,bSp a b)],[],1,60⟩) ?_ ?_;refine s_x [] (λhs=>?_) (λhs=>?_)
 ·repeat' (first|exact aL|refine az rfl ?_ ?_|exact Cv.boxp hs rfl (aG rfl) rfl (ae (aH []) af)|exact Cv.boxp hs rfl (aG rfl) rfl (bt a b)|exact aW)
 ·repeat' (first|exact aB|refine h_c ?_ ?_|exact bG|refine aA ?_|exact av|refine am ?_ ?_|exact Cv.boxp hs rfl (aG rfl) rfl (ae (aH []) af)|exact Cv.boxp hs rfl (aG rfl) rfl (bt a b)|exact aW)
 refine r_c 4 (i1) ?_;refine a_z ?_;refine r_z 1 ?_;refine ac (s_r 3 ?_);refine a_2 ?_;refine o_0 (.bin rfl rfl (vF jb (rfl))) ?_;refine aq ?_;refine cF (aj (s_r 3 ?_));refine a_1 ?_;refine o_1 (.callS1 rfl rfl rfl (.shut rfl d_n (.nil)) rfl (c)) ?_;refine a_z ?_;exact ai (t_e (aD _))
section
variable {k:Ke}{a b:Rat}
theorem pwB_4{m:Nat}(h:m<=4):pwB m<=15400000:=Nat.le_trans (Js h) δ
theorem ma_G(hk:TmG k)(qa:qs a<=20)(qb:qs b<=20):OkMa k a b:=
 ⟨by have:=hk.l;omega,λp hp q c=>by
  have h:=in_G (u:=q.1) (t:=60) (a:=a) (b:=b) (hk.n p hp).2 (hk.b p hp).2 (by have:=(hk.n q c).1;omega) (hk.b q c).1 ω ω qa qb;exact⟨h.1,h.2.1⟩⟩
def jR(k:Ke)(a b:Rat):Lq:=ap (nwL (λm=>trQ (pwM k a b m) k.length) k.length)
theorem GB(hk:TmG k)(qa:qs a<=20)(qb:qs b<=20):FS 52 [.arr (kE k),.agg (spC a b)] (.arr (pE (jR k a b))):=by
 have g:=hk.l;by_cases r:k.length=0;rw[List.length_eq_zero_iff.1 r];exact fs_det0 _ a b;have bd:∀m i j,m<=4->i< k.length->j< k.length->qs (pwM k a b m i j)<=15400000:=λm i j p d q=>Nat.le_trans (Jr hk qa qb m i j d q) (pwB_4 p)
 have tr:∀m n,m<=4->n<=k.length->qs (trQ (pwM k a b m) n)<=78000000:=λm n p r=>by
  have h:=FH (f:=λt=>pwM k a b m t t) (c:=15400000) n λt o=>bd m t t p ω ω;have e:n* (15400000+1)<=5* (15400000+1):=Nat.mul_le_mul_right _ ω;exact Nat.le_trans h (Nat.le_trans (Nat.succ_le_succ e) (Nat.le_of_ble_eq_true rfl))
 refine fs_detN k a b (pwM k a b) (ma_G hk qa qb) (F0 k a b) ω ω (λj q i d=>?_) (λj q=>?_) (okDt_G (τ:=78000000) g (λi d=>tr i _ ω (Nat.le_refl _)) ω ω);have w:=tr j i ω ω;have u:=bd j i i ω d d;omega;rw[<-FZ];refine fs_mm k.length (pwM k a b j) (pwM k a b 0) ω λi c t d hc o=>?_;have w:=bd j i t ω d o;have u:=bd 0 t c ω o hc;have y:=cx (pwM k a b j i t) (pwM k a b 0 t c)
 have v:=FH (f:=λt=>pwM k a b j i t* pwM k a b 0 t c) (c:=30900000) t λs hs=>by
  have A:=bd j i s ω d ω;have z:=bd 0 s c ω ω hc;have B:=cx (pwM k a b j i s) (pwM k a b 0 s c);omega
 have e:t* (30900000+1)<=5* (30900000+1):=Nat.mul_le_mul_right _ ω;have x:=Nat.le_trans v (Nat.le_trans (Nat.succ_le_succ e) (show 5* (30900000+1)+1<=155000000 from Nat.le_of_ble_eq_true rfl));exact⟨ω,Nat.le_trans (Nat.add_le_add x y) ω⟩
theorem fs_DetG(hk:TmG k)(qa:qs a<=20)(qb:qs b<=20)(ha:sm a)(hb:sm b)(hab:a<=b):FS 12 [.arr (kE k),.agg (spC a b)] (.tup [.arr (pE (jR k a b)),i64 0]):=by
 have d:=o0 k a b (okKe_G hk) ha hb hab;have c:=GB hk qa qb;refine f_n Tryz.func12 ?_ ?_;exact ae (aH k) (ae (aE (bt a b)) af);refine r_z 3 ?_;refine ac (r_c 3 (d) ?_);refine aq ?_;refine cF (aj (r_c 5 (c) ?_));refine a_z ?_;refine ai (Fin.many ⟨_,_,rfl,rfl,⟨_,_,rfl,rfl,rfl⟩⟩ (nle rfl) ?_);exact am (ao aF (aD _)) (am (ao aF (ak _)) av)
end
def tuK(k:Ke):Ke:=k.map λp=>(ap p.2,ap p.1)
@[simp] theorem tuK_length (k:Ke):(tuK k).length=k.length:=by simp[tuK]
theorem sU(f:Nat->Rat):sQ f 0=0/\sQ f 1=f 0/\sQ f 2=f 0+f 1/\sQ f 3=f 0+f 1+f 2:=by
 simp only[sQ];grind
def trE(M:Mx):Nat->Nat->Rat
 |1,0=>M 0 0
 |2,0=>M 0 0+M 1 1
 |2,1=>M 0 0* M 0 0+2* (M 0 1* M 1 0)+M 1 1* M 1 1
 |3,0=>M 0 0+M 1 1+M 2 2
 |3,1=>M 0 0* M 0 0+M 1 1* M 1 1+M 2 2* M 2 2+2* (M 0 1* M 1 0)+2* (M 0 2* M 2 0)+2* (M 1 2* M 2 1)
 |3,2=>M 0 0* M 0 0* M 0 0+M 1 1* M 1 1* M 1 1+M 2 2* M 2 2* M 2 2+3* (M 0 0* (M 0 1* M 1 0)+M 0 0* (M 0 2* M 2 0)+M 1 1* (M 0 1* M 1 0)+M 1 1* (M 1 2* M 2 1)+M 2 2* (M 0 2* M 2 0)+M 2 2* (M 1 2* M 2 1)+M 0 1* M 1 2* M 2 0+M 0 2* M 2 1* M 1 0)
 |_,_=>0
theorem tr_E{k:Ke}{a b:Rat}{n m:Nat}(hn:k.length=n)(h3:n<=3)(hm:m< n):trQ (pwM k a b m) n=trE (maK k a b) n m:=by
 have p1:pwM k a b 1=mmQ n (maK k a b) (maK k a b):=by have:=FZ k a b 0;rw[F0,hn] at this;exact this.symm
 have p2:pwM k a b 2=mmQ n (mmQ n (maK k a b) (maK k a b)) (maK k a b):=by have:=FZ k a b 1;rw[F0,hn,p1] at this;exact this.symm
 generalize d:maK k a b=M at *
 have c:pwM k a b 0=M:=by rw[F0,d]
 rcases(by omega:n=1\/n=2\/n=3) with rfl|rfl|rfl
 obtain rfl:m=0:=ω
 rw[c];unfold trQ;rw[(sU _).2.1];rfl;rcases(by omega:m=0\/m=1) with rfl|rfl
 rw[c];unfold trQ;rw[(sU _).2.2.1];rfl;rw[p1];unfold trQ trE mmQ;simp only[(sU _).2.2.1];grind;rcases(by omega:m=0\/m=1\/m=2) with rfl|rfl|rfl
 rw[c];unfold trQ;rw[(sU _).2.2.2];rfl;rw[p1];unfold trQ trE mmQ;simp only[(sU _).2.2.2];grind;rw[p2];unfold trQ trE mmQ;simp only[(sU _).2.2.2];grind
theorem ww{T U:Nat->Rat}:∀n,(∀m,m< n->T m=U m)->nwL T n=nwL U n
 |0,_=>rfl
 |n+1,h=>by
  rw[nwL,nwL,ww n λm b=>h m ω]
  have:∀(o:Lq) (i:Nat),i<=n+1->nwS T o n i=nwS U o n i:=λo i=>by
   induction i with
   |zero=>intro _;rfl
   |succ i a=>intro c;rw[nwS,nwS,a ω,h i ω]
  rw[this _ _ (Nat.le_refl _)]
theorem det_val{k:Ke}{a b l:Rat}{r:Nat->Rat}(h3:k.length<=3):an (jR k a b) l=AT k.length (svM (maK k a b) l r k.length):=by
 unfold jR;rw[cn];have e:=λm (hm:m< k.length)=>tr_E (a:=a) (b:=b) (n:=k.length) rfl h3 hm;rw[ww (U:=trE (maK k a b) k.length) k.length e];clear e;generalize maK k a b=M at *
 generalize k.length=n at *
 rcases(by omega:n=0\/n=1\/n=2\/n=3) with rfl|rfl|rfl|rfl
 simp[nwL,AT,an];grind;simp[nwL,nwS,AT,svM,an,coP,trE];grind;simp[nwL,nwS,AT,svM,an,coP,trE];grind;simp[nwL,nwS,AT,svM,an,coP,trE];grind
def eL(M:Mx):Nat->Lq
 |0=>[1]
 |1=>[1,-M 0 0]
 |2=>[1,-(M 0 0+M 1 1),M 0 0* M 1 1- M 0 1* M 1 0]
 |_=>[1,-(M 0 0+M 1 1+M 2 2),(M 0 0* M 1 1- M 0 1* M 1 0)+(M 0 0* M 2 2- M 0 2* M 2 0)+(M 1 1* M 2 2- M 1 2* M 2 1),-(M 0 0* (M 1 1* M 2 2- M 1 2* M 2 1)- M 0 1* (M 1 0* M 2 2- M 1 2* M 2 0)+M 0 2* (M 1 0* M 2 1- M 1 1* M 2 0))]
theorem nw_e(M:Mx){n:Nat}(h:n<=3):nwL (trE M n) n=eL M n:=by
 rcases(by omega:n=0\/n=1\/n=2\/n=3) with rfl|rfl|rfl|rfl
 rfl;simp[nwL,nwS,trE,coP,eL];grind;simp[nwL,nwS,trE,coP,eL];grind;simp[nwL,nwS,trE,coP,eL];grind
theorem det_e{k:Ke}{a b:Rat}(h3:k.length<=3):jR k a b=ap (eL (maK k a b) k.length):=by
 unfold jR;rw[ww (U:=trE (maK k a b) k.length) k.length λm c=>tr_E rfl h3 c,nw_e _ h3]
theorem eL_bd{M:Mx}{n:Nat}(h3:n<=3)(h:∀i j,i< n->j< n->qs (M i j)<=4200):bdL (eL M n) 64000/\(eL M n).length<=4:=by
 have q1:qs 1<=64000:=δ
 have g:∀i j c b,i< n->j< n->c< n->b< n->qs (M i j* M c b)<=8400:=λi j c b f e h3 l=>by
  have:=cx (M i j) (M c b);have:=h i j f e;have:=h c b h3 l;omega
 have o:∀x y:Rat,qs x<=8400->qs y<=8400->qs (x- y)<=16801:=λx y f e=>by have:=lK x y;omega
 rcases(by omega:n=0\/n=1\/n=2\/n=3) with rfl|rfl|rfl|rfl
 exact⟨λq a=>by rw[List.mem_singleton.1 a];exact q1,by simp[eL]⟩;refine⟨λq a=>?_,by simp[eL]⟩;simp only[eL,List.mem_cons,List.not_mem_nil,or_false] at a;rcases a with rfl|rfl
 exact q1;rw[dJ];exact Nat.le_trans (h 0 0 ω ω) δ;refine⟨λq a=>?_,by simp[eL]⟩;simp only[eL,List.mem_cons,List.not_mem_nil,or_false] at a;rcases a with rfl|rfl|rfl
 exact q1;rw[dJ];have:=e9 (M 0 0) (M 1 1);have:=h 0 0 ω ω;have:=h 1 1 ω ω;omega;exact Nat.le_trans (o _ _ (g _ _ _ _ ω ω ω ω) (g _ _ _ _ ω ω ω ω)) δ;have d:∀i j c b u v m k,i< 3->j< 3->c< 3->b< 3->u< 3->v< 3->m< 3->k< 3->qs (M i j* M c b- M u v* M m k)<=16801:=λi j c b u v m k f e h3 l r w s t=>o _ _ (g _ _ _ _ f e h3 l) (g _ _ _ _ r w s t);refine⟨λq a=>?_,by simp[eL]⟩;simp only[eL,List.mem_cons,List.not_mem_nil,or_false] at a;have a0:=h 0 0 ω ω;have A:=h 1 1 ω ω;have a2:=h 2 2 ω ω;have a3:=h 0 1 ω ω;have a4:=h 0 2 ω ω;rcases a with rfl|rfl|rfl|rfl
 exact q1;rw[dJ];have:=e9 (M 0 0+M 1 1) (M 2 2);have:=e9 (M 0 0) (M 1 1);omega;have d1:=d 0 0 1 1 0 1 1 0 ω ω ω ω ω ω ω ω;have d2:=d 0 0 2 2 0 2 2 0 ω ω ω ω ω ω ω ω;have p:=d 1 1 2 2 1 2 2 1 ω ω ω ω ω ω ω ω;generalize M 0 0* M 1 1- M 0 1* M 1 0=x at *
 generalize M 0 0* M 2 2- M 0 2* M 2 0=y at *
 generalize M 1 1* M 2 2- M 1 2* M 2 1=z at *
 have:=e9 (x+y) z;have:=e9 x y;omega;have d1:=d 1 1 2 2 1 2 2 1 ω ω ω ω ω ω ω ω;have d2:=d 1 0 2 2 1 2 2 0 ω ω ω ω ω ω ω ω;have p:=d 1 0 2 1 1 1 2 0 ω ω ω ω ω ω ω ω;generalize M 1 1* M 2 2- M 1 2* M 2 1=x at *
 generalize M 1 0* M 2 2- M 1 2* M 2 0=y at *
 generalize M 1 0* M 2 1- M 1 1* M 2 0=z at *
 rw[dJ];have:=e9 (M 0 0* x- M 0 1* y) (M 0 2* z);have:=lK (M 0 0* x) (M 0 1* y);have:=cx (M 0 0) x;have:=cx (M 0 1) y;have:=cx (M 0 2) z;omega
theorem ES{k:Ke}{a b:Rat}(hk:TmK k)(qa:qs a<=20)(qb:qs b<=20):bdL (jR k a b) 64000/\(jR k a b).length<=4/\nz (jR k a b)/\ap (jR k a b)=jR k a b:=by
 have c:=hk.l
 obtain⟨e1,e2⟩:=eL_bd (M:=maK k a b) (n:=k.length) c λi j h d=>by
  have m1:k.getD i ([],[])∈k:=by rw[List.getD_eq_getElem?_getD,List.getElem?_eq_getElem h];exact List.getElem_mem h
  have m2:k.getD j ([],[])∈k:=by rw[List.getD_eq_getElem?_getD,List.getElem?_eq_getElem d];exact List.getElem_mem d
  have:=(Gq (t:=20) (a:=a) (b:=b) (hk.n _ m1).2 (hk.b _ m1).2 (Nat.le_trans (hk.n _ m2).1 δ) (hk.b _ m2).1 δ δ qa qb).2.2;unfold maK;exact Nat.le_trans this δ
 rw[det_e c];refine⟨λq m=>e1 q (cz m),Nat.le_trans (bh _) e2,λg=>?_,b6 _⟩
 have f:coP (eL (maK k a b) k.length) 0=1:=by
  rcases(by omega:k.length=0\/k.length=1\/k.length=2\/k.length=3) with e|e|e|e <;> rw[e]<;> rfl
 rw[b6] at g;rw[<-cj,g] at f
 revert f;decide
end Go.Proofs.YtjmkjicckobojaaGreatDoor
