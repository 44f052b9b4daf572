/- Part S30 of the proof. -/
import Derived.Test.YtkhclghbcicapaaGreatDoorS29
set_option linter.all false
namespace Go.Proofs.YtkhclghbcicapaaGreatDoor
open Go.Abs
set_option maxRecDepth 20000
set_option maxHeartbeats 4000000
def epS(k:Ke)(g:Nat)(cap:List AV)(f:List Rat×List Rat→Rat):Nat→AState
 |0=>⟨[(1,.clos g [] cap),(8,.arr (kE k)),(9,i64 k.length),(10,i64 0),(5,.emp)],[],1,22⟩
 |i+1=>⟨[(1,.clos g [] cap),(8,.arr (kE k)),(9,i64 k.length),(10,i64 ((i+1:Nat):Int)),(5,.lsl 1 0 (i+1) none 3)],[(1,some ⟨34,3,pE ((k.take (i+1)).map f)⟩)],2,22⟩
theorem pj(k:Ke)(g:Nat)(cap:List AV)(f:List Rat×List Rat→Rat)(hcap:∀c∈cap,Closed c)(hl:k.length≤1000)(hg:∀p∈k,FS g ((.agg (prC p)::cap).map coe) (.agg (qC (f p)))):FS 69 [.arr (kE k),.clos g [] cap] (.arr (pE (k.map f))):=by
 have o:(kE k).length=k.length:=dU k;have d:Closed (.clos g [] cap):=aQ af hcap;refine f_n Tryz.func69 ?_ ?_;exact ac (aV k) (ac d af);refine r_z 1 ?_;refine r_z 1 ?_;refine ae (r_z 3 ?_);refine aH (fun _:Unit=>⟨[(5,.arr (pE (k.map f)))],[],1,22⟩) (fun _=>True) ?_ ?_;refine aj (aB (epS k g cap f) (fun i=>k.length- i) (fun i=>i≤k.length) 0 (Nat.zero_le _) ?_ ?_);rw[epS.eq_1];exact s_x [] (fun hs=>e_3) (fun hs=>e_45);intro i q;by_cases hlt:i< k.length;obtain⟨p,hp⟩:∃p,k[i]?=some p:=⟨_,List.getElem?_eq_getElem hlt⟩;have h:=hg p (List.mem_of_getElem? hp);have m:(k.take (i+1)).length=i+1:=by rw[List.length_take];omega
 have b:pE ((k.take i).map f)++[qC (f p)]=pE ((k.take (i+1)).map f):=by rw[cw hp,List.map_append,List.map_singleton,j6];rfl
 cases i with
 |zero=>
  have a:(kE k)[((0:Int)).toNat]?=some (prC p):=kX hp _ rfl;rw[epS.eq_1];refine q_z 1 ?_;refine ae (cT (am (ae (aj (s_r 4 ?_)))));refine i_x a ?_;refine l_x a ?_;refine a_z ?_;refine r_m 7 ?_;refine c_s (h) ?_;refine a_z ?_;refine r_m 2 ?_;refine a_z ?_;refine⟨0+1,by omega,by omega,?_⟩;rw[epS.eq_2];rw[←b];refine s_x [(1,5)] (fun hs=>e_3) (fun hs=>?_)
  ·repeat' (first|exact aE|refine h_c ?_ ?_|exact bC hs (aL [f p])|exact bF|refine aC ?_|exact av|refine ah ?_ ?_|exact ak hs (aV k)|exact ak hs d|exact aW)
 |succ i=>
  have a:(kE k)[(((i+1:Nat):Int)).toNat]?=some (prC p):=kX hp _ (by simp);have n:=dJ ((k.take (i+1)).map f);have e:(pE ((k.take (i+1)).map f)).length=i+1:=by simp[pE];omega
  rw[epS.eq_2];refine q_z 1 ?_;refine ae (cT (am (ae (aj (s_r 4 ?_)))));refine i_x a ?_;refine l_x a ?_;refine a_z ?_;refine r_m 7 ?_;refine c_s (h) ?_;refine a_z ?_;refine r_m 2 ?_;refine a_z ?_;refine⟨i+1+1,by omega,by omega,?_⟩;rw[epS.eq_2];refine s_x [(1,5)] (fun hs=>e_3) (fun hs=>?_)
  ·repeat' (first|exact aE|refine h_c ?_ ?_|exact aI hs b (aL _)|exact bF|refine aC ?_|exact av|refine ah ?_ ?_|exact ak hs (aV k)|exact ak hs d|exact aW)
 have j:i=k.length:=by omega
 cases i with
 |zero=>
  have l:k=[]:=List.eq_nil_of_length_eq_zero j.symm;subst l;rw[epS.eq_1];refine q_z 1 ?_;refine ae (cF (ay ⟨(),trivial,?_⟩));exact s_e []
 |succ i=>
  have e:(pE (k.map f)).length=i+1:=by simp[pE];omega
  rw[epS.eq_2,j,List.take_length];refine q_z 1 ?_;refine ae (cF (ay ⟨(),trivial,?_⟩));refine s_x [] (fun hs=>?_) (fun hs=>?_)
  ·repeat' (first|exact aK|refine az rfl ?_ ?_|(refine Cv.shut hs rfl (aM rfl) (by simp) ?_;exact aI hs (by rw[List.drop_zero];exact List.take_of_length_le (by simp)) (aL _))|exact aW)
  ·repeat' (first|exact aE|refine h_c ?_ ?_|exact bF|refine aC ?_|exact av|refine ah ?_ ?_|(refine Cv.shut hs rfl (aM rfl) (by simp) ?_;exact aI hs (by rw[List.drop_zero];exact List.take_of_length_le (by simp)) (aL _))|exact aW)
 rintro _ _;refine r_z 2 ?_;exact ai (t_e (ax _))
theorem dw(n:Nat)(A:Mx)(L:List Nat):∀c∈[AV.arr (mE (jE n A)),.arr (lvE L),i64 n],Closed c:=ac (closed_mA _) (ac (aG (cK L)) (ac (ag _) af))
theorem fu(n:Nat)(A:Mx)(L:List Nat):Closed (syV n (A,L)):=aA (dw n A L)
def bSy(n:Nat)(A:Mx)(L:List Nat):AV:= .aptr [[.arr (mE (jE n A)),.arr (lvE L),i64 n]] 0 0
theorem bi(n:Nat)(A:Mx)(L:List Nat):Closed (bSy n A L):=a7 (dw n A L)
theorem rX{L:List Nat}{i c:Nat}(h:L[i]?=some c):∀e:Nat,e=i→(lvE L)[e]?=some [i64 c]:=fun e a=>by
 rw[a,lvE,List.getElem?_map,h];rfl
def onS(A:Mx)(n:Nat)(L:List Nat):Nat→AState
 |i=>⟨[(1,bSy n A L),(3,.lsl 1 0 n (some n) 3),(10,.arr (lvE L)),(11,i64 L.length),(12,i64 i)],[(1,some ⟨34,3,pE (oJ A n L i)⟩)],2,31⟩
theorem r8(A:Mx)(n:Nat)(L:List Nat)(hE:Ech A n n L)(hn:n≤25):FS 68 [syV n (A,L)] (.arr (pE (w6 A n L))):=by
 have o:(lvE L).length=L.length:=jr L;have j:=hE.len2;refine f_n Tryz.func68 ?_ ?_;exact ac (fu n A L) af;refine r_z 2 ?_;refine AWp.ent (st':=⟨[(1,bSy n A L)],[],1,31⟩) ?_ ?_;have:=dw n A L;exact s_f [];refine r_z 4 ?_;refine ae (r_z 4 ?_);refine aH (fun _:Unit=>⟨[(3,.arr (pE (w6 A n L)))],[],1,31⟩) (fun _=>True) ?_ ?_;refine aj (aB (onS A n L) (fun i=>L.length- i) (fun i=>i≤L.length) 0 (Nat.zero_le _) ?_ ?_);rw[onS.eq_1,oneJ_0];refine s_x [(1,3)] (fun hs=>e_1) (fun hs=>?_)
 ·repeat' (first|exact aE|refine h_c ?_ ?_|exact CvLL.zeros hs n|exact bF|refine aC ?_|exact av|refine ah ?_ ?_|exact ak hs (bi n A L)|exact ak hs (aG (cK L))|exact aW)
 intro i q;rw[onS.eq_1];by_cases hlt:i< L.length;obtain⟨c,hc⟩:∃c,L[i]?=some c:=⟨_,List.getElem?_eq_getElem hlt⟩;have d:=hE.lt i c hc;have f:i< n:=by omega
 have e:(lvE L)[((i:Nat):Int).toNat]?=some [i64 c]:=rX hc _ (by simp);have a:(mE (jE n A))[((i:Nat):Int).toNat]?=some [.arr (pE (aS (n+1) (A i)))]:=fP (j4 f) _ (by simp);have b:(pE (aS (n+1) (A i)))[((n:Nat):Int).toNat]?=some (qC (A i n)):=ea (by omega) _ (by simp);have m:(mE (jE n A)).length=n:=by simp
 have p:(pE (aS (n+1) (A i))).length=n+1:=by simp[pE]
 have l:(pE (oJ A n L i)).length=n:=by simp[pE]
 obtain⟨r,g⟩:=FU (A:=A) (L:=L) (i:=i) d (0+((c:Nat):Int).toNat) (by omega);refine q_z 1 ?_;refine ae (cT (am (ae (aj (s_r 5 ?_)))));refine a_1 ?_;refine i_x e ?_;refine l_1 e ?_;refine a_z ?_;refine r_d aY 13 ?_;refine a_5 ?_;refine i_x a ?_;refine l_1 a ?_;refine a_2 ?_;refine i_x b ?_;refine l_x b ?_;refine a_1 ?_;refine dX (.store rfl rfl g rfl rfl rfl TS.h (nle rfl)) ?_;refine ao (n_k ?_);refine r_m 2 ?_;refine a_z ?_;refine⟨i+1,by omega,by omega,?_⟩;rw[onS.eq_1];refine s_x [] (fun hs=>e_1) (fun hs=>?_)
 ·repeat' (first|exact aE|refine h_c ?_ ?_|exact aI hs (oneJ_s hE hc d (0+((c:Nat):Int).toNat) (by omega)) (aL _)|exact bF|refine aC ?_|exact av|refine ah ?_ ?_|exact ak hs (bi n A L)|exact ak hs (aG (cK L))|exact aW)
 have k:i=L.length:=by omega
 refine q_z 1 ?_;refine ae (cF (ay ⟨(),trivial,?_⟩));rw[oneJ_n (by omega)];refine s_x [] (fun hs=>?_) (fun hs=>?_)
 ·repeat' (first|exact aK|refine az rfl ?_ ?_|(refine Cv.shut hs rfl (aM rfl) (by simp[pE]) ?_;exact aI hs (by rw[List.drop_zero];exact List.take_of_length_le (by simp[pE])) (aL _))|exact aW)
 ·repeat' (first|exact aE|refine h_c ?_ ?_|exact bF|refine aC ?_|exact av|refine ah ?_ ?_|(refine Cv.shut hs rfl (aM rfl) (by simp[pE]) ?_;exact aI hs (by rw[List.drop_zero];exact List.take_of_length_le (by simp[pE])) (aL _))|exact aW)
 rintro _ _;refine r_z 2 ?_;exact ai (t_e (ax _))
theorem Ep(A:Mx)(n:Nat)(L:List Nat)(e:List Rat)(hl:e.length=n+1):FS 123 [.arr (pE e),bSy n A L] (bln (decide (coP e n≠0))):=by
 have b:(pE e).length=e.length:=by simp[pE]
 have a:(pE e)[((n:Nat):Int).toNat]?=some (qC (coP e n)):=by
  have:=b9 (p:=e) (i:=n) (by omega);simp[pE,this]
 refine f_n Tryz.func123 ?_ ?_;exact ac (ax e) (ac (bi n A L) af);refine r_z 1 ?_;refine s_r 8 ?_;refine a_3 ?_;refine i_x a ?_;refine l_x a ?_;refine c_s (ci (coP e n)) ?_;refine a_z ?_;refine ai (aU rfl ?_ ?_);rw[show decide (coP e n≠0)=decide (sgZ (coP e n).num≠0) from decide_eq_decide.2 (not_congr sgZ_num_eq.symm)]
 first|rfl|(congr 1;cases hb:decide (sgZ (coP e n).num=0) with|true=>(have:=of_decide_eq_true hb;simp[this])|false=>(have:=of_decide_eq_false hb;simp[bln,bne,this]))
 exact ag _
theorem mE_el(k:List (List Rat)):∀e∈mE k,e.length=1:=fun e a=>by
 obtain⟨_,_,rfl⟩:=List.mem_map.1 a;rfl
theorem Gu(A:Mx)(n:Nat)(L:List Nat)(hLn:L.length≤n)(hn:n≤25):FS 64 [syV n (A,L)] (bln (lN n A L)):=by
 have c:(lvE L).length=L.length:=jr L
 have hc:=xr ((jE n A).drop L.length) 123 [bSy n A L] (fun e=>decide (coP e n≠0)) (ac (bi n A L) af) (by simp;omega) (fun e d=>Ep A n L e (by
  obtain⟨k,a⟩:=List.mem_iff_getElem?.1 (List.mem_of_mem_drop d)
  have b:k< n:=by
   have:=(List.getElem?_eq_some_iff.1 a).1;simpa using this
  rw[j4 b] at a;cases a;simp)) rfl
 rw[←C2] at hc;refine f_n Tryz.func64 ?_ ?_;exact ac (fu n A L) af;refine r_z 2 ?_;refine AWp.ent (st':=⟨[(1,bSy n A L)],[],1,11⟩) ?_ ?_;have:=dw n A L;exact s_f [];refine s_r 9 ?_;refine a_5 ?_;refine o_0 (.sa_l rfl rfl (l:=L.length) rfl (by simp;omega) te_123.h (mE_el _)) ?_;refine c_s (hc) ?_;refine a_z ?_;exact ai (t_e (ag _))
structure OkSm (k:Ke)(c:List Rat)(i:Nat)(p:List Rat×List Rat):Prop where
 p1:smL p.1
 p2:p.1.length≤1099511627776
 cs:sm (coP c i)
 o1:smL (smK k c i)
 o2:(smK k c i).length≤1099511627776
 s1:smL (aZ p.1 (coP c i))
 s2:(aZ p.1 (coP c i)).length≤1099511627776
def ksS(k:Ke)(c:List Rat):Nat→AState
 |i=>⟨[(1,.arr (pE c)),(5,.arr (pE (smK k c i))),(8,.arr (kE k)),(9,i64 k.length),(10,i64 i)],[],1,26⟩
theorem pf(k:Ke)(c:List Rat)(hc:c.length=k.length)(hl:k.length≤1000)(h:∀i p,k[i]?=some p→OkSm k c i p):FS 67 [.arr (kE k),.arr (pE c)] (.arr (pE (smK k c k.length))):=by
 have e:(kE k).length=k.length:=dU k;refine f_n Tryz.func67 ?_ ?_;exact ac (aV k) (ac (ax c) af);refine r_z 1 ?_;refine r_z 1 ?_;refine ae (r_z 3 ?_);refine aH (fun _:Unit=>⟨[(5,.arr (pE (smK k c k.length)))],[],1,26⟩) (fun _=>True) ?_ ?_;refine aj (aB (ksS k c) (fun i=>k.length- i) (fun i=>i≤k.length) 0 (Nat.zero_le _) ?_ ?_);rw[ksS.eq_1];exact s_x [] (fun hs=>e_48) (fun hs=>e_49);intro i j;rw[ksS.eq_1];by_cases hlt:i< k.length;obtain⟨p,hp⟩:∃p,k[i]?=some p:=⟨_,List.getElem?_eq_getElem hlt⟩;have b:(kE k)[((i:Nat):Int).toNat]?=some (prC p):=kX hp _ (by simp);have g:(pE c).length=k.length:=by simp[pE,hc]
 have a:(pE c)[((i:Nat):Int).toNat]?=some (qC (coP c i)):=by
  have:=b9 (p:=c) (i:=i) (by omega);simp[pE,this]
 have ok:=h i p hp;have h1:=eD p.1 (coP c i) ok.p1 ok.cs ok.p2;have f:=jW (smK k c i) _ ok.o1 ok.s1 ok.o2 ok.s2;refine q_z 1 ?_;refine ae (cT (am (ae (aj (s_r 6 ?_)))));refine a_1 ?_;refine i_x b ?_;refine l_x b ?_;refine a_z ?_;refine r_d aY 10 ?_;refine a_5 ?_;refine i_x a ?_;refine l_x a ?_;refine c_s (h1) ?_;refine c_s (f) ?_;refine a_1 ?_;refine ao (n_k ?_);refine r_m 2 ?_;refine a_z ?_;refine⟨i+1,by omega,by omega,?_⟩;rw[ksS.eq_1,smK_s hp];unfold smF;exact s_x [] (fun hs=>e_48) (fun hs=>e_49);have d:i=k.length:=by omega
 refine q_z 1 ?_;refine ae (cF (ay ⟨(),trivial,?_⟩));rw[d];exact s_e [];rintro _ _;refine r_z 2 ?_;exact ai (t_e (ax _))
def tkC(k:Ke)(l:Rat)(g:List Rat)(a b:Rat):List AV:=eqC k l g++spC a b
theorem c8(k:Ke)(l:Rat)(g:List Rat)(a b:Rat):∀c∈tkC k l g a b,Closed c:=ct (cL k l g) (a6 a b)
def bTk(k:Ke)(l:Rat)(g:List Rat)(a b:Rat):AV:= .aptr [tkC k l g a b] 0 0
theorem cg(k:Ke)(l:Rat)(g:List Rat)(a b:Rat):Closed (bTk k l g a b):=a7 (c8 k l g a b)
theorem fs_sys1(k:Ke)(l:Rat)(g:List Rat)(a b:Rat)(p:List Rat×List Rat)(hm:ef p.2 g)(ho:OkIn (aT p.2 g) a b):
    FS 121 [.agg (prC p),bTk k l g a b] (.agg (qC (inQ (aT p.2 g) a b))):=by
 refine f_n Tryz.func121 ?_ ?_;exact ac (aA (fv p)) (ac (cg k l g a b) af);refine r_z 2 ?_;refine ae (r_d aY 10 ?_);refine c_s (pp p.2 g hm) ?_;refine c_s (lY _ a b ho) ?_;refine a_1 ?_;refine ao (n_k ?_);exact ai (c_e (aP _))
def rhK(k:Ke)(g:List Rat)(a b:Rat):List Rat:=k.map fun p=>inQ (aT p.2 g) a b
@[simp] theorem rhK_length (k:Ke)(g:List Rat)(a b:Rat):(rhK k g a b).length=k.length:=by simp[rhK]
def syM(k:Ke)(l:Rat)(r:List Rat)(a b:Rat):Mx×List Nat:=slM (svM (maK k a b) l (fun t=>coP r t) k.length) k.length k.length
structure OkSy (k:Ke)(l:Rat)(a b:Rat)(s:Nat):Prop where
 m:OkMa k a b
 q:∀i j,i< k.length→j< k.length→qs (maK k a b i j)+qs l+2≤s
 s:slB s k.length≤100000000000
theorem OkSy.le{k:Ke}{l a b:Rat}{s:Nat}(h:OkSy k l a b s):s≤100000000000:=Nat.le_trans (lD (s:=s) (Nat.zero_le k.length)) h.s
theorem OkSy.bd{k:Ke}{l a b:Rat}{s:Nat}(h:OkSy k l a b s){r:List Rat}(hr:∀i,i< k.length→qs (coP r i)≤s):bdM (svM (maK k a b) l (fun t=>coP r t) k.length) k.length s:=fun i j c e=>by
 unfold svM;by_cases e1:j=k.length;rw[if_pos e1];exact hr i c;rw[if_neg e1];have h1:=h.q i j c (by omega);have f:=eu (maK k a b i j) l;split;have d:=kS (-(maK k a b i j* l)) 1;rw[iN] at d;have g:qs 1≤1:=by decide
 omega;rw[iN];omega
theorem sD(k:Ke)(l a b:Rat)(s:Nat)(r:List Rat)(h:OkSy k l a b s)(hrl:r.length=k.length)(hr:∀i,i< k.length→qs (coP r i)≤s):
    XSpec Tryz.prog 91 [.lsl 1 0 k.length (some k.length) 1,.agg (qC l),.arr (pE r)] (mzH 3 35 34 (mzO 3 (fun _=>k.length) (fun x=>x) k.length) (fiL (maK k a b) k.length k.length)) 40 (syV k.length (syM k l r a b)) [] 1:=by
 have n:=h.m.l;have g:=h.le;have f:=h.bd hr;refine DR (maK k a b) l r k.length (slB s k.length) (by omega) hrl h.s (fun i j d e=>by have:=h.q i j d e;omega) (fun i d=>?_) fun c hc i j d e=>Nat.le_trans (Hn f c hc i j d e) (lD hc);have h1:=h.q i i d d;have o:=eu (maK k a b i i) l;rw[iN];omega
theorem kj(k:Ke)(l:Rat)(g:List Rat)(a b:Rat)(s:Nat)(h:OkSy k l a b s)(hr:∀p∈k,ef p.2 g∧OkIn (aT p.2 g) a b∧qs (inQ (aT p.2 g) a b)≤s):
    FS 63 [.agg (tkC k l g a b)] (syV k.length (syM k l (rhK k g a b) a b)):=by
 have f:=h.m.l
 have n:=sD k l a b s (rhK k g a b) h (by simp) fun i d=>by
  have e:coP (rhK k g a b) i=inQ (aT k[i].2 g) a b:=by
   unfold coP rhK;rw[List.getD_eq_getElem?_getD];simp[d]
  rw[e];exact(hr _ (List.getElem_mem d)).2.2
 have j:=pj k 121 [bTk k l g a b] (fun p=>inQ (aT p.2 g) a b) (ac (cg k l g a b) af) (by omega) fun p hp=>fs_sys1 k l g a b p (hr p hp).1 (hr p hp).2.1;have c:Closed (syV k.length (syM k l (rhK k g a b) a b)):=fu _ _ _;refine f_n Tryz.func63 ?_ ?_;exact ac (aA (c8 k l g a b)) af;refine r_z 2 ?_;refine AWp.ent (st':=⟨[(1,bTk k l g a b),(2,.lptr 1 0 0)],[(1,some ⟨125,3,[[.emp,.emp,i64 0]]⟩)],2,18⟩) ?_ ?_;have:=c8 k l g a b;exact s_f [(1,2)];refine ae (AWp.regAB 5 14 8 aY (pS k a b h.m) (n) (c) rfl rfl rfl rfl rfl rfl rfl rfl rfl rfl (by kernel_rfl) rfl rfl rfl ?_);refine AY.op0 (.fieldAddr_a rfl TF.h (by decide)) rfl rfl ?_;refine AY.op0 (.fieldAddr_a rfl TF.h (by decide)) rfl rfl ?_;refine AY.op0 (.load_a1 rfl rfl TG.h rfl) rfl rfl ?_;refine AY.op0 (.fieldAddr_a rfl TF.h (by decide)) rfl rfl ?_;refine AY.op0 (.load_a rfl rfl TG.h TS.h (nle rfl)) rfl rfl ?_;refine AY.sp rfl rfl (kAB.a rfl rfl rfl (ac (aV k) (ac (aA (a6 a b)) af)) rfl) ?_;refine AY.op0 (.fieldAddr_a rfl TF.h (by decide)) rfl rfl ?_;refine AY.op0 (.fieldAddr_a rfl TF.h (by decide)) rfl rfl ?_;refine AY.op0 (.load_a rfl rfl TG.h TS.h (nle rfl)) rfl rfl ?_;refine AY.op0 (.fieldAddr_a rfl TF.h (by decide)) rfl rfl ?_;refine AY.op0 (.fieldAddr_a rfl TF.h (by decide)) rfl rfl ?_;refine AY.op0 (.load_a1 rfl rfl TG.h rfl) rfl rfl ?_;refine AY.op0 (.makeFunc rfl rfl) rfl rfl ?_;refine AY.op0 (.call rfl rfl rfl (j)) rfl rfl ?_
 refine AY.sp rfl rfl (kAB.b rfl rfl (ArgsB.own (ArgsB.clo rfl (aA (a8 l)) (ArgsB.clo rfl (ax _) ArgsB.nil))) rfl) ?_;refine AY.on1 (.store rfl rfl rfl rfl rfl rfl TS.h (nle rfl)) rfl ?_;refine AY.nil ⟨by kernel_rfl,?_⟩;exact ai (c_e (c))
def lm(l:List (List Rat))(k:Nat):Option (List AV):=if k< l.length then some [i64 ((l.length- 1- k:Nat):Int),.arr (pE (l.getD (l.length- 1- k) []))] else none
def bM(l:List (List Rat)):AV:= .aptr [[.arr (mE l)]] 0 0
theorem dj(l:List (List Rat)):Closed (bM l):=a7 (ac (closed_mA l) af)
theorem mE_getD{l:List (List Rat)}{i:Nat}(h:i< l.length):(mE l)[i]?=some [.arr (pE (l.getD i []))]:=by
 refine fP ?_ i rfl;rw[List.getD_eq_getElem?_getD,List.getElem?_eq_getElem h];rfl
theorem y8(l:List (List Rat))(hl:l.length≤281474976710656):GSpec Tryz.prog 161 [bM l] (lm l):=by
 refine GSpec.enter Tryz.func161 rfl (by kernel_rfl) rfl rfl rfl ?_ ?_ rfl ?_;exact ac (dj l) af;intro k xs h;unfold lm at h;split at h;cases h;exact ac (ag _) (ac (ax _) af);cases h;intro b N E;refine GWp.seq ?_;refine GWp.lift ?_;refine r_m 4 ?_;refine a_z ?_;refine GWp.block ?_;refine GWp.loopS (fun m:Nat=>⟨[(0,.v (.func (.yield b) #[] #[])),(1,bM l),(3,i64 ((m:Int)- 1))],[],1,19⟩) (fun m=>l.length- m) (fun m=>m) (fun m=>m≤l.length) l.length (Nat.le_refl _) (by simp) ?_ ?_;have:=dj l;exact s_f [];intro m e;refine GWp.seq ?_;refine GWp.seq ?_;refine GWp.lift ?_;refine r_m 2 ?_;refine a_z ?_;refine GWp.cond rfl (fun h=>?_) (fun h=>?_)
 ·refine GWp.skip ?_
  have c:1≤m:=by have:=of_decide_eq_true h;omega
  have a:(mE l)[((m:Int)- 1).toNat]?=some [.arr (pE (l.getD (m- 1) []))]:=by rw[show((m:Int)- 1).toNat=m- 1 by omega];exact mE_getD (by omega)
  refine GWp.seq ?_;refine GWp.block ?_;refine GWp.seq ?_;refine GWp.regY (fr2:=[(0,.v (.func (.yield b) #[] #[])),(1,bM l),(3,i64 ((m:Int)- 1)),(11,.v (.func (.yield b) #[] #[])),(12,i64 ((m:Int)- 1)),(16,.arr (pE (l.getD (m- 1) [])))]) (hp2:=[]) (nx2:=1) 6 rfl rfl rfl rfl rfl rfl ?_ rfl rfl rfl ?_ ?_ ?_;refine o_0 (.move rfl) ?_;refine o_0 (.move rfl) ?_;refine aO (.load_a1 rfl rfl TG.h rfl) rfl rfl ?_;refine o_0 (.move rfl) ?_;refine i_x a ?_;refine l_1 a ?_;refine ao ?_;have:=dj l;exact s_t [];rotate_left 2;intro d;refine o_0 (.un rfl kL) ?_;refine ao ?_;rotate_left;unfold lm;rw[if_pos (by omega)];have e1:((l.length- 1- (l.length- m):Nat):Int)=(m:Int)- 1:=by omega
  have e2:l.length- 1- (l.length- m)=m- 1:=by omega
  rw[e1,e2];rfl;exact ac (ag _) (ac (ax _) af);cases d with
  |false=>
   refine GWp.cond rfl (fun h=>?_) (fun h=>?_);exact GWp.ret ⟨.inr rfl,fun h=>by cases h⟩;cases h
  |true=>
   refine GWp.cond rfl (fun h=>?_) (fun h=>?_);cases h;refine GWp.skip ?_;refine GWp.lift ?_;refine r_m 3 ?_;refine a_z ?_;refine⟨rfl,m- 1,by omega,by omega,by omega,?_⟩;have:=dj l;exact s_f []
 refine GWp.exit ⟨.inl rfl,fun _=>?_⟩;have:m=0:=by have:=of_decide_eq_false h;omega
 subst this;unfold lm;rw[if_neg (by omega)]
theorem zw(l:List (List Rat)):FS 127 [.arr (mE l)] (.clos 161 [] [bM l]):=by
 refine f_c Tryz.func127 ?_;refine r_z 2 ?_;refine r_z 2 ?_;refine ai (⟨.inr rfl,[_],⟨_,[],rfl,rfl,rfl⟩,?_⟩);exact Cv.clos av (ah (Cv.boxp aD rfl (fun _ _ h=>by cases h) rfl (ac (closed_mA l) af)) av)
theorem Bw(p:List Rat)(hp:p.length≤1099511627776):FS 66 [.arr (pE p),.arr (mE [])] (.arr (pE (aq p))):=by
 have hb:=zw [];have b:=y8 [] (by simp);have ht:=dc p hp;refine f_c Tryz.func66 ?_;refine r_z 2 ?_;refine ae (r_c 2 (hb) ?_);refine ao ?_;refine aH (fun _:Unit=>⟨[(2,.lptr 1 0 0)],[(1,some ⟨36,1,[[.arr (pE p)]]⟩)],2,28⟩) (fun _=>True) ?_ ?_;refine aj (AWp.rangeFunc (α:=Unit) (γ:=Empty) 0 (fun _=>⟨[(2,.lptr 1 0 0),(9,.clos 161 [] [bM []])],[(1,some ⟨36,1,[[.arr (pE p)]]⟩)],2,28⟩) (fun _=>0) (fun _=>True) (fun e=>nomatch e) (fun _ e=>nomatch e) () rfl b rfl rfl ?_ (fun _=>⟨rfl,rfl⟩) (fun e=>nomatch e) trivial rfl (fun _ _=>Nat.le_refl _) ?_ ?_ ?_ ?_ (fun _ e=>nomatch e));intro k xs a;exact absurd a (by unfold lm;simp);refine s_y [(1,2)] (fun hs=>?_) (fun hs=>?_)
 ·repeat' (first|exact aK|refine az rfl ?_ ?_|exact ak hs (aQ af (ac (dj []) af))|exact aW)
 ·repeat' (first|exact aE|refine h_c ?_ ?_|exact bF|refine aC ?_|exact av|refine ah ?_ ?_|exact ak hs (aQ af (ac (dj []) af))|exact aW)
 exact ac (dj []) af;intro l k xs c a;exact absurd a (by unfold lm;simp);intro k c a;refine⟨(),trivial,?_⟩;exact s_e [];rintro _ _;refine r_c 3 (ht) ?_;refine a_z ?_;exact ai (t_e (ax _))
def ixS(L:List Nat)(f:Nat):Nat→AState
 |i=>⟨[(0,.arr (lvE L)),(1,i64 f),(7,i64 L.length),(8,i64 i)],[],1,19⟩
theorem EG(L:List Nat)(f:Nat)(hl:L.length≤1099511627776):FS 194 [.arr (lvE L),i64 f] (i64 (ju (fun c:Nat=>((f:Int)==(c:Int))) L 0)):=by
 have g:(lvE L).length=L.length:=jr L;refine f_n Tryz.func194 ?_ ?_;exact ac (aG (cK L)) (ac (ag _) af);obtain⟨R,e⟩:∃R,R=ju (fun c:Nat=>((f:Int)==(c:Int))) L 0:=⟨_,rfl⟩;rw[←e];refine r_z 1 ?_;refine ae (r_z 3 ?_);refine aH (fun _:Unit=>⟨[],[],1,19⟩) (fun _=>R= -1) ?_ ?_;refine aj (aB (ixS L f) (fun i=>L.length- i) (fun i=>i≤L.length∧ju (fun c:Nat=>((f:Int)==(c:Int))) (L.drop i) i=R) 0 ⟨Nat.zero_le _,by rw[e];rfl⟩ ?_ ?_);simp only[ixS.eq_1];have:=(aG (cK L));exact s_f [];rintro i ⟨h,a⟩;rw[ixS.eq_1];by_cases hlt:i< L.length;refine q_z 1 ?_;refine ae (cT (am ?_));obtain⟨c,hc⟩:∃c,L[i]?=some c:=⟨_,List.getElem?_eq_getElem hlt⟩;have b:(lvE L)[((i:Nat):Int).toNat]?=some [i64 c]:=rX hc _ (by simp);rw[xO hc,ju] at a;refine ae (aj (r_z 2 ?_));refine s_r 6 ?_;refine a_3 ?_;refine i_x b ?_;refine l_1 b ?_;refine a_z ?_;refine ap rfl (fun h1=>?_) (fun h1=>?_);rw[if_pos h1] at a;refine r_z 2 ?_;refine ai (aU rfl ?_ ?_);rw[←a];exact ag _;rw[if_neg (by rw[h1];decide)] at a;refine am (r_m 2 ?_);refine a_z ?_;refine⟨i+1,by omega,⟨hlt,a⟩,?_⟩;simp only[ixS.eq_1];have:=(aG (cK L));exact s_f [];have d:i=L.length:=by omega
 subst d;refine q_z 1 ?_;refine ae (cF ?_);rw[List.drop_length] at a;refine ay ⟨(),a.symm,?_⟩;exact s_e [];rintro _ a;refine r_z 1 ?_;refine ai (aU rfl ?_ ?_);rw[a];rfl;exact ag _
theorem pP(f:Nat):∀L:List Nat,L.any (fun c:Nat=>((f:Int)==(c:Int)))=L.contains f
 |[]=>rfl
 |a::L=>by
  rw[List.any_cons,pP f L,List.contains_cons];refine congrArg (· ||L.contains f) ?_;cases hb:(f==a) with
  |true=>rw[eq_of_beq hb];exact beq_self_eq_true _
  |false=>
   have h1:¬f=a:=fun e=>by rw[e] at hb;simp at hb
   exact beq_eq_false_iff_ne.2 (by omega)
theorem pr(L:List Nat)(f:Nat)(hl:L.length≤1099511627776):FS 160 [.arr (lvE L),i64 f] (bln (L.contains f)):=by
 have e:=o0 (fun c:Nat=>((f:Int)==(c:Int))) L 0 (Int.le_refl 0);rw[pP] at e;have a:=EG L f hl;refine f_n Tryz.func160 ?_ ?_;exact ac (aG (cK L)) (ac (ag _) af);refine r_z 1 ?_;refine r_c 5 (a) ?_;refine a_z ?_;refine ai (aU rfl ?_ ?_);rw[←e];rfl;exact ag _
def z0S(A:Mx)(n:Nat)(L:List Nat):Nat→AState
 |f=>⟨[(1,bSy n A L),(3,.emp),(9,i64 n),(10,i64 f)],[],1,51⟩
theorem Ej(A:Mx)(n:Nat)(L:List Nat)(hn:n≤25)(hLn:L.length≤n)(hL:∀f,f< n→L.contains f=true):FS 126 [syV n (A,L)] (.arr (mE [])):=by
 refine f_n Tryz.func126 ?_ ?_;exact ac (fu n A L) af;refine r_z 2 ?_;refine AWp.ent (st':=⟨[(1,bSy n A L)],[],1,51⟩) ?_ ?_;have:=dw n A L;exact s_f [];refine r_z 1 ?_;refine ae (r_z 3 ?_);refine aH (fun _:Unit=>⟨[(3,.emp)],[],1,51⟩) (fun _=>True) ?_ ?_;refine aj (aB (z0S A n L) (fun f=>n- f) (fun f=>f≤n) 0 (Nat.zero_le _) ?_ ?_);rw[z0S.eq_1];have:=bi n A L;exact s_f [];intro f hf;rw[z0S.eq_1];by_cases hlt:f< n;have hc:=pr L f (by omega);rw[hL f hlt] at hc;refine q_z 1 ?_;refine ae (cT (am (ae (aj (r_z 2 ?_)))));refine ae (r_c 4 (hc) ?_);refine ao ?_;refine cT (ay (r_m 2 ?_));refine a_z ?_;refine⟨f+1,by omega,by omega,?_⟩;rw[z0S.eq_1];have:=bi n A L;exact s_f [];refine q_z 1 ?_;refine ae (cF (ay ⟨(),trivial,?_⟩));exact s_e [];rintro _ _;refine r_z 2 ?_;exact ai (Fin.tmpN rfl)
theorem Eu(g:Nat)(bn:List AV)(hb:∀c∈bn,Closed c):FS 125 [.arr (mE []),.clos g bn []] (.arr (mE [])):=by
 have a:Closed (.clos g bn []):=aQ hb af;refine f_c Tryz.func125 ?_;refine r_z 1 ?_;refine r_z 1 ?_;refine ae (r_z 3 ?_);refine aH (fun _:Unit=>⟨[(5,.emp)],[],1,22⟩) (fun _=>True) ?_ ?_;refine aj (aB (fun _:Unit=>⟨[(5,.emp),(9,i64 0),(10,i64 0)],[],1,22⟩) (fun _=>0) (fun _=>True) () trivial ?_ ?_);exact s_e [];rintro _ _;refine q_z 1 ?_;refine ae (cF (ay ⟨(),trivial,?_⟩));exact s_e [];rintro _ _;refine r_z 2 ?_;exact ai (Fin.tmpN rfl)
theorem zn:FS 124 [.arr (mE [])] (.arr (mE [])):=by
 refine f_c Tryz.func124 ?_;refine r_z 1 ?_;refine r_z 1 ?_;refine ae (r_z 3 ?_);refine aH (fun _:Unit=>⟨[(3,.emp)],[],1,49⟩) (fun _=>True) ?_ ?_;refine aj (aB (fun _:Unit=>⟨[(3,.emp),(8,i64 0),(9,i64 0)],[],1,49⟩) (fun _=>0) (fun _=>True) () trivial ?_ ?_);exact s_e [];rintro _ _;refine q_z 1 ?_;refine ae (cF (ay ⟨(),trivial,?_⟩));exact s_e [];rintro _ _;refine r_z 2 ?_;exact ai (Fin.tmpN rfl)
theorem Gy(k:Ke)(l:Rat)(g:List Rat)(a b:Rat)(A:Mx)(n:Nat)(L:List Nat)(hz:FS 126 [syV n (A,L)] (.arr (mE []))):FS 65 [.agg (tkC k l g a b),syV n (A,L)] (.arr (mE [])):=by
 have h1:=Eu 67 [.arr (kE k)] (ac (aV k) af);have c:=zn;refine f_n Tryz.func65 ?_ ?_;exact ac (aA (c8 k l g a b)) (ac (fu n A L) af);refine r_z 3 ?_;refine AWp.ent (st':=⟨[(2,bTk k l g a b),(3,bSy n A L)],[],1,13⟩) ?_ ?_;refine s_x [] (fun hs=>?_) (fun hs=>?_)
 ·repeat' (first|exact aK|refine az rfl ?_ ?_|exact Cv.boxp hs rfl (aM rfl) rfl (c8 k l g a b)|exact Cv.boxp hs rfl (aM rfl) rfl (dw n A L)|exact aW)
 ·repeat' (first|exact aE|refine h_c ?_ ?_|exact bF|refine aC ?_|exact av|refine ah ?_ ?_|exact Cv.boxp hs rfl (aM rfl) rfl (c8 k l g a b)|exact Cv.boxp hs rfl (aM rfl) rfl (dw n A L)|exact aW)
 refine ae (r_d aY 9 ?_);refine c_s (hz) ?_;refine c_s (h1) ?_;refine c_s (c) ?_;refine a_1 ?_;refine ao (n_k ?_);exact ai (t_e (closed_mA _))
def ly(k:Ke)(l:Rat)(g:List Rat)(a b:Rat):List Rat:=w6 (syM k l (rhK k g a b) a b).1 k.length (syM k l (rhK k g a b) a b).2
def syU(k:Ke)(l:Rat)(g:List Rat)(a b:Rat):List Rat:=fa g (aZ (smK k (ly k l g a b) k.length) l)
structure OkTa (k:Ke)(l:Rat)(g:List Rat)(a b:Rat)(s:Nat):Prop where
 ke:qj k
 ha:sm a
 hb:sm b
 ab:a≤b
 dg:bv g≤20
 gl:g.length≤1099511627776
 sy:OkSy k l a b s
 rh:∀p∈k,ef p.2 g∧OkIn (aT p.2 g) a b∧qs (inQ (aT p.2 g) a b)≤s
structure OkSu (k:Ke)(l:Rat)(g:List Rat)(a b:Rat):Prop where
 ms:∀i p,k[i]?=some p→OkSm k (ly k l g a b) i p
 u1:smL (smK k (ly k l g a b) k.length)
 u2:(smK k (ly k l g a b) k.length).length≤1099511627776
 sl:sm l
 sg:smL g
 v1:smL (aZ (smK k (ly k l g a b) k.length) l)
 v2:(aZ (smK k (ly k l g a b) k.length) l).length≤1099511627776
theorem OkTa.none{k:Ke}{l:Rat}{g:List Rat}{a b:Rat}{s:Nat}(h:OkTa k l g a b s):FS 64 [syV k.length (syM k l (rhK k g a b) a b)] (bln (lN k.length (syM k l (rhK k g a b) a b).1 (syM k l (rhK k g a b) a b).2)):=
 Gu (syM k l (rhK k g a b) a b).1 k.length (syM k l (rhK k g a b) a b).2 (ei _ _ _).len (by have:=h.ke.1;omega)
theorem Ey(k:Ke)(l:Rat)(g:List Rat)(a b:Rat)(s:Nat)(h:OkTa k l g a b s)(h2:OkSu k l g a b)(hL:∀f,f< k.length→(syM k l (rhK k g a b) a b).2.contains f=true)(hN:lN k.length (syM k l (rhK k g a b) a b).1 (syM k l (rhK k g a b) a b).2=false)(hu:(syU k l g a b).length≤1099511627776):
    FS 19 [.agg (eqC k l g),.agg (spC a b)] (.tup [.arr (pE (aq (syU k l g a b))),.arr (mE []),i64 0]):=by
 have m:=h.ke.1;have o:=eR k l g a b h.ke h.ha h.hb h.ab h.dg h.gl;have hs:=kj k l g a b s h.sy h.rh;have j:=h.none;rw[hN] at j;have n:=Ej (syM k l (rhK k g a b) a b).1 k.length (syM k l (rhK k g a b) a b).2 (by omega) (ei _ _ _).len hL;have hf:=Gy k l g a b _ _ _ n;have p:=r8 (syM k l (rhK k g a b) a b).1 k.length (syM k l (rhK k g a b) a b).2 (ei _ _ _) (by omega);have d:=pf k (ly k l g a b) (by unfold ly;simp) (by omega) h2.ms;have c:=eD _ l h2.u1 h2.sl h2.u2;have e:=jW g _ h2.sg h2.v1 h.gl h2.v2;have i:=Bw (syU k l g a b) hu;refine f_n Tryz.func19 ?_ ?_;exact ac (aA (cL k l g)) (ac (aA (a6 a b)) af);refine r_z 5 ?_;refine r_z 5 ?_;refine AWp.ent (st':=⟨[(7,bTk k l g a b)],[],1,38⟩) ?_ ?_;have:=c8 k l g a b;exact s_f [];refine ae (r_c 2 (o) ?_);refine ao ?_;refine cF (am (r_c 4 (hs) ?_));refine a_z ?_;refine AWp.ent (st':=⟨[(7,bTk k l g a b),(8,bSy k.length (syM k l (rhK k g a b) a b).1 (syM k l (rhK k g a b) a b).2)],[],1,38⟩) ?_ ?_;exact s_x [] (fun hs=>e_20) (fun hs=>e_21);refine ae (r_c 2 (j) ?_);refine ao ?_;refine cF (am (r_c 4 (hf) ?_));refine a_z ?_;refine ae (r_d aY 20 ?_);refine c_s (p) ?_;refine c_s (d) ?_;refine c_s (c) ?_;refine c_s (e) ?_;refine c_s (i) ?_;refine a_4 ?_;refine ao (n_k ?_);refine ai (Fin.many ⟨_,_,rfl,rfl,⟨_,_,rfl,rfl,⟨_,_,rfl,rfl,rfl⟩⟩⟩ (nle rfl) ?_);exact ah (ak aD (ax _)) (ah (ak aD (closed_mA _)) (ah (ak aD (ag _)) av))
theorem vI(k:Ke)(l:Rat)(g:List Rat)(a b:Rat)(s:Nat)(h:OkTa k l g a b s)(hN:lN k.length (syM k l (rhK k g a b) a b).1 (syM k l (rhK k g a b) a b).2=true):
    FS 19 [.agg (eqC k l g),.agg (spC a b)] (.tup [.arr (pE []),.arr (mE []),i64 12]):=by
 have d:=h.ke.1;have e:=eR k l g a b h.ke h.ha h.hb h.ab h.dg h.gl;have hs:=kj k l g a b s h.sy h.rh;have c:=h.none;rw[hN] at c;refine f_n Tryz.func19 ?_ ?_;exact ac (aA (cL k l g)) (ac (aA (a6 a b)) af);refine r_z 5 ?_;refine r_z 5 ?_;refine AWp.ent (st':=⟨[(7,bTk k l g a b)],[],1,38⟩) ?_ ?_;have:=c8 k l g a b;exact s_f [];refine ae (r_c 2 (e) ?_);refine ao ?_;refine cF (am (r_c 4 (hs) ?_));refine a_z ?_;refine AWp.ent (st':=⟨[(7,bTk k l g a b),(8,bSy k.length (syM k l (rhK k g a b) a b).1 (syM k l (rhK k g a b) a b).2)],[],1,38⟩) ?_ ?_;exact s_x [] (fun hs=>e_20) (fun hs=>e_21);refine ae (r_c 2 (c) ?_);refine ao ?_;refine cT (r_z 3 ?_);refine ai (Fin.many ⟨_,_,rfl,rfl,⟨_,_,rfl,rfl,⟨_,_,rfl,rfl,rfl⟩⟩⟩ (nle rfl) ?_);exact ah (Cv.emp _) (ah (Cv.emp _) (ah (ak aD (ag _)) av))
def sqR(n:Nat)(A:Mx):List (List Rat):=(List.range n).map fun k=>aS n (A k)
@[simp] theorem sqR_length (n:Nat)(A:Mx):(sqR n A).length=n:=by simp[sqR]
theorem sqR_get{n i:Nat}{A:Mx}(h:i< n):(sqR n A)[i]?=some (aS n (A i)):=by simp[sqR,h]
theorem Dp(n:Nat)(A:Mx):(fiL A n n).map (fun e=>([.arr e]:List AV))=mE (sqR n A):=by
 rw[fiL_rwL,Fu];rfl
theorem BA(k:Ke)(a b:Rat)(h:OkMa k a b):FS 92 [.arr (kE k),.agg (spC a b)] (.arr (mE (sqR k.length (maK k a b)))):=by
 have:=(pS k a b h).shut rfl (ac (aV k) (ac (aA (a6 a b)) af))
  (Cv.mzShut (r:=⟨0,fun i=>i⟩) (show(3:Nat)≠0 by decide) aD (fun _=>rfl) (k4 _ _ _).symm (fun i e h=>by have:=(n4 h).2;subst this;simp[pE]) fun e d x f c hc=>by
   obtain⟨k,_,rfl⟩:=List.mem_map.1 d;exact aL _ x f c hc) (by rw[Dp];exact closed_mA _)
 rw[Dp] at this;exact this
def trQ(A:Mx)(i:Nat):Rat:=sQ (fun t=>A t t) i
def tcS(pM:Nat→Mx)(n ll j:Nat):Nat→AState
 |i=>⟨[(0,.v (.func (.yield ll) #[] #[])),(1,bM (sqR n (pM 0))),(3,.arr (mE (sqR n (pM j)))),(4,.lptr 1 0 0),(11,i64 n),(12,i64 i)],[(1,some ⟨34,3,[qC (trQ (pM j) i)]⟩)],2,29⟩
theorem Eh(pM:Nat→Mx)(n K:Nat)(hn:n≤25)(hs:∀j,j≤K→∀i,i< n→qs (trQ (pM j) i)+qs (pM j i i)≤549755813888)(hmul:∀j,j< K→FS 169 [.arr (mE (sqR n (pM j))),.arr (mE (sqR n (pM 0)))] (.arr (mE (sqR n (pM (j+1)))))):
    GSpecB Tryz.prog 168 [bM (sqR n (pM 0))] (fun j=>some [.agg (qC (trQ (pM j) n))]) K:=by
 refine GSpecB.enter Tryz.func168 rfl (by kernel_rfl) rfl rfl rfl ?_ ?_ rfl ?_;exact ac (dj _) af;intro j xs h;cases h;exact ac (aP _) af;intro ll N hN E;refine GWp.seq ?_;refine GWp.lift ?_;refine r_m 2 ?_;refine a_z ?_;refine GWp.block ?_;refine GWp.loopS (fun j:Nat=>⟨[(0,.v (.func (.yield ll) #[] #[])),(1,bM (sqR n (pM 0))),(3,.arr (mE (sqR n (pM j))))],[],1,29⟩) (fun j=>j) (fun j=>N+1- j) (fun j=>j≤N) 0 (Nat.zero_le _) rfl ?_ ?_;exact s_x [] (fun hs=>e_4) (fun hs=>G3);intro j l;have k:(mE (sqR n (pM j))).length=n:=by simp
 refine GWp.seq ?_;refine GWp.block ?_;refine GWp.seq ?_;refine GWp.lift ?_;refine r_m 1 ?_;refine a_z ?_;refine GWp.seq ?_;refine GWp.seq ?_;refine GWp.lift ?_;refine r_m 3 ?_;refine a_z ?_;refine GWp.cutT (fun _:Unit=>tcS pM n ll j n) (fun _=>True) ?_ ?_;refine aj (aB (tcS pM n ll j) (fun i=>n- i) (fun i=>i≤n) 0 (Nat.zero_le _) ?_ ?_);rw[tcS.eq_1];refine s_x [(1,4)] (fun hs=>e_4) (fun hs=>?_)
 ·repeat' (first|exact aE|refine h_c ?_ ?_|exact CvLL.zeros hs 1|exact bF|refine aC ?_|exact av|refine ah ?_ ?_|exact ak hs (dj _)|exact ak hs (closed_mA _)|exact aW)
 intro i m;rw[tcS.eq_1];by_cases hlt:i< n;have a:(mE (sqR n (pM j)))[((i:Nat):Int).toNat]?=some [.arr (pE (aS n (pM j i)))]:=fP (sqR_get hlt) _ (by simp);have b:(pE (aS n (pM j i)))[((i:Nat):Int).toNat]?=some (qC (pM j i i)):=ea hlt _ (by simp);have f:(pE (aS n (pM j i))).length=n:=by simp[pE]
 have c:=fl (trQ (pM j) i) (pM j i i) (hs j (by omega) i hlt);refine q_z 1 ?_;refine ae (cT (am (ae (aj (r_z 2 ?_)))));refine r_d aY 10 ?_;refine a_3 ?_;refine i_x a ?_;refine l_1 a ?_;refine a_1 ?_;refine i_x b ?_;refine l_x b ?_;refine c_s (c) ?_;refine a_1 ?_;refine ao (n_k ?_);refine r_m 2 ?_;refine a_z ?_;refine⟨i+1,by omega,by omega,?_⟩;rw[tcS.eq_1];exact s_x [] (fun hs=>e_4) (fun hs=>G3);have d:i=n:=by omega
 subst d;refine q_z 1 ?_;refine ae (cF (ay ⟨(),trivial,?_⟩));exact s_x [] (fun hs=>e_4) (fun hs=>G3);rintro _ _;rw[tcS.eq_1];refine GWp.seq ?_;refine GWp.regY (fr2:=[(0,.v (.func (.yield ll) #[] #[])),(1,bM (sqR n (pM 0))),(3,.arr (mE (sqR n (pM j)))),(25,.v (.func (.yield ll) #[] #[])),(26,.agg (qC (trQ (pM j) n)))]) (hp2:=[]) (nx2:=1) 2 rfl rfl rfl rfl rfl rfl ?_ rfl rfl rfl ?_ ?_ ?_;refine o_0 (.move rfl) ?_
 first|refine aO (.load_l rfl rfl rfl TG.h TS.h (nle rfl)) rfl rfl ?_|refine aO (.load_a rfl rfl TG.h TS.h (nle rfl)) rfl rfl ?_
 refine ao ?_;exact s_y [] (fun hs=>e_4) (fun hs=>G3);rotate_left 2;intro g;refine o_0 (.un rfl kL) ?_;refine ao ?_;rotate_left;rfl;exact ac (aP _) af;cases g with
 |false=>
  refine GWp.cond rfl (fun h=>?_) (fun h=>?_);exact GWp.ret ⟨.inr rfl,fun h=>by cases h⟩;cases h
 |true=>
  refine GWp.bound fun e=>?_;refine GWp.cond rfl (fun h=>?_) (fun h=>?_);cases h;refine GWp.skip ?_;refine GWp.lift ?_;refine r_m 4 ?_;refine c_s (hmul j (by omega)) ?_;refine a_z ?_;refine⟨rfl,j+1,by omega,e,rfl,?_⟩;exact s_x [] (fun hs=>e_4) (fun hs=>G3)
theorem El(l:List (List Rat)):FS 137 [.arr (mE l)] (.clos 168 [] [bM l]):=by
 refine f_c Tryz.func137 ?_;refine r_z 2 ?_;refine r_z 2 ?_;refine ai (⟨.inr rfl,[_],⟨_,[],rfl,rfl,rfl⟩,?_⟩);exact Cv.clos av (ah (Cv.boxp aD rfl (fun _ _ h=>by cases h) rfl (ac (closed_mA l) af)) av)
def dtS(k:Ke)(M:List (List Rat)):Unit→AState
 |u=>⟨[(2,bKe k),(5,.lptr 1 0 0),(6,.lptr 2 0 0),(20,.clos 168 [] [bM M])],[(1,some ⟨36,1,[[.lsl 3 0 1 none 3]]⟩),(2,some ⟨35,1,[[.emp]]⟩),(3,some ⟨34,3,[qC ((1:Int):Rat)]⟩)],4,60⟩
theorem dtS_mk(k:Ke)(M:List (List Rat))(u:Unit):dtS k M u=⟨[(2,bKe k),(5,.lptr 1 0 0),(6,.lptr 2 0 0),(20,.clos 168 [] [bM M])],[(1,some ⟨36,1,[[.lsl 3 0 1 none 3]]⟩),(2,some ⟨35,1,[[.emp]]⟩),(3,some ⟨34,3,[qC ((1:Int):Rat)]⟩)],4,60⟩:=rfl
def dtX(c:Rat):Unit→AState
 |u=>⟨[(5,.lptr 1 0 0)],[(1,some ⟨36,1,[[.lsl 3 0 2 none 3]]⟩),(3,some ⟨34,3,[qC ((1:Int):Rat),qC c]⟩)],4,60⟩
def dtI(k:Ke)(t:Rat)(w:Nat→Rat)(i:Nat):AState:=⟨[(2,bKe k),(5,.lptr 1 0 0),(6,.lptr 2 0 0),(8,i64 1),(9,.lptr 5 0 0),(28,.lsl 4 0 1 none 3),(29,i64 1),(30,i64 i),(1005,.lptr 1 0 0)],[(1,some ⟨36,1,[[.lsl 3 0 1 none 3]]⟩),(2,some ⟨35,1,[[.lsl 4 0 1 none 3]]⟩),(3,some ⟨34,3,[qC ((1:Int):Rat)]⟩),(4,some ⟨34,3,[qC t]⟩),(5,some ⟨34,3,[qC (w i)]⟩)],6,60⟩
def dtC(t:Rat):Nat→Rat
 |0=>0
 |_+1=>0- t* ((1:Int):Rat)
def deV(t:Rat):List Rat:=[((1:Int):Rat),dtC t 1/ ((1:Int):Rat)]
theorem fs_det1(p:List Rat×List Rat)(a b:Rat)(h:OkMa [p] a b)(hs:qs (maK [p] a b 0 0)≤100000000000):
    FS 86 [.arr (kE [p]),.agg (spC a b)] (.arr (pE (aq (deV (trQ (maK [p] a b) 1))))):=by
 have i1:=dK 1 (by decide);have hm:=BA [p] a b h;obtain⟨A,hA⟩:∃A,A=maK [p] a b:=⟨_,rfl⟩;rw[←hA] at hm hs⊢;have hq1:qs ((1:Int):Rat)≤1:=by decide
 have hgs:=Eh (fun _=>A) 1 0 (by omega) (fun j hj i hi=>by
  obtain rfl:i=0:=by omega
  show qs (0:Rat)+qs (A 0 0)≤_;have:qs (0:Rat)≤1:=by decide
  omega) (fun j hj=>by omega)
 have htr:=El (sqR 1 A);obtain⟨t,ht⟩:∃t,t=trQ A 1:=⟨_,rfl⟩
 have hqt:qs t≤100000000002:=by
  rw[ht];show qs (0+A 0 0)≤_;have:=kS 0 (A 0 0);have:qs (0:Rat)≤1:=by decide
  omega
 simp only[←ht] at hgs⊢;have hmu:=cU t ((1:Int):Rat) (by omega)
 have hsu:=kZ 0 (t* ((1:Int):Rat)) (by have:=eu t ((1:Int):Rat);have:qs (0:Rat)≤1:=by decide
                                       omega)
 have hov:=pi (dtC t 1) ((1:Int):Rat) (by decide) (by
  have h1:=tn 0 (t* ((1:Int):Rat));have h2:=eu t ((1:Int):Rat);have h3:qs (0:Rat)≤1:=by decide
  show qs (0- t* ((1:Int):Rat))+_≤_;omega)
 have hti:=dc (deV t) (by simp[deV]);refine f_n Tryz.func86 ?_ ?_;exact ac (aV [p]) (ac (aA (a6 a b)) af);refine r_z 3 ?_;refine AWp.ent (st':=⟨[(2,bKe [p]),(3,bSp a b)],[],1,60⟩) ?_ ?_;refine s_x [] (fun hs=>?_) (fun hs=>?_)
 ·repeat' (first|exact aK|refine az rfl ?_ ?_|exact Cv.boxp hs rfl (aM rfl) rfl (ac (aV [p]) af)|exact Cv.boxp hs rfl (aM rfl) rfl (a6 a b)|exact aW)
 ·repeat' (first|exact aE|refine h_c ?_ ?_|exact bF|refine aC ?_|exact av|refine ah ?_ ?_|exact Cv.boxp hs rfl (aM rfl) rfl (ac (aV [p]) af)|exact Cv.boxp hs rfl (aM rfl) rfl (a6 a b)|exact aW)
 refine r_c 4 (i1) ?_;refine a_z ?_;refine r_z 1 ?_;refine ae (s_r 3 ?_);refine a_2 ?_;refine o_0 (.bin rfl rfl (vT kF (rfl))) ?_;refine ao ?_;refine aH (fun _:Unit=>dtX (dtC t 1/ ((1:Int):Rat)) ()) (fun _=>True) ?_ ?_;refine cT (r_c 4 (hm) ?_);refine c_s (htr) ?_;refine ao ?_;refine aj (AWp.rangeFuncB (α:=Unit) (γ:=Unit) 0 (dtS [p] (sqR 1 A)) (fun _=>0) (fun _=>True) (dtX (dtC t 1/ ((1:Int):Rat))) (fun e _=>e= .exit 0) () rfl hgs rfl rfl ?_ (fun _=>⟨rfl,rfl⟩) (fun _=>rfl) trivial rfl (fun _ _=>Nat.le_refl _) ?_ ?_ ?_ ?_ ?_);intro j xs hT;cases hT;rfl;rw[dtS_mk];refine s_y [(1,5),(2,6),(3,13)] (fun hs=>?_) (fun hs=>?_)
 ·repeat' (first|exact aK|refine az rfl ?_ ?_|exact ak hs (eT [p])|exact ak hs (aQ af (ac (dj _) af))|exact aW)
 ·repeat' (first|exact aE|refine h_c ?_ ?_|exact bF|refine aC ?_|exact av|refine ah ?_ ?_|exact ak hs (eT [p])|exact ak hs (aQ af (ac (dj _) af))|exact aW)
 exact ac (dj _) af
 ·intro ll j xs hj hT
  cases hT;show AWp _ _ _ _ ⟨[(21,.agg (qC t)),(2,bKe [p]),(5,.lptr 1 0 0),(6,.lptr 2 0 0),(20,.clos 168 [] [bM (sqR 1 A)]),(1002,bKe [p]),(1005,.lptr 1 0 0),(1006,.lptr 2 0 0),(1020,.clos 168 [] [bM (sqR 1 A)])],[(1,some ⟨36,1,[[.lsl 3 0 1 none 3]]⟩),(2,some ⟨35,1,[[.emp]]⟩),(3,some ⟨34,3,[qC ((1:Int):Rat)]⟩)],4,60⟩;refine r_m 2 ?_;refine a_z ?_;refine aj (s_r 5 ?_);refine a_3 ?_
  first|refine AR.op2 (.append_l rfl rfl rfl te_35.h rfl rfl rfl rfl rfl d_o (by first|exact eE _|exact eA _|exact dJ _|exact eG _|exact er _|assumption|rfl|simp) (by first|rfl|exact eE _|exact eA _|exact dJ _|exact eG _|exact er _|simp) rfl (.lsl rfl (nle rfl)) TZ.h rfl TB.h d_o (by first|(simp[maxLen];done)|(simp[maxLen];omega))) rfl rfl ?_|refine AR.op1 (.append_e rfl rfl rfl te_35.h rfl rfl rfl (.lsl rfl (nle rfl)) (by first|assumption|(simp;done)) TZ.h rfl TB.h d_o (by first|(simp[maxLen];done)|(simp[maxLen];omega))) rfl rfl ?_
  refine a_z ?_;refine r_z 3 ?_;refine r_z 1 ?_;refine ae (r_z 3 ?_);refine aH (fun _:Unit=>dtI [p] t (dtC t) 1) (fun _=>True) ?_ ?_;refine aj (aB (dtI [p] t (dtC t)) (fun i=>1- i) (fun i=>i≤1) 0 (Nat.zero_le _) ?_ ?_);rw[dtI.eq_1];refine s_z [(1,5),(2,6),(3,100003),(4,28),(5,9)] (fun hs=>e_22) (fun hs=>?_)
  ·repeat' (first|exact aE|refine h_c ?_ ?_|exact CvLL.zeros hs 1|exact bF|refine aC ?_|exact av|refine ah ?_ ?_|exact ak hs (eT [p])|exact aW)
  intro i hi;by_cases h1:i< 1;obtain rfl:i=0:=by omega
  rw[dtI.eq_1];refine s_r 1 ?_;refine o_0 (.bin rfl rfl (vT dM (rfl))) ?_;refine ao ?_;refine ae (cT (am (ae (aj (r_z 6 ?_)))));refine r_d aY 12 ?_;refine c_s (hmu) ?_;refine c_s (hsu) ?_;refine a_1 ?_;refine ao (n_k ?_);refine r_m 2 ?_;refine a_z ?_;refine⟨1,by omega,by omega,?_⟩;rw[dtI.eq_1];exact s_z [(1,5),(2,6),(3,100003),(4,28),(5,9)] (fun hs=>e_22) (fun hs=>e_50);obtain rfl:i=1:=by omega
  rw[dtI.eq_1];refine s_r 1 ?_;refine o_0 (.bin rfl rfl (vF dM (rfl))) ?_;refine ao ?_;refine ae (cF (ay ⟨(),trivial,?_⟩));exact s_z [(1,5),(2,6),(3,100003),(4,28),(5,9)] (fun hs=>e_22) (fun hs=>e_50);rintro _ _;rw[dtI.eq_1];refine ae (r_d aY 8 ?_);refine c_s (i1) ?_;refine c_s (hov) ?_;refine a_3 ?_;refine ao (n_k ?_);refine s_r 4 ?_;refine a_3 ?_;refine o_0 (.bin rfl rfl (vT cv (rfl))) ?_;refine ao ?_;refine cT (ay (⟨rfl,(),rfl,?_⟩));show SEntT _ ⟨[(1005,.lptr 1 0 0)],[(1,some ⟨36,1,[[.lsl 3 0 2 none 3]]⟩),(3,some ⟨34,3,[qC ((1:Int):Rat),qC (dtC t 1/ ((1:Int):Rat))]⟩)],4,60⟩;have:=(aL [((1:Int):Rat),dtC t 1/ ((1:Int):Rat)]);exact s_t [(1,5),(3,53)]
 intro j hj hT;cases hT;rintro e u rfl;exact⟨u,trivial,SEnt.refl _⟩;rintro _ _;rw[dtX.eq_1];refine s_r 3 ?_;refine a_1 ?_;refine o_1 (.callS1 rfl rfl rfl (.shut rfl d_n (.nil)) rfl (hti)) ?_;refine a_z ?_;exact ai (t_e (ax _))
theorem fs_Det1(p:List Rat×List Rat)(a b:Rat)(hke:qj [p])(ha:sm a)(hb:sm b)(hab:a≤b)(h:OkMa [p] a b)(hs:qs (maK [p] a b 0 0)≤100000000000):
    FS 34 [.arr (kE [p]),.agg (spC a b)] (.tup [.arr (pE (aq (deV (trQ (maK [p] a b) 1)))),i64 0]):=by
 have d:=vC [p] a b hke ha hb hab;have c:=fs_det1 p a b h hs;refine f_n Tryz.func34 ?_ ?_;exact ac (aV [p]) (ac (aA (a6 a b)) af);refine r_z 3 ?_;refine ae (r_c 3 (d) ?_);refine ao ?_;refine cF (am (r_c 5 (c) ?_));refine a_z ?_;refine ai (Fin.many ⟨_,_,rfl,rfl,⟨_,_,rfl,rfl,rfl⟩⟩ (nle rfl) ?_);exact ah (ak aD (ax _)) (ah (ak aD (ag _)) av)
theorem zc(p:List Rat)(lo hi:Rat)(gr:Int)(v:Sp)(hR:FS 139 [.arr (pE p),.agg (spC lo hi),i64 gr] (.tup [.agg (spC v.1 v.2),i64 0]))(h1:sm v.1)(h2:sm v.2):FS 88 [.agg (spC lo hi++[i64 gr]),.arr (pE p)] (.agg (qC (Cm v))):=by
 have a:∀c∈spC lo hi++[i64 gr],Closed c:=fun c hc=>(List.mem_append.1 hc).elim (a6 lo hi c) (ac (ag _) af c);refine f_c Tryz.func88 ?_;refine r_z 2 ?_;refine r_c 12 (hR) ?_;refine a_z ?_;refine r_c 4 (fs_SAbs v h1 h2) ?_;refine a_z ?_;exact ai (c_e (aP _))
def szC(a b:Rat)(gr:Int):AV:= .clos 88 [.agg (spC a b++[i64 gr])] []
theorem ob(a b:Rat)(gr:Int):Closed (szC a b gr):=aQ (ac (aA fun c hc=>(List.mem_append.1 hc).elim (a6 a b c) (ac (ag _) af c)) af) af
def bSz(a b:Rat)(gr:Int):AV:= .aptr [[szC a b gr]] 0 0
theorem dh(a b:Rat)(gr:Int):Closed (bSz a b gr):=a7 (ac (ob a b gr) af)
theorem fs_Clo1(p:List Rat×List Rat)(a b:Rat)(gr:Int)(v:Rat)(h:FS 88 [.agg (spC a b++[i64 gr]),.arr (pE p.1)] (.agg (qC v))):FS 89 [.agg (prC p),bSz a b gr] (.agg (qC v)):=by
 refine f_n Tryz.func89 ?_ ?_;exact ac (aA (fv p)) (ac (dh a b gr) af);refine r_z 2 ?_;refine r_c 5 (h) ?_;refine a_z ?_;exact ai (c_e (aP _))
theorem fs_Clo2(p:List Rat×List Rat)(a b:Rat)(gr:Int)(v:Rat)(h:FS 88 [.agg (spC a b++[i64 gr]),.arr (pE p.2)] (.agg (qC v))):FS 90 [.agg (prC p),bSz a b gr] (.agg (qC v)):=by
 refine f_n Tryz.func90 ?_ ?_;exact ac (aA (fv p)) (ac (dh a b gr) af);refine r_z 2 ?_;refine r_c 5 (h) ?_;refine a_z ?_;exact ai (c_e (aP _))
end Go.Proofs.YtkhclghbcicapaaGreatDoor
