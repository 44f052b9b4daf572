/- Part V30 of the proof. -/
import Derived.Test.YtdgbhlkabelmbaaGreatDoorV29
set_option linter.all false
namespace Go.Proofs.YtdgbhlkabelmbaaGreatDoor
open Go.Abs
set_option maxRecDepth 20000
set_option maxHeartbeats 4000000
def epS(k:Ke)(g:Nat)(cap:List AV)(f:List Rat×List Rat→Rat):Nat→AState
 |0=>⟨[(1,.clos g [] cap),(8,.arr (kE k)),(9,i64 k.length),(10,i64 0),(5,.emp)],[],1,22⟩
 |i+1=>⟨[(1,.clos g [] cap),(8,.arr (kE k)),(9,i64 k.length),(10,i64 ((i+1:Nat):Int)),(5,.lsl 1 0 (i+1) none 3)],[(1,some ⟨36,3,pE ((k.take (i+1)).map f)⟩)],2,22⟩
theorem uo(k:Ke)(g:Nat)(cap:List AV)(f:List Rat×List Rat→Rat)(hcap:∀c∈cap,Closed c)(hl:k.length≤1000)(hg:∀p∈k,FS g ((.agg (prC p)::cap).map coe) (.agg (qC (f p)))):FS 54 [.arr (kE k),.clos g [] cap] (.arr (pE (k.map f))):=by
 have o:(kE k).length=k.length:=dj k;have e:Closed (.clos g [] cap):=aP af hcap;refine f_n Tryz.func54 ?_ ?_;exact ac (aU k) (ac e af);refine r_z 1 ?_;refine r_z 1 ?_;refine ae (r_z 3 ?_);refine aG (fun _:Unit=>⟨[(5,.arr (pE (k.map f)))],[],1,22⟩) (fun _=>True) ?_ ?_;refine aj (aB (epS k g cap f) (fun i=>k.length- i) (fun i=>i≤k.length) 0 (Nat.zero_le _) ?_ ?_);rw[epS.eq_1];exact s_x [] (fun hs=>e_5) (fun hs=>e_44);intro i q;by_cases hlt:i< k.length;obtain⟨p,hp⟩:∃p,k[i]?=some p:=⟨_,List.getElem?_eq_getElem hlt⟩;have j:=hg p (List.mem_of_getElem? hp);have n:(k.take (i+1)).length=i+1:=by rw[List.length_take];omega
 have b:pE ((k.take i).map f)++[qC (f p)]=pE ((k.take (i+1)).map f):=by rw[cx hp,List.map_append,List.map_singleton,kD];rfl
 cases i with
 |zero=>
  have a:(kE k)[((0:Int)).toNat]?=some (prC p):=kj hp _ rfl;rw[epS.eq_1];refine q_z 1 ?_;refine ae (cT (ak (ae (aj (s_r 4 ?_)))));refine i_x a ?_;refine l_x a ?_;refine a_z ?_;refine r_m 7 ?_;refine c_s (j) ?_;refine a_z ?_;refine r_m 2 ?_;refine a_z ?_;refine⟨0+1,by omega,by omega,?_⟩;rw[epS.eq_2];rw[←b];refine s_x [(1,5)] (fun hs=>e_5) (fun hs=>?_)
  ·repeat' (first|exact aE|refine h_c ?_ ?_|exact a8 hs (aJ [f p])|exact bC|refine az ?_|exact av|refine ah ?_ ?_|exact am hs (aU k)|exact am hs e|exact aV)
 |succ i=>
  have a:(kE k)[(((i+1:Nat):Int)).toNat]?=some (prC p):=kj hp _ (by simp);have m:=cW ((k.take (i+1)).map f);have d:(pE ((k.take (i+1)).map f)).length=i+1:=by simp[pE];omega
  rw[epS.eq_2];refine q_z 1 ?_;refine ae (cT (ak (ae (aj (s_r 4 ?_)))));refine i_x a ?_;refine l_x a ?_;refine a_z ?_;refine r_m 7 ?_;refine c_s (j) ?_;refine a_z ?_;refine r_m 2 ?_;refine a_z ?_;refine⟨i+1+1,by omega,by omega,?_⟩;rw[epS.eq_2];refine s_x [(1,5)] (fun hs=>e_5) (fun hs=>?_)
  ·repeat' (first|exact aE|refine h_c ?_ ?_|exact aI hs b (aJ _)|exact bC|refine az ?_|exact av|refine ah ?_ ?_|exact am hs (aU k)|exact am hs e|exact aV)
 have h:i=k.length:=by omega
 cases i with
 |zero=>
  have l:k=[]:=List.eq_nil_of_length_eq_zero h.symm;subst l;rw[epS.eq_1];refine q_z 1 ?_;refine ae (cF (ay ⟨(),trivial,?_⟩));exact s_e []
 |succ i=>
  have d:(pE (k.map f)).length=i+1:=by simp[pE];omega
  rw[epS.eq_2,h,List.take_length];refine q_z 1 ?_;refine ae (cF (ay ⟨(),trivial,?_⟩));refine s_x [] (fun hs=>?_) (fun hs=>?_)
  ·repeat' (first|exact aN|refine aA rfl ?_ ?_|(refine Cv.shut hs rfl (aM rfl) (by simp) ?_;exact aI hs (by rw[List.drop_zero];exact List.take_of_length_le (by simp)) (aJ _))|exact aV)
  ·repeat' (first|exact aE|refine h_c ?_ ?_|exact bC|refine az ?_|exact av|refine ah ?_ ?_|(refine Cv.shut hs rfl (aM rfl) (by simp) ?_;exact aI hs (by rw[List.drop_zero];exact List.take_of_length_le (by simp)) (aJ _))|exact aV)
 rintro _ _;refine r_z 2 ?_;exact ai (t_e (ax _))
theorem dO(n:Nat)(A:Mx)(L:List Nat):∀c∈[AV.arr (mE (jY n A)),.arr (lvE L),i64 n],Closed c:=ac (closed_mA _) (ac (aH (cO L)) (ac (ag _) af))
theorem fz(n:Nat)(A:Mx)(L:List Nat):Closed (syV n (A,L)):=aC (dO n A L)
def bSy(n:Nat)(A:Mx)(L:List Nat):AV:= .aptr [[.arr (mE (jY n A)),.arr (lvE L),i64 n]] 0 0
theorem bm(n:Nat)(A:Mx)(L:List Nat):Closed (bSy n A L):=ba (dO n A L)
theorem sC{L:List Nat}{i c:Nat}(h:L[i]?=some c):∀e:Nat,e=i→(lvE L)[e]?=some [i64 c]:=fun e a=>by
 rw[a,lvE,List.getElem?_map,h];rfl
def onS(A:Mx)(n:Nat)(L:List Nat):Nat→AState
 |i=>⟨[(1,bSy n A L),(3,.lsl 1 0 n (some n) 3),(10,.arr (lvE L)),(11,i64 L.length),(12,i64 i)],[(1,some ⟨36,3,pE (pa A n L i)⟩)],2,31⟩
theorem sI(A:Mx)(n:Nat)(L:List Nat)(hE:Ech A n n L)(hn:n≤25):FS 41 [syV n (A,L)] (.arr (pE (xt A n L))):=by
 have k:(lvE L).length=L.length:=jH L;have o:=hE.len2;refine f_n Tryz.func41 ?_ ?_;exact ac (fz n A L) af;refine r_z 2 ?_;refine AWp.ent (st':=⟨[(1,bSy n A L)],[],1,31⟩) ?_ ?_;have:=dO n A L;exact s_f [];refine r_z 4 ?_;refine ae (r_z 4 ?_);refine aG (fun _:Unit=>⟨[(3,.arr (pE (xt A n L)))],[],1,31⟩) (fun _=>True) ?_ ?_;refine aj (aB (onS A n L) (fun i=>L.length- i) (fun i=>i≤L.length) 0 (Nat.zero_le _) ?_ ?_);rw[onS.eq_1,oneJ_0];refine s_x [(1,3)] (fun hs=>e_1) (fun hs=>?_)
 ·repeat' (first|exact aE|refine h_c ?_ ?_|exact CvLL.zeros hs n|exact bC|refine az ?_|exact av|refine ah ?_ ?_|exact am hs (bm n A L)|exact am hs (aH (cO L))|exact aV)
 intro i r;rw[onS.eq_1];by_cases hlt:i< L.length;obtain⟨c,hc⟩:∃c,L[i]?=some c:=⟨_,List.getElem?_eq_getElem hlt⟩;have d:=hE.lt i c hc;have g:i< n:=by omega
 have e:(lvE L)[((i:Nat):Int).toNat]?=some [i64 c]:=sC hc _ (by simp);have b:(mE (jY n A))[((i:Nat):Int).toNat]?=some [.arr (pE (aO (n+1) (A i)))]:=gx (jk g) _ (by simp);have a:(pE (aO (n+1) (A i)))[((n:Nat):Int).toNat]?=some (qC (A i n)):=dh (by omega) _ (by simp);have m:(mE (jY n A)).length=n:=by simp
 have j:(pE (aO (n+1) (A i))).length=n+1:=by simp[pE]
 have p:(pE (pa A n L i)).length=n:=by simp[pE]
 obtain⟨q,f⟩:=GK (A:=A) (L:=L) (i:=i) d (0+((c:Nat):Int).toNat) (by omega);refine q_z 1 ?_;refine ae (cT (ak (ae (aj (s_r 5 ?_)))));refine a_1 ?_;refine i_x e ?_;refine l_1 e ?_;refine a_z ?_;refine r_d a6 13 ?_;refine a_5 ?_;refine i_x b ?_;refine l_1 b ?_;refine a_2 ?_;refine i_x a ?_;refine l_x a ?_;refine a_1 ?_;refine dX (.store rfl rfl f rfl rfl rfl TS.h (nle rfl)) ?_;refine ao (n_k ?_);refine r_m 2 ?_;refine a_z ?_;refine⟨i+1,by omega,by omega,?_⟩;rw[onS.eq_1];refine s_x [] (fun hs=>e_1) (fun hs=>?_)
 ·repeat' (first|exact aE|refine h_c ?_ ?_|exact aI hs (oneJ_s hE hc d (0+((c:Nat):Int).toNat) (by omega)) (aJ _)|exact bC|refine az ?_|exact av|refine ah ?_ ?_|exact am hs (bm n A L)|exact am hs (aH (cO L))|exact aV)
 have l:i=L.length:=by omega
 refine q_z 1 ?_;refine ae (cF (ay ⟨(),trivial,?_⟩));rw[oneJ_n (by omega)];refine s_x [] (fun hs=>?_) (fun hs=>?_)
 ·repeat' (first|exact aN|refine aA rfl ?_ ?_|(refine Cv.shut hs rfl (aM rfl) (by simp[pE]) ?_;exact aI hs (by rw[List.drop_zero];exact List.take_of_length_le (by simp[pE])) (aJ _))|exact aV)
 ·repeat' (first|exact aE|refine h_c ?_ ?_|exact bC|refine az ?_|exact av|refine ah ?_ ?_|(refine Cv.shut hs rfl (aM rfl) (by simp[pE]) ?_;exact aI hs (by rw[List.drop_zero];exact List.take_of_length_le (by simp[pE])) (aJ _))|exact aV)
 rintro _ _;refine r_z 2 ?_;exact ai (t_e (ax _))
theorem E3(A:Mx)(n:Nat)(L:List Nat)(e:List Rat)(hl:e.length=n+1):FS 89 [.arr (pE e),bSy n A L] (bln (decide (coP e n≠0))):=by
 have b:(pE e).length=e.length:=by simp[pE]
 have a:(pE e)[((n:Nat):Int).toNat]?=some (qC (coP e n)):=by
  have:=ca (p:=e) (i:=n) (by omega);simp[pE,this]
 refine f_n Tryz.func89 ?_ ?_;exact ac (ax e) (ac (bm n A L) af);refine r_z 1 ?_;refine s_r 8 ?_;refine a_3 ?_;refine i_x a ?_;refine l_x a ?_;refine c_s (cw (coP e n)) ?_;refine a_z ?_;refine ai (aW rfl ?_ ?_);rw[show decide (coP e n≠0)=decide (sgZ (coP e n).num≠0) from decide_eq_decide.2 (not_congr sgZ_num_eq.symm)]
 first|rfl|(congr 1;cases hb:decide (sgZ (coP e n).num=0) with|true=>(have:=of_decide_eq_true hb;simp[this])|false=>(have:=of_decide_eq_false hb;simp[bln,bne,this]))
 exact ag _
theorem mE_el(k:List (List Rat)):∀e∈mE k,e.length=1:=fun e a=>by
 obtain⟨_,_,rfl⟩:=List.mem_map.1 a;rfl
theorem Hu(A:Mx)(n:Nat)(L:List Nat)(hLn:L.length≤n)(hn:n≤25):FS 37 [syV n (A,L)] (bln (jG n A L)):=by
 have d:(lvE L).length=L.length:=jH L
 have hc:=xX ((jY n A).drop L.length) 89 [bSy n A L] (fun e=>decide (coP e n≠0)) (ac (bm n A L) af) (by simp;omega) (fun e c=>E3 A n L e (by
  obtain⟨k,b⟩:=List.mem_iff_getElem?.1 (List.mem_of_mem_drop c)
  have a:k< n:=by
   have:=(List.getElem?_eq_some_iff.1 b).1;simpa using this
  rw[jk a] at b;cases b;simp)) rfl
 rw[←DM] at hc;refine f_n Tryz.func37 ?_ ?_;exact ac (fz n A L) af;refine r_z 2 ?_;refine AWp.ent (st':=⟨[(1,bSy n A L)],[],1,11⟩) ?_ ?_;have:=dO n A L;exact s_f [];refine s_r 9 ?_;refine a_5 ?_;refine o_0 (.sa_l rfl rfl (l:=L.length) rfl (by simp;omega) te_104.h (mE_el _)) ?_;refine c_s (hc) ?_;refine a_z ?_;exact ai (t_e (ag _))
structure OkSm (k:Ke)(c:List Rat)(i:Nat)(p:List Rat×List Rat):Prop where
 p1:smL p.1
 p2:p.1.length≤1099511627776
 cs:sm (coP c i)
 o1:smL (smK k c i)
 o2:(smK k c i).length≤1099511627776
 s1:smL (aX p.1 (coP c i))
 s2:(aX p.1 (coP c i)).length≤1099511627776
def ksS(k:Ke)(c:List Rat):Nat→AState
 |i=>⟨[(1,.arr (pE c)),(5,.arr (pE (smK k c i))),(8,.arr (kE k)),(9,i64 k.length),(10,i64 i)],[],1,26⟩
theorem sJ(k:Ke)(c:List Rat)(hc:c.length=k.length)(hl:k.length≤1000)(h:∀i p,k[i]?=some p→OkSm k c i p):FS 40 [.arr (kE k),.arr (pE c)] (.arr (pE (smK k c k.length))):=by
 have e:(kE k).length=k.length:=dj k;refine f_n Tryz.func40 ?_ ?_;exact ac (aU k) (ac (ax c) af);refine r_z 1 ?_;refine r_z 1 ?_;refine ae (r_z 3 ?_);refine aG (fun _:Unit=>⟨[(5,.arr (pE (smK k c k.length)))],[],1,26⟩) (fun _=>True) ?_ ?_;refine aj (aB (ksS k c) (fun i=>k.length- i) (fun i=>i≤k.length) 0 (Nat.zero_le _) ?_ ?_);rw[ksS.eq_1];exact s_x [] (fun hs=>e_49) (fun hs=>e_50);intro i j;rw[ksS.eq_1];by_cases hlt:i< k.length;obtain⟨p,hp⟩:∃p,k[i]?=some p:=⟨_,List.getElem?_eq_getElem hlt⟩;have a:(kE k)[((i:Nat):Int).toNat]?=some (prC p):=kj hp _ (by simp);have g:(pE c).length=k.length:=by simp[pE,hc]
 have b:(pE c)[((i:Nat):Int).toNat]?=some (qC (coP c i)):=by
  have:=ca (p:=c) (i:=i) (by omega);simp[pE,this]
 have ok:=h i p hp;have h1:=eI p.1 (coP c i) ok.p1 ok.cs ok.p2;have f:=mh (smK k c i) _ ok.o1 ok.s1 ok.o2 ok.s2;refine q_z 1 ?_;refine ae (cT (ak (ae (aj (s_r 6 ?_)))));refine a_1 ?_;refine i_x a ?_;refine l_x a ?_;refine a_z ?_;refine r_d a6 10 ?_;refine a_5 ?_;refine i_x b ?_;refine l_x b ?_;refine c_s (h1) ?_;refine c_s (f) ?_;refine a_1 ?_;refine ao (n_k ?_);refine r_m 2 ?_;refine a_z ?_;refine⟨i+1,by omega,by omega,?_⟩;rw[ksS.eq_1,smK_s hp];unfold smF;exact s_x [] (fun hs=>e_49) (fun hs=>e_50);have d:i=k.length:=by omega
 refine q_z 1 ?_;refine ae (cF (ay ⟨(),trivial,?_⟩));rw[d];exact s_e [];rintro _ _;refine r_z 2 ?_;exact ai (t_e (ax _))
def tkC(k:Ke)(l:Rat)(g:List Rat)(a b:Rat):List AV:=eqC k l g++spC a b
theorem dN(k:Ke)(l:Rat)(g:List Rat)(a b:Rat):∀c∈tkC k l g a b,Closed c:=b8 (cZ k l g) (aY a b)
def bTk(k:Ke)(l:Rat)(g:List Rat)(a b:Rat):AV:= .aptr [tkC k l g a b] 0 0
theorem cy(k:Ke)(l:Rat)(g:List Rat)(a b:Rat):Closed (bTk k l g a b):=ba (dN k l g a b)
theorem fs_sys1(k:Ke)(l:Rat)(g:List Rat)(a b:Rat)(p:List Rat×List Rat)(hm:eS p.2 g)(ho:OkIn (aL p.2 g) a b):
    FS 85 [.agg (prC p),bTk k l g a b] (.agg (qC (inQ (aL p.2 g) a b))):=by
 refine f_n Tryz.func85 ?_ ?_;exact ac (aC (fC p)) (ac (cy k l g a b) af);refine r_z 2 ?_;refine ae (r_d a6 10 ?_);refine c_s (sM p.2 g hm) ?_;refine c_s (rK _ a b ho) ?_;refine a_1 ?_;refine ao (n_k ?_);exact ai (c_e (aT _))
def rhK(k:Ke)(g:List Rat)(a b:Rat):List Rat:=k.map fun p=>inQ (aL p.2 g) a b
@[simp] theorem rhK_length (k:Ke)(g:List Rat)(a b:Rat):(rhK k g a b).length=k.length:=by simp[rhK]
def syM(k:Ke)(l:Rat)(r:List Rat)(a b:Rat):Mx×List Nat:=slM (svM (maK k a b) l (fun t=>coP r t) k.length) k.length k.length
structure OkSy (k:Ke)(l:Rat)(a b:Rat)(s:Nat):Prop where
 m:OkMa k a b
 q:∀i j,i< k.length→j< k.length→qs (maK k a b i j)+qs l+2≤s
 s:slB s k.length≤100000000000
theorem OkSy.le{k:Ke}{l a b:Rat}{s:Nat}(h:OkSy k l a b s):s≤100000000000:=Nat.le_trans (lQ (s:=s) (Nat.zero_le k.length)) h.s
theorem OkSy.bd{k:Ke}{l a b:Rat}{s:Nat}(h:OkSy k l a b s){r:List Rat}(hr:∀i,i< k.length→qs (coP r i)≤s):bdM (svM (maK k a b) l (fun t=>coP r t) k.length) k.length s:=fun i j c e=>by
 unfold svM;by_cases e1:j=k.length;rw[if_pos e1];exact hr i c;rw[if_neg e1];have h1:=h.q i j c (by omega);have f:=dK (maK k a b i j) l;split;have d:=kg (-(maK k a b i j* l)) 1;rw[iW] at d;have g:qs 1≤1:=by decide
 omega;rw[iW];omega
theorem s8(k:Ke)(l a b:Rat)(s:Nat)(r:List Rat)(h:OkSy k l a b s)(hrl:r.length=k.length)(hr:∀i,i< k.length→qs (coP r i)≤s):
    XSpec Tryz.prog 57 [.lsl 1 0 k.length (some k.length) 1,.agg (qC l),.arr (pE r)] (mzH 3 37 36 (mzO 3 (fun _=>k.length) (fun x=>x) k.length) (fiL (maK k a b) k.length k.length)) 40 (syV k.length (syM k l r a b)) [] 1:=by
 have n:=h.m.l;have g:=h.le;have e:=h.bd hr;refine Ez (maK k a b) l r k.length (slB s k.length) (by omega) hrl h.s (fun i j d f=>by have:=h.q i j d f;omega) (fun i d=>?_) fun c hc i j d f=>Nat.le_trans (Io e c hc i j d f) (lQ hc);have h1:=h.q i i d d;have o:=dK (maK k a b i i) l;rw[iW];omega
theorem mY(k:Ke)(l:Rat)(g:List Rat)(a b:Rat)(s:Nat)(h:OkSy k l a b s)(hr:∀p∈k,eS p.2 g∧OkIn (aL p.2 g) a b∧qs (inQ (aL p.2 g) a b)≤s):
    FS 36 [.agg (tkC k l g a b)] (syV k.length (syM k l (rhK k g a b) a b)):=by
 have n:=h.m.l
 have f:=s8 k l a b s (rhK k g a b) h (by simp) fun i d=>by
  have e:coP (rhK k g a b) i=inQ (aL k[i].2 g) a b:=by
   unfold coP rhK;rw[List.getD_eq_getElem?_getD];simp[d]
  rw[e];exact(hr _ (List.getElem_mem d)).2.2
 have j:=uo k 85 [bTk k l g a b] (fun p=>inQ (aL p.2 g) a b) (ac (cy k l g a b) af) (by omega) fun p hp=>fs_sys1 k l g a b p (hr p hp).1 (hr p hp).2.1;have c:Closed (syV k.length (syM k l (rhK k g a b) a b)):=fz _ _ _;refine f_n Tryz.func36 ?_ ?_;exact ac (aC (dN k l g a b)) af;refine r_z 2 ?_;refine AWp.ent (st':=⟨[(1,bTk k l g a b),(2,.lptr 1 0 0)],[(1,some ⟨106,3,[[.emp,.emp,i64 0]]⟩)],2,18⟩) ?_ ?_;have:=dN k l g a b;exact s_f [(1,2)];refine ae (AWp.regAB 5 14 8 a6 (qk k a b h.m) (f) (c) rfl rfl rfl rfl rfl rfl rfl rfl rfl rfl (by kernel_rfl) rfl rfl rfl ?_)
 first|refine AY.op0 (.fieldAddr_l rfl TF.h (by decide)) rfl rfl ?_|refine AY.op0 (.fieldAddr_a rfl TF.h (by decide)) rfl rfl ?_
 first|refine AY.op0 (.fieldAddr_l rfl TF.h (by decide)) rfl rfl ?_|refine AY.op0 (.fieldAddr_a rfl TF.h (by decide)) rfl rfl ?_
 first|refine AY.op0 (.load_l1 rfl rfl rfl TG.h rfl) rfl rfl ?_|refine AY.op0 (.load_a1 rfl rfl TG.h rfl) rfl rfl ?_
 first|refine AY.op0 (.fieldAddr_l rfl TF.h (by decide)) rfl rfl ?_|refine AY.op0 (.fieldAddr_a rfl TF.h (by decide)) rfl rfl ?_
 first|refine AY.op0 (.load_l rfl rfl rfl TG.h TS.h (nle rfl)) rfl rfl ?_|refine AY.op0 (.load_a rfl rfl TG.h TS.h (nle rfl)) rfl rfl ?_
 refine AY.sp rfl rfl (kAB.a rfl rfl rfl (ac (aU k) (ac (aC (aY a b)) af)) rfl) ?_
 first|refine AY.op0 (.fieldAddr_l rfl TF.h (by decide)) rfl rfl ?_|refine AY.op0 (.fieldAddr_a rfl TF.h (by decide)) rfl rfl ?_
 first|refine AY.op0 (.fieldAddr_l rfl TF.h (by decide)) rfl rfl ?_|refine AY.op0 (.fieldAddr_a rfl TF.h (by decide)) rfl rfl ?_
 first|refine AY.op0 (.load_l rfl rfl rfl TG.h TS.h (nle rfl)) rfl rfl ?_|refine AY.op0 (.load_a rfl rfl TG.h TS.h (nle rfl)) rfl rfl ?_
 first|refine AY.op0 (.fieldAddr_l rfl TF.h (by decide)) rfl rfl ?_|refine AY.op0 (.fieldAddr_a rfl TF.h (by decide)) rfl rfl ?_
 first|refine AY.op0 (.fieldAddr_l rfl TF.h (by decide)) rfl rfl ?_|refine AY.op0 (.fieldAddr_a rfl TF.h (by decide)) rfl rfl ?_
 first|refine AY.op0 (.load_l1 rfl rfl rfl TG.h rfl) rfl rfl ?_|refine AY.op0 (.load_a1 rfl rfl TG.h rfl) rfl rfl ?_
 refine AY.op0 (.makeFunc rfl rfl) rfl rfl ?_;refine AY.op0 (.call rfl rfl rfl (j)) rfl rfl ?_;refine AY.sp rfl rfl (kAB.b rfl rfl (ArgsB.own (ArgsB.clo rfl (aC (aZ l)) (ArgsB.clo rfl (ax _) ArgsB.nil))) rfl) ?_;refine AY.on1 (.store rfl rfl rfl rfl rfl rfl TS.h (nle rfl)) rfl ?_;refine AY.nil ⟨by kernel_rfl,?_⟩;exact ai (c_e (c))
def lI(l:List (List Rat))(k:Nat):Option (List AV):=if k< l.length then some [i64 ((l.length- 1- k:Nat):Int),.arr (pE (l.getD (l.length- 1- k) []))] else none
def bM(l:List (List Rat)):AV:= .aptr [[.arr (mE l)]] 0 0
theorem b9(l:List (List Rat)):Closed (bM l):=ba (ac (closed_mA l) af)
theorem mE_getD{l:List (List Rat)}{i:Nat}(h:i< l.length):(mE l)[i]?=some [.arr (pE (l.getD i []))]:=by
 refine gx ?_ i rfl;rw[List.getD_eq_getElem?_getD,List.getElem?_eq_getElem h];rfl
theorem zP(l:List (List Rat))(hl:l.length≤281474976710656):GSpec Tryz.prog 135 [bM l] (lI l):=by
 refine GSpec.enter Tryz.func135 rfl (by kernel_rfl) rfl rfl rfl ?_ ?_ rfl ?_;exact ac (b9 l) af;intro k xs h;unfold lI at h;split at h;cases h;exact ac (ag _) (ac (ax _) af);cases h;intro b N E;refine GWp.seq ?_;refine GWp.lift ?_;refine r_m 4 ?_;refine a_z ?_;refine GWp.block ?_;refine GWp.loopS (fun m:Nat=>⟨[(0,.v (.func (.yield b) #[] #[])),(1,bM l),(3,i64 ((m:Int)- 1))],[],1,19⟩) (fun m=>l.length- m) (fun m=>m) (fun m=>m≤l.length) l.length (Nat.le_refl _) (by simp) ?_ ?_;have:=b9 l;exact s_f [];intro m e;refine GWp.seq ?_;refine GWp.seq ?_;refine GWp.lift ?_;refine r_m 2 ?_;refine a_z ?_;refine GWp.cond rfl (fun h=>?_) (fun h=>?_)
 ·refine GWp.skip ?_
  have c:1≤m:=by have:=of_decide_eq_true h;omega
  have a:(mE l)[((m:Int)- 1).toNat]?=some [.arr (pE (l.getD (m- 1) []))]:=by rw[show((m:Int)- 1).toNat=m- 1 by omega];exact mE_getD (by omega)
  refine GWp.seq ?_;refine GWp.block ?_;refine GWp.seq ?_;refine GWp.regY (fr2:=[(0,.v (.func (.yield b) #[] #[])),(1,bM l),(3,i64 ((m:Int)- 1)),(11,.v (.func (.yield b) #[] #[])),(12,i64 ((m:Int)- 1)),(16,.arr (pE (l.getD (m- 1) [])))]) (hp2:=[]) (nx2:=1) 6 rfl rfl rfl rfl rfl rfl ?_ rfl rfl rfl ?_ ?_ ?_;refine o_0 (.move rfl) ?_;refine o_0 (.move rfl) ?_
  first|refine aF (.load_l1 rfl rfl rfl TG.h rfl) rfl rfl ?_|refine aF (.load_a1 rfl rfl TG.h rfl) rfl rfl ?_
  refine o_0 (.move rfl) ?_;refine i_x a ?_;refine l_1 a ?_;refine ao ?_;have:=b9 l;exact s_t [];rotate_left 2;intro d;refine o_0 (.un rfl lM) ?_;refine ao ?_;rotate_left;unfold lI;rw[if_pos (by omega)];have e1:((l.length- 1- (l.length- m):Nat):Int)=(m:Int)- 1:=by omega
  have e2:l.length- 1- (l.length- m)=m- 1:=by omega
  rw[e1,e2];rfl;exact ac (ag _) (ac (ax _) af);cases d with
  |false=>
   refine GWp.cond rfl (fun h=>?_) (fun h=>?_);exact GWp.ret ⟨.inr rfl,fun h=>by cases h⟩;cases h
  |true=>
   refine GWp.cond rfl (fun h=>?_) (fun h=>?_);cases h;refine GWp.skip ?_;refine GWp.lift ?_;refine r_m 3 ?_;refine a_z ?_;refine⟨rfl,m- 1,by omega,by omega,by omega,?_⟩;have:=b9 l;exact s_f []
 refine GWp.exit ⟨.inl rfl,fun _=>?_⟩;have:m=0:=by have:=of_decide_eq_false h;omega
 subst this;unfold lI;rw[if_neg (by omega)]
theorem Ag(l:List (List Rat)):FS 93 [.arr (mE l)] (.clos 135 [] [bM l]):=by
 refine f_c Tryz.func93 ?_;refine r_z 2 ?_;refine r_z 2 ?_;refine ai (⟨.inr rfl,[_],⟨_,[],rfl,rfl,rfl⟩,?_⟩);exact Cv.clos av (ah (Cv.boxp aD rfl (fun _ _ h=>by cases h) rfl (ac (closed_mA l) af)) av)
theorem Cc(p:List Rat)(hp:p.length≤1099511627776):FS 39 [.arr (pE p),.arr (mE [])] (.arr (pE (aq p))):=by
 have hb:=Ag [];have b:=zP [] (by simp);have ht:=dd p hp;refine f_c Tryz.func39 ?_;refine r_z 2 ?_;refine ae (r_c 2 (hb) ?_);refine ao ?_;refine aG (fun _:Unit=>⟨[(2,.lptr 1 0 0)],[(1,some ⟨38,1,[[.arr (pE p)]]⟩)],2,28⟩) (fun _=>True) ?_ ?_;refine aj (AWp.rangeFunc (α:=Unit) (γ:=Empty) 0 (fun _=>⟨[(2,.lptr 1 0 0),(9,.clos 135 [] [bM []])],[(1,some ⟨38,1,[[.arr (pE p)]]⟩)],2,28⟩) (fun _=>0) (fun _=>True) (fun e=>nomatch e) (fun _ e=>nomatch e) () rfl b rfl rfl ?_ (fun _=>⟨rfl,rfl⟩) (fun e=>nomatch e) trivial rfl (fun _ _=>Nat.le_refl _) ?_ ?_ ?_ ?_ (fun _ e=>nomatch e));intro k xs a;exact absurd a (by unfold lI;simp);refine s_y [(1,2)] (fun hs=>?_) (fun hs=>?_)
 ·repeat' (first|exact aN|refine aA rfl ?_ ?_|exact am hs (aP af (ac (b9 []) af))|exact aV)
 ·repeat' (first|exact aE|refine h_c ?_ ?_|exact bC|refine az ?_|exact av|refine ah ?_ ?_|exact am hs (aP af (ac (b9 []) af))|exact aV)
 exact ac (b9 []) af;intro l k xs c a;exact absurd a (by unfold lI;simp);intro k c a;refine⟨(),trivial,?_⟩;exact s_e [];rintro _ _;refine r_c 3 (ht) ?_;refine a_z ?_;exact ai (t_e (ax _))
def ixS(L:List Nat)(f:Nat):Nat→AState
 |i=>⟨[(0,.arr (lvE L)),(1,i64 f),(7,i64 L.length),(8,i64 i)],[],1,19⟩
theorem Fk(L:List Nat)(f:Nat)(hl:L.length≤1099511627776):FS 173 [.arr (lvE L),i64 f] (i64 (jK (fun c:Nat=>((f:Int)==(c:Int))) L 0)):=by
 have g:(lvE L).length=L.length:=jH L;refine f_n Tryz.func173 ?_ ?_;exact ac (aH (cO L)) (ac (ag _) af);obtain⟨R,e⟩:∃R,R=jK (fun c:Nat=>((f:Int)==(c:Int))) L 0:=⟨_,rfl⟩;rw[←e];refine r_z 1 ?_;refine ae (r_z 3 ?_);refine aG (fun _:Unit=>⟨[],[],1,19⟩) (fun _=>R= -1) ?_ ?_;refine aj (aB (ixS L f) (fun i=>L.length- i) (fun i=>i≤L.length∧jK (fun c:Nat=>((f:Int)==(c:Int))) (L.drop i) i=R) 0 ⟨Nat.zero_le _,by rw[e];rfl⟩ ?_ ?_);simp only[ixS.eq_1];have:=(aH (cO L));exact s_f [];rintro i ⟨h,a⟩;rw[ixS.eq_1];by_cases hlt:i< L.length;refine q_z 1 ?_;refine ae (cT (ak ?_));obtain⟨c,hc⟩:∃c,L[i]?=some c:=⟨_,List.getElem?_eq_getElem hlt⟩;have b:(lvE L)[((i:Nat):Int).toNat]?=some [i64 c]:=sC hc _ (by simp);rw[yo hc,jK] at a;refine ae (aj (r_z 2 ?_));refine s_r 6 ?_;refine a_3 ?_;refine i_x b ?_;refine l_1 b ?_;refine a_z ?_;refine ap rfl (fun h1=>?_) (fun h1=>?_);rw[if_pos h1] at a;refine r_z 2 ?_;refine ai (aW rfl ?_ ?_);rw[←a];exact ag _;rw[if_neg (by rw[h1];decide)] at a;refine ak (r_m 2 ?_);refine a_z ?_;refine⟨i+1,by omega,⟨hlt,a⟩,?_⟩;simp only[ixS.eq_1];have:=(aH (cO L));exact s_f [];have d:i=L.length:=by omega
 subst d;refine q_z 1 ?_;refine ae (cF ?_);rw[List.drop_length] at a;refine ay ⟨(),a.symm,?_⟩;exact s_e [];rintro _ a;refine r_z 1 ?_;refine ai (aW rfl ?_ ?_);rw[a];rfl;exact ag _
theorem qi(f:Nat):∀L:List Nat,L.any (fun c:Nat=>((f:Int)==(c:Int)))=L.contains f
 |[]=>rfl
 |a::L=>by
  rw[List.any_cons,qi f L,List.contains_cons];refine congrArg (· ||L.contains f) ?_;cases hb:(f==a) with
  |true=>rw[eq_of_beq hb];exact beq_self_eq_true _
  |false=>
   have h1:¬f=a:=fun e=>by rw[e] at hb;simp at hb
   exact beq_eq_false_iff_ne.2 (by omega)
theorem pO(L:List Nat)(f:Nat)(hl:L.length≤1099511627776):FS 134 [.arr (lvE L),i64 f] (bln (L.contains f)):=by
 have e:=pp (fun c:Nat=>((f:Int)==(c:Int))) L 0 (Int.le_refl 0);rw[qi] at e;have a:=Fk L f hl;refine f_n Tryz.func134 ?_ ?_;exact ac (aH (cO L)) (ac (ag _) af);refine r_z 1 ?_;refine r_c 5 (a) ?_;refine a_z ?_;refine ai (aW rfl ?_ ?_);rw[←e];rfl;exact ag _
def z0S(A:Mx)(n:Nat)(L:List Nat):Nat→AState
 |f=>⟨[(1,bSy n A L),(3,.emp),(9,i64 n),(10,i64 f)],[],1,51⟩
theorem EY(A:Mx)(n:Nat)(L:List Nat)(hn:n≤25)(hLn:L.length≤n)(hL:∀f,f< n→L.contains f=true):FS 92 [syV n (A,L)] (.arr (mE [])):=by
 refine f_n Tryz.func92 ?_ ?_;exact ac (fz n A L) af;refine r_z 2 ?_;refine AWp.ent (st':=⟨[(1,bSy n A L)],[],1,51⟩) ?_ ?_;have:=dO n A L;exact s_f [];refine r_z 1 ?_;refine ae (r_z 3 ?_);refine aG (fun _:Unit=>⟨[(3,.emp)],[],1,51⟩) (fun _=>True) ?_ ?_;refine aj (aB (z0S A n L) (fun f=>n- f) (fun f=>f≤n) 0 (Nat.zero_le _) ?_ ?_);rw[z0S.eq_1];have:=bm n A L;exact s_f [];intro f hf;rw[z0S.eq_1];by_cases hlt:f< n;have hc:=pO L f (by omega);rw[hL f hlt] at hc;refine q_z 1 ?_;refine ae (cT (ak (ae (aj (r_z 2 ?_)))));refine ae (r_c 4 (hc) ?_);refine ao ?_;refine cT (ay (r_m 2 ?_));refine a_z ?_;refine⟨f+1,by omega,by omega,?_⟩;rw[z0S.eq_1];have:=bm n A L;exact s_f [];refine q_z 1 ?_;refine ae (cF (ay ⟨(),trivial,?_⟩));exact s_e [];rintro _ _;refine r_z 2 ?_;exact ai (Fin.tmpN rfl)
theorem E8(g:Nat)(bn:List AV)(hb:∀c∈bn,Closed c):FS 91 [.arr (mE []),.clos g bn []] (.arr (mE [])):=by
 have a:Closed (.clos g bn []):=aP hb af;refine f_c Tryz.func91 ?_;refine r_z 1 ?_;refine r_z 1 ?_;refine ae (r_z 3 ?_);refine aG (fun _:Unit=>⟨[(5,.emp)],[],1,22⟩) (fun _=>True) ?_ ?_;refine aj (aB (fun _:Unit=>⟨[(5,.emp),(9,i64 0),(10,i64 0)],[],1,22⟩) (fun _=>0) (fun _=>True) () trivial ?_ ?_);exact s_e [];rintro _ _;refine q_z 1 ?_;refine ae (cF (ay ⟨(),trivial,?_⟩));exact s_e [];rintro _ _;refine r_z 2 ?_;exact ai (Fin.tmpN rfl)
theorem z8:FS 90 [.arr (mE [])] (.arr (mE [])):=by
 refine f_c Tryz.func90 ?_;refine r_z 1 ?_;refine r_z 1 ?_;refine ae (r_z 3 ?_);refine aG (fun _:Unit=>⟨[(3,.emp)],[],1,49⟩) (fun _=>True) ?_ ?_;refine aj (aB (fun _:Unit=>⟨[(3,.emp),(8,i64 0),(9,i64 0)],[],1,49⟩) (fun _=>0) (fun _=>True) () trivial ?_ ?_);exact s_e [];rintro _ _;refine q_z 1 ?_;refine ae (cF (ay ⟨(),trivial,?_⟩));exact s_e [];rintro _ _;refine r_z 2 ?_;exact ai (Fin.tmpN rfl)
theorem Hz(k:Ke)(l:Rat)(g:List Rat)(a b:Rat)(A:Mx)(n:Nat)(L:List Nat)(hz:FS 92 [syV n (A,L)] (.arr (mE []))):FS 38 [.agg (tkC k l g a b),syV n (A,L)] (.arr (mE [])):=by
 have h1:=E8 40 [.arr (kE k)] (ac (aU k) af);have c:=z8;refine f_n Tryz.func38 ?_ ?_;exact ac (aC (dN k l g a b)) (ac (fz n A L) af);refine r_z 3 ?_;refine AWp.ent (st':=⟨[(2,bTk k l g a b),(3,bSy n A L)],[],1,13⟩) ?_ ?_;refine s_x [] (fun hs=>?_) (fun hs=>?_)
 ·repeat' (first|exact aN|refine aA rfl ?_ ?_|exact Cv.boxp hs rfl (aM rfl) rfl (dN k l g a b)|exact Cv.boxp hs rfl (aM rfl) rfl (dO n A L)|exact aV)
 ·repeat' (first|exact aE|refine h_c ?_ ?_|exact bC|refine az ?_|exact av|refine ah ?_ ?_|exact Cv.boxp hs rfl (aM rfl) rfl (dN k l g a b)|exact Cv.boxp hs rfl (aM rfl) rfl (dO n A L)|exact aV)
 refine ae (r_d a6 9 ?_);refine c_s (hz) ?_;refine c_s (h1) ?_;refine c_s (c) ?_;refine a_1 ?_;refine ao (n_k ?_);exact ai (t_e (closed_mA _))
def lN(k:Ke)(l:Rat)(g:List Rat)(a b:Rat):List Rat:=xt (syM k l (rhK k g a b) a b).1 k.length (syM k l (rhK k g a b) a b).2
def syU(k:Ke)(l:Rat)(g:List Rat)(a b:Rat):List Rat:=fR g (aX (smK k (lN k l g a b) k.length) l)
structure OkTa (k:Ke)(l:Rat)(g:List Rat)(a b:Rat)(s:Nat):Prop where
 ke:tX k
 ha:sm a
 hb:sm b
 ab:a≤b
 dg:bD g≤20
 gl:g.length≤1099511627776
 sy:OkSy k l a b s
 rh:∀p∈k,eS p.2 g∧OkIn (aL p.2 g) a b∧qs (inQ (aL p.2 g) a b)≤s
structure OkSu (k:Ke)(l:Rat)(g:List Rat)(a b:Rat):Prop where
 ms:∀i p,k[i]?=some p→OkSm k (lN k l g a b) i p
 u1:smL (smK k (lN k l g a b) k.length)
 u2:(smK k (lN k l g a b) k.length).length≤1099511627776
 sl:sm l
 sg:smL g
 v1:smL (aX (smK k (lN k l g a b) k.length) l)
 v2:(aX (smK k (lN k l g a b) k.length) l).length≤1099511627776
theorem OkTa.none{k:Ke}{l:Rat}{g:List Rat}{a b:Rat}{s:Nat}(h:OkTa k l g a b s):FS 37 [syV k.length (syM k l (rhK k g a b) a b)] (bln (jG k.length (syM k l (rhK k g a b) a b).1 (syM k l (rhK k g a b) a b).2)):=
 Hu (syM k l (rhK k g a b) a b).1 k.length (syM k l (rhK k g a b) a b).2 (dY _ _ _).len (by have:=h.ke.1;omega)
theorem Fb(k:Ke)(l:Rat)(g:List Rat)(a b:Rat)(s:Nat)(h:OkTa k l g a b s)(h2:OkSu k l g a b)(hL:∀f,f< k.length→(syM k l (rhK k g a b) a b).2.contains f=true)(hN:jG k.length (syM k l (rhK k g a b) a b).1 (syM k l (rhK k g a b) a b).2=false)(hu:(syU k l g a b).length≤1099511627776):
    FS 12 [.agg (eqC k l g),.agg (spC a b)] (.tup [.arr (pE (aq (syU k l g a b))),.arr (mE []),i64 0]):=by
 have n:=h.ke.1;have m:=gT k l g a b h.ke h.ha h.hb h.ab h.dg h.gl;have hs:=mY k l g a b s h.sy h.rh;have j:=h.none;rw[hN] at j;have p:=EY (syM k l (rhK k g a b) a b).1 k.length (syM k l (rhK k g a b) a b).2 (by omega) (dY _ _ _).len hL;have hf:=Hz k l g a b _ _ _ p;have o:=sI (syM k l (rhK k g a b) a b).1 k.length (syM k l (rhK k g a b) a b).2 (dY _ _ _) (by omega);have i:=sJ k (lN k l g a b) (by unfold lN;simp) (by omega) h2.ms;have e:=eI _ l h2.u1 h2.sl h2.u2;have c:=mh g _ h2.sg h2.v1 h.gl h2.v2;have d:=Cc (syU k l g a b) hu;refine f_n Tryz.func12 ?_ ?_;exact ac (aC (cZ k l g)) (ac (aC (aY a b)) af);refine r_z 5 ?_;refine r_z 5 ?_;refine AWp.ent (st':=⟨[(7,bTk k l g a b)],[],1,38⟩) ?_ ?_;have:=dN k l g a b;exact s_f [];refine ae (r_c 2 (m) ?_);refine ao ?_;refine cF (ak (r_c 4 (hs) ?_));refine a_z ?_;refine AWp.ent (st':=⟨[(7,bTk k l g a b),(8,bSy k.length (syM k l (rhK k g a b) a b).1 (syM k l (rhK k g a b) a b).2)],[],1,38⟩) ?_ ?_;exact s_x [] (fun hs=>e_21) (fun hs=>e_22);refine ae (r_c 2 (j) ?_);refine ao ?_;refine cF (ak (r_c 4 (hf) ?_));refine a_z ?_;refine ae (r_d a6 20 ?_);refine c_s (o) ?_;refine c_s (i) ?_;refine c_s (e) ?_;refine c_s (c) ?_;refine c_s (d) ?_;refine a_4 ?_;refine ao (n_k ?_);refine ai (Fin.many ⟨_,_,rfl,rfl,⟨_,_,rfl,rfl,⟨_,_,rfl,rfl,rfl⟩⟩⟩ (nle rfl) ?_);exact ah (am aD (ax _)) (ah (am aD (closed_mA _)) (ah (am aD (ag _)) av))
theorem wo(k:Ke)(l:Rat)(g:List Rat)(a b:Rat)(s:Nat)(h:OkTa k l g a b s)(hN:jG k.length (syM k l (rhK k g a b) a b).1 (syM k l (rhK k g a b) a b).2=true):
    FS 12 [.agg (eqC k l g),.agg (spC a b)] (.tup [.arr (pE []),.arr (mE []),i64 12]):=by
 have e:=h.ke.1;have d:=gT k l g a b h.ke h.ha h.hb h.ab h.dg h.gl;have hs:=mY k l g a b s h.sy h.rh;have c:=h.none;rw[hN] at c;refine f_n Tryz.func12 ?_ ?_;exact ac (aC (cZ k l g)) (ac (aC (aY a b)) af);refine r_z 5 ?_;refine r_z 5 ?_;refine AWp.ent (st':=⟨[(7,bTk k l g a b)],[],1,38⟩) ?_ ?_;have:=dN k l g a b;exact s_f [];refine ae (r_c 2 (d) ?_);refine ao ?_;refine cF (ak (r_c 4 (hs) ?_));refine a_z ?_;refine AWp.ent (st':=⟨[(7,bTk k l g a b),(8,bSy k.length (syM k l (rhK k g a b) a b).1 (syM k l (rhK k g a b) a b).2)],[],1,38⟩) ?_ ?_;exact s_x [] (fun hs=>e_21) (fun hs=>e_22);refine ae (r_c 2 (c) ?_);refine ao ?_;refine cT (r_z 3 ?_);refine ai (Fin.many ⟨_,_,rfl,rfl,⟨_,_,rfl,rfl,⟨_,_,rfl,rfl,rfl⟩⟩⟩ (nle rfl) ?_);exact ah (Cv.emp _) (ah (Cv.emp _) (ah (am aD (ag _)) av))
def sqR(n:Nat)(A:Mx):List (List Rat):=(List.range n).map fun k=>aO n (A k)
@[simp] theorem Bs (n:Nat)(A:Mx):(sqR n A).length=n:=by simp[sqR]
theorem w4{n i:Nat}{A:Mx}(h:i< n):(sqR n A)[i]?=some (aO n (A i)):=by simp[sqR,h]
theorem yc(n:Nat)(A:Mx):(fiL A n n).map (fun e=>([.arr e]:List AV))=mE (sqR n A):=by
 rw[fiL_rwL,Ge];rfl
theorem uj(k:Ke)(a b:Rat)(h:OkMa k a b):FS 58 [.arr (kE k),.agg (spC a b)] (.arr (mE (sqR k.length (maK k a b)))):=by
 have:=(qk k a b h).shut rfl (ac (aU k) (ac (aC (aY a b)) af))
  (Cv.mzShut (r:=⟨0,fun i=>i⟩) (show(3:Nat)≠0 by decide) aD (fun _=>rfl) (jM _ _ _).symm (fun i e h=>by have:=(mq h).2;subst this;simp[pE]) fun e f x d c hc=>by
   obtain⟨k,_,rfl⟩:=List.mem_map.1 f;exact aJ _ x d c hc) (by rw[yc];exact closed_mA _)
 rw[yc] at this;exact this
def trQ(A:Mx)(i:Nat):Rat:=sQ (fun t=>A t t) i
def tcS(pM:Nat→Mx)(n ll j:Nat):Nat→AState
 |i=>⟨[(0,.v (.func (.yield ll) #[] #[])),(1,bM (sqR n (pM 0))),(3,.arr (mE (sqR n (pM j)))),(4,.lptr 1 0 0),(11,i64 n),(12,i64 i)],[(1,some ⟨36,3,[qC (trQ (pM j) i)]⟩)],2,29⟩
theorem we(pM:Nat→Mx)(n K:Nat)(hn:n≤25)(hs:∀j,j≤K→∀i,i< n→qs (trQ (pM j) i)+qs (pM j i i)≤549755813888)(hmul:∀j,j< K→FS 130 [.arr (mE (sqR n (pM j))),.arr (mE (sqR n (pM 0)))] (.arr (mE (sqR n (pM (j+1)))))):
    GSpecB Tryz.prog 129 [bM (sqR n (pM 0))] (fun j=>some [.agg (qC (trQ (pM j) n))]) K:=by
 refine GSpecB.enter Tryz.func129 rfl (by kernel_rfl) rfl rfl rfl ?_ ?_ rfl ?_;exact ac (b9 _) af;intro j xs h;cases h;exact ac (aT _) af;intro ll N hN E;refine GWp.seq ?_;refine GWp.lift ?_;refine r_m 2 ?_;refine a_z ?_;refine GWp.block ?_;refine GWp.loopS (fun j:Nat=>⟨[(0,.v (.func (.yield ll) #[] #[])),(1,bM (sqR n (pM 0))),(3,.arr (mE (sqR n (pM j))))],[],1,29⟩) (fun j=>j) (fun j=>N+1- j) (fun j=>j≤N) 0 (Nat.zero_le _) rfl ?_ ?_;exact s_x [] (fun hs=>e_6) (fun hs=>H3);intro j l;have k:(mE (sqR n (pM j))).length=n:=by simp
 refine GWp.seq ?_;refine GWp.block ?_;refine GWp.seq ?_;refine GWp.lift ?_;refine r_m 1 ?_;refine a_z ?_;refine GWp.seq ?_;refine GWp.seq ?_;refine GWp.lift ?_;refine r_m 3 ?_;refine a_z ?_;refine GWp.cutT (fun _:Unit=>tcS pM n ll j n) (fun _=>True) ?_ ?_;refine aj (aB (tcS pM n ll j) (fun i=>n- i) (fun i=>i≤n) 0 (Nat.zero_le _) ?_ ?_);rw[tcS.eq_1];refine s_x [(1,4)] (fun hs=>e_6) (fun hs=>?_)
 ·repeat' (first|exact aE|refine h_c ?_ ?_|exact CvLL.zeros hs 1|exact bC|refine az ?_|exact av|refine ah ?_ ?_|exact am hs (b9 _)|exact am hs (closed_mA _)|exact aV)
 intro i m;rw[tcS.eq_1];by_cases hlt:i< n;have b:(mE (sqR n (pM j)))[((i:Nat):Int).toNat]?=some [.arr (pE (aO n (pM j i)))]:=gx (w4 hlt) _ (by simp);have a:(pE (aO n (pM j i)))[((i:Nat):Int).toNat]?=some (qC (pM j i i)):=dh hlt _ (by simp);have f:(pE (aO n (pM j i))).length=n:=by simp[pE]
 have c:=fh (trQ (pM j) i) (pM j i i) (hs j (by omega) i hlt);refine q_z 1 ?_;refine ae (cT (ak (ae (aj (r_z 2 ?_)))));refine r_d a6 10 ?_;refine a_3 ?_;refine i_x b ?_;refine l_1 b ?_;refine a_1 ?_;refine i_x a ?_;refine l_x a ?_;refine c_s (c) ?_;refine a_1 ?_;refine ao (n_k ?_);refine r_m 2 ?_;refine a_z ?_;refine⟨i+1,by omega,by omega,?_⟩;rw[tcS.eq_1];exact s_x [] (fun hs=>e_6) (fun hs=>H3);have e:i=n:=by omega
 subst e;refine q_z 1 ?_;refine ae (cF (ay ⟨(),trivial,?_⟩));exact s_x [] (fun hs=>e_6) (fun hs=>H3);rintro _ _;rw[tcS.eq_1];refine GWp.seq ?_;refine GWp.regY (fr2:=[(0,.v (.func (.yield ll) #[] #[])),(1,bM (sqR n (pM 0))),(3,.arr (mE (sqR n (pM j)))),(25,.v (.func (.yield ll) #[] #[])),(26,.agg (qC (trQ (pM j) n)))]) (hp2:=[]) (nx2:=1) 2 rfl rfl rfl rfl rfl rfl ?_ rfl rfl rfl ?_ ?_ ?_;refine o_0 (.move rfl) ?_
 first|refine aF (.load_l rfl rfl rfl TG.h TS.h (nle rfl)) rfl rfl ?_|refine aF (.load_a rfl rfl TG.h TS.h (nle rfl)) rfl rfl ?_
 refine ao ?_;exact s_y [] (fun hs=>e_6) (fun hs=>H3);rotate_left 2;intro g;refine o_0 (.un rfl lM) ?_;refine ao ?_;rotate_left;rfl;exact ac (aT _) af;cases g with
 |false=>
  refine GWp.cond rfl (fun h=>?_) (fun h=>?_);exact GWp.ret ⟨.inr rfl,fun h=>by cases h⟩;cases h
 |true=>
  refine GWp.bound fun d=>?_;refine GWp.cond rfl (fun h=>?_) (fun h=>?_);cases h;refine GWp.skip ?_;refine GWp.lift ?_;refine r_m 4 ?_;refine c_s (hmul j (by omega)) ?_;refine a_z ?_;refine⟨rfl,j+1,by omega,d,rfl,?_⟩;exact s_x [] (fun hs=>e_6) (fun hs=>H3)
theorem wh(l:List (List Rat)):FS 83 [.arr (mE l)] (.clos 129 [] [bM l]):=by
 refine f_c Tryz.func83 ?_;refine r_z 2 ?_;refine r_z 2 ?_;refine ai (⟨.inr rfl,[_],⟨_,[],rfl,rfl,rfl⟩,?_⟩);exact Cv.clos av (ah (Cv.boxp aD rfl (fun _ _ h=>by cases h) rfl (ac (closed_mA l) af)) av)
def dtS(k:Ke)(M:List (List Rat)):Unit→AState
 |u=>⟨[(2,bKe k),(5,.lptr 1 0 0),(6,.lptr 2 0 0),(20,.clos 129 [] [bM M])],[(1,some ⟨38,1,[[.lsl 3 0 1 none 3]]⟩),(2,some ⟨37,1,[[.emp]]⟩),(3,some ⟨36,3,[qC ((1:Int):Rat)]⟩)],4,60⟩
theorem dtS_mk(k:Ke)(M:List (List Rat))(u:Unit):dtS k M u=⟨[(2,bKe k),(5,.lptr 1 0 0),(6,.lptr 2 0 0),(20,.clos 129 [] [bM M])],[(1,some ⟨38,1,[[.lsl 3 0 1 none 3]]⟩),(2,some ⟨37,1,[[.emp]]⟩),(3,some ⟨36,3,[qC ((1:Int):Rat)]⟩)],4,60⟩:=rfl
def dtX(c:Rat):Unit→AState
 |u=>⟨[(5,.lptr 1 0 0)],[(1,some ⟨38,1,[[.lsl 3 0 2 none 3]]⟩),(3,some ⟨36,3,[qC ((1:Int):Rat),qC c]⟩)],4,60⟩
def dtI(k:Ke)(t:Rat)(w:Nat→Rat)(i:Nat):AState:=⟨[(2,bKe k),(5,.lptr 1 0 0),(6,.lptr 2 0 0),(8,i64 1),(9,.lptr 5 0 0),(28,.lsl 4 0 1 none 3),(29,i64 1),(30,i64 i),(1005,.lptr 1 0 0)],[(1,some ⟨38,1,[[.lsl 3 0 1 none 3]]⟩),(2,some ⟨37,1,[[.lsl 4 0 1 none 3]]⟩),(3,some ⟨36,3,[qC ((1:Int):Rat)]⟩),(4,some ⟨36,3,[qC t]⟩),(5,some ⟨36,3,[qC (w i)]⟩)],6,60⟩
def dtC(t:Rat):Nat→Rat
 |0=>0
 |_+1=>0- t* ((1:Int):Rat)
def deV(t:Rat):List Rat:=[((1:Int):Rat),dtC t 1/ ((1:Int):Rat)]
theorem fs_det1(p:List Rat×List Rat)(a b:Rat)(h:OkMa [p] a b)(hs:qs (maK [p] a b 0 0)≤100000000000):
    FS 34 [.arr (kE [p]),.agg (spC a b)] (.arr (pE (aq (deV (trQ (maK [p] a b) 1))))):=by
 have i1:=du 1 (by decide);have hm:=uj [p] a b h;obtain⟨A,hA⟩:∃A,A=maK [p] a b:=⟨_,rfl⟩;rw[←hA] at hm hs⊢;have hq1:qs ((1:Int):Rat)≤1:=by decide
 have hgs:=we (fun _=>A) 1 0 (by omega) (fun j hj i hi=>by
  obtain rfl:i=0:=by omega
  show qs (0:Rat)+qs (A 0 0)≤_;have:qs (0:Rat)≤1:=by decide
  omega) (fun j hj=>by omega)
 have htr:=wh (sqR 1 A);obtain⟨t,ht⟩:∃t,t=trQ A 1:=⟨_,rfl⟩
 have hqt:qs t≤100000000002:=by
  rw[ht];show qs (0+A 0 0)≤_;have:=kg 0 (A 0 0);have:qs (0:Rat)≤1:=by decide
  omega
 simp only[←ht] at hgs⊢;have hmu:=cJ t ((1:Int):Rat) (by omega)
 have hsu:=jL 0 (t* ((1:Int):Rat)) (by have:=dK t ((1:Int):Rat);have:qs (0:Rat)≤1:=by decide
                                       omega)
 have hov:=kN (dtC t 1) ((1:Int):Rat) (by decide) (by
  have h1:=qw 0 (t* ((1:Int):Rat));have h2:=dK t ((1:Int):Rat);have h3:qs (0:Rat)≤1:=by decide
  show qs (0- t* ((1:Int):Rat))+_≤_;omega)
 have hti:=dd (deV t) (by simp[deV]);refine f_n Tryz.func34 ?_ ?_;exact ac (aU [p]) (ac (aC (aY a b)) af);refine r_z 3 ?_;refine AWp.ent (st':=⟨[(2,bKe [p]),(3,bSp a b)],[],1,60⟩) ?_ ?_;refine s_x [] (fun hs=>?_) (fun hs=>?_)
 ·repeat' (first|exact aN|refine aA rfl ?_ ?_|exact Cv.boxp hs rfl (aM rfl) rfl (ac (aU [p]) af)|exact Cv.boxp hs rfl (aM rfl) rfl (aY a b)|exact aV)
 ·repeat' (first|exact aE|refine h_c ?_ ?_|exact bC|refine az ?_|exact av|refine ah ?_ ?_|exact Cv.boxp hs rfl (aM rfl) rfl (ac (aU [p]) af)|exact Cv.boxp hs rfl (aM rfl) rfl (aY a b)|exact aV)
 refine r_c 4 (i1) ?_;refine a_z ?_;refine r_z 1 ?_;refine ae (s_r 3 ?_);refine a_2 ?_;refine o_0 (.bin rfl rfl (vT jT (rfl))) ?_;refine ao ?_;refine aG (fun _:Unit=>dtX (dtC t 1/ ((1:Int):Rat)) ()) (fun _=>True) ?_ ?_;refine cT (r_c 4 (hm) ?_);refine c_s (htr) ?_;refine ao ?_;refine aj (AWp.rangeFuncB (α:=Unit) (γ:=Unit) 0 (dtS [p] (sqR 1 A)) (fun _=>0) (fun _=>True) (dtX (dtC t 1/ ((1:Int):Rat))) (fun e _=>e= .exit 0) () rfl hgs rfl rfl ?_ (fun _=>⟨rfl,rfl⟩) (fun _=>rfl) trivial rfl (fun _ _=>Nat.le_refl _) ?_ ?_ ?_ ?_ ?_);intro j xs hT;cases hT;rfl;rw[dtS_mk];refine s_y [(1,5),(2,6),(3,13)] (fun hs=>?_) (fun hs=>?_)
 ·repeat' (first|exact aN|refine aA rfl ?_ ?_|exact am hs (cz [p])|exact am hs (aP af (ac (b9 _) af))|exact aV)
 ·repeat' (first|exact aE|refine h_c ?_ ?_|exact bC|refine az ?_|exact av|refine ah ?_ ?_|exact am hs (cz [p])|exact am hs (aP af (ac (b9 _) af))|exact aV)
 exact ac (b9 _) af
 ·intro ll j xs hj hT
  cases hT;show AWp _ _ _ _ ⟨[(21,.agg (qC t)),(2,bKe [p]),(5,.lptr 1 0 0),(6,.lptr 2 0 0),(20,.clos 129 [] [bM (sqR 1 A)]),(1002,bKe [p]),(1005,.lptr 1 0 0),(1006,.lptr 2 0 0),(1020,.clos 129 [] [bM (sqR 1 A)])],[(1,some ⟨38,1,[[.lsl 3 0 1 none 3]]⟩),(2,some ⟨37,1,[[.emp]]⟩),(3,some ⟨36,3,[qC ((1:Int):Rat)]⟩)],4,60⟩;refine r_m 2 ?_;refine a_z ?_;refine aj (s_r 5 ?_);refine a_3 ?_
  first|refine AR.op2 (.append_l rfl rfl rfl te_37.h rfl rfl rfl rfl rfl d_o (by first|exact dq _|exact dp _|exact cW _|exact dr _|exact dn _|assumption|rfl|simp) (by first|rfl|exact dq _|exact dp _|exact cW _|exact dr _|exact dn _|simp) rfl (.lsl rfl (nle rfl)) TZ.h rfl TB.h d_o (by first|(simp[maxLen];done)|(simp[maxLen];omega))) rfl rfl ?_|refine AR.op1 (.append_e rfl rfl rfl te_37.h rfl rfl rfl (.lsl rfl (nle rfl)) (by first|assumption|(simp;done)) TZ.h rfl TB.h d_o (by first|(simp[maxLen];done)|(simp[maxLen];omega))) rfl rfl ?_
  refine a_z ?_;refine r_z 3 ?_;refine r_z 1 ?_;refine ae (r_z 3 ?_);refine aG (fun _:Unit=>dtI [p] t (dtC t) 1) (fun _=>True) ?_ ?_;refine aj (aB (dtI [p] t (dtC t)) (fun i=>1- i) (fun i=>i≤1) 0 (Nat.zero_le _) ?_ ?_);rw[dtI.eq_1];refine s_z [(1,5),(2,6),(3,100003),(4,28),(5,9)] (fun hs=>e_23) (fun hs=>?_)
  ·repeat' (first|exact aE|refine h_c ?_ ?_|exact CvLL.zeros hs 1|exact bC|refine az ?_|exact av|refine ah ?_ ?_|exact am hs (cz [p])|exact aV)
  intro i hi;by_cases h1:i< 1;obtain rfl:i=0:=by omega
  rw[dtI.eq_1];refine s_r 1 ?_;refine o_0 (.bin rfl rfl (vT eN (rfl))) ?_;refine ao ?_;refine ae (cT (ak (ae (aj (r_z 6 ?_)))));refine r_d a6 12 ?_;refine c_s (hmu) ?_;refine c_s (hsu) ?_;refine a_1 ?_;refine ao (n_k ?_);refine r_m 2 ?_;refine a_z ?_;refine⟨1,by omega,by omega,?_⟩;rw[dtI.eq_1];exact s_z [(1,5),(2,6),(3,100003),(4,28),(5,9)] (fun hs=>e_23) (fun hs=>e_51);obtain rfl:i=1:=by omega
  rw[dtI.eq_1];refine s_r 1 ?_;refine o_0 (.bin rfl rfl (vF eN (rfl))) ?_;refine ao ?_;refine ae (cF (ay ⟨(),trivial,?_⟩));exact s_z [(1,5),(2,6),(3,100003),(4,28),(5,9)] (fun hs=>e_23) (fun hs=>e_51);rintro _ _;rw[dtI.eq_1];refine ae (r_d a6 8 ?_);refine c_s (i1) ?_;refine c_s (hov) ?_;refine a_3 ?_;refine ao (n_k ?_);refine s_r 4 ?_;refine a_3 ?_;refine o_0 (.bin rfl rfl (vT ci (rfl))) ?_;refine ao ?_;refine cT (ay (⟨rfl,(),rfl,?_⟩));show SEntT _ ⟨[(1005,.lptr 1 0 0)],[(1,some ⟨38,1,[[.lsl 3 0 2 none 3]]⟩),(3,some ⟨36,3,[qC ((1:Int):Rat),qC (dtC t 1/ ((1:Int):Rat))]⟩)],4,60⟩;have:=(aJ [((1:Int):Rat),dtC t 1/ ((1:Int):Rat)]);exact s_t [(1,5),(3,53)]
 intro j hj hT;cases hT;rintro e u rfl;exact⟨u,trivial,SEnt.refl _⟩;rintro _ _;rw[dtX.eq_1];refine s_r 3 ?_;refine a_1 ?_;refine o_1 (.callS1 rfl rfl rfl (.shut rfl d_n (.nil)) rfl (hti)) ?_;refine a_z ?_;exact ai (t_e (ax _))
theorem fs_Det1(p:List Rat×List Rat)(a b:Rat)(hke:tX [p])(ha:sm a)(hb:sm b)(hab:a≤b)(h:OkMa [p] a b)(hs:qs (maK [p] a b 0 0)≤100000000000):
    FS 11 [.arr (kE [p]),.agg (spC a b)] (.tup [.arr (pE (aq (deV (trQ (maK [p] a b) 1)))),i64 0]):=by
 have d:=qM [p] a b hke ha hb hab;have c:=fs_det1 p a b h hs;refine f_n Tryz.func11 ?_ ?_;exact ac (aU [p]) (ac (aC (aY a b)) af);refine r_z 3 ?_;refine ae (r_c 3 (d) ?_);refine ao ?_;refine cF (ak (r_c 5 (c) ?_));refine a_z ?_;refine ai (Fin.many ⟨_,_,rfl,rfl,⟨_,_,rfl,rfl,rfl⟩⟩ (nle rfl) ?_);exact ah (am aD (ax _)) (ah (am aD (ag _)) av)
theorem zV(p:List Rat)(lo hi:Rat)(gr:Int)(v:Sp)(hR:FS 104 [.arr (pE p),.agg (spC lo hi),i64 gr] (.tup [.agg (spC v.1 v.2),i64 0]))(h1:sm v.1)(h2:sm v.2):FS 53 [.agg (spC lo hi++[i64 gr]),.arr (pE p)] (.agg (qC (C4 v))):=by
 have a:∀c∈spC lo hi++[i64 gr],Closed c:=fun c hc=>(List.mem_append.1 hc).elim (aY lo hi c) (ac (ag _) af c);refine f_c Tryz.func53 ?_;refine r_z 2 ?_;refine r_c 12 (hR) ?_;refine a_z ?_;refine r_c 4 (fs_SAbs v h1 h2) ?_;refine a_z ?_;exact ai (c_e (aT _))
def szC(a b:Rat)(gr:Int):AV:= .clos 53 [.agg (spC a b++[i64 gr])] []
theorem oz(a b:Rat)(gr:Int):Closed (szC a b gr):=aP (ac (aC fun c hc=>(List.mem_append.1 hc).elim (aY a b c) (ac (ag _) af c)) af) af
def bSz(a b:Rat)(gr:Int):AV:= .aptr [[szC a b gr]] 0 0
theorem dx(a b:Rat)(gr:Int):Closed (bSz a b gr):=ba (ac (oz a b gr) af)
theorem fs_Clo1(p:List Rat×List Rat)(a b:Rat)(gr:Int)(v:Rat)(h:FS 53 [.agg (spC a b++[i64 gr]),.arr (pE p.1)] (.agg (qC v))):FS 55 [.agg (prC p),bSz a b gr] (.agg (qC v)):=by
 refine f_n Tryz.func55 ?_ ?_;exact ac (aC (fC p)) (ac (dx a b gr) af);refine r_z 2 ?_;refine r_c 5 (h) ?_;refine a_z ?_;exact ai (c_e (aT _))
theorem fs_Clo2(p:List Rat×List Rat)(a b:Rat)(gr:Int)(v:Rat)(h:FS 53 [.agg (spC a b++[i64 gr]),.arr (pE p.2)] (.agg (qC v))):FS 56 [.agg (prC p),bSz a b gr] (.agg (qC v)):=by
 refine f_n Tryz.func56 ?_ ?_;exact ac (aC (fC p)) (ac (dx a b gr) af);refine r_z 2 ?_;refine r_c 5 (h) ?_;refine a_z ?_;exact ai (c_e (aT _))
end Go.Proofs.YtdgbhlkabelmbaaGreatDoor
