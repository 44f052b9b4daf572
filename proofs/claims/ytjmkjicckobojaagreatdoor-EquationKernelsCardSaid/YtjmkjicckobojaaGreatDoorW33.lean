/- Part W33 of the proof. -/
import Derived.Test.YtjmkjicckobojaaGreatDoorW32
set_option linter.all false
namespace Go.Proofs.YtjmkjicckobojaaGreatDoor
open Go.Abs
set_option maxRecDepth 20000
set_option maxHeartbeats 4000000
def epS(k:Ke)(g:Nat)(cap:La)(f:Lq×Lq->Rat):Nat->AState
 |0=>⟨[(1,.clos g [] cap),(8,.arr (kE k)),(9,i64 k.length),(10,i64 0),(5,.emp)],[],1,22⟩
 |i+1=>⟨[(1,.clos g [] cap),(8,.arr (kE k)),(9,i64 k.length),(10,i64 ((i+1:Nat):Int)),(5,.lsl 1 0 (i+1) none 3)],[(1,some ⟨42,3,pE ((k.take (i+1)).map f)⟩)],2,22⟩
theorem wU(k:Ke)(g:Nat)(cap:La)(f:Lq×Lq->Rat)(hcap:∀c∈cap,Closed c)(hl:k.length<=1000)(hg:∀p∈k,FS g ((.agg (prC p)::cap).map coe) (.agg (qC (f p)))):FS 118 [.arr (kE k),.clos g [] cap] (.arr (pE (k.map f))):=by
 have n:(kE k).length=k.length:=dP k;have hcc:Closed (.clos g [] cap):=a6 af hcap;refine f_n Tryz.func118 ?_ ?_;exact ae (aH k) (ae hcc af);refine r_z 1 ?_;refine r_z 1 ?_;refine ac (r_z 3 ?_);refine aC (λ_:Unit=>⟨[(5,.arr (pE (k.map f)))],[],1,22⟩) (λ_=>True) ?_ ?_;refine ah (ay (epS k g cap f) (λi=>k.length- i) (λi=>i<=k.length) 0 (Nat.zero_le _) ?_ ?_);rw[epS.eq_1];exact s_x [] (λhs=>e_3) (λhs=>e_21);intro i o;by_cases hlt:i< k.length;obtain⟨p,hp⟩:∃p,k[i]?=some p:=⟨_,List.getElem?_eq_getElem hlt⟩;have h:=hg p (List.mem_of_getElem? hp);have l:(k.take (i+1)).length=i+1:=by rw[List.length_take];omega
 have b:pE ((k.take i).map f)++[qC (f p)]=pE ((k.take (i+1)).map f):=by rw[cO hp,List.map_append,List.map_singleton,lZ];rfl
 cases i with
 |zero=>
  have a:(kE k)[((0:Int)).toNat]?=some (prC p):=jo hp _ rfl;rw[epS.eq_1];refine q_z 1 ?_;refine ac (cT (aj (ac (ah (s_r 4 ?_)))));refine i_x a ?_;refine l_x a ?_;refine a_z ?_;refine r_m 7 ?_;refine c_s (h) ?_;refine a_z ?_;refine r_m 2 ?_;refine a_z ?_;refine⟨0+1,ω,ω,?_⟩;rw[epS.eq_2];rw[<-b];refine s_x [(1,5)] (λhs=>e_3) (λhs=>?_)
  ·repeat' (first|exact aB|refine h_c ?_ ?_|exact ba hs (aQ [f p])|exact bG|refine aA ?_|exact av|refine am ?_ ?_|exact ao hs (aH k)|exact ao hs hcc|exact aW)
 |succ i=>
  have a:(kE k)[(((i+1:Nat):Int)).toNat]?=some (prC p):=jo hp _ ψ;have m:=cD ((k.take (i+1)).map f);have d:(pE ((k.take (i+1)).map f)).length=i+1:=by simp[pE];omega
  rw[epS.eq_2];refine q_z 1 ?_;refine ac (cT (aj (ac (ah (s_r 4 ?_)))));refine i_x a ?_;refine l_x a ?_;refine a_z ?_;refine r_m 7 ?_;refine c_s (h) ?_;refine a_z ?_;refine r_m 2 ?_;refine a_z ?_;refine⟨i+1+1,ω,ω,?_⟩;rw[epS.eq_2];refine s_x [(1,5)] (λhs=>e_3) (λhs=>?_)
  ·repeat' (first|exact aB|refine h_c ?_ ?_|exact aJ hs b (aQ _)|exact bG|refine aA ?_|exact av|refine am ?_ ?_|exact ao hs (aH k)|exact ao hs hcc|exact aW)
 have e:i=k.length:=ω
 cases i with
 |zero=>
  have j:k=[]:=List.eq_nil_of_length_eq_zero e.symm;subst j;rw[epS.eq_1];refine q_z 1 ?_;refine ac (cF (ax ⟨(),trivial,?_⟩));exact s_e []
 |succ i=>
  have d:(pE (k.map f)).length=i+1:=by simp[pE];omega
  rw[epS.eq_2,e,List.take_length];refine q_z 1 ?_;refine ac (cF (ax ⟨(),trivial,?_⟩));refine s_x [] (λhs=>?_) (λhs=>?_)
  ·repeat' (first|exact aL|refine az rfl ?_ ?_|(refine Cv.shut hs rfl (aG rfl) ψ ?_;exact aJ hs π (aQ _))|exact aW)
  ·repeat' (first|exact aB|refine h_c ?_ ?_|exact bG|refine aA ?_|exact av|refine am ?_ ?_|(refine Cv.shut hs rfl (aG rfl) ψ ?_;exact aJ hs π (aQ _))|exact aW)
 rintro _ _;refine r_z 2 ?_;exact ai (t_e (aD _))
theorem eN(n:Nat)(A:Mx)(L:Ln):∀c∈[AV.arr (mE (pr n A)),.arr (lvE L),i64 n],Closed c:=ae (closed_mA _) (ae (aK (ff L)) (ae (ak _) af))
theorem jv(n:Nat)(A:Mx)(L:Ln):Closed (syV n (A,L)):=aE (eN n A L)
def bSy(n:Nat)(A:Mx)(L:Ln):AV:= .aptr [[.arr (mE (pr n A)),.arr (lvE L),i64 n]] 0 0
theorem db(n:Nat)(A:Mx)(L:Ln):Closed (bSy n A L):=bi (eN n A L)
theorem Gg{L:Ln}{i c:Nat}(h:L[i]?=some c):∀e:Nat,e=i->(lvE L)[e]?=some [i64 c]:=λe a=>by
 rw[a,lvE,List.getElem?_map,h];rfl
def owS(A:Mx)(n:Nat)(L:Ln):Nat->AState
 |i=>⟨[(1,bSy n A L),(3,.lsl 1 0 n (some n) 3),(10,.arr (lvE L)),(11,i64 L.length),(12,i64 i)],[(1,some ⟨42,3,pE (qY A n L i)⟩)],2,31⟩
theorem As(A:Mx)(n:Nat)(L:Ln)(hE:Ech A n n L)(hn:n<=25):FS 84 [syV n (A,L)] (.arr (pE (z7 A n L))):=by
 have k:(lvE L).length=L.length:=mS L;have o:=hE.len2;refine f_n Tryz.func84 ?_ ?_;exact ae (jv n A L) af;refine r_z 2 ?_;refine AWp.ent (st':=⟨[(1,bSy n A L)],[],1,31⟩) ?_ ?_;have:=eN n A L;exact s_f [];refine r_z 4 ?_;refine ac (r_z 4 ?_);refine aC (λ_:Unit=>⟨[(3,.arr (pE (z7 A n L)))],[],1,31⟩) (λ_=>True) ?_ ?_;refine ah (ay (owS A n L) (λi=>L.length- i) (λi=>i<=L.length) 0 (Nat.zero_le _) ?_ ?_);rw[owS.eq_1,oneJ_0];refine s_x [(1,3)] (λhs=>e_51) (λhs=>?_)
 ·repeat' (first|exact aB|refine h_c ?_ ?_|exact CvLL.zeros hs n|exact bG|refine aA ?_|exact av|refine am ?_ ?_|exact ao hs (db n A L)|exact ao hs (aK (ff L))|exact aW)
 intro i q;rw[owS.eq_1];by_cases hlt:i< L.length;obtain⟨c,hc⟩:∃c,L[i]?=some c:=⟨_,List.getElem?_eq_getElem hlt⟩;have d:=hE.lt i c hc;have g:i< n:=ω
 have e:(lvE L)[((i:Nat):Int).toNat]?=some [i64 c]:=Gg hc _ ψ;have b:(mE (pr n A))[((i:Nat):Int).toNat]?=some [.arr (pE (aN (n+1) (A i)))]:=tj (yn g) _ ψ;have a:(pE (aN (n+1) (A i)))[((n:Nat):Int).toNat]?=some (qC (A i n)):=eJ ω _ ψ;have p:(mE (pr n A)).length=n:=ψ
 have l:(pE (aN (n+1) (A i))).length=n+1:=by simp[pE]
 have m:(pE (qY A n L i)).length=n:=by simp[pE]
 obtain⟨v0,f⟩:=JI (A:=A) (L:=L) (i:=i) d (0+((c:Nat):Int).toNat) ω;refine q_z 1 ?_;refine ac (cT (aj (ac (ah (s_r 5 ?_)))));refine a_1 ?_;refine i_x e ?_;refine l_1 e ?_;refine a_z ?_;refine r_d aX 13 ?_;refine a_5 ?_;refine i_x b ?_;refine l_1 b ?_;refine a_2 ?_;refine i_x a ?_;refine l_x a ?_;refine a_1 ?_;refine fN (.store rfl rfl f rfl rfl rfl TS.h (nle rfl)) ?_;refine aq (n_k ?_);refine r_m 2 ?_;refine a_z ?_;refine⟨i+1,ω,ω,?_⟩;rw[owS.eq_1];refine s_x [] (λhs=>e_51) (λhs=>?_)
 ·repeat' (first|exact aB|refine h_c ?_ ?_|exact aJ hs (oneJ_s hE hc d (0+((c:Nat):Int).toNat) ω) (aQ _)|exact bG|refine aA ?_|exact av|refine am ?_ ?_|exact ao hs (db n A L)|exact ao hs (aK (ff L))|exact aW)
 have j:i=L.length:=ω
 refine q_z 1 ?_;refine ac (cF (ax ⟨(),trivial,?_⟩));rw[oneJ_n ω];refine s_x [] (λhs=>?_) (λhs=>?_)
 ·repeat' (first|exact aL|refine az rfl ?_ ?_|(refine Cv.shut hs rfl (aG rfl) (by simp[pE]) ?_;exact aJ hs (by rw[List.drop_zero];exact List.take_of_length_le (by simp[pE])) (aQ _))|exact aW)
 ·repeat' (first|exact aB|refine h_c ?_ ?_|exact bG|refine aA ?_|exact av|refine am ?_ ?_|(refine Cv.shut hs rfl (aG rfl) (by simp[pE]) ?_;exact aJ hs (by rw[List.drop_zero];exact List.take_of_length_le (by simp[pE])) (aQ _))|exact aW)
 rintro _ _;refine r_z 2 ?_;exact ai (t_e (aD _))
theorem HX(A:Mx)(n:Nat)(L:Ln)(e:Lq)(hl:e.length=n+1):FS 168 [.arr (pE e),bSy n A L] (bln (decide (coP e n≠0))):=by
 have b:(pE e).length=e.length:=by simp[pE]
 have a:(pE e)[((n:Nat):Int).toNat]?=some (qC (coP e n)):=by
  have:=ci (p:=e) (i:=n) ω;simp[pE,this]
 refine f_n Tryz.func168 ?_ ?_;exact ae (aD e) (ae (db n A L) af);refine r_z 1 ?_;refine s_r 8 ?_;refine a_3 ?_;refine i_x a ?_;refine l_x a ?_;refine c_s (c6 (coP e n)) ?_;refine a_z ?_;refine ai (aS rfl ?_ ?_);rw[show decide (coP e n≠0)=decide (sgZ (coP e n).num≠0) from decide_eq_decide.2 (not_congr sgZ_num_eq.symm)]
 first|rfl|(congr 1;cases hb:decide (sgZ (coP e n).num=0) with|true=>(have:=of_decide_eq_true hb;simp[this])|false=>(have:=of_decide_eq_false hb;simp[bln,bne,this]))
 exact ak _
theorem mE_el(k:Lw):∀e∈mE k,e.length=1:=λe a=>by
 obtain⟨_,_,rfl⟩:=List.mem_map.1 a;rfl
theorem Ko(A:Mx)(n:Nat)(L:Ln)(hLn:L.length<=n)(hn:n<=25):FS 79 [syV n (A,L)] (bln (yx n A L)):=by
 have c:(lvE L).length=L.length:=mS L
 have hc:=AB ((pr n A).drop L.length) 168 [bSy n A L] (λe=>decide (coP e n≠0)) (ae (db n A L) af) χ (λe d=>HX A n L e (by
  obtain⟨k,a⟩:=List.mem_iff_getElem?.1 (List.mem_of_mem_drop d)
  have b:k< n:=by
   have:=(List.getElem?_eq_some_iff.1 a).1;simpa using this
  rw[yn b] at a;cases a;simp)) rfl
 rw[<-Gf] at hc;refine f_n Tryz.func79 ?_ ?_;exact ae (jv n A L) af;refine r_z 2 ?_;refine AWp.ent (st':=⟨[(1,bSy n A L)],[],1,11⟩) ?_ ?_;have:=eN n A L;exact s_f [];refine s_r 9 ?_;refine a_5 ?_;refine o_0 (.sa_l rfl rfl (l:=L.length) rfl χ te_155.h (mE_el _)) ?_;refine c_s (hc) ?_;refine a_z ?_;exact ai (t_e (ak _))
structure OkSm (k:Ke)(c:Lq)(i:Nat)(p:Lq×Lq):Prop where
 p1:smL p.1
 p2:p.1.length<=1099511627776
 cs:sm (coP c i)
 o1:smL (smK k c i)
 o2:(smK k c i).length<=1099511627776
 s1:smL (aR p.1 (coP c i))
 s2:(aR p.1 (coP c i)).length<=1099511627776
def ksS(k:Ke)(c:Lq):Nat->AState
 |i=>⟨[(1,.arr (pE c)),(5,.arr (pE (smK k c i))),(8,.arr (kE k)),(9,i64 k.length),(10,i64 i)],[],1,26⟩
theorem GA(k:Ke)(c:Lq)(hc:c.length=k.length)(hl:k.length<=1000)(h:∀i p,k[i]?=some p->OkSm k c i p):FS 83 [.arr (kE k),.arr (pE c)] (.arr (pE (smK k c k.length))):=by
 have f:(kE k).length=k.length:=dP k;refine f_n Tryz.func83 ?_ ?_;exact ae (aH k) (ae (aD c) af);refine r_z 1 ?_;refine r_z 1 ?_;refine ac (r_z 3 ?_);refine aC (λ_:Unit=>⟨[(5,.arr (pE (smK k c k.length)))],[],1,26⟩) (λ_=>True) ?_ ?_;refine ah (ay (ksS k c) (λi=>k.length- i) (λi=>i<=k.length) 0 (Nat.zero_le _) ?_ ?_);rw[ksS.eq_1];exact s_x [] (λhs=>e_52) (λhs=>e_53);intro i l;rw[ksS.eq_1];by_cases hlt:i< k.length;obtain⟨p,hp⟩:∃p,k[i]?=some p:=⟨_,List.getElem?_eq_getElem hlt⟩;have a:(kE k)[((i:Nat):Int).toNat]?=some (prC p):=jo hp _ ψ;have j:(pE c).length=k.length:=by simp[pE,hc]
 have b:(pE c)[((i:Nat):Int).toNat]?=some (qC (coP c i)):=by
  have:=ci (p:=c) (i:=i) ω;simp[pE,this]
 have ok:=h i p hp;have g:=jO p.1 (coP c i) ok.p1 ok.cs ok.p2;have e:=pS (smK k c i) _ ok.o1 ok.s1 ok.o2 ok.s2;refine q_z 1 ?_;refine ac (cT (aj (ac (ah (s_r 6 ?_)))));refine a_1 ?_;refine i_x a ?_;refine l_x a ?_;refine a_z ?_;refine r_d aX 10 ?_;refine a_5 ?_;refine i_x b ?_;refine l_x b ?_;refine c_s (g) ?_;refine c_s (e) ?_;refine a_1 ?_;refine aq (n_k ?_);refine r_m 2 ?_;refine a_z ?_;refine⟨i+1,ω,ω,?_⟩;rw[ksS.eq_1,smK_s hp];unfold smF;exact s_x [] (λhs=>e_52) (λhs=>e_53);have d:i=k.length:=ω
 refine q_z 1 ?_;refine ac (cF (ax ⟨(),trivial,?_⟩));rw[d];exact s_e [];rintro _ _;refine r_z 2 ?_;exact ai (t_e (aD _))
def tkC(k:Ke)(l:Rat)(g:Lq)(a b:Rat):La:=eqC k l g++spC a b
theorem fe(k:Ke)(l:Rat)(g:Lq)(a b:Rat):∀c∈tkC k l g a b,Closed c:=dI (eP k l g) (bt a b)
def bTk(k:Ke)(l:Rat)(g:Lq)(a b:Rat):AV:= .aptr [tkC k l g a b] 0 0
theorem dl(k:Ke)(l:Rat)(g:Lq)(a b:Rat):Closed (bTk k l g a b):=bi (fe k l g a b)
theorem fs_sys1(k:Ke)(l:Rat)(g:Lq)(a b:Rat)(p:Lq×Lq)(hm:ls p.2 g)(ho:OkIn (aT p.2 g) a b):
    FS 165 [.agg (prC p),bTk k l g a b] (.agg (qC (inQ (aT p.2 g) a b))):=by
 refine f_n Tryz.func165 ?_ ?_;exact ae (aE (fF p)) (ae (dl k l g a b) af);refine r_z 2 ?_;refine ac (r_d aX 10 ?_);refine c_s (vd p.2 g hm) ?_;refine c_s (rW _ a b ho) ?_;refine a_1 ?_;refine aq (n_k ?_);exact ai (c_e (aP _))
def rhK(k:Ke)(g:Lq)(a b:Rat):Lq:=k.map λp=>inQ (aT p.2 g) a b
@[simp] theorem rhK_length (k:Ke)(g:Lq)(a b:Rat):(rhK k g a b).length=k.length:=by simp[rhK]
def syM(k:Ke)(l:Rat)(r:Lq)(a b:Rat):Mx×Ln:=slM (svM (maK k a b) l (λt=>coP r t) k.length) k.length k.length
structure OkSy (k:Ke)(l:Rat)(a b:Rat)(s:Nat):Prop where
 m:OkMa k a b
 q:∀i j,i< k.length->j< k.length->qs (maK k a b i j)+qs l+2<=s
 s:slB s k.length<=100000000000
theorem OkSy.le{k:Ke}{l a b:Rat}{s:Nat}(h:OkSy k l a b s):s<=100000000000:=Nat.le_trans (Br (s:=s) (Nat.zero_le k.length)) h.s
theorem OkSy.bd{k:Ke}{l a b:Rat}{s:Nat}(h:OkSy k l a b s){r:Lq}(hr:∀i,i< k.length->qs (coP r i)<=s):bdM (svM (maK k a b) l (λt=>coP r t) k.length) k.length s:=λi j c e=>by
 unfold svM;by_cases e1:j=k.length;rw[if_pos e1];exact hr i c;rw[if_neg e1];have m:=h.q i j c ω;have f:=cx (maK k a b i j) l;split;have d:=e9 (-(maK k a b i j* l)) 1;rw[dJ] at d;have g:qs 1<=1:=δ
 omega;rw[dJ];omega
theorem vw(k:Ke)(l a b:Rat)(s:Nat)(r:Lq)(h:OkSy k l a b s)(hrl:r.length=k.length)(hr:∀i,i< k.length->qs (coP r i)<=s):
    XSpec Tryz.prog 113 [.lsl 1 0 k.length (some k.length) 1,.agg (qC l),.arr (pE r)] (mzH 3 61 42 (mzO 3 (λ_=>k.length) (λx=>x) k.length) (fiL (maK k a b) k.length k.length)) 40 (syV k.length (syM k l r a b)) [] 1:=by
 have n:=h.m.l;have g:=h.le;have f:=h.bd hr;refine He (maK k a b) l r k.length (slB s k.length) ω hrl h.s (λi j d e=>by have:=h.q i j d e;omega) (λi d=>?_) λc hc i j d e=>Nat.le_trans (Lp f c hc i j d e) (Br hc);have p:=h.q i i d d;have o:=cx (maK k a b i i) l;rw[dJ];omega
theorem tA(k:Ke)(l:Rat)(g:Lq)(a b:Rat)(s:Nat)(h:OkSy k l a b s)(hr:∀p∈k,ls p.2 g/\OkIn (aT p.2 g) a b/\qs (inQ (aT p.2 g) a b)<=s):
    FS 78 [.agg (tkC k l g a b)] (syV k.length (syM k l (rhK k g a b) a b)):=by
 have j:=h.m.l
 have n:=vw k l a b s (rhK k g a b) h ψ λi d=>by
  have e:coP (rhK k g a b) i=inQ (aT k[i].2 g) a b:=by
   unfold coP rhK;rw[List.getD_eq_getElem?_getD];simp[d]
  rw[e];exact(hr _ (List.getElem_mem d)).2.2
 have f:=wU k 165 [bTk k l g a b] (λp=>inQ (aT p.2 g) a b) (ae (dl k l g a b) af) ω λp hp=>fs_sys1 k l g a b p (hr p hp).1 (hr p hp).2.1;have c:Closed (syV k.length (syM k l (rhK k g a b) a b)):=jv _ _ _;refine f_n Tryz.func78 ?_ ?_;exact ae (aE (fe k l g a b)) af;refine r_z 2 ?_;refine AWp.ent (st':=⟨[(1,bTk k l g a b),(2,.lptr 1 0 0)],[(1,some ⟨157,3,[[.emp,.emp,i64 0]]⟩)],2,18⟩) ?_ ?_;have:=fe k l g a b;exact s_f [(1,2)];refine ac (AWp.regAB 5 14 8 aX (sK k a b h.m) (n) (c) rfl rfl rfl rfl rfl rfl rfl rfl rfl rfl κ rfl rfl rfl ?_);refine AY.op0 (.fieldAddr_a rfl TF.h δ) rfl rfl ?_;refine AY.op0 (.fieldAddr_a rfl TF.h δ) rfl rfl ?_;refine AY.op0 (.load_a1 rfl rfl TG.h rfl) rfl rfl ?_;refine AY.op0 (.fieldAddr_a rfl TF.h δ) rfl rfl ?_;refine AY.op0 (.load_a rfl rfl TG.h TS.h (nle rfl)) rfl rfl ?_;refine AY.sp rfl rfl (kAB.a rfl rfl rfl (ae (aH k) (ae (aE (bt a b)) af)) rfl) ?_;refine AY.op0 (.fieldAddr_a rfl TF.h δ) rfl rfl ?_;refine AY.op0 (.fieldAddr_a rfl TF.h δ) rfl rfl ?_;refine AY.op0 (.load_a rfl rfl TG.h TS.h (nle rfl)) rfl rfl ?_;refine AY.op0 (.fieldAddr_a rfl TF.h δ) rfl rfl ?_;refine AY.op0 (.fieldAddr_a rfl TF.h δ) rfl rfl ?_;refine AY.op0 (.load_a1 rfl rfl TG.h rfl) rfl rfl ?_;refine AY.op0 (.makeFunc rfl rfl) rfl rfl ?_;refine AY.op0 (.call rfl rfl rfl (f)) rfl rfl ?_
 refine AY.sp rfl rfl (kAB.b rfl rfl (ArgsB.own (ArgsB.clo rfl (aE (bC l)) (ArgsB.clo rfl (aD _) ArgsB.nil))) rfl) ?_;refine AY.on1 (.store rfl rfl rfl rfl rfl rfl TS.h (nle rfl)) rfl ?_;refine AY.nil ⟨by kernel_rfl,?_⟩;exact ai (c_e (c))
def ze(l:Lw)(k:Nat):Option La:=if k< l.length then some [i64 ((l.length- 1- k:Nat):Int),.arr (pE (l.getD (l.length- 1- k) []))] else none
def bM(l:Lw):AV:= .aptr [[.arr (mE l)]] 0 0
theorem cv(l:Lw):Closed (bM l):=bi (ae (closed_mA l) af)
theorem mE_getD{l:Lw}{i:Nat}(h:i< l.length):(mE l)[i]?=some [.arr (pE (l.getD i []))]:=by
 refine tj ?_ i rfl;rw[List.getD_eq_getElem?_getD,List.getElem?_eq_getElem h];rfl
theorem J9(l:Lw)(hl:l.length<=281474976710656):GSpec Tryz.prog 234 [bM l] (ze l):=by
 refine GSpec.enter Tryz.func234 rfl κ rfl rfl rfl ?_ ?_ rfl ?_;exact ae (cv l) af;intro k xs h;unfold ze at h;split at h;cases h;exact ae (ak _) (ae (aD _) af);cases h;intro b N E;refine GWp.seq ?_;refine GWp.lift ?_;refine r_m 4 ?_;refine a_z ?_;refine GWp.block ?_;refine GWp.loopS (λm:Nat=>⟨[(0,.v (.func (.yield b) #[] #[])),(1,bM l),(3,i64 ((m:Int)- 1))],[],1,19⟩) (λm=>l.length- m) (λm=>m) (λm=>m<=l.length) l.length (Nat.le_refl _) ψ ?_ ?_;have:=cv l;exact s_f [];intro m e;refine GWp.seq ?_;refine GWp.seq ?_;refine GWp.lift ?_;refine r_m 2 ?_;refine a_z ?_;refine GWp.cond rfl (λh=>?_) (λh=>?_)
 ·refine GWp.skip ?_
  have d:1<=m:=by have:=of_decide_eq_true h;omega
  have a:(mE l)[((m:Int)- 1).toNat]?=some [.arr (pE (l.getD (m- 1) []))]:=by rw[show((m:Int)- 1).toNat=m- 1 by omega];exact mE_getD ω
  refine GWp.seq ?_;refine GWp.block ?_;refine GWp.seq ?_;refine GWp.regY (fr2:=[(0,.v (.func (.yield b) #[] #[])),(1,bM l),(3,i64 ((m:Int)- 1)),(11,.v (.func (.yield b) #[] #[])),(12,i64 ((m:Int)- 1)),(16,.arr (pE (l.getD (m- 1) [])))]) (hp2:=[]) (nx2:=1) 6 rfl rfl rfl rfl rfl rfl ?_ rfl rfl rfl ?_ ?_ ?_;refine o_0 (.move rfl) ?_;refine o_0 (.move rfl) ?_;refine bm (.load_a1 rfl rfl TG.h rfl) rfl rfl ?_;refine o_0 (.move rfl) ?_;refine i_x a ?_;refine l_1 a ?_;refine aq ?_;have:=cv l;exact s_t [];rotate_left 2;intro c;refine o_0 (.un rfl px) ?_;refine aq ?_;rotate_left;unfold ze;rw[if_pos ω];have e1:((l.length- 1- (l.length- m):Nat):Int)=(m:Int)- 1:=ω
  have e2:l.length- 1- (l.length- m)=m- 1:=ω
  rw[e1,e2];rfl;exact ae (ak _) (ae (aD _) af);cases c with
  |false=>
   refine GWp.cond rfl (λh=>?_) (λh=>?_);exact GWp.ret ⟨.inr rfl,λh=>by cases h⟩;cases h
  |true=>
   refine GWp.cond rfl (λh=>?_) (λh=>?_);cases h;refine GWp.skip ?_;refine GWp.lift ?_;refine r_m 3 ?_;refine a_z ?_;refine⟨rfl,m- 1,ω,ω,ω,?_⟩;have:=cv l;exact s_f []
 refine GWp.exit ⟨.inl rfl,λ_=>?_⟩;have:m=0:=by have:=of_decide_eq_false h;omega
 subst this;unfold ze;rw[if_neg ω]
theorem KI(l:Lw):FS 172 [.arr (mE l)] (.clos 234 [] [bM l]):=by
 refine f_c Tryz.func172 ?_;refine r_z 2 ?_;refine r_z 2 ?_;refine ai (⟨.inr rfl,[_],⟨_,[],rfl,rfl,rfl⟩,?_⟩);exact Cv.clos av (am (Cv.boxp aF rfl (λ_ _ h=>by cases h) rfl (ae (closed_mA l) af)) av)
theorem Eg(p:Lq)(hp:p.length<=1099511627776):FS 81 [.arr (pE p),.arr (mE [])] (.arr (pE (ap p))):=by
 have hb:=KI [];have b:=J9 [] ψ;have d:=dK p hp;refine f_c Tryz.func81 ?_;refine r_z 2 ?_;refine ac (r_c 2 (hb) ?_);refine aq ?_;refine aC (λ_:Unit=>⟨[(2,.lptr 1 0 0)],[(1,some ⟨62,1,[[.arr (pE p)]]⟩)],2,28⟩) (λ_=>True) ?_ ?_;refine ah (AWp.rangeFunc (α:=Unit) (γ:=Empty) 0 (λ_=>⟨[(2,.lptr 1 0 0),(9,.clos 234 [] [bM []])],[(1,some ⟨62,1,[[.arr (pE p)]]⟩)],2,28⟩) (λ_=>0) (λ_=>True) (λe=>nomatch e) (λ_ e=>nomatch e) () rfl b rfl rfl ?_ (λ_=>⟨rfl,rfl⟩) (λe=>nomatch e) trivial rfl (λ_ _=>Nat.le_refl _) ?_ ?_ ?_ ?_ (λ_ e=>nomatch e));intro k xs a;exact absurd a (by unfold ze;simp);refine s_y [(1,2)] (λhs=>?_) (λhs=>?_)
 ·repeat' (first|exact aL|refine az rfl ?_ ?_|exact ao hs (a6 af (ae (cv []) af))|exact aW)
 ·repeat' (first|exact aB|refine h_c ?_ ?_|exact bG|refine aA ?_|exact av|refine am ?_ ?_|exact ao hs (a6 af (ae (cv []) af))|exact aW)
 exact ae (cv []) af;intro l k xs c a;exact absurd a (by unfold ze;simp);intro k c a;refine⟨(),trivial,?_⟩;exact s_e [];rintro _ _;refine r_c 3 (d) ?_;refine a_z ?_;exact ai (t_e (aD _))
def ixS(L:Ln)(f:Nat):Nat->AState
 |i=>⟨[(0,.arr (lvE L)),(1,i64 f),(7,i64 L.length),(8,i64 i)],[],1,19⟩
theorem If(L:Ln)(f:Nat)(hl:L.length<=1099511627776):FS 274 [.arr (lvE L),i64 f] (i64 (kT (λc:Nat=>((f:Int)==(c:Int))) L 0)):=by
 have h:(lvE L).length=L.length:=mS L;refine f_n Tryz.func274 ?_ ?_;exact ae (aK (ff L)) (ae (ak _) af);obtain⟨R,g⟩:∃R,R=kT (λc:Nat=>((f:Int)==(c:Int))) L 0:=⟨_,rfl⟩;rw[<-g];refine r_z 1 ?_;refine ac (r_z 3 ?_);refine aC (λ_:Unit=>⟨[],[],1,19⟩) (λ_=>R= -1) ?_ ?_;refine ah (ay (ixS L f) (λi=>L.length- i) (λi=>i<=L.length/\kT (λc:Nat=>((f:Int)==(c:Int))) (L.drop i) i=R) 0 ⟨Nat.zero_le _,by rw[g];rfl⟩ ?_ ?_);simp only[ixS.eq_1];have:=(aK (ff L));exact s_f [];rintro i ⟨j,a⟩;rw[ixS.eq_1];by_cases hlt:i< L.length;refine q_z 1 ?_;refine ac (cT (aj ?_));obtain⟨c,hc⟩:∃c,L[i]?=some c:=⟨_,List.getElem?_eq_getElem hlt⟩;have b:(lvE L)[((i:Nat):Int).toNat]?=some [i64 c]:=Gg hc _ ψ;rw[AO hc,kT] at a;refine ac (ah (r_z 2 ?_));refine s_r 6 ?_;refine a_3 ?_;refine i_x b ?_;refine l_1 b ?_;refine a_z ?_;refine ar rfl (λe=>?_) (λe=>?_);rw[if_pos e] at a;refine r_z 2 ?_;refine ai (aS rfl ?_ ?_);rw[<-a];exact ak _;rw[if_neg (by rw[e];decide)] at a;refine aj (r_m 2 ?_);refine a_z ?_;refine⟨i+1,ω,⟨hlt,a⟩,?_⟩;simp only[ixS.eq_1];have:=(aK (ff L));exact s_f [];have d:i=L.length:=ω
 subst d;refine q_z 1 ?_;refine ac (cF ?_);rw[List.drop_length] at a;refine ax ⟨(),a.symm,?_⟩;exact s_e [];rintro _ a;refine r_z 1 ?_;refine ai (aS rfl ?_ ?_);rw[a];rfl;exact ak _
theorem sI(f:Nat):∀L:Ln,L.any (λc:Nat=>((f:Int)==(c:Int)))=L.contains f
 |[]=>rfl
 |a::L=>by
  rw[List.any_cons,sI f L,List.contains_cons];refine congrArg (· ||L.contains f) ?_;cases hb:(f==a) with
  |true=>rw[eq_of_beq hb];exact beq_self_eq_true _
  |false=>
   have b:¬f=a:=λe=>by rw[e] at hb;simp at hb
   exact beq_eq_false_iff_ne.2 ω
theorem AC(L:Ln)(f:Nat)(hl:L.length<=1099511627776):FS 233 [.arr (lvE L),i64 f] (bln (L.contains f)):=by
 have e:=rz (λc:Nat=>((f:Int)==(c:Int))) L 0 (Int.le_refl 0);rw[sI] at e;have a:=If L f hl;refine f_n Tryz.func233 ?_ ?_;exact ae (aK (ff L)) (ae (ak _) af);refine r_z 1 ?_;refine r_c 5 (a) ?_;refine a_z ?_;refine ai (aS rfl ?_ ?_);rw[<-e];rfl;exact ak _
def z0S(A:Mx)(n:Nat)(L:Ln):Nat->AState
 |f=>⟨[(1,bSy n A L),(3,.emp),(9,i64 n),(10,i64 f)],[],1,51⟩
theorem HQ(A:Mx)(n:Nat)(L:Ln)(hn:n<=25)(hLn:L.length<=n)(hL:∀f,f< n->L.contains f=true):FS 171 [syV n (A,L)] (.arr (mE [])):=by
 refine f_n Tryz.func171 ?_ ?_;exact ae (jv n A L) af;refine r_z 2 ?_;refine AWp.ent (st':=⟨[(1,bSy n A L)],[],1,51⟩) ?_ ?_;have:=eN n A L;exact s_f [];refine r_z 1 ?_;refine ac (r_z 3 ?_);refine aC (λ_:Unit=>⟨[(3,.emp)],[],1,51⟩) (λ_=>True) ?_ ?_;refine ah (ay (z0S A n L) (λf=>n- f) (λf=>f<=n) 0 (Nat.zero_le _) ?_ ?_);rw[z0S.eq_1];have:=db n A L;exact s_f [];intro f a;rw[z0S.eq_1];by_cases hlt:f< n;have hc:=AC L f ω;rw[hL f hlt] at hc;refine q_z 1 ?_;refine ac (cT (aj (ac (ah (r_z 2 ?_)))));refine ac (r_c 4 (hc) ?_);refine aq ?_;refine cT (ax (r_m 2 ?_));refine a_z ?_;refine⟨f+1,ω,ω,?_⟩;rw[z0S.eq_1];have:=db n A L;exact s_f [];refine q_z 1 ?_;refine ac (cF (ax ⟨(),trivial,?_⟩));exact s_e [];rintro _ _;refine r_z 2 ?_;exact ai (Fin.tmpN rfl)
theorem H2(g:Nat)(bn:La)(hb:∀c∈bn,Closed c):FS 170 [.arr (mE []),.clos g bn []] (.arr (mE [])):=by
 have a:Closed (.clos g bn []):=a6 hb af;refine f_c Tryz.func170 ?_;refine r_z 1 ?_;refine r_z 1 ?_;refine ac (r_z 3 ?_);refine aC (λ_:Unit=>⟨[(5,.emp)],[],1,22⟩) (λ_=>True) ?_ ?_;refine ah (ay (λ_:Unit=>⟨[(5,.emp),(9,i64 0),(10,i64 0)],[],1,22⟩) (λ_=>0) (λ_=>True) () trivial ?_ ?_);exact s_e [];rintro _ _;refine q_z 1 ?_;refine ac (cF (ax ⟨(),trivial,?_⟩));exact s_e [];rintro _ _;refine r_z 2 ?_;exact ai (Fin.tmpN rfl)
theorem B9:FS 169 [.arr (mE [])] (.arr (mE [])):=by
 refine f_c Tryz.func169 ?_;refine r_z 1 ?_;refine r_z 1 ?_;refine ac (r_z 3 ?_);refine aC (λ_:Unit=>⟨[(3,.emp)],[],1,49⟩) (λ_=>True) ?_ ?_;refine ah (ay (λ_:Unit=>⟨[(3,.emp),(8,i64 0),(9,i64 0)],[],1,49⟩) (λ_=>0) (λ_=>True) () trivial ?_ ?_);exact s_e [];rintro _ _;refine q_z 1 ?_;refine ac (cF (ax ⟨(),trivial,?_⟩));exact s_e [];rintro _ _;refine r_z 2 ?_;exact ai (Fin.tmpN rfl)
theorem Kt(k:Ke)(l:Rat)(g:Lq)(a b:Rat)(A:Mx)(n:Nat)(L:Ln)(hz:FS 171 [syV n (A,L)] (.arr (mE []))):FS 80 [.agg (tkC k l g a b),syV n (A,L)] (.arr (mE [])):=by
 have c:=H2 83 [.arr (kE k)] (ae (aH k) af);have d:=B9;refine f_n Tryz.func80 ?_ ?_;exact ae (aE (fe k l g a b)) (ae (jv n A L) af);refine r_z 3 ?_;refine AWp.ent (st':=⟨[(2,bTk k l g a b),(3,bSy n A L)],[],1,13⟩) ?_ ?_;refine s_x [] (λhs=>?_) (λhs=>?_)
 ·repeat' (first|exact aL|refine az rfl ?_ ?_|exact Cv.boxp hs rfl (aG rfl) rfl (fe k l g a b)|exact Cv.boxp hs rfl (aG rfl) rfl (eN n A L)|exact aW)
 ·repeat' (first|exact aB|refine h_c ?_ ?_|exact bG|refine aA ?_|exact av|refine am ?_ ?_|exact Cv.boxp hs rfl (aG rfl) rfl (fe k l g a b)|exact Cv.boxp hs rfl (aG rfl) rfl (eN n A L)|exact aW)
 refine ac (r_d aX 9 ?_);refine c_s (hz) ?_;refine c_s (c) ?_;refine c_s (d) ?_;refine a_1 ?_;refine aq (n_k ?_);exact ai (t_e (closed_mA _))
def vH(k:Ke)(l:Rat)(g:Lq)(a b:Rat):Lq:=z7 (syM k l (rhK k g a b) a b).1 k.length (syM k l (rhK k g a b) a b).2
def syU(k:Ke)(l:Rat)(g:Lq)(a b:Rat):Lq:=fR g (aR (smK k (vH k l g a b) k.length) l)
structure OkTa (k:Ke)(l:Rat)(g:Lq)(a b:Rat)(s:Nat):Prop where
 ke:pp k
 ha:sm a
 hb:sm b
 ab:a<=b
 dg:dt g<=20
 gl:g.length<=1099511627776
 sy:OkSy k l a b s
 rh:∀p∈k,ls p.2 g/\OkIn (aT p.2 g) a b/\qs (inQ (aT p.2 g) a b)<=s
structure OkSu (k:Ke)(l:Rat)(g:Lq)(a b:Rat):Prop where
 ms:∀i p,k[i]?=some p->OkSm k (vH k l g a b) i p
 u1:smL (smK k (vH k l g a b) k.length)
 u2:(smK k (vH k l g a b) k.length).length<=1099511627776
 sl:sm l
 sg:smL g
 v1:smL (aR (smK k (vH k l g a b) k.length) l)
 v2:(aR (smK k (vH k l g a b) k.length) l).length<=1099511627776
theorem OkTa.none{k:Ke}{l:Rat}{g:Lq}{a b:Rat}{s:Nat}(h:OkTa k l g a b s):FS 79 [syV k.length (syM k l (rhK k g a b) a b)] (bln (yx k.length (syM k l (rhK k g a b) a b).1 (syM k l (rhK k g a b) a b).2)):=
 Ko (syM k l (rhK k g a b) a b).1 k.length (syM k l (rhK k g a b) a b).2 (lf _ _ _).len (by have:=h.ke.1;omega)
theorem H8(k:Ke)(l:Rat)(g:Lq)(a b:Rat)(s:Nat)(h:OkTa k l g a b s)(h2:OkSu k l g a b)(hL:∀f,f< k.length->(syM k l (rhK k g a b) a b).2.contains f=true)(hN:yx k.length (syM k l (rhK k g a b) a b).1 (syM k l (rhK k g a b) a b).2=false)(hu:(syU k l g a b).length<=1099511627776):
    FS 27 [.agg (eqC k l g),.agg (spC a b)] (.tup [.arr (pE (ap (syU k l g a b))),.arr (mE []),i64 0]):=by
 have p:=h.ke.1;have m:=kg k l g a b h.ke h.ha h.hb h.ab h.dg h.gl;have hs:=tA k l g a b s h.sy h.rh;have j:=h.none;rw[hN] at j;have q:=HQ (syM k l (rhK k g a b) a b).1 k.length (syM k l (rhK k g a b) a b).2 ω (lf _ _ _).len hL;have n:=Kt k l g a b _ _ _ q;have o:=As (syM k l (rhK k g a b) a b).1 k.length (syM k l (rhK k g a b) a b).2 (lf _ _ _) ω;have c:=GA k (vH k l g a b) (by unfold vH;simp) ω h2.ms;have d:=jO _ l h2.u1 h2.sl h2.u2;have e:=pS g _ h2.sg h2.v1 h.gl h2.v2;have i:=Eg (syU k l g a b) hu;refine f_n Tryz.func27 ?_ ?_;exact ae (aE (eP k l g)) (ae (aE (bt a b)) af);refine r_z 5 ?_;refine r_z 5 ?_;refine AWp.ent (st':=⟨[(7,bTk k l g a b)],[],1,38⟩) ?_ ?_;have:=fe k l g a b;exact s_f [];refine ac (r_c 2 (m) ?_);refine aq ?_;refine cF (aj (r_c 4 (hs) ?_));refine a_z ?_;refine AWp.ent (st':=⟨[(7,bTk k l g a b),(8,bSy k.length (syM k l (rhK k g a b) a b).1 (syM k l (rhK k g a b) a b).2)],[],1,38⟩) ?_ ?_;exact s_x [] (λhs=>e_54) (λhs=>e_55);refine ac (r_c 2 (j) ?_);refine aq ?_;refine cF (aj (r_c 4 (n) ?_));refine a_z ?_;refine ac (r_d aX 20 ?_);refine c_s (o) ?_;refine c_s (c) ?_;refine c_s (d) ?_;refine c_s (e) ?_;refine c_s (i) ?_;refine a_4 ?_;refine aq (n_k ?_);refine ai (Fin.many ⟨_,_,rfl,rfl,⟨_,_,rfl,rfl,⟨_,_,rfl,rfl,rfl⟩⟩⟩ (nle rfl) ?_);exact am (ao aF (aD _)) (am (ao aF (closed_mA _)) (am (ao aF (ak _)) av))
theorem H7(k:Ke)(l:Rat)(g:Lq)(a b:Rat)(s:Nat)(h:OkTa k l g a b s)(hN:yx k.length (syM k l (rhK k g a b) a b).1 (syM k l (rhK k g a b) a b).2=true):
    FS 27 [.agg (eqC k l g),.agg (spC a b)] (.tup [.arr (pE []),.arr (mE []),i64 12]):=by
 have e:=h.ke.1;have d:=kg k l g a b h.ke h.ha h.hb h.ab h.dg h.gl;have hs:=tA k l g a b s h.sy h.rh;have c:=h.none;rw[hN] at c;refine f_n Tryz.func27 ?_ ?_;exact ae (aE (eP k l g)) (ae (aE (bt a b)) af);refine r_z 5 ?_;refine r_z 5 ?_;refine AWp.ent (st':=⟨[(7,bTk k l g a b)],[],1,38⟩) ?_ ?_;have:=fe k l g a b;exact s_f [];refine ac (r_c 2 (d) ?_);refine aq ?_;refine cF (aj (r_c 4 (hs) ?_));refine a_z ?_;refine AWp.ent (st':=⟨[(7,bTk k l g a b),(8,bSy k.length (syM k l (rhK k g a b) a b).1 (syM k l (rhK k g a b) a b).2)],[],1,38⟩) ?_ ?_;exact s_x [] (λhs=>e_54) (λhs=>e_55);refine ac (r_c 2 (c) ?_);refine aq ?_;refine cT (r_z 3 ?_);refine ai (Fin.many ⟨_,_,rfl,rfl,⟨_,_,rfl,rfl,⟨_,_,rfl,rfl,rfl⟩⟩⟩ (nle rfl) ?_);exact am (Cv.emp _) (am (Cv.emp _) (am (ao aF (ak _)) av))
def sqR(n:Nat)(A:Mx):Lw:=(List.range n).map λk=>aN n (A k)
@[simp] theorem Dw (n:Nat)(A:Mx):(sqR n A).length=n:=by simp[sqR]
theorem zD{n i:Nat}{A:Mx}(h:i< n):(sqR n A)[i]?=some (aN n (A i)):=by simp[sqR,h]
theorem AH(n:Nat)(A:Mx):(fiL A n n).map (λe=>([.arr e]:La))=mE (sqR n A):=by
 rw[fiL_rwL,I6];rfl
theorem wR(k:Ke)(a b:Rat)(h:OkMa k a b):FS 121 [.arr (kE k),.agg (spC a b)] (.arr (mE (sqR k.length (maK k a b)))):=by
 have:=(sK k a b h).shut rfl (ae (aH k) (ae (aE (bt a b)) af))
  (Cv.mzShut (r:=⟨0,λi=>i⟩) (show(3:Nat)≠0 by decide) aF (λ_=>rfl) (kY _ _ _).symm (λi e h=>by have:=(oj h).2;subst this;simp[pE]) λe d x f c hc=>by
   obtain⟨k,_,rfl⟩:=List.mem_map.1 d;exact aQ _ x f c hc) (by rw[AH];exact closed_mA _)
 rw[AH] at this;exact this
def trQ(A:Mx)(i:Nat):Rat:=sQ (λt=>A t t) i
def tcS(pM:Nat->Mx)(n ll j:Nat):Nat->AState
 |i=>⟨[(0,.v (.func (.yield ll) #[] #[])),(1,bM (sqR n (pM 0))),(3,.arr (mE (sqR n (pM j)))),(4,.lptr 1 0 0),(11,i64 n),(12,i64 i)],[(1,some ⟨42,3,[qC (trQ (pM j) i)]⟩)],2,29⟩
theorem yL(pM:Nat->Mx)(n K:Nat)(hn:n<=25)(hs:∀j,j<=K->∀i,i< n->qs (trQ (pM j) i)+qs (pM j i i)<=549755813888)(hmul:∀j,j< K->FS 216 [.arr (mE (sqR n (pM j))),.arr (mE (sqR n (pM 0)))] (.arr (mE (sqR n (pM (j+1)))))):
    GSpecB Tryz.prog 215 [bM (sqR n (pM 0))] (λj=>some [.agg (qC (trQ (pM j) n))]) K:=by
 refine GSpecB.enter Tryz.func215 rfl κ rfl rfl rfl ?_ ?_ rfl ?_;exact ae (cv _) af;intro j xs h;cases h;exact ae (aP _) af;intro ll N hN E;refine GWp.seq ?_;refine GWp.lift ?_;refine r_m 2 ?_;refine a_z ?_;refine GWp.block ?_;refine GWp.loopS (λj:Nat=>⟨[(0,.v (.func (.yield ll) #[] #[])),(1,bM (sqR n (pM 0))),(3,.arr (mE (sqR n (pM j))))],[],1,29⟩) (λj=>j) (λj=>N+1- j) (λj=>j<=N) 0 (Nat.zero_le _) rfl ?_ ?_;exact s_x [] (λhs=>e_9) (λhs=>KQ);intro j l;have k:(mE (sqR n (pM j))).length=n:=ψ
 refine GWp.seq ?_;refine GWp.block ?_;refine GWp.seq ?_;refine GWp.lift ?_;refine r_m 1 ?_;refine a_z ?_;refine GWp.seq ?_;refine GWp.seq ?_;refine GWp.lift ?_;refine r_m 3 ?_;refine a_z ?_;refine GWp.cutT (λ_:Unit=>tcS pM n ll j n) (λ_=>True) ?_ ?_;refine ah (ay (tcS pM n ll j) (λi=>n- i) (λi=>i<=n) 0 (Nat.zero_le _) ?_ ?_);rw[tcS.eq_1];refine s_x [(1,4)] (λhs=>e_9) (λhs=>?_)
 ·repeat' (first|exact aB|refine h_c ?_ ?_|exact CvLL.zeros hs 1|exact bG|refine aA ?_|exact av|refine am ?_ ?_|exact ao hs (cv _)|exact ao hs (closed_mA _)|exact aW)
 intro i m;rw[tcS.eq_1];by_cases hlt:i< n;have a:(mE (sqR n (pM j)))[((i:Nat):Int).toNat]?=some [.arr (pE (aN n (pM j i)))]:=tj (zD hlt) _ ψ;have b:(pE (aN n (pM j i)))[((i:Nat):Int).toNat]?=some (qC (pM j i i)):=eJ hlt _ ψ;have g:(pE (aN n (pM j i))).length=n:=by simp[pE]
 have e:=fD (trQ (pM j) i) (pM j i i) (hs j ω i hlt);refine q_z 1 ?_;refine ac (cT (aj (ac (ah (r_z 2 ?_)))));refine r_d aX 10 ?_;refine a_3 ?_;refine i_x a ?_;refine l_1 a ?_;refine a_1 ?_;refine i_x b ?_;refine l_x b ?_;refine c_s (e) ?_;refine a_1 ?_;refine aq (n_k ?_);refine r_m 2 ?_;refine a_z ?_;refine⟨i+1,ω,ω,?_⟩;rw[tcS.eq_1];exact s_x [] (λhs=>e_9) (λhs=>KQ);have c:i=n:=ω
 subst c;refine q_z 1 ?_;refine ac (cF (ax ⟨(),trivial,?_⟩));exact s_x [] (λhs=>e_9) (λhs=>KQ);rintro _ _;rw[tcS.eq_1];refine GWp.seq ?_;refine GWp.regY (fr2:=[(0,.v (.func (.yield ll) #[] #[])),(1,bM (sqR n (pM 0))),(3,.arr (mE (sqR n (pM j)))),(25,.v (.func (.yield ll) #[] #[])),(26,.agg (qC (trQ (pM j) n)))]) (hp2:=[]) (nx2:=1) 2 rfl rfl rfl rfl rfl rfl ?_ rfl rfl rfl ?_ ?_ ?_;refine o_0 (.move rfl) ?_;refine bm (.load_l rfl rfl rfl TG.h TS.h (nle rfl)) rfl rfl ?_;refine aq ?_;exact s_y [] (λhs=>e_9) (λhs=>KQ);rotate_left 2;intro f;refine o_0 (.un rfl px) ?_;refine aq ?_;rotate_left;rfl;exact ae (aP _) af;cases f with
 |false=>
  refine GWp.cond rfl (λh=>?_) (λh=>?_);exact GWp.ret ⟨.inr rfl,λh=>by cases h⟩;cases h
 |true=>
  refine GWp.bound λd=>?_;refine GWp.cond rfl (λh=>?_) (λh=>?_);cases h;refine GWp.skip ?_;refine GWp.lift ?_;refine r_m 4 ?_;refine c_s (hmul j ω) ?_;refine a_z ?_;refine⟨rfl,j+1,ω,d,rfl,?_⟩;exact s_x [] (λhs=>e_9) (λhs=>KQ)
theorem yM(l:Lw):FS 139 [.arr (mE l)] (.clos 215 [] [bM l]):=by
 refine f_c Tryz.func139 ?_;refine r_z 2 ?_;refine r_z 2 ?_;refine ai (⟨.inr rfl,[_],⟨_,[],rfl,rfl,rfl⟩,?_⟩);exact Cv.clos av (am (Cv.boxp aF rfl (λ_ _ h=>by cases h) rfl (ae (closed_mA l) af)) av)
def dtS(k:Ke)(M:Lw):Unit->AState
 |u=>⟨[(2,bKe k),(5,.lptr 1 0 0),(6,.lptr 2 0 0),(20,.clos 215 [] [bM M])],[(1,some ⟨62,1,[[.lsl 3 0 1 none 3]]⟩),(2,some ⟨61,1,[[.emp]]⟩),(3,some ⟨42,3,[qC ((1:Int):Rat)]⟩)],4,60⟩
def dtX(c:Rat):Unit->AState
 |u=>⟨[(5,.lptr 1 0 0)],[(1,some ⟨62,1,[[.lsl 3 0 2 none 3]]⟩),(3,some ⟨42,3,[qC ((1:Int):Rat),qC c]⟩)],4,60⟩
def dtI(k:Ke)(t:Rat)(w:Nat->Rat)(i:Nat):AState:=⟨[(2,bKe k),(5,.lptr 1 0 0),(6,.lptr 2 0 0),(8,i64 1),(9,.lptr 5 0 0),(28,.lsl 4 0 1 none 3),(29,i64 1),(30,i64 i),(1005,.lptr 1 0 0)],[(1,some ⟨62,1,[[.lsl 3 0 1 none 3]]⟩),(2,some ⟨61,1,[[.lsl 4 0 1 none 3]]⟩),(3,some ⟨42,3,[qC ((1:Int):Rat)]⟩),(4,some ⟨42,3,[qC t]⟩),(5,some ⟨42,3,[qC (w i)]⟩)],6,60⟩
def dtC(t:Rat):Nat->Rat
 |0=>0
 |_+1=>0- t* ((1:Int):Rat)
def deV(t:Rat):Lq:=[((1:Int):Rat),dtC t 1/ ((1:Int):Rat)]
theorem fs_det1(p:Lq×Lq)(a b:Rat)(h:OkMa [p] a b)(hs:qs (maK [p] a b 0 0)<=100000000000):
    FS 52 [.arr (kE [p]),.agg (spC a b)] (.arr (pE (ap (deV (trQ (maK [p] a b) 1))))):=by
 have i1:=eD 1 δ;have hm:=wR [p] a b h;obtain⟨A,hA⟩:∃A,A=maK [p] a b:=⟨_,rfl⟩;rw[<-hA] at hm hs⊢;have hq1:qs ((1:Int):Rat)<=1:=δ
 have hgs:=yL (λ_=>A) 1 0 ω (λj hj i hi=>by
  obtain rfl:i=0:=ω
  show qs (0:Rat)+qs (A 0 0)<=_;have:qs (0:Rat)<=1:=δ
  omega) (λj hj=>ω)
 have htr:=yM (sqR 1 A);obtain⟨t,ht⟩:∃t,t=trQ A 1:=⟨_,rfl⟩
 have hqt:qs t<=100000000002:=by
  rw[ht];show qs (0+A 0 0)<=_;have:=e9 0 (A 0 0);have:qs (0:Rat)<=1:=δ
  omega
 simp only[<-ht] at hgs⊢;have hmu:=dk t ((1:Int):Rat) ω
 have hsu:=kU 0 (t* ((1:Int):Rat)) (by have:=cx t ((1:Int):Rat);have:qs (0:Rat)<=1:=δ
                                       omega)
 have hov:=oe (dtC t 1) ((1:Int):Rat) δ (by
  have h1:=lK 0 (t* ((1:Int):Rat));have h2:=cx t ((1:Int):Rat);have h3:qs (0:Rat)<=1:=δ
  show qs (0- t* ((1:Int):Rat))+_<=_;omega)
 have hti:=dK (deV t) (by simp[deV]);refine f_n Tryz.func52 ?_ ?_;exact ae (aH [p]) (ae (aE (bt a b)) af);refine r_z 3 ?_;refine AWp.ent (st':=⟨[(2,bKe [p]),(3,bSp a b)],[],1,60⟩) ?_ ?_;refine s_x [] (λhs=>?_) (λhs=>?_)
 ·repeat' (first|exact aL|refine az rfl ?_ ?_|exact Cv.boxp hs rfl (aG rfl) rfl (ae (aH [p]) af)|exact Cv.boxp hs rfl (aG rfl) rfl (bt a b)|exact aW)
 ·repeat' (first|exact aB|refine h_c ?_ ?_|exact bG|refine aA ?_|exact av|refine am ?_ ?_|exact Cv.boxp hs rfl (aG rfl) rfl (ae (aH [p]) af)|exact Cv.boxp hs rfl (aG rfl) rfl (bt a b)|exact aW)
 refine r_c 4 (i1) ?_;refine a_z ?_;refine r_z 1 ?_;refine ac (s_r 3 ?_);refine a_2 ?_;refine o_0 (.bin rfl rfl (vT jb (rfl))) ?_;refine aq ?_;refine aC (λ_:Unit=>dtX (dtC t 1/ ((1:Int):Rat)) ()) (λ_=>True) ?_ ?_;refine cT (r_c 4 (hm) ?_);refine c_s (htr) ?_;refine aq ?_;refine ah (AWp.rangeFuncB (α:=Unit) (γ:=Unit) 0 (dtS [p] (sqR 1 A)) (λ_=>0) (λ_=>True) (dtX (dtC t 1/ ((1:Int):Rat))) (λe _=>e= .exit 0) () rfl hgs rfl rfl ?_ (λ_=>⟨rfl,rfl⟩) (λ_=>rfl) trivial rfl (λ_ _=>Nat.le_refl _) ?_ ?_ ?_ ?_ ?_);intro j xs hT;cases hT;rfl;rw[dtS.eq_1];refine s_y [(1,5),(2,6),(3,13)] (λhs=>?_) (λhs=>?_)
 ·repeat' (first|exact aL|refine az rfl ?_ ?_|exact ao hs (dm [p])|exact ao hs (a6 af (ae (cv _) af))|exact aW)
 ·repeat' (first|exact aB|refine h_c ?_ ?_|exact bG|refine aA ?_|exact av|refine am ?_ ?_|exact ao hs (dm [p])|exact ao hs (a6 af (ae (cv _) af))|exact aW)
 exact ae (cv _) af
 ·intro ll j xs hj hT
  cases hT;show AWp _ _ _ _ ⟨[(21,.agg (qC t)),(2,bKe [p]),(5,.lptr 1 0 0),(6,.lptr 2 0 0),(20,.clos 215 [] [bM (sqR 1 A)]),(1002,bKe [p]),(1005,.lptr 1 0 0),(1006,.lptr 2 0 0),(1020,.clos 215 [] [bM (sqR 1 A)])],[(1,some ⟨62,1,[[.lsl 3 0 1 none 3]]⟩),(2,some ⟨61,1,[[.emp]]⟩),(3,some ⟨42,3,[qC ((1:Int):Rat)]⟩)],4,60⟩;refine r_m 2 ?_;refine a_z ?_;refine ah (s_r 5 ?_);refine a_3 ?_;refine AR.op1 (.append_e rfl rfl rfl te_61.h rfl rfl rfl (.lsl rfl (nle rfl)) (by first|assumption|(simp;done)) TZ.h rfl TB.h d_o μ) rfl rfl ?_;refine a_z ?_;refine r_z 3 ?_;refine r_z 1 ?_;refine ac (r_z 3 ?_);refine aC (λ_:Unit=>dtI [p] t (dtC t) 1) (λ_=>True) ?_ ?_;refine ah (ay (dtI [p] t (dtC t)) (λi=>1- i) (λi=>i<=1) 0 (Nat.zero_le _) ?_ ?_);rw[dtI.eq_1];refine s_z [(1,5),(2,6),(3,100003),(4,28),(5,9)] (λhs=>e_23) (λhs=>?_)
  ·repeat' (first|exact aB|refine h_c ?_ ?_|exact CvLL.zeros hs 1|exact bG|refine aA ?_|exact av|refine am ?_ ?_|exact ao hs (dm [p])|exact aW)
  intro i hi;by_cases h1:i< 1;obtain rfl:i=0:=ω
  rw[dtI.eq_1];refine s_r 1 ?_;refine o_0 (.bin rfl rfl (vT ei (rfl))) ?_;refine aq ?_;refine ac (cT (aj (ac (ah (r_z 6 ?_)))));refine r_d aX 12 ?_;refine c_s (hmu) ?_;refine c_s (hsu) ?_;refine a_1 ?_;refine aq (n_k ?_);refine r_m 2 ?_;refine a_z ?_;refine⟨1,ω,ω,?_⟩;rw[dtI.eq_1];exact s_z [(1,5),(2,6),(3,100003),(4,28),(5,9)] (λhs=>e_23) (λhs=>e_56);obtain rfl:i=1:=ω
  rw[dtI.eq_1];refine s_r 1 ?_;refine o_0 (.bin rfl rfl (vF ei (rfl))) ?_;refine aq ?_;refine ac (cF (ax ⟨(),trivial,?_⟩));exact s_z [(1,5),(2,6),(3,100003),(4,28),(5,9)] (λhs=>e_23) (λhs=>e_56);rintro _ _;rw[dtI.eq_1];refine ac (r_d aX 8 ?_);refine c_s (i1) ?_;refine c_s (hov) ?_;refine a_3 ?_;refine aq (n_k ?_);refine s_r 4 ?_;refine a_3 ?_;refine o_0 (.bin rfl rfl (vT bJ (rfl))) ?_;refine aq ?_;refine cT (ax (⟨rfl,(),rfl,?_⟩));show SEntT _ ⟨[(1005,.lptr 1 0 0)],[(1,some ⟨62,1,[[.lsl 3 0 2 none 3]]⟩),(3,some ⟨42,3,[qC ((1:Int):Rat),qC (dtC t 1/ ((1:Int):Rat))]⟩)],4,60⟩;have:=(aQ [((1:Int):Rat),dtC t 1/ ((1:Int):Rat)]);exact s_t [(1,5),(3,53)]
 intro j hj hT;cases hT;rintro e u rfl;exact⟨u,trivial,SEnt.refl _⟩;rintro _ _;rw[dtX.eq_1];refine s_r 3 ?_;refine a_1 ?_;refine o_1 (.callS1 rfl rfl rfl (.shut rfl d_n (.nil)) rfl (hti)) ?_;refine a_z ?_;exact ai (t_e (aD _))
theorem fs_Det1(p:Lq×Lq)(a b:Rat)(hke:pp [p])(ha:sm a)(hb:sm b)(hab:a<=b)(h:OkMa [p] a b)(hs:qs (maK [p] a b 0 0)<=100000000000):
    FS 12 [.arr (kE [p]),.agg (spC a b)] (.tup [.arr (pE (ap (deV (trQ (maK [p] a b) 1)))),i64 0]):=by
 have d:=o0 [p] a b hke ha hb hab;have c:=fs_det1 p a b h hs;refine f_n Tryz.func12 ?_ ?_;exact ae (aH [p]) (ae (aE (bt a b)) af);refine r_z 3 ?_;refine ac (r_c 3 (d) ?_);refine aq ?_;refine cF (aj (r_c 5 (c) ?_));refine a_z ?_;refine ai (Fin.many ⟨_,_,rfl,rfl,⟨_,_,rfl,rfl,rfl⟩⟩ (nle rfl) ?_);exact am (ao aF (aD _)) (am (ao aF (ak _)) av)
theorem B3(p:Lq)(lo hi:Rat)(gr:Int)(v:Sp)(hR:FS 202 [.arr (pE p),.agg (spC lo hi),i64 gr] (.tup [.agg (spC v.1 v.2),i64 0]))(h1:sm v.1)(h2:sm v.2):FS 117 [.agg (spC lo hi++[i64 gr]),.arr (pE p)] (.agg (qC (Fg v))):=by
 have a:∀c∈spC lo hi++[i64 gr],Closed c:=λc hc=>(List.mem_append.1 hc).elim (bt lo hi c) (ae (ak _) af c);refine f_c Tryz.func117 ?_;refine r_z 2 ?_;refine r_c 12 (hR) ?_;refine a_z ?_;refine r_c 4 (fs_SAbs v h1 h2) ?_;refine a_z ?_;exact ai (c_e (aP _))
def szC(a b:Rat)(gr:Int):AV:= .clos 117 [.agg (spC a b++[i64 gr])] []
theorem qz(a b:Rat)(gr:Int):Closed (szC a b gr):=a6 (ae (aE λc hc=>(List.mem_append.1 hc).elim (bt a b c) (ae (ak _) af c)) af) af
def bSz(a b:Rat)(gr:Int):AV:= .aptr [[szC a b gr]] 0 0
theorem dZ(a b:Rat)(gr:Int):Closed (bSz a b gr):=bi (ae (qz a b gr) af)
theorem fs_Clo1(p:Lq×Lq)(a b:Rat)(gr:Int)(v:Rat)(h:FS 117 [.agg (spC a b++[i64 gr]),.arr (pE p.1)] (.agg (qC v))):FS 119 [.agg (prC p),bSz a b gr] (.agg (qC v)):=by
 refine f_n Tryz.func119 ?_ ?_;exact ae (aE (fF p)) (ae (dZ a b gr) af);refine r_z 2 ?_;refine r_c 5 (h) ?_;refine a_z ?_;exact ai (c_e (aP _))
theorem fs_Clo2(p:Lq×Lq)(a b:Rat)(gr:Int)(v:Rat)(h:FS 117 [.agg (spC a b++[i64 gr]),.arr (pE p.2)] (.agg (qC v))):FS 120 [.agg (prC p),bSz a b gr] (.agg (qC v)):=by
 refine f_n Tryz.func120 ?_ ?_;exact ae (aE (fF p)) (ae (dZ a b gr) af);refine r_z 2 ?_;refine r_c 5 (h) ?_;refine a_z ?_;exact ai (c_e (aP _))
end Go.Proofs.YtjmkjicckobojaaGreatDoor
