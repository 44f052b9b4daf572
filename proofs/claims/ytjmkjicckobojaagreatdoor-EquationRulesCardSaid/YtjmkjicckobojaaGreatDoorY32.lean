/- Part Y32 of the proof. -/
import Derived.Test.YtjmkjicckobojaaGreatDoorY31
set_option linter.all false
namespace Go.Proofs.YtjmkjicckobojaaGreatDoor
open Go.Abs
set_option maxRecDepth 20000
set_option maxHeartbeats 4000000
def epS(k:Ke)(g:Nat)(cap:La)(f:Lq×Lq->Rat):Nat->AState
 |0=>⟨[(1,.clos g [] cap),(8,.arr (kE k)),(9,i64 k.length),(10,i64 0),(5,.emp)],[],1,22⟩
 |i+1=>⟨[(1,.clos g [] cap),(8,.arr (kE k)),(9,i64 k.length),(10,i64 ((i+1:Nat):Int)),(5,.lsl 1 0 (i+1) none 3)],[(1,some ⟨42,3,pE ((k.take (i+1)).map f)⟩)],2,22⟩
theorem wy(k:Ke)(g:Nat)(cap:La)(f:Lq×Lq->Rat)(hcap:∀c∈cap,Closed c)(hl:k.length<=1000)(hg:∀p∈k,FS g ((.agg (prC p)::cap).map coe) (.agg (qC (f p)))):FS 118 [.arr (kE k),.clos g [] cap] (.arr (pE (k.map f))):=by
 have n:(kE k).length=k.length:=em k;have hcc:Closed (.clos g [] cap):=aX af hcap;refine f_n Tryz.func118 ?_ ?_;exact ac (a6 k) (ac hcc af);refine r_z 1 ?_;refine r_z 1 ?_;refine ae (r_z 3 ?_);refine aJ (λ_:Unit=>⟨[(5,.arr (pE (k.map f)))],[],1,22⟩) (λ_=>True) ?_ ?_;refine aj (aC (epS k g cap f) (λi=>k.length- i) (λi=>i<=k.length) 0 (mN _) ?_ ?_);rw[epS.eq_1];exact s_x [] (λhs=>e_3) (λhs=>e_48);intro i o;by_cases hlt:i< k.length;obtain⟨p,hp⟩:∃p,k[i]?=some p:=⟨_,eT hlt⟩;have h:=hg p (mc hp);have l:(k.take (i+1)).length=i+1:=by rw[yv];omega
 have b:pE ((k.take i).map f)++[qC (f p)]=pE ((k.take (i+1)).map f):=by rw[cZ hp,N7,Oj,ki];rfl
 cases i with
 |zero=>
  have a:(kE k)[((0:Int)).toNat]?=some (prC p):=kR hp _ rfl;rw[epS.eq_1];refine q_z 1 ?_;refine ae (cT (an (ae (aj (s_r 4 ?_)))));refine i_x a ?_;refine l_x a ?_;refine a_z ?_;refine r_m 7 ?_;refine c_s (h) ?_;refine a_z ?_;refine r_m 2 ?_;refine a_z ?_;refine⟨0+1,ω,ω,?_⟩;rw[epS.eq_2];rw[<-b];refine s_x [(1,5)] (λhs=>e_3) (λhs=>?_)
  ·repeat' (first|exact aF|refine h_c ?_ ?_|exact bv hs (aK [f p])|exact bG|refine aB ?_|exact av|refine ai ?_ ?_|exact ao hs (a6 k)|exact ao hs hcc|exact aZ)
 |succ i=>
  have a:(kE k)[(((i+1:Nat):Int)).toNat]?=some (prC p):=kR hp _ ψ;have m:=eR ((k.take (i+1)).map f);have d:(pE ((k.take (i+1)).map f)).length=i+1:=by simp[pE];omega
  rw[epS.eq_2];refine q_z 1 ?_;refine ae (cT (an (ae (aj (s_r 4 ?_)))));refine i_x a ?_;refine l_x a ?_;refine a_z ?_;refine r_m 7 ?_;refine c_s (h) ?_;refine a_z ?_;refine r_m 2 ?_;refine a_z ?_;refine⟨i+1+1,ω,ω,?_⟩;rw[epS.eq_2];refine s_x [(1,5)] (λhs=>e_3) (λhs=>?_)
  ·repeat' (first|exact aF|refine h_c ?_ ?_|exact aM hs b (aK _)|exact bG|refine aB ?_|exact av|refine ai ?_ ?_|exact ao hs (a6 k)|exact ao hs hcc|exact aZ)
 have e:i=k.length:=ω
 cases i with
 |zero=>
  have j:k=[]:=xi e.symm;subst j;rw[epS.eq_1];refine q_z 1 ?_;refine ae (cF (ay ⟨(),trivial,?_⟩));exact s_e []
 |succ i=>
  have d:(pE (k.map f)).length=i+1:=by simp[pE];omega
  rw[epS.eq_2,e,qj];refine q_z 1 ?_;refine ae (cF (ay ⟨(),trivial,?_⟩));exact s_x [] (λhs=>e_51) (λhs=>e_52)
 rintro _ _;refine r_z 2 ?_;exact ak (t_e (aw _))
theorem ew(n:Nat)(A:Mx)(L:Ln):∀c∈[AV.arr (mE (k7 n A)),.arr (lvE L),i64 n],Closed c:=ac (closed_mA _) (ac (aP (dp L)) (ac (ah _) af))
theorem fH(n:Nat)(A:Mx)(L:Ln):Closed (syV n (A,L)):=aD (ew n A L)
def bSy(n:Nat)(A:Mx)(L:Ln):AV:= .aptr [[.arr (mE (k7 n A)),.arr (lvE L),i64 n]] 0 0
theorem bC(n:Nat)(A:Mx)(L:Ln):Closed (bSy n A L):=aN (ew n A L)
theorem uK{L:Ln}{i c:Nat}(h:L[i]?=some c):∀e:Nat,e=i->(lvE L)[e]?=some [i64 c]:=λe a=>by
 rw[a,lvE,wS,h];rfl
def owS(A:Mx)(n:Nat)(L:Ln):Nat->AState
 |i=>⟨[(1,bSy n A L),(3,.lsl 1 0 n (some n) 3),(10,.arr (lvE L)),(11,i64 L.length),(12,i64 i)],[(1,some ⟨42,3,pE (qq A n L i)⟩)],2,31⟩
theorem qZ(A:Mx)(n:Nat)(L:Ln)(hE:Ech A n n L)(hn:n<=25):FS 84 [syV n (A,L)] (.arr (pE (uo A n L))):=by
 have l:(lvE L).length=L.length:=jm L;have p:=hE.len2;refine f_n Tryz.func84 ?_ ?_;exact ac (fH n A L) af;refine r_z 2 ?_;refine AWp.ent (st':=⟨[(1,bSy n A L)],[],1,31⟩) ?_ ?_;have:=ew n A L;exact s_f [];refine r_z 4 ?_;refine ae (r_z 4 ?_);refine aJ (λ_:Unit=>⟨[(3,.arr (pE (uo A n L)))],[],1,31⟩) (λ_=>True) ?_ ?_;refine aj (aC (owS A n L) (λi=>L.length- i) (λi=>i<=L.length) 0 (mN _) ?_ ?_);rw[owS.eq_1,oneJ_0];refine s_x [(1,3)] (λhs=>e_1) (λhs=>?_)
 ·repeat' (first|exact aF|refine h_c ?_ ?_|exact CvLL.zeros hs n|exact bG|refine aB ?_|exact av|refine ai ?_ ?_|exact ao hs (bC n A L)|exact ao hs (aP (dp L))|exact aZ)
 intro i r;rw[owS.eq_1];by_cases hlt:i< L.length;obtain⟨c,j⟩:∃c,L[i]?=some c:=⟨_,eT hlt⟩;have d:=hE.lt i c j;have g:i< n:=ω
 have e:(lvE L)[((i:Nat):Int).toNat]?=some [i64 c]:=uK j _ ψ;have b:(mE (k7 n A))[((i:Nat):Int).toNat]?=some [.arr (pE (aI (n+1) (A i)))]:=jZ (lO g) _ ψ;have a:(pE (aI (n+1) (A i)))[((n:Nat):Int).toNat]?=some (qC (A i n)):=fb ω _ ψ;have q:(mE (k7 n A)).length=n:=ψ
 have m:(pE (aI (n+1) (A i))).length=n+1:=by simp[pE]
 have o:(pE (qq A n L i)).length=n:=by simp[pE]
 obtain⟨s,f⟩:=Kb (A:=A) (L:=L) (i:=i) d (0+((c:Nat):Int).toNat) ω;refine q_z 1 ?_;refine ae (cT (an (ae (aj (s_r 5 ?_)))));refine a_1 ?_;refine i_x e ?_;refine l_1 e ?_;refine a_z ?_;refine r_d ba 13 ?_;refine a_5 ?_;refine i_x b ?_;refine l_1 b ?_;refine a_2 ?_;refine i_x a ?_;refine l_x a ?_;refine a_1 ?_;refine eK (.store rfl rfl f rfl rfl rfl TS.h (nle rfl)) ?_;refine aq (n_k ?_);refine r_m 2 ?_;refine a_z ?_;refine⟨i+1,ω,ω,?_⟩;rw[owS.eq_1];refine s_x [] (λhs=>e_1) (λhs=>?_)
 ·repeat' (first|exact aF|refine h_c ?_ ?_|exact aM hs (oneJ_s hE j d (0+((c:Nat):Int).toNat) ω) (aK _)|exact bG|refine aB ?_|exact av|refine ai ?_ ?_|exact ao hs (bC n A L)|exact ao hs (aP (dp L))|exact aZ)
 have k:i=L.length:=ω
 refine q_z 1 ?_;refine ae (cF (ay ⟨(),trivial,?_⟩));rw[oneJ_n ω];refine s_x [] (λhs=>?_) (λhs=>?_)
 ·repeat' (first|exact aV|refine aA rfl ?_ ?_|(refine Cv.shut hs rfl (aR rfl) (by simp[pE]) ?_;exact aM hs (by rw[sr];exact nk (by simp[pE])) (aK _))|exact aZ)
 ·repeat' (first|exact aF|refine h_c ?_ ?_|exact bG|refine aB ?_|exact av|refine ai ?_ ?_|(refine Cv.shut hs rfl (aR rfl) (by simp[pE]) ?_;exact aM hs (by rw[sr];exact nk (by simp[pE])) (aK _))|exact aZ)
 rintro _ _;refine r_z 2 ?_;exact ak (t_e (aw _))
theorem Ii(A:Mx)(n:Nat)(L:Ln)(e:Lq)(hl:e.length=n+1):FS 168 [.arr (pE e),bSy n A L] (bln (decide (coP e n≠0))):=by
 have b:(pE e).length=e.length:=by simp[pE]
 have a:(pE e)[((n:Nat):Int).toNat]?=some (qC (coP e n)):=by
  have:=cm (p:=e) (i:=n) ω;simp[pE,this]
 refine f_n Tryz.func168 ?_ ?_;exact ac (aw e) (ac (bC n A L) af);refine r_z 1 ?_;refine s_r 8 ?_;refine a_3 ?_;refine i_x a ?_;refine l_x a ?_;refine c_s (cX (coP e n)) ?_;refine a_z ?_;refine ak (a7 rfl ?_ ?_);rw[show decide (coP e n≠0)=decide (sgZ (coP e n).num≠0) from decide_eq_decide.2 (not_congr sgZ_num_eq.symm)]
 first|rfl|(congr 1;cases hb:decide (sgZ (coP e n).num=0) with|true=>(have:=of_decide_eq_true hb;simp[this])|false=>(have:=of_decide_eq_false hb;simp[bln,bne,this]))
 exact ah _
theorem mE_el(k:Lw):∀e∈mE k,e.length=1:=λe a=>by
 obtain⟨_,_,rfl⟩:=sd.1 a;rfl
theorem Lb(A:Mx)(n:Nat)(L:Ln)(hLn:L.length<=n)(hn:n<=25):FS 79 [syV n (A,L)] (bln (lU n A L)):=by
 have d:(lvE L).length=L.length:=jm L
 have c:=Aq ((k7 n A).drop L.length) 168 [bSy n A L] (λe=>decide (coP e n≠0)) (ac (bC n A L) af) χ (λe f=>Ii A n L e (by
  obtain⟨k,a⟩:=OF.1 (Hc f)
  have b:k< n:=by
   have:=(jY.1 a).1;simpa using this
  rw[lO b] at a;cases a;simp)) rfl
 rw[<-GJ] at c;refine f_n Tryz.func79 ?_ ?_;exact ac (fH n A L) af;refine r_z 2 ?_;refine AWp.ent (st':=⟨[(1,bSy n A L)],[],1,11⟩) ?_ ?_;have:=ew n A L;exact s_f [];refine s_r 9 ?_;refine a_5 ?_;refine o_0 (.sa_l rfl rfl (l:=L.length) rfl χ te_155.h (mE_el _)) ?_;refine c_s (c) ?_;refine a_z ?_;exact ak (t_e (ah _))
structure OkSm (k:Ke)(c:Lq)(i:Nat)(p:Lq×Lq):Prop where
 p1:smL p.1
 p2:p.1.length<=1099511627776
 cs:sm (coP c i)
 o1:smL (smK k c i)
 o2:(smK k c i).length<=1099511627776
 s1:smL (aW p.1 (coP c i))
 s2:(aW p.1 (coP c i)).length<=1099511627776
def ksS(k:Ke)(c:Lq):Nat->AState
 |i=>⟨[(1,.arr (pE c)),(5,.arr (pE (smK k c i))),(8,.arr (kE k)),(9,i64 k.length),(10,i64 i)],[],1,26⟩
theorem uQ(k:Ke)(c:Lq)(hc:c.length=k.length)(hl:k.length<=1000)(h:∀i p,k[i]?=some p->OkSm k c i p):FS 83 [.arr (kE k),.arr (pE c)] (.arr (pE (smK k c k.length))):=by
 have f:(kE k).length=k.length:=em k;refine f_n Tryz.func83 ?_ ?_;exact ac (a6 k) (ac (aw c) af);refine r_z 1 ?_;refine r_z 1 ?_;refine ae (r_z 3 ?_);refine aJ (λ_:Unit=>⟨[(5,.arr (pE (smK k c k.length)))],[],1,26⟩) (λ_=>True) ?_ ?_;refine aj (aC (ksS k c) (λi=>k.length- i) (λi=>i<=k.length) 0 (mN _) ?_ ?_);rw[ksS.eq_1];exact s_x [] (λhs=>e_53) (λhs=>e_54);intro i l;rw[ksS.eq_1];by_cases hlt:i< k.length;obtain⟨p,hp⟩:∃p,k[i]?=some p:=⟨_,eT hlt⟩;have a:(kE k)[((i:Nat):Int).toNat]?=some (prC p):=kR hp _ ψ;have j:(pE c).length=k.length:=by simp[pE,hc]
 have b:(pE c)[((i:Nat):Int).toNat]?=some (qC (coP c i)):=by
  have:=cm (p:=c) (i:=i) ω;simp[pE,this]
 have ok:=h i p hp;have g:=eY p.1 (coP c i) ok.p1 ok.cs ok.p2;have e:=nU (smK k c i) _ ok.o1 ok.s1 ok.o2 ok.s2;refine q_z 1 ?_;refine ae (cT (an (ae (aj (s_r 6 ?_)))));refine a_1 ?_;refine i_x a ?_;refine l_x a ?_;refine a_z ?_;refine r_d ba 10 ?_;refine a_5 ?_;refine i_x b ?_;refine l_x b ?_;refine c_s (g) ?_;refine c_s (e) ?_;refine a_1 ?_;refine aq (n_k ?_);refine r_m 2 ?_;refine a_z ?_;refine⟨i+1,ω,ω,?_⟩;rw[ksS.eq_1,smK_s hp];unfold smF;exact s_x [] (λhs=>e_53) (λhs=>e_54);have d:i=k.length:=ω
 refine q_z 1 ?_;refine ae (cF (ay ⟨(),trivial,?_⟩));rw[d];exact s_e [];rintro _ _;refine r_z 2 ?_;exact ak (t_e (aw _))
def tkC(k:Ke)(l:Rat)(g:Lq)(a b:Rat):La:=eqC k l g++spC a b
theorem dT(k:Ke)(l:Rat)(g:Lq)(a b:Rat):∀c∈tkC k l g a b,Closed c:=dD (bt k l g) (bh a b)
def bTk(k:Ke)(l:Rat)(g:Lq)(a b:Rat):AV:= .aptr [tkC k l g a b] 0 0
theorem cj(k:Ke)(l:Rat)(g:Lq)(a b:Rat):Closed (bTk k l g a b):=aN (dT k l g a b)
theorem fs_sys1(k:Ke)(l:Rat)(g:Lq)(a b:Rat)(p:Lq×Lq)(hm:gQ p.2 g)(ho:OkIn (aG p.2 g) a b):
    FS 165 [.agg (prC p),bTk k l g a b] (.agg (qC (inQ (aG p.2 g) a b))):=by
 refine f_n Tryz.func165 ?_ ?_;exact ac (aD (iq p)) (ac (cj k l g a b) af);refine r_z 2 ?_;refine ae (r_d ba 10 ?_);refine c_s (uT p.2 g hm) ?_;refine c_s (ri _ a b ho) ?_;refine a_1 ?_;refine aq (n_k ?_);exact ak (c_e (aU _))
def rhK(k:Ke)(g:Lq)(a b:Rat):Lq:=k.map λp=>inQ (aG p.2 g) a b
@[simp] theorem rhK_length (k:Ke)(g:Lq)(a b:Rat):(rhK k g a b).length=k.length:=by simp[rhK]
def syM(k:Ke)(l:Rat)(r:Lq)(a b:Rat):Mx×Ln:=slM (svM (maK k a b) l (λt=>coP r t) k.length) k.length k.length
structure OkSy (k:Ke)(l:Rat)(a b:Rat)(s:Nat):Prop where
 m:OkMa k a b
 q:∀i j,i< k.length->j< k.length->qs (maK k a b i j)+qs l+2<=s
 s:slB s k.length<=100000000000
theorem OkSy.le{k:Ke}{l a b:Rat}{s:Nat}(h:OkSy k l a b s):s<=100000000000:=fo (jI (s:=s) (mN k.length)) h.s
theorem OkSy.bd{k:Ke}{l a b:Rat}{s:Nat}(h:OkSy k l a b s){r:Lq}(hr:∀i,i< k.length->qs (coP r i)<=s):bdM (svM (maK k a b) l (λt=>coP r t) k.length) k.length s:=λi j c e=>by
 unfold svM;by_cases e1:j=k.length;rw[if_pos e1];exact hr i c;rw[if_neg e1];have m:=h.q i j c ω;have f:=cP (maK k a b i j) l;split;have d:=gT (-(maK k a b i j* l)) 1;rw[fa] at d;have g:qs 1<=1:=δ
 omega;rw[fa];omega
theorem vf(k:Ke)(l a b:Rat)(s:Nat)(r:Lq)(h:OkSy k l a b s)(hrl:r.length=k.length)(hr:∀i,i< k.length->qs (coP r i)<=s):
    XSpec Tryz.prog 113 [.lsl 1 0 k.length (some k.length) 1,.agg (qC l),.arr (pE r)] (mzH 3 61 42 (mzO 3 (λ_=>k.length) (λx=>x) k.length) (fiL (maK k a b) k.length k.length)) 40 (syV k.length (syM k l r a b)) [] 1:=by
 have o:=h.m.l;have n:=h.le;have f:=h.bd hr;refine xF (maK k a b) l r k.length (slB s k.length) ω hrl h.s (λi j d e=>by have:=h.q i j d e;omega) (λi d=>?_) λc g i j d e=>fo (FE f c g i j d e) (jI g);have t:=h.q i i d d;have p:=cP (maK k a b i i) l;rw[fa];omega
theorem oH(k:Ke)(l:Rat)(g:Lq)(a b:Rat)(s:Nat)(h:OkSy k l a b s)(hr:∀p∈k,gQ p.2 g/\OkIn (aG p.2 g) a b/\qs (inQ (aG p.2 g) a b)<=s):
    FS 78 [.agg (tkC k l g a b)] (syV k.length (syM k l (rhK k g a b) a b)):=by
 have j:=h.m.l
 have n:=vf k l a b s (rhK k g a b) h ψ λi d=>by
  have e:coP (rhK k g a b) i=inQ (aG k[i].2 g) a b:=by
   unfold coP rhK;rw[jH];simp[d]
  rw[e];exact(hr _ (FH d)).2.2
 have f:=wy k 165 [bTk k l g a b] (λp=>inQ (aG p.2 g) a b) (ac (cj k l g a b) af) ω λp hp=>fs_sys1 k l g a b p (hr p hp).1 (hr p hp).2.1;have c:Closed (syV k.length (syM k l (rhK k g a b) a b)):=fH _ _ _;refine f_n Tryz.func78 ?_ ?_;exact ac (aD (dT k l g a b)) af;refine r_z 2 ?_;refine AWp.ent (st':=⟨[(1,bTk k l g a b),(2,.lptr 1 0 0)],[(1,some ⟨157,3,[[.emp,.emp,i64 0]]⟩)],2,18⟩) ?_ ?_;have:=dT k l g a b;exact s_f [(1,2)];refine ae (AWp.regAB 5 14 8 ba (rZ k a b h.m) (n) (c) rfl rfl rfl rfl rfl rfl rfl rfl rfl rfl ξ rfl rfl rfl ?_);refine AY.op0 (.fieldAddr_a rfl TF.h δ) rfl rfl ?_;refine AY.op0 (.fieldAddr_a rfl TF.h δ) rfl rfl ?_;refine AY.op0 (.load_a1 rfl rfl TG.h rfl) rfl rfl ?_;refine AY.op0 (.fieldAddr_a rfl TF.h δ) rfl rfl ?_;refine AY.op0 (.load_a rfl rfl TG.h TS.h (nle rfl)) rfl rfl ?_;refine AY.sp rfl rfl (kAB.a rfl rfl rfl (ac (a6 k) (ac (aD (bh a b)) af)) rfl) ?_;refine AY.op0 (.fieldAddr_a rfl TF.h δ) rfl rfl ?_;refine AY.op0 (.fieldAddr_a rfl TF.h δ) rfl rfl ?_;refine AY.op0 (.load_a rfl rfl TG.h TS.h (nle rfl)) rfl rfl ?_;refine AY.op0 (.fieldAddr_a rfl TF.h δ) rfl rfl ?_;refine AY.op0 (.fieldAddr_a rfl TF.h δ) rfl rfl ?_;refine AY.op0 (.load_a1 rfl rfl TG.h rfl) rfl rfl ?_;refine AY.op0 (.makeFunc rfl rfl) rfl rfl ?_;refine AY.op0 (.call rfl rfl rfl (f)) rfl rfl ?_
 refine AY.sp rfl rfl (kAB.b rfl rfl (ArgsB.own (ArgsB.clo rfl (aD (bi l)) (ArgsB.clo rfl (aw _) ArgsB.nil))) rfl) ?_;refine AY.on1 (.store rfl rfl rfl rfl rfl rfl TS.h (nle rfl)) rfl ?_;refine AY.nil ⟨by kernel_rfl,?_⟩;exact ak (c_e (c))
def nh(l:Lw)(k:Nat):Option La:=if k< l.length then some [i64 ((l.length- 1- k:Nat):Int),.arr (pE (l.getD (l.length- 1- k) []))] else none
def bM(l:Lw):AV:= .aptr [[.arr (mE l)]] 0 0
theorem dZ(l:Lw):Closed (bM l):=aN (ac (closed_mA l) af)
theorem mE_getD{l:Lw}{i:Nat}(h:i< l.length):(mE l)[i]?=some [.arr (pE (l.getD i []))]:=by
 refine jZ ?_ i rfl;rw[jH,eT h];rfl
theorem Ce(l:Lw)(hl:l.length<=281474976710656):GSpec Tryz.prog 234 [bM l] (nh l):=by
 refine GSpec.enter Tryz.func234 rfl ξ rfl rfl rfl ?_ ?_ rfl ?_;exact ac (dZ l) af;intro k xs h;unfold nh at h;split at h;cases h;exact ac (ah _) (ac (aw _) af);cases h;intro b N E;refine GWp.seq ?_;refine GWp.lift ?_;refine r_m 4 ?_;refine a_z ?_;refine GWp.block ?_;refine GWp.loopS (λm:Nat=>⟨[(0,.v (.func (.yield b) #[] #[])),(1,bM l),(3,i64 ((m:Int)- 1))],[],1,19⟩) (λm=>l.length- m) (λm=>m) (λm=>m<=l.length) l.length (ir _) ψ ?_ ?_;have:=dZ l;exact s_f [];intro m e;refine GWp.seq ?_;refine GWp.seq ?_;refine GWp.lift ?_;refine r_m 2 ?_;refine a_z ?_;refine GWp.cond rfl (λh=>?_) (λh=>?_)
 ·refine GWp.skip ?_
  have d:1<=m:=by have:=of_decide_eq_true h;omega
  have a:(mE l)[((m:Int)- 1).toNat]?=some [.arr (pE (l.getD (m- 1) []))]:=by rw[show((m:Int)- 1).toNat=m- 1 by omega];exact mE_getD ω
  refine GWp.seq ?_;refine GWp.block ?_;refine GWp.seq ?_;refine GWp.regY (fr2:=[(0,.v (.func (.yield b) #[] #[])),(1,bM l),(3,i64 ((m:Int)- 1)),(11,.v (.func (.yield b) #[] #[])),(12,i64 ((m:Int)- 1)),(16,.arr (pE (l.getD (m- 1) [])))]) (hp2:=[]) (nx2:=1) 6 rfl rfl rfl rfl rfl rfl ?_ rfl rfl rfl ?_ ?_ ?_;refine o_0 (.move rfl) ?_;refine o_0 (.move rfl) ?_;refine bZ (.load_a1 rfl rfl TG.h rfl) rfl rfl ?_;refine o_0 (.move rfl) ?_;refine i_x a ?_;refine l_1 a ?_;refine aq ?_;have:=dZ l;exact s_t [];rotate_left 2;intro c;refine o_0 (.un rfl nq) ?_;refine aq ?_;rotate_left;unfold nh;rw[if_pos ω];have e1:((l.length- 1- (l.length- m):Nat):Int)=(m:Int)- 1:=ω
  have e2:l.length- 1- (l.length- m)=m- 1:=ω
  rw[e1,e2];rfl;exact ac (ah _) (ac (aw _) af);cases c with
  |false=>
   refine GWp.cond rfl (λh=>?_) (λh=>?_);exact GWp.ret ⟨.inr rfl,λh=>by cases h⟩;cases h
  |true=>
   refine GWp.cond rfl (λh=>?_) (λh=>?_);cases h;refine GWp.skip ?_;refine GWp.lift ?_;refine r_m 3 ?_;refine a_z ?_;refine⟨rfl,m- 1,ω,ω,ω,?_⟩;have:=dZ l;exact s_f []
 refine GWp.exit ⟨.inl rfl,λ_=>?_⟩;have:m=0:=by have:=of_decide_eq_false h;omega
 subst this;unfold nh;rw[if_neg ω]
theorem CD(l:Lw):FS 172 [.arr (mE l)] (.clos 234 [] [bM l]):=by
 refine f_c Tryz.func172 ?_;refine r_z 2 ?_;refine r_z 2 ?_;refine ak (⟨.inr rfl,[_],⟨_,[],rfl,rfl,rfl⟩,?_⟩);exact Cv.clos av (ai (Cv.boxp aE rfl (λ_ _ h=>by cases h) rfl (ac (closed_mA l) af)) av)
theorem EN(p:Lq)(hp:p.length<=1099511627776):FS 81 [.arr (pE p),.arr (mE [])] (.arr (pE (am p))):=by
 have hb:=CD [];have b:=Ce [] ψ;have d:=ee p hp;refine f_c Tryz.func81 ?_;refine r_z 2 ?_;refine ae (r_c 2 (hb) ?_);refine aq ?_;refine aJ (λ_:Unit=>⟨[(2,.lptr 1 0 0)],[(1,some ⟨62,1,[[.arr (pE p)]]⟩)],2,28⟩) (λ_=>True) ?_ ?_;refine aj (AWp.rangeFunc (α:=Unit) (γ:=Empty) 0 (λ_=>⟨[(2,.lptr 1 0 0),(9,.clos 234 [] [bM []])],[(1,some ⟨62,1,[[.arr (pE p)]]⟩)],2,28⟩) (λ_=>0) (λ_=>True) (λe=>nomatch e) (λ_ e=>nomatch e) () rfl b rfl rfl ?_ (λ_=>⟨rfl,rfl⟩) (λe=>nomatch e) trivial rfl (λ_ _=>ir _) ?_ ?_ ?_ ?_ (λ_ e=>nomatch e));intro k xs a;exact absurd a (by unfold nh;simp);refine s_y [(1,2)] (λhs=>?_) (λhs=>?_)
 ·repeat' (first|exact aV|refine aA rfl ?_ ?_|exact ao hs (aX af (ac (dZ []) af))|exact aZ)
 ·repeat' (first|exact aF|refine h_c ?_ ?_|exact bG|refine aB ?_|exact av|refine ai ?_ ?_|exact ao hs (aX af (ac (dZ []) af))|exact aZ)
 exact ac (dZ []) af;intro l k xs c a;exact absurd a (by unfold nh;simp);intro k c a;refine⟨(),trivial,?_⟩;exact s_e [];rintro _ _;refine r_c 3 (d) ?_;refine a_z ?_;exact ak (t_e (aw _))
def ixS(L:Ln)(f:Nat):Nat->AState
 |i=>⟨[(0,.arr (lvE L)),(1,i64 f),(7,i64 L.length),(8,i64 i)],[],1,19⟩
theorem Iz(L:Ln)(f:Nat)(hl:L.length<=1099511627776):FS 274 [.arr (lvE L),i64 f] (i64 (kT (λc:Nat=>((f:Int)==(c:Int))) L 0)):=by
 have j:(lvE L).length=L.length:=jm L;refine f_n Tryz.func274 ?_ ?_;exact ac (aP (dp L)) (ac (ah _) af);obtain⟨R,g⟩:∃R,R=kT (λc:Nat=>((f:Int)==(c:Int))) L 0:=⟨_,rfl⟩;rw[<-g];refine r_z 1 ?_;refine ae (r_z 3 ?_);refine aJ (λ_:Unit=>⟨[],[],1,19⟩) (λ_=>R= -1) ?_ ?_;refine aj (aC (ixS L f) (λi=>L.length- i) (λi=>i<=L.length/\kT (λc:Nat=>((f:Int)==(c:Int))) (L.drop i) i=R) 0 ⟨mN _,by rw[g];rfl⟩ ?_ ?_);simp only[ixS.eq_1];have:=(aP (dp L));exact s_f [];rintro i ⟨k,a⟩;rw[ixS.eq_1];by_cases hlt:i< L.length;refine q_z 1 ?_;refine ae (cT (an ?_));obtain⟨c,h⟩:∃c,L[i]?=some c:=⟨_,eT hlt⟩;have b:(lvE L)[((i:Nat):Int).toNat]?=some [i64 c]:=uK h _ ψ;rw[AJ h,kT] at a;refine ae (aj (r_z 2 ?_));refine s_r 6 ?_;refine a_3 ?_;refine i_x b ?_;refine l_1 b ?_;refine a_z ?_;refine au rfl (λe=>?_) (λe=>?_);rw[if_pos e] at a;refine r_z 2 ?_;refine ak (a7 rfl ?_ ?_);rw[<-a];exact ah _;rw[if_neg (by rw[e];decide)] at a;refine an (r_m 2 ?_);refine a_z ?_;refine⟨i+1,ω,⟨hlt,a⟩,?_⟩;simp only[ixS.eq_1];have:=(aP (dp L));exact s_f [];have d:i=L.length:=ω
 subst d;refine q_z 1 ?_;refine ae (cF ?_);rw[DJ] at a;refine ay ⟨(),a.symm,?_⟩;exact s_e [];rintro _ a;refine r_z 1 ?_;refine ak (a7 rfl ?_ ?_);rw[a];rfl;exact ah _
theorem rX(f:Nat):∀L:Ln,L.any (λc:Nat=>((f:Int)==(c:Int)))=L.contains f
 |[]=>rfl
 |a::L=>by
  rw[List.any_cons,rX f L,List.contains_cons];refine congrArg (· ||L.contains f) ?_;cases hb:(f==a) with
  |true=>rw[eq_of_beq hb];exact beq_self_eq_true _
  |false=>
   have b:¬f=a:=λe=>by rw[e] at hb;simp at hb
   exact beq_eq_false_iff_ne.2 ω
theorem rn(L:Ln)(f:Nat)(hl:L.length<=1099511627776):FS 233 [.arr (lvE L),i64 f] (bln (L.contains f)):=by
 have e:=qN (λc:Nat=>((f:Int)==(c:Int))) L 0 (N5 0);rw[rX] at e;have a:=Iz L f hl;refine f_n Tryz.func233 ?_ ?_;exact ac (aP (dp L)) (ac (ah _) af);refine r_z 1 ?_;refine r_c 5 (a) ?_;refine a_z ?_;refine ak (a7 rfl ?_ ?_);rw[<-e];rfl;exact ah _
def z0S(A:Mx)(n:Nat)(L:Ln):Nat->AState
 |f=>⟨[(1,bSy n A L),(3,.emp),(9,i64 n),(10,i64 f)],[],1,51⟩
theorem H9(A:Mx)(n:Nat)(L:Ln)(hn:n<=25)(hLn:L.length<=n)(hL:∀f,f< n->L.contains f=true):FS 171 [syV n (A,L)] (.arr (mE [])):=by
 refine f_n Tryz.func171 ?_ ?_;exact ac (fH n A L) af;refine r_z 2 ?_;refine AWp.ent (st':=⟨[(1,bSy n A L)],[],1,51⟩) ?_ ?_;have:=ew n A L;exact s_f [];refine r_z 1 ?_;refine ae (r_z 3 ?_);refine aJ (λ_:Unit=>⟨[(3,.emp)],[],1,51⟩) (λ_=>True) ?_ ?_;refine aj (aC (z0S A n L) (λf=>n- f) (λf=>f<=n) 0 (mN _) ?_ ?_);rw[z0S.eq_1];have:=bC n A L;exact s_f [];intro f b;rw[z0S.eq_1];by_cases hlt:f< n;have a:=rn L f ω;rw[hL f hlt] at a;refine q_z 1 ?_;refine ae (cT (an (ae (aj (r_z 2 ?_)))));refine ae (r_c 4 (a) ?_);refine aq ?_;refine cT (ay (r_m 2 ?_));refine a_z ?_;refine⟨f+1,ω,ω,?_⟩;rw[z0S.eq_1];have:=bC n A L;exact s_f [];refine q_z 1 ?_;refine ae (cF (ay ⟨(),trivial,?_⟩));exact s_e [];rintro _ _;refine r_z 2 ?_;exact ak (Fin.tmpN rfl)
theorem Im(g:Nat)(bn:La)(hb:∀c∈bn,Closed c):FS 170 [.arr (mE []),.clos g bn []] (.arr (mE [])):=by
 have a:Closed (.clos g bn []):=aX hb af;refine f_c Tryz.func170 ?_;refine r_z 1 ?_;refine r_z 1 ?_;refine ae (r_z 3 ?_);refine aJ (λ_:Unit=>⟨[(5,.emp)],[],1,22⟩) (λ_=>True) ?_ ?_;refine aj (aC (λ_:Unit=>⟨[(5,.emp),(9,i64 0),(10,i64 0)],[],1,22⟩) (λ_=>0) (λ_=>True) () trivial ?_ ?_);exact s_e [];rintro _ _;refine q_z 1 ?_;refine ae (cF (ay ⟨(),trivial,?_⟩));exact s_e [];rintro _ _;refine r_z 2 ?_;exact ak (Fin.tmpN rfl)
theorem Cr:FS 169 [.arr (mE [])] (.arr (mE [])):=by
 refine f_c Tryz.func169 ?_;refine r_z 1 ?_;refine r_z 1 ?_;refine ae (r_z 3 ?_);refine aJ (λ_:Unit=>⟨[(3,.emp)],[],1,49⟩) (λ_=>True) ?_ ?_;refine aj (aC (λ_:Unit=>⟨[(3,.emp),(8,i64 0),(9,i64 0)],[],1,49⟩) (λ_=>0) (λ_=>True) () trivial ?_ ?_);exact s_e [];rintro _ _;refine q_z 1 ?_;refine ae (cF (ay ⟨(),trivial,?_⟩));exact s_e [];rintro _ _;refine r_z 2 ?_;exact ak (Fin.tmpN rfl)
theorem Lj(k:Ke)(l:Rat)(g:Lq)(a b:Rat)(A:Mx)(n:Nat)(L:Ln)(hz:FS 171 [syV n (A,L)] (.arr (mE []))):FS 80 [.agg (tkC k l g a b),syV n (A,L)] (.arr (mE [])):=by
 have c:=Im 83 [.arr (kE k)] (ac (a6 k) af);have d:=Cr;refine f_n Tryz.func80 ?_ ?_;exact ac (aD (dT k l g a b)) (ac (fH n A L) af);refine r_z 3 ?_;refine AWp.ent (st':=⟨[(2,bTk k l g a b),(3,bSy n A L)],[],1,13⟩) ?_ ?_;refine s_x [] (λhs=>?_) (λhs=>?_)
 ·repeat' (first|exact aV|refine aA rfl ?_ ?_|exact Cv.boxp hs rfl (aR rfl) rfl (dT k l g a b)|exact Cv.boxp hs rfl (aR rfl) rfl (ew n A L)|exact aZ)
 ·repeat' (first|exact aF|refine h_c ?_ ?_|exact bG|refine aB ?_|exact av|refine ai ?_ ?_|exact Cv.boxp hs rfl (aR rfl) rfl (dT k l g a b)|exact Cv.boxp hs rfl (aR rfl) rfl (ew n A L)|exact aZ)
 refine ae (r_d ba 9 ?_);refine c_s (hz) ?_;refine c_s (c) ?_;refine c_s (d) ?_;refine a_1 ?_;refine aq (n_k ?_);exact ak (t_e (closed_mA _))
def nr(k:Ke)(l:Rat)(g:Lq)(a b:Rat):Lq:=uo (syM k l (rhK k g a b) a b).1 k.length (syM k l (rhK k g a b) a b).2
def syU(k:Ke)(l:Rat)(g:Lq)(a b:Rat):Lq:=ec g (aW (smK k (nr k l g a b) k.length) l)
structure OkTa (k:Ke)(l:Rat)(g:Lq)(a b:Rat)(s:Nat):Prop where
 ke:qw k
 ha:sm a
 hb:sm b
 ab:a<=b
 dg:a8 g<=20
 gl:g.length<=1099511627776
 sy:OkSy k l a b s
 rh:∀p∈k,gQ p.2 g/\OkIn (aG p.2 g) a b/\qs (inQ (aG p.2 g) a b)<=s
structure OkSu (k:Ke)(l:Rat)(g:Lq)(a b:Rat):Prop where
 ms:∀i p,k[i]?=some p->OkSm k (nr k l g a b) i p
 u1:smL (smK k (nr k l g a b) k.length)
 u2:(smK k (nr k l g a b) k.length).length<=1099511627776
 sl:sm l
 sg:smL g
 v1:smL (aW (smK k (nr k l g a b) k.length) l)
 v2:(aW (smK k (nr k l g a b) k.length) l).length<=1099511627776
theorem OkTa.none{k:Ke}{l:Rat}{g:Lq}{a b:Rat}{s:Nat}(h:OkTa k l g a b s):FS 79 [syV k.length (syM k l (rhK k g a b) a b)] (bln (lU k.length (syM k l (rhK k g a b) a b).1 (syM k l (rhK k g a b) a b).2)):=
 Lb (syM k l (rhK k g a b) a b).1 k.length (syM k l (rhK k g a b) a b).2 (eA _ _ _).len (by have:=h.ke.1;omega)
theorem Iq(k:Ke)(l:Rat)(g:Lq)(a b:Rat)(s:Nat)(h:OkTa k l g a b s)(h2:OkSu k l g a b)(hL:∀f,f< k.length->(syM k l (rhK k g a b) a b).2.contains f=true)(hN:lU k.length (syM k l (rhK k g a b) a b).1 (syM k l (rhK k g a b) a b).2=false)(hu:(syU k l g a b).length<=1099511627776):
    FS 27 [.agg (eqC k l g),.agg (spC a b)] (.tup [.arr (pE (am (syU k l g a b))),.arr (mE []),i64 0]):=by
 have p:=h.ke.1;have m:=iO k l g a b h.ke h.ha h.hb h.ab h.dg h.gl;have hs:=oH k l g a b s h.sy h.rh;have j:=h.none;rw[hN] at j;have q:=H9 (syM k l (rhK k g a b) a b).1 k.length (syM k l (rhK k g a b) a b).2 ω (eA _ _ _).len hL;have n:=Lj k l g a b _ _ _ q;have o:=qZ (syM k l (rhK k g a b) a b).1 k.length (syM k l (rhK k g a b) a b).2 (eA _ _ _) ω;have c:=uQ k (nr k l g a b) (by unfold nr;simp) ω h2.ms;have d:=eY _ l h2.u1 h2.sl h2.u2;have e:=nU g _ h2.sg h2.v1 h.gl h2.v2;have i:=EN (syU k l g a b) hu;refine f_n Tryz.func27 ?_ ?_;exact ac (aD (bt k l g)) (ac (aD (bh a b)) af);refine r_z 5 ?_;refine r_z 5 ?_;refine AWp.ent (st':=⟨[(7,bTk k l g a b)],[],1,38⟩) ?_ ?_;have:=dT k l g a b;exact s_f [];refine ae (r_c 2 (m) ?_);refine aq ?_;refine cF (an (r_c 4 (hs) ?_));refine a_z ?_;refine AWp.ent (st':=⟨[(7,bTk k l g a b),(8,bSy k.length (syM k l (rhK k g a b) a b).1 (syM k l (rhK k g a b) a b).2)],[],1,38⟩) ?_ ?_;exact s_x [] (λhs=>e_24) (λhs=>e_25);refine ae (r_c 2 (j) ?_);refine aq ?_;refine cF (an (r_c 4 (n) ?_));refine a_z ?_;refine ae (r_d ba 20 ?_);refine c_s (o) ?_;refine c_s (c) ?_;refine c_s (d) ?_;refine c_s (e) ?_;refine c_s (i) ?_;refine a_4 ?_;refine aq (n_k ?_);refine ak (Fin.many ⟨_,_,rfl,rfl,⟨_,_,rfl,rfl,⟨_,_,rfl,rfl,rfl⟩⟩⟩ (nle rfl) ?_);exact ai (ao aE (aw _)) (ai (ao aE (closed_mA _)) (ai (ao aE (ah _)) av))
theorem yp(k:Ke)(l:Rat)(g:Lq)(a b:Rat)(s:Nat)(h:OkTa k l g a b s)(hN:lU k.length (syM k l (rhK k g a b) a b).1 (syM k l (rhK k g a b) a b).2=true):
    FS 27 [.agg (eqC k l g),.agg (spC a b)] (.tup [.arr (pE []),.arr (mE []),i64 12]):=by
 have e:=h.ke.1;have d:=iO k l g a b h.ke h.ha h.hb h.ab h.dg h.gl;have hs:=oH k l g a b s h.sy h.rh;have c:=h.none;rw[hN] at c;refine f_n Tryz.func27 ?_ ?_;exact ac (aD (bt k l g)) (ac (aD (bh a b)) af);refine r_z 5 ?_;refine r_z 5 ?_;refine AWp.ent (st':=⟨[(7,bTk k l g a b)],[],1,38⟩) ?_ ?_;have:=dT k l g a b;exact s_f [];refine ae (r_c 2 (d) ?_);refine aq ?_;refine cF (an (r_c 4 (hs) ?_));refine a_z ?_;refine AWp.ent (st':=⟨[(7,bTk k l g a b),(8,bSy k.length (syM k l (rhK k g a b) a b).1 (syM k l (rhK k g a b) a b).2)],[],1,38⟩) ?_ ?_;exact s_x [] (λhs=>e_24) (λhs=>e_25);refine ae (r_c 2 (c) ?_);refine aq ?_;refine cT (r_z 3 ?_);refine ak (Fin.many ⟨_,_,rfl,rfl,⟨_,_,rfl,rfl,⟨_,_,rfl,rfl,rfl⟩⟩⟩ (nle rfl) ?_);exact ai (Cv.emp _) (ai (Cv.emp _) (ai (ao aE (ah _)) av))
def sqR(n:Nat)(A:Mx):Lw:=(List.range n).map λk=>aI n (A k)
@[simp] theorem sqR_length (n:Nat)(A:Mx):(sqR n A).length=n:=by simp[sqR]
theorem sqR_get{n i:Nat}{A:Mx}(h:i< n):(sqR n A)[i]?=some (aI n (A i)):=by simp[sqR,h]
theorem G7(n:Nat)(A:Mx):(fiL A n n).map (λe=>([.arr e]:La))=mE (sqR n A):=by
 rw[fiL_rwL,JC];rfl
theorem ES(k:Ke)(a b:Rat)(h:OkMa k a b):FS 121 [.arr (kE k),.agg (spC a b)] (.arr (mE (sqR k.length (maK k a b)))):=by
 have:=(rZ k a b h).shut rfl (ac (a6 k) (ac (aD (bh a b)) af))
  (Cv.mzShut (r:=⟨0,λi=>i⟩) (show(3:Nat)≠0 by decide) aE (λ_=>rfl) (mU _ _ _).symm (λi e h=>by have:=(nY h).2;subst this;simp[pE]) λe d x g c f=>by
   obtain⟨k,_,rfl⟩:=sd.1 d;exact aK _ x g c f) (by rw[G7];exact closed_mA _)
 rw[G7] at this;exact this
def trQ(A:Mx)(i:Nat):Rat:=sQ (λt=>A t t) i
def tcS(pM:Nat->Mx)(n ll j:Nat):Nat->AState
 |i=>⟨[(0,.v (.func (.yield ll) #[] #[])),(1,bM (sqR n (pM 0))),(3,.arr (mE (sqR n (pM j)))),(4,.lptr 1 0 0),(11,i64 n),(12,i64 i)],[(1,some ⟨42,3,[qC (trQ (pM j) i)]⟩)],2,29⟩
theorem H7(pM:Nat->Mx)(n K:Nat)(hn:n<=25)(hs:∀j,j<=K->∀i,i< n->qs (trQ (pM j) i)+qs (pM j i i)<=549755813888)(hmul:∀j,j< K->FS 216 [.arr (mE (sqR n (pM j))),.arr (mE (sqR n (pM 0)))] (.arr (mE (sqR n (pM (j+1)))))):
    GSpecB Tryz.prog 215 [bM (sqR n (pM 0))] (λj=>some [.agg (qC (trQ (pM j) n))]) K:=by
 refine GSpecB.enter Tryz.func215 rfl ξ rfl rfl rfl ?_ ?_ rfl ?_;exact ac (dZ _) af;intro j xs h;cases h;exact ac (aU _) af;intro ll N hN E;refine GWp.seq ?_;refine GWp.lift ?_;refine r_m 2 ?_;refine a_z ?_;refine GWp.block ?_;refine GWp.loopS (λj:Nat=>⟨[(0,.v (.func (.yield ll) #[] #[])),(1,bM (sqR n (pM 0))),(3,.arr (mE (sqR n (pM j))))],[],1,29⟩) (λj=>j) (λj=>N+1- j) (λj=>j<=N) 0 (mN _) rfl ?_ ?_;exact s_x [] (λhs=>e_4) (λhs=>LS);intro j l;have k:(mE (sqR n (pM j))).length=n:=ψ
 refine GWp.seq ?_;refine GWp.block ?_;refine GWp.seq ?_;refine GWp.lift ?_;refine r_m 1 ?_;refine a_z ?_;refine GWp.seq ?_;refine GWp.seq ?_;refine GWp.lift ?_;refine r_m 3 ?_;refine a_z ?_;refine GWp.cutT (λ_:Unit=>tcS pM n ll j n) (λ_=>True) ?_ ?_;refine aj (aC (tcS pM n ll j) (λi=>n- i) (λi=>i<=n) 0 (mN _) ?_ ?_);rw[tcS.eq_1];refine s_x [(1,4)] (λhs=>e_4) (λhs=>?_)
 ·repeat' (first|exact aF|refine h_c ?_ ?_|exact CvLL.zeros hs 1|exact bG|refine aB ?_|exact av|refine ai ?_ ?_|exact ao hs (dZ _)|exact ao hs (closed_mA _)|exact aZ)
 intro i m;rw[tcS.eq_1];by_cases hlt:i< n;have a:(mE (sqR n (pM j)))[((i:Nat):Int).toNat]?=some [.arr (pE (aI n (pM j i)))]:=jZ (sqR_get hlt) _ ψ;have b:(pE (aI n (pM j i)))[((i:Nat):Int).toNat]?=some (qC (pM j i i)):=fb hlt _ ψ;have g:(pE (aI n (pM j i))).length=n:=by simp[pE]
 have e:=eS (trQ (pM j) i) (pM j i i) (hs j ω i hlt);refine q_z 1 ?_;refine ae (cT (an (ae (aj (r_z 2 ?_)))));refine r_d ba 10 ?_;refine a_3 ?_;refine i_x a ?_;refine l_1 a ?_;refine a_1 ?_;refine i_x b ?_;refine l_x b ?_;refine c_s (e) ?_;refine a_1 ?_;refine aq (n_k ?_);refine r_m 2 ?_;refine a_z ?_;refine⟨i+1,ω,ω,?_⟩;rw[tcS.eq_1];exact s_x [] (λhs=>e_4) (λhs=>LS);have c:i=n:=ω
 subst c;refine q_z 1 ?_;refine ae (cF (ay ⟨(),trivial,?_⟩));exact s_x [] (λhs=>e_4) (λhs=>LS);rintro _ _;rw[tcS.eq_1];refine GWp.seq ?_;refine GWp.regY (fr2:=[(0,.v (.func (.yield ll) #[] #[])),(1,bM (sqR n (pM 0))),(3,.arr (mE (sqR n (pM j)))),(25,.v (.func (.yield ll) #[] #[])),(26,.agg (qC (trQ (pM j) n)))]) (hp2:=[]) (nx2:=1) 2 rfl rfl rfl rfl rfl rfl ?_ rfl rfl rfl ?_ ?_ ?_;refine o_0 (.move rfl) ?_;refine bZ (.load_l rfl rfl rfl TG.h TS.h (nle rfl)) rfl rfl ?_;refine aq ?_;exact s_y [] (λhs=>e_4) (λhs=>LS);rotate_left 2;intro f;refine o_0 (.un rfl nq) ?_;refine aq ?_;rotate_left;rfl;exact ac (aU _) af;cases f with
 |false=>
  refine GWp.cond rfl (λh=>?_) (λh=>?_);exact GWp.ret ⟨.inr rfl,λh=>by cases h⟩;cases h
 |true=>
  refine GWp.bound λd=>?_;refine GWp.cond rfl (λh=>?_) (λh=>?_);cases h;refine GWp.skip ?_;refine GWp.lift ?_;refine r_m 4 ?_;refine c_s (hmul j ω) ?_;refine a_z ?_;refine⟨rfl,j+1,ω,d,rfl,?_⟩;exact s_x [] (λhs=>e_4) (λhs=>LS)
theorem Ib(l:Lw):FS 139 [.arr (mE l)] (.clos 215 [] [bM l]):=by
 refine f_c Tryz.func139 ?_;refine r_z 2 ?_;refine r_z 2 ?_;refine ak (⟨.inr rfl,[_],⟨_,[],rfl,rfl,rfl⟩,?_⟩);exact Cv.clos av (ai (Cv.boxp aE rfl (λ_ _ h=>by cases h) rfl (ac (closed_mA l) af)) av)
def dtS(k:Ke)(M:Lw):Unit->AState
 |u=>⟨[(2,bKe k),(5,.lptr 1 0 0),(6,.lptr 2 0 0),(20,.clos 215 [] [bM M])],[(1,some ⟨62,1,[[.lsl 3 0 1 none 3]]⟩),(2,some ⟨61,1,[[.emp]]⟩),(3,some ⟨42,3,[qC ((1:Int):Rat)]⟩)],4,60⟩
def dtX(c:Rat):Unit->AState
 |u=>⟨[(5,.lptr 1 0 0)],[(1,some ⟨62,1,[[.lsl 3 0 2 none 3]]⟩),(3,some ⟨42,3,[qC ((1:Int):Rat),qC c]⟩)],4,60⟩
def dtI(k:Ke)(t:Rat)(w:Nat->Rat)(i:Nat):AState:=⟨[(2,bKe k),(5,.lptr 1 0 0),(6,.lptr 2 0 0),(8,i64 1),(9,.lptr 5 0 0),(28,.lsl 4 0 1 none 3),(29,i64 1),(30,i64 i),(1005,.lptr 1 0 0)],[(1,some ⟨62,1,[[.lsl 3 0 1 none 3]]⟩),(2,some ⟨61,1,[[.lsl 4 0 1 none 3]]⟩),(3,some ⟨42,3,[qC ((1:Int):Rat)]⟩),(4,some ⟨42,3,[qC t]⟩),(5,some ⟨42,3,[qC (w i)]⟩)],6,60⟩
def dtC(t:Rat):Nat->Rat
 |0=>0
 |_+1=>0- t* ((1:Int):Rat)
def deV(t:Rat):Lq:=[((1:Int):Rat),dtC t 1/ ((1:Int):Rat)]
theorem fs_det1(p:Lq×Lq)(a b:Rat)(h:OkMa [p] a b)(hs:qs (maK [p] a b 0 0)<=100000000000):
    FS 52 [.arr (kE [p]),.agg (spC a b)] (.arr (pE (am (deV (trQ (maK [p] a b) 1))))):=by
 have i1:=dM 1 δ;have hm:=ES [p] a b h;obtain⟨A,hA⟩:∃A,A=maK [p] a b:=⟨_,rfl⟩;rw[<-hA] at hm hs⊢;have hq1:qs ((1:Int):Rat)<=1:=δ
 have hgs:=H7 (λ_=>A) 1 0 ω (λj hj i hi=>by
  obtain rfl:i=0:=ω
  show qs (0:Rat)+qs (A 0 0)<=_;have:qs (0:Rat)<=1:=δ
  omega) (λj hj=>ω)
 have htr:=Ib (sqR 1 A);obtain⟨t,ht⟩:∃t,t=trQ A 1:=⟨_,rfl⟩
 have hqt:qs t<=100000000002:=by
  rw[ht];show qs (0+A 0 0)<=_;have:=gT 0 (A 0 0);have:qs (0:Rat)<=1:=δ
  omega
 simp only[<-ht] at hgs⊢;have hmu:=cQ t ((1:Int):Rat) ω
 have hsu:=lC 0 (t* ((1:Int):Rat)) (by have:=cP t ((1:Int):Rat);have:qs (0:Rat)<=1:=δ
                                       omega)
 have hov:=rf (dtC t 1) ((1:Int):Rat) δ (by
  have h1:=po 0 (t* ((1:Int):Rat));have h2:=cP t ((1:Int):Rat);have h3:qs (0:Rat)<=1:=δ
  show qs (0- t* ((1:Int):Rat))+_<=_;omega)
 have hti:=ee (deV t) (by simp[deV]);refine f_n Tryz.func52 ?_ ?_;exact ac (a6 [p]) (ac (aD (bh a b)) af);refine r_z 3 ?_;refine AWp.ent (st':=⟨[(2,bKe [p]),(3,bSp a b)],[],1,60⟩) ?_ ?_;refine s_x [] (λhs=>?_) (λhs=>?_)
 ·repeat' (first|exact aV|refine aA rfl ?_ ?_|exact Cv.boxp hs rfl (aR rfl) rfl (ac (a6 [p]) af)|exact Cv.boxp hs rfl (aR rfl) rfl (bh a b)|exact aZ)
 ·repeat' (first|exact aF|refine h_c ?_ ?_|exact bG|refine aB ?_|exact av|refine ai ?_ ?_|exact Cv.boxp hs rfl (aR rfl) rfl (ac (a6 [p]) af)|exact Cv.boxp hs rfl (aR rfl) rfl (bh a b)|exact aZ)
 refine r_c 4 (i1) ?_;refine a_z ?_;refine r_z 1 ?_;refine ae (s_r 3 ?_);refine a_2 ?_;refine o_0 (.bin rfl rfl (vT my (rfl))) ?_;refine aq ?_;refine aJ (λ_:Unit=>dtX (dtC t 1/ ((1:Int):Rat)) ()) (λ_=>True) ?_ ?_;refine cT (r_c 4 (hm) ?_);refine c_s (htr) ?_;refine aq ?_;refine aj (AWp.rangeFuncB (α:=Unit) (γ:=Unit) 0 (dtS [p] (sqR 1 A)) (λ_=>0) (λ_=>True) (dtX (dtC t 1/ ((1:Int):Rat))) (λe _=>e= .exit 0) () rfl hgs rfl rfl ?_ (λ_=>⟨rfl,rfl⟩) (λ_=>rfl) trivial rfl (λ_ _=>ir _) ?_ ?_ ?_ ?_ ?_);intro j xs hT;cases hT;rfl;rw[dtS.eq_1];refine s_y [(1,5),(2,6),(3,13)] (λhs=>?_) (λhs=>?_)
 ·repeat' (first|exact aV|refine aA rfl ?_ ?_|exact ao hs (fK [p])|exact ao hs (aX af (ac (dZ _) af))|exact aZ)
 ·repeat' (first|exact aF|refine h_c ?_ ?_|exact bG|refine aB ?_|exact av|refine ai ?_ ?_|exact ao hs (fK [p])|exact ao hs (aX af (ac (dZ _) af))|exact aZ)
 exact ac (dZ _) af
 ·intro ll j xs hj hT
  cases hT;show AWp _ _ _ _ ⟨[(21,.agg (qC t)),(2,bKe [p]),(5,.lptr 1 0 0),(6,.lptr 2 0 0),(20,.clos 215 [] [bM (sqR 1 A)]),(1002,bKe [p]),(1005,.lptr 1 0 0),(1006,.lptr 2 0 0),(1020,.clos 215 [] [bM (sqR 1 A)])],[(1,some ⟨62,1,[[.lsl 3 0 1 none 3]]⟩),(2,some ⟨61,1,[[.emp]]⟩),(3,some ⟨42,3,[qC ((1:Int):Rat)]⟩)],4,60⟩;refine r_m 2 ?_;refine a_z ?_;refine aj (s_r 5 ?_);refine a_3 ?_;refine AR.op1 (.append_e rfl rfl rfl te_61.h rfl rfl rfl (.lsl rfl (nle rfl)) (by first|assumption|(simp;done)) TZ.h rfl TB.h d_o μ) rfl rfl ?_;refine a_z ?_;refine r_z 3 ?_;refine r_z 1 ?_;refine ae (r_z 3 ?_);refine aJ (λ_:Unit=>dtI [p] t (dtC t) 1) (λ_=>True) ?_ ?_;refine aj (aC (dtI [p] t (dtC t)) (λi=>1- i) (λi=>i<=1) 0 (mN _) ?_ ?_);rw[dtI.eq_1];refine s_z [(1,5),(2,6),(3,100003),(4,28),(5,9)] (λhs=>e_26) (λhs=>?_)
  ·repeat' (first|exact aF|refine h_c ?_ ?_|exact CvLL.zeros hs 1|exact bG|refine aB ?_|exact av|refine ai ?_ ?_|exact ao hs (fK [p])|exact aZ)
  intro i hi;by_cases h1:i< 1;obtain rfl:i=0:=ω
  rw[dtI.eq_1];refine s_r 1 ?_;refine o_0 (.bin rfl rfl (vT fz (rfl))) ?_;refine aq ?_;refine ae (cT (an (ae (aj (r_z 6 ?_)))));refine r_d ba 12 ?_;refine c_s (hmu) ?_;refine c_s (hsu) ?_;refine a_1 ?_;refine aq (n_k ?_);refine r_m 2 ?_;refine a_z ?_;refine⟨1,ω,ω,?_⟩;rw[dtI.eq_1];exact s_z [(1,5),(2,6),(3,100003),(4,28),(5,9)] (λhs=>e_26) (λhs=>e_55);obtain rfl:i=1:=ω
  rw[dtI.eq_1];refine s_r 1 ?_;refine o_0 (.bin rfl rfl (vF fz (rfl))) ?_;refine aq ?_;refine ae (cF (ay ⟨(),trivial,?_⟩));exact s_z [(1,5),(2,6),(3,100003),(4,28),(5,9)] (λhs=>e_26) (λhs=>e_55);rintro _ _;rw[dtI.eq_1];refine ae (r_d ba 8 ?_);refine c_s (i1) ?_;refine c_s (hov) ?_;refine a_3 ?_;refine aq (n_k ?_);refine s_r 4 ?_;refine a_3 ?_;refine o_0 (.bin rfl rfl (vT cK (rfl))) ?_;refine aq ?_;refine cT (ay (⟨rfl,(),rfl,?_⟩));show SEntT _ ⟨[(1005,.lptr 1 0 0)],[(1,some ⟨62,1,[[.lsl 3 0 2 none 3]]⟩),(3,some ⟨42,3,[qC ((1:Int):Rat),qC (dtC t 1/ ((1:Int):Rat))]⟩)],4,60⟩;have:=(aK [((1:Int):Rat),dtC t 1/ ((1:Int):Rat)]);exact s_t [(1,5),(3,53)]
 intro j hj hT;cases hT;rintro e u rfl;exact⟨u,trivial,SEnt.refl _⟩;rintro _ _;rw[dtX.eq_1];refine s_r 3 ?_;refine a_1 ?_;refine o_1 (.callS1 rfl rfl rfl (.shut rfl d_n (.nil)) rfl (hti)) ?_;refine a_z ?_;exact ak (t_e (aw _))
theorem fs_Det1(p:Lq×Lq)(a b:Rat)(hke:qw [p])(ha:sm a)(hb:sm b)(hab:a<=b)(h:OkMa [p] a b)(hs:qs (maK [p] a b 0 0)<=100000000000):
    FS 12 [.arr (kE [p]),.agg (spC a b)] (.tup [.arr (pE (am (deV (trQ (maK [p] a b) 1)))),i64 0]):=by
 have d:=yk [p] a b hke ha hb hab;have c:=fs_det1 p a b h hs;refine f_n Tryz.func12 ?_ ?_;exact ac (a6 [p]) (ac (aD (bh a b)) af);refine r_z 3 ?_;refine ae (r_c 3 (d) ?_);refine aq ?_;refine cF (an (r_c 5 (c) ?_));refine a_z ?_;refine ak (Fin.many ⟨_,_,rfl,rfl,⟨_,_,rfl,rfl,rfl⟩⟩ (nle rfl) ?_);exact ai (ao aE (aw _)) (ai (ao aE (ah _)) av)
theorem Cj(p:Lq)(lo hi:Rat)(gr:Int)(v:Sp)(hR:FS 202 [.arr (pE p),.agg (spC lo hi),i64 gr] (.tup [.agg (spC v.1 v.2),i64 0]))(h1:sm v.1)(h2:sm v.2):FS 117 [.agg (spC lo hi++[i64 gr]),.arr (pE p)] (.agg (qC (FL v))):=by
 have a:∀c∈spC lo hi++[i64 gr],Closed c:=λc b=>(n7.1 b).elim (bh lo hi c) (ac (ah _) af c);refine f_c Tryz.func117 ?_;refine r_z 2 ?_;refine r_c 12 (hR) ?_;refine a_z ?_;refine r_c 4 (fs_SAbs v h1 h2) ?_;refine a_z ?_;exact ak (c_e (aU _))
def szC(a b:Rat)(gr:Int):AV:= .clos 117 [.agg (spC a b++[i64 gr])] []
theorem pN(a b:Rat)(gr:Int):Closed (szC a b gr):=aX (ac (aD λc d=>(n7.1 d).elim (bh a b c) (ac (ah _) af c)) af) af
def bSz(a b:Rat)(gr:Int):AV:= .aptr [[szC a b gr]] 0 0
theorem dX(a b:Rat)(gr:Int):Closed (bSz a b gr):=aN (ac (pN a b gr) af)
theorem fs_Clo1(p:Lq×Lq)(a b:Rat)(gr:Int)(v:Rat)(h:FS 117 [.agg (spC a b++[i64 gr]),.arr (pE p.1)] (.agg (qC v))):FS 119 [.agg (prC p),bSz a b gr] (.agg (qC v)):=by
 refine f_n Tryz.func119 ?_ ?_;exact ac (aD (iq p)) (ac (dX a b gr) af);refine r_z 2 ?_;refine r_c 5 (h) ?_;refine a_z ?_;exact ak (c_e (aU _))
theorem fs_Clo2(p:Lq×Lq)(a b:Rat)(gr:Int)(v:Rat)(h:FS 117 [.agg (spC a b++[i64 gr]),.arr (pE p.2)] (.agg (qC v))):FS 120 [.agg (prC p),bSz a b gr] (.agg (qC v)):=by
 refine f_n Tryz.func120 ?_ ?_;exact ac (aD (iq p)) (ac (dX a b gr) af);refine r_z 2 ?_;refine r_c 5 (h) ?_;refine a_z ?_;exact ak (c_e (aU _))
end Go.Proofs.YtjmkjicckobojaaGreatDoor
