/- Part W37 of the proof. -/
import Derived.Test.YtjmkjicckobojaaGreatDoorW36
set_option linter.all false
namespace Go.Proofs.YtjmkjicckobojaaGreatDoor
open Go.Abs
set_option maxRecDepth 20000
set_option maxHeartbeats 4000000
section
variable {k:Ke}{a b:Rat}
def xsD(n:Nat):Lq:=aN n λj=>(((j:Nat):Int):Rat)
def vsD(k:Ke)(a b:Rat)(n:Nat):Lq:=aN n λj=>deF k.length (rmM k a b (((j:Nat):Int):Rat))
@[simp] theorem xsD_length (n:Nat):(xsD n).length=n:=by simp[xsD]
@[simp] theorem vsD_length (k:Ke)(a b:Rat)(n:Nat):(vsD k a b n).length=n:=by simp[vsD]
theorem yb(n:Nat):(xsD n).Nodup:=by
 unfold xsD aN List.Nodup;rw[List.pairwise_map];exact List.Pairwise.imp (fun{i j} h e=>h (by have:=Rat.intCast_inj.1 e;omega)) List.nodup_range
theorem qs_4{j:Nat}(h:j<=3):qs (((j:Nat):Int):Rat)<=20:=by
 rcases(by omega:j=0\/j=1\/j=2\/j=3) with rfl|rfl|rfl|rfl <;> decide
theorem xsD_bd{n:Nat}(h:n<=4):bdL (xsD n) 256:=λq a=>by
 obtain⟨j,b,rfl⟩:=List.mem_map.1 a;exact Nat.le_trans (qs_4 (by have:=List.mem_range.1 b;omega)) δ
theorem deF_qs(hk:TmK k)(qa:qs a<=20)(qb:qs b<=20){j:Nat}(hj:j<=3):qs (deF k.length (rmM k a b (((j:Nat):Int):Rat)))<=63500:=by
 have d:=EU (B:=4222) k.length (rmM k a b (((j:Nat):Int):Rat)) λi t f e=>rm_qs hk qa qb (qs_4 hj) f e;have c:∀n,n<=3->deB 4222 n<=63500:=δ
 exact Nat.le_trans d (c _ hk.l)
theorem vsD_bd{n:Nat}(hk:TmK k)(qa:qs a<=20)(qb:qs b<=20)(h:n<=4):bdL (vsD k a b n) 63500:=λq c=>by
 obtain⟨j,d,rfl⟩:=List.mem_map.1 c;exact deF_qs hk qa qb (by have:=List.mem_range.1 d;omega)
theorem lag_det(hk:TmK k)(qa:qs a<=20)(qb:qs b<=20):mV (xsD (k.length+1)) (vsD k a b (k.length+1)) (k.length+1)=jR k a b:=by
 have c:=hk.l;have h:(xsD (k.length+1)).length=k.length+1:=by simp[xsD]
 have f:=yb (k.length+1);have o:=wH (xsD (k.length+1)) (vsD k a b (k.length+1)) (k.length+1) ω;rw[h] at o
 have s:(jR k a b).length<=k.length+1:=by
  rw[det_e c];refine Nat.le_trans (bh _) ?_;rcases(by omega:k.length=0\/k.length=1\/k.length=2\/k.length=3) with e|e|e|e <;> rw[e]<;> simp[eL]
 have u:=bh (mV (xsD (k.length+1)) (vsD k a b (k.length+1)) (k.length+1));have t:=bh (jR k a b)
 have m:=Cy (p:=mV (xsD (k.length+1)) (vsD k a b (k.length+1)) (k.length+1)) (q:=jR k a b) (xs:=xsD (k.length+1)) ω ω f λx g=>by
  obtain⟨i,d,rfl⟩:=List.getElem_of_mem g
  have e1:coP (xsD (k.length+1)) i=(xsD (k.length+1))[i]:=by
   have:=ci d;rw[List.getElem?_eq_getElem d] at this;exact(Option.some.inj this).symm
  have e2:(xsD (k.length+1))[i]=(((i:Nat):Int):Rat):=by simp[xsD,aN]
  have n:coP (vsD k a b (k.length+1)) i=deF k.length (rmM k a b (((i:Nat):Int):Rat)):=by
   rw[h] at d;unfold vsD coP;rw[List.getD_eq_getElem?_getD,IU _ d];rfl
  have j:=Gl (xsD (k.length+1)) (vsD k a b (k.length+1)) i d (CO f) (k.length+1) ω;rw[if_pos ω,n] at j;rw[<-e1,j,e1,e2,det_val (r:=λ_=>0) c,deF_3 c];rfl
 rw[Hi,(ES hk qa qb).2.2.2] at m;exact m
def rdS(k:Ke)(a b:Rat):Nat->AState
 |0=>⟨[(0,.arr (keR k)),(3,.aptr [rC (rq a)++rC (rq b)] 0 0),(5,.emp),(6,.emp),(7,i64 0)],[],1,32⟩
 |i+1=>⟨[(0,.arr (keR k)),(3,.aptr [rC (rq a)++rC (rq b)] 0 0),(5,.lsl 1 0 (i+1) none 4),(6,.lsl 2 0 (i+1) none 4),(7,i64 ((i+1:Nat):Int))],[(1,some ⟨47,4,rE (rP (xsD (i+1)))⟩),(2,some ⟨47,4,rE (rP (vsD k a b (i+1)))⟩)],3,32⟩
theorem uP(k:Ke)(a b:Rat)(hk:TmK k)(qa:qs a<=20)(qb:qs b<=20):
    FS 22 [.arr (keR k),.agg (rC (rq a)++rC (rq b))] (.arr (rE (rP (jR k a b)))):=by
 have h:=hk.l;have p:(keR k).length=k.length:=ii k;have cB:Closed (.aptr [rC (rq a)++rC (rq b)] 0 0):=bi (eO a b);have d:(xsD (k.length+1)).length=k.length+1:=by simp[xsD]
 have n:(vsD k a b (k.length+1)).length=k.length+1:=by simp[vsD]
 have c:=uO (xsD (k.length+1)) (vsD k a b (k.length+1)) (V:=63500) (by rw[d,n]) ω (xsD_bd ω) δ (vsD_bd hk qa qb ω) (by
  have:2^ (xsD (k.length+1)).length<=2^ 4:=Nat.pow_le_pow_right δ ω;exact Nat.le_trans (Nat.mul_le_mul_right _ this) δ) (CO (yb _))
 rw[d,lag_det hk qa qb] at c;have s:∀i:Nat,i<=3->FS 59 [i64 ((i:Nat):Int)] (.agg (rC (rq (((i:Nat):Int):Rat)))):=λi e=>ek ((i:Nat):Int) ω;have m:∀i:Nat,i<=3->FS 66 [.arr (keR k),.agg (rC (rq a)++rC (rq b)),.agg (rC (rq (((i:Nat):Int):Rat)))] (.arr (svC (rmM k a b (((i:Nat):Int):Rat)) k.length k.length)):=λi e=>Ef k a b _ hk qa qb (qs_4 e);have o:∀i:Nat,i<=3->FS 65 [.arr (svC (rmM k a b (((i:Nat):Int):Rat)) k.length k.length)] (.agg (rC (rq (deF k.length (rmM k a b (((i:Nat):Int):Rat)))))):=λi e=>Gx (B:=4222) δ k.length h _ λr t g f=>rm_qs hk qa qb (qs_4 e) g f;refine f_n Tryz.func22 ?_ ?_;exact ae (aY k) (ae (aE (eO a b)) af);refine r_z 2 ?_;refine r_z 2 ?_;refine ac (r_z 1 ?_);refine aC (λ_:Unit=>⟨[(5,.arr (rE (rP (xsD (k.length+1))))),(6,.arr (rE (rP (vsD k a b (k.length+1)))))],[],1,32⟩) (λ_=>True) ?_ ?_;refine ah (ay (rdS k a b) (λi=>k.length+1- i) (λi=>i<=k.length+1) 0 (Nat.zero_le _) ?_ ?_);rw[rdS.eq_1];refine s_x [] (λhs=>?_) (λhs=>?_)
 ·repeat' (first|exact aL|refine az rfl ?_ ?_|exact ao hs (aY k)|exact Cv.boxp hs rfl (aG rfl) rfl (eO a b)|exact aW)
 ·repeat' (first|exact aB|refine h_c ?_ ?_|exact bG|refine aA ?_|exact av|refine am ?_ ?_|exact ao hs (aY k)|exact Cv.boxp hs rfl (aG rfl) rfl (eO a b)|exact aW)
 intro i e;by_cases hlt:i< k.length+1;have g:=s i ω;have f:=m i ω;have q:=o i ω;cases i with
 |zero=>
  rw[rdS.eq_1];refine ac (q_z 4 ?_);refine cT (aj (ac (ah (r_c 4 (g) ?_))));refine a_z ?_;refine r_z 5 ?_;refine r_m 9 ?_;refine c_s (f) ?_;refine c_s (q) ?_;refine a_z ?_;refine r_m 3 ?_;refine a_z ?_;refine⟨1,ω,hlt,?_⟩;rw[rdS.eq_2];refine s_x [(1,5),(2,6)] (λhs=>e_59) (λhs=>?_)
  ·repeat' (first|exact aB|refine h_c ?_ ?_|exact ba hs (cQ _)|exact bG|refine aA ?_|exact av|refine am ?_ ?_|exact ao hs (aY k)|exact ao hs cB|exact aW)
 |succ i=>
  have s1:rE (rP (xsD (i+1)))++[rC (rq (((i+1:Nat):Int):Rat))]=rE (rP (xsD (i+1+1))):=mJ (i+1) (λj=>(((j:Nat):Int):Rat));have s2:rE (rP (vsD k a b (i+1)))++[rC (rq (deF k.length (rmM k a b (((i+1:Nat):Int):Rat))))]=rE (rP (vsD k a b (i+1+1))):=mJ (i+1) (λj=>deF k.length (rmM k a b (((j:Nat):Int):Rat)));have l1:(rE (rP (xsD (i+1)))).length=i+1:=by simp[xsD]
  have l2:(rE (rP (vsD k a b (i+1)))).length=i+1:=by simp[vsD]
  rw[rdS.eq_2];refine ac (q_z 4 ?_);refine cT (aj (ac (ah (r_c 4 (g) ?_))));refine a_z ?_;refine r_z 5 ?_;refine r_m 9 ?_;refine c_s (f) ?_;refine c_s (q) ?_;refine a_z ?_;refine r_m 3 ?_;refine a_z ?_;refine⟨i+2,ω,hlt,?_⟩;rw[rdS.eq_2];refine s_x [(1,5),(2,6)] (λhs=>e_59) (λhs=>?_)
  ·repeat' (first|exact aB|refine h_c ?_ ?_|exact aJ hs s1 (cQ _)|exact aJ hs s2 (cQ _)|exact bG|refine aA ?_|exact av|refine am ?_ ?_|exact ao hs (aY k)|exact ao hs cB|exact aW)
 obtain⟨i,rfl⟩:∃r,i=r+1:=⟨i- 1,ω⟩;have u:i=k.length:=ω
 rw[rdS.eq_2];refine ac (q_z 4 ?_);refine cF (ax ⟨(),trivial,?_⟩);rw[u];refine s_x [] (λhs=>?_) (λhs=>?_)
 ·repeat' (first|exact aL|refine az rfl ?_ ?_|exact fK (L:=rP (xsD (k.length+1))) hs rfl (aG rfl) rfl (by simp[xsD])|exact fK (L:=rP (vsD k a b (k.length+1))) hs rfl (aG rfl) rfl (by simp[vsD])|exact aW)
 ·repeat' (first|exact aB|refine h_c ?_ ?_|exact bG|refine aA ?_|exact av|refine am ?_ ?_|exact fK (L:=rP (xsD (k.length+1))) hs rfl (aG rfl) rfl (by simp[xsD])|exact fK (L:=rP (vsD k a b (k.length+1))) hs rfl (aG rfl) rfl (by simp[vsD])|exact aW)
 rintro _ _;refine r_c 4 (c) ?_;refine a_z ?_;exact ai (t_e (ca _))
def swK(k:Ke):Ke:=k.map λp=>(p.2,p.1)
@[simp] theorem swK_length (k:Ke):(swK k).length=k.length:=by simp[swK]
def rtuS(k:Ke):Nat->AState
 |0=>⟨[(0,.arr (keR k)),(3,.emp),(4,i64 0)],[],1,26⟩
 |i+1=>⟨[(0,.arr (keR k)),(3,.lsl 1 0 (i+1) none 2),(4,i64 ((i+1:Nat):Int))],[(1,some ⟨80,2,keR (swK (k.take (i+1)))⟩)],2,26⟩
theorem Ej(k:Ke)(hl:k.length<=1000):FS 17 [.arr (keR k)] (.arr (keR (swK k))):=by
 have f:(keR k).length=k.length:=ii k;refine f_n Tryz.func17 ?_ ?_;exact ae (aY k) af;refine r_z 1 ?_;refine r_z 1 ?_;refine ac (r_z 1 ?_);refine aC (λ_:Unit=>⟨[(3,.arr (keR (swK k)))],[],1,26⟩) (λ_=>True) ?_ ?_;refine ah (ay (rtuS k) (λi=>k.length- i) (λi=>i<=k.length) 0 (Nat.zero_le _) ?_ ?_);rw[rtuS.eq_1];have:=aY k;exact s_f [];intro i l;by_cases hlt:i< k.length
 ·obtain⟨p,hp⟩:∃p,k[i]?=some p:=⟨_,List.getElem?_eq_getElem hlt⟩
  have j:(k.take (i+1)).length=i+1:=by rw[List.length_take];omega
  have b:keR (swK (k.take i))++[pkR (p.2,p.1)]=keR (swK (k.take (i+1))):=by rw[cO hp];simp[keR,swK]
  cases i with
  |zero=>
   have a:(keR k)[((0:Int)).toNat]?=some (pkR p):=iR hp _ rfl;rw[rtuS.eq_1];refine ac (q_z 4 ?_);refine cT (aj (ac (ah (r_d aX 15 ?_))));refine a_3 ?_;refine i_x a ?_;refine bm (.fieldAddr_a rfl TF.h δ) rfl rfl ?_;refine l_1 a ?_;refine a_2 ?_;refine i_x a ?_;refine bm (.fieldAddr_a rfl TF.h δ) rfl rfl ?_;refine l_1 a ?_;refine a_4 ?_;refine aq (n_k ?_);refine r_m 3 ?_;refine a_z ?_;refine⟨1,ω,hlt,?_⟩;rw[rtuS.eq_2];rw[<-b];have:=aY k;have:=(fG [(p.2,p.1)]);exact s_f [(1,3)]
  |succ i=>
   have a:(keR k)[(((i+1:Nat):Int)).toNat]?=some (pkR p):=iR hp _ ψ;have g:=Gn (swK (k.take (i+1)));have c:(keR (swK (k.take (i+1)))).length=i+1:=χ
   rw[rtuS.eq_2];refine ac (q_z 4 ?_);refine cT (aj (ac (ah (r_d aX 15 ?_))));refine a_3 ?_;refine i_x a ?_;refine bm (.fieldAddr_a rfl TF.h δ) rfl rfl ?_;refine l_1 a ?_;refine a_2 ?_;refine i_x a ?_;refine bm (.fieldAddr_a rfl TF.h δ) rfl rfl ?_;refine l_1 a ?_;refine o_0 (.build TZ.h tp_80.h rfl rfl) ?_;refine o_1 (.buildSlice te_30.h TZ.h rfl δ rfl rfl rfl ν) ?_;refine o_2 (.append_l rfl rfl rfl te_30.h rfl rfl rfl rfl rfl d_o η ξ rfl (.lsl rfl (nle rfl)) TZ.h rfl TB.h d_o μ) ?_;refine o_0 (.assign rfl) ?_;refine aq (n_k ?_);refine r_m 3 ?_;refine a_z ?_;refine⟨i+2,ω,hlt,?_⟩;rw[rtuS.eq_2];refine s_x [(1,3)] (λhs=>?_) (λhs=>?_)
   ·repeat' (first|exact aL|refine az rfl ?_ ?_|exact ao hs (aY k)|exact aW)
   ·repeat' (first|exact aB|refine h_c ?_ ?_|exact aJ hs b (fG _)|exact bG|refine aA ?_|exact av|refine am ?_ ?_|exact ao hs (aY k)|exact aW)
 have d:i=k.length:=ω
 cases i with
 |zero=>
  have e:k=[]:=List.eq_nil_of_length_eq_zero d.symm;subst e;rw[rtuS.eq_1];refine ac (q_z 4 ?_);refine cF (ax ⟨(),trivial,?_⟩);exact s_e []
 |succ i=>
  have c:(keR (swK k)).length=i+1:=χ
  rw[rtuS.eq_2,d,List.take_length];refine ac (q_z 4 ?_);refine cF (ax ⟨(),trivial,?_⟩);refine s_x [] (λhs=>?_) (λhs=>?_)
  ·repeat' (first|exact aL|refine az rfl ?_ ?_|(refine Cv.shut hs rfl (aG rfl) ψ ?_;exact aJ hs π (fG _))|exact aW)
  ·repeat' (first|exact aB|refine h_c ?_ ?_|exact bG|refine aA ?_|exact av|refine am ?_ ?_|(refine Cv.shut hs rfl (aG rfl) ψ ?_;exact aJ hs π (fG _))|exact aW)
 rintro _ _;refine r_z 2 ?_;exact ai (t_e (aY _))
end
theorem HR(k:Ke)(a b:Rat)(h:pp k)(ha:sm a)(hb:sm b)(hab:¬a<=b):FS 51 [.arr (kE k),.agg (spC a b)] (bln true):=by
 have d:=kX k h;have c:=kx a b ha hb;rw[decide_eq_false (λe=>hab (cmpQ_le.1 e))] at c;refine f_n Tryz.func51 ?_ ?_;exact ae (aH k) (ae (b9 _ _) af);refine r_z 2 ?_;refine r_c 9 (d) ?_;refine o_0 (.bin rfl rfl (vF cm (rfl))) ?_;refine e_s (c) ?_;refine d_z ?_;exact ai (t_e (ak _))
section
variable {k:Ke}{l a b:Rat}{r:Nat->Rat}
end


section
variable {k:Ke}{g:Lq}{a b l:Rat}
variable {A:Mx}{n:Nat}{L:Ln}
end
section
variable {k:Ke}{l a b:Rat}{g g':Lq}
end
def roE(p:Lq)(a:Int)(n:Nat):Lc:=(List.range n).map fun(j:Nat)=>[.arr (pE p),i64 (a+(j:Int))]
@[simp] theorem DH (p:Lq)(a:Int)(n:Nat):(roE p a n).length=n:=by simp[roE]
theorem roE_get{p:Lq}{a:Int}{n j:Nat}(h:j< n):(roE p a n)[((j:Nat):Int).toNat]?=some [.arr (pE p),i64 (a+(j:Int))]:=by
 show(roE p a n)[j]?=_;unfold roE;rw[List.getElem?_map,List.getElem?_range h];rfl
theorem roE_one(p:Lq)(a:Int)(n:Nat):(roE p a n).all (·.all AV.one)=true:=by
 simp only[roE,List.all_map,List.all_eq_true];intro q _;rfl
theorem fE(p:Lq)(a:Int)(n:Nat):∀e∈roE p a n,∀c∈e,Closed c:=λe b c hc=>by
 obtain⟨j,_,rfl⟩:=List.mem_map.1 b;exact ae (aD p) (ae (ak _) af) c hc
theorem Jf(p:Lq)(a:Int)(n:Nat):roE p a (n+1)=roE p a n++[[.arr (pE p),i64 (a+(n:Int))]]:=by
 unfold roE;rw[List.range_succ,List.map_append];rfl
def rtS(t n:Nat)(fr:Fr)(p:Lq)(a:Int):Nat->AState
 |0=>⟨(t,.emp)::fr,[],1,n⟩
 |m+1=>⟨(t,.lsl 1 0 (m+1) none 2)::fr,[(1,some ⟨85,2,roE p a (m+1)⟩)],2,n⟩
theorem Ky(f:Nat)(p:Lq)(c:Cnt)(s:Sp)(m:Nat)(hc:dM f p=some c)(hf:f<=1000000)(h1:pI c s.1)(h2:uL c s.2)(hs:smS s)(hv:fb s.1 s.2<=0)(hl:mU p=0)(hp:p.length<=1099511627776)(hcl:c.p.length<=1000)(hm:cX c s.2=cN c s.1+m):
    FS 54 [.arr (pE p),.agg (spC s.1 s.2)] (.tup [.arr (roE c.p (cN c s.1) m),i64 0]):=by
 have q:=lR (x:=s.2) h2.1;have k:=zc (x:=s.1) h1.1.1;have e:=Kq p hp;rw[hl] at e;obtain⟨a,ha⟩:∃a,a=cN c s.1:=⟨_,rfl⟩;have g:=kW c s.1 h1;have b:=mX c s.2 h2;rw[hm] at b;rw[<-ha] at g b hm k⊢;have r:=gE c;refine f_c Tryz.func54 ?_;refine r_z 3 ?_;refine ac (r_c 3 (kx s.1 s.2 hs.1 hs.2) ?_);refine a_z ?_;refine ar rfl (λo=>?_) (λo=>?_);exact absurd o (by simp[hv]);refine aj (ac (r_c 3 (e) ?_));refine a_z ?_;refine r_z 2 ?_;refine ar rfl (λl=>?_) (λl=>?_);exact absurd l δ;refine aj (r_c 3 (o4 f p c hc hf) ?_);refine a_z ?_;refine r_z 1 ?_;refine ac (r_c 5 (g) ?_);refine a_z ?_;refine aC (λ_:Unit=>rtS 8 43 [] c.p a m) (λ_=>True) ?_ ?_;refine ah (ay (λj:Nat=>rtS 8 43 [(3,bS s),(7,kA c),(9,i64 (a+(j:Int)))] c.p a j) (λj=>m- j) (λj=>j<=m) 0 (Nat.zero_le _) ?_ ?_);simp only[rtS.eq_1];rw[show a+((0:Nat):Int)=a by omega];exact s_e [];rintro j t;by_cases hlt:j< m
 ·have d:=Cj c.p ω
  cases j with
  |zero=>
   simp only[rtS.eq_1];refine ac (r_c 6 (b) ?_);refine d_z ?_;refine cT (aj (ac (ah (r_m 11 ?_))));refine c_s (d) ?_;refine a_z ?_;refine r_m 3 ?_;refine a_z ?_;refine⟨1,ω,hlt,?_⟩;simp only[rtS.eq_2];rw[show a+(((0+1:Nat)):Int)=a+((0:Nat):Int)+1 by omega];have:=fE c.p a 1;exact s_f [(1,8)]
  |succ j=>
   have n:=roE_one c.p a (j+1);simp only[rtS.eq_2];refine ac (r_c 6 (b) ?_);refine d_z ?_;refine cT (aj (ac (ah (r_m 11 ?_))));refine c_s (d) ?_;refine o_0 (.move rfl) ?_;refine o_0 (.build TZ.h tp_85.h rfl rfl) ?_;refine o_1 (.buildSlice te_65.h TZ.h rfl δ rfl rfl rfl ν) ?_;refine o_2 (.append_l rfl rfl rfl te_65.h rfl rfl rfl rfl rfl d_o η ξ rfl (.lsl rfl (nle rfl)) TZ.h rfl TB.h d_o μ) ?_;refine o_0 (.assign rfl) ?_;refine aq ?_;refine r_m 3 ?_;refine a_z ?_;refine⟨j+1+1,ω,hlt,?_⟩;simp only[rtS.eq_2];rw[show a+((j+1+1:Nat):Int)=a+((j+1:Nat):Int)+1 by omega];refine s_x [(1,8)] (λhs=>dD) (λhs=>?_)
   ·repeat' (first|exact aB|refine h_c ?_ ?_|exact aJ hs (Jf c.p a (j+1)).symm (fE _ _ _)|exact bG)
 have i:j=m:=ω
 subst i;cases j with
 |zero=>
  simp only[rtS.eq_1];refine ac (r_c 6 (b) ?_);refine d_z ?_;refine cF (ax ⟨(),trivial,?_⟩);simp only[rtS.eq_1];exact s_e []
 |succ j=>
  simp only[rtS.eq_2];refine ac (r_c 6 (b) ?_);refine d_z ?_;refine cF (ax ⟨(),trivial,?_⟩);simp only[rtS.eq_2];refine s_x [(1,8)] (λhs=>dD) (λhs=>?_)
  ·repeat' (first|exact aB|refine h_c ?_ ?_|exact ba hs (fE _ _ _)|exact bG)
 rintro _ _;cases m with
 |zero=>
  simp only[rtS.eq_1];refine r_z 3 ?_;refine ai (Fin.many ⟨_,_,rfl,rfl,⟨_,_,rfl,rfl,rfl⟩⟩ (nle rfl) ?_);exact am (Cv.emp _) (am (ao aF (ak _)) av)
 |succ m=>
  simp only[rtS.eq_2];refine r_z 3 ?_;refine ai (Fin.many ⟨_,_,rfl,rfl,⟨_,_,rfl,rfl,rfl⟩⟩ (nle rfl) ?_);exact am (Cv.sealE aF rfl (λ_ _ h=>by cases h) rfl ψ (fE _ _ _)) (am (ao aF (ak _)) av)
theorem AF(N D N' D':Int)(k k':Nat)(hN:mc N)(hD:mc D)(hk:k<=255)(hN':mc N')(hD':mc D')(hk':k'<=255):
    FS 9 [.agg (nuC N D k++nuC N' D' k')] (.tup [.agg (spC (rk N D k) (rk N' D' k')),.agg (rC (rq (rk N D k))++rC (rq (rk N' D' k')))]):=by
 have b1:=og N D k hN hD hk;have b2:=og N' D' k' hN' hD' hk';obtain⟨v,hv⟩:∃v,v=rk N D k:=⟨_,rfl⟩;obtain⟨w,a⟩:∃w,w=rk N' D' k':=⟨_,rfl⟩;rw[<-hv] at b1⊢;rw[<-a] at b2⊢;refine f_n Tryz.func9 ?_ ?_;exact ae (aE λc hc=>(List.mem_append.1 hc).elim (jw _ _ _ c) (jw _ _ _ c)) af;refine r_z 3 ?_;refine r_c 10 (b1) ?_;refine a_z ?_;refine r_c 10 (b2) ?_;refine a_z ?_;refine ac (r_d aX 8 ?_);refine a_8 ?_;refine aq (n_k ?_);refine ai (Fin.many ⟨_,_,rfl,⟨_,_,_,_,_,rfl,rfl,rfl,.inl ⟨TG.h,_,TS.h,nle rfl,rfl⟩⟩,⟨_,_,rfl,⟨_,_,_,_,_,rfl,rfl,rfl,.inl ⟨TG.h,_,TS.h,nle rfl,rfl⟩⟩,rfl⟩⟩ (nle rfl) ?_);exact am (ao aF (b9 _ _)) (am (ao aF (aE λc hc=>(List.mem_append.1 hc).elim (cK _ c) (cK _ c))) av)
def eppS(k:Ke)(g:Nat)(cap:La)(f:Lq×Lq->Lq×Lq):Nat->AState
 |0=>⟨[(1,.clos g [] cap),(8,.arr (kE k)),(9,i64 k.length),(10,i64 0),(5,.emp)],[],1,22⟩
 |i+1=>⟨[(1,.clos g [] cap),(8,.arr (kE k)),(9,i64 k.length),(10,i64 ((i+1:Nat):Int)),(5,.lsl 1 0 (i+1) none 2)],[(1,some ⟨76,2,kE ((k.take (i+1)).map f)⟩)],2,22⟩
theorem H3(k:Ke)(g:Nat)(cap:La)(f:Lq×Lq->Lq×Lq)(hcap:∀c∈cap,Closed c)(hl:k.length<=1000)(hg:∀p∈k,FS g ((.agg (prC p)::cap).map coe) (.agg (prC (f p)))):FS 137 [.arr (kE k),.clos g [] cap] (.arr (kE (k.map f))):=by
 have n:(kE k).length=k.length:=dP k;have hcc:Closed (.clos g [] cap):=a6 af hcap;refine f_n Tryz.func137 ?_ ?_;exact ae (aH k) (ae hcc af);refine r_z 1 ?_;refine r_z 1 ?_;refine ac (r_z 3 ?_);refine aC (λ_:Unit=>⟨[(5,.arr (kE (k.map f)))],[],1,22⟩) (λ_=>True) ?_ ?_;refine ah (ay (eppS k g cap f) (λi=>k.length- i) (λi=>i<=k.length) 0 (Nat.zero_le _) ?_ ?_);rw[eppS.eq_1];exact s_x [] (λhs=>e_3) (λhs=>e_21);intro i o;by_cases hlt:i< k.length
 ·obtain⟨p,hp⟩:∃p,k[i]?=some p:=⟨_,List.getElem?_eq_getElem hlt⟩
  have e:=hg p (List.mem_of_getElem? hp);have l:(k.take (i+1)).length=i+1:=by rw[List.length_take];omega
  have hnew:kE ((k.take i).map f)++[prC (f p)]=kE ((k.take (i+1)).map f):=by rw[cO hp,List.map_append,List.map_singleton];simp[kE]
  cases i with
  |zero=>
   have a:(kE k)[((0:Int)).toNat]?=some (prC p):=jo hp _ rfl;rw[eppS.eq_1];refine q_z 1 ?_;refine ac (cT (aj (ac (ah (s_r 4 ?_)))));refine i_x a ?_;refine l_x a ?_;refine a_z ?_;refine r_m 7 ?_;refine c_s (e) ?_;refine a_z ?_;refine r_m 2 ?_;refine a_z ?_;refine⟨0+1,ω,ω,?_⟩;rw[eppS.eq_2];rw[<-hnew];exact s_x [(1,5)] (λhs=>e_3) (λhs=>e_43)
  |succ i=>
   have a:(kE k)[(((i+1:Nat):Int)).toNat]?=some (prC p):=jo hp _ ψ;have m:=D3 ((k.take (i+1)).map f);have b:(kE ((k.take (i+1)).map f)).length=i+1:=χ
   rw[eppS.eq_2];refine q_z 1 ?_;refine ac (cT (aj (ac (ah (s_r 4 ?_)))));refine i_x a ?_;refine l_x a ?_;refine a_z ?_;refine r_m 7 ?_;refine c_s (e) ?_;refine o_1 (.buildSlice te_27.h TZ.h rfl δ rfl rfl rfl ν) ?_;refine o_2 (.append_l rfl rfl rfl te_27.h rfl rfl rfl rfl rfl d_o η ξ rfl (.lsl rfl (nle rfl)) TZ.h rfl TB.h d_o μ) ?_;refine o_0 (.assign rfl) ?_;refine aq ?_;refine r_m 2 ?_;refine a_z ?_;refine⟨i+1+1,ω,ω,?_⟩;rw[eppS.eq_2];exact s_x [(1,5)] (λhs=>e_3) (λhs=>e_44)
 have d:i=k.length:=ω
 cases i with
 |zero=>
  have j:k=[]:=List.eq_nil_of_length_eq_zero d.symm;subst j;rw[eppS.eq_1];refine q_z 1 ?_;refine ac (cF (ax ⟨(),trivial,?_⟩));exact s_e []
 |succ i=>
  have b:(kE (k.map f)).length=i+1:=χ
  rw[eppS.eq_2,d,List.take_length];refine q_z 1 ?_;refine ac (cF (ax ⟨(),trivial,?_⟩));exact s_x [] (λhs=>e_45) (λhs=>e_46)
 rintro _ _;refine r_z 2 ?_;exact ai (t_e (aH _))
theorem Ec(p:Lq×Lq)(h1:p.1.length<=1000000)(h2:p.2.length<=1000000):FS 138 [.agg (prC p)] (.agg (prC (ap p.2,ap p.1))):=by
 have t1:=dK p.1 ω;have t2:=dK p.2 ω;refine f_n Tryz.func138 ?_ ?_;exact ae (aE (fF p)) af;refine r_z 2 ?_;refine ac (r_d aX 8 ?_);refine c_s (t2) ?_;refine c_s (t1) ?_;refine a_2 ?_;refine aq (n_k ?_);exact ai (c_e (aE (fF _)))
theorem H6(k:Ke)(hk:pp k)(h:∀p∈k,p.1.length<=1000000/\p.2.length<=1000000):FS 11 [.arr (kE k)] (.tup [.arr (kE (tuK k)),i64 0]):=by
 have hc:=kX k hk;have a:=H3 k 138 [] (λp=>(ap p.2,ap p.1)) af (by have:=hk.1;omega) λp hp=>Ec p (h p hp).1 (h p hp).2
 have b:FS 50 [.arr (kE k)] (.arr (kE (tuK k))):=by
  refine f_n Tryz.func50 ?_ ?_;exact ae (aH k) af;refine r_z 1 ?_;refine r_c 3 (a) ?_;refine a_z ?_;exact ai (t_e (aH _))
 refine f_n Tryz.func11 ?_ ?_;exact ae (aH k) af;refine r_z 2 ?_;refine ac (r_c 3 (hc) ?_);refine a_z ?_;refine s_r 2 ?_;refine a_1 ?_;refine o_0 (.bin rfl rfl (vF cm (rfl))) ?_;refine aq ?_;refine cF (aj (r_c 4 (b) ?_));refine a_z ?_;refine ai (Fin.many ⟨_,_,rfl,rfl,⟨_,_,rfl,rfl,rfl⟩⟩ (nle rfl) ?_);exact am (ao aF (aH _)) (am (ao aF (ak _)) av)
theorem EB (k:Ke) (a b:Rat) (d:Lq) (hke:pp k) (sa:sm a) (sb:sm b) (ab:a<=b) (hd:FS 52 [.arr (kE k),.agg (spC a b)] (.arr (pE d))) (f:Nat) (c:Cnt) (m:Nat) (hb:re d) (nd:ap d≠[]) (hl:d.length<=1099511627776)
    (hc:dM f d=some c) (hf:f<=1000000) (h1:pI c (-a7 d)) (h2:uL c (a7 d)) (hs:smS (-a7 d,a7 d)) (hv:fb (-a7 d) (a7 d)<=0) (hlg:mU d=0) (hcl:c.p.length<=1000) (hm:cX c (a7 d)=cN c (-a7 d)+m):
    FS 13 [.arr (kE k),.agg (spC a b)] (.tup [.arr (roE c.p (cN c (-a7 d)) m),i64 0]):=by
 have i:=o0 k a b hke sa sb ab;have e:=Ih d hb nd hl;have h:=mY (a7 d);have g:=Ky f d c (-a7 d,a7 d) m hc hf h1 h2 hs hv hlg hl hcl hm;refine f_n Tryz.func13 ?_ ?_;exact ae (aH k) (ae (aE (bt a b)) af);refine r_z 3 ?_;refine ac (r_c 3 (i) ?_);refine aq ?_;refine cF (aj (r_c 4 (hd) ?_));refine a_z ?_;refine r_c 8 (e) ?_;refine a_z ?_;refine ac (r_d aX 11 ?_);refine c_s (h) ?_;refine c_s (g) ?_;refine a_5 ?_;refine aq (n_k ?_);refine r_z 3 ?_;refine ai (Fin.many ⟨_,_,rfl,rfl,⟨_,_,rfl,rfl,rfl⟩⟩ (nle rfl) ?_);exact am (ao aF (aK (fE _ _ _))) (am (ao aF (ak _)) av)
theorem fs_AtX(k:Ke)(x y:Rat)(h:vaB k=false)(hl:k.length<=1000)(h2:∀p∈k,p.1.length<=1099511627776/\p.2.length<=1099511627776):FS 10 [.arr (kE k),.agg (qC x),.agg (qC y)] (.tup [.agg (qC 0),i64 2]):=by
 have hc:=mZ k h hl h2;refine f_n Tryz.func10 ?_ ?_;exact ae (aH k) (ae (aP x) (ae (aP y) af));refine r_z 4 ?_;refine ac (r_c 3 (hc) ?_);refine a_z ?_;refine s_r 2 ?_;refine a_1 ?_;refine o_0 (.bin rfl rfl (vT cm (rfl))) ?_;refine aq ?_;refine cT (r_z 4 ?_);refine ai (Fin.many ⟨_,_,rfl,⟨_,_,_,_,_,rfl,rfl,rfl,.inl ⟨TG.h,_,TS.h,nle rfl,rfl⟩⟩,⟨_,_,rfl,rfl,rfl⟩⟩ (nle rfl) ?_);exact am (Cv.agg (CvL_zC aF)) (am (ao aF (ak _)) av)
theorem Ew(k:Ke)(h:vaB k=false)(hl:k.length<=1000)(h2:∀p∈k,p.1.length<=1099511627776/\p.2.length<=1099511627776):FS 11 [.arr (kE k)] (.tup [.arr (kE []),i64 2]):=by
 have hc:=mZ k h hl h2;refine f_n Tryz.func11 ?_ ?_;exact ae (aH k) af;refine r_z 2 ?_;refine ac (r_c 3 (hc) ?_);refine a_z ?_;refine s_r 2 ?_;refine a_1 ?_;refine o_0 (.bin rfl rfl (vT cm (rfl))) ?_;refine aq ?_;refine cT (r_z 3 ?_);refine ai (Fin.many ⟨_,_,rfl,rfl,⟨_,_,rfl,rfl,rfl⟩⟩ (nle rfl) ?_);exact am (Cv.emp _) (am (ao aF (ak _)) av)
theorem GG(k:Ke)(a b:Rat)(hw:FS 51 [.arr (kE k),.agg (spC a b)] (bln true)):FS 12 [.arr (kE k),.agg (spC a b)] (.tup [.arr (pE []),i64 2]):=by
 refine f_n Tryz.func12 ?_ ?_;exact ae (aH k) (ae (aE (bt a b)) af);refine r_z 3 ?_;refine ac (r_c 3 (hw) ?_);refine aq ?_;refine cT (r_z 2 ?_);refine ai (Fin.many ⟨_,_,rfl,rfl,⟨_,_,rfl,rfl,rfl⟩⟩ (nle rfl) ?_);exact am (Cv.emp _) (am (ao aF (ak _)) av)
theorem Ck(k:Ke)(a b:Rat)(hw:FS 51 [.arr (kE k),.agg (spC a b)] (bln true)):FS 13 [.arr (kE k),.agg (spC a b)] (.tup [.arr (roE [] 0 0),i64 2]):=by
 refine f_n Tryz.func13 ?_ ?_;exact ae (aH k) (ae (aE (bt a b)) af);refine r_z 3 ?_;refine ac (r_c 3 (hw) ?_);refine aq ?_;refine cT (r_z 2 ?_);refine ai (Fin.many ⟨_,_,rfl,rfl,⟨_,_,rfl,rfl,rfl⟩⟩ (nle rfl) ?_);exact am (Cv.emp _) (am (ao aF (ak _)) av)
theorem Lf{k:Ke}{a b:Rat}(hk:TmK k)(hke:pp k)(qa:qs a<=20)(qb:qs b<=20)(ab:a<=b):∃(c:Cnt) (m:Nat),CQ (jR k a b) c/\
    FS 13 [.arr (kE k),.agg (spC a b)] (.tup [.arr (roE c.p 0 m),i64 0])/\Dc c=(m:Int)/\m<=1000000000000000:=by
 obtain⟨d1,d2,e,C⟩:=ES hk qa qb;have t:=GB hk.toG qa qb;have B:=bh (jR k a b);generalize jR k a b=d at *
 obtain⟨c,h⟩:=CQ.ex e d1 d2;have g:=h.hc;have A:=xE d1 ω;have v:=mxL_le d1 ω;have j:=JR g e;have s:=up_all g e h.ag;have f:=h.upto (x:=a7 d) ω;have l:=h.below (x:= -a7 d) (by rw[dJ];omega);have z:=lR (x:=a7 d) f.1;have y:=zp g e (a7 d);have r:=pm d;have u:=h.sl
 have i:∀{q:Lq},nz q->q.length<=4->mU q=0:=fun{q} h1 h2=>by
  have:=A1 h1;have:=GS q (n:=3) h2;unfold mU;rw[if_neg ω,if_neg ω]
 obtain⟨m,w⟩:∃m:Nat,cX c (a7 d)=cN c (-a7 d)+m:=⟨(cX c (a7 d)).toNat,ω⟩
 have o:=EB k a b d hke (Nat.le_trans qa δ) (Nat.le_trans qb δ) ab t 9 c m ⟨ω,ω⟩ e ω g δ l f
  ⟨by show qs (-a7 d)<=_;rw[dJ];omega,by show qs (a7 d)<=_;omega⟩ (cmpQ_le.2 φ) (i e d2) ω w
 rw[j] at o;exact⟨c,m,h,o,ω,ω⟩
theorem Iz{k:Ke}{x y:Rat}(hk:TmK k)(hke:pp k)(hx:qs x<=20)(hy:qs y<=20):OkAt k x y where
 ke:=hke
 e:=λp hp=>by
  have f:=(hk.n p hp).1;have h:=(hk.n p hp).2;have d:=uF f (hk.b p hp).1 hx;have g:=uF h (hk.b p hp).2 hy;exact⟨ok_ev ω (hk.b p hp).1 hx,ok_ev ω (hk.b p hp).2 hy,ω⟩
 a:=λi p hp=>by
  have c:=List.mem_of_getElem? hp;have q:i< k.length:=(List.getElem?_eq_some_iff.1 hp).1;have j:=hk.l;have o:=G8 hk hx hy i ω;have d:=uF (hk.n p c).1 (hk.b p c).1 hx;have g:=uF (hk.n p c).2 (hk.b p c).2 hy;have m:=cx (an p.1 x) (an p.2 y);omega
def ekS(k:Ke)(a b:Rat)(v22 v24:AV)(e:Int):Nat->AState
 |j=>⟨[(10,.arr (keR k)),(17,.aptr [rC (rq a)++rC (rq b)] 0 0),(20,.arr (kE (tuK k))),(22,v22),(23,i64 e),(24,v24),(25,i64 e),(26,.arr (keR (swK k))),(27,i64 j)],[],1,260⟩
def ezS(p:Lq)(m:Nat)(d:Lq):Nat->AState
 |j=>⟨[(24,.arr (roE p 0 m)),(28,.arr (rE (rP d))),(30,i64 j)],[],1,260⟩
theorem pR(l:List jc)(xr tr:iq)(gp:iq×iq)(ho:∀t∈l,BN t)(hll:l.length<=9223372036854775807)(hxr:okN xr)(htr:okN tr)(hgp:okN gp.1/\okN gp.2):
    FS 3 [.arr (twR l),.agg (nuC xr.1 xr.2.1 xr.2.2),.agg (nuC tr.1 tr.2.1 tr.2.2),.agg (nuC gp.1.1 gp.1.2.1 gp.1.2.2++nuC gp.2.1 gp.2.2.1 gp.2.2.2)] (.v (.bool true)):=by
 obtain⟨k1,k2,kb,hk,G,O,hkf⟩:=JW l ho hll;have R:=Aw [xr,tr,gp.1,gp.2] 4 ψ δ;have L:=Ea;have cG:∀c∈nuC gp.1.1 gp.1.2.1 gp.1.2.2++nuC gp.2.1 gp.2.2.1 gp.2.2.2,Closed c:=dI (ky gp.1) (ky gp.2);refine f_n Tryz.func3 ?_ ?_;exact ae (fc l) (ae (aE (ky xr)) (ae (aE (ky tr)) (ae (aE cG) af)));refine r_z 4 ?_;refine r_c 9 (hk) ?_;refine a_z ?_;refine AWp.ent (st':=⟨[(5,bNu xr),(6,bNu tr),(7,.aptr [nuC gp.1.1 gp.1.2.1 gp.1.2.2++nuC gp.2.1 gp.2.2.1 gp.2.2.2] 0 0),(9,k1),(10,k2),(11,bln kb)],[],1,260⟩) ?_ ?_;refine s_x [] (λhs=>?_) (λhs=>?_)
 ·repeat' (first|exact aL|refine az rfl ?_ ?_|exact ao hs G|exact ao hs O|exact Cv.boxp hs rfl (aG rfl) rfl (ky _)|exact Cv.boxp hs rfl (aG rfl) rfl cG|exact aW)
 ·repeat' (first|exact aB|refine h_c ?_ ?_|exact bG|refine aA ?_|exact av|refine am ?_ ?_|exact ao hs G|exact ao hs O|exact Cv.boxp hs rfl (aG rfl) rfl (ky _)|exact Cv.boxp hs rfl (aG rfl) rfl cG|exact aW)
 cases kb with
 |false=>
  refine ac (q_z 13 ?_);refine cT (r_c 2 (L) ?_);refine a_z ?_;exact ai (t_e (ak _))
 |true=>
 obtain⟨rfl,rfl,J⟩:=hkf rfl;cases et:iD [xr,tr,gp.1,gp.2] 4 with
 |false=>
  rw[et] at R;refine ac (s_r 13 ?_);refine d_8 ?_;refine m_1 ?_;refine AR.op1y rfl rfl rfl (.buildSlice te_34.h TZ.h rfl δ rfl rfl rfl (by simp[nuC])) rfl rfl ?_;refine AR.op1y rfl rfl rfl (.callS1 rfl rfl rfl (.shut rfl d_n (.keep (.nil))) rfl (R)) rfl rfl ?_;refine d_z ?_;refine cT (r_c 2 (L) ?_);refine a_z ?_;exact ai (t_e (ak _))
 |true=>
 rw[et] at R;refine ac (s_r 13 ?_);refine d_8 ?_;refine m_1 ?_;refine AR.op1y rfl rfl rfl (.buildSlice te_34.h TZ.h rfl δ rfl rfl rfl (by simp[nuC])) rfl rfl ?_;refine AR.op1y rfl rfl rfl (.callS1 rfl rfl rfl (.shut rfl d_n (.keep (.nil))) rfl (R)) rfl rfl ?_;refine d_z ?_;refine cF (aj ?_)
 have f:okR [xr,tr,gp.1,gp.2]:=λr hr=>by
  simp only[List.mem_cons,List.not_mem_nil,or_false] at hr;rcases hr with rfl|rfl|rfl|rfl
  exact hxr;exact htr;exact hgp.1;exact hgp.2
 obtain⟨T,_⟩:=zt et f;have Y:qs (nV xr)<=20:=T _ (by simp[nL]);have qy:qs (nV tr)<=20:=T _ (by simp[nL]);have qa:qs (nV gp.1)<=20:=T _ (by simp[nL]);have qb:qs (nV gp.2)<=20:=T _ (by simp[nL]);have N:=AF gp.1.1 gp.1.2.1 gp.2.1 gp.2.2.1 gp.1.2.2 gp.2.2.2 hgp.1.1 hgp.1.2.1 hgp.1.2.2 hgp.2.1 hgp.2.2.1 hgp.2.2.2;have Q:=og xr.1 xr.2.1 xr.2.2 hxr.1 hxr.2.1 hxr.2.2;have H:=og tr.1 tr.2.1 tr.2.2 htr.1 htr.2.1 htr.2.2;obtain⟨F,f2,f3⟩:=JV ho J;have u:∀p∈keM l,p.1.length<=1099511627776/\p.2.length<=1099511627776:=λp hp=>by have:=f2 p hp;omega
 have A:=Ei (keM l) F (λp hp=>by have:=f2 p hp;omega);have z:=Eh (nV gp.1) (nV gp.2) qa qb;change FSpec _ _ _ (.tup [.agg (spC (nV gp.1) (nV gp.2)),.agg (rC (rq (nV gp.1))++rC (rq (nV gp.2)))]) at N;change FSpec _ _ _ (.tup [.agg (qC (nV xr)),.agg (rC (rq (nV xr)))]) at Q;change FSpec _ _ _ (.tup [.agg (qC (nV tr)),.agg (rC (rq (nV tr)))]) at H;refine r_c 9 (Q) ?_;refine a_z ?_;refine r_c 9 (H) ?_;refine a_z ?_;refine r_c 9 (N) ?_;refine a_z ?_;generalize keM l=k at *
 generalize nV xr=x at *
 generalize nV tr=y at *
 generalize nV gp.1=a at *
 generalize nV gp.2=b at *
 have cB:Closed (.aptr [rC (rq a)++rC (rq b)] 0 0):=bi (eO a b);refine AWp.ent (st':=⟨[(9,.arr (kE k)),(10,.arr (keR k)),(12,bQ x),(13,bRq x),(14,bQ y),(15,bRq y),(16,bSp a b),(17,.aptr [rC (rq a)++rC (rq b)] 0 0)],[],1,260⟩) ?_ ?_;refine s_x [] (λhs=>?_) (λhs=>?_)
 ·repeat' (first|exact aL|refine az rfl ?_ ?_|exact ao hs (aH _)|exact ao hs (aY _)|exact Cv.boxp hs rfl (aG rfl) rfl (bC _)|exact Cv.boxp hs rfl (aG rfl) rfl (cK _)|exact Cv.boxp hs rfl (aG rfl) rfl (eO a b)|exact Cv.boxp hs rfl (aG rfl) rfl (bt a b)|exact aW)
 ·repeat' (first|exact aB|refine h_c ?_ ?_|exact bG|refine aA ?_|exact av|refine am ?_ ?_|exact ao hs (aH _)|exact ao hs (aY _)|exact Cv.boxp hs rfl (aG rfl) rfl (bC _)|exact Cv.boxp hs rfl (aG rfl) rfl (cK _)|exact Cv.boxp hs rfl (aG rfl) rfl (eO a b)|exact Cv.boxp hs rfl (aG rfl) rfl (bt a b)|exact aW)
 have nil0:([]:Lc).length=0:=rfl;have nil1:(kE ([]:Ke)).length=0:=rfl;have nil2:(roE [] 0 0).length=0:=rfl;have nil3:([]:Lq).length=0:=rfl;have sa:sm a:=by unfold sm;omega
 have sb:sm b:=by unfold sm;omega
 cases ev:vaB k with
 |false=>
  rw[ev] at A;have e0:=mZ k ev F u;have K:=D9 k a b ev F u;have e1:=fs_AtX k x y ev F u;have e2:=Ew k ev F u;have e3:=GG k a b K;have e4:=Ck k a b K;have X:FS 16 [.agg (qC 0)] (i64 0):=c6 0;refine r_c 10 (e1) ?_;refine a_z ?_;refine r_c 7 (e2) ?_;refine a_z ?_;refine r_c 8 (e3) ?_;refine a_z ?_;refine r_c 8 (e4) ?_;refine a_z ?_;refine ac (r_c 3 (A) ?_);refine a_z ?_;refine cT (r_c 39 (e0) ?_);refine o_0 (.bin rfl rfl (vT bJ (rfl))) ?_;refine d_2 ?_;refine br rfl rfl rfl (.bin rfl rfl (vT bJ (rfl))) rfl rfl ?_;refine d_3 ?_;refine br rfl rfl rfl (.bin rfl rfl (vT bJ (rfl))) rfl rfl ?_;refine d_3 ?_;refine br rfl rfl rfl (.bin rfl rfl (vT bJ (rfl))) rfl rfl ?_;refine d_3 ?_;refine br rfl rfl rfl (.bin rfl rfl (vT bJ (rfl))) rfl rfl ?_;refine e_s (X) ?_;refine br rfl rfl rfl (.bin rfl rfl (vT bJ (rfl))) rfl rfl ?_;refine d_8 ?_;refine d_2 ?_;refine br rfl rfl rfl (.bin rfl rfl (vT bJ (rfl))) rfl rfl ?_;refine c_s (L) ?_;refine a_z ?_;exact ai (t_e (ak _))
 |true=>
 rw[ev] at A;obtain⟨v1,v2,v3⟩:=f3 ev;have i:TmK k:=⟨v1,v2,v3⟩;have s:=okKe_va ev u;have e0:=kX k s;have e1:=fs_KAt k x y (Iz i s Y qy);have e2:=H6 k s (λp hp=>by have:=v2 p hp;omega);have U:=fs_rAt k x y i Y qy;have hsa:=Ce (atK k x y) (rq (atK k x y)) (bK _) rfl (by have:=atK_bd i Y qy;omega);have V:=Ej k F;have lk:(kE (tuK k)).length=k.length:=ψ
 have lr:(keR (swK k)).length=k.length:=ψ
 obtain⟨n,g,e,c22,c24,e3,e4,M⟩:∃(n g:AV) (e:Int),Closed n/\Closed g/\FS 12 [.arr (kE k),.agg (spC a b)] (.tup [n,i64 e])/\FS 13 [.arr (kE k),.agg (spC a b)] (.tup [g,i64 e])/\
     ((¬a<=b/\n= .arr (pE [])/\g= .arr (roE [] 0 0)/\e=2)\/(a<=b/\e=0/\n= .arr (pE (jR k a b))/\∃(c:Cnt) (m:Nat),CQ (jR k a b) c/\g= .arr (roE c.p 0 m)/\Dc c=(m:Int)/\m<=1000000000000000)):=by
  by_cases f:a<=b;obtain⟨c,m,h1,h2,h3,h4⟩:=Lf i s qa qb f;exact⟨_,_,0,aD _,aK (fE _ _ _),fs_DetG i.toG qa qb sa sb f,h2,.inr ⟨f,rfl,rfl,c,m,h1,rfl,h3,h4⟩⟩;have K:=HR k a b s sa sb f;exact⟨_,_,2,aD _,aK (fE _ _ _),GG k a b K,Ck k a b K,.inl ⟨f,rfl,rfl,rfl⟩⟩
 refine r_c 10 (e1) ?_;refine a_z ?_;refine r_c 7 (e2) ?_;refine a_z ?_;refine r_c 8 (e3) ?_;refine a_z ?_;refine r_c 8 (e4) ?_;refine a_z ?_;refine ac (r_c 3 (A) ?_);refine a_z ?_;refine cF (aj (r_c 3 (V) ?_));refine a_z ?_;refine ac (ac (r_d aX 27 ?_));refine c_s (e0) ?_;refine o_0 (.bin rfl rfl (vF cm (rfl))) ?_;refine d_2 ?_;refine br rfl rfl rfl (.bin rfl rfl (vF cm (rfl))) rfl rfl ?_;refine d_3 ?_;refine br rfl rfl rfl (.bin rfl rfl (vF cm (rfl))) rfl rfl ?_;refine e_s (U) ?_;refine c_s (hsa) ?_;refine d_7 ?_;refine br rfl rfl rfl (.bin rfl rfl (vF cm (neF (by rw[lk,lr])))) rfl rfl ?_;refine a_1 ?_;refine aq (n_k ?_);refine cF (aj (ac (r_z 1 ?_)));refine aC (λ_:Unit=>⟨[(10,.arr (keR k)),(17,.aptr [rC (rq a)++rC (rq b)] 0 0),(22,n),(23,i64 e),(24,g),(25,i64 e)],[],1,260⟩) (λ_=>True) ?_ ?_
 ·refine ah (ay (ekS k a b n g e) (λj=>k.length- j) (λj=>j<=k.length) 0 (Nat.zero_le _) ?_ ?_)
  rw[ekS.eq_1];exact s_x [] (λhs=>e_60) (λhs=>e_61);intro j hj;rw[ekS.eq_1];by_cases hlt:j< k.length;rotate_left;refine ac (q_z 4 ?_);refine cF (ax ⟨(),trivial,?_⟩);refine s_x [] (λhs=>?_) (λhs=>?_)
  ·repeat' (first|exact aL|refine az rfl ?_ ?_|exact ao hs (aY _)|exact ao hs cB|exact ao hs c22|exact ao hs c24|exact aW)
  ·repeat' (first|exact aB|refine h_c ?_ ?_|exact bG|refine aA ?_|exact av|refine am ?_ ?_|exact ao hs (aY _)|exact ao hs cB|exact ao hs c22|exact ao hs c24|exact aW)
  obtain⟨p,hp⟩:∃p,k[j]?=some p:=⟨_,List.getElem?_eq_getElem hlt⟩;have S:=List.mem_of_getElem? hp;obtain⟨n1,n2⟩:=v2 p S;obtain⟨k1',k2'⟩:=v3 p S;have w:(kE (tuK k))[((j:Nat):Int).toNat]?=some (prC (ap p.2,ap p.1)):=jo (by unfold tuK;rw[List.getElem?_map,hp];rfl) _ ψ;have B:(keR (swK k))[((j:Nat):Int).toNat]?=some (pkR (p.2,p.1)):=iR (by unfold swK;rw[List.getElem?_map,hp];rfl) _ ψ;have s1:=rY (ap p.2) (rP p.2) (dh _) (by rw[b5]) (λq E=>Nat.le_trans (k2' q (cz E)) δ) χ;have s2:=rY (ap p.1) (rP p.1) (dh _) (by rw[b5]) (λq E=>Nat.le_trans (k1' q (cz E)) δ) χ;refine ac (q_z 4 ?_);refine cT (aj (ac (ah (ac (r_d aX 26 ?_)))));refine a_2 ?_;refine i_x w ?_;refine bm (.fieldAddr_a rfl TF.h δ) rfl rfl ?_;refine l_1 w ?_;refine a_2 ?_;refine i_x B ?_;refine bm (.fieldAddr_a rfl TF.h δ) rfl rfl ?_;refine l_1 B ?_;refine c_s (s1) ?_;refine d_4 ?_;refine br rfl rfl rfl (.index_a rfl rfl ω w rfl te_28.h) rfl rfl ?_;refine br rfl rfl rfl (.fieldAddr_a rfl TF.h δ) rfl rfl ?_;refine br rfl rfl rfl (.load_a1 rfl w TG.h rfl) rfl rfl ?_;refine d_2 ?_;refine br rfl rfl rfl (.index_a rfl rfl ω B rfl te_30.h) rfl rfl ?_;refine br rfl rfl rfl (.fieldAddr_a rfl TF.h δ) rfl rfl ?_;refine br rfl rfl rfl (.load_a1 rfl B TG.h rfl) rfl rfl ?_;refine c_s (s2) ?_;refine d_2 ?_;refine aq (n_k ?_);refine cF (aj (r_m 3 ?_));refine a_z ?_;refine⟨j+1,ω,ω,?_⟩;rw[ekS.eq_1]
  exact s_x [] (λhs=>e_60) (λhs=>e_61)
 rintro _ _;rcases M with⟨f,rfl,rfl,rfl⟩|⟨f,rfl,rfl,c,m,o,rfl,S,hml⟩
 rw[decide_eq_false f] at z;refine ac (r_c 3 (z) ?_);refine a_z ?_;refine cT (s_r 18 ?_);refine a_1 ?_;refine o_0 (.bin rfl rfl (vT bJ (rfl))) ?_;refine d_2 ?_;refine br rfl rfl rfl (.bin rfl rfl (vT bJ (rfl))) rfl rfl ?_;refine d_7 ?_;refine br rfl rfl rfl (.bin rfl rfl (vT bJ (rfl))) rfl rfl ?_;refine c_s (L) ?_;refine a_z ?_;exact ai (t_e (ak _));rw[decide_eq_true f] at z;have hrd:=uP k a b i qa qb;have D:=Km (jR k a b) c o;rw[S] at D;obtain⟨d1,d2,d3,d4⟩:=ES i qa qb;have Z:=rY (jR k a b) (rP (jR k a b)) (dh _) (by rw[b5];exact d4) (λq E=>Nat.le_trans (d1 q E) δ) χ;have W:=B4 (jR k a b) c o;have hss:=rY c.p (rP c.p) (dh _) (by rw[b5];exact Hn (eE o.hc o.np).2.1) (λq E=>Nat.le_trans (o.sb q E) δ) (by have:=o.sl;simp;omega);have lro:(roE c.p 0 m).length=m:=DH _ _ _;generalize jR k a b=d at *
 refine ac (r_c 3 (z) ?_);refine a_z ?_;refine cF (aj (r_c 4 (hrd) ?_));refine a_z ?_;refine r_c 3 (D) ?_;refine a_z ?_;refine ac (s_r 18 ?_);refine a_1 ?_;refine o_0 (.bin rfl rfl (vF cm (rfl))) ?_;refine d_2 ?_;refine br rfl rfl rfl (.bin rfl rfl (vF cm (rfl))) rfl rfl ?_;refine e_s (Z) ?_;refine d_6 ?_;refine br rfl rfl rfl (.bin rfl rfl (vF cm (neF (by rw[lro])))) rfl rfl ?_;refine a_z ?_;refine cF (aj (ac (r_z 1 ?_)));refine aC (λ_:Unit=>⟨[],[],1,260⟩) (λ_=>True) ?_ ?_
 ·refine ah (ay (ezS c.p m d) (λj=>m- j) (λj=>j<=m) 0 (Nat.zero_le _) ?_ ?_)
  rw[ezS.eq_1];exact s_x [] (λhs=>e_62) (λhs=>e_63);intro j hj;rw[ezS.eq_1];by_cases hlt:j< m;rotate_left;refine ac (q_z 4 ?_);refine cF (ax ⟨(),trivial,?_⟩);exact s_e [];have C:=roE_get (p:=c.p) (a:=0) hlt;refine ac (q_z 4 ?_);refine cT (aj (ac (ah (ac (r_d aX 18 ?_)))));refine a_2 ?_;refine i_x C ?_;refine bm (.fieldAddr_a rfl TF.h δ) rfl rfl ?_;refine l_1 C ?_;refine a_1 ?_;refine o_0 (.bin rfl rfl (vF cm (neF ω))) ?_;refine d_3 ?_;refine br rfl rfl rfl (.index_a rfl rfl ω C rfl te_65.h) rfl rfl ?_;refine br rfl rfl rfl (.fieldAddr_a rfl TF.h δ) rfl rfl ?_;refine br rfl rfl rfl (.load_a1 rfl C TG.h rfl) rfl rfl ?_;refine e_s (W) ?_;refine c_s (hss) ?_;refine d_2 ?_;refine aq (n_k ?_);refine cF (aj (r_m 3 ?_));refine a_z ?_;refine⟨j+1,ω,ω,?_⟩;rw[ezS.eq_1];exact s_x [] (λhs=>e_62) (λhs=>e_63)
 rintro _ _;refine r_c 2 (L) ?_;refine a_z ?_;exact ai (t_e (ak _))
end Go.Proofs.YtjmkjicckobojaaGreatDoor
