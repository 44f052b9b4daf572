/- Part V36 of the proof. -/
import Derived.Test.YtkbjakfniejkcaaGreatDoorV35
import Derived.Test.YtkbjakfniejkcaaGreatDoorRows
import Derived.JoinedOf
import Derived.SevenTiedAt
set_option linter.all false
namespace Go.Proofs.YtkbjakfniejkcaaGreatDoor
open Go.Abs
set_option maxRecDepth 20000
set_option maxHeartbeats 4000000
def roE(p:Lq)(a:Int)(n:Nat):Lc:=(List.range n).map fun(j:Nat)=>[.arr (pE p),i64 (a+(j:Int))]
@[simp] theorem roE_length (p:Lq)(a:Int)(n:Nat):(roE p a n).length=n:=by simp[roE]
theorem roE_get{p:Lq}{a:Int}{n j:Nat}(h:j< n):(roE p a n)[((j:Nat):Int).toNat]?=some [.arr (pE p),i64 (a+(j:Int))]:=by
 show(roE p a n)[j]?=_;unfold roE;rw[List.getElem?_map,List.getElem?_range h];rfl
theorem roE_one(p:Lq)(a:Int)(n:Nat):(roE p a n).all (·.all AV.one)=true:=by
 simp only[roE,List.all_map,List.all_eq_true];intro q _;rfl
theorem iW(p:Lq)(a:Int)(n:Nat):∀e∈roE p a n,∀c∈e,Closed c:=fun e b c d=>by
 obtain⟨j,_,rfl⟩:=List.mem_map.1 b;exact ac (aB p) (ac (ag _) af) c d
theorem H2(p:Lq)(a:Int)(n:Nat):roE p a (n+1)=roE p a n++[[.arr (pE p),i64 (a+(n:Int))]]:=by
 unfold roE;rw[List.range_succ,List.map_append];rfl
def rtS(t n:Nat)(fr:Fr)(p:Lq)(a:Int):Nat->AState
 |0=>⟨(t,.emp)::fr,[],1,n⟩
 |m+1=>⟨(t,.lsl 1 0 (m+1) none 2)::fr,[(1,some ⟨62,2,roE p a (m+1)⟩)],2,n⟩
theorem Ji(f:Nat)(p:Lq)(c:Cnt)(s:Sp)(m:Nat)(hc:dz f p=some c)(hf:f<=1000000)(h1:nI c s.1)(h2:qi c s.2)(hs:smS s)(hv:fi s.1 s.2<=0)(hl:kX p=0)(hp:p.length<=1099511627776)(hcl:c.p.length<=1000)(hm:cD c s.2=ca c s.1+m):
    FS 39 [.arr (pE p),.agg (spC s.1 s.2)] (.tup [.arr (roE c.p (ca c s.1) m),i64 0]):=by
 have q:=k8 (x:=s.2) h2.1;have k:=ya (x:=s.1) h1.1.1;have e:=Bp p hp;rw[hl] at e;obtain⟨a,ha⟩:∃a,a=ca c s.1:=⟨_,rfl⟩;have g:=kj c s.1 h1;have b:=kN c s.2 h2;rw[hm] at b;rw[<-ha] at g b hm k⊢;have r:=fv c;refine f_c Tryz.func39 ?_;refine r_z 3 ?_;refine ae (r_c 3 (lH s.1 s.2 hs.1 hs.2) ?_);refine a_z ?_;refine au rfl (fun o=>?_) (fun o=>?_);exact absurd o (by simp[hv]);refine am (ae (r_c 3 (e) ?_));refine a_z ?_;refine r_z 2 ?_;refine au rfl (fun l=>?_) (fun l=>?_);exact absurd l (by decide);refine am (r_c 3 (lG f p c hc hf) ?_);refine a_z ?_;refine r_z 1 ?_;refine ae (r_c 5 (g) ?_);refine a_z ?_;refine aF (fun _:Unit=>rtS 8 43 [] c.p a m) (fun _=>True) ?_ ?_;refine aj (aC (fun j:Nat=>rtS 8 43 [(3,bS s),(7,kA c),(9,i64 (a+(j:Int)))] c.p a j) (fun j=>m- j) (fun j=>j<=m) 0 (Nat.zero_le _) ?_ ?_);simp only[rtS.eq_1];rw[show a+((0:Nat):Int)=a by omega];exact s_e [];rintro j t;by_cases hlt:j< m
 ·have d:=BA c.p (by omega)
  cases j with
  |zero=>
   simp only[rtS.eq_1];refine ae (r_c 6 (b) ?_);refine d_z ?_;refine cT (am (ae (aj (r_m 11 ?_))));refine c_s (d) ?_;refine a_z ?_;refine r_m 3 ?_;refine a_z ?_;refine⟨1,by omega,hlt,?_⟩;simp only[rtS.eq_2];rw[show a+(((0+1:Nat)):Int)=a+((0:Nat):Int)+1 by omega];have:=iW c.p a 1;exact s_f [(1,8)]
  |succ j=>
   have n:=roE_one c.p a (j+1);simp only[rtS.eq_2];refine ae (r_c 6 (b) ?_);refine d_z ?_;refine cT (am (ae (aj (r_m 11 ?_))));refine c_s (d) ?_;refine o_0 (.move rfl) ?_;refine o_0 (.build TZ.h tp_62.h rfl rfl) ?_;refine o_1 (.buildSlice te_54.h TZ.h rfl (by decide) rfl rfl rfl (by first|(simp;done)|(simp[cf,ofV];done)|rfl)) ?_;refine o_2 (.append_l rfl rfl rfl te_54.h rfl rfl rfl rfl rfl d_o (by first|exact dV _|exact dT _|exact dy _|exact dX _|exact dS _|assumption|rfl|simp) (by first|rfl|exact dV _|exact dT _|exact dy _|exact dX _|exact dS _|simp) rfl (.lsl rfl (nle rfl)) TZ.h rfl TB.h d_o (by first|(simp[maxLen];done)|(simp[maxLen];omega))) ?_;refine o_0 (.assign rfl) ?_;refine aq ?_;refine r_m 3 ?_;refine a_z ?_;refine⟨j+1+1,by omega,hlt,?_⟩;simp only[rtS.eq_2];rw[show a+((j+1+1:Nat):Int)=a+((j+1:Nat):Int)+1 by omega];refine s_x [(1,8)] (fun hs=>ek) (fun hs=>?_)
   ·repeat' (first|exact aE|refine h_c ?_ ?_|exact aI hs (H2 c.p a (j+1)).symm (iW _ _ _)|exact bZ)
 have i:j=m:=by omega
 subst i;cases j with
 |zero=>
  simp only[rtS.eq_1];refine ae (r_c 6 (b) ?_);refine d_z ?_;refine cF (ax ⟨(),trivial,?_⟩);simp only[rtS.eq_1];exact s_e []
 |succ j=>
  simp only[rtS.eq_2];refine ae (r_c 6 (b) ?_);refine d_z ?_;refine cF (ax ⟨(),trivial,?_⟩);simp only[rtS.eq_2];refine s_x [(1,8)] (fun hs=>ek) (fun hs=>?_)
  ·repeat' (first|exact aE|refine h_c ?_ ?_|exact bm hs (iW _ _ _)|exact bZ)
 rintro _ _;cases m with
 |zero=>
  simp only[rtS.eq_1];refine r_z 3 ?_;refine ai (Fin.many ⟨_,_,rfl,rfl,⟨_,_,rfl,rfl,rfl⟩⟩ (nle rfl) ?_);exact ah (Cv.emp _) (ah (an aA (ag _)) av)
 |succ m=>
  simp only[rtS.eq_2];refine r_z 3 ?_;refine ai (Fin.many ⟨_,_,rfl,rfl,⟨_,_,rfl,rfl,rfl⟩⟩ (nle rfl) ?_);exact ah (Cv.sealE aA rfl (fun _ _ h=>by cases h) rfl (by simp) (iW _ _ _)) (ah (an aA (ag _)) av)
def eppS(k:Ke)(g:Nat)(cap:La)(f:Lq×Lq->Lq×Lq):Nat->AState
 |0=>⟨[(1,.clos g [] cap),(8,.arr (kE k)),(9,i64 k.length),(10,i64 0),(5,.emp)],[],1,22⟩
 |i+1=>⟨[(1,.clos g [] cap),(8,.arr (kE k)),(9,i64 k.length),(10,i64 ((i+1:Nat):Int)),(5,.lsl 1 0 (i+1) none 2)],[(1,some ⟨93,2,kE ((k.take (i+1)).map f)⟩)],2,22⟩
theorem GI(k:Ke)(g:Nat)(cap:La)(f:Lq×Lq->Lq×Lq)(hcap:∀c∈cap,Closed c)(hl:k.length<=1000)(hg:∀p∈k,FS g ((.agg (prC p)::cap).map coe) (.agg (prC (f p)))):FS 91 [.arr (kE k),.clos g [] cap] (.arr (kE (k.map f))):=by
 have n:(kE k).length=k.length:=dY k;have hcc:Closed (.clos g [] cap):=aR af hcap;refine f_n Tryz.func91 ?_ ?_;exact ac (aL k) (ac hcc af);refine r_z 1 ?_;refine r_z 1 ?_;refine ae (r_z 3 ?_);refine aF (fun _:Unit=>⟨[(5,.arr (kE (k.map f)))],[],1,22⟩) (fun _=>True) ?_ ?_;refine aj (aC (eppS k g cap f) (fun i=>k.length- i) (fun i=>i<=k.length) 0 (Nat.zero_le _) ?_ ?_);rw[eppS.eq_1];exact s_x [] (fun hs=>e_1) (fun hs=>e_23);intro i o;by_cases hlt:i< k.length
 ·obtain⟨p,hp⟩:∃p,k[i]?=some p:=⟨_,List.getElem?_eq_getElem hlt⟩
  have e:=hg p (List.mem_of_getElem? hp);have l:(k.take (i+1)).length=i+1:=by rw[List.length_take];omega
  have hnew:kE ((k.take i).map f)++[prC (f p)]=kE ((k.take (i+1)).map f):=by rw[cJ hp,List.map_append,List.map_singleton];simp[kE]
  cases i with
  |zero=>
   have a:(kE k)[((0:Int)).toNat]?=some (prC p):=ka hp _ rfl;rw[eppS.eq_1];refine q_z 1 ?_;refine ae (cT (am (ae (aj (s_r 4 ?_)))));refine i_x a ?_;refine l_x a ?_;refine a_z ?_;refine r_m 7 ?_;refine c_s (e) ?_;refine a_z ?_;refine r_m 2 ?_;refine a_z ?_;refine⟨0+1,by omega,by omega,?_⟩;rw[eppS.eq_2];rw[<-hnew];exact s_x [(1,5)] (fun hs=>e_1) (fun hs=>e_42)
  |succ i=>
   have a:(kE k)[(((i+1:Nat):Int)).toNat]?=some (prC p):=ka hp _ (by simp);have m:=Dm ((k.take (i+1)).map f);have b:(kE ((k.take (i+1)).map f)).length=i+1:=by simp;omega
   rw[eppS.eq_2];refine q_z 1 ?_;refine ae (cT (am (ae (aj (s_r 4 ?_)))));refine i_x a ?_;refine l_x a ?_;refine a_z ?_;refine r_m 7 ?_;refine c_s (e) ?_;refine o_1 (.buildSlice te_28.h TZ.h rfl (by decide) rfl rfl rfl (by first|(simp;done)|(simp[cf,ofV];done)|rfl)) ?_;refine o_2 (.append_l rfl rfl rfl te_28.h rfl rfl rfl rfl rfl d_o (by first|exact dV _|exact dT _|exact dy _|exact dX _|exact dS _|assumption|rfl|simp) (by first|rfl|exact dV _|exact dT _|exact dy _|exact dX _|exact dS _|simp) rfl (.lsl rfl (nle rfl)) TZ.h rfl TB.h d_o (by first|(simp[maxLen];done)|(simp[maxLen];omega))) ?_;refine o_0 (.assign rfl) ?_;refine aq ?_;refine r_m 2 ?_;refine a_z ?_;refine⟨i+1+1,by omega,by omega,?_⟩;rw[eppS.eq_2];exact s_x [(1,5)] (fun hs=>e_1) (fun hs=>e_43)
 have d:i=k.length:=by omega
 cases i with
 |zero=>
  have j:k=[]:=List.eq_nil_of_length_eq_zero d.symm;subst j;rw[eppS.eq_1];refine q_z 1 ?_;refine ae (cF (ax ⟨(),trivial,?_⟩));exact s_e []
 |succ i=>
  have b:(kE (k.map f)).length=i+1:=by simp;omega
  rw[eppS.eq_2,d,List.take_length];refine q_z 1 ?_;refine ae (cF (ax ⟨(),trivial,?_⟩));exact s_x [] (fun hs=>e_44) (fun hs=>e_45)
 rintro _ _;refine r_z 2 ?_;exact ai (t_e (aL _))
theorem Dz(p:Lq×Lq)(h1:p.1.length<=1000000)(h2:p.2.length<=1000000):FS 92 [.agg (prC p)] (.agg (prC (ao p.2,ao p.1))):=by
 have t1:=c9 p.1 (by omega);have t2:=c9 p.2 (by omega);refine f_n Tryz.func92 ?_ ?_;exact ac (az (fk p)) af;refine r_z 2 ?_;refine ae (r_d a7 8 ?_);refine c_s (t2) ?_;refine c_s (t1) ?_;refine a_2 ?_;refine aq (n_k ?_);exact ai (c_e (az (fk _)))
theorem GM(k:Ke)(hk:pn k)(h:∀p∈k,p.1.length<=1000000/\p.2.length<=1000000):FS 6 [.arr (kE k)] (.tup [.arr (kE (tuK k)),i64 0]):=by
 have c:=vE k hk;have a:=GI k 92 [] (fun p=>(ao p.2,ao p.1)) af (by have:=hk.1;omega) fun p hp=>Dz p (h p hp).1 (h p hp).2
 have b:FS 32 [.arr (kE k)] (.arr (kE (tuK k))):=by
  refine f_n Tryz.func32 ?_ ?_;exact ac (aL k) af;refine r_z 1 ?_;refine r_c 3 (a) ?_;refine a_z ?_;exact ai (t_e (aL _))
 refine f_n Tryz.func6 ?_ ?_;exact ac (aL k) af;refine r_z 2 ?_;refine ae (r_c 3 (c) ?_);refine a_z ?_;refine s_r 2 ?_;refine a_1 ?_;refine o_0 (.bin rfl rfl (vF ct (rfl))) ?_;refine aq ?_;refine cF (am (r_c 4 (b) ?_));refine a_z ?_;refine ai (Fin.many ⟨_,_,rfl,rfl,⟨_,_,rfl,rfl,rfl⟩⟩ (nle rfl) ?_);exact ah (an aA (aL _)) (ah (an aA (ag _)) av)
theorem zr(f:Nat)(p:Lq)(i:Int)(x:Rat)(c:Cnt)(h:uY f p=some c)(hf:f<=1000000)(hi:0<=i)(ha:i< Hg c)(hx:nI c x):
    FS 13 [roA p i,.agg (qC x)] (.tup [i64 (plC c i x),i64 0]):=by
 have a:=I5 f p i c h hf hi;rw[decide_eq_true ha] at a;have b:=tS c i x hx;refine f_n Tryz.func13 ?_ ?_;exact ac (v6 p i) (ac (aS x) af);refine r_z 4 ?_;refine r_c 7 (a) ?_;refine a_z ?_;refine ae (r_z 2 ?_);refine cF (am (r_c 5 (b) ?_));refine a_z ?_;refine ai (Fin.many ⟨_,_,rfl,rfl,⟨_,_,rfl,rfl,rfl⟩⟩ (nle rfl) ?_);exact ah (an aA (ag _)) (ah (an aA (ag _)) av)
theorem I6(p:Lq)(a b:Rat)(h:OkIn p a b):FS 14 [.arr (pE p),.agg (spC a b)] (.agg (qC (inQ p a b))):=by
 refine f_c Tryz.func14 ?_;refine r_z 2 ?_;refine r_c 3 (nY p h.s h.l) ?_;refine a_z ?_;refine ae (r_d a7 10 ?_);refine c_s (iv _ b h.e1) ?_;refine c_s (iv _ a h.e2) ?_;refine c_s (jC _ _ h.d) ?_;refine a_1 ?_;refine aq (n_k ?_);exact ai (c_e (aS _))
theorem DT (k:Ke) (a b:Rat) (d:Lq) (hke:pn k) (sa:sm a) (sb:sm b) (ab:a<=b) (hd:FS 34 [.arr (kE k),.agg (spC a b)] (.arr (pE d))) (f:Nat) (c:Cnt) (m:Nat) (hb:oD d) (nd:ao d≠[]) (hl:d.length<=1099511627776)
    (hc:dz f d=some c) (hf:f<=1000000) (h1:nI c (-a8 d)) (h2:qi c (a8 d)) (hs:smS (-a8 d,a8 d)) (hv:fi (-a8 d) (a8 d)<=0) (hlg:kX d=0) (hcl:c.p.length<=1000) (hm:cD c (a8 d)=ca c (-a8 d)+m):
    FS 9 [.arr (kE k),.agg (spC a b)] (.tup [.arr (roE c.p (ca c (-a8 d)) m),i64 0]):=by
 have i:=oM k a b hke sa sb ab;have e:=GZ d hb nd hl;have h:=ki (a8 d);have g:=Ji f d c (-a8 d,a8 d) m hc hf h1 h2 hs hv hlg hl hcl hm;refine f_n Tryz.func9 ?_ ?_;exact ac (aL k) (ac (az (aZ a b)) af);refine r_z 3 ?_;refine ae (r_c 3 (i) ?_);refine aq ?_;refine cF (am (r_c 4 (hd) ?_));refine a_z ?_;refine r_c 8 (e) ?_;refine a_z ?_;refine ae (r_d a7 11 ?_);refine c_s (h) ?_;refine c_s (g) ?_;refine a_5 ?_;refine aq (n_k ?_);refine r_z 3 ?_;refine ai (Fin.many ⟨_,_,rfl,rfl,⟨_,_,rfl,rfl,rfl⟩⟩ (nle rfl) ?_);exact ah (an aA (aG (iW _ _ _))) (ah (an aA (ag _)) av)
def eL(M:Mx):Nat->Lq
 |0=>[1]
 |1=>[1,-M 0 0]
 |2=>[1,-(M 0 0+M 1 1),M 0 0* M 1 1- M 0 1* M 1 0]
 |_=>[1,-(M 0 0+M 1 1+M 2 2),(M 0 0* M 1 1- M 0 1* M 1 0)+(M 0 0* M 2 2- M 0 2* M 2 0)+(M 1 1* M 2 2- M 1 2* M 2 1),-(M 0 0* (M 1 1* M 2 2- M 1 2* M 2 1)- M 0 1* (M 1 0* M 2 2- M 1 2* M 2 0)+M 0 2* (M 1 0* M 2 1- M 1 1* M 2 0))]
theorem nw_e(M:Mx){n:Nat}(h:n<=3):nwL (trE M n) n=eL M n:=by
 rcases(by omega:n=0\/n=1\/n=2\/n=3) with rfl|rfl|rfl|rfl
 rfl;simp[nwL,nwS,trE,coP,eL];grind;simp[nwL,nwS,trE,coP,eL];grind;simp[nwL,nwS,trE,coP,eL];grind
theorem det_e{k:Ke}{a b:Rat}(h3:k.length<=3):iT k a b=ao (eL (maK k a b) k.length):=by
 unfold iT;rw[qn (U:=trE (maK k a b) k.length) k.length fun m c=>tr_E rfl h3 c,nw_e _ h3]
theorem eL_bd{M:Mx}{n:Nat}(h3:n<=3)(h:∀i j,i< n->j< n->qs (M i j)<=4200):bdL (eL M n) 64000/\(eL M n).length<=4:=by
 have q1:qs 1<=64000:=by decide
 have g:∀i j c b,i< n->j< n->c< n->b< n->qs (M i j* M c b)<=8400:=fun i j c b f e h3 l=>by
  have:=dw (M i j) (M c b);have:=h i j f e;have:=h c b h3 l;omega
 have o:∀x y:Rat,qs x<=8400->qs y<=8400->qs (x- y)<=16801:=fun x y f e=>by have:=me x y;omega
 rcases(by omega:n=0\/n=1\/n=2\/n=3) with rfl|rfl|rfl|rfl
 exact⟨fun q a=>by rw[List.mem_singleton.1 a];exact q1,by simp[eL]⟩;refine⟨fun q a=>?_,by simp[eL]⟩;simp only[eL,List.mem_cons,List.not_mem_nil,or_false] at a;rcases a with rfl|rfl
 exact q1;rw[fw];exact Nat.le_trans (h 0 0 (by omega) (by omega)) (by decide);refine⟨fun q a=>?_,by simp[eL]⟩;simp only[eL,List.mem_cons,List.not_mem_nil,or_false] at a;rcases a with rfl|rfl|rfl
 exact q1;rw[fw];have:=gx (M 0 0) (M 1 1);have:=h 0 0 (by omega) (by omega);have:=h 1 1 (by omega) (by omega);omega;exact Nat.le_trans (o _ _ (g _ _ _ _ (by omega) (by omega) (by omega) (by omega)) (g _ _ _ _ (by omega) (by omega) (by omega) (by omega))) (by decide);have d:∀i j c b u v m k,i< 3->j< 3->c< 3->b< 3->u< 3->v< 3->m< 3->k< 3->qs (M i j* M c b- M u v* M m k)<=16801:=fun i j c b u v m k f e h3 l r w s t=>o _ _ (g _ _ _ _ f e h3 l) (g _ _ _ _ r w s t);refine⟨fun q a=>?_,by simp[eL]⟩;simp only[eL,List.mem_cons,List.not_mem_nil,or_false] at a;have C:=h 0 0 (by omega) (by omega);have D:=h 1 1 (by omega) (by omega);have E:=h 2 2 (by omega) (by omega);have A:=h 0 1 (by omega) (by omega);have B:=h 0 2 (by omega) (by omega);rcases a with rfl|rfl|rfl|rfl
 exact q1;rw[fw];have:=gx (M 0 0+M 1 1) (M 2 2);have:=gx (M 0 0) (M 1 1);omega;have d1:=d 0 0 1 1 0 1 1 0 (by omega) (by omega) (by omega) (by omega) (by omega) (by omega) (by omega) (by omega);have d2:=d 0 0 2 2 0 2 2 0 (by omega) (by omega) (by omega) (by omega) (by omega) (by omega) (by omega) (by omega);have p:=d 1 1 2 2 1 2 2 1 (by omega) (by omega) (by omega) (by omega) (by omega) (by omega) (by omega) (by omega);generalize M 0 0* M 1 1- M 0 1* M 1 0=x at *
 generalize M 0 0* M 2 2- M 0 2* M 2 0=y at *
 generalize M 1 1* M 2 2- M 1 2* M 2 1=z at *
 have:=gx (x+y) z;have:=gx x y;omega;have d1:=d 1 1 2 2 1 2 2 1 (by omega) (by omega) (by omega) (by omega) (by omega) (by omega) (by omega) (by omega);have d2:=d 1 0 2 2 1 2 2 0 (by omega) (by omega) (by omega) (by omega) (by omega) (by omega) (by omega) (by omega);have p:=d 1 0 2 1 1 1 2 0 (by omega) (by omega) (by omega) (by omega) (by omega) (by omega) (by omega) (by omega);generalize M 1 1* M 2 2- M 1 2* M 2 1=x at *
 generalize M 1 0* M 2 2- M 1 2* M 2 0=y at *
 generalize M 1 0* M 2 1- M 1 1* M 2 0=z at *
 rw[fw];have:=gx (M 0 0* x- M 0 1* y) (M 0 2* z);have:=me (M 0 0* x) (M 0 1* y);have:=dw (M 0 0) x;have:=dw (M 0 1) y;have:=dw (M 0 2) z;omega
theorem JN{k:Ke}{a b:Rat}(hk:TmK k)(qa:qs a<=20)(qb:qs b<=20):bdL (iT k a b) 64000/\(iT k a b).length<=4/\nz (iT k a b)/\ao (iT k a b)=iT k a b:=by
 have c:=hk.l
 obtain⟨e1,e2⟩:=eL_bd (M:=maK k a b) (n:=k.length) c fun i j h d=>by
  have m1:k.getD i ([],[])∈k:=by rw[List.getD_eq_getElem?_getD,List.getElem?_eq_getElem h];exact List.getElem_mem h
  have m2:k.getD j ([],[])∈k:=by rw[List.getD_eq_getElem?_getD,List.getElem?_eq_getElem d];exact List.getElem_mem d
  have:=(Fl (t:=20) (a:=a) (b:=b) (hk.n _ m1).2 (hk.b _ m1).2 (Nat.le_trans (hk.n _ m2).1 (by decide)) (hk.b _ m2).1 (by decide) (by decide) qa qb).2.2;unfold maK;exact Nat.le_trans this (by decide)
 rw[det_e c];refine⟨fun q m=>e1 q (cI m),Nat.le_trans (bR _) e2,fun g=>?_,cw _⟩
 have f:coP (eL (maK k a b) k.length) 0=1:=by
  rcases(by omega:k.length=0\/k.length=1\/k.length=2\/k.length=3) with e|e|e|e <;> rw[e]<;> rfl
 rw[cw] at g;rw[<-bv,g] at f
 revert f;decide

section
variable {k:Ke}{a b l:Rat}{p g:Lq}{t:Nat}
end
abbrev bEq(k:Ke)(l:Rat)(g:Lq):AV:= .aptr [eqC k l g] 0 0
theorem iZ(k:Ke)(l:Rat)(g:Lq):Closed (bEq k l g):=bq (dk k l g)
def orB(f:Nat->Bool):Nat->Bool
 |0=>false
 |i+1=>orB f i||f i
theorem tH(f:Nat->Bool):∀n,orB f n=true↔∃j,j< n/\f j=true
 |0=>⟨fun h=>(by cases h),fun⟨j,h,_⟩=>(by omega)⟩
 |n+1=>by
  rw[orB,Bool.or_eq_true,tH f n];constructor;rintro(⟨j,b,a⟩|h);exact⟨j,by omega,a⟩;exact⟨n,by omega,h⟩;rintro⟨j,b,a⟩;by_cases e:j=n;exact .inr (e▸a);exact .inl ⟨j,by omega,a⟩
theorem Hz{k:Ke}(h:TmK k):TmK (tuK k):=by
 refine⟨by have:=h.l;simpa using this,fun q a=>?_,fun q a=>?_⟩;obtain⟨p,hp,rfl⟩:=List.mem_map.1 a;have:=h.n p hp;exact⟨Nat.le_trans (bR _) this.2,Nat.le_trans (bR _) this.1⟩;obtain⟨p,hp,rfl⟩:=List.mem_map.1 a;have:=h.b p hp;exact⟨fun x c=>this.2 x (cI c),fun x c=>this.1 x (cI c)⟩
theorem ov_tame{p u:Lq}{a b:Rat}{t:Nat}(hp:p.length<=4)(bp:bdL p t)(ht:1<=t)(ht2:t<=100000000)(hu:u.length<=5)(bu:bdL u 20)(qa:qs a<=20)(qb:qs b<=20):j7 p u/\OkIn (aK p u) a b:=by
 have m1:=tM bp bu ht (by omega);have l1:=xh p u;have e1:p.length* (t+20+1)<=4* (t+20+1):=Nat.mul_le_mul_right _ hp;have m2:=bdL_mono' (b:=4* t+85) m1 (by omega);have i1:=nS m2 (by omega) (by omega);have l:=gF (aK p u);have o:=mxL_le bp ht;have n:=mxL_le bu (by omega);have k:p.length* (mxL p+mxL u+1)<=4* (t+20+1):=Nat.mul_le_mul hp (by omega)
 have ev:∀y:Rat,qs y<=20->gz (aH (aK p u)) y/\qs (ak (aH (aK p u)) y)<=40* t+1271:=fun y f=>by
  have j:=lJ f i1;have h:=mxL_le i1 (by omega);have m:(aH (aK p u)).length* (4* t+85+21+20+1)<=10* (4* t+85+21+20+1):=Nat.mul_le_mul_right _ (by omega);have i:(aH (aK p u)).length* (mxL (aH (aK p u))+qs y+1)<=10* (4* t+127):=Nat.mul_le_mul (by omega) (by omega);exact⟨⟨by omega,by omega⟩,by omega⟩
 obtain⟨g,e⟩:=ev a qa;obtain⟨d,c⟩:=ev b qb;exact⟨⟨by omega,by omega,by omega,by omega⟩,⟨dG m2 (by omega),by omega,d,g,by omega⟩⟩
theorem Hb{k:Ke}{a b:Rat}(hk:TmK k)(hke:pn k)(qa:qs a<=20)(qb:qs b<=20)(ab:a<=b):∃(c:Cnt) (b0:Int) (m:Nat),
    FS 9 [.arr (kE k),.agg (spC a b)] (.tup [.arr (roE c.p b0 m),i64 0])/\uY 9 c.p=some c/\(∀x,qs x<=30000000->nI c x)/\0<=b0/\b0+m<=Hg c/\m<=1000000000000000/\∀x,(∃j,j< m/\plC c (b0+(j:Nat)) x=0)↔ak (iT k a b) x=0:=by
 obtain⟨d1,d2,f,M⟩:=JN hk qa qb;have w:=Fv hk.toG qa qb;have L:=bR (iT k a b);generalize iT k a b=d at *
 obtain⟨c,g,s,l,E,t⟩:=det_cnt f d1 d2;have J:=B9 d1 (by omega);have G:=B9 t (by omega);have z:=mxL_le d1 (by omega);have y:=mxL_le t (by omega);have B:=low_nn g f;have v:=all_up g f s;have H:=EB g f (-a8 d);have r:=(fZ g f).1;have i:=l (a8 d) (by omega);have o:=l (-a8 d) (by rw[fw];omega);have F:=k8 (x:=a8 d) i.1.1;have u:=o0 d
 have h:∀{q:Lq},nz q->q.length<=4->kX q=0:=fun{q} h1 h2=>by
  have:=FO h1;have:=zX q (n:=3) h2;unfold kX;rw[if_neg (by omega),if_neg (by omega)]
 obtain⟨m,D⟩:∃m:Nat,cD c (a8 d)=ca c (-a8 d)+m:=⟨(cD c (a8 d)- ca c (-a8 d)).toNat,by omega⟩
 have A:=DT k a b d hke (Nat.le_trans qa (by decide)) (Nat.le_trans qb (by decide)) ab w 9 c m ⟨by omega,by omega⟩ f (by omega) g (by decide) o.2 i.1
  ⟨by show qs (-a8 d)<=_;rw[fw];omega,by show qs (a8 d)<=_;omega⟩ (cmpQ_le.2 (by grind)) (h f d2) (by omega) D
 refine⟨c,ca c (-a8 d),m,A,?_,fun x C=>(l x C).2,B.1,by omega,by omega,fun x=>⟨fun⟨j,N,e⟩=>((B3 g f).1 e).1,fun e=>?_⟩⟩;unfold uY;rw[if_pos ⟨by omega,h r E⟩,s,Option.bind_some,if_pos ⟨⟨by omega,by omega⟩,r,(l _ (by omega)).1⟩];have K:=EW g f e;exact⟨(ca c x- ca c (-a8 d)).toNat,by omega,(B3 g f).2 ⟨e,by omega⟩⟩
def eaS(k:Ke)(L:Rat)(g:Lq)(a b:Rat)(B U:Lw)(p:Lq)(b0:Int)(m:Nat)(f:Nat->Bool):Nat->AState
 |i=>⟨[(9,bEq k L g),(10,bSp a b),(18,.arr (mE B)),(20,.arr (mE U)),(22,.arr (roE p b0 m)),(24,bln (orB f i)),(25,i64 i)],[],1,201⟩
def ebS(k:Ke)(L:Rat)(g:Lq)(a b:Rat)(B U:Lw)(z:Bool)(f:Nat->Bool):Nat->AState
 |i=>⟨[(9,bEq k L g),(10,bSp a b),(18,.arr (mE B)),(20,.arr (mE U)),(24,bln z),(28,bln (!orB f i)),(29,i64 i)],[],1,201⟩
theorem mu(l:List gU)(gp:ft×ft)(cr:ft)(gr:List ft)(ho:∀t∈l,yV t)(hll:l.length<=9223372036854775807)(hgp:okN gp.1/\okN gp.2)(hc:okN cr)(hg:okR gr)(hgl:gr.length<=9223372036854775807):
    FS 3 [.arr (twR l),.agg (nuC gp.1.1 gp.1.2.1 gp.1.2.2++nuC gp.2.1 gp.2.2.1 gp.2.2.2),.agg (nuC cr.1 cr.2.1 cr.2.2),.arr (nR gr)] (.v (.bool true)):=by
 obtain⟨k1,g1,bb,hP,hk1,hg1,hbb⟩:=I4 l gp.1 gp.2 cr gr ho hll hgp.1 hgp.2 hc hg hgl;have hw:=Dx;have cG:∀c∈nuC gp.1.1 gp.1.2.1 gp.1.2.2++nuC gp.2.1 gp.2.2.1 gp.2.2.2,Closed c:=cY (fu gp.1) (fu gp.2);refine f_n Tryz.func3 ?_ ?_;exact ac (dj l) (ac (az cG) (ac (az (fu cr)) (ac (aG (cM gr)) af)));refine r_z 3 ?_;refine r_c 14 (hP) ?_;refine a_z ?_;cases bb with
 |false=>
  refine ae (r_z 2 ?_);refine cT (r_c 2 (hw) ?_);refine a_z ?_;exact ai (t_e (ag _))
 |true=>
 obtain⟨rfl,rfl,o⟩:=hbb rfl;refine ae (r_z 2 ?_);refine cF (am ?_);have qa:=o.qa;have qb:=o.qb;have qL:=o.qc;have ab:=o.ab;have s:=o.t;have C:=o.ok;have bg:=o.bg;have lg:=o.lg;generalize keM l=k at *
 generalize nV cr=L at *
 generalize nL gr=G at *
 generalize nV gp.1=a at *
 generalize nV gp.2=b at *
 refine AWp.ent (st':=⟨[(9,bEq k L G),(10,bSp a b)],[],1,201⟩) ?_ ?_;refine s_x [] (fun hs=>?_) (fun hs=>?_)
 ·repeat' (first|exact aP|refine ay rfl ?_ ?_|exact Cv.boxp hs rfl (aT rfl) rfl (dk _ _ _)|exact Cv.boxp hs rfl (aT rfl) rfl (aZ _ _)|exact aX)
 ·repeat' (first|exact aE|refine h_c ?_ ?_|exact bZ|refine aD ?_|exact av|refine ah ?_ ?_|exact Cv.boxp hs rfl (aT rfl) rfl (dk _ _ _)|exact Cv.boxp hs rfl (aT rfl) rfl (aZ _ _)|exact aX)
 have Q:=s.l;have x:=Hz s;have hket:=Iv x.toG;have sa:sm a:=Nat.le_trans qa (by decide);have sb:sm b:=Nat.le_trans qb (by decide);have b0:bdL [] 20:=fun q hq=>(by cases hq);have hT:=ta_tame s C lg bg qL qa qb ab;have T:=ta_tame (g:=[]) s C (Nat.zero_le _) b0 qL qa qb ab;have X:=ta_tame (g:=[]) x hket (Nat.zero_le _) b0 qL qa qb ab;have hTu:=GM k C fun p hp=>by have:=s.n p hp;omega
 have hD:=FA s.toG qa qb sa sb ab;have hDt:=FA x.toG qa qb sa sb ab;rw[det_tu Q] at hDt;obtain⟨d1,d2,d3,d4⟩:=JN s qa qb;have hFr:=Fy s T;have hFu:=Fy x X;have hF:=sj s T;have hFt:=sj x X;obtain⟨c,H,m,hCh,hpl,hbe,ha0,haa,hm15,N⟩:=Hb s C qa qb ab;obtain⟨u,B',e,hS,_,_,_,he⟩:=Gc s hT lg bg qL;have z:=Jp (k:=k) (l:=L) (a:=a) (b:=b) (g:=[]) Q;have hle:=len_tu (k:=k) (l:=L) (a:=a) (b:=b) (g:=[]) (g':=[]) Q;have hfr:=fred (k:=k) (l:=L) (a:=a) (b:=b) (g:=G) (g':=[]);have J:=fs_Same (iT k a b) (iT k a b) (dG d1 (by omega)) (dG d1 (by omega)) (by omega) (by omega);rw[show sameP (iT k a b) (iT k a b)=true from decide_eq_true rfl] at J;have hx:=mxL_le d1 (by omega);have hmu:(iT k a b).length* (mxL (iT k a b)+qs L+1)<=4* 64021:=Nat.mul_le_mul d2 (by omega);have R:=iv (iT k a b) L ⟨by omega,by omega⟩;have M:=cC (ak (iT k a b) L);have V:=N L;generalize iT k a b=d at *
 generalize bK k L [] a b=B at *
 generalize bK (tuK k) L [] a b=U at *
 have hBl:=hF.len;have hmB:(mE B).length=B.length:=by simp[mE]
 have hmU:(mE U).length=U.length:=by simp[mE]
 have cB:=closed_mA B;have cU:=closed_mA U;have cT:=aL (tuK k);have cR:=aG (iW c.p H m);refine r_c 8 (hTu) ?_;refine a_z ?_;refine r_c 9 (hD) ?_;refine a_z ?_;refine r_c 8 (hDt) ?_;refine a_z ?_;refine r_c 11 (hFr) ?_;refine a_z ?_;refine r_c 10 (hFu) ?_;refine a_z ?_;refine r_c 9 (hCh) ?_;refine a_z ?_;refine bH (fun _:Unit=>⟨[(9,bEq k L G),(10,bSp a b),(18,.arr (mE B)),(20,.arr (mE U)),(22,.arr (roE c.p H m))],[],1,201⟩) (fun _=>True) ?_ ?_;by_cases h0:0< B.length;rw[z.1 h0] at M R;refine s_r 47 ?_;refine a_1 ?_;refine o_0 (.bin rfl rfl (vF ct (rfl))) ?_;refine d_2 ?_;refine aQ rfl rfl rfl (.bin rfl rfl (vF ct (rfl))) rfl rfl ?_;refine d_3 ?_;refine aQ rfl rfl rfl (.bin rfl rfl (vF ct (rfl))) rfl rfl ?_;refine d_3 ?_;refine aQ rfl rfl rfl (.bin rfl rfl (vF ct (rfl))) rfl rfl ?_;refine d_3 ?_;refine aQ rfl rfl rfl (.bin rfl rfl (vF ct (rfl))) rfl rfl ?_;refine d_3 ?_;refine aQ rfl rfl rfl (.bin rfl rfl (vF ct (rfl))) rfl rfl ?_;refine e_s (J) ?_;refine d_7 ?_;refine aQ rfl rfl rfl (.bin rfl rfl (vF ct (neF (by omega)))) rfl rfl ?_;refine e_s (R) ?_;refine c_s (M) ?_;refine aQ rfl rfl rfl (.bin rfl rfl (vT cb (rfl))) rfl rfl ?_;refine aQ rfl rfl rfl (.bin rfl rfl (vF (ws tu_4.h) (rfl))) rfl rfl ?_;refine a_z ?_;refine cF (am ⟨(),trivial,?_⟩);exact s_x [] (fun hs=>e_7) (fun hs=>e_8);have hne:¬sgZ (ak d L).num=0:=fun h=>h0 (z.2 (sgZ_num_eq.1 h));refine s_r 47 ?_;refine a_1 ?_;refine o_0 (.bin rfl rfl (vF ct (rfl))) ?_;refine d_2 ?_
 refine aQ rfl rfl rfl (.bin rfl rfl (vF ct (rfl))) rfl rfl ?_;refine d_3 ?_;refine aQ rfl rfl rfl (.bin rfl rfl (vF ct (rfl))) rfl rfl ?_;refine d_3 ?_;refine aQ rfl rfl rfl (.bin rfl rfl (vF ct (rfl))) rfl rfl ?_;refine d_3 ?_;refine aQ rfl rfl rfl (.bin rfl rfl (vF ct (rfl))) rfl rfl ?_;refine d_3 ?_;refine aQ rfl rfl rfl (.bin rfl rfl (vF ct (rfl))) rfl rfl ?_;refine e_s (J) ?_;refine d_7 ?_;refine aQ rfl rfl rfl (.bin rfl rfl (vF ct (neF (by omega)))) rfl rfl ?_;refine e_s (R) ?_;refine c_s (M) ?_;refine m_1 ?_;refine aQ rfl rfl rfl (.bin rfl rfl (vF (ws tu_4.h) (rfl))) rfl rfl ?_;refine a_z ?_;refine cF (am ⟨(),trivial,?_⟩);exact s_x [] (fun hs=>e_7) (fun hs=>e_8);rintro _ _;refine r_z 1 ?_;refine ae (r_z 1 ?_);obtain⟨f,hf⟩:∃f:Nat->Bool,f=fun j=>decide (plC c (H+(j:Nat)) L=0):=⟨_,rfl⟩
 have hfb:orB f m=decide (0< B.length):=by
  by_cases h0:0< B.length;rw[decide_eq_true h0,tH];obtain⟨j,E,D⟩:=V.2 (z.1 h0);exact⟨j,E,by rw[hf];exact decide_eq_true D⟩;rw[decide_eq_false h0,Bool.eq_false_iff];intro h;obtain⟨j,E,D⟩:=(tH f m).1 h;rw[hf] at D;exact h0 (z.2 (V.1 ⟨j,E,of_decide_eq_true D⟩))
 refine aF (fun _:Unit=>⟨[(9,bEq k L G),(10,bSp a b),(18,.arr (mE B)),(20,.arr (mE U)),(24,bln (decide (0< B.length)))],[],1,201⟩) (fun _=>True) ?_ ?_;refine aj (aC (eaS k L G a b B U c.p H m f) (fun i=>m- i) (fun i=>i<=m) 0 (Nat.zero_le _) ?_ ?_);rw[eaS.eq_1];exact s_x [] (fun hs=>e_7) (fun hs=>e_8);intro i hi;rw[eaS.eq_1];by_cases hlt:i< m
 ·have r:=roE_get (p:=c.p) (a:=H) hlt
  have hcm:=zr 9 c.p (H+(i:Nat)) L c hpl (by decide) (by omega) (by omega) (hbe L (by omega));have hfi:f i=decide (plC c (H+(i:Nat)) L=0):=by rw[hf]
  refine ae (s_r 4 ?_);refine a_3 ?_;refine o_0 (.bin rfl rfl (vT ej (decide_eq_true (by simp;omega)))) ?_;refine aq ?_;refine au rfl (fun W=>?_) (fun W=>?_);rotate_left;cases W;refine am (ae (aj (ae (r_d a7 12 ?_))));refine a_2 ?_;refine i_x r ?_;refine l_x r ?_;refine c_s (hcm) ?_;refine a_5 ?_;refine aq (n_k ?_);cases ho1:orB f i with
  |true=>
   refine r_m 10 ?_;refine d_z ?_;refine r_m 3 ?_;refine a_z ?_;refine⟨i+1,by omega,by omega,?_⟩;rw[eaS.eq_1,show orB f (i+1)=true by rw[orB,ho1,Bool.true_or]];exact s_x [] (fun hs=>e_7) (fun hs=>e_8)
  |false=>
   by_cases hz:plC c (H+(i:Nat)) L=0;refine r_m 10 ?_;refine d_3 ?_;refine aQ rfl rfl rfl (.bin rfl rfl (vT cb (rfl))) rfl rfl ?_;refine d_z ?_;refine r_m 3 ?_;refine a_z ?_;refine⟨i+1,by omega,by omega,?_⟩;rw[eaS.eq_1,show orB f (i+1)=true by rw[orB,ho1,hfi,decide_eq_true hz];rfl];exact s_x [] (fun hs=>e_7) (fun hs=>e_8);refine r_m 10 ?_;refine d_3 ?_;refine aQ rfl rfl rfl (.bin rfl rfl (vT cb (rfl))) rfl rfl ?_;refine d_z ?_;refine r_m 3 ?_;refine a_z ?_;refine⟨i+1,by omega,by omega,?_⟩;rw[eaS.eq_1,show orB f (i+1)=false by rw[orB,ho1,hfi,decide_eq_false hz];rfl];exact s_x [] (fun hs=>e_7) (fun hs=>e_8)
 have O:i=m:=by omega
 refine ae (s_r 4 ?_);refine a_3 ?_;refine o_0 (.bin rfl rfl (vF ej (decide_eq_false (by simp;omega)))) ?_;refine aq ?_;refine cF (ax ⟨(),trivial,?_⟩);rw[O,hfb];exact s_x [] (fun hs=>JA) (fun hs=>Jz);rintro _ _;refine r_z 1 ?_;refine ae (r_z 1 ?_);obtain⟨h,hh⟩:∃h:Nat->Bool,h=fun j=>!decide (inQ (aK (U.getD j []) G) a b=0):=⟨_,rfl⟩;obtain⟨w,K⟩:∃w:Bool,(!orB h U.length)=w:=⟨_,rfl⟩
 have A:w=decide (e=0):=by
  have Z:orB h U.length=true↔¬ ∀u∈U,inQ (aK u G) a b=0:=by
   rw[tH];constructor;rintro⟨j,E,D⟩ y;have j3:(!decide (inQ (aK (U.getD j []) G) a b=0))=true:=by rw[hh] at D;exact D
   rw[decide_eq_true (y _ (nW (B:=U) (i:=j) E))] at j3;cases j3;intro hn;refine Classical.byContradiction fun g=>hn fun u hu=>?_;obtain⟨j,E,D⟩:=List.getElem_of_mem hu;refine Classical.byContradiction fun g2=>g ⟨j,E,?_⟩;rw[hh];show(!decide (inQ (aK (U.getD j []) G) a b=0))=true;have:U.getD j []=u:=by rw[List.getD_eq_getElem?_getD,List.getElem?_eq_getElem E];exact D
   rw[this,decide_eq_false g2];rfl
  rcases he with⟨F,_,_,rfl⟩|⟨F,_,rfl,_,_⟩
  have:orB h U.length=true:=Z.2 fun y=>by rw[hfr.2 y] at F;cases F
  rw[<-K,this];rfl
  have:orB h U.length=false:=by
   rw[Bool.eq_false_iff];exact fun g=>Z.1 g (hfr.1 F)
  rw[<-K,this];rfl
 refine aF (fun _:Unit=>⟨[(9,bEq k L G),(10,bSp a b),(18,.arr (mE B)),(24,bln (decide (0< B.length))),(28,bln w)],[],1,201⟩) (fun _=>True) ?_ ?_;refine aj (aC (ebS k L G a b B U (decide (0< B.length)) h) (fun i=>U.length- i) (fun i=>i<=U.length) 0 (Nat.zero_le _) ?_ ?_);rw[ebS.eq_1];exact s_x [] (fun hs=>JA) (fun hs=>Jz);intro i hi;rw[ebS.eq_1];by_cases hlt:i< U.length
 ·obtain⟨p,hp⟩:∃p,U[i]?=some p:=⟨_,List.getElem?_eq_getElem hlt⟩
  have hm:=List.mem_of_getElem? hp;have hpd:U.getD i []=p:=by rw[List.getD_eq_getElem?_getD,hp];rfl
  have r:(mE U)[((i:Nat):Int).toNat]?=some [.arr (pE p)]:=gR hp _ (by simp);obtain⟨pb,pl⟩:=hFt.bd p hm;obtain⟨o1,o2⟩:=ov_tame (a:=a) (b:=b) pl pb (by decide) (by decide) lg bg qa qb;have hMu:=qR p G o1;have hOv:=I6 (aK p G) a b o2;have S:=cC (inQ (aK p G) a b);have Y:h i=!decide (inQ (aK p G) a b=0):=by rw[hh];show(!decide (inQ (aK (U.getD i []) G) a b=0))=_;rw[hpd]
  refine ae (q_z 4 ?_);refine au rfl (fun W=>?_) (fun W=>?_);rotate_left;cases W;refine am (ae (aj ?_));cases ho1:orB h i with
  |true=>
   refine r_d a7 15 ?_;refine d_8 ?_;refine d_7 ?_;refine aq (n_k ?_);refine r_m 3 ?_;refine a_z ?_;refine⟨i+1,by omega,by omega,?_⟩;rw[ebS.eq_1,show(!orB h (i+1))=false by rw[orB,ho1,Bool.true_or];rfl];exact s_x [] (fun hs=>JA) (fun hs=>Jz)
  |false=>
   by_cases hz:inQ (aK p G) a b=0;refine r_d a7 15 ?_;refine d_4 ?_;refine aQ rfl rfl rfl (.index_a rfl rfl (by omega) r rfl te_51.h) rfl rfl ?_;refine aQ rfl rfl rfl (.load_a1 rfl r TG.h rfl) rfl rfl ?_;refine e_s (hMu) ?_;refine e_s (hOv) ?_;refine c_s (S) ?_;refine aQ rfl rfl rfl (.bin rfl rfl (vT cb (decide_eq_true (sgZ_num_eq.2 hz)))) rfl rfl ?_;refine a_2 ?_;refine aq (n_k ?_);refine r_m 3 ?_;refine a_z ?_;refine⟨i+1,by omega,by omega,?_⟩;rw[ebS.eq_1,show(!orB h (i+1))=true by rw[orB,ho1,Y,decide_eq_true hz];rfl];exact s_x [] (fun hs=>JA) (fun hs=>Jz);refine r_d a7 15 ?_;refine d_4 ?_;refine aQ rfl rfl rfl (.index_a rfl rfl (by omega) r rfl te_51.h) rfl rfl ?_;refine aQ rfl rfl rfl (.load_a1 rfl r TG.h rfl) rfl rfl ?_;refine e_s (hMu) ?_;refine e_s (hOv) ?_;refine c_s (S) ?_;refine aQ rfl rfl rfl (.bin rfl rfl (vF cb (decide_eq_false (mt sgZ_num_eq.1 hz)))) rfl rfl ?_;refine a_2 ?_;refine aq (n_k ?_);refine r_m 3 ?_;refine a_z ?_;refine⟨i+1,by omega,by omega,?_⟩;rw[ebS.eq_1,show(!orB h (i+1))=false by rw[orB,ho1,Y,decide_eq_false hz];rfl];exact s_x [] (fun hs=>JA) (fun hs=>Jz)
 have O:i=U.length:=by omega
 refine ae (q_z 4 ?_);refine cF (ax ⟨(),trivial,?_⟩);rw[O,K];refine s_x [] (fun hs=>?_) (fun hs=>?_)
 ·repeat' (first|exact aP|refine ay rfl ?_ ?_|exact an hs cB|exact an hs (iZ _ _ _)|exact an hs (b9 _ _)|exact aX)
 ·repeat' (first|exact aE|refine h_c ?_ ?_|exact bZ|refine aD ?_|exact av|refine ah ?_ ?_|exact an hs cB|exact an hs (iZ _ _ _)|exact an hs (b9 _ _)|exact aX)
 rintro _ _;refine r_c 10 (hS) ?_;refine a_z ?_;by_cases h0:0< B.length;rw[decide_eq_true h0];rcases he with⟨F,_,_,rfl⟩|⟨F,_,rfl,_,_⟩
 subst A;refine s_r 15 ?_;refine d_4 ?_;refine o_0 (.bin rfl rfl (vT (iD tu_4.h) (rfl))) ?_;refine d_2 ?_;refine aQ rfl rfl rfl (.bin rfl rfl (vF cb (rfl))) rfl rfl ?_;refine m_1 ?_;refine aQ rfl rfl rfl (.bin rfl rfl (vT (iD tu_4.h) (rfl))) rfl rfl ?_;refine c_s (hw) ?_;refine a_z ?_;exact ai (t_e (ag _));subst A;refine s_r 15 ?_;refine d_4 ?_;refine o_0 (.bin rfl rfl (vT (iD tu_4.h) (rfl))) ?_;refine d_2 ?_;refine aQ rfl rfl rfl (.bin rfl rfl (vT cb (rfl))) rfl rfl ?_;refine m_1 ?_;refine aQ rfl rfl rfl (.bin rfl rfl (vT (iD tu_4.h) (rfl))) rfl rfl ?_;refine c_s (hw) ?_;refine a_z ?_;exact ai (t_e (ag _));rw[decide_eq_false h0];rcases he with⟨F,_,_,rfl⟩|⟨F,_,rfl,_,_⟩
 subst A;refine s_r 15 ?_;refine d_4 ?_;refine o_0 (.bin rfl rfl (vT (iD tu_4.h) (rfl))) ?_;refine d_2 ?_;refine aQ rfl rfl rfl (.bin rfl rfl (vF cb (rfl))) rfl rfl ?_;refine m_1 ?_;refine aQ rfl rfl rfl (.bin rfl rfl (vT (iD tu_4.h) (rfl))) rfl rfl ?_;refine c_s (hw) ?_;refine a_z ?_;exact ai (t_e (ag _));subst A;refine s_r 15 ?_;refine d_4 ?_;refine o_0 (.bin rfl rfl (vT (iD tu_4.h) (rfl))) ?_;refine d_2 ?_;refine aQ rfl rfl rfl (.bin rfl rfl (vT cb (rfl))) rfl rfl ?_;refine m_1 ?_;refine aQ rfl rfl rfl (.bin rfl rfl (vT (iD tu_4.h) (rfl))) rfl rfl ?_;refine c_s (hw) ?_;refine a_z ?_;exact ai (t_e (ag _))
end Go.Proofs.YtkbjakfniejkcaaGreatDoor
namespace Go.Proofs.YtkbjakfniejkcaaGreatDoor
open Go.Abs Go.Deep Go.RowKit
set_option maxRecDepth 20000
theorem rvlen{W:World}{l:List ft}{v:Value}(h:RV (fun _=>False) (fun _=>none) W (.arr (nR l)) v):l.length<=9223372036854775807:=by
 obtain⟨_,_,_,b,a,_⟩:=h;have d:(nR l).length=l.length:=by simp[nR]
 have c:maxLen=9223372036854775807:=by decide
 omega
theorem tySt:(Tryz.prog).underlying 22=some (.slice 132):=by kernel_rfl
def twF:Array Field:= #[{name:= "A",type:=27,offset:=0,embedded:=false,tag:= "",pkgPath:= "",byteOffset:=0},{name:= "B",type:=27,offset:=1,embedded:=false,tag:= "",pkgPath:= "",byteOffset:=24}]
theorem tyTw:(Tryz.prog).underlying 132=some (.struct twF):=by kernel_rfl
theorem tycTw:(Tryz.prog).cellsOf 132=2:=by kernel_rfl
theorem tycS2:(Tryz.prog).cellsOf 27=1:=by kernel_rfl
theorem two_of{H:Type}{enc:TypeId×Value->H}{W:World}{n:Nat}{cs:List Value}{x:DataW H×List MemPlace}(h:DataW.trod enc Tryz.prog W 0 (fun _=>true) true n 132 cs=some x):
    ∃(t:gU) (c0 c1:Value),yV t/\cs=[c0,c1]/\RV (fun _=>False) (fun _=>none) W (.arr (nR t.1)) c0/\RV (fun _=>False) (fun _=>none) W (.arr (nR t.2)) c1:=by
 obtain⟨C,m,_,_,w,g,v⟩:=DataW.trod_struct tyTw h;rw[tycTw] at w
 match cs,w,C,g with
 |[c0,c1],_,[y0,y1],_=>
  have i:DataW.trod enc Tryz.prog W 0 (fun _=>true) true m 27 (([c0,c1].drop 0).take ((Tryz.prog).cellsOf 27))=some y0:=v 0 _ rfl;have j:DataW.trod enc Tryz.prog W 0 (fun _=>true) true m 27 (([c0,c1].drop 1).take ((Tryz.prog).cellsOf 27))=some y1:=v 1 _ rfl;rw[tycS2] at i j;simp only[List.drop,List.take] at i j
  have k:∃a len b,c0= .slice a len b:=by
   rcases open_slice tyS i with⟨c,_⟩|⟨a,len,b,_,_,_,_,c,_⟩
   simp at c;exact⟨_,_,_,c⟩;simp at c;exact⟨_,_,_,c⟩
  have q:∃a len b,c1= .slice a len b:=by
   rcases open_slice tyS j with⟨c,_⟩|⟨a,len,b,_,_,_,_,c,_⟩
   simp at c;exact⟨_,_,_,c⟩;simp at c;exact⟨_,_,_,c⟩
  obtain⟨a,len,b,rfl⟩:=k;obtain⟨z,f,d,rfl⟩:=q;have r:DataW.Trod enc Tryz.prog W 0 (fun _=>true) true 27 (.slice a len b) y0.1 y0.2:=⟨m,by simpa[Value.cells] using i⟩;have o:DataW.Trod enc Tryz.prog W 0 (fun _=>true) true 27 (.slice z f d) y1.1 y1.2:=⟨m,by simpa[Value.cells] using j⟩;obtain⟨m0,l,r0⟩:=yF r;obtain⟨m1,p,u⟩:=yF o;have D:maxLen=9223372036854775807:=by decide
  have A:m0.length<=9223372036854775807:=by
   obtain⟨_,_,B,s,e,_⟩:=r0;have:(nR m0).length=m0.length:=by simp[nR]
   omega
  have y:m1.length<=9223372036854775807:=by
   obtain⟨_,_,B,s,e,_⟩:=u;have:(nR m1).length=m1.length:=by simp[nR]
   omega
  exact⟨(m0,m1),_,_,⟨⟨l,p⟩,A,y⟩,rfl,r0,u⟩
theorem twP_of{H:Type}{enc:TypeId×Value->H}{W:World}{a:Option Addr}{len cap:Nat}{d:DataW H}{ps:List MemPlace}(h:DataW.Trod enc Tryz.prog W 0 (fun _=>true) true 22 (.slice a len cap) d ps):
    ∃l:List gU,((∀t∈l,yV t)/\l.length<=9223372036854775807)/\RV (fun _=>False) (fun _=>none) W (.arr (twR l)) (.slice a len cap):=by
 obtain⟨O,V⟩:=h;rcases open_slice tySt V with⟨o,_⟩|⟨x,N,L,m,n,D,Pl,o,_,Y,hm,u,_,G⟩
 simp[Value.cells] at o;obtain⟨rfl,rfl,rfl⟩:=o;exact⟨[],⟨(fun r F=>by cases F),by simp⟩,none,0,rfl,Nat.le_refl _,by decide,.inl rfl⟩;simp[Value.cells] at o;obtain⟨rfl,rfl,rfl⟩:=o;simp only[if_true] at u;have E:m=cap:=u;rw[E] at G;rw[tycTw] at G
 have B:∀i,i< len->∃r:gU×Value×Value,yV r.1/\W.cells? 0 (x.add (i* 2)) 2=some [r.2.1,r.2.2]/\RV (fun _=>False) (fun _=>none) W (.arr (nR r.1.1)) r.2.1/\RV (fun _=>False) (fun _=>none) W (.arr (nR r.1.2)) r.2.2:=fun i z=>by
  obtain⟨Z,X,S⟩:=G i (by omega);obtain⟨t,A,U,Q,e,J,C⟩:=two_of S;exact⟨(t,A,U),Q,by rw[X,e],J,C⟩
 obtain⟨R,K⟩:=choose_lt (α:=gU×Value×Value) B;have T:maxLen=9223372036854775807:=by decide
 refine⟨(List.range len).map fun i=>(R i).1,⟨?_,by simp;omega⟩,some x,cap,by simp[twR],by simpa[twR] using Y,hm,?_⟩;intro r F;obtain⟨i,z,rfl⟩:=List.mem_map.1 F;exact(K i (List.mem_range.1 z)).1;by_cases h0:len=0;subst h0;exact .inl rfl;right
 have c:∀i,i< len->∀j (v:Value),[(R i).2.1,(R i).2.2][j]?=some v->W.cell? (x.add (i* 2+j))=some v:=fun i z j v hv=>by
  have hj:j< 2:=by
   have:=(List.getElem?_eq_some_iff.1 hv).1;simpa using this
  have:=(World.cells?_some (K i z).2.1).2.2 j hj;rw[hv,Go.Deep.add_add] at this;exact this
 have A:=c 0 (by omega) 0 _ rfl;obtain⟨b,off,y⟩:=x;have q:y=none:=by simpa[Addr.add] using World.cell?_spot A
 subst q
 have g:∀k,Addr.add ⟨b,off,none⟩ k=⟨b,off+k,none⟩:=fun k=>by
  unfold Addr.add;by_cases hk:k=0;simp[hk];simp[hk]
 refine⟨b,off,2,rfl,pT (by rw[g] at A;exact A),(fun h=>h),?_⟩;have:=D0 (M:=fun _=>False) (β:=fun _=>none) (w:=W) (b:=b) (s:=2) (off:=off) (f:=fun i=>twC (R i).1) len 0 (fun i z=>⟨rfl,?_⟩);rw[Nat.zero_mul,Nat.add_zero,<-List.range_eq_range'] at this;rw[twR,List.map_map];exact this;have p:i< len:=by omega
 obtain⟨_,_,J,C⟩:=K i p;refine⟨⟨_,?_,J⟩,⟨_,?_,C⟩,trivial⟩;have:=c i p 0 _ rfl;rw[g] at this;exact this;have:=c i p 1 _ rfl;rw[g] at this;rw[Nat.add_assoc];exact this
end Go.Proofs.YtkbjakfniejkcaaGreatDoor
namespace Go.Proofs.YtkbjakfniejkcaaGreatDoor
open Go
def mkF(P:Program)(fn:Func)(c:OpenClaim):Bool:=(P.make==some c.make) && (c.kinds==(if c.domain.isEmpty then [] else fn.params.toList.map fun t=>match P.underlying t with|some (.int k)=>some k|_=>none)) && (c.pinned==c.pinnedBy)
section
variable {P:Program}{f:FuncId}{fn:Func}{s:ChangeSpec}{c:OpenClaim}
theorem Gs (h1:c.wf (OpenSpec.ofChange s)=true) (h2:laidOutB P=true) (h3:mapsRowed P=true)
    (h4:fn.params.all (P.readableRec ·)=true) (h5:namedTie P c.named s.vars=true)
    (h6:((c.stops==[]) && (P.stops==[]) && (c.knobs==[]) && (P.stopKnobs==[]))=true)
    (h7:(c.inPlace==P.inPlace f)=true) (h8:(c.unfollowed==P.unfollowed f)=true) (h9:(c.recurses==P.recurses f)=true) (h10:(c.named==P.varsNamed f)=true)
    (h11:((c.maps==(fn.params.toList++s.plain.varTypes P).any (P.mapsRec ·)) && (c.ifaces==(fn.params.toList++s.plain.varTypes P).any (P.ifacesRec ·)) && (c.mapsOut==P.mapsAmong fn.resultTypes.toList))=true)
    (h12:((c.loops==(fn.params.toList++s.plain.varTypes P).any (P.loopsFrom ·)) && (c.wideKeys==(fn.params.toList++s.plain.varTypes P++fn.resultTypes.toList).any (P.wideKeysFrom ·)))=true)
    (h13:(s.vars.all (P.varReadable ·) && fn.resultTypes.all (fun t=>P.readableRec t && decide (t< P.types.size)) && (c.ifacesOut==fn.resultTypes.toList.any (P.ifacesRec ·)) && (c.loopsOut==fn.resultTypes.toList.any (P.loopsFrom ·)) && (c.plainKeys==P.plainKeys) && c.shortTexts.isNone)=true)
    (h14:P.stopsHeard=true) (h15:P.mayEnter=true) (h16:(c.lifted==P.liftsFinal)=true)
    (h17:mkF P fn c=true)
    (h18:((c.veiled==(fn.params.toList++s.plain.varTypes P++fn.resultTypes.toList).any (P.veiledRec ·)) && c.veiledFits P fn.params.toList (fn.params.toList++s.plain.varTypes P++fn.resultTypes.toList))=true):
    joinedFacts P f fn s c=true:=by
 unfold mkF at h17;simp only[Bool.and_eq_true] at h6 h11 h12 h13 h17 h18;simp only[joinedFacts,Bool.and_eq_true]
 and_intros
 all_goals first|assumption|exact h6.1.1.1|exact h6.1.1.2|exact h6.1.2|exact h6.2|exact h11.1.1|exact h11.1.2|exact h11.2|exact h12.1|exact h12.2|exact h13.1.1.1.1.1|exact h13.1.1.1.1.2|exact h13.1.1.1.2|exact h13.1.1.2|exact h13.1.2|exact h13.2|exact h17.1.1|exact h17.1.2|exact h17.2|exact h18.1|exact h18.2
end
theorem wu:laidOutB Tryz.prog=true:=by kernel_rfl
theorem all_mr:mapsRowed Tryz.prog=true:=by kernel_rfl
theorem all_sh:Tryz.prog.stopsHeard=true:=by kernel_rfl
theorem all_me:Tryz.prog.mayEnter=true:=by kernel_rfl
theorem all_lk:false=Tryz.prog.looks []:=by kernel_rfl
theorem all_mi:Tryz.prog.mainIs=some (true,("ba6e90113d2779f3846d44f92836af6dcf0e789d384cccac6924f1d1d7f5ee89" :String).toList):=by kernel_rfl
theorem all_lf:Tryz.prog.liftsFinal=Rows.equationAlternativeRow.lifted:=by kernel_rfl
theorem mD:Rows.equationAlternativeRow.wf (OpenSpec.ofChange Rows.equationAlternativeSpec)=true:=by kernel_rfl
theorem mK:Tryz.f3.params.all (Tryz.prog.readableRec ·)=true:=by kernel_rfl
theorem mM:namedTie Tryz.prog Rows.equationAlternativeRow.named Rows.equationAlternativeSpec.vars=true:=by kernel_rfl
theorem mJ:((Rows.equationAlternativeRow.stops==[]) && (Tryz.prog.stops==[]) && (Rows.equationAlternativeRow.knobs==[]) && (Tryz.prog.stopKnobs==[]))=true:=by kernel_rfl
theorem mT:(Rows.equationAlternativeRow.inPlace==Tryz.prog.inPlace 3)=true:=by kernel_rfl
theorem mI:(Rows.equationAlternativeRow.unfollowed==Tryz.prog.unfollowed 3)=true:=by kernel_rfl
theorem mL:(Rows.equationAlternativeRow.recurses==Tryz.prog.recurses 3)=true:=by kernel_rfl
theorem mG:(Rows.equationAlternativeRow.named==Tryz.prog.varsNamed 3)=true:=by kernel_rfl
theorem mN:((Rows.equationAlternativeRow.maps==(Tryz.f3.params.toList++Rows.equationAlternativeSpec.plain.varTypes Tryz.prog).any (Tryz.prog.mapsRec ·)) && (Rows.equationAlternativeRow.ifaces==(Tryz.f3.params.toList++Rows.equationAlternativeSpec.plain.varTypes Tryz.prog).any (Tryz.prog.ifacesRec ·)) && (Rows.equationAlternativeRow.mapsOut==Tryz.prog.mapsAmong Tryz.f3.resultTypes.toList))=true:=by kernel_rfl
theorem mP:((Rows.equationAlternativeRow.loops==(Tryz.f3.params.toList++Rows.equationAlternativeSpec.plain.varTypes Tryz.prog).any (Tryz.prog.loopsFrom ·)) && (Rows.equationAlternativeRow.wideKeys==(Tryz.f3.params.toList++Rows.equationAlternativeSpec.plain.varTypes Tryz.prog++Tryz.f3.resultTypes.toList).any (Tryz.prog.wideKeysFrom ·)))=true:=by kernel_rfl
theorem mF:(Rows.equationAlternativeSpec.vars.all (Tryz.prog.varReadable ·) && Tryz.f3.resultTypes.all (fun t=>Tryz.prog.readableRec t && decide (t< Tryz.prog.types.size)) && (Rows.equationAlternativeRow.ifacesOut==Tryz.f3.resultTypes.toList.any (Tryz.prog.ifacesRec ·)) && (Rows.equationAlternativeRow.loopsOut==Tryz.f3.resultTypes.toList.any (Tryz.prog.loopsFrom ·)) && (Rows.equationAlternativeRow.plainKeys==Tryz.prog.plainKeys) && Rows.equationAlternativeRow.shortTexts.isNone)=true:=by kernel_rfl
theorem mH:((Rows.equationAlternativeRow.veiled==(Tryz.f3.params.toList++Rows.equationAlternativeSpec.plain.varTypes Tryz.prog++Tryz.f3.resultTypes.toList).any (Tryz.prog.veiledRec ·)) && Rows.equationAlternativeRow.veiledFits Tryz.prog Tryz.f3.params.toList (Tryz.f3.params.toList++Rows.equationAlternativeSpec.plain.varTypes Tryz.prog++Tryz.f3.resultTypes.toList))=true:=by kernel_rfl
theorem mB:Rows.equationAlternativeRow.wfByText (OpenSpec.ofChange Rows.equationAlternativeSpec)=true:=by kernel_rfl
theorem mU:false=Rows.equationAlternativeRow.goesBy Tryz.prog:=by kernel_rfl
theorem equationAlternative_fn:Tryz.prog.funcNamed Rows.equationAlternativeRow.func=some 3:=by kernel_rfl
theorem mS:decide (Tryz.f3.isInstance Tryz.prog Rows.equationAlternativeRow.origin Rows.equationAlternativeRow.targs)=true:=by kernel_rfl
theorem mC:(Tryz.f3.params.toList.all fun u=>!Tryz.prog.wantsStandIn u)=true:=by kernel_rfl
theorem mO:mkF Tryz.prog Tryz.f3 Rows.equationAlternativeRow=true:=by kernel_rfl
theorem mQ:(Rows.equationAlternativeRow.lifted==Tryz.prog.liftsFinal)=true:=by rw[all_lf];kernel_rfl
theorem ku:joinedFacts Tryz.prog 3 Tryz.f3 Rows.equationAlternativeSpec Rows.equationAlternativeRow=true:=
 Gs mD wu all_mr mK mM mJ mT mI mL mG mN mP mF all_sh all_me mQ mO mH
theorem k5:Tryz.f3.isWrapper Tryz.prog Rows.equationAlternativeRow.wrapper Rows.equationAlternativeRow.mainSum:=by
 unfold Func.isWrapper;first|(rw[if_pos (by decide+kernel)];kernel_rfl)|(rw[if_neg (by decide+kernel)];exact⟨rfl,rfl⟩)
end Go.Proofs.YtkbjakfniejkcaaGreatDoor
