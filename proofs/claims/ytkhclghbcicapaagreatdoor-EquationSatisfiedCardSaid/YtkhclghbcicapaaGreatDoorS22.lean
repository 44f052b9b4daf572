/- Part S22 of the proof. -/
import Derived.Test.YtkhclghbcicapaaGreatDoorS21
set_option linter.all false
namespace Go.Proofs.YtkhclghbcicapaaGreatDoor
open Go.Abs
set_option maxRecDepth 20000
def D2(A D:Nat):List Nat→Nat→Nat→AState
 |[],R,i=>⟨[(0,.arr (iE (zd A))),(1,.arr (iE (zd D))),(6,.emp),(7,.arr (iE (zd R))),(8,i64 i)],[],1,54⟩
 |q::Q,R,i=>⟨[(0,.arr (iE (zd A))),(1,.arr (iE (zd D))),(6,.lsl 1 0 (Q.length+1) none 1),(7,.arr (iE (zd R))),(8,i64 i)],[(1,some ⟨3,1,iE (q::Q)⟩)],2,54⟩
theorem iC(A D R i:Nat):D2 A D [] R i=⟨[(0,.arr (iE (zd A))),(1,.arr (iE (zd D))),(6,.emp),(7,.arr (iE (zd R))),(8,i64 i)],[],1,54⟩:=rfl
theorem fD(A D:Nat)(q:Nat)(Q:List Nat)(R i:Nat):D2 A D (q::Q) R i=⟨[(0,.arr (iE (zd A))),(1,.arr (iE (zd D))),(6,.lsl 1 0 (Q.length+1) none 1),(7,.arr (iE (zd R))),(8,i64 i)],[(1,some ⟨3,1,iE (q::Q)⟩)],2,54⟩:=rfl
theorem FA{P D R a:Nat}(hD:0< D)(hR:R=P % D)(ha:a< UB):R* UB+a< UB* D∧(P* UB+a) / D=P/ D* UB+(R* UB+a) / D∧(P* UB+a) % D=(R* UB+a) % D∧(R* UB+a) / D< UB:=by
 have h1:=Nat.div_add_mod P D;have d:=Nat.mod_lt P hD;rw[←hR] at h1 d
 have c:R* UB+a< UB* D:=by
  have:(R+1) * UB≤D* UB:=Nat.mul_le_mul_right _ d;rw[Nat.add_mul,Nat.one_mul,Nat.mul_comm D] at this;omega
 have b:P* UB+a=D* (P/ D* UB)+(R* UB+a):=by
  conv=>lhs;rw[←h1]
  rw[Nat.add_mul,Nat.mul_assoc,Nat.add_assoc]
 refine⟨c,?_,?_,?_⟩;rw[b,Nat.mul_add_div hD];rw[b,Nat.mul_add_mod];rw[Nat.div_lt_iff_lt_mul hD];exact c
theorem tJ(A D:Nat)(hD:0< D)(hA:bl A≤4398046511104)(hb:bl D≤4398046511104):FS 151 [.arr (iE (zd A)),.arr (iE (zd D))] (.tup [.arr (iE (zd (A/ D))),.arr (iE (zd (A % D)))]):=by
 have Z:=cD A;have G:=cD D;have Y:=bJ (b:=UB) (by decide) D;have X:=bJ (b:=UB) (by decide) A;obtain⟨n,U⟩:∃n,n=(zd D).length:=⟨_,rfl⟩
 have N:1≤n:=by
  have:zd D≠[]:=fun h=>by have:=zd_eq_nil.1 h;omega
  have:=List.length_pos_iff.2 this;omega
 have W:UB^ (n- 1)≤D:=by
  rcases rp (b:=UB) (n:=D) (by decide) with h|h
  rwa[←G,←U] at h;omega
 refine f_c Tryz.func151 ?_;refine r_z 2 ?_;refine ae (r_z 5 ?_);refine ap rfl (fun h=>?_) (fun h=>?_);have C:(zd A).length< (zd D).length:=by have:=of_decide_eq_true h;omega
 have z:A< D:=ja (b:=UB) (by decide) (by omega);refine r_z 3 ?_;refine ai (Fin.many ⟨_,_,rfl,rfl,⟨_,_,rfl,rfl,rfl⟩⟩ (nle rfl) ?_);rw[Nat.div_eq_of_lt z,Nat.mod_eq_of_lt z,og];exact ah (Cv.emp _) (ah (ak aD (eF _)) av);have y:n≤(zd A).length:=by have:=of_decide_eq_false h;omega
 refine am (r_z 1 ?_);obtain⟨B,s⟩:∃B,B=hv ((zd A).take (n- 1)):=⟨_,rfl⟩
 have t:B< D:=by
  have h1:=Dc (l:=(zd A).take (n- 1)) fun d g=>jg A d (List.mem_of_mem_take g);rw[←s] at h1;have h2:UB^ ((zd A).take (n- 1)).length≤UB^ (n- 1):=Nat.pow_le_pow_right (by decide) (by simp;omega);omega
 have r:=iF ((zd A).take (n- 1)) (by simp;omega);rw[fz (fun d g=>jg A d (List.mem_of_mem_take g)),←s] at r;refine bh (fun _:Unit=>⟨[(0,.arr (iE (zd A))),(1,.arr (iE (zd D))),(6,.emp),(7,.arr (iE (zd B)))],[],1,54⟩) (fun _=>True) ?_ ?_;by_cases hn2:n=1;rw[hn2] at r;refine r_m 8 ?_;refine a_4 ?_;refine o_0 (.sa_h rfl rfl (h:=0) (by omega) (by simp) te_47.h (kY _)) ?_;refine o_0 (.append0 rfl rfl rfl te_47.h rfl rfl rfl (.arr (es:=[]) (by simp))) ?_;refine c_s (r) ?_;refine a_z ?_;refine⟨(),trivial,?_⟩;exact s_e []
 ·have F:(iE (zd A)).take (n- 1)≠[]:=fun h=>by
   have:=congrArg List.length h;rw[List.length_take,qt,List.length_nil] at this;omega
  have k:List.take ((iE (zd A)).take (n- 1)).length (List.drop 0 ((iE (zd A)).take (n- 1)))=iE ((zd A).take (n- 1)):=by rw[List.drop_zero,List.take_length,iE_take]
  refine r_m 8 ?_;refine a_4 ?_;refine o_0 (.sa_h rfl rfl (h:=n- 1) (by omega) (by simp;omega) te_47.h (kY _)) ?_;refine o_1 (.append_e rfl rfl rfl te_47.h rfl rfl rfl (.arr (fun e S=>kY _ e (List.mem_of_mem_take S))) (by first|assumption|(simp;done)) TZ.h rfl TB.h d_o (by first|(simp[maxLen];done)|(simp[maxLen];omega))) ?_;refine o_1 (.callS1 rfl rfl rfl (.shut rfl d_n (.nil)) rfl ((by rw[k];exact r))) ?_;refine a_z ?_;refine⟨(),trivial,?_⟩;exact s_e []
 rintro _ _;refine ae (r_z 4 ?_);refine aH (fun x:List Nat×Nat=>D2 A D x.1 x.2 (zd A).length) (fun x=>(∀d∈x.1,d< UB)∧hv x.1=A/ D∧x.2=A % D∧x.1.length≤(zd A).length) ?_ ?_;refine aj (aB (fun x:List Nat×Nat×Nat=>D2 A D x.1 x.2.1 x.2.2) (fun x=>(zd A).length- x.2.2) (fun x=>x.2.2≤(zd A).length∧(∀d∈x.1,d< UB)∧hv x.1=hv ((zd A).take x.2.2) / D∧x.2.1=hv ((zd A).take x.2.2) % D∧x.1.length≤x.2.2) ([],B,n- 1) ⟨by simp only;omega,by simp,by simp only;rw[←s,Nat.div_eq_of_lt t];rfl,by simp only;rw[←s,Nat.mod_eq_of_lt t],by simp⟩ ?_ ?_);simp only[iC];exact s_e [];rintro⟨Q,R,i⟩ ⟨T,j,hQ,p,m⟩;simp only at T j hQ p m
 -- the head,whatever the quotient so far
 by_cases C:i< (zd A).length
 ·obtain⟨a,u⟩:∃a,(zd A)[i]?=some a:=⟨_,List.getElem?_eq_getElem C⟩
  have ha:a< UB:=jg A a (List.mem_of_getElem? u);have f:(iE (zd A))[((i:Nat):Int).toNat]?=some [i64 a]:=jS u;have o:hv ((zd A).take (i+1))=hv ((zd A).take i) * UB+a:=by rw[cw u,o5]
  obtain⟨P,O⟩:∃P,P=hv ((zd A).take i):=⟨_,rfl⟩;rw[←O] at hQ p o;obtain⟨s1,s2,K,J⟩:=FA hD p ha;have H:R< D:=by rw[p];exact Nat.mod_lt _ hD
  have M:=bJ (b:=UB) (by decide) R;have V:=dt (Nat.le_of_lt H);have hzR:=cD R;have E:=Gq (R* UB+a) D hD s1 hb;cases Q with
  |nil=>
   simp only[iC];refine ae (r_z 4 ?_);refine ap rfl (fun h=>?_) (fun h=>?_);rotate_left;exact absurd h (by simp;omega);refine am (ae (aj (bh (fun _:Unit=>D2 A D [] (R* UB+a) i) (fun _=>True) ?_ ?_)));by_cases hR0:R=0;subst hR0;have c:=iF [a] (by simp);rw[fz (by simpa using ha),show hv [a]=0* UB+a by rw[o6,tH];simp] at c;rw[og];refine r_d aY 10 ?_;refine a_1 ?_;refine o_0 (.append0 rfl rfl rfl te_47.h rfl rfl rfl (.arr (es:=[]) (by simp))) ?_;refine a_2 ?_;refine i_x f ?_;refine l_1 f ?_;refine a_2 ?_;refine o_1 (.callS1 rfl rfl rfl (.shut rfl d_n (.nil)) rfl ((FSpec.argE c rfl))) ?_;refine a_1 ?_;refine ao (n_k ?_);refine⟨(),trivial,?_⟩;simp only[iC];exact s_e []
   ·have F:iE (zd R)≠[]:=fun h=>by
     have h1:=congrArg List.length h;rw[qt,List.length_nil,List.length_eq_zero_iff] at h1;exact hR0 (zd_eq_nil.1 h1)
    have v:∀d∈zd R++[a],d< UB:=fun d g=>by
     rcases List.mem_append.1 g with g|g
     exact jg R d g;simp at g;rw[g];exact ha
    have c:=iF (zd R++[a]) (by simp;omega);rw[fz v,o5,ki] at c;refine r_d aY 10 ?_;refine a_1 ?_;refine o_1 (.append_e rfl rfl rfl te_47.h rfl rfl rfl (.arr (kY _)) (by first|assumption|(simp;done)) TZ.h rfl TB.h d_o (by first|(simp[maxLen];done)|(simp[maxLen];omega))) ?_;refine a_2 ?_;refine i_x f ?_;refine l_1 f ?_;refine a_2 ?_;refine o_1 (.callS1 rfl rfl rfl (.shut rfl d_n (.nil)) rfl ((FSpec.argE c (by rw[List.drop_zero,List.take_of_length_le (by simp)];simp[iE,i64])))) ?_;refine a_1 ?_;refine ao (n_k ?_);refine⟨(),trivial,?_⟩;simp only[iC];exact s_e []
   rintro _ _;simp only[iC];refine r_z 1 ?_;refine r_c 8 (E) ?_;refine a_z ?_;refine r_m 5 ?_;refine a_z ?_;refine r_m 3 ?_;refine a_z ?_;refine⟨([(R* UB+a) / D],(R* UB+a) % D,i+1),by simp only;omega,⟨by simp only;omega,by simpa using J,?_,?_,by simp⟩,?_⟩;simp only;rw[o,s2,←hQ,o6,tH];simp;simp only;rw[o,K];simp only[fD];exact s_e [(1,6)]
  |cons q Q=>
   simp only[fD];refine ae (r_z 4 ?_);refine ap rfl (fun h=>?_) (fun h=>?_);rotate_left;exact absurd h (by simp;omega);refine am (ae (aj (bh (fun _:Unit=>D2 A D (q::Q) (R* UB+a) i) (fun _=>True) ?_ ?_)));by_cases hR0:R=0;subst hR0;have c:=iF [a] (by simp);rw[fz (by simpa using ha),show hv [a]=0* UB+a by rw[o6,tH];simp] at c;rw[og];refine r_d aY 10 ?_;refine a_1 ?_;refine o_0 (.append0 rfl rfl rfl te_47.h rfl rfl rfl (.arr (es:=[]) (by simp))) ?_;refine a_2 ?_;refine i_x f ?_;refine l_1 f ?_;refine a_2 ?_;refine o_1 (.callS1 rfl rfl rfl (.shut rfl d_n (.nil)) rfl ((FSpec.argE c rfl))) ?_;refine a_1 ?_;refine ao (n_k ?_);refine⟨(),trivial,?_⟩;simp only[fD];exact s_e []
   ·have F:iE (zd R)≠[]:=fun h=>by
     have h1:=congrArg List.length h;rw[qt,List.length_nil,List.length_eq_zero_iff] at h1;exact hR0 (zd_eq_nil.1 h1)
    have v:∀d∈zd R++[a],d< UB:=fun d g=>by
     rcases List.mem_append.1 g with g|g
     exact jg R d g;simp at g;rw[g];exact ha
    have c:=iF (zd R++[a]) (by simp;omega);rw[fz v,o5,ki] at c;refine r_d aY 10 ?_;refine a_1 ?_;refine o_1 (.append_e rfl rfl rfl te_47.h rfl rfl rfl (.arr (kY _)) (by first|assumption|(simp;done)) TZ.h rfl TB.h d_o (by first|(simp[maxLen];done)|(simp[maxLen];omega))) ?_;refine a_2 ?_;refine i_x f ?_;refine l_1 f ?_;refine a_2 ?_;refine o_1 (.callS1 rfl rfl rfl (.shut rfl d_n (.nil)) rfl ((FSpec.argE c (by rw[List.drop_zero,List.take_of_length_le (by simp)];simp[iE,i64])))) ?_;refine a_1 ?_;refine ao (n_k ?_);refine⟨(),trivial,?_⟩;simp only[fD];exact s_e []
   rintro _ _;simp only[fD];refine r_z 1 ?_;refine r_c 8 (E) ?_;refine a_z ?_;have L:Q.length+1≤i:=by simpa using m
   refine r_m 5 ?_;refine a_z ?_;refine r_m 3 ?_;refine a_z ?_;refine⟨(q::(Q++[(R* UB+a) / D]),(R* UB+a) % D,i+1),by simp only;omega,⟨by simp only;omega,?_,?_,?_,by simp at m⊢;omega⟩,?_⟩;intro d g;rcases List.mem_append.1 (show d∈(q::Q)++[(R* UB+a) / D] from g) with g|g
   exact j d g;simp at g;rw[g];exact J;simp only;rw[o,s2,←hQ,←o5];rfl;simp only;rw[o,K];simp only[fD];have e:iE (q::Q)++List.take 1 (List.drop 0 [[i64 ((R* UB+a) / D:Nat)]])=iE (q::(Q++[(R* UB+a) / D])):=by simp[iE]
   exact s_x [(1,6)] (fun hs=>dG) (fun hs=>e_37) e_8
 have y:i=(zd A).length:=by omega
 subst y;rw[List.take_length,ki] at hQ p;cases Q with
 |nil=>
  simp only[iC];refine ae (r_z 4 ?_);refine ap rfl (fun h=>?_) (fun h=>?_);exact absurd h (by simp);refine ay ⟨([],R),⟨j,hQ,p,m⟩,?_⟩;simp only[iC];exact s_e []
 |cons q Q=>
  simp only[fD];refine ae (r_z 4 ?_);refine ap rfl (fun h=>?_) (fun h=>?_);exact absurd h (by simp);refine ay ⟨(q::Q,R),⟨j,hQ,p,m⟩,?_⟩;simp only[fD];exact s_e []
 rintro⟨Q,R⟩ ⟨j,hQ,p,m⟩;simp only at j hQ p m;have w:=iF Q (by omega);rw[fz j,hQ] at w;subst p;cases Q with
 |nil=>
  simp only[iC];refine r_c 5 (w) ?_;refine a_z ?_;refine ai (Fin.many ⟨_,_,rfl,rfl,⟨_,_,rfl,rfl,rfl⟩⟩ (nle rfl) ?_);exact ah (ak aD (eF _)) (ah (ak aD (eF _)) av)
 |cons q Q=>
  simp only[fD];have k:List.take (Q.length+1) (List.drop 0 (iE (q::Q)))=iE (q::Q):=by rw[List.drop_zero,List.take_of_length_le (by simp)]
  refine s_r 5 ?_;refine a_1 ?_;refine o_1 (.callS1 rfl rfl rfl (.shut rfl d_n (.nil)) rfl ((by rw[k];exact w))) ?_;refine a_z ?_;refine ai (Fin.many ⟨_,_,rfl,rfl,⟨_,_,rfl,rfl,rfl⟩⟩ (nle rfl) ?_);exact ah (ak aD (eF _)) (ah (ak aD (eF _)) av)
def zgS:Nat×Nat→AState
 |(p,q)=>⟨[(4,.lptr 1 0 0),(5,.arr (iE (zd p))),(6,.arr (iE (zd q)))],[(1,some ⟨49,2,[[i64 0,.emp]]⟩)],2,48⟩
theorem lx(p:Nat)(q:Nat):zgS (p,q)=⟨[(4,.lptr 1 0 0),(5,.arr (iE (zd p))),(6,.arr (iE (zd q)))],[(1,some ⟨49,2,[[i64 0,.emp]]⟩)],2,48⟩:=rfl
def zgW:Nat×Nat→AState
 |(x,y)=>⟨[(4,.lptr 1 0 0),(7,i64 x),(8,i64 y)],[(1,some ⟨49,2,[[i64 0,.emp]]⟩)],2,48⟩
theorem sC(x:Nat)(y:Nat):zgW (x,y)=⟨[(4,.lptr 1 0 0),(7,i64 x),(8,i64 y)],[(1,some ⟨49,2,[[i64 0,.emp]]⟩)],2,48⟩:=rfl
theorem uV(p q:Nat):Nat.gcd q (p % q)=Nat.gcd p q:=by
 rw[Nat.gcd_comm p q,Nat.gcd_rec q p,Nat.gcd_comm]
theorem uT{n:Nat}(h:(zd n).length≤4):n< 1152921504606846976:=by
 have h1:=Dc (jg n);rw[ki] at h1;exact Nat.lt_of_lt_of_le h1 (Nat.pow_le_pow_right (n:=32768) (j:=4) (by decide) h)
theorem fs_ZGcd(x y:Int)(hx:bl x.natAbs≤4398046511104)(hy:bl y.natAbs≤4398046511104):FS 150 [.agg (zZ x),.agg (zZ y)] (.agg (zZ (Nat.gcd x.natAbs y.natAbs:Nat))):=by
 refine f_c Tryz.func150 ?_;refine r_z 3 ?_;refine ae (r_d aY 6 ?_);refine a_6 ?_;refine ao (n_k ?_);refine bh (fun p:Nat=>zgS (p,0)) (fun p=>p=Nat.gcd x.natAbs y.natAbs) ?_ ?_;refine aj (aB zgS (fun v=>v.2) (fun v=>Nat.gcd v.1 v.2=Nat.gcd x.natAbs y.natAbs∧bl v.1≤4398046511104∧bl v.2≤4398046511104) (x.natAbs,y.natAbs) ⟨rfl,hx,hy⟩ ?_ ?_);simp only[lx];exact s_e [(1,4)];rintro⟨p,q⟩ ⟨hg,hp,n⟩;simp only at hg hp n;have j:=cD p;have t:=cD q;have i:=bJ (b:=UB) (by decide) p;have w:=bJ (b:=UB) (by decide) q;rw[lx];refine ae (r_z 3 ?_);refine ap rfl (fun h=>?_) (fun h=>?_)
 have a:0< q:=by
  rcases Nat.eq_zero_or_pos q with e|e
  subst e;rw[og] at h;simp at h;exact e
 refine am (aj (bh (fun _:Unit=>zgS (p,q)) (fun _=>True) ?_ ?_));by_cases hl:(zd p).length≤4;by_cases hl2:(zd q).length≤4;have l:=uT hl;have m:=uT hl2;have f:=ze (zd p) hl (jg p);have g:=ze (zd q) hl2 (jg q);rw[ki] at f g;refine s_r 8 ?_;refine a_4 ?_;refine y_g rfl (by simp;omega) (.move rfl) ?_;refine y_g rfl (by simp;omega) (.lenI rfl rfl rfl rfl te_47.h) ?_;refine y_g rfl (by simp;omega) (.bin rfl rfl gQ) ?_;refine o_0 (.pickT rfl (by simp;omega) rfl) ?_;refine ao ?_;refine ap rfl (fun h1=>?_) (fun h1=>?_);refine r_c 6 (f) ?_;refine c_s (g) ?_;refine a_z ?_;refine bh (fun v:Nat=>zgW (v,0)) (fun v=>v=Nat.gcd x.natAbs y.natAbs) ?_ ?_;refine aj (aB zgW (fun v=>v.2) (fun v=>Nat.gcd v.1 v.2=Nat.gcd x.natAbs y.natAbs∧v.1< 1152921504606846976∧v.2< 1152921504606846976) (p,q) ⟨hg,l,m⟩ ?_ ?_);simp only[sC];exact s_e [];rintro⟨u,v⟩ ⟨d,r,hv⟩;simp only at d r hv;rw[sC];refine ae (r_z 2 ?_);refine ap rfl (fun k=>?_) (fun k=>?_);have c:0< v:=by simp at k;omega
 refine am (aj (r_d aY 6 ?_));refine a_6 ?_;refine ao (n_k ?_);refine⟨(v,u % v),Nat.mod_lt _ c,⟨(uV u v).trans d,hv,Nat.lt_trans (Nat.mod_lt _ c) hv⟩,?_⟩;simp only[sC];exact s_e [];have c:v=0:=by simp at k;omega
 subst c;refine ay ⟨u,by simpa using d,?_⟩;simp only[sC];exact s_e [];rintro v hv;rw[sC]
 have o:v< 1152921504606846976:=by
  rw[hv,←hg];have h1:Nat.gcd p q≤q:=Nat.gcd_le_right _ a;omega
 refine r_c 3 (pn v (by omega)) ?_;refine a_z ?_;refine ai (dl rfl rfl rfl TG.h TS.h (nle rfl) ?_ ?_);rw[←hv];rfl;exact cJ _;exact absurd h1 (by simp;omega);refine s_r 8 ?_;refine a_4 ?_;refine y_g rfl (by simp;omega) (.move rfl) ?_;refine y_g rfl (by simp;omega) (.lenI rfl rfl rfl rfl te_47.h) ?_;refine y_g rfl (by simp;omega) (.bin rfl rfl gQ) ?_;refine o_0 (.pickT rfl (by simp;omega) rfl) ?_;refine ao ?_;refine ap rfl (fun h=>?_) (fun _=>am ⟨(),trivial,?_⟩);exact absurd h (by simp;omega);simp only[lx];exact s_e [];refine s_r 8 ?_;refine a_4 ?_;refine n_g rfl (by simp;omega) ?_;refine n_g rfl (by simp;omega) ?_;refine n_g rfl (by simp;omega) ?_;refine o_0 (.pickF rfl (by simp;omega) rfl) ?_;refine ao ?_;refine ap rfl (fun h=>?_) (fun _=>am ⟨(),trivial,?_⟩);cases h;simp only[lx];exact s_e [];rintro _ _;rw[lx];refine r_c 8 (tJ p q a hp n) ?_;refine a_z ?_;refine r_m 4 ?_;refine a_z ?_;refine⟨(q,p % q),Nat.mod_lt _ a,⟨(uV p q).trans hg,n,?_⟩,?_⟩;have:=dt (Nat.le_of_lt (Nat.mod_lt p a));simp only;omega;simp only[lx];exact s_e []
 have a:q=0:=by
  refine zd_eq_nil.1 (List.length_eq_zero_iff.1 ?_);have:=of_decide_eq_false h;omega
 subst a;refine ay ⟨p,by simpa using hg,?_⟩;simp only[lx];exact s_e [];rintro p hp;rw[lx]
 have s:bl p≤4398046511104:=by
  rw[hp];rcases Nat.eq_zero_or_pos y.natAbs with e|e
  rw[e,Nat.gcd_zero_right];exact hx;exact Nat.le_trans (dt (Nat.gcd_le_right _ e)) hy
 have j:=cD p;have i:=bJ (b:=UB) (by decide) p;refine r_c 3 (jI 1 (zd p) (p:Int) (by omega) (jg p) (by rw[ki,Int.natAbs_natCast]) (fun h=>by unfold sgZ;rw[if_neg h,if_neg (by omega)])) ?_;refine a_z ?_;refine ai (dl rfl rfl rfl TG.h TS.h (nle rfl) ?_ ?_);rw[←hp];rfl;exact cJ _
theorem r6(x:RQ)(hx:rok x):FS 106 [.agg (rC x)] (.agg (zZ (x.1.den:Int))):=by
 refine f_c Tryz.func106 ?_;refine r_z 2 ?_;refine ae (r_z 4 ?_);obtain⟨q,f⟩:=x;have hp:=q.den_pos;cases f with
 |true=>
  have c:q=0:=hx rfl;subst c;refine ap (t:=true) rfl (fun h=>?_) (fun h=>?_);refine r_c 2 (pn 1 (by decide)) ?_;refine a_z ?_;exact ai (c_e (cJ _));cases h
 |false=>
  refine ap rfl (fun h=>?_) (fun h=>?_);exfalso;have h1:sgZ (q.den:Int)=0:=by simpa using h
  rcases cY (q.den:Int) with⟨a,b⟩|⟨a,b⟩|⟨a,b⟩<;> omega
  refine am (r_z 3 ?_);exact ai (c_e (cJ _))
theorem zd_one:zd 1=[1]:=by
 unfold zd;rw[eX (by decide) (by decide),show 1/ UB=0 by decide,cm];rfl
theorem zZ_one{g:Nat}(h:g=1):zZ (g:Int)=[i64 1,.arr [[i64 1]]]:=by
 subst h;show [i64 (sgZ 1),AV.arr (iE (zd 1))]=_;rw[zd_one];rfl
theorem DQ{g:Nat}(h:(zd g).length=1):zd g=[g]:=by
 obtain⟨a,ha⟩:=List.length_eq_one_iff.1 h;have h1:=ki g;rw[ha,o6,tH] at h1;simp at h1;rw[ha,h1]
theorem uW{n:Nat}(h:bl n≤4398046511104):(zd n).length≤281474976710656:=by
 rw[cD];have:=bJ (b:=UB) (by decide) n;omega
def ratS(n':Int)(D g:Nat):AState:=⟨[(2,.lptr 1 0 0),(3,.lptr 2 0 0),(4,.lptr 3 0 0),(5,.lptr 4 0 0)],[(1,some ⟨49,2,[zZ n']⟩),(2,some ⟨49,2,[zZ (D:Int)]⟩),(3,some ⟨51,4,[[i64 0,.emp,i64 0,.emp]]⟩),(4,some ⟨49,2,[zZ (g:Int)]⟩)],5,57⟩
theorem zr(n d:Int)(hd:d≠0)(hn:bl n.natAbs≤4398046511104)(hb:bl d.natAbs≤4398046511104):FS 101 [.agg (zZ n),.agg (zZ d)] (.agg (rC (rq (Rat.divInt n d)))):=by
 refine f_c Tryz.func101 ?_;refine r_z 3 ?_;refine bh (fun f:Int=>⟨[(2,.lptr 1 0 0),(3,.lptr 2 0 0),(4,.lptr 3 0 0)],[(1,some ⟨49,2,[zZ f]⟩),(2,some ⟨49,2,[zZ (d.natAbs:Int)]⟩),(3,some ⟨51,4,[[i64 0,.emp,i64 0,.emp]]⟩)],4,57⟩) (fun f=>f.natAbs=n.natAbs∧Rat.divInt n d=mkRat f d.natAbs) ?_ ?_;refine r_z 3 ?_;refine ap rfl (fun h=>?_) (fun h=>?_)
 have q:d< 0:=by
  have h1:sgZ d< 0:=by simpa using h
  rcases cY d with⟨a,b⟩|⟨a,b⟩|⟨a,b⟩<;> omega
 have e: -d=(d.natAbs:Int):=by omega
 have o:=xm d;rw[e] at o;refine r_d aY 6 ?_;refine c_s (xm n) ?_;refine c_s (o) ?_;refine a_2 ?_;refine ao (n_k ?_);refine⟨-n,⟨by omega,n8 n d q⟩,?_⟩;exact s_e []
 have l:0< d:=by
  have h1:¬sgZ d< 0:=by simpa using h
  rcases cY d with⟨a,b⟩|⟨a,b⟩|⟨a,b⟩<;> omega
 have e:d=(d.natAbs:Int):=by omega
 refine am ⟨n,⟨rfl,n7 n d l⟩,?_⟩;rw[←e];exact s_e [];rintro f ⟨t,hv⟩;have i:0< d.natAbs:=by omega
 obtain⟨D,w⟩:∃D,D=d.natAbs:=⟨_,rfl⟩;rw[hv];rw[←w] at hb i⊢;rw[←t] at hn;obtain⟨g,hg⟩:∃g,g=Nat.gcd f.natAbs D:=⟨_,rfl⟩;have m:0< g:=by rw[hg];exact Nat.gcd_pos_of_pos_right _ i
 have u:g≤D:=by rw[hg];exact Nat.gcd_le_right _ i
 have C:=dt u;have z:(mkRat f D).num.natAbs=f.natAbs/ g:=by rw[iZ i,ff,hg]
 have r:(mkRat f D).den=D/ g:=by rw[(j8 i).2,hg]
 have v:=DY (n:=f) i;have j:=fs_ZGcd f (D:Int) hn (by rw[Int.natAbs_natCast];exact hb);rw[Int.natAbs_natCast,←hg] at j
 have p:rC (rq (mkRat f D))=zZ (sgn (decide (f< 0)) (f.natAbs/ g))++zZ ((D/ g:Nat):Int):=by
  rw[rC_rq,r,iZ i,←hg]
 rw[p];have B:bl (D/ g)≤bl D:=eI D g;have y:bl (f.natAbs/ g)≤bl f.natAbs:=eI f.natAbs g;refine r_c 5 (j) ?_;refine a_z ?_;refine bh (fun _:Unit=>ratS f D g) (fun _=>g≠1) ?_ ?_;by_cases h1:g=1;rw[zZ_one h1];refine s_r 11 ?_;refine a_5 ?_;refine y_g rfl rfl (.fieldAddr_l rfl TF.h (by decide)) ?_;refine y_g rfl rfl (.load_l1 rfl rfl rfl TG.h rfl) ?_;refine y_g rfl rfl (.index_a rfl rfl (by omega) rfl rfl te_47.h) ?_;refine y_g rfl rfl (.load_a1 rfl rfl TG.h rfl) ?_;refine y_g rfl rfl (.bin rfl rfl cv) ?_;refine o_0 (.pickT rfl rfl rfl) ?_;refine ao ?_;refine ap rfl (fun h=>?_) (fun h=>?_);refine r_z 4 ?_;refine ai ?_;rw[h1,Nat.div_one,Nat.div_one,show sgn (decide (f< 0)) f.natAbs=f by unfold sgn;by_cases h0:f< 0 <;> simp[h0]<;> omega];exact c_e (aA fun c hc=>(List.mem_append.1 hc).elim (fK _ c) (fK _ c));exact absurd h (by decide);by_cases hl:(zd g).length=1;have E:=DQ hl;have k:zZ (g:Int)=[i64 (sgZ (g:Int)),.arr (iE [g])]:=by show [i64 (sgZ (g:Int)),AV.arr (iE (zd g))]=_;rw[E]
 rw[k];refine s_r 11 ?_;refine a_5 ?_;refine y_g rfl rfl (.fieldAddr_l rfl TF.h (by decide)) ?_;refine y_g rfl rfl (.load_l1 rfl rfl rfl TG.h rfl) ?_;refine y_g rfl rfl (.index_a rfl rfl (by omega) rfl rfl te_47.h) ?_;refine y_g rfl rfl (.load_a1 rfl rfl TG.h rfl) ?_;refine y_g rfl rfl (.bin rfl rfl cv) ?_;refine o_0 (.pickT rfl rfl rfl) ?_;refine ao ?_;refine ap rfl (fun h=>?_) (fun h=>?_);exact absurd h (by simp;omega);refine am ⟨(),h1,?_⟩;rw[←k];unfold ratS;exact s_e [(4,5)];refine s_r 11 ?_;refine a_5 ?_;refine n_g rfl (by simp;omega) ?_;refine n_g rfl (by simp;omega) ?_;refine n_g rfl (by simp;omega) ?_;refine n_g rfl (by simp;omega) ?_;refine n_g rfl (by simp;omega) ?_;refine o_0 (.pickF rfl (by simp;omega) rfl) ?_;refine ao ?_;refine ap rfl (fun h=>?_) (fun h=>?_);exact absurd h (by simp);refine am ⟨(),h1,?_⟩;unfold ratS;exact s_e [(4,5)];rintro _ A;unfold ratS;have x:=jI (sgZ f) (zd (f.natAbs/ g)) (sgn (decide (f< 0)) (f.natAbs/ g)) (uW (by omega)) (jg _) (by rw[ki,ff]) (fun h=>by rw[←v,iZ i,←hg]);have s:=jI 1 (zd (D/ g)) ((D/ g:Nat):Int) (uW (by omega)) (jg _) (by rw[ki,Int.natAbs_natCast]) (fun h=>by unfold sgZ;rw[if_neg h,if_neg (by omega)]);refine r_c 10 (tJ f.natAbs g m hn (by omega)) ?_;refine a_z ?_;refine r_c 10 (tJ D g m hb (by omega)) ?_;refine a_z ?_;refine r_c 8 (x) ?_;refine c_s (s) ?_;refine a_z ?_;exact ai (c_e (aA fun c hc=>(List.mem_append.1 hc).elim (fK _ c) (fK _ c)))
theorem nv{z:Int}{k:Nat}(h:bl z.natAbs≤k)(hk:k≤8796093022208):zl z:=Nat.le_trans h hk
theorem fs_rOf(n d:Int)(hd:d≠0)(h: -9223372036854775808≤n∧n≤9223372036854775807)(h2: -9223372036854775808≤d∧d≤9223372036854775807):FS 39 [i64 n,i64 d] (.agg (rC (rq (Rat.divInt n d)))):=by
 have hb:∀z:Int,-9223372036854775808≤z→z≤9223372036854775807→bl z.natAbs≤4398046511104:=fun z h1 h2=>Nat.le_trans (gP (k:=64) (by omega)) (by decide);refine f_c Tryz.func39 ?_;refine r_z 1 ?_;refine r_c 6 (pn n h) ?_;refine c_s (pn d h2) ?_;refine c_s (zr n d hd (hb n h.1 h.2) (hb d h2.1 h2.2)) ?_;refine a_z ?_;exact ai (c_e (kx _))
theorem zf(x:RQ):FS 164 [.agg (rC x)] (i64 (sgZ x.1.num)):=by
 refine f_c Tryz.func164 ?_;refine r_z 2 ?_;refine r_z 4 ?_;exact ai (t_e (ag _))
theorem fs_rMul(x y:RQ)(hx:rok x)(hy:rok y)(h:qs x.1+qs y.1≤1099511627776):FS 41 [.agg (rC x),.agg (rC y)] (.agg (rC (rq (x.1* y.1)))):=by
 obtain⟨a,g⟩:=x;obtain⟨b,i⟩:=y;simp only at h⊢;have hp:=qm a b;have h1:=dI a;have c:=du a;have k:=dI b;have j:=du b;have l:=hp.1;have f:=hp.2;have d:(a.den:Int) * b.den≠0:=by have:=mH a b;rw[←Int.natCast_mul];omega
 have e:a* b=Rat.divInt (a.num* b.num) (a.den* b.den):=by
  rw[mW,←Int.natCast_mul,←Rat.divInt_ofNat]
 rw[e];have m:bl ((a.den:Int) * b.den).natAbs≤qs a+qs b:=by rw[←Int.natCast_mul,Int.natAbs_natCast];exact f
 refine f_c Tryz.func41 ?_;refine r_z 3 ?_;refine ae (r_d aY 12 ?_);refine c_s (pm a.num b.num (nv h1 (by omega)) (nv k (by omega))) ?_;refine c_s (r6 (a,g) hx) ?_;refine c_s (r6 (b,i) hy) ?_;refine c_s (pm a.den b.den (nv (by simpa using c) (by omega)) (nv (by simpa using j) (by omega))) ?_;refine c_s (zr (a.num* b.num) (a.den* b.den) d (by omega) (by omega)) ?_;refine a_1 ?_;refine ao (n_k ?_);exact ai (c_e (kx _))
theorem fs_rCmp(x y:RQ)(hx:rok x)(hy:rok y)(h:qs x.1+qs y.1≤1099511627776):FS 84 [.agg (rC x),.agg (rC y)] (i64 (ft x.1 y.1)):=by
 obtain⟨a,i⟩:=x;obtain⟨b,j⟩:=y;simp only at h⊢;have h1:=dI a;have c:=du a;have f:=dI b;have d:=du b;have e1:=eU (x:=a.num) (y:=b.den) h1 (by simpa using d);have e2:=eU (x:=b.num) (y:=a.den) f (by simpa using c)
 have e:ft a b=eg (a.num* b.den) (b.num* a.den):=by
  rw[DH];unfold eg;obtain⟨u,g⟩:∃u,u=a.num* (b.den:Int):=⟨_,rfl⟩;obtain⟨v,hv⟩:∃v,v=b.num* (a.den:Int):=⟨_,rfl⟩;rw[←g,←hv];split;rfl;split <;> split <;> omega
 rw[e];refine f_c Tryz.func84 ?_;refine r_z 3 ?_;refine ae (r_d aY 12 ?_);refine c_s (r6 (b,j) hy) ?_;refine c_s (pm a.num b.den (nv h1 (by omega)) (nv (by simpa using d) (by omega))) ?_;refine c_s (r6 (a,i) hx) ?_;refine c_s (pm b.num a.den (nv f (by omega)) (nv (by simpa using c) (by omega))) ?_;refine c_s (fs_ZCmp (a.num* b.den) (b.num* a.den) (nv e1 (by omega)) (nv e2 (by omega))) ?_;refine a_1 ?_;refine ao (n_k ?_);exact ai (t_e (ag _))


theorem fs_ends (g:Nat) (op:Rat→Rat→Rat) (a b c d:Rat) (h1:FS g [.agg (qC a),.agg (qC c)] (.agg (qC (op a c)))) (h2:FS g [.agg (qC a),.agg (qC d)] (.agg (qC (op a d)))) (h3:FS g [.agg (qC b),.agg (qC c)] (.agg (qC (op b c)))) (h4:FS g [.agg (qC b),.agg (qC d)] (.agg (qC (op b d))))
    (hs:smL [op a c,op a d,op b c,op b d]):FS 267 [.clos g [] [],.agg (spC a b),.agg (spC c d)] (.agg (spC (Bd [op a c,op a d,op b c,op b d]) (nS [op a c,op a d,op b c,op b d]))):=by
 refine f_n Tryz.func267 ?_ ?_;exact ac (aQ af af) (ac (bG a b) (ac (bG c d) af));refine r_z 3 ?_;refine ae (r_d aY 27 ?_);refine c_s (h1) ?_;refine c_s (h2) ?_;refine c_s (h3) ?_;refine c_s (h4) ?_;refine a_1 ?_;refine o_1 (.callS1 rfl rfl rfl (.shut rfl d_n (.nil)) rfl (Bu [op a c,op a d,op b c,op b d] hs (by simp))) ?_;refine a_1 ?_;refine ao (n_k ?_);exact ai (c_e (bG _ _))
theorem fs_SMul(a b c d:Rat)(ha:sm a)(hb:sm b)(hc:sm c)(hd:sm d)(hs:smL [a* c,a* d,b* c,b* d]):FS 246 [.agg (spC a b),.agg (spC c d)] (.agg (spC (Bd [a* c,a* d,b* c,b* d]) (nS [a* c,a* d,b* c,b* d]))):=by
 refine f_c Tryz.func246 ?_;refine r_z 3 ?_;refine r_c 4 (fs_ends 40 (fun x y=>x* y) a b c d (cU a c (sm2 ha hc)) (cU a d (sm2 ha hd)) (cU b c (sm2 hb hc)) (cU b d (sm2 hb hd)) hs) ?_;refine a_z ?_;exact ai (c_e (bG _ _))
theorem qs_int(n:Int):qs (n:Rat)≤max (bl n.natAbs) 1:=by
 have e1:(n:Rat).num=n:=rfl;have e2:(n:Rat).den=1:=rfl;unfold qs;rw[e1,e2,jC];exact Nat.le_refl _
theorem FG{n:Int}(h: -9223372036854775808≤n∧n≤9223372036854775807):qs (n:Rat)≤64:=by
 have h1:=qs_int n;have a:bl n.natAbs≤64:=gP (Nat.lt_of_le_of_lt (show n.natAbs≤9223372036854775808 by omega) (by decide));omega
theorem fs_Of(n d:Int)(hn: -9223372036854775808≤n∧n≤9223372036854775807)(hd: -9223372036854775808≤d∧d≤9223372036854775807)(h0:d≠0):FS 35 [i64 n,i64 d] (.tup [.agg (qC ((n:Rat) / (d:Rat))),i64 0]):=by
 have h1:=FG hn;have b:=FG hd
 have a:(d:Rat)≠0:=by
  intro h;have:(d:Rat).num=0:=by rw[h];rfl
  exact h0 this
 refine f_c Tryz.func35 ?_;refine r_z 2 ?_;refine r_c 9 (dK n hn) ?_;refine c_s (dK d hd) ?_;refine c_s (BH (n:Rat) (d:Rat) a (by omega)) ?_;refine a_z ?_;refine ai (Fin.many ⟨_,_,rfl,⟨_,_,_,_,_,rfl,rfl,rfl,.inl ⟨TG.h,_,TS.h,nle rfl,rfl⟩⟩,⟨_,_,rfl,rfl,rfl⟩⟩ (nle rfl) ?_);exact ah (ak aD (aP _)) (ah (ak aD (ag _)) av)
theorem GN(l:List Rat)(hl:l.length≤1099511627776):FS 109 [.arr (pE l)] (.arr (pE l)):=by
 cases l with
 |nil=>
  refine FSpec.nil1 fun a c=>?_;refine f_c Tryz.func109 ?_;refine r_z 1 ?_;refine ae (r_z 2 ?_);refine ap rfl (fun h=>?_) (fun h=>?_);refine r_z 1 ?_;exact ai (Fin.tmpN rfl)
  ·refine am (s_r 4 ?_)
   refine a_2 ?_;refine o_2 (.append_l rfl rfl rfl te_36.h rfl rfl rfl rfl rfl d_o (by first|exact eE _|exact eA _|exact dJ _|exact eG _|exact er _|assumption|rfl|simp) (by first|rfl|exact eE _|exact eA _|exact dJ _|exact eG _|exact er _|simp) rfl (.vnil) TZ.h rfl TB.h d_o (by first|(simp[maxLen];done)|(simp[maxLen];omega))) ?_;refine a_z ?_;exact ai (Fin.tmpS rfl rfl rfl rfl (aL []))
 |cons q l=>
  have b:pE (q::l)≠[]:=by simp[pE]
  simp at hl;refine f_c Tryz.func109 ?_;refine r_z 1 ?_;refine ae (s_r 2 ?_);refine a_1 ?_;refine aO (.nilq_arr rfl (b) rfl te_36.h) rfl rfl ?_;refine ao ?_;refine cF ?_
  ·refine am (s_r 4 ?_)
   refine a_2 ?_;refine o_2 (.append_l rfl rfl rfl te_36.h rfl rfl rfl rfl rfl d_o (by first|exact eE _|exact eA _|exact dJ _|exact eG _|exact er _|assumption|rfl|simp) (by first|rfl|exact eE _|exact eA _|exact dJ _|exact eG _|exact er _|simp) rfl (.arr (kV _)) TZ.h rfl TB.h d_o (by first|(simp[maxLen];done)|(simp[maxLen];omega))) ?_;refine a_z ?_;exact ai (Fin.tmpS rfl rfl rfl (by simp) (aL _))
def trS(l:List Rat):Nat→AState
 |n=>⟨[(0,.arr (pE l)),(3,i64 n)],[],1,23⟩
theorem dc(l:List Rat)(hl:l.length≤1099511627776):FS 46 [.arr (pE l)] (.arr (pE (aq l))):=by
 refine f_c Tryz.func46 ?_;refine r_z 1 ?_;refine r_z 3 ?_;refine bh (trS l) (fun n=>n≤l.length∧aq l=l.take n) ?_ ?_;refine aj (aB (trS l) (fun n=>n) (fun n=>n≤l.length∧aq l=aq (l.take n)) l.length ⟨Nat.le_refl _,by rw[List.take_length]⟩ ?_ ?_);simp only[trS.eq_1];exact s_e [];rintro n ⟨f,ht⟩;rw[trS.eq_1];cases n with
 |zero=>
  refine ae (s_r 11 ?_);refine a_3 ?_;refine n_g rfl (by simp) ?_;refine n_g rfl (by simp) ?_;refine n_g rfl (by simp) ?_;refine n_g rfl (by simp) ?_;refine n_g rfl (by simp) ?_;refine n_g rfl (by simp) ?_;refine n_g rfl (by simp) ?_;refine o_0 (.pickF rfl (by simp) rfl) ?_;refine ao ?_;refine cF ?_;refine ay ⟨0,⟨Nat.zero_le _,?_⟩,?_⟩;rw[ht];rfl;simp only[trS.eq_1];exact s_e []
 |succ n=>
  obtain⟨q,d⟩:∃q,l[n]?=some q:=⟨_,List.getElem?_eq_getElem (by omega)⟩
  have a:(pE l)[(((n+1:Nat):Int)- 1).toNat]?=some (qC q):=by
   rw[show(((n+1:Nat):Int)- 1).toNat=n by omega];exact pE_get d
  have hs:aq (l.take (n+1))=if q=0 then aq (l.take n) else l.take (n+1):=by
   rw[cw d,kM]
  refine ae (s_r 11 ?_);refine a_3 ?_;refine y_g rfl (by simp <;> omega) (.move rfl) ?_;refine y_g rfl (by simp <;> omega) (.move rfl) ?_;refine y_g rfl (by simp <;> omega) (.bin rfl rfl (pO (by omega))) ?_;refine y_g rfl (by simp <;> omega) (.index_a rfl rfl (by omega) a rfl te_36.h) ?_;refine y_g rfl (by simp <;> omega) (.load_a rfl a TG.h TS.h (nle rfl)) ?_;refine y_g rfl (by simp <;> omega) (.call rfl rfl rfl (ci q)) ?_;refine y_g rfl (by simp <;> omega) (.bin rfl rfl cv) ?_;refine o_0 (.pickT rfl (by simp <;> omega) rfl) ?_;refine ao ?_;refine ap rfl (fun h=>?_) (fun h=>?_)
  have b:q=0:=by
   have h1:sgZ q.num=0:=by simpa using h
   exact sgZ_num_eq.1 h1
  refine am (aj (r_m 3 ?_));refine a_z ?_;refine⟨n,Nat.lt_succ_self n,⟨by omega,?_⟩,?_⟩;rw[ht,hs,if_pos b];simp only[trS.eq_1];exact s_e []
  have b:q≠0:=by
   intro e;have h1:¬sgZ q.num=0:=by simpa using h
   exact h1 (sgZ_num_eq.2 e)
  refine ay ⟨n+1,⟨f,?_⟩,?_⟩;rw[ht,hs,if_neg b];simp only[trS.eq_1];exact s_e []
 rintro n ⟨f,ht⟩;rw[trS.eq_1];have c:=GN (l.take n) (by simp;omega);refine s_r 5 ?_;refine a_2 ?_;refine o_0 (.sa_h rfl rfl (h:=n) rfl (by simp;omega) te_36.h (kV _)) ?_;refine o_0 (.call rfl rfl rfl ((by rw[rO];exact c))) ?_;refine o_0 (.assign rfl) ?_;refine ao ?_;refine ai (aU rfl ?_ ?_);rw[ht];exact aG (aL _)
theorem cI(l:List Rat)(hl:l.length≤1099511627776):FS 10 [.arr (pE l)] (i64 (bv l)):=by
 have:=bU l;refine f_c Tryz.func10 ?_;refine r_z 1 ?_;refine r_c 5 (dc l hl) ?_;refine a_z ?_;exact ai (t_e (ag _))
theorem nh(l:List Rat)(hl:l.length≤1099511627776):FS 22 [.arr (pE l)] (.agg (qC (aR l))):=by
 have a:=bU l;refine f_c Tryz.func22 ?_;refine r_z 1 ?_;refine r_c 3 (dc l hl) ?_;refine a_z ?_;refine ae (r_z 3 ?_);refine ap rfl (fun h=>?_) (fun h=>?_)
 have c:aq l=[]:=by
  have h1:(aq l).length=0:=by simpa using h
  exact List.length_eq_zero_iff.1 h1
 rw[qp c];refine r_z 2 ?_;refine ai (Fin.cell rfl rfl rfl TG.h TS.h (nle rfl) (Cv.agg ?_));rw[qC0];exact ah (Cv.emp _) (ah (ak aD (ag _)) (ah (Cv.emp _) av))
 obtain⟨n,b⟩:∃n,(aq l).length=n+1:=⟨(aq l).length- 1,by
  have h1:¬(aq l).length=0:=by simpa using h
  omega⟩
 have hg:(pE (aq l))[(((aq l).length:Int)- 1).toNat]?=some (qC (aR l)):=by
  rw[b,show(((n+1:Nat):Int)- 1).toNat=n by omega];exact pE_get (dT b)
 refine am (s_r 7 ?_);refine a_4 ?_;refine i_x hg ?_;refine l_x hg ?_;refine a_z ?_;exact ai (c_e (aP _))
theorem fs_at(l:List Rat)(i:Nat):FS 80 [.arr (pE l),i64 i] (.agg (qC (coP l i))):=by
 refine f_c Tryz.func80 ?_;refine r_z 1 ?_;refine ae (r_z 4 ?_);refine ap rfl (fun h=>?_) (fun h=>?_);have a:i< l.length:=by simpa using h
 have hg:(pE l)[((i:Nat):Int).toNat]?=some (qC (coP l i)):=pE_get (b9 a);refine s_r 5 ?_;refine a_2 ?_;refine i_x hg ?_;refine l_x hg ?_;refine a_z ?_;exact ai (c_e (aP _));have b:l.length≤i:=by simpa using h
 rw[fH b];refine am (r_z 2 ?_);refine ai (Fin.cell rfl rfl rfl TG.h TS.h (nle rfl) (Cv.agg ?_));rw[qC0];exact ah (Cv.emp _) (ah (ak aD (ag _)) (ah (Cv.emp _) av))
theorem eE_set{n i e:Nat}{f:Nat→Rat}(h:i< n)(he:e=i):(pE (aS i f)++List.replicate (n- i) zC).set e (qC (f i))=pE (aS (i+1) f)++List.replicate (n- (i+1)) zC:=by
 subst he;obtain⟨k,rfl⟩:∃k,n=e+1+k:=⟨n- (e+1),by omega⟩;rw[show e+1+k- e=k+1 by omega,show e+1+k- (e+1)=k by omega,List.replicate_succ,List.set_append_right _ _ (by simp)];simp[aS,List.range_succ,pE]
theorem eE_get{n i e:Nat}{f:Nat→Rat}(h:i< n)(he:e=i):(pE (aS i f)++List.replicate (n- i) zC)[e]?=some zC:=by
 subst he;rw[List.getElem?_append_right (by simp),List.getElem?_replicate,if_pos (by simp;omega)]
theorem qQ(n i:Nat)(f:Nat→Rat):∀e∈pE (aS i f)++List.replicate (n- i) zC,∀c∈e,Closed c:=by
 intro e a;rcases List.mem_append.1 a with a|a
 exact aL _ e a;rw[List.eq_of_mem_replicate a];exact nn
def GZ(n:Nat)(f:Nat→Rat)(g:Nat)(cap:List AV):Nat→AState
 |i=>⟨[(1,.clos g [] cap),(5,.lsl 1 0 n (some n) 3),(10,i64 n),(11,i64 i)],[(1,some ⟨34,3,pE (aS i f)++List.replicate (n- i) zC⟩)],2,23⟩
theorem r9(n:Nat)(f:Nat→Rat)(g:Nat)(cap:List AV)(hn:n≤1099511627776)(hcap:∀c∈cap,Closed c)(hg:∀i,i< n→FS g ((i64 i::cap).map coe) (.agg (qC (f i)))):FS 50 [i64 n,.clos g [] cap] (.arr (pE (aq (aS n f)))):=by
 refine f_n Tryz.func50 ?_ ?_;exact ac (ag _) (ac (aQ af hcap) af);refine r_z 1 ?_;refine r_z 3 ?_;refine ae (r_z 3 ?_);refine aH (fun _:Unit=>GZ n f g cap n) (fun _=>True) ?_ ?_;refine aj (aB (GZ n f g cap) (fun i=>n- i) (fun i=>i≤n) 0 (Nat.zero_le _) ?_ ?_);simp only[GZ.eq_1];refine s_x [(1,5)] (fun hs=>e_2) (fun hs=>?_)
 ·repeat' (first|exact aE|refine h_c ?_ ?_|exact aI hs rfl (qQ n 0 f)|exact bF|refine aC ?_|exact av|refine ah ?_ ?_|exact ak hs (aQ af hcap)|exact aW)
 rintro i e;rw[GZ.eq_1];refine r_z 1 ?_;refine ae (ap rfl (fun h=>?_) (fun h=>?_));refine am ?_;have a:i< n:=by simpa using h
 refine ae (aj (r_z 2 ?_));refine r_m 7 ?_;refine c_s (hg i a) ?_;refine a_1 ?_;refine dX (.store rfl rfl (eE_get a (Nat.zero_add i)) rfl rfl rfl TS.h (nle rfl)) ?_;refine ao ?_;refine r_m 2 ?_;refine a_z ?_;refine⟨i+1,by omega,a,?_⟩;simp only[GZ.eq_1];refine s_x [] (fun hs=>e_2) (fun hs=>?_)
 ·repeat' (first|exact aE|refine h_c ?_ ?_|exact aI hs (eE_set a (Nat.zero_add i)) (qQ n (i+1) f)|exact bF|refine aC ?_|exact av|refine ah ?_ ?_|exact ak hs (aQ af hcap)|exact aW)
 have d:i=n:=by
  have:¬i< n:=by simpa using h
  omega
 subst d;refine ay ⟨(),trivial,?_⟩;simp only[GZ.eq_1];refine s_x [] (fun hs=>e_2) (fun hs=>?_)
 ·repeat' (first|exact aE|refine h_c ?_ ?_|exact bC hs (qQ i i f)|exact bF|refine aC ?_|exact av|refine ah ?_ ?_|exact ak hs (aQ af hcap)|exact aW)
 rintro _ _;rw[GZ.eq_1]
 have b:List.take n (List.drop 0 (pE (aS n f)++List.replicate (n- n) zC))=pE (aS n f):=by
  rw[Nat.sub_self,List.replicate_zero,List.append_nil,List.drop_zero,List.take_of_length_le (by simp)]
 refine s_r 3 ?_;refine a_1 ?_;refine o_1 (.callS1 rfl rfl rfl (.shut rfl d_n (.nil)) rfl ((by rw[b];exact dc (aS n f) (by simp;exact hn)))) ?_;refine a_z ?_;exact ai (t_e (aG (aL _)))
end Go.Proofs.YtkhclghbcicapaaGreatDoor
