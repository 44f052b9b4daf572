/- Part Z28 of the proof. -/
import Derived.Test.YtjgokhkahkmpbaaGreatDoorZ27
set_option linter.all false
namespace Go.Proofs.YtjgokhkahkmpbaaGreatDoor
open Go.Abs
set_option maxRecDepth 100000
set_option maxHeartbeats 2000000
def C0(A D:Nat):Ln→Nat→Nat→AState
 |[],R,i=>⟨[(0,.arr (iE (zd A))),(1,.arr (iE (zd D))),(6,.emp),(7,.arr (iE (zd R))),(8,i64 i)],[],1,54⟩
 |q::Q,R,i=>⟨[(0,.arr (iE (zd A))),(1,.arr (iE (zd D))),(6,.lsl 1 0 (Q.length+1) none 1),(7,.arr (iE (zd R))),(8,i64 i)],[(1,some ⟨3,1,iE (q::Q)⟩)],2,54⟩
theorem ic(A D R i:Nat):C0 A D [] R i=⟨[(0,.arr (iE (zd A))),(1,.arr (iE (zd D))),(6,.emp),(7,.arr (iE (zd R))),(8,i64 i)],[],1,54⟩:=rfl
theorem fq(A D:Nat)(q:Nat)(Q:Ln)(R i:Nat):C0 A D (q::Q) R i=⟨[(0,.arr (iE (zd A))),(1,.arr (iE (zd D))),(6,.lsl 1 0 (Q.length+1) none 1),(7,.arr (iE (zd R))),(8,i64 i)],[(1,some ⟨3,1,iE (q::Q)⟩)],2,54⟩:=rfl
theorem Ey{P D R a:Nat}(hD:0< D)(hR:R=P % D)(ha:a< UB):R* UB+a< UB* D∧(P* UB+a) / D=P/ D* UB+(R* UB+a) / D∧(P* UB+a) % D=(R* UB+a) % D∧(R* UB+a) / D< UB:=by
 have h1:=Nat.div_add_mod P D;have h2:=Nat.mod_lt P hD;rw[←hR] at h1 h2
 have h3:R* UB+a< UB* D:=by
  have:(R+1) * UB≤D* UB:=Nat.mul_le_mul_right _ h2;rw[Nat.add_mul,Nat.one_mul,Nat.mul_comm D] at this;omega
 have h4:P* UB+a=D* (P/ D* UB)+(R* UB+a):=by
  conv=>lhs;rw[←h1]
  rw[Nat.add_mul,Nat.mul_assoc,Nat.add_assoc]
 refine⟨h3,?_,?_,?_⟩;rw[h4,Nat.mul_add_div hD];rw[h4,Nat.mul_add_mod];rw[Nat.div_lt_iff_lt_mul hD];exact h3
theorem s9(A D:Nat)(hD:0< D)(hA:bl A≤4398046511104)(hb:bl D≤4398046511104):FS 175 [.arr (iE (zd A)),.arr (iE (zd D))] (.tup [.arr (iE (zd (A/ D))),.arr (iE (zd (A % D)))]):=by
 have hzA:=cS A;have hzD:=cS D;have hlD:=bR (b:=UB) (by decide) D;have hlA:=bR (b:=UB) (by decide) A;obtain⟨n,hn⟩:∃n,n=(zd D).length:=⟨_,rfl⟩
 have hn1:1≤n:=by
  have:zd D≠[]:=fun h=>by have:=zd_eq_nil.1 h;omega
  have:=List.length_pos_iff.2 this;omega
 have hDn:UB^ (n- 1)≤D:=by
  rcases qt (b:=UB) (n:=D) (by decide) with h|h
  rwa[←hzD,←hn] at h;omega
 refine f_c Tryz.func175 ?_;refine r_z 2 ?_;refine ae (r_z 5 ?_);refine au rfl (fun h=>?_) (fun h=>?_);have hlt:(zd A).length< (zd D).length:=by have:=of_decide_eq_true h;omega
 have hAD:A< D:=iS (b:=UB) (by decide) (by omega);refine r_z 3 ?_;refine am (Fin.many ⟨_,_,rfl,rfl,⟨_,_,rfl,rfl,rfl⟩⟩ (nle rfl) ?_);rw[Nat.div_eq_of_lt hAD,Nat.mod_eq_of_lt hAD,nB];exact af (Cv.emp _) (af (ah aE (ez _)) ay);have hge:n≤(zd A).length:=by have:=of_decide_eq_false h;omega
 refine an (r_z 1 ?_);obtain⟨P0,hP0⟩:∃P0,P0=hv ((zd A).take (n- 1)):=⟨_,rfl⟩
 have hP0D:P0< D:=by
  have h1:=Ce (l:=(zd A).take (n- 1)) fun d hd=>kS A d (List.mem_of_mem_take hd);rw[←hP0] at h1;have h2:UB^ ((zd A).take (n- 1)).length≤UB^ (n- 1):=Nat.pow_le_pow_right (by decide) (by simp;omega);omega
 have hst:=ig ((zd A).take (n- 1)) (by simp;omega);rw[fm (fun d hd=>kS A d (List.mem_of_mem_take hd)),←hP0] at hst;refine aZ (fun _:Unit=>⟨[(0,.arr (iE (zd A))),(1,.arr (iE (zd D))),(6,.emp),(7,.arr (iE (zd P0)))],[],1,54⟩) (fun _=>True) ?_ ?_;by_cases hn2:n=1;rw[hn2] at hst;refine r_m 8 ?_;refine a_4 ?_;refine o_0 (.sa_h rfl rfl (h:=0) (by omega) (by simp) te_45.h (kH _)) ?_;refine o_0 (.append0 rfl rfl rfl te_45.h rfl rfl rfl (.arr (es:=[]) (by simp))) ?_;refine c_s (hst) ?_;refine a_z ?_;refine⟨(),trivial,?_⟩;exact s_e []
 ·have hne:(iE (zd A)).take (n- 1)≠[]:=fun h=>by
   have:=congrArg List.length h;rw[List.length_take,py,List.length_nil] at this;omega
  have hfull:List.take ((iE (zd A)).take (n- 1)).length (List.drop 0 ((iE (zd A)).take (n- 1)))=iE ((zd A).take (n- 1)):=by rw[List.drop_zero,List.take_length,iE_take]
  refine r_m 8 ?_;refine a_4 ?_;refine o_0 (.sa_h rfl rfl (h:=n- 1) (by omega) (by simp;omega) te_45.h (kH _)) ?_;refine o_1 (.append_e rfl rfl rfl te_45.h rfl rfl rfl (.arr (fun e he=>kH _ e (List.mem_of_mem_take he))) (by first|assumption|(simp;done)) TZ.h rfl TB.h d_o (by first|(simp[maxLen];done)|(simp[maxLen];omega))) ?_;refine o_1 (.callS1 rfl rfl rfl (.shut rfl d_n (.nil)) rfl ((by rw[hfull];exact hst))) ?_;refine a_z ?_;refine⟨(),trivial,?_⟩;exact s_e []
 rintro _ _;refine ae (r_z 4 ?_);refine aH (fun x:Ln×Nat=>C0 A D x.1 x.2 (zd A).length) (fun x=>(∀d∈x.1,d< UB)∧hv x.1=A/ D∧x.2=A % D∧x.1.length≤(zd A).length) ?_ ?_;refine ak (aC (fun x:Ln×Nat×Nat=>C0 A D x.1 x.2.1 x.2.2) (fun x=>(zd A).length- x.2.2) (fun x=>x.2.2≤(zd A).length∧(∀d∈x.1,d< UB)∧hv x.1=hv ((zd A).take x.2.2) / D∧x.2.1=hv ((zd A).take x.2.2) % D∧x.1.length≤x.2.2) ([],P0,n- 1) ⟨by simp only;omega,by simp,by simp only;rw[←hP0,Nat.div_eq_of_lt hP0D];rfl,by simp only;rw[←hP0,Nat.mod_eq_of_lt hP0D],by simp⟩ ?_ ?_);simp only[ic];exact s_e [];rintro⟨Q,R,i⟩ ⟨hi,hQd,hQ,hR,hQl⟩;simp only at hi hQd hQ hR hQl
 -- the head,whatever the quotient so far
 by_cases hlt:i< (zd A).length
 ·obtain⟨a,hai⟩:∃a,(zd A)[i]?=some a:=⟨_,List.getElem?_eq_getElem hlt⟩
  have ha:a< UB:=kS A a (List.mem_of_getElem? hai);have hai':(iE (zd A))[((i:Nat):Int).toNat]?=some [i64 a]:=jE hai;have hPs:hv ((zd A).take (i+1))=hv ((zd A).take i) * UB+a:=by rw[dx hai,oj]
  obtain⟨P,hP⟩:∃P,P=hv ((zd A).take i):=⟨_,rfl⟩;rw[←hP] at hQ hR hPs;obtain⟨s1,s2,s3,s4⟩:=Ey hD hR ha;have hRD:R< D:=by rw[hR];exact Nat.mod_lt _ hD
  have hlR:=bR (b:=UB) (by decide) R;have hbR:=dK (Nat.le_of_lt hRD);have hzR:=cS R;have hsh:=Fq (R* UB+a) D hD s1 hb;cases Q with
  |nil=>
   simp only[ic];refine ae (r_z 4 ?_);refine au rfl (fun h=>?_) (fun h=>?_);rotate_left;exact absurd h (by simp;omega);refine an (ae (ak (aZ (fun _:Unit=>C0 A D [] (R* UB+a) i) (fun _=>True) ?_ ?_)));by_cases hR0:R=0;subst hR0;have hst1:=ig [a] (by simp);rw[fm (by simpa using ha),show hv [a]=0* UB+a by rw[om,sY];simp] at hst1;rw[nB];refine r_d hmix 10 ?_;refine a_1 ?_;refine o_0 (.append0 rfl rfl rfl te_45.h rfl rfl rfl (.arr (es:=[]) (by simp))) ?_;refine a_2 ?_;refine i_x hai' ?_;refine l_1 hai' ?_;refine a_2 ?_;refine o_1 (.callS1 rfl rfl rfl (.shut rfl d_n (.nil)) rfl ((FSpec.argE hst1 rfl))) ?_;refine a_1 ?_;refine aq (n_k ?_);refine⟨(),trivial,?_⟩;simp only[ic];exact s_e []
   ·have hne:iE (zd R)≠[]:=fun h=>by
     have h1:=congrArg List.length h;rw[py,List.length_nil,List.length_eq_zero_iff] at h1;exact hR0 (zd_eq_nil.1 h1)
    have hd2:∀d∈zd R++[a],d< UB:=fun d hd=>by
     rcases List.mem_append.1 hd with hd|hd
     exact kS R d hd;simp at hd;rw[hd];exact ha
    have hst1:=ig (zd R++[a]) (by simp;omega);rw[fm hd2,oj,mH] at hst1;refine r_d hmix 10 ?_;refine a_1 ?_;refine o_1 (.append_e rfl rfl rfl te_45.h rfl rfl rfl (.arr (kH _)) (by first|assumption|(simp;done)) TZ.h rfl TB.h d_o (by first|(simp[maxLen];done)|(simp[maxLen];omega))) ?_;refine a_2 ?_;refine i_x hai' ?_;refine l_1 hai' ?_;refine a_2 ?_;refine o_1 (.callS1 rfl rfl rfl (.shut rfl d_n (.nil)) rfl ((FSpec.argE hst1 (by rw[List.drop_zero,List.take_of_length_le (by simp)];simp[iE,i64])))) ?_;refine a_1 ?_;refine aq (n_k ?_);refine⟨(),trivial,?_⟩;simp only[ic];exact s_e []
   rintro _ _;simp only[ic];refine r_z 1 ?_;refine r_c 8 (hsh) ?_;refine a_z ?_;refine r_m 5 ?_;refine a_z ?_;refine r_m 3 ?_;refine a_z ?_;refine⟨([(R* UB+a) / D],(R* UB+a) % D,i+1),by simp only;omega,⟨by simp only;omega,by simpa using s4,?_,?_,by simp⟩,?_⟩;simp only;rw[hPs,s2,←hQ,om,sY];simp;simp only;rw[hPs,s3];simp only[fq];exact s_e [(1,6)]
  |cons q Q=>
   simp only[fq];refine ae (r_z 4 ?_);refine au rfl (fun h=>?_) (fun h=>?_);rotate_left;exact absurd h (by simp;omega);refine an (ae (ak (aZ (fun _:Unit=>C0 A D (q::Q) (R* UB+a) i) (fun _=>True) ?_ ?_)));by_cases hR0:R=0;subst hR0;have hst1:=ig [a] (by simp);rw[fm (by simpa using ha),show hv [a]=0* UB+a by rw[om,sY];simp] at hst1;rw[nB];refine r_d hmix 10 ?_;refine a_1 ?_;refine o_0 (.append0 rfl rfl rfl te_45.h rfl rfl rfl (.arr (es:=[]) (by simp))) ?_;refine a_2 ?_;refine i_x hai' ?_;refine l_1 hai' ?_;refine a_2 ?_;refine o_1 (.callS1 rfl rfl rfl (.shut rfl d_n (.nil)) rfl ((FSpec.argE hst1 rfl))) ?_;refine a_1 ?_;refine aq (n_k ?_);refine⟨(),trivial,?_⟩;simp only[fq];exact s_e []
   ·have hne:iE (zd R)≠[]:=fun h=>by
     have h1:=congrArg List.length h;rw[py,List.length_nil,List.length_eq_zero_iff] at h1;exact hR0 (zd_eq_nil.1 h1)
    have hd2:∀d∈zd R++[a],d< UB:=fun d hd=>by
     rcases List.mem_append.1 hd with hd|hd
     exact kS R d hd;simp at hd;rw[hd];exact ha
    have hst1:=ig (zd R++[a]) (by simp;omega);rw[fm hd2,oj,mH] at hst1;refine r_d hmix 10 ?_;refine a_1 ?_;refine o_1 (.append_e rfl rfl rfl te_45.h rfl rfl rfl (.arr (kH _)) (by first|assumption|(simp;done)) TZ.h rfl TB.h d_o (by first|(simp[maxLen];done)|(simp[maxLen];omega))) ?_;refine a_2 ?_;refine i_x hai' ?_;refine l_1 hai' ?_;refine a_2 ?_;refine o_1 (.callS1 rfl rfl rfl (.shut rfl d_n (.nil)) rfl ((FSpec.argE hst1 (by rw[List.drop_zero,List.take_of_length_le (by simp)];simp[iE,i64])))) ?_;refine a_1 ?_;refine aq (n_k ?_);refine⟨(),trivial,?_⟩;simp only[fq];exact s_e []
   rintro _ _;simp only[fq];refine r_z 1 ?_;refine r_c 8 (hsh) ?_;refine a_z ?_;have hQl':Q.length+1≤i:=by simpa using hQl
   refine r_m 5 ?_;refine a_z ?_;refine r_m 3 ?_;refine a_z ?_;refine⟨(q::(Q++[(R* UB+a) / D]),(R* UB+a) % D,i+1),by simp only;omega,⟨by simp only;omega,?_,?_,?_,by simp at hQl⊢;omega⟩,?_⟩;intro d hd;rcases List.mem_append.1 (show d∈(q::Q)++[(R* UB+a) / D] from hd) with hd|hd
   exact hQd d hd;simp at hd;rw[hd];exact s4;simp only;rw[hPs,s2,←hQ,←oj];rfl;simp only;rw[hPs,s3];simp only[fq];have e:iE (q::Q)++List.take 1 (List.drop 0 [[i64 ((R* UB+a) / D:Nat)]])=iE (q::(Q++[(R* UB+a) / D])):=by simp[iE]
   exact s_x [(1,6)] (fun hs=>dj) (fun hs=>e_42) e_5
 have hge:i=(zd A).length:=by omega
 subst hge;rw[List.take_length,mH] at hQ hR;cases Q with
 |nil=>
  simp only[ic];refine ae (r_z 4 ?_);refine au rfl (fun h=>?_) (fun h=>?_);exact absurd h (by simp);refine aB ⟨([],R),⟨hQd,hQ,hR,hQl⟩,?_⟩;simp only[ic];exact s_e []
 |cons q Q=>
  simp only[fq];refine ae (r_z 4 ?_);refine au rfl (fun h=>?_) (fun h=>?_);exact absurd h (by simp);refine aB ⟨(q::Q,R),⟨hQd,hQ,hR,hQl⟩,?_⟩;simp only[fq];exact s_e []
 rintro⟨Q,R⟩ ⟨hQd,hQ,hR,hQl⟩;simp only at hQd hQ hR hQl;have hsq:=ig Q (by omega);rw[fm hQd,hQ] at hsq;subst hR;cases Q with
 |nil=>
  simp only[ic];refine r_c 5 (hsq) ?_;refine a_z ?_;refine am (Fin.many ⟨_,_,rfl,rfl,⟨_,_,rfl,rfl,rfl⟩⟩ (nle rfl) ?_);exact af (ah aE (ez _)) (af (ah aE (ez _)) ay)
 |cons q Q=>
  simp only[fq];have hfull:List.take (Q.length+1) (List.drop 0 (iE (q::Q)))=iE (q::Q):=by rw[List.drop_zero,List.take_of_length_le (by simp)]
  refine s_r 5 ?_;refine a_1 ?_;refine o_1 (.callS1 rfl rfl rfl (.shut rfl d_n (.nil)) rfl ((by rw[hfull];exact hsq))) ?_;refine a_z ?_;refine am (Fin.many ⟨_,_,rfl,rfl,⟨_,_,rfl,rfl,rfl⟩⟩ (nle rfl) ?_);exact af (ah aE (ez _)) (af (ah aE (ez _)) ay)
def zgS:Nat×Nat→AState
 |(p,q)=>⟨[(4,.lptr 1 0 0),(5,.arr (iE (zd p))),(6,.arr (iE (zd q)))],[(1,some ⟨47,2,[[i64 0,.emp]]⟩)],2,48⟩
theorem lc(p:Nat)(q:Nat):zgS (p,q)=⟨[(4,.lptr 1 0 0),(5,.arr (iE (zd p))),(6,.arr (iE (zd q)))],[(1,some ⟨47,2,[[i64 0,.emp]]⟩)],2,48⟩:=rfl
def zgW:Nat×Nat→AState
 |(x,y)=>⟨[(4,.lptr 1 0 0),(7,i64 x),(8,i64 y)],[(1,some ⟨47,2,[[i64 0,.emp]]⟩)],2,48⟩
theorem rH(x:Nat)(y:Nat):zgW (x,y)=⟨[(4,.lptr 1 0 0),(7,i64 x),(8,i64 y)],[(1,some ⟨47,2,[[i64 0,.emp]]⟩)],2,48⟩:=rfl
theorem ur(p q:Nat):Nat.gcd q (p % q)=Nat.gcd p q:=by
 rw[Nat.gcd_comm p q,Nat.gcd_rec q p,Nat.gcd_comm]
theorem uq{n:Nat}(h:(zd n).length≤4):n< 1152921504606846976:=by
 have h1:=Ce (kS n);rw[mH] at h1;exact Nat.lt_of_lt_of_le h1 (Nat.pow_le_pow_right (n:=32768) (j:=4) (by decide) h)
theorem fs_ZGcd(x y:Int)(hx:bl x.natAbs≤4398046511104)(hy:bl y.natAbs≤4398046511104):FS 174 [.agg (zZ x),.agg (zZ y)] (.agg (zZ (Nat.gcd x.natAbs y.natAbs:Nat))):=by
 refine f_c Tryz.func174 ?_;refine r_z 3 ?_;refine ae (r_d hmix 6 ?_);refine a_6 ?_;refine aq (n_k ?_);refine aZ (fun p:Nat=>zgS (p,0)) (fun p=>p=Nat.gcd x.natAbs y.natAbs) ?_ ?_;refine ak (aC zgS (fun v=>v.2) (fun v=>Nat.gcd v.1 v.2=Nat.gcd x.natAbs y.natAbs∧bl v.1≤4398046511104∧bl v.2≤4398046511104) (x.natAbs,y.natAbs) ⟨rfl,hx,hy⟩ ?_ ?_);simp only[lc];exact s_e [(1,4)];rintro⟨p,q⟩ ⟨hg,hp,hq⟩;simp only at hg hp hq;have hzp:=cS p;have hzq:=cS q;have hlp:=bR (b:=UB) (by decide) p;have hlq:=bR (b:=UB) (by decide) q;rw[lc];refine ae (r_z 3 ?_);refine au rfl (fun h=>?_) (fun h=>?_)
 have hq0:0< q:=by
  rcases Nat.eq_zero_or_pos q with e|e
  subst e;rw[nB] at h;simp at h;exact e
 refine an (ak (aZ (fun _:Unit=>zgS (p,q)) (fun _=>True) ?_ ?_));by_cases hl:(zd p).length≤4;by_cases hl2:(zd q).length≤4;have hwp:=uq hl;have hwq:=uq hl2;have hsp:=yo (zd p) hl (kS p);have hsq:=yo (zd q) hl2 (kS q);rw[mH] at hsp hsq;refine s_r 8 ?_;refine a_4 ?_;refine y_g rfl (by simp;omega) (.move rfl) ?_
 first|refine y_g rfl (by simp;omega) (.lenD rfl rfl rfl rfl te_45.h) ?_|refine y_g rfl (by simp;omega) (.lenI rfl rfl rfl rfl te_45.h) ?_|refine y_g rfl (by simp;omega) (.lenP rfl rfl rfl rfl te_45.h) ?_|refine y_g rfl (by simp;omega) (.lenC rfl rfl rfl rfl te_45.h) ?_|refine y_g rfl (by simp;omega) (.lenR rfl rfl rfl rfl te_45.h) ?_|refine y_g rfl (by simp;omega) (.len rfl rfl rfl rfl rfl te_45.h) ?_
 refine y_g rfl (by simp;omega) (.bin rfl rfl fG) ?_;refine o_0 (.pickT rfl (by simp;omega) rfl) ?_;refine aq ?_;refine au rfl (fun h1=>?_) (fun h1=>?_);refine r_c 6 (hsp) ?_;refine c_s (hsq) ?_;refine a_z ?_;refine aZ (fun v:Nat=>zgW (v,0)) (fun v=>v=Nat.gcd x.natAbs y.natAbs) ?_ ?_;refine ak (aC zgW (fun v=>v.2) (fun v=>Nat.gcd v.1 v.2=Nat.gcd x.natAbs y.natAbs∧v.1< 1152921504606846976∧v.2< 1152921504606846976) (p,q) ⟨hg,hwp,hwq⟩ ?_ ?_);simp only[rH];exact s_e [];rintro⟨u,v⟩ ⟨huv,hu,hv⟩;simp only at huv hu hv;rw[rH];refine ae (r_z 2 ?_);refine au rfl (fun h2=>?_) (fun h2=>?_);have hv0:0< v:=by simp at h2;omega
 refine an (ak (r_d hmix 6 ?_));refine a_6 ?_;refine aq (n_k ?_);refine⟨(v,u % v),Nat.mod_lt _ hv0,⟨(ur u v).trans huv,hv,Nat.lt_trans (Nat.mod_lt _ hv0) hv⟩,?_⟩;simp only[rH];exact s_e [];have hv0:v=0:=by simp at h2;omega
 subst hv0;refine aB ⟨u,by simpa using huv,?_⟩;simp only[rH];exact s_e [];rintro v hv;rw[rH]
 have hv64:v< 1152921504606846976:=by
  rw[hv,←hg];have h1:Nat.gcd p q≤q:=Nat.gcd_le_right _ hq0;omega
 refine r_c 3 (oE v (by omega)) ?_;refine a_z ?_;refine am (dG rfl rfl rfl TG.h TS.h (nle rfl) ?_ ?_);rw[←hv];rfl;exact eb _;exact absurd h1 (by simp;omega);refine s_r 8 ?_;refine a_4 ?_;refine y_g rfl (by simp;omega) (.move rfl) ?_
 first|refine y_g rfl (by simp;omega) (.lenD rfl rfl rfl rfl te_45.h) ?_|refine y_g rfl (by simp;omega) (.lenI rfl rfl rfl rfl te_45.h) ?_|refine y_g rfl (by simp;omega) (.lenP rfl rfl rfl rfl te_45.h) ?_|refine y_g rfl (by simp;omega) (.lenC rfl rfl rfl rfl te_45.h) ?_|refine y_g rfl (by simp;omega) (.lenR rfl rfl rfl rfl te_45.h) ?_|refine y_g rfl (by simp;omega) (.len rfl rfl rfl rfl rfl te_45.h) ?_
 refine y_g rfl (by simp;omega) (.bin rfl rfl fG) ?_;refine o_0 (.pickT rfl (by simp;omega) rfl) ?_;refine aq ?_;refine au rfl (fun h=>?_) (fun _=>an ⟨(),trivial,?_⟩);exact absurd h (by simp;omega);simp only[lc];exact s_e [];refine s_r 8 ?_;refine a_4 ?_;refine n_g rfl (by simp;omega) ?_;refine n_g rfl (by simp;omega) ?_;refine n_g rfl (by simp;omega) ?_;refine o_0 (.pickF rfl (by simp;omega) rfl) ?_;refine aq ?_;refine au rfl (fun h=>?_) (fun _=>an ⟨(),trivial,?_⟩);cases h;simp only[lc];exact s_e [];rintro _ _;rw[lc];refine r_c 8 (s9 p q hq0 hp hq) ?_;refine a_z ?_;refine r_m 4 ?_;refine a_z ?_;refine⟨(q,p % q),Nat.mod_lt _ hq0,⟨(ur p q).trans hg,hq,?_⟩,?_⟩;have:=dK (Nat.le_of_lt (Nat.mod_lt p hq0));simp only;omega;simp only[lc];exact s_e []
 have hq0:q=0:=by
  refine zd_eq_nil.1 (List.length_eq_zero_iff.1 ?_);have:=of_decide_eq_false h;omega
 subst hq0;refine aB ⟨p,by simpa using hg,?_⟩;simp only[lc];exact s_e [];rintro p hp;rw[lc]
 have hbp:bl p≤4398046511104:=by
  rw[hp];rcases Nat.eq_zero_or_pos y.natAbs with e|e
  rw[e,Nat.gcd_zero_right];exact hx;exact Nat.le_trans (dK (Nat.gcd_le_right _ e)) hy
 have hzp:=cS p;have hlp:=bR (b:=UB) (by decide) p;refine r_c 3 (ow 1 (zd p) (p:Int) (by omega) (kS p) (by rw[mH,Int.natAbs_natCast]) (fun h=>by unfold sgZ;rw[if_neg h,if_neg (by omega)])) ?_;refine a_z ?_;refine am (dG rfl rfl rfl TG.h TS.h (nle rfl) ?_ ?_);rw[←hp];rfl;exact eb _
theorem Cn(x:RQ)(hx:rok x):FS 50 [.agg (rC x)] (.agg (zZ (x.1.den:Int))):=by
 refine f_c Tryz.func50 ?_;refine r_z 2 ?_;refine ae (r_z 4 ?_);obtain⟨q,f⟩:=x;have hp:=q.den_pos;cases f with
 |true=>
  have h0:q=0:=hx rfl;subst h0;refine au (t:=true) rfl (fun h=>?_) (fun h=>?_);refine r_c 2 (oE 1 (by decide)) ?_;refine a_z ?_;exact am (c_e (eb _));cases h
 |false=>
  refine au rfl (fun h=>?_) (fun h=>?_);exfalso;have h1:sgZ (q.den:Int)=0:=by simpa using h
  rcases fo (q.den:Int) with⟨a,b⟩|⟨a,b⟩|⟨a,b⟩<;> omega
  refine an (r_z 3 ?_);exact am (c_e (eb _))
theorem zd_one:zd 1=[1]:=by
 unfold zd;rw[eR (by decide) (by decide),show 1/ UB=0 by decide,cx];rfl
theorem zZ_one{g:Nat}(h:g=1):zZ (g:Int)=[i64 1,.arr [[i64 1]]]:=by
 subst h;show [i64 (sgZ 1),AV.arr (iE (zd 1))]=_;rw[zd_one];rfl
theorem CO{g:Nat}(h:(zd g).length=1):zd g=[g]:=by
 obtain⟨a,ha⟩:=List.length_eq_one_iff.1 h;have h1:=mH g;rw[ha,om,sY] at h1;simp at h1;rw[ha,h1]
theorem ut{n:Nat}(h:bl n≤4398046511104):(zd n).length≤281474976710656:=by
 rw[cS];have:=bR (b:=UB) (by decide) n;omega
def ratS(n':Int)(D g:Nat):AState:=⟨[(2,.lptr 1 0 0),(3,.lptr 2 0 0),(4,.lptr 3 0 0),(5,.lptr 4 0 0)],[(1,some ⟨47,2,[zZ n']⟩),(2,some ⟨47,2,[zZ (D:Int)]⟩),(3,some ⟨49,4,[[i64 0,.emp,i64 0,.emp]]⟩),(4,some ⟨47,2,[zZ (g:Int)]⟩)],5,57⟩
theorem yE(n d:Int)(hd:d≠0)(hn:bl n.natAbs≤4398046511104)(hb:bl d.natAbs≤4398046511104):FS 118 [.agg (zZ n),.agg (zZ d)] (.agg (rC (rq (Rat.divInt n d)))):=by
 refine f_c Tryz.func118 ?_;refine r_z 3 ?_;refine aZ (fun n':Int=>⟨[(2,.lptr 1 0 0),(3,.lptr 2 0 0),(4,.lptr 3 0 0)],[(1,some ⟨47,2,[zZ n']⟩),(2,some ⟨47,2,[zZ (d.natAbs:Int)]⟩),(3,some ⟨49,4,[[i64 0,.emp,i64 0,.emp]]⟩)],4,57⟩) (fun n'=>n'.natAbs=n.natAbs∧Rat.divInt n d=mkRat n' d.natAbs) ?_ ?_;refine r_z 3 ?_;refine au rfl (fun h=>?_) (fun h=>?_)
 have hneg:d< 0:=by
  have h1:sgZ d< 0:=by simpa using h
  rcases fo d with⟨a,b⟩|⟨a,b⟩|⟨a,b⟩<;> omega
 have e: -d=(d.natAbs:Int):=by omega
 have hdn:=Cr d;rw[e] at hdn;refine r_d hmix 6 ?_;refine c_s (Cr n) ?_;refine c_s (hdn) ?_;refine a_2 ?_;refine aq (n_k ?_);refine⟨-n,⟨by omega,ns n d hneg⟩,?_⟩;exact s_e []
 have hpos:0< d:=by
  have h1:¬sgZ d< 0:=by simpa using h
  rcases fo d with⟨a,b⟩|⟨a,b⟩|⟨a,b⟩<;> omega
 have e:d=(d.natAbs:Int):=by omega
 refine an ⟨n,⟨rfl,nr n d hpos⟩,?_⟩;rw[←e];exact s_e [];rintro n' ⟨hna,hv⟩;have hD:0< d.natAbs:=by omega
 obtain⟨D,hDd⟩:∃D,D=d.natAbs:=⟨_,rfl⟩;rw[hv];rw[←hDd] at hb hD⊢;rw[←hna] at hn;obtain⟨g,hg⟩:∃g,g=Nat.gcd n'.natAbs D:=⟨_,rfl⟩;have hgp:0< g:=by rw[hg];exact Nat.gcd_pos_of_pos_right _ hD
 have hgD:g≤D:=by rw[hg];exact Nat.gcd_le_right _ hD
 have hbg:=dK hgD;have hnum:(mkRat n' D).num.natAbs=n'.natAbs/ g:=by rw[iR hD,eX,hg]
 have hden:(mkRat n' D).den=D/ g:=by rw[(jS hD).2,hg]
 have hsg:=CT (n:=n') hD;have hgc:=fs_ZGcd n' (D:Int) hn (by rw[Int.natAbs_natCast];exact hb);rw[Int.natAbs_natCast,←hg] at hgc
 have hfin:rC (rq (mkRat n' D))=zZ (sgn (decide (n'< 0)) (n'.natAbs/ g))++zZ ((D/ g:Nat):Int):=by
  rw[rC_rq,hden,iR hD,←hg]
 rw[hfin];have hgn:bl (D/ g)≤bl D:=eB D g;have hgn2:bl (n'.natAbs/ g)≤bl n'.natAbs:=eB n'.natAbs g;refine r_c 5 (hgc) ?_;refine a_z ?_;refine aZ (fun _:Unit=>ratS n' D g) (fun _=>g≠1) ?_ ?_;by_cases h1:g=1;rw[zZ_one h1];refine s_r 11 ?_;refine a_5 ?_
 first|refine y_g rfl rfl (.fieldAddr_l rfl TF.h (by decide)) ?_|refine y_g rfl rfl (.fieldAddr_a rfl TF.h (by decide)) ?_
 first|refine y_g rfl rfl (.load_l1 rfl rfl rfl TG.h rfl) ?_|refine y_g rfl rfl (.load_a1 rfl rfl TG.h rfl) ?_
 first|refine y_g rfl rfl (.index_l rfl rfl (by omega) (by omega) te_45.h) ?_|refine y_g rfl rfl (.index_a rfl rfl (by omega) rfl rfl te_45.h) ?_
 first|refine y_g rfl rfl (.load_l1 rfl rfl rfl TG.h rfl) ?_|refine y_g rfl rfl (.load_a1 rfl rfl TG.h rfl) ?_
 refine y_g rfl rfl (.bin rfl rfl aV) ?_;refine o_0 (.pickT rfl rfl rfl) ?_;refine aq ?_;refine au rfl (fun h=>?_) (fun h=>?_);refine r_z 4 ?_;refine am ?_;rw[h1,Nat.div_one,Nat.div_one,show sgn (decide (n'< 0)) n'.natAbs=n' by unfold sgn;by_cases h0:n'< 0 <;> simp[h0]<;> omega];exact c_e (aK fun c hc=>(List.mem_append.1 hc).elim (fv _ c) (fv _ c));exact absurd h (by decide);by_cases hl:(zd g).length=1;have hz:=CO hl;have hz2:zZ (g:Int)=[i64 (sgZ (g:Int)),.arr (iE [g])]:=by show [i64 (sgZ (g:Int)),AV.arr (iE (zd g))]=_;rw[hz]
 rw[hz2];refine s_r 11 ?_;refine a_5 ?_
 first|refine y_g rfl rfl (.fieldAddr_l rfl TF.h (by decide)) ?_|refine y_g rfl rfl (.fieldAddr_a rfl TF.h (by decide)) ?_
 first|refine y_g rfl rfl (.load_l1 rfl rfl rfl TG.h rfl) ?_|refine y_g rfl rfl (.load_a1 rfl rfl TG.h rfl) ?_
 first|refine y_g rfl rfl (.index_l rfl rfl (by omega) (by omega) te_45.h) ?_|refine y_g rfl rfl (.index_a rfl rfl (by omega) rfl rfl te_45.h) ?_
 first|refine y_g rfl rfl (.load_l1 rfl rfl rfl TG.h rfl) ?_|refine y_g rfl rfl (.load_a1 rfl rfl TG.h rfl) ?_
 refine y_g rfl rfl (.bin rfl rfl aV) ?_;refine o_0 (.pickT rfl rfl rfl) ?_;refine aq ?_;refine au rfl (fun h=>?_) (fun h=>?_);exact absurd h (by simp;omega);refine an ⟨(),h1,?_⟩;rw[←hz2];unfold ratS;exact s_e [(4,5)];refine s_r 11 ?_;refine a_5 ?_;refine n_g rfl (by simp;omega) ?_;refine n_g rfl (by simp;omega) ?_;refine n_g rfl (by simp;omega) ?_;refine n_g rfl (by simp;omega) ?_;refine n_g rfl (by simp;omega) ?_;refine o_0 (.pickF rfl (by simp;omega) rfl) ?_;refine aq ?_;refine au rfl (fun h=>?_) (fun h=>?_);exact absurd h (by simp);refine an ⟨(),h1,?_⟩;unfold ratS;exact s_e [(4,5)];rintro _ hg1;unfold ratS;have hzq:=ow (sgZ n') (zd (n'.natAbs/ g)) (sgn (decide (n'< 0)) (n'.natAbs/ g)) (ut (by omega)) (kS _) (by rw[mH,eX]) (fun h=>by rw[←hsg,iR hD,←hg]);have hzd:=ow 1 (zd (D/ g)) ((D/ g:Nat):Int) (ut (by omega)) (kS _) (by rw[mH,Int.natAbs_natCast]) (fun h=>by unfold sgZ;rw[if_neg h,if_neg (by omega)]);refine r_c 10 (s9 n'.natAbs g hgp hn (by omega)) ?_;refine a_z ?_;refine r_c 10 (s9 D g hgp hb (by omega)) ?_;refine a_z ?_;refine r_c 8 (hzq) ?_;refine c_s (hzd) ?_;refine a_z ?_;exact am (c_e (aK fun c hc=>(List.mem_append.1 hc).elim (fv _ c) (fv _ c)))
theorem Bx{z:Int}{k:Nat}(h:bl z.natAbs≤k)(hk:k≤8796093022208):zl z:=Nat.le_trans h hk
theorem fs_rOf(n d:Int)(hd:d≠0)(h: -9223372036854775808≤n∧n≤9223372036854775807)(h2: -9223372036854775808≤d∧d≤9223372036854775807):FS 54 [i64 n,i64 d] (.agg (rC (rq (Rat.divInt n d)))):=by
 have hb:∀z:Int,-9223372036854775808≤z→z≤9223372036854775807→bl z.natAbs≤4398046511104:=fun z h1 h2=>Nat.le_trans (iG (k:=64) (by omega)) (by decide);refine f_c Tryz.func54 ?_;refine r_z 1 ?_;refine r_c 6 (oE n h) ?_;refine c_s (oE d h2) ?_;refine c_s (yE n d hd (hb n h.1 h.2) (hb d h2.1 h2.2)) ?_;refine a_z ?_;exact am (c_e (j7 _))
theorem fs_rMul(x y:RQ)(hx:rok x)(hy:rok y)(h:qs x.1+qs y.1≤1099511627776):FS 52 [.agg (rC x),.agg (rC y)] (.agg (rC (rq (x.1* y.1)))):=by
 obtain⟨a,fa⟩:=x;obtain⟨b,fb⟩:=y;simp only at h⊢;have hp:=pp a b;have h1:=ea a;have h2:=dO a;have h3:=ea b;have h4:=dO b;have e3:=hp.1;have e4:=hp.2;have hd:(a.den:Int) * b.den≠0:=by have:=lQ a b;rw[←Int.natCast_mul];omega
 have e:a* b=Rat.divInt (a.num* b.num) (a.den* b.den):=by
  rw[l5,←Int.natCast_mul,←Rat.divInt_ofNat]
 rw[e];have e5:bl ((a.den:Int) * b.den).natAbs≤qs a+qs b:=by rw[←Int.natCast_mul,Int.natAbs_natCast];exact e4
 refine f_c Tryz.func52 ?_;refine r_z 3 ?_;refine ae (r_d hmix 12 ?_);refine c_s (wA a.num b.num (Bx h1 (by omega)) (Bx h3 (by omega))) ?_;refine c_s (Cn (a,fa) hx) ?_;refine c_s (Cn (b,fb) hy) ?_;refine c_s (wA a.den b.den (Bx (by simpa using h2) (by omega)) (Bx (by simpa using h4) (by omega))) ?_;refine c_s (yE (a.num* b.num) (a.den* b.den) hd (by omega) (by omega)) ?_;refine a_1 ?_;refine aq (n_k ?_);exact am (c_e (j7 _))


def zE(l:List Int):Lc:=l.map fun n=>[i64 n]
theorem ew(l:List Int):∀e∈zE l,∀c∈e,Closed c:=by
 intro e he c hc;obtain⟨n,_,rfl⟩:=List.mem_map.1 he;rw[List.mem_singleton.1 hc];exact ag _
def zR(l:List Int):Lq:=l.map fun(n:Int)=>(n:Rat)
def n4(q:Rat):Nat→Rat
 |0=>q
 |k+1=>n4 q k* q
theorem BZ(q:Rat):∀k,qs (n4 q k)≤(k+1) * qs q
 |0=>by simp[n4]
 |k+1=>by
  have h1:=e8 (n4 q k) q;have h2:=BZ q k;show qs (n4 q k* q)≤_;rw[Nat.add_mul (k+1),Nat.one_mul];omega
def um(D:Int):Int:=if D=0 then 1 else D
def xZ(N D:Int)(p:Nat):Rat:=n4 (Rat.divInt N (um D)) (p % 4)
def nuC(N D:Int)(p:Nat):La:=[i64 N,i64 D,.v (.int .u8 p)]
def oi(n:Int):Prop:= -9223372036854775808≤n∧n≤9223372036854775807
theorem kN(N D:Int)(p:Nat):∀c∈nuC N D p,Closed c:=ac (ag _) (ac (ag _) (ac (ag _) ai))
theorem FU(n d:Int):(n:Rat) / (d:Rat)=Rat.divInt n d:=(Rat.divInt_eq_div n d).symm
def boT(N:Int)(D:Int)(p:Nat)(q:Rat):Nat→AState
 |k=>⟨[(1,.lptr 1 0 0),(2,.lptr 2 0 0),(3,.lptr 3 0 0),(4,.lptr 4 0 0),(6,.lptr 5 0 0),(7,.lptr 6 0 0),(8,.lptr 7 0 0),(9,.v (.int .u8 k))],
  [(1,some ⟨24,3,[nuC N D p]⟩),(2,some ⟨42,3,[zC]⟩),(3,some ⟨49,4,[[i64 0,.emp,i64 0,.emp]]⟩),(4,some ⟨42,3,[qC q]⟩),(5,some ⟨49,4,[rC (rq q)]⟩),(6,some ⟨42,3,[qC (n4 q k)]⟩),(7,some ⟨49,4,[rC (rq (n4 q k))]⟩)],8,44⟩
theorem FH(N D:Int)(p:Nat)(hN:oi N)(hD:oi D)(hp:p≤255):FS 37 [.agg (nuC N D p)] (.tup [.agg (qC (xZ N D p)),.agg (rC (rq (xZ N D p)))]):=by
 obtain⟨d,hd⟩:∃d,d=um D:=⟨_,rfl⟩;have hd0:d≠0:=by rw[hd];unfold um;split <;> omega
 have hdr:oi d:=by
  rw[hd];unfold um oi;unfold oi at hD;split <;> omega
 unfold oi at hN hdr;obtain⟨q,hq⟩:∃q,q=Rat.divInt N d:=⟨_,rfl⟩;have hof:=fs_Of N d hN hdr hd0;rw[FU,←hq] at hof;have hro:=fs_rOf N d hd0 hN hdr;rw[←hq] at hro;have hnv:xZ N D p=n4 q (p % 4):=by unfold xZ;rw[←hd,←hq]
 rw[hnv];refine f_n Tryz.func37 ?_ ?_;exact ac (aK (kN N D p)) ai;refine r_z 3 ?_
 refine aZ (fun _:Unit=>⟨[(1,.lptr 1 0 0),(2,.lptr 2 0 0),(3,.lptr 3 0 0)],
  [(1,some ⟨24,3,[nuC N d p]⟩),(2,some ⟨42,3,[zC]⟩),(3,some ⟨49,4,[[i64 0,.emp,i64 0,.emp]]⟩)],4,44⟩) (fun _=>True) ?_ ?_
 refine r_z 3 ?_;refine au rfl (fun h1=>?_) (fun h1=>?_);have h2:D=0:=by simpa using h1
 have h3:d=1:=by rw[hd];unfold um;rw[if_pos h2]
 refine r_m 2 ?_;refine a_z ?_;refine⟨(),trivial,?_⟩;rw[h3];have:=kN N 1 p;exact s_f [];have h2:¬D=0:=by simpa using h1
 have h3:d=D:=by rw[hd];unfold um;rw[if_neg h2]
 refine an ⟨(),trivial,?_⟩;rw[h3];have:=kN N D p;exact s_f [];rintro _ _;refine r_c 11 (hof) ?_;refine a_z ?_;refine r_c 7 (hro) ?_;refine a_z ?_;refine ae (r_d hmix 6 ?_);refine a_6 ?_;refine aq (n_k ?_);refine ae (r_z 1 ?_)
 have hqs:qs q≤64:=by
  have hb:∀z:Int,-9223372036854775808≤z∧z≤9223372036854775808→bl z.natAbs≤64:=fun z h=>iG (k:=64) (by omega);rw[hq];by_cases hn:d< 0;rw[ns N d hn];exact gf (by omega) (hb (-N) (by omega)) (hb d (by omega));rw[nr N d (by omega)];exact gf (by omega) (hb N (by omega)) (hb d (by omega))
 have hm4:(p:Int) % 4=((p % 4:Nat):Int):=by omega
 refine aH (fun _:Unit=>boT N d p q (p % 4)) (fun _=>True) ?_ ?_;refine ak (aC (boT N d p q) (fun k=>p % 4- k) (fun k=>k≤p % 4) 0 (Nat.zero_le _) ?_ ?_);simp only[boT.eq_1,n4];exact s_f [(4,4),(5,6),(6,7),(7,8)];rintro k hk;rw[boT.eq_1];refine ae (r_z 5 ?_);refine au rfl (fun h=>?_) (fun h=>?_);refine an ?_
 have hlt:k< p % 4:=by
  have h2:(k:Int)< (p:Int) % 4:=by simpa using h
  omega
 have hpk:=BZ q k;have hpk2:(k+1) * qs q≤4* 64:=Nat.mul_le_mul (by omega) hqs;refine ae (ak (r_d hmix 8 ?_));refine c_s (c7 (n4 q k) q (by omega)) ?_;refine c_s (fs_rMul (rq (n4 q k)) (rq q) (Ez _) (Ez _) (by simp only[rq];omega)) ?_;refine a_2 ?_;refine aq (n_k ?_);refine r_m 3 ?_;refine a_z ?_;refine⟨k+1,by omega,hlt,?_⟩;simp only[boT.eq_1];exact s_f []
 have hge:k=p % 4:=by
  have h2:¬(k:Int)< (p:Int) % 4:=by simpa using h
  omega
 subst hge;refine aB ⟨(),trivial,?_⟩;exact s_f [];rintro _ _;rw[boT.eq_1];refine ae (r_d hmix 4 ?_);refine a_4 ?_;refine aq (n_k ?_);refine am (Fin.many ⟨_,_,rfl,⟨_,_,_,_,_,rfl,rfl,rfl,.inl ⟨TG.h,_,TS.h,nle rfl,rfl⟩⟩,⟨_,_,rfl,⟨_,_,_,_,_,rfl,rfl,rfl,.inl ⟨TG.h,_,TS.h,nle rfl,rfl⟩⟩,rfl⟩⟩ (nle rfl) ?_);exact af (ah aE (aM _)) (af (ah aE (j7 _)) ay)
def twP:Lq:=cj [0,1] 2
def fmC(p:Lq)(g:Nat)(cap:La):La:=[.arr (pE p),.clos g [] cap]
def u8v(k:Int):Value:= .int .u8 k
def famK:List Value:=[u8v 1,u8v 2,u8v 3,u8v 4,u8v 5]
def famV:La:=[.agg (fmC [0,1] 220 [bP twP]),.agg (fmC twP 220 [bP twP]),.agg (fmC [0,1] 221 []),.agg (fmC [1,-1] 222 []),.agg (fmC twP 223 [bP twP])]
abbrev famA:AV:= .mp famK famV
theorem dS(p:Lq)(g:Nat){cap:La}(h:∀c∈cap,Closed c):∀c∈fmC p g cap,Closed c:=ac (ao p) (ac (aT ai h) ai)
theorem yP:∀c∈famV,Closed c:=by
 have c1:∀c∈[bP twP],Closed c:=ac (cm _) ai;exact ac (aK (dS _ _ c1)) (ac (aK (dS _ _ c1)) (ac (aK (dS _ _ ai)) (ac (aK (dS _ _ ai)) (ac (aK (dS _ _ c1)) ai))))
def FI:MapTab:=⟨217,.u8,0,7,[(4,1,10,3),(8,2,13,7),(11,3,15,10),(16,4,19,15),(20,5,22,19)],[(21,23),(22,0)]⟩
theorem yz:FS 167 [] famA:=by
 refine f_c Tryz.func167 ?_;refine r_z 1 ?_;refine r_c 5 (fs_x) ?_;refine c_s (cN 2 (by decide)) ?_;refine c_s (ii [0,1] 2 (by decide) (by decide) (by decide)) ?_;refine a_z ?_;refine AWp.ent (st':=⟨[(1,bP twP)],[],2,24⟩) ?_ ?_;exact s_f [];refine r_z 2 ?_;refine ae (AWp.mapRegion FI (vs:=famV) (d:=0) hmix tm_217.h tu_5.h (by kernel_rfl) (by kernel_rfl) (by kernel_rfl) ⟨22,by simp[FI],by decide⟩ (by decide) ?_ ?_)
 ·refine AX.sp rfl rfl ?_
  refine AX.op0 (.call rfl rfl rfl (fs_x)) rfl rfl ?_;refine AX.op0 (.move rfl) rfl rfl ?_;refine AX.op0 (.build TZ.h tp_216.h rfl rfl) rfl rfl ?_;refine AX.spn rfl ?_
  first|refine AX.op0 (.load_l1 rfl rfl rfl TG.h rfl) rfl rfl ?_|refine AX.op0 (.load_a1 rfl rfl TG.h rfl) rfl rfl ?_
  refine AX.op0 (.move rfl) rfl rfl ?_;refine AX.op0 (.build TZ.h tp_216.h rfl rfl) rfl rfl ?_;refine AX.spn rfl ?_;refine AX.op0 (.call rfl rfl rfl (fs_x)) rfl rfl ?_;refine AX.op0 (.build TZ.h tp_216.h rfl rfl) rfl rfl ?_;refine AX.spn rfl ?_;refine AX.op0 (.call rfl rfl rfl (cN 1 (by decide))) rfl rfl ?_;refine AX.op0 (.call rfl rfl rfl (cN (-1) (by decide))) rfl rfl ?_;refine AX.op1 (.buildSlice te_30.h TZ.h rfl (by decide) rfl rfl rfl (by first|(simp;done)|(simp[cK,ofV];done)|rfl)) rfl rfl ?_;refine AX.op0 (.build TZ.h tp_216.h rfl rfl) rfl rfl ?_;refine AX.spn rfl ?_
  first|refine AX.op0 (.load_l1 rfl rfl rfl TG.h rfl) rfl rfl ?_|refine AX.op0 (.load_a1 rfl rfl TG.h rfl) rfl rfl ?_
  refine AX.op0 (.makeFunc rfl rfl) rfl rfl ?_;refine AX.op0 (.build TZ.h tp_216.h rfl rfl) rfl rfl ?_;refine AX.spn rfl ?_;refine AX.sp rfl rfl ?_;refine AX.sp rfl rfl ?_;refine AX.nil ⟨by kernel_rfl,?_⟩;have c1:∀c∈[bP twP],Closed c:=ac (cm _) ai;refine CvS.cons rfl (ah aE (aK (dS _ _ c1))) (CvS.cons rfl (ah aE (aK (dS _ _ c1))) (CvS.cons rfl (ah aE (aK (dS _ _ ai))) (CvS.cons rfl ?_ (CvS.cons rfl (ah aE (aK (dS _ _ c1))) CvS.nil))));exact Cv.agg (af (Cv.sealE aE rfl (fun _ _ h=>by cases h) rfl rfl (aF _)) (af (ah aE (aT ai ai)) ay))
 exact am (t_e (DM yP))
theorem fs_fam1(n:Int)(p last:Lq)(h:lD twP p)(hl:smL last)(h1:(cV twP p).length≤274877906944)(h2:last.length≤274877906944):FS 220 [i64 n,.arr (pE p),.arr (pE last),bP twP] (.arr (pE (fK (cV twP p) last))):=by
 refine f_c Tryz.func220 ?_;refine r_z 1 ?_;refine r_c 6 (wB twP p (mxL twP) (mxL p) (dL _) (dL _) (dy _) (dy _) h.1 h.2.1 h.2.2.1 h.2.2.2) ?_;refine c_s (ni (cV twP p) last (xW h) hl (by omega) (by omega)) ?_;refine a_z ?_;exact am (t_e (ao _))
def chP:Nat→Lq×Lq
 |0=>(fP 1,[0,1])
 |k+1=>((chP k).2,fK (cV twP (chP k).2) (chP k).1)
def EY(k:Nat):Prop:=lD twP (chP k).2∧smL (chP k).1∧(cV twP (chP k).2).length≤274877906944∧(chP k).1.length≤274877906944
instance (k:Nat):Decidable (EY k):=inferInstanceAs (Decidable (_∧_∧_∧_))
def chT(k:Nat):Option La:=some [.arr (pE (chP k).1)]
abbrev bF:AV:= .aptr [fmC [0,1] 220 [bP twP]] 0 0
theorem j8:Closed bF:=aX (dS _ _ (ac (cm _) ai))
theorem Az(K:Nat)(hK:K≤1000000)(hok:∀k,k< K→EY k):GSpecB Tryz.prog 224 [bF] chT K:=by
 refine GSpecB.enter Tryz.func224 rfl (by kernel_rfl) rfl rfl rfl ?_ ?_ rfl ?_;exact ac j8 ai;intro k xs h;cases h;exact ac (ao _) ai;intro ll N hN E;refine GWp.seq ?_;refine GWp.lift ?_;refine r_d hmix 6 ?_;refine c_s (cN 1 (by decide)) ?_;refine c_s (jv 1) ?_;refine a_4 ?_;refine aq (n_k ?_);refine GWp.seq ?_;refine GWp.lift ?_;refine r_m 1 ?_;refine a_z ?_;refine GWp.block ?_;refine GWp.loopS (fun k:Nat=>⟨[(0,.v (.func (.yield ll) #[] #[])),(1,bF),(3,.arr (pE (chP k).1)),(4,.arr (pE (chP k).2)),(5,i64 ((k:Int)+1))],[],1,22⟩) (fun k=>k) (fun k=>N+1- k) (fun k=>k≤N) 0 (Nat.zero_le _) rfl ?_ ?_;exact s_f [];intro k hk;refine GWp.seq ?_;refine GWp.seq ?_;refine GWp.regY (fr2:=[(0,.v (.func (.yield ll) #[] #[])),(1,bF),(3,.arr (pE (chP k).1)),(4,.arr (pE (chP k).2)),(5,i64 ((k:Int)+1)),(10,.v (.func (.yield ll) #[] #[])),(11,.arr (pE (chP k).1))]) (hp2:=[]) (nx2:=2) 2 rfl rfl rfl rfl rfl rfl ?_ rfl rfl rfl ?_ ?_ ?_;refine o_0 (.move rfl) ?_;refine o_0 (.move rfl) ?_;refine aq ?_;exact s_y [] (fun hs=>dj) (fun hs=>jq);rotate_left 2;intro go;refine aq ?_;rotate_left;rfl;exact ac (ao _) ai;cases go with
 |false=>
  refine GWp.cond rfl (fun h=>?_) (fun h=>?_);cases h;exact GWp.exit ⟨.inl rfl,fun h=>by cases h⟩
 |true=>
  refine GWp.bound fun hk1=>?_;refine GWp.cond rfl (fun h=>?_) (fun h=>?_);rotate_left;cases h;refine GWp.skip ?_;obtain⟨o1,o2,o3,o4⟩:=hok k (by omega);refine GWp.lift ?_;refine ae (ak (r_m 9 ?_));refine c_s (fs_fam1 ((k:Int)+1) (chP k).2 (chP k).1 o1 o2 o3 o4) ?_;refine a_z ?_;refine r_m 3 ?_;refine a_z ?_;refine⟨rfl,k+1,by omega,hk1,rfl,?_⟩;exact s_f []
theorem AJ:FS 168 [.agg (fmC [0,1] 220 [bP twP])] (.clos 224 [] [bF]):=by
 have hc:∀c∈fmC [0,1] 220 [bP twP],Closed c:=dS _ _ (ac (cm _) ai);refine f_c Tryz.func168 ?_;refine r_z 2 ?_;refine r_z 2 ?_;refine am (⟨.inr rfl,[_],⟨_,[],rfl,rfl,rfl⟩,?_⟩);exact Cv.clos ay (af (Cv.boxp aE rfl (fun _ _ h=>by cases h) rfl hc) ay)
def jH(n:Nat):Lw:=(List.range n).map fun k=>(chP k).1
theorem vi(n:Nat):jH (n+1)=jH n++[(chP n).1]:=by simp[jH,List.range_succ]
@[simp] theorem chL2_length (n:Nat):(jH n).length=n:=by simp[jH]
def fi0(n:Int):Unit→AState
 |u=>⟨[(1,.lptr 1 0 0),(3,.lptr 2 0 0),(7,.clos 224 [] [bF])],[(1,some ⟨3,1,[[i64 n]]⟩),(2,some ⟨161,1,[[.emp]]⟩)],4,18⟩
def fi1(n:Int):Nat→AState
 |k=>⟨[(1,.lptr 1 0 0),(3,.lptr 2 0 0),(7,.clos 224 [] [bF])],[(1,some ⟨3,1,[[i64 n]]⟩),(2,some ⟨161,1,[[.lsl 3 0 (k+1) none 1]]⟩),(3,some ⟨30,1,cE (jH (k+1))⟩)],4,18⟩
def fiX(z:Nat):Unit→AState
 |u=>⟨[(3,.lptr 1 0 0)],[(1,some ⟨161,1,[[.lsl 2 0 (z+1) none 1]]⟩),(2,some ⟨30,1,cE (jH (z+1))⟩)],4,18⟩
def fiS(n:Int):Nat→AState
 |0=>fi0 n ()
 |k+1=>fi1 n k
theorem mr:Closed (.clos 224 [] [bF]):=aT ai (ac j8 ai)
theorem uS(n:Nat)(hn:n≤1000)(hok:∀k,k< n→EY k):FS 108 [i64 n] (.arr (cE (jH (n+1)))):=by
 have hgs:=Az n (by omega) hok;refine f_c Tryz.func108 ?_;refine r_z 2 ?_;refine r_z 1 ?_;refine ae (r_c 3 (yz) ?_);refine c_s (AJ) ?_;refine aq ?_;refine aH (fiX n) (fun _=>True) ?_ ?_;refine ak (AWp.rangeFuncB (α:=Nat) (γ:=Unit) n (fiS n) (fun k=>k) (fun k=>k≤n) (fiX n) (fun e _=>e= .exit 0) 0 rfl hgs rfl rfl ?_ (fun k=>by cases k <;> exact⟨rfl,rfl⟩) (fun _=>rfl) (Nat.zero_le _) rfl (fun _ h=>h) ?_ ?_ ?_ ?_ ?_);intro k xs hT;cases hT;rfl;show SEntT _ (fi0 n ());rw[fi0.eq_1];refine s_y [(2,3)] (fun hs=>e_18) (fun hs=>?_)
 ·repeat' (first|exact aD|refine h_c ?_ ?_|exact bC|refine aw ?_|exact ay|refine af ?_ ?_|exact ah hs mr|exact aW)
 exact ac j8 ai
 ·intro l k xs hk hT
  cases hT;cases k with
  |zero=>
   show AWp _ _ _ _ ⟨iF (fi0 n ()).fr _ _++ef (fi0 n ()).fr,_,_,_⟩;show AWp _ _ _ _ ⟨[(8,.arr (pE (chP 0).1)),(1,.lptr 1 0 0),(3,.lptr 2 0 0),(7,.clos 224 [] [bF]),(1001,.lptr 1 0 0),(1003,.lptr 2 0 0),(1007,.clos 224 [] [bF])],[(1,some ⟨3,1,[[i64 n]]⟩),(2,some ⟨161,1,[[.emp]]⟩)],4,18⟩;refine r_m 1 ?_;refine a_z ?_;refine ak (s_r 5 ?_);refine a_3 ?_;refine o_1 (.append_e rfl rfl rfl te_161.h rfl rfl rfl (.lsl rfl (nle rfl)) (by first|assumption|(simp;done)) TZ.h rfl TB.h d_o (by first|(simp[maxLen];done)|(simp[maxLen];omega))) ?_;refine a_z ?_;refine r_z 4 ?_;refine au rfl (fun h1=>?_) (fun h1=>?_)
   have h2:n=0:=by
    simp at h1;omega
   subst h2;refine aB (⟨rfl,(),rfl,?_⟩);show SEntT _ ⟨[(1003,.lptr 1 0 0)],[(1,some ⟨161,1,[[.lsl 2 0 (0+1) none 1]]⟩),(2,some ⟨30,1,cE (jH (0+1))⟩)],4,18⟩;have:=(eA [(chP 0).1]);exact s_t [(1,1003),(2,12)]
   have h2:¬n=0:=by
    simp at h1;omega
   refine an (⟨0+1,⟨by omega,rfl⟩,?_⟩);show SEntT _ ⟨[(1001,.lptr 1 0 0),(1003,.lptr 2 0 0),(1007,.clos 224 [] [bF])],[(1,some ⟨3,1,[[i64 n]]⟩),(2,some ⟨161,1,[[.lsl 3 0 (0+1) none 1]]⟩),(3,some ⟨30,1,cE (jH (0+1))⟩)],4,18⟩;refine s_y [(3,12)] (fun hs=>e_18) (fun hs=>?_)
   ·repeat' (first|exact aD|refine h_c ?_ ?_|exact b9 hs (eA [(chP 0).1])|exact bC|refine aw ?_|exact ay|refine af ?_ ?_|exact ah hs mr|exact aW)
  |succ k=>
   show AWp _ _ _ _ ⟨iF (fi1 n k).fr _ _++ef (fi1 n k).fr,_,_,_⟩;show AWp _ _ _ _ ⟨[(8,.arr (pE (chP (k+1)).1)),(1,.lptr 1 0 0),(3,.lptr 2 0 0),(7,.clos 224 [] [bF]),(1001,.lptr 1 0 0),(1003,.lptr 2 0 0),(1007,.clos 224 [] [bF])],[(1,some ⟨3,1,[[i64 n]]⟩),(2,some ⟨161,1,[[.lsl 3 0 (k+1) none 1]]⟩),(3,some ⟨30,1,cE (jH (k+1))⟩)],4,18⟩;refine r_m 1 ?_;refine a_z ?_;refine ak (r_z 5 ?_);refine r_z 4 ?_;refine au rfl (fun h1=>?_) (fun h1=>?_)
   have h2:n=k+1:=by
    simp at h1;omega
   subst h2;refine aB (⟨rfl,(),rfl,?_⟩);show SEntT _ ⟨[(1003,.lptr 1 0 0)],[(1,some ⟨161,1,[[.lsl 2 0 ((k+1)+1) none 1]]⟩),(2,some ⟨30,1,cE (jH ((k+1)+1))⟩)],4,18⟩;refine s_y [(1,1003),(2,12)] (fun hs=>dj) (fun hs=>?_)
   ·repeat' (first|exact aD|refine h_c ?_ ?_|exact aI hs (by rw[vi (k+1),xe];rfl) (eA _)|exact bC)
   have h2:¬n=k+1:=by
    simp at h1;omega
   refine an (⟨k+1+1,⟨by omega,rfl⟩,?_⟩);show SEntT _ ⟨[(1001,.lptr 1 0 0),(1003,.lptr 2 0 0),(1007,.clos 224 [] [bF])],[(1,some ⟨3,1,[[i64 n]]⟩),(2,some ⟨161,1,[[.lsl 3 0 ((k+1)+1) none 1]]⟩),(3,some ⟨30,1,cE (jH ((k+1)+1))⟩)],4,18⟩;refine s_y [(3,12)] (fun hs=>e_18) (fun hs=>?_)
   ·repeat' (first|exact aD|refine h_c ?_ ?_|exact aI hs (by rw[vi (k+1),xe];rfl) (eA _)|exact bC|refine aw ?_|exact ay|refine af ?_ ?_|exact ah hs mr|exact aW)
 intro k hk hT;cases hT;rintro e u rfl;exact⟨u,trivial,SEnt.refl _⟩;rintro u _;rw[fiX.eq_1];refine r_z 2 ?_;exact am (Fin.tmpS rfl rfl rfl (by simp) (eA _))
def okTo(L:Nat)(p t:Lq)(k:Rat)(n:Nat):Prop:=n< L∧smL p∧smL t∧aS t≠0∧sm k∧smL (cj t k)∧p.length≤274877906944∧t.length≤274877906944
instance (L:Nat) (p t:Lq) (k:Rat) (n:Nat):Decidable (okTo L p t k n):=inferInstanceAs (Decidable (_∧_∧_∧_∧_∧_∧_∧_))
def toM:Nat→Lq→Lq→Option Lq
 |0,_,_=>none
 |f+1,p,out=>if av p=[] then(if p.length≤1099511627776 then some out else none) else
  let n:=(av p).length- 1
  let t:=(chP n).1
  let k:=aS p/ aS t
  if okTo out.length p t k n then toM f (fK p (cj t k)) (out.set n k) else none
def nI(f:Nat)(p:Lq):Option Lq:=
 if p.length≤1000∧(av p).length≤41∧(∀k,k< (av p).length→EY k) then toM f (av p) (List.replicate (av p).length 0) else none
def toS(ts:Lw):Lq×Lq→AState
 |(p,out)=>⟨[(0,.arr (pE p)),(4,.lsl 1 0 out.length (some out.length) 3),(5,.arr (cE ts)),(6,i64 (ct p))],[(1,some ⟨42,3,pE out⟩)],2,47⟩
theorem AT(f:Nat)(p r:Lq)(h:nI f p=some r):FS 43 [.arr (pE p)] (.tup [.arr (pE r),i64 0]):=by
 unfold nI at h;split at h
 case isFalse=>cases h
 case isTrue hp=>
 obtain⟨hp1,hp2,hp3⟩:=hp;have htl:=ci p;obtain⟨q,hq⟩:∃q,q=av p:=⟨_,rfl⟩;rw[←hq] at h hp2 hp3 htl;have hql:q.length≤41:=hp2;refine f_c Tryz.func43 ?_;refine r_z 2 ?_;have htr:=cY p (by omega);rw[←hq] at htr;refine r_c 3 (htr) ?_;refine a_z ?_;refine ae (r_c 3 (bZ q (by omega)) ?_);refine a_z ?_;refine au rfl (fun h1=>?_) (fun h1=>?_);have h2:(40:Int)< ct q:=by simpa using h1
 have h3:=ci q;unfold ct at h2;omega;refine an (s_r 4 ?_);refine a_2 ?_;refine o_1 (.makeSlice (l:=q.length) (c:=q.length) rfl rfl te_29.h TZ.h rfl TB.h (by first|omega|(simp;done)|(simp;omega)) (by first|omega|(simp;done)|(simp;omega)) (by unfold maxLen;first|omega|(simp;done)|(simp;omega))) ?_;refine a_z ?_;refine r_c 4 (uS q.length (by omega) hp3) ?_;refine a_z ?_;refine ae (r_c 3 (bZ q (by omega)) ?_);refine a_z ?_;refine aH (fun _:Unit=>⟨[(4,.lsl 1 0 r.length (some r.length) 3)],[(1,some ⟨42,3,pE r⟩)],2,47⟩) (fun _=>True) ?_ ?_;refine ak (aC (fun x:Nat×Lq×Lq=>toS (jH (q.length+1)) x.2) (fun x=>x.1) (fun x=>toM x.1 x.2.1 x.2.2=some r∧x.2.2.length=q.length∧x.2.1.length≤1099511627776) (f,q,List.replicate q.length 0) ⟨h,by simp,by simp only;omega⟩ ?_ ?_);simp only[toS.eq_1,List.length_replicate];refine s_x [(1,4)] (fun hs=>e_43) (fun hs=>?_)
 ·repeat' (first|exact aD|refine h_c ?_ ?_|exact CvLL.zeros hs _|exact bC|refine aw ?_|exact ay|refine af ?_ ?_|exact ah hs (fw _)|exact aW)
 rintro⟨k,p,out⟩ ⟨h,ho,hpl⟩;simp only at h ho hpl;simp only[toS.eq_1];cases k with
 |zero=>cases h
 |succ k=>
  rw[toM] at h;refine ae (r_z 2 ?_);refine au rfl (fun h1=>?_) (fun h1=>?_)
  ·have h0:av p≠[]:=by
    intro e;have e2:=degP_neg.2 e;simp at h1;omega
   rw[if_neg h0] at h;simp only at h;split at h
   case isFalse=>cases h
   case isTrue hk=>
   obtain⟨n,hn⟩:∃n,n=(av p).length- 1:=⟨_,rfl⟩;obtain⟨t,ht⟩:∃t,t=(chP n).1:=⟨_,rfl⟩;obtain⟨x,hx⟩:∃x,x=aS p/ aS t:=⟨_,rfl⟩;rw[←hn,←ht,←hx] at h hk;obtain⟨k1,k2,k3,k4,k5,k6,k7,k8⟩:=hk
   have hdn:ct p=(n:Int):=by
    unfold ct;have:=List.length_pos_iff.2 h0;omega
   have hov:=fE (aS p) (aS t) k4 (by have e1:=sX k2;have e2:=sX k3;unfold sm at e1 e2;omega);rw[←hx] at hov
   have hgt:(cE (jH (q.length+1)))[((n:Nat):Int).toNat]?=some [.arr (pE t)]:=by
    refine tY ?_;rw[Int.toNat_natCast,ht,jH,List.getElem?_map,List.getElem?_range (by omega)];rfl
   have hsl:=eY t x
   have hgo:(pE (out.set n x))[0+((n:Nat):Int).toNat]?=some (qC x):=by
    rw[show 0+((n:Nat):Int).toNat=n by omega];exact bK (by rw[List.getElem?_set,if_pos rfl,if_pos k1])
   have hst:(pE out).set (0+((n:Nat):Int).toNat) (qC x)=pE (out.set n x):=by
    rw[show 0+((n:Nat):Int).toNat=n by omega,jD]
   have hlo:(out.set n x).length=out.length:=by simp
   have hg0:(pE out)[0+((n:Nat):Int).toNat]?=some (qC (coP out n)):=by
    rw[show 0+((n:Nat):Int).toNat=n by omega];exact bK (bm k1)
   have hsb:(fK p (cj t x)).length≤1099511627776:=by
    have h1:=Gm p (cj (cj t x) (-1));have h2:=eY (cj t x) (-1);unfold fK;omega
   rw[hdn];refine an (ae (ak (ae (r_d hmix 12 ?_))));refine c_s (kK p (by omega)) ?_;refine a_2 ?_;refine i_x hgt ?_;refine l_1 hgt ?_;refine c_s (kK t (by omega)) ?_;refine c_s (hov) ?_;refine a_1 ?_;refine ep (.store rfl rfl hg0 rfl rfl rfl TS.h (nle rfl)) ?_;refine aq (n_k ?_);refine AWp.ent (st':=⟨[(0,.arr (pE p)),(4,.lsl 1 0 out.length (some out.length) 3),(5,.arr (cE (jH (q.length+1)))),(6,i64 n)],[(1,some ⟨42,3,pE (out.set n x)⟩)],2,47⟩) ?_ ?_;refine s_x [] (fun hs=>e_43) (fun hs=>?_) e_5
   ·repeat' (first|exact aD|refine h_c ?_ ?_|exact aI hs hst (aF _)|exact bC|refine aw ?_|exact ay|refine af ?_ ?_|exact ah hs (fw _)|exact aW)
   refine r_d hmix 12 ?_;refine a_3 ?_;refine i_x hgt ?_;refine l_1 hgt ?_;refine a_3 ?_
   first|refine ax (.load_l rfl rfl hgo TG.h TS.h (nle rfl)) rfl rfl ?_|refine ax (.load_a rfl hgo TG.h TS.h (nle rfl)) rfl rfl ?_
   refine c_s (ii t x k3 k5 (by omega)) ?_;refine c_s (ni p (cj t x) k2 k6 (by omega) (by omega)) ?_;refine a_1 ?_;refine aq (n_k ?_);refine r_m 3 ?_;refine c_s (bZ (fK p (cj t x)) hsb) ?_;refine a_z ?_;refine⟨(k,fK p (cj t x),out.set n x),Nat.lt_succ_self k,⟨h,by simp only;omega,hsb⟩,?_⟩;simp only[toS.eq_1,hlo];exact s_f []
  have h0:av p=[]:=by
   refine degP_neg.1 ?_;simp at h1;omega
  rw[if_pos h0,if_pos hpl] at h;cases h;refine aB ⟨(),trivial,?_⟩;exact s_e []
 rintro _ _;refine r_z 3 ?_;refine am (Fin.many ⟨_,_,rfl,rfl,⟨_,_,rfl,rfl,rfl⟩⟩ (nle rfl) ?_);exact af (Cv.sealE aE rfl (fun _ _ h=>by cases h) rfl (by simp) (aF r)) (af (ah aE (ag _)) ay)

inductive LeLL:Lc→Lc→Prop
 |nil:LeLL [] []
 |cons {e e' es es'}:LeL e e'→LeLL es es'→LeLL (e::es) (e'::es')
section
variable {P:Go.Program}{T:Nat}{x y:Operand}
end
end Go.Proofs.YtjgokhkahkmpbaaGreatDoor
