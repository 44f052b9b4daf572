/- Part X26 of the proof. -/
import Derived.Test.YtjgokhkahkmpbaaGreatDoorX25
set_option linter.all false
namespace Go.Proofs.YtjgokhkahkmpbaaGreatDoor
open Go.Abs
set_option maxRecDepth 20000
def Df(A D:Nat):Ln→Nat→Nat→AState
 |[],R,i=>⟨[(0,.arr (iE (zd A))),(1,.arr (iE (zd D))),(6,.emp),(7,.arr (iE (zd R))),(8,i64 i)],[],1,54⟩
 |q::Q,R,i=>⟨[(0,.arr (iE (zd A))),(1,.arr (iE (zd D))),(6,.lsl 1 0 (Q.length+1) none 1),(7,.arr (iE (zd R))),(8,i64 i)],[(1,some ⟨3,1,iE (q::Q)⟩)],2,54⟩
theorem iv(A D R i:Nat):Df A D [] R i=⟨[(0,.arr (iE (zd A))),(1,.arr (iE (zd D))),(6,.emp),(7,.arr (iE (zd R))),(8,i64 i)],[],1,54⟩:=rfl
theorem fF(A D:Nat)(q:Nat)(Q:Ln)(R i:Nat):Df A D (q::Q) R i=⟨[(0,.arr (iE (zd A))),(1,.arr (iE (zd D))),(6,.lsl 1 0 (Q.length+1) none 1),(7,.arr (iE (zd R))),(8,i64 i)],[(1,some ⟨3,1,iE (q::Q)⟩)],2,54⟩:=rfl
theorem EA{P D R a:Nat}(hD:0< D)(hR:R=P % D)(ha:a< UB):R* UB+a< UB* D∧(P* UB+a) / D=P/ D* UB+(R* UB+a) / D∧(P* UB+a) % D=(R* UB+a) % D∧(R* UB+a) / D< UB:=by
 have h1:=Nat.div_add_mod P D;have h2:=Nat.mod_lt P hD;rw[←hR] at h1 h2
 have h3:R* UB+a< UB* D:=by
  have:(R+1) * UB≤D* UB:=Nat.mul_le_mul_right _ h2;rw[Nat.add_mul,Nat.one_mul,Nat.mul_comm D] at this;omega
 have h4:P* UB+a=D* (P/ D* UB)+(R* UB+a):=by
  conv=>lhs;rw[←h1]
  rw[Nat.add_mul,Nat.mul_assoc,Nat.add_assoc]
 refine⟨h3,?_,?_,?_⟩;rw[h4,Nat.mul_add_div hD];rw[h4,Nat.mul_add_mod];rw[Nat.div_lt_iff_lt_mul hD];exact h3
theorem pg(A D:Nat)(hD:0< D)(hA:bl A≤4398046511104)(hb:bl D≤4398046511104):FS 175 [.arr (iE (zd A)),.arr (iE (zd D))] (.tup [.arr (iE (zd (A/ D))),.arr (iE (zd (A % D)))]):=by
 have hzA:=cI A;have hzD:=cI D;have hlD:=bu (b:=UB) (by decide) D;have hlA:=bu (b:=UB) (by decide) A;obtain⟨n,hn⟩:∃n,n=(zd D).length:=⟨_,rfl⟩
 have hn1:1≤n:=by
  have:zd D≠[]:=fun h=>by have:=zd_eq_nil.1 h;omega
  have:=List.length_pos_iff.2 this;omega
 have hDn:UB^ (n- 1)≤D:=by
  rcases rf (b:=UB) (n:=D) (by decide) with h|h
  rwa[←hzD,←hn] at h;omega
 refine f_c Tryz.func175 ?_;refine r_z 2 ?_;refine ac (r_z 5 ?_);refine aq rfl (fun h=>?_) (fun h=>?_);have hlt:(zd A).length< (zd D).length:=by have:=of_decide_eq_true h;omega
 have hAD:A< D:=jm (b:=UB) (by decide) (by omega);refine r_z 3 ?_;refine aj (Fin.many ⟨_,_,rfl,rfl,⟨_,_,rfl,rfl,rfl⟩⟩ (nle rfl) ?_);rw[Nat.div_eq_of_lt hAD,Nat.mod_eq_of_lt hAD,mB];exact af (Cv.emp _) (af (ah aB (eK _)) ax);have hge:n≤(zd A).length:=by have:=of_decide_eq_false h;omega
 refine ak (r_z 1 ?_);obtain⟨P0,hP0⟩:∃P0,P0=hv ((zd A).take (n- 1)):=⟨_,rfl⟩
 have hP0D:P0< D:=by
  have h1:=CE (l:=(zd A).take (n- 1)) fun d hd=>iV A d (List.mem_of_mem_take hd);rw[←hP0] at h1;have h2:UB^ ((zd A).take (n- 1)).length≤UB^ (n- 1):=Nat.pow_le_pow_right (by decide) (by simp;omega);omega
 have hst:=iy ((zd A).take (n- 1)) (by simp;omega);rw[fE (fun d hd=>iV A d (List.mem_of_mem_take hd)),←hP0] at hst;refine aU (fun _:Unit=>⟨[(0,.arr (iE (zd A))),(1,.arr (iE (zd D))),(6,.emp),(7,.arr (iE (zd P0)))],[],1,54⟩) (fun _=>True) ?_ ?_;by_cases hn2:n=1;rw[hn2] at hst;refine r_m 8 ?_;refine a_4 ?_;refine o_0 (.sa_h rfl rfl (h:=0) (by omega) (by simp) te_45.h (lA _)) ?_;refine o_0 (.append0 rfl rfl rfl te_45.h rfl rfl rfl (.arr (es:=[]) (by simp))) ?_;refine c_s (hst) ?_;refine a_z ?_;refine⟨(),trivial,?_⟩;exact s_e []
 ·have hne:(iE (zd A)).take (n- 1)≠[]:=fun h=>by
   have:=congrArg List.length h;rw[List.length_take,qk,List.length_nil] at this;omega
  have hfull:List.take ((iE (zd A)).take (n- 1)).length (List.drop 0 ((iE (zd A)).take (n- 1)))=iE ((zd A).take (n- 1)):=by rw[List.drop_zero,List.take_length,iE_take]
  refine r_m 8 ?_;refine a_4 ?_;refine o_0 (.sa_h rfl rfl (h:=n- 1) (by omega) (by simp;omega) te_45.h (lA _)) ?_;refine o_1 (.append_e rfl rfl rfl te_45.h rfl rfl rfl (.arr (fun e he=>lA _ e (List.mem_of_mem_take he))) (by first|assumption|(simp;done)) TZ.h rfl TB.h d_o (by first|(simp[maxLen];done)|(simp[maxLen];omega))) ?_;refine o_1 (.callS1 rfl rfl rfl (.shut rfl d_n (.nil)) rfl ((by rw[hfull];exact hst))) ?_;refine a_z ?_;refine⟨(),trivial,?_⟩;exact s_e []
 rintro _ _;refine ac (r_z 4 ?_);refine aI (fun x:Ln×Nat=>Df A D x.1 x.2 (zd A).length) (fun x=>(∀d∈x.1,d< UB)∧hv x.1=A/ D∧x.2=A % D∧x.1.length≤(zd A).length) ?_ ?_;refine am (aC (fun x:Ln×Nat×Nat=>Df A D x.1 x.2.1 x.2.2) (fun x=>(zd A).length- x.2.2) (fun x=>x.2.2≤(zd A).length∧(∀d∈x.1,d< UB)∧hv x.1=hv ((zd A).take x.2.2) / D∧x.2.1=hv ((zd A).take x.2.2) % D∧x.1.length≤x.2.2) ([],P0,n- 1) ⟨by simp only;omega,by simp,by simp only;rw[←hP0,Nat.div_eq_of_lt hP0D];rfl,by simp only;rw[←hP0,Nat.mod_eq_of_lt hP0D],by simp⟩ ?_ ?_);simp only[iv];exact s_e [];rintro⟨Q,R,i⟩ ⟨hi,hQd,hQ,hR,hQl⟩;simp only at hi hQd hQ hR hQl
 -- the head,whatever the quotient so far
 by_cases hlt:i< (zd A).length
 ·obtain⟨a,hai⟩:∃a,(zd A)[i]?=some a:=⟨_,List.getElem?_eq_getElem hlt⟩
  have ha:a< UB:=iV A a (List.mem_of_getElem? hai);have hai':(iE (zd A))[((i:Nat):Int).toNat]?=some [i64 a]:=jW hai;have hPs:hv ((zd A).take (i+1))=hv ((zd A).take i) * UB+a:=by rw[dA hai,oX]
  obtain⟨P,hP⟩:∃P,P=hv ((zd A).take i):=⟨_,rfl⟩;rw[←hP] at hQ hR hPs;obtain⟨s1,s2,s3,s4⟩:=EA hD hR ha;have hRD:R< D:=by rw[hR];exact Nat.mod_lt _ hD
  have hlR:=bu (b:=UB) (by decide) R;have hbR:=dw (Nat.le_of_lt hRD);have hzR:=cI R;have hsh:=Fm (R* UB+a) D hD s1 hb;cases Q with
  |nil=>
   simp only[iv];refine ac (r_z 4 ?_);refine aq rfl (fun h=>?_) (fun h=>?_);rotate_left;exact absurd h (by simp;omega);refine ak (ac (am (aU (fun _:Unit=>Df A D [] (R* UB+a) i) (fun _=>True) ?_ ?_)));by_cases hR0:R=0;subst hR0;have hst1:=iy [a] (by simp);rw[fE (by simpa using ha),show hv [a]=0* UB+a by rw[oY,tu];simp] at hst1;rw[mB];refine r_d hmix 10 ?_;refine a_1 ?_;refine o_0 (.append0 rfl rfl rfl te_45.h rfl rfl rfl (.arr (es:=[]) (by simp))) ?_;refine a_2 ?_;refine i_x hai' ?_;refine l_1 hai' ?_;refine a_2 ?_;refine o_1 (.callS1 rfl rfl rfl (.shut rfl d_n (.nil)) rfl ((FSpec.argE hst1 rfl))) ?_;refine a_1 ?_;refine an (n_k ?_);refine⟨(),trivial,?_⟩;simp only[iv];exact s_e []
   ·have hne:iE (zd R)≠[]:=fun h=>by
     have h1:=congrArg List.length h;rw[qk,List.length_nil,List.length_eq_zero_iff] at h1;exact hR0 (zd_eq_nil.1 h1)
    have hd2:∀d∈zd R++[a],d< UB:=fun d hd=>by
     rcases List.mem_append.1 hd with hd|hd
     exact iV R d hd;simp at hd;rw[hd];exact ha
    have hst1:=iy (zd R++[a]) (by simp;omega);rw[fE hd2,oX,jM] at hst1;refine r_d hmix 10 ?_;refine a_1 ?_;refine o_1 (.append_e rfl rfl rfl te_45.h rfl rfl rfl (.arr (lA _)) (by first|assumption|(simp;done)) TZ.h rfl TB.h d_o (by first|(simp[maxLen];done)|(simp[maxLen];omega))) ?_;refine a_2 ?_;refine i_x hai' ?_;refine l_1 hai' ?_;refine a_2 ?_;refine o_1 (.callS1 rfl rfl rfl (.shut rfl d_n (.nil)) rfl ((FSpec.argE hst1 (by rw[List.drop_zero,List.take_of_length_le (by simp)];simp[iE,i64])))) ?_;refine a_1 ?_;refine an (n_k ?_);refine⟨(),trivial,?_⟩;simp only[iv];exact s_e []
   rintro _ _;simp only[iv];refine r_z 1 ?_;refine r_c 8 (hsh) ?_;refine a_z ?_;refine r_m 5 ?_;refine a_z ?_;refine r_m 3 ?_;refine a_z ?_;refine⟨([(R* UB+a) / D],(R* UB+a) % D,i+1),by simp only;omega,⟨by simp only;omega,by simpa using s4,?_,?_,by simp⟩,?_⟩;simp only;rw[hPs,s2,←hQ,oY,tu];simp;simp only;rw[hPs,s3];simp only[fF];exact s_e [(1,6)]
  |cons q Q=>
   simp only[fF];refine ac (r_z 4 ?_);refine aq rfl (fun h=>?_) (fun h=>?_);rotate_left;exact absurd h (by simp;omega);refine ak (ac (am (aU (fun _:Unit=>Df A D (q::Q) (R* UB+a) i) (fun _=>True) ?_ ?_)));by_cases hR0:R=0;subst hR0;have hst1:=iy [a] (by simp);rw[fE (by simpa using ha),show hv [a]=0* UB+a by rw[oY,tu];simp] at hst1;rw[mB];refine r_d hmix 10 ?_;refine a_1 ?_;refine o_0 (.append0 rfl rfl rfl te_45.h rfl rfl rfl (.arr (es:=[]) (by simp))) ?_;refine a_2 ?_;refine i_x hai' ?_;refine l_1 hai' ?_;refine a_2 ?_;refine o_1 (.callS1 rfl rfl rfl (.shut rfl d_n (.nil)) rfl ((FSpec.argE hst1 rfl))) ?_;refine a_1 ?_;refine an (n_k ?_);refine⟨(),trivial,?_⟩;simp only[fF];exact s_e []
   ·have hne:iE (zd R)≠[]:=fun h=>by
     have h1:=congrArg List.length h;rw[qk,List.length_nil,List.length_eq_zero_iff] at h1;exact hR0 (zd_eq_nil.1 h1)
    have hd2:∀d∈zd R++[a],d< UB:=fun d hd=>by
     rcases List.mem_append.1 hd with hd|hd
     exact iV R d hd;simp at hd;rw[hd];exact ha
    have hst1:=iy (zd R++[a]) (by simp;omega);rw[fE hd2,oX,jM] at hst1;refine r_d hmix 10 ?_;refine a_1 ?_;refine o_1 (.append_e rfl rfl rfl te_45.h rfl rfl rfl (.arr (lA _)) (by first|assumption|(simp;done)) TZ.h rfl TB.h d_o (by first|(simp[maxLen];done)|(simp[maxLen];omega))) ?_;refine a_2 ?_;refine i_x hai' ?_;refine l_1 hai' ?_;refine a_2 ?_;refine o_1 (.callS1 rfl rfl rfl (.shut rfl d_n (.nil)) rfl ((FSpec.argE hst1 (by rw[List.drop_zero,List.take_of_length_le (by simp)];simp[iE,i64])))) ?_;refine a_1 ?_;refine an (n_k ?_);refine⟨(),trivial,?_⟩;simp only[fF];exact s_e []
   rintro _ _;simp only[fF];refine r_z 1 ?_;refine r_c 8 (hsh) ?_;refine a_z ?_;have hQl':Q.length+1≤i:=by simpa using hQl
   refine r_m 5 ?_;refine a_z ?_;refine r_m 3 ?_;refine a_z ?_;refine⟨(q::(Q++[(R* UB+a) / D]),(R* UB+a) % D,i+1),by simp only;omega,⟨by simp only;omega,?_,?_,?_,by simp at hQl⊢;omega⟩,?_⟩;intro d hd;rcases List.mem_append.1 (show d∈(q::Q)++[(R* UB+a) / D] from hd) with hd|hd
   exact hQd d hd;simp at hd;rw[hd];exact s4;simp only;rw[hPs,s2,←hQ,←oX];rfl;simp only;rw[hPs,s3];simp only[fF];have e:iE (q::Q)++List.take 1 (List.drop 0 [[i64 ((R* UB+a) / D:Nat)]])=iE (q::(Q++[(R* UB+a) / D])):=by simp[iE]
   exact s_x [(1,6)] (fun hs=>db) (fun hs=>e_41) e_1
 have hge:i=(zd A).length:=by omega
 subst hge;rw[List.take_length,jM] at hQ hR;cases Q with
 |nil=>
  simp only[iv];refine ac (r_z 4 ?_);refine aq rfl (fun h=>?_) (fun h=>?_);exact absurd h (by simp);refine aA ⟨([],R),⟨hQd,hQ,hR,hQl⟩,?_⟩;simp only[iv];exact s_e []
 |cons q Q=>
  simp only[fF];refine ac (r_z 4 ?_);refine aq rfl (fun h=>?_) (fun h=>?_);exact absurd h (by simp);refine aA ⟨(q::Q,R),⟨hQd,hQ,hR,hQl⟩,?_⟩;simp only[fF];exact s_e []
 rintro⟨Q,R⟩ ⟨hQd,hQ,hR,hQl⟩;simp only at hQd hQ hR hQl;have hsq:=iy Q (by omega);rw[fE hQd,hQ] at hsq;subst hR;cases Q with
 |nil=>
  simp only[iv];refine r_c 5 (hsq) ?_;refine a_z ?_;refine aj (Fin.many ⟨_,_,rfl,rfl,⟨_,_,rfl,rfl,rfl⟩⟩ (nle rfl) ?_);exact af (ah aB (eK _)) (af (ah aB (eK _)) ax)
 |cons q Q=>
  simp only[fF];have hfull:List.take (Q.length+1) (List.drop 0 (iE (q::Q)))=iE (q::Q):=by rw[List.drop_zero,List.take_of_length_le (by simp)]
  refine s_r 5 ?_;refine a_1 ?_;refine o_1 (.callS1 rfl rfl rfl (.shut rfl d_n (.nil)) rfl ((by rw[hfull];exact hsq))) ?_;refine a_z ?_;refine aj (Fin.many ⟨_,_,rfl,rfl,⟨_,_,rfl,rfl,rfl⟩⟩ (nle rfl) ?_);exact af (ah aB (eK _)) (af (ah aB (eK _)) ax)
def zgS:Nat×Nat→AState
 |(p,q)=>⟨[(4,.lptr 1 0 0),(5,.arr (iE (zd p))),(6,.arr (iE (zd q)))],[(1,some ⟨47,2,[[i64 0,.emp]]⟩)],2,48⟩
theorem lW(p:Nat)(q:Nat):zgS (p,q)=⟨[(4,.lptr 1 0 0),(5,.arr (iE (zd p))),(6,.arr (iE (zd q)))],[(1,some ⟨47,2,[[i64 0,.emp]]⟩)],2,48⟩:=rfl
def zgW:Nat×Nat→AState
 |(x,y)=>⟨[(4,.lptr 1 0 0),(7,i64 x),(8,i64 y)],[(1,some ⟨47,2,[[i64 0,.emp]]⟩)],2,48⟩
theorem r9(x:Nat)(y:Nat):zgW (x,y)=⟨[(4,.lptr 1 0 0),(7,i64 x),(8,i64 y)],[(1,some ⟨47,2,[[i64 0,.emp]]⟩)],2,48⟩:=rfl
theorem uI(p q:Nat):Nat.gcd q (p % q)=Nat.gcd p q:=by
 rw[Nat.gcd_comm p q,Nat.gcd_rec q p,Nat.gcd_comm]
theorem uH{n:Nat}(h:(zd n).length≤4):n< 1152921504606846976:=by
 have h1:=CE (iV n);rw[jM] at h1;exact Nat.lt_of_lt_of_le h1 (Nat.pow_le_pow_right (n:=32768) (j:=4) (by decide) h)
theorem fs_ZGcd(x y:Int)(hx:bl x.natAbs≤4398046511104)(hy:bl y.natAbs≤4398046511104):FS 174 [.agg (zZ x),.agg (zZ y)] (.agg (zZ (Nat.gcd x.natAbs y.natAbs:Nat))):=by
 refine f_c Tryz.func174 ?_;refine r_z 3 ?_;refine ac (r_d hmix 6 ?_);refine a_6 ?_;refine an (n_k ?_);refine aU (fun p:Nat=>zgS (p,0)) (fun p=>p=Nat.gcd x.natAbs y.natAbs) ?_ ?_;refine am (aC zgS (fun v=>v.2) (fun v=>Nat.gcd v.1 v.2=Nat.gcd x.natAbs y.natAbs∧bl v.1≤4398046511104∧bl v.2≤4398046511104) (x.natAbs,y.natAbs) ⟨rfl,hx,hy⟩ ?_ ?_);simp only[lW];exact s_e [(1,4)];rintro⟨p,q⟩ ⟨hg,hp,hq⟩;simp only at hg hp hq;have hzp:=cI p;have hzq:=cI q;have hlp:=bu (b:=UB) (by decide) p;have hlq:=bu (b:=UB) (by decide) q;rw[lW];refine ac (r_z 3 ?_);refine aq rfl (fun h=>?_) (fun h=>?_)
 have hq0:0< q:=by
  rcases Nat.eq_zero_or_pos q with e|e
  subst e;rw[mB] at h;simp at h;exact e
 refine ak (am (aU (fun _:Unit=>zgS (p,q)) (fun _=>True) ?_ ?_));by_cases hl:(zd p).length≤4;by_cases hl2:(zd q).length≤4;have hwp:=uH hl;have hwq:=uH hl2;have hsp:=tw (zd p) hl (iV p);have hsq:=tw (zd q) hl2 (iV q);rw[jM] at hsp hsq;refine s_r 8 ?_;refine a_4 ?_;refine y_g rfl (by simp;omega) (.move rfl) ?_
 first|refine y_g rfl (by simp;omega) (.lenD rfl rfl rfl rfl te_45.h) ?_|refine y_g rfl (by simp;omega) (.lenI rfl rfl rfl rfl te_45.h) ?_|refine y_g rfl (by simp;omega) (.lenP rfl rfl rfl rfl te_45.h) ?_|refine y_g rfl (by simp;omega) (.lenC rfl rfl rfl rfl te_45.h) ?_|refine y_g rfl (by simp;omega) (.lenR rfl rfl rfl rfl te_45.h) ?_|refine y_g rfl (by simp;omega) (.len rfl rfl rfl rfl rfl te_45.h) ?_
 refine y_g rfl (by simp;omega) (.bin rfl rfl dY) ?_;refine o_0 (.pickT rfl (by simp;omega) rfl) ?_;refine an ?_;refine aq rfl (fun h1=>?_) (fun h1=>?_);refine r_c 6 (hsp) ?_;refine c_s (hsq) ?_;refine a_z ?_;refine aU (fun v:Nat=>zgW (v,0)) (fun v=>v=Nat.gcd x.natAbs y.natAbs) ?_ ?_;refine am (aC zgW (fun v=>v.2) (fun v=>Nat.gcd v.1 v.2=Nat.gcd x.natAbs y.natAbs∧v.1< 1152921504606846976∧v.2< 1152921504606846976) (p,q) ⟨hg,hwp,hwq⟩ ?_ ?_);simp only[r9];exact s_e [];rintro⟨u,v⟩ ⟨huv,hu,hv⟩;simp only at huv hu hv;rw[r9];refine ac (r_z 2 ?_);refine aq rfl (fun h2=>?_) (fun h2=>?_);have hv0:0< v:=by simp at h2;omega
 refine ak (am (r_d hmix 6 ?_));refine a_6 ?_;refine an (n_k ?_);refine⟨(v,u % v),Nat.mod_lt _ hv0,⟨(uI u v).trans huv,hv,Nat.lt_trans (Nat.mod_lt _ hv0) hv⟩,?_⟩;simp only[r9];exact s_e [];have hv0:v=0:=by simp at h2;omega
 subst hv0;refine aA ⟨u,by simpa using huv,?_⟩;simp only[r9];exact s_e [];rintro v hv;rw[r9]
 have hv64:v< 1152921504606846976:=by
  rw[hv,←hg];have h1:Nat.gcd p q≤q:=Nat.gcd_le_right _ hq0;omega
 refine r_c 3 (lE v (by omega)) ?_;refine a_z ?_;refine aj (dt rfl rfl rfl TG.h TS.h (nle rfl) ?_ ?_);rw[←hv];rfl;exact cP _;exact absurd h1 (by simp;omega);refine s_r 8 ?_;refine a_4 ?_;refine y_g rfl (by simp;omega) (.move rfl) ?_
 first|refine y_g rfl (by simp;omega) (.lenD rfl rfl rfl rfl te_45.h) ?_|refine y_g rfl (by simp;omega) (.lenI rfl rfl rfl rfl te_45.h) ?_|refine y_g rfl (by simp;omega) (.lenP rfl rfl rfl rfl te_45.h) ?_|refine y_g rfl (by simp;omega) (.lenC rfl rfl rfl rfl te_45.h) ?_|refine y_g rfl (by simp;omega) (.lenR rfl rfl rfl rfl te_45.h) ?_|refine y_g rfl (by simp;omega) (.len rfl rfl rfl rfl rfl te_45.h) ?_
 refine y_g rfl (by simp;omega) (.bin rfl rfl dY) ?_;refine o_0 (.pickT rfl (by simp;omega) rfl) ?_;refine an ?_;refine aq rfl (fun h=>?_) (fun _=>ak ⟨(),trivial,?_⟩);exact absurd h (by simp;omega);simp only[lW];exact s_e [];refine s_r 8 ?_;refine a_4 ?_;refine n_g rfl (by simp;omega) ?_;refine n_g rfl (by simp;omega) ?_;refine n_g rfl (by simp;omega) ?_;refine o_0 (.pickF rfl (by simp;omega) rfl) ?_;refine an ?_;refine aq rfl (fun h=>?_) (fun _=>ak ⟨(),trivial,?_⟩);cases h;simp only[lW];exact s_e [];rintro _ _;rw[lW];refine r_c 8 (pg p q hq0 hp hq) ?_;refine a_z ?_;refine r_m 4 ?_;refine a_z ?_;refine⟨(q,p % q),Nat.mod_lt _ hq0,⟨(uI p q).trans hg,hq,?_⟩,?_⟩;have:=dw (Nat.le_of_lt (Nat.mod_lt p hq0));simp only;omega;simp only[lW];exact s_e []
 have hq0:q=0:=by
  refine zd_eq_nil.1 (List.length_eq_zero_iff.1 ?_);have:=of_decide_eq_false h;omega
 subst hq0;refine aA ⟨p,by simpa using hg,?_⟩;simp only[lW];exact s_e [];rintro p hp;rw[lW]
 have hbp:bl p≤4398046511104:=by
  rw[hp];rcases Nat.eq_zero_or_pos y.natAbs with e|e
  rw[e,Nat.gcd_zero_right];exact hx;exact Nat.le_trans (dw (Nat.gcd_le_right _ e)) hy
 have hzp:=cI p;have hlp:=bu (b:=UB) (by decide) p;refine r_c 3 (jN 1 (zd p) (p:Int) (by omega) (iV p) (by rw[jM,Int.natAbs_natCast]) (fun h=>by unfold sgZ;rw[if_neg h,if_neg (by omega)])) ?_;refine a_z ?_;refine aj (dt rfl rfl rfl TG.h TS.h (nle rfl) ?_ ?_);rw[←hp];rfl;exact cP _
theorem eX(x:RQ)(hx:rok x):FS 50 [.agg (rC x)] (.agg (zZ (x.1.den:Int))):=by
 refine f_c Tryz.func50 ?_;refine r_z 2 ?_;refine ac (r_z 4 ?_);obtain⟨q,f⟩:=x;have hp:=q.den_pos;cases f with
 |true=>
  have h0:q=0:=hx rfl;subst h0;refine aq (t:=true) rfl (fun h=>?_) (fun h=>?_);refine r_c 2 (lE 1 (by decide)) ?_;refine a_z ?_;exact aj (c_e (cP _));cases h
 |false=>
  refine aq rfl (fun h=>?_) (fun h=>?_);exfalso;have h1:sgZ (q.den:Int)=0:=by simpa using h
  rcases cL (q.den:Int) with⟨a,b⟩|⟨a,b⟩|⟨a,b⟩<;> omega
  refine ak (r_z 3 ?_);exact aj (c_e (cP _))
theorem zd_one:zd 1=[1]:=by
 unfold zd;rw[eg (by decide) (by decide),show 1/ UB=0 by decide,ct];rfl
theorem zZ_one{g:Nat}(h:g=1):zZ (g:Int)=[i64 1,.arr [[i64 1]]]:=by
 subst h;show [i64 (sgZ 1),AV.arr (iE (zd 1))]=_;rw[zd_one];rfl
theorem C8{g:Nat}(h:(zd g).length=1):zd g=[g]:=by
 obtain⟨a,ha⟩:=List.length_eq_one_iff.1 h;have h1:=jM g;rw[ha,oY,tu] at h1;simp at h1;rw[ha,h1]
theorem uJ{n:Nat}(h:bl n≤4398046511104):(zd n).length≤281474976710656:=by
 rw[cI];have:=bu (b:=UB) (by decide) n;omega
def ratS(n':Int)(D g:Nat):AState:=⟨[(2,.lptr 1 0 0),(3,.lptr 2 0 0),(4,.lptr 3 0 0),(5,.lptr 4 0 0)],[(1,some ⟨47,2,[zZ n']⟩),(2,some ⟨47,2,[zZ (D:Int)]⟩),(3,some ⟨49,4,[[i64 0,.emp,i64 0,.emp]]⟩),(4,some ⟨47,2,[zZ (g:Int)]⟩)],5,57⟩
theorem pq(n d:Int)(hd:d≠0)(hn:bl n.natAbs≤4398046511104)(hb:bl d.natAbs≤4398046511104):FS 118 [.agg (zZ n),.agg (zZ d)] (.agg (rC (rq (Rat.divInt n d)))):=by
 refine f_c Tryz.func118 ?_;refine r_z 3 ?_;refine aU (fun n':Int=>⟨[(2,.lptr 1 0 0),(3,.lptr 2 0 0),(4,.lptr 3 0 0)],[(1,some ⟨47,2,[zZ n']⟩),(2,some ⟨47,2,[zZ (d.natAbs:Int)]⟩),(3,some ⟨49,4,[[i64 0,.emp,i64 0,.emp]]⟩)],4,57⟩) (fun n'=>n'.natAbs=n.natAbs∧Rat.divInt n d=mkRat n' d.natAbs) ?_ ?_;refine r_z 3 ?_;refine aq rfl (fun h=>?_) (fun h=>?_)
 have hneg:d< 0:=by
  have h1:sgZ d< 0:=by simpa using h
  rcases cL d with⟨a,b⟩|⟨a,b⟩|⟨a,b⟩<;> omega
 have e: -d=(d.natAbs:Int):=by omega
 have hdn:=rN d;rw[e] at hdn;refine r_d hmix 6 ?_;refine c_s (rN n) ?_;refine c_s (hdn) ?_;refine a_2 ?_;refine an (n_k ?_);refine⟨-n,⟨by omega,oe n d hneg⟩,?_⟩;exact s_e []
 have hpos:0< d:=by
  have h1:¬sgZ d< 0:=by simpa using h
  rcases cL d with⟨a,b⟩|⟨a,b⟩|⟨a,b⟩<;> omega
 have e:d=(d.natAbs:Int):=by omega
 refine ak ⟨n,⟨rfl,od n d hpos⟩,?_⟩;rw[←e];exact s_e [];rintro n' ⟨hna,hv⟩;have hD:0< d.natAbs:=by omega
 obtain⟨D,hDd⟩:∃D,D=d.natAbs:=⟨_,rfl⟩;rw[hv];rw[←hDd] at hb hD⊢;rw[←hna] at hn;obtain⟨g,hg⟩:∃g,g=Nat.gcd n'.natAbs D:=⟨_,rfl⟩;have hgp:0< g:=by rw[hg];exact Nat.gcd_pos_of_pos_right _ hD
 have hgD:g≤D:=by rw[hg];exact Nat.gcd_le_right _ hD
 have hbg:=dw hgD;have hnum:(mkRat n' D).num.natAbs=n'.natAbs/ g:=by rw[jl hD,fu,hg]
 have hden:(mkRat n' D).den=D/ g:=by rw[(kq hD).2,hg]
 have hsg:=Dc (n:=n') hD;have hgc:=fs_ZGcd n' (D:Int) hn (by rw[Int.natAbs_natCast];exact hb);rw[Int.natAbs_natCast,←hg] at hgc
 have hfin:rC (rq (mkRat n' D))=zZ (sgn (decide (n'< 0)) (n'.natAbs/ g))++zZ ((D/ g:Nat):Int):=by
  rw[Cf,hden,jl hD,←hg]
 rw[hfin];have hgn:bl (D/ g)≤bl D:=eO D g;have hgn2:bl (n'.natAbs/ g)≤bl n'.natAbs:=eO n'.natAbs g;refine r_c 5 (hgc) ?_;refine a_z ?_;refine aU (fun _:Unit=>ratS n' D g) (fun _=>g≠1) ?_ ?_;by_cases h1:g=1;rw[zZ_one h1];refine s_r 11 ?_;refine a_5 ?_
 first|refine y_g rfl rfl (.fieldAddr_l rfl TF.h (by decide)) ?_|refine y_g rfl rfl (.fieldAddr_a rfl TF.h (by decide)) ?_
 first|refine y_g rfl rfl (.load_l1 rfl rfl rfl TG.h rfl) ?_|refine y_g rfl rfl (.load_a1 rfl rfl TG.h rfl) ?_
 first|refine y_g rfl rfl (.index_l rfl rfl (by omega) (by omega) te_45.h) ?_|refine y_g rfl rfl (.index_a rfl rfl (by omega) rfl rfl te_45.h) ?_
 first|refine y_g rfl rfl (.load_l1 rfl rfl rfl TG.h rfl) ?_|refine y_g rfl rfl (.load_a1 rfl rfl TG.h rfl) ?_
 refine y_g rfl rfl (.bin rfl rfl aJ) ?_;refine o_0 (.pickT rfl rfl rfl) ?_;refine an ?_;refine aq rfl (fun h=>?_) (fun h=>?_);refine r_z 4 ?_;refine aj ?_;rw[h1,Nat.div_one,Nat.div_one,show sgn (decide (n'< 0)) n'.natAbs=n' by unfold sgn;by_cases h0:n'< 0 <;> simp[h0]<;> omega];exact c_e (aG fun c hc=>(List.mem_append.1 hc).elim (dk _ c) (dk _ c));exact absurd h (by decide);by_cases hl:(zd g).length=1;have hz:=C8 hl;have hz2:zZ (g:Int)=[i64 (sgZ (g:Int)),.arr (iE [g])]:=by show [i64 (sgZ (g:Int)),AV.arr (iE (zd g))]=_;rw[hz]
 rw[hz2];refine s_r 11 ?_;refine a_5 ?_
 first|refine y_g rfl rfl (.fieldAddr_l rfl TF.h (by decide)) ?_|refine y_g rfl rfl (.fieldAddr_a rfl TF.h (by decide)) ?_
 first|refine y_g rfl rfl (.load_l1 rfl rfl rfl TG.h rfl) ?_|refine y_g rfl rfl (.load_a1 rfl rfl TG.h rfl) ?_
 first|refine y_g rfl rfl (.index_l rfl rfl (by omega) (by omega) te_45.h) ?_|refine y_g rfl rfl (.index_a rfl rfl (by omega) rfl rfl te_45.h) ?_
 first|refine y_g rfl rfl (.load_l1 rfl rfl rfl TG.h rfl) ?_|refine y_g rfl rfl (.load_a1 rfl rfl TG.h rfl) ?_
 refine y_g rfl rfl (.bin rfl rfl aJ) ?_;refine o_0 (.pickT rfl rfl rfl) ?_;refine an ?_;refine aq rfl (fun h=>?_) (fun h=>?_);exact absurd h (by simp;omega);refine ak ⟨(),h1,?_⟩;rw[←hz2];unfold ratS;exact s_e [(4,5)];refine s_r 11 ?_;refine a_5 ?_;refine n_g rfl (by simp;omega) ?_;refine n_g rfl (by simp;omega) ?_;refine n_g rfl (by simp;omega) ?_;refine n_g rfl (by simp;omega) ?_;refine n_g rfl (by simp;omega) ?_;refine o_0 (.pickF rfl (by simp;omega) rfl) ?_;refine an ?_;refine aq rfl (fun h=>?_) (fun h=>?_);exact absurd h (by simp);refine ak ⟨(),h1,?_⟩;unfold ratS;exact s_e [(4,5)];rintro _ hg1;unfold ratS;have hzq:=jN (sgZ n') (zd (n'.natAbs/ g)) (sgn (decide (n'< 0)) (n'.natAbs/ g)) (uJ (by omega)) (iV _) (by rw[jM,fu]) (fun h=>by rw[←hsg,jl hD,←hg]);have hzd:=jN 1 (zd (D/ g)) ((D/ g:Nat):Int) (uJ (by omega)) (iV _) (by rw[jM,Int.natAbs_natCast]) (fun h=>by unfold sgZ;rw[if_neg h,if_neg (by omega)]);refine r_c 10 (pg n'.natAbs g hgp hn (by omega)) ?_;refine a_z ?_;refine r_c 10 (pg D g hgp hb (by omega)) ?_;refine a_z ?_;refine r_c 8 (hzq) ?_;refine c_s (hzd) ?_;refine a_z ?_;exact aj (c_e (aG fun c hc=>(List.mem_append.1 hc).elim (dk _ c) (dk _ c)))
theorem fL{z:Int}{k:Nat}(h:bl z.natAbs≤k)(hk:k≤8796093022208):zl z:=Nat.le_trans h hk
theorem jb(n:Int)(h: -9223372036854775808≤n∧n≤9223372036854775807):FS 59 [i64 n] (.agg (rC (rq (n:Rat)))):=by
 rw[Cf];refine f_c Tryz.func59 ?_;refine r_z 1 ?_;refine r_c 5 (lE n h) ?_;refine c_s (lE 1 (by decide)) ?_;refine a_z ?_;exact aj (c_e (aG fun c hc=>(List.mem_append.1 hc).elim (dk _ c) (dk _ c)))
theorem AO(n d:Int)(hd:d≠0)(h: -9223372036854775808≤n∧n≤9223372036854775807)(h2: -9223372036854775808≤d∧d≤9223372036854775807):FS 54 [i64 n,i64 d] (.agg (rC (rq (Rat.divInt n d)))):=by
 have hb:∀z:Int,-9223372036854775808≤z→z≤9223372036854775807→bl z.natAbs≤4398046511104:=fun z h1 h2=>Nat.le_trans (iW (k:=64) (by omega)) (by decide);refine f_c Tryz.func54 ?_;refine r_z 1 ?_;refine r_c 6 (lE n h) ?_;refine c_s (lE d h2) ?_;refine c_s (pq n d hd (hb n h.1 h.2) (hb d h2.1 h2.2)) ?_;refine a_z ?_;exact aj (c_e (fj _))
theorem CL(x:RQ)(hx:rok x):FS 57 [.agg (rC x)] (.agg (rC (rq (-x.1)))):=by
 rw[Cf,Rat.neg_num,Rat.neg_den];refine f_c Tryz.func57 ?_;refine r_z 2 ?_;refine ac (r_d hmix 7 ?_);refine c_s (rN x.1.num) ?_;refine c_s (eX x hx) ?_;refine a_2 ?_;refine an (n_k ?_);exact aj (c_e (aG fun c hc=>(List.mem_append.1 hc).elim (dk _ c) (dk _ c)))
theorem fs_rAbs(x:RQ)(hx:rok x):FS 66 [.agg (rC x)] (.agg (rC (rq (cj x.1)))):=by
 rw[Cf,ux,uy];refine f_c Tryz.func66 ?_;refine r_z 2 ?_;refine ac (r_d hmix 7 ?_);refine c_s (fs_ZAbs x.1.num) ?_;refine c_s (eX x hx) ?_;refine a_2 ?_;refine an (n_k ?_);exact aj (c_e (aG fun c hc=>(List.mem_append.1 hc).elim (dk _ c) (dk _ c)))
theorem yz(x:RQ):FS 104 [.agg (rC x)] (i64 (sgZ x.1.num)):=by
 refine f_c Tryz.func104 ?_;refine r_z 2 ?_;refine r_z 4 ?_;exact aj (t_e (ag _))
theorem lD(x y:RQ)(hx:rok x)(hy:rok y)(h:qs x.1+qs y.1≤1099511627776):FS 65 [.agg (rC x),.agg (rC y)] (.agg (rC (rq (x.1+y.1)))):=by
 obtain⟨a,fa⟩:=x;obtain⟨b,fb⟩:=y;simp only at h⊢;have hp:=qO a b;have h1:=c9 a;have h2:=c7 a;have h3:=c9 b;have h4:=c7 b;have e1:=dJ (x:=a.num) (y:=b.den) h1 (by simpa using h4);have e2:=dJ (x:=b.num) (y:=a.den) h3 (by simpa using h2);have e3:=hp.1;have e4:=hp.2;have hd:(a.den:Int) * b.den≠0:=by have:=kG a b;rw[←Int.natCast_mul];omega
 have e:a+b=Rat.divInt (a.num* b.den+b.num* a.den) (a.den* b.den):=by
  rw[qP,←Int.natCast_mul,←Rat.divInt_ofNat]
 rw[e];have e5:bl ((a.den:Int) * b.den).natAbs≤qs a+qs b:=by rw[←Int.natCast_mul,Int.natAbs_natCast];exact e4
 refine f_c Tryz.func65 ?_;refine r_z 3 ?_;refine ac (r_d hmix 18 ?_);refine c_s (eX (b,fb) hy) ?_;refine c_s (iq a.num b.den (fL h1 (by omega)) (fL (by simpa using h4) (by omega))) ?_;refine c_s (eX (a,fa) hx) ?_;refine c_s (iq b.num a.den (fL h3 (by omega)) (fL (by simpa using h2) (by omega))) ?_;refine c_s (CP (a.num* b.den) (b.num* a.den) (fL e1 (by omega)) (fL e2 (by omega))) ?_;refine c_s (eX (a,fa) hx) ?_;refine c_s (eX (b,fb) hy) ?_;refine c_s (iq a.den b.den (fL (by simpa using h2) (by omega)) (fL (by simpa using h4) (by omega))) ?_;refine c_s (pq (a.num* b.den+b.num* a.den) (a.den* b.den) hd (by omega) (by omega)) ?_;refine a_1 ?_;refine an (n_k ?_);exact aj (c_e (fj _))
theorem fs_rSub(x y:RQ)(hx:rok x)(hy:rok y)(h:qs x.1+qs y.1≤1099511627776):FS 119 [.agg (rC x),.agg (rC y)] (.agg (rC (rq (x.1- y.1)))):=by
 rw[Rat.sub_eq_add_neg];refine f_c Tryz.func119 ?_;refine r_z 3 ?_;refine ac (r_d hmix 5 ?_);refine c_s (CL y hy) ?_;refine c_s (lD x (rq (-y.1)) hx (cY _) (by simp only[rq,fX];exact h)) ?_;refine a_1 ?_;refine an (n_k ?_);exact aj (c_e (fj _))
theorem rJ(x y:RQ)(hx:rok x)(hy:rok y)(h:qs x.1+qs y.1≤1099511627776):FS 52 [.agg (rC x),.agg (rC y)] (.agg (rC (rq (x.1* y.1)))):=by
 obtain⟨a,fa⟩:=x;obtain⟨b,fb⟩:=y;simp only at h⊢;have hp:=pZ a b;have h1:=c9 a;have h2:=c7 a;have h3:=c9 b;have h4:=c7 b;have e3:=hp.1;have e4:=hp.2;have hd:(a.den:Int) * b.den≠0:=by have:=kG a b;rw[←Int.natCast_mul];omega
 have e:a* b=Rat.divInt (a.num* b.num) (a.den* b.den):=by
  rw[mK,←Int.natCast_mul,←Rat.divInt_ofNat]
 rw[e];have e5:bl ((a.den:Int) * b.den).natAbs≤qs a+qs b:=by rw[←Int.natCast_mul,Int.natAbs_natCast];exact e4
 refine f_c Tryz.func52 ?_;refine r_z 3 ?_;refine ac (r_d hmix 12 ?_);refine c_s (iq a.num b.num (fL h1 (by omega)) (fL h3 (by omega))) ?_;refine c_s (eX (a,fa) hx) ?_;refine c_s (eX (b,fb) hy) ?_;refine c_s (iq a.den b.den (fL (by simpa using h2) (by omega)) (fL (by simpa using h4) (by omega))) ?_;refine c_s (pq (a.num* b.num) (a.den* b.den) hd (by omega) (by omega)) ?_;refine a_1 ?_;refine an (n_k ?_);exact aj (c_e (fj _))
theorem wB(x y:RQ)(hx:rok x)(hy:rok y)(hy0:y.1≠0)(h:qs x.1+qs y.1≤1099511627776):FS 58 [.agg (rC x),.agg (rC y)] (.agg (rC (rq (x.1/ y.1)))):=by
 obtain⟨a,fa⟩:=x;obtain⟨b,fb⟩:=y;simp only at h hy0⊢;have h1:=c9 a;have h2:=c7 a;have h3:=c9 b;have h4:=c7 b;have e1:=dJ (x:=a.num) (y:=b.den) h1 (by simpa using h4);have e2:=dJ (x:=a.den) (y:=b.num) (by simpa using h2) h3;have hn0:b.num≠0:=fun e=>hy0 (Rat.num_eq_zero.1 e);have hd:(a.den:Int) * b.num≠0:=Int.mul_ne_zero (by have:=a.den_pos;omega) hn0;rw[tV];refine f_c Tryz.func58 ?_;refine r_z 3 ?_;refine ac (r_d hmix 12 ?_);refine c_s (eX (b,fb) hy) ?_;refine c_s (iq a.num b.den (fL h1 (by omega)) (fL (by simpa using h4) (by omega))) ?_;refine c_s (eX (a,fa) hx) ?_;refine c_s (iq a.den b.num (fL (by simpa using h2) (by omega)) (fL h3 (by omega))) ?_;refine c_s (pq (a.num* b.den) (a.den* b.num) hd (by omega) (by omega)) ?_;refine a_1 ?_;refine an (n_k ?_);exact aj (c_e (fj _))
theorem fs_rCmp(x y:RQ)(hx:rok x)(hy:rok y)(h:qs x.1+qs y.1≤1099511627776):FS 12 [.agg (rC x),.agg (rC y)] (i64 (cZ x.1 y.1)):=by
 obtain⟨a,fa⟩:=x;obtain⟨b,fb⟩:=y;simp only at h⊢;have h1:=c9 a;have h2:=c7 a;have h3:=c9 b;have h4:=c7 b;have e1:=dJ (x:=a.num) (y:=b.den) h1 (by simpa using h4);have e2:=dJ (x:=b.num) (y:=a.den) h3 (by simpa using h2)
 have e:cZ a b=ew (a.num* b.den) (b.num* a.den):=by
  rw[C3];unfold ew;obtain⟨u,hu⟩:∃u,u=a.num* (b.den:Int):=⟨_,rfl⟩;obtain⟨v,hv⟩:∃v,v=b.num* (a.den:Int):=⟨_,rfl⟩;rw[←hu,←hv];split;rfl;split <;> split <;> omega
 rw[e];refine f_c Tryz.func12 ?_;refine r_z 3 ?_;refine ac (r_d hmix 12 ?_);refine c_s (eX (b,fb) hy) ?_;refine c_s (iq a.num b.den (fL h1 (by omega)) (fL (by simpa using h4) (by omega))) ?_;refine c_s (eX (a,fa) hx) ?_;refine c_s (iq b.num a.den (fL h3 (by omega)) (fL (by simpa using h2) (by omega))) ?_;refine c_s (fs_ZCmp (a.num* b.den) (b.num* a.den) (fL e1 (by omega)) (fL e2 (by omega))) ?_;refine a_1 ?_;refine an (n_k ?_);exact aj (t_e (ag _))
theorem pad9_pd{x:Nat}(h:x< 1000000000):Dh x=pd 9 x:=by
 by_cases h0:x=0;subst h0;decide+kernel;rw[EN 9 x (by omega) h];rfl
theorem BR:∀(n m:Nat),m≤n→0< m→txD (az MB m).reverse=Lib.decDigits m
 |0,m,h,h0=>by omega
 |n+1,m,h,h0=>by
  have hb:MB=1000000000:=rfl;rw[eg (by decide) h0,List.reverse_cons];by_cases hm:m< MB;rw[Nat.div_eq_of_lt hm,ct,Nat.mod_eq_of_lt hm];simp[txD];have hd:0< m/ MB:=Nat.div_pos (by omega) (by decide)
  have hne:(az MB (m/ MB)).reverse≠[]:=fun e=>by
   have:=(fC (b:=MB) (by decide)).1 (List.reverse_eq_nil_iff.1 e);omega
  have hlt:m % MB< 1000000000:=Nat.mod_lt m (by decide);rw[xG hne,BR n (m/ MB) (by have:=Nat.div_lt_self h0 (by decide:1< MB);omega) hd,pad9_pd hlt,←vr 9 (m/ MB) (m % MB) hd hlt];congr 1;show m/ 1000000000* 1000000000+m % 1000000000=m;omega
theorem Cr(m:Nat):mtx m=Lib.decDigits m:=by
 unfold mtx;split
 ·rename_i h;subst h;decide+kernel
 exact BR m m (Nat.le_refl _) (by omega)
def ztx(z:Int):List UInt8:=(if z< 0 then [45] else [])++Lib.decDigits z.natAbs
theorem EG(q:Rat):qtx q=ztx q.num++(if q.den=1 then [] else 47::Lib.decDigits q.den):=by
 unfold qtx ztx;rw[Cr,Cr]
theorem ua(n:Nat):(Lib.decDigits n).length≤bl n+1:=by
 rw[Lib.decDigits_length];have h:n< 10^ (bl n+1):=Nat.lt_of_lt_of_le (th n) (Nat.le_trans (Nat.pow_le_pow_left (by decide:2≤10) _) (Nat.pow_le_pow_right (by decide) (by omega)));exact wn (bl n) n h
theorem first_text{c:UInt8}{l:List UInt8}:∀w,(Instr.index 9 (.string ⟨(c::l).toArray⟩) (.int .i64 0)).run Tryz.prog w= .ok (.int .u8 c.toNat) w:=fun w=>by
 simp[Instr.index,asIntOf,run_underlying gY,go_sem];rfl
theorem Da(c:UInt8)(l:List UInt8):∀w,(Instr.sliceAt 9 (.string ⟨(c::l).toArray⟩) (some (.int .i64 1)) none none).run Tryz.prog w= .ok (.string ⟨l.toArray⟩) w:=fun w=>by
 have b1:∀(i y:Nat) (c:BoundsCode),i≤y→(Instr.sliceBound (.int .i64 (i:Int)) y c).run Tryz.prog w= .ok i w:=fun i y c hi=>ee hi c w
 have e:(⟨(c::l).toArray⟩:ByteArray).extract 1 (⟨(c::l).toArray⟩:ByteArray).size=⟨l.toArray⟩:=by
  apply ByteArray.ext;simp[ByteArray.size]
 have hr:(Instr.slice 9 (.string ⟨(c::l).toArray⟩) (some (.int .i64 ((1:Nat):Int))) none none).run Tryz.prog w= .ok (.string ⟨l.toArray⟩) w:=by
  have hs:1≤(⟨(c::l).toArray⟩:ByteArray).size:=by simp[ByteArray.size]
  have b2:=b1 1 (⟨(c::l).toArray⟩:ByteArray).size .sliceB hs;rw[show((1:Nat):Int)=1 from rfl] at b2;simp[Instr.slice,run_underlying gY,Instr.sliceBounds,b2,Result.andThen,e]
 unfold Instr.sliceAt;rw[Sem.run_bind,run_underlying gY];exact hr
theorem FT(d:Nat)(zl zh:Int)(hd:d< 10)(el:zl=(d:Int))(eh:zh=(d:Int)+1):∀w,(Instr.sliceAt 9 (.string ⟨#[48,49,50,51,52,53,54,55,56,57]⟩) (some (.int .i64 zl)) (some (.int .i64 zh)) none).run Tryz.prog w= .ok (.string ⟨[UInt8.ofNat (48+d)].toArray⟩) w:=fun w=>by
 rw[ud _ d (d+1) zl zh el (by omega) (by omega) (by exact Nat.le_trans (m:=10) (by omega) (by decide)) w];have key:∀d,d< 10→(ByteArray.mk #[48,49,50,51,52,53,54,55,56,57]).extract d (d+1)=⟨[UInt8.ofNat (48+d)].toArray⟩:=by decide
 rw[key d hd]
theorem zd_sm{m:Nat}(h0:0< m)(h:m< 32768):zd m=[m]:=by
 have hb:UB=32768:=rfl;unfold zd;rw[eg (by decide) h0,Nat.mod_eq_of_lt (by omega),Nat.div_eq_of_lt (by omega),ct];rfl
def ztO(z:Int)(n:Nat):Nat→AState
 |k=>⟨[(1,.aptr [zZ z] 0 0),(3,tx (pd (4* k) n)),(4,.arr (iE (zd (n/ 10^ (4* k)))))],[],2,51⟩
def ztI(z:Int)(r B:Nat)(T:List UInt8):Nat→AState
 |i=>⟨[(1,.aptr [zZ z] 0 0),(3,tx (pd i r++T)),(5,.arr (iE (zd B))),(7,i64 ((r/ 10^ i:Nat):Int)),(8,i64 i)],[],2,51⟩
def ztD(z:Int):List UInt8→AState
 |T=>⟨[(1,.aptr [zZ z] 0 0),(3,tx T)],[],2,51⟩
theorem yQ(z:Int)(h:bl z.natAbs≤68719476736):FS 124 [.agg (zZ z)] (tx (ztx z)):=by
 have hcz:Closed (.aptr [zZ z] 0 0):=ba (dk z);refine f_c Tryz.func124 ?_;refine r_z 2 ?_;refine AWp.ent (st':=⟨[(1,.aptr [zZ z] 0 0)],[],2,51⟩) ?_ ?_;exact s_e [];by_cases h0:z=0;subst h0;refine ac (s_r 3 ?_);refine a_2 ?_;refine o_0 (.bin rfl rfl (vT aJ ((by decide)))) ?_;refine an ?_;refine aq rfl (fun h1=>?_) (fun h1=>?_);refine r_z 1 ?_;exact aj (aN rfl (by rw[show ztx 0=[48] by unfold ztx;rw[Int.natAbs_zero,Lib.decDigits_one (by decide)];rfl];rfl) (ag _));cases h1;refine ac (s_r 3 ?_);refine a_2 ?_;refine o_0 (.bin rfl rfl (vF aJ ((by unfold sgZ;rw[if_neg h0];split <;> rfl)))) ?_;refine an ?_;refine cF (ak (r_z 1 ?_));refine r_z 3 ?_;obtain⟨n,hn⟩:∃n,n=z.natAbs:=⟨_,rfl⟩;have hn0:0< n:=by omega
 rw[←hn] at h;have hzd:=cI n;have hdl:=bu (b:=UB) (by decide) n;refine aU (ztD z) (fun T=> ∃k,T=pd k n∧n< 10^ k∧k≤4* (bl n+1)) ?_ ?_;refine am (aC (ztO z n) (fun k=>n/ 10^ (4* k)) (fun k=>k=0∨0< n/ 10^ (4* (k- 1))) 0 (.inl rfl) ?_ ?_);simp only[ztO.eq_1];have e:n/ 10^ (4* 0)=n:=by simp
 rw[e,hn];exact s_f [];rintro k hk;simp only[ztO.eq_1];obtain⟨A,hA⟩:∃A,A=n/ 10^ (4* k):=⟨_,rfl⟩
 have hk4:4* k≤bl n+4:=by
  rcases hk with hk|hk
  omega
  have h1:10^ (4* (k- 1))≤n:=by
   apply Nat.le_of_not_lt;intro hlt;rw[Nat.div_eq_of_lt hlt] at hk;omega
  have h2:=th n;have h3:2^ (4* (k- 1))≤10^ (4* (k- 1)):=Nat.pow_le_pow_left (by decide) _;have h4:4* (k- 1)< bl n:=(Nat.pow_lt_pow_iff_right (a:=2) (by decide)).1 (Nat.lt_of_le_of_lt (Nat.le_trans h3 h1) h2);omega
 rw[←hA];have hAb:bl A≤68719476736:=Nat.le_trans (dw (by rw[hA];exact Nat.div_le_self _ _)) h;by_cases hA0:A=0;have hz:(zd A).length=0:=by rw[hA0,mB];rfl
 refine ac (q_z 3 ?_);refine cF (aA ⟨pd (4* k) n,⟨4* k,rfl,?_,by omega⟩,?_⟩);rw[hA0] at hA;exact(Nat.div_eq_zero_iff.1 hA.symm).resolve_left (by have:=Nat.one_le_pow (4* k) 10 (by decide);omega);simp only[ztD.eq_1];exact s_f [];have hz:0< (zd A).length:=List.length_pos_iff.2 fun e=>hA0 (zd_eq_nil.1 e);refine ac (q_z 3 ?_);refine cT (ak (am ?_));have hov:=pg A 10000 (by decide) (by omega) (by decide);rw[zd_sm (by decide) (by decide:10000< 32768)] at hov;obtain⟨r,hr⟩:∃r,r=A % 10000:=⟨_,rfl⟩;obtain⟨B,hB⟩:∃B,B=A/ 10000:=⟨_,rfl⟩;rw[←hr,←hB] at hov;have hr4:r< 10000:=by rw[hr];exact Nat.mod_lt _ (by decide)
 have hzr:(zd r).length≤4:=by
  rw[cI];exact eH (b:=UB) (by decide) (k:=4) (Nat.lt_trans hr4 (by decide))
 have hsh:=tw (zd r) hzr (iV r);rw[jM] at hsh;obtain⟨T,hT⟩:∃T,T=pd (4* k) n:=⟨_,rfl⟩;have hTl:T.length=4* k:=by rw[hT,uX]
 rw[←hT];refine s_r 8 ?_;refine a_2 ?_;refine o_1 (.callS1 rfl rfl rfl (.keep (.shut rfl d_n (.nil))) rfl (hov)) ?_;refine a_z ?_;refine r_c 3 (hsh) ?_;refine a_z ?_;refine ac (r_z 1 ?_);refine aI (ztI z r B T) (fun i=>i=4) ?_ ?_;refine am (aC (ztI z r B T) (fun i=>4- i) (fun i=>i≤4) 0 (by decide) ?_ ?_);simp only[ztI.eq_1];have e:((r/ 10^ 0:Nat):Int)=r:=by simp
 rw[e];exact s_f [];rintro i hi;simp only[ztI.eq_1];by_cases h4:i< 4;refine ac (q_z 2 ?_);refine cT (ak (ac (am ?_)));obtain⟨c,hc⟩:∃c,c=r/ 10^ i:=⟨_,rfl⟩;rw[←hc];have hcr:c≤r:=by rw[hc];exact Nat.div_le_self _ _
 have hsz:[UInt8.ofNat (48+c % 10)].length+(pd i r++T).length≤9223372036854775807:=by
  rw[List.length_append,uX,hTl];simp only[List.length_cons,List.length_nil];omega
 refine s_r 9 ?_;refine a_5 ?_;refine o_0 (.slice_v rfl rfl rfl rfl (FT (c % 10) _ _ (by omega) (by omega) (by omega))) ?_;refine a_1 ?_;refine o_0 (.bin rfl rfl (eQ (l:=[UInt8.ofNat (48+c % 10)]) (m:=pd i r++T) hsz)) ?_;refine a_z ?_;refine r_m 3 ?_;refine a_z ?_;refine r_m 3 ?_;refine a_z ?_;refine⟨i+1,by omega,h4,?_⟩;have e1:pd (i+1) r++T=[UInt8.ofNat (48+c % 10)]++(pd i r++T):=by rw[EM,←hc];rfl
 have e2:((r/ 10^ (i+1):Nat):Int)=(c:Int) / 10:=by rw[Nat.pow_succ,←Nat.div_div_eq_div_mul,←hc];omega
 show SEnt _ ⟨[(1,.aptr [zZ z] 0 0),(3,tx (pd (i+1) r++T)),(5,.arr (iE (zd B))),(7,i64 ((r/ 10^ (i+1):Nat):Int)),(8,i64 ((i+1:Nat):Int))],[],2,_⟩;rw[e1,e2];exact s_f [];refine ac (q_z 2 ?_);refine cF (aA ⟨i,by omega,?_⟩);simp only[ztI.eq_1];exact s_f [];rintro _ rfl;rw[ztI.eq_1];refine r_m 2 ?_;refine a_z ?_;have e0:n/ 10^ (4* (k+1))=B:=by rw[hB,hA,Nat.div_div_eq_div_mul,show 4* (k+1)=4* k+4 by omega,Nat.pow_add]
 refine⟨k+1,?_,.inr ?_,?_⟩;show n/ 10^ (4* (k+1))< A;rw[e0];omega;show 0< n/ 10^ (4* (k+1- 1));rw[Nat.add_sub_cancel,←hA];omega
 have e1:pd (4* (k+1)) n=pd 4 r++T:=by
  rw[show 4* (k+1)=4+4* k by omega,EO,←hA,←hT,hr];congr 1;exact(pd_mod 4 A).symm
 show SEnt _ ⟨[(1,.aptr [zZ z] 0 0),(3,tx (pd (4* (k+1)) n)),(4,.arr (iE (zd (n/ 10^ (4* (k+1))))))],[],2,_⟩;rw[e0,e1];exact s_f [];rintro T ⟨K,hT,hK,hKl⟩;have hdz:jz T=Lib.decDigits n:=by rw[hT];exact zf K n hn0 hK
 clear hT hK hKl;simp only[ztD.eq_1];refine aU (ztD z) (fun T=>T=Lib.decDigits n) ?_ ?_;refine am (aC (ztD z) (fun T=>T.length) (fun T=>jz T=Lib.decDigits n) T hdz ?_ ?_);simp only[ztD.eq_1];exact s_f [];intro T hT;simp only[ztD.eq_1];cases T with
 |nil=>exact absurd hT.symm (pC n)
 |cons c T=>
  rw[jz] at hT;by_cases hc:c=48;rw[if_pos hc] at hT;refine ac (s_r 3 ?_);refine a_1 ?_;refine o_0 (.index_s rfl rfl first_text) ?_;refine o_0 (.bin rfl rfl (vT aJ ((by rw[hc];rfl)))) ?_;refine an ?_;refine cT (ak (am (r_m 3 ?_)));refine a_1 ?_;refine o_0 (.slice_v rfl rfl rfl rfl (Da c T)) ?_;refine a_z ?_;refine⟨T,by simp,hT,?_⟩;show SEnt _ ⟨[(1,.aptr [zZ z] 0 0),(3,tx T)],[],2,_⟩;exact s_f [];rw[if_neg hc] at hT
  have hne:(((c.toNat:Nat):Int)==48)=false:=by
   rw[beq_eq_false_iff_ne];intro e
   exact hc (UInt8.toNat_inj.1 (by have:c.toNat=48:=by omega
                                   exact this))
  refine ac (s_r 3 ?_);refine a_1 ?_;refine o_0 (.index_s rfl rfl first_text) ?_;refine o_0 (.bin rfl rfl (vF aJ (hne))) ?_;refine an ?_;refine cF (aA ⟨c::T,hT,?_⟩);show SEnt _ ⟨[(1,.aptr [zZ z] 0 0),(3,tx (c::T))],[],2,_⟩;exact s_f []
 rintro T rfl;simp only[ztD.eq_1];have hdl2:=ua n;by_cases hneg:z< 0;refine ac (s_r 3 ?_);refine a_2 ?_;refine o_0 (.bin rfl rfl (vT cw ((by unfold sgZ;rw[if_neg h0,if_pos hneg];rfl)))) ?_;refine an ?_;refine cT (s_r 3 ?_);refine a_1 ?_;refine o_0 (.bin rfl rfl (eQ (l:=[45]) (by simp;omega))) ?_;refine a_z ?_;exact aj (aN rfl (by unfold ztx;rw[if_pos hneg,hn]) (ag _));refine ac (s_r 3 ?_);refine a_2 ?_;refine o_0 (.bin rfl rfl (vF cw ((by unfold sgZ;rw[if_neg h0,if_neg hneg];rfl)))) ?_;refine an ?_;refine cF (ak (r_z 2 ?_));exact aj (aN rfl (by unfold ztx;rw[if_neg hneg,hn];rfl) (ag _))
def zE(l:List Int):Lc:=l.map fun n=>[i64 n]
theorem eJ(l:List Int):∀e∈zE l,∀c∈e,Closed c:=by
 intro e he c hc;obtain⟨n,_,rfl⟩:=List.mem_map.1 he;rw[List.mem_singleton.1 hc];exact ag _
def zR(l:List Int):Lq:=l.map fun(n:Int)=>(n:Rat)
def oJ(q:Rat):Nat→Rat
 |0=>q
 |k+1=>oJ q k* q
theorem Cj(q:Rat):∀k,qs (oJ q k)≤(k+1) * qs q
 |0=>by simp[oJ]
 |k+1=>by
  have h1:=eV (oJ q k) q;have h2:=Cj q k;show qs (oJ q k* q)≤_;rw[Nat.add_mul (k+1),Nat.one_mul];omega
def uF(D:Int):Int:=if D=0 then 1 else D
def lT(N D:Int)(p:Nat):Rat:=oJ (Rat.divInt N (uF D)) (p % 4)
def nuC(N D:Int)(p:Nat):La:=[i64 N,i64 D,.v (.int .u8 p)]
def jF(n:Int):Prop:= -9223372036854775808≤n∧n≤9223372036854775807
theorem fD(N D:Int)(p:Nat):∀c∈nuC N D p,Closed c:=ae (ag _) (ae (ag _) (ae (ag _) ai))
theorem FQ(n d:Int):(n:Rat) / (d:Rat)=Rat.divInt n d:=(Rat.divInt_eq_div n d).symm
def boT(N:Int)(D:Int)(p:Nat)(q:Rat):Nat→AState
 |k=>⟨[(1,.lptr 1 0 0),(2,.lptr 2 0 0),(3,.lptr 3 0 0),(4,.lptr 4 0 0),(6,.lptr 5 0 0),(7,.lptr 6 0 0),(8,.lptr 7 0 0),(9,.v (.int .u8 k))],
  [(1,some ⟨24,3,[nuC N D p]⟩),(2,some ⟨42,3,[zC]⟩),(3,some ⟨49,4,[[i64 0,.emp,i64 0,.emp]]⟩),(4,some ⟨42,3,[qC q]⟩),(5,some ⟨49,4,[rC (rq q)]⟩),(6,some ⟨42,3,[qC (oJ q k)]⟩),(7,some ⟨49,4,[rC (rq (oJ q k))]⟩)],8,44⟩
theorem tM(N D:Int)(p:Nat)(hN:jF N)(hD:jF D)(hp:p≤255):FS 37 [.agg (nuC N D p)] (.tup [.agg (qC (lT N D p)),.agg (rC (rq (lT N D p)))]):=by
 obtain⟨d,hd⟩:∃d,d=uF D:=⟨_,rfl⟩;have hd0:d≠0:=by rw[hd];unfold uF;split <;> omega
 have hdr:jF d:=by
  rw[hd];unfold uF jF;unfold jF at hD;split <;> omega
 unfold jF at hN hdr;obtain⟨q,hq⟩:∃q,q=Rat.divInt N d:=⟨_,rfl⟩;have hof:=fs_Of N d hN hdr hd0;rw[FQ,←hq] at hof;have hro:=AO N d hd0 hN hdr;rw[←hq] at hro;have hnv:lT N D p=oJ q (p % 4):=by unfold lT;rw[←hd,←hq]
 rw[hnv];refine f_n Tryz.func37 ?_ ?_;exact ae (aG (fD N D p)) ai;refine r_z 3 ?_
 refine aU (fun _:Unit=>⟨[(1,.lptr 1 0 0),(2,.lptr 2 0 0),(3,.lptr 3 0 0)],
  [(1,some ⟨24,3,[nuC N d p]⟩),(2,some ⟨42,3,[zC]⟩),(3,some ⟨49,4,[[i64 0,.emp,i64 0,.emp]]⟩)],4,44⟩) (fun _=>True) ?_ ?_
 refine r_z 3 ?_;refine aq rfl (fun h1=>?_) (fun h1=>?_);have h2:D=0:=by simpa using h1
 have h3:d=1:=by rw[hd];unfold uF;rw[if_pos h2]
 refine r_m 2 ?_;refine a_z ?_;refine⟨(),trivial,?_⟩;rw[h3];have:=fD N 1 p;exact s_f [];have h2:¬D=0:=by simpa using h1
 have h3:d=D:=by rw[hd];unfold uF;rw[if_neg h2]
 refine ak ⟨(),trivial,?_⟩;rw[h3];have:=fD N D p;exact s_f [];rintro _ _;refine r_c 11 (hof) ?_;refine a_z ?_;refine r_c 7 (hro) ?_;refine a_z ?_;refine ac (r_d hmix 6 ?_);refine a_6 ?_;refine an (n_k ?_);refine ac (r_z 1 ?_)
 have hqs:qs q≤64:=by
  have hb:∀z:Int,-9223372036854775808≤z∧z≤9223372036854775808→bl z.natAbs≤64:=fun z h=>iW (k:=64) (by omega);rw[hq];by_cases hn:d< 0;rw[oe N d hn];exact gE (by omega) (hb (-N) (by omega)) (hb d (by omega));rw[od N d (by omega)];exact gE (by omega) (hb N (by omega)) (hb d (by omega))
 have hm4:(p:Int) % 4=((p % 4:Nat):Int):=by omega
 refine aI (fun _:Unit=>boT N d p q (p % 4)) (fun _=>True) ?_ ?_;refine am (aC (boT N d p q) (fun k=>p % 4- k) (fun k=>k≤p % 4) 0 (Nat.zero_le _) ?_ ?_);simp only[boT.eq_1,oJ];exact s_f [(4,4),(5,6),(6,7),(7,8)];rintro k hk;rw[boT.eq_1];refine ac (r_z 5 ?_);refine aq rfl (fun h=>?_) (fun h=>?_);refine ak ?_
 have hlt:k< p % 4:=by
  have h2:(k:Int)< (p:Int) % 4:=by simpa using h
  omega
 have hpk:=Cj q k;have hpk2:(k+1) * qs q≤4* 64:=Nat.mul_le_mul (by omega) hqs;refine ac (am (r_d hmix 8 ?_));refine c_s (dx (oJ q k) q (by omega)) ?_;refine c_s (rJ (rq (oJ q k)) (rq q) (cY _) (cY _) (by simp only[rq];omega)) ?_;refine a_2 ?_;refine an (n_k ?_);refine r_m 3 ?_;refine a_z ?_;refine⟨k+1,by omega,hlt,?_⟩;simp only[boT.eq_1];exact s_f []
 have hge:k=p % 4:=by
  have h2:¬(k:Int)< (p:Int) % 4:=by simpa using h
  omega
 subst hge;refine aA ⟨(),trivial,?_⟩;exact s_f [];rintro _ _;rw[boT.eq_1];refine ac (r_d hmix 4 ?_);refine a_4 ?_;refine an (n_k ?_);refine aj (Fin.many ⟨_,_,rfl,⟨_,_,_,_,_,rfl,rfl,rfl,.inl ⟨TG.h,_,TS.h,nle rfl,rfl⟩⟩,⟨_,_,rfl,⟨_,_,_,_,_,rfl,rfl,rfl,.inl ⟨TG.h,_,TS.h,nle rfl,rfl⟩⟩,rfl⟩⟩ (nle rfl) ?_);exact af (ah aB (aO _)) (af (ah aB (fj _)) ax)
end Go.Proofs.YtjgokhkahkmpbaaGreatDoor
