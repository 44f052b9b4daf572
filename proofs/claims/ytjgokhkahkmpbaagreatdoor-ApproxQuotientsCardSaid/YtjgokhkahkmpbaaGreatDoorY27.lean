/- Part Y27 of the proof. -/
import Derived.Test.YtjgokhkahkmpbaaGreatDoorY26
set_option linter.all false
namespace Go.Proofs.YtjgokhkahkmpbaaGreatDoor
open Go.Abs
set_option maxRecDepth 20000
def Ei(A D:Nat):Ln->Nat->Nat->AState
 |[],R,i=>⟨[(0,.arr (iE (zd A))),(1,.arr (iE (zd D))),(6,.emp),(7,.arr (iE (zd R))),(8,i64 i)],[],1,54⟩
 |q::Q,R,i=>⟨[(0,.arr (iE (zd A))),(1,.arr (iE (zd D))),(6,.lsl 1 0 (Q.length+1) none 1),(7,.arr (iE (zd R))),(8,i64 i)],[(1,some ⟨3,1,iE (q::Q)⟩)],2,54⟩
theorem iC(A D R i:Nat):Ei A D [] R i=⟨[(0,.arr (iE (zd A))),(1,.arr (iE (zd D))),(6,.emp),(7,.arr (iE (zd R))),(8,i64 i)],[],1,54⟩:=rfl
theorem fE(A D:Nat)(q:Nat)(Q:Ln)(R i:Nat):Ei A D (q::Q) R i=⟨[(0,.arr (iE (zd A))),(1,.arr (iE (zd D))),(6,.lsl 1 0 (Q.length+1) none 1),(7,.arr (iE (zd R))),(8,i64 i)],[(1,some ⟨3,1,iE (q::Q)⟩)],2,54⟩:=rfl
theorem F7{P D R a:Nat}(hD:0< D)(hR:R=P % D)(ha:a< UB):R* UB+a< UB* D/\(P* UB+a) / D=P/ D* UB+(R* UB+a) / D/\(P* UB+a) % D=(R* UB+a) % D/\(R* UB+a) / D< UB:=by
 have h1:=Nat.div_add_mod P D;have h2:=Nat.mod_lt P hD;rw[<-hR] at h1 h2
 have h3:R* UB+a< UB* D:=by
  have:(R+1) * UB<=D* UB:=Nat.mul_le_mul_right _ h2;rw[Nat.add_mul,Nat.one_mul,Nat.mul_comm D] at this;omega
 have h4:P* UB+a=D* (P/ D* UB)+(R* UB+a):=by
  conv=>lhs;rw[<-h1]
  rw[Nat.add_mul,Nat.mul_assoc,Nat.add_assoc]
 refine⟨h3,?_,?_,?_⟩;rw[h4,Nat.mul_add_div hD];rw[h4,Nat.mul_add_mod];rw[Nat.div_lt_iff_lt_mul hD];exact h3
theorem pO(A D:Nat)(hD:0< D)(hA:bl A<=4398046511104)(hb:bl D<=4398046511104):FS 175 [.arr (iE (zd A)),.arr (iE (zd D))] (.tup [.arr (iE (zd (A/ D))),.arr (iE (zd (A % D)))]):=by
 have hzA:=cP A;have hzD:=cP D;have hlD:=bR (b:=UB) δ D;have hlA:=bR (b:=UB) δ A;obtain⟨n,hn⟩:∃n,n=(zd D).length:=⟨_,rfl⟩
 have hn1:1<=n:=by
  have:zd D≠[]:=λh=>by have:=zd_eq_nil.1 h;omega
  have:=List.length_pos_iff.2 this;omega
 have hDn:UB^ (n- 1)<=D:=by
  rcases sd (b:=UB) (n:=D) δ with h|h
  rwa[<-hzD,<-hn] at h;omega
 refine f_c Tryz.func175 ?_;refine r_z 2 ?_;refine ac (r_z 5 ?_);refine aw rfl (λh=>?_) (λh=>?_);have hlt:(zd A).length< (zd D).length:=by have:=of_decide_eq_true h;omega
 have hAD:A< D:=jq (b:=UB) δ ω;refine r_z 3 ?_;refine an (Fin.many ⟨_,_,rfl,rfl,⟨_,_,rfl,rfl,rfl⟩⟩ (nle rfl) ?_);rw[Nat.div_eq_of_lt hAD,Nat.mod_eq_of_lt hAD,mT];exact af (Cv.emp _) (af (ah aE (eM _)) ax);have hge:n<=(zd A).length:=by have:=of_decide_eq_false h;omega
 refine am (r_z 1 ?_);obtain⟨P0,hP0⟩:∃P0,P0=hv ((zd A).take (n- 1)):=⟨_,rfl⟩
 have hP0D:P0< D:=by
  have h1:=DG (l:=(zd A).take (n- 1)) λd hd=>jb A d (List.mem_of_mem_take hd);rw[<-hP0] at h1;have h2:UB^ ((zd A).take (n- 1)).length<=UB^ (n- 1):=Nat.pow_le_pow_right δ χ;omega
 have hst:=iG ((zd A).take (n- 1)) χ;rw[fD (λd hd=>jb A d (List.mem_of_mem_take hd)),<-hP0] at hst;refine bi (λ_:Unit=>⟨[(0,.arr (iE (zd A))),(1,.arr (iE (zd D))),(6,.emp),(7,.arr (iE (zd P0)))],[],1,54⟩) (λ_=>True) ?_ ?_;by_cases hn2:n=1;rw[hn2] at hst;refine r_m 8 ?_;refine a_4 ?_;refine o_0 (.sa_h rfl rfl (h:=0) ω ψ te_45.h (lC _)) ?_;refine o_0 (.append0 rfl rfl rfl te_45.h rfl rfl rfl (.arr (es:=[]) ψ)) ?_;refine c_s (hst) ?_;refine a_z ?_;refine⟨(),trivial,?_⟩;exact s_e []
 ·have hne:(iE (zd A)).take (n- 1)≠[]:=λh=>by
   have:=congrArg List.length h;rw[List.length_take,qS,List.length_nil] at this;omega
  have hfull:List.take ((iE (zd A)).take (n- 1)).length (List.drop 0 ((iE (zd A)).take (n- 1)))=iE ((zd A).take (n- 1)):=by rw[List.drop_zero,List.take_length,iE_take]
  refine r_m 8 ?_;refine a_4 ?_;refine o_0 (.sa_h rfl rfl (h:=n- 1) ω χ te_45.h (lC _)) ?_;refine o_1 (.append_e rfl rfl rfl te_45.h rfl rfl rfl (.arr (λe he=>lC _ e (List.mem_of_mem_take he))) (by first|assumption|(simp;done)) TZ.h rfl TB.h d_o μ) ?_;refine o_1 (.callS1 rfl rfl rfl (.shut rfl d_n (.nil)) rfl ((by rw[hfull];exact hst))) ?_;refine a_z ?_;refine⟨(),trivial,?_⟩;exact s_e []
 rintro _ _;refine ac (r_z 4 ?_);refine aG (λx:Ln×Nat=>Ei A D x.1 x.2 (zd A).length) (λx=>(∀d∈x.1,d< UB)/\hv x.1=A/ D/\x.2=A % D/\x.1.length<=(zd A).length) ?_ ?_;refine ak (aC (λx:Ln×Nat×Nat=>Ei A D x.1 x.2.1 x.2.2) (λx=>(zd A).length- x.2.2) (λx=>x.2.2<=(zd A).length/\(∀d∈x.1,d< UB)/\hv x.1=hv ((zd A).take x.2.2) / D/\x.2.1=hv ((zd A).take x.2.2) % D/\x.1.length<=x.2.2) ([],P0,n- 1) ⟨by simp only;omega,ψ,by simp only;rw[<-hP0,Nat.div_eq_of_lt hP0D];rfl,by simp only;rw[<-hP0,Nat.mod_eq_of_lt hP0D],ψ⟩ ?_ ?_);simp only[iC];exact s_e [];rintro⟨Q,R,i⟩ ⟨hi,hQd,hQ,hR,hQl⟩;simp only at hi hQd hQ hR hQl
 -- the head,whatever the quotient so far
 by_cases hlt:i< (zd A).length
 ·obtain⟨a,hai⟩:∃a,(zd A)[i]?=some a:=⟨_,List.getElem?_eq_getElem hlt⟩
  have ha:a< UB:=jb A a (List.mem_of_getElem? hai);have hai':(iE (zd A))[((i:Nat):Int).toNat]?=some [i64 a]:=j8 hai;have hPs:hv ((zd A).take (i+1))=hv ((zd A).take i) * UB+a:=by rw[dO hai,pH]
  obtain⟨P,hP⟩:∃P,P=hv ((zd A).take i):=⟨_,rfl⟩;rw[<-hP] at hQ hR hPs;obtain⟨s1,s2,s3,s4⟩:=F7 hD hR ha;have hRD:R< D:=by rw[hR];exact Nat.mod_lt _ hD
  have hlR:=bR (b:=UB) δ R;have hbR:=dL (Nat.le_of_lt hRD);have hzR:=cP R;have hsh:=Hf (R* UB+a) D hD s1 hb;cases Q with
  |nil=>
   simp only[iC];refine ac (r_z 4 ?_);refine aw rfl (λh=>?_) (λh=>?_);rotate_left;exact absurd h χ;refine am (ac (ak (bi (λ_:Unit=>Ei A D [] (R* UB+a) i) (λ_=>True) ?_ ?_)));by_cases hR0:R=0;subst hR0;have hst1:=iG [a] ψ;rw[fD (by simpa using ha),show hv [a]=0* UB+a by rw[pI,uj];simp] at hst1;rw[mT];refine r_d hmix 10 ?_;refine a_1 ?_;refine o_0 (.append0 rfl rfl rfl te_45.h rfl rfl rfl (.arr (es:=[]) ψ)) ?_;refine a_2 ?_;refine i_x hai' ?_;refine l_1 hai' ?_;refine a_2 ?_;refine o_1 (.callS1 rfl rfl rfl (.shut rfl d_n (.nil)) rfl ((FSpec.argE hst1 rfl))) ?_;refine a_1 ?_;refine ao (n_k ?_);refine⟨(),trivial,?_⟩;simp only[iC];exact s_e []
   ·have hne:iE (zd R)≠[]:=λh=>by
     have h1:=congrArg List.length h;rw[qS,List.length_nil,List.length_eq_zero_iff] at h1;exact hR0 (zd_eq_nil.1 h1)
    have hd2:∀d∈zd R++[a],d< UB:=λd hd=>by
     rcases List.mem_append.1 hd with hd|hd
     exact jb R d hd;simp at hd;rw[hd];exact ha
    have hst1:=iG (zd R++[a]) χ;rw[fD hd2,pH,jT] at hst1;refine r_d hmix 10 ?_;refine a_1 ?_;refine o_1 (.append_e rfl rfl rfl te_45.h rfl rfl rfl (.arr (lC _)) (by first|assumption|(simp;done)) TZ.h rfl TB.h d_o μ) ?_;refine a_2 ?_;refine i_x hai' ?_;refine l_1 hai' ?_;refine a_2 ?_;refine o_1 (.callS1 rfl rfl rfl (.shut rfl d_n (.nil)) rfl ((FSpec.argE hst1 (by rw[List.drop_zero,List.take_of_length_le ψ];simp[iE,i64])))) ?_;refine a_1 ?_;refine ao (n_k ?_);refine⟨(),trivial,?_⟩;simp only[iC];exact s_e []
   rintro _ _;simp only[iC];refine r_z 1 ?_;refine r_c 8 (hsh) ?_;refine a_z ?_;refine r_m 5 ?_;refine a_z ?_;refine r_m 3 ?_;refine a_z ?_;refine⟨([(R* UB+a) / D],(R* UB+a) % D,i+1),by simp only;omega,⟨by simp only;omega,by simpa using s4,?_,?_,ψ⟩,?_⟩;simp only;rw[hPs,s2,<-hQ,pI,uj];simp;simp only;rw[hPs,s3];simp only[fE];exact s_e [(1,6)]
  |cons q Q=>
   simp only[fE];refine ac (r_z 4 ?_);refine aw rfl (λh=>?_) (λh=>?_);rotate_left;exact absurd h χ;refine am (ac (ak (bi (λ_:Unit=>Ei A D (q::Q) (R* UB+a) i) (λ_=>True) ?_ ?_)));by_cases hR0:R=0;subst hR0;have hst1:=iG [a] ψ;rw[fD (by simpa using ha),show hv [a]=0* UB+a by rw[pI,uj];simp] at hst1;rw[mT];refine r_d hmix 10 ?_;refine a_1 ?_;refine o_0 (.append0 rfl rfl rfl te_45.h rfl rfl rfl (.arr (es:=[]) ψ)) ?_;refine a_2 ?_;refine i_x hai' ?_;refine l_1 hai' ?_;refine a_2 ?_;refine o_1 (.callS1 rfl rfl rfl (.shut rfl d_n (.nil)) rfl ((FSpec.argE hst1 rfl))) ?_;refine a_1 ?_;refine ao (n_k ?_);refine⟨(),trivial,?_⟩;simp only[fE];exact s_e []
   ·have hne:iE (zd R)≠[]:=λh=>by
     have h1:=congrArg List.length h;rw[qS,List.length_nil,List.length_eq_zero_iff] at h1;exact hR0 (zd_eq_nil.1 h1)
    have hd2:∀d∈zd R++[a],d< UB:=λd hd=>by
     rcases List.mem_append.1 hd with hd|hd
     exact jb R d hd;simp at hd;rw[hd];exact ha
    have hst1:=iG (zd R++[a]) χ;rw[fD hd2,pH,jT] at hst1;refine r_d hmix 10 ?_;refine a_1 ?_;refine o_1 (.append_e rfl rfl rfl te_45.h rfl rfl rfl (.arr (lC _)) (by first|assumption|(simp;done)) TZ.h rfl TB.h d_o μ) ?_;refine a_2 ?_;refine i_x hai' ?_;refine l_1 hai' ?_;refine a_2 ?_;refine o_1 (.callS1 rfl rfl rfl (.shut rfl d_n (.nil)) rfl ((FSpec.argE hst1 (by rw[List.drop_zero,List.take_of_length_le ψ];simp[iE,i64])))) ?_;refine a_1 ?_;refine ao (n_k ?_);refine⟨(),trivial,?_⟩;simp only[fE];exact s_e []
   rintro _ _;simp only[fE];refine r_z 1 ?_;refine r_c 8 (hsh) ?_;refine a_z ?_;have hQl':Q.length+1<=i:=by simpa using hQl
   refine r_m 5 ?_;refine a_z ?_;refine r_m 3 ?_;refine a_z ?_;refine⟨(q::(Q++[(R* UB+a) / D]),(R* UB+a) % D,i+1),by simp only;omega,⟨by simp only;omega,?_,?_,?_,by simp at hQl⊢;omega⟩,?_⟩;intro d hd;rcases List.mem_append.1 (show d∈(q::Q)++[(R* UB+a) / D] from hd) with hd|hd
   exact hQd d hd;simp at hd;rw[hd];exact s4;simp only;rw[hPs,s2,<-hQ,<-pH];rfl;simp only;rw[hPs,s3];simp only[fE];have e:iE (q::Q)++List.take 1 (List.drop 0 [[i64 ((R* UB+a) / D:Nat)]])=iE (q::(Q++[(R* UB+a) / D])):=by simp[iE]
   exact s_x [(1,6)] (λhs=>cN) (λhs=>e_42) e_2
 have hge:i=(zd A).length:=ω
 subst hge;rw[List.take_length,jT] at hQ hR;cases Q with
 |nil=>
  simp only[iC];refine ac (r_z 4 ?_);refine aw rfl (λh=>?_) (λh=>?_);exact absurd h ψ;refine aB ⟨([],R),⟨hQd,hQ,hR,hQl⟩,?_⟩;simp only[iC];exact s_e []
 |cons q Q=>
  simp only[fE];refine ac (r_z 4 ?_);refine aw rfl (λh=>?_) (λh=>?_);exact absurd h ψ;refine aB ⟨(q::Q,R),⟨hQd,hQ,hR,hQl⟩,?_⟩;simp only[fE];exact s_e []
 rintro⟨Q,R⟩ ⟨hQd,hQ,hR,hQl⟩;simp only at hQd hQ hR hQl;have hsq:=iG Q ω;rw[fD hQd,hQ] at hsq;subst hR;cases Q with
 |nil=>
  simp only[iC];refine r_c 5 (hsq) ?_;refine a_z ?_;refine an (Fin.many ⟨_,_,rfl,rfl,⟨_,_,rfl,rfl,rfl⟩⟩ (nle rfl) ?_);exact af (ah aE (eM _)) (af (ah aE (eM _)) ax)
 |cons q Q=>
  simp only[fE];have hfull:List.take (Q.length+1) (List.drop 0 (iE (q::Q)))=iE (q::Q):=by rw[List.drop_zero,List.take_of_length_le ψ]
  refine s_r 5 ?_;refine a_1 ?_;refine o_1 (.callS1 rfl rfl rfl (.shut rfl d_n (.nil)) rfl ((by rw[hfull];exact hsq))) ?_;refine a_z ?_;refine an (Fin.many ⟨_,_,rfl,rfl,⟨_,_,rfl,rfl,rfl⟩⟩ (nle rfl) ?_);exact af (ah aE (eM _)) (af (ah aE (eM _)) ax)
def zgS:Nat×Nat->AState
 |(p,q)=>⟨[(4,.lptr 1 0 0),(5,.arr (iE (zd p))),(6,.arr (iE (zd q)))],[(1,some ⟨47,2,[[i64 0,.emp]]⟩)],2,48⟩
theorem l5(p:Nat)(q:Nat):zgS (p,q)=⟨[(4,.lptr 1 0 0),(5,.arr (iE (zd p))),(6,.arr (iE (zd q)))],[(1,some ⟨47,2,[[i64 0,.emp]]⟩)],2,48⟩:=rfl
def zgW:Nat×Nat->AState
 |(x,y)=>⟨[(4,.lptr 1 0 0),(7,i64 x),(8,i64 y)],[(1,some ⟨47,2,[[i64 0,.emp]]⟩)],2,48⟩
theorem tc(x:Nat)(y:Nat):zgW (x,y)=⟨[(4,.lptr 1 0 0),(7,i64 x),(8,i64 y)],[(1,some ⟨47,2,[[i64 0,.emp]]⟩)],2,48⟩:=rfl
theorem vC(p q:Nat):Nat.gcd q (p % q)=Nat.gcd p q:=by
 rw[Nat.gcd_comm p q,Nat.gcd_rec q p,Nat.gcd_comm]
theorem vB{n:Nat}(h:(zd n).length<=4):n< 1152921504606846976:=by
 have h1:=DG (jb n);rw[jT] at h1;exact Nat.lt_of_lt_of_le h1 (Nat.pow_le_pow_right (n:=32768) (j:=4) δ h)
theorem fs_ZGcd(x y:Int)(hx:bl x.natAbs<=4398046511104)(hy:bl y.natAbs<=4398046511104):FS 174 [.agg (zZ x),.agg (zZ y)] (.agg (zZ (Nat.gcd x.natAbs y.natAbs:Nat))):=by
 refine f_c Tryz.func174 ?_;refine r_z 3 ?_;refine ac (r_d hmix 6 ?_);refine a_6 ?_;refine ao (n_k ?_);refine bi (λp:Nat=>zgS (p,0)) (λp=>p=Nat.gcd x.natAbs y.natAbs) ?_ ?_;refine ak (aC zgS (λv=>v.2) (λv=>Nat.gcd v.1 v.2=Nat.gcd x.natAbs y.natAbs/\bl v.1<=4398046511104/\bl v.2<=4398046511104) (x.natAbs,y.natAbs) ⟨rfl,hx,hy⟩ ?_ ?_);simp only[l5];exact s_e [(1,4)];rintro⟨p,q⟩ ⟨hg,hp,hq⟩;simp only at hg hp hq;have hzp:=cP p;have hzq:=cP q;have hlp:=bR (b:=UB) δ p;have hlq:=bR (b:=UB) δ q;rw[l5];refine ac (r_z 3 ?_);refine aw rfl (λh=>?_) (λh=>?_)
 have hq0:0< q:=by
  rcases Nat.eq_zero_or_pos q with e|e
  subst e;rw[mT] at h;simp at h;exact e
 refine am (ak (bi (λ_:Unit=>zgS (p,q)) (λ_=>True) ?_ ?_));by_cases hl:(zd p).length<=4;by_cases hl2:(zd q).length<=4;have hwp:=vB hl;have hwq:=vB hl2;have hsp:=um (zd p) hl (jb p);have hsq:=um (zd q) hl2 (jb q);rw[jT] at hsp hsq;refine s_r 8 ?_;refine a_4 ?_;refine y_g rfl χ (.move rfl) ?_
 first|refine y_g rfl χ (.lenD rfl rfl rfl rfl te_45.h) ?_|refine y_g rfl χ (.lenI rfl rfl rfl rfl te_45.h) ?_|refine y_g rfl χ (.lenP rfl rfl rfl rfl te_45.h) ?_|refine y_g rfl χ (.lenC rfl rfl rfl rfl te_45.h) ?_|refine y_g rfl χ (.lenR rfl rfl rfl rfl te_45.h) ?_|refine y_g rfl χ (.len rfl rfl rfl rfl rfl te_45.h) ?_
 refine y_g rfl χ (.bin rfl rfl cO) ?_;refine o_0 (.pickT rfl χ rfl) ?_;refine ao ?_;refine aw rfl (λh1=>?_) (λh1=>?_);refine r_c 6 (hsp) ?_;refine c_s (hsq) ?_;refine a_z ?_;refine bi (λv:Nat=>zgW (v,0)) (λv=>v=Nat.gcd x.natAbs y.natAbs) ?_ ?_;refine ak (aC zgW (λv=>v.2) (λv=>Nat.gcd v.1 v.2=Nat.gcd x.natAbs y.natAbs/\v.1< 1152921504606846976/\v.2< 1152921504606846976) (p,q) ⟨hg,hwp,hwq⟩ ?_ ?_);simp only[tc];exact s_e [];rintro⟨u,v⟩ ⟨huv,hu,hv⟩;simp only at huv hu hv;rw[tc];refine ac (r_z 2 ?_);refine aw rfl (λh2=>?_) (λh2=>?_);have hv0:0< v:=by simp at h2;omega
 refine am (ak (r_d hmix 6 ?_));refine a_6 ?_;refine ao (n_k ?_);refine⟨(v,u % v),Nat.mod_lt _ hv0,⟨(vC u v).trans huv,hv,Nat.lt_trans (Nat.mod_lt _ hv0) hv⟩,?_⟩;simp only[tc];exact s_e [];have hv0:v=0:=by simp at h2;omega
 subst hv0;refine aB ⟨u,by simpa using huv,?_⟩;simp only[tc];exact s_e [];rintro v hv;rw[tc]
 have hv64:v< 1152921504606846976:=by
  rw[hv,<-hg];have h1:Nat.gcd p q<=q:=Nat.gcd_le_right _ hq0;omega
 refine r_c 3 (lH v ω) ?_;refine a_z ?_;refine an (dA rfl rfl rfl TG.h TS.h (nle rfl) ?_ ?_);rw[<-hv];rfl;exact dk _;exact absurd h1 χ;refine s_r 8 ?_;refine a_4 ?_;refine y_g rfl χ (.move rfl) ?_
 first|refine y_g rfl χ (.lenD rfl rfl rfl rfl te_45.h) ?_|refine y_g rfl χ (.lenI rfl rfl rfl rfl te_45.h) ?_|refine y_g rfl χ (.lenP rfl rfl rfl rfl te_45.h) ?_|refine y_g rfl χ (.lenC rfl rfl rfl rfl te_45.h) ?_|refine y_g rfl χ (.lenR rfl rfl rfl rfl te_45.h) ?_|refine y_g rfl χ (.len rfl rfl rfl rfl rfl te_45.h) ?_
 refine y_g rfl χ (.bin rfl rfl cO) ?_;refine o_0 (.pickT rfl χ rfl) ?_;refine ao ?_;refine aw rfl (λh=>?_) (λ_=>am ⟨(),trivial,?_⟩);exact absurd h χ;simp only[l5];exact s_e [];refine s_r 8 ?_;refine a_4 ?_;refine n_g rfl χ ?_;refine n_g rfl χ ?_;refine n_g rfl χ ?_;refine o_0 (.pickF rfl χ rfl) ?_;refine ao ?_;refine aw rfl (λh=>?_) (λ_=>am ⟨(),trivial,?_⟩);cases h;simp only[l5];exact s_e [];rintro _ _;rw[l5];refine r_c 8 (pO p q hq0 hp hq) ?_;refine a_z ?_;refine r_m 4 ?_;refine a_z ?_;refine⟨(q,p % q),Nat.mod_lt _ hq0,⟨(vC p q).trans hg,hq,?_⟩,?_⟩;have:=dL (Nat.le_of_lt (Nat.mod_lt p hq0));simp only;omega;simp only[l5];exact s_e []
 have hq0:q=0:=by
  refine zd_eq_nil.1 (List.length_eq_zero_iff.1 ?_);have:=of_decide_eq_false h;omega
 subst hq0;refine aB ⟨p,by simpa using hg,?_⟩;simp only[l5];exact s_e [];rintro p hp;rw[l5]
 have hbp:bl p<=4398046511104:=by
  rw[hp];rcases Nat.eq_zero_or_pos y.natAbs with e|e
  rw[e,Nat.gcd_zero_right];exact hx;exact Nat.le_trans (dL (Nat.gcd_le_right _ e)) hy
 have hzp:=cP p;have hlp:=bR (b:=UB) δ p;refine r_c 3 (jU 1 (zd p) (p:Int) ω (jb p) (by rw[jT,Int.natAbs_natCast]) (λh=>by unfold sgZ;rw[if_neg h,if_neg ω])) ?_;refine a_z ?_;refine an (dA rfl rfl rfl TG.h TS.h (nle rfl) ?_ ?_);rw[<-hp];rfl;exact dk _
theorem fR(x:RQ)(hx:rok x):FS 50 [.agg (rC x)] (.agg (zZ (x.1.den:Int))):=by
 refine f_c Tryz.func50 ?_;refine r_z 2 ?_;refine ac (r_z 4 ?_);obtain⟨q,f⟩:=x;have hp:=q.den_pos;cases f with
 |true=>
  have h0:q=0:=hx rfl;subst h0;refine aw (t:=true) rfl (λh=>?_) (λh=>?_);refine r_c 2 (lH 1 δ) ?_;refine a_z ?_;exact an (c_e (dk _));cases h
 |false=>
  refine aw rfl (λh=>?_) (λh=>?_);exfalso;have h1:sgZ (q.den:Int)=0:=by simpa using h
  rcases dm (q.den:Int) with⟨a,b⟩|⟨a,b⟩|⟨a,b⟩<;> omega
  refine am (r_z 3 ?_);exact an (c_e (dk _))
theorem zd_one:zd 1=[1]:=by
 unfold zd;rw[ez δ δ,show 1/ UB=0 by decide,cz];rfl
theorem zZ_one{g:Nat}(h:g=1):zZ (g:Int)=[i64 1,.arr [[i64 1]]]:=by
 subst h;show [i64 (sgZ 1),AV.arr (iE (zd 1))]=_;rw[zd_one];rfl
theorem D8{g:Nat}(h:(zd g).length=1):zd g=[g]:=by
 obtain⟨a,ha⟩:=List.length_eq_one_iff.1 h;have h1:=jT g;rw[ha,pI,uj] at h1;simp at h1;rw[ha,h1]
theorem vD{n:Nat}(h:bl n<=4398046511104):(zd n).length<=281474976710656:=by
 rw[cP];have:=bR (b:=UB) δ n;omega
def ratS(n':Int)(D g:Nat):AState:=⟨[(2,.lptr 1 0 0),(3,.lptr 2 0 0),(4,.lptr 3 0 0),(5,.lptr 4 0 0)],[(1,some ⟨47,2,[zZ n']⟩),(2,some ⟨47,2,[zZ (D:Int)]⟩),(3,some ⟨49,4,[[i64 0,.emp,i64 0,.emp]]⟩),(4,some ⟨47,2,[zZ (g:Int)]⟩)],5,57⟩
theorem pW(n d:Int)(hd:d≠0)(hn:bl n.natAbs<=4398046511104)(hb:bl d.natAbs<=4398046511104):FS 118 [.agg (zZ n),.agg (zZ d)] (.agg (rC (rq (Rat.divInt n d)))):=by
 refine f_c Tryz.func118 ?_;refine r_z 3 ?_;refine bi (λn':Int=>⟨[(2,.lptr 1 0 0),(3,.lptr 2 0 0),(4,.lptr 3 0 0)],[(1,some ⟨47,2,[zZ n']⟩),(2,some ⟨47,2,[zZ (d.natAbs:Int)]⟩),(3,some ⟨49,4,[[i64 0,.emp,i64 0,.emp]]⟩)],4,57⟩) (λn'=>n'.natAbs=n.natAbs/\Rat.divInt n d=mkRat n' d.natAbs) ?_ ?_;refine r_z 3 ?_;refine aw rfl (λh=>?_) (λh=>?_)
 have hneg:d< 0:=by
  have h1:sgZ d< 0:=by simpa using h
  rcases dm d with⟨a,b⟩|⟨a,b⟩|⟨a,b⟩<;> omega
 have e: -d=(d.natAbs:Int):=ω
 have hdn:=xL d;rw[e] at hdn;refine r_d hmix 6 ?_;refine c_s (xL n) ?_;refine c_s (hdn) ?_;refine a_2 ?_;refine ao (n_k ?_);refine⟨-n,⟨ω,oq n d hneg⟩,?_⟩;exact s_e []
 have hpos:0< d:=by
  have h1:¬sgZ d< 0:=by simpa using h
  rcases dm d with⟨a,b⟩|⟨a,b⟩|⟨a,b⟩<;> omega
 have e:d=(d.natAbs:Int):=ω
 refine am ⟨n,⟨rfl,oo n d hpos⟩,?_⟩;rw[<-e];exact s_e [];rintro n' ⟨hna,hv⟩;have hD:0< d.natAbs:=ω
 obtain⟨D,hDd⟩:∃D,D=d.natAbs:=⟨_,rfl⟩;rw[hv];rw[<-hDd] at hb hD⊢;rw[<-hna] at hn;obtain⟨g,hg⟩:∃g,g=Nat.gcd n'.natAbs D:=⟨_,rfl⟩;have hgp:0< g:=by rw[hg];exact Nat.gcd_pos_of_pos_right _ hD
 have hgD:g<=D:=by rw[hg];exact Nat.gcd_le_right _ hD
 have hbg:=dL hgD;have hnum:(mkRat n' D).num.natAbs=n'.natAbs/ g:=by rw[jp hD,fq,hg]
 have hden:(mkRat n' D).den=D/ g:=by rw[(kH hD).2,hg]
 have hsg:=Ee (n:=n') hD;have hgc:=fs_ZGcd n' (D:Int) hn (by rw[Int.natAbs_natCast];exact hb);rw[Int.natAbs_natCast,<-hg] at hgc
 have hfin:rC (rq (mkRat n' D))=zZ (sgn (decide (n'< 0)) (n'.natAbs/ g))++zZ ((D/ g:Nat):Int):=by
  rw[Gf,hden,jp hD,<-hg]
 rw[hfin];have hgn:bl (D/ g)<=bl D:=eP D g;have hgn2:bl (n'.natAbs/ g)<=bl n'.natAbs:=eP n'.natAbs g;refine r_c 5 (hgc) ?_;refine a_z ?_;refine bi (λ_:Unit=>ratS n' D g) (λ_=>g≠1) ?_ ?_;by_cases h1:g=1;rw[zZ_one h1];refine s_r 11 ?_;refine a_5 ?_
 first|refine y_g rfl rfl (.fieldAddr_l rfl TF.h δ) ?_|refine y_g rfl rfl (.fieldAddr_a rfl TF.h δ) ?_
 first|refine y_g rfl rfl (.load_l1 rfl rfl rfl TG.h rfl) ?_|refine y_g rfl rfl (.load_a1 rfl rfl TG.h rfl) ?_
 first|refine y_g rfl rfl (.index_l rfl rfl ω ω te_45.h) ?_|refine y_g rfl rfl (.index_a rfl rfl ω rfl rfl te_45.h) ?_
 first|refine y_g rfl rfl (.load_l1 rfl rfl rfl TG.h rfl) ?_|refine y_g rfl rfl (.load_a1 rfl rfl TG.h rfl) ?_
 refine y_g rfl rfl (.bin rfl rfl aM) ?_;refine o_0 (.pickT rfl rfl rfl) ?_;refine ao ?_;refine aw rfl (λh=>?_) (λh=>?_);refine r_z 4 ?_;refine an ?_;rw[h1,Nat.div_one,Nat.div_one,show sgn (decide (n'< 0)) n'.natAbs=n' by unfold sgn;by_cases h0:n'< 0 <;> simp[h0]<;> omega];exact c_e (aN λc hc=>(List.mem_append.1 hc).elim (dV _ c) (dV _ c));exact absurd h δ;by_cases hl:(zd g).length=1;have hz:=D8 hl;have hz2:zZ (g:Int)=[i64 (sgZ (g:Int)),.arr (iE [g])]:=by show [i64 (sgZ (g:Int)),AV.arr (iE (zd g))]=_;rw[hz]
 rw[hz2];refine s_r 11 ?_;refine a_5 ?_
 first|refine y_g rfl rfl (.fieldAddr_l rfl TF.h δ) ?_|refine y_g rfl rfl (.fieldAddr_a rfl TF.h δ) ?_
 first|refine y_g rfl rfl (.load_l1 rfl rfl rfl TG.h rfl) ?_|refine y_g rfl rfl (.load_a1 rfl rfl TG.h rfl) ?_
 first|refine y_g rfl rfl (.index_l rfl rfl ω ω te_45.h) ?_|refine y_g rfl rfl (.index_a rfl rfl ω rfl rfl te_45.h) ?_
 first|refine y_g rfl rfl (.load_l1 rfl rfl rfl TG.h rfl) ?_|refine y_g rfl rfl (.load_a1 rfl rfl TG.h rfl) ?_
 refine y_g rfl rfl (.bin rfl rfl aM) ?_;refine o_0 (.pickT rfl rfl rfl) ?_;refine ao ?_;refine aw rfl (λh=>?_) (λh=>?_);exact absurd h χ;refine am ⟨(),h1,?_⟩;rw[<-hz2];unfold ratS;exact s_e [(4,5)];refine s_r 11 ?_;refine a_5 ?_;refine n_g rfl χ ?_;refine n_g rfl χ ?_;refine n_g rfl χ ?_;refine n_g rfl χ ?_;refine n_g rfl χ ?_;refine o_0 (.pickF rfl χ rfl) ?_;refine ao ?_;refine aw rfl (λh=>?_) (λh=>?_);exact absurd h ψ;refine am ⟨(),h1,?_⟩;unfold ratS;exact s_e [(4,5)];rintro _ hg1;unfold ratS;have hzq:=jU (sgZ n') (zd (n'.natAbs/ g)) (sgn (decide (n'< 0)) (n'.natAbs/ g)) (vD ω) (jb _) (by rw[jT,fq]) (λh=>by rw[<-hsg,jp hD,<-hg]);have hzd:=jU 1 (zd (D/ g)) ((D/ g:Nat):Int) (vD ω) (jb _) (by rw[jT,Int.natAbs_natCast]) (λh=>by unfold sgZ;rw[if_neg h,if_neg ω]);refine r_c 10 (pO n'.natAbs g hgp hn ω) ?_;refine a_z ?_;refine r_c 10 (pO D g hgp hb ω) ?_;refine a_z ?_;refine r_c 8 (hzq) ?_;refine c_s (hzd) ?_;refine a_z ?_;exact an (c_e (aN λc hc=>(List.mem_append.1 hc).elim (dV _ c) (dV _ c)))
theorem ja{z:Int}{k:Nat}(h:bl z.natAbs<=k)(hk:k<=8796093022208):zl z:=Nat.le_trans h hk
theorem xF(n:Int)(h: -9223372036854775808<=n/\n<=9223372036854775807):FS 59 [i64 n] (.agg (rC (rq (n:Rat)))):=by
 rw[Gf];refine f_c Tryz.func59 ?_;refine r_z 1 ?_;refine r_c 5 (lH n h) ?_;refine c_s (lH 1 δ) ?_;refine a_z ?_;exact an (c_e (aN λc hc=>(List.mem_append.1 hc).elim (dV _ c) (dV _ c)))
theorem fs_rOf(n d:Int)(hd:d≠0)(h: -9223372036854775808<=n/\n<=9223372036854775807)(h2: -9223372036854775808<=d/\d<=9223372036854775807):FS 54 [i64 n,i64 d] (.agg (rC (rq (Rat.divInt n d)))):=by
 have hb:∀z:Int,-9223372036854775808<=z->z<=9223372036854775807->bl z.natAbs<=4398046511104:=λz h1 h2=>Nat.le_trans (jc (k:=64) ω) δ;refine f_c Tryz.func54 ?_;refine r_z 1 ?_;refine r_c 6 (lH n h) ?_;refine c_s (lH d h2) ?_;refine c_s (pW n d hd (hb n h.1 h.2) (hb d h2.1 h2.2)) ?_;refine a_z ?_;exact an (c_e (gr _))
theorem DO(x:RQ)(hx:rok x):FS 57 [.agg (rC x)] (.agg (rC (rq (-x.1)))):=by
 rw[Gf,Rat.neg_num,Rat.neg_den];refine f_c Tryz.func57 ?_;refine r_z 2 ?_;refine ac (r_d hmix 7 ?_);refine c_s (xL x.1.num) ?_;refine c_s (fR x hx) ?_;refine a_2 ?_;refine ao (n_k ?_);exact an (c_e (aN λc hc=>(List.mem_append.1 hc).elim (dV _ c) (dV _ c)))
theorem pQ(x:RQ):FS 104 [.agg (rC x)] (i64 (sgZ x.1.num)):=by
 refine f_c Tryz.func104 ?_;refine r_z 2 ?_;refine r_z 4 ?_;exact an (t_e (ag _))
theorem pR(x y:RQ)(hx:rok x)(hy:rok y)(h:qs x.1+qs y.1<=1099511627776):FS 65 [.agg (rC x),.agg (rC y)] (.agg (rC (rq (x.1+y.1)))):=by
 obtain⟨a,fa⟩:=x;obtain⟨b,fb⟩:=y;simp only at h⊢;have hp:=rD a b;have h1:=dB a;have h2:=dp a;have h3:=dB b;have h4:=dp b;have e1:=eC (x:=a.num) (y:=b.den) h1 (by simpa using h4);have e2:=eC (x:=b.num) (y:=a.den) h3 (by simpa using h2);have e3:=hp.1;have e4:=hp.2;have hd:(a.den:Int) * b.den≠0:=by have:=kN a b;rw[<-Int.natCast_mul];omega
 have e:a+b=Rat.divInt (a.num* b.den+b.num* a.den) (a.den* b.den):=by
  rw[rF,<-Int.natCast_mul,<-Rat.divInt_ofNat]
 rw[e];have e5:bl ((a.den:Int) * b.den).natAbs<=qs a+qs b:=by rw[<-Int.natCast_mul,Int.natAbs_natCast];exact e4
 refine f_c Tryz.func65 ?_;refine r_z 3 ?_;refine ac (r_d hmix 18 ?_);refine c_s (fR (b,fb) hy) ?_;refine c_s (jW a.num b.den (ja h1 ω) (ja (by simpa using h4) ω)) ?_;refine c_s (fR (a,fa) hx) ?_;refine c_s (jW b.num a.den (ja h3 ω) (ja (by simpa using h2) ω)) ?_;refine c_s (fs_ZAdd (a.num* b.den) (b.num* a.den) (ja e1 ω) (ja e2 ω)) ?_;refine c_s (fR (a,fa) hx) ?_;refine c_s (fR (b,fb) hy) ?_;refine c_s (jW a.den b.den (ja (by simpa using h2) ω) (ja (by simpa using h4) ω)) ?_;refine c_s (pW (a.num* b.den+b.num* a.den) (a.den* b.den) hd ω ω) ?_;refine a_1 ?_;refine ao (n_k ?_);exact an (c_e (gr _))
theorem fs_rSub(x y:RQ)(hx:rok x)(hy:rok y)(h:qs x.1+qs y.1<=1099511627776):FS 119 [.agg (rC x),.agg (rC y)] (.agg (rC (rq (x.1- y.1)))):=by
 rw[Rat.sub_eq_add_neg];refine f_c Tryz.func119 ?_;refine r_z 3 ?_;refine ac (r_d hmix 5 ?_);refine c_s (DO y hy) ?_;refine c_s (pR x (rq (-y.1)) hx (ft _) (by simp only[rq,ij];exact h)) ?_;refine a_1 ?_;refine ao (n_k ?_);exact an (c_e (gr _))
theorem xE(x y:RQ)(hx:rok x)(hy:rok y)(h:qs x.1+qs y.1<=1099511627776):FS 52 [.agg (rC x),.agg (rC y)] (.agg (rC (rq (x.1* y.1)))):=by
 obtain⟨a,fa⟩:=x;obtain⟨b,fb⟩:=y;simp only at h⊢;have hp:=qK a b;have h1:=dB a;have h2:=dp a;have h3:=dB b;have h4:=dp b;have e3:=hp.1;have e4:=hp.2;have hd:(a.den:Int) * b.den≠0:=by have:=kN a b;rw[<-Int.natCast_mul];omega
 have e:a* b=Rat.divInt (a.num* b.num) (a.den* b.den):=by
  rw[nn,<-Int.natCast_mul,<-Rat.divInt_ofNat]
 rw[e];have e5:bl ((a.den:Int) * b.den).natAbs<=qs a+qs b:=by rw[<-Int.natCast_mul,Int.natAbs_natCast];exact e4
 refine f_c Tryz.func52 ?_;refine r_z 3 ?_;refine ac (r_d hmix 12 ?_);refine c_s (jW a.num b.num (ja h1 ω) (ja h3 ω)) ?_;refine c_s (fR (a,fa) hx) ?_;refine c_s (fR (b,fb) hy) ?_;refine c_s (jW a.den b.den (ja (by simpa using h2) ω) (ja (by simpa using h4) ω)) ?_;refine c_s (pW (a.num* b.num) (a.den* b.den) hd ω ω) ?_;refine a_1 ?_;refine ao (n_k ?_);exact an (c_e (gr _))
theorem DP(x y:RQ)(hx:rok x)(hy:rok y)(hy0:y.1≠0)(h:qs x.1+qs y.1<=1099511627776):FS 58 [.agg (rC x),.agg (rC y)] (.agg (rC (rq (x.1/ y.1)))):=by
 obtain⟨a,fa⟩:=x;obtain⟨b,fb⟩:=y;simp only at h hy0⊢;have h1:=dB a;have h2:=dp a;have h3:=dB b;have h4:=dp b;have e1:=eC (x:=a.num) (y:=b.den) h1 (by simpa using h4);have e2:=eC (x:=a.den) (y:=b.num) (by simpa using h2) h3;have hn0:b.num≠0:=λe=>hy0 (Rat.num_eq_zero.1 e);have hd:(a.den:Int) * b.num≠0:=Int.mul_ne_zero (by have:=a.den_pos;omega) hn0;rw[uI];refine f_c Tryz.func58 ?_;refine r_z 3 ?_;refine ac (r_d hmix 12 ?_);refine c_s (fR (b,fb) hy) ?_;refine c_s (jW a.num b.den (ja h1 ω) (ja (by simpa using h4) ω)) ?_;refine c_s (fR (a,fa) hx) ?_;refine c_s (jW a.den b.num (ja (by simpa using h2) ω) (ja h3 ω)) ?_;refine c_s (pW (a.num* b.den) (a.den* b.num) hd ω ω) ?_;refine a_1 ?_;refine ao (n_k ?_);exact an (c_e (gr _))
def pq(q:Rat):Nat->Rat
 |0=>q
 |k+1=>pq q k* q
theorem Do(q:Rat):∀k,qs (pq q k)<=(k+1) * qs q
 |0=>by simp[pq]
 |k+1=>by
  have h1:=eV (pq q k) q;have h2:=Do q k;show qs (pq q k* q)<=_;rw[Nat.add_mul (k+1),Nat.one_mul];omega
def vy(D:Int):Int:=if D=0 then 1 else D
def zu(N D:Int)(p:Nat):Rat:=pq (Rat.divInt N (vy D)) (p % 4)
def nuC(N D:Int)(p:Nat):La:=[i64 N,i64 D,.v (.int .u8 p)]
def lZ(n:Int):Prop:= -9223372036854775808<=n/\n<=9223372036854775807
theorem lL(N D:Int)(p:Nat):∀c∈nuC N D p,Closed c:=ae (ag _) (ae (ag _) (ae (ag _) ai))
theorem HO(n d:Int):(n:Rat) / (d:Rat)=Rat.divInt n d:=(Rat.divInt_eq_div n d).symm
def boT(N:Int)(D:Int)(p:Nat)(q:Rat):Nat->AState
 |k=>⟨[(1,.lptr 1 0 0),(2,.lptr 2 0 0),(3,.lptr 3 0 0),(4,.lptr 4 0 0),(6,.lptr 5 0 0),(7,.lptr 6 0 0),(8,.lptr 7 0 0),(9,.v (.int .u8 k))],
  [(1,some ⟨24,3,[nuC N D p]⟩),(2,some ⟨42,3,[zC]⟩),(3,some ⟨49,4,[[i64 0,.emp,i64 0,.emp]]⟩),(4,some ⟨42,3,[qC q]⟩),(5,some ⟨49,4,[rC (rq q)]⟩),(6,some ⟨42,3,[qC (pq q k)]⟩),(7,some ⟨49,4,[rC (rq (pq q k))]⟩)],8,44⟩
theorem HC(N D:Int)(p:Nat)(hN:lZ N)(hD:lZ D)(hp:p<=255):FS 37 [.agg (nuC N D p)] (.tup [.agg (qC (zu N D p)),.agg (rC (rq (zu N D p)))]):=by
 obtain⟨d,hd⟩:∃d,d=vy D:=⟨_,rfl⟩;have hd0:d≠0:=by rw[hd];unfold vy;split <;> omega
 have hdr:lZ d:=by
  rw[hd];unfold vy lZ;unfold lZ at hD;split <;> omega
 unfold lZ at hN hdr;obtain⟨q,hq⟩:∃q,q=Rat.divInt N d:=⟨_,rfl⟩;have hof:=fs_Of N d hN hdr hd0;rw[HO,<-hq] at hof;have hro:=fs_rOf N d hd0 hN hdr;rw[<-hq] at hro;have hnv:zu N D p=pq q (p % 4):=by unfold zu;rw[<-hd,<-hq]
 rw[hnv];refine f_n Tryz.func37 ?_ ?_;exact ae (aN (lL N D p)) ai;refine r_z 3 ?_
 refine bi (λ_:Unit=>⟨[(1,.lptr 1 0 0),(2,.lptr 2 0 0),(3,.lptr 3 0 0)],
  [(1,some ⟨24,3,[nuC N d p]⟩),(2,some ⟨42,3,[zC]⟩),(3,some ⟨49,4,[[i64 0,.emp,i64 0,.emp]]⟩)],4,44⟩) (λ_=>True) ?_ ?_
 refine r_z 3 ?_;refine aw rfl (λh1=>?_) (λh1=>?_);have h2:D=0:=by simpa using h1
 have h3:d=1:=by rw[hd];unfold vy;rw[if_pos h2]
 refine r_m 2 ?_;refine a_z ?_;refine⟨(),trivial,?_⟩;rw[h3];have:=lL N 1 p;exact s_f [];have h2:¬D=0:=by simpa using h1
 have h3:d=D:=by rw[hd];unfold vy;rw[if_neg h2]
 refine am ⟨(),trivial,?_⟩;rw[h3];have:=lL N D p;exact s_f [];rintro _ _;refine r_c 11 (hof) ?_;refine a_z ?_;refine r_c 7 (hro) ?_;refine a_z ?_;refine ac (r_d hmix 6 ?_);refine a_6 ?_;refine ao (n_k ?_);refine ac (r_z 1 ?_)
 have hqs:qs q<=64:=by
  have hb:∀z:Int,-9223372036854775808<=z/\z<=9223372036854775808->bl z.natAbs<=64:=λz h=>jc (k:=64) ω;rw[hq];by_cases hn:d< 0;rw[oq N d hn];exact gG ω (hb (-N) ω) (hb d ω);rw[oo N d ω];exact gG ω (hb N ω) (hb d ω)
 have hm4:(p:Int) % 4=((p % 4:Nat):Int):=ω
 refine aG (λ_:Unit=>boT N d p q (p % 4)) (λ_=>True) ?_ ?_;refine ak (aC (boT N d p q) (λk=>p % 4- k) (λk=>k<=p % 4) 0 (Nat.zero_le _) ?_ ?_);simp only[boT.eq_1,pq];exact s_f [(4,4),(5,6),(6,7),(7,8)];rintro k hk;rw[boT.eq_1];refine ac (r_z 5 ?_);refine aw rfl (λh=>?_) (λh=>?_);refine am ?_
 have hlt:k< p % 4:=by
  have h2:(k:Int)< (p:Int) % 4:=by simpa using h
  omega
 have hpk:=Do q k;have hpk2:(k+1) * qs q<=4* 64:=Nat.mul_le_mul ω hqs;refine ac (ak (r_d hmix 8 ?_));refine c_s (dq (pq q k) q ω) ?_;refine c_s (xE (rq (pq q k)) (rq q) (ft _) (ft _) (by simp only[rq];omega)) ?_;refine a_2 ?_;refine ao (n_k ?_);refine r_m 3 ?_;refine a_z ?_;refine⟨k+1,ω,hlt,?_⟩;simp only[boT.eq_1];exact s_f []
 have hge:k=p % 4:=by
  have h2:¬(k:Int)< (p:Int) % 4:=by simpa using h
  omega
 subst hge;refine aB ⟨(),trivial,?_⟩;exact s_f [];rintro _ _;rw[boT.eq_1];refine ac (r_d hmix 4 ?_);refine a_4 ?_;refine ao (n_k ?_);refine an (Fin.many ⟨_,_,rfl,⟨_,_,_,_,_,rfl,rfl,rfl,.inl ⟨TG.h,_,TS.h,nle rfl,rfl⟩⟩,⟨_,_,rfl,⟨_,_,_,_,_,rfl,rfl,rfl,.inl ⟨TG.h,_,TS.h,nle rfl,rfl⟩⟩,rfl⟩⟩ (nle rfl) ?_);exact af (ah aE (aS _)) (af (ah aE (gr _)) ax)
def twP:Lq:=cI [0,1] 2
def fmC(p:Lq)(g:Nat)(cap:La):La:=[.arr (pE p),.clos g [] cap]
def u8v(k:Int):Value:= .int .u8 k
def famK:List Value:=[u8v 1,u8v 2,u8v 3,u8v 4,u8v 5]
def famV:La:=[.agg (fmC [0,1] 220 [bP twP]),.agg (fmC twP 220 [bP twP]),.agg (fmC [0,1] 221 []),.agg (fmC [1,-1] 222 []),.agg (fmC twP 223 [bP twP])]
abbrev famA:AV:= .mp famK famV
theorem em(p:Lq)(g:Nat){cap:La}(h:∀c∈cap,Closed c):∀c∈fmC p g cap,Closed c:=ae (aq p) (ae (aY ai h) ai)
theorem Ao:∀c∈famV,Closed c:=by
 have c1:∀c∈[bP twP],Closed c:=ae (cD _) ai;exact ae (aN (em _ _ c1)) (ae (aN (em _ _ c1)) (ae (aN (em _ _ ai)) (ae (aN (em _ _ ai)) (ae (aN (em _ _ c1)) ai))))
def HE:MapTab:=⟨217,.u8,0,7,[(4,1,10,3),(8,2,13,7),(11,3,15,10),(16,4,19,15),(20,5,22,19)],[(21,23),(22,0)]⟩
theorem z6:FS 167 [] famA:=by
 refine f_c Tryz.func167 ?_;refine r_z 1 ?_;refine r_c 5 (fs_x) ?_;refine c_s (df 2 δ) ?_;refine c_s (iH [0,1] 2 δ δ δ) ?_;refine a_z ?_;refine AWp.ent (st':=⟨[(1,bP twP)],[],2,24⟩) ?_ ?_;exact s_f [];refine r_z 2 ?_;refine ac (AWp.mapRegion HE (vs:=famV) (d:=0) hmix tm_217.h tu_5.h κ κ κ ⟨22,by simp[HE],δ⟩ δ ?_ ?_)
 ·refine AX.sp rfl rfl ?_
  refine AX.op0 (.call rfl rfl rfl (fs_x)) rfl rfl ?_;refine AX.op0 (.move rfl) rfl rfl ?_;refine AX.op0 (.build TZ.h tp_216.h rfl rfl) rfl rfl ?_;refine AX.spn rfl ?_
  first|refine AX.op0 (.load_l1 rfl rfl rfl TG.h rfl) rfl rfl ?_|refine AX.op0 (.load_a1 rfl rfl TG.h rfl) rfl rfl ?_
  refine AX.op0 (.move rfl) rfl rfl ?_;refine AX.op0 (.build TZ.h tp_216.h rfl rfl) rfl rfl ?_;refine AX.spn rfl ?_;refine AX.op0 (.call rfl rfl rfl (fs_x)) rfl rfl ?_;refine AX.op0 (.build TZ.h tp_216.h rfl rfl) rfl rfl ?_;refine AX.spn rfl ?_;refine AX.op0 (.call rfl rfl rfl (df 1 δ)) rfl rfl ?_;refine AX.op0 (.call rfl rfl rfl (df (-1) δ)) rfl rfl ?_;refine AX.op1 (.buildSlice te_30.h TZ.h rfl δ rfl rfl rfl υ) rfl rfl ?_;refine AX.op0 (.build TZ.h tp_216.h rfl rfl) rfl rfl ?_;refine AX.spn rfl ?_
  first|refine AX.op0 (.load_l1 rfl rfl rfl TG.h rfl) rfl rfl ?_|refine AX.op0 (.load_a1 rfl rfl TG.h rfl) rfl rfl ?_
  refine AX.op0 (.makeFunc rfl rfl) rfl rfl ?_;refine AX.op0 (.build TZ.h tp_216.h rfl rfl) rfl rfl ?_;refine AX.spn rfl ?_;refine AX.sp rfl rfl ?_;refine AX.sp rfl rfl ?_;refine AX.nil ⟨by kernel_rfl,?_⟩;have c1:∀c∈[bP twP],Closed c:=ae (cD _) ai;refine CvS.cons rfl (ah aE (aN (em _ _ c1))) (CvS.cons rfl (ah aE (aN (em _ _ c1))) (CvS.cons rfl (ah aE (aN (em _ _ ai))) (CvS.cons rfl ?_ (CvS.cons rfl (ah aE (aN (em _ _ c1))) CvS.nil))));exact Cv.agg (af (Cv.sealE aE rfl (λ_ _ h=>by cases h) rfl rfl (aJ _)) (af (ah aE (aY ai ai)) ax))
 exact an (t_e (Fa Ao))
theorem fs_fam1(n:Int)(p last:Lq)(h:nT twP p)(hl:smL last)(h1:(ep twP p).length<=274877906944)(h2:last.length<=274877906944):FS 220 [i64 n,.arr (pE p),.arr (pE last),bP twP] (.arr (pE (gz (ep twP p) last))):=by
 refine f_c Tryz.func220 ?_;refine r_z 1 ?_;refine r_c 6 (xP twP p (mxL twP) (mxL p) (eb _) (eb _) (dR _) (dR _) h.1 h.2.1 h.2.2.1 h.2.2.2) ?_;refine c_s (oi (ep twP p) last (zq h) hl ω ω) ?_;refine a_z ?_;exact an (t_e (aq _))
def chP:Nat->Lq×Lq
 |0=>(fY 1,[0,1])
 |k+1=>((chP k).2,gz (ep twP (chP k).2) (chP k).1)
def GD(k:Nat):Prop:=nT twP (chP k).2/\smL (chP k).1/\(ep twP (chP k).2).length<=274877906944/\(chP k).1.length<=274877906944
instance (k:Nat):Decidable (GD k):=inferInstanceAs (Decidable (_/\_/\_/\_))
def chT(k:Nat):Option La:=some [.arr (pE (chP k).1)]
abbrev bF:AV:= .aptr [fmC [0,1] 220 [bP twP]] 0 0
theorem kR:Closed bF:=aW (em _ _ (ae (cD _) ai))
theorem BR(K:Nat)(hK:K<=1000000)(hok:∀k,k< K->GD k):GSpecB Tryz.prog 224 [bF] chT K:=by
 refine GSpecB.enter Tryz.func224 rfl κ rfl rfl rfl ?_ ?_ rfl ?_;exact ae kR ai;intro k xs h;cases h;exact ae (aq _) ai;intro ll N hN E;refine GWp.seq ?_;refine GWp.lift ?_;refine r_d hmix 6 ?_;refine c_s (df 1 δ) ?_;refine c_s (jV 1) ?_;refine a_4 ?_;refine ao (n_k ?_);refine GWp.seq ?_;refine GWp.lift ?_;refine r_m 1 ?_;refine a_z ?_;refine GWp.block ?_;refine GWp.loopS (λk:Nat=>⟨[(0,.v (.func (.yield ll) #[] #[])),(1,bF),(3,.arr (pE (chP k).1)),(4,.arr (pE (chP k).2)),(5,i64 ((k:Int)+1))],[],1,22⟩) (λk=>k) (λk=>N+1- k) (λk=>k<=N) 0 (Nat.zero_le _) rfl ?_ ?_;exact s_f [];intro k hk;refine GWp.seq ?_;refine GWp.seq ?_;refine GWp.regY (fr2:=[(0,.v (.func (.yield ll) #[] #[])),(1,bF),(3,.arr (pE (chP k).1)),(4,.arr (pE (chP k).2)),(5,i64 ((k:Int)+1)),(10,.v (.func (.yield ll) #[] #[])),(11,.arr (pE (chP k).1))]) (hp2:=[]) (nx2:=2) 2 rfl rfl rfl rfl rfl rfl ?_ rfl rfl rfl ?_ ?_ ?_;refine o_0 (.move rfl) ?_;refine o_0 (.move rfl) ?_;refine ao ?_;exact s_y [] (λhs=>cN) (λhs=>jN);rotate_left 2;intro go;refine ao ?_;rotate_left;rfl;exact ae (aq _) ai;cases go with
 |false=>
  refine GWp.cond rfl (λh=>?_) (λh=>?_);cases h;exact GWp.exit ⟨.inl rfl,λh=>by cases h⟩
 |true=>
  refine GWp.bound λhk1=>?_;refine GWp.cond rfl (λh=>?_) (λh=>?_);rotate_left;cases h;refine GWp.skip ?_;obtain⟨o1,o2,o3,o4⟩:=hok k ω;refine GWp.lift ?_;refine ac (ak (r_m 9 ?_));refine c_s (fs_fam1 ((k:Int)+1) (chP k).2 (chP k).1 o1 o2 o3 o4) ?_;refine a_z ?_;refine r_m 3 ?_;refine a_z ?_;refine⟨rfl,k+1,ω,hk1,rfl,?_⟩;exact s_f []
theorem B3:FS 168 [.agg (fmC [0,1] 220 [bP twP])] (.clos 224 [] [bF]):=by
 have hc:∀c∈fmC [0,1] 220 [bP twP],Closed c:=em _ _ (ae (cD _) ai);refine f_c Tryz.func168 ?_;refine r_z 2 ?_;refine r_z 2 ?_;refine an (⟨.inr rfl,[_],⟨_,[],rfl,rfl,rfl⟩,?_⟩);exact Cv.clos ax (af (Cv.boxp aE rfl (λ_ _ h=>by cases h) rfl hc) ax)
def kn(n:Nat):Lw:=(List.range n).map λk=>(chP k).1
theorem wE(n:Nat):kn (n+1)=kn n++[(chP n).1]:=by simp[kn,List.range_succ]
@[simp] theorem chL2_length (n:Nat):(kn n).length=n:=by simp[kn]
def fi0(n:Int):Unit->AState
 |u=>⟨[(1,.lptr 1 0 0),(3,.lptr 2 0 0),(7,.clos 224 [] [bF])],[(1,some ⟨3,1,[[i64 n]]⟩),(2,some ⟨161,1,[[.emp]]⟩)],4,18⟩
def fi1(n:Int):Nat->AState
 |k=>⟨[(1,.lptr 1 0 0),(3,.lptr 2 0 0),(7,.clos 224 [] [bF])],[(1,some ⟨3,1,[[i64 n]]⟩),(2,some ⟨161,1,[[.lsl 3 0 (k+1) none 1]]⟩),(3,some ⟨30,1,cE (kn (k+1))⟩)],4,18⟩
def fiX(z:Nat):Unit->AState
 |u=>⟨[(3,.lptr 1 0 0)],[(1,some ⟨161,1,[[.lsl 2 0 (z+1) none 1]]⟩),(2,some ⟨30,1,cE (kn (z+1))⟩)],4,18⟩
def fiS(n:Int):Nat->AState
 |0=>fi0 n ()
 |k+1=>fi1 n k
theorem nJ:Closed (.clos 224 [] [bF]):=aY ai (ae kR ai)
theorem wn(n:Nat)(hn:n<=1000)(hok:∀k,k< n->GD k):FS 108 [i64 n] (.arr (cE (kn (n+1)))):=by
 have hgs:=BR n ω hok;refine f_c Tryz.func108 ?_;refine r_z 2 ?_;refine r_z 1 ?_;refine ac (r_c 3 (z6) ?_);refine c_s (B3) ?_;refine ao ?_;refine aG (fiX n) (λ_=>True) ?_ ?_;refine ak (AWp.rangeFuncB (α:=Nat) (γ:=Unit) n (fiS n) (λk=>k) (λk=>k<=n) (fiX n) (λe _=>e= .exit 0) 0 rfl hgs rfl rfl ?_ (λk=>by cases k <;> exact⟨rfl,rfl⟩) (λ_=>rfl) (Nat.zero_le _) rfl (λ_ h=>h) ?_ ?_ ?_ ?_ ?_);intro k xs hT;cases hT;rfl;show SEntT _ (fi0 n ());rw[fi0.eq_1];refine s_y [(2,3)] (λhs=>e_18) (λhs=>?_)
 ·repeat' (first|exact aD|refine h_c ?_ ?_|exact bG|refine ay ?_|exact ax|refine af ?_ ?_|exact ah hs nJ|exact aX)
 exact ae kR ai
 ·intro l k xs hk hT
  cases hT;cases k with
  |zero=>
   show AWp _ _ _ _ ⟨ic (fi0 n ()).fr _ _++dP (fi0 n ()).fr,_,_,_⟩;show AWp _ _ _ _ ⟨[(8,.arr (pE (chP 0).1)),(1,.lptr 1 0 0),(3,.lptr 2 0 0),(7,.clos 224 [] [bF]),(1001,.lptr 1 0 0),(1003,.lptr 2 0 0),(1007,.clos 224 [] [bF])],[(1,some ⟨3,1,[[i64 n]]⟩),(2,some ⟨161,1,[[.emp]]⟩)],4,18⟩;refine r_m 1 ?_;refine a_z ?_;refine ak (s_r 5 ?_);refine a_3 ?_;refine o_1 (.append_e rfl rfl rfl te_161.h rfl rfl rfl (.lsl rfl (nle rfl)) (by first|assumption|(simp;done)) TZ.h rfl TB.h d_o μ) ?_;refine a_z ?_;refine r_z 4 ?_;refine aw rfl (λh1=>?_) (λh1=>?_)
   have h2:n=0:=by
    simp at h1;omega
   subst h2;refine aB (⟨rfl,(),rfl,?_⟩);show SEntT _ ⟨[(1003,.lptr 1 0 0)],[(1,some ⟨161,1,[[.lsl 2 0 (0+1) none 1]]⟩),(2,some ⟨30,1,cE (kn (0+1))⟩)],4,18⟩;have:=(eO [(chP 0).1]);exact s_t [(1,1003),(2,12)]
   have h2:¬n=0:=by
    simp at h1;omega
   refine am (⟨0+1,⟨ω,rfl⟩,?_⟩);show SEntT _ ⟨[(1001,.lptr 1 0 0),(1003,.lptr 2 0 0),(1007,.clos 224 [] [bF])],[(1,some ⟨3,1,[[i64 n]]⟩),(2,some ⟨161,1,[[.lsl 3 0 (0+1) none 1]]⟩),(3,some ⟨30,1,cE (kn (0+1))⟩)],4,18⟩;refine s_y [(3,12)] (λhs=>e_18) (λhs=>?_)
   ·repeat' (first|exact aD|refine h_c ?_ ?_|exact bZ hs (eO [(chP 0).1])|exact bG|refine ay ?_|exact ax|refine af ?_ ?_|exact ah hs nJ|exact aX)
  |succ k=>
   show AWp _ _ _ _ ⟨ic (fi1 n k).fr _ _++dP (fi1 n k).fr,_,_,_⟩;show AWp _ _ _ _ ⟨[(8,.arr (pE (chP (k+1)).1)),(1,.lptr 1 0 0),(3,.lptr 2 0 0),(7,.clos 224 [] [bF]),(1001,.lptr 1 0 0),(1003,.lptr 2 0 0),(1007,.clos 224 [] [bF])],[(1,some ⟨3,1,[[i64 n]]⟩),(2,some ⟨161,1,[[.lsl 3 0 (k+1) none 1]]⟩),(3,some ⟨30,1,cE (kn (k+1))⟩)],4,18⟩;refine r_m 1 ?_;refine a_z ?_;refine ak (r_z 5 ?_);refine r_z 4 ?_;refine aw rfl (λh1=>?_) (λh1=>?_)
   have h2:n=k+1:=by
    simp at h1;omega
   subst h2;refine aB (⟨rfl,(),rfl,?_⟩);show SEntT _ ⟨[(1003,.lptr 1 0 0)],[(1,some ⟨161,1,[[.lsl 2 0 ((k+1)+1) none 1]]⟩),(2,some ⟨30,1,cE (kn ((k+1)+1))⟩)],4,18⟩;refine s_y [(1,1003),(2,12)] (λhs=>cN) (λhs=>?_)
   ·repeat' (first|exact aD|refine h_c ?_ ?_|exact aI hs (by rw[wE (k+1),yr];rfl) (eO _)|exact bG)
   have h2:¬n=k+1:=by
    simp at h1;omega
   refine am (⟨k+1+1,⟨ω,rfl⟩,?_⟩);show SEntT _ ⟨[(1001,.lptr 1 0 0),(1003,.lptr 2 0 0),(1007,.clos 224 [] [bF])],[(1,some ⟨3,1,[[i64 n]]⟩),(2,some ⟨161,1,[[.lsl 3 0 ((k+1)+1) none 1]]⟩),(3,some ⟨30,1,cE (kn ((k+1)+1))⟩)],4,18⟩;refine s_y [(3,12)] (λhs=>e_18) (λhs=>?_)
   ·repeat' (first|exact aD|refine h_c ?_ ?_|exact aI hs (by rw[wE (k+1),yr];rfl) (eO _)|exact bG|refine ay ?_|exact ax|refine af ?_ ?_|exact ah hs nJ|exact aX)
 intro k hk hT;cases hT;rintro e u rfl;exact⟨u,trivial,SEnt.refl _⟩;rintro u _;rw[fiX.eq_1];refine r_z 2 ?_;exact an (Fin.tmpS rfl rfl rfl ψ (eO _))








end Go.Proofs.YtjgokhkahkmpbaaGreatDoor
