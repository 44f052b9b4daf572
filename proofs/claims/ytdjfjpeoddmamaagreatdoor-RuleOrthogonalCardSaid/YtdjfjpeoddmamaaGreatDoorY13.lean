/- Part Y13 of the proof. -/
import Derived.Test.YtdjfjpeoddmamaaGreatDoorY12
import Derived.Lib.UnsafeStr
import Derived.Lib.Builder
import Derived.Shelf.RegionOpenPlain
import Derived.Lib.Strings
import Derived.Lib.Slices
import Derived.Lib.Walk
set_option linter.all false
namespace Go.Proofs.YtdjfjpeoddmamaaGreatDoor
open Go.Abs
set_option maxRecDepth 20000
def rovS(A D:Nat):List Nat→Nat→Nat→AState
 |[],R,i=>⟨[(0,.arr (iE (zd A))),(1,.arr (iE (zd D))),(6,.emp),(7,.arr (iE (zd R))),(8,i64 i)],[],1,54⟩
 |q::Q,R,i=>⟨[(0,.arr (iE (zd A))),(1,.arr (iE (zd D))),(6,.lsl 1 0 (Q.length+1) none 1),(7,.arr (iE (zd R))),(8,i64 i)],[(1,some ⟨3,1,iE (q::Q)⟩)],2,54⟩
theorem d3_(A D R i:Nat):rovS A D [] R i=⟨[(0,.arr (iE (zd A))),(1,.arr (iE (zd D))),(6,.emp),(7,.arr (iE (zd R))),(8,i64 i)],[],1,54⟩:=rfl
theorem c7_(A D:Nat)(q:Nat)(Q:List Nat)(R i:Nat):rovS A D (q::Q) R i=⟨[(0,.arr (iE (zd A))),(1,.arr (iE (zd D))),(6,.lsl 1 0 (Q.length+1) none 1),(7,.arr (iE (zd R))),(8,i64 i)],[(1,some ⟨3,1,iE (q::Q)⟩)],2,54⟩:=rfl
theorem rov_step{P D R a:Nat}(hD:0< D)(hR:R=P % D)(ha:a< UB):R* UB+a< UB* D∧(P* UB+a) / D=P/ D* UB+(R* UB+a) / D∧(P* UB+a) % D=(R* UB+a) % D∧(R* UB+a) / D< UB:=by
 have h1:=Nat.div_add_mod P D
 have h2:=Nat.mod_lt P hD
 rw[←hR] at h1 h2
 have h3:R* UB+a< UB* D:=by
  have:(R+1) * UB≤D* UB:=Nat.mul_le_mul_right _ h2
  rw[Nat.add_mul,Nat.one_mul,Nat.mul_comm D] at this
  omega
 have h4:P* UB+a=D* (P/ D* UB)+(R* UB+a):=by
  conv=>lhs;rw[←h1]
  rw[Nat.add_mul,Nat.mul_assoc,Nat.add_assoc]
 refine⟨h3,?_,?_,?_⟩
 rw[h4,Nat.mul_add_div hD]
 rw[h4,Nat.mul_add_mod]
 rw[Nat.div_lt_iff_lt_mul hD];exact h3
theorem hZ_(A D:Nat)(hD:0< D)(hA:bl A≤4398046511104)(hb:bl D≤4398046511104):FSpec Tryz.prog 253 [.arr (iE (zd A)),.arr (iE (zd D))] (.tup [.arr (iE (zd (A/ D))),.arr (iE (zd (A % D)))]):=by
 have hzA:=bv_ A
 have hzD:=bv_ D
 have hlD:=a6_ (b:=UB) (by decide) D
 have hlA:=a6_ (b:=UB) (by decide) A
 obtain⟨n,hn⟩:∃n,n=(zd D).length:=⟨_,rfl⟩
 have hn1:1≤n:=by
  have:zd D≠[]:=fun h=>by have:=zd_eq_nil.1 h;omega
  have:=List.length_pos_iff.2 this;omega
 have hDn:UB^ (n- 1)≤D:=by
  rcases i7_ (b:=UB) (n:=D) (by decide) with h|h
  rwa[←hzD,←hn] at h
  omega
 refine f_n Tryz.func253 ?_ ?_
 exact aa_ (bi_ _) (aa_ (bi_ _) ab_)
 refine r_z 2 ?_
 refine ac_ (r_z 5 ?_)
 refine am_ rfl (fun h=>?_) (fun h=>?_)
 have hlt:(zd A).length< (zd D).length:=by have:=of_decide_eq_true h;omega
 have hAD:A< D:=el_ (b:=UB) (by decide) (by omega)
 refine r_z 3 ?_
 refine aj_ (Fin.many ⟨_,_,rfl,rfl,⟨_,_,rfl,rfl,rfl⟩⟩ (nle rfl) ?_)
 rw[Nat.div_eq_of_lt hAD,Nat.mod_eq_of_lt hAD,gU_]
 exact af_ (Cv.emp _) (af_ (ak_ as_ (bi_ _)) ao_)
 have hge:n≤(zd A).length:=by have:=of_decide_eq_false h;omega
 refine ah_ (r_z 1 ?_)
 obtain⟨P0,hP0⟩:∃P0,P0=hv ((zd A).take (n- 1)):=⟨_,rfl⟩
 have hP0D:P0< D:=by
  have h1:=hv_lt (l:=(zd A).take (n- 1)) fun d hd=>zd_lt A d (List.mem_of_mem_take hd)
  rw[←hP0] at h1
  have h2:UB^ ((zd A).take (n- 1)).length≤UB^ (n- 1):=Nat.pow_le_pow_right (by decide) (by simp;omega)
  omega
 have hst:=d8_ ((zd A).take (n- 1)) (by simp;omega)
 rw[c6_ (fun d hd=>zd_lt A d (List.mem_of_mem_take hd)),←hP0] at hst
 refine aU_ (fun _:Unit=>⟨[(0,.arr (iE (zd A))),(1,.arr (iE (zd D))),(6,.emp),(7,.arr (iE (zd P0)))],[],1,54⟩) (fun _=>True) ?_ ?_
 by_cases hn2:n=1
 rw[hn2] at hst
 refine r_m 8 ?_
 refine a_4 ?_
 refine o_0 (.sa_h rfl rfl (h:=0) (by omega) (by simp) te_38.h (f3_ _)) ?_
 refine o_0 (.append0 rfl rfl rfl te_38.h rfl rfl rfl (.arr (es:=[]) (by simp))) ?_
 refine c_s (hst) ?_
 refine a_z ?_
 refine⟨(),trivial,?_⟩
 exact s_e []
 ·have hne:(iE (zd A)).take (n- 1)≠[]:=fun h=>by
   have:=congrArg List.length h
   rw[List.length_take,iO_,List.length_nil] at this;omega
  have hfull:List.take ((iE (zd A)).take (n- 1)).length (List.drop 0 ((iE (zd A)).take (n- 1)))=iE ((zd A).take (n- 1)):=by rw[List.drop_zero,List.take_length,iE_take]
  refine r_m 8 ?_
  refine a_4 ?_
  refine o_0 (.sa_h rfl rfl (h:=n- 1) (by omega) (by simp;omega) te_38.h (f3_ _)) ?_
  refine o_1 (.append_e rfl rfl rfl te_38.h rfl rfl rfl (.arr (fun e he=>f3_ _ e (List.mem_of_mem_take he))) (by first|assumption|(simp;done)) tz_3.h rfl tb_3.h d_o (by first|(simp[maxLen];done)|(simp[maxLen];omega))) ?_
  refine o_1 (.callS1 rfl rfl rfl (.shut rfl d_n (.nil)) rfl ((by rw[hfull];exact hst))) ?_
  refine a_z ?_
  refine⟨(),trivial,?_⟩
  exact s_e []
 rintro _ _
 refine ac_ (r_z 4 ?_)
 refine aB_ (fun x:List Nat×Nat=>rovS A D x.1 x.2 (zd A).length) (fun x=>(∀d∈x.1,d< UB)∧hv x.1=A/ D∧x.2=A % D∧x.1.length≤(zd A).length) ?_ ?_
 refine ag_ (ax_ (fun x:List Nat×Nat×Nat=>rovS A D x.1 x.2.1 x.2.2) (fun x=>(zd A).length- x.2.2) (fun x=>x.2.2≤(zd A).length∧(∀d∈x.1,d< UB)∧hv x.1=hv ((zd A).take x.2.2) / D∧x.2.1=hv ((zd A).take x.2.2) % D∧x.1.length≤x.2.2) ([],P0,n- 1) ⟨by simp only;omega,by simp,by simp only;rw[←hP0,Nat.div_eq_of_lt hP0D];rfl,by simp only;rw[←hP0,Nat.mod_eq_of_lt hP0D],by simp⟩ ?_ ?_)
 simp only[d3_]
 exact s_e []
 rintro⟨Q,R,i⟩ ⟨hi,hQd,hQ,hR,hQl⟩
 simp only at hi hQd hQ hR hQl
 -- the head,whatever the quotient so far
 by_cases hlt:i< (zd A).length
 ·obtain⟨a,hai⟩:∃a,(zd A)[i]?=some a:=⟨_,List.getElem?_eq_getElem hlt⟩
  have ha:a< UB:=zd_lt A a (List.mem_of_getElem? hai)
  have hai':(iE (zd A))[((i:Nat):Int).toNat]?=some [i64 a]:=fS_ hai
  have hPs:hv ((zd A).take (i+1))=hv ((zd A).take i) * UB+a:=by rw[cD_ hai,iP_]
  obtain⟨P,hP⟩:∃P,P=hv ((zd A).take i):=⟨_,rfl⟩
  rw[←hP] at hQ hR hPs
  obtain⟨s1,s2,s3,s4⟩:=rov_step hD hR ha
  have hRD:R< D:=by rw[hR];exact Nat.mod_lt _ hD
  have hlR:=a6_ (b:=UB) (by decide) R
  have hbR:=bR_ (Nat.le_of_lt hRD)
  have hzR:=bv_ R
  have hsh:=fs_share (R* UB+a) D hD s1 hb
  cases Q with
  |nil=>
   simp only[d3_]
   refine ac_ (r_z 4 ?_)
   refine am_ rfl (fun h=>?_) (fun h=>?_)
   rotate_left
   exact absurd h (by simp;omega)
   refine ah_ (ac_ (ag_ (aU_ (fun _:Unit=>rovS A D [] (R* UB+a) i) (fun _=>True) ?_ ?_)))
   by_cases hR0:R=0
   subst hR0
   have hst1:=d8_ [a] (by simp)
   rw[c6_ (by simpa using ha),show hv [a]=0* UB+a by rw[iQ_,lR_];simp] at hst1
   rw[gU_]
   refine r_d hmix 10 ?_
   refine a_1 ?_
   refine o_0 (.append0 rfl rfl rfl te_38.h rfl rfl rfl (.arr (es:=[]) (by simp))) ?_
   refine a_2 ?_
   refine i_x hai' ?_
   refine l_1 hai' ?_
   refine a_2 ?_
   refine o_1 (.callS1 rfl rfl rfl (.shut rfl d_n (.nil)) rfl ((FSpec.argE hst1 rfl))) ?_
   refine a_1 ?_
   refine an_ (n_k ?_)
   refine⟨(),trivial,?_⟩
   simp only[d3_]
   exact s_e []
   ·have hne:iE (zd R)≠[]:=fun h=>by
     have h1:=congrArg List.length h
     rw[iO_,List.length_nil,List.length_eq_zero_iff] at h1
     exact hR0 (zd_eq_nil.1 h1)
    have hd2:∀d∈zd R++[a],d< UB:=fun d hd=>by
     rcases List.mem_append.1 hd with hd|hd
     exact zd_lt R d hd
     simp at hd;rw[hd];exact ha
    have hst1:=d8_ (zd R++[a]) (by simp;omega)
    rw[c6_ hd2,iP_,hv_zd] at hst1
    refine r_d hmix 10 ?_
    refine a_1 ?_
    refine o_1 (.append_e rfl rfl rfl te_38.h rfl rfl rfl (.arr (f3_ _)) (by first|assumption|(simp;done)) tz_3.h rfl tb_3.h d_o (by first|(simp[maxLen];done)|(simp[maxLen];omega))) ?_
    refine a_2 ?_
    refine i_x hai' ?_
    refine l_1 hai' ?_
    refine a_2 ?_
    refine o_1 (.callS1 rfl rfl rfl (.shut rfl d_n (.nil)) rfl ((FSpec.argE hst1 (by rw[List.drop_zero,List.take_of_length_le (by simp)];simp[iE,i64])))) ?_
    refine a_1 ?_
    refine an_ (n_k ?_)
    refine⟨(),trivial,?_⟩
    simp only[d3_]
    exact s_e []
   rintro _ _
   simp only[d3_]
   refine r_z 1 ?_
   refine r_c 8 (hsh) ?_
   refine a_z ?_
   refine r_m 5 ?_
   refine a_z ?_
   refine r_m 3 ?_
   refine a_z ?_
   refine⟨([(R* UB+a) / D],(R* UB+a) % D,i+1),by simp only;omega,⟨by simp only;omega,by simpa using s4,?_,?_,by simp⟩,?_⟩
   simp only;rw[hPs,s2,←hQ,iQ_,lR_];simp
   simp only;rw[hPs,s3]
   simp only[c7_]
   exact s_e [(1,6)]
  |cons q Q=>
   simp only[c7_]
   refine ac_ (r_z 4 ?_)
   refine am_ rfl (fun h=>?_) (fun h=>?_)
   rotate_left
   exact absurd h (by simp;omega)
   refine ah_ (ac_ (ag_ (aU_ (fun _:Unit=>rovS A D (q::Q) (R* UB+a) i) (fun _=>True) ?_ ?_)))
   by_cases hR0:R=0
   subst hR0
   have hst1:=d8_ [a] (by simp)
   rw[c6_ (by simpa using ha),show hv [a]=0* UB+a by rw[iQ_,lR_];simp] at hst1
   rw[gU_]
   refine r_d hmix 10 ?_
   refine a_1 ?_
   refine o_0 (.append0 rfl rfl rfl te_38.h rfl rfl rfl (.arr (es:=[]) (by simp))) ?_
   refine a_2 ?_
   refine i_x hai' ?_
   refine l_1 hai' ?_
   refine a_2 ?_
   refine o_1 (.callS1 rfl rfl rfl (.shut rfl d_n (.nil)) rfl ((FSpec.argE hst1 rfl))) ?_
   refine a_1 ?_
   refine an_ (n_k ?_)
   refine⟨(),trivial,?_⟩
   simp only[c7_]
   exact s_e []
   ·have hne:iE (zd R)≠[]:=fun h=>by
     have h1:=congrArg List.length h
     rw[iO_,List.length_nil,List.length_eq_zero_iff] at h1
     exact hR0 (zd_eq_nil.1 h1)
    have hd2:∀d∈zd R++[a],d< UB:=fun d hd=>by
     rcases List.mem_append.1 hd with hd|hd
     exact zd_lt R d hd
     simp at hd;rw[hd];exact ha
    have hst1:=d8_ (zd R++[a]) (by simp;omega)
    rw[c6_ hd2,iP_,hv_zd] at hst1
    refine r_d hmix 10 ?_
    refine a_1 ?_
    refine o_1 (.append_e rfl rfl rfl te_38.h rfl rfl rfl (.arr (f3_ _)) (by first|assumption|(simp;done)) tz_3.h rfl tb_3.h d_o (by first|(simp[maxLen];done)|(simp[maxLen];omega))) ?_
    refine a_2 ?_
    refine i_x hai' ?_
    refine l_1 hai' ?_
    refine a_2 ?_
    refine o_1 (.callS1 rfl rfl rfl (.shut rfl d_n (.nil)) rfl ((FSpec.argE hst1 (by rw[List.drop_zero,List.take_of_length_le (by simp)];simp[iE,i64])))) ?_
    refine a_1 ?_
    refine an_ (n_k ?_)
    refine⟨(),trivial,?_⟩
    simp only[c7_]
    exact s_e []
   rintro _ _
   simp only[c7_]
   refine r_z 1 ?_
   refine r_c 8 (hsh) ?_
   refine a_z ?_
   have hQl':Q.length+1≤i:=by simpa using hQl
   refine r_m 5 ?_
   refine a_z ?_
   refine r_m 3 ?_
   refine a_z ?_
   refine⟨(q::(Q++[(R* UB+a) / D]),(R* UB+a) % D,i+1),by simp only;omega,⟨by simp only;omega,?_,?_,?_,by simp at hQl⊢;omega⟩,?_⟩
   intro d hd
   rcases List.mem_append.1 (show d∈(q::Q)++[(R* UB+a) / D] from hd) with hd|hd
   exact hQd d hd
   simp at hd;rw[hd];exact s4
   simp only;rw[hPs,s2,←hQ,←iP_];rfl
   simp only;rw[hPs,s3]
   simp only[c7_]
   have e:iE (q::Q)++List.take 1 (List.drop 0 [[i64 ((R* UB+a) / D:Nat)]])=iE (q::(Q++[(R* UB+a) / D])):=by simp[iE]
   refine ar_ [(1,6)] rfl rfl rfl ?_ (fun hs=>au_f) (fun hs=>?_)
   ·repeat' (first|exact ShrL.nil|refine ShrL.cons rfl rfl rfl rfl (by first|(simp)|rfl|(simp;done)|(simp <;> omega)) ?_)
   ·repeat' (first|exact ap_|refine al_ rfl rfl rfl rfl ?_ ?_)
    all_goals (first|(exact aD_ hs e (bN_ _))|exact au_e)
 have hge:i=(zd A).length:=by omega
 subst hge
 rw[List.take_length,hv_zd] at hQ hR
 cases Q with
 |nil=>
  simp only[d3_]
  refine ac_ (r_z 4 ?_)
  refine am_ rfl (fun h=>?_) (fun h=>?_)
  exact absurd h (by simp)
  refine av_ ⟨([],R),⟨hQd,hQ,hR,hQl⟩,?_⟩
  simp only[d3_]
  exact s_e []
 |cons q Q=>
  simp only[c7_]
  refine ac_ (r_z 4 ?_)
  refine am_ rfl (fun h=>?_) (fun h=>?_)
  exact absurd h (by simp)
  refine av_ ⟨(q::Q,R),⟨hQd,hQ,hR,hQl⟩,?_⟩
  simp only[c7_]
  exact s_e []
 rintro⟨Q,R⟩ ⟨hQd,hQ,hR,hQl⟩
 simp only at hQd hQ hR hQl
 have hsq:=d8_ Q (by omega)
 rw[c6_ hQd,hQ] at hsq
 subst hR
 cases Q with
 |nil=>
  simp only[d3_]
  refine r_c 5 (hsq) ?_
  refine a_z ?_
  refine aj_ (Fin.many ⟨_,_,rfl,rfl,⟨_,_,rfl,rfl,rfl⟩⟩ (nle rfl) ?_)
  exact af_ (ak_ as_ (bi_ _)) (af_ (ak_ as_ (bi_ _)) ao_)
 |cons q Q=>
  simp only[c7_]
  have hfull:List.take (Q.length+1) (List.drop 0 (iE (q::Q)))=iE (q::Q):=by rw[List.drop_zero,List.take_of_length_le (by simp)]
  refine s_r 5 ?_
  refine a_1 ?_
  refine o_1 (.callS1 rfl rfl rfl (.shut rfl d_n (.nil)) rfl ((by rw[hfull];exact hsq))) ?_
  refine a_z ?_
  refine aj_ (Fin.many ⟨_,_,rfl,rfl,⟨_,_,rfl,rfl,rfl⟩⟩ (nle rfl) ?_)
  exact af_ (ak_ as_ (bi_ _)) (af_ (ak_ as_ (bi_ _)) ao_)
def zgS:Nat×Nat→AState
 |(p,q)=>⟨[(4,.lptr 1 0 0),(5,.arr (iE (zd p))),(6,.arr (iE (zd q)))],[(1,some ⟨40,2,[[i64 0,.emp]]⟩)],2,48⟩
theorem hy_(p:Nat)(q:Nat):zgS (p,q)=⟨[(4,.lptr 1 0 0),(5,.arr (iE (zd p))),(6,.arr (iE (zd q)))],[(1,some ⟨40,2,[[i64 0,.emp]]⟩)],2,48⟩:=rfl
def zgW:Nat×Nat→AState
 |(x,y)=>⟨[(4,.lptr 1 0 0),(7,i64 x),(8,i64 y)],[(1,some ⟨40,2,[[i64 0,.emp]]⟩)],2,48⟩
theorem k9_(x:Nat)(y:Nat):zgW (x,y)=⟨[(4,.lptr 1 0 0),(7,i64 x),(8,i64 y)],[(1,some ⟨40,2,[[i64 0,.emp]]⟩)],2,48⟩:=rfl
theorem k8_(p q:Nat):Nat.gcd q (p % q)=Nat.gcd p q:=by
 rw[Nat.gcd_comm p q,Nat.gcd_rec q p,Nat.gcd_comm]
theorem k5_{n:Nat}(h:(zd n).length≤4):n< 1152921504606846976:=by
 have h1:=hv_lt (zd_lt n)
 rw[hv_zd] at h1
 exact Nat.lt_of_lt_of_le h1 (Nat.pow_le_pow_right (n:=32768) (j:=4) (by decide) h)
theorem fs_ZGcd(x y:Int)(hx:bl x.natAbs≤4398046511104)(hy:bl y.natAbs≤4398046511104):FSpec Tryz.prog 255 [.agg (zZ x),.agg (zZ y)] (.agg (zZ (Nat.gcd x.natAbs y.natAbs:Nat))):=by
 refine f_n Tryz.func255 ?_ ?_
 exact aa_ (a5_ x) (aa_ (a5_ y) ab_)
 refine r_z 3 ?_
 refine ac_ (r_d hmix 6 ?_)
 refine a_6 ?_
 refine an_ (n_k ?_)
 refine aU_ (fun p:Nat=>zgS (p,0)) (fun p=>p=Nat.gcd x.natAbs y.natAbs) ?_ ?_
 refine ag_ (ax_ zgS (fun v=>v.2) (fun v=>Nat.gcd v.1 v.2=Nat.gcd x.natAbs y.natAbs∧bl v.1≤4398046511104∧bl v.2≤4398046511104) (x.natAbs,y.natAbs) ⟨rfl,hx,hy⟩ ?_ ?_)
 simp only[hy_]
 exact s_e [(1,4)]
 rintro⟨p,q⟩ ⟨hg,hp,hq⟩
 simp only at hg hp hq
 have hzp:=bv_ p
 have hzq:=bv_ q
 have hlp:=a6_ (b:=UB) (by decide) p
 have hlq:=a6_ (b:=UB) (by decide) q
 rw[hy_]
 refine ac_ (r_z 3 ?_)
 refine am_ rfl (fun h=>?_) (fun h=>?_)
 have hq0:0< q:=by
  rcases Nat.eq_zero_or_pos q with e|e
  subst e;rw[gU_] at h;simp at h
  exact e
 refine ah_ (ag_ (aU_ (fun _:Unit=>zgS (p,q)) (fun _=>True) ?_ ?_))
 by_cases hl:(zd p).length≤4
 by_cases hl2:(zd q).length≤4
 have hwp:=k5_ hl
 have hwq:=k5_ hl2
 have hsp:=kF_ (zd p) hl (zd_lt p)
 have hsq:=kF_ (zd q) hl2 (zd_lt q)
 rw[hv_zd] at hsp hsq
 refine s_r 8 ?_
 refine a_4 ?_
 refine y_g rfl (by simp;omega) (.move rfl) ?_
 first|refine y_g rfl (by simp;omega) (.lenD rfl rfl rfl rfl te_38.h) ?_|refine y_g rfl (by simp;omega) (.lenI rfl rfl rfl rfl te_38.h) ?_|refine y_g rfl (by simp;omega) (.lenP rfl rfl rfl rfl te_38.h) ?_|refine y_g rfl (by simp;omega) (.lenC rfl rfl rfl rfl te_38.h) ?_|refine y_g rfl (by simp;omega) (.lenR rfl rfl rfl rfl te_38.h) ?_|refine y_g rfl (by simp;omega) (.len rfl rfl rfl rfl rfl te_38.h) ?_
 refine y_g rfl (by simp;omega) (.bin rfl rfl cW_) ?_
 refine o_0 (.pickT rfl (by simp;omega) rfl) ?_
 refine an_ ?_
 refine am_ rfl (fun h1=>?_) (fun h1=>?_)
 refine r_c 6 (hsp) ?_
 refine c_s (hsq) ?_
 refine a_z ?_
 refine aU_ (fun v:Nat=>zgW (v,0)) (fun v=>v=Nat.gcd x.natAbs y.natAbs) ?_ ?_
 refine ag_ (ax_ zgW (fun v=>v.2) (fun v=>Nat.gcd v.1 v.2=Nat.gcd x.natAbs y.natAbs∧v.1< 1152921504606846976∧v.2< 1152921504606846976) (p,q) ⟨hg,hwp,hwq⟩ ?_ ?_)
 simp only[k9_]
 exact s_e []
 rintro⟨u,v⟩ ⟨huv,hu,hv⟩
 simp only at huv hu hv
 rw[k9_]
 refine ac_ (r_z 2 ?_)
 refine am_ rfl (fun h2=>?_) (fun h2=>?_)
 have hv0:0< v:=by simp at h2;omega
 refine ah_ (ag_ (r_d hmix 6 ?_))
 refine a_6 ?_
 refine an_ (n_k ?_)
 refine⟨(v,u % v),Nat.mod_lt _ hv0,⟨(k8_ u v).trans huv,hv,Nat.lt_trans (Nat.mod_lt _ hv0) hv⟩,?_⟩
 simp only[k9_]
 exact s_e []
 have hv0:v=0:=by simp at h2;omega
 subst hv0
 refine av_ ⟨u,by simpa using huv,?_⟩
 simp only[k9_]
 exact s_e []
 rintro v hv
 rw[k9_]
 have hv64:v< 1152921504606846976:=by
  rw[hv,←hg]
  have h1:Nat.gcd p q≤q:=Nat.gcd_le_right _ hq0
  omega
 refine r_c 3 (f5_ v (by omega)) ?_
 refine a_z ?_
 refine aj_ (bY_ rfl rfl rfl tg_40.h ts_40.h (nle rfl) ?_ ?_)
 rw[←hv];rfl
 exact a5_ _
 exact absurd h1 (by simp;omega)
 refine s_r 8 ?_
 refine a_4 ?_
 refine y_g rfl (by simp;omega) (.move rfl) ?_
 first|refine y_g rfl (by simp;omega) (.lenD rfl rfl rfl rfl te_38.h) ?_|refine y_g rfl (by simp;omega) (.lenI rfl rfl rfl rfl te_38.h) ?_|refine y_g rfl (by simp;omega) (.lenP rfl rfl rfl rfl te_38.h) ?_|refine y_g rfl (by simp;omega) (.lenC rfl rfl rfl rfl te_38.h) ?_|refine y_g rfl (by simp;omega) (.lenR rfl rfl rfl rfl te_38.h) ?_|refine y_g rfl (by simp;omega) (.len rfl rfl rfl rfl rfl te_38.h) ?_
 refine y_g rfl (by simp;omega) (.bin rfl rfl cW_) ?_
 refine o_0 (.pickT rfl (by simp;omega) rfl) ?_
 refine an_ ?_
 refine am_ rfl (fun h=>?_) (fun _=>ah_ ⟨(),trivial,?_⟩)
 exact absurd h (by simp;omega)
 simp only[hy_]
 exact s_e []
 refine s_r 8 ?_
 refine a_4 ?_
 refine n_g rfl (by simp;omega) ?_
 refine n_g rfl (by simp;omega) ?_
 refine n_g rfl (by simp;omega) ?_
 refine o_0 (.pickF rfl (by simp;omega) rfl) ?_
 refine an_ ?_
 refine am_ rfl (fun h=>?_) (fun _=>ah_ ⟨(),trivial,?_⟩)
 cases h
 simp only[hy_]
 exact s_e []
 rintro _ _
 rw[hy_]
 refine r_c 8 (hZ_ p q hq0 hp hq) ?_
 refine a_z ?_
 refine r_m 4 ?_
 refine a_z ?_
 refine⟨(q,p % q),Nat.mod_lt _ hq0,⟨(k8_ p q).trans hg,hq,?_⟩,?_⟩
 have:=bR_ (Nat.le_of_lt (Nat.mod_lt p hq0))
 simp only;omega
 simp only[hy_]
 exact s_e []
 have hq0:q=0:=by
  refine zd_eq_nil.1 (List.length_eq_zero_iff.1 ?_)
  have:=of_decide_eq_false h;omega
 subst hq0
 refine av_ ⟨p,by simpa using hg,?_⟩
 simp only[hy_]
 exact s_e []
 rintro p hp
 rw[hy_]
 have hbp:bl p≤4398046511104:=by
  rw[hp]
  rcases Nat.eq_zero_or_pos y.natAbs with e|e
  rw[e,Nat.gcd_zero_right];exact hx
  exact Nat.le_trans (bR_ (Nat.gcd_le_right _ e)) hy
 have hzp:=bv_ p
 have hlp:=a6_ (b:=UB) (by decide) p
 refine r_c 3 (fb_ 1 (zd p) (p:Int) (by omega) (zd_lt p) (by rw[hv_zd,Int.natAbs_natCast]) (fun h=>by unfold sgZ;rw[if_neg h,if_neg (by omega)])) ?_
 refine a_z ?_
 refine aj_ (bY_ rfl rfl rfl tg_40.h ts_40.h (nle rfl) ?_ ?_)
 rw[←hp];rfl
 exact a5_ _
theorem c8_(x:RQ)(hx:rok x):FSpec Tryz.prog 126 [.agg (rC x)] (.agg (zZ (x.1.den:Int))):=by
 refine f_n Tryz.func126 ?_ ?_
 exact aa_ (bb_ x) ab_
 refine r_z 2 ?_
 refine ac_ (r_z 4 ?_)
 obtain⟨q,f⟩:=x
 have hp:=q.den_pos
 cases f with
 |true=>
  have h0:q=0:=hx rfl
  subst h0
  refine am_ (t:=true) rfl (fun h=>?_) (fun h=>?_)
  refine r_c 2 (f5_ 1 (by decide)) ?_
  refine a_z ?_
  exact aj_ (c_e (a5_ _))
  cases h
 |false=>
  refine am_ rfl (fun h=>?_) (fun h=>?_)
  exfalso
  have h1:sgZ (q.den:Int)=0:=by simpa using h
  rcases bG_ (q.den:Int) with⟨a,b⟩|⟨a,b⟩|⟨a,b⟩<;> omega
  refine ah_ (r_z 3 ?_)
  exact aj_ (c_e (a5_ _))
theorem zd_one:zd 1=[1]:=by
 unfold zd;rw[cA_ (by decide) (by decide),show 1/ UB=0 by decide,bo_];rfl
theorem zZ_one{g:Nat}(h:g=1):zZ (g:Int)=[i64 1,.arr [[i64 1]]]:=by
 subst h
 show [i64 (sgZ 1),AV.arr (iE (zd 1))]=_
 rw[zd_one];rfl
theorem pW_{g:Nat}(h:(zd g).length=1):zd g=[g]:=by
 obtain⟨a,ha⟩:=List.length_eq_one_iff.1 h
 have h1:=hv_zd g
 rw[ha,iQ_,lR_] at h1
 simp at h1
 rw[ha,h1]
theorem la_{n:Nat}(h:bl n≤4398046511104):(zd n).length≤281474976710656:=by
 rw[bv_]
 have:=a6_ (b:=UB) (by decide) n
 omega
def ratS(n':Int)(D g:Nat):AState:=⟨[(2,.lptr 1 0 0),(3,.lptr 2 0 0),(4,.lptr 3 0 0),(5,.lptr 4 0 0)],[(1,some ⟨40,2,[zZ n']⟩),(2,some ⟨40,2,[zZ (D:Int)]⟩),(3,some ⟨42,4,[[i64 0,.emp,i64 0,.emp]]⟩),(4,some ⟨40,2,[zZ (g:Int)]⟩)],5,57⟩
theorem h3_(n d:Int)(hd:d≠0)(hn:bl n.natAbs≤4398046511104)(hb:bl d.natAbs≤4398046511104):FSpec Tryz.prog 204 [.agg (zZ n),.agg (zZ d)] (.agg (rC (rq (Rat.divInt n d)))):=by
 refine f_n Tryz.func204 ?_ ?_
 exact aa_ (a5_ n) (aa_ (a5_ d) ab_)
 refine r_z 3 ?_
 refine aU_ (fun n':Int=>⟨[(2,.lptr 1 0 0),(3,.lptr 2 0 0),(4,.lptr 3 0 0)],[(1,some ⟨40,2,[zZ n']⟩),(2,some ⟨40,2,[zZ (d.natAbs:Int)]⟩),(3,some ⟨42,4,[[i64 0,.emp,i64 0,.emp]]⟩)],4,57⟩) (fun n'=>n'.natAbs=n.natAbs∧Rat.divInt n d=mkRat n' d.natAbs) ?_ ?_
 refine r_z 3 ?_
 refine am_ rfl (fun h=>?_) (fun h=>?_)
 have hneg:d< 0:=by
  have h1:sgZ d< 0:=by simpa using h
  rcases bG_ d with⟨a,b⟩|⟨a,b⟩|⟨a,b⟩<;> omega
 have e: -d=(d.natAbs:Int):=by omega
 have hdn:=kP_ d
 rw[e] at hdn
 refine r_d hmix 6 ?_
 refine c_s (kP_ n) ?_
 refine c_s (hdn) ?_
 refine a_2 ?_
 refine an_ (n_k ?_)
 refine⟨-n,⟨by omega,fF_ n d hneg⟩,?_⟩
 exact s_e []
 have hpos:0< d:=by
  have h1:¬sgZ d< 0:=by simpa using h
  rcases bG_ d with⟨a,b⟩|⟨a,b⟩|⟨a,b⟩<;> omega
 have e:d=(d.natAbs:Int):=by omega
 refine ah_ ⟨n,⟨rfl,fE_ n d hpos⟩,?_⟩
 rw[←e]
 exact s_e []
 rintro n' ⟨hna,hv⟩
 have hD:0< d.natAbs:=by omega
 obtain⟨D,hDd⟩:∃D,D=d.natAbs:=⟨_,rfl⟩
 rw[hv]
 rw[←hDd] at hb hD⊢
 rw[←hna] at hn
 obtain⟨g,hg⟩:∃g,g=Nat.gcd n'.natAbs D:=⟨_,rfl⟩
 have hgp:0< g:=by rw[hg];exact Nat.gcd_pos_of_pos_right _ hD
 have hgD:g≤D:=by rw[hg];exact Nat.gcd_le_right _ hD
 have hbg:=bR_ hgD
 have hnum:(mkRat n' D).num.natAbs=n'.natAbs/ g:=by rw[ek_ hD,df_,hg]
 have hden:(mkRat n' D).den=D/ g:=by rw[(e7_ hD).2,hg]
 have hsg:=qm_ (n:=n') hD
 have hgc:=fs_ZGcd n' (D:Int) hn (by rw[Int.natAbs_natCast];exact hb)
 rw[Int.natAbs_natCast,←hg] at hgc
 have hfin:rC (rq (mkRat n' D))=zZ (sgn (decide (n'< 0)) (n'.natAbs/ g))++zZ ((D/ g:Nat):Int):=by
  rw[rC_rq,hden,ek_ hD,←hg]
 rw[hfin]
 have hgn:bl (D/ g)≤bl D:=cT_ D g
 have hgn2:bl (n'.natAbs/ g)≤bl n'.natAbs:=cT_ n'.natAbs g
 refine r_c 5 (hgc) ?_
 refine a_z ?_
 refine aU_ (fun _:Unit=>ratS n' D g) (fun _=>g≠1) ?_ ?_
 by_cases h1:g=1
 rw[zZ_one h1]
 refine s_r 11 ?_
 refine a_5 ?_
 first|refine y_g rfl rfl (.fieldAddr_l rfl tf_40_1.h (by decide)) ?_|refine y_g rfl rfl (.fieldAddr_a rfl tf_40_1.h (by decide)) ?_
 first|refine y_g rfl rfl (.load_l1 rfl rfl rfl tg_38.h rfl) ?_|refine y_g rfl rfl (.load_a1 rfl rfl tg_38.h rfl) ?_
 first|refine y_g rfl rfl (.index_l rfl rfl (by omega) (by omega) te_38.h) ?_|refine y_g rfl rfl (.index_a rfl rfl (by omega) rfl rfl te_38.h) ?_
 first|refine y_g rfl rfl (.load_l1 rfl rfl rfl tg_3.h rfl) ?_|refine y_g rfl rfl (.load_a1 rfl rfl tg_3.h rfl) ?_
 refine y_g rfl rfl (.bin rfl rfl a9_) ?_
 refine o_0 (.pickT rfl rfl rfl) ?_
 refine an_ ?_
 refine am_ rfl (fun h=>?_) (fun h=>?_)
 refine r_z 4 ?_
 refine aj_ ?_
 rw[h1,Nat.div_one,Nat.div_one,show sgn (decide (n'< 0)) n'.natAbs=n' by unfold sgn;by_cases h0:n'< 0 <;> simp[h0]<;> omega]
 exact c_e (aq_ fun c hc=>(List.mem_append.1 hc).elim (ci_ _ c) (ci_ _ c))
 exact absurd h (by decide)
 by_cases hl:(zd g).length=1
 have hz:=pW_ hl
 have hz2:zZ (g:Int)=[i64 (sgZ (g:Int)),.arr (iE [g])]:=by show [i64 (sgZ (g:Int)),AV.arr (iE (zd g))]=_;rw[hz]
 rw[hz2]
 refine s_r 11 ?_
 refine a_5 ?_
 first|refine y_g rfl rfl (.fieldAddr_l rfl tf_40_1.h (by decide)) ?_|refine y_g rfl rfl (.fieldAddr_a rfl tf_40_1.h (by decide)) ?_
 first|refine y_g rfl rfl (.load_l1 rfl rfl rfl tg_38.h rfl) ?_|refine y_g rfl rfl (.load_a1 rfl rfl tg_38.h rfl) ?_
 first|refine y_g rfl rfl (.index_l rfl rfl (by omega) (by omega) te_38.h) ?_|refine y_g rfl rfl (.index_a rfl rfl (by omega) rfl rfl te_38.h) ?_
 first|refine y_g rfl rfl (.load_l1 rfl rfl rfl tg_3.h rfl) ?_|refine y_g rfl rfl (.load_a1 rfl rfl tg_3.h rfl) ?_
 refine y_g rfl rfl (.bin rfl rfl a9_) ?_
 refine o_0 (.pickT rfl rfl rfl) ?_
 refine an_ ?_
 refine am_ rfl (fun h=>?_) (fun h=>?_)
 exact absurd h (by simp;omega)
 refine ah_ ⟨(),h1,?_⟩
 rw[←hz2]
 unfold ratS
 exact s_e [(4,5)]
 refine s_r 11 ?_
 refine a_5 ?_
 refine n_g rfl (by simp;omega) ?_
 refine n_g rfl (by simp;omega) ?_
 refine n_g rfl (by simp;omega) ?_
 refine n_g rfl (by simp;omega) ?_
 refine n_g rfl (by simp;omega) ?_
 refine o_0 (.pickF rfl (by simp;omega) rfl) ?_
 refine an_ ?_
 refine am_ rfl (fun h=>?_) (fun h=>?_)
 exact absurd h (by simp)
 refine ah_ ⟨(),h1,?_⟩
 unfold ratS
 exact s_e [(4,5)]
 rintro _ hg1
 unfold ratS
 have hzq:=fb_ (sgZ n') (zd (n'.natAbs/ g)) (sgn (decide (n'< 0)) (n'.natAbs/ g)) (la_ (by omega)) (zd_lt _) (by rw[hv_zd,df_]) (fun h=>by rw[←hsg,ek_ hD,←hg])
 have hzd:=fb_ 1 (zd (D/ g)) ((D/ g:Nat):Int) (la_ (by omega)) (zd_lt _) (by rw[hv_zd,Int.natAbs_natCast]) (fun h=>by unfold sgZ;rw[if_neg h,if_neg (by omega)])
 refine r_c 10 (hZ_ n'.natAbs g hgp hn (by omega)) ?_
 refine a_z ?_
 refine r_c 10 (hZ_ D g hgp hb (by omega)) ?_
 refine a_z ?_
 refine r_c 8 (hzq) ?_
 refine c_s (hzd) ?_
 refine a_z ?_
 exact aj_ (c_e (aq_ fun c hc=>(List.mem_append.1 hc).elim (ci_ _ c) (ci_ _ c)))
theorem zl_of{z:Int}{k:Nat}(h:bl z.natAbs≤k)(hk:k≤8796093022208):zl z:=Nat.le_trans h hk
theorem cy_(n:Int)(h: -9223372036854775808≤n∧n≤9223372036854775807):FSpec Tryz.prog 112 [i64 n] (.agg (rC (rq (n:Rat)))):=by
 rw[rC_rq]
 refine f_n Tryz.func112 ?_ ?_
 exact aa_ (ad_ _) ab_
 refine r_z 1 ?_
 refine r_c 5 (f5_ n h) ?_
 refine c_s (f5_ 1 (by decide)) ?_
 refine a_z ?_
 exact aj_ (c_e (aq_ fun c hc=>(List.mem_append.1 hc).elim (ci_ _ c) (ci_ _ c)))
theorem fs_rOf(n d:Int)(hd:d≠0)(h: -9223372036854775808≤n∧n≤9223372036854775807)(h2: -9223372036854775808≤d∧d≤9223372036854775807):FSpec Tryz.prog 119 [i64 n,i64 d] (.agg (rC (rq (Rat.divInt n d)))):=by
 have hb:∀z:Int,-9223372036854775808≤z→z≤9223372036854775807→bl z.natAbs≤4398046511104:=fun z h1 h2=>Nat.le_trans (bl_le (k:=64) (by omega)) (by decide)
 refine f_n Tryz.func119 ?_ ?_
 exact aa_ (ad_ _) (aa_ (ad_ _) ab_)
 refine r_z 1 ?_
 refine r_c 6 (f5_ n h) ?_
 refine c_s (f5_ d h2) ?_
 refine c_s (h3_ n d hd (hb n h.1 h.2) (hb d h2.1 h2.2)) ?_
 refine a_z ?_
 exact aj_ (c_e (bb_ _))
theorem na_(x:RQ)(hx:rok x):FSpec Tryz.prog 128 [.agg (rC x)] (.agg (rC (rq (-x.1)))):=by
 rw[rC_rq,Rat.neg_num,Rat.neg_den]
 refine f_n Tryz.func128 ?_ ?_
 exact aa_ (bb_ _) ab_
 refine r_z 2 ?_
 refine ac_ (r_d hmix 7 ?_)
 refine c_s (kP_ x.1.num) ?_
 refine c_s (c8_ x hx) ?_
 refine a_2 ?_
 refine an_ (n_k ?_)
 exact aj_ (c_e (aq_ fun c hc=>(List.mem_append.1 hc).elim (ci_ _ c) (ci_ _ c)))
theorem gw_(x:RQ):FSpec Tryz.prog 166 [.agg (rC x)] (i64 (sgZ x.1.num)):=by
 refine f_n Tryz.func166 ?_ ?_
 exact aa_ (bb_ _) ab_
 refine r_z 2 ?_
 refine r_z 4 ?_
 exact aj_ (t_e (ad_ _))
theorem f4_(x y:RQ)(hx:rok x)(hy:rok y)(h:qs x.1+qs y.1≤1099511627776):FSpec Tryz.prog 117 [.agg (rC x),.agg (rC y)] (.agg (rC (rq (x.1+y.1)))):=by
 obtain⟨a,fa⟩:=x
 obtain⟨b,fb⟩:=y
 simp only at h⊢
 have hp:=jo_ a b
 have h1:=b6_ a;have h2:=bW_ a;have h3:=b6_ b;have h4:=bW_ b
 have e1:=bu_ (x:=a.num) (y:=b.den) h1 (by simpa using h4)
 have e2:=bu_ (x:=b.num) (y:=a.den) h3 (by simpa using h2)
 have e3:=hp.1
 have e4:=hp.2
 have hd:(a.den:Int) * b.den≠0:=by have:=fG_ a b;rw[←Int.natCast_mul];omega
 have e:a+b=Rat.divInt (a.num* b.den+b.num* a.den) (a.den* b.den):=by
  rw[jp_,←Int.natCast_mul,←Rat.divInt_ofNat]
 rw[e]
 have e5:bl ((a.den:Int) * b.den).natAbs≤qs a+qs b:=by rw[←Int.natCast_mul,Int.natAbs_natCast];exact e4
 refine f_n Tryz.func117 ?_ ?_
 exact aa_ (bb_ _) (aa_ (bb_ _) ab_)
 refine r_z 3 ?_
 refine ac_ (r_d hmix 18 ?_)
 refine c_s (c8_ (b,fb) hy) ?_
 refine c_s (ef_ a.num b.den (zl_of h1 (by omega)) (zl_of (by simpa using h4) (by omega))) ?_
 refine c_s (c8_ (a,fa) hx) ?_
 refine c_s (ef_ b.num a.den (zl_of h3 (by omega)) (zl_of (by simpa using h2) (by omega))) ?_
 refine c_s (rC_ (a.num* b.den) (b.num* a.den) (zl_of e1 (by omega)) (zl_of e2 (by omega))) ?_
 refine c_s (c8_ (a,fa) hx) ?_
 refine c_s (c8_ (b,fb) hy) ?_
 refine c_s (ef_ a.den b.den (zl_of (by simpa using h2) (by omega)) (zl_of (by simpa using h4) (by omega))) ?_
 refine c_s (h3_ (a.num* b.den+b.num* a.den) (a.den* b.den) hd (by omega) (by omega)) ?_
 refine a_1 ?_
 refine an_ (n_k ?_)
 exact aj_ (c_e (bb_ _))
theorem rt_(x y:RQ)(hx:rok x)(hy:rok y)(h:qs x.1+qs y.1≤1099511627776):FSpec Tryz.prog 210 [.agg (rC x),.agg (rC y)] (.agg (rC (rq (x.1- y.1)))):=by
 rw[Rat.sub_eq_add_neg]
 refine f_n Tryz.func210 ?_ ?_
 exact aa_ (bb_ _) (aa_ (bb_ _) ab_)
 refine r_z 3 ?_
 refine ac_ (r_d hmix 5 ?_)
 refine c_s (na_ y hy) ?_
 refine c_s (f4_ x (rq (-y.1)) hx (bk_ _) (by simp only[rq,eQ_];exact h)) ?_
 refine a_1 ?_
 refine an_ (n_k ?_)
 exact aj_ (c_e (bb_ _))
theorem ee_(x y:RQ)(hx:rok x)(hy:rok y)(h:qs x.1+qs y.1≤1099511627776):FSpec Tryz.prog 118 [.agg (rC x),.agg (rC y)] (.agg (rC (rq (x.1* y.1)))):=by
 obtain⟨a,fa⟩:=x
 obtain⟨b,fb⟩:=y
 simp only at h⊢
 have hp:=iB_ a b
 have h1:=b6_ a;have h2:=bW_ a;have h3:=b6_ b;have h4:=bW_ b
 have e3:=hp.1
 have e4:=hp.2
 have hd:(a.den:Int) * b.den≠0:=by have:=fG_ a b;rw[←Int.natCast_mul];omega
 have e:a* b=Rat.divInt (a.num* b.num) (a.den* b.den):=by
  rw[e6_,←Int.natCast_mul,←Rat.divInt_ofNat]
 rw[e]
 have e5:bl ((a.den:Int) * b.den).natAbs≤qs a+qs b:=by rw[←Int.natCast_mul,Int.natAbs_natCast];exact e4
 refine f_n Tryz.func118 ?_ ?_
 exact aa_ (bb_ _) (aa_ (bb_ _) ab_)
 refine r_z 3 ?_
 refine ac_ (r_d hmix 12 ?_)
 refine c_s (ef_ a.num b.num (zl_of h1 (by omega)) (zl_of h3 (by omega))) ?_
 refine c_s (c8_ (a,fa) hx) ?_
 refine c_s (c8_ (b,fb) hy) ?_
 refine c_s (ef_ a.den b.den (zl_of (by simpa using h2) (by omega)) (zl_of (by simpa using h4) (by omega))) ?_
 refine c_s (h3_ (a.num* b.num) (a.den* b.den) hd (by omega) (by omega)) ?_
 refine a_1 ?_
 refine an_ (n_k ?_)
 exact aj_ (c_e (bb_ _))
theorem iW_(x y:RQ)(hx:rok x)(hy:rok y)(hy0:y.1≠0)(h:qs x.1+qs y.1≤1099511627776):FSpec Tryz.prog 201 [.agg (rC x),.agg (rC y)] (.agg (rC (rq (x.1/ y.1)))):=by
 obtain⟨a,fa⟩:=x
 obtain⟨b,fb⟩:=y
 simp only at h hy0⊢
 have h1:=b6_ a;have h2:=bW_ a;have h3:=b6_ b;have h4:=bW_ b
 have e1:=bu_ (x:=a.num) (y:=b.den) h1 (by simpa using h4)
 have e2:=bu_ (x:=a.den) (y:=b.num) (by simpa using h2) h3
 have hn0:b.num≠0:=fun e=>hy0 (Rat.num_eq_zero.1 e)
 have hd:(a.den:Int) * b.num≠0:=Int.mul_ne_zero (by have:=a.den_pos;omega) hn0
 rw[ep_]
 refine f_n Tryz.func201 ?_ ?_
 exact aa_ (bb_ _) (aa_ (bb_ _) ab_)
 refine r_z 3 ?_
 refine ac_ (r_d hmix 12 ?_)
 refine c_s (c8_ (b,fb) hy) ?_
 refine c_s (ef_ a.num b.den (zl_of h1 (by omega)) (zl_of (by simpa using h4) (by omega))) ?_
 refine c_s (c8_ (a,fa) hx) ?_
 refine c_s (ef_ a.den b.num (zl_of (by simpa using h2) (by omega)) (zl_of h3 (by omega))) ?_
 refine c_s (h3_ (a.num* b.den) (a.den* b.num) hd (by omega) (by omega)) ?_
 refine a_1 ?_
 refine an_ (n_k ?_)
 exact aj_ (c_e (bb_ _))
theorem rv_(x y:RQ)(hx:rok x)(hy:rok y)(h:qs x.1+qs y.1≤1099511627776):FSpec Tryz.prog 39 [.agg (rC x),.agg (rC y)] (i64 (cmpQ x.1 y.1)):=by
 obtain⟨a,fa⟩:=x
 obtain⟨b,fb⟩:=y
 simp only at h⊢
 have h1:=b6_ a;have h2:=bW_ a;have h3:=b6_ b;have h4:=bW_ b
 have e1:=bu_ (x:=a.num) (y:=b.den) h1 (by simpa using h4)
 have e2:=bu_ (x:=b.num) (y:=a.den) h3 (by simpa using h2)
 have e:cmpQ a b=cmpZ (a.num* b.den) (b.num* a.den):=by
  rw[sf_];unfold cmpZ
  obtain⟨u,hu⟩:∃u,u=a.num* (b.den:Int):=⟨_,rfl⟩
  obtain⟨v,hv⟩:∃v,v=b.num* (a.den:Int):=⟨_,rfl⟩
  rw[←hu,←hv]
  split
  rfl
  split <;> split <;> omega
 rw[e]
 refine f_n Tryz.func39 ?_ ?_
 exact aa_ (bb_ _) (aa_ (bb_ _) ab_)
 refine r_z 3 ?_
 refine ac_ (r_d hmix 12 ?_)
 refine c_s (c8_ (b,fb) hy) ?_
 refine c_s (ef_ a.num b.den (zl_of h1 (by omega)) (zl_of (by simpa using h4) (by omega))) ?_
 refine c_s (c8_ (a,fa) hx) ?_
 refine c_s (ef_ b.num a.den (zl_of h3 (by omega)) (zl_of (by simpa using h2) (by omega))) ?_
 refine c_s (fs_ZCmp (a.num* b.den) (b.num* a.den) (zl_of e1 (by omega)) (zl_of e2 (by omega))) ?_
 refine a_1 ?_
 refine an_ (n_k ?_)
 exact aj_ (t_e (ad_ _))
def powQ(q:Rat):Nat→Rat
 |0=>q
 |k+1=>powQ q k* q
theorem mV_(q:Rat):∀k,qs (powQ q k)≤(k+1) * qs q
 |0=>by simp[powQ]
 |k+1=>by
  have h1:=bZ_ (powQ q k) q
  have h2:=mV_ q k
  show qs (powQ q k* q)≤_
  rw[Nat.add_mul (k+1),Nat.one_mul]
  omega
def dNum(D:Int):Int:=if D=0 then 1 else D
def numV(N D:Int)(p:Nat):Rat:=powQ (Rat.divInt N (dNum D)) (p % 4)
def nuC(N D:Int)(p:Nat):List AV:=[i64 N,i64 D,.v (.int .u8 p)]
def i64r(n:Int):Prop:= -9223372036854775808≤n∧n≤9223372036854775807
theorem cw_(N D:Int)(p:Nat):∀c∈nuC N D p,Closed c:=aa_ (ad_ _) (aa_ (ad_ _) (aa_ (ad_ _) ab_))
theorem div_cast(n d:Int):(n:Rat) / (d:Rat)=Rat.divInt n d:=(Rat.divInt_eq_div n d).symm
def boT(N:Int)(D:Int)(p:Nat)(q:Rat):Nat→AState
 |k=>⟨[(1,.lptr 1 0 0),(2,.lptr 2 0 0),(3,.lptr 3 0 0),(4,.lptr 4 0 0),(6,.lptr 5 0 0),(7,.lptr 6 0 0),(8,.lptr 7 0 0),(9,.v (.int .u8 k))],
  [(1,some ⟨23,3,[nuC N D p]⟩),(2,some ⟨35,3,[zC]⟩),(3,some ⟨42,4,[[i64 0,.emp,i64 0,.emp]]⟩),(4,some ⟨35,3,[qC q]⟩),(5,some ⟨42,4,[rC (rq q)]⟩),(6,some ⟨35,3,[qC (powQ q k)]⟩),(7,some ⟨42,4,[rC (rq (powQ q k))]⟩)],8,44⟩
theorem gA_(N D:Int)(p:Nat)(hN:i64r N)(hD:i64r D)(hp:p≤255):FSpec Tryz.prog 35 [.agg (nuC N D p)] (.tup [.agg (qC (numV N D p)),.agg (rC (rq (numV N D p)))]):=by
 obtain⟨d,hd⟩:∃d,d=dNum D:=⟨_,rfl⟩
 have hd0:d≠0:=by rw[hd];unfold dNum;split <;> omega
 have hdr:i64r d:=by
  rw[hd];unfold dNum i64r;unfold i64r at hD;split <;> omega
 unfold i64r at hN hdr
 obtain⟨q,hq⟩:∃q,q=Rat.divInt N d:=⟨_,rfl⟩
 have hof:=fs_Of N d hN hdr hd0
 rw[div_cast,←hq] at hof
 have hro:=fs_rOf N d hd0 hN hdr
 rw[←hq] at hro
 have hnv:numV N D p=powQ q (p % 4):=by unfold numV;rw[←hd,←hq]
 rw[hnv]
 refine f_n Tryz.func35 ?_ ?_
 exact aa_ (aq_ (cw_ N D p)) ab_
 refine r_z 3 ?_
 refine aU_ (fun _:Unit=>⟨[(1,.lptr 1 0 0),(2,.lptr 2 0 0),(3,.lptr 3 0 0)],
  [(1,some ⟨23,3,[nuC N d p]⟩),(2,some ⟨35,3,[zC]⟩),(3,some ⟨42,4,[[i64 0,.emp,i64 0,.emp]]⟩)],4,44⟩) (fun _=>True) ?_ ?_
 refine r_z 3 ?_
 refine am_ rfl (fun h1=>?_) (fun h1=>?_)
 have h2:D=0:=by simpa using h1
 have h3:d=1:=by rw[hd];unfold dNum;rw[if_pos h2]
 refine r_m 2 ?_
 refine a_z ?_
 refine⟨(),trivial,?_⟩
 rw[h3]
 have:=cw_ N 1 p
 exact s_f []
 have h2:¬D=0:=by simpa using h1
 have h3:d=D:=by rw[hd];unfold dNum;rw[if_neg h2]
 refine ah_ ⟨(),trivial,?_⟩
 rw[h3]
 have:=cw_ N D p
 exact s_f []
 rintro _ _
 refine r_c 11 (hof) ?_
 refine a_z ?_
 refine r_c 7 (hro) ?_
 refine a_z ?_
 refine ac_ (r_d hmix 6 ?_)
 refine a_6 ?_
 refine an_ (n_k ?_)
 refine ac_ (r_z 1 ?_)
 have hqs:qs q≤64:=by
  have hb:∀z:Int,-9223372036854775808≤z∧z≤9223372036854775808→bl z.natAbs≤64:=fun z h=>bl_le (k:=64) (by omega)
  rw[hq]
  by_cases hn:d< 0
  rw[fF_ N d hn]
  exact cU_ (by omega) (hb (-N) (by omega)) (hb d (by omega))
  rw[fE_ N d (by omega)]
  exact cU_ (by omega) (hb N (by omega)) (hb d (by omega))
 have hm4:(p:Int) % 4=((p % 4:Nat):Int):=by omega
 refine aB_ (fun _:Unit=>boT N d p q (p % 4)) (fun _=>True) ?_ ?_
 refine ag_ (ax_ (boT N d p q) (fun k=>p % 4- k) (fun k=>k≤p % 4) 0 (Nat.zero_le _) ?_ ?_)
 simp only[boT.eq_1,powQ]
 exact s_f [(4,4),(5,6),(6,7),(7,8)]
 rintro k hk
 rw[boT.eq_1]
 refine ac_ (r_z 5 ?_)
 refine am_ rfl (fun h=>?_) (fun h=>?_)
 refine ah_ ?_
 have hlt:k< p % 4:=by
  have h2:(k:Int)< (p:Int) % 4:=by simpa using h
  omega
 have hpk:=mV_ q k
 have hpk2:(k+1) * qs q≤4* 64:=Nat.mul_le_mul (by omega) hqs
 refine ac_ (ag_ (r_d hmix 8 ?_))
 refine c_s (dd_ (powQ q k) q (by omega)) ?_
 refine c_s (ee_ (rq (powQ q k)) (rq q) (bk_ _) (bk_ _) (by simp only[rq];omega)) ?_
 refine a_2 ?_
 refine an_ (n_k ?_)
 refine r_m 3 ?_
 refine a_z ?_
 refine⟨k+1,by omega,hlt,?_⟩
 simp only[boT.eq_1]
 exact s_f []
 have hge:k=p % 4:=by
  have h2:¬(k:Int)< (p:Int) % 4:=by simpa using h
  omega
 subst hge
 refine av_ ⟨(),trivial,?_⟩
 exact s_f []
 rintro _ _
 rw[boT.eq_1]
 refine ac_ (r_d hmix 4 ?_)
 refine a_4 ?_
 refine an_ (n_k ?_)
 refine aj_ (Fin.many ⟨_,_,rfl,⟨_,_,_,_,_,rfl,rfl,rfl,.inl ⟨tg_35.h,_,ts_35.h,nle rfl,rfl⟩⟩,⟨_,_,rfl,⟨_,_,_,_,_,rfl,rfl,rfl,.inl ⟨tg_42.h,_,ts_42.h,nle rfl,rfl⟩⟩,rfl⟩⟩ (nle rfl) ?_)
 exact af_ (ak_ as_ (az_ _)) (af_ (ak_ as_ (bb_ _)) ao_)
def twP:List Rat:=aJ_ [0,1] 2
def fmC(p:List Rat)(g:Nat)(cap:List AV):List AV:=[.arr (pE p),.clos g [] cap]
theorem pO_(p:List Rat)(g:Nat){cap:List AV}(h:∀c∈cap,Closed c):∀c∈fmC p g cap,Closed c:=aa_ (at_ p) (aa_ (aT_ ab_ h) ab_)
def chP:Nat→List Rat×List Rat
 |0=>(dY_ 1,[0,1])
 |k+1=>((chP k).2,subP (mulP twP (chP k).2) (chP k).1)
def okCh(k:Nat):Prop:=okMul twP (chP k).2∧smL (chP k).1∧(mulP twP (chP k).2).length≤274877906944∧(chP k).1.length≤274877906944
instance (k:Nat):Decidable (okCh k):=inferInstanceAs (Decidable (_∧_∧_∧_))
abbrev bF:AV:= .aptr [fmC [0,1] 215 [bP twP]] 0 0
theorem mz_:Closed bF:=ai_ (pO_ _ _ (aa_ (bw_ _) ab_))
def chL2(n:Nat):List (List Rat):=(List.range n).map fun k=>(chP k).1
@[simp] theorem chL2_length (n:Nat):(chL2 n).length=n:=by simp[chL2]
def okL(n:Nat)(p last:List Rat):Prop:=okMul (aJ_ [0,1] ((2* (n:Int)+1:Int):Rat)) p∧smL last∧smL (aJ_ last ((n:Int):Rat))∧smL (subP (mulP (aJ_ [0,1] ((2* (n:Int)+1:Int):Rat)) p) (aJ_ last ((n:Int):Rat)))∧(mulP (aJ_ [0,1] ((2* (n:Int)+1:Int):Rat)) p).length≤1000∧last.length≤1000∧n≤1000
instance (n:Nat) (p last:List Rat):Decidable (okL n p last):=inferInstanceAs (Decidable (_∧_∧_∧_∧_∧_∧_))
def stH(n:Nat)(p last:List Rat):List Rat:=subP (mulP twP p) (aJ_ last ((2* (n:Int):Int):Rat))
def okH(n:Nat)(p last:List Rat):Prop:=okMul twP p∧smL last∧smL (aJ_ last ((2* (n:Int):Int):Rat))∧(mulP twP p).length≤1000∧last.length≤1000∧n≤1000
instance (n:Nat) (p last:List Rat):Decidable (okH n p last):=inferInstanceAs (Decidable (_∧_∧_∧_∧_∧_))

def okC(_:Nat)(p last:List Rat):Prop:=okMul twP p∧smL last∧(mulP twP p).length≤1000∧last.length≤1000
instance (n:Nat) (p last:List Rat):Decidable (okC n p last):=inferInstanceAs (Decidable (_∧_∧_∧_))
theorem rP_(p:List Rat)(h:e4_ p)(h0:trimQ p≠[])(hl:p.length≤1099511627776):FSpec Tryz.prog 57 [.arr (pE p)] (.tup [.agg (qC (cB_ p)),i64 0]):=by
 refine f_n Tryz.func57 ?_ ?_
 exact aa_ (at_ p) ab_
 refine r_z 2 ?_
 refine ac_ (r_c 3 (bJ_ p hl) ?_)
 refine a_z ?_
 refine am_ rfl (fun h1=>?_) (fun h1=>?_)
 exact absurd (degP_neg.1 (by simpa using h1)) h0
 refine ah_ (r_c 4 (fs_bound p h h0) ?_)
 refine a_z ?_
 refine aj_ (Fin.many ⟨_,_,rfl,⟨_,_,_,_,_,rfl,rfl,rfl,.inl ⟨tg_35.h,_,ts_35.h,nle rfl,rfl⟩⟩,⟨_,_,rfl,rfl,rfl⟩⟩ (nle rfl) ?_)
 exact af_ (ak_ as_ (az_ _)) (af_ (ak_ as_ (ad_ _)) ao_)
theorem fs_Count(f:Nat)(p:List Rat)(c:Cnt)(s:Sp)(hc:dX_ f p=some c)(hf:f≤1000000)(h1:okBe c s.1)(h2:okUp c s.2)(hs:smS s)(hv:cmpQ s.1 s.2≤0)(hl:iL_ p=0)(hp:p.length≤1099511627776):
    FSpec Tryz.prog 56 [.arr (pE p),.agg (spC s.1 s.2)] (.tup [i64 (uptoV c s.2- gN_ c s.1),i64 0]):=by
 have hb1:=hO_ (x:=s.2) h2.1
 have hb2:=sn_ (x:=s.1) h1.1.1
 have hla:=fs_large p hp
 rw[hl] at hla
 refine f_n Tryz.func56 ?_ ?_
 exact aa_ (at_ p) (aa_ (b4_ _ _) ab_)
 refine r_z 3 ?_
 refine ac_ (r_c 3 (ff_ s.1 s.2 hs.1 hs.2) ?_)
 refine a_z ?_
 refine am_ rfl (fun h3=>?_) (fun h3=>?_)
 exact absurd h3 (by simp[hv])
 refine ah_ (ac_ (r_c 3 (hla) ?_))
 refine a_z ?_
 refine r_z 2 ?_
 refine am_ rfl (fun h4=>?_) (fun h4=>?_)
 exact absurd h4 (by decide)
 refine ah_ (r_c 3 (rz_ f p c hc hf) ?_)
 refine a_z ?_
 refine ac_ (r_d hmix 11 ?_)
 refine c_s (ro_ c s.2 h2) ?_
 refine c_s (fs_below c s.1 h1) ?_
 refine a_3 ?_
 refine an_ (n_k ?_)
 refine aj_ (Fin.many ⟨_,_,rfl,rfl,⟨_,_,rfl,rfl,rfl⟩⟩ (nle rfl) ?_)
 exact af_ (ak_ as_ (ad_ _)) (af_ (ak_ as_ (ad_ _)) ao_)
theorem dW_(a b:Rat)(hb:b≠0)(h:qs a+qs b≤549755813888):FSpec Tryz.prog 95 [.agg (qC a),.agg (qC b)] (.agg (qC (a/ b))):=by
 refine f_n Tryz.func95 ?_ ?_
 exact aa_ (az_ a) (aa_ (az_ b) ab_)
 refine r_z 3 ?_
 refine r_c 9 (ry_ a b hb h) ?_
 refine a_z ?_
 refine r_z 2 ?_
 exact aj_ (c_e (az_ _))
theorem a4_(n:Int)(h: -9223372036854775808≤n∧n≤9223372036854775807):FSpec Tryz.prog 80 [i64 n] (.agg (qC (n:Rat))):=by
 refine f_n Tryz.func80 ?_ ?_
 exact aa_ (ad_ _) ab_
 refine r_z 1 ?_
 refine r_c 3 (dz_ n h) ?_
 refine a_z ?_
 exact aj_ (c_e (az_ _))
theorem bn_(n lo hi:Int):FSpec Tryz.prog 78 [i64 n,i64 lo,i64 hi] (bln (decide (n< lo∨hi< n))):=by
 refine f_n Tryz.func78 ?_ ?_
 exact aa_ (ad_ _) (aa_ (ad_ _) (aa_ (ad_ _) ab_))
 refine r_z 1 ?_
 by_cases h:n< lo
 rw[decide_eq_true (Or.inl h)]
 refine q_z 9 ?_
 exact aj_ (t_e (ad_ _))
 by_cases h2:hi< n
 rw[decide_eq_true (Or.inr h2)]
 refine q_z 9 ?_
 exact aj_ (t_e (ad_ _))
 rw[decide_eq_false (fun e=>e.elim h h2)]
 refine q_z 9 ?_
 exact aj_ (t_e (ad_ _))
theorem m9_(p q:List Rat)(h:okDiv p q)(h0:trimQ q≠[]):FSpec Tryz.prog 189 [.arr (pE p),.arr (pE q)] (.arr (pE (divP p q).2)):=by
 refine f_n Tryz.func189 ?_ ?_
 exact aa_ (at_ p) (aa_ (at_ q) ab_)
 refine r_z 1 ?_
 refine r_c 10 (rO_ p q h h0) ?_
 refine a_z ?_
 refine r_z 2 ?_
 exact aj_ (t_e (at_ _))
theorem ps_(p:List Rat)(hb:bdL p 68719476736)(h0:trimQ p≠[])(hl:p.length≤1099511627776):FSpec Tryz.prog 96 [.arr (pE p)] (.arr (pE (bf_ p))):=by
 have hp:smL p:=gO_ hb (by decide)
 have hle:qs (leadP p)≤68719476736:=by
  obtain⟨n,hn⟩:∃n,(trimQ p).length=n+1:=⟨(trimQ p).length- 1,by have:=List.length_pos_iff.2 h0;omega⟩
  exact hb _ (bl_ (List.mem_of_getElem? (bH_ hn)))
 have q1:qs ((1:Int):Rat)=1:=by decide
 have hq:=dy_ ((1:Int):Rat) (leadP p)
 have e:bf_ p=aJ_ p (((1:Int):Rat) / leadP p):=by unfold bf_;rw[if_neg h0];rfl
 rw[e]
 refine f_n Tryz.func96 ?_ ?_
 exact aa_ (at_ p) ab_
 refine r_z 1 ?_
 refine r_c 7 (a4_ 1 (by decide)) ?_
 refine c_s (f6_ p hl) ?_
 refine o_0 (.call rfl rfl rfl (dW_ _ (leadP p) (b9_ h0) (by omega))) ?_
 refine o_0 (.call rfl rfl rfl (dE_ p _ hp (by unfold sm;omega) hl)) ?_
 refine o_0 (.assign rfl) ?_
 refine an_ ?_
 exact aj_ (t_e (at_ _))
theorem nd_(f:List Rat)(a b:Rat)(hf:smL f)(hl:f.length≤1000000)(ha:dS_ (aK_ f) a)(hb:dS_ (aK_ f) b):FSpec Tryz.prog 82 [.arr (pE f),.agg (spC a b)] (.agg (qC (evalP (aK_ f) b- evalP (aK_ f) a))):=by
 have q1:=oF_ ha
 have q2:=oF_ hb
 unfold sm at q1 q2
 refine f_n Tryz.func82 ?_ ?_
 exact aa_ (at_ f) (aa_ (b4_ _ _) ab_)
 refine r_z 2 ?_
 refine r_c 3 (nk_ f hf (by omega)) ?_
 refine a_z ?_
 refine ac_ (r_d hmix 10 ?_)
 refine c_s (kT_ (aK_ f) b hb) ?_
 refine c_s (kT_ (aK_ f) a ha) ?_
 refine o_0 (.call rfl rfl rfl (or_ _ _ (by omega))) ?_
 refine o_1n (.store rfl rfl rfl rfl rfl rfl ts_35.h (nle rfl)) ?_
 refine an_ (n_k ?_)
 exact aj_ (c_e (az_ _))
theorem kK_(p:List Rat)(h:e4_ p)(h0:trimQ p≠[])(hl:p.length≤1099511627776):FSpec Tryz.prog 235 [.arr (pE p)] (.agg (spC (-cB_ p) (cB_ p))):=by
 refine f_n Tryz.func235 ?_ ?_
 exact aa_ (at_ p) ab_
 refine r_z 1 ?_
 refine r_c 8 (rP_ p h h0 hl) ?_
 refine a_z ?_
 refine ac_ (r_d hmix 5 ?_)
 refine c_s (gx_ (cB_ p)) ?_
 refine a_3 ?_
 refine an_ (n_k ?_)
 exact aj_ (c_e (b4_ _ _))
def wC(m:List Rat)(l r:Bool)(lo hi:List AV):List AV:=[.arr (pE m),bln l,bln r]++lo++hi
def okC2(lo:List AV):Prop:=lo=zC∨∃q,lo=qC q
theorem jh_{lo:List AV}(h:okC2 lo):∀c∈lo,Closed c:=by
 rcases h with rfl|⟨q,rfl⟩
 exact d1_
 exact aO_ q
theorem aG_{m:List Rat}{l r:Bool}{lo hi:List AV}(h:okC2 lo)(h2:okC2 hi):∀c∈wC m l r lo hi,Closed c:=fun c hc=>by
 unfold wC at hc
 rcases List.mem_append.1 hc with hc|hc
 rcases List.mem_append.1 hc with hc|hc
 exact aa_ (at_ m) (aa_ (ad_ _) (aa_ (ad_ _) ab_)) c hc
 exact jh_ h c hc
 exact jh_ h2 c hc
def ofS(t:List Rat)(W:List AV):Nat×Rat→AState
 |(i,o)=>⟨[(2,.lptr 1 0 0),(4,.lptr 2 0 0),(5,.lptr 3 0 0),(9,.arr (pE t)),(10,i64 t.length),(11,i64 i)],[(1,some ⟨51,9,[W]⟩),(2,some ⟨35,3,[zC]⟩),(3,some ⟨35,3,[qC o]⟩)],4,27⟩
theorem fs_of(p m:List Rat)(l r:Bool)(a b:Rat)(s t:Nat)(hp:bdL p s)(hm:bdL m t)(hs:1≤s)(ht:1≤t)(hpl:p.length≤1000000)(hlen:(trimQ p).length≤m.length)(hlim:(p.length+2) * (s+t+1)≤137438953472):
    FSpec Tryz.prog 114 [.agg (wC m l r (qC a) (qC b)),.arr (pE p)] (.agg (qC (ofQ (trimQ p) m (trimQ p).length))):=by
 obtain⟨T,hT⟩:∃T,T=trimQ p:=⟨_,rfl⟩
 have htl:=a2_ p
 have hTb:bdL T s:=fun q hq=>hp q (bl_ (by rw[←hT];exact hq))
 have htr:=cI_ p (by omega)
 rw[←hT] at htl hlen htr⊢
 obtain⟨W,hW⟩:∃W,W=wC m l r (qC a) (qC b):=⟨_,rfl⟩
 have hWc:∀c∈W,Closed c:=by rw[hW];exact aG_ (.inr ⟨a,rfl⟩) (.inr ⟨b,rfl⟩)
 rw[hW] at hWc
 refine f_n Tryz.func114 ?_ ?_
 exact aa_ (aq_ hWc) (aa_ (at_ p) ab_)
 refine r_z 2 ?_
 refine r_z 1 ?_
 refine ac_ (r_c 4 (htr) ?_)
 refine a_z ?_
 have hWr:W=wC m l r (qC a) (qC b):=hW
 refine aB_ (fun _:Unit=>⟨[(4,.lptr 1 0 0),(5,.lptr 2 0 0)],[(1,some ⟨35,3,[zC]⟩),(2,some ⟨35,3,[qC (ofQ T m T.length)]⟩)],3,27⟩) (fun _=>True) ?_ ?_
 refine ag_ (ax_ (ofS T (wC m l r (qC a) (qC b))) (fun x=>T.length- x.1) (fun x=>x.1≤T.length∧x.2=ofQ T m x.1) (0,0) ⟨Nat.zero_le _,rfl⟩ ?_ ?_)
 simp only[ofS.eq_1]
 rw[qC0]
 exact s_f [(1,2),(2,4),(3,5)]
 rintro⟨i,o⟩ ⟨hi,ho⟩
 simp only at hi ho
 rw[ofS.eq_1]
 by_cases hlt:i< T.length
 refine q_z 1 ?_
 refine ac_ (cT (ah_ ?_))
 have hgt:(pE T)[((i:Nat):Int).toNat]?=some (qC (coP T i)):=bD_ (bd_ hlt)
 have hgm:(pE m)[((i:Nat):Int).toNat]?=some (qC (coP m i)):=bD_ (bd_ (by omega))
 have hc:=bE_ hTb hs i
 have hd:=bE_ hm ht i
 have hq:=lD_ hTb hm hs ht i
 rw[←ho] at hq
 have e1:i* (s+t+1)≤(p.length+1) * (s+t+1):=Nat.mul_le_mul_right _ (by omega)
 have e2:(p.length+2) * (s+t+1)=(p.length+1) * (s+t+1)+(s+t+1):=Nat.succ_mul _ _
 have hmu:=dd_ (coP T i) (coP m i) (by omega)
 have hqm:=bZ_ (coP T i) (coP m i)
 have had:=fT_ o (coP T i* coP m i) (by omega)
 refine ac_ (ag_ (s_r 6 ?_))
 refine a_1 ?_
 refine i_x hgt ?_
 refine l_x hgt ?_
 refine a_z ?_
 refine r_d hmix 10 ?_
 refine a_5 ?_
 refine i_x hgm ?_
 refine l_x hgm ?_
 refine c_s (hmu) ?_
 refine c_s (had) ?_
 refine a_1 ?_
 refine an_ (n_k ?_)
 refine r_m 2 ?_
 refine a_z ?_
 refine⟨(i+1,o+coP T i* coP m i),by simp only;omega,⟨hlt,by simp only;rw[ofQ,←ho]⟩,?_⟩
 simp only[ofS.eq_1]
 exact s_f []
 have hge:i=T.length:=by omega
 subst hge
 refine q_z 1 ?_
 refine ac_ (cF (av_ ⟨(),trivial,?_⟩))
 rw[ho]
 exact s_e [(1,4),(2,5)]
 rintro _ _
 refine r_z 2 ?_
 exact aj_ (c_e (az_ _))
theorem fs_real1(p:List Rat)(n:Int)(hl:p.length≤1099511627776)(h:1≤degP p∧degP p≤25)(hb:e4_ p)(hc:FSpec Tryz.prog 56 [.arr (pE p),.agg (spC (-cB_ p) (cB_ p))] (.tup [i64 n,i64 0])):FSpec Tryz.prog 160 [.arr (pE p)] (bln (decide (n=degP p))):=by
 have ho:=bn_ (degP p) 1 25
 rw[decide_eq_false (by omega)] at ho
 have h0:trimQ p≠[]:=fun e=>by have:=degP_neg.2 e;omega
 have hev:=kK_ p hb h0 hl
 refine f_n Tryz.func160 ?_ ?_
 exact aa_ (at_ p) ab_
 refine r_z 1 ?_
 refine r_c 3 (bJ_ p hl) ?_
 refine a_z ?_
 refine ac_ (r_c 2 (ho) ?_)
 refine an_ ?_
 refine cF (ah_ (r_c 9 (hev) ?_))
 refine c_s (hc) ?_
 refine a_z ?_
 refine r_z 4 ?_
 exact aj_ (t_e (ad_ _))
abbrev ruC(p w:List Rat):List AV:=[.arr (pE p),.arr (pE w)]
theorem bU_(p w:List Rat):∀c∈ruC p w,Closed c:=aa_ (at_ p) (aa_ (at_ w) ab_)
theorem md_(p w:List Rat)(hr:FSpec Tryz.prog 160 [.arr (pE p)] (bln true))(hm:leadP p=1)(hd:degP w< degP p)(hp:p.length≤1099511627776)(hw:w.length≤1099511627776):FSpec Tryz.prog 94 [.agg (ruC p w)] (i64 0):=by
 have hle:=f6_ p hp
 rw[hm] at hle
 have hwh:=a4_ 1 (by decide)
 have hcm:=j1_ 1 ((1:Int):Rat) (by decide) (by decide)
 rw[show cmpQ 1 ((1:Int):Rat)=0 by decide+kernel] at hcm
 refine f_n Tryz.func94 ?_ ?_
 exact aa_ (aq_ (bU_ p w)) ab_
 refine r_z 2 ?_
 refine ac_ (ac_ (r_d hmix 21 ?_))
 refine c_s (hr) ?_
 refine c_s (hle) ?_
 refine c_s (hwh) ?_
 refine c_s (hcm) ?_
 refine ay_ rfl rfl rfl (.bin rfl rfl (vF ba_ (rfl))) rfl rfl ?_
 refine c_s (bJ_ w hw) ?_
 refine c_s (bJ_ p hp) ?_
 refine d_2 ?_
 refine an_ (n_k ?_)
 refine cF (ah_ (r_z 1 ?_))
 exact aj_ (t_e (ad_ _))
theorem bS_(m:List Rat)(l r:Bool)(a b:Rat)(hm:1≤m.length∧m.length≤64)(hab:l=true→r=true→a< b)(ha:sm a)(hb:sm b):FSpec Tryz.prog 31 [.agg (wC m l r (qC a) (qC b))] (i64 0):=by
 have ho:=bn_ (m.length:Nat) 1 64
 rw[decide_eq_false (by omega)] at ho
 have hWc:=aG_ (m:=m) (l:=l) (r:=r) (.inr ⟨a,rfl⟩) (.inr ⟨b,rfl⟩)
 have hcm:=j1_ a b ha hb
 refine f_n Tryz.func31 ?_ ?_
 exact aa_ (aq_ hWc) ab_
 refine r_z 2 ?_
 cases l with
 |false=>
  refine ac_ (r_c 20 (ho) ?_)
  refine a_z ?_
  refine cF (ah_ (r_z 1 ?_))
  exact aj_ (t_e (ad_ _))
 |true=>
  cases r with
  |false=>
   refine ac_ (r_c 20 (ho) ?_)
   refine a_z ?_
   refine cF (ah_ (r_z 1 ?_))
   exact aj_ (t_e (ad_ _))
  |true=>
   have hlt:=hab rfl rfl
   rw[show cmpQ a b= -1 by unfold cmpQ;rw[if_pos hlt]] at hcm
   refine ac_ (r_c 20 (ho) ?_)
   refine c_s (hcm) ?_
   refine ay_ rfl rfl rfl (.bin rfl rfl (vF cN_ (rfl))) rfl rfl ?_
   refine a_z ?_
   refine cF (ah_ (r_z 1 ?_))
   exact aj_ (t_e (ad_ _))
theorem l4_ (p:List Rat) (n:Nat) (hl:p.length≤1000000) (hn:n≤40) (hmx:(if (0:Int)> degP p then(0:Int) else degP p) * n≤72∧0≤(if (0:Int)> degP p then(0:Int) else degP p) * n)
    (hM:∀j,j< n→FSpec Tryz.prog 52 [.arr (pE (powP p j)),.arr (pE p)] (.arr (pE (powP p (j+1))))):FSpec Tryz.prog 174 [.arr (pE p),i64 n] (.tup [.arr (pE (powP p n)),i64 0]):=by
 have hdg:(0:Int)≤degP p+1∧degP p≤1000000:=by
  have:=a2_ p
  unfold degP
  omega
 refine f_n Tryz.func174 ?_ ?_
 exact aa_ (at_ p) (aa_ (ad_ _) ab_)
 refine r_z 2 ?_
 refine ac_ (ag_ (q_z 7 ?_))
 refine cF (r_c 7 (bJ_ p (by omega)) ?_)
 refine a_2 ?_
 refine o_0 (.bin rfl rfl (ia_ (by omega))) ?_
 refine d_z ?_
 refine cF (ah_ ?_)
 have h1:=dz_ 1 (by decide)
 have h2:=iX_ 1
 refine r_c 3 (h1) ?_
 refine c_s (h2) ?_
 refine a_z ?_
 refine ac_ (r_z 2 ?_)
 refine aB_ (fun _:Unit=>⟨[(6,.arr (pE (powP p n)))],[],1,31⟩) (fun _=>True) ?_ ?_
 refine ag_ (ax_ (fun j:Nat=>⟨[(24,i64 ((j:Nat):Int)),(23,i64 ((n:Nat):Int)),(6,.arr (pE (powP p j))),(0,.arr (pE p))],[],1,31⟩) (fun j=>n- j) (fun j=>j≤n) 0 (Nat.zero_le _) ?_ ?_)
 exact s_e []
 rintro j hj
 by_cases hlt:j< n
 have hm:=hM j hlt
 refine q_z 1 ?_
 refine ac_ (cT (ah_ (ac_ (ag_ (r_m 4 ?_)))))
 refine c_s (hm) ?_
 refine a_z ?_
 refine r_m 2 ?_
 refine a_z ?_
 refine⟨j+1,by omega,hlt,?_⟩
 exact s_e []
 have hge:j=n:=by omega
 subst hge
 refine q_z 1 ?_
 refine ac_ (cF (av_ ⟨(),trivial,?_⟩))
 exact s_e []
 rintro _ _
 refine r_z 3 ?_
 refine aj_ (Fin.many ⟨_,_,rfl,rfl,⟨_,_,rfl,rfl,rfl⟩⟩ (nle rfl) ?_)
 exact af_ (ak_ as_ (at_ _)) (af_ (ak_ as_ (ad_ _)) ao_)
theorem fs_Power(p:List Rat)(n:Nat)(hs:bdL p 256)(hl:p.length≤12)(hn:n≤6)(hb:∀k,k≤n→pB p.length k≤1073741824):FSpec Tryz.prog 174 [.arr (pE p),i64 n] (.tup [.arr (pE (powP p n)),i64 0]):=by
 have hdg:(0:Int)≤degP p+1∧degP p≤12:=by
  have:=a2_ p
  unfold degP
  omega
 refine l4_ p n (by omega) (by omega) ?_ fun j hlt=>?_
 have h1:(0:Int)≤(if (0:Int)> degP p then(0:Int) else degP p)∧(if (0:Int)> degP p then(0:Int) else degP p)≤12:=by split <;> omega
 generalize (if (0:Int)> degP p then(0:Int) else degP p)=m at h1⊢
 have h2:m* n≤12* 6:=Int.mul_le_mul h1.2 (by omega) (by omega) (by decide)
 exact⟨h2,Int.mul_nonneg h1.1 (by omega)⟩
 have hB:=hb (j+1) hlt
 have hll:=gm_ p j
 have hjl:j* p.length≤6* 12:=Nat.mul_le_mul (by omega) hl
 exact j3_ (powP p j) p (pB p.length j) 256 (qE_ hs j) hs (pB_pos p.length j) (by decide) (by
  have h3:=Nat.mul_le_mul_right (pB p.length j+256+1) hll
  have h4:(j* p.length+1) * (pB p.length j+256+1)+1≤1073741824:=hB
  omega) (by decide) (by omega) (by omega)
theorem rJ_(u v:Rat)(n:Nat)(hu:qs u≤256)(hv:qs v≤256)(hn:n≤8):FSpec Tryz.prog 174 [.arr (pE [u,v]),i64 n] (.tup [.arr (pE (powP [u,v] n)),i64 0]):=by
 have hd:degP [u,v]≤1:=by
  have:=a2_ [u,v]
  have e:[u,v].length=2:=rfl
  unfold degP
  omega
 refine l4_ [u,v] n (by simp) (by omega) ?_ fun j hj=>?_
 have h1:(0:Int)≤(if (0:Int)> degP [u,v] then(0:Int) else degP [u,v])∧(if (0:Int)> degP [u,v] then(0:Int) else degP [u,v])≤1:=by split <;> omega
 generalize (if (0:Int)> degP [u,v] then(0:Int) else degP [u,v])=m at h1⊢
 have h2:m* n≤1* 8:=Int.mul_le_mul h1.2 (by omega) (by omega) (by decide)
 exact⟨by omega,Int.mul_nonneg h1.1 (by omega)⟩
 have hll:=gm_ [u,v] j
 have e:[u,v].length=2:=rfl
 have hb:=lB_le (n:=j) (by omega)
 rw[e] at hll
 exact j3_ (powP [u,v] j) [u,v] (lB j) 256 (gn_ hu hv j) (bd_uv hu hv) (e8_ j) (by decide) (by
  have h3:=Nat.mul_le_mul (show(powP [u,v] j).length≤20 by omega) (show lB j+256+1≤200000 by omega)
  omega) (by decide) (by omega) (by simp)
end Go.Proofs.YtdjfjpeoddmamaaGreatDoor
namespace Go.Proofs.YtdjfjpeoddmamaaGreatDoor
open Go.Abs Go.RowKit
set_option maxRecDepth 20000
theorem p3_:Tryz.prog.underlying 220=some (.pointer 223):=by kernel_rfl
theorem lc_:Tryz.prog.underlying 323=some .unsafePointer:=by kernel_rfl
theorem p2_:(Tryz.prog.info? 223).map (·.size)=some 2:=by kernel_rfl
set_option maxHeartbeats 1000000 in
theorem cs_used(b:Nat)(w:World)(h0:w.cell? ⟨b,0,none⟩=some (.pointer (some ⟨b,0,none⟩))):
    Calls Tryz.prog 241 #[.pointer (some ⟨b,0,none⟩)] w fun e w'=>e= .returned (.tuple #[])∧w'=w:=by
 obtain⟨j,hj,_⟩:=Option.map_eq_some_iff.1 p2_
 go_enter Tryz.func241,Tryz.ntmps241
 go_wp2
 rw[Lib.run_neq_ptr_same w _ p3_ hj]
 go_wp2
 go_end0
 exact⟨rfl,rfl⟩
theorem lL_{n:Nat}(hn:2≤n):liesAt Tryz.prog Tryz.prog.depth 223 (n/ Tryz.prog.cellsOf 223) 0 223 1=true:=by
 have hc:Tryz.prog.cellsOf 223=2:=by kernel_rfl
 rw[hc]
 have hd:Tryz.prog.depth=(2* (Tryz.prog.types.size+Made.depth)+1)+1:=rfl
 rw[hd]
 simp only[liesAt,Bool.or_eq_true]
 left
 rw[hd]
 have:1≤n/ 2:=by omega
 simp[rowAt,sameLayout,this,hc]
set_option maxHeartbeats 1000000 in
theorem cs_fresh(b:Nat)(w:World)(cs:Array Value)(hh:w.heap[b]?=some (.cells cs 223 (0,0)))(hsz:2≤cs.size)(hc:cs[0]?=some (.pointer none)):
    Calls Tryz.prog 241 #[.pointer (some ⟨b,0,none⟩)] w fun e w'=>e= .returned (.tuple #[])∧w'=w.setCell ⟨b,0,none⟩ (.pointer (some ⟨b,0,none⟩)):=by
 obtain⟨j,hj,hjs⟩:=Option.map_eq_some_iff.1 p2_
 have h0:w.cell? ⟨b,0,none⟩=some (.pointer none):=by simp[World.cell?,hh,hc]
 have hsh:w.shape? b=some (223,cs.size):=by simp[World.shape?,hh]
 have hfz:w.frozen? ⟨b,0,none⟩=false:=by simp[World.frozen?,hh]
 go_enter Tryz.func241,Tryz.ntmps241
 go_wp2
 rw[Lib.run_to_unsafe w ⟨b,0,none⟩ p3_ lc_ hj (by rw[hjs];decide) hsh (by show 0< cs.size;omega)]
 simp only[Result.andThen]
 rw[Oper.upon_value]
 go_wp2
 rw[run_callFunc_extern Tryz.func288 (by kernel_rfl) (by kernel_rfl) (by kernel_rfl) (e:=Extern.AbiNoEscape.same) (by kernel_rfl)]
 rw[Lib.run_noEscape]
 simp only[Result.andThen]
 rw[Oper.upon_value]
 go_wp2
 rw[Lib.run_from_unsafe w ⟨b,0,none⟩ lc_ p3_ hj hsh (lL_ hsz)]
 simp only[Result.andThen]
 rw[Oper.upon_value]
 go_wp2
 go_end0
 exact⟨rfl,rfl⟩
theorem i4_{P:Go.Program}{f:Nat}{fn:Func}{c:Code}(hf:P.funcs[f]?=some fn)(hb:fn.body=some c)(hname:(fn.name== "runtime.NumGoroutine")=false)(xs:Array Value)(w:World):(callFunc f xs).run P w= .ok (.enter f xs) w:=by
 have hname':¬fn.name= "runtime.NumGoroutine" :=by simpa using hname
 simp[callFunc,hf,hname',hb]
theorem hM_:CSpec Tryz.prog 241 223:=
 ⟨fun xs w=>i4_ Tryz.func241 rfl (by kernel_rfl) xs w,fun b w h0=>cs_used b w h0,fun b w cs hh hsz h0=>cs_fresh b w cs hh hsz h0⟩
theorem n2_(a b:Value):Pure (.tup [.v a,.v b]):=by
 rintro M M' β β' w w' y ⟨xs,rfl,x1,x2,e,h1,⟨x3,x4,e2,h2,h3⟩⟩
 exact⟨xs,rfl,x1,x2,e,h1,x3,x4,e2,h2,h3⟩
theorem dM_:Tryz.prog.underlying 9=some .string:=by kernel_rfl
theorem bE_len(q:List UInt8):lenA (.arr (bE q))=some q.length:=by simp[lenA,bO_]
theorem gY_(t:List UInt8):(⟨t.toArray⟩:ByteArray).size=t.length:=by simp[ByteArray.size]
theorem et_(t:List UInt8)(h0:t≠[])(hl:t.length≤1099511627776):BSpec Tryz.prog 171 223 5 none t [tx t] (.tup [i64 t.length,.v .nilIface]):=by
 refine BSpec.intro Tryz.func171 rfl (by kernel_rfl) (aa_ (ad_ _) ab_) (n2_ _ _) (nle rfl) ?_
 show AWp _ _ _ _ ⟨[(0,.lptr 0 0 0),(1,tx t)],[(0,some ⟨223,2,[bldC 0 1 none]⟩)],2,19⟩
 refine r_z 2 ?_
 refine s_r 2 ?_
 refine a_1 ?_
 refine o_1 (.callC rfl rfl rfl rfl rfl (by first|exact .inl rfl|exact .inr rfl) (hM_)) ?_
 refine an_ ?_
 refine s_r 10 ?_
 refine a_6 ?_
 refine o_1 (.appS_e rfl rfl rfl te_221.h dM_ rfl rfl h0 tz_5.h rfl tb_5.h (by omega)) ?_
 refine a_z ?_
 refine s_r 4 ?_
 refine o_0 (.move rfl) ?_
 refine o_0 (.builtinV (vs:=[_]) rfl rfl (fun _ _ _=>rfl)) ?_
 refine o_0 (.assign rfl) ?_
 refine o_0 (.assign rfl) ?_
 refine an_ ?_
 refine aj_ ⟨.inr rfl,?_,12,by decide,rfl,rfl⟩
 refine⟨[_,_],⟨_,_,rfl,rfl,⟨_,_,rfl,rfl,rfl⟩⟩,Cv.tup ?_⟩
 refine af_ (Cv.loE as_ ?_ (ad_ _)) (af_ (ak_ as_ (ad_ _)) ao_)
 rw[gY_];rfl
theorem dv_(q t:List UInt8)(hl:q.length+t.length≤1099511627776):BSpec Tryz.prog 171 223 5 (some q) (q++t) [tx t] (.tup [i64 t.length,.v .nilIface]):=by
 refine BSpec.intro Tryz.func171 rfl (by kernel_rfl) (aa_ (ad_ _) ab_) (n2_ _ _) (nle rfl) ?_
 show AWp _ _ _ _ ⟨[(0,.lptr 0 0 0),(1,tx t)],[(0,some ⟨223,2,[bldC 0 1 (some q)]⟩),(1,some ⟨5,1,bE q⟩)],2,19⟩
 refine r_z 2 ?_
 refine s_r 2 ?_
 refine a_1 ?_
 refine o_1 (.callC rfl rfl rfl rfl rfl (by first|exact .inl rfl|exact .inr rfl) (hM_)) ?_
 refine an_ ?_
 refine s_r 10 ?_
 refine a_6 ?_
 refine o_2 (.appS_l rfl rfl rfl te_221.h dM_ rfl rfl rfl rfl tz_5.h rfl tb_5.h (by omega)) ?_
 refine a_z ?_
 refine s_r 4 ?_
 refine o_0 (.move rfl) ?_
 refine o_0 (.builtinV (vs:=[_]) rfl rfl (fun _ _ _=>rfl)) ?_
 refine o_0 (.assign rfl) ?_
 refine o_0 (.assign rfl) ?_
 refine an_ ?_
 refine aj_ ⟨.inr rfl,?_,12,by decide,rfl,rfl⟩
 refine⟨[_,_],⟨_,_,rfl,rfl,⟨_,_,rfl,rfl,rfl⟩⟩,Cv.tup ?_⟩
 refine af_ (Cv.loE as_ ?_ (ad_ _)) (af_ (ak_ as_ (ad_ _)) ao_)
 rw[gY_];rfl
theorem kS_:FSpec Tryz.prog 170 [.aptr [bldV none] 0 0] (i64 0):=by
 have hc:Closed (.aptr [bldV none] 0 0):=ai_ (aa_ (ad_ _) (aa_ bt_ ab_))
 refine f_n Tryz.func170 ?_ ?_
 exact aa_ hc ab_
 refine r_z 1 ?_
 refine r_z 6 ?_
 exact aj_ (t_e (ad_ _))
theorem kR_(q:List UInt8):FSpec Tryz.prog 170 [.aptr [bldV (some q)] 0 0] (i64 q.length):=by
 have hc:Closed (.aptr [bldV (some q)] 0 0):=ai_ (aa_ (lo_any 0).closed (aa_ (aX_ (mA_ q)) ab_))
 refine f_n Tryz.func170 ?_ ?_
 exact aa_ hc ab_
 refine r_z 1 ?_
 refine s_r 6 ?_
 refine a_4 ?_
 refine o_0 (.len rfl rfl rfl rfl (bE_len q) te_221.h) ?_
 refine a_z ?_
 exact aj_ (t_e (ad_ _))
theorem ub_byte:Tryz.prog.underlying 288=some (.pointer 5):=by kernel_rfl
theorem ub_cells:Tryz.prog.cellsOf 5=1:=by kernel_rfl
theorem pQ_(w:World)(g n:Nat):But g w (w.drew.freeze ⟨g,0,none⟩ n):=by
 have hh:∀x,x≠g→(w.drew.freeze ⟨g,0,none⟩ n).heap[x]?=w.heap[x]?:=by
  intro x hx
  unfold World.freeze
  split
  rfl
  show(w.heap.modify g _)[x]?=_
  rw[Array.getElem?_modify,if_neg (Ne.symm hx)]
 have hsz:(w.drew.freeze ⟨g,0,none⟩ n).heap.size=w.heap.size:=by
  unfold World.freeze
  split
  rfl
  show(w.heap.modify g _).size=_
  simp
 refine⟨?_,?_,?_,by omega,fun x _ hx=>hh x hx,fun x N hx=>?_⟩
 unfold World.freeze;split <;> rfl
 unfold World.freeze;split <;> rfl
 unfold World.freeze;split <;> rfl
 by_cases hxg:x=g
 subst hxg
 unfold World.freeze
 split
 exact hx
 unfold aN_ at hx⊢
 show(match (w.heap.modify x _)[x]? with|some (.cells cs _ _)=>some cs.size|some (.map _ _)=>some 0|_=>none)=some N
 rw[Array.getElem?_modify,if_pos rfl]
 cases ho:w.heap[x]? with
 |none=>rw[ho] at hx;cases hx
 |some o=>
  rw[ho] at hx
  cases o <;> simp_all
 unfold aN_ at hx⊢
 rw[hh x hxg];exact hx
set_option maxHeartbeats 2000000 in
theorem ds_run (b bj cap:Nat) (q:List UInt8) (w:World) (cs ck:Array Value) (h0:q≠[]) (hb:w.heap[b]?=some (.cells cs 223 (0,0))) (hc1:cs[1]?=some (.slice (some ⟨bj,0,none⟩) q.length cap)) (hl:q.length≤cap) (hm:cap≤maxLen) (hne:b≠bj) (hj:w.heap[bj]?=some (.cells ck 5 (0,0))) (hck:cap≤ck.size)
    (hq:∀(k:Nat) (x:UInt8),q[k]?=some x→ck[k]?=some (Value.int .u8 x.toNat)):Calls Tryz.prog 173 #[.pointer (some ⟨b,0,none⟩)] w fun e w'=>e= .returned (.string ⟨q.toArray⟩)∧But bj w w':=by
 have hl0:q.length≠0:=by simpa using h0
 have c1:w.drew.cell? ⟨b,1,none⟩=some (.slice (some ⟨bj,0,none⟩) q.length cap):=by
  have:w.drew.heap[b]?=some (.cells cs 223 (0,0)):=hb
  simp[World.cell?,this,hc1]
 have hSD:(Builtin.unsafeSliceData_ #[221] 288 #[.slice (some ⟨bj,0,none⟩) q.length cap]).run Tryz.prog w.drew= .ok (.pointer (some ⟨bj,0,none⟩)) w.drew:=
  Lib.run_unsafeSliceData_row _ _ _ _ _ _ (by omega)
 have hUS:(Builtin.unsafeString_ #[288,3] 9 #[.pointer (some ⟨bj,0,none⟩),.int .i64 q.length]).run Tryz.prog w.drew= .ok (.string ⟨q.toArray⟩) (w.drew.freeze ⟨bj,0,none⟩ q.length):=by
  refine Lib.run_unsafeString_row w.drew 288 3 9 5 ub_byte ub_cells bj ck.size (by have hg':w.drew.heap[bj]?=some (.cells ck 5 (0,0)):=hj;simp[World.shape?,hg']) q h0 (by omega) (by unfold maxLen at hm;omega) ?_
  intro j x hx
  have hg':w.drew.heap[bj]?=some (.cells ck 5 (0,0)):=hj
  rw[show(⟨bj,0,none⟩:Addr).add j=⟨bj,0+j,none⟩ from fr_ bj 0 j]
  simp[World.cell?,hg',hq j x hx]
 have mixed:=hmix
 go_enter Tryz.func173,Tryz.ntmps173
 go_wp2
 go_region_o
 all_goals (go_wp2;go_ret;exact⟨rfl,pQ_ w bj q.length⟩)
theorem i5_:DSpec Tryz.prog 173 223 5:=
 ⟨fun xs w=>i4_ Tryz.func173 rfl (by kernel_rfl) xs w,fun b bj cap q w cs ck h0 hb hc1 hl hm hne hj hck hq=>ds_run b bj cap q w cs ck h0 hb hc1 hl hm hne hj hck hq⟩
end Go.Proofs.YtdjfjpeoddmamaaGreatDoor
namespace Go.Proofs.YtdjfjpeoddmamaaGreatDoor
open Go.Abs
set_option maxRecDepth 20000
def dec2(n:Nat):List UInt8:=if n< 10 then [48+n.toUInt8] else [48+(n/ 10).toUInt8,48+(n % 10).toUInt8]
theorem kX_(s:ByteArray)(l h:Nat)(zl zh:Int)(el:zl=(l:Int))(eh:zh=(h:Int))(hlh:l≤h)(hh:h≤s.size):∀w,(Instr.sliceAt 9 (.string s) (some (.int .i64 zl)) (some (.int .i64 zh)) none).run Tryz.prog w= .ok (.string (s.extract l h)) w:=fun w=>by
 subst el eh
 have b1:∀(i y:Nat) (c:BoundsCode),i≤y→(Instr.sliceBound (.int .i64 (i:Int)) y c).run Tryz.prog w= .ok i w:=fun i y c hi=>cq_ hi c w
 have hr:(Instr.slice 9 (.string s) (some (.int .i64 (l:Int))) (some (.int .i64 (h:Int))) none).run Tryz.prog w= .ok (.string (s.extract l h)) w:=by
  simp[Instr.slice,run_underlying dM_,Instr.sliceBounds,b1 h s.size _ hh,b1 l h _ hlh,Result.andThen]
 unfold Instr.sliceAt
 rw[Sem.run_bind,run_underlying dM_]
 exact hr
def smallsB:ByteArray:=⟨((List.range 100).flatMap fun n=>[48+(n/ 10).toUInt8,48+(n % 10).toUInt8]).toArray⟩
theorem rp_(i:Nat)(h:i< 100):FSpec Tryz.prog 315 [i64 i] (tx (dec2 i)):=by
 refine f_n Tryz.func315 ?_ ?_
 exact aa_ (ad_ _) ab_
 refine r_z 1 ?_
 refine ac_ (r_z 2 ?_)
 refine am_ rfl (fun h1=>?_) (fun h1=>?_)
 have h2:i< 10:=by simp at h1;omega
 refine s_r 5 ?_
 refine a_3 ?_
 refine o_0 (.slice_v rfl rfl rfl rfl (kX_ _ i (i+1) _ _ rfl (by omega) (by omega) (by exact Nat.le_trans (m:=10) (by omega) (by decide)))) ?_
 refine a_z ?_
 refine aj_ (aR_ rfl ?_ ?_)
 have key:∀i,i< 10→(ByteArray.mk #[48,49,50,51,52,53,54,55,56,57,97,98,99,100,101,102,103,104,105,106,107,108,109,110,111,112,113,114,115,116,117,118,119,120,121,122]).extract i (i+1)=⟨(dec2 i).toArray⟩:=by decide
 exact congrArg (fun s=>AV.v (.string s)) (key i h2)
 exact ad_ _
 have h2:10≤i:=by simp at h1;omega
 refine ah_ (s_r 7 ?_)
 refine a_5 ?_
 refine o_0 (.slice_v rfl rfl rfl rfl (kX_ _ (i* 2) (i* 2+2) _ _ (by omega) (by omega) (by omega) (by exact Nat.le_trans (m:=200) (by omega) (by decide)))) ?_
 refine a_z ?_
 refine aj_ (aR_ rfl ?_ ?_)
 have key:∀i,i< 100→10≤i→smallsB.extract (i* 2) (i* 2+2)=⟨(dec2 i).toArray⟩:=by decide
 refine congrArg (fun s=>AV.v (.string s)) (Eq.trans (congrArg (fun s:ByteArray=>s.extract _ _) (?_:_=smallsB)) (key i h h2))
 kernel_rfl
 exact ad_ _
theorem l7_(i:Nat)(h:i< 100):FSpec Tryz.prog 289 [i64 i,i64 10] (tx (dec2 i)):=by
 refine f_n Tryz.func289 ?_ ?_
 exact aa_ (ad_ _) (aa_ (ad_ _) ab_)
 refine r_z 1 ?_
 refine ac_ (r_z 2 ?_)
 refine am_ rfl (fun h1=>?_) (fun h1=>?_)
 refine ac_ (s_r 6 ?_)
 refine a_3 ?_
 refine y_g rfl (by simp) (.move rfl) ?_
 refine y_g rfl (by simp) (.bin rfl rfl do_) ?_
 refine o_0 (.pickT rfl (by simp) rfl) ?_
 refine an_ ?_
 refine am_ rfl (fun h2=>?_) (fun h2=>?_)
 refine r_c 3 (rp_ i h) ?_
 refine a_z ?_
 exact aj_ (t_e (ad_ _))
 exact absurd h2 (by simp;omega)
 exact absurd h1 (by simp)
theorem fs_iItoa(i:Nat)(h:i< 100):FSpec Tryz.prog 242 [i64 i] (tx (dec2 i)):=by
 refine f_n Tryz.func242 ?_ ?_
 exact aa_ (ad_ _) ab_
 refine r_z 1 ?_
 refine r_c 3 (l7_ i h) ?_
 refine a_z ?_
 exact aj_ (t_e (ad_ _))
theorem nj_(i:Nat)(h:i< 100):FSpec Tryz.prog 172 [i64 i] (tx (dec2 i)):=by
 refine f_n Tryz.func172 ?_ ?_
 exact aa_ (ad_ _) ab_
 refine r_z 1 ?_
 refine r_c 3 (fs_iItoa i h) ?_
 refine a_z ?_
 exact aj_ (t_e (ad_ _))
def te0(m:Nat):Unit→AState
 |u=>⟨[(1,.lptr 1 0 0),(3,.lptr 2 0 0),(11,.clos 284 [] [.aptr [[.arr (dE [m])]] 0 0])],[(1,some ⟨31,1,[[.arr (dE [m])]]⟩),(2,some ⟨223,2,[bldC 2 0 none]⟩)],4,31⟩
def te1(m:Nat):Unit→AState
 |u=>⟨[(1,.lptr 1 0 0),(3,.lptr 2 0 0),(11,.clos 284 [] [.aptr [[.arr (dE [m])]] 0 0])],[(1,some ⟨31,1,[[.arr (dE [m])]]⟩),(2,some ⟨223,2,[bldC 2 3 (some (dec2 m))]⟩),(3,some ⟨5,1,bE (dec2 m)⟩)],4,31⟩
def teS(m:Nat):Nat→AState
 |0=>te0 m ()
 |_+1=>te1 m ()
theorem r4_{m:Nat}(h0:m≠0)(h:m< 100):digs MB m=[m]:=by
 have hb:MB=1000000000:=rfl
 rw[cA_ (by decide) (by omega),Nat.mod_eq_of_lt (by omega),Nat.div_eq_of_lt (by omega),bo_]
theorem nA_(m:Nat):dec2 m≠[]:=by unfold dec2;split <;> simp
theorem fI_(m:Nat):(dec2 m).length≤2:=by unfold dec2;split <;> simp
theorem ov_(m:Nat)(h:m< 100):FSpec Tryz.prog 168 [.agg [mag m]] (tx (dec2 m)):=by
 have hz:=eI_ m
 refine f_n Tryz.func168 ?_ ?_
 exact aa_ (aq_ (aa_ (aQ_ m) ab_)) ab_
 refine r_z 2 ?_
 refine ac_ (r_c 2 (hz) ?_)
 refine an_ ?_
 refine am_ rfl (fun h1=>?_) (fun h1=>?_)
 have h2:m=0:=by simpa using h1
 subst h2
 refine r_z 1 ?_
 exact aj_ (t_e (ad_ _))
 have h2:m≠0:=by simpa using h1
 have hm:mag m= .arr (dE [m]):=by unfold mag;rw[r4_ h2 h]
 rw[hm]
 refine ah_ ?_
 have hln:([m]:List Nat).length=1:=rfl
 have hcl:Closed (.aptr [[.arr (dE [m])]] 0 0):=cJ_ (fun e he c hc=>by simp at he;subst he;simp at hc;subst hc;exact by_ _)
 have hcl2:Closed (.clos 284 [] [.aptr [[.arr (dE [m])]] 0 0]):=aT_ ab_ (aa_ hcl ab_)
 refine r_z 1 ?_
 refine ac_ (r_c 3 (eJ_ [m]) ?_)
 refine an_ ?_
 refine aB_ (fun _:Unit=>te1 m ()) (fun _=>True) ?_ ?_
 refine ag_ (AWp.rangeFunc (α:=Nat) (γ:=Empty) 1 (teS m) (fun k=>k) (fun k=>k≤1) (fun e=>nomatch e) (fun _ e=>nomatch e) 0 rfl (eG_ [m] (by simp)) rfl rfl ?_ (fun k=>by cases k <;> exact⟨rfl,rfl⟩) (fun e=>nomatch e) (Nat.zero_le _) rfl (fun _ h=>h) ?_ ?_ ?_ ?_ (fun _ e=>nomatch e))
 intro k xs hT
 unfold backT at hT
 split at hT
 cases hT;rfl
 cases hT
 show SEntT _ (te0 m ())
 rw[te0.eq_1]
 exact s_t [(1,1),(2,3)]
 exact aa_ hcl ab_
 ·intro l k xs hk hT
  unfold backT at hT
  split at hT
  rotate_left
  cases hT
  rename_i hlt
  have hk0:k=0:=by simpa using hlt
  subst hk0
  cases hT
  show AWp _ _ _ _ ⟨setPs (te0 m ()).fr _ _++cf_ (te0 m ()).fr,_,_,_⟩
  show AWp _ _ _ _ ⟨[(13,u32 m),(12,i64 0),(1,.lptr 1 0 0),(3,.lptr 2 0 0),(11,.clos 284 [] [.aptr [[.arr (dE [m])]] 0 0]),(1001,.lptr 1 0 0),(1003,.lptr 2 0 0),(1011,.clos 284 [] [.aptr [[.arr (dE [m])]] 0 0])],[(1,some ⟨31,1,[[.arr (dE [m])]]⟩),(2,some ⟨223,2,[bldC 2 0 none]⟩)],4,31⟩
  refine r_z 1 ?_
  refine r_m 1 ?_
  refine a_z ?_
  refine ag_ (r_c 4 (nj_ m h) ?_)
  refine a_z ?_
  refine ac_ (r_z 6 ?_)
  refine am_ rfl (fun h3=>?_) (fun h3=>?_)
  exact absurd h3 (by simp)
  refine ah_ (r_m 2 ?_)
  refine a_1 ?_
  refine o_2 (.callB (s:=none) (j:=0) rfl rfl rfl rfl rfl rfl (fun _ h=>by cases h) (et_ (dec2 m) (nA_ m) (by have:=fI_ m;omega))) ?_
  refine an_ ?_
  refine⟨0+1,⟨by omega,rfl⟩,?_⟩
  show SEntT _ ⟨[(1001,.lptr 1 0 0),(1003,.lptr 2 0 0),(1011,.clos 284 [] [.aptr [[.arr (dE [m])]] 0 0])],[(1,some ⟨31,1,[[.arr (dE [m])]]⟩),(2,some ⟨223,2,[bldC 2 3 (some (dec2 m))]⟩),(3,some ⟨5,1,bE (dec2 m)⟩)],4,31⟩
  refine SEntT.to2 [(3,100017)] rfl rfl rfl au_r (fun hs=>?_) (fun hs=>?_)
  ·repeat' (first|exact aA_|refine au_ rfl ?_ ?_)
   all_goals (first|(exact ak_ hs hcl2)|exact au_c)
  ·repeat' (first|exact ap_|refine al_ rfl rfl rfl rfl ?_ ?_)
   all_goals (first|exact au_e|(refine ae_ ?_;repeat' (first|exact ao_|refine af_ ?_ ?_)))
   all_goals (first|(exact ak_ hs hcl2)|exact au_c)
 ·intro k hk hT
  unfold backT at hT
  split at hT
  cases hT
  have hk1:k=1:=by
   rename_i hn;simp at hn;omega
  subst hk1
  exact⟨(),trivial,SEnt.refl _⟩
 rintro _ _
 rw[te1.eq_1]
 have hne:=nA_ m
 refine s_r 2 ?_
 refine o_2 (.callD rfl rfl rfl rfl rfl rfl (by decide) (by first|assumption|simp) (i5_)) ?_
 refine a_z ?_
 exact aj_ (t_e (ad_ _))
section
variable {P:Go.Program}{T:Nat}{x y:Operand}
theorem cM_{l m:List UInt8}(h:l.length+m.length≤9223372036854775807):∀w,(do eqGuard .add T x y (.string ⟨l.toArray⟩) (.string ⟨m.toArray⟩);binOp .add T (.string ⟨l.toArray⟩) (.string ⟨m.toArray⟩):Sem Value).run P w= .ok (.string ⟨(l++m).toArray⟩) w:=fun w=>by
 have hm:IntKind.i64.max=9223372036854775807:=by decide
 have e:(⟨l.toArray⟩:ByteArray)++⟨m.toArray⟩=⟨(l++m).toArray⟩:=by
  apply ByteArray.ext;simp
 have hn:¬((((⟨l.toArray⟩:ByteArray).size+(⟨m.toArray⟩:ByteArray).size:Nat):Int)> IntKind.i64.max):=by
  rw[gY_,gY_,hm];omega
 simp only[eqGuard,binOp,Op.stringOp,hn,if_false,e,Sem.run_bind,Sem.run_pure,Result.andThen_ok]
 rfl
theorem dF_{l m:List UInt8}:∀w,(do eqGuard .eql T x y (.string ⟨l.toArray⟩) (.string ⟨m.toArray⟩);binOp .eql T (.string ⟨l.toArray⟩) (.string ⟨m.toArray⟩):Sem Value).run P w= .ok (.bool (decide (l=m))) w:=fun w=>by
 rw[o3_]
 congr 2
 have e:∀l:List UInt8,(⟨l.toArray⟩:ByteArray).toList=l:=by
  intro l
  have:=ByteArray.toList_eq (bs:=⟨l.toArray⟩)
  simpa using this
 rw[e,e]
 rw[Bool.eq_iff_iff];simp
end
def textQ(q:Rat):List UInt8:=((if q.num< 0 then [45] else [])++dec2 q.num.natAbs)++(if q.den=1 then [] else 47::dec2 q.den)
def okT(q:Rat):Prop:=q.num.natAbs< 100∧q.den< 100
instance (q:Rat):Decidable (okT q):=inferInstanceAs (Decidable (_∧_))
theorem okT_qs{q:Rat}(h:okT q):qs q≤1099511627776:=by
 obtain⟨h1,h2⟩:=h
 have e1:=bl_le (n:=q.num.natAbs) (k:=7) (by omega)
 have e2:=bl_le (n:=q.den) (k:=7) (by omega)
 unfold qs;omega
theorem textQ_len{q:Rat}:(textQ q).length≤6∧1≤(textQ q).length:=by
 have h1:=fI_ q.num.natAbs
 have h2:=fI_ q.den
 have h3:=List.length_pos_iff.2 (nA_ q.num.natAbs)
 unfold textQ
 split <;> split <;> simp <;> omega
def qtS(q:Rat):List UInt8→AState
 |l=>⟨[(1,.aptr [qC q] 0 0),(3,tx l)],[],2,24⟩
theorem oB_(q:Rat)(h:okT q):FSpec Tryz.prog 74 [.agg (qC q)] (tx (textQ q)):=by
 have hd1:=fI_ q.num.natAbs
 have hd2:=fI_ q.den
 have hden:1≤q.den:=q.den_pos
 refine f_n Tryz.func74 ?_ ?_
 exact aa_ (az_ q) ab_
 refine r_z 2 ?_
 refine AWp.ent (st':=⟨[(1,.aptr [qC q] 0 0)],[],2,24⟩) ?_ ?_
 exact s_e []
 refine r_c 5 (ov_ q.num.natAbs h.1) ?_
 refine a_z ?_
 refine aU_ (qtS q) (fun l=>l=(if q.num< 0 then [45] else [])++dec2 q.num.natAbs) ?_ ?_
 refine r_z 3 ?_
 refine am_ rfl (fun h1=>?_) (fun h1=>?_)
 have h2:q.num< 0:=by simpa using h1
 refine r_m 3 ?_
 refine a_1 ?_
 refine o_0 (.bin rfl rfl (cM_ (l:=[45]) (by simp;omega))) ?_
 refine a_z ?_
 refine⟨_,by rw[if_pos h2],?_⟩
 rw[qtS.eq_1]
 refine ar_ [] rfl rfl rfl au_r (fun hs=>?_) (fun hs=>?_)
 ·repeat' (first|exact aA_|refine au_ rfl ?_ ?_)
  all_goals (first|(exact ak_ hs (ai_ (aO_ q)))|exact au_c)
 ·repeat' (first|exact ap_|refine al_ rfl rfl rfl rfl ?_ ?_)
  all_goals (first|exact au_e|(refine ae_ ?_;repeat' (first|exact ao_|refine af_ ?_ ?_)))
  all_goals (first|(exact ak_ hs (ai_ (aO_ q)))|exact au_c)
 have h2:¬q.num< 0:=by simpa using h1
 refine ah_ ⟨dec2 q.num.natAbs,by rw[if_neg h2];rfl,?_⟩
 rw[qtS.eq_1]
 refine ar_ [] rfl rfl rfl au_r (fun hs=>?_) (fun hs=>?_)
 ·repeat' (first|exact aA_|refine au_ rfl ?_ ?_)
  all_goals (first|(exact ak_ hs (ai_ (aO_ q)))|exact au_c)
 ·repeat' (first|exact ap_|refine al_ rfl rfl rfl rfl ?_ ?_)
  all_goals (first|exact au_e|(refine ae_ ?_;repeat' (first|exact ao_|refine af_ ?_ ?_)))
  all_goals (first|(exact ak_ hs (ai_ (aO_ q)))|exact au_c)
 rintro l hl
 have hll:l.length≤3:=by rw[hl];split <;> simp <;> omega
 rw[qtS.eq_1]
 refine aU_ (qtS q) (fun l=>l=textQ q) ?_ ?_
 refine r_c 4 (eI_ (q.den- 1)) ?_
 refine a_z ?_
 refine am_ rfl (fun h1=>?_) (fun h1=>?_)
 have h2:¬q.den=1:=by
  intro e;rw[e] at h1;simp at h1
 refine r_m 7 ?_
 refine c_s (cr_ q (okT_qs h)) ?_
 refine c_s (ov_ q.den h.2) ?_
 refine o_0 (.bin rfl rfl (cM_ (l:=[47]) (by simp;omega))) ?_
 refine o_0 (.bin rfl rfl (cM_ (by simp;omega))) ?_
 refine a_z ?_
 refine⟨_,by unfold textQ;rw[if_neg h2,←hl],?_⟩
 rw[qtS.eq_1]
 refine ar_ [] rfl rfl rfl au_r (fun hs=>?_) (fun hs=>?_)
 ·repeat' (first|exact aA_|refine au_ rfl ?_ ?_)
  all_goals (first|(exact ak_ hs (ai_ (aO_ q)))|exact au_c)
 ·repeat' (first|exact ap_|refine al_ rfl rfl rfl rfl ?_ ?_)
  all_goals (first|exact au_e|(refine ae_ ?_;repeat' (first|exact ao_|refine af_ ?_ ?_)))
  all_goals (first|(exact ak_ hs (ai_ (aO_ q)))|exact au_c)
 have h2:q.den=1:=by
  have h3:q.den- 1=0:=by simpa using h1
  omega
 refine ah_ ⟨l,by unfold textQ;rw[if_pos h2,←hl,List.append_nil],?_⟩
 rw[qtS.eq_1]
 refine ar_ [] rfl rfl rfl au_r (fun hs=>?_) (fun hs=>?_)
 ·repeat' (first|exact aA_|refine au_ rfl ?_ ?_)
  all_goals (first|(exact ak_ hs (ai_ (aO_ q)))|exact au_c)
 ·repeat' (first|exact ap_|refine al_ rfl rfl rfl rfl ?_ ?_)
  all_goals (first|exact au_e|(refine ae_ ?_;repeat' (first|exact ao_|refine af_ ?_ ?_)))
  all_goals (first|(exact ak_ hs (ai_ (aO_ q)))|exact au_c)
 rintro l rfl
 rw[qtS.eq_1]
 refine r_z 2 ?_
 exact aj_ (t_e (ad_ _))
end Go.Proofs.YtdjfjpeoddmamaaGreatDoor
