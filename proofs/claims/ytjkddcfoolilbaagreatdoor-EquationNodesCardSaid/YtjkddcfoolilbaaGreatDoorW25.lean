/- Part W25 of the proof. -/
import Derived.Test.YtjkddcfoolilbaaGreatDoorW24
set_option linter.all false
namespace Go.Proofs.YtjkddcfoolilbaaGreatDoor
open Go.Abs
set_option maxRecDepth 100000
set_option maxHeartbeats 2000000
theorem sf_{b:Nat}(hb:1< b):∀(j n:Nat),(digs b n)[j]?.getD 0=n/ b^ j % b:=by
 intro j
 induction j with
 |zero=>
  intro n;rcases Nat.eq_zero_or_pos n with rfl|hn
  rw[be_];simp;rw[cv_ hb hn];simp
 |succ j ih=>
  intro n;rcases Nat.eq_zero_or_pos n with rfl|hn
  rw[be_];simp;rw[cv_ hb hn,List.getElem?_cons_succ,ih,Nat.div_div_eq_div_mul,Nat.pow_succ,Nat.mul_comm b]
def r0_(n:Nat)(long:Nat)(k:Nat):Nat→AState
 |i=>⟨[(0,.arr (iE (zd n))),(1,i64 long),(2,i64 k),(7,i64 (n/ UB^ (long- i):Nat)),(8,i64 i)],[],1,24⟩
theorem h3_(n long k:Nat)(hk:k≤4)(hkl:k≤long)(hn:n< UB^ long)(hl:(zd n).length≤281474976710656)(hlo:long≤281474976710656):FS 245 [.arr (iE (zd n)),i64 long,i64 k] (i64 (n/ UB^ (long- k):Nat)):=by
 have bound:∀i,i≤k→n/ UB^ (long- i)< 1152921504606846976:=by
  intro i hi
  have h1:n/ UB^ (long- i)< UB^ i:=by
   rw[Nat.div_lt_iff_lt_mul (Nat.pow_pos (by decide)),←Nat.pow_add,show i+(long- i)=long by omega];exact hn
  exact Nat.lt_of_lt_of_le h1 (Nat.pow_le_pow_right (n:=32768) (j:=4) (by decide) (by omega))
 refine f_c Tryz.func245 ?_;refine r_z 1 ?_;refine r_z 1 ?_;refine ab_ (r_z 1 ?_);refine av_ (r0_ n long k) (fun i=>i=k) ?_ ?_;refine af_ (aq_ (r0_ n long k) (fun i=>k- i) (fun i=>i≤k) 0 (Nat.zero_le _) ?_ ?_);simp only[r0_.eq_1];have e:AV.v (.int .i64 0)=i64 (n/ UB^ (long- 0):Nat):=by rw[Nat.sub_zero,Nat.div_eq_of_lt hn];rfl
 exact s_f [];intro i hi;rw[r0_.eq_1];refine ab_ (r_z 3 ?_);refine aj_ rfl (fun h=>?_) (fun h=>?_);have hlt:i< k:=by simpa using h
 have hd:=kK_ (zd n) (long- 1- i) hl;unfold zd at hd;rw[List.reverse_reverse,sf_ (by decide),show((long- 1- i:Nat):Int)=(long:Int)- 1- i by omega] at hd;have e1:=Nat.div_add_mod (n/ UB^ (long- 1- i)) UB;rw[Nat.div_div_eq_div_mul,←Nat.pow_succ,show(long- 1- i).succ=long- i by omega] at e1;have hb:=bound (i+1) hlt;rw[show long- (i+1)=long- 1- i by omega] at hb;have hlt2:n/ UB^ (long- 1- i) % UB< 32768:=Nat.mod_lt _ (by decide);obtain⟨V,hV⟩:∃V,V=n/ UB^ (long- i):=⟨_,rfl⟩;obtain⟨D,hD⟩:∃D,D=n/ UB^ (long- 1- i) % UB:=⟨_,rfl⟩;have hVb:V< 1152921504606846976:=by rw[hV];exact bound i hi
 rw[←hV,←hD] at e1;rw[←hD] at hd hlt2;rw[←hV];have e3:32768* V+D=n/ UB^ (long- 1- i):=e1
 have e2:(V:Int) * 32768+D=((n/ UB^ (long- (i+1)):Nat):Int):=by
  rw[show long- (i+1)=long- 1- i by omega,←e3];omega
 have hbb:V* 32768+D< 1152921504606846976:=by omega
 refine ah_ (ab_ (af_ (r_m 10 ?_)));refine c_s (hd) ?_;refine a_z ?_;refine r_m 3 ?_;refine a_z ?_;refine⟨i+1,by omega,hlt,?_⟩;simp only[r0_.eq_1];have:=(congrArg (fun z=>AV.v (.int .i64 z)) e2);exact s_f [];have hge:i=k:=by simp at h;omega
 refine ao_ ⟨i,hge,?_⟩;simp only[r0_.eq_1];exact s_e [];rintro i rfl;rw[r0_.eq_1];refine r_z 2 ?_;refine ag_ (aH_ rfl rfl (ad_ _))
def lA_(D:Nat):Nat×Nat→AState
 |(R,k)=>⟨[(0,.arr (iE (zd R))),(1,.arr (iE (zd D))),(6,i64 k)],[],1,57⟩
theorem est_le{R D e:Nat}(he:0< e):R/ e/ (D/ e+1) * D≤R:=by
 have h1:R/ e/ (D/ e+1) * (D/ e+1)≤R/ e:=Nat.div_mul_le_self _ _;have h2:R/ e* e≤R:=Nat.div_mul_le_self _ _
 have h3:D< (D/ e+1) * e:=by
  have:=Nat.lt_mul_div_succ D he;rw[Nat.mul_comm];exact this
 have h4:R/ e/ (D/ e+1) * D≤R/ e/ (D/ e+1) * ((D/ e+1) * e):=Nat.mul_le_mul_left _ (Nat.le_of_lt h3)
 have h5:R/ e/ (D/ e+1) * ((D/ e+1) * e)≤R/ e* e:=by
  rw[←Nat.mul_assoc];exact Nat.mul_le_mul_right _ h1
 omega
theorem zZ_pos{D:Nat}(h:0< D):zZ (D:Int)=[i64 1,.arr (iE (zd D))]:=by
 unfold zZ sgZ;rw[if_neg (by omega),if_neg (by omega),Int.natAbs_natCast]
theorem fs_share(R D:Nat)(hD:0< D)(hR:R< UB* D)(hb:bl D≤4398046511104):FS 204 [.arr (iE (zd R)),.arr (iE (zd D))] (.tup [i64 (R/ D:Nat),.arr (iE (zd (R % D)))]):=by
 have hzR:=bm_ R;have hzD:=bm_ D;have hlD:=aW_ (b:=UB) (by decide) D;have hlR:=aW_ (b:=UB) (by decide) R
 have hbR:bl R≤bl D+16:=by
  have h1:=b4_ (Nat.le_of_lt hR);have h2:=es_ UB D;have h3:bl UB=16:=by decide
  omega
 obtain⟨n,hn⟩:∃n,n=(zd D).length:=⟨_,rfl⟩
 have hn1:1≤n:=by
  have:zd D≠[]:=fun h=>by have:=zd_eq_nil.1 h;omega
  have:=List.length_pos_iff.2 this;omega
 have hDn:D< UB^ n:=by
  have:=hv_lt (zd_lt D);rwa[hv_zd,←hn] at this
 have hRn:R< UB^ (n+1):=by
  rw[Nat.pow_succ,Nat.mul_comm];exact Nat.lt_of_lt_of_le hR (Nat.mul_le_mul_left _ (Nat.le_of_lt hDn))
 have hRk:∀k,k* D≤R→k< UB:=by
  intro k hk;refine Nat.lt_of_not_le fun h=>?_;have:=Nat.mul_le_mul_right D h;omega
 refine f_c Tryz.func204 ?_;refine r_z 2 ?_;refine r_z 1 ?_;refine r_z 3 ?_;refine aQ_ (fun k:Nat=>lA_ D (R,k)) (fun k=>k* D≤R) ?_ ?_;refine r_z 4 ?_;refine aj_ rfl (fun h=>?_) (fun h=>?_);have hge:(zd D).length≤(zd R).length:=by simpa using h
 refine r_z 2 ?_;refine aj_ rfl (fun h1=>?_) (fun h1=>?_);have h3:n≤3:=by rw[hn];have:=of_decide_eq_true h1;omega
 have f1:=h3_ R (n+1) (n+1) (by omega) (Nat.le_refl _) hRn (by omega) (by omega);have f2:=h3_ D n n (by omega) (Nat.le_refl _) hDn (by omega) (by omega);rw[Nat.sub_self,Nat.pow_zero,Nat.div_one] at f1 f2;rw[hn] at f1 f2;have hq:(R:Int) / D=(R/ D:Nat):=(Int.natCast_ediv _ _).symm;have hR60:R< 1152921504606846976:=Nat.lt_of_lt_of_le hRn (Nat.pow_le_pow_right (n:=32768) (j:=4) (by decide) (by omega));refine r_m 12 ?_;refine c_s (f1) ?_;refine c_s (f2) ?_;refine a_z ?_;refine⟨R/ D,Nat.div_mul_le_self _ _,?_⟩;simp only[lA_.eq_1];have:=(congrArg (fun z=>AV.v (.int .i64 z)) hq);exact s_f [];have h3:3< n:=by rw[hn];have:=of_decide_eq_false h1;omega
 have f1:=h3_ R (n+1) 4 (by omega) (by omega) hRn (by omega) (by omega);have f2:=h3_ D n 3 (by omega) (by omega) hDn (by omega) (by omega);rw[show n+1- 4=n- 3 by omega] at f1;obtain⟨e,he⟩:∃e,e=UB^ (n- 3):=⟨_,rfl⟩;have hep:0< e:=by rw[he];exact Nat.pow_pos (by decide)
 rw[←he] at f1 f2
 have hR4:R/ e< 1152921504606846976:=by
  rw[Nat.div_lt_iff_lt_mul hep,he];have h4:UB^ 4=1152921504606846976:=by decide
  have:UB^ (n+1)=1152921504606846976* UB^ (n- 3):=by
   rw[show n+1=4+(n- 3) by omega,Nat.pow_add,h4]
  omega
 have hD3:D/ e< 35184372088832:=by
  rw[Nat.div_lt_iff_lt_mul hep,he];have h4:UB^ 3=35184372088832:=by decide
  have:UB^ n=35184372088832* UB^ (n- 3):=by
   rw[←h4,←Nat.pow_add];congr 1;omega
  omega
 rw[hn] at f1 f2
 have hq:((R/ e:Nat):Int) / (((D/ e:Nat):Int)+1)=(R/ e/ (D/ e+1):Nat):=by
  rw[show(((D/ e:Nat):Int)+1)=((D/ e+1:Nat):Int) by omega];exact(Int.natCast_ediv _ _).symm
 have hle:=est_le (R:=R) (D:=D) hep;obtain⟨A,hA⟩:∃A,A=R/ e:=⟨_,rfl⟩;obtain⟨B,hB⟩:∃B,B=D/ e:=⟨_,rfl⟩;rw[←hA] at f1 hR4 hq hle;rw[←hB] at f2 hD3 hq hle;refine r_m 10 ?_;refine c_s (f1) ?_;refine c_s (f2) ?_;refine a_z ?_;refine⟨A/ (B+1),hle,?_⟩;simp only[lA_.eq_1];have:=(congrArg (fun z=>AV.v (.int .i64 z)) hq);exact s_f [];refine ah_ ⟨0,by simp,?_⟩;simp only[lA_.eq_1];exact s_e [];rintro k hk;have hkU:=hRk k hk;have hkU':k< 32768:=hkU;rw[lA_.eq_1];refine aQ_ (fun _:Unit=>lA_ D (R- k* D,k)) (fun _=>True) ?_ ?_;refine r_z 2 ?_;refine aj_ rfl (fun h1=>?_) (fun h1=>?_)
 have hzk:zl (k:Int):=by
  unfold zl;rw[Int.natAbs_natCast];have:=bl_le (n:=k) (k:=15) (by omega);omega
 have hzD:zl (D:Int):=by unfold zl;rw[Int.natAbs_natCast];omega
 have hm:=e2_ (k:Int) (D:Int) hzk hzD;rw[zZ_pos hD] at hm;have hkD:((k:Int) * (D:Int)).natAbs=k* D:=by rw[←Int.natCast_mul,Int.natAbs_natCast]
 have hbk:bl (k* D)≤bl D+16:=by
  have:=b4_ hk;omega
 have hlk:=aW_ (b:=UB) (by decide) (k* D);have hbo:=iW_ R (k* D) (-1) (R- k* D) (.inr rfl) (by omega) (by omega) (by rw[bm_];omega);rw[←hkD] at hbo;rw[hkD] at hbo;refine r_m 9 ?_;refine c_s (fZ_ k (by omega)) ?_;refine c_s (hm) ?_;refine az_ (.field1 rfl TF.h TA.h rfl) rfl rfl ?_;refine o_0 (.call rfl rfl rfl ((by rw[hkD];exact hbo))) ?_;refine o_0 (.assign rfl) ?_;refine ak_ ?_;refine⟨(),trivial,?_⟩;simp only[lA_.eq_1];exact s_e [];have hk0:k=0:=by simp at h1;omega
 subst hk0;refine ah_ ⟨(),trivial,?_⟩;simp only[lA_.eq_1,Nat.zero_mul,Nat.sub_zero];exact s_e [];rintro _ _;rw[lA_.eq_1];refine aQ_ (lA_ D) (fun v=>v.1=R % D∧v.2=R/ D) ?_ ?_;refine af_ (aq_ (lA_ D) (fun v=>v.1) (fun v=>v.1+v.2* D=R∧v.1≤R) (R- k* D,k) ⟨by simp only;omega,by simp only;omega⟩ ?_ ?_);simp only[lA_.eq_1];exact s_e [];rintro⟨R',k'⟩ ⟨hv,hle⟩;simp only at hv hle;have hbR':bl R'≤bl D+16:=by have:=b4_ hle;omega
 have hlR':=aW_ (b:=UB) (by decide) R';have hzR':=bm_ R';have hk':=hRk k' (by omega);have hk'':k'< 32768:=hk';rw[lA_.eq_1];refine ab_ (r_c 4 (or_ R' D (by omega) (by omega)) ?_);refine a_z ?_;refine aj_ rfl (fun h=>?_) (fun h=>?_)
 have hge:D≤R':=by
  have:=of_decide_eq_true h;unfold cmpZ at this;split at this <;> omega
 refine ah_ (af_ (r_c 4 (iW_ R' D (-1) (R'- D) (.inr rfl) (by omega) (by omega) (by omega)) ?_));refine a_z ?_;refine r_m 3 ?_;refine a_z ?_;refine⟨(R'- D,k'+1),by simp only;omega,⟨by simp only;rw[Nat.add_mul];omega,by simp only;omega⟩,?_⟩;simp only[lA_.eq_1];exact s_e []
 have hlt:R'< D:=by
  have:=of_decide_eq_false h;unfold cmpZ at this;split at this;omega;split at this <;> omega
 refine ao_ ⟨(R',k'),⟨?_,?_⟩,?_⟩;simp only;rw[←hv,Nat.add_mul_mod_self_right,Nat.mod_eq_of_lt hlt];simp only;rw[←hv,Nat.add_mul_div_right _ _ hD,Nat.div_eq_of_lt hlt,Nat.zero_add];simp only[lA_.eq_1];exact s_e [];rintro⟨R',k'⟩ ⟨h1,h2⟩;simp only at h1 h2;subst h1 h2;rw[lA_.eq_1];refine r_z 4 ?_;refine ag_ (Fin.many ⟨_,_,rfl,rfl,⟨_,_,rfl,rfl,rfl⟩⟩ (nle rfl) ?_);exact ae_ (ai_ as_ (ad_ _)) (ae_ (ai_ as_ (cE_ _)) am_)
def rovS(A D:Nat):List Nat→Nat→Nat→AState
 |[],R,i=>⟨[(0,.arr (iE (zd A))),(1,.arr (iE (zd D))),(6,.emp),(7,.arr (iE (zd R))),(8,i64 i)],[],1,54⟩
 |q::Q,R,i=>⟨[(0,.arr (iE (zd A))),(1,.arr (iE (zd D))),(6,.lsl 1 0 (Q.length+1) none 1),(7,.arr (iE (zd R))),(8,i64 i)],[(1,some ⟨3,1,iE (q::Q)⟩)],2,54⟩
theorem d2_(A D R i:Nat):rovS A D [] R i=⟨[(0,.arr (iE (zd A))),(1,.arr (iE (zd D))),(6,.emp),(7,.arr (iE (zd R))),(8,i64 i)],[],1,54⟩:=rfl
theorem cZ_(A D:Nat)(q:Nat)(Q:List Nat)(R i:Nat):rovS A D (q::Q) R i=⟨[(0,.arr (iE (zd A))),(1,.arr (iE (zd D))),(6,.lsl 1 0 (Q.length+1) none 1),(7,.arr (iE (zd R))),(8,i64 i)],[(1,some ⟨3,1,iE (q::Q)⟩)],2,54⟩:=rfl
theorem rov_step{P D R a:Nat}(hD:0< D)(hR:R=P % D)(ha:a< UB):R* UB+a< UB* D∧(P* UB+a) / D=P/ D* UB+(R* UB+a) / D∧(P* UB+a) % D=(R* UB+a) % D∧(R* UB+a) / D< UB:=by
 have h1:=Nat.div_add_mod P D;have h2:=Nat.mod_lt P hD;rw[←hR] at h1 h2
 have h3:R* UB+a< UB* D:=by
  have:(R+1) * UB≤D* UB:=Nat.mul_le_mul_right _ h2;rw[Nat.add_mul,Nat.one_mul,Nat.mul_comm D] at this;omega
 have h4:P* UB+a=D* (P/ D* UB)+(R* UB+a):=by
  conv=>lhs;rw[←h1]
  rw[Nat.add_mul,Nat.mul_assoc,Nat.add_assoc]
 refine⟨h3,?_,?_,?_⟩;rw[h4,Nat.mul_add_div hD];rw[h4,Nat.mul_add_mod];rw[Nat.div_lt_iff_lt_mul hD];exact h3
theorem h0_(A D:Nat)(hD:0< D)(hA:bl A≤4398046511104)(hb:bl D≤4398046511104):FS 162 [.arr (iE (zd A)),.arr (iE (zd D))] (.tup [.arr (iE (zd (A/ D))),.arr (iE (zd (A % D)))]):=by
 have hzA:=bm_ A;have hzD:=bm_ D;have hlD:=aW_ (b:=UB) (by decide) D;have hlA:=aW_ (b:=UB) (by decide) A;obtain⟨n,hn⟩:∃n,n=(zd D).length:=⟨_,rfl⟩
 have hn1:1≤n:=by
  have:zd D≠[]:=fun h=>by have:=zd_eq_nil.1 h;omega
  have:=List.length_pos_iff.2 this;omega
 have hDn:UB^ (n- 1)≤D:=by
  rcases jb_ (b:=UB) (n:=D) (by decide) with h|h
  rwa[←hzD,←hn] at h;omega
 refine f_c Tryz.func162 ?_;refine r_z 2 ?_;refine ab_ (r_z 5 ?_);refine aj_ rfl (fun h=>?_) (fun h=>?_);have hlt:(zd A).length< (zd D).length:=by have:=of_decide_eq_true h;omega
 have hAD:A< D:=ej_ (b:=UB) (by decide) (by omega);refine r_z 3 ?_;refine ag_ (Fin.many ⟨_,_,rfl,rfl,⟨_,_,rfl,rfl,rfl⟩⟩ (nle rfl) ?_);rw[Nat.div_eq_of_lt hAD,Nat.mod_eq_of_lt hAD,gH_];exact ae_ (Cv.emp _) (ae_ (ai_ as_ (cE_ _)) am_);have hge:n≤(zd A).length:=by have:=of_decide_eq_false h;omega
 refine ah_ (r_z 1 ?_);obtain⟨P0,hP0⟩:∃P0,P0=hv ((zd A).take (n- 1)):=⟨_,rfl⟩
 have hP0D:P0< D:=by
  have h1:=hv_lt (l:=(zd A).take (n- 1)) fun d hd=>zd_lt A d (List.mem_of_mem_take hd);rw[←hP0] at h1;have h2:UB^ ((zd A).take (n- 1)).length≤UB^ (n- 1):=Nat.pow_le_pow_right (by decide) (by simp;omega);omega
 have hst:=d6_ ((zd A).take (n- 1)) (by simp;omega);rw[cX_ (fun d hd=>zd_lt A d (List.mem_of_mem_take hd)),←hP0] at hst;refine aQ_ (fun _:Unit=>⟨[(0,.arr (iE (zd A))),(1,.arr (iE (zd D))),(6,.emp),(7,.arr (iE (zd P0)))],[],1,54⟩) (fun _=>True) ?_ ?_;by_cases hn2:n=1;rw[hn2] at hst;refine r_m 8 ?_;refine a_4 ?_;refine o_0 (.sa_h rfl rfl (h:=0) (by omega) (by simp) te_47.h (fW_ _)) ?_;refine o_0 (.append0 rfl rfl rfl te_47.h rfl rfl rfl (.arr (es:=[]) (by simp))) ?_;refine c_s (hst) ?_;refine a_z ?_;refine⟨(),trivial,?_⟩;exact s_e []
 ·have hne:(iE (zd A)).take (n- 1)≠[]:=fun h=>by
   have:=congrArg List.length h;rw[List.length_take,iK_,List.length_nil] at this;omega
  have hfull:List.take ((iE (zd A)).take (n- 1)).length (List.drop 0 ((iE (zd A)).take (n- 1)))=iE ((zd A).take (n- 1)):=by rw[List.drop_zero,List.take_length,iE_take]
  refine r_m 8 ?_;refine a_4 ?_;refine o_0 (.sa_h rfl rfl (h:=n- 1) (by omega) (by simp;omega) te_47.h (fW_ _)) ?_;refine o_1 (.append_e rfl rfl rfl te_47.h rfl rfl rfl (.arr (fun e he=>fW_ _ e (List.mem_of_mem_take he))) (by first|assumption|(simp;done)) TZ.h rfl TB.h d_o (by first|(simp[maxLen];done)|(simp[maxLen];omega))) ?_;refine o_1 (.callS1 rfl rfl rfl (.shut rfl d_n (.nil)) rfl ((by rw[hfull];exact hst))) ?_;refine a_z ?_;refine⟨(),trivial,?_⟩;exact s_e []
 rintro _ _;refine ab_ (r_z 4 ?_);refine av_ (fun x:List Nat×Nat=>rovS A D x.1 x.2 (zd A).length) (fun x=>(∀d∈x.1,d< UB)∧hv x.1=A/ D∧x.2=A % D∧x.1.length≤(zd A).length) ?_ ?_;refine af_ (aq_ (fun x:List Nat×Nat×Nat=>rovS A D x.1 x.2.1 x.2.2) (fun x=>(zd A).length- x.2.2) (fun x=>x.2.2≤(zd A).length∧(∀d∈x.1,d< UB)∧hv x.1=hv ((zd A).take x.2.2) / D∧x.2.1=hv ((zd A).take x.2.2) % D∧x.1.length≤x.2.2) ([],P0,n- 1) ⟨by simp only;omega,by simp,by simp only;rw[←hP0,Nat.div_eq_of_lt hP0D];rfl,by simp only;rw[←hP0,Nat.mod_eq_of_lt hP0D],by simp⟩ ?_ ?_);simp only[d2_];exact s_e [];rintro⟨Q,R,i⟩ ⟨hi,hQd,hQ,hR,hQl⟩;simp only at hi hQd hQ hR hQl
 -- the head,whatever the quotient so far
 by_cases hlt:i< (zd A).length
 ·obtain⟨a,hai⟩:∃a,(zd A)[i]?=some a:=⟨_,List.getElem?_eq_getElem hlt⟩
  have ha:a< UB:=zd_lt A a (List.mem_of_getElem? hai);have hai':(iE (zd A))[((i:Nat):Int).toNat]?=some [i64 a]:=fG_ hai;have hPs:hv ((zd A).take (i+1))=hv ((zd A).take i) * UB+a:=by rw[br_ hai,iL_]
  obtain⟨P,hP⟩:∃P,P=hv ((zd A).take i):=⟨_,rfl⟩;rw[←hP] at hQ hR hPs;obtain⟨s1,s2,s3,s4⟩:=rov_step hD hR ha;have hRD:R< D:=by rw[hR];exact Nat.mod_lt _ hD
  have hlR:=aW_ (b:=UB) (by decide) R;have hbR:=b4_ (Nat.le_of_lt hRD);have hzR:=bm_ R;have hsh:=fs_share (R* UB+a) D hD s1 hb;cases Q with
  |nil=>
   simp only[d2_];refine ab_ (r_z 4 ?_);refine aj_ rfl (fun h=>?_) (fun h=>?_);rotate_left;exact absurd h (by simp;omega);refine ah_ (ab_ (af_ (aQ_ (fun _:Unit=>rovS A D [] (R* UB+a) i) (fun _=>True) ?_ ?_)));by_cases hR0:R=0;subst hR0;have hst1:=d6_ [a] (by simp);rw[cX_ (by simpa using ha),show hv [a]=0* UB+a by rw[iM_,lV_];simp] at hst1;rw[gH_];refine r_d hmix 10 ?_;refine a_1 ?_;refine o_0 (.append0 rfl rfl rfl te_47.h rfl rfl rfl (.arr (es:=[]) (by simp))) ?_;refine a_2 ?_;refine i_x hai' ?_;refine l_1 hai' ?_;refine a_2 ?_;refine o_1 (.callS1 rfl rfl rfl (.shut rfl d_n (.nil)) rfl ((FSpec.argE hst1 rfl))) ?_;refine a_1 ?_;refine ak_ (n_k ?_);refine⟨(),trivial,?_⟩;simp only[d2_];exact s_e []
   ·have hne:iE (zd R)≠[]:=fun h=>by
     have h1:=congrArg List.length h;rw[iK_,List.length_nil,List.length_eq_zero_iff] at h1;exact hR0 (zd_eq_nil.1 h1)
    have hd2:∀d∈zd R++[a],d< UB:=fun d hd=>by
     rcases List.mem_append.1 hd with hd|hd
     exact zd_lt R d hd;simp at hd;rw[hd];exact ha
    have hst1:=d6_ (zd R++[a]) (by simp;omega);rw[cX_ hd2,iL_,hv_zd] at hst1;refine r_d hmix 10 ?_;refine a_1 ?_;refine o_1 (.append_e rfl rfl rfl te_47.h rfl rfl rfl (.arr (fW_ _)) (by first|assumption|(simp;done)) TZ.h rfl TB.h d_o (by first|(simp[maxLen];done)|(simp[maxLen];omega))) ?_;refine a_2 ?_;refine i_x hai' ?_;refine l_1 hai' ?_;refine a_2 ?_;refine o_1 (.callS1 rfl rfl rfl (.shut rfl d_n (.nil)) rfl ((FSpec.argE hst1 (by rw[List.drop_zero,List.take_of_length_le (by simp)];simp[iE,i64])))) ?_;refine a_1 ?_;refine ak_ (n_k ?_);refine⟨(),trivial,?_⟩;simp only[d2_];exact s_e []
   rintro _ _;simp only[d2_];refine r_z 1 ?_;refine r_c 8 (hsh) ?_;refine a_z ?_;refine r_m 5 ?_;refine a_z ?_;refine r_m 3 ?_;refine a_z ?_;refine⟨([(R* UB+a) / D],(R* UB+a) % D,i+1),by simp only;omega,⟨by simp only;omega,by simpa using s4,?_,?_,by simp⟩,?_⟩;simp only;rw[hPs,s2,←hQ,iM_,lV_];simp;simp only;rw[hPs,s3];simp only[cZ_];exact s_e [(1,6)]
  |cons q Q=>
   simp only[cZ_];refine ab_ (r_z 4 ?_);refine aj_ rfl (fun h=>?_) (fun h=>?_);rotate_left;exact absurd h (by simp;omega);refine ah_ (ab_ (af_ (aQ_ (fun _:Unit=>rovS A D (q::Q) (R* UB+a) i) (fun _=>True) ?_ ?_)));by_cases hR0:R=0;subst hR0;have hst1:=d6_ [a] (by simp);rw[cX_ (by simpa using ha),show hv [a]=0* UB+a by rw[iM_,lV_];simp] at hst1;rw[gH_];refine r_d hmix 10 ?_;refine a_1 ?_;refine o_0 (.append0 rfl rfl rfl te_47.h rfl rfl rfl (.arr (es:=[]) (by simp))) ?_;refine a_2 ?_;refine i_x hai' ?_;refine l_1 hai' ?_;refine a_2 ?_;refine o_1 (.callS1 rfl rfl rfl (.shut rfl d_n (.nil)) rfl ((FSpec.argE hst1 rfl))) ?_;refine a_1 ?_;refine ak_ (n_k ?_);refine⟨(),trivial,?_⟩;simp only[cZ_];exact s_e []
   ·have hne:iE (zd R)≠[]:=fun h=>by
     have h1:=congrArg List.length h;rw[iK_,List.length_nil,List.length_eq_zero_iff] at h1;exact hR0 (zd_eq_nil.1 h1)
    have hd2:∀d∈zd R++[a],d< UB:=fun d hd=>by
     rcases List.mem_append.1 hd with hd|hd
     exact zd_lt R d hd;simp at hd;rw[hd];exact ha
    have hst1:=d6_ (zd R++[a]) (by simp;omega);rw[cX_ hd2,iL_,hv_zd] at hst1;refine r_d hmix 10 ?_;refine a_1 ?_;refine o_1 (.append_e rfl rfl rfl te_47.h rfl rfl rfl (.arr (fW_ _)) (by first|assumption|(simp;done)) TZ.h rfl TB.h d_o (by first|(simp[maxLen];done)|(simp[maxLen];omega))) ?_;refine a_2 ?_;refine i_x hai' ?_;refine l_1 hai' ?_;refine a_2 ?_;refine o_1 (.callS1 rfl rfl rfl (.shut rfl d_n (.nil)) rfl ((FSpec.argE hst1 (by rw[List.drop_zero,List.take_of_length_le (by simp)];simp[iE,i64])))) ?_;refine a_1 ?_;refine ak_ (n_k ?_);refine⟨(),trivial,?_⟩;simp only[cZ_];exact s_e []
   rintro _ _;simp only[cZ_];refine r_z 1 ?_;refine r_c 8 (hsh) ?_;refine a_z ?_;have hQl':Q.length+1≤i:=by simpa using hQl
   refine r_m 5 ?_;refine a_z ?_;refine r_m 3 ?_;refine a_z ?_;refine⟨(q::(Q++[(R* UB+a) / D]),(R* UB+a) % D,i+1),by simp only;omega,⟨by simp only;omega,?_,?_,?_,by simp at hQl⊢;omega⟩,?_⟩;intro d hd;rcases List.mem_append.1 (show d∈(q::Q)++[(R* UB+a) / D] from hd) with hd|hd
   exact hQd d hd;simp at hd;rw[hd];exact s4;simp only;rw[hPs,s2,←hQ,←iL_];rfl;simp only;rw[hPs,s3];simp only[cZ_];have e:iE (q::Q)++List.take 1 (List.drop 0 [[i64 ((R* UB+a) / D:Nat)]])=iE (q::(Q++[(R* UB+a) / D])):=by simp[iE]
   exact s_x [(1,6)] (fun hs=>au_f) (fun hs=>e_32) e_9
 have hge:i=(zd A).length:=by omega
 subst hge;rw[List.take_length,hv_zd] at hQ hR;cases Q with
 |nil=>
  simp only[d2_];refine ab_ (r_z 4 ?_);refine aj_ rfl (fun h=>?_) (fun h=>?_);exact absurd h (by simp);refine ao_ ⟨([],R),⟨hQd,hQ,hR,hQl⟩,?_⟩;simp only[d2_];exact s_e []
 |cons q Q=>
  simp only[cZ_];refine ab_ (r_z 4 ?_);refine aj_ rfl (fun h=>?_) (fun h=>?_);exact absurd h (by simp);refine ao_ ⟨(q::Q,R),⟨hQd,hQ,hR,hQl⟩,?_⟩;simp only[cZ_];exact s_e []
 rintro⟨Q,R⟩ ⟨hQd,hQ,hR,hQl⟩;simp only at hQd hQ hR hQl;have hsq:=d6_ Q (by omega);rw[cX_ hQd,hQ] at hsq;subst hR;cases Q with
 |nil=>
  simp only[d2_];refine r_c 5 (hsq) ?_;refine a_z ?_;refine ag_ (Fin.many ⟨_,_,rfl,rfl,⟨_,_,rfl,rfl,rfl⟩⟩ (nle rfl) ?_);exact ae_ (ai_ as_ (cE_ _)) (ae_ (ai_ as_ (cE_ _)) am_)
 |cons q Q=>
  simp only[cZ_];have hfull:List.take (Q.length+1) (List.drop 0 (iE (q::Q)))=iE (q::Q):=by rw[List.drop_zero,List.take_of_length_le (by simp)]
  refine s_r 5 ?_;refine a_1 ?_;refine o_1 (.callS1 rfl rfl rfl (.shut rfl d_n (.nil)) rfl ((by rw[hfull];exact hsq))) ?_;refine a_z ?_;refine ag_ (Fin.many ⟨_,_,rfl,rfl,⟨_,_,rfl,rfl,rfl⟩⟩ (nle rfl) ?_);exact ae_ (ai_ as_ (cE_ _)) (ae_ (ai_ as_ (cE_ _)) am_)
def zgS:Nat×Nat→AState
 |(p,q)=>⟨[(4,.lptr 1 0 0),(5,.arr (iE (zd p))),(6,.arr (iE (zd q)))],[(1,some ⟨49,2,[[i64 0,.emp]]⟩)],2,48⟩
theorem g8_(p:Nat)(q:Nat):zgS (p,q)=⟨[(4,.lptr 1 0 0),(5,.arr (iE (zd p))),(6,.arr (iE (zd q)))],[(1,some ⟨49,2,[[i64 0,.emp]]⟩)],2,48⟩:=rfl
def zgW:Nat×Nat→AState
 |(x,y)=>⟨[(4,.lptr 1 0 0),(7,i64 x),(8,i64 y)],[(1,some ⟨49,2,[[i64 0,.emp]]⟩)],2,48⟩
theorem li_(x:Nat)(y:Nat):zgW (x,y)=⟨[(4,.lptr 1 0 0),(7,i64 x),(8,i64 y)],[(1,some ⟨49,2,[[i64 0,.emp]]⟩)],2,48⟩:=rfl
theorem lh_(p q:Nat):Nat.gcd q (p % q)=Nat.gcd p q:=by
 rw[Nat.gcd_comm p q,Nat.gcd_rec q p,Nat.gcd_comm]
theorem le_{n:Nat}(h:(zd n).length≤4):n< 1152921504606846976:=by
 have h1:=hv_lt (zd_lt n);rw[hv_zd] at h1;exact Nat.lt_of_lt_of_le h1 (Nat.pow_le_pow_right (n:=32768) (j:=4) (by decide) h)
theorem fs_ZGcd(x y:Int)(hx:bl x.natAbs≤4398046511104)(hy:bl y.natAbs≤4398046511104):FS 161 [.agg (zZ x),.agg (zZ y)] (.agg (zZ (Nat.gcd x.natAbs y.natAbs:Nat))):=by
 refine f_c Tryz.func161 ?_;refine r_z 3 ?_;refine ab_ (r_d hmix 6 ?_);refine a_6 ?_;refine ak_ (n_k ?_);refine aQ_ (fun p:Nat=>zgS (p,0)) (fun p=>p=Nat.gcd x.natAbs y.natAbs) ?_ ?_;refine af_ (aq_ zgS (fun v=>v.2) (fun v=>Nat.gcd v.1 v.2=Nat.gcd x.natAbs y.natAbs∧bl v.1≤4398046511104∧bl v.2≤4398046511104) (x.natAbs,y.natAbs) ⟨rfl,hx,hy⟩ ?_ ?_);simp only[g8_];exact s_e [(1,4)];rintro⟨p,q⟩ ⟨hg,hp,hq⟩;simp only at hg hp hq;have hzp:=bm_ p;have hzq:=bm_ q;have hlp:=aW_ (b:=UB) (by decide) p;have hlq:=aW_ (b:=UB) (by decide) q;rw[g8_];refine ab_ (r_z 3 ?_);refine aj_ rfl (fun h=>?_) (fun h=>?_)
 have hq0:0< q:=by
  rcases Nat.eq_zero_or_pos q with e|e
  subst e;rw[gH_] at h;simp at h;exact e
 refine ah_ (af_ (aQ_ (fun _:Unit=>zgS (p,q)) (fun _=>True) ?_ ?_));by_cases hl:(zd p).length≤4;by_cases hl2:(zd q).length≤4;have hwp:=le_ hl;have hwq:=le_ hl2;have hsp:=kA_ (zd p) hl (zd_lt p);have hsq:=kA_ (zd q) hl2 (zd_lt q);rw[hv_zd] at hsp hsq;refine s_r 8 ?_;refine a_4 ?_;refine y_g rfl (by simp;omega) (.move rfl) ?_;refine y_g rfl (by simp;omega) (.lenI rfl rfl rfl rfl te_47.h) ?_;refine y_g rfl (by simp;omega) (.bin rfl rfl bw_) ?_;refine o_0 (.pickT rfl (by simp;omega) rfl) ?_;refine ak_ ?_;refine aj_ rfl (fun h1=>?_) (fun h1=>?_);refine r_c 6 (hsp) ?_;refine c_s (hsq) ?_;refine a_z ?_;refine aQ_ (fun v:Nat=>zgW (v,0)) (fun v=>v=Nat.gcd x.natAbs y.natAbs) ?_ ?_;refine af_ (aq_ zgW (fun v=>v.2) (fun v=>Nat.gcd v.1 v.2=Nat.gcd x.natAbs y.natAbs∧v.1< 1152921504606846976∧v.2< 1152921504606846976) (p,q) ⟨hg,hwp,hwq⟩ ?_ ?_);simp only[li_];exact s_e [];rintro⟨u,v⟩ ⟨huv,hu,hv⟩;simp only at huv hu hv;rw[li_];refine ab_ (r_z 2 ?_);refine aj_ rfl (fun h2=>?_) (fun h2=>?_);have hv0:0< v:=by simp at h2;omega
 refine ah_ (af_ (r_d hmix 6 ?_));refine a_6 ?_;refine ak_ (n_k ?_);refine⟨(v,u % v),Nat.mod_lt _ hv0,⟨(lh_ u v).trans huv,hv,Nat.lt_trans (Nat.mod_lt _ hv0) hv⟩,?_⟩;simp only[li_];exact s_e [];have hv0:v=0:=by simp at h2;omega
 subst hv0;refine ao_ ⟨u,by simpa using huv,?_⟩;simp only[li_];exact s_e [];rintro v hv;rw[li_]
 have hv64:v< 1152921504606846976:=by
  rw[hv,←hg];have h1:Nat.gcd p q≤q:=Nat.gcd_le_right _ hq0;omega
 refine r_c 3 (fZ_ v (by omega)) ?_;refine a_z ?_;refine ag_ (bN_ rfl rfl rfl TG.h TS.h (nle rfl) ?_ ?_);rw[←hv];rfl;exact bz_ _;exact absurd h1 (by simp;omega);refine s_r 8 ?_;refine a_4 ?_;refine y_g rfl (by simp;omega) (.move rfl) ?_;refine y_g rfl (by simp;omega) (.lenI rfl rfl rfl rfl te_47.h) ?_;refine y_g rfl (by simp;omega) (.bin rfl rfl bw_) ?_;refine o_0 (.pickT rfl (by simp;omega) rfl) ?_;refine ak_ ?_;refine aj_ rfl (fun h=>?_) (fun _=>ah_ ⟨(),trivial,?_⟩);exact absurd h (by simp;omega);simp only[g8_];exact s_e [];refine s_r 8 ?_;refine a_4 ?_;refine n_g rfl (by simp;omega) ?_;refine n_g rfl (by simp;omega) ?_;refine n_g rfl (by simp;omega) ?_;refine o_0 (.pickF rfl (by simp;omega) rfl) ?_;refine ak_ ?_;refine aj_ rfl (fun h=>?_) (fun _=>ah_ ⟨(),trivial,?_⟩);cases h;simp only[g8_];exact s_e [];rintro _ _;rw[g8_];refine r_c 8 (h0_ p q hq0 hp hq) ?_;refine a_z ?_;refine r_m 4 ?_;refine a_z ?_;refine⟨(q,p % q),Nat.mod_lt _ hq0,⟨(lh_ p q).trans hg,hq,?_⟩,?_⟩;have:=b4_ (Nat.le_of_lt (Nat.mod_lt p hq0));simp only;omega;simp only[g8_];exact s_e []
 have hq0:q=0:=by
  refine zd_eq_nil.1 (List.length_eq_zero_iff.1 ?_);have:=of_decide_eq_false h;omega
 subst hq0;refine ao_ ⟨p,by simpa using hg,?_⟩;simp only[g8_];exact s_e [];rintro p hp;rw[g8_]
 have hbp:bl p≤4398046511104:=by
  rw[hp];rcases Nat.eq_zero_or_pos y.natAbs with e|e
  rw[e,Nat.gcd_zero_right];exact hx;exact Nat.le_trans (b4_ (Nat.gcd_le_right _ e)) hy
 have hzp:=bm_ p;have hlp:=aW_ (b:=UB) (by decide) p;refine r_c 3 (e1_ 1 (zd p) (p:Int) (by omega) (zd_lt p) (by rw[hv_zd,Int.natAbs_natCast]) (fun h=>by unfold sgZ;rw[if_neg h,if_neg (by omega)])) ?_;refine a_z ?_;refine ag_ (bN_ rfl rfl rfl TG.h TS.h (nle rfl) ?_ ?_);rw[←hp];rfl;exact bz_ _
theorem dx_(x:RQ)(hx:rok x):FS 113 [.agg (rC x)] (.agg (zZ (x.1.den:Int))):=by
 refine f_c Tryz.func113 ?_;refine r_z 2 ?_;refine ab_ (r_z 4 ?_);obtain⟨q,f⟩:=x;have hp:=q.den_pos;cases f with
 |true=>
  have h0:q=0:=hx rfl;subst h0;refine aj_ (t:=true) rfl (fun h=>?_) (fun h=>?_);refine r_c 2 (fZ_ 1 (by decide)) ?_;refine a_z ?_;exact ag_ (c_e (bz_ _));cases h
 |false=>
  refine aj_ rfl (fun h=>?_) (fun h=>?_);exfalso;have h1:sgZ (q.den:Int)=0:=by simpa using h
  rcases bA_ (q.den:Int) with⟨a,b⟩|⟨a,b⟩|⟨a,b⟩<;> omega
  refine ah_ (r_z 3 ?_);exact ag_ (c_e (bz_ _))
theorem zd_one:zd 1=[1]:=by
 unfold zd;rw[cv_ (by decide) (by decide),show 1/ UB=0 by decide,be_];rfl
theorem zZ_one{g:Nat}(h:g=1):zZ (g:Int)=[i64 1,.arr [[i64 1]]]:=by
 subst h;show [i64 (sgZ 1),AV.arr (iE (zd 1))]=_;rw[zd_one];rfl
theorem pY_{g:Nat}(h:(zd g).length=1):zd g=[g]:=by
 obtain⟨a,ha⟩:=List.length_eq_one_iff.1 h;have h1:=hv_zd g;rw[ha,iM_,lV_] at h1;simp at h1;rw[ha,h1]
theorem lj_{n:Nat}(h:bl n≤4398046511104):(zd n).length≤281474976710656:=by
 rw[bm_];have:=aW_ (b:=UB) (by decide) n;omega
def ratS(n':Int)(D g:Nat):AState:=⟨[(2,.lptr 1 0 0),(3,.lptr 2 0 0),(4,.lptr 3 0 0),(5,.lptr 4 0 0)],[(1,some ⟨49,2,[zZ n']⟩),(2,some ⟨49,2,[zZ (D:Int)]⟩),(3,some ⟨51,4,[[i64 0,.emp,i64 0,.emp]]⟩),(4,some ⟨49,2,[zZ (g:Int)]⟩)],5,57⟩
theorem h5_(n d:Int)(hd:d≠0)(hn:bl n.natAbs≤4398046511104)(hb:bl d.natAbs≤4398046511104):FS 108 [.agg (zZ n),.agg (zZ d)] (.agg (rC (rq (Rat.divInt n d)))):=by
 refine f_c Tryz.func108 ?_;refine r_z 3 ?_;refine aQ_ (fun n':Int=>⟨[(2,.lptr 1 0 0),(3,.lptr 2 0 0),(4,.lptr 3 0 0)],[(1,some ⟨49,2,[zZ n']⟩),(2,some ⟨49,2,[zZ (d.natAbs:Int)]⟩),(3,some ⟨51,4,[[i64 0,.emp,i64 0,.emp]]⟩)],4,57⟩) (fun n'=>n'.natAbs=n.natAbs∧Rat.divInt n d=mkRat n' d.natAbs) ?_ ?_;refine r_z 3 ?_;refine aj_ rfl (fun h=>?_) (fun h=>?_)
 have hneg:d< 0:=by
  have h1:sgZ d< 0:=by simpa using h
  rcases bA_ d with⟨a,b⟩|⟨a,b⟩|⟨a,b⟩<;> omega
 have e: -d=(d.natAbs:Int):=by omega
 have hdn:=m7_ d;rw[e] at hdn;refine r_d hmix 6 ?_;refine c_s (m7_ n) ?_;refine c_s (hdn) ?_;refine a_2 ?_;refine ak_ (n_k ?_);refine⟨-n,⟨by omega,g2_ n d hneg⟩,?_⟩;exact s_e []
 have hpos:0< d:=by
  have h1:¬sgZ d< 0:=by simpa using h
  rcases bA_ d with⟨a,b⟩|⟨a,b⟩|⟨a,b⟩<;> omega
 have e:d=(d.natAbs:Int):=by omega
 refine ah_ ⟨n,⟨rfl,g1_ n d hpos⟩,?_⟩;rw[←e];exact s_e [];rintro n' ⟨hna,hv⟩;have hD:0< d.natAbs:=by omega
 obtain⟨D,hDd⟩:∃D,D=d.natAbs:=⟨_,rfl⟩;rw[hv];rw[←hDd] at hb hD⊢;rw[←hna] at hn;obtain⟨g,hg⟩:∃g,g=Nat.gcd n'.natAbs D:=⟨_,rfl⟩;have hgp:0< g:=by rw[hg];exact Nat.gcd_pos_of_pos_right _ hD
 have hgD:g≤D:=by rw[hg];exact Nat.gcd_le_right _ hD
 have hbg:=b4_ hgD;have hnum:(mkRat n' D).num.natAbs=n'.natAbs/ g:=by rw[eh_ hD,cS_,hg]
 have hden:(mkRat n' D).den=D/ g:=by rw[(eZ_ hD).2,hg]
 have hsg:=qn_ (n:=n') hD;have hgc:=fs_ZGcd n' (D:Int) hn (by rw[Int.natAbs_natCast];exact hb);rw[Int.natAbs_natCast,←hg] at hgc
 have hfin:rC (rq (mkRat n' D))=zZ (sgn (decide (n'< 0)) (n'.natAbs/ g))++zZ ((D/ g:Nat):Int):=by
  rw[rC_rq,hden,eh_ hD,←hg]
 rw[hfin];have hgn:bl (D/ g)≤bl D:=cG_ D g;have hgn2:bl (n'.natAbs/ g)≤bl n'.natAbs:=cG_ n'.natAbs g;refine r_c 5 (hgc) ?_;refine a_z ?_;refine aQ_ (fun _:Unit=>ratS n' D g) (fun _=>g≠1) ?_ ?_;by_cases h1:g=1;rw[zZ_one h1];refine s_r 11 ?_;refine a_5 ?_;refine y_g rfl rfl (.fieldAddr_l rfl TF.h (by decide)) ?_;refine y_g rfl rfl (.load_l1 rfl rfl rfl TG.h rfl) ?_;refine y_g rfl rfl (.index_a rfl rfl (by omega) rfl rfl te_47.h) ?_;refine y_g rfl rfl (.load_a1 rfl rfl TG.h rfl) ?_;refine y_g rfl rfl (.bin rfl rfl aS_) ?_;refine o_0 (.pickT rfl rfl rfl) ?_;refine ak_ ?_;refine aj_ rfl (fun h=>?_) (fun h=>?_);refine r_z 4 ?_;refine ag_ ?_;rw[h1,Nat.div_one,Nat.div_one,show sgn (decide (n'< 0)) n'.natAbs=n' by unfold sgn;by_cases h0:n'< 0 <;> simp[h0]<;> omega];exact c_e (aw_ fun c hc=>(List.mem_append.1 hc).elim (bZ_ _ c) (bZ_ _ c));exact absurd h (by decide);by_cases hl:(zd g).length=1;have hz:=pY_ hl;have hz2:zZ (g:Int)=[i64 (sgZ (g:Int)),.arr (iE [g])]:=by show [i64 (sgZ (g:Int)),AV.arr (iE (zd g))]=_;rw[hz]
 rw[hz2];refine s_r 11 ?_;refine a_5 ?_;refine y_g rfl rfl (.fieldAddr_l rfl TF.h (by decide)) ?_;refine y_g rfl rfl (.load_l1 rfl rfl rfl TG.h rfl) ?_;refine y_g rfl rfl (.index_a rfl rfl (by omega) rfl rfl te_47.h) ?_;refine y_g rfl rfl (.load_a1 rfl rfl TG.h rfl) ?_;refine y_g rfl rfl (.bin rfl rfl aS_) ?_;refine o_0 (.pickT rfl rfl rfl) ?_;refine ak_ ?_;refine aj_ rfl (fun h=>?_) (fun h=>?_);exact absurd h (by simp;omega);refine ah_ ⟨(),h1,?_⟩;rw[←hz2];unfold ratS;exact s_e [(4,5)];refine s_r 11 ?_;refine a_5 ?_;refine n_g rfl (by simp;omega) ?_;refine n_g rfl (by simp;omega) ?_;refine n_g rfl (by simp;omega) ?_;refine n_g rfl (by simp;omega) ?_;refine n_g rfl (by simp;omega) ?_;refine o_0 (.pickF rfl (by simp;omega) rfl) ?_;refine ak_ ?_;refine aj_ rfl (fun h=>?_) (fun h=>?_);exact absurd h (by simp);refine ah_ ⟨(),h1,?_⟩;unfold ratS;exact s_e [(4,5)];rintro _ hg1;unfold ratS;have hzq:=e1_ (sgZ n') (zd (n'.natAbs/ g)) (sgn (decide (n'< 0)) (n'.natAbs/ g)) (lj_ (by omega)) (zd_lt _) (by rw[hv_zd,cS_]) (fun h=>by rw[←hsg,eh_ hD,←hg]);have hzd:=e1_ 1 (zd (D/ g)) ((D/ g:Nat):Int) (lj_ (by omega)) (zd_lt _) (by rw[hv_zd,Int.natAbs_natCast]) (fun h=>by unfold sgZ;rw[if_neg h,if_neg (by omega)]);refine r_c 10 (h0_ n'.natAbs g hgp hn (by omega)) ?_;refine a_z ?_;refine r_c 10 (h0_ D g hgp hb (by omega)) ?_;refine a_z ?_;refine r_c 8 (hzq) ?_;refine c_s (hzd) ?_;refine a_z ?_;exact ag_ (c_e (aw_ fun c hc=>(List.mem_append.1 hc).elim (bZ_ _ c) (bZ_ _ c)))
theorem zl_of{z:Int}{k:Nat}(h:bl z.natAbs≤k)(hk:k≤8796093022208):zl z:=Nat.le_trans h hk
theorem kB_(n:Int)(h: -9223372036854775808≤n∧n≤9223372036854775807):FS 49 [i64 n] (.agg (rC (rq (n:Rat)))):=by
 rw[rC_rq];refine f_c Tryz.func49 ?_;refine r_z 1 ?_;refine r_c 5 (fZ_ n h) ?_;refine c_s (fZ_ 1 (by decide)) ?_;refine a_z ?_;exact ag_ (c_e (aw_ fun c hc=>(List.mem_append.1 hc).elim (bZ_ _ c) (bZ_ _ c)))
theorem fs_rOf(n d:Int)(hd:d≠0)(h: -9223372036854775808≤n∧n≤9223372036854775807)(h2: -9223372036854775808≤d∧d≤9223372036854775807):FS 39 [i64 n,i64 d] (.agg (rC (rq (Rat.divInt n d)))):=by
 have hb:∀z:Int,-9223372036854775808≤z→z≤9223372036854775807→bl z.natAbs≤4398046511104:=fun z h1 h2=>Nat.le_trans (bl_le (k:=64) (by omega)) (by decide);refine f_c Tryz.func39 ?_;refine r_z 1 ?_;refine r_c 6 (fZ_ n h) ?_;refine c_s (fZ_ d h2) ?_;refine c_s (h5_ n d hd (hb n h.1 h.2) (hb d h2.1 h2.2)) ?_;refine a_z ?_;exact ag_ (c_e (b0_ _))
theorem rB_(x:RQ)(hx:rok x):FS 53 [.agg (rC x)] (.agg (rC (rq (-x.1)))):=by
 rw[rC_rq,Rat.neg_num,Rat.neg_den];refine f_c Tryz.func53 ?_;refine r_z 2 ?_;refine ab_ (r_d hmix 7 ?_);refine c_s (m7_ x.1.num) ?_;refine c_s (dx_ x hx) ?_;refine a_2 ?_;refine ak_ (n_k ?_);exact ag_ (c_e (aw_ fun c hc=>(List.mem_append.1 hc).elim (bZ_ _ c) (bZ_ _ c)))
theorem h2_(x:RQ):FS 119 [.agg (rC x)] (i64 (sgZ x.1.num)):=by
 refine f_c Tryz.func119 ?_;refine r_z 2 ?_;refine r_z 4 ?_;exact ag_ (t_e (ad_ _))
theorem kD_(x y:RQ)(hx:rok x)(hy:rok y)(h:qs x.1+qs y.1≤1099511627776):FS 62 [.agg (rC x),.agg (rC y)] (.agg (rC (rq (x.1+y.1)))):=by
 obtain⟨a,fa⟩:=x;obtain⟨b,fb⟩:=y;simp only at h⊢;have hp:=jk_ a b;have h1:=b5_ a;have h2:=bP_ a;have h3:=b5_ b;have h4:=bP_ b;have e1:=cb_ (x:=a.num) (y:=b.den) h1 (by simpa using h4);have e2:=cb_ (x:=b.num) (y:=a.den) h3 (by simpa using h2);have e3:=hp.1;have e4:=hp.2;have hd:(a.den:Int) * b.den≠0:=by have:=fo_ a b;rw[←Int.natCast_mul];omega
 have e:a+b=Rat.divInt (a.num* b.den+b.num* a.den) (a.den* b.den):=by
  rw[jl_,←Int.natCast_mul,←Rat.divInt_ofNat]
 rw[e];have e5:bl ((a.den:Int) * b.den).natAbs≤qs a+qs b:=by rw[←Int.natCast_mul,Int.natAbs_natCast];exact e4
 refine f_c Tryz.func62 ?_;refine r_z 3 ?_;refine ab_ (r_d hmix 18 ?_);refine c_s (dx_ (b,fb) hy) ?_;refine c_s (e2_ a.num b.den (zl_of h1 (by omega)) (zl_of (by simpa using h4) (by omega))) ?_;refine c_s (dx_ (a,fa) hx) ?_;refine c_s (e2_ b.num a.den (zl_of h3 (by omega)) (zl_of (by simpa using h2) (by omega))) ?_;refine c_s (fs_ZAdd (a.num* b.den) (b.num* a.den) (zl_of e1 (by omega)) (zl_of e2 (by omega))) ?_;refine c_s (dx_ (a,fa) hx) ?_;refine c_s (dx_ (b,fb) hy) ?_;refine c_s (e2_ a.den b.den (zl_of (by simpa using h2) (by omega)) (zl_of (by simpa using h4) (by omega))) ?_;refine c_s (h5_ (a.num* b.den+b.num* a.den) (a.den* b.den) hd (by omega) (by omega)) ?_;refine a_1 ?_;refine ak_ (n_k ?_);exact ag_ (c_e (b0_ _))
theorem fs_rSub(x y:RQ)(hx:rok x)(hy:rok y)(h:qs x.1+qs y.1≤1099511627776):FS 133 [.agg (rC x),.agg (rC y)] (.agg (rC (rq (x.1- y.1)))):=by
 rw[Rat.sub_eq_add_neg];refine f_c Tryz.func133 ?_;refine r_z 3 ?_;refine ab_ (r_d hmix 5 ?_);refine c_s (rB_ y hy) ?_;refine c_s (kD_ x (rq (-y.1)) hx (bO_ _) (by simp only[rq,dA_];exact h)) ?_;refine a_1 ?_;refine ak_ (n_k ?_);exact ag_ (c_e (b0_ _))
theorem fY_(x y:RQ)(hx:rok x)(hy:rok y)(h:qs x.1+qs y.1≤1099511627776):FS 41 [.agg (rC x),.agg (rC y)] (.agg (rC (rq (x.1* y.1)))):=by
 obtain⟨a,fa⟩:=x;obtain⟨b,fb⟩:=y;simp only at h⊢;have hp:=iD_ a b;have h1:=b5_ a;have h2:=bP_ a;have h3:=b5_ b;have h4:=bP_ b;have e3:=hp.1;have e4:=hp.2;have hd:(a.den:Int) * b.den≠0:=by have:=fo_ a b;rw[←Int.natCast_mul];omega
 have e:a* b=Rat.divInt (a.num* b.num) (a.den* b.den):=by
  rw[ge_,←Int.natCast_mul,←Rat.divInt_ofNat]
 rw[e];have e5:bl ((a.den:Int) * b.den).natAbs≤qs a+qs b:=by rw[←Int.natCast_mul,Int.natAbs_natCast];exact e4
 refine f_c Tryz.func41 ?_;refine r_z 3 ?_;refine ab_ (r_d hmix 12 ?_);refine c_s (e2_ a.num b.num (zl_of h1 (by omega)) (zl_of h3 (by omega))) ?_;refine c_s (dx_ (a,fa) hx) ?_;refine c_s (dx_ (b,fb) hy) ?_;refine c_s (e2_ a.den b.den (zl_of (by simpa using h2) (by omega)) (zl_of (by simpa using h4) (by omega))) ?_;refine c_s (h5_ (a.num* b.num) (a.den* b.den) hd (by omega) (by omega)) ?_;refine a_1 ?_;refine ak_ (n_k ?_);exact ag_ (c_e (b0_ _))
theorem rC_(x y:RQ)(hx:rok x)(hy:rok y)(hy0:y.1≠0)(h:qs x.1+qs y.1≤1099511627776):FS 132 [.agg (rC x),.agg (rC y)] (.agg (rC (rq (x.1/ y.1)))):=by
 obtain⟨a,fa⟩:=x;obtain⟨b,fb⟩:=y;simp only at h hy0⊢;have h1:=b5_ a;have h2:=bP_ a;have h3:=b5_ b;have h4:=bP_ b;have e1:=cb_ (x:=a.num) (y:=b.den) h1 (by simpa using h4);have e2:=cb_ (x:=a.den) (y:=b.num) (by simpa using h2) h3;have hn0:b.num≠0:=fun e=>hy0 (Rat.num_eq_zero.1 e);have hd:(a.den:Int) * b.num≠0:=Int.mul_ne_zero (by have:=a.den_pos;omega) hn0;rw[fn_];refine f_c Tryz.func132 ?_;refine r_z 3 ?_;refine ab_ (r_d hmix 12 ?_);refine c_s (dx_ (b,fb) hy) ?_;refine c_s (e2_ a.num b.den (zl_of h1 (by omega)) (zl_of (by simpa using h4) (by omega))) ?_;refine c_s (dx_ (a,fa) hx) ?_;refine c_s (e2_ a.den b.num (zl_of (by simpa using h2) (by omega)) (zl_of h3 (by omega))) ?_;refine c_s (h5_ (a.num* b.den) (a.den* b.num) hd (by omega) (by omega)) ?_;refine a_1 ?_;refine ak_ (n_k ?_);exact ag_ (c_e (b0_ _))
def powQ(q:Rat):Nat→Rat
 |0=>q
 |k+1=>powQ q k* q
theorem qN_(q:Rat):∀k,qs (powQ q k)≤(k+1) * qs q
 |0=>by simp[powQ]
 |k+1=>by
  have h1:=bH_ (powQ q k) q;have h2:=qN_ q k;show qs (powQ q k* q)≤_;rw[Nat.add_mul (k+1),Nat.one_mul];omega
def dNum(D:Int):Int:=if D=0 then 1 else D
def numV(N D:Int)(p:Nat):Rat:=powQ (Rat.divInt N (dNum D)) (p % 4)
def nuC(N D:Int)(p:Nat):List AV:=[i64 N,i64 D,.v (.int .u8 p)]
def i64r(n:Int):Prop:= -9223372036854775808≤n∧n≤9223372036854775807
theorem fr_(N D:Int)(p:Nat):∀c∈nuC N D p,Closed c:=aa_ (ad_ _) (aa_ (ad_ _) (aa_ (ad_ _) ac_))
theorem div_cast(n d:Int):(n:Rat) / (d:Rat)=Rat.divInt n d:=(Rat.divInt_eq_div n d).symm
def boT(N:Int)(D:Int)(p:Nat)(q:Rat):Nat→AState
 |k=>⟨[(1,.lptr 1 0 0),(2,.lptr 2 0 0),(3,.lptr 3 0 0),(4,.lptr 4 0 0),(6,.lptr 5 0 0),(7,.lptr 6 0 0),(8,.lptr 7 0 0),(9,.v (.int .u8 k))],
  [(1,some ⟨24,3,[nuC N D p]⟩),(2,some ⟨46,3,[zC]⟩),(3,some ⟨51,4,[[i64 0,.emp,i64 0,.emp]]⟩),(4,some ⟨46,3,[qC q]⟩),(5,some ⟨51,4,[rC (rq q)]⟩),(6,some ⟨46,3,[qC (powQ q k)]⟩),(7,some ⟨51,4,[rC (rq (powQ q k))]⟩)],8,44⟩
theorem ox_(N D:Int)(p:Nat)(hN:i64r N)(hD:i64r D)(hp:p≤255):FS 10 [.agg (nuC N D p)] (.tup [.agg (qC (numV N D p)),.agg (rC (rq (numV N D p)))]):=by
 obtain⟨d,hd⟩:∃d,d=dNum D:=⟨_,rfl⟩;have hd0:d≠0:=by rw[hd];unfold dNum;split <;> omega
 have hdr:i64r d:=by
  rw[hd];unfold dNum i64r;unfold i64r at hD;split <;> omega
 unfold i64r at hN hdr;obtain⟨q,hq⟩:∃q,q=Rat.divInt N d:=⟨_,rfl⟩;have hof:=fs_Of N d hN hdr hd0;rw[div_cast,←hq] at hof;have hro:=fs_rOf N d hd0 hN hdr;rw[←hq] at hro;have hnv:numV N D p=powQ q (p % 4):=by unfold numV;rw[←hd,←hq]
 rw[hnv];refine f_n Tryz.func10 ?_ ?_;exact aa_ (aw_ (fr_ N D p)) ac_;refine r_z 3 ?_
 refine aQ_ (fun _:Unit=>⟨[(1,.lptr 1 0 0),(2,.lptr 2 0 0),(3,.lptr 3 0 0)],
  [(1,some ⟨24,3,[nuC N d p]⟩),(2,some ⟨46,3,[zC]⟩),(3,some ⟨51,4,[[i64 0,.emp,i64 0,.emp]]⟩)],4,44⟩) (fun _=>True) ?_ ?_
 refine r_z 3 ?_;refine aj_ rfl (fun h1=>?_) (fun h1=>?_);have h2:D=0:=by simpa using h1
 have h3:d=1:=by rw[hd];unfold dNum;rw[if_pos h2]
 refine r_m 2 ?_;refine a_z ?_;refine⟨(),trivial,?_⟩;rw[h3];have:=fr_ N 1 p;exact s_f [];have h2:¬D=0:=by simpa using h1
 have h3:d=D:=by rw[hd];unfold dNum;rw[if_neg h2]
 refine ah_ ⟨(),trivial,?_⟩;rw[h3];have:=fr_ N D p;exact s_f [];rintro _ _;refine r_c 11 (hof) ?_;refine a_z ?_;refine r_c 7 (hro) ?_;refine a_z ?_;refine ab_ (r_d hmix 6 ?_);refine a_6 ?_;refine ak_ (n_k ?_);refine ab_ (r_z 1 ?_)
 have hqs:qs q≤64:=by
  have hb:∀z:Int,-9223372036854775808≤z∧z≤9223372036854775808→bl z.natAbs≤64:=fun z h=>bl_le (k:=64) (by omega);rw[hq];by_cases hn:d< 0;rw[g2_ N d hn];exact c0_ (by omega) (hb (-N) (by omega)) (hb d (by omega));rw[g1_ N d (by omega)];exact c0_ (by omega) (hb N (by omega)) (hb d (by omega))
 have hm4:(p:Int) % 4=((p % 4:Nat):Int):=by omega
 refine av_ (fun _:Unit=>boT N d p q (p % 4)) (fun _=>True) ?_ ?_;refine af_ (aq_ (boT N d p q) (fun k=>p % 4- k) (fun k=>k≤p % 4) 0 (Nat.zero_le _) ?_ ?_);simp only[boT.eq_1,powQ];exact s_f [(4,4),(5,6),(6,7),(7,8)];rintro k hk;rw[boT.eq_1];refine ab_ (r_z 5 ?_);refine aj_ rfl (fun h=>?_) (fun h=>?_);refine ah_ ?_
 have hlt:k< p % 4:=by
  have h2:(k:Int)< (p:Int) % 4:=by simpa using h
  omega
 have hpk:=qN_ q k;have hpk2:(k+1) * qs q≤4* 64:=Nat.mul_le_mul (by omega) hqs;refine ab_ (af_ (r_d hmix 8 ?_));refine c_s (bE_ (powQ q k) q (by omega)) ?_;refine c_s (fY_ (rq (powQ q k)) (rq q) (bO_ _) (bO_ _) (by simp only[rq];omega)) ?_;refine a_2 ?_;refine ak_ (n_k ?_);refine r_m 3 ?_;refine a_z ?_;refine⟨k+1,by omega,hlt,?_⟩;simp only[boT.eq_1];exact s_f []
 have hge:k=p % 4:=by
  have h2:¬(k:Int)< (p:Int) % 4:=by simpa using h
  omega
 subst hge;refine ao_ ⟨(),trivial,?_⟩;exact s_f [];rintro _ _;rw[boT.eq_1];refine ab_ (r_d hmix 4 ?_);refine a_4 ?_;refine ak_ (n_k ?_);refine ag_ (Fin.many ⟨_,_,rfl,⟨_,_,_,_,_,rfl,rfl,rfl,.inl ⟨TG.h,_,TS.h,nle rfl,rfl⟩⟩,⟨_,_,rfl,⟨_,_,_,_,_,rfl,rfl,rfl,.inl ⟨TG.h,_,TS.h,nle rfl,rfl⟩⟩,rfl⟩⟩ (nle rfl) ?_);exact ae_ (ai_ as_ (aC_ _)) (ae_ (ai_ as_ (b0_ _)) am_)
def twP:List Rat:=bd_ [0,1] 2
def chP:Nat→List Rat×List Rat
 |0=>(cK_ 1,[0,1])
 |k+1=>((chP k).2,subP (mulP twP (chP k).2) (chP k).1)
def okCh(k:Nat):Prop:=okMul twP (chP k).2∧smL (chP k).1∧(mulP twP (chP k).2).length≤274877906944∧(chP k).1.length≤274877906944
instance (k:Nat):Decidable (okCh k):=inferInstanceAs (Decidable (_∧_∧_∧_))
def chL2(n:Nat):List (List Rat):=(List.range n).map fun k=>(chP k).1
@[simp] theorem chL2_length (n:Nat):(chL2 n).length=n:=by simp[chL2]
def okTo(L:Nat)(p t:List Rat)(k:Rat)(n:Nat):Prop:=n< L∧smL p∧smL t∧leadP t≠0∧sm k∧smL (bd_ t k)∧p.length≤274877906944∧t.length≤274877906944
instance (L:Nat) (p t:List Rat) (k:Rat) (n:Nat):Decidable (okTo L p t k n):=inferInstanceAs (Decidable (_∧_∧_∧_∧_∧_∧_∧_))

inductive LeLL:List (List AV)→List (List AV)→Prop
 |nil:LeLL [] []
 |cons {e e' es es'}:LeL e e'→LeLL es es'→LeLL (e::es) (e'::es')
section
variable {P:Go.Program}{T:Nat}{x y:Operand}
end
end Go.Proofs.YtjkddcfoolilbaaGreatDoor
