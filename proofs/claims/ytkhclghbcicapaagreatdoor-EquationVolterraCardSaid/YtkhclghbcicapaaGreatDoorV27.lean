/- Part V27 of the proof. -/
import Derived.Test.YtkhclghbcicapaaGreatDoorV26
set_option linter.all false
namespace Go.Proofs.YtkhclghbcicapaaGreatDoor
open Go.Abs
set_option maxRecDepth 20000
def zl(z:Int):Prop:=bl z.natAbs≤8796093022208
theorem yP{z:Int}(h:zl z):(zd z.natAbs).length≤17592186044416:=by
 have:=b8 (b:=UB) (by decide) z.natAbs;rw[dd];unfold zl at h;omega
theorem y3{x y:Int}(h:sgZ x=sgZ y)(hx:x≠0):(x+y).natAbs=x.natAbs+y.natAbs∧(x+y≠0→sgZ x=sgZ (x+y)):=by
 rcases du x with⟨a,b⟩|⟨a,b⟩|⟨a,b⟩<;> rcases du y with⟨c,d⟩|⟨c,d⟩|⟨c,d⟩<;> rcases du (x+y) with⟨e,f⟩|⟨e,f⟩|⟨e,f⟩<;> rw[a,c] at h <;> rw[a,e]<;> first|omega|(constructor <;> omega)
theorem vE{x y:Int}(h:sgZ x≠sgZ y)(hx:x≠0)(hy:y≠0)(hg:y.natAbs≤x.natAbs):(x+y).natAbs=x.natAbs- y.natAbs∧(x+y≠0→sgZ x=sgZ (x+y)):=by
 rcases du x with⟨a,b⟩|⟨a,b⟩|⟨a,b⟩<;> rcases du y with⟨c,d⟩|⟨c,d⟩|⟨c,d⟩<;> rcases du (x+y) with⟨e,f⟩|⟨e,f⟩|⟨e,f⟩<;> rw[a,c] at h <;> rw[a,e]<;> first|omega|(constructor <;> omega)
theorem fs_ZAdd(x y:Int)(hx:zl x)(hy:zl y):FS 195 [.agg (zZ x),.agg (zZ y)] (.agg (zZ (x+y))):=by
 have e:=yP hx;have c:=yP hy
 have bound:∀r:Nat,r≤x.natAbs+y.natAbs→(zd r).length≤281474976710656:=by
  intro r m;have h1:=b8 (b:=UB) (by decide) r;have g:=dP m;have i:=AB x.natAbs y.natAbs;unfold zl at hx hy;rw[dd];omega
 refine f_c Tryz.func195 ?_;refine r_z 3 ?_;refine ae (r_z 3 ?_);refine aq rfl (fun h=>?_) (fun h=>?_)
 have k:x=0:=by
  have:sgZ x=0:=by simpa using h
  rcases du x with⟨a,b⟩|⟨a,b⟩|⟨a,b⟩<;> omega
 refine r_z 2 ?_;refine ak (dV rfl rfl rfl TG.h TS.h (nle rfl) ?_ ?_);rw[k,Int.zero_add];rfl;exact dh _;have d:x≠0:=by rintro rfl;simp[sgZ] at h
 refine an (ae (r_z 3 ?_));refine aq rfl (fun h1=>?_) (fun h1=>?_)
 have k:y=0:=by
  have:sgZ y=0:=by simpa using h1
  rcases du y with⟨a,b⟩|⟨a,b⟩|⟨a,b⟩<;> omega
 refine r_z 2 ?_;refine ak (dV rfl rfl rfl TG.h TS.h (nle rfl) ?_ ?_);rw[k,Int.add_zero];rfl;exact dh _;have f:y≠0:=by rintro rfl;simp[sgZ] at h1
 refine an (ae (r_z 5 ?_));refine aq rfl (fun g=>?_) (fun g=>?_);have hs:sgZ x=sgZ y:=by simpa using g
 obtain⟨e1,e2⟩:=y3 hs d;refine ae (r_d ba 9 ?_);refine c_s (rO x.natAbs y.natAbs 1 (x.natAbs+y.natAbs) (.inl rfl) (by omega) e c) ?_;refine c_s (lc (sgZ x) (zd (x.natAbs+y.natAbs)) (x+y) (bound _ (Nat.le_refl _)) (ky _) (by rw[lW,e1]) e2) ?_;refine a_1 ?_;refine au (n_k ?_);exact ak (c_e (dh _));have hs:sgZ x≠sgZ y:=by simpa using g
 refine an (ae (r_c 6 (BG x.natAbs y.natAbs (by omega) (by omega)) ?_));refine a_z ?_;refine aq rfl (fun i=>?_) (fun i=>?_)
 have j:y.natAbs≤x.natAbs:=by
  have:=of_decide_eq_true i;unfold fm at this;split at this;omega;omega
 obtain⟨e1,e2⟩:=vE hs d f j;refine ae (r_d ba 9 ?_);refine c_s (rO x.natAbs y.natAbs (-1) (x.natAbs- y.natAbs) (.inr rfl) (by omega) e c) ?_;refine c_s (lc (sgZ x) (zd (x.natAbs- y.natAbs)) (x+y) (bound _ (by omega)) (ky _) (by rw[lW,e1]) e2) ?_;refine a_1 ?_;refine au (n_k ?_);exact ak (c_e (dh _))
 have l:x.natAbs≤y.natAbs:=by
  have:=of_decide_eq_false i;unfold fm at this;split at this;omega;split at this <;> omega
 obtain⟨e1,e2⟩:=vE (fun h=>hs h.symm) f d l;rw[Int.add_comm] at e1 e2;refine an (ae (r_d ba 9 ?_));refine c_s (rO y.natAbs x.natAbs (-1) (y.natAbs- x.natAbs) (.inr rfl) (by omega) c e) ?_;refine c_s (lc (sgZ y) (zd (y.natAbs- x.natAbs)) (x+y) (bound _ (by omega)) (ky _) (by rw[lW,e1]) e2) ?_;refine a_1 ?_;refine au (n_k ?_);exact ak (c_e (dh _))
theorem zl_neg{z:Int}(h:zl z):zl (-z):=by unfold zl at *;rwa[Int.natAbs_neg]
theorem fs_ZSub(x y:Int)(hx:zl x)(hy:zl y):FS 165 [.agg (zZ x),.agg (zZ y)] (.agg (zZ (x- y))):=by
 have hs:=fs_ZAdd x (-y) hx (zl_neg hy);rw[←Int.sub_eq_add_neg] at hs;refine f_c Tryz.func165 ?_;refine r_z 3 ?_;refine ae (r_d ba 5 ?_);refine c_s (zS y) ?_;refine c_s (hs) ?_;refine a_1 ?_;refine au (n_k ?_);exact ak (c_e (dh _))
theorem fs_ZCmp(x y:Int)(hx:zl x)(hy:zl y):FS 135 [.agg (zZ x),.agg (zZ y)] (i64 (fm x y)):=by
 have e:fm x y=sgZ (x- y):=by
  unfold fm sgZ;split <;> split <;>(try split)<;>(try split)<;> omega
 rw[e];refine f_c Tryz.func135 ?_;refine r_z 3 ?_;refine r_c 5 (fs_ZSub x y hx hy) ?_;refine a_z ?_;exact ak (t_e (ah _))
def CX(l:List Nat):Nat→AState
 |i=>⟨[(0,.arr (iE l)),(3,i64 (hv (l.take i))),(4,i64 i)],[],1,19⟩
theorem Dw{l:List Nat}(hd:∀d∈l,d< UB)(hl:l.length≤4)(i:Nat):hv (l.take i)< 1152921504606846976:=by
 have h1:=E8 (l:=l.take i) fun d h=>hd d (List.mem_of_mem_take h);have a:(l.take i).length≤4:=by rw[List.length_take];omega
 exact Nat.lt_of_lt_of_le h1 (Nat.pow_le_pow_right (by decide) a)
theorem Bz(l:List Nat)(hl:l.length≤4)(hd:∀d∈l,d< UB):FS 184 [.arr (iE l)] (i64 (hv l)):=by
 refine f_c Tryz.func184 ?_;refine r_z 1 ?_;refine r_z 1 ?_;refine ae (r_z 1 ?_);refine aH (CX l) (fun i=>i=l.length) ?_ ?_;refine am (aD (CX l) (fun i=>l.length- i) (fun i=>i≤l.length) 0 (Nat.zero_le _) ?_ ?_);simp only[CX.eq_1];exact s_e [];intro i m;rw[CX.eq_1];refine ae (r_z 4 ?_);refine aq rfl (fun h=>?_) (fun h=>?_);have f:i< l.length:=by simpa using h
 obtain⟨d,e⟩:∃d,l[i]?=some d:=⟨_,List.getElem?_eq_getElem f⟩;have k:=hd d (List.mem_of_getElem? e);have b:(iE l)[((i:Nat):Int).toNat]?=some [i64 d]:=lC e;have c:=rz (l.take i) d;rw[←dt e] at c;have hb:=Dw hd hl (i+1);obtain⟨V,j⟩:∃V,V=hv (l.take i):=⟨_,rfl⟩;rw[←j] at c⊢;have a:hv (l.take (i+1))=V* 32768+d:=c;refine an (ae (am (r_m 8 ?_)));refine a_4 ?_;refine i_x b ?_;refine l_1 b ?_;refine a_z ?_;refine r_m 3 ?_;refine a_z ?_;refine⟨i+1,by omega,f,?_⟩;simp only[CX.eq_1];refine s_x [] (fun hs=>?_) (fun hs=>?_) ?_
 ·repeat' (first|exact aS|refine az rfl ?_ ?_|exact bm|(refine Cv.loE hs ?_ (ah _);first|rfl|(simp[i64,u64,u32,bln,a];done)|(simp[i64,u64,u32,bln,a]<;> omega)))
 ·repeat' (first|exact aI|refine h_c ?_ ?_|exact cu|(refine aT hs ?_ (dR _);first|(simp[qe,oF,j6,a];done)|(simp[iE,i64,ofV,a];done))|refine aG ?_|exact aw|refine ai ?_ ?_|exact bm|(refine Cv.loE hs ?_ (ah _);first|(simp[i64,u64,u32,bln,a];done)|(simp[i64,u64,u32,bln,a]<;> omega)))
 ·repeat' (first|exact ShrL.nil|refine ShrL.cons rfl rfl rfl rfl (by first|rfl|(simp;done)|(simp[a]<;> omega)) ?_)
 have g:i=l.length:=by simp at h;omega
 refine aA ⟨i,g,?_⟩;exact s_e [];rintro i rfl;rw[CX.eq_1,List.take_length];refine r_z 2 ?_;refine ak (aY rfl rfl (ah _))
def GR(s:Int):Int×List Nat→AState
 |(n,l)=>⟨[(0,i64 n),(2,.lptr 1 0 0),(3,i64 s),(4,.arr (iE l))],[(1,some ⟨49,2,[[i64 0,.emp]]⟩)],2,25⟩
theorem rR(n:Int)(h: -9223372036854775808≤n∧n≤9223372036854775807):FS 102 [i64 n] (.agg (zZ n)):=by
 obtain⟨s,hs⟩:∃s:Int,s=if n< 0 then -1 else 1:=⟨_,rfl⟩
 have k:n≠0→s=sgZ n:=by
  intro y;rw[hs];unfold sgZ;rw[if_neg y]
 refine f_c Tryz.func102 ?_;refine r_z 1 ?_;refine r_z 1 ?_;refine bD (fun _:Unit=>⟨[(0,i64 n),(2,.lptr 1 0 0),(3,i64 s)],[(1,some ⟨49,2,[[i64 0,.emp]]⟩)],2,25⟩) (fun _=>True) ?_ ?_;refine r_z 2 ?_;refine aq rfl (fun h1=>?_) (fun h1=>?_);have o:n< 0:=by simpa using h1
 rw[hs,if_pos o];refine r_m 1 ?_;refine a_z ?_;refine⟨(),trivial,?_⟩;exact s_e [];have o:¬n< 0:=by simpa using h1
 rw[hs,if_neg o];refine an ⟨(),trivial,?_⟩;exact s_e [];rintro _ _;refine r_z 1 ?_;refine bD (fun l:List Nat=>GR s (0,l)) (fun l=>l.length≤10∧(∀d∈l,d< UB)∧hv l=n.natAbs) ?_ ?_;refine am (aD (GR s) (fun x=>x.1.natAbs) (fun x=>(-9223372036854775808≤x.1∧x.1≤9223372036854775807)∧(∀d∈x.2,d< UB)∧n.natAbs=hv x.2+UB^ x.2.length* x.1.natAbs∧x.2.length≤5) (n,[]) ⟨h,by simp,by simp[wg],by simp⟩ ?_ ?_);simp only[GR.eq_1];exact s_e [(1,2)];rintro⟨m,l⟩ ⟨r,f,a,p⟩;simp only at r f a p;rw[GR.eq_1];refine ae (r_z 2 ?_);refine aq rfl (fun h=>?_) (fun h=>?_)
 ·have b:m≠0:=by simpa using h
  have u:l.length≤4:=by
   refine Nat.le_of_not_lt fun A=>?_;have B:UB^ 5≤UB^ l.length:=Nat.pow_le_pow_right (by decide) A;have C:UB^ l.length* 1≤UB^ l.length* m.natAbs:=Nat.mul_le_mul_left _ (by omega);have D:UB^ 5=37778931862957161709568:=by decide
   omega
  obtain⟨d,i⟩:∃d,d=m.natAbs % 32768:=⟨_,rfl⟩;have g:d< 32768:=by omega
  have E:(m.tmod 32768).natAbs=d:=by rw[Int.natAbs_tmod,i];rfl
  have w:(m.tdiv 32768).natAbs=m.natAbs/ 32768:=by rw[Int.natAbs_tdiv];rfl
  have t:m.natAbs/ 32768< m.natAbs:=Nat.div_lt_self (by omega) (by decide);have q:=Nat.div_add_mod m.natAbs 32768;refine an (am (s_r 3 ?_));refine a_1 ?_;refine o_0 (.bin rfl rfl (GO (by decide))) ?_;refine a_z ?_;refine bD (fun _:Unit=>⟨[(0,i64 m),(2,.lptr 1 0 0),(3,i64 s),(4,.arr (iE l)),(5,i64 d)],[(1,some ⟨49,2,[[i64 0,.emp]]⟩)],2,25⟩) (fun _=>True) ?_ ?_;refine r_z 2 ?_;refine aq rfl (fun h1=>?_) (fun h1=>?_);have c:m.tmod 32768< 0:=by simpa using h1
  refine r_m 3 ?_;refine a_z ?_;have e: -m.tmod 32768=d:=by omega
  refine⟨(),trivial,?_⟩;have:=(congrArg (fun z=>AV.v (.int .i64 z)) e);exact s_f [];have c:¬m.tmod 32768< 0:=by simpa using h1
  have e:m.tmod 32768=d:=by omega
  refine an ⟨(),trivial,?_⟩;have:=(congrArg (fun z=>AV.v (.int .i64 z)) e);exact s_f [];rintro _ _;refine s_r 5 ?_;refine a_3 ?_;refine o_2 (.append_l rfl rfl rfl te_47.h rfl rfl rfl rfl rfl d_o (by first|exact gf _|exact gd _|exact fc _|exact gi _|exact fW _|assumption|rfl|simp) (by first|rfl|exact gf _|exact gd _|exact fc _|exact gi _|exact fW _|simp) rfl (.arr (mO _)) TZ.h rfl TB.h d_o (by first|(simp[maxLen];done)|(simp[maxLen];omega))) ?_;refine a_z ?_;refine r_m 3 ?_;refine a_1 ?_;refine o_0 (.bin rfl rfl (tU (by decide) (by omega))) ?_;refine a_z ?_;refine⟨(m.tdiv 32768,d::l),by simp only;omega,⟨by simp only;omega,?_,?_,by simp;omega⟩,?_⟩;intro e j;rcases List.mem_cons.1 j with rfl|j
  exact g;exact f e j;simp only[rA,List.length_cons];rw[a,w,Nat.pow_succ,Nat.mul_assoc,Nat.add_assoc,←Nat.mul_add];congr 2;show m.natAbs=d+32768* (m.natAbs/ 32768);omega;simp only[GR.eq_1];have e:[[i64 d]]++iE l=iE (d::l):=rfl;refine s_x [] (fun hs=>?_) (fun hs=>?_)
  ·repeat' (first|exact aS|refine az rfl ?_ ?_|exact Cv.sealE hs rfl (aQ rfl) e (by simp;omega) (dR _)|exact bm)
  ·repeat' (first|exact aI|refine h_c ?_ ?_|exact cu|refine aG ?_|exact aw|refine ai ?_ ?_|exact Cv.sealE hs rfl (aQ rfl) e (by simp;omega) (dR _)|exact bm)
 have b:m=0:=by simpa using h
 subst b;refine aA ⟨l,⟨by omega,f,by simpa using a.symm⟩,?_⟩;simp only[GR.eq_1];exact s_e [];rintro l ⟨u,f,a⟩;rw[GR.eq_1];refine r_c 4 (lc s l n (by omega) f a k) ?_;refine a_z ?_;exact ak (c_e (dh _))
theorem EN{o:List Nat}{j d:Nat}(h:o[j]?=some d):o.reverse[o.length- 1- j]?=some d:=by
 have a:j< o.length:=(List.getElem?_eq_some_iff.1 h).1;rw[List.getElem?_reverse (by omega),show o.length- 1- (o.length- 1- j)=j by omega];exact h
theorem EM{o:List Nat}{j v:Nat}(hj:j< o.length):o.reverse.set (o.length- 1- j) v=(o.set j v).reverse:=by
 apply List.ext_getElem?;intro i;by_cases hi:i< o.length;rw[List.getElem?_reverse (by simpa using hi),List.getElem?_set,List.getElem?_set,List.length_reverse,List.length_set];by_cases h:o.length- 1- j=i;rw[if_pos h,if_pos (by omega),if_pos (by omega),if_pos (by omega)];rw[if_neg h,if_neg (by omega),List.getElem?_reverse hi];rw[List.getElem?_eq_none (by simpa using hi),List.getElem?_eq_none (by simpa using hi)]
def zmS(x:Int)(y:Int):List Nat×Nat→AState
 |(o,i)=>⟨[(2,.lptr 1 0 0),(3,.lptr 2 0 0),(4,.lptr 3 0 0),(5,.lsl 4 0 ((zd x.natAbs).length+(zd y.natAbs).length) (some ((zd x.natAbs).length+(zd y.natAbs).length)) 1),(6,i64 (((zd x.natAbs).length:Int)- 1- i))],
  [(1,some ⟨49,2,[zZ x]⟩),(2,some ⟨49,2,[zZ y]⟩),(3,some ⟨49,2,[[i64 0,.emp]]⟩),(4,some ⟨3,1,iE o.reverse⟩)],5,76⟩
def zmT(x:Int)(y:Int)(i:Nat):List Nat×Nat×Nat→AState
 |(o,k,c)=>⟨[(2,.lptr 1 0 0),(3,.lptr 2 0 0),(4,.lptr 3 0 0),(5,.lsl 4 0 ((zd x.natAbs).length+(zd y.natAbs).length) (some ((zd x.natAbs).length+(zd y.natAbs).length)) 1),(6,i64 (((zd x.natAbs).length:Int)- 1- i)),(7,i64 c),(8,i64 (((zd y.natAbs).length:Int)- 1- k))],
  [(1,some ⟨49,2,[zZ x]⟩),(2,some ⟨49,2,[zZ y]⟩),(3,some ⟨49,2,[[i64 0,.emp]]⟩),(4,some ⟨3,1,iE o.reverse⟩)],5,76⟩
structure ZmI (a b:Nat)(x:List Nat×Nat):Prop where
 len:x.1.length=(av UB a).length+(av UB b).length
 le:x.2≤(av UB a).length
 dig:∀d∈x.1,d< UB
 val:ofD UB x.1=ofD UB ((av UB a).take x.2) * b
 zer:∀j,x.2+(av UB b).length≤j→j< x.1.length→x.1[j]?=some 0
structure ZmJ (a b i v:Nat)(x:List Nat×Nat×Nat):Prop where
 len:x.1.length=(av UB a).length+(av UB b).length
 le:x.2.1≤(av UB b).length
 dig:∀d∈x.1,d< UB
 car:x.2.2< UB
 val:ofD UB x.1+UB^ (i+x.2.1) * x.2.2=ofD UB ((av UB a).take i) * b+UB^ i* v* ofD UB ((av UB b).take x.2.1)
 zer:∀j,i+(av UB b).length≤j→j< x.1.length→x.1[j]?=some 0
theorem sgZ_mul(x y:Int):sgZ (x* y)=sgZ x* sgZ y:=by
 rcases du x with⟨a,b⟩|⟨a,b⟩|⟨a,b⟩<;> rcases du y with⟨c,d⟩|⟨c,d⟩|⟨c,d⟩<;> rw[a,c]<;> rcases du (x* y) with⟨e,f⟩|⟨e,f⟩|⟨e,f⟩<;> rw[e]<;> first|rfl|(exfalso;subst_vars;simp at f;done)|(exfalso;have:=Int.mul_pos_of_neg_of_neg b d;omega)|(exfalso;have:=Int.mul_neg_of_neg_of_pos b d;omega)|(exfalso;have:=Int.mul_neg_of_pos_of_neg b d;omega)|(exfalso;have:=Int.mul_pos b d;omega)
theorem rQ(x y:Int)(hx:zl x)(hy:zl y):FS 105 [.agg (zZ x),.agg (zZ y)] (.agg (zZ (x* y))):=by
 have hlx:=yP hx;have hly:=yP hy;have A:=dd x.natAbs;have t:=dd y.natAbs;obtain⟨a,ha⟩:∃a,a=x.natAbs:=⟨_,rfl⟩;obtain⟨b,hb⟩:∃b,b=y.natAbs:=⟨_,rfl⟩;have va:=bG (b:=UB) (by decide) a;have vb:=bG (b:=UB) (by decide) b
 have S: -9223372036854775808≤sgZ x* sgZ y∧sgZ x* sgZ y≤9223372036854775807:=by
  rcases du x with⟨h,_⟩|⟨h,_⟩|⟨h,_⟩<;> rcases du y with⟨h',_⟩|⟨h',_⟩|⟨h',_⟩<;> rw[h,h']<;> decide
 refine f_c Tryz.func105 ?_;subst ha hb;refine r_z 3 ?_;refine r_z 9 ?_;refine ae (r_z 5 ?_);refine aH (zmS x y) (fun v=>ZmI x.natAbs y.natAbs v∧v.2=(av UB x.natAbs).length) ?_ ?_;refine am (aD (zmS x y) (fun v=>(av UB x.natAbs).length- v.2) (ZmI x.natAbs y.natAbs) (List.replicate ((av UB x.natAbs).length+(av UB y.natAbs).length) 0,0) ⟨by simp,by simp,?_,by simp[ta,ofD],?_⟩ ?_ ?_);intro d K;simp at K;rw[K.2];decide;intro j _ J;simp at J;simp[J];simp only[zmS.eq_1];refine s_x [(1,2),(2,3),(3,4),(4,5)] (fun hs=>?_) (fun hs=>?_) ?_
 ·repeat' (first|exact aS|refine az rfl ?_ ?_|exact bm|(refine Cv.loE hs ?_ (ah _);first|rfl|(simp[i64,u64,u32,bln,A,t];done)|(simp[i64,u64,u32,bln,A,t]<;> omega)))
 ·repeat' (first|exact aI|refine h_c ?_ ?_|exact cu|(refine aT hs ?_ (dR _);first|(simp[qe,oF,j6,A,t];done)|(simp[iE,i64,ofV,A,t];done))|refine aG ?_|exact aw|refine ai ?_ ?_|exact bm|(refine Cv.loE hs ?_ (ah _);first|(simp[i64,u64,u32,bln,A,t];done)|(simp[i64,u64,u32,bln,A,t]<;> omega)))
 ·repeat' (first|exact ShrL.nil|refine ShrL.cons rfl rfl rfl rfl (by first|rfl|(simp;done)|(simp[A,t]<;> omega)) ?_)
 rintro⟨o,i⟩ ⟨r,E,n,g,s⟩;simp only at r E n g s;rw[zmS.eq_1];refine ae (r_z 2 ?_);refine aq rfl (fun h=>?_) (fun h=>?_);have T:i< (av UB x.natAbs).length:=by have:=of_decide_eq_true h;omega
 obtain⟨u,U⟩:∃u,(av UB x.natAbs)[i]?=some u:=⟨_,List.getElem?_eq_getElem T⟩;have hu1:u< 32768:=cV (by decide) U
 have M:(iE (zd x.natAbs))[(((zd x.natAbs).length:Int)- 1- i).toNat]?=some [i64 u]:=by
  rw[show(((zd x.natAbs).length:Int)- 1- i).toNat=(av UB x.natAbs).length- 1- i by omega];exact lC (yQ U)
 refine an (ae (am (r_z 1 ?_)));refine ae (r_z 5 ?_);refine aH (zmT x y i) (fun v=>ZmJ x.natAbs y.natAbs i u v∧v.2.1=(av UB y.natAbs).length) ?_ ?_;refine am (aD (zmT x y i) (fun v=>(av UB y.natAbs).length- v.2.1) (ZmJ x.natAbs y.natAbs i u) (o,0,0) ⟨r,by simp,n,(show 0< UB by decide),by simp[g,ofD],s⟩ ?_ ?_);simp only[zmT.eq_1];exact s_e [];rintro⟨q,k,c⟩ ⟨p,D,e,l,m,f⟩;simp only at p D e l m f;rw[zmT.eq_1];refine ae (r_z 2 ?_);refine aq rfl (fun h=>?_) (fun h=>?_);have L:k< (av UB y.natAbs).length:=by have:=of_decide_eq_true h;omega
 obtain⟨v,hv⟩:∃v,(av UB y.natAbs)[k]?=some v:=⟨_,List.getElem?_eq_getElem L⟩;have Z:v< 32768:=cV (by decide) hv
 have N:(iE (zd y.natAbs))[(((zd y.natAbs).length:Int)- 1- k).toNat]?=some [i64 v]:=by
  rw[show(((zd y.natAbs).length:Int)- 1- k).toNat=(av UB y.natAbs).length- 1- k by omega];exact lC (yQ hv)
 obtain⟨d,K⟩:∃d,q[i+k]?=some d:=⟨_,List.getElem?_eq_getElem (by omega)⟩;have hd1:d< 32768:=e d (List.mem_of_getElem? K);have R:c< 32768:=l;have hidx:(((zd x.natAbs).length:Int)- 1- i+(((zd y.natAbs).length:Int)- 1- k)+1).toNat=q.length- 1- (i+k):=by omega
 have hg:(iE q.reverse)[0+(((zd x.natAbs).length:Int)- 1- i+(((zd y.natAbs).length:Int)- 1- k)+1).toNat]?=some [i64 d]:=by rw[hidx,Nat.zero_add];exact lC (EN K)
 have C:∀w:Nat,(iE q.reverse).set (0+(((zd x.natAbs).length:Int)- 1- i+(((zd y.natAbs).length:Int)- 1- k)+1).toNat) [i64 w]=iE (q.set (i+k) w).reverse:=by intro w;rw[hidx,Nat.zero_add,qe,EM (by omega)]
 have W:u* v≤32767* 32767:=Nat.mul_le_mul (by omega) (by omega);have F:(u:Int) * v=((u* v:Nat):Int):=by push_cast;rfl
 refine an ?_;have Y:0≤(u:Int) * v:=Int.mul_nonneg (by omega) (by omega);refine ae (am (ae (r_d ba 22 ?_)));refine a_5 ?_;refine ci (.index_l rfl rfl (by omega) (by omega) te_47.h) rfl rfl ?_;refine ci (.load_l1 rfl rfl hg TG.h rfl) rfl rfl ?_;refine a_3 ?_;refine i_x M ?_;refine l_1 M ?_;refine a_3 ?_;refine i_x N ?_;refine l_1 N ?_;refine a_5 ?_;refine au (n_k ?_);refine s_r 9 ?_;refine a_8 ?_;refine fY (.store rfl rfl hg rfl rfl rfl TS.h (nle rfl)) ?_;refine au ?_;refine r_m 3 ?_;refine a_z ?_;refine r_m 3 ?_;refine a_z ?_;have hm:((d:Int)+(u:Int) * v+c) % 32768=(((d+u* v+c) % 32768:Nat):Int):=by rw[F];omega
 have X:((d:Int)+(u:Int) * v+c) / 32768=(((d+u* v+c) / 32768:Nat):Int):=by rw[F];omega
 refine⟨(q.set (i+k) ((d+u* v+c) % 32768),k+1,(d+u* v+c) / 32768),by simp;omega,⟨by simp[p],by simp;omega,uO e (Nat.mod_lt _ (by decide)),?_,?_,?_⟩,?_⟩;show _< 32768;simp only;omega;simp only;have e1:=rf UB ((d+u* v+c) % 32768) K;have e2:=Nat.mod_add_div (d+u* v+c) 32768
 have e3:UB^ (i+k) * ((d+u* v+c) % 32768)+UB^ (i+(k+1)) * ((d+u* v+c) / 32768)=UB^ (i+k) * d+UB^ (i+k) * (u* v)+UB^ (i+k) * c:=by
  rw[←Nat.add_assoc i k 1,Nat.pow_succ,Nat.mul_assoc,←Nat.mul_add,show UB* ((d+u* v+c) / 32768)=32768* ((d+u* v+c) / 32768) from rfl,e2,Nat.mul_add,Nat.mul_add]
 have e4:UB^ i* u* ofD UB ((av UB y.natAbs).take (k+1))=UB^ i* u* ofD UB ((av UB y.natAbs).take k)+UB^ (i+k) * (u* v):=by
  rw[dc _ hv,Nat.mul_add];congr 1;rw[Nat.pow_add];simp only[Nat.mul_assoc,Nat.mul_left_comm,Nat.mul_comm]
 rw[e4];omega;intro j J G;rw[List.getElem?_set_ne (by omega)];exact f j J (by simpa using G);simp only[zmT.eq_1];have B:=C ((d+u* v+c) % 32768);rw[←hm] at B;refine s_x [] (fun hs=>?_) (fun hs=>?_) ?_
 ·repeat' (first|exact aS|refine az rfl ?_ ?_|exact Cv.loE hs (congrArg (fun z=>AV.v (.int .i64 z)) X) (ah _)|exact bm)
 ·repeat' (first|exact aI|refine h_c ?_ ?_|exact aT hs B (dR _)|exact cu|refine aG ?_|exact aw|refine ai ?_ ?_|exact Cv.loE hs (congrArg (fun z=>AV.v (.int .i64 z)) X) (ah _)|exact bm)
 ·repeat' (first|exact ShrL.nil|refine ShrL.cons rfl rfl rfl rfl (by first|(exact congrArg List.length B)|rfl|(simp;done)|(simp <;> omega)) ?_)
 have O:k=(av UB y.natAbs).length:=by have:=of_decide_eq_false h;omega
 refine aA ⟨(q,k,c),⟨⟨p,D,e,l,m,f⟩,O⟩,?_⟩;simp only[zmT.eq_1];exact s_e [];rintro⟨q,k,c⟩ ⟨⟨p,D,e,l,m,f⟩,O⟩;simp only at p D e l m f O;subst O;have R:c< 32768:=l;have V:=f (i+(av UB y.natAbs).length) (Nat.le_refl _) (by omega);have hidx:(((zd x.natAbs).length:Int)- 1- i).toNat=q.length- 1- (i+(av UB y.natAbs).length):=by omega
 have hg:(iE q.reverse)[0+(((zd x.natAbs).length:Int)- 1- i).toNat]?=some [i64 0]:=by rw[hidx,Nat.zero_add];exact lC (EN V)
 have C:(iE q.reverse).set (0+(((zd x.natAbs).length:Int)- 1- i).toNat) [i64 c]=iE (q.set (i+(av UB y.natAbs).length) c).reverse:=by rw[hidx,Nat.zero_add,qe,EM (by omega)]
 rw[List.take_length,vb] at m;rw[zmT.eq_1];refine r_m 5 ?_;refine a_4 ?_;refine fY (.store rfl rfl hg rfl rfl rfl TS.h (nle rfl)) ?_;refine au ?_;refine r_m 3 ?_;refine a_z ?_;refine⟨(q.set (i+(av UB y.natAbs).length) c,i+1),by simp;omega,⟨by simp[p],by simp;omega,uO e l,?_,?_⟩,?_⟩;simp only;have e1:=rf UB c V;rw[dc _ U,Nat.add_mul,←m];omega;intro j J G;rw[List.getElem?_set_ne (by simp only at J;omega)];exact f j (by simp only at J;omega) (by simpa using G);simp only[zmS.eq_1];refine s_x [] (fun hs=>eA) (fun hs=>?_) e_39
 ·repeat' (first|exact aI|refine h_c ?_ ?_|refine aT hs C (dR _)|exact cu)
 have Q:i=(av UB x.natAbs).length:=by have:=of_decide_eq_false h;omega
 refine aA ⟨(o,i),⟨⟨r,E,n,g,s⟩,Q⟩,?_⟩;simp only[zmS.eq_1];exact s_e [];rintro⟨o,i⟩ ⟨⟨r,E,n,g,s⟩,Q⟩;simp only at r E n g s Q;subst Q;rw[List.take_length,va] at g;rw[zmS.eq_1];have hol:o.length=(zd x.natAbs).length+(zd y.natAbs).length:=by omega
 have hw:=lc (sgZ x* sgZ y) o.reverse (x* y) (by simp;omega) (fun d h=>n d (List.mem_reverse.1 h)) (by unfold hv;rw[List.reverse_reverse,g,Int.natAbs_mul]) (fun _=>(sgZ_mul x y).symm);have H:((iE o.reverse).drop 0).take ((zd x.natAbs).length+(zd y.natAbs).length)=iE o.reverse:=by rw[List.drop_zero,List.take_of_length_le (by simp;omega)]
 refine s_r 8 ?_;refine a_4 ?_;refine o_0 (.bin rfl rfl (xd S)) ?_;refine a_1 ?_;refine o_1 (.callS1 rfl rfl rfl (.keep (.shut rfl d_n (.nil))) rfl ((by rw[H];exact hw))) ?_;refine a_z ?_;exact ak (c_e (dh _))
theorem GE{b:Nat}(hb:1< b):∀(j n:Nat),(av b n)[j]?.getD 0=n/ b^ j % b:=by
 intro j
 induction j with
 |zero=>
  intro n;rcases Nat.eq_zero_or_pos n with rfl|a
  rw[cP];simp;rw[fU hb a];simp
 |succ j c=>
  intro n;rcases Nat.eq_zero_or_pos n with rfl|a
  rw[cP];simp;rw[fU hb a,List.getElem?_cons_succ,c,Nat.div_div_eq_div_mul,Nat.pow_succ,Nat.mul_comm b]
def DS(n:Nat)(long:Nat)(k:Nat):Nat→AState
 |i=>⟨[(0,.arr (iE (zd n))),(1,i64 long),(2,i64 k),(7,i64 (n/ UB^ (long- i):Nat)),(8,i64 i)],[],1,24⟩
theorem rK(n long k:Nat)(hk:k≤4)(hkl:k≤long)(hn:n< UB^ long)(hl:(zd n).length≤281474976710656)(hlo:long≤281474976710656):FS 219 [.arr (iE (zd n)),i64 long,i64 k] (i64 (n/ UB^ (long- k):Nat)):=by
 have bound:∀i,i≤k→n/ UB^ (long- i)< 1152921504606846976:=by
  intro i l
  have h1:n/ UB^ (long- i)< UB^ i:=by
   rw[Nat.div_lt_iff_lt_mul (Nat.pow_pos (by decide)),←Nat.pow_add,show i+(long- i)=long by omega];exact hn
  exact Nat.lt_of_lt_of_le h1 (Nat.pow_le_pow_right (n:=32768) (j:=4) (by decide) (by omega))
 refine f_c Tryz.func219 ?_;refine r_z 1 ?_;refine r_z 1 ?_;refine ae (r_z 1 ?_);refine aH (DS n long k) (fun i=>i=k) ?_ ?_;refine am (aD (DS n long k) (fun i=>k- i) (fun i=>i≤k) 0 (Nat.zero_le _) ?_ ?_);simp only[DS.eq_1];have e:AV.v (.int .i64 0)=i64 (n/ UB^ (long- 0):Nat):=by rw[Nat.sub_zero,Nat.div_eq_of_lt hn];rfl
 exact s_f [];intro i l;rw[DS.eq_1];refine ae (r_z 3 ?_);refine aq rfl (fun h=>?_) (fun h=>?_);have a:i< k:=by simpa using h
 have c:=ws (zd n) (long- 1- i) hl;unfold zd at c;rw[List.reverse_reverse,GE (by decide),show((long- 1- i:Nat):Int)=(long:Int)- 1- i by omega] at c;have e1:=Nat.div_add_mod (n/ UB^ (long- 1- i)) UB;rw[Nat.div_div_eq_div_mul,←Nat.pow_succ,show(long- 1- i).succ=long- i by omega] at e1;have hb:=bound (i+1) a;rw[show long- (i+1)=long- 1- i by omega] at hb;have b:n/ UB^ (long- 1- i) % UB< 32768:=Nat.mod_lt _ (by decide);obtain⟨V,d⟩:∃V,V=n/ UB^ (long- i):=⟨_,rfl⟩;obtain⟨D,g⟩:∃D,D=n/ UB^ (long- 1- i) % UB:=⟨_,rfl⟩;have m:V< 1152921504606846976:=by rw[d];exact bound i l
 rw[←d,←g] at e1;rw[←g] at c b;rw[←d];have p:32768* V+D=n/ UB^ (long- 1- i):=e1
 have e2:(V:Int) * 32768+D=((n/ UB^ (long- (i+1)):Nat):Int):=by
  rw[show long- (i+1)=long- 1- i by omega,←p];omega
 have o:V* 32768+D< 1152921504606846976:=by omega
 refine an (ae (am (r_m 10 ?_)));refine c_s (c) ?_;refine a_z ?_;refine r_m 3 ?_;refine a_z ?_;refine⟨i+1,by omega,a,?_⟩;simp only[DS.eq_1];have:=(congrArg (fun z=>AV.v (.int .i64 z)) e2);exact s_f [];have f:i=k:=by simp at h;omega
 refine aA ⟨i,f,?_⟩;simp only[DS.eq_1];exact s_e [];rintro i rfl;rw[DS.eq_1];refine r_z 2 ?_;refine ak (aY rfl rfl (ah _))
def vD(D:Nat):Nat×Nat→AState
 |(R,k)=>⟨[(0,.arr (iE (zd R))),(1,.arr (iE (zd D))),(6,i64 k)],[],1,57⟩
theorem est_le{R D e:Nat}(he:0< e):R/ e/ (D/ e+1) * D≤R:=by
 have h1:R/ e/ (D/ e+1) * (D/ e+1)≤R/ e:=Nat.div_mul_le_self _ _;have b:R/ e* e≤R:=Nat.div_mul_le_self _ _
 have a:D< (D/ e+1) * e:=by
  have:=Nat.lt_mul_div_succ D he;rw[Nat.mul_comm];exact this
 have c:R/ e/ (D/ e+1) * D≤R/ e/ (D/ e+1) * ((D/ e+1) * e):=Nat.mul_le_mul_left _ (Nat.le_of_lt a)
 have d:R/ e/ (D/ e+1) * ((D/ e+1) * e)≤R/ e* e:=by
  rw[←Nat.mul_assoc];exact Nat.mul_le_mul_right _ h1
 omega
theorem zZ_pos{D:Nat}(h:0< D):zZ (D:Int)=[i64 1,.arr (iE (zd D))]:=by
 unfold zZ sgZ;rw[if_neg (by omega),if_neg (by omega),Int.natAbs_natCast]
theorem Iu(R D:Nat)(hD:0< D)(hR:R< UB* D)(hb:bl D≤4398046511104):FS 186 [.arr (iE (zd R)),.arr (iE (zd D))] (.tup [i64 (R/ D:Nat),.arr (iE (zd (R % D)))]):=by
 have Y:=dd R;have s:=dd D;have hlD:=b8 (b:=UB) (by decide) D;have hlR:=b8 (b:=UB) (by decide) R
 have hbR:bl R≤bl D+16:=by
  have h1:=dP (Nat.le_of_lt hR);have J:=jz UB D;have O:bl UB=16:=by decide
  omega
 obtain⟨n,u⟩:∃n,n=(zd D).length:=⟨_,rfl⟩
 have Z:1≤n:=by
  have:zd D≠[]:=fun h=>by have:=zd_eq_nil.1 h;omega
  have:=List.length_pos_iff.2 this;omega
 have i:D< UB^ n:=by
  have:=E8 (ky D);rwa[lW,←u] at this
 have g:R< UB^ (n+1):=by
  rw[Nat.pow_succ,Nat.mul_comm];exact Nat.lt_of_lt_of_le hR (Nat.mul_le_mul_left _ (Nat.le_of_lt i))
 have r:∀k,k* D≤R→k< UB:=by
  intro k H;refine Nat.lt_of_not_le fun h=>?_;have:=Nat.mul_le_mul_right D h;omega
 refine f_c Tryz.func186 ?_;refine r_z 2 ?_;refine r_z 1 ?_;refine r_z 3 ?_;refine bD (fun k:Nat=>vD D (R,k)) (fun k=>k* D≤R) ?_ ?_;refine r_z 4 ?_;refine aq rfl (fun h=>?_) (fun h=>?_);have K:(zd D).length≤(zd R).length:=by simpa using h
 refine r_z 2 ?_;refine aq rfl (fun h1=>?_) (fun h1=>?_);have O:n≤3:=by rw[u];have:=of_decide_eq_true h1;omega
 have d:=rK R (n+1) (n+1) (by omega) (Nat.le_refl _) g (by omega) (by omega);have f:=rK D n n (by omega) (Nat.le_refl _) i (by omega) (by omega);rw[Nat.sub_self,Nat.pow_zero,Nat.div_one] at d f;rw[u] at d f;have q:(R:Int) / D=(R/ D:Nat):=(Int.natCast_ediv _ _).symm;have Q:R< 1152921504606846976:=Nat.lt_of_lt_of_le g (Nat.pow_le_pow_right (n:=32768) (j:=4) (by decide) (by omega));refine r_m 12 ?_;refine c_s (d) ?_;refine c_s (f) ?_;refine a_z ?_;refine⟨R/ D,Nat.div_mul_le_self _ _,?_⟩;simp only[vD.eq_1];have:=(congrArg (fun z=>AV.v (.int .i64 z)) q);exact s_f [];have O:3< n:=by rw[u];have:=of_decide_eq_false h1;omega
 have d:=rK R (n+1) 4 (by omega) (by omega) g (by omega) (by omega);have f:=rK D n 3 (by omega) (by omega) i (by omega) (by omega);rw[show n+1- 4=n- 3 by omega] at d;obtain⟨e,w⟩:∃e,e=UB^ (n- 3):=⟨_,rfl⟩;have l:0< e:=by rw[w];exact Nat.pow_pos (by decide)
 rw[←w] at d f
 have C:R/ e< 1152921504606846976:=by
  rw[Nat.div_lt_iff_lt_mul l,w];have F:UB^ 4=1152921504606846976:=by decide
  have:UB^ (n+1)=1152921504606846976* UB^ (n- 3):=by
   rw[show n+1=4+(n- 3) by omega,Nat.pow_add,F]
  omega
 have x:D/ e< 35184372088832:=by
  rw[Nat.div_lt_iff_lt_mul l,w];have F:UB^ 3=35184372088832:=by decide
  have:UB^ n=35184372088832* UB^ (n- 3):=by
   rw[←F,←Nat.pow_add];congr 1;omega
  omega
 rw[u] at d f
 have q:((R/ e:Nat):Int) / (((D/ e:Nat):Int)+1)=(R/ e/ (D/ e+1):Nat):=by
  rw[show(((D/ e:Nat):Int)+1)=((D/ e+1:Nat):Int) by omega];exact(Int.natCast_ediv _ _).symm
 have a:=est_le (R:=R) (D:=D) l;obtain⟨A,hA⟩:∃A,A=R/ e:=⟨_,rfl⟩;obtain⟨B,hB⟩:∃B,B=D/ e:=⟨_,rfl⟩;rw[←hA] at d C q a;rw[←hB] at f x q a;refine r_m 10 ?_;refine c_s (d) ?_;refine c_s (f) ?_;refine a_z ?_;refine⟨A/ (B+1),a,?_⟩;simp only[vD.eq_1];have:=(congrArg (fun z=>AV.v (.int .i64 z)) q);exact s_f [];refine an ⟨0,by simp,?_⟩;simp only[vD.eq_1];exact s_e [];rintro k H;have G:=r k H;have N:k< 32768:=G;rw[vD.eq_1];refine bD (fun _:Unit=>vD D (R- k* D,k)) (fun _=>True) ?_ ?_;refine r_z 2 ?_;refine aq rfl (fun h1=>?_) (fun h1=>?_)
 have y:zl (k:Int):=by
  unfold zl;rw[Int.natAbs_natCast];have:=ez (n:=k) (k:=15) (by omega);omega
 have s:zl (D:Int):=by unfold zl;rw[Int.natAbs_natCast];omega
 have M:=rQ (k:Int) (D:Int) y s;rw[zZ_pos hD] at M;have o:((k:Int) * (D:Int)).natAbs=k* D:=by rw[←Int.natCast_mul,Int.natAbs_natCast]
 have X:bl (k* D)≤bl D+16:=by
  have:=dP H;omega
 have W:=b8 (b:=UB) (by decide) (k* D);have m:=rO R (k* D) (-1) (R- k* D) (.inr rfl) (by omega) (by omega) (by rw[dd];omega);rw[←o] at m;rw[o] at m;refine r_m 9 ?_;refine c_s (rR k (by omega)) ?_;refine c_s (M) ?_;refine ci (.field1 rfl TF.h TA.h rfl) rfl rfl ?_;refine o_0 (.call rfl rfl rfl ((by rw[o];exact m))) ?_;refine o_0 (.assign rfl) ?_;refine au ?_;refine⟨(),trivial,?_⟩;simp only[vD.eq_1];exact s_e [];have L:k=0:=by simp at h1;omega
 subst L;refine an ⟨(),trivial,?_⟩;simp only[vD.eq_1,Nat.zero_mul,Nat.sub_zero];exact s_e [];rintro _ _;rw[vD.eq_1];refine bD (vD D) (fun v=>v.1=R % D∧v.2=R/ D) ?_ ?_;refine am (aD (vD D) (fun v=>v.1) (fun v=>v.1+v.2* D=R∧v.1≤R) (R- k* D,k) ⟨by simp only;omega,by simp only;omega⟩ ?_ ?_);simp only[vD.eq_1];exact s_e [];rintro⟨c,t⟩ ⟨hv,a⟩;simp only at hv a;have T:bl c≤bl D+16:=by have:=dP a;omega
 have V:=b8 (b:=UB) (by decide) c;have U:=dd c;have E:=r t (by omega);have S:t< 32768:=E;rw[vD.eq_1];refine ae (r_c 4 (BG c D (by omega) (by omega)) ?_);refine a_z ?_;refine aq rfl (fun h=>?_) (fun h=>?_)
 have K:D≤c:=by
  have:=of_decide_eq_true h;unfold fm at this;split at this <;> omega
 refine an (am (r_c 4 (rO c D (-1) (c- D) (.inr rfl) (by omega) (by omega) (by omega)) ?_));refine a_z ?_;refine r_m 3 ?_;refine a_z ?_;refine⟨(c- D,t+1),by simp only;omega,⟨by simp only;rw[Nat.add_mul];omega,by simp only;omega⟩,?_⟩;simp only[vD.eq_1];exact s_e []
 have p:c< D:=by
  have:=of_decide_eq_false h;unfold fm at this;split at this;omega;split at this <;> omega
 refine aA ⟨(c,t),⟨?_,?_⟩,?_⟩;simp only;rw[←hv,Nat.add_mul_mod_self_right,Nat.mod_eq_of_lt p];simp only;rw[←hv,Nat.add_mul_div_right _ _ hD,Nat.div_eq_of_lt p,Nat.zero_add];simp only[vD.eq_1];exact s_e [];rintro⟨c,t⟩ ⟨h1,J⟩;simp only at h1 J;subst h1 J;rw[vD.eq_1];refine r_z 4 ?_;refine ak (Fin.many ⟨_,_,rfl,rfl,⟨_,_,rfl,rfl,rfl⟩⟩ (nle rfl) ?_);exact ai (ao ay (ah _)) (ai (ao ay (fF _)) aw)
def FQ(A D:Nat):List Nat→Nat→Nat→AState
 |[],R,i=>⟨[(0,.arr (iE (zd A))),(1,.arr (iE (zd D))),(6,.emp),(7,.arr (iE (zd R))),(8,i64 i)],[],1,54⟩
 |q::Q,R,i=>⟨[(0,.arr (iE (zd A))),(1,.arr (iE (zd D))),(6,.lsl 1 0 (Q.length+1) none 1),(7,.arr (iE (zd R))),(8,i64 i)],[(1,some ⟨3,1,iE (q::Q)⟩)],2,54⟩
theorem jK(A D R i:Nat):FQ A D [] R i=⟨[(0,.arr (iE (zd A))),(1,.arr (iE (zd D))),(6,.emp),(7,.arr (iE (zd R))),(8,i64 i)],[],1,54⟩:=rfl
theorem gS(A D:Nat)(q:Nat)(Q:List Nat)(R i:Nat):FQ A D (q::Q) R i=⟨[(0,.arr (iE (zd A))),(1,.arr (iE (zd D))),(6,.lsl 1 0 (Q.length+1) none 1),(7,.arr (iE (zd R))),(8,i64 i)],[(1,some ⟨3,1,iE (q::Q)⟩)],2,54⟩:=rfl
theorem Hx{P D R a:Nat}(hD:0< D)(hR:R=P % D)(ha:a< UB):R* UB+a< UB* D∧(P* UB+a) / D=P/ D* UB+(R* UB+a) / D∧(P* UB+a) % D=(R* UB+a) % D∧(R* UB+a) / D< UB:=by
 have h1:=Nat.div_add_mod P D;have b:=Nat.mod_lt P hD;rw[←hR] at h1 b
 have d:R* UB+a< UB* D:=by
  have:(R+1) * UB≤D* UB:=Nat.mul_le_mul_right _ b;rw[Nat.add_mul,Nat.one_mul,Nat.mul_comm D] at this;omega
 have c:P* UB+a=D* (P/ D* UB)+(R* UB+a):=by
  conv=>lhs;rw[←h1]
  rw[Nat.add_mul,Nat.mul_assoc,Nat.add_assoc]
 refine⟨d,?_,?_,?_⟩;rw[c,Nat.mul_add_div hD];rw[c,Nat.mul_add_mod];rw[Nat.div_lt_iff_lt_mul hD];exact d
theorem wj(A D:Nat)(hD:0< D)(hA:bl A≤4398046511104)(hb:bl D≤4398046511104):FS 151 [.arr (iE (zd A)),.arr (iE (zd D))] (.tup [.arr (iE (zd (A/ D))),.arr (iE (zd (A % D)))]):=by
 have S:=dd A;have G:=dd D;have Z:=b8 (b:=UB) (by decide) D;have N:=b8 (b:=UB) (by decide) A;obtain⟨n,X⟩:∃n,n=(zd D).length:=⟨_,rfl⟩
 have U:1≤n:=by
  have:zd D≠[]:=fun h=>by have:=zd_eq_nil.1 h;omega
  have:=List.length_pos_iff.2 this;omega
 have M:UB^ (n- 1)≤D:=by
  rcases ur (b:=UB) (n:=D) (by decide) with h|h
  rwa[←G,←X] at h;omega
 refine f_c Tryz.func151 ?_;refine r_z 2 ?_;refine ae (r_z 5 ?_);refine aq rfl (fun h=>?_) (fun h=>?_);have y:(zd A).length< (zd D).length:=by have:=of_decide_eq_true h;omega
 have B:A< D:=kj (b:=UB) (by decide) (by omega);refine r_z 3 ?_;refine ak (Fin.many ⟨_,_,rfl,rfl,⟨_,_,rfl,rfl,rfl⟩⟩ (nle rfl) ?_);rw[Nat.div_eq_of_lt B,Nat.mod_eq_of_lt B,qy];exact ai (Cv.emp _) (ai (ao ay (fF _)) aw);have F:n≤(zd A).length:=by have:=of_decide_eq_false h;omega
 refine an (r_z 1 ?_);obtain⟨z,s⟩:∃z,z=hv ((zd A).take (n- 1)):=⟨_,rfl⟩
 have t:z< D:=by
  have h1:=E8 (l:=(zd A).take (n- 1)) fun d g=>ky A d (List.mem_of_mem_take g);rw[←s] at h1;have h2:UB^ ((zd A).take (n- 1)).length≤UB^ (n- 1):=Nat.pow_le_pow_right (by decide) (by simp;omega);omega
 have r:=jM ((zd A).take (n- 1)) (by simp;omega);rw[gQ (fun d g=>ky A d (List.mem_of_mem_take g)),←s] at r;refine bD (fun _:Unit=>⟨[(0,.arr (iE (zd A))),(1,.arr (iE (zd D))),(6,.emp),(7,.arr (iE (zd z)))],[],1,54⟩) (fun _=>True) ?_ ?_;by_cases hn2:n=1;rw[hn2] at r;refine r_m 8 ?_;refine a_4 ?_;refine o_0 (.sa_h rfl rfl (h:=0) (by omega) (by simp) te_47.h (mO _)) ?_;refine o_0 (.append0 rfl rfl rfl te_47.h rfl rfl rfl (.arr (es:=[]) (by simp))) ?_;refine c_s (r) ?_;refine a_z ?_;refine⟨(),trivial,?_⟩;exact s_e []
 ·have E:(iE (zd A)).take (n- 1)≠[]:=fun h=>by
   have:=congrArg List.length h;rw[List.length_take,tj,List.length_nil] at this;omega
  have k:List.take ((iE (zd A)).take (n- 1)).length (List.drop 0 ((iE (zd A)).take (n- 1)))=iE ((zd A).take (n- 1)):=by rw[List.drop_zero,List.take_length,iE_take]
  refine r_m 8 ?_;refine a_4 ?_;refine o_0 (.sa_h rfl rfl (h:=n- 1) (by omega) (by simp;omega) te_47.h (mO _)) ?_;refine o_1 (.append_e rfl rfl rfl te_47.h rfl rfl rfl (.arr (fun e V=>mO _ e (List.mem_of_mem_take V))) (by first|assumption|(simp;done)) TZ.h rfl TB.h d_o (by first|(simp[maxLen];done)|(simp[maxLen];omega))) ?_;refine o_1 (.callS1 rfl rfl rfl (.shut rfl d_n (.nil)) rfl ((by rw[k];exact r))) ?_;refine a_z ?_;refine⟨(),trivial,?_⟩;exact s_e []
 rintro _ _;refine ae (r_z 4 ?_);refine aH (fun x:List Nat×Nat=>FQ A D x.1 x.2 (zd A).length) (fun x=>(∀d∈x.1,d< UB)∧hv x.1=A/ D∧x.2=A % D∧x.1.length≤(zd A).length) ?_ ?_;refine am (aD (fun x:List Nat×Nat×Nat=>FQ A D x.1 x.2.1 x.2.2) (fun x=>(zd A).length- x.2.2) (fun x=>x.2.2≤(zd A).length∧(∀d∈x.1,d< UB)∧hv x.1=hv ((zd A).take x.2.2) / D∧x.2.1=hv ((zd A).take x.2.2) % D∧x.1.length≤x.2.2) ([],z,n- 1) ⟨by simp only;omega,by simp,by simp only;rw[←s,Nat.div_eq_of_lt t];rfl,by simp only;rw[←s,Nat.mod_eq_of_lt t],by simp⟩ ?_ ?_);simp only[jK];exact s_e [];rintro⟨Q,R,i⟩ ⟨W,j,hQ,p,m⟩;simp only at W j hQ p m
 -- the head,whatever the quotient so far
 by_cases y:i< (zd A).length
 ·obtain⟨a,u⟩:∃a,(zd A)[i]?=some a:=⟨_,List.getElem?_eq_getElem y⟩
  have ha:a< UB:=ky A a (List.mem_of_getElem? u);have f:(iE (zd A))[((i:Nat):Int).toNat]?=some [i64 a]:=lC u;have o:hv ((zd A).take (i+1))=hv ((zd A).take i) * UB+a:=by rw[dt u,rz]
  obtain⟨P,O⟩:∃P,P=hv ((zd A).take i):=⟨_,rfl⟩;rw[←O] at hQ p o;obtain⟨s1,s2,J,K⟩:=Hx hD p ha;have H:R< D:=by rw[p];exact Nat.mod_lt _ hD
  have Y:=b8 (b:=UB) (by decide) R;have hbR:=dP (Nat.le_of_lt H);have T:=dd R;have C:=Iu (R* UB+a) D hD s1 hb;cases Q with
  |nil=>
   simp only[jK];refine ae (r_z 4 ?_);refine aq rfl (fun h=>?_) (fun h=>?_);rotate_left;exact absurd h (by simp;omega);refine an (ae (am (bD (fun _:Unit=>FQ A D [] (R* UB+a) i) (fun _=>True) ?_ ?_)));by_cases hR0:R=0;subst hR0;have c:=jM [a] (by simp);rw[gQ (by simpa using ha),show hv [a]=0* UB+a by rw[rA,wg];simp] at c;rw[qy];refine r_d ba 10 ?_;refine a_1 ?_;refine o_0 (.append0 rfl rfl rfl te_47.h rfl rfl rfl (.arr (es:=[]) (by simp))) ?_;refine a_2 ?_;refine i_x f ?_;refine l_1 f ?_;refine a_2 ?_;refine o_1 (.callS1 rfl rfl rfl (.shut rfl d_n (.nil)) rfl ((FSpec.argE c rfl))) ?_;refine a_1 ?_;refine au (n_k ?_);refine⟨(),trivial,?_⟩;simp only[jK];exact s_e []
   ·have E:iE (zd R)≠[]:=fun h=>by
     have h1:=congrArg List.length h;rw[tj,List.length_nil,List.length_eq_zero_iff] at h1;exact hR0 (zd_eq_nil.1 h1)
    have w:∀d∈zd R++[a],d< UB:=fun d g=>by
     rcases List.mem_append.1 g with g|g
     exact ky R d g;simp at g;rw[g];exact ha
    have c:=jM (zd R++[a]) (by simp;omega);rw[gQ w,rz,lW] at c;refine r_d ba 10 ?_;refine a_1 ?_;refine o_1 (.append_e rfl rfl rfl te_47.h rfl rfl rfl (.arr (mO _)) (by first|assumption|(simp;done)) TZ.h rfl TB.h d_o (by first|(simp[maxLen];done)|(simp[maxLen];omega))) ?_;refine a_2 ?_;refine i_x f ?_;refine l_1 f ?_;refine a_2 ?_;refine o_1 (.callS1 rfl rfl rfl (.shut rfl d_n (.nil)) rfl ((FSpec.argE c (by rw[List.drop_zero,List.take_of_length_le (by simp)];simp[iE,i64])))) ?_;refine a_1 ?_;refine au (n_k ?_);refine⟨(),trivial,?_⟩;simp only[jK];exact s_e []
   rintro _ _;simp only[jK];refine r_z 1 ?_;refine r_c 8 (C) ?_;refine a_z ?_;refine r_m 5 ?_;refine a_z ?_;refine r_m 3 ?_;refine a_z ?_;refine⟨([(R* UB+a) / D],(R* UB+a) % D,i+1),by simp only;omega,⟨by simp only;omega,by simpa using K,?_,?_,by simp⟩,?_⟩;simp only;rw[o,s2,←hQ,rA,wg];simp;simp only;rw[o,J];simp only[gS];exact s_e [(1,6)]
  |cons q Q=>
   simp only[gS];refine ae (r_z 4 ?_);refine aq rfl (fun h=>?_) (fun h=>?_);rotate_left;exact absurd h (by simp;omega);refine an (ae (am (bD (fun _:Unit=>FQ A D (q::Q) (R* UB+a) i) (fun _=>True) ?_ ?_)));by_cases hR0:R=0;subst hR0;have c:=jM [a] (by simp);rw[gQ (by simpa using ha),show hv [a]=0* UB+a by rw[rA,wg];simp] at c;rw[qy];refine r_d ba 10 ?_;refine a_1 ?_;refine o_0 (.append0 rfl rfl rfl te_47.h rfl rfl rfl (.arr (es:=[]) (by simp))) ?_;refine a_2 ?_;refine i_x f ?_;refine l_1 f ?_;refine a_2 ?_;refine o_1 (.callS1 rfl rfl rfl (.shut rfl d_n (.nil)) rfl ((FSpec.argE c rfl))) ?_;refine a_1 ?_;refine au (n_k ?_);refine⟨(),trivial,?_⟩;simp only[gS];exact s_e []
   ·have E:iE (zd R)≠[]:=fun h=>by
     have h1:=congrArg List.length h;rw[tj,List.length_nil,List.length_eq_zero_iff] at h1;exact hR0 (zd_eq_nil.1 h1)
    have w:∀d∈zd R++[a],d< UB:=fun d g=>by
     rcases List.mem_append.1 g with g|g
     exact ky R d g;simp at g;rw[g];exact ha
    have c:=jM (zd R++[a]) (by simp;omega);rw[gQ w,rz,lW] at c;refine r_d ba 10 ?_;refine a_1 ?_;refine o_1 (.append_e rfl rfl rfl te_47.h rfl rfl rfl (.arr (mO _)) (by first|assumption|(simp;done)) TZ.h rfl TB.h d_o (by first|(simp[maxLen];done)|(simp[maxLen];omega))) ?_;refine a_2 ?_;refine i_x f ?_;refine l_1 f ?_;refine a_2 ?_;refine o_1 (.callS1 rfl rfl rfl (.shut rfl d_n (.nil)) rfl ((FSpec.argE c (by rw[List.drop_zero,List.take_of_length_le (by simp)];simp[iE,i64])))) ?_;refine a_1 ?_;refine au (n_k ?_);refine⟨(),trivial,?_⟩;simp only[gS];exact s_e []
   rintro _ _;simp only[gS];refine r_z 1 ?_;refine r_c 8 (C) ?_;refine a_z ?_;have L:Q.length+1≤i:=by simpa using m
   refine r_m 5 ?_;refine a_z ?_;refine r_m 3 ?_;refine a_z ?_;refine⟨(q::(Q++[(R* UB+a) / D]),(R* UB+a) % D,i+1),by simp only;omega,⟨by simp only;omega,?_,?_,?_,by simp at m⊢;omega⟩,?_⟩;intro d g;rcases List.mem_append.1 (show d∈(q::Q)++[(R* UB+a) / D] from g) with g|g
   exact j d g;simp at g;rw[g];exact K;simp only;rw[o,s2,←hQ,←rz];rfl;simp only;rw[o,J];simp only[gS];have e:iE (q::Q)++List.take 1 (List.drop 0 [[i64 ((R* UB+a) / D:Nat)]])=iE (q::(Q++[(R* UB+a) / D])):=by simp[iE]
   exact s_x [(1,6)] (fun hs=>eA) (fun hs=>e_40) e_7
 have F:i=(zd A).length:=by omega
 subst F;rw[List.take_length,lW] at hQ p;cases Q with
 |nil=>
  simp only[jK];refine ae (r_z 4 ?_);refine aq rfl (fun h=>?_) (fun h=>?_);exact absurd h (by simp);refine aA ⟨([],R),⟨j,hQ,p,m⟩,?_⟩;simp only[jK];exact s_e []
 |cons q Q=>
  simp only[gS];refine ae (r_z 4 ?_);refine aq rfl (fun h=>?_) (fun h=>?_);exact absurd h (by simp);refine aA ⟨(q::Q,R),⟨j,hQ,p,m⟩,?_⟩;simp only[gS];exact s_e []
 rintro⟨Q,R⟩ ⟨j,hQ,p,m⟩;simp only at j hQ p m;have v:=jM Q (by omega);rw[gQ j,hQ] at v;subst p;cases Q with
 |nil=>
  simp only[jK];refine r_c 5 (v) ?_;refine a_z ?_;refine ak (Fin.many ⟨_,_,rfl,rfl,⟨_,_,rfl,rfl,rfl⟩⟩ (nle rfl) ?_);exact ai (ao ay (fF _)) (ai (ao ay (fF _)) aw)
 |cons q Q=>
  simp only[gS];have k:List.take (Q.length+1) (List.drop 0 (iE (q::Q)))=iE (q::Q):=by rw[List.drop_zero,List.take_of_length_le (by simp)]
  refine s_r 5 ?_;refine a_1 ?_;refine o_1 (.callS1 rfl rfl rfl (.shut rfl d_n (.nil)) rfl ((by rw[k];exact v))) ?_;refine a_z ?_;refine ak (Fin.many ⟨_,_,rfl,rfl,⟨_,_,rfl,rfl,rfl⟩⟩ (nle rfl) ?_);exact ai (ao ay (fF _)) (ai (ao ay (fF _)) aw)
def zgS:Nat×Nat→AState
 |(p,q)=>⟨[(4,.lptr 1 0 0),(5,.arr (iE (zd p))),(6,.arr (iE (zd q)))],[(1,some ⟨49,2,[[i64 0,.emp]]⟩)],2,48⟩
theorem nv(p:Nat)(q:Nat):zgS (p,q)=⟨[(4,.lptr 1 0 0),(5,.arr (iE (zd p))),(6,.arr (iE (zd q)))],[(1,some ⟨49,2,[[i64 0,.emp]]⟩)],2,48⟩:=rfl
def zgW:Nat×Nat→AState
 |(x,y)=>⟨[(4,.lptr 1 0 0),(7,i64 x),(8,i64 y)],[(1,some ⟨49,2,[[i64 0,.emp]]⟩)],2,48⟩
theorem vf(x:Nat)(y:Nat):zgW (x,y)=⟨[(4,.lptr 1 0 0),(7,i64 x),(8,i64 y)],[(1,some ⟨49,2,[[i64 0,.emp]]⟩)],2,48⟩:=rfl
theorem xw(p q:Nat):Nat.gcd q (p % q)=Nat.gcd p q:=by
 rw[Nat.gcd_comm p q,Nat.gcd_rec q p,Nat.gcd_comm]
theorem xu{n:Nat}(h:(zd n).length≤4):n< 1152921504606846976:=by
 have h1:=E8 (ky n);rw[lW] at h1;exact Nat.lt_of_lt_of_le h1 (Nat.pow_le_pow_right (n:=32768) (j:=4) (by decide) h)
theorem fs_ZGcd(x y:Int)(hx:bl x.natAbs≤4398046511104)(hy:bl y.natAbs≤4398046511104):FS 150 [.agg (zZ x),.agg (zZ y)] (.agg (zZ (Nat.gcd x.natAbs y.natAbs:Nat))):=by
 refine f_c Tryz.func150 ?_;refine r_z 3 ?_;refine ae (r_d ba 6 ?_);refine a_6 ?_;refine au (n_k ?_);refine bD (fun p:Nat=>zgS (p,0)) (fun p=>p=Nat.gcd x.natAbs y.natAbs) ?_ ?_;refine am (aD zgS (fun v=>v.2) (fun v=>Nat.gcd v.1 v.2=Nat.gcd x.natAbs y.natAbs∧bl v.1≤4398046511104∧bl v.2≤4398046511104) (x.natAbs,y.natAbs) ⟨rfl,hx,hy⟩ ?_ ?_);simp only[nv];exact s_e [(1,4)];rintro⟨p,q⟩ ⟨hg,hp,j⟩;simp only at hg hp j;have k:=dd p;have s:=dd q;have m:=b8 (b:=UB) (by decide) p;have r:=b8 (b:=UB) (by decide) q;rw[nv];refine ae (r_z 3 ?_);refine aq rfl (fun h=>?_) (fun h=>?_)
 have a:0< q:=by
  rcases Nat.eq_zero_or_pos q with e|e
  subst e;rw[qy] at h;simp at h;exact e
 refine an (am (bD (fun _:Unit=>zgS (p,q)) (fun _=>True) ?_ ?_));by_cases hl:(zd p).length≤4;by_cases hl2:(zd q).length≤4;have i:=xu hl;have l:=xu hl2;have g:=Bz (zd p) hl (ky p);have f:=Bz (zd q) hl2 (ky q);rw[lW] at g f;refine s_r 8 ?_;refine a_4 ?_;refine y_g rfl (by simp;omega) (.move rfl) ?_;refine y_g rfl (by simp;omega) (.lenI rfl rfl rfl rfl te_47.h) ?_;refine y_g rfl (by simp;omega) (.bin rfl rfl dH) ?_;refine o_0 (.pickT rfl (by simp;omega) rfl) ?_;refine au ?_;refine aq rfl (fun h1=>?_) (fun h1=>?_);refine r_c 6 (g) ?_;refine c_s (f) ?_;refine a_z ?_;refine bD (fun v:Nat=>zgW (v,0)) (fun v=>v=Nat.gcd x.natAbs y.natAbs) ?_ ?_;refine am (aD zgW (fun v=>v.2) (fun v=>Nat.gcd v.1 v.2=Nat.gcd x.natAbs y.natAbs∧v.1< 1152921504606846976∧v.2< 1152921504606846976) (p,q) ⟨hg,i,l⟩ ?_ ?_);simp only[vf];exact s_e [];rintro⟨u,v⟩ ⟨d,t,hv⟩;simp only at d t hv;rw[vf];refine ae (r_z 2 ?_);refine aq rfl (fun n=>?_) (fun n=>?_);have c:0< v:=by simp at n;omega
 refine an (am (r_d ba 6 ?_));refine a_6 ?_;refine au (n_k ?_);refine⟨(v,u % v),Nat.mod_lt _ c,⟨(xw u v).trans d,hv,Nat.lt_trans (Nat.mod_lt _ c) hv⟩,?_⟩;simp only[vf];exact s_e [];have c:v=0:=by simp at n;omega
 subst c;refine aA ⟨u,by simpa using d,?_⟩;simp only[vf];exact s_e [];rintro v hv;rw[vf]
 have o:v< 1152921504606846976:=by
  rw[hv,←hg];have h1:Nat.gcd p q≤q:=Nat.gcd_le_right _ a;omega
 refine r_c 3 (rR v (by omega)) ?_;refine a_z ?_;refine ak (dV rfl rfl rfl TG.h TS.h (nle rfl) ?_ ?_);rw[←hv];rfl;exact dh _;exact absurd h1 (by simp;omega);refine s_r 8 ?_;refine a_4 ?_;refine y_g rfl (by simp;omega) (.move rfl) ?_;refine y_g rfl (by simp;omega) (.lenI rfl rfl rfl rfl te_47.h) ?_;refine y_g rfl (by simp;omega) (.bin rfl rfl dH) ?_;refine o_0 (.pickT rfl (by simp;omega) rfl) ?_;refine au ?_;refine aq rfl (fun h=>?_) (fun _=>an ⟨(),trivial,?_⟩);exact absurd h (by simp;omega);simp only[nv];exact s_e [];refine s_r 8 ?_;refine a_4 ?_;refine n_g rfl (by simp;omega) ?_;refine n_g rfl (by simp;omega) ?_;refine n_g rfl (by simp;omega) ?_;refine o_0 (.pickF rfl (by simp;omega) rfl) ?_;refine au ?_;refine aq rfl (fun h=>?_) (fun _=>an ⟨(),trivial,?_⟩);cases h;simp only[nv];exact s_e [];rintro _ _;rw[nv];refine r_c 8 (wj p q a hp j) ?_;refine a_z ?_;refine r_m 4 ?_;refine a_z ?_;refine⟨(q,p % q),Nat.mod_lt _ a,⟨(xw p q).trans hg,j,?_⟩,?_⟩;have:=dP (Nat.le_of_lt (Nat.mod_lt p a));simp only;omega;simp only[nv];exact s_e []
 have a:q=0:=by
  refine zd_eq_nil.1 (List.length_eq_zero_iff.1 ?_);have:=of_decide_eq_false h;omega
 subst a;refine aA ⟨p,by simpa using hg,?_⟩;simp only[nv];exact s_e [];rintro p hp;rw[nv]
 have w:bl p≤4398046511104:=by
  rw[hp];rcases Nat.eq_zero_or_pos y.natAbs with e|e
  rw[e,Nat.gcd_zero_right];exact hx;exact Nat.le_trans (dP (Nat.gcd_le_right _ e)) hy
 have k:=dd p;have m:=b8 (b:=UB) (by decide) p;refine r_c 3 (lc 1 (zd p) (p:Int) (by omega) (ky p) (by rw[lW,Int.natAbs_natCast]) (fun h=>by unfold sgZ;rw[if_neg h,if_neg (by omega)])) ?_;refine a_z ?_;refine ak (dV rfl rfl rfl TG.h TS.h (nle rfl) ?_ ?_);rw[←hp];rfl;exact dh _
end Go.Proofs.YtkhclghbcicapaaGreatDoor
