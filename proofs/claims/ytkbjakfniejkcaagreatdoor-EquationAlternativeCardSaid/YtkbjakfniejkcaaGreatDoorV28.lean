/- Part V28 of the proof. -/
import Derived.Test.YtkbjakfniejkcaaGreatDoorV27
set_option linter.all false
namespace Go.Proofs.YtkbjakfniejkcaaGreatDoor
open Go.Abs
set_option maxRecDepth 20000
theorem EY{o:Ln}{j d:Nat}(h:o[j]?=some d):o.reverse[o.length- 1- j]?=some d:=by
 have a:j< o.length:=(List.getElem?_eq_some_iff.1 h).1;rw[List.getElem?_reverse (by omega),show o.length- 1- (o.length- 1- j)=j by omega];exact h
theorem EX{o:Ln}{j v:Nat}(hj:j< o.length):o.reverse.set (o.length- 1- j) v=(o.set j v).reverse:=by
 apply List.ext_getElem?;intro i;by_cases hi:i< o.length;rw[List.getElem?_reverse (by simpa using hi),List.getElem?_set,List.getElem?_set,List.length_reverse,List.length_set];by_cases h:o.length- 1- j=i;rw[if_pos h,if_pos (by omega),if_pos (by omega),if_pos (by omega)];rw[if_neg h,if_neg (by omega),List.getElem?_reverse hi];rw[List.getElem?_eq_none (by simpa using hi),List.getElem?_eq_none (by simpa using hi)]
def zmS(x:Int)(y:Int):Ln×Nat->AState
 |(o,i)=>⟨[(2,.lptr 1 0 0),(3,.lptr 2 0 0),(4,.lptr 3 0 0),(5,.lsl 4 0 ((zd x.natAbs).length+(zd y.natAbs).length) (some ((zd x.natAbs).length+(zd y.natAbs).length)) 1),(6,i64 (((zd x.natAbs).length:Int)- 1- i))],
  [(1,some ⟨79,2,[zZ x]⟩),(2,some ⟨79,2,[zZ y]⟩),(3,some ⟨79,2,[[i64 0,.emp]]⟩),(4,some ⟨3,1,iE o.reverse⟩)],5,76⟩
def zmT(x:Int)(y:Int)(i:Nat):Ln×Nat×Nat->AState
 |(o,k,c)=>⟨[(2,.lptr 1 0 0),(3,.lptr 2 0 0),(4,.lptr 3 0 0),(5,.lsl 4 0 ((zd x.natAbs).length+(zd y.natAbs).length) (some ((zd x.natAbs).length+(zd y.natAbs).length)) 1),(6,i64 (((zd x.natAbs).length:Int)- 1- i)),(7,i64 c),(8,i64 (((zd y.natAbs).length:Int)- 1- k))],
  [(1,some ⟨79,2,[zZ x]⟩),(2,some ⟨79,2,[zZ y]⟩),(3,some ⟨79,2,[[i64 0,.emp]]⟩),(4,some ⟨3,1,iE o.reverse⟩)],5,76⟩
structure ZmI (a b:Nat)(x:Ln×Nat):Prop where
 len:x.1.length=(aw UB a).length+(aw UB b).length
 le:x.2<=(aw UB a).length
 dig:∀d∈x.1,d< UB
 val:ofD UB x.1=ofD UB ((aw UB a).take x.2) * b
 zer:∀j,x.2+(aw UB b).length<=j->j< x.1.length->x.1[j]?=some 0
structure ZmJ (a b i v:Nat)(x:Ln×Nat×Nat):Prop where
 len:x.1.length=(aw UB a).length+(aw UB b).length
 le:x.2.1<=(aw UB b).length
 dig:∀d∈x.1,d< UB
 car:x.2.2< UB
 val:ofD UB x.1+UB^ (i+x.2.1) * x.2.2=ofD UB ((aw UB a).take i) * b+UB^ i* v* ofD UB ((aw UB b).take x.2.1)
 zer:∀j,i+(aw UB b).length<=j->j< x.1.length->x.1[j]?=some 0
theorem sgZ_mul(x y:Int):sgZ (x* y)=sgZ x* sgZ y:=by
 rcases dm x with⟨a,b⟩|⟨a,b⟩|⟨a,b⟩<;> rcases dm y with⟨c,d⟩|⟨c,d⟩|⟨c,d⟩<;> rw[a,c]<;> rcases dm (x* y) with⟨e,f⟩|⟨e,f⟩|⟨e,f⟩<;> rw[e]<;> first|rfl|(exfalso;subst_vars;simp at f;done)|(exfalso;have:=Int.mul_pos_of_neg_of_neg b d;omega)|(exfalso;have:=Int.mul_neg_of_neg_of_pos b d;omega)|(exfalso;have:=Int.mul_neg_of_pos_of_neg b d;omega)|(exfalso;have:=Int.mul_pos b d;omega)
theorem qP(x y:Int)(hx:zl x)(hy:zl y):FS 128 [.agg (zZ x),.agg (zZ y)] (.agg (zZ (x* y))):=by
 have Z:=yi hx;have hly:=yi hy;have A:=c5 x.natAbs;have B:=c5 y.natAbs;obtain⟨a,ha⟩:∃a,a=x.natAbs:=⟨_,rfl⟩;obtain⟨b,hb⟩:∃b,b=y.natAbs:=⟨_,rfl⟩;have va:=bU (b:=UB) (by decide) a;have vb:=bU (b:=UB) (by decide) b
 have T: -9223372036854775808<=sgZ x* sgZ y/\sgZ x* sgZ y<=9223372036854775807:=by
  rcases dm x with⟨h,_⟩|⟨h,_⟩|⟨h,_⟩<;> rcases dm y with⟨h',_⟩|⟨h',_⟩|⟨h',_⟩<;> rw[h,h']<;> decide
 refine f_c Tryz.func128 ?_;subst ha hb;refine r_z 3 ?_;refine r_z 9 ?_;refine ae (r_z 5 ?_);refine aF (zmS x y) (fun v=>ZmI x.natAbs y.natAbs v/\v.2=(aw UB x.natAbs).length) ?_ ?_;refine aj (aC (zmS x y) (fun v=>(aw UB x.natAbs).length- v.2) (ZmI x.natAbs y.natAbs) (List.replicate ((aw UB x.natAbs).length+(aw UB y.natAbs).length) 0,0) ⟨by simp,by simp,?_,by simp[rR,ofD],?_⟩ ?_ ?_);intro d J;simp at J;rw[J.2];decide;intro j _ F;simp at F;simp[F];simp only[zmS.eq_1];refine s_x [(1,2),(2,3),(3,4),(4,5)] (fun hs=>?_) (fun hs=>?_) ?_
 ·repeat' (first|exact aP|refine ay rfl ?_ ?_|exact aX|(refine Cv.loE hs ?_ (ag _);first|rfl|(simp[i64,u64,u32,bln,A,B];done)|(simp[i64,u64,u32,bln,A,B]<;> omega)))
 ·repeat' (first|exact aE|refine h_c ?_ ?_|exact bZ|(refine aI hs ?_ (dK _);first|(simp[pt,oK,jI,A,B];done)|(simp[iE,i64,ofV,A,B];done))|refine aD ?_|exact av|refine ah ?_ ?_|exact aX|(refine Cv.loE hs ?_ (ag _);first|(simp[i64,u64,u32,bln,A,B];done)|(simp[i64,u64,u32,bln,A,B]<;> omega)))
 ·repeat' (first|exact ShrL.nil|refine ShrL.cons rfl rfl rfl rfl (by first|rfl|(simp;done)|(simp[A,B]<;> omega)) ?_)
 rintro⟨o,i⟩ ⟨r,D,p,g,s⟩;simp only at r D p g s;rw[zmS.eq_1];refine ae (r_z 2 ?_);refine au rfl (fun h=>?_) (fun h=>?_);have R:i< (aw UB x.natAbs).length:=by have:=of_decide_eq_true h;omega
 obtain⟨u,U⟩:∃u,(aw UB x.natAbs)[i]?=some u:=⟨_,List.getElem?_eq_getElem R⟩;have hu1:u< 32768:=cO (by decide) U
 have L:(iE (zd x.natAbs))[(((zd x.natAbs).length:Int)- 1- i).toNat]?=some [i64 u]:=by
  rw[show(((zd x.natAbs).length:Int)- 1- i).toNat=(aw UB x.natAbs).length- 1- i by omega];exact kY (yj U)
 refine am (ae (aj (r_z 1 ?_)));refine ae (r_z 5 ?_);refine aF (zmT x y i) (fun v=>ZmJ x.natAbs y.natAbs i u v/\v.2.1=(aw UB y.natAbs).length) ?_ ?_;refine aj (aC (zmT x y i) (fun v=>(aw UB y.natAbs).length- v.2.1) (ZmJ x.natAbs y.natAbs i u) (o,0,0) ⟨r,by simp,p,(show 0< UB by decide),by simp[g,ofD],s⟩ ?_ ?_);simp only[zmT.eq_1];exact s_e [];rintro⟨q,k,c⟩ ⟨m,C,e,f,n,l⟩;simp only at m C e f n l;rw[zmT.eq_1];refine ae (r_z 2 ?_);refine au rfl (fun h=>?_) (fun h=>?_);have M:k< (aw UB y.natAbs).length:=by have:=of_decide_eq_true h;omega
 obtain⟨v,hv⟩:∃v,(aw UB y.natAbs)[k]?=some v:=⟨_,List.getElem?_eq_getElem M⟩;have hv1:v< 32768:=cO (by decide) hv
 have K:(iE (zd y.natAbs))[(((zd y.natAbs).length:Int)- 1- k).toNat]?=some [i64 v]:=by
  rw[show(((zd y.natAbs).length:Int)- 1- k).toNat=(aw UB y.natAbs).length- 1- k by omega];exact kY (yj hv)
 obtain⟨d,J⟩:∃d,q[i+k]?=some d:=⟨_,List.getElem?_eq_getElem (by omega)⟩;have hd1:d< 32768:=e d (List.mem_of_getElem? J);have S:c< 32768:=f;have hidx:(((zd x.natAbs).length:Int)- 1- i+(((zd y.natAbs).length:Int)- 1- k)+1).toNat=q.length- 1- (i+k):=by omega
 have N:(iE q.reverse)[0+(((zd x.natAbs).length:Int)- 1- i+(((zd y.natAbs).length:Int)- 1- k)+1).toNat]?=some [i64 d]:=by rw[hidx,Nat.zero_add];exact kY (EY J)
 have hset:∀w:Nat,(iE q.reverse).set (0+(((zd x.natAbs).length:Int)- 1- i+(((zd y.natAbs).length:Int)- 1- k)+1).toNat) [i64 w]=iE (q.set (i+k) w).reverse:=by intro w;rw[hidx,Nat.zero_add,pt,EX (by omega)]
 have Y:u* v<=32767* 32767:=Nat.mul_le_mul (by omega) (by omega);have E:(u:Int) * v=((u* v:Nat):Int):=by push_cast;rfl
 refine am ?_;have X:0<=(u:Int) * v:=Int.mul_nonneg (by omega) (by omega);refine ae (aj (ae (r_d a7 22 ?_)));refine a_5 ?_;refine aY (.index_l rfl rfl (by omega) (by omega) te_77.h) rfl rfl ?_;refine aY (.load_l1 rfl rfl N TG.h rfl) rfl rfl ?_;refine a_3 ?_;refine i_x L ?_;refine l_1 L ?_;refine a_3 ?_;refine i_x K ?_;refine l_1 K ?_;refine a_5 ?_;refine aq (n_k ?_);refine s_r 9 ?_;refine a_8 ?_;refine eF (.store rfl rfl N rfl rfl rfl TS.h (nle rfl)) ?_;refine aq ?_;refine r_m 3 ?_;refine a_z ?_;refine r_m 3 ?_;refine a_z ?_;have hm:((d:Int)+(u:Int) * v+c) % 32768=(((d+u* v+c) % 32768:Nat):Int):=by rw[E];omega
 have V:((d:Int)+(u:Int) * v+c) / 32768=(((d+u* v+c) / 32768:Nat):Int):=by rw[E];omega
 refine⟨(q.set (i+k) ((d+u* v+c) % 32768),k+1,(d+u* v+c) / 32768),by simp;omega,⟨by simp[m],by simp;omega,tN e (Nat.mod_lt _ (by decide)),?_,?_,?_⟩,?_⟩;show _< 32768;simp only;omega;simp only;have e1:=ql UB ((d+u* v+c) % 32768) J;have e2:=Nat.mod_add_div (d+u* v+c) 32768
 have e3:UB^ (i+k) * ((d+u* v+c) % 32768)+UB^ (i+(k+1)) * ((d+u* v+c) / 32768)=UB^ (i+k) * d+UB^ (i+k) * (u* v)+UB^ (i+k) * c:=by
  rw[<-Nat.add_assoc i k 1,Nat.pow_succ,Nat.mul_assoc,<-Nat.mul_add,show UB* ((d+u* v+c) / 32768)=32768* ((d+u* v+c) / 32768) from rfl,e2,Nat.mul_add,Nat.mul_add]
 have e4:UB^ i* u* ofD UB ((aw UB y.natAbs).take (k+1))=UB^ i* u* ofD UB ((aw UB y.natAbs).take k)+UB^ (i+k) * (u* v):=by
  rw[cX _ hv,Nat.mul_add];congr 1;rw[Nat.pow_add];simp only[Nat.mul_assoc,Nat.mul_left_comm,Nat.mul_comm]
 rw[e4];omega;intro j F H;rw[List.getElem?_set_ne (by omega)];exact l j F (by simpa using H);simp only[zmT.eq_1];have t:=hset ((d+u* v+c) % 32768);rw[<-hm] at t;refine s_x [] (fun hs=>?_) (fun hs=>?_) ?_
 ·repeat' (first|exact aP|refine ay rfl ?_ ?_|exact Cv.loE hs (congrArg (fun z=>AV.v (.int .i64 z)) V) (ag _)|exact aX)
 ·repeat' (first|exact aE|refine h_c ?_ ?_|exact aI hs t (dK _)|exact bZ|refine aD ?_|exact av|refine ah ?_ ?_|exact Cv.loE hs (congrArg (fun z=>AV.v (.int .i64 z)) V) (ag _)|exact aX)
 ·repeat' (first|exact ShrL.nil|refine ShrL.cons rfl rfl rfl rfl (by first|(exact congrArg List.length t)|rfl|(simp;done)|(simp <;> omega)) ?_)
 have O:k=(aw UB y.natAbs).length:=by have:=of_decide_eq_false h;omega
 refine ax ⟨(q,k,c),⟨⟨m,C,e,f,n,l⟩,O⟩,?_⟩;simp only[zmT.eq_1];exact s_e [];rintro⟨q,k,c⟩ ⟨⟨m,C,e,f,n,l⟩,O⟩;simp only at m C e f n l O;subst O;have S:c< 32768:=f;have W:=l (i+(aw UB y.natAbs).length) (Nat.le_refl _) (by omega);have hidx:(((zd x.natAbs).length:Int)- 1- i).toNat=q.length- 1- (i+(aw UB y.natAbs).length):=by omega
 have N:(iE q.reverse)[0+(((zd x.natAbs).length:Int)- 1- i).toNat]?=some [i64 0]:=by rw[hidx,Nat.zero_add];exact kY (EY W)
 have hset:(iE q.reverse).set (0+(((zd x.natAbs).length:Int)- 1- i).toNat) [i64 c]=iE (q.set (i+(aw UB y.natAbs).length) c).reverse:=by rw[hidx,Nat.zero_add,pt,EX (by omega)]
 rw[List.take_length,vb] at n;rw[zmT.eq_1];refine r_m 5 ?_;refine a_4 ?_;refine eF (.store rfl rfl N rfl rfl rfl TS.h (nle rfl)) ?_;refine aq ?_;refine r_m 3 ?_;refine a_z ?_;refine⟨(q.set (i+(aw UB y.natAbs).length) c,i+1),by simp;omega,⟨by simp[m],by simp;omega,tN e f,?_,?_⟩,?_⟩;simp only;have e1:=ql UB c W;rw[cX _ U,Nat.add_mul,<-n];omega;intro j F H;rw[List.getElem?_set_ne (by simp only at F;omega)];exact l j (by simp only at F;omega) (by simpa using H);simp only[zmS.eq_1];refine s_x [] (fun hs=>ek) (fun hs=>?_) e_53
 ·repeat' (first|exact aE|refine h_c ?_ ?_|refine aI hs hset (dK _)|exact bZ)
 have Q:i=(aw UB x.natAbs).length:=by have:=of_decide_eq_false h;omega
 refine ax ⟨(o,i),⟨⟨r,D,p,g,s⟩,Q⟩,?_⟩;simp only[zmS.eq_1];exact s_e [];rintro⟨o,i⟩ ⟨⟨r,D,p,g,s⟩,Q⟩;simp only at r D p g s Q;subst Q;rw[List.take_length,va] at g;rw[zmS.eq_1];have hol:o.length=(zd x.natAbs).length+(zd y.natAbs).length:=by omega
 have hw:=kM (sgZ x* sgZ y) o.reverse (x* y) (by simp;omega) (fun d h=>p d (List.mem_reverse.1 h)) (by unfold hv;rw[List.reverse_reverse,g,Int.natAbs_mul]) (fun _=>(sgZ_mul x y).symm);have G:((iE o.reverse).drop 0).take ((zd x.natAbs).length+(zd y.natAbs).length)=iE o.reverse:=by rw[List.drop_zero,List.take_of_length_le (by simp;omega)]
 refine s_r 8 ?_;refine a_4 ?_;refine o_0 (.bin rfl rfl (wt T)) ?_;refine a_1 ?_;refine o_1 (.callS1 rfl rfl rfl (.keep (.shut rfl d_n (.nil))) rfl ((by rw[G];exact hw))) ?_;refine a_z ?_;exact ai (c_e (c7 _))
theorem G7{b:Nat}(hb:1< b):∀(j n:Nat),(aw b n)[j]?.getD 0=n/ b^ j % b:=by
 intro j
 induction j with
 |zero=>
  intro n;rcases Nat.eq_zero_or_pos n with rfl|a
  rw[cL];simp;rw[fo hb a];simp
 |succ j c=>
  intro n;rcases Nat.eq_zero_or_pos n with rfl|a
  rw[cL];simp;rw[fo hb a,List.getElem?_cons_succ,c,Nat.div_div_eq_div_mul,Nat.pow_succ,Nat.mul_comm b]
def DU(n:Nat)(long:Nat)(k:Nat):Nat->AState
 |i=>⟨[(0,.arr (iE (zd n))),(1,i64 long),(2,i64 k),(7,i64 (n/ UB^ (long- i):Nat)),(8,i64 i)],[],1,24⟩
theorem qM(n long k:Nat)(hk:k<=4)(hkl:k<=long)(hn:n< UB^ long)(hl:(zd n).length<=281474976710656)(hlo:long<=281474976710656):FS 239 [.arr (iE (zd n)),i64 long,i64 k] (i64 (n/ UB^ (long- k):Nat)):=by
 have bound:∀i,i<=k->n/ UB^ (long- i)< 1152921504606846976:=by
  intro i l
  have m:n/ UB^ (long- i)< UB^ i:=by
   rw[Nat.div_lt_iff_lt_mul (Nat.pow_pos (by decide)),<-Nat.pow_add,show i+(long- i)=long by omega];exact hn
  exact Nat.lt_of_lt_of_le m (Nat.pow_le_pow_right (n:=32768) (j:=4) (by decide) (by omega))
 refine f_c Tryz.func239 ?_;refine r_z 1 ?_;refine r_z 1 ?_;refine ae (r_z 1 ?_);refine aF (DU n long k) (fun i=>i=k) ?_ ?_;refine aj (aC (DU n long k) (fun i=>k- i) (fun i=>i<=k) 0 (Nat.zero_le _) ?_ ?_);simp only[DU.eq_1];have e:AV.v (.int .i64 0)=i64 (n/ UB^ (long- 0):Nat):=by rw[Nat.sub_zero,Nat.div_eq_of_lt hn];rfl
 exact s_f [];intro i l;rw[DU.eq_1];refine ae (r_z 3 ?_);refine au rfl (fun h=>?_) (fun h=>?_);have a:i< k:=by simpa using h
 have c:=vv (zd n) (long- 1- i) hl;unfold zd at c;rw[List.reverse_reverse,G7 (by decide),show((long- 1- i:Nat):Int)=(long:Int)- 1- i by omega] at c;have e1:=Nat.div_add_mod (n/ UB^ (long- 1- i)) UB;rw[Nat.div_div_eq_div_mul,<-Nat.pow_succ,show(long- 1- i).succ=long- i by omega] at e1;have hb:=bound (i+1) a;rw[show long- (i+1)=long- 1- i by omega] at hb;have b:n/ UB^ (long- 1- i) % UB< 32768:=Nat.mod_lt _ (by decide);obtain⟨V,f⟩:∃V,V=n/ UB^ (long- i):=⟨_,rfl⟩;obtain⟨D,g⟩:∃D,D=n/ UB^ (long- 1- i) % UB:=⟨_,rfl⟩;have o:V< 1152921504606846976:=by rw[f];exact bound i l
 rw[<-f,<-g] at e1;rw[<-g] at c b;rw[<-f];have q:32768* V+D=n/ UB^ (long- 1- i):=e1
 have e2:(V:Int) * 32768+D=((n/ UB^ (long- (i+1)):Nat):Int):=by
  rw[show long- (i+1)=long- 1- i by omega,<-q];omega
 have p:V* 32768+D< 1152921504606846976:=by omega
 refine am (ae (aj (r_m 10 ?_)));refine c_s (c) ?_;refine a_z ?_;refine r_m 3 ?_;refine a_z ?_;refine⟨i+1,by omega,a,?_⟩;simp only[DU.eq_1];have:=(congrArg (fun z=>AV.v (.int .i64 z)) e2);exact s_f [];have d:i=k:=by simp at h;omega
 refine ax ⟨i,d,?_⟩;simp only[DU.eq_1];exact s_e [];rintro i rfl;rw[DU.eq_1];refine r_z 2 ?_;refine ai (aW rfl rfl (ag _))
def uG(D:Nat):Nat×Nat->AState
 |(R,k)=>⟨[(0,.arr (iE (zd R))),(1,.arr (iE (zd D))),(6,i64 k)],[],1,57⟩
theorem est_le{R D e:Nat}(he:0< e):R/ e/ (D/ e+1) * D<=R:=by
 have a:R/ e/ (D/ e+1) * (D/ e+1)<=R/ e:=Nat.div_mul_le_self _ _;have c:R/ e* e<=R:=Nat.div_mul_le_self _ _
 have b:D< (D/ e+1) * e:=by
  have:=Nat.lt_mul_div_succ D he;rw[Nat.mul_comm];exact this
 have d:R/ e/ (D/ e+1) * D<=R/ e/ (D/ e+1) * ((D/ e+1) * e):=Nat.mul_le_mul_left _ (Nat.le_of_lt b)
 have f:R/ e/ (D/ e+1) * ((D/ e+1) * e)<=R/ e* e:=by
  rw[<-Nat.mul_assoc];exact Nat.mul_le_mul_right _ a
 omega
theorem zZ_pos{D:Nat}(h:0< D):zZ (D:Int)=[i64 1,.arr (iE (zd D))]:=by
 unfold zZ sgZ;rw[if_neg (by omega),if_neg (by omega),Int.natAbs_natCast]
theorem I1(R D:Nat)(hD:0< D)(hR:R< UB* D)(hb:bl D<=4398046511104):FS 205 [.arr (iE (zd R)),.arr (iE (zd D))] (.tup [i64 (R/ D:Nat),.arr (iE (zd (R % D)))]):=by
 have hzR:=c5 R;have w:=c5 D;have Y:=b7 (b:=UB) (by decide) D;have hlR:=b7 (b:=UB) (by decide) R
 have Z:bl R<=bl D+16:=by
  have d:=dI (Nat.le_of_lt hR);have C:=ja UB D;have Q:bl UB=16:=by decide
  omega
 obtain⟨n,t⟩:∃n,n=(zd D).length:=⟨_,rfl⟩
 have X:1<=n:=by
  have:zd D≠[]:=fun h=>by have:=zd_eq_nil.1 h;omega
  have:=List.length_pos_iff.2 this;omega
 have l:D< UB^ n:=by
  have:=Fp (jU D);rwa[lC,<-t] at this
 have m:R< UB^ (n+1):=by
  rw[Nat.pow_succ,Nat.mul_comm];exact Nat.lt_of_lt_of_le hR (Nat.mul_le_mul_left _ (Nat.le_of_lt l))
 have u:∀k,k* D<=R->k< UB:=by
  intro k F;refine Nat.lt_of_not_le fun h=>?_;have:=Nat.mul_le_mul_right D h;omega
 refine f_c Tryz.func205 ?_;refine r_z 2 ?_;refine r_z 1 ?_;refine r_z 3 ?_;refine bH (fun k:Nat=>uG D (R,k)) (fun k=>k* D<=R) ?_ ?_;refine r_z 4 ?_;refine au rfl (fun h=>?_) (fun h=>?_);have y:(zd D).length<=(zd R).length:=by simpa using h
 refine r_z 2 ?_;refine au rfl (fun d=>?_) (fun d=>?_);have Q:n<=3:=by rw[t];have:=of_decide_eq_true d;omega
 have f:=qM R (n+1) (n+1) (by omega) (Nat.le_refl _) m (by omega) (by omega);have g:=qM D n n (by omega) (Nat.le_refl _) l (by omega) (by omega);rw[Nat.sub_self,Nat.pow_zero,Nat.div_one] at f g;rw[t] at f g;have r:(R:Int) / D=(R/ D:Nat):=(Int.natCast_ediv _ _).symm;have W:R< 1152921504606846976:=Nat.lt_of_lt_of_le m (Nat.pow_le_pow_right (n:=32768) (j:=4) (by decide) (by omega));refine r_m 12 ?_;refine c_s (f) ?_;refine c_s (g) ?_;refine a_z ?_;refine⟨R/ D,Nat.div_mul_le_self _ _,?_⟩;simp only[uG.eq_1];have:=(congrArg (fun z=>AV.v (.int .i64 z)) r);exact s_f [];have Q:3< n:=by rw[t];have:=of_decide_eq_false d;omega
 have f:=qM R (n+1) 4 (by omega) (by omega) m (by omega) (by omega);have g:=qM D n 3 (by omega) (by omega) l (by omega) (by omega);rw[show n+1- 4=n- 3 by omega] at f;obtain⟨e,x⟩:∃e,e=UB^ (n- 3):=⟨_,rfl⟩;have p:0< e:=by rw[x];exact Nat.pow_pos (by decide)
 rw[<-x] at f g
 have J:R/ e< 1152921504606846976:=by
  rw[Nat.div_lt_iff_lt_mul p,x];have H:UB^ 4=1152921504606846976:=by decide
  have:UB^ (n+1)=1152921504606846976* UB^ (n- 3):=by
   rw[show n+1=4+(n- 3) by omega,Nat.pow_add,H]
  omega
 have L:D/ e< 35184372088832:=by
  rw[Nat.div_lt_iff_lt_mul p,x];have H:UB^ 3=35184372088832:=by decide
  have:UB^ n=35184372088832* UB^ (n- 3):=by
   rw[<-H,<-Nat.pow_add];congr 1;omega
  omega
 rw[t] at f g
 have r:((R/ e:Nat):Int) / (((D/ e:Nat):Int)+1)=(R/ e/ (D/ e+1):Nat):=by
  rw[show(((D/ e:Nat):Int)+1)=((D/ e+1:Nat):Int) by omega];exact(Int.natCast_ediv _ _).symm
 have a:=est_le (R:=R) (D:=D) p;obtain⟨A,hA⟩:∃A,A=R/ e:=⟨_,rfl⟩;obtain⟨B,hB⟩:∃B,B=D/ e:=⟨_,rfl⟩;rw[<-hA] at f J r a;rw[<-hB] at g L r a;refine r_m 10 ?_;refine c_s (f) ?_;refine c_s (g) ?_;refine a_z ?_;refine⟨A/ (B+1),a,?_⟩;simp only[uG.eq_1];have:=(congrArg (fun z=>AV.v (.int .i64 z)) r);exact s_f [];refine am ⟨0,by simp,?_⟩;simp only[uG.eq_1];exact s_e [];rintro k F;have M:=u k F;have N:k< 32768:=M;rw[uG.eq_1];refine bH (fun _:Unit=>uG D (R- k* D,k)) (fun _=>True) ?_ ?_;refine r_z 2 ?_;refine au rfl (fun d=>?_) (fun d=>?_)
 have K:zl (k:Int):=by
  unfold zl;rw[Int.natAbs_natCast];have:=gM (n:=k) (k:=15) (by omega);omega
 have w:zl (D:Int):=by unfold zl;rw[Int.natAbs_natCast];omega
 have U:=qP (k:Int) (D:Int) K w;rw[zZ_pos hD] at U;have o:((k:Int) * (D:Int)).natAbs=k* D:=by rw[<-Int.natCast_mul,Int.natAbs_natCast]
 have hbk:bl (k* D)<=bl D+16:=by
  have:=dI F;omega
 have hlk:=b7 (b:=UB) (by decide) (k* D);have i:=qO R (k* D) (-1) (R- k* D) (.inr rfl) (by omega) (by omega) (by rw[c5];omega);rw[<-o] at i;rw[o] at i;refine r_m 9 ?_;refine c_s (qQ k (by omega)) ?_;refine c_s (U) ?_;refine aY (.field1 rfl TF.h TA.h rfl) rfl rfl ?_;refine o_0 (.call rfl rfl rfl ((by rw[o];exact i))) ?_;refine o_0 (.assign rfl) ?_;refine aq ?_;refine⟨(),trivial,?_⟩;simp only[uG.eq_1];exact s_e [];have G:k=0:=by simp at d;omega
 subst G;refine am ⟨(),trivial,?_⟩;simp only[uG.eq_1,Nat.zero_mul,Nat.sub_zero];exact s_e [];rintro _ _;rw[uG.eq_1];refine bH (uG D) (fun v=>v.1=R % D/\v.2=R/ D) ?_ ?_;refine aj (aC (uG D) (fun v=>v.1) (fun v=>v.1+v.2* D=R/\v.1<=R) (R- k* D,k) ⟨by simp only;omega,by simp only;omega⟩ ?_ ?_);simp only[uG.eq_1];exact s_e [];rintro⟨c,s⟩ ⟨hv,a⟩;simp only at hv a;have V:bl c<=bl D+16:=by have:=dI a;omega
 have O:=b7 (b:=UB) (by decide) c;have S:=c5 c;have E:=u s (by omega);have T:s< 32768:=E;rw[uG.eq_1];refine ae (r_c 4 (Bv c D (by omega) (by omega)) ?_);refine a_z ?_;refine au rfl (fun h=>?_) (fun h=>?_)
 have y:D<=c:=by
  have:=of_decide_eq_true h;unfold eN at this;split at this <;> omega
 refine am (aj (r_c 4 (qO c D (-1) (c- D) (.inr rfl) (by omega) (by omega) (by omega)) ?_));refine a_z ?_;refine r_m 3 ?_;refine a_z ?_;refine⟨(c- D,s+1),by simp only;omega,⟨by simp only;rw[Nat.add_mul];omega,by simp only;omega⟩,?_⟩;simp only[uG.eq_1];exact s_e []
 have q:c< D:=by
  have:=of_decide_eq_false h;unfold eN at this;split at this;omega;split at this <;> omega
 refine ax ⟨(c,s),⟨?_,?_⟩,?_⟩;simp only;rw[<-hv,Nat.add_mul_mod_self_right,Nat.mod_eq_of_lt q];simp only;rw[<-hv,Nat.add_mul_div_right _ _ hD,Nat.div_eq_of_lt q,Nat.zero_add];simp only[uG.eq_1];exact s_e [];rintro⟨c,s⟩ ⟨d,C⟩;simp only at d C;subst d C;rw[uG.eq_1];refine r_z 4 ?_;refine ai (Fin.many ⟨_,_,rfl,rfl,⟨_,_,rfl,rfl,rfl⟩⟩ (nle rfl) ?_);exact ah (an aA (ag _)) (ah (an aA (eX _)) av)
def Gh(A D:Nat):Ln->Nat->Nat->AState
 |[],R,i=>⟨[(0,.arr (iE (zd A))),(1,.arr (iE (zd D))),(6,.emp),(7,.arr (iE (zd R))),(8,i64 i)],[],1,54⟩
 |q::Q,R,i=>⟨[(0,.arr (iE (zd A))),(1,.arr (iE (zd D))),(6,.lsl 1 0 (Q.length+1) none 1),(7,.arr (iE (zd R))),(8,i64 i)],[(1,some ⟨3,1,iE (q::Q)⟩)],2,54⟩
theorem jg(A D R i:Nat):Gh A D [] R i=⟨[(0,.arr (iE (zd A))),(1,.arr (iE (zd D))),(6,.emp),(7,.arr (iE (zd R))),(8,i64 i)],[],1,54⟩:=rfl
theorem fV(A D:Nat)(q:Nat)(Q:Ln)(R i:Nat):Gh A D (q::Q) R i=⟨[(0,.arr (iE (zd A))),(1,.arr (iE (zd D))),(6,.lsl 1 0 (Q.length+1) none 1),(7,.arr (iE (zd R))),(8,i64 i)],[(1,some ⟨3,1,iE (q::Q)⟩)],2,54⟩:=rfl
theorem H0{P D R a:Nat}(hD:0< D)(hR:R=P % D)(ha:a< UB):R* UB+a< UB* D/\(P* UB+a) / D=P/ D* UB+(R* UB+a) / D/\(P* UB+a) % D=(R* UB+a) % D/\(R* UB+a) / D< UB:=by
 have b:=Nat.div_add_mod P D;have c:=Nat.mod_lt P hD;rw[<-hR] at b c
 have e:R* UB+a< UB* D:=by
  have:(R+1) * UB<=D* UB:=Nat.mul_le_mul_right _ c;rw[Nat.add_mul,Nat.one_mul,Nat.mul_comm D] at this;omega
 have d:P* UB+a=D* (P/ D* UB)+(R* UB+a):=by
  conv=>lhs;rw[<-b]
  rw[Nat.add_mul,Nat.mul_assoc,Nat.add_assoc]
 refine⟨e,?_,?_,?_⟩;rw[d,Nat.mul_add_div hD];rw[d,Nat.mul_add_mod];rw[Nat.div_lt_iff_lt_mul hD];exact e
theorem vk(A D:Nat)(hD:0< D)(hA:bl A<=4398046511104)(hb:bl D<=4398046511104):FS 171 [.arr (iE (zd A)),.arr (iE (zd D))] (.tup [.arr (iE (zd (A/ D))),.arr (iE (zd (A % D)))]):=by
 have V:=c5 A;have K:=c5 D;have S:=b7 (b:=UB) (by decide) D;have X:=b7 (b:=UB) (by decide) A;obtain⟨n,Z⟩:∃n,n=(zd D).length:=⟨_,rfl⟩
 have O:1<=n:=by
  have:zd D≠[]:=fun h=>by have:=zd_eq_nil.1 h;omega
  have:=List.length_pos_iff.2 this;omega
 have T:UB^ (n- 1)<=D:=by
  rcases tk (b:=UB) (n:=D) (by decide) with h|h
  rwa[<-K,<-Z] at h;omega
 refine f_c Tryz.func171 ?_;refine r_z 2 ?_;refine ae (r_z 5 ?_);refine au rfl (fun h=>?_) (fun h=>?_);have C:(zd A).length< (zd D).length:=by have:=of_decide_eq_true h;omega
 have F:A< D:=jP (b:=UB) (by decide) (by omega);refine r_z 3 ?_;refine ai (Fin.many ⟨_,_,rfl,rfl,⟨_,_,rfl,rfl,rfl⟩⟩ (nle rfl) ?_);rw[Nat.div_eq_of_lt F,Nat.mod_eq_of_lt F,pL];exact ah (Cv.emp _) (ah (an aA (eX _)) av);have B:n<=(zd A).length:=by have:=of_decide_eq_false h;omega
 refine am (r_z 1 ?_);obtain⟨G,t⟩:∃G,G=hv ((zd A).take (n- 1)):=⟨_,rfl⟩
 have u:G< D:=by
  have y:=Fp (l:=(zd A).take (n- 1)) fun d g=>jU A d (List.mem_of_mem_take g);rw[<-t] at y;have h2:UB^ ((zd A).take (n- 1)).length<=UB^ (n- 1):=Nat.pow_le_pow_right (by decide) (by simp;omega);omega
 have s:=jk ((zd A).take (n- 1)) (by simp;omega);rw[fT (fun d g=>jU A d (List.mem_of_mem_take g)),<-t] at s;refine bH (fun _:Unit=>⟨[(0,.arr (iE (zd A))),(1,.arr (iE (zd D))),(6,.emp),(7,.arr (iE (zd G)))],[],1,54⟩) (fun _=>True) ?_ ?_;by_cases hn2:n=1;rw[hn2] at s;refine r_m 8 ?_;refine a_4 ?_;refine o_0 (.sa_h rfl rfl (h:=0) (by omega) (by simp) te_77.h (mr _)) ?_;refine o_0 (.append0 rfl rfl rfl te_77.h rfl rfl rfl (.arr (es:=[]) (by simp))) ?_;refine c_s (s) ?_;refine a_z ?_;refine⟨(),trivial,?_⟩;exact s_e []
 ·have E:(iE (zd A)).take (n- 1)≠[]:=fun h=>by
   have:=congrArg List.length h;rw[List.length_take,r6,List.length_nil] at this;omega
  have m:List.take ((iE (zd A)).take (n- 1)).length (List.drop 0 ((iE (zd A)).take (n- 1)))=iE ((zd A).take (n- 1)):=by rw[List.drop_zero,List.take_length,iE_take]
  refine r_m 8 ?_;refine a_4 ?_;refine o_0 (.sa_h rfl rfl (h:=n- 1) (by omega) (by simp;omega) te_77.h (mr _)) ?_;refine o_1 (.append_e rfl rfl rfl te_77.h rfl rfl rfl (.arr (fun e he=>mr _ e (List.mem_of_mem_take he))) (by first|assumption|(simp;done)) TZ.h rfl TB.h d_o (by first|(simp[maxLen];done)|(simp[maxLen];omega))) ?_;refine o_1 (.callS1 rfl rfl rfl (.shut rfl d_n (.nil)) rfl ((by rw[m];exact s))) ?_;refine a_z ?_;refine⟨(),trivial,?_⟩;exact s_e []
 rintro _ _;refine ae (r_z 4 ?_);refine aF (fun x:Ln×Nat=>Gh A D x.1 x.2 (zd A).length) (fun x=>(∀d∈x.1,d< UB)/\hv x.1=A/ D/\x.2=A % D/\x.1.length<=(zd A).length) ?_ ?_;refine aj (aC (fun x:Ln×Nat×Nat=>Gh A D x.1 x.2.1 x.2.2) (fun x=>(zd A).length- x.2.2) (fun x=>x.2.2<=(zd A).length/\(∀d∈x.1,d< UB)/\hv x.1=hv ((zd A).take x.2.2) / D/\x.2.1=hv ((zd A).take x.2.2) % D/\x.1.length<=x.2.2) ([],G,n- 1) ⟨by simp only;omega,by simp,by simp only;rw[<-t,Nat.div_eq_of_lt u];rfl,by simp only;rw[<-t,Nat.mod_eq_of_lt u],by simp⟩ ?_ ?_);simp only[jg];exact s_e [];rintro⟨Q,R,i⟩ ⟨Y,k,p,r,j⟩;simp only at Y k p r j
 -- the head,whatever the quotient so far
 by_cases C:i< (zd A).length
 ·obtain⟨a,z⟩:∃a,(zd A)[i]?=some a:=⟨_,List.getElem?_eq_getElem C⟩
  have ha:a< UB:=jU A a (List.mem_of_getElem? z);have f:(iE (zd A))[((i:Nat):Int).toNat]?=some [i64 a]:=kY z;have o:hv ((zd A).take (i+1))=hv ((zd A).take i) * UB+a:=by rw[cJ z,qB]
  obtain⟨P,hP⟩:∃P,P=hv ((zd A).take i):=⟨_,rfl⟩;rw[<-hP] at p r o;obtain⟨s1,s2,N,L⟩:=H0 hD r ha;have J:R< D:=by rw[r];exact Nat.mod_lt _ hD
  have W:=b7 (b:=UB) (by decide) R;have U:=dI (Nat.le_of_lt J);have hzR:=c5 R;have H:=I1 (R* UB+a) D hD s1 hb;cases Q with
  |nil=>
   simp only[jg];refine ae (r_z 4 ?_);refine au rfl (fun h=>?_) (fun h=>?_);rotate_left;exact absurd h (by simp;omega);refine am (ae (aj (bH (fun _:Unit=>Gh A D [] (R* UB+a) i) (fun _=>True) ?_ ?_)));by_cases hR0:R=0;subst hR0;have c:=jk [a] (by simp);rw[fT (by simpa using ha),show hv [a]=0* UB+a by rw[qD,vi];simp] at c;rw[pL];refine r_d a7 10 ?_;refine a_1 ?_;refine o_0 (.append0 rfl rfl rfl te_77.h rfl rfl rfl (.arr (es:=[]) (by simp))) ?_;refine a_2 ?_;refine i_x f ?_;refine l_1 f ?_;refine a_2 ?_;refine o_1 (.callS1 rfl rfl rfl (.shut rfl d_n (.nil)) rfl ((FSpec.argE c rfl))) ?_;refine a_1 ?_;refine aq (n_k ?_);refine⟨(),trivial,?_⟩;simp only[jg];exact s_e []
   ·have E:iE (zd R)≠[]:=fun h=>by
     have y:=congrArg List.length h;rw[r6,List.length_nil,List.length_eq_zero_iff] at y;exact hR0 (zd_eq_nil.1 y)
    have v:∀d∈zd R++[a],d< UB:=fun d g=>by
     rcases List.mem_append.1 g with g|g
     exact jU R d g;simp at g;rw[g];exact ha
    have c:=jk (zd R++[a]) (by simp;omega);rw[fT v,qB,lC] at c;refine r_d a7 10 ?_;refine a_1 ?_;refine o_1 (.append_e rfl rfl rfl te_77.h rfl rfl rfl (.arr (mr _)) (by first|assumption|(simp;done)) TZ.h rfl TB.h d_o (by first|(simp[maxLen];done)|(simp[maxLen];omega))) ?_;refine a_2 ?_;refine i_x f ?_;refine l_1 f ?_;refine a_2 ?_;refine o_1 (.callS1 rfl rfl rfl (.shut rfl d_n (.nil)) rfl ((FSpec.argE c (by rw[List.drop_zero,List.take_of_length_le (by simp)];simp[iE,i64])))) ?_;refine a_1 ?_;refine aq (n_k ?_);refine⟨(),trivial,?_⟩;simp only[jg];exact s_e []
   rintro _ _;simp only[jg];refine r_z 1 ?_;refine r_c 8 (H) ?_;refine a_z ?_;refine r_m 5 ?_;refine a_z ?_;refine r_m 3 ?_;refine a_z ?_;refine⟨([(R* UB+a) / D],(R* UB+a) % D,i+1),by simp only;omega,⟨by simp only;omega,by simpa using L,?_,?_,by simp⟩,?_⟩;simp only;rw[o,s2,<-p,qD,vi];simp;simp only;rw[o,N];simp only[fV];exact s_e [(1,6)]
  |cons q Q=>
   simp only[fV];refine ae (r_z 4 ?_);refine au rfl (fun h=>?_) (fun h=>?_);rotate_left;exact absurd h (by simp;omega);refine am (ae (aj (bH (fun _:Unit=>Gh A D (q::Q) (R* UB+a) i) (fun _=>True) ?_ ?_)));by_cases hR0:R=0;subst hR0;have c:=jk [a] (by simp);rw[fT (by simpa using ha),show hv [a]=0* UB+a by rw[qD,vi];simp] at c;rw[pL];refine r_d a7 10 ?_;refine a_1 ?_;refine o_0 (.append0 rfl rfl rfl te_77.h rfl rfl rfl (.arr (es:=[]) (by simp))) ?_;refine a_2 ?_;refine i_x f ?_;refine l_1 f ?_;refine a_2 ?_;refine o_1 (.callS1 rfl rfl rfl (.shut rfl d_n (.nil)) rfl ((FSpec.argE c rfl))) ?_;refine a_1 ?_;refine aq (n_k ?_);refine⟨(),trivial,?_⟩;simp only[fV];exact s_e []
   ·have E:iE (zd R)≠[]:=fun h=>by
     have y:=congrArg List.length h;rw[r6,List.length_nil,List.length_eq_zero_iff] at y;exact hR0 (zd_eq_nil.1 y)
    have v:∀d∈zd R++[a],d< UB:=fun d g=>by
     rcases List.mem_append.1 g with g|g
     exact jU R d g;simp at g;rw[g];exact ha
    have c:=jk (zd R++[a]) (by simp;omega);rw[fT v,qB,lC] at c;refine r_d a7 10 ?_;refine a_1 ?_;refine o_1 (.append_e rfl rfl rfl te_77.h rfl rfl rfl (.arr (mr _)) (by first|assumption|(simp;done)) TZ.h rfl TB.h d_o (by first|(simp[maxLen];done)|(simp[maxLen];omega))) ?_;refine a_2 ?_;refine i_x f ?_;refine l_1 f ?_;refine a_2 ?_;refine o_1 (.callS1 rfl rfl rfl (.shut rfl d_n (.nil)) rfl ((FSpec.argE c (by rw[List.drop_zero,List.take_of_length_le (by simp)];simp[iE,i64])))) ?_;refine a_1 ?_;refine aq (n_k ?_);refine⟨(),trivial,?_⟩;simp only[fV];exact s_e []
   rintro _ _;simp only[fV];refine r_z 1 ?_;refine r_c 8 (H) ?_;refine a_z ?_;have M:Q.length+1<=i:=by simpa using j
   refine r_m 5 ?_;refine a_z ?_;refine r_m 3 ?_;refine a_z ?_;refine⟨(q::(Q++[(R* UB+a) / D]),(R* UB+a) % D,i+1),by simp only;omega,⟨by simp only;omega,?_,?_,?_,by simp at j⊢;omega⟩,?_⟩;intro d g;rcases List.mem_append.1 (show d∈(q::Q)++[(R* UB+a) / D] from g) with g|g
   exact k d g;simp at g;rw[g];exact L;simp only;rw[o,s2,<-p,<-qB];rfl;simp only;rw[o,N];simp only[fV];have e:iE (q::Q)++List.take 1 (List.drop 0 [[i64 ((R* UB+a) / D:Nat)]])=iE (q::(Q++[(R* UB+a) / D])):=by simp[iE]
   exact s_x [(1,6)] (fun hs=>ek) (fun hs=>e_54) e_9
 have B:i=(zd A).length:=by omega
 subst B;rw[List.take_length,lC] at p r;cases Q with
 |nil=>
  simp only[jg];refine ae (r_z 4 ?_);refine au rfl (fun h=>?_) (fun h=>?_);exact absurd h (by simp);refine ax ⟨([],R),⟨k,p,r,j⟩,?_⟩;simp only[jg];exact s_e []
 |cons q Q=>
  simp only[fV];refine ae (r_z 4 ?_);refine au rfl (fun h=>?_) (fun h=>?_);exact absurd h (by simp);refine ax ⟨(q::Q,R),⟨k,p,r,j⟩,?_⟩;simp only[fV];exact s_e []
 rintro⟨Q,R⟩ ⟨k,p,r,j⟩;simp only at k p r j;have w:=jk Q (by omega);rw[fT k,p] at w;subst r;cases Q with
 |nil=>
  simp only[jg];refine r_c 5 (w) ?_;refine a_z ?_;refine ai (Fin.many ⟨_,_,rfl,rfl,⟨_,_,rfl,rfl,rfl⟩⟩ (nle rfl) ?_);exact ah (an aA (eX _)) (ah (an aA (eX _)) av)
 |cons q Q=>
  simp only[fV];have m:List.take (Q.length+1) (List.drop 0 (iE (q::Q)))=iE (q::Q):=by rw[List.drop_zero,List.take_of_length_le (by simp)]
  refine s_r 5 ?_;refine a_1 ?_;refine o_1 (.callS1 rfl rfl rfl (.shut rfl d_n (.nil)) rfl ((by rw[m];exact w))) ?_;refine a_z ?_;refine ai (Fin.many ⟨_,_,rfl,rfl,⟨_,_,rfl,rfl,rfl⟩⟩ (nle rfl) ?_);exact ah (an aA (eX _)) (ah (an aA (eX _)) av)
def zgS:Nat×Nat->AState
 |(p,q)=>⟨[(4,.lptr 1 0 0),(5,.arr (iE (zd p))),(6,.arr (iE (zd q)))],[(1,some ⟨79,2,[[i64 0,.emp]]⟩)],2,48⟩
theorem nq(p:Nat)(q:Nat):zgS (p,q)=⟨[(4,.lptr 1 0 0),(5,.arr (iE (zd p))),(6,.arr (iE (zd q)))],[(1,some ⟨79,2,[[i64 0,.emp]]⟩)],2,48⟩:=rfl
def zgW:Nat×Nat->AState
 |(x,y)=>⟨[(4,.lptr 1 0 0),(7,i64 x),(8,i64 y)],[(1,some ⟨79,2,[[i64 0,.emp]]⟩)],2,48⟩
theorem uo(x:Nat)(y:Nat):zgW (x,y)=⟨[(4,.lptr 1 0 0),(7,i64 x),(8,i64 y)],[(1,some ⟨79,2,[[i64 0,.emp]]⟩)],2,48⟩:=rfl
theorem wK(p q:Nat):Nat.gcd q (p % q)=Nat.gcd p q:=by
 rw[Nat.gcd_comm p q,Nat.gcd_rec q p,Nat.gcd_comm]
theorem wH{n:Nat}(h:(zd n).length<=4):n< 1152921504606846976:=by
 have a:=Fp (jU n);rw[lC] at a;exact Nat.lt_of_lt_of_le a (Nat.pow_le_pow_right (n:=32768) (j:=4) (by decide) h)
theorem fs_ZGcd(x y:Int)(hx:bl x.natAbs<=4398046511104)(hy:bl y.natAbs<=4398046511104):FS 170 [.agg (zZ x),.agg (zZ y)] (.agg (zZ (Nat.gcd x.natAbs y.natAbs:Nat))):=by
 refine f_c Tryz.func170 ?_;refine r_z 3 ?_;refine ae (r_d a7 6 ?_);refine a_6 ?_;refine aq (n_k ?_);refine bH (fun p:Nat=>zgS (p,0)) (fun p=>p=Nat.gcd x.natAbs y.natAbs) ?_ ?_;refine aj (aC zgS (fun v=>v.2) (fun v=>Nat.gcd v.1 v.2=Nat.gcd x.natAbs y.natAbs/\bl v.1<=4398046511104/\bl v.2<=4398046511104) (x.natAbs,y.natAbs) ⟨rfl,hx,hy⟩ ?_ ?_);simp only[nq];exact s_e [(1,4)];rintro⟨p,q⟩ ⟨g,hp,k⟩;simp only at g hp k;have n:=c5 p;have w:=c5 q;have r:=b7 (b:=UB) (by decide) p;have t:=b7 (b:=UB) (by decide) q;rw[nq];refine ae (r_z 3 ?_);refine au rfl (fun h=>?_) (fun h=>?_)
 have a:0< q:=by
  rcases Nat.eq_zero_or_pos q with e|e
  subst e;rw[pL] at h;simp at h;exact e
 refine am (aj (bH (fun _:Unit=>zgS (p,q)) (fun _=>True) ?_ ?_));by_cases hl:(zd p).length<=4;by_cases hl2:(zd q).length<=4;have o:=wH hl;have m:=wH hl2;have i:=Bl (zd p) hl (jU p);have f:=Bl (zd q) hl2 (jU q);rw[lC] at i f;refine s_r 8 ?_;refine a_4 ?_;refine y_g rfl (by simp;omega) (.move rfl) ?_;refine y_g rfl (by simp;omega) (.lenI rfl rfl rfl rfl te_77.h) ?_;refine y_g rfl (by simp;omega) (.bin rfl rfl iC) ?_;refine o_0 (.pickT rfl (by simp;omega) rfl) ?_;refine aq ?_;refine au rfl (fun l=>?_) (fun l=>?_);refine r_c 6 (i) ?_;refine c_s (f) ?_;refine a_z ?_;refine bH (fun v:Nat=>zgW (v,0)) (fun v=>v=Nat.gcd x.natAbs y.natAbs) ?_ ?_;refine aj (aC zgW (fun v=>v.2) (fun v=>Nat.gcd v.1 v.2=Nat.gcd x.natAbs y.natAbs/\v.1< 1152921504606846976/\v.2< 1152921504606846976) (p,q) ⟨g,o,m⟩ ?_ ?_);simp only[uo];exact s_e [];rintro⟨u,v⟩ ⟨d,z,hv⟩;simp only at d z hv;rw[uo];refine ae (r_z 2 ?_);refine au rfl (fun j=>?_) (fun j=>?_);have c:0< v:=by simp at j;omega
 refine am (aj (r_d a7 6 ?_));refine a_6 ?_;refine aq (n_k ?_);refine⟨(v,u % v),Nat.mod_lt _ c,⟨(wK u v).trans d,hv,Nat.lt_trans (Nat.mod_lt _ c) hv⟩,?_⟩;simp only[uo];exact s_e [];have c:v=0:=by simp at j;omega
 subst c;refine ax ⟨u,by simpa using d,?_⟩;simp only[uo];exact s_e [];rintro v hv;rw[uo]
 have s:v< 1152921504606846976:=by
  rw[hv,<-g];have l:Nat.gcd p q<=q:=Nat.gcd_le_right _ a;omega
 refine r_c 3 (qQ v (by omega)) ?_;refine a_z ?_;refine ai (dP rfl rfl rfl TG.h TS.h (nle rfl) ?_ ?_);rw[<-hv];rfl;exact c7 _;exact absurd l (by simp;omega);refine s_r 8 ?_;refine a_4 ?_;refine y_g rfl (by simp;omega) (.move rfl) ?_;refine y_g rfl (by simp;omega) (.lenI rfl rfl rfl rfl te_77.h) ?_;refine y_g rfl (by simp;omega) (.bin rfl rfl iC) ?_;refine o_0 (.pickT rfl (by simp;omega) rfl) ?_;refine aq ?_;refine au rfl (fun h=>?_) (fun _=>am ⟨(),trivial,?_⟩);exact absurd h (by simp;omega);simp only[nq];exact s_e [];refine s_r 8 ?_;refine a_4 ?_;refine n_g rfl (by simp;omega) ?_;refine n_g rfl (by simp;omega) ?_;refine n_g rfl (by simp;omega) ?_;refine o_0 (.pickF rfl (by simp;omega) rfl) ?_;refine aq ?_;refine au rfl (fun h=>?_) (fun _=>am ⟨(),trivial,?_⟩);cases h;simp only[nq];exact s_e [];rintro _ _;rw[nq];refine r_c 8 (vk p q a hp k) ?_;refine a_z ?_;refine r_m 4 ?_;refine a_z ?_;refine⟨(q,p % q),Nat.mod_lt _ a,⟨(wK p q).trans g,k,?_⟩,?_⟩;have:=dI (Nat.le_of_lt (Nat.mod_lt p a));simp only;omega;simp only[nq];exact s_e []
 have a:q=0:=by
  refine zd_eq_nil.1 (List.length_eq_zero_iff.1 ?_);have:=of_decide_eq_false h;omega
 subst a;refine ax ⟨p,by simpa using g,?_⟩;simp only[nq];exact s_e [];rintro p hp;rw[nq]
 have A:bl p<=4398046511104:=by
  rw[hp];rcases Nat.eq_zero_or_pos y.natAbs with e|e
  rw[e,Nat.gcd_zero_right];exact hx;exact Nat.le_trans (dI (Nat.gcd_le_right _ e)) hy
 have n:=c5 p;have r:=b7 (b:=UB) (by decide) p;refine r_c 3 (kM 1 (zd p) (p:Int) (by omega) (jU p) (by rw[lC,Int.natAbs_natCast]) (fun h=>by unfold sgZ;rw[if_neg h,if_neg (by omega)])) ?_;refine a_z ?_;refine ai (dP rfl rfl rfl TG.h TS.h (nle rfl) ?_ ?_);rw[<-hp];rfl;exact c7 _
theorem tR(x:RQ)(hx:rok x):FS 129 [.agg (rC x)] (.agg (zZ (x.1.den:Int))):=by
 refine f_c Tryz.func129 ?_;refine r_z 2 ?_;refine ae (r_z 4 ?_);obtain⟨q,f⟩:=x;have hp:=q.den_pos;cases f with
 |true=>
  have c:q=0:=hx rfl;subst c;refine au (t:=true) rfl (fun h=>?_) (fun h=>?_);refine r_c 2 (qQ 1 (by decide)) ?_;refine a_z ?_;exact ai (c_e (c7 _));cases h
 |false=>
  refine au rfl (fun h=>?_) (fun h=>?_);exfalso;have d:sgZ (q.den:Int)=0:=by simpa using h
  rcases dm (q.den:Int) with⟨a,b⟩|⟨a,b⟩|⟨a,b⟩<;> omega
  refine am (r_z 3 ?_);exact ai (c_e (c7 _))
theorem zd_one:zd 1=[1]:=by
 unfold zd;rw[fo (by decide) (by decide),show 1/ UB=0 by decide,cL];rfl
theorem zZ_one{g:Nat}(h:g=1):zZ (g:Int)=[i64 1,.arr [[i64 1]]]:=by
 subst h;show [i64 (sgZ 1),AV.arr (iE (zd 1))]=_;rw[zd_one];rfl
theorem F6{g:Nat}(h:(zd g).length=1):zd g=[g]:=by
 obtain⟨a,ha⟩:=List.length_eq_one_iff.1 h;have b:=lC g;rw[ha,qD,vi] at b;simp at b;rw[ha,b]
theorem wL{n:Nat}(h:bl n<=4398046511104):(zd n).length<=281474976710656:=by
 rw[c5];have:=b7 (b:=UB) (by decide) n;omega
def ratS(n':Int)(D g:Nat):AState:=⟨[(2,.lptr 1 0 0),(3,.lptr 2 0 0),(4,.lptr 3 0 0),(5,.lptr 4 0 0)],[(1,some ⟨79,2,[zZ n']⟩),(2,some ⟨79,2,[zZ (D:Int)]⟩),(3,some ⟨81,4,[[i64 0,.emp,i64 0,.emp]]⟩),(4,some ⟨79,2,[zZ (g:Int)]⟩)],5,57⟩
theorem Bx(n d:Int)(hd:d≠0)(hn:bl n.natAbs<=4398046511104)(hb:bl d.natAbs<=4398046511104):FS 126 [.agg (zZ n),.agg (zZ d)] (.agg (rC (rq (Rat.divInt n d)))):=by
 refine f_c Tryz.func126 ?_;refine r_z 3 ?_;refine bH (fun f:Int=>⟨[(2,.lptr 1 0 0),(3,.lptr 2 0 0),(4,.lptr 3 0 0)],[(1,some ⟨79,2,[zZ f]⟩),(2,some ⟨79,2,[zZ (d.natAbs:Int)]⟩),(3,some ⟨81,4,[[i64 0,.emp,i64 0,.emp]]⟩)],4,57⟩) (fun f=>f.natAbs=n.natAbs/\Rat.divInt n d=mkRat f d.natAbs) ?_ ?_;refine r_z 3 ?_;refine au rfl (fun h=>?_) (fun h=>?_)
 have t:d< 0:=by
  have k:sgZ d< 0:=by simpa using h
  rcases dm d with⟨a,b⟩|⟨a,b⟩|⟨a,b⟩<;> omega
 have e: -d=(d.natAbs:Int):=by omega
 have p:=zf d;rw[e] at p;refine r_d a7 6 ?_;refine c_s (zf n) ?_;refine c_s (p) ?_;refine a_2 ?_;refine aq (n_k ?_);refine⟨-n,⟨by omega,pD n d t⟩,?_⟩;exact s_e []
 have l:0< d:=by
  have k:¬sgZ d< 0:=by simpa using h
  rcases dm d with⟨a,b⟩|⟨a,b⟩|⟨a,b⟩<;> omega
 have e:d=(d.natAbs:Int):=by omega
 refine am ⟨n,⟨rfl,pC n d l⟩,?_⟩;rw[<-e];exact s_e [];rintro f ⟨u,hv⟩;have i:0< d.natAbs:=by omega
 obtain⟨D,x⟩:∃D,D=d.natAbs:=⟨_,rfl⟩;rw[hv];rw[<-x] at hb i⊢;rw[<-u] at hn;obtain⟨g,j⟩:∃g,g=Nat.gcd f.natAbs D:=⟨_,rfl⟩;have s:0< g:=by rw[j];exact Nat.gcd_pos_of_pos_right _ i
 have y:g<=D:=by rw[j];exact Nat.gcd_le_right _ i
 have G:=dI y;have C:(mkRat f D).num.natAbs=f.natAbs/ g:=by rw[jO i,fD,j]
 have r:(mkRat f D).den=D/ g:=by rw[(lm i).2,j]
 have z:=Gd (n:=f) i;have q:=fs_ZGcd f (D:Int) hn (by rw[Int.natAbs_natCast];exact hb);rw[Int.natAbs_natCast,<-j] at q
 have o:rC (rq (mkRat f D))=zZ (sgn (decide (f< 0)) (f.natAbs/ g))++zZ ((D/ g:Nat):Int):=by
  rw[rC_rq,r,jO i,<-j]
 rw[o];have H:bl (D/ g)<=bl D:=eY D g;have B:bl (f.natAbs/ g)<=bl f.natAbs:=eY f.natAbs g;refine r_c 5 (q) ?_;refine a_z ?_;refine bH (fun _:Unit=>ratS f D g) (fun _=>g≠1) ?_ ?_;by_cases k:g=1;rw[zZ_one k];refine s_r 11 ?_;refine a_5 ?_;refine y_g rfl rfl (.fieldAddr_l rfl TF.h (by decide)) ?_;refine y_g rfl rfl (.load_l1 rfl rfl rfl TG.h rfl) ?_;refine y_g rfl rfl (.index_a rfl rfl (by omega) rfl rfl te_77.h) ?_;refine y_g rfl rfl (.load_a1 rfl rfl TG.h rfl) ?_;refine y_g rfl rfl (.bin rfl rfl cb) ?_;refine o_0 (.pickT rfl rfl rfl) ?_;refine aq ?_;refine au rfl (fun h=>?_) (fun h=>?_);refine r_z 4 ?_;refine ai ?_;rw[k,Nat.div_one,Nat.div_one,show sgn (decide (f< 0)) f.natAbs=f by unfold sgn;by_cases h0:f< 0 <;> simp[h0]<;> omega];exact c_e (az fun c A=>(List.mem_append.1 A).elim (ga _ c) (ga _ c));exact absurd h (by decide);by_cases hl:(zd g).length=1;have F:=F6 hl;have m:zZ (g:Int)=[i64 (sgZ (g:Int)),.arr (iE [g])]:=by show [i64 (sgZ (g:Int)),AV.arr (iE (zd g))]=_;rw[F]
 rw[m];refine s_r 11 ?_;refine a_5 ?_;refine y_g rfl rfl (.fieldAddr_l rfl TF.h (by decide)) ?_;refine y_g rfl rfl (.load_l1 rfl rfl rfl TG.h rfl) ?_;refine y_g rfl rfl (.index_a rfl rfl (by omega) rfl rfl te_77.h) ?_;refine y_g rfl rfl (.load_a1 rfl rfl TG.h rfl) ?_;refine y_g rfl rfl (.bin rfl rfl cb) ?_;refine o_0 (.pickT rfl rfl rfl) ?_;refine aq ?_;refine au rfl (fun h=>?_) (fun h=>?_);exact absurd h (by simp;omega);refine am ⟨(),k,?_⟩;rw[<-m];unfold ratS;exact s_e [(4,5)];refine s_r 11 ?_;refine a_5 ?_;refine n_g rfl (by simp;omega) ?_;refine n_g rfl (by simp;omega) ?_;refine n_g rfl (by simp;omega) ?_;refine n_g rfl (by simp;omega) ?_;refine n_g rfl (by simp;omega) ?_;refine o_0 (.pickF rfl (by simp;omega) rfl) ?_;refine aq ?_;refine au rfl (fun h=>?_) (fun h=>?_);exact absurd h (by simp);refine am ⟨(),k,?_⟩;unfold ratS;exact s_e [(4,5)];rintro _ E;unfold ratS;have w:=kM (sgZ f) (zd (f.natAbs/ g)) (sgn (decide (f< 0)) (f.natAbs/ g)) (wL (by omega)) (jU _) (by rw[lC,fD]) (fun h=>by rw[<-z,jO i,<-j]);have v:=kM 1 (zd (D/ g)) ((D/ g:Nat):Int) (wL (by omega)) (jU _) (by rw[lC,Int.natAbs_natCast]) (fun h=>by unfold sgZ;rw[if_neg h,if_neg (by omega)]);refine r_c 10 (vk f.natAbs g s hn (by omega)) ?_;refine a_z ?_;refine r_c 10 (vk D g s hb (by omega)) ?_;refine a_z ?_;refine r_c 8 (w) ?_;refine c_s (v) ?_;refine a_z ?_;exact ai (c_e (az fun c A=>(List.mem_append.1 A).elim (ga _ c) (ga _ c)))
theorem o6{z:Int}{k:Nat}(h:bl z.natAbs<=k)(hk:k<=8796093022208):zl z:=Nat.le_trans h hk
theorem fs_rOf(n d:Int)(hd:d≠0)(h: -9223372036854775808<=n/\n<=9223372036854775807)(h2: -9223372036854775808<=d/\d<=9223372036854775807):FS 62 [i64 n,i64 d] (.agg (rC (rq (Rat.divInt n d)))):=by
 have hb:∀z:Int,-9223372036854775808<=z->z<=9223372036854775807->bl z.natAbs<=4398046511104:=fun z a h2=>Nat.le_trans (gM (k:=64) (by omega)) (by decide);refine f_c Tryz.func62 ?_;refine r_z 1 ?_;refine r_c 6 (qQ n h) ?_;refine c_s (qQ d h2) ?_;refine c_s (Bx n d hd (hb n h.1 h.2) (hb d h2.1 h2.2)) ?_;refine a_z ?_;exact ai (c_e (lP _))
theorem Bm(x:RQ):FS 168 [.agg (rC x)] (i64 (sgZ x.1.num)):=by
 refine f_c Tryz.func168 ?_;refine r_z 2 ?_;refine r_z 4 ?_;exact ai (t_e (ag _))
theorem fs_rMul(x y:RQ)(hx:rok x)(hy:rok y)(h:qs x.1+qs y.1<=1099511627776):FS 63 [.agg (rC x),.agg (rC y)] (.agg (rC (rq (x.1* y.1)))):=by
 obtain⟨a,d⟩:=x;obtain⟨b,l⟩:=y;simp only at h⊢;have hp:=rV a b;have j:=ez a;have f:=ed a;have k:=ez b;have g:=ed b;have n:=hp.1;have i:=hp.2;have c:(a.den:Int) * b.den≠0:=by have:=n8 a b;rw[<-Int.natCast_mul];omega
 have e:a* b=Rat.divInt (a.num* b.num) (a.den* b.den):=by
  rw[oE,<-Int.natCast_mul,<-Rat.divInt_ofNat]
 rw[e];have m:bl ((a.den:Int) * b.den).natAbs<=qs a+qs b:=by rw[<-Int.natCast_mul,Int.natAbs_natCast];exact i
 refine f_c Tryz.func63 ?_;refine r_z 3 ?_;refine ae (r_d a7 12 ?_);refine c_s (qP a.num b.num (o6 j (by omega)) (o6 k (by omega))) ?_;refine c_s (tR (a,d) hx) ?_;refine c_s (tR (b,l) hy) ?_;refine c_s (qP a.den b.den (o6 (by simpa using f) (by omega)) (o6 (by simpa using g) (by omega))) ?_;refine c_s (Bx (a.num* b.num) (a.den* b.den) c (by omega) (by omega)) ?_;refine a_1 ?_;refine aq (n_k ?_);exact ai (c_e (lP _))
theorem fs_rCmp(x y:RQ)(hx:rok x)(hy:rok y)(h:qs x.1+qs y.1<=1099511627776):FS 65 [.agg (rC x),.agg (rC y)] (i64 (fi x.1 y.1)):=by
 obtain⟨a,i⟩:=x;obtain⟨b,k⟩:=y;simp only at h⊢;have f:=ez a;have c:=ed a;have g:=ez b;have d:=ed b;have e1:=dC (x:=a.num) (y:=b.den) f (by simpa using d);have e2:=dC (x:=b.num) (y:=a.den) g (by simpa using c)
 have e:fi a b=eN (a.num* b.den) (b.num* a.den):=by
  rw[FW];unfold eN;obtain⟨u,j⟩:∃u,u=a.num* (b.den:Int):=⟨_,rfl⟩;obtain⟨v,hv⟩:∃v,v=b.num* (a.den:Int):=⟨_,rfl⟩;rw[<-j,<-hv];split;rfl;split <;> split <;> omega
 rw[e];refine f_c Tryz.func65 ?_;refine r_z 3 ?_;refine ae (r_d a7 12 ?_);refine c_s (tR (b,k) hy) ?_;refine c_s (qP a.num b.den (o6 f (by omega)) (o6 (by simpa using d) (by omega))) ?_;refine c_s (tR (a,i) hx) ?_;refine c_s (qP b.num a.den (o6 g (by omega)) (o6 (by simpa using c) (by omega))) ?_;refine c_s (fs_ZCmp (a.num* b.den) (b.num* a.den) (o6 e1 (by omega)) (o6 e2 (by omega))) ?_;refine a_1 ?_;refine aq (n_k ?_);exact ai (t_e (ag _))


end Go.Proofs.YtkbjakfniejkcaaGreatDoor
