/- Part V22 of the proof. -/
import Derived.Test.YtdgbhlkabelmbaaGreatDoorV21
set_option linter.all false
namespace Go.Proofs.YtdgbhlkabelmbaaGreatDoor
open Go.Abs
set_option maxRecDepth 20000
theorem Dw{o:List Nat}{j d:Nat}(h:o[j]?=some d):o.reverse[o.length- 1- j]?=some d:=by
 have a:j< o.length:=(List.getElem?_eq_some_iff.1 h).1;rw[List.getElem?_reverse (by omega),show o.length- 1- (o.length- 1- j)=j by omega];exact h
theorem Du{o:List Nat}{j v:Nat}(hj:j< o.length):o.reverse.set (o.length- 1- j) v=(o.set j v).reverse:=by
 apply List.ext_getElem?;intro i;by_cases hi:i< o.length;rw[List.getElem?_reverse (by simpa using hi),List.getElem?_set,List.getElem?_set,List.length_reverse,List.length_set];by_cases h:o.length- 1- j=i;rw[if_pos h,if_pos (by omega),if_pos (by omega),if_pos (by omega)];rw[if_neg h,if_neg (by omega),List.getElem?_reverse hi];rw[List.getElem?_eq_none (by simpa using hi),List.getElem?_eq_none (by simpa using hi)]
def zmS(x:Int)(y:Int):List Nat×Nat→AState
 |(o,i)=>⟨[(2,.lptr 1 0 0),(3,.lptr 2 0 0),(4,.lptr 3 0 0),(5,.lsl 4 0 ((zd x.natAbs).length+(zd y.natAbs).length) (some ((zd x.natAbs).length+(zd y.natAbs).length)) 1),(6,i64 (((zd x.natAbs).length:Int)- 1- i))],
  [(1,some ⟨72,2,[zZ x]⟩),(2,some ⟨72,2,[zZ y]⟩),(3,some ⟨72,2,[[i64 0,.emp]]⟩),(4,some ⟨3,1,iE o.reverse⟩)],5,76⟩
def zmT(x:Int)(y:Int)(i:Nat):List Nat×Nat×Nat→AState
 |(o,k,c)=>⟨[(2,.lptr 1 0 0),(3,.lptr 2 0 0),(4,.lptr 3 0 0),(5,.lsl 4 0 ((zd x.natAbs).length+(zd y.natAbs).length) (some ((zd x.natAbs).length+(zd y.natAbs).length)) 1),(6,i64 (((zd x.natAbs).length:Int)- 1- i)),(7,i64 c),(8,i64 (((zd y.natAbs).length:Int)- 1- k))],
  [(1,some ⟨72,2,[zZ x]⟩),(2,some ⟨72,2,[zZ y]⟩),(3,some ⟨72,2,[[i64 0,.emp]]⟩),(4,some ⟨3,1,iE o.reverse⟩)],5,76⟩
structure ZmI (a b:Nat)(x:List Nat×Nat):Prop where
 len:x.1.length=(aw UB a).length+(aw UB b).length
 le:x.2≤(aw UB a).length
 dig:∀d∈x.1,d< UB
 val:ofD UB x.1=ofD UB ((aw UB a).take x.2) * b
 zer:∀j,x.2+(aw UB b).length≤j→j< x.1.length→x.1[j]?=some 0
structure ZmJ (a b i v:Nat)(x:List Nat×Nat×Nat):Prop where
 len:x.1.length=(aw UB a).length+(aw UB b).length
 le:x.2.1≤(aw UB b).length
 dig:∀d∈x.1,d< UB
 car:x.2.2< UB
 val:ofD UB x.1+UB^ (i+x.2.1) * x.2.2=ofD UB ((aw UB a).take i) * b+UB^ i* v* ofD UB ((aw UB b).take x.2.1)
 zer:∀j,i+(aw UB b).length≤j→j< x.1.length→x.1[j]?=some 0
theorem sgZ_mul(x y:Int):sgZ (x* y)=sgZ x* sgZ y:=by
 rcases c8 x with⟨a,b⟩|⟨a,b⟩|⟨a,b⟩<;> rcases c8 y with⟨c,d⟩|⟨c,d⟩|⟨c,d⟩<;> rw[a,c]<;> rcases c8 (x* y) with⟨e,f⟩|⟨e,f⟩|⟨e,f⟩<;> rw[e]<;> first|rfl|(exfalso;subst_vars;simp at f;done)|(exfalso;have:=Int.mul_pos_of_neg_of_neg b d;omega)|(exfalso;have:=Int.mul_neg_of_neg_of_pos b d;omega)|(exfalso;have:=Int.mul_neg_of_pos_of_neg b d;omega)|(exfalso;have:=Int.mul_pos b d;omega)
theorem pI(x y:Int)(hx:zl x)(hy:zl y):FS 99 [.agg (zZ x),.agg (zZ y)] (.agg (zZ (x* y))):=by
 have hlx:=wQ hx;have hly:=wQ hy;have A:=cI x.natAbs;have t:=cI y.natAbs;obtain⟨a,ha⟩:∃a,a=x.natAbs:=⟨_,rfl⟩;obtain⟨b,hb⟩:∃b,b=y.natAbs:=⟨_,rfl⟩;have va:=bt (b:=UB) (by decide) a;have vb:=bt (b:=UB) (by decide) b
 have T: -9223372036854775808≤sgZ x* sgZ y∧sgZ x* sgZ y≤9223372036854775807:=by
  rcases c8 x with⟨h,_⟩|⟨h,_⟩|⟨h,_⟩<;> rcases c8 y with⟨h',_⟩|⟨h',_⟩|⟨h',_⟩<;> rw[h,h']<;> decide
 refine f_c Tryz.func99 ?_;subst ha hb;refine r_z 3 ?_;refine r_z 9 ?_;refine ae (r_z 5 ?_);refine aG (zmS x y) (fun v=>ZmI x.natAbs y.natAbs v∧v.2=(aw UB x.natAbs).length) ?_ ?_;refine aj (aB (zmS x y) (fun v=>(aw UB x.natAbs).length- v.2) (ZmI x.natAbs y.natAbs) (List.replicate ((aw UB x.natAbs).length+(aw UB y.natAbs).length) 0,0) ⟨by simp,by simp,?_,by simp[qA,ofD],?_⟩ ?_ ?_);intro d K;simp at K;rw[K.2];decide;intro j _ H;simp at H;simp[H];simp only[zmS.eq_1];refine s_x [(1,2),(2,3),(3,4),(4,5)] (fun hs=>?_) (fun hs=>?_) ?_
 ·repeat' (first|exact aN|refine aA rfl ?_ ?_|exact aV|(refine Cv.loE hs ?_ (ag _);first|rfl|(simp[i64,u64,u32,bln,A,t];done)|(simp[i64,u64,u32,bln,A,t]<;> omega)))
 ·repeat' (first|exact aE|refine h_c ?_ ?_|exact bC|(refine aI hs ?_ (dw _);first|(simp[nT,mW,jd,A,t];done)|(simp[iE,i64,ofV,A,t];done))|refine az ?_|exact av|refine ah ?_ ?_|exact aV|(refine Cv.loE hs ?_ (ag _);first|(simp[i64,u64,u32,bln,A,t];done)|(simp[i64,u64,u32,bln,A,t]<;> omega)))
 ·repeat' (first|exact ShrL.nil|refine ShrL.cons rfl rfl rfl rfl (by first|rfl|(simp;done)|(simp[A,t]<;> omega)) ?_)
 rintro⟨o,i⟩ ⟨s,E,p,e,r⟩;simp only at s E p e r;rw[zmS.eq_1];refine ae (r_z 2 ?_);refine ap rfl (fun h=>?_) (fun h=>?_);have S:i< (aw UB x.natAbs).length:=by have:=of_decide_eq_true h;omega
 obtain⟨u,U⟩:∃u,(aw UB x.natAbs)[i]?=some u:=⟨_,List.getElem?_eq_getElem S⟩;have hu1:u< 32768:=cv (by decide) U
 have L:(iE (zd x.natAbs))[(((zd x.natAbs).length:Int)- 1- i).toNat]?=some [i64 u]:=by
  rw[show(((zd x.natAbs).length:Int)- 1- i).toNat=(aw UB x.natAbs).length- 1- i by omega];exact ko (wR U)
 refine ak (ae (aj (r_z 1 ?_)));refine ae (r_z 5 ?_);refine aG (zmT x y i) (fun v=>ZmJ x.natAbs y.natAbs i u v∧v.2.1=(aw UB y.natAbs).length) ?_ ?_;refine aj (aB (zmT x y i) (fun v=>(aw UB y.natAbs).length- v.2.1) (ZmJ x.natAbs y.natAbs i u) (o,0,0) ⟨s,by simp,p,(show 0< UB by decide),by simp[e,ofD],r⟩ ?_ ?_);simp only[zmT.eq_1];exact s_e [];rintro⟨q,k,c⟩ ⟨n,D,f,g,m,l⟩;simp only at n D f g m l;rw[zmT.eq_1];refine ae (r_z 2 ?_);refine ap rfl (fun h=>?_) (fun h=>?_);have N:k< (aw UB y.natAbs).length:=by have:=of_decide_eq_true h;omega
 obtain⟨v,hv⟩:∃v,(aw UB y.natAbs)[k]?=some v:=⟨_,List.getElem?_eq_getElem N⟩;have Z:v< 32768:=cv (by decide) hv
 have M:(iE (zd y.natAbs))[(((zd y.natAbs).length:Int)- 1- k).toNat]?=some [i64 v]:=by
  rw[show(((zd y.natAbs).length:Int)- 1- k).toNat=(aw UB y.natAbs).length- 1- k by omega];exact ko (wR hv)
 obtain⟨d,K⟩:∃d,q[i+k]?=some d:=⟨_,List.getElem?_eq_getElem (by omega)⟩;have hd1:d< 32768:=f d (List.mem_of_getElem? K);have R:c< 32768:=g;have hidx:(((zd x.natAbs).length:Int)- 1- i+(((zd y.natAbs).length:Int)- 1- k)+1).toNat=q.length- 1- (i+k):=by omega
 have hg:(iE q.reverse)[0+(((zd x.natAbs).length:Int)- 1- i+(((zd y.natAbs).length:Int)- 1- k)+1).toNat]?=some [i64 d]:=by rw[hidx,Nat.zero_add];exact ko (Dw K)
 have C:∀w:Nat,(iE q.reverse).set (0+(((zd x.natAbs).length:Int)- 1- i+(((zd y.natAbs).length:Int)- 1- k)+1).toNat) [i64 w]=iE (q.set (i+k) w).reverse:=by intro w;rw[hidx,Nat.zero_add,nT,Du (by omega)]
 have W:u* v≤32767* 32767:=Nat.mul_le_mul (by omega) (by omega);have F:(u:Int) * v=((u* v:Nat):Int):=by push_cast;rfl
 refine ak ?_;have V:0≤(u:Int) * v:=Int.mul_nonneg (by omega) (by omega);refine ae (aj (ae (r_d a6 22 ?_)));refine a_5 ?_
 first|refine aF (.index_l rfl rfl (by omega) (by omega) te_70.h) rfl rfl ?_|refine aF (.index_a rfl rfl (by omega) hg rfl te_70.h) rfl rfl ?_
 first|refine aF (.load_l1 rfl rfl hg TG.h rfl) rfl rfl ?_|refine aF (.load_a1 rfl hg TG.h rfl) rfl rfl ?_
 refine a_3 ?_;refine i_x L ?_;refine l_1 L ?_;refine a_3 ?_;refine i_x M ?_;refine l_1 M ?_;refine a_5 ?_;refine ao (n_k ?_);refine s_r 9 ?_;refine a_8 ?_;refine dX (.store rfl rfl hg rfl rfl rfl TS.h (nle rfl)) ?_;refine ao ?_;refine r_m 3 ?_;refine a_z ?_;refine r_m 3 ?_;refine a_z ?_;have hm:((d:Int)+(u:Int) * v+c) % 32768=(((d+u* v+c) % 32768:Nat):Int):=by rw[F];omega
 have X:((d:Int)+(u:Int) * v+c) / 32768=(((d+u* v+c) / 32768:Nat):Int):=by rw[F];omega
 refine⟨(q.set (i+k) ((d+u* v+c) % 32768),k+1,(d+u* v+c) / 32768),by simp;omega,⟨by simp[n],by simp;omega,sx f (Nat.mod_lt _ (by decide)),?_,?_,?_⟩,?_⟩;show _< 32768;simp only;omega;simp only;have e1:=ph UB ((d+u* v+c) % 32768) K;have e2:=Nat.mod_add_div (d+u* v+c) 32768
 have e3:UB^ (i+k) * ((d+u* v+c) % 32768)+UB^ (i+(k+1)) * ((d+u* v+c) / 32768)=UB^ (i+k) * d+UB^ (i+k) * (u* v)+UB^ (i+k) * c:=by
  rw[←Nat.add_assoc i k 1,Nat.pow_succ,Nat.mul_assoc,←Nat.mul_add,show UB* ((d+u* v+c) / 32768)=32768* ((d+u* v+c) / 32768) from rfl,e2,Nat.mul_add,Nat.mul_add]
 have e4:UB^ i* u* ofD UB ((aw UB y.natAbs).take (k+1))=UB^ i* u* ofD UB ((aw UB y.natAbs).take k)+UB^ (i+k) * (u* v):=by
  rw[cC _ hv,Nat.mul_add];congr 1;rw[Nat.pow_add];simp only[Nat.mul_assoc,Nat.mul_left_comm,Nat.mul_comm]
 rw[e4];omega;intro j H G;rw[List.getElem?_set_ne (by omega)];exact l j H (by simpa using G);simp only[zmT.eq_1];have B:=C ((d+u* v+c) % 32768);rw[←hm] at B;refine s_x [] (fun hs=>?_) (fun hs=>?_) ?_
 ·repeat' (first|exact aN|refine aA rfl ?_ ?_|exact Cv.loE hs (congrArg (fun z=>AV.v (.int .i64 z)) X) (ag _)|exact aV)
 ·repeat' (first|exact aE|refine h_c ?_ ?_|exact aI hs B (dw _)|exact bC|refine az ?_|exact av|refine ah ?_ ?_|exact Cv.loE hs (congrArg (fun z=>AV.v (.int .i64 z)) X) (ag _)|exact aV)
 ·repeat' (first|exact ShrL.nil|refine ShrL.cons rfl rfl rfl rfl (by first|(exact congrArg List.length B)|rfl|(simp;done)|(simp <;> omega)) ?_)
 have O:k=(aw UB y.natAbs).length:=by have:=of_decide_eq_false h;omega
 refine ay ⟨(q,k,c),⟨⟨n,D,f,g,m,l⟩,O⟩,?_⟩;simp only[zmT.eq_1];exact s_e [];rintro⟨q,k,c⟩ ⟨⟨n,D,f,g,m,l⟩,O⟩;simp only at n D f g m l O;subst O;have R:c< 32768:=g;have Y:=l (i+(aw UB y.natAbs).length) (Nat.le_refl _) (by omega);have hidx:(((zd x.natAbs).length:Int)- 1- i).toNat=q.length- 1- (i+(aw UB y.natAbs).length):=by omega
 have hg:(iE q.reverse)[0+(((zd x.natAbs).length:Int)- 1- i).toNat]?=some [i64 0]:=by rw[hidx,Nat.zero_add];exact ko (Dw Y)
 have C:(iE q.reverse).set (0+(((zd x.natAbs).length:Int)- 1- i).toNat) [i64 c]=iE (q.set (i+(aw UB y.natAbs).length) c).reverse:=by rw[hidx,Nat.zero_add,nT,Du (by omega)]
 rw[List.take_length,vb] at m;rw[zmT.eq_1];refine r_m 5 ?_;refine a_4 ?_;refine dX (.store rfl rfl hg rfl rfl rfl TS.h (nle rfl)) ?_;refine ao ?_;refine r_m 3 ?_;refine a_z ?_;refine⟨(q.set (i+(aw UB y.natAbs).length) c,i+1),by simp;omega,⟨by simp[n],by simp;omega,sx f g,?_,?_⟩,?_⟩;simp only;have e1:=ph UB c Y;rw[cC _ U,Nat.add_mul,←m];omega;intro j H G;rw[List.getElem?_set_ne (by simp only at H;omega)];exact l j (by simp only at H;omega) (by simpa using G);simp only[zmS.eq_1];refine s_x [] (fun hs=>dU) (fun hs=>?_) e_35
 ·repeat' (first|exact aE|refine h_c ?_ ?_|refine aI hs C (dw _)|exact bC)
 have Q:i=(aw UB x.natAbs).length:=by have:=of_decide_eq_false h;omega
 refine ay ⟨(o,i),⟨⟨s,E,p,e,r⟩,Q⟩,?_⟩;simp only[zmS.eq_1];exact s_e [];rintro⟨o,i⟩ ⟨⟨s,E,p,e,r⟩,Q⟩;simp only at s E p e r Q;subst Q;rw[List.take_length,va] at e;rw[zmS.eq_1];have hol:o.length=(zd x.natAbs).length+(zd y.natAbs).length:=by omega
 have hw:=j4 (sgZ x* sgZ y) o.reverse (x* y) (by simp;omega) (fun d h=>p d (List.mem_reverse.1 h)) (by unfold hv;rw[List.reverse_reverse,e,Int.natAbs_mul]) (fun _=>(sgZ_mul x y).symm);have J:((iE o.reverse).drop 0).take ((zd x.natAbs).length+(zd y.natAbs).length)=iE o.reverse:=by rw[List.drop_zero,List.take_of_length_le (by simp;omega)]
 refine s_r 8 ?_;refine a_4 ?_;refine o_0 (.bin rfl rfl (u9 T)) ?_;refine a_1 ?_;refine o_1 (.callS1 rfl rfl rfl (.keep (.shut rfl d_n (.nil))) rfl ((by rw[J];exact hw))) ?_;refine a_z ?_;exact ai (c_e (cM _))
theorem Fv{b:Nat}(hb:1< b):∀(j n:Nat),(aw b n)[j]?.getD 0=n/ b^ j % b:=by
 intro j
 induction j with
 |zero=>
  intro n;rcases Nat.eq_zero_or_pos n with rfl|a
  rw[ct];simp;rw[fa hb a];simp
 |succ j c=>
  intro n;rcases Nat.eq_zero_or_pos n with rfl|a
  rw[ct];simp;rw[fa hb a,List.getElem?_cons_succ,c,Nat.div_div_eq_div_mul,Nat.pow_succ,Nat.mul_comm b]
def Cw(n:Nat)(long:Nat)(k:Nat):Nat→AState
 |i=>⟨[(0,.arr (iE (zd n))),(1,i64 long),(2,i64 k),(7,i64 (n/ UB^ (long- i):Nat)),(8,i64 i)],[],1,24⟩
theorem pF(n long k:Nat)(hk:k≤4)(hkl:k≤long)(hn:n< UB^ long)(hl:(zd n).length≤281474976710656)(hlo:long≤281474976710656):FS 218 [.arr (iE (zd n)),i64 long,i64 k] (i64 (n/ UB^ (long- k):Nat)):=by
 have bound:∀i,i≤k→n/ UB^ (long- i)< 1152921504606846976:=by
  intro i l
  have h1:n/ UB^ (long- i)< UB^ i:=by
   rw[Nat.div_lt_iff_lt_mul (Nat.pow_pos (by decide)),←Nat.pow_add,show i+(long- i)=long by omega];exact hn
  exact Nat.lt_of_lt_of_le h1 (Nat.pow_le_pow_right (n:=32768) (j:=4) (by decide) (by omega))
 refine f_c Tryz.func218 ?_;refine r_z 1 ?_;refine r_z 1 ?_;refine ae (r_z 1 ?_);refine aG (Cw n long k) (fun i=>i=k) ?_ ?_;refine aj (aB (Cw n long k) (fun i=>k- i) (fun i=>i≤k) 0 (Nat.zero_le _) ?_ ?_);simp only[Cw.eq_1];have e:AV.v (.int .i64 0)=i64 (n/ UB^ (long- 0):Nat):=by rw[Nat.sub_zero,Nat.div_eq_of_lt hn];rfl
 exact s_f [];intro i l;rw[Cw.eq_1];refine ae (r_z 3 ?_);refine ap rfl (fun h=>?_) (fun h=>?_);have a:i< k:=by simpa using h
 have c:=uq (zd n) (long- 1- i) hl;unfold zd at c;rw[List.reverse_reverse,Fv (by decide),show((long- 1- i:Nat):Int)=(long:Int)- 1- i by omega] at c;have e1:=Nat.div_add_mod (n/ UB^ (long- 1- i)) UB;rw[Nat.div_div_eq_div_mul,←Nat.pow_succ,show(long- 1- i).succ=long- i by omega] at e1;have hb:=bound (i+1) a;rw[show long- (i+1)=long- 1- i by omega] at hb;have b:n/ UB^ (long- 1- i) % UB< 32768:=Nat.mod_lt _ (by decide);obtain⟨V,f⟩:∃V,V=n/ UB^ (long- i):=⟨_,rfl⟩;obtain⟨D,g⟩:∃D,D=n/ UB^ (long- 1- i) % UB:=⟨_,rfl⟩;have o:V< 1152921504606846976:=by rw[f];exact bound i l
 rw[←f,←g] at e1;rw[←g] at c b;rw[←f];have p:32768* V+D=n/ UB^ (long- 1- i):=e1
 have e2:(V:Int) * 32768+D=((n/ UB^ (long- (i+1)):Nat):Int):=by
  rw[show long- (i+1)=long- 1- i by omega,←p];omega
 have m:V* 32768+D< 1152921504606846976:=by omega
 refine ak (ae (aj (r_m 10 ?_)));refine c_s (c) ?_;refine a_z ?_;refine r_m 3 ?_;refine a_z ?_;refine⟨i+1,by omega,a,?_⟩;simp only[Cw.eq_1];have:=(congrArg (fun z=>AV.v (.int .i64 z)) e2);exact s_f [];have d:i=k:=by simp at h;omega
 refine ay ⟨i,d,?_⟩;simp only[Cw.eq_1];exact s_e [];rintro i rfl;rw[Cw.eq_1];refine r_z 2 ?_;refine ai (aW rfl rfl (ag _))
def tw(D:Nat):Nat×Nat→AState
 |(R,k)=>⟨[(0,.arr (iE (zd R))),(1,.arr (iE (zd D))),(6,i64 k)],[],1,57⟩
theorem est_le{R D e:Nat}(he:0< e):R/ e/ (D/ e+1) * D≤R:=by
 have h1:R/ e/ (D/ e+1) * (D/ e+1)≤R/ e:=Nat.div_mul_le_self _ _;have b:R/ e* e≤R:=Nat.div_mul_le_self _ _
 have a:D< (D/ e+1) * e:=by
  have:=Nat.lt_mul_div_succ D he;rw[Nat.mul_comm];exact this
 have c:R/ e/ (D/ e+1) * D≤R/ e/ (D/ e+1) * ((D/ e+1) * e):=Nat.mul_le_mul_left _ (Nat.le_of_lt a)
 have d:R/ e/ (D/ e+1) * ((D/ e+1) * e)≤R/ e* e:=by
  rw[←Nat.mul_assoc];exact Nat.mul_le_mul_right _ h1
 omega
theorem zZ_pos{D:Nat}(h:0< D):zZ (D:Int)=[i64 1,.arr (iE (zd D))]:=by
 unfold zZ sgZ;rw[if_neg (by omega),if_neg (by omega),Int.natAbs_natCast]
theorem Hn(R D:Nat)(hD:0< D)(hR:R< UB* D)(hb:bl D≤4398046511104):FS 178 [.arr (iE (zd R)),.arr (iE (zd D))] (.tup [i64 (R/ D:Nat),.arr (iE (zd (R % D)))]):=by
 have X:=cI R;have u:=cI D;have hlD:=bR (b:=UB) (by decide) D;have hlR:=bR (b:=UB) (by decide) R
 have hbR:bl R≤bl D+16:=by
  have h1:=dJ (Nat.le_of_lt hR);have L:=iH UB D;have O:bl UB=16:=by decide
  omega
 obtain⟨n,q⟩:∃n,n=(zd D).length:=⟨_,rfl⟩
 have Y:1≤n:=by
  have:zd D≠[]:=fun h=>by have:=zd_eq_nil.1 h;omega
  have:=List.length_pos_iff.2 this;omega
 have i:D< UB^ n:=by
  have:=DV (js D);rwa[kM,←q] at this
 have l:R< UB^ (n+1):=by
  rw[Nat.pow_succ,Nat.mul_comm];exact Nat.lt_of_lt_of_le hR (Nat.mul_le_mul_left _ (Nat.le_of_lt i))
 have p:∀k,k* D≤R→k< UB:=by
  intro k E;refine Nat.lt_of_not_le fun h=>?_;have:=Nat.mul_le_mul_right D h;omega
 refine f_c Tryz.func178 ?_;refine r_z 2 ?_;refine r_z 1 ?_;refine r_z 3 ?_;refine bi (fun k:Nat=>tw D (R,k)) (fun k=>k* D≤R) ?_ ?_;refine r_z 4 ?_;refine ap rfl (fun h=>?_) (fun h=>?_);have y:(zd D).length≤(zd R).length:=by simpa using h
 refine r_z 2 ?_;refine ap rfl (fun h1=>?_) (fun h1=>?_);have O:n≤3:=by rw[q];have:=of_decide_eq_true h1;omega
 have d:=pF R (n+1) (n+1) (by omega) (Nat.le_refl _) l (by omega) (by omega);have f:=pF D n n (by omega) (Nat.le_refl _) i (by omega) (by omega);rw[Nat.sub_self,Nat.pow_zero,Nat.div_one] at d f;rw[q] at d f;have t:(R:Int) / D=(R/ D:Nat):=(Int.natCast_ediv _ _).symm;have V:R< 1152921504606846976:=Nat.lt_of_lt_of_le l (Nat.pow_le_pow_right (n:=32768) (j:=4) (by decide) (by omega));refine r_m 12 ?_;refine c_s (d) ?_;refine c_s (f) ?_;refine a_z ?_;refine⟨R/ D,Nat.div_mul_le_self _ _,?_⟩;simp only[tw.eq_1];have:=(congrArg (fun z=>AV.v (.int .i64 z)) t);exact s_f [];have O:3< n:=by rw[q];have:=of_decide_eq_false h1;omega
 have d:=pF R (n+1) 4 (by omega) (by omega) l (by omega) (by omega);have f:=pF D n 3 (by omega) (by omega) i (by omega) (by omega);rw[show n+1- 4=n- 3 by omega] at d;obtain⟨e,w⟩:∃e,e=UB^ (n- 3):=⟨_,rfl⟩;have o:0< e:=by rw[w];exact Nat.pow_pos (by decide)
 rw[←w] at d f
 have C:R/ e< 1152921504606846976:=by
  rw[Nat.div_lt_iff_lt_mul o,w];have F:UB^ 4=1152921504606846976:=by decide
  have:UB^ (n+1)=1152921504606846976* UB^ (n- 3):=by
   rw[show n+1=4+(n- 3) by omega,Nat.pow_add,F]
  omega
 have H:D/ e< 35184372088832:=by
  rw[Nat.div_lt_iff_lt_mul o,w];have F:UB^ 3=35184372088832:=by decide
  have:UB^ n=35184372088832* UB^ (n- 3):=by
   rw[←F,←Nat.pow_add];congr 1;omega
  omega
 rw[q] at d f
 have t:((R/ e:Nat):Int) / (((D/ e:Nat):Int)+1)=(R/ e/ (D/ e+1):Nat):=by
  rw[show(((D/ e:Nat):Int)+1)=((D/ e+1:Nat):Int) by omega];exact(Int.natCast_ediv _ _).symm
 have a:=est_le (R:=R) (D:=D) o;obtain⟨A,hA⟩:∃A,A=R/ e:=⟨_,rfl⟩;obtain⟨B,hB⟩:∃B,B=D/ e:=⟨_,rfl⟩;rw[←hA] at d C t a;rw[←hB] at f H t a;refine r_m 10 ?_;refine c_s (d) ?_;refine c_s (f) ?_;refine a_z ?_;refine⟨A/ (B+1),a,?_⟩;simp only[tw.eq_1];have:=(congrArg (fun z=>AV.v (.int .i64 z)) t);exact s_f [];refine ak ⟨0,by simp,?_⟩;simp only[tw.eq_1];exact s_e [];rintro k E;have K:=p k E;have U:k< 32768:=K;rw[tw.eq_1];refine bi (fun _:Unit=>tw D (R- k* D,k)) (fun _=>True) ?_ ?_;refine r_z 2 ?_;refine ap rfl (fun h1=>?_) (fun h1=>?_)
 have x:zl (k:Int):=by
  unfold zl;rw[Int.natAbs_natCast];have:=hZ (n:=k) (k:=15) (by omega);omega
 have u:zl (D:Int):=by unfold zl;rw[Int.natAbs_natCast];omega
 have T:=pI (k:Int) (D:Int) x u;rw[zZ_pos hD] at T;have g:((k:Int) * (D:Int)).natAbs=k* D:=by rw[←Int.natCast_mul,Int.natAbs_natCast]
 have W:bl (k* D)≤bl D+16:=by
  have:=dJ E;omega
 have Z:=bR (b:=UB) (by decide) (k* D);have m:=pH R (k* D) (-1) (R- k* D) (.inr rfl) (by omega) (by omega) (by rw[cI];omega);rw[←g] at m;rw[g] at m;refine r_m 9 ?_;refine c_s (pJ k (by omega)) ?_;refine c_s (T) ?_
 first|refine aF (.field rfl TF.h TA.h (nle rfl)) rfl rfl ?_|refine aF (.field1 rfl TF.h TA.h rfl) rfl rfl ?_
 refine o_0 (.call rfl rfl rfl ((by rw[g];exact m))) ?_;refine o_0 (.assign rfl) ?_;refine ao ?_;refine⟨(),trivial,?_⟩;simp only[tw.eq_1];exact s_e [];have J:k=0:=by simp at h1;omega
 subst J;refine ak ⟨(),trivial,?_⟩;simp only[tw.eq_1,Nat.zero_mul,Nat.sub_zero];exact s_e [];rintro _ _;rw[tw.eq_1];refine bi (tw D) (fun v=>v.1=R % D∧v.2=R/ D) ?_ ?_;refine aj (aB (tw D) (fun v=>v.1) (fun v=>v.1+v.2* D=R∧v.1≤R) (R- k* D,k) ⟨by simp only;omega,by simp only;omega⟩ ?_ ?_);simp only[tw.eq_1];exact s_e [];rintro⟨c,s⟩ ⟨hv,a⟩;simp only at hv a;have Q:bl c≤bl D+16:=by have:=dJ a;omega
 have N:=bR (b:=UB) (by decide) c;have M:=cI c;have G:=p s (by omega);have S:s< 32768:=G;rw[tw.eq_1];refine ae (r_c 4 (Ab c D (by omega) (by omega)) ?_);refine a_z ?_;refine ap rfl (fun h=>?_) (fun h=>?_)
 have y:D≤c:=by
  have:=of_decide_eq_true h;unfold eu at this;split at this <;> omega
 refine ak (aj (r_c 4 (pH c D (-1) (c- D) (.inr rfl) (by omega) (by omega) (by omega)) ?_));refine a_z ?_;refine r_m 3 ?_;refine a_z ?_;refine⟨(c- D,s+1),by simp only;omega,⟨by simp only;rw[Nat.add_mul];omega,by simp only;omega⟩,?_⟩;simp only[tw.eq_1];exact s_e []
 have r:c< D:=by
  have:=of_decide_eq_false h;unfold eu at this;split at this;omega;split at this <;> omega
 refine ay ⟨(c,s),⟨?_,?_⟩,?_⟩;simp only;rw[←hv,Nat.add_mul_mod_self_right,Nat.mod_eq_of_lt r];simp only;rw[←hv,Nat.add_mul_div_right _ _ hD,Nat.div_eq_of_lt r,Nat.zero_add];simp only[tw.eq_1];exact s_e [];rintro⟨c,s⟩ ⟨h1,L⟩;simp only at h1 L;subst h1 L;rw[tw.eq_1];refine r_z 4 ?_;refine ai (Fin.many ⟨_,_,rfl,rfl,⟨_,_,rfl,rfl,rfl⟩⟩ (nle rfl) ?_);exact ah (am aD (ag _)) (ah (am aD (eK _)) av)
def EI(A D:Nat):List Nat→Nat→Nat→AState
 |[],R,i=>⟨[(0,.arr (iE (zd A))),(1,.arr (iE (zd D))),(6,.emp),(7,.arr (iE (zd R))),(8,i64 i)],[],1,54⟩
 |q::Q,R,i=>⟨[(0,.arr (iE (zd A))),(1,.arr (iE (zd D))),(6,.lsl 1 0 (Q.length+1) none 1),(7,.arr (iE (zd R))),(8,i64 i)],[(1,some ⟨3,1,iE (q::Q)⟩)],2,54⟩
theorem iN(A D R i:Nat):EI A D [] R i=⟨[(0,.arr (iE (zd A))),(1,.arr (iE (zd D))),(6,.emp),(7,.arr (iE (zd R))),(8,i64 i)],[],1,54⟩:=rfl
theorem fL(A D:Nat)(q:Nat)(Q:List Nat)(R i:Nat):EI A D (q::Q) R i=⟨[(0,.arr (iE (zd A))),(1,.arr (iE (zd D))),(6,.lsl 1 0 (Q.length+1) none 1),(7,.arr (iE (zd R))),(8,i64 i)],[(1,some ⟨3,1,iE (q::Q)⟩)],2,54⟩:=rfl
theorem Gk{P D R a:Nat}(hD:0< D)(hR:R=P % D)(ha:a< UB):R* UB+a< UB* D∧(P* UB+a) / D=P/ D* UB+(R* UB+a) / D∧(P* UB+a) % D=(R* UB+a) % D∧(R* UB+a) / D< UB:=by
 have h1:=Nat.div_add_mod P D;have d:=Nat.mod_lt P hD;rw[←hR] at h1 d
 have c:R* UB+a< UB* D:=by
  have:(R+1) * UB≤D* UB:=Nat.mul_le_mul_right _ d;rw[Nat.add_mul,Nat.one_mul,Nat.mul_comm D] at this;omega
 have b:P* UB+a=D* (P/ D* UB)+(R* UB+a):=by
  conv=>lhs;rw[←h1]
  rw[Nat.add_mul,Nat.mul_assoc,Nat.add_assoc]
 refine⟨c,?_,?_,?_⟩;rw[b,Nat.mul_add_div hD];rw[b,Nat.mul_add_mod];rw[Nat.div_lt_iff_lt_mul hD];exact c
theorem ug(A D:Nat)(hD:0< D)(hA:bl A≤4398046511104)(hb:bl D≤4398046511104):FS 141 [.arr (iE (zd A)),.arr (iE (zd D))] (.tup [.arr (iE (zd (A/ D))),.arr (iE (zd (A % D)))]):=by
 have U:=cI A;have H:=cI D;have X:=bR (b:=UB) (by decide) D;have N:=bR (b:=UB) (by decide) A;obtain⟨n,M⟩:∃n,n=(zd D).length:=⟨_,rfl⟩
 have T:1≤n:=by
  have:zd D≠[]:=fun h=>by have:=zd_eq_nil.1 h;omega
  have:=List.length_pos_iff.2 this;omega
 have O:UB^ (n- 1)≤D:=by
  rcases rO (b:=UB) (n:=D) (by decide) with h|h
  rwa[←H,←M] at h;omega
 refine f_c Tryz.func141 ?_;refine r_z 2 ?_;refine ae (r_z 5 ?_);refine ap rfl (fun h=>?_) (fun h=>?_);have z:(zd A).length< (zd D).length:=by have:=of_decide_eq_true h;omega
 have B:A< D:=jm (b:=UB) (by decide) (by omega);refine r_z 3 ?_;refine ai (Fin.many ⟨_,_,rfl,rfl,⟨_,_,rfl,rfl,rfl⟩⟩ (nle rfl) ?_);rw[Nat.div_eq_of_lt B,Nat.mod_eq_of_lt B,oF];exact ah (Cv.emp _) (ah (am aD (eK _)) av);have y:n≤(zd A).length:=by have:=of_decide_eq_false h;omega
 refine ak (r_z 1 ?_);obtain⟨E,r⟩:∃E,E=hv ((zd A).take (n- 1)):=⟨_,rfl⟩
 have t:E< D:=by
  have h1:=DV (l:=(zd A).take (n- 1)) fun d g=>js A d (List.mem_of_mem_take g);rw[←r] at h1;have h2:UB^ ((zd A).take (n- 1)).length≤UB^ (n- 1):=Nat.pow_le_pow_right (by decide) (by simp;omega);omega
 have s:=iP ((zd A).take (n- 1)) (by simp;omega);rw[fH (fun d g=>js A d (List.mem_of_mem_take g)),←r] at s;refine bi (fun _:Unit=>⟨[(0,.arr (iE (zd A))),(1,.arr (iE (zd D))),(6,.emp),(7,.arr (iE (zd E)))],[],1,54⟩) (fun _=>True) ?_ ?_;by_cases hn2:n=1;rw[hn2] at s;refine r_m 8 ?_;refine a_4 ?_;refine o_0 (.sa_h rfl rfl (h:=0) (by omega) (by simp) te_70.h (lj _)) ?_;refine o_0 (.append0 rfl rfl rfl te_70.h rfl rfl rfl (.arr (es:=[]) (by simp))) ?_;refine c_s (s) ?_;refine a_z ?_;refine⟨(),trivial,?_⟩;exact s_e []
 ·have C:(iE (zd A)).take (n- 1)≠[]:=fun h=>by
   have:=congrArg List.length h;rw[List.length_take,qI,List.length_nil] at this;omega
  have k:List.take ((iE (zd A)).take (n- 1)).length (List.drop 0 ((iE (zd A)).take (n- 1)))=iE ((zd A).take (n- 1)):=by rw[List.drop_zero,List.take_length,iE_take]
  refine r_m 8 ?_;refine a_4 ?_;refine o_0 (.sa_h rfl rfl (h:=n- 1) (by omega) (by simp;omega) te_70.h (lj _)) ?_;refine o_1 (.append_e rfl rfl rfl te_70.h rfl rfl rfl (.arr (fun e he=>lj _ e (List.mem_of_mem_take he))) (by first|assumption|(simp;done)) TZ.h rfl TB.h d_o (by first|(simp[maxLen];done)|(simp[maxLen];omega))) ?_;refine o_1 (.callS1 rfl rfl rfl (.shut rfl d_n (.nil)) rfl ((by rw[k];exact s))) ?_;refine a_z ?_;refine⟨(),trivial,?_⟩;exact s_e []
 rintro _ _;refine ae (r_z 4 ?_);refine aG (fun x:List Nat×Nat=>EI A D x.1 x.2 (zd A).length) (fun x=>(∀d∈x.1,d< UB)∧hv x.1=A/ D∧x.2=A % D∧x.1.length≤(zd A).length) ?_ ?_;refine aj (aB (fun x:List Nat×Nat×Nat=>EI A D x.1 x.2.1 x.2.2) (fun x=>(zd A).length- x.2.2) (fun x=>x.2.2≤(zd A).length∧(∀d∈x.1,d< UB)∧hv x.1=hv ((zd A).take x.2.2) / D∧x.2.1=hv ((zd A).take x.2.2) % D∧x.1.length≤x.2.2) ([],E,n- 1) ⟨by simp only;omega,by simp,by simp only;rw[←r,Nat.div_eq_of_lt t];rfl,by simp only;rw[←r,Nat.mod_eq_of_lt t],by simp⟩ ?_ ?_);simp only[iN];exact s_e [];rintro⟨Q,R,i⟩ ⟨W,m,hQ,p,j⟩;simp only at W m hQ p j
 -- the head,whatever the quotient so far
 by_cases z:i< (zd A).length
 ·obtain⟨a,u⟩:∃a,(zd A)[i]?=some a:=⟨_,List.getElem?_eq_getElem z⟩
  have ha:a< UB:=js A a (List.mem_of_getElem? u);have f:(iE (zd A))[((i:Nat):Int).toNat]?=some [i64 a]:=ko u;have o:hv ((zd A).take (i+1))=hv ((zd A).take i) * UB+a:=by rw[cx u,pq]
  obtain⟨P,Z⟩:∃P,P=hv ((zd A).take i):=⟨_,rfl⟩;rw[←Z] at hQ p o;obtain⟨s1,s2,L,J⟩:=Gk hD p ha;have G:R< D:=by rw[p];exact Nat.mod_lt _ hD
  have Y:=bR (b:=UB) (by decide) R;have V:=dJ (Nat.le_of_lt G);have S:=cI R;have F:=Hn (R* UB+a) D hD s1 hb;cases Q with
  |nil=>
   simp only[iN];refine ae (r_z 4 ?_);refine ap rfl (fun h=>?_) (fun h=>?_);rotate_left;exact absurd h (by simp;omega);refine ak (ae (aj (bi (fun _:Unit=>EI A D [] (R* UB+a) i) (fun _=>True) ?_ ?_)));by_cases hR0:R=0;subst hR0;have c:=iP [a] (by simp);rw[fH (by simpa using ha),show hv [a]=0* UB+a by rw[pt,ue];simp] at c;rw[oF];refine r_d a6 10 ?_;refine a_1 ?_;refine o_0 (.append0 rfl rfl rfl te_70.h rfl rfl rfl (.arr (es:=[]) (by simp))) ?_;refine a_2 ?_;refine i_x f ?_;refine l_1 f ?_;refine a_2 ?_;refine o_1 (.callS1 rfl rfl rfl (.shut rfl d_n (.nil)) rfl ((FSpec.argE c rfl))) ?_;refine a_1 ?_;refine ao (n_k ?_);refine⟨(),trivial,?_⟩;simp only[iN];exact s_e []
   ·have C:iE (zd R)≠[]:=fun h=>by
     have h1:=congrArg List.length h;rw[qI,List.length_nil,List.length_eq_zero_iff] at h1;exact hR0 (zd_eq_nil.1 h1)
    have w:∀d∈zd R++[a],d< UB:=fun d g=>by
     rcases List.mem_append.1 g with g|g
     exact js R d g;simp at g;rw[g];exact ha
    have c:=iP (zd R++[a]) (by simp;omega);rw[fH w,pq,kM] at c;refine r_d a6 10 ?_;refine a_1 ?_;refine o_1 (.append_e rfl rfl rfl te_70.h rfl rfl rfl (.arr (lj _)) (by first|assumption|(simp;done)) TZ.h rfl TB.h d_o (by first|(simp[maxLen];done)|(simp[maxLen];omega))) ?_;refine a_2 ?_;refine i_x f ?_;refine l_1 f ?_;refine a_2 ?_;refine o_1 (.callS1 rfl rfl rfl (.shut rfl d_n (.nil)) rfl ((FSpec.argE c (by rw[List.drop_zero,List.take_of_length_le (by simp)];simp[iE,i64])))) ?_;refine a_1 ?_;refine ao (n_k ?_);refine⟨(),trivial,?_⟩;simp only[iN];exact s_e []
   rintro _ _;simp only[iN];refine r_z 1 ?_;refine r_c 8 (F) ?_;refine a_z ?_;refine r_m 5 ?_;refine a_z ?_;refine r_m 3 ?_;refine a_z ?_;refine⟨([(R* UB+a) / D],(R* UB+a) % D,i+1),by simp only;omega,⟨by simp only;omega,by simpa using J,?_,?_,by simp⟩,?_⟩;simp only;rw[o,s2,←hQ,pt,ue];simp;simp only;rw[o,L];simp only[fL];exact s_e [(1,6)]
  |cons q Q=>
   simp only[fL];refine ae (r_z 4 ?_);refine ap rfl (fun h=>?_) (fun h=>?_);rotate_left;exact absurd h (by simp;omega);refine ak (ae (aj (bi (fun _:Unit=>EI A D (q::Q) (R* UB+a) i) (fun _=>True) ?_ ?_)));by_cases hR0:R=0;subst hR0;have c:=iP [a] (by simp);rw[fH (by simpa using ha),show hv [a]=0* UB+a by rw[pt,ue];simp] at c;rw[oF];refine r_d a6 10 ?_;refine a_1 ?_;refine o_0 (.append0 rfl rfl rfl te_70.h rfl rfl rfl (.arr (es:=[]) (by simp))) ?_;refine a_2 ?_;refine i_x f ?_;refine l_1 f ?_;refine a_2 ?_;refine o_1 (.callS1 rfl rfl rfl (.shut rfl d_n (.nil)) rfl ((FSpec.argE c rfl))) ?_;refine a_1 ?_;refine ao (n_k ?_);refine⟨(),trivial,?_⟩;simp only[fL];exact s_e []
   ·have C:iE (zd R)≠[]:=fun h=>by
     have h1:=congrArg List.length h;rw[qI,List.length_nil,List.length_eq_zero_iff] at h1;exact hR0 (zd_eq_nil.1 h1)
    have w:∀d∈zd R++[a],d< UB:=fun d g=>by
     rcases List.mem_append.1 g with g|g
     exact js R d g;simp at g;rw[g];exact ha
    have c:=iP (zd R++[a]) (by simp;omega);rw[fH w,pq,kM] at c;refine r_d a6 10 ?_;refine a_1 ?_;refine o_1 (.append_e rfl rfl rfl te_70.h rfl rfl rfl (.arr (lj _)) (by first|assumption|(simp;done)) TZ.h rfl TB.h d_o (by first|(simp[maxLen];done)|(simp[maxLen];omega))) ?_;refine a_2 ?_;refine i_x f ?_;refine l_1 f ?_;refine a_2 ?_;refine o_1 (.callS1 rfl rfl rfl (.shut rfl d_n (.nil)) rfl ((FSpec.argE c (by rw[List.drop_zero,List.take_of_length_le (by simp)];simp[iE,i64])))) ?_;refine a_1 ?_;refine ao (n_k ?_);refine⟨(),trivial,?_⟩;simp only[fL];exact s_e []
   rintro _ _;simp only[fL];refine r_z 1 ?_;refine r_c 8 (F) ?_;refine a_z ?_;have K:Q.length+1≤i:=by simpa using j
   refine r_m 5 ?_;refine a_z ?_;refine r_m 3 ?_;refine a_z ?_;refine⟨(q::(Q++[(R* UB+a) / D]),(R* UB+a) % D,i+1),by simp only;omega,⟨by simp only;omega,?_,?_,?_,by simp at j⊢;omega⟩,?_⟩;intro d g;rcases List.mem_append.1 (show d∈(q::Q)++[(R* UB+a) / D] from g) with g|g
   exact m d g;simp at g;rw[g];exact J;simp only;rw[o,s2,←hQ,←pq];rfl;simp only;rw[o,L];simp only[fL];have e:iE (q::Q)++List.take 1 (List.drop 0 [[i64 ((R* UB+a) / D:Nat)]])=iE (q::(Q++[(R* UB+a) / D])):=by simp[iE]
   exact s_x [(1,6)] (fun hs=>dU) (fun hs=>e_36) e_8
 have y:i=(zd A).length:=by omega
 subst y;rw[List.take_length,kM] at hQ p;cases Q with
 |nil=>
  simp only[iN];refine ae (r_z 4 ?_);refine ap rfl (fun h=>?_) (fun h=>?_);exact absurd h (by simp);refine ay ⟨([],R),⟨m,hQ,p,j⟩,?_⟩;simp only[iN];exact s_e []
 |cons q Q=>
  simp only[fL];refine ae (r_z 4 ?_);refine ap rfl (fun h=>?_) (fun h=>?_);exact absurd h (by simp);refine ay ⟨(q::Q,R),⟨m,hQ,p,j⟩,?_⟩;simp only[fL];exact s_e []
 rintro⟨Q,R⟩ ⟨m,hQ,p,j⟩;simp only at m hQ p j;have v:=iP Q (by omega);rw[fH m,hQ] at v;subst p;cases Q with
 |nil=>
  simp only[iN];refine r_c 5 (v) ?_;refine a_z ?_;refine ai (Fin.many ⟨_,_,rfl,rfl,⟨_,_,rfl,rfl,rfl⟩⟩ (nle rfl) ?_);exact ah (am aD (eK _)) (ah (am aD (eK _)) av)
 |cons q Q=>
  simp only[fL];have k:List.take (Q.length+1) (List.drop 0 (iE (q::Q)))=iE (q::Q):=by rw[List.drop_zero,List.take_of_length_le (by simp)]
  refine s_r 5 ?_;refine a_1 ?_;refine o_1 (.callS1 rfl rfl rfl (.shut rfl d_n (.nil)) rfl ((by rw[k];exact v))) ?_;refine a_z ?_;refine ai (Fin.many ⟨_,_,rfl,rfl,⟨_,_,rfl,rfl,rfl⟩⟩ (nle rfl) ?_);exact ah (am aD (eK _)) (ah (am aD (eK _)) av)
def zgS:Nat×Nat→AState
 |(p,q)=>⟨[(4,.lptr 1 0 0),(5,.arr (iE (zd p))),(6,.arr (iE (zd q)))],[(1,some ⟨72,2,[[i64 0,.emp]]⟩)],2,48⟩
theorem lL(p:Nat)(q:Nat):zgS (p,q)=⟨[(4,.lptr 1 0 0),(5,.arr (iE (zd p))),(6,.arr (iE (zd q)))],[(1,some ⟨72,2,[[i64 0,.emp]]⟩)],2,48⟩:=rfl
def zgW:Nat×Nat→AState
 |(x,y)=>⟨[(4,.lptr 1 0 0),(7,i64 x),(8,i64 y)],[(1,some ⟨72,2,[[i64 0,.emp]]⟩)],2,48⟩
theorem sY(x:Nat)(y:Nat):zgW (x,y)=⟨[(4,.lptr 1 0 0),(7,i64 x),(8,i64 y)],[(1,some ⟨72,2,[[i64 0,.emp]]⟩)],2,48⟩:=rfl
theorem vr(p q:Nat):Nat.gcd q (p % q)=Nat.gcd p q:=by
 rw[Nat.gcd_comm p q,Nat.gcd_rec q p,Nat.gcd_comm]
theorem vo{n:Nat}(h:(zd n).length≤4):n< 1152921504606846976:=by
 have h1:=DV (js n);rw[kM] at h1;exact Nat.lt_of_lt_of_le h1 (Nat.pow_le_pow_right (n:=32768) (j:=4) (by decide) h)
theorem fs_ZGcd(x y:Int)(hx:bl x.natAbs≤4398046511104)(hy:bl y.natAbs≤4398046511104):FS 140 [.agg (zZ x),.agg (zZ y)] (.agg (zZ (Nat.gcd x.natAbs y.natAbs:Nat))):=by
 refine f_c Tryz.func140 ?_;refine r_z 3 ?_;refine ae (r_d a6 6 ?_);refine a_6 ?_;refine ao (n_k ?_);refine bi (fun p:Nat=>zgS (p,0)) (fun p=>p=Nat.gcd x.natAbs y.natAbs) ?_ ?_;refine aj (aB zgS (fun v=>v.2) (fun v=>Nat.gcd v.1 v.2=Nat.gcd x.natAbs y.natAbs∧bl v.1≤4398046511104∧bl v.2≤4398046511104) (x.natAbs,y.natAbs) ⟨rfl,hx,hy⟩ ?_ ?_);simp only[lL];exact s_e [(1,4)];rintro⟨p,q⟩ ⟨hg,hp,k⟩;simp only at hg hp k;have n:=cI p;have t:=cI q;have j:=bR (b:=UB) (by decide) p;have w:=bR (b:=UB) (by decide) q;rw[lL];refine ae (r_z 3 ?_);refine ap rfl (fun h=>?_) (fun h=>?_)
 have a:0< q:=by
  rcases Nat.eq_zero_or_pos q with e|e
  subst e;rw[oF] at h;simp at h;exact e
 refine ak (aj (bi (fun _:Unit=>zgS (p,q)) (fun _=>True) ?_ ?_));by_cases hl:(zd p).length≤4;by_cases hl2:(zd q).length≤4;have i:=vo hl;have l:=vo hl2;have g:=zW (zd p) hl (js p);have f:=zW (zd q) hl2 (js q);rw[kM] at g f;refine s_r 8 ?_;refine a_4 ?_;refine y_g rfl (by simp;omega) (.move rfl) ?_
 first|refine y_g rfl (by simp;omega) (.lenD rfl rfl rfl rfl te_70.h) ?_|refine y_g rfl (by simp;omega) (.lenI rfl rfl rfl rfl te_70.h) ?_|refine y_g rfl (by simp;omega) (.lenP rfl rfl rfl rfl te_70.h) ?_|refine y_g rfl (by simp;omega) (.lenC rfl rfl rfl rfl te_70.h) ?_|refine y_g rfl (by simp;omega) (.lenR rfl rfl rfl rfl te_70.h) ?_|refine y_g rfl (by simp;omega) (.len rfl rfl rfl rfl rfl te_70.h) ?_
 refine y_g rfl (by simp;omega) (.bin rfl rfl ic) ?_;refine o_0 (.pickT rfl (by simp;omega) rfl) ?_;refine ao ?_;refine ap rfl (fun h1=>?_) (fun h1=>?_);refine r_c 6 (g) ?_;refine c_s (f) ?_;refine a_z ?_;refine bi (fun v:Nat=>zgW (v,0)) (fun v=>v=Nat.gcd x.natAbs y.natAbs) ?_ ?_;refine aj (aB zgW (fun v=>v.2) (fun v=>Nat.gcd v.1 v.2=Nat.gcd x.natAbs y.natAbs∧v.1< 1152921504606846976∧v.2< 1152921504606846976) (p,q) ⟨hg,i,l⟩ ?_ ?_);simp only[sY];exact s_e [];rintro⟨u,v⟩ ⟨d,s,hv⟩;simp only at d s hv;rw[sY];refine ae (r_z 2 ?_);refine ap rfl (fun m=>?_) (fun m=>?_);have c:0< v:=by simp at m;omega
 refine ak (aj (r_d a6 6 ?_));refine a_6 ?_;refine ao (n_k ?_);refine⟨(v,u % v),Nat.mod_lt _ c,⟨(vr u v).trans d,hv,Nat.lt_trans (Nat.mod_lt _ c) hv⟩,?_⟩;simp only[sY];exact s_e [];have c:v=0:=by simp at m;omega
 subst c;refine ay ⟨u,by simpa using d,?_⟩;simp only[sY];exact s_e [];rintro v hv;rw[sY]
 have o:v< 1152921504606846976:=by
  rw[hv,←hg];have h1:Nat.gcd p q≤q:=Nat.gcd_le_right _ a;omega
 refine r_c 3 (pJ v (by omega)) ?_;refine a_z ?_;refine ai (dA rfl rfl rfl TG.h TS.h (nle rfl) ?_ ?_);rw[←hv];rfl;exact cM _;exact absurd h1 (by simp;omega);refine s_r 8 ?_;refine a_4 ?_;refine y_g rfl (by simp;omega) (.move rfl) ?_
 first|refine y_g rfl (by simp;omega) (.lenD rfl rfl rfl rfl te_70.h) ?_|refine y_g rfl (by simp;omega) (.lenI rfl rfl rfl rfl te_70.h) ?_|refine y_g rfl (by simp;omega) (.lenP rfl rfl rfl rfl te_70.h) ?_|refine y_g rfl (by simp;omega) (.lenC rfl rfl rfl rfl te_70.h) ?_|refine y_g rfl (by simp;omega) (.lenR rfl rfl rfl rfl te_70.h) ?_|refine y_g rfl (by simp;omega) (.len rfl rfl rfl rfl rfl te_70.h) ?_
 refine y_g rfl (by simp;omega) (.bin rfl rfl ic) ?_;refine o_0 (.pickT rfl (by simp;omega) rfl) ?_;refine ao ?_;refine ap rfl (fun h=>?_) (fun _=>ak ⟨(),trivial,?_⟩);exact absurd h (by simp;omega);simp only[lL];exact s_e [];refine s_r 8 ?_;refine a_4 ?_;refine n_g rfl (by simp;omega) ?_;refine n_g rfl (by simp;omega) ?_;refine n_g rfl (by simp;omega) ?_;refine o_0 (.pickF rfl (by simp;omega) rfl) ?_;refine ao ?_;refine ap rfl (fun h=>?_) (fun _=>ak ⟨(),trivial,?_⟩);cases h;simp only[lL];exact s_e [];rintro _ _;rw[lL];refine r_c 8 (ug p q a hp k) ?_;refine a_z ?_;refine r_m 4 ?_;refine a_z ?_;refine⟨(q,p % q),Nat.mod_lt _ a,⟨(vr p q).trans hg,k,?_⟩,?_⟩;have:=dJ (Nat.le_of_lt (Nat.mod_lt p a));simp only;omega;simp only[lL];exact s_e []
 have a:q=0:=by
  refine zd_eq_nil.1 (List.length_eq_zero_iff.1 ?_);have:=of_decide_eq_false h;omega
 subst a;refine ay ⟨p,by simpa using hg,?_⟩;simp only[lL];exact s_e [];rintro p hp;rw[lL]
 have r:bl p≤4398046511104:=by
  rw[hp];rcases Nat.eq_zero_or_pos y.natAbs with e|e
  rw[e,Nat.gcd_zero_right];exact hx;exact Nat.le_trans (dJ (Nat.gcd_le_right _ e)) hy
 have n:=cI p;have j:=bR (b:=UB) (by decide) p;refine r_c 3 (j4 1 (zd p) (p:Int) (by omega) (js p) (by rw[kM,Int.natAbs_natCast]) (fun h=>by unfold sgZ;rw[if_neg h,if_neg (by omega)])) ?_;refine a_z ?_;refine ai (dA rfl rfl rfl TG.h TS.h (nle rfl) ?_ ?_);rw[←hp];rfl;exact cM _
theorem sG(x:RQ)(hx:rok x):FS 100 [.agg (rC x)] (.agg (zZ (x.1.den:Int))):=by
 refine f_c Tryz.func100 ?_;refine r_z 2 ?_;refine ae (r_z 4 ?_);obtain⟨q,f⟩:=x;have hp:=q.den_pos;cases f with
 |true=>
  have c:q=0:=hx rfl;subst c;refine ap (t:=true) rfl (fun h=>?_) (fun h=>?_);refine r_c 2 (pJ 1 (by decide)) ?_;refine a_z ?_;exact ai (c_e (cM _));cases h
 |false=>
  refine ap rfl (fun h=>?_) (fun h=>?_);exfalso;have h1:sgZ (q.den:Int)=0:=by simpa using h
  rcases c8 (q.den:Int) with⟨a,b⟩|⟨a,b⟩|⟨a,b⟩<;> omega
  refine ak (r_z 3 ?_);exact ai (c_e (cM _))
theorem zd_one:zd 1=[1]:=by
 unfold zd;rw[fa (by decide) (by decide),show 1/ UB=0 by decide,ct];rfl
theorem zZ_one{g:Nat}(h:g=1):zZ (g:Int)=[i64 1,.arr [[i64 1]]]:=by
 subst h;show [i64 (sgZ 1),AV.arr (iE (zd 1))]=_;rw[zd_one];rfl
theorem Ey{g:Nat}(h:(zd g).length=1):zd g=[g]:=by
 obtain⟨a,ha⟩:=List.length_eq_one_iff.1 h;have h1:=kM g;rw[ha,pt,ue] at h1;simp at h1;rw[ha,h1]
theorem vu{n:Nat}(h:bl n≤4398046511104):(zd n).length≤281474976710656:=by
 rw[cI];have:=bR (b:=UB) (by decide) n;omega
def ratS(n':Int)(D g:Nat):AState:=⟨[(2,.lptr 1 0 0),(3,.lptr 2 0 0),(4,.lptr 3 0 0),(5,.lptr 4 0 0)],[(1,some ⟨72,2,[zZ n']⟩),(2,some ⟨72,2,[zZ (D:Int)]⟩),(3,some ⟨74,4,[[i64 0,.emp,i64 0,.emp]]⟩),(4,some ⟨72,2,[zZ (g:Int)]⟩)],5,57⟩
theorem Ad(n d:Int)(hd:d≠0)(hn:bl n.natAbs≤4398046511104)(hb:bl d.natAbs≤4398046511104):FS 97 [.agg (zZ n),.agg (zZ d)] (.agg (rC (rq (Rat.divInt n d)))):=by
 refine f_c Tryz.func97 ?_;refine r_z 3 ?_;refine bi (fun f:Int=>⟨[(2,.lptr 1 0 0),(3,.lptr 2 0 0),(4,.lptr 3 0 0)],[(1,some ⟨72,2,[zZ f]⟩),(2,some ⟨72,2,[zZ (d.natAbs:Int)]⟩),(3,some ⟨74,4,[[i64 0,.emp,i64 0,.emp]]⟩)],4,57⟩) (fun f=>f.natAbs=n.natAbs∧Rat.divInt n d=mkRat f d.natAbs) ?_ ?_;refine r_z 3 ?_;refine ap rfl (fun h=>?_) (fun h=>?_)
 have p:d< 0:=by
  have h1:sgZ d< 0:=by simpa using h
  rcases c8 d with⟨a,b⟩|⟨a,b⟩|⟨a,b⟩<;> omega
 have e: -d=(d.natAbs:Int):=by omega
 have o:=xP d;rw[e] at o;refine r_d a6 6 ?_;refine c_s (xP n) ?_;refine c_s (o) ?_;refine a_2 ?_;refine ao (n_k ?_);refine⟨-n,⟨by omega,ov n d p⟩,?_⟩;exact s_e []
 have j:0< d:=by
  have h1:¬sgZ d< 0:=by simpa using h
  rcases c8 d with⟨a,b⟩|⟨a,b⟩|⟨a,b⟩<;> omega
 have e:d=(d.natAbs:Int):=by omega
 refine ak ⟨n,⟨rfl,ou n d j⟩,?_⟩;rw[←e];exact s_e [];rintro f ⟨v,hv⟩;have i:0< d.natAbs:=by omega
 obtain⟨D,u⟩:∃D,D=d.natAbs:=⟨_,rfl⟩;rw[hv];rw[←u] at hb i⊢;rw[←v] at hn;obtain⟨g,hg⟩:∃g,g=Nat.gcd f.natAbs D:=⟨_,rfl⟩;have r:0< g:=by rw[hg];exact Nat.gcd_pos_of_pos_right _ i
 have s:g≤D:=by rw[hg];exact Nat.gcd_le_right _ i
 have A:=dJ s;have y:(mkRat f D).num.natAbs=f.natAbs/ g:=by rw[jl i,fl,hg]
 have q:(mkRat f D).den=D/ g:=by rw[(kG i).2,hg]
 have x:=EE (n:=f) i;have m:=fs_ZGcd f (D:Int) hn (by rw[Int.natAbs_natCast];exact hb);rw[Int.natAbs_natCast,←hg] at m
 have l:rC (rq (mkRat f D))=zZ (sgn (decide (f< 0)) (f.natAbs/ g))++zZ ((D/ g:Nat):Int):=by
  rw[rC_rq,q,jl i,←hg]
 rw[l];have C:bl (D/ g)≤bl D:=eM D g;have z:bl (f.natAbs/ g)≤bl f.natAbs:=eM f.natAbs g;refine r_c 5 (m) ?_;refine a_z ?_;refine bi (fun _:Unit=>ratS f D g) (fun _=>g≠1) ?_ ?_;by_cases h1:g=1;rw[zZ_one h1];refine s_r 11 ?_;refine a_5 ?_
 first|refine y_g rfl rfl (.fieldAddr_l rfl TF.h (by decide)) ?_|refine y_g rfl rfl (.fieldAddr_a rfl TF.h (by decide)) ?_
 first|refine y_g rfl rfl (.load_l1 rfl rfl rfl TG.h rfl) ?_|refine y_g rfl rfl (.load_a1 rfl rfl TG.h rfl) ?_
 first|refine y_g rfl rfl (.index_l rfl rfl (by omega) (by omega) te_70.h) ?_|refine y_g rfl rfl (.index_a rfl rfl (by omega) rfl rfl te_70.h) ?_
 first|refine y_g rfl rfl (.load_l1 rfl rfl rfl TG.h rfl) ?_|refine y_g rfl rfl (.load_a1 rfl rfl TG.h rfl) ?_
 refine y_g rfl rfl (.bin rfl rfl ci) ?_;refine o_0 (.pickT rfl rfl rfl) ?_;refine ao ?_;refine ap rfl (fun h=>?_) (fun h=>?_);refine r_z 4 ?_;refine ai ?_;rw[h1,Nat.div_one,Nat.div_one,show sgn (decide (f< 0)) f.natAbs=f by unfold sgn;by_cases h0:f< 0 <;> simp[h0]<;> omega];exact c_e (aC fun c hc=>(List.mem_append.1 hc).elim (fP _ c) (fP _ c));exact absurd h (by decide);by_cases hl:(zd g).length=1;have E:=Ey hl;have k:zZ (g:Int)=[i64 (sgZ (g:Int)),.arr (iE [g])]:=by show [i64 (sgZ (g:Int)),AV.arr (iE (zd g))]=_;rw[E]
 rw[k];refine s_r 11 ?_;refine a_5 ?_
 first|refine y_g rfl rfl (.fieldAddr_l rfl TF.h (by decide)) ?_|refine y_g rfl rfl (.fieldAddr_a rfl TF.h (by decide)) ?_
 first|refine y_g rfl rfl (.load_l1 rfl rfl rfl TG.h rfl) ?_|refine y_g rfl rfl (.load_a1 rfl rfl TG.h rfl) ?_
 first|refine y_g rfl rfl (.index_l rfl rfl (by omega) (by omega) te_70.h) ?_|refine y_g rfl rfl (.index_a rfl rfl (by omega) rfl rfl te_70.h) ?_
 first|refine y_g rfl rfl (.load_l1 rfl rfl rfl TG.h rfl) ?_|refine y_g rfl rfl (.load_a1 rfl rfl TG.h rfl) ?_
 refine y_g rfl rfl (.bin rfl rfl ci) ?_;refine o_0 (.pickT rfl rfl rfl) ?_;refine ao ?_;refine ap rfl (fun h=>?_) (fun h=>?_);exact absurd h (by simp;omega);refine ak ⟨(),h1,?_⟩;rw[←k];unfold ratS;exact s_e [(4,5)];refine s_r 11 ?_;refine a_5 ?_;refine n_g rfl (by simp;omega) ?_;refine n_g rfl (by simp;omega) ?_;refine n_g rfl (by simp;omega) ?_;refine n_g rfl (by simp;omega) ?_;refine n_g rfl (by simp;omega) ?_;refine o_0 (.pickF rfl (by simp;omega) rfl) ?_;refine ao ?_;refine ap rfl (fun h=>?_) (fun h=>?_);exact absurd h (by simp);refine ak ⟨(),h1,?_⟩;unfold ratS;exact s_e [(4,5)];rintro _ B;unfold ratS;have w:=j4 (sgZ f) (zd (f.natAbs/ g)) (sgn (decide (f< 0)) (f.natAbs/ g)) (vu (by omega)) (js _) (by rw[kM,fl]) (fun h=>by rw[←x,jl i,←hg]);have t:=j4 1 (zd (D/ g)) ((D/ g:Nat):Int) (vu (by omega)) (js _) (by rw[kM,Int.natAbs_natCast]) (fun h=>by unfold sgZ;rw[if_neg h,if_neg (by omega)]);refine r_c 10 (ug f.natAbs g r hn (by omega)) ?_;refine a_z ?_;refine r_c 10 (ug D g r hb (by omega)) ?_;refine a_z ?_;refine r_c 8 (w) ?_;refine c_s (t) ?_;refine a_z ?_;exact ai (c_e (aC fun c hc=>(List.mem_append.1 hc).elim (fP _ c) (fP _ c)))
theorem nr{z:Int}{k:Nat}(h:bl z.natAbs≤k)(hk:k≤8796093022208):zl z:=Nat.le_trans h hk
theorem fs_rOf(n d:Int)(hd:d≠0)(h: -9223372036854775808≤n∧n≤9223372036854775807)(h2: -9223372036854775808≤d∧d≤9223372036854775807):FS 47 [i64 n,i64 d] (.agg (rC (rq (Rat.divInt n d)))):=by
 have hb:∀z:Int,-9223372036854775808≤z→z≤9223372036854775807→bl z.natAbs≤4398046511104:=fun z h1 h2=>Nat.le_trans (hZ (k:=64) (by omega)) (by decide);refine f_c Tryz.func47 ?_;refine r_z 1 ?_;refine r_c 6 (pJ n h) ?_;refine c_s (pJ d h2) ?_;refine c_s (Ad n d hd (hb n h.1 h.2) (hb d h2.1 h2.2)) ?_;refine a_z ?_;exact ai (c_e (kT _))
theorem zX(x:RQ):FS 138 [.agg (rC x)] (i64 (sgZ x.1.num)):=by
 refine f_c Tryz.func138 ?_;refine r_z 2 ?_;refine r_z 4 ?_;exact ai (t_e (ag _))
theorem fs_rMul(x y:RQ)(hx:rok x)(hy:rok y)(h:qs x.1+qs y.1≤1099511627776):FS 48 [.agg (rC x),.agg (rC y)] (.agg (rC (rq (x.1* y.1)))):=by
 obtain⟨a,j⟩:=x;obtain⟨b,c⟩:=y;simp only at h⊢;have hp:=qD a b;have h1:=dW a;have f:=dM a;have k:=dW b;have i:=dM b;have l:=hp.1;have d:=hp.2;have g:(a.den:Int) * b.den≠0:=by have:=mA a b;rw[←Int.natCast_mul];omega
 have e:a* b=Rat.divInt (a.num* b.num) (a.den* b.den):=by
  rw[mS,←Int.natCast_mul,←Rat.divInt_ofNat]
 rw[e];have m:bl ((a.den:Int) * b.den).natAbs≤qs a+qs b:=by rw[←Int.natCast_mul,Int.natAbs_natCast];exact d
 refine f_c Tryz.func48 ?_;refine r_z 3 ?_;refine ae (r_d a6 12 ?_);refine c_s (pI a.num b.num (nr h1 (by omega)) (nr k (by omega))) ?_;refine c_s (sG (a,j) hx) ?_;refine c_s (sG (b,c) hy) ?_;refine c_s (pI a.den b.den (nr (by simpa using f) (by omega)) (nr (by simpa using i) (by omega))) ?_;refine c_s (Ad (a.num* b.num) (a.den* b.den) g (by omega) (by omega)) ?_;refine a_1 ?_;refine ao (n_k ?_);exact ai (c_e (kT _))
theorem fs_rCmp(x y:RQ)(hx:rok x)(hy:rok y)(h:qs x.1+qs y.1≤1099511627776):FS 50 [.agg (rC x),.agg (rC y)] (i64 (fy x.1 y.1)):=by
 obtain⟨a,j⟩:=x;obtain⟨b,i⟩:=y;simp only at h⊢;have h1:=dW a;have c:=dM a;have f:=dW b;have d:=dM b;have e1:=eY (x:=a.num) (y:=b.den) h1 (by simpa using d);have e2:=eY (x:=b.num) (y:=a.den) f (by simpa using c)
 have e:fy a b=eu (a.num* b.den) (b.num* a.den):=by
  rw[Eo];unfold eu;obtain⟨u,g⟩:∃u,u=a.num* (b.den:Int):=⟨_,rfl⟩;obtain⟨v,hv⟩:∃v,v=b.num* (a.den:Int):=⟨_,rfl⟩;rw[←g,←hv];split;rfl;split <;> split <;> omega
 rw[e];refine f_c Tryz.func50 ?_;refine r_z 3 ?_;refine ae (r_d a6 12 ?_);refine c_s (sG (b,i) hy) ?_;refine c_s (pI a.num b.den (nr h1 (by omega)) (nr (by simpa using d) (by omega))) ?_;refine c_s (sG (a,j) hx) ?_;refine c_s (pI b.num a.den (nr f (by omega)) (nr (by simpa using c) (by omega))) ?_;refine c_s (fs_ZCmp (a.num* b.den) (b.num* a.den) (nr e1 (by omega)) (nr e2 (by omega))) ?_;refine a_1 ?_;refine ao (n_k ?_);exact ai (t_e (ag _))


end Go.Proofs.YtdgbhlkabelmbaaGreatDoor
