/- Part W22 of the proof. -/
import Derived.Test.YtjmkjicckobojaaGreatDoorW21
set_option linter.all false
namespace Go.Proofs.YtjmkjicckobojaaGreatDoor
open Go.Abs
set_option maxRecDepth 20000
theorem FW{o:Ln}{j d:Nat}(h:o[j]?=some d):o.reverse[o.length- 1- j]?=some d:=by
 have a:j< o.length:=(List.getElem?_eq_some_iff.1 h).1;rw[List.getElem?_reverse ω,show o.length- 1- (o.length- 1- j)=j by omega];exact h
theorem FV{o:Ln}{j v:Nat}(hj:j< o.length):o.reverse.set (o.length- 1- j) v=(o.set j v).reverse:=by
 apply List.ext_getElem?;intro i;by_cases hi:i< o.length;rw[List.getElem?_reverse (by simpa using hi),List.getElem?_set,List.getElem?_set,List.length_reverse,List.length_set];by_cases h:o.length- 1- j=i;rw[if_pos h,if_pos ω,if_pos ω,if_pos ω];rw[if_neg h,if_neg ω,List.getElem?_reverse hi];rw[List.getElem?_eq_none (by simpa using hi),List.getElem?_eq_none (by simpa using hi)]
def zmS(x:Int)(y:Int):Ln×Nat->AState
 |(o,i)=>⟨[(2,.lptr 1 0 0),(3,.lptr 2 0 0),(4,.lptr 3 0 0),(5,.lsl 4 0 ((zd x.natAbs).length+(zd y.natAbs).length) (some ((zd x.natAbs).length+(zd y.natAbs).length)) 1),(6,i64 (((zd x.natAbs).length:Int)- 1- i))],
  [(1,some ⟨45,2,[zZ x]⟩),(2,some ⟨45,2,[zZ y]⟩),(3,some ⟨45,2,[[i64 0,.emp]]⟩),(4,some ⟨3,1,iE o.reverse⟩)],5,76⟩
def zmT(x:Int)(y:Int)(i:Nat):Ln×Nat×Nat->AState
 |(o,k,c)=>⟨[(2,.lptr 1 0 0),(3,.lptr 2 0 0),(4,.lptr 3 0 0),(5,.lsl 4 0 ((zd x.natAbs).length+(zd y.natAbs).length) (some ((zd x.natAbs).length+(zd y.natAbs).length)) 1),(6,i64 (((zd x.natAbs).length:Int)- 1- i)),(7,i64 c),(8,i64 (((zd y.natAbs).length:Int)- 1- k))],
  [(1,some ⟨45,2,[zZ x]⟩),(2,some ⟨45,2,[zZ y]⟩),(3,some ⟨45,2,[[i64 0,.emp]]⟩),(4,some ⟨3,1,iE o.reverse⟩)],5,76⟩
structure ZmI (a b:Nat)(x:Ln×Nat):Prop where
 len:x.1.length=(aw UB a).length+(aw UB b).length
 le:x.2<=(aw UB a).length
 dig:∀d∈x.1,d< UB
 val:ofD UB x.1=ofD UB ((aw UB a).take x.2) * b
 zer:∀j,x.2+(aw UB b).length<=j->j< x.1.length->x.1[j]?=some 0
structure ZmJ (a b i v:Nat)(x:Ln×Nat×Nat):Prop where
 len:x.1.length=(aw UB a).length+(aw UB b).length
 le:x.2.1<=(aw UB b).length
 dig:∀d∈x.1,d< UB
 car:x.2.2< UB
 val:ofD UB x.1+UB^ (i+x.2.1) * x.2.2=ofD UB ((aw UB a).take i) * b+UB^ i* v* ofD UB ((aw UB b).take x.2.1)
 zer:∀j,i+(aw UB b).length<=j->j< x.1.length->x.1[j]?=some 0
theorem sgZ_mul(x y:Int):sgZ (x* y)=sgZ x* sgZ y:=by
 rcases di x with⟨a,b⟩|⟨a,b⟩|⟨a,b⟩<;> rcases di y with⟨c,d⟩|⟨c,d⟩|⟨c,d⟩<;> rw[a,c]<;> rcases di (x* y) with⟨e,f⟩|⟨e,f⟩|⟨e,f⟩<;> rw[e]<;> first|rfl|(exfalso;subst_vars;simp at f;done)|(exfalso;have:=Int.mul_pos_of_neg_of_neg b d;omega)|(exfalso;have:=Int.mul_neg_of_neg_of_pos b d;omega)|(exfalso;have:=Int.mul_neg_of_pos_of_neg b d;omega)|(exfalso;have:=Int.mul_pos b d;omega)
theorem iU(x y:Int)(hx:zl x)(hy:zl y):FS 135 [.agg (zZ x),.agg (zZ y)] (.agg (zZ (x* y))):=by
 have Z:=zn hx;have hly:=zn hy;have A:=c7 x.natAbs;have B:=c7 y.natAbs;obtain⟨a,ha⟩:∃a,a=x.natAbs:=⟨_,rfl⟩;obtain⟨b,hb⟩:∃b,b=y.natAbs:=⟨_,rfl⟩;have va:=bY (b:=UB) δ a;have vb:=bY (b:=UB) δ b
 have T: -9223372036854775808<=sgZ x* sgZ y/\sgZ x* sgZ y<=9223372036854775807:=by
  rcases di x with⟨h,_⟩|⟨h,_⟩|⟨h,_⟩<;> rcases di y with⟨h',_⟩|⟨h',_⟩|⟨h',_⟩<;> rw[h,h']<;> decide
 refine f_c Tryz.func135 ?_;subst ha hb;refine r_z 3 ?_;refine r_z 9 ?_;refine ac (r_z 5 ?_);refine aC (zmS x y) (λv=>ZmI x.natAbs y.natAbs v/\v.2=(aw UB x.natAbs).length) ?_ ?_;refine ah (ay (zmS x y) (λv=>(aw UB x.natAbs).length- v.2) (ZmI x.natAbs y.natAbs) (List.replicate ((aw UB x.natAbs).length+(aw UB y.natAbs).length) 0,0) ⟨ψ,ψ,?_,by simp[tf,ofD],?_⟩ ?_ ?_);intro d J;simp at J;rw[J.2];decide;intro j _ F;simp at F;simp[F];simp only[zmS.eq_1];refine s_x [(1,2),(2,3),(3,4),(4,5)] (λhs=>?_) (λhs=>?_) ?_
 ·repeat' (first|exact aL|refine az rfl ?_ ?_|exact aW|(refine Cv.loE hs ?_ (ak _);first|rfl|(simp[i64,u64,u32,bln,A,B];done)|(simp[i64,u64,u32,bln,A,B]<;> omega)))
 ·repeat' (first|exact aB|refine h_c ?_ ?_|exact bG|(refine aJ hs ?_ (dY _);first|(simp[pO,oZ,kf,A,B];done)|(simp[iE,i64,ofV,A,B];done))|refine aA ?_|exact av|refine am ?_ ?_|exact aW|(refine Cv.loE hs ?_ (ak _);first|(simp[i64,u64,u32,bln,A,B];done)|(simp[i64,u64,u32,bln,A,B]<;> omega)))
 ·repeat' (first|exact ShrL.nil|refine ShrL.cons rfl rfl rfl rfl (by first|rfl|(simp;done)|(simp[A,B]<;> omega)) ?_)
 rintro⟨o,i⟩ ⟨r,D,p,g,s⟩;simp only at r D p g s;rw[zmS.eq_1];refine ac (r_z 2 ?_);refine ar rfl (λh=>?_) (λh=>?_);have R:i< (aw UB x.natAbs).length:=by have:=of_decide_eq_true h;omega
 obtain⟨u,U⟩:∃u,(aw UB x.natAbs)[i]?=some u:=⟨_,List.getElem?_eq_getElem R⟩;have hu1:u< 32768:=da δ U
 have L:(iE (zd x.natAbs))[(((zd x.natAbs).length:Int)- 1- i).toNat]?=some [i64 u]:=by
  rw[show(((zd x.natAbs).length:Int)- 1- i).toNat=(aw UB x.natAbs).length- 1- i by omega];exact lL (zo U)
 refine aj (ac (ah (r_z 1 ?_)));refine ac (r_z 5 ?_);refine aC (zmT x y i) (λv=>ZmJ x.natAbs y.natAbs i u v/\v.2.1=(aw UB y.natAbs).length) ?_ ?_;refine ah (ay (zmT x y i) (λv=>(aw UB y.natAbs).length- v.2.1) (ZmJ x.natAbs y.natAbs i u) (o,0,0) ⟨r,ψ,p,(show 0< UB by decide),by simp[g,ofD],s⟩ ?_ ?_);simp only[zmT.eq_1];exact s_e [];rintro⟨q,k,c⟩ ⟨m,C,e,f,n,l⟩;simp only at m C e f n l;rw[zmT.eq_1];refine ac (r_z 2 ?_);refine ar rfl (λh=>?_) (λh=>?_);have M:k< (aw UB y.natAbs).length:=by have:=of_decide_eq_true h;omega
 obtain⟨v,hv⟩:∃v,(aw UB y.natAbs)[k]?=some v:=⟨_,List.getElem?_eq_getElem M⟩;have hv1:v< 32768:=da δ hv
 have K:(iE (zd y.natAbs))[(((zd y.natAbs).length:Int)- 1- k).toNat]?=some [i64 v]:=by
  rw[show(((zd y.natAbs).length:Int)- 1- k).toNat=(aw UB y.natAbs).length- 1- k by omega];exact lL (zo hv)
 obtain⟨d,J⟩:∃d,q[i+k]?=some d:=⟨_,List.getElem?_eq_getElem ω⟩;have hd1:d< 32768:=e d (List.mem_of_getElem? J);have S:c< 32768:=f;have hidx:(((zd x.natAbs).length:Int)- 1- i+(((zd y.natAbs).length:Int)- 1- k)+1).toNat=q.length- 1- (i+k):=ω
 have N:(iE q.reverse)[0+(((zd x.natAbs).length:Int)- 1- i+(((zd y.natAbs).length:Int)- 1- k)+1).toNat]?=some [i64 d]:=by rw[hidx,Nat.zero_add];exact lL (FW J)
 have hset:∀w:Nat,(iE q.reverse).set (0+(((zd x.natAbs).length:Int)- 1- i+(((zd y.natAbs).length:Int)- 1- k)+1).toNat) [i64 w]=iE (q.set (i+k) w).reverse:=by intro w;rw[hidx,Nat.zero_add,pO,FV ω]
 have Y:u* v<=32767* 32767:=Nat.mul_le_mul ω ω;have E:(u:Int) * v=((u* v:Nat):Int):=by push_cast;rfl
 refine aj ?_;have X:0<=(u:Int) * v:=Int.mul_nonneg ω ω;refine ac (ah (ac (r_d aX 22 ?_)));refine a_5 ?_;refine bm (.index_l rfl rfl ω ω te_43.h) rfl rfl ?_;refine bm (.load_l1 rfl rfl N TG.h rfl) rfl rfl ?_;refine a_3 ?_;refine i_x L ?_;refine l_1 L ?_;refine a_3 ?_;refine i_x K ?_;refine l_1 K ?_;refine a_5 ?_;refine aq (n_k ?_);refine s_r 9 ?_;refine a_8 ?_;refine fN (.store rfl rfl N rfl rfl rfl TS.h (nle rfl)) ?_;refine aq ?_;refine r_m 3 ?_;refine a_z ?_;refine r_m 3 ?_;refine a_z ?_;have hm:((d:Int)+(u:Int) * v+c) % 32768=(((d+u* v+c) % 32768:Nat):Int):=by rw[E];omega
 have V:((d:Int)+(u:Int) * v+c) / 32768=(((d+u* v+c) / 32768:Nat):Int):=by rw[E];omega
 refine⟨(q.set (i+k) ((d+u* v+c) % 32768),k+1,(d+u* v+c) / 32768),χ,⟨by simp[m],χ,uZ e (Nat.mod_lt _ δ),?_,?_,?_⟩,?_⟩;show _< 32768;simp only;omega;simp only;have e1:=rf UB ((d+u* v+c) % 32768) J;have e2:=Nat.mod_add_div (d+u* v+c) 32768
 have e3:UB^ (i+k) * ((d+u* v+c) % 32768)+UB^ (i+(k+1)) * ((d+u* v+c) / 32768)=UB^ (i+k) * d+UB^ (i+k) * (u* v)+UB^ (i+k) * c:=by
  rw[<-Nat.add_assoc i k 1,Nat.pow_succ,Nat.mul_assoc,<-Nat.mul_add,show UB* ((d+u* v+c) / 32768)=32768* ((d+u* v+c) / 32768) from rfl,e2,Nat.mul_add,Nat.mul_add]
 have e4:UB^ i* u* ofD UB ((aw UB y.natAbs).take (k+1))=UB^ i* u* ofD UB ((aw UB y.natAbs).take k)+UB^ (i+k) * (u* v):=by
  rw[dp _ hv,Nat.mul_add];congr 1;rw[Nat.pow_add];simp only[Nat.mul_assoc,Nat.mul_left_comm,Nat.mul_comm]
 rw[e4];omega;intro j F H;rw[List.getElem?_set_ne ω];exact l j F (by simpa using H);simp only[zmT.eq_1];have t:=hset ((d+u* v+c) % 32768);rw[<-hm] at t;refine s_x [] (λhs=>?_) (λhs=>?_) ?_
 ·repeat' (first|exact aL|refine az rfl ?_ ?_|exact Cv.loE hs (congrArg (λz=>AV.v (.int .i64 z)) V) (ak _)|exact aW)
 ·repeat' (first|exact aB|refine h_c ?_ ?_|exact aJ hs t (dY _)|exact bG|refine aA ?_|exact av|refine am ?_ ?_|exact Cv.loE hs (congrArg (λz=>AV.v (.int .i64 z)) V) (ak _)|exact aW)
 ·repeat' (first|exact ShrL.nil|refine ShrL.cons rfl rfl rfl rfl (by first|(exact congrArg List.length t)|rfl|(simp;done)|(simp <;> omega)) ?_)
 have O:k=(aw UB y.natAbs).length:=by have:=of_decide_eq_false h;omega
 refine ax ⟨(q,k,c),⟨⟨m,C,e,f,n,l⟩,O⟩,?_⟩;simp only[zmT.eq_1];exact s_e [];rintro⟨q,k,c⟩ ⟨⟨m,C,e,f,n,l⟩,O⟩;simp only at m C e f n l O;subst O;have S:c< 32768:=f;have W:=l (i+(aw UB y.natAbs).length) (Nat.le_refl _) ω;have hidx:(((zd x.natAbs).length:Int)- 1- i).toNat=q.length- 1- (i+(aw UB y.natAbs).length):=ω
 have N:(iE q.reverse)[0+(((zd x.natAbs).length:Int)- 1- i).toNat]?=some [i64 0]:=by rw[hidx,Nat.zero_add];exact lL (FW W)
 have hset:(iE q.reverse).set (0+(((zd x.natAbs).length:Int)- 1- i).toNat) [i64 c]=iE (q.set (i+(aw UB y.natAbs).length) c).reverse:=by rw[hidx,Nat.zero_add,pO,FV ω]
 rw[List.take_length,vb] at n;rw[zmT.eq_1];refine r_m 5 ?_;refine a_4 ?_;refine fN (.store rfl rfl N rfl rfl rfl TS.h (nle rfl)) ?_;refine aq ?_;refine r_m 3 ?_;refine a_z ?_;refine⟨(q.set (i+(aw UB y.natAbs).length) c,i+1),χ,⟨by simp[m],χ,uZ e f,?_,?_⟩,?_⟩;simp only;have e1:=rf UB c W;rw[dp _ U,Nat.add_mul,<-n];omega;intro j F H;rw[List.getElem?_set_ne (by simp only at F;omega)];exact l j (by simp only at F;omega) (by simpa using H);simp only[zmS.eq_1];refine s_x [] (λhs=>dD) (λhs=>?_) e_34
 ·repeat' (first|exact aB|refine h_c ?_ ?_|refine aJ hs hset (dY _)|exact bG)
 have Q:i=(aw UB x.natAbs).length:=by have:=of_decide_eq_false h;omega
 refine ax ⟨(o,i),⟨⟨r,D,p,g,s⟩,Q⟩,?_⟩;simp only[zmS.eq_1];exact s_e [];rintro⟨o,i⟩ ⟨⟨r,D,p,g,s⟩,Q⟩;simp only at r D p g s Q;subst Q;rw[List.take_length,va] at g;rw[zmS.eq_1];have hol:o.length=(zd x.natAbs).length+(zd y.natAbs).length:=ω
 have hw:=ly (sgZ x* sgZ y) o.reverse (x* y) χ (λd h=>p d (List.mem_reverse.1 h)) (by unfold hv;rw[List.reverse_reverse,g,Int.natAbs_mul]) (λ_=>(sgZ_mul x y).symm);have G:((iE o.reverse).drop 0).take ((zd x.natAbs).length+(zd y.natAbs).length)=iE o.reverse:=by rw[List.drop_zero,List.take_of_length_le χ]
 refine s_r 8 ?_;refine a_4 ?_;refine o_0 (.bin rfl rfl (sH T)) ?_;refine a_1 ?_;refine o_1 (.callS1 rfl rfl rfl (.keep (.shut rfl d_n (.nil))) rfl ((by rw[G];exact hw))) ?_;refine a_z ?_;exact ai (c_e (cV _))
theorem Io{b:Nat}(hb:1< b):∀(j n:Nat),(aw b n)[j]?.getD 0=n/ b^ j % b:=by
 intro j
 induction j with
 |zero=>
  intro n;rcases Nat.eq_zero_or_pos n with rfl|a
  rw[cI];simp;rw[eY hb a];simp
 |succ j c=>
  intro n;rcases Nat.eq_zero_or_pos n with rfl|a
  rw[cI];simp;rw[eY hb a,List.getElem?_cons_succ,c,Nat.div_div_eq_div_mul,Nat.pow_succ,Nat.mul_comm b]
def EC(n:Nat)(long:Nat)(k:Nat):Nat->AState
 |i=>⟨[(0,.arr (iE (zd n))),(1,i64 long),(2,i64 k),(7,i64 (n/ UB^ (long- i):Nat)),(8,i64 i)],[],1,24⟩
theorem rU(n long k:Nat)(hk:k<=4)(hkl:k<=long)(hn:n< UB^ long)(hl:(zd n).length<=281474976710656)(hlo:long<=281474976710656):FS 293 [.arr (iE (zd n)),i64 long,i64 k] (i64 (n/ UB^ (long- k):Nat)):=by
 have bound:∀i,i<=k->n/ UB^ (long- i)< 1152921504606846976:=by
  intro i l
  have m:n/ UB^ (long- i)< UB^ i:=by
   rw[Nat.div_lt_iff_lt_mul (Nat.pow_pos δ),<-Nat.pow_add,show i+(long- i)=long by omega];exact hn
  exact Nat.lt_of_lt_of_le m (Nat.pow_le_pow_right (n:=32768) (j:=4) δ ω)
 refine f_c Tryz.func293 ?_;refine r_z 1 ?_;refine r_z 1 ?_;refine ac (r_z 1 ?_);refine aC (EC n long k) (λi=>i=k) ?_ ?_;refine ah (ay (EC n long k) (λi=>k- i) (λi=>i<=k) 0 (Nat.zero_le _) ?_ ?_);simp only[EC.eq_1];have e:AV.v (.int .i64 0)=i64 (n/ UB^ (long- 0):Nat):=by rw[Nat.sub_zero,Nat.div_eq_of_lt hn];rfl
 exact s_f [];intro i l;rw[EC.eq_1];refine ac (r_z 3 ?_);refine ar rfl (λh=>?_) (λh=>?_);have a:i< k:=by simpa using h
 have c:=wV (zd n) (long- 1- i) hl;unfold zd at c;rw[List.reverse_reverse,Io δ,show((long- 1- i:Nat):Int)=(long:Int)- 1- i by omega] at c;have e1:=Nat.div_add_mod (n/ UB^ (long- 1- i)) UB;rw[Nat.div_div_eq_div_mul,<-Nat.pow_succ,show(long- 1- i).succ=long- i by omega] at e1;have hb:=bound (i+1) a;rw[show long- (i+1)=long- 1- i by omega] at hb;have b:n/ UB^ (long- 1- i) % UB< 32768:=Nat.mod_lt _ δ;obtain⟨V,f⟩:∃V,V=n/ UB^ (long- i):=⟨_,rfl⟩;obtain⟨D,g⟩:∃D,D=n/ UB^ (long- 1- i) % UB:=⟨_,rfl⟩;have o:V< 1152921504606846976:=by rw[f];exact bound i l
 rw[<-f,<-g] at e1;rw[<-g] at c b;rw[<-f];have q:32768* V+D=n/ UB^ (long- 1- i):=e1
 have e2:(V:Int) * 32768+D=((n/ UB^ (long- (i+1)):Nat):Int):=by
  rw[show long- (i+1)=long- 1- i by omega,<-q];omega
 have p:V* 32768+D< 1152921504606846976:=ω
 refine aj (ac (ah (r_m 10 ?_)));refine c_s (c) ?_;refine a_z ?_;refine r_m 3 ?_;refine a_z ?_;refine⟨i+1,ω,a,?_⟩;simp only[EC.eq_1];have:=(congrArg (λz=>AV.v (.int .i64 z)) e2);exact s_f [];have d:i=k:=by simp at h;omega
 refine ax ⟨i,d,?_⟩;simp only[EC.eq_1];exact s_e [];rintro i rfl;rw[EC.eq_1];refine r_z 2 ?_;refine ai (aS rfl rfl (ak _))
def vP(D:Nat):Nat×Nat->AState
 |(R,k)=>⟨[(0,.arr (iE (zd R))),(1,.arr (iE (zd D))),(6,i64 k)],[],1,57⟩
theorem est_le{R D e:Nat}(he:0< e):R/ e/ (D/ e+1) * D<=R:=by
 have a:R/ e/ (D/ e+1) * (D/ e+1)<=R/ e:=Nat.div_mul_le_self _ _;have c:R/ e* e<=R:=Nat.div_mul_le_self _ _
 have b:D< (D/ e+1) * e:=by
  have:=Nat.lt_mul_div_succ D he;rw[Nat.mul_comm];exact this
 have d:R/ e/ (D/ e+1) * D<=R/ e/ (D/ e+1) * ((D/ e+1) * e):=Nat.mul_le_mul_left _ (Nat.le_of_lt b)
 have f:R/ e/ (D/ e+1) * ((D/ e+1) * e)<=R/ e* e:=by
  rw[<-Nat.mul_assoc];exact Nat.mul_le_mul_right _ a
 omega
theorem zZ_pos{D:Nat}(h:0< D):zZ (D:Int)=[i64 1,.arr (iE (zd D))]:=by
 unfold zZ sgZ;rw[if_neg ω,if_neg ω,Int.natAbs_natCast]
theorem Ki(R D:Nat)(hD:0< D)(hR:R< UB* D)(hb:bl D<=4398046511104):FS 261 [.arr (iE (zd R)),.arr (iE (zd D))] (.tup [i64 (R/ D:Nat),.arr (iE (zd (R % D)))]):=by
 have hzR:=c7 R;have w:=c7 D;have Y:=b8 (b:=UB) δ D;have hlR:=b8 (b:=UB) δ R
 have Z:bl R<=bl D+16:=by
  have d:=dO (Nat.le_of_lt hR);have C:=im UB D;have Q:bl UB=16:=δ
  omega
 obtain⟨n,t⟩:∃n,n=(zd D).length:=⟨_,rfl⟩
 have X:1<=n:=by
  have:zd D≠[]:=λh=>by have:=zd_eq_nil.1 h;omega
  have:=List.length_pos_iff.2 this;omega
 have l:D< UB^ n:=by
  have:=Gs (j7 D);rwa[lx,<-t] at this
 have m:R< UB^ (n+1):=by
  rw[Nat.pow_succ,Nat.mul_comm];exact Nat.lt_of_lt_of_le hR (Nat.mul_le_mul_left _ (Nat.le_of_lt l))
 have u:∀k,k* D<=R->k< UB:=by
  intro k F;refine Nat.lt_of_not_le λh=>?_;have:=Nat.mul_le_mul_right D h;omega
 refine f_c Tryz.func261 ?_;refine r_z 2 ?_;refine r_z 1 ?_;refine r_z 3 ?_;refine bD (λk:Nat=>vP D (R,k)) (λk=>k* D<=R) ?_ ?_;refine r_z 4 ?_;refine ar rfl (λh=>?_) (λh=>?_);have y:(zd D).length<=(zd R).length:=by simpa using h
 refine r_z 2 ?_;refine ar rfl (λd=>?_) (λd=>?_);have Q:n<=3:=by rw[t];have:=of_decide_eq_true d;omega
 have f:=rU R (n+1) (n+1) ω (Nat.le_refl _) m ω ω;have g:=rU D n n ω (Nat.le_refl _) l ω ω;rw[Nat.sub_self,Nat.pow_zero,Nat.div_one] at f g;rw[t] at f g;have r:(R:Int) / D=(R/ D:Nat):=(Int.natCast_ediv _ _).symm;have W:R< 1152921504606846976:=Nat.lt_of_lt_of_le m (Nat.pow_le_pow_right (n:=32768) (j:=4) δ ω);refine r_m 12 ?_;refine c_s (f) ?_;refine c_s (g) ?_;refine a_z ?_;refine⟨R/ D,Nat.div_mul_le_self _ _,?_⟩;simp only[vP.eq_1];have:=(congrArg (λz=>AV.v (.int .i64 z)) r);exact s_f [];have Q:3< n:=by rw[t];have:=of_decide_eq_false d;omega
 have f:=rU R (n+1) 4 ω ω m ω ω;have g:=rU D n 3 ω ω l ω ω;rw[show n+1- 4=n- 3 by omega] at f;obtain⟨e,x⟩:∃e,e=UB^ (n- 3):=⟨_,rfl⟩;have p:0< e:=by rw[x];exact Nat.pow_pos δ
 rw[<-x] at f g
 have J:R/ e< 1152921504606846976:=by
  rw[Nat.div_lt_iff_lt_mul p,x];have H:UB^ 4=1152921504606846976:=δ
  have:UB^ (n+1)=1152921504606846976* UB^ (n- 3):=by
   rw[show n+1=4+(n- 3) by omega,Nat.pow_add,H]
  omega
 have L:D/ e< 35184372088832:=by
  rw[Nat.div_lt_iff_lt_mul p,x];have H:UB^ 3=35184372088832:=δ
  have:UB^ n=35184372088832* UB^ (n- 3):=by
   rw[<-H,<-Nat.pow_add];congr 1;omega
  omega
 rw[t] at f g
 have r:((R/ e:Nat):Int) / (((D/ e:Nat):Int)+1)=(R/ e/ (D/ e+1):Nat):=by
  rw[show(((D/ e:Nat):Int)+1)=((D/ e+1:Nat):Int) by omega];exact(Int.natCast_ediv _ _).symm
 have a:=est_le (R:=R) (D:=D) p;obtain⟨A,hA⟩:∃A,A=R/ e:=⟨_,rfl⟩;obtain⟨B,hB⟩:∃B,B=D/ e:=⟨_,rfl⟩;rw[<-hA] at f J r a;rw[<-hB] at g L r a;refine r_m 10 ?_;refine c_s (f) ?_;refine c_s (g) ?_;refine a_z ?_;refine⟨A/ (B+1),a,?_⟩;simp only[vP.eq_1];have:=(congrArg (λz=>AV.v (.int .i64 z)) r);exact s_f [];refine aj ⟨0,ψ,?_⟩;simp only[vP.eq_1];exact s_e [];rintro k F;have M:=u k F;have N:k< 32768:=M;rw[vP.eq_1];refine bD (λ_:Unit=>vP D (R- k* D,k)) (λ_=>True) ?_ ?_;refine r_z 2 ?_;refine ar rfl (λd=>?_) (λd=>?_)
 have K:zl (k:Int):=by
  unfold zl;rw[Int.natAbs_natCast];have:=gY (n:=k) (k:=15) ω;omega
 have w:zl (D:Int):=by unfold zl;rw[Int.natAbs_natCast];omega
 have U:=iU (k:Int) (D:Int) K w;rw[zZ_pos hD] at U;have o:((k:Int) * (D:Int)).natAbs=k* D:=by rw[<-Int.natCast_mul,Int.natAbs_natCast]
 have hbk:bl (k* D)<=bl D+16:=by
  have:=dO F;omega
 have hlk:=b8 (b:=UB) δ (k* D);have i:=rX R (k* D) (-1) (R- k* D) (.inr rfl) ω ω (by rw[c7];omega);rw[<-o] at i;rw[o] at i;refine r_m 9 ?_;refine c_s (jE k ω) ?_;refine c_s (U) ?_;refine bm (.field1 rfl TF.h TA.h rfl) rfl rfl ?_;refine o_0 (.call rfl rfl rfl ((by rw[o];exact i))) ?_;refine o_0 (.assign rfl) ?_;refine aq ?_;refine⟨(),trivial,?_⟩;simp only[vP.eq_1];exact s_e [];have G:k=0:=by simp at d;omega
 subst G;refine aj ⟨(),trivial,?_⟩;simp only[vP.eq_1,Nat.zero_mul,Nat.sub_zero];exact s_e [];rintro _ _;rw[vP.eq_1];refine bD (vP D) (λv=>v.1=R % D/\v.2=R/ D) ?_ ?_;refine ah (ay (vP D) (λv=>v.1) (λv=>v.1+v.2* D=R/\v.1<=R) (R- k* D,k) ⟨by simp only;omega,by simp only;omega⟩ ?_ ?_);simp only[vP.eq_1];exact s_e [];rintro⟨c,s⟩ ⟨hv,a⟩;simp only at hv a;have V:bl c<=bl D+16:=by have:=dO a;omega
 have O:=b8 (b:=UB) δ c;have S:=c7 c;have E:=u s ω;have T:s< 32768:=E;rw[vP.eq_1];refine ac (r_c 4 (Cc c D ω ω) ?_);refine a_z ?_;refine ar rfl (λh=>?_) (λh=>?_)
 have y:D<=c:=by
  have:=of_decide_eq_true h;unfold fg at this;split at this <;> omega
 refine aj (ah (r_c 4 (rX c D (-1) (c- D) (.inr rfl) ω ω ω) ?_));refine a_z ?_;refine r_m 3 ?_;refine a_z ?_;refine⟨(c- D,s+1),by simp only;omega,⟨by simp only;rw[Nat.add_mul];omega,by simp only;omega⟩,?_⟩;simp only[vP.eq_1];exact s_e []
 have q:c< D:=by
  have:=of_decide_eq_false h;unfold fg at this;split at this;omega;split at this <;> omega
 refine ax ⟨(c,s),⟨?_,?_⟩,?_⟩;simp only;rw[<-hv,Nat.add_mul_mod_self_right,Nat.mod_eq_of_lt q];simp only;rw[<-hv,Nat.add_mul_div_right _ _ hD,Nat.div_eq_of_lt q,Nat.zero_add];simp only[vP.eq_1];exact s_e [];rintro⟨c,s⟩ ⟨d,C⟩;simp only at d C;subst d C;rw[vP.eq_1];refine r_z 4 ?_;refine ai (Fin.many ⟨_,_,rfl,rfl,⟨_,_,rfl,rfl,rfl⟩⟩ (nle rfl) ?_);exact am (ao aF (ak _)) (am (ao aF (fu _)) av)
def Hz(A D:Nat):Ln->Nat->Nat->AState
 |[],R,i=>⟨[(0,.arr (iE (zd A))),(1,.arr (iE (zd D))),(6,.emp),(7,.arr (iE (zd R))),(8,i64 i)],[],1,54⟩
 |q::Q,R,i=>⟨[(0,.arr (iE (zd A))),(1,.arr (iE (zd D))),(6,.lsl 1 0 (Q.length+1) none 1),(7,.arr (iE (zd R))),(8,i64 i)],[(1,some ⟨3,1,iE (q::Q)⟩)],2,54⟩
theorem jL(A D R i:Nat):Hz A D [] R i=⟨[(0,.arr (iE (zd A))),(1,.arr (iE (zd D))),(6,.emp),(7,.arr (iE (zd R))),(8,i64 i)],[],1,54⟩:=rfl
theorem gz(A D:Nat)(q:Nat)(Q:Ln)(R i:Nat):Hz A D (q::Q) R i=⟨[(0,.arr (iE (zd A))),(1,.arr (iE (zd D))),(6,.lsl 1 0 (Q.length+1) none 1),(7,.arr (iE (zd R))),(8,i64 i)],[(1,some ⟨3,1,iE (q::Q)⟩)],2,54⟩:=rfl
theorem Jd{P D R a:Nat}(hD:0< D)(hR:R=P % D)(ha:a< UB):R* UB+a< UB* D/\(P* UB+a) / D=P/ D* UB+(R* UB+a) / D/\(P* UB+a) % D=(R* UB+a) % D/\(R* UB+a) / D< UB:=by
 have b:=Nat.div_add_mod P D;have c:=Nat.mod_lt P hD;rw[<-hR] at b c
 have e:R* UB+a< UB* D:=by
  have:(R+1) * UB<=D* UB:=Nat.mul_le_mul_right _ c;rw[Nat.add_mul,Nat.one_mul,Nat.mul_comm D] at this;omega
 have d:P* UB+a=D* (P/ D* UB)+(R* UB+a):=by
  conv=>lhs;rw[<-b]
  rw[Nat.add_mul,Nat.mul_assoc,Nat.add_assoc]
 refine⟨e,?_,?_,?_⟩;rw[d,Nat.mul_add_div hD];rw[d,Nat.mul_add_mod];rw[Nat.div_lt_iff_lt_mul hD];exact e
theorem rJ(A D:Nat)(hD:0< D)(hA:bl A<=4398046511104)(hb:bl D<=4398046511104):FS 213 [.arr (iE (zd A)),.arr (iE (zd D))] (.tup [.arr (iE (zd (A/ D))),.arr (iE (zd (A % D)))]):=by
 have V:=c7 A;have K:=c7 D;have S:=b8 (b:=UB) δ D;have X:=b8 (b:=UB) δ A;obtain⟨n,Z⟩:∃n,n=(zd D).length:=⟨_,rfl⟩
 have O:1<=n:=by
  have:zd D≠[]:=λh=>by have:=zd_eq_nil.1 h;omega
  have:=List.length_pos_iff.2 this;omega
 have T:UB^ (n- 1)<=D:=by
  rcases uG (b:=UB) (n:=D) δ with h|h
  rwa[<-K,<-Z] at h;omega
 refine f_c Tryz.func213 ?_;refine r_z 2 ?_;refine ac (r_z 5 ?_);refine ar rfl (λh=>?_) (λh=>?_);have C:(zd A).length< (zd D).length:=by have:=of_decide_eq_true h;omega
 have F:A< D:=kw (b:=UB) δ ω;refine r_z 3 ?_;refine ai (Fin.many ⟨_,_,rfl,rfl,⟨_,_,rfl,rfl,rfl⟩⟩ (nle rfl) ?_);rw[Nat.div_eq_of_lt F,Nat.mod_eq_of_lt F,oD];exact am (Cv.emp _) (am (ao aF (fu _)) av);have B:n<=(zd A).length:=by have:=of_decide_eq_false h;omega
 refine aj (r_z 1 ?_);obtain⟨G,t⟩:∃G,G=hv ((zd A).take (n- 1)):=⟨_,rfl⟩
 have u:G< D:=by
  have y:=Gs (l:=(zd A).take (n- 1)) λd g=>j7 A d (List.mem_of_mem_take g);rw[<-t] at y;have h2:UB^ ((zd A).take (n- 1)).length<=UB^ (n- 1):=Nat.pow_le_pow_right δ χ;omega
 have s:=jN ((zd A).take (n- 1)) χ;rw[gw (λd g=>j7 A d (List.mem_of_mem_take g)),<-t] at s;refine bD (λ_:Unit=>⟨[(0,.arr (iE (zd A))),(1,.arr (iE (zd D))),(6,.emp),(7,.arr (iE (zd G)))],[],1,54⟩) (λ_=>True) ?_ ?_;by_cases hn2:n=1;rw[hn2] at s;refine r_m 8 ?_;refine a_4 ?_;refine o_0 (.sa_h rfl rfl (h:=0) ω ψ te_43.h (mW _)) ?_;refine o_0 (.append0 rfl rfl rfl te_43.h rfl rfl rfl (.arr (es:=[]) ψ)) ?_;refine c_s (s) ?_;refine a_z ?_;refine⟨(),trivial,?_⟩;exact s_e []
 ·have E:(iE (zd A)).take (n- 1)≠[]:=λh=>by
   have:=congrArg List.length h;rw[List.length_take,tv,List.length_nil] at this;omega
  have m:List.take ((iE (zd A)).take (n- 1)).length (List.drop 0 ((iE (zd A)).take (n- 1)))=iE ((zd A).take (n- 1)):=by rw[List.drop_zero,List.take_length,iE_take]
  refine r_m 8 ?_;refine a_4 ?_;refine o_0 (.sa_h rfl rfl (h:=n- 1) ω χ te_43.h (mW _)) ?_;refine o_1 (.append_e rfl rfl rfl te_43.h rfl rfl rfl (.arr (λe he=>mW _ e (List.mem_of_mem_take he))) (by first|assumption|(simp;done)) TZ.h rfl TB.h d_o μ) ?_;refine o_1 (.callS1 rfl rfl rfl (.shut rfl d_n (.nil)) rfl ((by rw[m];exact s))) ?_;refine a_z ?_;refine⟨(),trivial,?_⟩;exact s_e []
 rintro _ _;refine ac (r_z 4 ?_);refine aC (λx:Ln×Nat=>Hz A D x.1 x.2 (zd A).length) (λx=>(∀d∈x.1,d< UB)/\hv x.1=A/ D/\x.2=A % D/\x.1.length<=(zd A).length) ?_ ?_;refine ah (ay (λx:Ln×Nat×Nat=>Hz A D x.1 x.2.1 x.2.2) (λx=>(zd A).length- x.2.2) (λx=>x.2.2<=(zd A).length/\(∀d∈x.1,d< UB)/\hv x.1=hv ((zd A).take x.2.2) / D/\x.2.1=hv ((zd A).take x.2.2) % D/\x.1.length<=x.2.2) ([],G,n- 1) ⟨by simp only;omega,ψ,by simp only;rw[<-t,Nat.div_eq_of_lt u];rfl,by simp only;rw[<-t,Nat.mod_eq_of_lt u],ψ⟩ ?_ ?_);simp only[jL];exact s_e [];rintro⟨Q,R,i⟩ ⟨Y,k,p,r,j⟩;simp only at Y k p r j
 -- the head,whatever the quotient so far
 by_cases C:i< (zd A).length
 ·obtain⟨a,z⟩:∃a,(zd A)[i]?=some a:=⟨_,List.getElem?_eq_getElem C⟩
  have ha:a< UB:=j7 A a (List.mem_of_getElem? z);have f:(iE (zd A))[((i:Nat):Int).toNat]?=some [i64 a]:=lL z;have o:hv ((zd A).take (i+1))=hv ((zd A).take i) * UB+a:=by rw[cO z,rA]
  obtain⟨P,hP⟩:∃P,P=hv ((zd A).take i):=⟨_,rfl⟩;rw[<-hP] at p r o;obtain⟨s1,s2,N,L⟩:=Jd hD r ha;have J:R< D:=by rw[r];exact Nat.mod_lt _ hD
  have W:=b8 (b:=UB) δ R;have U:=dO (Nat.le_of_lt J);have hzR:=c7 R;have H:=Ki (R* UB+a) D hD s1 hb;cases Q with
  |nil=>
   simp only[jL];refine ac (r_z 4 ?_);refine ar rfl (λh=>?_) (λh=>?_);rotate_left;exact absurd h χ;refine aj (ac (ah (bD (λ_:Unit=>Hz A D [] (R* UB+a) i) (λ_=>True) ?_ ?_)));by_cases hR0:R=0;subst hR0;have c:=jN [a] ψ;rw[gw (by simpa using ha),show hv [a]=0* UB+a by rw[rD,wL];simp] at c;rw[oD];refine r_d aX 10 ?_;refine a_1 ?_;refine o_0 (.append0 rfl rfl rfl te_43.h rfl rfl rfl (.arr (es:=[]) ψ)) ?_;refine a_2 ?_;refine i_x f ?_;refine l_1 f ?_;refine a_2 ?_;refine o_1 (.callS1 rfl rfl rfl (.shut rfl d_n (.nil)) rfl ((FSpec.argE c rfl))) ?_;refine a_1 ?_;refine aq (n_k ?_);refine⟨(),trivial,?_⟩;simp only[jL];exact s_e []
   ·have E:iE (zd R)≠[]:=λh=>by
     have y:=congrArg List.length h;rw[tv,List.length_nil,List.length_eq_zero_iff] at y;exact hR0 (zd_eq_nil.1 y)
    have v:∀d∈zd R++[a],d< UB:=λd g=>by
     rcases List.mem_append.1 g with g|g
     exact j7 R d g;simp at g;rw[g];exact ha
    have c:=jN (zd R++[a]) χ;rw[gw v,rA,lx] at c;refine r_d aX 10 ?_;refine a_1 ?_;refine o_1 (.append_e rfl rfl rfl te_43.h rfl rfl rfl (.arr (mW _)) (by first|assumption|(simp;done)) TZ.h rfl TB.h d_o μ) ?_;refine a_2 ?_;refine i_x f ?_;refine l_1 f ?_;refine a_2 ?_;refine o_1 (.callS1 rfl rfl rfl (.shut rfl d_n (.nil)) rfl ((FSpec.argE c (by rw[List.drop_zero,List.take_of_length_le ψ];simp[iE,i64])))) ?_;refine a_1 ?_;refine aq (n_k ?_);refine⟨(),trivial,?_⟩;simp only[jL];exact s_e []
   rintro _ _;simp only[jL];refine r_z 1 ?_;refine r_c 8 (H) ?_;refine a_z ?_;refine r_m 5 ?_;refine a_z ?_;refine r_m 3 ?_;refine a_z ?_;refine⟨([(R* UB+a) / D],(R* UB+a) % D,i+1),by simp only;omega,⟨by simp only;omega,by simpa using L,?_,?_,ψ⟩,?_⟩;simp only;rw[o,s2,<-p,rD,wL];simp;simp only;rw[o,N];simp only[gz];exact s_e [(1,6)]
  |cons q Q=>
   simp only[gz];refine ac (r_z 4 ?_);refine ar rfl (λh=>?_) (λh=>?_);rotate_left;exact absurd h χ;refine aj (ac (ah (bD (λ_:Unit=>Hz A D (q::Q) (R* UB+a) i) (λ_=>True) ?_ ?_)));by_cases hR0:R=0;subst hR0;have c:=jN [a] ψ;rw[gw (by simpa using ha),show hv [a]=0* UB+a by rw[rD,wL];simp] at c;rw[oD];refine r_d aX 10 ?_;refine a_1 ?_;refine o_0 (.append0 rfl rfl rfl te_43.h rfl rfl rfl (.arr (es:=[]) ψ)) ?_;refine a_2 ?_;refine i_x f ?_;refine l_1 f ?_;refine a_2 ?_;refine o_1 (.callS1 rfl rfl rfl (.shut rfl d_n (.nil)) rfl ((FSpec.argE c rfl))) ?_;refine a_1 ?_;refine aq (n_k ?_);refine⟨(),trivial,?_⟩;simp only[gz];exact s_e []
   ·have E:iE (zd R)≠[]:=λh=>by
     have y:=congrArg List.length h;rw[tv,List.length_nil,List.length_eq_zero_iff] at y;exact hR0 (zd_eq_nil.1 y)
    have v:∀d∈zd R++[a],d< UB:=λd g=>by
     rcases List.mem_append.1 g with g|g
     exact j7 R d g;simp at g;rw[g];exact ha
    have c:=jN (zd R++[a]) χ;rw[gw v,rA,lx] at c;refine r_d aX 10 ?_;refine a_1 ?_;refine o_1 (.append_e rfl rfl rfl te_43.h rfl rfl rfl (.arr (mW _)) (by first|assumption|(simp;done)) TZ.h rfl TB.h d_o μ) ?_;refine a_2 ?_;refine i_x f ?_;refine l_1 f ?_;refine a_2 ?_;refine o_1 (.callS1 rfl rfl rfl (.shut rfl d_n (.nil)) rfl ((FSpec.argE c (by rw[List.drop_zero,List.take_of_length_le ψ];simp[iE,i64])))) ?_;refine a_1 ?_;refine aq (n_k ?_);refine⟨(),trivial,?_⟩;simp only[gz];exact s_e []
   rintro _ _;simp only[gz];refine r_z 1 ?_;refine r_c 8 (H) ?_;refine a_z ?_;have M:Q.length+1<=i:=by simpa using j
   refine r_m 5 ?_;refine a_z ?_;refine r_m 3 ?_;refine a_z ?_;refine⟨(q::(Q++[(R* UB+a) / D]),(R* UB+a) % D,i+1),by simp only;omega,⟨by simp only;omega,?_,?_,?_,by simp at j⊢;omega⟩,?_⟩;intro d g;rcases List.mem_append.1 (show d∈(q::Q)++[(R* UB+a) / D] from g) with g|g
   exact k d g;simp at g;rw[g];exact L;simp only;rw[o,s2,<-p,<-rA];rfl;simp only;rw[o,N];simp only[gz];have e:iE (q::Q)++List.take 1 (List.drop 0 [[i64 ((R* UB+a) / D:Nat)]])=iE (q::(Q++[(R* UB+a) / D])):=by simp[iE]
   exact s_x [(1,6)] (λhs=>dD) (λhs=>e_35) e_1
 have B:i=(zd A).length:=ω
 subst B;rw[List.take_length,lx] at p r;cases Q with
 |nil=>
  simp only[jL];refine ac (r_z 4 ?_);refine ar rfl (λh=>?_) (λh=>?_);exact absurd h ψ;refine ax ⟨([],R),⟨k,p,r,j⟩,?_⟩;simp only[jL];exact s_e []
 |cons q Q=>
  simp only[gz];refine ac (r_z 4 ?_);refine ar rfl (λh=>?_) (λh=>?_);exact absurd h ψ;refine ax ⟨(q::Q,R),⟨k,p,r,j⟩,?_⟩;simp only[gz];exact s_e []
 rintro⟨Q,R⟩ ⟨k,p,r,j⟩;simp only at k p r j;have w:=jN Q ω;rw[gw k,p] at w;subst r;cases Q with
 |nil=>
  simp only[jL];refine r_c 5 (w) ?_;refine a_z ?_;refine ai (Fin.many ⟨_,_,rfl,rfl,⟨_,_,rfl,rfl,rfl⟩⟩ (nle rfl) ?_);exact am (ao aF (fu _)) (am (ao aF (fu _)) av)
 |cons q Q=>
  simp only[gz];have m:List.take (Q.length+1) (List.drop 0 (iE (q::Q)))=iE (q::Q):=by rw[List.drop_zero,List.take_of_length_le ψ]
  refine s_r 5 ?_;refine a_1 ?_;refine o_1 (.callS1 rfl rfl rfl (.shut rfl d_n (.nil)) rfl ((by rw[m];exact w))) ?_;refine a_z ?_;refine ai (Fin.many ⟨_,_,rfl,rfl,⟨_,_,rfl,rfl,rfl⟩⟩ (nle rfl) ?_);exact am (ao aF (fu _)) (am (ao aF (fu _)) av)
def zgS:Nat×Nat->AState
 |(p,q)=>⟨[(4,.lptr 1 0 0),(5,.arr (iE (zd p))),(6,.arr (iE (zd q)))],[(1,some ⟨45,2,[[i64 0,.emp]]⟩)],2,48⟩
theorem nF(p:Nat)(q:Nat):zgS (p,q)=⟨[(4,.lptr 1 0 0),(5,.arr (iE (zd p))),(6,.arr (iE (zd q)))],[(1,some ⟨45,2,[[i64 0,.emp]]⟩)],2,48⟩:=rfl
def zgW:Nat×Nat->AState
 |(x,y)=>⟨[(4,.lptr 1 0 0),(7,i64 x),(8,i64 y)],[(1,some ⟨45,2,[[i64 0,.emp]]⟩)],2,48⟩
theorem vv(x:Nat)(y:Nat):zgW (x,y)=⟨[(4,.lptr 1 0 0),(7,i64 x),(8,i64 y)],[(1,some ⟨45,2,[[i64 0,.emp]]⟩)],2,48⟩:=rfl
theorem x8(p q:Nat):Nat.gcd q (p % q)=Nat.gcd p q:=by
 rw[Nat.gcd_comm p q,Nat.gcd_rec q p,Nat.gcd_comm]
theorem x7{n:Nat}(h:(zd n).length<=4):n< 1152921504606846976:=by
 have a:=Gs (j7 n);rw[lx] at a;exact Nat.lt_of_lt_of_le a (Nat.pow_le_pow_right (n:=32768) (j:=4) δ h)
theorem GD(x y:Int)(hx:bl x.natAbs<=4398046511104)(hy:bl y.natAbs<=4398046511104):FS 212 [.agg (zZ x),.agg (zZ y)] (.agg (zZ (Nat.gcd x.natAbs y.natAbs:Nat))):=by
 refine f_c Tryz.func212 ?_;refine r_z 3 ?_;refine ac (r_d aX 6 ?_);refine a_6 ?_;refine aq (n_k ?_);refine bD (λp:Nat=>zgS (p,0)) (λp=>p=Nat.gcd x.natAbs y.natAbs) ?_ ?_;refine ah (ay zgS (λv=>v.2) (λv=>Nat.gcd v.1 v.2=Nat.gcd x.natAbs y.natAbs/\bl v.1<=4398046511104/\bl v.2<=4398046511104) (x.natAbs,y.natAbs) ⟨rfl,hx,hy⟩ ?_ ?_);simp only[nF];exact s_e [(1,4)];rintro⟨p,q⟩ ⟨g,hp,k⟩;simp only at g hp k;have n:=c7 p;have w:=c7 q;have r:=b8 (b:=UB) δ p;have t:=b8 (b:=UB) δ q;rw[nF];refine ac (r_z 3 ?_);refine ar rfl (λh=>?_) (λh=>?_)
 have a:0< q:=by
  rcases Nat.eq_zero_or_pos q with e|e
  subst e;rw[oD] at h;simp at h;exact e
 refine aj (ah (bD (λ_:Unit=>zgS (p,q)) (λ_=>True) ?_ ?_));by_cases hl:(zd p).length<=4;by_cases hl2:(zd q).length<=4;have o:=x7 hl;have m:=x7 hl2;have i:=wN (zd p) hl (j7 p);have f:=wN (zd q) hl2 (j7 q);rw[lx] at i f;refine s_r 8 ?_;refine a_4 ?_;refine y_g rfl χ (.move rfl) ?_;refine y_g rfl χ (.lenI rfl rfl rfl rfl te_43.h) ?_;refine y_g rfl χ (.bin rfl rfl gj) ?_;refine o_0 (.pickT rfl χ rfl) ?_;refine aq ?_;refine ar rfl (λl=>?_) (λl=>?_);refine r_c 6 (i) ?_;refine c_s (f) ?_;refine a_z ?_;refine bD (λv:Nat=>zgW (v,0)) (λv=>v=Nat.gcd x.natAbs y.natAbs) ?_ ?_;refine ah (ay zgW (λv=>v.2) (λv=>Nat.gcd v.1 v.2=Nat.gcd x.natAbs y.natAbs/\v.1< 1152921504606846976/\v.2< 1152921504606846976) (p,q) ⟨g,o,m⟩ ?_ ?_);simp only[vv];exact s_e [];rintro⟨u,v⟩ ⟨d,z,hv⟩;simp only at d z hv;rw[vv];refine ac (r_z 2 ?_);refine ar rfl (λj=>?_) (λj=>?_);have c:0< v:=by simp at j;omega
 refine aj (ah (r_d aX 6 ?_));refine a_6 ?_;refine aq (n_k ?_);refine⟨(v,u % v),Nat.mod_lt _ c,⟨(x8 u v).trans d,hv,Nat.lt_trans (Nat.mod_lt _ c) hv⟩,?_⟩;simp only[vv];exact s_e [];have c:v=0:=by simp at j;omega
 subst c;refine ax ⟨u,by simpa using d,?_⟩;simp only[vv];exact s_e [];rintro v hv;rw[vv]
 have s:v< 1152921504606846976:=by
  rw[hv,<-g];have l:Nat.gcd p q<=q:=Nat.gcd_le_right _ a;omega
 refine r_c 3 (jE v ω) ?_;refine a_z ?_;refine ai (ec rfl rfl rfl TG.h TS.h (nle rfl) ?_ ?_);rw[<-hv];rfl;exact cV _;exact absurd l χ;refine s_r 8 ?_;refine a_4 ?_;refine y_g rfl χ (.move rfl) ?_;refine y_g rfl χ (.lenI rfl rfl rfl rfl te_43.h) ?_;refine y_g rfl χ (.bin rfl rfl gj) ?_;refine o_0 (.pickT rfl χ rfl) ?_;refine aq ?_;refine ar rfl (λh=>?_) (λ_=>aj ⟨(),trivial,?_⟩);exact absurd h χ;simp only[nF];exact s_e [];refine s_r 8 ?_;refine a_4 ?_;refine n_g rfl χ ?_;refine n_g rfl χ ?_;refine n_g rfl χ ?_;refine o_0 (.pickF rfl χ rfl) ?_;refine aq ?_;refine ar rfl (λh=>?_) (λ_=>aj ⟨(),trivial,?_⟩);cases h;simp only[nF];exact s_e [];rintro _ _;rw[nF];refine r_c 8 (rJ p q a hp k) ?_;refine a_z ?_;refine r_m 4 ?_;refine a_z ?_;refine⟨(q,p % q),Nat.mod_lt _ a,⟨(x8 p q).trans g,k,?_⟩,?_⟩;have:=dO (Nat.le_of_lt (Nat.mod_lt p a));simp only;omega;simp only[nF];exact s_e []
 have a:q=0:=by
  refine zd_eq_nil.1 (List.length_eq_zero_iff.1 ?_);have:=of_decide_eq_false h;omega
 subst a;refine ax ⟨p,by simpa using g,?_⟩;simp only[nF];exact s_e [];rintro p hp;rw[nF]
 have A:bl p<=4398046511104:=by
  rw[hp];rcases Nat.eq_zero_or_pos y.natAbs with e|e
  rw[e,Nat.gcd_zero_right];exact hx;exact Nat.le_trans (dO (Nat.gcd_le_right _ e)) hy
 have n:=c7 p;have r:=b8 (b:=UB) δ p;refine r_c 3 (ly 1 (zd p) (p:Int) ω (j7 p) (by rw[lx,Int.natAbs_natCast]) (λh=>by unfold sgZ;rw[if_neg h,if_neg ω])) ?_;refine a_z ?_;refine ai (ec rfl rfl rfl TG.h TS.h (nle rfl) ?_ ?_);rw[<-hp];rfl;exact cV _
theorem fi(x:RQ)(hx:rok x):FS 136 [.agg (rC x)] (.agg (zZ (x.1.den:Int))):=by
 refine f_c Tryz.func136 ?_;refine r_z 2 ?_;refine ac (r_z 4 ?_);obtain⟨q,f⟩:=x;have hp:=q.den_pos;cases f with
 |true=>
  have c:q=0:=hx rfl;subst c;refine ar (t:=true) rfl (λh=>?_) (λh=>?_);refine r_c 2 (jE 1 δ) ?_;refine a_z ?_;exact ai (c_e (cV _));cases h
 |false=>
  refine ar rfl (λh=>?_) (λh=>?_);exfalso;have d:sgZ (q.den:Int)=0:=by simpa using h
  rcases di (q.den:Int) with⟨a,b⟩|⟨a,b⟩|⟨a,b⟩<;> omega
  refine aj (r_z 3 ?_);exact ai (c_e (cV _))
theorem zd_one:zd 1=[1]:=by
 unfold zd;rw[eY δ δ,show 1/ UB=0 by decide,cI];rfl
theorem zZ_one{g:Nat}(h:g=1):zZ (g:Int)=[i64 1,.arr [[i64 1]]]:=by
 subst h;show [i64 (sgZ 1),AV.arr (iE (zd 1))]=_;rw[zd_one];rfl
theorem Hd{g:Nat}(h:(zd g).length=1):zd g=[g]:=by
 obtain⟨a,ha⟩:=List.length_eq_one_iff.1 h;have b:=lx g;rw[ha,rD,wL] at b;simp at b;rw[ha,b]
theorem x9{n:Nat}(h:bl n<=4398046511104):(zd n).length<=281474976710656:=by
 rw[c7];have:=b8 (b:=UB) δ n;omega
def ratS(n':Int)(D g:Nat):AState:=⟨[(2,.lptr 1 0 0),(3,.lptr 2 0 0),(4,.lptr 3 0 0),(5,.lptr 4 0 0)],[(1,some ⟨45,2,[zZ n']⟩),(2,some ⟨45,2,[zZ (D:Int)]⟩),(3,some ⟨47,4,[[i64 0,.emp,i64 0,.emp]]⟩),(4,some ⟨45,2,[zZ (g:Int)]⟩)],5,57⟩
theorem rZ(n d:Int)(hd:d≠0)(hn:bl n.natAbs<=4398046511104)(hb:bl d.natAbs<=4398046511104):FS 133 [.agg (zZ n),.agg (zZ d)] (.agg (rC (rq (Rat.divInt n d)))):=by
 refine f_c Tryz.func133 ?_;refine r_z 3 ?_;refine bD (λf:Int=>⟨[(2,.lptr 1 0 0),(3,.lptr 2 0 0),(4,.lptr 3 0 0)],[(1,some ⟨45,2,[zZ f]⟩),(2,some ⟨45,2,[zZ (d.natAbs:Int)]⟩),(3,some ⟨47,4,[[i64 0,.emp,i64 0,.emp]]⟩)],4,57⟩) (λf=>f.natAbs=n.natAbs/\Rat.divInt n d=mkRat f d.natAbs) ?_ ?_;refine r_z 3 ?_;refine ar rfl (λh=>?_) (λh=>?_)
 have t:d< 0:=by
  have k:sgZ d< 0:=by simpa using h
  rcases di d with⟨a,b⟩|⟨a,b⟩|⟨a,b⟩<;> omega
 have e: -d=(d.natAbs:Int):=ω
 have p:=vc d;rw[e] at p;refine r_d aX 6 ?_;refine c_s (vc n) ?_;refine c_s (p) ?_;refine a_2 ?_;refine aq (n_k ?_);refine⟨-n,⟨ω,qu n d t⟩,?_⟩;exact s_e []
 have l:0< d:=by
  have k:¬sgZ d< 0:=by simpa using h
  rcases di d with⟨a,b⟩|⟨a,b⟩|⟨a,b⟩<;> omega
 have e:d=(d.natAbs:Int):=ω
 refine aj ⟨n,⟨rfl,qt n d l⟩,?_⟩;rw[<-e];exact s_e [];rintro f ⟨u,hv⟩;have i:0< d.natAbs:=ω
 obtain⟨D,x⟩:∃D,D=d.natAbs:=⟨_,rfl⟩;rw[hv];rw[<-x] at hb i⊢;rw[<-u] at hn;obtain⟨g,j⟩:∃g,g=Nat.gcd f.natAbs D:=⟨_,rfl⟩;have s:0< g:=by rw[j];exact Nat.gcd_pos_of_pos_right _ i
 have y:g<=D:=by rw[j];exact Nat.gcd_le_right _ i
 have F:=dO y;have B:(mkRat f D).num.natAbs=f.natAbs/ g:=by rw[ku i,fT,j]
 have r:(mkRat f D).den=D/ g:=by rw[(l5 i).2,j]
 have z:=Hs (n:=f) i;have q:=GD f (D:Int) hn (by rw[Int.natAbs_natCast];exact hb);rw[Int.natAbs_natCast,<-j] at q
 have o:rC (rq (mkRat f D))=zZ (sgn (decide (f< 0)) (f.natAbs/ g))++zZ ((D/ g:Nat):Int):=by
  rw[BC,r,ku i,<-j]
 rw[o];have G:bl (D/ g)<=bl D:=fv D g;have A:bl (f.natAbs/ g)<=bl f.natAbs:=fv f.natAbs g;refine r_c 5 (q) ?_;refine a_z ?_;refine bD (λ_:Unit=>ratS f D g) (λ_=>g≠1) ?_ ?_;by_cases k:g=1;rw[zZ_one k];refine s_r 11 ?_;refine a_5 ?_;refine y_g rfl rfl (.fieldAddr_l rfl TF.h δ) ?_;refine y_g rfl rfl (.load_l1 rfl rfl rfl TG.h rfl) ?_;refine y_g rfl rfl (.index_a rfl rfl ω rfl rfl te_43.h) ?_;refine y_g rfl rfl (.load_a1 rfl rfl TG.h rfl) ?_;refine y_g rfl rfl (.bin rfl rfl bJ) ?_;refine o_0 (.pickT rfl rfl rfl) ?_;refine aq ?_;refine ar rfl (λh=>?_) (λh=>?_);refine r_z 4 ?_;refine ai ?_;rw[k,Nat.div_one,Nat.div_one,show sgn (decide (f< 0)) f.natAbs=f by unfold sgn;by_cases h0:f< 0 <;> simp[h0]<;> omega];exact c_e (aE λc hc=>(List.mem_append.1 hc).elim (dy _ c) (dy _ c));exact absurd h δ;by_cases hl:(zd g).length=1;have E:=Hd hl;have m:zZ (g:Int)=[i64 (sgZ (g:Int)),.arr (iE [g])]:=by show [i64 (sgZ (g:Int)),AV.arr (iE (zd g))]=_;rw[E]
 rw[m];refine s_r 11 ?_;refine a_5 ?_;refine y_g rfl rfl (.fieldAddr_l rfl TF.h δ) ?_;refine y_g rfl rfl (.load_l1 rfl rfl rfl TG.h rfl) ?_;refine y_g rfl rfl (.index_a rfl rfl ω rfl rfl te_43.h) ?_;refine y_g rfl rfl (.load_a1 rfl rfl TG.h rfl) ?_;refine y_g rfl rfl (.bin rfl rfl bJ) ?_;refine o_0 (.pickT rfl rfl rfl) ?_;refine aq ?_;refine ar rfl (λh=>?_) (λh=>?_);exact absurd h χ;refine aj ⟨(),k,?_⟩;rw[<-m];unfold ratS;exact s_e [(4,5)];refine s_r 11 ?_;refine a_5 ?_;refine n_g rfl χ ?_;refine n_g rfl χ ?_;refine n_g rfl χ ?_;refine n_g rfl χ ?_;refine n_g rfl χ ?_;refine o_0 (.pickF rfl χ rfl) ?_;refine aq ?_;refine ar rfl (λh=>?_) (λh=>?_);exact absurd h ψ;refine aj ⟨(),k,?_⟩;unfold ratS;exact s_e [(4,5)];rintro _ C;unfold ratS;have w:=ly (sgZ f) (zd (f.natAbs/ g)) (sgn (decide (f< 0)) (f.natAbs/ g)) (x9 ω) (j7 _) (by rw[lx,fT]) (λh=>by rw[<-z,ku i,<-j]);have v:=ly 1 (zd (D/ g)) ((D/ g:Nat):Int) (x9 ω) (j7 _) (by rw[lx,Int.natAbs_natCast]) (λh=>by unfold sgZ;rw[if_neg h,if_neg ω]);refine r_c 10 (rJ f.natAbs g s hn ω) ?_;refine a_z ?_;refine r_c 10 (rJ D g s hb ω) ?_;refine a_z ?_;refine r_c 8 (w) ?_;refine c_s (v) ?_;refine a_z ?_;exact ai (c_e (aE λc hc=>(List.mem_append.1 hc).elim (dy _ c) (dy _ c)))
end Go.Proofs.YtjmkjicckobojaaGreatDoor
