/- Part Y25 of the proof. -/
import Derived.Test.YtjmkjicckobojaaGreatDoorY24
set_option linter.all false
namespace Go.Proofs.YtjmkjicckobojaaGreatDoor
open Go.Abs
set_option maxRecDepth 20000
def I5(s:Int):Int×Ln->AState
 |(n,l)=>⟨[(0,i64 n),(2,.lptr 1 0 0),(3,i64 s),(4,.arr (iE l))],[(1,some ⟨45,2,[[i64 0,.emp]]⟩)],2,25⟩
theorem rl(n:Int)(h: -9223372036854775808<=n/\n<=9223372036854775807):FS 134 [i64 n] (.agg (zZ n)):=by
 obtain⟨s,hs⟩:∃s:Int,s=if n< 0 then -1 else 1:=⟨_,rfl⟩
 have j:n≠0->s=sgZ n:=by
  intro u;rw[hs];unfold sgZ;rw[if_neg u]
 refine f_c Tryz.func134 ?_;refine r_z 1 ?_;refine r_z 1 ?_;refine bD (λ_:Unit=>⟨[(0,i64 n),(2,.lptr 1 0 0),(3,i64 s)],[(1,some ⟨45,2,[[i64 0,.emp]]⟩)],2,25⟩) (λ_=>True) ?_ ?_;refine r_z 2 ?_;refine au rfl (λb=>?_) (λb=>?_);have p:n< 0:=by simpa using b
 rw[hs,if_pos p];refine r_m 1 ?_;refine a_z ?_;refine⟨(),trivial,?_⟩;exact s_e [];have p:¬n< 0:=by simpa using b
 rw[hs,if_neg p];refine an ⟨(),trivial,?_⟩;exact s_e [];rintro _ _;refine r_z 1 ?_;refine bD (λl:Ln=>I5 s (0,l)) (λl=>l.length<=10/\(∀d∈l,d< UB)/\hv l=n.natAbs) ?_ ?_;refine aj (aC (I5 s) (λx=>x.1.natAbs) (λx=>(-9223372036854775808<=x.1/\x.1<=9223372036854775807)/\(∀d∈x.2,d< UB)/\n.natAbs=hv x.2+UB^ x.2.length* x.1.natAbs/\x.2.length<=5) (n,[]) ⟨h,ψ,by simp[wm],ψ⟩ ?_ ?_);simp only[I5.eq_1];exact s_e [(1,2)];rintro⟨m,l⟩ ⟨B,c,a,o⟩;simp only at B c a o;rw[I5.eq_1];refine ae (r_z 2 ?_);refine au rfl (λh=>?_) (λh=>?_)
 ·have f:m≠0:=by simpa using h
  have A:l.length<=4:=by
   refine Ez λy=>?_;have F:UB^ 5<=UB^ l.length:=vi δ y;have C:UB^ l.length* 1<=UB^ l.length* m.natAbs:=sO _ ω;have D:UB^ 5=37778931862957161709568:=δ
   omega
  obtain⟨d,i⟩:∃d,d=m.natAbs % 32768:=⟨_,rfl⟩;have k:d< 32768:=ω
  have E:(m.tmod 32768).natAbs=d:=by rw[Int.natAbs_tmod,i];rfl
  have w:(m.tdiv 32768).natAbs=m.natAbs/ 32768:=by rw[Int.natAbs_tdiv];rfl
  have t:m.natAbs/ 32768< m.natAbs:=NM ω δ;have r:=MX m.natAbs 32768;refine an (aj (s_r 3 ?_));refine a_1 ?_;refine o_0 (.bin rfl rfl (I0 δ)) ?_;refine a_z ?_;refine bD (λ_:Unit=>⟨[(0,i64 m),(2,.lptr 1 0 0),(3,i64 s),(4,.arr (iE l)),(5,i64 d)],[(1,some ⟨45,2,[[i64 0,.emp]]⟩)],2,25⟩) (λ_=>True) ?_ ?_;refine r_z 2 ?_;refine au rfl (λb=>?_) (λb=>?_);have g:m.tmod 32768< 0:=by simpa using b
  refine r_m 3 ?_;refine a_z ?_;have e: -m.tmod 32768=d:=ω
  refine⟨(),trivial,?_⟩;have:=(congrArg (λz=>AV.v (.int .i64 z)) e);exact s_f [];have g:¬m.tmod 32768< 0:=by simpa using b
  have e:m.tmod 32768=d:=ω
  refine an ⟨(),trivial,?_⟩;have:=(congrArg (λz=>AV.v (.int .i64 z)) e);exact s_f [];rintro _ _;refine s_r 5 ?_;refine a_3 ?_;refine o_2 (.append_l rfl rfl rfl te_43.h rfl rfl rfl rfl rfl d_o ν θ rfl (.arr (mP _)) TZ.h rfl TB.h d_o μ) ?_;refine a_z ?_;refine r_m 3 ?_;refine a_1 ?_;refine o_0 (.bin rfl rfl (tR δ ω)) ?_;refine a_z ?_;refine⟨(m.tdiv 32768,d::l),by simp only;omega,⟨by simp only;omega,?_,?_,χ⟩,?_⟩;intro e q;rcases pY.1 q with rfl|q
  exact k;exact c e q;simp only[qP,vX];rw[a,w,D7,EB,JQ,<-zM];congr 2;show m.natAbs=d+32768* (m.natAbs/ 32768);omega;simp only[I5.eq_1];have e:[[i64 d]]++iE l=iE (d::l):=rfl;refine s_x [] (λhs=>?_) (λhs=>?_)
  ·repeat' (first|exact aV|refine aA rfl ?_ ?_|exact Cv.sealE hs rfl (aR rfl) e χ (dU _)|exact aZ)
  ·repeat' (first|exact aF|refine h_c ?_ ?_|exact bG|refine aB ?_|exact av|refine ai ?_ ?_|exact Cv.sealE hs rfl (aR rfl) e χ (dU _)|exact aZ)
 have f:m=0:=by simpa using h
 subst f;refine ay ⟨l,⟨ω,c,by simpa using a.symm⟩,?_⟩;simp only[I5.eq_1];exact s_e [];rintro l ⟨A,c,a⟩;rw[I5.eq_1];refine r_c 4 (ld s l n ω c a j) ?_;refine a_z ?_;exact ak (c_e (dl _))
theorem Gm{o:Ln}{j d:Nat}(h:o[j]?=some d):o.reverse[o.length- 1- j]?=some d:=by
 have a:j< o.length:=(jY.1 h).1;rw[Ny ω,show o.length- 1- (o.length- 1- j)=j by omega];exact h
theorem Gl{o:Ln}{j v:Nat}(hj:j< o.length):o.reverse.set (o.length- 1- j) v=(o.set j v).reverse:=by
 apply DE;intro i;by_cases hi:i< o.length;rw[Ny (by simpa using hi),Aa,Aa,Ob,Pe];by_cases h:o.length- 1- j=i;rw[if_pos h,if_pos ω,if_pos ω,if_pos ω];rw[if_neg h,if_neg ω,Ny hi];rw[zt (by simpa using hi),zt (by simpa using hi)]
def zmS(x:Int)(y:Int):Ln×Nat->AState
 |(o,i)=>⟨[(2,.lptr 1 0 0),(3,.lptr 2 0 0),(4,.lptr 3 0 0),(5,.lsl 4 0 ((zd x.natAbs).length+(zd y.natAbs).length) (some ((zd x.natAbs).length+(zd y.natAbs).length)) 1),(6,i64 (((zd x.natAbs).length:Int)- 1- i))],
  [(1,some ⟨45,2,[zZ x]⟩),(2,some ⟨45,2,[zZ y]⟩),(3,some ⟨45,2,[[i64 0,.emp]]⟩),(4,some ⟨3,1,iE o.reverse⟩)],5,76⟩
def zmT(x:Int)(y:Int)(i:Nat):Ln×Nat×Nat->AState
 |(o,k,c)=>⟨[(2,.lptr 1 0 0),(3,.lptr 2 0 0),(4,.lptr 3 0 0),(5,.lsl 4 0 ((zd x.natAbs).length+(zd y.natAbs).length) (some ((zd x.natAbs).length+(zd y.natAbs).length)) 1),(6,i64 (((zd x.natAbs).length:Int)- 1- i)),(7,i64 c),(8,i64 (((zd y.natAbs).length:Int)- 1- k))],
  [(1,some ⟨45,2,[zZ x]⟩),(2,some ⟨45,2,[zZ y]⟩),(3,some ⟨45,2,[[i64 0,.emp]]⟩),(4,some ⟨3,1,iE o.reverse⟩)],5,76⟩
structure ZmI (a b:Nat)(x:Ln×Nat):Prop where
 len:x.1.length=(ax UB a).length+(ax UB b).length
 le:x.2<=(ax UB a).length
 dig:∀d∈x.1,d< UB
 val:ofD UB x.1=ofD UB ((ax UB a).take x.2) * b
 zer:∀j,x.2+(ax UB b).length<=j->j< x.1.length->x.1[j]?=some 0
structure ZmJ (a b i v:Nat)(x:Ln×Nat×Nat):Prop where
 len:x.1.length=(ax UB a).length+(ax UB b).length
 le:x.2.1<=(ax UB b).length
 dig:∀d∈x.1,d< UB
 car:x.2.2< UB
 val:ofD UB x.1+UB^ (i+x.2.1) * x.2.2=ofD UB ((ax UB a).take i) * b+UB^ i* v* ofD UB ((ax UB b).take x.2.1)
 zer:∀j,i+(ax UB b).length<=j->j< x.1.length->x.1[j]?=some 0
theorem sgZ_mul(x y:Int):sgZ (x* y)=sgZ x* sgZ y:=by
 rcases dz x with⟨a,b⟩|⟨a,b⟩|⟨a,b⟩<;> rcases dz y with⟨c,d⟩|⟨c,d⟩|⟨c,d⟩<;> rw[a,c]<;> rcases dz (x* y) with⟨e,f⟩|⟨e,f⟩|⟨e,f⟩<;> rw[e]<;> first|rfl|(exfalso;subst_vars;simp at f;done)|(exfalso;have:=Int.mul_pos_of_neg_of_neg b d;omega)|(exfalso;have:=Int.mul_neg_of_neg_of_pos b d;omega)|(exfalso;have:=Int.mul_neg_of_pos_of_neg b d;omega)|(exfalso;have:=Int.mul_pos b d;omega)
theorem rk(x y:Int)(hx:zl x)(hy:zl y):FS 135 [.agg (zZ x),.agg (zZ y)] (.agg (zZ (x* y))):=by
 have Z:=yW hx;have hly:=yW hy;have A:=dj x.natAbs;have B:=dj y.natAbs;obtain⟨a,ha⟩:∃a,a=x.natAbs:=⟨_,rfl⟩;obtain⟨b,hb⟩:∃b,b=y.natAbs:=⟨_,rfl⟩;have va:=bO (b:=UB) δ a;have vb:=bO (b:=UB) δ b
 have T: -9223372036854775808<=sgZ x* sgZ y/\sgZ x* sgZ y<=9223372036854775807:=by
  rcases dz x with⟨h,_⟩|⟨h,_⟩|⟨h,_⟩<;> rcases dz y with⟨h',_⟩|⟨h',_⟩|⟨h',_⟩<;> rw[h,h']<;> decide
 refine f_c Tryz.func135 ?_;subst ha hb;refine r_z 3 ?_;refine r_z 9 ?_;refine ae (r_z 5 ?_);refine aJ (zmS x y) (λv=>ZmI x.natAbs y.natAbs v/\v.2=(ax UB x.natAbs).length) ?_ ?_;refine aj (aC (zmS x y) (λv=>(ax UB x.natAbs).length- v.2) (ZmI x.natAbs y.natAbs) (List.replicate ((ax UB x.natAbs).length+(ax UB y.natAbs).length) 0,0) ⟨ψ,ψ,?_,by simp[sA,ofD],?_⟩ ?_ ?_);intro d J;simp at J;rw[J.2];decide;intro j _ F;simp at F;simp[F];simp only[zmS.eq_1];refine s_x [(1,2),(2,3),(3,4),(4,5)] (λhs=>?_) (λhs=>?_) ?_
 ·repeat' (first|exact aV|refine aA rfl ?_ ?_|exact aZ|(refine Cv.loE hs ?_ (ah _);first|rfl|(simp[i64,u64,u32,bln,A,B];done)|(simp[i64,u64,u32,bln,A,B]<;> omega)))
 ·repeat' (first|exact aF|refine h_c ?_ ?_|exact bG|(refine aM hs ?_ (dU _);first|(simp[px,oG,j7,A,B];done)|(simp[iE,i64,ofV,A,B];done))|refine aB ?_|exact av|refine ai ?_ ?_|exact aZ|(refine Cv.loE hs ?_ (ah _);first|(simp[i64,u64,u32,bln,A,B];done)|(simp[i64,u64,u32,bln,A,B]<;> omega)))
 ·repeat' (first|exact ShrL.nil|refine ShrL.cons rfl rfl rfl rfl (by first|rfl|(simp;done)|(simp[A,B]<;> omega)) ?_)
 rintro⟨o,i⟩ ⟨r,D,p,g,s⟩;simp only at r D p g s;rw[zmS.eq_1];refine ae (r_z 2 ?_);refine au rfl (λh=>?_) (λh=>?_);have R:i< (ax UB x.natAbs).length:=by have:=of_decide_eq_true h;omega
 obtain⟨u,U⟩:∃u,(ax UB x.natAbs)[i]?=some u:=⟨_,eT R⟩;have hu1:u< 32768:=da δ U
 have L:(iE (zd x.natAbs))[(((zd x.natAbs).length:Int)- 1- i).toNat]?=some [i64 u]:=by
  rw[show(((zd x.natAbs).length:Int)- 1- i).toNat=(ax UB x.natAbs).length- 1- i by omega];exact ly (yX U)
 refine an (ae (aj (r_z 1 ?_)));refine ae (r_z 5 ?_);refine aJ (zmT x y i) (λv=>ZmJ x.natAbs y.natAbs i u v/\v.2.1=(ax UB y.natAbs).length) ?_ ?_;refine aj (aC (zmT x y i) (λv=>(ax UB y.natAbs).length- v.2.1) (ZmJ x.natAbs y.natAbs i u) (o,0,0) ⟨r,ψ,p,(show 0< UB by decide),by simp[g,ofD],s⟩ ?_ ?_);simp only[zmT.eq_1];exact s_e [];rintro⟨q,k,c⟩ ⟨m,C,e,f,n,l⟩;simp only at m C e f n l;rw[zmT.eq_1];refine ae (r_z 2 ?_);refine au rfl (λh=>?_) (λh=>?_);have M:k< (ax UB y.natAbs).length:=by have:=of_decide_eq_true h;omega
 obtain⟨v,hv⟩:∃v,(ax UB y.natAbs)[k]?=some v:=⟨_,eT M⟩;have hv1:v< 32768:=da δ hv
 have K:(iE (zd y.natAbs))[(((zd y.natAbs).length:Int)- 1- k).toNat]?=some [i64 v]:=by
  rw[show(((zd y.natAbs).length:Int)- 1- k).toNat=(ax UB y.natAbs).length- 1- k by omega];exact ly (yX hv)
 obtain⟨d,J⟩:∃d,q[i+k]?=some d:=⟨_,eT ω⟩;have hd1:d< 32768:=e d (mc J);have S:c< 32768:=f;have hidx:(((zd x.natAbs).length:Int)- 1- i+(((zd y.natAbs).length:Int)- 1- k)+1).toNat=q.length- 1- (i+k):=ω
 have N:(iE q.reverse)[0+(((zd x.natAbs).length:Int)- 1- i+(((zd y.natAbs).length:Int)- 1- k)+1).toNat]?=some [i64 d]:=by rw[hidx,vY];exact ly (Gm J)
 have hset:∀w:Nat,(iE q.reverse).set (0+(((zd x.natAbs).length:Int)- 1- i+(((zd y.natAbs).length:Int)- 1- k)+1).toNat) [i64 w]=iE (q.set (i+k) w).reverse:=by intro w;rw[hidx,vY,px,Gl ω]
 have Y:u* v<=32767* 32767:=vj ω ω;have E:(u:Int) * v=((u* v:Nat):Int):=by push_cast;rfl
 refine an ?_;have X:0<=(u:Int) * v:=OM ω ω;refine ae (aj (ae (r_d ba 22 ?_)));refine a_5 ?_;refine bZ (.index_l rfl rfl ω ω te_43.h) rfl rfl ?_;refine bZ (.load_l1 rfl rfl N TG.h rfl) rfl rfl ?_;refine a_3 ?_;refine i_x L ?_;refine l_1 L ?_;refine a_3 ?_;refine i_x K ?_;refine l_1 K ?_;refine a_5 ?_;refine aq (n_k ?_);refine s_r 9 ?_;refine a_8 ?_;refine eK (.store rfl rfl N rfl rfl rfl TS.h (nle rfl)) ?_;refine aq ?_;refine r_m 3 ?_;refine a_z ?_;refine r_m 3 ?_;refine a_z ?_;have hm:((d:Int)+(u:Int) * v+c) % 32768=(((d+u* v+c) % 32768:Nat):Int):=by rw[E];omega
 have V:((d:Int)+(u:Int) * v+c) / 32768=(((d+u* v+c) / 32768:Nat):Int):=by rw[E];omega
 refine⟨(q.set (i+k) ((d+u* v+c) % 32768),k+1,(d+u* v+c) / 32768),χ,⟨by simp[m],χ,uJ e (EC _ δ),?_,?_,?_⟩,?_⟩;show _< 32768;simp only;omega;simp only;have e1:=qy UB ((d+u* v+c) % 32768) J;have e2:=MW (d+u* v+c) 32768
 have e3:UB^ (i+k) * ((d+u* v+c) % 32768)+UB^ (i+(k+1)) * ((d+u* v+c) / 32768)=UB^ (i+k) * d+UB^ (i+k) * (u* v)+UB^ (i+k) * c:=by
  rw[<-JQ i k 1,D7,EB,<-zM,show UB* ((d+u* v+c) / 32768)=32768* ((d+u* v+c) / 32768) from rfl,e2,zM,zM]
 have e4:UB^ i* u* ofD UB ((ax UB y.natAbs).take (k+1))=UB^ i* u* ofD UB ((ax UB y.natAbs).take k)+UB^ (i+k) * (u* v):=by
  rw[dh _ hv,zM];congr 1;rw[N3];simp only[EB,NQ,Eg]
 rw[e4];omega;intro j F H;rw[ND ω];exact l j F (by simpa using H);simp only[zmT.eq_1];have t:=hset ((d+u* v+c) % 32768);rw[<-hm] at t;refine s_x [] (λhs=>?_) (λhs=>?_) ?_
 ·repeat' (first|exact aV|refine aA rfl ?_ ?_|exact Cv.loE hs (congrArg (λz=>AV.v (.int .i64 z)) V) (ah _)|exact aZ)
 ·repeat' (first|exact aF|refine h_c ?_ ?_|exact aM hs t (dU _)|exact bG|refine aB ?_|exact av|refine ai ?_ ?_|exact Cv.loE hs (congrArg (λz=>AV.v (.int .i64 z)) V) (ah _)|exact aZ)
 ·repeat' (first|exact ShrL.nil|refine ShrL.cons rfl rfl rfl rfl (by first|(exact congrArg List.length t)|rfl|(simp;done)|(simp <;> omega)) ?_)
 have O:k=(ax UB y.natAbs).length:=by have:=of_decide_eq_false h;omega
 refine ay ⟨(q,k,c),⟨⟨m,C,e,f,n,l⟩,O⟩,?_⟩;simp only[zmT.eq_1];exact s_e [];rintro⟨q,k,c⟩ ⟨⟨m,C,e,f,n,l⟩,O⟩;simp only at m C e f n l O;subst O;have S:c< 32768:=f;have W:=l (i+(ax UB y.natAbs).length) (ir _) ω;have hidx:(((zd x.natAbs).length:Int)- 1- i).toNat=q.length- 1- (i+(ax UB y.natAbs).length):=ω
 have N:(iE q.reverse)[0+(((zd x.natAbs).length:Int)- 1- i).toNat]?=some [i64 0]:=by rw[hidx,vY];exact ly (Gm W)
 have hset:(iE q.reverse).set (0+(((zd x.natAbs).length:Int)- 1- i).toNat) [i64 c]=iE (q.set (i+(ax UB y.natAbs).length) c).reverse:=by rw[hidx,vY,px,Gl ω]
 rw[qj,vb] at n;rw[zmT.eq_1];refine r_m 5 ?_;refine a_4 ?_;refine eK (.store rfl rfl N rfl rfl rfl TS.h (nle rfl)) ?_;refine aq ?_;refine r_m 3 ?_;refine a_z ?_;refine⟨(q.set (i+(ax UB y.natAbs).length) c,i+1),χ,⟨by simp[m],χ,uJ e f,?_,?_⟩,?_⟩;simp only;have e1:=qy UB c W;rw[dh _ U,zu,<-n];omega;intro j F H;rw[ND (by simp only at F;omega)];exact l j (by simp only at F;omega) (by simpa using H);simp only[zmS.eq_1];refine s_x [] (λhs=>dJ) (λhs=>?_) e_41
 ·repeat' (first|exact aF|refine h_c ?_ ?_|refine aM hs hset (dU _)|exact bG)
 have Q:i=(ax UB x.natAbs).length:=by have:=of_decide_eq_false h;omega
 refine ay ⟨(o,i),⟨⟨r,D,p,g,s⟩,Q⟩,?_⟩;simp only[zmS.eq_1];exact s_e [];rintro⟨o,i⟩ ⟨⟨r,D,p,g,s⟩,Q⟩;simp only at r D p g s Q;subst Q;rw[qj,va] at g;rw[zmS.eq_1];have hol:o.length=(zd x.natAbs).length+(zd y.natAbs).length:=ω
 have hw:=ld (sgZ x* sgZ y) o.reverse (x* y) χ (λd h=>p d (N2.1 h)) (by unfold hv;rw[Nl,g,NV]) (λ_=>(sgZ_mul x y).symm);have G:((iE o.reverse).drop 0).take ((zd x.natAbs).length+(zd y.natAbs).length)=iE o.reverse:=by rw[sr,nk χ]
 refine s_r 8 ?_;refine a_4 ?_;refine o_0 (.bin rfl rfl (rW T)) ?_;refine a_1 ?_;refine o_1 (.callS1 rfl rfl rfl (.keep (.shut rfl d_n (.nil))) rfl ((by rw[G];exact hw))) ?_;refine a_z ?_;exact ak (c_e (dl _))
theorem IR{b:Nat}(hb:1< b):∀(j n:Nat),(ax b n)[j]?.getD 0=n/ b^ j % b:=by
 intro j
 induction j with
 |zero=>
  intro n;rcases zW n with rfl|a
  rw[c8];simp;rw[fM hb a];simp
 |succ j c=>
  intro n;rcases zW n with rfl|a
  rw[c8];simp;rw[fM hb a,A6,c,Oy,D7,Eg b]
def E6(n:Nat)(long:Nat)(k:Nat):Nat->AState
 |i=>⟨[(0,.arr (iE (zd n))),(1,i64 long),(2,i64 k),(7,i64 (n/ UB^ (long- i):Nat)),(8,i64 i)],[],1,24⟩
theorem rc(n long k:Nat)(hk:k<=4)(hkl:k<=long)(hn:n< UB^ long)(hl:(zd n).length<=281474976710656)(hlo:long<=281474976710656):FS 293 [.arr (iE (zd n)),i64 long,i64 k] (i64 (n/ UB^ (long- k):Nat)):=by
 have bound:∀i,i<=k->n/ UB^ (long- i)< 1152921504606846976:=by
  intro i l
  have m:n/ UB^ (long- i)< UB^ i:=by
   rw[DB (NB δ),<-N3,show i+(long- i)=long by omega];exact hn
  exact ns m (vi (n:=32768) (j:=4) δ ω)
 refine f_c Tryz.func293 ?_;refine r_z 1 ?_;refine r_z 1 ?_;refine ae (r_z 1 ?_);refine aJ (E6 n long k) (λi=>i=k) ?_ ?_;refine aj (aC (E6 n long k) (λi=>k- i) (λi=>i<=k) 0 (mN _) ?_ ?_);simp only[E6.eq_1];have e:AV.v (.int .i64 0)=i64 (n/ UB^ (long- 0):Nat):=by rw[Oc,Fw hn];rfl
 exact s_f [];intro i l;rw[E6.eq_1];refine ae (r_z 3 ?_);refine au rfl (λh=>?_) (λh=>?_);have a:i< k:=by simpa using h
 have c:=wz (zd n) (long- 1- i) hl;unfold zd at c;rw[Nl,IR δ,show((long- 1- i:Nat):Int)=(long:Int)- 1- i by omega] at c;have e1:=MX (n/ UB^ (long- 1- i)) UB;rw[Oy,<-D7,show(long- 1- i).succ=long- i by omega] at e1;have hb:=bound (i+1) a;rw[show long- (i+1)=long- 1- i by omega] at hb;have b:n/ UB^ (long- 1- i) % UB< 32768:=EC _ δ;obtain⟨V,f⟩:∃V,V=n/ UB^ (long- i):=⟨_,rfl⟩;obtain⟨D,g⟩:∃D,D=n/ UB^ (long- 1- i) % UB:=⟨_,rfl⟩;have o:V< 1152921504606846976:=by rw[f];exact bound i l
 rw[<-f,<-g] at e1;rw[<-g] at c b;rw[<-f];have q:32768* V+D=n/ UB^ (long- 1- i):=e1
 have e2:(V:Int) * 32768+D=((n/ UB^ (long- (i+1)):Nat):Int):=by
  rw[show long- (i+1)=long- 1- i by omega,<-q];omega
 have p:V* 32768+D< 1152921504606846976:=ω
 refine an (ae (aj (r_m 10 ?_)));refine c_s (c) ?_;refine a_z ?_;refine r_m 3 ?_;refine a_z ?_;refine⟨i+1,ω,a,?_⟩;simp only[E6.eq_1];have:=(congrArg (λz=>AV.v (.int .i64 z)) e2);exact s_f [];have d:i=k:=by simp at h;omega
 refine ay ⟨i,d,?_⟩;simp only[E6.eq_1];exact s_e [];rintro i rfl;rw[E6.eq_1];refine r_z 2 ?_;refine ak (a7 rfl rfl (ah _))
def vw(D:Nat):Nat×Nat->AState
 |(R,k)=>⟨[(0,.arr (iE (zd R))),(1,.arr (iE (zd D))),(6,i64 k)],[],1,57⟩
theorem est_le{R D e:Nat}(he:0< e):R/ e/ (D/ e+1) * D<=R:=by
 have a:R/ e/ (D/ e+1) * (D/ e+1)<=R/ e:=OO _ _;have c:R/ e* e<=R:=OO _ _
 have b:D< (D/ e+1) * e:=by
  have:=ON D he;rw[Eg];exact this
 have d:R/ e/ (D/ e+1) * D<=R/ e/ (D/ e+1) * ((D/ e+1) * e):=sO _ (Ns b)
 have f:R/ e/ (D/ e+1) * ((D/ e+1) * e)<=R/ e* e:=by
  rw[<-EB];exact mC _ a
 omega
theorem zZ_pos{D:Nat}(h:0< D):zZ (D:Int)=[i64 1,.arr (iE (zd D))]:=by
 unfold zZ sgZ;rw[if_neg ω,if_neg ω,y2]
theorem K4(R D:Nat)(hD:0< D)(hR:R< UB* D)(hb:bl D<=4398046511104):FS 261 [.arr (iE (zd R)),.arr (iE (zd D))] (.tup [i64 (R/ D:Nat),.arr (iE (zd (R % D)))]):=by
 have hzR:=dj R;have w:=dj D;have Y:=ci (b:=UB) δ D;have hlR:=ci (b:=UB) δ R
 have Z:bl R<=bl D+16:=by
  have d:=dQ (Ns hR);have C:=jy UB D;have Q:bl UB=16:=δ
  omega
 obtain⟨n,t⟩:∃n,n=(zd D).length:=⟨_,rfl⟩
 have X:1<=n:=by
  have:zd D≠[]:=λh=>by have:=zd_eq_nil.1 h;omega
  have:=nB.2 this;omega
 have l:D< UB^ n:=by
  have:=GU (kD D);rwa[l9,<-t] at this
 have m:R< UB^ (n+1):=by
  rw[D7,Eg];exact ns hR (sO _ (Ns l))
 have u:∀k,k* D<=R->k< UB:=by
  intro k F;refine Np λh=>?_;have:=mC D h;omega
 refine f_c Tryz.func261 ?_;refine r_z 2 ?_;refine r_z 1 ?_;refine r_z 3 ?_;refine bD (λk:Nat=>vw D (R,k)) (λk=>k* D<=R) ?_ ?_;refine r_z 4 ?_;refine au rfl (λh=>?_) (λh=>?_);have y:(zd D).length<=(zd R).length:=by simpa using h
 refine r_z 2 ?_;refine au rfl (λd=>?_) (λd=>?_);have Q:n<=3:=by rw[t];have:=of_decide_eq_true d;omega
 have f:=rc R (n+1) (n+1) ω (ir _) m ω ω;have g:=rc D n n ω (ir _) l ω ω;rw[Nj,Nat.pow_zero,OK] at f g;rw[t] at f g;have r:(R:Int) / D=(R/ D:Nat):=(Nq _ _).symm;have W:R< 1152921504606846976:=ns m (vi (n:=32768) (j:=4) δ ω);refine r_m 12 ?_;refine c_s (f) ?_;refine c_s (g) ?_;refine a_z ?_;refine⟨R/ D,OO _ _,?_⟩;simp only[vw.eq_1];have:=(congrArg (λz=>AV.v (.int .i64 z)) r);exact s_f [];have Q:3< n:=by rw[t];have:=of_decide_eq_false d;omega
 have f:=rc R (n+1) 4 ω ω m ω ω;have g:=rc D n 3 ω ω l ω ω;rw[show n+1- 4=n- 3 by omega] at f;obtain⟨e,x⟩:∃e,e=UB^ (n- 3):=⟨_,rfl⟩;have p:0< e:=by rw[x];exact NB δ
 rw[<-x] at f g
 have J:R/ e< 1152921504606846976:=by
  rw[DB p,x];have H:UB^ 4=1152921504606846976:=δ
  have:UB^ (n+1)=1152921504606846976* UB^ (n- 3):=by
   rw[show n+1=4+(n- 3) by omega,N3,H]
  omega
 have L:D/ e< 35184372088832:=by
  rw[DB p,x];have H:UB^ 3=35184372088832:=δ
  have:UB^ n=35184372088832* UB^ (n- 3):=by
   rw[<-H,<-N3];congr 1;omega
  omega
 rw[t] at f g
 have r:((R/ e:Nat):Int) / (((D/ e:Nat):Int)+1)=(R/ e/ (D/ e+1):Nat):=by
  rw[show(((D/ e:Nat):Int)+1)=((D/ e+1:Nat):Int) by omega];exact(Nq _ _).symm
 have a:=est_le (R:=R) (D:=D) p;obtain⟨A,hA⟩:∃A,A=R/ e:=⟨_,rfl⟩;obtain⟨B,hB⟩:∃B,B=D/ e:=⟨_,rfl⟩;rw[<-hA] at f J r a;rw[<-hB] at g L r a;refine r_m 10 ?_;refine c_s (f) ?_;refine c_s (g) ?_;refine a_z ?_;refine⟨A/ (B+1),a,?_⟩;simp only[vw.eq_1];have:=(congrArg (λz=>AV.v (.int .i64 z)) r);exact s_f [];refine an ⟨0,ψ,?_⟩;simp only[vw.eq_1];exact s_e [];rintro k F;have M:=u k F;have N:k< 32768:=M;rw[vw.eq_1];refine bD (λ_:Unit=>vw D (R- k* D,k)) (λ_=>True) ?_ ?_;refine r_z 2 ?_;refine au rfl (λd=>?_) (λd=>?_)
 have K:zl (k:Int):=by
  unfold zl;rw[y2];have:=fx (n:=k) (k:=15) ω;omega
 have w:zl (D:Int):=by unfold zl;rw[y2];omega
 have U:=rk (k:Int) (D:Int) K w;rw[zZ_pos hD] at U;have o:((k:Int) * (D:Int)).natAbs=k* D:=by rw[<-EA,y2]
 have hbk:bl (k* D)<=bl D+16:=by
  have:=dQ F;omega
 have hlk:=ci (b:=UB) δ (k* D);have i:=rj R (k* D) (-1) (R- k* D) (.inr rfl) ω ω (by rw[dj];omega);rw[<-o] at i;rw[o] at i;refine r_m 9 ?_;refine c_s (rl k ω) ?_;refine c_s (U) ?_;refine bZ (.field1 rfl TF.h TA.h rfl) rfl rfl ?_;refine o_0 (.call rfl rfl rfl ((by rw[o];exact i))) ?_;refine o_0 (.assign rfl) ?_;refine aq ?_;refine⟨(),trivial,?_⟩;simp only[vw.eq_1];exact s_e [];have G:k=0:=by simp at d;omega
 subst G;refine an ⟨(),trivial,?_⟩;simp only[vw.eq_1,JR,Oc];exact s_e [];rintro _ _;rw[vw.eq_1];refine bD (vw D) (λv=>v.1=R % D/\v.2=R/ D) ?_ ?_;refine aj (aC (vw D) (λv=>v.1) (λv=>v.1+v.2* D=R/\v.1<=R) (R- k* D,k) ⟨by simp only;omega,by simp only;omega⟩ ?_ ?_);simp only[vw.eq_1];exact s_e [];rintro⟨c,s⟩ ⟨hv,a⟩;simp only at hv a;have V:bl c<=bl D+16:=by have:=dQ a;omega
 have O:=ci (b:=UB) δ c;have S:=dj c;have E:=u s ω;have T:s< 32768:=E;rw[vw.eq_1];refine ae (r_c 4 (Cu c D ω ω) ?_);refine a_z ?_;refine au rfl (λh=>?_) (λh=>?_)
 have y:D<=c:=by
  have:=of_decide_eq_true h;unfold ff at this;split at this <;> omega
 refine an (aj (r_c 4 (rj c D (-1) (c- D) (.inr rfl) ω ω ω) ?_));refine a_z ?_;refine r_m 3 ?_;refine a_z ?_;refine⟨(c- D,s+1),by simp only;omega,⟨by simp only;rw[zu];omega,by simp only;omega⟩,?_⟩;simp only[vw.eq_1];exact s_e []
 have q:c< D:=by
  have:=of_decide_eq_false h;unfold ff at this;split at this;omega;split at this <;> omega
 refine ay ⟨(c,s),⟨?_,?_⟩,?_⟩;simp only;rw[<-hv,Nat.add_mul_mod_self_right,Fz q];simp only;rw[<-hv,Nat.add_mul_div_right _ _ hD,Fw q,vY];simp only[vw.eq_1];exact s_e [];rintro⟨c,s⟩ ⟨d,C⟩;simp only at d C;subst d C;rw[vw.eq_1];refine r_z 4 ?_;refine ak (Fin.many ⟨_,_,rfl,rfl,⟨_,_,rfl,rfl,rfl⟩⟩ (nle rfl) ?_);exact ai (ao aE (ah _)) (ai (ao aE (fw _)) av)
def HU(A D:Nat):Ln->Nat->Nat->AState
 |[],R,i=>⟨[(0,.arr (iE (zd A))),(1,.arr (iE (zd D))),(6,.emp),(7,.arr (iE (zd R))),(8,i64 i)],[],1,54⟩
 |q::Q,R,i=>⟨[(0,.arr (iE (zd A))),(1,.arr (iE (zd D))),(6,.lsl 1 0 (Q.length+1) none 1),(7,.arr (iE (zd R))),(8,i64 i)],[(1,some ⟨3,1,iE (q::Q)⟩)],2,54⟩
theorem jL(A D R i:Nat):HU A D [] R i=⟨[(0,.arr (iE (zd A))),(1,.arr (iE (zd D))),(6,.emp),(7,.arr (iE (zd R))),(8,i64 i)],[],1,54⟩:=rfl
theorem gG(A D:Nat)(q:Nat)(Q:Ln)(R i:Nat):HU A D (q::Q) R i=⟨[(0,.arr (iE (zd A))),(1,.arr (iE (zd D))),(6,.lsl 1 0 (Q.length+1) none 1),(7,.arr (iE (zd R))),(8,i64 i)],[(1,some ⟨3,1,iE (q::Q)⟩)],2,54⟩:=rfl
theorem JK{P D R a:Nat}(hD:0< D)(hR:R=P % D)(ha:a< UB):R* UB+a< UB* D/\(P* UB+a) / D=P/ D* UB+(R* UB+a) / D/\(P* UB+a) % D=(R* UB+a) % D/\(R* UB+a) / D< UB:=by
 have b:=MX P D;have c:=EC P hD;rw[<-hR] at b c
 have e:R* UB+a< UB* D:=by
  have:(R+1) * UB<=D* UB:=mC _ c;rw[zu,Kk,Eg D] at this;omega
 have d:P* UB+a=D* (P/ D* UB)+(R* UB+a):=by
  conv=>lhs;rw[<-b]
  rw[zu,EB,JQ]
 refine⟨e,?_,?_,?_⟩;rw[d,Nat.mul_add_div hD];rw[d,Pc];rw[DB hD];exact e
theorem ws(A D:Nat)(hD:0< D)(hA:bl A<=4398046511104)(hb:bl D<=4398046511104):FS 213 [.arr (iE (zd A)),.arr (iE (zd D))] (.tup [.arr (iE (zd (A/ D))),.arr (iE (zd (A % D)))]):=by
 have V:=dj A;have K:=dj D;have S:=ci (b:=UB) δ D;have X:=ci (b:=UB) δ A;obtain⟨n,Z⟩:∃n,n=(zd D).length:=⟨_,rfl⟩
 have O:1<=n:=by
  have:zd D≠[]:=λh=>by have:=zd_eq_nil.1 h;omega
  have:=nB.2 this;omega
 have T:UB^ (n- 1)<=D:=by
  rcases uf (b:=UB) (n:=D) δ with h|h
  rwa[<-K,<-Z] at h;omega
 refine f_c Tryz.func213 ?_;refine r_z 2 ?_;refine ae (r_z 5 ?_);refine au rfl (λh=>?_) (λh=>?_);have C:(zd A).length< (zd D).length:=by have:=of_decide_eq_true h;omega
 have F:A< D:=ko (b:=UB) δ ω;refine r_z 3 ?_;refine ak (Fin.many ⟨_,_,rfl,rfl,⟨_,_,rfl,rfl,rfl⟩⟩ (nle rfl) ?_);rw[Fw F,Fz F,pS];exact ai (Cv.emp _) (ai (ao aE (fw _)) av);have B:n<=(zd A).length:=by have:=of_decide_eq_false h;omega
 refine an (r_z 1 ?_);obtain⟨G,t⟩:∃G,G=hv ((zd A).take (n- 1)):=⟨_,rfl⟩
 have u:G< D:=by
  have y:=GU (l:=(zd A).take (n- 1)) λd g=>kD A d (AG g);rw[<-t] at y;have h2:UB^ ((zd A).take (n- 1)).length<=UB^ (n- 1):=vi δ χ;omega
 have s:=jO ((zd A).take (n- 1)) χ;rw[gD (λd g=>kD A d (AG g)),<-t] at s;refine bD (λ_:Unit=>⟨[(0,.arr (iE (zd A))),(1,.arr (iE (zd D))),(6,.emp),(7,.arr (iE (zd G)))],[],1,54⟩) (λ_=>True) ?_ ?_;by_cases hn2:n=1;rw[hn2] at s;refine r_m 8 ?_;refine a_4 ?_;refine o_0 (.sa_h rfl rfl (h:=0) ω ψ te_43.h (mP _)) ?_;refine o_0 (.append0 rfl rfl rfl te_43.h rfl rfl rfl (.arr (es:=[]) ψ)) ?_;refine c_s (s) ?_;refine a_z ?_;refine⟨(),trivial,?_⟩;exact s_e []
 ·have E:(iE (zd A)).take (n- 1)≠[]:=λh=>by
   have:=congrArg List.length h;rw[yv,sM,Fe] at this;omega
  have m:List.take ((iE (zd A)).take (n- 1)).length (List.drop 0 ((iE (zd A)).take (n- 1)))=iE ((zd A).take (n- 1)):=by rw[sr,qj,iE_take]
  refine r_m 8 ?_;refine a_4 ?_;refine o_0 (.sa_h rfl rfl (h:=n- 1) ω χ te_43.h (mP _)) ?_;refine o_1 (.append_e rfl rfl rfl te_43.h rfl rfl rfl (.arr (λe he=>mP _ e (AG he))) (by first|assumption|(simp;done)) TZ.h rfl TB.h d_o μ) ?_;refine o_1 (.callS1 rfl rfl rfl (.shut rfl d_n (.nil)) rfl ((by rw[m];exact s))) ?_;refine a_z ?_;refine⟨(),trivial,?_⟩;exact s_e []
 rintro _ _;refine ae (r_z 4 ?_);refine aJ (λx:Ln×Nat=>HU A D x.1 x.2 (zd A).length) (λx=>(∀d∈x.1,d< UB)/\hv x.1=A/ D/\x.2=A % D/\x.1.length<=(zd A).length) ?_ ?_;refine aj (aC (λx:Ln×Nat×Nat=>HU A D x.1 x.2.1 x.2.2) (λx=>(zd A).length- x.2.2) (λx=>x.2.2<=(zd A).length/\(∀d∈x.1,d< UB)/\hv x.1=hv ((zd A).take x.2.2) / D/\x.2.1=hv ((zd A).take x.2.2) % D/\x.1.length<=x.2.2) ([],G,n- 1) ⟨by simp only;omega,ψ,by simp only;rw[<-t,Fw u];rfl,by simp only;rw[<-t,Fz u],ψ⟩ ?_ ?_);simp only[jL];exact s_e [];rintro⟨Q,R,i⟩ ⟨Y,k,p,r,j⟩;simp only at Y k p r j
 -- the head,whatever the quotient so far
 by_cases C:i< (zd A).length
 ·obtain⟨a,z⟩:∃a,(zd A)[i]?=some a:=⟨_,eT C⟩
  have ha:a< UB:=kD A a (mc z);have f:(iE (zd A))[((i:Nat):Int).toNat]?=some [i64 a]:=ly z;have o:hv ((zd A).take (i+1))=hv ((zd A).take i) * UB+a:=by rw[cZ z,qO]
  obtain⟨P,hP⟩:∃P,P=hv ((zd A).take i):=⟨_,rfl⟩;rw[<-hP] at p r o;obtain⟨s1,s2,N,L⟩:=JK hD r ha;have J:R< D:=by rw[r];exact EC _ hD
  have W:=ci (b:=UB) δ R;have U:=dQ (Ns J);have hzR:=dj R;have H:=K4 (R* UB+a) D hD s1 hb;cases Q with
  |nil=>
   simp only[jL];refine ae (r_z 4 ?_);refine au rfl (λh=>?_) (λh=>?_);rotate_left;exact absurd h χ;refine an (ae (aj (bD (λ_:Unit=>HU A D [] (R* UB+a) i) (λ_=>True) ?_ ?_)));by_cases hR0:R=0;subst hR0;have c:=jO [a] ψ;rw[gD (by simpa using ha),show hv [a]=0* UB+a by rw[qP,wm];simp] at c;rw[pS];refine r_d ba 10 ?_;refine a_1 ?_;refine o_0 (.append0 rfl rfl rfl te_43.h rfl rfl rfl (.arr (es:=[]) ψ)) ?_;refine a_2 ?_;refine i_x f ?_;refine l_1 f ?_;refine a_2 ?_;refine o_1 (.callS1 rfl rfl rfl (.shut rfl d_n (.nil)) rfl ((FSpec.argE c rfl))) ?_;refine a_1 ?_;refine aq (n_k ?_);refine⟨(),trivial,?_⟩;simp only[jL];exact s_e []
   ·have E:iE (zd R)≠[]:=λh=>by
     have y:=congrArg List.length h;rw[sM,Fe,vv] at y;exact hR0 (zd_eq_nil.1 y)
    have v:∀d∈zd R++[a],d< UB:=λd g=>by
     rcases n7.1 g with g|g
     exact kD R d g;simp at g;rw[g];exact ha
    have c:=jO (zd R++[a]) χ;rw[gD v,qO,l9] at c;refine r_d ba 10 ?_;refine a_1 ?_;refine o_1 (.append_e rfl rfl rfl te_43.h rfl rfl rfl (.arr (mP _)) (by first|assumption|(simp;done)) TZ.h rfl TB.h d_o μ) ?_;refine a_2 ?_;refine i_x f ?_;refine l_1 f ?_;refine a_2 ?_;refine o_1 (.callS1 rfl rfl rfl (.shut rfl d_n (.nil)) rfl ((FSpec.argE c (by rw[sr,nk ψ];simp[iE,i64])))) ?_;refine a_1 ?_;refine aq (n_k ?_);refine⟨(),trivial,?_⟩;simp only[jL];exact s_e []
   rintro _ _;simp only[jL];refine r_z 1 ?_;refine r_c 8 (H) ?_;refine a_z ?_;refine r_m 5 ?_;refine a_z ?_;refine r_m 3 ?_;refine a_z ?_;refine⟨([(R* UB+a) / D],(R* UB+a) % D,i+1),by simp only;omega,⟨by simp only;omega,by simpa using L,?_,?_,ψ⟩,?_⟩;simp only;rw[o,s2,<-p,qP,wm];simp;simp only;rw[o,N];simp only[gG];exact s_e [(1,6)]
  |cons q Q=>
   simp only[gG];refine ae (r_z 4 ?_);refine au rfl (λh=>?_) (λh=>?_);rotate_left;exact absurd h χ;refine an (ae (aj (bD (λ_:Unit=>HU A D (q::Q) (R* UB+a) i) (λ_=>True) ?_ ?_)));by_cases hR0:R=0;subst hR0;have c:=jO [a] ψ;rw[gD (by simpa using ha),show hv [a]=0* UB+a by rw[qP,wm];simp] at c;rw[pS];refine r_d ba 10 ?_;refine a_1 ?_;refine o_0 (.append0 rfl rfl rfl te_43.h rfl rfl rfl (.arr (es:=[]) ψ)) ?_;refine a_2 ?_;refine i_x f ?_;refine l_1 f ?_;refine a_2 ?_;refine o_1 (.callS1 rfl rfl rfl (.shut rfl d_n (.nil)) rfl ((FSpec.argE c rfl))) ?_;refine a_1 ?_;refine aq (n_k ?_);refine⟨(),trivial,?_⟩;simp only[gG];exact s_e []
   ·have E:iE (zd R)≠[]:=λh=>by
     have y:=congrArg List.length h;rw[sM,Fe,vv] at y;exact hR0 (zd_eq_nil.1 y)
    have v:∀d∈zd R++[a],d< UB:=λd g=>by
     rcases n7.1 g with g|g
     exact kD R d g;simp at g;rw[g];exact ha
    have c:=jO (zd R++[a]) χ;rw[gD v,qO,l9] at c;refine r_d ba 10 ?_;refine a_1 ?_;refine o_1 (.append_e rfl rfl rfl te_43.h rfl rfl rfl (.arr (mP _)) (by first|assumption|(simp;done)) TZ.h rfl TB.h d_o μ) ?_;refine a_2 ?_;refine i_x f ?_;refine l_1 f ?_;refine a_2 ?_;refine o_1 (.callS1 rfl rfl rfl (.shut rfl d_n (.nil)) rfl ((FSpec.argE c (by rw[sr,nk ψ];simp[iE,i64])))) ?_;refine a_1 ?_;refine aq (n_k ?_);refine⟨(),trivial,?_⟩;simp only[gG];exact s_e []
   rintro _ _;simp only[gG];refine r_z 1 ?_;refine r_c 8 (H) ?_;refine a_z ?_;have M:Q.length+1<=i:=by simpa using j
   refine r_m 5 ?_;refine a_z ?_;refine r_m 3 ?_;refine a_z ?_;refine⟨(q::(Q++[(R* UB+a) / D]),(R* UB+a) % D,i+1),by simp only;omega,⟨by simp only;omega,?_,?_,?_,by simp at j⊢;omega⟩,?_⟩;intro d g;rcases n7.1 (show d∈(q::Q)++[(R* UB+a) / D] from g) with g|g
   exact k d g;simp at g;rw[g];exact L;simp only;rw[o,s2,<-p,<-qO];rfl;simp only;rw[o,N];simp only[gG];have e:iE (q::Q)++List.take 1 (List.drop 0 [[i64 ((R* UB+a) / D:Nat)]])=iE (q::(Q++[(R* UB+a) / D])):=by simp[iE]
   exact s_x [(1,6)] (λhs=>dJ) (λhs=>e_42) e_9
 have B:i=(zd A).length:=ω
 subst B;rw[qj,l9] at p r;cases Q with
 |nil=>
  simp only[jL];refine ae (r_z 4 ?_);refine au rfl (λh=>?_) (λh=>?_);exact absurd h ψ;refine ay ⟨([],R),⟨k,p,r,j⟩,?_⟩;simp only[jL];exact s_e []
 |cons q Q=>
  simp only[gG];refine ae (r_z 4 ?_);refine au rfl (λh=>?_) (λh=>?_);exact absurd h ψ;refine ay ⟨(q::Q,R),⟨k,p,r,j⟩,?_⟩;simp only[gG];exact s_e []
 rintro⟨Q,R⟩ ⟨k,p,r,j⟩;simp only at k p r j;have w:=jO Q ω;rw[gD k,p] at w;subst r;cases Q with
 |nil=>
  simp only[jL];refine r_c 5 (w) ?_;refine a_z ?_;refine ak (Fin.many ⟨_,_,rfl,rfl,⟨_,_,rfl,rfl,rfl⟩⟩ (nle rfl) ?_);exact ai (ao aE (fw _)) (ai (ao aE (fw _)) av)
 |cons q Q=>
  simp only[gG];have m:List.take (Q.length+1) (List.drop 0 (iE (q::Q)))=iE (q::Q):=by rw[sr,nk ψ]
  refine s_r 5 ?_;refine a_1 ?_;refine o_1 (.callS1 rfl rfl rfl (.shut rfl d_n (.nil)) rfl ((by rw[m];exact w))) ?_;refine a_z ?_;refine ak (Fin.many ⟨_,_,rfl,rfl,⟨_,_,rfl,rfl,rfl⟩⟩ (nle rfl) ?_);exact ai (ao aE (fw _)) (ai (ao aE (fw _)) av)
def zgS:Nat×Nat->AState
 |(p,q)=>⟨[(4,.lptr 1 0 0),(5,.arr (iE (zd p))),(6,.arr (iE (zd q)))],[(1,some ⟨45,2,[[i64 0,.emp]]⟩)],2,48⟩
theorem nm(p:Nat)(q:Nat):zgS (p,q)=⟨[(4,.lptr 1 0 0),(5,.arr (iE (zd p))),(6,.arr (iE (zd q)))],[(1,some ⟨45,2,[[i64 0,.emp]]⟩)],2,48⟩:=rfl
def zgW:Nat×Nat->AState
 |(x,y)=>⟨[(4,.lptr 1 0 0),(7,i64 x),(8,i64 y)],[(1,some ⟨45,2,[[i64 0,.emp]]⟩)],2,48⟩
theorem ve(x:Nat)(y:Nat):zgW (x,y)=⟨[(4,.lptr 1 0 0),(7,i64 x),(8,i64 y)],[(1,some ⟨45,2,[[i64 0,.emp]]⟩)],2,48⟩:=rfl
theorem xD(p q:Nat):Nat.gcd q (p % q)=Nat.gcd p q:=by
 rw[Oe p q,Pr q p,Oe]
theorem xz{n:Nat}(h:(zd n).length<=4):n< 1152921504606846976:=by
 have a:=GU (kD n);rw[l9] at a;exact ns a (vi (n:=32768) (j:=4) δ h)
theorem fs_ZGcd(x y:Int)(hx:bl x.natAbs<=4398046511104)(hy:bl y.natAbs<=4398046511104):FS 212 [.agg (zZ x),.agg (zZ y)] (.agg (zZ (Nat.gcd x.natAbs y.natAbs:Nat))):=by
 refine f_c Tryz.func212 ?_;refine r_z 3 ?_;refine ae (r_d ba 6 ?_);refine a_6 ?_;refine aq (n_k ?_);refine bD (λp:Nat=>zgS (p,0)) (λp=>p=Nat.gcd x.natAbs y.natAbs) ?_ ?_;refine aj (aC zgS (λv=>v.2) (λv=>Nat.gcd v.1 v.2=Nat.gcd x.natAbs y.natAbs/\bl v.1<=4398046511104/\bl v.2<=4398046511104) (x.natAbs,y.natAbs) ⟨rfl,hx,hy⟩ ?_ ?_);simp only[nm];exact s_e [(1,4)];rintro⟨p,q⟩ ⟨g,hp,k⟩;simp only at g hp k;have n:=dj p;have w:=dj q;have r:=ci (b:=UB) δ p;have t:=ci (b:=UB) δ q;rw[nm];refine ae (r_z 3 ?_);refine au rfl (λh=>?_) (λh=>?_)
 have a:0< q:=by
  rcases zW q with e|e
  subst e;rw[pS] at h;simp at h;exact e
 refine an (aj (bD (λ_:Unit=>zgS (p,q)) (λ_=>True) ?_ ?_));by_cases hl:(zd p).length<=4;by_cases hl2:(zd q).length<=4;have o:=xz hl;have m:=xz hl2;have i:=Ck (zd p) hl (kD p);have f:=Ck (zd q) hl2 (kD q);rw[l9] at i f;refine s_r 8 ?_;refine a_4 ?_;refine y_g rfl χ (.move rfl) ?_;refine y_g rfl χ (.lenI rfl rfl rfl rfl te_43.h) ?_;refine y_g rfl χ (.bin rfl rfl iX) ?_;refine o_0 (.pickT rfl χ rfl) ?_;refine aq ?_;refine au rfl (λl=>?_) (λl=>?_);refine r_c 6 (i) ?_;refine c_s (f) ?_;refine a_z ?_;refine bD (λv:Nat=>zgW (v,0)) (λv=>v=Nat.gcd x.natAbs y.natAbs) ?_ ?_;refine aj (aC zgW (λv=>v.2) (λv=>Nat.gcd v.1 v.2=Nat.gcd x.natAbs y.natAbs/\v.1< 1152921504606846976/\v.2< 1152921504606846976) (p,q) ⟨g,o,m⟩ ?_ ?_);simp only[ve];exact s_e [];rintro⟨u,v⟩ ⟨d,z,hv⟩;simp only at d z hv;rw[ve];refine ae (r_z 2 ?_);refine au rfl (λj=>?_) (λj=>?_);have c:0< v:=by simp at j;omega
 refine an (aj (r_d ba 6 ?_));refine a_6 ?_;refine aq (n_k ?_);refine⟨(v,u % v),EC _ c,⟨(xD u v).trans d,hv,Nat.lt_trans (EC _ c) hv⟩,?_⟩;simp only[ve];exact s_e [];have c:v=0:=by simp at j;omega
 subst c;refine ay ⟨u,by simpa using d,?_⟩;simp only[ve];exact s_e [];rintro v hv;rw[ve]
 have s:v< 1152921504606846976:=by
  rw[hv,<-g];have l:Nat.gcd p q<=q:=NY _ a;omega
 refine r_c 3 (rl v ω) ?_;refine a_z ?_;refine ak (ed rfl rfl rfl TG.h TS.h (nle rfl) ?_ ?_);rw[<-hv];rfl;exact dl _;exact absurd l χ;refine s_r 8 ?_;refine a_4 ?_;refine y_g rfl χ (.move rfl) ?_;refine y_g rfl χ (.lenI rfl rfl rfl rfl te_43.h) ?_;refine y_g rfl χ (.bin rfl rfl iX) ?_;refine o_0 (.pickT rfl χ rfl) ?_;refine aq ?_;refine au rfl (λh=>?_) (λ_=>an ⟨(),trivial,?_⟩);exact absurd h χ;simp only[nm];exact s_e [];refine s_r 8 ?_;refine a_4 ?_;refine n_g rfl χ ?_;refine n_g rfl χ ?_;refine n_g rfl χ ?_;refine o_0 (.pickF rfl χ rfl) ?_;refine aq ?_;refine au rfl (λh=>?_) (λ_=>an ⟨(),trivial,?_⟩);cases h;simp only[nm];exact s_e [];rintro _ _;rw[nm];refine r_c 8 (ws p q a hp k) ?_;refine a_z ?_;refine r_m 4 ?_;refine a_z ?_;refine⟨(q,p % q),EC _ a,⟨(xD p q).trans g,k,?_⟩,?_⟩;have:=dQ (Ns (EC p a));simp only;omega;simp only[nm];exact s_e []
 have a:q=0:=by
  refine zd_eq_nil.1 (vv.1 ?_);have:=of_decide_eq_false h;omega
 subst a;refine ay ⟨p,by simpa using g,?_⟩;simp only[nm];exact s_e [];rintro p hp;rw[nm]
 have A:bl p<=4398046511104:=by
  rw[hp];rcases zW y.natAbs with e|e
  rw[e,Nat.gcd_zero_right];exact hx;exact fo (dQ (NY _ e)) hy
 have n:=dj p;have r:=ci (b:=UB) δ p;refine r_c 3 (ld 1 (zd p) (p:Int) ω (kD p) (by rw[l9,y2]) (λh=>by unfold sgZ;rw[if_neg h,if_neg ω])) ?_;refine a_z ?_;refine ak (ed rfl rfl rfl TG.h TS.h (nle rfl) ?_ ?_);rw[<-hp];rfl;exact dl _
theorem uO(x:RQ)(hx:rok x):FS 136 [.agg (rC x)] (.agg (zZ (x.1.den:Int))):=by
 refine f_c Tryz.func136 ?_;refine r_z 2 ?_;refine ae (r_z 4 ?_);obtain⟨q,f⟩:=x;have hp:=q.den_pos;cases f with
 |true=>
  have c:q=0:=hx rfl;subst c;refine au (t:=true) rfl (λh=>?_) (λh=>?_);refine r_c 2 (rl 1 δ) ?_;refine a_z ?_;exact ak (c_e (dl _));cases h
 |false=>
  refine au rfl (λh=>?_) (λh=>?_);exfalso;have d:sgZ (q.den:Int)=0:=by simpa using h
  rcases dz (q.den:Int) with⟨a,b⟩|⟨a,b⟩|⟨a,b⟩<;> omega
  refine an (r_z 3 ?_);exact ak (c_e (dl _))
theorem zd_one:zd 1=[1]:=by
 unfold zd;rw[fM δ δ,show 1/ UB=0 by decide,c8];rfl
theorem zZ_one{g:Nat}(h:g=1):zZ (g:Int)=[i64 1,.arr [[i64 1]]]:=by
 subst h;show [i64 (sgZ 1),AV.arr (iE (zd 1))]=_;rw[zd_one];rfl
theorem HH{g:Nat}(h:(zd g).length=1):zd g=[g]:=by
 obtain⟨a,ha⟩:=List.length_eq_one_iff.1 h;have b:=l9 g;rw[ha,qP,wm] at b;simp at b;rw[ha,b]
theorem xE{n:Nat}(h:bl n<=4398046511104):(zd n).length<=281474976710656:=by
 rw[dj];have:=ci (b:=UB) δ n;omega
def ratS(n':Int)(D g:Nat):AState:=⟨[(2,.lptr 1 0 0),(3,.lptr 2 0 0),(4,.lptr 3 0 0),(5,.lptr 4 0 0)],[(1,some ⟨45,2,[zZ n']⟩),(2,some ⟨45,2,[zZ (D:Int)]⟩),(3,some ⟨47,4,[[i64 0,.emp,i64 0,.emp]]⟩),(4,some ⟨45,2,[zZ (g:Int)]⟩)],5,57⟩
theorem Cy(n d:Int)(hd:d≠0)(hn:bl n.natAbs<=4398046511104)(hb:bl d.natAbs<=4398046511104):FS 133 [.agg (zZ n),.agg (zZ d)] (.agg (rC (rq (Rat.divInt n d)))):=by
 refine f_c Tryz.func133 ?_;refine r_z 3 ?_;refine bD (λf:Int=>⟨[(2,.lptr 1 0 0),(3,.lptr 2 0 0),(4,.lptr 3 0 0)],[(1,some ⟨45,2,[zZ f]⟩),(2,some ⟨45,2,[zZ (d.natAbs:Int)]⟩),(3,some ⟨47,4,[[i64 0,.emp,i64 0,.emp]]⟩)],4,57⟩) (λf=>f.natAbs=n.natAbs/\Rat.divInt n d=mkRat f d.natAbs) ?_ ?_;refine r_z 3 ?_;refine au rfl (λh=>?_) (λh=>?_)
 have t:d< 0:=by
  have k:sgZ d< 0:=by simpa using h
  rcases dz d with⟨a,b⟩|⟨a,b⟩|⟨a,b⟩<;> omega
 have e: -d=(d.natAbs:Int):=ω
 have p:=Am d;rw[e] at p;refine r_d ba 6 ?_;refine c_s (Am n) ?_;refine c_s (p) ?_;refine a_2 ?_;refine aq (n_k ?_);refine⟨-n,⟨ω,pJ n d t⟩,?_⟩;exact s_e []
 have l:0< d:=by
  have k:¬sgZ d< 0:=by simpa using h
  rcases dz d with⟨a,b⟩|⟨a,b⟩|⟨a,b⟩<;> omega
 have e:d=(d.natAbs:Int):=ω
 refine an ⟨n,⟨rfl,pI n d l⟩,?_⟩;rw[<-e];exact s_e [];rintro f ⟨u,hv⟩;have i:0< d.natAbs:=ω
 obtain⟨D,x⟩:∃D,D=d.natAbs:=⟨_,rfl⟩;rw[hv];rw[<-x] at hb i⊢;rw[<-u] at hn;obtain⟨g,j⟩:∃g,g=Nat.gcd f.natAbs D:=⟨_,rfl⟩;have s:0< g:=by rw[j];exact NK _ i
 have y:g<=D:=by rw[j];exact NY _ i
 have G:=dQ y;have C:(mkRat f D).num.natAbs=f.natAbs/ g:=by rw[kj i,ga,j]
 have r:(mkRat f D).den=D/ g:=by rw[(lX i).2,j]
 have z:=HN (n:=f) i;have q:=fs_ZGcd f (D:Int) hn (by rw[y2];exact hb);rw[y2,<-j] at q
 have o:rC (rq (mkRat f D))=zZ (sgn (decide (f< 0)) (f.natAbs/ g))++zZ ((D/ g:Nat):Int):=by
  rw[rC_rq,r,kj i,<-j]
 rw[o];have H:bl (D/ g)<=bl D:=fy D g;have B:bl (f.natAbs/ g)<=bl f.natAbs:=fy f.natAbs g;refine r_c 5 (q) ?_;refine a_z ?_;refine bD (λ_:Unit=>ratS f D g) (λ_=>g≠1) ?_ ?_;by_cases k:g=1;rw[zZ_one k];refine s_r 11 ?_;refine a_5 ?_;refine y_g rfl rfl (.fieldAddr_l rfl TF.h δ) ?_;refine y_g rfl rfl (.load_l1 rfl rfl rfl TG.h rfl) ?_;refine y_g rfl rfl (.index_a rfl rfl ω rfl rfl te_43.h) ?_;refine y_g rfl rfl (.load_a1 rfl rfl TG.h rfl) ?_;refine y_g rfl rfl (.bin rfl rfl cK) ?_;refine o_0 (.pickT rfl rfl rfl) ?_;refine aq ?_;refine au rfl (λh=>?_) (λh=>?_);refine r_z 4 ?_;refine ak ?_;rw[k,OK,OK,show sgn (decide (f< 0)) f.natAbs=f by unfold sgn;by_cases h0:f< 0 <;> simp[h0]<;> omega];exact c_e (aD λc A=>(n7.1 A).elim (gL _ c) (gL _ c));exact absurd h δ;by_cases hl:(zd g).length=1;have F:=HH hl;have m:zZ (g:Int)=[i64 (sgZ (g:Int)),.arr (iE [g])]:=by show [i64 (sgZ (g:Int)),AV.arr (iE (zd g))]=_;rw[F]
 rw[m];refine s_r 11 ?_;refine a_5 ?_;refine y_g rfl rfl (.fieldAddr_l rfl TF.h δ) ?_;refine y_g rfl rfl (.load_l1 rfl rfl rfl TG.h rfl) ?_;refine y_g rfl rfl (.index_a rfl rfl ω rfl rfl te_43.h) ?_;refine y_g rfl rfl (.load_a1 rfl rfl TG.h rfl) ?_;refine y_g rfl rfl (.bin rfl rfl cK) ?_;refine o_0 (.pickT rfl rfl rfl) ?_;refine aq ?_;refine au rfl (λh=>?_) (λh=>?_);exact absurd h χ;refine an ⟨(),k,?_⟩;rw[<-m];unfold ratS;exact s_e [(4,5)];refine s_r 11 ?_;refine a_5 ?_;refine n_g rfl χ ?_;refine n_g rfl χ ?_;refine n_g rfl χ ?_;refine n_g rfl χ ?_;refine n_g rfl χ ?_;refine o_0 (.pickF rfl χ rfl) ?_;refine aq ?_;refine au rfl (λh=>?_) (λh=>?_);exact absurd h ψ;refine an ⟨(),k,?_⟩;unfold ratS;exact s_e [(4,5)];rintro _ E;unfold ratS;have w:=ld (sgZ f) (zd (f.natAbs/ g)) (sgn (decide (f< 0)) (f.natAbs/ g)) (xE ω) (kD _) (by rw[l9,ga]) (λh=>by rw[<-z,kj i,<-j]);have v:=ld 1 (zd (D/ g)) ((D/ g:Nat):Int) (xE ω) (kD _) (by rw[l9,y2]) (λh=>by unfold sgZ;rw[if_neg h,if_neg ω]);refine r_c 10 (ws f.natAbs g s hn ω) ?_;refine a_z ?_;refine r_c 10 (ws D g s hb ω) ?_;refine a_z ?_;refine r_c 8 (w) ?_;refine c_s (v) ?_;refine a_z ?_;exact ak (c_e (aD λc A=>(n7.1 A).elim (gL _ c) (gL _ c)))
end Go.Proofs.YtjmkjicckobojaaGreatDoor
