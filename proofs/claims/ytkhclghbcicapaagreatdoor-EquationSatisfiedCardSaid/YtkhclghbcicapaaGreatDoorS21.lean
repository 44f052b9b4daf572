/- Part S21 of the proof. -/
import Derived.Test.YtkhclghbcicapaaGreatDoorS20
set_option linter.all false
namespace Go.Proofs.YtkhclghbcicapaaGreatDoor
open Go.Abs
set_option maxRecDepth 20000
def Cj(a:Nat)(b:Nat):Nat→AState
 |i=>⟨[(0,.arr (iE (zd a))),(1,.arr (iE (zd b))),(5,i64 i)],[],1,40⟩
theorem wo{n i d:Nat}(h:(aw UB n)[i]?=some d):(zd n)[(aw UB n).length- 1- i]?=some d:=by
 have a:i< (aw UB n).length:=(List.getElem?_eq_some_iff.1 h).1;unfold zd;rw[List.getElem?_reverse (by omega),show(aw UB n).length- 1- ((aw UB n).length- 1- i)=i by omega];exact h
theorem zp(a b:Nat)(ha:(zd a).length≤281474976710656)(hb:(zd b).length≤281474976710656):FS 221 [.arr (iE (zd a)),.arr (iE (zd b))] (i64 (eg a b)):=by
 have r:=cD a;have p:=cD b;refine f_c Tryz.func221 ?_;refine r_z 1 ?_;refine ae (r_z 5 ?_);refine ap rfl (fun h=>?_) (fun h=>?_);have s:(zd a).length≠(zd b).length:=by simp at h;omega
 refine ae (r_z 5 ?_);refine ap rfl (fun h1=>?_) (fun h1=>?_);refine r_z 1 ?_;refine ai (aU rfl ?_ (ag _));have hl:(zd a).length< (zd b).length:=by simpa using h1
 rw[k9];rfl;have:=ja (b:=UB) (by decide) (show(aw UB a).length< (aw UB b).length by omega);omega;refine am (r_z 1 ?_);refine ai (aU rfl ?_ (ag _));have hl:(zd b).length< (zd a).length:=by simp at h1;omega
 rw[nm];rfl;have:=ja (b:=UB) (by decide) (show(aw UB b).length< (aw UB a).length by omega);omega;have heq:(aw UB a).length=(aw UB b).length:=by simp at h;omega
 refine am (ae (r_z 1 ?_));refine aH (Cj a b) (fun _=>a=b) ?_ ?_;refine aj (aB (Cj a b) (fun i=>(aw UB a).length- i) (fun i=>i≤(aw UB a).length∧(aw UB a).drop ((aw UB a).length- i)=(aw UB b).drop ((aw UB a).length- i)) 0 ⟨Nat.zero_le _,by rw[Nat.sub_zero,List.drop_length,heq,List.drop_length]⟩ ?_ ?_);simp only[Cj.eq_1];exact s_e [];rintro i ⟨t,e⟩;rw[Cj.eq_1];refine ae (r_z 4 ?_);refine ap rfl (fun h=>?_) (fun h=>?_);have q:i< (aw UB a).length:=by simp at h;omega
 obtain⟨k,u⟩:∃k,k=(aw UB a).length- 1- i:=⟨_,rfl⟩;have o:(aw UB a).length- i=k+1:=by omega
 rw[o] at e;obtain⟨x,j⟩:∃x,(aw UB a)[k]?=some x:=⟨_,List.getElem?_eq_getElem (by omega)⟩;obtain⟨y,l⟩:∃y,(aw UB b)[k]?=some y:=⟨_,List.getElem?_eq_getElem (by omega)⟩
 have g:(iE (zd a))[((i:Nat):Int).toNat]?=some [i64 x]:=by
  have:=wo j;rw[show(aw UB a).length- 1- k=i by omega] at this;exact jS this
 have f:(iE (zd b))[((i:Nat):Int).toNat]?=some [i64 y]:=by
  have:=wo l;rw[show(aw UB b).length- 1- k=i by omega] at this;exact jS this
 refine am (ae (aj (ae (ae (r_d aY 9 ?_)))));refine a_2 ?_;refine i_x g ?_;refine l_1 g ?_;refine a_2 ?_;refine i_x f ?_;refine l_1 f ?_;refine a_1 ?_;refine ao (n_k ?_);refine ap rfl (fun h1=>?_) (fun h1=>?_);refine r_z 1 ?_;refine ai (aU rfl ?_ (ag _));have c:x< y:=by simpa using h1
 have:=mX (fun d e=>dr (by decide) a d e) j l e c;rw[bq (by decide),bq (by decide)] at this;rw[k9 (by omega)];rfl;refine am (ae (r_d aY 9 ?_));refine a_2 ?_;refine i_x g ?_;refine l_1 g ?_;refine a_2 ?_;refine i_x f ?_;refine l_1 f ?_;refine a_1 ?_;refine ao (n_k ?_);refine ap rfl (fun n=>?_) (fun n=>?_);refine r_z 1 ?_;refine ai (aU rfl ?_ (ag _));have c:y< x:=by simpa using n
 have:=mX (fun d e=>dr (by decide) b d e) l j e.symm c;rw[bq (by decide),bq (by decide)] at this;rw[nm (by omega)];rfl;have c:x=y:=by simp at h1 n;omega
 subst c;refine am (r_m 3 ?_);refine a_z ?_;refine⟨i+1,by omega,⟨by omega,?_⟩,?_⟩;rw[show(aw UB a).length- (i+1)=k by omega,fG j,fG l,e];simp only[Cj.eq_1];exact s_e [];have m:i=(aw UB a).length:=by simp at h;omega
 refine ay ⟨i,?_,?_⟩;subst m;rw[Nat.sub_self,List.drop_zero,List.drop_zero] at e;rw[←bq (b:=UB) (by decide) a,←bq (b:=UB) (by decide) b,e];simp only[Cj.eq_1];exact s_e [];rintro i rfl;rw[Cj.eq_1];refine r_z 1 ?_;refine ai (aU rfl ?_ (ag _));rw[DG rfl];rfl
def bothS(a:Nat)(b:Nat)(k:Int)(N:Nat):List Nat×Int→AState
 |(s,c)=>⟨[(0,.arr (iE (zd a))),(1,.arr (iE (zd b))),(2,i64 k),(7,i64 N),(8,.lsl 1 0 N (some N) 1),(9,i64 c),(10,i64 s.length)],[(1,some ⟨3,1,iE (List.replicate (N- s.length) 0++s.reverse)⟩)],2,51⟩
def Hg(a:Nat)(b:Nat)(k:Int)(N:Nat)(s:List Nat):Int×Int→AState
 |(x,c)=>⟨[(0,.arr (iE (zd a))),(1,.arr (iE (zd b))),(2,i64 k),(7,i64 N),(8,.lsl 1 0 N (some N) 1),(9,i64 c),(10,i64 s.length),(11,i64 x)],[(1,some ⟨3,1,iE (List.replicate (N- s.length) 0++s.reverse)⟩)],2,51⟩
theorem pk(a b:Nat)(k:Int)(r:Nat)(hk:k=1∨k= -1)(hr:(r:Int)=a+k* b)(ha:(zd a).length≤17592186044416)(hb:(zd b).length≤17592186044416):FS 220 [.arr (iE (zd a)),.arr (iE (zd b)),i64 k] (.arr (iE (zd r))):=by
 have hza:=cD a;have hzb:=cD b;obtain⟨N,hN⟩:∃N,N=max (zd a).length (zd b).length+1:=⟨_,rfl⟩;refine f_c Tryz.func220 ?_;refine r_z 1 ?_;refine r_c 5 (BC (zd a) (zd b)) ?_;refine a_z ?_;have C:((max (zd a).length (zd b).length:Nat):Int)+1=(N:Int):=by omega
 refine s_r 3 ?_;refine a_1 ?_;refine o_1 (.makeSlice (congrArg (fun z=>some (AV.v (.int .i64 z))) C) (congrArg (fun z=>some (AV.v (.int .i64 z))) C) te_47.h TZ.h rfl TB.h (by first|omega|(simp;done)|(simp;omega)) (by first|omega|(simp;done)|(simp;omega)) (by unfold maxLen;first|omega|(simp;done)|(simp;omega))) ?_;refine a_z ?_;refine r_z 1 ?_;refine ae (r_z 1 ?_)
 have M:=fo (b:=UB) (by decide) (n:=r) (k:=N) (by
  have h1:=fi (b:=UB) (dr (by decide) a);have p:=fi (b:=UB) (dr (by decide) b);rw[bq (by decide)] at h1 p;have J:UB^ (aw UB a).length≤UB^ (N- 1):=Nat.pow_le_pow_right (by decide) (by omega);have h4:UB^ (aw UB b).length≤UB^ (N- 1):=Nat.pow_le_pow_right (by decide) (by omega);have h5:UB^ N=UB^ (N- 1) * UB:=by rw[←Nat.pow_succ];congr 1;omega
  rw[h5];show r< UB^ (N- 1) * 32768;rcases hk with rfl|rfl <;> omega)
 have Y:r< UB^ N:=by
  have h1:=fi (b:=UB) (dr (by decide) r);rw[bq (by decide)] at h1;exact Nat.lt_of_lt_of_le h1 (Nat.pow_le_pow_right (by decide) M)
 refine aH (fun s:List Nat=>⟨[(8,.lsl 1 0 N (some N) 1)],[(1,some ⟨3,1,iE s.reverse⟩)],2,51⟩) (fun s=>s.length=N∧(∀d∈s,d< UB)∧ofD UB s=r) ?_ ?_;refine aj (aB (bothS a b k N) (fun x=>N- x.1.length) (fun x=>x.1.length≤N∧(∀d∈x.1,d< UB)∧(x.2= -1∨x.2=0∨x.2=1)∧((ofD UB x.1:Nat):Int)+((UB^ x.1.length:Nat):Int) * x.2=(ofD UB ((aw UB a).take x.1.length):Nat)+k* (ofD UB ((aw UB b).take x.1.length):Nat)) ([],0) ⟨by simp,by simp,by simp,by simp[ofD]⟩ ?_ ?_);simp only[bothS.eq_1];exact s_e [(1,8)];rintro⟨s,c⟩ ⟨hs,t,hc,f⟩;simp only at hs t hc f;simp only[bothS.eq_1];refine ae (r_z 3 ?_);refine ap rfl (fun h=>?_) (fun h=>?_);have hlt:s.length< N:=by simpa using h
 refine am ?_;obtain⟨x,Q⟩:∃x,x=(aw UB a)[s.length]?.getD 0:=⟨_,rfl⟩;obtain⟨y,W⟩:∃y,y=(aw UB b)[s.length]?.getD 0:=⟨_,rfl⟩
 have hx1:x< 32768:=by
  rw[Q];cases hh:(aw UB a)[s.length]? with
  |none=>decide
  |some d=>exact cu (by decide) hh
 have hy1:y< 32768:=by
  rw[W];cases hh:(aw UB b)[s.length]? with
  |none=>decide
  |some d=>exact cu (by decide) hh
 have m:=tP (zd a) s.length (by omega);have o:=tP (zd b) s.length (by omega);unfold zd at m o;rw[List.reverse_reverse,←Q] at m;rw[List.reverse_reverse,←W] at o;have hky: -32768< k* y∧k* y< 32768:=by rcases hk with rfl|rfl <;> omega
 obtain⟨X,T⟩:∃X:Int,X=x+k* y+c:=⟨_,rfl⟩;have hXr: -32768≤X∧X≤65536:=by omega
 refine ae (aj (r_c 12 (m) ?_));refine c_s (o) ?_;refine a_z ?_;refine r_z 1 ?_;refine bh (Hg a b k N s) (fun v=>v.1=(if X< 0 then X+32768 else X)∧v.2=(if X< 0 then -1 else 0)) ?_ ?_;refine r_z 2 ?_;refine ap rfl (fun h1=>?_) (fun h1=>?_);have g:X< 0:=by rw[T];simpa using h1
 refine r_z 3 ?_;refine r_m 1 ?_;refine a_z ?_;refine⟨(X+32768,-1),⟨by rw[if_pos g],by rw[if_pos g]⟩,?_⟩;simp only[Hg.eq_1];exact s_x [] (fun hs=>e_34) (fun hs=>e_35) e_33;have g:¬X< 0:=by rw[T];simpa using h1
 refine am ⟨(X,0),⟨by rw[if_neg g],by rw[if_neg g]⟩,?_⟩;simp only[Hg.eq_1];exact s_x [] (fun hs=>e_34) (fun hs=>e_35) e_33;rintro⟨A,c1⟩ ⟨i,E⟩;simp only at i E;rw[Hg.eq_1];refine bh (Hg a b k N s) (fun v=>v.1=X % 32768∧v.2=X/ 32768) ?_ ?_;refine r_z 2 ?_;refine ap rfl (fun h1=>?_) (fun h1=>?_);have p:32768≤A:=by simpa using h1
 have hX1r:A≤65536:=by rw[i];split <;> omega
 refine r_z 3 ?_;refine r_m 1 ?_;refine a_z ?_;have g:¬X< 0:=by intro h0;rw[if_pos h0] at i;omega
 rw[if_neg g] at i;refine⟨(A- 32768,1),⟨by simp only;omega,by simp only;omega⟩,?_⟩;simp only[Hg.eq_1];exact s_e []
 ·have p:A< 32768:=by simp at h1;omega
  refine am ⟨(A,c1),⟨by rw[i] at p⊢;simp only;split <;> rename_i J <;> simp only[J,if_true,if_false] at p <;> omega,by rw[i] at p;rw[E];simp only;split <;> rename_i J <;> simp only[J,if_true,if_false] at p <;> omega⟩,?_⟩;simp only[Hg.eq_1];exact s_e []
 rintro⟨X2,G⟩ ⟨L,S⟩;simp only at L S;rw[Hg.eq_1];obtain⟨d,U⟩:∃d:Nat,X2=d:=⟨X2.toNat,by omega⟩;have R:d< 32768:=by omega
 subst U;have Z:(List.replicate (N- s.length) 0++s.reverse).length=N:=by simp;omega
 have l:List.replicate (N- s.length) 0=List.replicate (N- (s.length+1)) 0++[0]:=by
  rw[show N- s.length=(N- (s.length+1))+1 by omega,List.replicate_succ']
 have D:(iE (List.replicate (N- s.length) 0++s.reverse))[0+((N:Int)- 1- s.length).toNat]?=some [i64 0]:=by
  rw[show 0+((N:Int)- 1- s.length).toNat=N- (s.length+1) by omega];refine jS ?_;rw[l,List.append_assoc];exact o8 _ _ _ _ (by simp)
 have F:(iE (List.replicate (N- s.length) 0++s.reverse)).set (0+((N:Int)- 1- s.length).toNat) [i64 d]=iE (List.replicate (N- (s++[d]).length) 0++(s++[d]).reverse):=by
  rw[show 0+((N:Int)- 1- s.length).toNat=N- (s.length+1) by omega,nW,l,List.append_assoc];simp only[List.singleton_append,List.length_append,List.length_cons,List.length_nil,List.reverse_append,List.reverse_cons,List.reverse_nil,List.nil_append];rw[oC _ _ _ _ _ (by simp)];simp
 refine r_m 8 ?_;refine a_7 ?_;refine dX (.store rfl rfl D rfl rfl rfl TS.h (nle rfl)) ?_;refine ao ?_;refine r_m 3 ?_;refine a_z ?_;refine⟨(s++[d],G),by simp;omega,⟨by simp;omega,?_,by simp only;omega,?_⟩,?_⟩;intro e u;rcases List.mem_append.1 u with u|u
 exact t e u;simp at u;subst u;exact R;simp only[List.length_append,List.length_cons,List.length_nil,Nat.zero_add];rw[gE,ez,ez,←Q,←W,Nat.pow_succ];obtain⟨B,hB⟩:∃B,B=UB^ s.length:=⟨_,rfl⟩;rw[←hB] at f⊢;have V:X=32768* G+d:=by omega
 have O:(B:Int) * X=B* x+k* (B* y)+B* c:=by
  rw[T,Int.mul_add,Int.mul_add,Int.mul_left_comm]
 rw[V,Int.mul_add] at O;have e1:((B* 32768:Nat):Int) * G=B* (32768* G):=by rw[Int.natCast_mul,Int.mul_assoc];rfl
 have e2:k* ((ofD UB ((aw UB b).take s.length)+B* y:Nat):Int)=k* (ofD UB ((aw UB b).take s.length):Nat)+k* (B* y):=by
  rw[Int.natCast_add,Int.mul_add,Int.natCast_mul]
 show((ofD UB s+B* d:Nat):Int)+((B* 32768:Nat):Int) * G=_;rw[e1,e2,Int.natCast_add,Int.natCast_add,Int.natCast_mul,Int.natCast_mul];omega;simp only[bothS.eq_1];refine s_x [] (fun hs=>dG) (fun hs=>?_) e_36
 ·repeat' (first|exact aE|refine h_c ?_ ?_|exact aI hs F (df _)|exact bF)
 have j:s.length=N:=by simp at h;omega
 refine ay ⟨s,⟨j,t,?_⟩,?_⟩;rw[j,List.take_of_length_le (by omega),List.take_of_length_le (by omega),bq (by decide),bq (by decide),←hr] at f;have H:=fi t;rw[j] at H;obtain⟨B,hB⟩:∃B,B=UB^ N:=⟨_,rfl⟩;rw[←hB] at f H Y;rcases hc with rfl|rfl|rfl <;> omega
 have e:iE (List.replicate (N- s.length) 0++s.reverse)=iE s.reverse:=by rw[j];simp
 refine s_x [] (fun hs=>dG) (fun hs=>e_37) ?_
 ·repeat' (first|exact ShrL.nil|refine ShrL.cons rfl rfl rfl rfl (by first|(exact congrArg List.length e)|rfl|(simp;done)|(simp <;> omega)) ?_)
 rintro s ⟨hs,t,f⟩;have K:∀d∈s.reverse,d< UB:=fun d h=>t d (List.mem_reverse.1 h);have w:=iF s.reverse (by simp;omega);rw[fz K,show hv s.reverse=r by unfold hv;rw[List.reverse_reverse];assumption] at w;have q:((iE s.reverse).drop 0).take N=iE s.reverse:=by rw[List.drop_zero,List.take_of_length_le (by simp;omega)]
 refine s_r 3 ?_;refine a_1 ?_;refine o_1 (.callS1 rfl rfl rfl (.shut rfl d_n (.nil)) rfl ((by rw[q];exact w))) ?_;refine a_z ?_;exact ai (t_e (eF _))
def zl(z:Int):Prop:=bl z.natAbs≤8796093022208
theorem wn{z:Int}(h:zl z):(zd z.natAbs).length≤17592186044416:=by
 have:=bJ (b:=UB) (by decide) z.natAbs;rw[cD];unfold zl at h;omega
theorem wE{x y:Int}(h:sgZ x=sgZ y)(hx:x≠0):(x+y).natAbs=x.natAbs+y.natAbs∧(x+y≠0→sgZ x=sgZ (x+y)):=by
 rcases cY x with⟨a,b⟩|⟨a,b⟩|⟨a,b⟩<;> rcases cY y with⟨c,d⟩|⟨c,d⟩|⟨c,d⟩<;> rcases cY (x+y) with⟨e,f⟩|⟨e,f⟩|⟨e,f⟩<;> rw[a,c] at h <;> rw[a,e]<;> first|omega|(constructor <;> omega)
theorem sV{x y:Int}(h:sgZ x≠sgZ y)(hx:x≠0)(hy:y≠0)(hg:y.natAbs≤x.natAbs):(x+y).natAbs=x.natAbs- y.natAbs∧(x+y≠0→sgZ x=sgZ (x+y)):=by
 rcases cY x with⟨a,b⟩|⟨a,b⟩|⟨a,b⟩<;> rcases cY y with⟨c,d⟩|⟨c,d⟩|⟨c,d⟩<;> rcases cY (x+y) with⟨e,f⟩|⟨e,f⟩|⟨e,f⟩<;> rw[a,c] at h <;> rw[a,e]<;> first|omega|(constructor <;> omega)
theorem fs_ZAdd(x y:Int)(hx:zl x)(hy:zl y):FS 195 [.agg (zZ x),.agg (zZ y)] (.agg (zZ (x+y))):=by
 have c:=wn hx;have d:=wn hy
 have bound:∀r:Nat,r≤x.natAbs+y.natAbs→(zd r).length≤281474976710656:=by
  intro r m;have h1:=bJ (b:=UB) (by decide) r;have g:=dt m;have i:=x8 x.natAbs y.natAbs;unfold zl at hx hy;rw[cD];omega
 refine f_c Tryz.func195 ?_;refine r_z 3 ?_;refine ae (r_z 3 ?_);refine ap rfl (fun h=>?_) (fun h=>?_)
 have j:x=0:=by
  have:sgZ x=0:=by simpa using h
  rcases cY x with⟨a,b⟩|⟨a,b⟩|⟨a,b⟩<;> omega
 refine r_z 2 ?_;refine ai (dl rfl rfl rfl TG.h TS.h (nle rfl) ?_ ?_);rw[j,Int.zero_add];rfl;exact cJ _;have e:x≠0:=by rintro rfl;simp[sgZ] at h
 refine am (ae (r_z 3 ?_));refine ap rfl (fun h1=>?_) (fun h1=>?_)
 have j:y=0:=by
  have:sgZ y=0:=by simpa using h1
  rcases cY y with⟨a,b⟩|⟨a,b⟩|⟨a,b⟩<;> omega
 refine r_z 2 ?_;refine ai (dl rfl rfl rfl TG.h TS.h (nle rfl) ?_ ?_);rw[j,Int.add_zero];rfl;exact cJ _;have f:y≠0:=by rintro rfl;simp[sgZ] at h1
 refine am (ae (r_z 5 ?_));refine ap rfl (fun g=>?_) (fun g=>?_);have hs:sgZ x=sgZ y:=by simpa using g
 obtain⟨e1,e2⟩:=wE hs e;refine ae (r_d aY 9 ?_);refine c_s (pk x.natAbs y.natAbs 1 (x.natAbs+y.natAbs) (.inl rfl) (by omega) c d) ?_;refine c_s (jI (sgZ x) (zd (x.natAbs+y.natAbs)) (x+y) (bound _ (Nat.le_refl _)) (jg _) (by rw[ki,e1]) e2) ?_;refine a_1 ?_;refine ao (n_k ?_);exact ai (c_e (cJ _));have hs:sgZ x≠sgZ y:=by simpa using g
 refine am (ae (r_c 6 (zp x.natAbs y.natAbs (by omega) (by omega)) ?_));refine a_z ?_;refine ap rfl (fun i=>?_) (fun i=>?_)
 have k:y.natAbs≤x.natAbs:=by
  have:=of_decide_eq_true i;unfold eg at this;split at this;omega;omega
 obtain⟨e1,e2⟩:=sV hs e f k;refine ae (r_d aY 9 ?_);refine c_s (pk x.natAbs y.natAbs (-1) (x.natAbs- y.natAbs) (.inr rfl) (by omega) c d) ?_;refine c_s (jI (sgZ x) (zd (x.natAbs- y.natAbs)) (x+y) (bound _ (by omega)) (jg _) (by rw[ki,e1]) e2) ?_;refine a_1 ?_;refine ao (n_k ?_);exact ai (c_e (cJ _))
 have l:x.natAbs≤y.natAbs:=by
  have:=of_decide_eq_false i;unfold eg at this;split at this;omega;split at this <;> omega
 obtain⟨e1,e2⟩:=sV (fun h=>hs h.symm) f e l;rw[Int.add_comm] at e1 e2;refine am (ae (r_d aY 9 ?_));refine c_s (pk y.natAbs x.natAbs (-1) (y.natAbs- x.natAbs) (.inr rfl) (by omega) d c) ?_;refine c_s (jI (sgZ y) (zd (y.natAbs- x.natAbs)) (x+y) (bound _ (by omega)) (jg _) (by rw[ki,e1]) e2) ?_;refine a_1 ?_;refine ao (n_k ?_);exact ai (c_e (cJ _))
theorem zl_neg{z:Int}(h:zl z):zl (-z):=by unfold zl at *;rwa[Int.natAbs_neg]
theorem fs_ZSub(x y:Int)(hx:zl x)(hy:zl y):FS 165 [.agg (zZ x),.agg (zZ y)] (.agg (zZ (x- y))):=by
 have hs:=fs_ZAdd x (-y) hx (zl_neg hy);rw[←Int.sub_eq_add_neg] at hs;refine f_c Tryz.func165 ?_;refine r_z 3 ?_;refine ae (r_d aY 5 ?_);refine c_s (xm y) ?_;refine c_s (hs) ?_;refine a_1 ?_;refine ao (n_k ?_);exact ai (c_e (cJ _))
theorem fs_ZCmp(x y:Int)(hx:zl x)(hy:zl y):FS 135 [.agg (zZ x),.agg (zZ y)] (i64 (eg x y)):=by
 have e:eg x y=sgZ (x- y):=by
  unfold eg sgZ;split <;> split <;>(try split)<;>(try split)<;> omega
 rw[e];refine f_c Tryz.func135 ?_;refine r_z 3 ?_;refine r_c 5 (fs_ZSub x y hx hy) ?_;refine a_z ?_;exact ai (t_e (ag _))
def AM(l:List Nat):Nat→AState
 |i=>⟨[(0,.arr (iE l)),(3,i64 (hv (l.take i))),(4,i64 i)],[],1,19⟩
theorem Bp{l:List Nat}(hd:∀d∈l,d< UB)(hl:l.length≤4)(i:Nat):hv (l.take i)< 1152921504606846976:=by
 have h1:=Dc (l:=l.take i) fun d h=>hd d (List.mem_of_mem_take h);have a:(l.take i).length≤4:=by rw[List.length_take];omega
 exact Nat.lt_of_lt_of_le h1 (Nat.pow_le_pow_right (by decide) a)
theorem ze(l:List Nat)(hl:l.length≤4)(hd:∀d∈l,d< UB):FS 184 [.arr (iE l)] (i64 (hv l)):=by
 refine f_c Tryz.func184 ?_;refine r_z 1 ?_;refine r_z 1 ?_;refine ae (r_z 1 ?_);refine aH (AM l) (fun i=>i=l.length) ?_ ?_;refine aj (aB (AM l) (fun i=>l.length- i) (fun i=>i≤l.length) 0 (Nat.zero_le _) ?_ ?_);simp only[AM.eq_1];exact s_e [];intro i m;rw[AM.eq_1];refine ae (r_z 4 ?_);refine ap rfl (fun h=>?_) (fun h=>?_);have f:i< l.length:=by simpa using h
 obtain⟨d,e⟩:∃d,l[i]?=some d:=⟨_,List.getElem?_eq_getElem f⟩;have j:=hd d (List.mem_of_getElem? e);have b:(iE l)[((i:Nat):Int).toNat]?=some [i64 d]:=jS e;have c:=o5 (l.take i) d;rw[←cw e] at c;have hb:=Bp hd hl (i+1);obtain⟨V,k⟩:∃V,V=hv (l.take i):=⟨_,rfl⟩;rw[←k] at c⊢;have a:hv (l.take (i+1))=V* 32768+d:=c;refine am (ae (aj (r_m 8 ?_)));refine a_4 ?_;refine i_x b ?_;refine l_1 b ?_;refine a_z ?_;refine r_m 3 ?_;refine a_z ?_;refine⟨i+1,by omega,f,?_⟩;simp only[AM.eq_1];refine s_x [] (fun hs=>?_) (fun hs=>?_) ?_
 ·repeat' (first|exact aK|refine az rfl ?_ ?_|exact aW|(refine Cv.loE hs ?_ (ag _);first|rfl|(simp[i64,u64,u32,bln,a];done)|(simp[i64,u64,u32,bln,a]<;> omega)))
 ·repeat' (first|exact aE|refine h_c ?_ ?_|exact bF|(refine aI hs ?_ (df _);first|(simp[nW,na,iU,a];done)|(simp[iE,i64,ofV,a];done))|refine aC ?_|exact av|refine ah ?_ ?_|exact aW|(refine Cv.loE hs ?_ (ag _);first|(simp[i64,u64,u32,bln,a];done)|(simp[i64,u64,u32,bln,a]<;> omega)))
 ·repeat' (first|exact ShrL.nil|refine ShrL.cons rfl rfl rfl rfl (by first|rfl|(simp;done)|(simp[a]<;> omega)) ?_)
 have g:i=l.length:=by simp at h;omega
 refine ay ⟨i,g,?_⟩;exact s_e [];rintro i rfl;rw[AM.eq_1,List.take_length];refine r_z 2 ?_;refine ai (aU rfl rfl (ag _))
def EZ(s:Int):Int×List Nat→AState
 |(n,l)=>⟨[(0,i64 n),(2,.lptr 1 0 0),(3,i64 s),(4,.arr (iE l))],[(1,some ⟨49,2,[[i64 0,.emp]]⟩)],2,25⟩
theorem pn(n:Int)(h: -9223372036854775808≤n∧n≤9223372036854775807):FS 102 [i64 n] (.agg (zZ n)):=by
 obtain⟨s,hs⟩:∃s:Int,s=if n< 0 then -1 else 1:=⟨_,rfl⟩
 have i:n≠0→s=sgZ n:=by
  intro r;rw[hs];unfold sgZ;rw[if_neg r]
 refine f_c Tryz.func102 ?_;refine r_z 1 ?_;refine r_z 1 ?_;refine bh (fun _:Unit=>⟨[(0,i64 n),(2,.lptr 1 0 0),(3,i64 s)],[(1,some ⟨49,2,[[i64 0,.emp]]⟩)],2,25⟩) (fun _=>True) ?_ ?_;refine r_z 2 ?_;refine ap rfl (fun h1=>?_) (fun h1=>?_);have k:n< 0:=by simpa using h1
 rw[hs,if_pos k];refine r_m 1 ?_;refine a_z ?_;refine⟨(),trivial,?_⟩;exact s_e [];have k:¬n< 0:=by simpa using h1
 rw[hs,if_neg k];refine am ⟨(),trivial,?_⟩;exact s_e [];rintro _ _;refine r_z 1 ?_;refine bh (fun l:List Nat=>EZ s (0,l)) (fun l=>l.length≤10∧(∀d∈l,d< UB)∧hv l=n.natAbs) ?_ ?_;refine aj (aB (EZ s) (fun x=>x.1.natAbs) (fun x=>(-9223372036854775808≤x.1∧x.1≤9223372036854775807)∧(∀d∈x.2,d< UB)∧n.natAbs=hv x.2+UB^ x.2.length* x.1.natAbs∧x.2.length≤5) (n,[]) ⟨h,by simp,by simp[tH],by simp⟩ ?_ ?_);simp only[EZ.eq_1];exact s_e [(1,2)];rintro⟨m,l⟩ ⟨t,b,a,g⟩;simp only at t b a g;rw[EZ.eq_1];refine ae (r_z 2 ?_);refine ap rfl (fun h=>?_) (fun h=>?_)
 ·have c:m≠0:=by simpa using h
  have hl:l.length≤4:=by
   refine Nat.le_of_not_lt fun w=>?_;have C:UB^ 5≤UB^ l.length:=Nat.pow_le_pow_right (by decide) w;have B:UB^ l.length* 1≤UB^ l.length* m.natAbs:=Nat.mul_le_mul_left _ (by omega);have A:UB^ 5=37778931862957161709568:=by decide
   omega
  obtain⟨d,p⟩:∃d,d=m.natAbs % 32768:=⟨_,rfl⟩;have o:d< 32768:=by omega
  have D:(m.tmod 32768).natAbs=d:=by rw[Int.natAbs_tmod,p];rfl
  have y:(m.tdiv 32768).natAbs=m.natAbs/ 32768:=by rw[Int.natAbs_tdiv];rfl
  have u:m.natAbs/ 32768< m.natAbs:=Nat.div_lt_self (by omega) (by decide);have q:=Nat.div_add_mod m.natAbs 32768;refine am (aj (s_r 3 ?_));refine a_1 ?_;refine o_0 (.bin rfl rfl (EU (by decide))) ?_;refine a_z ?_;refine bh (fun _:Unit=>⟨[(0,i64 m),(2,.lptr 1 0 0),(3,i64 s),(4,.arr (iE l)),(5,i64 d)],[(1,some ⟨49,2,[[i64 0,.emp]]⟩)],2,25⟩) (fun _=>True) ?_ ?_;refine r_z 2 ?_;refine ap rfl (fun h1=>?_) (fun h1=>?_);have f:m.tmod 32768< 0:=by simpa using h1
  refine r_m 3 ?_;refine a_z ?_;have e: -m.tmod 32768=d:=by omega
  refine⟨(),trivial,?_⟩;have:=(congrArg (fun z=>AV.v (.int .i64 z)) e);exact s_f [];have f:¬m.tmod 32768< 0:=by simpa using h1
  have e:m.tmod 32768=d:=by omega
  refine am ⟨(),trivial,?_⟩;have:=(congrArg (fun z=>AV.v (.int .i64 z)) e);exact s_f [];rintro _ _;refine s_r 5 ?_;refine a_3 ?_;refine o_2 (.append_l rfl rfl rfl te_47.h rfl rfl rfl rfl rfl d_o (by first|exact eE _|exact eA _|exact dJ _|exact eG _|exact er _|assumption|rfl|simp) (by first|rfl|exact eE _|exact eA _|exact dJ _|exact eG _|exact er _|simp) rfl (.arr (kY _)) TZ.h rfl TB.h d_o (by first|(simp[maxLen];done)|(simp[maxLen];omega))) ?_;refine a_z ?_;refine r_m 3 ?_;refine a_1 ?_;refine o_0 (.bin rfl rfl (qT (by decide) (by omega))) ?_;refine a_z ?_;refine⟨(m.tdiv 32768,d::l),by simp only;omega,⟨by simp only;omega,?_,?_,by simp;omega⟩,?_⟩;intro e j;rcases List.mem_cons.1 j with rfl|j
  exact o;exact b e j;simp only[o6,List.length_cons];rw[a,y,Nat.pow_succ,Nat.mul_assoc,Nat.add_assoc,←Nat.mul_add];congr 2;show m.natAbs=d+32768* (m.natAbs/ 32768);omega;simp only[EZ.eq_1];have e:[[i64 d]]++iE l=iE (d::l):=rfl;refine s_x [] (fun hs=>?_) (fun hs=>?_)
  ·repeat' (first|exact aK|refine az rfl ?_ ?_|exact Cv.sealE hs rfl (aM rfl) e (by simp;omega) (df _)|exact aW)
  ·repeat' (first|exact aE|refine h_c ?_ ?_|exact bF|refine aC ?_|exact av|refine ah ?_ ?_|exact Cv.sealE hs rfl (aM rfl) e (by simp;omega) (df _)|exact aW)
 have c:m=0:=by simpa using h
 subst c;refine ay ⟨l,⟨by omega,b,by simpa using a.symm⟩,?_⟩;simp only[EZ.eq_1];exact s_e [];rintro l ⟨hl,b,a⟩;rw[EZ.eq_1];refine r_c 4 (jI s l n (by omega) b a i) ?_;refine a_z ?_;exact ai (c_e (cJ _))
theorem CQ{o:List Nat}{j d:Nat}(h:o[j]?=some d):o.reverse[o.length- 1- j]?=some d:=by
 have a:j< o.length:=(List.getElem?_eq_some_iff.1 h).1;rw[List.getElem?_reverse (by omega),show o.length- 1- (o.length- 1- j)=j by omega];exact h
theorem CP{o:List Nat}{j v:Nat}(hj:j< o.length):o.reverse.set (o.length- 1- j) v=(o.set j v).reverse:=by
 apply List.ext_getElem?;intro i;by_cases hi:i< o.length;rw[List.getElem?_reverse (by simpa using hi),List.getElem?_set,List.getElem?_set,List.length_reverse,List.length_set];by_cases h:o.length- 1- j=i;rw[if_pos h,if_pos (by omega),if_pos (by omega),if_pos (by omega)];rw[if_neg h,if_neg (by omega),List.getElem?_reverse hi];rw[List.getElem?_eq_none (by simpa using hi),List.getElem?_eq_none (by simpa using hi)]
def zmS(x:Int)(y:Int):List Nat×Nat→AState
 |(o,i)=>⟨[(2,.lptr 1 0 0),(3,.lptr 2 0 0),(4,.lptr 3 0 0),(5,.lsl 4 0 ((zd x.natAbs).length+(zd y.natAbs).length) (some ((zd x.natAbs).length+(zd y.natAbs).length)) 1),(6,i64 (((zd x.natAbs).length:Int)- 1- i))],
  [(1,some ⟨49,2,[zZ x]⟩),(2,some ⟨49,2,[zZ y]⟩),(3,some ⟨49,2,[[i64 0,.emp]]⟩),(4,some ⟨3,1,iE o.reverse⟩)],5,76⟩
def zmT(x:Int)(y:Int)(i:Nat):List Nat×Nat×Nat→AState
 |(o,k,c)=>⟨[(2,.lptr 1 0 0),(3,.lptr 2 0 0),(4,.lptr 3 0 0),(5,.lsl 4 0 ((zd x.natAbs).length+(zd y.natAbs).length) (some ((zd x.natAbs).length+(zd y.natAbs).length)) 1),(6,i64 (((zd x.natAbs).length:Int)- 1- i)),(7,i64 c),(8,i64 (((zd y.natAbs).length:Int)- 1- k))],
  [(1,some ⟨49,2,[zZ x]⟩),(2,some ⟨49,2,[zZ y]⟩),(3,some ⟨49,2,[[i64 0,.emp]]⟩),(4,some ⟨3,1,iE o.reverse⟩)],5,76⟩
structure ZmI (a b:Nat)(x:List Nat×Nat):Prop where
 len:x.1.length=(aw UB a).length+(aw UB b).length
 le:x.2≤(aw UB a).length
 dig:∀d∈x.1,d< UB
 val:ofD UB x.1=ofD UB ((aw UB a).take x.2) * b
 zer:∀j,x.2+(aw UB b).length≤j→j< x.1.length→x.1[j]?=some 0
structure ZmJ (a b i v:Nat)(x:List Nat×Nat×Nat):Prop where
 len:x.1.length=(aw UB a).length+(aw UB b).length
 le:x.2.1≤(aw UB b).length
 dig:∀d∈x.1,d< UB
 car:x.2.2< UB
 val:ofD UB x.1+UB^ (i+x.2.1) * x.2.2=ofD UB ((aw UB a).take i) * b+UB^ i* v* ofD UB ((aw UB b).take x.2.1)
 zer:∀j,i+(aw UB b).length≤j→j< x.1.length→x.1[j]?=some 0
theorem sgZ_mul(x y:Int):sgZ (x* y)=sgZ x* sgZ y:=by
 rcases cY x with⟨a,b⟩|⟨a,b⟩|⟨a,b⟩<;> rcases cY y with⟨c,d⟩|⟨c,d⟩|⟨c,d⟩<;> rw[a,c]<;> rcases cY (x* y) with⟨e,f⟩|⟨e,f⟩|⟨e,f⟩<;> rw[e]<;> first|rfl|(exfalso;subst_vars;simp at f;done)|(exfalso;have:=Int.mul_pos_of_neg_of_neg b d;omega)|(exfalso;have:=Int.mul_neg_of_neg_of_pos b d;omega)|(exfalso;have:=Int.mul_neg_of_pos_of_neg b d;omega)|(exfalso;have:=Int.mul_pos b d;omega)
theorem pm(x y:Int)(hx:zl x)(hy:zl y):FS 105 [.agg (zZ x),.agg (zZ y)] (.agg (zZ (x* y))):=by
 have hlx:=wn hx;have hly:=wn hy;have A:=cD x.natAbs;have t:=cD y.natAbs;obtain⟨a,ha⟩:∃a,a=x.natAbs:=⟨_,rfl⟩;obtain⟨b,hb⟩:∃b,b=y.natAbs:=⟨_,rfl⟩;have va:=bq (b:=UB) (by decide) a;have vb:=bq (b:=UB) (by decide) b
 have S: -9223372036854775808≤sgZ x* sgZ y∧sgZ x* sgZ y≤9223372036854775807:=by
  rcases cY x with⟨h,_⟩|⟨h,_⟩|⟨h,_⟩<;> rcases cY y with⟨h',_⟩|⟨h',_⟩|⟨h',_⟩<;> rw[h,h']<;> decide
 refine f_c Tryz.func105 ?_;subst ha hb;refine r_z 3 ?_;refine r_z 9 ?_;refine ae (r_z 5 ?_);refine aH (zmS x y) (fun v=>ZmI x.natAbs y.natAbs v∧v.2=(aw UB x.natAbs).length) ?_ ?_;refine aj (aB (zmS x y) (fun v=>(aw UB x.natAbs).length- v.2) (ZmI x.natAbs y.natAbs) (List.replicate ((aw UB x.natAbs).length+(aw UB y.natAbs).length) 0,0) ⟨by simp,by simp,?_,by simp[qk,ofD],?_⟩ ?_ ?_);intro d K;simp at K;rw[K.2];decide;intro j _ J;simp at J;simp[J];simp only[zmS.eq_1];refine s_x [(1,2),(2,3),(3,4),(4,5)] (fun hs=>?_) (fun hs=>?_) ?_
 ·repeat' (first|exact aK|refine az rfl ?_ ?_|exact aW|(refine Cv.loE hs ?_ (ag _);first|rfl|(simp[i64,u64,u32,bln,A,t];done)|(simp[i64,u64,u32,bln,A,t]<;> omega)))
 ·repeat' (first|exact aE|refine h_c ?_ ?_|exact bF|(refine aI hs ?_ (df _);first|(simp[nW,na,iU,A,t];done)|(simp[iE,i64,ofV,A,t];done))|refine aC ?_|exact av|refine ah ?_ ?_|exact aW|(refine Cv.loE hs ?_ (ag _);first|(simp[i64,u64,u32,bln,A,t];done)|(simp[i64,u64,u32,bln,A,t]<;> omega)))
 ·repeat' (first|exact ShrL.nil|refine ShrL.cons rfl rfl rfl rfl (by first|rfl|(simp;done)|(simp[A,t]<;> omega)) ?_)
 rintro⟨o,i⟩ ⟨r,D,p,l,s⟩;simp only at r D p l s;rw[zmS.eq_1];refine ae (r_z 2 ?_);refine ap rfl (fun h=>?_) (fun h=>?_);have T:i< (aw UB x.natAbs).length:=by have:=of_decide_eq_true h;omega
 obtain⟨u,R⟩:∃u,(aw UB x.natAbs)[i]?=some u:=⟨_,List.getElem?_eq_getElem T⟩;have hu1:u< 32768:=cu (by decide) R
 have M:(iE (zd x.natAbs))[(((zd x.natAbs).length:Int)- 1- i).toNat]?=some [i64 u]:=by
  rw[show(((zd x.natAbs).length:Int)- 1- i).toNat=(aw UB x.natAbs).length- 1- i by omega];exact jS (wo R)
 refine am (ae (aj (r_z 1 ?_)));refine ae (r_z 5 ?_);refine aH (zmT x y i) (fun v=>ZmJ x.natAbs y.natAbs i u v∧v.2.1=(aw UB y.natAbs).length) ?_ ?_;refine aj (aB (zmT x y i) (fun v=>(aw UB y.natAbs).length- v.2.1) (ZmJ x.natAbs y.natAbs i u) (o,0,0) ⟨r,by simp,p,(show 0< UB by decide),by simp[l,ofD],s⟩ ?_ ?_);simp only[zmT.eq_1];exact s_e [];rintro⟨q,k,c⟩ ⟨n,E,e,g,m,f⟩;simp only at n E e g m f;rw[zmT.eq_1];refine ae (r_z 2 ?_);refine ap rfl (fun h=>?_) (fun h=>?_);have N:k< (aw UB y.natAbs).length:=by have:=of_decide_eq_true h;omega
 obtain⟨v,hv⟩:∃v,(aw UB y.natAbs)[k]?=some v:=⟨_,List.getElem?_eq_getElem N⟩;have hv1:v< 32768:=cu (by decide) hv
 have L:(iE (zd y.natAbs))[(((zd y.natAbs).length:Int)- 1- k).toNat]?=some [i64 v]:=by
  rw[show(((zd y.natAbs).length:Int)- 1- k).toNat=(aw UB y.natAbs).length- 1- k by omega];exact jS (wo hv)
 obtain⟨d,K⟩:∃d,q[i+k]?=some d:=⟨_,List.getElem?_eq_getElem (by omega)⟩;have hd1:d< 32768:=e d (List.mem_of_getElem? K);have U:c< 32768:=g;have hidx:(((zd x.natAbs).length:Int)- 1- i+(((zd y.natAbs).length:Int)- 1- k)+1).toNat=q.length- 1- (i+k):=by omega
 have hg:(iE q.reverse)[0+(((zd x.natAbs).length:Int)- 1- i+(((zd y.natAbs).length:Int)- 1- k)+1).toNat]?=some [i64 d]:=by rw[hidx,Nat.zero_add];exact jS (CQ K)
 have C:∀w:Nat,(iE q.reverse).set (0+(((zd x.natAbs).length:Int)- 1- i+(((zd y.natAbs).length:Int)- 1- k)+1).toNat) [i64 w]=iE (q.set (i+k) w).reverse:=by intro w;rw[hidx,Nat.zero_add,nW,CP (by omega)]
 have W:u* v≤32767* 32767:=Nat.mul_le_mul (by omega) (by omega);have F:(u:Int) * v=((u* v:Nat):Int):=by push_cast;rfl
 refine am ?_;have V:0≤(u:Int) * v:=Int.mul_nonneg (by omega) (by omega);refine ae (aj (ae (r_d aY 22 ?_)));refine a_5 ?_
 first|refine aO (.index_l rfl rfl (by omega) (by omega) te_47.h) rfl rfl ?_|refine aO (.index_a rfl rfl (by omega) hg rfl te_47.h) rfl rfl ?_
 first|refine aO (.load_l1 rfl rfl hg TG.h rfl) rfl rfl ?_|refine aO (.load_a1 rfl hg TG.h rfl) rfl rfl ?_
 refine a_3 ?_;refine i_x M ?_;refine l_1 M ?_;refine a_3 ?_;refine i_x L ?_;refine l_1 L ?_;refine a_5 ?_;refine ao (n_k ?_);refine s_r 9 ?_;refine a_8 ?_;refine dX (.store rfl rfl hg rfl rfl rfl TS.h (nle rfl)) ?_;refine ao ?_;refine r_m 3 ?_;refine a_z ?_;refine r_m 3 ?_;refine a_z ?_;have hm:((d:Int)+(u:Int) * v+c) % 32768=(((d+u* v+c) % 32768:Nat):Int):=by rw[F];omega
 have Y:((d:Int)+(u:Int) * v+c) / 32768=(((d+u* v+c) / 32768:Nat):Int):=by rw[F];omega
 refine⟨(q.set (i+k) ((d+u* v+c) % 32768),k+1,(d+u* v+c) / 32768),by simp;omega,⟨by simp[n],by simp;omega,rV e (Nat.mod_lt _ (by decide)),?_,?_,?_⟩,?_⟩;show _< 32768;simp only;omega;simp only;have e1:=oR UB ((d+u* v+c) % 32768) K;have e2:=Nat.mod_add_div (d+u* v+c) 32768
 have e3:UB^ (i+k) * ((d+u* v+c) % 32768)+UB^ (i+(k+1)) * ((d+u* v+c) / 32768)=UB^ (i+k) * d+UB^ (i+k) * (u* v)+UB^ (i+k) * c:=by
  rw[←Nat.add_assoc i k 1,Nat.pow_succ,Nat.mul_assoc,←Nat.mul_add,show UB* ((d+u* v+c) / 32768)=32768* ((d+u* v+c) / 32768) from rfl,e2,Nat.mul_add,Nat.mul_add]
 have Z:UB^ i* u* ofD UB ((aw UB y.natAbs).take (k+1))=UB^ i* u* ofD UB ((aw UB y.natAbs).take k)+UB^ (i+k) * (u* v):=by
  rw[cz _ hv,Nat.mul_add];congr 1;rw[Nat.pow_add];simp only[Nat.mul_assoc,Nat.mul_left_comm,Nat.mul_comm]
 rw[Z];omega;intro j J H;rw[List.getElem?_set_ne (by omega)];exact f j J (by simpa using H);simp only[zmT.eq_1];have B:=C ((d+u* v+c) % 32768);rw[←hm] at B;refine s_x [] (fun hs=>?_) (fun hs=>?_) ?_
 ·repeat' (first|exact aK|refine az rfl ?_ ?_|exact Cv.loE hs (congrArg (fun z=>AV.v (.int .i64 z)) Y) (ag _)|exact aW)
 ·repeat' (first|exact aE|refine h_c ?_ ?_|exact aI hs B (df _)|exact bF|refine aC ?_|exact av|refine ah ?_ ?_|exact Cv.loE hs (congrArg (fun z=>AV.v (.int .i64 z)) Y) (ag _)|exact aW)
 ·repeat' (first|exact ShrL.nil|refine ShrL.cons rfl rfl rfl rfl (by first|(exact congrArg List.length B)|rfl|(simp;done)|(simp <;> omega)) ?_)
 have Q:k=(aw UB y.natAbs).length:=by have:=of_decide_eq_false h;omega
 refine ay ⟨(q,k,c),⟨⟨n,E,e,g,m,f⟩,Q⟩,?_⟩;simp only[zmT.eq_1];exact s_e [];rintro⟨q,k,c⟩ ⟨⟨n,E,e,g,m,f⟩,Q⟩;simp only at n E e g m f Q;subst Q;have U:c< 32768:=g;have X:=f (i+(aw UB y.natAbs).length) (Nat.le_refl _) (by omega);have hidx:(((zd x.natAbs).length:Int)- 1- i).toNat=q.length- 1- (i+(aw UB y.natAbs).length):=by omega
 have hg:(iE q.reverse)[0+(((zd x.natAbs).length:Int)- 1- i).toNat]?=some [i64 0]:=by rw[hidx,Nat.zero_add];exact jS (CQ X)
 have C:(iE q.reverse).set (0+(((zd x.natAbs).length:Int)- 1- i).toNat) [i64 c]=iE (q.set (i+(aw UB y.natAbs).length) c).reverse:=by rw[hidx,Nat.zero_add,nW,CP (by omega)]
 rw[List.take_length,vb] at m;rw[zmT.eq_1];refine r_m 5 ?_;refine a_4 ?_;refine dX (.store rfl rfl hg rfl rfl rfl TS.h (nle rfl)) ?_;refine ao ?_;refine r_m 3 ?_;refine a_z ?_;refine⟨(q.set (i+(aw UB y.natAbs).length) c,i+1),by simp;omega,⟨by simp[n],by simp;omega,rV e g,?_,?_⟩,?_⟩;simp only;have e1:=oR UB c X;rw[cz _ R,Nat.add_mul,←m];omega;intro j J H;rw[List.getElem?_set_ne (by simp only at J;omega)];exact f j (by simp only at J;omega) (by simpa using H);simp only[zmS.eq_1];refine s_x [] (fun hs=>dG) (fun hs=>?_) e_36
 ·repeat' (first|exact aE|refine h_c ?_ ?_|refine aI hs C (df _)|exact bF)
 have O:i=(aw UB x.natAbs).length:=by have:=of_decide_eq_false h;omega
 refine ay ⟨(o,i),⟨⟨r,D,p,l,s⟩,O⟩,?_⟩;simp only[zmS.eq_1];exact s_e [];rintro⟨o,i⟩ ⟨⟨r,D,p,l,s⟩,O⟩;simp only at r D p l s O;subst O;rw[List.take_length,va] at l;rw[zmS.eq_1];have hol:o.length=(zd x.natAbs).length+(zd y.natAbs).length:=by omega
 have hw:=jI (sgZ x* sgZ y) o.reverse (x* y) (by simp;omega) (fun d h=>p d (List.mem_reverse.1 h)) (by unfold hv;rw[List.reverse_reverse,l,Int.natAbs_mul]) (fun _=>(sgZ_mul x y).symm);have G:((iE o.reverse).drop 0).take ((zd x.natAbs).length+(zd y.natAbs).length)=iE o.reverse:=by rw[List.drop_zero,List.take_of_length_le (by simp;omega)]
 refine s_r 8 ?_;refine a_4 ?_;refine o_0 (.bin rfl rfl (uG S)) ?_;refine a_1 ?_;refine o_1 (.callS1 rfl rfl rfl (.keep (.shut rfl d_n (.nil))) rfl ((by rw[G];exact hw))) ?_;refine a_z ?_;exact ai (c_e (cJ _))
theorem EP{b:Nat}(hb:1< b):∀(j n:Nat),(aw b n)[j]?.getD 0=n/ b^ j % b:=by
 intro j
 induction j with
 |zero=>
  intro n;rcases Nat.eq_zero_or_pos n with rfl|a
  rw[cm];simp;rw[eX hb a];simp
 |succ j c=>
  intro n;rcases Nat.eq_zero_or_pos n with rfl|a
  rw[cm];simp;rw[eX hb a,List.getElem?_cons_succ,c,Nat.div_div_eq_div_mul,Nat.pow_succ,Nat.mul_comm b]
def BP(n:Nat)(long:Nat)(k:Nat):Nat→AState
 |i=>⟨[(0,.arr (iE (zd n))),(1,i64 long),(2,i64 k),(7,i64 (n/ UB^ (long- i):Nat)),(8,i64 i)],[],1,24⟩
theorem pg(n long k:Nat)(hk:k≤4)(hkl:k≤long)(hn:n< UB^ long)(hl:(zd n).length≤281474976710656)(hlo:long≤281474976710656):FS 219 [.arr (iE (zd n)),i64 long,i64 k] (i64 (n/ UB^ (long- k):Nat)):=by
 have bound:∀i,i≤k→n/ UB^ (long- i)< 1152921504606846976:=by
  intro i g
  have h1:n/ UB^ (long- i)< UB^ i:=by
   rw[Nat.div_lt_iff_lt_mul (Nat.pow_pos (by decide)),←Nat.pow_add,show i+(long- i)=long by omega];exact hn
  exact Nat.lt_of_lt_of_le h1 (Nat.pow_le_pow_right (n:=32768) (j:=4) (by decide) (by omega))
 refine f_c Tryz.func219 ?_;refine r_z 1 ?_;refine r_z 1 ?_;refine ae (r_z 1 ?_);refine aH (BP n long k) (fun i=>i=k) ?_ ?_;refine aj (aB (BP n long k) (fun i=>k- i) (fun i=>i≤k) 0 (Nat.zero_le _) ?_ ?_);simp only[BP.eq_1];have e:AV.v (.int .i64 0)=i64 (n/ UB^ (long- 0):Nat):=by rw[Nat.sub_zero,Nat.div_eq_of_lt hn];rfl
 exact s_f [];intro i g;rw[BP.eq_1];refine ae (r_z 3 ?_);refine ap rfl (fun h=>?_) (fun h=>?_);have a:i< k:=by simpa using h
 have c:=tP (zd n) (long- 1- i) hl;unfold zd at c;rw[List.reverse_reverse,EP (by decide),show((long- 1- i:Nat):Int)=(long:Int)- 1- i by omega] at c;have e1:=Nat.div_add_mod (n/ UB^ (long- 1- i)) UB;rw[Nat.div_div_eq_div_mul,←Nat.pow_succ,show(long- 1- i).succ=long- i by omega] at e1;have hb:=bound (i+1) a;rw[show long- (i+1)=long- 1- i by omega] at hb;have b:n/ UB^ (long- 1- i) % UB< 32768:=Nat.mod_lt _ (by decide);obtain⟨V,f⟩:∃V,V=n/ UB^ (long- i):=⟨_,rfl⟩;obtain⟨D,l⟩:∃D,D=n/ UB^ (long- 1- i) % UB:=⟨_,rfl⟩;have p:V< 1152921504606846976:=by rw[f];exact bound i g
 rw[←f,←l] at e1;rw[←l] at c b;rw[←f];have m:32768* V+D=n/ UB^ (long- 1- i):=e1
 have e2:(V:Int) * 32768+D=((n/ UB^ (long- (i+1)):Nat):Int):=by
  rw[show long- (i+1)=long- 1- i by omega,←m];omega
 have o:V* 32768+D< 1152921504606846976:=by omega
 refine am (ae (aj (r_m 10 ?_)));refine c_s (c) ?_;refine a_z ?_;refine r_m 3 ?_;refine a_z ?_;refine⟨i+1,by omega,a,?_⟩;simp only[BP.eq_1];have:=(congrArg (fun z=>AV.v (.int .i64 z)) e2);exact s_f [];have d:i=k:=by simp at h;omega
 refine ay ⟨i,d,?_⟩;simp only[BP.eq_1];exact s_e [];rintro i rfl;rw[BP.eq_1];refine r_z 2 ?_;refine ai (aU rfl rfl (ag _))
def sU(D:Nat):Nat×Nat→AState
 |(R,k)=>⟨[(0,.arr (iE (zd R))),(1,.arr (iE (zd D))),(6,i64 k)],[],1,57⟩
theorem est_le{R D e:Nat}(he:0< e):R/ e/ (D/ e+1) * D≤R:=by
 have h1:R/ e/ (D/ e+1) * (D/ e+1)≤R/ e:=Nat.div_mul_le_self _ _;have c:R/ e* e≤R:=Nat.div_mul_le_self _ _
 have a:D< (D/ e+1) * e:=by
  have:=Nat.lt_mul_div_succ D he;rw[Nat.mul_comm];exact this
 have d:R/ e/ (D/ e+1) * D≤R/ e/ (D/ e+1) * ((D/ e+1) * e):=Nat.mul_le_mul_left _ (Nat.le_of_lt a)
 have b:R/ e/ (D/ e+1) * ((D/ e+1) * e)≤R/ e* e:=by
  rw[←Nat.mul_assoc];exact Nat.mul_le_mul_right _ h1
 omega
theorem zZ_pos{D:Nat}(h:0< D):zZ (D:Int)=[i64 1,.arr (iE (zd D))]:=by
 unfold zZ sgZ;rw[if_neg (by omega),if_neg (by omega),Int.natAbs_natCast]
theorem Gq(R D:Nat)(hD:0< D)(hR:R< UB* D)(hb:bl D≤4398046511104):FS 186 [.arr (iE (zd R)),.arr (iE (zd D))] (.tup [i64 (R/ D:Nat),.arr (iE (zd (R % D)))]):=by
 have hzR:=cD R;have s:=cD D;have hlD:=bJ (b:=UB) (by decide) D;have W:=bJ (b:=UB) (by decide) R
 have Y:bl R≤bl D+16:=by
  have h1:=dt (Nat.le_of_lt hR);have G:=iw UB D;have N:bl UB=16:=by decide
  omega
 obtain⟨n,r⟩:∃n,n=(zd D).length:=⟨_,rfl⟩
 have X:1≤n:=by
  have:zd D≠[]:=fun h=>by have:=zd_eq_nil.1 h;omega
  have:=List.length_pos_iff.2 this;omega
 have m:D< UB^ n:=by
  have:=Dc (jg D);rwa[ki,←r] at this
 have i:R< UB^ (n+1):=by
  rw[Nat.pow_succ,Nat.mul_comm];exact Nat.lt_of_lt_of_le hR (Nat.mul_le_mul_left _ (Nat.le_of_lt m))
 have p:∀k,k* D≤R→k< UB:=by
  intro k H;refine Nat.lt_of_not_le fun h=>?_;have:=Nat.mul_le_mul_right D h;omega
 refine f_c Tryz.func186 ?_;refine r_z 2 ?_;refine r_z 1 ?_;refine r_z 3 ?_;refine bh (fun k:Nat=>sU D (R,k)) (fun k=>k* D≤R) ?_ ?_;refine r_z 4 ?_;refine ap rfl (fun h=>?_) (fun h=>?_);have y:(zd D).length≤(zd R).length:=by simpa using h
 refine r_z 2 ?_;refine ap rfl (fun h1=>?_) (fun h1=>?_);have N:n≤3:=by rw[r];have:=of_decide_eq_true h1;omega
 have d:=pg R (n+1) (n+1) (by omega) (Nat.le_refl _) i (by omega) (by omega);have f:=pg D n n (by omega) (Nat.le_refl _) m (by omega) (by omega);rw[Nat.sub_self,Nat.pow_zero,Nat.div_one] at d f;rw[r] at d f;have u:(R:Int) / D=(R/ D:Nat):=(Int.natCast_ediv _ _).symm;have T:R< 1152921504606846976:=Nat.lt_of_lt_of_le i (Nat.pow_le_pow_right (n:=32768) (j:=4) (by decide) (by omega));refine r_m 12 ?_;refine c_s (d) ?_;refine c_s (f) ?_;refine a_z ?_;refine⟨R/ D,Nat.div_mul_le_self _ _,?_⟩;simp only[sU.eq_1];have:=(congrArg (fun z=>AV.v (.int .i64 z)) u);exact s_f [];have N:3< n:=by rw[r];have:=of_decide_eq_false h1;omega
 have d:=pg R (n+1) 4 (by omega) (by omega) i (by omega) (by omega);have f:=pg D n 3 (by omega) (by omega) m (by omega) (by omega);rw[show n+1- 4=n- 3 by omega] at d;obtain⟨e,w⟩:∃e,e=UB^ (n- 3):=⟨_,rfl⟩;have l:0< e:=by rw[w];exact Nat.pow_pos (by decide)
 rw[←w] at d f
 have x:R/ e< 1152921504606846976:=by
  rw[Nat.div_lt_iff_lt_mul l,w];have F:UB^ 4=1152921504606846976:=by decide
  have:UB^ (n+1)=1152921504606846976* UB^ (n- 3):=by
   rw[show n+1=4+(n- 3) by omega,Nat.pow_add,F]
  omega
 have L:D/ e< 35184372088832:=by
  rw[Nat.div_lt_iff_lt_mul l,w];have F:UB^ 3=35184372088832:=by decide
  have:UB^ n=35184372088832* UB^ (n- 3):=by
   rw[←F,←Nat.pow_add];congr 1;omega
  omega
 rw[r] at d f
 have u:((R/ e:Nat):Int) / (((D/ e:Nat):Int)+1)=(R/ e/ (D/ e+1):Nat):=by
  rw[show(((D/ e:Nat):Int)+1)=((D/ e+1:Nat):Int) by omega];exact(Int.natCast_ediv _ _).symm
 have a:=est_le (R:=R) (D:=D) l;obtain⟨A,hA⟩:∃A,A=R/ e:=⟨_,rfl⟩;obtain⟨B,hB⟩:∃B,B=D/ e:=⟨_,rfl⟩;rw[←hA] at d x u a;rw[←hB] at f L u a;refine r_m 10 ?_;refine c_s (d) ?_;refine c_s (f) ?_;refine a_z ?_;refine⟨A/ (B+1),a,?_⟩;simp only[sU.eq_1];have:=(congrArg (fun z=>AV.v (.int .i64 z)) u);exact s_f [];refine am ⟨0,by simp,?_⟩;simp only[sU.eq_1];exact s_e [];rintro k H;have J:=p k H;have V:k< 32768:=J;rw[sU.eq_1];refine bh (fun _:Unit=>sU D (R- k* D,k)) (fun _=>True) ?_ ?_;refine r_z 2 ?_;refine ap rfl (fun h1=>?_) (fun h1=>?_)
 have C:zl (k:Int):=by
  unfold zl;rw[Int.natAbs_natCast];have:=gP (n:=k) (k:=15) (by omega);omega
 have s:zl (D:Int):=by unfold zl;rw[Int.natAbs_natCast];omega
 have S:=pm (k:Int) (D:Int) C s;rw[zZ_pos hD] at S;have g:((k:Int) * (D:Int)).natAbs=k* D:=by rw[←Int.natCast_mul,Int.natAbs_natCast]
 have hbk:bl (k* D)≤bl D+16:=by
  have:=dt H;omega
 have Z:=bJ (b:=UB) (by decide) (k* D);have o:=pk R (k* D) (-1) (R- k* D) (.inr rfl) (by omega) (by omega) (by rw[cD];omega);rw[←g] at o;rw[g] at o;refine r_m 9 ?_;refine c_s (pn k (by omega)) ?_;refine c_s (S) ?_;refine aO (.field1 rfl TF.h TA.h rfl) rfl rfl ?_;refine o_0 (.call rfl rfl rfl ((by rw[g];exact o))) ?_;refine o_0 (.assign rfl) ?_;refine ao ?_;refine⟨(),trivial,?_⟩;simp only[sU.eq_1];exact s_e [];have E:k=0:=by simp at h1;omega
 subst E;refine am ⟨(),trivial,?_⟩;simp only[sU.eq_1,Nat.zero_mul,Nat.sub_zero];exact s_e [];rintro _ _;rw[sU.eq_1];refine bh (sU D) (fun v=>v.1=R % D∧v.2=R/ D) ?_ ?_;refine aj (aB (sU D) (fun v=>v.1) (fun v=>v.1+v.2* D=R∧v.1≤R) (R- k* D,k) ⟨by simp only;omega,by simp only;omega⟩ ?_ ?_);simp only[sU.eq_1];exact s_e [];rintro⟨c,t⟩ ⟨hv,a⟩;simp only at hv a;have U:bl c≤bl D+16:=by have:=dt a;omega
 have O:=bJ (b:=UB) (by decide) c;have M:=cD c;have K:=p t (by omega);have Q:t< 32768:=K;rw[sU.eq_1];refine ae (r_c 4 (zp c D (by omega) (by omega)) ?_);refine a_z ?_;refine ap rfl (fun h=>?_) (fun h=>?_)
 have y:D≤c:=by
  have:=of_decide_eq_true h;unfold eg at this;split at this <;> omega
 refine am (aj (r_c 4 (pk c D (-1) (c- D) (.inr rfl) (by omega) (by omega) (by omega)) ?_));refine a_z ?_;refine r_m 3 ?_;refine a_z ?_;refine⟨(c- D,t+1),by simp only;omega,⟨by simp only;rw[Nat.add_mul];omega,by simp only;omega⟩,?_⟩;simp only[sU.eq_1];exact s_e []
 have q:c< D:=by
  have:=of_decide_eq_false h;unfold eg at this;split at this;omega;split at this <;> omega
 refine ay ⟨(c,t),⟨?_,?_⟩,?_⟩;simp only;rw[←hv,Nat.add_mul_mod_self_right,Nat.mod_eq_of_lt q];simp only;rw[←hv,Nat.add_mul_div_right _ _ hD,Nat.div_eq_of_lt q,Nat.zero_add];simp only[sU.eq_1];exact s_e [];rintro⟨c,t⟩ ⟨h1,G⟩;simp only at h1 G;subst h1 G;rw[sU.eq_1];refine r_z 4 ?_;refine ai (Fin.many ⟨_,_,rfl,rfl,⟨_,_,rfl,rfl,rfl⟩⟩ (nle rfl) ?_);exact ah (ak aD (ag _)) (ah (ak aD (eF _)) av)
end Go.Proofs.YtkhclghbcicapaaGreatDoor
