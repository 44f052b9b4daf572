/- Part X25 of the proof. -/
import Derived.Test.YtjgokhkahkmpbaaGreatDoorX24
set_option linter.all false
namespace Go.Proofs.YtjgokhkahkmpbaaGreatDoor
open Go.Abs
set_option maxRecDepth 20000
def BE(a:Nat)(b:Nat):Nat→AState
 |i=>⟨[(0,.arr (iE (zd a))),(1,.arr (iE (zd b))),(5,i64 i)],[],1,40⟩
theorem vE{n i d:Nat}(h:(az UB n)[i]?=some d):(zd n)[(az UB n).length- 1- i]?=some d:=by
 have hi:i< (az UB n).length:=(List.getElem?_eq_some_iff.1 h).1;unfold zd;rw[List.getElem?_reverse (by omega),show(az UB n).length- 1- ((az UB n).length- 1- i)=i by omega];exact h
theorem yP(a b:Nat)(ha:(zd a).length≤281474976710656)(hb:(zd b).length≤281474976710656):FS 177 [.arr (iE (zd a)),.arr (iE (zd b))] (i64 (ew a b)):=by
 have hza:=cI a;have hzb:=cI b;refine f_c Tryz.func177 ?_;refine r_z 1 ?_;refine ac (r_z 5 ?_);refine aq rfl (fun h=>?_) (fun h=>?_);have hne:(zd a).length≠(zd b).length:=by simp at h;omega
 refine ac (r_z 5 ?_);refine aq rfl (fun h1=>?_) (fun h1=>?_);refine r_z 1 ?_;refine aj (aN rfl ?_ (ag _));have hl:(zd a).length< (zd b).length:=by simpa using h1
 rw[lI];rfl;have:=jm (b:=UB) (by decide) (show(az UB a).length< (az UB b).length by omega);omega;refine ak (r_z 1 ?_);refine aj (aN rfl ?_ (ag _));have hl:(zd b).length< (zd a).length:=by simp at h1;omega
 rw[mZ];rfl;have:=jm (b:=UB) (by decide) (show(az UB b).length< (az UB a).length by omega);omega;have heq:(az UB a).length=(az UB b).length:=by simp at h;omega
 refine ak (ac (r_z 1 ?_));refine aI (BE a b) (fun _=>a=b) ?_ ?_;refine am (aC (BE a b) (fun i=>(az UB a).length- i) (fun i=>i≤(az UB a).length∧(az UB a).drop ((az UB a).length- i)=(az UB b).drop ((az UB a).length- i)) 0 ⟨Nat.zero_le _,by rw[Nat.sub_zero,List.drop_length,heq,List.drop_length]⟩ ?_ ?_);simp only[BE.eq_1];exact s_e [];rintro i ⟨hi,hd⟩;rw[BE.eq_1];refine ac (r_z 4 ?_);refine aq rfl (fun h=>?_) (fun h=>?_);have hlt:i< (az UB a).length:=by simp at h;omega
 obtain⟨k,hk⟩:∃k,k=(az UB a).length- 1- i:=⟨_,rfl⟩;have hk1:(az UB a).length- i=k+1:=by omega
 rw[hk1] at hd;obtain⟨x,hx⟩:∃x,(az UB a)[k]?=some x:=⟨_,List.getElem?_eq_getElem (by omega)⟩;obtain⟨y,hy⟩:∃y,(az UB b)[k]?=some y:=⟨_,List.getElem?_eq_getElem (by omega)⟩
 have hx':(iE (zd a))[((i:Nat):Int).toNat]?=some [i64 x]:=by
  have:=vE hx;rw[show(az UB a).length- 1- k=i by omega] at this;exact jW this
 have hy':(iE (zd b))[((i:Nat):Int).toNat]?=some [i64 y]:=by
  have:=vE hy;rw[show(az UB b).length- 1- k=i by omega] at this;exact jW this
 refine ak (ac (am (ac (ac (r_d hmix 9 ?_)))));refine a_2 ?_;refine i_x hx' ?_;refine l_1 hx' ?_;refine a_2 ?_;refine i_x hy' ?_;refine l_1 hy' ?_;refine a_1 ?_;refine an (n_k ?_);refine aq rfl (fun h1=>?_) (fun h1=>?_);refine r_z 1 ?_;refine aj (aN rfl ?_ (ag _));have hxy:x< y:=by simpa using h1
 have:=mM (fun d hd=>dn (by decide) a d hd) hx hy hd hxy;rw[bt (by decide),bt (by decide)] at this;rw[lI (by omega)];rfl;refine ak (ac (r_d hmix 9 ?_));refine a_2 ?_;refine i_x hx' ?_;refine l_1 hx' ?_;refine a_2 ?_;refine i_x hy' ?_;refine l_1 hy' ?_;refine a_1 ?_;refine an (n_k ?_);refine aq rfl (fun h2=>?_) (fun h2=>?_);refine r_z 1 ?_;refine aj (aN rfl ?_ (ag _));have hxy:y< x:=by simpa using h2
 have:=mM (fun d hd=>dn (by decide) b d hd) hy hx hd.symm hxy;rw[bt (by decide),bt (by decide)] at this;rw[mZ (by omega)];rfl;have hxy:x=y:=by simp at h1 h2;omega
 subst hxy;refine ak (r_m 3 ?_);refine a_z ?_;refine⟨i+1,by omega,⟨by omega,?_⟩,?_⟩;rw[show(az UB a).length- (i+1)=k by omega,fH hx,fH hy,hd];simp only[BE.eq_1];exact s_e [];have hge:i=(az UB a).length:=by simp at h;omega
 refine aA ⟨i,?_,?_⟩;subst hge;rw[Nat.sub_self,List.drop_zero,List.drop_zero] at hd;rw[←bt (b:=UB) (by decide) a,←bt (b:=UB) (by decide) b,hd];simp only[BE.eq_1];exact s_e [];rintro i rfl;rw[BE.eq_1];refine r_z 1 ?_;refine aj (aN rfl ?_ (ag _));rw[C2 rfl];rfl
def bothS(a:Nat)(b:Nat)(k:Int)(N:Nat):Ln×Int→AState
 |(s,c)=>⟨[(0,.arr (iE (zd a))),(1,.arr (iE (zd b))),(2,i64 k),(7,i64 N),(8,.lsl 1 0 N (some N) 1),(9,i64 c),(10,i64 s.length)],[(1,some ⟨3,1,iE (List.replicate (N- s.length) 0++s.reverse)⟩)],2,51⟩
def F3(a:Nat)(b:Nat)(k:Int)(N:Nat)(s:Ln):Int×Int→AState
 |(x,c)=>⟨[(0,.arr (iE (zd a))),(1,.arr (iE (zd b))),(2,i64 k),(7,i64 N),(8,.lsl 1 0 N (some N) 1),(9,i64 c),(10,i64 s.length),(11,i64 x)],[(1,some ⟨3,1,iE (List.replicate (N- s.length) 0++s.reverse)⟩)],2,51⟩
theorem pp(a b:Nat)(k:Int)(r:Nat)(hk:k=1∨k= -1)(hr:(r:Int)=a+k* b)(ha:(zd a).length≤17592186044416)(hb:(zd b).length≤17592186044416):FS 176 [.arr (iE (zd a)),.arr (iE (zd b)),i64 k] (.arr (iE (zd r))):=by
 have hza:=cI a;have hzb:=cI b;obtain⟨N,hN⟩:∃N,N=max (zd a).length (zd b).length+1:=⟨_,rfl⟩;refine f_c Tryz.func176 ?_;refine r_z 1 ?_;refine r_c 5 (AU (zd a) (zd b)) ?_;refine a_z ?_;have hNI:((max (zd a).length (zd b).length:Nat):Int)+1=(N:Int):=by omega
 refine s_r 3 ?_;refine a_1 ?_;refine o_1 (.makeSlice (congrArg (fun z=>some (AV.v (.int .i64 z))) hNI) (congrArg (fun z=>some (AV.v (.int .i64 z))) hNI) te_45.h TZ.h rfl TB.h (by first|omega|(simp;done)|(simp;omega)) (by first|omega|(simp;done)|(simp;omega)) (by unfold maxLen;first|omega|(simp;done)|(simp;omega))) ?_;refine a_z ?_;refine r_z 1 ?_;refine ac (r_z 1 ?_)
 have hdl:=eH (b:=UB) (by decide) (n:=r) (k:=N) (by
  have h1:=fv (b:=UB) (dn (by decide) a);have h2:=fv (b:=UB) (dn (by decide) b);rw[bt (by decide)] at h1 h2;have h3:UB^ (az UB a).length≤UB^ (N- 1):=Nat.pow_le_pow_right (by decide) (by omega);have h4:UB^ (az UB b).length≤UB^ (N- 1):=Nat.pow_le_pow_right (by decide) (by omega);have h5:UB^ N=UB^ (N- 1) * UB:=by rw[←Nat.pow_succ];congr 1;omega
  rw[h5];show r< UB^ (N- 1) * 32768;rcases hk with rfl|rfl <;> omega)
 have hrN:r< UB^ N:=by
  have h1:=fv (b:=UB) (dn (by decide) r);rw[bt (by decide)] at h1;exact Nat.lt_of_lt_of_le h1 (Nat.pow_le_pow_right (by decide) hdl)
 refine aI (fun s:Ln=>⟨[(8,.lsl 1 0 N (some N) 1)],[(1,some ⟨3,1,iE s.reverse⟩)],2,51⟩) (fun s=>s.length=N∧(∀d∈s,d< UB)∧ofD UB s=r) ?_ ?_;refine am (aC (bothS a b k N) (fun x=>N- x.1.length) (fun x=>x.1.length≤N∧(∀d∈x.1,d< UB)∧(x.2= -1∨x.2=0∨x.2=1)∧((ofD UB x.1:Nat):Int)+((UB^ x.1.length:Nat):Int) * x.2=(ofD UB ((az UB a).take x.1.length):Nat)+k* (ofD UB ((az UB b).take x.1.length):Nat)) ([],0) ⟨by simp,by simp,by simp,by simp[ofD]⟩ ?_ ?_);simp only[bothS.eq_1];exact s_e [(1,8)];rintro⟨s,c⟩ ⟨hs,hd,hc,hval⟩;simp only at hs hd hc hval;simp only[bothS.eq_1];refine ac (r_z 3 ?_);refine aq rfl (fun h=>?_) (fun h=>?_);have hlt:s.length< N:=by simpa using h
 refine ak ?_;obtain⟨x,hx⟩:∃x,x=(az UB a)[s.length]?.getD 0:=⟨_,rfl⟩;obtain⟨y,hy⟩:∃y,y=(az UB b)[s.length]?.getD 0:=⟨_,rfl⟩
 have hx1:x< 32768:=by
  rw[hx];cases hh:(az UB a)[s.length]? with
  |none=>decide
  |some d=>exact cJ (by decide) hh
 have hy1:y< 32768:=by
  rw[hy];cases hh:(az UB b)[s.length]? with
  |none=>decide
  |some d=>exact cJ (by decide) hh
 have hda:=tE (zd a) s.length (by omega);have hdb:=tE (zd b) s.length (by omega);unfold zd at hda hdb;rw[List.reverse_reverse,←hx] at hda;rw[List.reverse_reverse,←hy] at hdb;have hky: -32768< k* y∧k* y< 32768:=by rcases hk with rfl|rfl <;> omega
 obtain⟨X,hX⟩:∃X:Int,X=x+k* y+c:=⟨_,rfl⟩;have hXr: -32768≤X∧X≤65536:=by omega
 refine ac (am (r_c 12 (hda) ?_));refine c_s (hdb) ?_;refine a_z ?_;refine r_z 1 ?_;refine aU (F3 a b k N s) (fun v=>v.1=(if X< 0 then X+32768 else X)∧v.2=(if X< 0 then -1 else 0)) ?_ ?_;refine r_z 2 ?_;refine aq rfl (fun h1=>?_) (fun h1=>?_);have hX0:X< 0:=by rw[hX];simpa using h1
 refine r_z 3 ?_;refine r_m 1 ?_;refine a_z ?_;refine⟨(X+32768,-1),⟨by rw[if_pos hX0],by rw[if_pos hX0]⟩,?_⟩;simp only[F3.eq_1];exact s_x [] (fun hs=>e_38) (fun hs=>e_39) e_37;have hX0:¬X< 0:=by rw[hX];simpa using h1
 refine ak ⟨(X,0),⟨by rw[if_neg hX0],by rw[if_neg hX0]⟩,?_⟩;simp only[F3.eq_1];exact s_x [] (fun hs=>e_38) (fun hs=>e_39) e_37;rintro⟨X1,c1⟩ ⟨hX1,hc1⟩;simp only at hX1 hc1;rw[F3.eq_1];refine aU (F3 a b k N s) (fun v=>v.1=X % 32768∧v.2=X/ 32768) ?_ ?_;refine r_z 2 ?_;refine aq rfl (fun h1=>?_) (fun h1=>?_);have h2:32768≤X1:=by simpa using h1
 have hX1r:X1≤65536:=by rw[hX1];split <;> omega
 refine r_z 3 ?_;refine r_m 1 ?_;refine a_z ?_;have hX0:¬X< 0:=by intro h0;rw[if_pos h0] at hX1;omega
 rw[if_neg hX0] at hX1;refine⟨(X1- 32768,1),⟨by simp only;omega,by simp only;omega⟩,?_⟩;simp only[F3.eq_1];exact s_e []
 ·have h2:X1< 32768:=by simp at h1;omega
  refine ak ⟨(X1,c1),⟨by rw[hX1] at h2⊢;simp only;split <;> rename_i h3 <;> simp only[h3,if_true,if_false] at h2 <;> omega,by rw[hX1] at h2;rw[hc1];simp only;split <;> rename_i h3 <;> simp only[h3,if_true,if_false] at h2 <;> omega⟩,?_⟩;simp only[F3.eq_1];exact s_e []
 rintro⟨X2,c2⟩ ⟨hX2,hc2⟩;simp only at hX2 hc2;rw[F3.eq_1];obtain⟨d,hdX⟩:∃d:Nat,X2=d:=⟨X2.toNat,by omega⟩;have hd1:d< 32768:=by omega
 subst hdX;have hlen:(List.replicate (N- s.length) 0++s.reverse).length=N:=by simp;omega
 have hrep:List.replicate (N- s.length) 0=List.replicate (N- (s.length+1)) 0++[0]:=by
  rw[show N- s.length=(N- (s.length+1))+1 by omega,List.replicate_succ']
 have hget:(iE (List.replicate (N- s.length) 0++s.reverse))[0+((N:Int)- 1- s.length).toNat]?=some [i64 0]:=by
  rw[show 0+((N:Int)- 1- s.length).toNat=N- (s.length+1) by omega];refine jW ?_;rw[hrep,List.append_assoc];exact pc _ _ _ _ (by simp)
 have hset:(iE (List.replicate (N- s.length) 0++s.reverse)).set (0+((N:Int)- 1- s.length).toNat) [i64 d]=iE (List.replicate (N- (s++[d]).length) 0++(s++[d]).reverse):=by
  rw[show 0+((N:Int)- 1- s.length).toNat=N- (s.length+1) by omega,n8,hrep,List.append_assoc];simp only[List.singleton_append,List.length_append,List.length_cons,List.length_nil,List.reverse_append,List.reverse_cons,List.reverse_nil,List.nil_append];rw[oz _ _ _ _ _ (by simp)];simp
 refine r_m 8 ?_;refine a_7 ?_;refine fk (.store rfl rfl hget rfl rfl rfl TS.h (nle rfl)) ?_;refine an ?_;refine r_m 3 ?_;refine a_z ?_;refine⟨(s++[d],c2),by simp;omega,⟨by simp;omega,?_,by simp only;omega,?_⟩,?_⟩;intro e he;rcases List.mem_append.1 he with he|he
 exact hd e he;simp at he;subst he;exact hd1;simp only[List.length_append,List.length_cons,List.length_nil,Nat.zero_add];rw[gI,eE,eE,←hx,←hy,Nat.pow_succ];obtain⟨B,hB⟩:∃B,B=UB^ s.length:=⟨_,rfl⟩;rw[←hB] at hval⊢;have hXX:X=32768* c2+d:=by omega
 have hBX:(B:Int) * X=B* x+k* (B* y)+B* c:=by
  rw[hX,Int.mul_add,Int.mul_add,Int.mul_left_comm]
 rw[hXX,Int.mul_add] at hBX;have e1:((B* 32768:Nat):Int) * c2=B* (32768* c2):=by rw[Int.natCast_mul,Int.mul_assoc];rfl
 have e2:k* ((ofD UB ((az UB b).take s.length)+B* y:Nat):Int)=k* (ofD UB ((az UB b).take s.length):Nat)+k* (B* y):=by
  rw[Int.natCast_add,Int.mul_add,Int.natCast_mul]
 show((ofD UB s+B* d:Nat):Int)+((B* 32768:Nat):Int) * c2=_;rw[e1,e2,Int.natCast_add,Int.natCast_add,Int.natCast_mul,Int.natCast_mul];omega;simp only[bothS.eq_1];refine s_x [] (fun hs=>db) (fun hs=>?_) e_40
 ·repeat' (first|exact aD|refine h_c ?_ ?_|exact aM hs hset (dq _)|exact bG)
 have hge:s.length=N:=by simp at h;omega
 refine aA ⟨s,⟨hge,hd,?_⟩,?_⟩;rw[hge,List.take_of_length_le (by omega),List.take_of_length_le (by omega),bt (by decide),bt (by decide),←hr] at hval;have hsl:=fv hd;rw[hge] at hsl;obtain⟨B,hB⟩:∃B,B=UB^ N:=⟨_,rfl⟩;rw[←hB] at hval hsl hrN;rcases hc with rfl|rfl|rfl <;> omega
 have e:iE (List.replicate (N- s.length) 0++s.reverse)=iE s.reverse:=by rw[hge];simp
 refine s_x [] (fun hs=>db) (fun hs=>e_41) ?_
 ·repeat' (first|exact ShrL.nil|refine ShrL.cons rfl rfl rfl rfl (by first|(exact congrArg List.length e)|rfl|(simp;done)|(simp <;> omega)) ?_)
 rintro s ⟨hs,hd,hval⟩;have hd':∀d∈s.reverse,d< UB:=fun d h=>hd d (List.mem_reverse.1 h);have hst:=iy s.reverse (by simp;omega);rw[fE hd',show hv s.reverse=r by unfold hv;rw[List.reverse_reverse];assumption] at hst;have hfull:((iE s.reverse).drop 0).take N=iE s.reverse:=by rw[List.drop_zero,List.take_of_length_le (by simp;omega)]
 refine s_r 3 ?_;refine a_1 ?_;refine o_1 (.callS1 rfl rfl rfl (.shut rfl d_n (.nil)) rfl ((by rw[hfull];exact hst))) ?_;refine a_z ?_;exact aj (t_e (eK _))
def zl(z:Int):Prop:=bl z.natAbs≤8796093022208
theorem vD{z:Int}(h:zl z):(zd z.natAbs).length≤17592186044416:=by
 have:=bu (b:=UB) (by decide) z.natAbs;rw[cI];unfold zl at h;omega
theorem vS{x y:Int}(h:sgZ x=sgZ y)(hx:x≠0):(x+y).natAbs=x.natAbs+y.natAbs∧(x+y≠0→sgZ x=sgZ (x+y)):=by
 rcases cL x with⟨a,b⟩|⟨a,b⟩|⟨a,b⟩<;> rcases cL y with⟨c,d⟩|⟨c,d⟩|⟨c,d⟩<;> rcases cL (x+y) with⟨e,f⟩|⟨e,f⟩|⟨e,f⟩<;> rw[a,c] at h <;> rw[a,e]<;> first|omega|(constructor <;> omega)
theorem sG{x y:Int}(h:sgZ x≠sgZ y)(hx:x≠0)(hy:y≠0)(hg:y.natAbs≤x.natAbs):(x+y).natAbs=x.natAbs- y.natAbs∧(x+y≠0→sgZ x=sgZ (x+y)):=by
 rcases cL x with⟨a,b⟩|⟨a,b⟩|⟨a,b⟩<;> rcases cL y with⟨c,d⟩|⟨c,d⟩|⟨c,d⟩<;> rcases cL (x+y) with⟨e,f⟩|⟨e,f⟩|⟨e,f⟩<;> rw[a,c] at h <;> rw[a,e]<;> first|omega|(constructor <;> omega)
theorem CP(x y:Int)(hx:zl x)(hy:zl y):FS 122 [.agg (zZ x),.agg (zZ y)] (.agg (zZ (x+y))):=by
 have hlx:=vD hx;have hly:=vD hy
 have bound:∀r:Nat,r≤x.natAbs+y.natAbs→(zd r).length≤281474976710656:=by
  intro r hr;have h1:=bu (b:=UB) (by decide) r;have h2:=dw hr;have h3:=xq x.natAbs y.natAbs;unfold zl at hx hy;rw[cI];omega
 refine f_c Tryz.func122 ?_;refine r_z 3 ?_;refine ac (r_z 3 ?_);refine aq rfl (fun h=>?_) (fun h=>?_)
 have h0:x=0:=by
  have:sgZ x=0:=by simpa using h
  rcases cL x with⟨a,b⟩|⟨a,b⟩|⟨a,b⟩<;> omega
 refine r_z 2 ?_;refine aj (dt rfl rfl rfl TG.h TS.h (nle rfl) ?_ ?_);rw[h0,Int.zero_add];rfl;exact cP _;have hx0:x≠0:=by rintro rfl;simp[sgZ] at h
 refine ak (ac (r_z 3 ?_));refine aq rfl (fun h1=>?_) (fun h1=>?_)
 have h0:y=0:=by
  have:sgZ y=0:=by simpa using h1
  rcases cL y with⟨a,b⟩|⟨a,b⟩|⟨a,b⟩<;> omega
 refine r_z 2 ?_;refine aj (dt rfl rfl rfl TG.h TS.h (nle rfl) ?_ ?_);rw[h0,Int.add_zero];rfl;exact cP _;have hy0:y≠0:=by rintro rfl;simp[sgZ] at h1
 refine ak (ac (r_z 5 ?_));refine aq rfl (fun h2=>?_) (fun h2=>?_);have hs:sgZ x=sgZ y:=by simpa using h2
 obtain⟨e1,e2⟩:=vS hs hx0;refine ac (r_d hmix 9 ?_);refine c_s (pp x.natAbs y.natAbs 1 (x.natAbs+y.natAbs) (.inl rfl) (by omega) hlx hly) ?_;refine c_s (jN (sgZ x) (zd (x.natAbs+y.natAbs)) (x+y) (bound _ (Nat.le_refl _)) (iV _) (by rw[jM,e1]) e2) ?_;refine a_1 ?_;refine an (n_k ?_);exact aj (c_e (cP _));have hs:sgZ x≠sgZ y:=by simpa using h2
 refine ak (ac (r_c 6 (yP x.natAbs y.natAbs (by omega) (by omega)) ?_));refine a_z ?_;refine aq rfl (fun h3=>?_) (fun h3=>?_)
 have hge:y.natAbs≤x.natAbs:=by
  have:=of_decide_eq_true h3;unfold ew at this;split at this;omega;omega
 obtain⟨e1,e2⟩:=sG hs hx0 hy0 hge;refine ac (r_d hmix 9 ?_);refine c_s (pp x.natAbs y.natAbs (-1) (x.natAbs- y.natAbs) (.inr rfl) (by omega) hlx hly) ?_;refine c_s (jN (sgZ x) (zd (x.natAbs- y.natAbs)) (x+y) (bound _ (by omega)) (iV _) (by rw[jM,e1]) e2) ?_;refine a_1 ?_;refine an (n_k ?_);exact aj (c_e (cP _))
 have hlt:x.natAbs≤y.natAbs:=by
  have:=of_decide_eq_false h3;unfold ew at this;split at this;omega;split at this <;> omega
 obtain⟨e1,e2⟩:=sG (fun h=>hs h.symm) hy0 hx0 hlt;rw[Int.add_comm] at e1 e2;refine ak (ac (r_d hmix 9 ?_));refine c_s (pp y.natAbs x.natAbs (-1) (y.natAbs- x.natAbs) (.inr rfl) (by omega) hly hlx) ?_;refine c_s (jN (sgZ y) (zd (y.natAbs- x.natAbs)) (x+y) (bound _ (by omega)) (iV _) (by rw[jM,e1]) e2) ?_;refine a_1 ?_;refine an (n_k ?_);exact aj (c_e (cP _))
theorem zl_neg{z:Int}(h:zl z):zl (-z):=by unfold zl at *;rwa[Int.natAbs_neg]
theorem fs_ZSub(x y:Int)(hx:zl x)(hy:zl y):FS 115 [.agg (zZ x),.agg (zZ y)] (.agg (zZ (x- y))):=by
 have hs:=CP x (-y) hx (zl_neg hy);rw[←Int.sub_eq_add_neg] at hs;refine f_c Tryz.func115 ?_;refine r_z 3 ?_;refine ac (r_d hmix 5 ?_);refine c_s (rN y) ?_;refine c_s (hs) ?_;refine a_1 ?_;refine an (n_k ?_);exact aj (c_e (cP _))
theorem fs_ZCmp(x y:Int)(hx:zl x)(hy:zl y):FS 48 [.agg (zZ x),.agg (zZ y)] (i64 (ew x y)):=by
 have e:ew x y=sgZ (x- y):=by
  unfold ew sgZ;split <;> split <;>(try split)<;>(try split)<;> omega
 rw[e];refine f_c Tryz.func48 ?_;refine r_z 3 ?_;refine r_c 5 (fs_ZSub x y hx hy) ?_;refine a_z ?_;exact aj (t_e (ag _))
def Ab(l:Ln):Nat→AState
 |i=>⟨[(0,.arr (iE l)),(3,i64 (hv (l.take i))),(4,i64 i)],[],1,19⟩
theorem AG{l:Ln}(hd:∀d∈l,d< UB)(hl:l.length≤4)(i:Nat):hv (l.take i)< 1152921504606846976:=by
 have h1:=CE (l:=l.take i) fun d h=>hd d (List.mem_of_mem_take h);have h2:(l.take i).length≤4:=by rw[List.length_take];omega
 exact Nat.lt_of_lt_of_le h1 (Nat.pow_le_pow_right (by decide) h2)
theorem tw(l:Ln)(hl:l.length≤4)(hd:∀d∈l,d< UB):FS 178 [.arr (iE l)] (i64 (hv l)):=by
 refine f_c Tryz.func178 ?_;refine r_z 1 ?_;refine r_z 1 ?_;refine ac (r_z 1 ?_);refine aI (Ab l) (fun i=>i=l.length) ?_ ?_;refine am (aC (Ab l) (fun i=>l.length- i) (fun i=>i≤l.length) 0 (Nat.zero_le _) ?_ ?_);simp only[Ab.eq_1];exact s_e [];intro i hi;rw[Ab.eq_1];refine ac (r_z 4 ?_);refine aq rfl (fun h=>?_) (fun h=>?_);have hlt:i< l.length:=by simpa using h
 obtain⟨d,hdi⟩:∃d,l[i]?=some d:=⟨_,List.getElem?_eq_getElem hlt⟩;have hd1:=hd d (List.mem_of_getElem? hdi);have hdi':(iE l)[((i:Nat):Int).toNat]?=some [i64 d]:=jW hdi;have hsn:=oX (l.take i) d;rw[←dA hdi] at hsn;have hb:=AG hd hl (i+1);obtain⟨V,hV⟩:∃V,V=hv (l.take i):=⟨_,rfl⟩;rw[←hV] at hsn⊢;have hsn':hv (l.take (i+1))=V* 32768+d:=hsn;refine ak (ac (am (r_m 8 ?_)));refine a_4 ?_;refine i_x hdi' ?_;refine l_1 hdi' ?_;refine a_z ?_;refine r_m 3 ?_;refine a_z ?_;refine⟨i+1,by omega,hlt,?_⟩;simp only[Ab.eq_1];refine s_x [] (fun hs=>?_) (fun hs=>?_) ?_
 ·repeat' (first|exact aH|refine ao rfl ?_ ?_|exact aY|(refine Cv.loE hs ?_ (ag _);first|rfl|(simp[i64,u64,u32,bln,hsn'];done)|(simp[i64,u64,u32,bln,hsn']<;> omega)))
 ·repeat' (first|exact aD|refine h_c ?_ ?_|exact bG|(refine aM hs ?_ (dq _);first|(simp[n8,mS,ja,hsn'];done)|(simp[iE,i64,ofV,hsn'];done))|refine aw ?_|exact ax|refine af ?_ ?_|exact aY|(refine Cv.loE hs ?_ (ag _);first|(simp[i64,u64,u32,bln,hsn'];done)|(simp[i64,u64,u32,bln,hsn']<;> omega)))
 ·repeat' (first|exact ShrL.nil|refine ShrL.cons rfl rfl rfl rfl (by first|rfl|(simp;done)|(simp[hsn']<;> omega)) ?_)
 have hge:i=l.length:=by simp at h;omega
 refine aA ⟨i,hge,?_⟩;exact s_e [];rintro i rfl;rw[Ab.eq_1,List.take_length];refine r_z 2 ?_;refine aj (aN rfl rfl (ag _))
def D8(s:Int):Int×Ln→AState
 |(n,l)=>⟨[(0,i64 n),(2,.lptr 1 0 0),(3,i64 s),(4,.arr (iE l))],[(1,some ⟨47,2,[[i64 0,.emp]]⟩)],2,25⟩
theorem lE(n:Int)(h: -9223372036854775808≤n∧n≤9223372036854775807):FS 117 [i64 n] (.agg (zZ n)):=by
 obtain⟨s,hs⟩:∃s:Int,s=if n< 0 then -1 else 1:=⟨_,rfl⟩
 have hsz:n≠0→s=sgZ n:=by
  intro h0;rw[hs];unfold sgZ;rw[if_neg h0]
 refine f_c Tryz.func117 ?_;refine r_z 1 ?_;refine r_z 1 ?_;refine aU (fun _:Unit=>⟨[(0,i64 n),(2,.lptr 1 0 0),(3,i64 s)],[(1,some ⟨47,2,[[i64 0,.emp]]⟩)],2,25⟩) (fun _=>True) ?_ ?_;refine r_z 2 ?_;refine aq rfl (fun h1=>?_) (fun h1=>?_);have hn:n< 0:=by simpa using h1
 rw[hs,if_pos hn];refine r_m 1 ?_;refine a_z ?_;refine⟨(),trivial,?_⟩;exact s_e [];have hn:¬n< 0:=by simpa using h1
 rw[hs,if_neg hn];refine ak ⟨(),trivial,?_⟩;exact s_e [];rintro _ _;refine r_z 1 ?_;refine aU (fun l:Ln=>D8 s (0,l)) (fun l=>l.length≤10∧(∀d∈l,d< UB)∧hv l=n.natAbs) ?_ ?_;refine am (aC (D8 s) (fun x=>x.1.natAbs) (fun x=>(-9223372036854775808≤x.1∧x.1≤9223372036854775807)∧(∀d∈x.2,d< UB)∧n.natAbs=hv x.2+UB^ x.2.length* x.1.natAbs∧x.2.length≤5) (n,[]) ⟨h,by simp,by simp[tu],by simp⟩ ?_ ?_);simp only[D8.eq_1];exact s_e [(1,2)];rintro⟨m,l⟩ ⟨hm,hd,hval,hl6⟩;simp only at hm hd hval hl6;rw[D8.eq_1];refine ac (r_z 2 ?_);refine aq rfl (fun h=>?_) (fun h=>?_)
 ·have hm0:m≠0:=by simpa using h
  have hl:l.length≤4:=by
   refine Nat.le_of_not_lt fun h5=>?_;have h6:UB^ 5≤UB^ l.length:=Nat.pow_le_pow_right (by decide) h5;have h7:UB^ l.length* 1≤UB^ l.length* m.natAbs:=Nat.mul_le_mul_left _ (by omega);have h8:UB^ 5=37778931862957161709568:=by decide
   omega
  obtain⟨d,hdm⟩:∃d,d=m.natAbs % 32768:=⟨_,rfl⟩;have hd1:d< 32768:=by omega
  have hr:(m.tmod 32768).natAbs=d:=by rw[Int.natAbs_tmod,hdm];rfl
  have hq:(m.tdiv 32768).natAbs=m.natAbs/ 32768:=by rw[Int.natAbs_tdiv];rfl
  have hlq:m.natAbs/ 32768< m.natAbs:=Nat.div_lt_self (by omega) (by decide);have hdm2:=Nat.div_add_mod m.natAbs 32768;refine ak (am (s_r 3 ?_));refine a_1 ?_;refine o_0 (.bin rfl rfl (D3 (by decide))) ?_;refine a_z ?_;refine aU (fun _:Unit=>⟨[(0,i64 m),(2,.lptr 1 0 0),(3,i64 s),(4,.arr (iE l)),(5,i64 d)],[(1,some ⟨47,2,[[i64 0,.emp]]⟩)],2,25⟩) (fun _=>True) ?_ ?_;refine r_z 2 ?_;refine aq rfl (fun h1=>?_) (fun h1=>?_);have hneg:m.tmod 32768< 0:=by simpa using h1
  refine r_m 3 ?_;refine a_z ?_;have e: -m.tmod 32768=d:=by omega
  refine⟨(),trivial,?_⟩;have:=(congrArg (fun z=>AV.v (.int .i64 z)) e);exact s_f [];have hneg:¬m.tmod 32768< 0:=by simpa using h1
  have e:m.tmod 32768=d:=by omega
  refine ak ⟨(),trivial,?_⟩;have:=(congrArg (fun z=>AV.v (.int .i64 z)) e);exact s_f [];rintro _ _;refine s_r 5 ?_;refine a_3 ?_;refine o_2 (.append_l rfl rfl rfl te_45.h rfl rfl rfl rfl rfl d_o (by first|exact eI _|exact eF _|exact ec _|exact eN _|exact eo _|assumption|rfl|simp) (by first|rfl|exact eI _|exact eF _|exact ec _|exact eN _|exact eo _|simp) rfl (.arr (lA _)) TZ.h rfl TB.h d_o (by first|(simp[maxLen];done)|(simp[maxLen];omega))) ?_;refine a_z ?_;refine r_m 3 ?_;refine a_1 ?_;refine o_0 (.bin rfl rfl (qM (by decide) (by omega))) ?_;refine a_z ?_;refine⟨(m.tdiv 32768,d::l),by simp only;omega,⟨by simp only;omega,?_,?_,by simp;omega⟩,?_⟩;intro e he;rcases List.mem_cons.1 he with rfl|he
  exact hd1;exact hd e he;simp only[oY,List.length_cons];rw[hval,hq,Nat.pow_succ,Nat.mul_assoc,Nat.add_assoc,←Nat.mul_add];congr 2;show m.natAbs=d+32768* (m.natAbs/ 32768);omega;simp only[D8.eq_1];have e:[[i64 d]]++iE l=iE (d::l):=rfl;refine s_x [] (fun hs=>?_) (fun hs=>?_)
  ·repeat' (first|exact aH|refine ao rfl ?_ ?_|exact Cv.sealE hs rfl (aP rfl) e (by simp;omega) (dq _)|exact aY)
  ·repeat' (first|exact aD|refine h_c ?_ ?_|exact bG|refine aw ?_|exact ax|refine af ?_ ?_|exact Cv.sealE hs rfl (aP rfl) e (by simp;omega) (dq _)|exact aY)
 have hm0:m=0:=by simpa using h
 subst hm0;refine aA ⟨l,⟨by omega,hd,by simpa using hval.symm⟩,?_⟩;simp only[D8.eq_1];exact s_e [];rintro l ⟨hl,hd,hval⟩;rw[D8.eq_1];refine r_c 4 (jN s l n (by omega) hd hval hsz) ?_;refine a_z ?_;exact aj (c_e (cP _))
theorem Ce{o:Ln}{j d:Nat}(h:o[j]?=some d):o.reverse[o.length- 1- j]?=some d:=by
 have hj:j< o.length:=(List.getElem?_eq_some_iff.1 h).1;rw[List.getElem?_reverse (by omega),show o.length- 1- (o.length- 1- j)=j by omega];exact h
theorem Cd{o:Ln}{j v:Nat}(hj:j< o.length):o.reverse.set (o.length- 1- j) v=(o.set j v).reverse:=by
 apply List.ext_getElem?;intro i;by_cases hi:i< o.length;rw[List.getElem?_reverse (by simpa using hi),List.getElem?_set,List.getElem?_set,List.length_reverse,List.length_set];by_cases h:o.length- 1- j=i;rw[if_pos h,if_pos (by omega),if_pos (by omega),if_pos (by omega)];rw[if_neg h,if_neg (by omega),List.getElem?_reverse hi];rw[List.getElem?_eq_none (by simpa using hi),List.getElem?_eq_none (by simpa using hi)]
def zmS(x:Int)(y:Int):Ln×Nat→AState
 |(o,i)=>⟨[(2,.lptr 1 0 0),(3,.lptr 2 0 0),(4,.lptr 3 0 0),(5,.lsl 4 0 ((zd x.natAbs).length+(zd y.natAbs).length) (some ((zd x.natAbs).length+(zd y.natAbs).length)) 1),(6,i64 (((zd x.natAbs).length:Int)- 1- i))],
  [(1,some ⟨47,2,[zZ x]⟩),(2,some ⟨47,2,[zZ y]⟩),(3,some ⟨47,2,[[i64 0,.emp]]⟩),(4,some ⟨3,1,iE o.reverse⟩)],5,76⟩
def zmT(x:Int)(y:Int)(i:Nat):Ln×Nat×Nat→AState
 |(o,k,c)=>⟨[(2,.lptr 1 0 0),(3,.lptr 2 0 0),(4,.lptr 3 0 0),(5,.lsl 4 0 ((zd x.natAbs).length+(zd y.natAbs).length) (some ((zd x.natAbs).length+(zd y.natAbs).length)) 1),(6,i64 (((zd x.natAbs).length:Int)- 1- i)),(7,i64 c),(8,i64 (((zd y.natAbs).length:Int)- 1- k))],
  [(1,some ⟨47,2,[zZ x]⟩),(2,some ⟨47,2,[zZ y]⟩),(3,some ⟨47,2,[[i64 0,.emp]]⟩),(4,some ⟨3,1,iE o.reverse⟩)],5,76⟩
structure ZmI (a b:Nat)(x:Ln×Nat):Prop where
 len:x.1.length=(az UB a).length+(az UB b).length
 le:x.2≤(az UB a).length
 dig:∀d∈x.1,d< UB
 val:ofD UB x.1=ofD UB ((az UB a).take x.2) * b
 zer:∀j,x.2+(az UB b).length≤j→j< x.1.length→x.1[j]?=some 0
structure ZmJ (a b i v:Nat)(x:Ln×Nat×Nat):Prop where
 len:x.1.length=(az UB a).length+(az UB b).length
 le:x.2.1≤(az UB b).length
 dig:∀d∈x.1,d< UB
 car:x.2.2< UB
 val:ofD UB x.1+UB^ (i+x.2.1) * x.2.2=ofD UB ((az UB a).take i) * b+UB^ i* v* ofD UB ((az UB b).take x.2.1)
 zer:∀j,i+(az UB b).length≤j→j< x.1.length→x.1[j]?=some 0
theorem sgZ_mul(x y:Int):sgZ (x* y)=sgZ x* sgZ y:=by
 rcases cL x with⟨a,b⟩|⟨a,b⟩|⟨a,b⟩<;> rcases cL y with⟨c,d⟩|⟨c,d⟩|⟨c,d⟩<;> rw[a,c]<;> rcases cL (x* y) with⟨e,f⟩|⟨e,f⟩|⟨e,f⟩<;> rw[e]<;> first|rfl|(exfalso;subst_vars;simp at f;done)|(exfalso;have:=Int.mul_pos_of_neg_of_neg b d;omega)|(exfalso;have:=Int.mul_neg_of_neg_of_pos b d;omega)|(exfalso;have:=Int.mul_neg_of_pos_of_neg b d;omega)|(exfalso;have:=Int.mul_pos b d;omega)
theorem iq(x y:Int)(hx:zl x)(hy:zl y):FS 49 [.agg (zZ x),.agg (zZ y)] (.agg (zZ (x* y))):=by
 have hlx:=vD hx;have hly:=vD hy;have hzx:=cI x.natAbs;have hzy:=cI y.natAbs;obtain⟨a,ha⟩:∃a,a=x.natAbs:=⟨_,rfl⟩;obtain⟨b,hb⟩:∃b,b=y.natAbs:=⟨_,rfl⟩;have va:=bt (b:=UB) (by decide) a;have vb:=bt (b:=UB) (by decide) b
 have hss: -9223372036854775808≤sgZ x* sgZ y∧sgZ x* sgZ y≤9223372036854775807:=by
  rcases cL x with⟨h,_⟩|⟨h,_⟩|⟨h,_⟩<;> rcases cL y with⟨h',_⟩|⟨h',_⟩|⟨h',_⟩<;> rw[h,h']<;> decide
 refine f_c Tryz.func49 ?_;subst ha hb;refine r_z 3 ?_;refine r_z 9 ?_;refine ac (r_z 5 ?_);refine aI (zmS x y) (fun v=>ZmI x.natAbs y.natAbs v∧v.2=(az UB x.natAbs).length) ?_ ?_;refine am (aC (zmS x y) (fun v=>(az UB x.natAbs).length- v.2) (ZmI x.natAbs y.natAbs) (List.replicate ((az UB x.natAbs).length+(az UB y.natAbs).length) 0,0) ⟨by simp,by simp,?_,by simp[pX,ofD],?_⟩ ?_ ?_);intro d hd;simp at hd;rw[hd.2];decide;intro j _ hj;simp at hj;simp[hj];simp only[zmS.eq_1];refine s_x [(1,2),(2,3),(3,4),(4,5)] (fun hs=>?_) (fun hs=>?_) ?_
 ·repeat' (first|exact aH|refine ao rfl ?_ ?_|exact aY|(refine Cv.loE hs ?_ (ag _);first|rfl|(simp[i64,u64,u32,bln,hzx,hzy];done)|(simp[i64,u64,u32,bln,hzx,hzy]<;> omega)))
 ·repeat' (first|exact aD|refine h_c ?_ ?_|exact bG|(refine aM hs ?_ (dq _);first|(simp[n8,mS,ja,hzx,hzy];done)|(simp[iE,i64,ofV,hzx,hzy];done))|refine aw ?_|exact ax|refine af ?_ ?_|exact aY|(refine Cv.loE hs ?_ (ag _);first|(simp[i64,u64,u32,bln,hzx,hzy];done)|(simp[i64,u64,u32,bln,hzx,hzy]<;> omega)))
 ·repeat' (first|exact ShrL.nil|refine ShrL.cons rfl rfl rfl rfl (by first|rfl|(simp;done)|(simp[hzx,hzy]<;> omega)) ?_)
 rintro⟨o,i⟩ ⟨hlen,hle,hdig,hval,hzer⟩;simp only at hlen hle hdig hval hzer;rw[zmS.eq_1];refine ac (r_z 2 ?_);refine aq rfl (fun h=>?_) (fun h=>?_);have hlt:i< (az UB x.natAbs).length:=by have:=of_decide_eq_true h;omega
 obtain⟨u,hu⟩:∃u,(az UB x.natAbs)[i]?=some u:=⟨_,List.getElem?_eq_getElem hlt⟩;have hu1:u< 32768:=cJ (by decide) hu
 have hu':(iE (zd x.natAbs))[(((zd x.natAbs).length:Int)- 1- i).toNat]?=some [i64 u]:=by
  rw[show(((zd x.natAbs).length:Int)- 1- i).toNat=(az UB x.natAbs).length- 1- i by omega];exact jW (vE hu)
 refine ak (ac (am (r_z 1 ?_)));refine ac (r_z 5 ?_);refine aI (zmT x y i) (fun v=>ZmJ x.natAbs y.natAbs i u v∧v.2.1=(az UB y.natAbs).length) ?_ ?_;refine am (aC (zmT x y i) (fun v=>(az UB y.natAbs).length- v.2.1) (ZmJ x.natAbs y.natAbs i u) (o,0,0) ⟨hlen,by simp,hdig,(show 0< UB by decide),by simp[hval,ofD],hzer⟩ ?_ ?_);simp only[zmT.eq_1];exact s_e [];rintro⟨q,k,c⟩ ⟨jlen,jle,jdig,jcar,jval,jzer⟩;simp only at jlen jle jdig jcar jval jzer;rw[zmT.eq_1];refine ac (r_z 2 ?_);refine aq rfl (fun h=>?_) (fun h=>?_);have hltk:k< (az UB y.natAbs).length:=by have:=of_decide_eq_true h;omega
 obtain⟨v,hv⟩:∃v,(az UB y.natAbs)[k]?=some v:=⟨_,List.getElem?_eq_getElem hltk⟩;have hv1:v< 32768:=cJ (by decide) hv
 have hv':(iE (zd y.natAbs))[(((zd y.natAbs).length:Int)- 1- k).toNat]?=some [i64 v]:=by
  rw[show(((zd y.natAbs).length:Int)- 1- k).toNat=(az UB y.natAbs).length- 1- k by omega];exact jW (vE hv)
 obtain⟨d,hd⟩:∃d,q[i+k]?=some d:=⟨_,List.getElem?_eq_getElem (by omega)⟩;have hd1:d< 32768:=jdig d (List.mem_of_getElem? hd);have hc1:c< 32768:=jcar;have hidx:(((zd x.natAbs).length:Int)- 1- i+(((zd y.natAbs).length:Int)- 1- k)+1).toNat=q.length- 1- (i+k):=by omega
 have hg:(iE q.reverse)[0+(((zd x.natAbs).length:Int)- 1- i+(((zd y.natAbs).length:Int)- 1- k)+1).toNat]?=some [i64 d]:=by rw[hidx,Nat.zero_add];exact jW (Ce hd)
 have hset:∀w:Nat,(iE q.reverse).set (0+(((zd x.natAbs).length:Int)- 1- i+(((zd y.natAbs).length:Int)- 1- k)+1).toNat) [i64 w]=iE (q.set (i+k) w).reverse:=by intro w;rw[hidx,Nat.zero_add,n8,Cd (by omega)]
 have hxy0:u* v≤32767* 32767:=Nat.mul_le_mul (by omega) (by omega);have hxyi:(u:Int) * v=((u* v:Nat):Int):=by push_cast;rfl
 refine ak ?_;have hxyn:0≤(u:Int) * v:=Int.mul_nonneg (by omega) (by omega);refine ac (am (ac (r_d hmix 22 ?_)));refine a_5 ?_
 first|refine ay (.index_l rfl rfl (by omega) (by omega) te_45.h) rfl rfl ?_|refine ay (.index_a rfl rfl (by omega) hg rfl te_45.h) rfl rfl ?_
 first|refine ay (.load_l1 rfl rfl hg TG.h rfl) rfl rfl ?_|refine ay (.load_a1 rfl hg TG.h rfl) rfl rfl ?_
 refine a_3 ?_;refine i_x hu' ?_;refine l_1 hu' ?_;refine a_3 ?_;refine i_x hv' ?_;refine l_1 hv' ?_;refine a_5 ?_;refine an (n_k ?_);refine s_r 9 ?_;refine a_8 ?_;refine fk (.store rfl rfl hg rfl rfl rfl TS.h (nle rfl)) ?_;refine an ?_;refine r_m 3 ?_;refine a_z ?_;refine r_m 3 ?_;refine a_z ?_;have hm:((d:Int)+(u:Int) * v+c) % 32768=(((d+u* v+c) % 32768:Nat):Int):=by rw[hxyi];omega
 have hq:((d:Int)+(u:Int) * v+c) / 32768=(((d+u* v+c) / 32768:Nat):Int):=by rw[hxyi];omega
 refine⟨(q.set (i+k) ((d+u* v+c) % 32768),k+1,(d+u* v+c) / 32768),by simp;omega,⟨by simp[jlen],by simp;omega,rI jdig (Nat.mod_lt _ (by decide)),?_,?_,?_⟩,?_⟩;show _< 32768;simp only;omega;simp only;have e1:=oR UB ((d+u* v+c) % 32768) hd;have e2:=Nat.mod_add_div (d+u* v+c) 32768
 have e3:UB^ (i+k) * ((d+u* v+c) % 32768)+UB^ (i+(k+1)) * ((d+u* v+c) / 32768)=UB^ (i+k) * d+UB^ (i+k) * (u* v)+UB^ (i+k) * c:=by
  rw[←Nat.add_assoc i k 1,Nat.pow_succ,Nat.mul_assoc,←Nat.mul_add,show UB* ((d+u* v+c) / 32768)=32768* ((d+u* v+c) / 32768) from rfl,e2,Nat.mul_add,Nat.mul_add]
 have e4:UB^ i* u* ofD UB ((az UB y.natAbs).take (k+1))=UB^ i* u* ofD UB ((az UB y.natAbs).take k)+UB^ (i+k) * (u* v):=by
  rw[cV _ hv,Nat.mul_add];congr 1;rw[Nat.pow_add];simp only[Nat.mul_assoc,Nat.mul_left_comm,Nat.mul_comm]
 rw[e4];omega;intro j hj hj2;rw[List.getElem?_set_ne (by omega)];exact jzer j hj (by simpa using hj2);simp only[zmT.eq_1];have hset2:=hset ((d+u* v+c) % 32768);rw[←hm] at hset2;refine s_x [] (fun hs=>?_) (fun hs=>?_) ?_
 ·repeat' (first|exact aH|refine ao rfl ?_ ?_|exact Cv.loE hs (congrArg (fun z=>AV.v (.int .i64 z)) hq) (ag _)|exact aY)
 ·repeat' (first|exact aD|refine h_c ?_ ?_|exact aM hs hset2 (dq _)|exact bG|refine aw ?_|exact ax|refine af ?_ ?_|exact Cv.loE hs (congrArg (fun z=>AV.v (.int .i64 z)) hq) (ag _)|exact aY)
 ·repeat' (first|exact ShrL.nil|refine ShrL.cons rfl rfl rfl rfl (by first|(exact congrArg List.length hset2)|rfl|(simp;done)|(simp <;> omega)) ?_)
 have hk:k=(az UB y.natAbs).length:=by have:=of_decide_eq_false h;omega
 refine aA ⟨(q,k,c),⟨⟨jlen,jle,jdig,jcar,jval,jzer⟩,hk⟩,?_⟩;simp only[zmT.eq_1];exact s_e [];rintro⟨q,k,c⟩ ⟨⟨jlen,jle,jdig,jcar,jval,jzer⟩,hk⟩;simp only at jlen jle jdig jcar jval jzer hk;subst hk;have hc1:c< 32768:=jcar;have hz:=jzer (i+(az UB y.natAbs).length) (Nat.le_refl _) (by omega);have hidx:(((zd x.natAbs).length:Int)- 1- i).toNat=q.length- 1- (i+(az UB y.natAbs).length):=by omega
 have hg:(iE q.reverse)[0+(((zd x.natAbs).length:Int)- 1- i).toNat]?=some [i64 0]:=by rw[hidx,Nat.zero_add];exact jW (Ce hz)
 have hset:(iE q.reverse).set (0+(((zd x.natAbs).length:Int)- 1- i).toNat) [i64 c]=iE (q.set (i+(az UB y.natAbs).length) c).reverse:=by rw[hidx,Nat.zero_add,n8,Cd (by omega)]
 rw[List.take_length,vb] at jval;rw[zmT.eq_1];refine r_m 5 ?_;refine a_4 ?_;refine fk (.store rfl rfl hg rfl rfl rfl TS.h (nle rfl)) ?_;refine an ?_;refine r_m 3 ?_;refine a_z ?_;refine⟨(q.set (i+(az UB y.natAbs).length) c,i+1),by simp;omega,⟨by simp[jlen],by simp;omega,rI jdig jcar,?_,?_⟩,?_⟩;simp only;have e1:=oR UB c hz;rw[cV _ hu,Nat.add_mul,←jval];omega;intro j hj hj2;rw[List.getElem?_set_ne (by simp only at hj;omega)];exact jzer j (by simp only at hj;omega) (by simpa using hj2);simp only[zmS.eq_1];refine s_x [] (fun hs=>db) (fun hs=>?_) e_40
 ·repeat' (first|exact aD|refine h_c ?_ ?_|refine aM hs hset (dq _)|exact bG)
 have hi:i=(az UB x.natAbs).length:=by have:=of_decide_eq_false h;omega
 refine aA ⟨(o,i),⟨⟨hlen,hle,hdig,hval,hzer⟩,hi⟩,?_⟩;simp only[zmS.eq_1];exact s_e [];rintro⟨o,i⟩ ⟨⟨hlen,hle,hdig,hval,hzer⟩,hi⟩;simp only at hlen hle hdig hval hzer hi;subst hi;rw[List.take_length,va] at hval;rw[zmS.eq_1];have hol:o.length=(zd x.natAbs).length+(zd y.natAbs).length:=by omega
 have hw:=jN (sgZ x* sgZ y) o.reverse (x* y) (by simp;omega) (fun d h=>hdig d (List.mem_reverse.1 h)) (by unfold hv;rw[List.reverse_reverse,hval,Int.natAbs_mul]) (fun _=>(sgZ_mul x y).symm);have hfull:((iE o.reverse).drop 0).take ((zd x.natAbs).length+(zd y.natAbs).length)=iE o.reverse:=by rw[List.drop_zero,List.take_of_length_le (by simp;omega)]
 refine s_r 8 ?_;refine a_4 ?_;refine o_0 (.bin rfl rfl (pI hss)) ?_;refine a_1 ?_;refine o_1 (.callS1 rfl rfl rfl (.keep (.shut rfl d_n (.nil))) rfl ((by rw[hfull];exact hw))) ?_;refine a_z ?_;exact aj (c_e (cP _))
theorem DV{b:Nat}(hb:1< b):∀(j n:Nat),(az b n)[j]?.getD 0=n/ b^ j % b:=by
 intro j
 induction j with
 |zero=>
  intro n;rcases Nat.eq_zero_or_pos n with rfl|hn
  rw[ct];simp;rw[eg hb hn];simp
 |succ j ih=>
  intro n;rcases Nat.eq_zero_or_pos n with rfl|hn
  rw[ct];simp;rw[eg hb hn,List.getElem?_cons_succ,ih,Nat.div_div_eq_div_mul,Nat.pow_succ,Nat.mul_comm b]
def Bc(n:Nat)(long:Nat)(k:Nat):Nat→AState
 |i=>⟨[(0,.arr (iE (zd n))),(1,i64 long),(2,i64 k),(7,i64 (n/ UB^ (long- i):Nat)),(8,i64 i)],[],1,24⟩
theorem pn(n long k:Nat)(hk:k≤4)(hkl:k≤long)(hn:n< UB^ long)(hl:(zd n).length≤281474976710656)(hlo:long≤281474976710656):FS 254 [.arr (iE (zd n)),i64 long,i64 k] (i64 (n/ UB^ (long- k):Nat)):=by
 have bound:∀i,i≤k→n/ UB^ (long- i)< 1152921504606846976:=by
  intro i hi
  have h1:n/ UB^ (long- i)< UB^ i:=by
   rw[Nat.div_lt_iff_lt_mul (Nat.pow_pos (by decide)),←Nat.pow_add,show i+(long- i)=long by omega];exact hn
  exact Nat.lt_of_lt_of_le h1 (Nat.pow_le_pow_right (n:=32768) (j:=4) (by decide) (by omega))
 refine f_c Tryz.func254 ?_;refine r_z 1 ?_;refine r_z 1 ?_;refine ac (r_z 1 ?_);refine aI (Bc n long k) (fun i=>i=k) ?_ ?_;refine am (aC (Bc n long k) (fun i=>k- i) (fun i=>i≤k) 0 (Nat.zero_le _) ?_ ?_);simp only[Bc.eq_1];have e:AV.v (.int .i64 0)=i64 (n/ UB^ (long- 0):Nat):=by rw[Nat.sub_zero,Nat.div_eq_of_lt hn];rfl
 exact s_f [];intro i hi;rw[Bc.eq_1];refine ac (r_z 3 ?_);refine aq rfl (fun h=>?_) (fun h=>?_);have hlt:i< k:=by simpa using h
 have hd:=tE (zd n) (long- 1- i) hl;unfold zd at hd;rw[List.reverse_reverse,DV (by decide),show((long- 1- i:Nat):Int)=(long:Int)- 1- i by omega] at hd;have e1:=Nat.div_add_mod (n/ UB^ (long- 1- i)) UB;rw[Nat.div_div_eq_div_mul,←Nat.pow_succ,show(long- 1- i).succ=long- i by omega] at e1;have hb:=bound (i+1) hlt;rw[show long- (i+1)=long- 1- i by omega] at hb;have hlt2:n/ UB^ (long- 1- i) % UB< 32768:=Nat.mod_lt _ (by decide);obtain⟨V,hV⟩:∃V,V=n/ UB^ (long- i):=⟨_,rfl⟩;obtain⟨D,hD⟩:∃D,D=n/ UB^ (long- 1- i) % UB:=⟨_,rfl⟩;have hVb:V< 1152921504606846976:=by rw[hV];exact bound i hi
 rw[←hV,←hD] at e1;rw[←hD] at hd hlt2;rw[←hV];have e3:32768* V+D=n/ UB^ (long- 1- i):=e1
 have e2:(V:Int) * 32768+D=((n/ UB^ (long- (i+1)):Nat):Int):=by
  rw[show long- (i+1)=long- 1- i by omega,←e3];omega
 have hbb:V* 32768+D< 1152921504606846976:=by omega
 refine ak (ac (am (r_m 10 ?_)));refine c_s (hd) ?_;refine a_z ?_;refine r_m 3 ?_;refine a_z ?_;refine⟨i+1,by omega,hlt,?_⟩;simp only[Bc.eq_1];have:=(congrArg (fun z=>AV.v (.int .i64 z)) e2);exact s_f [];have hge:i=k:=by simp at h;omega
 refine aA ⟨i,hge,?_⟩;simp only[Bc.eq_1];exact s_e [];rintro i rfl;rw[Bc.eq_1];refine r_z 2 ?_;refine aj (aN rfl rfl (ag _))
def sx(D:Nat):Nat×Nat→AState
 |(R,k)=>⟨[(0,.arr (iE (zd R))),(1,.arr (iE (zd D))),(6,i64 k)],[],1,57⟩
theorem est_le{R D e:Nat}(he:0< e):R/ e/ (D/ e+1) * D≤R:=by
 have h1:R/ e/ (D/ e+1) * (D/ e+1)≤R/ e:=Nat.div_mul_le_self _ _;have h2:R/ e* e≤R:=Nat.div_mul_le_self _ _
 have h3:D< (D/ e+1) * e:=by
  have:=Nat.lt_mul_div_succ D he;rw[Nat.mul_comm];exact this
 have h4:R/ e/ (D/ e+1) * D≤R/ e/ (D/ e+1) * ((D/ e+1) * e):=Nat.mul_le_mul_left _ (Nat.le_of_lt h3)
 have h5:R/ e/ (D/ e+1) * ((D/ e+1) * e)≤R/ e* e:=by
  rw[←Nat.mul_assoc];exact Nat.mul_le_mul_right _ h1
 omega
theorem zZ_pos{D:Nat}(h:0< D):zZ (D:Int)=[i64 1,.arr (iE (zd D))]:=by
 unfold zZ sgZ;rw[if_neg (by omega),if_neg (by omega),Int.natAbs_natCast]
theorem Fm(R D:Nat)(hD:0< D)(hR:R< UB* D)(hb:bl D≤4398046511104):FS 225 [.arr (iE (zd R)),.arr (iE (zd D))] (.tup [i64 (R/ D:Nat),.arr (iE (zd (R % D)))]):=by
 have hzR:=cI R;have hzD:=cI D;have hlD:=bu (b:=UB) (by decide) D;have hlR:=bu (b:=UB) (by decide) R
 have hbR:bl R≤bl D+16:=by
  have h1:=dw (Nat.le_of_lt hR);have h2:=gT UB D;have h3:bl UB=16:=by decide
  omega
 obtain⟨n,hn⟩:∃n,n=(zd D).length:=⟨_,rfl⟩
 have hn1:1≤n:=by
  have:zd D≠[]:=fun h=>by have:=zd_eq_nil.1 h;omega
  have:=List.length_pos_iff.2 this;omega
 have hDn:D< UB^ n:=by
  have:=CE (iV D);rwa[jM,←hn] at this
 have hRn:R< UB^ (n+1):=by
  rw[Nat.pow_succ,Nat.mul_comm];exact Nat.lt_of_lt_of_le hR (Nat.mul_le_mul_left _ (Nat.le_of_lt hDn))
 have hRk:∀k,k* D≤R→k< UB:=by
  intro k hk;refine Nat.lt_of_not_le fun h=>?_;have:=Nat.mul_le_mul_right D h;omega
 refine f_c Tryz.func225 ?_;refine r_z 2 ?_;refine r_z 1 ?_;refine r_z 3 ?_;refine aU (fun k:Nat=>sx D (R,k)) (fun k=>k* D≤R) ?_ ?_;refine r_z 4 ?_;refine aq rfl (fun h=>?_) (fun h=>?_);have hge:(zd D).length≤(zd R).length:=by simpa using h
 refine r_z 2 ?_;refine aq rfl (fun h1=>?_) (fun h1=>?_);have h3:n≤3:=by rw[hn];have:=of_decide_eq_true h1;omega
 have f1:=pn R (n+1) (n+1) (by omega) (Nat.le_refl _) hRn (by omega) (by omega);have f2:=pn D n n (by omega) (Nat.le_refl _) hDn (by omega) (by omega);rw[Nat.sub_self,Nat.pow_zero,Nat.div_one] at f1 f2;rw[hn] at f1 f2;have hq:(R:Int) / D=(R/ D:Nat):=(Int.natCast_ediv _ _).symm;have hR60:R< 1152921504606846976:=Nat.lt_of_lt_of_le hRn (Nat.pow_le_pow_right (n:=32768) (j:=4) (by decide) (by omega));refine r_m 12 ?_;refine c_s (f1) ?_;refine c_s (f2) ?_;refine a_z ?_;refine⟨R/ D,Nat.div_mul_le_self _ _,?_⟩;simp only[sx.eq_1];have:=(congrArg (fun z=>AV.v (.int .i64 z)) hq);exact s_f [];have h3:3< n:=by rw[hn];have:=of_decide_eq_false h1;omega
 have f1:=pn R (n+1) 4 (by omega) (by omega) hRn (by omega) (by omega);have f2:=pn D n 3 (by omega) (by omega) hDn (by omega) (by omega);rw[show n+1- 4=n- 3 by omega] at f1;obtain⟨e,he⟩:∃e,e=UB^ (n- 3):=⟨_,rfl⟩;have hep:0< e:=by rw[he];exact Nat.pow_pos (by decide)
 rw[←he] at f1 f2
 have hR4:R/ e< 1152921504606846976:=by
  rw[Nat.div_lt_iff_lt_mul hep,he];have h4:UB^ 4=1152921504606846976:=by decide
  have:UB^ (n+1)=1152921504606846976* UB^ (n- 3):=by
   rw[show n+1=4+(n- 3) by omega,Nat.pow_add,h4]
  omega
 have hD3:D/ e< 35184372088832:=by
  rw[Nat.div_lt_iff_lt_mul hep,he];have h4:UB^ 3=35184372088832:=by decide
  have:UB^ n=35184372088832* UB^ (n- 3):=by
   rw[←h4,←Nat.pow_add];congr 1;omega
  omega
 rw[hn] at f1 f2
 have hq:((R/ e:Nat):Int) / (((D/ e:Nat):Int)+1)=(R/ e/ (D/ e+1):Nat):=by
  rw[show(((D/ e:Nat):Int)+1)=((D/ e+1:Nat):Int) by omega];exact(Int.natCast_ediv _ _).symm
 have hle:=est_le (R:=R) (D:=D) hep;obtain⟨A,hA⟩:∃A,A=R/ e:=⟨_,rfl⟩;obtain⟨B,hB⟩:∃B,B=D/ e:=⟨_,rfl⟩;rw[←hA] at f1 hR4 hq hle;rw[←hB] at f2 hD3 hq hle;refine r_m 10 ?_;refine c_s (f1) ?_;refine c_s (f2) ?_;refine a_z ?_;refine⟨A/ (B+1),hle,?_⟩;simp only[sx.eq_1];have:=(congrArg (fun z=>AV.v (.int .i64 z)) hq);exact s_f [];refine ak ⟨0,by simp,?_⟩;simp only[sx.eq_1];exact s_e [];rintro k hk;have hkU:=hRk k hk;have hkU':k< 32768:=hkU;rw[sx.eq_1];refine aU (fun _:Unit=>sx D (R- k* D,k)) (fun _=>True) ?_ ?_;refine r_z 2 ?_;refine aq rfl (fun h1=>?_) (fun h1=>?_)
 have hzk:zl (k:Int):=by
  unfold zl;rw[Int.natAbs_natCast];have:=iW (n:=k) (k:=15) (by omega);omega
 have hzD:zl (D:Int):=by unfold zl;rw[Int.natAbs_natCast];omega
 have hm:=iq (k:Int) (D:Int) hzk hzD;rw[zZ_pos hD] at hm;have hkD:((k:Int) * (D:Int)).natAbs=k* D:=by rw[←Int.natCast_mul,Int.natAbs_natCast]
 have hbk:bl (k* D)≤bl D+16:=by
  have:=dw hk;omega
 have hlk:=bu (b:=UB) (by decide) (k* D);have hbo:=pp R (k* D) (-1) (R- k* D) (.inr rfl) (by omega) (by omega) (by rw[cI];omega);rw[←hkD] at hbo;rw[hkD] at hbo;refine r_m 9 ?_;refine c_s (lE k (by omega)) ?_;refine c_s (hm) ?_
 first|refine ay (.field rfl TF.h TA.h (nle rfl)) rfl rfl ?_|refine ay (.field1 rfl TF.h TA.h rfl) rfl rfl ?_
 refine o_0 (.call rfl rfl rfl ((by rw[hkD];exact hbo))) ?_;refine o_0 (.assign rfl) ?_;refine an ?_;refine⟨(),trivial,?_⟩;simp only[sx.eq_1];exact s_e [];have hk0:k=0:=by simp at h1;omega
 subst hk0;refine ak ⟨(),trivial,?_⟩;simp only[sx.eq_1,Nat.zero_mul,Nat.sub_zero];exact s_e [];rintro _ _;rw[sx.eq_1];refine aU (sx D) (fun v=>v.1=R % D∧v.2=R/ D) ?_ ?_;refine am (aC (sx D) (fun v=>v.1) (fun v=>v.1+v.2* D=R∧v.1≤R) (R- k* D,k) ⟨by simp only;omega,by simp only;omega⟩ ?_ ?_);simp only[sx.eq_1];exact s_e [];rintro⟨R',k'⟩ ⟨hv,hle⟩;simp only at hv hle;have hbR':bl R'≤bl D+16:=by have:=dw hle;omega
 have hlR':=bu (b:=UB) (by decide) R';have hzR':=cI R';have hk':=hRk k' (by omega);have hk'':k'< 32768:=hk';rw[sx.eq_1];refine ac (r_c 4 (yP R' D (by omega) (by omega)) ?_);refine a_z ?_;refine aq rfl (fun h=>?_) (fun h=>?_)
 have hge:D≤R':=by
  have:=of_decide_eq_true h;unfold ew at this;split at this <;> omega
 refine ak (am (r_c 4 (pp R' D (-1) (R'- D) (.inr rfl) (by omega) (by omega) (by omega)) ?_));refine a_z ?_;refine r_m 3 ?_;refine a_z ?_;refine⟨(R'- D,k'+1),by simp only;omega,⟨by simp only;rw[Nat.add_mul];omega,by simp only;omega⟩,?_⟩;simp only[sx.eq_1];exact s_e []
 have hlt:R'< D:=by
  have:=of_decide_eq_false h;unfold ew at this;split at this;omega;split at this <;> omega
 refine aA ⟨(R',k'),⟨?_,?_⟩,?_⟩;simp only;rw[←hv,Nat.add_mul_mod_self_right,Nat.mod_eq_of_lt hlt];simp only;rw[←hv,Nat.add_mul_div_right _ _ hD,Nat.div_eq_of_lt hlt,Nat.zero_add];simp only[sx.eq_1];exact s_e [];rintro⟨R',k'⟩ ⟨h1,h2⟩;simp only at h1 h2;subst h1 h2;rw[sx.eq_1];refine r_z 4 ?_;refine aj (Fin.many ⟨_,_,rfl,rfl,⟨_,_,rfl,rfl,rfl⟩⟩ (nle rfl) ?_);exact af (ah aB (ag _)) (af (ah aB (eK _)) ax)
end Go.Proofs.YtjgokhkahkmpbaaGreatDoor
