/- Part Y26 of the proof. -/
import Derived.Test.YtjgokhkahkmpbaaGreatDoorY25
set_option linter.all false
namespace Go.Proofs.YtjgokhkahkmpbaaGreatDoor
open Go.Abs
set_option maxRecDepth 20000
def CO(a:Nat)(b:Nat):Nat->AState
 |i=>⟨[(0,.arr (iE (zd a))),(1,.arr (iE (zd b))),(5,i64 i)],[],1,40⟩
theorem wO{n i d:Nat}(h:(az UB n)[i]?=some d):(zd n)[(az UB n).length- 1- i]?=some d:=by
 have hi:i< (az UB n).length:=(List.getElem?_eq_some_iff.1 h).1;unfold zd;rw[List.getElem?_reverse ω,show(az UB n).length- 1- ((az UB n).length- 1- i)=i by omega];exact h
theorem Ac(a b:Nat)(ha:(zd a).length<=281474976710656)(hb:(zd b).length<=281474976710656):FS 177 [.arr (iE (zd a)),.arr (iE (zd b))] (i64 (fk a b)):=by
 have hza:=cP a;have hzb:=cP b;refine f_c Tryz.func177 ?_;refine r_z 1 ?_;refine ac (r_z 5 ?_);refine aw rfl (λh=>?_) (λh=>?_);have hne:(zd a).length≠(zd b).length:=by simp at h;omega
 refine ac (r_z 5 ?_);refine aw rfl (λh1=>?_) (λh1=>?_);refine r_z 1 ?_;refine an (aR rfl ?_ (ag _));have hl:(zd a).length< (zd b).length:=by simpa using h1
 rw[lK];rfl;have:=jq (b:=UB) δ (show(az UB a).length< (az UB b).length by omega);omega;refine am (r_z 1 ?_);refine an (aR rfl ?_ (ag _));have hl:(zd b).length< (zd a).length:=by simp at h1;omega
 rw[nH];rfl;have:=jq (b:=UB) δ (show(az UB b).length< (az UB a).length by omega);omega;have heq:(az UB a).length=(az UB b).length:=by simp at h;omega
 refine am (ac (r_z 1 ?_));refine aG (CO a b) (λ_=>a=b) ?_ ?_;refine ak (aC (CO a b) (λi=>(az UB a).length- i) (λi=>i<=(az UB a).length/\(az UB a).drop ((az UB a).length- i)=(az UB b).drop ((az UB a).length- i)) 0 ⟨Nat.zero_le _,by rw[Nat.sub_zero,List.drop_length,heq,List.drop_length]⟩ ?_ ?_);simp only[CO.eq_1];exact s_e [];rintro i ⟨hi,hd⟩;rw[CO.eq_1];refine ac (r_z 4 ?_);refine aw rfl (λh=>?_) (λh=>?_);have hlt:i< (az UB a).length:=by simp at h;omega
 obtain⟨k,hk⟩:∃k,k=(az UB a).length- 1- i:=⟨_,rfl⟩;have hk1:(az UB a).length- i=k+1:=ω
 rw[hk1] at hd;obtain⟨x,hx⟩:∃x,(az UB a)[k]?=some x:=⟨_,List.getElem?_eq_getElem ω⟩;obtain⟨y,hy⟩:∃y,(az UB b)[k]?=some y:=⟨_,List.getElem?_eq_getElem ω⟩
 have hx':(iE (zd a))[((i:Nat):Int).toNat]?=some [i64 x]:=by
  have:=wO hx;rw[show(az UB a).length- 1- k=i by omega] at this;exact j8 this
 have hy':(iE (zd b))[((i:Nat):Int).toNat]?=some [i64 y]:=by
  have:=wO hy;rw[show(az UB b).length- 1- k=i by omega] at this;exact j8 this
 refine am (ac (ak (ac (ac (r_d hmix 9 ?_)))));refine a_2 ?_;refine i_x hx' ?_;refine l_1 hx' ?_;refine a_2 ?_;refine i_x hy' ?_;refine l_1 hy' ?_;refine a_1 ?_;refine ao (n_k ?_);refine aw rfl (λh1=>?_) (λh1=>?_);refine r_z 1 ?_;refine an (aR rfl ?_ (ag _));have hxy:x< y:=by simpa using h1
 have:=nq (λd hd=>dD δ a d hd) hx hy hd hxy;rw[bC δ,bC δ] at this;rw[lK ω];rfl;refine am (ac (r_d hmix 9 ?_));refine a_2 ?_;refine i_x hx' ?_;refine l_1 hx' ?_;refine a_2 ?_;refine i_x hy' ?_;refine l_1 hy' ?_;refine a_1 ?_;refine ao (n_k ?_);refine aw rfl (λh2=>?_) (λh2=>?_);refine r_z 1 ?_;refine an (aR rfl ?_ (ag _));have hxy:y< x:=by simpa using h2
 have:=nq (λd hd=>dD δ b d hd) hy hx hd.symm hxy;rw[bC δ,bC δ] at this;rw[nH ω];rfl;have hxy:x=y:=by simp at h1 h2;omega
 subst hxy;refine am (r_m 3 ?_);refine a_z ?_;refine⟨i+1,ω,⟨ω,?_⟩,?_⟩;rw[show(az UB a).length- (i+1)=k by omega,fG hx,fG hy,hd];simp only[CO.eq_1];exact s_e [];have hge:i=(az UB a).length:=by simp at h;omega
 refine aB ⟨i,?_,?_⟩;subst hge;rw[Nat.sub_self,List.drop_zero,List.drop_zero] at hd;rw[<-bC (b:=UB) δ a,<-bC (b:=UB) δ b,hd];simp only[CO.eq_1];exact s_e [];rintro i rfl;rw[CO.eq_1];refine r_z 1 ?_;refine an (aR rfl ?_ (ag _));rw[D3 rfl];rfl
def bothS(a:Nat)(b:Nat)(k:Int)(N:Nat):Ln×Int->AState
 |(s,c)=>⟨[(0,.arr (iE (zd a))),(1,.arr (iE (zd b))),(2,i64 k),(7,i64 N),(8,.lsl 1 0 N (some N) 1),(9,i64 c),(10,i64 s.length)],[(1,some ⟨3,1,iE (List.replicate (N- s.length) 0++s.reverse)⟩)],2,51⟩
def HZ(a:Nat)(b:Nat)(k:Int)(N:Nat)(s:Ln):Int×Int->AState
 |(x,c)=>⟨[(0,.arr (iE (zd a))),(1,.arr (iE (zd b))),(2,i64 k),(7,i64 N),(8,.lsl 1 0 N (some N) 1),(9,i64 c),(10,i64 s.length),(11,i64 x)],[(1,some ⟨3,1,iE (List.replicate (N- s.length) 0++s.reverse)⟩)],2,51⟩
theorem pV(a b:Nat)(k:Int)(r:Nat)(hk:k=1\/k= -1)(hr:(r:Int)=a+k* b)(ha:(zd a).length<=17592186044416)(hb:(zd b).length<=17592186044416):FS 176 [.arr (iE (zd a)),.arr (iE (zd b)),i64 k] (.arr (iE (zd r))):=by
 have hza:=cP a;have hzb:=cP b;obtain⟨N,hN⟩:∃N,N=max (zd a).length (zd b).length+1:=⟨_,rfl⟩;refine f_c Tryz.func176 ?_;refine r_z 1 ?_;refine r_c 5 (B4 (zd a) (zd b)) ?_;refine a_z ?_;have hNI:((max (zd a).length (zd b).length:Nat):Int)+1=(N:Int):=ω
 refine s_r 3 ?_;refine a_1 ?_;refine o_1 (.makeSlice (congrArg (λz=>some (AV.v (.int .i64 z))) hNI) (congrArg (λz=>some (AV.v (.int .i64 z))) hNI) te_45.h TZ.h rfl TB.h ν ν ι) ?_;refine a_z ?_;refine r_z 1 ?_;refine ac (r_z 1 ?_)
 have hdl:=eJ (b:=UB) δ (n:=r) (k:=N) (by
  have h1:=fw (b:=UB) (dD δ a);have h2:=fw (b:=UB) (dD δ b);rw[bC δ] at h1 h2;have h3:UB^ (az UB a).length<=UB^ (N- 1):=Nat.pow_le_pow_right δ ω;have h4:UB^ (az UB b).length<=UB^ (N- 1):=Nat.pow_le_pow_right δ ω;have h5:UB^ N=UB^ (N- 1) * UB:=by rw[<-Nat.pow_succ];congr 1;omega
  rw[h5];show r< UB^ (N- 1) * 32768;rcases hk with rfl|rfl <;> omega)
 have hrN:r< UB^ N:=by
  have h1:=fw (b:=UB) (dD δ r);rw[bC δ] at h1;exact Nat.lt_of_lt_of_le h1 (Nat.pow_le_pow_right δ hdl)
 refine aG (λs:Ln=>⟨[(8,.lsl 1 0 N (some N) 1)],[(1,some ⟨3,1,iE s.reverse⟩)],2,51⟩) (λs=>s.length=N/\(∀d∈s,d< UB)/\ofD UB s=r) ?_ ?_;refine ak (aC (bothS a b k N) (λx=>N- x.1.length) (λx=>x.1.length<=N/\(∀d∈x.1,d< UB)/\(x.2= -1\/x.2=0\/x.2=1)/\((ofD UB x.1:Nat):Int)+((UB^ x.1.length:Nat):Int) * x.2=(ofD UB ((az UB a).take x.1.length):Nat)+k* (ofD UB ((az UB b).take x.1.length):Nat)) ([],0) ⟨ψ,ψ,ψ,by simp[ofD]⟩ ?_ ?_);simp only[bothS.eq_1];exact s_e [(1,8)];rintro⟨s,c⟩ ⟨hs,hd,hc,hval⟩;simp only at hs hd hc hval;simp only[bothS.eq_1];refine ac (r_z 3 ?_);refine aw rfl (λh=>?_) (λh=>?_);have hlt:s.length< N:=by simpa using h
 refine am ?_;obtain⟨x,hx⟩:∃x,x=(az UB a)[s.length]?.getD 0:=⟨_,rfl⟩;obtain⟨y,hy⟩:∃y,y=(az UB b)[s.length]?.getD 0:=⟨_,rfl⟩
 have hx1:x< 32768:=by
  rw[hx];cases hh:(az UB a)[s.length]? with
  |none=>decide
  |some d=>exact cQ δ hh
 have hy1:y< 32768:=by
  rw[hy];cases hh:(az UB b)[s.length]? with
  |none=>decide
  |some d=>exact cQ δ hh
 have hda:=uu (zd a) s.length ω;have hdb:=uu (zd b) s.length ω;unfold zd at hda hdb;rw[List.reverse_reverse,<-hx] at hda;rw[List.reverse_reverse,<-hy] at hdb;have hky: -32768< k* y/\k* y< 32768:=by rcases hk with rfl|rfl <;> omega
 obtain⟨X,hX⟩:∃X:Int,X=x+k* y+c:=⟨_,rfl⟩;have hXr: -32768<=X/\X<=65536:=ω
 refine ac (ak (r_c 12 (hda) ?_));refine c_s (hdb) ?_;refine a_z ?_;refine r_z 1 ?_;refine bi (HZ a b k N s) (λv=>v.1=(if X< 0 then X+32768 else X)/\v.2=(if X< 0 then -1 else 0)) ?_ ?_;refine r_z 2 ?_;refine aw rfl (λh1=>?_) (λh1=>?_);have hX0:X< 0:=by rw[hX];simpa using h1
 refine r_z 3 ?_;refine r_m 1 ?_;refine a_z ?_;refine⟨(X+32768,-1),⟨by rw[if_pos hX0],by rw[if_pos hX0]⟩,?_⟩;simp only[HZ.eq_1];exact s_x [] (λhs=>e_39) (λhs=>e_40) e_38;have hX0:¬X< 0:=by rw[hX];simpa using h1
 refine am ⟨(X,0),⟨by rw[if_neg hX0],by rw[if_neg hX0]⟩,?_⟩;simp only[HZ.eq_1];exact s_x [] (λhs=>e_39) (λhs=>e_40) e_38;rintro⟨X1,c1⟩ ⟨hX1,hc1⟩;simp only at hX1 hc1;rw[HZ.eq_1];refine bi (HZ a b k N s) (λv=>v.1=X % 32768/\v.2=X/ 32768) ?_ ?_;refine r_z 2 ?_;refine aw rfl (λh1=>?_) (λh1=>?_);have h2:32768<=X1:=by simpa using h1
 have hX1r:X1<=65536:=by rw[hX1];split <;> omega
 refine r_z 3 ?_;refine r_m 1 ?_;refine a_z ?_;have hX0:¬X< 0:=by intro h0;rw[if_pos h0] at hX1;omega
 rw[if_neg hX0] at hX1;refine⟨(X1- 32768,1),⟨by simp only;omega,by simp only;omega⟩,?_⟩;simp only[HZ.eq_1];exact s_e []
 ·have h2:X1< 32768:=by simp at h1;omega
  refine am ⟨(X1,c1),⟨by rw[hX1] at h2⊢;simp only;split <;> rename_i h3 <;> simp only[h3,if_true,if_false] at h2 <;> omega,by rw[hX1] at h2;rw[hc1];simp only;split <;> rename_i h3 <;> simp only[h3,if_true,if_false] at h2 <;> omega⟩,?_⟩;simp only[HZ.eq_1];exact s_e []
 rintro⟨X2,c2⟩ ⟨hX2,hc2⟩;simp only at hX2 hc2;rw[HZ.eq_1];obtain⟨d,hdX⟩:∃d:Nat,X2=d:=⟨X2.toNat,ω⟩;have hd1:d< 32768:=ω
 subst hdX;have hlen:(List.replicate (N- s.length) 0++s.reverse).length=N:=χ
 have hrep:List.replicate (N- s.length) 0=List.replicate (N- (s.length+1)) 0++[0]:=by
  rw[show N- s.length=(N- (s.length+1))+1 by omega,List.replicate_succ']
 have hget:(iE (List.replicate (N- s.length) 0++s.reverse))[0+((N:Int)- 1- s.length).toNat]?=some [i64 0]:=by
  rw[show 0+((N:Int)- 1- s.length).toNat=N- (s.length+1) by omega];refine j8 ?_;rw[hrep,List.append_assoc];exact pL _ _ _ _ ψ
 have hset:(iE (List.replicate (N- s.length) 0++s.reverse)).set (0+((N:Int)- 1- s.length).toNat) [i64 d]=iE (List.replicate (N- (s++[d]).length) 0++(s++[d]).reverse):=by
  rw[show 0+((N:Int)- 1- s.length).toNat=N- (s.length+1) by omega,og,hrep,List.append_assoc];simp only[List.singleton_append,List.length_append,List.length_cons,List.length_nil,List.reverse_append,List.reverse_cons,List.reverse_nil,List.nil_append];rw[pe _ _ _ _ _ ψ];simp
 refine r_m 8 ?_;refine a_7 ?_;refine ee (.store rfl rfl hget rfl rfl rfl TS.h (nle rfl)) ?_;refine ao ?_;refine r_m 3 ?_;refine a_z ?_;refine⟨(s++[d],c2),χ,⟨χ,?_,by simp only;omega,?_⟩,?_⟩;intro e he;rcases List.mem_append.1 he with he|he
 exact hd e he;simp at he;subst he;exact hd1;simp only[List.length_append,List.length_cons,List.length_nil,Nat.zero_add];rw[gL,eI,eI,<-hx,<-hy,Nat.pow_succ];obtain⟨B,hB⟩:∃B,B=UB^ s.length:=⟨_,rfl⟩;rw[<-hB] at hval⊢;have hXX:X=32768* c2+d:=ω
 have hBX:(B:Int) * X=B* x+k* (B* y)+B* c:=by
  rw[hX,Int.mul_add,Int.mul_add,Int.mul_left_comm]
 rw[hXX,Int.mul_add] at hBX;have e1:((B* 32768:Nat):Int) * c2=B* (32768* c2):=by rw[Int.natCast_mul,Int.mul_assoc];rfl
 have e2:k* ((ofD UB ((az UB b).take s.length)+B* y:Nat):Int)=k* (ofD UB ((az UB b).take s.length):Nat)+k* (B* y):=by
  rw[Int.natCast_add,Int.mul_add,Int.natCast_mul]
 show((ofD UB s+B* d:Nat):Int)+((B* 32768:Nat):Int) * c2=_;rw[e1,e2,Int.natCast_add,Int.natCast_add,Int.natCast_mul,Int.natCast_mul];omega;simp only[bothS.eq_1];refine s_x [] (λhs=>cN) (λhs=>?_) e_41
 ·repeat' (first|exact aD|refine h_c ?_ ?_|exact aI hs hset (dH _)|exact bG)
 have hge:s.length=N:=by simp at h;omega
 refine aB ⟨s,⟨hge,hd,?_⟩,?_⟩;rw[hge,List.take_of_length_le ω,List.take_of_length_le ω,bC δ,bC δ,<-hr] at hval;have hsl:=fw hd;rw[hge] at hsl;obtain⟨B,hB⟩:∃B,B=UB^ N:=⟨_,rfl⟩;rw[<-hB] at hval hsl hrN;rcases hc with rfl|rfl|rfl <;> omega
 have e:iE (List.replicate (N- s.length) 0++s.reverse)=iE s.reverse:=by rw[hge];simp
 refine s_x [] (λhs=>cN) (λhs=>e_42) ?_
 ·repeat' (first|exact ShrL.nil|refine ShrL.cons rfl rfl rfl rfl (by first|(exact congrArg List.length e)|rfl|(simp;done)|(simp <;> omega)) ?_)
 rintro s ⟨hs,hd,hval⟩;have hd':∀d∈s.reverse,d< UB:=λd h=>hd d (List.mem_reverse.1 h);have hst:=iG s.reverse χ;rw[fD hd',show hv s.reverse=r by unfold hv;rw[List.reverse_reverse];assumption] at hst;have hfull:((iE s.reverse).drop 0).take N=iE s.reverse:=by rw[List.drop_zero,List.take_of_length_le χ]
 refine s_r 3 ?_;refine a_1 ?_;refine o_1 (.callS1 rfl rfl rfl (.shut rfl d_n (.nil)) rfl ((by rw[hfull];exact hst))) ?_;refine a_z ?_;exact an (t_e (eM _))
def zl(z:Int):Prop:=bl z.natAbs<=8796093022208
theorem wN{z:Int}(h:zl z):(zd z.natAbs).length<=17592186044416:=by
 have:=bR (b:=UB) δ z.natAbs;rw[cP];unfold zl at h;omega
theorem wY{x y:Int}(h:sgZ x=sgZ y)(hx:x≠0):(x+y).natAbs=x.natAbs+y.natAbs/\(x+y≠0->sgZ x=sgZ (x+y)):=by
 rcases dm x with⟨a,b⟩|⟨a,b⟩|⟨a,b⟩<;> rcases dm y with⟨c,d⟩|⟨c,d⟩|⟨c,d⟩<;> rcases dm (x+y) with⟨e,f⟩|⟨e,f⟩|⟨e,f⟩<;> rw[a,c] at h <;> rw[a,e]<;> first|omega|(constructor <;> omega)
theorem tD{x y:Int}(h:sgZ x≠sgZ y)(hx:x≠0)(hy:y≠0)(hg:y.natAbs<=x.natAbs):(x+y).natAbs=x.natAbs- y.natAbs/\(x+y≠0->sgZ x=sgZ (x+y)):=by
 rcases dm x with⟨a,b⟩|⟨a,b⟩|⟨a,b⟩<;> rcases dm y with⟨c,d⟩|⟨c,d⟩|⟨c,d⟩<;> rcases dm (x+y) with⟨e,f⟩|⟨e,f⟩|⟨e,f⟩<;> rw[a,c] at h <;> rw[a,e]<;> first|omega|(constructor <;> omega)
theorem fs_ZAdd(x y:Int)(hx:zl x)(hy:zl y):FS 122 [.agg (zZ x),.agg (zZ y)] (.agg (zZ (x+y))):=by
 have hlx:=wN hx;have hly:=wN hy
 have bound:∀r:Nat,r<=x.natAbs+y.natAbs->(zd r).length<=281474976710656:=by
  intro r hr;have h1:=bR (b:=UB) δ r;have h2:=dL hr;have h3:=yy x.natAbs y.natAbs;unfold zl at hx hy;rw[cP];omega
 refine f_c Tryz.func122 ?_;refine r_z 3 ?_;refine ac (r_z 3 ?_);refine aw rfl (λh=>?_) (λh=>?_)
 have h0:x=0:=by
  have:sgZ x=0:=by simpa using h
  rcases dm x with⟨a,b⟩|⟨a,b⟩|⟨a,b⟩<;> omega
 refine r_z 2 ?_;refine an (dA rfl rfl rfl TG.h TS.h (nle rfl) ?_ ?_);rw[h0,Int.zero_add];rfl;exact dk _;have hx0:x≠0:=by rintro rfl;simp[sgZ] at h
 refine am (ac (r_z 3 ?_));refine aw rfl (λh1=>?_) (λh1=>?_)
 have h0:y=0:=by
  have:sgZ y=0:=by simpa using h1
  rcases dm y with⟨a,b⟩|⟨a,b⟩|⟨a,b⟩<;> omega
 refine r_z 2 ?_;refine an (dA rfl rfl rfl TG.h TS.h (nle rfl) ?_ ?_);rw[h0,Int.add_zero];rfl;exact dk _;have hy0:y≠0:=by rintro rfl;simp[sgZ] at h1
 refine am (ac (r_z 5 ?_));refine aw rfl (λh2=>?_) (λh2=>?_);have hs:sgZ x=sgZ y:=by simpa using h2
 obtain⟨e1,e2⟩:=wY hs hx0;refine ac (r_d hmix 9 ?_);refine c_s (pV x.natAbs y.natAbs 1 (x.natAbs+y.natAbs) (.inl rfl) ω hlx hly) ?_;refine c_s (jU (sgZ x) (zd (x.natAbs+y.natAbs)) (x+y) (bound _ (Nat.le_refl _)) (jb _) (by rw[jT,e1]) e2) ?_;refine a_1 ?_;refine ao (n_k ?_);exact an (c_e (dk _));have hs:sgZ x≠sgZ y:=by simpa using h2
 refine am (ac (r_c 6 (Ac x.natAbs y.natAbs ω ω) ?_));refine a_z ?_;refine aw rfl (λh3=>?_) (λh3=>?_)
 have hge:y.natAbs<=x.natAbs:=by
  have:=of_decide_eq_true h3;unfold fk at this;split at this;omega;omega
 obtain⟨e1,e2⟩:=tD hs hx0 hy0 hge;refine ac (r_d hmix 9 ?_);refine c_s (pV x.natAbs y.natAbs (-1) (x.natAbs- y.natAbs) (.inr rfl) ω hlx hly) ?_;refine c_s (jU (sgZ x) (zd (x.natAbs- y.natAbs)) (x+y) (bound _ ω) (jb _) (by rw[jT,e1]) e2) ?_;refine a_1 ?_;refine ao (n_k ?_);exact an (c_e (dk _))
 have hlt:x.natAbs<=y.natAbs:=by
  have:=of_decide_eq_false h3;unfold fk at this;split at this;omega;split at this <;> omega
 obtain⟨e1,e2⟩:=tD (λh=>hs h.symm) hy0 hx0 hlt;rw[Int.add_comm] at e1 e2;refine am (ac (r_d hmix 9 ?_));refine c_s (pV y.natAbs x.natAbs (-1) (y.natAbs- x.natAbs) (.inr rfl) ω hly hlx) ?_;refine c_s (jU (sgZ y) (zd (y.natAbs- x.natAbs)) (x+y) (bound _ ω) (jb _) (by rw[jT,e1]) e2) ?_;refine a_1 ?_;refine ao (n_k ?_);exact an (c_e (dk _))
def Bf(l:Ln):Nat->AState
 |i=>⟨[(0,.arr (iE l)),(3,i64 (hv (l.take i))),(4,i64 i)],[],1,19⟩
theorem BP{l:Ln}(hd:∀d∈l,d< UB)(hl:l.length<=4)(i:Nat):hv (l.take i)< 1152921504606846976:=by
 have h1:=DG (l:=l.take i) λd h=>hd d (List.mem_of_mem_take h);have h2:(l.take i).length<=4:=by rw[List.length_take];omega
 exact Nat.lt_of_lt_of_le h1 (Nat.pow_le_pow_right δ h2)
theorem um(l:Ln)(hl:l.length<=4)(hd:∀d∈l,d< UB):FS 178 [.arr (iE l)] (i64 (hv l)):=by
 refine f_c Tryz.func178 ?_;refine r_z 1 ?_;refine r_z 1 ?_;refine ac (r_z 1 ?_);refine aG (Bf l) (λi=>i=l.length) ?_ ?_;refine ak (aC (Bf l) (λi=>l.length- i) (λi=>i<=l.length) 0 (Nat.zero_le _) ?_ ?_);simp only[Bf.eq_1];exact s_e [];intro i hi;rw[Bf.eq_1];refine ac (r_z 4 ?_);refine aw rfl (λh=>?_) (λh=>?_);have hlt:i< l.length:=by simpa using h
 obtain⟨d,hdi⟩:∃d,l[i]?=some d:=⟨_,List.getElem?_eq_getElem hlt⟩;have hd1:=hd d (List.mem_of_getElem? hdi);have hdi':(iE l)[((i:Nat):Int).toNat]?=some [i64 d]:=j8 hdi;have hsn:=pH (l.take i) d;rw[<-dO hdi] at hsn;have hb:=BP hd hl (i+1);obtain⟨V,hV⟩:∃V,V=hv (l.take i):=⟨_,rfl⟩;rw[<-hV] at hsn⊢;have hsn':hv (l.take (i+1))=V* 32768+d:=hsn;refine am (ac (ak (r_m 8 ?_)));refine a_4 ?_;refine i_x hdi' ?_;refine l_1 hdi' ?_;refine a_z ?_;refine r_m 3 ?_;refine a_z ?_;refine⟨i+1,ω,hlt,?_⟩;simp only[Bf.eq_1];refine s_x [] (λhs=>?_) (λhs=>?_) ?_
 ·repeat' (first|exact aF|refine aj rfl ?_ ?_|exact aX|(refine Cv.loE hs ?_ (ag _);first|rfl|(simp[i64,u64,u32,bln,hsn'];done)|(simp[i64,u64,u32,bln,hsn']<;> omega)))
 ·repeat' (first|exact aD|refine h_c ?_ ?_|exact bG|(refine aI hs ?_ (dH _);first|(simp[og,nw,ji,hsn'];done)|(simp[iE,i64,ofV,hsn'];done))|refine ay ?_|exact ax|refine af ?_ ?_|exact aX|(refine Cv.loE hs ?_ (ag _);first|(simp[i64,u64,u32,bln,hsn'];done)|(simp[i64,u64,u32,bln,hsn']<;> omega)))
 ·repeat' (first|exact ShrL.nil|refine ShrL.cons rfl rfl rfl rfl (by first|rfl|(simp;done)|(simp[hsn']<;> omega)) ?_)
 have hge:i=l.length:=by simp at h;omega
 refine aB ⟨i,hge,?_⟩;exact s_e [];rintro i rfl;rw[Bf.eq_1,List.take_length];refine r_z 2 ?_;refine an (aR rfl rfl (ag _))
def Fo(s:Int):Int×Ln->AState
 |(n,l)=>⟨[(0,i64 n),(2,.lptr 1 0 0),(3,i64 s),(4,.arr (iE l))],[(1,some ⟨47,2,[[i64 0,.emp]]⟩)],2,25⟩
theorem lH(n:Int)(h: -9223372036854775808<=n/\n<=9223372036854775807):FS 117 [i64 n] (.agg (zZ n)):=by
 obtain⟨s,hs⟩:∃s:Int,s=if n< 0 then -1 else 1:=⟨_,rfl⟩
 have hsz:n≠0->s=sgZ n:=by
  intro h0;rw[hs];unfold sgZ;rw[if_neg h0]
 refine f_c Tryz.func117 ?_;refine r_z 1 ?_;refine r_z 1 ?_;refine bi (λ_:Unit=>⟨[(0,i64 n),(2,.lptr 1 0 0),(3,i64 s)],[(1,some ⟨47,2,[[i64 0,.emp]]⟩)],2,25⟩) (λ_=>True) ?_ ?_;refine r_z 2 ?_;refine aw rfl (λh1=>?_) (λh1=>?_);have hn:n< 0:=by simpa using h1
 rw[hs,if_pos hn];refine r_m 1 ?_;refine a_z ?_;refine⟨(),trivial,?_⟩;exact s_e [];have hn:¬n< 0:=by simpa using h1
 rw[hs,if_neg hn];refine am ⟨(),trivial,?_⟩;exact s_e [];rintro _ _;refine r_z 1 ?_;refine bi (λl:Ln=>Fo s (0,l)) (λl=>l.length<=10/\(∀d∈l,d< UB)/\hv l=n.natAbs) ?_ ?_;refine ak (aC (Fo s) (λx=>x.1.natAbs) (λx=>(-9223372036854775808<=x.1/\x.1<=9223372036854775807)/\(∀d∈x.2,d< UB)/\n.natAbs=hv x.2+UB^ x.2.length* x.1.natAbs/\x.2.length<=5) (n,[]) ⟨h,ψ,by simp[uj],ψ⟩ ?_ ?_);simp only[Fo.eq_1];exact s_e [(1,2)];rintro⟨m,l⟩ ⟨hm,hd,hval,hl6⟩;simp only at hm hd hval hl6;rw[Fo.eq_1];refine ac (r_z 2 ?_);refine aw rfl (λh=>?_) (λh=>?_)
 ·have hm0:m≠0:=by simpa using h
  have hl:l.length<=4:=by
   refine Nat.le_of_not_lt λh5=>?_;have h6:UB^ 5<=UB^ l.length:=Nat.pow_le_pow_right δ h5;have h7:UB^ l.length* 1<=UB^ l.length* m.natAbs:=Nat.mul_le_mul_left _ ω;have h8:UB^ 5=37778931862957161709568:=δ
   omega
  obtain⟨d,hdm⟩:∃d,d=m.natAbs % 32768:=⟨_,rfl⟩;have hd1:d< 32768:=ω
  have hr:(m.tmod 32768).natAbs=d:=by rw[Int.natAbs_tmod,hdm];rfl
  have hq:(m.tdiv 32768).natAbs=m.natAbs/ 32768:=by rw[Int.natAbs_tdiv];rfl
  have hlq:m.natAbs/ 32768< m.natAbs:=Nat.div_lt_self ω δ;have hdm2:=Nat.div_add_mod m.natAbs 32768;refine am (ak (s_r 3 ?_));refine a_1 ?_;refine o_0 (.bin rfl rfl (Fh δ)) ?_;refine a_z ?_;refine bi (λ_:Unit=>⟨[(0,i64 m),(2,.lptr 1 0 0),(3,i64 s),(4,.arr (iE l)),(5,i64 d)],[(1,some ⟨47,2,[[i64 0,.emp]]⟩)],2,25⟩) (λ_=>True) ?_ ?_;refine r_z 2 ?_;refine aw rfl (λh1=>?_) (λh1=>?_);have hneg:m.tmod 32768< 0:=by simpa using h1
  refine r_m 3 ?_;refine a_z ?_;have e: -m.tmod 32768=d:=ω
  refine⟨(),trivial,?_⟩;have:=(congrArg (λz=>AV.v (.int .i64 z)) e);exact s_f [];have hneg:¬m.tmod 32768< 0:=by simpa using h1
  have e:m.tmod 32768=d:=ω
  refine am ⟨(),trivial,?_⟩;have:=(congrArg (λz=>AV.v (.int .i64 z)) e);exact s_f [];rintro _ _;refine s_r 5 ?_;refine a_3 ?_;refine o_2 (.append_l rfl rfl rfl te_45.h rfl rfl rfl rfl rfl d_o η ξ rfl (.arr (lC _)) TZ.h rfl TB.h d_o μ) ?_;refine a_z ?_;refine r_m 3 ?_;refine a_1 ?_;refine o_0 (.bin rfl rfl (ry δ ω)) ?_;refine a_z ?_;refine⟨(m.tdiv 32768,d::l),by simp only;omega,⟨by simp only;omega,?_,?_,χ⟩,?_⟩;intro e he;rcases List.mem_cons.1 he with rfl|he
  exact hd1;exact hd e he;simp only[pI,List.length_cons];rw[hval,hq,Nat.pow_succ,Nat.mul_assoc,Nat.add_assoc,<-Nat.mul_add];congr 2;show m.natAbs=d+32768* (m.natAbs/ 32768);omega;simp only[Fo.eq_1];have e:[[i64 d]]++iE l=iE (d::l):=rfl;refine s_x [] (λhs=>?_) (λhs=>?_)
  ·repeat' (first|exact aF|refine aj rfl ?_ ?_|exact Cv.sealE hs rfl (aP rfl) e χ (dH _)|exact aX)
  ·repeat' (first|exact aD|refine h_c ?_ ?_|exact bG|refine ay ?_|exact ax|refine af ?_ ?_|exact Cv.sealE hs rfl (aP rfl) e χ (dH _)|exact aX)
 have hm0:m=0:=by simpa using h
 subst hm0;refine aB ⟨l,⟨ω,hd,by simpa using hval.symm⟩,?_⟩;simp only[Fo.eq_1];exact s_e [];rintro l ⟨hl,hd,hval⟩;rw[Fo.eq_1];refine r_c 4 (jU s l n ω hd hval hsz) ?_;refine a_z ?_;exact an (c_e (dk _))
theorem Dk{o:Ln}{j d:Nat}(h:o[j]?=some d):o.reverse[o.length- 1- j]?=some d:=by
 have hj:j< o.length:=(List.getElem?_eq_some_iff.1 h).1;rw[List.getElem?_reverse ω,show o.length- 1- (o.length- 1- j)=j by omega];exact h
theorem Dj{o:Ln}{j v:Nat}(hj:j< o.length):o.reverse.set (o.length- 1- j) v=(o.set j v).reverse:=by
 apply List.ext_getElem?;intro i;by_cases hi:i< o.length;rw[List.getElem?_reverse (by simpa using hi),List.getElem?_set,List.getElem?_set,List.length_reverse,List.length_set];by_cases h:o.length- 1- j=i;rw[if_pos h,if_pos ω,if_pos ω,if_pos ω];rw[if_neg h,if_neg ω,List.getElem?_reverse hi];rw[List.getElem?_eq_none (by simpa using hi),List.getElem?_eq_none (by simpa using hi)]
def zmS(x:Int)(y:Int):Ln×Nat->AState
 |(o,i)=>⟨[(2,.lptr 1 0 0),(3,.lptr 2 0 0),(4,.lptr 3 0 0),(5,.lsl 4 0 ((zd x.natAbs).length+(zd y.natAbs).length) (some ((zd x.natAbs).length+(zd y.natAbs).length)) 1),(6,i64 (((zd x.natAbs).length:Int)- 1- i))],
  [(1,some ⟨47,2,[zZ x]⟩),(2,some ⟨47,2,[zZ y]⟩),(3,some ⟨47,2,[[i64 0,.emp]]⟩),(4,some ⟨3,1,iE o.reverse⟩)],5,76⟩
def zmT(x:Int)(y:Int)(i:Nat):Ln×Nat×Nat->AState
 |(o,k,c)=>⟨[(2,.lptr 1 0 0),(3,.lptr 2 0 0),(4,.lptr 3 0 0),(5,.lsl 4 0 ((zd x.natAbs).length+(zd y.natAbs).length) (some ((zd x.natAbs).length+(zd y.natAbs).length)) 1),(6,i64 (((zd x.natAbs).length:Int)- 1- i)),(7,i64 c),(8,i64 (((zd y.natAbs).length:Int)- 1- k))],
  [(1,some ⟨47,2,[zZ x]⟩),(2,some ⟨47,2,[zZ y]⟩),(3,some ⟨47,2,[[i64 0,.emp]]⟩),(4,some ⟨3,1,iE o.reverse⟩)],5,76⟩
structure ZmI (a b:Nat)(x:Ln×Nat):Prop where
 len:x.1.length=(az UB a).length+(az UB b).length
 le:x.2<=(az UB a).length
 dig:∀d∈x.1,d< UB
 val:ofD UB x.1=ofD UB ((az UB a).take x.2) * b
 zer:∀j,x.2+(az UB b).length<=j->j< x.1.length->x.1[j]?=some 0
structure ZmJ (a b i v:Nat)(x:Ln×Nat×Nat):Prop where
 len:x.1.length=(az UB a).length+(az UB b).length
 le:x.2.1<=(az UB b).length
 dig:∀d∈x.1,d< UB
 car:x.2.2< UB
 val:ofD UB x.1+UB^ (i+x.2.1) * x.2.2=ofD UB ((az UB a).take i) * b+UB^ i* v* ofD UB ((az UB b).take x.2.1)
 zer:∀j,i+(az UB b).length<=j->j< x.1.length->x.1[j]?=some 0
theorem sgZ_mul(x y:Int):sgZ (x* y)=sgZ x* sgZ y:=by
 rcases dm x with⟨a,b⟩|⟨a,b⟩|⟨a,b⟩<;> rcases dm y with⟨c,d⟩|⟨c,d⟩|⟨c,d⟩<;> rw[a,c]<;> rcases dm (x* y) with⟨e,f⟩|⟨e,f⟩|⟨e,f⟩<;> rw[e]<;> first|rfl|(exfalso;subst_vars;simp at f;done)|(exfalso;have:=Int.mul_pos_of_neg_of_neg b d;omega)|(exfalso;have:=Int.mul_neg_of_neg_of_pos b d;omega)|(exfalso;have:=Int.mul_neg_of_pos_of_neg b d;omega)|(exfalso;have:=Int.mul_pos b d;omega)
theorem jW(x y:Int)(hx:zl x)(hy:zl y):FS 49 [.agg (zZ x),.agg (zZ y)] (.agg (zZ (x* y))):=by
 have hlx:=wN hx;have hly:=wN hy;have hzx:=cP x.natAbs;have hzy:=cP y.natAbs;obtain⟨a,ha⟩:∃a,a=x.natAbs:=⟨_,rfl⟩;obtain⟨b,hb⟩:∃b,b=y.natAbs:=⟨_,rfl⟩;have va:=bC (b:=UB) δ a;have vb:=bC (b:=UB) δ b
 have hss: -9223372036854775808<=sgZ x* sgZ y/\sgZ x* sgZ y<=9223372036854775807:=by
  rcases dm x with⟨h,_⟩|⟨h,_⟩|⟨h,_⟩<;> rcases dm y with⟨h',_⟩|⟨h',_⟩|⟨h',_⟩<;> rw[h,h']<;> decide
 refine f_c Tryz.func49 ?_;subst ha hb;refine r_z 3 ?_;refine r_z 9 ?_;refine ac (r_z 5 ?_);refine aG (zmS x y) (λv=>ZmI x.natAbs y.natAbs v/\v.2=(az UB x.natAbs).length) ?_ ?_;refine ak (aC (zmS x y) (λv=>(az UB x.natAbs).length- v.2) (ZmI x.natAbs y.natAbs) (List.replicate ((az UB x.natAbs).length+(az UB y.natAbs).length) 0,0) ⟨ψ,ψ,?_,by simp[qI,ofD],?_⟩ ?_ ?_);intro d hd;simp at hd;rw[hd.2];decide;intro j _ hj;simp at hj;simp[hj];simp only[zmS.eq_1];refine s_x [(1,2),(2,3),(3,4),(4,5)] (λhs=>?_) (λhs=>?_) ?_
 ·repeat' (first|exact aF|refine aj rfl ?_ ?_|exact aX|(refine Cv.loE hs ?_ (ag _);first|rfl|(simp[i64,u64,u32,bln,hzx,hzy];done)|(simp[i64,u64,u32,bln,hzx,hzy]<;> omega)))
 ·repeat' (first|exact aD|refine h_c ?_ ?_|exact bG|(refine aI hs ?_ (dH _);first|(simp[og,nw,ji,hzx,hzy];done)|(simp[iE,i64,ofV,hzx,hzy];done))|refine ay ?_|exact ax|refine af ?_ ?_|exact aX|(refine Cv.loE hs ?_ (ag _);first|(simp[i64,u64,u32,bln,hzx,hzy];done)|(simp[i64,u64,u32,bln,hzx,hzy]<;> omega)))
 ·repeat' (first|exact ShrL.nil|refine ShrL.cons rfl rfl rfl rfl (by first|rfl|(simp;done)|(simp[hzx,hzy]<;> omega)) ?_)
 rintro⟨o,i⟩ ⟨hlen,hle,hdig,hval,hzer⟩;simp only at hlen hle hdig hval hzer;rw[zmS.eq_1];refine ac (r_z 2 ?_);refine aw rfl (λh=>?_) (λh=>?_);have hlt:i< (az UB x.natAbs).length:=by have:=of_decide_eq_true h;omega
 obtain⟨u,hu⟩:∃u,(az UB x.natAbs)[i]?=some u:=⟨_,List.getElem?_eq_getElem hlt⟩;have hu1:u< 32768:=cQ δ hu
 have hu':(iE (zd x.natAbs))[(((zd x.natAbs).length:Int)- 1- i).toNat]?=some [i64 u]:=by
  rw[show(((zd x.natAbs).length:Int)- 1- i).toNat=(az UB x.natAbs).length- 1- i by omega];exact j8 (wO hu)
 refine am (ac (ak (r_z 1 ?_)));refine ac (r_z 5 ?_);refine aG (zmT x y i) (λv=>ZmJ x.natAbs y.natAbs i u v/\v.2.1=(az UB y.natAbs).length) ?_ ?_;refine ak (aC (zmT x y i) (λv=>(az UB y.natAbs).length- v.2.1) (ZmJ x.natAbs y.natAbs i u) (o,0,0) ⟨hlen,ψ,hdig,(show 0< UB by decide),by simp[hval,ofD],hzer⟩ ?_ ?_);simp only[zmT.eq_1];exact s_e [];rintro⟨q,k,c⟩ ⟨jlen,jle,jdig,jcar,jval,jzer⟩;simp only at jlen jle jdig jcar jval jzer;rw[zmT.eq_1];refine ac (r_z 2 ?_);refine aw rfl (λh=>?_) (λh=>?_);have hltk:k< (az UB y.natAbs).length:=by have:=of_decide_eq_true h;omega
 obtain⟨v,hv⟩:∃v,(az UB y.natAbs)[k]?=some v:=⟨_,List.getElem?_eq_getElem hltk⟩;have hv1:v< 32768:=cQ δ hv
 have hv':(iE (zd y.natAbs))[(((zd y.natAbs).length:Int)- 1- k).toNat]?=some [i64 v]:=by
  rw[show(((zd y.natAbs).length:Int)- 1- k).toNat=(az UB y.natAbs).length- 1- k by omega];exact j8 (wO hv)
 obtain⟨d,hd⟩:∃d,q[i+k]?=some d:=⟨_,List.getElem?_eq_getElem ω⟩;have hd1:d< 32768:=jdig d (List.mem_of_getElem? hd);have hc1:c< 32768:=jcar;have hidx:(((zd x.natAbs).length:Int)- 1- i+(((zd y.natAbs).length:Int)- 1- k)+1).toNat=q.length- 1- (i+k):=ω
 have hg:(iE q.reverse)[0+(((zd x.natAbs).length:Int)- 1- i+(((zd y.natAbs).length:Int)- 1- k)+1).toNat]?=some [i64 d]:=by rw[hidx,Nat.zero_add];exact j8 (Dk hd)
 have hset:∀w:Nat,(iE q.reverse).set (0+(((zd x.natAbs).length:Int)- 1- i+(((zd y.natAbs).length:Int)- 1- k)+1).toNat) [i64 w]=iE (q.set (i+k) w).reverse:=by intro w;rw[hidx,Nat.zero_add,og,Dj ω]
 have hxy0:u* v<=32767* 32767:=Nat.mul_le_mul ω ω;have hxyi:(u:Int) * v=((u* v:Nat):Int):=by push_cast;rfl
 refine am ?_;have hxyn:0<=(u:Int) * v:=Int.mul_nonneg ω ω;refine ac (ak (ac (r_d hmix 22 ?_)));refine a_5 ?_
 first|refine av (.index_l rfl rfl ω ω te_45.h) rfl rfl ?_|refine av (.index_a rfl rfl ω hg rfl te_45.h) rfl rfl ?_
 first|refine av (.load_l1 rfl rfl hg TG.h rfl) rfl rfl ?_|refine av (.load_a1 rfl hg TG.h rfl) rfl rfl ?_
 refine a_3 ?_;refine i_x hu' ?_;refine l_1 hu' ?_;refine a_3 ?_;refine i_x hv' ?_;refine l_1 hv' ?_;refine a_5 ?_;refine ao (n_k ?_);refine s_r 9 ?_;refine a_8 ?_;refine ee (.store rfl rfl hg rfl rfl rfl TS.h (nle rfl)) ?_;refine ao ?_;refine r_m 3 ?_;refine a_z ?_;refine r_m 3 ?_;refine a_z ?_;have hm:((d:Int)+(u:Int) * v+c) % 32768=(((d+u* v+c) % 32768:Nat):Int):=by rw[hxyi];omega
 have hq:((d:Int)+(u:Int) * v+c) / 32768=(((d+u* v+c) / 32768:Nat):Int):=by rw[hxyi];omega
 refine⟨(q.set (i+k) ((d+u* v+c) % 32768),k+1,(d+u* v+c) / 32768),χ,⟨by simp[jlen],χ,sO jdig (Nat.mod_lt _ δ),?_,?_,?_⟩,?_⟩;show _< 32768;simp only;omega;simp only;have e1:=px UB ((d+u* v+c) % 32768) hd;have e2:=Nat.mod_add_div (d+u* v+c) 32768
 have e3:UB^ (i+k) * ((d+u* v+c) % 32768)+UB^ (i+(k+1)) * ((d+u* v+c) / 32768)=UB^ (i+k) * d+UB^ (i+k) * (u* v)+UB^ (i+k) * c:=by
  rw[<-Nat.add_assoc i k 1,Nat.pow_succ,Nat.mul_assoc,<-Nat.mul_add,show UB* ((d+u* v+c) / 32768)=32768* ((d+u* v+c) / 32768) from rfl,e2,Nat.mul_add,Nat.mul_add]
 have e4:UB^ i* u* ofD UB ((az UB y.natAbs).take (k+1))=UB^ i* u* ofD UB ((az UB y.natAbs).take k)+UB^ (i+k) * (u* v):=by
  rw[c7 _ hv,Nat.mul_add];congr 1;rw[Nat.pow_add];simp only[Nat.mul_assoc,Nat.mul_left_comm,Nat.mul_comm]
 rw[e4];omega;intro j hj hj2;rw[List.getElem?_set_ne ω];exact jzer j hj (by simpa using hj2);simp only[zmT.eq_1];have hset2:=hset ((d+u* v+c) % 32768);rw[<-hm] at hset2;refine s_x [] (λhs=>?_) (λhs=>?_) ?_
 ·repeat' (first|exact aF|refine aj rfl ?_ ?_|exact Cv.loE hs (congrArg (λz=>AV.v (.int .i64 z)) hq) (ag _)|exact aX)
 ·repeat' (first|exact aD|refine h_c ?_ ?_|exact aI hs hset2 (dH _)|exact bG|refine ay ?_|exact ax|refine af ?_ ?_|exact Cv.loE hs (congrArg (λz=>AV.v (.int .i64 z)) hq) (ag _)|exact aX)
 ·repeat' (first|exact ShrL.nil|refine ShrL.cons rfl rfl rfl rfl (by first|(exact congrArg List.length hset2)|rfl|(simp;done)|(simp <;> omega)) ?_)
 have hk:k=(az UB y.natAbs).length:=by have:=of_decide_eq_false h;omega
 refine aB ⟨(q,k,c),⟨⟨jlen,jle,jdig,jcar,jval,jzer⟩,hk⟩,?_⟩;simp only[zmT.eq_1];exact s_e [];rintro⟨q,k,c⟩ ⟨⟨jlen,jle,jdig,jcar,jval,jzer⟩,hk⟩;simp only at jlen jle jdig jcar jval jzer hk;subst hk;have hc1:c< 32768:=jcar;have hz:=jzer (i+(az UB y.natAbs).length) (Nat.le_refl _) ω;have hidx:(((zd x.natAbs).length:Int)- 1- i).toNat=q.length- 1- (i+(az UB y.natAbs).length):=ω
 have hg:(iE q.reverse)[0+(((zd x.natAbs).length:Int)- 1- i).toNat]?=some [i64 0]:=by rw[hidx,Nat.zero_add];exact j8 (Dk hz)
 have hset:(iE q.reverse).set (0+(((zd x.natAbs).length:Int)- 1- i).toNat) [i64 c]=iE (q.set (i+(az UB y.natAbs).length) c).reverse:=by rw[hidx,Nat.zero_add,og,Dj ω]
 rw[List.take_length,vb] at jval;rw[zmT.eq_1];refine r_m 5 ?_;refine a_4 ?_;refine ee (.store rfl rfl hg rfl rfl rfl TS.h (nle rfl)) ?_;refine ao ?_;refine r_m 3 ?_;refine a_z ?_;refine⟨(q.set (i+(az UB y.natAbs).length) c,i+1),χ,⟨by simp[jlen],χ,sO jdig jcar,?_,?_⟩,?_⟩;simp only;have e1:=px UB c hz;rw[c7 _ hu,Nat.add_mul,<-jval];omega;intro j hj hj2;rw[List.getElem?_set_ne (by simp only at hj;omega)];exact jzer j (by simp only at hj;omega) (by simpa using hj2);simp only[zmS.eq_1];refine s_x [] (λhs=>cN) (λhs=>?_) e_41
 ·repeat' (first|exact aD|refine h_c ?_ ?_|refine aI hs hset (dH _)|exact bG)
 have hi:i=(az UB x.natAbs).length:=by have:=of_decide_eq_false h;omega
 refine aB ⟨(o,i),⟨⟨hlen,hle,hdig,hval,hzer⟩,hi⟩,?_⟩;simp only[zmS.eq_1];exact s_e [];rintro⟨o,i⟩ ⟨⟨hlen,hle,hdig,hval,hzer⟩,hi⟩;simp only at hlen hle hdig hval hzer hi;subst hi;rw[List.take_length,va] at hval;rw[zmS.eq_1];have hol:o.length=(zd x.natAbs).length+(zd y.natAbs).length:=ω
 have hw:=jU (sgZ x* sgZ y) o.reverse (x* y) χ (λd h=>hdig d (List.mem_reverse.1 h)) (by unfold hv;rw[List.reverse_reverse,hval,Int.natAbs_mul]) (λ_=>(sgZ_mul x y).symm);have hfull:((iE o.reverse).drop 0).take ((zd x.natAbs).length+(zd y.natAbs).length)=iE o.reverse:=by rw[List.drop_zero,List.take_of_length_le χ]
 refine s_r 8 ?_;refine a_4 ?_;refine o_0 (.bin rfl rfl (vm hss)) ?_;refine a_1 ?_;refine o_1 (.callS1 rfl rfl rfl (.keep (.shut rfl d_n (.nil))) rfl ((by rw[hfull];exact hw))) ?_;refine a_z ?_;exact an (c_e (dk _))
theorem E7{b:Nat}(hb:1< b):∀(j n:Nat),(az b n)[j]?.getD 0=n/ b^ j % b:=by
 intro j
 induction j with
 |zero=>
  intro n;rcases Nat.eq_zero_or_pos n with rfl|hn
  rw[cz];simp;rw[ez hb hn];simp
 |succ j ih=>
  intro n;rcases Nat.eq_zero_or_pos n with rfl|hn
  rw[cz];simp;rw[ez hb hn,List.getElem?_cons_succ,ih,Nat.div_div_eq_div_mul,Nat.pow_succ,Nat.mul_comm b]
def Cj(n:Nat)(long:Nat)(k:Nat):Nat->AState
 |i=>⟨[(0,.arr (iE (zd n))),(1,i64 long),(2,i64 k),(7,i64 (n/ UB^ (long- i):Nat)),(8,i64 i)],[],1,24⟩
theorem pT(n long k:Nat)(hk:k<=4)(hkl:k<=long)(hn:n< UB^ long)(hl:(zd n).length<=281474976710656)(hlo:long<=281474976710656):FS 254 [.arr (iE (zd n)),i64 long,i64 k] (i64 (n/ UB^ (long- k):Nat)):=by
 have bound:∀i,i<=k->n/ UB^ (long- i)< 1152921504606846976:=by
  intro i hi
  have h1:n/ UB^ (long- i)< UB^ i:=by
   rw[Nat.div_lt_iff_lt_mul (Nat.pow_pos δ),<-Nat.pow_add,show i+(long- i)=long by omega];exact hn
  exact Nat.lt_of_lt_of_le h1 (Nat.pow_le_pow_right (n:=32768) (j:=4) δ ω)
 refine f_c Tryz.func254 ?_;refine r_z 1 ?_;refine r_z 1 ?_;refine ac (r_z 1 ?_);refine aG (Cj n long k) (λi=>i=k) ?_ ?_;refine ak (aC (Cj n long k) (λi=>k- i) (λi=>i<=k) 0 (Nat.zero_le _) ?_ ?_);simp only[Cj.eq_1];have e:AV.v (.int .i64 0)=i64 (n/ UB^ (long- 0):Nat):=by rw[Nat.sub_zero,Nat.div_eq_of_lt hn];rfl
 exact s_f [];intro i hi;rw[Cj.eq_1];refine ac (r_z 3 ?_);refine aw rfl (λh=>?_) (λh=>?_);have hlt:i< k:=by simpa using h
 have hd:=uu (zd n) (long- 1- i) hl;unfold zd at hd;rw[List.reverse_reverse,E7 δ,show((long- 1- i:Nat):Int)=(long:Int)- 1- i by omega] at hd;have e1:=Nat.div_add_mod (n/ UB^ (long- 1- i)) UB;rw[Nat.div_div_eq_div_mul,<-Nat.pow_succ,show(long- 1- i).succ=long- i by omega] at e1;have hb:=bound (i+1) hlt;rw[show long- (i+1)=long- 1- i by omega] at hb;have hlt2:n/ UB^ (long- 1- i) % UB< 32768:=Nat.mod_lt _ δ;obtain⟨V,hV⟩:∃V,V=n/ UB^ (long- i):=⟨_,rfl⟩;obtain⟨D,hD⟩:∃D,D=n/ UB^ (long- 1- i) % UB:=⟨_,rfl⟩;have hVb:V< 1152921504606846976:=by rw[hV];exact bound i hi
 rw[<-hV,<-hD] at e1;rw[<-hD] at hd hlt2;rw[<-hV];have e3:32768* V+D=n/ UB^ (long- 1- i):=e1
 have e2:(V:Int) * 32768+D=((n/ UB^ (long- (i+1)):Nat):Int):=by
  rw[show long- (i+1)=long- 1- i by omega,<-e3];omega
 have hbb:V* 32768+D< 1152921504606846976:=ω
 refine am (ac (ak (r_m 10 ?_)));refine c_s (hd) ?_;refine a_z ?_;refine r_m 3 ?_;refine a_z ?_;refine⟨i+1,ω,hlt,?_⟩;simp only[Cj.eq_1];have:=(congrArg (λz=>AV.v (.int .i64 z)) e2);exact s_f [];have hge:i=k:=by simp at h;omega
 refine aB ⟨i,hge,?_⟩;simp only[Cj.eq_1];exact s_e [];rintro i rfl;rw[Cj.eq_1];refine r_z 2 ?_;refine an (aR rfl rfl (ag _))
def tz(D:Nat):Nat×Nat->AState
 |(R,k)=>⟨[(0,.arr (iE (zd R))),(1,.arr (iE (zd D))),(6,i64 k)],[],1,57⟩
theorem est_le{R D e:Nat}(he:0< e):R/ e/ (D/ e+1) * D<=R:=by
 have h1:R/ e/ (D/ e+1) * (D/ e+1)<=R/ e:=Nat.div_mul_le_self _ _;have h2:R/ e* e<=R:=Nat.div_mul_le_self _ _
 have h3:D< (D/ e+1) * e:=by
  have:=Nat.lt_mul_div_succ D he;rw[Nat.mul_comm];exact this
 have h4:R/ e/ (D/ e+1) * D<=R/ e/ (D/ e+1) * ((D/ e+1) * e):=Nat.mul_le_mul_left _ (Nat.le_of_lt h3)
 have h5:R/ e/ (D/ e+1) * ((D/ e+1) * e)<=R/ e* e:=by
  rw[<-Nat.mul_assoc];exact Nat.mul_le_mul_right _ h1
 omega
theorem zZ_pos{D:Nat}(h:0< D):zZ (D:Int)=[i64 1,.arr (iE (zd D))]:=by
 unfold zZ sgZ;rw[if_neg ω,if_neg ω,Int.natAbs_natCast]
theorem Hf(R D:Nat)(hD:0< D)(hR:R< UB* D)(hb:bl D<=4398046511104):FS 225 [.arr (iE (zd R)),.arr (iE (zd D))] (.tup [i64 (R/ D:Nat),.arr (iE (zd (R % D)))]):=by
 have hzR:=cP R;have hzD:=cP D;have hlD:=bR (b:=UB) δ D;have hlR:=bR (b:=UB) δ R
 have hbR:bl R<=bl D+16:=by
  have h1:=dL (Nat.le_of_lt hR);have h2:=gV UB D;have h3:bl UB=16:=δ
  omega
 obtain⟨n,hn⟩:∃n,n=(zd D).length:=⟨_,rfl⟩
 have hn1:1<=n:=by
  have:zd D≠[]:=λh=>by have:=zd_eq_nil.1 h;omega
  have:=List.length_pos_iff.2 this;omega
 have hDn:D< UB^ n:=by
  have:=DG (jb D);rwa[jT,<-hn] at this
 have hRn:R< UB^ (n+1):=by
  rw[Nat.pow_succ,Nat.mul_comm];exact Nat.lt_of_lt_of_le hR (Nat.mul_le_mul_left _ (Nat.le_of_lt hDn))
 have hRk:∀k,k* D<=R->k< UB:=by
  intro k hk;refine Nat.lt_of_not_le λh=>?_;have:=Nat.mul_le_mul_right D h;omega
 refine f_c Tryz.func225 ?_;refine r_z 2 ?_;refine r_z 1 ?_;refine r_z 3 ?_;refine bi (λk:Nat=>tz D (R,k)) (λk=>k* D<=R) ?_ ?_;refine r_z 4 ?_;refine aw rfl (λh=>?_) (λh=>?_);have hge:(zd D).length<=(zd R).length:=by simpa using h
 refine r_z 2 ?_;refine aw rfl (λh1=>?_) (λh1=>?_);have h3:n<=3:=by rw[hn];have:=of_decide_eq_true h1;omega
 have f1:=pT R (n+1) (n+1) ω (Nat.le_refl _) hRn ω ω;have f2:=pT D n n ω (Nat.le_refl _) hDn ω ω;rw[Nat.sub_self,Nat.pow_zero,Nat.div_one] at f1 f2;rw[hn] at f1 f2;have hq:(R:Int) / D=(R/ D:Nat):=(Int.natCast_ediv _ _).symm;have hR60:R< 1152921504606846976:=Nat.lt_of_lt_of_le hRn (Nat.pow_le_pow_right (n:=32768) (j:=4) δ ω);refine r_m 12 ?_;refine c_s (f1) ?_;refine c_s (f2) ?_;refine a_z ?_;refine⟨R/ D,Nat.div_mul_le_self _ _,?_⟩;simp only[tz.eq_1];have:=(congrArg (λz=>AV.v (.int .i64 z)) hq);exact s_f [];have h3:3< n:=by rw[hn];have:=of_decide_eq_false h1;omega
 have f1:=pT R (n+1) 4 ω ω hRn ω ω;have f2:=pT D n 3 ω ω hDn ω ω;rw[show n+1- 4=n- 3 by omega] at f1;obtain⟨e,he⟩:∃e,e=UB^ (n- 3):=⟨_,rfl⟩;have hep:0< e:=by rw[he];exact Nat.pow_pos δ
 rw[<-he] at f1 f2
 have hR4:R/ e< 1152921504606846976:=by
  rw[Nat.div_lt_iff_lt_mul hep,he];have h4:UB^ 4=1152921504606846976:=δ
  have:UB^ (n+1)=1152921504606846976* UB^ (n- 3):=by
   rw[show n+1=4+(n- 3) by omega,Nat.pow_add,h4]
  omega
 have hD3:D/ e< 35184372088832:=by
  rw[Nat.div_lt_iff_lt_mul hep,he];have h4:UB^ 3=35184372088832:=δ
  have:UB^ n=35184372088832* UB^ (n- 3):=by
   rw[<-h4,<-Nat.pow_add];congr 1;omega
  omega
 rw[hn] at f1 f2
 have hq:((R/ e:Nat):Int) / (((D/ e:Nat):Int)+1)=(R/ e/ (D/ e+1):Nat):=by
  rw[show(((D/ e:Nat):Int)+1)=((D/ e+1:Nat):Int) by omega];exact(Int.natCast_ediv _ _).symm
 have hle:=est_le (R:=R) (D:=D) hep;obtain⟨A,hA⟩:∃A,A=R/ e:=⟨_,rfl⟩;obtain⟨B,hB⟩:∃B,B=D/ e:=⟨_,rfl⟩;rw[<-hA] at f1 hR4 hq hle;rw[<-hB] at f2 hD3 hq hle;refine r_m 10 ?_;refine c_s (f1) ?_;refine c_s (f2) ?_;refine a_z ?_;refine⟨A/ (B+1),hle,?_⟩;simp only[tz.eq_1];have:=(congrArg (λz=>AV.v (.int .i64 z)) hq);exact s_f [];refine am ⟨0,ψ,?_⟩;simp only[tz.eq_1];exact s_e [];rintro k hk;have hkU:=hRk k hk;have hkU':k< 32768:=hkU;rw[tz.eq_1];refine bi (λ_:Unit=>tz D (R- k* D,k)) (λ_=>True) ?_ ?_;refine r_z 2 ?_;refine aw rfl (λh1=>?_) (λh1=>?_)
 have hzk:zl (k:Int):=by
  unfold zl;rw[Int.natAbs_natCast];have:=jc (n:=k) (k:=15) ω;omega
 have hzD:zl (D:Int):=by unfold zl;rw[Int.natAbs_natCast];omega
 have hm:=jW (k:Int) (D:Int) hzk hzD;rw[zZ_pos hD] at hm;have hkD:((k:Int) * (D:Int)).natAbs=k* D:=by rw[<-Int.natCast_mul,Int.natAbs_natCast]
 have hbk:bl (k* D)<=bl D+16:=by
  have:=dL hk;omega
 have hlk:=bR (b:=UB) δ (k* D);have hbo:=pV R (k* D) (-1) (R- k* D) (.inr rfl) ω ω (by rw[cP];omega);rw[<-hkD] at hbo;rw[hkD] at hbo;refine r_m 9 ?_;refine c_s (lH k ω) ?_;refine c_s (hm) ?_
 first|refine av (.field rfl TF.h TA.h (nle rfl)) rfl rfl ?_|refine av (.field1 rfl TF.h TA.h rfl) rfl rfl ?_
 refine o_0 (.call rfl rfl rfl ((by rw[hkD];exact hbo))) ?_;refine o_0 (.assign rfl) ?_;refine ao ?_;refine⟨(),trivial,?_⟩;simp only[tz.eq_1];exact s_e [];have hk0:k=0:=by simp at h1;omega
 subst hk0;refine am ⟨(),trivial,?_⟩;simp only[tz.eq_1,Nat.zero_mul,Nat.sub_zero];exact s_e [];rintro _ _;rw[tz.eq_1];refine bi (tz D) (λv=>v.1=R % D/\v.2=R/ D) ?_ ?_;refine ak (aC (tz D) (λv=>v.1) (λv=>v.1+v.2* D=R/\v.1<=R) (R- k* D,k) ⟨by simp only;omega,by simp only;omega⟩ ?_ ?_);simp only[tz.eq_1];exact s_e [];rintro⟨R',k'⟩ ⟨hv,hle⟩;simp only at hv hle;have hbR':bl R'<=bl D+16:=by have:=dL hle;omega
 have hlR':=bR (b:=UB) δ R';have hzR':=cP R';have hk':=hRk k' ω;have hk'':k'< 32768:=hk';rw[tz.eq_1];refine ac (r_c 4 (Ac R' D ω ω) ?_);refine a_z ?_;refine aw rfl (λh=>?_) (λh=>?_)
 have hge:D<=R':=by
  have:=of_decide_eq_true h;unfold fk at this;split at this <;> omega
 refine am (ak (r_c 4 (pV R' D (-1) (R'- D) (.inr rfl) ω ω ω) ?_));refine a_z ?_;refine r_m 3 ?_;refine a_z ?_;refine⟨(R'- D,k'+1),by simp only;omega,⟨by simp only;rw[Nat.add_mul];omega,by simp only;omega⟩,?_⟩;simp only[tz.eq_1];exact s_e []
 have hlt:R'< D:=by
  have:=of_decide_eq_false h;unfold fk at this;split at this;omega;split at this <;> omega
 refine aB ⟨(R',k'),⟨?_,?_⟩,?_⟩;simp only;rw[<-hv,Nat.add_mul_mod_self_right,Nat.mod_eq_of_lt hlt];simp only;rw[<-hv,Nat.add_mul_div_right _ _ hD,Nat.div_eq_of_lt hlt,Nat.zero_add];simp only[tz.eq_1];exact s_e [];rintro⟨R',k'⟩ ⟨h1,h2⟩;simp only at h1 h2;subst h1 h2;rw[tz.eq_1];refine r_z 4 ?_;refine an (Fin.many ⟨_,_,rfl,rfl,⟨_,_,rfl,rfl,rfl⟩⟩ (nle rfl) ?_);exact af (ah aE (ag _)) (af (ah aE (eM _)) ax)
end Go.Proofs.YtjgokhkahkmpbaaGreatDoor
