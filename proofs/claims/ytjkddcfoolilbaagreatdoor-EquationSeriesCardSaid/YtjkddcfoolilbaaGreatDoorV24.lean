/- Part V24 of the proof. -/
import Derived.Test.YtjkddcfoolilbaaGreatDoorV23
set_option linter.all false
namespace Go.Proofs.YtjkddcfoolilbaaGreatDoor
open Go.Abs
set_option maxRecDepth 20000
def zintS(s:Int):Int×List Nat→AState
 |(n,l)=>⟨[(0,i64 n),(2,.lptr 1 0 0),(3,i64 s),(4,.arr (iE l))],[(1,some ⟨49,2,[[i64 0,.emp]]⟩)],2,25⟩
theorem f7_(n:Int)(h: -9223372036854775808≤n∧n≤9223372036854775807):FS 109 [i64 n] (.agg (zZ n)):=by
 obtain⟨s,hs⟩:∃s:Int,s=if n< 0 then -1 else 1:=⟨_,rfl⟩
 have hsz:n≠0→s=sgZ n:=by
  intro h0;rw[hs];unfold sgZ;rw[if_neg h0]
 refine f_c Tryz.func109 ?_;refine r_z 1 ?_;refine r_z 1 ?_;refine aP_ (fun _:Unit=>⟨[(0,i64 n),(2,.lptr 1 0 0),(3,i64 s)],[(1,some ⟨49,2,[[i64 0,.emp]]⟩)],2,25⟩) (fun _=>True) ?_ ?_;refine r_z 2 ?_;refine aj_ rfl (fun h1=>?_) (fun h1=>?_);have hn:n< 0:=by simpa using h1
 rw[hs,if_pos hn];refine r_m 1 ?_;refine a_z ?_;refine⟨(),trivial,?_⟩;exact s_e [];have hn:¬n< 0:=by simpa using h1
 rw[hs,if_neg hn];refine ah_ ⟨(),trivial,?_⟩;exact s_e [];rintro _ _;refine r_z 1 ?_;refine aP_ (fun l:List Nat=>zintS s (0,l)) (fun l=>l.length≤10∧(∀d∈l,d< UB)∧hv l=n.natAbs) ?_ ?_;refine ae_ (aq_ (zintS s) (fun x=>x.1.natAbs) (fun x=>(-9223372036854775808≤x.1∧x.1≤9223372036854775807)∧(∀d∈x.2,d< UB)∧n.natAbs=hv x.2+UB^ x.2.length* x.1.natAbs∧x.2.length≤5) (n,[]) ⟨h,by simp,by simp[lZ_],by simp⟩ ?_ ?_);simp only[zintS.eq_1];exact s_e [(1,2)];rintro⟨m,l⟩ ⟨hm,hd,hval,hl6⟩;simp only at hm hd hval hl6;rw[zintS.eq_1];refine ab_ (r_z 2 ?_);refine aj_ rfl (fun h=>?_) (fun h=>?_)
 ·have hm0:m≠0:=by simpa using h
  have hl:l.length≤4:=by
   refine Nat.le_of_not_lt fun h5=>?_;have h6:UB^ 5≤UB^ l.length:=Nat.pow_le_pow_right (by decide) h5;have h7:UB^ l.length* 1≤UB^ l.length* m.natAbs:=Nat.mul_le_mul_left _ (by omega);have h8:UB^ 5=37778931862957161709568:=by decide
   omega
  obtain⟨d,hdm⟩:∃d,d=m.natAbs % 32768:=⟨_,rfl⟩;have hd1:d< 32768:=by omega
  have hr:(m.tmod 32768).natAbs=d:=by rw[Int.natAbs_tmod,hdm];rfl
  have hq:(m.tdiv 32768).natAbs=m.natAbs/ 32768:=by rw[Int.natAbs_tdiv];rfl
  have hlq:m.natAbs/ 32768< m.natAbs:=Nat.div_lt_self (by omega) (by decide);have hdm2:=Nat.div_add_mod m.natAbs 32768;refine ah_ (ae_ (s_r 3 ?_));refine a_1 ?_;refine o_0 (.bin rfl rfl (sV_ (by decide))) ?_;refine a_z ?_;refine aP_ (fun _:Unit=>⟨[(0,i64 m),(2,.lptr 1 0 0),(3,i64 s),(4,.arr (iE l)),(5,i64 d)],[(1,some ⟨49,2,[[i64 0,.emp]]⟩)],2,25⟩) (fun _=>True) ?_ ?_;refine r_z 2 ?_;refine aj_ rfl (fun h1=>?_) (fun h1=>?_);have hneg:m.tmod 32768< 0:=by simpa using h1
  refine r_m 3 ?_;refine a_z ?_;have e: -m.tmod 32768=d:=by omega
  refine⟨(),trivial,?_⟩;have:=(congrArg (fun z=>AV.v (.int .i64 z)) e);exact s_f [];have hneg:¬m.tmod 32768< 0:=by simpa using h1
  have e:m.tmod 32768=d:=by omega
  refine ah_ ⟨(),trivial,?_⟩;have:=(congrArg (fun z=>AV.v (.int .i64 z)) e);exact s_f [];rintro _ _;refine s_r 5 ?_;refine a_3 ?_;refine o_2 (.append_l rfl rfl rfl te_47.h rfl rfl rfl rfl rfl d_o (by first|exact cU_ _|exact cT_ _|exact ci_ _|exact cV_ _|exact cD_ _|assumption|rfl|simp) (by first|rfl|exact cU_ _|exact cT_ _|exact ci_ _|exact cV_ _|exact cD_ _|simp) rfl (.arr (f5_ _)) TZ.h rfl TB.h d_o (by first|(simp[maxLen];done)|(simp[maxLen];omega))) ?_;refine a_z ?_;refine r_m 3 ?_;refine a_1 ?_;refine o_0 (.bin rfl rfl (jp_ (by decide) (by omega))) ?_;refine a_z ?_;refine⟨(m.tdiv 32768,d::l),by simp only;omega,⟨by simp only;omega,?_,?_,by simp;omega⟩,?_⟩;intro e he;rcases List.mem_cons.1 he with rfl|he
  exact hd1;exact hd e he;simp only[iR_,List.length_cons];rw[hval,hq,Nat.pow_succ,Nat.mul_assoc,Nat.add_assoc,←Nat.mul_add];congr 2;show m.natAbs=d+32768* (m.natAbs/ 32768);omega;simp only[zintS.eq_1];have e:[[i64 d]]++iE l=iE (d::l):=rfl;refine s_x [] (fun hs=>?_) (fun hs=>?_)
  ·repeat' (first|exact aH_|refine ap_ rfl ?_ ?_|exact Cv.sealE hs rfl (aK_ rfl) e (by simp;omega) (bP_ _)|exact au_c)
  ·repeat' (first|exact az_|refine h_c ?_ ?_|exact au_e|refine av_ ?_|exact an_|refine ai_ ?_ ?_|exact Cv.sealE hs rfl (aK_ rfl) e (by simp;omega) (bP_ _)|exact au_c)
 have hm0:m=0:=by simpa using h
 subst hm0;refine ao_ ⟨l,⟨by omega,hd,by simpa using hval.symm⟩,?_⟩;simp only[zintS.eq_1];exact s_e [];rintro l ⟨hl,hd,hval⟩;rw[zintS.eq_1];refine r_c 4 (e7_ s l n (by omega) hd hval hsz) ?_;refine a_z ?_;exact af_ (c_e (bx_ _))
theorem q3_{o:List Nat}{j d:Nat}(h:o[j]?=some d):o.reverse[o.length- 1- j]?=some d:=by
 have hj:j< o.length:=(List.getElem?_eq_some_iff.1 h).1;rw[List.getElem?_reverse (by omega),show o.length- 1- (o.length- 1- j)=j by omega];exact h
theorem q2_{o:List Nat}{j v:Nat}(hj:j< o.length):o.reverse.set (o.length- 1- j) v=(o.set j v).reverse:=by
 apply List.ext_getElem?;intro i;by_cases hi:i< o.length;rw[List.getElem?_reverse (by simpa using hi),List.getElem?_set,List.getElem?_set,List.length_reverse,List.length_set];by_cases h:o.length- 1- j=i;rw[if_pos h,if_pos (by omega),if_pos (by omega),if_pos (by omega)];rw[if_neg h,if_neg (by omega),List.getElem?_reverse hi];rw[List.getElem?_eq_none (by simpa using hi),List.getElem?_eq_none (by simpa using hi)]
def zmS(x:Int)(y:Int):List Nat×Nat→AState
 |(o,i)=>⟨[(2,.lptr 1 0 0),(3,.lptr 2 0 0),(4,.lptr 3 0 0),(5,.lsl 4 0 ((zd x.natAbs).length+(zd y.natAbs).length) (some ((zd x.natAbs).length+(zd y.natAbs).length)) 1),(6,i64 (((zd x.natAbs).length:Int)- 1- i))],
  [(1,some ⟨49,2,[zZ x]⟩),(2,some ⟨49,2,[zZ y]⟩),(3,some ⟨49,2,[[i64 0,.emp]]⟩),(4,some ⟨3,1,iE o.reverse⟩)],5,76⟩
def zmT(x:Int)(y:Int)(i:Nat):List Nat×Nat×Nat→AState
 |(o,k,c)=>⟨[(2,.lptr 1 0 0),(3,.lptr 2 0 0),(4,.lptr 3 0 0),(5,.lsl 4 0 ((zd x.natAbs).length+(zd y.natAbs).length) (some ((zd x.natAbs).length+(zd y.natAbs).length)) 1),(6,i64 (((zd x.natAbs).length:Int)- 1- i)),(7,i64 c),(8,i64 (((zd y.natAbs).length:Int)- 1- k))],
  [(1,some ⟨49,2,[zZ x]⟩),(2,some ⟨49,2,[zZ y]⟩),(3,some ⟨49,2,[[i64 0,.emp]]⟩),(4,some ⟨3,1,iE o.reverse⟩)],5,76⟩
structure ZmI (a b:Nat)(x:List Nat×Nat):Prop where
 len:x.1.length=(digs UB a).length+(digs UB b).length
 le:x.2≤(digs UB a).length
 dig:∀d∈x.1,d< UB
 val:ofD UB x.1=ofD UB ((digs UB a).take x.2) * b
 zer:∀j,x.2+(digs UB b).length≤j→j< x.1.length→x.1[j]?=some 0
structure ZmJ (a b i v:Nat)(x:List Nat×Nat×Nat):Prop where
 len:x.1.length=(digs UB a).length+(digs UB b).length
 le:x.2.1≤(digs UB b).length
 dig:∀d∈x.1,d< UB
 car:x.2.2< UB
 val:ofD UB x.1+UB^ (i+x.2.1) * x.2.2=ofD UB ((digs UB a).take i) * b+UB^ i* v* ofD UB ((digs UB b).take x.2.1)
 zer:∀j,i+(digs UB b).length≤j→j< x.1.length→x.1[j]?=some 0
theorem sgZ_mul(x y:Int):sgZ (x* y)=sgZ x* sgZ y:=by
 rcases by_ x with⟨a,b⟩|⟨a,b⟩|⟨a,b⟩<;> rcases by_ y with⟨c,d⟩|⟨c,d⟩|⟨c,d⟩<;> rw[a,c]<;> rcases by_ (x* y) with⟨e,f⟩|⟨e,f⟩|⟨e,f⟩<;> rw[e]<;> first|rfl|(exfalso;subst_vars;simp at f;done)|(exfalso;have:=Int.mul_pos_of_neg_of_neg b d;omega)|(exfalso;have:=Int.mul_neg_of_neg_of_pos b d;omega)|(exfalso;have:=Int.mul_neg_of_pos_of_neg b d;omega)|(exfalso;have:=Int.mul_pos b d;omega)
theorem e9_(x y:Int)(hx:zl x)(hy:zl y):FS 112 [.agg (zZ x),.agg (zZ y)] (.agg (zZ (x* y))):=by
 have hlx:=nJ_ hx;have hly:=nJ_ hy;have hzx:=bh_ x.natAbs;have hzy:=bh_ y.natAbs;obtain⟨a,ha⟩:∃a,a=x.natAbs:=⟨_,rfl⟩;obtain⟨b,hb⟩:∃b,b=y.natAbs:=⟨_,rfl⟩;have va:=aV_ (b:=UB) (by decide) a;have vb:=aV_ (b:=UB) (by decide) b
 have hss: -9223372036854775808≤sgZ x* sgZ y∧sgZ x* sgZ y≤9223372036854775807:=by
  rcases by_ x with⟨h,_⟩|⟨h,_⟩|⟨h,_⟩<;> rcases by_ y with⟨h',_⟩|⟨h',_⟩|⟨h',_⟩<;> rw[h,h']<;> decide
 refine f_c Tryz.func112 ?_;subst ha hb;refine r_z 3 ?_;refine r_z 9 ?_;refine ab_ (r_z 5 ?_);refine aw_ (zmS x y) (fun v=>ZmI x.natAbs y.natAbs v∧v.2=(digs UB x.natAbs).length) ?_ ?_;refine ae_ (aq_ (zmS x y) (fun v=>(digs UB x.natAbs).length- v.2) (ZmI x.natAbs y.natAbs) (List.replicate ((digs UB x.natAbs).length+(digs UB y.natAbs).length) 0,0) ⟨by simp,by simp,?_,by simp[iC_,ofD],?_⟩ ?_ ?_);intro d hd;simp at hd;rw[hd.2];decide;intro j _ hj;simp at hj;simp[hj];simp only[zmS.eq_1];refine s_x [(1,2),(2,3),(3,4),(4,5)] (fun hs=>?_) (fun hs=>?_) ?_
 ·repeat' (first|exact aH_|refine ap_ rfl ?_ ?_|exact au_c|(refine Cv.loE hs ?_ (ad_ _);first|rfl|(simp[i64,u64,u32,bln,hzx,hzy];done)|(simp[i64,u64,u32,bln,hzx,hzy]<;> omega)))
 ·repeat' (first|exact az_|refine h_c ?_ ?_|exact au_e|(refine aF_ hs ?_ (bP_ _);first|(simp[iO_,gx_,eb_,hzx,hzy];done)|(simp[iE,i64,ofV,hzx,hzy];done))|refine av_ ?_|exact an_|refine ai_ ?_ ?_|exact au_c|(refine Cv.loE hs ?_ (ad_ _);first|(simp[i64,u64,u32,bln,hzx,hzy];done)|(simp[i64,u64,u32,bln,hzx,hzy]<;> omega)))
 ·repeat' (first|exact ShrL.nil|refine ShrL.cons rfl rfl rfl rfl (by first|rfl|(simp;done)|(simp[hzx,hzy]<;> omega)) ?_)
 rintro⟨o,i⟩ ⟨hlen,hle,hdig,hval,hzer⟩;simp only at hlen hle hdig hval hzer;rw[zmS.eq_1];refine ab_ (r_z 2 ?_);refine aj_ rfl (fun h=>?_) (fun h=>?_);have hlt:i< (digs UB x.natAbs).length:=by have:=of_decide_eq_true h;omega
 obtain⟨u,hu⟩:∃u,(digs UB x.natAbs)[i]?=some u:=⟨_,List.getElem?_eq_getElem hlt⟩;have hu1:u< 32768:=be_ (by decide) hu
 have hu':(iE (zd x.natAbs))[(((zd x.natAbs).length:Int)- 1- i).toNat]?=some [i64 u]:=by
  rw[show(((zd x.natAbs).length:Int)- 1- i).toNat=(digs UB x.natAbs).length- 1- i by omega];exact fP_ (nK_ hu)
 refine ah_ (ab_ (ae_ (r_z 1 ?_)));refine ab_ (r_z 5 ?_);refine aw_ (zmT x y i) (fun v=>ZmJ x.natAbs y.natAbs i u v∧v.2.1=(digs UB y.natAbs).length) ?_ ?_;refine ae_ (aq_ (zmT x y i) (fun v=>(digs UB y.natAbs).length- v.2.1) (ZmJ x.natAbs y.natAbs i u) (o,0,0) ⟨hlen,by simp,hdig,(show 0< UB by decide),by simp[hval,ofD],hzer⟩ ?_ ?_);simp only[zmT.eq_1];exact s_e [];rintro⟨q,k,c⟩ ⟨jlen,jle,jdig,jcar,jval,jzer⟩;simp only at jlen jle jdig jcar jval jzer;rw[zmT.eq_1];refine ab_ (r_z 2 ?_);refine aj_ rfl (fun h=>?_) (fun h=>?_);have hltk:k< (digs UB y.natAbs).length:=by have:=of_decide_eq_true h;omega
 obtain⟨v,hv⟩:∃v,(digs UB y.natAbs)[k]?=some v:=⟨_,List.getElem?_eq_getElem hltk⟩;have hv1:v< 32768:=be_ (by decide) hv
 have hv':(iE (zd y.natAbs))[(((zd y.natAbs).length:Int)- 1- k).toNat]?=some [i64 v]:=by
  rw[show(((zd y.natAbs).length:Int)- 1- k).toNat=(digs UB y.natAbs).length- 1- k by omega];exact fP_ (nK_ hv)
 obtain⟨d,hd⟩:∃d,q[i+k]?=some d:=⟨_,List.getElem?_eq_getElem (by omega)⟩;have hd1:d< 32768:=jdig d (List.mem_of_getElem? hd);have hc1:c< 32768:=jcar;have hidx:(((zd x.natAbs).length:Int)- 1- i+(((zd y.natAbs).length:Int)- 1- k)+1).toNat=q.length- 1- (i+k):=by omega
 have hg:(iE q.reverse)[0+(((zd x.natAbs).length:Int)- 1- i+(((zd y.natAbs).length:Int)- 1- k)+1).toNat]?=some [i64 d]:=by rw[hidx,Nat.zero_add];exact fP_ (q3_ hd)
 have hset:∀w:Nat,(iE q.reverse).set (0+(((zd x.natAbs).length:Int)- 1- i+(((zd y.natAbs).length:Int)- 1- k)+1).toNat) [i64 w]=iE (q.set (i+k) w).reverse:=by intro w;rw[hidx,Nat.zero_add,iO_,q2_ (by omega)]
 have hxy0:u* v≤32767* 32767:=Nat.mul_le_mul (by omega) (by omega);have hxyi:(u:Int) * v=((u* v:Nat):Int):=by push_cast;rfl
 refine ah_ ?_;have hxyn:0≤(u:Int) * v:=Int.mul_nonneg (by omega) (by omega);refine ab_ (ae_ (ab_ (r_d hmix 22 ?_)));refine a_5 ?_
 first|refine aA_ (.index_l rfl rfl (by omega) (by omega) te_47.h) rfl rfl ?_|refine aA_ (.index_a rfl rfl (by omega) hg rfl te_47.h) rfl rfl ?_
 first|refine aA_ (.load_l1 rfl rfl hg TG.h rfl) rfl rfl ?_|refine aA_ (.load_a1 rfl hg TG.h rfl) rfl rfl ?_
 refine a_3 ?_;refine i_x hu' ?_;refine l_1 hu' ?_;refine a_3 ?_;refine i_x hv' ?_;refine l_1 hv' ?_;refine a_5 ?_;refine al_ (n_k ?_);refine s_r 9 ?_;refine a_8 ?_;refine o_1n (.store rfl rfl hg rfl rfl rfl TS.h (nle rfl)) ?_;refine al_ ?_;refine r_m 3 ?_;refine a_z ?_;refine r_m 3 ?_;refine a_z ?_;have hm:((d:Int)+(u:Int) * v+c) % 32768=(((d+u* v+c) % 32768:Nat):Int):=by rw[hxyi];omega
 have hq:((d:Int)+(u:Int) * v+c) / 32768=(((d+u* v+c) / 32768:Nat):Int):=by rw[hxyi];omega
 refine⟨(q.set (i+k) ((d+u* v+c) % 32768),k+1,(d+u* v+c) / 32768),by simp;omega,⟨by simp[jlen],by simp;omega,kz_ jdig (Nat.mod_lt _ (by decide)),?_,?_,?_⟩,?_⟩;show _< 32768;simp only;omega;simp only;have e1:=iD_ UB ((d+u* v+c) % 32768) hd;have e2:=Nat.mod_add_div (d+u* v+c) 32768
 have e3:UB^ (i+k) * ((d+u* v+c) % 32768)+UB^ (i+(k+1)) * ((d+u* v+c) / 32768)=UB^ (i+k) * d+UB^ (i+k) * (u* v)+UB^ (i+k) * c:=by
  rw[←Nat.add_assoc i k 1,Nat.pow_succ,Nat.mul_assoc,←Nat.mul_add,show UB* ((d+u* v+c) / 32768)=32768* ((d+u* v+c) / 32768) from rfl,e2,Nat.mul_add,Nat.mul_add]
 have e4:UB^ i* u* ofD UB ((digs UB y.natAbs).take (k+1))=UB^ i* u* ofD UB ((digs UB y.natAbs).take k)+UB^ (i+k) * (u* v):=by
  rw[bk_ _ hv,Nat.mul_add];congr 1;rw[Nat.pow_add];simp only[Nat.mul_assoc,Nat.mul_left_comm,Nat.mul_comm]
 rw[e4];omega;intro j hj hj2;rw[List.getElem?_set_ne (by omega)];exact jzer j hj (by simpa using hj2);simp only[zmT.eq_1];have hset2:=hset ((d+u* v+c) % 32768);rw[←hm] at hset2;refine s_x [] (fun hs=>?_) (fun hs=>?_) ?_
 ·repeat' (first|exact aH_|refine ap_ rfl ?_ ?_|exact Cv.loE hs (congrArg (fun z=>AV.v (.int .i64 z)) hq) (ad_ _)|exact au_c)
 ·repeat' (first|exact az_|refine h_c ?_ ?_|exact aF_ hs hset2 (bP_ _)|exact au_e|refine av_ ?_|exact an_|refine ai_ ?_ ?_|exact Cv.loE hs (congrArg (fun z=>AV.v (.int .i64 z)) hq) (ad_ _)|exact au_c)
 ·repeat' (first|exact ShrL.nil|refine ShrL.cons rfl rfl rfl rfl (by first|(exact congrArg List.length hset2)|rfl|(simp;done)|(simp <;> omega)) ?_)
 have hk:k=(digs UB y.natAbs).length:=by have:=of_decide_eq_false h;omega
 refine ao_ ⟨(q,k,c),⟨⟨jlen,jle,jdig,jcar,jval,jzer⟩,hk⟩,?_⟩;simp only[zmT.eq_1];exact s_e [];rintro⟨q,k,c⟩ ⟨⟨jlen,jle,jdig,jcar,jval,jzer⟩,hk⟩;simp only at jlen jle jdig jcar jval jzer hk;subst hk;have hc1:c< 32768:=jcar;have hz:=jzer (i+(digs UB y.natAbs).length) (Nat.le_refl _) (by omega);have hidx:(((zd x.natAbs).length:Int)- 1- i).toNat=q.length- 1- (i+(digs UB y.natAbs).length):=by omega
 have hg:(iE q.reverse)[0+(((zd x.natAbs).length:Int)- 1- i).toNat]?=some [i64 0]:=by rw[hidx,Nat.zero_add];exact fP_ (q3_ hz)
 have hset:(iE q.reverse).set (0+(((zd x.natAbs).length:Int)- 1- i).toNat) [i64 c]=iE (q.set (i+(digs UB y.natAbs).length) c).reverse:=by rw[hidx,Nat.zero_add,iO_,q2_ (by omega)]
 rw[List.take_length,vb] at jval;rw[zmT.eq_1];refine r_m 5 ?_;refine a_4 ?_;refine o_1n (.store rfl rfl hg rfl rfl rfl TS.h (nle rfl)) ?_;refine al_ ?_;refine r_m 3 ?_;refine a_z ?_;refine⟨(q.set (i+(digs UB y.natAbs).length) c,i+1),by simp;omega,⟨by simp[jlen],by simp;omega,kz_ jdig jcar,?_,?_⟩,?_⟩;simp only;have e1:=iD_ UB c hz;rw[bk_ _ hu,Nat.add_mul,←jval];omega;intro j hj hj2;rw[List.getElem?_set_ne (by simp only at hj;omega)];exact jzer j (by simp only at hj;omega) (by simpa using hj2);simp only[zmS.eq_1];refine s_x [] (fun hs=>au_f) (fun hs=>?_) e_31
 ·repeat' (first|exact az_|refine h_c ?_ ?_|refine aF_ hs hset (bP_ _)|exact au_e)
 have hi:i=(digs UB x.natAbs).length:=by have:=of_decide_eq_false h;omega
 refine ao_ ⟨(o,i),⟨⟨hlen,hle,hdig,hval,hzer⟩,hi⟩,?_⟩;simp only[zmS.eq_1];exact s_e [];rintro⟨o,i⟩ ⟨⟨hlen,hle,hdig,hval,hzer⟩,hi⟩;simp only at hlen hle hdig hval hzer hi;subst hi;rw[List.take_length,va] at hval;rw[zmS.eq_1];have hol:o.length=(zd x.natAbs).length+(zd y.natAbs).length:=by omega
 have hw:=e7_ (sgZ x* sgZ y) o.reverse (x* y) (by simp;omega) (fun d h=>hdig d (List.mem_reverse.1 h)) (by unfold hv;rw[List.reverse_reverse,hval,Int.natAbs_mul]) (fun _=>(sgZ_mul x y).symm);have hfull:((iE o.reverse).drop 0).take ((zd x.natAbs).length+(zd y.natAbs).length)=iE o.reverse:=by rw[List.drop_zero,List.take_of_length_le (by simp;omega)]
 refine s_r 8 ?_;refine a_4 ?_;refine o_0 (.bin rfl rfl (le_ hss)) ?_;refine a_1 ?_;refine o_1 (.callS1 rfl rfl rfl (.keep (.shut rfl d_n (.nil))) rfl ((by rw[hfull];exact hw))) ?_;refine a_z ?_;exact af_ (c_e (bx_ _))
theorem sA_{b:Nat}(hb:1< b):∀(j n:Nat),(digs b n)[j]?.getD 0=n/ b^ j % b:=by
 intro j
 induction j with
 |zero=>
  intro n;rcases Nat.eq_zero_or_pos n with rfl|hn
  rw[bb_];simp;rw[cx_ hb hn];simp
 |succ j ih=>
  intro n;rcases Nat.eq_zero_or_pos n with rfl|hn
  rw[bb_];simp;rw[cx_ hb hn,List.getElem?_cons_succ,ih,Nat.div_div_eq_div_mul,Nat.pow_succ,Nat.mul_comm b]
def sh_(n:Nat)(long:Nat)(k:Nat):Nat→AState
 |i=>⟨[(0,.arr (iE (zd n))),(1,i64 long),(2,i64 k),(7,i64 (n/ UB^ (long- i):Nat)),(8,i64 i)],[],1,24⟩
theorem ia_(n long k:Nat)(hk:k≤4)(hkl:k≤long)(hn:n< UB^ long)(hl:(zd n).length≤281474976710656)(hlo:long≤281474976710656):FS 245 [.arr (iE (zd n)),i64 long,i64 k] (i64 (n/ UB^ (long- k):Nat)):=by
 have bound:∀i,i≤k→n/ UB^ (long- i)< 1152921504606846976:=by
  intro i hi
  have h1:n/ UB^ (long- i)< UB^ i:=by
   rw[Nat.div_lt_iff_lt_mul (Nat.pow_pos (by decide)),←Nat.pow_add,show i+(long- i)=long by omega];exact hn
  exact Nat.lt_of_lt_of_le h1 (Nat.pow_le_pow_right (n:=32768) (j:=4) (by decide) (by omega))
 refine f_c Tryz.func245 ?_;refine r_z 1 ?_;refine r_z 1 ?_;refine ab_ (r_z 1 ?_);refine aw_ (sh_ n long k) (fun i=>i=k) ?_ ?_;refine ae_ (aq_ (sh_ n long k) (fun i=>k- i) (fun i=>i≤k) 0 (Nat.zero_le _) ?_ ?_);simp only[sh_.eq_1];have e:AV.v (.int .i64 0)=i64 (n/ UB^ (long- 0):Nat):=by rw[Nat.sub_zero,Nat.div_eq_of_lt hn];rfl
 exact s_f [];intro i hi;rw[sh_.eq_1];refine ab_ (r_z 3 ?_);refine aj_ rfl (fun h=>?_) (fun h=>?_);have hlt:i< k:=by simpa using h
 have hd:=kN_ (zd n) (long- 1- i) hl;unfold zd at hd;rw[List.reverse_reverse,sA_ (by decide),show((long- 1- i:Nat):Int)=(long:Int)- 1- i by omega] at hd;have e1:=Nat.div_add_mod (n/ UB^ (long- 1- i)) UB;rw[Nat.div_div_eq_div_mul,←Nat.pow_succ,show(long- 1- i).succ=long- i by omega] at e1;have hb:=bound (i+1) hlt;rw[show long- (i+1)=long- 1- i by omega] at hb;have hlt2:n/ UB^ (long- 1- i) % UB< 32768:=Nat.mod_lt _ (by decide);obtain⟨V,hV⟩:∃V,V=n/ UB^ (long- i):=⟨_,rfl⟩;obtain⟨D,hD⟩:∃D,D=n/ UB^ (long- 1- i) % UB:=⟨_,rfl⟩;have hVb:V< 1152921504606846976:=by rw[hV];exact bound i hi
 rw[←hV,←hD] at e1;rw[←hD] at hd hlt2;rw[←hV];have e3:32768* V+D=n/ UB^ (long- 1- i):=e1
 have e2:(V:Int) * 32768+D=((n/ UB^ (long- (i+1)):Nat):Int):=by
  rw[show long- (i+1)=long- 1- i by omega,←e3];omega
 have hbb:V* 32768+D< 1152921504606846976:=by omega
 refine ah_ (ab_ (ae_ (r_m 10 ?_)));refine c_s (hd) ?_;refine a_z ?_;refine r_m 3 ?_;refine a_z ?_;refine⟨i+1,by omega,hlt,?_⟩;simp only[sh_.eq_1];have:=(congrArg (fun z=>AV.v (.int .i64 z)) e2);exact s_f [];have hge:i=k:=by simp at h;omega
 refine ao_ ⟨i,hge,?_⟩;simp only[sh_.eq_1];exact s_e [];rintro i rfl;rw[sh_.eq_1];refine r_z 2 ?_;refine af_ (aD_ rfl rfl (ad_ _))
def lE_(D:Nat):Nat×Nat→AState
 |(R,k)=>⟨[(0,.arr (iE (zd R))),(1,.arr (iE (zd D))),(6,i64 k)],[],1,57⟩
theorem est_le{R D e:Nat}(he:0< e):R/ e/ (D/ e+1) * D≤R:=by
 have h1:R/ e/ (D/ e+1) * (D/ e+1)≤R/ e:=Nat.div_mul_le_self _ _;have h2:R/ e* e≤R:=Nat.div_mul_le_self _ _
 have h3:D< (D/ e+1) * e:=by
  have:=Nat.lt_mul_div_succ D he;rw[Nat.mul_comm];exact this
 have h4:R/ e/ (D/ e+1) * D≤R/ e/ (D/ e+1) * ((D/ e+1) * e):=Nat.mul_le_mul_left _ (Nat.le_of_lt h3)
 have h5:R/ e/ (D/ e+1) * ((D/ e+1) * e)≤R/ e* e:=by
  rw[←Nat.mul_assoc];exact Nat.mul_le_mul_right _ h1
 omega
theorem zZ_pos{D:Nat}(h:0< D):zZ (D:Int)=[i64 1,.arr (iE (zd D))]:=by
 unfold zZ sgZ;rw[if_neg (by omega),if_neg (by omega),Int.natAbs_natCast]
theorem fs_share(R D:Nat)(hD:0< D)(hR:R< UB* D)(hb:bl D≤4398046511104):FS 204 [.arr (iE (zd R)),.arr (iE (zd D))] (.tup [i64 (R/ D:Nat),.arr (iE (zd (R % D)))]):=by
 have hzR:=bh_ R;have hzD:=bh_ D;have hlD:=aT_ (b:=UB) (by decide) D;have hlR:=aT_ (b:=UB) (by decide) R
 have hbR:bl R≤bl D+16:=by
  have h1:=b0_ (Nat.le_of_lt hR);have h2:=ey_ UB D;have h3:bl UB=16:=by decide
  omega
 obtain⟨n,hn⟩:∃n,n=(zd D).length:=⟨_,rfl⟩
 have hn1:1≤n:=by
  have:zd D≠[]:=fun h=>by have:=zd_eq_nil.1 h;omega
  have:=List.length_pos_iff.2 this;omega
 have hDn:D< UB^ n:=by
  have:=hv_lt (zd_lt D);rwa[hv_zd,←hn] at this
 have hRn:R< UB^ (n+1):=by
  rw[Nat.pow_succ,Nat.mul_comm];exact Nat.lt_of_lt_of_le hR (Nat.mul_le_mul_left _ (Nat.le_of_lt hDn))
 have hRk:∀k,k* D≤R→k< UB:=by
  intro k hk;refine Nat.lt_of_not_le fun h=>?_;have:=Nat.mul_le_mul_right D h;omega
 refine f_c Tryz.func204 ?_;refine r_z 2 ?_;refine r_z 1 ?_;refine r_z 3 ?_;refine aP_ (fun k:Nat=>lE_ D (R,k)) (fun k=>k* D≤R) ?_ ?_;refine r_z 4 ?_;refine aj_ rfl (fun h=>?_) (fun h=>?_);have hge:(zd D).length≤(zd R).length:=by simpa using h
 refine r_z 2 ?_;refine aj_ rfl (fun h1=>?_) (fun h1=>?_);have h3:n≤3:=by rw[hn];have:=of_decide_eq_true h1;omega
 have f1:=ia_ R (n+1) (n+1) (by omega) (Nat.le_refl _) hRn (by omega) (by omega);have f2:=ia_ D n n (by omega) (Nat.le_refl _) hDn (by omega) (by omega);rw[Nat.sub_self,Nat.pow_zero,Nat.div_one] at f1 f2;rw[hn] at f1 f2;have hq:(R:Int) / D=(R/ D:Nat):=(Int.natCast_ediv _ _).symm;have hR60:R< 1152921504606846976:=Nat.lt_of_lt_of_le hRn (Nat.pow_le_pow_right (n:=32768) (j:=4) (by decide) (by omega));refine r_m 12 ?_;refine c_s (f1) ?_;refine c_s (f2) ?_;refine a_z ?_;refine⟨R/ D,Nat.div_mul_le_self _ _,?_⟩;simp only[lE_.eq_1];have:=(congrArg (fun z=>AV.v (.int .i64 z)) hq);exact s_f [];have h3:3< n:=by rw[hn];have:=of_decide_eq_false h1;omega
 have f1:=ia_ R (n+1) 4 (by omega) (by omega) hRn (by omega) (by omega);have f2:=ia_ D n 3 (by omega) (by omega) hDn (by omega) (by omega);rw[show n+1- 4=n- 3 by omega] at f1;obtain⟨e,he⟩:∃e,e=UB^ (n- 3):=⟨_,rfl⟩;have hep:0< e:=by rw[he];exact Nat.pow_pos (by decide)
 rw[←he] at f1 f2
 have hR4:R/ e< 1152921504606846976:=by
  rw[Nat.div_lt_iff_lt_mul hep,he];have h4:UB^ 4=1152921504606846976:=by decide
  have:UB^ (n+1)=1152921504606846976* UB^ (n- 3):=by
   rw[show n+1=4+(n- 3) by omega,Nat.pow_add,h4]
  omega
 have hD3:D/ e< 35184372088832:=by
  rw[Nat.div_lt_iff_lt_mul hep,he];have h4:UB^ 3=35184372088832:=by decide
  have:UB^ n=35184372088832* UB^ (n- 3):=by
   rw[←h4,←Nat.pow_add];congr 1;omega
  omega
 rw[hn] at f1 f2
 have hq:((R/ e:Nat):Int) / (((D/ e:Nat):Int)+1)=(R/ e/ (D/ e+1):Nat):=by
  rw[show(((D/ e:Nat):Int)+1)=((D/ e+1:Nat):Int) by omega];exact(Int.natCast_ediv _ _).symm
 have hle:=est_le (R:=R) (D:=D) hep;obtain⟨A,hA⟩:∃A,A=R/ e:=⟨_,rfl⟩;obtain⟨B,hB⟩:∃B,B=D/ e:=⟨_,rfl⟩;rw[←hA] at f1 hR4 hq hle;rw[←hB] at f2 hD3 hq hle;refine r_m 10 ?_;refine c_s (f1) ?_;refine c_s (f2) ?_;refine a_z ?_;refine⟨A/ (B+1),hle,?_⟩;simp only[lE_.eq_1];have:=(congrArg (fun z=>AV.v (.int .i64 z)) hq);exact s_f [];refine ah_ ⟨0,by simp,?_⟩;simp only[lE_.eq_1];exact s_e [];rintro k hk;have hkU:=hRk k hk;have hkU':k< 32768:=hkU;rw[lE_.eq_1];refine aP_ (fun _:Unit=>lE_ D (R- k* D,k)) (fun _=>True) ?_ ?_;refine r_z 2 ?_;refine aj_ rfl (fun h1=>?_) (fun h1=>?_)
 have hzk:zl (k:Int):=by
  unfold zl;rw[Int.natAbs_natCast];have:=bl_le (n:=k) (k:=15) (by omega);omega
 have hzD:zl (D:Int):=by unfold zl;rw[Int.natAbs_natCast];omega
 have hm:=e9_ (k:Int) (D:Int) hzk hzD;rw[zZ_pos hD] at hm;have hkD:((k:Int) * (D:Int)).natAbs=k* D:=by rw[←Int.natCast_mul,Int.natAbs_natCast]
 have hbk:bl (k* D)≤bl D+16:=by
  have:=b0_ hk;omega
 have hlk:=aT_ (b:=UB) (by decide) (k* D);have hbo:=i2_ R (k* D) (-1) (R- k* D) (.inr rfl) (by omega) (by omega) (by rw[bh_];omega);rw[←hkD] at hbo;rw[hkD] at hbo;refine r_m 9 ?_;refine c_s (f7_ k (by omega)) ?_;refine c_s (hm) ?_
 first|refine aA_ (.field rfl TF.h TA.h (nle rfl)) rfl rfl ?_|refine aA_ (.field1 rfl TF.h TA.h rfl) rfl rfl ?_
 refine o_0 (.call rfl rfl rfl ((by rw[hkD];exact hbo))) ?_;refine o_0 (.assign rfl) ?_;refine al_ ?_;refine⟨(),trivial,?_⟩;simp only[lE_.eq_1];exact s_e [];have hk0:k=0:=by simp at h1;omega
 subst hk0;refine ah_ ⟨(),trivial,?_⟩;simp only[lE_.eq_1,Nat.zero_mul,Nat.sub_zero];exact s_e [];rintro _ _;rw[lE_.eq_1];refine aP_ (lE_ D) (fun v=>v.1=R % D∧v.2=R/ D) ?_ ?_;refine ae_ (aq_ (lE_ D) (fun v=>v.1) (fun v=>v.1+v.2* D=R∧v.1≤R) (R- k* D,k) ⟨by simp only;omega,by simp only;omega⟩ ?_ ?_);simp only[lE_.eq_1];exact s_e [];rintro⟨R',k'⟩ ⟨hv,hle⟩;simp only at hv hle;have hbR':bl R'≤bl D+16:=by have:=b0_ hle;omega
 have hlR':=aT_ (b:=UB) (by decide) R';have hzR':=bh_ R';have hk':=hRk k' (by omega);have hk'':k'< 32768:=hk';rw[lE_.eq_1];refine ab_ (r_c 4 (oD_ R' D (by omega) (by omega)) ?_);refine a_z ?_;refine aj_ rfl (fun h=>?_) (fun h=>?_)
 have hge:D≤R':=by
  have:=of_decide_eq_true h;unfold cmpZ at this;split at this <;> omega
 refine ah_ (ae_ (r_c 4 (i2_ R' D (-1) (R'- D) (.inr rfl) (by omega) (by omega) (by omega)) ?_));refine a_z ?_;refine r_m 3 ?_;refine a_z ?_;refine⟨(R'- D,k'+1),by simp only;omega,⟨by simp only;rw[Nat.add_mul];omega,by simp only;omega⟩,?_⟩;simp only[lE_.eq_1];exact s_e []
 have hlt:R'< D:=by
  have:=of_decide_eq_false h;unfold cmpZ at this;split at this;omega;split at this <;> omega
 refine ao_ ⟨(R',k'),⟨?_,?_⟩,?_⟩;simp only;rw[←hv,Nat.add_mul_mod_self_right,Nat.mod_eq_of_lt hlt];simp only;rw[←hv,Nat.add_mul_div_right _ _ hD,Nat.div_eq_of_lt hlt,Nat.zero_add];simp only[lE_.eq_1];exact s_e [];rintro⟨R',k'⟩ ⟨h1,h2⟩;simp only at h1 h2;subst h1 h2;rw[lE_.eq_1];refine r_z 4 ?_;refine af_ (Fin.many ⟨_,_,rfl,rfl,⟨_,_,rfl,rfl,rfl⟩⟩ (nle rfl) ?_);exact ai_ (ak_ ax_ (ad_ _)) (ai_ (ak_ ax_ (cK_ _)) an_)
def rovS(A D:Nat):List Nat→Nat→Nat→AState
 |[],R,i=>⟨[(0,.arr (iE (zd A))),(1,.arr (iE (zd D))),(6,.emp),(7,.arr (iE (zd R))),(8,i64 i)],[],1,54⟩
 |q::Q,R,i=>⟨[(0,.arr (iE (zd A))),(1,.arr (iE (zd D))),(6,.lsl 1 0 (Q.length+1) none 1),(7,.arr (iE (zd R))),(8,i64 i)],[(1,some ⟨3,1,iE (q::Q)⟩)],2,54⟩
theorem d9_(A D R i:Nat):rovS A D [] R i=⟨[(0,.arr (iE (zd A))),(1,.arr (iE (zd D))),(6,.emp),(7,.arr (iE (zd R))),(8,i64 i)],[],1,54⟩:=rfl
theorem c6_(A D:Nat)(q:Nat)(Q:List Nat)(R i:Nat):rovS A D (q::Q) R i=⟨[(0,.arr (iE (zd A))),(1,.arr (iE (zd D))),(6,.lsl 1 0 (Q.length+1) none 1),(7,.arr (iE (zd R))),(8,i64 i)],[(1,some ⟨3,1,iE (q::Q)⟩)],2,54⟩:=rfl
theorem rov_step{P D R a:Nat}(hD:0< D)(hR:R=P % D)(ha:a< UB):R* UB+a< UB* D∧(P* UB+a) / D=P/ D* UB+(R* UB+a) / D∧(P* UB+a) % D=(R* UB+a) % D∧(R* UB+a) / D< UB:=by
 have h1:=Nat.div_add_mod P D;have h2:=Nat.mod_lt P hD;rw[←hR] at h1 h2
 have h3:R* UB+a< UB* D:=by
  have:(R+1) * UB≤D* UB:=Nat.mul_le_mul_right _ h2;rw[Nat.add_mul,Nat.one_mul,Nat.mul_comm D] at this;omega
 have h4:P* UB+a=D* (P/ D* UB)+(R* UB+a):=by
  conv=>lhs;rw[←h1]
  rw[Nat.add_mul,Nat.mul_assoc,Nat.add_assoc]
 refine⟨h3,?_,?_,?_⟩;rw[h4,Nat.mul_add_div hD];rw[h4,Nat.mul_add_mod];rw[Nat.div_lt_iff_lt_mul hD];exact h3
theorem h8_(A D:Nat)(hD:0< D)(hA:bl A≤4398046511104)(hb:bl D≤4398046511104):FS 162 [.arr (iE (zd A)),.arr (iE (zd D))] (.tup [.arr (iE (zd (A/ D))),.arr (iE (zd (A % D)))]):=by
 have hzA:=bh_ A;have hzD:=bh_ D;have hlD:=aT_ (b:=UB) (by decide) D;have hlA:=aT_ (b:=UB) (by decide) A;obtain⟨n,hn⟩:∃n,n=(zd D).length:=⟨_,rfl⟩
 have hn1:1≤n:=by
  have:zd D≠[]:=fun h=>by have:=zd_eq_nil.1 h;omega
  have:=List.length_pos_iff.2 this;omega
 have hDn:UB^ (n- 1)≤D:=by
  rcases jh_ (b:=UB) (n:=D) (by decide) with h|h
  rwa[←hzD,←hn] at h;omega
 refine f_c Tryz.func162 ?_;refine r_z 2 ?_;refine ab_ (r_z 5 ?_);refine aj_ rfl (fun h=>?_) (fun h=>?_);have hlt:(zd A).length< (zd D).length:=by have:=of_decide_eq_true h;omega
 have hAD:A< D:=ep_ (b:=UB) (by decide) (by omega);refine r_z 3 ?_;refine af_ (Fin.many ⟨_,_,rfl,rfl,⟨_,_,rfl,rfl,rfl⟩⟩ (nle rfl) ?_);rw[Nat.div_eq_of_lt hAD,Nat.mod_eq_of_lt hAD,gP_];exact ai_ (Cv.emp _) (ai_ (ak_ ax_ (cK_ _)) an_);have hge:n≤(zd A).length:=by have:=of_decide_eq_false h;omega
 refine ah_ (r_z 1 ?_);obtain⟨P0,hP0⟩:∃P0,P0=hv ((zd A).take (n- 1)):=⟨_,rfl⟩
 have hP0D:P0< D:=by
  have h1:=hv_lt (l:=(zd A).take (n- 1)) fun d hd=>zd_lt A d (List.mem_of_mem_take hd);rw[←hP0] at h1;have h2:UB^ ((zd A).take (n- 1)).length≤UB^ (n- 1):=Nat.pow_le_pow_right (by decide) (by simp;omega);omega
 have hst:=ed_ ((zd A).take (n- 1)) (by simp;omega);rw[c4_ (fun d hd=>zd_lt A d (List.mem_of_mem_take hd)),←hP0] at hst;refine aP_ (fun _:Unit=>⟨[(0,.arr (iE (zd A))),(1,.arr (iE (zd D))),(6,.emp),(7,.arr (iE (zd P0)))],[],1,54⟩) (fun _=>True) ?_ ?_;by_cases hn2:n=1;rw[hn2] at hst;refine r_m 8 ?_;refine a_4 ?_;refine o_0 (.sa_h rfl rfl (h:=0) (by omega) (by simp) te_47.h (f5_ _)) ?_;refine o_0 (.append0 rfl rfl rfl te_47.h rfl rfl rfl (.arr (es:=[]) (by simp))) ?_;refine c_s (hst) ?_;refine a_z ?_;refine⟨(),trivial,?_⟩;exact s_e []
 ·have hne:(iE (zd A)).take (n- 1)≠[]:=fun h=>by
   have:=congrArg List.length h;rw[List.length_take,iP_,List.length_nil] at this;omega
  have hfull:List.take ((iE (zd A)).take (n- 1)).length (List.drop 0 ((iE (zd A)).take (n- 1)))=iE ((zd A).take (n- 1)):=by rw[List.drop_zero,List.take_length,iE_take]
  refine r_m 8 ?_;refine a_4 ?_;refine o_0 (.sa_h rfl rfl (h:=n- 1) (by omega) (by simp;omega) te_47.h (f5_ _)) ?_;refine o_1 (.append_e rfl rfl rfl te_47.h rfl rfl rfl (.arr (fun e he=>f5_ _ e (List.mem_of_mem_take he))) (by first|assumption|(simp;done)) TZ.h rfl TB.h d_o (by first|(simp[maxLen];done)|(simp[maxLen];omega))) ?_;refine o_1 (.callS1 rfl rfl rfl (.shut rfl d_n (.nil)) rfl ((by rw[hfull];exact hst))) ?_;refine a_z ?_;refine⟨(),trivial,?_⟩;exact s_e []
 rintro _ _;refine ab_ (r_z 4 ?_);refine aw_ (fun x:List Nat×Nat=>rovS A D x.1 x.2 (zd A).length) (fun x=>(∀d∈x.1,d< UB)∧hv x.1=A/ D∧x.2=A % D∧x.1.length≤(zd A).length) ?_ ?_;refine ae_ (aq_ (fun x:List Nat×Nat×Nat=>rovS A D x.1 x.2.1 x.2.2) (fun x=>(zd A).length- x.2.2) (fun x=>x.2.2≤(zd A).length∧(∀d∈x.1,d< UB)∧hv x.1=hv ((zd A).take x.2.2) / D∧x.2.1=hv ((zd A).take x.2.2) % D∧x.1.length≤x.2.2) ([],P0,n- 1) ⟨by simp only;omega,by simp,by simp only;rw[←hP0,Nat.div_eq_of_lt hP0D];rfl,by simp only;rw[←hP0,Nat.mod_eq_of_lt hP0D],by simp⟩ ?_ ?_);simp only[d9_];exact s_e [];rintro⟨Q,R,i⟩ ⟨hi,hQd,hQ,hR,hQl⟩;simp only at hi hQd hQ hR hQl
 -- the head,whatever the quotient so far
 by_cases hlt:i< (zd A).length
 ·obtain⟨a,hai⟩:∃a,(zd A)[i]?=some a:=⟨_,List.getElem?_eq_getElem hlt⟩
  have ha:a< UB:=zd_lt A a (List.mem_of_getElem? hai);have hai':(iE (zd A))[((i:Nat):Int).toNat]?=some [i64 a]:=fP_ hai;have hPs:hv ((zd A).take (i+1))=hv ((zd A).take i) * UB+a:=by rw[bm_ hai,iQ_]
  obtain⟨P,hP⟩:∃P,P=hv ((zd A).take i):=⟨_,rfl⟩;rw[←hP] at hQ hR hPs;obtain⟨s1,s2,s3,s4⟩:=rov_step hD hR ha;have hRD:R< D:=by rw[hR];exact Nat.mod_lt _ hD
  have hlR:=aT_ (b:=UB) (by decide) R;have hbR:=b0_ (Nat.le_of_lt hRD);have hzR:=bh_ R;have hsh:=fs_share (R* UB+a) D hD s1 hb;cases Q with
  |nil=>
   simp only[d9_];refine ab_ (r_z 4 ?_);refine aj_ rfl (fun h=>?_) (fun h=>?_);rotate_left;exact absurd h (by simp;omega);refine ah_ (ab_ (ae_ (aP_ (fun _:Unit=>rovS A D [] (R* UB+a) i) (fun _=>True) ?_ ?_)));by_cases hR0:R=0;subst hR0;have hst1:=ed_ [a] (by simp);rw[c4_ (by simpa using ha),show hv [a]=0* UB+a by rw[iR_,lZ_];simp] at hst1;rw[gP_];refine r_d hmix 10 ?_;refine a_1 ?_;refine o_0 (.append0 rfl rfl rfl te_47.h rfl rfl rfl (.arr (es:=[]) (by simp))) ?_;refine a_2 ?_;refine i_x hai' ?_;refine l_1 hai' ?_;refine a_2 ?_;refine o_1 (.callS1 rfl rfl rfl (.shut rfl d_n (.nil)) rfl ((FSpec.argE hst1 rfl))) ?_;refine a_1 ?_;refine al_ (n_k ?_);refine⟨(),trivial,?_⟩;simp only[d9_];exact s_e []
   ·have hne:iE (zd R)≠[]:=fun h=>by
     have h1:=congrArg List.length h;rw[iP_,List.length_nil,List.length_eq_zero_iff] at h1;exact hR0 (zd_eq_nil.1 h1)
    have hd2:∀d∈zd R++[a],d< UB:=fun d hd=>by
     rcases List.mem_append.1 hd with hd|hd
     exact zd_lt R d hd;simp at hd;rw[hd];exact ha
    have hst1:=ed_ (zd R++[a]) (by simp;omega);rw[c4_ hd2,iQ_,hv_zd] at hst1;refine r_d hmix 10 ?_;refine a_1 ?_;refine o_1 (.append_e rfl rfl rfl te_47.h rfl rfl rfl (.arr (f5_ _)) (by first|assumption|(simp;done)) TZ.h rfl TB.h d_o (by first|(simp[maxLen];done)|(simp[maxLen];omega))) ?_;refine a_2 ?_;refine i_x hai' ?_;refine l_1 hai' ?_;refine a_2 ?_;refine o_1 (.callS1 rfl rfl rfl (.shut rfl d_n (.nil)) rfl ((FSpec.argE hst1 (by rw[List.drop_zero,List.take_of_length_le (by simp)];simp[iE,i64])))) ?_;refine a_1 ?_;refine al_ (n_k ?_);refine⟨(),trivial,?_⟩;simp only[d9_];exact s_e []
   rintro _ _;simp only[d9_];refine r_z 1 ?_;refine r_c 8 (hsh) ?_;refine a_z ?_;refine r_m 5 ?_;refine a_z ?_;refine r_m 3 ?_;refine a_z ?_;refine⟨([(R* UB+a) / D],(R* UB+a) % D,i+1),by simp only;omega,⟨by simp only;omega,by simpa using s4,?_,?_,by simp⟩,?_⟩;simp only;rw[hPs,s2,←hQ,iR_,lZ_];simp;simp only;rw[hPs,s3];simp only[c6_];exact s_e [(1,6)]
  |cons q Q=>
   simp only[c6_];refine ab_ (r_z 4 ?_);refine aj_ rfl (fun h=>?_) (fun h=>?_);rotate_left;exact absurd h (by simp;omega);refine ah_ (ab_ (ae_ (aP_ (fun _:Unit=>rovS A D (q::Q) (R* UB+a) i) (fun _=>True) ?_ ?_)));by_cases hR0:R=0;subst hR0;have hst1:=ed_ [a] (by simp);rw[c4_ (by simpa using ha),show hv [a]=0* UB+a by rw[iR_,lZ_];simp] at hst1;rw[gP_];refine r_d hmix 10 ?_;refine a_1 ?_;refine o_0 (.append0 rfl rfl rfl te_47.h rfl rfl rfl (.arr (es:=[]) (by simp))) ?_;refine a_2 ?_;refine i_x hai' ?_;refine l_1 hai' ?_;refine a_2 ?_;refine o_1 (.callS1 rfl rfl rfl (.shut rfl d_n (.nil)) rfl ((FSpec.argE hst1 rfl))) ?_;refine a_1 ?_;refine al_ (n_k ?_);refine⟨(),trivial,?_⟩;simp only[c6_];exact s_e []
   ·have hne:iE (zd R)≠[]:=fun h=>by
     have h1:=congrArg List.length h;rw[iP_,List.length_nil,List.length_eq_zero_iff] at h1;exact hR0 (zd_eq_nil.1 h1)
    have hd2:∀d∈zd R++[a],d< UB:=fun d hd=>by
     rcases List.mem_append.1 hd with hd|hd
     exact zd_lt R d hd;simp at hd;rw[hd];exact ha
    have hst1:=ed_ (zd R++[a]) (by simp;omega);rw[c4_ hd2,iQ_,hv_zd] at hst1;refine r_d hmix 10 ?_;refine a_1 ?_;refine o_1 (.append_e rfl rfl rfl te_47.h rfl rfl rfl (.arr (f5_ _)) (by first|assumption|(simp;done)) TZ.h rfl TB.h d_o (by first|(simp[maxLen];done)|(simp[maxLen];omega))) ?_;refine a_2 ?_;refine i_x hai' ?_;refine l_1 hai' ?_;refine a_2 ?_;refine o_1 (.callS1 rfl rfl rfl (.shut rfl d_n (.nil)) rfl ((FSpec.argE hst1 (by rw[List.drop_zero,List.take_of_length_le (by simp)];simp[iE,i64])))) ?_;refine a_1 ?_;refine al_ (n_k ?_);refine⟨(),trivial,?_⟩;simp only[c6_];exact s_e []
   rintro _ _;simp only[c6_];refine r_z 1 ?_;refine r_c 8 (hsh) ?_;refine a_z ?_;have hQl':Q.length+1≤i:=by simpa using hQl
   refine r_m 5 ?_;refine a_z ?_;refine r_m 3 ?_;refine a_z ?_;refine⟨(q::(Q++[(R* UB+a) / D]),(R* UB+a) % D,i+1),by simp only;omega,⟨by simp only;omega,?_,?_,?_,by simp at hQl⊢;omega⟩,?_⟩;intro d hd;rcases List.mem_append.1 (show d∈(q::Q)++[(R* UB+a) / D] from hd) with hd|hd
   exact hQd d hd;simp at hd;rw[hd];exact s4;simp only;rw[hPs,s2,←hQ,←iQ_];rfl;simp only;rw[hPs,s3];simp only[c6_];have e:iE (q::Q)++List.take 1 (List.drop 0 [[i64 ((R* UB+a) / D:Nat)]])=iE (q::(Q++[(R* UB+a) / D])):=by simp[iE]
   exact s_x [(1,6)] (fun hs=>au_f) (fun hs=>e_32) e_1
 have hge:i=(zd A).length:=by omega
 subst hge;rw[List.take_length,hv_zd] at hQ hR;cases Q with
 |nil=>
  simp only[d9_];refine ab_ (r_z 4 ?_);refine aj_ rfl (fun h=>?_) (fun h=>?_);exact absurd h (by simp);refine ao_ ⟨([],R),⟨hQd,hQ,hR,hQl⟩,?_⟩;simp only[d9_];exact s_e []
 |cons q Q=>
  simp only[c6_];refine ab_ (r_z 4 ?_);refine aj_ rfl (fun h=>?_) (fun h=>?_);exact absurd h (by simp);refine ao_ ⟨(q::Q,R),⟨hQd,hQ,hR,hQl⟩,?_⟩;simp only[c6_];exact s_e []
 rintro⟨Q,R⟩ ⟨hQd,hQ,hR,hQl⟩;simp only at hQd hQ hR hQl;have hsq:=ed_ Q (by omega);rw[c4_ hQd,hQ] at hsq;subst hR;cases Q with
 |nil=>
  simp only[d9_];refine r_c 5 (hsq) ?_;refine a_z ?_;refine af_ (Fin.many ⟨_,_,rfl,rfl,⟨_,_,rfl,rfl,rfl⟩⟩ (nle rfl) ?_);exact ai_ (ak_ ax_ (cK_ _)) (ai_ (ak_ ax_ (cK_ _)) an_)
 |cons q Q=>
  simp only[c6_];have hfull:List.take (Q.length+1) (List.drop 0 (iE (q::Q)))=iE (q::Q):=by rw[List.drop_zero,List.take_of_length_le (by simp)]
  refine s_r 5 ?_;refine a_1 ?_;refine o_1 (.callS1 rfl rfl rfl (.shut rfl d_n (.nil)) rfl ((by rw[hfull];exact hsq))) ?_;refine a_z ?_;refine af_ (Fin.many ⟨_,_,rfl,rfl,⟨_,_,rfl,rfl,rfl⟩⟩ (nle rfl) ?_);exact ai_ (ak_ ax_ (cK_ _)) (ai_ (ak_ ax_ (cK_ _)) an_)
def zgS:Nat×Nat→AState
 |(p,q)=>⟨[(4,.lptr 1 0 0),(5,.arr (iE (zd p))),(6,.arr (iE (zd q)))],[(1,some ⟨49,2,[[i64 0,.emp]]⟩)],2,48⟩
theorem hv_(p:Nat)(q:Nat):zgS (p,q)=⟨[(4,.lptr 1 0 0),(5,.arr (iE (zd p))),(6,.arr (iE (zd q)))],[(1,some ⟨49,2,[[i64 0,.emp]]⟩)],2,48⟩:=rfl
def zgW:Nat×Nat→AState
 |(x,y)=>⟨[(4,.lptr 1 0 0),(7,i64 x),(8,i64 y)],[(1,some ⟨49,2,[[i64 0,.emp]]⟩)],2,48⟩
theorem lo_(x:Nat)(y:Nat):zgW (x,y)=⟨[(4,.lptr 1 0 0),(7,i64 x),(8,i64 y)],[(1,some ⟨49,2,[[i64 0,.emp]]⟩)],2,48⟩:=rfl
theorem ln_(p q:Nat):Nat.gcd q (p % q)=Nat.gcd p q:=by
 rw[Nat.gcd_comm p q,Nat.gcd_rec q p,Nat.gcd_comm]
theorem lk_{n:Nat}(h:(zd n).length≤4):n< 1152921504606846976:=by
 have h1:=hv_lt (zd_lt n);rw[hv_zd] at h1;exact Nat.lt_of_lt_of_le h1 (Nat.pow_le_pow_right (n:=32768) (j:=4) (by decide) h)
theorem fs_ZGcd(x y:Int)(hx:bl x.natAbs≤4398046511104)(hy:bl y.natAbs≤4398046511104):FS 161 [.agg (zZ x),.agg (zZ y)] (.agg (zZ (Nat.gcd x.natAbs y.natAbs:Nat))):=by
 refine f_c Tryz.func161 ?_;refine r_z 3 ?_;refine ab_ (r_d hmix 6 ?_);refine a_6 ?_;refine al_ (n_k ?_);refine aP_ (fun p:Nat=>zgS (p,0)) (fun p=>p=Nat.gcd x.natAbs y.natAbs) ?_ ?_;refine ae_ (aq_ zgS (fun v=>v.2) (fun v=>Nat.gcd v.1 v.2=Nat.gcd x.natAbs y.natAbs∧bl v.1≤4398046511104∧bl v.2≤4398046511104) (x.natAbs,y.natAbs) ⟨rfl,hx,hy⟩ ?_ ?_);simp only[hv_];exact s_e [(1,4)];rintro⟨p,q⟩ ⟨hg,hp,hq⟩;simp only at hg hp hq;have hzp:=bh_ p;have hzq:=bh_ q;have hlp:=aT_ (b:=UB) (by decide) p;have hlq:=aT_ (b:=UB) (by decide) q;rw[hv_];refine ab_ (r_z 3 ?_);refine aj_ rfl (fun h=>?_) (fun h=>?_)
 have hq0:0< q:=by
  rcases Nat.eq_zero_or_pos q with e|e
  subst e;rw[gP_] at h;simp at h;exact e
 refine ah_ (ae_ (aP_ (fun _:Unit=>zgS (p,q)) (fun _=>True) ?_ ?_));by_cases hl:(zd p).length≤4;by_cases hl2:(zd q).length≤4;have hwp:=lk_ hl;have hwq:=lk_ hl2;have hsp:=kF_ (zd p) hl (zd_lt p);have hsq:=kF_ (zd q) hl2 (zd_lt q);rw[hv_zd] at hsp hsq;refine s_r 8 ?_;refine a_4 ?_;refine y_g rfl (by simp;omega) (.move rfl) ?_
 first|refine y_g rfl (by simp;omega) (.lenD rfl rfl rfl rfl te_47.h) ?_|refine y_g rfl (by simp;omega) (.lenI rfl rfl rfl rfl te_47.h) ?_|refine y_g rfl (by simp;omega) (.lenP rfl rfl rfl rfl te_47.h) ?_|refine y_g rfl (by simp;omega) (.lenC rfl rfl rfl rfl te_47.h) ?_|refine y_g rfl (by simp;omega) (.lenR rfl rfl rfl rfl te_47.h) ?_|refine y_g rfl (by simp;omega) (.len rfl rfl rfl rfl rfl te_47.h) ?_
 refine y_g rfl (by simp;omega) (.bin rfl rfl a7_) ?_;refine o_0 (.pickT rfl (by simp;omega) rfl) ?_;refine al_ ?_;refine aj_ rfl (fun h1=>?_) (fun h1=>?_);refine r_c 6 (hsp) ?_;refine c_s (hsq) ?_;refine a_z ?_;refine aP_ (fun v:Nat=>zgW (v,0)) (fun v=>v=Nat.gcd x.natAbs y.natAbs) ?_ ?_;refine ae_ (aq_ zgW (fun v=>v.2) (fun v=>Nat.gcd v.1 v.2=Nat.gcd x.natAbs y.natAbs∧v.1< 1152921504606846976∧v.2< 1152921504606846976) (p,q) ⟨hg,hwp,hwq⟩ ?_ ?_);simp only[lo_];exact s_e [];rintro⟨u,v⟩ ⟨huv,hu,hv⟩;simp only at huv hu hv;rw[lo_];refine ab_ (r_z 2 ?_);refine aj_ rfl (fun h2=>?_) (fun h2=>?_);have hv0:0< v:=by simp at h2;omega
 refine ah_ (ae_ (r_d hmix 6 ?_));refine a_6 ?_;refine al_ (n_k ?_);refine⟨(v,u % v),Nat.mod_lt _ hv0,⟨(ln_ u v).trans huv,hv,Nat.lt_trans (Nat.mod_lt _ hv0) hv⟩,?_⟩;simp only[lo_];exact s_e [];have hv0:v=0:=by simp at h2;omega
 subst hv0;refine ao_ ⟨u,by simpa using huv,?_⟩;simp only[lo_];exact s_e [];rintro v hv;rw[lo_]
 have hv64:v< 1152921504606846976:=by
  rw[hv,←hg];have h1:Nat.gcd p q≤q:=Nat.gcd_le_right _ hq0;omega
 refine r_c 3 (f7_ v (by omega)) ?_;refine a_z ?_;refine af_ (bQ_ rfl rfl rfl TG.h TS.h (nle rfl) ?_ ?_);rw[←hv];rfl;exact bx_ _;exact absurd h1 (by simp;omega);refine s_r 8 ?_;refine a_4 ?_;refine y_g rfl (by simp;omega) (.move rfl) ?_
 first|refine y_g rfl (by simp;omega) (.lenD rfl rfl rfl rfl te_47.h) ?_|refine y_g rfl (by simp;omega) (.lenI rfl rfl rfl rfl te_47.h) ?_|refine y_g rfl (by simp;omega) (.lenP rfl rfl rfl rfl te_47.h) ?_|refine y_g rfl (by simp;omega) (.lenC rfl rfl rfl rfl te_47.h) ?_|refine y_g rfl (by simp;omega) (.lenR rfl rfl rfl rfl te_47.h) ?_|refine y_g rfl (by simp;omega) (.len rfl rfl rfl rfl rfl te_47.h) ?_
 refine y_g rfl (by simp;omega) (.bin rfl rfl a7_) ?_;refine o_0 (.pickT rfl (by simp;omega) rfl) ?_;refine al_ ?_;refine aj_ rfl (fun h=>?_) (fun _=>ah_ ⟨(),trivial,?_⟩);exact absurd h (by simp;omega);simp only[hv_];exact s_e [];refine s_r 8 ?_;refine a_4 ?_;refine n_g rfl (by simp;omega) ?_;refine n_g rfl (by simp;omega) ?_;refine n_g rfl (by simp;omega) ?_;refine o_0 (.pickF rfl (by simp;omega) rfl) ?_;refine al_ ?_;refine aj_ rfl (fun h=>?_) (fun _=>ah_ ⟨(),trivial,?_⟩);cases h;simp only[hv_];exact s_e [];rintro _ _;rw[hv_];refine r_c 8 (h8_ p q hq0 hp hq) ?_;refine a_z ?_;refine r_m 4 ?_;refine a_z ?_;refine⟨(q,p % q),Nat.mod_lt _ hq0,⟨(ln_ p q).trans hg,hq,?_⟩,?_⟩;have:=b0_ (Nat.le_of_lt (Nat.mod_lt p hq0));simp only;omega;simp only[hv_];exact s_e []
 have hq0:q=0:=by
  refine zd_eq_nil.1 (List.length_eq_zero_iff.1 ?_);have:=of_decide_eq_false h;omega
 subst hq0;refine ao_ ⟨p,by simpa using hg,?_⟩;simp only[hv_];exact s_e [];rintro p hp;rw[hv_]
 have hbp:bl p≤4398046511104:=by
  rw[hp];rcases Nat.eq_zero_or_pos y.natAbs with e|e
  rw[e,Nat.gcd_zero_right];exact hx;exact Nat.le_trans (b0_ (Nat.gcd_le_right _ e)) hy
 have hzp:=bh_ p;have hlp:=aT_ (b:=UB) (by decide) p;refine r_c 3 (e7_ 1 (zd p) (p:Int) (by omega) (zd_lt p) (by rw[hv_zd,Int.natAbs_natCast]) (fun h=>by unfold sgZ;rw[if_neg h,if_neg (by omega)])) ?_;refine a_z ?_;refine af_ (bQ_ rfl rfl rfl TG.h TS.h (nle rfl) ?_ ?_);rw[←hp];rfl;exact bx_ _
end Go.Proofs.YtjkddcfoolilbaaGreatDoor
