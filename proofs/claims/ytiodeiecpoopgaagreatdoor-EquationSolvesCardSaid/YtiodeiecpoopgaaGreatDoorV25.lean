/- Part V25. -/
import Derived.Test.YtiodeiecpoopgaaGreatDoorV24
set_option linter.all false
namespace Go.Proofs.YtiodeiecpoopgaaGreatDoor
open Go.Abs
set_option maxRecDepth 20000
def zl(z:Int):Prop:=bl z.natAbs<=8796093022208
theorem xQ{z:Int}(h:zl z):(zd z.natAbs).length<=17592186044416:=by
 have:=bC (b:=UB) (by decide) z.natAbs;rw[cy];unfold zl at h;omega
theorem yg{x y:Int}(h:sgZ x=sgZ y)(hx:x≠0):(x+y).natAbs=x.natAbs+y.natAbs/\(x+y≠0->sgZ x=sgZ (x+y)):=by
 rcases db x with⟨a,b⟩|⟨a,b⟩|⟨a,b⟩<;> rcases db y with⟨c,d⟩|⟨c,d⟩|⟨c,d⟩<;> rcases db (x+y) with⟨e,f⟩|⟨e,f⟩|⟨e,f⟩<;> rw[a,c] at h <;> rw[a,e]<;> first|omega|(constructor <;> omega)
theorem uy{x y:Int}(h:sgZ x≠sgZ y)(hx:x≠0)(hy:y≠0)(hg:y.natAbs<=x.natAbs):(x+y).natAbs=x.natAbs- y.natAbs/\(x+y≠0->sgZ x=sgZ (x+y)):=by
 rcases db x with⟨a,b⟩|⟨a,b⟩|⟨a,b⟩<;> rcases db y with⟨c,d⟩|⟨c,d⟩|⟨c,d⟩<;> rcases db (x+y) with⟨e,f⟩|⟨e,f⟩|⟨e,f⟩<;> rw[a,c] at h <;> rw[a,e]<;> first|omega|(constructor <;> omega)
theorem FA(x y:Int)(hx:zl x)(hy:zl y):FS 164 [.agg (zZ x),.agg (zZ y)] (.agg (zZ (x+y))):=by
 have c:=xQ hx;have d:=xQ hy
 have bound:∀r:Nat,r<=x.natAbs+y.natAbs->(zd r).length<=281474976710656:=by
  intro r n;have i:=bC (b:=UB) (by decide) r;have g:=dG n;have j:=zP x.natAbs y.natAbs;unfold zl at hx hy;rw[cy];omega
 refine f_c Tryz.func164 ?_;refine r_z 3 ?_;refine ae (r_z 3 ?_);refine ap rfl (fun h=>?_) (fun h=>?_)
 have m:x=0:=by
  have:sgZ x=0:=by simpa using h
  rcases db x with⟨a,b⟩|⟨a,b⟩|⟨a,b⟩<;> omega
 refine r_z 2 ?_;refine aj (dA rfl rfl rfl TG.h TS.h (nle rfl) ?_ ?_);rw[m,Int.zero_add];rfl;exact cY _;have e:x≠0:=by rintro rfl;simp[sgZ] at h
 refine am (ae (r_z 3 ?_));refine ap rfl (fun i=>?_) (fun i=>?_)
 have m:y=0:=by
  have:sgZ y=0:=by simpa using i
  rcases db y with⟨a,b⟩|⟨a,b⟩|⟨a,b⟩<;> omega
 refine r_z 2 ?_;refine aj (dA rfl rfl rfl TG.h TS.h (nle rfl) ?_ ?_);rw[m,Int.add_zero];rfl;exact cY _;have f:y≠0:=by rintro rfl;simp[sgZ] at i
 refine am (ae (r_z 5 ?_));refine ap rfl (fun g=>?_) (fun g=>?_);have hs:sgZ x=sgZ y:=by simpa using g
 obtain⟨e1,e2⟩:=yg hs e;refine ae (r_d aT 9 ?_);refine c_s (pT x.natAbs y.natAbs 1 (x.natAbs+y.natAbs) (.inl rfl) (by omega) c d) ?_;refine c_s (kz (sgZ x) (zd (x.natAbs+y.natAbs)) (x+y) (bound _ (Nat.le_refl _)) (jw _) (by rw[ky,e1]) e2) ?_;refine a_1 ?_;refine ao (n_k ?_);exact aj (c_e (cY _));have hs:sgZ x≠sgZ y:=by simpa using g
 refine am (ae (r_c 6 (Bl x.natAbs y.natAbs (by omega) (by omega)) ?_));refine a_z ?_;refine ap rfl (fun j=>?_) (fun j=>?_)
 have k:y.natAbs<=x.natAbs:=by
  have:=of_decide_eq_true j;unfold eH at this;split at this;omega;omega
 obtain⟨e1,e2⟩:=uy hs e f k;refine ae (r_d aT 9 ?_);refine c_s (pT x.natAbs y.natAbs (-1) (x.natAbs- y.natAbs) (.inr rfl) (by omega) c d) ?_;refine c_s (kz (sgZ x) (zd (x.natAbs- y.natAbs)) (x+y) (bound _ (by omega)) (jw _) (by rw[ky,e1]) e2) ?_;refine a_1 ?_;refine ao (n_k ?_);exact aj (c_e (cY _))
 have l:x.natAbs<=y.natAbs:=by
  have:=of_decide_eq_false j;unfold eH at this;split at this;omega;split at this <;> omega
 obtain⟨e1,e2⟩:=uy (fun h=>hs h.symm) f e l;rw[Int.add_comm] at e1 e2;refine am (ae (r_d aT 9 ?_));refine c_s (pT y.natAbs x.natAbs (-1) (y.natAbs- x.natAbs) (.inr rfl) (by omega) d c) ?_;refine c_s (kz (sgZ y) (zd (y.natAbs- x.natAbs)) (x+y) (bound _ (by omega)) (jw _) (by rw[ky,e1]) e2) ?_;refine a_1 ?_;refine ao (n_k ?_);exact aj (c_e (cY _))
theorem zl_neg{z:Int}(h:zl z):zl (-z):=by unfold zl at *;rwa[Int.natAbs_neg]
theorem fs_ZSub(x y:Int)(hx:zl x)(hy:zl y):FS 163 [.agg (zZ x),.agg (zZ y)] (.agg (zZ (x- y))):=by
 have hs:=FA x (-y) hx (zl_neg hy);rw[<-Int.sub_eq_add_neg] at hs;refine f_c Tryz.func163 ?_;refine r_z 3 ?_;refine ae (r_d aT 5 ?_);refine c_s (tM y) ?_;refine c_s (hs) ?_;refine a_1 ?_;refine ao (n_k ?_);exact aj (c_e (cY _))
theorem fs_ZCmp(x y:Int)(hx:zl x)(hy:zl y):FS 115 [.agg (zZ x),.agg (zZ y)] (i64 (eH x y)):=by
 have e:eH x y=sgZ (x- y):=by
  unfold eH sgZ;split <;> split <;>(try split)<;>(try split)<;> omega
 rw[e];refine f_c Tryz.func115 ?_;refine r_z 3 ?_;refine r_c 5 (fs_ZSub x y hx hy) ?_;refine a_z ?_;exact aj (t_e (ag _))
def Cz(l:Ln):Nat->AState
 |i=>⟨[(0,.arr (iE l)),(3,i64 (hv (l.take i))),(4,i64 i)],[],1,19⟩
theorem Dd{l:Ln}(hd:∀d∈l,d< UB)(hl:l.length<=4)(i:Nat):hv (l.take i)< 1152921504606846976:=by
 have a:=Fq (l:=l.take i) fun d h=>hd d (List.mem_of_mem_take h);have b:(l.take i).length<=4:=by rw[List.length_take];omega
 exact Nat.lt_of_lt_of_le a (Nat.pow_le_pow_right (by decide) b)
theorem ve(l:Ln)(hl:l.length<=4)(hd:∀d∈l,d< UB):FS 187 [.arr (iE l)] (i64 (hv l)):=by
 refine f_c Tryz.func187 ?_;refine r_z 1 ?_;refine r_z 1 ?_;refine ae (r_z 1 ?_);refine aC (Cz l) (fun i=>i=l.length) ?_ ?_;refine ah (ax (Cz l) (fun i=>l.length- i) (fun i=>i<=l.length) 0 (Nat.zero_le _) ?_ ?_);simp only[Cz.eq_1];exact s_e [];intro i m;rw[Cz.eq_1];refine ae (r_z 4 ?_);refine ap rfl (fun h=>?_) (fun h=>?_);have f:i< l.length:=by simpa using h
 obtain⟨d,c⟩:∃d,l[i]?=some d:=⟨_,List.getElem?_eq_getElem f⟩;have j:=hd d (List.mem_of_getElem? c);have b:(iE l)[((i:Nat):Int).toNat]?=some [i64 d]:=kT c;have e:=pC (l.take i) d;rw[<-cm c] at e;have hb:=Dd hd hl (i+1);obtain⟨V,k⟩:∃V,V=hv (l.take i):=⟨_,rfl⟩;rw[<-k] at e⊢;have a:hv (l.take (i+1))=V* 32768+d:=e;refine am (ae (ah (r_m 8 ?_)));refine a_4 ?_;refine i_x b ?_;refine l_1 b ?_;refine a_z ?_;refine r_m 3 ?_;refine a_z ?_;refine⟨i+1,by omega,f,?_⟩;simp only[Cz.eq_1];refine s_x [] (fun hs=>?_) (fun hs=>?_) ?_
 ·repeat' (first|exact aI|refine au rfl ?_ ?_|exact aS|(refine Cv.loE hs ?_ (ag _);first|rfl|(simp[i64,u64,u32,bln,a];done)|(simp[i64,u64,u32,bln,a]<;> omega)))
 ·repeat' (first|exact aA|refine h_c ?_ ?_|exact br|(refine aF hs ?_ (dt _);first|(simp[oD,nY,jD,a];done)|(simp[iE,i64,ofV,a];done))|refine ay ?_|exact aq|refine ak ?_ ?_|exact aS|(refine Cv.loE hs ?_ (ag _);first|(simp[i64,u64,u32,bln,a];done)|(simp[i64,u64,u32,bln,a]<;> omega)))
 ·repeat' (first|exact ShrL.nil|refine ShrL.cons rfl rfl rfl rfl (by first|rfl|(simp;done)|(simp[a]<;> omega)) ?_)
 have g:i=l.length:=by simp at h;omega
 refine aw ⟨i,g,?_⟩;exact s_e [];rintro i rfl;rw[Cz.eq_1,List.take_length];refine r_z 2 ?_;refine aj (aM rfl rfl (ag _))
def Hx(s:Int):Int×Ln->AState
 |(n,l)=>⟨[(0,i64 n),(2,.lptr 1 0 0),(3,i64 s),(4,.arr (iE l))],[(1,some ⟨53,2,[[i64 0,.emp]]⟩)],2,25⟩
theorem l9(n:Int)(h: -9223372036854775808<=n/\n<=9223372036854775807):FS 91 [i64 n] (.agg (zZ n)):=by
 obtain⟨s,hs⟩:∃s:Int,s=if n< 0 then -1 else 1:=⟨_,rfl⟩
 have j:n≠0->s=sgZ n:=by
  intro u;rw[hs];unfold sgZ;rw[if_neg u]
 refine f_c Tryz.func91 ?_;refine r_z 1 ?_;refine r_z 1 ?_;refine a6 (fun _:Unit=>⟨[(0,i64 n),(2,.lptr 1 0 0),(3,i64 s)],[(1,some ⟨53,2,[[i64 0,.emp]]⟩)],2,25⟩) (fun _=>True) ?_ ?_;refine r_z 2 ?_;refine ap rfl (fun b=>?_) (fun b=>?_);have p:n< 0:=by simpa using b
 rw[hs,if_pos p];refine r_m 1 ?_;refine a_z ?_;refine⟨(),trivial,?_⟩;exact s_e [];have p:¬n< 0:=by simpa using b
 rw[hs,if_neg p];refine am ⟨(),trivial,?_⟩;exact s_e [];rintro _ _;refine r_z 1 ?_;refine a6 (fun l:Ln=>Hx s (0,l)) (fun l=>l.length<=10/\(∀d∈l,d< UB)/\hv l=n.natAbs) ?_ ?_;refine ah (ax (Hx s) (fun x=>x.1.natAbs) (fun x=>(-9223372036854775808<=x.1/\x.1<=9223372036854775807)/\(∀d∈x.2,d< UB)/\n.natAbs=hv x.2+UB^ x.2.length* x.1.natAbs/\x.2.length<=5) (n,[]) ⟨h,by simp,by simp[u9],by simp⟩ ?_ ?_);simp only[Hx.eq_1];exact s_e [(1,2)];rintro⟨m,l⟩ ⟨A,c,a,o⟩;simp only at A c a o;rw[Hx.eq_1];refine ae (r_z 2 ?_);refine ap rfl (fun h=>?_) (fun h=>?_)
 ·have f:m≠0:=by simpa using h
  have hl:l.length<=4:=by
   refine Nat.le_of_not_lt fun y=>?_;have E:UB^ 5<=UB^ l.length:=Nat.pow_le_pow_right (by decide) y;have B:UB^ l.length* 1<=UB^ l.length* m.natAbs:=Nat.mul_le_mul_left _ (by omega);have C:UB^ 5=37778931862957161709568:=by decide
   omega
  obtain⟨d,i⟩:∃d,d=m.natAbs % 32768:=⟨_,rfl⟩;have k:d< 32768:=by omega
  have D:(m.tmod 32768).natAbs=d:=by rw[Int.natAbs_tmod,i];rfl
  have w:(m.tdiv 32768).natAbs=m.natAbs/ 32768:=by rw[Int.natAbs_tdiv];rfl
  have t:m.natAbs/ 32768< m.natAbs:=Nat.div_lt_self (by omega) (by decide);have r:=Nat.div_add_mod m.natAbs 32768;refine am (ah (s_r 3 ?_));refine a_1 ?_;refine o_0 (.bin rfl rfl (Hm (by decide))) ?_;refine a_z ?_;refine a6 (fun _:Unit=>⟨[(0,i64 m),(2,.lptr 1 0 0),(3,i64 s),(4,.arr (iE l)),(5,i64 d)],[(1,some ⟨53,2,[[i64 0,.emp]]⟩)],2,25⟩) (fun _=>True) ?_ ?_;refine r_z 2 ?_;refine ap rfl (fun b=>?_) (fun b=>?_);have g:m.tmod 32768< 0:=by simpa using b
  refine r_m 3 ?_;refine a_z ?_;have e: -m.tmod 32768=d:=by omega
  refine⟨(),trivial,?_⟩;have:=(congrArg (fun z=>AV.v (.int .i64 z)) e);exact s_f [];have g:¬m.tmod 32768< 0:=by simpa using b
  have e:m.tmod 32768=d:=by omega
  refine am ⟨(),trivial,?_⟩;have:=(congrArg (fun z=>AV.v (.int .i64 z)) e);exact s_f [];rintro _ _;refine s_r 5 ?_;refine a_3 ?_;refine o_2 (.append_l rfl rfl rfl te_51.h rfl rfl rfl rfl rfl d_o (by first|exact eT _|exact eP _|exact dZ _|exact eW _|exact eg _|assumption|rfl|simp) (by first|rfl|exact eT _|exact eP _|exact dZ _|exact eW _|exact eg _|simp) rfl (.arr (l7 _)) TZ.h rfl TB.h d_o (by first|(simp[maxLen];done)|(simp[maxLen];omega))) ?_;refine a_z ?_;refine r_m 3 ?_;refine a_1 ?_;refine o_0 (.bin rfl rfl (sA (by decide) (by omega))) ?_;refine a_z ?_;refine⟨(m.tdiv 32768,d::l),by simp only;omega,⟨by simp only;omega,?_,?_,by simp;omega⟩,?_⟩;intro e q;rcases List.mem_cons.1 q with rfl|q
  exact k;exact c e q;simp only[pD,List.length_cons];rw[a,w,Nat.pow_succ,Nat.mul_assoc,Nat.add_assoc,<-Nat.mul_add];congr 2;show m.natAbs=d+32768* (m.natAbs/ 32768);omega;simp only[Hx.eq_1];have e:[[i64 d]]++iE l=iE (d::l):=rfl;refine s_x [] (fun hs=>?_) (fun hs=>?_)
  ·repeat' (first|exact aI|refine au rfl ?_ ?_|exact Cv.sealE hs rfl (aH rfl) e (by simp;omega) (dt _)|exact aS)
  ·repeat' (first|exact aA|refine h_c ?_ ?_|exact br|refine ay ?_|exact aq|refine ak ?_ ?_|exact Cv.sealE hs rfl (aH rfl) e (by simp;omega) (dt _)|exact aS)
 have f:m=0:=by simpa using h
 subst f;refine aw ⟨l,⟨by omega,c,by simpa using a.symm⟩,?_⟩;simp only[Hx.eq_1];exact s_e [];rintro l ⟨hl,c,a⟩;rw[Hx.eq_1];refine r_c 4 (kz s l n (by omega) c a j) ?_;refine a_z ?_;exact aj (c_e (cY _))
theorem EW{o:Ln}{j d:Nat}(h:o[j]?=some d):o.reverse[o.length- 1- j]?=some d:=by
 have a:j< o.length:=(List.getElem?_eq_some_iff.1 h).1;rw[List.getElem?_reverse (by omega),show o.length- 1- (o.length- 1- j)=j by omega];exact h
theorem EV{o:Ln}{j v:Nat}(hj:j< o.length):o.reverse.set (o.length- 1- j) v=(o.set j v).reverse:=by
 apply List.ext_getElem?;intro i;by_cases hi:i< o.length;rw[List.getElem?_reverse (by simpa using hi),List.getElem?_set,List.getElem?_set,List.length_reverse,List.length_set];by_cases h:o.length- 1- j=i;rw[if_pos h,if_pos (by omega),if_pos (by omega),if_pos (by omega)];rw[if_neg h,if_neg (by omega),List.getElem?_reverse hi];rw[List.getElem?_eq_none (by simpa using hi),List.getElem?_eq_none (by simpa using hi)]
def zmS(x:Int)(y:Int):Ln×Nat->AState
 |(o,i)=>⟨[(2,.lptr 1 0 0),(3,.lptr 2 0 0),(4,.lptr 3 0 0),(5,.lsl 4 0 ((zd x.natAbs).length+(zd y.natAbs).length) (some ((zd x.natAbs).length+(zd y.natAbs).length)) 1),(6,i64 (((zd x.natAbs).length:Int)- 1- i))],
  [(1,some ⟨53,2,[zZ x]⟩),(2,some ⟨53,2,[zZ y]⟩),(3,some ⟨53,2,[[i64 0,.emp]]⟩),(4,some ⟨3,1,iE o.reverse⟩)],5,76⟩
def zmT(x:Int)(y:Int)(i:Nat):Ln×Nat×Nat->AState
 |(o,k,c)=>⟨[(2,.lptr 1 0 0),(3,.lptr 2 0 0),(4,.lptr 3 0 0),(5,.lsl 4 0 ((zd x.natAbs).length+(zd y.natAbs).length) (some ((zd x.natAbs).length+(zd y.natAbs).length)) 1),(6,i64 (((zd x.natAbs).length:Int)- 1- i)),(7,i64 c),(8,i64 (((zd y.natAbs).length:Int)- 1- k))],
  [(1,some ⟨53,2,[zZ x]⟩),(2,some ⟨53,2,[zZ y]⟩),(3,some ⟨53,2,[[i64 0,.emp]]⟩),(4,some ⟨3,1,iE o.reverse⟩)],5,76⟩
structure ZmI (a b:Nat)(x:Ln×Nat):Prop where
 len:x.1.length=(av UB a).length+(av UB b).length
 le:x.2<=(av UB a).length
 dig:∀d∈x.1,d< UB
 val:ofD UB x.1=ofD UB ((av UB a).take x.2) * b
 zer:∀j,x.2+(av UB b).length<=j->j< x.1.length->x.1[j]?=some 0
structure ZmJ (a b i v:Nat)(x:Ln×Nat×Nat):Prop where
 len:x.1.length=(av UB a).length+(av UB b).length
 le:x.2.1<=(av UB b).length
 dig:∀d∈x.1,d< UB
 car:x.2.2< UB
 val:ofD UB x.1+UB^ (i+x.2.1) * x.2.2=ofD UB ((av UB a).take i) * b+UB^ i* v* ofD UB ((av UB b).take x.2.1)
 zer:∀j,i+(av UB b).length<=j->j< x.1.length->x.1[j]?=some 0
theorem sgZ_mul(x y:Int):sgZ (x* y)=sgZ x* sgZ y:=by
 rcases db x with⟨a,b⟩|⟨a,b⟩|⟨a,b⟩<;> rcases db y with⟨c,d⟩|⟨c,d⟩|⟨c,d⟩<;> rw[a,c]<;> rcases db (x* y) with⟨e,f⟩|⟨e,f⟩|⟨e,f⟩<;> rw[e]<;> first|rfl|(exfalso;subst_vars;simp at f;done)|(exfalso;have:=Int.mul_pos_of_neg_of_neg b d;omega)|(exfalso;have:=Int.mul_neg_of_neg_of_pos b d;omega)|(exfalso;have:=Int.mul_neg_of_pos_of_neg b d;omega)|(exfalso;have:=Int.mul_pos b d;omega)
theorem iX(x y:Int)(hx:zl x)(hy:zl y):FS 95 [.agg (zZ x),.agg (zZ y)] (.agg (zZ (x* y))):=by
 have hlx:=xQ hx;have hly:=xQ hy;have A:=cy x.natAbs;have B:=cy y.natAbs;obtain⟨a,ha⟩:∃a,a=x.natAbs:=⟨_,rfl⟩;obtain⟨b,hb⟩:∃b,b=y.natAbs:=⟨_,rfl⟩;have va:=bz (b:=UB) (by decide) a;have vb:=bz (b:=UB) (by decide) b
 have U: -9223372036854775808<=sgZ x* sgZ y/\sgZ x* sgZ y<=9223372036854775807:=by
  rcases db x with⟨h,_⟩|⟨h,_⟩|⟨h,_⟩<;> rcases db y with⟨h',_⟩|⟨h',_⟩|⟨h',_⟩<;> rw[h,h']<;> decide
 refine f_c Tryz.func95 ?_;subst ha hb;refine r_z 3 ?_;refine r_z 9 ?_;refine ae (r_z 5 ?_);refine aC (zmS x y) (fun v=>ZmI x.natAbs y.natAbs v/\v.2=(av UB x.natAbs).length) ?_ ?_;refine ah (ax (zmS x y) (fun v=>(av UB x.natAbs).length- v.2) (ZmI x.natAbs y.natAbs) (List.replicate ((av UB x.natAbs).length+(av UB y.natAbs).length) 0,0) ⟨by simp,by simp,?_,by simp[rF,ofD],?_⟩ ?_ ?_);intro d K;simp at K;rw[K.2];decide;intro j _ G;simp at G;simp[G];simp only[zmS.eq_1];refine s_x [(1,2),(2,3),(3,4),(4,5)] (fun hs=>?_) (fun hs=>?_) ?_
 ·repeat' (first|exact aI|refine au rfl ?_ ?_|exact aS|(refine Cv.loE hs ?_ (ag _);first|rfl|(simp[i64,u64,u32,bln,A,B];done)|(simp[i64,u64,u32,bln,A,B]<;> omega)))
 ·repeat' (first|exact aA|refine h_c ?_ ?_|exact br|(refine aF hs ?_ (dt _);first|(simp[oD,nY,jD,A,B];done)|(simp[iE,i64,ofV,A,B];done))|refine ay ?_|exact aq|refine ak ?_ ?_|exact aS|(refine Cv.loE hs ?_ (ag _);first|(simp[i64,u64,u32,bln,A,B];done)|(simp[i64,u64,u32,bln,A,B]<;> omega)))
 ·repeat' (first|exact ShrL.nil|refine ShrL.cons rfl rfl rfl rfl (by first|rfl|(simp;done)|(simp[A,B]<;> omega)) ?_)
 rintro⟨o,i⟩ ⟨r,E,p,g,s⟩;simp only at r E p g s;rw[zmS.eq_1];refine ae (r_z 2 ?_);refine ap rfl (fun h=>?_) (fun h=>?_);have S:i< (av UB x.natAbs).length:=by have:=of_decide_eq_true h;omega
 obtain⟨u,V⟩:∃u,(av UB x.natAbs)[i]?=some u:=⟨_,List.getElem?_eq_getElem S⟩;have hu1:u< 32768:=cI (by decide) V
 have M:(iE (zd x.natAbs))[(((zd x.natAbs).length:Int)- 1- i).toNat]?=some [i64 u]:=by
  rw[show(((zd x.natAbs).length:Int)- 1- i).toNat=(av UB x.natAbs).length- 1- i by omega];exact kT (xR V)
 refine am (ae (ah (r_z 1 ?_)));refine ae (r_z 5 ?_);refine aC (zmT x y i) (fun v=>ZmJ x.natAbs y.natAbs i u v/\v.2.1=(av UB y.natAbs).length) ?_ ?_;refine ah (ax (zmT x y i) (fun v=>(av UB y.natAbs).length- v.2.1) (ZmJ x.natAbs y.natAbs i u) (o,0,0) ⟨r,by simp,p,(show 0< UB by decide),by simp[g,ofD],s⟩ ?_ ?_);simp only[zmT.eq_1];exact s_e [];rintro⟨q,k,c⟩ ⟨m,D,e,f,n,l⟩;simp only at m D e f n l;rw[zmT.eq_1];refine ae (r_z 2 ?_);refine ap rfl (fun h=>?_) (fun h=>?_);have N:k< (av UB y.natAbs).length:=by have:=of_decide_eq_true h;omega
 obtain⟨v,hv⟩:∃v,(av UB y.natAbs)[k]?=some v:=⟨_,List.getElem?_eq_getElem N⟩;have hv1:v< 32768:=cI (by decide) hv
 have L:(iE (zd y.natAbs))[(((zd y.natAbs).length:Int)- 1- k).toNat]?=some [i64 v]:=by
  rw[show(((zd y.natAbs).length:Int)- 1- k).toNat=(av UB y.natAbs).length- 1- k by omega];exact kT (xR hv)
 obtain⟨d,K⟩:∃d,q[i+k]?=some d:=⟨_,List.getElem?_eq_getElem (by omega)⟩;have hd1:d< 32768:=e d (List.mem_of_getElem? K);have T:c< 32768:=f;have hidx:(((zd x.natAbs).length:Int)- 1- i+(((zd y.natAbs).length:Int)- 1- k)+1).toNat=q.length- 1- (i+k):=by omega
 have O:(iE q.reverse)[0+(((zd x.natAbs).length:Int)- 1- i+(((zd y.natAbs).length:Int)- 1- k)+1).toNat]?=some [i64 d]:=by rw[hidx,Nat.zero_add];exact kT (EW K)
 have C:∀w:Nat,(iE q.reverse).set (0+(((zd x.natAbs).length:Int)- 1- i+(((zd y.natAbs).length:Int)- 1- k)+1).toNat) [i64 w]=iE (q.set (i+k) w).reverse:=by intro w;rw[hidx,Nat.zero_add,oD,EV (by omega)]
 have Z:u* v<=32767* 32767:=Nat.mul_le_mul (by omega) (by omega);have F:(u:Int) * v=((u* v:Nat):Int):=by push_cast;rfl
 refine am ?_;have Y:0<=(u:Int) * v:=Int.mul_nonneg (by omega) (by omega);refine ae (ah (ae (r_d aT 22 ?_)));refine a_5 ?_;refine bF (.index_l rfl rfl (by omega) (by omega) te_51.h) rfl rfl ?_;refine bF (.load_l1 rfl rfl O TG.h rfl) rfl rfl ?_;refine a_3 ?_;refine i_x M ?_;refine l_1 M ?_;refine a_3 ?_;refine i_x L ?_;refine l_1 L ?_;refine a_5 ?_;refine ao (n_k ?_);refine s_r 9 ?_;refine a_8 ?_;refine dB (.store rfl rfl O rfl rfl rfl TS.h (nle rfl)) ?_;refine ao ?_;refine r_m 3 ?_;refine a_z ?_;refine r_m 3 ?_;refine a_z ?_;have hm:((d:Int)+(u:Int) * v+c) % 32768=(((d+u* v+c) % 32768:Nat):Int):=by rw[F];omega
 have W:((d:Int)+(u:Int) * v+c) / 32768=(((d+u* v+c) / 32768:Nat):Int):=by rw[F];omega
 refine⟨(q.set (i+k) ((d+u* v+c) % 32768),k+1,(d+u* v+c) / 32768),by simp;omega,⟨by simp[m],by simp;omega,tF e (Nat.mod_lt _ (by decide)),?_,?_,?_⟩,?_⟩;show _< 32768;simp only;omega;simp only;have e1:=po UB ((d+u* v+c) % 32768) K;have e2:=Nat.mod_add_div (d+u* v+c) 32768
 have e3:UB^ (i+k) * ((d+u* v+c) % 32768)+UB^ (i+(k+1)) * ((d+u* v+c) / 32768)=UB^ (i+k) * d+UB^ (i+k) * (u* v)+UB^ (i+k) * c:=by
  rw[<-Nat.add_assoc i k 1,Nat.pow_succ,Nat.mul_assoc,<-Nat.mul_add,show UB* ((d+u* v+c) / 32768)=32768* ((d+u* v+c) / 32768) from rfl,e2,Nat.mul_add,Nat.mul_add]
 have e4:UB^ i* u* ofD UB ((av UB y.natAbs).take (k+1))=UB^ i* u* ofD UB ((av UB y.natAbs).take k)+UB^ (i+k) * (u* v):=by
  rw[cS _ hv,Nat.mul_add];congr 1;rw[Nat.pow_add];simp only[Nat.mul_assoc,Nat.mul_left_comm,Nat.mul_comm]
 rw[e4];omega;intro j G J;rw[List.getElem?_set_ne (by omega)];exact l j G (by simpa using J);simp only[zmT.eq_1];have t:=C ((d+u* v+c) % 32768);rw[<-hm] at t;refine s_x [] (fun hs=>?_) (fun hs=>?_) ?_
 ·repeat' (first|exact aI|refine au rfl ?_ ?_|exact Cv.loE hs (congrArg (fun z=>AV.v (.int .i64 z)) W) (ag _)|exact aS)
 ·repeat' (first|exact aA|refine h_c ?_ ?_|exact aF hs t (dt _)|exact br|refine ay ?_|exact aq|refine ak ?_ ?_|exact Cv.loE hs (congrArg (fun z=>AV.v (.int .i64 z)) W) (ag _)|exact aS)
 ·repeat' (first|exact ShrL.nil|refine ShrL.cons rfl rfl rfl rfl (by first|(exact congrArg List.length t)|rfl|(simp;done)|(simp <;> omega)) ?_)
 have Q:k=(av UB y.natAbs).length:=by have:=of_decide_eq_false h;omega
 refine aw ⟨(q,k,c),⟨⟨m,D,e,f,n,l⟩,Q⟩,?_⟩;simp only[zmT.eq_1];exact s_e [];rintro⟨q,k,c⟩ ⟨⟨m,D,e,f,n,l⟩,Q⟩;simp only at m D e f n l Q;subst Q;have T:c< 32768:=f;have X:=l (i+(av UB y.natAbs).length) (Nat.le_refl _) (by omega);have hidx:(((zd x.natAbs).length:Int)- 1- i).toNat=q.length- 1- (i+(av UB y.natAbs).length):=by omega
 have O:(iE q.reverse)[0+(((zd x.natAbs).length:Int)- 1- i).toNat]?=some [i64 0]:=by rw[hidx,Nat.zero_add];exact kT (EW X)
 have C:(iE q.reverse).set (0+(((zd x.natAbs).length:Int)- 1- i).toNat) [i64 c]=iE (q.set (i+(av UB y.natAbs).length) c).reverse:=by rw[hidx,Nat.zero_add,oD,EV (by omega)]
 rw[List.take_length,vb] at n;rw[zmT.eq_1];refine r_m 5 ?_;refine a_4 ?_;refine dB (.store rfl rfl O rfl rfl rfl TS.h (nle rfl)) ?_;refine ao ?_;refine r_m 3 ?_;refine a_z ?_;refine⟨(q.set (i+(av UB y.natAbs).length) c,i+1),by simp;omega,⟨by simp[m],by simp;omega,tF e f,?_,?_⟩,?_⟩;simp only;have e1:=po UB c X;rw[cS _ V,Nat.add_mul,<-n];omega;intro j G J;rw[List.getElem?_set_ne (by simp only at G;omega)];exact l j (by simp only at G;omega) (by simpa using J);simp only[zmS.eq_1];refine s_x [] (fun hs=>dJ) (fun hs=>?_) e_47
 ·repeat' (first|exact aA|refine h_c ?_ ?_|refine aF hs C (dt _)|exact br)
 have R:i=(av UB x.natAbs).length:=by have:=of_decide_eq_false h;omega
 refine aw ⟨(o,i),⟨⟨r,E,p,g,s⟩,R⟩,?_⟩;simp only[zmS.eq_1];exact s_e [];rintro⟨o,i⟩ ⟨⟨r,E,p,g,s⟩,R⟩;simp only at r E p g s R;subst R;rw[List.take_length,va] at g;rw[zmS.eq_1];have hol:o.length=(zd x.natAbs).length+(zd y.natAbs).length:=by omega
 have hw:=kz (sgZ x* sgZ y) o.reverse (x* y) (by simp;omega) (fun d h=>p d (List.mem_reverse.1 h)) (by unfold hv;rw[List.reverse_reverse,g,Int.natAbs_mul]) (fun _=>(sgZ_mul x y).symm);have H:((iE o.reverse).drop 0).take ((zd x.natAbs).length+(zd y.natAbs).length)=iE o.reverse:=by rw[List.drop_zero,List.take_of_length_le (by simp;omega)]
 refine s_r 8 ?_;refine a_4 ?_;refine o_0 (.bin rfl rfl (wg U)) ?_;refine a_1 ?_;refine o_1 (.callS1 rfl rfl rfl (.keep (.shut rfl d_n (.nil))) rfl ((by rw[H];exact hw))) ?_;refine a_z ?_;exact aj (c_e (cY _))
theorem Hh{b:Nat}(hb:1< b):∀(j n:Nat),(av b n)[j]?.getD 0=n/ b^ j % b:=by
 intro j
 induction j with
 |zero=>
  intro n;rcases Nat.eq_zero_or_pos n with rfl|a
  rw[cg];simp;rw[eB hb a];simp
 |succ j c=>
  intro n;rcases Nat.eq_zero_or_pos n with rfl|a
  rw[cg];simp;rw[eB hb a,List.getElem?_cons_succ,c,Nat.div_div_eq_div_mul,Nat.pow_succ,Nat.mul_comm b]
def DF(n:Nat)(long:Nat)(k:Nat):Nat->AState
 |i=>⟨[(0,.arr (iE (zd n))),(1,i64 long),(2,i64 k),(7,i64 (n/ UB^ (long- i):Nat)),(8,i64 i)],[],1,24⟩
theorem pP(n long k:Nat)(hk:k<=4)(hkl:k<=long)(hn:n< UB^ long)(hl:(zd n).length<=281474976710656)(hlo:long<=281474976710656):FS 232 [.arr (iE (zd n)),i64 long,i64 k] (i64 (n/ UB^ (long- k):Nat)):=by
 have bound:∀i,i<=k->n/ UB^ (long- i)< 1152921504606846976:=by
  intro i l
  have m:n/ UB^ (long- i)< UB^ i:=by
   rw[Nat.div_lt_iff_lt_mul (Nat.pow_pos (by decide)),<-Nat.pow_add,show i+(long- i)=long by omega];exact hn
  exact Nat.lt_of_lt_of_le m (Nat.pow_le_pow_right (n:=32768) (j:=4) (by decide) (by omega))
 refine f_c Tryz.func232 ?_;refine r_z 1 ?_;refine r_z 1 ?_;refine ae (r_z 1 ?_);refine aC (DF n long k) (fun i=>i=k) ?_ ?_;refine ah (ax (DF n long k) (fun i=>k- i) (fun i=>i<=k) 0 (Nat.zero_le _) ?_ ?_);simp only[DF.eq_1];have e:AV.v (.int .i64 0)=i64 (n/ UB^ (long- 0):Nat):=by rw[Nat.sub_zero,Nat.div_eq_of_lt hn];rfl
 exact s_f [];intro i l;rw[DF.eq_1];refine ae (r_z 3 ?_);refine ap rfl (fun h=>?_) (fun h=>?_);have a:i< k:=by simpa using h
 have c:=vm (zd n) (long- 1- i) hl;unfold zd at c;rw[List.reverse_reverse,Hh (by decide),show((long- 1- i:Nat):Int)=(long:Int)- 1- i by omega] at c;have e1:=Nat.div_add_mod (n/ UB^ (long- 1- i)) UB;rw[Nat.div_div_eq_div_mul,<-Nat.pow_succ,show(long- 1- i).succ=long- i by omega] at e1;have hb:=bound (i+1) a;rw[show long- (i+1)=long- 1- i by omega] at hb;have b:n/ UB^ (long- 1- i) % UB< 32768:=Nat.mod_lt _ (by decide);obtain⟨V,f⟩:∃V,V=n/ UB^ (long- i):=⟨_,rfl⟩;obtain⟨D,g⟩:∃D,D=n/ UB^ (long- 1- i) % UB:=⟨_,rfl⟩;have o:V< 1152921504606846976:=by rw[f];exact bound i l
 rw[<-f,<-g] at e1;rw[<-g] at c b;rw[<-f];have q:32768* V+D=n/ UB^ (long- 1- i):=e1
 have e2:(V:Int) * 32768+D=((n/ UB^ (long- (i+1)):Nat):Int):=by
  rw[show long- (i+1)=long- 1- i by omega,<-q];omega
 have p:V* 32768+D< 1152921504606846976:=by omega
 refine am (ae (ah (r_m 10 ?_)));refine c_s (c) ?_;refine a_z ?_;refine r_m 3 ?_;refine a_z ?_;refine⟨i+1,by omega,a,?_⟩;simp only[DF.eq_1];have:=(congrArg (fun z=>AV.v (.int .i64 z)) e2);exact s_f [];have d:i=k:=by simp at h;omega
 refine aw ⟨i,d,?_⟩;simp only[DF.eq_1];exact s_e [];rintro i rfl;rw[DF.eq_1];refine r_z 2 ?_;refine aj (aM rfl rfl (ag _))
def ux(D:Nat):Nat×Nat->AState
 |(R,k)=>⟨[(0,.arr (iE (zd R))),(1,.arr (iE (zd D))),(6,i64 k)],[],1,57⟩
theorem est_le{R D e:Nat}(he:0< e):R/ e/ (D/ e+1) * D<=R:=by
 have a:R/ e/ (D/ e+1) * (D/ e+1)<=R/ e:=Nat.div_mul_le_self _ _;have c:R/ e* e<=R:=Nat.div_mul_le_self _ _
 have b:D< (D/ e+1) * e:=by
  have:=Nat.lt_mul_div_succ D he;rw[Nat.mul_comm];exact this
 have d:R/ e/ (D/ e+1) * D<=R/ e/ (D/ e+1) * ((D/ e+1) * e):=Nat.mul_le_mul_left _ (Nat.le_of_lt b)
 have f:R/ e/ (D/ e+1) * ((D/ e+1) * e)<=R/ e* e:=by
  rw[<-Nat.mul_assoc];exact Nat.mul_le_mul_right _ a
 omega
theorem zZ_pos{D:Nat}(h:0< D):zZ (D:Int)=[i64 1,.arr (iE (zd D))]:=by
 unfold zZ sgZ;rw[if_neg (by omega),if_neg (by omega),Int.natAbs_natCast]
theorem Ju(R D:Nat)(hD:0< D)(hR:R< UB* D)(hb:bl D<=4398046511104):FS 189 [.arr (iE (zd R)),.arr (iE (zd D))] (.tup [i64 (R/ D:Nat),.arr (iE (zd (R % D)))]):=by
 have hzR:=cy R;have w:=cy D;have Y:=bC (b:=UB) (by decide) D;have hlR:=bC (b:=UB) (by decide) R
 have Z:bl R<=bl D+16:=by
  have d:=dG (Nat.le_of_lt hR);have C:=iT UB D;have Q:bl UB=16:=by decide
  omega
 obtain⟨n,t⟩:∃n,n=(zd D).length:=⟨_,rfl⟩
 have X:1<=n:=by
  have:zd D≠[]:=fun h=>by have:=zd_eq_nil.1 h;omega
  have:=List.length_pos_iff.2 this;omega
 have l:D< UB^ n:=by
  have:=Fq (jw D);rwa[ky,<-t] at this
 have m:R< UB^ (n+1):=by
  rw[Nat.pow_succ,Nat.mul_comm];exact Nat.lt_of_lt_of_le hR (Nat.mul_le_mul_left _ (Nat.le_of_lt l))
 have u:∀k,k* D<=R->k< UB:=by
  intro k F;refine Nat.lt_of_not_le fun h=>?_;have:=Nat.mul_le_mul_right D h;omega
 refine f_c Tryz.func189 ?_;refine r_z 2 ?_;refine r_z 1 ?_;refine r_z 3 ?_;refine a6 (fun k:Nat=>ux D (R,k)) (fun k=>k* D<=R) ?_ ?_;refine r_z 4 ?_;refine ap rfl (fun h=>?_) (fun h=>?_);have y:(zd D).length<=(zd R).length:=by simpa using h
 refine r_z 2 ?_;refine ap rfl (fun d=>?_) (fun d=>?_);have Q:n<=3:=by rw[t];have:=of_decide_eq_true d;omega
 have f:=pP R (n+1) (n+1) (by omega) (Nat.le_refl _) m (by omega) (by omega);have g:=pP D n n (by omega) (Nat.le_refl _) l (by omega) (by omega);rw[Nat.sub_self,Nat.pow_zero,Nat.div_one] at f g;rw[t] at f g;have r:(R:Int) / D=(R/ D:Nat):=(Int.natCast_ediv _ _).symm;have W:R< 1152921504606846976:=Nat.lt_of_lt_of_le m (Nat.pow_le_pow_right (n:=32768) (j:=4) (by decide) (by omega));refine r_m 12 ?_;refine c_s (f) ?_;refine c_s (g) ?_;refine a_z ?_;refine⟨R/ D,Nat.div_mul_le_self _ _,?_⟩;simp only[ux.eq_1];have:=(congrArg (fun z=>AV.v (.int .i64 z)) r);exact s_f [];have Q:3< n:=by rw[t];have:=of_decide_eq_false d;omega
 have f:=pP R (n+1) 4 (by omega) (by omega) m (by omega) (by omega);have g:=pP D n 3 (by omega) (by omega) l (by omega) (by omega);rw[show n+1- 4=n- 3 by omega] at f;obtain⟨e,x⟩:∃e,e=UB^ (n- 3):=⟨_,rfl⟩;have p:0< e:=by rw[x];exact Nat.pow_pos (by decide)
 rw[<-x] at f g
 have J:R/ e< 1152921504606846976:=by
  rw[Nat.div_lt_iff_lt_mul p,x];have H:UB^ 4=1152921504606846976:=by decide
  have:UB^ (n+1)=1152921504606846976* UB^ (n- 3):=by
   rw[show n+1=4+(n- 3) by omega,Nat.pow_add,H]
  omega
 have L:D/ e< 35184372088832:=by
  rw[Nat.div_lt_iff_lt_mul p,x];have H:UB^ 3=35184372088832:=by decide
  have:UB^ n=35184372088832* UB^ (n- 3):=by
   rw[<-H,<-Nat.pow_add];congr 1;omega
  omega
 rw[t] at f g
 have r:((R/ e:Nat):Int) / (((D/ e:Nat):Int)+1)=(R/ e/ (D/ e+1):Nat):=by
  rw[show(((D/ e:Nat):Int)+1)=((D/ e+1:Nat):Int) by omega];exact(Int.natCast_ediv _ _).symm
 have a:=est_le (R:=R) (D:=D) p;obtain⟨A,hA⟩:∃A,A=R/ e:=⟨_,rfl⟩;obtain⟨B,hB⟩:∃B,B=D/ e:=⟨_,rfl⟩;rw[<-hA] at f J r a;rw[<-hB] at g L r a;refine r_m 10 ?_;refine c_s (f) ?_;refine c_s (g) ?_;refine a_z ?_;refine⟨A/ (B+1),a,?_⟩;simp only[ux.eq_1];have:=(congrArg (fun z=>AV.v (.int .i64 z)) r);exact s_f [];refine am ⟨0,by simp,?_⟩;simp only[ux.eq_1];exact s_e [];rintro k F;have M:=u k F;have N:k< 32768:=M;rw[ux.eq_1];refine a6 (fun _:Unit=>ux D (R- k* D,k)) (fun _=>True) ?_ ?_;refine r_z 2 ?_;refine ap rfl (fun d=>?_) (fun d=>?_)
 have K:zl (k:Int):=by
  unfold zl;rw[Int.natAbs_natCast];have:=iq (n:=k) (k:=15) (by omega);omega
 have w:zl (D:Int):=by unfold zl;rw[Int.natAbs_natCast];omega
 have U:=iX (k:Int) (D:Int) K w;rw[zZ_pos hD] at U;have o:((k:Int) * (D:Int)).natAbs=k* D:=by rw[<-Int.natCast_mul,Int.natAbs_natCast]
 have hbk:bl (k* D)<=bl D+16:=by
  have:=dG F;omega
 have hlk:=bC (b:=UB) (by decide) (k* D);have i:=pT R (k* D) (-1) (R- k* D) (.inr rfl) (by omega) (by omega) (by rw[cy];omega);rw[<-o] at i;rw[o] at i;refine r_m 9 ?_;refine c_s (l9 k (by omega)) ?_;refine c_s (U) ?_;refine bF (.field1 rfl TF.h TA.h rfl) rfl rfl ?_;refine o_0 (.call rfl rfl rfl ((by rw[o];exact i))) ?_;refine o_0 (.assign rfl) ?_;refine ao ?_;refine⟨(),trivial,?_⟩;simp only[ux.eq_1];exact s_e [];have G:k=0:=by simp at d;omega
 subst G;refine am ⟨(),trivial,?_⟩;simp only[ux.eq_1,Nat.zero_mul,Nat.sub_zero];exact s_e [];rintro _ _;rw[ux.eq_1];refine a6 (ux D) (fun v=>v.1=R % D/\v.2=R/ D) ?_ ?_;refine ah (ax (ux D) (fun v=>v.1) (fun v=>v.1+v.2* D=R/\v.1<=R) (R- k* D,k) ⟨by simp only;omega,by simp only;omega⟩ ?_ ?_);simp only[ux.eq_1];exact s_e [];rintro⟨c,s⟩ ⟨hv,a⟩;simp only at hv a;have V:bl c<=bl D+16:=by have:=dG a;omega
 have O:=bC (b:=UB) (by decide) c;have S:=cy c;have E:=u s (by omega);have T:s< 32768:=E;rw[ux.eq_1];refine ae (r_c 4 (Bl c D (by omega) (by omega)) ?_);refine a_z ?_;refine ap rfl (fun h=>?_) (fun h=>?_)
 have y:D<=c:=by
  have:=of_decide_eq_true h;unfold eH at this;split at this <;> omega
 refine am (ah (r_c 4 (pT c D (-1) (c- D) (.inr rfl) (by omega) (by omega) (by omega)) ?_));refine a_z ?_;refine r_m 3 ?_;refine a_z ?_;refine⟨(c- D,s+1),by simp only;omega,⟨by simp only;rw[Nat.add_mul];omega,by simp only;omega⟩,?_⟩;simp only[ux.eq_1];exact s_e []
 have q:c< D:=by
  have:=of_decide_eq_false h;unfold eH at this;split at this;omega;split at this <;> omega
 refine aw ⟨(c,s),⟨?_,?_⟩,?_⟩;simp only;rw[<-hv,Nat.add_mul_mod_self_right,Nat.mod_eq_of_lt q];simp only;rw[<-hv,Nat.add_mul_div_right _ _ hD,Nat.div_eq_of_lt q,Nat.zero_add];simp only[ux.eq_1];exact s_e [];rintro⟨c,s⟩ ⟨d,C⟩;simp only at d C;subst d C;rw[ux.eq_1];refine r_z 4 ?_;refine aj (Fin.many ⟨_,_,rfl,rfl,⟨_,_,rfl,rfl,rfl⟩⟩ (nle rfl) ?_);exact ak (ai aB (ag _)) (ak (ai aB (eV _)) aq)
def Gl(A D:Nat):Ln->Nat->Nat->AState
 |[],R,i=>⟨[(0,.arr (iE (zd A))),(1,.arr (iE (zd D))),(6,.emp),(7,.arr (iE (zd R))),(8,i64 i)],[],1,54⟩
 |q::Q,R,i=>⟨[(0,.arr (iE (zd A))),(1,.arr (iE (zd D))),(6,.lsl 1 0 (Q.length+1) none 1),(7,.arr (iE (zd R))),(8,i64 i)],[(1,some ⟨3,1,iE (q::Q)⟩)],2,54⟩
theorem jc(A D R i:Nat):Gl A D [] R i=⟨[(0,.arr (iE (zd A))),(1,.arr (iE (zd D))),(6,.emp),(7,.arr (iE (zd R))),(8,i64 i)],[],1,54⟩:=rfl
theorem fZ(A D:Nat)(q:Nat)(Q:Ln)(R i:Nat):Gl A D (q::Q) R i=⟨[(0,.arr (iE (zd A))),(1,.arr (iE (zd D))),(6,.lsl 1 0 (Q.length+1) none 1),(7,.arr (iE (zd R))),(8,i64 i)],[(1,some ⟨3,1,iE (q::Q)⟩)],2,54⟩:=rfl
theorem Im{P D R a:Nat}(hD:0< D)(hR:R=P % D)(ha:a< UB):R* UB+a< UB* D/\(P* UB+a) / D=P/ D* UB+(R* UB+a) / D/\(P* UB+a) % D=(R* UB+a) % D/\(R* UB+a) / D< UB:=by
 have b:=Nat.div_add_mod P D;have c:=Nat.mod_lt P hD;rw[<-hR] at b c
 have e:R* UB+a< UB* D:=by
  have:(R+1) * UB<=D* UB:=Nat.mul_le_mul_right _ c;rw[Nat.add_mul,Nat.one_mul,Nat.mul_comm D] at this;omega
 have d:P* UB+a=D* (P/ D* UB)+(R* UB+a):=by
  conv=>lhs;rw[<-b]
  rw[Nat.add_mul,Nat.mul_assoc,Nat.add_assoc]
 refine⟨e,?_,?_,?_⟩;rw[d,Nat.mul_add_div hD];rw[d,Nat.mul_add_mod];rw[Nat.div_lt_iff_lt_mul hD];exact e
theorem pK(A D:Nat)(hD:0< D)(hA:bl A<=4398046511104)(hb:bl D<=4398046511104):FS 146 [.arr (iE (zd A)),.arr (iE (zd D))] (.tup [.arr (iE (zd (A/ D))),.arr (iE (zd (A % D)))]):=by
 have V:=cy A;have K:=cy D;have S:=bC (b:=UB) (by decide) D;have X:=bC (b:=UB) (by decide) A;obtain⟨n,Z⟩:∃n,n=(zd D).length:=⟨_,rfl⟩
 have O:1<=n:=by
  have:zd D≠[]:=fun h=>by have:=zd_eq_nil.1 h;omega
  have:=List.length_pos_iff.2 this;omega
 have T:UB^ (n- 1)<=D:=by
  rcases s8 (b:=UB) (n:=D) (by decide) with h|h
  rwa[<-K,<-Z] at h;omega
 refine f_c Tryz.func146 ?_;refine r_z 2 ?_;refine ae (r_z 5 ?_);refine ap rfl (fun h=>?_) (fun h=>?_);have C:(zd A).length< (zd D).length:=by have:=of_decide_eq_true h;omega
 have F:A< D:=jK (b:=UB) (by decide) (by omega);refine r_z 3 ?_;refine aj (Fin.many ⟨_,_,rfl,rfl,⟨_,_,rfl,rfl,rfl⟩⟩ (nle rfl) ?_);rw[Nat.div_eq_of_lt F,Nat.mod_eq_of_lt F,nE];exact ak (Cv.emp _) (ak (ai aB (eV _)) aq);have B:n<=(zd A).length:=by have:=of_decide_eq_false h;omega
 refine am (r_z 1 ?_);obtain⟨G,t⟩:∃G,G=hv ((zd A).take (n- 1)):=⟨_,rfl⟩
 have u:G< D:=by
  have y:=Fq (l:=(zd A).take (n- 1)) fun d g=>jw A d (List.mem_of_mem_take g);rw[<-t] at y;have h2:UB^ ((zd A).take (n- 1)).length<=UB^ (n- 1):=Nat.pow_le_pow_right (by decide) (by simp;omega);omega
 have s:=jg ((zd A).take (n- 1)) (by simp;omega);rw[fX (fun d g=>jw A d (List.mem_of_mem_take g)),<-t] at s;refine a6 (fun _:Unit=>⟨[(0,.arr (iE (zd A))),(1,.arr (iE (zd D))),(6,.emp),(7,.arr (iE (zd G)))],[],1,54⟩) (fun _=>True) ?_ ?_;by_cases hn2:n=1;rw[hn2] at s;refine r_m 8 ?_;refine a_4 ?_;refine o_0 (.sa_h rfl rfl (h:=0) (by omega) (by simp) te_51.h (l7 _)) ?_;refine o_0 (.append0 rfl rfl rfl te_51.h rfl rfl rfl (.arr (es:=[]) (by simp))) ?_;refine c_s (s) ?_;refine a_z ?_;refine⟨(),trivial,?_⟩;exact s_e []
 ·have E:(iE (zd A)).take (n- 1)≠[]:=fun h=>by
   have:=congrArg List.length h;rw[List.length_take,rM,List.length_nil] at this;omega
  have m:List.take ((iE (zd A)).take (n- 1)).length (List.drop 0 ((iE (zd A)).take (n- 1)))=iE ((zd A).take (n- 1)):=by rw[List.drop_zero,List.take_length,iE_take]
  refine r_m 8 ?_;refine a_4 ?_;refine o_0 (.sa_h rfl rfl (h:=n- 1) (by omega) (by simp;omega) te_51.h (l7 _)) ?_;refine o_1 (.append_e rfl rfl rfl te_51.h rfl rfl rfl (.arr (fun e he=>l7 _ e (List.mem_of_mem_take he))) (by first|assumption|(simp;done)) TZ.h rfl TB.h d_o (by first|(simp[maxLen];done)|(simp[maxLen];omega))) ?_;refine o_1 (.callS1 rfl rfl rfl (.shut rfl d_n (.nil)) rfl ((by rw[m];exact s))) ?_;refine a_z ?_;refine⟨(),trivial,?_⟩;exact s_e []
 rintro _ _;refine ae (r_z 4 ?_);refine aC (fun x:Ln×Nat=>Gl A D x.1 x.2 (zd A).length) (fun x=>(∀d∈x.1,d< UB)/\hv x.1=A/ D/\x.2=A % D/\x.1.length<=(zd A).length) ?_ ?_;refine ah (ax (fun x:Ln×Nat×Nat=>Gl A D x.1 x.2.1 x.2.2) (fun x=>(zd A).length- x.2.2) (fun x=>x.2.2<=(zd A).length/\(∀d∈x.1,d< UB)/\hv x.1=hv ((zd A).take x.2.2) / D/\x.2.1=hv ((zd A).take x.2.2) % D/\x.1.length<=x.2.2) ([],G,n- 1) ⟨by simp only;omega,by simp,by simp only;rw[<-t,Nat.div_eq_of_lt u];rfl,by simp only;rw[<-t,Nat.mod_eq_of_lt u],by simp⟩ ?_ ?_);simp only[jc];exact s_e [];rintro⟨Q,R,i⟩ ⟨Y,k,p,r,j⟩;simp only at Y k p r j
 -- the head,whatever the quotient so far
 by_cases C:i< (zd A).length
 ·obtain⟨a,z⟩:∃a,(zd A)[i]?=some a:=⟨_,List.getElem?_eq_getElem C⟩
  have ha:a< UB:=jw A a (List.mem_of_getElem? z);have f:(iE (zd A))[((i:Nat):Int).toNat]?=some [i64 a]:=kT z;have o:hv ((zd A).take (i+1))=hv ((zd A).take i) * UB+a:=by rw[cm z,pC]
  obtain⟨P,hP⟩:∃P,P=hv ((zd A).take i):=⟨_,rfl⟩;rw[<-hP] at p r o;obtain⟨s1,s2,N,L⟩:=Im hD r ha;have J:R< D:=by rw[r];exact Nat.mod_lt _ hD
  have W:=bC (b:=UB) (by decide) R;have U:=dG (Nat.le_of_lt J);have hzR:=cy R;have H:=Ju (R* UB+a) D hD s1 hb;cases Q with
  |nil=>
   simp only[jc];refine ae (r_z 4 ?_);refine ap rfl (fun h=>?_) (fun h=>?_);rotate_left;exact absurd h (by simp;omega);refine am (ae (ah (a6 (fun _:Unit=>Gl A D [] (R* UB+a) i) (fun _=>True) ?_ ?_)));by_cases hR0:R=0;subst hR0;have c:=jg [a] (by simp);rw[fX (by simpa using ha),show hv [a]=0* UB+a by rw[pD,u9];simp] at c;rw[nE];refine r_d aT 10 ?_;refine a_1 ?_;refine o_0 (.append0 rfl rfl rfl te_51.h rfl rfl rfl (.arr (es:=[]) (by simp))) ?_;refine a_2 ?_;refine i_x f ?_;refine l_1 f ?_;refine a_2 ?_;refine o_1 (.callS1 rfl rfl rfl (.shut rfl d_n (.nil)) rfl ((FSpec.argE c rfl))) ?_;refine a_1 ?_;refine ao (n_k ?_);refine⟨(),trivial,?_⟩;simp only[jc];exact s_e []
   ·have E:iE (zd R)≠[]:=fun h=>by
     have y:=congrArg List.length h;rw[rM,List.length_nil,List.length_eq_zero_iff] at y;exact hR0 (zd_eq_nil.1 y)
    have v:∀d∈zd R++[a],d< UB:=fun d g=>by
     rcases List.mem_append.1 g with g|g
     exact jw R d g;simp at g;rw[g];exact ha
    have c:=jg (zd R++[a]) (by simp;omega);rw[fX v,pC,ky] at c;refine r_d aT 10 ?_;refine a_1 ?_;refine o_1 (.append_e rfl rfl rfl te_51.h rfl rfl rfl (.arr (l7 _)) (by first|assumption|(simp;done)) TZ.h rfl TB.h d_o (by first|(simp[maxLen];done)|(simp[maxLen];omega))) ?_;refine a_2 ?_;refine i_x f ?_;refine l_1 f ?_;refine a_2 ?_;refine o_1 (.callS1 rfl rfl rfl (.shut rfl d_n (.nil)) rfl ((FSpec.argE c (by rw[List.drop_zero,List.take_of_length_le (by simp)];simp[iE,i64])))) ?_;refine a_1 ?_;refine ao (n_k ?_);refine⟨(),trivial,?_⟩;simp only[jc];exact s_e []
   rintro _ _;simp only[jc];refine r_z 1 ?_;refine r_c 8 (H) ?_;refine a_z ?_;refine r_m 5 ?_;refine a_z ?_;refine r_m 3 ?_;refine a_z ?_;refine⟨([(R* UB+a) / D],(R* UB+a) % D,i+1),by simp only;omega,⟨by simp only;omega,by simpa using L,?_,?_,by simp⟩,?_⟩;simp only;rw[o,s2,<-p,pD,u9];simp;simp only;rw[o,N];simp only[fZ];exact s_e [(1,6)]
  |cons q Q=>
   simp only[fZ];refine ae (r_z 4 ?_);refine ap rfl (fun h=>?_) (fun h=>?_);rotate_left;exact absurd h (by simp;omega);refine am (ae (ah (a6 (fun _:Unit=>Gl A D (q::Q) (R* UB+a) i) (fun _=>True) ?_ ?_)));by_cases hR0:R=0;subst hR0;have c:=jg [a] (by simp);rw[fX (by simpa using ha),show hv [a]=0* UB+a by rw[pD,u9];simp] at c;rw[nE];refine r_d aT 10 ?_;refine a_1 ?_;refine o_0 (.append0 rfl rfl rfl te_51.h rfl rfl rfl (.arr (es:=[]) (by simp))) ?_;refine a_2 ?_;refine i_x f ?_;refine l_1 f ?_;refine a_2 ?_;refine o_1 (.callS1 rfl rfl rfl (.shut rfl d_n (.nil)) rfl ((FSpec.argE c rfl))) ?_;refine a_1 ?_;refine ao (n_k ?_);refine⟨(),trivial,?_⟩;simp only[fZ];exact s_e []
   ·have E:iE (zd R)≠[]:=fun h=>by
     have y:=congrArg List.length h;rw[rM,List.length_nil,List.length_eq_zero_iff] at y;exact hR0 (zd_eq_nil.1 y)
    have v:∀d∈zd R++[a],d< UB:=fun d g=>by
     rcases List.mem_append.1 g with g|g
     exact jw R d g;simp at g;rw[g];exact ha
    have c:=jg (zd R++[a]) (by simp;omega);rw[fX v,pC,ky] at c;refine r_d aT 10 ?_;refine a_1 ?_;refine o_1 (.append_e rfl rfl rfl te_51.h rfl rfl rfl (.arr (l7 _)) (by first|assumption|(simp;done)) TZ.h rfl TB.h d_o (by first|(simp[maxLen];done)|(simp[maxLen];omega))) ?_;refine a_2 ?_;refine i_x f ?_;refine l_1 f ?_;refine a_2 ?_;refine o_1 (.callS1 rfl rfl rfl (.shut rfl d_n (.nil)) rfl ((FSpec.argE c (by rw[List.drop_zero,List.take_of_length_le (by simp)];simp[iE,i64])))) ?_;refine a_1 ?_;refine ao (n_k ?_);refine⟨(),trivial,?_⟩;simp only[fZ];exact s_e []
   rintro _ _;simp only[fZ];refine r_z 1 ?_;refine r_c 8 (H) ?_;refine a_z ?_;have M:Q.length+1<=i:=by simpa using j
   refine r_m 5 ?_;refine a_z ?_;refine r_m 3 ?_;refine a_z ?_;refine⟨(q::(Q++[(R* UB+a) / D]),(R* UB+a) % D,i+1),by simp only;omega,⟨by simp only;omega,?_,?_,?_,by simp at j⊢;omega⟩,?_⟩;intro d g;rcases List.mem_append.1 (show d∈(q::Q)++[(R* UB+a) / D] from g) with g|g
   exact k d g;simp at g;rw[g];exact L;simp only;rw[o,s2,<-p,<-pC];rfl;simp only;rw[o,N];simp only[fZ];have e:iE (q::Q)++List.take 1 (List.drop 0 [[i64 ((R* UB+a) / D:Nat)]])=iE (q::(Q++[(R* UB+a) / D])):=by simp[iE]
   exact s_x [(1,6)] (fun hs=>dJ) (fun hs=>e_48) e_2
 have B:i=(zd A).length:=by omega
 subst B;rw[List.take_length,ky] at p r;cases Q with
 |nil=>
  simp only[jc];refine ae (r_z 4 ?_);refine ap rfl (fun h=>?_) (fun h=>?_);exact absurd h (by simp);refine aw ⟨([],R),⟨k,p,r,j⟩,?_⟩;simp only[jc];exact s_e []
 |cons q Q=>
  simp only[fZ];refine ae (r_z 4 ?_);refine ap rfl (fun h=>?_) (fun h=>?_);exact absurd h (by simp);refine aw ⟨(q::Q,R),⟨k,p,r,j⟩,?_⟩;simp only[fZ];exact s_e []
 rintro⟨Q,R⟩ ⟨k,p,r,j⟩;simp only at k p r j;have w:=jg Q (by omega);rw[fX k,p] at w;subst r;cases Q with
 |nil=>
  simp only[jc];refine r_c 5 (w) ?_;refine a_z ?_;refine aj (Fin.many ⟨_,_,rfl,rfl,⟨_,_,rfl,rfl,rfl⟩⟩ (nle rfl) ?_);exact ak (ai aB (eV _)) (ak (ai aB (eV _)) aq)
 |cons q Q=>
  simp only[fZ];have m:List.take (Q.length+1) (List.drop 0 (iE (q::Q)))=iE (q::Q):=by rw[List.drop_zero,List.take_of_length_le (by simp)]
  refine s_r 5 ?_;refine a_1 ?_;refine o_1 (.callS1 rfl rfl rfl (.shut rfl d_n (.nil)) rfl ((by rw[m];exact w))) ?_;refine a_z ?_;refine aj (Fin.many ⟨_,_,rfl,rfl,⟨_,_,rfl,rfl,rfl⟩⟩ (nle rfl) ?_);exact ak (ai aB (eV _)) (ak (ai aB (eV _)) aq)
def zgS:Nat×Nat->AState
 |(p,q)=>⟨[(4,.lptr 1 0 0),(5,.arr (iE (zd p))),(6,.arr (iE (zd q)))],[(1,some ⟨53,2,[[i64 0,.emp]]⟩)],2,48⟩
theorem mI(p:Nat)(q:Nat):zgS (p,q)=⟨[(4,.lptr 1 0 0),(5,.arr (iE (zd p))),(6,.arr (iE (zd q)))],[(1,some ⟨53,2,[[i64 0,.emp]]⟩)],2,48⟩:=rfl
def zgW:Nat×Nat->AState
 |(x,y)=>⟨[(4,.lptr 1 0 0),(7,i64 x),(8,i64 y)],[(1,some ⟨53,2,[[i64 0,.emp]]⟩)],2,48⟩
theorem tZ(x:Nat)(y:Nat):zgW (x,y)=⟨[(4,.lptr 1 0 0),(7,i64 x),(8,i64 y)],[(1,some ⟨53,2,[[i64 0,.emp]]⟩)],2,48⟩:=rfl
theorem wA(p q:Nat):Nat.gcd q (p % q)=Nat.gcd p q:=by
 rw[Nat.gcd_comm p q,Nat.gcd_rec q p,Nat.gcd_comm]
theorem wy{n:Nat}(h:(zd n).length<=4):n< 1152921504606846976:=by
 have a:=Fq (jw n);rw[ky] at a;exact Nat.lt_of_lt_of_le a (Nat.pow_le_pow_right (n:=32768) (j:=4) (by decide) h)
theorem fs_ZGcd(x y:Int)(hx:bl x.natAbs<=4398046511104)(hy:bl y.natAbs<=4398046511104):FS 145 [.agg (zZ x),.agg (zZ y)] (.agg (zZ (Nat.gcd x.natAbs y.natAbs:Nat))):=by
 refine f_c Tryz.func145 ?_;refine r_z 3 ?_;refine ae (r_d aT 6 ?_);refine a_6 ?_;refine ao (n_k ?_);refine a6 (fun p:Nat=>zgS (p,0)) (fun p=>p=Nat.gcd x.natAbs y.natAbs) ?_ ?_;refine ah (ax zgS (fun v=>v.2) (fun v=>Nat.gcd v.1 v.2=Nat.gcd x.natAbs y.natAbs/\bl v.1<=4398046511104/\bl v.2<=4398046511104) (x.natAbs,y.natAbs) ⟨rfl,hx,hy⟩ ?_ ?_);simp only[mI];exact s_e [(1,4)];rintro⟨p,q⟩ ⟨g,hp,k⟩;simp only at g hp k;have n:=cy p;have w:=cy q;have r:=bC (b:=UB) (by decide) p;have t:=bC (b:=UB) (by decide) q;rw[mI];refine ae (r_z 3 ?_);refine ap rfl (fun h=>?_) (fun h=>?_)
 have a:0< q:=by
  rcases Nat.eq_zero_or_pos q with e|e
  subst e;rw[nE] at h;simp at h;exact e
 refine am (ah (a6 (fun _:Unit=>zgS (p,q)) (fun _=>True) ?_ ?_));by_cases hl:(zd p).length<=4;by_cases hl2:(zd q).length<=4;have o:=wy hl;have m:=wy hl2;have i:=ve (zd p) hl (jw p);have f:=ve (zd q) hl2 (jw q);rw[ky] at i f;refine s_r 8 ?_;refine a_4 ?_;refine y_g rfl (by simp;omega) (.move rfl) ?_;refine y_g rfl (by simp;omega) (.lenI rfl rfl rfl rfl te_51.h) ?_;refine y_g rfl (by simp;omega) (.bin rfl rfl ir) ?_;refine o_0 (.pickT rfl (by simp;omega) rfl) ?_;refine ao ?_;refine ap rfl (fun l=>?_) (fun l=>?_);refine r_c 6 (i) ?_;refine c_s (f) ?_;refine a_z ?_;refine a6 (fun v:Nat=>zgW (v,0)) (fun v=>v=Nat.gcd x.natAbs y.natAbs) ?_ ?_;refine ah (ax zgW (fun v=>v.2) (fun v=>Nat.gcd v.1 v.2=Nat.gcd x.natAbs y.natAbs/\v.1< 1152921504606846976/\v.2< 1152921504606846976) (p,q) ⟨g,o,m⟩ ?_ ?_);simp only[tZ];exact s_e [];rintro⟨u,v⟩ ⟨d,z,hv⟩;simp only at d z hv;rw[tZ];refine ae (r_z 2 ?_);refine ap rfl (fun j=>?_) (fun j=>?_);have c:0< v:=by simp at j;omega
 refine am (ah (r_d aT 6 ?_));refine a_6 ?_;refine ao (n_k ?_);refine⟨(v,u % v),Nat.mod_lt _ c,⟨(wA u v).trans d,hv,Nat.lt_trans (Nat.mod_lt _ c) hv⟩,?_⟩;simp only[tZ];exact s_e [];have c:v=0:=by simp at j;omega
 subst c;refine aw ⟨u,by simpa using d,?_⟩;simp only[tZ];exact s_e [];rintro v hv;rw[tZ]
 have s:v< 1152921504606846976:=by
  rw[hv,<-g];have l:Nat.gcd p q<=q:=Nat.gcd_le_right _ a;omega
 refine r_c 3 (l9 v (by omega)) ?_;refine a_z ?_;refine aj (dA rfl rfl rfl TG.h TS.h (nle rfl) ?_ ?_);rw[<-hv];rfl;exact cY _;exact absurd l (by simp;omega);refine s_r 8 ?_;refine a_4 ?_;refine y_g rfl (by simp;omega) (.move rfl) ?_;refine y_g rfl (by simp;omega) (.lenI rfl rfl rfl rfl te_51.h) ?_;refine y_g rfl (by simp;omega) (.bin rfl rfl ir) ?_;refine o_0 (.pickT rfl (by simp;omega) rfl) ?_;refine ao ?_;refine ap rfl (fun h=>?_) (fun _=>am ⟨(),trivial,?_⟩);exact absurd h (by simp;omega);simp only[mI];exact s_e [];refine s_r 8 ?_;refine a_4 ?_;refine n_g rfl (by simp;omega) ?_;refine n_g rfl (by simp;omega) ?_;refine n_g rfl (by simp;omega) ?_;refine o_0 (.pickF rfl (by simp;omega) rfl) ?_;refine ao ?_;refine ap rfl (fun h=>?_) (fun _=>am ⟨(),trivial,?_⟩);cases h;simp only[mI];exact s_e [];rintro _ _;rw[mI];refine r_c 8 (pK p q a hp k) ?_;refine a_z ?_;refine r_m 4 ?_;refine a_z ?_;refine⟨(q,p % q),Nat.mod_lt _ a,⟨(wA p q).trans g,k,?_⟩,?_⟩;have:=dG (Nat.le_of_lt (Nat.mod_lt p a));simp only;omega;simp only[mI];exact s_e []
 have a:q=0:=by
  refine zd_eq_nil.1 (List.length_eq_zero_iff.1 ?_);have:=of_decide_eq_false h;omega
 subst a;refine aw ⟨p,by simpa using g,?_⟩;simp only[mI];exact s_e [];rintro p hp;rw[mI]
 have A:bl p<=4398046511104:=by
  rw[hp];rcases Nat.eq_zero_or_pos y.natAbs with e|e
  rw[e,Nat.gcd_zero_right];exact hx;exact Nat.le_trans (dG (Nat.gcd_le_right _ e)) hy
 have n:=cy p;have r:=bC (b:=UB) (by decide) p;refine r_c 3 (kz 1 (zd p) (p:Int) (by omega) (jw p) (by rw[ky,Int.natAbs_natCast]) (fun h=>by unfold sgZ;rw[if_neg h,if_neg (by omega)])) ?_;refine a_z ?_;refine aj (dA rfl rfl rfl TG.h TS.h (nle rfl) ?_ ?_);rw[<-hp];rfl;exact cY _
end Go.Proofs.YtiodeiecpoopgaaGreatDoor
