/- Part V21 of the proof. -/
import Derived.Test.YtkbjakfniejkcaaGreatDoorV20
set_option linter.all false
namespace Go.Proofs.YtkbjakfniejkcaaGreatDoor
open Go.Abs
set_option maxRecDepth 20000
theorem FU(x:Int)(n:Nat)(hn:0< n):(sgZ x= -1/\∃p:Nat,0< p/\x* n= -(p:Int)/\x.natAbs* n=p)\/(sgZ x=0/\x* n=0/\x.natAbs* n=0)\/(sgZ x=1/\∃p:Nat,0< p/\x* n=p/\x.natAbs* n=p):=by
 rcases Int.lt_trichotomy x 0 with a|a|a
 refine .inl ⟨by unfold sgZ;rw[if_neg (by omega),if_pos a],x.natAbs* n,Nat.mul_pos (by omega) hn,?_,rfl⟩;rw[Int.natCast_mul,<-Int.neg_mul];congr 1;omega;subst a;refine .inr (.inl ⟨rfl,by simp,by simp⟩);refine .inr (.inr ⟨by unfold sgZ;rw[if_neg (by omega),if_neg (by omega)],x.natAbs* n,Nat.mul_pos (by omega) hn,?_,rfl⟩);rw[Int.natCast_mul];congr 1;omega
theorem JW(a b:Rat):fi a b=if sgZ a.num≠sgZ b.num\/sgZ a.num=0 then sgZ a.num- sgZ b.num- (sgZ a.num- sgZ b.num).tdiv 2 else sgZ a.num* eN ((a.num.natAbs* b.den:Nat):Int) ((b.num.natAbs* a.den:Nat):Int):=by
 rw[FW];rcases FU a.num b.den b.den_pos with⟨s1,p,hp,e1,f1⟩|⟨s1,e1,f1⟩|⟨s1,p,hp,e1,f1⟩<;> rcases FU b.num a.den a.den_pos with⟨s2,q,hq,e2,f2⟩|⟨s2,e2,f2⟩|⟨s2,q,hq,e2,f2⟩<;> rw[s1,s2,e1,e2,f1,f2]<;> unfold eN <;> simp <;>(repeat' split)<;> first|rfl|omega
theorem sd(a b:Rat)(ha:sm a)(hb:sm b):FS 44 [.agg (qC a),.agg (qC b)] (i64 (fi a b)):=by
 have hs:=sm2 ha hb;have s:=ez a;have p:=ed a;have t:=ez b;have r:=ed b;have i:=JW a b;have d:sgZ a.num= -1\/sgZ a.num=0\/sgZ a.num=1:=by unfold sgZ;split;simp;split <;> simp
 have e:sgZ b.num= -1\/sgZ b.num=0\/sgZ b.num=1:=by unfold sgZ;split;simp;split <;> simp
 have l:=ja a.num.natAbs b.den;have n:=ja b.num.natAbs a.den;refine f_c Tryz.func44 ?_;refine r_z 3 ?_;refine ae (ae (r_d a7 6 ?_));refine c_s (cC a) ?_;refine c_s (cC b) ?_;refine a_2 ?_;refine aq (n_k ?_);obtain⟨x,m⟩:∃x,x=sgZ a.num:=⟨_,rfl⟩;obtain⟨y,o⟩:∃y,y=sgZ b.num:=⟨_,rfl⟩;rw[<-m] at d i⊢;rw[<-o] at e i⊢
 have q:(x- y).tdiv 2= -1\/(x- y).tdiv 2=0\/(x- y).tdiv 2=1:=by
  rcases d with h|h|h <;> rcases e with h'|h'|h' <;> rw[h,h']<;> decide
 refine aF (fun _:Unit=>⟨[(2,.lptr 1 0 0),(3,.lptr 2 0 0)],[(1,some ⟨36,3,[qC a]⟩),(2,some ⟨36,3,[qC b]⟩)],3,42⟩) (fun _=>x=y/\x≠0) ?_ ?_;by_cases c:x=y;refine s_r 7 ?_;refine a_4 ?_;refine y_g rfl (by simp[c]) (.move rfl) ?_;refine y_g rfl (by simp[c]) (.bin rfl rfl cb) ?_;refine o_0 (.pickF rfl (by simp[c]) rfl) ?_;refine aq ?_;refine au rfl (fun h=>?_) (fun h=>?_);have j:x=0:=by simpa using h
 refine s_r 9 ?_;refine a_6 ?_;refine o_0 (.bin rfl rfl (sR (by decide) (by omega))) ?_;refine a_z ?_;refine ai (aW rfl ?_ (ag _));rw[i,if_pos (.inr j)];rfl;have j:x≠0:=by simpa using h
 refine am ⟨(),⟨c,j⟩,?_⟩;exact s_e [];refine s_r 7 ?_;refine a_4 ?_;refine n_g rfl (by simp[c]) ?_;refine n_g rfl (by simp[c]) ?_;refine o_0 (.pickT rfl (by simp[c]) rfl) ?_;refine aq ?_;refine au rfl (fun h=>?_) (fun h=>?_);refine s_r 9 ?_;refine a_6 ?_;refine o_0 (.bin rfl rfl (sR (by decide) (by omega))) ?_;refine a_z ?_;refine ai (aW rfl ?_ (ag _));rw[i,if_pos (.inl c)];rfl;cases h;rintro _ ⟨c,j⟩
 have k:eN ((a.num.natAbs* b.den:Nat):Int) ((b.num.natAbs* a.den:Nat):Int)= -1\/eN ((a.num.natAbs* b.den:Nat):Int) ((b.num.natAbs* a.den:Nat):Int)=0\/eN ((a.num.natAbs* b.den:Nat):Int) ((b.num.natAbs* a.den:Nat):Int)=1:=by
  unfold eN;split;simp;split <;> simp
 have g:=cC a;rw[<-m] at g
 have f: -9223372036854775808<=x* eN ((a.num.natAbs* b.den:Nat):Int) ((b.num.natAbs* a.den:Nat):Int)/\x* eN ((a.num.natAbs* b.den:Nat):Int) ((b.num.natAbs* a.den:Nat):Int)<=9223372036854775807:=by
  rcases d with h|h|h <;> rcases k with h'|h'|h' <;> rw[h,h']<;> decide
 refine ae (r_d a7 17 ?_);refine c_s (g) ?_;refine c_s (eV b (by omega)) ?_;refine c_s (gG a.num.natAbs b.den (by omega)) ?_;refine c_s (eV a (by omega)) ?_;refine c_s (gG b.num.natAbs a.den (by omega)) ?_;refine c_s (pv (a.num.natAbs* b.den) (b.num.natAbs* a.den) (by omega)) ?_;refine o_0 (.bin rfl rfl (wt f)) ?_;refine a_1 ?_;refine aq (n_k ?_);refine ai (aW rfl ?_ (ag _));rw[i,if_neg (by omega)];rfl
theorem sf(a:Rat):FS 75 [.agg (qC a)] (.agg (qC (fq a))):=by
 have b:=aS (fq a);rw[qC_abs] at b⊢;refine f_c Tryz.func75 ?_;refine r_z 2 ?_;refine ae (r_d a7 8 ?_);refine c_s (eU false a.num.natAbs) ?_;refine a_4 ?_;refine aq (n_k ?_);exact ai (c_e (b))
theorem Je(a:Rat)(ha:sm a):FS 237 [.agg (qC a)] (.agg (qC ((a.den:Int):Rat))):=by
 have b:=qI (a.den:Int);rw[Cy] at b;refine f_c Tryz.func237 ?_;refine r_z 2 ?_;refine r_c 5 (eV a (by unfold sm at ha;omega)) ?_;refine c_s (b) ?_;refine a_z ?_;exact ai (c_e (aS _))
theorem G3{z q:Int}{d:Nat}(hd:0< d)(h1:q* d<=z)(h2:z< q* d+d):z/ (d:Int)=q:=by
 have a:(0:Int)< d:=by omega
 have b:q<=z/ (d:Int):=(Int.le_ediv_iff_mul_le a).2 h1;have c:z/ (d:Int)< q+1:=(Int.ediv_lt_iff_lt_mul a).2 (by rw[Int.add_mul];omega);omega
theorem vH(z:Int)(d:Nat)(hd:0< d):z/ (d:Int)=sgn (decide (z< 0)) (if (decide (z< 0) && !(z.natAbs % d==0))=true then z.natAbs/ d+1 else z.natAbs/ d):=by
 have f:=Nat.div_add_mod z.natAbs d;have c:=Nat.mod_lt z.natAbs hd;generalize e:z.natAbs % d=r at *
 generalize b:z.natAbs/ d=a at *
 have g:((d* a:Nat):Int)=(a:Int) * d:=by rw[Int.natCast_mul,Int.mul_comm]
 refine G3 hd ?_ ?_ <;> by_cases hz:z< 0 <;> by_cases h0:r=0 <;> simp[sgn,hz,h0,Int.neg_mul,Int.add_mul]<;> omega
theorem GE(z:Int)(d:Nat)(hd:0< d)(h:bl z.natAbs+bl d<=4398046511104):FS 267 [.agg (zI z),.agg [mag d]] (.agg (zI (z/ d))):=by
 rw[vH z d hd];have c:=eY z.natAbs d;have e:=Ae (z.natAbs/ d) 1;have f:bl 1=1:=jE;obtain⟨Q,a⟩:∃Q,Q=(if (decide (z< 0) && !(z.natAbs % d==0))=true then z.natAbs/ d+1 else z.natAbs/ d):=⟨_,rfl⟩;rw[<-a];refine f_c Tryz.func267 ?_;refine r_z 3 ?_;refine r_c 11 (tT z.natAbs d h hd) ?_;refine a_z ?_;refine bH (fun _:Unit=>⟨[(2,.lptr 1 0 0),(4,.lptr 2 0 0),(5,.lptr 3 0 0)],[(1,some ⟨34,2,[zI z]⟩),(2,some ⟨34,2,[[.emp,bln false]]⟩),(3,some ⟨32,1,[[mag Q]]⟩)],4,28⟩) (fun _=>True) ?_ ?_;by_cases hz:z< 0;refine s_r 7 ?_;refine a_3 ?_;refine y_g rfl (by simp[hz]) (.load_l rfl rfl rfl TG.h TS.h (nle rfl)) ?_;refine y_g rfl (by simp[hz]) (.call rfl rfl rfl (nX (z.natAbs % d))) ?_;refine y_g rfl (by simp[hz]) (.un rfl nr) ?_;refine o_0 (.pickT rfl (by simp[hz]) rfl) ?_;refine aq ?_;refine au rfl (fun b=>?_) (fun b=>?_);have:Q=z.natAbs/ d+1:=by rw[a,if_pos];simpa[hz] using b
 rw[this];refine r_d a7 4 ?_;refine c_s (gH 1 (by decide)) ?_;refine c_s (zb (z.natAbs/ d) 1 (by omega)) ?_;refine a_1 ?_;refine aq (n_k ?_);refine⟨(),trivial,?_⟩;exact s_e [(2,4),(3,5)];have:Q=z.natAbs/ d:=by rw[a,if_neg];simpa[hz] using b
 rw[this];refine am ⟨(),trivial,?_⟩;exact s_e [(2,4),(3,5)];refine s_r 7 ?_;refine a_3 ?_;refine n_g rfl (by simp[hz]) ?_;refine n_g rfl (by simp[hz]) ?_;refine n_g rfl (by simp[hz]) ?_;refine o_0 (.pickF rfl (by simp[hz]) rfl) ?_;refine aq ?_;have:Q=z.natAbs/ d:=by rw[a,if_neg];simp[hz]
 rw[this];refine au rfl (fun h=>?_) (fun h=>am ⟨(),trivial,?_⟩);cases h;exact s_e [(2,4),(3,5)];rintro _ _;refine r_c 5 (eU (decide (z< 0)) Q) ?_;refine a_z ?_;exact ai (c_e (iV _))
theorem qN(q:Rat)(h:qs q<=1099511627776):FS 243 [.agg (qC q)] (.agg (qC (q.floor:Rat))):=by
 have a:=ez q;have b:=ed q;rw[Rat.floor_def];refine f_c Tryz.func243 ?_;refine r_z 2 ?_;refine ae (r_d a7 7 ?_);refine c_s (eV q h) ?_;refine c_s (GE q.num q.den q.den_pos (by omega)) ?_;refine c_s (qI (q.num/ q.den)) ?_;refine a_1 ?_;refine aq (n_k ?_);exact ai (c_e (aS _))
def wn(q:Rat):Rat:= -((-q).floor:Rat)
theorem Fw(q:Rat)(h:qs q<=1099511627776):FS 244 [.agg (qC q)] (.agg (qC (wn q))):=by
 refine f_c Tryz.func244 ?_;refine r_z 2 ?_;refine r_c 5 (ki q) ?_;refine c_s (qN (-q) (by rw[fw];exact h)) ?_;refine c_s (ki ((-q).floor:Rat)) ?_;refine a_z ?_;exact ai (c_e (aS _))
def wi(k:Int)(m:Nat):Nat:=(max 0 (min k m)).toNat
theorem Gx(k:Int)(m:Nat):FS 269 [i64 k,i64 m] (i64 (wi k m)):=by
 refine f_c Tryz.func269 ?_;refine r_z 1 ?_;refine r_z 5 ?_;refine ai (aW rfl ?_ ?_);simp only[i64,wi];congr 2;split <;> split <;> omega;exact ag _
def powS:Nat×Nat×Nat->AState
 |(o,x,m)=>⟨[(1,i64 m),(2,.lptr 1 0 0),(4,.lptr 2 0 0),(5,.lptr 3 0 0)],[(1,some ⟨32,1,[[mag x]]⟩),(2,some ⟨32,1,[[.emp]]⟩),(3,some ⟨32,1,[[mag o]]⟩)],4,23⟩
theorem mh(o:Nat)(x:Nat)(m:Nat):powS (o,x,m)=⟨[(1,i64 m),(2,.lptr 1 0 0),(4,.lptr 2 0 0),(5,.lptr 3 0 0)],[(1,some ⟨32,1,[[mag x]]⟩),(2,some ⟨32,1,[[.emp]]⟩),(3,some ⟨32,1,[[mag o]]⟩)],4,23⟩:=rfl
theorem C8(x m:Nat):x^ m=(x* x) ^ (m/ 2) * (if m % 2=1 then x else 1):=by
 rw[<-Nat.pow_two,<-Nat.pow_mul];have:=Nat.div_add_mod m 2;split
 ·rename_i h;rw[<-Nat.pow_succ];congr 1;omega
 ·rename_i h;rw[Nat.mul_one];congr 1;omega
theorem GC(a n:Nat)(h:bl a* n<=2199023255552)(hn:n<=1000000):FS 268 [.agg [mag a],i64 n] (.agg [mag (a^ n)]):=by
 refine f_c Tryz.func268 ?_;refine r_z 2 ?_;refine r_c 3 (gH 1 (by decide)) ?_;refine a_z ?_;refine bH (fun _:Unit=>⟨[(4,.lptr 2 0 0),(5,.lptr 3 0 0)],[(2,some ⟨32,1,[[.emp]]⟩),(3,some ⟨32,1,[[mag (a^ n)]]⟩)],4,23⟩) (fun _=>True) ?_ ?_;refine aj (aC powS (fun x=>x.2.2) (fun x=>x.1* x.2.1^ x.2.2=a^ n/\bl x.1+bl x.2.1* x.2.2<=2199023255553/\x.2.2<=1000000) (1,a,n) ⟨by simp,by have:bl 1=1:=jE;simp only;omega,hn⟩ ?_ ?_);rw[mh];exact s_e [(1,2),(2,4),(3,5)];rintro⟨o,x,m⟩ ⟨hv,hb,C⟩;simp only at hv hb C;rw[mh];refine ae (r_z 2 ?_);refine au rfl (fun h=>?_) (fun h=>?_);have c:0< m:=by simpa using h
 have y:bl x* 1<=bl x* m:=Nat.mul_le_mul_left _ c;have l:=C8 x m;refine am ?_
 have D:(m:Int).tdiv 2=((m/ 2:Nat):Int):=by
  rw[Int.tdiv_eq_ediv_of_nonneg (by omega)];omega
 have w:=Nat.div_add_mod m 2;have A:=Nat.mod_lt m (show 0< 2 by decide);have j:m/ 2< m:=by omega
 have p:=ja x x;have u:=ja o x;have B:bl x* m=bl x* (2* (m/ 2))+bl x* (m % 2):=by rw[<-Nat.mul_add];congr 1;omega
 have t:bl (x* x) * (m/ 2)<=bl x* (2* (m/ 2)):=by
  have:=Nat.mul_le_mul_right (m/ 2) p;rw[<-Nat.two_mul,Nat.mul_comm 2,Nat.mul_assoc] at this;exact this
 have E:(m:Int) % 2=((m % 2:Nat):Int):=by omega
 have e:(m:Int) / 2=((m/ 2:Nat):Int):=by omega
 refine ae (aj (bH (fun d:Nat=>powS (d,x,m)) (fun d=>d=o* (if m % 2=1 then x else 1)) ?_ ?_));refine r_z 3 ?_;refine au rfl (fun f=>?_) (fun f=>?_);have g:m % 2=1:=by simp at f;omega
 refine r_m 4 ?_;refine c_s (gG o x (by omega)) ?_;refine a_z ?_;refine⟨o* x,by rw[if_pos g],?_⟩;simp only[mh];exact s_e [];have k:¬m % 2=1:=by simp at f;omega
 refine am ⟨o,by rw[if_neg k,Nat.mul_one],?_⟩;simp only[mh];exact s_e [];rintro d i;rw[mh]
 have s:bl d<=bl o+bl x* (m % 2):=by
  rw[i];split
  ·rename_i f;rw[f];omega
  rw[Nat.mul_one];omega
 have b:d* (x* x) ^ (m/ 2)=a^ n:=by
  rw[<-hv,l,i,Nat.mul_assoc,Nat.mul_comm (if m % 2=1 then x else 1)]
 refine r_z 2 ?_;refine au rfl (fun r=>?_) (fun r=>?_);refine r_m 4 ?_;refine c_s (gG x x (by omega)) ?_;refine a_z ?_;refine r_m 3 ?_;refine a_z ?_;refine⟨(d,x* x,m/ 2),j,⟨b,by simp only;omega,by simp only;omega⟩,?_⟩;rw[mh];have:=(congrArg (fun z=>AV.v (.int .i64 z)) e);exact s_f [];have q:m/ 2=0:=by simp at r;omega
 refine am (r_m 3 ?_);refine a_z ?_;rw[q] at b e;refine⟨(d,x,0),c,⟨by simpa using b,by simp only;omega,by simp only;omega⟩,?_⟩;rw[mh];have:=(congrArg (fun z=>AV.v (.int .i64 z)) e);exact s_f [];have c:m=0:=by simp at h;omega
 subst c;refine ax ⟨(),trivial,?_⟩;have b:o=a^ n:=by simpa using hv
 rw[b];exact s_e [];rintro _ _;refine r_z 2 ?_;exact ai (c_e (closed_mA _))
theorem IZ(k:Int):FS 246 [i64 k] (.agg [mag (2^ wi k 256)]):=by
 have b:wi k 256<=256:=by unfold wi;omega
 have a:bl 2=2:=by decide
 refine f_c Tryz.func246 ?_;refine r_z 1 ?_;refine r_c 5 (gH 2 (by decide)) ?_;refine c_s (Gx k 256) ?_;refine c_s (GC 2 (wi k 256) (by rw[a];omega) (by omega)) ?_;refine a_z ?_;exact ai (c_e (closed_mA _))
theorem Ej(k:Nat):bl (2^ k)<=k+1:=gM (by rw[Nat.pow_succ];have:=Nat.pow_pos (n:=k) (show 0< 2 by decide);omega)
theorem qT(k:Int):FS 211 [i64 k] (.agg (qC (gI (wi k 256)))):=by
 have b:wi k 256<=256:=by unfold wi;omega
 have hb:=Ej (wi k 256);have a:bl (1:Int).natAbs=1:=jE;refine f_c Tryz.func211 ?_;refine r_z 1 ?_;refine r_c 5 (Bn 1 (by decide)) ?_;refine c_s (IZ k) ?_;refine c_s (qJ 1 (2^ wi k 256) (Nat.pow_pos (by decide)) (by omega)) ?_;refine a_z ?_;exact ai (c_e (aS _))
def ph(k:Nat):Rat:=((2^ k:Nat):Int)
theorem yO(k:Nat):qs (ph k)<=k+1:=by
 have a:(ph k).num=((2^ k:Nat):Int):=rfl;have b:(ph k).den=1:=rfl;unfold qs;rw[a,b,Int.natAbs_natCast,jE];have:=Ej k;omega
theorem AK(k:Nat):qs (gI k)<=k+1:=by
 have a:bl (1:Int).natAbs=1:=jE;exact fF (Nat.pow_pos (by decide)) (by omega) (Ej k)
theorem xC(a:Rat)(k:Int)(h:qs a<=549755813000):FS 242 [.agg (qC a),i64 k] (.agg (qC (a* ph (wi k 256)))):=by
 have c:wi k 256<=256:=by unfold wi;omega
 have d:=yO (wi k 256);have b:=qI ((2^ wi k 256:Nat):Int);rw[Cy] at b;refine f_c Tryz.func242 ?_;refine r_z 2 ?_;refine ae (r_d a7 7 ?_);refine c_s (IZ k) ?_;refine c_s (b) ?_;refine c_s (c6 a (ph (wi k 256)) (by omega)) ?_;refine a_1 ?_;refine aq (n_k ?_);exact ai (c_e (aS _))
def kw(a:Rat)(k:Nat):Rat:=((a* ph k).floor:Rat) * gI k
def upQ(a:Rat)(k:Nat):Rat:=wn (a* ph k) * gI k
theorem AJ(a:Rat):qs (a.floor:Rat)<=qs a+1:=by
 rw[Rat.floor_def];have d:=ez a;have e1:((a.num/ (a.den:Int):Int):Rat).num=a.num/ a.den:=rfl;have e2:((a.num/ (a.den:Int):Int):Rat).den=1:=rfl;have g:1<=bl a.den:=J0 a.den_pos;have c:=ed a;unfold qs at *
 rw[e1,e2,jE,vH _ _ a.den_pos,fD];have f:=eY a.num.natAbs a.den;have b:=Ae (a.num.natAbs/ a.den) 1;have e:bl 1=1:=jE;split <;> omega
theorem Ic(a:Rat):qs (wn a)<=qs a+1:=by
 unfold wn;rw[fw];have:=AJ (-a);rwa[fw] at this
theorem Fz(a:Rat)(k:Int)(h:sm a):FS 207 [.agg (qC a),i64 k] (.agg (qC (kw a (wi k 256)))):=by
 unfold sm at h;have b:wi k 256<=256:=by unfold wi;omega
 have c:=yO (wi k 256);have f:=dw a (ph (wi k 256));have d:=AJ (a* ph (wi k 256));have e:=AK (wi k 256);refine f_c Tryz.func207 ?_;refine r_z 2 ?_;refine r_c 8 (xC a k (by omega)) ?_;refine c_s (qN (a* ph (wi k 256)) (by omega)) ?_;refine c_s (qT k) ?_;refine c_s (c6 ((a* ph (wi k 256)).floor:Rat) (gI (wi k 256)) (by omega)) ?_;refine a_z ?_;exact ai (c_e (aS _))
theorem fs_Up(a:Rat)(k:Int)(h:sm a):FS 208 [.agg (qC a),i64 k] (.agg (qC (upQ a (wi k 256)))):=by
 unfold sm at h;have b:wi k 256<=256:=by unfold wi;omega
 have c:=yO (wi k 256);have f:=dw a (ph (wi k 256));have d:=Ic (a* ph (wi k 256));have e:=AK (wi k 256);refine f_c Tryz.func208 ?_;refine r_z 2 ?_;refine r_c 8 (xC a k (by omega)) ?_;refine c_s (Fw (a* ph (wi k 256)) (by omega)) ?_;refine c_s (qT k) ?_;refine c_s (c6 (wn (a* ph (wi k 256))) (gI (wi k 256)) (by omega)) ?_;refine a_z ?_;exact ai (c_e (aS _))
theorem Bz(a:Rat)(k:Int)(h:sm a):FS 174 [.agg (qC a),i64 k] (.agg (spC (kw a (wi k 256)) (upQ a (wi k 256)))):=by
 refine f_c Tryz.func174 ?_;refine r_z 2 ?_;refine ae (r_d a7 8 ?_);refine c_s (Fz a k h) ?_;refine c_s (fs_Up a k h) ?_;refine a_2 ?_;refine aq (n_k ?_);exact ai (c_e (b5 _ _))
theorem BC(a:Rat):FS 216 [.agg (qC a)] (.agg (spC a a)):=by
 refine f_c Tryz.func216 ?_;refine r_z 2 ?_;refine r_z 4 ?_;exact ai (c_e (b5 _ _))
theorem lH(a b:Rat)(ha:sm a)(hb:sm b):FS 93 [.agg (spC a b)] (bln (decide (fi a b<=0))):=by
 refine f_c Tryz.func93 ?_;refine r_z 2 ?_;refine r_c 7 (sd a b ha hb) ?_;refine a_z ?_;exact ai (t_e (ag _))
theorem fs_SAdd(a b c d:Rat)(ha:sm a)(hb:sm b)(hc:sm c)(hd:sm d):FS 253 [.agg (spC a b),.agg (spC c d)] (.agg (spC (a+c) (b+d))):=by
 refine f_c Tryz.func253 ?_;refine r_z 3 ?_;refine ae (r_d a7 12 ?_);refine c_s (fy a c (sm2 ha hc)) ?_;refine c_s (fy b d (sm2 hb hd)) ?_;refine a_2 ?_;refine aq (n_k ?_);exact ai (c_e (b5 _ _))
theorem DQ(a b:Rat)(ha:sm a)(hb:sm b):FS 249 [.agg (spC a b)] (.agg (qC ((a+b) * gI 1))):=by
 have c:qs (a+b)<=274877906945:=by have:=gx a b;unfold sm at ha hb;omega
 have d:qs (gI 1)<=2:=by decide
 refine f_c Tryz.func249 ?_;refine r_z 2 ?_;refine r_c 8 (fy a b (sm2 ha hb)) ?_;refine c_s (qT 1) ?_;refine c_s (c6 (a+b) (gI 1) (by omega)) ?_;refine a_z ?_;exact ai (c_e (aS _))
theorem xG(a b:Rat)(ha:sm a)(hb:sm b):FS 76 [.agg (spC a b)] (.agg (qC (b- a))):=by
 refine f_c Tryz.func76 ?_;refine r_z 2 ?_;refine r_c 6 (jC b a (sm2 hb ha)) ?_;refine a_z ?_;exact ai (c_e (aS _))
theorem fs_Min1(c:Int):FS 245 [i64 c] (bln (decide (c< 0))):=by
 refine f_c Tryz.func245 ?_;refine r_z 1 ?_;refine r_z 3 ?_;exact ai (t_e (ag _))
theorem fs_Max1(c:Int):FS 192 [i64 c] (bln (decide (0< c))):=by
 refine f_c Tryz.func192 ?_;refine r_z 1 ?_;refine r_z 3 ?_;exact ai (t_e (ag _))
def Ab(g:Nat)(l:Lq):Nat×La->AState
 |(i,o)=>⟨[(0,.clos g [] []),(4,.lptr 1 0 0),(5,.lptr 2 0 0),(8,.arr (pE l)),(9,i64 l.length),(10,i64 i)],[(1,some ⟨36,3,[zC]⟩),(2,some ⟨36,3,[o]⟩)],3,27⟩
theorem xE(g:Nat)(bf:Int->Bool)(hg:∀c,FS g [i64 c] (bln (bf c)))(l:Lq)(hl:smL l)(hln:l.length<=1099511627776):FS 191 [.clos g [] [],.arr (pE l)] (.agg (qC (eo bf l))):=by
 refine f_n Tryz.func191 ?_ ?_;exact ac (aR af af) (ac (aB l) af);refine r_z 1 ?_;refine r_z 1 ?_;refine ae (r_z 3 ?_);refine aF (fun _:Unit=>⟨[(4,.lptr 1 0 0),(5,.lptr 2 0 0)],[(1,some ⟨36,3,[zC]⟩),(2,some ⟨36,3,[qC (eo bf l)]⟩)],3,27⟩) (fun _=>True) ?_ ?_;refine aj (aC (fun x:Nat×La=>Ab g l x) (fun x=>l.length- x.1) (fun x=>x.1<=l.length/\((x.1=0->x.2=zC)/\(x.1≠0->x.2=qC (eo bf (l.take x.1))))) (0,zC) ⟨Nat.zero_le _,fun _=>rfl,fun h=>absurd rfl h⟩ ?_ ?_);simp only[Ab.eq_1];exact s_e [(1,4),(2,5)];rintro⟨i,o⟩ ⟨v,b,r⟩;simp only at v b r;simp only[Ab.eq_1];refine r_z 1 ?_;refine ae (au rfl (fun h=>?_) (fun h=>?_));refine am ?_;have k:i< l.length:=by simpa using h
 obtain⟨q,d⟩:∃q,l[i]?=some q:=⟨_,List.getElem?_eq_getElem k⟩;have e:(pE l)[((i:Nat):Int).toNat]?=some (qC q):=pE_get d;have j:sm q:=hl q (List.mem_of_getElem? d);have n:sm (eo bf (l.take i)):=pH fun q d=>hl q (List.mem_of_mem_take d);have a:=Ac bf (l.take i) q;rw[<-cJ d] at a;refine ae (aj (s_r 6 ?_));refine a_1 ?_;refine i_x e ?_;refine l_x e ?_;refine a_z ?_;refine AWp.cutB (fun _:Unit=>Ab g l (i,qC (eo bf (l.take (i+1))))) (fun _=>True) ?_ ?_;by_cases h0:i=0;subst h0;have:=b rfl;subst this;rw[if_pos (.inl (by simp))] at a;refine s_r 9 ?_;refine a_3 ?_;refine n_g rfl d_t ?_;refine n_g rfl d_t ?_;refine n_g rfl d_t ?_;refine n_g rfl d_t ?_;refine n_g rfl d_t ?_;refine o_0 (.pickT rfl d_t rfl) ?_;refine aq ?_;refine au rfl (fun h=>?_) (fun h=>?_);refine r_m 2 ?_;refine a_z ?_;refine⟨(),trivial,?_⟩;simp only[Ab.eq_1];rw[a];exact s_e [];cases h;have s:o=qC (eo bf (l.take i)):=r h0;subst s
 have m:l.take i≠[]:=fun h=>by
  have:=congrArg List.length h;rw[List.length_take,List.length_nil] at this;omega
 refine s_r 9 ?_;refine a_3 ?_;refine y_g rfl (by simp;omega) (.move rfl) ?_
 first|refine y_g rfl (by simp;omega) (.load_l rfl rfl rfl TG.h TS.h (nle rfl)) ?_|refine y_g rfl (by simp;omega) (.load_a rfl rfl TG.h TS.h (nle rfl)) ?_
 first|refine y_g rfl (by simp;omega) (.load_l rfl rfl rfl TG.h TS.h (nle rfl)) ?_|refine y_g rfl (by simp;omega) (.load_a rfl rfl TG.h TS.h (nle rfl)) ?_
 refine y_g rfl (by simp;omega) (.call rfl rfl rfl (sd q (eo bf (l.take i)) j n)) ?_;refine y_g rfl (by simp;omega) (.call rfl rfl rfl (hg (fi q (eo bf (l.take i))))) ?_;refine o_0 (.pickF rfl (by simp;omega) rfl) ?_;refine aq ?_;refine au rfl (fun p=>?_) (fun p=>?_);refine r_m 2 ?_;refine a_z ?_;refine⟨(),trivial,?_⟩;simp only[Ab.eq_1];rw[a,if_pos (.inr p)];exact s_e [];refine am ⟨(),trivial,?_⟩;simp only[Ab.eq_1];rw[a,if_neg (fun u=>u.elim m fun t=>by rw[p] at t;cases t)];exact s_e [];rintro _ _;rw[Ab.eq_1];refine r_m 2 ?_;refine a_z ?_;refine⟨(i+1,qC (eo bf (l.take (i+1)))),by simp only;omega,⟨by simp only;omega,fun h=>absurd h (by simp),fun _=>rfl⟩,?_⟩;simp only[Ab.eq_1];exact s_e [];have f:i=l.length:=by simp at h;omega
 refine ax ⟨(),trivial,?_⟩;subst f;by_cases h0:l.length=0;have:=b h0;subst this
 have:eo bf l=0:=by
  rw[List.length_eq_zero_iff] at h0;rw[h0];rfl
 rw[this,qC0];exact s_e [];have:=r h0;subst this;rw[List.take_length];exact s_e [];rintro _ _;refine r_z 2 ?_;exact ai (c_e (aS _))
theorem Jl(l:Lq)(hl:smL l)(hln:l.length<=1099511627776):FS 209 [.arr (pE l)] (.agg (qC (Dg l))):=by
 refine f_c Tryz.func209 ?_;refine r_z 1 ?_;refine r_c 3 (xE 245 _ fs_Min1 l hl hln) ?_;refine a_z ?_;exact ai (c_e (aS _))
theorem zg(l:Lq)(hl:smL l)(hln:l.length<=1099511627776):FS 153 [.arr (pE l)] (.agg (qC (lr l))):=by
 refine f_c Tryz.func153 ?_;refine r_z 1 ?_;refine r_c 3 (xE 192 _ fs_Max1 l hl hln) ?_;refine a_z ?_;exact ai (c_e (aS _))
theorem yw{a b:Rat}(ha:sm a)(hb:sm b):smL [a,b]:=by
 intro q c;simp at c;rcases c with rfl|rfl
 exact ha;exact hb
theorem Bw(a b c d:Rat)(ha:sm a)(hb:sm b)(hc:sm c)(hd:sm d):FS 175 [.agg (spC a b),.agg (spC c d)] (.agg (spC (Dg [a,c]) (lr [b,d]))):=by
 refine f_c Tryz.func175 ?_;refine r_z 3 ?_;refine ae (r_d a7 14 ?_);refine a_5 ?_;refine o_1 (.callS1 rfl rfl rfl (.shut rfl d_n (.nil)) rfl (Jl [a,c] (yw ha hc) (by simp))) ?_;refine a_5 ?_;refine o_1 (.callS1 rfl rfl rfl (.shut rfl d_n (.nil)) rfl (zg [b,d] (yw hb hd) (by simp))) ?_;refine a_2 ?_;refine aq (n_k ?_);exact ai (c_e (b5 _ _))
theorem DA(l:Lq)(hl:smL l)(hln:l.length<=1099511627776):FS 276 [.arr (pE l)] (.agg (spC (Dg l) (lr l))):=by
 refine f_c Tryz.func276 ?_;refine r_z 1 ?_;refine r_c 6 (Jl l hl hln) ?_;refine c_s (zg l hl hln) ?_;refine a_z ?_;exact ai (c_e (b5 _ _))
theorem fs_ends (g:Nat) (op:Rat->Rat->Rat) (a b c d:Rat) (h1:FS g [.agg (qC a),.agg (qC c)] (.agg (qC (op a c)))) (h2:FS g [.agg (qC a),.agg (qC d)] (.agg (qC (op a d)))) (h3:FS g [.agg (qC b),.agg (qC c)] (.agg (qC (op b c)))) (h4:FS g [.agg (qC b),.agg (qC d)] (.agg (qC (op b d))))
    (hs:smL [op a c,op a d,op b c,op b d]):FS 271 [.clos g [] [],.agg (spC a b),.agg (spC c d)] (.agg (spC (Dg [op a c,op a d,op b c,op b d]) (lr [op a c,op a d,op b c,op b d]))):=by
 refine f_n Tryz.func271 ?_ ?_;exact ac (aR af af) (ac (b5 a b) (ac (b5 c d) af));refine r_z 3 ?_;refine ae (r_d a7 27 ?_);refine c_s (h1) ?_;refine c_s (h2) ?_;refine c_s (h3) ?_;refine c_s (h4) ?_;refine a_1 ?_;refine o_1 (.callS1 rfl rfl rfl (.shut rfl d_n (.nil)) rfl (DA [op a c,op a d,op b c,op b d] hs (by simp))) ?_;refine a_1 ?_;refine aq (n_k ?_);exact ai (c_e (b5 _ _))
theorem fs_SMul(a b c d:Rat)(ha:sm a)(hb:sm b)(hc:sm c)(hd:sm d)(hs:smL [a* c,a* d,b* c,b* d]):FS 252 [.agg (spC a b),.agg (spC c d)] (.agg (spC (Dg [a* c,a* d,b* c,b* d]) (lr [a* c,a* d,b* c,b* d]))):=by
 refine f_c Tryz.func252 ?_;refine r_z 3 ?_;refine r_c 4 (fs_ends 47 (fun x y=>x* y) a b c d (c6 a c (sm2 ha hc)) (c6 a d (sm2 ha hd)) (c6 b c (sm2 hb hc)) (c6 b d (sm2 hb hd)) hs) ?_;refine a_z ?_;exact ai (c_e (b5 _ _))
theorem qs_int(n:Int):qs (n:Rat)<=max (bl n.natAbs) 1:=by
 have e1:(n:Rat).num=n:=rfl;have e2:(n:Rat).den=1:=rfl;unfold qs;rw[e1,e2,jE];exact Nat.le_refl _
theorem Ib{n:Int}(h: -9223372036854775808<=n/\n<=9223372036854775807):qs (n:Rat)<=64:=by
 have a:=qs_int n;have b:bl n.natAbs<=64:=gM (Nat.lt_of_le_of_lt (show n.natAbs<=9223372036854775808 by omega) (by decide));omega
theorem fs_Of(n d:Int)(hn: -9223372036854775808<=n/\n<=9223372036854775807)(hd: -9223372036854775808<=d/\d<=9223372036854775807)(h0:d≠0):FS 26 [i64 n,i64 d] (.tup [.agg (qC ((n:Rat) / (d:Rat))),i64 0]):=by
 have b:=Ib hn;have c:=Ib hd
 have a:(d:Rat)≠0:=by
  intro h;have:(d:Rat).num=0:=by rw[h];rfl
  exact h0 this
 refine f_c Tryz.func26 ?_;refine r_z 2 ?_;refine r_c 9 (dU n hn) ?_;refine c_s (dU d hd) ?_;refine c_s (DM (n:Rat) (d:Rat) a (by omega)) ?_;refine a_z ?_;refine ai (Fin.many ⟨_,_,rfl,⟨_,_,_,_,_,rfl,rfl,rfl,.inl ⟨TG.h,_,TS.h,nle rfl,rfl⟩⟩,⟨_,_,rfl,rfl,rfl⟩⟩ (nle rfl) ?_);exact ah (an aA (aS _)) (ah (an aA (ag _)) av)
theorem BA(l:Lq)(hl:l.length<=1099511627776):FS 105 [.arr (pE l)] (.arr (pE l)):=by
 cases l with
 |nil=>
  refine FSpec.nil1 fun a c=>?_;refine f_c Tryz.func105 ?_;refine r_z 1 ?_;refine ae (r_z 2 ?_);refine au rfl (fun h=>?_) (fun h=>?_);refine r_z 1 ?_;exact ai (Fin.tmpN rfl)
  ·refine am (s_r 4 ?_)
   refine a_2 ?_;refine o_2 (.append_l rfl rfl rfl te_38.h rfl rfl rfl rfl rfl d_o (by first|exact dV _|exact dT _|exact dy _|exact dX _|exact dS _|assumption|rfl|simp) (by first|rfl|exact dV _|exact dT _|exact dy _|exact dX _|exact dS _|simp) rfl (.vnil) TZ.h rfl TB.h d_o (by first|(simp[maxLen];done)|(simp[maxLen];omega))) ?_;refine a_z ?_;exact ai (Fin.tmpS rfl rfl rfl rfl (aJ []))
 |cons q l=>
  have b:pE (q::l)≠[]:=by simp[pE]
  simp at hl;refine f_c Tryz.func105 ?_;refine r_z 1 ?_;refine ae (s_r 2 ?_);refine a_1 ?_
  first|refine aY (.nilq_v rfl rfl te_38.h) rfl rfl ?_|refine aY (.nilq_arr rfl (b) rfl te_38.h) rfl rfl ?_
  refine aq ?_;refine cF ?_
  ·refine am (s_r 4 ?_)
   refine a_2 ?_;refine o_2 (.append_l rfl rfl rfl te_38.h rfl rfl rfl rfl rfl d_o (by first|exact dV _|exact dT _|exact dy _|exact dX _|exact dS _|assumption|rfl|simp) (by first|rfl|exact dV _|exact dT _|exact dy _|exact dX _|exact dS _|simp) rfl (.arr (mj _)) TZ.h rfl TB.h d_o (by first|(simp[maxLen];done)|(simp[maxLen];omega))) ?_;refine a_z ?_;exact ai (Fin.tmpS rfl rfl rfl (by simp) (aJ _))
def trS(l:Lq):Nat->AState
 |n=>⟨[(0,.arr (pE l)),(3,i64 n)],[],1,23⟩
theorem c9(l:Lq)(hl:l.length<=1099511627776):FS 42 [.arr (pE l)] (.arr (pE (ao l))):=by
 refine f_c Tryz.func42 ?_;refine r_z 1 ?_;refine r_z 3 ?_;refine bH (trS l) (fun n=>n<=l.length/\ao l=l.take n) ?_ ?_;refine aj (aC (trS l) (fun n=>n) (fun n=>n<=l.length/\ao l=ao (l.take n)) l.length ⟨Nat.le_refl _,by rw[List.take_length]⟩ ?_ ?_);simp only[trS.eq_1];exact s_e [];rintro n ⟨i,b⟩;rw[trS.eq_1];cases n with
 |zero=>
  refine ae (s_r 11 ?_);refine a_3 ?_;refine n_g rfl (by simp) ?_;refine n_g rfl (by simp) ?_;refine n_g rfl (by simp) ?_;refine n_g rfl (by simp) ?_;refine n_g rfl (by simp) ?_;refine n_g rfl (by simp) ?_;refine n_g rfl (by simp) ?_;refine o_0 (.pickF rfl (by simp) rfl) ?_;refine aq ?_;refine cF ?_;refine ax ⟨0,⟨Nat.zero_le _,?_⟩,?_⟩;rw[b];rfl;simp only[trS.eq_1];exact s_e []
 |succ n=>
  obtain⟨q,g⟩:∃q,l[n]?=some q:=⟨_,List.getElem?_eq_getElem (by omega)⟩
  have a:(pE l)[(((n+1:Nat):Int)- 1).toNat]?=some (qC q):=by
   rw[show(((n+1:Nat):Int)- 1).toNat=n by omega];exact pE_get g
  have hs:ao (l.take (n+1))=if q=0 then ao (l.take n) else l.take (n+1):=by
   rw[cJ g,l3]
  refine ae (s_r 11 ?_);refine a_3 ?_;refine y_g rfl (by simp <;> omega) (.move rfl) ?_;refine y_g rfl (by simp <;> omega) (.move rfl) ?_;refine y_g rfl (by simp <;> omega) (.bin rfl rfl (rv (by omega))) ?_
  first|refine y_g rfl (by simp <;> omega) (.index_l rfl rfl (by omega) (by omega) te_38.h) ?_|refine y_g rfl (by simp <;> omega) (.index_a rfl rfl (by omega) a rfl te_38.h) ?_
  first|refine y_g rfl (by simp <;> omega) (.load_l rfl rfl a TG.h TS.h (nle rfl)) ?_|refine y_g rfl (by simp <;> omega) (.load_a rfl a TG.h TS.h (nle rfl)) ?_
  refine y_g rfl (by simp <;> omega) (.call rfl rfl rfl (cC q)) ?_;refine y_g rfl (by simp <;> omega) (.bin rfl rfl cb) ?_;refine o_0 (.pickT rfl (by simp <;> omega) rfl) ?_;refine aq ?_;refine au rfl (fun h=>?_) (fun h=>?_)
  have f:q=0:=by
   have c:sgZ q.num=0:=by simpa using h
   exact sgZ_num_eq.1 c
  refine am (aj (r_m 3 ?_));refine a_z ?_;refine⟨n,Nat.lt_succ_self n,⟨by omega,?_⟩,?_⟩;rw[b,hs,if_pos f];simp only[trS.eq_1];exact s_e []
  have f:q≠0:=by
   intro e;have c:¬sgZ q.num=0:=by simpa using h
   exact c (sgZ_num_eq.2 e)
  refine ax ⟨n+1,⟨i,?_⟩,?_⟩;rw[b,hs,if_neg f];simp only[trS.eq_1];exact s_e []
 rintro n ⟨i,b⟩;rw[trS.eq_1];have d:=BA (l.take n) (by simp;omega);refine s_r 5 ?_;refine a_2 ?_;refine o_0 (.sa_h rfl rfl (h:=n) rfl (by simp;omega) te_38.h (mj _)) ?_;refine o_0 (.call rfl rfl rfl ((by rw[tG];exact d))) ?_;refine o_0 (.assign rfl) ?_;refine aq ?_;refine ai (aW rfl ?_ ?_);rw[b];exact aG (aJ _)
theorem db(l:Lq)(hl:l.length<=1099511627776):FS 90 [.arr (pE l)] (i64 (bO l)):=by
 have:=bR l;refine f_c Tryz.func90 ?_;refine r_z 1 ?_;refine r_c 5 (c9 l hl) ?_;refine a_z ?_;exact ai (t_e (ag _))
theorem qS(l:Lq)(hl:l.length<=1099511627776):FS 149 [.arr (pE l)] (.agg (qC (aM l))):=by
 have c:=bR l;refine f_c Tryz.func149 ?_;refine r_z 1 ?_;refine r_c 3 (c9 l hl) ?_;refine a_z ?_;refine ae (r_z 3 ?_);refine au rfl (fun h=>?_) (fun h=>?_)
 have e:ao l=[]:=by
  have a:(ao l).length=0:=by simpa using h
  exact List.length_eq_zero_iff.1 a
 rw[rY e];refine r_z 2 ?_;refine ai (Fin.cell rfl rfl rfl TG.h TS.h (nle rfl) (Cv.agg ?_));rw[qC0];exact ah (Cv.emp _) (ah (an aA (ag _)) (ah (Cv.emp _) av))
 obtain⟨n,d⟩:∃n,(ao l).length=n+1:=⟨(ao l).length- 1,by
  have a:¬(ao l).length=0:=by simpa using h
  omega⟩
 have b:(pE (ao l))[(((ao l).length:Int)- 1).toNat]?=some (qC (aM l)):=by
  rw[d,show(((n+1:Nat):Int)- 1).toNat=n by omega];exact pE_get (dn d)
 refine am (s_r 7 ?_);refine a_4 ?_;refine i_x b ?_;refine l_x b ?_;refine a_z ?_;exact ai (c_e (aS _))
theorem fs_at(l:Lq)(i:Nat):FS 122 [.arr (pE l),i64 i] (.agg (qC (coP l i))):=by
 refine f_c Tryz.func122 ?_;refine r_z 1 ?_;refine ae (r_z 4 ?_);refine au rfl (fun h=>?_) (fun h=>?_);have b:i< l.length:=by simpa using h
 have c:(pE l)[((i:Nat):Int).toNat]?=some (qC (coP l i)):=pE_get (ci b);refine s_r 5 ?_;refine a_2 ?_;refine i_x c ?_;refine l_x c ?_;refine a_z ?_;exact ai (c_e (aS _));have a:l.length<=i:=by simpa using h
 rw[eH a];refine am (r_z 2 ?_);refine ai (Fin.cell rfl rfl rfl TG.h TS.h (nle rfl) (Cv.agg ?_));rw[qC0];exact ah (Cv.emp _) (ah (an aA (ag _)) (ah (Cv.emp _) av))
theorem eE_set{n i e:Nat}{f:Nat->Rat}(h:i< n)(he:e=i):(pE (aN i f)++List.replicate (n- i) zC).set e (qC (f i))=pE (aN (i+1) f)++List.replicate (n- (i+1)) zC:=by
 subst he;obtain⟨k,rfl⟩:∃k,n=e+1+k:=⟨n- (e+1),by omega⟩;rw[show e+1+k- e=k+1 by omega,show e+1+k- (e+1)=k by omega,List.replicate_succ,List.set_append_right _ _ (by simp)];simp[aN,List.range_succ,pE]
theorem eE_get{n i e:Nat}{f:Nat->Rat}(h:i< n)(he:e=i):(pE (aN i f)++List.replicate (n- i) zC)[e]?=some zC:=by
 subst he;rw[List.getElem?_append_right (by simp),List.getElem?_replicate,if_pos (by simp;omega)]
theorem sM(n i:Nat)(f:Nat->Rat):∀e∈pE (aN i f)++List.replicate (n- i) zC,∀c∈e,Closed c:=by
 intro e a;rcases List.mem_append.1 a with a|a
 exact aJ _ e a;rw[List.eq_of_mem_replicate a];exact oX
def Jy(n:Nat)(f:Nat->Rat)(g:Nat)(cap:La):Nat->AState
 |i=>⟨[(1,.clos g [] cap),(5,.lsl 1 0 n (some n) 3),(10,i64 n),(11,i64 i)],[(1,some ⟨36,3,pE (aN i f)++List.replicate (n- i) zC⟩)],2,23⟩
theorem tW(n:Nat)(f:Nat->Rat)(g:Nat)(cap:La)(hn:n<=1099511627776)(hcap:∀c∈cap,Closed c)(hg:∀i,i< n->FS g ((i64 i::cap).map coe) (.agg (qC (f i)))):FS 114 [i64 n,.clos g [] cap] (.arr (pE (ao (aN n f)))):=by
 refine f_n Tryz.func114 ?_ ?_;exact ac (ag _) (ac (aR af hcap) af);refine r_z 1 ?_;refine r_z 3 ?_;refine ae (r_z 3 ?_);refine aF (fun _:Unit=>Jy n f g cap n) (fun _=>True) ?_ ?_;refine aj (aC (Jy n f g cap) (fun i=>n- i) (fun i=>i<=n) 0 (Nat.zero_le _) ?_ ?_);simp only[Jy.eq_1];refine s_x [(1,5)] (fun hs=>e_3) (fun hs=>?_)
 ·repeat' (first|exact aE|refine h_c ?_ ?_|exact aI hs rfl (sM n 0 f)|exact bZ|refine aD ?_|exact av|refine ah ?_ ?_|exact an hs (aR af hcap)|exact aX)
 rintro i e;rw[Jy.eq_1];refine r_z 1 ?_;refine ae (au rfl (fun h=>?_) (fun h=>?_));refine am ?_;have a:i< n:=by simpa using h
 refine ae (aj (r_z 2 ?_));refine r_m 7 ?_;refine c_s (hg i a) ?_;refine a_1 ?_;refine eF (.store rfl rfl (eE_get a (Nat.zero_add i)) rfl rfl rfl TS.h (nle rfl)) ?_;refine aq ?_;refine r_m 2 ?_;refine a_z ?_;refine⟨i+1,by omega,a,?_⟩;simp only[Jy.eq_1];refine s_x [] (fun hs=>e_3) (fun hs=>?_)
 ·repeat' (first|exact aE|refine h_c ?_ ?_|exact aI hs (eE_set a (Nat.zero_add i)) (sM n (i+1) f)|exact bZ|refine aD ?_|exact av|refine ah ?_ ?_|exact an hs (aR af hcap)|exact aX)
 have d:i=n:=by
  have:¬i< n:=by simpa using h
  omega
 subst d;refine ax ⟨(),trivial,?_⟩;simp only[Jy.eq_1];refine s_x [] (fun hs=>e_3) (fun hs=>?_)
 ·repeat' (first|exact aE|refine h_c ?_ ?_|exact bm hs (sM i i f)|exact bZ|refine aD ?_|exact av|refine ah ?_ ?_|exact an hs (aR af hcap)|exact aX)
 rintro _ _;rw[Jy.eq_1]
 have b:List.take n (List.drop 0 (pE (aN n f)++List.replicate (n- n) zC))=pE (aN n f):=by
  rw[Nat.sub_self,List.replicate_zero,List.append_nil,List.drop_zero,List.take_of_length_le (by simp)]
 refine s_r 3 ?_;refine a_1 ?_;refine o_1 (.callS1 rfl rfl rfl (.shut rfl d_n (.nil)) rfl ((by rw[b];exact c9 (aN n f) (by simp;exact hn)))) ?_;refine a_z ?_;exact ai (t_e (aG (aJ _)))
abbrev bP(p:Lq):AV:= .aptr [[.arr (pE p)]] 0 0
abbrev bQ(q:Rat):AV:= .aptr [qC q] 0 0
theorem dc(p:Lq):Closed (bP p):=bq (ac (aB p) af)
theorem cN(q:Rat):Closed (bQ q):=bq (bC q)
theorem fs_Add1(p q:Lq)(i:Nat)(hp:smL p)(hq:smL q):FS 121 [i64 i,bP p,bP q] (.agg (qC (coP p i+coP q i))):=by
 refine f_c Tryz.func121 ?_;refine r_z 1 ?_;refine ae (r_d a7 8 ?_);refine c_s (fs_at p i) ?_;refine c_s (fs_at q i) ?_;refine c_s (fy (coP p i) (coP q i) (sm2 (oa hp i) (oa hq i))) ?_;refine a_1 ?_;refine aq (n_k ?_);exact ai (c_e (aS _))
theorem nZ(p q:Lq)(hp:smL p)(hq:smL q)(hp1:p.length<=1099511627776)(hq1:q.length<=1099511627776):FS 56 [.arr (pE p),.arr (pE q)] (.arr (pE (fQ p q))):=by
 refine f_c Tryz.func56 ?_;refine r_z 3 ?_;refine AWp.ent (st':=⟨[(2,bP p),(3,bP q)],[],1,12⟩) ?_ ?_;exact s_e []
 have b:(if ((q.length:Nat):Int)>(p.length:Nat) then((q.length:Nat):Int) else(p.length:Nat))=((max p.length q.length:Nat):Int):=by
  rw[Nat.max_def];split <;> split <;> omega
 have a:=tW (max p.length q.length) (fun i=>coP p i+coP q i) 121 [bP p,bP q] (Nat.max_le.2 ⟨hp1,hq1⟩) (ac (dc p) (ac (dc q) af)) (fun i _=>fs_Add1 p q i hp hq);rw[<-b] at a;refine r_c 8 (a) ?_;refine a_z ?_;exact ai (t_e (aB _))
theorem GQ(p:Lq)(k:Rat)(i:Nat)(hp:smL p)(hk:sm k)(hi:i< p.length):FS 123 [i64 i,bP p,bQ k] (.agg (qC (coP p i* k))):=by
 have a:(pE p)[((i:Nat):Int).toNat]?=some (qC (coP p i)):=pE_get (ci hi);refine f_c Tryz.func123 ?_;refine r_z 1 ?_;refine ae (r_d a7 7 ?_);refine a_2 ?_;refine i_x a ?_;refine l_x a ?_;refine c_s (c6 (coP p i) k (sm2 (oa hp i) hk)) ?_;refine a_1 ?_;refine aq (n_k ?_);exact ai (c_e (aS _))
theorem fK(p:Lq)(k:Rat)(hp:smL p)(hk:sm k)(hp1:p.length<=1099511627776):FS 59 [.arr (pE p),.agg (qC k)] (.arr (pE (ba p k))):=by
 have a:=tW p.length (fun i=>coP p i* k) 123 [bP p,bQ k] hp1 (ac (dc p) (ac (cN k) af)) (fun i b=>GQ p k i hp hk b);refine f_c Tryz.func59 ?_;refine r_z 3 ?_;refine AWp.ent (st':=⟨[(2,bP p),(3,bQ k)],[],1,9⟩) ?_ ?_;exact s_e [];refine r_c 5 (a) ?_;refine a_z ?_;exact ai (t_e (aB _))
theorem iu(a b:Rat)(hb:b≠0)(h:qs a+qs b<=549755813888):FS 116 [.agg (qC a),.agg (qC b)] (.agg (qC (a/ b))):=by
 refine f_c Tryz.func116 ?_;refine r_z 3 ?_;refine r_c 9 (DM a b hb h) ?_;refine a_z ?_;refine r_z 2 ?_;exact ai (c_e (aS _))
theorem tj(a:Rat):FS 215 [.agg (qC a)] (.arr (pE (eJ a))):=by
 refine f_c Tryz.func215 ?_;refine r_z 2 ?_;refine s_r 4 ?_;refine a_2 ?_;refine o_1 (.callS1 rfl rfl rfl (.shut rfl d_n (.nil)) rfl ((c9 [a] (by simp)))) ?_;refine a_z ?_;exact ai (t_e (aB _))
theorem fs_line(a:Rat):FS 180 [.agg (qC a)] (.arr (pE [a,1])):=by
 refine f_c Tryz.func180 ?_;refine r_z 2 ?_;refine ae (r_d a7 4 ?_);refine c_s (dU 1 (by decide)) ?_;refine a_2 ?_;refine aq (n_k ?_);exact ai (Fin.tmpS rfl rfl rfl rfl (aJ [a,1]))
theorem sm_neg1{a:Rat}(h:sm a):sm (a* (-1)):=by
 unfold sm at *
 rw[show a* (-1)= -a by rw[Rat.mul_comm,Rat.neg_mul,Rat.one_mul],fw];exact h
theorem qs_inv(b:Rat)(hb:b≠0):qs (1/ b)<=qs b:=by
 rw[sG 1 b hb];have d:b.num≠0:=fun e=>hb (Rat.num_eq_zero.1 e);have a:=ez b;have c:=ed b
 refine fF (by have:0< b.num.natAbs:=by omega
               show 0< 1* b.num.natAbs;omega) ?_ ?_
 show bl ((1:Int) * sgn (decide (b.num< 0)) b.den).natAbs<=qs b;rw[Int.one_mul,fD];exact c;show bl (1* b.num.natAbs)<=qs b;rw[Nat.one_mul];exact a
theorem CP{q:Lq}(h:smL q):smL (ba q (-1)):=by
 refine nv fun x a=>?_;obtain⟨i,_,rfl⟩:=List.mem_map.1 a;exact sm_neg1 (oa h i)
theorem DP(p q:Lq)(hp:smL p)(hq:smL q)(hp1:p.length<=1099511627776)(hq1:q.length<=1099511627776):FS 120 [.arr (pE p),.arr (pE q)] (.arr (pE (eg p q))):=by
 have a:=dJ q (-1);refine f_c Tryz.func120 ?_;refine r_z 1 ?_;refine r_c 6 (dU (-1) (by decide)) ?_;refine c_s (fK q (-1) hq (by decide) hq1) ?_;refine c_s (nZ p (ba q (-1)) hp (CP hq) hp1 (by omega)) ?_;refine a_z ?_;exact ai (t_e (aB _))
theorem vn(p:Lq)(hp:smL p)(hp1:p.length<=1099511627776):FS 195 [.arr (pE p)] (.arr (pE (cu p))):=by
 have a:=IH hp;refine f_c Tryz.func195 ?_;refine r_z 1 ?_;refine ae (r_c 3 (db p hp1) ?_);refine a_z ?_;refine au rfl (fun h=>?_) (fun h=>?_)
 have d:ao p=[]:=by
  have b:bO p< 0:=by simpa using h
  unfold bO at b;exact List.length_eq_zero_iff.1 (by omega)
 refine r_z 1 ?_;refine ai ?_;unfold cu;rw[if_pos d];exact Fin.tmpN rfl
 have d:ao p≠[]:=by
  intro e;have b:¬bO p< 0:=by simpa using h
  unfold bO at b;rw[e] at b;exact b (by decide)
 have c:=dd d;have f:=qs_inv (aM p) c;unfold sm at a;have b:qs 1=1:=by decide
 unfold cu;rw[if_neg d];refine am (r_c 7 (dU 1 (by decide)) ?_);refine c_s (qS p hp1) ?_;refine c_s (iu 1 (aM p) c (by omega)) ?_;refine c_s (fK p (1/ aM p) hp (by unfold sm;omega) hp1) ?_;refine a_z ?_;exact ai (t_e (aB _))
theorem AI(i:Nat)(h:i<=1099511627776):qs (((i:Nat):Int):Rat)<=64:=by
 refine Nat.max_le.2 ⟨?_,?_⟩;show bl ((i:Int)).natAbs<=64;rw[Int.natAbs_natCast];exact gM (by omega);show bl 1<=64;decide
theorem DS(p:Lq)(i:Nat)(hp:smL p)(hi:i+1< p.length)(hp1:p.length<=1099511627776):FS 210 [i64 i,bP p] (.agg (qC (coP p (i+1) * ((i+1:Nat):Int)))):=by
 have a:(pE p)[(((i:Nat):Int)+1).toNat]?=some (qC (coP p (i+1))):=by
  rw[show(((i:Nat):Int)+1).toNat=i+1 by omega];exact pE_get (ci hi)
 have hs:=oa hp (i+1);have c:=AI (i+1) (by omega);unfold sm at hs;have b:=dU (((i:Nat):Int)+1) (by omega);rw[show((i:Nat):Int)+1=((i+1:Nat):Int) by omega] at b;refine f_c Tryz.func210 ?_;refine r_z 1 ?_;refine ae (r_d a7 10 ?_);refine a_3 ?_;refine i_x a ?_;refine l_x a ?_;refine c_s (b) ?_;refine c_s (c6 (coP p (i+1)) ((i+1:Nat):Int) (by omega)) ?_;refine a_1 ?_;refine aq (n_k ?_);exact ai (c_e (aS _))
theorem si(p:Lq)(hp:smL p)(hp1:p.length<=1099511627776):FS 176 [.arr (pE p)] (.arr (pE (bi p))):=by
 have a:=tW (p.length- 1) (fun i=>coP p (i+1) * ((i+1:Nat):Int)) 210 [bP p] (by omega) (ac (dc p) af) (fun i c=>DS p i hp (by omega) hp1);have b:(if (0:Int)>((p.length:Nat):Int)- 1 then(0:Int) else((p.length:Nat):Int)- 1)=((p.length- 1:Nat):Int):=by split <;> omega
 rw[<-b] at a;refine f_c Tryz.func176 ?_;refine r_z 2 ?_;refine AWp.ent (st':=⟨[(1,bP p)],[],1,9⟩) ?_ ?_;exact s_e [];refine r_c 7 (a) ?_;refine a_z ?_;exact ai (t_e (aB _))
theorem zi(p:Lq)(i:Nat)(hp:smL p)(hi:i< p.length+1)(hp1:p.length<=1099511627775):FS 115 [i64 i,bP p] (.agg (qC (if i=0 then 0 else coP p (i- 1) / ((i:Nat):Int)))):=by
 refine f_c Tryz.func115 ?_;refine r_z 1 ?_;refine ae (r_z 2 ?_);refine au rfl (fun h=>?_) (fun h=>?_)
 have a:i=0:=by
  have c:(i:Int)=0:=by simpa using h
  omega
 rw[if_pos a];refine r_z 2 ?_;refine ai (Fin.cell rfl rfl rfl TG.h TS.h (nle rfl) (Cv.agg ?_));rw[qC0];exact ah (Cv.emp _) (ah (an aA (ag _)) (ah (Cv.emp _) av))
 have a:i≠0:=by
  intro e;have c:¬(i:Int)=0:=by simpa using h
  omega
 rw[if_neg a]
 have b:(pE p)[(((i:Nat):Int)- 1).toNat]?=some (qC (coP p (i- 1))):=by
  rw[show(((i:Nat):Int)- 1).toNat=i- 1 by omega];exact pE_get (ci (by omega))
 have hs:=oa hp (i- 1);have d:=AI i (by omega);unfold sm at hs;refine am (ae (r_d a7 9 ?_));refine a_3 ?_;refine i_x b ?_;refine l_x b ?_;refine c_s (dU ((i:Nat):Int) (by omega)) ?_;refine c_s (iu (coP p (i- 1)) ((i:Nat):Int) (by intro e;have e2:=congrArg Rat.num e;simp at e2;omega) (by omega)) ?_;refine a_1 ?_;refine aq (n_k ?_);exact ai (c_e (aS _))
theorem nY(p:Lq)(hp:smL p)(hp1:p.length<=1099511627775):FS 52 [.arr (pE p)] (.arr (pE (aH p))):=by
 have a:=tW (p.length+1) (fun i=>if i=0 then 0 else coP p (i- 1) / ((i:Nat):Int)) 115 [bP p] (by omega) (ac (dc p) af) (fun i b=>zi p i hp b hp1);rw[show((p.length+1:Nat):Int)=((p.length:Nat):Int)+1 by omega] at a;refine f_c Tryz.func52 ?_;refine r_z 2 ?_;refine AWp.ent (st':=⟨[(1,bP p)],[],1,8⟩) ?_ ?_;exact s_e [];refine r_c 6 (a) ?_;refine a_z ?_;exact ai (t_e (aB _))
theorem Jh(a b:Rat)(ha:sm a)(hb:sm b):FS 43 [.agg (qC a),.agg (qC b)] (bln (decide (a=b))):=by
 have e:(fi a b==(0:Int))=decide (a=b):=by
  unfold fi;by_cases h:a=b;subst h;simp[Rat.lt_irrefl];by_cases h1:a< b;simp[h,h1];simp[h,h1]
 refine f_c Tryz.func43 ?_;refine r_z 3 ?_;refine r_c 5 (sd a b ha hb) ?_;refine a_z ?_;refine ai (aW rfl ?_ ?_);rw[<-e];rfl;exact ag _
def eqS(p:Lq)(q:Lq):Nat->AState
 |i=>⟨[(1,.arr (pE q)),(2,.clos 43 [] []),(15,.arr (pE p)),(16,i64 p.length),(17,i64 i)],[],1,32⟩
theorem zk(p q:Lq)(hp:smL p)(hq:smL q)(hp1:p.length<=1099511627776):FS 41 [.arr (pE p),.arr (pE q),.clos 43 [] []] (bln (decide (p=q))):=by
 refine f_n Tryz.func41 ?_ ?_;exact ac (aB p) (ac (aB q) (ac (aR af af) af));refine r_z 1 ?_;refine ae (r_z 5 ?_);refine au rfl (fun h=>?_) (fun h=>?_)
 have c:p≠q:=by
  intro e;subst e;simp at h
 refine r_z 1 ?_;refine ai (aW rfl ?_ ?_);simp[c];rfl;exact ag _
 have g:p.length=q.length:=by
  have j:(p.length:Int)=q.length:=by simpa using h
  omega
 refine am (ae (r_z 3 ?_));refine aF (fun _:Unit=>⟨[],[],1,32⟩) (fun _=>p=q) ?_ ?_;refine aj (aC (eqS p q) (fun i=>p.length- i) (fun i=>i<=p.length/\p.take i=q.take i) 0 ⟨Nat.zero_le _,rfl⟩ ?_ ?_);simp only[eqS.eq_1];exact s_e [];rintro i ⟨r,m⟩;rw[eqS.eq_1];refine r_z 1 ?_;refine ae (au rfl (fun j=>?_) (fun j=>?_));refine am ?_;have b:i< p.length:=by simpa using j
 have a:i< q.length:=by omega
 have f:(pE p)[((i:Nat):Int).toNat]?=some (qC (coP p i)):=pE_get (ci b);have d:(pE q)[((i:Nat):Int).toNat]?=some (qC (coP q i)):=pE_get (ci a);refine ae (aj (s_r 6 ?_));refine a_1 ?_;refine i_x f ?_;refine l_x f ?_;refine a_z ?_;refine s_r 6 ?_;refine a_2 ?_;refine i_x d ?_;refine l_x d ?_;refine a_z ?_;refine r_c 5 (Jh (coP p i) (coP q i) (oa hp i) (oa hq i)) ?_;refine a_z ?_;refine au rfl (fun l=>?_) (fun l=>?_);have n:coP p i≠coP q i:=by simpa using l
 have c:p≠q:=fun e=>n (by rw[e]);refine r_z 1 ?_;refine ai (aW rfl ?_ ?_);simp[c];rfl;exact ag _;have n:coP p i=coP q i:=by simpa using l
 refine am (r_m 2 ?_);refine a_z ?_;refine⟨i+1,by omega,⟨b,?_⟩,?_⟩;rw[cJ (ci b),cJ (ci a),m,n];simp only[eqS.eq_1];exact s_e []
 have k:i=p.length:=by
  have:¬i< p.length:=by simpa using j
  omega
 subst k;refine ax ⟨(),?_,?_⟩;rw[List.take_length,g,List.take_length] at m;exact m;exact s_e [];rintro _ o;refine r_z 1 ?_;refine ai (aW rfl ?_ ?_);simp[o];rfl;exact ag _
theorem fs_Same(p q:Lq)(hp:smL p)(hq:smL q)(hp1:p.length<=1099511627776)(hq1:q.length<=1099511627776):FS 10 [.arr (pE p),.arr (pE q)] (bln (sameP p q)):=by
 refine f_c Tryz.func10 ?_;refine r_z 1 ?_;refine r_c 6 (c9 p hp1) ?_;refine c_s (c9 q hq1) ?_;refine c_s (zk (ao p) (ao q) (nv hp) (nv hq) (Nat.le_trans (bR p) hp1)) ?_;refine a_z ?_;exact ai (t_e (ag _))
end Go.Proofs.YtkbjakfniejkcaaGreatDoor
