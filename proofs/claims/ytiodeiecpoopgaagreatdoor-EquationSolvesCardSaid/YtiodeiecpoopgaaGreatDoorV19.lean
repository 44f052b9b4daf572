/- Part V19. -/
import Derived.Test.YtiodeiecpoopgaaGreatDoorV18
set_option linter.all false
namespace Go.Proofs.YtiodeiecpoopgaaGreatDoor
open Go.Abs
set_option maxRecDepth 20000
theorem FZ(x:Int)(n:Nat)(hn:0< n):(sgZ x= -1/\∃p:Nat,0< p/\x* n= -(p:Int)/\x.natAbs* n=p)\/(sgZ x=0/\x* n=0/\x.natAbs* n=0)\/(sgZ x=1/\∃p:Nat,0< p/\x* n=p/\x.natAbs* n=p):=by
 rcases Int.lt_trichotomy x 0 with a|a|a
 refine .inl ⟨by unfold sgZ;rw[if_neg (by omega),if_pos a],x.natAbs* n,Nat.mul_pos (by omega) hn,?_,rfl⟩;rw[Int.natCast_mul,<-Int.neg_mul];congr 1;omega;subst a;refine .inr (.inl ⟨rfl,by simp,by simp⟩);refine .inr (.inr ⟨by unfold sgZ;rw[if_neg (by omega),if_neg (by omega)],x.natAbs* n,Nat.mul_pos (by omega) hn,?_,rfl⟩);rw[Int.natCast_mul];congr 1;omega
theorem Ko(a b:Rat):fl a b=if sgZ a.num≠sgZ b.num\/sgZ a.num=0 then sgZ a.num- sgZ b.num- (sgZ a.num- sgZ b.num).tdiv 2 else sgZ a.num* eH ((a.num.natAbs* b.den:Nat):Int) ((b.num.natAbs* a.den:Nat):Int):=by
 rw[cmpQ_eq];rcases FZ a.num b.den b.den_pos with⟨s1,p,hp,e1,f1⟩|⟨s1,e1,f1⟩|⟨s1,p,hp,e1,f1⟩<;> rcases FZ b.num a.den a.den_pos with⟨s2,q,hq,e2,f2⟩|⟨s2,e2,f2⟩|⟨s2,q,hq,e2,f2⟩<;> rw[s1,s2,e1,e2,f1,f2]<;> unfold eH <;> simp <;>(repeat' split)<;> first|rfl|omega
theorem rV(a b:Rat)(ha:sm a)(hb:sm b):FS 114 [.agg (qC a),.agg (qC b)] (i64 (fl a b)):=by
 have hs:=sm2 ha hb;have s:=di a;have p:=c7 a;have t:=di b;have r:=c7 b;have i:=Ko a b;have d:sgZ a.num= -1\/sgZ a.num=0\/sgZ a.num=1:=by unfold sgZ;split;simp;split <;> simp
 have e:sgZ b.num= -1\/sgZ b.num=0\/sgZ b.num=1:=by unfold sgZ;split;simp;split <;> simp
 have l:=iT a.num.natAbs b.den;have n:=iT b.num.natAbs a.den;refine f_c Tryz.func114 ?_;refine r_z 3 ?_;refine ae (ae (r_d aT 6 ?_));refine c_s (cJ a) ?_;refine c_s (cJ b) ?_;refine a_2 ?_;refine ao (n_k ?_);obtain⟨x,m⟩:∃x,x=sgZ a.num:=⟨_,rfl⟩;obtain⟨y,o⟩:∃y,y=sgZ b.num:=⟨_,rfl⟩;rw[<-m] at d i⊢;rw[<-o] at e i⊢
 have q:(x- y).tdiv 2= -1\/(x- y).tdiv 2=0\/(x- y).tdiv 2=1:=by
  rcases d with h|h|h <;> rcases e with h'|h'|h' <;> rw[h,h']<;> decide
 refine aC (fun _:Unit=>⟨[(2,.lptr 1 0 0),(3,.lptr 2 0 0)],[(1,some ⟨48,3,[qC a]⟩),(2,some ⟨48,3,[qC b]⟩)],3,42⟩) (fun _=>x=y/\x≠0) ?_ ?_;by_cases c:x=y;refine s_r 7 ?_;refine a_4 ?_;refine y_g rfl (by simp[c]) (.move rfl) ?_;refine y_g rfl (by simp[c]) (.bin rfl rfl bv) ?_;refine o_0 (.pickF rfl (by simp[c]) rfl) ?_;refine ao ?_;refine ap rfl (fun h=>?_) (fun h=>?_);have j:x=0:=by simpa using h
 refine s_r 9 ?_;refine a_6 ?_;refine o_0 (.bin rfl rfl (sA (by decide) (by omega))) ?_;refine a_z ?_;refine aj (aM rfl ?_ (ag _));rw[i,if_pos (.inr j)];rfl;have j:x≠0:=by simpa using h
 refine am ⟨(),⟨c,j⟩,?_⟩;exact s_e [];refine s_r 7 ?_;refine a_4 ?_;refine n_g rfl (by simp[c]) ?_;refine n_g rfl (by simp[c]) ?_;refine o_0 (.pickT rfl (by simp[c]) rfl) ?_;refine ao ?_;refine ap rfl (fun h=>?_) (fun h=>?_);refine s_r 9 ?_;refine a_6 ?_;refine o_0 (.bin rfl rfl (sA (by decide) (by omega))) ?_;refine a_z ?_;refine aj (aM rfl ?_ (ag _));rw[i,if_pos (.inl c)];rfl;cases h;rintro _ ⟨c,j⟩
 have k:eH ((a.num.natAbs* b.den:Nat):Int) ((b.num.natAbs* a.den:Nat):Int)= -1\/eH ((a.num.natAbs* b.den:Nat):Int) ((b.num.natAbs* a.den:Nat):Int)=0\/eH ((a.num.natAbs* b.den:Nat):Int) ((b.num.natAbs* a.den:Nat):Int)=1:=by
  unfold eH;split;simp;split <;> simp
 have g:=cJ a;rw[<-m] at g
 have f: -9223372036854775808<=x* eH ((a.num.natAbs* b.den:Nat):Int) ((b.num.natAbs* a.den:Nat):Int)/\x* eH ((a.num.natAbs* b.den:Nat):Int) ((b.num.natAbs* a.den:Nat):Int)<=9223372036854775807:=by
  rcases d with h|h|h <;> rcases k with h'|h'|h' <;> rw[h,h']<;> decide
 refine ae (r_d aT 17 ?_);refine c_s (g) ?_;refine c_s (eo b (by omega)) ?_;refine c_s (gC a.num.natAbs b.den (by omega)) ?_;refine c_s (eo a (by omega)) ?_;refine c_s (gC b.num.natAbs a.den (by omega)) ?_;refine c_s (oE (a.num.natAbs* b.den) (b.num.natAbs* a.den) (by omega)) ?_;refine o_0 (.bin rfl rfl (wg f)) ?_;refine a_1 ?_;refine ao (n_k ?_);refine aj (aM rfl ?_ (ag _));rw[i,if_neg (by omega)];rfl
theorem rX(a:Rat):FS 75 [.agg (qC a)] (.agg (qC (gi a))):=by
 have b:=aO (gi a);rw[qC_abs] at b⊢;refine f_c Tryz.func75 ?_;refine r_z 2 ?_;refine ae (r_d aT 8 ?_);refine c_s (eQ false a.num.natAbs) ?_;refine a_4 ?_;refine ao (n_k ?_);exact aj (c_e (b))
theorem JG(a:Rat)(ha:sm a):FS 277 [.agg (qC a)] (.agg (qC ((a.den:Int):Rat))):=by
 have b:=pJ (a.den:Int);rw[B9] at b;refine f_c Tryz.func277 ?_;refine r_z 2 ?_;refine r_c 5 (eo a (by unfold sm at ha;omega)) ?_;refine c_s (b) ?_;refine a_z ?_;exact aj (c_e (aO _))
theorem He{z q:Int}{d:Nat}(hd:0< d)(h1:q* d<=z)(h2:z< q* d+d):z/ (d:Int)=q:=by
 have a:(0:Int)< d:=by omega
 have b:q<=z/ (d:Int):=(Int.le_ediv_iff_mul_le a).2 h1;have a2:z/ (d:Int)< q+1:=(Int.ediv_lt_iff_lt_mul a).2 (by rw[Int.add_mul];omega);omega
theorem vx(z:Int)(d:Nat)(hd:0< d):z/ (d:Int)=sgn (decide (z< 0)) (if (decide (z< 0) && !(z.natAbs % d==0))=true then z.natAbs/ d+1 else z.natAbs/ d):=by
 have f:=Nat.div_add_mod z.natAbs d;have c:=Nat.mod_lt z.natAbs hd;generalize e:z.natAbs % d=r at *
 generalize b:z.natAbs/ d=a at *
 have g:((d* a:Nat):Int)=(a:Int) * d:=by rw[Int.natCast_mul,Int.mul_comm]
 refine He hd ?_ ?_ <;> by_cases hz:z< 0 <;> by_cases h0:r=0 <;> simp[sgn,hz,h0,Int.neg_mul,Int.add_mul]<;> omega
theorem GS(z:Int)(d:Nat)(hd:0< d)(h:bl z.natAbs+bl d<=4398046511104):FS 276 [.agg (zI z),.agg [mag d]] (.agg (zI (z/ d))):=by
 rw[vx z d hd];have c:=eX z.natAbs d;have e:=zP (z.natAbs/ d) 1;have f:bl 1=1:=kj;obtain⟨Q,a⟩:∃Q,Q=(if (decide (z< 0) && !(z.natAbs % d==0))=true then z.natAbs/ d+1 else z.natAbs/ d):=⟨_,rfl⟩;rw[<-a];refine f_c Tryz.func276 ?_;refine r_z 3 ?_;refine r_c 11 (tI z.natAbs d h hd) ?_;refine a_z ?_;refine a6 (fun _:Unit=>⟨[(2,.lptr 1 0 0),(4,.lptr 2 0 0),(5,.lptr 3 0 0)],[(1,some ⟨46,2,[zI z]⟩),(2,some ⟨46,2,[[.emp,bln false]]⟩),(3,some ⟨44,1,[[mag Q]]⟩)],4,28⟩) (fun _=>True) ?_ ?_;by_cases hz:z< 0;refine s_r 7 ?_;refine a_3 ?_;refine y_g rfl (by simp[hz]) (.load_l rfl rfl rfl TG.h TS.h (nle rfl)) ?_;refine y_g rfl (by simp[hz]) (.call rfl rfl rfl (j6 (z.natAbs % d))) ?_;refine y_g rfl (by simp[hz]) (.un rfl mJ) ?_;refine o_0 (.pickT rfl (by simp[hz]) rfl) ?_;refine ao ?_;refine ap rfl (fun b=>?_) (fun b=>?_);have:Q=z.natAbs/ d+1:=by rw[a,if_pos];simpa[hz] using b
 rw[this];refine r_d aT 4 ?_;refine c_s (gD 1 (by decide)) ?_;refine c_s (yX (z.natAbs/ d) 1 (by omega)) ?_;refine a_1 ?_;refine ao (n_k ?_);refine⟨(),trivial,?_⟩;exact s_e [(2,4),(3,5)];have:Q=z.natAbs/ d:=by rw[a,if_neg];simpa[hz] using b
 rw[this];refine am ⟨(),trivial,?_⟩;exact s_e [(2,4),(3,5)];refine s_r 7 ?_;refine a_3 ?_;refine n_g rfl (by simp[hz]) ?_;refine n_g rfl (by simp[hz]) ?_;refine n_g rfl (by simp[hz]) ?_;refine o_0 (.pickF rfl (by simp[hz]) rfl) ?_;refine ao ?_;have:Q=z.natAbs/ d:=by rw[a,if_neg];simp[hz]
 rw[this];refine ap rfl (fun h=>?_) (fun h=>am ⟨(),trivial,?_⟩);cases h;exact s_e [(2,4),(3,5)];rintro _ _;refine r_c 5 (eQ (decide (z< 0)) Q) ?_;refine a_z ?_;exact aj (c_e (iP _))
theorem pQ(q:Rat)(h:qs q<=1099511627776):FS 249 [.agg (qC q)] (.agg (qC (q.floor:Rat))):=by
 have a:=di q;have b:=c7 q;rw[Rat.floor_def];refine f_c Tryz.func249 ?_;refine r_z 2 ?_;refine ae (r_d aT 7 ?_);refine c_s (eo q h) ?_;refine c_s (GS q.num q.den q.den_pos (by omega)) ?_;refine c_s (pJ (q.num/ q.den)) ?_;refine a_1 ?_;refine ao (n_k ?_);exact aj (c_e (aO _))
def wa(q:Rat):Rat:= -((-q).floor:Rat)
theorem Fz(q:Rat)(h:qs q<=1099511627776):FS 250 [.agg (qC q)] (.agg (qC (wa q))):=by
 refine f_c Tryz.func250 ?_;refine r_z 2 ?_;refine r_c 5 (kX q) ?_;refine c_s (pQ (-q) (by rw[iB];exact h)) ?_;refine c_s (kX ((-q).floor:Rat)) ?_;refine a_z ?_;exact aj (c_e (aO _))
def wi(k:Int)(m:Nat):Nat:=(max 0 (min k m)).toNat
theorem GF(k:Int)(m:Nat):FS 280 [i64 k,i64 m] (i64 (wi k m)):=by
 refine f_c Tryz.func280 ?_;refine r_z 1 ?_;refine r_z 5 ?_;refine aj (aM rfl ?_ ?_);simp only[i64,wi];congr 2;split <;> split <;> omega;exact ag _
def powS:Nat×Nat×Nat->AState
 |(o,x,m)=>⟨[(1,i64 m),(2,.lptr 1 0 0),(4,.lptr 2 0 0),(5,.lptr 3 0 0)],[(1,some ⟨44,1,[[mag x]]⟩),(2,some ⟨44,1,[[.emp]]⟩),(3,some ⟨44,1,[[mag o]]⟩)],4,23⟩
theorem lX(o:Nat)(x:Nat)(m:Nat):powS (o,x,m)=⟨[(1,i64 m),(2,.lptr 1 0 0),(4,.lptr 2 0 0),(5,.lptr 3 0 0)],[(1,some ⟨44,1,[[mag x]]⟩),(2,some ⟨44,1,[[.emp]]⟩),(3,some ⟨44,1,[[mag o]]⟩)],4,23⟩:=rfl
theorem CV(x m:Nat):x^ m=(x* x) ^ (m/ 2) * (if m % 2=1 then x else 1):=by
 rw[<-Nat.pow_two,<-Nat.pow_mul];have:=Nat.div_add_mod m 2;split
 ·rename_i h;rw[<-Nat.pow_succ];congr 1;omega
 ·rename_i h;rw[Nat.mul_one];congr 1;omega
theorem GQ(a n:Nat)(h:bl a* n<=2199023255552)(hn:n<=1000000):FS 279 [.agg [mag a],i64 n] (.agg [mag (a^ n)]):=by
 refine f_c Tryz.func279 ?_;refine r_z 2 ?_;refine r_c 3 (gD 1 (by decide)) ?_;refine a_z ?_;refine a6 (fun _:Unit=>⟨[(4,.lptr 2 0 0),(5,.lptr 3 0 0)],[(2,some ⟨44,1,[[.emp]]⟩),(3,some ⟨44,1,[[mag (a^ n)]]⟩)],4,23⟩) (fun _=>True) ?_ ?_;refine ah (ax powS (fun x=>x.2.2) (fun x=>x.1* x.2.1^ x.2.2=a^ n/\bl x.1+bl x.2.1* x.2.2<=2199023255553/\x.2.2<=1000000) (1,a,n) ⟨by simp,by have:bl 1=1:=kj;simp only;omega,hn⟩ ?_ ?_);rw[lX];exact s_e [(1,2),(2,4),(3,5)];rintro⟨o,x,m⟩ ⟨hv,hb,C⟩;simp only at hv hb C;rw[lX];refine ae (r_z 2 ?_);refine ap rfl (fun h=>?_) (fun h=>?_);have c:0< m:=by simpa using h
 have y:bl x* 1<=bl x* m:=Nat.mul_le_mul_left _ c;have l:=CV x m;refine am ?_
 have D:(m:Int).tdiv 2=((m/ 2:Nat):Int):=by
  rw[Int.tdiv_eq_ediv_of_nonneg (by omega)];omega
 have w:=Nat.div_add_mod m 2;have A:=Nat.mod_lt m (show 0< 2 by decide);have j:m/ 2< m:=by omega
 have p:=iT x x;have u:=iT o x;have B:bl x* m=bl x* (2* (m/ 2))+bl x* (m % 2):=by rw[<-Nat.mul_add];congr 1;omega
 have t:bl (x* x) * (m/ 2)<=bl x* (2* (m/ 2)):=by
  have:=Nat.mul_le_mul_right (m/ 2) p;rw[<-Nat.two_mul,Nat.mul_comm 2,Nat.mul_assoc] at this;exact this
 have E:(m:Int) % 2=((m % 2:Nat):Int):=by omega
 have e:(m:Int) / 2=((m/ 2:Nat):Int):=by omega
 refine ae (ah (a6 (fun d:Nat=>powS (d,x,m)) (fun d=>d=o* (if m % 2=1 then x else 1)) ?_ ?_));refine r_z 3 ?_;refine ap rfl (fun f=>?_) (fun f=>?_);have g:m % 2=1:=by simp at f;omega
 refine r_m 4 ?_;refine c_s (gC o x (by omega)) ?_;refine a_z ?_;refine⟨o* x,by rw[if_pos g],?_⟩;simp only[lX];exact s_e [];have k:¬m % 2=1:=by simp at f;omega
 refine am ⟨o,by rw[if_neg k,Nat.mul_one],?_⟩;simp only[lX];exact s_e [];rintro d i;rw[lX]
 have s:bl d<=bl o+bl x* (m % 2):=by
  rw[i];split
  ·rename_i f;rw[f];omega
  rw[Nat.mul_one];omega
 have b:d* (x* x) ^ (m/ 2)=a^ n:=by
  rw[<-hv,l,i,Nat.mul_assoc,Nat.mul_comm (if m % 2=1 then x else 1)]
 refine r_z 2 ?_;refine ap rfl (fun r=>?_) (fun r=>?_);refine r_m 4 ?_;refine c_s (gC x x (by omega)) ?_;refine a_z ?_;refine r_m 3 ?_;refine a_z ?_;refine⟨(d,x* x,m/ 2),j,⟨b,by simp only;omega,by simp only;omega⟩,?_⟩;rw[lX];have:=(congrArg (fun z=>AV.v (.int .i64 z)) e);exact s_f [];have q:m/ 2=0:=by simp at r;omega
 refine am (r_m 3 ?_);refine a_z ?_;rw[q] at b e;refine⟨(d,x,0),c,⟨by simpa using b,by simp only;omega,by simp only;omega⟩,?_⟩;rw[lX];have:=(congrArg (fun z=>AV.v (.int .i64 z)) e);exact s_f [];have c:m=0:=by simp at h;omega
 subst c;refine aw ⟨(),trivial,?_⟩;have b:o=a^ n:=by simpa using hv
 rw[b];exact s_e [];rintro _ _;refine r_z 2 ?_;exact aj (c_e (closed_mA _))
theorem Js(k:Int):FS 256 [i64 k] (.agg [mag (2^ wi k 256)]):=by
 have b:wi k 256<=256:=by unfold wi;omega
 have a:bl 2=2:=by decide
 refine f_c Tryz.func256 ?_;refine r_z 1 ?_;refine r_c 5 (gD 2 (by decide)) ?_;refine c_s (GF k 256) ?_;refine c_s (GQ 2 (wi k 256) (by rw[a];omega) (by omega)) ?_;refine a_z ?_;exact aj (c_e (closed_mA _))
theorem D4(k:Nat):bl (2^ k)<=k+1:=iq (by rw[Nat.pow_succ];have:=Nat.pow_pos (n:=k) (show 0< 2 by decide);omega)
theorem pY(k:Int):FS 214 [i64 k] (.agg (qC (gF (wi k 256)))):=by
 have b:wi k 256<=256:=by unfold wi;omega
 have hb:=D4 (wi k 256);have a:bl (1:Int).natAbs=1:=kj;refine f_c Tryz.func214 ?_;refine r_z 1 ?_;refine r_c 5 (Bf 1 (by decide)) ?_;refine c_s (Js k) ?_;refine c_s (pL 1 (2^ wi k 256) (Nat.pow_pos (by decide)) (by omega)) ?_;refine a_z ?_;exact aj (c_e (aO _))
def oi(k:Nat):Rat:=((2^ k:Nat):Int)
theorem yx(k:Nat):qs (oi k)<=k+1:=by
 have a:(oi k).num=((2^ k:Nat):Int):=rfl;have b:(oi k).den=1:=rfl;unfold qs;rw[a,b,Int.natAbs_natCast,kj];have:=D4 k;omega
theorem Ay(k:Nat):qs (gF k)<=k+1:=by
 have a:bl (1:Int).natAbs=1:=kj;exact fF (Nat.pow_pos (by decide)) (by omega) (D4 k)
theorem xh(a:Rat)(k:Int)(h:qs a<=549755813000):FS 248 [.agg (qC a),i64 k] (.agg (qC (a* oi (wi k 256)))):=by
 have c:wi k 256<=256:=by unfold wi;omega
 have d:=yx (wi k 256);have b:=pJ ((2^ wi k 256:Nat):Int);rw[B9] at b;refine f_c Tryz.func248 ?_;refine r_z 2 ?_;refine ae (r_d aT 7 ?_);refine c_s (Js k) ?_;refine c_s (b) ?_;refine c_s (da a (oi (wi k 256)) (by omega)) ?_;refine a_1 ?_;refine ao (n_k ?_);exact aj (c_e (aO _))
def j9(a:Rat)(k:Nat):Rat:=((a* oi k).floor:Rat) * gF k
def upQ(a:Rat)(k:Nat):Rat:=wa (a* oi k) * gF k
theorem Ax(a:Rat):qs (a.floor:Rat)<=qs a+1:=by
 rw[Rat.floor_def];have d:=di a;have e1:((a.num/ (a.den:Int):Int):Rat).num=a.num/ a.den:=rfl;have e2:((a.num/ (a.den:Int):Int):Rat).den=1:=rfl;have g:1<=bl a.den:=Kr a.den_pos;have c:=c7 a;unfold qs at *
 rw[e1,e2,kj,vx _ _ a.den_pos,fE];have f:=eX a.num.natAbs a.den;have b:=zP (a.num.natAbs/ a.den) 1;have e:bl 1=1:=kj;split <;> omega
theorem IE(a:Rat):qs (wa a)<=qs a+1:=by
 unfold wa;rw[iB];have:=Ax (-a);rwa[iB] at this
theorem FB(a:Rat)(k:Int)(h:sm a):FS 205 [.agg (qC a),i64 k] (.agg (qC (j9 a (wi k 256)))):=by
 unfold sm at h;have b:wi k 256<=256:=by unfold wi;omega
 have c:=yx (wi k 256);have f:=dS a (oi (wi k 256));have d:=Ax (a* oi (wi k 256));have e:=Ay (wi k 256);refine f_c Tryz.func205 ?_;refine r_z 2 ?_;refine r_c 8 (xh a k (by omega)) ?_;refine c_s (pQ (a* oi (wi k 256)) (by omega)) ?_;refine c_s (pY k) ?_;refine c_s (da ((a* oi (wi k 256)).floor:Rat) (gF (wi k 256)) (by omega)) ?_;refine a_z ?_;exact aj (c_e (aO _))
theorem fs_Up(a:Rat)(k:Int)(h:sm a):FS 206 [.agg (qC a),i64 k] (.agg (qC (upQ a (wi k 256)))):=by
 unfold sm at h;have b:wi k 256<=256:=by unfold wi;omega
 have c:=yx (wi k 256);have f:=dS a (oi (wi k 256));have d:=IE (a* oi (wi k 256));have e:=Ay (wi k 256);refine f_c Tryz.func206 ?_;refine r_z 2 ?_;refine r_c 8 (xh a k (by omega)) ?_;refine c_s (Fz (a* oi (wi k 256)) (by omega)) ?_;refine c_s (pY k) ?_;refine c_s (da (wa (a* oi (wi k 256))) (gF (wi k 256)) (by omega)) ?_;refine a_z ?_;exact aj (c_e (aO _))
theorem Br(a:Rat)(k:Int)(h:sm a):FS 170 [.agg (qC a),i64 k] (.agg (spC (j9 a (wi k 256)) (upQ a (wi k 256)))):=by
 refine f_c Tryz.func170 ?_;refine r_z 2 ?_;refine ae (r_d aT 8 ?_);refine c_s (FB a k h) ?_;refine c_s (fs_Up a k h) ?_;refine a_2 ?_;refine ao (n_k ?_);exact aj (c_e (bD _ _))
theorem Bt(a:Rat):FS 219 [.agg (qC a)] (.agg (spC a a)):=by
 refine f_c Tryz.func219 ?_;refine r_z 2 ?_;refine r_z 4 ?_;exact aj (c_e (bD _ _))
theorem lA(a b:Rat)(ha:sm a)(hb:sm b):FS 124 [.agg (spC a b)] (bln (decide (fl a b<=0))):=by
 refine f_c Tryz.func124 ?_;refine r_z 2 ?_;refine r_c 7 (rV a b ha hb) ?_;refine a_z ?_;exact aj (t_e (ag _))
theorem fs_SAdd(a b c d:Rat)(ha:sm a)(hb:sm b)(hc:sm c)(hd:sm d):FS 264 [.agg (spC a b),.agg (spC c d)] (.agg (spC (a+c) (b+d))):=by
 refine f_c Tryz.func264 ?_;refine r_z 3 ?_;refine ae (r_d aT 12 ?_);refine c_s (fM a c (sm2 ha hc)) ?_;refine c_s (fM b d (sm2 hb hd)) ?_;refine a_2 ?_;refine ao (n_k ?_);exact aj (c_e (bD _ _))
theorem DA(a b:Rat)(ha:sm a)(hb:sm b):FS 259 [.agg (spC a b)] (.agg (qC ((a+b) * gF 1))):=by
 have c:qs (a+b)<=274877906945:=by have:=kQ a b;unfold sm at ha hb;omega
 have d:qs (gF 1)<=2:=by decide
 refine f_c Tryz.func259 ?_;refine r_z 2 ?_;refine r_c 8 (fM a b (sm2 ha hb)) ?_;refine c_s (pY 1) ?_;refine c_s (da (a+b) (gF 1) (by omega)) ?_;refine a_z ?_;exact aj (c_e (aO _))
theorem xo(a b:Rat)(ha:sm a)(hb:sm b):FS 76 [.agg (spC a b)] (.agg (qC (b- a))):=by
 refine f_c Tryz.func76 ?_;refine r_z 2 ?_;refine r_c 6 (l8 b a (sm2 hb ha)) ?_;refine a_z ?_;exact aj (c_e (aO _))
theorem fs_Min1(c:Int):FS 251 [i64 c] (bln (decide (c< 0))):=by
 refine f_c Tryz.func251 ?_;refine r_z 1 ?_;refine r_z 3 ?_;exact aj (t_e (ag _))
theorem fs_Max1(c:Int):FS 221 [i64 c] (bln (decide (0< c))):=by
 refine f_c Tryz.func221 ?_;refine r_z 1 ?_;refine r_z 3 ?_;exact aj (t_e (ag _))
def zL(g:Nat)(l:Lq):Nat×La->AState
 |(i,o)=>⟨[(0,.clos g [] []),(4,.lptr 1 0 0),(5,.lptr 2 0 0),(8,.arr (pE l)),(9,i64 l.length),(10,i64 i)],[(1,some ⟨48,3,[zC]⟩),(2,some ⟨48,3,[o]⟩)],3,27⟩
theorem xk(g:Nat)(bf:Int->Bool)(hg:∀c,FS g [i64 c] (bln (bf c)))(l:Lq)(hl:smL l)(hln:l.length<=1099511627776):FS 220 [.clos g [] [],.arr (pE l)] (.agg (qC (ee bf l))):=by
 refine f_n Tryz.func220 ?_ ?_;exact ac (aQ af af) (ac (az l) af);refine r_z 1 ?_;refine r_z 1 ?_;refine ae (r_z 3 ?_);refine aC (fun _:Unit=>⟨[(4,.lptr 1 0 0),(5,.lptr 2 0 0)],[(1,some ⟨48,3,[zC]⟩),(2,some ⟨48,3,[qC (ee bf l)]⟩)],3,27⟩) (fun _=>True) ?_ ?_;refine ah (ax (fun x:Nat×La=>zL g l x) (fun x=>l.length- x.1) (fun x=>x.1<=l.length/\((x.1=0->x.2=zC)/\(x.1≠0->x.2=qC (ee bf (l.take x.1))))) (0,zC) ⟨Nat.zero_le _,fun _=>rfl,fun h=>absurd rfl h⟩ ?_ ?_);simp only[zL.eq_1];exact s_e [(1,4),(2,5)];rintro⟨i,o⟩ ⟨v,b,r⟩;simp only at v b r;simp only[zL.eq_1];refine r_z 1 ?_;refine ae (ap rfl (fun h=>?_) (fun h=>?_));refine am ?_;have k:i< l.length:=by simpa using h
 obtain⟨q,d⟩:∃q,l[i]?=some q:=⟨_,List.getElem?_eq_getElem k⟩;have e:(pE l)[((i:Nat):Int).toNat]?=some (qC q):=dT d;have j:sm q:=hl q (List.mem_of_getElem? d);have n:sm (ee bf (l.take i)):=oR fun q d=>hl q (List.mem_of_mem_take d);have a:=zM bf (l.take i) q;rw[<-cm d] at a;refine ae (ah (s_r 6 ?_));refine a_1 ?_;refine i_x e ?_;refine l_x e ?_;refine a_z ?_;refine AWp.cutB (fun _:Unit=>zL g l (i,qC (ee bf (l.take (i+1))))) (fun _=>True) ?_ ?_;by_cases h0:i=0;subst h0;have:=b rfl;subst this;rw[if_pos (.inl (by simp))] at a;refine s_r 9 ?_;refine a_3 ?_;refine n_g rfl d_t ?_;refine n_g rfl d_t ?_;refine n_g rfl d_t ?_;refine n_g rfl d_t ?_;refine n_g rfl d_t ?_;refine o_0 (.pickT rfl d_t rfl) ?_;refine ao ?_;refine ap rfl (fun h=>?_) (fun h=>?_);refine r_m 2 ?_;refine a_z ?_;refine⟨(),trivial,?_⟩;simp only[zL.eq_1];rw[a];exact s_e [];cases h;have s:o=qC (ee bf (l.take i)):=r h0;subst s
 have m:l.take i≠[]:=fun h=>by
  have:=congrArg List.length h;rw[List.length_take,List.length_nil] at this;omega
 refine s_r 9 ?_;refine a_3 ?_;refine y_g rfl (by simp;omega) (.move rfl) ?_;refine y_g rfl (by simp;omega) (.load_l rfl rfl rfl TG.h TS.h (nle rfl)) ?_;refine y_g rfl (by simp;omega) (.load_l rfl rfl rfl TG.h TS.h (nle rfl)) ?_;refine y_g rfl (by simp;omega) (.call rfl rfl rfl (rV q (ee bf (l.take i)) j n)) ?_;refine y_g rfl (by simp;omega) (.call rfl rfl rfl (hg (fl q (ee bf (l.take i))))) ?_;refine o_0 (.pickF rfl (by simp;omega) rfl) ?_;refine ao ?_;refine ap rfl (fun p=>?_) (fun p=>?_);refine r_m 2 ?_;refine a_z ?_;refine⟨(),trivial,?_⟩;simp only[zL.eq_1];rw[a,if_pos (.inr p)];exact s_e [];refine am ⟨(),trivial,?_⟩;simp only[zL.eq_1];rw[a,if_neg (fun u=>u.elim m fun t=>by rw[p] at t;cases t)];exact s_e [];rintro _ _;rw[zL.eq_1];refine r_m 2 ?_;refine a_z ?_;refine⟨(i+1,qC (ee bf (l.take (i+1)))),by simp only;omega,⟨by simp only;omega,fun h=>absurd h (by simp),fun _=>rfl⟩,?_⟩;simp only[zL.eq_1];exact s_e [];have f:i=l.length:=by simp at h;omega
 refine aw ⟨(),trivial,?_⟩;subst f;by_cases h0:l.length=0;have:=b h0;subst this
 have:ee bf l=0:=by
  rw[List.length_eq_zero_iff] at h0;rw[h0];rfl
 rw[this,qC0];exact s_e [];have:=r h0;subst this;rw[List.take_length];exact s_e [];rintro _ _;refine r_z 2 ?_;exact aj (c_e (aO _))
theorem JO(l:Lq)(hl:smL l)(hln:l.length<=1099511627776):FS 207 [.arr (pE l)] (.agg (qC (C1 l))):=by
 refine f_c Tryz.func207 ?_;refine r_z 1 ?_;refine r_c 3 (xk 251 _ fs_Min1 l hl hln) ?_;refine a_z ?_;exact aj (c_e (aO _))
theorem y3(l:Lq)(hl:smL l)(hln:l.length<=1099511627776):FS 178 [.arr (pE l)] (.agg (qC (oz l))):=by
 refine f_c Tryz.func178 ?_;refine r_z 1 ?_;refine r_c 3 (xk 221 _ fs_Max1 l hl hln) ?_;refine a_z ?_;exact aj (c_e (aO _))
theorem yc{a b:Rat}(ha:sm a)(hb:sm b):smL [a,b]:=by
 intro q c;simp at c;rcases c with rfl|rfl
 exact ha;exact hb
theorem Bo(a b c d:Rat)(ha:sm a)(hb:sm b)(hc:sm c)(hd:sm d):FS 171 [.agg (spC a b),.agg (spC c d)] (.agg (spC (C1 [a,c]) (oz [b,d]))):=by
 refine f_c Tryz.func171 ?_;refine r_z 3 ?_;refine ae (r_d aT 14 ?_);refine a_5 ?_;refine o_1 (.callS1 rfl rfl rfl (.shut rfl d_n (.nil)) rfl (JO [a,c] (yc ha hc) (by simp))) ?_;refine a_5 ?_;refine o_1 (.callS1 rfl rfl rfl (.shut rfl d_n (.nil)) rfl (y3 [b,d] (yc hb hd) (by simp))) ?_;refine a_2 ?_;refine ao (n_k ?_);exact aj (c_e (bD _ _))
theorem Di(l:Lq)(hl:smL l)(hln:l.length<=1099511627776):FS 288 [.arr (pE l)] (.agg (spC (C1 l) (oz l))):=by
 refine f_c Tryz.func288 ?_;refine r_z 1 ?_;refine r_c 6 (JO l hl hln) ?_;refine c_s (y3 l hl hln) ?_;refine a_z ?_;exact aj (c_e (bD _ _))
theorem fs_ends (g:Nat) (op:Rat->Rat->Rat) (a b c d:Rat) (h1:FS g [.agg (qC a),.agg (qC c)] (.agg (qC (op a c)))) (h2:FS g [.agg (qC a),.agg (qC d)] (.agg (qC (op a d)))) (h3:FS g [.agg (qC b),.agg (qC c)] (.agg (qC (op b c)))) (h4:FS g [.agg (qC b),.agg (qC d)] (.agg (qC (op b d))))
    (hs:smL [op a c,op a d,op b c,op b d]):FS 282 [.clos g [] [],.agg (spC a b),.agg (spC c d)] (.agg (spC (C1 [op a c,op a d,op b c,op b d]) (oz [op a c,op a d,op b c,op b d]))):=by
 refine f_n Tryz.func282 ?_ ?_;exact ac (aQ af af) (ac (bD a b) (ac (bD c d) af));refine r_z 3 ?_;refine ae (r_d aT 27 ?_);refine c_s (h1) ?_;refine c_s (h2) ?_;refine c_s (h3) ?_;refine c_s (h4) ?_;refine a_1 ?_;refine o_1 (.callS1 rfl rfl rfl (.shut rfl d_n (.nil)) rfl (Di [op a c,op a d,op b c,op b d] hs (by simp))) ?_;refine a_1 ?_;refine ao (n_k ?_);exact aj (c_e (bD _ _))
theorem fs_SMul(a b c d:Rat)(ha:sm a)(hb:sm b)(hc:sm c)(hd:sm d)(hs:smL [a* c,a* d,b* c,b* d]):FS 263 [.agg (spC a b),.agg (spC c d)] (.agg (spC (C1 [a* c,a* d,b* c,b* d]) (oz [a* c,a* d,b* c,b* d]))):=by
 refine f_c Tryz.func263 ?_;refine r_z 3 ?_;refine r_c 4 (fs_ends 34 (fun x y=>x* y) a b c d (da a c (sm2 ha hc)) (da a d (sm2 ha hd)) (da b c (sm2 hb hc)) (da b d (sm2 hb hd)) hs) ?_;refine a_z ?_;exact aj (c_e (bD _ _))
theorem qs_int(n:Int):qs (n:Rat)<=max (bl n.natAbs) 1:=by
 have e1:(n:Rat).num=n:=rfl;have e2:(n:Rat).den=1:=rfl;unfold qs;rw[e1,e2,kj];exact Nat.le_refl _
theorem ID{n:Int}(h: -9223372036854775808<=n/\n<=9223372036854775807):qs (n:Rat)<=64:=by
 have a:=qs_int n;have b:bl n.natAbs<=64:=iq (Nat.lt_of_le_of_lt (show n.natAbs<=9223372036854775808 by omega) (by decide));omega
theorem fs_Of(n d:Int)(hn: -9223372036854775808<=n/\n<=9223372036854775807)(hd: -9223372036854775808<=d/\d<=9223372036854775807)(h0:d≠0):FS 28 [i64 n,i64 d] (.tup [.agg (qC ((n:Rat) / (d:Rat))),i64 0]):=by
 have b:=ID hn;have c:=ID hd
 have a:(d:Rat)≠0:=by
  intro h;have:(d:Rat).num=0:=by rw[h];rfl
  exact h0 this
 refine f_c Tryz.func28 ?_;refine r_z 2 ?_;refine r_c 9 (ei n hn) ?_;refine c_s (ei d hd) ?_;refine c_s (Dw (n:Rat) (d:Rat) a (by omega)) ?_;refine a_z ?_;refine aj (Fin.many ⟨_,_,rfl,⟨_,_,_,_,_,rfl,rfl,rfl,.inl ⟨TG.h,_,TS.h,nle rfl,rfl⟩⟩,⟨_,_,rfl,rfl,rfl⟩⟩ (nle rfl) ?_);exact ak (ai aB (aO _)) (ak (ai aB (ag _)) aq)
theorem JU(l:Lq)(hl:l.length<=1099511627776):FS 139 [.arr (pE l)] (.arr (pE l)):=by
 cases l with
 |nil=>
  refine FSpec.nil1 fun a c=>?_;refine f_c Tryz.func139 ?_;refine r_z 1 ?_;refine ae (r_z 2 ?_);refine ap rfl (fun h=>?_) (fun h=>?_);refine r_z 1 ?_;exact aj (Fin.tmpN rfl)
  ·refine am (s_r 4 ?_)
   refine a_2 ?_;refine o_2 (.append_l rfl rfl rfl te_35.h rfl rfl rfl rfl rfl d_o (by first|exact eT _|exact eP _|exact dZ _|exact eW _|exact eg _|assumption|rfl|simp) (by first|rfl|exact eT _|exact eP _|exact dZ _|exact eW _|exact eg _|simp) rfl (.vnil) TZ.h rfl TB.h d_o (by first|(simp[maxLen];done)|(simp[maxLen];omega))) ?_;refine a_z ?_;exact aj (Fin.tmpS rfl rfl rfl rfl (aP []))
 |cons q l=>
  have b:pE (q::l)≠[]:=by simp[pE]
  simp at hl;refine f_c Tryz.func139 ?_;refine r_z 1 ?_;refine ae (s_r 2 ?_);refine a_1 ?_;refine bF (.nilq_arr rfl (b) rfl te_35.h) rfl rfl ?_;refine ao ?_;refine cF ?_
  ·refine am (s_r 4 ?_)
   refine a_2 ?_;refine o_2 (.append_l rfl rfl rfl te_35.h rfl rfl rfl rfl rfl d_o (by first|exact eT _|exact eP _|exact dZ _|exact eW _|exact eg _|assumption|rfl|simp) (by first|rfl|exact eT _|exact eP _|exact dZ _|exact eW _|exact eg _|simp) rfl (.arr (lY _)) TZ.h rfl TB.h d_o (by first|(simp[maxLen];done)|(simp[maxLen];omega))) ?_;refine a_z ?_;exact aj (Fin.tmpS rfl rfl rfl (by simp) (aP _))
def trS(l:Lq):Nat->AState
 |n=>⟨[(0,.arr (pE l)),(3,i64 n)],[],1,23⟩
theorem dq(l:Lq)(hl:l.length<=1099511627776):FS 82 [.arr (pE l)] (.arr (pE (ar l))):=by
 refine f_c Tryz.func82 ?_;refine r_z 1 ?_;refine r_z 3 ?_;refine a6 (trS l) (fun n=>n<=l.length/\ar l=l.take n) ?_ ?_;refine ah (ax (trS l) (fun n=>n) (fun n=>n<=l.length/\ar l=ar (l.take n)) l.length ⟨Nat.le_refl _,by rw[List.take_length]⟩ ?_ ?_);simp only[trS.eq_1];exact s_e [];rintro n ⟨i,a⟩;rw[trS.eq_1];cases n with
 |zero=>
  refine ae (s_r 11 ?_);refine a_3 ?_;refine n_g rfl (by simp) ?_;refine n_g rfl (by simp) ?_;refine n_g rfl (by simp) ?_;refine n_g rfl (by simp) ?_;refine n_g rfl (by simp) ?_;refine n_g rfl (by simp) ?_;refine n_g rfl (by simp) ?_;refine o_0 (.pickF rfl (by simp) rfl) ?_;refine ao ?_;refine cF ?_;refine aw ⟨0,⟨Nat.zero_le _,?_⟩,?_⟩;rw[a];rfl;simp only[trS.eq_1];exact s_e []
 |succ n=>
  obtain⟨q,g⟩:∃q,l[n]?=some q:=⟨_,List.getElem?_eq_getElem (by omega)⟩
  have b:(pE l)[(((n+1:Nat):Int)- 1).toNat]?=some (qC q):=by
   rw[show(((n+1:Nat):Int)- 1).toNat=n by omega];exact dT g
  have hs:ar (l.take (n+1))=if q=0 then ar (l.take n) else l.take (n+1):=by
   rw[cm g,lS]
  refine ae (s_r 11 ?_);refine a_3 ?_;refine y_g rfl (by simp <;> omega) (.move rfl) ?_;refine y_g rfl (by simp <;> omega) (.move rfl) ?_;refine y_g rfl (by simp <;> omega) (.bin rfl rfl (ny (by omega))) ?_;refine y_g rfl (by simp <;> omega) (.index_a rfl rfl (by omega) b rfl te_35.h) ?_;refine y_g rfl (by simp <;> omega) (.load_a rfl b TG.h TS.h (nle rfl)) ?_;refine y_g rfl (by simp <;> omega) (.call rfl rfl rfl (cJ q)) ?_;refine y_g rfl (by simp <;> omega) (.bin rfl rfl bv) ?_;refine o_0 (.pickT rfl (by simp <;> omega) rfl) ?_;refine ao ?_;refine ap rfl (fun h=>?_) (fun h=>?_)
  have f:q=0:=by
   have c:sgZ q.num=0:=by simpa using h
   exact sgZ_num_eq.1 c
  refine am (ah (r_m 3 ?_));refine a_z ?_;refine⟨n,Nat.lt_succ_self n,⟨by omega,?_⟩,?_⟩;rw[a,hs,if_pos f];simp only[trS.eq_1];exact s_e []
  have f:q≠0:=by
   intro e;have c:¬sgZ q.num=0:=by simpa using h
   exact c (sgZ_num_eq.2 e)
  refine aw ⟨n+1,⟨i,?_⟩,?_⟩;rw[a,hs,if_neg f];simp only[trS.eq_1];exact s_e []
 rintro n ⟨i,a⟩;rw[trS.eq_1];have d:=JU (l.take n) (by simp;omega);refine s_r 5 ?_;refine a_2 ?_;refine o_0 (.sa_h rfl rfl (h:=n) rfl (by simp;omega) te_35.h (lY _)) ?_;refine o_0 (.call rfl rfl rfl ((by rw[tz];exact d))) ?_;refine o_0 (.assign rfl) ?_;refine ao ?_;refine aj (aM rfl ?_ ?_);rw[a];exact aG (aP _)
theorem dc(l:Lq)(hl:l.length<=1099511627776):FS 97 [.arr (pE l)] (i64 (a8 l)):=by
 have:=bw l;refine f_c Tryz.func97 ?_;refine r_z 1 ?_;refine r_c 5 (dq l hl) ?_;refine a_z ?_;exact aj (t_e (ag _))
theorem pX(l:Lq)(hl:l.length<=1099511627776):FS 153 [.arr (pE l)] (.agg (qC (ba l))):=by
 have c:=bw l;refine f_c Tryz.func153 ?_;refine r_z 1 ?_;refine r_c 3 (dq l hl) ?_;refine a_z ?_;refine ae (r_z 3 ?_);refine ap rfl (fun h=>?_) (fun h=>?_)
 have e:ar l=[]:=by
  have a:(ar l).length=0:=by simpa using h
  exact List.length_eq_zero_iff.1 a
 rw[rJ e];refine r_z 2 ?_;refine aj (Fin.cell rfl rfl rfl TG.h TS.h (nle rfl) (Cv.agg ?_));rw[qC0];exact ak (Cv.emp _) (ak (ai aB (ag _)) (ak (Cv.emp _) aq))
 obtain⟨n,d⟩:∃n,(ar l).length=n+1:=⟨(ar l).length- 1,by
  have a:¬(ar l).length=0:=by simpa using h
  omega⟩
 have b:(pE (ar l))[(((ar l).length:Int)- 1).toNat]?=some (qC (ba l)):=by
  rw[d,show(((n+1:Nat):Int)- 1).toNat=n by omega];exact dT (fo d)
 refine am (s_r 7 ?_);refine a_4 ?_;refine i_x b ?_;refine l_x b ?_;refine a_z ?_;exact aj (c_e (aO _))
theorem fs_at(l:Lq)(i:Nat):FS 108 [.arr (pE l),i64 i] (.agg (qC (coP l i))):=by
 refine f_c Tryz.func108 ?_;refine r_z 1 ?_;refine ae (r_z 4 ?_);refine ap rfl (fun h=>?_) (fun h=>?_);have b:i< l.length:=by simpa using h
 have c:(pE l)[((i:Nat):Int).toNat]?=some (qC (coP l i)):=dT (ci b);refine s_r 5 ?_;refine a_2 ?_;refine i_x c ?_;refine l_x c ?_;refine a_z ?_;exact aj (c_e (aO _));have a:l.length<=i:=by simpa using h
 rw[eJ a];refine am (r_z 2 ?_);refine aj (Fin.cell rfl rfl rfl TG.h TS.h (nle rfl) (Cv.agg ?_));rw[qC0];exact ak (Cv.emp _) (ak (ai aB (ag _)) (ak (Cv.emp _) aq))
theorem eE_set{n i e:Nat}{f:Nat->Rat}(h:i< n)(he:e=i):(pE (aJ i f)++List.replicate (n- i) zC).set e (qC (f i))=pE (aJ (i+1) f)++List.replicate (n- (i+1)) zC:=by
 subst he;obtain⟨k,rfl⟩:∃k,n=e+1+k:=⟨n- (e+1),by omega⟩;rw[show e+1+k- e=k+1 by omega,show e+1+k- (e+1)=k by omega,List.replicate_succ,List.set_append_right _ _ (by simp)];simp[aJ,List.range_succ,pE]
theorem eE_get{n i e:Nat}{f:Nat->Rat}(h:i< n)(he:e=i):(pE (aJ i f)++List.replicate (n- i) zC)[e]?=some zC:=by
 subst he;rw[List.getElem?_append_right (by simp),List.getElem?_replicate,if_pos (by simp;omega)]
theorem sv(n i:Nat)(f:Nat->Rat):∀e∈pE (aJ i f)++List.replicate (n- i) zC,∀c∈e,Closed c:=by
 intro e a;rcases List.mem_append.1 a with a|a
 exact aP _ e a;rw[List.eq_of_mem_replicate a];exact n6
def J7(n:Nat)(f:Nat->Rat)(g:Nat)(cap:La):Nat->AState
 |i=>⟨[(1,.clos g [] cap),(5,.lsl 1 0 n (some n) 3),(10,i64 n),(11,i64 i)],[(1,some ⟨48,3,pE (aJ i f)++List.replicate (n- i) zC⟩)],2,23⟩
theorem tK(n:Nat)(f:Nat->Rat)(g:Nat)(cap:La)(hn:n<=1099511627776)(hcap:∀c∈cap,Closed c)(hg:∀i,i< n->FS g ((i64 i::cap).map coe) (.agg (qC (f i)))):FS 106 [i64 n,.clos g [] cap] (.arr (pE (ar (aJ n f)))):=by
 refine f_n Tryz.func106 ?_ ?_;exact ac (ag _) (ac (aQ af hcap) af);refine r_z 1 ?_;refine r_z 3 ?_;refine ae (r_z 3 ?_);refine aC (fun _:Unit=>J7 n f g cap n) (fun _=>True) ?_ ?_;refine ah (ax (J7 n f g cap) (fun i=>n- i) (fun i=>i<=n) 0 (Nat.zero_le _) ?_ ?_);simp only[J7.eq_1];refine s_x [(1,5)] (fun hs=>e_6) (fun hs=>?_)
 ·repeat' (first|exact aA|refine h_c ?_ ?_|exact aF hs rfl (sv n 0 f)|exact br|refine ay ?_|exact aq|refine ak ?_ ?_|exact ai hs (aQ af hcap)|exact aS)
 rintro i e;rw[J7.eq_1];refine r_z 1 ?_;refine ae (ap rfl (fun h=>?_) (fun h=>?_));refine am ?_;have a:i< n:=by simpa using h
 refine ae (ah (r_z 2 ?_));refine r_m 7 ?_;refine c_s (hg i a) ?_;refine a_1 ?_;refine dB (.store rfl rfl (eE_get a (Nat.zero_add i)) rfl rfl rfl TS.h (nle rfl)) ?_;refine ao ?_;refine r_m 2 ?_;refine a_z ?_;refine⟨i+1,by omega,a,?_⟩;simp only[J7.eq_1];refine s_x [] (fun hs=>e_6) (fun hs=>?_)
 ·repeat' (first|exact aA|refine h_c ?_ ?_|exact aF hs (eE_set a (Nat.zero_add i)) (sv n (i+1) f)|exact br|refine ay ?_|exact aq|refine ak ?_ ?_|exact ai hs (aQ af hcap)|exact aS)
 have d:i=n:=by
  have:¬i< n:=by simpa using h
  omega
 subst d;refine aw ⟨(),trivial,?_⟩;simp only[J7.eq_1];refine s_x [] (fun hs=>e_6) (fun hs=>?_)
 ·repeat' (first|exact aA|refine h_c ?_ ?_|exact aV hs (sv i i f)|exact br|refine ay ?_|exact aq|refine ak ?_ ?_|exact ai hs (aQ af hcap)|exact aS)
 rintro _ _;rw[J7.eq_1]
 have b:List.take n (List.drop 0 (pE (aJ n f)++List.replicate (n- n) zC))=pE (aJ n f):=by
  rw[Nat.sub_self,List.replicate_zero,List.append_nil,List.drop_zero,List.take_of_length_le (by simp)]
 refine s_r 3 ?_;refine a_1 ?_;refine o_1 (.callS1 rfl rfl rfl (.shut rfl d_n (.nil)) rfl ((by rw[b];exact dq (aJ n f) (by simp;exact hn)))) ?_;refine a_z ?_;exact aj (t_e (aG (aP _)))
abbrev bP(p:Lq):AV:= .aptr [[.arr (pE p)]] 0 0
abbrev bQ(q:Rat):AV:= .aptr [qC q] 0 0
theorem cP(p:Lq):Closed (bP p):=aU (ac (az p) af)
theorem cD(q:Rat):Closed (bQ q):=aU (bi q)
theorem fs_Add1(p q:Lq)(i:Nat)(hp:smL p)(hq:smL q):FS 107 [i64 i,bP p,bP q] (.agg (qC (coP p i+coP q i))):=by
 refine f_c Tryz.func107 ?_;refine r_z 1 ?_;refine ae (r_d aT 8 ?_);refine c_s (fs_at p i) ?_;refine c_s (fs_at q i) ?_;refine c_s (fM (coP p i) (coP q i) (sm2 (nv hp i) (nv hq i))) ?_;refine a_1 ?_;refine ao (n_k ?_);exact aj (c_e (aO _))
theorem ma(p q:Lq)(hp:smL p)(hq:smL q)(hp1:p.length<=1099511627776)(hq1:q.length<=1099511627776):FS 42 [.arr (pE p),.arr (pE q)] (.arr (pE (fy p q))):=by
 refine f_c Tryz.func42 ?_;refine r_z 3 ?_;refine AWp.ent (st':=⟨[(2,bP p),(3,bP q)],[],1,12⟩) ?_ ?_;exact s_e []
 have b:(if ((q.length:Nat):Int)>(p.length:Nat) then((q.length:Nat):Int) else(p.length:Nat))=((max p.length q.length:Nat):Int):=by
  rw[Nat.max_def];split <;> split <;> omega
 have a:=tK (max p.length q.length) (fun i=>coP p i+coP q i) 107 [bP p,bP q] (Nat.max_le.2 ⟨hp1,hq1⟩) (ac (cP p) (ac (cP q) af)) (fun i _=>fs_Add1 p q i hp hq);rw[<-b] at a;refine r_c 8 (a) ?_;refine a_z ?_;exact aj (t_e (az _))
theorem G0(p:Lq)(k:Rat)(i:Nat)(hp:smL p)(hk:sm k)(hi:i< p.length):FS 109 [i64 i,bP p,bQ k] (.agg (qC (coP p i* k))):=by
 have a:(pE p)[((i:Nat):Int).toNat]?=some (qC (coP p i)):=dT (ci hi);refine f_c Tryz.func109 ?_;refine r_z 1 ?_;refine ae (r_d aT 7 ?_);refine a_2 ?_;refine i_x a ?_;refine l_x a ?_;refine c_s (da (coP p i) k (sm2 (nv hp i) hk)) ?_;refine a_1 ?_;refine ao (n_k ?_);exact aj (c_e (aO _))
theorem fk(p:Lq)(k:Rat)(hp:smL p)(hk:sm k)(hp1:p.length<=1099511627776):FS 45 [.arr (pE p),.agg (qC k)] (.arr (pE (a7 p k))):=by
 have a:=tK p.length (fun i=>coP p i* k) 109 [bP p,bQ k] hp1 (ac (cP p) (ac (cD k) af)) (fun i b=>G0 p k i hp hk b);refine f_c Tryz.func45 ?_;refine r_z 3 ?_;refine AWp.ent (st':=⟨[(2,bP p),(3,bQ k)],[],1,9⟩) ?_ ?_;exact s_e [];refine r_c 5 (a) ?_;refine a_z ?_;exact aj (t_e (az _))
theorem ii(a b:Rat)(hb:b≠0)(h:qs a+qs b<=549755813888):FS 159 [.agg (qC a),.agg (qC b)] (.agg (qC (a/ b))):=by
 refine f_c Tryz.func159 ?_;refine r_z 3 ?_;refine r_c 9 (Dw a b hb h) ?_;refine a_z ?_;refine r_z 2 ?_;exact aj (c_e (aO _))
theorem sU(a:Rat):FS 218 [.agg (qC a)] (.arr (pE (eE a))):=by
 refine f_c Tryz.func218 ?_;refine r_z 2 ?_;refine s_r 4 ?_;refine a_2 ?_;refine o_1 (.callS1 rfl rfl rfl (.shut rfl d_n (.nil)) rfl ((dq [a] (by simp)))) ?_;refine a_z ?_;exact aj (t_e (az _))
theorem fs_line(a:Rat):FS 180 [.agg (qC a)] (.arr (pE [a,1])):=by
 refine f_c Tryz.func180 ?_;refine r_z 2 ?_;refine ae (r_d aT 4 ?_);refine c_s (ei 1 (by decide)) ?_;refine a_2 ?_;refine ao (n_k ?_);exact aj (Fin.tmpS rfl rfl rfl rfl (aP [a,1]))
theorem sm_neg1{a:Rat}(h:sm a):sm (a* (-1)):=by
 unfold sm at *
 rw[show a* (-1)= -a by rw[Rat.mul_comm,Rat.neg_mul,Rat.one_mul],iB];exact h
theorem qs_inv(b:Rat)(hb:b≠0):qs (1/ b)<=qs b:=by
 rw[si 1 b hb];have d:b.num≠0:=fun e=>hb (Rat.num_eq_zero.1 e);have a:=di b;have c:=c7 b
 refine fF (by have:0< b.num.natAbs:=by omega
               show 0< 1* b.num.natAbs;omega) ?_ ?_
 show bl ((1:Int) * sgn (decide (b.num< 0)) b.den).natAbs<=qs b;rw[Int.one_mul,fE];exact c;show bl (1* b.num.natAbs)<=qs b;rw[Nat.one_mul];exact a
theorem Cw{q:Lq}(h:smL q):smL (a7 q (-1)):=by
 refine mM fun x a=>?_;obtain⟨i,_,rfl⟩:=List.mem_map.1 a;exact sm_neg1 (nv h i)
theorem Dz(p q:Lq)(hp:smL p)(hq:smL q)(hp1:p.length<=1099511627776)(hq1:q.length<=1099511627776):FS 105 [.arr (pE p),.arr (pE q)] (.arr (pE (dP p q))):=by
 have hl:=b8 q (-1);refine f_c Tryz.func105 ?_;refine r_z 1 ?_;refine r_c 6 (ei (-1) (by decide)) ?_;refine c_s (fk q (-1) hq (by decide) hq1) ?_;refine c_s (ma p (a7 q (-1)) hp (Cw hq) hp1 (by omega)) ?_;refine a_z ?_;exact aj (t_e (az _))
theorem vi(p:Lq)(hp:smL p)(hp1:p.length<=1099511627776):FS 254 [.arr (pE p)] (.arr (pE (kS p))):=by
 have a:=I9 hp;refine f_c Tryz.func254 ?_;refine r_z 1 ?_;refine ae (r_c 3 (dc p hp1) ?_);refine a_z ?_;refine ap rfl (fun h=>?_) (fun h=>?_)
 have d:ar p=[]:=by
  have b:a8 p< 0:=by simpa using h
  unfold a8 at b;exact List.length_eq_zero_iff.1 (by omega)
 refine r_z 1 ?_;refine aj ?_;unfold kS;rw[if_pos d];exact Fin.tmpN rfl
 have d:ar p≠[]:=by
  intro e;have b:¬a8 p< 0:=by simpa using h
  unfold a8 at b;rw[e] at b;exact b (by decide)
 have c:=je d;have f:=qs_inv (ba p) c;unfold sm at a;have b:qs 1=1:=by decide
 unfold kS;rw[if_neg d];refine am (r_c 7 (ei 1 (by decide)) ?_);refine c_s (pX p hp1) ?_;refine c_s (ii 1 (ba p) c (by omega)) ?_;refine c_s (fk p (1/ ba p) hp (by unfold sm;omega) hp1) ?_;refine a_z ?_;exact aj (t_e (az _))
theorem uN(i:Nat)(h:i<=1099511627776):qs (((i:Nat):Int):Rat)<=64:=by
 refine Nat.max_le.2 ⟨?_,?_⟩;show bl ((i:Int)).natAbs<=64;rw[Int.natAbs_natCast];exact iq (by omega);show bl 1<=64;decide
theorem DD(p:Lq)(i:Nat)(hp:smL p)(hi:i+1< p.length)(hp1:p.length<=1099511627776):FS 208 [i64 i,bP p] (.agg (qC (coP p (i+1) * ((i+1:Nat):Int)))):=by
 have a:(pE p)[(((i:Nat):Int)+1).toNat]?=some (qC (coP p (i+1))):=by
  rw[show(((i:Nat):Int)+1).toNat=i+1 by omega];exact dT (ci hi)
 have hs:=nv hp (i+1);have c:=uN (i+1) (by omega);unfold sm at hs;have b:=ei (((i:Nat):Int)+1) (by omega);rw[show((i:Nat):Int)+1=((i+1:Nat):Int) by omega] at b;refine f_c Tryz.func208 ?_;refine r_z 1 ?_;refine ae (r_d aT 10 ?_);refine a_3 ?_;refine i_x a ?_;refine l_x a ?_;refine c_s (b) ?_;refine c_s (da (coP p (i+1)) ((i+1:Nat):Int) (by omega)) ?_;refine a_1 ?_;refine ao (n_k ?_);exact aj (c_e (aO _))
theorem rY(p:Lq)(hp:smL p)(hp1:p.length<=1099511627776):FS 172 [.arr (pE p)] (.arr (pE (fh p))):=by
 have a:=tK (p.length- 1) (fun i=>coP p (i+1) * ((i+1:Nat):Int)) 208 [bP p] (by omega) (ac (cP p) af) (fun i c=>DD p i hp (by omega) hp1);have b:(if (0:Int)>((p.length:Nat):Int)- 1 then(0:Int) else((p.length:Nat):Int)- 1)=((p.length- 1:Nat):Int):=by split <;> omega
 rw[<-b] at a;refine f_c Tryz.func172 ?_;refine r_z 2 ?_;refine AWp.ent (st':=⟨[(1,bP p)],[],1,9⟩) ?_ ?_;exact s_e [];refine r_c 7 (a) ?_;refine a_z ?_;exact aj (t_e (az _))
theorem y5(p:Lq)(i:Nat)(hp:smL p)(hi:i< p.length+1)(hp1:p.length<=1099511627775):FS 158 [i64 i,bP p] (.agg (qC (if i=0 then 0 else coP p (i- 1) / ((i:Nat):Int)))):=by
 refine f_c Tryz.func158 ?_;refine r_z 1 ?_;refine ae (r_z 2 ?_);refine ap rfl (fun h=>?_) (fun h=>?_)
 have a:i=0:=by
  have c:(i:Int)=0:=by simpa using h
  omega
 rw[if_pos a];refine r_z 2 ?_;refine aj (Fin.cell rfl rfl rfl TG.h TS.h (nle rfl) (Cv.agg ?_));rw[qC0];exact ak (Cv.emp _) (ak (ai aB (ag _)) (ak (Cv.emp _) aq))
 have a:i≠0:=by
  intro e;have c:¬(i:Int)=0:=by simpa using h
  omega
 rw[if_neg a]
 have b:(pE p)[(((i:Nat):Int)- 1).toNat]?=some (qC (coP p (i- 1))):=by
  rw[show(((i:Nat):Int)- 1).toNat=i- 1 by omega];exact dT (ci (by omega))
 have hs:=nv hp (i- 1);have d:=uN i (by omega);unfold sm at hs;refine am (ae (r_d aT 9 ?_));refine a_3 ?_;refine i_x b ?_;refine l_x b ?_;refine c_s (ei ((i:Nat):Int) (by omega)) ?_;refine c_s (ii (coP p (i- 1)) ((i:Nat):Int) (by intro e;have e2:=congrArg Rat.num e;simp at e2;omega) (by omega)) ?_;refine a_1 ?_;refine ao (n_k ?_);exact aj (c_e (aO _))
theorem sV(p:Lq)(hp:smL p)(hp1:p.length<=1099511627775):FS 110 [.arr (pE p)] (.arr (pE (aL p))):=by
 have a:=tK (p.length+1) (fun i=>if i=0 then 0 else coP p (i- 1) / ((i:Nat):Int)) 158 [bP p] (by omega) (ac (cP p) af) (fun i b=>y5 p i hp b hp1);rw[show((p.length+1:Nat):Int)=((p.length:Nat):Int)+1 by omega] at a;refine f_c Tryz.func110 ?_;refine r_z 2 ?_;refine AWp.ent (st':=⟨[(1,bP p)],[],1,8⟩) ?_ ?_;exact s_e [];refine r_c 6 (a) ?_;refine a_z ?_;exact aj (t_e (az _))
theorem JL(a b:Rat)(ha:sm a)(hb:sm b):FS 113 [.agg (qC a),.agg (qC b)] (bln (decide (a=b))):=by
 have e:(fl a b==(0:Int))=decide (a=b):=by
  unfold fl;by_cases h:a=b;subst h;simp[Rat.lt_irrefl];by_cases h1:a< b;simp[h,h1];simp[h,h1]
 refine f_c Tryz.func113 ?_;refine r_z 3 ?_;refine r_c 5 (rV a b ha hb) ?_;refine a_z ?_;refine aj (aM rfl ?_ ?_);rw[<-e];rfl;exact ag _
def eqS(p:Lq)(q:Lq):Nat->AState
 |i=>⟨[(1,.arr (pE q)),(2,.clos 113 [] []),(15,.arr (pE p)),(16,i64 p.length),(17,i64 i)],[],1,32⟩
theorem y7(p q:Lq)(hp:smL p)(hq:smL q)(hp1:p.length<=1099511627776):FS 112 [.arr (pE p),.arr (pE q),.clos 113 [] []] (bln (decide (p=q))):=by
 refine f_n Tryz.func112 ?_ ?_;exact ac (az p) (ac (az q) (ac (aQ af af) af));refine r_z 1 ?_;refine ae (r_z 5 ?_);refine ap rfl (fun h=>?_) (fun h=>?_)
 have c:p≠q:=by
  intro e;subst e;simp at h
 refine r_z 1 ?_;refine aj (aM rfl ?_ ?_);simp[c];rfl;exact ag _
 have g:p.length=q.length:=by
  have j:(p.length:Int)=q.length:=by simpa using h
  omega
 refine am (ae (r_z 3 ?_));refine aC (fun _:Unit=>⟨[],[],1,32⟩) (fun _=>p=q) ?_ ?_;refine ah (ax (eqS p q) (fun i=>p.length- i) (fun i=>i<=p.length/\p.take i=q.take i) 0 ⟨Nat.zero_le _,rfl⟩ ?_ ?_);simp only[eqS.eq_1];exact s_e [];rintro i ⟨r,m⟩;rw[eqS.eq_1];refine r_z 1 ?_;refine ae (ap rfl (fun j=>?_) (fun j=>?_));refine am ?_;have b:i< p.length:=by simpa using j
 have a:i< q.length:=by omega
 have f:(pE p)[((i:Nat):Int).toNat]?=some (qC (coP p i)):=dT (ci b);have d:(pE q)[((i:Nat):Int).toNat]?=some (qC (coP q i)):=dT (ci a);refine ae (ah (s_r 6 ?_));refine a_1 ?_;refine i_x f ?_;refine l_x f ?_;refine a_z ?_;refine s_r 6 ?_;refine a_2 ?_;refine i_x d ?_;refine l_x d ?_;refine a_z ?_;refine r_c 5 (JL (coP p i) (coP q i) (nv hp i) (nv hq i)) ?_;refine a_z ?_;refine ap rfl (fun l=>?_) (fun l=>?_);have n:coP p i≠coP q i:=by simpa using l
 have c:p≠q:=fun e=>n (by rw[e]);refine r_z 1 ?_;refine aj (aM rfl ?_ ?_);simp[c];rfl;exact ag _;have n:coP p i=coP q i:=by simpa using l
 refine am (r_m 2 ?_);refine a_z ?_;refine⟨i+1,by omega,⟨b,?_⟩,?_⟩;rw[cm (ci b),cm (ci a),m,n];simp only[eqS.eq_1];exact s_e []
 have k:i=p.length:=by
  have:¬i< p.length:=by simpa using j
  omega
 subst k;refine aw ⟨(),?_,?_⟩;rw[List.take_length,g,List.take_length] at m;exact m;exact s_e [];rintro _ o;refine r_z 1 ?_;refine aj (aM rfl ?_ ?_);simp[o];rfl;exact ag _
theorem fs_Same(p q:Lq)(hp:smL p)(hq:smL q)(hp1:p.length<=1099511627776)(hq1:q.length<=1099511627776):FS 50 [.arr (pE p),.arr (pE q)] (bln (o8 p q)):=by
 refine f_c Tryz.func50 ?_;refine r_z 1 ?_;refine r_c 6 (dq p hp1) ?_;refine c_s (dq q hq1) ?_;refine c_s (y7 (ar p) (ar q) (mM hp) (mM hq) (Nat.le_trans (bw p) hp1)) ?_;refine a_z ?_;exact aj (t_e (ag _))
end Go.Proofs.YtiodeiecpoopgaaGreatDoor
