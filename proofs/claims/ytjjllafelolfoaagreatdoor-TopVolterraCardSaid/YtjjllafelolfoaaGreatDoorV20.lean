/- Part V20 of the proof. -/
import Derived.Test.YtjjllafelolfoaaGreatDoorV19
set_option linter.all false
namespace Go.Proofs.YtjjllafelolfoaaGreatDoor
open Go.Abs
set_option maxRecDepth 20000
theorem rr_(x:Int)(n:Nat)(hn:0< n):(sgZ x= -1∧∃p:Nat,0< p∧x* n= -(p:Int)∧x.natAbs* n=p)∨(sgZ x=0∧x* n=0∧x.natAbs* n=0)∨(sgZ x=1∧∃p:Nat,0< p∧x* n=p∧x.natAbs* n=p):=by
 rcases Int.lt_trichotomy x 0 with hx|hx|hx
 refine .inl ⟨by unfold sgZ;rw[if_neg (by omega),if_pos hx],x.natAbs* n,Nat.mul_pos (by omega) hn,?_,rfl⟩;rw[Int.natCast_mul,←Int.neg_mul];congr 1;omega;subst hx;refine .inr (.inl ⟨rfl,by simp,by simp⟩);refine .inr (.inr ⟨by unfold sgZ;rw[if_neg (by omega),if_neg (by omega)],x.natAbs* n,Nat.mul_pos (by omega) hn,?_,rfl⟩);rw[Int.natCast_mul];congr 1;omega
theorem cmp_code(a b:Rat):cmpQ a b=if sgZ a.num≠sgZ b.num∨sgZ a.num=0 then sgZ a.num- sgZ b.num- (sgZ a.num- sgZ b.num).tdiv 2 else sgZ a.num* cmpZ ((a.num.natAbs* b.den:Nat):Int) ((b.num.natAbs* a.den:Nat):Int):=by
 rw[cmpQ_eq];rcases rr_ a.num b.den b.den_pos with⟨s1,p,hp,e1,f1⟩|⟨s1,e1,f1⟩|⟨s1,p,hp,e1,f1⟩<;> rcases rr_ b.num a.den a.den_pos with⟨s2,q,hq,e2,f2⟩|⟨s2,e2,f2⟩|⟨s2,q,hq,e2,f2⟩<;> rw[s1,s2,e1,e2,f1,f2]<;> unfold cmpZ <;> simp <;>(repeat' split)<;> first|rfl|omega
theorem eY_(a b:Rat)(ha:sm a)(hb:sm b):FS 48 [.agg (qC a),.agg (qC b)] (i64 (cmpQ a b)):=by
 have hs:=sm2 ha hb;have h1:=co_ a;have h2:=cv_ a;have h3:=co_ b;have h4:=cv_ b;have hc:=cmp_code a b;have hsa:sgZ a.num= -1∨sgZ a.num=0∨sgZ a.num=1:=by unfold sgZ;split;simp;split <;> simp
 have hsb:sgZ b.num= -1∨sgZ b.num=0∨sgZ b.num=1:=by unfold sgZ;split;simp;split <;> simp
 have hbm1:=eB_ a.num.natAbs b.den;have hbm2:=eB_ b.num.natAbs a.den;refine f_c Tryz.func48 ?_;refine r_z 3 ?_;refine ab_ (ab_ (r_d hmix 6 ?_));refine c_s (bP_ a) ?_;refine c_s (bP_ b) ?_;refine a_2 ?_;refine ak_ (n_k ?_);obtain⟨x,hx⟩:∃x,x=sgZ a.num:=⟨_,rfl⟩;obtain⟨y,hy⟩:∃y,y=sgZ b.num:=⟨_,rfl⟩;rw[←hx] at hsa hc⊢;rw[←hy] at hsb hc⊢
 have hq:(x- y).tdiv 2= -1∨(x- y).tdiv 2=0∨(x- y).tdiv 2=1:=by
  rcases hsa with h|h|h <;> rcases hsb with h'|h'|h' <;> rw[h,h']<;> decide
 refine ay_ (fun _:Unit=>⟨[(2,.lptr 1 0 0),(3,.lptr 2 0 0)],[(1,some ⟨39,3,[qC a]⟩),(2,some ⟨39,3,[qC b]⟩)],3,42⟩) (fun _=>x=y∧x≠0) ?_ ?_;by_cases he:x=y;refine s_r 7 ?_;refine a_4 ?_;refine y_g rfl (by simp[he]) (.move rfl) ?_;refine y_g rfl (by simp[he]) (.bin rfl rfl bF_) ?_;refine o_0 (.pickF rfl (by simp[he]) rfl) ?_;refine ak_ ?_;refine ai_ rfl (fun h=>?_) (fun h=>?_);have h0:x=0:=by simpa using h
 refine s_r 9 ?_;refine a_6 ?_;refine o_0 (.bin rfl rfl (iN_ (by decide) (by omega))) ?_;refine a_z ?_;refine ad_ (aE_ rfl ?_ (af_ _));rw[hc,if_pos (.inr h0)];rfl;have h0:x≠0:=by simpa using h
 refine ag_ ⟨(),⟨he,h0⟩,?_⟩;exact s_e [];refine s_r 7 ?_;refine a_4 ?_;refine n_g rfl (by simp[he]) ?_;refine n_g rfl (by simp[he]) ?_;refine o_0 (.pickT rfl (by simp[he]) rfl) ?_;refine ak_ ?_;refine ai_ rfl (fun h=>?_) (fun h=>?_);refine s_r 9 ?_;refine a_6 ?_;refine o_0 (.bin rfl rfl (iN_ (by decide) (by omega))) ?_;refine a_z ?_;refine ad_ (aE_ rfl ?_ (af_ _));rw[hc,if_pos (.inl he)];rfl;cases h;rintro _ ⟨he,h0⟩
 have hcz:cmpZ ((a.num.natAbs* b.den:Nat):Int) ((b.num.natAbs* a.den:Nat):Int)= -1∨cmpZ ((a.num.natAbs* b.den:Nat):Int) ((b.num.natAbs* a.den:Nat):Int)=0∨cmpZ ((a.num.natAbs* b.den:Nat):Int) ((b.num.natAbs* a.den:Nat):Int)=1:=by
  unfold cmpZ;split;simp;split <;> simp
 have hsx:=bP_ a;rw[←hx] at hsx
 have hmul: -9223372036854775808≤x* cmpZ ((a.num.natAbs* b.den:Nat):Int) ((b.num.natAbs* a.den:Nat):Int)∧x* cmpZ ((a.num.natAbs* b.den:Nat):Int) ((b.num.natAbs* a.den:Nat):Int)≤9223372036854775807:=by
  rcases hsa with h|h|h <;> rcases hcz with h'|h'|h' <;> rw[h,h']<;> decide
 refine ab_ (r_d hmix 17 ?_);refine c_s (hsx) ?_;refine c_s (cz_ b (by omega)) ?_;refine c_s (dn_ a.num.natAbs b.den (by omega)) ?_;refine c_s (cz_ a (by omega)) ?_;refine c_s (dn_ b.num.natAbs a.den (by omega)) ?_;refine c_s (gK_ (a.num.natAbs* b.den) (b.num.natAbs* a.den) (by omega)) ?_;refine o_0 (.bin rfl rfl (hI_ hmul)) ?_;refine a_1 ?_;refine ak_ (n_k ?_);refine ad_ (aE_ rfl ?_ (af_ _));rw[hc,if_neg (by omega)];rfl
theorem qN_(a:Rat):FS 154 [.agg (qC a)] (.agg (qC (absQ a))):=by
 have hc:=az_ (absQ a);rw[qC_abs] at hc⊢;refine f_c Tryz.func154 ?_;refine r_z 2 ?_;refine ab_ (r_d hmix 8 ?_);refine c_s (cy_ false a.num.natAbs) ?_;refine a_4 ?_;refine ak_ (n_k ?_);exact ad_ (c_e (hc))
theorem fs_den(a:Rat)(ha:sm a):FS 347 [.agg (qC a)] (.agg (qC ((a.den:Int):Rat))):=by
 have hw:=hr_ (a.den:Int);rw[o0_] at hw;refine f_c Tryz.func347 ?_;refine r_z 2 ?_;refine r_c 5 (cz_ a (by unfold sm at ha;omega)) ?_;refine c_s (hw) ?_;refine a_z ?_;exact ad_ (c_e (az_ _))
theorem rb_{z q:Int}{d:Nat}(hd:0< d)(h1:q* d≤z)(h2:z< q* d+d):z/ (d:Int)=q:=by
 have hdi:(0:Int)< d:=by omega
 have a1:q≤z/ (d:Int):=(Int.le_ediv_iff_mul_le hdi).2 h1;have a2:z/ (d:Int)< q+1:=(Int.ediv_lt_iff_lt_mul hdi).2 (by rw[Int.add_mul];omega);omega
theorem jE_(z:Int)(d:Nat)(hd:0< d):z/ (d:Int)=sgn (decide (z< 0)) (if (decide (z< 0) && !(z.natAbs % d==0))=true then z.natAbs/ d+1 else z.natAbs/ d):=by
 have h1:=Nat.div_add_mod z.natAbs d;have h2:=Nat.mod_lt z.natAbs hd;generalize hr:z.natAbs % d=r at *
 generalize hq:z.natAbs/ d=a at *
 have h3:((d* a:Nat):Int)=(a:Int) * d:=by rw[Int.natCast_mul,Int.mul_comm]
 refine rb_ hd ?_ ?_ <;> by_cases hz:z< 0 <;> by_cases h0:r=0 <;> simp[sgn,hz,h0,Int.neg_mul,Int.add_mul]<;> omega
theorem qH_(z:Int)(d:Nat)(hd:0< d)(h:bl z.natAbs+bl d≤4398046511104):FS 346 [.agg (zI z),.agg [mag d]] (.agg (zI (z/ d))):=by
 rw[jE_ z d hd];have hbq:=cC_ z.natAbs d;have hb1:=rE_ (z.natAbs/ d) 1;have hb2:bl 1=1:=fl_;obtain⟨Q,hQ⟩:∃Q,Q=(if (decide (z< 0) && !(z.natAbs % d==0))=true then z.natAbs/ d+1 else z.natAbs/ d):=⟨_,rfl⟩;rw[←hQ];refine f_c Tryz.func346 ?_;refine r_z 3 ?_;refine r_c 11 (kk_ z.natAbs d h hd) ?_;refine a_z ?_;refine a2_ (fun _:Unit=>⟨[(2,.lptr 1 0 0),(4,.lptr 2 0 0),(5,.lptr 3 0 0)],[(1,some ⟨37,2,[zI z]⟩),(2,some ⟨37,2,[[.emp,bln false]]⟩),(3,some ⟨35,1,[[mag Q]]⟩)],4,28⟩) (fun _=>True) ?_ ?_;by_cases hz:z< 0;refine s_r 7 ?_;refine a_3 ?_
 first|refine y_g rfl (by simp[hz]) (.load_l rfl rfl rfl TG.h TS.h (nle rfl)) ?_|refine y_g rfl (by simp[hz]) (.load_a rfl rfl TG.h TS.h (nle rfl)) ?_
 refine y_g rfl (by simp[hz]) (.call rfl rfl rfl (go_ (z.natAbs % d))) ?_;refine y_g rfl (by simp[hz]) (.un rfl kR_) ?_;refine o_0 (.pickT rfl (by simp[hz]) rfl) ?_;refine ak_ ?_;refine ai_ rfl (fun h1=>?_) (fun h1=>?_);have:Q=z.natAbs/ d+1:=by rw[hQ,if_pos];simpa[hz] using h1
 rw[this];refine r_d hmix 4 ?_;refine c_s (do_ 1 (by decide)) ?_;refine c_s (mw_ (z.natAbs/ d) 1 (by omega)) ?_;refine a_1 ?_;refine ak_ (n_k ?_);refine⟨(),trivial,?_⟩;exact s_e [(2,4),(3,5)];have:Q=z.natAbs/ d:=by rw[hQ,if_neg];simpa[hz] using h1
 rw[this];refine ag_ ⟨(),trivial,?_⟩;exact s_e [(2,4),(3,5)];refine s_r 7 ?_;refine a_3 ?_;refine n_g rfl (by simp[hz]) ?_;refine n_g rfl (by simp[hz]) ?_;refine n_g rfl (by simp[hz]) ?_;refine o_0 (.pickF rfl (by simp[hz]) rfl) ?_;refine ak_ ?_;have:Q=z.natAbs/ d:=by rw[hQ,if_neg];simp[hz]
 rw[this];refine ai_ rfl (fun h=>?_) (fun h=>ag_ ⟨(),trivial,?_⟩);cases h;exact s_e [(2,4),(3,5)];rintro _ _;refine r_c 5 (cy_ (decide (z< 0)) Q) ?_;refine a_z ?_;exact ad_ (c_e (dZ_ _))
theorem hu_(q:Rat)(h:qs q≤1099511627776):FS 311 [.agg (qC q)] (.agg (qC (q.floor:Rat))):=by
 have h1:=co_ q;have h2:=cv_ q;rw[Rat.floor_def];refine f_c Tryz.func311 ?_;refine r_z 2 ?_;refine ab_ (r_d hmix 7 ?_);refine c_s (cz_ q h) ?_;refine c_s (qH_ q.num q.den q.den_pos (by omega)) ?_;refine c_s (hr_ (q.num/ q.den)) ?_;refine a_1 ?_;refine ak_ (n_k ?_);exact ad_ (c_e (az_ _))
def ceilQ(q:Rat):Rat:= -((-q).floor:Rat)
theorem qK_(q:Rat)(h:qs q≤1099511627776):FS 312 [.agg (qC q)] (.agg (qC (ceilQ q))):=by
 refine f_c Tryz.func312 ?_;refine r_z 2 ?_;refine r_c 5 (eX_ q) ?_;refine c_s (hu_ (-q) (by rw[cQ_];exact h)) ?_;refine c_s (eX_ ((-q).floor:Rat)) ?_;refine a_z ?_;exact ad_ (c_e (az_ _))
def wi(k:Int)(m:Nat):Nat:=(max 0 (min k m)).toNat
theorem qx_(k:Int)(m:Nat):FS 232 [i64 k,i64 m] (i64 (wi k m)):=by
 refine f_c Tryz.func232 ?_;refine r_z 1 ?_;refine r_z 5 ?_;refine ad_ (aE_ rfl ?_ ?_);simp only[i64,wi];congr 2;split <;> split <;> omega;exact af_ _
def powS:Nat×Nat×Nat→AState
 |(o,x,m)=>⟨[(1,i64 m),(2,.lptr 1 0 0),(4,.lptr 2 0 0),(5,.lptr 3 0 0)],[(1,some ⟨35,1,[[mag x]]⟩),(2,some ⟨35,1,[[.emp]]⟩),(3,some ⟨35,1,[[mag o]]⟩)],4,23⟩
theorem fO_(o:Nat)(x:Nat)(m:Nat):powS (o,x,m)=⟨[(1,i64 m),(2,.lptr 1 0 0),(4,.lptr 2 0 0),(5,.lptr 3 0 0)],[(1,some ⟨35,1,[[mag x]]⟩),(2,some ⟨35,1,[[.emp]]⟩),(3,some ⟨35,1,[[mag o]]⟩)],4,23⟩:=rfl
theorem ox_(x m:Nat):x^ m=(x* x) ^ (m/ 2) * (if m % 2=1 then x else 1):=by
 rw[←Nat.pow_two,←Nat.pow_mul];have:=Nat.div_add_mod m 2;split
 ·rename_i h;rw[←Nat.pow_succ];congr 1;omega
 ·rename_i h;rw[Nat.mul_one];congr 1;omega
theorem qF_(a n:Nat)(h:bl a* n≤2199023255552)(hn:n≤1000000):FS 231 [.agg [mag a],i64 n] (.agg [mag (a^ n)]):=by
 refine f_c Tryz.func231 ?_;refine r_z 2 ?_;refine r_c 3 (do_ 1 (by decide)) ?_;refine a_z ?_;refine a2_ (fun _:Unit=>⟨[(4,.lptr 2 0 0),(5,.lptr 3 0 0)],[(2,some ⟨35,1,[[.emp]]⟩),(3,some ⟨35,1,[[mag (a^ n)]]⟩)],4,23⟩) (fun _=>True) ?_ ?_;refine ae_ (as_ powS (fun x=>x.2.2) (fun x=>x.1* x.2.1^ x.2.2=a^ n∧bl x.1+bl x.2.1* x.2.2≤2199023255553∧x.2.2≤1000000) (1,a,n) ⟨by simp,by have:bl 1=1:=fl_;simp only;omega,hn⟩ ?_ ?_);rw[fO_];exact s_e [(1,2),(2,4),(3,5)];rintro⟨o,x,m⟩ ⟨hv,hb,hm⟩;simp only at hv hb hm;rw[fO_];refine ab_ (r_z 2 ?_);refine ai_ rfl (fun h=>?_) (fun h=>?_);have hm0:0< m:=by simpa using h
 have hx1:bl x* 1≤bl x* m:=Nat.mul_le_mul_left _ hm0;have hph:=ox_ x m;refine ag_ ?_
 have hq:(m:Int).tdiv 2=((m/ 2:Nat):Int):=by
  rw[Int.tdiv_eq_ediv_of_nonneg (by omega)];omega
 have hdm:=Nat.div_add_mod m 2;have hml:=Nat.mod_lt m (show 0< 2 by decide);have hlt:m/ 2< m:=by omega
 have hbx:=eB_ x x;have hbo:=eB_ o x;have hxm:bl x* m=bl x* (2* (m/ 2))+bl x* (m % 2):=by rw[←Nat.mul_add];congr 1;omega
 have hx2:bl (x* x) * (m/ 2)≤bl x* (2* (m/ 2)):=by
  have:=Nat.mul_le_mul_right (m/ 2) hbx;rw[←Nat.two_mul,Nat.mul_comm 2,Nat.mul_assoc] at this;exact this
 have hI:(m:Int) % 2=((m % 2:Nat):Int):=by omega
 have hI2:(m:Int) / 2=((m/ 2:Nat):Int):=by omega
 refine ab_ (ae_ (a2_ (fun o':Nat=>powS (o',x,m)) (fun o'=>o'=o* (if m % 2=1 then x else 1)) ?_ ?_));refine r_z 3 ?_;refine ai_ rfl (fun h1=>?_) (fun h1=>?_);have hodd:m % 2=1:=by simp at h1;omega
 refine r_m 4 ?_;refine c_s (dn_ o x (by omega)) ?_;refine a_z ?_;refine⟨o* x,by rw[if_pos hodd],?_⟩;simp only[fO_];exact s_e [];have hev:¬m % 2=1:=by simp at h1;omega
 refine ag_ ⟨o,by rw[if_neg hev,Nat.mul_one],?_⟩;simp only[fO_];exact s_e [];rintro o' ho';rw[fO_]
 have hbo':bl o'≤bl o+bl x* (m % 2):=by
  rw[ho'];split
  ·rename_i h1;rw[h1];omega
  rw[Nat.mul_one];omega
 have hv':o'* (x* x) ^ (m/ 2)=a^ n:=by
  rw[←hv,hph,ho',Nat.mul_assoc,Nat.mul_comm (if m % 2=1 then x else 1)]
 refine r_z 2 ?_;refine ai_ rfl (fun h2=>?_) (fun h2=>?_);refine r_m 4 ?_;refine c_s (dn_ x x (by omega)) ?_;refine a_z ?_;refine r_m 3 ?_;refine a_z ?_;refine⟨(o',x* x,m/ 2),hlt,⟨hv',by simp only;omega,by simp only;omega⟩,?_⟩;rw[fO_];have:=(congrArg (fun z=>AV.v (.int .i64 z)) hI2);exact s_f [];have hm1:m/ 2=0:=by simp at h2;omega
 refine ag_ (r_m 3 ?_);refine a_z ?_;rw[hm1] at hv' hI2;refine⟨(o',x,0),hm0,⟨by simpa using hv',by simp only;omega,by simp only;omega⟩,?_⟩;rw[fO_];have:=(congrArg (fun z=>AV.v (.int .i64 z)) hI2);exact s_f [];have hm0:m=0:=by simp at h;omega
 subst hm0;refine ar_ ⟨(),trivial,?_⟩;have hv':o=a^ n:=by simpa using hv
 rw[hv'];exact s_e [];rintro _ _;refine r_z 2 ?_;exact ad_ (c_e (fk_ _))
theorem fs_two(k:Int):FS 112 [i64 k] (.agg [mag (2^ wi k 256)]):=by
 have hw:wi k 256≤256:=by unfold wi;omega
 have h2:bl 2=2:=by decide
 refine f_c Tryz.func112 ?_;refine r_z 1 ?_;refine r_c 5 (do_ 2 (by decide)) ?_;refine c_s (qx_ k 256) ?_;refine c_s (qF_ 2 (wi k 256) (by rw[h2];omega) (by omega)) ?_;refine a_z ?_;exact ad_ (c_e (fk_ _))
theorem rC_(k:Nat):bl (2^ k)≤k+1:=bl_le (by rw[Nat.pow_succ];have:=Nat.pow_pos (n:=k) (show 0< 2 by decide);omega)
theorem gL_(k:Int):FS 27 [i64 k] (.agg (qC (fineQ (wi k 256)))):=by
 have hw:wi k 256≤256:=by unfold wi;omega
 have hb:=rC_ (wi k 256);have h1:bl (1:Int).natAbs=1:=fl_;refine f_c Tryz.func27 ?_;refine r_z 1 ?_;refine r_c 5 (nD_ 1 (by decide)) ?_;refine c_s (fs_two k) ?_;refine c_s (hs_ 1 (2^ wi k 256) (Nat.pow_pos (by decide)) (by omega)) ?_;refine a_z ?_;exact ad_ (c_e (az_ _))
def twoQ(k:Nat):Rat:=((2^ k:Nat):Int)
theorem j6_(k:Nat):qs (twoQ k)≤k+1:=by
 have h1:(twoQ k).num=((2^ k:Nat):Int):=rfl;have h2:(twoQ k).den=1:=rfl;unfold qs;rw[h1,h2,Int.natAbs_natCast,fl_];have:=rC_ k;omega
theorem hm_(k:Nat):qs (fineQ k)≤k+1:=by
 have h1:bl (1:Int).natAbs=1:=fl_;exact c2_ (Nat.pow_pos (by decide)) (by omega) (rC_ k)
theorem lr_(a:Rat)(k:Int)(h:qs a≤549755813000):FS 310 [.agg (qC a),i64 k] (.agg (qC (a* twoQ (wi k 256)))):=by
 have hw:wi k 256≤256:=by unfold wi;omega
 have h2:=j6_ (wi k 256);have hwh:=hr_ ((2^ wi k 256:Nat):Int);rw[o0_] at hwh;refine f_c Tryz.func310 ?_;refine r_z 2 ?_;refine ab_ (r_d hmix 7 ?_);refine c_s (fs_two k) ?_;refine c_s (hwh) ?_;refine c_s (bO_ a (twoQ (wi k 256)) (by omega)) ?_;refine a_1 ?_;refine ak_ (n_k ?_);exact ad_ (c_e (az_ _))
def downQ(a:Rat)(k:Nat):Rat:=((a* twoQ k).floor:Rat) * fineQ k
def upQ(a:Rat)(k:Nat):Rat:=ceilQ (a* twoQ k) * fineQ k
theorem hl_(a:Rat):qs (a.floor:Rat)≤qs a+1:=by
 rw[Rat.floor_def];have h1:=co_ a;have e1:((a.num/ (a.den:Int):Int):Rat).num=a.num/ a.den:=rfl;have e2:((a.num/ (a.den:Int):Int):Rat).den=1:=rfl;have h3:1≤bl a.den:=bl_pos a.den_pos;have h4:=cv_ a;unfold qs at *
 rw[e1,e2,fl_,jE_ _ _ a.den_pos,cP_];have h5:=cC_ a.num.natAbs a.den;have h6:=rE_ (a.num.natAbs/ a.den) 1;have h7:bl 1=1:=fl_;split <;> omega
theorem qs_ceilQ(a:Rat):qs (ceilQ a)≤qs a+1:=by
 unfold ceilQ;rw[cQ_];have:=hl_ (-a);rwa[cQ_] at this
theorem qZ_(a:Rat)(k:Int)(h:sm a):FS 249 [.agg (qC a),i64 k] (.agg (qC (downQ a (wi k 256)))):=by
 unfold sm at h;have hw:wi k 256≤256:=by unfold wi;omega
 have h2:=j6_ (wi k 256);have h3:=bK_ a (twoQ (wi k 256));have h4:=hl_ (a* twoQ (wi k 256));have h5:=hm_ (wi k 256);refine f_c Tryz.func249 ?_;refine r_z 2 ?_;refine r_c 8 (lr_ a k (by omega)) ?_;refine c_s (hu_ (a* twoQ (wi k 256)) (by omega)) ?_;refine c_s (gL_ k) ?_;refine c_s (bO_ ((a* twoQ (wi k 256)).floor:Rat) (fineQ (wi k 256)) (by omega)) ?_;refine a_z ?_;exact ad_ (c_e (az_ _))
theorem fs_Up(a:Rat)(k:Int)(h:sm a):FS 250 [.agg (qC a),i64 k] (.agg (qC (upQ a (wi k 256)))):=by
 unfold sm at h;have hw:wi k 256≤256:=by unfold wi;omega
 have h2:=j6_ (wi k 256);have h3:=bK_ a (twoQ (wi k 256));have h4:=qs_ceilQ (a* twoQ (wi k 256));have h5:=hm_ (wi k 256);refine f_c Tryz.func250 ?_;refine r_z 2 ?_;refine r_c 8 (lr_ a k (by omega)) ?_;refine c_s (qK_ (a* twoQ (wi k 256)) (by omega)) ?_;refine c_s (gL_ k) ?_;refine c_s (bO_ (ceilQ (a* twoQ (wi k 256))) (fineQ (wi k 256)) (by omega)) ?_;refine a_z ?_;exact ad_ (c_e (az_ _))
theorem nJ_(a:Rat)(k:Int)(h:sm a):FS 137 [.agg (qC a),i64 k] (.agg (spC (downQ a (wi k 256)) (upQ a (wi k 256)))):=by
 refine f_c Tryz.func137 ?_;refine r_z 2 ?_;refine ab_ (r_d hmix 8 ?_);refine c_s (qZ_ a k h) ?_;refine c_s (fs_Up a k h) ?_;refine a_2 ?_;refine ak_ (n_k ?_);exact ad_ (c_e (aP_ _ _))
theorem fs_At(a:Rat):FS 259 [.agg (qC a)] (.agg (spC a a)):=by
 refine f_c Tryz.func259 ?_;refine r_z 2 ?_;refine r_z 4 ?_;exact ad_ (c_e (aP_ _ _))
theorem ep_(a b:Rat)(ha:sm a)(hb:sm b):FS 136 [.agg (spC a b)] (bln (decide (cmpQ a b≤0))):=by
 refine f_c Tryz.func136 ?_;refine r_z 2 ?_;refine r_c 7 (eY_ a b ha hb) ?_;refine a_z ?_;exact ad_ (t_e (af_ _))
theorem fs_SAdd(a b c d:Rat)(ha:sm a)(hb:sm b)(hc:sm c)(hd:sm d):FS 323 [.agg (spC a b),.agg (spC c d)] (.agg (spC (a+c) (b+d))):=by
 refine f_c Tryz.func323 ?_;refine r_z 3 ?_;refine ab_ (r_d hmix 12 ?_);refine c_s (c4_ a c (sm2 ha hc)) ?_;refine c_s (c4_ b d (sm2 hb hd)) ?_;refine a_2 ?_;refine ak_ (n_k ?_);exact ad_ (c_e (aP_ _ _))
theorem oK_(a b:Rat)(ha:sm a)(hb:sm b):FS 319 [.agg (spC a b)] (.agg (qC ((a+b) * fineQ 1))):=by
 have h1:qs (a+b)≤274877906945:=by have:=c3_ a b;unfold sm at ha hb;omega
 have h2:qs (fineQ 1)≤2:=by decide
 refine f_c Tryz.func319 ?_;refine r_z 2 ?_;refine r_c 8 (c4_ a b (sm2 ha hb)) ?_;refine c_s (gL_ 1) ?_;refine c_s (bO_ (a+b) (fineQ 1) (by omega)) ?_;refine a_z ?_;exact ad_ (c_e (az_ _))
theorem iu_(a b:Rat)(ha:sm a)(hb:sm b):FS 79 [.agg (spC a b)] (.agg (qC (b- a))):=by
 refine f_c Tryz.func79 ?_;refine r_z 2 ?_;refine r_c 6 (g4_ b a (sm2 hb ha)) ?_;refine a_z ?_;exact ad_ (c_e (az_ _))
theorem fs_Min1(c:Int):FS 271 [i64 c] (bln (decide (c< 0))):=by
 refine f_c Tryz.func271 ?_;refine r_z 1 ?_;refine r_z 3 ?_;exact ad_ (t_e (af_ _))
theorem fs_Max1(c:Int):FS 261 [i64 c] (bln (decide (0< c))):=by
 refine f_c Tryz.func261 ?_;refine r_z 1 ?_;refine r_z 3 ?_;exact ad_ (t_e (af_ _))
def mU_(g:Nat)(l:List Rat):Nat×List AV→AState
 |(i,o)=>⟨[(0,.clos g [] []),(4,.lptr 1 0 0),(5,.lptr 2 0 0),(8,.arr (pE l)),(9,i64 l.length),(10,i64 i)],[(1,some ⟨39,3,[zC]⟩),(2,some ⟨39,3,[o]⟩)],3,27⟩
theorem lt_(g:Nat)(bf:Int→Bool)(hg:∀c,FS g [i64 c] (bln (bf c)))(l:List Rat)(hl:smL l)(hln:l.length≤1099511627776):FS 260 [.clos g [] [],.arr (pE l)] (.agg (qC (bS_ bf l))):=by
 refine f_n Tryz.func260 ?_ ?_;exact aa_ (aG_ ac_ ac_) (aa_ (ap_ l) ac_);refine r_z 1 ?_;refine r_z 1 ?_;refine ab_ (r_z 3 ?_);refine ay_ (fun _:Unit=>⟨[(4,.lptr 1 0 0),(5,.lptr 2 0 0)],[(1,some ⟨39,3,[zC]⟩),(2,some ⟨39,3,[qC (bS_ bf l)]⟩)],3,27⟩) (fun _=>True) ?_ ?_;refine ae_ (as_ (fun x:Nat×List AV=>mU_ g l x) (fun x=>l.length- x.1) (fun x=>x.1≤l.length∧((x.1=0→x.2=zC)∧(x.1≠0→x.2=qC (bS_ bf (l.take x.1))))) (0,zC) ⟨Nat.zero_le _,fun _=>rfl,fun h=>absurd rfl h⟩ ?_ ?_);simp only[mU_.eq_1];exact s_e [(1,4),(2,5)];rintro⟨i,o⟩ ⟨hi,ho0,ho⟩;simp only at hi ho0 ho;simp only[mU_.eq_1];refine r_z 1 ?_;refine ab_ (ai_ rfl (fun h=>?_) (fun h=>?_));refine ag_ ?_;have hlt:i< l.length:=by simpa using h
 obtain⟨q,hq⟩:∃q,l[i]?=some q:=⟨_,List.getElem?_eq_getElem hlt⟩;have hq':(pE l)[((i:Nat):Int).toNat]?=some (qC q):=bG_ hq;have hsq:sm q:=hl q (List.mem_of_getElem? hq);have hst:sm (bS_ bf (l.take i)):=gV_ fun q hq=>hl q (List.mem_of_mem_take hq);have hsn:=lV_ bf (l.take i) q;rw[←b5_ hq] at hsn;refine ab_ (ae_ (s_r 6 ?_));refine a_1 ?_;refine i_x hq' ?_;refine l_x hq' ?_;refine a_z ?_;refine AWp.cutB (fun _:Unit=>mU_ g l (i,qC (bS_ bf (l.take (i+1))))) (fun _=>True) ?_ ?_;by_cases h0:i=0;subst h0;have:=ho0 rfl;subst this;rw[if_pos (.inl (by simp))] at hsn;refine s_r 9 ?_;refine a_3 ?_;refine n_g rfl d_t ?_;refine n_g rfl d_t ?_;refine n_g rfl d_t ?_;refine n_g rfl d_t ?_;refine n_g rfl d_t ?_;refine o_0 (.pickT rfl d_t rfl) ?_;refine ak_ ?_;refine ai_ rfl (fun h=>?_) (fun h=>?_);refine r_m 2 ?_;refine a_z ?_;refine⟨(),trivial,?_⟩;simp only[mU_.eq_1];rw[hsn];exact s_e [];cases h;have ho':o=qC (bS_ bf (l.take i)):=ho h0;subst ho'
 have hne:l.take i≠[]:=fun h=>by
  have:=congrArg List.length h;rw[List.length_take,List.length_nil] at this;omega
 refine s_r 9 ?_;refine a_3 ?_;refine y_g rfl (by simp;omega) (.move rfl) ?_
 first|refine y_g rfl (by simp;omega) (.load_l rfl rfl rfl TG.h TS.h (nle rfl)) ?_|refine y_g rfl (by simp;omega) (.load_a rfl rfl TG.h TS.h (nle rfl)) ?_
 first|refine y_g rfl (by simp;omega) (.load_l rfl rfl rfl TG.h TS.h (nle rfl)) ?_|refine y_g rfl (by simp;omega) (.load_a rfl rfl TG.h TS.h (nle rfl)) ?_
 refine y_g rfl (by simp;omega) (.call rfl rfl rfl (eY_ q (bS_ bf (l.take i)) hsq hst)) ?_;refine y_g rfl (by simp;omega) (.call rfl rfl rfl (hg (cmpQ q (bS_ bf (l.take i))))) ?_;refine o_0 (.pickF rfl (by simp;omega) rfl) ?_;refine ak_ ?_;refine ai_ rfl (fun h1=>?_) (fun h1=>?_);refine r_m 2 ?_;refine a_z ?_;refine⟨(),trivial,?_⟩;simp only[mU_.eq_1];rw[hsn,if_pos (.inr h1)];exact s_e [];refine ag_ ⟨(),trivial,?_⟩;simp only[mU_.eq_1];rw[hsn,if_neg (fun hh=>hh.elim hne fun h2=>by rw[h1] at h2;cases h2)];exact s_e [];rintro _ _;rw[mU_.eq_1];refine r_m 2 ?_;refine a_z ?_;refine⟨(i+1,qC (bS_ bf (l.take (i+1)))),by simp only;omega,⟨by simp only;omega,fun h=>absurd h (by simp),fun _=>rfl⟩,?_⟩;simp only[mU_.eq_1];exact s_e [];have hge:i=l.length:=by simp at h;omega
 refine ar_ ⟨(),trivial,?_⟩;subst hge;by_cases h0:l.length=0;have:=ho0 h0;subst this
 have:bS_ bf l=0:=by
  rw[List.length_eq_zero_iff] at h0;rw[h0];rfl
 rw[this,qC0];exact s_e [];have:=ho h0;subst this;rw[List.take_length];exact s_e [];rintro _ _;refine r_z 2 ?_;exact ad_ (c_e (az_ _))
theorem qW_(l:List Rat)(hl:smL l)(hln:l.length≤1099511627776):FS 174 [.arr (pE l)] (.agg (qC (minL l))):=by
 refine f_c Tryz.func174 ?_;refine r_z 1 ?_;refine r_c 3 (lt_ 271 _ fs_Min1 l hl hln) ?_;refine a_z ?_;exact ad_ (c_e (az_ _))
theorem lu_(l:List Rat)(hl:smL l)(hln:l.length≤1099511627776):FS 144 [.arr (pE l)] (.agg (qC (maxL l))):=by
 refine f_c Tryz.func144 ?_;refine r_z 1 ?_;refine r_c 3 (lt_ 261 _ fs_Max1 l hl hln) ?_;refine a_z ?_;exact ad_ (c_e (az_ _))
theorem hT_{a b:Rat}(ha:sm a)(hb:sm b):smL [a,b]:=by
 intro q hq;simp at hq;rcases hq with rfl|rfl
 exact ha;exact hb
theorem nH_(a b c d:Rat)(ha:sm a)(hb:sm b)(hc:sm c)(hd:sm d):FS 138 [.agg (spC a b),.agg (spC c d)] (.agg (spC (minL [a,c]) (maxL [b,d]))):=by
 refine f_c Tryz.func138 ?_;refine r_z 3 ?_;refine ab_ (r_d hmix 14 ?_);refine a_5 ?_;refine o_1 (.callS1 rfl rfl rfl (.shut rfl d_n (.nil)) rfl (qW_ [a,c] (hT_ ha hc) (by simp))) ?_;refine a_5 ?_;refine o_1 (.callS1 rfl rfl rfl (.shut rfl d_n (.nil)) rfl (lu_ [b,d] (hT_ hb hd) (by simp))) ?_;refine a_2 ?_;refine ak_ (n_k ?_);exact ad_ (c_e (aP_ _ _))
theorem oC_(l:List Rat)(hl:smL l)(hln:l.length≤1099511627776):FS 376 [.arr (pE l)] (.agg (spC (minL l) (maxL l))):=by
 refine f_c Tryz.func376 ?_;refine r_z 1 ?_;refine r_c 6 (qW_ l hl hln) ?_;refine c_s (lu_ l hl hln) ?_;refine a_z ?_;exact ad_ (c_e (aP_ _ _))
theorem fs_ends (g:Nat) (op:Rat→Rat→Rat) (a b c d:Rat) (h1:FS g [.agg (qC a),.agg (qC c)] (.agg (qC (op a c)))) (h2:FS g [.agg (qC a),.agg (qC d)] (.agg (qC (op a d)))) (h3:FS g [.agg (qC b),.agg (qC c)] (.agg (qC (op b c)))) (h4:FS g [.agg (qC b),.agg (qC d)] (.agg (qC (op b d))))
    (hs:smL [op a c,op a d,op b c,op b d]):FS 350 [.clos g [] [],.agg (spC a b),.agg (spC c d)] (.agg (spC (minL [op a c,op a d,op b c,op b d]) (maxL [op a c,op a d,op b c,op b d]))):=by
 refine f_n Tryz.func350 ?_ ?_;exact aa_ (aG_ ac_ ac_) (aa_ (aP_ a b) (aa_ (aP_ c d) ac_));refine r_z 3 ?_;refine ab_ (r_d hmix 27 ?_);refine c_s (h1) ?_;refine c_s (h2) ?_;refine c_s (h3) ?_;refine c_s (h4) ?_;refine a_1 ?_;refine o_1 (.callS1 rfl rfl rfl (.shut rfl d_n (.nil)) rfl (oC_ [op a c,op a d,op b c,op b d] hs (by simp))) ?_;refine a_1 ?_;refine ak_ (n_k ?_);exact ad_ (c_e (aP_ _ _))
theorem fs_SMul(a b c d:Rat)(ha:sm a)(hb:sm b)(hc:sm c)(hd:sm d)(hs:smL [a* c,a* d,b* c,b* d]):FS 322 [.agg (spC a b),.agg (spC c d)] (.agg (spC (minL [a* c,a* d,b* c,b* d]) (maxL [a* c,a* d,b* c,b* d]))):=by
 refine f_c Tryz.func322 ?_;refine r_z 3 ?_;refine r_c 4 (fs_ends 45 (fun x y=>x* y) a b c d (bO_ a c (sm2 ha hc)) (bO_ a d (sm2 ha hd)) (bO_ b c (sm2 hb hc)) (bO_ b d (sm2 hb hd)) hs) ?_;refine a_z ?_;exact ad_ (c_e (aP_ _ _))
theorem qs_int(n:Int):qs (n:Rat)≤max (bl n.natAbs) 1:=by
 have e1:(n:Rat).num=n:=rfl;have e2:(n:Rat).den=1:=rfl;unfold qs;rw[e1,e2,fl_];exact Nat.le_refl _
theorem qs_i64{n:Int}(h: -9223372036854775808≤n∧n≤9223372036854775807):qs (n:Rat)≤64:=by
 have h1:=qs_int n;have h2:bl n.natAbs≤64:=bl_le (Nat.lt_of_le_of_lt (show n.natAbs≤9223372036854775808 by omega) (by decide));omega
theorem fs_Of(n d:Int)(hn: -9223372036854775808≤n∧n≤9223372036854775807)(hd: -9223372036854775808≤d∧d≤9223372036854775807)(h0:d≠0):FS 89 [i64 n,i64 d] (.tup [.agg (qC ((n:Rat) / (d:Rat))),i64 0]):=by
 have h1:=qs_i64 hn;have h2:=qs_i64 hd
 have hd0:(d:Rat)≠0:=by
  intro h;have:(d:Rat).num=0:=by rw[h];rfl
  exact h0 this
 refine f_c Tryz.func89 ?_;refine r_z 2 ?_;refine r_c 9 (cq_ n hn) ?_;refine c_s (cq_ d hd) ?_;refine c_s (ls_ (n:Rat) (d:Rat) hd0 (by omega)) ?_;refine a_z ?_;refine ad_ (Fin.many ⟨_,_,rfl,⟨_,_,_,_,_,rfl,rfl,rfl,.inl ⟨TG.h,_,TS.h,nle rfl,rfl⟩⟩,⟨_,_,rfl,rfl,rfl⟩⟩ (nle rfl) ?_);exact ah_ (au_ av_ (az_ _)) (ah_ (au_ av_ (af_ _)) aq_)
theorem fs_Clone(l:List Rat)(hl:l.length≤1099511627776):FS 218 [.arr (pE l)] (.arr (pE l)):=by
 cases l with
 |nil=>
  refine FSpec.nil1 fun a c=>?_;refine f_c Tryz.func218 ?_;refine r_z 1 ?_;refine ab_ (r_z 2 ?_);refine ai_ rfl (fun h=>?_) (fun h=>?_);refine r_z 1 ?_;exact ad_ (Fin.tmpN rfl)
  ·refine ag_ (s_r 4 ?_)
   refine a_2 ?_;refine o_2 (.append_l rfl rfl rfl te_28.h rfl rfl rfl rfl rfl d_o (by first|exact ed_ _|exact d9_ _|exact d7_ _|exact ee_ _|exact d5_ _|assumption|rfl|simp) (by first|rfl|exact ed_ _|exact d9_ _|exact d7_ _|exact ee_ _|exact d5_ _|simp) rfl (.vnil) TZ.h rfl TB.h d_o (by first|(simp[maxLen];done)|(simp[maxLen];omega))) ?_;refine a_z ?_;exact ad_ (Fin.tmpS rfl rfl rfl rfl (aF_ []))
 |cons q l=>
  have hne:pE (q::l)≠[]:=by simp[pE]
  simp at hl;refine f_c Tryz.func218 ?_;refine r_z 1 ?_;refine ab_ (s_r 2 ?_);refine a_1 ?_
  first|refine aK_ (.nilq_v rfl rfl te_28.h) rfl rfl ?_|refine aK_ (.nilq_arr rfl (hne) rfl te_28.h) rfl rfl ?_
  refine ak_ ?_;refine cF ?_
  ·refine ag_ (s_r 4 ?_)
   refine a_2 ?_;refine o_2 (.append_l rfl rfl rfl te_28.h rfl rfl rfl rfl rfl d_o (by first|exact ed_ _|exact d9_ _|exact d7_ _|exact ee_ _|exact d5_ _|assumption|rfl|simp) (by first|rfl|exact ed_ _|exact d9_ _|exact d7_ _|exact ee_ _|exact d5_ _|simp) rfl (.arr (fP_ _)) TZ.h rfl TB.h d_o (by first|(simp[maxLen];done)|(simp[maxLen];omega))) ?_;refine a_z ?_;exact ad_ (Fin.tmpS rfl rfl rfl (by simp) (aF_ _))
def trS(l:List Rat):Nat→AState
 |n=>⟨[(0,.arr (pE l)),(3,i64 n)],[],1,23⟩
theorem b6_(l:List Rat)(hl:l.length≤1099511627776):FS 92 [.arr (pE l)] (.arr (pE (trimQ l))):=by
 refine f_c Tryz.func92 ?_;refine r_z 1 ?_;refine r_z 3 ?_;refine a2_ (trS l) (fun n=>n≤l.length∧trimQ l=l.take n) ?_ ?_;refine ae_ (as_ (trS l) (fun n=>n) (fun n=>n≤l.length∧trimQ l=trimQ (l.take n)) l.length ⟨Nat.le_refl _,by rw[List.take_length]⟩ ?_ ?_);simp only[trS.eq_1];exact s_e [];rintro n ⟨hn,ht⟩;rw[trS.eq_1];cases n with
 |zero=>
  refine ab_ (s_r 11 ?_);refine a_3 ?_;refine n_g rfl (by simp) ?_;refine n_g rfl (by simp) ?_;refine n_g rfl (by simp) ?_;refine n_g rfl (by simp) ?_;refine n_g rfl (by simp) ?_;refine n_g rfl (by simp) ?_;refine n_g rfl (by simp) ?_;refine o_0 (.pickF rfl (by simp) rfl) ?_;refine ak_ ?_;refine cF ?_;refine ar_ ⟨0,⟨Nat.zero_le _,?_⟩,?_⟩;rw[ht];rfl;simp only[trS.eq_1];exact s_e []
 |succ n=>
  obtain⟨q,hq⟩:∃q,l[n]?=some q:=⟨_,List.getElem?_eq_getElem (by omega)⟩
  have hq':(pE l)[(((n+1:Nat):Int)- 1).toNat]?=some (qC q):=by
   rw[show(((n+1:Nat):Int)- 1).toNat=n by omega];exact bG_ hq
  have hs:trimQ (l.take (n+1))=if q=0 then trimQ (l.take n) else l.take (n+1):=by
   rw[b5_ hq,gE_]
  refine ab_ (s_r 11 ?_);refine a_3 ?_;refine y_g rfl (by simp <;> omega) (.move rfl) ?_;refine y_g rfl (by simp <;> omega) (.move rfl) ?_;refine y_g rfl (by simp <;> omega) (.bin rfl rfl (hH_ (by omega))) ?_
  first|refine y_g rfl (by simp <;> omega) (.index_l rfl rfl (by omega) (by omega) te_28.h) ?_|refine y_g rfl (by simp <;> omega) (.index_a rfl rfl (by omega) hq' rfl te_28.h) ?_
  first|refine y_g rfl (by simp <;> omega) (.load_l rfl rfl hq' TG.h TS.h (nle rfl)) ?_|refine y_g rfl (by simp <;> omega) (.load_a rfl hq' TG.h TS.h (nle rfl)) ?_
  refine y_g rfl (by simp <;> omega) (.call rfl rfl rfl (bP_ q)) ?_;refine y_g rfl (by simp <;> omega) (.bin rfl rfl bF_) ?_;refine o_0 (.pickT rfl (by simp <;> omega) rfl) ?_;refine ak_ ?_;refine ai_ rfl (fun h=>?_) (fun h=>?_)
  have h0:q=0:=by
   have h1:sgZ q.num=0:=by simpa using h
   exact sgZ_num_eq.1 h1
  refine ag_ (ae_ (r_m 3 ?_));refine a_z ?_;refine⟨n,Nat.lt_succ_self n,⟨by omega,?_⟩,?_⟩;rw[ht,hs,if_pos h0];simp only[trS.eq_1];exact s_e []
  have h0:q≠0:=by
   intro e;have h1:¬sgZ q.num=0:=by simpa using h
   exact h1 (sgZ_num_eq.2 e)
  refine ar_ ⟨n+1,⟨hn,?_⟩,?_⟩;rw[ht,hs,if_neg h0];simp only[trS.eq_1];exact s_e []
 rintro n ⟨hn,ht⟩;rw[trS.eq_1];have hcl:=fs_Clone (l.take n) (by simp;omega);refine s_r 5 ?_;refine a_2 ?_;refine o_0 (.sa_h rfl rfl (h:=n) rfl (by simp;omega) te_28.h (fP_ _)) ?_;refine o_0 (.call rfl rfl rfl ((by rw[kc_];exact hcl))) ?_;refine o_0 (.assign rfl) ?_;refine ak_ ?_;refine ad_ (aE_ rfl ?_ ?_);rw[ht];exact aL_ (aF_ _)
theorem bc_(l:List Rat)(hl:l.length≤1099511627776):FS 42 [.arr (pE l)] (i64 (degP l)):=by
 have:=aD_ l;refine f_c Tryz.func42 ?_;refine r_z 1 ?_;refine r_c 5 (b6_ l hl) ?_;refine a_z ?_;exact ad_ (t_e (af_ _))
theorem fW_(l:List Rat)(hl:l.length≤1099511627776):FS 64 [.arr (pE l)] (.agg (qC (leadP l))):=by
 have hlen:=aD_ l;refine f_c Tryz.func64 ?_;refine r_z 1 ?_;refine r_c 3 (b6_ l hl) ?_;refine a_z ?_;refine ab_ (r_z 3 ?_);refine ai_ rfl (fun h=>?_) (fun h=>?_)
 have h0:trimQ l=[]:=by
  have h1:(trimQ l).length=0:=by simpa using h
  exact List.length_eq_zero_iff.1 h1
 rw[ig_ h0];refine r_z 2 ?_;refine ad_ (Fin.cell rfl rfl rfl TG.h TS.h (nle rfl) (Cv.agg ?_));rw[qC0];exact ah_ (Cv.emp _) (ah_ (au_ av_ (af_ _)) (ah_ (Cv.emp _) aq_))
 obtain⟨n,hn⟩:∃n,(trimQ l).length=n+1:=⟨(trimQ l).length- 1,by
  have h1:¬(trimQ l).length=0:=by simpa using h
  omega⟩
 have hg:(pE (trimQ l))[(((trimQ l).length:Int)- 1).toNat]?=some (qC (leadP l)):=by
  rw[hn,show(((n+1:Nat):Int)- 1).toNat=n by omega];exact bG_ (bk_ hn)
 refine ag_ (s_r 7 ?_);refine a_4 ?_;refine i_x hg ?_;refine l_x hg ?_;refine a_z ?_;exact ad_ (c_e (az_ _))
theorem fs_at(l:List Rat)(i:Nat):FS 156 [.arr (pE l),i64 i] (.agg (qC (coP l i))):=by
 refine f_c Tryz.func156 ?_;refine r_z 1 ?_;refine ab_ (r_z 4 ?_);refine ai_ rfl (fun h=>?_) (fun h=>?_);have hlt:i< l.length:=by simpa using h
 have hg:(pE l)[((i:Nat):Int).toNat]?=some (qC (coP l i)):=bG_ (bd_ hlt);refine s_r 5 ?_;refine a_2 ?_;refine i_x hg ?_;refine l_x hg ?_;refine a_z ?_;exact ad_ (c_e (az_ _));have hge:l.length≤i:=by simpa using h
 rw[ca_ hge];refine ag_ (r_z 2 ?_);refine ad_ (Fin.cell rfl rfl rfl TG.h TS.h (nle rfl) (Cv.agg ?_));rw[qC0];exact ah_ (Cv.emp _) (ah_ (au_ av_ (af_ _)) (ah_ (Cv.emp _) aq_))
theorem eE_set{n i e:Nat}{f:Nat→Rat}(h:i< n)(he:e=i):(pE (tabP i f)++List.replicate (n- i) zC).set e (qC (f i))=pE (tabP (i+1) f)++List.replicate (n- (i+1)) zC:=by
 subst he;obtain⟨k,rfl⟩:∃k,n=e+1+k:=⟨n- (e+1),by omega⟩;rw[show e+1+k- e=k+1 by omega,show e+1+k- (e+1)=k by omega,List.replicate_succ,List.set_append_right _ _ (by simp)];simp[tabP,List.range_succ,pE]
theorem eE_get{n i e:Nat}{f:Nat→Rat}(h:i< n)(he:e=i):(pE (tabP i f)++List.replicate (n- i) zC)[e]?=some zC:=by
 subst he;rw[List.getElem?_append_right (by simp),List.getElem?_replicate,if_pos (by simp;omega)]
theorem iJ_(n i:Nat)(f:Nat→Rat):∀e∈pE (tabP i f)++List.replicate (n- i) zC,∀c∈e,Closed c:=by
 intro e he;rcases List.mem_append.1 he with he|he
 exact aF_ _ e he;rw[List.eq_of_mem_replicate he];exact dY_
def eachS(n:Nat)(f:Nat→Rat)(g:Nat)(cap:List AV):Nat→AState
 |i=>⟨[(1,.clos g [] cap),(5,.lsl 1 0 n (some n) 3),(10,i64 n),(11,i64 i)],[(1,some ⟨39,3,pE (tabP i f)++List.replicate (n- i) zC⟩)],2,23⟩
theorem kn_(n:Nat)(f:Nat→Rat)(g:Nat)(cap:List AV)(hn:n≤1099511627776)(hcap:∀c∈cap,Closed c)(hg:∀i,i< n→FS g ((i64 i::cap).map coe) (.agg (qC (f i)))):FS 93 [i64 n,.clos g [] cap] (.arr (pE (trimQ (tabP n f)))):=by
 refine f_n Tryz.func93 ?_ ?_;exact aa_ (af_ _) (aa_ (aG_ ac_ hcap) ac_);refine r_z 1 ?_;refine r_z 3 ?_;refine ab_ (r_z 3 ?_);refine ay_ (fun _:Unit=>eachS n f g cap n) (fun _=>True) ?_ ?_;refine ae_ (as_ (eachS n f g cap) (fun i=>n- i) (fun i=>i≤n) 0 (Nat.zero_le _) ?_ ?_);simp only[eachS.eq_1];refine s_x [(1,5)] (fun hs=>e_1) (fun hs=>?_)
 ·repeat' (first|exact aC_|refine h_c ?_ ?_|exact aJ_ hs rfl (iJ_ n 0 f)|exact au_e|refine aA_ ?_|exact aq_|refine ah_ ?_ ?_|exact au_ hs (aG_ ac_ hcap)|exact au_c)
 rintro i hi;rw[eachS.eq_1];refine r_z 1 ?_;refine ab_ (ai_ rfl (fun h=>?_) (fun h=>?_));refine ag_ ?_;have hlt:i< n:=by simpa using h
 refine ab_ (ae_ (r_z 2 ?_));refine r_m 7 ?_;refine c_s (hg i hlt) ?_;refine a_1 ?_;refine o_1n (.store rfl rfl (eE_get hlt (Nat.zero_add i)) rfl rfl rfl TS.h (nle rfl)) ?_;refine ak_ ?_;refine r_m 2 ?_;refine a_z ?_;refine⟨i+1,by omega,hlt,?_⟩;simp only[eachS.eq_1];refine s_x [] (fun hs=>e_1) (fun hs=>?_)
 ·repeat' (first|exact aC_|refine h_c ?_ ?_|exact aJ_ hs (eE_set hlt (Nat.zero_add i)) (iJ_ n (i+1) f)|exact au_e|refine aA_ ?_|exact aq_|refine ah_ ?_ ?_|exact au_ hs (aG_ ac_ hcap)|exact au_c)
 have hge:i=n:=by
  have:¬i< n:=by simpa using h
  omega
 subst hge;refine ar_ ⟨(),trivial,?_⟩;simp only[eachS.eq_1];refine s_x [] (fun hs=>e_1) (fun hs=>?_)
 ·repeat' (first|exact aC_|refine h_c ?_ ?_|exact bt_ hs (iJ_ i i f)|exact au_e|refine aA_ ?_|exact aq_|refine ah_ ?_ ?_|exact au_ hs (aG_ ac_ hcap)|exact au_c)
 rintro _ _;rw[eachS.eq_1]
 have hfull:List.take n (List.drop 0 (pE (tabP n f)++List.replicate (n- n) zC))=pE (tabP n f):=by
  rw[Nat.sub_self,List.replicate_zero,List.append_nil,List.drop_zero,List.take_of_length_le (by simp)]
 refine s_r 3 ?_;refine a_1 ?_;refine o_1 (.callS1 rfl rfl rfl (.shut rfl d_n (.nil)) rfl ((by rw[hfull];exact b6_ (tabP n f) (by simp;exact hn)))) ?_;refine a_z ?_;exact ad_ (t_e (aL_ (aF_ _)))
abbrev bP(p:List Rat):AV:= .aptr [[.arr (pE p)]] 0 0
abbrev bQ(q:Rat):AV:= .aptr [qC q] 0 0
theorem bo_(p:List Rat):Closed (bP p):=bg_ (aa_ (ap_ p) ac_)
theorem b0_(q:Rat):Closed (bQ q):=bg_ (aN_ q)
theorem fs_Add1(p q:List Rat)(i:Nat)(hp:smL p)(hq:smL q):FS 155 [i64 i,bP p,bP q] (.agg (qC (coP p i+coP q i))):=by
 refine f_c Tryz.func155 ?_;refine r_z 1 ?_;refine ab_ (r_d hmix 8 ?_);refine c_s (fs_at p i) ?_;refine c_s (fs_at q i) ?_;refine c_s (c4_ (coP p i) (coP q i) (sm2 (g9_ hp i) (g9_ hq i))) ?_;refine a_1 ?_;refine ak_ (n_k ?_);exact ad_ (c_e (az_ _))
theorem lC_(p q:List Rat)(hp:smL p)(hq:smL q)(hp1:p.length≤1099511627776)(hq1:q.length≤1099511627776):FS 47 [.arr (pE p),.arr (pE q)] (.arr (pE (addP p q))):=by
 refine f_c Tryz.func47 ?_;refine r_z 3 ?_;refine AWp.ent (st':=⟨[(2,bP p),(3,bP q)],[],1,12⟩) ?_ ?_;exact s_e []
 have hm:(if ((q.length:Nat):Int)>(p.length:Nat) then((q.length:Nat):Int) else(p.length:Nat))=((max p.length q.length:Nat):Int):=by
  rw[Nat.max_def];split <;> split <;> omega
 have he:=kn_ (max p.length q.length) (fun i=>coP p i+coP q i) 155 [bP p,bP q] (Nat.max_le.2 ⟨hp1,hq1⟩) (aa_ (bo_ p) (aa_ (bo_ q) ac_)) (fun i _=>fs_Add1 p q i hp hq);rw[←hm] at he;refine r_c 8 (he) ?_;refine a_z ?_;exact ad_ (t_e (ap_ _))
theorem qR_(p:List Rat)(k:Rat)(i:Nat)(hp:smL p)(hk:sm k)(hi:i< p.length):FS 98 [i64 i,bP p,bQ k] (.agg (qC (coP p i* k))):=by
 have hg:(pE p)[((i:Nat):Int).toNat]?=some (qC (coP p i)):=bG_ (bd_ hi);refine f_c Tryz.func98 ?_;refine r_z 1 ?_;refine ab_ (r_d hmix 7 ?_);refine a_2 ?_;refine i_x hg ?_;refine l_x hg ?_;refine c_s (bO_ (coP p i) k (sm2 (g9_ hp i) hk)) ?_;refine a_1 ?_;refine ak_ (n_k ?_);exact ad_ (c_e (az_ _))
theorem cL_(p:List Rat)(k:Rat)(hp:smL p)(hk:sm k)(hp1:p.length≤1099511627776):FS 22 [.arr (pE p),.agg (qC k)] (.arr (pE (aw_ p k))):=by
 have he:=kn_ p.length (fun i=>coP p i* k) 98 [bP p,bQ k] hp1 (aa_ (bo_ p) (aa_ (b0_ k) ac_)) (fun i hi=>qR_ p k i hp hk hi);refine f_c Tryz.func22 ?_;refine r_z 3 ?_;refine AWp.ent (st':=⟨[(2,bP p),(3,bQ k)],[],1,9⟩) ?_ ?_;exact s_e [];refine r_c 5 (he) ?_;refine a_z ?_;exact ad_ (t_e (ap_ _))
theorem dp_(a b:Rat)(hb:b≠0)(h:qs a+qs b≤549755813888):FS 95 [.agg (qC a),.agg (qC b)] (.agg (qC (a/ b))):=by
 refine f_c Tryz.func95 ?_;refine r_z 3 ?_;refine r_c 9 (ls_ a b hb h) ?_;refine a_z ?_;refine r_z 2 ?_;exact ad_ (c_e (az_ _))
theorem eO_(a:Rat):FS 224 [.agg (qC a)] (.arr (pE (a0_ a))):=by
 refine f_c Tryz.func224 ?_;refine r_z 2 ?_;refine s_r 4 ?_;refine a_2 ?_;refine o_1 (.callS1 rfl rfl rfl (.shut rfl d_n (.nil)) rfl ((b6_ [a] (by simp)))) ?_;refine a_z ?_;exact ad_ (t_e (ap_ _))
theorem fs_line(a:Rat):FS 106 [.agg (qC a)] (.arr (pE [a,1])):=by
 refine f_c Tryz.func106 ?_;refine r_z 2 ?_;refine ab_ (r_d hmix 4 ?_);refine c_s (cq_ 1 (by decide)) ?_;refine a_2 ?_;refine ak_ (n_k ?_);exact ad_ (Fin.tmpS rfl rfl rfl rfl (aF_ [a,1]))
theorem sm_neg1{a:Rat}(h:sm a):sm (a* (-1)):=by
 unfold sm at *
 rw[show a* (-1)= -a by rw[Rat.mul_comm,Rat.neg_mul,Rat.one_mul],cQ_];exact h
theorem qs_inv(b:Rat)(hb:b≠0):qs (1/ b)≤qs b:=by
 rw[iz_ 1 b hb];have hn:b.num≠0:=fun e=>hb (Rat.num_eq_zero.1 e);have h1:=co_ b;have h2:=cv_ b
 refine c2_ (by have:0< b.num.natAbs:=by omega
                show 0< 1* b.num.natAbs;omega) ?_ ?_
 show bl ((1:Int) * sgn (decide (b.num< 0)) b.den).natAbs≤qs b;rw[Int.one_mul,cP_];exact h2;show bl (1* b.num.natAbs)≤qs b;rw[Nat.one_mul];exact h1
theorem on_{q:List Rat}(h:smL q):smL (aw_ q (-1)):=by
 refine f7_ fun x hx=>?_;obtain⟨i,_,rfl⟩:=List.mem_map.1 hx;exact sm_neg1 (g9_ h i)
theorem it_(p q:List Rat)(hp:smL p)(hq:smL q)(hp1:p.length≤1099511627776)(hq1:q.length≤1099511627776):FS 20 [.arr (pE p),.arr (pE q)] (.arr (pE (subP p q))):=by
 have hl:=a3_ q (-1);refine f_c Tryz.func20 ?_;refine r_z 1 ?_;refine r_c 6 (cq_ (-1) (by decide)) ?_;refine c_s (cL_ q (-1) hq (by decide) hq1) ?_;refine c_s (lC_ p (aw_ q (-1)) hp (on_ hq) hp1 (by omega)) ?_;refine a_z ?_;exact ad_ (t_e (ap_ _))
theorem kl_(p:List Rat)(hp:smL p)(hp1:p.length≤1099511627776):FS 315 [.arr (pE p)] (.arr (pE (a4_ p))):=by
 have hlead:=leadP_sm hp;refine f_c Tryz.func315 ?_;refine r_z 1 ?_;refine ab_ (r_c 3 (bc_ p hp1) ?_);refine a_z ?_;refine ai_ rfl (fun h=>?_) (fun h=>?_)
 have h0:trimQ p=[]:=by
  have h1:degP p< 0:=by simpa using h
  unfold degP at h1;exact List.length_eq_zero_iff.1 (by omega)
 refine r_z 1 ?_;refine ad_ ?_;unfold a4_;rw[if_pos h0];exact Fin.tmpN rfl
 have h0:trimQ p≠[]:=by
  intro e;have h1:¬degP p< 0:=by simpa using h
  unfold degP at h1;rw[e] at h1;exact h1 (by decide)
 have hne:=bj_ h0;have hinv:=qs_inv (leadP p) hne;unfold sm at hlead;have h1:qs 1=1:=by decide
 unfold a4_;rw[if_neg h0];refine ag_ (r_c 7 (cq_ 1 (by decide)) ?_);refine c_s (fW_ p hp1) ?_;refine c_s (dp_ 1 (leadP p) hne (by omega)) ?_;refine c_s (cL_ p (1/ leadP p) hp (by unfold sm;omega) hp1) ?_;refine a_z ?_;exact ad_ (t_e (ap_ _))
theorem ng_(i:Nat)(h:i≤1099511627776):qs (((i:Nat):Int):Rat)≤64:=by
 refine Nat.max_le.2 ⟨?_,?_⟩;show bl ((i:Int)).natAbs≤64;rw[Int.natAbs_natCast];exact bl_le (by omega);show bl 1≤64;decide
theorem oN_(p:List Rat)(i:Nat)(hp:smL p)(hi:i+1< p.length)(hp1:p.length≤1099511627776):FS 113 [i64 i,bP p] (.agg (qC (coP p (i+1) * ((i+1:Nat):Int)))):=by
 have hg:(pE p)[(((i:Nat):Int)+1).toNat]?=some (qC (coP p (i+1))):=by
  rw[show(((i:Nat):Int)+1).toNat=i+1 by omega];exact bG_ (bd_ hi)
 have hs:=g9_ hp (i+1);have hq:=ng_ (i+1) (by omega);unfold sm at hs;have hI:=cq_ (((i:Nat):Int)+1) (by omega);rw[show((i:Nat):Int)+1=((i+1:Nat):Int) by omega] at hI;refine f_c Tryz.func113 ?_;refine r_z 1 ?_;refine ab_ (r_d hmix 10 ?_);refine a_3 ?_;refine i_x hg ?_;refine l_x hg ?_;refine c_s (hI) ?_;refine c_s (bO_ (coP p (i+1)) ((i+1:Nat):Int) (by omega)) ?_;refine a_1 ?_;refine ak_ (n_k ?_);exact ad_ (c_e (az_ _))
theorem dS_(p:List Rat)(hp:smL p)(hp1:p.length≤1099511627776):FS 29 [.arr (pE p)] (.arr (pE (ao_ p))):=by
 have he:=kn_ (p.length- 1) (fun i=>coP p (i+1) * ((i+1:Nat):Int)) 113 [bP p] (by omega) (aa_ (bo_ p) ac_) (fun i hi=>oN_ p i hp (by omega) hp1);have hm:(if (0:Int)>((p.length:Nat):Int)- 1 then(0:Int) else((p.length:Nat):Int)- 1)=((p.length- 1:Nat):Int):=by split <;> omega
 rw[←hm] at he;refine f_c Tryz.func29 ?_;refine r_z 2 ?_;refine AWp.ent (st':=⟨[(1,bP p)],[],1,9⟩) ?_ ?_;exact s_e [];refine r_c 7 (he) ?_;refine a_z ?_;exact ad_ (t_e (ap_ _))
theorem lv_(p:List Rat)(i:Nat)(hp:smL p)(hi:i< p.length+1)(hp1:p.length≤1099511627775):FS 94 [i64 i,bP p] (.agg (qC (if i=0 then 0 else coP p (i- 1) / ((i:Nat):Int)))):=by
 refine f_c Tryz.func94 ?_;refine r_z 1 ?_;refine ab_ (r_z 2 ?_);refine ai_ rfl (fun h=>?_) (fun h=>?_)
 have h0:i=0:=by
  have h1:(i:Int)=0:=by simpa using h
  omega
 rw[if_pos h0];refine r_z 2 ?_;refine ad_ (Fin.cell rfl rfl rfl TG.h TS.h (nle rfl) (Cv.agg ?_));rw[qC0];exact ah_ (Cv.emp _) (ah_ (au_ av_ (af_ _)) (ah_ (Cv.emp _) aq_))
 have h0:i≠0:=by
  intro e;have h1:¬(i:Int)=0:=by simpa using h
  omega
 rw[if_neg h0]
 have hg:(pE p)[(((i:Nat):Int)- 1).toNat]?=some (qC (coP p (i- 1))):=by
  rw[show(((i:Nat):Int)- 1).toNat=i- 1 by omega];exact bG_ (bd_ (by omega))
 have hs:=g9_ hp (i- 1);have hq:=ng_ i (by omega);unfold sm at hs;refine ag_ (ab_ (r_d hmix 9 ?_));refine a_3 ?_;refine i_x hg ?_;refine l_x hg ?_;refine c_s (cq_ ((i:Nat):Int) (by omega)) ?_;refine c_s (dp_ (coP p (i- 1)) ((i:Nat):Int) (by intro e;have e2:=congrArg Rat.num e;simp at e2;omega) (by omega)) ?_;refine a_1 ?_;refine ak_ (n_k ?_);exact ad_ (c_e (az_ _))
theorem fX_(p:List Rat)(hp:smL p)(hp1:p.length≤1099511627775):FS 19 [.arr (pE p)] (.arr (pE (aj_ p))):=by
 have he:=kn_ (p.length+1) (fun i=>if i=0 then 0 else coP p (i- 1) / ((i:Nat):Int)) 94 [bP p] (by omega) (aa_ (bo_ p) ac_) (fun i hi=>lv_ p i hp hi hp1);rw[show((p.length+1:Nat):Int)=((p.length:Nat):Int)+1 by omega] at he;refine f_c Tryz.func19 ?_;refine r_z 2 ?_;refine AWp.ent (st':=⟨[(1,bP p)],[],1,8⟩) ?_ ?_;exact s_e [];refine r_c 6 (he) ?_;refine a_z ?_;exact ad_ (t_e (ap_ _))
theorem fs_Same1(a b:Rat)(ha:sm a)(hb:sm b):FS 104 [.agg (qC a),.agg (qC b)] (bln (decide (a=b))):=by
 have e:(cmpQ a b==(0:Int))=decide (a=b):=by
  unfold cmpQ;by_cases h:a=b;subst h;simp[Rat.lt_irrefl];by_cases h1:a< b;simp[h,h1];simp[h,h1]
 refine f_c Tryz.func104 ?_;refine r_z 3 ?_;refine r_c 5 (eY_ a b ha hb) ?_;refine a_z ?_;refine ad_ (aE_ rfl ?_ ?_);rw[←e];rfl;exact af_ _
def eqS(p:List Rat)(q:List Rat):Nat→AState
 |i=>⟨[(1,.arr (pE q)),(2,.clos 104 [] []),(15,.arr (pE p)),(16,i64 p.length),(17,i64 i)],[],1,32⟩
theorem lx_(p q:List Rat)(hp:smL p)(hq:smL q)(hp1:p.length≤1099511627776):FS 103 [.arr (pE p),.arr (pE q),.clos 104 [] []] (bln (decide (p=q))):=by
 refine f_n Tryz.func103 ?_ ?_;exact aa_ (ap_ p) (aa_ (ap_ q) (aa_ (aG_ ac_ ac_) ac_));refine r_z 1 ?_;refine ab_ (r_z 5 ?_);refine ai_ rfl (fun h=>?_) (fun h=>?_)
 have hne:p≠q:=by
  intro e;subst e;simp at h
 refine r_z 1 ?_;refine ad_ (aE_ rfl ?_ ?_);simp[hne];rfl;exact af_ _
 have hlen:p.length=q.length:=by
  have h1:(p.length:Int)=q.length:=by simpa using h
  omega
 refine ag_ (ab_ (r_z 3 ?_));refine ay_ (fun _:Unit=>⟨[],[],1,32⟩) (fun _=>p=q) ?_ ?_;refine ae_ (as_ (eqS p q) (fun i=>p.length- i) (fun i=>i≤p.length∧p.take i=q.take i) 0 ⟨Nat.zero_le _,rfl⟩ ?_ ?_);simp only[eqS.eq_1];exact s_e [];rintro i ⟨hi,ht⟩;rw[eqS.eq_1];refine r_z 1 ?_;refine ab_ (ai_ rfl (fun h1=>?_) (fun h1=>?_));refine ag_ ?_;have hlt:i< p.length:=by simpa using h1
 have hlt2:i< q.length:=by omega
 have hgp:(pE p)[((i:Nat):Int).toNat]?=some (qC (coP p i)):=bG_ (bd_ hlt);have hgq:(pE q)[((i:Nat):Int).toNat]?=some (qC (coP q i)):=bG_ (bd_ hlt2);refine ab_ (ae_ (s_r 6 ?_));refine a_1 ?_;refine i_x hgp ?_;refine l_x hgp ?_;refine a_z ?_;refine s_r 6 ?_;refine a_2 ?_;refine i_x hgq ?_;refine l_x hgq ?_;refine a_z ?_;refine r_c 5 (fs_Same1 (coP p i) (coP q i) (g9_ hp i) (g9_ hq i)) ?_;refine a_z ?_;refine ai_ rfl (fun h2=>?_) (fun h2=>?_);have hc:coP p i≠coP q i:=by simpa using h2
 have hne:p≠q:=fun e=>hc (by rw[e]);refine r_z 1 ?_;refine ad_ (aE_ rfl ?_ ?_);simp[hne];rfl;exact af_ _;have hc:coP p i=coP q i:=by simpa using h2
 refine ag_ (r_m 2 ?_);refine a_z ?_;refine⟨i+1,by omega,⟨hlt,?_⟩,?_⟩;rw[b5_ (bd_ hlt),b5_ (bd_ hlt2),ht,hc];simp only[eqS.eq_1];exact s_e []
 have hge:i=p.length:=by
  have:¬i< p.length:=by simpa using h1
  omega
 subst hge;refine ar_ ⟨(),?_,?_⟩;rw[List.take_length,hlen,List.take_length] at ht;exact ht;exact s_e [];rintro _ he;refine r_z 1 ?_;refine ad_ (aE_ rfl ?_ ?_);simp[he];rfl;exact af_ _
theorem qS_(p q:List Rat)(hp:smL p)(hq:smL q)(hp1:p.length≤1099511627776)(hq1:q.length≤1099511627776):FS 24 [.arr (pE p),.arr (pE q)] (bln (sameP p q)):=by
 refine f_c Tryz.func24 ?_;refine r_z 1 ?_;refine r_c 6 (b6_ p hp1) ?_;refine c_s (b6_ q hq1) ?_;refine c_s (lx_ (trimQ p) (trimQ q) (f7_ hp) (f7_ hq) (Nat.le_trans (aD_ p) hp1)) ?_;refine a_z ?_;exact ad_ (t_e (af_ _))
end Go.Proofs.YtjjllafelolfoaaGreatDoor
