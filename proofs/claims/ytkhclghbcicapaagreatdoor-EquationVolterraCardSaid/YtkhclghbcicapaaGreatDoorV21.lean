/- Part V21 of the proof. -/
import Derived.Test.YtkhclghbcicapaaGreatDoorV20
set_option linter.all false
namespace Go.Proofs.YtkhclghbcicapaaGreatDoor
open Go.Abs
set_option maxRecDepth 20000
theorem cN(a b:Rat)(h:qs a+qs b≤549755813888):FS 40 [.agg (qC a),.agg (qC b)] (.agg (qC (a* b))):=by
 have hp:=td a b;have h1:=dZ a;have c:=ei a;have d:=dZ b;have e:=ei b;rw[oz];refine f_c Tryz.func40 ?_;refine r_z 3 ?_;refine ae (r_d ba 12 ?_);refine c_s (zQ a.num b.num (by omega)) ?_;refine c_s (fC a (by omega)) ?_;refine c_s (fC b (by omega)) ?_;refine c_s (im a.den b.den (by omega)) ?_;refine c_s (rI (a.num* b.num) (a.den* b.den) (n7 a b) (by omega)) ?_;refine a_1 ?_;refine au (n_k ?_);exact ak (c_e (aP _))
theorem CF(n:Nat):zI (n:Int)=[mag n,bln false]:=by
 unfold zI;rw[Int.natAbs_natCast];rfl
theorem BD(x:Int)(n:Nat)(h:bl x.natAbs+bl n≤17592186044416):FS 104 [.agg (zI x),.agg [mag n,bln false]] (.agg (zI (x* n))):=by
 have:=zQ x n (by simpa using h);rwa[CF] at this
theorem fD(a b:Rat)(h:qs a+qs b≤549755813888):FS 49 [.agg (qC a),.agg (qC b)] (.agg (qC (a+b))):=by
 have hp:=yJ a b;have h1:=dZ a;have c:=ei a;have d:=dZ b;have e:=ei b;have e1:=dG (x:=a.num) (y:=b.den) h1 (by simpa using e);have e2:=dG (x:=b.num) (y:=a.den) d (by simpa using c);rw[yK];refine f_c Tryz.func49 ?_;refine r_z 3 ?_;refine ae (r_d ba 8 ?_);refine c_s (fC a (by omega)) ?_;refine c_s (fC b (by omega)) ?_;refine a_4 ?_;refine au (n_k ?_);refine ae (r_d ba 16 ?_);refine c_s (BD a.num b.den (by omega)) ?_;refine c_s (BD b.num a.den (by omega)) ?_;refine c_s (fs_iadd (a.num* b.den) (b.num* a.den) (by omega)) ?_;refine c_s (im a.den b.den (by omega)) ?_;refine c_s (rI (a.num* b.den+b.num* a.den) (a.den* b.den) (n7 a b) (by omega)) ?_;refine a_1 ?_;refine au (n_k ?_);exact ak (c_e (aP _))
theorem FW(a:Rat):qC (-a)=zI (sgn (!decide (a.num< 0)) a.num.natAbs)++[mag (a.den- 1)]:=by
 unfold qC;rw[Rat.neg_num,Rat.neg_den]
 have e: -a.num=sgn (!decide (a.num< 0)) a.num.natAbs:=by
  unfold sgn;by_cases h:a.num< 0;simp[h];omega;simp[h];omega
 rw[e];rfl
theorem nW(a:Rat):FS 117 [.agg (qC a)] (.agg (qC (-a))):=by
 have hc:=aP (-a);rw[FW] at hc⊢;refine f_c Tryz.func117 ?_;refine r_z 2 ?_;refine ae (r_d ba 12 ?_);refine c_s (fz (!decide (a.num< 0)) a.num.natAbs) ?_;refine a_4 ?_;refine au (n_k ?_);exact ak (c_e (hc))
theorem lE(a b:Rat)(h:qs a+qs b≤549755813888):FS 59 [.agg (qC a),.agg (qC b)] (.agg (qC (a- b))):=by
 have hs:=fD a (-b) (by rw[fv];exact h);rw[←Rat.sub_eq_add_neg] at hs;refine f_c Tryz.func59 ?_;refine r_z 3 ?_;refine ae (r_d ba 5 ?_);refine c_s (nW b) ?_;refine c_s (hs) ?_;refine a_1 ?_;refine au (n_k ?_);exact ak (c_e (aP _))
theorem Iw(a b:Rat)(hb:b≠0)(h:qs a+qs b≤549755813888):FS 138 [.agg (qC a),.agg (qC b)] (.agg (qC (a/ b))):=by
 have hp:=yy a b;have h1:=dZ a;have c:=ei a;have e:=dZ b;have f:=ei b;have d:b.num≠0:=fun h=>hb (Rat.num_eq_zero.1 h);have hs:=gD (decide (b.num< 0)) b.den;rw[tI a b hb];refine f_c Tryz.func138 ?_;refine r_z 3 ?_;refine ae (r_d ba 17 ?_);refine c_s (fC b (by omega)) ?_;refine c_s (fz (decide (b.num< 0)) b.den) ?_;refine c_s (zQ a.num (sgn (decide (b.num< 0)) b.den) (by rw[hs];omega)) ?_;refine c_s (fC a (by omega)) ?_;refine c_s (im a.den b.num.natAbs (by omega)) ?_;refine c_s (rI (a.num* sgn (decide (b.num< 0)) b.den) (a.den* b.num.natAbs) (Nat.mul_pos a.den_pos (by omega)) (by omega)) ?_;refine a_1 ?_;refine au (n_k ?_);exact ak (c_e (aP _))
theorem DL(a b:Rat)(hb:b≠0)(h:qs a+qs b≤549755813888):FS 87 [.agg (qC a),.agg (qC b)] (.tup [.agg (qC (a/ b)),i64 0]):=by
 have d:b.num≠0:=fun h=>hb (Rat.num_eq_zero.1 h);have c:sgZ b.num≠0:=by unfold sgZ;rw[if_neg d];split <;> decide
 refine f_c Tryz.func87 ?_;refine r_z 4 ?_;refine ae (r_c 3 (cx b) ?_);refine a_z ?_;refine aq rfl (fun h=>?_) (fun h=>?_);exact absurd h (by simpa using c);refine an (r_c 5 (Iw a b hb (by assumption)) ?_);refine a_z ?_;refine ak (Fin.many ⟨_,_,rfl,⟨_,_,_,_,_,rfl,rfl,rfl,.inl ⟨TG.h,_,TS.h,nle rfl,rfl⟩⟩,⟨_,_,rfl,rfl,rfl⟩⟩ (nle rfl) ?_);exact ai (ao ay (aP _)) (ai (ao ay (ah _)) aw)
theorem Fv(x:Int)(n:Nat)(hn:0< n):(sgZ x= -1∧∃p:Nat,0< p∧x* n= -(p:Int)∧x.natAbs* n=p)∨(sgZ x=0∧x* n=0∧x.natAbs* n=0)∨(sgZ x=1∧∃p:Nat,0< p∧x* n=p∧x.natAbs* n=p):=by
 rcases Int.lt_trichotomy x 0 with a|a|a
 refine .inl ⟨by unfold sgZ;rw[if_neg (by omega),if_pos a],x.natAbs* n,Nat.mul_pos (by omega) hn,?_,rfl⟩;rw[Int.natCast_mul,←Int.neg_mul];congr 1;omega;subst a;refine .inr (.inl ⟨rfl,by simp,by simp⟩);refine .inr (.inr ⟨by unfold sgZ;rw[if_neg (by omega),if_neg (by omega)],x.natAbs* n,Nat.mul_pos (by omega) hn,?_,rfl⟩);rw[Int.natCast_mul];congr 1;omega
theorem Je(a b:Rat):dB a b=if sgZ a.num≠sgZ b.num∨sgZ a.num=0 then sgZ a.num- sgZ b.num- (sgZ a.num- sgZ b.num).tdiv 2 else sgZ a.num* fm ((a.num.natAbs* b.den:Nat):Int) ((b.num.natAbs* a.den:Nat):Int):=by
 rw[Fy];rcases Fv a.num b.den b.den_pos with⟨s1,p,hp,e1,f1⟩|⟨s1,e1,f1⟩|⟨s1,p,hp,e1,f1⟩<;> rcases Fv b.num a.den a.den_pos with⟨s2,q,hq,e2,f2⟩|⟨s2,e2,f2⟩|⟨s2,q,hq,e2,f2⟩<;> rw[s1,s2,e1,e2,f1,f2]<;> unfold fm <;> simp <;>(repeat' split)<;> first|rfl|omega
theorem qg(a b:Rat)(ha:sm a)(hb:sm b):FS 23 [.agg (qC a),.agg (qC b)] (i64 (dB a b)):=by
 have hs:=sm2 ha hb;have h1:=dZ a;have q:=ei a;have o:=dZ b;have r:=ei b;have hc:=Je a b;have d:sgZ a.num= -1∨sgZ a.num=0∨sgZ a.num=1:=by unfold sgZ;split;simp;split <;> simp
 have e:sgZ b.num= -1∨sgZ b.num=0∨sgZ b.num=1:=by unfold sgZ;split;simp;split <;> simp
 have l:=jz a.num.natAbs b.den;have m:=jz b.num.natAbs a.den;refine f_c Tryz.func23 ?_;refine r_z 3 ?_;refine ae (ae (r_d ba 6 ?_));refine c_s (cx a) ?_;refine c_s (cx b) ?_;refine a_2 ?_;refine au (n_k ?_);obtain⟨x,k⟩:∃x,x=sgZ a.num:=⟨_,rfl⟩;obtain⟨y,n⟩:∃y,y=sgZ b.num:=⟨_,rfl⟩;rw[←k] at d hc⊢;rw[←n] at e hc⊢
 have p:(x- y).tdiv 2= -1∨(x- y).tdiv 2=0∨(x- y).tdiv 2=1:=by
  rcases d with h|h|h <;> rcases e with h'|h'|h' <;> rw[h,h']<;> decide
 refine aH (fun _:Unit=>⟨[(2,.lptr 1 0 0),(3,.lptr 2 0 0)],[(1,some ⟨34,3,[qC a]⟩),(2,some ⟨34,3,[qC b]⟩)],3,42⟩) (fun _=>x=y∧x≠0) ?_ ?_;by_cases c:x=y;refine s_r 7 ?_;refine a_4 ?_;refine y_g rfl (by simp[c]) (.move rfl) ?_;refine y_g rfl (by simp[c]) (.bin rfl rfl db) ?_;refine o_0 (.pickF rfl (by simp[c]) rfl) ?_;refine au ?_;refine aq rfl (fun h=>?_) (fun h=>?_);have i:x=0:=by simpa using h
 refine s_r 9 ?_;refine a_6 ?_;refine o_0 (.bin rfl rfl (tU (by decide) (by omega))) ?_;refine a_z ?_;refine ak (aY rfl ?_ (ah _));rw[hc,if_pos (.inr i)];rfl;have i:x≠0:=by simpa using h
 refine an ⟨(),⟨c,i⟩,?_⟩;exact s_e [];refine s_r 7 ?_;refine a_4 ?_;refine n_g rfl (by simp[c]) ?_;refine n_g rfl (by simp[c]) ?_;refine o_0 (.pickT rfl (by simp[c]) rfl) ?_;refine au ?_;refine aq rfl (fun h=>?_) (fun h=>?_);refine s_r 9 ?_;refine a_6 ?_;refine o_0 (.bin rfl rfl (tU (by decide) (by omega))) ?_;refine a_z ?_;refine ak (aY rfl ?_ (ah _));rw[hc,if_pos (.inl c)];rfl;cases h;rintro _ ⟨c,i⟩
 have j:fm ((a.num.natAbs* b.den:Nat):Int) ((b.num.natAbs* a.den:Nat):Int)= -1∨fm ((a.num.natAbs* b.den:Nat):Int) ((b.num.natAbs* a.den:Nat):Int)=0∨fm ((a.num.natAbs* b.den:Nat):Int) ((b.num.natAbs* a.den:Nat):Int)=1:=by
  unfold fm;split;simp;split <;> simp
 have g:=cx a;rw[←k] at g
 have f: -9223372036854775808≤x* fm ((a.num.natAbs* b.den:Nat):Int) ((b.num.natAbs* a.den:Nat):Int)∧x* fm ((a.num.natAbs* b.den:Nat):Int) ((b.num.natAbs* a.den:Nat):Int)≤9223372036854775807:=by
  rcases d with h|h|h <;> rcases j with h'|h'|h' <;> rw[h,h']<;> decide
 refine ae (r_d ba 17 ?_);refine c_s (g) ?_;refine c_s (fC b (by omega)) ?_;refine c_s (im a.num.natAbs b.den (by omega)) ?_;refine c_s (fC a (by omega)) ?_;refine c_s (im b.num.natAbs a.den (by omega)) ?_;refine c_s (qh (a.num.natAbs* b.den) (b.num.natAbs* a.den) (by omega)) ?_;refine o_0 (.bin rfl rfl (xd f)) ?_;refine a_1 ?_;refine au (n_k ?_);refine ak (aY rfl ?_ (ah _));rw[hc,if_neg (by omega)];rfl
theorem qi(a:Rat):FS 93 [.agg (qC a)] (.agg (qC (eN a))):=by
 have hc:=aP (eN a);rw[qC_abs] at hc⊢;refine f_c Tryz.func93 ?_;refine r_z 2 ?_;refine ae (r_d ba 8 ?_);refine c_s (fz false a.num.natAbs) ?_;refine a_4 ?_;refine au (n_k ?_);exact ak (c_e (hc))
theorem IG(a:Rat)(ha:sm a):FS 262 [.agg (qC a)] (.agg (qC ((a.den:Int):Rat))):=by
 have b:=rH (a.den:Int);rw[CF] at b;refine f_c Tryz.func262 ?_;refine r_z 2 ?_;refine r_c 5 (fC a (by unfold sm at ha;omega)) ?_;refine c_s (b) ?_;refine a_z ?_;exact ak (c_e (aP _))
theorem GB{z q:Int}{d:Nat}(hd:0< d)(h1:q* d≤z)(h2:z< q* d+d):z/ (d:Int)=q:=by
 have a:(0:Int)< d:=by omega
 have c:q≤z/ (d:Int):=(Int.le_ediv_iff_mul_le a).2 h1;have b:z/ (d:Int)< q+1:=(Int.ediv_lt_iff_lt_mul a).2 (by rw[Int.add_mul];omega);omega
theorem wz(z:Int)(d:Nat)(hd:0< d):z/ (d:Int)=sgn (decide (z< 0)) (if (decide (z< 0) && !(z.natAbs % d==0))=true then z.natAbs/ d+1 else z.natAbs/ d):=by
 have h1:=Nat.div_add_mod z.natAbs d;have b:=Nat.mod_lt z.natAbs hd;generalize e:z.natAbs % d=r at *
 generalize c:z.natAbs/ d=a at *
 have f:((d* a:Nat):Int)=(a:Int) * d:=by rw[Int.natCast_mul,Int.mul_comm]
 refine GB hd ?_ ?_ <;> by_cases hz:z< 0 <;> by_cases h0:r=0 <;> simp[sgn,hz,h0,Int.neg_mul,Int.add_mul]<;> omega
theorem Gj(z:Int)(d:Nat)(hd:0< d)(h:bl z.natAbs+bl d≤4398046511104):FS 261 [.agg (zI z),.agg [mag d]] (.agg (zI (z/ d))):=by
 rw[wz z d hd];have b:=fG z.natAbs d;have a:=AB (z.natAbs/ d) 1;have hb2:bl 1=1:=j2;obtain⟨Q,hQ⟩:∃Q,Q=(if (decide (z< 0) && !(z.natAbs % d==0))=true then z.natAbs/ d+1 else z.natAbs/ d):=⟨_,rfl⟩;rw[←hQ];refine f_c Tryz.func261 ?_;refine r_z 3 ?_;refine r_c 11 (uT z.natAbs d h hd) ?_;refine a_z ?_;refine bD (fun _:Unit=>⟨[(2,.lptr 1 0 0),(4,.lptr 2 0 0),(5,.lptr 3 0 0)],[(1,some ⟨32,2,[zI z]⟩),(2,some ⟨32,2,[[.emp,bln false]]⟩),(3,some ⟨30,1,[[mag Q]]⟩)],4,28⟩) (fun _=>True) ?_ ?_;by_cases hz:z< 0;refine s_r 7 ?_;refine a_3 ?_;refine y_g rfl (by simp[hz]) (.load_l rfl rfl rfl TG.h TS.h (nle rfl)) ?_;refine y_g rfl (by simp[hz]) (.call rfl rfl rfl (nX (z.natAbs % d))) ?_;refine y_g rfl (by simp[hz]) (.un rfl pQ) ?_;refine o_0 (.pickT rfl (by simp[hz]) rfl) ?_;refine au ?_;refine aq rfl (fun h1=>?_) (fun h1=>?_);have:Q=z.natAbs/ d+1:=by rw[hQ,if_pos];simpa[hz] using h1
 rw[this];refine r_d ba 4 ?_;refine c_s (io 1 (by decide)) ?_;refine c_s (zM (z.natAbs/ d) 1 (by omega)) ?_;refine a_1 ?_;refine au (n_k ?_);refine⟨(),trivial,?_⟩;exact s_e [(2,4),(3,5)];have:Q=z.natAbs/ d:=by rw[hQ,if_neg];simpa[hz] using h1
 rw[this];refine an ⟨(),trivial,?_⟩;exact s_e [(2,4),(3,5)];refine s_r 7 ?_;refine a_3 ?_;refine n_g rfl (by simp[hz]) ?_;refine n_g rfl (by simp[hz]) ?_;refine n_g rfl (by simp[hz]) ?_;refine o_0 (.pickF rfl (by simp[hz]) rfl) ?_;refine au ?_;have:Q=z.natAbs/ d:=by rw[hQ,if_neg];simp[hz]
 rw[this];refine aq rfl (fun h=>?_) (fun h=>an ⟨(),trivial,?_⟩);cases h;exact s_e [(2,4),(3,5)];rintro _ _;refine r_c 5 (fz (decide (z< 0)) Q) ?_;refine a_z ?_;exact ak (c_e (ju _))
theorem rM(q:Rat)(h:qs q≤1099511627776):FS 233 [.agg (qC q)] (.agg (qC (q.floor:Rat))):=by
 have h1:=dZ q;have a:=ei q;rw[Rat.floor_def];refine f_c Tryz.func233 ?_;refine r_z 2 ?_;refine ae (r_d ba 7 ?_);refine c_s (fC q h) ?_;refine c_s (Gj q.num q.den q.den_pos (by omega)) ?_;refine c_s (rH (q.num/ q.den)) ?_;refine a_1 ?_;refine au (n_k ?_);exact ak (c_e (aP _))
def sr(q:Rat):Rat:= -((-q).floor:Rat)
theorem Fc(q:Rat)(h:qs q≤1099511627776):FS 234 [.agg (qC q)] (.agg (qC (sr q))):=by
 refine f_c Tryz.func234 ?_;refine r_z 2 ?_;refine r_c 5 (nW q) ?_;refine c_s (rM (-q) (by rw[fv];exact h)) ?_;refine c_s (nW ((-q).floor:Rat)) ?_;refine a_z ?_;exact ak (c_e (aP _))
def wi(k:Int)(m:Nat):Nat:=(max 0 (min k m)).toNat
theorem Gb(k:Int)(m:Nat):FS 265 [i64 k,i64 m] (i64 (wi k m)):=by
 refine f_c Tryz.func265 ?_;refine r_z 1 ?_;refine r_z 5 ?_;refine ak (aY rfl ?_ ?_);simp only[i64,wi];congr 2;split <;> split <;> omega;exact ah _
def powS:Nat×Nat×Nat→AState
 |(o,x,m)=>⟨[(1,i64 m),(2,.lptr 1 0 0),(4,.lptr 2 0 0),(5,.lptr 3 0 0)],[(1,some ⟨30,1,[[mag x]]⟩),(2,some ⟨30,1,[[.emp]]⟩),(3,some ⟨30,1,[[mag o]]⟩)],4,23⟩
theorem mJ(o:Nat)(x:Nat)(m:Nat):powS (o,x,m)=⟨[(1,i64 m),(2,.lptr 1 0 0),(4,.lptr 2 0 0),(5,.lptr 3 0 0)],[(1,some ⟨30,1,[[mag x]]⟩),(2,some ⟨30,1,[[.emp]]⟩),(3,some ⟨30,1,[[mag o]]⟩)],4,23⟩:=rfl
theorem Df(x m:Nat):x^ m=(x* x) ^ (m/ 2) * (if m % 2=1 then x else 1):=by
 rw[←Nat.pow_two,←Nat.pow_mul];have:=Nat.div_add_mod m 2;split
 ·rename_i h;rw[←Nat.pow_succ];congr 1;omega
 ·rename_i h;rw[Nat.mul_one];congr 1;omega
theorem Gh(a n:Nat)(h:bl a* n≤2199023255552)(hn:n≤1000000):FS 264 [.agg [mag a],i64 n] (.agg [mag (a^ n)]):=by
 refine f_c Tryz.func264 ?_;refine r_z 2 ?_;refine r_c 3 (io 1 (by decide)) ?_;refine a_z ?_;refine bD (fun _:Unit=>⟨[(4,.lptr 2 0 0),(5,.lptr 3 0 0)],[(2,some ⟨30,1,[[.emp]]⟩),(3,some ⟨30,1,[[mag (a^ n)]]⟩)],4,23⟩) (fun _=>True) ?_ ?_;refine am (aD powS (fun x=>x.2.2) (fun x=>x.1* x.2.1^ x.2.2=a^ n∧bl x.1+bl x.2.1* x.2.2≤2199023255553∧x.2.2≤1000000) (1,a,n) ⟨by simp,by have:bl 1=1:=j2;simp only;omega,hn⟩ ?_ ?_);rw[mJ];exact s_e [(1,2),(2,4),(3,5)];rintro⟨o,x,m⟩ ⟨hv,hb,s⟩;simp only at hv hb s;rw[mJ];refine ae (r_z 2 ?_);refine aq rfl (fun h=>?_) (fun h=>?_);have c:0< m:=by simpa using h
 have y:bl x* 1≤bl x* m:=Nat.mul_le_mul_left _ c;have l:=Df x m;refine an ?_
 have C:(m:Int).tdiv 2=((m/ 2:Nat):Int):=by
  rw[Int.tdiv_eq_ediv_of_nonneg (by omega)];omega
 have t:=Nat.div_add_mod m 2;have w:=Nat.mod_lt m (show 0< 2 by decide);have i:m/ 2< m:=by omega
 have k:=jz x x;have u:=jz o x;have B:bl x* m=bl x* (2* (m/ 2))+bl x* (m % 2):=by rw[←Nat.mul_add];congr 1;omega
 have A:bl (x* x) * (m/ 2)≤bl x* (2* (m/ 2)):=by
  have:=Nat.mul_le_mul_right (m/ 2) k;rw[←Nat.two_mul,Nat.mul_comm 2,Nat.mul_assoc] at this;exact this
 have D:(m:Int) % 2=((m % 2:Nat):Int):=by omega
 have e:(m:Int) / 2=((m/ 2:Nat):Int):=by omega
 refine ae (am (bD (fun d:Nat=>powS (d,x,m)) (fun d=>d=o* (if m % 2=1 then x else 1)) ?_ ?_));refine r_z 3 ?_;refine aq rfl (fun h1=>?_) (fun h1=>?_);have g:m % 2=1:=by simp at h1;omega
 refine r_m 4 ?_;refine c_s (im o x (by omega)) ?_;refine a_z ?_;refine⟨o* x,by rw[if_pos g],?_⟩;simp only[mJ];exact s_e [];have j:¬m % 2=1:=by simp at h1;omega
 refine an ⟨o,by rw[if_neg j,Nat.mul_one],?_⟩;simp only[mJ];exact s_e [];rintro d f;rw[mJ]
 have q:bl d≤bl o+bl x* (m % 2):=by
  rw[f];split
  ·rename_i h1;rw[h1];omega
  rw[Nat.mul_one];omega
 have b:d* (x* x) ^ (m/ 2)=a^ n:=by
  rw[←hv,l,f,Nat.mul_assoc,Nat.mul_comm (if m % 2=1 then x else 1)]
 refine r_z 2 ?_;refine aq rfl (fun r=>?_) (fun r=>?_);refine r_m 4 ?_;refine c_s (im x x (by omega)) ?_;refine a_z ?_;refine r_m 3 ?_;refine a_z ?_;refine⟨(d,x* x,m/ 2),i,⟨b,by simp only;omega,by simp only;omega⟩,?_⟩;rw[mJ];have:=(congrArg (fun z=>AV.v (.int .i64 z)) e);exact s_f [];have p:m/ 2=0:=by simp at r;omega
 refine an (r_m 3 ?_);refine a_z ?_;rw[p] at b e;refine⟨(d,x,0),c,⟨by simpa using b,by simp only;omega,by simp only;omega⟩,?_⟩;rw[mJ];have:=(congrArg (fun z=>AV.v (.int .i64 z)) e);exact s_f [];have c:m=0:=by simp at h;omega
 subst c;refine aA ⟨(),trivial,?_⟩;have b:o=a^ n:=by simpa using hv
 rw[b];exact s_e [];rintro _ _;refine r_z 2 ?_;exact ak (c_e (closed_mA _))
theorem Iq(k:Int):FS 239 [i64 k] (.agg [mag (2^ wi k 256)]):=by
 have b:wi k 256≤256:=by unfold wi;omega
 have a:bl 2=2:=by decide
 refine f_c Tryz.func239 ?_;refine r_z 1 ?_;refine r_c 5 (io 2 (by decide)) ?_;refine c_s (Gb k 256) ?_;refine c_s (Gh 2 (wi k 256) (by rw[a];omega) (by omega)) ?_;refine a_z ?_;exact ak (c_e (closed_mA _))
theorem Ee(k:Nat):bl (2^ k)≤k+1:=ez (by rw[Nat.pow_succ];have:=Nat.pow_pos (n:=k) (show 0< 2 by decide);omega)
theorem rV(k:Int):FS 206 [i64 k] (.agg (qC (cY (wi k 256)))):=by
 have a:wi k 256≤256:=by unfold wi;omega
 have hb:=Ee (wi k 256);have h1:bl (1:Int).natAbs=1:=j2;refine f_c Tryz.func206 ?_;refine r_z 1 ?_;refine r_c 5 (BB 1 (by decide)) ?_;refine c_s (Iq k) ?_;refine c_s (rI 1 (2^ wi k 256) (Nat.pow_pos (by decide)) (by omega)) ?_;refine a_z ?_;exact ak (c_e (aP _))
def j4(k:Nat):Rat:=((2^ k:Nat):Int)
theorem uF(k:Nat):qs (j4 k)≤k+1:=by
 have h1:(j4 k).num=((2^ k:Nat):Int):=rfl;have a:(j4 k).den=1:=rfl;unfold qs;rw[h1,a,Int.natAbs_natCast,j2];have:=Ee k;omega
theorem qQ(k:Nat):qs (cY k)≤k+1:=by
 have h1:bl (1:Int).natAbs=1:=j2;exact gF (Nat.pow_pos (by decide)) (by omega) (Ee k)
theorem yh(a:Rat)(k:Int)(h:qs a≤549755813000):FS 232 [.agg (qC a),i64 k] (.agg (qC (a* j4 (wi k 256)))):=by
 have c:wi k 256≤256:=by unfold wi;omega
 have d:=uF (wi k 256);have b:=rH ((2^ wi k 256:Nat):Int);rw[CF] at b;refine f_c Tryz.func232 ?_;refine r_z 2 ?_;refine ae (r_d ba 7 ?_);refine c_s (Iq k) ?_;refine c_s (b) ?_;refine c_s (cN a (j4 (wi k 256)) (by omega)) ?_;refine a_1 ?_;refine au (n_k ?_);exact ak (c_e (aP _))
def fk(a:Rat)(k:Nat):Rat:=((a* j4 k).floor:Rat) * cY k
def upQ(a:Rat)(k:Nat):Rat:=sr (a* j4 k) * cY k
theorem qP(a:Rat):qs (a.floor:Rat)≤qs a+1:=by
 rw[Rat.floor_def];have h1:=dZ a;have e1:((a.num/ (a.den:Int):Int):Rat).num=a.num/ a.den:=rfl;have e2:((a.num/ (a.den:Int):Int):Rat).den=1:=rfl;have c:1≤bl a.den:=Jj a.den_pos;have d:=ei a;unfold qs at *
 rw[e1,e2,j2,wz _ _ a.den_pos,gD];have f:=fG a.num.natAbs a.den;have b:=AB (a.num.natAbs/ a.den) 1;have e:bl 1=1:=j2;split <;> omega
theorem HJ(a:Rat):qs (sr a)≤qs a+1:=by
 unfold sr;rw[fv];have:=qP (-a);rwa[fv] at this
theorem Fg(a:Rat)(k:Int)(h:sm a):FS 198 [.agg (qC a),i64 k] (.agg (qC (fk a (wi k 256)))):=by
 unfold sm at h;have d:wi k 256≤256:=by unfold wi;omega
 have b:=uF (wi k 256);have c:=dk a (j4 (wi k 256));have e:=qP (a* j4 (wi k 256));have f:=qQ (wi k 256);refine f_c Tryz.func198 ?_;refine r_z 2 ?_;refine r_c 8 (yh a k (by omega)) ?_;refine c_s (rM (a* j4 (wi k 256)) (by omega)) ?_;refine c_s (rV k) ?_;refine c_s (cN ((a* j4 (wi k 256)).floor:Rat) (cY (wi k 256)) (by omega)) ?_;refine a_z ?_;exact ak (c_e (aP _))
theorem fs_Up(a:Rat)(k:Int)(h:sm a):FS 199 [.agg (qC a),i64 k] (.agg (qC (upQ a (wi k 256)))):=by
 unfold sm at h;have d:wi k 256≤256:=by unfold wi;omega
 have b:=uF (wi k 256);have c:=dk a (j4 (wi k 256));have e:=HJ (a* j4 (wi k 256));have f:=qQ (wi k 256);refine f_c Tryz.func199 ?_;refine r_z 2 ?_;refine r_c 8 (yh a k (by omega)) ?_;refine c_s (Fc (a* j4 (wi k 256)) (by omega)) ?_;refine c_s (rV k) ?_;refine c_s (cN (sr (a* j4 (wi k 256))) (cY (wi k 256)) (by omega)) ?_;refine a_z ?_;exact ak (c_e (aP _))
theorem BJ(a:Rat)(k:Int)(h:sm a):FS 170 [.agg (qC a),i64 k] (.agg (spC (fk a (wi k 256)) (upQ a (wi k 256)))):=by
 refine f_c Tryz.func170 ?_;refine r_z 2 ?_;refine ae (r_d ba 8 ?_);refine c_s (Fg a k h) ?_;refine c_s (fs_Up a k h) ?_;refine a_2 ?_;refine au (n_k ?_);exact ak (c_e (bJ _ _))
theorem BK(a:Rat):FS 210 [.agg (qC a)] (.agg (spC a a)):=by
 refine f_c Tryz.func210 ?_;refine r_z 2 ?_;refine r_z 4 ?_;exact ak (c_e (bJ _ _))
theorem lZ(a b:Rat)(ha:sm a)(hb:sm b):FS 62 [.agg (spC a b)] (bln (decide (dB a b≤0))):=by
 refine f_c Tryz.func62 ?_;refine r_z 2 ?_;refine r_c 7 (qg a b ha hb) ?_;refine a_z ?_;exact ak (t_e (ah _))
theorem fs_SAdd(a b c d:Rat)(ha:sm a)(hb:sm b)(hc:sm c)(hd:sm d):FS 247 [.agg (spC a b),.agg (spC c d)] (.agg (spC (a+c) (b+d))):=by
 refine f_c Tryz.func247 ?_;refine r_z 3 ?_;refine ae (r_d ba 12 ?_);refine c_s (fD a c (sm2 ha hc)) ?_;refine c_s (fD b d (sm2 hb hd)) ?_;refine a_2 ?_;refine au (n_k ?_);exact ak (c_e (bJ _ _))
theorem DO(a b:Rat)(ha:sm a)(hb:sm b):FS 242 [.agg (spC a b)] (.agg (qC ((a+b) * cY 1))):=by
 have h1:qs (a+b)≤274877906945:=by have:=fX a b;unfold sm at ha hb;omega
 have c:qs (cY 1)≤2:=by decide
 refine f_c Tryz.func242 ?_;refine r_z 2 ?_;refine r_c 8 (fD a b (sm2 ha hb)) ?_;refine c_s (rV 1) ?_;refine c_s (cN (a+b) (cY 1) (by omega)) ?_;refine a_z ?_;exact ak (c_e (aP _))
theorem tw(a b:Rat)(ha:sm a)(hb:sm b):FS 94 [.agg (spC a b)] (.agg (qC (b- a))):=by
 refine f_c Tryz.func94 ?_;refine r_z 2 ?_;refine r_c 6 (lE b a (sm2 hb ha)) ?_;refine a_z ?_;exact ak (c_e (aP _))
theorem fs_Min1(c:Int):FS 120 [i64 c] (bln (decide (c< 0))):=by
 refine f_c Tryz.func120 ?_;refine r_z 1 ?_;refine r_z 3 ?_;exact ak (t_e (ah _))
theorem fs_Max1(c:Int):FS 119 [i64 c] (bln (decide (0< c))):=by
 refine f_c Tryz.func119 ?_;refine r_z 1 ?_;refine r_z 3 ?_;exact ak (t_e (ah _))
def Aw(g:Nat)(l:List Rat):Nat×List AV→AState
 |(i,o)=>⟨[(0,.clos g [] []),(4,.lptr 1 0 0),(5,.lptr 2 0 0),(8,.arr (pE l)),(9,i64 l.length),(10,i64 i)],[(1,some ⟨34,3,[zC]⟩),(2,some ⟨34,3,[o]⟩)],3,27⟩
theorem yj(g:Nat)(bf:Int→Bool)(hg:∀c,FS g [i64 c] (bln (bf c)))(l:List Rat)(hl:smL l)(hln:l.length≤1099511627776):FS 118 [.clos g [] [],.arr (pE l)] (.agg (qC (dO bf l))):=by
 refine f_n Tryz.func118 ?_ ?_;exact ac (aU ag ag) (ac (aC l) ag);refine r_z 1 ?_;refine r_z 1 ?_;refine ae (r_z 3 ?_);refine aH (fun _:Unit=>⟨[(4,.lptr 1 0 0),(5,.lptr 2 0 0)],[(1,some ⟨34,3,[zC]⟩),(2,some ⟨34,3,[qC (dO bf l)]⟩)],3,27⟩) (fun _=>True) ?_ ?_;refine am (aD (fun x:Nat×List AV=>Aw g l x) (fun x=>l.length- x.1) (fun x=>x.1≤l.length∧((x.1=0→x.2=zC)∧(x.1≠0→x.2=qC (dO bf (l.take x.1))))) (0,zC) ⟨Nat.zero_le _,fun _=>rfl,fun h=>absurd rfl h⟩ ?_ ?_);simp only[Aw.eq_1];exact s_e [(1,4),(2,5)];rintro⟨i,o⟩ ⟨u,b,n⟩;simp only at u b n;simp only[Aw.eq_1];refine r_z 1 ?_;refine ae (aq rfl (fun h=>?_) (fun h=>?_));refine an ?_;have j:i< l.length:=by simpa using h
 obtain⟨q,e⟩:∃q,l[i]?=some q:=⟨_,List.getElem?_eq_getElem j⟩;have d:(pE l)[((i:Nat):Int).toNat]?=some (qC q):=pE_get e;have f:sm q:=hl q (List.mem_of_getElem? e);have k:sm (dO bf (l.take i)):=qt fun q e=>hl q (List.mem_of_mem_take e);have a:=Ax bf (l.take i) q;rw[←dt e] at a;refine ae (am (s_r 6 ?_));refine a_1 ?_;refine i_x d ?_;refine l_x d ?_;refine a_z ?_;refine AWp.cutB (fun _:Unit=>Aw g l (i,qC (dO bf (l.take (i+1))))) (fun _=>True) ?_ ?_;by_cases h0:i=0;subst h0;have:=b rfl;subst this;rw[if_pos (.inl (by simp))] at a;refine s_r 9 ?_;refine a_3 ?_;refine n_g rfl d_t ?_;refine n_g rfl d_t ?_;refine n_g rfl d_t ?_;refine n_g rfl d_t ?_;refine n_g rfl d_t ?_;refine o_0 (.pickT rfl d_t rfl) ?_;refine au ?_;refine aq rfl (fun h=>?_) (fun h=>?_);refine r_m 2 ?_;refine a_z ?_;refine⟨(),trivial,?_⟩;simp only[Aw.eq_1];rw[a];exact s_e [];cases h;have m:o=qC (dO bf (l.take i)):=n h0;subst m
 have p:l.take i≠[]:=fun h=>by
  have:=congrArg List.length h;rw[List.length_take,List.length_nil] at this;omega
 refine s_r 9 ?_;refine a_3 ?_;refine y_g rfl (by simp;omega) (.move rfl) ?_;refine y_g rfl (by simp;omega) (.load_l rfl rfl rfl TG.h TS.h (nle rfl)) ?_;refine y_g rfl (by simp;omega) (.load_l rfl rfl rfl TG.h TS.h (nle rfl)) ?_;refine y_g rfl (by simp;omega) (.call rfl rfl rfl (qg q (dO bf (l.take i)) f k)) ?_;refine y_g rfl (by simp;omega) (.call rfl rfl rfl (hg (dB q (dO bf (l.take i))))) ?_;refine o_0 (.pickF rfl (by simp;omega) rfl) ?_;refine au ?_;refine aq rfl (fun h1=>?_) (fun h1=>?_);refine r_m 2 ?_;refine a_z ?_;refine⟨(),trivial,?_⟩;simp only[Aw.eq_1];rw[a,if_pos (.inr h1)];exact s_e [];refine an ⟨(),trivial,?_⟩;simp only[Aw.eq_1];rw[a,if_neg (fun t=>t.elim p fun s=>by rw[h1] at s;cases s)];exact s_e [];rintro _ _;rw[Aw.eq_1];refine r_m 2 ?_;refine a_z ?_;refine⟨(i+1,qC (dO bf (l.take (i+1)))),by simp only;omega,⟨by simp only;omega,fun h=>absurd h (by simp),fun _=>rfl⟩,?_⟩;simp only[Aw.eq_1];exact s_e [];have r:i=l.length:=by simp at h;omega
 refine aA ⟨(),trivial,?_⟩;subst r;by_cases h0:l.length=0;have:=b h0;subst this
 have:dO bf l=0:=by
  rw[List.length_eq_zero_iff] at h0;rw[h0];rfl
 rw[this,qC0];exact s_e [];have:=n h0;subst this;rw[List.take_length];exact s_e [];rintro _ _;refine r_z 2 ?_;exact ak (c_e (aP _))
theorem zU(l:List Rat)(hl:smL l)(hln:l.length≤1099511627776):FS 61 [.arr (pE l)] (.agg (qC (eV l))):=by
 refine f_c Tryz.func61 ?_;refine r_z 1 ?_;refine r_c 3 (yj 120 _ fs_Min1 l hl hln) ?_;refine a_z ?_;exact ak (c_e (aP _))
theorem tz(l:List Rat)(hl:smL l)(hln:l.length≤1099511627776):FS 60 [.arr (pE l)] (.agg (qC (dM l))):=by
 refine f_c Tryz.func60 ?_;refine r_z 1 ?_;refine r_c 3 (yj 119 _ fs_Max1 l hl hln) ?_;refine a_z ?_;exact ak (c_e (aP _))
theorem mI{a b:Rat}(ha:sm a)(hb:sm b):smL [a,b]:=by
 intro q c;simp at c;rcases c with rfl|rfl
 exact ha;exact hb
theorem BH(a b c d:Rat)(ha:sm a)(hb:sm b)(hc:sm c)(hd:sm d):FS 171 [.agg (spC a b),.agg (spC c d)] (.agg (spC (eV [a,c]) (dM [b,d]))):=by
 refine f_c Tryz.func171 ?_;refine r_z 3 ?_;refine ae (r_d ba 14 ?_);refine a_5 ?_;refine o_1 (.callS1 rfl rfl rfl (.shut rfl d_n (.nil)) rfl (zU [a,c] (mI ha hc) (by simp))) ?_;refine a_5 ?_;refine o_1 (.callS1 rfl rfl rfl (.shut rfl d_n (.nil)) rfl (tz [b,d] (mI hb hd) (by simp))) ?_;refine a_2 ?_;refine au (n_k ?_);exact ak (c_e (bJ _ _))
theorem Dz(l:List Rat)(hl:smL l)(hln:l.length≤1099511627776):FS 273 [.arr (pE l)] (.agg (spC (eV l) (dM l))):=by
 refine f_c Tryz.func273 ?_;refine r_z 1 ?_;refine r_c 6 (zU l hl hln) ?_;refine c_s (tz l hl hln) ?_;refine a_z ?_;exact ak (c_e (bJ _ _))
theorem fs_ends (g:Nat) (op:Rat→Rat→Rat) (a b c d:Rat) (h1:FS g [.agg (qC a),.agg (qC c)] (.agg (qC (op a c)))) (h2:FS g [.agg (qC a),.agg (qC d)] (.agg (qC (op a d)))) (h3:FS g [.agg (qC b),.agg (qC c)] (.agg (qC (op b c)))) (h4:FS g [.agg (qC b),.agg (qC d)] (.agg (qC (op b d))))
    (hs:smL [op a c,op a d,op b c,op b d]):FS 267 [.clos g [] [],.agg (spC a b),.agg (spC c d)] (.agg (spC (eV [op a c,op a d,op b c,op b d]) (dM [op a c,op a d,op b c,op b d]))):=by
 refine f_n Tryz.func267 ?_ ?_;exact ac (aU ag ag) (ac (bJ a b) (ac (bJ c d) ag));refine r_z 3 ?_;refine ae (r_d ba 27 ?_);refine c_s (h1) ?_;refine c_s (h2) ?_;refine c_s (h3) ?_;refine c_s (h4) ?_;refine a_1 ?_;refine o_1 (.callS1 rfl rfl rfl (.shut rfl d_n (.nil)) rfl (Dz [op a c,op a d,op b c,op b d] hs (by simp))) ?_;refine a_1 ?_;refine au (n_k ?_);exact ak (c_e (bJ _ _))
theorem fs_SMul(a b c d:Rat)(ha:sm a)(hb:sm b)(hc:sm c)(hd:sm d)(hs:smL [a* c,a* d,b* c,b* d]):FS 246 [.agg (spC a b),.agg (spC c d)] (.agg (spC (eV [a* c,a* d,b* c,b* d]) (dM [a* c,a* d,b* c,b* d]))):=by
 refine f_c Tryz.func246 ?_;refine r_z 3 ?_;refine r_c 4 (fs_ends 40 (fun x y=>x* y) a b c d (cN a c (sm2 ha hc)) (cN a d (sm2 ha hd)) (cN b c (sm2 hb hc)) (cN b d (sm2 hb hd)) hs) ?_;refine a_z ?_;exact ak (c_e (bJ _ _))
theorem HH(n:Int):qs (n:Rat)≤max (bl n.natAbs) 1:=by
 have e1:(n:Rat).num=n:=rfl;have e2:(n:Rat).den=1:=rfl;unfold qs;rw[e1,e2,j2];exact Nat.le_refl _
theorem HI{n:Int}(h: -9223372036854775808≤n∧n≤9223372036854775807):qs (n:Rat)≤64:=by
 have h1:=HH n;have a:bl n.natAbs≤64:=ez (Nat.lt_of_le_of_lt (show n.natAbs≤9223372036854775808 by omega) (by decide));omega
theorem fs_Of(n d:Int)(hn: -9223372036854775808≤n∧n≤9223372036854775807)(hd: -9223372036854775808≤d∧d≤9223372036854775807)(h0:d≠0):FS 35 [i64 n,i64 d] (.tup [.agg (qC ((n:Rat) / (d:Rat))),i64 0]):=by
 have h1:=HI hn;have b:=HI hd
 have a:(d:Rat)≠0:=by
  intro h;have:(d:Rat).num=0:=by rw[h];rfl
  exact h0 this
 refine f_c Tryz.func35 ?_;refine r_z 2 ?_;refine r_c 9 (ej n hn) ?_;refine c_s (ej d hd) ?_;refine c_s (DL (n:Rat) (d:Rat) a (by omega)) ?_;refine a_z ?_;refine ak (Fin.many ⟨_,_,rfl,⟨_,_,_,_,_,rfl,rfl,rfl,.inl ⟨TG.h,_,TS.h,nle rfl,rfl⟩⟩,⟨_,_,rfl,rfl,rfl⟩⟩ (nle rfl) ?_);exact ai (ao ay (aP _)) (ai (ao ay (ah _)) aw)
theorem IQ(l:List Rat)(hl:l.length≤1099511627776):FS 109 [.arr (pE l)] (.arr (pE l)):=by
 cases l with
 |nil=>
  refine FSpec.nil1 fun a c=>?_;refine f_c Tryz.func109 ?_;refine r_z 1 ?_;refine ae (r_z 2 ?_);refine aq rfl (fun h=>?_) (fun h=>?_);refine r_z 1 ?_;exact ak (Fin.tmpN rfl)
  ·refine an (s_r 4 ?_)
   refine a_2 ?_;refine o_2 (.append_l rfl rfl rfl te_36.h rfl rfl rfl rfl rfl d_o (by first|exact gf _|exact gd _|exact fc _|exact gi _|exact fW _|assumption|rfl|simp) (by first|rfl|exact gf _|exact gd _|exact fc _|exact gi _|exact fW _|simp) rfl (.vnil) TZ.h rfl TB.h d_o (by first|(simp[maxLen];done)|(simp[maxLen];omega))) ?_;refine a_z ?_;exact ak (Fin.tmpS rfl rfl rfl rfl (aV []))
 |cons q l=>
  have b:pE (q::l)≠[]:=by simp[pE]
  simp at hl;refine f_c Tryz.func109 ?_;refine r_z 1 ?_;refine ae (s_r 2 ?_);refine a_1 ?_;refine ci (.nilq_arr rfl (b) rfl te_36.h) rfl rfl ?_;refine au ?_;refine cF ?_
  ·refine an (s_r 4 ?_)
   refine a_2 ?_;refine o_2 (.append_l rfl rfl rfl te_36.h rfl rfl rfl rfl rfl d_o (by first|exact gf _|exact gd _|exact fc _|exact gi _|exact fW _|assumption|rfl|simp) (by first|rfl|exact gf _|exact gd _|exact fc _|exact gi _|exact fW _|simp) rfl (.arr (mL _)) TZ.h rfl TB.h d_o (by first|(simp[maxLen];done)|(simp[maxLen];omega))) ?_;refine a_z ?_;exact ak (Fin.tmpS rfl rfl rfl (by simp) (aV _))
def trS(l:List Rat):Nat→AState
 |n=>⟨[(0,.arr (pE l)),(3,i64 n)],[],1,23⟩
theorem eC(l:List Rat)(hl:l.length≤1099511627776):FS 46 [.arr (pE l)] (.arr (pE (aj l))):=by
 refine f_c Tryz.func46 ?_;refine r_z 1 ?_;refine r_z 3 ?_;refine bD (trS l) (fun n=>n≤l.length∧aj l=l.take n) ?_ ?_;refine am (aD (trS l) (fun n=>n) (fun n=>n≤l.length∧aj l=aj (l.take n)) l.length ⟨Nat.le_refl _,by rw[List.take_length]⟩ ?_ ?_);simp only[trS.eq_1];exact s_e [];rintro n ⟨f,ht⟩;rw[trS.eq_1];cases n with
 |zero=>
  refine ae (s_r 11 ?_);refine a_3 ?_;refine n_g rfl (by simp) ?_;refine n_g rfl (by simp) ?_;refine n_g rfl (by simp) ?_;refine n_g rfl (by simp) ?_;refine n_g rfl (by simp) ?_;refine n_g rfl (by simp) ?_;refine n_g rfl (by simp) ?_;refine o_0 (.pickF rfl (by simp) rfl) ?_;refine au ?_;refine cF ?_;refine aA ⟨0,⟨Nat.zero_le _,?_⟩,?_⟩;rw[ht];rfl;simp only[trS.eq_1];exact s_e []
 |succ n=>
  obtain⟨q,d⟩:∃q,l[n]?=some q:=⟨_,List.getElem?_eq_getElem (by omega)⟩
  have a:(pE l)[(((n+1:Nat):Int)- 1).toNat]?=some (qC q):=by
   rw[show(((n+1:Nat):Int)- 1).toNat=n by omega];exact pE_get d
  have hs:aj (l.take (n+1))=if q=0 then aj (l.take n) else l.take (n+1):=by
   rw[dt d,mD]
  refine ae (s_r 11 ?_);refine a_3 ?_;refine y_g rfl (by simp <;> omega) (.move rfl) ?_;refine y_g rfl (by simp <;> omega) (.move rfl) ?_;refine y_g rfl (by simp <;> omega) (.bin rfl rfl (sG (by omega))) ?_;refine y_g rfl (by simp <;> omega) (.index_a rfl rfl (by omega) a rfl te_36.h) ?_;refine y_g rfl (by simp <;> omega) (.load_a rfl a TG.h TS.h (nle rfl)) ?_;refine y_g rfl (by simp <;> omega) (.call rfl rfl rfl (cx q)) ?_;refine y_g rfl (by simp <;> omega) (.bin rfl rfl db) ?_;refine o_0 (.pickT rfl (by simp <;> omega) rfl) ?_;refine au ?_;refine aq rfl (fun h=>?_) (fun h=>?_)
  have b:q=0:=by
   have h1:sgZ q.num=0:=by simpa using h
   exact sgZ_num_eq.1 h1
  refine an (am (r_m 3 ?_));refine a_z ?_;refine⟨n,Nat.lt_succ_self n,⟨by omega,?_⟩,?_⟩;rw[ht,hs,if_pos b];simp only[trS.eq_1];exact s_e []
  have b:q≠0:=by
   intro e;have h1:¬sgZ q.num=0:=by simpa using h
   exact h1 (sgZ_num_eq.2 e)
  refine aA ⟨n+1,⟨f,?_⟩,?_⟩;rw[ht,hs,if_neg b];simp only[trS.eq_1];exact s_e []
 rintro n ⟨f,ht⟩;rw[trS.eq_1];have c:=IQ (l.take n) (by simp;omega);refine s_r 5 ?_;refine a_2 ?_;refine o_0 (.sa_h rfl rfl (h:=n) rfl (by simp;omega) te_36.h (mL _)) ?_;refine o_0 (.call rfl rfl rfl ((by rw[uI];exact c))) ?_;refine o_0 (.assign rfl) ?_;refine au ?_;refine ak (aY rfl ?_ ?_);rw[ht];exact aK (aV _)
theorem eE(l:List Rat)(hl:l.length≤1099511627776):FS 10 [.arr (pE l)] (i64 (cQ l)):=by
 have:=bO l;refine f_c Tryz.func10 ?_;refine r_z 1 ?_;refine r_c 5 (eC l hl) ?_;refine a_z ?_;exact ak (t_e (ah _))
theorem uX(l:List Rat)(hl:l.length≤1099511627776):FS 22 [.arr (pE l)] (.agg (qC (aF l))):=by
 have a:=bO l;refine f_c Tryz.func22 ?_;refine r_z 1 ?_;refine r_c 3 (eC l hl) ?_;refine a_z ?_;refine ae (r_z 3 ?_);refine aq rfl (fun h=>?_) (fun h=>?_)
 have c:aj l=[]:=by
  have h1:(aj l).length=0:=by simpa using h
  exact List.length_eq_zero_iff.1 h1
 rw[th c];refine r_z 2 ?_;refine ak (Fin.cell rfl rfl rfl TG.h TS.h (nle rfl) (Cv.agg ?_));rw[qC0];exact ai (Cv.emp _) (ai (ao ay (ah _)) (ai (Cv.emp _) aw))
 obtain⟨n,b⟩:∃n,(aj l).length=n+1:=⟨(aj l).length- 1,by
  have h1:¬(aj l).length=0:=by simpa using h
  omega⟩
 have hg:(pE (aj l))[(((aj l).length:Int)- 1).toNat]?=some (qC (aF l)):=by
  rw[b,show(((n+1:Nat):Int)- 1).toNat=n by omega];exact pE_get (c8 b)
 refine an (s_r 7 ?_);refine a_4 ?_;refine i_x hg ?_;refine l_x hg ?_;refine a_z ?_;exact ak (c_e (aP _))
theorem fs_at(l:List Rat)(i:Nat):FS 80 [.arr (pE l),i64 i] (.agg (qC (coP l i))):=by
 refine f_c Tryz.func80 ?_;refine r_z 1 ?_;refine ae (r_z 4 ?_);refine aq rfl (fun h=>?_) (fun h=>?_);have b:i< l.length:=by simpa using h
 have hg:(pE l)[((i:Nat):Int).toNat]?=some (qC (coP l i)):=pE_get (cK b);refine s_r 5 ?_;refine a_2 ?_;refine i_x hg ?_;refine l_x hg ?_;refine a_z ?_;exact ak (c_e (aP _));have a:l.length≤i:=by simpa using h
 rw[ef a];refine an (r_z 2 ?_);refine ak (Fin.cell rfl rfl rfl TG.h TS.h (nle rfl) (Cv.agg ?_));rw[qC0];exact ai (Cv.emp _) (ai (ao ay (ah _)) (ai (Cv.emp _) aw))
theorem eE_set{n i e:Nat}{f:Nat→Rat}(h:i< n)(he:e=i):(pE (aW i f)++List.replicate (n- i) zC).set e (qC (f i))=pE (aW (i+1) f)++List.replicate (n- (i+1)) zC:=by
 subst he;obtain⟨k,rfl⟩:∃k,n=e+1+k:=⟨n- (e+1),by omega⟩;rw[show e+1+k- e=k+1 by omega,show e+1+k- (e+1)=k by omega,List.replicate_succ,List.set_append_right _ _ (by simp)];simp[aW,List.range_succ,pE]
theorem eE_get{n i e:Nat}{f:Nat→Rat}(h:i< n)(he:e=i):(pE (aW i f)++List.replicate (n- i) zC)[e]?=some zC:=by
 subst he;rw[List.getElem?_append_right (by simp),List.getElem?_replicate,if_pos (by simp;omega)]
theorem tQ(n i:Nat)(f:Nat→Rat):∀e∈pE (aW i f)++List.replicate (n- i) zC,∀c∈e,Closed c:=by
 intro e a;rcases List.mem_append.1 a with a|a
 exact aV _ e a;rw[List.eq_of_mem_replicate a];exact oV
def IW(n:Nat)(f:Nat→Rat)(g:Nat)(cap:List AV):Nat→AState
 |i=>⟨[(1,.clos g [] cap),(5,.lsl 1 0 n (some n) 3),(10,i64 n),(11,i64 i)],[(1,some ⟨34,3,pE (aW i f)++List.replicate (n- i) zC⟩)],2,23⟩
theorem uU(n:Nat)(f:Nat→Rat)(g:Nat)(cap:List AV)(hn:n≤1099511627776)(hcap:∀c∈cap,Closed c)(hg:∀i,i< n→FS g ((i64 i::cap).map coe) (.agg (qC (f i)))):FS 50 [i64 n,.clos g [] cap] (.arr (pE (aj (aW n f)))):=by
 refine f_n Tryz.func50 ?_ ?_;exact ac (ah _) (ac (aU ag hcap) ag);refine r_z 1 ?_;refine r_z 3 ?_;refine ae (r_z 3 ?_);refine aH (fun _:Unit=>IW n f g cap n) (fun _=>True) ?_ ?_;refine am (aD (IW n f g cap) (fun i=>n- i) (fun i=>i≤n) 0 (Nat.zero_le _) ?_ ?_);simp only[IW.eq_1];refine s_x [(1,5)] (fun hs=>e_1) (fun hs=>?_)
 ·repeat' (first|exact aI|refine h_c ?_ ?_|exact aT hs rfl (tQ n 0 f)|exact cu|refine aG ?_|exact aw|refine ai ?_ ?_|exact ao hs (aU ag hcap)|exact bm)
 rintro i e;rw[IW.eq_1];refine r_z 1 ?_;refine ae (aq rfl (fun h=>?_) (fun h=>?_));refine an ?_;have a:i< n:=by simpa using h
 refine ae (am (r_z 2 ?_));refine r_m 7 ?_;refine c_s (hg i a) ?_;refine a_1 ?_;refine fY (.store rfl rfl (eE_get a (Nat.zero_add i)) rfl rfl rfl TS.h (nle rfl)) ?_;refine au ?_;refine r_m 2 ?_;refine a_z ?_;refine⟨i+1,by omega,a,?_⟩;simp only[IW.eq_1];refine s_x [] (fun hs=>e_1) (fun hs=>?_)
 ·repeat' (first|exact aI|refine h_c ?_ ?_|exact aT hs (eE_set a (Nat.zero_add i)) (tQ n (i+1) f)|exact cu|refine aG ?_|exact aw|refine ai ?_ ?_|exact ao hs (aU ag hcap)|exact bm)
 have d:i=n:=by
  have:¬i< n:=by simpa using h
  omega
 subst d;refine aA ⟨(),trivial,?_⟩;simp only[IW.eq_1];refine s_x [] (fun hs=>e_1) (fun hs=>?_)
 ·repeat' (first|exact aI|refine h_c ?_ ?_|exact cv hs (tQ i i f)|exact cu|refine aG ?_|exact aw|refine ai ?_ ?_|exact ao hs (aU ag hcap)|exact bm)
 rintro _ _;rw[IW.eq_1]
 have b:List.take n (List.drop 0 (pE (aW n f)++List.replicate (n- n) zC))=pE (aW n f):=by
  rw[Nat.sub_self,List.replicate_zero,List.append_nil,List.drop_zero,List.take_of_length_le (by simp)]
 refine s_r 3 ?_;refine a_1 ?_;refine o_1 (.callS1 rfl rfl rfl (.shut rfl d_n (.nil)) rfl ((by rw[b];exact eC (aW n f) (by simp;exact hn)))) ?_;refine a_z ?_;exact ak (t_e (aK (aV _)))
abbrev bP(p:List Rat):AV:= .aptr [[.arr (pE p)]] 0 0
abbrev bQ(q:Rat):AV:= .aptr [qC q] 0 0
theorem dj(p:List Rat):Closed (bP p):=bC (ac (aC p) ag)
theorem b7(q:Rat):Closed (bQ q):=bC (a7 q)
theorem fs_Add1(p q:List Rat)(i:Nat)(hp:smL p)(hq:smL q):FS 79 [i64 i,bP p,bP q] (.agg (qC (coP p i+coP q i))):=by
 refine f_c Tryz.func79 ?_;refine r_z 1 ?_;refine ae (r_d ba 8 ?_);refine c_s (fs_at p i) ?_;refine c_s (fs_at q i) ?_;refine c_s (fD (coP p i) (coP q i) (sm2 (tN hp i) (tN hq i))) ?_;refine a_1 ?_;refine au (n_k ?_);exact ak (c_e (aP _))
theorem qj(p q:List Rat)(hp:smL p)(hq:smL q)(hp1:p.length≤1099511627776)(hq1:q.length≤1099511627776):FS 27 [.arr (pE p),.arr (pE q)] (.arr (pE (fV p q))):=by
 refine f_c Tryz.func27 ?_;refine r_z 3 ?_;refine AWp.ent (st':=⟨[(2,bP p),(3,bP q)],[],1,12⟩) ?_ ?_;exact s_e []
 have b:(if ((q.length:Nat):Int)>(p.length:Nat) then((q.length:Nat):Int) else(p.length:Nat))=((max p.length q.length:Nat):Int):=by
  rw[Nat.max_def];split <;> split <;> omega
 have a:=uU (max p.length q.length) (fun i=>coP p i+coP q i) 79 [bP p,bP q] (Nat.max_le.2 ⟨hp1,hq1⟩) (ac (dj p) (ac (dj q) ag)) (fun i _=>fs_Add1 p q i hp hq);rw[←b] at a;refine r_c 8 (a) ?_;refine a_z ?_;exact ak (t_e (aC _))
theorem Gs(p:List Rat)(k:Rat)(i:Nat)(hp:smL p)(hk:sm k)(hi:i< p.length):FS 53 [i64 i,bP p,bQ k] (.agg (qC (coP p i* k))):=by
 have hg:(pE p)[((i:Nat):Int).toNat]?=some (qC (coP p i)):=pE_get (cK hi);refine f_c Tryz.func53 ?_;refine r_z 1 ?_;refine ae (r_d ba 7 ?_);refine a_2 ?_;refine i_x hg ?_;refine l_x hg ?_;refine c_s (cN (coP p i) k (sm2 (tN hp i) hk)) ?_;refine a_1 ?_;refine au (n_k ?_);exact ak (c_e (aP _))
theorem iq(p:List Rat)(k:Rat)(hp:smL p)(hk:sm k)(hp1:p.length≤1099511627776):FS 15 [.arr (pE p),.agg (qC k)] (.arr (pE (aL p k))):=by
 have b:=uU p.length (fun i=>coP p i* k) 53 [bP p,bQ k] hp1 (ac (dj p) (ac (b7 k) ag)) (fun i a=>Gs p k i hp hk a);refine f_c Tryz.func15 ?_;refine r_z 3 ?_;refine AWp.ent (st':=⟨[(2,bP p),(3,bQ k)],[],1,9⟩) ?_ ?_;exact s_e [];refine r_c 5 (b) ?_;refine a_z ?_;exact ak (t_e (aC _))
theorem iR(a b:Rat)(hb:b≠0)(h:qs a+qs b≤549755813888):FS 52 [.agg (qC a),.agg (qC b)] (.agg (qC (a/ b))):=by
 refine f_c Tryz.func52 ?_;refine r_z 3 ?_;refine r_c 9 (DL a b hb h) ?_;refine a_z ?_;refine r_z 2 ?_;exact ak (c_e (aP _))
theorem uq(a:Rat):FS 112 [.agg (qC a)] (.arr (pE (b9 a))):=by
 refine f_c Tryz.func112 ?_;refine r_z 2 ?_;refine s_r 4 ?_;refine a_2 ?_;refine o_1 (.callS1 rfl rfl rfl (.shut rfl d_n (.nil)) rfl ((eC [a] (by simp)))) ?_;refine a_z ?_;exact ak (t_e (aC _))
theorem fs_line(a:Rat):FS 48 [.agg (qC a)] (.arr (pE [a,1])):=by
 refine f_c Tryz.func48 ?_;refine r_z 2 ?_;refine ae (r_d ba 4 ?_);refine c_s (ej 1 (by decide)) ?_;refine a_2 ?_;refine au (n_k ?_);exact ak (Fin.tmpS rfl rfl rfl rfl (aV [a,1]))
theorem sm_neg1{a:Rat}(h:sm a):sm (a* (-1)):=by
 unfold sm at *
 rw[show a* (-1)= -a by rw[Rat.mul_comm,Rat.neg_mul,Rat.one_mul],fv];exact h
theorem qs_inv(b:Rat)(hb:b≠0):qs (1/ b)≤qs b:=by
 rw[tI 1 b hb];have c:b.num≠0:=fun e=>hb (Rat.num_eq_zero.1 e);have h1:=dZ b;have a:=ei b
 refine gF (by have:0< b.num.natAbs:=by omega
               show 0< 1* b.num.natAbs;omega) ?_ ?_
 show bl ((1:Int) * sgn (decide (b.num< 0)) b.den).natAbs≤qs b;rw[Int.one_mul,gD];exact a;show bl (1* b.num.natAbs)≤qs b;rw[Nat.one_mul];exact h1
theorem CW{q:List Rat}(h:smL q):smL (aL q (-1)):=by
 refine vy fun x a=>?_;obtain⟨i,_,rfl⟩:=List.mem_map.1 a;exact sm_neg1 (tN h i)
theorem zT(p q:List Rat)(hp:smL p)(hq:smL q)(hp1:p.length≤1099511627776)(hq1:q.length≤1099511627776):FS 11 [.arr (pE p),.arr (pE q)] (.arr (pE (cn p q))):=by
 have a:=dn q (-1);refine f_c Tryz.func11 ?_;refine r_z 1 ?_;refine r_c 6 (ej (-1) (by decide)) ?_;refine c_s (iq q (-1) hq (by decide) hq1) ?_;refine c_s (qj p (aL q (-1)) hp (CW hq) hp1 (by omega)) ?_;refine a_z ?_;exact ak (t_e (aC _))
theorem wl(p:List Rat)(hp:smL p)(hp1:p.length≤1099511627776):FS 237 [.arr (pE p)] (.arr (pE (cI p))):=by
 have a:=H7 hp;refine f_c Tryz.func237 ?_;refine r_z 1 ?_;refine ae (r_c 3 (eE p hp1) ?_);refine a_z ?_;refine aq rfl (fun h=>?_) (fun h=>?_)
 have c:aj p=[]:=by
  have h1:cQ p< 0:=by simpa using h
  unfold cQ at h1;exact List.length_eq_zero_iff.1 (by omega)
 refine r_z 1 ?_;refine ak ?_;unfold cI;rw[if_pos c];exact Fin.tmpN rfl
 have c:aj p≠[]:=by
  intro e;have h1:¬cQ p< 0:=by simpa using h
  unfold cQ at h1;rw[e] at h1;exact h1 (by decide)
 have b:=c9 c;have d:=qs_inv (aF p) b;unfold sm at a;have h1:qs 1=1:=by decide
 unfold cI;rw[if_neg c];refine an (r_c 7 (ej 1 (by decide)) ?_);refine c_s (uX p hp1) ?_;refine c_s (iR 1 (aF p) b (by omega)) ?_;refine c_s (iq p (1/ aF p) hp (by unfold sm;omega) hp1) ?_;refine a_z ?_;exact ak (t_e (aC _))
theorem Ba(i:Nat)(h:i≤1099511627776):qs (((i:Nat):Int):Rat)≤64:=by
 refine Nat.max_le.2 ⟨?_,?_⟩;show bl ((i:Int)).natAbs≤64;rw[Int.natAbs_natCast];exact ez (by omega);show bl 1≤64;decide
theorem DQ(p:List Rat)(i:Nat)(hp:smL p)(hi:i+1< p.length)(hp1:p.length≤1099511627776):FS 200 [i64 i,bP p] (.agg (qC (coP p (i+1) * ((i+1:Nat):Int)))):=by
 have hg:(pE p)[(((i:Nat):Int)+1).toNat]?=some (qC (coP p (i+1))):=by
  rw[show(((i:Nat):Int)+1).toNat=i+1 by omega];exact pE_get (cK hi)
 have hs:=tN hp (i+1);have b:=Ba (i+1) (by omega);unfold sm at hs;have a:=ej (((i:Nat):Int)+1) (by omega);rw[show((i:Nat):Int)+1=((i+1:Nat):Int) by omega] at a;refine f_c Tryz.func200 ?_;refine r_z 1 ?_;refine ae (r_d ba 10 ?_);refine a_3 ?_;refine i_x hg ?_;refine l_x hg ?_;refine c_s (a) ?_;refine c_s (cN (coP p (i+1)) ((i+1:Nat):Int) (by omega)) ?_;refine a_1 ?_;refine au (n_k ?_);exact ak (c_e (aP _))
theorem tA(p:List Rat)(hp:smL p)(hp1:p.length≤1099511627776):FS 172 [.arr (pE p)] (.arr (pE (aN p))):=by
 have a:=uU (p.length- 1) (fun i=>coP p (i+1) * ((i+1:Nat):Int)) 200 [bP p] (by omega) (ac (dj p) ag) (fun i c=>DQ p i hp (by omega) hp1);have b:(if (0:Int)>((p.length:Nat):Int)- 1 then(0:Int) else((p.length:Nat):Int)- 1)=((p.length- 1:Nat):Int):=by split <;> omega
 rw[←b] at a;refine f_c Tryz.func172 ?_;refine r_z 2 ?_;refine AWp.ent (st':=⟨[(1,bP p)],[],1,9⟩) ?_ ?_;exact s_e [];refine r_c 7 (a) ?_;refine a_z ?_;exact ak (t_e (aC _))
theorem zV(p:List Rat)(i:Nat)(hp:smL p)(hi:i< p.length+1)(hp1:p.length≤1099511627775):FS 51 [i64 i,bP p] (.agg (qC (if i=0 then 0 else coP p (i- 1) / ((i:Nat):Int)))):=by
 refine f_c Tryz.func51 ?_;refine r_z 1 ?_;refine ae (r_z 2 ?_);refine aq rfl (fun h=>?_) (fun h=>?_)
 have a:i=0:=by
  have h1:(i:Int)=0:=by simpa using h
  omega
 rw[if_pos a];refine r_z 2 ?_;refine ak (Fin.cell rfl rfl rfl TG.h TS.h (nle rfl) (Cv.agg ?_));rw[qC0];exact ai (Cv.emp _) (ai (ao ay (ah _)) (ai (Cv.emp _) aw))
 have a:i≠0:=by
  intro e;have h1:¬(i:Int)=0:=by simpa using h
  omega
 rw[if_neg a]
 have hg:(pE p)[(((i:Nat):Int)- 1).toNat]?=some (qC (coP p (i- 1))):=by
  rw[show(((i:Nat):Int)- 1).toNat=i- 1 by omega];exact pE_get (cK (by omega))
 have hs:=tN hp (i- 1);have b:=Ba i (by omega);unfold sm at hs;refine an (ae (r_d ba 9 ?_));refine a_3 ?_;refine i_x hg ?_;refine l_x hg ?_;refine c_s (ej ((i:Nat):Int) (by omega)) ?_;refine c_s (iR (coP p (i- 1)) ((i:Nat):Int) (by intro e;have e2:=congrArg Rat.num e;simp at e2;omega) (by omega)) ?_;refine a_1 ?_;refine au (n_k ?_);exact ak (c_e (aP _))
theorem nY(p:List Rat)(hp:smL p)(hp1:p.length≤1099511627775):FS 14 [.arr (pE p)] (.arr (pE (ax p))):=by
 have a:=uU (p.length+1) (fun i=>if i=0 then 0 else coP p (i- 1) / ((i:Nat):Int)) 51 [bP p] (by omega) (ac (dj p) ag) (fun i b=>zV p i hp b hp1);rw[show((p.length+1:Nat):Int)=((p.length:Nat):Int)+1 by omega] at a;refine f_c Tryz.func14 ?_;refine r_z 2 ?_;refine AWp.ent (st':=⟨[(1,bP p)],[],1,8⟩) ?_ ?_;exact s_e [];refine r_c 6 (a) ?_;refine a_z ?_;exact ak (t_e (aC _))

end Go.Proofs.YtkhclghbcicapaaGreatDoor
