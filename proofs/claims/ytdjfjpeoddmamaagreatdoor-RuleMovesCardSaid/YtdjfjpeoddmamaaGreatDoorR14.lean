/- Part R14 of the proof. -/
import Derived.Test.YtdjfjpeoddmamaaGreatDoorR13
set_option linter.all false
namespace Go.Proofs.YtdjfjpeoddmamaaGreatDoor
open Go.Abs
set_option maxRecDepth 20000
theorem cX_(a b:Rat)(h:qs a+qs b≤549755813888):FSpec Tryz.prog 19 [.agg (qC a),.agg (qC b)] (.agg (qC (a* b))):=by
 have hp:=hk_ a b
 have h1:=cD_ a;have h2:=cp_ a;have h3:=cD_ b;have h4:=cp_ b
 rw[en_]
 refine f_n Tryz.func19 ?_ ?_
 exact aa_ (am_ a) (aa_ (am_ b) ab_)
 refine r_z 3 ?_
 refine ac_ (r_d hmix 12 ?_)
 refine c_s (lr_ a.num b.num (by omega)) ?_
 refine c_s (ch_ a (by omega)) ?_
 refine c_s (ch_ b (by omega)) ?_
 refine c_s (dt_ a.den b.den (by omega)) ?_
 refine c_s (i1_ (a.num* b.num) (a.den* b.den) (fR_ a b) (by omega)) ?_
 refine a_1 ?_
 refine ak_ (n_k ?_)
 exact af_ (c_e (am_ _))
theorem zI_nat(n:Nat):zI (n:Int)=[mag n,bln false]:=by
 unfold zI;rw[Int.natAbs_natCast];rfl
theorem mo_(x:Int)(n:Nat)(h:bl x.natAbs+bl n≤17592186044416):FSpec Tryz.prog 91 [.agg (zI x),.agg [mag n,bln false]] (.agg (zI (x* n))):=by
 have:=lr_ x n (by simpa using h)
 rwa[zI_nat] at this
theorem e7_(a b:Rat)(h:qs a+qs b≤549755813888):FSpec Tryz.prog 89 [.agg (qC a),.agg (qC b)] (.agg (qC (a+b))):=by
 have hp:=k4_ a b
 have h1:=cD_ a;have h2:=cp_ a;have h3:=cD_ b;have h4:=cp_ b
 have e1:=bZ_ (x:=a.num) (y:=b.den) h1 (by simpa using h4)
 have e2:=bZ_ (x:=b.num) (y:=a.den) h3 (by simpa using h2)
 rw[k5_]
 refine f_n Tryz.func89 ?_ ?_
 exact aa_ (am_ a) (aa_ (am_ b) ab_)
 refine r_z 3 ?_
 refine ac_ (r_d hmix 8 ?_)
 refine c_s (ch_ a (by omega)) ?_
 refine c_s (ch_ b (by omega)) ?_
 refine a_4 ?_
 refine ak_ (n_k ?_)
 refine ac_ (r_d hmix 16 ?_)
 refine c_s (mo_ a.num b.den (by omega)) ?_
 refine c_s (mo_ b.num a.den (by omega)) ?_
 refine c_s (fs_iadd (a.num* b.den) (b.num* a.den) (by omega)) ?_
 refine c_s (dt_ a.den b.den (by omega)) ?_
 refine c_s (i1_ (a.num* b.den+b.num* a.den) (a.den* b.den) (fR_ a b) (by omega)) ?_
 refine a_1 ?_
 refine ak_ (n_k ?_)
 exact af_ (c_e (am_ _))
theorem ok_(a:Rat):qC (-a)=zI (sgn (!decide (a.num< 0)) a.num.natAbs)++[mag (a.den- 1)]:=by
 unfold qC
 rw[Rat.neg_num,Rat.neg_den]
 have e: -a.num=sgn (!decide (a.num< 0)) a.num.natAbs:=by
  unfold sgn
  by_cases h:a.num< 0
  simp[h];omega
  simp[h];omega
 rw[e];rfl
theorem gu_(a:Rat):FSpec Tryz.prog 58 [.agg (qC a)] (.agg (qC (-a))):=by
 have hc:=am_ (-a)
 rw[ok_] at hc⊢
 refine f_n Tryz.func58 ?_ ?_
 exact aa_ (am_ a) ab_
 refine r_z 2 ?_
 refine ac_ (r_d hmix 12 ?_)
 refine c_s (cg_ (!decide (a.num< 0)) a.num.natAbs) ?_
 refine a_4 ?_
 refine ak_ (n_k ?_)
 exact af_ (c_e (hc))
theorem kj_(a b:Rat)(h:qs a+qs b≤549755813888):FSpec Tryz.prog 18 [.agg (qC a),.agg (qC b)] (.agg (qC (a- b))):=by
 have hs:=e7_ a (-b) (by rw[d9_];exact h)
 rw[←Rat.sub_eq_add_neg] at hs
 refine f_n Tryz.func18 ?_ ?_
 exact aa_ (am_ a) (aa_ (am_ b) ab_)
 refine r_z 3 ?_
 refine ac_ (r_d hmix 5 ?_)
 refine c_s (gu_ b) ?_
 refine c_s (hs) ?_
 refine a_1 ?_
 refine ak_ (n_k ?_)
 exact af_ (c_e (am_ _))
theorem fs_qover(a b:Rat)(hb:b≠0)(h:qs a+qs b≤549755813888):FSpec Tryz.prog 88 [.agg (qC a),.agg (qC b)] (.agg (qC (a/ b))):=by
 have hp:=kG_ a b
 have h1:=cD_ a;have h2:=cp_ a;have h3:=cD_ b;have h4:=cp_ b
 have hn:b.num≠0:=fun h=>hb (Rat.num_eq_zero.1 h)
 have hs:=cL_ (decide (b.num< 0)) b.den
 rw[hG_ a b hb]
 refine f_n Tryz.func88 ?_ ?_
 exact aa_ (am_ a) (aa_ (am_ b) ab_)
 refine r_z 3 ?_
 refine ac_ (r_d hmix 17 ?_)
 refine c_s (ch_ b (by omega)) ?_
 refine c_s (cg_ (decide (b.num< 0)) b.den) ?_
 refine c_s (lr_ a.num (sgn (decide (b.num< 0)) b.den) (by rw[hs];omega)) ?_
 refine c_s (ch_ a (by omega)) ?_
 refine c_s (dt_ a.den b.num.natAbs (by omega)) ?_
 refine c_s (i1_ (a.num* sgn (decide (b.num< 0)) b.den) (a.den* b.num.natAbs) (Nat.mul_pos a.den_pos (by omega)) (by omega)) ?_
 refine a_1 ?_
 refine ak_ (n_k ?_)
 exact af_ (c_e (am_ _))
theorem mq_(a b:Rat)(hb:b≠0)(h:qs a+qs b≤549755813888):FSpec Tryz.prog 17 [.agg (qC a),.agg (qC b)] (.tup [.agg (qC (a/ b)),i64 0]):=by
 have hn:b.num≠0:=fun h=>hb (Rat.num_eq_zero.1 h)
 have hsg:sgZ b.num≠0:=by unfold sgZ;rw[if_neg hn];split <;> decide
 refine f_n Tryz.func17 ?_ ?_
 exact aa_ (am_ a) (aa_ (am_ b) ab_)
 refine r_z 4 ?_
 refine ac_ (r_c 3 (bJ_ b) ?_)
 refine a_z ?_
 refine ah_ rfl (fun h=>?_) (fun h=>?_)
 exact absurd h (by simpa using hsg)
 refine ae_ (r_c 5 (fs_qover a b hb (by assumption)) ?_)
 refine a_z ?_
 refine af_ (Fin.many ⟨_,_,rfl,⟨_,_,_,_,_,rfl,rfl,rfl,.inl ⟨tg_35.h,_,ts_35.h,nle rfl,rfl⟩⟩,⟨_,_,rfl,rfl,rfl⟩⟩ (nle rfl) ?_)
 exact ai_ (aA_ aB_ (am_ _)) (ai_ (aA_ aB_ (ad_ _)) as_)
theorem pv_(x:Int)(n:Nat)(hn:0< n):(sgZ x= -1∧∃p:Nat,0< p∧x* n= -(p:Int)∧x.natAbs* n=p)∨(sgZ x=0∧x* n=0∧x.natAbs* n=0)∨(sgZ x=1∧∃p:Nat,0< p∧x* n=p∧x.natAbs* n=p):=by
 rcases Int.lt_trichotomy x 0 with hx|hx|hx
 refine .inl ⟨by unfold sgZ;rw[if_neg (by omega),if_pos hx],x.natAbs* n,Nat.mul_pos (by omega) hn,?_,rfl⟩
 rw[Int.natCast_mul,←Int.neg_mul];congr 1;omega
 subst hx;refine .inr (.inl ⟨rfl,by simp,by simp⟩)
 refine .inr (.inr ⟨by unfold sgZ;rw[if_neg (by omega),if_neg (by omega)],x.natAbs* n,Nat.mul_pos (by omega) hn,?_,rfl⟩)
 rw[Int.natCast_mul];congr 1;omega
theorem cmp_code(a b:Rat):cmpQ a b=if sgZ a.num≠sgZ b.num∨sgZ a.num=0 then sgZ a.num- sgZ b.num- (sgZ a.num- sgZ b.num).tdiv 2 else sgZ a.num* cmpZ ((a.num.natAbs* b.den:Nat):Int) ((b.num.natAbs* a.den:Nat):Int):=by
 rw[cmpQ_eq]
 rcases pv_ a.num b.den b.den_pos with⟨s1,p,hp,e1,f1⟩|⟨s1,e1,f1⟩|⟨s1,p,hp,e1,f1⟩<;> rcases pv_ b.num a.den a.den_pos with⟨s2,q,hq,e2,f2⟩|⟨s2,e2,f2⟩|⟨s2,q,hq,e2,f2⟩<;> rw[s1,s2,e1,e2,f1,f2]<;> unfold cmpZ <;> simp <;>(repeat' split)<;> first|rfl|omega
theorem hy_(a b:Rat)(ha:sm a)(hb:sm b):FSpec Tryz.prog 25 [.agg (qC a),.agg (qC b)] (i64 (cmpQ a b)):=by
 have hs:=sm2 ha hb
 have h1:=cD_ a;have h2:=cp_ a;have h3:=cD_ b;have h4:=cp_ b
 have hc:=cmp_code a b
 have hsa:sgZ a.num= -1∨sgZ a.num=0∨sgZ a.num=1:=by unfold sgZ;split;simp;split <;> simp
 have hsb:sgZ b.num= -1∨sgZ b.num=0∨sgZ b.num=1:=by unfold sgZ;split;simp;split <;> simp
 have hbm1:=eB_ a.num.natAbs b.den
 have hbm2:=eB_ b.num.natAbs a.den
 refine f_n Tryz.func25 ?_ ?_
 exact aa_ (am_ a) (aa_ (am_ b) ab_)
 refine r_z 3 ?_
 refine ac_ (ac_ (r_d hmix 6 ?_))
 refine c_s (bJ_ a) ?_
 refine c_s (bJ_ b) ?_
 refine a_2 ?_
 refine ak_ (n_k ?_)
 obtain⟨x,hx⟩:∃x,x=sgZ a.num:=⟨_,rfl⟩
 obtain⟨y,hy⟩:∃y,y=sgZ b.num:=⟨_,rfl⟩
 rw[←hx] at hsa hc⊢
 rw[←hy] at hsb hc⊢
 have hq:(x- y).tdiv 2= -1∨(x- y).tdiv 2=0∨(x- y).tdiv 2=1:=by
  rcases hsa with h|h|h <;> rcases hsb with h'|h'|h' <;> rw[h,h']<;> decide
 refine aF_ (fun _:Unit=>⟨[(2,.lptr 1 0 0),(3,.lptr 2 0 0)],[(1,some ⟨35,3,[qC a]⟩),(2,some ⟨35,3,[qC b]⟩)],3,42⟩) (fun _=>x=y∧x≠0) ?_ ?_
 by_cases he:x=y
 refine s_r 7 ?_
 refine a_4 ?_
 refine y_g rfl (by simp[he]) (.move rfl) ?_
 refine y_g rfl (by simp[he]) (.bin rfl rfl br_) ?_
 refine o_0 (.pickF rfl (by simp[he]) rfl) ?_
 refine ak_ ?_
 refine ah_ rfl (fun h=>?_) (fun h=>?_)
 have h0:x=0:=by simpa using h
 refine s_r 9 ?_
 refine a_6 ?_
 refine o_0 (.bin rfl rfl (hX_ (by decide) (by omega))) ?_
 refine a_z ?_
 refine af_ (aN_ rfl ?_ (ad_ _))
 rw[hc,if_pos (.inr h0)];rfl
 have h0:x≠0:=by simpa using h
 refine ae_ ⟨(),⟨he,h0⟩,?_⟩
 exact s_e []
 refine s_r 7 ?_
 refine a_4 ?_
 refine n_g rfl (by simp[he]) ?_
 refine n_g rfl (by simp[he]) ?_
 refine o_0 (.pickT rfl (by simp[he]) rfl) ?_
 refine ak_ ?_
 refine ah_ rfl (fun h=>?_) (fun h=>?_)
 refine s_r 9 ?_
 refine a_6 ?_
 refine o_0 (.bin rfl rfl (hX_ (by decide) (by omega))) ?_
 refine a_z ?_
 refine af_ (aN_ rfl ?_ (ad_ _))
 rw[hc,if_pos (.inl he)];rfl
 cases h
 rintro _ ⟨he,h0⟩
 have hcz:cmpZ ((a.num.natAbs* b.den:Nat):Int) ((b.num.natAbs* a.den:Nat):Int)= -1∨cmpZ ((a.num.natAbs* b.den:Nat):Int) ((b.num.natAbs* a.den:Nat):Int)=0∨cmpZ ((a.num.natAbs* b.den:Nat):Int) ((b.num.natAbs* a.den:Nat):Int)=1:=by
  unfold cmpZ;split;simp;split <;> simp
 have hsx:=bJ_ a
 rw[←hx] at hsx
 have hmul: -9223372036854775808≤x* cmpZ ((a.num.natAbs* b.den:Nat):Int) ((b.num.natAbs* a.den:Nat):Int)∧x* cmpZ ((a.num.natAbs* b.den:Nat):Int) ((b.num.natAbs* a.den:Nat):Int)≤9223372036854775807:=by
  rcases hsa with h|h|h <;> rcases hcz with h'|h'|h' <;> rw[h,h']<;> decide
 refine ac_ (r_d hmix 17 ?_)
 refine c_s (hsx) ?_
 refine c_s (ch_ b (by omega)) ?_
 refine c_s (dt_ a.num.natAbs b.den (by omega)) ?_
 refine c_s (ch_ a (by omega)) ?_
 refine c_s (dt_ b.num.natAbs a.den (by omega)) ?_
 refine c_s (f9_ (a.num.natAbs* b.den) (b.num.natAbs* a.den) (by omega)) ?_
 refine o_0 (.bin rfl rfl (gW_ hmul)) ?_
 refine a_1 ?_
 refine ak_ (n_k ?_)
 refine af_ (aN_ rfl ?_ (ad_ _))
 rw[hc,if_neg (by omega)];rfl
theorem kn_(a:Rat):FSpec Tryz.prog 97 [.agg (qC a)] (.agg (qC (absQ a))):=by
 have hc:=am_ (absQ a)
 rw[qC_abs] at hc⊢
 refine f_n Tryz.func97 ?_ ?_
 exact aa_ (am_ a) ab_
 refine r_z 2 ?_
 refine ac_ (r_d hmix 8 ?_)
 refine c_s (cg_ false a.num.natAbs) ?_
 refine a_4 ?_
 refine ak_ (n_k ?_)
 exact af_ (c_e (hc))
theorem fs_den(a:Rat)(ha:sm a):FSpec Tryz.prog 296 [.agg (qC a)] (.agg (qC ((a.den:Int):Rat))):=by
 have hw:=iY_ (a.den:Int)
 rw[zI_nat] at hw
 refine f_n Tryz.func296 ?_ ?_
 exact aa_ (am_ a) ab_
 refine r_z 2 ?_
 refine r_c 5 (ch_ a (by unfold sm at ha;omega)) ?_
 refine c_s (hw) ?_
 refine a_z ?_
 exact af_ (c_e (am_ _))
theorem pf_{z q:Int}{d:Nat}(hd:0< d)(h1:q* d≤z)(h2:z< q* d+d):z/ (d:Int)=q:=by
 have hdi:(0:Int)< d:=by omega
 have a1:q≤z/ (d:Int):=(Int.le_ediv_iff_mul_le hdi).2 h1
 have a2:z/ (d:Int)< q+1:=(Int.ediv_lt_iff_lt_mul hdi).2 (by rw[Int.add_mul];omega)
 omega
theorem np_(z:Int)(d:Nat)(hd:0< d):z/ (d:Int)=sgn (decide (z< 0)) (if (decide (z< 0) && !(z.natAbs % d==0))=true then z.natAbs/ d+1 else z.natAbs/ d):=by
 have h1:=Nat.div_add_mod z.natAbs d
 have h2:=Nat.mod_lt z.natAbs hd
 generalize hr:z.natAbs % d=r at *
 generalize hq:z.natAbs/ d=a at *
 have h3:((d* a:Nat):Int)=(a:Int) * d:=by rw[Int.natCast_mul,Int.mul_comm]
 refine pf_ hd ?_ ?_ <;> by_cases hz:z< 0 <;> by_cases h0:r=0 <;> simp[sgn,hz,h0,Int.neg_mul,Int.add_mul]<;> omega
theorem oS_(z:Int)(d:Nat)(hd:0< d)(h:bl z.natAbs+bl d≤4398046511104):FSpec Tryz.prog 325 [.agg (zI z),.agg [mag d]] (.agg (zI (z/ d))):=by
 rw[np_ z d hd]
 have hbq:=cr_ z.natAbs d
 have hb1:=bl_add (z.natAbs/ d) 1
 have hb2:bl 1=1:=kZ_
 obtain⟨Q,hQ⟩:∃Q,Q=(if (decide (z< 0) && !(z.natAbs % d==0))=true then z.natAbs/ d+1 else z.natAbs/ d):=⟨_,rfl⟩
 rw[←hQ]
 refine f_n Tryz.func325 ?_ ?_
 exact aa_ (bK_ z) (aa_ (dS_ d) ab_)
 refine r_z 3 ?_
 refine r_c 11 (i2_ z.natAbs d h hd) ?_
 refine a_z ?_
 refine aY_ (fun _:Unit=>⟨[(2,.lptr 1 0 0),(4,.lptr 2 0 0),(5,.lptr 3 0 0)],[(1,some ⟨33,2,[zI z]⟩),(2,some ⟨33,2,[[.emp,bln false]]⟩),(3,some ⟨31,1,[[mag Q]]⟩)],4,28⟩) (fun _=>True) ?_ ?_
 by_cases hz:z< 0
 refine s_r 7 ?_
 refine a_3 ?_
 first|refine y_g rfl (by simp[hz]) (.load_l rfl rfl rfl tg_31.h ts_31.h (nle rfl)) ?_|refine y_g rfl (by simp[hz]) (.load_a rfl rfl tg_31.h ts_31.h (nle rfl)) ?_
 refine y_g rfl (by simp[hz]) (.call rfl rfl rfl (fJ_ (z.natAbs % d))) ?_
 refine y_g rfl (by simp[hz]) (.un rfl ju_) ?_
 refine o_0 (.pickT rfl (by simp[hz]) rfl) ?_
 refine ak_ ?_
 refine ah_ rfl (fun h1=>?_) (fun h1=>?_)
 have:Q=z.natAbs/ d+1:=by rw[hQ,if_pos];simpa[hz] using h1
 rw[this]
 refine r_d hmix 4 ?_
 refine c_s (dv_ 1 (by decide)) ?_
 refine c_s (lo_ (z.natAbs/ d) 1 (by omega)) ?_
 refine a_1 ?_
 refine ak_ (n_k ?_)
 refine⟨(),trivial,?_⟩
 exact s_e [(2,4),(3,5)]
 have:Q=z.natAbs/ d:=by rw[hQ,if_neg];simpa[hz] using h1
 rw[this]
 refine ae_ ⟨(),trivial,?_⟩
 exact s_e [(2,4),(3,5)]
 refine s_r 7 ?_
 refine a_3 ?_
 refine n_g rfl (by simp[hz]) ?_
 refine n_g rfl (by simp[hz]) ?_
 refine n_g rfl (by simp[hz]) ?_
 refine o_0 (.pickF rfl (by simp[hz]) rfl) ?_
 refine ak_ ?_
 have:Q=z.natAbs/ d:=by rw[hQ,if_neg];simp[hz]
 rw[this]
 refine ah_ rfl (fun h=>?_) (fun h=>ae_ ⟨(),trivial,?_⟩)
 cases h
 exact s_e [(2,4),(3,5)]
 rintro _ _
 refine r_c 5 (cg_ (decide (z< 0)) Q) ?_
 refine a_z ?_
 exact af_ (c_e (bK_ _))
theorem fs_floor(q:Rat)(h:qs q≤1099511627776):FSpec Tryz.prog 300 [.agg (qC q)] (.agg (qC (q.floor:Rat))):=by
 have h1:=cD_ q;have h2:=cp_ q
 rw[Rat.floor_def]
 refine f_n Tryz.func300 ?_ ?_
 exact aa_ (am_ q) ab_
 refine r_z 2 ?_
 refine ac_ (r_d hmix 7 ?_)
 refine c_s (ch_ q h) ?_
 refine c_s (oS_ q.num q.den q.den_pos (by omega)) ?_
 refine c_s (iY_ (q.num/ q.den)) ?_
 refine a_1 ?_
 refine ak_ (n_k ?_)
 exact af_ (c_e (am_ _))
def ceilQ(q:Rat):Rat:= -((-q).floor:Rat)
def wi(k:Int)(m:Nat):Nat:=(max 0 (min k m)).toNat
def twoQ(k:Nat):Rat:=((2^ k:Nat):Int)
def downQ(a:Rat)(k:Nat):Rat:=((a* twoQ k).floor:Rat) * fineQ k
def upQ(a:Rat)(k:Nat):Rat:=ceilQ (a* twoQ k) * fineQ k
theorem ko_(a b:Rat)(ha:sm a)(hb:sm b):FSpec Tryz.prog 77 [.agg (spC a b)] (bln (decide (cmpQ a b≤0))):=by
 refine f_n Tryz.func77 ?_ ?_
 exact aa_ (cl_ a b) ab_
 refine r_z 2 ?_
 refine r_c 7 (hy_ a b ha hb) ?_
 refine a_z ?_
 exact af_ (t_e (ad_ _))
theorem hA_(a b:Rat)(ha:sm a)(hb:sm b):FSpec Tryz.prog 13 [.agg (spC a b)] (.agg (qC (b- a))):=by
 refine f_n Tryz.func13 ?_ ?_
 exact aa_ (cl_ a b) ab_
 refine r_z 2 ?_
 refine r_c 6 (kj_ b a (sm2 hb ha)) ?_
 refine a_z ?_
 exact af_ (c_e (am_ _))
theorem fs_Max1(c:Int):FSpec Tryz.prog 273 [i64 c] (bln (decide (0< c))):=by
 refine f_n Tryz.func273 ?_ ?_
 exact aa_ (ad_ _) ab_
 refine r_z 1 ?_
 refine r_z 3 ?_
 exact af_ (t_e (ad_ _))
def lJ_(g:Nat)(l:List Rat):Nat×List AV→AState
 |(i,o)=>⟨[(0,.clos g [] []),(4,.lptr 1 0 0),(5,.lptr 2 0 0),(8,.arr (pE l)),(9,i64 l.length),(10,i64 i)],[(1,some ⟨35,3,[zC]⟩),(2,some ⟨35,3,[o]⟩)],3,27⟩
theorem cR_(g:Nat)(l:List Rat)(i:Nat)(o:List AV):lJ_ g l (i,o)=⟨[(0,.clos g [] []),(4,.lptr 1 0 0),(5,.lptr 2 0 0),(8,.arr (pE l)),(9,i64 l.length),(10,i64 i)],[(1,some ⟨35,3,[zC]⟩),(2,some ⟨35,3,[o]⟩)],3,27⟩:=rfl
theorem oW_(g:Nat)(bf:Int→Bool)(hg:∀c,FSpec Tryz.prog g [i64 c] (bln (bf c)))(l:List Rat)(hl:smL l)(hln:l.length≤1099511627776):FSpec Tryz.prog 272 [.clos g [] [],.arr (pE l)] (.agg (qC (b3_ bf l))):=by
 refine f_n Tryz.func272 ?_ ?_
 exact aa_ (aJ_ ab_ ab_) (aa_ (aj_ l) ab_)
 refine r_z 1 ?_
 refine r_z 1 ?_
 refine ac_ (r_z 3 ?_)
 refine aF_ (fun _:Unit=>⟨[(4,.lptr 1 0 0),(5,.lptr 2 0 0)],[(1,some ⟨35,3,[zC]⟩),(2,some ⟨35,3,[qC (b3_ bf l)]⟩)],3,27⟩) (fun _=>True) ?_ ?_
 refine ag_ (aw_ (fun x:Nat×List AV=>lJ_ g l x) (fun x=>l.length- x.1) (fun x=>x.1≤l.length∧((x.1=0→x.2=zC)∧(x.1≠0→x.2=qC (b3_ bf (l.take x.1))))) (0,zC) ⟨Nat.zero_le _,fun _=>rfl,fun h=>absurd rfl h⟩ ?_ ?_)
 simp only[cR_]
 exact s_e [(1,4),(2,5)]
 rintro⟨i,o⟩ ⟨hi,ho0,ho⟩
 simp only at hi ho0 ho
 simp only[cR_]
 refine r_z 1 ?_
 refine ac_ (ah_ rfl (fun h=>?_) (fun h=>?_))
 refine ae_ ?_
 have hlt:i< l.length:=by simpa using h
 obtain⟨q,hq⟩:∃q,l[i]?=some q:=⟨_,List.getElem?_eq_getElem hlt⟩
 have hq':(pE l)[((i:Nat):Int).toNat]?=some (qC q):=bv_ hq
 have hsq:sm q:=hl q (List.mem_of_getElem? hq)
 have hst:sm (b3_ bf (l.take i)):=nx_ fun q hq=>hl q (List.mem_of_mem_take hq)
 have hsn:=kS_ bf (l.take i) q
 rw[←ca_ hq] at hsn
 refine ac_ (ag_ (s_r 6 ?_))
 refine a_1 ?_
 refine i_x hq' ?_
 refine l_x hq' ?_
 refine a_z ?_
 refine AWp.cutB (fun _:Unit=>lJ_ g l (i,qC (b3_ bf (l.take (i+1))))) (fun _=>True) ?_ ?_
 by_cases h0:i=0
 subst h0
 have:=ho0 rfl
 subst this
 rw[if_pos (.inl (by simp))] at hsn
 refine s_r 9 ?_
 refine a_3 ?_
 refine n_g rfl d_t ?_
 refine n_g rfl d_t ?_
 refine n_g rfl d_t ?_
 refine n_g rfl d_t ?_
 refine n_g rfl d_t ?_
 refine o_0 (.pickT rfl d_t rfl) ?_
 refine ak_ ?_
 refine ah_ rfl (fun h=>?_) (fun h=>?_)
 refine r_m 2 ?_
 refine a_z ?_
 refine⟨(),trivial,?_⟩
 simp only[cR_]
 rw[hsn]
 exact s_e []
 cases h
 have ho':o=qC (b3_ bf (l.take i)):=ho h0
 subst ho'
 have hne:l.take i≠[]:=fun h=>by
  have:=congrArg List.length h
  rw[List.length_take,List.length_nil] at this;omega
 refine s_r 9 ?_
 refine a_3 ?_
 refine y_g rfl (by simp;omega) (.move rfl) ?_
 first|refine y_g rfl (by simp;omega) (.load_l rfl rfl rfl tg_35.h ts_35.h (nle rfl)) ?_|refine y_g rfl (by simp;omega) (.load_a rfl rfl tg_35.h ts_35.h (nle rfl)) ?_
 first|refine y_g rfl (by simp;omega) (.load_l rfl rfl rfl tg_35.h ts_35.h (nle rfl)) ?_|refine y_g rfl (by simp;omega) (.load_a rfl rfl tg_35.h ts_35.h (nle rfl)) ?_
 refine y_g rfl (by simp;omega) (.call rfl rfl rfl (hy_ q (b3_ bf (l.take i)) hsq hst)) ?_
 refine y_g rfl (by simp;omega) (.call rfl rfl rfl (hg (cmpQ q (b3_ bf (l.take i))))) ?_
 refine o_0 (.pickF rfl (by simp;omega) rfl) ?_
 refine ak_ ?_
 refine ah_ rfl (fun h1=>?_) (fun h1=>?_)
 refine r_m 2 ?_
 refine a_z ?_
 refine⟨(),trivial,?_⟩
 simp only[cR_]
 rw[hsn,if_pos (.inr h1)]
 exact s_e []
 refine ae_ ⟨(),trivial,?_⟩
 simp only[cR_]
 rw[hsn,if_neg (fun hh=>hh.elim hne fun h2=>by rw[h1] at h2;cases h2)]
 exact s_e []
 rintro _ _
 rw[cR_]
 refine r_m 2 ?_
 refine a_z ?_
 refine⟨(i+1,qC (b3_ bf (l.take (i+1)))),by simp only;omega,⟨by simp only;omega,fun h=>absurd h (by simp),fun _=>rfl⟩,?_⟩
 simp only[cR_]
 exact s_e []
 have hge:i=l.length:=by simp at h;omega
 refine at_ ⟨(),trivial,?_⟩
 subst hge
 by_cases h0:l.length=0
 have:=ho0 h0
 subst this
 have:b3_ bf l=0:=by
  rw[List.length_eq_zero_iff] at h0;rw[h0];rfl
 rw[this,qC0]
 exact s_e []
 have:=ho h0
 subst this
 rw[List.take_length]
 exact s_e []
 rintro _ _
 refine r_z 2 ?_
 exact af_ (c_e (am_ _))
theorem fs_Max(l:List Rat)(hl:smL l)(hln:l.length≤1099511627776):FSpec Tryz.prog 226 [.arr (pE l)] (.agg (qC (maxL l))):=by
 refine f_n Tryz.func226 ?_ ?_
 exact aa_ (aj_ l) ab_
 refine r_z 1 ?_
 refine r_c 3 (oW_ 273 _ fs_Max1 l hl hln) ?_
 refine a_z ?_
 exact af_ (c_e (am_ _))
theorem qs_int(n:Int):qs (n:Rat)≤max (bl n.natAbs) 1:=by
 have e1:(n:Rat).num=n:=rfl
 have e2:(n:Rat).den=1:=rfl
 unfold qs;rw[e1,e2,kZ_];exact Nat.le_refl _
theorem qs_i64{n:Int}(h: -9223372036854775808≤n∧n≤9223372036854775807):qs (n:Rat)≤64:=by
 have h1:=qs_int n
 have h2:bl n.natAbs≤64:=bl_le (Nat.lt_of_le_of_lt (show n.natAbs≤9223372036854775808 by omega) (by decide))
 omega
theorem fs_Of(n d:Int)(hn: -9223372036854775808≤n∧n≤9223372036854775807)(hd: -9223372036854775808≤d∧d≤9223372036854775807)(h0:d≠0):FSpec Tryz.prog 55 [i64 n,i64 d] (.tup [.agg (qC ((n:Rat) / (d:Rat))),i64 0]):=by
 have h1:=qs_i64 hn
 have h2:=qs_i64 hd
 have hd0:(d:Rat)≠0:=by
  intro h
  have:(d:Rat).num=0:=by rw[h];rfl
  exact h0 this
 refine f_n Tryz.func55 ?_ ?_
 exact aa_ (ad_ _) (aa_ (ad_ _) ab_)
 refine r_z 2 ?_
 refine r_c 9 (dh_ n hn) ?_
 refine c_s (dh_ d hd) ?_
 refine c_s (mq_ (n:Rat) (d:Rat) hd0 (by omega)) ?_
 refine a_z ?_
 refine af_ (Fin.many ⟨_,_,rfl,⟨_,_,_,_,_,rfl,rfl,rfl,.inl ⟨tg_35.h,_,ts_35.h,nle rfl,rfl⟩⟩,⟨_,_,rfl,rfl,rfl⟩⟩ (nle rfl) ?_)
 exact ai_ (aA_ aB_ (am_ _)) (ai_ (aA_ aB_ (ad_ _)) as_)
theorem fs_Clone(l:List Rat)(hl:l.length≤1099511627776):FSpec Tryz.prog 184 [.arr (pE l)] (.arr (pE l)):=by
 cases l with
 |nil=>
  refine FSpec.nil1 fun a c=>?_
  refine f_n Tryz.func184 ?_ ?_
  exact aa_ (ad_ _) ab_
  refine r_z 1 ?_
  refine ac_ (r_z 2 ?_)
  refine ah_ rfl (fun h=>?_) (fun h=>?_)
  refine r_z 1 ?_
  exact af_ (Fin.tmpN rfl)
  ·refine ae_ (s_r 4 ?_)
   refine a_2 ?_
   refine o_2 (.append_l rfl rfl rfl te_55.h rfl rfl rfl rfl rfl d_o (by first|exact ed_ _|exact ec_ _|exact dr_ _|exact ef_ _|exact d8_ _|assumption|rfl|simp) (by first|rfl|exact ed_ _|exact ec_ _|exact dr_ _|exact ef_ _|exact d8_ _|simp) rfl (.vnil) tz_35.h rfl tb_35.h d_o (by first|(simp[maxLen];done)|(simp[maxLen];omega))) ?_
   refine a_z ?_
   exact af_ (Fin.tmpS rfl rfl rfl rfl (aC_ []))
 |cons q l=>
  have hne:pE (q::l)≠[]:=by simp[pE]
  simp at hl
  refine f_n Tryz.func184 ?_ ?_
  exact aa_ (aL_ (aC_ _)) ab_
  refine r_z 1 ?_
  refine ac_ (s_r 2 ?_)
  refine a_1 ?_
  first|refine aM_ (.nilq_v rfl rfl te_55.h) rfl rfl ?_|refine aM_ (.nilq_arr rfl (hne) rfl te_55.h) rfl rfl ?_
  refine ak_ ?_
  refine cF ?_
  ·refine ae_ (s_r 4 ?_)
   refine a_2 ?_
   refine o_2 (.append_l rfl rfl rfl te_55.h rfl rfl rfl rfl rfl d_o (by first|exact ed_ _|exact ec_ _|exact dr_ _|exact ef_ _|exact d8_ _|assumption|rfl|simp) (by first|rfl|exact ed_ _|exact ec_ _|exact dr_ _|exact ef_ _|exact d8_ _|simp) rfl (.arr (fe_ _)) tz_35.h rfl tb_35.h d_o (by first|(simp[maxLen];done)|(simp[maxLen];omega))) ?_
   refine a_z ?_
   exact af_ (Fin.tmpS rfl rfl rfl (by simp) (aC_ _))
def trS(l:List Rat):Nat→AState
 |n=>⟨[(0,.arr (pE l)),(3,i64 n)],[],1,23⟩
theorem eh_(l:List Rat)(n:Nat):trS l n=⟨[(0,.arr (pE l)),(3,i64 n)],[],1,23⟩:=rfl
theorem b2_(l:List Rat)(hl:l.length≤1099511627776):FSpec Tryz.prog 99 [.arr (pE l)] (.arr (pE (trimQ l))):=by
 refine f_n Tryz.func99 ?_ ?_
 exact aa_ (aL_ (aC_ _)) ab_
 refine r_z 1 ?_
 refine r_z 3 ?_
 refine aY_ (trS l) (fun n=>n≤l.length∧trimQ l=l.take n) ?_ ?_
 refine ag_ (aw_ (trS l) (fun n=>n) (fun n=>n≤l.length∧trimQ l=trimQ (l.take n)) l.length ⟨Nat.le_refl _,by rw[List.take_length]⟩ ?_ ?_)
 simp only[eh_]
 exact s_e []
 rintro n ⟨hn,ht⟩
 rw[eh_]
 cases n with
 |zero=>
  refine ac_ (s_r 11 ?_)
  refine a_3 ?_
  refine n_g rfl (by simp) ?_
  refine n_g rfl (by simp) ?_
  refine n_g rfl (by simp) ?_
  refine n_g rfl (by simp) ?_
  refine n_g rfl (by simp) ?_
  refine n_g rfl (by simp) ?_
  refine n_g rfl (by simp) ?_
  refine o_0 (.pickF rfl (by simp) rfl) ?_
  refine ak_ ?_
  refine cF ?_
  refine at_ ⟨0,⟨Nat.zero_le _,?_⟩,?_⟩
  rw[ht];rfl
  simp only[eh_]
  exact s_e []
 |succ n=>
  obtain⟨q,hq⟩:∃q,l[n]?=some q:=⟨_,List.getElem?_eq_getElem (by omega)⟩
  have hq':(pE l)[(((n+1:Nat):Int)- 1).toNat]?=some (qC q):=by
   rw[show(((n+1:Nat):Int)- 1).toNat=n by omega];exact bv_ hq
  have hs:trimQ (l.take (n+1))=if q=0 then trimQ (l.take n) else l.take (n+1):=by
   rw[ca_ hq,f2_]
  refine ac_ (s_r 11 ?_)
  refine a_3 ?_
  refine y_g rfl (by simp <;> omega) (.move rfl) ?_
  refine y_g rfl (by simp <;> omega) (.move rfl) ?_
  refine y_g rfl (by simp <;> omega) (.bin rfl rfl (gV_ (by omega))) ?_
  first|refine y_g rfl (by simp <;> omega) (.index_l rfl rfl (by omega) (by omega) te_55.h) ?_|refine y_g rfl (by simp <;> omega) (.index_a rfl rfl (by omega) hq' rfl te_55.h) ?_
  first|refine y_g rfl (by simp <;> omega) (.load_l rfl rfl hq' tg_35.h ts_35.h (nle rfl)) ?_|refine y_g rfl (by simp <;> omega) (.load_a rfl hq' tg_35.h ts_35.h (nle rfl)) ?_
  refine y_g rfl (by simp <;> omega) (.call rfl rfl rfl (bJ_ q)) ?_
  refine y_g rfl (by simp <;> omega) (.bin rfl rfl br_) ?_
  refine o_0 (.pickT rfl (by simp <;> omega) rfl) ?_
  refine ak_ ?_
  refine ah_ rfl (fun h=>?_) (fun h=>?_)
  have h0:q=0:=by
   have h1:sgZ q.num=0:=by simpa using h
   exact sgZ_num_eq.1 h1
  refine ae_ (ag_ (r_m 3 ?_))
  refine a_z ?_
  refine⟨n,Nat.lt_succ_self n,⟨by omega,?_⟩,?_⟩
  rw[ht,hs,if_pos h0]
  simp only[eh_]
  exact s_e []
  have h0:q≠0:=by
   intro e
   have h1:¬sgZ q.num=0:=by simpa using h
   exact h1 (sgZ_num_eq.2 e)
  refine at_ ⟨n+1,⟨hn,?_⟩,?_⟩
  rw[ht,hs,if_neg h0]
  simp only[eh_]
  exact s_e []
 rintro n ⟨hn,ht⟩
 rw[eh_]
 have hcl:=fs_Clone (l.take n) (by simp;omega)
 refine s_r 5 ?_
 refine a_2 ?_
 refine o_0 (.sa_h rfl rfl (h:=n) rfl (by simp;omega) te_55.h (fe_ _)) ?_
 refine o_0 (.call rfl rfl rfl ((by rw[lg_];exact hcl))) ?_
 refine o_0 (.assign rfl) ?_
 refine ak_ ?_
 refine af_ (aN_ rfl ?_ ?_)
 rw[ht]
 exact aL_ (aC_ _)
theorem bo_(l:List Rat)(hl:l.length≤1099511627776):FSpec Tryz.prog 66 [.arr (pE l)] (i64 (degP l)):=by
 have:=aD_ l
 refine f_n Tryz.func66 ?_ ?_
 exact aa_ (aL_ (aC_ _)) ab_
 refine r_z 1 ?_
 refine r_c 5 (b2_ l hl) ?_
 refine a_z ?_
 exact af_ (t_e (ad_ _))
theorem fj_(l:List Rat)(hl:l.length≤1099511627776):FSpec Tryz.prog 183 [.arr (pE l)] (.agg (qC (leadP l))):=by
 have hlen:=aD_ l
 refine f_n Tryz.func183 ?_ ?_
 exact aa_ (aL_ (aC_ _)) ab_
 refine r_z 1 ?_
 refine r_c 3 (b2_ l hl) ?_
 refine a_z ?_
 refine ac_ (r_z 3 ?_)
 refine ah_ rfl (fun h=>?_) (fun h=>?_)
 have h0:trimQ l=[]:=by
  have h1:(trimQ l).length=0:=by simpa using h
  exact List.length_eq_zero_iff.1 h1
 rw[hq_ h0]
 refine r_z 2 ?_
 refine af_ (Fin.cell rfl rfl rfl tg_35.h ts_35.h (nle rfl) (Cv.agg ?_))
 rw[qC0]
 exact ai_ (Cv.emp _) (ai_ (aA_ aB_ (ad_ _)) (ai_ (Cv.emp _) as_))
 obtain⟨n,hn⟩:∃n,(trimQ l).length=n+1:=⟨(trimQ l).length- 1,by
  have h1:¬(trimQ l).length=0:=by simpa using h
  omega⟩
 have hg:(pE (trimQ l))[(((trimQ l).length:Int)- 1).toNat]?=some (qC (leadP l)):=by
  rw[hn,show(((n+1:Nat):Int)- 1).toNat=n by omega];exact bv_ (bx_ hn)
 refine ae_ (s_r 7 ?_)
 refine a_4 ?_
 refine i_x hg ?_
 refine l_x hg ?_
 refine a_z ?_
 exact af_ (c_e (am_ _))
theorem fs_at(l:List Rat)(i:Nat):FSpec Tryz.prog 238 [.arr (pE l),i64 i] (.agg (qC (coP l i))):=by
 refine f_n Tryz.func238 ?_ ?_
 exact aa_ (aL_ (aC_ _)) (aa_ (ad_ _) ab_)
 refine r_z 1 ?_
 refine ac_ (r_z 4 ?_)
 refine ah_ rfl (fun h=>?_) (fun h=>?_)
 have hlt:i< l.length:=by simpa using h
 have hg:(pE l)[((i:Nat):Int).toNat]?=some (qC (coP l i)):=bv_ (a0_ hlt)
 refine s_r 5 ?_
 refine a_2 ?_
 refine i_x hg ?_
 refine l_x hg ?_
 refine a_z ?_
 exact af_ (c_e (am_ _))
 have hge:l.length≤i:=by simpa using h
 rw[b9_ hge]
 refine ae_ (r_z 2 ?_)
 refine af_ (Fin.cell rfl rfl rfl tg_35.h ts_35.h (nle rfl) (Cv.agg ?_))
 rw[qC0]
 exact ai_ (Cv.emp _) (ai_ (aA_ aB_ (ad_ _)) (ai_ (Cv.emp _) as_))
theorem eE_set{n i e:Nat}{f:Nat→Rat}(h:i< n)(he:e=i):(pE (tabP i f)++List.replicate (n- i) zC).set e (qC (f i))=pE (tabP (i+1) f)++List.replicate (n- (i+1)) zC:=by
 subst he
 obtain⟨k,rfl⟩:∃k,n=e+1+k:=⟨n- (e+1),by omega⟩
 rw[show e+1+k- e=k+1 by omega,show e+1+k- (e+1)=k by omega,List.replicate_succ,List.set_append_right _ _ (by simp)]
 simp[tabP,List.range_succ,pE]
theorem eE_get{n i e:Nat}{f:Nat→Rat}(h:i< n)(he:e=i):(pE (tabP i f)++List.replicate (n- i) zC)[e]?=some zC:=by
 subst he
 rw[List.getElem?_append_right (by simp),List.getElem?_replicate,if_pos (by simp;omega)]
theorem hT_(n i:Nat)(f:Nat→Rat):∀e∈pE (tabP i f)++List.replicate (n- i) zC,∀c∈e,Closed c:=by
 intro e he
 rcases List.mem_append.1 he with he|he
 exact aC_ _ e he
 rw[List.eq_of_mem_replicate he];exact dn_
def eachS(n:Nat)(f:Nat→Rat)(g:Nat)(cap:List AV):Nat→AState
 |i=>⟨[(1,.clos g [] cap),(5,.lsl 1 0 n (some n) 3),(10,i64 n),(11,i64 i)],[(1,some ⟨35,3,pE (tabP i f)++List.replicate (n- i) zC⟩)],2,23⟩
theorem fQ_(n:Nat)(f:Nat→Rat)(g:Nat)(cap:List AV)(i:Nat):eachS n f g cap i=⟨[(1,.clos g [] cap),(5,.lsl 1 0 n (some n) 3),(10,i64 n),(11,i64 i)],[(1,some ⟨35,3,pE (tabP i f)++List.replicate (n- i) zC⟩)],2,23⟩:=rfl
theorem i6_(n:Nat)(f:Nat→Rat)(g:Nat)(cap:List AV)(hn:n≤1099511627776)(hcap:∀c∈cap,Closed c)(hg:∀i,i< n→FSpec Tryz.prog g ((i64 i::cap).map coe) (.agg (qC (f i)))):FSpec Tryz.prog 138 [i64 n,.clos g [] cap] (.arr (pE (trimQ (tabP n f)))):=by
 refine f_n Tryz.func138 ?_ ?_
 exact aa_ (ad_ _) (aa_ (aJ_ ab_ hcap) ab_)
 refine r_z 1 ?_
 refine r_z 3 ?_
 refine ac_ (r_z 3 ?_)
 refine aF_ (fun _:Unit=>eachS n f g cap n) (fun _=>True) ?_ ?_
 refine ag_ (aw_ (eachS n f g cap) (fun i=>n- i) (fun i=>i≤n) 0 (Nat.zero_le _) ?_ ?_)
 simp only[fQ_]
 refine ax_ [(1,5)] rfl rfl rfl au_r (fun hs=>?_) (fun hs=>?_)
 ·repeat' (first|exact aZ_|refine aR_ rfl ?_ ?_)
  all_goals (first|(exact aA_ hs (aJ_ ab_ hcap))|exact au_c)
 ·repeat' (first|exact av_|refine an_ rfl rfl rfl rfl ?_ ?_)
  all_goals (first|(exact aE_ hs rfl (hT_ n 0 f))|exact au_e|(refine au_ ?_;repeat' (first|exact as_|refine ai_ ?_ ?_)))
  all_goals (first|(exact aA_ hs (aJ_ ab_ hcap))|exact au_c)
 rintro i hi
 rw[fQ_]
 refine r_z 1 ?_
 refine ac_ (ah_ rfl (fun h=>?_) (fun h=>?_))
 refine ae_ ?_
 have hlt:i< n:=by simpa using h
 refine ac_ (ag_ (r_z 2 ?_))
 refine r_m 7 ?_
 refine c_s (hg i hlt) ?_
 refine a_1 ?_
 refine o_1n (.store rfl rfl (eE_get hlt (Nat.zero_add i)) rfl rfl rfl ts_35.h (nle rfl)) ?_
 refine ak_ ?_
 refine r_m 2 ?_
 refine a_z ?_
 refine⟨i+1,by omega,hlt,?_⟩
 simp only[fQ_]
 refine ax_ [] rfl rfl rfl au_r (fun hs=>?_) (fun hs=>?_)
 ·repeat' (first|exact aZ_|refine aR_ rfl ?_ ?_)
  all_goals (first|(exact aA_ hs (aJ_ ab_ hcap))|exact au_c)
 ·repeat' (first|exact av_|refine an_ rfl rfl rfl rfl ?_ ?_)
  all_goals (first|(exact aE_ hs (eE_set hlt (Nat.zero_add i)) (hT_ n (i+1) f))|exact au_e|(refine au_ ?_;repeat' (first|exact as_|refine ai_ ?_ ?_)))
  all_goals (first|(exact aA_ hs (aJ_ ab_ hcap))|exact au_c)
 have hge:i=n:=by
  have:¬i< n:=by simpa using h
  omega
 subst hge
 refine at_ ⟨(),trivial,?_⟩
 simp only[fQ_]
 refine ax_ [] rfl rfl rfl au_r (fun hs=>?_) (fun hs=>?_)
 ·repeat' (first|exact aZ_|refine aR_ rfl ?_ ?_)
  all_goals (first|(exact aA_ hs (aJ_ ab_ hcap))|exact au_c)
 ·repeat' (first|exact av_|refine an_ rfl rfl rfl rfl ?_ ?_)
  all_goals (first|(exact a6_ hs (hT_ i i f))|exact au_e|(refine au_ ?_;repeat' (first|exact as_|refine ai_ ?_ ?_)))
  all_goals (first|(exact aA_ hs (aJ_ ab_ hcap))|exact au_c)
 rintro _ _
 rw[fQ_]
 have hfull:List.take n (List.drop 0 (pE (tabP n f)++List.replicate (n- n) zC))=pE (tabP n f):=by
  rw[Nat.sub_self,List.replicate_zero,List.append_nil,List.drop_zero,List.take_of_length_le (by simp)]
 refine s_r 3 ?_
 refine a_1 ?_
 refine o_1 (.callS1 rfl rfl rfl (.shut rfl d_n (.nil)) rfl ((by rw[hfull];exact b2_ (tabP n f) (by simp;exact hn)))) ?_
 refine a_z ?_
 exact af_ (t_e (aL_ (aC_ _)))
abbrev bP(p:List Rat):AV:= .aptr [[.arr (pE p)]] 0 0
abbrev bQ(q:Rat):AV:= .aptr [qC q] 0 0
theorem bb_(p:List Rat):Closed (bP p):=a8_ (aa_ (aj_ p) ab_)
theorem b5_(q:Rat):Closed (bQ q):=a8_ (aP_ q)
theorem fs_Add1(p q:List Rat)(i:Nat)(hp:smL p)(hq:smL q):FSpec Tryz.prog 237 [i64 i,bP p,bP q] (.agg (qC (coP p i+coP q i))):=by
 refine f_n Tryz.func237 ?_ ?_
 exact aa_ (ad_ _) (aa_ (bb_ p) (aa_ (bb_ q) ab_))
 refine r_z 1 ?_
 refine ac_ (r_d hmix 8 ?_)
 refine c_s (fs_at p i) ?_
 refine c_s (fs_at q i) ?_
 refine c_s (e7_ (coP p i) (coP q i) (sm2 (fT_ hp i) (fT_ hq i))) ?_
 refine a_1 ?_
 refine ak_ (n_k ?_)
 exact af_ (c_e (am_ _))
theorem fs_Add(p q:List Rat)(hp:smL p)(hq:smL q)(hp1:p.length≤1099511627776)(hq1:q.length≤1099511627776):FSpec Tryz.prog 167 [.arr (pE p),.arr (pE q)] (.arr (pE (addP p q))):=by
 refine f_n Tryz.func167 ?_ ?_
 exact aa_ (aj_ p) (aa_ (aj_ q) ab_)
 refine r_z 3 ?_
 refine AWp.ent (st':=⟨[(2,bP p),(3,bP q)],[],1,12⟩) ?_ ?_
 exact s_e []
 have hm:(if ((q.length:Nat):Int)>(p.length:Nat) then((q.length:Nat):Int) else(p.length:Nat))=((max p.length q.length:Nat):Int):=by
  rw[Nat.max_def];split <;> split <;> omega
 have he:=i6_ (max p.length q.length) (fun i=>coP p i+coP q i) 237 [bP p,bP q] (Nat.max_le.2 ⟨hp1,hq1⟩) (aa_ (bb_ p) (aa_ (bb_ q) ab_)) (fun i _=>fs_Add1 p q i hp hq)
 rw[←hm] at he
 refine r_c 8 (he) ?_
 refine a_z ?_
 exact af_ (t_e (aj_ _))
theorem o0_(p:List Rat)(k:Rat)(i:Nat)(hp:smL p)(hk:sm k)(hi:i< p.length):FSpec Tryz.prog 140 [i64 i,bP p,bQ k] (.agg (qC (coP p i* k))):=by
 have hg:(pE p)[((i:Nat):Int).toNat]?=some (qC (coP p i)):=bv_ (a0_ hi)
 refine f_n Tryz.func140 ?_ ?_
 exact aa_ (ad_ _) (aa_ (bb_ p) (aa_ (b5_ k) ab_))
 refine r_z 1 ?_
 refine ac_ (r_d hmix 7 ?_)
 refine a_2 ?_
 refine i_x hg ?_
 refine l_x hg ?_
 refine c_s (cX_ (coP p i) k (sm2 (fT_ hp i) hk)) ?_
 refine a_1 ?_
 refine ak_ (n_k ?_)
 exact af_ (c_e (am_ _))
theorem c5_(p:List Rat)(k:Rat)(hp:smL p)(hk:sm k)(hp1:p.length≤1099511627776):FSpec Tryz.prog 50 [.arr (pE p),.agg (qC k)] (.arr (pE (ay_ p k))):=by
 have he:=i6_ p.length (fun i=>coP p i* k) 140 [bP p,bQ k] hp1 (aa_ (bb_ p) (aa_ (b5_ k) ab_)) (fun i hi=>o0_ p k i hp hk hi)
 refine f_n Tryz.func50 ?_ ?_
 exact aa_ (aj_ p) (aa_ (am_ k) ab_)
 refine r_z 3 ?_
 refine AWp.ent (st':=⟨[(2,bP p),(3,bQ k)],[],1,9⟩) ?_ ?_
 exact s_e []
 refine r_c 5 (he) ?_
 refine a_z ?_
 exact af_ (t_e (aj_ _))
theorem dw_(a b:Rat)(hb:b≠0)(h:qs a+qs b≤549755813888):FSpec Tryz.prog 144 [.agg (qC a),.agg (qC b)] (.agg (qC (a/ b))):=by
 refine f_n Tryz.func144 ?_ ?_
 exact aa_ (am_ a) (aa_ (am_ b) ab_)
 refine r_z 3 ?_
 refine r_c 9 (mq_ a b hb h) ?_
 refine a_z ?_
 refine r_z 2 ?_
 exact af_ (c_e (am_ _))
theorem fi_(a:Rat):FSpec Tryz.prog 187 [.agg (qC a)] (.arr (pE (bT_ a))):=by
 refine f_n Tryz.func187 ?_ ?_
 exact aa_ (am_ a) ab_
 refine r_z 2 ?_
 refine s_r 4 ?_
 refine a_2 ?_
 refine o_1 (.callS1 rfl rfl rfl (.shut rfl d_n (.nil)) rfl ((b2_ [a] (by simp)))) ?_
 refine a_z ?_
 exact af_ (t_e (aj_ _))
theorem sm_neg1{a:Rat}(h:sm a):sm (a* (-1)):=by
 unfold sm at *
 rw[show a* (-1)= -a by rw[Rat.mul_comm,Rat.neg_mul,Rat.one_mul],d9_];exact h
theorem qs_inv(b:Rat)(hb:b≠0):qs (1/ b)≤qs b:=by
 rw[hG_ 1 b hb]
 have hn:b.num≠0:=fun e=>hb (Rat.num_eq_zero.1 e)
 have h1:=cD_ b
 have h2:=cp_ b
 refine cs_ (by have:0< b.num.natAbs:=by omega
                show 0< 1* b.num.natAbs
                omega) ?_ ?_
 show bl ((1:Int) * sgn (decide (b.num< 0)) b.den).natAbs≤qs b
 rw[Int.one_mul,cL_];exact h2
 show bl (1* b.num.natAbs)≤qs b
 rw[Nat.one_mul];exact h1
theorem m6_{q:List Rat}(h:smL q):smL (ay_ q (-1)):=by
 refine gF_ fun x hx=>?_
 obtain⟨i,_,rfl⟩:=List.mem_map.1 hx
 exact sm_neg1 (fT_ h i)
theorem oZ_(p q:List Rat)(hp:smL p)(hq:smL q)(hp1:p.length≤1099511627776)(hq1:q.length≤1099511627776):FSpec Tryz.prog 73 [.arr (pE p),.arr (pE q)] (.arr (pE (subP p q))):=by
 have hl:=by_ q (-1)
 refine f_n Tryz.func73 ?_ ?_
 exact aa_ (aj_ p) (aa_ (aj_ q) ab_)
 refine r_z 1 ?_
 refine r_c 6 (dh_ (-1) (by decide)) ?_
 refine c_s (c5_ q (-1) hq (by decide) hq1) ?_
 refine c_s (fs_Add p (ay_ q (-1)) hp (m6_ hq) hp1 (by omega)) ?_
 refine a_z ?_
 exact af_ (t_e (aj_ _))
theorem i4_(p:List Rat)(hp:smL p)(hp1:p.length≤1099511627776):FSpec Tryz.prog 270 [.arr (pE p)] (.arr (pE (aW_ p))):=by
 have hlead:=leadP_sm hp
 refine f_n Tryz.func270 ?_ ?_
 exact aa_ (aj_ p) ab_
 refine r_z 1 ?_
 refine ac_ (r_c 3 (bo_ p hp1) ?_)
 refine a_z ?_
 refine ah_ rfl (fun h=>?_) (fun h=>?_)
 have h0:trimQ p=[]:=by
  have h1:degP p< 0:=by simpa using h
  unfold degP at h1
  exact List.length_eq_zero_iff.1 (by omega)
 refine r_z 1 ?_
 refine af_ ?_
 unfold aW_
 rw[if_pos h0]
 exact Fin.tmpN rfl
 have h0:trimQ p≠[]:=by
  intro e
  have h1:¬degP p< 0:=by simpa using h
  unfold degP at h1
  rw[e] at h1
  exact h1 (by decide)
 have hne:=bt_ h0
 have hinv:=qs_inv (leadP p) hne
 unfold sm at hlead
 have h1:qs 1=1:=by decide
 unfold aW_
 rw[if_neg h0]
 refine ae_ (r_c 7 (dh_ 1 (by decide)) ?_)
 refine c_s (fj_ p hp1) ?_
 refine c_s (dw_ 1 (leadP p) hne (by omega)) ?_
 refine c_s (c5_ p (1/ leadP p) hp (by unfold sm;omega) hp1) ?_
 refine a_z ?_
 exact af_ (t_e (aj_ _))
theorem lZ_(i:Nat)(h:i≤1099511627776):qs (((i:Nat):Int):Rat)≤64:=by
 refine Nat.max_le.2 ⟨?_,?_⟩
 show bl ((i:Int)).natAbs≤64
 rw[Int.natAbs_natCast]
 exact bl_le (by omega)
 show bl 1≤64
 decide
theorem no_(p:List Rat)(i:Nat)(hp:smL p)(hi:i+1< p.length)(hp1:p.length≤1099511627776):FSpec Tryz.prog 139 [i64 i,bP p] (.agg (qC (coP p (i+1) * ((i+1:Nat):Int)))):=by
 have hg:(pE p)[(((i:Nat):Int)+1).toNat]?=some (qC (coP p (i+1))):=by
  rw[show(((i:Nat):Int)+1).toNat=i+1 by omega];exact bv_ (a0_ hi)
 have hs:=fT_ hp (i+1)
 have hq:=lZ_ (i+1) (by omega)
 unfold sm at hs
 have hI:=dh_ (((i:Nat):Int)+1) (by omega)
 rw[show((i:Nat):Int)+1=((i+1:Nat):Int) by omega] at hI
 refine f_n Tryz.func139 ?_ ?_
 exact aa_ (ad_ _) (aa_ (bb_ p) ab_)
 refine r_z 1 ?_
 refine ac_ (r_d hmix 10 ?_)
 refine a_3 ?_
 refine i_x hg ?_
 refine l_x hg ?_
 refine c_s (hI) ?_
 refine c_s (cX_ (coP p (i+1)) ((i+1:Nat):Int) (by omega)) ?_
 refine a_1 ?_
 refine ak_ (n_k ?_)
 exact af_ (c_e (am_ _))
theorem fL_(p:List Rat)(hp:smL p)(hp1:p.length≤1099511627776):FSpec Tryz.prog 49 [.arr (pE p)] (.arr (pE (ao_ p))):=by
 have he:=i6_ (p.length- 1) (fun i=>coP p (i+1) * ((i+1:Nat):Int)) 139 [bP p] (by omega) (aa_ (bb_ p) ab_) (fun i hi=>no_ p i hp (by omega) hp1)
 have hm:(if (0:Int)>((p.length:Nat):Int)- 1 then(0:Int) else((p.length:Nat):Int)- 1)=((p.length- 1:Nat):Int):=by split <;> omega
 rw[←hm] at he
 refine f_n Tryz.func49 ?_ ?_
 exact aa_ (aj_ p) ab_
 refine r_z 2 ?_
 refine AWp.ent (st':=⟨[(1,bP p)],[],1,9⟩) ?_ ?_
 exact s_e []
 refine r_c 7 (he) ?_
 refine a_z ?_
 exact af_ (t_e (aj_ _))
theorem kr_(p:List Rat)(i:Nat)(hp:smL p)(hi:i< p.length+1)(hp1:p.length≤1099511627775):FSpec Tryz.prog 143 [i64 i,bP p] (.agg (qC (if i=0 then 0 else coP p (i- 1) / ((i:Nat):Int)))):=by
 refine f_n Tryz.func143 ?_ ?_
 exact aa_ (ad_ _) (aa_ (bb_ p) ab_)
 refine r_z 1 ?_
 refine ac_ (r_z 2 ?_)
 refine ah_ rfl (fun h=>?_) (fun h=>?_)
 have h0:i=0:=by
  have h1:(i:Int)=0:=by simpa using h
  omega
 rw[if_pos h0]
 refine r_z 2 ?_
 refine af_ (Fin.cell rfl rfl rfl tg_35.h ts_35.h (nle rfl) (Cv.agg ?_))
 rw[qC0]
 exact ai_ (Cv.emp _) (ai_ (aA_ aB_ (ad_ _)) (ai_ (Cv.emp _) as_))
 have h0:i≠0:=by
  intro e
  have h1:¬(i:Int)=0:=by simpa using h
  omega
 rw[if_neg h0]
 have hg:(pE p)[(((i:Nat):Int)- 1).toNat]?=some (qC (coP p (i- 1))):=by
  rw[show(((i:Nat):Int)- 1).toNat=i- 1 by omega];exact bv_ (a0_ (by omega))
 have hs:=fT_ hp (i- 1)
 have hq:=lZ_ i (by omega)
 unfold sm at hs
 refine ae_ (ac_ (r_d hmix 9 ?_))
 refine a_3 ?_
 refine i_x hg ?_
 refine l_x hg ?_
 refine c_s (dh_ ((i:Nat):Int) (by omega)) ?_
 refine c_s (dw_ (coP p (i- 1)) ((i:Nat):Int) (by intro e;have e2:=congrArg Rat.num e;simp at e2;omega) (by omega)) ?_
 refine a_1 ?_
 refine ak_ (n_k ?_)
 exact af_ (c_e (am_ _))
theorem lv_(p:List Rat)(hp:smL p)(hp1:p.length≤1099511627775):FSpec Tryz.prog 53 [.arr (pE p)] (.arr (pE (aO_ p))):=by
 have he:=i6_ (p.length+1) (fun i=>if i=0 then 0 else coP p (i- 1) / ((i:Nat):Int)) 143 [bP p] (by omega) (aa_ (bb_ p) ab_) (fun i hi=>kr_ p i hp hi hp1)
 rw[show((p.length+1:Nat):Int)=((p.length:Nat):Int)+1 by omega] at he
 refine f_n Tryz.func53 ?_ ?_
 exact aa_ (aj_ p) ab_
 refine r_z 2 ?_
 refine AWp.ent (st':=⟨[(1,bP p)],[],1,8⟩) ?_ ?_
 exact s_e []
 refine r_c 6 (he) ?_
 refine a_z ?_
 exact af_ (t_e (aj_ _))
theorem fs_Same1(a b:Rat)(ha:sm a)(hb:sm b):FSpec Tryz.prog 100 [.agg (qC a),.agg (qC b)] (bln (decide (a=b))):=by
 have e:(cmpQ a b==(0:Int))=decide (a=b):=by
  unfold cmpQ
  by_cases h:a=b
  subst h;simp[Rat.lt_irrefl]
  by_cases h1:a< b
  simp[h,h1]
  simp[h,h1]
 refine f_n Tryz.func100 ?_ ?_
 exact aa_ (am_ a) (aa_ (am_ b) ab_)
 refine r_z 3 ?_
 refine r_c 5 (hy_ a b ha hb) ?_
 refine a_z ?_
 refine af_ (aN_ rfl ?_ ?_)
 rw[←e];rfl
 exact ad_ _
def eqS(p:List Rat)(q:List Rat):Nat→AState
 |i=>⟨[(1,.arr (pE q)),(2,.clos 100 [] []),(15,.arr (pE p)),(16,i64 p.length),(17,i64 i)],[],1,32⟩
theorem pe_(p:List Rat)(q:List Rat)(i:Nat):eqS p q i=⟨[(1,.arr (pE q)),(2,.clos 100 [] []),(15,.arr (pE p)),(16,i64 p.length),(17,i64 i)],[],1,32⟩:=rfl
theorem kt_(p q:List Rat)(hp:smL p)(hq:smL q)(hp1:p.length≤1099511627776):FSpec Tryz.prog 98 [.arr (pE p),.arr (pE q),.clos 100 [] []] (bln (decide (p=q))):=by
 refine f_n Tryz.func98 ?_ ?_
 exact aa_ (aj_ p) (aa_ (aj_ q) (aa_ (aJ_ ab_ ab_) ab_))
 refine r_z 1 ?_
 refine ac_ (r_z 5 ?_)
 refine ah_ rfl (fun h=>?_) (fun h=>?_)
 have hne:p≠q:=by
  intro e
  subst e
  simp at h
 refine r_z 1 ?_
 refine af_ (aN_ rfl ?_ ?_)
 simp[hne];rfl
 exact ad_ _
 have hlen:p.length=q.length:=by
  have h1:(p.length:Int)=q.length:=by simpa using h
  omega
 refine ae_ (ac_ (r_z 3 ?_))
 refine aF_ (fun _:Unit=>⟨[],[],1,32⟩) (fun _=>p=q) ?_ ?_
 refine ag_ (aw_ (eqS p q) (fun i=>p.length- i) (fun i=>i≤p.length∧p.take i=q.take i) 0 ⟨Nat.zero_le _,rfl⟩ ?_ ?_)
 simp only[pe_]
 exact s_e []
 rintro i ⟨hi,ht⟩
 rw[pe_]
 refine r_z 1 ?_
 refine ac_ (ah_ rfl (fun h1=>?_) (fun h1=>?_))
 refine ae_ ?_
 have hlt:i< p.length:=by simpa using h1
 have hlt2:i< q.length:=by omega
 have hgp:(pE p)[((i:Nat):Int).toNat]?=some (qC (coP p i)):=bv_ (a0_ hlt)
 have hgq:(pE q)[((i:Nat):Int).toNat]?=some (qC (coP q i)):=bv_ (a0_ hlt2)
 refine ac_ (ag_ (s_r 6 ?_))
 refine a_1 ?_
 refine i_x hgp ?_
 refine l_x hgp ?_
 refine a_z ?_
 refine s_r 6 ?_
 refine a_2 ?_
 refine i_x hgq ?_
 refine l_x hgq ?_
 refine a_z ?_
 refine r_c 5 (fs_Same1 (coP p i) (coP q i) (fT_ hp i) (fT_ hq i)) ?_
 refine a_z ?_
 refine ah_ rfl (fun h2=>?_) (fun h2=>?_)
 have hc:coP p i≠coP q i:=by simpa using h2
 have hne:p≠q:=fun e=>hc (by rw[e])
 refine r_z 1 ?_
 refine af_ (aN_ rfl ?_ ?_)
 simp[hne];rfl
 exact ad_ _
 have hc:coP p i=coP q i:=by simpa using h2
 refine ae_ (r_m 2 ?_)
 refine a_z ?_
 refine⟨i+1,by omega,⟨hlt,?_⟩,?_⟩
 rw[ca_ (a0_ hlt),ca_ (a0_ hlt2),ht,hc]
 simp only[pe_]
 exact s_e []
 have hge:i=p.length:=by
  have:¬i< p.length:=by simpa using h1
  omega
 subst hge
 refine at_ ⟨(),?_,?_⟩
 rw[List.take_length,hlen,List.take_length] at ht;exact ht
 exact s_e []
 rintro _ he
 refine r_z 1 ?_
 refine af_ (aN_ rfl ?_ ?_)
 simp[he];rfl
 exact ad_ _
theorem o1_(p q:List Rat)(hp:smL p)(hq:smL q)(hp1:p.length≤1099511627776)(hq1:q.length≤1099511627776):FSpec Tryz.prog 21 [.arr (pE p),.arr (pE q)] (bln (sameP p q)):=by
 refine f_n Tryz.func21 ?_ ?_
 exact aa_ (aj_ p) (aa_ (aj_ q) ab_)
 refine r_z 1 ?_
 refine r_c 6 (b2_ p hp1) ?_
 refine c_s (b2_ q hq1) ?_
 refine c_s (kt_ (trimQ p) (trimQ q) (gF_ hp) (gF_ hq) (Nat.le_trans (aD_ p) hp1)) ?_
 refine a_z ?_
 exact af_ (t_e (ad_ _))
def mulS(p:List Rat)(q:List Rat):Nat×List Rat→AState
 |(i,o)=>⟨[(1,.arr (pE q)),(5,.lsl 1 0 o.length (some o.length) 3),(25,.arr (pE p)),(26,i64 p.length),(27,i64 i)],[(1,some ⟨35,3,pE o⟩)],2,61⟩
theorem ff_(p:List Rat)(q:List Rat)(i:Nat)(o:List Rat):mulS p q (i,o)=⟨[(1,.arr (pE q)),(5,.lsl 1 0 o.length (some o.length) 3),(25,.arr (pE p)),(26,i64 p.length),(27,i64 i)],[(1,some ⟨35,3,pE o⟩)],2,61⟩:=rfl
def mulT(p:List Rat)(q:List Rat)(i:Nat)(a:Rat):Nat×List Rat→AState
 |(k,o)=>⟨[(1,.arr (pE q)),(5,.lsl 1 0 o.length (some o.length) 3),(6,i64 i),(7,.lptr 2 0 0),(25,.arr (pE p)),(26,i64 p.length),(27,i64 i),(35,.arr (pE q)),(36,i64 q.length),(37,i64 k)],[(1,some ⟨35,3,pE o⟩),(2,some ⟨35,3,[qC a]⟩)],3,61⟩
theorem lh_(p:List Rat)(q:List Rat)(i:Nat)(a:Rat)(k:Nat)(o:List Rat):mulT p q i a (k,o)=⟨[(1,.arr (pE q)),(5,.lsl 1 0 o.length (some o.length) 3),(6,i64 i),(7,.lptr 2 0 0),(25,.arr (pE p)),(26,i64 p.length),(27,i64 i),(35,.arr (pE q)),(36,i64 q.length),(37,i64 k)],[(1,some ⟨35,3,pE o⟩),(2,some ⟨35,3,[qC a]⟩)],3,61⟩:=rfl
theorem kq_(p q:List Rat)(s t:Nat)(hp:bdL p s)(hq:bdL q t)(hs:1≤s)(ht:1≤t)(h:p.length* (s+t+1)+1≤137438953472)(ht2:t≤137438953472)(hp1:p.length≤274877906944)(hq1:q.length≤274877906944):FSpec Tryz.prog 52 [.arr (pE p),.arr (pE q)] (.arr (pE (mulP p q))):=by
 refine f_n Tryz.func52 ?_ ?_
 exact aa_ (aj_ p) (aa_ (aj_ q) ab_)
 refine r_z 1 ?_
 refine aY_ (fun _:Unit=>⟨[(0,.arr (pE p)),(1,.arr (pE q))],[],1,61⟩) (fun _=>p≠[]∧q≠[]) ?_ ?_
 by_cases h1:p=[]
 subst h1
 refine s_r 8 ?_
 refine a_4 ?_
 refine n_g rfl (by simp) ?_
 refine n_g rfl (by simp) ?_
 refine n_g rfl (by simp) ?_
 refine o_0 (.pickT rfl (by simp) rfl) ?_
 refine ak_ ?_
 refine ah_ rfl (fun h=>?_) (fun h=>?_)
 refine r_z 1 ?_
 refine af_ ?_
 unfold mulP
 rw[if_pos (.inl rfl)]
 exact Fin.tmpN rfl
 cases h
 have hp0:p.length≠0:=fun e=>h1 (List.length_eq_zero_iff.1 e)
 refine s_r 8 ?_
 refine a_4 ?_
 refine y_g rfl (by simp <;> omega) (.move rfl) ?_
 first|refine y_g rfl (by simp <;> omega) (.lenD rfl rfl rfl rfl te_55.h) ?_|refine y_g rfl (by simp <;> omega) (.lenI rfl rfl rfl rfl te_55.h) ?_|refine y_g rfl (by simp <;> omega) (.lenP rfl rfl rfl rfl te_55.h) ?_|refine y_g rfl (by simp <;> omega) (.lenC rfl rfl rfl rfl te_55.h) ?_|refine y_g rfl (by simp <;> omega) (.lenR rfl rfl rfl rfl te_55.h) ?_|refine y_g rfl (by simp <;> omega) (.len rfl rfl rfl rfl rfl te_55.h) ?_
 refine y_g rfl (by simp <;> omega) (.bin rfl rfl br_) ?_
 refine o_0 (.pickF rfl (by simp <;> omega) rfl) ?_
 refine ak_ ?_
 refine ah_ rfl (fun h2=>?_) (fun h2=>?_)
 have hq0:q=[]:=by
  have:q.length=0:=by simpa using h2
  exact List.length_eq_zero_iff.1 this
 refine r_z 1 ?_
 refine af_ ?_
 unfold mulP
 rw[if_pos (.inr hq0)]
 exact Fin.tmpN rfl
 have hq0:q≠[]:=by
  have:¬q.length=0:=by simpa using h2
  exact fun e=>this (by rw[e];rfl)
 refine ae_ ⟨(),⟨h1,hq0⟩,?_⟩
 exact s_e []
 rintro _ ⟨hp0,hq0⟩
 have hpl:=List.length_pos_iff.2 hp0
 have hql:=List.length_pos_iff.2 hq0
 have hN:(p.length:Int)+q.length- 1=((p.length+q.length- 1:Nat):Int):=by omega
 refine s_r 8 ?_
 refine a_6 ?_
 refine o_1 (.makeSlice (l:=p.length+q.length- 1) (c:=p.length+q.length- 1) (by rw[←hN];rfl) (by rw[←hN];rfl) te_55.h tz_35.h rfl tb_35.h (by first|omega|(simp;done)|(simp;omega)) (by first|omega|(simp;done)|(simp;omega)) (by unfold maxLen;first|omega|(simp;done)|(simp;omega))) ?_
 refine a_z ?_
 refine ac_ (r_z 3 ?_)
 have hbd:=fun i=>iS_ (bz_ hp hs) (bz_ hq ht) i
 have hbi:∀i,i≤p.length→i* (s+t+1)+1≤137438953472:=fun i hi=>by
  have:=Nat.mul_le_mul_right (s+t+1) hi
  omega
 have hs2:s≤137438953472:=by
  have:=hbi 1 hpl
  omega
 refine aF_ (fun _:Unit=>mulS p q (p.length,mulR p q p.length)) (fun _=>True) ?_ ?_
 refine ag_ (aw_ (fun i:Nat=>mulS p q (i,mulR p q i)) (fun i=>p.length- i) (fun i=>i≤p.length) 0 (Nat.zero_le _) ?_ ?_)
 simp only[ff_,mulR]
 refine ax_ [(1,5)] rfl rfl rfl au_r (fun hs=>au_f) (fun hs=>?_)
 ·repeat' (first|exact av_|refine an_ rfl rfl rfl rfl ?_ ?_)
  all_goals (first|(exact CvLL.zeros hs _)|exact au_e)
 rintro i hi
 simp only[ff_]
 refine r_z 1 ?_
 refine ac_ (ah_ rfl (fun h=>?_) (fun h=>?_))
 refine ae_ ?_
 have hlt:i< p.length:=by simpa using h
 have hgp:(pE p)[((i:Nat):Int).toNat]?=some (qC (coP p i)):=bv_ (a0_ hlt)
 refine ac_ (ag_ (s_r 6 ?_))
 refine a_1 ?_
 refine i_x hgp ?_
 refine l_x hgp ?_
 refine a_z ?_
 refine ac_ (r_c 3 (bJ_ (coP p i)) ?_)
 refine a_z ?_
 refine ah_ rfl (fun h1=>?_) (fun h1=>?_)
 have h0:coP p i=0:=by
  have h1:sgZ (coP p i).num=0:=by simpa using h1
  exact sgZ_num_eq.1 h1
 have hst:mulR p q (i+1)=mulR p q i:=by rw[mulR,if_pos h0]
 refine at_ (r_m 2 ?_)
 refine a_z ?_
 refine⟨i+1,by omega,hlt,?_⟩
 simp only[ff_,hst]
 exact s_e []
 have h0:coP p i≠0:=by
  intro e
  have h1:¬sgZ (coP p i).num=0:=by simpa using h1
  exact h1 (sgZ_num_eq.2 e)
 have hst:mulR p q (i+1)=rowP (mulR p q i) (coP p i) q i q.length:=by rw[mulR,if_neg h0]
 refine ae_ (r_z 3 ?_)
 refine AWp.cutB (fun _:Unit=>mulS p q (i,mulR p q (i+1))) (fun _=>True) ?_ ?_
 refine ag_ (aw_ (fun k:Nat=>mulT p q i (coP p i) (k,rowP (mulR p q i) (coP p i) q i k)) (fun k=>q.length- k) (fun k=>k≤q.length) 0 (Nat.zero_le _) ?_ ?_)
 simp only[lh_,rowP]
 exact s_e [(2,7)]
 rintro k hk
 simp only[lh_]
 refine r_z 1 ?_
 refine ac_ (ah_ rfl (fun h2=>?_) (fun h2=>?_))
 refine ae_ ?_
 have hlt2:k< q.length:=by simpa using h2
 have hgq:(pE q)[((k:Nat):Int).toNat]?=some (qC (coP q k)):=bv_ (a0_ hlt2)
 refine ac_ (ag_ (s_r 6 ?_))
 refine a_1 ?_
 refine i_x hgq ?_
 refine l_x hgq ?_
 refine a_z ?_
 have hb1:=hbd i
 have hb2:=hbi (i+1) hlt
 have hb3:=hbi i hi
 have hcur:qs (coP (rowP (mulR p q i) (coP p i) q i k) (i+k))≤137438953472:=by
  rw[iM_ _ _ _ _ _ _ (by omega)];exact Nat.le_trans (hb1 (i+k)) hb3
 have hab:=cd_ (coP p i) (coP q k)
 have hqa:=bz_ hp hs i
 have hqb:=bz_ hq ht k
 have hik:i+k< (rowP (mulR p q i) (coP p i) q i k).length:=by simp;omega
 have hgo:(pE (rowP (mulR p q i) (coP p i) q i k))[(0+(((i:Nat):Int)+(k:Nat)).toNat)]?=some (qC (coP (rowP (mulR p q i) (coP p i) q i k) (i+k))):=by
  rw[show 0+(((i:Nat):Int)+(k:Nat)).toNat=i+k by omega];exact bv_ (a0_ hik)
 refine r_d hmix 16 ?_
 refine a_8 ?_
 refine a_1 ?_
 first|refine aM_ (.load_l rfl rfl hgo tg_35.h ts_35.h (nle rfl)) rfl rfl ?_|refine aM_ (.load_a rfl hgo tg_35.h ts_35.h (nle rfl)) rfl rfl ?_
 refine c_s (cX_ (coP p i) (coP q k) (by omega)) ?_
 refine c_s (e7_ (coP (rowP (mulR p q i) (coP p i) q i k) (i+k)) (coP p i* coP q k) (by omega)) ?_
 refine a_1 ?_
 refine o_1n (.store rfl rfl hgo rfl rfl rfl ts_35.h (nle rfl)) ?_
 refine ak_ (n_k ?_)
 refine r_m 2 ?_
 refine a_z ?_
 refine⟨k+1,by omega,hlt2,?_⟩
 have hst2:(pE (rowP (mulR p q i) (coP p i) q i k)).set (0+(((i:Nat):Int)+(k:Nat)).toNat) (qC (coP (rowP (mulR p q i) (coP p i) q i k) (i+k)+coP p i* coP q k))=pE (rowP (mulR p q i) (coP p i) q i (k+1)):=by
  rw[show 0+(((i:Nat):Int)+(k:Nat)).toNat=i+k by omega,hd_];rfl
 have hl2:(rowP (mulR p q i) (coP p i) q i (k+1)).length=(rowP (mulR p q i) (coP p i) q i k).length:=by simp
 simp only[lh_,hl2]
 refine ax_ [] rfl rfl rfl ?_ (fun hs=>au_f) (fun hs=>?_)
 ·repeat' (first|exact ShrL.nil|refine ShrL.cons rfl rfl rfl rfl (by first|(simp)|rfl|(simp;done)|(simp <;> omega)) ?_)
 ·repeat' (first|exact av_|refine an_ rfl rfl rfl rfl ?_ ?_)
  all_goals (first|(exact aE_ hs hst2 (aC_ _))|exact au_e)
 have hge:k=q.length:=by
  have:¬k< q.length:=by simpa using h2
  omega
 subst hge
 refine at_ ⟨(),trivial,?_⟩
 simp only[ff_,hst]
 exact s_e []
 rintro _ _
 simp only[ff_]
 refine r_m 2 ?_
 refine a_z ?_
 refine⟨i+1,by omega,hlt,?_⟩
 exact s_e []
 have hge:i=p.length:=by
  have:¬i< p.length:=by simpa using h
  omega
 subst hge
 refine at_ ⟨(),trivial,?_⟩
 simp only[ff_]
 exact s_e []
 rintro _ _
 simp only[ff_]
 have hfull:List.take (mulR p q p.length).length (List.drop 0 (pE (mulR p q p.length)))=pE (mulR p q p.length):=by
  rw[List.drop_zero,List.take_of_length_le (by simp)]
 have hfin:mulP p q=trimQ (mulR p q p.length):=by
  unfold mulP;rw[if_neg (by rintro(h|h);exact hp0 h;exact hq0 h)]
 rw[hfin]
 refine s_r 3 ?_
 refine a_1 ?_
 refine o_1 (.callS1 rfl rfl rfl (.shut rfl d_n (.nil)) rfl ((by rw[hfull];exact b2_ (mulR p q p.length) (by simp;omega)))) ?_
 refine a_z ?_
 exact af_ (t_e (aj_ _))
theorem os_Clone(l:List Rat)(h0:l≠[])(hl:l.length≤1099511627776):OSpec Tryz.prog 184 [.arr (pE l)] 35 3 (pE l):=by
 have hne:pE l≠[]:=by
  intro e
  exact h0 (List.length_eq_zero_iff.1 (by rw[←j5_,e];rfl))
 refine OSpec.enter Tryz.func184 rfl (by kernel_rfl) rfl rfl rfl ?_ ?_ rfl ?_
 exact aa_ (aL_ (aC_ _)) ab_
 exact aC_ l
 refine r_z 1 ?_
 refine ac_ (s_r 2 ?_)
 refine a_1 ?_
 first|refine aM_ (.nilq_v rfl rfl te_55.h) rfl rfl ?_|refine aM_ (.nilq_arr rfl (hne) rfl te_55.h) rfl rfl ?_
 refine ak_ ?_
 refine cF ?_
 ·refine ae_ (s_r 4 ?_)
  refine a_2 ?_
  refine o_2 (.append_l rfl rfl rfl te_55.h rfl rfl rfl rfl rfl d_o (by first|exact ed_ _|exact ec_ _|exact dr_ _|exact ef_ _|exact d8_ _|assumption|rfl|simp) (by first|rfl|exact ed_ _|exact ec_ _|exact dr_ _|exact ef_ _|exact d8_ _|simp) rfl (.arr (fe_ _)) tz_35.h rfl tb_35.h d_o (by first|(simp[maxLen];done)|(simp[maxLen];omega))) ?_
  refine a_z ?_
  exact af_ (FinO.tmp rfl rfl rfl (by simp))
theorem os_Trim(l:List Rat)(h0:trimQ l≠[])(hl:l.length≤1099511627776):OSpec Tryz.prog 99 [.arr (pE l)] 35 3 (pE (trimQ l)):=by
 refine OSpec.enter Tryz.func99 rfl (by kernel_rfl) rfl rfl rfl ?_ ?_ rfl ?_
 exact aa_ (aL_ (aC_ _)) ab_
 exact aC_ _
 refine r_z 1 ?_
 refine r_z 3 ?_
 refine aY_ (trS l) (fun n=>n≤l.length∧trimQ l=l.take n) ?_ ?_
 refine ag_ (aw_ (trS l) (fun n=>n) (fun n=>n≤l.length∧trimQ l=trimQ (l.take n)) l.length ⟨Nat.le_refl _,by rw[List.take_length]⟩ ?_ ?_)
 simp only[eh_]
 exact s_e []
 rintro n ⟨hn,ht⟩
 rw[eh_]
 cases n with
 |zero=>exact absurd (ht.trans rfl) h0
 |succ n=>
  obtain⟨q,hq⟩:∃q,l[n]?=some q:=⟨_,List.getElem?_eq_getElem (by omega)⟩
  have hq':(pE l)[(((n+1:Nat):Int)- 1).toNat]?=some (qC q):=by
   rw[show(((n+1:Nat):Int)- 1).toNat=n by omega];exact bv_ hq
  have hs:trimQ (l.take (n+1))=if q=0 then trimQ (l.take n) else l.take (n+1):=by
   rw[ca_ hq,f2_]
  refine ac_ (s_r 11 ?_)
  refine a_3 ?_
  refine y_g rfl (by simp <;> omega) (.move rfl) ?_
  refine y_g rfl (by simp <;> omega) (.move rfl) ?_
  refine y_g rfl (by simp <;> omega) (.bin rfl rfl (gV_ (by omega))) ?_
  first|refine y_g rfl (by simp <;> omega) (.index_l rfl rfl (by omega) (by omega) te_55.h) ?_|refine y_g rfl (by simp <;> omega) (.index_a rfl rfl (by omega) hq' rfl te_55.h) ?_
  first|refine y_g rfl (by simp <;> omega) (.load_l rfl rfl hq' tg_35.h ts_35.h (nle rfl)) ?_|refine y_g rfl (by simp <;> omega) (.load_a rfl hq' tg_35.h ts_35.h (nle rfl)) ?_
  refine y_g rfl (by simp <;> omega) (.call rfl rfl rfl (bJ_ q)) ?_
  refine y_g rfl (by simp <;> omega) (.bin rfl rfl br_) ?_
  refine o_0 (.pickT rfl (by simp <;> omega) rfl) ?_
  refine ak_ ?_
  refine ah_ rfl (fun h=>?_) (fun h=>?_)
  have h0:q=0:=by
   have h1:sgZ q.num=0:=by simpa using h
   exact sgZ_num_eq.1 h1
  refine ae_ (ag_ (r_m 3 ?_))
  refine a_z ?_
  refine⟨n,Nat.lt_succ_self n,⟨by omega,?_⟩,?_⟩
  rw[ht,hs,if_pos h0]
  simp only[eh_]
  exact s_e []
  have h0:q≠0:=by
   intro e
   have h1:¬sgZ q.num=0:=by simpa using h
   exact h1 (sgZ_num_eq.2 e)
  refine at_ ⟨n+1,⟨hn,?_⟩,?_⟩
  rw[ht,hs,if_neg h0]
  simp only[eh_]
  exact s_e []
 rintro n ⟨hn,ht⟩
 rw[eh_]
 rw[ht] at h0
 have hcl:=os_Clone (l.take n) h0 (by simp;omega)
 refine s_r 5 ?_
 refine a_2 ?_
 refine o_0 (.sa_h rfl rfl (h:=n) rfl (by simp;omega) te_55.h (fe_ _)) ?_
 refine o_1 (.callO rfl rfl rfl ((by rw[lg_];exact hcl))) ?_
 refine a_z ?_
 refine af_ ?_
 rw[ht]
 exact FinO.tmp rfl rfl rfl (by simp)
def dvS(q:List Rat)(lead:Rat):Nat×List Rat×List Rat→AState
 |(c,u,o)=>⟨[(0,.lsl 1 0 o.length none 3),(1,.arr (pE q)),(4,.lsl 2 0 u.length (some u.length) 3),(6,.lptr 3 0 0),(7,i64 ((c:Int)- 1))],[(1,some ⟨35,3,pE o⟩),(2,some ⟨35,3,pE u⟩),(3,some ⟨35,3,[qC lead]⟩)],4,82⟩
theorem mC_(q:List Rat)(lead:Rat)(c:Nat)(u:List Rat)(o:List Rat):dvS q lead (c,u,o)=⟨[(0,.lsl 1 0 o.length none 3),(1,.arr (pE q)),(4,.lsl 2 0 u.length (some u.length) 3),(6,.lptr 3 0 0),(7,i64 ((c:Int)- 1))],[(1,some ⟨35,3,pE o⟩),(2,some ⟨35,3,pE u⟩),(3,some ⟨35,3,[qC lead]⟩)],4,82⟩:=rfl
def dvT(q:List Rat)(lead:Rat)(n:Nat)(u:List Rat)(k:Rat):Nat×List Rat→AState
 |(i,o)=>⟨[(0,.lsl 1 0 o.length none 3),(1,.arr (pE q)),(4,.lsl 2 0 u.length (some u.length) 3),(6,.lptr 3 0 0),(7,i64 n),(8,.lptr 4 0 0),(55,.arr (pE q)),(56,i64 q.length),(57,i64 i)],[(1,some ⟨35,3,pE o⟩),(2,some ⟨35,3,pE u⟩),(3,some ⟨35,3,[qC lead]⟩),(4,some ⟨35,3,[qC k]⟩)],5,82⟩
theorem pg_(q:List Rat)(lead:Rat)(n:Nat)(u:List Rat)(k:Rat)(i:Nat)(o:List Rat):dvT q lead n u k (i,o)=⟨[(0,.lsl 1 0 o.length none 3),(1,.arr (pE q)),(4,.lsl 2 0 u.length (some u.length) 3),(6,.lptr 3 0 0),(7,i64 n),(8,.lptr 4 0 0),(55,.arr (pE q)),(56,i64 q.length),(57,i64 i)],[(1,some ⟨35,3,pE o⟩),(2,some ⟨35,3,pE u⟩),(3,some ⟨35,3,[qC lead]⟩),(4,some ⟨35,3,[qC k]⟩)],5,82⟩:=rfl
theorem es_(p q:List Rat)(s t:Nat)(hp:bdL p s)(hq:bdL q t)(hs:1≤s)(ht:1≤t)(h:2^ ((trimQ p).length+1- (trimQ q).length) * (s+2* t+1)≤137438953472)(hq0:trimQ q≠[])(hp1:p.length≤274877906944)(hq1:q.length≤274877906944):FSpec Tryz.prog 227 [.arr (pE p),.arr (pE q)] (.tup [.arr (pE (divP p q).1),.arr (pE (divP p q).2)]):=by
 have hlp:=aD_ p
 have hlq:=aD_ q
 have hql:=List.length_pos_iff.2 hq0
 have hg:(pE (trimQ q))[(((trimQ q).length:Int)- 1).toNat]?=some (qC (leadP q)):=by
  rw[show(((trimQ q).length:Int)- 1).toNat=(trimQ q).length- 1 by omega];exact bv_ (bx_ (by omega))
 have hne:=bt_ hq0
 obtain⟨m,hm⟩:∃m,m=(trimQ p).length+1- (trimQ q).length:=⟨_,rfl⟩
 have hmx:(if (0:Int)>((trimQ p).length:Int)- (trimQ q).length+1 then(0:Int) else((trimQ p).length:Int)- (trimQ q).length+1)=(m:Int):=by split <;> omega
 have hB:divB (trimQ q) (leadP q) 137438953472 m (List.replicate m 0) (trimQ p):=by
  refine⟨s,t,bz_ (fun x hx=>hp x (a9_ hx)) hs,bz_ (fun x hx=>hq x (a9_ hx)) ht,hq _ (a9_ (List.mem_of_getElem? (bx_ (n:=(trimQ q).length- 1) (by omega)))),ht,fun n=>?_,by rw[hm];exact h⟩
  have:coP (List.replicate m 0) n=0:=by
   unfold coP
   rw[List.getD_eq_getElem?_getD,List.getElem?_replicate]
   split <;> rfl
  rw[this];decide
 have hdv:divP p q=(trimQ (divR (trimQ q) (leadP q) m (List.replicate m 0) (trimQ p)).1,trimQ (divR (trimQ q) (leadP q) m (List.replicate m 0) (trimQ p)).2):=by rw[hm];rfl
 rw[hdv]
 refine f_n Tryz.func227 ?_ ?_
 exact aa_ (aj_ p) (aa_ (aj_ q) ab_)
 refine r_z 2 ?_
 by_cases hp0:trimQ p=[]
 ·have hm0:m=0:=by rw[hm,hp0];simp;omega
  subst hm0
  rw[hp0] at hmx⊢
  have htp:=b2_ p (by omega)
  rw[hp0] at htp
  refine r_c 6 (htp) ?_
  refine c_s (b2_ q (by omega)) ?_
  refine a_z ?_
  refine s_r 8 ?_
  refine a_4 ?_
  refine i_x hg ?_
  refine l_x hg ?_
  refine a_z ?_
  refine s_r 9 ?_
  refine a_7 ?_
  refine o_1 (.makeSlice (l:=0) (c:=0) (by rw[←hmx];rfl) (by rw[←hmx];rfl) te_55.h tz_35.h rfl tb_35.h (by first|omega|(simp;done)|(simp;omega)) (by first|omega|(simp;done)|(simp;omega)) (by unfold maxLen;first|omega|(simp;done)|(simp;omega))) ?_
  refine a_z ?_
  refine ac_ (r_z 6 ?_)
  refine aF_ (fun _:Unit=>⟨[(0,.arr (pE [])),(4,.lsl 2 0 0 (some 0) 3)],[(2,some ⟨35,3,[]⟩)],3,82⟩) (fun _=>True) ?_ ?_
  refine ag_ (aw_ (fun _:Unit=>⟨[(0,.arr (pE [])),(4,.lsl 2 0 0 (some 0) 3),(7,i64 (0- ((trimQ q).length:Int)))],[(2,some ⟨35,3,[]⟩)],3,82⟩) (fun _=>0) (fun _=>True) () trivial ?_ ?_)
  refine ax_ [(2,4)] rfl rfl rfl au_r (fun hs=>au_f) (fun hs=>?_)
  ·repeat' (first|exact av_|refine an_ rfl rfl rfl rfl ?_ ?_)
   all_goals (first|(exact CvLL.nil)|exact au_e)
  rintro _ _
  refine ac_ (r_z 2 ?_)
  refine ah_ rfl (fun h1=>?_) (fun h1=>?_)
  exact absurd h1 (by simp;omega)
  refine at_ ⟨(),trivial,?_⟩
  refine ax_ [] rfl rfl rfl au_r (fun hs=>au_f) (fun hs=>?_)
  ·repeat' (first|exact av_|refine an_ rfl rfl rfl rfl ?_ ?_)
   all_goals (first|(exact CvLL.nil)|exact au_e)
  rintro _ _
  refine s_r 6 ?_
  refine a_1 ?_
  refine o_1 (.callS1 rfl rfl rfl (.shut rfl d_n (.nil)) rfl ((b2_ [] (by simp)))) ?_
  refine c_s (b2_ [] (by simp)) ?_
  refine a_z ?_
  refine af_ (Fin.many ⟨_,_,rfl,rfl,⟨_,_,rfl,rfl,rfl⟩⟩ (nle rfl) ?_)
  exact ai_ (aA_ aB_ (aj_ _)) (ai_ (aA_ aB_ (aj_ _)) as_)
 have hpl:=List.length_pos_iff.2 hp0
 have hto:=os_Trim p hp0 (by omega)
 have hdl:=di_ (trimQ q) (leadP q) m (List.replicate m 0) (trimQ p)
 have hend:=lC_ hB
 refine s_r 6 ?_
 refine a_1 ?_
 refine o_1 (.callO rfl rfl rfl (hto)) ?_
 refine c_s (b2_ q (by omega)) ?_
 refine a_z ?_
 refine AWp.ent (st':=⟨[(0,.lsl 1 0 (trimQ p).length none 3),(1,.arr (pE (trimQ q)))],[(1,some ⟨35,3,pE (trimQ p)⟩)],2,82⟩) ?_ ?_
 exact s_e [(1,0)]
 refine s_r 8 ?_
 refine a_4 ?_
 refine i_x hg ?_
 refine l_x hg ?_
 refine a_z ?_
 refine s_r 9 ?_
 refine a_7 ?_
 refine o_1 (.makeSlice (l:=m) (c:=m) (by rw[←hmx];rfl) (by rw[←hmx];rfl) te_55.h tz_35.h rfl tb_35.h (by first|omega|(simp;done)|(simp;omega)) (by first|omega|(simp;done)|(simp;omega)) (by unfold maxLen;first|omega|(simp;done)|(simp;omega))) ?_
 refine a_z ?_
 refine ac_ (r_z 6 ?_)
 refine aF_ (fun x:List Rat×List Rat=>⟨[(0,.lsl 1 0 x.2.length none 3),(4,.lsl 2 0 x.1.length (some x.1.length) 3)],[(1,some ⟨35,3,pE x.2⟩),(2,some ⟨35,3,pE x.1⟩)],3,82⟩) (fun x=>x=divR (trimQ q) (leadP q) m (List.replicate m 0) (trimQ p)) ?_ ?_
 refine ag_ ?_
 by_cases hab:(trimQ p).length< (trimQ q).length
 have hm0:m=0:=by omega
 subst hm0
 refine aw_ (fun _:Unit=>⟨[(0,.lsl 1 0 (trimQ p).length none 3),(4,.lsl 2 0 0 (some 0) 3),(7,i64 (((trimQ p).length:Int)- ((trimQ q).length:Int)))],[(1,some ⟨35,3,pE (trimQ p)⟩),(2,some ⟨35,3,[]⟩)],3,82⟩) (fun _=>0) (fun _=>True) () trivial ?_ ?_
 refine ax_ [(1,0),(2,4)] rfl rfl rfl au_r (fun hs=>au_f) (fun hs=>?_)
 ·repeat' (first|exact av_|refine an_ rfl rfl rfl rfl ?_ ?_)
  all_goals (first|(exact CvLL.nil)|exact au_e)
 rintro _ _
 refine ac_ (r_z 2 ?_)
 refine ah_ rfl (fun h1=>?_) (fun h1=>?_)
 exact absurd h1 (by simp;omega)
 refine at_ ⟨([],trimQ p),rfl,?_⟩
 exact s_f []
 refine aw_ (fun x:Nat×List Rat×List Rat=>dvS (trimQ q) (leadP q) x) (fun x=>x.1) (fun x=>x.1≤m∧x.2.1.length=m∧x.2.2.length=(trimQ p).length∧divB (trimQ q) (leadP q) 137438953472 x.1 x.2.1 x.2.2∧divR (trimQ q) (leadP q) x.1 x.2.1 x.2.2=divR (trimQ q) (leadP q) m (List.replicate m 0) (trimQ p)) (m,List.replicate m 0,trimQ p) ⟨Nat.le_refl _,by simp,rfl,hB,rfl⟩ ?_ ?_
 simp only[mC_]
 have hm1:((trimQ p).length:Int)- (trimQ q).length=(m:Int)- 1:=by omega
 rw[hm1]
 refine ax_ [(1,0),(2,4),(3,6)] rfl rfl rfl au_r (fun hs=>au_f) (fun hs=>?_)
 ·repeat' (first|exact av_|refine an_ rfl rfl rfl rfl ?_ ?_)
  all_goals (first|(exact CvLL.zeros hs _)|exact au_e)
 rintro⟨c,u,o⟩ ⟨hc,hu,ho,hb,hr⟩
 simp only at hc hu ho hb hr
 simp only[mC_]
 cases c with
 |zero=>
  refine ac_ (r_z 2 ?_)
  refine ah_ rfl (fun h1=>?_) (fun h1=>?_)
  exact absurd h1 (by simp)
  refine at_ ⟨(u,o),hr,?_⟩
  exact s_e []
 |succ n=>
  obtain⟨B,tt,hb1,hb2,hb3,hb4⟩:=mF_ hb
  have hcn:((n+1:Nat):Int)- 1=(n:Int):=by omega
  rw[hcn]
  refine ac_ (r_z 2 ?_)
  refine ah_ rfl (fun h1=>?_) (fun h1=>?_)
  refine ae_ ?_
  obtain⟨k,hk⟩:∃k,k=coP o (n+(trimQ q).length- 1) / leadP q:=⟨_,rfl⟩
  have hst:=kI_ hb
  rw[divR] at hr
  rw[←hk] at hst hr
  have hgo:(pE o)[(0+(((n:Nat):Int)+((trimQ q).length:Nat)- 1).toNat)]?=some (qC (coP o (n+(trimQ q).length- 1))):=by
   rw[show 0+(((n:Nat):Int)+((trimQ q).length:Nat)- 1).toNat=n+(trimQ q).length- 1 by omega];exact bv_ (a0_ (by omega))
  have hov:=dw_ (coP o (n+(trimQ q).length- 1)) (leadP q) hne (by have:=hb1 (n+(trimQ q).length- 1);omega)
  rw[←hk] at hov
  have hgu:(pE u)[0+((n:Nat):Int).toNat]?=some (qC (coP u n)):=by
   rw[show 0+((n:Nat):Int).toNat=n by omega];exact bv_ (a0_ (by omega))
  refine ac_ (ag_ (ac_ (r_d hmix 12 ?_)))
  refine a_7 ?_
  first|refine aM_ (.load_l rfl rfl hgo tg_35.h ts_35.h (nle rfl)) rfl rfl ?_|refine aM_ (.load_a rfl hgo tg_35.h ts_35.h (nle rfl)) rfl rfl ?_
  refine c_s (hov) ?_
  refine a_2 ?_
  refine ak_ (n_k ?_)
  refine s_r 5 ?_
  refine a_4 ?_
  refine o_1n (.store rfl rfl hgu rfl rfl rfl ts_35.h (nle rfl)) ?_
  refine ak_ ?_
  have hsu:(pE u).set (0+((n:Nat):Int).toNat) (qC k)=pE (u.set n k):=by
   rw[show 0+((n:Nat):Int).toNat=n by omega,hd_]
  have hlu:(u.set n k).length=u.length:=by simp
  refine ac_ (r_c 3 (bJ_ k) ?_)
  refine a_z ?_
  refine ah_ rfl (fun h2=>?_) (fun h2=>?_)
  have h0:k=0:=by
   have h2:sgZ k.num=0:=by simpa using h2
   exact sgZ_num_eq.1 h2
  rw[if_pos h0] at hst hr
  refine at_ (r_m 3 ?_)
  refine a_z ?_
  refine⟨(n,u.set n k,o),Nat.lt_succ_self n,⟨by omega,by simp only;omega,ho,hst,hr⟩,?_⟩
  simp only[mC_,hlu]
  exact s_f []
  have h0:k≠0:=by
   intro e
   have h2:¬sgZ k.num=0:=by simpa using h2
   exact h2 (sgZ_num_eq.2 e)
  rw[if_neg h0] at hst hr
  refine ae_ (r_z 3 ?_)
  refine AWp.cutB (fun _:Unit=>⟨[(0,.lsl 1 0 o.length none 3),(1,.arr (pE (trimQ q))),(4,.lsl 2 0 u.length (some u.length) 3),(6,.lptr 3 0 0),(7,i64 n)],[(1,some ⟨35,3,pE (rowM o k (trimQ q) n (trimQ q).length)⟩),(2,some ⟨35,3,pE (u.set n k)⟩),(3,some ⟨35,3,[qC (leadP q)]⟩)],4,82⟩) (fun _=>True) ?_ ?_
  refine ag_ (aw_ (fun i:Nat=>dvT (trimQ q) (leadP q) n (u.set n k) k (i,rowM o k (trimQ q) n i)) (fun i=>(trimQ q).length- i) (fun i=>i≤(trimQ q).length) 0 (Nat.zero_le _) ?_ ?_)
  simp only[pg_,rowM,hlu]
  exact s_f [(4,8)]
  rintro i hi
  simp only[pg_]
  refine r_z 1 ?_
  refine ac_ (ah_ rfl (fun h3=>?_) (fun h3=>?_))
  refine ae_ ?_
  have hlt2:i< (trimQ q).length:=by simpa using h3
  have hgq:(pE (trimQ q))[((i:Nat):Int).toNat]?=some (qC (coP (trimQ q) i)):=bv_ (a0_ hlt2)
  have hcur:qs (coP (rowM o k (trimQ q) n i) (n+i))≤B:=by
   rw[fw_ _ _ _ _ _ _ (by omega)];exact hb1 _
  have hkq:qs k≤B+tt:=by
   have e1:=cI_ (coP o (n+(trimQ q).length- 1)) (leadP q)
   have e2:=hb1 (n+(trimQ q).length- 1)
   rw[hk];omega
  have hkm:=cd_ k (coP (trimQ q) i)
  have hqi:=hb2 i
  have hik:n+i< (rowM o k (trimQ q) n i).length:=by simp;omega
  have hgr:(pE (rowM o k (trimQ q) n i))[(0+(((n:Nat):Int)+(i:Nat)).toNat)]?=some (qC (coP (rowM o k (trimQ q) n i) (n+i))):=by
   rw[show 0+(((n:Nat):Int)+(i:Nat)).toNat=n+i by omega];exact bv_ (a0_ hik)
  refine ac_ (ag_ (s_r 6 ?_))
  refine a_1 ?_
  refine i_x hgq ?_
  refine l_x hgq ?_
  refine a_z ?_
  refine r_d hmix 16 ?_
  refine a_8 ?_
  refine a_1 ?_
  first|refine aM_ (.load_l rfl rfl hgr tg_35.h ts_35.h (nle rfl)) rfl rfl ?_|refine aM_ (.load_a rfl hgr tg_35.h ts_35.h (nle rfl)) rfl rfl ?_
  refine c_s (cX_ k (coP (trimQ q) i) (by omega)) ?_
  refine c_s (kj_ (coP (rowM o k (trimQ q) n i) (n+i)) (k* coP (trimQ q) i) (by omega)) ?_
  refine a_1 ?_
  refine o_1n (.store rfl rfl hgr rfl rfl rfl ts_35.h (nle rfl)) ?_
  refine ak_ (n_k ?_)
  refine r_m 2 ?_
  refine a_z ?_
  refine⟨i+1,by omega,hlt2,?_⟩
  have hst2:(pE (rowM o k (trimQ q) n i)).set (0+(((n:Nat):Int)+(i:Nat)).toNat) (qC (coP (rowM o k (trimQ q) n i) (n+i)- k* coP (trimQ q) i))=pE (rowM o k (trimQ q) n (i+1)):=by
   rw[show 0+(((n:Nat):Int)+(i:Nat)).toNat=n+i by omega,hd_];rfl
  have hl2:(rowM o k (trimQ q) n (i+1)).length=(rowM o k (trimQ q) n i).length:=by simp
  simp only[pg_,hl2]
  refine ax_ [] rfl rfl rfl ?_ (fun hs=>au_f) (fun hs=>?_)
  ·repeat' (first|exact ShrL.nil|refine ShrL.cons rfl rfl rfl rfl (by first|(simp)|rfl|(simp;done)|(simp <;> omega)) ?_)
  ·repeat' (first|exact av_|refine an_ rfl rfl rfl rfl ?_ ?_)
   all_goals (first|(exact aE_ hs hst2 (aC_ _))|exact au_e)
  have hge:i=(trimQ q).length:=by
   have:¬i< (trimQ q).length:=by simpa using h3
   omega
  subst hge
  refine at_ ⟨(),trivial,?_⟩
  rw[cN_,hlu]
  exact s_e []
  rintro _ _
  refine r_m 3 ?_
  refine a_z ?_
  refine⟨(n,u.set n k,rowM o k (trimQ q) n (trimQ q).length),Nat.lt_succ_self n,⟨by omega,by simp only;omega,by simp only;rw[cN_];exact ho,hst,hr⟩,?_⟩
  simp only[mC_,hlu,cN_]
  exact s_e []
  exact absurd h1 (by simp)
 rintro⟨u,o⟩ hx
 rw[←hx] at hdl hend⊢
 simp only at hdl hend⊢
 have hlu:u.length≤274877906945:=by rw[hdl.1];simp;omega
 have hfu:List.take u.length (List.drop 0 (pE u))=pE u:=by rw[List.drop_zero,List.take_of_length_le (by simp)]
 have hfo:List.take o.length (List.drop 0 (pE o))=pE o:=by rw[List.drop_zero,List.take_of_length_le (by simp)]
 refine s_r 6 ?_
 refine a_1 ?_
 refine o_1 (.callS1 rfl rfl rfl (.shut rfl d_n (.nil)) rfl ((by rw[hfu];exact b2_ u (by omega)))) ?_
 refine a_1 ?_
 refine o_1 (.callS1 rfl rfl rfl (.shut rfl d_n (.nil)) rfl ((by rw[hfo];exact b2_ o (by rw[hdl.2];omega)))) ?_
 refine a_z ?_
 refine af_ (Fin.many ⟨_,_,rfl,rfl,⟨_,_,rfl,rfl,rfl⟩⟩ (nle rfl) ?_)
 exact ai_ (aA_ aB_ (aj_ _)) (ai_ (aA_ aB_ (aj_ _)) as_)
end Go.Proofs.YtdjfjpeoddmamaaGreatDoor
