/- Part Y11 of the proof. -/
import Derived.Test.YtdjfjpeoddmamaaGreatDoorY10
set_option linter.all false
namespace Go.Proofs.YtdjfjpeoddmamaaGreatDoor
open Go.Abs
set_option maxRecDepth 20000
theorem r5_(n:Nat):((digs MB n).length==0)=(n==0):=by
 rw[Bool.eq_iff_iff]
 simp only[beq_iff_eq,List.length_eq_zero_iff]
 exact cZ_ (by decide)
theorem eI_(n:Nat):FSpec Tryz.prog 169 [.agg [mag n]] (bln (n==0)):=by
 rw[←r5_];exact rk_ _
theorem cH_(b:Bool)(m:Nat):FSpec Tryz.prog 152 [bln b,.agg [mag m]] (.agg (zI (sgn b m))):=by
 have e:AV.agg (zI (sgn b m))= .agg [mag m,bln (b && !(m==0))]:=by unfold zI;rw[df_,sgn_neg]
 rw[e]
 refine f_n Tryz.func152 ?_ ?_
 exact aa_ (ad_ _) (aa_ (er_ m) ab_)
 cases b with
 |true=>
  refine r_z 2 ?_
  refine ac_ (r_d hmix 9 ?_)
  refine a_3 ?_
  first|refine y_g rfl d_t (.load_l rfl rfl rfl tg_31.h ts_31.h (nle rfl)) ?_|refine y_g rfl d_t (.load_a rfl rfl tg_31.h ts_31.h (nle rfl)) ?_
  refine y_g rfl d_t (.call rfl rfl rfl (eI_ m)) ?_
  refine y_g rfl d_t (.un rfl jw_) ?_
  refine o_0 (.pickT rfl d_t rfl) ?_
  refine a_2 ?_
  refine an_ (n_k ?_)
  exact aj_ (c_e (aq_ (aa_ (aQ_ m) (aa_ (ad_ _) ab_))))
 |false=>
  refine r_z 2 ?_
  refine ac_ (r_d hmix 9 ?_)
  refine a_3 ?_
  refine n_g rfl d_f ?_
  refine n_g rfl d_f ?_
  refine n_g rfl d_f ?_
  refine o_0 (.pickF rfl d_f rfl) ?_
  refine a_2 ?_
  refine an_ (n_k ?_)
  exact aj_ (c_e (aq_ (aa_ (aQ_ m) (aa_ (ad_ _) ab_))))
theorem fs_isign(z:Int):FSpec Tryz.prog 76 [.agg (zI z)] (i64 (sgZ z)):=by
 refine f_n Tryz.func76 ?_ ?_
 exact aa_ (bX_ z) ab_
 refine r_z 2 ?_
 refine aU_ (fun _:Unit=>⟨[],[],1,10⟩) (fun _=>0< z) ?_ ?_
 refine ag_ (r_c 4 (eI_ z.natAbs) ?_)
 refine a_z ?_
 refine am_ rfl (fun h=>?_) (fun h=>?_)
 refine r_z 1 ?_
 refine aj_ (aR_ rfl ?_ (ad_ _))
 have:z=0:=by simpa using h
 simp[i64,sgZ,this,ofV]
 have h0:z≠0:=by simpa using h
 refine r_z 3 ?_
 refine am_ rfl (fun h1=>?_) (fun h1=>?_)
 refine r_z 1 ?_
 refine aj_ (aR_ rfl ?_ (ad_ _))
 have:z< 0:=by simpa using h1
 simp[i64,sgZ,this,h0,ofV]
 have:¬z< 0:=by simpa using h1
 refine ah_ ⟨(),by omega,?_⟩
 exact s_e []
 rintro _ h1
 refine r_z 1 ?_
 refine aj_ (aR_ rfl ?_ (ad_ _))
 simp only[i64,sgZ]
 rw[if_neg (by omega),if_neg (by omega)]
 rfl
theorem bI_(q:Rat):FSpec Tryz.prog 14 [.agg (qC q)] (i64 (sgZ q.num)):=by
 refine f_n Tryz.func14 ?_ ?_
 exact aa_ (az_ q) ab_
 refine r_z 2 ?_
 refine r_c 4 (fs_isign q.num) ?_
 refine a_z ?_
 exact aj_ (t_e (ad_ _))
theorem sgn_mul(a b:Bool)(m n:Nat):sgn a m* sgn b n=sgn (a !=b) (m* n):=by
 cases a <;> cases b <;> simp[sgn,Int.neg_mul,Int.mul_neg]
theorem lp_(a:Bool)(m n:Nat):sgn a m+sgn a n=sgn a (m+n):=by
 cases a <;> simp[sgn]<;> omega
theorem pi_{a b:Bool}(h:a≠b){m n:Nat}(hl:m≤n):sgn a m+sgn b n=sgn b (n- m):=by
 cases a <;> cases b <;> simp[sgn] at h⊢ <;> omega
theorem pj_{a b:Bool}(h:a≠b){m n:Nat}(hl:n≤m):sgn a m+sgn b n=sgn a (m- n):=by
 cases a <;> cases b <;> simp[sgn] at h⊢ <;> omega
theorem ne_(x y:Int)(h:bl x.natAbs+bl y.natAbs≤17592186044416):FSpec Tryz.prog 91 [.agg (zI x),.agg (zI y)] (.agg (zI (x* y))):=by
 have e:x* y=sgn (decide (x< 0) !=decide (y< 0)) (x.natAbs* y.natAbs):=by
  rw[←sgn_mul,hP_,hP_]
 rw[e]
 refine f_n Tryz.func91 ?_ ?_
 exact aa_ (bX_ x) (aa_ (bX_ y) ab_)
 refine r_z 3 ?_
 refine ac_ (r_d hmix 12 ?_)
 refine c_s (d7_ x.natAbs y.natAbs h) ?_
 refine c_s (cH_ (decide (x< 0) !=decide (y< 0)) (x.natAbs* y.natAbs)) ?_
 refine a_1 ?_
 refine an_ (n_k ?_)
 exact aj_ (c_e (bX_ _))
theorem fs_iadd(x y:Int)(h:bl x.natAbs+bl y.natAbs≤17592186044416):FSpec Tryz.prog 175 [.agg (zI x),.agg (zI y)] (.agg (zI (x+y))):=by
 obtain⟨a,ha⟩:∃a,a=decide (x< 0):=⟨_,rfl⟩
 obtain⟨b,hb⟩:∃b,b=decide (y< 0):=⟨_,rfl⟩
 have ex:x=sgn a x.natAbs:=by rw[ha,hP_]
 have ey:y=sgn b y.natAbs:=by rw[hb,hP_]
 refine f_n Tryz.func175 ?_ ?_
 exact aa_ (bX_ x) (aa_ (bX_ y) ab_)
 refine r_z 3 ?_
 refine aU_ (fun _:Unit=>⟨[(2,.lptr 1 0 0),(3,.lptr 2 0 0),(4,.lptr 3 0 0)],[(1,some ⟨33,2,[zI x]⟩),(2,some ⟨33,2,[zI y]⟩),(3,some ⟨33,2,[[.emp,bln false]]⟩)],4,42⟩) (fun _=>a≠b∧y.natAbs≤x.natAbs) ?_ ?_
 refine ag_ (r_z 6 ?_)
 refine am_ rfl (fun h1=>?_) (fun h1=>?_)
 have hab:a=b:=by rw[ha,hb];simpa using h1
 have e:x+y=sgn (decide (x< 0)) (x.natAbs+y.natAbs):=by
  conv=>lhs;rw[ex,ey,←hab]
  rw[lp_,ha]
 rw[e]
 refine ac_ (r_d hmix 9 ?_)
 refine c_s (nb_ x.natAbs y.natAbs h) ?_
 refine c_s (cH_ (decide (x< 0)) (x.natAbs+y.natAbs)) ?_
 refine a_1 ?_
 refine an_ (n_k ?_)
 exact aj_ (c_e (bX_ _))
 have hab:a≠b:=by rw[ha,hb];simpa using h1
 refine r_c 7 (hp_ x.natAbs y.natAbs h) ?_
 refine a_z ?_
 refine am_ rfl (fun h2=>?_) (fun h2=>?_)
 have hlt:x.natAbs< y.natAbs:=by
  have:=of_decide_eq_true h2
  unfold cmpZ at this;split at this
  omega
  split at this <;> omega
 have e:x+y=sgn (decide (y< 0)) (y.natAbs- x.natAbs):=by
  conv=>lhs;rw[ex,ey]
  rw[pi_ hab (Nat.le_of_lt hlt),hb]
 rw[e]
 refine ac_ (r_d hmix 9 ?_)
 refine c_s (nc_ y.natAbs x.natAbs (by omega) (Nat.le_of_lt hlt)) ?_
 refine c_s (cH_ (decide (y< 0)) (y.natAbs- x.natAbs)) ?_
 refine a_1 ?_
 refine an_ (n_k ?_)
 exact aj_ (c_e (bX_ _))
 have hge:y.natAbs≤x.natAbs:=by
  have:=of_decide_eq_false h2
  unfold cmpZ at this;split at this
  omega
  split at this <;> omega
 refine ah_ ⟨(),⟨hab,hge⟩,?_⟩
 exact s_e []
 rintro _ ⟨hab,hge⟩
 have e:x+y=sgn (decide (x< 0)) (x.natAbs- y.natAbs):=by
  conv=>lhs;rw[ex,ey]
  rw[pj_ hab hge,ha]
 rw[e]
 refine ac_ (r_d hmix 9 ?_)
 refine c_s (nc_ x.natAbs y.natAbs (by omega) hge) ?_
 refine c_s (cH_ (decide (x< 0)) (x.natAbs- y.natAbs)) ?_
 refine a_1 ?_
 refine an_ (n_k ?_)
 exact aj_ (c_e (bX_ _))
theorem fs_ofInt(n:Int)(h: -9223372036854775808≤n∧n≤9223372036854775807):FSpec Tryz.prog 142 [i64 n] (.agg (zI n)):=by
 refine f_n Tryz.func142 ?_ ?_
 exact aa_ (ad_ _) ab_
 refine r_z 1 ?_
 refine ac_ (r_z 2 ?_)
 refine am_ rfl (fun h1=>?_) (fun h1=>?_)
 have hn:n< 0:=of_decide_eq_true h1
 have e:n=sgn true n.natAbs:=by simp[sgn];omega
 have hI:18446744073709551616- (n+18446744073709551616)=((n.natAbs:Nat):Int):=by omega
 have hs:FSpec Tryz.prog 180 [.v (.int .u64 (18446744073709551616- (n+18446744073709551616)))] (.agg [mag n.natAbs]):=by rw[hI];exact d9_ _ (by omega)
 refine s_r 6 ?_
 refine a_1 ?_
 refine o_0 (.conv rfl (cU64n (by omega) tu_2.h tu_235.h)) ?_
 refine o_0 (.un rfl (uU64_neg (by omega))) ?_
 refine c_s (hs) ?_
 refine c_s (cH_ true n.natAbs) ?_
 refine a_z ?_
 refine aj_ (bY_ rfl rfl rfl tg_33.h ts_33.h (nle rfl) ?_ ?_)
 show _=AV.agg (zI n)
 conv=>rhs;rw[e]
 rfl
 exact bX_ _
 refine ah_ ?_
 have hn:0≤n:=by have:=of_decide_eq_false h1;omega
 have e:n=sgn false n.natAbs:=by simp[sgn];omega
 have hI:n=((n.natAbs:Nat):Int):=by omega
 have hs:FSpec Tryz.prog 180 [.v (.int .u64 n)] (.agg [mag n.natAbs]):=by
  have:=d9_ n.natAbs (by omega)
  rwa[u64,←hI] at this
 refine s_r 5 ?_
 refine a_1 ?_
 refine o_0 (.conv rfl (cU64 (by omega) tu_2.h tu_235.h)) ?_
 refine c_s (hs) ?_
 refine c_s (cH_ false n.natAbs) ?_
 refine a_z ?_
 refine aj_ (bY_ rfl rfl rfl tg_33.h ts_33.h (nle rfl) ?_ ?_)
 show _=AV.agg (zI n)
 conv=>rhs;rw[e]
 rfl
 exact bX_ _
theorem mag_zero:mag 0= .arr []:=by unfold mag;rw[bo_];rfl
theorem kD_(n:Int):FSpec Tryz.prog 141 [.agg (zI n)] (.agg (qC n)):=by
 have e:qC (n:Rat)=[mag n.natAbs,bln (decide (n< 0)),mag 0]:=rfl
 rw[e]
 refine f_n Tryz.func141 ?_ ?_
 exact aa_ (bX_ n) ab_
 refine r_z 2 ?_
 refine r_z 3 ?_
 refine aj_ (Fin.cell rfl rfl rfl tg_35.h ts_35.h (nle rfl) (Cv.agg (af_ (ak_ as_ (aQ_ _)) (af_ (ak_ as_ (ad_ _)) (af_ (Cv.emp _ mag_zero) ao_)))))
theorem dz_(n:Int)(h: -9223372036854775808≤n∧n≤9223372036854775807):FSpec Tryz.prog 51 [i64 n] (.agg (qC n)):=by
 refine f_n Tryz.func51 ?_ ?_
 exact aa_ (ad_ _) ab_
 refine r_z 1 ?_
 refine r_c 4 (fs_ofInt n h) ?_
 refine c_s (kD_ n) ?_
 refine a_z ?_
 exact aj_ (c_e (az_ _))
theorem cr_(q:Rat)(h:qs q≤1099511627776):FSpec Tryz.prog 92 [.agg (qC q)] (.agg [mag q.den]):=by
 have hp:=q.den_pos
 have hd:=bW_ q
 have e:q.den=q.den- 1+1:=by omega
 have hb1:=bR_ (show q.den- 1≤q.den by omega)
 have h1:bl 1=1:=kc_
 refine f_n Tryz.func92 ?_ ?_
 exact aa_ (az_ q) ab_
 refine r_z 2 ?_
 refine ac_ (r_d hmix 5 ?_)
 refine c_s (d9_ 1 (by decide)) ?_
 refine c_s (nb_ (q.den- 1) 1 (by omega)) ?_
 refine a_1 ?_
 refine an_ (n_k ?_)
 refine aj_ (bY_ rfl rfl rfl tg_31.h ts_31.h (nle rfl) ?_ ?_)
 show AV.agg [mag (q.den- 1+1)]=_
 rw[←e]
 exact er_ _
theorem kG_(n:Int)(d:Nat)(hd:0< d)(h:bl n.natAbs+bl d≤2199023255552):FSpec Tryz.prog 90 [.agg (zI n),.agg [mag d]] (.agg (qC (mkRat n d))):=by
 obtain⟨g,hg⟩:∃g,g=Nat.gcd n.natAbs d:=⟨_,rfl⟩
 have hgp:0< g:=by rw[hg];exact Nat.gcd_pos_of_pos_right _ hd
 have hgd:g≤d:=by rw[hg];exact Nat.gcd_le_right _ hd
 have hbg:=bR_ hgd
 have hbn:=cT_ n.natAbs g
 have hbd:=cT_ d g
 have hqd:0< d/ g:=Nat.div_pos hgd hgp
 have hfin:AV.agg (qC (mkRat n d))= .agg (zI (sgn (decide (n< 0)) (n.natAbs/ g))++[mag (d/ g- 1)]):=by
  unfold qC
  rw[ek_ hd,(e7_ hd).2,←hg]
  rfl
 rw[hfin]
 have hc:=rA_ n.natAbs d (by omega)
 rw[←hg] at hc
 refine f_n Tryz.func90 ?_ ?_
 exact aa_ (bX_ n) (aa_ (er_ d) ab_)
 refine r_z 3 ?_
 refine ac_ (r_c 6 (hc) ?_)
 refine a_z ?_
 refine r_c 3 (fs_one g) ?_
 refine a_z ?_
 refine aB_ (fun _:Unit=>⟨[(2,.lptr 1 0 0),(3,.lptr 2 0 0),(4,.lptr 3 0 0)],[(1,some ⟨33,2,[[mag (n.natAbs/ g),bln (decide (n< 0))]]⟩),(2,some ⟨31,1,[[mag (d/ g)]]⟩),(3,some ⟨35,3,[[.emp,bln false,.emp]]⟩)],4,36⟩) (fun _=>True) ?_ ?_
 refine am_ rfl (fun h1=>?_) (fun h1=>?_)
 refine r_c 9 (kH_ n.natAbs g (by omega) hgp) ?_
 refine a_z ?_
 refine r_m 7 ?_
 refine c_s (kH_ d g (by omega) hgp) ?_
 refine a_z ?_
 refine⟨(),trivial,?_⟩
 exact s_e []
 have hg1:g=1:=by simpa using h1
 subst hg1
 refine ah_ ⟨(),trivial,?_⟩
 rw[Nat.div_one,Nat.div_one]
 exact s_e []
 rintro _ _
 refine ac_ (r_d hmix 10 ?_)
 refine c_s (cH_ (decide (n< 0)) (n.natAbs/ g)) ?_
 refine c_s (d9_ 1 (by decide)) ?_
 refine c_s (nc_ (d/ g) 1 (by omega) hqd) ?_
 refine a_2 ?_
 refine an_ (n_k ?_)
 exact aj_ (c_e (aq_ (aa_ (aQ_ _) (aa_ (ad_ _) (aa_ (aQ_ _) ab_)))))
theorem dd_(a b:Rat)(h:qs a+qs b≤549755813888):FSpec Tryz.prog 19 [.agg (qC a),.agg (qC b)] (.agg (qC (a* b))):=by
 have hp:=iB_ a b
 have h1:=b6_ a;have h2:=bW_ a;have h3:=b6_ b;have h4:=bW_ b
 rw[e6_]
 refine f_n Tryz.func19 ?_ ?_
 exact aa_ (az_ a) (aa_ (az_ b) ab_)
 refine r_z 3 ?_
 refine ac_ (r_d hmix 12 ?_)
 refine c_s (ne_ a.num b.num (by omega)) ?_
 refine c_s (cr_ a (by omega)) ?_
 refine c_s (cr_ b (by omega)) ?_
 refine c_s (d7_ a.den b.den (by omega)) ?_
 refine c_s (kG_ (a.num* b.num) (a.den* b.den) (fG_ a b) (by omega)) ?_
 refine a_1 ?_
 refine an_ (n_k ?_)
 exact aj_ (c_e (az_ _))
theorem zI_nat(n:Nat):zI (n:Int)=[mag n,bln false]:=by
 unfold zI;rw[Int.natAbs_natCast];rfl
theorem ow_(x:Int)(n:Nat)(h:bl x.natAbs+bl n≤17592186044416):FSpec Tryz.prog 91 [.agg (zI x),.agg [mag n,bln false]] (.agg (zI (x* n))):=by
 have:=ne_ x n (by simpa using h)
 rwa[zI_nat] at this
theorem fT_(a b:Rat)(h:qs a+qs b≤549755813888):FSpec Tryz.prog 89 [.agg (qC a),.agg (qC b)] (.agg (qC (a+b))):=by
 have hp:=jo_ a b
 have h1:=b6_ a;have h2:=bW_ a;have h3:=b6_ b;have h4:=bW_ b
 have e1:=bu_ (x:=a.num) (y:=b.den) h1 (by simpa using h4)
 have e2:=bu_ (x:=b.num) (y:=a.den) h3 (by simpa using h2)
 rw[jp_]
 refine f_n Tryz.func89 ?_ ?_
 exact aa_ (az_ a) (aa_ (az_ b) ab_)
 refine r_z 3 ?_
 refine ac_ (r_d hmix 8 ?_)
 refine c_s (cr_ a (by omega)) ?_
 refine c_s (cr_ b (by omega)) ?_
 refine a_4 ?_
 refine an_ (n_k ?_)
 refine ac_ (r_d hmix 16 ?_)
 refine c_s (ow_ a.num b.den (by omega)) ?_
 refine c_s (ow_ b.num a.den (by omega)) ?_
 refine c_s (fs_iadd (a.num* b.den) (b.num* a.den) (by omega)) ?_
 refine c_s (d7_ a.den b.den (by omega)) ?_
 refine c_s (kG_ (a.num* b.den+b.num* a.den) (a.den* b.den) (fG_ a b) (by omega)) ?_
 refine a_1 ?_
 refine an_ (n_k ?_)
 exact aj_ (c_e (az_ _))
theorem qM_(a:Rat):qC (-a)=zI (sgn (!decide (a.num< 0)) a.num.natAbs)++[mag (a.den- 1)]:=by
 unfold qC
 rw[Rat.neg_num,Rat.neg_den]
 have e: -a.num=sgn (!decide (a.num< 0)) a.num.natAbs:=by
  unfold sgn
  by_cases h:a.num< 0
  simp[h];omega
  simp[h];omega
 rw[e];rfl
theorem gx_(a:Rat):FSpec Tryz.prog 58 [.agg (qC a)] (.agg (qC (-a))):=by
 have hc:=az_ (-a)
 rw[qM_] at hc⊢
 refine f_n Tryz.func58 ?_ ?_
 exact aa_ (az_ a) ab_
 refine r_z 2 ?_
 refine ac_ (r_d hmix 12 ?_)
 refine c_s (cH_ (!decide (a.num< 0)) a.num.natAbs) ?_
 refine a_4 ?_
 refine an_ (n_k ?_)
 exact aj_ (c_e (hc))
theorem or_(a b:Rat)(h:qs a+qs b≤549755813888):FSpec Tryz.prog 18 [.agg (qC a),.agg (qC b)] (.agg (qC (a- b))):=by
 have hs:=fT_ a (-b) (by rw[eQ_];exact h)
 rw[←Rat.sub_eq_add_neg] at hs
 refine f_n Tryz.func18 ?_ ?_
 exact aa_ (az_ a) (aa_ (az_ b) ab_)
 refine r_z 3 ?_
 refine ac_ (r_d hmix 5 ?_)
 refine c_s (gx_ b) ?_
 refine c_s (hs) ?_
 refine a_1 ?_
 refine an_ (n_k ?_)
 exact aj_ (c_e (az_ _))
theorem fs_qover(a b:Rat)(hb:b≠0)(h:qs a+qs b≤549755813888):FSpec Tryz.prog 88 [.agg (qC a),.agg (qC b)] (.agg (qC (a/ b))):=by
 have hp:=mn_ a b
 have h1:=b6_ a;have h2:=bW_ a;have h3:=b6_ b;have h4:=bW_ b
 have hn:b.num≠0:=fun h=>hb (Rat.num_eq_zero.1 h)
 have hs:=df_ (decide (b.num< 0)) b.den
 rw[i6_ a b hb]
 refine f_n Tryz.func88 ?_ ?_
 exact aa_ (az_ a) (aa_ (az_ b) ab_)
 refine r_z 3 ?_
 refine ac_ (r_d hmix 17 ?_)
 refine c_s (cr_ b (by omega)) ?_
 refine c_s (cH_ (decide (b.num< 0)) b.den) ?_
 refine c_s (ne_ a.num (sgn (decide (b.num< 0)) b.den) (by rw[hs];omega)) ?_
 refine c_s (cr_ a (by omega)) ?_
 refine c_s (d7_ a.den b.num.natAbs (by omega)) ?_
 refine c_s (kG_ (a.num* sgn (decide (b.num< 0)) b.den) (a.den* b.num.natAbs) (Nat.mul_pos a.den_pos (by omega)) (by omega)) ?_
 refine a_1 ?_
 refine an_ (n_k ?_)
 exact aj_ (c_e (az_ _))
theorem ry_(a b:Rat)(hb:b≠0)(h:qs a+qs b≤549755813888):FSpec Tryz.prog 17 [.agg (qC a),.agg (qC b)] (.tup [.agg (qC (a/ b)),i64 0]):=by
 have hn:b.num≠0:=fun h=>hb (Rat.num_eq_zero.1 h)
 have hsg:sgZ b.num≠0:=by unfold sgZ;rw[if_neg hn];split <;> decide
 refine f_n Tryz.func17 ?_ ?_
 exact aa_ (az_ a) (aa_ (az_ b) ab_)
 refine r_z 4 ?_
 refine ac_ (r_c 3 (bI_ b) ?_)
 refine a_z ?_
 refine am_ rfl (fun h=>?_) (fun h=>?_)
 exact absurd h (by simpa using hsg)
 refine ah_ (r_c 5 (fs_qover a b hb (by assumption)) ?_)
 refine a_z ?_
 refine aj_ (Fin.many ⟨_,_,rfl,⟨_,_,_,_,_,rfl,rfl,rfl,.inl ⟨tg_35.h,_,ts_35.h,nle rfl,rfl⟩⟩,⟨_,_,rfl,rfl,rfl⟩⟩ (nle rfl) ?_)
 exact af_ (ak_ as_ (az_ _)) (af_ (ak_ as_ (ad_ _)) ao_)
theorem sc_(x:Int)(n:Nat)(hn:0< n):(sgZ x= -1∧∃p:Nat,0< p∧x* n= -(p:Int)∧x.natAbs* n=p)∨(sgZ x=0∧x* n=0∧x.natAbs* n=0)∨(sgZ x=1∧∃p:Nat,0< p∧x* n=p∧x.natAbs* n=p):=by
 rcases Int.lt_trichotomy x 0 with hx|hx|hx
 refine .inl ⟨by unfold sgZ;rw[if_neg (by omega),if_pos hx],x.natAbs* n,Nat.mul_pos (by omega) hn,?_,rfl⟩
 rw[Int.natCast_mul,←Int.neg_mul];congr 1;omega
 subst hx;refine .inr (.inl ⟨rfl,by simp,by simp⟩)
 refine .inr (.inr ⟨by unfold sgZ;rw[if_neg (by omega),if_neg (by omega)],x.natAbs* n,Nat.mul_pos (by omega) hn,?_,rfl⟩)
 rw[Int.natCast_mul];congr 1;omega
theorem cmp_code(a b:Rat):cmpQ a b=if sgZ a.num≠sgZ b.num∨sgZ a.num=0 then sgZ a.num- sgZ b.num- (sgZ a.num- sgZ b.num).tdiv 2 else sgZ a.num* cmpZ ((a.num.natAbs* b.den:Nat):Int) ((b.num.natAbs* a.den:Nat):Int):=by
 rw[sf_]
 rcases sc_ a.num b.den b.den_pos with⟨s1,p,hp,e1,f1⟩|⟨s1,e1,f1⟩|⟨s1,p,hp,e1,f1⟩<;> rcases sc_ b.num a.den a.den_pos with⟨s2,q,hq,e2,f2⟩|⟨s2,e2,f2⟩|⟨s2,q,hq,e2,f2⟩<;> rw[s1,s2,e1,e2,f1,f2]<;> unfold cmpZ <;> simp <;>(repeat' split)<;> first|rfl|omega
theorem j1_(a b:Rat)(ha:sm a)(hb:sm b):FSpec Tryz.prog 25 [.agg (qC a),.agg (qC b)] (i64 (cmpQ a b)):=by
 have hs:=sm2 ha hb
 have h1:=b6_ a;have h2:=bW_ a;have h3:=b6_ b;have h4:=bW_ b
 have hc:=cmp_code a b
 have hsa:sgZ a.num= -1∨sgZ a.num=0∨sgZ a.num=1:=by unfold sgZ;split;simp;split <;> simp
 have hsb:sgZ b.num= -1∨sgZ b.num=0∨sgZ b.num=1:=by unfold sgZ;split;simp;split <;> simp
 have hbm1:=fp_ a.num.natAbs b.den
 have hbm2:=fp_ b.num.natAbs a.den
 refine f_n Tryz.func25 ?_ ?_
 exact aa_ (az_ a) (aa_ (az_ b) ab_)
 refine r_z 3 ?_
 refine ac_ (ac_ (r_d hmix 6 ?_))
 refine c_s (bI_ a) ?_
 refine c_s (bI_ b) ?_
 refine a_2 ?_
 refine an_ (n_k ?_)
 obtain⟨x,hx⟩:∃x,x=sgZ a.num:=⟨_,rfl⟩
 obtain⟨y,hy⟩:∃y,y=sgZ b.num:=⟨_,rfl⟩
 rw[←hx] at hsa hc⊢
 rw[←hy] at hsb hc⊢
 have hq:(x- y).tdiv 2= -1∨(x- y).tdiv 2=0∨(x- y).tdiv 2=1:=by
  rcases hsa with h|h|h <;> rcases hsb with h'|h'|h' <;> rw[h,h']<;> decide
 refine aB_ (fun _:Unit=>⟨[(2,.lptr 1 0 0),(3,.lptr 2 0 0)],[(1,some ⟨35,3,[qC a]⟩),(2,some ⟨35,3,[qC b]⟩)],3,42⟩) (fun _=>x=y∧x≠0) ?_ ?_
 by_cases he:x=y
 refine s_r 7 ?_
 refine a_4 ?_
 refine y_g rfl (by simp[he]) (.move rfl) ?_
 refine y_g rfl (by simp[he]) (.bin rfl rfl a9_) ?_
 refine o_0 (.pickF rfl (by simp[he]) rfl) ?_
 refine an_ ?_
 refine am_ rfl (fun h=>?_) (fun h=>?_)
 have h0:x=0:=by simpa using h
 refine s_r 9 ?_
 refine a_6 ?_
 refine o_0 (.bin rfl rfl (jm_ (by decide) (by omega))) ?_
 refine a_z ?_
 refine aj_ (aR_ rfl ?_ (ad_ _))
 rw[hc,if_pos (.inr h0)];rfl
 have h0:x≠0:=by simpa using h
 refine ah_ ⟨(),⟨he,h0⟩,?_⟩
 exact s_e []
 refine s_r 7 ?_
 refine a_4 ?_
 refine n_g rfl (by simp[he]) ?_
 refine n_g rfl (by simp[he]) ?_
 refine o_0 (.pickT rfl (by simp[he]) rfl) ?_
 refine an_ ?_
 refine am_ rfl (fun h=>?_) (fun h=>?_)
 refine s_r 9 ?_
 refine a_6 ?_
 refine o_0 (.bin rfl rfl (jm_ (by decide) (by omega))) ?_
 refine a_z ?_
 refine aj_ (aR_ rfl ?_ (ad_ _))
 rw[hc,if_pos (.inl he)];rfl
 cases h
 rintro _ ⟨he,h0⟩
 have hcz:cmpZ ((a.num.natAbs* b.den:Nat):Int) ((b.num.natAbs* a.den:Nat):Int)= -1∨cmpZ ((a.num.natAbs* b.den:Nat):Int) ((b.num.natAbs* a.den:Nat):Int)=0∨cmpZ ((a.num.natAbs* b.den:Nat):Int) ((b.num.natAbs* a.den:Nat):Int)=1:=by
  unfold cmpZ;split;simp;split <;> simp
 have hsx:=bI_ a
 rw[←hx] at hsx
 have hmul: -9223372036854775808≤x* cmpZ ((a.num.natAbs* b.den:Nat):Int) ((b.num.natAbs* a.den:Nat):Int)∧x* cmpZ ((a.num.natAbs* b.den:Nat):Int) ((b.num.natAbs* a.den:Nat):Int)≤9223372036854775807:=by
  rcases hsa with h|h|h <;> rcases hcz with h'|h'|h' <;> rw[h,h']<;> decide
 refine ac_ (r_d hmix 17 ?_)
 refine c_s (hsx) ?_
 refine c_s (cr_ b (by omega)) ?_
 refine c_s (d7_ a.num.natAbs b.den (by omega)) ?_
 refine c_s (cr_ a (by omega)) ?_
 refine c_s (d7_ b.num.natAbs a.den (by omega)) ?_
 refine c_s (hp_ (a.num.natAbs* b.den) (b.num.natAbs* a.den) (by omega)) ?_
 refine o_0 (.bin rfl rfl (ia_ hmul)) ?_
 refine a_1 ?_
 refine an_ (n_k ?_)
 refine aj_ (aR_ rfl ?_ (ad_ _))
 rw[hc,if_neg (by omega)];rfl
theorem oy_(a:Rat):FSpec Tryz.prog 97 [.agg (qC a)] (.agg (qC (absQ a))):=by
 have hc:=az_ (absQ a)
 rw[qC_abs] at hc⊢
 refine f_n Tryz.func97 ?_ ?_
 exact aa_ (az_ a) ab_
 refine r_z 2 ?_
 refine ac_ (r_d hmix 8 ?_)
 refine c_s (cH_ false a.num.natAbs) ?_
 refine a_4 ?_
 refine an_ (n_k ?_)
 exact aj_ (c_e (hc))
theorem fs_den(a:Rat)(ha:sm a):FSpec Tryz.prog 296 [.agg (qC a)] (.agg (qC ((a.den:Int):Rat))):=by
 have hw:=kD_ (a.den:Int)
 rw[zI_nat] at hw
 refine f_n Tryz.func296 ?_ ?_
 exact aa_ (az_ a) ab_
 refine r_z 2 ?_
 refine r_c 5 (cr_ a (by unfold sm at ha;omega)) ?_
 refine c_s (hw) ?_
 refine a_z ?_
 exact aj_ (c_e (az_ _))
theorem rY_{z q:Int}{d:Nat}(hd:0< d)(h1:q* d≤z)(h2:z< q* d+d):z/ (d:Int)=q:=by
 have hdi:(0:Int)< d:=by omega
 have a1:q≤z/ (d:Int):=(Int.le_ediv_iff_mul_le hdi).2 h1
 have a2:z/ (d:Int)< q+1:=(Int.ediv_lt_iff_lt_mul hdi).2 (by rw[Int.add_mul];omega)
 omega
theorem pH_(z:Int)(d:Nat)(hd:0< d):z/ (d:Int)=sgn (decide (z< 0)) (if (decide (z< 0) && !(z.natAbs % d==0))=true then z.natAbs/ d+1 else z.natAbs/ d):=by
 have h1:=Nat.div_add_mod z.natAbs d
 have h2:=Nat.mod_lt z.natAbs hd
 generalize hr:z.natAbs % d=r at *
 generalize hq:z.natAbs/ d=a at *
 have h3:((d* a:Nat):Int)=(a:Int) * d:=by rw[Int.natCast_mul,Int.mul_comm]
 refine rY_ hd ?_ ?_ <;> by_cases hz:z< 0 <;> by_cases h0:r=0 <;> simp[sgn,hz,h0,Int.neg_mul,Int.add_mul]<;> omega
theorem rx_(z:Int)(d:Nat)(hd:0< d)(h:bl z.natAbs+bl d≤4398046511104):FSpec Tryz.prog 325 [.agg (zI z),.agg [mag d]] (.agg (zI (z/ d))):=by
 rw[pH_ z d hd]
 have hbq:=cT_ z.natAbs d
 have hb1:=sm_ (z.natAbs/ d) 1
 have hb2:bl 1=1:=kc_
 obtain⟨Q,hQ⟩:∃Q,Q=(if (decide (z< 0) && !(z.natAbs % d==0))=true then z.natAbs/ d+1 else z.natAbs/ d):=⟨_,rfl⟩
 rw[←hQ]
 refine f_n Tryz.func325 ?_ ?_
 exact aa_ (bX_ z) (aa_ (er_ d) ab_)
 refine r_z 3 ?_
 refine r_c 11 (kH_ z.natAbs d h hd) ?_
 refine a_z ?_
 refine aU_ (fun _:Unit=>⟨[(2,.lptr 1 0 0),(4,.lptr 2 0 0),(5,.lptr 3 0 0)],[(1,some ⟨33,2,[zI z]⟩),(2,some ⟨33,2,[[.emp,bln false]]⟩),(3,some ⟨31,1,[[mag Q]]⟩)],4,28⟩) (fun _=>True) ?_ ?_
 by_cases hz:z< 0
 refine s_r 7 ?_
 refine a_3 ?_
 first|refine y_g rfl (by simp[hz]) (.load_l rfl rfl rfl tg_31.h ts_31.h (nle rfl)) ?_|refine y_g rfl (by simp[hz]) (.load_a rfl rfl tg_31.h ts_31.h (nle rfl)) ?_
 refine y_g rfl (by simp[hz]) (.call rfl rfl rfl (eI_ (z.natAbs % d))) ?_
 refine y_g rfl (by simp[hz]) (.un rfl jw_) ?_
 refine o_0 (.pickT rfl (by simp[hz]) rfl) ?_
 refine an_ ?_
 refine am_ rfl (fun h1=>?_) (fun h1=>?_)
 have:Q=z.natAbs/ d+1:=by rw[hQ,if_pos];simpa[hz] using h1
 rw[this]
 refine r_d hmix 4 ?_
 refine c_s (d9_ 1 (by decide)) ?_
 refine c_s (nb_ (z.natAbs/ d) 1 (by omega)) ?_
 refine a_1 ?_
 refine an_ (n_k ?_)
 refine⟨(),trivial,?_⟩
 exact s_e [(2,4),(3,5)]
 have:Q=z.natAbs/ d:=by rw[hQ,if_neg];simpa[hz] using h1
 rw[this]
 refine ah_ ⟨(),trivial,?_⟩
 exact s_e [(2,4),(3,5)]
 refine s_r 7 ?_
 refine a_3 ?_
 refine n_g rfl (by simp[hz]) ?_
 refine n_g rfl (by simp[hz]) ?_
 refine n_g rfl (by simp[hz]) ?_
 refine o_0 (.pickF rfl (by simp[hz]) rfl) ?_
 refine an_ ?_
 have:Q=z.natAbs/ d:=by rw[hQ,if_neg];simp[hz]
 rw[this]
 refine am_ rfl (fun h=>?_) (fun h=>ah_ ⟨(),trivial,?_⟩)
 cases h
 exact s_e [(2,4),(3,5)]
 rintro _ _
 refine r_c 5 (cH_ (decide (z< 0)) Q) ?_
 refine a_z ?_
 exact aj_ (c_e (bX_ _))
theorem fs_floor(q:Rat)(h:qs q≤1099511627776):FSpec Tryz.prog 300 [.agg (qC q)] (.agg (qC (q.floor:Rat))):=by
 have h1:=b6_ q;have h2:=bW_ q
 rw[Rat.floor_def]
 refine f_n Tryz.func300 ?_ ?_
 exact aa_ (az_ q) ab_
 refine r_z 2 ?_
 refine ac_ (r_d hmix 7 ?_)
 refine c_s (cr_ q h) ?_
 refine c_s (rx_ q.num q.den q.den_pos (by omega)) ?_
 refine c_s (kD_ (q.num/ q.den)) ?_
 refine a_1 ?_
 refine an_ (n_k ?_)
 exact aj_ (c_e (az_ _))
def ceilQ(q:Rat):Rat:= -((-q).floor:Rat)
def wi(k:Int)(m:Nat):Nat:=(max 0 (min k m)).toNat
def twoQ(k:Nat):Rat:=((2^ k:Nat):Int)
def downQ(a:Rat)(k:Nat):Rat:=((a* twoQ k).floor:Rat) * fineQ k
def upQ(a:Rat)(k:Nat):Rat:=ceilQ (a* twoQ k) * fineQ k
theorem ff_(a b:Rat)(ha:sm a)(hb:sm b):FSpec Tryz.prog 77 [.agg (spC a b)] (bln (decide (cmpQ a b≤0))):=by
 refine f_n Tryz.func77 ?_ ?_
 exact aa_ (b4_ a b) ab_
 refine r_z 2 ?_
 refine r_c 7 (j1_ a b ha hb) ?_
 refine a_z ?_
 exact aj_ (t_e (ad_ _))
theorem gy_(a b:Rat)(ha:sm a)(hb:sm b):FSpec Tryz.prog 13 [.agg (spC a b)] (.agg (qC (b- a))):=by
 refine f_n Tryz.func13 ?_ ?_
 exact aa_ (b4_ a b) ab_
 refine r_z 2 ?_
 refine r_c 6 (or_ b a (sm2 hb ha)) ?_
 refine a_z ?_
 exact aj_ (c_e (az_ _))
theorem fs_Max1(c:Int):FSpec Tryz.prog 273 [i64 c] (bln (decide (0< c))):=by
 refine f_n Tryz.func273 ?_ ?_
 exact aa_ (ad_ _) ab_
 refine r_z 1 ?_
 refine r_z 3 ?_
 exact aj_ (t_e (ad_ _))
def nE_(g:Nat)(l:List Rat):Nat×List AV→AState
 |(i,o)=>⟨[(0,.clos g [] []),(4,.lptr 1 0 0),(5,.lptr 2 0 0),(8,.arr (pE l)),(9,i64 l.length),(10,i64 i)],[(1,some ⟨35,3,[zC]⟩),(2,some ⟨35,3,[o]⟩)],3,27⟩
theorem rB_(g:Nat)(bf:Int→Bool)(hg:∀c,FSpec Tryz.prog g [i64 c] (bln (bf c)))(l:List Rat)(hl:smL l)(hln:l.length≤1099511627776):FSpec Tryz.prog 272 [.clos g [] [],.arr (pE l)] (.agg (qC (co_ bf l))):=by
 refine f_n Tryz.func272 ?_ ?_
 exact aa_ (aT_ ab_ ab_) (aa_ (at_ l) ab_)
 refine r_z 1 ?_
 refine r_z 1 ?_
 refine ac_ (r_z 3 ?_)
 refine aB_ (fun _:Unit=>⟨[(4,.lptr 1 0 0),(5,.lptr 2 0 0)],[(1,some ⟨35,3,[zC]⟩),(2,some ⟨35,3,[qC (co_ bf l)]⟩)],3,27⟩) (fun _=>True) ?_ ?_
 refine ag_ (ax_ (fun x:Nat×List AV=>nE_ g l x) (fun x=>l.length- x.1) (fun x=>x.1≤l.length∧((x.1=0→x.2=zC)∧(x.1≠0→x.2=qC (co_ bf (l.take x.1))))) (0,zC) ⟨Nat.zero_le _,fun _=>rfl,fun h=>absurd rfl h⟩ ?_ ?_)
 simp only[nE_.eq_1]
 exact s_e [(1,4),(2,5)]
 rintro⟨i,o⟩ ⟨hi,ho0,ho⟩
 simp only at hi ho0 ho
 simp only[nE_.eq_1]
 refine r_z 1 ?_
 refine ac_ (am_ rfl (fun h=>?_) (fun h=>?_))
 refine ah_ ?_
 have hlt:i< l.length:=by simpa using h
 obtain⟨q,hq⟩:∃q,l[i]?=some q:=⟨_,List.getElem?_eq_getElem hlt⟩
 have hq':(pE l)[((i:Nat):Int).toNat]?=some (qC q):=bD_ hq
 have hsq:sm q:=hl q (List.mem_of_getElem? hq)
 have hst:sm (co_ bf (l.take i)):=pP_ fun q hq=>hl q (List.mem_of_mem_take hq)
 have hsn:=mB_ bf (l.take i) q
 rw[←cD_ hq] at hsn
 refine ac_ (ag_ (s_r 6 ?_))
 refine a_1 ?_
 refine i_x hq' ?_
 refine l_x hq' ?_
 refine a_z ?_
 refine AWp.cutB (fun _:Unit=>nE_ g l (i,qC (co_ bf (l.take (i+1))))) (fun _=>True) ?_ ?_
 by_cases h0:i=0
 subst h0
 have:=ho0 rfl
 subst this
 rw[if_pos (.inl (by simp))] at hsn
 refine s_r 9 ?_
 refine a_3 ?_
 refine n_g rfl d_t ?_
 refine n_g rfl d_t ?_
 refine n_g rfl d_t ?_
 refine n_g rfl d_t ?_
 refine n_g rfl d_t ?_
 refine o_0 (.pickT rfl d_t rfl) ?_
 refine an_ ?_
 refine am_ rfl (fun h=>?_) (fun h=>?_)
 refine r_m 2 ?_
 refine a_z ?_
 refine⟨(),trivial,?_⟩
 simp only[nE_.eq_1]
 rw[hsn]
 exact s_e []
 cases h
 have ho':o=qC (co_ bf (l.take i)):=ho h0
 subst ho'
 have hne:l.take i≠[]:=fun h=>by
  have:=congrArg List.length h
  rw[List.length_take,List.length_nil] at this;omega
 refine s_r 9 ?_
 refine a_3 ?_
 refine y_g rfl (by simp;omega) (.move rfl) ?_
 first|refine y_g rfl (by simp;omega) (.load_l rfl rfl rfl tg_35.h ts_35.h (nle rfl)) ?_|refine y_g rfl (by simp;omega) (.load_a rfl rfl tg_35.h ts_35.h (nle rfl)) ?_
 first|refine y_g rfl (by simp;omega) (.load_l rfl rfl rfl tg_35.h ts_35.h (nle rfl)) ?_|refine y_g rfl (by simp;omega) (.load_a rfl rfl tg_35.h ts_35.h (nle rfl)) ?_
 refine y_g rfl (by simp;omega) (.call rfl rfl rfl (j1_ q (co_ bf (l.take i)) hsq hst)) ?_
 refine y_g rfl (by simp;omega) (.call rfl rfl rfl (hg (cmpQ q (co_ bf (l.take i))))) ?_
 refine o_0 (.pickF rfl (by simp;omega) rfl) ?_
 refine an_ ?_
 refine am_ rfl (fun h1=>?_) (fun h1=>?_)
 refine r_m 2 ?_
 refine a_z ?_
 refine⟨(),trivial,?_⟩
 simp only[nE_.eq_1]
 rw[hsn,if_pos (.inr h1)]
 exact s_e []
 refine ah_ ⟨(),trivial,?_⟩
 simp only[nE_.eq_1]
 rw[hsn,if_neg (fun hh=>hh.elim hne fun h2=>by rw[h1] at h2;cases h2)]
 exact s_e []
 rintro _ _
 rw[nE_.eq_1]
 refine r_m 2 ?_
 refine a_z ?_
 refine⟨(i+1,qC (co_ bf (l.take (i+1)))),by simp only;omega,⟨by simp only;omega,fun h=>absurd h (by simp),fun _=>rfl⟩,?_⟩
 simp only[nE_.eq_1]
 exact s_e []
 have hge:i=l.length:=by simp at h;omega
 refine av_ ⟨(),trivial,?_⟩
 subst hge
 by_cases h0:l.length=0
 have:=ho0 h0
 subst this
 have:co_ bf l=0:=by
  rw[List.length_eq_zero_iff] at h0;rw[h0];rfl
 rw[this,qC0]
 exact s_e []
 have:=ho h0
 subst this
 rw[List.take_length]
 exact s_e []
 rintro _ _
 refine r_z 2 ?_
 exact aj_ (c_e (az_ _))
theorem fs_Max(l:List Rat)(hl:smL l)(hln:l.length≤1099511627776):FSpec Tryz.prog 226 [.arr (pE l)] (.agg (qC (maxL l))):=by
 refine f_n Tryz.func226 ?_ ?_
 exact aa_ (at_ l) ab_
 refine r_z 1 ?_
 refine r_c 3 (rB_ 273 _ fs_Max1 l hl hln) ?_
 refine a_z ?_
 exact aj_ (c_e (az_ _))
theorem qs_int(n:Int):qs (n:Rat)≤max (bl n.natAbs) 1:=by
 have e1:(n:Rat).num=n:=rfl
 have e2:(n:Rat).den=1:=rfl
 unfold qs;rw[e1,e2,kc_];exact Nat.le_refl _
theorem qs_i64{n:Int}(h: -9223372036854775808≤n∧n≤9223372036854775807):qs (n:Rat)≤64:=by
 have h1:=qs_int n
 have h2:bl n.natAbs≤64:=bl_le (Nat.lt_of_le_of_lt (show n.natAbs≤9223372036854775808 by omega) (by decide))
 omega
theorem fs_Of(n d:Int)(hn: -9223372036854775808≤n∧n≤9223372036854775807)(hd: -9223372036854775808≤d∧d≤9223372036854775807)(h0:d≠0):FSpec Tryz.prog 55 [i64 n,i64 d] (.tup [.agg (qC ((n:Rat) / (d:Rat))),i64 0]):=by
 have h1:=qs_i64 hn
 have h2:=qs_i64 hd
 have hd0:(d:Rat)≠0:=by
  intro h
  have:(d:Rat).num=0:=by rw[h];rfl
  exact h0 this
 refine f_n Tryz.func55 ?_ ?_
 exact aa_ (ad_ _) (aa_ (ad_ _) ab_)
 refine r_z 2 ?_
 refine r_c 9 (dz_ n hn) ?_
 refine c_s (dz_ d hd) ?_
 refine c_s (ry_ (n:Rat) (d:Rat) hd0 (by omega)) ?_
 refine a_z ?_
 refine aj_ (Fin.many ⟨_,_,rfl,⟨_,_,_,_,_,rfl,rfl,rfl,.inl ⟨tg_35.h,_,ts_35.h,nle rfl,rfl⟩⟩,⟨_,_,rfl,rfl,rfl⟩⟩ (nle rfl) ?_)
 exact af_ (ak_ as_ (az_ _)) (af_ (ak_ as_ (ad_ _)) ao_)
theorem fs_Clone(l:List Rat)(hl:l.length≤1099511627776):FSpec Tryz.prog 184 [.arr (pE l)] (.arr (pE l)):=by
 cases l with
 |nil=>
  refine FSpec.nil1 fun a c=>?_
  refine f_n Tryz.func184 ?_ ?_
  exact aa_ (ad_ _) ab_
  refine r_z 1 ?_
  refine ac_ (r_z 2 ?_)
  refine am_ rfl (fun h=>?_) (fun h=>?_)
  refine r_z 1 ?_
  exact aj_ (Fin.tmpN rfl)
  ·refine ah_ (s_r 4 ?_)
   refine a_2 ?_
   refine o_2 (.append_l rfl rfl rfl te_55.h rfl rfl rfl rfl rfl d_o (by first|exact c3_ _|exact c2_ _|exact cO_ _|exact c5_ _|exact cS_ _|assumption|rfl|simp) (by first|rfl|exact c3_ _|exact c2_ _|exact cO_ _|exact c5_ _|exact cS_ _|simp) rfl (.vnil) tz_35.h rfl tb_35.h d_o (by first|(simp[maxLen];done)|(simp[maxLen];omega))) ?_
   refine a_z ?_
   exact aj_ (Fin.tmpS rfl rfl rfl rfl (aI_ []))
 |cons q l=>
  have hne:pE (q::l)≠[]:=by simp[pE]
  simp at hl
  refine f_n Tryz.func184 ?_ ?_
  exact aa_ (aX_ (aI_ _)) ab_
  refine r_z 1 ?_
  refine ac_ (s_r 2 ?_)
  refine a_1 ?_
  first|refine aw_ (.nilq_v rfl rfl te_55.h) rfl rfl ?_|refine aw_ (.nilq_arr rfl (hne) rfl te_55.h) rfl rfl ?_
  refine an_ ?_
  refine cF ?_
  ·refine ah_ (s_r 4 ?_)
   refine a_2 ?_
   refine o_2 (.append_l rfl rfl rfl te_55.h rfl rfl rfl rfl rfl d_o (by first|exact c3_ _|exact c2_ _|exact cO_ _|exact c5_ _|exact cS_ _|assumption|rfl|simp) (by first|rfl|exact c3_ _|exact c2_ _|exact cO_ _|exact c5_ _|exact cS_ _|simp) rfl (.arr (fZ_ _)) tz_35.h rfl tb_35.h d_o (by first|(simp[maxLen];done)|(simp[maxLen];omega))) ?_
   refine a_z ?_
   exact aj_ (Fin.tmpS rfl rfl rfl (by simp) (aI_ _))
def trS(l:List Rat):Nat→AState
 |n=>⟨[(0,.arr (pE l)),(3,i64 n)],[],1,23⟩
theorem cI_(l:List Rat)(hl:l.length≤1099511627776):FSpec Tryz.prog 99 [.arr (pE l)] (.arr (pE (trimQ l))):=by
 refine f_n Tryz.func99 ?_ ?_
 exact aa_ (aX_ (aI_ _)) ab_
 refine r_z 1 ?_
 refine r_z 3 ?_
 refine aU_ (trS l) (fun n=>n≤l.length∧trimQ l=l.take n) ?_ ?_
 refine ag_ (ax_ (trS l) (fun n=>n) (fun n=>n≤l.length∧trimQ l=trimQ (l.take n)) l.length ⟨Nat.le_refl _,by rw[List.take_length]⟩ ?_ ?_)
 simp only[trS.eq_1]
 exact s_e []
 rintro n ⟨hn,ht⟩
 rw[trS.eq_1]
 cases n with
 |zero=>
  refine ac_ (s_r 11 ?_)
  refine a_3 ?_
  refine n_g rfl (by simp) ?_
  refine n_g rfl (by simp) ?_
  refine n_g rfl (by simp) ?_
  refine n_g rfl (by simp) ?_
  refine n_g rfl (by simp) ?_
  refine n_g rfl (by simp) ?_
  refine n_g rfl (by simp) ?_
  refine o_0 (.pickF rfl (by simp) rfl) ?_
  refine an_ ?_
  refine cF ?_
  refine av_ ⟨0,⟨Nat.zero_le _,?_⟩,?_⟩
  rw[ht];rfl
  simp only[trS.eq_1]
  exact s_e []
 |succ n=>
  obtain⟨q,hq⟩:∃q,l[n]?=some q:=⟨_,List.getElem?_eq_getElem (by omega)⟩
  have hq':(pE l)[(((n+1:Nat):Int)- 1).toNat]?=some (qC q):=by
   rw[show(((n+1:Nat):Int)- 1).toNat=n by omega];exact bD_ hq
  have hs:trimQ (l.take (n+1))=if q=0 then trimQ (l.take n) else l.take (n+1):=by
   rw[cD_ hq,ft_]
  refine ac_ (s_r 11 ?_)
  refine a_3 ?_
  refine y_g rfl (by simp <;> omega) (.move rfl) ?_
  refine y_g rfl (by simp <;> omega) (.move rfl) ?_
  refine y_g rfl (by simp <;> omega) (.bin rfl rfl (gP_ (by omega))) ?_
  first|refine y_g rfl (by simp <;> omega) (.index_l rfl rfl (by omega) (by omega) te_55.h) ?_|refine y_g rfl (by simp <;> omega) (.index_a rfl rfl (by omega) hq' rfl te_55.h) ?_
  first|refine y_g rfl (by simp <;> omega) (.load_l rfl rfl hq' tg_35.h ts_35.h (nle rfl)) ?_|refine y_g rfl (by simp <;> omega) (.load_a rfl hq' tg_35.h ts_35.h (nle rfl)) ?_
  refine y_g rfl (by simp <;> omega) (.call rfl rfl rfl (bI_ q)) ?_
  refine y_g rfl (by simp <;> omega) (.bin rfl rfl a9_) ?_
  refine o_0 (.pickT rfl (by simp <;> omega) rfl) ?_
  refine an_ ?_
  refine am_ rfl (fun h=>?_) (fun h=>?_)
  have h0:q=0:=by
   have h1:sgZ q.num=0:=by simpa using h
   exact sgZ_num_eq.1 h1
  refine ah_ (ag_ (r_m 3 ?_))
  refine a_z ?_
  refine⟨n,Nat.lt_succ_self n,⟨by omega,?_⟩,?_⟩
  rw[ht,hs,if_pos h0]
  simp only[trS.eq_1]
  exact s_e []
  have h0:q≠0:=by
   intro e
   have h1:¬sgZ q.num=0:=by simpa using h
   exact h1 (sgZ_num_eq.2 e)
  refine av_ ⟨n+1,⟨hn,?_⟩,?_⟩
  rw[ht,hs,if_neg h0]
  simp only[trS.eq_1]
  exact s_e []
 rintro n ⟨hn,ht⟩
 rw[trS.eq_1]
 have hcl:=fs_Clone (l.take n) (by simp;omega)
 refine s_r 5 ?_
 refine a_2 ?_
 refine o_0 (.sa_h rfl rfl (h:=n) rfl (by simp;omega) te_55.h (fZ_ _)) ?_
 refine o_0 (.call rfl rfl rfl ((by rw[mW_];exact hcl))) ?_
 refine o_0 (.assign rfl) ?_
 refine an_ ?_
 refine aj_ (aR_ rfl ?_ ?_)
 rw[ht]
 exact aX_ (aI_ _)
theorem bJ_(l:List Rat)(hl:l.length≤1099511627776):FSpec Tryz.prog 66 [.arr (pE l)] (i64 (degP l)):=by
 have:=a2_ l
 refine f_n Tryz.func66 ?_ ?_
 exact aa_ (aX_ (aI_ _)) ab_
 refine r_z 1 ?_
 refine r_c 5 (cI_ l hl) ?_
 refine a_z ?_
 exact aj_ (t_e (ad_ _))
theorem f6_(l:List Rat)(hl:l.length≤1099511627776):FSpec Tryz.prog 183 [.arr (pE l)] (.agg (qC (leadP l))):=by
 have hlen:=a2_ l
 refine f_n Tryz.func183 ?_ ?_
 exact aa_ (aX_ (aI_ _)) ab_
 refine r_z 1 ?_
 refine r_c 3 (cI_ l hl) ?_
 refine a_z ?_
 refine ac_ (r_z 3 ?_)
 refine am_ rfl (fun h=>?_) (fun h=>?_)
 have h0:trimQ l=[]:=by
  have h1:(trimQ l).length=0:=by simpa using h
  exact List.length_eq_zero_iff.1 h1
 rw[iJ_ h0]
 refine r_z 2 ?_
 refine aj_ (Fin.cell rfl rfl rfl tg_35.h ts_35.h (nle rfl) (Cv.agg ?_))
 rw[qC0]
 exact af_ (Cv.emp _) (af_ (ak_ as_ (ad_ _)) (af_ (Cv.emp _) ao_))
 obtain⟨n,hn⟩:∃n,(trimQ l).length=n+1:=⟨(trimQ l).length- 1,by
  have h1:¬(trimQ l).length=0:=by simpa using h
  omega⟩
 have hg:(pE (trimQ l))[(((trimQ l).length:Int)- 1).toNat]?=some (qC (leadP l)):=by
  rw[hn,show(((n+1:Nat):Int)- 1).toNat=n by omega];exact bD_ (bH_ hn)
 refine ah_ (s_r 7 ?_)
 refine a_4 ?_
 refine i_x hg ?_
 refine l_x hg ?_
 refine a_z ?_
 exact aj_ (c_e (az_ _))
theorem fs_at(l:List Rat)(i:Nat):FSpec Tryz.prog 238 [.arr (pE l),i64 i] (.agg (qC (coP l i))):=by
 refine f_n Tryz.func238 ?_ ?_
 exact aa_ (aX_ (aI_ _)) (aa_ (ad_ _) ab_)
 refine r_z 1 ?_
 refine ac_ (r_z 4 ?_)
 refine am_ rfl (fun h=>?_) (fun h=>?_)
 have hlt:i< l.length:=by simpa using h
 have hg:(pE l)[((i:Nat):Int).toNat]?=some (qC (coP l i)):=bD_ (bd_ hlt)
 refine s_r 5 ?_
 refine a_2 ?_
 refine i_x hg ?_
 refine l_x hg ?_
 refine a_z ?_
 exact aj_ (c_e (az_ _))
 have hge:l.length≤i:=by simpa using h
 rw[cn_ hge]
 refine ah_ (r_z 2 ?_)
 refine aj_ (Fin.cell rfl rfl rfl tg_35.h ts_35.h (nle rfl) (Cv.agg ?_))
 rw[qC0]
 exact af_ (Cv.emp _) (af_ (ak_ as_ (ad_ _)) (af_ (Cv.emp _) ao_))
theorem eE_set{n i e:Nat}{f:Nat→Rat}(h:i< n)(he:e=i):(pE (tabP i f)++List.replicate (n- i) zC).set e (qC (f i))=pE (tabP (i+1) f)++List.replicate (n- (i+1)) zC:=by
 subst he
 obtain⟨k,rfl⟩:∃k,n=e+1+k:=⟨n- (e+1),by omega⟩
 rw[show e+1+k- e=k+1 by omega,show e+1+k- (e+1)=k by omega,List.replicate_succ,List.set_append_right _ _ (by simp)]
 simp[tabP,List.range_succ,pE]
theorem eE_get{n i e:Nat}{f:Nat→Rat}(h:i< n)(he:e=i):(pE (tabP i f)++List.replicate (n- i) zC)[e]?=some zC:=by
 subst he
 rw[List.getElem?_append_right (by simp),List.getElem?_replicate,if_pos (by simp;omega)]
theorem ji_(n i:Nat)(f:Nat→Rat):∀e∈pE (tabP i f)++List.replicate (n- i) zC,∀c∈e,Closed c:=by
 intro e he
 rcases List.mem_append.1 he with he|he
 exact aI_ _ e he
 rw[List.eq_of_mem_replicate he];exact d1_
def eachS(n:Nat)(f:Nat→Rat)(g:Nat)(cap:List AV):Nat→AState
 |i=>⟨[(1,.clos g [] cap),(5,.lsl 1 0 n (some n) 3),(10,i64 n),(11,i64 i)],[(1,some ⟨35,3,pE (tabP i f)++List.replicate (n- i) zC⟩)],2,23⟩
theorem kM_(n:Nat)(f:Nat→Rat)(g:Nat)(cap:List AV)(hn:n≤1099511627776)(hcap:∀c∈cap,Closed c)(hg:∀i,i< n→FSpec Tryz.prog g ((i64 i::cap).map coe) (.agg (qC (f i)))):FSpec Tryz.prog 138 [i64 n,.clos g [] cap] (.arr (pE (trimQ (tabP n f)))):=by
 refine f_n Tryz.func138 ?_ ?_
 exact aa_ (ad_ _) (aa_ (aT_ ab_ hcap) ab_)
 refine r_z 1 ?_
 refine r_z 3 ?_
 refine ac_ (r_z 3 ?_)
 refine aB_ (fun _:Unit=>eachS n f g cap n) (fun _=>True) ?_ ?_
 refine ag_ (ax_ (eachS n f g cap) (fun i=>n- i) (fun i=>i≤n) 0 (Nat.zero_le _) ?_ ?_)
 simp only[eachS.eq_1]
 refine ar_ [(1,5)] rfl rfl rfl au_r (fun hs=>?_) (fun hs=>?_)
 ·repeat' (first|exact aA_|refine au_ rfl ?_ ?_)
  all_goals (first|(exact ak_ hs (aT_ ab_ hcap))|exact au_c)
 ·repeat' (first|exact ap_|refine al_ rfl rfl rfl rfl ?_ ?_)
  all_goals (first|(exact aD_ hs rfl (ji_ n 0 f))|exact au_e|(refine ae_ ?_;repeat' (first|exact ao_|refine af_ ?_ ?_)))
  all_goals (first|(exact ak_ hs (aT_ ab_ hcap))|exact au_c)
 rintro i hi
 rw[eachS.eq_1]
 refine r_z 1 ?_
 refine ac_ (am_ rfl (fun h=>?_) (fun h=>?_))
 refine ah_ ?_
 have hlt:i< n:=by simpa using h
 refine ac_ (ag_ (r_z 2 ?_))
 refine r_m 7 ?_
 refine c_s (hg i hlt) ?_
 refine a_1 ?_
 refine o_1n (.store rfl rfl (eE_get hlt (Nat.zero_add i)) rfl rfl rfl ts_35.h (nle rfl)) ?_
 refine an_ ?_
 refine r_m 2 ?_
 refine a_z ?_
 refine⟨i+1,by omega,hlt,?_⟩
 simp only[eachS.eq_1]
 refine ar_ [] rfl rfl rfl au_r (fun hs=>?_) (fun hs=>?_)
 ·repeat' (first|exact aA_|refine au_ rfl ?_ ?_)
  all_goals (first|(exact ak_ hs (aT_ ab_ hcap))|exact au_c)
 ·repeat' (first|exact ap_|refine al_ rfl rfl rfl rfl ?_ ?_)
  all_goals (first|(exact aD_ hs (eE_set hlt (Nat.zero_add i)) (ji_ n (i+1) f))|exact au_e|(refine ae_ ?_;repeat' (first|exact ao_|refine af_ ?_ ?_)))
  all_goals (first|(exact ak_ hs (aT_ ab_ hcap))|exact au_c)
 have hge:i=n:=by
  have:¬i< n:=by simpa using h
  omega
 subst hge
 refine av_ ⟨(),trivial,?_⟩
 simp only[eachS.eq_1]
 refine ar_ [] rfl rfl rfl au_r (fun hs=>?_) (fun hs=>?_)
 ·repeat' (first|exact aA_|refine au_ rfl ?_ ?_)
  all_goals (first|(exact ak_ hs (aT_ ab_ hcap))|exact au_c)
 ·repeat' (first|exact ap_|refine al_ rfl rfl rfl rfl ?_ ?_)
  all_goals (first|(exact aH_ hs (ji_ i i f))|exact au_e|(refine ae_ ?_;repeat' (first|exact ao_|refine af_ ?_ ?_)))
  all_goals (first|(exact ak_ hs (aT_ ab_ hcap))|exact au_c)
 rintro _ _
 rw[eachS.eq_1]
 have hfull:List.take n (List.drop 0 (pE (tabP n f)++List.replicate (n- n) zC))=pE (tabP n f):=by
  rw[Nat.sub_self,List.replicate_zero,List.append_nil,List.drop_zero,List.take_of_length_le (by simp)]
 refine s_r 3 ?_
 refine a_1 ?_
 refine o_1 (.callS1 rfl rfl rfl (.shut rfl d_n (.nil)) rfl ((by rw[hfull];exact cI_ (tabP n f) (by simp;exact hn)))) ?_
 refine a_z ?_
 exact aj_ (t_e (aX_ (aI_ _)))
abbrev bP(p:List Rat):AV:= .aptr [[.arr (pE p)]] 0 0
abbrev bQ(q:Rat):AV:= .aptr [qC q] 0 0
theorem bw_(p:List Rat):Closed (bP p):=ai_ (aa_ (at_ p) ab_)
theorem cs_(q:Rat):Closed (bQ q):=ai_ (aO_ q)
theorem fs_Add1(p q:List Rat)(i:Nat)(hp:smL p)(hq:smL q):FSpec Tryz.prog 237 [i64 i,bP p,bP q] (.agg (qC (coP p i+coP q i))):=by
 refine f_n Tryz.func237 ?_ ?_
 exact aa_ (ad_ _) (aa_ (bw_ p) (aa_ (bw_ q) ab_))
 refine r_z 1 ?_
 refine ac_ (r_d hmix 8 ?_)
 refine c_s (fs_at p i) ?_
 refine c_s (fs_at q i) ?_
 refine c_s (fT_ (coP p i) (coP q i) (sm2 (jd_ hp i) (jd_ hq i))) ?_
 refine a_1 ?_
 refine an_ (n_k ?_)
 exact aj_ (c_e (az_ _))
theorem fs_Add(p q:List Rat)(hp:smL p)(hq:smL q)(hp1:p.length≤1099511627776)(hq1:q.length≤1099511627776):FSpec Tryz.prog 167 [.arr (pE p),.arr (pE q)] (.arr (pE (addP p q))):=by
 refine f_n Tryz.func167 ?_ ?_
 exact aa_ (at_ p) (aa_ (at_ q) ab_)
 refine r_z 3 ?_
 refine AWp.ent (st':=⟨[(2,bP p),(3,bP q)],[],1,12⟩) ?_ ?_
 exact s_e []
 have hm:(if ((q.length:Nat):Int)>(p.length:Nat) then((q.length:Nat):Int) else(p.length:Nat))=((max p.length q.length:Nat):Int):=by
  rw[Nat.max_def];split <;> split <;> omega
 have he:=kM_ (max p.length q.length) (fun i=>coP p i+coP q i) 237 [bP p,bP q] (Nat.max_le.2 ⟨hp1,hq1⟩) (aa_ (bw_ p) (aa_ (bw_ q) ab_)) (fun i _=>fs_Add1 p q i hp hq)
 rw[←hm] at he
 refine r_c 8 (he) ?_
 refine a_z ?_
 exact aj_ (t_e (at_ _))
theorem rG_(p:List Rat)(k:Rat)(i:Nat)(hp:smL p)(hk:sm k)(hi:i< p.length):FSpec Tryz.prog 140 [i64 i,bP p,bQ k] (.agg (qC (coP p i* k))):=by
 have hg:(pE p)[((i:Nat):Int).toNat]?=some (qC (coP p i)):=bD_ (bd_ hi)
 refine f_n Tryz.func140 ?_ ?_
 exact aa_ (ad_ _) (aa_ (bw_ p) (aa_ (cs_ k) ab_))
 refine r_z 1 ?_
 refine ac_ (r_d hmix 7 ?_)
 refine a_2 ?_
 refine i_x hg ?_
 refine l_x hg ?_
 refine c_s (dd_ (coP p i) k (sm2 (jd_ hp i) hk)) ?_
 refine a_1 ?_
 refine an_ (n_k ?_)
 exact aj_ (c_e (az_ _))
theorem dE_(p:List Rat)(k:Rat)(hp:smL p)(hk:sm k)(hp1:p.length≤1099511627776):FSpec Tryz.prog 50 [.arr (pE p),.agg (qC k)] (.arr (pE (aJ_ p k))):=by
 have he:=kM_ p.length (fun i=>coP p i* k) 140 [bP p,bQ k] hp1 (aa_ (bw_ p) (aa_ (cs_ k) ab_)) (fun i hi=>rG_ p k i hp hk hi)
 refine f_n Tryz.func50 ?_ ?_
 exact aa_ (at_ p) (aa_ (az_ k) ab_)
 refine r_z 3 ?_
 refine AWp.ent (st':=⟨[(2,bP p),(3,bQ k)],[],1,9⟩) ?_ ?_
 exact s_e []
 refine r_c 5 (he) ?_
 refine a_z ?_
 exact aj_ (t_e (at_ _))
theorem ea_(a b:Rat)(hb:b≠0)(h:qs a+qs b≤549755813888):FSpec Tryz.prog 144 [.agg (qC a),.agg (qC b)] (.agg (qC (a/ b))):=by
 refine f_n Tryz.func144 ?_ ?_
 exact aa_ (az_ a) (aa_ (az_ b) ab_)
 refine r_z 3 ?_
 refine r_c 9 (ry_ a b hb h) ?_
 refine a_z ?_
 refine r_z 2 ?_
 exact aj_ (c_e (az_ _))
theorem iX_(a:Rat):FSpec Tryz.prog 187 [.agg (qC a)] (.arr (pE (dY_ a))):=by
 refine f_n Tryz.func187 ?_ ?_
 exact aa_ (az_ a) ab_
 refine r_z 2 ?_
 refine s_r 4 ?_
 refine a_2 ?_
 refine o_1 (.callS1 rfl rfl rfl (.shut rfl d_n (.nil)) rfl ((cI_ [a] (by simp)))) ?_
 refine a_z ?_
 exact aj_ (t_e (at_ _))
theorem sm_neg1{a:Rat}(h:sm a):sm (a* (-1)):=by
 unfold sm at *
 rw[show a* (-1)= -a by rw[Rat.mul_comm,Rat.neg_mul,Rat.one_mul],eQ_];exact h
theorem qs_inv(b:Rat)(hb:b≠0):qs (1/ b)≤qs b:=by
 rw[i6_ 1 b hb]
 have hn:b.num≠0:=fun e=>hb (Rat.num_eq_zero.1 e)
 have h1:=b6_ b
 have h2:=bW_ b
 refine cU_ (by have:0< b.num.natAbs:=by omega
                show 0< 1* b.num.natAbs
                omega) ?_ ?_
 show bl ((1:Int) * sgn (decide (b.num< 0)) b.den).natAbs≤qs b
 rw[Int.one_mul,df_];exact h2
 show bl (1* b.num.natAbs)≤qs b
 rw[Nat.one_mul];exact h1
theorem ph_{q:List Rat}(h:smL q):smL (aJ_ q (-1)):=by
 refine smL_trim fun x hx=>?_
 obtain⟨i,_,rfl⟩:=List.mem_map.1 hx
 exact sm_neg1 (jd_ h i)
theorem oA_(p q:List Rat)(hp:smL p)(hq:smL q)(hp1:p.length≤1099511627776)(hq1:q.length≤1099511627776):FSpec Tryz.prog 73 [.arr (pE p),.arr (pE q)] (.arr (pE (subP p q))):=by
 have hl:=bT_ q (-1)
 refine f_n Tryz.func73 ?_ ?_
 exact aa_ (at_ p) (aa_ (at_ q) ab_)
 refine r_z 1 ?_
 refine r_c 6 (dz_ (-1) (by decide)) ?_
 refine c_s (dE_ q (-1) hq (by decide) hq1) ?_
 refine c_s (fs_Add p (aJ_ q (-1)) hp (ph_ hq) hp1 (by omega)) ?_
 refine a_z ?_
 exact aj_ (t_e (at_ _))
theorem kJ_(p:List Rat)(hp:smL p)(hp1:p.length≤1099511627776):FSpec Tryz.prog 270 [.arr (pE p)] (.arr (pE (bf_ p))):=by
 have hlead:=leadP_sm hp
 refine f_n Tryz.func270 ?_ ?_
 exact aa_ (at_ p) ab_
 refine r_z 1 ?_
 refine ac_ (r_c 3 (bJ_ p hp1) ?_)
 refine a_z ?_
 refine am_ rfl (fun h=>?_) (fun h=>?_)
 have h0:trimQ p=[]:=by
  have h1:degP p< 0:=by simpa using h
  unfold degP at h1
  exact List.length_eq_zero_iff.1 (by omega)
 refine r_z 1 ?_
 refine aj_ ?_
 unfold bf_
 rw[if_pos h0]
 exact Fin.tmpN rfl
 have h0:trimQ p≠[]:=by
  intro e
  have h1:¬degP p< 0:=by simpa using h
  unfold degP at h1
  rw[e] at h1
  exact h1 (by decide)
 have hne:=b9_ h0
 have hinv:=qs_inv (leadP p) hne
 unfold sm at hlead
 have h1:qs 1=1:=by decide
 unfold bf_
 rw[if_neg h0]
 refine ah_ (r_c 7 (dz_ 1 (by decide)) ?_)
 refine c_s (f6_ p hp1) ?_
 refine c_s (ea_ 1 (leadP p) hne (by omega)) ?_
 refine c_s (dE_ p (1/ leadP p) hp (by unfold sm;omega) hp1) ?_
 refine a_z ?_
 exact aj_ (t_e (at_ _))
theorem kp_(i:Nat)(h:i≤1099511627776):qs (((i:Nat):Int):Rat)≤64:=by
 refine Nat.max_le.2 ⟨?_,?_⟩
 show bl ((i:Int)).natAbs≤64
 rw[Int.natAbs_natCast]
 exact bl_le (by omega)
 show bl 1≤64
 decide
theorem pG_(p:List Rat)(i:Nat)(hp:smL p)(hi:i+1< p.length)(hp1:p.length≤1099511627776):FSpec Tryz.prog 139 [i64 i,bP p] (.agg (qC (coP p (i+1) * ((i+1:Nat):Int)))):=by
 have hg:(pE p)[(((i:Nat):Int)+1).toNat]?=some (qC (coP p (i+1))):=by
  rw[show(((i:Nat):Int)+1).toNat=i+1 by omega];exact bD_ (bd_ hi)
 have hs:=jd_ hp (i+1)
 have hq:=kp_ (i+1) (by omega)
 unfold sm at hs
 have hI:=dz_ (((i:Nat):Int)+1) (by omega)
 rw[show((i:Nat):Int)+1=((i+1:Nat):Int) by omega] at hI
 refine f_n Tryz.func139 ?_ ?_
 exact aa_ (ad_ _) (aa_ (bw_ p) ab_)
 refine r_z 1 ?_
 refine ac_ (r_d hmix 10 ?_)
 refine a_3 ?_
 refine i_x hg ?_
 refine l_x hg ?_
 refine c_s (hI) ?_
 refine c_s (dd_ (coP p (i+1)) ((i+1:Nat):Int) (by omega)) ?_
 refine a_1 ?_
 refine an_ (n_k ?_)
 exact aj_ (c_e (az_ _))
theorem i0_(p:List Rat)(hp:smL p)(hp1:p.length≤1099511627776):FSpec Tryz.prog 49 [.arr (pE p)] (.arr (pE (aY_ p))):=by
 have he:=kM_ (p.length- 1) (fun i=>coP p (i+1) * ((i+1:Nat):Int)) 139 [bP p] (by omega) (aa_ (bw_ p) ab_) (fun i hi=>pG_ p i hp (by omega) hp1)
 have hm:(if (0:Int)>((p.length:Nat):Int)- 1 then(0:Int) else((p.length:Nat):Int)- 1)=((p.length- 1:Nat):Int):=by split <;> omega
 rw[←hm] at he
 refine f_n Tryz.func49 ?_ ?_
 exact aa_ (at_ p) ab_
 refine r_z 2 ?_
 refine AWp.ent (st':=⟨[(1,bP p)],[],1,9⟩) ?_ ?_
 exact s_e []
 refine r_c 7 (he) ?_
 refine a_z ?_
 exact aj_ (t_e (at_ _))
theorem l6_(p:List Rat)(i:Nat)(hp:smL p)(hi:i< p.length+1)(hp1:p.length≤1099511627775):FSpec Tryz.prog 143 [i64 i,bP p] (.agg (qC (if i=0 then 0 else coP p (i- 1) / ((i:Nat):Int)))):=by
 refine f_n Tryz.func143 ?_ ?_
 exact aa_ (ad_ _) (aa_ (bw_ p) ab_)
 refine r_z 1 ?_
 refine ac_ (r_z 2 ?_)
 refine am_ rfl (fun h=>?_) (fun h=>?_)
 have h0:i=0:=by
  have h1:(i:Int)=0:=by simpa using h
  omega
 rw[if_pos h0]
 refine r_z 2 ?_
 refine aj_ (Fin.cell rfl rfl rfl tg_35.h ts_35.h (nle rfl) (Cv.agg ?_))
 rw[qC0]
 exact af_ (Cv.emp _) (af_ (ak_ as_ (ad_ _)) (af_ (Cv.emp _) ao_))
 have h0:i≠0:=by
  intro e
  have h1:¬(i:Int)=0:=by simpa using h
  omega
 rw[if_neg h0]
 have hg:(pE p)[(((i:Nat):Int)- 1).toNat]?=some (qC (coP p (i- 1))):=by
  rw[show(((i:Nat):Int)- 1).toNat=i- 1 by omega];exact bD_ (bd_ (by omega))
 have hs:=jd_ hp (i- 1)
 have hq:=kp_ i (by omega)
 unfold sm at hs
 refine ah_ (ac_ (r_d hmix 9 ?_))
 refine a_3 ?_
 refine i_x hg ?_
 refine l_x hg ?_
 refine c_s (dz_ ((i:Nat):Int) (by omega)) ?_
 refine c_s (ea_ (coP p (i- 1)) ((i:Nat):Int) (by intro e;have e2:=congrArg Rat.num e;simp at e2;omega) (by omega)) ?_
 refine a_1 ?_
 refine an_ (n_k ?_)
 exact aj_ (c_e (az_ _))
theorem nk_(p:List Rat)(hp:smL p)(hp1:p.length≤1099511627775):FSpec Tryz.prog 53 [.arr (pE p)] (.arr (pE (aK_ p))):=by
 have he:=kM_ (p.length+1) (fun i=>if i=0 then 0 else coP p (i- 1) / ((i:Nat):Int)) 143 [bP p] (by omega) (aa_ (bw_ p) ab_) (fun i hi=>l6_ p i hp hi hp1)
 rw[show((p.length+1:Nat):Int)=((p.length:Nat):Int)+1 by omega] at he
 refine f_n Tryz.func53 ?_ ?_
 exact aa_ (at_ p) ab_
 refine r_z 2 ?_
 refine AWp.ent (st':=⟨[(1,bP p)],[],1,8⟩) ?_ ?_
 exact s_e []
 refine r_c 6 (he) ?_
 refine a_z ?_
 exact aj_ (t_e (at_ _))

def mulS(p:List Rat)(q:List Rat):Nat×List Rat→AState
 |(i,o)=>⟨[(1,.arr (pE q)),(5,.lsl 1 0 o.length (some o.length) 3),(25,.arr (pE p)),(26,i64 p.length),(27,i64 i)],[(1,some ⟨35,3,pE o⟩)],2,61⟩
def mulT(p:List Rat)(q:List Rat)(i:Nat)(a:Rat):Nat×List Rat→AState
 |(k,o)=>⟨[(1,.arr (pE q)),(5,.lsl 1 0 o.length (some o.length) 3),(6,i64 i),(7,.lptr 2 0 0),(25,.arr (pE p)),(26,i64 p.length),(27,i64 i),(35,.arr (pE q)),(36,i64 q.length),(37,i64 k)],[(1,some ⟨35,3,pE o⟩),(2,some ⟨35,3,[qC a]⟩)],3,61⟩
theorem j3_(p q:List Rat)(s t:Nat)(hp:bdL p s)(hq:bdL q t)(hs:1≤s)(ht:1≤t)(h:p.length* (s+t+1)+1≤137438953472)(ht2:t≤137438953472)(hp1:p.length≤274877906944)(hq1:q.length≤274877906944):FSpec Tryz.prog 52 [.arr (pE p),.arr (pE q)] (.arr (pE (mulP p q))):=by
 refine f_n Tryz.func52 ?_ ?_
 exact aa_ (at_ p) (aa_ (at_ q) ab_)
 refine r_z 1 ?_
 refine aU_ (fun _:Unit=>⟨[(0,.arr (pE p)),(1,.arr (pE q))],[],1,61⟩) (fun _=>p≠[]∧q≠[]) ?_ ?_
 by_cases h1:p=[]
 subst h1
 refine s_r 8 ?_
 refine a_4 ?_
 refine n_g rfl (by simp) ?_
 refine n_g rfl (by simp) ?_
 refine n_g rfl (by simp) ?_
 refine o_0 (.pickT rfl (by simp) rfl) ?_
 refine an_ ?_
 refine am_ rfl (fun h=>?_) (fun h=>?_)
 refine r_z 1 ?_
 refine aj_ ?_
 unfold mulP
 rw[if_pos (.inl rfl)]
 exact Fin.tmpN rfl
 cases h
 have hp0:p.length≠0:=fun e=>h1 (List.length_eq_zero_iff.1 e)
 refine s_r 8 ?_
 refine a_4 ?_
 refine y_g rfl (by simp <;> omega) (.move rfl) ?_
 first|refine y_g rfl (by simp <;> omega) (.lenD rfl rfl rfl rfl te_55.h) ?_|refine y_g rfl (by simp <;> omega) (.lenI rfl rfl rfl rfl te_55.h) ?_|refine y_g rfl (by simp <;> omega) (.lenP rfl rfl rfl rfl te_55.h) ?_|refine y_g rfl (by simp <;> omega) (.lenC rfl rfl rfl rfl te_55.h) ?_|refine y_g rfl (by simp <;> omega) (.lenR rfl rfl rfl rfl te_55.h) ?_|refine y_g rfl (by simp <;> omega) (.len rfl rfl rfl rfl rfl te_55.h) ?_
 refine y_g rfl (by simp <;> omega) (.bin rfl rfl a9_) ?_
 refine o_0 (.pickF rfl (by simp <;> omega) rfl) ?_
 refine an_ ?_
 refine am_ rfl (fun h2=>?_) (fun h2=>?_)
 have hq0:q=[]:=by
  have:q.length=0:=by simpa using h2
  exact List.length_eq_zero_iff.1 this
 refine r_z 1 ?_
 refine aj_ ?_
 unfold mulP
 rw[if_pos (.inr hq0)]
 exact Fin.tmpN rfl
 have hq0:q≠[]:=by
  have:¬q.length=0:=by simpa using h2
  exact fun e=>this (by rw[e];rfl)
 refine ah_ ⟨(),⟨h1,hq0⟩,?_⟩
 exact s_e []
 rintro _ ⟨hp0,hq0⟩
 have hpl:=List.length_pos_iff.2 hp0
 have hql:=List.length_pos_iff.2 hq0
 have hN:(p.length:Int)+q.length- 1=((p.length+q.length- 1:Nat):Int):=by omega
 refine s_r 8 ?_
 refine a_6 ?_
 refine o_1 (.makeSlice (l:=p.length+q.length- 1) (c:=p.length+q.length- 1) (by rw[←hN];rfl) (by rw[←hN];rfl) te_55.h tz_35.h rfl tb_35.h (by first|omega|(simp;done)|(simp;omega)) (by first|omega|(simp;done)|(simp;omega)) (by unfold maxLen;first|omega|(simp;done)|(simp;omega))) ?_
 refine a_z ?_
 refine ac_ (r_z 3 ?_)
 have hbd:=fun i=>kv_ (bE_ hp hs) (bE_ hq ht) i
 have hbi:∀i,i≤p.length→i* (s+t+1)+1≤137438953472:=fun i hi=>by
  have:=Nat.mul_le_mul_right (s+t+1) hi
  omega
 have hs2:s≤137438953472:=by
  have:=hbi 1 hpl
  omega
 refine aB_ (fun _:Unit=>mulS p q (p.length,mulR p q p.length)) (fun _=>True) ?_ ?_
 refine ag_ (ax_ (fun i:Nat=>mulS p q (i,mulR p q i)) (fun i=>p.length- i) (fun i=>i≤p.length) 0 (Nat.zero_le _) ?_ ?_)
 simp only[mulS.eq_1,mulR]
 refine ar_ [(1,5)] rfl rfl rfl au_r (fun hs=>au_f) (fun hs=>?_)
 ·repeat' (first|exact ap_|refine al_ rfl rfl rfl rfl ?_ ?_)
  all_goals (first|(exact CvLL.zeros hs _)|exact au_e)
 rintro i hi
 simp only[mulS.eq_1]
 refine r_z 1 ?_
 refine ac_ (am_ rfl (fun h=>?_) (fun h=>?_))
 refine ah_ ?_
 have hlt:i< p.length:=by simpa using h
 have hgp:(pE p)[((i:Nat):Int).toNat]?=some (qC (coP p i)):=bD_ (bd_ hlt)
 refine ac_ (ag_ (s_r 6 ?_))
 refine a_1 ?_
 refine i_x hgp ?_
 refine l_x hgp ?_
 refine a_z ?_
 refine ac_ (r_c 3 (bI_ (coP p i)) ?_)
 refine a_z ?_
 refine am_ rfl (fun h1=>?_) (fun h1=>?_)
 have h0:coP p i=0:=by
  have h1:sgZ (coP p i).num=0:=by simpa using h1
  exact sgZ_num_eq.1 h1
 have hst:mulR p q (i+1)=mulR p q i:=by rw[mulR,if_pos h0]
 refine av_ (r_m 2 ?_)
 refine a_z ?_
 refine⟨i+1,by omega,hlt,?_⟩
 simp only[mulS.eq_1,hst]
 exact s_e []
 have h0:coP p i≠0:=by
  intro e
  have h1:¬sgZ (coP p i).num=0:=by simpa using h1
  exact h1 (sgZ_num_eq.2 e)
 have hst:mulR p q (i+1)=rowP (mulR p q i) (coP p i) q i q.length:=by rw[mulR,if_neg h0]
 refine ah_ (r_z 3 ?_)
 refine AWp.cutB (fun _:Unit=>mulS p q (i,mulR p q (i+1))) (fun _=>True) ?_ ?_
 refine ag_ (ax_ (fun k:Nat=>mulT p q i (coP p i) (k,rowP (mulR p q i) (coP p i) q i k)) (fun k=>q.length- k) (fun k=>k≤q.length) 0 (Nat.zero_le _) ?_ ?_)
 simp only[mulT.eq_1,rowP]
 exact s_e [(2,7)]
 rintro k hk
 simp only[mulT.eq_1]
 refine r_z 1 ?_
 refine ac_ (am_ rfl (fun h2=>?_) (fun h2=>?_))
 refine ah_ ?_
 have hlt2:k< q.length:=by simpa using h2
 have hgq:(pE q)[((k:Nat):Int).toNat]?=some (qC (coP q k)):=bD_ (bd_ hlt2)
 refine ac_ (ag_ (s_r 6 ?_))
 refine a_1 ?_
 refine i_x hgq ?_
 refine l_x hgq ?_
 refine a_z ?_
 have hb1:=hbd i
 have hb2:=hbi (i+1) hlt
 have hb3:=hbi i hi
 have hcur:qs (coP (rowP (mulR p q i) (coP p i) q i k) (i+k))≤137438953472:=by
  rw[ko_ _ _ _ _ _ _ (by omega)];exact Nat.le_trans (hb1 (i+k)) hb3
 have hab:=bZ_ (coP p i) (coP q k)
 have hqa:=bE_ hp hs i
 have hqb:=bE_ hq ht k
 have hik:i+k< (rowP (mulR p q i) (coP p i) q i k).length:=by simp;omega
 have hgo:(pE (rowP (mulR p q i) (coP p i) q i k))[(0+(((i:Nat):Int)+(k:Nat)).toNat)]?=some (qC (coP (rowP (mulR p q i) (coP p i) q i k) (i+k))):=by
  rw[show 0+(((i:Nat):Int)+(k:Nat)).toNat=i+k by omega];exact bD_ (bd_ hik)
 refine r_d hmix 16 ?_
 refine a_8 ?_
 refine a_1 ?_
 first|refine aw_ (.load_l rfl rfl hgo tg_35.h ts_35.h (nle rfl)) rfl rfl ?_|refine aw_ (.load_a rfl hgo tg_35.h ts_35.h (nle rfl)) rfl rfl ?_
 refine c_s (dd_ (coP p i) (coP q k) (by omega)) ?_
 refine c_s (fT_ (coP (rowP (mulR p q i) (coP p i) q i k) (i+k)) (coP p i* coP q k) (by omega)) ?_
 refine a_1 ?_
 refine o_1n (.store rfl rfl hgo rfl rfl rfl ts_35.h (nle rfl)) ?_
 refine an_ (n_k ?_)
 refine r_m 2 ?_
 refine a_z ?_
 refine⟨k+1,by omega,hlt2,?_⟩
 have hst2:(pE (rowP (mulR p q i) (coP p i) q i k)).set (0+(((i:Nat):Int)+(k:Nat)).toNat) (qC (coP (rowP (mulR p q i) (coP p i) q i k) (i+k)+coP p i* coP q k))=pE (rowP (mulR p q i) (coP p i) q i (k+1)):=by
  rw[show 0+(((i:Nat):Int)+(k:Nat)).toNat=i+k by omega,iu_];rfl
 have hl2:(rowP (mulR p q i) (coP p i) q i (k+1)).length=(rowP (mulR p q i) (coP p i) q i k).length:=by simp
 simp only[mulT.eq_1,hl2]
 refine ar_ [] rfl rfl rfl ?_ (fun hs=>au_f) (fun hs=>?_)
 ·repeat' (first|exact ShrL.nil|refine ShrL.cons rfl rfl rfl rfl (by first|(simp)|rfl|(simp;done)|(simp <;> omega)) ?_)
 ·repeat' (first|exact ap_|refine al_ rfl rfl rfl rfl ?_ ?_)
  all_goals (first|(exact aD_ hs hst2 (aI_ _))|exact au_e)
 have hge:k=q.length:=by
  have:¬k< q.length:=by simpa using h2
  omega
 subst hge
 refine av_ ⟨(),trivial,?_⟩
 simp only[mulS.eq_1,hst]
 exact s_e []
 rintro _ _
 simp only[mulS.eq_1]
 refine r_m 2 ?_
 refine a_z ?_
 refine⟨i+1,by omega,hlt,?_⟩
 exact s_e []
 have hge:i=p.length:=by
  have:¬i< p.length:=by simpa using h
  omega
 subst hge
 refine av_ ⟨(),trivial,?_⟩
 simp only[mulS.eq_1]
 exact s_e []
 rintro _ _
 simp only[mulS.eq_1]
 have hfull:List.take (mulR p q p.length).length (List.drop 0 (pE (mulR p q p.length)))=pE (mulR p q p.length):=by
  rw[List.drop_zero,List.take_of_length_le (by simp)]
 have hfin:mulP p q=trimQ (mulR p q p.length):=by
  unfold mulP;rw[if_neg (by rintro(h|h);exact hp0 h;exact hq0 h)]
 rw[hfin]
 refine s_r 3 ?_
 refine a_1 ?_
 refine o_1 (.callS1 rfl rfl rfl (.shut rfl d_n (.nil)) rfl ((by rw[hfull];exact cI_ (mulR p q p.length) (by simp;omega)))) ?_
 refine a_z ?_
 exact aj_ (t_e (at_ _))
theorem os_Clone(l:List Rat)(h0:l≠[])(hl:l.length≤1099511627776):OSpec Tryz.prog 184 [.arr (pE l)] 35 3 (pE l):=by
 have hne:pE l≠[]:=by
  intro e
  exact h0 (List.length_eq_zero_iff.1 (by rw[←lw_,e];rfl))
 refine OSpec.enter Tryz.func184 rfl (by kernel_rfl) rfl rfl rfl ?_ ?_ rfl ?_
 exact aa_ (aX_ (aI_ _)) ab_
 exact aI_ l
 refine r_z 1 ?_
 refine ac_ (s_r 2 ?_)
 refine a_1 ?_
 first|refine aw_ (.nilq_v rfl rfl te_55.h) rfl rfl ?_|refine aw_ (.nilq_arr rfl (hne) rfl te_55.h) rfl rfl ?_
 refine an_ ?_
 refine cF ?_
 ·refine ah_ (s_r 4 ?_)
  refine a_2 ?_
  refine o_2 (.append_l rfl rfl rfl te_55.h rfl rfl rfl rfl rfl d_o (by first|exact c3_ _|exact c2_ _|exact cO_ _|exact c5_ _|exact cS_ _|assumption|rfl|simp) (by first|rfl|exact c3_ _|exact c2_ _|exact cO_ _|exact c5_ _|exact cS_ _|simp) rfl (.arr (fZ_ _)) tz_35.h rfl tb_35.h d_o (by first|(simp[maxLen];done)|(simp[maxLen];omega))) ?_
  refine a_z ?_
  exact aj_ (FinO.tmp rfl rfl rfl (by simp))
theorem os_Trim(l:List Rat)(h0:trimQ l≠[])(hl:l.length≤1099511627776):OSpec Tryz.prog 99 [.arr (pE l)] 35 3 (pE (trimQ l)):=by
 refine OSpec.enter Tryz.func99 rfl (by kernel_rfl) rfl rfl rfl ?_ ?_ rfl ?_
 exact aa_ (aX_ (aI_ _)) ab_
 exact aI_ _
 refine r_z 1 ?_
 refine r_z 3 ?_
 refine aU_ (trS l) (fun n=>n≤l.length∧trimQ l=l.take n) ?_ ?_
 refine ag_ (ax_ (trS l) (fun n=>n) (fun n=>n≤l.length∧trimQ l=trimQ (l.take n)) l.length ⟨Nat.le_refl _,by rw[List.take_length]⟩ ?_ ?_)
 simp only[trS.eq_1]
 exact s_e []
 rintro n ⟨hn,ht⟩
 rw[trS.eq_1]
 cases n with
 |zero=>exact absurd (ht.trans rfl) h0
 |succ n=>
  obtain⟨q,hq⟩:∃q,l[n]?=some q:=⟨_,List.getElem?_eq_getElem (by omega)⟩
  have hq':(pE l)[(((n+1:Nat):Int)- 1).toNat]?=some (qC q):=by
   rw[show(((n+1:Nat):Int)- 1).toNat=n by omega];exact bD_ hq
  have hs:trimQ (l.take (n+1))=if q=0 then trimQ (l.take n) else l.take (n+1):=by
   rw[cD_ hq,ft_]
  refine ac_ (s_r 11 ?_)
  refine a_3 ?_
  refine y_g rfl (by simp <;> omega) (.move rfl) ?_
  refine y_g rfl (by simp <;> omega) (.move rfl) ?_
  refine y_g rfl (by simp <;> omega) (.bin rfl rfl (gP_ (by omega))) ?_
  first|refine y_g rfl (by simp <;> omega) (.index_l rfl rfl (by omega) (by omega) te_55.h) ?_|refine y_g rfl (by simp <;> omega) (.index_a rfl rfl (by omega) hq' rfl te_55.h) ?_
  first|refine y_g rfl (by simp <;> omega) (.load_l rfl rfl hq' tg_35.h ts_35.h (nle rfl)) ?_|refine y_g rfl (by simp <;> omega) (.load_a rfl hq' tg_35.h ts_35.h (nle rfl)) ?_
  refine y_g rfl (by simp <;> omega) (.call rfl rfl rfl (bI_ q)) ?_
  refine y_g rfl (by simp <;> omega) (.bin rfl rfl a9_) ?_
  refine o_0 (.pickT rfl (by simp <;> omega) rfl) ?_
  refine an_ ?_
  refine am_ rfl (fun h=>?_) (fun h=>?_)
  have h0:q=0:=by
   have h1:sgZ q.num=0:=by simpa using h
   exact sgZ_num_eq.1 h1
  refine ah_ (ag_ (r_m 3 ?_))
  refine a_z ?_
  refine⟨n,Nat.lt_succ_self n,⟨by omega,?_⟩,?_⟩
  rw[ht,hs,if_pos h0]
  simp only[trS.eq_1]
  exact s_e []
  have h0:q≠0:=by
   intro e
   have h1:¬sgZ q.num=0:=by simpa using h
   exact h1 (sgZ_num_eq.2 e)
  refine av_ ⟨n+1,⟨hn,?_⟩,?_⟩
  rw[ht,hs,if_neg h0]
  simp only[trS.eq_1]
  exact s_e []
 rintro n ⟨hn,ht⟩
 rw[trS.eq_1]
 rw[ht] at h0
 have hcl:=os_Clone (l.take n) h0 (by simp;omega)
 refine s_r 5 ?_
 refine a_2 ?_
 refine o_0 (.sa_h rfl rfl (h:=n) rfl (by simp;omega) te_55.h (fZ_ _)) ?_
 refine o_1 (.callO rfl rfl rfl ((by rw[mW_];exact hcl))) ?_
 refine a_z ?_
 refine aj_ ?_
 rw[ht]
 exact FinO.tmp rfl rfl rfl (by simp)
def dvS(q:List Rat)(lead:Rat):Nat×List Rat×List Rat→AState
 |(c,u,o)=>⟨[(0,.lsl 1 0 o.length none 3),(1,.arr (pE q)),(4,.lsl 2 0 u.length (some u.length) 3),(6,.lptr 3 0 0),(7,i64 ((c:Int)- 1))],[(1,some ⟨35,3,pE o⟩),(2,some ⟨35,3,pE u⟩),(3,some ⟨35,3,[qC lead]⟩)],4,82⟩
def dvT(q:List Rat)(lead:Rat)(n:Nat)(u:List Rat)(k:Rat):Nat×List Rat→AState
 |(i,o)=>⟨[(0,.lsl 1 0 o.length none 3),(1,.arr (pE q)),(4,.lsl 2 0 u.length (some u.length) 3),(6,.lptr 3 0 0),(7,i64 n),(8,.lptr 4 0 0),(55,.arr (pE q)),(56,i64 q.length),(57,i64 i)],[(1,some ⟨35,3,pE o⟩),(2,some ⟨35,3,pE u⟩),(3,some ⟨35,3,[qC lead]⟩),(4,some ⟨35,3,[qC k]⟩)],5,82⟩
theorem fe_(p q:List Rat)(s t:Nat)(hp:bdL p s)(hq:bdL q t)(hs:1≤s)(ht:1≤t)(h:2^ ((trimQ p).length+1- (trimQ q).length) * (s+2* t+1)≤137438953472)(hq0:trimQ q≠[])(hp1:p.length≤274877906944)(hq1:q.length≤274877906944):FSpec Tryz.prog 227 [.arr (pE p),.arr (pE q)] (.tup [.arr (pE (divP p q).1),.arr (pE (divP p q).2)]):=by
 have hlp:=a2_ p
 have hlq:=a2_ q
 have hql:=List.length_pos_iff.2 hq0
 have hg:(pE (trimQ q))[(((trimQ q).length:Int)- 1).toNat]?=some (qC (leadP q)):=by
  rw[show(((trimQ q).length:Int)- 1).toNat=(trimQ q).length- 1 by omega];exact bD_ (bH_ (by omega))
 have hne:=b9_ hq0
 obtain⟨m,hm⟩:∃m,m=(trimQ p).length+1- (trimQ q).length:=⟨_,rfl⟩
 have hmx:(if (0:Int)>((trimQ p).length:Int)- (trimQ q).length+1 then(0:Int) else((trimQ p).length:Int)- (trimQ q).length+1)=(m:Int):=by split <;> omega
 have hB:divB (trimQ q) (leadP q) 137438953472 m (List.replicate m 0) (trimQ p):=by
  refine⟨s,t,bE_ (fun x hx=>hp x (bl_ hx)) hs,bE_ (fun x hx=>hq x (bl_ hx)) ht,hq _ (bl_ (List.mem_of_getElem? (bH_ (n:=(trimQ q).length- 1) (by omega)))),ht,fun n=>?_,by rw[hm];exact h⟩
  have:coP (List.replicate m 0) n=0:=by
   unfold coP
   rw[List.getD_eq_getElem?_getD,List.getElem?_replicate]
   split <;> rfl
  rw[this];decide
 have hdv:divP p q=(trimQ (divR (trimQ q) (leadP q) m (List.replicate m 0) (trimQ p)).1,trimQ (divR (trimQ q) (leadP q) m (List.replicate m 0) (trimQ p)).2):=by rw[hm];rfl
 rw[hdv]
 refine f_n Tryz.func227 ?_ ?_
 exact aa_ (at_ p) (aa_ (at_ q) ab_)
 refine r_z 2 ?_
 by_cases hp0:trimQ p=[]
 ·have hm0:m=0:=by rw[hm,hp0];simp;omega
  subst hm0
  rw[hp0] at hmx⊢
  have htp:=cI_ p (by omega)
  rw[hp0] at htp
  refine r_c 6 (htp) ?_
  refine c_s (cI_ q (by omega)) ?_
  refine a_z ?_
  refine s_r 8 ?_
  refine a_4 ?_
  refine i_x hg ?_
  refine l_x hg ?_
  refine a_z ?_
  refine s_r 9 ?_
  refine a_7 ?_
  refine o_1 (.makeSlice (l:=0) (c:=0) (by rw[←hmx];rfl) (by rw[←hmx];rfl) te_55.h tz_35.h rfl tb_35.h (by first|omega|(simp;done)|(simp;omega)) (by first|omega|(simp;done)|(simp;omega)) (by unfold maxLen;first|omega|(simp;done)|(simp;omega))) ?_
  refine a_z ?_
  refine ac_ (r_z 6 ?_)
  refine aB_ (fun _:Unit=>⟨[(0,.arr (pE [])),(4,.lsl 2 0 0 (some 0) 3)],[(2,some ⟨35,3,[]⟩)],3,82⟩) (fun _=>True) ?_ ?_
  refine ag_ (ax_ (fun _:Unit=>⟨[(0,.arr (pE [])),(4,.lsl 2 0 0 (some 0) 3),(7,i64 (0- ((trimQ q).length:Int)))],[(2,some ⟨35,3,[]⟩)],3,82⟩) (fun _=>0) (fun _=>True) () trivial ?_ ?_)
  refine ar_ [(2,4)] rfl rfl rfl au_r (fun hs=>au_f) (fun hs=>?_)
  ·repeat' (first|exact ap_|refine al_ rfl rfl rfl rfl ?_ ?_)
   all_goals (first|(exact CvLL.nil)|exact au_e)
  rintro _ _
  refine ac_ (r_z 2 ?_)
  refine am_ rfl (fun h1=>?_) (fun h1=>?_)
  exact absurd h1 (by simp;omega)
  refine av_ ⟨(),trivial,?_⟩
  refine ar_ [] rfl rfl rfl au_r (fun hs=>au_f) (fun hs=>?_)
  ·repeat' (first|exact ap_|refine al_ rfl rfl rfl rfl ?_ ?_)
   all_goals (first|(exact CvLL.nil)|exact au_e)
  rintro _ _
  refine s_r 6 ?_
  refine a_1 ?_
  refine o_1 (.callS1 rfl rfl rfl (.shut rfl d_n (.nil)) rfl ((cI_ [] (by simp)))) ?_
  refine c_s (cI_ [] (by simp)) ?_
  refine a_z ?_
  refine aj_ (Fin.many ⟨_,_,rfl,rfl,⟨_,_,rfl,rfl,rfl⟩⟩ (nle rfl) ?_)
  exact af_ (ak_ as_ (at_ _)) (af_ (ak_ as_ (at_ _)) ao_)
 have hpl:=List.length_pos_iff.2 hp0
 have hto:=os_Trim p hp0 (by omega)
 have hdl:=eL_ (trimQ q) (leadP q) m (List.replicate m 0) (trimQ p)
 have hend:=nv_ hB
 refine s_r 6 ?_
 refine a_1 ?_
 refine o_1 (.callO rfl rfl rfl (hto)) ?_
 refine c_s (cI_ q (by omega)) ?_
 refine a_z ?_
 refine AWp.ent (st':=⟨[(0,.lsl 1 0 (trimQ p).length none 3),(1,.arr (pE (trimQ q)))],[(1,some ⟨35,3,pE (trimQ p)⟩)],2,82⟩) ?_ ?_
 exact s_e [(1,0)]
 refine s_r 8 ?_
 refine a_4 ?_
 refine i_x hg ?_
 refine l_x hg ?_
 refine a_z ?_
 refine s_r 9 ?_
 refine a_7 ?_
 refine o_1 (.makeSlice (l:=m) (c:=m) (by rw[←hmx];rfl) (by rw[←hmx];rfl) te_55.h tz_35.h rfl tb_35.h (by first|omega|(simp;done)|(simp;omega)) (by first|omega|(simp;done)|(simp;omega)) (by unfold maxLen;first|omega|(simp;done)|(simp;omega))) ?_
 refine a_z ?_
 refine ac_ (r_z 6 ?_)
 refine aB_ (fun x:List Rat×List Rat=>⟨[(0,.lsl 1 0 x.2.length none 3),(4,.lsl 2 0 x.1.length (some x.1.length) 3)],[(1,some ⟨35,3,pE x.2⟩),(2,some ⟨35,3,pE x.1⟩)],3,82⟩) (fun x=>x=divR (trimQ q) (leadP q) m (List.replicate m 0) (trimQ p)) ?_ ?_
 refine ag_ ?_
 by_cases hab:(trimQ p).length< (trimQ q).length
 have hm0:m=0:=by omega
 subst hm0
 refine ax_ (fun _:Unit=>⟨[(0,.lsl 1 0 (trimQ p).length none 3),(4,.lsl 2 0 0 (some 0) 3),(7,i64 (((trimQ p).length:Int)- ((trimQ q).length:Int)))],[(1,some ⟨35,3,pE (trimQ p)⟩),(2,some ⟨35,3,[]⟩)],3,82⟩) (fun _=>0) (fun _=>True) () trivial ?_ ?_
 refine ar_ [(1,0),(2,4)] rfl rfl rfl au_r (fun hs=>au_f) (fun hs=>?_)
 ·repeat' (first|exact ap_|refine al_ rfl rfl rfl rfl ?_ ?_)
  all_goals (first|(exact CvLL.nil)|exact au_e)
 rintro _ _
 refine ac_ (r_z 2 ?_)
 refine am_ rfl (fun h1=>?_) (fun h1=>?_)
 exact absurd h1 (by simp;omega)
 refine av_ ⟨([],trimQ p),rfl,?_⟩
 exact s_f []
 refine ax_ (fun x:Nat×List Rat×List Rat=>dvS (trimQ q) (leadP q) x) (fun x=>x.1) (fun x=>x.1≤m∧x.2.1.length=m∧x.2.2.length=(trimQ p).length∧divB (trimQ q) (leadP q) 137438953472 x.1 x.2.1 x.2.2∧divR (trimQ q) (leadP q) x.1 x.2.1 x.2.2=divR (trimQ q) (leadP q) m (List.replicate m 0) (trimQ p)) (m,List.replicate m 0,trimQ p) ⟨Nat.le_refl _,by simp,rfl,hB,rfl⟩ ?_ ?_
 simp only[dvS.eq_1]
 have hm1:((trimQ p).length:Int)- (trimQ q).length=(m:Int)- 1:=by omega
 rw[hm1]
 refine ar_ [(1,0),(2,4),(3,6)] rfl rfl rfl au_r (fun hs=>au_f) (fun hs=>?_)
 ·repeat' (first|exact ap_|refine al_ rfl rfl rfl rfl ?_ ?_)
  all_goals (first|(exact CvLL.zeros hs _)|exact au_e)
 rintro⟨c,u,o⟩ ⟨hc,hu,ho,hb,hr⟩
 simp only at hc hu ho hb hr
 simp only[dvS.eq_1]
 cases c with
 |zero=>
  refine ac_ (r_z 2 ?_)
  refine am_ rfl (fun h1=>?_) (fun h1=>?_)
  exact absurd h1 (by simp)
  refine av_ ⟨(u,o),hr,?_⟩
  exact s_e []
 |succ n=>
  obtain⟨B,tt,hb1,hb2,hb3,hb4⟩:=oO_ hb
  have hcn:((n+1:Nat):Int)- 1=(n:Int):=by omega
  rw[hcn]
  refine ac_ (r_z 2 ?_)
  refine am_ rfl (fun h1=>?_) (fun h1=>?_)
  refine ah_ ?_
  obtain⟨k,hk⟩:∃k,k=coP o (n+(trimQ q).length- 1) / leadP q:=⟨_,rfl⟩
  have hst:=mp_ hb
  rw[divR] at hr
  rw[←hk] at hst hr
  have hgo:(pE o)[(0+(((n:Nat):Int)+((trimQ q).length:Nat)- 1).toNat)]?=some (qC (coP o (n+(trimQ q).length- 1))):=by
   rw[show 0+(((n:Nat):Int)+((trimQ q).length:Nat)- 1).toNat=n+(trimQ q).length- 1 by omega];exact bD_ (bd_ (by omega))
  have hov:=ea_ (coP o (n+(trimQ q).length- 1)) (leadP q) hne (by have:=hb1 (n+(trimQ q).length- 1);omega)
  rw[←hk] at hov
  have hgu:(pE u)[0+((n:Nat):Int).toNat]?=some (qC (coP u n)):=by
   rw[show 0+((n:Nat):Int).toNat=n by omega];exact bD_ (bd_ (by omega))
  refine ac_ (ag_ (ac_ (r_d hmix 12 ?_)))
  refine a_7 ?_
  first|refine aw_ (.load_l rfl rfl hgo tg_35.h ts_35.h (nle rfl)) rfl rfl ?_|refine aw_ (.load_a rfl hgo tg_35.h ts_35.h (nle rfl)) rfl rfl ?_
  refine c_s (hov) ?_
  refine a_2 ?_
  refine an_ (n_k ?_)
  refine s_r 5 ?_
  refine a_4 ?_
  refine o_1n (.store rfl rfl hgu rfl rfl rfl ts_35.h (nle rfl)) ?_
  refine an_ ?_
  have hsu:(pE u).set (0+((n:Nat):Int).toNat) (qC k)=pE (u.set n k):=by
   rw[show 0+((n:Nat):Int).toNat=n by omega,iu_]
  have hlu:(u.set n k).length=u.length:=by simp
  refine ac_ (r_c 3 (bI_ k) ?_)
  refine a_z ?_
  refine am_ rfl (fun h2=>?_) (fun h2=>?_)
  have h0:k=0:=by
   have h2:sgZ k.num=0:=by simpa using h2
   exact sgZ_num_eq.1 h2
  rw[if_pos h0] at hst hr
  refine av_ (r_m 3 ?_)
  refine a_z ?_
  refine⟨(n,u.set n k,o),Nat.lt_succ_self n,⟨by omega,by simp only;omega,ho,hst,hr⟩,?_⟩
  simp only[dvS.eq_1,hlu]
  exact s_f []
  have h0:k≠0:=by
   intro e
   have h2:¬sgZ k.num=0:=by simpa using h2
   exact h2 (sgZ_num_eq.2 e)
  rw[if_neg h0] at hst hr
  refine ah_ (r_z 3 ?_)
  refine AWp.cutB (fun _:Unit=>⟨[(0,.lsl 1 0 o.length none 3),(1,.arr (pE (trimQ q))),(4,.lsl 2 0 u.length (some u.length) 3),(6,.lptr 3 0 0),(7,i64 n)],[(1,some ⟨35,3,pE (rowM o k (trimQ q) n (trimQ q).length)⟩),(2,some ⟨35,3,pE (u.set n k)⟩),(3,some ⟨35,3,[qC (leadP q)]⟩)],4,82⟩) (fun _=>True) ?_ ?_
  refine ag_ (ax_ (fun i:Nat=>dvT (trimQ q) (leadP q) n (u.set n k) k (i,rowM o k (trimQ q) n i)) (fun i=>(trimQ q).length- i) (fun i=>i≤(trimQ q).length) 0 (Nat.zero_le _) ?_ ?_)
  simp only[dvT.eq_1,rowM,hlu]
  exact s_f [(4,8)]
  rintro i hi
  simp only[dvT.eq_1]
  refine r_z 1 ?_
  refine ac_ (am_ rfl (fun h3=>?_) (fun h3=>?_))
  refine ah_ ?_
  have hlt2:i< (trimQ q).length:=by simpa using h3
  have hgq:(pE (trimQ q))[((i:Nat):Int).toNat]?=some (qC (coP (trimQ q) i)):=bD_ (bd_ hlt2)
  have hcur:qs (coP (rowM o k (trimQ q) n i) (n+i))≤B:=by
   rw[gj_ _ _ _ _ _ _ (by omega)];exact hb1 _
  have hkq:qs k≤B+tt:=by
   have e1:=dy_ (coP o (n+(trimQ q).length- 1)) (leadP q)
   have e2:=hb1 (n+(trimQ q).length- 1)
   rw[hk];omega
  have hkm:=bZ_ k (coP (trimQ q) i)
  have hqi:=hb2 i
  have hik:n+i< (rowM o k (trimQ q) n i).length:=by simp;omega
  have hgr:(pE (rowM o k (trimQ q) n i))[(0+(((n:Nat):Int)+(i:Nat)).toNat)]?=some (qC (coP (rowM o k (trimQ q) n i) (n+i))):=by
   rw[show 0+(((n:Nat):Int)+(i:Nat)).toNat=n+i by omega];exact bD_ (bd_ hik)
  refine ac_ (ag_ (s_r 6 ?_))
  refine a_1 ?_
  refine i_x hgq ?_
  refine l_x hgq ?_
  refine a_z ?_
  refine r_d hmix 16 ?_
  refine a_8 ?_
  refine a_1 ?_
  first|refine aw_ (.load_l rfl rfl hgr tg_35.h ts_35.h (nle rfl)) rfl rfl ?_|refine aw_ (.load_a rfl hgr tg_35.h ts_35.h (nle rfl)) rfl rfl ?_
  refine c_s (dd_ k (coP (trimQ q) i) (by omega)) ?_
  refine c_s (or_ (coP (rowM o k (trimQ q) n i) (n+i)) (k* coP (trimQ q) i) (by omega)) ?_
  refine a_1 ?_
  refine o_1n (.store rfl rfl hgr rfl rfl rfl ts_35.h (nle rfl)) ?_
  refine an_ (n_k ?_)
  refine r_m 2 ?_
  refine a_z ?_
  refine⟨i+1,by omega,hlt2,?_⟩
  have hst2:(pE (rowM o k (trimQ q) n i)).set (0+(((n:Nat):Int)+(i:Nat)).toNat) (qC (coP (rowM o k (trimQ q) n i) (n+i)- k* coP (trimQ q) i))=pE (rowM o k (trimQ q) n (i+1)):=by
   rw[show 0+(((n:Nat):Int)+(i:Nat)).toNat=n+i by omega,iu_];rfl
  have hl2:(rowM o k (trimQ q) n (i+1)).length=(rowM o k (trimQ q) n i).length:=by simp
  simp only[dvT.eq_1,hl2]
  refine ar_ [] rfl rfl rfl ?_ (fun hs=>au_f) (fun hs=>?_)
  ·repeat' (first|exact ShrL.nil|refine ShrL.cons rfl rfl rfl rfl (by first|(simp)|rfl|(simp;done)|(simp <;> omega)) ?_)
  ·repeat' (first|exact ap_|refine al_ rfl rfl rfl rfl ?_ ?_)
   all_goals (first|(exact aD_ hs hst2 (aI_ _))|exact au_e)
  have hge:i=(trimQ q).length:=by
   have:¬i< (trimQ q).length:=by simpa using h3
   omega
  subst hge
  refine av_ ⟨(),trivial,?_⟩
  rw[dg_,hlu]
  exact s_e []
  rintro _ _
  refine r_m 3 ?_
  refine a_z ?_
  refine⟨(n,u.set n k,rowM o k (trimQ q) n (trimQ q).length),Nat.lt_succ_self n,⟨by omega,by simp only;omega,by simp only;rw[dg_];exact ho,hst,hr⟩,?_⟩
  simp only[dvS.eq_1,hlu,dg_]
  exact s_e []
  exact absurd h1 (by simp)
 rintro⟨u,o⟩ hx
 rw[←hx] at hdl hend⊢
 simp only at hdl hend⊢
 have hlu:u.length≤274877906945:=by rw[hdl.1];simp;omega
 have hfu:List.take u.length (List.drop 0 (pE u))=pE u:=by rw[List.drop_zero,List.take_of_length_le (by simp)]
 have hfo:List.take o.length (List.drop 0 (pE o))=pE o:=by rw[List.drop_zero,List.take_of_length_le (by simp)]
 refine s_r 6 ?_
 refine a_1 ?_
 refine o_1 (.callS1 rfl rfl rfl (.shut rfl d_n (.nil)) rfl ((by rw[hfu];exact cI_ u (by omega)))) ?_
 refine a_1 ?_
 refine o_1 (.callS1 rfl rfl rfl (.shut rfl d_n (.nil)) rfl ((by rw[hfo];exact cI_ o (by rw[hdl.2];omega)))) ?_
 refine a_z ?_
 refine aj_ (Fin.many ⟨_,_,rfl,rfl,⟨_,_,rfl,rfl,rfl⟩⟩ (nle rfl) ?_)
 exact af_ (ak_ as_ (at_ _)) (af_ (ak_ as_ (at_ _)) ao_)
def gcS:List Rat×List Rat→AState
 |(p,q)=>⟨[(0,.arr (pE p)),(1,.arr (pE q))],[],1,21⟩
theorem rh_(p:List Rat)(q:List Rat):gcS (p,q)=⟨[(0,.arr (pE p)),(1,.arr (pE q))],[],1,21⟩:=rfl
theorem degP_neg{l:List Rat}:degP l< 0↔trimQ l=[]:=by
 unfold degP
 constructor
 intro h;exact List.length_eq_zero_iff.1 (by omega)
 intro h;rw[h];decide
theorem fs_Gcd(f:Nat)(p q g:List Rat)(h:gcdM f p q=some g)(hp1:p.length≤274877906944)(hq1:q.length≤274877906944):FSpec Tryz.prog 269 [.arr (pE p),.arr (pE q)] (.arr (pE g)):=by
 refine f_n Tryz.func269 ?_ ?_
 exact aa_ (at_ p) (aa_ (at_ q) ab_)
 refine r_z 1 ?_
 refine aU_ (fun p:List Rat=>⟨[(0,.arr (pE p))],[],1,21⟩) (fun p=>smL p∧p.length≤274877906944∧g=bf_ p) ?_ ?_
 refine ag_ (ax_ (fun x:Nat×List Rat×List Rat=>gcS x.2) (fun x=>x.1) (fun x=>gcdM x.1 x.2.1 x.2.2=some g∧x.2.1.length≤274877906944∧x.2.2.length≤274877906944) (f,p,q) ⟨h,hp1,hq1⟩ ?_ ?_)
 simp only[rh_]
 exact s_e []
 rintro⟨f,p,q⟩ ⟨h,hp1,hq1⟩
 simp only at h hp1 hq1
 simp only[rh_]
 cases f with
 |zero=>cases h
 |succ f=>
  rw[gcdM] at h
  refine ac_ (r_c 3 (bJ_ q (by omega)) ?_)
  refine a_z ?_
  refine am_ rfl (fun h1=>?_) (fun h1=>?_)
  ·have hq0:trimQ q≠[]:=by
    intro e
    have e2:=degP_neg.2 e
    simp at h1;omega
   rw[if_neg hq0] at h
   split at h
   case isFalse=>cases h
   case isTrue hs=>
   have hl:=gE_ (p:=p) (q:=q)
   have hm:=hm_ (divP p q).2
   refine ah_ (ag_ (r_c 8 (fe_ p q (mxL p) (mxL q) (ce_ p) (ce_ q) (bP_ p) (bP_ q) hs.1 hq0 hp1 hq1) ?_))
   refine a_z ?_
   refine r_m 5 ?_
   refine c_s (kJ_ (divP p q).2 (nw_ hs hq0).2 (by omega)) ?_
   refine a_z ?_
   refine⟨(f,q,bf_ (divP p q).2),Nat.lt_succ_self f,⟨h,hq1,by simp only;omega⟩,?_⟩
   simp only[rh_]
   exact s_e []
  ·have hq0:trimQ q=[]:=by
    refine degP_neg.1 ?_
    simp at h1;omega
   rw[if_pos hq0] at h
   split at h
   case isFalse=>cases h
   case isTrue hs=>
   cases h
   refine av_ ⟨p,⟨hs,hp1,rfl⟩,?_⟩
   exact s_e []
 rintro p ⟨hs,hp1,rfl⟩
 refine r_c 3 (kJ_ p hs (by omega)) ?_
 refine a_z ?_
 exact aj_ (t_e (at_ _))

theorem kC_(l:List Rat)(hl:l.length≤281474976710656):GSpec Tryz.prog 268 [bP l] (backP l):=by
 refine GSpec.enter Tryz.func268 rfl (by kernel_rfl) rfl rfl rfl ?_ ?_ rfl ?_
 exact aa_ (bw_ l) ab_
 intro k xs h
 unfold backP at h
 split at h
 cases h;exact aa_ (ad_ _) (aa_ (az_ _) ab_)
 cases h
 intro ll N E
 refine GWp.seq ?_
 refine GWp.lift ?_
 refine r_m 4 ?_
 refine a_z ?_
 refine GWp.block ?_
 refine GWp.loopS (fun m:Nat=>⟨[(0,.v (.func (.yield ll) #[] #[])),(1,bP l),(3,i64 ((m:Int)- 1))],[],1,19⟩) (fun m=>l.length- m) (fun m=>m) (fun m=>m≤l.length) l.length (Nat.le_refl _) (by simp) ?_ ?_
 exact s_e []
 intro m hm
 refine GWp.seq ?_
 refine GWp.seq ?_
 refine GWp.lift ?_
 refine r_m 2 ?_
 refine a_z ?_
 refine GWp.cond rfl (fun h=>?_) (fun h=>?_)
 ·refine GWp.skip ?_
  have hm1:1≤m:=by have:=of_decide_eq_true h;omega
  have hx':(pE l)[((m:Int)- 1).toNat]?=some (qC (coP l (m- 1))):=by rw[show((m:Int)- 1).toNat=m- 1 by omega];exact bD_ (bd_ (by omega))
  refine GWp.seq ?_
  refine GWp.block ?_
  refine GWp.seq ?_
  refine GWp.regY (fr2:=[(0,.v (.func (.yield ll) #[] #[])),(1,bP l),(3,i64 ((m:Int)- 1)),(11,.v (.func (.yield ll) #[] #[])),(12,i64 ((m:Int)- 1)),(16,.agg (qC (coP l (m- 1))))]) (hp2:=[]) (nx2:=1) 6 rfl rfl rfl rfl rfl rfl ?_ rfl rfl rfl ?_ ?_ ?_
  refine o_0 (.move rfl) ?_
  refine o_0 (.move rfl) ?_
  first|refine aw_ (.load_l1 rfl rfl rfl tg_55.h rfl) rfl rfl ?_|refine aw_ (.load_a1 rfl rfl tg_55.h rfl) rfl rfl ?_
  refine o_0 (.move rfl) ?_
  refine i_x hx' ?_
  refine l_x hx' ?_
  refine an_ ?_
  refine SEntT.to [] rfl rfl rfl au_r (fun hs=>au_f) (fun hs=>au_h)
  rotate_left 2
  intro go
  refine o_0 (.un rfl jw_) ?_
  refine an_ ?_
  rotate_left
  unfold backP
  rw[if_pos (by omega)]
  have e1:((l.length- 1- (l.length- m):Nat):Int)=(m:Int)- 1:=by omega
  have e2:l.length- 1- (l.length- m)=m- 1:=by omega
  rw[e1,e2]
  rfl
  exact aa_ (ad_ _) (aa_ (az_ _) ab_)
  cases go with
  |false=>
   refine GWp.cond rfl (fun h=>?_) (fun h=>?_)
   exact GWp.ret ⟨.inr rfl,fun h=>by cases h⟩
   cases h
  |true=>
   refine GWp.cond rfl (fun h=>?_) (fun h=>?_)
   cases h
   refine GWp.skip ?_
   refine GWp.lift ?_
   refine r_m 3 ?_
   refine a_z ?_
   refine⟨rfl,m- 1,by omega,by omega,by omega,?_⟩
   exact s_e []
 refine GWp.exit ⟨.inl rfl,fun _=>?_⟩
 have:m=0:=by have:=of_decide_eq_false h;omega
 subst this
 unfold backP
 rw[if_neg (by omega)]
theorem kU_(l:List Rat):FSpec Tryz.prog 220 [.arr (pE l)] (.clos 268 [] [bP l]):=by
 refine f_n Tryz.func220 ?_ ?_
 exact aa_ (at_ l) ab_
 refine r_z 2 ?_
 refine r_z 2 ?_
 refine aj_ (⟨.inr rfl,[_],⟨_,[],rfl,rfl,rfl⟩,?_⟩)
 exact Cv.clos ao_ (af_ (Cv.boxp as_ rfl (fun _ _ h=>by cases h) rfl (aa_ (at_ l) ab_)) ao_)
def hoS(p:List Rat)(g:Nat)(cap:List AV)(w:Nat→Rat):Nat→AState
 |k=>⟨[(4,.lptr 1 0 0),(5,.aptr [[.clos g [] cap]] 0 0),(6,.lptr 2 0 0),(10,.clos 268 [] [bP p])],[(1,some ⟨35,3,[qC (w k)]⟩),(2,some ⟨35,3,[zC]⟩)],3,18⟩
theorem pA_(p:List Rat)(g:Nat)(cap:List AV)(w:Nat→Rat)(hl:p.length≤281474976710656)(hcap:∀c∈cap,Closed c)(hg:∀k,k< p.length→FSpec Tryz.prog g ((.agg (qC (w k)):: .agg (qC (coP p (p.length- 1- k)))::cap).map coe) (.agg (qC (w (k+1))))):FSpec Tryz.prog 145 [.arr (pE p),.agg (qC (w 0)),.clos g [] cap] (.agg (qC (w p.length))):=by
 have hb:=kU_ p
 have hgs:=kC_ p hl
 have hcc:Closed (.clos g [] cap):=aT_ ab_ hcap
 have hcc2:Closed (.aptr [[.clos g [] cap]] 0 0):=ai_ (aa_ hcc ab_)
 have hcl2:Closed (.clos 268 [] [bP p]):=aT_ ab_ (aa_ (bw_ p) ab_)
 refine f_n Tryz.func145 ?_ ?_
 exact aa_ (at_ p) (aa_ (az_ _) (aa_ hcc ab_))
 refine r_z 3 ?_
 refine AWp.ent (st':=⟨[(0,.arr (pE p)),(4,.lptr 1 0 0),(5,.aptr [[.clos g [] cap]] 0 0),(6,.lptr 2 0 0)],[(1,some ⟨35,3,[qC (w 0)]⟩),(2,some ⟨35,3,[zC]⟩)],3,18⟩) ?_ ?_
 have:=aa_ hcc ab_
 exact s_f [(1,4),(2,6)]
 refine ac_ (r_c 2 (hb) ?_)
 refine an_ ?_
 refine aB_ (fun _:Unit=>⟨[(4,.lptr 1 0 0),(6,.lptr 2 0 0)],[(1,some ⟨35,3,[qC (w p.length)]⟩),(2,some ⟨35,3,[zC]⟩)],3,18⟩) (fun _=>True) ?_ ?_
 refine ag_ (AWp.rangeFunc (α:=Nat) (γ:=Empty) p.length (hoS p g cap w) (fun k=>k) (fun k=>k≤p.length) (fun e=>nomatch e) (fun _ e=>nomatch e) 0 rfl hgs rfl rfl ?_ (fun _=>⟨rfl,rfl⟩) (fun e=>nomatch e) (Nat.zero_le _) rfl (fun _ h=>h) ?_ ?_ ?_ ?_ (fun _ e=>nomatch e))
 intro k xs hT
 unfold backP at hT
 split at hT
 cases hT;rfl
 cases hT
 rw[hoS.eq_1]
 refine SEntT.to [] rfl rfl rfl au_r (fun hs=>au_f) (fun hs=>au_h)
 exact aa_ (bw_ p) ab_
 ·intro l k xs hk hT
  unfold backP at hT
  split at hT
  rotate_left
  cases hT
  rename_i hlt
  cases hT
  show AWp _ _ _ _ ⟨[(12,.agg (qC (coP p (p.length- 1- k)))),(11,i64 (p.length- 1- k:Nat)),(4,.lptr 1 0 0),(5,.aptr [[.clos g [] cap]] 0 0),(6,.lptr 2 0 0),(10,.clos 268 [] [bP p]),(1004,.lptr 1 0 0),(1005,.aptr [[.clos g [] cap]] 0 0),(1006,.lptr 2 0 0),(1010,.clos 268 [] [bP p])],[(1,some ⟨35,3,[qC (w k)]⟩),(2,some ⟨35,3,[zC]⟩)],3,18⟩
  refine r_m 2 ?_
  refine a_z ?_
  refine ag_ (r_m 5 ?_)
  refine c_s (hg k hlt) ?_
  refine a_z ?_
  refine⟨k+1,⟨hlt,rfl⟩,?_⟩
  show SEntT _ ⟨[(1004,.lptr 1 0 0),(1005,.aptr [[.clos g [] cap]] 0 0),(1006,.lptr 2 0 0),(1010,.clos 268 [] [bP p])],[(1,some ⟨35,3,[qC (w (k+1))]⟩),(2,some ⟨35,3,[zC]⟩)],3,18⟩
  refine SEntT.to [] rfl rfl rfl au_r (fun hs=>au_f) (fun hs=>au_h)
 intro k hk hT
 unfold backP at hT
 split at hT
 cases hT
 refine⟨(),trivial,?_⟩
 rw[hoS.eq_1]
 have h1:k=p.length:=by omega
 subst h1
 exact s_e []
 rintro _ _
 refine r_z 2 ?_
 exact aj_ (c_e (az_ _))
theorem fs_Eval1(v c x:Rat)(h1:qs v+qs x≤549755813888)(h2:qs (v* x)+qs c≤549755813888):FSpec Tryz.prog 146 [.agg (qC v),.agg (qC c),bQ x] (.agg (qC (v* x+c))):=by
 refine f_n Tryz.func146 ?_ ?_
 exact aa_ (az_ v) (aa_ (az_ c) (aa_ (cs_ x) ab_))
 refine r_z 3 ?_
 refine ac_ (r_d hmix 6 ?_)
 refine c_s (dd_ v x h1) ?_
 refine c_s (fT_ (v* x) c h2) ?_
 refine a_1 ?_
 refine an_ (n_k ?_)
 exact aj_ (c_e (az_ _))
theorem kT_(p:List Rat)(x:Rat)(h:dS_ p x):FSpec Tryz.prog 54 [.arr (pE p),.agg (qC x)] (.agg (qC (evalP p x))):=by
 have hw:∀k,k< p.length→FSpec Tryz.prog 146 [.agg (qC (evalP (p.drop (p.length- k)) x)),.agg (qC (coP p (p.length- 1- k))),bQ x] (.agg (qC (evalP (p.drop (p.length- (k+1))) x))):=fun k hk=>by
  have:=pI_ h k hk
  rw[r1_ hk]
  exact fs_Eval1 _ _ _ this.1 this.2
 have hh:=pA_ p 146 [bQ x] (fun k=>evalP (p.drop (p.length- k)) x) (by have:=h.2;omega) (aa_ (cs_ x) ab_) hw
 simp only[Nat.sub_zero,Nat.sub_self,List.drop_zero,List.drop_length] at hh
 rw[show evalP [] x=0 from rfl,qC0] at hh
 refine f_n Tryz.func54 ?_ ?_
 exact aa_ (at_ p) (aa_ (az_ x) ab_)
 refine r_z 2 ?_
 refine AWp.ent (st':=⟨[(0,.arr (pE p)),(3,bQ x),(4,.lptr 1 0 0)],[(1,some ⟨35,3,[zC]⟩)],2,9⟩) ?_ ?_
 exact s_e [(1,4)]
 refine r_c 5 (hh) ?_
 refine a_z ?_
 exact aj_ (c_e (az_ _))
abbrev bS(s:Sp):AV:= .aptr [spC s.1 s.2] 0 0
theorem fo_(s:Sp):Closed (bS s):=ai_ (ht_ _ _)

def coS:Nat×Nat→AState
 |(a,b)=>⟨[(2,.lptr 1 0 0),(3,.lptr 2 0 0),(4,.lptr 3 0 0)],[(1,some ⟨35,3,[qC (nQ a)]⟩),(2,some ⟨35,3,[qC (nQ b)]⟩),(3,some ⟨35,3,[zC]⟩)],4,18⟩
theorem mu_(a:Nat)(b:Nat):coS (a,b)=⟨[(2,.lptr 1 0 0),(3,.lptr 2 0 0),(4,.lptr 3 0 0)],[(1,some ⟨35,3,[qC (nQ a)]⟩),(2,some ⟨35,3,[qC (nQ b)]⟩),(3,some ⟨35,3,[zC]⟩)],4,18⟩:=rfl
theorem j0_(a b:Nat)(ha:bl a≤68719476736)(hb:bl b≤68719476736):FSpec Tryz.prog 297 [.agg (qC (nQ a)),.agg (qC (nQ b))] (.agg (qC (nQ (Nat.gcd a b)))):=by
 refine f_n Tryz.func297 ?_ ?_
 exact aa_ (az_ _) (aa_ (az_ _) ab_)
 refine r_z 3 ?_
 refine aU_ (fun _:Unit=>coS (Nat.gcd a b,0)) (fun _=>True) ?_ ?_
 refine ag_ (ax_ coS (fun x=>x.2) (fun x=>Nat.gcd x.1 x.2=Nat.gcd a b∧bl x.1≤68719476736∧bl x.2≤68719476736) (a,b) ⟨rfl,ha,hb⟩ ?_ ?_)
 simp only[mu_]
 exact s_e []
 rintro⟨u,v⟩ ⟨hg,hu,hv⟩
 simp only at hg hu hv
 rw[mu_]
 refine ac_ (r_c 3 (bI_ (nQ v)) ?_)
 refine a_z ?_
 refine am_ rfl (fun h=>?_) (fun h=>?_)
 have hv0:v≠0:=by
  intro e
  subst e
  exact absurd h (by decide)
 refine ah_ ?_
 have h1:=qs_nQ (n:=u) hu (by decide)
 have h2:=qs_nQ (n:=v) hv (by decide)
 have hq:=dy_ (nQ u) (nQ v)
 have hov:=ea_ (nQ u) (nQ v) (fun e=>hv0 (nQ_zero.1 e)) (by omega)
 have hfl:=fs_floor (nQ u/ nQ v) (by omega)
 rw[of_ u v hv0,m2_ u v hv0] at hfl
 rw[of_ u v hv0] at hov
 have h3:=qs_nQ (n:=u/ v) (k:=68719476736) (Nat.le_trans (cT_ u v) hu) (by decide)
 have hmu:=dd_ (nQ v) (nQ (u/ v)) (by omega)
 rw[nQ_mul] at hmu
 have hle:v* (u/ v)≤u:=Nat.mul_div_le u v
 have h4:=qs_nQ (n:=v* (u/ v)) (k:=68719476736) (Nat.le_trans (bR_ hle) hu) (by decide)
 have hsu:=or_ (nQ u) (nQ (v* (u/ v))) (by omega)
 rw[nQ_sub hle,show u- v* (u/ v)=u % v by have:=Nat.div_add_mod u v;omega] at hsu
 refine ag_ (r_d hmix 11 ?_)
 refine c_s (hov) ?_
 refine c_s (hfl) ?_
 refine c_s (hmu) ?_
 refine c_s (hsu) ?_
 refine a_2 ?_
 refine an_ (n_k ?_)
 refine⟨(v,u % v),Nat.mod_lt _ (by omega),⟨?_,hv,Nat.le_trans (bR_ (Nat.mod_le u v)) hu⟩,?_⟩
 rw[←hg];show Nat.gcd v (u % v)=Nat.gcd u v
 rw[Nat.gcd_comm v,Nat.gcd_comm u v,←Nat.gcd_rec]
 simp only[mu_]
 exact s_e []
 have hv0:v=0:=by
  have h1:sgZ (nQ v).num=0:=by simpa using h
  exact nQ_zero.1 (sgZ_num_eq.1 h1)
 subst hv0
 rw[Nat.gcd_zero_right] at hg
 refine av_ ⟨(),trivial,?_⟩
 rw[←hg]
 simp only[mu_]
 exact s_e []
 rintro _ _
 simp only[mu_]
 refine r_z 2 ?_
 exact aj_ (c_e (az_ _))
end Go.Proofs.YtdjfjpeoddmamaaGreatDoor
