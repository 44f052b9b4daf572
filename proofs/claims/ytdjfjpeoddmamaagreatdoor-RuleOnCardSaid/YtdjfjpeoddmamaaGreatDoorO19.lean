/- Part O19 of the proof. -/
import Derived.Test.YtdjfjpeoddmamaaGreatDoorO18
set_option linter.all false
namespace Go.Proofs.YtdjfjpeoddmamaaGreatDoor
open Go.Abs
set_option maxRecDepth 20000
theorem tB_(x:Int)(n:Nat)(hn:0< n):(sgZ x= -1∧∃p:Nat,0< p∧x* n= -(p:Int)∧x.natAbs* n=p)∨(sgZ x=0∧x* n=0∧x.natAbs* n=0)∨(sgZ x=1∧∃p:Nat,0< p∧x* n=p∧x.natAbs* n=p):=by
 rcases Int.lt_trichotomy x 0 with hx|hx|hx
 refine .inl ⟨by unfold sgZ;rw[if_neg (by omega),if_pos hx],x.natAbs* n,Nat.mul_pos (by omega) hn,?_,rfl⟩;rw[Int.natCast_mul,←Int.neg_mul];congr 1;omega;subst hx;refine .inr (.inl ⟨rfl,by simp,by simp⟩);refine .inr (.inr ⟨by unfold sgZ;rw[if_neg (by omega),if_neg (by omega)],x.natAbs* n,Nat.mul_pos (by omega) hn,?_,rfl⟩);rw[Int.natCast_mul];congr 1;omega
theorem cmp_code(a b:Rat):cmpQ a b=if sgZ a.num≠sgZ b.num∨sgZ a.num=0 then sgZ a.num- sgZ b.num- (sgZ a.num- sgZ b.num).tdiv 2 else sgZ a.num* cmpZ ((a.num.natAbs* b.den:Nat):Int) ((b.num.natAbs* a.den:Nat):Int):=by
 rw[tE_];rcases tB_ a.num b.den b.den_pos with⟨s1,p,hp,e1,f1⟩|⟨s1,e1,f1⟩|⟨s1,p,hp,e1,f1⟩<;> rcases tB_ b.num a.den a.den_pos with⟨s2,q,hq,e2,f2⟩|⟨s2,e2,f2⟩|⟨s2,q,hq,e2,f2⟩<;> rw[s1,s2,e1,e2,f1,f2]<;> unfold cmpZ <;> simp <;>(repeat' split)<;> first|rfl|omega
theorem jm_(a b:Rat)(ha:sm a)(hb:sm b):FS 25 [.agg (qC a),.agg (qC b)] (i64 (cmpQ a b)):=by
 have hs:=sm2 ha hb;have h1:=b5_ a;have h2:=bU_ a;have h3:=b5_ b;have h4:=bU_ b;have hc:=cmp_code a b;have hsa:sgZ a.num= -1∨sgZ a.num=0∨sgZ a.num=1:=by unfold sgZ;split;simp;split <;> simp
 have hsb:sgZ b.num= -1∨sgZ b.num=0∨sgZ b.num=1:=by unfold sgZ;split;simp;split <;> simp
 have hbm1:=e0_ a.num.natAbs b.den;have hbm2:=e0_ b.num.natAbs a.den;refine f_c Tryz.func25 ?_;refine r_z 3 ?_;refine aa_ (aa_ (r_d hmix 6 ?_));refine c_s (bZ_ a) ?_;refine c_s (bZ_ b) ?_;refine a_2 ?_;refine ai_ (n_k ?_);obtain⟨x,hx⟩:∃x,x=sgZ a.num:=⟨_,rfl⟩;obtain⟨y,hy⟩:∃y,y=sgZ b.num:=⟨_,rfl⟩;rw[←hx] at hsa hc⊢;rw[←hy] at hsb hc⊢
 have hq:(x- y).tdiv 2= -1∨(x- y).tdiv 2=0∨(x- y).tdiv 2=1:=by
  rcases hsa with h|h|h <;> rcases hsb with h'|h'|h' <;> rw[h,h']<;> decide
 refine aw_ (fun _:Unit=>⟨[(2,.lptr 1 0 0),(3,.lptr 2 0 0)],[(1,some ⟨35,3,[qC a]⟩),(2,some ⟨35,3,[qC b]⟩)],3,42⟩) (fun _=>x=y∧x≠0) ?_ ?_;by_cases he:x=y;refine s_r 7 ?_;refine a_4 ?_;refine y_g rfl (by simp[he]) (.move rfl) ?_;refine y_g rfl (by simp[he]) (.bin rfl rfl aU_) ?_;refine o_0 (.pickF rfl (by simp[he]) rfl) ?_;refine ai_ ?_;refine aj_ rfl (fun h=>?_) (fun h=>?_);have h0:x=0:=by simpa using h
 refine s_r 9 ?_;refine a_6 ?_;refine o_0 (.bin rfl rfl (jM_ (by decide) (by omega))) ?_;refine a_z ?_;refine af_ (aJ_ rfl ?_ (ad_ _));rw[hc,if_pos (.inr h0)];rfl;have h0:x≠0:=by simpa using h
 refine ae_ ⟨(),⟨he,h0⟩,?_⟩;exact s_e [];refine s_r 7 ?_;refine a_4 ?_;refine n_g rfl (by simp[he]) ?_;refine n_g rfl (by simp[he]) ?_;refine o_0 (.pickT rfl (by simp[he]) rfl) ?_;refine ai_ ?_;refine aj_ rfl (fun h=>?_) (fun h=>?_);refine s_r 9 ?_;refine a_6 ?_;refine o_0 (.bin rfl rfl (jM_ (by decide) (by omega))) ?_;refine a_z ?_;refine af_ (aJ_ rfl ?_ (ad_ _));rw[hc,if_pos (.inl he)];rfl;cases h;rintro _ ⟨he,h0⟩
 have hcz:cmpZ ((a.num.natAbs* b.den:Nat):Int) ((b.num.natAbs* a.den:Nat):Int)= -1∨cmpZ ((a.num.natAbs* b.den:Nat):Int) ((b.num.natAbs* a.den:Nat):Int)=0∨cmpZ ((a.num.natAbs* b.den:Nat):Int) ((b.num.natAbs* a.den:Nat):Int)=1:=by
  unfold cmpZ;split;simp;split <;> simp
 have hsx:=bZ_ a;rw[←hx] at hsx
 have hmul: -9223372036854775808≤x* cmpZ ((a.num.natAbs* b.den:Nat):Int) ((b.num.natAbs* a.den:Nat):Int)∧x* cmpZ ((a.num.natAbs* b.den:Nat):Int) ((b.num.natAbs* a.den:Nat):Int)≤9223372036854775807:=by
  rcases hsa with h|h|h <;> rcases hcz with h'|h'|h' <;> rw[h,h']<;> decide
 refine aa_ (r_d hmix 17 ?_);refine c_s (hsx) ?_;refine c_s (cz_ b (by omega)) ?_;refine c_s (ex_ a.num.natAbs b.den (by omega)) ?_;refine c_s (cz_ a (by omega)) ?_;refine c_s (ex_ b.num.natAbs a.den (by omega)) ?_;refine c_s (hG_ (a.num.natAbs* b.den) (b.num.natAbs* a.den) (by omega)) ?_;refine o_0 (.bin rfl rfl (hm_ hmul)) ?_;refine a_1 ?_;refine ai_ (n_k ?_);refine af_ (aJ_ rfl ?_ (ad_ _));rw[hc,if_neg (by omega)];rfl
theorem ps_(a:Rat):FS 97 [.agg (qC a)] (.agg (qC (absQ a))):=by
 have hc:=aI_ (absQ a);rw[qC_abs] at hc⊢;refine f_c Tryz.func97 ?_;refine r_z 2 ?_;refine aa_ (r_d hmix 8 ?_);refine c_s (cP_ false a.num.natAbs) ?_;refine a_4 ?_;refine ai_ (n_k ?_);exact af_ (c_e (hc))
theorem fs_den(a:Rat)(ha:sm a):FS 296 [.agg (qC a)] (.agg (qC ((a.den:Int):Rat))):=by
 have hw:=le_ (a.den:Int);rw[zI_nat] at hw;refine f_c Tryz.func296 ?_;refine r_z 2 ?_;refine r_c 5 (cz_ a (by unfold sm at ha;omega)) ?_;refine c_s (hw) ?_;refine a_z ?_;exact af_ (c_e (aI_ _))
theorem tj_{z q:Int}{d:Nat}(hd:0< d)(h1:q* d≤z)(h2:z< q* d+d):z/ (d:Int)=q:=by
 have hdi:(0:Int)< d:=by omega
 have a1:q≤z/ (d:Int):=(Int.le_ediv_iff_mul_le hdi).2 h1;have a2:z/ (d:Int)< q+1:=(Int.ediv_lt_iff_lt_mul hdi).2 (by rw[Int.add_mul];omega);omega
theorem qC_(z:Int)(d:Nat)(hd:0< d):z/ (d:Int)=sgn (decide (z< 0)) (if (decide (z< 0) && !(z.natAbs % d==0))=true then z.natAbs/ d+1 else z.natAbs/ d):=by
 have h1:=Nat.div_add_mod z.natAbs d;have h2:=Nat.mod_lt z.natAbs hd;generalize hr:z.natAbs % d=r at *
 generalize hq:z.natAbs/ d=a at *
 have h3:((d* a:Nat):Int)=(a:Int) * d:=by rw[Int.natCast_mul,Int.mul_comm]
 refine tj_ hd ?_ ?_ <;> by_cases hz:z< 0 <;> by_cases h0:r=0 <;> simp[sgn,hz,h0,Int.neg_mul,Int.add_mul]<;> omega
theorem sR_(z:Int)(d:Nat)(hd:0< d)(h:bl z.natAbs+bl d≤4398046511104):FS 325 [.agg (zI z),.agg [mag d]] (.agg (zI (z/ d))):=by
 rw[qC_ z d hd];have hbq:=c5_ z.natAbs d;have hb1:=tR_ (z.natAbs/ d) 1;have hb2:bl 1=1:=jJ_;obtain⟨Q,hQ⟩:∃Q,Q=(if (decide (z< 0) && !(z.natAbs % d==0))=true then z.natAbs/ d+1 else z.natAbs/ d):=⟨_,rfl⟩;rw[←hQ];refine f_c Tryz.func325 ?_;refine r_z 3 ?_;refine r_c 11 (lm_ z.natAbs d h hd) ?_;refine a_z ?_;refine aQ_ (fun _:Unit=>⟨[(2,.lptr 1 0 0),(4,.lptr 2 0 0),(5,.lptr 3 0 0)],[(1,some ⟨33,2,[zI z]⟩),(2,some ⟨33,2,[[.emp,bln false]]⟩),(3,some ⟨31,1,[[mag Q]]⟩)],4,28⟩) (fun _=>True) ?_ ?_;by_cases hz:z< 0;refine s_r 7 ?_;refine a_3 ?_
 first|refine y_g rfl (by simp[hz]) (.load_l rfl rfl rfl TG.h TS.h (nle rfl)) ?_|refine y_g rfl (by simp[hz]) (.load_a rfl rfl TG.h TS.h (nle rfl)) ?_
 refine y_g rfl (by simp[hz]) (.call rfl rfl rfl (ff_ (z.natAbs % d))) ?_;refine y_g rfl (by simp[hz]) (.un rfl lZ_) ?_;refine o_0 (.pickT rfl (by simp[hz]) rfl) ?_;refine ai_ ?_;refine aj_ rfl (fun h1=>?_) (fun h1=>?_);have:Q=z.natAbs/ d+1:=by rw[hQ,if_pos];simpa[hz] using h1
 rw[this];refine r_d hmix 4 ?_;refine c_s (ez_ 1 (by decide)) ?_;refine c_s (n2_ (z.natAbs/ d) 1 (by omega)) ?_;refine a_1 ?_;refine ai_ (n_k ?_);refine⟨(),trivial,?_⟩;exact s_e [(2,4),(3,5)];have:Q=z.natAbs/ d:=by rw[hQ,if_neg];simpa[hz] using h1
 rw[this];refine ae_ ⟨(),trivial,?_⟩;exact s_e [(2,4),(3,5)];refine s_r 7 ?_;refine a_3 ?_;refine n_g rfl (by simp[hz]) ?_;refine n_g rfl (by simp[hz]) ?_;refine n_g rfl (by simp[hz]) ?_;refine o_0 (.pickF rfl (by simp[hz]) rfl) ?_;refine ai_ ?_;have:Q=z.natAbs/ d:=by rw[hQ,if_neg];simp[hz]
 rw[this];refine aj_ rfl (fun h=>?_) (fun h=>ae_ ⟨(),trivial,?_⟩);cases h;exact s_e [(2,4),(3,5)];rintro _ _;refine r_c 5 (cP_ (decide (z< 0)) Q) ?_;refine a_z ?_;exact af_ (c_e (el_ _))
theorem fs_floor(q:Rat)(h:qs q≤1099511627776):FS 300 [.agg (qC q)] (.agg (qC (q.floor:Rat))):=by
 have h1:=b5_ q;have h2:=bU_ q;rw[Rat.floor_def];refine f_c Tryz.func300 ?_;refine r_z 2 ?_;refine aa_ (r_d hmix 7 ?_);refine c_s (cz_ q h) ?_;refine c_s (sR_ q.num q.den q.den_pos (by omega)) ?_;refine c_s (le_ (q.num/ q.den)) ?_;refine a_1 ?_;refine ai_ (n_k ?_);exact af_ (c_e (aI_ _))
def ceilQ(q:Rat):Rat:= -((-q).floor:Rat)
def wi(k:Int)(m:Nat):Nat:=(max 0 (min k m)).toNat
def twoQ(k:Nat):Rat:=((2^ k:Nat):Int)
def downQ(a:Rat)(k:Nat):Rat:=((a* twoQ k).floor:Rat) * fineQ k
def upQ(a:Rat)(k:Nat):Rat:=ceilQ (a* twoQ k) * fineQ k
theorem fN_(a b:Rat)(ha:sm a)(hb:sm b):FS 77 [.agg (spC a b)] (bln (decide (cmpQ a b≤0))):=by
 refine f_c Tryz.func77 ?_;refine r_z 2 ?_;refine r_c 7 (jm_ a b ha hb) ?_;refine a_z ?_;exact af_ (t_e (ad_ _))
theorem g6_(a b:Rat)(ha:sm a)(hb:sm b):FS 13 [.agg (spC a b)] (.agg (qC (b- a))):=by
 refine f_c Tryz.func13 ?_;refine r_z 2 ?_;refine r_c 6 (pk_ b a (sm2 hb ha)) ?_;refine a_z ?_;exact af_ (c_e (aI_ _))
theorem fs_Max1(c:Int):FS 273 [i64 c] (bln (decide (0< c))):=by
 refine f_c Tryz.func273 ?_;refine r_z 1 ?_;refine r_z 3 ?_;exact af_ (t_e (ad_ _))
def ou_(g:Nat)(l:List Rat):Nat×List AV→AState
 |(i,o)=>⟨[(0,.clos g [] []),(4,.lptr 1 0 0),(5,.lptr 2 0 0),(8,.arr (pE l)),(9,i64 l.length),(10,i64 i)],[(1,some ⟨35,3,[zC]⟩),(2,some ⟨35,3,[o]⟩)],3,27⟩
theorem sW_(g:Nat)(bf:Int→Bool)(hg:∀c,FS g [i64 c] (bln (bf c)))(l:List Rat)(hl:smL l)(hln:l.length≤1099511627776):FS 272 [.clos g [] [],.arr (pE l)] (.agg (qC (cg_ bf l))):=by
 refine f_n Tryz.func272 ?_ ?_;exact ab_ (ba_ ah_ ah_) (ab_ (aD_ l) ah_);refine r_z 1 ?_;refine r_z 1 ?_;refine aa_ (r_z 3 ?_);refine aw_ (fun _:Unit=>⟨[(4,.lptr 1 0 0),(5,.lptr 2 0 0)],[(1,some ⟨35,3,[zC]⟩),(2,some ⟨35,3,[qC (cg_ bf l)]⟩)],3,27⟩) (fun _=>True) ?_ ?_;refine ac_ (ap_ (fun x:Nat×List AV=>ou_ g l x) (fun x=>l.length- x.1) (fun x=>x.1≤l.length∧((x.1=0→x.2=zC)∧(x.1≠0→x.2=qC (cg_ bf (l.take x.1))))) (0,zC) ⟨Nat.zero_le _,fun _=>rfl,fun h=>absurd rfl h⟩ ?_ ?_);simp only[ou_.eq_1];exact s_e [(1,4),(2,5)];rintro⟨i,o⟩ ⟨hi,ho0,ho⟩;simp only at hi ho0 ho;simp only[ou_.eq_1];refine r_z 1 ?_;refine aa_ (aj_ rfl (fun h=>?_) (fun h=>?_));refine ae_ ?_;have hlt:i< l.length:=by simpa using h
 obtain⟨q,hq⟩:∃q,l[i]?=some q:=⟨_,List.getElem?_eq_getElem hlt⟩;have hq':(pE l)[((i:Nat):Int).toNat]?=some (qC q):=bK_ hq;have hsq:sm q:=hl q (List.mem_of_getElem? hq);have hst:sm (cg_ bf (l.take i)):=qI_ fun q hq=>hl q (List.mem_of_mem_take hq);have hsn:=ia_ bf (l.take i) q;rw[←cv_ hq] at hsn;refine aa_ (ac_ (s_r 6 ?_));refine a_1 ?_;refine i_x hq' ?_;refine l_x hq' ?_;refine a_z ?_;refine AWp.cutB (fun _:Unit=>ou_ g l (i,qC (cg_ bf (l.take (i+1))))) (fun _=>True) ?_ ?_;by_cases h0:i=0;subst h0;have:=ho0 rfl;subst this;rw[if_pos (.inl (by simp))] at hsn;refine s_r 9 ?_;refine a_3 ?_;refine n_g rfl d_t ?_;refine n_g rfl d_t ?_;refine n_g rfl d_t ?_;refine n_g rfl d_t ?_;refine n_g rfl d_t ?_;refine o_0 (.pickT rfl d_t rfl) ?_;refine ai_ ?_;refine aj_ rfl (fun h=>?_) (fun h=>?_);refine r_m 2 ?_;refine a_z ?_;refine⟨(),trivial,?_⟩;simp only[ou_.eq_1];rw[hsn];exact s_e [];cases h;have ho':o=qC (cg_ bf (l.take i)):=ho h0;subst ho'
 have hne:l.take i≠[]:=fun h=>by
  have:=congrArg List.length h;rw[List.length_take,List.length_nil] at this;omega
 refine s_r 9 ?_;refine a_3 ?_;refine y_g rfl (by simp;omega) (.move rfl) ?_
 first|refine y_g rfl (by simp;omega) (.load_l rfl rfl rfl TG.h TS.h (nle rfl)) ?_|refine y_g rfl (by simp;omega) (.load_a rfl rfl TG.h TS.h (nle rfl)) ?_
 first|refine y_g rfl (by simp;omega) (.load_l rfl rfl rfl TG.h TS.h (nle rfl)) ?_|refine y_g rfl (by simp;omega) (.load_a rfl rfl TG.h TS.h (nle rfl)) ?_
 refine y_g rfl (by simp;omega) (.call rfl rfl rfl (jm_ q (cg_ bf (l.take i)) hsq hst)) ?_;refine y_g rfl (by simp;omega) (.call rfl rfl rfl (hg (cmpQ q (cg_ bf (l.take i))))) ?_;refine o_0 (.pickF rfl (by simp;omega) rfl) ?_;refine ai_ ?_;refine aj_ rfl (fun h1=>?_) (fun h1=>?_);refine r_m 2 ?_;refine a_z ?_;refine⟨(),trivial,?_⟩;simp only[ou_.eq_1];rw[hsn,if_pos (.inr h1)];exact s_e [];refine ae_ ⟨(),trivial,?_⟩;simp only[ou_.eq_1];rw[hsn,if_neg (fun hh=>hh.elim hne fun h2=>by rw[h1] at h2;cases h2)];exact s_e [];rintro _ _;rw[ou_.eq_1];refine r_m 2 ?_;refine a_z ?_;refine⟨(i+1,qC (cg_ bf (l.take (i+1)))),by simp only;omega,⟨by simp only;omega,fun h=>absurd h (by simp),fun _=>rfl⟩,?_⟩;simp only[ou_.eq_1];exact s_e [];have hge:i=l.length:=by simp at h;omega
 refine am_ ⟨(),trivial,?_⟩;subst hge;by_cases h0:l.length=0;have:=ho0 h0;subst this
 have:cg_ bf l=0:=by
  rw[List.length_eq_zero_iff] at h0;rw[h0];rfl
 rw[this,qC0];exact s_e [];have:=ho h0;subst this;rw[List.take_length];exact s_e [];rintro _ _;refine r_z 2 ?_;exact af_ (c_e (aI_ _))
theorem fs_Max(l:List Rat)(hl:smL l)(hln:l.length≤1099511627776):FS 226 [.arr (pE l)] (.agg (qC (maxL l))):=by
 refine f_c Tryz.func226 ?_;refine r_z 1 ?_;refine r_c 3 (sW_ 273 _ fs_Max1 l hl hln) ?_;refine a_z ?_;exact af_ (c_e (aI_ _))
theorem qs_int(n:Int):qs (n:Rat)≤max (bl n.natAbs) 1:=by
 have e1:(n:Rat).num=n:=rfl;have e2:(n:Rat).den=1:=rfl;unfold qs;rw[e1,e2,jJ_];exact Nat.le_refl _
theorem qs_i64{n:Int}(h: -9223372036854775808≤n∧n≤9223372036854775807):qs (n:Rat)≤64:=by
 have h1:=qs_int n;have h2:bl n.natAbs≤64:=bl_le (Nat.lt_of_le_of_lt (show n.natAbs≤9223372036854775808 by omega) (by decide));omega
theorem fs_Of(n d:Int)(hn: -9223372036854775808≤n∧n≤9223372036854775807)(hd: -9223372036854775808≤d∧d≤9223372036854775807)(h0:d≠0):FS 55 [i64 n,i64 d] (.tup [.agg (qC ((n:Rat) / (d:Rat))),i64 0]):=by
 have h1:=qs_i64 hn;have h2:=qs_i64 hd
 have hd0:(d:Rat)≠0:=by
  intro h;have:(d:Rat).num=0:=by rw[h];rfl
  exact h0 this
 refine f_c Tryz.func55 ?_;refine r_z 2 ?_;refine r_c 9 (ei_ n hn) ?_;refine c_s (ei_ d hd) ?_;refine c_s (sS_ (n:Rat) (d:Rat) hd0 (by omega)) ?_;refine a_z ?_;refine af_ (Fin.many ⟨_,_,rfl,⟨_,_,_,_,_,rfl,rfl,rfl,.inl ⟨TG.h,_,TS.h,nle rfl,rfl⟩⟩,⟨_,_,rfl,rfl,rfl⟩⟩ (nle rfl) ?_);exact ag_ (an_ ar_ (aI_ _)) (ag_ (an_ ar_ (ad_ _)) ao_)
theorem fs_Clone(l:List Rat)(hl:l.length≤1099511627776):FS 184 [.arr (pE l)] (.arr (pE l)):=by
 cases l with
 |nil=>
  refine FSpec.nil1 fun a c=>?_;refine f_c Tryz.func184 ?_;refine r_z 1 ?_;refine aa_ (r_z 2 ?_);refine aj_ rfl (fun h=>?_) (fun h=>?_);refine r_z 1 ?_;exact af_ (Fin.tmpN rfl)
  ·refine ae_ (s_r 4 ?_)
   refine a_2 ?_;refine o_2 (.append_l rfl rfl rfl te_55.h rfl rfl rfl rfl rfl d_o (by first|exact cK_ _|exact cH_ _|exact cr_ _|exact cL_ _|exact cy_ _|assumption|rfl|simp) (by first|rfl|exact cK_ _|exact cH_ _|exact cr_ _|exact cL_ _|exact cy_ _|simp) rfl (.vnil) TZ.h rfl TB.h d_o (by first|(simp[maxLen];done)|(simp[maxLen];omega))) ?_;refine a_z ?_;exact af_ (Fin.tmpS rfl rfl rfl rfl (aK_ []))
 |cons q l=>
  have hne:pE (q::l)≠[]:=by simp[pE]
  simp at hl;refine f_c Tryz.func184 ?_;refine r_z 1 ?_;refine aa_ (s_r 2 ?_);refine a_1 ?_
  first|refine aq_ (.nilq_v rfl rfl te_55.h) rfl rfl ?_|refine aq_ (.nilq_arr rfl (hne) rfl te_55.h) rfl rfl ?_
  refine ai_ ?_;refine cF ?_
  ·refine ae_ (s_r 4 ?_)
   refine a_2 ?_;refine o_2 (.append_l rfl rfl rfl te_55.h rfl rfl rfl rfl rfl d_o (by first|exact cK_ _|exact cH_ _|exact cr_ _|exact cL_ _|exact cy_ _|assumption|rfl|simp) (by first|rfl|exact cK_ _|exact cH_ _|exact cr_ _|exact cL_ _|exact cy_ _|simp) rfl (.arr (gw_ _)) TZ.h rfl TB.h d_o (by first|(simp[maxLen];done)|(simp[maxLen];omega))) ?_;refine a_z ?_;exact af_ (Fin.tmpS rfl rfl rfl (by simp) (aK_ _))
def trS(l:List Rat):Nat→AState
 |n=>⟨[(0,.arr (pE l)),(3,i64 n)],[],1,23⟩
theorem cQ_(l:List Rat)(hl:l.length≤1099511627776):FS 99 [.arr (pE l)] (.arr (pE (trimQ l))):=by
 refine f_c Tryz.func99 ?_;refine r_z 1 ?_;refine r_z 3 ?_;refine aQ_ (trS l) (fun n=>n≤l.length∧trimQ l=l.take n) ?_ ?_;refine ac_ (ap_ (trS l) (fun n=>n) (fun n=>n≤l.length∧trimQ l=trimQ (l.take n)) l.length ⟨Nat.le_refl _,by rw[List.take_length]⟩ ?_ ?_);simp only[trS.eq_1];exact s_e [];rintro n ⟨hn,ht⟩;rw[trS.eq_1];cases n with
 |zero=>
  refine aa_ (s_r 11 ?_);refine a_3 ?_;refine n_g rfl (by simp) ?_;refine n_g rfl (by simp) ?_;refine n_g rfl (by simp) ?_;refine n_g rfl (by simp) ?_;refine n_g rfl (by simp) ?_;refine n_g rfl (by simp) ?_;refine n_g rfl (by simp) ?_;refine o_0 (.pickF rfl (by simp) rfl) ?_;refine ai_ ?_;refine cF ?_;refine am_ ⟨0,⟨Nat.zero_le _,?_⟩,?_⟩;rw[ht];rfl;simp only[trS.eq_1];exact s_e []
 |succ n=>
  obtain⟨q,hq⟩:∃q,l[n]?=some q:=⟨_,List.getElem?_eq_getElem (by omega)⟩
  have hq':(pE l)[(((n+1:Nat):Int)- 1).toNat]?=some (qC q):=by
   rw[show(((n+1:Nat):Int)- 1).toNat=n by omega];exact bK_ hq
  have hs:trimQ (l.take (n+1))=if q=0 then trimQ (l.take n) else l.take (n+1):=by
   rw[cv_ hq,f0_]
  refine aa_ (s_r 11 ?_);refine a_3 ?_;refine y_g rfl (by simp <;> omega) (.move rfl) ?_;refine y_g rfl (by simp <;> omega) (.move rfl) ?_;refine y_g rfl (by simp <;> omega) (.bin rfl rfl (hl_ (by omega))) ?_
  first|refine y_g rfl (by simp <;> omega) (.index_l rfl rfl (by omega) (by omega) te_55.h) ?_|refine y_g rfl (by simp <;> omega) (.index_a rfl rfl (by omega) hq' rfl te_55.h) ?_
  first|refine y_g rfl (by simp <;> omega) (.load_l rfl rfl hq' TG.h TS.h (nle rfl)) ?_|refine y_g rfl (by simp <;> omega) (.load_a rfl hq' TG.h TS.h (nle rfl)) ?_
  refine y_g rfl (by simp <;> omega) (.call rfl rfl rfl (bZ_ q)) ?_;refine y_g rfl (by simp <;> omega) (.bin rfl rfl aU_) ?_;refine o_0 (.pickT rfl (by simp <;> omega) rfl) ?_;refine ai_ ?_;refine aj_ rfl (fun h=>?_) (fun h=>?_)
  have h0:q=0:=by
   have h1:sgZ q.num=0:=by simpa using h
   exact sgZ_num_eq.1 h1
  refine ae_ (ac_ (r_m 3 ?_));refine a_z ?_;refine⟨n,Nat.lt_succ_self n,⟨by omega,?_⟩,?_⟩;rw[ht,hs,if_pos h0];simp only[trS.eq_1];exact s_e []
  have h0:q≠0:=by
   intro e;have h1:¬sgZ q.num=0:=by simpa using h
   exact h1 (sgZ_num_eq.2 e)
  refine am_ ⟨n+1,⟨hn,?_⟩,?_⟩;rw[ht,hs,if_neg h0];simp only[trS.eq_1];exact s_e []
 rintro n ⟨hn,ht⟩;rw[trS.eq_1];have hcl:=fs_Clone (l.take n) (by simp;omega);refine s_r 5 ?_;refine a_2 ?_;refine o_0 (.sa_h rfl rfl (h:=n) rfl (by simp;omega) te_55.h (gw_ _)) ?_;refine o_0 (.call rfl rfl rfl ((by rw[nK_];exact hcl))) ?_;refine o_0 (.assign rfl) ?_;refine ai_ ?_;refine af_ (aJ_ rfl ?_ ?_);rw[ht];exact aL_ (aK_ _)
theorem bC_(l:List Rat)(hl:l.length≤1099511627776):FS 66 [.arr (pE l)] (i64 (degP l)):=by
 have:=aB_ l;refine f_c Tryz.func66 ?_;refine r_z 1 ?_;refine r_c 5 (cQ_ l hl) ?_;refine a_z ?_;exact af_ (t_e (ad_ _))
theorem gD_(l:List Rat)(hl:l.length≤1099511627776):FS 183 [.arr (pE l)] (.agg (qC (leadP l))):=by
 have hlen:=aB_ l;refine f_c Tryz.func183 ?_;refine r_z 1 ?_;refine r_c 3 (cQ_ l hl) ?_;refine a_z ?_;refine aa_ (r_z 3 ?_);refine aj_ rfl (fun h=>?_) (fun h=>?_)
 have h0:trimQ l=[]:=by
  have h1:(trimQ l).length=0:=by simpa using h
  exact List.length_eq_zero_iff.1 h1
 rw[i6_ h0];refine r_z 2 ?_;refine af_ (Fin.cell rfl rfl rfl TG.h TS.h (nle rfl) (Cv.agg ?_));rw[qC0];exact ag_ (Cv.emp _) (ag_ (an_ ar_ (ad_ _)) (ag_ (Cv.emp _) ao_))
 obtain⟨n,hn⟩:∃n,(trimQ l).length=n+1:=⟨(trimQ l).length- 1,by
  have h1:¬(trimQ l).length=0:=by simpa using h
  omega⟩
 have hg:(pE (trimQ l))[(((trimQ l).length:Int)- 1).toNat]?=some (qC (leadP l)):=by
  rw[hn,show(((n+1:Nat):Int)- 1).toNat=n by omega];exact bK_ (bD_ hn)
 refine ae_ (s_r 7 ?_);refine a_4 ?_;refine i_x hg ?_;refine l_x hg ?_;refine a_z ?_;exact af_ (c_e (aI_ _))
theorem fs_at(l:List Rat)(i:Nat):FS 238 [.arr (pE l),i64 i] (.agg (qC (coP l i))):=by
 refine f_c Tryz.func238 ?_;refine r_z 1 ?_;refine aa_ (r_z 4 ?_);refine aj_ rfl (fun h=>?_) (fun h=>?_);have hlt:i< l.length:=by simpa using h
 have hg:(pE l)[((i:Nat):Int).toNat]?=some (qC (coP l i)):=bK_ (a9_ hlt);refine s_r 5 ?_;refine a_2 ?_;refine i_x hg ?_;refine l_x hg ?_;refine a_z ?_;exact af_ (c_e (aI_ _));have hge:l.length≤i:=by simpa using h
 rw[co_ hge];refine ae_ (r_z 2 ?_);refine af_ (Fin.cell rfl rfl rfl TG.h TS.h (nle rfl) (Cv.agg ?_));rw[qC0];exact ag_ (Cv.emp _) (ag_ (an_ ar_ (ad_ _)) (ag_ (Cv.emp _) ao_))
theorem eE_set{n i e:Nat}{f:Nat→Rat}(h:i< n)(he:e=i):(pE (tabP i f)++List.replicate (n- i) zC).set e (qC (f i))=pE (tabP (i+1) f)++List.replicate (n- (i+1)) zC:=by
 subst he;obtain⟨k,rfl⟩:∃k,n=e+1+k:=⟨n- (e+1),by omega⟩;rw[show e+1+k- e=k+1 by omega,show e+1+k- (e+1)=k by omega,List.replicate_succ,List.set_append_right _ _ (by simp)];simp[tabP,List.range_succ,pE]
theorem eE_get{n i e:Nat}{f:Nat→Rat}(h:i< n)(he:e=i):(pE (tabP i f)++List.replicate (n- i) zC)[e]?=some zC:=by
 subst he;rw[List.getElem?_append_right (by simp),List.getElem?_replicate,if_pos (by simp;omega)]
theorem jF_(n i:Nat)(f:Nat→Rat):∀e∈pE (tabP i f)++List.replicate (n- i) zC,∀c∈e,Closed c:=by
 intro e he;rcases List.mem_append.1 he with he|he
 exact aK_ _ e he;rw[List.eq_of_mem_replicate he];exact ek_
def eachS(n:Nat)(f:Nat→Rat)(g:Nat)(cap:List AV):Nat→AState
 |i=>⟨[(1,.clos g [] cap),(5,.lsl 1 0 n (some n) 3),(10,i64 n),(11,i64 i)],[(1,some ⟨35,3,pE (tabP i f)++List.replicate (n- i) zC⟩)],2,23⟩
theorem ls_(n:Nat)(f:Nat→Rat)(g:Nat)(cap:List AV)(hn:n≤1099511627776)(hcap:∀c∈cap,Closed c)(hg:∀i,i< n→FS g ((i64 i::cap).map coe) (.agg (qC (f i)))):FS 138 [i64 n,.clos g [] cap] (.arr (pE (trimQ (tabP n f)))):=by
 refine f_n Tryz.func138 ?_ ?_;exact ab_ (ad_ _) (ab_ (ba_ ah_ hcap) ah_);refine r_z 1 ?_;refine r_z 3 ?_;refine aa_ (r_z 3 ?_);refine aw_ (fun _:Unit=>eachS n f g cap n) (fun _=>True) ?_ ?_;refine ac_ (ap_ (eachS n f g cap) (fun i=>n- i) (fun i=>i≤n) 0 (Nat.zero_le _) ?_ ?_);simp only[eachS.eq_1];refine s_x [(1,5)] (fun hs=>e_7) (fun hs=>?_)
 ·repeat' (first|exact az_|refine h_c ?_ ?_|exact aC_ hs rfl (jF_ n 0 f)|exact au_e|refine al_ ?_|exact ao_|refine ag_ ?_ ?_|exact an_ hs (ba_ ah_ hcap)|exact au_c)
 rintro i hi;rw[eachS.eq_1];refine r_z 1 ?_;refine aa_ (aj_ rfl (fun h=>?_) (fun h=>?_));refine ae_ ?_;have hlt:i< n:=by simpa using h
 refine aa_ (ac_ (r_z 2 ?_));refine r_m 7 ?_;refine c_s (hg i hlt) ?_;refine a_1 ?_;refine o_1n (.store rfl rfl (eE_get hlt (Nat.zero_add i)) rfl rfl rfl TS.h (nle rfl)) ?_;refine ai_ ?_;refine r_m 2 ?_;refine a_z ?_;refine⟨i+1,by omega,hlt,?_⟩;simp only[eachS.eq_1];refine s_x [] (fun hs=>e_7) (fun hs=>?_)
 ·repeat' (first|exact az_|refine h_c ?_ ?_|exact aC_ hs (eE_set hlt (Nat.zero_add i)) (jF_ n (i+1) f)|exact au_e|refine al_ ?_|exact ao_|refine ag_ ?_ ?_|exact an_ hs (ba_ ah_ hcap)|exact au_c)
 have hge:i=n:=by
  have:¬i< n:=by simpa using h
  omega
 subst hge;refine am_ ⟨(),trivial,?_⟩;simp only[eachS.eq_1];refine s_x [] (fun hs=>e_7) (fun hs=>?_)
 ·repeat' (first|exact az_|refine h_c ?_ ?_|exact bi_ hs (jF_ i i f)|exact au_e|refine al_ ?_|exact ao_|refine ag_ ?_ ?_|exact an_ hs (ba_ ah_ hcap)|exact au_c)
 rintro _ _;rw[eachS.eq_1]
 have hfull:List.take n (List.drop 0 (pE (tabP n f)++List.replicate (n- n) zC))=pE (tabP n f):=by
  rw[Nat.sub_self,List.replicate_zero,List.append_nil,List.drop_zero,List.take_of_length_le (by simp)]
 refine s_r 3 ?_;refine a_1 ?_;refine o_1 (.callS1 rfl rfl rfl (.shut rfl d_n (.nil)) rfl ((by rw[hfull];exact cQ_ (tabP n f) (by simp;exact hn)))) ?_;refine a_z ?_;exact af_ (t_e (aL_ (aK_ _)))
abbrev bP(p:List Rat):AV:= .aptr [[.arr (pE p)]] 0 0
abbrev bQ(q:Rat):AV:= .aptr [qC q] 0 0
theorem bV_(p:List Rat):Closed (bP p):=aE_ (ab_ (aD_ p) ah_)
theorem c4_(q:Rat):Closed (bQ q):=aE_ (br_ q)
theorem fs_Add1(p q:List Rat)(i:Nat)(hp:smL p)(hq:smL q):FS 237 [i64 i,bP p,bP q] (.agg (qC (coP p i+coP q i))):=by
 refine f_c Tryz.func237 ?_;refine r_z 1 ?_;refine aa_ (r_d hmix 8 ?_);refine c_s (fs_at p i) ?_;refine c_s (fs_at q i) ?_;refine c_s (gt_ (coP p i) (coP q i) (sm2 (h8_ hp i) (h8_ hq i))) ?_;refine a_1 ?_;refine ai_ (n_k ?_);exact af_ (c_e (aI_ _))
theorem fs_Add(p q:List Rat)(hp:smL p)(hq:smL q)(hp1:p.length≤1099511627776)(hq1:q.length≤1099511627776):FS 167 [.arr (pE p),.arr (pE q)] (.arr (pE (addP p q))):=by
 refine f_c Tryz.func167 ?_;refine r_z 3 ?_;refine AWp.ent (st':=⟨[(2,bP p),(3,bP q)],[],1,12⟩) ?_ ?_;exact s_e []
 have hm:(if ((q.length:Nat):Int)>(p.length:Nat) then((q.length:Nat):Int) else(p.length:Nat))=((max p.length q.length:Nat):Int):=by
  rw[Nat.max_def];split <;> split <;> omega
 have he:=ls_ (max p.length q.length) (fun i=>coP p i+coP q i) 237 [bP p,bP q] (Nat.max_le.2 ⟨hp1,hq1⟩) (ab_ (bV_ p) (ab_ (bV_ q) ah_)) (fun i _=>fs_Add1 p q i hp hq);rw[←hm] at he;refine r_c 8 (he) ?_;refine a_z ?_;exact af_ (t_e (aD_ _))
theorem s0_(p:List Rat)(k:Rat)(i:Nat)(hp:smL p)(hk:sm k)(hi:i< p.length):FS 140 [i64 i,bP p,bQ k] (.agg (qC (coP p i* k))):=by
 have hg:(pE p)[((i:Nat):Int).toNat]?=some (qC (coP p i)):=bK_ (a9_ hi);refine f_c Tryz.func140 ?_;refine r_z 1 ?_;refine aa_ (r_d hmix 7 ?_);refine a_2 ?_;refine i_x hg ?_;refine l_x hg ?_;refine c_s (dp_ (coP p i) k (sm2 (h8_ hp i) hk)) ?_;refine a_1 ?_;refine ai_ (n_k ?_);exact af_ (c_e (aI_ _))
theorem eB_(p:List Rat)(k:Rat)(hp:smL p)(hk:sm k)(hp1:p.length≤1099511627776):FS 50 [.arr (pE p),.agg (qC k)] (.arr (pE (av_ p k))):=by
 have he:=ls_ p.length (fun i=>coP p i* k) 140 [bP p,bQ k] hp1 (ab_ (bV_ p) (ab_ (c4_ k) ah_)) (fun i hi=>s0_ p k i hp hk hi);refine f_c Tryz.func50 ?_;refine r_z 3 ?_;refine AWp.ent (st':=⟨[(2,bP p),(3,bQ k)],[],1,9⟩) ?_ ?_;exact s_e [];refine r_c 5 (he) ?_;refine a_z ?_;exact af_ (t_e (aD_ _))
theorem eA_(a b:Rat)(hb:b≠0)(h:qs a+qs b≤549755813888):FS 144 [.agg (qC a),.agg (qC b)] (.agg (qC (a/ b))):=by
 refine f_c Tryz.func144 ?_;refine r_z 3 ?_;refine r_c 9 (sS_ a b hb h) ?_;refine a_z ?_;refine r_z 2 ?_;exact af_ (c_e (aI_ _))
theorem jl_(a:Rat):FS 187 [.agg (qC a)] (.arr (pE (c3_ a))):=by
 refine f_c Tryz.func187 ?_;refine r_z 2 ?_;refine s_r 4 ?_;refine a_2 ?_;refine o_1 (.callS1 rfl rfl rfl (.shut rfl d_n (.nil)) rfl ((cQ_ [a] (by simp)))) ?_;refine a_z ?_;exact af_ (t_e (aD_ _))
theorem sm_neg1{a:Rat}(h:sm a):sm (a* (-1)):=by
 unfold sm at *
 rw[show a* (-1)= -a by rw[Rat.mul_comm,Rat.neg_mul,Rat.one_mul],dG_];exact h
theorem qs_inv(b:Rat)(hb:b≠0):qs (1/ b)≤qs b:=by
 rw[jt_ 1 b hb];have hn:b.num≠0:=fun e=>hb (Rat.num_eq_zero.1 e);have h1:=b5_ b;have h2:=bU_ b
 refine c6_ (by have:0< b.num.natAbs:=by omega
                show 0< 1* b.num.natAbs;omega) ?_ ?_
 show bl ((1:Int) * sgn (decide (b.num< 0)) b.den).natAbs≤qs b;rw[Int.one_mul,ds_];exact h2;show bl (1* b.num.natAbs)≤qs b;rw[Nat.one_mul];exact h1
theorem qf_{q:List Rat}(h:smL q):smL (av_ q (-1)):=by
 refine smL_trim fun x hx=>?_;obtain⟨i,_,rfl⟩:=List.mem_map.1 hx;exact sm_neg1 (h8_ h i)
theorem sZ_(p q:List Rat)(hp:smL p)(hq:smL q)(hp1:p.length≤1099511627776)(hq1:q.length≤1099511627776):FS 73 [.arr (pE p),.arr (pE q)] (.arr (pE (subP p q))):=by
 have hl:=bM_ q (-1);refine f_c Tryz.func73 ?_;refine r_z 1 ?_;refine r_c 6 (ei_ (-1) (by decide)) ?_;refine c_s (eB_ q (-1) hq (by decide) hq1) ?_;refine c_s (fs_Add p (av_ q (-1)) hp (qf_ hq) hp1 (by omega)) ?_;refine a_z ?_;exact af_ (t_e (aD_ _))
theorem lp_(p:List Rat)(hp:smL p)(hp1:p.length≤1099511627776):FS 270 [.arr (pE p)] (.arr (pE (aG_ p))):=by
 have hlead:=leadP_sm hp;refine f_c Tryz.func270 ?_;refine r_z 1 ?_;refine aa_ (r_c 3 (bC_ p hp1) ?_);refine a_z ?_;refine aj_ rfl (fun h=>?_) (fun h=>?_)
 have h0:trimQ p=[]:=by
  have h1:degP p< 0:=by simpa using h
  unfold degP at h1;exact List.length_eq_zero_iff.1 (by omega)
 refine r_z 1 ?_;refine af_ ?_;unfold aG_;rw[if_pos h0];exact Fin.tmpN rfl
 have h0:trimQ p≠[]:=by
  intro e;have h1:¬degP p< 0:=by simpa using h
  unfold degP at h1;rw[e] at h1;exact h1 (by decide)
 have hne:=bw_ h0;have hinv:=qs_inv (leadP p) hne;unfold sm at hlead;have h1:qs 1=1:=by decide
 unfold aG_;rw[if_neg h0];refine ae_ (r_c 7 (ei_ 1 (by decide)) ?_);refine c_s (gD_ p hp1) ?_;refine c_s (eA_ 1 (leadP p) hne (by omega)) ?_;refine c_s (eB_ p (1/ leadP p) hp (by unfold sm;omega) hp1) ?_;refine a_z ?_;exact af_ (t_e (aD_ _))
theorem f2_(i:Nat)(h:i≤1099511627776):qs (((i:Nat):Int):Rat)≤64:=by
 refine Nat.max_le.2 ⟨?_,?_⟩;show bl ((i:Int)).natAbs≤64;rw[Int.natAbs_natCast];exact bl_le (by omega);show bl 1≤64;decide
theorem qB_(p:List Rat)(i:Nat)(hp:smL p)(hi:i+1< p.length)(hp1:p.length≤1099511627776):FS 139 [i64 i,bP p] (.agg (qC (coP p (i+1) * ((i+1:Nat):Int)))):=by
 have hg:(pE p)[(((i:Nat):Int)+1).toNat]?=some (qC (coP p (i+1))):=by
  rw[show(((i:Nat):Int)+1).toNat=i+1 by omega];exact bK_ (a9_ hi)
 have hs:=h8_ hp (i+1);have hq:=f2_ (i+1) (by omega);unfold sm at hs;have hI:=ei_ (((i:Nat):Int)+1) (by omega);rw[show((i:Nat):Int)+1=((i+1:Nat):Int) by omega] at hI;refine f_c Tryz.func139 ?_;refine r_z 1 ?_;refine aa_ (r_d hmix 10 ?_);refine a_3 ?_;refine i_x hg ?_;refine l_x hg ?_;refine c_s (hI) ?_;refine c_s (dp_ (coP p (i+1)) ((i+1:Nat):Int) (by omega)) ?_;refine a_1 ?_;refine ai_ (n_k ?_);exact af_ (c_e (aI_ _))
theorem g8_(p:List Rat)(hp:smL p)(hp1:p.length≤1099511627776):FS 49 [.arr (pE p)] (.arr (pE (at_ p))):=by
 have he:=ls_ (p.length- 1) (fun i=>coP p (i+1) * ((i+1:Nat):Int)) 139 [bP p] (by omega) (ab_ (bV_ p) ah_) (fun i hi=>qB_ p i hp (by omega) hp1);have hm:(if (0:Int)>((p.length:Nat):Int)- 1 then(0:Int) else((p.length:Nat):Int)- 1)=((p.length- 1:Nat):Int):=by split <;> omega
 rw[←hm] at he;refine f_c Tryz.func49 ?_;refine r_z 2 ?_;refine AWp.ent (st':=⟨[(1,bP p)],[],1,9⟩) ?_ ?_;exact s_e [];refine r_c 7 (he) ?_;refine a_z ?_;exact af_ (t_e (aD_ _))
theorem mT_(p:List Rat)(i:Nat)(hp:smL p)(hi:i< p.length+1)(hp1:p.length≤1099511627775):FS 143 [i64 i,bP p] (.agg (qC (if i=0 then 0 else coP p (i- 1) / ((i:Nat):Int)))):=by
 refine f_c Tryz.func143 ?_;refine r_z 1 ?_;refine aa_ (r_z 2 ?_);refine aj_ rfl (fun h=>?_) (fun h=>?_)
 have h0:i=0:=by
  have h1:(i:Int)=0:=by simpa using h
  omega
 rw[if_pos h0];refine r_z 2 ?_;refine af_ (Fin.cell rfl rfl rfl TG.h TS.h (nle rfl) (Cv.agg ?_));rw[qC0];exact ag_ (Cv.emp _) (ag_ (an_ ar_ (ad_ _)) (ag_ (Cv.emp _) ao_))
 have h0:i≠0:=by
  intro e;have h1:¬(i:Int)=0:=by simpa using h
  omega
 rw[if_neg h0]
 have hg:(pE p)[(((i:Nat):Int)- 1).toNat]?=some (qC (coP p (i- 1))):=by
  rw[show(((i:Nat):Int)- 1).toNat=i- 1 by omega];exact bK_ (a9_ (by omega))
 have hs:=h8_ hp (i- 1);have hq:=f2_ i (by omega);unfold sm at hs;refine ae_ (aa_ (r_d hmix 9 ?_));refine a_3 ?_;refine i_x hg ?_;refine l_x hg ?_;refine c_s (ei_ ((i:Nat):Int) (by omega)) ?_;refine c_s (eA_ (coP p (i- 1)) ((i:Nat):Int) (by intro e;have e2:=congrArg Rat.num e;simp at e2;omega) (by omega)) ?_;refine a_1 ?_;refine ai_ (n_k ?_);exact af_ (c_e (aI_ _))
theorem oc_(p:List Rat)(hp:smL p)(hp1:p.length≤1099511627775):FS 53 [.arr (pE p)] (.arr (pE (aF_ p))):=by
 have he:=ls_ (p.length+1) (fun i=>if i=0 then 0 else coP p (i- 1) / ((i:Nat):Int)) 143 [bP p] (by omega) (ab_ (bV_ p) ah_) (fun i hi=>mT_ p i hp hi hp1);rw[show((p.length+1:Nat):Int)=((p.length:Nat):Int)+1 by omega] at he;refine f_c Tryz.func53 ?_;refine r_z 2 ?_;refine AWp.ent (st':=⟨[(1,bP p)],[],1,8⟩) ?_ ?_;exact s_e [];refine r_c 6 (he) ?_;refine a_z ?_;exact af_ (t_e (aD_ _))

def mulS(p:List Rat)(q:List Rat):Nat×List Rat→AState
 |(i,o)=>⟨[(1,.arr (pE q)),(5,.lsl 1 0 o.length (some o.length) 3),(25,.arr (pE p)),(26,i64 p.length),(27,i64 i)],[(1,some ⟨35,3,pE o⟩)],2,61⟩
def mulT(p:List Rat)(q:List Rat)(i:Nat)(a:Rat):Nat×List Rat→AState
 |(k,o)=>⟨[(1,.arr (pE q)),(5,.lsl 1 0 o.length (some o.length) 3),(6,i64 i),(7,.lptr 2 0 0),(25,.arr (pE p)),(26,i64 p.length),(27,i64 i),(35,.arr (pE q)),(36,i64 q.length),(37,i64 k)],[(1,some ⟨35,3,pE o⟩),(2,some ⟨35,3,[qC a]⟩)],3,61⟩
theorem ky_(p q:List Rat)(s t:Nat)(hp:bdL p s)(hq:bdL q t)(hs:1≤s)(ht:1≤t)(h:p.length* (s+t+1)+1≤137438953472)(ht2:t≤137438953472)(hp1:p.length≤274877906944)(hq1:q.length≤274877906944):FS 52 [.arr (pE p),.arr (pE q)] (.arr (pE (mulP p q))):=by
 refine f_c Tryz.func52 ?_;refine r_z 1 ?_;refine aQ_ (fun _:Unit=>⟨[(0,.arr (pE p)),(1,.arr (pE q))],[],1,61⟩) (fun _=>p≠[]∧q≠[]) ?_ ?_;by_cases h1:p=[];subst h1;refine s_r 8 ?_;refine a_4 ?_;refine n_g rfl (by simp) ?_;refine n_g rfl (by simp) ?_;refine n_g rfl (by simp) ?_;refine o_0 (.pickT rfl (by simp) rfl) ?_;refine ai_ ?_;refine aj_ rfl (fun h=>?_) (fun h=>?_);refine r_z 1 ?_;refine af_ ?_;unfold mulP;rw[if_pos (.inl rfl)];exact Fin.tmpN rfl;cases h;have hp0:p.length≠0:=fun e=>h1 (List.length_eq_zero_iff.1 e);refine s_r 8 ?_;refine a_4 ?_;refine y_g rfl (by simp <;> omega) (.move rfl) ?_
 first|refine y_g rfl (by simp <;> omega) (.lenD rfl rfl rfl rfl te_55.h) ?_|refine y_g rfl (by simp <;> omega) (.lenI rfl rfl rfl rfl te_55.h) ?_|refine y_g rfl (by simp <;> omega) (.lenP rfl rfl rfl rfl te_55.h) ?_|refine y_g rfl (by simp <;> omega) (.lenC rfl rfl rfl rfl te_55.h) ?_|refine y_g rfl (by simp <;> omega) (.lenR rfl rfl rfl rfl te_55.h) ?_|refine y_g rfl (by simp <;> omega) (.len rfl rfl rfl rfl rfl te_55.h) ?_
 refine y_g rfl (by simp <;> omega) (.bin rfl rfl aU_) ?_;refine o_0 (.pickF rfl (by simp <;> omega) rfl) ?_;refine ai_ ?_;refine aj_ rfl (fun h2=>?_) (fun h2=>?_)
 have hq0:q=[]:=by
  have:q.length=0:=by simpa using h2
  exact List.length_eq_zero_iff.1 this
 refine r_z 1 ?_;refine af_ ?_;unfold mulP;rw[if_pos (.inr hq0)];exact Fin.tmpN rfl
 have hq0:q≠[]:=by
  have:¬q.length=0:=by simpa using h2
  exact fun e=>this (by rw[e];rfl)
 refine ae_ ⟨(),⟨h1,hq0⟩,?_⟩;exact s_e [];rintro _ ⟨hp0,hq0⟩;have hpl:=List.length_pos_iff.2 hp0;have hql:=List.length_pos_iff.2 hq0;have hN:(p.length:Int)+q.length- 1=((p.length+q.length- 1:Nat):Int):=by omega
 refine s_r 8 ?_;refine a_6 ?_;refine o_1 (.makeSlice (l:=p.length+q.length- 1) (c:=p.length+q.length- 1) (by rw[←hN];rfl) (by rw[←hN];rfl) te_55.h TZ.h rfl TB.h (by first|omega|(simp;done)|(simp;omega)) (by first|omega|(simp;done)|(simp;omega)) (by unfold maxLen;first|omega|(simp;done)|(simp;omega))) ?_;refine a_z ?_;refine aa_ (r_z 3 ?_);have hbd:=fun i=>k5_ (bj_ hp hs) (bj_ hq ht) i
 have hbi:∀i,i≤p.length→i* (s+t+1)+1≤137438953472:=fun i hi=>by
  have:=Nat.mul_le_mul_right (s+t+1) hi;omega
 have hs2:s≤137438953472:=by
  have:=hbi 1 hpl;omega
 refine aw_ (fun _:Unit=>mulS p q (p.length,mulR p q p.length)) (fun _=>True) ?_ ?_;refine ac_ (ap_ (fun i:Nat=>mulS p q (i,mulR p q i)) (fun i=>p.length- i) (fun i=>i≤p.length) 0 (Nat.zero_le _) ?_ ?_);simp only[mulS.eq_1,mulR];exact s_x [(1,5)] (fun hs=>au_f) (fun hs=>e_28);rintro i hi;simp only[mulS.eq_1];refine r_z 1 ?_;refine aa_ (aj_ rfl (fun h=>?_) (fun h=>?_));refine ae_ ?_;have hlt:i< p.length:=by simpa using h
 have hgp:(pE p)[((i:Nat):Int).toNat]?=some (qC (coP p i)):=bK_ (a9_ hlt);refine aa_ (ac_ (s_r 6 ?_));refine a_1 ?_;refine i_x hgp ?_;refine l_x hgp ?_;refine a_z ?_;refine aa_ (r_c 3 (bZ_ (coP p i)) ?_);refine a_z ?_;refine aj_ rfl (fun h1=>?_) (fun h1=>?_)
 have h0:coP p i=0:=by
  have h1:sgZ (coP p i).num=0:=by simpa using h1
  exact sgZ_num_eq.1 h1
 have hst:mulR p q (i+1)=mulR p q i:=by rw[mulR,if_pos h0]
 refine am_ (r_m 2 ?_);refine a_z ?_;refine⟨i+1,by omega,hlt,?_⟩;simp only[mulS.eq_1,hst];exact s_e []
 have h0:coP p i≠0:=by
  intro e;have h1:¬sgZ (coP p i).num=0:=by simpa using h1
  exact h1 (sgZ_num_eq.2 e)
 have hst:mulR p q (i+1)=rowP (mulR p q i) (coP p i) q i q.length:=by rw[mulR,if_neg h0]
 refine ae_ (r_z 3 ?_);refine AWp.cutB (fun _:Unit=>mulS p q (i,mulR p q (i+1))) (fun _=>True) ?_ ?_;refine ac_ (ap_ (fun k:Nat=>mulT p q i (coP p i) (k,rowP (mulR p q i) (coP p i) q i k)) (fun k=>q.length- k) (fun k=>k≤q.length) 0 (Nat.zero_le _) ?_ ?_);simp only[mulT.eq_1,rowP];exact s_e [(2,7)];rintro k hk;simp only[mulT.eq_1];refine r_z 1 ?_;refine aa_ (aj_ rfl (fun h2=>?_) (fun h2=>?_));refine ae_ ?_;have hlt2:k< q.length:=by simpa using h2
 have hgq:(pE q)[((k:Nat):Int).toNat]?=some (qC (coP q k)):=bK_ (a9_ hlt2);refine aa_ (ac_ (s_r 6 ?_));refine a_1 ?_;refine i_x hgq ?_;refine l_x hgq ?_;refine a_z ?_;have hb1:=hbd i;have hb2:=hbi (i+1) hlt;have hb3:=hbi i hi
 have hcur:qs (coP (rowP (mulR p q i) (coP p i) q i k) (i+k))≤137438953472:=by
  rw[kW_ _ _ _ _ _ _ (by omega)];exact Nat.le_trans (hb1 (i+k)) hb3
 have hab:=bJ_ (coP p i) (coP q k);have hqa:=bj_ hp hs i;have hqb:=bj_ hq ht k;have hik:i+k< (rowP (mulR p q i) (coP p i) q i k).length:=by simp;omega
 have hgo:(pE (rowP (mulR p q i) (coP p i) q i k))[(0+(((i:Nat):Int)+(k:Nat)).toNat)]?=some (qC (coP (rowP (mulR p q i) (coP p i) q i k) (i+k))):=by
  rw[show 0+(((i:Nat):Int)+(k:Nat)).toNat=i+k by omega];exact bK_ (a9_ hik)
 refine r_d hmix 16 ?_;refine a_8 ?_;refine a_1 ?_
 first|refine aq_ (.load_l rfl rfl hgo TG.h TS.h (nle rfl)) rfl rfl ?_|refine aq_ (.load_a rfl hgo TG.h TS.h (nle rfl)) rfl rfl ?_
 refine c_s (dp_ (coP p i) (coP q k) (by omega)) ?_;refine c_s (gt_ (coP (rowP (mulR p q i) (coP p i) q i k) (i+k)) (coP p i* coP q k) (by omega)) ?_;refine a_1 ?_;refine o_1n (.store rfl rfl hgo rfl rfl rfl TS.h (nle rfl)) ?_;refine ai_ (n_k ?_);refine r_m 2 ?_;refine a_z ?_;refine⟨k+1,by omega,hlt2,?_⟩
 have hst2:(pE (rowP (mulR p q i) (coP p i) q i k)).set (0+(((i:Nat):Int)+(k:Nat)).toNat) (qC (coP (rowP (mulR p q i) (coP p i) q i k) (i+k)+coP p i* coP q k))=pE (rowP (mulR p q i) (coP p i) q i (k+1)):=by
  rw[show 0+(((i:Nat):Int)+(k:Nat)).toNat=i+k by omega,iQ_];rfl
 have hl2:(rowP (mulR p q i) (coP p i) q i (k+1)).length=(rowP (mulR p q i) (coP p i) q i k).length:=by simp
 simp only[mulT.eq_1,hl2];exact s_x [] (fun hs=>au_f) (fun hs=>e_29) e_4
 have hge:k=q.length:=by
  have:¬k< q.length:=by simpa using h2
  omega
 subst hge;refine am_ ⟨(),trivial,?_⟩;simp only[mulS.eq_1,hst];exact s_e [];rintro _ _;simp only[mulS.eq_1];refine r_m 2 ?_;refine a_z ?_;refine⟨i+1,by omega,hlt,?_⟩;exact s_e []
 have hge:i=p.length:=by
  have:¬i< p.length:=by simpa using h
  omega
 subst hge;refine am_ ⟨(),trivial,?_⟩;simp only[mulS.eq_1];exact s_e [];rintro _ _;simp only[mulS.eq_1]
 have hfull:List.take (mulR p q p.length).length (List.drop 0 (pE (mulR p q p.length)))=pE (mulR p q p.length):=by
  rw[List.drop_zero,List.take_of_length_le (by simp)]
 have hfin:mulP p q=trimQ (mulR p q p.length):=by
  unfold mulP;rw[if_neg (by rintro(h|h);exact hp0 h;exact hq0 h)]
 rw[hfin];refine s_r 3 ?_;refine a_1 ?_;refine o_1 (.callS1 rfl rfl rfl (.shut rfl d_n (.nil)) rfl ((by rw[hfull];exact cQ_ (mulR p q p.length) (by simp;omega)))) ?_;refine a_z ?_;exact af_ (t_e (aD_ _))
end Go.Proofs.YtdjfjpeoddmamaaGreatDoor
