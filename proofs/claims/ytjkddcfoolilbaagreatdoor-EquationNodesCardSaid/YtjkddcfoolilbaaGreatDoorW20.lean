/- Part W20 of the proof. -/
import Derived.Test.YtjkddcfoolilbaaGreatDoorW19
import Derived.Shelf.RegionOpenPlain
import Derived.Lib.Strings
import Derived.Lib.Slices
import Derived.Lib.Walk
set_option linter.all false
namespace Go.Proofs.YtjkddcfoolilbaaGreatDoor
open Go.Abs Go.RowKit
set_option maxRecDepth 20000
theorem ub_byte:Tryz.prog.underlying 217=some (.pointer 5):=by kernel_rfl
theorem ub_cells:Tryz.prog.cellsOf 5=1:=by kernel_rfl
theorem pS_(w:World)(g n:Nat):But g w (w.drew.freeze ⟨g,0,none⟩ n):=by
 have hh:∀x,x≠g→(w.drew.freeze ⟨g,0,none⟩ n).heap[x]?=w.heap[x]?:=by
  intro x hx;unfold World.freeze;split;rfl;show(w.heap.modify g _)[x]?=_;rw[Array.getElem?_modify,if_neg (Ne.symm hx)]
 have hsz:(w.drew.freeze ⟨g,0,none⟩ n).heap.size=w.heap.size:=by
  unfold World.freeze;split;rfl;show(w.heap.modify g _).size=_;simp
 refine⟨?_,?_,?_,by omega,fun x _ hx=>hh x hx,fun x N hx=>?_⟩;unfold World.freeze;split <;> rfl;unfold World.freeze;split <;> rfl;unfold World.freeze;split <;> rfl;by_cases hxg:x=g;subst hxg;unfold World.freeze;split;exact hx;unfold aI_ at hx⊢;show(match (w.heap.modify x _)[x]? with|some (.cells cs _ _)=>some cs.size|some (.map _ _)=>some 0|_=>none)=some N;rw[Array.getElem?_modify,if_pos rfl];cases ho:w.heap[x]? with
 |none=>rw[ho] at hx;cases hx
 |some o=>
  rw[ho] at hx;cases o <;> simp_all
 unfold aI_ at hx⊢;rw[hh x hxg];exact hx
set_option maxHeartbeats 2000000 in
theorem ds_run (b bj cap:Nat) (q:List UInt8) (w:World) (cs ck:Array Value) (h0:q≠[]) (hb:w.heap[b]?=some (.cells cs 174 (0,0))) (hc1:cs[1]?=some (.slice (some ⟨bj,0,none⟩) q.length cap)) (hl:q.length≤cap) (hm:cap≤maxLen) (hne:b≠bj) (hj:w.heap[bj]?=some (.cells ck 5 (0,0))) (hck:cap≤ck.size)
    (hq:∀(k:Nat) (x:UInt8),q[k]?=some x→ck[k]?=some (Value.int .u8 x.toNat)):Calls Tryz.prog 105 #[.pointer (some ⟨b,0,none⟩)] w fun e w'=>e= .returned (.string ⟨q.toArray⟩)∧But bj w w':=by
 have hl0:q.length≠0:=by simpa using h0
 have c1:w.drew.cell? ⟨b,1,none⟩=some (.slice (some ⟨bj,0,none⟩) q.length cap):=by
  have:w.drew.heap[b]?=some (.cells cs 174 (0,0)):=hb;simp[World.cell?,this,hc1]
 have hSD:(Builtin.unsafeSliceData_ #[172] 217 #[.slice (some ⟨bj,0,none⟩) q.length cap]).run Tryz.prog w.drew= .ok (.pointer (some ⟨bj,0,none⟩)) w.drew:=
  Lib.run_unsafeSliceData_row _ _ _ _ _ _ (by omega)
 have hUS:(Builtin.unsafeString_ #[217,3] 9 #[.pointer (some ⟨bj,0,none⟩),.int .i64 q.length]).run Tryz.prog w.drew= .ok (.string ⟨q.toArray⟩) (w.drew.freeze ⟨bj,0,none⟩ q.length):=by
  refine Lib.run_unsafeString_row w.drew 217 3 9 5 ub_byte ub_cells bj ck.size (by have hg':w.drew.heap[bj]?=some (.cells ck 5 (0,0)):=hj;simp[World.shape?,hg']) q h0 (by omega) (by unfold maxLen at hm;omega) ?_;intro j x hx;have hg':w.drew.heap[bj]?=some (.cells ck 5 (0,0)):=hj;rw[show(⟨bj,0,none⟩:Addr).add j=⟨bj,0+j,none⟩ from e7_ bj 0 j];simp[World.cell?,hg',hq j x hx]
 have mixed:=hmix
 go_enter Tryz.func105,Tryz.ntmps105
 go_wp2
 go_region_o
 all_goals (go_wp2;go_ret;exact⟨rfl,pS_ w bj q.length⟩)
theorem i8_:DSpec Tryz.prog 105 174 5:=
 ⟨fun xs w=>i7_ Tryz.func105 rfl (by kernel_rfl) xs w,fun b bj cap q w cs ck h0 hb hc1 hl hm hne hj hck hq=>ds_run b bj cap q w cs ck h0 hb hc1 hl hm hne hj hck hq⟩
end Go.Proofs.YtjkddcfoolilbaaGreatDoor
namespace Go.Proofs.YtjkddcfoolilbaaGreatDoor
open Go.Abs
set_option maxRecDepth 20000
theorem bE_(a b:Rat)(h:qs a+qs b≤549755813888):FS 40 [.agg (qC a),.agg (qC b)] (.agg (qC (a* b))):=by
 have hp:=iD_ a b;have h1:=b5_ a;have h2:=bP_ a;have h3:=b5_ b;have h4:=bP_ b;rw[ge_];refine f_c Tryz.func40 ?_;refine r_z 3 ?_;refine ab_ (r_d hmix 12 ?_);refine c_s (m4_ a.num b.num (by omega)) ?_;refine c_s (ci_ a (by omega)) ?_;refine c_s (ci_ b (by omega)) ?_;refine c_s (dl_ a.den b.den (by omega)) ?_;refine c_s (h1_ (a.num* b.num) (a.den* b.den) (fo_ a b) (by omega)) ?_;refine a_1 ?_;refine ak_ (n_k ?_);exact ag_ (c_e (aC_ _))
theorem pZ_(n:Nat):zI (n:Int)=[mag n,bln false]:=by
 unfold zI;rw[Int.natAbs_natCast];rfl
theorem oq_(x:Int)(n:Nat)(h:bl x.natAbs+bl n≤17592186044416):FS 111 [.agg (zI x),.agg [mag n,bln false]] (.agg (zI (x* n))):=by
 have:=m4_ x n (by simpa using h);rwa[pZ_] at this
theorem c6_(a b:Rat)(h:qs a+qs b≤549755813888):FS 89 [.agg (qC a),.agg (qC b)] (.agg (qC (a+b))):=by
 have hp:=jk_ a b;have h1:=b5_ a;have h2:=bP_ a;have h3:=b5_ b;have h4:=bP_ b;have e1:=cb_ (x:=a.num) (y:=b.den) h1 (by simpa using h4);have e2:=cb_ (x:=b.num) (y:=a.den) h3 (by simpa using h2);rw[jl_];refine f_c Tryz.func89 ?_;refine r_z 3 ?_;refine ab_ (r_d hmix 8 ?_);refine c_s (ci_ a (by omega)) ?_;refine c_s (ci_ b (by omega)) ?_;refine a_4 ?_;refine ak_ (n_k ?_);refine ab_ (r_d hmix 16 ?_);refine c_s (oq_ a.num b.den (by omega)) ?_;refine c_s (oq_ b.num a.den (by omega)) ?_;refine c_s (fs_iadd (a.num* b.den) (b.num* a.den) (by omega)) ?_;refine c_s (dl_ a.den b.den (by omega)) ?_;refine c_s (h1_ (a.num* b.den+b.num* a.den) (a.den* b.den) (fo_ a b) (by omega)) ?_;refine a_1 ?_;refine ak_ (n_k ?_);exact ag_ (c_e (aC_ _))
theorem qU_(a:Rat):qC (-a)=zI (sgn (!decide (a.num< 0)) a.num.natAbs)++[mag (a.den- 1)]:=by
 unfold qC;rw[Rat.neg_num,Rat.neg_den]
 have e: -a.num=sgn (!decide (a.num< 0)) a.num.natAbs:=by
  unfold sgn;by_cases h:a.num< 0;simp[h];omega;simp[h];omega
 rw[e];rfl
theorem hg_(a:Rat):FS 126 [.agg (qC a)] (.agg (qC (-a))):=by
 have hc:=aC_ (-a);rw[qU_] at hc⊢;refine f_c Tryz.func126 ?_;refine r_z 2 ?_;refine ab_ (r_d hmix 12 ?_);refine c_s (cC_ (!decide (a.num< 0)) a.num.natAbs) ?_;refine a_4 ?_;refine ak_ (n_k ?_);exact ag_ (c_e (hc))
theorem gm_(a b:Rat)(h:qs a+qs b≤549755813888):FS 100 [.agg (qC a),.agg (qC b)] (.agg (qC (a- b))):=by
 have hs:=c6_ a (-b) (by rw[dA_];exact h);rw[←Rat.sub_eq_add_neg] at hs;refine f_c Tryz.func100 ?_;refine r_z 3 ?_;refine ab_ (r_d hmix 5 ?_);refine c_s (hg_ b) ?_;refine c_s (hs) ?_;refine a_1 ?_;refine ak_ (n_k ?_);exact ag_ (c_e (aC_ _))
theorem fs_qover(a b:Rat)(hb:b≠0)(h:qs a+qs b≤549755813888):FS 153 [.agg (qC a),.agg (qC b)] (.agg (qC (a/ b))):=by
 have hp:=mg_ a b;have h1:=b5_ a;have h2:=bP_ a;have h3:=b5_ b;have h4:=bP_ b;have hn:b.num≠0:=fun h=>hb (Rat.num_eq_zero.1 h);have hs:=cS_ (decide (b.num< 0)) b.den;rw[ja_ a b hb];refine f_c Tryz.func153 ?_;refine r_z 3 ?_;refine ab_ (r_d hmix 17 ?_);refine c_s (ci_ b (by omega)) ?_;refine c_s (cC_ (decide (b.num< 0)) b.den) ?_;refine c_s (m4_ a.num (sgn (decide (b.num< 0)) b.den) (by rw[hs];omega)) ?_;refine c_s (ci_ a (by omega)) ?_;refine c_s (dl_ a.den b.num.natAbs (by omega)) ?_;refine c_s (h1_ (a.num* sgn (decide (b.num< 0)) b.den) (a.den* b.num.natAbs) (Nat.mul_pos a.den_pos (by omega)) (by omega)) ?_;refine a_1 ?_;refine ak_ (n_k ?_);exact ag_ (c_e (aC_ _))
theorem rJ_(a b:Rat)(hb:b≠0)(h:qs a+qs b≤549755813888):FS 93 [.agg (qC a),.agg (qC b)] (.tup [.agg (qC (a/ b)),i64 0]):=by
 have hn:b.num≠0:=fun h=>hb (Rat.num_eq_zero.1 h);have hsg:sgZ b.num≠0:=by unfold sgZ;rw[if_neg hn];split <;> decide
 refine f_c Tryz.func93 ?_;refine r_z 4 ?_;refine ab_ (r_c 3 (bt_ b) ?_);refine a_z ?_;refine aj_ rfl (fun h=>?_) (fun h=>?_);exact absurd h (by simpa using hsg);refine ah_ (r_c 5 (fs_qover a b hb (by assumption)) ?_);refine a_z ?_;refine ag_ (Fin.many ⟨_,_,rfl,⟨_,_,_,_,_,rfl,rfl,rfl,.inl ⟨TG.h,_,TS.h,nle rfl,rfl⟩⟩,⟨_,_,rfl,rfl,rfl⟩⟩ (nle rfl) ?_);exact ae_ (ai_ as_ (aC_ _)) (ae_ (ai_ as_ (ad_ _)) am_)
theorem sp_(x:Int)(n:Nat)(hn:0< n):(sgZ x= -1∧∃p:Nat,0< p∧x* n= -(p:Int)∧x.natAbs* n=p)∨(sgZ x=0∧x* n=0∧x.natAbs* n=0)∨(sgZ x=1∧∃p:Nat,0< p∧x* n=p∧x.natAbs* n=p):=by
 rcases Int.lt_trichotomy x 0 with hx|hx|hx
 refine .inl ⟨by unfold sgZ;rw[if_neg (by omega),if_pos hx],x.natAbs* n,Nat.mul_pos (by omega) hn,?_,rfl⟩;rw[Int.natCast_mul,←Int.neg_mul];congr 1;omega;subst hx;refine .inr (.inl ⟨rfl,by simp,by simp⟩);refine .inr (.inr ⟨by unfold sgZ;rw[if_neg (by omega),if_neg (by omega)],x.natAbs* n,Nat.mul_pos (by omega) hn,?_,rfl⟩);rw[Int.natCast_mul];congr 1;omega
theorem cmp_code(a b:Rat):cmpQ a b=if sgZ a.num≠sgZ b.num∨sgZ a.num=0 then sgZ a.num- sgZ b.num- (sgZ a.num- sgZ b.num).tdiv 2 else sgZ a.num* cmpZ ((a.num.natAbs* b.den:Nat):Int) ((b.num.natAbs* a.den:Nat):Int):=by
 rw[cmpQ_eq];rcases sp_ a.num b.den b.den_pos with⟨s1,p,hp,e1,f1⟩|⟨s1,e1,f1⟩|⟨s1,p,hp,e1,f1⟩<;> rcases sp_ b.num a.den a.den_pos with⟨s2,q,hq,e2,f2⟩|⟨s2,e2,f2⟩|⟨s2,q,hq,e2,f2⟩<;> rw[s1,s2,e1,e2,f1,f2]<;> unfold cmpZ <;> simp <;>(repeat' split)<;> first|rfl|omega
theorem l0_(a b:Rat)(ha:sm a)(hb:sm b):FS 25 [.agg (qC a),.agg (qC b)] (i64 (cmpQ a b)):=by
 have hs:=sm2 ha hb;have h1:=b5_ a;have h2:=bP_ a;have h3:=b5_ b;have h4:=bP_ b;have hc:=cmp_code a b;have hsa:sgZ a.num= -1∨sgZ a.num=0∨sgZ a.num=1:=by unfold sgZ;split;simp;split <;> simp
 have hsb:sgZ b.num= -1∨sgZ b.num=0∨sgZ b.num=1:=by unfold sgZ;split;simp;split <;> simp
 have hbm1:=es_ a.num.natAbs b.den;have hbm2:=es_ b.num.natAbs a.den;refine f_c Tryz.func25 ?_;refine r_z 3 ?_;refine ab_ (ab_ (r_d hmix 6 ?_));refine c_s (bt_ a) ?_;refine c_s (bt_ b) ?_;refine a_2 ?_;refine ak_ (n_k ?_);obtain⟨x,hx⟩:∃x,x=sgZ a.num:=⟨_,rfl⟩;obtain⟨y,hy⟩:∃y,y=sgZ b.num:=⟨_,rfl⟩;rw[←hx] at hsa hc⊢;rw[←hy] at hsb hc⊢
 have hq:(x- y).tdiv 2= -1∨(x- y).tdiv 2=0∨(x- y).tdiv 2=1:=by
  rcases hsa with h|h|h <;> rcases hsb with h'|h'|h' <;> rw[h,h']<;> decide
 refine av_ (fun _:Unit=>⟨[(2,.lptr 1 0 0),(3,.lptr 2 0 0)],[(1,some ⟨46,3,[qC a]⟩),(2,some ⟨46,3,[qC b]⟩)],3,42⟩) (fun _=>x=y∧x≠0) ?_ ?_;by_cases he:x=y;refine s_r 7 ?_;refine a_4 ?_;refine y_g rfl (by simp[he]) (.move rfl) ?_;refine y_g rfl (by simp[he]) (.bin rfl rfl aS_) ?_;refine o_0 (.pickF rfl (by simp[he]) rfl) ?_;refine ak_ ?_;refine aj_ rfl (fun h=>?_) (fun h=>?_);have h0:x=0:=by simpa using h
 refine s_r 9 ?_;refine a_6 ?_;refine o_0 (.bin rfl rfl (jh_ (by decide) (by omega))) ?_;refine a_z ?_;refine ag_ (aH_ rfl ?_ (ad_ _));rw[hc,if_pos (.inr h0)];rfl;have h0:x≠0:=by simpa using h
 refine ah_ ⟨(),⟨he,h0⟩,?_⟩;exact s_e [];refine s_r 7 ?_;refine a_4 ?_;refine n_g rfl (by simp[he]) ?_;refine n_g rfl (by simp[he]) ?_;refine o_0 (.pickT rfl (by simp[he]) rfl) ?_;refine ak_ ?_;refine aj_ rfl (fun h=>?_) (fun h=>?_);refine s_r 9 ?_;refine a_6 ?_;refine o_0 (.bin rfl rfl (jh_ (by decide) (by omega))) ?_;refine a_z ?_;refine ag_ (aH_ rfl ?_ (ad_ _));rw[hc,if_pos (.inl he)];rfl;cases h;rintro _ ⟨he,h0⟩
 have hcz:cmpZ ((a.num.natAbs* b.den:Nat):Int) ((b.num.natAbs* a.den:Nat):Int)= -1∨cmpZ ((a.num.natAbs* b.den:Nat):Int) ((b.num.natAbs* a.den:Nat):Int)=0∨cmpZ ((a.num.natAbs* b.den:Nat):Int) ((b.num.natAbs* a.den:Nat):Int)=1:=by
  unfold cmpZ;split;simp;split <;> simp
 have hsx:=bt_ a;rw[←hx] at hsx
 have hmul: -9223372036854775808≤x* cmpZ ((a.num.natAbs* b.den:Nat):Int) ((b.num.natAbs* a.den:Nat):Int)∧x* cmpZ ((a.num.natAbs* b.den:Nat):Int) ((b.num.natAbs* a.den:Nat):Int)≤9223372036854775807:=by
  rcases hsa with h|h|h <;> rcases hcz with h'|h'|h' <;> rw[h,h']<;> decide
 refine ab_ (r_d hmix 17 ?_);refine c_s (hsx) ?_;refine c_s (ci_ b (by omega)) ?_;refine c_s (dl_ a.num.natAbs b.den (by omega)) ?_;refine c_s (ci_ a (by omega)) ?_;refine c_s (dl_ b.num.natAbs a.den (by omega)) ?_;refine c_s (gV_ (a.num.natAbs* b.den) (b.num.natAbs* a.den) (by omega)) ?_;refine o_0 (.bin rfl rfl (k8_ hmul)) ?_;refine a_1 ?_;refine ak_ (n_k ?_);refine ag_ (aH_ rfl ?_ (ad_ _));rw[hc,if_neg (by omega)];rfl
theorem jN_(a:Rat):FS 98 [.agg (qC a)] (.agg (qC (absQ a))):=by
 have hc:=aC_ (absQ a);rw[qC_abs] at hc⊢;refine f_c Tryz.func98 ?_;refine r_z 2 ?_;refine ab_ (r_d hmix 8 ?_);refine c_s (cC_ false a.num.natAbs) ?_;refine a_4 ?_;refine ak_ (n_k ?_);exact ag_ (c_e (hc))
theorem fs_den(a:Rat)(ha:sm a):FS 285 [.agg (qC a)] (.agg (qC ((a.den:Int):Rat))):=by
 have hw:=hZ_ (a.den:Int);rw[pZ_] at hw;refine f_c Tryz.func285 ?_;refine r_z 2 ?_;refine r_c 5 (ci_ a (by unfold sm at ha;omega)) ?_;refine c_s (hw) ?_;refine a_z ?_;exact ag_ (c_e (aC_ _))
theorem sb_{z q:Int}{d:Nat}(hd:0< d)(h1:q* d≤z)(h2:z< q* d+d):z/ (d:Int)=q:=by
 have hdi:(0:Int)< d:=by omega
 have a1:q≤z/ (d:Int):=(Int.le_ediv_iff_mul_le hdi).2 h1;have a2:z/ (d:Int)< q+1:=(Int.ediv_lt_iff_lt_mul hdi).2 (by rw[Int.add_mul];omega);omega
theorem jP_(z:Int)(d:Nat)(hd:0< d):z/ (d:Int)=sgn (decide (z< 0)) (if (decide (z< 0) && !(z.natAbs % d==0))=true then z.natAbs/ d+1 else z.natAbs/ d):=by
 have h1:=Nat.div_add_mod z.natAbs d;have h2:=Nat.mod_lt z.natAbs hd;generalize hr:z.natAbs % d=r at *
 generalize hq:z.natAbs/ d=a at *
 have h3:((d* a:Nat):Int)=(a:Int) * d:=by rw[Int.natCast_mul,Int.mul_comm]
 refine sb_ hd ?_ ?_ <;> by_cases hz:z< 0 <;> by_cases h0:r=0 <;> simp[sgn,hz,h0,Int.neg_mul,Int.add_mul]<;> omega
theorem rH_(z:Int)(d:Nat)(hd:0< d)(h:bl z.natAbs+bl d≤4398046511104):FS 284 [.agg (zI z),.agg [mag d]] (.agg (zI (z/ d))):=by
 rw[jP_ z d hd];have hbq:=cG_ z.natAbs d;have hb1:=oV_ (z.natAbs/ d) 1;have hb2:bl 1=1:=fH_;obtain⟨Q,hQ⟩:∃Q,Q=(if (decide (z< 0) && !(z.natAbs % d==0))=true then z.natAbs/ d+1 else z.natAbs/ d):=⟨_,rfl⟩;rw[←hQ];refine f_c Tryz.func284 ?_;refine r_z 3 ?_;refine r_c 11 (kE_ z.natAbs d h hd) ?_;refine a_z ?_;refine aQ_ (fun _:Unit=>⟨[(2,.lptr 1 0 0),(4,.lptr 2 0 0),(5,.lptr 3 0 0)],[(1,some ⟨44,2,[zI z]⟩),(2,some ⟨44,2,[[.emp,bln false]]⟩),(3,some ⟨42,1,[[mag Q]]⟩)],4,28⟩) (fun _=>True) ?_ ?_;by_cases hz:z< 0;refine s_r 7 ?_;refine a_3 ?_;refine y_g rfl (by simp[hz]) (.load_l rfl rfl rfl TG.h TS.h (nle rfl)) ?_;refine y_g rfl (by simp[hz]) (.call rfl rfl rfl (eC_ (z.natAbs % d))) ?_;refine y_g rfl (by simp[hz]) (.un rfl cJ_) ?_;refine o_0 (.pickT rfl (by simp[hz]) rfl) ?_;refine ak_ ?_;refine aj_ rfl (fun h1=>?_) (fun h1=>?_);have:Q=z.natAbs/ d+1:=by rw[hQ,if_pos];simpa[hz] using h1
 rw[this];refine r_d hmix 4 ?_;refine c_s (dm_ 1 (by decide)) ?_;refine c_s (m1_ (z.natAbs/ d) 1 (by omega)) ?_;refine a_1 ?_;refine ak_ (n_k ?_);refine⟨(),trivial,?_⟩;exact s_e [(2,4),(3,5)];have:Q=z.natAbs/ d:=by rw[hQ,if_neg];simpa[hz] using h1
 rw[this];refine ah_ ⟨(),trivial,?_⟩;exact s_e [(2,4),(3,5)];refine s_r 7 ?_;refine a_3 ?_;refine n_g rfl (by simp[hz]) ?_;refine n_g rfl (by simp[hz]) ?_;refine n_g rfl (by simp[hz]) ?_;refine o_0 (.pickF rfl (by simp[hz]) rfl) ?_;refine ak_ ?_;have:Q=z.natAbs/ d:=by rw[hQ,if_neg];simp[hz]
 rw[this];refine aj_ rfl (fun h=>?_) (fun h=>ah_ ⟨(),trivial,?_⟩);cases h;exact s_e [(2,4),(3,5)];rintro _ _;refine r_c 5 (cC_ (decide (z< 0)) Q) ?_;refine a_z ?_;exact ag_ (c_e (dX_ _))
theorem h4_(q:Rat)(h:qs q≤1099511627776):FS 257 [.agg (qC q)] (.agg (qC (q.floor:Rat))):=by
 have h1:=b5_ q;have h2:=bP_ q;rw[Rat.floor_def];refine f_c Tryz.func257 ?_;refine r_z 2 ?_;refine ab_ (r_d hmix 7 ?_);refine c_s (ci_ q h) ?_;refine c_s (rH_ q.num q.den q.den_pos (by omega)) ?_;refine c_s (hZ_ (q.num/ q.den)) ?_;refine a_1 ?_;refine ak_ (n_k ?_);exact ag_ (c_e (aC_ _))
def ceilQ(q:Rat):Rat:= -((-q).floor:Rat)
theorem rL_(q:Rat)(h:qs q≤1099511627776):FS 258 [.agg (qC q)] (.agg (qC (ceilQ q))):=by
 refine f_c Tryz.func258 ?_;refine r_z 2 ?_;refine r_c 5 (hg_ q) ?_;refine c_s (h4_ (-q) (by rw[dA_];exact h)) ?_;refine c_s (hg_ ((-q).floor:Rat)) ?_;refine a_z ?_;exact ag_ (c_e (aC_ _))
def wi(k:Int)(m:Nat):Nat:=(max 0 (min k m)).toNat
theorem rv_(k:Int)(m:Nat):FS 288 [i64 k,i64 m] (i64 (wi k m)):=by
 refine f_c Tryz.func288 ?_;refine r_z 1 ?_;refine r_z 5 ?_;refine ag_ (aH_ rfl ?_ ?_);simp only[i64,wi];congr 2;split <;> split <;> omega;exact ad_ _
def powS:Nat×Nat×Nat→AState
 |(o,x,m)=>⟨[(1,i64 m),(2,.lptr 1 0 0),(4,.lptr 2 0 0),(5,.lptr 3 0 0)],[(1,some ⟨42,1,[[mag x]]⟩),(2,some ⟨42,1,[[.emp]]⟩),(3,some ⟨42,1,[[mag o]]⟩)],4,23⟩
theorem fR_(o:Nat)(x:Nat)(m:Nat):powS (o,x,m)=⟨[(1,i64 m),(2,.lptr 1 0 0),(4,.lptr 2 0 0),(5,.lptr 3 0 0)],[(1,some ⟨42,1,[[mag x]]⟩),(2,some ⟨42,1,[[.emp]]⟩),(3,some ⟨42,1,[[mag o]]⟩)],4,23⟩:=rfl
theorem ph_(x m:Nat):x^ m=(x* x) ^ (m/ 2) * (if m % 2=1 then x else 1):=by
 rw[←Nat.pow_two,←Nat.pow_mul];have:=Nat.div_add_mod m 2;split
 ·rename_i h;rw[←Nat.pow_succ];congr 1;omega
 ·rename_i h;rw[Nat.mul_one];congr 1;omega
theorem rE_(a n:Nat)(h:bl a* n≤2199023255552)(hn:n≤1000000):FS 287 [.agg [mag a],i64 n] (.agg [mag (a^ n)]):=by
 refine f_c Tryz.func287 ?_;refine r_z 2 ?_;refine r_c 3 (dm_ 1 (by decide)) ?_;refine a_z ?_;refine aQ_ (fun _:Unit=>⟨[(4,.lptr 2 0 0),(5,.lptr 3 0 0)],[(2,some ⟨42,1,[[.emp]]⟩),(3,some ⟨42,1,[[mag (a^ n)]]⟩)],4,23⟩) (fun _=>True) ?_ ?_;refine af_ (aq_ powS (fun x=>x.2.2) (fun x=>x.1* x.2.1^ x.2.2=a^ n∧bl x.1+bl x.2.1* x.2.2≤2199023255553∧x.2.2≤1000000) (1,a,n) ⟨by simp,by have:bl 1=1:=fH_;simp only;omega,hn⟩ ?_ ?_);rw[fR_];exact s_e [(1,2),(2,4),(3,5)];rintro⟨o,x,m⟩ ⟨hv,hb,hm⟩;simp only at hv hb hm;rw[fR_];refine ab_ (r_z 2 ?_);refine aj_ rfl (fun h=>?_) (fun h=>?_);have hm0:0< m:=by simpa using h
 have hx1:bl x* 1≤bl x* m:=Nat.mul_le_mul_left _ hm0;have hph:=ph_ x m;refine ah_ ?_
 have hq:(m:Int).tdiv 2=((m/ 2:Nat):Int):=by
  rw[Int.tdiv_eq_ediv_of_nonneg (by omega)];omega
 have hdm:=Nat.div_add_mod m 2;have hml:=Nat.mod_lt m (show 0< 2 by decide);have hlt:m/ 2< m:=by omega
 have hbx:=es_ x x;have hbo:=es_ o x;have hxm:bl x* m=bl x* (2* (m/ 2))+bl x* (m % 2):=by rw[←Nat.mul_add];congr 1;omega
 have hx2:bl (x* x) * (m/ 2)≤bl x* (2* (m/ 2)):=by
  have:=Nat.mul_le_mul_right (m/ 2) hbx;rw[←Nat.two_mul,Nat.mul_comm 2,Nat.mul_assoc] at this;exact this
 have hI:(m:Int) % 2=((m % 2:Nat):Int):=by omega
 have hI2:(m:Int) / 2=((m/ 2:Nat):Int):=by omega
 refine ab_ (af_ (aQ_ (fun o':Nat=>powS (o',x,m)) (fun o'=>o'=o* (if m % 2=1 then x else 1)) ?_ ?_));refine r_z 3 ?_;refine aj_ rfl (fun h1=>?_) (fun h1=>?_);have hodd:m % 2=1:=by simp at h1;omega
 refine r_m 4 ?_;refine c_s (dl_ o x (by omega)) ?_;refine a_z ?_;refine⟨o* x,by rw[if_pos hodd],?_⟩;simp only[fR_];exact s_e [];have hev:¬m % 2=1:=by simp at h1;omega
 refine ah_ ⟨o,by rw[if_neg hev,Nat.mul_one],?_⟩;simp only[fR_];exact s_e [];rintro o' ho';rw[fR_]
 have hbo':bl o'≤bl o+bl x* (m % 2):=by
  rw[ho'];split
  ·rename_i h1;rw[h1];omega
  rw[Nat.mul_one];omega
 have hv':o'* (x* x) ^ (m/ 2)=a^ n:=by
  rw[←hv,hph,ho',Nat.mul_assoc,Nat.mul_comm (if m % 2=1 then x else 1)]
 refine r_z 2 ?_;refine aj_ rfl (fun h2=>?_) (fun h2=>?_);refine r_m 4 ?_;refine c_s (dl_ x x (by omega)) ?_;refine a_z ?_;refine r_m 3 ?_;refine a_z ?_;refine⟨(o',x* x,m/ 2),hlt,⟨hv',by simp only;omega,by simp only;omega⟩,?_⟩;rw[fR_];have:=(congrArg (fun z=>AV.v (.int .i64 z)) hI2);exact s_f [];have hm1:m/ 2=0:=by simp at h2;omega
 refine ah_ (r_m 3 ?_);refine a_z ?_;rw[hm1] at hv' hI2;refine⟨(o',x,0),hm0,⟨by simpa using hv',by simp only;omega,by simp only;omega⟩,?_⟩;rw[fR_];have:=(congrArg (fun z=>AV.v (.int .i64 z)) hI2);exact s_f [];have hm0:m=0:=by simp at h;omega
 subst hm0;refine ao_ ⟨(),trivial,?_⟩;have hv':o=a^ n:=by simpa using hv
 rw[hv'];exact s_e [];rintro _ _;refine r_z 2 ?_;exact ag_ (c_e (closed_mA _))
theorem fs_two(k:Int):FS 264 [i64 k] (.agg [mag (2^ wi k 256)]):=by
 have hw:wi k 256≤256:=by unfold wi;omega
 have h2:bl 2=2:=by decide
 refine f_c Tryz.func264 ?_;refine r_z 1 ?_;refine r_c 5 (dm_ 2 (by decide)) ?_;refine c_s (rv_ k 256) ?_;refine c_s (rE_ 2 (wi k 256) (by rw[h2];omega) (by omega)) ?_;refine a_z ?_;exact ag_ (c_e (closed_mA _))
theorem sw_(k:Nat):bl (2^ k)≤k+1:=bl_le (by rw[Nat.pow_succ];have:=Nat.pow_pos (n:=k) (show 0< 2 by decide);omega)
theorem iY_(k:Int):FS 230 [i64 k] (.agg (qC (fineQ (wi k 256)))):=by
 have hw:wi k 256≤256:=by unfold wi;omega
 have hb:=sw_ (wi k 256);have h1:bl (1:Int).natAbs=1:=fH_;refine f_c Tryz.func230 ?_;refine r_z 1 ?_;refine r_c 5 (oo_ 1 (by decide)) ?_;refine c_s (fs_two k) ?_;refine c_s (h1_ 1 (2^ wi k 256) (Nat.pow_pos (by decide)) (by omega)) ?_;refine a_z ?_;exact ag_ (c_e (aC_ _))
def twoQ(k:Nat):Rat:=((2^ k:Nat):Int)
theorem mQ_(k:Nat):qs (twoQ k)≤k+1:=by
 have h1:(twoQ k).num=((2^ k:Nat):Int):=rfl;have h2:(twoQ k).den=1:=rfl;unfold qs;rw[h1,h2,Int.natAbs_natCast,fH_];have:=sw_ k;omega
theorem n0_(k:Nat):qs (fineQ k)≤k+1:=by
 have h1:bl (1:Int).natAbs=1:=fH_;exact c0_ (Nat.pow_pos (by decide)) (by omega) (sw_ k)
theorem lX_(a:Rat)(k:Int)(h:qs a≤549755813000):FS 256 [.agg (qC a),i64 k] (.agg (qC (a* twoQ (wi k 256)))):=by
 have hw:wi k 256≤256:=by unfold wi;omega
 have h2:=mQ_ (wi k 256);have hwh:=hZ_ ((2^ wi k 256:Nat):Int);rw[pZ_] at hwh;refine f_c Tryz.func256 ?_;refine r_z 2 ?_;refine ab_ (r_d hmix 7 ?_);refine c_s (fs_two k) ?_;refine c_s (hwh) ?_;refine c_s (bE_ a (twoQ (wi k 256)) (by omega)) ?_;refine a_1 ?_;refine ak_ (n_k ?_);exact ag_ (c_e (aC_ _))
def downQ(a:Rat)(k:Nat):Rat:=((a* twoQ k).floor:Rat) * fineQ k
def upQ(a:Rat)(k:Nat):Rat:=ceilQ (a* twoQ k) * fineQ k
theorem nZ_(a:Rat):qs (a.floor:Rat)≤qs a+1:=by
 rw[Rat.floor_def];have h1:=b5_ a;have e1:((a.num/ (a.den:Int):Int):Rat).num=a.num/ a.den:=rfl;have e2:((a.num/ (a.den:Int):Int):Rat).den=1:=rfl;have h3:1≤bl a.den:=bl_pos a.den_pos;have h4:=bP_ a;unfold qs at *
 rw[e1,e2,fH_,jP_ _ _ a.den_pos,cS_];have h5:=cG_ a.num.natAbs a.den;have h6:=oV_ (a.num.natAbs/ a.den) 1;have h7:bl 1=1:=fH_;split <;> omega
theorem qs_ceilQ(a:Rat):qs (ceilQ a)≤qs a+1:=by
 unfold ceilQ;rw[dA_];have:=nZ_ (-a);rwa[dA_] at this
theorem rY_(a:Rat)(k:Int)(h:sm a):FS 221 [.agg (qC a),i64 k] (.agg (qC (downQ a (wi k 256)))):=by
 unfold sm at h;have hw:wi k 256≤256:=by unfold wi;omega
 have h2:=mQ_ (wi k 256);have h3:=bH_ a (twoQ (wi k 256));have h4:=nZ_ (a* twoQ (wi k 256));have h5:=n0_ (wi k 256);refine f_c Tryz.func221 ?_;refine r_z 2 ?_;refine r_c 8 (lX_ a k (by omega)) ?_;refine c_s (h4_ (a* twoQ (wi k 256)) (by omega)) ?_;refine c_s (iY_ k) ?_;refine c_s (bE_ ((a* twoQ (wi k 256)).floor:Rat) (fineQ (wi k 256)) (by omega)) ?_;refine a_z ?_;exact ag_ (c_e (aC_ _))
theorem fs_Up(a:Rat)(k:Int)(h:sm a):FS 222 [.agg (qC a),i64 k] (.agg (qC (upQ a (wi k 256)))):=by
 unfold sm at h;have hw:wi k 256≤256:=by unfold wi;omega
 have h2:=mQ_ (wi k 256);have h3:=bH_ a (twoQ (wi k 256));have h4:=qs_ceilQ (a* twoQ (wi k 256));have h5:=n0_ (wi k 256);refine f_c Tryz.func222 ?_;refine r_z 2 ?_;refine r_c 8 (lX_ a k (by omega)) ?_;refine c_s (rL_ (a* twoQ (wi k 256)) (by omega)) ?_;refine c_s (iY_ k) ?_;refine c_s (bE_ (ceilQ (a* twoQ (wi k 256))) (fineQ (wi k 256)) (by omega)) ?_;refine a_z ?_;exact ag_ (c_e (aC_ _))
def dec2(n:Nat):List UInt8:=if n< 10 then [48+n.toUInt8] else [48+(n/ 10).toUInt8,48+(n % 10).toUInt8]
theorem k0_(s:ByteArray)(l h:Nat)(zl zh:Int)(el:zl=(l:Int))(eh:zh=(h:Int))(hlh:l≤h)(hh:h≤s.size):∀w,(Instr.sliceAt 9 (.string s) (some (.int .i64 zl)) (some (.int .i64 zh)) none).run Tryz.prog w= .ok (.string (s.extract l h)) w:=fun w=>by
 subst el eh;have b1:∀(i y:Nat) (c:BoundsCode),i≤y→(Instr.sliceBound (.int .i64 (i:Int)) y c).run Tryz.prog w= .ok i w:=fun i y c hi=>ch_ hi c w
 have hr:(Instr.slice 9 (.string s) (some (.int .i64 (l:Int))) (some (.int .i64 (h:Int))) none).run Tryz.prog w= .ok (.string (s.extract l h)) w:=by
  simp[Instr.slice,run_underlying dL_,Instr.sliceBounds,b1 h s.size _ hh,b1 l h _ hlh,Result.andThen]
 unfold Instr.sliceAt;rw[Sem.run_bind,run_underlying dL_];exact hr
def smallsB:ByteArray:=⟨((List.range 100).flatMap fun n=>[48+(n/ 10).toUInt8,48+(n % 10).toUInt8]).toArray⟩
theorem ry_(i:Nat)(h:i< 100):FS 237 [i64 i] (tx (dec2 i)):=by
 refine f_c Tryz.func237 ?_;refine r_z 1 ?_;refine ab_ (r_z 2 ?_);refine aj_ rfl (fun h1=>?_) (fun h1=>?_);have h2:i< 10:=by simp at h1;omega
 refine s_r 5 ?_;refine a_3 ?_;refine o_0 (.slice_v rfl rfl rfl rfl (k0_ _ i (i+1) _ _ rfl (by omega) (by omega) (by exact Nat.le_trans (m:=10) (by omega) (by decide)))) ?_;refine a_z ?_;refine ag_ (aH_ rfl ?_ ?_);have key:∀i,i< 10→(ByteArray.mk #[48,49,50,51,52,53,54,55,56,57,97,98,99,100,101,102,103,104,105,106,107,108,109,110,111,112,113,114,115,116,117,118,119,120,121,122]).extract i (i+1)=⟨(dec2 i).toArray⟩:=by decide
 exact congrArg (fun s=>AV.v (.string s)) (key i h2);exact ad_ _;have h2:10≤i:=by simp at h1;omega
 refine ah_ (s_r 7 ?_);refine a_5 ?_;refine o_0 (.slice_v rfl rfl rfl rfl (k0_ _ (i* 2) (i* 2+2) _ _ (by omega) (by omega) (by omega) (by exact Nat.le_trans (m:=200) (by omega) (by decide)))) ?_;refine a_z ?_;refine ag_ (aH_ rfl ?_ ?_);have key:∀i,i< 100→10≤i→smallsB.extract (i* 2) (i* 2+2)=⟨(dec2 i).toArray⟩:=by decide
 refine congrArg (fun s=>AV.v (.string s)) (Eq.trans (congrArg (fun s:ByteArray=>s.extract _ _) (?_:_=smallsB)) (key i h h2))
 kernel_rfl
 exact ad_ _
theorem l5_(i:Nat)(h:i< 100):FS 197 [i64 i,i64 10] (tx (dec2 i)):=by
 refine f_c Tryz.func197 ?_;refine r_z 1 ?_;refine ab_ (r_z 2 ?_);refine aj_ rfl (fun h1=>?_) (fun h1=>?_);refine ab_ (s_r 6 ?_);refine a_3 ?_;refine y_g rfl (by simp) (.move rfl) ?_;refine y_g rfl (by simp) (.bin rfl rfl aT_) ?_;refine o_0 (.pickT rfl (by simp) rfl) ?_;refine ak_ ?_;refine aj_ rfl (fun h2=>?_) (fun h2=>?_);refine r_c 3 (ry_ i h) ?_;refine a_z ?_;exact ag_ (t_e (ad_ _));exact absurd h2 (by simp;omega);exact absurd h1 (by simp)
theorem fs_iItoa(i:Nat)(h:i< 100):FS 158 [i64 i] (tx (dec2 i)):=by
 refine f_c Tryz.func158 ?_;refine r_z 1 ?_;refine r_c 3 (l5_ i h) ?_;refine a_z ?_;exact ag_ (t_e (ad_ _))
theorem nc_(i:Nat)(h:i< 100):FS 104 [i64 i] (tx (dec2 i)):=by
 refine f_c Tryz.func104 ?_;refine r_z 1 ?_;refine r_c 3 (fs_iItoa i h) ?_;refine a_z ?_;exact ag_ (t_e (ad_ _))
def te0(m:Nat):Unit→AState
 |u=>⟨[(1,.lptr 1 0 0),(3,.lptr 2 0 0),(11,.clos 198 [] [.aptr [[.arr (dE [m])]] 0 0])],[(1,some ⟨42,1,[[.arr (dE [m])]]⟩),(2,some ⟨174,2,[bldC 2 0 none]⟩)],4,31⟩
def te1(m:Nat):Unit→AState
 |u=>⟨[(1,.lptr 1 0 0),(3,.lptr 2 0 0),(11,.clos 198 [] [.aptr [[.arr (dE [m])]] 0 0])],[(1,some ⟨42,1,[[.arr (dE [m])]]⟩),(2,some ⟨174,2,[bldC 2 3 (some (dec2 m))]⟩),(3,some ⟨5,1,bE (dec2 m)⟩)],4,31⟩
def teS(m:Nat):Nat→AState
 |0=>te0 m ()
 |_+1=>te1 m ()
theorem sd_{m:Nat}(h0:m≠0)(h:m< 100):digs MB m=[m]:=by
 have hb:MB=1000000000:=rfl;rw[cv_ (by decide) (by omega),Nat.mod_eq_of_lt (by omega),Nat.div_eq_of_lt (by omega),be_]
theorem nn_(m:Nat):dec2 m≠[]:=by unfold dec2;split <;> simp
theorem fp_(m:Nat):(dec2 m).length≤2:=by unfold dec2;split <;> simp
theorem op_(m:Nat)(h:m< 100):FS 106 [.agg [mag m]] (tx (dec2 m)):=by
 have hz:=eC_ m;refine f_c Tryz.func106 ?_;refine r_z 2 ?_;refine ab_ (r_c 2 (hz) ?_);refine ak_ ?_;refine aj_ rfl (fun h1=>?_) (fun h1=>?_);have h2:m=0:=by simpa using h1
 subst h2;refine r_z 1 ?_;exact ag_ (t_e (ad_ _));have h2:m≠0:=by simpa using h1
 have hm:mag m= .arr (dE [m]):=by unfold mag;rw[sd_ h2 h]
 rw[hm];refine ah_ ?_;have hln:([m]:List Nat).length=1:=rfl;have hcl:Closed (.aptr [[.arr (dE [m])]] 0 0):=dY_ (fun e he c hc=>by simp at he;subst he;simp at hc;subst hc;exact bp_ _);have hcl2:Closed (.clos 198 [] [.aptr [[.arr (dE [m])]] 0 0]):=aE_ ac_ (aa_ hcl ac_);refine r_z 1 ?_;refine ab_ (r_c 3 (eD_ [m]) ?_);refine ak_ ?_;refine av_ (fun _:Unit=>te1 m ()) (fun _=>True) ?_ ?_;refine af_ (AWp.rangeFunc (α:=Nat) (γ:=Empty) 1 (teS m) (fun k=>k) (fun k=>k≤1) (fun e=>nomatch e) (fun _ e=>nomatch e) 0 rfl (eA_ [m] (by simp)) rfl rfl ?_ (fun k=>by cases k <;> exact⟨rfl,rfl⟩) (fun e=>nomatch e) (Nat.zero_le _) rfl (fun _ h=>h) ?_ ?_ ?_ ?_ (fun _ e=>nomatch e));intro k xs hT;unfold backT at hT;split at hT;cases hT;rfl;cases hT;show SEntT _ (te0 m ());rw[te0.eq_1];exact s_t [(1,1),(2,3)];exact aa_ hcl ac_
 ·intro l k xs hk hT
  unfold backT at hT;split at hT;rotate_left;cases hT;rename_i hlt;have hk0:k=0:=by simpa using hlt
  subst hk0;cases hT;show AWp _ _ _ _ ⟨setPs (te0 m ()).fr _ _++cp_ (te0 m ()).fr,_,_,_⟩;show AWp _ _ _ _ ⟨[(13,u32 m),(12,i64 0),(1,.lptr 1 0 0),(3,.lptr 2 0 0),(11,.clos 198 [] [.aptr [[.arr (dE [m])]] 0 0]),(1001,.lptr 1 0 0),(1003,.lptr 2 0 0),(1011,.clos 198 [] [.aptr [[.arr (dE [m])]] 0 0])],[(1,some ⟨42,1,[[.arr (dE [m])]]⟩),(2,some ⟨174,2,[bldC 2 0 none]⟩)],4,31⟩;refine r_z 1 ?_;refine r_m 1 ?_;refine a_z ?_;refine af_ (r_c 4 (nc_ m h) ?_);refine a_z ?_;refine ab_ (r_z 6 ?_);refine aj_ rfl (fun h3=>?_) (fun h3=>?_);exact absurd h3 (by simp);refine ah_ (r_m 2 ?_);refine a_1 ?_;refine o_2 (.callB (s:=none) (j:=0) rfl rfl rfl rfl rfl rfl (fun _ h=>by cases h) (er_ (dec2 m) (nn_ m) (by have:=fp_ m;omega))) ?_;refine ak_ ?_;refine⟨0+1,⟨by omega,rfl⟩,?_⟩;show SEntT _ ⟨[(1001,.lptr 1 0 0),(1003,.lptr 2 0 0),(1011,.clos 198 [] [.aptr [[.arr (dE [m])]] 0 0])],[(1,some ⟨42,1,[[.arr (dE [m])]]⟩),(2,some ⟨174,2,[bldC 2 3 (some (dec2 m))]⟩),(3,some ⟨5,1,bE (dec2 m)⟩)],4,31⟩;refine SEntT.to2 [(3,100017)] rfl rfl rfl au_r (fun hs=>?_) (fun hs=>?_)
  ·repeat' (first|exact aD_|refine an_ rfl ?_ ?_)
   all_goals (first|(exact ai_ hs hcl2)|exact au_c)
  ·repeat' (first|exact au_|refine fv_ rfl rfl rfl rfl ?_ ?_)
   all_goals (first|exact au_e|(refine ar_ ?_;repeat' (first|exact am_|refine ae_ ?_ ?_)))
   all_goals (first|(exact ai_ hs hcl2)|exact au_c)
 ·intro k hk hT
  unfold backT at hT;split at hT;cases hT
  have hk1:k=1:=by
   rename_i hn;simp at hn;omega
  subst hk1;exact⟨(),trivial,SEnt.refl _⟩
 rintro _ _;rw[te1.eq_1];have hne:=nn_ m;refine s_r 2 ?_;refine o_2 (.callD rfl rfl rfl rfl rfl rfl (by decide) (by first|assumption|simp) (i8_)) ?_;refine a_z ?_;exact ag_ (t_e (ad_ _))
theorem ov_(a:Rat)(k:Int)(h:sm a):FS 187 [.agg (qC a),i64 k] (.agg (spC (downQ a (wi k 256)) (upQ a (wi k 256)))):=by
 refine f_c Tryz.func187 ?_;refine r_z 2 ?_;refine ab_ (r_d hmix 8 ?_);refine c_s (rY_ a k h) ?_;refine c_s (fs_Up a k h) ?_;refine a_2 ?_;refine ak_ (n_k ?_);exact ag_ (c_e (a0_ _ _))
theorem fs_At(a:Rat):FS 234 [.agg (qC a)] (.agg (spC a a)):=by
 refine f_c Tryz.func234 ?_;refine r_z 2 ?_;refine r_z 4 ?_;exact ag_ (c_e (a0_ _ _))
theorem gn_(a b:Rat)(ha:sm a)(hb:sm b):FS 151 [.agg (spC a b)] (bln (decide (cmpQ a b≤0))):=by
 refine f_c Tryz.func151 ?_;refine r_z 2 ?_;refine r_c 7 (l0_ a b ha hb) ?_;refine a_z ?_;exact ag_ (t_e (ad_ _))
theorem fs_SAdd(a b c d:Rat)(ha:sm a)(hb:sm b)(hc:sm c)(hd:sm d):FS 272 [.agg (spC a b),.agg (spC c d)] (.agg (spC (a+c) (b+d))):=by
 refine f_c Tryz.func272 ?_;refine r_z 3 ?_;refine ab_ (r_d hmix 12 ?_);refine c_s (c6_ a c (sm2 ha hc)) ?_;refine c_s (c6_ b d (sm2 hb hd)) ?_;refine a_2 ?_;refine ak_ (n_k ?_);exact ag_ (c_e (a0_ _ _))
theorem pD_(a b:Rat)(ha:sm a)(hb:sm b):FS 267 [.agg (spC a b)] (.agg (qC ((a+b) * fineQ 1))):=by
 have h1:qs (a+b)≤274877906945:=by have:=fD_ a b;unfold sm at ha hb;omega
 have h2:qs (fineQ 1)≤2:=by decide
 refine f_c Tryz.func267 ?_;refine r_z 2 ?_;refine r_c 8 (c6_ a b (sm2 ha hb)) ?_;refine c_s (iY_ 1) ?_;refine c_s (bE_ (a+b) (fineQ 1) (by omega)) ?_;refine a_z ?_;exact ag_ (c_e (aC_ _))
theorem l2_(a b:Rat)(ha:sm a)(hb:sm b):FS 99 [.agg (spC a b)] (.agg (qC (b- a))):=by
 refine f_c Tryz.func99 ?_;refine r_z 2 ?_;refine r_c 6 (gm_ b a (sm2 hb ha)) ?_;refine a_z ?_;exact ag_ (c_e (aC_ _))
theorem fs_Min1(c:Int):FS 259 [i64 c] (bln (decide (c< 0))):=by
 refine f_c Tryz.func259 ?_;refine r_z 1 ?_;refine r_z 3 ?_;exact ag_ (t_e (ad_ _))
theorem fs_Max1(c:Int):FS 236 [i64 c] (bln (decide (0< c))):=by
 refine f_c Tryz.func236 ?_;refine r_z 1 ?_;refine r_z 3 ?_;exact ag_ (t_e (ad_ _))
def ns_(g:Nat)(l:List Rat):Nat×List AV→AState
 |(i,o)=>⟨[(0,.clos g [] []),(4,.lptr 1 0 0),(5,.lptr 2 0 0),(8,.arr (pE l)),(9,i64 l.length),(10,i64 i)],[(1,some ⟨46,3,[zC]⟩),(2,some ⟨46,3,[o]⟩)],3,27⟩
theorem l1_(g:Nat)(bf:Int→Bool)(hg:∀c,FS g [i64 c] (bln (bf c)))(l:List Rat)(hl:smL l)(hln:l.length≤1099511627776):FS 235 [.clos g [] [],.arr (pE l)] (.agg (qC (cr_ bf l))):=by
 refine f_n Tryz.func235 ?_ ?_;exact aa_ (aE_ ac_ ac_) (aa_ (ap_ l) ac_);refine r_z 1 ?_;refine r_z 1 ?_;refine ab_ (r_z 3 ?_);refine av_ (fun _:Unit=>⟨[(4,.lptr 1 0 0),(5,.lptr 2 0 0)],[(1,some ⟨46,3,[zC]⟩),(2,some ⟨46,3,[qC (cr_ bf l)]⟩)],3,27⟩) (fun _=>True) ?_ ?_;refine af_ (aq_ (fun x:Nat×List AV=>ns_ g l x) (fun x=>l.length- x.1) (fun x=>x.1≤l.length∧((x.1=0→x.2=zC)∧(x.1≠0→x.2=qC (cr_ bf (l.take x.1))))) (0,zC) ⟨Nat.zero_le _,fun _=>rfl,fun h=>absurd rfl h⟩ ?_ ?_);simp only[ns_.eq_1];exact s_e [(1,4),(2,5)];rintro⟨i,o⟩ ⟨hi,ho0,ho⟩;simp only at hi ho0 ho;simp only[ns_.eq_1];refine r_z 1 ?_;refine ab_ (aj_ rfl (fun h=>?_) (fun h=>?_));refine ah_ ?_;have hlt:i< l.length:=by simpa using h
 obtain⟨q,hq⟩:∃q,l[i]?=some q:=⟨_,List.getElem?_eq_getElem hlt⟩;have hq':(pE l)[((i:Nat):Int).toNat]?=some (qC q):=pE_get hq;have hsq:sm q:=hl q (List.mem_of_getElem? hq);have hst:sm (cr_ bf (l.take i)):=g6_ fun q hq=>hl q (List.mem_of_mem_take hq);have hsn:=mr_ bf (l.take i) q;rw[←br_ hq] at hsn;refine ab_ (af_ (s_r 6 ?_));refine a_1 ?_;refine i_x hq' ?_;refine l_x hq' ?_;refine a_z ?_;refine AWp.cutB (fun _:Unit=>ns_ g l (i,qC (cr_ bf (l.take (i+1))))) (fun _=>True) ?_ ?_;by_cases h0:i=0;subst h0;have:=ho0 rfl;subst this;rw[if_pos (.inl (by simp))] at hsn;refine s_r 9 ?_;refine a_3 ?_;refine n_g rfl d_t ?_;refine n_g rfl d_t ?_;refine n_g rfl d_t ?_;refine n_g rfl d_t ?_;refine n_g rfl d_t ?_;refine o_0 (.pickT rfl d_t rfl) ?_;refine ak_ ?_;refine aj_ rfl (fun h=>?_) (fun h=>?_);refine r_m 2 ?_;refine a_z ?_;refine⟨(),trivial,?_⟩;simp only[ns_.eq_1];rw[hsn];exact s_e [];cases h;have ho':o=qC (cr_ bf (l.take i)):=ho h0;subst ho'
 have hne:l.take i≠[]:=fun h=>by
  have:=congrArg List.length h;rw[List.length_take,List.length_nil] at this;omega
 refine s_r 9 ?_;refine a_3 ?_;refine y_g rfl (by simp;omega) (.move rfl) ?_;refine y_g rfl (by simp;omega) (.load_l rfl rfl rfl TG.h TS.h (nle rfl)) ?_;refine y_g rfl (by simp;omega) (.load_l rfl rfl rfl TG.h TS.h (nle rfl)) ?_;refine y_g rfl (by simp;omega) (.call rfl rfl rfl (l0_ q (cr_ bf (l.take i)) hsq hst)) ?_;refine y_g rfl (by simp;omega) (.call rfl rfl rfl (hg (cmpQ q (cr_ bf (l.take i))))) ?_;refine o_0 (.pickF rfl (by simp;omega) rfl) ?_;refine ak_ ?_;refine aj_ rfl (fun h1=>?_) (fun h1=>?_);refine r_m 2 ?_;refine a_z ?_;refine⟨(),trivial,?_⟩;simp only[ns_.eq_1];rw[hsn,if_pos (.inr h1)];exact s_e [];refine ah_ ⟨(),trivial,?_⟩;simp only[ns_.eq_1];rw[hsn,if_neg (fun hh=>hh.elim hne fun h2=>by rw[h1] at h2;cases h2)];exact s_e [];rintro _ _;rw[ns_.eq_1];refine r_m 2 ?_;refine a_z ?_;refine⟨(i+1,qC (cr_ bf (l.take (i+1)))),by simp only;omega,⟨by simp only;omega,fun h=>absurd h (by simp),fun _=>rfl⟩,?_⟩;simp only[ns_.eq_1];exact s_e [];have hge:i=l.length:=by simp at h;omega
 refine ao_ ⟨(),trivial,?_⟩;subst hge;by_cases h0:l.length=0;have:=ho0 h0;subst this
 have:cr_ bf l=0:=by
  rw[List.length_eq_zero_iff] at h0;rw[h0];rfl
 rw[this,qC0];exact s_e [];have:=ho h0;subst this;rw[List.take_length];exact s_e [];rintro _ _;refine r_z 2 ?_;exact ag_ (c_e (aC_ _))
theorem fs_Min(l:List Rat)(hl:smL l)(hln:l.length≤1099511627776):FS 223 [.arr (pE l)] (.agg (qC (minL l))):=by
 refine f_c Tryz.func223 ?_;refine r_z 1 ?_;refine r_c 3 (l1_ 259 _ fs_Min1 l hl hln) ?_;refine a_z ?_;exact ag_ (c_e (aC_ _))
theorem ow_(l:List Rat)(hl:smL l)(hln:l.length≤1099511627776):FS 195 [.arr (pE l)] (.agg (qC (maxL l))):=by
 refine f_c Tryz.func195 ?_;refine r_z 1 ?_;refine r_c 3 (l1_ 236 _ fs_Max1 l hl hln) ?_;refine a_z ?_;exact ag_ (c_e (aC_ _))
theorem mJ_{a b:Rat}(ha:sm a)(hb:sm b):smL [a,b]:=by
 intro q hq;simp at hq;rcases hq with rfl|rfl
 exact ha;exact hb
theorem ot_(a b c d:Rat)(ha:sm a)(hb:sm b)(hc:sm c)(hd:sm d):FS 188 [.agg (spC a b),.agg (spC c d)] (.agg (spC (minL [a,c]) (maxL [b,d]))):=by
 refine f_c Tryz.func188 ?_;refine r_z 3 ?_;refine ab_ (r_d hmix 14 ?_);refine a_5 ?_;refine o_1 (.callS1 rfl rfl rfl (.shut rfl d_n (.nil)) rfl (fs_Min [a,c] (mJ_ ha hc) (by simp))) ?_;refine a_5 ?_;refine o_1 (.callS1 rfl rfl rfl (.shut rfl d_n (.nil)) rfl (ow_ [b,d] (mJ_ hb hd) (by simp))) ?_;refine a_2 ?_;refine ak_ (n_k ?_);exact ag_ (c_e (a0_ _ _))
theorem pq_(l:List Rat)(hl:smL l)(hln:l.length≤1099511627776):FS 296 [.arr (pE l)] (.agg (spC (minL l) (maxL l))):=by
 refine f_c Tryz.func296 ?_;refine r_z 1 ?_;refine r_c 6 (fs_Min l hl hln) ?_;refine c_s (ow_ l hl hln) ?_;refine a_z ?_;exact ag_ (c_e (a0_ _ _))
section
variable {P:Go.Program}{T:Nat}{x y:Operand}
theorem cI_{l m:List UInt8}(h:l.length+m.length≤9223372036854775807):∀w,(do eqGuard .add T x y (.string ⟨l.toArray⟩) (.string ⟨m.toArray⟩);binOp .add T (.string ⟨l.toArray⟩) (.string ⟨m.toArray⟩):Sem Value).run P w= .ok (.string ⟨(l++m).toArray⟩) w:=fun w=>by
 have hm:IntKind.i64.max=9223372036854775807:=by decide
 have e:(⟨l.toArray⟩:ByteArray)++⟨m.toArray⟩=⟨(l++m).toArray⟩:=by
  apply ByteArray.ext;simp
 have hn:¬((((⟨l.toArray⟩:ByteArray).size+(⟨m.toArray⟩:ByteArray).size:Nat):Int)> IntKind.i64.max):=by
  rw[gL_,gL_,hm];omega
 simp only[eqGuard,binOp,Op.stringOp,hn,if_false,e,Sem.run_bind,Sem.run_pure,Result.andThen_ok];rfl
theorem d9_{l m:List UInt8}:∀w,(do eqGuard .eql T x y (.string ⟨l.toArray⟩) (.string ⟨m.toArray⟩);binOp .eql T (.string ⟨l.toArray⟩) (.string ⟨m.toArray⟩):Sem Value).run P w= .ok (.bool (decide (l=m))) w:=fun w=>by
 rw[oY_];congr 2
 have e:∀l:List UInt8,(⟨l.toArray⟩:ByteArray).toList=l:=by
  intro l;have:=ByteArray.toList_eq (bs:=⟨l.toArray⟩);simpa using this
 rw[e,e];rw[Bool.eq_iff_iff];simp
end
def textQ(q:Rat):List UInt8:=((if q.num< 0 then [45] else [])++dec2 q.num.natAbs)++(if q.den=1 then [] else 47::dec2 q.den)
def okT(q:Rat):Prop:=q.num.natAbs< 100∧q.den< 100
instance (q:Rat):Decidable (okT q):=inferInstanceAs (Decidable (_∧_))
theorem okT_qs{q:Rat}(h:okT q):qs q≤1099511627776:=by
 obtain⟨h1,h2⟩:=h;have e1:=bl_le (n:=q.num.natAbs) (k:=7) (by omega);have e2:=bl_le (n:=q.den) (k:=7) (by omega);unfold qs;omega
theorem textQ_len{q:Rat}:(textQ q).length≤6∧1≤(textQ q).length:=by
 have h1:=fp_ q.num.natAbs;have h2:=fp_ q.den;have h3:=List.length_pos_iff.2 (nn_ q.num.natAbs);unfold textQ;split <;> split <;> simp <;> omega
def qtS(q:Rat):List UInt8→AState
 |l=>⟨[(1,.aptr [qC q] 0 0),(3,tx l)],[],2,24⟩
theorem kM_(q:Rat)(h:okT q):FS 38 [.agg (qC q)] (tx (textQ q)):=by
 have hd1:=fp_ q.num.natAbs;have hd2:=fp_ q.den;have hden:1≤q.den:=q.den_pos;refine f_c Tryz.func38 ?_;refine r_z 2 ?_;refine AWp.ent (st':=⟨[(1,.aptr [qC q] 0 0)],[],2,24⟩) ?_ ?_;exact s_e [];refine r_c 5 (op_ q.num.natAbs h.1) ?_;refine a_z ?_;refine aQ_ (qtS q) (fun l=>l=(if q.num< 0 then [45] else [])++dec2 q.num.natAbs) ?_ ?_;refine r_z 3 ?_;refine aj_ rfl (fun h1=>?_) (fun h1=>?_);have h2:q.num< 0:=by simpa using h1
 refine r_m 3 ?_;refine a_1 ?_;refine o_0 (.bin rfl rfl (cI_ (l:=[45]) (by simp;omega))) ?_;refine a_z ?_;refine⟨_,by rw[if_pos h2],?_⟩;rw[qtS.eq_1];exact s_x [] (fun hs=>e_2) (fun hs=>e_3);have h2:¬q.num< 0:=by simpa using h1
 refine ah_ ⟨dec2 q.num.natAbs,by rw[if_neg h2];rfl,?_⟩;rw[qtS.eq_1];exact s_x [] (fun hs=>e_2) (fun hs=>e_3);rintro l hl;have hll:l.length≤3:=by rw[hl];split <;> simp <;> omega
 rw[qtS.eq_1];refine aQ_ (qtS q) (fun l=>l=textQ q) ?_ ?_;refine r_c 4 (eC_ (q.den- 1)) ?_;refine a_z ?_;refine aj_ rfl (fun h1=>?_) (fun h1=>?_)
 have h2:¬q.den=1:=by
  intro e;rw[e] at h1;simp at h1
 refine r_m 7 ?_;refine c_s (ci_ q (okT_qs h)) ?_;refine c_s (op_ q.den h.2) ?_;refine o_0 (.bin rfl rfl (cI_ (l:=[47]) (by simp;omega))) ?_;refine o_0 (.bin rfl rfl (cI_ (by simp;omega))) ?_;refine a_z ?_;refine⟨_,by unfold textQ;rw[if_neg h2,←hl],?_⟩;rw[qtS.eq_1];exact s_x [] (fun hs=>e_2) (fun hs=>e_3)
 have h2:q.den=1:=by
  have h3:q.den- 1=0:=by simpa using h1
  omega
 refine ah_ ⟨l,by unfold textQ;rw[if_pos h2,←hl,List.append_nil],?_⟩;rw[qtS.eq_1];exact s_x [] (fun hs=>e_2) (fun hs=>e_3);rintro l rfl;rw[qtS.eq_1];refine r_z 2 ?_;exact ag_ (t_e (ad_ _))
theorem fs_ends (g:Nat) (op:Rat→Rat→Rat) (a b c d:Rat) (h1:FS g [.agg (qC a),.agg (qC c)] (.agg (qC (op a c)))) (h2:FS g [.agg (qC a),.agg (qC d)] (.agg (qC (op a d)))) (h3:FS g [.agg (qC b),.agg (qC c)] (.agg (qC (op b c)))) (h4:FS g [.agg (qC b),.agg (qC d)] (.agg (qC (op b d))))
    (hs:smL [op a c,op a d,op b c,op b d]):FS 290 [.clos g [] [],.agg (spC a b),.agg (spC c d)] (.agg (spC (minL [op a c,op a d,op b c,op b d]) (maxL [op a c,op a d,op b c,op b d]))):=by
 refine f_n Tryz.func290 ?_ ?_;exact aa_ (aE_ ac_ ac_) (aa_ (a0_ a b) (aa_ (a0_ c d) ac_));refine r_z 3 ?_;refine ab_ (r_d hmix 27 ?_);refine c_s (h1) ?_;refine c_s (h2) ?_;refine c_s (h3) ?_;refine c_s (h4) ?_;refine a_1 ?_;refine o_1 (.callS1 rfl rfl rfl (.shut rfl d_n (.nil)) rfl (pq_ [op a c,op a d,op b c,op b d] hs (by simp))) ?_;refine a_1 ?_;refine ak_ (n_k ?_);exact ag_ (c_e (a0_ _ _))
theorem fs_SMul(a b c d:Rat)(ha:sm a)(hb:sm b)(hc:sm c)(hd:sm d)(hs:smL [a* c,a* d,b* c,b* d]):FS 271 [.agg (spC a b),.agg (spC c d)] (.agg (spC (minL [a* c,a* d,b* c,b* d]) (maxL [a* c,a* d,b* c,b* d]))):=by
 refine f_c Tryz.func271 ?_;refine r_z 3 ?_;refine r_c 4 (fs_ends 40 (fun x y=>x* y) a b c d (bE_ a c (sm2 ha hc)) (bE_ a d (sm2 ha hd)) (bE_ b c (sm2 hb hc)) (bE_ b d (sm2 hb hd)) hs) ?_;refine a_z ?_;exact ag_ (c_e (a0_ _ _))
theorem qs_int(n:Int):qs (n:Rat)≤max (bl n.natAbs) 1:=by
 have e1:(n:Rat).num=n:=rfl;have e2:(n:Rat).den=1:=rfl;unfold qs;rw[e1,e2,fH_];exact Nat.le_refl _
theorem qs_i64{n:Int}(h: -9223372036854775808≤n∧n≤9223372036854775807):qs (n:Rat)≤64:=by
 have h1:=qs_int n;have h2:bl n.natAbs≤64:=bl_le (Nat.lt_of_le_of_lt (show n.natAbs≤9223372036854775808 by omega) (by decide));omega
theorem fs_Of(n d:Int)(hn: -9223372036854775808≤n∧n≤9223372036854775807)(hd: -9223372036854775808≤d∧d≤9223372036854775807)(h0:d≠0):FS 35 [i64 n,i64 d] (.tup [.agg (qC ((n:Rat) / (d:Rat))),i64 0]):=by
 have h1:=qs_i64 hn;have h2:=qs_i64 hd
 have hd0:(d:Rat)≠0:=by
  intro h;have:(d:Rat).num=0:=by rw[h];rfl
  exact h0 this
 refine f_c Tryz.func35 ?_;refine r_z 2 ?_;refine r_c 9 (cV_ n hn) ?_;refine c_s (cV_ d hd) ?_;refine c_s (rJ_ (n:Rat) (d:Rat) hd0 (by omega)) ?_;refine a_z ?_;refine ag_ (Fin.many ⟨_,_,rfl,⟨_,_,_,_,_,rfl,rfl,rfl,.inl ⟨TG.h,_,TS.h,nle rfl,rfl⟩⟩,⟨_,_,rfl,rfl,rfl⟩⟩ (nle rfl) ?_);exact ae_ (ai_ as_ (aC_ _)) (ae_ (ai_ as_ (ad_ _)) am_)
theorem fs_Clone(l:List Rat)(hl:l.length≤1099511627776):FS 143 [.arr (pE l)] (.arr (pE l)):=by
 cases l with
 |nil=>
  refine FSpec.nil1 fun a c=>?_;refine f_c Tryz.func143 ?_;refine r_z 1 ?_;refine ab_ (r_z 2 ?_);refine aj_ rfl (fun h=>?_) (fun h=>?_);refine r_z 1 ?_;exact ag_ (Fin.tmpN rfl)
  ·refine ah_ (s_r 4 ?_)
   refine a_2 ?_;refine o_2 (.append_l rfl rfl rfl te_33.h rfl rfl rfl rfl rfl d_o (by first|exact cw_ _|exact cu_ _|exact b6_ _|exact cx_ _|exact ct_ _|assumption|rfl|simp) (by first|rfl|exact cw_ _|exact cu_ _|exact b6_ _|exact cx_ _|exact ct_ _|simp) rfl (.vnil) TZ.h rfl TB.h d_o (by first|(simp[maxLen];done)|(simp[maxLen];omega))) ?_;refine a_z ?_;exact ag_ (Fin.tmpS rfl rfl rfl rfl (aG_ []))
 |cons q l=>
  have hne:pE (q::l)≠[]:=by simp[pE]
  simp at hl;refine f_c Tryz.func143 ?_;refine r_z 1 ?_;refine ab_ (s_r 2 ?_);refine a_1 ?_;refine az_ (.nilq_arr rfl (hne) rfl te_33.h) rfl rfl ?_;refine ak_ ?_;refine cF ?_
  ·refine ah_ (s_r 4 ?_)
   refine a_2 ?_;refine o_2 (.append_l rfl rfl rfl te_33.h rfl rfl rfl rfl rfl d_o (by first|exact cw_ _|exact cu_ _|exact b6_ _|exact cx_ _|exact ct_ _|assumption|rfl|simp) (by first|rfl|exact cw_ _|exact cu_ _|exact b6_ _|exact cx_ _|exact ct_ _|simp) rfl (.arr (fS_ _)) TZ.h rfl TB.h d_o (by first|(simp[maxLen];done)|(simp[maxLen];omega))) ?_;refine a_z ?_;exact ag_ (Fin.tmpS rfl rfl rfl (by simp) (aG_ _))
def trS(l:List Rat):Nat→AState
 |n=>⟨[(0,.arr (pE l)),(3,i64 n)],[],1,23⟩
theorem cf_(l:List Rat)(hl:l.length≤1099511627776):FS 77 [.arr (pE l)] (.arr (pE (trimQ l))):=by
 refine f_c Tryz.func77 ?_;refine r_z 1 ?_;refine r_z 3 ?_;refine aQ_ (trS l) (fun n=>n≤l.length∧trimQ l=l.take n) ?_ ?_;refine af_ (aq_ (trS l) (fun n=>n) (fun n=>n≤l.length∧trimQ l=trimQ (l.take n)) l.length ⟨Nat.le_refl _,by rw[List.take_length]⟩ ?_ ?_);simp only[trS.eq_1];exact s_e [];rintro n ⟨hn,ht⟩;rw[trS.eq_1];cases n with
 |zero=>
  refine ab_ (s_r 11 ?_);refine a_3 ?_;refine n_g rfl (by simp) ?_;refine n_g rfl (by simp) ?_;refine n_g rfl (by simp) ?_;refine n_g rfl (by simp) ?_;refine n_g rfl (by simp) ?_;refine n_g rfl (by simp) ?_;refine n_g rfl (by simp) ?_;refine o_0 (.pickF rfl (by simp) rfl) ?_;refine ak_ ?_;refine cF ?_;refine ao_ ⟨0,⟨Nat.zero_le _,?_⟩,?_⟩;rw[ht];rfl;simp only[trS.eq_1];exact s_e []
 |succ n=>
  obtain⟨q,hq⟩:∃q,l[n]?=some q:=⟨_,List.getElem?_eq_getElem (by omega)⟩
  have hq':(pE l)[(((n+1:Nat):Int)- 1).toNat]?=some (qC q):=by
   rw[show(((n+1:Nat):Int)- 1).toNat=n by omega];exact pE_get hq
  have hs:trimQ (l.take (n+1))=if q=0 then trimQ (l.take n) else l.take (n+1):=by
   rw[br_ hq,e9_]
  refine ab_ (s_r 11 ?_);refine a_3 ?_;refine y_g rfl (by simp <;> omega) (.move rfl) ?_;refine y_g rfl (by simp <;> omega) (.move rfl) ?_;refine y_g rfl (by simp <;> omega) (.bin rfl rfl (gD_ (by omega))) ?_;refine y_g rfl (by simp <;> omega) (.index_a rfl rfl (by omega) hq' rfl te_33.h) ?_;refine y_g rfl (by simp <;> omega) (.load_a rfl hq' TG.h TS.h (nle rfl)) ?_;refine y_g rfl (by simp <;> omega) (.call rfl rfl rfl (bt_ q)) ?_;refine y_g rfl (by simp <;> omega) (.bin rfl rfl aS_) ?_;refine o_0 (.pickT rfl (by simp <;> omega) rfl) ?_;refine ak_ ?_;refine aj_ rfl (fun h=>?_) (fun h=>?_)
  have h0:q=0:=by
   have h1:sgZ q.num=0:=by simpa using h
   exact sgZ_num_eq.1 h1
  refine ah_ (af_ (r_m 3 ?_));refine a_z ?_;refine⟨n,Nat.lt_succ_self n,⟨by omega,?_⟩,?_⟩;rw[ht,hs,if_pos h0];simp only[trS.eq_1];exact s_e []
  have h0:q≠0:=by
   intro e;have h1:¬sgZ q.num=0:=by simpa using h
   exact h1 (sgZ_num_eq.2 e)
  refine ao_ ⟨n+1,⟨hn,?_⟩,?_⟩;rw[ht,hs,if_neg h0];simp only[trS.eq_1];exact s_e []
 rintro n ⟨hn,ht⟩;rw[trS.eq_1];have hcl:=fs_Clone (l.take n) (by simp;omega);refine s_r 5 ?_;refine a_2 ?_;refine o_0 (.sa_h rfl rfl (h:=n) rfl (by simp;omega) te_33.h (fS_ _)) ?_;refine o_0 (.call rfl rfl rfl ((by rw[ko_];exact hcl))) ?_;refine o_0 (.assign rfl) ?_;refine ak_ ?_;refine ag_ (aH_ rfl ?_ ?_);rw[ht];exact ax_ (aG_ _)
end Go.Proofs.YtjkddcfoolilbaaGreatDoor
