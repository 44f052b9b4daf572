/- Part V19 of the proof. -/
import Derived.Test.YtjkddcfoolilbaaGreatDoorV18
import Derived.Lib.UnsafeStr
import Derived.Lib.Builder
import Derived.Shelf.RegionOpenPlain
import Derived.Lib.Strings
import Derived.Lib.Slices
import Derived.Lib.Walk
set_option linter.all false
namespace Go.Proofs.YtjkddcfoolilbaaGreatDoor
open Go.Abs
set_option maxRecDepth 20000
theorem sz_(n:Nat):((digs MB n).length==0)=(n==0):=by
 rw[Bool.eq_iff_iff];simp only[beq_iff_eq,List.length_eq_zero_iff];exact cY_ (by decide)
theorem eJ_(n:Nat):FS 107 [.agg [mag n]] (bln (n==0)):=by
 rw[←sz_];exact rQ_ _
theorem cH_(b:Bool)(m:Nat):FS 149 [bln b,.agg [mag m]] (.agg (zI (sgn b m))):=by
 have e:AV.agg (zI (sgn b m))= .agg [mag m,bln (b && !(m==0))]:=by unfold zI;rw[cZ_,sgn_neg]
 rw[e];refine f_c Tryz.func149 ?_;cases b with
 |true=>
  refine r_z 2 ?_;refine ab_ (r_d hmix 9 ?_);refine a_3 ?_
  first|refine y_g rfl d_t (.load_l rfl rfl rfl TG.h TS.h (nle rfl)) ?_|refine y_g rfl d_t (.load_a rfl rfl TG.h TS.h (nle rfl)) ?_
  refine y_g rfl d_t (.call rfl rfl rfl (eJ_ m)) ?_;refine y_g rfl d_t (.un rfl cR_) ?_;refine o_0 (.pickT rfl d_t rfl) ?_;refine a_2 ?_;refine al_ (n_k ?_);exact af_ (c_e (ay_ (aa_ (a5_ m) (aa_ (ad_ _) ac_))))
 |false=>
  refine r_z 2 ?_;refine ab_ (r_d hmix 9 ?_);refine a_3 ?_;refine n_g rfl d_f ?_;refine n_g rfl d_f ?_;refine n_g rfl d_f ?_;refine o_0 (.pickF rfl d_f rfl) ?_;refine a_2 ?_;refine al_ (n_k ?_);exact af_ (c_e (ay_ (aa_ (a5_ m) (aa_ (ad_ _) ac_))))
theorem fs_isign(z:Int):FS 83 [.agg (zI z)] (i64 (sgZ z)):=by
 refine f_c Tryz.func83 ?_;refine r_z 2 ?_;refine aP_ (fun _:Unit=>⟨[],[],1,10⟩) (fun _=>0< z) ?_ ?_;refine ae_ (r_c 4 (eJ_ z.natAbs) ?_);refine a_z ?_;refine aj_ rfl (fun h=>?_) (fun h=>?_);refine r_z 1 ?_;refine af_ (aD_ rfl ?_ (ad_ _));have:z=0:=by simpa using h
 simp[i64,sgZ,this,ofV];have h0:z≠0:=by simpa using h
 refine r_z 3 ?_;refine aj_ rfl (fun h1=>?_) (fun h1=>?_);refine r_z 1 ?_;refine af_ (aD_ rfl ?_ (ad_ _));have:z< 0:=by simpa using h1
 simp[i64,sgZ,this,h0,ofV];have:¬z< 0:=by simpa using h1
 refine ah_ ⟨(),by omega,?_⟩;exact s_e [];rintro _ h1;refine r_z 1 ?_;refine af_ (aD_ rfl ?_ (ad_ _));simp only[i64,sgZ];rw[if_neg (by omega),if_neg (by omega)];rfl
theorem br_(q:Rat):FS 27 [.agg (qC q)] (i64 (sgZ q.num)):=by
 refine f_c Tryz.func27 ?_;refine r_z 2 ?_;refine r_c 4 (fs_isign q.num) ?_;refine a_z ?_;exact af_ (t_e (ad_ _))
theorem sgn_mul(a b:Bool)(m n:Nat):sgn a m* sgn b n=sgn (a !=b) (m* n):=by
 cases a <;> cases b <;> simp[sgn,Int.neg_mul,Int.mul_neg]
theorem lF_(a:Bool)(m n:Nat):sgn a m+sgn a n=sgn a (m+n):=by
 cases a <;> simp[sgn]<;> omega
theorem pp_{a b:Bool}(h:a≠b){m n:Nat}(hl:m≤n):sgn a m+sgn b n=sgn b (n- m):=by
 cases a <;> cases b <;> simp[sgn] at h⊢ <;> omega
theorem pq_{a b:Bool}(h:a≠b){m n:Nat}(hl:n≤m):sgn a m+sgn b n=sgn a (m- n):=by
 cases a <;> cases b <;> simp[sgn] at h⊢ <;> omega
theorem ne_(x y:Int)(h:bl x.natAbs+bl y.natAbs≤17592186044416):FS 111 [.agg (zI x),.agg (zI y)] (.agg (zI (x* y))):=by
 have e:x* y=sgn (decide (x< 0) !=decide (y< 0)) (x.natAbs* y.natAbs):=by
  rw[←sgn_mul,hS_,hS_]
 rw[e];refine f_c Tryz.func111 ?_;refine r_z 3 ?_;refine ab_ (r_d hmix 12 ?_);refine c_s (dn_ x.natAbs y.natAbs h) ?_;refine c_s (cH_ (decide (x< 0) !=decide (y< 0)) (x.natAbs* y.natAbs)) ?_;refine a_1 ?_;refine al_ (n_k ?_);exact af_ (c_e (d6_ _))
theorem fs_iadd(x y:Int)(h:bl x.natAbs+bl y.natAbs≤17592186044416):FS 150 [.agg (zI x),.agg (zI y)] (.agg (zI (x+y))):=by
 obtain⟨a,ha⟩:∃a,a=decide (x< 0):=⟨_,rfl⟩;obtain⟨b,hb⟩:∃b,b=decide (y< 0):=⟨_,rfl⟩;have ex:x=sgn a x.natAbs:=by rw[ha,hS_]
 have ey:y=sgn b y.natAbs:=by rw[hb,hS_]
 refine f_c Tryz.func150 ?_;refine r_z 3 ?_;refine aP_ (fun _:Unit=>⟨[(2,.lptr 1 0 0),(3,.lptr 2 0 0),(4,.lptr 3 0 0)],[(1,some ⟨44,2,[zI x]⟩),(2,some ⟨44,2,[zI y]⟩),(3,some ⟨44,2,[[.emp,bln false]]⟩)],4,42⟩) (fun _=>a≠b∧y.natAbs≤x.natAbs) ?_ ?_;refine ae_ (r_z 6 ?_);refine aj_ rfl (fun h1=>?_) (fun h1=>?_);have hab:a=b:=by rw[ha,hb];simpa using h1
 have e:x+y=sgn (decide (x< 0)) (x.natAbs+y.natAbs):=by
  conv=>lhs;rw[ex,ey,←hab]
  rw[lF_,ha]
 rw[e];refine ab_ (r_d hmix 9 ?_);refine c_s (na_ x.natAbs y.natAbs h) ?_;refine c_s (cH_ (decide (x< 0)) (x.natAbs+y.natAbs)) ?_;refine a_1 ?_;refine al_ (n_k ?_);exact af_ (c_e (d6_ _));have hab:a≠b:=by rw[ha,hb];simpa using h1
 refine r_c 7 (gX_ x.natAbs y.natAbs h) ?_;refine a_z ?_;refine aj_ rfl (fun h2=>?_) (fun h2=>?_)
 have hlt:x.natAbs< y.natAbs:=by
  have:=of_decide_eq_true h2;unfold cmpZ at this;split at this;omega;split at this <;> omega
 have e:x+y=sgn (decide (y< 0)) (y.natAbs- x.natAbs):=by
  conv=>lhs;rw[ex,ey]
  rw[pp_ hab (Nat.le_of_lt hlt),hb]
 rw[e];refine ab_ (r_d hmix 9 ?_);refine c_s (nd_ y.natAbs x.natAbs (by omega) (Nat.le_of_lt hlt)) ?_;refine c_s (cH_ (decide (y< 0)) (y.natAbs- x.natAbs)) ?_;refine a_1 ?_;refine al_ (n_k ?_);exact af_ (c_e (d6_ _))
 have hge:y.natAbs≤x.natAbs:=by
  have:=of_decide_eq_false h2;unfold cmpZ at this;split at this;omega;split at this <;> omega
 refine ah_ ⟨(),⟨hab,hge⟩,?_⟩;exact s_e [];rintro _ ⟨hab,hge⟩
 have e:x+y=sgn (decide (x< 0)) (x.natAbs- y.natAbs):=by
  conv=>lhs;rw[ex,ey]
  rw[pq_ hab hge,ha]
 rw[e];refine ab_ (r_d hmix 9 ?_);refine c_s (nd_ x.natAbs y.natAbs (by omega) hge) ?_;refine c_s (cH_ (decide (x< 0)) (x.natAbs- y.natAbs)) ?_;refine a_1 ?_;refine al_ (n_k ?_);exact af_ (c_e (d6_ _))
theorem oA_(n:Int)(h: -9223372036854775808≤n∧n≤9223372036854775807):FS 82 [i64 n] (.agg (zI n)):=by
 refine f_c Tryz.func82 ?_;refine r_z 1 ?_;refine ab_ (r_z 2 ?_);refine aj_ rfl (fun h1=>?_) (fun h1=>?_);have hn:n< 0:=of_decide_eq_true h1;have e:n=sgn true n.natAbs:=by simp[sgn];omega
 have hI:18446744073709551616- (n+18446744073709551616)=((n.natAbs:Nat):Int):=by omega
 have hs:FS 146 [.v (.int .u64 (18446744073709551616- (n+18446744073709551616)))] (.agg [mag n.natAbs]):=by rw[hI];exact do_ _ (by omega)
 refine s_r 6 ?_;refine a_1 ?_;refine o_0 (.conv rfl (cU64n (by omega) tu_2.h tu_205.h)) ?_;refine o_0 (.un rfl (uU64_neg (by omega))) ?_;refine c_s (hs) ?_;refine c_s (cH_ true n.natAbs) ?_;refine a_z ?_;refine af_ (bQ_ rfl rfl rfl TG.h TS.h (nle rfl) ?_ ?_);show _=AV.agg (zI n)
 conv=>rhs;rw[e]
 rfl;exact d6_ _;refine ah_ ?_;have hn:0≤n:=by have:=of_decide_eq_false h1;omega
 have e:n=sgn false n.natAbs:=by simp[sgn];omega
 have hI:n=((n.natAbs:Nat):Int):=by omega
 have hs:FS 146 [.v (.int .u64 n)] (.agg [mag n.natAbs]):=by
  have:=do_ n.natAbs (by omega);rwa[u64,←hI] at this
 refine s_r 5 ?_;refine a_1 ?_;refine o_0 (.conv rfl (cU64 (by omega) tu_2.h tu_205.h)) ?_;refine c_s (hs) ?_;refine c_s (cH_ false n.natAbs) ?_;refine a_z ?_;refine af_ (bQ_ rfl rfl rfl TG.h TS.h (nle rfl) ?_ ?_);show _=AV.agg (zI n)
 conv=>rhs;rw[e]
 rfl;exact d6_ _
theorem mag_zero:mag 0= .arr []:=by unfold mag;rw[bb_];rfl
theorem h7_(n:Int):FS 81 [.agg (zI n)] (.agg (qC n)):=by
 have e:qC (n:Rat)=[mag n.natAbs,bln (decide (n< 0)),mag 0]:=rfl;rw[e];refine f_c Tryz.func81 ?_;refine r_z 2 ?_;refine r_z 3 ?_;refine af_ (Fin.cell rfl rfl rfl TG.h TS.h (nle rfl) (Cv.agg (ai_ (ak_ ax_ (a5_ _)) (ai_ (ak_ ax_ (ad_ _)) (ai_ (Cv.emp _ mag_zero) an_)))))
theorem c2_(n:Int)(h: -9223372036854775808≤n∧n≤9223372036854775807):FS 26 [i64 n] (.agg (qC n)):=by
 refine f_c Tryz.func26 ?_;refine r_z 1 ?_;refine r_c 4 (oA_ n h) ?_;refine c_s (h7_ n) ?_;refine a_z ?_;exact af_ (c_e (aC_ _))
theorem cj_(q:Rat)(h:qs q≤1099511627776):FS 79 [.agg (qC q)] (.agg [mag q.den]):=by
 have hp:=q.den_pos;have hd:=bR_ q;have e:q.den=q.den- 1+1:=by omega
 have hb1:=b0_ (show q.den- 1≤q.den by omega);have h1:bl 1=1:=fR_;refine f_c Tryz.func79 ?_;refine r_z 2 ?_;refine ab_ (r_d hmix 5 ?_);refine c_s (do_ 1 (by decide)) ?_;refine c_s (na_ (q.den- 1) 1 (by omega)) ?_;refine a_1 ?_;refine al_ (n_k ?_);refine af_ (bQ_ rfl rfl rfl TG.h TS.h (nle rfl) ?_ ?_);show AV.agg [mag (q.den- 1+1)]=_;rw[←e];exact closed_mA _
theorem h9_(n:Int)(d:Nat)(hd:0< d)(h:bl n.natAbs+bl d≤2199023255552):FS 110 [.agg (zI n),.agg [mag d]] (.agg (qC (mkRat n d))):=by
 obtain⟨g,hg⟩:∃g,g=Nat.gcd n.natAbs d:=⟨_,rfl⟩;have hgp:0< g:=by rw[hg];exact Nat.gcd_pos_of_pos_right _ hd
 have hgd:g≤d:=by rw[hg];exact Nat.gcd_le_right _ hd
 have hbg:=b0_ hgd;have hbn:=cM_ n.natAbs g;have hbd:=cM_ d g;have hqd:0< d/ g:=Nat.div_pos hgd hgp
 have hfin:AV.agg (qC (mkRat n d))= .agg (zI (sgn (decide (n< 0)) (n.natAbs/ g))++[mag (d/ g- 1)]):=by
  unfold qC;rw[eo_ hd,(e4_ hd).2,←hg];rfl
 rw[hfin];have hc:=r4_ n.natAbs d (by omega);rw[←hg] at hc;refine f_c Tryz.func110 ?_;refine r_z 3 ?_;refine ab_ (r_c 6 (hc) ?_);refine a_z ?_;refine r_c 3 (fs_one g) ?_;refine a_z ?_;refine aw_ (fun _:Unit=>⟨[(2,.lptr 1 0 0),(3,.lptr 2 0 0),(4,.lptr 3 0 0)],[(1,some ⟨44,2,[[mag (n.natAbs/ g),bln (decide (n< 0))]]⟩),(2,some ⟨42,1,[[mag (d/ g)]]⟩),(3,some ⟨46,3,[[.emp,bln false,.emp]]⟩)],4,36⟩) (fun _=>True) ?_ ?_;refine aj_ rfl (fun h1=>?_) (fun h1=>?_);refine r_c 9 (kI_ n.natAbs g (by omega) hgp) ?_;refine a_z ?_;refine r_m 7 ?_;refine c_s (kI_ d g (by omega) hgp) ?_;refine a_z ?_;refine⟨(),trivial,?_⟩;exact s_e [];have hg1:g=1:=by simpa using h1
 subst hg1;refine ah_ ⟨(),trivial,?_⟩;rw[Nat.div_one,Nat.div_one];exact s_e [];rintro _ _;refine ab_ (r_d hmix 10 ?_);refine c_s (cH_ (decide (n< 0)) (n.natAbs/ g)) ?_;refine c_s (do_ 1 (by decide)) ?_;refine c_s (nd_ (d/ g) 1 (by omega) hqd) ?_;refine a_2 ?_;refine al_ (n_k ?_);exact af_ (c_e (ay_ (aa_ (a5_ _) (aa_ (ad_ _) (aa_ (a5_ _) ac_)))))
end Go.Proofs.YtjkddcfoolilbaaGreatDoor
namespace Go.Proofs.YtjkddcfoolilbaaGreatDoor
open Go.Abs Go.RowKit
set_option maxRecDepth 20000
theorem qv_:Tryz.prog.underlying 171=some (.pointer 174):=by kernel_rfl
theorem lr_:Tryz.prog.underlying 253=some .unsafePointer:=by kernel_rfl
theorem qu_:(Tryz.prog.info? 174).map (·.size)=some 2:=by kernel_rfl
set_option maxHeartbeats 1000000 in
theorem cs_used(b:Nat)(w:World)(h0:w.cell? ⟨b,0,none⟩=some (.pointer (some ⟨b,0,none⟩))):
    Calls Tryz.prog 157 #[.pointer (some ⟨b,0,none⟩)] w fun e w'=>e= .returned (.tuple #[])∧w'=w:=by
 obtain⟨j,hj,_⟩:=Option.map_eq_some_iff.1 qu_
 go_enter Tryz.func157,Tryz.ntmps157
 go_wp2
 rw[Lib.run_neq_ptr_same w _ qv_ hj]
 go_wp2
 go_end0
 exact⟨rfl,rfl⟩
theorem lS_{n:Nat}(hn:2≤n):liesAt Tryz.prog Tryz.prog.depth 174 (n/ Tryz.prog.cellsOf 174) 0 174 1=true:=by
 have hc:Tryz.prog.cellsOf 174=2:=by kernel_rfl
 rw[hc];have hd:Tryz.prog.depth=(2* (Tryz.prog.types.size+Made.depth)+1)+1:=rfl;rw[hd];simp only[liesAt,Bool.or_eq_true];left;rw[hd];have:1≤n/ 2:=by omega
 simp[rowAt,sameLayout,this,hc]
set_option maxHeartbeats 1000000 in
theorem cs_fresh(b:Nat)(w:World)(cs:Array Value)(hh:w.heap[b]?=some (.cells cs 174 (0,0)))(hsz:2≤cs.size)(hc:cs[0]?=some (.pointer none)):
    Calls Tryz.prog 157 #[.pointer (some ⟨b,0,none⟩)] w fun e w'=>e= .returned (.tuple #[])∧w'=w.setCell ⟨b,0,none⟩ (.pointer (some ⟨b,0,none⟩)):=by
 obtain⟨j,hj,hjs⟩:=Option.map_eq_some_iff.1 qu_;have h0:w.cell? ⟨b,0,none⟩=some (.pointer none):=by simp[World.cell?,hh,hc]
 have hsh:w.shape? b=some (174,cs.size):=by simp[World.shape?,hh]
 have hfz:w.frozen? ⟨b,0,none⟩=false:=by simp[World.frozen?,hh]
 go_enter Tryz.func157,Tryz.ntmps157
 go_wp2
 rw[Lib.run_to_unsafe w ⟨b,0,none⟩ qv_ lr_ hj (by rw[hjs];decide) hsh (by show 0< cs.size;omega)];simp only[Result.andThen];rw[Oper.upon_value]
 go_wp2
 rw[run_callFunc_extern Tryz.func196 (by kernel_rfl) (by kernel_rfl) (by kernel_rfl) (e:=Extern.AbiNoEscape.same) (by kernel_rfl)];rw[Lib.run_noEscape];simp only[Result.andThen];rw[Oper.upon_value]
 go_wp2
 rw[Lib.run_from_unsafe w ⟨b,0,none⟩ lr_ qv_ hj hsh (lS_ hsz)];simp only[Result.andThen];rw[Oper.upon_value]
 go_wp2
 go_end0
 exact⟨rfl,rfl⟩
theorem jd_{P:Go.Program}{f:Nat}{fn:Func}{c:Code}(hf:P.funcs[f]?=some fn)(hb:fn.body=some c)(hname:(fn.name== "runtime.NumGoroutine")=false)(xs:Array Value)(w:World):(callFunc f xs).run P w= .ok (.enter f xs) w:=by
 have hname':¬fn.name= "runtime.NumGoroutine" :=by simpa using hname
 simp[callFunc,hf,hname',hb]
theorem hJ_:CSpec Tryz.prog 157 174:=
 ⟨fun xs w=>jd_ Tryz.func157 rfl (by kernel_rfl) xs w,fun b w h0=>cs_used b w h0,fun b w cs hh hsz h0=>cs_fresh b w cs hh hsz h0⟩
theorem of_(a b:Value):Pure (.tup [.v a,.v b]):=by
 rintro M M' β β' w w' y ⟨xs,rfl,x1,x2,e,h1,⟨x3,x4,e2,h2,h3⟩⟩;exact⟨xs,rfl,x1,x2,e,h1,x3,x4,e2,h2,h3⟩
theorem dW_:Tryz.prog.underlying 9=some .string:=by kernel_rfl
theorem bE_len(q:List UInt8):lenA (.arr (bE q))=some q.length:=by simp[lenA,bD_]
theorem gR_(t:List UInt8):(⟨t.toArray⟩:ByteArray).size=t.length:=by simp[ByteArray.size]
theorem ex_(t:List UInt8)(h0:t≠[])(hl:t.length≤1099511627776):BSpec Tryz.prog 103 174 5 none t [tx t] (.tup [i64 t.length,.v .nilIface]):=by
 refine BSpec.intro Tryz.func103 rfl (by kernel_rfl) (aa_ (ad_ _) ac_) (of_ _ _) (nle rfl) ?_;show AWp _ _ _ _ ⟨[(0,.lptr 0 0 0),(1,tx t)],[(0,some ⟨174,2,[bldC 0 1 none]⟩)],2,19⟩;refine r_z 2 ?_;refine s_r 2 ?_;refine a_1 ?_;refine o_1 (.callC rfl rfl rfl rfl rfl (by first|exact .inl rfl|exact .inr rfl) (hJ_)) ?_;refine al_ ?_;refine s_r 10 ?_;refine a_6 ?_;refine o_1 (.appS_e rfl rfl rfl te_172.h dW_ rfl rfl h0 TZ.h rfl TB.h (by omega)) ?_;refine a_z ?_;refine s_r 4 ?_;refine o_0 (.move rfl) ?_;refine o_0 (.builtinV (vs:=[_]) rfl rfl (fun _ _ _=>rfl)) ?_;refine o_0 (.assign rfl) ?_;refine o_0 (.assign rfl) ?_;refine al_ ?_;refine af_ ⟨.inr rfl,?_,12,by decide,rfl,rfl⟩;refine⟨[_,_],⟨_,_,rfl,rfl,⟨_,_,rfl,rfl,rfl⟩⟩,Cv.tup ?_⟩;refine ai_ (Cv.loE ax_ ?_ (ad_ _)) (ai_ (ak_ ax_ (ad_ _)) an_);rw[gR_];rfl
theorem dC_(q t:List UInt8)(hl:q.length+t.length≤1099511627776):BSpec Tryz.prog 103 174 5 (some q) (q++t) [tx t] (.tup [i64 t.length,.v .nilIface]):=by
 refine BSpec.intro Tryz.func103 rfl (by kernel_rfl) (aa_ (ad_ _) ac_) (of_ _ _) (nle rfl) ?_;show AWp _ _ _ _ ⟨[(0,.lptr 0 0 0),(1,tx t)],[(0,some ⟨174,2,[bldC 0 1 (some q)]⟩),(1,some ⟨5,1,bE q⟩)],2,19⟩;refine r_z 2 ?_;refine s_r 2 ?_;refine a_1 ?_;refine o_1 (.callC rfl rfl rfl rfl rfl (by first|exact .inl rfl|exact .inr rfl) (hJ_)) ?_;refine al_ ?_;refine s_r 10 ?_;refine a_6 ?_;refine o_2 (.appS_l rfl rfl rfl te_172.h dW_ rfl rfl rfl rfl TZ.h rfl TB.h (by omega)) ?_;refine a_z ?_;refine s_r 4 ?_;refine o_0 (.move rfl) ?_;refine o_0 (.builtinV (vs:=[_]) rfl rfl (fun _ _ _=>rfl)) ?_;refine o_0 (.assign rfl) ?_;refine o_0 (.assign rfl) ?_;refine al_ ?_;refine af_ ⟨.inr rfl,?_,12,by decide,rfl,rfl⟩;refine⟨[_,_],⟨_,_,rfl,rfl,⟨_,_,rfl,rfl,rfl⟩⟩,Cv.tup ?_⟩;refine ai_ (Cv.loE ax_ ?_ (ad_ _)) (ai_ (ak_ ax_ (ad_ _)) an_);rw[gR_];rfl
theorem kU_:FS 102 [.aptr [bldV none] 0 0] (i64 0):=by
 have hc:Closed (.aptr [bldV none] 0 0):=aL_ (aa_ (ad_ _) (aa_ bs_ ac_));refine f_c Tryz.func102 ?_;refine r_z 1 ?_;refine r_z 6 ?_;exact af_ (t_e (ad_ _))
theorem kT_(q:List UInt8):FS 102 [.aptr [bldV (some q)] 0 0] (i64 q.length):=by
 have hc:Closed (.aptr [bldV (some q)] 0 0):=aL_ (aa_ (lo_any 0).closed (aa_ (aB_ (mv_ q)) ac_));refine f_c Tryz.func102 ?_;refine r_z 1 ?_;refine s_r 6 ?_;refine a_4 ?_;refine o_0 (.len rfl rfl rfl rfl (bE_len q) te_172.h) ?_;refine a_z ?_;exact af_ (t_e (ad_ _))
theorem ub_byte:Tryz.prog.underlying 217=some (.pointer 5):=by kernel_rfl
theorem ub_cells:Tryz.prog.cellsOf 5=1:=by kernel_rfl
theorem qa_(w:World)(g n:Nat):But g w (w.drew.freeze ⟨g,0,none⟩ n):=by
 have hh:∀x,x≠g→(w.drew.freeze ⟨g,0,none⟩ n).heap[x]?=w.heap[x]?:=by
  intro x hx;unfold World.freeze;split;rfl;show(w.heap.modify g _)[x]?=_;rw[Array.getElem?_modify,if_neg (Ne.symm hx)]
 have hsz:(w.drew.freeze ⟨g,0,none⟩ n).heap.size=w.heap.size:=by
  unfold World.freeze;split;rfl;show(w.heap.modify g _).size=_;simp
 refine⟨?_,?_,?_,by omega,fun x _ hx=>hh x hx,fun x N hx=>?_⟩;unfold World.freeze;split <;> rfl;unfold World.freeze;split <;> rfl;unfold World.freeze;split <;> rfl;by_cases hxg:x=g;subst hxg;unfold World.freeze;split;exact hx;unfold aJ_ at hx⊢;show(match (w.heap.modify x _)[x]? with|some (.cells cs _ _)=>some cs.size|some (.map _ _)=>some 0|_=>none)=some N;rw[Array.getElem?_modify,if_pos rfl];cases ho:w.heap[x]? with
 |none=>rw[ho] at hx;cases hx
 |some o=>
  rw[ho] at hx;cases o <;> simp_all
 unfold aJ_ at hx⊢;rw[hh x hxg];exact hx
set_option maxHeartbeats 2000000 in
theorem ds_run (b bj cap:Nat) (q:List UInt8) (w:World) (cs ck:Array Value) (h0:q≠[]) (hb:w.heap[b]?=some (.cells cs 174 (0,0))) (hc1:cs[1]?=some (.slice (some ⟨bj,0,none⟩) q.length cap)) (hl:q.length≤cap) (hm:cap≤maxLen) (hne:b≠bj) (hj:w.heap[bj]?=some (.cells ck 5 (0,0))) (hck:cap≤ck.size)
    (hq:∀(k:Nat) (x:UInt8),q[k]?=some x→ck[k]?=some (Value.int .u8 x.toNat)):Calls Tryz.prog 105 #[.pointer (some ⟨b,0,none⟩)] w fun e w'=>e= .returned (.string ⟨q.toArray⟩)∧But bj w w':=by
 have hl0:q.length≠0:=by simpa using h0
 have c1:w.drew.cell? ⟨b,1,none⟩=some (.slice (some ⟨bj,0,none⟩) q.length cap):=by
  have:w.drew.heap[b]?=some (.cells cs 174 (0,0)):=hb;simp[World.cell?,this,hc1]
 have hSD:(Builtin.unsafeSliceData_ #[172] 217 #[.slice (some ⟨bj,0,none⟩) q.length cap]).run Tryz.prog w.drew= .ok (.pointer (some ⟨bj,0,none⟩)) w.drew:=
  Lib.run_unsafeSliceData_row _ _ _ _ _ _ (by omega)
 have hUS:(Builtin.unsafeString_ #[217,3] 9 #[.pointer (some ⟨bj,0,none⟩),.int .i64 q.length]).run Tryz.prog w.drew= .ok (.string ⟨q.toArray⟩) (w.drew.freeze ⟨bj,0,none⟩ q.length):=by
  refine Lib.run_unsafeString_row w.drew 217 3 9 5 ub_byte ub_cells bj ck.size (by have hg':w.drew.heap[bj]?=some (.cells ck 5 (0,0)):=hj;simp[World.shape?,hg']) q h0 (by omega) (by unfold maxLen at hm;omega) ?_;intro j x hx;have hg':w.drew.heap[bj]?=some (.cells ck 5 (0,0)):=hj;rw[show(⟨bj,0,none⟩:Addr).add j=⟨bj,0+j,none⟩ from fi_ bj 0 j];simp[World.cell?,hg',hq j x hx]
 have mixed:=hmix
 go_enter Tryz.func105,Tryz.ntmps105
 go_wp2
 go_region_o
 all_goals (go_wp2;go_ret;exact⟨rfl,qa_ w bj q.length⟩)
theorem je_:DSpec Tryz.prog 105 174 5:=
 ⟨fun xs w=>jd_ Tryz.func105 rfl (by kernel_rfl) xs w,fun b bj cap q w cs ck h0 hb hc1 hl hm hne hj hck hq=>ds_run b bj cap q w cs ck h0 hb hc1 hl hm hne hj hck hq⟩
end Go.Proofs.YtjkddcfoolilbaaGreatDoor
namespace Go.Proofs.YtjkddcfoolilbaaGreatDoor
open Go.Abs
set_option maxRecDepth 20000
theorem bK_(a b:Rat)(h:qs a+qs b≤549755813888):FS 40 [.agg (qC a),.agg (qC b)] (.agg (qC (a* b))):=by
 have hp:=iH_ a b;have h1:=b1_ a;have h2:=bR_ a;have h3:=b1_ b;have h4:=bR_ b;rw[gp_];refine f_c Tryz.func40 ?_;refine r_z 3 ?_;refine ab_ (r_d hmix 12 ?_);refine c_s (ne_ a.num b.num (by omega)) ?_;refine c_s (cj_ a (by omega)) ?_;refine c_s (cj_ b (by omega)) ?_;refine c_s (dn_ a.den b.den (by omega)) ?_;refine c_s (h9_ (a.num* b.num) (a.den* b.den) (fB_ a b) (by omega)) ?_;refine a_1 ?_;refine al_ (n_k ?_);exact af_ (c_e (aC_ _))
theorem qj_(n:Nat):zI (n:Int)=[mag n,bln false]:=by
 unfold zI;rw[Int.natAbs_natCast];rfl
theorem oC_(x:Int)(n:Nat)(h:bl x.natAbs+bl n≤17592186044416):FS 111 [.agg (zI x),.agg [mag n,bln false]] (.agg (zI (x* n))):=by
 have:=ne_ x n (by simpa using h);rwa[qj_] at this
theorem dy_(a b:Rat)(h:qs a+qs b≤549755813888):FS 89 [.agg (qC a),.agg (qC b)] (.agg (qC (a+b))):=by
 have hp:=js_ a b;have h1:=b1_ a;have h2:=bR_ a;have h3:=b1_ b;have h4:=bR_ b;have e1:=ca_ (x:=a.num) (y:=b.den) h1 (by simpa using h4);have e2:=ca_ (x:=b.num) (y:=a.den) h3 (by simpa using h2);rw[jt_];refine f_c Tryz.func89 ?_;refine r_z 3 ?_;refine ab_ (r_d hmix 8 ?_);refine c_s (cj_ a (by omega)) ?_;refine c_s (cj_ b (by omega)) ?_;refine a_4 ?_;refine al_ (n_k ?_);refine ab_ (r_d hmix 16 ?_);refine c_s (oC_ a.num b.den (by omega)) ?_;refine c_s (oC_ b.num a.den (by omega)) ?_;refine c_s (fs_iadd (a.num* b.den) (b.num* a.den) (by omega)) ?_;refine c_s (dn_ a.den b.den (by omega)) ?_;refine c_s (h9_ (a.num* b.den+b.num* a.den) (a.den* b.den) (fB_ a b) (by omega)) ?_;refine a_1 ?_;refine al_ (n_k ?_);exact af_ (c_e (aC_ _))
theorem rj_(a:Rat):qC (-a)=zI (sgn (!decide (a.num< 0)) a.num.natAbs)++[mag (a.den- 1)]:=by
 unfold qC;rw[Rat.neg_num,Rat.neg_den]
 have e: -a.num=sgn (!decide (a.num< 0)) a.num.natAbs:=by
  unfold sgn;by_cases h:a.num< 0;simp[h];omega;simp[h];omega
 rw[e];rfl
theorem hE_(a:Rat):FS 126 [.agg (qC a)] (.agg (qC (-a))):=by
 have hc:=aC_ (-a);rw[rj_] at hc⊢;refine f_c Tryz.func126 ?_;refine r_z 2 ?_;refine ab_ (r_d hmix 12 ?_);refine c_s (cH_ (!decide (a.num< 0)) a.num.natAbs) ?_;refine a_4 ?_;refine al_ (n_k ?_);exact af_ (c_e (hc))
theorem gz_(a b:Rat)(h:qs a+qs b≤549755813888):FS 100 [.agg (qC a),.agg (qC b)] (.agg (qC (a- b))):=by
 have hs:=dy_ a (-b) (by rw[eQ_];exact h);rw[←Rat.sub_eq_add_neg] at hs;refine f_c Tryz.func100 ?_;refine r_z 3 ?_;refine ab_ (r_d hmix 5 ?_);refine c_s (hE_ b) ?_;refine c_s (hs) ?_;refine a_1 ?_;refine al_ (n_k ?_);exact af_ (c_e (aC_ _))
theorem fs_qover(a b:Rat)(hb:b≠0)(h:qs a+qs b≤549755813888):FS 153 [.agg (qC a),.agg (qC b)] (.agg (qC (a/ b))):=by
 have hp:=mn_ a b;have h1:=b1_ a;have h2:=bR_ a;have h3:=b1_ b;have h4:=bR_ b;have hn:b.num≠0:=fun h=>hb (Rat.num_eq_zero.1 h);have hs:=cZ_ (decide (b.num< 0)) b.den;rw[jg_ a b hb];refine f_c Tryz.func153 ?_;refine r_z 3 ?_;refine ab_ (r_d hmix 17 ?_);refine c_s (cj_ b (by omega)) ?_;refine c_s (cH_ (decide (b.num< 0)) b.den) ?_;refine c_s (ne_ a.num (sgn (decide (b.num< 0)) b.den) (by rw[hs];omega)) ?_;refine c_s (cj_ a (by omega)) ?_;refine c_s (dn_ a.den b.num.natAbs (by omega)) ?_;refine c_s (h9_ (a.num* sgn (decide (b.num< 0)) b.den) (a.den* b.num.natAbs) (Nat.mul_pos a.den_pos (by omega)) (by omega)) ?_;refine a_1 ?_;refine al_ (n_k ?_);exact af_ (c_e (aC_ _))
theorem r3_(a b:Rat)(hb:b≠0)(h:qs a+qs b≤549755813888):FS 93 [.agg (qC a),.agg (qC b)] (.tup [.agg (qC (a/ b)),i64 0]):=by
 have hn:b.num≠0:=fun h=>hb (Rat.num_eq_zero.1 h);have hsg:sgZ b.num≠0:=by unfold sgZ;rw[if_neg hn];split <;> decide
 refine f_c Tryz.func93 ?_;refine r_z 4 ?_;refine ab_ (r_c 3 (br_ b) ?_);refine a_z ?_;refine aj_ rfl (fun h=>?_) (fun h=>?_);exact absurd h (by simpa using hsg);refine ah_ (r_c 5 (fs_qover a b hb (by assumption)) ?_);refine a_z ?_;refine af_ (Fin.many ⟨_,_,rfl,⟨_,_,_,_,_,rfl,rfl,rfl,.inl ⟨TG.h,_,TS.h,nle rfl,rfl⟩⟩,⟨_,_,rfl,rfl,rfl⟩⟩ (nle rfl) ?_);exact ai_ (ak_ ax_ (aC_ _)) (ai_ (ak_ ax_ (ad_ _)) an_)
theorem sJ_(x:Int)(n:Nat)(hn:0< n):(sgZ x= -1∧∃p:Nat,0< p∧x* n= -(p:Int)∧x.natAbs* n=p)∨(sgZ x=0∧x* n=0∧x.natAbs* n=0)∨(sgZ x=1∧∃p:Nat,0< p∧x* n=p∧x.natAbs* n=p):=by
 rcases Int.lt_trichotomy x 0 with hx|hx|hx
 refine .inl ⟨by unfold sgZ;rw[if_neg (by omega),if_pos hx],x.natAbs* n,Nat.mul_pos (by omega) hn,?_,rfl⟩;rw[Int.natCast_mul,←Int.neg_mul];congr 1;omega;subst hx;refine .inr (.inl ⟨rfl,by simp,by simp⟩);refine .inr (.inr ⟨by unfold sgZ;rw[if_neg (by omega),if_neg (by omega)],x.natAbs* n,Nat.mul_pos (by omega) hn,?_,rfl⟩);rw[Int.natCast_mul];congr 1;omega
theorem cmp_code(a b:Rat):cmpQ a b=if sgZ a.num≠sgZ b.num∨sgZ a.num=0 then sgZ a.num- sgZ b.num- (sgZ a.num- sgZ b.num).tdiv 2 else sgZ a.num* cmpZ ((a.num.natAbs* b.den:Nat):Int) ((b.num.natAbs* a.den:Nat):Int):=by
 rw[cmpQ_eq];rcases sJ_ a.num b.den b.den_pos with⟨s1,p,hp,e1,f1⟩|⟨s1,e1,f1⟩|⟨s1,p,hp,e1,f1⟩<;> rcases sJ_ b.num a.den a.den_pos with⟨s2,q,hq,e2,f2⟩|⟨s2,e2,f2⟩|⟨s2,q,hq,e2,f2⟩<;> rw[s1,s2,e1,e2,f1,f2]<;> unfold cmpZ <;> simp <;>(repeat' split)<;> first|rfl|omega
theorem l4_(a b:Rat)(ha:sm a)(hb:sm b):FS 25 [.agg (qC a),.agg (qC b)] (i64 (cmpQ a b)):=by
 have hs:=sm2 ha hb;have h1:=b1_ a;have h2:=bR_ a;have h3:=b1_ b;have h4:=bR_ b;have hc:=cmp_code a b;have hsa:sgZ a.num= -1∨sgZ a.num=0∨sgZ a.num=1:=by unfold sgZ;split;simp;split <;> simp
 have hsb:sgZ b.num= -1∨sgZ b.num=0∨sgZ b.num=1:=by unfold sgZ;split;simp;split <;> simp
 have hbm1:=ey_ a.num.natAbs b.den;have hbm2:=ey_ b.num.natAbs a.den;refine f_c Tryz.func25 ?_;refine r_z 3 ?_;refine ab_ (ab_ (r_d hmix 6 ?_));refine c_s (br_ a) ?_;refine c_s (br_ b) ?_;refine a_2 ?_;refine al_ (n_k ?_);obtain⟨x,hx⟩:∃x,x=sgZ a.num:=⟨_,rfl⟩;obtain⟨y,hy⟩:∃y,y=sgZ b.num:=⟨_,rfl⟩;rw[←hx] at hsa hc⊢;rw[←hy] at hsb hc⊢
 have hq:(x- y).tdiv 2= -1∨(x- y).tdiv 2=0∨(x- y).tdiv 2=1:=by
  rcases hsa with h|h|h <;> rcases hsb with h'|h'|h' <;> rw[h,h']<;> decide
 refine aw_ (fun _:Unit=>⟨[(2,.lptr 1 0 0),(3,.lptr 2 0 0)],[(1,some ⟨46,3,[qC a]⟩),(2,some ⟨46,3,[qC b]⟩)],3,42⟩) (fun _=>x=y∧x≠0) ?_ ?_;by_cases he:x=y;refine s_r 7 ?_;refine a_4 ?_;refine y_g rfl (by simp[he]) (.move rfl) ?_;refine y_g rfl (by simp[he]) (.bin rfl rfl a3_) ?_;refine o_0 (.pickF rfl (by simp[he]) rfl) ?_;refine al_ ?_;refine aj_ rfl (fun h=>?_) (fun h=>?_);have h0:x=0:=by simpa using h
 refine s_r 9 ?_;refine a_6 ?_;refine o_0 (.bin rfl rfl (jp_ (by decide) (by omega))) ?_;refine a_z ?_;refine af_ (aD_ rfl ?_ (ad_ _));rw[hc,if_pos (.inr h0)];rfl;have h0:x≠0:=by simpa using h
 refine ah_ ⟨(),⟨he,h0⟩,?_⟩;exact s_e [];refine s_r 7 ?_;refine a_4 ?_;refine n_g rfl (by simp[he]) ?_;refine n_g rfl (by simp[he]) ?_;refine o_0 (.pickT rfl (by simp[he]) rfl) ?_;refine al_ ?_;refine aj_ rfl (fun h=>?_) (fun h=>?_);refine s_r 9 ?_;refine a_6 ?_;refine o_0 (.bin rfl rfl (jp_ (by decide) (by omega))) ?_;refine a_z ?_;refine af_ (aD_ rfl ?_ (ad_ _));rw[hc,if_pos (.inl he)];rfl;cases h;rintro _ ⟨he,h0⟩
 have hcz:cmpZ ((a.num.natAbs* b.den:Nat):Int) ((b.num.natAbs* a.den:Nat):Int)= -1∨cmpZ ((a.num.natAbs* b.den:Nat):Int) ((b.num.natAbs* a.den:Nat):Int)=0∨cmpZ ((a.num.natAbs* b.den:Nat):Int) ((b.num.natAbs* a.den:Nat):Int)=1:=by
  unfold cmpZ;split;simp;split <;> simp
 have hsx:=br_ a;rw[←hx] at hsx
 have hmul: -9223372036854775808≤x* cmpZ ((a.num.natAbs* b.den:Nat):Int) ((b.num.natAbs* a.den:Nat):Int)∧x* cmpZ ((a.num.natAbs* b.den:Nat):Int) ((b.num.natAbs* a.den:Nat):Int)≤9223372036854775807:=by
  rcases hsa with h|h|h <;> rcases hcz with h'|h'|h' <;> rw[h,h']<;> decide
 refine ab_ (r_d hmix 17 ?_);refine c_s (hsx) ?_;refine c_s (cj_ b (by omega)) ?_;refine c_s (dn_ a.num.natAbs b.den (by omega)) ?_;refine c_s (cj_ a (by omega)) ?_;refine c_s (dn_ b.num.natAbs a.den (by omega)) ?_;refine c_s (gX_ (a.num.natAbs* b.den) (b.num.natAbs* a.den) (by omega)) ?_;refine o_0 (.bin rfl rfl (le_ hmul)) ?_;refine a_1 ?_;refine al_ (n_k ?_);refine af_ (aD_ rfl ?_ (ad_ _));rw[hc,if_neg (by omega)];rfl
theorem j1_(a:Rat):FS 98 [.agg (qC a)] (.agg (qC (absQ a))):=by
 have hc:=aC_ (absQ a);rw[qC_abs] at hc⊢;refine f_c Tryz.func98 ?_;refine r_z 2 ?_;refine ab_ (r_d hmix 8 ?_);refine c_s (cH_ false a.num.natAbs) ?_;refine a_4 ?_;refine al_ (n_k ?_);exact af_ (c_e (hc))
theorem fs_den(a:Rat)(ha:sm a):FS 285 [.agg (qC a)] (.agg (qC ((a.den:Int):Rat))):=by
 have hw:=h7_ (a.den:Int);rw[qj_] at hw;refine f_c Tryz.func285 ?_;refine r_z 2 ?_;refine r_c 5 (cj_ a (by unfold sm at ha;omega)) ?_;refine c_s (hw) ?_;refine a_z ?_;exact af_ (c_e (aC_ _))
theorem su_{z q:Int}{d:Nat}(hd:0< d)(h1:q* d≤z)(h2:z< q* d+d):z/ (d:Int)=q:=by
 have hdi:(0:Int)< d:=by omega
 have a1:q≤z/ (d:Int):=(Int.le_ediv_iff_mul_le hdi).2 h1;have a2:z/ (d:Int)< q+1:=(Int.ediv_lt_iff_lt_mul hdi).2 (by rw[Int.add_mul];omega);omega
theorem j2_(z:Int)(d:Nat)(hd:0< d):z/ (d:Int)=sgn (decide (z< 0)) (if (decide (z< 0) && !(z.natAbs % d==0))=true then z.natAbs/ d+1 else z.natAbs/ d):=by
 have h1:=Nat.div_add_mod z.natAbs d;have h2:=Nat.mod_lt z.natAbs hd;generalize hr:z.natAbs % d=r at *
 generalize hq:z.natAbs/ d=a at *
 have h3:((d* a:Nat):Int)=(a:Int) * d:=by rw[Int.natCast_mul,Int.mul_comm]
 refine su_ hd ?_ ?_ <;> by_cases hz:z< 0 <;> by_cases h0:r=0 <;> simp[sgn,hz,h0,Int.neg_mul,Int.add_mul]<;> omega
theorem r1_(z:Int)(d:Nat)(hd:0< d)(h:bl z.natAbs+bl d≤4398046511104):FS 284 [.agg (zI z),.agg [mag d]] (.agg (zI (z/ d))):=by
 rw[j2_ z d hd];have hbq:=cM_ z.natAbs d;have hb1:=o9_ (z.natAbs/ d) 1;have hb2:bl 1=1:=fR_;obtain⟨Q,hQ⟩:∃Q,Q=(if (decide (z< 0) && !(z.natAbs % d==0))=true then z.natAbs/ d+1 else z.natAbs/ d):=⟨_,rfl⟩;rw[←hQ];refine f_c Tryz.func284 ?_;refine r_z 3 ?_;refine r_c 11 (kI_ z.natAbs d h hd) ?_;refine a_z ?_;refine aP_ (fun _:Unit=>⟨[(2,.lptr 1 0 0),(4,.lptr 2 0 0),(5,.lptr 3 0 0)],[(1,some ⟨44,2,[zI z]⟩),(2,some ⟨44,2,[[.emp,bln false]]⟩),(3,some ⟨42,1,[[mag Q]]⟩)],4,28⟩) (fun _=>True) ?_ ?_;by_cases hz:z< 0;refine s_r 7 ?_;refine a_3 ?_
 first|refine y_g rfl (by simp[hz]) (.load_l rfl rfl rfl TG.h TS.h (nle rfl)) ?_|refine y_g rfl (by simp[hz]) (.load_a rfl rfl TG.h TS.h (nle rfl)) ?_
 refine y_g rfl (by simp[hz]) (.call rfl rfl rfl (eJ_ (z.natAbs % d))) ?_;refine y_g rfl (by simp[hz]) (.un rfl cR_) ?_;refine o_0 (.pickT rfl (by simp[hz]) rfl) ?_;refine al_ ?_;refine aj_ rfl (fun h1=>?_) (fun h1=>?_);have:Q=z.natAbs/ d+1:=by rw[hQ,if_pos];simpa[hz] using h1
 rw[this];refine r_d hmix 4 ?_;refine c_s (do_ 1 (by decide)) ?_;refine c_s (na_ (z.natAbs/ d) 1 (by omega)) ?_;refine a_1 ?_;refine al_ (n_k ?_);refine⟨(),trivial,?_⟩;exact s_e [(2,4),(3,5)];have:Q=z.natAbs/ d:=by rw[hQ,if_neg];simpa[hz] using h1
 rw[this];refine ah_ ⟨(),trivial,?_⟩;exact s_e [(2,4),(3,5)];refine s_r 7 ?_;refine a_3 ?_;refine n_g rfl (by simp[hz]) ?_;refine n_g rfl (by simp[hz]) ?_;refine n_g rfl (by simp[hz]) ?_;refine o_0 (.pickF rfl (by simp[hz]) rfl) ?_;refine al_ ?_;have:Q=z.natAbs/ d:=by rw[hQ,if_neg];simp[hz]
 rw[this];refine aj_ rfl (fun h=>?_) (fun h=>ah_ ⟨(),trivial,?_⟩);cases h;exact s_e [(2,4),(3,5)];rintro _ _;refine r_c 5 (cH_ (decide (z< 0)) Q) ?_;refine a_z ?_;exact af_ (c_e (d6_ _))
theorem ib_(q:Rat)(h:qs q≤1099511627776):FS 257 [.agg (qC q)] (.agg (qC (q.floor:Rat))):=by
 have h1:=b1_ q;have h2:=bR_ q;rw[Rat.floor_def];refine f_c Tryz.func257 ?_;refine r_z 2 ?_;refine ab_ (r_d hmix 7 ?_);refine c_s (cj_ q h) ?_;refine c_s (r1_ q.num q.den q.den_pos (by omega)) ?_;refine c_s (h7_ (q.num/ q.den)) ?_;refine a_1 ?_;refine al_ (n_k ?_);exact af_ (c_e (aC_ _))
def ceilQ(q:Rat):Rat:= -((-q).floor:Rat)
theorem r5_(q:Rat)(h:qs q≤1099511627776):FS 258 [.agg (qC q)] (.agg (qC (ceilQ q))):=by
 refine f_c Tryz.func258 ?_;refine r_z 2 ?_;refine r_c 5 (hE_ q) ?_;refine c_s (ib_ (-q) (by rw[eQ_];exact h)) ?_;refine c_s (hE_ ((-q).floor:Rat)) ?_;refine a_z ?_;exact af_ (c_e (aC_ _))
def wi(k:Int)(m:Nat):Nat:=(max 0 (min k m)).toNat
theorem rS_(k:Int)(m:Nat):FS 288 [i64 k,i64 m] (i64 (wi k m)):=by
 refine f_c Tryz.func288 ?_;refine r_z 1 ?_;refine r_z 5 ?_;refine af_ (aD_ rfl ?_ ?_);simp only[i64,wi];congr 2;split <;> split <;> omega;exact ad_ _
def powS:Nat×Nat×Nat→AState
 |(o,x,m)=>⟨[(1,i64 m),(2,.lptr 1 0 0),(4,.lptr 2 0 0),(5,.lptr 3 0 0)],[(1,some ⟨42,1,[[mag x]]⟩),(2,some ⟨42,1,[[.emp]]⟩),(3,some ⟨42,1,[[mag o]]⟩)],4,23⟩
theorem f0_(o:Nat)(x:Nat)(m:Nat):powS (o,x,m)=⟨[(1,i64 m),(2,.lptr 1 0 0),(4,.lptr 2 0 0),(5,.lptr 3 0 0)],[(1,some ⟨42,1,[[mag x]]⟩),(2,some ⟨42,1,[[.emp]]⟩),(3,some ⟨42,1,[[mag o]]⟩)],4,23⟩:=rfl
theorem pv_(x m:Nat):x^ m=(x* x) ^ (m/ 2) * (if m % 2=1 then x else 1):=by
 rw[←Nat.pow_two,←Nat.pow_mul];have:=Nat.div_add_mod m 2;split
 ·rename_i h;rw[←Nat.pow_succ];congr 1;omega
 ·rename_i h;rw[Nat.mul_one];congr 1;omega
theorem rY_(a n:Nat)(h:bl a* n≤2199023255552)(hn:n≤1000000):FS 287 [.agg [mag a],i64 n] (.agg [mag (a^ n)]):=by
 refine f_c Tryz.func287 ?_;refine r_z 2 ?_;refine r_c 3 (do_ 1 (by decide)) ?_;refine a_z ?_;refine aP_ (fun _:Unit=>⟨[(4,.lptr 2 0 0),(5,.lptr 3 0 0)],[(2,some ⟨42,1,[[.emp]]⟩),(3,some ⟨42,1,[[mag (a^ n)]]⟩)],4,23⟩) (fun _=>True) ?_ ?_;refine ae_ (aq_ powS (fun x=>x.2.2) (fun x=>x.1* x.2.1^ x.2.2=a^ n∧bl x.1+bl x.2.1* x.2.2≤2199023255553∧x.2.2≤1000000) (1,a,n) ⟨by simp,by have:bl 1=1:=fR_;simp only;omega,hn⟩ ?_ ?_);rw[f0_];exact s_e [(1,2),(2,4),(3,5)];rintro⟨o,x,m⟩ ⟨hv,hb,hm⟩;simp only at hv hb hm;rw[f0_];refine ab_ (r_z 2 ?_);refine aj_ rfl (fun h=>?_) (fun h=>?_);have hm0:0< m:=by simpa using h
 have hx1:bl x* 1≤bl x* m:=Nat.mul_le_mul_left _ hm0;have hph:=pv_ x m;refine ah_ ?_
 have hq:(m:Int).tdiv 2=((m/ 2:Nat):Int):=by
  rw[Int.tdiv_eq_ediv_of_nonneg (by omega)];omega
 have hdm:=Nat.div_add_mod m 2;have hml:=Nat.mod_lt m (show 0< 2 by decide);have hlt:m/ 2< m:=by omega
 have hbx:=ey_ x x;have hbo:=ey_ o x;have hxm:bl x* m=bl x* (2* (m/ 2))+bl x* (m % 2):=by rw[←Nat.mul_add];congr 1;omega
 have hx2:bl (x* x) * (m/ 2)≤bl x* (2* (m/ 2)):=by
  have:=Nat.mul_le_mul_right (m/ 2) hbx;rw[←Nat.two_mul,Nat.mul_comm 2,Nat.mul_assoc] at this;exact this
 have hI:(m:Int) % 2=((m % 2:Nat):Int):=by omega
 have hI2:(m:Int) / 2=((m/ 2:Nat):Int):=by omega
 refine ab_ (ae_ (aP_ (fun o':Nat=>powS (o',x,m)) (fun o'=>o'=o* (if m % 2=1 then x else 1)) ?_ ?_));refine r_z 3 ?_;refine aj_ rfl (fun h1=>?_) (fun h1=>?_);have hodd:m % 2=1:=by simp at h1;omega
 refine r_m 4 ?_;refine c_s (dn_ o x (by omega)) ?_;refine a_z ?_;refine⟨o* x,by rw[if_pos hodd],?_⟩;simp only[f0_];exact s_e [];have hev:¬m % 2=1:=by simp at h1;omega
 refine ah_ ⟨o,by rw[if_neg hev,Nat.mul_one],?_⟩;simp only[f0_];exact s_e [];rintro o' ho';rw[f0_]
 have hbo':bl o'≤bl o+bl x* (m % 2):=by
  rw[ho'];split
  ·rename_i h1;rw[h1];omega
  rw[Nat.mul_one];omega
 have hv':o'* (x* x) ^ (m/ 2)=a^ n:=by
  rw[←hv,hph,ho',Nat.mul_assoc,Nat.mul_comm (if m % 2=1 then x else 1)]
 refine r_z 2 ?_;refine aj_ rfl (fun h2=>?_) (fun h2=>?_);refine r_m 4 ?_;refine c_s (dn_ x x (by omega)) ?_;refine a_z ?_;refine r_m 3 ?_;refine a_z ?_;refine⟨(o',x* x,m/ 2),hlt,⟨hv',by simp only;omega,by simp only;omega⟩,?_⟩;rw[f0_];have:=(congrArg (fun z=>AV.v (.int .i64 z)) hI2);exact s_f [];have hm1:m/ 2=0:=by simp at h2;omega
 refine ah_ (r_m 3 ?_);refine a_z ?_;rw[hm1] at hv' hI2;refine⟨(o',x,0),hm0,⟨by simpa using hv',by simp only;omega,by simp only;omega⟩,?_⟩;rw[f0_];have:=(congrArg (fun z=>AV.v (.int .i64 z)) hI2);exact s_f [];have hm0:m=0:=by simp at h;omega
 subst hm0;refine ao_ ⟨(),trivial,?_⟩;have hv':o=a^ n:=by simpa using hv
 rw[hv'];exact s_e [];rintro _ _;refine r_z 2 ?_;exact af_ (c_e (closed_mA _))
theorem fs_two(k:Int):FS 264 [i64 k] (.agg [mag (2^ wi k 256)]):=by
 have hw:wi k 256≤256:=by unfold wi;omega
 have h2:bl 2=2:=by decide
 refine f_c Tryz.func264 ?_;refine r_z 1 ?_;refine r_c 5 (do_ 2 (by decide)) ?_;refine c_s (rS_ k 256) ?_;refine c_s (rY_ 2 (wi k 256) (by rw[h2];omega) (by omega)) ?_;refine a_z ?_;exact af_ (c_e (closed_mA _))
theorem sR_(k:Nat):bl (2^ k)≤k+1:=bl_le (by rw[Nat.pow_succ];have:=Nat.pow_pos (n:=k) (show 0< 2 by decide);omega)
theorem i4_(k:Int):FS 230 [i64 k] (.agg (qC (fineQ (wi k 256)))):=by
 have hw:wi k 256≤256:=by unfold wi;omega
 have hb:=sR_ (wi k 256);have h1:bl (1:Int).natAbs=1:=fR_;refine f_c Tryz.func230 ?_;refine r_z 1 ?_;refine r_c 5 (oA_ 1 (by decide)) ?_;refine c_s (fs_two k) ?_;refine c_s (h9_ 1 (2^ wi k 256) (Nat.pow_pos (by decide)) (by omega)) ?_;refine a_z ?_;exact af_ (c_e (aC_ _))
def twoQ(k:Nat):Rat:=((2^ k:Nat):Int)
theorem mZ_(k:Nat):qs (twoQ k)≤k+1:=by
 have h1:(twoQ k).num=((2^ k:Nat):Int):=rfl;have h2:(twoQ k).den=1:=rfl;unfold qs;rw[h1,h2,Int.natAbs_natCast,fR_];have:=sR_ k;omega
theorem oc_(k:Nat):qs (fineQ k)≤k+1:=by
 have h1:bl (1:Int).natAbs=1:=fR_;exact c7_ (Nat.pow_pos (by decide)) (by omega) (sR_ k)
theorem l1_(a:Rat)(k:Int)(h:qs a≤549755813000):FS 256 [.agg (qC a),i64 k] (.agg (qC (a* twoQ (wi k 256)))):=by
 have hw:wi k 256≤256:=by unfold wi;omega
 have h2:=mZ_ (wi k 256);have hwh:=h7_ ((2^ wi k 256:Nat):Int);rw[qj_] at hwh;refine f_c Tryz.func256 ?_;refine r_z 2 ?_;refine ab_ (r_d hmix 7 ?_);refine c_s (fs_two k) ?_;refine c_s (hwh) ?_;refine c_s (bK_ a (twoQ (wi k 256)) (by omega)) ?_;refine a_1 ?_;refine al_ (n_k ?_);exact af_ (c_e (aC_ _))
def downQ(a:Rat)(k:Nat):Rat:=((a* twoQ k).floor:Rat) * fineQ k
def upQ(a:Rat)(k:Nat):Rat:=ceilQ (a* twoQ k) * fineQ k
theorem ob_(a:Rat):qs (a.floor:Rat)≤qs a+1:=by
 rw[Rat.floor_def];have h1:=b1_ a;have e1:((a.num/ (a.den:Int):Int):Rat).num=a.num/ a.den:=rfl;have e2:((a.num/ (a.den:Int):Int):Rat).den=1:=rfl;have h3:1≤bl a.den:=bl_pos a.den_pos;have h4:=bR_ a;unfold qs at *
 rw[e1,e2,fR_,j2_ _ _ a.den_pos,cZ_];have h5:=cM_ a.num.natAbs a.den;have h6:=o9_ (a.num.natAbs/ a.den) 1;have h7:bl 1=1:=fR_;split <;> omega
theorem qs_ceilQ(a:Rat):qs (ceilQ a)≤qs a+1:=by
 unfold ceilQ;rw[eQ_];have:=ob_ (-a);rwa[eQ_] at this
theorem sf_(a:Rat)(k:Int)(h:sm a):FS 221 [.agg (qC a),i64 k] (.agg (qC (downQ a (wi k 256)))):=by
 unfold sm at h;have hw:wi k 256≤256:=by unfold wi;omega
 have h2:=mZ_ (wi k 256);have h3:=cE_ a (twoQ (wi k 256));have h4:=ob_ (a* twoQ (wi k 256));have h5:=oc_ (wi k 256);refine f_c Tryz.func221 ?_;refine r_z 2 ?_;refine r_c 8 (l1_ a k (by omega)) ?_;refine c_s (ib_ (a* twoQ (wi k 256)) (by omega)) ?_;refine c_s (i4_ k) ?_;refine c_s (bK_ ((a* twoQ (wi k 256)).floor:Rat) (fineQ (wi k 256)) (by omega)) ?_;refine a_z ?_;exact af_ (c_e (aC_ _))
theorem fs_Up(a:Rat)(k:Int)(h:sm a):FS 222 [.agg (qC a),i64 k] (.agg (qC (upQ a (wi k 256)))):=by
 unfold sm at h;have hw:wi k 256≤256:=by unfold wi;omega
 have h2:=mZ_ (wi k 256);have h3:=cE_ a (twoQ (wi k 256));have h4:=qs_ceilQ (a* twoQ (wi k 256));have h5:=oc_ (wi k 256);refine f_c Tryz.func222 ?_;refine r_z 2 ?_;refine r_c 8 (l1_ a k (by omega)) ?_;refine c_s (r5_ (a* twoQ (wi k 256)) (by omega)) ?_;refine c_s (i4_ k) ?_;refine c_s (bK_ (ceilQ (a* twoQ (wi k 256))) (fineQ (wi k 256)) (by omega)) ?_;refine a_z ?_;exact af_ (c_e (aC_ _))
def dec2(n:Nat):List UInt8:=if n< 10 then [48+n.toUInt8] else [48+(n/ 10).toUInt8,48+(n % 10).toUInt8]
theorem k5_(s:ByteArray)(l h:Nat)(zl zh:Int)(el:zl=(l:Int))(eh:zh=(h:Int))(hlh:l≤h)(hh:h≤s.size):∀w,(Instr.sliceAt 9 (.string s) (some (.int .i64 zl)) (some (.int .i64 zh)) none).run Tryz.prog w= .ok (.string (s.extract l h)) w:=fun w=>by
 subst el eh;have b1:∀(i y:Nat) (c:BoundsCode),i≤y→(Instr.sliceBound (.int .i64 (i:Int)) y c).run Tryz.prog w= .ok i w:=fun i y c hi=>ch_ hi c w
 have hr:(Instr.slice 9 (.string s) (some (.int .i64 (l:Int))) (some (.int .i64 (h:Int))) none).run Tryz.prog w= .ok (.string (s.extract l h)) w:=by
  simp[Instr.slice,run_underlying dW_,Instr.sliceBounds,b1 h s.size _ hh,b1 l h _ hlh,Result.andThen]
 unfold Instr.sliceAt;rw[Sem.run_bind,run_underlying dW_];exact hr
def smallsB:ByteArray:=⟨((List.range 100).flatMap fun n=>[48+(n/ 10).toUInt8,48+(n % 10).toUInt8]).toArray⟩
theorem rU_(i:Nat)(h:i< 100):FS 237 [i64 i] (tx (dec2 i)):=by
 refine f_c Tryz.func237 ?_;refine r_z 1 ?_;refine ab_ (r_z 2 ?_);refine aj_ rfl (fun h1=>?_) (fun h1=>?_);have h2:i< 10:=by simp at h1;omega
 refine s_r 5 ?_;refine a_3 ?_;refine o_0 (.slice_v rfl rfl rfl rfl (k5_ _ i (i+1) _ _ rfl (by omega) (by omega) (by exact Nat.le_trans (m:=10) (by omega) (by decide)))) ?_;refine a_z ?_;refine af_ (aD_ rfl ?_ ?_);have key:∀i,i< 10→(ByteArray.mk #[48,49,50,51,52,53,54,55,56,57,97,98,99,100,101,102,103,104,105,106,107,108,109,110,111,112,113,114,115,116,117,118,119,120,121,122]).extract i (i+1)=⟨(dec2 i).toArray⟩:=by decide
 exact congrArg (fun s=>AV.v (.string s)) (key i h2);exact ad_ _;have h2:10≤i:=by simp at h1;omega
 refine ah_ (s_r 7 ?_);refine a_5 ?_;refine o_0 (.slice_v rfl rfl rfl rfl (k5_ _ (i* 2) (i* 2+2) _ _ (by omega) (by omega) (by omega) (by exact Nat.le_trans (m:=200) (by omega) (by decide)))) ?_;refine a_z ?_;refine af_ (aD_ rfl ?_ ?_);have key:∀i,i< 100→10≤i→smallsB.extract (i* 2) (i* 2+2)=⟨(dec2 i).toArray⟩:=by decide
 refine congrArg (fun s=>AV.v (.string s)) (Eq.trans (congrArg (fun s:ByteArray=>s.extract _ _) (?_:_=smallsB)) (key i h h2))
 kernel_rfl
 exact ad_ _
theorem ma_(i:Nat)(h:i< 100):FS 197 [i64 i,i64 10] (tx (dec2 i)):=by
 refine f_c Tryz.func197 ?_;refine r_z 1 ?_;refine ab_ (r_z 2 ?_);refine aj_ rfl (fun h1=>?_) (fun h1=>?_);refine ab_ (s_r 6 ?_);refine a_3 ?_;refine y_g rfl (by simp) (.move rfl) ?_;refine y_g rfl (by simp) (.bin rfl rfl a6_) ?_;refine o_0 (.pickT rfl (by simp) rfl) ?_;refine al_ ?_;refine aj_ rfl (fun h2=>?_) (fun h2=>?_);refine r_c 3 (rU_ i h) ?_;refine a_z ?_;exact af_ (t_e (ad_ _));exact absurd h2 (by simp;omega);exact absurd h1 (by simp)
theorem fs_iItoa(i:Nat)(h:i< 100):FS 158 [i64 i] (tx (dec2 i)):=by
 refine f_c Tryz.func158 ?_;refine r_z 1 ?_;refine r_c 3 (ma_ i h) ?_;refine a_z ?_;exact af_ (t_e (ad_ _))
theorem ni_(i:Nat)(h:i< 100):FS 104 [i64 i] (tx (dec2 i)):=by
 refine f_c Tryz.func104 ?_;refine r_z 1 ?_;refine r_c 3 (fs_iItoa i h) ?_;refine a_z ?_;exact af_ (t_e (ad_ _))
def te0(m:Nat):Unit→AState
 |u=>⟨[(1,.lptr 1 0 0),(3,.lptr 2 0 0),(11,.clos 198 [] [.aptr [[.arr (dE [m])]] 0 0])],[(1,some ⟨42,1,[[.arr (dE [m])]]⟩),(2,some ⟨174,2,[bldC 2 0 none]⟩)],4,31⟩
def te1(m:Nat):Unit→AState
 |u=>⟨[(1,.lptr 1 0 0),(3,.lptr 2 0 0),(11,.clos 198 [] [.aptr [[.arr (dE [m])]] 0 0])],[(1,some ⟨42,1,[[.arr (dE [m])]]⟩),(2,some ⟨174,2,[bldC 2 3 (some (dec2 m))]⟩),(3,some ⟨5,1,bE (dec2 m)⟩)],4,31⟩
def teS(m:Nat):Nat→AState
 |0=>te0 m ()
 |_+1=>te1 m ()
theorem sy_{m:Nat}(h0:m≠0)(h:m< 100):digs MB m=[m]:=by
 have hb:MB=1000000000:=rfl;rw[cx_ (by decide) (by omega),Nat.mod_eq_of_lt (by omega),Nat.div_eq_of_lt (by omega),bb_]
theorem nu_(m:Nat):dec2 m≠[]:=by unfold dec2;split <;> simp
theorem fC_(m:Nat):(dec2 m).length≤2:=by unfold dec2;split <;> simp
theorem oB_(m:Nat)(h:m< 100):FS 106 [.agg [mag m]] (tx (dec2 m)):=by
 have hz:=eJ_ m;refine f_c Tryz.func106 ?_;refine r_z 2 ?_;refine ab_ (r_c 2 (hz) ?_);refine al_ ?_;refine aj_ rfl (fun h1=>?_) (fun h1=>?_);have h2:m=0:=by simpa using h1
 subst h2;refine r_z 1 ?_;exact af_ (t_e (ad_ _));have h2:m≠0:=by simpa using h1
 have hm:mag m= .arr (dE [m]):=by unfold mag;rw[sy_ h2 h]
 rw[hm];refine ah_ ?_;have hln:([m]:List Nat).length=1:=rfl;have hcl:Closed (.aptr [[.arr (dE [m])]] 0 0):=d7_ (fun e he c hc=>by simp at he;subst he;simp at hc;subst hc;exact bl_ _);have hcl2:Closed (.clos 198 [] [.aptr [[.arr (dE [m])]] 0 0]):=aG_ ac_ (aa_ hcl ac_);refine r_z 1 ?_;refine ab_ (r_c 3 (eK_ [m]) ?_);refine al_ ?_;refine aw_ (fun _:Unit=>te1 m ()) (fun _=>True) ?_ ?_;refine ae_ (AWp.rangeFunc (α:=Nat) (γ:=Empty) 1 (teS m) (fun k=>k) (fun k=>k≤1) (fun e=>nomatch e) (fun _ e=>nomatch e) 0 rfl (eG_ [m] (by simp)) rfl rfl ?_ (fun k=>by cases k <;> exact⟨rfl,rfl⟩) (fun e=>nomatch e) (Nat.zero_le _) rfl (fun _ h=>h) ?_ ?_ ?_ ?_ (fun _ e=>nomatch e));intro k xs hT;unfold backT at hT;split at hT;cases hT;rfl;cases hT;show SEntT _ (te0 m ());rw[te0.eq_1];exact s_t [(1,1),(2,3)];exact aa_ hcl ac_
 ·intro l k xs hk hT
  unfold backT at hT;split at hT;rotate_left;cases hT;rename_i hlt;have hk0:k=0:=by simpa using hlt
  subst hk0;cases hT;show AWp _ _ _ _ ⟨setPs (te0 m ()).fr _ _++ct_ (te0 m ()).fr,_,_,_⟩;show AWp _ _ _ _ ⟨[(13,u32 m),(12,i64 0),(1,.lptr 1 0 0),(3,.lptr 2 0 0),(11,.clos 198 [] [.aptr [[.arr (dE [m])]] 0 0]),(1001,.lptr 1 0 0),(1003,.lptr 2 0 0),(1011,.clos 198 [] [.aptr [[.arr (dE [m])]] 0 0])],[(1,some ⟨42,1,[[.arr (dE [m])]]⟩),(2,some ⟨174,2,[bldC 2 0 none]⟩)],4,31⟩;refine r_z 1 ?_;refine r_m 1 ?_;refine a_z ?_;refine ae_ (r_c 4 (ni_ m h) ?_);refine a_z ?_;refine ab_ (r_z 6 ?_);refine aj_ rfl (fun h3=>?_) (fun h3=>?_);exact absurd h3 (by simp);refine ah_ (r_m 2 ?_);refine a_1 ?_;refine o_2 (.callB (s:=none) (j:=0) rfl rfl rfl rfl rfl rfl (fun _ h=>by cases h) (ex_ (dec2 m) (nu_ m) (by have:=fC_ m;omega))) ?_;refine al_ ?_;refine⟨0+1,⟨by omega,rfl⟩,?_⟩;show SEntT _ ⟨[(1001,.lptr 1 0 0),(1003,.lptr 2 0 0),(1011,.clos 198 [] [.aptr [[.arr (dE [m])]] 0 0])],[(1,some ⟨42,1,[[.arr (dE [m])]]⟩),(2,some ⟨174,2,[bldC 2 3 (some (dec2 m))]⟩),(3,some ⟨5,1,bE (dec2 m)⟩)],4,31⟩;refine SEntT.to2 [(3,100017)] rfl rfl rfl au_r (fun hs=>?_) (fun hs=>?_)
  ·repeat' (first|exact aH_|refine ap_ rfl ?_ ?_)
   all_goals (first|(exact ak_ hs hcl2)|exact au_c)
  ·repeat' (first|exact az_|refine fI_ rfl rfl rfl rfl ?_ ?_)
   all_goals (first|exact au_e|(refine av_ ?_;repeat' (first|exact an_|refine ai_ ?_ ?_)))
   all_goals (first|(exact ak_ hs hcl2)|exact au_c)
 ·intro k hk hT
  unfold backT at hT;split at hT;cases hT
  have hk1:k=1:=by
   rename_i hn;simp at hn;omega
  subst hk1;exact⟨(),trivial,SEnt.refl _⟩
 rintro _ _;rw[te1.eq_1];have hne:=nu_ m;refine s_r 2 ?_;refine o_2 (.callD rfl rfl rfl rfl rfl rfl (by decide) (by first|assumption|simp) (je_)) ?_;refine a_z ?_;exact af_ (t_e (ad_ _))
end Go.Proofs.YtjkddcfoolilbaaGreatDoor
