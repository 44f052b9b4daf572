/- Part W13 of the proof. -/
import Derived.Test.YtdjfjpeoddmamaaGreatDoorW12
import Derived.Lib.UnsafeStr
import Derived.Lib.Builder
import Derived.Shelf.RegionOpenPlain
import Derived.Lib.Strings
import Derived.Lib.Slices
import Derived.Lib.Walk
set_option linter.all false
namespace Go.Proofs.YtdjfjpeoddmamaaGreatDoor
open Go.Abs Go.RowKit
set_option maxRecDepth 20000
theorem oJ_:Tryz.prog.underlying 220=some (.pointer 223):=by kernel_rfl
theorem km_:Tryz.prog.underlying 323=some .unsafePointer:=by kernel_rfl
theorem oI_:(Tryz.prog.info? 223).map (·.size)=some 2:=by kernel_rfl
set_option maxHeartbeats 1000000 in
theorem cs_used(b:Nat)(w:World)(h0:w.cell? ⟨b,0,none⟩=some (.pointer (some ⟨b,0,none⟩))):
    Calls Tryz.prog 241 #[.pointer (some ⟨b,0,none⟩)] w fun e w'=>e= .returned (.tuple #[])∧w'=w:=by
 obtain⟨j,hj,_⟩:=Option.map_eq_some_iff.1 oI_
 go_enter Tryz.func241,Tryz.ntmps241
 go_wp2
 rw[Lib.run_neq_ptr_same w _ oJ_ hj]
 go_wp2
 go_end0
 exact⟨rfl,rfl⟩
theorem kQ_{n:Nat}(hn:2≤n):liesAt Tryz.prog Tryz.prog.depth 223 (n/ Tryz.prog.cellsOf 223) 0 223 1=true:=by
 have hc:Tryz.prog.cellsOf 223=2:=by kernel_rfl
 rw[hc]
 have hd:Tryz.prog.depth=(2* (Tryz.prog.types.size+Made.depth)+1)+1:=rfl
 rw[hd]
 simp only[liesAt,Bool.or_eq_true]
 left
 rw[hd]
 have:1≤n/ 2:=by omega
 simp[rowAt,sameLayout,this,hc]
set_option maxHeartbeats 1000000 in
theorem cs_fresh(b:Nat)(w:World)(cs:Array Value)(hh:w.heap[b]?=some (.cells cs 223 (0,0)))(hsz:2≤cs.size)(hc:cs[0]?=some (.pointer none)):
    Calls Tryz.prog 241 #[.pointer (some ⟨b,0,none⟩)] w fun e w'=>e= .returned (.tuple #[])∧w'=w.setCell ⟨b,0,none⟩ (.pointer (some ⟨b,0,none⟩)):=by
 obtain⟨j,hj,hjs⟩:=Option.map_eq_some_iff.1 oI_
 have h0:w.cell? ⟨b,0,none⟩=some (.pointer none):=by simp[World.cell?,hh,hc]
 have hsh:w.shape? b=some (223,cs.size):=by simp[World.shape?,hh]
 have hfz:w.frozen? ⟨b,0,none⟩=false:=by simp[World.frozen?,hh]
 go_enter Tryz.func241,Tryz.ntmps241
 go_wp2
 rw[Lib.run_to_unsafe w ⟨b,0,none⟩ oJ_ km_ hj (by rw[hjs];decide) hsh (by show 0< cs.size;omega)]
 simp only[Result.andThen]
 rw[Oper.upon_value]
 go_wp2
 rw[run_callFunc_extern Tryz.func288 (by kernel_rfl) (by kernel_rfl) (by kernel_rfl) (e:=Extern.AbiNoEscape.same) (by kernel_rfl)]
 rw[Lib.run_noEscape]
 simp only[Result.andThen]
 rw[Oper.upon_value]
 go_wp2
 rw[Lib.run_from_unsafe w ⟨b,0,none⟩ km_ oJ_ hj hsh (kQ_ hsz)]
 simp only[Result.andThen]
 rw[Oper.upon_value]
 go_wp2
 go_end0
 exact⟨rfl,rfl⟩
theorem hZ_{P:Go.Program}{f:Nat}{fn:Func}{c:Code}(hf:P.funcs[f]?=some fn)(hb:fn.body=some c)(hname:(fn.name== "runtime.NumGoroutine")=false)(xs:Array Value)(w:World):(callFunc f xs).run P w= .ok (.enter f xs) w:=by
 have hname':¬fn.name= "runtime.NumGoroutine" :=by simpa using hname
 simp[callFunc,hf,hname',hb]
theorem gN_:CSpec Tryz.prog 241 223:=
 ⟨fun xs w=>hZ_ Tryz.func241 rfl (by kernel_rfl) xs w,fun b w h0=>cs_used b w h0,fun b w cs hh hsz h0=>cs_fresh b w cs hh hsz h0⟩
theorem mU_(a b:Value):Pure (.tup [.v a,.v b]):=by
 rintro M M' β β' w w' y ⟨xs,rfl,x1,x2,e,h1,⟨x3,x4,e2,h2,h3⟩⟩
 exact⟨xs,rfl,x1,x2,e,h1,x3,x4,e2,h2,h3⟩
theorem dr_:Tryz.prog.underlying 9=some .string:=by kernel_rfl
theorem bE_len(q:List UInt8):lenA (.arr (bE q))=some q.length:=by simp[lenA,bI_]
theorem gd_(t:List UInt8):(⟨t.toArray⟩:ByteArray).size=t.length:=by simp[ByteArray.size]
theorem ea_(t:List UInt8)(h0:t≠[])(hl:t.length≤1099511627776):BSpec Tryz.prog 171 223 5 none t [tx t] (.tup [i64 t.length,.v .nilIface]):=by
 refine BSpec.intro Tryz.func171 rfl (by kernel_rfl) (aa_ (ad_ _) ab_) (mU_ _ _) (nle rfl) ?_
 show AWp _ _ _ _ ⟨[(0,.lptr 0 0 0),(1,tx t)],[(0,some ⟨223,2,[bldC 0 1 none]⟩)],2,19⟩
 refine r_z 2 ?_
 refine s_r 2 ?_
 refine a_1 ?_
 refine o_1 (.callC rfl rfl rfl rfl rfl (by first|exact .inl rfl|exact .inr rfl) (gN_)) ?_
 refine an_ ?_
 refine s_r 10 ?_
 refine a_6 ?_
 refine o_1 (.appS_e rfl rfl rfl te_221.h dr_ rfl rfl h0 tz_5.h rfl tb_5.h (by omega)) ?_
 refine a_z ?_
 refine s_r 4 ?_
 refine o_0 (.move rfl) ?_
 refine o_0 (.builtinV (vs:=[_]) rfl rfl (fun _ _ _=>rfl)) ?_
 refine o_0 (.assign rfl) ?_
 refine o_0 (.assign rfl) ?_
 refine an_ ?_
 refine ai_ ⟨.inr rfl,?_,12,by decide,rfl,rfl⟩
 refine⟨[_,_],⟨_,_,rfl,rfl,⟨_,_,rfl,rfl,rfl⟩⟩,Cv.tup ?_⟩
 refine af_ (Cv.loE at_ ?_ (ad_ _)) (af_ (al_ at_ (ad_ _)) ap_)
 rw[gd_];rfl
theorem dd_(q t:List UInt8)(hl:q.length+t.length≤1099511627776):BSpec Tryz.prog 171 223 5 (some q) (q++t) [tx t] (.tup [i64 t.length,.v .nilIface]):=by
 refine BSpec.intro Tryz.func171 rfl (by kernel_rfl) (aa_ (ad_ _) ab_) (mU_ _ _) (nle rfl) ?_
 show AWp _ _ _ _ ⟨[(0,.lptr 0 0 0),(1,tx t)],[(0,some ⟨223,2,[bldC 0 1 (some q)]⟩),(1,some ⟨5,1,bE q⟩)],2,19⟩
 refine r_z 2 ?_
 refine s_r 2 ?_
 refine a_1 ?_
 refine o_1 (.callC rfl rfl rfl rfl rfl (by first|exact .inl rfl|exact .inr rfl) (gN_)) ?_
 refine an_ ?_
 refine s_r 10 ?_
 refine a_6 ?_
 refine o_2 (.appS_l rfl rfl rfl te_221.h dr_ rfl rfl rfl rfl tz_5.h rfl tb_5.h (by omega)) ?_
 refine a_z ?_
 refine s_r 4 ?_
 refine o_0 (.move rfl) ?_
 refine o_0 (.builtinV (vs:=[_]) rfl rfl (fun _ _ _=>rfl)) ?_
 refine o_0 (.assign rfl) ?_
 refine o_0 (.assign rfl) ?_
 refine an_ ?_
 refine ai_ ⟨.inr rfl,?_,12,by decide,rfl,rfl⟩
 refine⟨[_,_],⟨_,_,rfl,rfl,⟨_,_,rfl,rfl,rfl⟩⟩,Cv.tup ?_⟩
 refine af_ (Cv.loE at_ ?_ (ad_ _)) (af_ (al_ at_ (ad_ _)) ap_)
 rw[gd_];rfl
theorem jZ_:FSpec Tryz.prog 170 [.aptr [bldV none] 0 0] (i64 0):=by
 have hc:Closed (.aptr [bldV none] 0 0):=aj_ (aa_ (ad_ _) (aa_ bB_ ab_))
 refine f_n Tryz.func170 ?_ ?_
 exact aa_ hc ab_
 refine r_z 1 ?_
 refine r_z 6 ?_
 exact ai_ (t_e (ad_ _))
theorem jY_(q:List UInt8):FSpec Tryz.prog 170 [.aptr [bldV (some q)] 0 0] (i64 q.length):=by
 have hc:Closed (.aptr [bldV (some q)] 0 0):=aj_ (aa_ (lo_any 0).closed (aa_ (aC_ (lx_ q)) ab_))
 refine f_n Tryz.func170 ?_ ?_
 exact aa_ hc ab_
 refine r_z 1 ?_
 refine s_r 6 ?_
 refine a_4 ?_
 refine o_0 (.len rfl rfl rfl rfl (bE_len q) te_221.h) ?_
 refine a_z ?_
 exact ai_ (t_e (ad_ _))
theorem ub_byte:Tryz.prog.underlying 288=some (.pointer 5):=by kernel_rfl
theorem ub_cells:Tryz.prog.cellsOf 5=1:=by kernel_rfl
theorem ow_(w:World)(g n:Nat):But g w (w.drew.freeze ⟨g,0,none⟩ n):=by
 have hh:∀x,x≠g→(w.drew.freeze ⟨g,0,none⟩ n).heap[x]?=w.heap[x]?:=by
  intro x hx
  unfold World.freeze
  split
  rfl
  show(w.heap.modify g _)[x]?=_
  rw[Array.getElem?_modify,if_neg (Ne.symm hx)]
 have hsz:(w.drew.freeze ⟨g,0,none⟩ n).heap.size=w.heap.size:=by
  unfold World.freeze
  split
  rfl
  show(w.heap.modify g _).size=_
  simp
 refine⟨?_,?_,?_,by omega,fun x _ hx=>hh x hx,fun x N hx=>?_⟩
 unfold World.freeze;split <;> rfl
 unfold World.freeze;split <;> rfl
 unfold World.freeze;split <;> rfl
 by_cases hxg:x=g
 subst hxg
 unfold World.freeze
 split
 exact hx
 unfold aM_ at hx⊢
 show(match (w.heap.modify x _)[x]? with|some (.cells cs _ _)=>some cs.size|some (.map _ _)=>some 0|_=>none)=some N
 rw[Array.getElem?_modify,if_pos rfl]
 cases ho:w.heap[x]? with
 |none=>rw[ho] at hx;cases hx
 |some o=>
  rw[ho] at hx
  cases o <;> simp_all
 unfold aM_ at hx⊢
 rw[hh x hxg];exact hx
set_option maxHeartbeats 2000000 in
theorem ds_run (b bj cap:Nat) (q:List UInt8) (w:World) (cs ck:Array Value) (h0:q≠[]) (hb:w.heap[b]?=some (.cells cs 223 (0,0))) (hc1:cs[1]?=some (.slice (some ⟨bj,0,none⟩) q.length cap)) (hl:q.length≤cap) (hm:cap≤maxLen) (hne:b≠bj) (hj:w.heap[bj]?=some (.cells ck 5 (0,0))) (hck:cap≤ck.size)
    (hq:∀(k:Nat) (x:UInt8),q[k]?=some x→ck[k]?=some (Value.int .u8 x.toNat)):Calls Tryz.prog 173 #[.pointer (some ⟨b,0,none⟩)] w fun e w'=>e= .returned (.string ⟨q.toArray⟩)∧But bj w w':=by
 have hl0:q.length≠0:=by simpa using h0
 have c1:w.drew.cell? ⟨b,1,none⟩=some (.slice (some ⟨bj,0,none⟩) q.length cap):=by
  have:w.drew.heap[b]?=some (.cells cs 223 (0,0)):=hb
  simp[World.cell?,this,hc1]
 have hSD:(Builtin.unsafeSliceData_ #[221] 288 #[.slice (some ⟨bj,0,none⟩) q.length cap]).run Tryz.prog w.drew= .ok (.pointer (some ⟨bj,0,none⟩)) w.drew:=
  Lib.run_unsafeSliceData_row _ _ _ _ _ _ (by omega)
 have hUS:(Builtin.unsafeString_ #[288,3] 9 #[.pointer (some ⟨bj,0,none⟩),.int .i64 q.length]).run Tryz.prog w.drew= .ok (.string ⟨q.toArray⟩) (w.drew.freeze ⟨bj,0,none⟩ q.length):=by
  refine Lib.run_unsafeString_row w.drew 288 3 9 5 ub_byte ub_cells bj ck.size (by have hg':w.drew.heap[bj]?=some (.cells ck 5 (0,0)):=hj;simp[World.shape?,hg']) q h0 (by omega) (by unfold maxLen at hm;omega) ?_
  intro j x hx
  have hg':w.drew.heap[bj]?=some (.cells ck 5 (0,0)):=hj
  rw[show(⟨bj,0,none⟩:Addr).add j=⟨bj,0+j,none⟩ from eZ_ bj 0 j]
  simp[World.cell?,hg',hq j x hx]
 have mixed:=hmix
 go_enter Tryz.func173,Tryz.ntmps173
 go_wp2
 go_region_o
 all_goals (go_wp2;go_ret;exact⟨rfl,ow_ w bj q.length⟩)
theorem h0_:DSpec Tryz.prog 173 223 5:=
 ⟨fun xs w=>hZ_ Tryz.func173 rfl (by kernel_rfl) xs w,fun b bj cap q w cs ck h0 hb hc1 hl hm hne hj hck hq=>ds_run b bj cap q w cs ck h0 hb hc1 hl hm hne hj hck hq⟩
end Go.Proofs.YtdjfjpeoddmamaaGreatDoor
namespace Go.Proofs.YtdjfjpeoddmamaaGreatDoor
open Go.Abs
set_option maxRecDepth 20000
theorem cW_(a b:Rat)(h:qs a+qs b≤549755813888):FSpec Tryz.prog 19 [.agg (qC a),.agg (qC b)] (.agg (qC (a* b))):=by
 have hp:=hz_ a b
 have h1:=b6_ a;have h2:=bT_ a;have h3:=b6_ b;have h4:=bT_ b
 rw[eE_]
 refine f_n Tryz.func19 ?_ ?_
 exact aa_ (av_ a) (aa_ (av_ b) ab_)
 refine r_z 3 ?_
 refine ac_ (r_d hmix 12 ?_)
 refine c_s (mb_ a.num b.num (by omega)) ?_
 refine c_s (ci_ a (by omega)) ?_
 refine c_s (ci_ b (by omega)) ?_
 refine c_s (dJ_ a.den b.den (by omega)) ?_
 refine c_s (jN_ (a.num* b.num) (a.den* b.den) (e9_ a b) (by omega)) ?_
 refine a_1 ?_
 refine an_ (n_k ?_)
 exact ai_ (c_e (av_ _))
theorem zI_nat(n:Nat):zI (n:Int)=[mag n,bln false]:=by
 unfold zI;rw[Int.natAbs_natCast];rfl
theorem nk_(x:Int)(n:Nat)(h:bl x.natAbs+bl n≤17592186044416):FSpec Tryz.prog 91 [.agg (zI x),.agg [mag n,bln false]] (.agg (zI (x* n))):=by
 have:=mb_ x n (by simpa using h)
 rwa[zI_nat] at this
theorem fm_(a b:Rat)(h:qs a+qs b≤549755813888):FSpec Tryz.prog 89 [.agg (qC a),.agg (qC b)] (.agg (qC (a+b))):=by
 have hp:=ii_ a b
 have h1:=b6_ a;have h2:=bT_ a;have h3:=b6_ b;have h4:=bT_ b
 have e1:=bx_ (x:=a.num) (y:=b.den) h1 (by simpa using h4)
 have e2:=bx_ (x:=b.num) (y:=a.den) h3 (by simpa using h2)
 rw[ij_]
 refine f_n Tryz.func89 ?_ ?_
 exact aa_ (av_ a) (aa_ (av_ b) ab_)
 refine r_z 3 ?_
 refine ac_ (r_d hmix 8 ?_)
 refine c_s (ci_ a (by omega)) ?_
 refine c_s (ci_ b (by omega)) ?_
 refine a_4 ?_
 refine an_ (n_k ?_)
 refine ac_ (r_d hmix 16 ?_)
 refine c_s (nk_ a.num b.den (by omega)) ?_
 refine c_s (nk_ b.num a.den (by omega)) ?_
 refine c_s (fs_iadd (a.num* b.den) (b.num* a.den) (by omega)) ?_
 refine c_s (dJ_ a.den b.den (by omega)) ?_
 refine c_s (jN_ (a.num* b.den+b.num* a.den) (a.den* b.den) (e9_ a b) (by omega)) ?_
 refine a_1 ?_
 refine an_ (n_k ?_)
 exact ai_ (c_e (av_ _))
theorem pn_(a:Rat):qC (-a)=zI (sgn (!decide (a.num< 0)) a.num.natAbs)++[mag (a.den- 1)]:=by
 unfold qC
 rw[Rat.neg_num,Rat.neg_den]
 have e: -a.num=sgn (!decide (a.num< 0)) a.num.natAbs:=by
  unfold sgn
  by_cases h:a.num< 0
  simp[h];omega
  simp[h];omega
 rw[e];rfl
theorem gH_(a:Rat):FSpec Tryz.prog 58 [.agg (qC a)] (.agg (qC (-a))):=by
 have hc:=av_ (-a)
 rw[pn_] at hc⊢
 refine f_n Tryz.func58 ?_ ?_
 exact aa_ (av_ a) ab_
 refine r_z 2 ?_
 refine ac_ (r_d hmix 12 ?_)
 refine c_s (cy_ (!decide (a.num< 0)) a.num.natAbs) ?_
 refine a_4 ?_
 refine an_ (n_k ?_)
 exact ai_ (c_e (hc))
theorem ne_(a b:Rat)(h:qs a+qs b≤549755813888):FSpec Tryz.prog 18 [.agg (qC a),.agg (qC b)] (.agg (qC (a- b))):=by
 have hs:=fm_ a (-b) (by rw[fi_];exact h)
 rw[←Rat.sub_eq_add_neg] at hs
 refine f_n Tryz.func18 ?_ ?_
 exact aa_ (av_ a) (aa_ (av_ b) ab_)
 refine r_z 3 ?_
 refine ac_ (r_d hmix 5 ?_)
 refine c_s (gH_ b) ?_
 refine c_s (hs) ?_
 refine a_1 ?_
 refine an_ (n_k ?_)
 exact ai_ (c_e (av_ _))
theorem fs_qover(a b:Rat)(hb:b≠0)(h:qs a+qs b≤549755813888):FSpec Tryz.prog 88 [.agg (qC a),.agg (qC b)] (.agg (qC (a/ b))):=by
 have hp:=ll_ a b
 have h1:=b6_ a;have h2:=bT_ a;have h3:=b6_ b;have h4:=bT_ b
 have hn:b.num≠0:=fun h=>hb (Rat.num_eq_zero.1 h)
 have hs:=cX_ (decide (b.num< 0)) b.den
 rw[h1_ a b hb]
 refine f_n Tryz.func88 ?_ ?_
 exact aa_ (av_ a) (aa_ (av_ b) ab_)
 refine r_z 3 ?_
 refine ac_ (r_d hmix 17 ?_)
 refine c_s (ci_ b (by omega)) ?_
 refine c_s (cy_ (decide (b.num< 0)) b.den) ?_
 refine c_s (mb_ a.num (sgn (decide (b.num< 0)) b.den) (by rw[hs];omega)) ?_
 refine c_s (ci_ a (by omega)) ?_
 refine c_s (dJ_ a.den b.num.natAbs (by omega)) ?_
 refine c_s (jN_ (a.num* sgn (decide (b.num< 0)) b.den) (a.den* b.num.natAbs) (Nat.mul_pos a.den_pos (by omega)) (by omega)) ?_
 refine a_1 ?_
 refine an_ (n_k ?_)
 exact ai_ (c_e (av_ _))
theorem pX_(a b:Rat)(hb:b≠0)(h:qs a+qs b≤549755813888):FSpec Tryz.prog 17 [.agg (qC a),.agg (qC b)] (.tup [.agg (qC (a/ b)),i64 0]):=by
 have hn:b.num≠0:=fun h=>hb (Rat.num_eq_zero.1 h)
 have hsg:sgZ b.num≠0:=by unfold sgZ;rw[if_neg hn];split <;> decide
 refine f_n Tryz.func17 ?_ ?_
 exact aa_ (av_ a) (aa_ (av_ b) ab_)
 refine r_z 4 ?_
 refine ac_ (r_c 3 (bK_ b) ?_)
 refine a_z ?_
 refine am_ rfl (fun h=>?_) (fun h=>?_)
 exact absurd h (by simpa using hsg)
 refine ag_ (r_c 5 (fs_qover a b hb (by assumption)) ?_)
 refine a_z ?_
 refine ai_ (Fin.many ⟨_,_,rfl,⟨_,_,_,_,_,rfl,rfl,rfl,.inl ⟨tg_35.h,_,ts_35.h,nle rfl,rfl⟩⟩,⟨_,_,rfl,rfl,rfl⟩⟩ (nle rfl) ?_)
 exact af_ (al_ at_ (av_ _)) (af_ (al_ at_ (ad_ _)) ap_)
theorem qD_(x:Int)(n:Nat)(hn:0< n):(sgZ x= -1∧∃p:Nat,0< p∧x* n= -(p:Int)∧x.natAbs* n=p)∨(sgZ x=0∧x* n=0∧x.natAbs* n=0)∨(sgZ x=1∧∃p:Nat,0< p∧x* n=p∧x.natAbs* n=p):=by
 rcases Int.lt_trichotomy x 0 with hx|hx|hx
 refine .inl ⟨by unfold sgZ;rw[if_neg (by omega),if_pos hx],x.natAbs* n,Nat.mul_pos (by omega) hn,?_,rfl⟩
 rw[Int.natCast_mul,←Int.neg_mul];congr 1;omega
 subst hx;refine .inr (.inl ⟨rfl,by simp,by simp⟩)
 refine .inr (.inr ⟨by unfold sgZ;rw[if_neg (by omega),if_neg (by omega)],x.natAbs* n,Nat.mul_pos (by omega) hn,?_,rfl⟩)
 rw[Int.natCast_mul];congr 1;omega
theorem cmp_code(a b:Rat):cmpQ a b=if sgZ a.num≠sgZ b.num∨sgZ a.num=0 then sgZ a.num- sgZ b.num- (sgZ a.num- sgZ b.num).tdiv 2 else sgZ a.num* cmpZ ((a.num.natAbs* b.den:Nat):Int) ((b.num.natAbs* a.den:Nat):Int):=by
 rw[cmpQ_eq]
 rcases qD_ a.num b.den b.den_pos with⟨s1,p,hp,e1,f1⟩|⟨s1,e1,f1⟩|⟨s1,p,hp,e1,f1⟩<;> rcases qD_ b.num a.den a.den_pos with⟨s2,q,hq,e2,f2⟩|⟨s2,e2,f2⟩|⟨s2,q,hq,e2,f2⟩<;> rw[s1,s2,e1,e2,f1,f2]<;> unfold cmpZ <;> simp <;>(repeat' split)<;> first|rfl|omega
theorem ja_(a b:Rat)(ha:sm a)(hb:sm b):FSpec Tryz.prog 25 [.agg (qC a),.agg (qC b)] (i64 (cmpQ a b)):=by
 have hs:=sm2 ha hb
 have h1:=b6_ a;have h2:=bT_ a;have h3:=b6_ b;have h4:=bT_ b
 have hc:=cmp_code a b
 have hsa:sgZ a.num= -1∨sgZ a.num=0∨sgZ a.num=1:=by unfold sgZ;split;simp;split <;> simp
 have hsb:sgZ b.num= -1∨sgZ b.num=0∨sgZ b.num=1:=by unfold sgZ;split;simp;split <;> simp
 have hbm1:=eX_ a.num.natAbs b.den
 have hbm2:=eX_ b.num.natAbs a.den
 refine f_n Tryz.func25 ?_ ?_
 exact aa_ (av_ a) (aa_ (av_ b) ab_)
 refine r_z 3 ?_
 refine ac_ (ac_ (r_d hmix 6 ?_))
 refine c_s (bK_ a) ?_
 refine c_s (bK_ b) ?_
 refine a_2 ?_
 refine an_ (n_k ?_)
 obtain⟨x,hx⟩:∃x,x=sgZ a.num:=⟨_,rfl⟩
 obtain⟨y,hy⟩:∃y,y=sgZ b.num:=⟨_,rfl⟩
 rw[←hx] at hsa hc⊢
 rw[←hy] at hsb hc⊢
 have hq:(x- y).tdiv 2= -1∨(x- y).tdiv 2=0∨(x- y).tdiv 2=1:=by
  rcases hsa with h|h|h <;> rcases hsb with h'|h'|h' <;> rw[h,h']<;> decide
 refine aD_ (fun _:Unit=>⟨[(2,.lptr 1 0 0),(3,.lptr 2 0 0)],[(1,some ⟨35,3,[qC a]⟩),(2,some ⟨35,3,[qC b]⟩)],3,42⟩) (fun _=>x=y∧x≠0) ?_ ?_
 by_cases he:x=y
 refine s_r 7 ?_
 refine a_4 ?_
 refine y_g rfl (by simp[he]) (.move rfl) ?_
 refine y_g rfl (by simp[he]) (.bin rfl rfl a8_) ?_
 refine o_0 (.pickF rfl (by simp[he]) rfl) ?_
 refine an_ ?_
 refine am_ rfl (fun h=>?_) (fun h=>?_)
 have h0:x=0:=by simpa using h
 refine s_r 9 ?_
 refine a_6 ?_
 refine o_0 (.bin rfl rfl (ig_ (by decide) (by omega))) ?_
 refine a_z ?_
 refine ai_ (aP_ rfl ?_ (ad_ _))
 rw[hc,if_pos (.inr h0)];rfl
 have h0:x≠0:=by simpa using h
 refine ag_ ⟨(),⟨he,h0⟩,?_⟩
 exact s_e []
 refine s_r 7 ?_
 refine a_4 ?_
 refine n_g rfl (by simp[he]) ?_
 refine n_g rfl (by simp[he]) ?_
 refine o_0 (.pickT rfl (by simp[he]) rfl) ?_
 refine an_ ?_
 refine am_ rfl (fun h=>?_) (fun h=>?_)
 refine s_r 9 ?_
 refine a_6 ?_
 refine o_0 (.bin rfl rfl (ig_ (by decide) (by omega))) ?_
 refine a_z ?_
 refine ai_ (aP_ rfl ?_ (ad_ _))
 rw[hc,if_pos (.inl he)];rfl
 cases h
 rintro _ ⟨he,h0⟩
 have hcz:cmpZ ((a.num.natAbs* b.den:Nat):Int) ((b.num.natAbs* a.den:Nat):Int)= -1∨cmpZ ((a.num.natAbs* b.den:Nat):Int) ((b.num.natAbs* a.den:Nat):Int)=0∨cmpZ ((a.num.natAbs* b.den:Nat):Int) ((b.num.natAbs* a.den:Nat):Int)=1:=by
  unfold cmpZ;split;simp;split <;> simp
 have hsx:=bK_ a
 rw[←hx] at hsx
 have hmul: -9223372036854775808≤x* cmpZ ((a.num.natAbs* b.den:Nat):Int) ((b.num.natAbs* a.den:Nat):Int)∧x* cmpZ ((a.num.natAbs* b.den:Nat):Int) ((b.num.natAbs* a.den:Nat):Int)≤9223372036854775807:=by
  rcases hsa with h|h|h <;> rcases hcz with h'|h'|h' <;> rw[h,h']<;> decide
 refine ac_ (r_d hmix 17 ?_)
 refine c_s (hsx) ?_
 refine c_s (ci_ b (by omega)) ?_
 refine c_s (dJ_ a.num.natAbs b.den (by omega)) ?_
 refine c_s (ci_ a (by omega)) ?_
 refine c_s (dJ_ b.num.natAbs a.den (by omega)) ?_
 refine c_s (gk_ (a.num.natAbs* b.den) (b.num.natAbs* a.den) (by omega)) ?_
 refine o_0 (.bin rfl rfl (g9_ hmul)) ?_
 refine a_1 ?_
 refine an_ (n_k ?_)
 refine ai_ (aP_ rfl ?_ (ad_ _))
 rw[hc,if_neg (by omega)];rfl
theorem nn_(a:Rat):FSpec Tryz.prog 97 [.agg (qC a)] (.agg (qC (absQ a))):=by
 have hc:=av_ (absQ a)
 rw[qC_abs] at hc⊢
 refine f_n Tryz.func97 ?_ ?_
 exact aa_ (av_ a) ab_
 refine r_z 2 ?_
 refine ac_ (r_d hmix 8 ?_)
 refine c_s (cy_ false a.num.natAbs) ?_
 refine a_4 ?_
 refine an_ (n_k ?_)
 exact ai_ (c_e (hc))
theorem fs_den(a:Rat)(ha:sm a):FSpec Tryz.prog 296 [.agg (qC a)] (.agg (qC ((a.den:Int):Rat))):=by
 have hw:=jJ_ (a.den:Int)
 rw[zI_nat] at hw
 refine f_n Tryz.func296 ?_ ?_
 exact aa_ (av_ a) ab_
 refine r_z 2 ?_
 refine r_c 5 (ci_ a (by unfold sm at ha;omega)) ?_
 refine c_s (hw) ?_
 refine a_z ?_
 exact ai_ (c_e (av_ _))
theorem qp_{z q:Int}{d:Nat}(hd:0< d)(h1:q* d≤z)(h2:z< q* d+d):z/ (d:Int)=q:=by
 have hdi:(0:Int)< d:=by omega
 have a1:q≤z/ (d:Int):=(Int.le_ediv_iff_mul_le hdi).2 h1
 have a2:z/ (d:Int)< q+1:=(Int.ediv_lt_iff_lt_mul hdi).2 (by rw[Int.add_mul];omega)
 omega
theorem on_(z:Int)(d:Nat)(hd:0< d):z/ (d:Int)=sgn (decide (z< 0)) (if (decide (z< 0) && !(z.natAbs % d==0))=true then z.natAbs/ d+1 else z.natAbs/ d):=by
 have h1:=Nat.div_add_mod z.natAbs d
 have h2:=Nat.mod_lt z.natAbs hd
 generalize hr:z.natAbs % d=r at *
 generalize hq:z.natAbs/ d=a at *
 have h3:((d* a:Nat):Int)=(a:Int) * d:=by rw[Int.natCast_mul,Int.mul_comm]
 refine qp_ hd ?_ ?_ <;> by_cases hz:z< 0 <;> by_cases h0:r=0 <;> simp[sgn,hz,h0,Int.neg_mul,Int.add_mul]<;> omega
theorem pW_(z:Int)(d:Nat)(hd:0< d)(h:bl z.natAbs+bl d≤4398046511104):FSpec Tryz.prog 325 [.agg (zI z),.agg [mag d]] (.agg (zI (z/ d))):=by
 rw[on_ z d hd]
 have hbq:=cJ_ z.natAbs d
 have hb1:=qM_ (z.natAbs/ d) 1
 have hb2:bl 1=1:=jk_
 obtain⟨Q,hQ⟩:∃Q,Q=(if (decide (z< 0) && !(z.natAbs % d==0))=true then z.natAbs/ d+1 else z.natAbs/ d):=⟨_,rfl⟩
 rw[←hQ]
 refine f_n Tryz.func325 ?_ ?_
 exact aa_ (bO_ z) (aa_ (d8_ d) ab_)
 refine r_z 3 ?_
 refine r_c 11 (jP_ z.natAbs d h hd) ?_
 refine a_z ?_
 refine aS_ (fun _:Unit=>⟨[(2,.lptr 1 0 0),(4,.lptr 2 0 0),(5,.lptr 3 0 0)],[(1,some ⟨33,2,[zI z]⟩),(2,some ⟨33,2,[[.emp,bln false]]⟩),(3,some ⟨31,1,[[mag Q]]⟩)],4,28⟩) (fun _=>True) ?_ ?_
 by_cases hz:z< 0
 refine s_r 7 ?_
 refine a_3 ?_
 first|refine y_g rfl (by simp[hz]) (.load_l rfl rfl rfl tg_31.h ts_31.h (nle rfl)) ?_|refine y_g rfl (by simp[hz]) (.load_a rfl rfl tg_31.h ts_31.h (nle rfl)) ?_
 refine y_g rfl (by simp[hz]) (.call rfl rfl rfl (en_ (z.natAbs % d))) ?_
 refine y_g rfl (by simp[hz]) (.un rfl iI_) ?_
 refine o_0 (.pickT rfl (by simp[hz]) rfl) ?_
 refine an_ ?_
 refine am_ rfl (fun h1=>?_) (fun h1=>?_)
 have:Q=z.natAbs/ d+1:=by rw[hQ,if_pos];simpa[hz] using h1
 rw[this]
 refine r_d hmix 4 ?_
 refine c_s (dL_ 1 (by decide)) ?_
 refine c_s (l8_ (z.natAbs/ d) 1 (by omega)) ?_
 refine a_1 ?_
 refine an_ (n_k ?_)
 refine⟨(),trivial,?_⟩
 exact s_e [(2,4),(3,5)]
 have:Q=z.natAbs/ d:=by rw[hQ,if_neg];simpa[hz] using h1
 rw[this]
 refine ag_ ⟨(),trivial,?_⟩
 exact s_e [(2,4),(3,5)]
 refine s_r 7 ?_
 refine a_3 ?_
 refine n_g rfl (by simp[hz]) ?_
 refine n_g rfl (by simp[hz]) ?_
 refine n_g rfl (by simp[hz]) ?_
 refine o_0 (.pickF rfl (by simp[hz]) rfl) ?_
 refine an_ ?_
 have:Q=z.natAbs/ d:=by rw[hQ,if_neg];simp[hz]
 rw[this]
 refine am_ rfl (fun h=>?_) (fun h=>ag_ ⟨(),trivial,?_⟩)
 cases h
 exact s_e [(2,4),(3,5)]
 rintro _ _
 refine r_c 5 (cy_ (decide (z< 0)) Q) ?_
 refine a_z ?_
 exact ai_ (c_e (bO_ _))
theorem fs_floor(q:Rat)(h:qs q≤1099511627776):FSpec Tryz.prog 300 [.agg (qC q)] (.agg (qC (q.floor:Rat))):=by
 have h1:=b6_ q;have h2:=bT_ q
 rw[Rat.floor_def]
 refine f_n Tryz.func300 ?_ ?_
 exact aa_ (av_ q) ab_
 refine r_z 2 ?_
 refine ac_ (r_d hmix 7 ?_)
 refine c_s (ci_ q h) ?_
 refine c_s (pW_ q.num q.den q.den_pos (by omega)) ?_
 refine c_s (jJ_ (q.num/ q.den)) ?_
 refine a_1 ?_
 refine an_ (n_k ?_)
 exact ai_ (c_e (av_ _))
def ceilQ(q:Rat):Rat:= -((-q).floor:Rat)
def wi(k:Int)(m:Nat):Nat:=(max 0 (min k m)).toNat
def twoQ(k:Nat):Rat:=((2^ k:Nat):Int)
def downQ(a:Rat)(k:Nat):Rat:=((a* twoQ k).floor:Rat) * fineQ k
def upQ(a:Rat)(k:Nat):Rat:=ceilQ (a* twoQ k) * fineQ k
def dec2(n:Nat):List UInt8:=if n< 10 then [48+n.toUInt8] else [48+(n/ 10).toUInt8,48+(n % 10).toUInt8]
theorem j6_(s:ByteArray)(l h:Nat)(zl zh:Int)(el:zl=(l:Int))(eh:zh=(h:Int))(hlh:l≤h)(hh:h≤s.size):∀w,(Instr.sliceAt 9 (.string s) (some (.int .i64 zl)) (some (.int .i64 zh)) none).run Tryz.prog w= .ok (.string (s.extract l h)) w:=fun w=>by
 subst el eh
 have b1:∀(i y:Nat) (c:BoundsCode),i≤y→(Instr.sliceBound (.int .i64 (i:Int)) y c).run Tryz.prog w= .ok i w:=fun i y c hi=>ch_ hi c w
 have hr:(Instr.slice 9 (.string s) (some (.int .i64 (l:Int))) (some (.int .i64 (h:Int))) none).run Tryz.prog w= .ok (.string (s.extract l h)) w:=by
  simp[Instr.slice,run_underlying dr_,Instr.sliceBounds,b1 h s.size _ hh,b1 l h _ hlh,Result.andThen]
 unfold Instr.sliceAt
 rw[Sem.run_bind,run_underlying dr_]
 exact hr
def smallsB:ByteArray:=⟨((List.range 100).flatMap fun n=>[48+(n/ 10).toUInt8,48+(n % 10).toUInt8]).toArray⟩
theorem pO_(i:Nat)(h:i< 100):FSpec Tryz.prog 315 [i64 i] (tx (dec2 i)):=by
 refine f_n Tryz.func315 ?_ ?_
 exact aa_ (ad_ _) ab_
 refine r_z 1 ?_
 refine ac_ (r_z 2 ?_)
 refine am_ rfl (fun h1=>?_) (fun h1=>?_)
 have h2:i< 10:=by simp at h1;omega
 refine s_r 5 ?_
 refine a_3 ?_
 refine o_0 (.slice_v rfl rfl rfl rfl (j6_ _ i (i+1) _ _ rfl (by omega) (by omega) (by exact Nat.le_trans (m:=10) (by omega) (by decide)))) ?_
 refine a_z ?_
 refine ai_ (aP_ rfl ?_ ?_)
 have key:∀i,i< 10→(ByteArray.mk #[48,49,50,51,52,53,54,55,56,57,97,98,99,100,101,102,103,104,105,106,107,108,109,110,111,112,113,114,115,116,117,118,119,120,121,122]).extract i (i+1)=⟨(dec2 i).toArray⟩:=by decide
 exact congrArg (fun s=>AV.v (.string s)) (key i h2)
 exact ad_ _
 have h2:10≤i:=by simp at h1;omega
 refine ag_ (s_r 7 ?_)
 refine a_5 ?_
 refine o_0 (.slice_v rfl rfl rfl rfl (j6_ _ (i* 2) (i* 2+2) _ _ (by omega) (by omega) (by omega) (by exact Nat.le_trans (m:=200) (by omega) (by decide)))) ?_
 refine a_z ?_
 refine ai_ (aP_ rfl ?_ ?_)
 have key:∀i,i< 100→10≤i→smallsB.extract (i* 2) (i* 2+2)=⟨(dec2 i).toArray⟩:=by decide
 refine congrArg (fun s=>AV.v (.string s)) (Eq.trans (congrArg (fun s:ByteArray=>s.extract _ _) (?_:_=smallsB)) (key i h h2))
 kernel_rfl
 exact ad_ _
theorem k9_(i:Nat)(h:i< 100):FSpec Tryz.prog 289 [i64 i,i64 10] (tx (dec2 i)):=by
 refine f_n Tryz.func289 ?_ ?_
 exact aa_ (ad_ _) (aa_ (ad_ _) ab_)
 refine r_z 1 ?_
 refine ac_ (r_z 2 ?_)
 refine am_ rfl (fun h1=>?_) (fun h1=>?_)
 refine ac_ (s_r 6 ?_)
 refine a_3 ?_
 refine y_g rfl (by simp) (.move rfl) ?_
 refine y_g rfl (by simp) (.bin rfl rfl c8_) ?_
 refine o_0 (.pickT rfl (by simp) rfl) ?_
 refine an_ ?_
 refine am_ rfl (fun h2=>?_) (fun h2=>?_)
 refine r_c 3 (pO_ i h) ?_
 refine a_z ?_
 exact ai_ (t_e (ad_ _))
 exact absurd h2 (by simp;omega)
 exact absurd h1 (by simp)
theorem fs_iItoa(i:Nat)(h:i< 100):FSpec Tryz.prog 242 [i64 i] (tx (dec2 i)):=by
 refine f_n Tryz.func242 ?_ ?_
 exact aa_ (ad_ _) ab_
 refine r_z 1 ?_
 refine r_c 3 (k9_ i h) ?_
 refine a_z ?_
 exact ai_ (t_e (ad_ _))
theorem mg_(i:Nat)(h:i< 100):FSpec Tryz.prog 172 [i64 i] (tx (dec2 i)):=by
 refine f_n Tryz.func172 ?_ ?_
 exact aa_ (ad_ _) ab_
 refine r_z 1 ?_
 refine r_c 3 (fs_iItoa i h) ?_
 refine a_z ?_
 exact ai_ (t_e (ad_ _))
def te0(m:Nat):Unit→AState
 |u=>⟨[(1,.lptr 1 0 0),(3,.lptr 2 0 0),(11,.clos 284 [] [.aptr [[.arr (dE [m])]] 0 0])],[(1,some ⟨31,1,[[.arr (dE [m])]]⟩),(2,some ⟨223,2,[bldC 2 0 none]⟩)],4,31⟩
theorem te0_mk(m:Nat)(u:Unit):te0 m u=⟨[(1,.lptr 1 0 0),(3,.lptr 2 0 0),(11,.clos 284 [] [.aptr [[.arr (dE [m])]] 0 0])],[(1,some ⟨31,1,[[.arr (dE [m])]]⟩),(2,some ⟨223,2,[bldC 2 0 none]⟩)],4,31⟩:=rfl
def te1(m:Nat):Unit→AState
 |u=>⟨[(1,.lptr 1 0 0),(3,.lptr 2 0 0),(11,.clos 284 [] [.aptr [[.arr (dE [m])]] 0 0])],[(1,some ⟨31,1,[[.arr (dE [m])]]⟩),(2,some ⟨223,2,[bldC 2 3 (some (dec2 m))]⟩),(3,some ⟨5,1,bE (dec2 m)⟩)],4,31⟩
theorem te1_mk(m:Nat)(u:Unit):te1 m u=⟨[(1,.lptr 1 0 0),(3,.lptr 2 0 0),(11,.clos 284 [] [.aptr [[.arr (dE [m])]] 0 0])],[(1,some ⟨31,1,[[.arr (dE [m])]]⟩),(2,some ⟨223,2,[bldC 2 3 (some (dec2 m))]⟩),(3,some ⟨5,1,bE (dec2 m)⟩)],4,31⟩:=rfl
def teS(m:Nat):Nat→AState
 |0=>te0 m ()
 |_+1=>te1 m ()
theorem qv_{m:Nat}(h0:m≠0)(h:m< 100):digs MB m=[m]:=by
 have hb:MB=1000000000:=rfl
 rw[ct_ (by decide) (by omega),Nat.mod_eq_of_lt (by omega),Nat.div_eq_of_lt (by omega),bl_]
theorem mt_(m:Nat):dec2 m≠[]:=by unfold dec2;split <;> simp
theorem fb_(m:Nat):(dec2 m).length≤2:=by unfold dec2;split <;> simp
theorem nj_(m:Nat)(h:m< 100):FSpec Tryz.prog 168 [.agg [mag m]] (tx (dec2 m)):=by
 have hz:=en_ m
 refine f_n Tryz.func168 ?_ ?_
 exact aa_ (aq_ (aa_ (aL_ m) ab_)) ab_
 refine r_z 2 ?_
 refine ac_ (r_c 2 (hz) ?_)
 refine an_ ?_
 refine am_ rfl (fun h1=>?_) (fun h1=>?_)
 have h2:m=0:=by simpa using h1
 subst h2
 refine r_z 1 ?_
 exact ai_ (t_e (ad_ _))
 have h2:m≠0:=by simpa using h1
 have hm:mag m= .arr (dE [m]):=by unfold mag;rw[qv_ h2 h]
 rw[hm]
 refine ag_ ?_
 have hln:([m]:List Nat).length=1:=rfl
 have hcl:Closed (.aptr [[.arr (dE [m])]] 0 0):=cL_ (fun e he c hc=>by simp at he;subst he;simp at hc;subst hc;exact bu_ _)
 have hcl2:Closed (.clos 284 [] [.aptr [[.arr (dE [m])]] 0 0]):=aR_ ab_ (aa_ hcl ab_)
 refine r_z 1 ?_
 refine ac_ (r_c 3 (ep_ [m]) ?_)
 refine an_ ?_
 refine aD_ (fun _:Unit=>te1 m ()) (fun _=>True) ?_ ?_
 refine ah_ (AWp.rangeFunc (α:=Nat) (γ:=Empty) 1 (teS m) (fun k=>k) (fun k=>k≤1) (fun e=>nomatch e) (fun _ e=>nomatch e) 0 rfl (ek_ [m] (by simp)) rfl rfl ?_ (fun k=>by cases k <;> exact⟨rfl,rfl⟩) (fun e=>nomatch e) (Nat.zero_le _) rfl (fun _ h=>h) ?_ ?_ ?_ ?_ (fun _ e=>nomatch e))
 intro k xs hT
 unfold backT at hT
 split at hT
 cases hT;rfl
 cases hT
 show SEntT _ (te0 m ())
 rw[te0_mk]
 exact s_t [(1,1),(2,3)]
 exact aa_ hcl ab_
 ·intro l k xs hk hT
  unfold backT at hT
  split at hT
  rotate_left
  cases hT
  rename_i hlt
  have hk0:k=0:=by simpa using hlt
  subst hk0
  cases hT
  show AWp _ _ _ _ ⟨setPs (te0 m ()).fr _ _++ca_ (te0 m ()).fr,_,_,_⟩
  show AWp _ _ _ _ ⟨[(13,u32 m),(12,i64 0),(1,.lptr 1 0 0),(3,.lptr 2 0 0),(11,.clos 284 [] [.aptr [[.arr (dE [m])]] 0 0]),(1001,.lptr 1 0 0),(1003,.lptr 2 0 0),(1011,.clos 284 [] [.aptr [[.arr (dE [m])]] 0 0])],[(1,some ⟨31,1,[[.arr (dE [m])]]⟩),(2,some ⟨223,2,[bldC 2 0 none]⟩)],4,31⟩
  refine r_z 1 ?_
  refine r_m 1 ?_
  refine a_z ?_
  refine ah_ (r_c 4 (mg_ m h) ?_)
  refine a_z ?_
  refine ac_ (r_z 6 ?_)
  refine am_ rfl (fun h3=>?_) (fun h3=>?_)
  exact absurd h3 (by simp)
  refine ag_ (r_m 2 ?_)
  refine a_1 ?_
  refine o_2 (.callB (s:=none) (j:=0) rfl rfl rfl rfl rfl rfl (fun _ h=>by cases h) (ea_ (dec2 m) (mt_ m) (by have:=fb_ m;omega))) ?_
  refine an_ ?_
  refine⟨0+1,⟨by omega,rfl⟩,?_⟩
  show SEntT _ ⟨[(1001,.lptr 1 0 0),(1003,.lptr 2 0 0),(1011,.clos 284 [] [.aptr [[.arr (dE [m])]] 0 0])],[(1,some ⟨31,1,[[.arr (dE [m])]]⟩),(2,some ⟨223,2,[bldC 2 3 (some (dec2 m))]⟩),(3,some ⟨5,1,bE (dec2 m)⟩)],4,31⟩
  refine SEntT.to2 [(3,100017)] rfl rfl rfl au_r (fun hs=>?_) (fun hs=>?_)
  ·repeat' (first|exact aA_|refine aw_ rfl ?_ ?_)
   all_goals (first|(exact al_ hs hcl2)|exact au_c)
  ·repeat' (first|exact ao_|refine ak_ rfl rfl rfl rfl ?_ ?_)
   all_goals (first|exact au_e|(refine ae_ ?_;repeat' (first|exact ap_|refine af_ ?_ ?_)))
   all_goals (first|(exact al_ hs hcl2)|exact au_c)
 ·intro k hk hT
  unfold backT at hT
  split at hT
  cases hT
  have hk1:k=1:=by
   rename_i hn;simp at hn;omega
  subst hk1
  exact⟨(),trivial,SEnt.refl _⟩
 rintro _ _
 rw[te1_mk]
 have hne:=mt_ m
 refine s_r 2 ?_
 refine o_2 (.callD rfl rfl rfl rfl rfl rfl (by decide) (by first|assumption|simp) (h0_)) ?_
 refine a_z ?_
 exact ai_ (t_e (ad_ _))
theorem eM_(a b:Rat)(ha:sm a)(hb:sm b):FSpec Tryz.prog 77 [.agg (spC a b)] (bln (decide (cmpQ a b≤0))):=by
 refine f_n Tryz.func77 ?_ ?_
 exact aa_ (bX_ a b) ab_
 refine r_z 2 ?_
 refine r_c 7 (ja_ a b ha hb) ?_
 refine a_z ?_
 exact ai_ (t_e (ad_ _))
theorem fW_(a b:Rat)(ha:sm a)(hb:sm b):FSpec Tryz.prog 13 [.agg (spC a b)] (.agg (qC (b- a))):=by
 refine f_n Tryz.func13 ?_ ?_
 exact aa_ (bX_ a b) ab_
 refine r_z 2 ?_
 refine r_c 6 (ne_ b a (sm2 hb ha)) ?_
 refine a_z ?_
 exact ai_ (c_e (av_ _))
theorem fs_Max1(c:Int):FSpec Tryz.prog 273 [i64 c] (bln (decide (0< c))):=by
 refine f_n Tryz.func273 ?_ ?_
 exact aa_ (ad_ _) ab_
 refine r_z 1 ?_
 refine r_z 3 ?_
 exact ai_ (t_e (ad_ _))
def my_(g:Nat)(l:List Rat):Nat×List AV→AState
 |(i,o)=>⟨[(0,.clos g [] []),(4,.lptr 1 0 0),(5,.lptr 2 0 0),(8,.arr (pE l)),(9,i64 l.length),(10,i64 i)],[(1,some ⟨35,3,[zC]⟩),(2,some ⟨35,3,[o]⟩)],3,27⟩
theorem c4_(g:Nat)(l:List Rat)(i:Nat)(o:List AV):my_ g l (i,o)=⟨[(0,.clos g [] []),(4,.lptr 1 0 0),(5,.lptr 2 0 0),(8,.arr (pE l)),(9,i64 l.length),(10,i64 i)],[(1,some ⟨35,3,[zC]⟩),(2,some ⟨35,3,[o]⟩)],3,27⟩:=rfl
theorem p0_(g:Nat)(bf:Int→Bool)(hg:∀c,FSpec Tryz.prog g [i64 c] (bln (bf c)))(l:List Rat)(hl:smL l)(hln:l.length≤1099511627776):FSpec Tryz.prog 272 [.clos g [] [],.arr (pE l)] (.agg (qC (cf_ bf l))):=by
 refine f_n Tryz.func272 ?_ ?_
 exact aa_ (aR_ ab_ ab_) (aa_ (ar_ l) ab_)
 refine r_z 1 ?_
 refine r_z 1 ?_
 refine ac_ (r_z 3 ?_)
 refine aD_ (fun _:Unit=>⟨[(4,.lptr 1 0 0),(5,.lptr 2 0 0)],[(1,some ⟨35,3,[zC]⟩),(2,some ⟨35,3,[qC (cf_ bf l)]⟩)],3,27⟩) (fun _=>True) ?_ ?_
 refine ah_ (ax_ (fun x:Nat×List AV=>my_ g l x) (fun x=>l.length- x.1) (fun x=>x.1≤l.length∧((x.1=0→x.2=zC)∧(x.1≠0→x.2=qC (cf_ bf (l.take x.1))))) (0,zC) ⟨Nat.zero_le _,fun _=>rfl,fun h=>absurd rfl h⟩ ?_ ?_)
 simp only[c4_]
 exact s_e [(1,4),(2,5)]
 rintro⟨i,o⟩ ⟨hi,ho0,ho⟩
 simp only at hi ho0 ho
 simp only[c4_]
 refine r_z 1 ?_
 refine ac_ (am_ rfl (fun h=>?_) (fun h=>?_))
 refine ag_ ?_
 have hlt:i< l.length:=by simpa using h
 obtain⟨q,hq⟩:∃q,l[i]?=some q:=⟨_,List.getElem?_eq_getElem hlt⟩
 have hq':(pE l)[((i:Nat):Int).toNat]?=some (qC q):=bC_ hq
 have hsq:sm q:=hl q (List.mem_of_getElem? hq)
 have hst:sm (cf_ bf (l.take i)):=ov_ fun q hq=>hl q (List.mem_of_mem_take hq)
 have hsn:=ly_ bf (l.take i) q
 rw[←cw_ hq] at hsn
 refine ac_ (ah_ (s_r 6 ?_))
 refine a_1 ?_
 refine i_x hq' ?_
 refine l_x hq' ?_
 refine a_z ?_
 refine AWp.cutB (fun _:Unit=>my_ g l (i,qC (cf_ bf (l.take (i+1))))) (fun _=>True) ?_ ?_
 by_cases h0:i=0
 subst h0
 have:=ho0 rfl
 subst this
 rw[if_pos (.inl (by simp))] at hsn
 refine s_r 9 ?_
 refine a_3 ?_
 refine n_g rfl d_t ?_
 refine n_g rfl d_t ?_
 refine n_g rfl d_t ?_
 refine n_g rfl d_t ?_
 refine n_g rfl d_t ?_
 refine o_0 (.pickT rfl d_t rfl) ?_
 refine an_ ?_
 refine am_ rfl (fun h=>?_) (fun h=>?_)
 refine r_m 2 ?_
 refine a_z ?_
 refine⟨(),trivial,?_⟩
 simp only[c4_]
 rw[hsn]
 exact s_e []
 cases h
 have ho':o=qC (cf_ bf (l.take i)):=ho h0
 subst ho'
 have hne:l.take i≠[]:=fun h=>by
  have:=congrArg List.length h
  rw[List.length_take,List.length_nil] at this;omega
 refine s_r 9 ?_
 refine a_3 ?_
 refine y_g rfl (by simp;omega) (.move rfl) ?_
 first|refine y_g rfl (by simp;omega) (.load_l rfl rfl rfl tg_35.h ts_35.h (nle rfl)) ?_|refine y_g rfl (by simp;omega) (.load_a rfl rfl tg_35.h ts_35.h (nle rfl)) ?_
 first|refine y_g rfl (by simp;omega) (.load_l rfl rfl rfl tg_35.h ts_35.h (nle rfl)) ?_|refine y_g rfl (by simp;omega) (.load_a rfl rfl tg_35.h ts_35.h (nle rfl)) ?_
 refine y_g rfl (by simp;omega) (.call rfl rfl rfl (ja_ q (cf_ bf (l.take i)) hsq hst)) ?_
 refine y_g rfl (by simp;omega) (.call rfl rfl rfl (hg (cmpQ q (cf_ bf (l.take i))))) ?_
 refine o_0 (.pickF rfl (by simp;omega) rfl) ?_
 refine an_ ?_
 refine am_ rfl (fun h1=>?_) (fun h1=>?_)
 refine r_m 2 ?_
 refine a_z ?_
 refine⟨(),trivial,?_⟩
 simp only[c4_]
 rw[hsn,if_pos (.inr h1)]
 exact s_e []
 refine ag_ ⟨(),trivial,?_⟩
 simp only[c4_]
 rw[hsn,if_neg (fun hh=>hh.elim hne fun h2=>by rw[h1] at h2;cases h2)]
 exact s_e []
 rintro _ _
 rw[c4_]
 refine r_m 2 ?_
 refine a_z ?_
 refine⟨(i+1,qC (cf_ bf (l.take (i+1)))),by simp only;omega,⟨by simp only;omega,fun h=>absurd h (by simp),fun _=>rfl⟩,?_⟩
 simp only[c4_]
 exact s_e []
 have hge:i=l.length:=by simp at h;omega
 refine au_ ⟨(),trivial,?_⟩
 subst hge
 by_cases h0:l.length=0
 have:=ho0 h0
 subst this
 have:cf_ bf l=0:=by
  rw[List.length_eq_zero_iff] at h0;rw[h0];rfl
 rw[this,qC0]
 exact s_e []
 have:=ho h0
 subst this
 rw[List.take_length]
 exact s_e []
 rintro _ _
 refine r_z 2 ?_
 exact ai_ (c_e (av_ _))
theorem fs_Max(l:List Rat)(hl:smL l)(hln:l.length≤1099511627776):FSpec Tryz.prog 226 [.arr (pE l)] (.agg (qC (maxL l))):=by
 refine f_n Tryz.func226 ?_ ?_
 exact aa_ (ar_ l) ab_
 refine r_z 1 ?_
 refine r_c 3 (p0_ 273 _ fs_Max1 l hl hln) ?_
 refine a_z ?_
 exact ai_ (c_e (av_ _))
section
variable {P:Go.Program}{T:Nat}{x y:Operand}
theorem cE_{l m:List UInt8}(h:l.length+m.length≤9223372036854775807):∀w,(do eqGuard .add T x y (.string ⟨l.toArray⟩) (.string ⟨m.toArray⟩);binOp .add T (.string ⟨l.toArray⟩) (.string ⟨m.toArray⟩):Sem Value).run P w= .ok (.string ⟨(l++m).toArray⟩) w:=fun w=>by
 have hm:IntKind.i64.max=9223372036854775807:=by decide
 have e:(⟨l.toArray⟩:ByteArray)++⟨m.toArray⟩=⟨(l++m).toArray⟩:=by
  apply ByteArray.ext;simp
 have hn:¬((((⟨l.toArray⟩:ByteArray).size+(⟨m.toArray⟩:ByteArray).size:Nat):Int)> IntKind.i64.max):=by
  rw[gd_,gd_,hm];omega
 simp only[eqGuard,binOp,Op.stringOp,hn,if_false,e,Sem.run_bind,Sem.run_pure,Result.andThen_ok]
 rfl
theorem di_{l m:List UInt8}:∀w,(do eqGuard .eql T x y (.string ⟨l.toArray⟩) (.string ⟨m.toArray⟩);binOp .eql T (.string ⟨l.toArray⟩) (.string ⟨m.toArray⟩):Sem Value).run P w= .ok (.bool (decide (l=m))) w:=fun w=>by
 rw[nR_]
 congr 2
 have e:∀l:List UInt8,(⟨l.toArray⟩:ByteArray).toList=l:=by
  intro l
  have:=ByteArray.toList_eq (bs:=⟨l.toArray⟩)
  simpa using this
 rw[e,e]
 rw[Bool.eq_iff_iff];simp
end
def textQ(q:Rat):List UInt8:=((if q.num< 0 then [45] else [])++dec2 q.num.natAbs)++(if q.den=1 then [] else 47::dec2 q.den)
def okT(q:Rat):Prop:=q.num.natAbs< 100∧q.den< 100
instance (q:Rat):Decidable (okT q):=inferInstanceAs (Decidable (_∧_))
theorem okT_qs{q:Rat}(h:okT q):qs q≤1099511627776:=by
 obtain⟨h1,h2⟩:=h
 have e1:=bl_le (n:=q.num.natAbs) (k:=7) (by omega)
 have e2:=bl_le (n:=q.den) (k:=7) (by omega)
 unfold qs;omega
theorem textQ_len{q:Rat}:(textQ q).length≤6∧1≤(textQ q).length:=by
 have h1:=fb_ q.num.natAbs
 have h2:=fb_ q.den
 have h3:=List.length_pos_iff.2 (mt_ q.num.natAbs)
 unfold textQ
 split <;> split <;> simp <;> omega
def qtS(q:Rat):List UInt8→AState
 |l=>⟨[(1,.aptr [qC q] 0 0),(3,tx l)],[],2,24⟩
theorem iW_(q:Rat)(l:List UInt8):qtS q l=⟨[(1,.aptr [qC q] 0 0),(3,tx l)],[],2,24⟩:=rfl
theorem np_(q:Rat)(h:okT q):FSpec Tryz.prog 74 [.agg (qC q)] (tx (textQ q)):=by
 have hd1:=fb_ q.num.natAbs
 have hd2:=fb_ q.den
 have hden:1≤q.den:=q.den_pos
 refine f_n Tryz.func74 ?_ ?_
 exact aa_ (av_ q) ab_
 refine r_z 2 ?_
 refine AWp.ent (st':=⟨[(1,.aptr [qC q] 0 0)],[],2,24⟩) ?_ ?_
 exact s_e []
 refine r_c 5 (nj_ q.num.natAbs h.1) ?_
 refine a_z ?_
 refine aS_ (qtS q) (fun l=>l=(if q.num< 0 then [45] else [])++dec2 q.num.natAbs) ?_ ?_
 refine r_z 3 ?_
 refine am_ rfl (fun h1=>?_) (fun h1=>?_)
 have h2:q.num< 0:=by simpa using h1
 refine r_m 3 ?_
 refine a_1 ?_
 refine o_0 (.bin rfl rfl (cE_ (l:=[45]) (by simp;omega))) ?_
 refine a_z ?_
 refine⟨_,by rw[if_pos h2],?_⟩
 rw[iW_]
 refine as_ [] rfl rfl rfl au_r (fun hs=>?_) (fun hs=>?_)
 ·repeat' (first|exact aA_|refine aw_ rfl ?_ ?_)
  all_goals (first|(exact al_ hs (aj_ (aK_ q)))|exact au_c)
 ·repeat' (first|exact ao_|refine ak_ rfl rfl rfl rfl ?_ ?_)
  all_goals (first|exact au_e|(refine ae_ ?_;repeat' (first|exact ap_|refine af_ ?_ ?_)))
  all_goals (first|(exact al_ hs (aj_ (aK_ q)))|exact au_c)
 have h2:¬q.num< 0:=by simpa using h1
 refine ag_ ⟨dec2 q.num.natAbs,by rw[if_neg h2];rfl,?_⟩
 rw[iW_]
 refine as_ [] rfl rfl rfl au_r (fun hs=>?_) (fun hs=>?_)
 ·repeat' (first|exact aA_|refine aw_ rfl ?_ ?_)
  all_goals (first|(exact al_ hs (aj_ (aK_ q)))|exact au_c)
 ·repeat' (first|exact ao_|refine ak_ rfl rfl rfl rfl ?_ ?_)
  all_goals (first|exact au_e|(refine ae_ ?_;repeat' (first|exact ap_|refine af_ ?_ ?_)))
  all_goals (first|(exact al_ hs (aj_ (aK_ q)))|exact au_c)
 rintro l hl
 have hll:l.length≤3:=by rw[hl];split <;> simp <;> omega
 rw[iW_]
 refine aS_ (qtS q) (fun l=>l=textQ q) ?_ ?_
 refine r_c 4 (en_ (q.den- 1)) ?_
 refine a_z ?_
 refine am_ rfl (fun h1=>?_) (fun h1=>?_)
 have h2:¬q.den=1:=by
  intro e;rw[e] at h1;simp at h1
 refine r_m 7 ?_
 refine c_s (ci_ q (okT_qs h)) ?_
 refine c_s (nj_ q.den h.2) ?_
 refine o_0 (.bin rfl rfl (cE_ (l:=[47]) (by simp;omega))) ?_
 refine o_0 (.bin rfl rfl (cE_ (by simp;omega))) ?_
 refine a_z ?_
 refine⟨_,by unfold textQ;rw[if_neg h2,←hl],?_⟩
 rw[iW_]
 refine as_ [] rfl rfl rfl au_r (fun hs=>?_) (fun hs=>?_)
 ·repeat' (first|exact aA_|refine aw_ rfl ?_ ?_)
  all_goals (first|(exact al_ hs (aj_ (aK_ q)))|exact au_c)
 ·repeat' (first|exact ao_|refine ak_ rfl rfl rfl rfl ?_ ?_)
  all_goals (first|exact au_e|(refine ae_ ?_;repeat' (first|exact ap_|refine af_ ?_ ?_)))
  all_goals (first|(exact al_ hs (aj_ (aK_ q)))|exact au_c)
 have h2:q.den=1:=by
  have h3:q.den- 1=0:=by simpa using h1
  omega
 refine ag_ ⟨l,by unfold textQ;rw[if_pos h2,←hl,List.append_nil],?_⟩
 rw[iW_]
 refine as_ [] rfl rfl rfl au_r (fun hs=>?_) (fun hs=>?_)
 ·repeat' (first|exact aA_|refine aw_ rfl ?_ ?_)
  all_goals (first|(exact al_ hs (aj_ (aK_ q)))|exact au_c)
 ·repeat' (first|exact ao_|refine ak_ rfl rfl rfl rfl ?_ ?_)
  all_goals (first|exact au_e|(refine ae_ ?_;repeat' (first|exact ap_|refine af_ ?_ ?_)))
  all_goals (first|(exact al_ hs (aj_ (aK_ q)))|exact au_c)
 rintro l rfl
 rw[iW_]
 refine r_z 2 ?_
 exact ai_ (t_e (ad_ _))
theorem qs_int(n:Int):qs (n:Rat)≤max (bl n.natAbs) 1:=by
 have e1:(n:Rat).num=n:=rfl
 have e2:(n:Rat).den=1:=rfl
 unfold qs;rw[e1,e2,jk_];exact Nat.le_refl _
theorem qs_i64{n:Int}(h: -9223372036854775808≤n∧n≤9223372036854775807):qs (n:Rat)≤64:=by
 have h1:=qs_int n
 have h2:bl n.natAbs≤64:=bl_le (Nat.lt_of_le_of_lt (show n.natAbs≤9223372036854775808 by omega) (by decide))
 omega
theorem fs_Of(n d:Int)(hn: -9223372036854775808≤n∧n≤9223372036854775807)(hd: -9223372036854775808≤d∧d≤9223372036854775807)(h0:d≠0):FSpec Tryz.prog 55 [i64 n,i64 d] (.tup [.agg (qC ((n:Rat) / (d:Rat))),i64 0]):=by
 have h1:=qs_i64 hn
 have h2:=qs_i64 hd
 have hd0:(d:Rat)≠0:=by
  intro h
  have:(d:Rat).num=0:=by rw[h];rfl
  exact h0 this
 refine f_n Tryz.func55 ?_ ?_
 exact aa_ (ad_ _) (aa_ (ad_ _) ab_)
 refine r_z 2 ?_
 refine r_c 9 (dA_ n hn) ?_
 refine c_s (dA_ d hd) ?_
 refine c_s (pX_ (n:Rat) (d:Rat) hd0 (by omega)) ?_
 refine a_z ?_
 refine ai_ (Fin.many ⟨_,_,rfl,⟨_,_,_,_,_,rfl,rfl,rfl,.inl ⟨tg_35.h,_,ts_35.h,nle rfl,rfl⟩⟩,⟨_,_,rfl,rfl,rfl⟩⟩ (nle rfl) ?_)
 exact af_ (al_ at_ (av_ _)) (af_ (al_ at_ (ad_ _)) ap_)
theorem fs_Clone(l:List Rat)(hl:l.length≤1099511627776):FSpec Tryz.prog 184 [.arr (pE l)] (.arr (pE l)):=by
 cases l with
 |nil=>
  refine FSpec.nil1 fun a c=>?_
  refine f_n Tryz.func184 ?_ ?_
  exact aa_ (ad_ _) ab_
  refine r_z 1 ?_
  refine ac_ (r_z 2 ?_)
  refine am_ rfl (fun h=>?_) (fun h=>?_)
  refine r_z 1 ?_
  exact ai_ (Fin.tmpN rfl)
  ·refine ag_ (s_r 4 ?_)
   refine a_2 ?_
   refine o_2 (.append_l rfl rfl rfl te_55.h rfl rfl rfl rfl rfl d_o (by first|exact dR_ _|exact dI_ _|exact df_ _|exact dS_ _|exact dw_ _|assumption|rfl|simp) (by first|rfl|exact dR_ _|exact dI_ _|exact df_ _|exact dS_ _|exact dw_ _|simp) rfl (.vnil) tz_35.h rfl tb_35.h d_o (by first|(simp[maxLen];done)|(simp[maxLen];omega))) ?_
   refine a_z ?_
   exact ai_ (Fin.tmpS rfl rfl rfl rfl (aH_ []))
 |cons q l=>
  have hne:pE (q::l)≠[]:=by simp[pE]
  simp at hl
  refine f_n Tryz.func184 ?_ ?_
  exact aa_ (aC_ (aH_ _)) ab_
  refine r_z 1 ?_
  refine ac_ (s_r 2 ?_)
  refine a_1 ?_
  first|refine aB_ (.nilq_v rfl rfl te_55.h) rfl rfl ?_|refine aB_ (.nilq_arr rfl (hne) rfl te_55.h) rfl rfl ?_
  refine an_ ?_
  refine cF ?_
  ·refine ag_ (s_r 4 ?_)
   refine a_2 ?_
   refine o_2 (.append_l rfl rfl rfl te_55.h rfl rfl rfl rfl rfl d_o (by first|exact dR_ _|exact dI_ _|exact df_ _|exact dS_ _|exact dw_ _|assumption|rfl|simp) (by first|rfl|exact dR_ _|exact dI_ _|exact df_ _|exact dS_ _|exact dw_ _|simp) rfl (.arr (fr_ _)) tz_35.h rfl tb_35.h d_o (by first|(simp[maxLen];done)|(simp[maxLen];omega))) ?_
   refine a_z ?_
   exact ai_ (Fin.tmpS rfl rfl rfl (by simp) (aH_ _))
def trS(l:List Rat):Nat→AState
 |n=>⟨[(0,.arr (pE l)),(3,i64 n)],[],1,23⟩
theorem ey_(l:List Rat)(n:Nat):trS l n=⟨[(0,.arr (pE l)),(3,i64 n)],[],1,23⟩:=rfl
theorem cz_(l:List Rat)(hl:l.length≤1099511627776):FSpec Tryz.prog 99 [.arr (pE l)] (.arr (pE (trimQ l))):=by
 refine f_n Tryz.func99 ?_ ?_
 exact aa_ (aC_ (aH_ _)) ab_
 refine r_z 1 ?_
 refine r_z 3 ?_
 refine aS_ (trS l) (fun n=>n≤l.length∧trimQ l=l.take n) ?_ ?_
 refine ah_ (ax_ (trS l) (fun n=>n) (fun n=>n≤l.length∧trimQ l=trimQ (l.take n)) l.length ⟨Nat.le_refl _,by rw[List.take_length]⟩ ?_ ?_)
 simp only[ey_]
 exact s_e []
 rintro n ⟨hn,ht⟩
 rw[ey_]
 cases n with
 |zero=>
  refine ac_ (s_r 11 ?_)
  refine a_3 ?_
  refine n_g rfl (by simp) ?_
  refine n_g rfl (by simp) ?_
  refine n_g rfl (by simp) ?_
  refine n_g rfl (by simp) ?_
  refine n_g rfl (by simp) ?_
  refine n_g rfl (by simp) ?_
  refine n_g rfl (by simp) ?_
  refine o_0 (.pickF rfl (by simp) rfl) ?_
  refine an_ ?_
  refine cF ?_
  refine au_ ⟨0,⟨Nat.zero_le _,?_⟩,?_⟩
  rw[ht];rfl
  simp only[ey_]
  exact s_e []
 |succ n=>
  obtain⟨q,hq⟩:∃q,l[n]?=some q:=⟨_,List.getElem?_eq_getElem (by omega)⟩
  have hq':(pE l)[(((n+1:Nat):Int)- 1).toNat]?=some (qC q):=by
   rw[show(((n+1:Nat):Int)- 1).toNat=n by omega];exact bC_ hq
  have hs:trimQ (l.take (n+1))=if q=0 then trimQ (l.take n) else l.take (n+1):=by
   rw[cw_ hq,e0_]
  refine ac_ (s_r 11 ?_)
  refine a_3 ?_
  refine y_g rfl (by simp <;> omega) (.move rfl) ?_
  refine y_g rfl (by simp <;> omega) (.move rfl) ?_
  refine y_g rfl (by simp <;> omega) (.bin rfl rfl (f8_ (by omega))) ?_
  first|refine y_g rfl (by simp <;> omega) (.index_l rfl rfl (by omega) (by omega) te_55.h) ?_|refine y_g rfl (by simp <;> omega) (.index_a rfl rfl (by omega) hq' rfl te_55.h) ?_
  first|refine y_g rfl (by simp <;> omega) (.load_l rfl rfl hq' tg_35.h ts_35.h (nle rfl)) ?_|refine y_g rfl (by simp <;> omega) (.load_a rfl hq' tg_35.h ts_35.h (nle rfl)) ?_
  refine y_g rfl (by simp <;> omega) (.call rfl rfl rfl (bK_ q)) ?_
  refine y_g rfl (by simp <;> omega) (.bin rfl rfl a8_) ?_
  refine o_0 (.pickT rfl (by simp <;> omega) rfl) ?_
  refine an_ ?_
  refine am_ rfl (fun h=>?_) (fun h=>?_)
  have h0:q=0:=by
   have h1:sgZ q.num=0:=by simpa using h
   exact sgZ_num_eq.1 h1
  refine ag_ (ah_ (r_m 3 ?_))
  refine a_z ?_
  refine⟨n,Nat.lt_succ_self n,⟨by omega,?_⟩,?_⟩
  rw[ht,hs,if_pos h0]
  simp only[ey_]
  exact s_e []
  have h0:q≠0:=by
   intro e
   have h1:¬sgZ q.num=0:=by simpa using h
   exact h1 (sgZ_num_eq.2 e)
  refine au_ ⟨n+1,⟨hn,?_⟩,?_⟩
  rw[ht,hs,if_neg h0]
  simp only[ey_]
  exact s_e []
 rintro n ⟨hn,ht⟩
 rw[ey_]
 have hcl:=fs_Clone (l.take n) (by simp;omega)
 refine s_r 5 ?_
 refine a_2 ?_
 refine o_0 (.sa_h rfl rfl (h:=n) rfl (by simp;omega) te_55.h (fr_ _)) ?_
 refine o_0 (.call rfl rfl rfl ((by rw[lT_];exact hcl))) ?_
 refine o_0 (.assign rfl) ?_
 refine an_ ?_
 refine ai_ (aP_ rfl ?_ ?_)
 rw[ht]
 exact aC_ (aH_ _)
theorem bz_(l:List Rat)(hl:l.length≤1099511627776):FSpec Tryz.prog 66 [.arr (pE l)] (i64 (degP l)):=by
 have:=a9_ l
 refine f_n Tryz.func66 ?_ ?_
 exact aa_ (aC_ (aH_ _)) ab_
 refine r_z 1 ?_
 refine r_c 5 (cz_ l hl) ?_
 refine a_z ?_
 exact ai_ (t_e (ad_ _))
theorem fx_(l:List Rat)(hl:l.length≤1099511627776):FSpec Tryz.prog 183 [.arr (pE l)] (.agg (qC (leadP l))):=by
 have hlen:=a9_ l
 refine f_n Tryz.func183 ?_ ?_
 exact aa_ (aC_ (aH_ _)) ab_
 refine r_z 1 ?_
 refine r_c 3 (cz_ l hl) ?_
 refine a_z ?_
 refine ac_ (r_z 3 ?_)
 refine am_ rfl (fun h=>?_) (fun h=>?_)
 have h0:trimQ l=[]:=by
  have h1:(trimQ l).length=0:=by simpa using h
  exact List.length_eq_zero_iff.1 h1
 rw[hI_ h0]
 refine r_z 2 ?_
 refine ai_ (Fin.cell rfl rfl rfl tg_35.h ts_35.h (nle rfl) (Cv.agg ?_))
 rw[qC0]
 exact af_ (Cv.emp _) (af_ (al_ at_ (ad_ _)) (af_ (Cv.emp _) ap_))
 obtain⟨n,hn⟩:∃n,(trimQ l).length=n+1:=⟨(trimQ l).length- 1,by
  have h1:¬(trimQ l).length=0:=by simpa using h
  omega⟩
 have hg:(pE (trimQ l))[(((trimQ l).length:Int)- 1).toNat]?=some (qC (leadP l)):=by
  rw[hn,show(((n+1:Nat):Int)- 1).toNat=n by omega];exact bC_ (bG_ hn)
 refine ag_ (s_r 7 ?_)
 refine a_4 ?_
 refine i_x hg ?_
 refine l_x hg ?_
 refine a_z ?_
 exact ai_ (c_e (av_ _))
theorem fs_at(l:List Rat)(i:Nat):FSpec Tryz.prog 238 [.arr (pE l),i64 i] (.agg (qC (coP l i))):=by
 refine f_n Tryz.func238 ?_ ?_
 exact aa_ (aC_ (aH_ _)) (aa_ (ad_ _) ab_)
 refine r_z 1 ?_
 refine ac_ (r_z 4 ?_)
 refine am_ rfl (fun h=>?_) (fun h=>?_)
 have hlt:i< l.length:=by simpa using h
 have hg:(pE l)[((i:Nat):Int).toNat]?=some (qC (coP l i)):=bC_ (bc_ hlt)
 refine s_r 5 ?_
 refine a_2 ?_
 refine i_x hg ?_
 refine l_x hg ?_
 refine a_z ?_
 exact ai_ (c_e (av_ _))
 have hge:l.length≤i:=by simpa using h
 rw[cs_ hge]
 refine ag_ (r_z 2 ?_)
 refine ai_ (Fin.cell rfl rfl rfl tg_35.h ts_35.h (nle rfl) (Cv.agg ?_))
 rw[qC0]
 exact af_ (Cv.emp _) (af_ (al_ at_ (ad_ _)) (af_ (Cv.emp _) ap_))
theorem eE_set{n i e:Nat}{f:Nat→Rat}(h:i< n)(he:e=i):(pE (tabP i f)++List.replicate (n- i) zC).set e (qC (f i))=pE (tabP (i+1) f)++List.replicate (n- (i+1)) zC:=by
 subst he
 obtain⟨k,rfl⟩:∃k,n=e+1+k:=⟨n- (e+1),by omega⟩
 rw[show e+1+k- e=k+1 by omega,show e+1+k- (e+1)=k by omega,List.replicate_succ,List.set_append_right _ _ (by simp)]
 simp[tabP,List.range_succ,pE]
theorem eE_get{n i e:Nat}{f:Nat→Rat}(h:i< n)(he:e=i):(pE (tabP i f)++List.replicate (n- i) zC)[e]?=some zC:=by
 subst he
 rw[List.getElem?_append_right (by simp),List.getElem?_replicate,if_pos (by simp;omega)]
theorem id_(n i:Nat)(f:Nat→Rat):∀e∈pE (tabP i f)++List.replicate (n- i) zC,∀c∈e,Closed c:=by
 intro e he
 rcases List.mem_append.1 he with he|he
 exact aH_ _ e he
 rw[List.eq_of_mem_replicate he];exact dD_
def eachS(n:Nat)(f:Nat→Rat)(g:Nat)(cap:List AV):Nat→AState
 |i=>⟨[(1,.clos g [] cap),(5,.lsl 1 0 n (some n) 3),(10,i64 n),(11,i64 i)],[(1,some ⟨35,3,pE (tabP i f)++List.replicate (n- i) zC⟩)],2,23⟩
theorem f0_(n:Nat)(f:Nat→Rat)(g:Nat)(cap:List AV)(i:Nat):eachS n f g cap i=⟨[(1,.clos g [] cap),(5,.lsl 1 0 n (some n) 3),(10,i64 n),(11,i64 i)],[(1,some ⟨35,3,pE (tabP i f)++List.replicate (n- i) zC⟩)],2,23⟩:=rfl
theorem jU_(n:Nat)(f:Nat→Rat)(g:Nat)(cap:List AV)(hn:n≤1099511627776)(hcap:∀c∈cap,Closed c)(hg:∀i,i< n→FSpec Tryz.prog g ((i64 i::cap).map coe) (.agg (qC (f i)))):FSpec Tryz.prog 138 [i64 n,.clos g [] cap] (.arr (pE (trimQ (tabP n f)))):=by
 refine f_n Tryz.func138 ?_ ?_
 exact aa_ (ad_ _) (aa_ (aR_ ab_ hcap) ab_)
 refine r_z 1 ?_
 refine r_z 3 ?_
 refine ac_ (r_z 3 ?_)
 refine aD_ (fun _:Unit=>eachS n f g cap n) (fun _=>True) ?_ ?_
 refine ah_ (ax_ (eachS n f g cap) (fun i=>n- i) (fun i=>i≤n) 0 (Nat.zero_le _) ?_ ?_)
 simp only[f0_]
 refine as_ [(1,5)] rfl rfl rfl au_r (fun hs=>?_) (fun hs=>?_)
 ·repeat' (first|exact aA_|refine aw_ rfl ?_ ?_)
  all_goals (first|(exact al_ hs (aR_ ab_ hcap))|exact au_c)
 ·repeat' (first|exact ao_|refine ak_ rfl rfl rfl rfl ?_ ?_)
  all_goals (first|(exact aG_ hs rfl (id_ n 0 f))|exact au_e|(refine ae_ ?_;repeat' (first|exact ap_|refine af_ ?_ ?_)))
  all_goals (first|(exact al_ hs (aR_ ab_ hcap))|exact au_c)
 rintro i hi
 rw[f0_]
 refine r_z 1 ?_
 refine ac_ (am_ rfl (fun h=>?_) (fun h=>?_))
 refine ag_ ?_
 have hlt:i< n:=by simpa using h
 refine ac_ (ah_ (r_z 2 ?_))
 refine r_m 7 ?_
 refine c_s (hg i hlt) ?_
 refine a_1 ?_
 refine o_1n (.store rfl rfl (eE_get hlt (Nat.zero_add i)) rfl rfl rfl ts_35.h (nle rfl)) ?_
 refine an_ ?_
 refine r_m 2 ?_
 refine a_z ?_
 refine⟨i+1,by omega,hlt,?_⟩
 simp only[f0_]
 refine as_ [] rfl rfl rfl au_r (fun hs=>?_) (fun hs=>?_)
 ·repeat' (first|exact aA_|refine aw_ rfl ?_ ?_)
  all_goals (first|(exact al_ hs (aR_ ab_ hcap))|exact au_c)
 ·repeat' (first|exact ao_|refine ak_ rfl rfl rfl rfl ?_ ?_)
  all_goals (first|(exact aG_ hs (eE_set hlt (Nat.zero_add i)) (id_ n (i+1) f))|exact au_e|(refine ae_ ?_;repeat' (first|exact ap_|refine af_ ?_ ?_)))
  all_goals (first|(exact al_ hs (aR_ ab_ hcap))|exact au_c)
 have hge:i=n:=by
  have:¬i< n:=by simpa using h
  omega
 subst hge
 refine au_ ⟨(),trivial,?_⟩
 simp only[f0_]
 refine as_ [] rfl rfl rfl au_r (fun hs=>?_) (fun hs=>?_)
 ·repeat' (first|exact aA_|refine aw_ rfl ?_ ?_)
  all_goals (first|(exact al_ hs (aR_ ab_ hcap))|exact au_c)
 ·repeat' (first|exact ao_|refine ak_ rfl rfl rfl rfl ?_ ?_)
  all_goals (first|(exact aQ_ hs (id_ i i f))|exact au_e|(refine ae_ ?_;repeat' (first|exact ap_|refine af_ ?_ ?_)))
  all_goals (first|(exact al_ hs (aR_ ab_ hcap))|exact au_c)
 rintro _ _
 rw[f0_]
 have hfull:List.take n (List.drop 0 (pE (tabP n f)++List.replicate (n- n) zC))=pE (tabP n f):=by
  rw[Nat.sub_self,List.replicate_zero,List.append_nil,List.drop_zero,List.take_of_length_le (by simp)]
 refine s_r 3 ?_
 refine a_1 ?_
 refine o_1 (.callS1 rfl rfl rfl (.shut rfl d_n (.nil)) rfl ((by rw[hfull];exact cz_ (tabP n f) (by simp;exact hn)))) ?_
 refine a_z ?_
 exact ai_ (t_e (aC_ (aH_ _)))
end Go.Proofs.YtdjfjpeoddmamaaGreatDoor
