/- Part Y18 of the proof. -/
import Derived.Test.YtjgokhkahkmpbaaGreatDoorY17
import Derived.Lib.UnsafeStr
import Derived.Lib.Builder
import Derived.Shelf.RegionOpenPlain
import Derived.Lib.Strings
import Derived.Lib.Slices
import Derived.Lib.Walk
set_option linter.all false
namespace Go.Proofs.YtjgokhkahkmpbaaGreatDoor
open Go.Abs Go.RowKit
set_option maxRecDepth 20000
theorem A4:Tryz.prog.underlying 145=some (.pointer 148):=by kernel_rfl
theorem vI:Tryz.prog.underlying 249=some .unsafePointer:=by kernel_rfl
theorem CV:(Tryz.prog.info? 148).map (·.size)=some 2:=by kernel_rfl
set_option maxHeartbeats 1000000 in
theorem cs_used(b:Nat)(w:World)(h0:w.cell? ⟨b,0,none⟩=some (.pointer (some ⟨b,0,none⟩))):
    Calls Tryz.prog 157 #[.pointer (some ⟨b,0,none⟩)] w λe w'=>e= .returned (.tuple #[])/\w'=w:=by
 obtain⟨j,hj,_⟩:=Option.map_eq_some_iff.1 CV
 go_enter Tryz.func157,Tryz.ntmps157
 go_wp2
 rw[Lib.run_neq_ptr_same w _ A4 hj]
 go_wp2
 go_end0
 exact⟨rfl,rfl⟩
theorem xw{n:Nat}(hn:2<=n):liesAt Tryz.prog Tryz.prog.depth 148 (n/ Tryz.prog.cellsOf 148) 0 148 1=true:=by
 have hc:Tryz.prog.cellsOf 148=2:=by kernel_rfl
 rw[hc];have hd:Tryz.prog.depth=(2* (Tryz.prog.types.size+Made.depth)+1)+1:=rfl;rw[hd];simp only[liesAt,Bool.or_eq_true];left;rw[hd];have:1<=n/ 2:=ω
 simp[rowAt,sameLayout,this,hc]
set_option maxHeartbeats 1000000 in
theorem HT(b:Nat)(w:World)(cs:Array Value)(hh:w.heap[b]?=some (.cells cs 148 (0,0)))(hsz:2<=cs.size)(hc:cs[0]?=some (.pointer none)):
    Calls Tryz.prog 157 #[.pointer (some ⟨b,0,none⟩)] w λe w'=>e= .returned (.tuple #[])/\w'=w.setCell ⟨b,0,none⟩ (.pointer (some ⟨b,0,none⟩)):=by
 obtain⟨j,hj,hjs⟩:=Option.map_eq_some_iff.1 CV;have h0:w.cell? ⟨b,0,none⟩=some (.pointer none):=by simp[World.cell?,hh,hc]
 have hsh:w.shape? b=some (148,cs.size):=by simp[World.shape?,hh]
 have hfz:w.frozen? ⟨b,0,none⟩=false:=by simp[World.frozen?,hh]
 go_enter Tryz.func157,Tryz.ntmps157
 go_wp2
 rw[Lib.run_to_unsafe w ⟨b,0,none⟩ A4 vI hj (by rw[hjs];decide) hsh (by show 0< cs.size;omega)];simp only[Result.andThen];rw[Oper.upon_value]
 go_wp2
 rw[run_callFunc_extern Tryz.func209 κ κ κ (e:=Extern.AbiNoEscape.same) κ];rw[Lib.run_noEscape];simp only[Result.andThen];rw[Oper.upon_value]
 go_wp2
 rw[Lib.run_from_unsafe w ⟨b,0,none⟩ vI A4 hj hsh (xw hsz)];simp only[Result.andThen];rw[Oper.upon_value]
 go_wp2
 go_end0
 exact⟨rfl,rfl⟩
theorem re{P:Go.Program}{f:Nat}{fn:Func}{c:Code}(hf:P.funcs[f]?=some fn)(hb:fn.body=some c)(hname:(fn.name== "runtime.NumGoroutine")=false)(xs:Array Value)(w:World):(callFunc f xs).run P w= .ok (.enter f xs) w:=by
 have hname':¬fn.name= "runtime.NumGoroutine" :=by simpa using hname
 simp[callFunc,hf,hname',hb]
theorem qi:CSpec Tryz.prog 157 148:=
 ⟨λxs w=>re Tryz.func157 rfl κ xs w,λb w h0=>cs_used b w h0,λb w cs hh hsz h0=>HT b w cs hh hsz h0⟩
theorem zi(a b:Value):Pure (.tup [.v a,.v b]):=by
 rintro M M' β β' w w' y ⟨xs,rfl,x1,x2,e,h1,⟨x3,x4,e2,h2,h3⟩⟩;exact⟨xs,rfl,x1,x2,e,h1,x3,x4,e2,h2,h3⟩
theorem ig:Tryz.prog.underlying 9=some .string:=by kernel_rfl
theorem bE_len(q:List UInt8):qN (.arr (bE q))=some q.length:=by simp[qN,dz]
theorem na(t:List UInt8):(⟨t.toArray⟩:ByteArray).size=t.length:=by simp[ByteArray.size]
theorem jt(t:List UInt8)(h0:t≠[])(hl:t.length<=1099511627776):BSpec Tryz.prog 95 148 5 none t [tx t] (.tup [i64 t.length,.v .nilIface]):=by
 refine BSpec.intro Tryz.func95 rfl κ (ae (ag _) ai) (zi _ _) (nle rfl) ?_;show AWp _ _ _ _ ⟨[(0,.lptr 0 0 0),(1,tx t)],[(0,some ⟨148,2,[dX 0 1 none]⟩)],2,19⟩;refine r_z 2 ?_;refine s_r 2 ?_;refine a_1 ?_;refine o_1 (.callC rfl rfl rfl rfl rfl (by first|exact .inl rfl|exact .inr rfl) (qi)) ?_;refine ao ?_;refine s_r 10 ?_;refine a_6 ?_;refine o_1 (.appS_e rfl rfl rfl te_146.h ig rfl rfl h0 TZ.h rfl TB.h ω) ?_;refine a_z ?_;refine s_r 4 ?_;refine o_0 (.move rfl) ?_;refine o_0 (.builtinV (vs:=[_]) rfl rfl (λ_ _ _=>rfl)) ?_;refine o_0 (.assign rfl) ?_;refine o_0 (.assign rfl) ?_;refine ao ?_;refine an ⟨.inr rfl,?_,12,δ,rfl,rfl⟩;refine⟨[_,_],⟨_,_,rfl,rfl,⟨_,_,rfl,rfl,rfl⟩⟩,Cv.tup ?_⟩;refine af (Cv.loE aE ?_ (ag _)) (af (ah aE (ag _)) ax);rw[na];rfl
theorem gx(q t:List UInt8)(hl:q.length+t.length<=1099511627776):BSpec Tryz.prog 95 148 5 (some q) (q++t) [tx t] (.tup [i64 t.length,.v .nilIface]):=by
 refine BSpec.intro Tryz.func95 rfl κ (ae (ag _) ai) (zi _ _) (nle rfl) ?_;show AWp _ _ _ _ ⟨[(0,.lptr 0 0 0),(1,tx t)],[(0,some ⟨148,2,[dX 0 1 (some q)]⟩),(1,some ⟨5,1,bE q⟩)],2,19⟩;refine r_z 2 ?_;refine s_r 2 ?_;refine a_1 ?_;refine o_1 (.callC rfl rfl rfl rfl rfl (by first|exact .inl rfl|exact .inr rfl) (qi)) ?_;refine ao ?_;refine s_r 10 ?_;refine a_6 ?_;refine o_2 (.appS_l rfl rfl rfl te_146.h ig rfl rfl rfl rfl TZ.h rfl TB.h ω) ?_;refine a_z ?_;refine s_r 4 ?_;refine o_0 (.move rfl) ?_;refine o_0 (.builtinV (vs:=[_]) rfl rfl (λ_ _ _=>rfl)) ?_;refine o_0 (.assign rfl) ?_;refine o_0 (.assign rfl) ?_;refine ao ?_;refine an ⟨.inr rfl,?_,12,δ,rfl,rfl⟩;refine⟨[_,_],⟨_,_,rfl,rfl,⟨_,_,rfl,rfl,rfl⟩⟩,Cv.tup ?_⟩;refine af (Cv.loE aE ?_ (ag _)) (af (ah aE (ag _)) ax);rw[na];rfl
theorem sT:FS 94 [.aptr [Fc none] 0 0] (i64 0):=by
 have hc:Closed (.aptr [Fc none] 0 0):=aW (ae (ag _) (ae aK ai));refine f_c Tryz.func94 ?_;refine r_z 1 ?_;refine r_z 6 ?_;exact an (t_e (ag _))
theorem sS(q:List UInt8):FS 94 [.aptr [Fc (some q)] 0 0] (i64 q.length):=by
 have hc:Closed (.aptr [Fc (some q)] 0 0):=aW (ae (lo_any 0).closed (ae (aU (wD q)) ai));refine f_c Tryz.func94 ?_;refine r_z 1 ?_;refine s_r 6 ?_;refine a_4 ?_;refine o_0 (.len rfl rfl rfl rfl (bE_len q) te_146.h) ?_;refine a_z ?_;exact an (t_e (ag _))
theorem ub_byte:Tryz.prog.underlying 199=some (.pointer 5):=by kernel_rfl
theorem Fw:Tryz.prog.cellsOf 5=1:=by kernel_rfl
theorem CE(w:World)(g n:Nat):But g w (w.drew.freeze ⟨g,0,none⟩ n):=by
 have hh:∀x,x≠g->(w.drew.freeze ⟨g,0,none⟩ n).heap[x]?=w.heap[x]?:=by
  intro x hx;unfold World.freeze;split;rfl;show(w.heap.modify g _)[x]?=_;rw[Array.getElem?_modify,if_neg (Ne.symm hx)]
 have hsz:(w.drew.freeze ⟨g,0,none⟩ n).heap.size=w.heap.size:=by
  unfold World.freeze;split;rfl;show(w.heap.modify g _).size=_;simp
 refine⟨?_,?_,?_,ω,λx _ hx=>hh x hx,λx N hx=>?_⟩;unfold World.freeze;split <;> rfl;unfold World.freeze;split <;> rfl;unfold World.freeze;split <;> rfl;by_cases hxg:x=g;subst hxg;unfold World.freeze;split;exact hx;unfold aL at hx⊢;show(match (w.heap.modify x _)[x]? with|some (.cells cs _ _)=>some cs.size|some (.map _ _)=>some 0|_=>none)=some N;rw[Array.getElem?_modify,if_pos rfl];cases ho:w.heap[x]? with
 |none=>rw[ho] at hx;cases hx
 |some o=>
  rw[ho] at hx;cases o <;> simp_all
 unfold aL at hx⊢;rw[hh x hxg];exact hx
set_option maxHeartbeats 2000000 in
theorem ds_run (b bj cap:Nat) (q:List UInt8) (w:World) (cs ck:Array Value) (h0:q≠[]) (hb:w.heap[b]?=some (.cells cs 148 (0,0))) (hc1:cs[1]?=some (.slice (some ⟨bj,0,none⟩) q.length cap)) (hl:q.length<=cap) (hm:cap<=maxLen) (hne:b≠bj) (hj:w.heap[bj]?=some (.cells ck 5 (0,0))) (hck:cap<=ck.size)
    (hq:∀(k:Nat) (x:UInt8),q[k]?=some x->ck[k]?=some (Value.int .u8 x.toNat)):Calls Tryz.prog 97 #[.pointer (some ⟨b,0,none⟩)] w λe w'=>e= .returned (.string ⟨q.toArray⟩)/\But bj w w':=by
 have hl0:q.length≠0:=by simpa using h0
 have c1:w.drew.cell? ⟨b,1,none⟩=some (.slice (some ⟨bj,0,none⟩) q.length cap):=by
  have:w.drew.heap[b]?=some (.cells cs 148 (0,0)):=hb;simp[World.cell?,this,hc1]
 have hSD:(Builtin.unsafeSliceData_ #[146] 199 #[.slice (some ⟨bj,0,none⟩) q.length cap]).run Tryz.prog w.drew= .ok (.pointer (some ⟨bj,0,none⟩)) w.drew:=
  Lib.run_unsafeSliceData_row _ _ _ _ _ _ ω
 have hUS:(Builtin.unsafeString_ #[199,3] 9 #[.pointer (some ⟨bj,0,none⟩),.int .i64 q.length]).run Tryz.prog w.drew= .ok (.string ⟨q.toArray⟩) (w.drew.freeze ⟨bj,0,none⟩ q.length):=by
  refine Lib.run_unsafeString_row w.drew 199 3 9 5 ub_byte Fw bj ck.size (by have hg':w.drew.heap[bj]?=some (.cells ck 5 (0,0)):=hj;simp[World.shape?,hg']) q h0 ω (by unfold maxLen at hm;omega) ?_;intro j x hx;have hg':w.drew.heap[bj]?=some (.cells ck 5 (0,0)):=hj;rw[show(⟨bj,0,none⟩:Addr).add j=⟨bj,0+j,none⟩ from jM bj 0 j];simp[World.cell?,hg',hq j x hx]
 have mixed:=hmix
 go_enter Tryz.func97,Tryz.ntmps97
 go_wp2
 go_region_o
 all_goals (go_wp2;go_ret;exact⟨rfl,CE w bj q.length⟩)
theorem rf:DSpec Tryz.prog 97 148 5:=
 ⟨λxs w=>re Tryz.func97 rfl κ xs w,λb bj cap q w cs ck h0 hb hc1 hl hm hne hj hck hq=>ds_run b bj cap q w cs ck h0 hb hc1 hl hm hne hj hck hq⟩
end Go.Proofs.YtjgokhkahkmpbaaGreatDoor
namespace Go.Proofs.YtjgokhkahkmpbaaGreatDoor
open Go.Abs
set_option maxRecDepth 20000
theorem dq(a b:Rat)(h:qs a+qs b<=549755813888):FS 25 [.agg (qC a),.agg (qC b)] (.agg (qC (a* b))):=by
 have hp:=qK a b;have h1:=dB a;have h2:=dp a;have h3:=dB b;have h4:=dp b;rw[nn];refine f_c Tryz.func25 ?_;refine r_z 3 ?_;refine ac (r_d hmix 12 ?_);refine c_s (xJ a.num b.num ω) ?_;refine c_s (ef a ω) ?_;refine c_s (ef b ω) ?_;refine c_s (fO a.den b.den ω) ?_;refine c_s (pP (a.num* b.num) (a.den* b.den) (kN a b) ω) ?_;refine a_1 ?_;refine ao (n_k ?_);exact an (c_e (aS _))
theorem AZ(n:Nat):zI (n:Int)=[mag n,bln false]:=by
 unfold zI;rw[Int.natAbs_natCast];rfl
theorem zX(x:Int)(n:Nat)(h:bl x.natAbs+bl n<=17592186044416):FS 81 [.agg (zI x),.agg [mag n,bln false]] (.agg (zI (x* n))):=by
 have:=xJ x n (by simpa using h);rwa[AZ] at this
theorem fz(a b:Rat)(h:qs a+qs b<=549755813888):FS 44 [.agg (qC a),.agg (qC b)] (.agg (qC (a+b))):=by
 have hp:=rD a b;have h1:=dB a;have h2:=dp a;have h3:=dB b;have h4:=dp b;have e1:=eC (x:=a.num) (y:=b.den) h1 (by simpa using h4);have e2:=eC (x:=b.num) (y:=a.den) h3 (by simpa using h2);rw[rF];refine f_c Tryz.func44 ?_;refine r_z 3 ?_;refine ac (r_d hmix 8 ?_);refine c_s (ef a ω) ?_;refine c_s (ef b ω) ?_;refine a_4 ?_;refine ao (n_k ?_);refine ac (r_d hmix 16 ?_);refine c_s (zX a.num b.den ω) ?_;refine c_s (zX b.num a.den ω) ?_;refine c_s (fs_iadd (a.num* b.den) (b.num* a.den) ω) ?_;refine c_s (fO a.den b.den ω) ?_;refine c_s (pP (a.num* b.den+b.num* a.den) (a.den* b.den) (kN a b) ω) ?_;refine a_1 ?_;refine ao (n_k ?_);exact an (c_e (aS _))
theorem Es(a:Rat):qC (-a)=zI (sgn (!decide (a.num< 0)) a.num.natAbs)++[mag (a.den- 1)]:=by
 unfold qC;rw[Rat.neg_num,Rat.neg_den]
 have e: -a.num=sgn (!decide (a.num< 0)) a.num.natAbs:=by
  unfold sgn;by_cases h:a.num< 0;simp[h];omega;simp[h];omega
 rw[e];rfl
theorem jG(a:Rat):FS 47 [.agg (qC a)] (.agg (qC (-a))):=by
 have hc:=aS (-a);rw[Es] at hc⊢;refine f_c Tryz.func47 ?_;refine r_z 2 ?_;refine ac (r_d hmix 12 ?_);refine c_s (dS (!decide (a.num< 0)) a.num.natAbs) ?_;refine a_4 ?_;refine ao (n_k ?_);exact an (c_e (hc))
theorem gO(a b:Rat)(h:qs a+qs b<=549755813888):FS 24 [.agg (qC a),.agg (qC b)] (.agg (qC (a- b))):=by
 have hs:=fz a (-b) (by rw[ij];exact h);rw[<-Rat.sub_eq_add_neg] at hs;refine f_c Tryz.func24 ?_;refine r_z 3 ?_;refine ac (r_d hmix 5 ?_);refine c_s (jG b) ?_;refine c_s (hs) ?_;refine a_1 ?_;refine ao (n_k ?_);exact an (c_e (aS _))
theorem Hk(a b:Rat)(hb:b≠0)(h:qs a+qs b<=549755813888):FS 163 [.agg (qC a),.agg (qC b)] (.agg (qC (a/ b))):=by
 have hp:=ww a b;have h1:=dB a;have h2:=dp a;have h3:=dB b;have h4:=dp b;have hn:b.num≠0:=λh=>hb (Rat.num_eq_zero.1 h);have hs:=fq (decide (b.num< 0)) b.den;rw[rk a b hb];refine f_c Tryz.func163 ?_;refine r_z 3 ?_;refine ac (r_d hmix 17 ?_);refine c_s (ef b ω) ?_;refine c_s (dS (decide (b.num< 0)) b.den) ?_;refine c_s (xJ a.num (sgn (decide (b.num< 0)) b.den) (by rw[hs];omega)) ?_;refine c_s (ef a ω) ?_;refine c_s (fO a.den b.num.natAbs ω) ?_;refine c_s (pP (a.num* sgn (decide (b.num< 0)) b.den) (a.den* b.num.natAbs) (Nat.mul_pos a.den_pos ω) ω) ?_;refine a_1 ?_;refine ao (n_k ?_);exact an (c_e (aS _))
theorem B9(a b:Rat)(hb:b≠0)(h:qs a+qs b<=549755813888):FS 106 [.agg (qC a),.agg (qC b)] (.tup [.agg (qC (a/ b)),i64 0]):=by
 have hn:b.num≠0:=λh=>hb (Rat.num_eq_zero.1 h);have hsg:sgZ b.num≠0:=by unfold sgZ;rw[if_neg hn];split <;> decide
 refine f_c Tryz.func106 ?_;refine r_z 4 ?_;refine ac (r_c 3 (cb b) ?_);refine a_z ?_;refine aw rfl (λh=>?_) (λh=>?_);exact absurd h (by simpa using hsg);refine am (r_c 5 (Hk a b hb (by assumption)) ?_);refine a_z ?_;refine an (Fin.many ⟨_,_,rfl,⟨_,_,_,_,_,rfl,rfl,rfl,.inl ⟨TG.h,_,TS.h,nle rfl,rfl⟩⟩,⟨_,_,rfl,rfl,rfl⟩⟩ (nle rfl) ?_);exact af (ah aE (aS _)) (af (ah aE (ag _)) ax)
theorem D2(x:Int)(n:Nat)(hn:0< n):(sgZ x= -1/\∃p:Nat,0< p/\x* n= -(p:Int)/\x.natAbs* n=p)\/(sgZ x=0/\x* n=0/\x.natAbs* n=0)\/(sgZ x=1/\∃p:Nat,0< p/\x* n=p/\x.natAbs* n=p):=by
 rcases Int.lt_trichotomy x 0 with hx|hx|hx
 refine .inl ⟨by unfold sgZ;rw[if_neg ω,if_pos hx],x.natAbs* n,Nat.mul_pos ω hn,?_,rfl⟩;rw[Int.natCast_mul,<-Int.neg_mul];congr 1;omega;subst hx;refine .inr (.inl ⟨rfl,ψ,ψ⟩);refine .inr (.inr ⟨by unfold sgZ;rw[if_neg ω,if_neg ω],x.natAbs* n,Nat.mul_pos ω hn,?_,rfl⟩);rw[Int.natCast_mul];congr 1;omega
theorem HV(a b:Rat):dr a b=if sgZ a.num≠sgZ b.num\/sgZ a.num=0 then sgZ a.num- sgZ b.num- (sgZ a.num- sgZ b.num).tdiv 2 else sgZ a.num* fk ((a.num.natAbs* b.den:Nat):Int) ((b.num.natAbs* a.den:Nat):Int):=by
 rw[cmpQ_eq];rcases D2 a.num b.den b.den_pos with⟨s1,p,hp,e1,f1⟩|⟨s1,e1,f1⟩|⟨s1,p,hp,e1,f1⟩<;> rcases D2 b.num a.den a.den_pos with⟨s2,q,hq,e2,f2⟩|⟨s2,e2,f2⟩|⟨s2,q,hq,e2,f2⟩<;> rw[s1,s2,e1,e2,f1,f2]<;> unfold fk <;> simp <;>(repeat' split)<;> first|rfl|omega
theorem ej(a b:Rat)(ha:sm a)(hb:sm b):FS 86 [.agg (qC a),.agg (qC b)] (i64 (dr a b)):=by
 have hs:=sm2 ha hb;have h1:=dB a;have h2:=dp a;have h3:=dB b;have h4:=dp b;have hc:=HV a b;have hsa:sgZ a.num= -1\/sgZ a.num=0\/sgZ a.num=1:=by unfold sgZ;split;simp;split <;> simp
 have hsb:sgZ b.num= -1\/sgZ b.num=0\/sgZ b.num=1:=by unfold sgZ;split;simp;split <;> simp
 have hbm1:=gV a.num.natAbs b.den;have hbm2:=gV b.num.natAbs a.den;refine f_c Tryz.func86 ?_;refine r_z 3 ?_;refine ac (ac (r_d hmix 6 ?_));refine c_s (cb a) ?_;refine c_s (cb b) ?_;refine a_2 ?_;refine ao (n_k ?_);obtain⟨x,hx⟩:∃x,x=sgZ a.num:=⟨_,rfl⟩;obtain⟨y,hy⟩:∃y,y=sgZ b.num:=⟨_,rfl⟩;rw[<-hx] at hsa hc⊢;rw[<-hy] at hsb hc⊢
 have hq:(x- y).tdiv 2= -1\/(x- y).tdiv 2=0\/(x- y).tdiv 2=1:=by
  rcases hsa with h|h|h <;> rcases hsb with h'|h'|h' <;> rw[h,h']<;> decide
 refine aG (λ_:Unit=>⟨[(2,.lptr 1 0 0),(3,.lptr 2 0 0)],[(1,some ⟨42,3,[qC a]⟩),(2,some ⟨42,3,[qC b]⟩)],3,42⟩) (λ_=>x=y/\x≠0) ?_ ?_;by_cases he:x=y;refine s_r 7 ?_;refine a_4 ?_;refine y_g rfl (by simp[he]) (.move rfl) ?_;refine y_g rfl (by simp[he]) (.bin rfl rfl aM) ?_;refine o_0 (.pickF rfl (by simp[he]) rfl) ?_;refine ao ?_;refine aw rfl (λh=>?_) (λh=>?_);have h0:x=0:=by simpa using h
 refine s_r 9 ?_;refine a_6 ?_;refine o_0 (.bin rfl rfl (ry δ ω)) ?_;refine a_z ?_;refine an (aR rfl ?_ (ag _));rw[hc,if_pos (.inr h0)];rfl;have h0:x≠0:=by simpa using h
 refine am ⟨(),⟨he,h0⟩,?_⟩;exact s_e [];refine s_r 7 ?_;refine a_4 ?_;refine n_g rfl (by simp[he]) ?_;refine n_g rfl (by simp[he]) ?_;refine o_0 (.pickT rfl (by simp[he]) rfl) ?_;refine ao ?_;refine aw rfl (λh=>?_) (λh=>?_);refine s_r 9 ?_;refine a_6 ?_;refine o_0 (.bin rfl rfl (ry δ ω)) ?_;refine a_z ?_;refine an (aR rfl ?_ (ag _));rw[hc,if_pos (.inl he)];rfl;cases h;rintro _ ⟨he,h0⟩
 have hcz:fk ((a.num.natAbs* b.den:Nat):Int) ((b.num.natAbs* a.den:Nat):Int)= -1\/fk ((a.num.natAbs* b.den:Nat):Int) ((b.num.natAbs* a.den:Nat):Int)=0\/fk ((a.num.natAbs* b.den:Nat):Int) ((b.num.natAbs* a.den:Nat):Int)=1:=by
  unfold fk;split;simp;split <;> simp
 have hsx:=cb a;rw[<-hx] at hsx
 have hmul: -9223372036854775808<=x* fk ((a.num.natAbs* b.den:Nat):Int) ((b.num.natAbs* a.den:Nat):Int)/\x* fk ((a.num.natAbs* b.den:Nat):Int) ((b.num.natAbs* a.den:Nat):Int)<=9223372036854775807:=by
  rcases hsa with h|h|h <;> rcases hcz with h'|h'|h' <;> rw[h,h']<;> decide
 refine ac (r_d hmix 17 ?_);refine c_s (hsx) ?_;refine c_s (ef b ω) ?_;refine c_s (fO a.num.natAbs b.den ω) ?_;refine c_s (ef a ω) ?_;refine c_s (fO b.num.natAbs a.den ω) ?_;refine c_s (oh (a.num.natAbs* b.den) (b.num.natAbs* a.den) ω) ?_;refine o_0 (.bin rfl rfl (vm hmul)) ?_;refine a_1 ?_;refine ao (n_k ?_);refine an (aR rfl ?_ (ag _));rw[hc,if_neg ω];rfl
theorem eY(a:Rat):FS 45 [.agg (qC a)] (.agg (qC (c8 a))):=by
 have hc:=aS (c8 a);rw[qC_abs] at hc⊢;refine f_c Tryz.func45 ?_;refine r_z 2 ?_;refine ac (r_d hmix 8 ?_);refine c_s (dS false a.num.natAbs) ?_;refine a_4 ?_;refine ao (n_k ?_);exact an (c_e (hc))
theorem Hu(a:Rat)(ha:sm a):FS 284 [.agg (qC a)] (.agg (qC ((a.den:Int):Rat))):=by
 have hw:=pN (a.den:Int);rw[AZ] at hw;refine f_c Tryz.func284 ?_;refine r_z 2 ?_;refine r_c 5 (ef a (by unfold sm at ha;omega)) ?_;refine c_s (hw) ?_;refine a_z ?_;exact an (c_e (aS _))
theorem E4{z q:Int}{d:Nat}(hd:0< d)(h1:q* d<=z)(h2:z< q* d+d):z/ (d:Int)=q:=by
 have hdi:(0:Int)< d:=ω
 have a1:q<=z/ (d:Int):=(Int.le_ediv_iff_mul_le hdi).2 h1;have a2:z/ (d:Int)< q+1:=(Int.ediv_lt_iff_lt_mul hdi).2 (by rw[Int.add_mul];omega);omega
theorem uC(z:Int)(d:Nat)(hd:0< d):z/ (d:Int)=sgn (decide (z< 0)) (if (decide (z< 0) && !(z.natAbs % d==0))=true then z.natAbs/ d+1 else z.natAbs/ d):=by
 have h1:=Nat.div_add_mod z.natAbs d;have h2:=Nat.mod_lt z.natAbs hd;generalize hr:z.natAbs % d=r at *
 generalize hq:z.natAbs/ d=a at *
 have h3:((d* a:Nat):Int)=(a:Int) * d:=by rw[Int.natCast_mul,Int.mul_comm]
 refine E4 hd ?_ ?_ <;> by_cases hz:z< 0 <;> by_cases h0:r=0 <;> simp[sgn,hz,h0,Int.neg_mul,Int.add_mul]<;> omega
theorem EM(z:Int)(d:Nat)(hd:0< d)(h:bl z.natAbs+bl d<=4398046511104):FS 275 [.agg (zI z),.agg [mag d]] (.agg (zI (z/ d))):=by
 rw[uC z d hd];have hbq:=eP z.natAbs d;have hb1:=yy (z.natAbs/ d) 1;have hb2:bl 1=1:=ko;obtain⟨Q,hQ⟩:∃Q,Q=(if (decide (z< 0) && !(z.natAbs % d==0))=true then z.natAbs/ d+1 else z.natAbs/ d):=⟨_,rfl⟩;rw[<-hQ];refine f_c Tryz.func275 ?_;refine r_z 3 ?_;refine r_c 11 (sP z.natAbs d h hd) ?_;refine a_z ?_;refine bi (λ_:Unit=>⟨[(2,.lptr 1 0 0),(4,.lptr 2 0 0),(5,.lptr 3 0 0)],[(1,some ⟨40,2,[zI z]⟩),(2,some ⟨40,2,[[.emp,bln false]]⟩),(3,some ⟨38,1,[[mag Q]]⟩)],4,28⟩) (λ_=>True) ?_ ?_;by_cases hz:z< 0;refine s_r 7 ?_;refine a_3 ?_
 first|refine y_g rfl (by simp[hz]) (.load_l rfl rfl rfl TG.h TS.h (nle rfl)) ?_|refine y_g rfl (by simp[hz]) (.load_a rfl rfl TG.h TS.h (nle rfl)) ?_
 refine y_g rfl (by simp[hz]) (.call rfl rfl rfl (jH (z.natAbs % d))) ?_;refine y_g rfl (by simp[hz]) (.un rfl iN) ?_;refine o_0 (.pickT rfl (by simp[hz]) rfl) ?_;refine ao ?_;refine aw rfl (λh1=>?_) (λh1=>?_);have:Q=z.natAbs/ d+1:=by rw[hQ,if_pos];simpa[hz] using h1
 rw[this];refine r_d hmix 4 ?_;refine c_s (fy 1 δ) ?_;refine c_s (xG (z.natAbs/ d) 1 ω) ?_;refine a_1 ?_;refine ao (n_k ?_);refine⟨(),trivial,?_⟩;exact s_e [(2,4),(3,5)];have:Q=z.natAbs/ d:=by rw[hQ,if_neg];simpa[hz] using h1
 rw[this];refine am ⟨(),trivial,?_⟩;exact s_e [(2,4),(3,5)];refine s_r 7 ?_;refine a_3 ?_;refine n_g rfl (by simp[hz]) ?_;refine n_g rfl (by simp[hz]) ?_;refine n_g rfl (by simp[hz]) ?_;refine o_0 (.pickF rfl (by simp[hz]) rfl) ?_;refine ao ?_;have:Q=z.natAbs/ d:=by rw[hQ,if_neg];simp[hz]
 rw[this];refine aw rfl (λh=>?_) (λh=>am ⟨(),trivial,?_⟩);cases h;exact s_e [(2,4),(3,5)];rintro _ _;refine r_c 5 (dS (decide (z< 0)) Q) ?_;refine a_z ?_;exact an (c_e (iu _))
theorem pU(q:Rat)(h:qs q<=1099511627776):FS 255 [.agg (qC q)] (.agg (qC (q.floor:Rat))):=by
 have h1:=dB q;have h2:=dp q;rw[Rat.floor_def];refine f_c Tryz.func255 ?_;refine r_z 2 ?_;refine ac (r_d hmix 7 ?_);refine c_s (ef q h) ?_;refine c_s (EM q.num q.den q.den_pos ω) ?_;refine c_s (pN (q.num/ q.den)) ?_;refine a_1 ?_;refine ao (n_k ?_);exact an (c_e (aS _))
def vf(q:Rat):Rat:= -((-q).floor:Rat)
theorem DR(q:Rat)(h:qs q<=1099511627776):FS 231 [.agg (qC q)] (.agg (qC (vf q))):=by
 refine f_c Tryz.func231 ?_;refine r_z 2 ?_;refine r_c 5 (jG q) ?_;refine c_s (pU (-q) (by rw[ij];exact h)) ?_;refine c_s (jG ((-q).floor:Rat)) ?_;refine a_z ?_;exact an (c_e (aS _))
def wi(k:Int)(m:Nat):Nat:=(max 0 (min k m)).toNat
theorem we(k:Int)(m:Nat):FS 156 [i64 k,i64 m] (i64 (wi k m)):=by
 refine f_c Tryz.func156 ?_;refine r_z 1 ?_;refine r_z 5 ?_;refine an (aR rfl ?_ ?_);simp only[i64,wi];congr 2;split <;> split <;> omega;exact ag _
def powS:Nat×Nat×Nat->AState
 |(o,x,m)=>⟨[(1,i64 m),(2,.lptr 1 0 0),(4,.lptr 2 0 0),(5,.lptr 3 0 0)],[(1,some ⟨38,1,[[mag x]]⟩),(2,some ⟨38,1,[[.emp]]⟩),(3,some ⟨38,1,[[mag o]]⟩)],4,23⟩
theorem lh(o:Nat)(x:Nat)(m:Nat):powS (o,x,m)=⟨[(1,i64 m),(2,.lptr 1 0 0),(4,.lptr 2 0 0),(5,.lptr 3 0 0)],[(1,some ⟨38,1,[[mag x]]⟩),(2,some ⟨38,1,[[.emp]]⟩),(3,some ⟨38,1,[[mag o]]⟩)],4,23⟩:=rfl
theorem Bw(x m:Nat):x^ m=(x* x) ^ (m/ 2) * (if m % 2=1 then x else 1):=by
 rw[<-Nat.pow_two,<-Nat.pow_mul];have:=Nat.div_add_mod m 2;split
 ·rename_i h;rw[<-Nat.pow_succ];congr 1;omega
 ·rename_i h;rw[Nat.mul_one];congr 1;omega
theorem qV(a n:Nat)(h:bl a* n<=2199023255552)(hn:n<=1000000):FS 155 [.agg [mag a],i64 n] (.agg [mag (a^ n)]):=by
 refine f_c Tryz.func155 ?_;refine r_z 2 ?_;refine r_c 3 (fy 1 δ) ?_;refine a_z ?_;refine bi (λ_:Unit=>⟨[(4,.lptr 2 0 0),(5,.lptr 3 0 0)],[(2,some ⟨38,1,[[.emp]]⟩),(3,some ⟨38,1,[[mag (a^ n)]]⟩)],4,23⟩) (λ_=>True) ?_ ?_;refine ak (aC powS (λx=>x.2.2) (λx=>x.1* x.2.1^ x.2.2=a^ n/\bl x.1+bl x.2.1* x.2.2<=2199023255553/\x.2.2<=1000000) (1,a,n) ⟨ψ,by have:bl 1=1:=ko;simp only;omega,hn⟩ ?_ ?_);rw[lh];exact s_e [(1,2),(2,4),(3,5)];rintro⟨o,x,m⟩ ⟨hv,hb,hm⟩;simp only at hv hb hm;rw[lh];refine ac (r_z 2 ?_);refine aw rfl (λh=>?_) (λh=>?_);have hm0:0< m:=by simpa using h
 have hx1:bl x* 1<=bl x* m:=Nat.mul_le_mul_left _ hm0;have hph:=Bw x m;refine am ?_
 have hq:(m:Int).tdiv 2=((m/ 2:Nat):Int):=by
  rw[Int.tdiv_eq_ediv_of_nonneg ω];omega
 have hdm:=Nat.div_add_mod m 2;have hml:=Nat.mod_lt m (show 0< 2 by decide);have hlt:m/ 2< m:=ω
 have hbx:=gV x x;have hbo:=gV o x;have hxm:bl x* m=bl x* (2* (m/ 2))+bl x* (m % 2):=by rw[<-Nat.mul_add];congr 1;omega
 have hx2:bl (x* x) * (m/ 2)<=bl x* (2* (m/ 2)):=by
  have:=Nat.mul_le_mul_right (m/ 2) hbx;rw[<-Nat.two_mul,Nat.mul_comm 2,Nat.mul_assoc] at this;exact this
 have hI:(m:Int) % 2=((m % 2:Nat):Int):=ω
 have hI2:(m:Int) / 2=((m/ 2:Nat):Int):=ω
 refine ac (ak (bi (λo':Nat=>powS (o',x,m)) (λo'=>o'=o* (if m % 2=1 then x else 1)) ?_ ?_));refine r_z 3 ?_;refine aw rfl (λh1=>?_) (λh1=>?_);have hodd:m % 2=1:=by simp at h1;omega
 refine r_m 4 ?_;refine c_s (fO o x ω) ?_;refine a_z ?_;refine⟨o* x,by rw[if_pos hodd],?_⟩;simp only[lh];exact s_e [];have hev:¬m % 2=1:=by simp at h1;omega
 refine am ⟨o,by rw[if_neg hev,Nat.mul_one],?_⟩;simp only[lh];exact s_e [];rintro o' ho';rw[lh]
 have hbo':bl o'<=bl o+bl x* (m % 2):=by
  rw[ho'];split
  ·rename_i h1;rw[h1];omega
  rw[Nat.mul_one];omega
 have hv':o'* (x* x) ^ (m/ 2)=a^ n:=by
  rw[<-hv,hph,ho',Nat.mul_assoc,Nat.mul_comm (if m % 2=1 then x else 1)]
 refine r_z 2 ?_;refine aw rfl (λh2=>?_) (λh2=>?_);refine r_m 4 ?_;refine c_s (fO x x ω) ?_;refine a_z ?_;refine r_m 3 ?_;refine a_z ?_;refine⟨(o',x* x,m/ 2),hlt,⟨hv',by simp only;omega,by simp only;omega⟩,?_⟩;rw[lh];have:=(congrArg (λz=>AV.v (.int .i64 z)) hI2);exact s_f [];have hm1:m/ 2=0:=by simp at h2;omega
 refine am (r_m 3 ?_);refine a_z ?_;rw[hm1] at hv' hI2;refine⟨(o',x,0),hm0,⟨by simpa using hv',by simp only;omega,by simp only;omega⟩,?_⟩;rw[lh];have:=(congrArg (λz=>AV.v (.int .i64 z)) hI2);exact s_f [];have hm0:m=0:=by simp at h;omega
 subst hm0;refine aB ⟨(),trivial,?_⟩;have hv':o=a^ n:=by simpa using hv
 rw[hv'];exact s_e [];rintro _ _;refine r_z 2 ?_;exact an (c_e (closed_mA _))
theorem Hd(k:Int):FS 93 [i64 k] (.agg [mag (2^ wi k 256)]):=by
 have hw:wi k 256<=256:=by unfold wi;omega
 have h2:bl 2=2:=δ
 refine f_c Tryz.func93 ?_;refine r_z 1 ?_;refine r_c 5 (fy 2 δ) ?_;refine c_s (we k 256) ?_;refine c_s (qV 2 (wi k 256) (by rw[h2];omega) ω) ?_;refine a_z ?_;exact an (c_e (closed_mA _))
theorem CH(k:Nat):bl (2^ k)<=k+1:=jc (by rw[Nat.pow_succ];have:=Nat.pow_pos (n:=k) (show 0< 2 by decide);omega)
theorem jk(k:Int):FS 32 [i64 k] (.agg (qC (cw (wi k 256)))):=by
 have hw:wi k 256<=256:=by unfold wi;omega
 have hb:=CH (wi k 256);have h1:bl (1:Int).natAbs=1:=ko;refine f_c Tryz.func32 ?_;refine r_z 1 ?_;refine r_c 5 (zS 1 δ) ?_;refine c_s (Hd k) ?_;refine c_s (pP 1 (2^ wi k 256) (Nat.pow_pos δ) ω) ?_;refine a_z ?_;exact an (c_e (aS _))
def n4(k:Nat):Rat:=((2^ k:Nat):Int)
theorem xe(k:Nat):qs (n4 k)<=k+1:=by
 have h1:(n4 k).num=((2^ k:Nat):Int):=rfl;have h2:(n4 k).den=1:=rfl;unfold qs;rw[h1,h2,Int.natAbs_natCast,ko];have:=CH k;omega
theorem zb(k:Nat):qs (cw k)<=k+1:=by
 have h1:bl (1:Int).natAbs=1:=ko;exact gG (Nat.pow_pos δ) ω (CH k)
theorem wj(a:Rat)(k:Int)(h:qs a<=549755813000):FS 230 [.agg (qC a),i64 k] (.agg (qC (a* n4 (wi k 256)))):=by
 have hw:wi k 256<=256:=by unfold wi;omega
 have h2:=xe (wi k 256);have hwh:=pN ((2^ wi k 256:Nat):Int);rw[AZ] at hwh;refine f_c Tryz.func230 ?_;refine r_z 2 ?_;refine ac (r_d hmix 7 ?_);refine c_s (Hd k) ?_;refine c_s (hwh) ?_;refine c_s (dq a (n4 (wi k 256)) ω) ?_;refine a_1 ?_;refine ao (n_k ?_);exact an (c_e (aS _))
def gQ(a:Rat)(k:Nat):Rat:=((a* n4 k).floor:Rat) * cw k
def upQ(a:Rat)(k:Nat):Rat:=vf (a* n4 k) * cw k
theorem za(a:Rat):qs (a.floor:Rat)<=qs a+1:=by
 rw[Rat.floor_def];have h1:=dB a;have e1:((a.num/ (a.den:Int):Int):Rat).num=a.num/ a.den:=rfl;have e2:((a.num/ (a.den:Int):Int):Rat).den=1:=rfl;have h3:1<=bl a.den:=H1 a.den_pos;have h4:=dp a;unfold qs at *
 rw[e1,e2,ko,uC _ _ a.den_pos,fq];have h5:=eP a.num.natAbs a.den;have h6:=yy (a.num.natAbs/ a.den) 1;have h7:bl 1=1:=ko;split <;> omega
theorem Gl(a:Rat):qs (vf a)<=qs a+1:=by
 unfold vf;rw[ij];have:=za (-a);rwa[ij] at this
theorem DS(a:Rat)(k:Int)(h:sm a):FS 234 [.agg (qC a),i64 k] (.agg (qC (gQ a (wi k 256)))):=by
 unfold sm at h;have hw:wi k 256<=256:=by unfold wi;omega
 have h2:=xe (wi k 256);have h3:=eV a (n4 (wi k 256));have h4:=za (a* n4 (wi k 256));have h5:=zb (wi k 256);refine f_c Tryz.func234 ?_;refine r_z 2 ?_;refine r_c 8 (wj a k ω) ?_;refine c_s (pU (a* n4 (wi k 256)) ω) ?_;refine c_s (jk k) ?_;refine c_s (dq ((a* n4 (wi k 256)).floor:Rat) (cw (wi k 256)) ω) ?_;refine a_z ?_;exact an (c_e (aS _))
theorem fs_Up(a:Rat)(k:Int)(h:sm a):FS 195 [.agg (qC a),i64 k] (.agg (qC (upQ a (wi k 256)))):=by
 unfold sm at h;have hw:wi k 256<=256:=by unfold wi;omega
 have h2:=xe (wi k 256);have h3:=eV a (n4 (wi k 256));have h4:=Gl (a* n4 (wi k 256));have h5:=zb (wi k 256);refine f_c Tryz.func195 ?_;refine r_z 2 ?_;refine r_c 8 (wj a k ω) ?_;refine c_s (DR (a* n4 (wi k 256)) ω) ?_;refine c_s (jk k) ?_;refine c_s (dq (vf (a* n4 (wi k 256))) (cw (wi k 256)) ω) ?_;refine a_z ?_;exact an (c_e (aS _))
def jm(n:Nat):List UInt8:=if n< 10 then [48+n.toUInt8] else [48+(n/ 10).toUInt8,48+(n % 10).toUInt8]
theorem uP(s:ByteArray)(l h:Nat)(zl zh:Int)(el:zl=(l:Int))(eh:zh=(h:Int))(hlh:l<=h)(hh:h<=s.size):∀w,(Instr.sliceAt 9 (.string s) (some (.int .i64 zl)) (some (.int .i64 zh)) none).run Tryz.prog w= .ok (.string (s.extract l h)) w:=λw=>by
 subst el eh;have b1:∀(i y:Nat) (c:BoundsCode),i<=y->(Instr.sliceBound (.int .i64 (i:Int)) y c).run Tryz.prog w= .ok i w:=λi y c hi=>eu hi c w
 have hr:(Instr.slice 9 (.string s) (some (.int .i64 (l:Int))) (some (.int .i64 (h:Int))) none).run Tryz.prog w= .ok (.string (s.extract l h)) w:=by
  simp[Instr.slice,run_underlying ig,Instr.sliceBounds,b1 h s.size _ hh,b1 l h _ hlh,Result.andThen]
 unfold Instr.sliceAt;rw[Sem.run_bind,run_underlying ig];exact hr
def smallsB:ByteArray:=⟨((List.range 100).flatMap λn=>[48+(n/ 10).toUInt8,48+(n % 10).toUInt8]).toArray⟩
theorem EF(i:Nat)(h:i< 100):FS 238 [i64 i] (tx (jm i)):=by
 refine f_c Tryz.func238 ?_;refine r_z 1 ?_;refine ac (r_z 2 ?_);refine aw rfl (λh1=>?_) (λh1=>?_);have h2:i< 10:=by simp at h1;omega
 refine s_r 5 ?_;refine a_3 ?_;refine o_0 (.slice_v rfl rfl rfl rfl (uP _ i (i+1) _ _ rfl ω ω (by exact Nat.le_trans (m:=10) ω δ))) ?_;refine a_z ?_;refine an (aR rfl ?_ ?_);have key:∀i,i< 10->(ByteArray.mk #[48,49,50,51,52,53,54,55,56,57,97,98,99,100,101,102,103,104,105,106,107,108,109,110,111,112,113,114,115,116,117,118,119,120,121,122]).extract i (i+1)=⟨(jm i).toArray⟩:=δ
 exact congrArg (λs=>AV.v (.string s)) (key i h2);exact ag _;have h2:10<=i:=by simp at h1;omega
 refine am (s_r 7 ?_);refine a_5 ?_;refine o_0 (.slice_v rfl rfl rfl rfl (uP _ (i* 2) (i* 2+2) _ _ ω ω ω (by exact Nat.le_trans (m:=200) ω δ))) ?_;refine a_z ?_;refine an (aR rfl ?_ ?_);have key:∀i,i< 100->10<=i->smallsB.extract (i* 2) (i* 2+2)=⟨(jm i).toArray⟩:=δ
 refine congrArg (λs=>AV.v (.string s)) (Eq.trans (congrArg (λs:ByteArray=>s.extract _ _) (?_:_=smallsB)) (key i h h2))
 kernel_rfl
 exact ag _
theorem xU(i:Nat)(h:i< 100):FS 210 [i64 i,i64 10] (tx (jm i)):=by
 refine f_c Tryz.func210 ?_;refine r_z 1 ?_;refine ac (r_z 2 ?_);refine aw rfl (λh1=>?_) (λh1=>?_);refine ac (s_r 6 ?_);refine a_3 ?_;refine y_g rfl ψ (.move rfl) ?_;refine y_g rfl ψ (.bin rfl rfl aZ) ?_;refine o_0 (.pickT rfl ψ rfl) ?_;refine ao ?_;refine aw rfl (λh2=>?_) (λh2=>?_);refine r_c 3 (EF i h) ?_;refine a_z ?_;exact an (t_e (ag _));exact absurd h2 χ;exact absurd h1 ψ
theorem Ho(i:Nat)(h:i< 100):FS 158 [i64 i] (tx (jm i)):=by
 refine f_c Tryz.func158 ?_;refine r_z 1 ?_;refine r_c 3 (xU i h) ?_;refine a_z ?_;exact an (t_e (ag _))
theorem xQ(i:Nat)(h:i< 100):FS 96 [i64 i] (tx (jm i)):=by
 refine f_c Tryz.func96 ?_;refine r_z 1 ?_;refine r_c 3 (Ho i h) ?_;refine a_z ?_;exact an (t_e (ag _))
def te0(m:Nat):Unit->AState
 |u=>⟨[(1,.lptr 1 0 0),(3,.lptr 2 0 0),(11,.clos 211 [] [.aptr [[.arr (dE [m])]] 0 0])],[(1,some ⟨38,1,[[.arr (dE [m])]]⟩),(2,some ⟨148,2,[dX 2 0 none]⟩)],4,31⟩
def te1(m:Nat):Unit->AState
 |u=>⟨[(1,.lptr 1 0 0),(3,.lptr 2 0 0),(11,.clos 211 [] [.aptr [[.arr (dE [m])]] 0 0])],[(1,some ⟨38,1,[[.arr (dE [m])]]⟩),(2,some ⟨148,2,[dX 2 3 (some (jm m))]⟩),(3,some ⟨5,1,bE (jm m)⟩)],4,31⟩
def teS(m:Nat):Nat->AState
 |0=>te0 m ()
 |_+1=>te1 m ()
theorem E5{m:Nat}(h0:m≠0)(h:m< 100):az MB m=[m]:=by
 have hb:MB=1000000000:=rfl;rw[ez δ ω,Nat.mod_eq_of_lt ω,Nat.div_eq_of_lt ω,cz]
theorem yf(m:Nat):jm m≠[]:=by unfold jm;split <;> simp
theorem kO(m:Nat):(jm m).length<=2:=by unfold jm;split <;> simp
theorem zT(m:Nat)(h:m< 100):FS 98 [.agg [mag m]] (tx (jm m)):=by
 have hz:=jH m;refine f_c Tryz.func98 ?_;refine r_z 2 ?_;refine ac (r_c 2 (hz) ?_);refine ao ?_;refine aw rfl (λh1=>?_) (λh1=>?_);have h2:m=0:=by simpa using h1
 subst h2;refine r_z 1 ?_;exact an (t_e (ag _));have h2:m≠0:=by simpa using h1
 have hm:mag m= .arr (dE [m]):=by unfold mag;rw[E5 h2 h]
 rw[hm];refine am ?_;have hln:([m]:Ln).length=1:=rfl;have hcl:Closed (.aptr [[.arr (dE [m])]] 0 0):=iJ (λe he c hc=>by simp at he;subst he;simp at hc;subst hc;exact c6 _);have hcl2:Closed (.clos 211 [] [.aptr [[.arr (dE [m])]] 0 0]):=aY ai (ae hcl ai);refine r_z 1 ?_;refine ac (r_c 3 (kg [m]) ?_);refine ao ?_;refine aG (λ_:Unit=>te1 m ()) (λ_=>True) ?_ ?_;refine ak (AWp.rangeFunc (α:=Nat) (γ:=Empty) 1 (teS m) (λk=>k) (λk=>k<=1) (λe=>nomatch e) (λ_ e=>nomatch e) 0 rfl (ka [m] ψ) rfl rfl ?_ (λk=>by cases k <;> exact⟨rfl,rfl⟩) (λe=>nomatch e) (Nat.zero_le _) rfl (λ_ h=>h) ?_ ?_ ?_ ?_ (λ_ e=>nomatch e));intro k xs hT;unfold kT at hT;split at hT;cases hT;rfl;cases hT;show SEntT _ (te0 m ());rw[te0.eq_1];exact s_t [(1,1),(2,3)];exact ae hcl ai
 ·intro l k xs hk hT
  unfold kT at hT;split at hT;rotate_left;cases hT;rename_i hlt;have hk0:k=0:=by simpa using hlt
  subst hk0;cases hT;show AWp _ _ _ _ ⟨ic (te0 m ()).fr _ _++dP (te0 m ()).fr,_,_,_⟩;show AWp _ _ _ _ ⟨[(13,u32 m),(12,i64 0),(1,.lptr 1 0 0),(3,.lptr 2 0 0),(11,.clos 211 [] [.aptr [[.arr (dE [m])]] 0 0]),(1001,.lptr 1 0 0),(1003,.lptr 2 0 0),(1011,.clos 211 [] [.aptr [[.arr (dE [m])]] 0 0])],[(1,some ⟨38,1,[[.arr (dE [m])]]⟩),(2,some ⟨148,2,[dX 2 0 none]⟩)],4,31⟩;refine r_z 1 ?_;refine r_m 1 ?_;refine a_z ?_;refine ak (r_c 4 (xQ m h) ?_);refine a_z ?_;refine ac (r_z 6 ?_);refine aw rfl (λh3=>?_) (λh3=>?_);exact absurd h3 ψ;refine am (r_m 2 ?_);refine a_1 ?_;refine o_2 (.callB (s:=none) (j:=0) rfl rfl rfl rfl rfl rfl (λ_ h=>by cases h) (jt (jm m) (yf m) (by have:=kO m;omega))) ?_;refine ao ?_;refine⟨0+1,⟨ω,rfl⟩,?_⟩;show SEntT _ ⟨[(1001,.lptr 1 0 0),(1003,.lptr 2 0 0),(1011,.clos 211 [] [.aptr [[.arr (dE [m])]] 0 0])],[(1,some ⟨38,1,[[.arr (dE [m])]]⟩),(2,some ⟨148,2,[dX 2 3 (some (jm m))]⟩),(3,some ⟨5,1,bE (jm m)⟩)],4,31⟩;refine SEntT.to2 [(3,100017)] rfl rfl rfl yz (λhs=>?_) (λhs=>?_)
  ·repeat' (first|exact aF|refine aj rfl ?_ ?_)
   all_goals (first|(exact ah hs hcl2)|exact aX)
  ·repeat' (first|exact aD|refine bw rfl rfl rfl rfl ?_ ?_)
   all_goals (first|exact bG|(refine ay ?_;repeat' (first|exact ax|refine af ?_ ?_)))
   all_goals (first|(exact ah hs hcl2)|exact aX)
 ·intro k hk hT
  unfold kT at hT;split at hT;cases hT
  have hk1:k=1:=by
   rename_i hn;simp at hn;omega
  subst hk1;exact⟨(),trivial,SEnt.refl _⟩
 rintro _ _;rw[te1.eq_1];have hne:=yf m;refine s_r 2 ?_;refine o_2 (.callD rfl rfl rfl rfl rfl rfl δ (by first|assumption|simp) (rf)) ?_;refine a_z ?_;exact an (t_e (ag _))
theorem Ah(a:Rat)(k:Int)(h:sm a):FS 199 [.agg (qC a),i64 k] (.agg (spC (gQ a (wi k 256)) (upQ a (wi k 256)))):=by
 refine f_c Tryz.func199 ?_;refine r_z 2 ?_;refine ac (r_d hmix 8 ?_);refine c_s (DS a k h) ?_;refine c_s (fs_Up a k h) ?_;refine a_2 ?_;refine ao (n_k ?_);exact an (c_e (bK _ _))
theorem Aj(a:Rat):FS 258 [.agg (qC a)] (.agg (spC a a)):=by
 refine f_c Tryz.func258 ?_;refine r_z 2 ?_;refine r_z 4 ?_;exact an (c_e (bK _ _))
theorem ir(a b:Rat)(ha:sm a)(hb:sm b):FS 38 [.agg (spC a b)] (bln (decide (dr a b<=0))):=by
 refine f_c Tryz.func38 ?_;refine r_z 2 ?_;refine r_c 7 (ej a b ha hb) ?_;refine a_z ?_;exact an (t_e (ag _))
theorem fs_SAdd(a b c d:Rat)(ha:sm a)(hb:sm b)(hc:sm c)(hd:sm d):FS 279 [.agg (spC a b),.agg (spC c d)] (.agg (spC (a+c) (b+d))):=by
 refine f_c Tryz.func279 ?_;refine r_z 3 ?_;refine ac (r_d hmix 12 ?_);refine c_s (fz a c (sm2 ha hc)) ?_;refine c_s (fz b d (sm2 hb hd)) ?_;refine a_2 ?_;refine ao (n_k ?_);exact an (c_e (bK _ _))
theorem uy(a b:Rat)(ha:sm a)(hb:sm b):FS 41 [.agg (spC a b)] (.agg (qC ((a+b) * cw 1))):=by
 have h1:qs (a+b)<=274877906945:=by have:=qD a b;unfold sm at ha hb;omega
 have h2:qs (cw 1)<=2:=δ
 refine f_c Tryz.func41 ?_;refine r_z 2 ?_;refine r_c 8 (fz a b (sm2 ha hb)) ?_;refine c_s (jk 1) ?_;refine c_s (dq (a+b) (cw 1) ω) ?_;refine a_z ?_;exact an (c_e (aS _))
theorem nA(a b:Rat)(ha:sm a)(hb:sm b):FS 39 [.agg (spC a b)] (.agg (qC (b- a))):=by
 refine f_c Tryz.func39 ?_;refine r_z 2 ?_;refine r_c 6 (gO b a (sm2 hb ha)) ?_;refine a_z ?_;exact an (c_e (aS _))
theorem fs_Min1(c:Int):FS 237 [i64 c] (bln (decide (c< 0))):=by
 refine f_c Tryz.func237 ?_;refine r_z 1 ?_;refine r_z 3 ?_;exact an (t_e (ag _))
theorem fs_Max1(c:Int):FS 206 [i64 c] (bln (decide (0< c))):=by
 refine f_c Tryz.func206 ?_;refine r_z 1 ?_;refine r_z 3 ?_;exact an (t_e (ag _))
def yn(g:Nat)(l:Lq):Nat×La->AState
 |(i,o)=>⟨[(0,.clos g [] []),(4,.lptr 1 0 0),(5,.lptr 2 0 0),(8,.arr (pE l)),(9,i64 l.length),(10,i64 i)],[(1,some ⟨42,3,[zC]⟩),(2,some ⟨42,3,[o]⟩)],3,27⟩
theorem wo(g:Nat)(bf:Int->Bool)(hg:∀c,FS g [i64 c] (bln (bf c)))(l:Lq)(hl:smL l)(hln:l.length<=1099511627776):FS 205 [.clos g [] [],.arr (pE l)] (.agg (qC (eo bf l))):=by
 refine f_n Tryz.func205 ?_ ?_;exact ae (aY ai ai) (ae (aq l) ai);refine r_z 1 ?_;refine r_z 1 ?_;refine ac (r_z 3 ?_);refine aG (λ_:Unit=>⟨[(4,.lptr 1 0 0),(5,.lptr 2 0 0)],[(1,some ⟨42,3,[zC]⟩),(2,some ⟨42,3,[qC (eo bf l)]⟩)],3,27⟩) (λ_=>True) ?_ ?_;refine ak (aC (λx:Nat×La=>yn g l x) (λx=>l.length- x.1) (λx=>x.1<=l.length/\((x.1=0->x.2=zC)/\(x.1≠0->x.2=qC (eo bf (l.take x.1))))) (0,zC) ⟨Nat.zero_le _,λ_=>rfl,λh=>absurd rfl h⟩ ?_ ?_);simp only[yn.eq_1];exact s_e [(1,4),(2,5)];rintro⟨i,o⟩ ⟨hi,ho0,ho⟩;simp only at hi ho0 ho;simp only[yn.eq_1];refine r_z 1 ?_;refine ac (aw rfl (λh=>?_) (λh=>?_));refine am ?_;have hlt:i< l.length:=by simpa using h
 obtain⟨q,hq⟩:∃q,l[i]?=some q:=⟨_,List.getElem?_eq_getElem hlt⟩;have hq':(pE l)[((i:Nat):Int).toNat]?=some (qC q):=cj hq;have hsq:sm q:=hl q (List.mem_of_getElem? hq);have hst:sm (eo bf (l.take i)):=iw λq hq=>hl q (List.mem_of_mem_take hq);have hsn:=yo bf (l.take i) q;rw[<-dO hq] at hsn;refine ac (ak (s_r 6 ?_));refine a_1 ?_;refine i_x hq' ?_;refine l_x hq' ?_;refine a_z ?_;refine AWp.cutB (λ_:Unit=>yn g l (i,qC (eo bf (l.take (i+1))))) (λ_=>True) ?_ ?_;by_cases h0:i=0;subst h0;have:=ho0 rfl;subst this;rw[if_pos (.inl ψ)] at hsn;refine s_r 9 ?_;refine a_3 ?_;refine n_g rfl d_t ?_;refine n_g rfl d_t ?_;refine n_g rfl d_t ?_;refine n_g rfl d_t ?_;refine n_g rfl d_t ?_;refine o_0 (.pickT rfl d_t rfl) ?_;refine ao ?_;refine aw rfl (λh=>?_) (λh=>?_);refine r_m 2 ?_;refine a_z ?_;refine⟨(),trivial,?_⟩;simp only[yn.eq_1];rw[hsn];exact s_e [];cases h;have ho':o=qC (eo bf (l.take i)):=ho h0;subst ho'
 have hne:l.take i≠[]:=λh=>by
  have:=congrArg List.length h;rw[List.length_take,List.length_nil] at this;omega
 refine s_r 9 ?_;refine a_3 ?_;refine y_g rfl χ (.move rfl) ?_
 first|refine y_g rfl χ (.load_l rfl rfl rfl TG.h TS.h (nle rfl)) ?_|refine y_g rfl χ (.load_a rfl rfl TG.h TS.h (nle rfl)) ?_
 first|refine y_g rfl χ (.load_l rfl rfl rfl TG.h TS.h (nle rfl)) ?_|refine y_g rfl χ (.load_a rfl rfl TG.h TS.h (nle rfl)) ?_
 refine y_g rfl χ (.call rfl rfl rfl (ej q (eo bf (l.take i)) hsq hst)) ?_;refine y_g rfl χ (.call rfl rfl rfl (hg (dr q (eo bf (l.take i))))) ?_;refine o_0 (.pickF rfl χ rfl) ?_;refine ao ?_;refine aw rfl (λh1=>?_) (λh1=>?_);refine r_m 2 ?_;refine a_z ?_;refine⟨(),trivial,?_⟩;simp only[yn.eq_1];rw[hsn,if_pos (.inr h1)];exact s_e [];refine am ⟨(),trivial,?_⟩;simp only[yn.eq_1];rw[hsn,if_neg (λhh=>hh.elim hne λh2=>by rw[h1] at h2;cases h2)];exact s_e [];rintro _ _;rw[yn.eq_1];refine r_m 2 ?_;refine a_z ?_;refine⟨(i+1,qC (eo bf (l.take (i+1)))),by simp only;omega,⟨by simp only;omega,λh=>absurd h ψ,λ_=>rfl⟩,?_⟩;simp only[yn.eq_1];exact s_e [];have hge:i=l.length:=by simp at h;omega
 refine aB ⟨(),trivial,?_⟩;subst hge;by_cases h0:l.length=0;have:=ho0 h0;subst this
 have:eo bf l=0:=by
  rw[List.length_eq_zero_iff] at h0;rw[h0];rfl
 rw[this,qC0];exact s_e [];have:=ho h0;subst this;rw[List.take_length];exact s_e [];rintro _ _;refine r_z 2 ?_;exact an (c_e (aS _))
theorem fs_Min(l:Lq)(hl:smL l)(hln:l.length<=1099511627776):FS 203 [.arr (pE l)] (.agg (qC (GP l))):=by
 refine f_c Tryz.func203 ?_;refine r_z 1 ?_;refine r_c 3 (wo 237 _ fs_Min1 l hl hln) ?_;refine a_z ?_;exact an (c_e (aS _))
theorem uA(l:Lq)(hl:smL l)(hln:l.length<=1099511627776):FS 153 [.arr (pE l)] (.agg (qC (oc l))):=by
 refine f_c Tryz.func153 ?_;refine r_z 1 ?_;refine r_c 3 (wo 206 _ fs_Max1 l hl hln) ?_;refine a_z ?_;exact an (c_e (aS _))
theorem mY{a b:Rat}(ha:sm a)(hb:sm b):smL [a,b]:=by
 intro q hq;simp at hq;rcases hq with rfl|rfl
 exact ha;exact hb
theorem BW(l:Lq)(hl:smL l)(hln:l.length<=1099511627776):FS 286 [.arr (pE l)] (.agg (spC (GP l) (oc l))):=by
 refine f_c Tryz.func286 ?_;refine r_z 1 ?_;refine r_c 6 (fs_Min l hl hln) ?_;refine c_s (uA l hl hln) ?_;refine a_z ?_;exact an (c_e (bK _ _))
section
variable {P:Go.Program}{T:Nat}{x y:Operand}
theorem eQ{l m:List UInt8}(h:l.length+m.length<=9223372036854775807):∀w,(do eqGuard .add T x y (.string ⟨l.toArray⟩) (.string ⟨m.toArray⟩);binOp .add T (.string ⟨l.toArray⟩) (.string ⟨m.toArray⟩):Sem Value).run P w= .ok (.string ⟨(l++m).toArray⟩) w:=λw=>by
 have hm:IntKind.i64.max=9223372036854775807:=δ
 have e:(⟨l.toArray⟩:ByteArray)++⟨m.toArray⟩=⟨(l++m).toArray⟩:=by
  apply ByteArray.ext;simp
 have hn:¬((((⟨l.toArray⟩:ByteArray).size+(⟨m.toArray⟩:ByteArray).size:Nat):Int)> IntKind.i64.max):=by
  rw[na,na,hm];omega
 simp only[eqGuard,binOp,Op.stringOp,hn,if_false,e,Sem.run_bind,Sem.run_pure,Result.andThen_ok];rfl
theorem gX{l m:List UInt8}:∀w,(do eqGuard .eql T x y (.string ⟨l.toArray⟩) (.string ⟨m.toArray⟩);binOp .eql T (.string ⟨l.toArray⟩) (.string ⟨m.toArray⟩):Sem Value).run P w= .ok (.bool (decide (l=m))) w:=λw=>by
 rw[AJ];congr 2
 have e:∀l:List UInt8,(⟨l.toArray⟩:ByteArray).toList=l:=by
  intro l;have:=ByteArray.toList_eq (bs:=⟨l.toArray⟩);simpa using this
 rw[e,e];rw[Bool.eq_iff_iff];simp
end
def kq(q:Rat):List UInt8:=((if q.num< 0 then [45] else [])++jm q.num.natAbs)++(if q.den=1 then [] else 47::jm q.den)
def okT(q:Rat):Prop:=q.num.natAbs< 100/\q.den< 100
instance (q:Rat):Decidable (okT q):=inferInstanceAs (Decidable (_/\_))
theorem okT_qs{q:Rat}(h:okT q):qs q<=1099511627776:=by
 obtain⟨h1,h2⟩:=h;have e1:=jc (n:=q.num.natAbs) (k:=7) ω;have e2:=jc (n:=q.den) (k:=7) ω;unfold qs;omega
theorem textQ_len{q:Rat}:(kq q).length<=6/\1<=(kq q).length:=by
 have h1:=kO q.num.natAbs;have h2:=kO q.den;have h3:=List.length_pos_iff.2 (yf q.num.natAbs);unfold kq;split <;> split <;> simp <;> omega
def qtS(q:Rat):List UInt8->AState
 |l=>⟨[(1,.aptr [qC q] 0 0),(3,tx l)],[],2,24⟩
theorem pX(q:Rat)(h:okT q):FS 34 [.agg (qC q)] (tx (kq q)):=by
 have hd1:=kO q.num.natAbs;have hd2:=kO q.den;have hden:1<=q.den:=q.den_pos;refine f_c Tryz.func34 ?_;refine r_z 2 ?_;refine AWp.ent (st':=⟨[(1,.aptr [qC q] 0 0)],[],2,24⟩) ?_ ?_;exact s_e [];refine r_c 5 (zT q.num.natAbs h.1) ?_;refine a_z ?_;refine bi (qtS q) (λl=>l=(if q.num< 0 then [45] else [])++jm q.num.natAbs) ?_ ?_;refine r_z 3 ?_;refine aw rfl (λh1=>?_) (λh1=>?_);have h2:q.num< 0:=by simpa using h1
 refine r_m 3 ?_;refine a_1 ?_;refine o_0 (.bin rfl rfl (eQ (l:=[45]) χ)) ?_;refine a_z ?_;refine⟨_,by rw[if_pos h2],?_⟩;rw[qtS.eq_1];exact s_x [] (λhs=>e_4) (λhs=>e_5);have h2:¬q.num< 0:=by simpa using h1
 refine am ⟨jm q.num.natAbs,by rw[if_neg h2];rfl,?_⟩;rw[qtS.eq_1];exact s_x [] (λhs=>e_4) (λhs=>e_5);rintro l hl;have hll:l.length<=3:=by rw[hl];split <;> simp <;> omega
 rw[qtS.eq_1];refine bi (qtS q) (λl=>l=kq q) ?_ ?_;refine r_c 4 (jH (q.den- 1)) ?_;refine a_z ?_;refine aw rfl (λh1=>?_) (λh1=>?_)
 have h2:¬q.den=1:=by
  intro e;rw[e] at h1;simp at h1
 refine r_m 7 ?_;refine c_s (ef q (okT_qs h)) ?_;refine c_s (zT q.den h.2) ?_;refine o_0 (.bin rfl rfl (eQ (l:=[47]) χ)) ?_;refine o_0 (.bin rfl rfl (eQ χ)) ?_;refine a_z ?_;refine⟨_,by unfold kq;rw[if_neg h2,<-hl],?_⟩;rw[qtS.eq_1];exact s_x [] (λhs=>e_4) (λhs=>e_5)
 have h2:q.den=1:=by
  have h3:q.den- 1=0:=by simpa using h1
  omega
 refine am ⟨l,by unfold kq;rw[if_pos h2,<-hl,List.append_nil],?_⟩;rw[qtS.eq_1];exact s_x [] (λhs=>e_4) (λhs=>e_5);rintro l rfl;rw[qtS.eq_1];refine r_z 2 ?_;exact an (t_e (ag _))
end Go.Proofs.YtjgokhkahkmpbaaGreatDoor
