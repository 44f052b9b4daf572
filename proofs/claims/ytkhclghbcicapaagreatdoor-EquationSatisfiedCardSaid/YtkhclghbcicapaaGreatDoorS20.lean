/- Part S20 of the proof. -/
import Derived.Test.YtkhclghbcicapaaGreatDoorS19
import Derived.Shelf.RegionOpenPlain
import Derived.Lib.Strings
import Derived.Lib.Slices
import Derived.Lib.Walk
import Derived.Shelf.Strconv.Itoa3
import Derived.Shelf.Strings.Repeat
set_option linter.all false
namespace Go.Proofs.YtkhclghbcicapaaGreatDoor
open Go.Abs Go.RowKit
set_option maxRecDepth 20000
theorem ub_byte:Tryz.prog.underlying 207=some (.pointer 5):=by kernel_rfl
theorem E5:Tryz.prog.cellsOf 5=1:=by kernel_rfl
theorem Cb(w:World)(g n:Nat):But g w (w.drew.freeze ⟨g,0,none⟩ n):=by
 have b:∀x,x≠g→(w.drew.freeze ⟨g,0,none⟩ n).heap[x]?=w.heap[x]?:=by
  intro x a;unfold World.freeze;split;rfl;show(w.heap.modify g _)[x]?=_;rw[Array.getElem?_modify,if_neg (Ne.symm a)]
 have c:(w.drew.freeze ⟨g,0,none⟩ n).heap.size=w.heap.size:=by
  unfold World.freeze;split;rfl;show(w.heap.modify g _).size=_;simp
 refine⟨?_,?_,?_,by omega,fun x _ a=>b x a,fun x N a=>?_⟩;unfold World.freeze;split <;> rfl;unfold World.freeze;split <;> rfl;unfold World.freeze;split <;> rfl;by_cases hxg:x=g;subst hxg;unfold World.freeze;split;exact a;unfold aN at a⊢;show(match (w.heap.modify x _)[x]? with|some (.cells cs _ _)=>some cs.size|some (.map _ _)=>some 0|_=>none)=some N;rw[Array.getElem?_modify,if_pos rfl];cases ho:w.heap[x]? with
 |none=>rw[ho] at a;cases a
 |some o=>
  rw[ho] at a;cases o <;> simp_all
 unfold aN at a⊢;rw[b x hxg];exact a
set_option maxHeartbeats 2000000 in
theorem ds_run (b bj cap:Nat) (q:List UInt8) (w:World) (cs ck:Array Value) (h0:q≠[]) (hb:w.heap[b]?=some (.cells cs 162 (0,0))) (hc1:cs[1]?=some (.slice (some ⟨bj,0,none⟩) q.length cap)) (hl:q.length≤cap) (hm:cap≤maxLen) (hne:b≠bj) (hj:w.heap[bj]?=some (.cells ck 5 (0,0))) (hck:cap≤ck.size)
    (hq:∀(k:Nat) (x:UInt8),q[k]?=some x→ck[k]?=some (Value.int .u8 x.toNat)):Calls Tryz.prog 98 #[.pointer (some ⟨b,0,none⟩)] w fun e w'=>e= .returned (.string ⟨q.toArray⟩)∧But bj w w':=by
 have g:q.length≠0:=by simpa using h0
 have c1:w.drew.cell? ⟨b,1,none⟩=some (.slice (some ⟨bj,0,none⟩) q.length cap):=by
  have:w.drew.heap[b]?=some (.cells cs 162 (0,0)):=hb;simp[World.cell?,this,hc1]
 have d:(Builtin.unsafeSliceData_ #[160] 207 #[.slice (some ⟨bj,0,none⟩) q.length cap]).run Tryz.prog w.drew= .ok (.pointer (some ⟨bj,0,none⟩)) w.drew:=
  Lib.run_unsafeSliceData_row _ _ _ _ _ _ (by omega)
 have f:(Builtin.unsafeString_ #[207,3] 9 #[.pointer (some ⟨bj,0,none⟩),.int .i64 q.length]).run Tryz.prog w.drew= .ok (.string ⟨q.toArray⟩) (w.drew.freeze ⟨bj,0,none⟩ q.length):=by
  refine Lib.run_unsafeString_row w.drew 207 3 9 5 ub_byte E5 bj ck.size (by have a:w.drew.heap[bj]?=some (.cells ck 5 (0,0)):=hj;simp[World.shape?,a]) q h0 (by omega) (by unfold maxLen at hm;omega) ?_;intro j x h;have a:w.drew.heap[bj]?=some (.cells ck 5 (0,0)):=hj;rw[show(⟨bj,0,none⟩:Addr).add j=⟨bj,0+j,none⟩ from jD bj 0 j];simp[World.cell?,a,hq j x h]
 have c:=aY
 go_enter Tryz.func98,Tryz.ntmps98
 go_wp2
 go_region_o
 all_goals (go_wp2;go_ret;exact⟨rfl,Cb w bj q.length⟩)
theorem vS:DSpec Tryz.prog 98 162 5:=
 ⟨fun xs w=>vQ Tryz.func98 rfl (by kernel_rfl) xs w,fun b f e q w cs j h hb c hl k a g d i=>ds_run b f e q w cs j h hb c hl k a g d i⟩
end Go.Proofs.YtkhclghbcicapaaGreatDoor
namespace Go.Proofs.YtkhclghbcicapaaGreatDoor
open Go.Abs
set_option maxRecDepth 20000
theorem cU(a b:Rat)(h:qs a+qs b≤549755813888):FS 40 [.agg (qC a),.agg (qC b)] (.agg (qC (a* b))):=by
 have hp:=qm a b;have h1:=dI a;have c:=du a;have e:=dI b;have d:=du b;rw[mW];refine f_c Tryz.func40 ?_;refine r_z 3 ?_;refine ae (r_d aY 12 ?_);refine c_s (xk a.num b.num (by omega)) ?_;refine c_s (eC a (by omega)) ?_;refine c_s (eC b (by omega)) ?_;refine c_s (fT a.den b.den (by omega)) ?_;refine c_s (pc (a.num* b.num) (a.den* b.den) (mH a b) (by omega)) ?_;refine a_1 ?_;refine ao (n_k ?_);exact ai (c_e (aP _))
theorem Ax(n:Nat):zI (n:Int)=[mag n,bln false]:=by
 unfold zI;rw[Int.natAbs_natCast];rfl
theorem zj(x:Int)(n:Nat)(h:bl x.natAbs+bl n≤17592186044416):FS 104 [.agg (zI x),.agg [mag n,bln false]] (.agg (zI (x* n))):=by
 have:=xk x n (by simpa using h);rwa[Ax] at this
theorem fl(a b:Rat)(h:qs a+qs b≤549755813888):FS 49 [.agg (qC a),.agg (qC b)] (.agg (qC (a+b))):=by
 have hp:=wg a b;have h1:=dI a;have c:=du a;have e:=dI b;have d:=du b;have e1:=eU (x:=a.num) (y:=b.den) h1 (by simpa using d);have e2:=eU (x:=b.num) (y:=a.den) e (by simpa using c);rw[wh];refine f_c Tryz.func49 ?_;refine r_z 3 ?_;refine ae (r_d aY 8 ?_);refine c_s (eC a (by omega)) ?_;refine c_s (eC b (by omega)) ?_;refine a_4 ?_;refine ao (n_k ?_);refine ae (r_d aY 16 ?_);refine c_s (zj a.num b.den (by omega)) ?_;refine c_s (zj b.num a.den (by omega)) ?_;refine c_s (fs_iadd (a.num* b.den) (b.num* a.den) (by omega)) ?_;refine c_s (fT a.den b.den (by omega)) ?_;refine c_s (pc (a.num* b.den+b.num* a.den) (a.den* b.den) (mH a b) (by omega)) ?_;refine a_1 ?_;refine ao (n_k ?_);exact ai (c_e (aP _))
theorem D7(a:Rat):qC (-a)=zI (sgn (!decide (a.num< 0)) a.num.natAbs)++[mag (a.den- 1)]:=by
 unfold qC;rw[Rat.neg_num,Rat.neg_den]
 have e: -a.num=sgn (!decide (a.num< 0)) a.num.natAbs:=by
  unfold sgn;by_cases h:a.num< 0;simp[h];omega;simp[h];omega
 rw[e];rfl
theorem jU(a:Rat):FS 117 [.agg (qC a)] (.agg (qC (-a))):=by
 have hc:=aP (-a);rw[D7] at hc⊢;refine f_c Tryz.func117 ?_;refine r_z 2 ?_;refine ae (r_d aY 12 ?_);refine c_s (eB (!decide (a.num< 0)) a.num.natAbs) ?_;refine a_4 ?_;refine ao (n_k ?_);exact ai (c_e (hc))
theorem kZ(a b:Rat)(h:qs a+qs b≤549755813888):FS 59 [.agg (qC a),.agg (qC b)] (.agg (qC (a- b))):=by
 have hs:=fl a (-b) (by rw[iN];exact h);rw[←Rat.sub_eq_add_neg] at hs;refine f_c Tryz.func59 ?_;refine r_z 3 ?_;refine ae (r_d aY 5 ?_);refine c_s (jU b) ?_;refine c_s (hs) ?_;refine a_1 ?_;refine ao (n_k ?_);exact ai (c_e (aP _))
theorem Gs(a b:Rat)(hb:b≠0)(h:qs a+qs b≤549755813888):FS 138 [.agg (qC a),.agg (qC b)] (.agg (qC (a/ b))):=by
 have hp:=vV a b;have h1:=dI a;have c:=du a;have e:=dI b;have d:=du b;have f:b.num≠0:=fun h=>hb (Rat.num_eq_zero.1 h);have hs:=ff (decide (b.num< 0)) b.den;rw[qJ a b hb];refine f_c Tryz.func138 ?_;refine r_z 3 ?_;refine ae (r_d aY 17 ?_);refine c_s (eC b (by omega)) ?_;refine c_s (eB (decide (b.num< 0)) b.den) ?_;refine c_s (xk a.num (sgn (decide (b.num< 0)) b.den) (by rw[hs];omega)) ?_;refine c_s (eC a (by omega)) ?_;refine c_s (fT a.den b.num.natAbs (by omega)) ?_;refine c_s (pc (a.num* sgn (decide (b.num< 0)) b.den) (a.den* b.num.natAbs) (Nat.mul_pos a.den_pos (by omega)) (by omega)) ?_;refine a_1 ?_;refine ao (n_k ?_);exact ai (c_e (aP _))
theorem BH(a b:Rat)(hb:b≠0)(h:qs a+qs b≤549755813888):FS 87 [.agg (qC a),.agg (qC b)] (.tup [.agg (qC (a/ b)),i64 0]):=by
 have d:b.num≠0:=fun h=>hb (Rat.num_eq_zero.1 h);have c:sgZ b.num≠0:=by unfold sgZ;rw[if_neg d];split <;> decide
 refine f_c Tryz.func87 ?_;refine r_z 4 ?_;refine ae (r_c 3 (ci b) ?_);refine a_z ?_;refine ap rfl (fun h=>?_) (fun h=>?_);exact absurd h (by simpa using c);refine am (r_c 5 (Gs a b hb (by assumption)) ?_);refine a_z ?_;refine ai (Fin.many ⟨_,_,rfl,⟨_,_,_,_,_,rfl,rfl,rfl,.inl ⟨TG.h,_,TS.h,nle rfl,rfl⟩⟩,⟨_,_,rfl,rfl,rfl⟩⟩ (nle rfl) ?_);exact ah (ak aD (aP _)) (ah (ak aD (ag _)) av)
theorem DF(x:Int)(n:Nat)(hn:0< n):(sgZ x= -1∧∃p:Nat,0< p∧x* n= -(p:Int)∧x.natAbs* n=p)∨(sgZ x=0∧x* n=0∧x.natAbs* n=0)∨(sgZ x=1∧∃p:Nat,0< p∧x* n=p∧x.natAbs* n=p):=by
 rcases Int.lt_trichotomy x 0 with a|a|a
 refine .inl ⟨by unfold sgZ;rw[if_neg (by omega),if_pos a],x.natAbs* n,Nat.mul_pos (by omega) hn,?_,rfl⟩;rw[Int.natCast_mul,←Int.neg_mul];congr 1;omega;subst a;refine .inr (.inl ⟨rfl,by simp,by simp⟩);refine .inr (.inr ⟨by unfold sgZ;rw[if_neg (by omega),if_neg (by omega)],x.natAbs* n,Nat.mul_pos (by omega) hn,?_,rfl⟩);rw[Int.natCast_mul];congr 1;omega
theorem Hf(a b:Rat):ft a b=if sgZ a.num≠sgZ b.num∨sgZ a.num=0 then sgZ a.num- sgZ b.num- (sgZ a.num- sgZ b.num).tdiv 2 else sgZ a.num* eg ((a.num.natAbs* b.den:Nat):Int) ((b.num.natAbs* a.den:Nat):Int):=by
 rw[DH];rcases DF a.num b.den b.den_pos with⟨s1,p,hp,e1,f1⟩|⟨s1,e1,f1⟩|⟨s1,p,hp,e1,f1⟩<;> rcases DF b.num a.den a.den_pos with⟨s2,q,hq,e2,f2⟩|⟨s2,e2,f2⟩|⟨s2,q,hq,e2,f2⟩<;> rw[s1,s2,e1,e2,f1,f2]<;> unfold eg <;> simp <;>(repeat' split)<;> first|rfl|omega
theorem nX(a b:Rat)(ha:sm a)(hb:sm b):FS 23 [.agg (qC a),.agg (qC b)] (i64 (ft a b)):=by
 have hs:=sm2 ha hb;have h1:=dI a;have q:=du a;have p:=dI b;have o:=du b;have hc:=Hf a b;have d:sgZ a.num= -1∨sgZ a.num=0∨sgZ a.num=1:=by unfold sgZ;split;simp;split <;> simp
 have g:sgZ b.num= -1∨sgZ b.num=0∨sgZ b.num=1:=by unfold sgZ;split;simp;split <;> simp
 have m:=iw a.num.natAbs b.den;have k:=iw b.num.natAbs a.den;refine f_c Tryz.func23 ?_;refine r_z 3 ?_;refine ae (ae (r_d aY 6 ?_));refine c_s (ci a) ?_;refine c_s (ci b) ?_;refine a_2 ?_;refine ao (n_k ?_);obtain⟨x,l⟩:∃x,x=sgZ a.num:=⟨_,rfl⟩;obtain⟨y,n⟩:∃y,y=sgZ b.num:=⟨_,rfl⟩;rw[←l] at d hc⊢;rw[←n] at g hc⊢
 have r:(x- y).tdiv 2= -1∨(x- y).tdiv 2=0∨(x- y).tdiv 2=1:=by
  rcases d with h|h|h <;> rcases g with h'|h'|h' <;> rw[h,h']<;> decide
 refine aH (fun _:Unit=>⟨[(2,.lptr 1 0 0),(3,.lptr 2 0 0)],[(1,some ⟨34,3,[qC a]⟩),(2,some ⟨34,3,[qC b]⟩)],3,42⟩) (fun _=>x=y∧x≠0) ?_ ?_;by_cases c:x=y;refine s_r 7 ?_;refine a_4 ?_;refine y_g rfl (by simp[c]) (.move rfl) ?_;refine y_g rfl (by simp[c]) (.bin rfl rfl cv) ?_;refine o_0 (.pickF rfl (by simp[c]) rfl) ?_;refine ao ?_;refine ap rfl (fun h=>?_) (fun h=>?_);have i:x=0:=by simpa using h
 refine s_r 9 ?_;refine a_6 ?_;refine o_0 (.bin rfl rfl (qT (by decide) (by omega))) ?_;refine a_z ?_;refine ai (aU rfl ?_ (ag _));rw[hc,if_pos (.inr i)];rfl;have i:x≠0:=by simpa using h
 refine am ⟨(),⟨c,i⟩,?_⟩;exact s_e [];refine s_r 7 ?_;refine a_4 ?_;refine n_g rfl (by simp[c]) ?_;refine n_g rfl (by simp[c]) ?_;refine o_0 (.pickT rfl (by simp[c]) rfl) ?_;refine ao ?_;refine ap rfl (fun h=>?_) (fun h=>?_);refine s_r 9 ?_;refine a_6 ?_;refine o_0 (.bin rfl rfl (qT (by decide) (by omega))) ?_;refine a_z ?_;refine ai (aU rfl ?_ (ag _));rw[hc,if_pos (.inl c)];rfl;cases h;rintro _ ⟨c,i⟩
 have j:eg ((a.num.natAbs* b.den:Nat):Int) ((b.num.natAbs* a.den:Nat):Int)= -1∨eg ((a.num.natAbs* b.den:Nat):Int) ((b.num.natAbs* a.den:Nat):Int)=0∨eg ((a.num.natAbs* b.den:Nat):Int) ((b.num.natAbs* a.den:Nat):Int)=1:=by
  unfold eg;split;simp;split <;> simp
 have e:=ci a;rw[←l] at e
 have f: -9223372036854775808≤x* eg ((a.num.natAbs* b.den:Nat):Int) ((b.num.natAbs* a.den:Nat):Int)∧x* eg ((a.num.natAbs* b.den:Nat):Int) ((b.num.natAbs* a.den:Nat):Int)≤9223372036854775807:=by
  rcases d with h|h|h <;> rcases j with h'|h'|h' <;> rw[h,h']<;> decide
 refine ae (r_d aY 17 ?_);refine c_s (e) ?_;refine c_s (eC b (by omega)) ?_;refine c_s (fT a.num.natAbs b.den (by omega)) ?_;refine c_s (eC a (by omega)) ?_;refine c_s (fT b.num.natAbs a.den (by omega)) ?_;refine c_s (nY (a.num.natAbs* b.den) (b.num.natAbs* a.den) (by omega)) ?_;refine o_0 (.bin rfl rfl (uG f)) ?_;refine a_1 ?_;refine ao (n_k ?_);refine ai (aU rfl ?_ (ag _));rw[hc,if_neg (by omega)];rfl
theorem qA(a:Rat):FS 93 [.agg (qC a)] (.agg (qC (fM a))):=by
 have hc:=aP (fM a);rw[qC_abs] at hc⊢;refine f_c Tryz.func93 ?_;refine r_z 2 ?_;refine ae (r_d aY 8 ?_);refine c_s (eB false a.num.natAbs) ?_;refine a_4 ?_;refine ao (n_k ?_);exact ai (c_e (hc))
theorem GB(a:Rat)(ha:sm a):FS 262 [.agg (qC a)] (.agg (qC ((a.den:Int):Rat))):=by
 have b:=pa (a.den:Int);rw[Ax] at b;refine f_c Tryz.func262 ?_;refine r_z 2 ?_;refine r_c 5 (eC a (by unfold sm at ha;omega)) ?_;refine c_s (b) ?_;refine a_z ?_;exact ai (c_e (aP _))
theorem EM{z q:Int}{d:Nat}(hd:0< d)(h1:q* d≤z)(h2:z< q* d+d):z/ (d:Int)=q:=by
 have a:(0:Int)< d:=by omega
 have b:q≤z/ (d:Int):=(Int.le_ediv_iff_mul_le a).2 h1;have c:z/ (d:Int)< q+1:=(Int.ediv_lt_iff_lt_mul a).2 (by rw[Int.add_mul];omega);omega
theorem tW(z:Int)(d:Nat)(hd:0< d):z/ (d:Int)=sgn (decide (z< 0)) (if (decide (z< 0) && !(z.natAbs % d==0))=true then z.natAbs/ d+1 else z.natAbs/ d):=by
 have h1:=Nat.div_add_mod z.natAbs d;have b:=Nat.mod_lt z.natAbs hd;generalize f:z.natAbs % d=r at *
 generalize e:z.natAbs/ d=a at *
 have c:((d* a:Nat):Int)=(a:Int) * d:=by rw[Int.natCast_mul,Int.mul_comm]
 refine EM hd ?_ ?_ <;> by_cases hz:z< 0 <;> by_cases h0:r=0 <;> simp[sgn,hz,h0,Int.neg_mul,Int.add_mul]<;> omega
theorem Et(z:Int)(d:Nat)(hd:0< d)(h:bl z.natAbs+bl d≤4398046511104):FS 261 [.agg (zI z),.agg [mag d]] (.agg (zI (z/ d))):=by
 rw[tW z d hd];have a:=eI z.natAbs d;have b:=x8 (z.natAbs/ d) 1;have hb2:bl 1=1:=jC;obtain⟨Q,hQ⟩:∃Q,Q=(if (decide (z< 0) && !(z.natAbs % d==0))=true then z.natAbs/ d+1 else z.natAbs/ d):=⟨_,rfl⟩;rw[←hQ];refine f_c Tryz.func261 ?_;refine r_z 3 ?_;refine r_c 11 (r7 z.natAbs d h hd) ?_;refine a_z ?_;refine bh (fun _:Unit=>⟨[(2,.lptr 1 0 0),(4,.lptr 2 0 0),(5,.lptr 3 0 0)],[(1,some ⟨32,2,[zI z]⟩),(2,some ⟨32,2,[[.emp,bln false]]⟩),(3,some ⟨30,1,[[mag Q]]⟩)],4,28⟩) (fun _=>True) ?_ ?_;by_cases hz:z< 0;refine s_r 7 ?_;refine a_3 ?_;refine y_g rfl (by simp[hz]) (.load_l rfl rfl rfl TG.h TS.h (nle rfl)) ?_;refine y_g rfl (by simp[hz]) (.call rfl rfl rfl (lX (z.natAbs % d))) ?_;refine y_g rfl (by simp[hz]) (.un rfl kL) ?_;refine o_0 (.pickT rfl (by simp[hz]) rfl) ?_;refine ao ?_;refine ap rfl (fun h1=>?_) (fun h1=>?_);have:Q=z.natAbs/ d+1:=by rw[hQ,if_pos];simpa[hz] using h1
 rw[this];refine r_d aY 4 ?_;refine c_s (fU 1 (by decide)) ?_;refine c_s (xh (z.natAbs/ d) 1 (by omega)) ?_;refine a_1 ?_;refine ao (n_k ?_);refine⟨(),trivial,?_⟩;exact s_e [(2,4),(3,5)];have:Q=z.natAbs/ d:=by rw[hQ,if_neg];simpa[hz] using h1
 rw[this];refine am ⟨(),trivial,?_⟩;exact s_e [(2,4),(3,5)];refine s_r 7 ?_;refine a_3 ?_;refine n_g rfl (by simp[hz]) ?_;refine n_g rfl (by simp[hz]) ?_;refine n_g rfl (by simp[hz]) ?_;refine o_0 (.pickF rfl (by simp[hz]) rfl) ?_;refine ao ?_;have:Q=z.natAbs/ d:=by rw[hQ,if_neg];simp[hz]
 rw[this];refine ap rfl (fun h=>?_) (fun h=>am ⟨(),trivial,?_⟩);cases h;exact s_e [(2,4),(3,5)];rintro _ _;refine r_c 5 (eB (decide (z< 0)) Q) ?_;refine a_z ?_;exact ai (c_e (ir _))
theorem ph(q:Rat)(h:qs q≤1099511627776):FS 233 [.agg (qC q)] (.agg (qC (q.floor:Rat))):=by
 have h1:=dI q;have a:=du q;rw[Rat.floor_def];refine f_c Tryz.func233 ?_;refine r_z 2 ?_;refine ae (r_d aY 7 ?_);refine c_s (eC q h) ?_;refine c_s (Et q.num q.den q.den_pos (by omega)) ?_;refine c_s (pa (q.num/ q.den)) ?_;refine a_1 ?_;refine ao (n_k ?_);exact ai (c_e (aP _))
def uD(q:Rat):Rat:= -((-q).floor:Rat)
theorem Dg(q:Rat)(h:qs q≤1099511627776):FS 234 [.agg (qC q)] (.agg (qC (uD q))):=by
 refine f_c Tryz.func234 ?_;refine r_z 2 ?_;refine r_c 5 (jU q) ?_;refine c_s (ph (-q) (by rw[iN];exact h)) ?_;refine c_s (jU ((-q).floor:Rat)) ?_;refine a_z ?_;exact ai (c_e (aP _))
def wi(k:Int)(m:Nat):Nat:=(max 0 (min k m)).toNat
theorem Ek(k:Int)(m:Nat):FS 265 [i64 k,i64 m] (i64 (wi k m)):=by
 refine f_c Tryz.func265 ?_;refine r_z 1 ?_;refine r_z 5 ?_;refine ai (aU rfl ?_ ?_);simp only[i64,wi];congr 2;split <;> split <;> omega;exact ag _
def powS:Nat×Nat×Nat→AState
 |(o,x,m)=>⟨[(1,i64 m),(2,.lptr 1 0 0),(4,.lptr 2 0 0),(5,.lptr 3 0 0)],[(1,some ⟨30,1,[[mag x]]⟩),(2,some ⟨30,1,[[.emp]]⟩),(3,some ⟨30,1,[[mag o]]⟩)],4,23⟩
theorem kU(o:Nat)(x:Nat)(m:Nat):powS (o,x,m)=⟨[(1,i64 m),(2,.lptr 1 0 0),(4,.lptr 2 0 0),(5,.lptr 3 0 0)],[(1,some ⟨30,1,[[mag x]]⟩),(2,some ⟨30,1,[[.emp]]⟩),(3,some ⟨30,1,[[mag o]]⟩)],4,23⟩:=rfl
theorem A8(x m:Nat):x^ m=(x* x) ^ (m/ 2) * (if m % 2=1 then x else 1):=by
 rw[←Nat.pow_two,←Nat.pow_mul];have:=Nat.div_add_mod m 2;split
 ·rename_i h;rw[←Nat.pow_succ];congr 1;omega
 ·rename_i h;rw[Nat.mul_one];congr 1;omega
theorem Er(a n:Nat)(h:bl a* n≤2199023255552)(hn:n≤1000000):FS 264 [.agg [mag a],i64 n] (.agg [mag (a^ n)]):=by
 refine f_c Tryz.func264 ?_;refine r_z 2 ?_;refine r_c 3 (fU 1 (by decide)) ?_;refine a_z ?_;refine bh (fun _:Unit=>⟨[(4,.lptr 2 0 0),(5,.lptr 3 0 0)],[(2,some ⟨30,1,[[.emp]]⟩),(3,some ⟨30,1,[[mag (a^ n)]]⟩)],4,23⟩) (fun _=>True) ?_ ?_;refine aj (aB powS (fun x=>x.2.2) (fun x=>x.1* x.2.1^ x.2.2=a^ n∧bl x.1+bl x.2.1* x.2.2≤2199023255553∧x.2.2≤1000000) (1,a,n) ⟨by simp,by have:bl 1=1:=jC;simp only;omega,hn⟩ ?_ ?_);rw[kU];exact s_e [(1,2),(2,4),(3,5)];rintro⟨o,x,m⟩ ⟨hv,hb,t⟩;simp only at hv hb t;rw[kU];refine ae (r_z 2 ?_);refine ap rfl (fun h=>?_) (fun h=>?_);have c:0< m:=by simpa using h
 have u:bl x* 1≤bl x* m:=Nat.mul_le_mul_left _ c;have p:=A8 x m;refine am ?_
 have C:(m:Int).tdiv 2=((m/ 2:Nat):Int):=by
  rw[Int.tdiv_eq_ediv_of_nonneg (by omega)];omega
 have B:=Nat.div_add_mod m 2;have A:=Nat.mod_lt m (show 0< 2 by decide);have k:m/ 2< m:=by omega
 have l:=iw x x;have y:=iw o x;have w:bl x* m=bl x* (2* (m/ 2))+bl x* (m % 2):=by rw[←Nat.mul_add];congr 1;omega
 have s:bl (x* x) * (m/ 2)≤bl x* (2* (m/ 2)):=by
  have:=Nat.mul_le_mul_right (m/ 2) l;rw[←Nat.two_mul,Nat.mul_comm 2,Nat.mul_assoc] at this;exact this
 have D:(m:Int) % 2=((m % 2:Nat):Int):=by omega
 have e:(m:Int) / 2=((m/ 2:Nat):Int):=by omega
 refine ae (aj (bh (fun d:Nat=>powS (d,x,m)) (fun d=>d=o* (if m % 2=1 then x else 1)) ?_ ?_));refine r_z 3 ?_;refine ap rfl (fun h1=>?_) (fun h1=>?_);have f:m % 2=1:=by simp at h1;omega
 refine r_m 4 ?_;refine c_s (fT o x (by omega)) ?_;refine a_z ?_;refine⟨o* x,by rw[if_pos f],?_⟩;simp only[kU];exact s_e [];have i:¬m % 2=1:=by simp at h1;omega
 refine am ⟨o,by rw[if_neg i,Nat.mul_one],?_⟩;simp only[kU];exact s_e [];rintro d g;rw[kU]
 have r:bl d≤bl o+bl x* (m % 2):=by
  rw[g];split
  ·rename_i h1;rw[h1];omega
  rw[Nat.mul_one];omega
 have b:d* (x* x) ^ (m/ 2)=a^ n:=by
  rw[←hv,p,g,Nat.mul_assoc,Nat.mul_comm (if m % 2=1 then x else 1)]
 refine r_z 2 ?_;refine ap rfl (fun q=>?_) (fun q=>?_);refine r_m 4 ?_;refine c_s (fT x x (by omega)) ?_;refine a_z ?_;refine r_m 3 ?_;refine a_z ?_;refine⟨(d,x* x,m/ 2),k,⟨b,by simp only;omega,by simp only;omega⟩,?_⟩;rw[kU];have:=(congrArg (fun z=>AV.v (.int .i64 z)) e);exact s_f [];have j:m/ 2=0:=by simp at q;omega
 refine am (r_m 3 ?_);refine a_z ?_;rw[j] at b e;refine⟨(d,x,0),c,⟨by simpa using b,by simp only;omega,by simp only;omega⟩,?_⟩;rw[kU];have:=(congrArg (fun z=>AV.v (.int .i64 z)) e);exact s_f [];have c:m=0:=by simp at h;omega
 subst c;refine ay ⟨(),trivial,?_⟩;have b:o=a^ n:=by simpa using hv
 rw[b];exact s_e [];rintro _ _;refine r_z 2 ?_;exact ai (c_e (closed_mA _))
theorem Gn(k:Int):FS 239 [i64 k] (.agg [mag (2^ wi k 256)]):=by
 have b:wi k 256≤256:=by unfold wi;omega
 have a:bl 2=2:=by decide
 refine f_c Tryz.func239 ?_;refine r_z 1 ?_;refine r_c 5 (fU 2 (by decide)) ?_;refine c_s (Ek k 256) ?_;refine c_s (Er 2 (wi k 256) (by rw[a];omega) (by omega)) ?_;refine a_z ?_;exact ai (c_e (closed_mA _))
theorem Cd(k:Nat):bl (2^ k)≤k+1:=gP (by rw[Nat.pow_succ];have:=Nat.pow_pos (n:=k) (show 0< 2 by decide);omega)
theorem pq(k:Int):FS 206 [i64 k] (.agg (qC (fV (wi k 256)))):=by
 have a:wi k 256≤256:=by unfold wi;omega
 have hb:=Cd (wi k 256);have h1:bl (1:Int).natAbs=1:=jC;refine f_c Tryz.func206 ?_;refine r_z 1 ?_;refine r_c 5 (zg 1 (by decide)) ?_;refine c_s (Gn k) ?_;refine c_s (pc 1 (2^ wi k 256) (Nat.pow_pos (by decide)) (by omega)) ?_;refine a_z ?_;exact ai (c_e (aP _))
def nI(k:Nat):Rat:=((2^ k:Nat):Int)
theorem wW(k:Nat):qs (nI k)≤k+1:=by
 have h1:(nI k).num=((2^ k:Nat):Int):=rfl;have a:(nI k).den=1:=rfl;unfold qs;rw[h1,a,Int.natAbs_natCast,jC];have:=Cd k;omega
theorem yE(k:Nat):qs (fV k)≤k+1:=by
 have h1:bl (1:Int).natAbs=1:=jC;exact fh (Nat.pow_pos (by decide)) (by omega) (Cd k)
theorem vE(a:Rat)(k:Int)(h:qs a≤549755813000):FS 232 [.agg (qC a),i64 k] (.agg (qC (a* nI (wi k 256)))):=by
 have d:wi k 256≤256:=by unfold wi;omega
 have c:=wW (wi k 256);have b:=pa ((2^ wi k 256:Nat):Int);rw[Ax] at b;refine f_c Tryz.func232 ?_;refine r_z 2 ?_;refine ae (r_d aY 7 ?_);refine c_s (Gn k) ?_;refine c_s (b) ?_;refine c_s (cU a (nI (wi k 256)) (by omega)) ?_;refine a_1 ?_;refine ao (n_k ?_);exact ai (c_e (aP _))
def jv(a:Rat)(k:Nat):Rat:=((a* nI k).floor:Rat) * fV k
def upQ(a:Rat)(k:Nat):Rat:=uD (a* nI k) * fV k
theorem yD(a:Rat):qs (a.floor:Rat)≤qs a+1:=by
 rw[Rat.floor_def];have h1:=dI a;have e1:((a.num/ (a.den:Int):Int):Rat).num=a.num/ a.den:=rfl;have e2:((a.num/ (a.den:Int):Int):Rat).den=1:=rfl;have f:1≤bl a.den:=Hi a.den_pos;have e:=du a;unfold qs at *
 rw[e1,e2,jC,tW _ _ a.den_pos,ff];have b:=eI a.num.natAbs a.den;have d:=x8 (a.num.natAbs/ a.den) 1;have c:bl 1=1:=jC;split <;> omega
theorem FH(a:Rat):qs (uD a)≤qs a+1:=by
 unfold uD;rw[iN];have:=yD (-a);rwa[iN] at this
theorem Dk(a:Rat)(k:Int)(h:sm a):FS 198 [.agg (qC a),i64 k] (.agg (qC (jv a (wi k 256)))):=by
 unfold sm at h;have f:wi k 256≤256:=by unfold wi;omega
 have c:=wW (wi k 256);have e:=eu a (nI (wi k 256));have d:=yD (a* nI (wi k 256));have b:=yE (wi k 256);refine f_c Tryz.func198 ?_;refine r_z 2 ?_;refine r_c 8 (vE a k (by omega)) ?_;refine c_s (ph (a* nI (wi k 256)) (by omega)) ?_;refine c_s (pq k) ?_;refine c_s (cU ((a* nI (wi k 256)).floor:Rat) (fV (wi k 256)) (by omega)) ?_;refine a_z ?_;exact ai (c_e (aP _))
theorem fs_Up(a:Rat)(k:Int)(h:sm a):FS 199 [.agg (qC a),i64 k] (.agg (qC (upQ a (wi k 256)))):=by
 unfold sm at h;have f:wi k 256≤256:=by unfold wi;omega
 have c:=wW (wi k 256);have e:=eu a (nI (wi k 256));have d:=FH (a* nI (wi k 256));have b:=yE (wi k 256);refine f_c Tryz.func199 ?_;refine r_z 2 ?_;refine r_c 8 (vE a k (by omega)) ?_;refine c_s (Dg (a* nI (wi k 256)) (by omega)) ?_;refine c_s (pq k) ?_;refine c_s (cU (uD (a* nI (wi k 256))) (fV (wi k 256)) (by omega)) ?_;refine a_z ?_;exact ai (c_e (aP _))
def iW(n:Nat):List UInt8:=if n< 10 then [48+n.toUInt8] else [48+(n/ 10).toUInt8,48+(n % 10).toUInt8]
theorem zV(s:ByteArray)(l h:Nat)(zl zh:Int)(el:zl=(l:Int))(eh:zh=(h:Int))(hlh:l≤h)(hh:h≤s.size):∀w,(Instr.sliceAt 9 (.string s) (some (.int .i64 zl)) (some (.int .i64 zh)) none).run Tryz.prog w= .ok (.string (s.extract l h)) w:=fun w=>by
 subst el eh;have b1:∀(i y:Nat) (c:BoundsCode),i≤y→(Instr.sliceBound (.int .i64 (i:Int)) y c).run Tryz.prog w= .ok i w:=fun i y c a=>em a c w
 have b:(Instr.slice 9 (.string s) (some (.int .i64 (l:Int))) (some (.int .i64 (h:Int))) none).run Tryz.prog w= .ok (.string (s.extract l h)) w:=by
  simp[Instr.slice,run_underlying mO,Instr.sliceBounds,b1 h s.size _ hh,b1 l h _ hlh,Result.andThen]
 unfold Instr.sliceAt;rw[Sem.run_bind,run_underlying mO];exact b
def smallsB:ByteArray:=⟨((List.range 100).flatMap fun n=>[48+(n/ 10).toUInt8,48+(n % 10).toUInt8]).toArray⟩
theorem Em(i:Nat)(h:i< 100):FS 211 [i64 i] (tx (iW i)):=by
 refine f_c Tryz.func211 ?_;refine r_z 1 ?_;refine ae (r_z 2 ?_);refine ap rfl (fun h1=>?_) (fun h1=>?_);have b:i< 10:=by simp at h1;omega
 refine s_r 5 ?_;refine a_3 ?_;refine o_0 (.slice_v rfl rfl rfl rfl (zV _ i (i+1) _ _ rfl (by omega) (by omega) (by exact Nat.le_trans (m:=10) (by omega) (by decide)))) ?_;refine a_z ?_;refine ai (aU rfl ?_ ?_);have a:∀i,i< 10→(ByteArray.mk #[48,49,50,51,52,53,54,55,56,57,97,98,99,100,101,102,103,104,105,106,107,108,109,110,111,112,113,114,115,116,117,118,119,120,121,122]).extract i (i+1)=⟨(iW i).toArray⟩:=by decide
 exact congrArg (fun s=>AV.v (.string s)) (a i b);exact ag _;have b:10≤i:=by simp at h1;omega
 refine am (s_r 7 ?_);refine a_5 ?_;refine o_0 (.slice_v rfl rfl rfl rfl (zV _ (i* 2) (i* 2+2) _ _ (by omega) (by omega) (by omega) (by exact Nat.le_trans (m:=200) (by omega) (by decide)))) ?_;refine a_z ?_;refine ai (aU rfl ?_ ?_);have a:∀i,i< 100→10≤i→smallsB.extract (i* 2) (i* 2+2)=⟨(iW i).toArray⟩:=by decide
 refine congrArg (fun s=>AV.v (.string s)) (Eq.trans (congrArg (fun s:ByteArray=>s.extract _ _) (?_:_=smallsB)) (a i h b))
 kernel_rfl
 exact ag _
theorem xp(i:Nat)(h:i< 100):FS 179 [i64 i,i64 10] (tx (iW i)):=by
 refine f_c Tryz.func179 ?_;refine r_z 1 ?_;refine ae (r_z 2 ?_);refine ap rfl (fun h1=>?_) (fun h1=>?_);refine ae (s_r 6 ?_);refine a_3 ?_;refine y_g rfl (by simp) (.move rfl) ?_;refine y_g rfl (by simp) (.bin rfl rfl dM) ?_;refine o_0 (.pickT rfl (by simp) rfl) ?_;refine ao ?_;refine ap rfl (fun a=>?_) (fun a=>?_);refine r_c 3 (Em i h) ?_;refine a_z ?_;exact ai (t_e (ag _));exact absurd a (by simp;omega);exact absurd h1 (by simp)
theorem Gx(i:Nat)(h:i< 100):FS 146 [i64 i] (tx (iW i)):=by
 refine f_c Tryz.func146 ?_;refine r_z 1 ?_;refine r_c 3 (xp i h) ?_;refine a_z ?_;exact ai (t_e (ag _))
theorem Dj(i:Nat)(h:i< 100):FS 97 [i64 i] (tx (iW i)):=by
 refine f_c Tryz.func97 ?_;refine r_z 1 ?_;refine r_c 3 (Gx i h) ?_;refine a_z ?_;exact ai (t_e (ag _))
def te0(m:Nat):Unit→AState
 |u=>⟨[(1,.lptr 1 0 0),(3,.lptr 2 0 0),(11,.clos 180 [] [.aptr [[.arr (dE [m])]] 0 0])],[(1,some ⟨30,1,[[.arr (dE [m])]]⟩),(2,some ⟨162,2,[ed 2 0 none]⟩)],4,31⟩
def te1(m:Nat):Unit→AState
 |u=>⟨[(1,.lptr 1 0 0),(3,.lptr 2 0 0),(11,.clos 180 [] [.aptr [[.arr (dE [m])]] 0 0])],[(1,some ⟨30,1,[[.arr (dE [m])]]⟩),(2,some ⟨162,2,[ed 2 3 (some (iW m))]⟩),(3,some ⟨5,1,bE (iW m)⟩)],4,31⟩
def teS(m:Nat):Nat→AState
 |0=>te0 m ()
 |_+1=>te1 m ()
theorem EN{m:Nat}(h0:m≠0)(h:m< 100):aw MB m=[m]:=by
 have hb:MB=1000000000:=rfl;rw[eX (by decide) (by omega),Nat.mod_eq_of_lt (by omega),Nat.div_eq_of_lt (by omega),cm]
theorem xT(m:Nat):iW m≠[]:=by unfold iW;split <;> simp
theorem kr(m:Nat):(iW m).length≤2:=by unfold iW;split <;> simp
theorem zi(m:Nat)(h:m< 100):FS 99 [.agg [mag m]] (tx (iW m)):=by
 have v:=lX m;refine f_c Tryz.func99 ?_;refine r_z 2 ?_;refine ae (r_c 2 (v) ?_);refine ao ?_;refine ap rfl (fun h1=>?_) (fun h1=>?_);have g:m=0:=by simpa using h1
 subst g;refine r_z 1 ?_;exact ai (t_e (ag _));have g:m≠0:=by simpa using h1
 have q:mag m= .arr (dE [m]):=by unfold mag;rw[EN g h]
 rw[q];refine am ?_;have p:([m]:List Nat).length=1:=rfl;have d:Closed (.aptr [[.arr (dE [m])]] 0 0):=jM (fun e o c hc=>by simp at o;subst o;simp at hc;subst hc;exact cO _);have b:Closed (.clos 180 [] [.aptr [[.arr (dE [m])]] 0 0]):=aQ af (ac d af);refine r_z 1 ?_;refine ae (r_c 3 (nE [m]) ?_);refine ao ?_;refine aH (fun _:Unit=>te1 m ()) (fun _=>True) ?_ ?_;refine aj (AWp.rangeFunc (α:=Nat) (γ:=Empty) 1 (teS m) (fun k=>k) (fun k=>k≤1) (fun e=>nomatch e) (fun _ e=>nomatch e) 0 rfl (nC [m] (by simp)) rfl rfl ?_ (fun k=>by cases k <;> exact⟨rfl,rfl⟩) (fun e=>nomatch e) (Nat.zero_le _) rfl (fun _ h=>h) ?_ ?_ ?_ ?_ (fun _ e=>nomatch e));intro k xs a;unfold nG at a;split at a;cases a;rfl;cases a;show SEntT _ (te0 m ());rw[te0.eq_1];exact s_t [(1,1),(2,3)];exact ac d af
 ·intro l k xs t a
  unfold nG at a;split at a;rotate_left;cases a;rename_i hlt;have f:k=0:=by simpa using hlt
  subst f;cases a;show AWp _ _ _ _ ⟨jl (te0 m ()).fr _ _++eQ (te0 m ()).fr,_,_,_⟩;show AWp _ _ _ _ ⟨[(13,u32 m),(12,i64 0),(1,.lptr 1 0 0),(3,.lptr 2 0 0),(11,.clos 180 [] [.aptr [[.arr (dE [m])]] 0 0]),(1001,.lptr 1 0 0),(1003,.lptr 2 0 0),(1011,.clos 180 [] [.aptr [[.arr (dE [m])]] 0 0])],[(1,some ⟨30,1,[[.arr (dE [m])]]⟩),(2,some ⟨162,2,[ed 2 0 none]⟩)],4,31⟩;refine r_z 1 ?_;refine r_m 1 ?_;refine a_z ?_;refine aj (r_c 4 (Dj m h) ?_);refine a_z ?_;refine ae (r_z 6 ?_);refine ap rfl (fun n=>?_) (fun n=>?_);exact absurd n (by simp);refine am (r_m 2 ?_);refine a_1 ?_;refine o_2 (.callB (s:=none) (j:=0) rfl rfl rfl rfl rfl rfl (fun _ h=>by cases h) (ky (iW m) (xT m) (by have:=kr m;omega))) ?_;refine ao ?_;refine⟨0+1,⟨by omega,rfl⟩,?_⟩;show SEntT _ ⟨[(1001,.lptr 1 0 0),(1003,.lptr 2 0 0),(1011,.clos 180 [] [.aptr [[.arr (dE [m])]] 0 0])],[(1,some ⟨30,1,[[.arr (dE [m])]]⟩),(2,some ⟨162,2,[ed 2 3 (some (iW m))]⟩),(3,some ⟨5,1,bE (iW m)⟩)],4,31⟩;refine SEntT.to2 [(3,100017)] rfl rfl rfl Ci (fun hs=>?_) (fun hs=>?_)
  ·repeat' (first|exact aK|refine az rfl ?_ ?_)
   all_goals (first|(exact ak hs b)|exact aW)
  ·repeat' (first|exact aE|refine pR rfl rfl rfl rfl ?_ ?_)
   all_goals (first|exact bF|(refine aC ?_;repeat' (first|exact av|refine ah ?_ ?_)))
   all_goals (first|(exact ak hs b)|exact aW)
 ·intro k t a
  unfold nG at a;split at a;cases a
  have i:k=1:=by
   rename_i r;simp at r;omega
  subst i;exact⟨(),trivial,SEnt.refl _⟩
 rintro _ _;rw[te1.eq_1];have u:=xT m;refine s_r 2 ?_;refine o_2 (.callD rfl rfl rfl rfl rfl rfl (by decide) (by first|assumption|simp) (vS)) ?_;refine a_z ?_;exact ai (t_e (ag _))
theorem zu(a:Rat)(k:Int)(h:sm a):FS 170 [.agg (qC a),i64 k] (.agg (spC (jv a (wi k 256)) (upQ a (wi k 256)))):=by
 refine f_c Tryz.func170 ?_;refine r_z 2 ?_;refine ae (r_d aY 8 ?_);refine c_s (Dk a k h) ?_;refine c_s (fs_Up a k h) ?_;refine a_2 ?_;refine ao (n_k ?_);exact ai (c_e (bG _ _))
theorem zx(a:Rat):FS 210 [.agg (qC a)] (.agg (spC a a)):=by
 refine f_c Tryz.func210 ?_;refine r_z 2 ?_;refine r_z 4 ?_;exact ai (c_e (bG _ _))
theorem ng(a b:Rat)(ha:sm a)(hb:sm b):FS 62 [.agg (spC a b)] (bln (decide (ft a b≤0))):=by
 refine f_c Tryz.func62 ?_;refine r_z 2 ?_;refine r_c 7 (nX a b ha hb) ?_;refine a_z ?_;exact ai (t_e (ag _))
theorem fs_SAdd(a b c d:Rat)(ha:sm a)(hb:sm b)(hc:sm c)(hd:sm d):FS 247 [.agg (spC a b),.agg (spC c d)] (.agg (spC (a+c) (b+d))):=by
 refine f_c Tryz.func247 ?_;refine r_z 3 ?_;refine ae (r_d aY 12 ?_);refine c_s (fl a c (sm2 ha hc)) ?_;refine c_s (fl b d (sm2 hb hd)) ?_;refine a_2 ?_;refine ao (n_k ?_);exact ai (c_e (bG _ _))
theorem BL(a b:Rat)(ha:sm a)(hb:sm b):FS 242 [.agg (spC a b)] (.agg (qC ((a+b) * fV 1))):=by
 have h1:qs (a+b)≤274877906945:=by have:=kS a b;unfold sm at ha hb;omega
 have c:qs (fV 1)≤2:=by decide
 refine f_c Tryz.func242 ?_;refine r_z 2 ?_;refine r_c 8 (fl a b (sm2 ha hb)) ?_;refine c_s (pq 1) ?_;refine c_s (cU (a+b) (fV 1) (by omega)) ?_;refine a_z ?_;exact ai (c_e (aP _))
theorem vJ(a b:Rat)(ha:sm a)(hb:sm b):FS 94 [.agg (spC a b)] (.agg (qC (b- a))):=by
 refine f_c Tryz.func94 ?_;refine r_z 2 ?_;refine r_c 6 (kZ b a (sm2 hb ha)) ?_;refine a_z ?_;exact ai (c_e (aP _))
theorem fs_Min1(c:Int):FS 120 [i64 c] (bln (decide (c< 0))):=by
 refine f_c Tryz.func120 ?_;refine r_z 1 ?_;refine r_z 3 ?_;exact ai (t_e (ag _))
theorem fs_Max1(c:Int):FS 119 [i64 c] (bln (decide (0< c))):=by
 refine f_c Tryz.func119 ?_;refine r_z 1 ?_;refine r_z 3 ?_;exact ai (t_e (ag _))
def xW(g:Nat)(l:List Rat):Nat×List AV→AState
 |(i,o)=>⟨[(0,.clos g [] []),(4,.lptr 1 0 0),(5,.lptr 2 0 0),(8,.arr (pE l)),(9,i64 l.length),(10,i64 i)],[(1,some ⟨34,3,[zC]⟩),(2,some ⟨34,3,[o]⟩)],3,27⟩
theorem vH(g:Nat)(bf:Int→Bool)(hg:∀c,FS g [i64 c] (bln (bf c)))(l:List Rat)(hl:smL l)(hln:l.length≤1099511627776):FS 118 [.clos g [] [],.arr (pE l)] (.agg (qC (dP bf l))):=by
 refine f_n Tryz.func118 ?_ ?_;exact ac (aQ af af) (ac (ax l) af);refine r_z 1 ?_;refine r_z 1 ?_;refine ae (r_z 3 ?_);refine aH (fun _:Unit=>⟨[(4,.lptr 1 0 0),(5,.lptr 2 0 0)],[(1,some ⟨34,3,[zC]⟩),(2,some ⟨34,3,[qC (dP bf l)]⟩)],3,27⟩) (fun _=>True) ?_ ?_;refine aj (aB (fun x:Nat×List AV=>xW g l x) (fun x=>l.length- x.1) (fun x=>x.1≤l.length∧((x.1=0→x.2=zC)∧(x.1≠0→x.2=qC (dP bf (l.take x.1))))) (0,zC) ⟨Nat.zero_le _,fun _=>rfl,fun h=>absurd rfl h⟩ ?_ ?_);simp only[xW.eq_1];exact s_e [(1,4),(2,5)];rintro⟨i,o⟩ ⟨t,b,n⟩;simp only at t b n;simp only[xW.eq_1];refine r_z 1 ?_;refine ae (ap rfl (fun h=>?_) (fun h=>?_));refine am ?_;have k:i< l.length:=by simpa using h
 obtain⟨q,e⟩:∃q,l[i]?=some q:=⟨_,List.getElem?_eq_getElem k⟩;have d:(pE l)[((i:Nat):Int).toNat]?=some (qC q):=pE_get e;have m:sm q:=hl q (List.mem_of_getElem? e);have f:sm (dP bf (l.take i)):=oc fun q e=>hl q (List.mem_of_mem_take e);have a:=xX bf (l.take i) q;rw[←cw e] at a;refine ae (aj (s_r 6 ?_));refine a_1 ?_;refine i_x d ?_;refine l_x d ?_;refine a_z ?_;refine AWp.cutB (fun _:Unit=>xW g l (i,qC (dP bf (l.take (i+1))))) (fun _=>True) ?_ ?_;by_cases h0:i=0;subst h0;have:=b rfl;subst this;rw[if_pos (.inl (by simp))] at a;refine s_r 9 ?_;refine a_3 ?_;refine n_g rfl d_t ?_;refine n_g rfl d_t ?_;refine n_g rfl d_t ?_;refine n_g rfl d_t ?_;refine n_g rfl d_t ?_;refine o_0 (.pickT rfl d_t rfl) ?_;refine ao ?_;refine ap rfl (fun h=>?_) (fun h=>?_);refine r_m 2 ?_;refine a_z ?_;refine⟨(),trivial,?_⟩;simp only[xW.eq_1];rw[a];exact s_e [];cases h;have r:o=qC (dP bf (l.take i)):=n h0;subst r
 have p:l.take i≠[]:=fun h=>by
  have:=congrArg List.length h;rw[List.length_take,List.length_nil] at this;omega
 refine s_r 9 ?_;refine a_3 ?_;refine y_g rfl (by simp;omega) (.move rfl) ?_;refine y_g rfl (by simp;omega) (.load_l rfl rfl rfl TG.h TS.h (nle rfl)) ?_;refine y_g rfl (by simp;omega) (.load_l rfl rfl rfl TG.h TS.h (nle rfl)) ?_;refine y_g rfl (by simp;omega) (.call rfl rfl rfl (nX q (dP bf (l.take i)) m f)) ?_;refine y_g rfl (by simp;omega) (.call rfl rfl rfl (hg (ft q (dP bf (l.take i))))) ?_;refine o_0 (.pickF rfl (by simp;omega) rfl) ?_;refine ao ?_;refine ap rfl (fun h1=>?_) (fun h1=>?_);refine r_m 2 ?_;refine a_z ?_;refine⟨(),trivial,?_⟩;simp only[xW.eq_1];rw[a,if_pos (.inr h1)];exact s_e [];refine am ⟨(),trivial,?_⟩;simp only[xW.eq_1];rw[a,if_neg (fun u=>u.elim p fun s=>by rw[h1] at s;cases s)];exact s_e [];rintro _ _;rw[xW.eq_1];refine r_m 2 ?_;refine a_z ?_;refine⟨(i+1,qC (dP bf (l.take (i+1)))),by simp only;omega,⟨by simp only;omega,fun h=>absurd h (by simp),fun _=>rfl⟩,?_⟩;simp only[xW.eq_1];exact s_e [];have j:i=l.length:=by simp at h;omega
 refine ay ⟨(),trivial,?_⟩;subst j;by_cases h0:l.length=0;have:=b h0;subst this
 have:dP bf l=0:=by
  rw[List.length_eq_zero_iff] at h0;rw[h0];rfl
 rw[this,qC0];exact s_e [];have:=n h0;subst this;rw[List.take_length];exact s_e [];rintro _ _;refine r_z 2 ?_;exact ai (c_e (aP _))
theorem GJ(l:List Rat)(hl:smL l)(hln:l.length≤1099511627776):FS 61 [.arr (pE l)] (.agg (qC (Bd l))):=by
 refine f_c Tryz.func61 ?_;refine r_z 1 ?_;refine r_c 3 (vH 120 _ fs_Min1 l hl hln) ?_;refine a_z ?_;exact ai (c_e (aP _))
theorem xn(l:List Rat)(hl:smL l)(hln:l.length≤1099511627776):FS 60 [.arr (pE l)] (.agg (qC (nS l))):=by
 refine f_c Tryz.func60 ?_;refine r_z 1 ?_;refine r_c 3 (vH 119 _ fs_Max1 l hl hln) ?_;refine a_z ?_;exact ai (c_e (aP _))
theorem wz{a b:Rat}(ha:sm a)(hb:sm b):smL [a,b]:=by
 intro q c;simp at c;rcases c with rfl|rfl
 exact ha;exact hb
theorem zq(a b c d:Rat)(ha:sm a)(hb:sm b)(hc:sm c)(hd:sm d):FS 171 [.agg (spC a b),.agg (spC c d)] (.agg (spC (Bd [a,c]) (nS [b,d]))):=by
 refine f_c Tryz.func171 ?_;refine r_z 3 ?_;refine ae (r_d aY 14 ?_);refine a_5 ?_;refine o_1 (.callS1 rfl rfl rfl (.shut rfl d_n (.nil)) rfl (GJ [a,c] (wz ha hc) (by simp))) ?_;refine a_5 ?_;refine o_1 (.callS1 rfl rfl rfl (.shut rfl d_n (.nil)) rfl (xn [b,d] (wz hb hd) (by simp))) ?_;refine a_2 ?_;refine ao (n_k ?_);exact ai (c_e (bG _ _))
theorem Bu(l:List Rat)(hl:smL l)(hln:l.length≤1099511627776):FS 273 [.arr (pE l)] (.agg (spC (Bd l) (nS l))):=by
 refine f_c Tryz.func273 ?_;refine r_z 1 ?_;refine r_c 6 (GJ l hl hln) ?_;refine c_s (xn l hl hln) ?_;refine a_z ?_;exact ai (c_e (bG _ _))
section
variable {P:Go.Program}{T:Nat}{x y:Operand}
theorem kD{l m:List UInt8}(h:l.length+m.length≤9223372036854775807):∀w,(do eqGuard .add T x y (.string ⟨l.toArray⟩) (.string ⟨m.toArray⟩);binOp .add T (.string ⟨l.toArray⟩) (.string ⟨m.toArray⟩):Sem Value).run P w= .ok (.string ⟨(l++m).toArray⟩) w:=fun w=>by
 have a:IntKind.i64.max=9223372036854775807:=by decide
 have e:(⟨l.toArray⟩:ByteArray)++⟨m.toArray⟩=⟨(l++m).toArray⟩:=by
  apply ByteArray.ext;simp
 have b:¬((((⟨l.toArray⟩:ByteArray).size+(⟨m.toArray⟩:ByteArray).size:Nat):Int)> IntKind.i64.max):=by
  rw[rJ,rJ,a];omega
 simp only[eqGuard,binOp,Op.stringOp,b,if_false,e,Sem.run_bind,Sem.run_pure,Result.andThen_ok];rfl
theorem mJ{l m:List UInt8}:∀w,(do eqGuard .eql T x y (.string ⟨l.toArray⟩) (.string ⟨m.toArray⟩);binOp .eql T (.string ⟨l.toArray⟩) (.string ⟨m.toArray⟩):Sem Value).run P w= .ok (.bool (decide (l=m))) w:=fun w=>by
 rw[Ag];congr 2
 have e:∀l:List UInt8,(⟨l.toArray⟩:ByteArray).toList=l:=by
  intro l;have:=ByteArray.toList_eq (bs:=⟨l.toArray⟩);simpa using this
 rw[e,e];rw[Bool.eq_iff_iff];simp
end
def ld(q:Rat):List UInt8:=((if q.num< 0 then [45] else [])++iW q.num.natAbs)++(if q.den=1 then [] else 47::iW q.den)
def okT(q:Rat):Prop:=q.num.natAbs< 100∧q.den< 100
instance (q:Rat):Decidable (okT q):=inferInstanceAs (Decidable (_∧_))
theorem okT_qs{q:Rat}(h:okT q):qs q≤1099511627776:=by
 obtain⟨h1,a⟩:=h;have e1:=gP (n:=q.num.natAbs) (k:=7) (by omega);have e2:=gP (n:=q.den) (k:=7) (by omega);unfold qs;omega
theorem textQ_len{q:Rat}:(ld q).length≤6∧1≤(ld q).length:=by
 have h1:=kr q.num.natAbs;have b:=kr q.den;have a:=List.length_pos_iff.2 (xT q.num.natAbs);unfold ld;split <;> split <;> simp <;> omega
def qtS(q:Rat):List UInt8→AState
 |l=>⟨[(1,.aptr [qC q] 0 0),(3,tx l)],[],2,24⟩
theorem tT(q:Rat)(h:okT q):FS 38 [.agg (qC q)] (tx (ld q)):=by
 have c:=kr q.num.natAbs;have d:=kr q.den;have b:1≤q.den:=q.den_pos;refine f_c Tryz.func38 ?_;refine r_z 2 ?_;refine AWp.ent (st':=⟨[(1,.aptr [qC q] 0 0)],[],2,24⟩) ?_ ?_;exact s_e [];refine r_c 5 (zi q.num.natAbs h.1) ?_;refine a_z ?_;refine bh (qtS q) (fun l=>l=(if q.num< 0 then [45] else [])++iW q.num.natAbs) ?_ ?_;refine r_z 3 ?_;refine ap rfl (fun h1=>?_) (fun h1=>?_);have a:q.num< 0:=by simpa using h1
 refine r_m 3 ?_;refine a_1 ?_;refine o_0 (.bin rfl rfl (kD (l:=[45]) (by simp;omega))) ?_;refine a_z ?_;refine⟨_,by rw[if_pos a],?_⟩;rw[qtS.eq_1];exact s_x [] (fun hs=>e_13) (fun hs=>e_14);have a:¬q.num< 0:=by simpa using h1
 refine am ⟨iW q.num.natAbs,by rw[if_neg a];rfl,?_⟩;rw[qtS.eq_1];exact s_x [] (fun hs=>e_13) (fun hs=>e_14);rintro l hl;have f:l.length≤3:=by rw[hl];split <;> simp <;> omega
 rw[qtS.eq_1];refine bh (qtS q) (fun l=>l=ld q) ?_ ?_;refine r_c 4 (lX (q.den- 1)) ?_;refine a_z ?_;refine ap rfl (fun h1=>?_) (fun h1=>?_)
 have a:¬q.den=1:=by
  intro e;rw[e] at h1;simp at h1
 refine r_m 7 ?_;refine c_s (eC q (okT_qs h)) ?_;refine c_s (zi q.den h.2) ?_;refine o_0 (.bin rfl rfl (kD (l:=[47]) (by simp;omega))) ?_;refine o_0 (.bin rfl rfl (kD (by simp;omega))) ?_;refine a_z ?_;refine⟨_,by unfold ld;rw[if_neg a,←hl],?_⟩;rw[qtS.eq_1];exact s_x [] (fun hs=>e_13) (fun hs=>e_14)
 have a:q.den=1:=by
  have g:q.den- 1=0:=by simpa using h1
  omega
 refine am ⟨l,by unfold ld;rw[if_pos a,←hl,List.append_nil],?_⟩;rw[qtS.eq_1];exact s_x [] (fun hs=>e_13) (fun hs=>e_14);rintro l rfl;rw[qtS.eq_1];refine r_z 2 ?_;exact ai (t_e (ag _))
end Go.Proofs.YtkhclghbcicapaaGreatDoor
namespace Go.Proofs.YtkhclghbcicapaaGreatDoor
open Go.Shelf


end Go.Proofs.YtkhclghbcicapaaGreatDoor
namespace Go.Proofs.YtkhclghbcicapaaGreatDoor
open Go.Abs Go.RowKit

end Go.Proofs.YtkhclghbcicapaaGreatDoor
namespace Go.Proofs.YtkhclghbcicapaaGreatDoor
open Go.Abs
set_option maxRecDepth 20000


def AJ:List Nat→AState
 |l=>⟨[(0,.arr (iE l))],[],1,15⟩
theorem iY(l:List Nat):AJ l=⟨[(0,.arr (iE l))],[],1,15⟩:=rfl
theorem iF(l:List Nat)(hl:l.length≤281474976710656):FS 185 [.arr (iE l)] (.arr (iE (fO l))):=by
 refine f_c Tryz.func185 ?_;refine r_z 1 ?_;refine bh AJ (fun m=>m=fO l) ?_ ?_;refine aj (aB AJ (fun m=>m.length) (fun m=>m.length≤281474976710656∧fO m=fO l) l ⟨hl,rfl⟩ ?_ ?_);simp only[iY];exact s_e [];rintro m ⟨e,b⟩;rw[iY];cases m with
 |nil=>
  refine ae (s_r 9 ?_);refine a_4 ?_;refine n_g rfl d_f ?_;refine n_g rfl d_f ?_;refine n_g rfl d_f ?_;refine n_g rfl d_f ?_;refine o_0 (.pickF rfl d_f rfl) ?_;refine ao ?_;refine cF ?_;refine ay ⟨[],by simpa[fO] using b,?_⟩;simp only[iY];exact s_e []
 |cons d m=>
  have c:(iE (d::m))[(0:Int).toNat]?=some [i64 d]:=rfl;refine ae (s_r 9 ?_);refine a_4 ?_;refine y_g rfl (by simp) (.move rfl) ?_;refine y_g rfl (by simp) (.index_a rfl rfl (by omega) c rfl te_47.h) ?_;refine y_g rfl (by simp) (.load_a1 rfl c TG.h rfl) ?_;refine y_g rfl (by simp) (.bin rfl rfl cv) ?_;refine o_0 (.pickT rfl (by simp) rfl) ?_;refine ao ?_;refine ap rfl (fun h=>?_) (fun h=>?_);have a:d=0:=by simpa using h
  refine am ?_;subst a;refine aj (r_m 3 ?_);refine a_1 ?_;refine o_0 (.sa_l rfl rfl rfl (by simp) te_47.h (kY _)) ?_;refine a_z ?_;refine⟨m,by simp,⟨by simp at e;omega,by simpa[fO] using b⟩,?_⟩;simp only[iY];exact s_e [];have a:d≠0:=by simpa using h
  refine ay ⟨d::m,by rw[←b];simp[fO,a],?_⟩;simp only[iY];exact s_e []
 rintro m rfl;rw[iY];refine r_z 2 ?_;exact ai (t_e (eF _))
theorem jI(s:Int)(l:List Nat)(z:Int)(hl:l.length≤281474976710656)(hd:∀d∈l,d< UB)(hz:hv l=z.natAbs)(hs:z≠0→s=sgZ z):FS 152 [i64 s,.arr (iE l)] (.agg (zZ z)):=by
 refine f_c Tryz.func152 ?_;refine r_z 1 ?_;refine r_c 3 (iF l hl) ?_;refine a_z ?_;refine ae (r_z 3 ?_);refine ap rfl (fun h=>?_) (fun h=>?_)
 have b:fO l=[]:=by
  have:(fO l).length=0:=by simpa using h
  exact List.length_eq_zero_iff.1 this
 have a:z=0:=by have:=(sN hd).1 b;omega
 subst a;refine r_z 2 ?_;refine ai (Fin.cell rfl rfl rfl TG.h TS.h (nle rfl) ?_);rw[zZ_zero];exact Cv.agg (ah (ak aD (ag _)) (ah (Cv.emp _) av));have b:fO l≠[]:=fun e=>by rw[e] at h;simp at h
 have a:z≠0:=by
  intro e;subst e;exact b ((sN hd).2 hz)
 refine am (r_z 4 ?_);refine ai (dl rfl rfl rfl TG.h TS.h (nle rfl) ?_ ?_);show AV.agg [i64 s,.arr (iE (fO l))]=_;unfold zZ;rw[hs a,fz hd,hz];exact cJ _
theorem zZ_neg(z:Int):zZ (-z)=[i64 (-sgZ z),.arr (iE (zd z.natAbs))]:=by
 unfold zZ;rw[Int.natAbs_neg];congr 2;unfold sgZ;split <;> split <;>(try split)<;>(try split)<;> omega
theorem cY(z:Int):sgZ z= -1∧z< 0∨sgZ z=0∧z=0∨sgZ z=1∧0< z:=by
 unfold sgZ;split;right;left;exact⟨rfl,by assumption⟩;split;left;exact⟨rfl,by assumption⟩;right;right;exact⟨rfl,by omega⟩
theorem xm(z:Int):FS 149 [.agg (zZ z)] (.agg (zZ (-z))):=by
 have hs:=cY z;have hc:=cJ (-z);rw[zZ_neg] at hc⊢;refine f_c Tryz.func149 ?_;refine r_z 2 ?_;refine r_z 7 ?_;exact ai (c_e (hc))
theorem tP(l:List Nat)(i:Nat)(hl:l.length≤281474976710656):FS 254 [.arr (iE l),i64 i] (i64 (l.reverse[i]?.getD 0:Nat)):=by
 refine f_c Tryz.func254 ?_;refine r_z 1 ?_;refine ae (r_z 4 ?_);refine ap rfl (fun h=>?_) (fun h=>?_);have b:l.length≤i:=by simpa using h
 refine r_z 1 ?_;refine ai (aU rfl ?_ (ag _));rw[List.getElem?_eq_none (by simpa using b)];rfl;have b:i< l.length:=by simp at h;omega
 refine am ?_;obtain⟨d,c⟩:∃d,l[l.length- 1- i]?=some d:=⟨_,List.getElem?_eq_getElem (by omega)⟩;have a:(iE l)[((l.length:Int)- 1- i).toNat]?=some [i64 d]:=by rw[show((l.length:Int)- 1- i).toNat=l.length- 1- i by omega];exact jS c
 refine s_r 9 ?_;refine a_6 ?_;refine i_x a ?_;refine l_1 a ?_;refine a_z ?_;refine ai (aU rfl ?_ (ag _));rw[List.getElem?_reverse b,c];rfl
theorem BC(a b:List Nat):FS 255 [.arr (iE a),.arr (iE b)] (i64 (max a.length b.length:Nat)):=by
 refine f_c Tryz.func255 ?_;refine r_z 1 ?_;refine ae (r_z 5 ?_);refine ap rfl (fun h=>?_) (fun h=>?_);refine r_z 3 ?_;refine ai (aU rfl ?_ (ag _));have:b.length< a.length:=by simpa using h
 simp[i64];omega;refine am (r_z 3 ?_);refine ai (aU rfl ?_ (ag _));have:¬b.length< a.length:=by simpa using h
 simp[i64];omega
end Go.Proofs.YtkhclghbcicapaaGreatDoor
