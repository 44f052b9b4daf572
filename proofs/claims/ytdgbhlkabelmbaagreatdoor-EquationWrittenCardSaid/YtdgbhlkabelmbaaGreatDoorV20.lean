/- Part V20 of the proof. -/
import Derived.Test.YtdgbhlkabelmbaaGreatDoorV19
import Derived.Lib.UnsafeStr
import Derived.Lib.Builder
import Derived.Shelf.RegionOpenPlain
import Derived.Lib.Strings
import Derived.Lib.Slices
import Derived.Lib.Walk
set_option linter.all false
namespace Go.Proofs.YtdgbhlkabelmbaaGreatDoor
open Go.Abs
set_option maxRecDepth 20000
theorem Fu(n:Nat):((aw MB n).length==0)=(n==0):=by
 rw[Bool.eq_iff_iff];simp only[beq_iff_eq,List.length_eq_zero_iff];exact iQ (by decide)
theorem mf(n:Nat):FS 72 [.agg [mag n]] (bln (n==0)):=by
 rw[←Fu];exact DX _
theorem eG(b:Bool)(m:Nat):FS 77 [bln b,.agg [mag m]] (.agg (zI (sgn b m))):=by
 have e:AV.agg (zI (sgn b m))= .agg [mag m,bln (b && !(m==0))]:=by unfold zI;rw[fl,sgn_neg]
 rw[e];refine f_c Tryz.func77 ?_;cases b with
 |true=>
  refine r_z 2 ?_;refine ae (r_d a6 9 ?_);refine a_3 ?_
  first|refine y_g rfl d_t (.load_l rfl rfl rfl TG.h TS.h (nle rfl)) ?_|refine y_g rfl d_t (.load_a rfl rfl TG.h TS.h (nle rfl)) ?_
  refine y_g rfl d_t (.call rfl rfl rfl (mf m)) ?_;refine y_g rfl d_t (.un rfl lM) ?_;refine o_0 (.pickT rfl d_t rfl) ?_;refine a_2 ?_;refine ao (n_k ?_);exact ai (c_e (aC (ac (b6 m) (ac (ag _) af))))
 |false=>
  refine r_z 2 ?_;refine ae (r_d a6 9 ?_);refine a_3 ?_;refine n_g rfl d_f ?_;refine n_g rfl d_f ?_;refine n_g rfl d_f ?_;refine o_0 (.pickF rfl d_f rfl) ?_;refine a_2 ?_;refine ao (n_k ?_);exact ai (c_e (aC (ac (b6 m) (ac (ag _) af))))
theorem Hw(z:Int):FS 103 [.agg (zI z)] (i64 (sgZ z)):=by
 refine f_c Tryz.func103 ?_;refine r_z 2 ?_;refine bi (fun _:Unit=>⟨[],[],1,10⟩) (fun _=>0< z) ?_ ?_;refine aj (r_c 4 (mf z.natAbs) ?_);refine a_z ?_;refine ap rfl (fun h=>?_) (fun h=>?_);refine r_z 1 ?_;refine ai (aW rfl ?_ (ag _));have:z=0:=by simpa using h
 simp[i64,sgZ,this,ofV];have a:z≠0:=by simpa using h
 refine r_z 3 ?_;refine ap rfl (fun h1=>?_) (fun h1=>?_);refine r_z 1 ?_;refine ai (aW rfl ?_ (ag _));have:z< 0:=by simpa using h1
 simp[i64,sgZ,this,a,ofV];have:¬z< 0:=by simpa using h1
 refine ak ⟨(),by omega,?_⟩;exact s_e [];rintro _ h1;refine r_z 1 ?_;refine ai (aW rfl ?_ (ag _));simp only[i64,sgZ];rw[if_neg (by omega),if_neg (by omega)];rfl
theorem cw(q:Rat):FS 52 [.agg (qC q)] (i64 (sgZ q.num)):=by
 refine f_c Tryz.func52 ?_;refine r_z 2 ?_;refine r_c 4 (Hw q.num) ?_;refine a_z ?_;exact ai (t_e (ag _))
theorem sgn_mul(a b:Bool)(m n:Nat):sgn a m* sgn b n=sgn (a !=b) (m* n):=by
 cases a <;> cases b <;> simp[sgn,Int.neg_mul,Int.mul_neg]
theorem w9(a:Bool)(m n:Nat):sgn a m+sgn a n=sgn a (m+n):=by
 cases a <;> simp[sgn]<;> omega
theorem Bv{a b:Bool}(h:a≠b){m n:Nat}(hl:m≤n):sgn a m+sgn b n=sgn b (n- m):=by
 cases a <;> cases b <;> simp[sgn] at h⊢ <;> omega
theorem Bw{a b:Bool}(h:a≠b){m n:Nat}(hl:n≤m):sgn a m+sgn b n=sgn a (m- n):=by
 cases a <;> cases b <;> simp[sgn] at h⊢ <;> omega
theorem xO(x y:Int)(h:bl x.natAbs+bl y.natAbs≤17592186044416):FS 75 [.agg (zI x),.agg (zI y)] (.agg (zI (x* y))):=by
 have e:x* y=sgn (decide (x< 0) !=decide (y< 0)) (x.natAbs* y.natAbs):=by
  rw[←sgn_mul,oT,oT]
 rw[e];refine f_c Tryz.func75 ?_;refine r_z 3 ?_;refine ae (r_d a6 12 ?_);refine c_s (ga x.natAbs y.natAbs h) ?_;refine c_s (eG (decide (x< 0) !=decide (y< 0)) (x.natAbs* y.natAbs)) ?_;refine a_1 ?_;refine ao (n_k ?_);exact ai (c_e (iD _))
theorem fs_iadd(x y:Int)(h:bl x.natAbs+bl y.natAbs≤17592186044416):FS 111 [.agg (zI x),.agg (zI y)] (.agg (zI (x+y))):=by
 obtain⟨a,ha⟩:∃a,a=decide (x< 0):=⟨_,rfl⟩;obtain⟨b,hb⟩:∃b,b=decide (y< 0):=⟨_,rfl⟩;have g:x=sgn a x.natAbs:=by rw[ha,oT]
 have j:y=sgn b y.natAbs:=by rw[hb,oT]
 refine f_c Tryz.func111 ?_;refine r_z 3 ?_;refine bi (fun _:Unit=>⟨[(2,.lptr 1 0 0),(3,.lptr 2 0 0),(4,.lptr 3 0 0)],[(1,some ⟨34,2,[zI x]⟩),(2,some ⟨34,2,[zI y]⟩),(3,some ⟨34,2,[[.emp,bln false]]⟩)],4,42⟩) (fun _=>a≠b∧y.natAbs≤x.natAbs) ?_ ?_;refine aj (r_z 6 ?_);refine ap rfl (fun h1=>?_) (fun h1=>?_);have c:a=b:=by rw[ha,hb];simpa using h1
 have e:x+y=sgn (decide (x< 0)) (x.natAbs+y.natAbs):=by
  conv=>lhs;rw[g,j,←c]
  rw[w9,ha]
 rw[e];refine ae (r_d a6 9 ?_);refine c_s (xL x.natAbs y.natAbs h) ?_;refine c_s (eG (decide (x< 0)) (x.natAbs+y.natAbs)) ?_;refine a_1 ?_;refine ao (n_k ?_);exact ai (c_e (iD _));have c:a≠b:=by rw[ha,hb];simpa using h1
 refine r_c 7 (nU x.natAbs y.natAbs h) ?_;refine a_z ?_;refine ap rfl (fun i=>?_) (fun i=>?_)
 have f:x.natAbs< y.natAbs:=by
  have:=of_decide_eq_true i;unfold eu at this;split at this;omega;split at this <;> omega
 have e:x+y=sgn (decide (y< 0)) (y.natAbs- x.natAbs):=by
  conv=>lhs;rw[g,j]
  rw[Bv c (Nat.le_of_lt f),hb]
 rw[e];refine ae (r_d a6 9 ?_);refine c_s (xN y.natAbs x.natAbs (by omega) (Nat.le_of_lt f)) ?_;refine c_s (eG (decide (y< 0)) (y.natAbs- x.natAbs)) ?_;refine a_1 ?_;refine ao (n_k ?_);exact ai (c_e (iD _))
 have d:y.natAbs≤x.natAbs:=by
  have:=of_decide_eq_false i;unfold eu at this;split at this;omega;split at this <;> omega
 refine ak ⟨(),⟨c,d⟩,?_⟩;exact s_e [];rintro _ ⟨c,d⟩
 have e:x+y=sgn (decide (x< 0)) (x.natAbs- y.natAbs):=by
  conv=>lhs;rw[g,j]
  rw[Bw c d,ha]
 rw[e];refine ae (r_d a6 9 ?_);refine c_s (xN x.natAbs y.natAbs (by omega) d) ?_;refine c_s (eG (decide (x< 0)) (x.natAbs- y.natAbs)) ?_;refine a_1 ?_;refine ao (n_k ?_);exact ai (c_e (iD _))
theorem zY(n:Int)(h: -9223372036854775808≤n∧n≤9223372036854775807):FS 31 [i64 n] (.agg (zI n)):=by
 refine f_c Tryz.func31 ?_;refine r_z 1 ?_;refine ae (r_z 2 ?_);refine ap rfl (fun h1=>?_) (fun h1=>?_);have b:n< 0:=of_decide_eq_true h1;have e:n=sgn true n.natAbs:=by simp[sgn];omega
 have a:18446744073709551616- (n+18446744073709551616)=((n.natAbs:Nat):Int):=by omega
 have hs:FS 78 [.v (.int .u64 (18446744073709551616- (n+18446744073709551616)))] (.agg [mag n.natAbs]):=by rw[a];exact gd _ (by omega)
 refine s_r 6 ?_;refine a_1 ?_;refine o_0 (.conv rfl (cU64n (by omega) tu_2.h tu_155.h)) ?_;refine o_0 (.un rfl (FP (by omega))) ?_;refine c_s (hs) ?_;refine c_s (eG true n.natAbs) ?_;refine a_z ?_;refine ai (dA rfl rfl rfl TG.h TS.h (nle rfl) ?_ ?_);show _=AV.agg (zI n)
 conv=>rhs;rw[e]
 rfl;exact iD _;refine ak ?_;have b:0≤n:=by have:=of_decide_eq_false h1;omega
 have e:n=sgn false n.natAbs:=by simp[sgn];omega
 have a:n=((n.natAbs:Nat):Int):=by omega
 have hs:FS 78 [.v (.int .u64 n)] (.agg [mag n.natAbs]):=by
  have:=gd n.natAbs (by omega);rwa[u64,←a] at this
 refine s_r 5 ?_;refine a_1 ?_;refine o_0 (.conv rfl (cU64 (by omega) tu_2.h tu_155.h)) ?_;refine c_s (hs) ?_;refine c_s (eG false n.natAbs) ?_;refine a_z ?_;refine ai (dA rfl rfl rfl TG.h TS.h (nle rfl) ?_ ?_);show _=AV.agg (zI n)
 conv=>rhs;rw[e]
 rfl;exact iD _
theorem GZ:mag 0= .arr []:=by unfold mag;rw[ct];rfl
theorem pz(n:Int):FS 30 [.agg (zI n)] (.agg (qC n)):=by
 have e:qC (n:Rat)=[mag n.natAbs,bln (decide (n< 0)),mag 0]:=rfl;rw[e];refine f_c Tryz.func30 ?_;refine r_z 2 ?_;refine r_z 3 ?_;refine ai (Fin.cell rfl rfl rfl TG.h TS.h (nle rfl) (Cv.agg (ah (am aD (b6 _)) (ah (am aD (ag _)) (ah (Cv.emp _ GZ) av)))))
theorem du(n:Int)(h: -9223372036854775808≤n∧n≤9223372036854775807):FS 9 [i64 n] (.agg (qC n)):=by
 refine f_c Tryz.func9 ?_;refine r_z 1 ?_;refine r_c 4 (zY n h) ?_;refine c_s (pz n) ?_;refine a_z ?_;exact ai (c_e (aT _))
theorem eH(q:Rat)(h:qs q≤1099511627776):FS 73 [.agg (qC q)] (.agg [mag q.den]):=by
 have hp:=q.den_pos;have b:=dM q;have e:q.den=q.den- 1+1:=by omega
 have a:=dJ (show q.den- 1≤q.den by omega);have h1:bl 1=1:=jS;refine f_c Tryz.func73 ?_;refine r_z 2 ?_;refine ae (r_d a6 5 ?_);refine c_s (gd 1 (by decide)) ?_;refine c_s (xL (q.den- 1) 1 (by omega)) ?_;refine a_1 ?_;refine ao (n_k ?_);refine ai (dA rfl rfl rfl TG.h TS.h (nle rfl) ?_ ?_);show AV.agg [mag (q.den- 1+1)]=_;rw[←e];exact closed_mA _
theorem pC(n:Int)(d:Nat)(hd:0< d)(h:bl n.natAbs+bl d≤2199023255552):FS 74 [.agg (zI n),.agg [mag d]] (.agg (qC (mkRat n d))):=by
 obtain⟨g,hg⟩:∃g,g=Nat.gcd n.natAbs d:=⟨_,rfl⟩;have a:0< g:=by rw[hg];exact Nat.gcd_pos_of_pos_right _ hd
 have c:g≤d:=by rw[hg];exact Nat.gcd_le_right _ hd
 have k:=dJ c;have j:=eM n.natAbs g;have i:=eM d g;have e:0< d/ g:=Nat.div_pos c a
 have b:AV.agg (qC (mkRat n d))= .agg (zI (sgn (decide (n< 0)) (n.natAbs/ g))++[mag (d/ g- 1)]):=by
  unfold qC;rw[jl hd,(kG hd).2,←hg];rfl
 rw[b];have hc:=E9 n.natAbs d (by omega);rw[←hg] at hc;refine f_c Tryz.func74 ?_;refine r_z 3 ?_;refine ae (r_c 6 (hc) ?_);refine a_z ?_;refine r_c 3 (fs_one g) ?_;refine a_z ?_;refine aG (fun _:Unit=>⟨[(2,.lptr 1 0 0),(3,.lptr 2 0 0),(4,.lptr 3 0 0)],[(1,some ⟨34,2,[[mag (n.natAbs/ g),bln (decide (n< 0))]]⟩),(2,some ⟨32,1,[[mag (d/ g)]]⟩),(3,some ⟨36,3,[[.emp,bln false,.emp]]⟩)],4,36⟩) (fun _=>True) ?_ ?_;refine ap rfl (fun h1=>?_) (fun h1=>?_);refine r_c 9 (sH n.natAbs g (by omega) a) ?_;refine a_z ?_;refine r_m 7 ?_;refine c_s (sH d g (by omega) a) ?_;refine a_z ?_;refine⟨(),trivial,?_⟩;exact s_e [];have f:g=1:=by simpa using h1
 subst f;refine ak ⟨(),trivial,?_⟩;rw[Nat.div_one,Nat.div_one];exact s_e [];rintro _ _;refine ae (r_d a6 10 ?_);refine c_s (eG (decide (n< 0)) (n.natAbs/ g)) ?_;refine c_s (gd 1 (by decide)) ?_;refine c_s (xN (d/ g) 1 (by omega) e) ?_;refine a_2 ?_;refine ao (n_k ?_);exact ai (c_e (aC (ac (b6 _) (ac (ag _) (ac (b6 _) af)))))
end Go.Proofs.YtdgbhlkabelmbaaGreatDoor
namespace Go.Proofs.YtdgbhlkabelmbaaGreatDoor
open Go.Abs Go.RowKit
set_option maxRecDepth 20000
theorem Bi:Tryz.prog.underlying 140=some (.pointer 143):=by kernel_rfl
theorem vw:Tryz.prog.underlying 218=some .unsafePointer:=by kernel_rfl
theorem Db:(Tryz.prog.info? 143).map (·.size)=some 2:=by kernel_rfl
set_option maxHeartbeats 1000000 in
theorem cs_used(b:Nat)(w:World)(h0:w.cell? ⟨b,0,none⟩=some (.pointer (some ⟨b,0,none⟩))):
    Calls Tryz.prog 117 #[.pointer (some ⟨b,0,none⟩)] w fun e w'=>e= .returned (.tuple #[])∧w'=w:=by
 obtain⟨j,a,_⟩:=Option.map_eq_some_iff.1 Db
 go_enter Tryz.func117,Tryz.ntmps117
 go_wp2
 rw[Lib.run_neq_ptr_same w _ Bi a]
 go_wp2
 go_end0
 exact⟨rfl,rfl⟩
theorem xH{n:Nat}(hn:2≤n):liesAt Tryz.prog Tryz.prog.depth 143 (n/ Tryz.prog.cellsOf 143) 0 143 1=true:=by
 have hc:Tryz.prog.cellsOf 143=2:=by kernel_rfl
 rw[hc];have a:Tryz.prog.depth=(2* (Tryz.prog.types.size+Made.depth)+1)+1:=rfl;rw[a];simp only[liesAt,Bool.or_eq_true];left;rw[a];have:1≤n/ 2:=by omega
 simp[rowAt,sameLayout,this,hc]
set_option maxHeartbeats 1000000 in
theorem H9(b:Nat)(w:World)(cs:Array Value)(hh:w.heap[b]?=some (.cells cs 143 (0,0)))(hsz:2≤cs.size)(hc:cs[0]?=some (.pointer none)):
    Calls Tryz.prog 117 #[.pointer (some ⟨b,0,none⟩)] w fun e w'=>e= .returned (.tuple #[])∧w'=w.setCell ⟨b,0,none⟩ (.pointer (some ⟨b,0,none⟩)):=by
 obtain⟨j,d,c⟩:=Option.map_eq_some_iff.1 Db;have g:w.cell? ⟨b,0,none⟩=some (.pointer none):=by simp[World.cell?,hh,hc]
 have a:w.shape? b=some (143,cs.size):=by simp[World.shape?,hh]
 have f:w.frozen? ⟨b,0,none⟩=false:=by simp[World.frozen?,hh]
 go_enter Tryz.func117,Tryz.ntmps117
 go_wp2
 rw[Lib.run_to_unsafe w ⟨b,0,none⟩ Bi vw d (by rw[c];decide) a (by show 0< cs.size;omega)];simp only[Result.andThen];rw[Oper.upon_value]
 go_wp2
 rw[run_callFunc_extern Tryz.func159 (by kernel_rfl) (by kernel_rfl) (by kernel_rfl) (e:=Extern.AbiNoEscape.same) (by kernel_rfl)];rw[Lib.run_noEscape];simp only[Result.andThen];rw[Oper.upon_value]
 go_wp2
 rw[Lib.run_from_unsafe w ⟨b,0,none⟩ vw Bi d a (xH hsz)];simp only[Result.andThen];rw[Oper.upon_value]
 go_wp2
 go_end0
 exact⟨rfl,rfl⟩
theorem wx{P:Go.Program}{f:Nat}{fn:Func}{c:Code}(hf:P.funcs[f]?=some fn)(hb:fn.body=some c)(hname:(fn.name== "runtime.NumGoroutine")=false)(xs:Array Value)(w:World):(callFunc f xs).run P w= .ok (.enter f xs) w:=by
 have hname':¬fn.name= "runtime.NumGoroutine" :=by simpa using hname
 simp[callFunc,hf,hname',hb]
theorem pZ:CSpec Tryz.prog 117 143:=
 ⟨fun xs w=>wx Tryz.func117 rfl (by kernel_rfl) xs w,fun b w a=>cs_used b w a,fun b w cs d c a=>H9 b w cs d c a⟩
theorem zg(a b:Value):Pure (.tup [.v a,.v b]):=by
 rintro M j β l w k y ⟨xs,rfl,h,f,e,h1,⟨d,c,e2,g,i⟩⟩;exact⟨xs,rfl,h,f,e,h1,d,c,e2,g,i⟩
theorem mI:Tryz.prog.underlying 9=some .string:=by kernel_rfl
theorem bE_len(q:List UInt8):qF (.arr (bE q))=some q.length:=by simp[qF,dm]
theorem r8(t:List UInt8):(⟨t.toArray⟩:ByteArray).size=t.length:=by simp[ByteArray.size]
theorem kU(t:List UInt8)(h0:t≠[])(hl:t.length≤1099511627776):BSpec Tryz.prog 68 143 5 none t [tx t] (.tup [i64 t.length,.v .nilIface]):=by
 refine BSpec.intro Tryz.func68 rfl (by kernel_rfl) (ac (ag _) af) (zg _ _) (nle rfl) ?_;show AWp _ _ _ _ ⟨[(0,.lptr 0 0 0),(1,tx t)],[(0,some ⟨143,2,[eo 0 1 none]⟩)],2,19⟩;refine r_z 2 ?_;refine s_r 2 ?_;refine a_1 ?_;refine o_1 (.callC rfl rfl rfl rfl rfl (by first|exact .inl rfl|exact .inr rfl) (pZ)) ?_;refine ao ?_;refine s_r 10 ?_;refine a_6 ?_;refine o_1 (.appS_e rfl rfl rfl te_141.h mI rfl rfl h0 TZ.h rfl TB.h (by omega)) ?_;refine a_z ?_;refine s_r 4 ?_;refine o_0 (.move rfl) ?_;refine o_0 (.builtinV (vs:=[_]) rfl rfl (fun _ _ _=>rfl)) ?_;refine o_0 (.assign rfl) ?_;refine o_0 (.assign rfl) ?_;refine ao ?_;refine ai ⟨.inr rfl,?_,12,by decide,rfl,rfl⟩;refine⟨[_,_],⟨_,_,rfl,rfl,⟨_,_,rfl,rfl,rfl⟩⟩,Cv.tup ?_⟩;refine ah (Cv.loE aD ?_ (ag _)) (ah (am aD (ag _)) av);rw[r8];rfl
theorem jr(q t:List UInt8)(hl:q.length+t.length≤1099511627776):BSpec Tryz.prog 68 143 5 (some q) (q++t) [tx t] (.tup [i64 t.length,.v .nilIface]):=by
 refine BSpec.intro Tryz.func68 rfl (by kernel_rfl) (ac (ag _) af) (zg _ _) (nle rfl) ?_;show AWp _ _ _ _ ⟨[(0,.lptr 0 0 0),(1,tx t)],[(0,some ⟨143,2,[eo 0 1 (some q)]⟩),(1,some ⟨5,1,bE q⟩)],2,19⟩;refine r_z 2 ?_;refine s_r 2 ?_;refine a_1 ?_;refine o_1 (.callC rfl rfl rfl rfl rfl (by first|exact .inl rfl|exact .inr rfl) (pZ)) ?_;refine ao ?_;refine s_r 10 ?_;refine a_6 ?_;refine o_2 (.appS_l rfl rfl rfl te_141.h mI rfl rfl rfl rfl TZ.h rfl TB.h (by omega)) ?_;refine a_z ?_;refine s_r 4 ?_;refine o_0 (.move rfl) ?_;refine o_0 (.builtinV (vs:=[_]) rfl rfl (fun _ _ _=>rfl)) ?_;refine o_0 (.assign rfl) ?_;refine o_0 (.assign rfl) ?_;refine ao ?_;refine ai ⟨.inr rfl,?_,12,by decide,rfl,rfl⟩;refine⟨[_,_],⟨_,_,rfl,rfl,⟨_,_,rfl,rfl,rfl⟩⟩,Cv.tup ?_⟩;refine ah (Cv.loE aD ?_ (ag _)) (ah (am aD (ag _)) av);rw[r8];rfl
theorem sO:FS 67 [.aptr [Fx none] 0 0] (i64 0):=by
 have hc:Closed (.aptr [Fx none] 0 0):=ba (ac (ag _) (ac c5 af));refine f_c Tryz.func67 ?_;refine r_z 1 ?_;refine r_z 6 ?_;exact ai (t_e (ag _))
theorem sN(q:List UInt8):FS 67 [.aptr [Fx (some q)] 0 0] (i64 q.length):=by
 have hc:Closed (.aptr [Fx (some q)] 0 0):=ba (ac (lo_any 0).closed (ac (aH (wF q)) af));refine f_c Tryz.func67 ?_;refine r_z 1 ?_;refine s_r 6 ?_;refine a_4 ?_;refine o_0 (.len rfl rfl rfl rfl (bE_len q) te_141.h) ?_;refine a_z ?_;exact ai (t_e (ag _))
theorem ub_byte:Tryz.prog.underlying 184=some (.pointer 5):=by kernel_rfl
theorem FO:Tryz.prog.cellsOf 5=1:=by kernel_rfl
theorem CW(w:World)(g n:Nat):But g w (w.drew.freeze ⟨g,0,none⟩ n):=by
 have b:∀x,x≠g→(w.drew.freeze ⟨g,0,none⟩ n).heap[x]?=w.heap[x]?:=by
  intro x a;unfold World.freeze;split;rfl;show(w.heap.modify g _)[x]?=_;rw[Array.getElem?_modify,if_neg (Ne.symm a)]
 have c:(w.drew.freeze ⟨g,0,none⟩ n).heap.size=w.heap.size:=by
  unfold World.freeze;split;rfl;show(w.heap.modify g _).size=_;simp
 refine⟨?_,?_,?_,by omega,fun x _ a=>b x a,fun x N a=>?_⟩;unfold World.freeze;split <;> rfl;unfold World.freeze;split <;> rfl;unfold World.freeze;split <;> rfl;by_cases hxg:x=g;subst hxg;unfold World.freeze;split;exact a;unfold aR at a⊢;show(match (w.heap.modify x _)[x]? with|some (.cells cs _ _)=>some cs.size|some (.map _ _)=>some 0|_=>none)=some N;rw[Array.getElem?_modify,if_pos rfl];cases ho:w.heap[x]? with
 |none=>rw[ho] at a;cases a
 |some o=>
  rw[ho] at a;cases o <;> simp_all
 unfold aR at a⊢;rw[b x hxg];exact a
set_option maxHeartbeats 2000000 in
theorem ds_run (b bj cap:Nat) (q:List UInt8) (w:World) (cs ck:Array Value) (h0:q≠[]) (hb:w.heap[b]?=some (.cells cs 143 (0,0))) (hc1:cs[1]?=some (.slice (some ⟨bj,0,none⟩) q.length cap)) (hl:q.length≤cap) (hm:cap≤maxLen) (hne:b≠bj) (hj:w.heap[bj]?=some (.cells ck 5 (0,0))) (hck:cap≤ck.size)
    (hq:∀(k:Nat) (x:UInt8),q[k]?=some x→ck[k]?=some (Value.int .u8 x.toNat)):Calls Tryz.prog 70 #[.pointer (some ⟨b,0,none⟩)] w fun e w'=>e= .returned (.string ⟨q.toArray⟩)∧But bj w w':=by
 have h:q.length≠0:=by simpa using h0
 have c1:w.drew.cell? ⟨b,1,none⟩=some (.slice (some ⟨bj,0,none⟩) q.length cap):=by
  have:w.drew.heap[b]?=some (.cells cs 143 (0,0)):=hb;simp[World.cell?,this,hc1]
 have f:(Builtin.unsafeSliceData_ #[141] 184 #[.slice (some ⟨bj,0,none⟩) q.length cap]).run Tryz.prog w.drew= .ok (.pointer (some ⟨bj,0,none⟩)) w.drew:=
  Lib.run_unsafeSliceData_row _ _ _ _ _ _ (by omega)
 have g:(Builtin.unsafeString_ #[184,3] 9 #[.pointer (some ⟨bj,0,none⟩),.int .i64 q.length]).run Tryz.prog w.drew= .ok (.string ⟨q.toArray⟩) (w.drew.freeze ⟨bj,0,none⟩ q.length):=by
  refine Lib.run_unsafeString_row w.drew 184 3 9 5 ub_byte FO bj ck.size (by have a:w.drew.heap[bj]?=some (.cells ck 5 (0,0)):=hj;simp[World.shape?,a]) q h0 (by omega) (by unfold maxLen at hm;omega) ?_;intro j x d;have a:w.drew.heap[bj]?=some (.cells ck 5 (0,0)):=hj;rw[show(⟨bj,0,none⟩:Addr).add j=⟨bj,0+j,none⟩ from jU bj 0 j];simp[World.cell?,a,hq j x d]
 have c:=a6
 go_enter Tryz.func70,Tryz.ntmps70
 go_wp2
 go_region_o
 all_goals (go_wp2;go_ret;exact⟨rfl,CW w bj q.length⟩)
theorem wy:DSpec Tryz.prog 70 143 5:=
 ⟨fun xs w=>wx Tryz.func70 rfl (by kernel_rfl) xs w,fun b f c q w cs l j hb a i g d k e h=>ds_run b f c q w cs l j hb a i g d k e h⟩
end Go.Proofs.YtdgbhlkabelmbaaGreatDoor
namespace Go.Proofs.YtdgbhlkabelmbaaGreatDoor
open Go.Abs
set_option maxRecDepth 20000
theorem cJ(a b:Rat)(h:qs a+qs b≤549755813888):FS 29 [.agg (qC a),.agg (qC b)] (.agg (qC (a* b))):=by
 have hp:=qD a b;have h1:=dW a;have c:=dM a;have e:=dW b;have d:=dM b;rw[mS];refine f_c Tryz.func29 ?_;refine r_z 3 ?_;refine ae (r_d a6 12 ?_);refine c_s (xO a.num b.num (by omega)) ?_;refine c_s (eH a (by omega)) ?_;refine c_s (eH b (by omega)) ?_;refine c_s (ga a.den b.den (by omega)) ?_;refine c_s (pC (a.num* b.num) (a.den* b.den) (mA a b) (by omega)) ?_;refine a_1 ?_;refine ao (n_k ?_);exact ai (c_e (aT _))
theorem Bd(n:Nat):zI (n:Int)=[mag n,bln false]:=by
 unfold zI;rw[Int.natAbs_natCast];rfl
theorem z7(x:Int)(n:Nat)(h:bl x.natAbs+bl n≤17592186044416):FS 75 [.agg (zI x),.agg [mag n,bln false]] (.agg (zI (x* n))):=by
 have:=xO x n (by simpa using h);rwa[Bd] at this
theorem fh(a b:Rat)(h:qs a+qs b≤549755813888):FS 59 [.agg (qC a),.agg (qC b)] (.agg (qC (a+b))):=by
 have hp:=wL a b;have h1:=dW a;have c:=dM a;have e:=dW b;have d:=dM b;have e1:=eY (x:=a.num) (y:=b.den) h1 (by simpa using d);have e2:=eY (x:=b.num) (y:=a.den) e (by simpa using c);rw[wM];refine f_c Tryz.func59 ?_;refine r_z 3 ?_;refine ae (r_d a6 8 ?_);refine c_s (eH a (by omega)) ?_;refine c_s (eH b (by omega)) ?_;refine a_4 ?_;refine ao (n_k ?_);refine ae (r_d a6 16 ?_);refine c_s (z7 a.num b.den (by omega)) ?_;refine c_s (z7 b.num a.den (by omega)) ?_;refine c_s (fs_iadd (a.num* b.den) (b.num* a.den) (by omega)) ?_;refine c_s (ga a.den b.den (by omega)) ?_;refine c_s (pC (a.num* b.den+b.num* a.den) (a.den* b.den) (mA a b) (by omega)) ?_;refine a_1 ?_;refine ao (n_k ?_);exact ai (c_e (aT _))
theorem EN(a:Rat):qC (-a)=zI (sgn (!decide (a.num< 0)) a.num.natAbs)++[mag (a.den- 1)]:=by
 unfold qC;rw[Rat.neg_num,Rat.neg_den]
 have e: -a.num=sgn (!decide (a.num< 0)) a.num.natAbs:=by
  unfold sgn;by_cases h:a.num< 0;simp[h];omega;simp[h];omega
 rw[e];rfl
theorem kq(a:Rat):FS 106 [.agg (qC a)] (.agg (qC (-a))):=by
 have hc:=aT (-a);rw[EN] at hc⊢;refine f_c Tryz.func106 ?_;refine r_z 2 ?_;refine ae (r_d a6 12 ?_);refine c_s (eG (!decide (a.num< 0)) a.num.natAbs) ?_;refine a_4 ?_;refine ao (n_k ?_);exact ai (c_e (hc))
theorem jL(a b:Rat)(h:qs a+qs b≤549755813888):FS 62 [.agg (qC a),.agg (qC b)] (.agg (qC (a- b))):=by
 have hs:=fh a (-b) (by rw[iW];exact h);rw[←Rat.sub_eq_add_neg] at hs;refine f_c Tryz.func62 ?_;refine r_z 3 ?_;refine ae (r_d a6 5 ?_);refine c_s (kq b) ?_;refine c_s (hs) ?_;refine a_1 ?_;refine ao (n_k ?_);exact ai (c_e (aT _))
theorem Hr(a b:Rat)(hb:b≠0)(h:qs a+qs b≤549755813888):FS 102 [.agg (qC a),.agg (qC b)] (.agg (qC (a/ b))):=by
 have hp:=wz a b;have h1:=dW a;have d:=dM a;have f:=dW b;have e:=dM b;have c:b.num≠0:=fun h=>hb (Rat.num_eq_zero.1 h);have hs:=fl (decide (b.num< 0)) b.den;rw[qZ a b hb];refine f_c Tryz.func102 ?_;refine r_z 3 ?_;refine ae (r_d a6 17 ?_);refine c_s (eH b (by omega)) ?_;refine c_s (eG (decide (b.num< 0)) b.den) ?_;refine c_s (xO a.num (sgn (decide (b.num< 0)) b.den) (by rw[hs];omega)) ?_;refine c_s (eH a (by omega)) ?_;refine c_s (ga a.den b.num.natAbs (by omega)) ?_;refine c_s (pC (a.num* sgn (decide (b.num< 0)) b.den) (a.den* b.num.natAbs) (Nat.mul_pos a.den_pos (by omega)) (by omega)) ?_;refine a_1 ?_;refine ao (n_k ?_);exact ai (c_e (aT _))
theorem Co(a b:Rat)(hb:b≠0)(h:qs a+qs b≤549755813888):FS 51 [.agg (qC a),.agg (qC b)] (.tup [.agg (qC (a/ b)),i64 0]):=by
 have d:b.num≠0:=fun h=>hb (Rat.num_eq_zero.1 h);have c:sgZ b.num≠0:=by unfold sgZ;rw[if_neg d];split <;> decide
 refine f_c Tryz.func51 ?_;refine r_z 4 ?_;refine ae (r_c 3 (cw b) ?_);refine a_z ?_;refine ap rfl (fun h=>?_) (fun h=>?_);exact absurd h (by simpa using c);refine ak (r_c 5 (Hr a b hb (by assumption)) ?_);refine a_z ?_;refine ai (Fin.many ⟨_,_,rfl,⟨_,_,_,_,_,rfl,rfl,rfl,.inl ⟨TG.h,_,TS.h,nle rfl,rfl⟩⟩,⟨_,_,rfl,rfl,rfl⟩⟩ (nle rfl) ?_);exact ah (am aD (aT _)) (ah (am aD (ag _)) av)
theorem Em(x:Int)(n:Nat)(hn:0< n):(sgZ x= -1∧∃p:Nat,0< p∧x* n= -(p:Int)∧x.natAbs* n=p)∨(sgZ x=0∧x* n=0∧x.natAbs* n=0)∨(sgZ x=1∧∃p:Nat,0< p∧x* n=p∧x.natAbs* n=p):=by
 rcases Int.lt_trichotomy x 0 with a|a|a
 refine .inl ⟨by unfold sgZ;rw[if_neg (by omega),if_pos a],x.natAbs* n,Nat.mul_pos (by omega) hn,?_,rfl⟩;rw[Int.natCast_mul,←Int.neg_mul];congr 1;omega;subst a;refine .inr (.inl ⟨rfl,by simp,by simp⟩);refine .inr (.inr ⟨by unfold sgZ;rw[if_neg (by omega),if_neg (by omega)],x.natAbs* n,Nat.mul_pos (by omega) hn,?_,rfl⟩);rw[Int.natCast_mul];congr 1;omega
theorem If(a b:Rat):fy a b=if sgZ a.num≠sgZ b.num∨sgZ a.num=0 then sgZ a.num- sgZ b.num- (sgZ a.num- sgZ b.num).tdiv 2 else sgZ a.num* eu ((a.num.natAbs* b.den:Nat):Int) ((b.num.natAbs* a.den:Nat):Int):=by
 rw[Eo];rcases Em a.num b.den b.den_pos with⟨s1,p,hp,e1,f1⟩|⟨s1,e1,f1⟩|⟨s1,p,hp,e1,f1⟩<;> rcases Em b.num a.den a.den_pos with⟨s2,q,hq,e2,f2⟩|⟨s2,e2,f2⟩|⟨s2,q,hq,e2,f2⟩<;> rw[s1,s2,e1,e2,f1,f2]<;> unfold eu <;> simp <;>(repeat' split)<;> first|rfl|omega
theorem qP(a b:Rat)(ha:sm a)(hb:sm b):FS 45 [.agg (qC a),.agg (qC b)] (i64 (fy a b)):=by
 have hs:=sm2 ha hb;have h1:=dW a;have r:=dM a;have o:=dW b;have p:=dM b;have hc:=If a b;have d:sgZ a.num= -1∨sgZ a.num=0∨sgZ a.num=1:=by unfold sgZ;split;simp;split <;> simp
 have g:sgZ b.num= -1∨sgZ b.num=0∨sgZ b.num=1:=by unfold sgZ;split;simp;split <;> simp
 have m:=iH a.num.natAbs b.den;have l:=iH b.num.natAbs a.den;refine f_c Tryz.func45 ?_;refine r_z 3 ?_;refine ae (ae (r_d a6 6 ?_));refine c_s (cw a) ?_;refine c_s (cw b) ?_;refine a_2 ?_;refine ao (n_k ?_);obtain⟨x,k⟩:∃x,x=sgZ a.num:=⟨_,rfl⟩;obtain⟨y,n⟩:∃y,y=sgZ b.num:=⟨_,rfl⟩;rw[←k] at d hc⊢;rw[←n] at g hc⊢
 have q:(x- y).tdiv 2= -1∨(x- y).tdiv 2=0∨(x- y).tdiv 2=1:=by
  rcases d with h|h|h <;> rcases g with h'|h'|h' <;> rw[h,h']<;> decide
 refine aG (fun _:Unit=>⟨[(2,.lptr 1 0 0),(3,.lptr 2 0 0)],[(1,some ⟨36,3,[qC a]⟩),(2,some ⟨36,3,[qC b]⟩)],3,42⟩) (fun _=>x=y∧x≠0) ?_ ?_;by_cases c:x=y;refine s_r 7 ?_;refine a_4 ?_;refine y_g rfl (by simp[c]) (.move rfl) ?_;refine y_g rfl (by simp[c]) (.bin rfl rfl ci) ?_;refine o_0 (.pickF rfl (by simp[c]) rfl) ?_;refine ao ?_;refine ap rfl (fun h=>?_) (fun h=>?_);have i:x=0:=by simpa using h
 refine s_r 9 ?_;refine a_6 ?_;refine o_0 (.bin rfl rfl (rn (by decide) (by omega))) ?_;refine a_z ?_;refine ai (aW rfl ?_ (ag _));rw[hc,if_pos (.inr i)];rfl;have i:x≠0:=by simpa using h
 refine ak ⟨(),⟨c,i⟩,?_⟩;exact s_e [];refine s_r 7 ?_;refine a_4 ?_;refine n_g rfl (by simp[c]) ?_;refine n_g rfl (by simp[c]) ?_;refine o_0 (.pickT rfl (by simp[c]) rfl) ?_;refine ao ?_;refine ap rfl (fun h=>?_) (fun h=>?_);refine s_r 9 ?_;refine a_6 ?_;refine o_0 (.bin rfl rfl (rn (by decide) (by omega))) ?_;refine a_z ?_;refine ai (aW rfl ?_ (ag _));rw[hc,if_pos (.inl c)];rfl;cases h;rintro _ ⟨c,i⟩
 have j:eu ((a.num.natAbs* b.den:Nat):Int) ((b.num.natAbs* a.den:Nat):Int)= -1∨eu ((a.num.natAbs* b.den:Nat):Int) ((b.num.natAbs* a.den:Nat):Int)=0∨eu ((a.num.natAbs* b.den:Nat):Int) ((b.num.natAbs* a.den:Nat):Int)=1:=by
  unfold eu;split;simp;split <;> simp
 have f:=cw a;rw[←k] at f
 have e: -9223372036854775808≤x* eu ((a.num.natAbs* b.den:Nat):Int) ((b.num.natAbs* a.den:Nat):Int)∧x* eu ((a.num.natAbs* b.den:Nat):Int) ((b.num.natAbs* a.den:Nat):Int)≤9223372036854775807:=by
  rcases d with h|h|h <;> rcases j with h'|h'|h' <;> rw[h,h']<;> decide
 refine ae (r_d a6 17 ?_);refine c_s (f) ?_;refine c_s (eH b (by omega)) ?_;refine c_s (ga a.num.natAbs b.den (by omega)) ?_;refine c_s (eH a (by omega)) ?_;refine c_s (ga b.num.natAbs a.den (by omega)) ?_;refine c_s (nU (a.num.natAbs* b.den) (b.num.natAbs* a.den) (by omega)) ?_;refine o_0 (.bin rfl rfl (u9 e)) ?_;refine a_1 ?_;refine ao (n_k ?_);refine ai (aW rfl ?_ (ag _));rw[hc,if_neg (by omega)];rfl
theorem qR(a:Rat):FS 60 [.agg (qC a)] (.agg (qC (fS a))):=by
 have hc:=aT (fS a);rw[qC_abs] at hc⊢;refine f_c Tryz.func60 ?_;refine r_z 2 ?_;refine ae (r_d a6 8 ?_);refine c_s (eG false a.num.natAbs) ?_;refine a_4 ?_;refine ao (n_k ?_);exact ai (c_e (hc))
theorem HE(a:Rat)(ha:sm a):FS 253 [.agg (qC a)] (.agg (qC ((a.den:Int):Rat))):=by
 have b:=pz (a.den:Int);rw[Bd] at b;refine f_c Tryz.func253 ?_;refine r_z 2 ?_;refine r_c 5 (eH a (by unfold sm at ha;omega)) ?_;refine c_s (b) ?_;refine a_z ?_;exact ai (c_e (aT _))
theorem Fs{z q:Int}{d:Nat}(hd:0< d)(h1:q* d≤z)(h2:z< q* d+d):z/ (d:Int)=q:=by
 have a:(0:Int)< d:=by omega
 have c:q≤z/ (d:Int):=(Int.le_ediv_iff_mul_le a).2 h1;have b:z/ (d:Int)< q+1:=(Int.ediv_lt_iff_lt_mul a).2 (by rw[Int.add_mul];omega);omega
theorem uA(z:Int)(d:Nat)(hd:0< d):z/ (d:Int)=sgn (decide (z< 0)) (if (decide (z< 0) && !(z.natAbs % d==0))=true then z.natAbs/ d+1 else z.natAbs/ d):=by
 have h1:=Nat.div_add_mod z.natAbs d;have e:=Nat.mod_lt z.natAbs hd;generalize c:z.natAbs % d=r at *
 generalize b:z.natAbs/ d=a at *
 have f:((d* a:Nat):Int)=(a:Int) * d:=by rw[Int.natCast_mul,Int.mul_comm]
 refine Fs hd ?_ ?_ <;> by_cases hz:z< 0 <;> by_cases h0:r=0 <;> simp[sgn,hz,h0,Int.neg_mul,Int.add_mul]<;> omega
theorem E6(z:Int)(d:Nat)(hd:0< d)(h:bl z.natAbs+bl d≤4398046511104):FS 252 [.agg (zI z),.agg [mag d]] (.agg (zI (z/ d))):=by
 rw[uA z d hd];have b:=eM z.natAbs d;have a:=yC (z.natAbs/ d) 1;have hb2:bl 1=1:=jS;obtain⟨Q,hQ⟩:∃Q,Q=(if (decide (z< 0) && !(z.natAbs % d==0))=true then z.natAbs/ d+1 else z.natAbs/ d):=⟨_,rfl⟩;rw[←hQ];refine f_c Tryz.func252 ?_;refine r_z 3 ?_;refine r_c 11 (sH z.natAbs d h hd) ?_;refine a_z ?_;refine bi (fun _:Unit=>⟨[(2,.lptr 1 0 0),(4,.lptr 2 0 0),(5,.lptr 3 0 0)],[(1,some ⟨34,2,[zI z]⟩),(2,some ⟨34,2,[[.emp,bln false]]⟩),(3,some ⟨32,1,[[mag Q]]⟩)],4,28⟩) (fun _=>True) ?_ ?_;by_cases hz:z< 0;refine s_r 7 ?_;refine a_3 ?_
 first|refine y_g rfl (by simp[hz]) (.load_l rfl rfl rfl TG.h TS.h (nle rfl)) ?_|refine y_g rfl (by simp[hz]) (.load_a rfl rfl TG.h TS.h (nle rfl)) ?_
 refine y_g rfl (by simp[hz]) (.call rfl rfl rfl (mf (z.natAbs % d))) ?_;refine y_g rfl (by simp[hz]) (.un rfl lM) ?_;refine o_0 (.pickT rfl (by simp[hz]) rfl) ?_;refine ao ?_;refine ap rfl (fun h1=>?_) (fun h1=>?_);have:Q=z.natAbs/ d+1:=by rw[hQ,if_pos];simpa[hz] using h1
 rw[this];refine r_d a6 4 ?_;refine c_s (gd 1 (by decide)) ?_;refine c_s (xL (z.natAbs/ d) 1 (by omega)) ?_;refine a_1 ?_;refine ao (n_k ?_);refine⟨(),trivial,?_⟩;exact s_e [(2,4),(3,5)];have:Q=z.natAbs/ d:=by rw[hQ,if_neg];simpa[hz] using h1
 rw[this];refine ak ⟨(),trivial,?_⟩;exact s_e [(2,4),(3,5)];refine s_r 7 ?_;refine a_3 ?_;refine n_g rfl (by simp[hz]) ?_;refine n_g rfl (by simp[hz]) ?_;refine n_g rfl (by simp[hz]) ?_;refine o_0 (.pickF rfl (by simp[hz]) rfl) ?_;refine ao ?_;have:Q=z.natAbs/ d:=by rw[hQ,if_neg];simp[hz]
 rw[this];refine ap rfl (fun h=>?_) (fun h=>ak ⟨(),trivial,?_⟩);cases h;exact s_e [(2,4),(3,5)];rintro _ _;refine r_c 5 (eG (decide (z< 0)) Q) ?_;refine a_z ?_;exact ai (c_e (iD _))
theorem pG(q:Rat)(h:qs q≤1099511627776):FS 222 [.agg (qC q)] (.agg (qC (q.floor:Rat))):=by
 have h1:=dW q;have a:=dM q;rw[Rat.floor_def];refine f_c Tryz.func222 ?_;refine r_z 2 ?_;refine ae (r_d a6 7 ?_);refine c_s (eH q h) ?_;refine c_s (E6 q.num q.den q.den_pos (by omega)) ?_;refine c_s (pz (q.num/ q.den)) ?_;refine a_1 ?_;refine ao (n_k ?_);exact ai (c_e (aT _))
def u5(q:Rat):Rat:= -((-q).floor:Rat)
theorem DZ(q:Rat)(h:qs q≤1099511627776):FS 223 [.agg (qC q)] (.agg (qC (u5 q))):=by
 refine f_c Tryz.func223 ?_;refine r_z 2 ?_;refine r_c 5 (kq q) ?_;refine c_s (pG (-q) (by rw[iW];exact h)) ?_;refine c_s (kq ((-q).floor:Rat)) ?_;refine a_z ?_;exact ai (c_e (aT _))
def wi(k:Int)(m:Nat):Nat:=(max 0 (min k m)).toNat
theorem EZ(k:Int)(m:Nat):FS 256 [i64 k,i64 m] (i64 (wi k m)):=by
 refine f_c Tryz.func256 ?_;refine r_z 1 ?_;refine r_z 5 ?_;refine ai (aW rfl ?_ ?_);simp only[i64,wi];congr 2;split <;> split <;> omega;exact ag _
def powS:Nat×Nat×Nat→AState
 |(o,x,m)=>⟨[(1,i64 m),(2,.lptr 1 0 0),(4,.lptr 2 0 0),(5,.lptr 3 0 0)],[(1,some ⟨32,1,[[mag x]]⟩),(2,some ⟨32,1,[[.emp]]⟩),(3,some ⟨32,1,[[mag o]]⟩)],4,23⟩
theorem lf(o:Nat)(x:Nat)(m:Nat):powS (o,x,m)=⟨[(1,i64 m),(2,.lptr 1 0 0),(4,.lptr 2 0 0),(5,.lptr 3 0 0)],[(1,some ⟨32,1,[[mag x]]⟩),(2,some ⟨32,1,[[.emp]]⟩),(3,some ⟨32,1,[[mag o]]⟩)],4,23⟩:=rfl
theorem BH(x m:Nat):x^ m=(x* x) ^ (m/ 2) * (if m % 2=1 then x else 1):=by
 rw[←Nat.pow_two,←Nat.pow_mul];have:=Nat.div_add_mod m 2;split
 ·rename_i h;rw[←Nat.pow_succ];congr 1;omega
 ·rename_i h;rw[Nat.mul_one];congr 1;omega
theorem E4(a n:Nat)(h:bl a* n≤2199023255552)(hn:n≤1000000):FS 255 [.agg [mag a],i64 n] (.agg [mag (a^ n)]):=by
 refine f_c Tryz.func255 ?_;refine r_z 2 ?_;refine r_c 3 (gd 1 (by decide)) ?_;refine a_z ?_;refine bi (fun _:Unit=>⟨[(4,.lptr 2 0 0),(5,.lptr 3 0 0)],[(2,some ⟨32,1,[[.emp]]⟩),(3,some ⟨32,1,[[mag (a^ n)]]⟩)],4,23⟩) (fun _=>True) ?_ ?_;refine aj (aB powS (fun x=>x.2.2) (fun x=>x.1* x.2.1^ x.2.2=a^ n∧bl x.1+bl x.2.1* x.2.2≤2199023255553∧x.2.2≤1000000) (1,a,n) ⟨by simp,by have:bl 1=1:=jS;simp only;omega,hn⟩ ?_ ?_);rw[lf];exact s_e [(1,2),(2,4),(3,5)];rintro⟨o,x,m⟩ ⟨hv,hb,y⟩;simp only at hv hb y;rw[lf];refine ae (r_z 2 ?_);refine ap rfl (fun h=>?_) (fun h=>?_);have c:0< m:=by simpa using h
 have w:bl x* 1≤bl x* m:=Nat.mul_le_mul_left _ c;have i:=BH x m;refine ak ?_
 have C:(m:Int).tdiv 2=((m/ 2:Nat):Int):=by
  rw[Int.tdiv_eq_ediv_of_nonneg (by omega)];omega
 have B:=Nat.div_add_mod m 2;have u:=Nat.mod_lt m (show 0< 2 by decide);have j:m/ 2< m:=by omega
 have l:=iH x x;have A:=iH o x;have s:bl x* m=bl x* (2* (m/ 2))+bl x* (m % 2):=by rw[←Nat.mul_add];congr 1;omega
 have t:bl (x* x) * (m/ 2)≤bl x* (2* (m/ 2)):=by
  have:=Nat.mul_le_mul_right (m/ 2) l;rw[←Nat.two_mul,Nat.mul_comm 2,Nat.mul_assoc] at this;exact this
 have D:(m:Int) % 2=((m % 2:Nat):Int):=by omega
 have e:(m:Int) / 2=((m/ 2:Nat):Int):=by omega
 refine ae (aj (bi (fun d:Nat=>powS (d,x,m)) (fun d=>d=o* (if m % 2=1 then x else 1)) ?_ ?_));refine r_z 3 ?_;refine ap rfl (fun h1=>?_) (fun h1=>?_);have g:m % 2=1:=by simp at h1;omega
 refine r_m 4 ?_;refine c_s (ga o x (by omega)) ?_;refine a_z ?_;refine⟨o* x,by rw[if_pos g],?_⟩;simp only[lf];exact s_e [];have k:¬m % 2=1:=by simp at h1;omega
 refine ak ⟨o,by rw[if_neg k,Nat.mul_one],?_⟩;simp only[lf];exact s_e [];rintro d f;rw[lf]
 have q:bl d≤bl o+bl x* (m % 2):=by
  rw[f];split
  ·rename_i h1;rw[h1];omega
  rw[Nat.mul_one];omega
 have b:d* (x* x) ^ (m/ 2)=a^ n:=by
  rw[←hv,i,f,Nat.mul_assoc,Nat.mul_comm (if m % 2=1 then x else 1)]
 refine r_z 2 ?_;refine ap rfl (fun r=>?_) (fun r=>?_);refine r_m 4 ?_;refine c_s (ga x x (by omega)) ?_;refine a_z ?_;refine r_m 3 ?_;refine a_z ?_;refine⟨(d,x* x,m/ 2),j,⟨b,by simp only;omega,by simp only;omega⟩,?_⟩;rw[lf];have:=(congrArg (fun z=>AV.v (.int .i64 z)) e);exact s_f [];have p:m/ 2=0:=by simp at r;omega
 refine ak (r_m 3 ?_);refine a_z ?_;rw[p] at b e;refine⟨(d,x,0),c,⟨by simpa using b,by simp only;omega,by simp only;omega⟩,?_⟩;rw[lf];have:=(congrArg (fun z=>AV.v (.int .i64 z)) e);exact s_f [];have c:m=0:=by simp at h;omega
 subst c;refine ay ⟨(),trivial,?_⟩;have b:o=a^ n:=by simpa using hv
 rw[b];exact s_e [];rintro _ _;refine r_z 2 ?_;exact ai (c_e (closed_mA _))
theorem Hl(k:Int):FS 229 [i64 k] (.agg [mag (2^ wi k 256)]):=by
 have b:wi k 256≤256:=by unfold wi;omega
 have a:bl 2=2:=by decide
 refine f_c Tryz.func229 ?_;refine r_z 1 ?_;refine r_c 5 (gd 2 (by decide)) ?_;refine c_s (EZ k 256) ?_;refine c_s (E4 2 (wi k 256) (by rw[a];omega) (by omega)) ?_;refine a_z ?_;exact ai (c_e (closed_mA _))
theorem CY(k:Nat):bl (2^ k)≤k+1:=hZ (by rw[Nat.pow_succ];have:=Nat.pow_pos (n:=k) (show 0< 2 by decide);omega)
theorem pN(k:Int):FS 189 [i64 k] (.agg (qC (gf (wi k 256)))):=by
 have a:wi k 256≤256:=by unfold wi;omega
 have hb:=CY (wi k 256);have h1:bl (1:Int).natAbs=1:=jS;refine f_c Tryz.func189 ?_;refine r_z 1 ?_;refine r_c 5 (zY 1 (by decide)) ?_;refine c_s (Hl k) ?_;refine c_s (pC 1 (2^ wi k 256) (Nat.pow_pos (by decide)) (by omega)) ?_;refine a_z ?_;exact ai (c_e (aT _))
def nE(k:Nat):Rat:=((2^ k:Nat):Int)
theorem xo(k:Nat):qs (nE k)≤k+1:=by
 have h1:(nE k).num=((2^ k:Nat):Int):=rfl;have a:(nE k).den=1:=rfl;unfold qs;rw[h1,a,Int.natAbs_natCast,jS];have:=CY k;omega
theorem zc(k:Nat):qs (gf k)≤k+1:=by
 have h1:bl (1:Int).natAbs=1:=jS;exact fo (Nat.pow_pos (by decide)) (by omega) (CY k)
theorem wl(a:Rat)(k:Int)(h:qs a≤549755813000):FS 221 [.agg (qC a),i64 k] (.agg (qC (a* nE (wi k 256)))):=by
 have c:wi k 256≤256:=by unfold wi;omega
 have d:=xo (wi k 256);have b:=pz ((2^ wi k 256:Nat):Int);rw[Bd] at b;refine f_c Tryz.func221 ?_;refine r_z 2 ?_;refine ae (r_d a6 7 ?_);refine c_s (Hl k) ?_;refine c_s (b) ?_;refine c_s (cJ a (nE (wi k 256)) (by omega)) ?_;refine a_1 ?_;refine ao (n_k ?_);exact ai (c_e (aT _))
def jN(a:Rat)(k:Nat):Rat:=((a* nE k).floor:Rat) * gf k
def upQ(a:Rat)(k:Nat):Rat:=u5 (a* nE k) * gf k
theorem zb(a:Rat):qs (a.floor:Rat)≤qs a+1:=by
 rw[Rat.floor_def];have h1:=dW a;have e1:((a.num/ (a.den:Int):Int):Rat).num=a.num/ a.den:=rfl;have e2:((a.num/ (a.den:Int):Int):Rat).den=1:=rfl;have e:1≤bl a.den:=Ii a.den_pos;have b:=dM a;unfold qs at *
 rw[e1,e2,jS,uA _ _ a.den_pos,fl];have f:=eM a.num.natAbs a.den;have c:=yC (a.num.natAbs/ a.den) 1;have d:bl 1=1:=jS;split <;> omega
theorem Gu(a:Rat):qs (u5 a)≤qs a+1:=by
 unfold u5;rw[iW];have:=zb (-a);rwa[iW] at this
theorem D1(a:Rat)(k:Int)(h:sm a):FS 180 [.agg (qC a),i64 k] (.agg (qC (jN a (wi k 256)))):=by
 unfold sm at h;have b:wi k 256≤256:=by unfold wi;omega
 have c:=xo (wi k 256);have e:=dK a (nE (wi k 256));have d:=zb (a* nE (wi k 256));have f:=zc (wi k 256);refine f_c Tryz.func180 ?_;refine r_z 2 ?_;refine r_c 8 (wl a k (by omega)) ?_;refine c_s (pG (a* nE (wi k 256)) (by omega)) ?_;refine c_s (pN k) ?_;refine c_s (cJ ((a* nE (wi k 256)).floor:Rat) (gf (wi k 256)) (by omega)) ?_;refine a_z ?_;exact ai (c_e (aT _))
theorem fs_Up(a:Rat)(k:Int)(h:sm a):FS 181 [.agg (qC a),i64 k] (.agg (qC (upQ a (wi k 256)))):=by
 unfold sm at h;have b:wi k 256≤256:=by unfold wi;omega
 have c:=xo (wi k 256);have e:=dK a (nE (wi k 256));have d:=Gu (a* nE (wi k 256));have f:=zc (wi k 256);refine f_c Tryz.func181 ?_;refine r_z 2 ?_;refine r_c 8 (wl a k (by omega)) ?_;refine c_s (DZ (a* nE (wi k 256)) (by omega)) ?_;refine c_s (pN k) ?_;refine c_s (cJ (u5 (a* nE (wi k 256))) (gf (wi k 256)) (by omega)) ?_;refine a_z ?_;exact ai (c_e (aT _))
def jg(n:Nat):List UInt8:=if n< 10 then [48+n.toUInt8] else [48+(n/ 10).toUInt8,48+(n % 10).toUInt8]
theorem AA(s:ByteArray)(l h:Nat)(zl zh:Int)(el:zl=(l:Int))(eh:zh=(h:Int))(hlh:l≤h)(hh:h≤s.size):∀w,(Instr.sliceAt 9 (.string s) (some (.int .i64 zl)) (some (.int .i64 zh)) none).run Tryz.prog w= .ok (.string (s.extract l h)) w:=fun w=>by
 subst el eh;have b1:∀(i y:Nat) (c:BoundsCode),i≤y→(Instr.sliceBound (.int .i64 (i:Int)) y c).run Tryz.prog w= .ok i w:=fun i y c b=>eB b c w
 have a:(Instr.slice 9 (.string s) (some (.int .i64 (l:Int))) (some (.int .i64 (h:Int))) none).run Tryz.prog w= .ok (.string (s.extract l h)) w:=by
  simp[Instr.slice,run_underlying mI,Instr.sliceBounds,b1 h s.size _ hh,b1 l h _ hlh,Result.andThen]
 unfold Instr.sliceAt;rw[Sem.run_bind,run_underlying mI];exact a
def smallsB:ByteArray:=⟨((List.range 100).flatMap fun n=>[48+(n/ 10).toUInt8,48+(n % 10).toUInt8]).toArray⟩
theorem E0(i:Nat)(h:i< 100):FS 200 [i64 i] (tx (jg i)):=by
 refine f_c Tryz.func200 ?_;refine r_z 1 ?_;refine ae (r_z 2 ?_);refine ap rfl (fun h1=>?_) (fun h1=>?_);have b:i< 10:=by simp at h1;omega
 refine s_r 5 ?_;refine a_3 ?_;refine o_0 (.slice_v rfl rfl rfl rfl (AA _ i (i+1) _ _ rfl (by omega) (by omega) (by exact Nat.le_trans (m:=10) (by omega) (by decide)))) ?_;refine a_z ?_;refine ai (aW rfl ?_ ?_);have a:∀i,i< 10→(ByteArray.mk #[48,49,50,51,52,53,54,55,56,57,97,98,99,100,101,102,103,104,105,106,107,108,109,110,111,112,113,114,115,116,117,118,119,120,121,122]).extract i (i+1)=⟨(jg i).toArray⟩:=by decide
 exact congrArg (fun s=>AV.v (.string s)) (a i b);exact ag _;have b:10≤i:=by simp at h1;omega
 refine ak (s_r 7 ?_);refine a_5 ?_;refine o_0 (.slice_v rfl rfl rfl rfl (AA _ (i* 2) (i* 2+2) _ _ (by omega) (by omega) (by omega) (by exact Nat.le_trans (m:=200) (by omega) (by decide)))) ?_;refine a_z ?_;refine ai (aW rfl ?_ ?_);have a:∀i,i< 100→10≤i→smallsB.extract (i* 2) (i* 2+2)=⟨(jg i).toArray⟩:=by decide
 refine congrArg (fun s=>AV.v (.string s)) (Eq.trans (congrArg (fun s:ByteArray=>s.extract _ _) (?_:_=smallsB)) (a i h b))
 kernel_rfl
 exact ag _
theorem xV(i:Nat)(h:i< 100):FS 160 [i64 i,i64 10] (tx (jg i)):=by
 refine f_c Tryz.func160 ?_;refine r_z 1 ?_;refine ae (r_z 2 ?_);refine ap rfl (fun h1=>?_) (fun h1=>?_);refine ae (s_r 6 ?_);refine a_3 ?_;refine y_g rfl (by simp) (.move rfl) ?_;refine y_g rfl (by simp) (.bin rfl rfl eN) ?_;refine o_0 (.pickT rfl (by simp) rfl) ?_;refine ao ?_;refine ap rfl (fun a=>?_) (fun a=>?_);refine r_c 3 (E0 i h) ?_;refine a_z ?_;exact ai (t_e (ag _));exact absurd a (by simp;omega);exact absurd h1 (by simp)
theorem Hx(i:Nat)(h:i< 100):FS 118 [i64 i] (tx (jg i)):=by
 refine f_c Tryz.func118 ?_;refine r_z 1 ?_;refine r_c 3 (xV i h) ?_;refine a_z ?_;exact ai (t_e (ag _))
theorem D0(i:Nat)(h:i< 100):FS 69 [i64 i] (tx (jg i)):=by
 refine f_c Tryz.func69 ?_;refine r_z 1 ?_;refine r_c 3 (Hx i h) ?_;refine a_z ?_;exact ai (t_e (ag _))
def te0(m:Nat):Unit→AState
 |u=>⟨[(1,.lptr 1 0 0),(3,.lptr 2 0 0),(11,.clos 161 [] [.aptr [[.arr (dE [m])]] 0 0])],[(1,some ⟨32,1,[[.arr (dE [m])]]⟩),(2,some ⟨143,2,[eo 2 0 none]⟩)],4,31⟩
def te1(m:Nat):Unit→AState
 |u=>⟨[(1,.lptr 1 0 0),(3,.lptr 2 0 0),(11,.clos 161 [] [.aptr [[.arr (dE [m])]] 0 0])],[(1,some ⟨32,1,[[.arr (dE [m])]]⟩),(2,some ⟨143,2,[eo 2 3 (some (jg m))]⟩),(3,some ⟨5,1,bE (jg m)⟩)],4,31⟩
def teS(m:Nat):Nat→AState
 |0=>te0 m ()
 |_+1=>te1 m ()
theorem Ft{m:Nat}(h0:m≠0)(h:m< 100):aw MB m=[m]:=by
 have hb:MB=1000000000:=rfl;rw[fa (by decide) (by omega),Nat.mod_eq_of_lt (by omega),Nat.div_eq_of_lt (by omega),ct]
theorem yu(m:Nat):jg m≠[]:=by unfold jg;split <;> simp
theorem kQ(m:Nat):(jg m).length≤2:=by unfold jg;split <;> simp
theorem z6(m:Nat)(h:m< 100):FS 71 [.agg [mag m]] (tx (jg m)):=by
 have v:=mf m;refine f_c Tryz.func71 ?_;refine r_z 2 ?_;refine ae (r_c 2 (v) ?_);refine ao ?_;refine ap rfl (fun h1=>?_) (fun h1=>?_);have g:m=0:=by simpa using h1
 subst g;refine r_z 1 ?_;exact ai (t_e (ag _));have g:m≠0:=by simpa using h1
 have u:mag m= .arr (dE [m]):=by unfold mag;rw[Ft g h]
 rw[u];refine ak ?_;have r:([m]:List Nat).length=1:=rfl;have d:Closed (.aptr [[.arr (dE [m])]] 0 0):=j8 (fun e o c hc=>by simp at o;subst o;simp at hc;subst hc;exact cQ _);have b:Closed (.clos 161 [] [.aptr [[.arr (dE [m])]] 0 0]):=aP af (ac d af);refine r_z 1 ?_;refine ae (r_c 3 (nA [m]) ?_);refine ao ?_;refine aG (fun _:Unit=>te1 m ()) (fun _=>True) ?_ ?_;refine aj (AWp.rangeFunc (α:=Nat) (γ:=Empty) 1 (teS m) (fun k=>k) (fun k=>k≤1) (fun e=>nomatch e) (fun _ e=>nomatch e) 0 rfl (nw [m] (by simp)) rfl rfl ?_ (fun k=>by cases k <;> exact⟨rfl,rfl⟩) (fun e=>nomatch e) (Nat.zero_le _) rfl (fun _ h=>h) ?_ ?_ ?_ ?_ (fun _ e=>nomatch e));intro k xs a;unfold nC at a;split at a;cases a;rfl;cases a;show SEntT _ (te0 m ());rw[te0.eq_1];exact s_t [(1,1),(2,3)];exact ac d af
 ·intro l k xs t a
  unfold nC at a;split at a;rotate_left;cases a;rename_i hlt;have f:k=0:=by simpa using hlt
  subst f;cases a;show AWp _ _ _ _ ⟨jx (te0 m ()).fr _ _++eV (te0 m ()).fr,_,_,_⟩;show AWp _ _ _ _ ⟨[(13,u32 m),(12,i64 0),(1,.lptr 1 0 0),(3,.lptr 2 0 0),(11,.clos 161 [] [.aptr [[.arr (dE [m])]] 0 0]),(1001,.lptr 1 0 0),(1003,.lptr 2 0 0),(1011,.clos 161 [] [.aptr [[.arr (dE [m])]] 0 0])],[(1,some ⟨32,1,[[.arr (dE [m])]]⟩),(2,some ⟨143,2,[eo 2 0 none]⟩)],4,31⟩;refine r_z 1 ?_;refine r_m 1 ?_;refine a_z ?_;refine aj (r_c 4 (D0 m h) ?_);refine a_z ?_;refine ae (r_z 6 ?_);refine ap rfl (fun n=>?_) (fun n=>?_);exact absurd n (by simp);refine ak (r_m 2 ?_);refine a_1 ?_;refine o_2 (.callB (s:=none) (j:=0) rfl rfl rfl rfl rfl rfl (fun _ h=>by cases h) (kU (jg m) (yu m) (by have:=kQ m;omega))) ?_;refine ao ?_;refine⟨0+1,⟨by omega,rfl⟩,?_⟩;show SEntT _ ⟨[(1001,.lptr 1 0 0),(1003,.lptr 2 0 0),(1011,.clos 161 [] [.aptr [[.arr (dE [m])]] 0 0])],[(1,some ⟨32,1,[[.arr (dE [m])]]⟩),(2,some ⟨143,2,[eo 2 3 (some (jg m))]⟩),(3,some ⟨5,1,bE (jg m)⟩)],4,31⟩;refine SEntT.to2 [(3,100017)] rfl rfl rfl yE (fun hs=>?_) (fun hs=>?_)
  ·repeat' (first|exact aN|refine aA rfl ?_ ?_)
   all_goals (first|(exact am hs b)|exact aV)
  ·repeat' (first|exact aE|refine k7 rfl rfl rfl rfl ?_ ?_)
   all_goals (first|exact bC|(refine az ?_;repeat' (first|exact av|refine ah ?_ ?_)))
   all_goals (first|(exact am hs b)|exact aV)
 ·intro k t a
  unfold nC at a;split at a;cases a
  have i:k=1:=by
   rename_i p;simp at p;omega
  subst i;exact⟨(),trivial,SEnt.refl _⟩
 rintro _ _;rw[te1.eq_1];have q:=yu m;refine s_r 2 ?_;refine o_2 (.callD rfl rfl rfl rfl rfl rfl (by decide) (by first|assumption|simp) (wy)) ?_;refine a_z ?_;exact ai (t_e (ag _))
end Go.Proofs.YtdgbhlkabelmbaaGreatDoor
