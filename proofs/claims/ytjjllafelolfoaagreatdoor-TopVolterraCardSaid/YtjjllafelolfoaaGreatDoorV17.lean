/- Part V17 of the proof. -/
import Derived.Test.YtjjllafelolfoaaGreatDoorV16
import Derived.Test.YtjjllafelolfoaaGreatDoorProg
import Derived.KernelRfl
set_option linter.all false
namespace Go.Proofs.YtjjllafelolfoaaGreatDoor
open Go.Abs
set_option maxRecDepth 20000
theorem hmix:Tryz.prog.follows .mixedOrders=true:=by kernel_rfl
instance:T4 Tryz.prog 2 [Value.int IntKind.i64 0] 1 false 8:=⟨by kernel_rfl⟩
instance tu_2:TU Tryz.prog 2 (.int .i64):=⟨by kernel_rfl⟩
instance:T4 Tryz.prog 3 [Value.int IntKind.i64 0] 1 false 8:=⟨by kernel_rfl⟩
instance tu_3:TU Tryz.prog 3 (.int .i64):=⟨by kernel_rfl⟩
instance:T4 Tryz.prog 4 [Value.bool false] 1 false 1:=⟨by kernel_rfl⟩
instance tu_4:TU Tryz.prog 4 .bool:=⟨by kernel_rfl⟩
instance:T4 Tryz.prog 5 [Value.int IntKind.u8 0] 1 false 1:=⟨by kernel_rfl⟩
instance tu_5:TU Tryz.prog 5 (.int .u8):=⟨by kernel_rfl⟩
instance:T3 Tryz.prog 9 1 false 16:=⟨by kernel_rfl⟩
instance tu_9:TU Tryz.prog 9 .string:=⟨by kernel_rfl⟩
instance:T4 Tryz.prog 22 [Value.slice none 0 0] 1 false 24:=⟨by kernel_rfl⟩
instance te_22:TE Tryz.prog 22 (24,3):=⟨by kernel_rfl⟩
instance:T4 Tryz.prog 24 [Value.int IntKind.i64 0,Value.int IntKind.i64 0,Value.int IntKind.u8 0] 3 true 24:=⟨by kernel_rfl⟩
instance tp_24:TP Tryz.prog 24 [(0,1),(1,1),(2,1)]:=⟨by kernel_rfl⟩
instance:T2 Tryz.prog 24 0 (0,1) false:=⟨by kernel_rfl⟩
instance:T2 Tryz.prog 24 1 (1,1) false:=⟨by kernel_rfl⟩
instance:T2 Tryz.prog 24 2 (2,1) false:=⟨by kernel_rfl⟩
instance:T4 Tryz.prog 27 [Value.slice none 0 0] 1 false 24:=⟨by kernel_rfl⟩
instance te_27:TE Tryz.prog 27 (39,3):=⟨by kernel_rfl⟩
instance:T4 Tryz.prog 28 [Value.slice none 0 0] 1 false 24:=⟨by kernel_rfl⟩
instance te_28:TE Tryz.prog 28 (39,3):=⟨by kernel_rfl⟩
instance:T4 Tryz.prog 29 [Value.slice none 0 0] 1 false 24:=⟨by kernel_rfl⟩
instance te_29:TE Tryz.prog 29 (44,4):=⟨by kernel_rfl⟩
instance:T4 Tryz.prog 33 [Value.slice none 0 0] 1 false 24:=⟨by kernel_rfl⟩
instance te_33:TE Tryz.prog 33 (324,1):=⟨by kernel_rfl⟩
instance:T4 Tryz.prog 35 [Value.slice none 0 0] 1 true 24:=⟨by kernel_rfl⟩
instance tp_35:TP Tryz.prog 35 [(0,1)]:=⟨by kernel_rfl⟩
instance:T2 Tryz.prog 35 0 (0,1) false:=⟨by kernel_rfl⟩
instance:T4 Tryz.prog 37 [Value.slice none 0 0,Value.bool false] 2 true 32:=⟨by kernel_rfl⟩
instance tp_37:TP Tryz.prog 37 [(0,1),(1,1)]:=⟨by kernel_rfl⟩
instance:T2 Tryz.prog 37 0 (0,1) true:=⟨by kernel_rfl⟩
instance:T2 Tryz.prog 37 1 (1,1) false:=⟨by kernel_rfl⟩
instance:T4 Tryz.prog 39 [Value.slice none 0 0,Value.bool false,Value.slice none 0 0] 3 true 56:=⟨by kernel_rfl⟩
instance tp_39:TP Tryz.prog 39 [(0,2),(2,1)]:=⟨by kernel_rfl⟩
instance:T2 Tryz.prog 39 0 (0,2) true:=⟨by kernel_rfl⟩
instance:T2 Tryz.prog 39 1 (2,1) true:=⟨by kernel_rfl⟩
instance:T4 Tryz.prog 40 [Value.slice none 0 0] 1 false 24:=⟨by kernel_rfl⟩
instance te_40:TE Tryz.prog 40 (3,1):=⟨by kernel_rfl⟩
instance:T4 Tryz.prog 42 [Value.int IntKind.i64 0,Value.slice none 0 0] 2 true 32:=⟨by kernel_rfl⟩
instance tp_42:TP Tryz.prog 42 [(0,1),(1,1)]:=⟨by kernel_rfl⟩
instance:T2 Tryz.prog 42 0 (0,1) false:=⟨by kernel_rfl⟩
instance:T2 Tryz.prog 42 1 (1,1) false:=⟨by kernel_rfl⟩
instance:T4 Tryz.prog 44 [Value.int IntKind.i64 0,Value.slice none 0 0,Value.int IntKind.i64 0,Value.slice none 0 0] 4 true 64:=⟨by kernel_rfl⟩
instance tp_44:TP Tryz.prog 44 [(0,2),(2,2)]:=⟨by kernel_rfl⟩
instance:T2 Tryz.prog 44 0 (0,2) true:=⟨by kernel_rfl⟩
instance:T2 Tryz.prog 44 1 (2,2) true:=⟨by kernel_rfl⟩
instance:T4 Tryz.prog 52 [Value.slice none 0 0,Value.slice none 0 0] 2 true 48:=⟨by kernel_rfl⟩
instance tp_52:TP Tryz.prog 52 [(0,1),(1,1)]:=⟨by kernel_rfl⟩
instance:T2 Tryz.prog 52 0 (0,1) false:=⟨by kernel_rfl⟩
instance:T2 Tryz.prog 52 1 (1,1) false:=⟨by kernel_rfl⟩
instance:T4 Tryz.prog 53 [Value.slice none 0 0] 1 false 24:=⟨by kernel_rfl⟩
instance te_53:TE Tryz.prog 53 (52,2):=⟨by kernel_rfl⟩
instance:T4 Tryz.prog 54 [Value.slice none 0 0] 1 false 24:=⟨by kernel_rfl⟩
instance te_54:TE Tryz.prog 54 (52,2):=⟨by kernel_rfl⟩
instance:T4 Tryz.prog 56 [Value.slice none 0 0,Value.slice none 0 0,Value.bool false,Value.slice none 0 0,Value.slice none 0 0] 5 true 104:=⟨by kernel_rfl⟩
instance tp_56:TP Tryz.prog 56 [(0,1),(1,3),(4,1)]:=⟨by kernel_rfl⟩
instance:T2 Tryz.prog 56 0 (0,1) false:=⟨by kernel_rfl⟩
instance:T2 Tryz.prog 56 1 (1,3) true:=⟨by kernel_rfl⟩
instance:T2 Tryz.prog 56 2 (4,1) false:=⟨by kernel_rfl⟩
instance:T4 Tryz.prog 57 [Value.int IntKind.i64 0] 1 false 8:=⟨by kernel_rfl⟩
instance tu_57:TU Tryz.prog 57 (.int .i64):=⟨by kernel_rfl⟩
instance:T4 Tryz.prog 62 [Value.slice none 0 0,Value.bool false,Value.slice none 0 0,Value.slice none 0 0,Value.bool false,Value.slice none 0 0] 6 true 112:=⟨by kernel_rfl⟩
instance tp_62:TP Tryz.prog 62 [(0,3),(3,3)]:=⟨by kernel_rfl⟩
instance:T2 Tryz.prog 62 0 (0,3) true:=⟨by kernel_rfl⟩
instance:T2 Tryz.prog 62 1 (3,3) true:=⟨by kernel_rfl⟩
instance:T4 Tryz.prog 65 [Value.nilFunc] 1 false 8:=⟨by kernel_rfl⟩
instance:T4 Tryz.prog 68 [Value.slice none 0 0,Value.bool false,Value.slice none 0 0,Value.slice none 0 0] 4 true 80:=⟨by kernel_rfl⟩
instance tp_68:TP Tryz.prog 68 [(0,3),(3,1)]:=⟨by kernel_rfl⟩
instance:T2 Tryz.prog 68 0 (0,3) true:=⟨by kernel_rfl⟩
instance:T2 Tryz.prog 68 1 (3,1) false:=⟨by kernel_rfl⟩
instance:T4 Tryz.prog 70 [Value.slice none 0 0] 1 false 24:=⟨by kernel_rfl⟩
instance te_70:TE Tryz.prog 70 (68,4):=⟨by kernel_rfl⟩
instance:T4 Tryz.prog 89 [Value.slice none 0 0] 1 false 24:=⟨by kernel_rfl⟩
instance te_89:TE Tryz.prog 89 (28,1):=⟨by kernel_rfl⟩
instance:T4 Tryz.prog 160 [Value.slice none 0 0,Value.bool false,Value.bool false,Value.slice none 0 0,Value.bool false,Value.slice none 0 0,Value.slice none 0 0,Value.bool false,Value.slice none 0 0] 9 true 144:=⟨by kernel_rfl⟩
instance tp_160:TP Tryz.prog 160 [(0,1),(1,1),(2,1),(3,3),(6,3)]:=⟨by kernel_rfl⟩
instance:T2 Tryz.prog 160 0 (0,1) false:=⟨by kernel_rfl⟩
instance:T2 Tryz.prog 160 1 (1,1) false:=⟨by kernel_rfl⟩
instance:T2 Tryz.prog 160 2 (2,1) false:=⟨by kernel_rfl⟩
instance:T2 Tryz.prog 160 3 (3,3) true:=⟨by kernel_rfl⟩
instance:T2 Tryz.prog 160 4 (6,3) true:=⟨by kernel_rfl⟩
instance:T4 Tryz.prog 164 [Value.slice none 0 0,Value.slice none 0 0] 2 true 48:=⟨by kernel_rfl⟩
instance tp_164:TP Tryz.prog 164 [(0,1),(1,1)]:=⟨by kernel_rfl⟩
instance:T2 Tryz.prog 164 0 (0,1) false:=⟨by kernel_rfl⟩
instance:T2 Tryz.prog 164 1 (1,1) false:=⟨by kernel_rfl⟩
instance:T4 Tryz.prog 177 [Value.nilFunc] 1 false 8:=⟨by kernel_rfl⟩
instance:T4 Tryz.prog 180 [Value.slice none 0 0,Value.slice none 0 0,Value.bool false,Value.slice none 0 0,Value.slice none 0 0,Value.slice none 0 0,Value.bool false,Value.slice none 0 0,Value.slice none 0 0,Value.bool false,Value.slice none 0 0] 11 true 216:=⟨by kernel_rfl⟩
instance tp_180:TP Tryz.prog 180 [(0,5),(5,6)]:=⟨by kernel_rfl⟩
instance:T2 Tryz.prog 180 0 (0,5) true:=⟨by kernel_rfl⟩
instance:T2 Tryz.prog 180 1 (5,6) true:=⟨by kernel_rfl⟩
instance:T4 Tryz.prog 185 [Value.nilFunc] 1 false 8:=⟨by kernel_rfl⟩
instance:T4 Tryz.prog 195 [Value.nilFunc] 1 false 8:=⟨by kernel_rfl⟩
instance:T4 Tryz.prog 214 [Value.pointer none] 1 false 8:=⟨by kernel_rfl⟩
instance:T4 Tryz.prog 216 [Value.pointer none] 1 false 8:=⟨by kernel_rfl⟩
instance:T4 Tryz.prog 218 [Value.pointer none,Value.int IntKind.i64 0] 2 true 16:=⟨by kernel_rfl⟩
instance tp_218:TP Tryz.prog 218 [(0,1),(1,1)]:=⟨by kernel_rfl⟩
instance:T2 Tryz.prog 218 0 (0,1) false:=⟨by kernel_rfl⟩
instance:T2 Tryz.prog 218 1 (1,1) false:=⟨by kernel_rfl⟩
instance:T4 Tryz.prog 226 [Value.slice none 0 0,Value.bool false,Value.slice none 0 0,Value.slice none 0 0,Value.bool false,Value.slice none 0 0,Value.int IntKind.i64 0] 7 true 120:=⟨by kernel_rfl⟩
instance tp_226:TP Tryz.prog 226 [(0,6),(6,1)]:=⟨by kernel_rfl⟩
instance:T2 Tryz.prog 226 0 (0,6) true:=⟨by kernel_rfl⟩
instance:T2 Tryz.prog 226 1 (6,1) false:=⟨by kernel_rfl⟩
instance:T4 Tryz.prog 246 [Value.nilFunc] 1 false 8:=⟨by kernel_rfl⟩
instance:T4 Tryz.prog 270 [Value.slice none 0 0,Value.bool false,Value.bool false,Value.slice none 0 0,Value.bool false,Value.slice none 0 0,Value.slice none 0 0,Value.bool false,Value.slice none 0 0,Value.slice none 0 0,Value.slice none 0 0,Value.slice none 0 0,Value.bool false,Value.slice none 0 0,Value.slice none 0 0,Value.slice none 0 0] 16 true 296:=⟨by kernel_rfl⟩
instance tp_270:TP Tryz.prog 270 [(0,9),(9,1),(10,1),(11,3),(14,1),(15,1)]:=⟨by kernel_rfl⟩
instance:T2 Tryz.prog 270 0 (0,9) true:=⟨by kernel_rfl⟩
instance:T2 Tryz.prog 270 1 (9,1) false:=⟨by kernel_rfl⟩
instance:T2 Tryz.prog 270 2 (10,1) false:=⟨by kernel_rfl⟩
instance:T2 Tryz.prog 270 3 (11,3) true:=⟨by kernel_rfl⟩
instance:T2 Tryz.prog 270 4 (14,1) false:=⟨by kernel_rfl⟩
instance:T2 Tryz.prog 270 5 (15,1) false:=⟨by kernel_rfl⟩
instance:T4 Tryz.prog 271 [Value.nilFunc] 1 false 8:=⟨by kernel_rfl⟩
instance:T4 Tryz.prog 282 [Value.nilFunc] 1 false 8:=⟨by kernel_rfl⟩
instance:T4 Tryz.prog 284 [Value.nilFunc] 1 false 8:=⟨by kernel_rfl⟩
instance:T4 Tryz.prog 288 [Value.int IntKind.u64 0] 1 false 8:=⟨by kernel_rfl⟩
instance tu_288:TU Tryz.prog 288 (.int .u64):=⟨by kernel_rfl⟩
instance:T4 Tryz.prog 292 [Value.pointer none] 1 false 8:=⟨by kernel_rfl⟩
instance:T4 Tryz.prog 293 [Value.slice none 0 0] 1 false 24:=⟨by kernel_rfl⟩
instance te_293:TE Tryz.prog 293 (5,1):=⟨by kernel_rfl⟩
instance:T4 Tryz.prog 295 [Value.pointer none,Value.slice none 0 0] 2 true 32:=⟨by kernel_rfl⟩
instance tp_295:TP Tryz.prog 295 [(0,1),(1,1)]:=⟨by kernel_rfl⟩
instance:T2 Tryz.prog 295 0 (0,1) false:=⟨by kernel_rfl⟩
instance:T2 Tryz.prog 295 1 (1,1) false:=⟨by kernel_rfl⟩
instance:T4 Tryz.prog 303 [Value.nilFunc] 1 false 8:=⟨by kernel_rfl⟩
instance:T4 Tryz.prog 314 [Value.slice none 0 0,Value.slice none 0 0,Value.int IntKind.i64 0] 3 true 56:=⟨by kernel_rfl⟩
instance tp_314:TP Tryz.prog 314 [(0,1),(1,1),(2,1)]:=⟨by kernel_rfl⟩
instance:T2 Tryz.prog 314 0 (0,1) false:=⟨by kernel_rfl⟩
instance:T2 Tryz.prog 314 1 (1,1) false:=⟨by kernel_rfl⟩
instance:T2 Tryz.prog 314 2 (2,1) false:=⟨by kernel_rfl⟩
instance:T4 Tryz.prog 317 [Value.nilFunc] 1 false 8:=⟨by kernel_rfl⟩
instance:T4 Tryz.prog 323 [Value.nilFunc] 1 false 8:=⟨by kernel_rfl⟩
instance:T4 Tryz.prog 324 [Value.int IntKind.u32 0] 1 false 4:=⟨by kernel_rfl⟩
instance tu_324:TU Tryz.prog 324 (.int .u32):=⟨by kernel_rfl⟩
instance:T4 Tryz.prog 354 [Value.pointer none] 1 false 8:=⟨by kernel_rfl⟩
instance:T4 Tryz.prog 364 [Value.nilFunc] 1 false 8:=⟨by kernel_rfl⟩
instance:T4 Tryz.prog 380 [Value.pointer none] 1 false 8:=⟨by kernel_rfl⟩
instance:T3 Tryz.prog 397 24 true 24:=⟨by kernel_rfl⟩
abbrev FS:=FSpec Tryz.prog
theorem qu_(l:List Nat):FS 212 [.agg [.arr (dE l)]] (bln (l.length==0)):=by
 refine f_n Tryz.func212 ?_ ?_;exact aa_ (aB_ (aa_ (bs_ l) ac_)) ac_;refine r_z 2 ?_;refine r_z 5 ?_;refine ad_ (aE_ rfl ?_ (af_ _));simp only[bln,iF_];congr 2;rw[Bool.eq_iff_iff];simp
theorem dJ_(l:List Nat)(hl:l.length≤281474976710656):FS 263 [.arr (dE l)] (.agg [.arr (dE (trimD l))]):=by
 refine f_n Tryz.func263 ?_ ?_;exact aa_ (bs_ l) ac_;refine r_z 1 ?_;refine r_z 3 ?_;refine a2_ (fun k:Nat=>⟨[(0,.arr (dE l)),(2,.lptr 1 0 0),(3,i64 k)],[(1,some ⟨35,1,[[.emp]]⟩)],2,23⟩) (fun k=>k≤l.length∧trimD l=l.take k) ?_ ?_;refine ae_ (as_ (fun k:Nat=>⟨[(0,.arr (dE l)),(2,.lptr 1 0 0),(3,i64 k)],[(1,some ⟨35,1,[[.emp]]⟩)],2,23⟩) (fun k=>k) (fun k=>k≤l.length∧∀i,k≤i→i< l.length→l[i]?=some 0) l.length ⟨Nat.le_refl _,fun i h1 h2=>by omega⟩ ?_ ?_);exact s_e [];rintro k ⟨hk,hz⟩;have fin:k=0∨l[k- 1]?≠some 0→trimD l=l.take k:=fp_ l k hk hz;by_cases h0:k=0;subst h0;refine ab_ (s_r 10 ?_);refine a_3 ?_;refine n_g rfl d_f ?_;refine n_g rfl d_f ?_;refine n_g rfl d_f ?_;refine n_g rfl d_f ?_;refine n_g rfl d_f ?_;refine n_g rfl d_f ?_;refine o_0 (.pickF rfl d_f rfl) ?_;refine ak_ ?_;refine ai_ rfl (fun h=>?_) (fun _=>?_);cases h;refine ar_ ⟨0,⟨hk,fin (.inl rfl)⟩,?_⟩;exact s_e [];have hk1:k- 1< l.length:=by omega
 obtain⟨d,hd⟩:∃d,l[k- 1]?=some d:=⟨_,List.getElem?_eq_getElem hk1⟩;have hd':(dE l)[((k:Int)- 1).toNat]?=some [u32 d]:=by rw[show((k:Int)- 1).toNat=k- 1 by omega];exact cd_ hd
 refine ab_ (s_r 10 ?_);refine a_3 ?_;refine y_g rfl d_t (.move rfl) ?_;refine y_g rfl d_t (.move rfl) ?_;refine y_g rfl d_t (.bin rfl rfl (hH_ (by omega))) ?_
 first|refine y_g rfl d_t (.index_l rfl rfl (by omega) (by omega) te_33.h) ?_|refine y_g rfl d_t (.index_a rfl rfl (by omega) hd' rfl te_33.h) ?_
 first|refine y_g rfl d_t (.load_l1 rfl rfl hd' TG.h rfl) ?_|refine y_g rfl d_t (.load_a1 rfl hd' TG.h rfl) ?_
 refine y_g rfl d_t (.bin rfl rfl bF_) ?_;refine o_0 (.pickT rfl d_t rfl) ?_;refine ak_ ?_;refine ai_ rfl (fun h=>?_) (fun h=>?_);refine ag_ ?_;have hd0:d=0:=by simpa using h
 subst hd0;refine ae_ (r_m 3 ?_);refine a_z ?_;refine⟨k- 1,by omega,⟨by omega,fun i h1 h2=>?_⟩,?_⟩;by_cases hi:i=k- 1;rw[hi];exact hd;exact hz i (by omega) h2;exact s_e [];refine ar_ ⟨k,⟨hk,fin (.inr ?_)⟩,?_⟩;rw[hd];simp at h⊢;omega;exact s_e [];rintro k ⟨hk,ht⟩;refine s_r 6 ?_;refine a_3 ?_;refine o_0 (.sa_hm rfl rfl rfl rfl rfl ⟨Nat.le_refl _,by simpa using hk⟩ te_33.h (mO_ l)) ?_;refine a_z ?_;refine ad_ (cc_ rfl rfl rfl TG.h TS.h (nle rfl) ?_ (aB_ (aa_ (bs_ _) ac_)));rw[ht,←rn_];rfl
theorem jA_(z:Int):FS 325 [i64 z] (bln false):=by
 refine f_c Tryz.func325 ?_;refine r_z 1 ?_;refine r_z 4 ?_;refine ad_ (aE_ rfl ?_ (af_ _));simp[bln]
theorem jz_(z:Nat):FS 326 [u32 z] (bln false):=by
 refine f_c Tryz.func326 ?_;refine r_z 1 ?_;refine r_z 4 ?_;refine ad_ (aE_ rfl ?_ (af_ _));simp[bln]
theorem lA_(a b:Int):FS 267 [i64 a,i64 b] (i64 (cmpZ a b)):=by
 refine f_c Tryz.func267 ?_;refine r_z 1 ?_;refine r_c 3 (jA_ a) ?_;refine a_z ?_;refine r_c 3 (jA_ b) ?_;refine a_z ?_;refine ab_ (r_z 1 ?_);refine ai_ rfl (fun h=>?_) (fun _=>ag_ ?_);cases h;refine ab_ (r_z 1 ?_);refine ai_ rfl (fun h=>?_) (fun _=>ag_ ?_);cases h;refine ab_ (r_z 3 ?_);refine ai_ rfl (fun h=>?_) (fun h=>ag_ ?_);refine r_z 1 ?_;refine ad_ (aE_ rfl ?_ (af_ _));simp at h;simp[i64,ofV,cmpZ,h];refine ab_ (r_z 3 ?_);refine ai_ rfl (fun h'=>?_) (fun h'=>ag_ ?_);refine r_z 1 ?_;refine ad_ (aE_ rfl ?_ (af_ _));simp at h h';simp[i64,ofV,cmpZ];omega;refine r_z 1 ?_;refine ad_ (aE_ rfl ?_ (af_ _));simp at h h';simp[i64,ofV,cmpZ];omega
theorem lz_(a b:Nat):FS 268 [u32 a,u32 b] (i64 (cmpZ a b)):=by
 refine f_c Tryz.func268 ?_;refine r_z 1 ?_;refine r_c 3 (jz_ a) ?_;refine a_z ?_;refine r_c 3 (jz_ b) ?_;refine a_z ?_;refine ab_ (r_z 1 ?_);refine ai_ rfl (fun h=>?_) (fun _=>ag_ ?_);cases h;refine ab_ (r_z 1 ?_);refine ai_ rfl (fun h=>?_) (fun _=>ag_ ?_);cases h;refine ab_ (r_z 3 ?_);refine ai_ rfl (fun h=>?_) (fun h=>ag_ ?_);refine r_z 1 ?_;refine ad_ (aE_ rfl ?_ (af_ _));simp at h;simp[i64,ofV,cmpZ,h];refine ab_ (r_z 3 ?_);refine ai_ rfl (fun h'=>?_) (fun h'=>ag_ ?_);refine r_z 1 ?_;refine ad_ (aE_ rfl ?_ (af_ _));simp at h h';simp[i64,ofV,cmpZ];omega;refine r_z 1 ?_;refine ad_ (aE_ rfl ?_ (af_ _));simp at h h';simp[i64,ofV,cmpZ];omega
theorem digs_one{n:Nat}:(digs MB n).length=1∧(digs MB n)[0]?=some 1↔n=1:=by
 constructor;rintro⟨h1,h2⟩;have:=aO_ (b:=MB) (by decide) n
 match hd:digs MB n,h1,h2 with
 |[d],_,h2=>rw[hd] at this;simp at h2;subst h2;simpa[ofD] using this.symm
 rintro rfl;rw[cM_ (by decide) (by decide)];rw[show 1/ MB=0 by decide,bh_];simp
theorem fs_one(n:Nat):FS 227 [.agg [mag n]] (bln (n==1)):=by
 refine f_c Tryz.func227 ?_;refine r_z 2 ?_;by_cases h1:(digs MB n).length=1;obtain⟨d,hd⟩:∃d,(digs MB n)[0]?=some d:=⟨_,List.getElem?_eq_getElem (by omega)⟩;have hd':(dE (digs MB n))[(0:Int).toNat]?=some [u32 d]:=cd_ hd;refine s_r 12 ?_;refine a_5 ?_
 first|refine y_g rfl (by simp;omega) (.fieldAddr_l rfl TF.h (by decide)) ?_|refine y_g rfl (by simp;omega) (.fieldAddr_a rfl TF.h (by decide)) ?_
 first|refine y_g rfl (by simp;omega) (.load_l1 rfl rfl rfl TG.h rfl) ?_|refine y_g rfl (by simp;omega) (.load_a1 rfl rfl TG.h rfl) ?_
 first|refine y_g rfl (by simp;omega) (.index_l rfl rfl (by omega) (by omega) te_33.h) ?_|refine y_g rfl (by simp;omega) (.index_a rfl rfl (by omega) hd' rfl te_33.h) ?_
 first|refine y_g rfl (by simp;omega) (.load_l1 rfl rfl hd' TG.h rfl) ?_|refine y_g rfl (by simp;omega) (.load_a1 rfl hd' TG.h rfl) ?_
 refine y_g rfl (by simp;omega) (.bin rfl rfl bF_) ?_;refine o_0 (.pickT rfl (by simp;omega) rfl) ?_;refine a_z ?_;refine ad_ (aE_ rfl ?_ (af_ _));simp only[bln];congr 2;rw[Bool.eq_iff_iff];have:=digs_one (n:=n);simp only[h1,hd,true_and,Option.some.injEq] at this;simp only[beq_iff_eq,←this];omega;refine s_r 12 ?_;refine a_5 ?_;refine n_g rfl (by simp;omega) ?_;refine n_g rfl (by simp;omega) ?_;refine n_g rfl (by simp;omega) ?_;refine n_g rfl (by simp;omega) ?_;refine n_g rfl (by simp;omega) ?_;refine o_0 (.pickF rfl (by simp;omega) rfl) ?_;refine a_z ?_;refine ad_ (aE_ rfl ?_ (af_ _));simp only[bln,ofV];congr 2;symm;rw[beq_eq_false_iff_ne];intro h;exact h1 (digs_one.2 h).1
def m5_(n:Nat):Nat→AState
 |0=>⟨[(0,u64 n),(2,.lptr 1 0 0),(3,.emp)],[(1,some ⟨35,1,[[.emp]]⟩)],2,16⟩
 |k+1=>⟨[(0,u64 (restD n (k+1))),(2,.lptr 1 0 0),(3,.lsl 2 0 (k+1) none 1)],[(1,some ⟨35,1,[[.emp]]⟩),(2,some ⟨324,1,dE (preD n (k+1))⟩)],3,16⟩
theorem do_(n:Nat)(h:n< 18446744073709551616):FS 230 [u64 n] (.agg [mag n]):=by
 have hlen:(digs MB n).length≤3:=cK_ (by decide) (Nat.lt_of_lt_of_le h (by decide));refine f_c Tryz.func230 ?_;refine r_z 1 ?_;refine r_z 1 ?_;refine a2_ (m5_ n) (fun k=>k=(digs MB n).length) ?_ ?_;refine ae_ (as_ (m5_ n) (fun k=>(digs MB n).length- k) (fun k=>k≤(digs MB n).length) 0 (Nat.zero_le _) ?_ ?_);rw[m5_.eq_1];exact s_e [];rintro k hk;have hle:=restD_le hk;have hz:=restD_eq hk;have hpl:=fM_ hk;cases k with
 |zero=>
  rw[jo_] at hz;refine ab_ (r_z 2 ?_);refine ai_ rfl (fun h=>?_) (fun h=>?_);refine ag_ ?_;have h0:0< n:=by simpa using h
  have hl1:0< (digs MB n).length:=by omega
  obtain⟨hq,ht⟩:=jp_ hl1;rw[jo_] at hq ht;refine ab_ (ae_ (r_m 7 ?_));refine a_z ?_;refine r_m 3 ?_;refine a_z ?_;refine⟨1,by omega,hl1,?_⟩;rw[m5_.eq_2];refine s_x [(2,3)] (fun hs=>?_) (fun hs=>?_) ?_
  ·repeat' (first|exact a9_|refine aV_ rfl ?_ ?_|exact au_c|(refine Cv.loE hs ?_ (af_ _);first|rfl|(simp[i64,u64,u32,bln,hq,ht,dQ_];done)|(simp[i64,u64,u32,bln,hq,ht,dQ_]<;> omega)))
  ·repeat' (first|exact aC_|refine h_c ?_ ?_|exact au_e|(refine aJ_ hs ?_ (aX_ _);first|(simp[ec_,fg_,dA_,hq,ht,dQ_];done)|(simp[dE,u32,ofV,hq,ht,dQ_];done))|refine aA_ ?_|exact aq_|refine ah_ ?_ ?_|exact au_c|(refine Cv.loE hs ?_ (af_ _);first|(simp[i64,u64,u32,bln,hq,ht,dQ_];done)|(simp[i64,u64,u32,bln,hq,ht,dQ_]<;> omega)))
  ·repeat' (first|exact ShrL.nil|refine ShrL.cons rfl rfl rfl rfl (by first|rfl|(simp;done)|(simp[hq,ht,dQ_]<;> omega)) ?_)
  refine ar_ ⟨0,?_,?_⟩;have:¬0< n:=by simpa using h
  omega;rw[m5_.eq_1];exact s_e []
 |succ k=>
  rw[m5_.eq_2];refine ab_ (r_z 2 ?_);refine ai_ rfl (fun h=>?_) (fun h=>?_);refine ag_ ?_;have h0:0< restD n (k+1):=by simpa using h
  have hl1:k+1< (digs MB n).length:=by omega
  obtain⟨hq,ht⟩:=jp_ hl1;refine ab_ (ae_ (r_m 7 ?_));refine a_z ?_;refine r_m 3 ?_;refine a_z ?_;refine⟨k+1+1,by omega,hl1,?_⟩;rw[m5_.eq_2];refine s_x [(2,3)] (fun hs=>?_) (fun hs=>?_) ?_
  ·repeat' (first|exact a9_|refine aV_ rfl ?_ ?_|exact au_c|(refine Cv.loE hs ?_ (af_ _);first|rfl|(simp[i64,u64,u32,bln,hq,ht,hpl];done)|(simp[i64,u64,u32,bln,hq,ht,hpl]<;> omega)))
  ·repeat' (first|exact aC_|refine h_c ?_ ?_|exact au_e|(refine aJ_ hs ?_ (aX_ _);first|(simp[ec_,fg_,dA_,hq,ht,hpl];done)|(simp[dE,u32,ofV,hq,ht,hpl];done))|refine aA_ ?_|exact aq_|refine ah_ ?_ ?_|exact au_c|(refine Cv.loE hs ?_ (af_ _);first|(simp[i64,u64,u32,bln,hq,ht,hpl];done)|(simp[i64,u64,u32,bln,hq,ht,hpl]<;> omega)))
  ·repeat' (first|exact ShrL.nil|refine ShrL.cons rfl rfl rfl rfl (by first|rfl|(simp;done)|(simp[hq,ht,hpl]<;> omega)) ?_)
  refine ar_ ⟨k+1,?_,?_⟩;have:¬0< restD n (k+1):=by simpa using h
  omega;rw[m5_.eq_2];exact s_e []
 rintro k rfl;cases hk:(digs MB n).length with
 |zero=>
  rw[m5_.eq_1];refine r_z 3 ?_;refine ad_ (Fin.cell rfl rfl rfl TG.h TS.h (nle rfl) (Cv.agg (ah_ (Cv.emp _ ?_) aq_)));unfold mag;rw[List.length_eq_zero_iff] at hk;rw[hk];rfl
 |succ k=>
  rw[m5_.eq_2];refine r_z 3 ?_;refine ad_ (Fin.cell rfl rfl rfl TG.h TS.h (nle rfl) (Cv.agg (ah_ (Cv.shut av_ rfl (fun _ _ h=>by cases h) ?_ ?_) aq_)));simp[fM_ (Nat.le_of_eq hk.symm)];refine aJ_ av_ ?_ (aX_ _);have h1:(preD n (k+1)).length=k+1:=fM_ (Nat.le_of_eq hk.symm);have h2:=preD_end n;rw[hk] at h2;simp only[List.drop_zero,rn_];rw[List.take_of_length_le (Nat.le_of_eq h1),h2]
def plusS(p:Nat)(q:Nat):List Nat×Nat→AState
 |(s,c)=>⟨[(26,i64 s.length),(25,i64 (digs MB p).length),(24,mag p),(2,.lptr 1 0 0),(3,.lptr 2 0 0),(4,.lptr 3 0 0),(5,.lsl 4 0 ((digs MB p).length+1) (some ((digs MB p).length+1)) 1),(6,u32 c)],
  [(1,some ⟨35,1,[[mag p]]⟩),(2,some ⟨35,1,[[mag q]]⟩),(3,some ⟨35,1,[[.emp]]⟩),(4,some ⟨324,1,dE (s++List.replicate ((digs MB p).length+1- s.length) 0)⟩)],5,63⟩
structure PlusI (p q:Nat)(a:List Nat×Nat):Prop where
 le:a.1.length≤(digs MB p).length
 dig:∀d∈a.1,d< MB
 car:a.2≤1
 val:ofD MB a.1+MB^ a.1.length* a.2=ofD MB ((digs MB p).take a.1.length)+ofD MB ((digs MB q).take a.1.length)
theorem mw_(a b:Nat)(h:bl a+bl b≤17592186044416):FS 262 [.agg [mag a],.agg [mag b]] (.agg [mag (a+b)]):=by
 have hla:=aZ_ (b:=MB) (by decide) a;have hlb:=aZ_ (b:=MB) (by decide) b;refine f_c Tryz.func262 ?_;refine r_z 3 ?_;refine ab_ (r_z 7 ?_)
 refine ay_ (fun x:Nat×Nat=>⟨[(2,.lptr 1 0 0),(3,.lptr 2 0 0),(4,.lptr 3 0 0)],[(1,some ⟨35,1,[[mag x.1]]⟩),(2,some ⟨35,1,[[mag x.2]]⟩),(3,some ⟨35,1,[[.emp]]⟩)],4,63⟩)
  (fun x=>x.1+x.2=a+b∧(digs MB x.2).length≤(digs MB x.1).length∧(digs MB x.1).length≤17592186044416) ?_ ?_
 refine ai_ rfl (fun h=>?_) (fun h=>?_);refine r_m 4 ?_;refine a_z ?_;refine⟨(b,a),⟨by simp;omega,?_,by simp;omega⟩,?_⟩;simp at h;simp;omega;exact s_e [];refine ag_ ⟨(a,b),⟨rfl,?_,by simp;omega⟩,?_⟩;simp at h;simpa using h;exact s_e [];rintro⟨p,q⟩ ⟨hpq,hqp,hp⟩;simp only at hpq hqp hp⊢;refine r_z 6 ?_;refine r_z 1 ?_;refine ab_ (r_z 4 ?_);refine ay_ (plusS p q) (fun x=>PlusI p q x∧x.1.length=(digs MB p).length) ?_ ?_;refine ae_ (as_ (plusS p q) (fun x=>(digs MB p).length- x.1.length) (PlusI p q) ([],0) ⟨by simp,by simp,by simp,by simp[ofD]⟩ ?_ ?_);rw[plusS.eq_1];exact s_e [(4,5)];rintro⟨s,c⟩ ⟨hle,hdig,hcar,hval⟩;simp only at hle hdig hcar hval;rw[plusS.eq_1];refine r_z 1 ?_;refine ab_ (ai_ rfl (fun h=>?_) (fun h=>?_));refine ag_ ?_;have hlt:s.length< (digs MB p).length:=by simpa using h
 obtain⟨x,hx⟩:∃x,(digs MB p)[s.length]?=some x:=⟨_,List.getElem?_eq_getElem hlt⟩;have hx1:x< 1000000000:=be_ (by decide) hx;have hx':(dE (digs MB p))[((s.length:Nat):Int).toNat]?=some [u32 x]:=cd_ hx;refine ab_ (ae_ (s_r 5 ?_));refine a_1 ?_;refine i_x hx' ?_;refine l_1 hx' ?_;refine a_z ?_;refine r_z 4 ?_;refine ab_ (r_z 5 ?_)
 have hq0:∀y,((digs MB q)[s.length]?.getD 0=y)→y< 1000000000:=by
  rintro y rfl;cases hy:(digs MB q)[s.length]? with
  |none=>decide
  |some y=>exact be_ (by decide) hy
 refine ay_ (fun v:Nat=>⟨[(26,i64 s.length),(25,i64 (digs MB p).length),(24,mag p),(2,.lptr 1 0 0),(3,.lptr 2 0 0),(4,.lptr 3 0 0),(5,.lsl 4 0 ((digs MB p).length+1) (some ((digs MB p).length+1)) 1),(7,i64 s.length),(8,u32 v)],
  [(1,some ⟨35,1,[[mag p]]⟩),(2,some ⟨35,1,[[mag q]]⟩),(3,some ⟨35,1,[[.emp]]⟩),(4,some ⟨324,1,dE (s++List.replicate ((digs MB p).length+1- s.length) 0)⟩)],5,63⟩)
  (fun v=>v=x+c+(digs MB q)[s.length]?.getD 0) ?_ ?_
 refine ai_ rfl (fun h=>?_) (fun h=>?_);have hlt2:s.length< (digs MB q).length:=by simpa using h
 obtain⟨y,hy⟩:∃y,(digs MB q)[s.length]?=some y:=⟨_,List.getElem?_eq_getElem hlt2⟩;have hy1:y< 1000000000:=be_ (by decide) hy;have hy':(dE (digs MB q))[((s.length:Nat):Int).toNat]?=some [u32 y]:=cd_ hy;refine r_m 8 ?_;refine a_4 ?_;refine i_x hy' ?_;refine l_1 hy' ?_;refine a_z ?_;refine⟨x+c+y,by rw[hy];rfl,?_⟩;exact s_e [];have hlt2:¬s.length< (digs MB q).length:=by simpa using h
 refine ag_ ⟨x+c,by rw[List.getElem?_eq_none (by omega)];rfl,?_⟩;exact s_e [];rintro v hv;obtain⟨y,hy⟩:∃y,y=(digs MB q)[s.length]?.getD 0:=⟨_,rfl⟩;have hy1:=hq0 y hy.symm;rw[←hy] at hv;refine r_z 1 ?_;refine ab_ (r_z 2 ?_)
 have hg:(dE (s++List.replicate ((digs MB p).length+1- s.length) 0))[0+((s.length:Nat):Int).toNat]?=some [u32 0]:=by
  rw[Nat.zero_add,Int.toNat_natCast];exact cd_ (by rw[show(digs MB p).length+1- s.length=((digs MB p).length- s.length)+1 by omega];exact nw_ _ _ _ rfl)
 have hset:∀w:Nat,(dE (s++List.replicate ((digs MB p).length+1- s.length) 0)).set (0+((s.length:Nat):Int).toNat) [u32 w]=dE ((s++[w])++List.replicate ((digs MB p).length+1- (s++[w]).length) 0):=by
  intro w;rw[Nat.zero_add,Int.toNat_natCast,ec_,show(digs MB p).length+1- s.length=((digs MB p).length- s.length)+1 by omega,m7_ _ _ _ _ rfl,show(digs MB p).length+1- (s++[w]).length=(digs MB p).length- s.length by simp]
 have hnext:∀w c',w+1000000000* c'=x+c+y→w< 1000000000→c'≤1→PlusI p q (s++[w],c'):=by
  intro w c' hw hwb hc';refine⟨by simp;omega,?_,hc',?_⟩;intro d hd;rcases List.mem_append.1 hd with hd|hd
  exact hdig d hd;simp at hd;subst hd;exact hwb;simp only[List.length_append,List.length_singleton];rw[dE_,bi_ _ hx,cl_,←hy,Nat.pow_succ];have e:MB^ s.length* w+MB^ s.length* MB* c'=MB^ s.length* (w+MB* c'):=by rw[Nat.mul_add,Nat.mul_assoc]
  have e2:MB^ s.length* (x+c+y)=MB^ s.length* x+MB^ s.length* c+MB^ s.length* y:=by rw[Nat.mul_add,Nat.mul_add]
  rw[hw,e2] at e;omega
 refine ai_ rfl (fun h=>?_) (fun h=>?_);have hb:1000000000≤v:=by have:=of_decide_eq_true h;omega
 have hv1:((v:Int)- 1000000000)=((v- 1000000000:Nat):Int):=by omega
 refine r_m 4 ?_;refine a_z ?_;refine r_m 5 ?_;refine a_4 ?_;refine o_1n (.store rfl rfl hg rfl rfl rfl TS.h (nle rfl)) ?_;refine ak_ ?_;refine r_m 2 ?_;refine a_z ?_;refine⟨(s++[v- 1000000000],1),by simp;omega,hnext _ _ (by omega) (by omega) (Nat.le_refl _),?_⟩;rw[plusS.eq_1];exact s_x [] (fun hs=>au_f) (fun hs=>e_17);have hb:v< 1000000000:=by have:=of_decide_eq_false h;omega
 refine ag_ (r_m 5 ?_);refine a_4 ?_;refine o_1n (.store rfl rfl hg rfl rfl rfl TS.h (nle rfl)) ?_;refine ak_ ?_;refine r_m 2 ?_;refine a_z ?_;refine⟨(s++[v],0),by simp;omega,hnext _ _ (by omega) hb (by omega),?_⟩;rw[plusS.eq_1];exact s_x [] (fun hs=>au_f) (fun hs=>e_18);refine ar_ ⟨(s,c),⟨⟨hle,hdig,hcar,hval⟩,?_⟩,?_⟩;simp at h;simp;omega;rw[plusS.eq_1];exact s_e [];rintro⟨s,c⟩ ⟨⟨hle,hdig,hcar,hval⟩,hlen⟩;simp only at hle hdig hcar hval hlen
 have hg:(dE (s++List.replicate ((digs MB p).length+1- s.length) 0))[0+(((digs MB p).length:Nat):Int).toNat]?=some [u32 0]:=by
  rw[Nat.zero_add,Int.toNat_natCast,←hlen];exact cd_ (by rw[show s.length+1- s.length=0+1 by omega];exact nw_ _ _ _ rfl)
 have hset:(dE (s++List.replicate ((digs MB p).length+1- s.length) 0)).set (0+(((digs MB p).length:Nat):Int).toNat) [u32 c]=dE (s++[c]):=by
  rw[Nat.zero_add,Int.toNat_natCast,←hlen,ec_,show s.length+1- s.length=0+1 by omega,m7_ _ _ _ _ rfl];simp
 have hres:trimD (s++[c])=digs MB (a+b):=by
  rw[eF_ (b:=MB) (by decide),dE_,hval,dw_ _ (by omega),dw_ _ (by omega),aO_ (by decide),aO_ (by decide),hpq];intro d hd;rcases List.mem_append.1 hd with hd|hd
  exact hdig d hd;simp at hd;subst hd;show d< 1000000000;omega
 rw[plusS.eq_1];refine s_r 7 ?_;refine a_6 ?_;refine o_1n (.store rfl rfl hg rfl rfl rfl TS.h (nle rfl)) ?_;refine ak_ ?_;refine AWp.ent (st':=⟨[(4,.lptr 3 0 0),(5,.arr (dE (s++[c])))],[(3,some ⟨35,1,[[.emp]]⟩)],4,63⟩) ?_ ?_;refine s_x [] (fun hs=>?_) (fun hs=>?_)
 ·repeat' (first|exact a9_|refine aV_ rfl ?_ ?_|exact Cv.sealE hs rfl (a7_ rfl) hset (by simp[hlen]) (aX_ _)|exact au_c)
 ·repeat' (first|exact aC_|refine h_c ?_ ?_|exact au_e|refine aA_ ?_|exact aq_|refine ah_ ?_ ?_|exact Cv.sealE hs rfl (a7_ rfl) hset (by simp[hlen]) (aX_ _)|exact au_c)
 refine s_r 3 ?_;refine o_0 (.move rfl) ?_;refine o_0 (.call rfl rfl rfl (dJ_ _ (by simp;omega))) ?_;refine a_z ?_;refine ad_ (cc_ rfl rfl rfl TG.h TS.h (nle rfl) ?_ (aB_ (aa_ (a5_ _) ac_)));rw[hres];rfl
def agS(a:Nat)(b:Nat):Nat→AState
 |k=>⟨[(2,.lptr 1 0 0),(3,.lptr 2 0 0),(6,i64 ((k:Int)- 1))],[(1,some ⟨35,1,[[mag a]]⟩),(2,some ⟨35,1,[[mag b]]⟩)],3,40⟩
theorem gK_(a b:Nat)(h:bl a+bl b≤17592186044416):FS 157 [.agg [mag a],.agg [mag b]] (i64 (cmpZ a b)):=by
 have hla:=aZ_ (b:=MB) (by decide) a;have hlb:=aZ_ (b:=MB) (by decide) b;refine f_c Tryz.func157 ?_;refine r_z 3 ?_;refine ab_ (r_c 8 (lA_ _ _) ?_);refine a_z ?_;refine r_z 2 ?_;refine ai_ rfl (fun h=>?_) (fun h=>?_);have hne:cmpZ (digs MB a).length (digs MB b).length≠0:=by simpa using h
 refine r_z 2 ?_;refine ad_ (aE_ rfl ?_ (af_ _));unfold i64;congr 2;rw[kx_] at hne;rcases Nat.lt_or_ge (digs MB a).length (digs MB b).length with hl|hl
 have:=en_ (by decide) hl;rw[f0_ (by omega),f0_ (by omega)];have:=en_ (m:=b) (n:=a) (b:=MB) (by decide) (by omega);rw[gT_ (by omega),gT_ (by omega)]
 have heq:(digs MB a).length=(digs MB b).length:=by
  have h0:¬cmpZ (digs MB a).length (digs MB b).length≠0:=by simpa using h
  rw[kx_] at h0;omega
 refine ag_ (ab_ (r_z 5 ?_));refine ay_ (agS a b) (fun k=>k=0∧a=b) ?_ ?_;refine ae_ (as_ (agS a b) (fun k=>k) (fun k=>k≤(digs MB a).length∧(digs MB a).drop k=(digs MB b).drop k) (digs MB a).length ⟨Nat.le_refl _,by rw[List.drop_length,heq,List.drop_length]⟩ ?_ ?_);rw[agS.eq_1];exact s_e [];rintro k ⟨hk,hd⟩;rw[agS.eq_1];refine ab_ (r_z 2 ?_);refine ai_ rfl (fun h=>?_) (fun h=>?_);have hk0:0< k:=by have:=of_decide_eq_true h;omega
 obtain⟨x,hx⟩:∃x,(digs MB a)[k- 1]?=some x:=⟨_,List.getElem?_eq_getElem (by omega)⟩;obtain⟨y,hy⟩:∃y,(digs MB b)[k- 1]?=some y:=⟨_,List.getElem?_eq_getElem (by omega)⟩;have hx':(dE (digs MB a))[((k:Int)- 1).toNat]?=some [u32 x]:=by rw[show((k:Int)- 1).toNat=k- 1 by omega];exact cd_ hx
 have hy':(dE (digs MB b))[((k:Int)- 1).toNat]?=some [u32 y]:=by rw[show((k:Int)- 1).toNat=k- 1 by omega];exact cd_ hy
 rw[show k=(k- 1)+1 by omega] at hd;refine ag_ (ab_ (ae_ (ab_ (r_d hmix 12 ?_))));refine a_3 ?_;refine i_x hx' ?_;refine l_1 hx' ?_;refine a_3 ?_;refine i_x hy' ?_;refine l_1 hy' ?_;refine c_s (lz_ x y) ?_;refine a_1 ?_;refine ak_ (n_k ?_);refine r_z 2 ?_;refine ai_ rfl (fun h2=>?_) (fun h2=>?_);have hne:cmpZ x y≠0:=by simpa using h2
 refine r_z 2 ?_;refine ad_ (aE_ rfl ?_ (af_ _));unfold i64;congr 2;rw[kx_] at hne;rcases Nat.lt_or_ge x y with hl|hl
 have:=gf_ (b:=MB) (b8_ (by decide) a) hx hy hd hl;rw[aO_ (by decide),aO_ (by decide)] at this;rw[f0_ (by omega),f0_ (by omega)];have:=gf_ (b:=MB) (b8_ (by decide) b) hy hx hd.symm (by omega);rw[aO_ (by decide),aO_ (by decide)] at this;rw[gT_ (by omega),gT_ (by omega)]
 have hxy:x=y:=by
  have h0:¬cmpZ x y≠0:=by simpa using h2
  rw[kx_] at h0;omega
 refine ag_ (r_m 3 ?_);refine a_z ?_;refine⟨k- 1,by omega,⟨by omega,?_⟩,?_⟩;rw[c8_ hx,c8_ hy,hd,hxy];rw[agS.eq_1];exact s_e [];have hk0:k=0:=by have:=of_decide_eq_false h;omega
 subst hk0;refine ar_ ⟨0,⟨rfl,?_⟩,?_⟩;have:=congrArg (ofD MB) hd;rwa[List.drop_zero,List.drop_zero,aO_ (by decide),aO_ (by decide)] at this;rw[agS.eq_1];exact s_e [];rintro k ⟨rfl,hab⟩;rw[agS.eq_1];refine r_z 1 ?_;refine ad_ (aE_ rfl ?_ (af_ _));subst hab;rw[rs_ rfl];rfl
def leS(a:Nat)(b:Nat):List Nat×Nat→AState
 |(s,c)=>⟨[(19,i64 s.length),(18,i64 (digs MB a).length),(2,.lptr 1 0 0),(3,.lptr 2 0 0),(4,.lptr 3 0 0),(5,.lsl 4 0 (digs MB a).length (some (digs MB a).length) 1),(6,u32 c)],
  [(1,some ⟨35,1,[[mag a]]⟩),(2,some ⟨35,1,[[mag b]]⟩),(3,some ⟨35,1,[[.emp]]⟩),(4,some ⟨324,1,dE (s++(digs MB a).drop s.length)⟩)],5,61⟩
def leT(n:Nat):List Nat×Unit→AState
 |(o,u)=>⟨[(4,.lptr 3 0 0),(5,.lsl 4 0 n (some n) 1)],
  [(3,some ⟨35,1,[[.emp]]⟩),(4,some ⟨324,1,dE o⟩)],5,61⟩
structure LessI (a b:Nat)(x:List Nat×Nat):Prop where
 le:x.1.length≤(digs MB a).length
 dig:∀d∈x.1,d< MB
 car:x.2≤1
 val:ofD MB x.1+ofD MB ((digs MB b).take x.1.length)=ofD MB ((digs MB a).take x.1.length)+MB^ x.1.length* x.2
theorem my_(a b:Nat)(h:bl a≤17592186044416)(hba:b≤a):FS 229 [.agg [mag a],.agg [mag b]] (.agg [mag (a- b)]):=by
 have hla:=aZ_ (b:=MB) (by decide) a;have hlen:=nt_ (b:=MB) (by decide) hba;have va:=aO_ (b:=MB) (by decide) a;have vb:=aO_ (b:=MB) (by decide) b;refine f_c Tryz.func229 ?_;refine r_z 3 ?_;refine r_z 5 ?_;refine s_r 4 ?_;refine a_3 ?_;refine o_1 (.copy rfl rfl rfl te_33.h rfl rfl rfl (by first|(simp;done)|(simp;omega)) (by first|exact ed_ _|exact d9_ _|exact d7_ _|exact ee_ _|exact d5_ _|rfl|simp) rfl (.arr (mO_ _))) ?_;refine ak_ ?_
 have hcp:setAt (List.replicate (digs MB a).length [ofV (Value.int IntKind.u32 0)]) 0 (List.take (Nat.min (dE (digs MB a)).length (digs MB a).length) (dE (digs MB a)))=dE ([]++(digs MB a).drop 0):=by
  rw[pt_];rw[List.take_of_length_le (by simp)];rfl;simp
 refine r_z 1 ?_;refine ab_ (r_z 3 ?_);refine ay_ (leT (digs MB a).length) (fun x=>(∀d∈x.1,d< MB)∧x.1.length=(digs MB a).length∧ofD MB x.1=a- b) ?_ ?_;refine ae_ (as_ (leS a b) (fun x=>(digs MB a).length- x.1.length) (LessI a b) ([],0) ⟨by simp,by simp,by simp,by simp[ofD]⟩ ?_ ?_);rw[leS.eq_1];exact s_x [(4,5)] (fun hs=>au_f) (fun hs=>e_20) e_19;rintro⟨s,c⟩ ⟨hle,hdig,hcar,hval⟩;simp only at hle hdig hcar hval;rw[leS.eq_1];refine r_z 1 ?_;refine ab_ (ai_ rfl (fun h=>?_) (fun h=>?_));have hlt:s.length< (digs MB a).length:=by have:=of_decide_eq_true h;omega
 obtain⟨x,hx⟩:∃x,(digs MB a)[s.length]?=some x:=⟨_,List.getElem?_eq_getElem hlt⟩;have hx1:x< 1000000000:=be_ (by decide) hx;have hdx:=c8_ hx;refine ag_ (ab_ (ae_ (r_z 2 ?_)));refine r_z 2 ?_;refine ab_ (r_z 5 ?_)
 refine ay_ (fun v:Nat=>⟨[(19,i64 s.length),(18,i64 (digs MB a).length),(2,.lptr 1 0 0),(3,.lptr 2 0 0),(4,.lptr 3 0 0),(5,.lsl 4 0 (digs MB a).length (some (digs MB a).length) 1),(6,u32 c),(7,i64 s.length),(8,u32 v)],
  [(1,some ⟨35,1,[[mag a]]⟩),(2,some ⟨35,1,[[mag b]]⟩),(3,some ⟨35,1,[[.emp]]⟩),(4,some ⟨324,1,dE (s++(digs MB a).drop s.length)⟩)],5,61⟩)
  (fun v=>v=c+(digs MB b)[s.length]?.getD 0∧v≤1000000000) ?_ ?_
 refine ai_ rfl (fun h=>?_) (fun h=>?_);have hlt2:s.length< (digs MB b).length:=by have:=of_decide_eq_true h;omega
 obtain⟨y,hy⟩:∃y,(digs MB b)[s.length]?=some y:=⟨_,List.getElem?_eq_getElem hlt2⟩;have hy1:y< 1000000000:=be_ (by decide) hy;have hy':(dE (digs MB b))[((s.length:Nat):Int).toNat]?=some [u32 y]:=cd_ hy;refine r_m 8 ?_;refine a_4 ?_;refine i_x hy' ?_;refine l_1 hy' ?_;refine a_z ?_;refine⟨c+y,⟨by rw[hy];rfl,by omega⟩,?_⟩;exact s_e [];have hlt2:¬s.length< (digs MB b).length:=by have:=of_decide_eq_false h;omega
 refine r_z 2 ?_;refine ai_ rfl (fun h=>?_) (fun h=>?_);have hc0:c=0:=by simpa using h
 refine ar_ ⟨(s++(digs MB a).drop s.length,()),⟨?_,by simp;omega,?_⟩,?_⟩;intro d hd;rcases List.mem_append.1 hd with hd|hd
 exact hdig d hd;exact b8_ (by decide) a d (List.mem_of_mem_drop hd);have:=bX_ MB s.length (digs MB a) (by omega);rw[va] at this;rw[dw_ _ (by omega),vb,hc0] at hval;simp only[di_];omega;rw[leT.eq_1];exact s_e [];refine ag_ ⟨c,⟨by rw[List.getElem?_eq_none (by omega)];rfl,by omega⟩,?_⟩;exact s_e [];rintro v ⟨hv,hv1⟩;obtain⟨y,hy⟩:∃y,y=(digs MB b)[s.length]?.getD 0:=⟨_,rfl⟩;rw[←hy] at hv
 have hg:(dE (s++(digs MB a).drop s.length))[0+((s.length:Nat):Int).toNat]?=some [u32 x]:=by
  rw[Nat.zero_add,Int.toNat_natCast,hdx];exact cd_ (in_ _ _ _ _ rfl)
 have hset:∀w:Nat,(dE (s++(digs MB a).drop s.length)).set (0+((s.length:Nat):Int).toNat) [u32 w]=dE ((s++[w])++(digs MB a).drop (s++[w]).length):=by
  intro w;rw[Nat.zero_add,Int.toNat_natCast,ec_,hdx,hV_ _ _ _ _ _ rfl];simp
 have hnext:∀w c',w+v=x+1000000000* c'→w< 1000000000→c'≤1→LessI a b (s++[w],c'):=by
  intro w c' hw hwb hc';refine⟨by simp;omega,?_,hc',?_⟩;intro d hd;rcases List.mem_append.1 hd with hd|hd
  exact hdig d hd;simp at hd;subst hd;exact hwb;simp only[List.length_append,List.length_singleton];rw[dE_,bi_ _ hx,cl_,←hy,Nat.pow_succ];have e:MB^ s.length* (w+v)=MB^ s.length* (x+MB* c'):=by rw[hw]
  rw[hv,Nat.mul_add,Nat.mul_add,Nat.mul_add,←Nat.mul_assoc] at e;omega
 refine r_z 1 ?_;refine ab_ (s_r 6 ?_);refine a_2 ?_
 first|refine aK_ (.index_l rfl rfl (by omega) (by omega) te_33.h) rfl rfl ?_|refine aK_ (.index_a rfl rfl (by omega) hg rfl te_33.h) rfl rfl ?_
 first|refine aK_ (.load_l1 rfl rfl hg TG.h rfl) rfl rfl ?_|refine aK_ (.load_a1 rfl hg TG.h rfl) rfl rfl ?_
 refine a_z ?_;refine ai_ rfl (fun h=>?_) (fun h=>?_);have hb:x< v:=by have:=of_decide_eq_true h;omega
 have hv2:((x:Int)+1000000000- v)=((x+1000000000- v:Nat):Int):=by omega
 have hv3:((x:Int)+1000000000)=((x+1000000000:Nat):Int):=by omega
 refine r_m 10 ?_;refine a_5 ?_
 first|refine aK_ (.load_l1 rfl rfl hg TG.h rfl) rfl rfl ?_|refine aK_ (.load_a1 rfl hg TG.h rfl) rfl rfl ?_
 refine a_2 ?_;refine o_1n (.store rfl rfl hg rfl rfl rfl TS.h (nle rfl)) ?_;refine a_z ?_
 refine AWp.ent (st':=⟨[(19,i64 s.length),(18,i64 (digs MB a).length),(2,.lptr 1 0 0),(3,.lptr 2 0 0),(4,.lptr 3 0 0),(5,.lsl 4 0 (digs MB a).length (some (digs MB a).length) 1),(6,u32 1),(7,i64 s.length),(8,u32 v)],
  [(1,some ⟨35,1,[[mag a]]⟩),(2,some ⟨35,1,[[mag b]]⟩),(3,some ⟨35,1,[[.emp]]⟩),(4,some ⟨324,1,dE (s++(x+1000000000)::(digs MB a).drop (s.length+1))⟩)],5,61⟩) ?_ ?_
 refine s_x [] (fun hs=>au_f) (fun hs=>?_)
 ·repeat' (first|exact aC_|refine h_c ?_ ?_|(refine aJ_ hs ?_ (aX_ _);rw[hv3];exact(hset _).trans (by simp))|exact au_e)
 have hg2:(dE (s++(x+1000000000)::(digs MB a).drop (s.length+1)))[0+((s.length:Nat):Int).toNat]?=some [u32 (x+1000000000)]:=by
  rw[Nat.zero_add,Int.toNat_natCast];exact cd_ (in_ _ _ _ _ rfl)
 have hset2:∀w:Nat,(dE (s++(x+1000000000)::(digs MB a).drop (s.length+1))).set (0+((s.length:Nat):Int).toNat) [u32 w]=dE ((s++[w])++(digs MB a).drop (s++[w]).length):=by
  intro w;rw[Nat.zero_add,Int.toNat_natCast,ec_,hV_ _ _ _ _ _ rfl];simp
 have hv2:(((x+1000000000:Nat):Int)- v)=((x+1000000000- v:Nat):Int):=by omega
 refine r_m 8 ?_;refine a_2 ?_
 first|refine aK_ (.index_l rfl rfl (by omega) (by omega) te_33.h) rfl rfl ?_|refine aK_ (.index_a rfl rfl (by omega) hg2 rfl te_33.h) rfl rfl ?_
 first|refine aK_ (.load_l1 rfl rfl hg2 TG.h rfl) rfl rfl ?_|refine aK_ (.load_a1 rfl hg2 TG.h rfl) rfl rfl ?_
 refine a_3 ?_;refine o_1n (.store rfl rfl hg2 rfl rfl rfl TS.h (nle rfl)) ?_;refine ak_ ?_;refine r_m 2 ?_;refine a_z ?_;refine⟨(s++[x+1000000000- v],1),by simp;omega,hnext _ _ (by omega) (by omega) (by omega),?_⟩;rw[leS.eq_1];refine s_x [] (fun hs=>au_f) (fun hs=>?_)
 ·repeat' (first|exact aC_|refine h_c ?_ ?_|(refine aJ_ hs ?_ (aX_ _);rw[hv2];exact hset2 _)|exact au_e)
 have hb:v≤x:=by have:=of_decide_eq_false h;omega
 have hv1:((x:Int)- v)=((x- v:Nat):Int):=by omega
 refine ag_ (r_m 8 ?_);refine a_2 ?_
 first|refine aK_ (.index_l rfl rfl (by omega) (by omega) te_33.h) rfl rfl ?_|refine aK_ (.index_a rfl rfl (by omega) hg rfl te_33.h) rfl rfl ?_
 first|refine aK_ (.load_l1 rfl rfl hg TG.h rfl) rfl rfl ?_|refine aK_ (.load_a1 rfl hg TG.h rfl) rfl rfl ?_
 refine a_3 ?_;refine o_1n (.store rfl rfl hg rfl rfl rfl TS.h (nle rfl)) ?_;refine ak_ ?_;refine r_m 2 ?_;refine a_z ?_;refine⟨(s++[x- v],0),by simp;omega,hnext _ _ (by omega) (by omega) (by omega),?_⟩;rw[leS.eq_1];exact s_x [] (fun hs=>au_f) (fun hs=>e_17);have hl:s.length=(digs MB a).length:=by have:=of_decide_eq_false h;omega
 refine ar_ ⟨(s,()),⟨hdig,hl,?_⟩,?_⟩;have h1:=dx_ hdig;rw[hl,dw_ _ hlen,dw_ _ (Nat.le_refl _),va,vb] at hval;rw[hl] at h1
 have h2:c=0:=by
  rcases Nat.eq_zero_or_pos c with h|h
  exact h;have:MB^ (digs MB a).length* 1≤MB^ (digs MB a).length* c:=Nat.mul_le_mul_left _ h;omega
 subst h2;simp at hval⊢;omega;rw[leT.eq_1];refine s_x [] (fun hs=>?_) (fun hs=>?_) ?_
 ·repeat' (first|exact a9_|refine aV_ rfl ?_ ?_|exact au_c|(refine Cv.loE hs ?_ (af_ _);first|rfl|(simp[i64,u64,u32,bln,hl];done)|(simp[i64,u64,u32,bln,hl]<;> omega)))
 ·repeat' (first|exact aC_|refine h_c ?_ ?_|exact au_e|(refine aJ_ hs ?_ (aX_ _);first|(simp[ec_,fg_,dA_,hl];done)|(simp[dE,u32,ofV,hl];done))|refine aA_ ?_|exact aq_|refine ah_ ?_ ?_|exact au_c|(refine Cv.loE hs ?_ (af_ _);first|(simp[i64,u64,u32,bln,hl];done)|(simp[i64,u64,u32,bln,hl]<;> omega)))
 ·repeat' (first|exact ShrL.nil|refine ShrL.cons rfl rfl rfl rfl (by first|rfl|(simp;done)|(simp[hl]<;> omega)) ?_)
 rintro⟨o,u⟩ ⟨hd,hl,hv⟩;rw[leT.eq_1];refine AWp.ent (st':=⟨[(4,.lptr 3 0 0),(5,.arr (dE o))],[(3,some ⟨35,1,[[.emp]]⟩)],4,61⟩) ?_ ?_;refine s_x [] (fun hs=>?_) (fun hs=>?_)
 ·repeat' (first|exact a9_|refine aV_ rfl ?_ ?_|exact Cv.sealE hs rfl (a7_ rfl) rfl (by simp[hl]) (aX_ _)|exact au_c)
 ·repeat' (first|exact aC_|refine h_c ?_ ?_|exact au_e|refine aA_ ?_|exact aq_|refine ah_ ?_ ?_|exact Cv.sealE hs rfl (a7_ rfl) rfl (by simp[hl]) (aX_ _)|exact au_c)
 simp only at hl hv;refine s_r 3 ?_;refine o_0 (.move rfl) ?_;refine o_0 (.call rfl rfl rfl (dJ_ _ (by omega))) ?_;refine o_1n (.store rfl rfl rfl rfl rfl rfl TS.h (nle rfl)) ?_;refine ak_ ?_;refine ad_ (cc_ rfl rfl rfl TG.h TS.h (nle rfl) ?_ (aB_ (aa_ (a5_ _) ac_)));rw[eF_ (b:=MB) (by decide) hd,hv];rfl
end Go.Proofs.YtjjllafelolfoaaGreatDoor
