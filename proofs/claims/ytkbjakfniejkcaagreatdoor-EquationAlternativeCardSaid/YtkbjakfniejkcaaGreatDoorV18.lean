/- Part V18 of the proof. -/
import Derived.Test.YtkbjakfniejkcaaGreatDoorV17
import Derived.Test.YtkbjakfniejkcaaGreatDoorProg
import Derived.KernelRfl
set_option linter.all false
namespace Go.Proofs.YtkbjakfniejkcaaGreatDoor
open Go.Abs
set_option maxRecDepth 20000
theorem a7:Tryz.prog.follows .mixedOrders=true:=by kernel_rfl
instance:T4 Tryz.prog 2 [Value.int IntKind.i64 0] 1 false 8:=⟨by kernel_rfl⟩
instance tu_2:TU Tryz.prog 2 (.int .i64):=⟨by kernel_rfl⟩
instance:T4 Tryz.prog 3 [Value.int IntKind.i64 0] 1 false 8:=⟨by kernel_rfl⟩
instance tu_3:TU Tryz.prog 3 (.int .i64):=⟨by kernel_rfl⟩
instance:T4 Tryz.prog 4 [Value.bool false] 1 false 1:=⟨by kernel_rfl⟩
instance tu_4:TU Tryz.prog 4 .bool:=⟨by kernel_rfl⟩
instance:T4 Tryz.prog 5 [Value.int IntKind.u8 0] 1 false 1:=⟨by kernel_rfl⟩
instance tu_5:TU Tryz.prog 5 (.int .u8):=⟨by kernel_rfl⟩
instance:T3 Tryz.prog 9 1 false 16:=⟨by kernel_rfl⟩
instance tu_9:TU Tryz.prog 9 .string:=⟨by kernel_rfl⟩
instance:T4 Tryz.prog 22 [Value.slice none 0 0] 1 false 24:=⟨by kernel_rfl⟩
instance te_22:TE Tryz.prog 22 (132,2):=⟨by kernel_rfl⟩
instance:T4 Tryz.prog 24 [Value.int IntKind.i64 0,Value.int IntKind.i64 0,Value.int IntKind.u8 0] 3 true 24:=⟨by kernel_rfl⟩
instance tp_24:TP Tryz.prog 24 [(0,1),(1,1),(2,1)]:=⟨by kernel_rfl⟩
instance:T2 Tryz.prog 24 0 (0,1) false:=⟨by kernel_rfl⟩
instance:T2 Tryz.prog 24 1 (1,1) false:=⟨by kernel_rfl⟩
instance:T2 Tryz.prog 24 2 (2,1) false:=⟨by kernel_rfl⟩
instance:T4 Tryz.prog 26 [Value.int IntKind.i64 0,Value.int IntKind.i64 0,Value.int IntKind.u8 0,Value.int IntKind.i64 0,Value.int IntKind.i64 0,Value.int IntKind.u8 0] 6 true 48:=⟨by kernel_rfl⟩
instance tp_26:TP Tryz.prog 26 [(0,3),(3,3)]:=⟨by kernel_rfl⟩
instance:T2 Tryz.prog 26 0 (0,3) true:=⟨by kernel_rfl⟩
instance:T2 Tryz.prog 26 1 (3,3) true:=⟨by kernel_rfl⟩
instance:T4 Tryz.prog 27 [Value.slice none 0 0] 1 false 24:=⟨by kernel_rfl⟩
instance te_27:TE Tryz.prog 27 (24,3):=⟨by kernel_rfl⟩
instance:T4 Tryz.prog 28 [Value.slice none 0 0] 1 false 24:=⟨by kernel_rfl⟩
instance te_28:TE Tryz.prog 28 (93,2):=⟨by kernel_rfl⟩
instance:T4 Tryz.prog 29 [Value.slice none 0 0] 1 false 24:=⟨by kernel_rfl⟩
instance te_29:TE Tryz.prog 29 (93,2):=⟨by kernel_rfl⟩
instance:T4 Tryz.prog 30 [Value.slice none 0 0] 1 false 24:=⟨by kernel_rfl⟩
instance te_30:TE Tryz.prog 30 (218,1):=⟨by kernel_rfl⟩
instance:T4 Tryz.prog 32 [Value.slice none 0 0] 1 true 24:=⟨by kernel_rfl⟩
instance tp_32:TP Tryz.prog 32 [(0,1)]:=⟨by kernel_rfl⟩
instance:T2 Tryz.prog 32 0 (0,1) false:=⟨by kernel_rfl⟩
instance:T4 Tryz.prog 34 [Value.slice none 0 0,Value.bool false] 2 true 32:=⟨by kernel_rfl⟩
instance tp_34:TP Tryz.prog 34 [(0,1),(1,1)]:=⟨by kernel_rfl⟩
instance:T2 Tryz.prog 34 0 (0,1) true:=⟨by kernel_rfl⟩
instance:T2 Tryz.prog 34 1 (1,1) false:=⟨by kernel_rfl⟩
instance:T4 Tryz.prog 36 [Value.slice none 0 0,Value.bool false,Value.slice none 0 0] 3 true 56:=⟨by kernel_rfl⟩
instance tp_36:TP Tryz.prog 36 [(0,2),(2,1)]:=⟨by kernel_rfl⟩
instance:T2 Tryz.prog 36 0 (0,2) true:=⟨by kernel_rfl⟩
instance:T2 Tryz.prog 36 1 (2,1) true:=⟨by kernel_rfl⟩
instance:T4 Tryz.prog 37 [Value.slice none 0 0] 1 false 24:=⟨by kernel_rfl⟩
instance te_37:TE Tryz.prog 37 (36,3):=⟨by kernel_rfl⟩
instance:T4 Tryz.prog 38 [Value.slice none 0 0] 1 false 24:=⟨by kernel_rfl⟩
instance te_38:TE Tryz.prog 38 (36,3):=⟨by kernel_rfl⟩
instance:T4 Tryz.prog 40 [Value.slice none 0 0,Value.slice none 0 0,Value.bool false,Value.slice none 0 0,Value.slice none 0 0] 5 true 104:=⟨by kernel_rfl⟩
instance tp_40:TP Tryz.prog 40 [(0,1),(1,3),(4,1)]:=⟨by kernel_rfl⟩
instance:T2 Tryz.prog 40 0 (0,1) false:=⟨by kernel_rfl⟩
instance:T2 Tryz.prog 40 1 (1,3) true:=⟨by kernel_rfl⟩
instance:T2 Tryz.prog 40 2 (4,1) false:=⟨by kernel_rfl⟩
instance:T4 Tryz.prog 42 [Value.slice none 0 0,Value.bool false,Value.slice none 0 0,Value.slice none 0 0,Value.bool false,Value.slice none 0 0] 6 true 112:=⟨by kernel_rfl⟩
instance tp_42:TP Tryz.prog 42 [(0,3),(3,3)]:=⟨by kernel_rfl⟩
instance:T2 Tryz.prog 42 0 (0,3) true:=⟨by kernel_rfl⟩
instance:T2 Tryz.prog 42 1 (3,3) true:=⟨by kernel_rfl⟩
instance:T4 Tryz.prog 51 [Value.slice none 0 0] 1 false 24:=⟨by kernel_rfl⟩
instance te_51:TE Tryz.prog 51 (38,1):=⟨by kernel_rfl⟩
instance:T4 Tryz.prog 54 [Value.slice none 0 0] 1 false 24:=⟨by kernel_rfl⟩
instance te_54:TE Tryz.prog 54 (62,2):=⟨by kernel_rfl⟩
instance:T4 Tryz.prog 62 [Value.slice none 0 0,Value.int IntKind.i64 0] 2 true 32:=⟨by kernel_rfl⟩
instance tp_62:TP Tryz.prog 62 [(0,1),(1,1)]:=⟨by kernel_rfl⟩
instance:T2 Tryz.prog 62 0 (0,1) false:=⟨by kernel_rfl⟩
instance:T2 Tryz.prog 62 1 (1,1) false:=⟨by kernel_rfl⟩
instance:T4 Tryz.prog 70 [Value.slice none 0 0] 1 false 24:=⟨by kernel_rfl⟩
instance te_70:TE Tryz.prog 70 (137,2):=⟨by kernel_rfl⟩
instance:T4 Tryz.prog 73 [Value.slice none 0 0] 1 false 24:=⟨by kernel_rfl⟩
instance te_73:TE Tryz.prog 73 (81,4):=⟨by kernel_rfl⟩
instance:T4 Tryz.prog 74 [Value.slice none 0 0] 1 false 24:=⟨by kernel_rfl⟩
instance te_74:TE Tryz.prog 74 (81,4):=⟨by kernel_rfl⟩
instance:T4 Tryz.prog 77 [Value.slice none 0 0] 1 false 24:=⟨by kernel_rfl⟩
instance te_77:TE Tryz.prog 77 (3,1):=⟨by kernel_rfl⟩
instance:T4 Tryz.prog 79 [Value.int IntKind.i64 0,Value.slice none 0 0] 2 true 32:=⟨by kernel_rfl⟩
instance tp_79:TP Tryz.prog 79 [(0,1),(1,1)]:=⟨by kernel_rfl⟩
instance:T2 Tryz.prog 79 0 (0,1) false:=⟨by kernel_rfl⟩
instance:T2 Tryz.prog 79 1 (1,1) false:=⟨by kernel_rfl⟩
instance:T4 Tryz.prog 81 [Value.int IntKind.i64 0,Value.slice none 0 0,Value.int IntKind.i64 0,Value.slice none 0 0] 4 true 64:=⟨by kernel_rfl⟩
instance tp_81:TP Tryz.prog 81 [(0,2),(2,2)]:=⟨by kernel_rfl⟩
instance:T2 Tryz.prog 81 0 (0,2) true:=⟨by kernel_rfl⟩
instance:T2 Tryz.prog 81 1 (2,2) true:=⟨by kernel_rfl⟩
instance:T4 Tryz.prog 83 [Value.int IntKind.i64 0,Value.slice none 0 0,Value.int IntKind.i64 0,Value.slice none 0 0,Value.int IntKind.i64 0,Value.slice none 0 0,Value.int IntKind.i64 0,Value.slice none 0 0] 8 true 128:=⟨by kernel_rfl⟩
instance tp_83:TP Tryz.prog 83 [(0,4),(4,4)]:=⟨by kernel_rfl⟩
instance:T2 Tryz.prog 83 0 (0,4) true:=⟨by kernel_rfl⟩
instance:T2 Tryz.prog 83 1 (4,4) true:=⟨by kernel_rfl⟩
instance:T4 Tryz.prog 93 [Value.slice none 0 0,Value.slice none 0 0] 2 true 48:=⟨by kernel_rfl⟩
instance tp_93:TP Tryz.prog 93 [(0,1),(1,1)]:=⟨by kernel_rfl⟩
instance:T2 Tryz.prog 93 0 (0,1) false:=⟨by kernel_rfl⟩
instance:T2 Tryz.prog 93 1 (1,1) false:=⟨by kernel_rfl⟩
instance:T4 Tryz.prog 98 [Value.slice none 0 0,Value.slice none 0 0,Value.bool false,Value.slice none 0 0,Value.slice none 0 0,Value.bool false,Value.slice none 0 0,Value.slice none 0 0,Value.bool false,Value.slice none 0 0] 10 true 192:=⟨by kernel_rfl⟩
instance tp_98:TP Tryz.prog 98 [(0,1),(1,3),(4,3),(7,3)]:=⟨by kernel_rfl⟩
instance:T2 Tryz.prog 98 0 (0,1) false:=⟨by kernel_rfl⟩
instance:T2 Tryz.prog 98 1 (1,3) true:=⟨by kernel_rfl⟩
instance:T2 Tryz.prog 98 2 (4,3) true:=⟨by kernel_rfl⟩
instance:T2 Tryz.prog 98 3 (7,3) true:=⟨by kernel_rfl⟩
instance:T4 Tryz.prog 108 [Value.slice none 0 0,Value.slice none 0 0,Value.bool false,Value.slice none 0 0,Value.slice none 0 0,Value.slice none 0 0,Value.bool false,Value.slice none 0 0,Value.slice none 0 0,Value.bool false,Value.slice none 0 0] 11 true 216:=⟨by kernel_rfl⟩
instance tp_108:TP Tryz.prog 108 [(0,5),(5,6)]:=⟨by kernel_rfl⟩
instance:T2 Tryz.prog 108 0 (0,5) true:=⟨by kernel_rfl⟩
instance:T2 Tryz.prog 108 1 (5,6) true:=⟨by kernel_rfl⟩
instance:T4 Tryz.prog 110 [Value.slice none 0 0] 1 false 24:=⟨by kernel_rfl⟩
instance te_110:TE Tryz.prog 110 (37,1):=⟨by kernel_rfl⟩
instance:T4 Tryz.prog 111 [Value.slice none 0 0] 1 false 24:=⟨by kernel_rfl⟩
instance te_111:TE Tryz.prog 111 (37,1):=⟨by kernel_rfl⟩
instance:T4 Tryz.prog 113 [Value.slice none 0 0,Value.slice none 0 0,Value.int IntKind.i64 0] 3 true 56:=⟨by kernel_rfl⟩
instance tp_113:TP Tryz.prog 113 [(0,1),(1,1),(2,1)]:=⟨by kernel_rfl⟩
instance:T2 Tryz.prog 113 0 (0,1) false:=⟨by kernel_rfl⟩
instance:T2 Tryz.prog 113 1 (1,1) false:=⟨by kernel_rfl⟩
instance:T2 Tryz.prog 113 2 (2,1) false:=⟨by kernel_rfl⟩
instance:T4 Tryz.prog 121 [Value.nilFunc] 1 false 8:=⟨by kernel_rfl⟩
instance:T4 Tryz.prog 123 [Value.nilFunc] 1 false 8:=⟨by kernel_rfl⟩
instance:T4 Tryz.prog 124 [Value.pointer none] 1 false 8:=⟨by kernel_rfl⟩
instance:T4 Tryz.prog 128 [Value.nilFunc] 1 false 8:=⟨by kernel_rfl⟩
instance:T4 Tryz.prog 132 [Value.slice none 0 0,Value.slice none 0 0] 2 true 48:=⟨by kernel_rfl⟩
instance tp_132:TP Tryz.prog 132 [(0,1),(1,1)]:=⟨by kernel_rfl⟩
instance:T2 Tryz.prog 132 0 (0,1) false:=⟨by kernel_rfl⟩
instance:T2 Tryz.prog 132 1 (1,1) false:=⟨by kernel_rfl⟩
instance:T4 Tryz.prog 137 [Value.slice none 0 0,Value.slice none 0 0] 2 true 48:=⟨by kernel_rfl⟩
instance tp_137:TP Tryz.prog 137 [(0,1),(1,1)]:=⟨by kernel_rfl⟩
instance:T2 Tryz.prog 137 0 (0,1) false:=⟨by kernel_rfl⟩
instance:T2 Tryz.prog 137 1 (1,1) false:=⟨by kernel_rfl⟩
instance:T4 Tryz.prog 142 [Value.slice none 0 0] 1 false 24:=⟨by kernel_rfl⟩
instance te_142:TE Tryz.prog 142 (2,1):=⟨by kernel_rfl⟩
instance:T4 Tryz.prog 146 [Value.nilFunc] 1 false 8:=⟨by kernel_rfl⟩
instance:T4 Tryz.prog 148 [Value.slice none 0 0,Value.bool false,Value.slice none 0 0,Value.slice none 0 0,Value.bool false,Value.slice none 0 0,Value.int IntKind.i64 0] 7 true 120:=⟨by kernel_rfl⟩
instance tp_148:TP Tryz.prog 148 [(0,6),(6,1)]:=⟨by kernel_rfl⟩
instance:T2 Tryz.prog 148 0 (0,6) true:=⟨by kernel_rfl⟩
instance:T2 Tryz.prog 148 1 (6,1) false:=⟨by kernel_rfl⟩
instance:T4 Tryz.prog 150 [Value.nilFunc] 1 false 8:=⟨by kernel_rfl⟩
instance:T4 Tryz.prog 156 [Value.pointer none] 1 false 8:=⟨by kernel_rfl⟩
instance:T4 Tryz.prog 157 [Value.slice none 0 0] 1 false 24:=⟨by kernel_rfl⟩
instance te_157:TE Tryz.prog 157 (5,1):=⟨by kernel_rfl⟩
instance:T4 Tryz.prog 159 [Value.pointer none,Value.slice none 0 0] 2 true 32:=⟨by kernel_rfl⟩
instance tp_159:TP Tryz.prog 159 [(0,1),(1,1)]:=⟨by kernel_rfl⟩
instance:T2 Tryz.prog 159 0 (0,1) false:=⟨by kernel_rfl⟩
instance:T2 Tryz.prog 159 1 (1,1) false:=⟨by kernel_rfl⟩
instance:T4 Tryz.prog 167 [Value.nilFunc] 1 false 8:=⟨by kernel_rfl⟩
instance:T4 Tryz.prog 169 [Value.nilFunc] 1 false 8:=⟨by kernel_rfl⟩
instance:T4 Tryz.prog 177 [Value.pointer none] 1 false 8:=⟨by kernel_rfl⟩
instance:T4 Tryz.prog 180 [Value.slice none 0 0,Value.slice none 0 0,Value.int IntKind.i64 0] 3 true 56:=⟨by kernel_rfl⟩
instance tp_180:TP Tryz.prog 180 [(0,1),(1,1),(2,1)]:=⟨by kernel_rfl⟩
instance:T2 Tryz.prog 180 0 (0,1) false:=⟨by kernel_rfl⟩
instance:T2 Tryz.prog 180 1 (1,1) false:=⟨by kernel_rfl⟩
instance:T2 Tryz.prog 180 2 (2,1) false:=⟨by kernel_rfl⟩
instance:T4 Tryz.prog 190 [Value.pointer none,Value.int IntKind.i64 0] 2 true 16:=⟨by kernel_rfl⟩
instance tp_190:TP Tryz.prog 190 [(0,1),(1,1)]:=⟨by kernel_rfl⟩
instance:T2 Tryz.prog 190 0 (0,1) false:=⟨by kernel_rfl⟩
instance:T2 Tryz.prog 190 1 (1,1) false:=⟨by kernel_rfl⟩
instance:T4 Tryz.prog 192 [Value.nilFunc] 1 false 8:=⟨by kernel_rfl⟩
instance:T4 Tryz.prog 194 [Value.nilFunc] 1 false 8:=⟨by kernel_rfl⟩
instance:T4 Tryz.prog 207 [Value.int IntKind.u64 0] 1 false 8:=⟨by kernel_rfl⟩
instance tu_207:TU Tryz.prog 207 (.int .u64):=⟨by kernel_rfl⟩
instance:T4 Tryz.prog 213 [Value.nilFunc] 1 false 8:=⟨by kernel_rfl⟩
instance:T4 Tryz.prog 214 [Value.pointer none] 1 false 8:=⟨by kernel_rfl⟩
instance:T4 Tryz.prog 218 [Value.int IntKind.u32 0] 1 false 4:=⟨by kernel_rfl⟩
instance tu_218:TU Tryz.prog 218 (.int .u32):=⟨by kernel_rfl⟩
instance:T4 Tryz.prog 224 [Value.nilFunc] 1 false 8:=⟨by kernel_rfl⟩
instance:T4 Tryz.prog 229 [Value.nilFunc] 1 false 8:=⟨by kernel_rfl⟩
instance:T4 Tryz.prog 245 [Value.pointer none] 1 false 8:=⟨by kernel_rfl⟩
instance:T4 Tryz.prog 249 [Value.int IntKind.u64 0] 1 false 8:=⟨by kernel_rfl⟩
instance tu_249:TU Tryz.prog 249 (.int .u64):=⟨by kernel_rfl⟩
instance:T4 Tryz.prog 258 [Value.nilFunc] 1 false 8:=⟨by kernel_rfl⟩
instance:T4 Tryz.prog 276 [Value.nilFunc] 1 false 8:=⟨by kernel_rfl⟩
instance:T3 Tryz.prog 277 24 true 24:=⟨by kernel_rfl⟩
instance:T4 Tryz.prog 301 [Value.nilFunc] 1 false 8:=⟨by kernel_rfl⟩
abbrev FS:=FSpec Tryz.prog
theorem Ft(l:Ln):FS 86 [.agg [.arr (dE l)]] (bln (l.length==0)):=by
 refine f_n Tryz.func86 ?_ ?_;exact ac (az (ac (da l) af)) af;refine r_z 2 ?_;refine r_z 5 ?_;refine ai (aW rfl ?_ (ag _));simp only[bln,sI];congr 2;rw[Bool.eq_iff_iff];simp
theorem iP(l:Ln)(hl:l.length<=281474976710656):FS 159 [.arr (dE l)] (.agg [.arr (dE (fl l))]):=by
 refine f_n Tryz.func159 ?_ ?_;exact ac (da l) af;refine r_z 1 ?_;refine r_z 3 ?_;refine bH (fun k:Nat=>⟨[(0,.arr (dE l)),(2,.lptr 1 0 0),(3,i64 k)],[(1,some ⟨32,1,[[.emp]]⟩)],2,23⟩) (fun k=>k<=l.length/\fl l=l.take k) ?_ ?_;refine aj (aC (fun k:Nat=>⟨[(0,.arr (dE l)),(2,.lptr 1 0 0),(3,i64 k)],[(1,some ⟨32,1,[[.emp]]⟩)],2,23⟩) (fun k=>k) (fun k=>k<=l.length/\∀i,k<=i->i< l.length->l[i]?=some 0) l.length ⟨Nat.le_refl _,fun i m g=>by omega⟩ ?_ ?_);exact s_e [];rintro k ⟨b,j⟩;have fin:k=0\/l[k- 1]?≠some 0->fl l=l.take k:=l5 l k b j;by_cases h0:k=0;subst h0;refine ae (s_r 10 ?_);refine a_3 ?_;refine n_g rfl d_f ?_;refine n_g rfl d_f ?_;refine n_g rfl d_f ?_;refine n_g rfl d_f ?_;refine n_g rfl d_f ?_;refine n_g rfl d_f ?_;refine o_0 (.pickF rfl d_f rfl) ?_;refine aq ?_;refine au rfl (fun h=>?_) (fun _=>?_);cases h;refine ax ⟨0,⟨b,fin (.inl rfl)⟩,?_⟩;exact s_e [];have e:k- 1< l.length:=by omega
 obtain⟨d,c⟩:∃d,l[k- 1]?=some d:=⟨_,List.getElem?_eq_getElem e⟩;have a:(dE l)[((k:Int)- 1).toNat]?=some [u32 d]:=by rw[show((k:Int)- 1).toNat=k- 1 by omega];exact dW c
 refine ae (s_r 10 ?_);refine a_3 ?_;refine y_g rfl d_t (.move rfl) ?_;refine y_g rfl d_t (.move rfl) ?_;refine y_g rfl d_t (.bin rfl rfl (rv (by omega))) ?_
 first|refine y_g rfl d_t (.index_l rfl rfl (by omega) (by omega) te_30.h) ?_|refine y_g rfl d_t (.index_a rfl rfl (by omega) a rfl te_30.h) ?_
 first|refine y_g rfl d_t (.load_l1 rfl rfl a TG.h rfl) ?_|refine y_g rfl d_t (.load_a1 rfl a TG.h rfl) ?_
 refine y_g rfl d_t (.bin rfl rfl cb) ?_;refine o_0 (.pickT rfl d_t rfl) ?_;refine aq ?_;refine au rfl (fun h=>?_) (fun h=>?_);refine am ?_;have f:d=0:=by simpa using h
 subst f;refine aj (r_m 3 ?_);refine a_z ?_;refine⟨k- 1,by omega,⟨by omega,fun i m g=>?_⟩,?_⟩;by_cases hi:i=k- 1;rw[hi];exact c;exact j i (by omega) g;exact s_e [];refine ax ⟨k,⟨b,fin (.inr ?_)⟩,?_⟩;rw[c];simp at h⊢;omega;exact s_e [];rintro k ⟨b,n⟩;refine s_r 6 ?_;refine a_3 ?_;refine o_0 (.sa_hm rfl rfl rfl rfl rfl ⟨Nat.le_refl _,by simpa using b⟩ te_30.h (z6 l)) ?_;refine a_z ?_;refine ai (dP rfl rfl rfl TG.h TS.h (nle rfl) ?_ (az (ac (da _) af)));rw[n,<-FP];rfl
theorem vr(z:Int):FS 197 [i64 z] (bln false):=by
 refine f_c Tryz.func197 ?_;refine r_z 1 ?_;refine r_z 4 ?_;refine ai (aW rfl ?_ (ag _));simp[bln]
theorem vp(z:Nat):FS 198 [u32 z] (bln false):=by
 refine f_c Tryz.func198 ?_;refine r_z 1 ?_;refine r_z 4 ?_;refine ai (aW rfl ?_ (ag _));simp[bln]
theorem zq(a b:Int):FS 160 [i64 a,i64 b] (i64 (eN a b)):=by
 refine f_c Tryz.func160 ?_;refine r_z 1 ?_;refine r_c 3 (vr a) ?_;refine a_z ?_;refine r_c 3 (vr b) ?_;refine a_z ?_;refine ae (r_z 1 ?_);refine au rfl (fun h=>?_) (fun _=>am ?_);cases h;refine ae (r_z 1 ?_);refine au rfl (fun h=>?_) (fun _=>am ?_);cases h;refine ae (r_z 3 ?_);refine au rfl (fun h=>?_) (fun h=>am ?_);refine r_z 1 ?_;refine ai (aW rfl ?_ (ag _));simp at h;simp[i64,ofV,eN,h];refine ae (r_z 3 ?_);refine au rfl (fun c=>?_) (fun c=>am ?_);refine r_z 1 ?_;refine ai (aW rfl ?_ (ag _));simp at h c;simp[i64,ofV,eN];omega;refine r_z 1 ?_;refine ai (aW rfl ?_ (ag _));simp at h c;simp[i64,ofV,eN];omega
theorem zp(a b:Nat):FS 161 [u32 a,u32 b] (i64 (eN a b)):=by
 refine f_c Tryz.func161 ?_;refine r_z 1 ?_;refine r_c 3 (vp a) ?_;refine a_z ?_;refine r_c 3 (vp b) ?_;refine a_z ?_;refine ae (r_z 1 ?_);refine au rfl (fun h=>?_) (fun _=>am ?_);cases h;refine ae (r_z 1 ?_);refine au rfl (fun h=>?_) (fun _=>am ?_);cases h;refine ae (r_z 3 ?_);refine au rfl (fun h=>?_) (fun h=>am ?_);refine r_z 1 ?_;refine ai (aW rfl ?_ (ag _));simp at h;simp[i64,ofV,eN,h];refine ae (r_z 3 ?_);refine au rfl (fun c=>?_) (fun c=>am ?_);refine r_z 1 ?_;refine ai (aW rfl ?_ (ag _));simp at h c;simp[i64,ofV,eN];omega;refine r_z 1 ?_;refine ai (aW rfl ?_ (ag _));simp at h c;simp[i64,ofV,eN];omega
theorem digs_one{n:Nat}:(aw MB n).length=1/\(aw MB n)[0]?=some 1↔n=1:=by
 constructor;rintro⟨c,a⟩;have:=bU (b:=MB) (by decide) n
 match hd:aw MB n,c,a with
 |[d],_,a=>rw[hd] at this;simp at a;subst a;simpa[ofD] using this.symm
 rintro rfl;rw[fo (by decide) (by decide)];rw[show 1/ MB=0 by decide,cL];simp
theorem fs_one(n:Nat):FS 164 [.agg [mag n]] (bln (n==1)):=by
 refine f_c Tryz.func164 ?_;refine r_z 2 ?_;by_cases h1:(aw MB n).length=1;obtain⟨d,b⟩:∃d,(aw MB n)[0]?=some d:=⟨_,List.getElem?_eq_getElem (by omega)⟩;have a:(dE (aw MB n))[(0:Int).toNat]?=some [u32 d]:=dW b;refine s_r 12 ?_;refine a_5 ?_;refine y_g rfl (by simp;omega) (.fieldAddr_l rfl TF.h (by decide)) ?_;refine y_g rfl (by simp;omega) (.load_l1 rfl rfl rfl TG.h rfl) ?_;refine y_g rfl (by simp;omega) (.index_a rfl rfl (by omega) a rfl te_30.h) ?_;refine y_g rfl (by simp;omega) (.load_a1 rfl a TG.h rfl) ?_;refine y_g rfl (by simp;omega) (.bin rfl rfl cb) ?_;refine o_0 (.pickT rfl (by simp;omega) rfl) ?_;refine a_z ?_;refine ai (aW rfl ?_ (ag _));simp only[bln];congr 2;rw[Bool.eq_iff_iff];have:=digs_one (n:=n);simp only[h1,b,true_and,Option.some.injEq] at this;simp only[beq_iff_eq,<-this];omega;refine s_r 12 ?_;refine a_5 ?_;refine n_g rfl (by simp;omega) ?_;refine n_g rfl (by simp;omega) ?_;refine n_g rfl (by simp;omega) ?_;refine n_g rfl (by simp;omega) ?_;refine n_g rfl (by simp;omega) ?_;refine o_0 (.pickF rfl (by simp;omega) rfl) ?_;refine a_z ?_;refine ai (aW rfl ?_ (ag _));simp only[bln,ofV];congr 2;symm;rw[beq_eq_false_iff_ne];intro h;exact h1 (digs_one.2 h).1
def yv(n:Nat):Nat->AState
 |0=>⟨[(0,u64 n),(2,.lptr 1 0 0),(3,.emp)],[(1,some ⟨32,1,[[.emp]]⟩)],2,16⟩
 |k+1=>⟨[(0,u64 (kJ n (k+1))),(2,.lptr 1 0 0),(3,.lsl 2 0 (k+1) none 1)],[(1,some ⟨32,1,[[.emp]]⟩),(2,some ⟨218,1,dE (wD n (k+1))⟩)],3,16⟩
theorem gH(n:Nat)(h:n< 18446744073709551616):FS 131 [u64 n] (.agg [mag n]):=by
 have g:(aw MB n).length<=3:=fM (by decide) (Nat.lt_of_lt_of_le h (by decide));refine f_c Tryz.func131 ?_;refine r_z 1 ?_;refine r_z 1 ?_;refine bH (yv n) (fun k=>k=(aw MB n).length) ?_ ?_;refine aj (aC (yv n) (fun k=>(aw MB n).length- k) (fun k=>k<=(aw MB n).length) 0 (Nat.zero_le _) ?_ ?_);rw[yv.eq_1];exact s_e [];rintro k e;have i:=H3 e;have m:=H4 e;have c:=nC e;cases k with
 |zero=>
  rw[uQ] at m;refine ae (r_z 2 ?_);refine au rfl (fun h=>?_) (fun h=>?_);refine am ?_;have l:0< n:=by simpa using h
  have d:0< (aw MB n).length:=by omega
  obtain⟨a,b⟩:=uR d;rw[uQ] at a b;refine ae (aj (r_m 7 ?_));refine a_z ?_;refine r_m 3 ?_;refine a_z ?_;refine⟨1,by omega,d,?_⟩;rw[yv.eq_2];refine s_x [(2,3)] (fun hs=>?_) (fun hs=>?_) ?_
  ·repeat' (first|exact aP|refine ay rfl ?_ ?_|exact aX|(refine Cv.loE hs ?_ (ag _);first|rfl|(simp[i64,u64,u32,bln,a,b,iK];done)|(simp[i64,u64,u32,bln,a,b,iK]<;> omega)))
  ·repeat' (first|exact aE|refine h_c ?_ ?_|exact bZ|(refine aI hs ?_ (b6 _);first|(simp[iz,lN,iA,a,b,iK];done)|(simp[dE,u32,ofV,a,b,iK];done))|refine aD ?_|exact av|refine ah ?_ ?_|exact aX|(refine Cv.loE hs ?_ (ag _);first|(simp[i64,u64,u32,bln,a,b,iK];done)|(simp[i64,u64,u32,bln,a,b,iK]<;> omega)))
  ·repeat' (first|exact ShrL.nil|refine ShrL.cons rfl rfl rfl rfl (by first|rfl|(simp;done)|(simp[a,b,iK]<;> omega)) ?_)
  refine ax ⟨0,?_,?_⟩;have:¬0< n:=by simpa using h
  omega;rw[yv.eq_1];exact s_e []
 |succ k=>
  rw[yv.eq_2];refine ae (r_z 2 ?_);refine au rfl (fun h=>?_) (fun h=>?_);refine am ?_;have l:0< kJ n (k+1):=by simpa using h
  have d:k+1< (aw MB n).length:=by omega
  obtain⟨a,b⟩:=uR d;refine ae (aj (r_m 7 ?_));refine a_z ?_;refine r_m 3 ?_;refine a_z ?_;refine⟨k+1+1,by omega,d,?_⟩;rw[yv.eq_2];refine s_x [(2,3)] (fun hs=>?_) (fun hs=>?_) ?_
  ·repeat' (first|exact aP|refine ay rfl ?_ ?_|exact aX|(refine Cv.loE hs ?_ (ag _);first|rfl|(simp[i64,u64,u32,bln,a,b,c];done)|(simp[i64,u64,u32,bln,a,b,c]<;> omega)))
  ·repeat' (first|exact aE|refine h_c ?_ ?_|exact bZ|(refine aI hs ?_ (b6 _);first|(simp[iz,lN,iA,a,b,c];done)|(simp[dE,u32,ofV,a,b,c];done))|refine aD ?_|exact av|refine ah ?_ ?_|exact aX|(refine Cv.loE hs ?_ (ag _);first|(simp[i64,u64,u32,bln,a,b,c];done)|(simp[i64,u64,u32,bln,a,b,c]<;> omega)))
  ·repeat' (first|exact ShrL.nil|refine ShrL.cons rfl rfl rfl rfl (by first|rfl|(simp;done)|(simp[a,b,c]<;> omega)) ?_)
  refine ax ⟨k+1,?_,?_⟩;have:¬0< kJ n (k+1):=by simpa using h
  omega;rw[yv.eq_2];exact s_e []
 rintro k rfl;cases e:(aw MB n).length with
 |zero=>
  rw[yv.eq_1];refine r_z 3 ?_;refine ai (Fin.cell rfl rfl rfl TG.h TS.h (nle rfl) (Cv.agg (ah (Cv.emp _ ?_) av)));unfold mag;rw[List.length_eq_zero_iff] at e;rw[e];rfl
 |succ k=>
  rw[yv.eq_2];refine r_z 3 ?_;refine ai (Fin.cell rfl rfl rfl TG.h TS.h (nle rfl) (Cv.agg (ah (Cv.shut aA rfl (fun _ _ h=>by cases h) ?_ ?_) av)));simp[nC (Nat.le_of_eq e.symm)];refine aI aA ?_ (b6 _);have j:(wD n (k+1)).length=k+1:=nC (Nat.le_of_eq e.symm);have f:=Ii n;rw[e] at f;simp only[List.drop_zero,FP];rw[List.take_of_length_le (Nat.le_of_eq j),f]
def Ij(p:Nat)(q:Nat):Ln×Nat->AState
 |(s,c)=>⟨[(26,i64 s.length),(25,i64 (aw MB p).length),(24,mag p),(2,.lptr 1 0 0),(3,.lptr 2 0 0),(4,.lptr 3 0 0),(5,.lsl 4 0 ((aw MB p).length+1) (some ((aw MB p).length+1)) 1),(6,u32 c)],
  [(1,some ⟨32,1,[[mag p]]⟩),(2,some ⟨32,1,[[mag q]]⟩),(3,some ⟨32,1,[[.emp]]⟩),(4,some ⟨218,1,dE (s++List.replicate ((aw MB p).length+1- s.length) 0)⟩)],5,63⟩
structure PlusI (p q:Nat)(a:Ln×Nat):Prop where
 le:a.1.length<=(aw MB p).length
 dig:∀d∈a.1,d< MB
 car:a.2<=1
 val:ofD MB a.1+MB^ a.1.length* a.2=ofD MB ((aw MB p).take a.1.length)+ofD MB ((aw MB q).take a.1.length)
theorem zb(a b:Nat)(h:bl a+bl b<=17592186044416):FS 145 [.agg [mag a],.agg [mag b]] (.agg [mag (a+b)]):=by
 have hla:=b7 (b:=MB) (by decide) a;have hlb:=b7 (b:=MB) (by decide) b;refine f_c Tryz.func145 ?_;refine r_z 3 ?_;refine ae (r_z 7 ?_)
 refine aF (fun x:Nat×Nat=>⟨[(2,.lptr 1 0 0),(3,.lptr 2 0 0),(4,.lptr 3 0 0)],[(1,some ⟨32,1,[[mag x.1]]⟩),(2,some ⟨32,1,[[mag x.2]]⟩),(3,some ⟨32,1,[[.emp]]⟩)],4,63⟩)
  (fun x=>x.1+x.2=a+b/\(aw MB x.2).length<=(aw MB x.1).length/\(aw MB x.1).length<=17592186044416) ?_ ?_
 refine au rfl (fun h=>?_) (fun h=>?_);refine r_m 4 ?_;refine a_z ?_;refine⟨(b,a),⟨by simp;omega,?_,by simp;omega⟩,?_⟩;simp at h;simp;omega;exact s_e [];refine am ⟨(a,b),⟨rfl,?_,by simp;omega⟩,?_⟩;simp at h;simpa using h;exact s_e [];rintro⟨p,q⟩ ⟨hpq,hqp,hp⟩;simp only at hpq hqp hp⊢;refine r_z 6 ?_;refine r_z 1 ?_;refine ae (r_z 4 ?_);refine aF (Ij p q) (fun x=>PlusI p q x/\x.1.length=(aw MB p).length) ?_ ?_;refine aj (aC (Ij p q) (fun x=>(aw MB p).length- x.1.length) (PlusI p q) ([],0) ⟨by simp,by simp,by simp,by simp[ofD]⟩ ?_ ?_);rw[Ij.eq_1];exact s_e [(4,5)];rintro⟨s,c⟩ ⟨hle,hdig,hcar,hval⟩;simp only at hle hdig hcar hval;rw[Ij.eq_1];refine r_z 1 ?_;refine ae (au rfl (fun h=>?_) (fun h=>?_));refine am ?_;have hlt:s.length< (aw MB p).length:=by simpa using h
 obtain⟨x,hx⟩:∃x,(aw MB p)[s.length]?=some x:=⟨_,List.getElem?_eq_getElem hlt⟩;have hx1:x< 1000000000:=cO (by decide) hx;have hx':(dE (aw MB p))[((s.length:Nat):Int).toNat]?=some [u32 x]:=dW hx;refine ae (aj (s_r 5 ?_));refine a_1 ?_;refine i_x hx' ?_;refine l_1 hx' ?_;refine a_z ?_;refine r_z 4 ?_;refine ae (r_z 5 ?_)
 have hq0:∀y,((aw MB q)[s.length]?.getD 0=y)->y< 1000000000:=by
  rintro y rfl;cases hy:(aw MB q)[s.length]? with
  |none=>decide
  |some y=>exact cO (by decide) hy
 refine aF (fun v:Nat=>⟨[(26,i64 s.length),(25,i64 (aw MB p).length),(24,mag p),(2,.lptr 1 0 0),(3,.lptr 2 0 0),(4,.lptr 3 0 0),(5,.lsl 4 0 ((aw MB p).length+1) (some ((aw MB p).length+1)) 1),(7,i64 s.length),(8,u32 v)],
  [(1,some ⟨32,1,[[mag p]]⟩),(2,some ⟨32,1,[[mag q]]⟩),(3,some ⟨32,1,[[.emp]]⟩),(4,some ⟨218,1,dE (s++List.replicate ((aw MB p).length+1- s.length) 0)⟩)],5,63⟩)
  (fun v=>v=x+c+(aw MB q)[s.length]?.getD 0) ?_ ?_
 refine au rfl (fun h=>?_) (fun h=>?_);have hlt2:s.length< (aw MB q).length:=by simpa using h
 obtain⟨y,hy⟩:∃y,(aw MB q)[s.length]?=some y:=⟨_,List.getElem?_eq_getElem hlt2⟩;have hy1:y< 1000000000:=cO (by decide) hy;have hy':(dE (aw MB q))[((s.length:Nat):Int).toNat]?=some [u32 y]:=dW hy;refine r_m 8 ?_;refine a_4 ?_;refine i_x hy' ?_;refine l_1 hy' ?_;refine a_z ?_;refine⟨x+c+y,by rw[hy];rfl,?_⟩;exact s_e [];have hlt2:¬s.length< (aw MB q).length:=by simpa using h
 refine am ⟨x+c,by rw[List.getElem?_eq_none (by omega)];rfl,?_⟩;exact s_e [];rintro v hv;obtain⟨y,hy⟩:∃y,y=(aw MB q)[s.length]?.getD 0:=⟨_,rfl⟩;have hy1:=hq0 y hy.symm;rw[<-hy] at hv;refine r_z 1 ?_;refine ae (r_z 2 ?_)
 have hg:(dE (s++List.replicate ((aw MB p).length+1- s.length) 0))[0+((s.length:Nat):Int).toNat]?=some [u32 0]:=by
  rw[Nat.zero_add,Int.toNat_natCast];exact dW (by rw[show(aw MB p).length+1- s.length=((aw MB p).length- s.length)+1 by omega];exact Bg _ _ _ rfl)
 have hset:∀w:Nat,(dE (s++List.replicate ((aw MB p).length+1- s.length) 0)).set (0+((s.length:Nat):Int).toNat) [u32 w]=dE ((s++[w])++List.replicate ((aw MB p).length+1- (s++[w]).length) 0):=by
  intro w;rw[Nat.zero_add,Int.toNat_natCast,iz,show(aw MB p).length+1- s.length=((aw MB p).length- s.length)+1 by omega,Ay _ _ _ _ rfl,show(aw MB p).length+1- (s++[w]).length=(aw MB p).length- s.length by simp]
 have hnext:∀w c',w+1000000000* c'=x+c+y->w< 1000000000->c'<=1->PlusI p q (s++[w],c'):=by
  intro w c' hw hwb hc';refine⟨by simp;omega,?_,hc',?_⟩;intro d hd;rcases List.mem_append.1 hd with hd|hd
  exact hdig d hd;simp at hd;subst hd;exact hwb;simp only[List.length_append,List.length_singleton];rw[iq,cX _ hx,eT,<-hy,Nat.pow_succ];have e:MB^ s.length* w+MB^ s.length* MB* c'=MB^ s.length* (w+MB* c'):=by rw[Nat.mul_add,Nat.mul_assoc]
  have e2:MB^ s.length* (x+c+y)=MB^ s.length* x+MB^ s.length* c+MB^ s.length* y:=by rw[Nat.mul_add,Nat.mul_add]
  rw[hw,e2] at e;omega
 refine au rfl (fun h=>?_) (fun h=>?_);have hb:1000000000<=v:=by have:=of_decide_eq_true h;omega
 have hv1:((v:Int)- 1000000000)=((v- 1000000000:Nat):Int):=by omega
 refine r_m 4 ?_;refine a_z ?_;refine r_m 5 ?_;refine a_4 ?_;refine eF (.store rfl rfl hg rfl rfl rfl TS.h (nle rfl)) ?_;refine aq ?_;refine r_m 2 ?_;refine a_z ?_;refine⟨(s++[v- 1000000000],1),by simp;omega,hnext _ _ (by omega) (by omega) (Nat.le_refl _),?_⟩;rw[Ij.eq_1];exact s_x [] (fun hs=>ek) (fun hs=>e_30);have hb:v< 1000000000:=by have:=of_decide_eq_false h;omega
 refine am (r_m 5 ?_);refine a_4 ?_;refine eF (.store rfl rfl hg rfl rfl rfl TS.h (nle rfl)) ?_;refine aq ?_;refine r_m 2 ?_;refine a_z ?_;refine⟨(s++[v],0),by simp;omega,hnext _ _ (by omega) hb (by omega),?_⟩;rw[Ij.eq_1];exact s_x [] (fun hs=>ek) (fun hs=>e_31);refine ax ⟨(s,c),⟨⟨hle,hdig,hcar,hval⟩,?_⟩,?_⟩;simp at h;simp;omega;rw[Ij.eq_1];exact s_e [];rintro⟨s,c⟩ ⟨⟨hle,hdig,hcar,hval⟩,hlen⟩;simp only at hle hdig hcar hval hlen
 have hg:(dE (s++List.replicate ((aw MB p).length+1- s.length) 0))[0+(((aw MB p).length:Nat):Int).toNat]?=some [u32 0]:=by
  rw[Nat.zero_add,Int.toNat_natCast,<-hlen];exact dW (by rw[show s.length+1- s.length=0+1 by omega];exact Bg _ _ _ rfl)
 have hset:(dE (s++List.replicate ((aw MB p).length+1- s.length) 0)).set (0+(((aw MB p).length:Nat):Int).toNat) [u32 c]=dE (s++[c]):=by
  rw[Nat.zero_add,Int.toNat_natCast,<-hlen,iz,show s.length+1- s.length=0+1 by omega,Ay _ _ _ _ rfl];simp
 have hres:fl (s++[c])=aw MB (a+b):=by
  rw[jV (b:=MB) (by decide),iq,hval,io _ (by omega),io _ (by omega),bU (by decide),bU (by decide),hpq];intro d hd;rcases List.mem_append.1 hd with hd|hd
  exact hdig d hd;simp at hd;subst hd;show d< 1000000000;omega
 rw[Ij.eq_1];refine s_r 7 ?_;refine a_6 ?_;refine eF (.store rfl rfl hg rfl rfl rfl TS.h (nle rfl)) ?_;refine aq ?_;refine AWp.ent (st':=⟨[(4,.lptr 3 0 0),(5,.arr (dE (s++[c])))],[(3,some ⟨32,1,[[.emp]]⟩)],4,63⟩) ?_ ?_;refine s_x [] (fun hs=>?_) (fun hs=>?_)
 ·repeat' (first|exact aP|refine ay rfl ?_ ?_|exact Cv.sealE hs rfl (aT rfl) hset (by simp[hlen]) (b6 _)|exact aX)
 ·repeat' (first|exact aE|refine h_c ?_ ?_|exact bZ|refine aD ?_|exact av|refine ah ?_ ?_|exact Cv.sealE hs rfl (aT rfl) hset (by simp[hlen]) (b6 _)|exact aX)
 refine s_r 3 ?_;refine o_0 (.move rfl) ?_;refine o_0 (.call rfl rfl rfl (iP _ (by simp;omega))) ?_;refine a_z ?_;refine ai (dP rfl rfl rfl TG.h TS.h (nle rfl) ?_ (az (ac (ce _) af)));rw[hres];rfl
def agS(a:Nat)(b:Nat):Nat->AState
 |k=>⟨[(2,.lptr 1 0 0),(3,.lptr 2 0 0),(6,i64 ((k:Int)- 1))],[(1,some ⟨32,1,[[mag a]]⟩),(2,some ⟨32,1,[[mag b]]⟩)],3,40⟩
theorem pv(a b:Nat)(h:bl a+bl b<=17592186044416):FS 108 [.agg [mag a],.agg [mag b]] (i64 (eN a b)):=by
 have s:=b7 (b:=MB) (by decide) a;have t:=b7 (b:=MB) (by decide) b;refine f_c Tryz.func108 ?_;refine r_z 3 ?_;refine ae (r_c 8 (zq _ _) ?_);refine a_z ?_;refine r_z 2 ?_;refine au rfl (fun h=>?_) (fun h=>?_);have c:eN (aw MB a).length (aw MB b).length≠0:=by simpa using h
 refine r_z 2 ?_;refine ai (aW rfl ?_ (ag _));unfold i64;congr 2;rw[ug] at c;rcases Nat.lt_or_ge (aw MB a).length (aw MB b).length with g|g
 have:=jP (by decide) g;rw[mX (by omega),mX (by omega)];have:=jP (m:=b) (n:=a) (b:=MB) (by decide) (by omega);rw[oW (by omega),oW (by omega)]
 have heq:(aw MB a).length=(aw MB b).length:=by
  have q:¬eN (aw MB a).length (aw MB b).length≠0:=by simpa using h
  rw[ug] at q;omega
 refine am (ae (r_z 5 ?_));refine aF (agS a b) (fun k=>k=0/\a=b) ?_ ?_;refine aj (aC (agS a b) (fun k=>k) (fun k=>k<=(aw MB a).length/\(aw MB a).drop k=(aw MB b).drop k) (aw MB a).length ⟨Nat.le_refl _,by rw[List.drop_length,heq,List.drop_length]⟩ ?_ ?_);rw[agS.eq_1];exact s_e [];rintro k ⟨u,d⟩;rw[agS.eq_1];refine ae (r_z 2 ?_);refine au rfl (fun h=>?_) (fun h=>?_);have f:0< k:=by have:=of_decide_eq_true h;omega
 obtain⟨x,l⟩:∃x,(aw MB a)[k- 1]?=some x:=⟨_,List.getElem?_eq_getElem (by omega)⟩;obtain⟨y,j⟩:∃y,(aw MB b)[k- 1]?=some y:=⟨_,List.getElem?_eq_getElem (by omega)⟩;have e:(dE (aw MB a))[((k:Int)- 1).toNat]?=some [u32 x]:=by rw[show((k:Int)- 1).toNat=k- 1 by omega];exact dW l
 have i:(dE (aw MB b))[((k:Int)- 1).toNat]?=some [u32 y]:=by rw[show((k:Int)- 1).toNat=k- 1 by omega];exact dW j
 rw[show k=(k- 1)+1 by omega] at d;refine am (ae (aj (ae (r_d a7 12 ?_))));refine a_3 ?_;refine i_x e ?_;refine l_1 e ?_;refine a_3 ?_;refine i_x i ?_;refine l_1 i ?_;refine c_s (zp x y) ?_;refine a_1 ?_;refine aq (n_k ?_);refine r_z 2 ?_;refine au rfl (fun o=>?_) (fun o=>?_);have c:eN x y≠0:=by simpa using o
 refine r_z 2 ?_;refine ai (aW rfl ?_ (ag _));unfold i64;congr 2;rw[ug] at c;rcases Nat.lt_or_ge x y with g|g
 have:=oG (b:=MB) (ec (by decide) a) l j d g;rw[bU (by decide),bU (by decide)] at this;rw[mX (by omega),mX (by omega)];have:=oG (b:=MB) (ec (by decide) b) j l d.symm (by omega);rw[bU (by decide),bU (by decide)] at this;rw[oW (by omega),oW (by omega)]
 have r:x=y:=by
  have q:¬eN x y≠0:=by simpa using o
  rw[ug] at q;omega
 refine am (r_m 3 ?_);refine a_z ?_;refine⟨k- 1,by omega,⟨by omega,?_⟩,?_⟩;rw[fY l,fY j,d,r];rw[agS.eq_1];exact s_e [];have f:k=0:=by have:=of_decide_eq_false h;omega
 subst f;refine ax ⟨0,⟨rfl,?_⟩,?_⟩;have:=congrArg (ofD MB) d;rwa[List.drop_zero,List.drop_zero,bU (by decide),bU (by decide)] at this;rw[agS.eq_1];exact s_e [];rintro k ⟨rfl,p⟩;rw[agS.eq_1];refine r_z 1 ?_;refine ai (aW rfl ?_ (ag _));subst p;rw[FV rfl];rfl
def leS(a:Nat)(b:Nat):Ln×Nat->AState
 |(s,c)=>⟨[(19,i64 s.length),(18,i64 (aw MB a).length),(2,.lptr 1 0 0),(3,.lptr 2 0 0),(4,.lptr 3 0 0),(5,.lsl 4 0 (aw MB a).length (some (aw MB a).length) 1),(6,u32 c)],
  [(1,some ⟨32,1,[[mag a]]⟩),(2,some ⟨32,1,[[mag b]]⟩),(3,some ⟨32,1,[[.emp]]⟩),(4,some ⟨218,1,dE (s++(aw MB a).drop s.length)⟩)],5,61⟩
def leT(n:Nat):Ln×Unit->AState
 |(o,u)=>⟨[(4,.lptr 3 0 0),(5,.lsl 4 0 n (some n) 1)],
  [(3,some ⟨32,1,[[.emp]]⟩),(4,some ⟨218,1,dE o⟩)],5,61⟩
structure LessI (a b:Nat)(x:Ln×Nat):Prop where
 le:x.1.length<=(aw MB a).length
 dig:∀d∈x.1,d< MB
 car:x.2<=1
 val:ofD MB x.1+ofD MB ((aw MB b).take x.1.length)=ofD MB ((aw MB a).take x.1.length)+MB^ x.1.length* x.2
theorem zc(a b:Nat)(h:bl a<=17592186044416)(hba:b<=a):FS 166 [.agg [mag a],.agg [mag b]] (.agg [mag (a- b)]):=by
 have hla:=b7 (b:=MB) (by decide) a;have hlen:=A8 (b:=MB) (by decide) hba;have va:=bU (b:=MB) (by decide) a;have vb:=bU (b:=MB) (by decide) b;refine f_c Tryz.func166 ?_;refine r_z 3 ?_;refine r_z 5 ?_;refine s_r 4 ?_;refine a_3 ?_;refine o_1 (.copy rfl rfl rfl te_30.h rfl rfl rfl (by first|(simp;done)|(simp;omega)) (by first|exact dV _|exact dT _|exact dy _|exact dX _|exact dS _|rfl|simp) rfl (.arr (z6 _))) ?_;refine aq ?_
 have hcp:fa (List.replicate (aw MB a).length [ofV (Value.int IntKind.u32 0)]) 0 (List.take (Nat.min (dE (aw MB a)).length (aw MB a).length) (dE (aw MB a)))=dE ([]++(aw MB a).drop 0):=by
  rw[Ge];rw[List.take_of_length_le (by simp)];rfl;simp
 refine r_z 1 ?_;refine ae (r_z 3 ?_);refine aF (leT (aw MB a).length) (fun x=>(∀d∈x.1,d< MB)/\x.1.length=(aw MB a).length/\ofD MB x.1=a- b) ?_ ?_;refine aj (aC (leS a b) (fun x=>(aw MB a).length- x.1.length) (LessI a b) ([],0) ⟨by simp,by simp,by simp,by simp[ofD]⟩ ?_ ?_);rw[leS.eq_1];exact s_x [(4,5)] (fun hs=>ek) (fun hs=>e_33) e_32;rintro⟨s,c⟩ ⟨hle,hdig,hcar,hval⟩;simp only at hle hdig hcar hval;rw[leS.eq_1];refine r_z 1 ?_;refine ae (au rfl (fun h=>?_) (fun h=>?_));have hlt:s.length< (aw MB a).length:=by have:=of_decide_eq_true h;omega
 obtain⟨x,hx⟩:∃x,(aw MB a)[s.length]?=some x:=⟨_,List.getElem?_eq_getElem hlt⟩;have hx1:x< 1000000000:=cO (by decide) hx;have hdx:=fY hx;refine am (ae (aj (r_z 2 ?_)));refine r_z 2 ?_;refine ae (r_z 5 ?_)
 refine aF (fun v:Nat=>⟨[(19,i64 s.length),(18,i64 (aw MB a).length),(2,.lptr 1 0 0),(3,.lptr 2 0 0),(4,.lptr 3 0 0),(5,.lsl 4 0 (aw MB a).length (some (aw MB a).length) 1),(6,u32 c),(7,i64 s.length),(8,u32 v)],
  [(1,some ⟨32,1,[[mag a]]⟩),(2,some ⟨32,1,[[mag b]]⟩),(3,some ⟨32,1,[[.emp]]⟩),(4,some ⟨218,1,dE (s++(aw MB a).drop s.length)⟩)],5,61⟩)
  (fun v=>v=c+(aw MB b)[s.length]?.getD 0/\v<=1000000000) ?_ ?_
 refine au rfl (fun h=>?_) (fun h=>?_);have hlt2:s.length< (aw MB b).length:=by have:=of_decide_eq_true h;omega
 obtain⟨y,hy⟩:∃y,(aw MB b)[s.length]?=some y:=⟨_,List.getElem?_eq_getElem hlt2⟩;have hy1:y< 1000000000:=cO (by decide) hy;have hy':(dE (aw MB b))[((s.length:Nat):Int).toNat]?=some [u32 y]:=dW hy;refine r_m 8 ?_;refine a_4 ?_;refine i_x hy' ?_;refine l_1 hy' ?_;refine a_z ?_;refine⟨c+y,⟨by rw[hy];rfl,by omega⟩,?_⟩;exact s_e [];have hlt2:¬s.length< (aw MB b).length:=by have:=of_decide_eq_false h;omega
 refine r_z 2 ?_;refine au rfl (fun h=>?_) (fun h=>?_);have hc0:c=0:=by simpa using h
 refine ax ⟨(s++(aw MB a).drop s.length,()),⟨?_,by simp;omega,?_⟩,?_⟩;intro d hd;rcases List.mem_append.1 hd with hd|hd
 exact hdig d hd;exact ec (by decide) a d (List.mem_of_mem_drop hd);have:=er MB s.length (aw MB a) (by omega);rw[va] at this;rw[io _ (by omega),vb,hc0] at hval;simp only[gQ];omega;rw[leT.eq_1];exact s_e [];refine am ⟨c,⟨by rw[List.getElem?_eq_none (by omega)];rfl,by omega⟩,?_⟩;exact s_e [];rintro v ⟨hv,hv1⟩;obtain⟨y,hy⟩:∃y,y=(aw MB b)[s.length]?.getD 0:=⟨_,rfl⟩;rw[<-hy] at hv
 have hg:(dE (s++(aw MB a).drop s.length))[0+((s.length:Nat):Int).toNat]?=some [u32 x]:=by
  rw[Nat.zero_add,Int.toNat_natCast,hdx];exact dW (qF _ _ _ _ rfl)
 have hset:∀w:Nat,(dE (s++(aw MB a).drop s.length)).set (0+((s.length:Nat):Int).toNat) [u32 w]=dE ((s++[w])++(aw MB a).drop (s++[w]).length):=by
  intro w;rw[Nat.zero_add,Int.toNat_natCast,iz,hdx,pX _ _ _ _ _ rfl];simp
 have hnext:∀w c',w+v=x+1000000000* c'->w< 1000000000->c'<=1->LessI a b (s++[w],c'):=by
  intro w c' hw hwb hc';refine⟨by simp;omega,?_,hc',?_⟩;intro d hd;rcases List.mem_append.1 hd with hd|hd
  exact hdig d hd;simp at hd;subst hd;exact hwb;simp only[List.length_append,List.length_singleton];rw[iq,cX _ hx,eT,<-hy,Nat.pow_succ];have e:MB^ s.length* (w+v)=MB^ s.length* (x+MB* c'):=by rw[hw]
  rw[hv,Nat.mul_add,Nat.mul_add,Nat.mul_add,<-Nat.mul_assoc] at e;omega
 refine r_z 1 ?_;refine ae (s_r 6 ?_);refine a_2 ?_;refine aY (.index_l rfl rfl (by omega) (by omega) te_30.h) rfl rfl ?_;refine aY (.load_l1 rfl rfl hg TG.h rfl) rfl rfl ?_;refine a_z ?_;refine au rfl (fun h=>?_) (fun h=>?_);have hb:x< v:=by have:=of_decide_eq_true h;omega
 have hv2:((x:Int)+1000000000- v)=((x+1000000000- v:Nat):Int):=by omega
 have hv3:((x:Int)+1000000000)=((x+1000000000:Nat):Int):=by omega
 refine r_m 10 ?_;refine a_5 ?_;refine aY (.load_l1 rfl rfl hg TG.h rfl) rfl rfl ?_;refine a_2 ?_;refine eF (.store rfl rfl hg rfl rfl rfl TS.h (nle rfl)) ?_;refine a_z ?_
 refine AWp.ent (st':=⟨[(19,i64 s.length),(18,i64 (aw MB a).length),(2,.lptr 1 0 0),(3,.lptr 2 0 0),(4,.lptr 3 0 0),(5,.lsl 4 0 (aw MB a).length (some (aw MB a).length) 1),(6,u32 1),(7,i64 s.length),(8,u32 v)],
  [(1,some ⟨32,1,[[mag a]]⟩),(2,some ⟨32,1,[[mag b]]⟩),(3,some ⟨32,1,[[.emp]]⟩),(4,some ⟨218,1,dE (s++(x+1000000000)::(aw MB a).drop (s.length+1))⟩)],5,61⟩) ?_ ?_
 refine s_x [] (fun hs=>ek) (fun hs=>?_)
 ·repeat' (first|exact aE|refine h_c ?_ ?_|(refine aI hs ?_ (b6 _);rw[hv3];exact(hset _).trans (by simp))|exact bZ)
 have hg2:(dE (s++(x+1000000000)::(aw MB a).drop (s.length+1)))[0+((s.length:Nat):Int).toNat]?=some [u32 (x+1000000000)]:=by
  rw[Nat.zero_add,Int.toNat_natCast];exact dW (qF _ _ _ _ rfl)
 have hset2:∀w:Nat,(dE (s++(x+1000000000)::(aw MB a).drop (s.length+1))).set (0+((s.length:Nat):Int).toNat) [u32 w]=dE ((s++[w])++(aw MB a).drop (s++[w]).length):=by
  intro w;rw[Nat.zero_add,Int.toNat_natCast,iz,pX _ _ _ _ _ rfl];simp
 have hv2:(((x+1000000000:Nat):Int)- v)=((x+1000000000- v:Nat):Int):=by omega
 refine r_m 8 ?_;refine a_2 ?_;refine aY (.index_l rfl rfl (by omega) (by omega) te_30.h) rfl rfl ?_;refine aY (.load_l1 rfl rfl hg2 TG.h rfl) rfl rfl ?_;refine a_3 ?_;refine eF (.store rfl rfl hg2 rfl rfl rfl TS.h (nle rfl)) ?_;refine aq ?_;refine r_m 2 ?_;refine a_z ?_;refine⟨(s++[x+1000000000- v],1),by simp;omega,hnext _ _ (by omega) (by omega) (by omega),?_⟩;rw[leS.eq_1];refine s_x [] (fun hs=>ek) (fun hs=>?_)
 ·repeat' (first|exact aE|refine h_c ?_ ?_|(refine aI hs ?_ (b6 _);rw[hv2];exact hset2 _)|exact bZ)
 have hb:v<=x:=by have:=of_decide_eq_false h;omega
 have hv1:((x:Int)- v)=((x- v:Nat):Int):=by omega
 refine am (r_m 8 ?_);refine a_2 ?_;refine aY (.index_l rfl rfl (by omega) (by omega) te_30.h) rfl rfl ?_;refine aY (.load_l1 rfl rfl hg TG.h rfl) rfl rfl ?_;refine a_3 ?_;refine eF (.store rfl rfl hg rfl rfl rfl TS.h (nle rfl)) ?_;refine aq ?_;refine r_m 2 ?_;refine a_z ?_;refine⟨(s++[x- v],0),by simp;omega,hnext _ _ (by omega) (by omega) (by omega),?_⟩;rw[leS.eq_1];exact s_x [] (fun hs=>ek) (fun hs=>e_30);have hl:s.length=(aw MB a).length:=by have:=of_decide_eq_false h;omega
 refine ax ⟨(s,()),⟨hdig,hl,?_⟩,?_⟩;have h1:=fG hdig;rw[hl,io _ hlen,io _ (Nat.le_refl _),va,vb] at hval;rw[hl] at h1
 have h2:c=0:=by
  rcases Nat.eq_zero_or_pos c with h|h
  exact h;have:MB^ (aw MB a).length* 1<=MB^ (aw MB a).length* c:=Nat.mul_le_mul_left _ h;omega
 subst h2;simp at hval⊢;omega;rw[leT.eq_1];refine s_x [] (fun hs=>?_) (fun hs=>?_) ?_
 ·repeat' (first|exact aP|refine ay rfl ?_ ?_|exact aX|(refine Cv.loE hs ?_ (ag _);first|rfl|(simp[i64,u64,u32,bln,hl];done)|(simp[i64,u64,u32,bln,hl]<;> omega)))
 ·repeat' (first|exact aE|refine h_c ?_ ?_|exact bZ|(refine aI hs ?_ (b6 _);first|(simp[iz,lN,iA,hl];done)|(simp[dE,u32,ofV,hl];done))|refine aD ?_|exact av|refine ah ?_ ?_|exact aX|(refine Cv.loE hs ?_ (ag _);first|(simp[i64,u64,u32,bln,hl];done)|(simp[i64,u64,u32,bln,hl]<;> omega)))
 ·repeat' (first|exact ShrL.nil|refine ShrL.cons rfl rfl rfl rfl (by first|rfl|(simp;done)|(simp[hl]<;> omega)) ?_)
 rintro⟨o,u⟩ ⟨hd,hl,hv⟩;rw[leT.eq_1];refine AWp.ent (st':=⟨[(4,.lptr 3 0 0),(5,.arr (dE o))],[(3,some ⟨32,1,[[.emp]]⟩)],4,61⟩) ?_ ?_;refine s_x [] (fun hs=>?_) (fun hs=>?_)
 ·repeat' (first|exact aP|refine ay rfl ?_ ?_|exact Cv.sealE hs rfl (aT rfl) rfl (by simp[hl]) (b6 _)|exact aX)
 ·repeat' (first|exact aE|refine h_c ?_ ?_|exact bZ|refine aD ?_|exact av|refine ah ?_ ?_|exact Cv.sealE hs rfl (aT rfl) rfl (by simp[hl]) (b6 _)|exact aX)
 simp only at hl hv;refine s_r 3 ?_;refine o_0 (.move rfl) ?_;refine o_0 (.call rfl rfl rfl (iP _ (by omega))) ?_;refine eF (.store rfl rfl rfl rfl rfl rfl TS.h (nle rfl)) ?_;refine aq ?_;refine ai (dP rfl rfl rfl TG.h TS.h (nle rfl) ?_ (az (ac (ce _) af)));rw[jV (b:=MB) (by decide) hd,hv];rfl
end Go.Proofs.YtkbjakfniejkcaaGreatDoor
