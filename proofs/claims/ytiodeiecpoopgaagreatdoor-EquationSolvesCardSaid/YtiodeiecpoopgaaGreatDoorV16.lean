/- Part V16. -/
import Derived.Test.YtiodeiecpoopgaaGreatDoorV15
import Derived.Test.YtiodeiecpoopgaaGreatDoorProg
import Derived.KernelRfl
set_option linter.all false
namespace Go.Proofs.YtiodeiecpoopgaaGreatDoor
open Go.Abs
set_option maxRecDepth 20000
theorem aT:Tryz.prog.follows .mixedOrders=true:=by kernel_rfl
instance:T4 Tryz.prog 2 [Value.int IntKind.i64 0] 1 false 8:=⟨by kernel_rfl⟩
instance tu_2:TU Tryz.prog 2 (.int .i64):=⟨by kernel_rfl⟩
instance:T4 Tryz.prog 3 [Value.int IntKind.i64 0] 1 false 8:=⟨by kernel_rfl⟩
instance tu_3:TU Tryz.prog 3 (.int .i64):=⟨by kernel_rfl⟩
instance:T4 Tryz.prog 4 [Value.bool false] 1 false 1:=⟨by kernel_rfl⟩
instance tu_4:TU Tryz.prog 4 .bool:=⟨by kernel_rfl⟩
instance:T4 Tryz.prog 5 [Value.int IntKind.u8 0] 1 false 1:=⟨by kernel_rfl⟩
instance tu_5:TU Tryz.prog 5 (.int .u8):=⟨by kernel_rfl⟩
instance:T3 Tryz.prog 9 1 false 16:=⟨by kernel_rfl⟩
instance tu_9:TU Tryz.prog 9 .string:=⟨by kernel_rfl⟩
instance:T4 Tryz.prog 22 [Value.slice none 0 0] 1 false 24:=⟨by kernel_rfl⟩
instance te_22:TE Tryz.prog 22 (88,2):=⟨by kernel_rfl⟩
instance:T4 Tryz.prog 24 [Value.int IntKind.i64 0,Value.int IntKind.i64 0,Value.int IntKind.u8 0] 3 true 24:=⟨by kernel_rfl⟩
instance tp_24:TP Tryz.prog 24 [(0,1),(1,1),(2,1)]:=⟨by kernel_rfl⟩
instance:T2 Tryz.prog 24 0 (0,1) false:=⟨by kernel_rfl⟩
instance:T2 Tryz.prog 24 1 (1,1) false:=⟨by kernel_rfl⟩
instance:T2 Tryz.prog 24 2 (2,1) false:=⟨by kernel_rfl⟩
instance:T4 Tryz.prog 26 [Value.int IntKind.i64 0,Value.int IntKind.i64 0,Value.int IntKind.u8 0,Value.int IntKind.i64 0,Value.int IntKind.i64 0,Value.int IntKind.u8 0] 6 true 48:=⟨by kernel_rfl⟩
instance tp_26:TP Tryz.prog 26 [(0,3),(3,3)]:=⟨by kernel_rfl⟩
instance:T2 Tryz.prog 26 0 (0,3) true:=⟨by kernel_rfl⟩
instance:T2 Tryz.prog 26 1 (3,3) true:=⟨by kernel_rfl⟩
instance:T4 Tryz.prog 27 [Value.slice none 0 0] 1 false 24:=⟨by kernel_rfl⟩
instance te_27:TE Tryz.prog 27 (24,3):=⟨by kernel_rfl⟩
instance:T4 Tryz.prog 28 [Value.slice none 0 0] 1 false 24:=⟨by kernel_rfl⟩
instance te_28:TE Tryz.prog 28 (91,2):=⟨by kernel_rfl⟩
instance:T4 Tryz.prog 29 [Value.slice none 0 0] 1 false 24:=⟨by kernel_rfl⟩
instance te_29:TE Tryz.prog 29 (91,2):=⟨by kernel_rfl⟩
instance:T4 Tryz.prog 31 [Value.slice none 0 0] 1 false 24:=⟨by kernel_rfl⟩
instance te_31:TE Tryz.prog 31 (93,2):=⟨by kernel_rfl⟩
instance:T4 Tryz.prog 34 [Value.slice none 0 0] 1 false 24:=⟨by kernel_rfl⟩
instance te_34:TE Tryz.prog 34 (48,3):=⟨by kernel_rfl⟩
instance:T4 Tryz.prog 35 [Value.slice none 0 0] 1 false 24:=⟨by kernel_rfl⟩
instance te_35:TE Tryz.prog 35 (48,3):=⟨by kernel_rfl⟩
instance:T4 Tryz.prog 36 [Value.slice none 0 0] 1 false 24:=⟨by kernel_rfl⟩
instance te_36:TE Tryz.prog 36 (55,4):=⟨by kernel_rfl⟩
instance:T4 Tryz.prog 37 [Value.slice none 0 0] 1 false 24:=⟨by kernel_rfl⟩
instance te_37:TE Tryz.prog 37 (55,4):=⟨by kernel_rfl⟩
instance:T4 Tryz.prog 42 [Value.slice none 0 0] 1 false 24:=⟨by kernel_rfl⟩
instance te_42:TE Tryz.prog 42 (209,1):=⟨by kernel_rfl⟩
instance:T4 Tryz.prog 44 [Value.slice none 0 0] 1 true 24:=⟨by kernel_rfl⟩
instance tp_44:TP Tryz.prog 44 [(0,1)]:=⟨by kernel_rfl⟩
instance:T2 Tryz.prog 44 0 (0,1) false:=⟨by kernel_rfl⟩
instance:T4 Tryz.prog 46 [Value.slice none 0 0,Value.bool false] 2 true 32:=⟨by kernel_rfl⟩
instance tp_46:TP Tryz.prog 46 [(0,1),(1,1)]:=⟨by kernel_rfl⟩
instance:T2 Tryz.prog 46 0 (0,1) true:=⟨by kernel_rfl⟩
instance:T2 Tryz.prog 46 1 (1,1) false:=⟨by kernel_rfl⟩
instance:T4 Tryz.prog 48 [Value.slice none 0 0,Value.bool false,Value.slice none 0 0] 3 true 56:=⟨by kernel_rfl⟩
instance tp_48:TP Tryz.prog 48 [(0,2),(2,1)]:=⟨by kernel_rfl⟩
instance:T2 Tryz.prog 48 0 (0,2) true:=⟨by kernel_rfl⟩
instance:T2 Tryz.prog 48 1 (2,1) true:=⟨by kernel_rfl⟩
instance:T4 Tryz.prog 50 [Value.slice none 0 0,Value.bool false,Value.slice none 0 0,Value.slice none 0 0,Value.bool false,Value.slice none 0 0] 6 true 112:=⟨by kernel_rfl⟩
instance tp_50:TP Tryz.prog 50 [(0,3),(3,3)]:=⟨by kernel_rfl⟩
instance:T2 Tryz.prog 50 0 (0,3) true:=⟨by kernel_rfl⟩
instance:T2 Tryz.prog 50 1 (3,3) true:=⟨by kernel_rfl⟩
instance:T4 Tryz.prog 51 [Value.slice none 0 0] 1 false 24:=⟨by kernel_rfl⟩
instance te_51:TE Tryz.prog 51 (3,1):=⟨by kernel_rfl⟩
instance:T4 Tryz.prog 53 [Value.int IntKind.i64 0,Value.slice none 0 0] 2 true 32:=⟨by kernel_rfl⟩
instance tp_53:TP Tryz.prog 53 [(0,1),(1,1)]:=⟨by kernel_rfl⟩
instance:T2 Tryz.prog 53 0 (0,1) false:=⟨by kernel_rfl⟩
instance:T2 Tryz.prog 53 1 (1,1) false:=⟨by kernel_rfl⟩
instance:T4 Tryz.prog 55 [Value.int IntKind.i64 0,Value.slice none 0 0,Value.int IntKind.i64 0,Value.slice none 0 0] 4 true 64:=⟨by kernel_rfl⟩
instance tp_55:TP Tryz.prog 55 [(0,2),(2,2)]:=⟨by kernel_rfl⟩
instance:T2 Tryz.prog 55 0 (0,2) true:=⟨by kernel_rfl⟩
instance:T2 Tryz.prog 55 1 (2,2) true:=⟨by kernel_rfl⟩
instance:T4 Tryz.prog 57 [Value.int IntKind.i64 0,Value.slice none 0 0,Value.int IntKind.i64 0,Value.slice none 0 0,Value.int IntKind.i64 0,Value.slice none 0 0,Value.int IntKind.i64 0,Value.slice none 0 0] 8 true 128:=⟨by kernel_rfl⟩
instance tp_57:TP Tryz.prog 57 [(0,4),(4,4)]:=⟨by kernel_rfl⟩
instance:T2 Tryz.prog 57 0 (0,4) true:=⟨by kernel_rfl⟩
instance:T2 Tryz.prog 57 1 (4,4) true:=⟨by kernel_rfl⟩
instance:T4 Tryz.prog 65 [Value.slice none 0 0,Value.slice none 0 0,Value.bool false,Value.slice none 0 0,Value.slice none 0 0] 5 true 104:=⟨by kernel_rfl⟩
instance tp_65:TP Tryz.prog 65 [(0,1),(1,3),(4,1)]:=⟨by kernel_rfl⟩
instance:T2 Tryz.prog 65 0 (0,1) false:=⟨by kernel_rfl⟩
instance:T2 Tryz.prog 65 1 (1,3) true:=⟨by kernel_rfl⟩
instance:T2 Tryz.prog 65 2 (4,1) false:=⟨by kernel_rfl⟩
instance:T4 Tryz.prog 66 [Value.slice none 0 0] 1 false 24:=⟨by kernel_rfl⟩
instance te_66:TE Tryz.prog 66 (35,1):=⟨by kernel_rfl⟩
instance:T4 Tryz.prog 76 [Value.slice none 0 0] 1 false 24:=⟨by kernel_rfl⟩
instance te_76:TE Tryz.prog 76 (37,1):=⟨by kernel_rfl⟩
instance:T4 Tryz.prog 88 [Value.slice none 0 0,Value.slice none 0 0] 2 true 48:=⟨by kernel_rfl⟩
instance tp_88:TP Tryz.prog 88 [(0,1),(1,1)]:=⟨by kernel_rfl⟩
instance:T2 Tryz.prog 88 0 (0,1) false:=⟨by kernel_rfl⟩
instance:T2 Tryz.prog 88 1 (1,1) false:=⟨by kernel_rfl⟩
instance:T4 Tryz.prog 91 [Value.slice none 0 0,Value.slice none 0 0] 2 true 48:=⟨by kernel_rfl⟩
instance tp_91:TP Tryz.prog 91 [(0,1),(1,1)]:=⟨by kernel_rfl⟩
instance:T2 Tryz.prog 91 0 (0,1) false:=⟨by kernel_rfl⟩
instance:T2 Tryz.prog 91 1 (1,1) false:=⟨by kernel_rfl⟩
instance:T4 Tryz.prog 93 [Value.slice none 0 0,Value.slice none 0 0] 2 true 48:=⟨by kernel_rfl⟩
instance tp_93:TP Tryz.prog 93 [(0,1),(1,1)]:=⟨by kernel_rfl⟩
instance:T2 Tryz.prog 93 0 (0,1) false:=⟨by kernel_rfl⟩
instance:T2 Tryz.prog 93 1 (1,1) false:=⟨by kernel_rfl⟩
instance:T4 Tryz.prog 101 [Value.slice none 0 0,Value.slice none 0 0,Value.bool false,Value.slice none 0 0,Value.slice none 0 0,Value.bool false,Value.slice none 0 0,Value.slice none 0 0,Value.bool false,Value.slice none 0 0] 10 true 192:=⟨by kernel_rfl⟩
instance tp_101:TP Tryz.prog 101 [(0,1),(1,3),(4,3),(7,3)]:=⟨by kernel_rfl⟩
instance:T2 Tryz.prog 101 0 (0,1) false:=⟨by kernel_rfl⟩
instance:T2 Tryz.prog 101 1 (1,3) true:=⟨by kernel_rfl⟩
instance:T2 Tryz.prog 101 2 (4,3) true:=⟨by kernel_rfl⟩
instance:T2 Tryz.prog 101 3 (7,3) true:=⟨by kernel_rfl⟩
instance:T4 Tryz.prog 112 [Value.slice none 0 0,Value.slice none 0 0,Value.bool false,Value.slice none 0 0,Value.slice none 0 0,Value.slice none 0 0,Value.bool false,Value.slice none 0 0,Value.slice none 0 0,Value.bool false,Value.slice none 0 0] 11 true 216:=⟨by kernel_rfl⟩
instance tp_112:TP Tryz.prog 112 [(0,5),(5,6)]:=⟨by kernel_rfl⟩
instance:T2 Tryz.prog 112 0 (0,5) true:=⟨by kernel_rfl⟩
instance:T2 Tryz.prog 112 1 (5,6) true:=⟨by kernel_rfl⟩
instance:T4 Tryz.prog 114 [Value.slice none 0 0] 1 false 24:=⟨by kernel_rfl⟩
instance te_114:TE Tryz.prog 114 (34,1):=⟨by kernel_rfl⟩
instance:T4 Tryz.prog 115 [Value.slice none 0 0] 1 false 24:=⟨by kernel_rfl⟩
instance te_115:TE Tryz.prog 115 (34,1):=⟨by kernel_rfl⟩
instance:T4 Tryz.prog 117 [Value.slice none 0 0,Value.slice none 0 0,Value.int IntKind.i64 0] 3 true 56:=⟨by kernel_rfl⟩
instance tp_117:TP Tryz.prog 117 [(0,1),(1,1),(2,1)]:=⟨by kernel_rfl⟩
instance:T2 Tryz.prog 117 0 (0,1) false:=⟨by kernel_rfl⟩
instance:T2 Tryz.prog 117 1 (1,1) false:=⟨by kernel_rfl⟩
instance:T2 Tryz.prog 117 2 (2,1) false:=⟨by kernel_rfl⟩
instance:T4 Tryz.prog 121 [Value.nilFunc] 1 false 8:=⟨by kernel_rfl⟩
instance:T4 Tryz.prog 126 [Value.nilFunc] 1 false 8:=⟨by kernel_rfl⟩
instance:T4 Tryz.prog 129 [Value.slice none 0 0] 1 false 24:=⟨by kernel_rfl⟩
instance te_129:TE Tryz.prog 129 (36,1):=⟨by kernel_rfl⟩
instance:T4 Tryz.prog 133 [Value.slice none 0 0] 1 false 24:=⟨by kernel_rfl⟩
instance te_133:TE Tryz.prog 133 (4,1):=⟨by kernel_rfl⟩
instance:T4 Tryz.prog 138 [Value.slice none 0 0] 1 false 24:=⟨by kernel_rfl⟩
instance te_138:TE Tryz.prog 138 (2,1):=⟨by kernel_rfl⟩
instance:T4 Tryz.prog 145 [Value.nilFunc] 1 false 8:=⟨by kernel_rfl⟩
instance:T4 Tryz.prog 147 [Value.slice none 0 0,Value.bool false,Value.slice none 0 0,Value.slice none 0 0,Value.bool false,Value.slice none 0 0,Value.int IntKind.i64 0] 7 true 120:=⟨by kernel_rfl⟩
instance tp_147:TP Tryz.prog 147 [(0,6),(6,1)]:=⟨by kernel_rfl⟩
instance:T2 Tryz.prog 147 0 (0,6) true:=⟨by kernel_rfl⟩
instance:T2 Tryz.prog 147 1 (6,1) false:=⟨by kernel_rfl⟩
instance:T4 Tryz.prog 151 [Value.nilFunc] 1 false 8:=⟨by kernel_rfl⟩
instance:T4 Tryz.prog 155 [Value.pointer none] 1 false 8:=⟨by kernel_rfl⟩
instance:T4 Tryz.prog 156 [Value.slice none 0 0] 1 false 24:=⟨by kernel_rfl⟩
instance te_156:TE Tryz.prog 156 (5,1):=⟨by kernel_rfl⟩
instance:T4 Tryz.prog 158 [Value.pointer none,Value.slice none 0 0] 2 true 32:=⟨by kernel_rfl⟩
instance tp_158:TP Tryz.prog 158 [(0,1),(1,1)]:=⟨by kernel_rfl⟩
instance:T2 Tryz.prog 158 0 (0,1) false:=⟨by kernel_rfl⟩
instance:T2 Tryz.prog 158 1 (1,1) false:=⟨by kernel_rfl⟩
instance:T4 Tryz.prog 177 [Value.nilFunc] 1 false 8:=⟨by kernel_rfl⟩
instance:T4 Tryz.prog 182 [Value.nilFunc] 1 false 8:=⟨by kernel_rfl⟩
instance:T4 Tryz.prog 185 [Value.nilFunc] 1 false 8:=⟨by kernel_rfl⟩
instance:T4 Tryz.prog 192 [Value.int IntKind.u64 0] 1 false 8:=⟨by kernel_rfl⟩
instance tu_192:TU Tryz.prog 192 (.int .u64):=⟨by kernel_rfl⟩
instance:T4 Tryz.prog 202 [Value.nilFunc] 1 false 8:=⟨by kernel_rfl⟩
instance:T4 Tryz.prog 204 [Value.nilFunc] 1 false 8:=⟨by kernel_rfl⟩
instance:T4 Tryz.prog 205 [Value.pointer none] 1 false 8:=⟨by kernel_rfl⟩
instance:T4 Tryz.prog 209 [Value.int IntKind.u32 0] 1 false 4:=⟨by kernel_rfl⟩
instance tu_209:TU Tryz.prog 209 (.int .u32):=⟨by kernel_rfl⟩
instance:T4 Tryz.prog 218 [Value.nilFunc] 1 false 8:=⟨by kernel_rfl⟩
instance:T4 Tryz.prog 225 [Value.nilFunc] 1 false 8:=⟨by kernel_rfl⟩
instance:T4 Tryz.prog 230 [Value.pointer none] 1 false 8:=⟨by kernel_rfl⟩
instance:T4 Tryz.prog 232 [Value.pointer none] 1 false 8:=⟨by kernel_rfl⟩
instance:T4 Tryz.prog 234 [Value.pointer none,Value.int IntKind.i64 0] 2 true 16:=⟨by kernel_rfl⟩
instance tp_234:TP Tryz.prog 234 [(0,1),(1,1)]:=⟨by kernel_rfl⟩
instance:T2 Tryz.prog 234 0 (0,1) false:=⟨by kernel_rfl⟩
instance:T2 Tryz.prog 234 1 (1,1) false:=⟨by kernel_rfl⟩
instance:T4 Tryz.prog 237 [Value.pointer none] 1 false 8:=⟨by kernel_rfl⟩
instance:T4 Tryz.prog 241 [Value.int IntKind.u64 0] 1 false 8:=⟨by kernel_rfl⟩
instance tu_241:TU Tryz.prog 241 (.int .u64):=⟨by kernel_rfl⟩
instance:T4 Tryz.prog 267 [Value.slice none 0 0,Value.slice none 0 0,Value.int IntKind.i64 0] 3 true 56:=⟨by kernel_rfl⟩
instance tp_267:TP Tryz.prog 267 [(0,1),(1,1),(2,1)]:=⟨by kernel_rfl⟩
instance:T2 Tryz.prog 267 0 (0,1) false:=⟨by kernel_rfl⟩
instance:T2 Tryz.prog 267 1 (1,1) false:=⟨by kernel_rfl⟩
instance:T2 Tryz.prog 267 2 (2,1) false:=⟨by kernel_rfl⟩
instance:T4 Tryz.prog 270 [Value.nilFunc] 1 false 8:=⟨by kernel_rfl⟩
instance:T4 Tryz.prog 276 [Value.nilFunc] 1 false 8:=⟨by kernel_rfl⟩
instance:T4 Tryz.prog 278 [Value.nilFunc] 1 false 8:=⟨by kernel_rfl⟩
instance:T3 Tryz.prog 279 24 true 24:=⟨by kernel_rfl⟩
instance:T4 Tryz.prog 306 [Value.nilFunc] 1 false 8:=⟨by kernel_rfl⟩
instance:T3 Tryz.prog 309 20 true 160:=⟨by kernel_rfl⟩
instance:T3 Tryz.prog 310 65 true 65:=⟨by kernel_rfl⟩
instance:T3 Tryz.prog 325 32 true 32:=⟨by kernel_rfl⟩
instance:T3 Tryz.prog 326 64 true 64:=⟨by kernel_rfl⟩
abbrev FS:=FSpec Tryz.prog
theorem Ft(l:Ln):FS 88 [.agg [.arr (dE l)]] (bln (l.length==0)):=by
 refine f_n Tryz.func88 ?_ ?_;exact ac (aD (ac (cQ l) af)) af;refine r_z 2 ?_;refine r_z 5 ?_;refine aj (aM rfl ?_ (ag _));simp only[bln,n4];congr 2;rw[Bool.eq_iff_iff];simp
theorem iK(l:Ln)(hl:l.length<=281474976710656):FS 152 [.arr (dE l)] (.agg [.arr (dE (fj l))]):=by
 refine f_n Tryz.func152 ?_ ?_;exact ac (cQ l) af;refine r_z 1 ?_;refine r_z 3 ?_;refine a6 (fun k:Nat=>⟨[(0,.arr (dE l)),(2,.lptr 1 0 0),(3,i64 k)],[(1,some ⟨44,1,[[.emp]]⟩)],2,23⟩) (fun k=>k<=l.length/\fj l=l.take k) ?_ ?_;refine ah (ax (fun k:Nat=>⟨[(0,.arr (dE l)),(2,.lptr 1 0 0),(3,i64 k)],[(1,some ⟨44,1,[[.emp]]⟩)],2,23⟩) (fun k=>k) (fun k=>k<=l.length/\∀i,k<=i->i< l.length->l[i]?=some 0) l.length ⟨Nat.le_refl _,fun i m g=>by omega⟩ ?_ ?_);exact s_e [];rintro k ⟨a,j⟩;have fin:k=0\/l[k- 1]?≠some 0->fj l=l.take k:=lT l k a j;by_cases h0:k=0;subst h0;refine ae (s_r 10 ?_);refine a_3 ?_;refine n_g rfl d_f ?_;refine n_g rfl d_f ?_;refine n_g rfl d_f ?_;refine n_g rfl d_f ?_;refine n_g rfl d_f ?_;refine n_g rfl d_f ?_;refine o_0 (.pickF rfl d_f rfl) ?_;refine ao ?_;refine ap rfl (fun h=>?_) (fun _=>?_);cases h;refine aw ⟨0,⟨a,fin (.inl rfl)⟩,?_⟩;exact s_e [];have e:k- 1< l.length:=by omega
 obtain⟨d,c⟩:∃d,l[k- 1]?=some d:=⟨_,List.getElem?_eq_getElem e⟩;have b:(dE l)[((k:Int)- 1).toNat]?=some [u32 d]:=by rw[show((k:Int)- 1).toNat=k- 1 by omega];exact dH c
 refine ae (s_r 10 ?_);refine a_3 ?_;refine y_g rfl d_t (.move rfl) ?_;refine y_g rfl d_t (.move rfl) ?_;refine y_g rfl d_t (.bin rfl rfl (ny (by omega))) ?_;refine y_g rfl d_t (.index_a rfl rfl (by omega) b rfl te_42.h) ?_;refine y_g rfl d_t (.load_a1 rfl b TG.h rfl) ?_;refine y_g rfl d_t (.bin rfl rfl bv) ?_;refine o_0 (.pickT rfl d_t rfl) ?_;refine ao ?_;refine ap rfl (fun h=>?_) (fun h=>?_);refine am ?_;have f:d=0:=by simpa using h
 subst f;refine ah (r_m 3 ?_);refine a_z ?_;refine⟨k- 1,by omega,⟨by omega,fun i m g=>?_⟩,?_⟩;by_cases hi:i=k- 1;rw[hi];exact c;exact j i (by omega) g;exact s_e [];refine aw ⟨k,⟨a,fin (.inr ?_)⟩,?_⟩;rw[c];simp at h⊢;omega;exact s_e [];rintro k ⟨a,n⟩;refine s_r 6 ?_;refine a_3 ?_;refine o_0 (.sa_hm rfl rfl rfl rfl rfl ⟨Nat.le_refl _,by simpa using a⟩ te_42.h (zG l)) ?_;refine a_z ?_;refine aj (dA rfl rfl rfl TG.h TS.h (nle rfl) ?_ (aD (ac (cQ _) af)));rw[n,<-FQ];rfl
theorem vk(z:Int):FS 244 [i64 z] (bln false):=by
 refine f_c Tryz.func244 ?_;refine r_z 1 ?_;refine r_z 4 ?_;refine aj (aM rfl ?_ (ag _));simp[bln]
theorem vj(z:Nat):FS 245 [u32 z] (bln false):=by
 refine f_c Tryz.func245 ?_;refine r_z 1 ?_;refine r_z 4 ?_;refine aj (aM rfl ?_ (ag _));simp[bln]
theorem za(a b:Int):FS 198 [i64 a,i64 b] (i64 (eH a b)):=by
 refine f_c Tryz.func198 ?_;refine r_z 1 ?_;refine r_c 3 (vk a) ?_;refine a_z ?_;refine r_c 3 (vk b) ?_;refine a_z ?_;refine ae (r_z 1 ?_);refine ap rfl (fun h=>?_) (fun _=>am ?_);cases h;refine ae (r_z 1 ?_);refine ap rfl (fun h=>?_) (fun _=>am ?_);cases h;refine ae (r_z 3 ?_);refine ap rfl (fun h=>?_) (fun h=>am ?_);refine r_z 1 ?_;refine aj (aM rfl ?_ (ag _));simp at h;simp[i64,ofV,eH,h];refine ae (r_z 3 ?_);refine ap rfl (fun c=>?_) (fun c=>am ?_);refine r_z 1 ?_;refine aj (aM rfl ?_ (ag _));simp at h c;simp[i64,ofV,eH];omega;refine r_z 1 ?_;refine aj (aM rfl ?_ (ag _));simp at h c;simp[i64,ofV,eH];omega
theorem y9(a b:Nat):FS 199 [u32 a,u32 b] (i64 (eH a b)):=by
 refine f_c Tryz.func199 ?_;refine r_z 1 ?_;refine r_c 3 (vj a) ?_;refine a_z ?_;refine r_c 3 (vj b) ?_;refine a_z ?_;refine ae (r_z 1 ?_);refine ap rfl (fun h=>?_) (fun _=>am ?_);cases h;refine ae (r_z 1 ?_);refine ap rfl (fun h=>?_) (fun _=>am ?_);cases h;refine ae (r_z 3 ?_);refine ap rfl (fun h=>?_) (fun h=>am ?_);refine r_z 1 ?_;refine aj (aM rfl ?_ (ag _));simp at h;simp[i64,ofV,eH,h];refine ae (r_z 3 ?_);refine ap rfl (fun c=>?_) (fun c=>am ?_);refine r_z 1 ?_;refine aj (aM rfl ?_ (ag _));simp at h c;simp[i64,ofV,eH];omega;refine r_z 1 ?_;refine aj (aM rfl ?_ (ag _));simp at h c;simp[i64,ofV,eH];omega
theorem digs_one{n:Nat}:(av MB n).length=1/\(av MB n)[0]?=some 1↔n=1:=by
 constructor;rintro⟨c,a⟩;have:=bz (b:=MB) (by decide) n
 match hd:av MB n,c,a with
 |[d],_,a=>rw[hd] at this;simp at a;subst a;simpa[ofD] using this.symm
 rintro rfl;rw[eB (by decide) (by decide)];rw[show 1/ MB=0 by decide,cg];simp
theorem fs_one(n:Nat):FS 149 [.agg [mag n]] (bln (n==1)):=by
 refine f_c Tryz.func149 ?_;refine r_z 2 ?_;by_cases h1:(av MB n).length=1;obtain⟨d,b⟩:∃d,(av MB n)[0]?=some d:=⟨_,List.getElem?_eq_getElem (by omega)⟩;have a:(dE (av MB n))[(0:Int).toNat]?=some [u32 d]:=dH b;refine s_r 12 ?_;refine a_5 ?_;refine y_g rfl (by simp;omega) (.fieldAddr_l rfl TF.h (by decide)) ?_;refine y_g rfl (by simp;omega) (.load_l1 rfl rfl rfl TG.h rfl) ?_;refine y_g rfl (by simp;omega) (.index_a rfl rfl (by omega) a rfl te_42.h) ?_;refine y_g rfl (by simp;omega) (.load_a1 rfl a TG.h rfl) ?_;refine y_g rfl (by simp;omega) (.bin rfl rfl bv) ?_;refine o_0 (.pickT rfl (by simp;omega) rfl) ?_;refine a_z ?_;refine aj (aM rfl ?_ (ag _));simp only[bln];congr 2;rw[Bool.eq_iff_iff];have:=digs_one (n:=n);simp only[h1,b,true_and,Option.some.injEq] at this;simp only[beq_iff_eq,<-this];omega;refine s_r 12 ?_;refine a_5 ?_;refine n_g rfl (by simp;omega) ?_;refine n_g rfl (by simp;omega) ?_;refine n_g rfl (by simp;omega) ?_;refine n_g rfl (by simp;omega) ?_;refine n_g rfl (by simp;omega) ?_;refine o_0 (.pickF rfl (by simp;omega) rfl) ?_;refine a_z ?_;refine aj (aM rfl ?_ (ag _));simp only[bln,ofV];congr 2;symm;rw[beq_eq_false_iff_ne];intro h;exact h1 (digs_one.2 h).1
def yb(n:Nat):Nat->AState
 |0=>⟨[(0,u64 n),(2,.lptr 1 0 0),(3,.emp)],[(1,some ⟨44,1,[[.emp]]⟩)],2,16⟩
 |k+1=>⟨[(0,u64 (kr n (k+1))),(2,.lptr 1 0 0),(3,.lsl 2 0 (k+1) none 1)],[(1,some ⟨44,1,[[.emp]]⟩),(2,some ⟨209,1,dE (wt n (k+1))⟩)],3,16⟩
theorem gD(n:Nat)(h:n< 18446744073709551616):FS 122 [u64 n] (.agg [mag n]):=by
 have g:(av MB n).length<=3:=eS (by decide) (Nat.lt_of_lt_of_le h (by decide));refine f_c Tryz.func122 ?_;refine r_z 1 ?_;refine r_z 1 ?_;refine a6 (yb n) (fun k=>k=(av MB n).length) ?_ ?_;refine ah (ax (yb n) (fun k=>(av MB n).length- k) (fun k=>k<=(av MB n).length) 0 (Nat.zero_le _) ?_ ?_);rw[yb.eq_1];exact s_e [];rintro k e;have i:=Ip e;have m:=Iq e;have c:=mS e;cases k with
 |zero=>
  rw[uH] at m;refine ae (r_z 2 ?_);refine ap rfl (fun h=>?_) (fun h=>?_);refine am ?_;have l:0< n:=by simpa using h
  have d:0< (av MB n).length:=by omega
  obtain⟨a,b⟩:=uI d;rw[uH] at a b;refine ae (ah (r_m 7 ?_));refine a_z ?_;refine r_m 3 ?_;refine a_z ?_;refine⟨1,by omega,d,?_⟩;rw[yb.eq_2];refine s_x [(2,3)] (fun hs=>?_) (fun hs=>?_) ?_
  ·repeat' (first|exact aI|refine au rfl ?_ ?_|exact aS|(refine Cv.loE hs ?_ (ag _);first|rfl|(simp[i64,u64,u32,bln,a,b,iD];done)|(simp[i64,u64,u32,bln,a,b,iD]<;> omega)))
  ·repeat' (first|exact aA|refine h_c ?_ ?_|exact br|(refine aF hs ?_ (bG _);first|(simp[ij,lF,ik,a,b,iD];done)|(simp[dE,u32,ofV,a,b,iD];done))|refine ay ?_|exact aq|refine ak ?_ ?_|exact aS|(refine Cv.loE hs ?_ (ag _);first|(simp[i64,u64,u32,bln,a,b,iD];done)|(simp[i64,u64,u32,bln,a,b,iD]<;> omega)))
  ·repeat' (first|exact ShrL.nil|refine ShrL.cons rfl rfl rfl rfl (by first|rfl|(simp;done)|(simp[a,b,iD]<;> omega)) ?_)
  refine aw ⟨0,?_,?_⟩;have:¬0< n:=by simpa using h
  omega;rw[yb.eq_1];exact s_e []
 |succ k=>
  rw[yb.eq_2];refine ae (r_z 2 ?_);refine ap rfl (fun h=>?_) (fun h=>?_);refine am ?_;have l:0< kr n (k+1):=by simpa using h
  have d:k+1< (av MB n).length:=by omega
  obtain⟨a,b⟩:=uI d;refine ae (ah (r_m 7 ?_));refine a_z ?_;refine r_m 3 ?_;refine a_z ?_;refine⟨k+1+1,by omega,d,?_⟩;rw[yb.eq_2];refine s_x [(2,3)] (fun hs=>?_) (fun hs=>?_) ?_
  ·repeat' (first|exact aI|refine au rfl ?_ ?_|exact aS|(refine Cv.loE hs ?_ (ag _);first|rfl|(simp[i64,u64,u32,bln,a,b,c];done)|(simp[i64,u64,u32,bln,a,b,c]<;> omega)))
  ·repeat' (first|exact aA|refine h_c ?_ ?_|exact br|(refine aF hs ?_ (bG _);first|(simp[ij,lF,ik,a,b,c];done)|(simp[dE,u32,ofV,a,b,c];done))|refine ay ?_|exact aq|refine ak ?_ ?_|exact aS|(refine Cv.loE hs ?_ (ag _);first|(simp[i64,u64,u32,bln,a,b,c];done)|(simp[i64,u64,u32,bln,a,b,c]<;> omega)))
  ·repeat' (first|exact ShrL.nil|refine ShrL.cons rfl rfl rfl rfl (by first|rfl|(simp;done)|(simp[a,b,c]<;> omega)) ?_)
  refine aw ⟨k+1,?_,?_⟩;have:¬0< kr n (k+1):=by simpa using h
  omega;rw[yb.eq_2];exact s_e []
 rintro k rfl;cases e:(av MB n).length with
 |zero=>
  rw[yb.eq_1];refine r_z 3 ?_;refine aj (Fin.cell rfl rfl rfl TG.h TS.h (nle rfl) (Cv.agg (ak (Cv.emp _ ?_) aq)));unfold mag;rw[List.length_eq_zero_iff] at e;rw[e];rfl
 |succ k=>
  rw[yb.eq_2];refine r_z 3 ?_;refine aj (Fin.cell rfl rfl rfl TG.h TS.h (nle rfl) (Cv.agg (ak (Cv.shut aB rfl (fun _ _ h=>by cases h) ?_ ?_) aq)));simp[mS (Nat.le_of_eq e.symm)];refine aF aB ?_ (bG _);have j:(wt n (k+1)).length=k+1:=mS (Nat.le_of_eq e.symm);have f:=IH n;rw[e] at f;simp only[List.drop_zero,FQ];rw[List.take_of_length_le (Nat.le_of_eq j),f]
def II(p:Nat)(q:Nat):Ln×Nat->AState
 |(s,c)=>⟨[(26,i64 s.length),(25,i64 (av MB p).length),(24,mag p),(2,.lptr 1 0 0),(3,.lptr 2 0 0),(4,.lptr 3 0 0),(5,.lsl 4 0 ((av MB p).length+1) (some ((av MB p).length+1)) 1),(6,u32 c)],
  [(1,some ⟨44,1,[[mag p]]⟩),(2,some ⟨44,1,[[mag q]]⟩),(3,some ⟨44,1,[[.emp]]⟩),(4,some ⟨209,1,dE (s++List.replicate ((av MB p).length+1- s.length) 0)⟩)],5,63⟩
structure PlusI (p q:Nat)(a:Ln×Nat):Prop where
 le:a.1.length<=(av MB p).length
 dig:∀d∈a.1,d< MB
 car:a.2<=1
 val:ofD MB a.1+MB^ a.1.length* a.2=ofD MB ((av MB p).take a.1.length)+ofD MB ((av MB q).take a.1.length)
theorem yX(a b:Nat)(h:bl a+bl b<=17592186044416):FS 144 [.agg [mag a],.agg [mag b]] (.agg [mag (a+b)]):=by
 have hla:=bC (b:=MB) (by decide) a;have hlb:=bC (b:=MB) (by decide) b;refine f_c Tryz.func144 ?_;refine r_z 3 ?_;refine ae (r_z 7 ?_)
 refine aC (fun x:Nat×Nat=>⟨[(2,.lptr 1 0 0),(3,.lptr 2 0 0),(4,.lptr 3 0 0)],[(1,some ⟨44,1,[[mag x.1]]⟩),(2,some ⟨44,1,[[mag x.2]]⟩),(3,some ⟨44,1,[[.emp]]⟩)],4,63⟩)
  (fun x=>x.1+x.2=a+b/\(av MB x.2).length<=(av MB x.1).length/\(av MB x.1).length<=17592186044416) ?_ ?_
 refine ap rfl (fun h=>?_) (fun h=>?_);refine r_m 4 ?_;refine a_z ?_;refine⟨(b,a),⟨by simp;omega,?_,by simp;omega⟩,?_⟩;simp at h;simp;omega;exact s_e [];refine am ⟨(a,b),⟨rfl,?_,by simp;omega⟩,?_⟩;simp at h;simpa using h;exact s_e [];rintro⟨p,q⟩ ⟨hpq,hqp,hp⟩;simp only at hpq hqp hp⊢;refine r_z 6 ?_;refine r_z 1 ?_;refine ae (r_z 4 ?_);refine aC (II p q) (fun x=>PlusI p q x/\x.1.length=(av MB p).length) ?_ ?_;refine ah (ax (II p q) (fun x=>(av MB p).length- x.1.length) (PlusI p q) ([],0) ⟨by simp,by simp,by simp,by simp[ofD]⟩ ?_ ?_);rw[II.eq_1];exact s_e [(4,5)];rintro⟨s,c⟩ ⟨hle,hdig,hcar,hval⟩;simp only at hle hdig hcar hval;rw[II.eq_1];refine r_z 1 ?_;refine ae (ap rfl (fun h=>?_) (fun h=>?_));refine am ?_;have hlt:s.length< (av MB p).length:=by simpa using h
 obtain⟨x,hx⟩:∃x,(av MB p)[s.length]?=some x:=⟨_,List.getElem?_eq_getElem hlt⟩;have hx1:x< 1000000000:=cI (by decide) hx;have hx':(dE (av MB p))[((s.length:Nat):Int).toNat]?=some [u32 x]:=dH hx;refine ae (ah (s_r 5 ?_));refine a_1 ?_;refine i_x hx' ?_;refine l_1 hx' ?_;refine a_z ?_;refine r_z 4 ?_;refine ae (r_z 5 ?_)
 have hq0:∀y,((av MB q)[s.length]?.getD 0=y)->y< 1000000000:=by
  rintro y rfl;cases hy:(av MB q)[s.length]? with
  |none=>decide
  |some y=>exact cI (by decide) hy
 refine aC (fun v:Nat=>⟨[(26,i64 s.length),(25,i64 (av MB p).length),(24,mag p),(2,.lptr 1 0 0),(3,.lptr 2 0 0),(4,.lptr 3 0 0),(5,.lsl 4 0 ((av MB p).length+1) (some ((av MB p).length+1)) 1),(7,i64 s.length),(8,u32 v)],
  [(1,some ⟨44,1,[[mag p]]⟩),(2,some ⟨44,1,[[mag q]]⟩),(3,some ⟨44,1,[[.emp]]⟩),(4,some ⟨209,1,dE (s++List.replicate ((av MB p).length+1- s.length) 0)⟩)],5,63⟩)
  (fun v=>v=x+c+(av MB q)[s.length]?.getD 0) ?_ ?_
 refine ap rfl (fun h=>?_) (fun h=>?_);have hlt2:s.length< (av MB q).length:=by simpa using h
 obtain⟨y,hy⟩:∃y,(av MB q)[s.length]?=some y:=⟨_,List.getElem?_eq_getElem hlt2⟩;have hy1:y< 1000000000:=cI (by decide) hy;have hy':(dE (av MB q))[((s.length:Nat):Int).toNat]?=some [u32 y]:=dH hy;refine r_m 8 ?_;refine a_4 ?_;refine i_x hy' ?_;refine l_1 hy' ?_;refine a_z ?_;refine⟨x+c+y,by rw[hy];rfl,?_⟩;exact s_e [];have hlt2:¬s.length< (av MB q).length:=by simpa using h
 refine am ⟨x+c,by rw[List.getElem?_eq_none (by omega)];rfl,?_⟩;exact s_e [];rintro v hv;obtain⟨y,hy⟩:∃y,y=(av MB q)[s.length]?.getD 0:=⟨_,rfl⟩;have hy1:=hq0 y hy.symm;rw[<-hy] at hv;refine r_z 1 ?_;refine ae (r_z 2 ?_)
 have hg:(dE (s++List.replicate ((av MB p).length+1- s.length) 0))[0+((s.length:Nat):Int).toNat]?=some [u32 0]:=by
  rw[Nat.zero_add,Int.toNat_natCast];exact dH (by rw[show(av MB p).length+1- s.length=((av MB p).length- s.length)+1 by omega];exact A8 _ _ _ rfl)
 have hset:∀w:Nat,(dE (s++List.replicate ((av MB p).length+1- s.length) 0)).set (0+((s.length:Nat):Int).toNat) [u32 w]=dE ((s++[w])++List.replicate ((av MB p).length+1- (s++[w]).length) 0):=by
  intro w;rw[Nat.zero_add,Int.toNat_natCast,ij,show(av MB p).length+1- s.length=((av MB p).length- s.length)+1 by omega,Al _ _ _ _ rfl,show(av MB p).length+1- (s++[w]).length=(av MB p).length- s.length by simp]
 have hnext:∀w c',w+1000000000* c'=x+c+y->w< 1000000000->c'<=1->PlusI p q (s++[w],c'):=by
  intro w c' hw hwb hc';refine⟨by simp;omega,?_,hc',?_⟩;intro d hd;rcases List.mem_append.1 hd with hd|hd
  exact hdig d hd;simp at hd;subst hd;exact hwb;simp only[List.length_append,List.length_singleton];rw[ie,cS _ hx,eO,<-hy,Nat.pow_succ];have e:MB^ s.length* w+MB^ s.length* MB* c'=MB^ s.length* (w+MB* c'):=by rw[Nat.mul_add,Nat.mul_assoc]
  have e2:MB^ s.length* (x+c+y)=MB^ s.length* x+MB^ s.length* c+MB^ s.length* y:=by rw[Nat.mul_add,Nat.mul_add]
  rw[hw,e2] at e;omega
 refine ap rfl (fun h=>?_) (fun h=>?_);have hb:1000000000<=v:=by have:=of_decide_eq_true h;omega
 have hv1:((v:Int)- 1000000000)=((v- 1000000000:Nat):Int):=by omega
 refine r_m 4 ?_;refine a_z ?_;refine r_m 5 ?_;refine a_4 ?_;refine dB (.store rfl rfl hg rfl rfl rfl TS.h (nle rfl)) ?_;refine ao ?_;refine r_m 2 ?_;refine a_z ?_;refine⟨(s++[v- 1000000000],1),by simp;omega,hnext _ _ (by omega) (by omega) (Nat.le_refl _),?_⟩;rw[II.eq_1];exact s_x [] (fun hs=>dJ) (fun hs=>e_29);have hb:v< 1000000000:=by have:=of_decide_eq_false h;omega
 refine am (r_m 5 ?_);refine a_4 ?_;refine dB (.store rfl rfl hg rfl rfl rfl TS.h (nle rfl)) ?_;refine ao ?_;refine r_m 2 ?_;refine a_z ?_;refine⟨(s++[v],0),by simp;omega,hnext _ _ (by omega) hb (by omega),?_⟩;rw[II.eq_1];exact s_x [] (fun hs=>dJ) (fun hs=>e_30);refine aw ⟨(s,c),⟨⟨hle,hdig,hcar,hval⟩,?_⟩,?_⟩;simp at h;simp;omega;rw[II.eq_1];exact s_e [];rintro⟨s,c⟩ ⟨⟨hle,hdig,hcar,hval⟩,hlen⟩;simp only at hle hdig hcar hval hlen
 have hg:(dE (s++List.replicate ((av MB p).length+1- s.length) 0))[0+(((av MB p).length:Nat):Int).toNat]?=some [u32 0]:=by
  rw[Nat.zero_add,Int.toNat_natCast,<-hlen];exact dH (by rw[show s.length+1- s.length=0+1 by omega];exact A8 _ _ _ rfl)
 have hset:(dE (s++List.replicate ((av MB p).length+1- s.length) 0)).set (0+(((av MB p).length:Nat):Int).toNat) [u32 c]=dE (s++[c]):=by
  rw[Nat.zero_add,Int.toNat_natCast,<-hlen,ij,show s.length+1- s.length=0+1 by omega,Al _ _ _ _ rfl];simp
 have hres:fj (s++[c])=av MB (a+b):=by
  rw[jQ (b:=MB) (by decide),ie,hval,ic _ (by omega),ic _ (by omega),bz (by decide),bz (by decide),hpq];intro d hd;rcases List.mem_append.1 hd with hd|hd
  exact hdig d hd;simp at hd;subst hd;show d< 1000000000;omega
 rw[II.eq_1];refine s_r 7 ?_;refine a_6 ?_;refine dB (.store rfl rfl hg rfl rfl rfl TS.h (nle rfl)) ?_;refine ao ?_;refine AWp.ent (st':=⟨[(4,.lptr 3 0 0),(5,.arr (dE (s++[c])))],[(3,some ⟨44,1,[[.emp]]⟩)],4,63⟩) ?_ ?_;refine s_x [] (fun hs=>?_) (fun hs=>?_)
 ·repeat' (first|exact aI|refine au rfl ?_ ?_|exact Cv.sealE hs rfl (aH rfl) hset (by simp[hlen]) (bG _)|exact aS)
 ·repeat' (first|exact aA|refine h_c ?_ ?_|exact br|refine ay ?_|exact aq|refine ak ?_ ?_|exact Cv.sealE hs rfl (aH rfl) hset (by simp[hlen]) (bG _)|exact aS)
 refine s_r 3 ?_;refine o_0 (.move rfl) ?_;refine o_0 (.call rfl rfl rfl (iK _ (by simp;omega))) ?_;refine a_z ?_;refine aj (dA rfl rfl rfl TG.h TS.h (nle rfl) ?_ (aD (ac (bY _) af)));rw[hres];rfl
def agS(a:Nat)(b:Nat):Nat->AState
 |k=>⟨[(2,.lptr 1 0 0),(3,.lptr 2 0 0),(6,i64 ((k:Int)- 1))],[(1,some ⟨44,1,[[mag a]]⟩),(2,some ⟨44,1,[[mag b]]⟩)],3,40⟩
theorem oE(a b:Nat)(h:bl a+bl b<=17592186044416):FS 162 [.agg [mag a],.agg [mag b]] (i64 (eH a b)):=by
 have r:=bC (b:=MB) (by decide) a;have s:=bC (b:=MB) (by decide) b;refine f_c Tryz.func162 ?_;refine r_z 3 ?_;refine ae (r_c 8 (za _ _) ?_);refine a_z ?_;refine r_z 2 ?_;refine ap rfl (fun h=>?_) (fun h=>?_);have c:eH (av MB a).length (av MB b).length≠0:=by simpa using h
 refine r_z 2 ?_;refine aj (aM rfl ?_ (ag _));unfold i64;congr 2;rw[tR] at c;rcases Nat.lt_or_ge (av MB a).length (av MB b).length with hl|hl
 have:=jK (by decide) hl;rw[mj (by omega),mj (by omega)];have:=jK (m:=b) (n:=a) (b:=MB) (by decide) (by omega);rw[n5 (by omega),n5 (by omega)]
 have heq:(av MB a).length=(av MB b).length:=by
  have p:¬eH (av MB a).length (av MB b).length≠0:=by simpa using h
  rw[tR] at p;omega
 refine am (ae (r_z 5 ?_));refine aC (agS a b) (fun k=>k=0/\a=b) ?_ ?_;refine ah (ax (agS a b) (fun k=>k) (fun k=>k<=(av MB a).length/\(av MB a).drop k=(av MB b).drop k) (av MB a).length ⟨Nat.le_refl _,by rw[List.drop_length,heq,List.drop_length]⟩ ?_ ?_);rw[agS.eq_1];exact s_e [];rintro k ⟨t,d⟩;rw[agS.eq_1];refine ae (r_z 2 ?_);refine ap rfl (fun h=>?_) (fun h=>?_);have f:0< k:=by have:=of_decide_eq_true h;omega
 obtain⟨x,j⟩:∃x,(av MB a)[k- 1]?=some x:=⟨_,List.getElem?_eq_getElem (by omega)⟩;obtain⟨y,i⟩:∃y,(av MB b)[k- 1]?=some y:=⟨_,List.getElem?_eq_getElem (by omega)⟩;have e:(dE (av MB a))[((k:Int)- 1).toNat]?=some [u32 x]:=by rw[show((k:Int)- 1).toNat=k- 1 by omega];exact dH j
 have g:(dE (av MB b))[((k:Int)- 1).toNat]?=some [u32 y]:=by rw[show((k:Int)- 1).toNat=k- 1 by omega];exact dH i
 rw[show k=(k- 1)+1 by omega] at d;refine am (ae (ah (ae (r_d aT 12 ?_))));refine a_3 ?_;refine i_x e ?_;refine l_1 e ?_;refine a_3 ?_;refine i_x g ?_;refine l_1 g ?_;refine c_s (y9 x y) ?_;refine a_1 ?_;refine ao (n_k ?_);refine r_z 2 ?_;refine ap rfl (fun l=>?_) (fun l=>?_);have c:eH x y≠0:=by simpa using l
 refine r_z 2 ?_;refine aj (aM rfl ?_ (ag _));unfold i64;congr 2;rw[tR] at c;rcases Nat.lt_or_ge x y with hl|hl
 have:=nU (b:=MB) (dr (by decide) a) j i d hl;rw[bz (by decide),bz (by decide)] at this;rw[mj (by omega),mj (by omega)];have:=nU (b:=MB) (dr (by decide) b) i j d.symm (by omega);rw[bz (by decide),bz (by decide)] at this;rw[n5 (by omega),n5 (by omega)]
 have q:x=y:=by
  have p:¬eH x y≠0:=by simpa using l
  rw[tR] at p;omega
 refine am (r_m 3 ?_);refine a_z ?_;refine⟨k- 1,by omega,⟨by omega,?_⟩,?_⟩;rw[gf j,gf i,d,q];rw[agS.eq_1];exact s_e [];have f:k=0:=by have:=of_decide_eq_false h;omega
 subst f;refine aw ⟨0,⟨rfl,?_⟩,?_⟩;have:=congrArg (ofD MB) d;rwa[List.drop_zero,List.drop_zero,bz (by decide),bz (by decide)] at this;rw[agS.eq_1];exact s_e [];rintro k ⟨rfl,o⟩;rw[agS.eq_1];refine r_z 1 ?_;refine aj (aM rfl ?_ (ag _));subst o;rw[F0 rfl];rfl
def leS(a:Nat)(b:Nat):Ln×Nat->AState
 |(s,c)=>⟨[(19,i64 s.length),(18,i64 (av MB a).length),(2,.lptr 1 0 0),(3,.lptr 2 0 0),(4,.lptr 3 0 0),(5,.lsl 4 0 (av MB a).length (some (av MB a).length) 1),(6,u32 c)],
  [(1,some ⟨44,1,[[mag a]]⟩),(2,some ⟨44,1,[[mag b]]⟩),(3,some ⟨44,1,[[.emp]]⟩),(4,some ⟨209,1,dE (s++(av MB a).drop s.length)⟩)],5,61⟩
def leT(n:Nat):Ln×Unit->AState
 |(o,u)=>⟨[(4,.lptr 3 0 0),(5,.lsl 4 0 n (some n) 1)],
  [(3,some ⟨44,1,[[.emp]]⟩),(4,some ⟨209,1,dE o⟩)],5,61⟩
structure LessI (a b:Nat)(x:Ln×Nat):Prop where
 le:x.1.length<=(av MB a).length
 dig:∀d∈x.1,d< MB
 car:x.2<=1
 val:ofD MB x.1+ofD MB ((av MB b).take x.1.length)=ofD MB ((av MB a).take x.1.length)+MB^ x.1.length* x.2
theorem yZ(a b:Nat)(h:bl a<=17592186044416)(hba:b<=a):FS 151 [.agg [mag a],.agg [mag b]] (.agg [mag (a- b)]):=by
 have hla:=bC (b:=MB) (by decide) a;have hlen:=AU (b:=MB) (by decide) hba;have va:=bz (b:=MB) (by decide) a;have vb:=bz (b:=MB) (by decide) b;refine f_c Tryz.func151 ?_;refine r_z 3 ?_;refine r_z 5 ?_;refine s_r 4 ?_;refine a_3 ?_;refine o_1 (.copy rfl rfl rfl te_42.h rfl rfl rfl (by first|(simp;done)|(simp;omega)) (by first|exact eT _|exact eP _|exact dZ _|exact eW _|exact eg _|rfl|simp) rfl (.arr (zG _))) ?_;refine ao ?_
 have hcp:fb (List.replicate (av MB a).length [ofV (Value.int IntKind.u32 0)]) 0 (List.take (Nat.min (dE (av MB a)).length (av MB a).length) (dE (av MB a)))=dE ([]++(av MB a).drop 0):=by
  rw[Gi];rw[List.take_of_length_le (by simp)];rfl;simp
 refine r_z 1 ?_;refine ae (r_z 3 ?_);refine aC (leT (av MB a).length) (fun x=>(∀d∈x.1,d< MB)/\x.1.length=(av MB a).length/\ofD MB x.1=a- b) ?_ ?_;refine ah (ax (leS a b) (fun x=>(av MB a).length- x.1.length) (LessI a b) ([],0) ⟨by simp,by simp,by simp,by simp[ofD]⟩ ?_ ?_);rw[leS.eq_1];exact s_x [(4,5)] (fun hs=>dJ) (fun hs=>e_32) e_31;rintro⟨s,c⟩ ⟨hle,hdig,hcar,hval⟩;simp only at hle hdig hcar hval;rw[leS.eq_1];refine r_z 1 ?_;refine ae (ap rfl (fun h=>?_) (fun h=>?_));have hlt:s.length< (av MB a).length:=by have:=of_decide_eq_true h;omega
 obtain⟨x,hx⟩:∃x,(av MB a)[s.length]?=some x:=⟨_,List.getElem?_eq_getElem hlt⟩;have hx1:x< 1000000000:=cI (by decide) hx;have hdx:=gf hx;refine am (ae (ah (r_z 2 ?_)));refine r_z 2 ?_;refine ae (r_z 5 ?_)
 refine aC (fun v:Nat=>⟨[(19,i64 s.length),(18,i64 (av MB a).length),(2,.lptr 1 0 0),(3,.lptr 2 0 0),(4,.lptr 3 0 0),(5,.lsl 4 0 (av MB a).length (some (av MB a).length) 1),(6,u32 c),(7,i64 s.length),(8,u32 v)],
  [(1,some ⟨44,1,[[mag a]]⟩),(2,some ⟨44,1,[[mag b]]⟩),(3,some ⟨44,1,[[.emp]]⟩),(4,some ⟨209,1,dE (s++(av MB a).drop s.length)⟩)],5,61⟩)
  (fun v=>v=c+(av MB b)[s.length]?.getD 0/\v<=1000000000) ?_ ?_
 refine ap rfl (fun h=>?_) (fun h=>?_);have hlt2:s.length< (av MB b).length:=by have:=of_decide_eq_true h;omega
 obtain⟨y,hy⟩:∃y,(av MB b)[s.length]?=some y:=⟨_,List.getElem?_eq_getElem hlt2⟩;have hy1:y< 1000000000:=cI (by decide) hy;have hy':(dE (av MB b))[((s.length:Nat):Int).toNat]?=some [u32 y]:=dH hy;refine r_m 8 ?_;refine a_4 ?_;refine i_x hy' ?_;refine l_1 hy' ?_;refine a_z ?_;refine⟨c+y,⟨by rw[hy];rfl,by omega⟩,?_⟩;exact s_e [];have hlt2:¬s.length< (av MB b).length:=by have:=of_decide_eq_false h;omega
 refine r_z 2 ?_;refine ap rfl (fun h=>?_) (fun h=>?_);have hc0:c=0:=by simpa using h
 refine aw ⟨(s++(av MB a).drop s.length,()),⟨?_,by simp;omega,?_⟩,?_⟩;intro d hd;rcases List.mem_append.1 hd with hd|hd
 exact hdig d hd;exact dr (by decide) a d (List.mem_of_mem_drop hd);have:=dU MB s.length (av MB a) (by omega);rw[va] at this;rw[ic _ (by omega),vb,hc0] at hval;simp only[gL];omega;rw[leT.eq_1];exact s_e [];refine am ⟨c,⟨by rw[List.getElem?_eq_none (by omega)];rfl,by omega⟩,?_⟩;exact s_e [];rintro v ⟨hv,hv1⟩;obtain⟨y,hy⟩:∃y,y=(av MB b)[s.length]?.getD 0:=⟨_,rfl⟩;rw[<-hy] at hv
 have hg:(dE (s++(av MB a).drop s.length))[0+((s.length:Nat):Int).toNat]?=some [u32 x]:=by
  rw[Nat.zero_add,Int.toNat_natCast,hdx];exact dH (pG _ _ _ _ rfl)
 have hset:∀w:Nat,(dE (s++(av MB a).drop s.length)).set (0+((s.length:Nat):Int).toNat) [u32 w]=dE ((s++[w])++(av MB a).drop (s++[w]).length):=by
  intro w;rw[Nat.zero_add,Int.toNat_natCast,ij,hdx,o7 _ _ _ _ _ rfl];simp
 have hnext:∀w c',w+v=x+1000000000* c'->w< 1000000000->c'<=1->LessI a b (s++[w],c'):=by
  intro w c' hw hwb hc';refine⟨by simp;omega,?_,hc',?_⟩;intro d hd;rcases List.mem_append.1 hd with hd|hd
  exact hdig d hd;simp at hd;subst hd;exact hwb;simp only[List.length_append,List.length_singleton];rw[ie,cS _ hx,eO,<-hy,Nat.pow_succ];have e:MB^ s.length* (w+v)=MB^ s.length* (x+MB* c'):=by rw[hw]
  rw[hv,Nat.mul_add,Nat.mul_add,Nat.mul_add,<-Nat.mul_assoc] at e;omega
 refine r_z 1 ?_;refine ae (s_r 6 ?_);refine a_2 ?_;refine bF (.index_l rfl rfl (by omega) (by omega) te_42.h) rfl rfl ?_;refine bF (.load_l1 rfl rfl hg TG.h rfl) rfl rfl ?_;refine a_z ?_;refine ap rfl (fun h=>?_) (fun h=>?_);have hb:x< v:=by have:=of_decide_eq_true h;omega
 have hv2:((x:Int)+1000000000- v)=((x+1000000000- v:Nat):Int):=by omega
 have hv3:((x:Int)+1000000000)=((x+1000000000:Nat):Int):=by omega
 refine r_m 10 ?_;refine a_5 ?_;refine bF (.load_l1 rfl rfl hg TG.h rfl) rfl rfl ?_;refine a_2 ?_;refine dB (.store rfl rfl hg rfl rfl rfl TS.h (nle rfl)) ?_;refine a_z ?_
 refine AWp.ent (st':=⟨[(19,i64 s.length),(18,i64 (av MB a).length),(2,.lptr 1 0 0),(3,.lptr 2 0 0),(4,.lptr 3 0 0),(5,.lsl 4 0 (av MB a).length (some (av MB a).length) 1),(6,u32 1),(7,i64 s.length),(8,u32 v)],
  [(1,some ⟨44,1,[[mag a]]⟩),(2,some ⟨44,1,[[mag b]]⟩),(3,some ⟨44,1,[[.emp]]⟩),(4,some ⟨209,1,dE (s++(x+1000000000)::(av MB a).drop (s.length+1))⟩)],5,61⟩) ?_ ?_
 refine s_x [] (fun hs=>dJ) (fun hs=>?_)
 ·repeat' (first|exact aA|refine h_c ?_ ?_|(refine aF hs ?_ (bG _);rw[hv3];exact(hset _).trans (by simp))|exact br)
 have hg2:(dE (s++(x+1000000000)::(av MB a).drop (s.length+1)))[0+((s.length:Nat):Int).toNat]?=some [u32 (x+1000000000)]:=by
  rw[Nat.zero_add,Int.toNat_natCast];exact dH (pG _ _ _ _ rfl)
 have hset2:∀w:Nat,(dE (s++(x+1000000000)::(av MB a).drop (s.length+1))).set (0+((s.length:Nat):Int).toNat) [u32 w]=dE ((s++[w])++(av MB a).drop (s++[w]).length):=by
  intro w;rw[Nat.zero_add,Int.toNat_natCast,ij,o7 _ _ _ _ _ rfl];simp
 have hv2:(((x+1000000000:Nat):Int)- v)=((x+1000000000- v:Nat):Int):=by omega
 refine r_m 8 ?_;refine a_2 ?_;refine bF (.index_l rfl rfl (by omega) (by omega) te_42.h) rfl rfl ?_;refine bF (.load_l1 rfl rfl hg2 TG.h rfl) rfl rfl ?_;refine a_3 ?_;refine dB (.store rfl rfl hg2 rfl rfl rfl TS.h (nle rfl)) ?_;refine ao ?_;refine r_m 2 ?_;refine a_z ?_;refine⟨(s++[x+1000000000- v],1),by simp;omega,hnext _ _ (by omega) (by omega) (by omega),?_⟩;rw[leS.eq_1];refine s_x [] (fun hs=>dJ) (fun hs=>?_)
 ·repeat' (first|exact aA|refine h_c ?_ ?_|(refine aF hs ?_ (bG _);rw[hv2];exact hset2 _)|exact br)
 have hb:v<=x:=by have:=of_decide_eq_false h;omega
 have hv1:((x:Int)- v)=((x- v:Nat):Int):=by omega
 refine am (r_m 8 ?_);refine a_2 ?_;refine bF (.index_l rfl rfl (by omega) (by omega) te_42.h) rfl rfl ?_;refine bF (.load_l1 rfl rfl hg TG.h rfl) rfl rfl ?_;refine a_3 ?_;refine dB (.store rfl rfl hg rfl rfl rfl TS.h (nle rfl)) ?_;refine ao ?_;refine r_m 2 ?_;refine a_z ?_;refine⟨(s++[x- v],0),by simp;omega,hnext _ _ (by omega) (by omega) (by omega),?_⟩;rw[leS.eq_1];exact s_x [] (fun hs=>dJ) (fun hs=>e_29);have hl:s.length=(av MB a).length:=by have:=of_decide_eq_false h;omega
 refine aw ⟨(s,()),⟨hdig,hl,?_⟩,?_⟩;have h1:=fG hdig;rw[hl,ic _ hlen,ic _ (Nat.le_refl _),va,vb] at hval;rw[hl] at h1
 have h2:c=0:=by
  rcases Nat.eq_zero_or_pos c with h|h
  exact h;have:MB^ (av MB a).length* 1<=MB^ (av MB a).length* c:=Nat.mul_le_mul_left _ h;omega
 subst h2;simp at hval⊢;omega;rw[leT.eq_1];refine s_x [] (fun hs=>?_) (fun hs=>?_) ?_
 ·repeat' (first|exact aI|refine au rfl ?_ ?_|exact aS|(refine Cv.loE hs ?_ (ag _);first|rfl|(simp[i64,u64,u32,bln,hl];done)|(simp[i64,u64,u32,bln,hl]<;> omega)))
 ·repeat' (first|exact aA|refine h_c ?_ ?_|exact br|(refine aF hs ?_ (bG _);first|(simp[ij,lF,ik,hl];done)|(simp[dE,u32,ofV,hl];done))|refine ay ?_|exact aq|refine ak ?_ ?_|exact aS|(refine Cv.loE hs ?_ (ag _);first|(simp[i64,u64,u32,bln,hl];done)|(simp[i64,u64,u32,bln,hl]<;> omega)))
 ·repeat' (first|exact ShrL.nil|refine ShrL.cons rfl rfl rfl rfl (by first|rfl|(simp;done)|(simp[hl]<;> omega)) ?_)
 rintro⟨o,u⟩ ⟨hd,hl,hv⟩;rw[leT.eq_1];refine AWp.ent (st':=⟨[(4,.lptr 3 0 0),(5,.arr (dE o))],[(3,some ⟨44,1,[[.emp]]⟩)],4,61⟩) ?_ ?_;refine s_x [] (fun hs=>?_) (fun hs=>?_)
 ·repeat' (first|exact aI|refine au rfl ?_ ?_|exact Cv.sealE hs rfl (aH rfl) rfl (by simp[hl]) (bG _)|exact aS)
 ·repeat' (first|exact aA|refine h_c ?_ ?_|exact br|refine ay ?_|exact aq|refine ak ?_ ?_|exact Cv.sealE hs rfl (aH rfl) rfl (by simp[hl]) (bG _)|exact aS)
 simp only at hl hv;refine s_r 3 ?_;refine o_0 (.move rfl) ?_;refine o_0 (.call rfl rfl rfl (iK _ (by omega))) ?_;refine dB (.store rfl rfl rfl rfl rfl rfl TS.h (nle rfl)) ?_;refine ao ?_;refine aj (dA rfl rfl rfl TG.h TS.h (nle rfl) ?_ (aD (ac (bY _) af)));rw[jQ (b:=MB) (by decide) hd,hv];rfl
end Go.Proofs.YtiodeiecpoopgaaGreatDoor
