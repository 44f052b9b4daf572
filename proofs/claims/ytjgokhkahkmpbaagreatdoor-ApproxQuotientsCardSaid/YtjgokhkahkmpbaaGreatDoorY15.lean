/- Part Y15 of the proof. -/
import Derived.Test.YtjgokhkahkmpbaaGreatDoorY14
import Derived.Test.YtjgokhkahkmpbaaGreatDoorProg
import Derived.KernelRfl
set_option linter.all false
namespace Go.Proofs.YtjgokhkahkmpbaaGreatDoor
open Go.Abs
set_option maxRecDepth 20000
theorem hmix:Tryz.prog.follows .mixedOrders=true:=by kernel_rfl
instance:T4 Tryz.prog 2 [Value.int IntKind.i64 0] 1 false 8:=⟨by kernel_rfl⟩
instance tu_2:TU Tryz.prog 2 (.int .i64):=⟨by kernel_rfl⟩
instance:T4 Tryz.prog 3 [Value.int IntKind.i64 0] 1 false 8:=⟨by kernel_rfl⟩
instance tu_3:TU Tryz.prog 3 (.int .i64):=⟨by kernel_rfl⟩
instance:T4 Tryz.prog 4 [Value.bool false] 1 false 1:=⟨by kernel_rfl⟩
instance tu_4:TU Tryz.prog 4 .bool:=⟨by kernel_rfl⟩
instance:T4 Tryz.prog 5 [Value.int IntKind.u8 0] 1 false 1:=⟨by kernel_rfl⟩
instance tu_5:TU Tryz.prog 5 (.int .u8):=⟨by kernel_rfl⟩
instance:T3 Tryz.prog 9 1 false 16:=⟨by kernel_rfl⟩
instance tu_9:TU Tryz.prog 9 .string:=⟨by kernel_rfl⟩
instance:T4 Tryz.prog 22 [Value.slice none 0 0] 1 false 24:=⟨by kernel_rfl⟩
instance te_22:TE Tryz.prog 22 (24,3):=⟨by kernel_rfl⟩
instance:T4 Tryz.prog 24 [Value.int IntKind.i64 0,Value.int IntKind.i64 0,Value.int IntKind.u8 0] 3 true 24:=⟨by kernel_rfl⟩
instance tp_24:TP Tryz.prog 24 [(0,1),(1,1),(2,1)]:=⟨by kernel_rfl⟩
instance:T2 Tryz.prog 24 0 (0,1) false:=⟨by kernel_rfl⟩
instance:T2 Tryz.prog 24 1 (1,1) false:=⟨by kernel_rfl⟩
instance:T2 Tryz.prog 24 2 (2,1) false:=⟨by kernel_rfl⟩
instance:T4 Tryz.prog 29 [Value.slice none 0 0] 1 false 24:=⟨by kernel_rfl⟩
instance te_29:TE Tryz.prog 29 (42,3):=⟨by kernel_rfl⟩
instance:T4 Tryz.prog 30 [Value.slice none 0 0] 1 false 24:=⟨by kernel_rfl⟩
instance te_30:TE Tryz.prog 30 (42,3):=⟨by kernel_rfl⟩
instance:T4 Tryz.prog 31 [Value.slice none 0 0] 1 false 24:=⟨by kernel_rfl⟩
instance te_31:TE Tryz.prog 31 (49,4):=⟨by kernel_rfl⟩
instance:T4 Tryz.prog 32 [Value.slice none 0 0] 1 false 24:=⟨by kernel_rfl⟩
instance te_32:TE Tryz.prog 32 (49,4):=⟨by kernel_rfl⟩
instance:T4 Tryz.prog 36 [Value.slice none 0 0] 1 false 24:=⟨by kernel_rfl⟩
instance te_36:TE Tryz.prog 36 (176,1):=⟨by kernel_rfl⟩
instance:T4 Tryz.prog 38 [Value.slice none 0 0] 1 true 24:=⟨by kernel_rfl⟩
instance tp_38:TP Tryz.prog 38 [(0,1)]:=⟨by kernel_rfl⟩
instance:T2 Tryz.prog 38 0 (0,1) false:=⟨by kernel_rfl⟩
instance:T4 Tryz.prog 40 [Value.slice none 0 0,Value.bool false] 2 true 32:=⟨by kernel_rfl⟩
instance tp_40:TP Tryz.prog 40 [(0,1),(1,1)]:=⟨by kernel_rfl⟩
instance:T2 Tryz.prog 40 0 (0,1) true:=⟨by kernel_rfl⟩
instance:T2 Tryz.prog 40 1 (1,1) false:=⟨by kernel_rfl⟩
instance:T4 Tryz.prog 42 [Value.slice none 0 0,Value.bool false,Value.slice none 0 0] 3 true 56:=⟨by kernel_rfl⟩
instance tp_42:TP Tryz.prog 42 [(0,2),(2,1)]:=⟨by kernel_rfl⟩
instance:T2 Tryz.prog 42 0 (0,2) true:=⟨by kernel_rfl⟩
instance:T2 Tryz.prog 42 1 (2,1) true:=⟨by kernel_rfl⟩
instance:T4 Tryz.prog 44 [Value.slice none 0 0,Value.bool false,Value.slice none 0 0,Value.slice none 0 0,Value.bool false,Value.slice none 0 0] 6 true 112:=⟨by kernel_rfl⟩
instance tp_44:TP Tryz.prog 44 [(0,3),(3,3)]:=⟨by kernel_rfl⟩
instance:T2 Tryz.prog 44 0 (0,3) true:=⟨by kernel_rfl⟩
instance:T2 Tryz.prog 44 1 (3,3) true:=⟨by kernel_rfl⟩
instance:T4 Tryz.prog 45 [Value.slice none 0 0] 1 false 24:=⟨by kernel_rfl⟩
instance te_45:TE Tryz.prog 45 (3,1):=⟨by kernel_rfl⟩
instance:T4 Tryz.prog 47 [Value.int IntKind.i64 0,Value.slice none 0 0] 2 true 32:=⟨by kernel_rfl⟩
instance tp_47:TP Tryz.prog 47 [(0,1),(1,1)]:=⟨by kernel_rfl⟩
instance:T2 Tryz.prog 47 0 (0,1) false:=⟨by kernel_rfl⟩
instance:T2 Tryz.prog 47 1 (1,1) false:=⟨by kernel_rfl⟩
instance:T4 Tryz.prog 49 [Value.int IntKind.i64 0,Value.slice none 0 0,Value.int IntKind.i64 0,Value.slice none 0 0] 4 true 64:=⟨by kernel_rfl⟩
instance tp_49:TP Tryz.prog 49 [(0,2),(2,2)]:=⟨by kernel_rfl⟩
instance:T2 Tryz.prog 49 0 (0,2) true:=⟨by kernel_rfl⟩
instance:T2 Tryz.prog 49 1 (2,2) true:=⟨by kernel_rfl⟩
instance:T4 Tryz.prog 78 [Value.slice none 0 0,Value.slice none 0 0,Value.bool false,Value.slice none 0 0,Value.slice none 0 0] 5 true 104:=⟨by kernel_rfl⟩
instance tp_78:TP Tryz.prog 78 [(0,1),(1,3),(4,1)]:=⟨by kernel_rfl⟩
instance:T2 Tryz.prog 78 0 (0,1) false:=⟨by kernel_rfl⟩
instance:T2 Tryz.prog 78 1 (1,3) true:=⟨by kernel_rfl⟩
instance:T2 Tryz.prog 78 2 (4,1) false:=⟨by kernel_rfl⟩
instance:T4 Tryz.prog 82 [Value.slice none 0 0,Value.slice none 0 0,Value.slice none 0 0] 3 true 72:=⟨by kernel_rfl⟩
instance tp_82:TP Tryz.prog 82 [(0,1),(1,1),(2,1)]:=⟨by kernel_rfl⟩
instance:T2 Tryz.prog 82 0 (0,1) false:=⟨by kernel_rfl⟩
instance:T2 Tryz.prog 82 1 (1,1) false:=⟨by kernel_rfl⟩
instance:T2 Tryz.prog 82 2 (2,1) false:=⟨by kernel_rfl⟩
instance:T4 Tryz.prog 86 [Value.slice none 0 0,Value.slice none 0 0,Value.slice none 0 0,Value.bool false,Value.slice none 0 0,Value.slice none 0 0,Value.bool false,Value.slice none 0 0] 8 true 160:=⟨by kernel_rfl⟩
instance tp_86:TP Tryz.prog 86 [(0,1),(1,1),(2,3),(5,3)]:=⟨by kernel_rfl⟩
instance:T2 Tryz.prog 86 0 (0,1) false:=⟨by kernel_rfl⟩
instance:T2 Tryz.prog 86 1 (1,1) false:=⟨by kernel_rfl⟩
instance:T2 Tryz.prog 86 2 (2,3) true:=⟨by kernel_rfl⟩
instance:T2 Tryz.prog 86 3 (5,3) true:=⟨by kernel_rfl⟩
instance:T4 Tryz.prog 90 [Value.nilFunc] 1 false 8:=⟨by kernel_rfl⟩
instance:T4 Tryz.prog 97 [Value.nilFunc] 1 false 8:=⟨by kernel_rfl⟩
instance:T4 Tryz.prog 117 [Value.slice none 0 0] 1 false 24:=⟨by kernel_rfl⟩
instance te_117:TE Tryz.prog 117 (29,1):=⟨by kernel_rfl⟩
instance:T4 Tryz.prog 121 [Value.slice none 0 0] 1 false 24:=⟨by kernel_rfl⟩
instance te_121:TE Tryz.prog 121 (31,1):=⟨by kernel_rfl⟩
instance:T4 Tryz.prog 137 [Value.slice none 0 0] 1 false 24:=⟨by kernel_rfl⟩
instance te_137:TE Tryz.prog 137 (2,1):=⟨by kernel_rfl⟩
instance:T4 Tryz.prog 138 [Value.pointer none] 1 false 8:=⟨by kernel_rfl⟩
instance:T4 Tryz.prog 140 [Value.slice none 0 0,Value.slice none 0 0,Value.slice none 0 0,Value.int IntKind.i64 0,Value.slice none 0 0,Value.slice none 0 0,Value.slice none 0 0,Value.bool false,Value.slice none 0 0,Value.bool false] 10 true 192:=⟨by kernel_rfl⟩
instance tp_140:TP Tryz.prog 140 [(0,3),(3,1),(4,1),(5,1),(6,3),(9,1)]:=⟨by kernel_rfl⟩
instance:T2 Tryz.prog 140 0 (0,3) true:=⟨by kernel_rfl⟩
instance:T2 Tryz.prog 140 1 (3,1) false:=⟨by kernel_rfl⟩
instance:T2 Tryz.prog 140 2 (4,1) false:=⟨by kernel_rfl⟩
instance:T2 Tryz.prog 140 3 (5,1) false:=⟨by kernel_rfl⟩
instance:T2 Tryz.prog 140 4 (6,3) true:=⟨by kernel_rfl⟩
instance:T2 Tryz.prog 140 5 (9,1) false:=⟨by kernel_rfl⟩
instance:T4 Tryz.prog 145 [Value.pointer none] 1 false 8:=⟨by kernel_rfl⟩
instance:T4 Tryz.prog 146 [Value.slice none 0 0] 1 false 24:=⟨by kernel_rfl⟩
instance te_146:TE Tryz.prog 146 (5,1):=⟨by kernel_rfl⟩
instance:T4 Tryz.prog 148 [Value.pointer none,Value.slice none 0 0] 2 true 32:=⟨by kernel_rfl⟩
instance tp_148:TP Tryz.prog 148 [(0,1),(1,1)]:=⟨by kernel_rfl⟩
instance:T2 Tryz.prog 148 0 (0,1) false:=⟨by kernel_rfl⟩
instance:T2 Tryz.prog 148 1 (1,1) false:=⟨by kernel_rfl⟩
instance:T4 Tryz.prog 155 [Value.nilFunc] 1 false 8:=⟨by kernel_rfl⟩
instance:T4 Tryz.prog 156 [Value.nilFunc] 1 false 8:=⟨by kernel_rfl⟩
instance:T4 Tryz.prog 161 [Value.slice none 0 0] 1 false 24:=⟨by kernel_rfl⟩
instance te_161:TE Tryz.prog 161 (30,1):=⟨by kernel_rfl⟩
instance:T4 Tryz.prog 173 [Value.int IntKind.u64 0] 1 false 8:=⟨by kernel_rfl⟩
instance tu_173:TU Tryz.prog 173 (.int .u64):=⟨by kernel_rfl⟩
instance:T4 Tryz.prog 176 [Value.int IntKind.u32 0] 1 false 4:=⟨by kernel_rfl⟩
instance tu_176:TU Tryz.prog 176 (.int .u32):=⟨by kernel_rfl⟩
instance:T4 Tryz.prog 183 [Value.nilFunc] 1 false 8:=⟨by kernel_rfl⟩
instance:T4 Tryz.prog 186 [Value.nilFunc] 1 false 8:=⟨by kernel_rfl⟩
instance:T4 Tryz.prog 188 [Value.nilFunc] 1 false 8:=⟨by kernel_rfl⟩
instance:T4 Tryz.prog 189 [Value.slice none 0 0] 1 false 24:=⟨by kernel_rfl⟩
instance te_189:TE Tryz.prog 189 (4,1):=⟨by kernel_rfl⟩
instance:T4 Tryz.prog 199 [Value.pointer none] 1 false 8:=⟨by kernel_rfl⟩
instance:T4 Tryz.prog 204 [Value.slice none 0 0] 1 false 24:=⟨by kernel_rfl⟩
instance te_204:TE Tryz.prog 204 (207,2):=⟨by kernel_rfl⟩
instance:T4 Tryz.prog 207 [Value.slice none 0 0,Value.int IntKind.i64 0] 2 true 32:=⟨by kernel_rfl⟩
instance tp_207:TP Tryz.prog 207 [(0,1),(1,1)]:=⟨by kernel_rfl⟩
instance:T2 Tryz.prog 207 0 (0,1) false:=⟨by kernel_rfl⟩
instance:T2 Tryz.prog 207 1 (1,1) false:=⟨by kernel_rfl⟩
instance:T4 Tryz.prog 211 [Value.nilFunc] 1 false 8:=⟨by kernel_rfl⟩
instance:T4 Tryz.prog 214 [Value.nilFunc] 1 false 8:=⟨by kernel_rfl⟩
instance:T4 Tryz.prog 216 [Value.slice none 0 0,Value.nilFunc] 2 true 32:=⟨by kernel_rfl⟩
instance tp_216:TP Tryz.prog 216 [(0,1),(1,1)]:=⟨by kernel_rfl⟩
instance:T2 Tryz.prog 216 0 (0,1) false:=⟨by kernel_rfl⟩
instance:T2 Tryz.prog 216 1 (1,1) false:=⟨by kernel_rfl⟩
instance:T4 Tryz.prog 217 [Value.map none] 1 false 8:=⟨by kernel_rfl⟩
instance tm_217:TU Tryz.prog 217 (.map 5 216):=⟨by kernel_rfl⟩
instance:T4 Tryz.prog 247 [Value.nilFunc] 1 false 8:=⟨by kernel_rfl⟩
instance:T4 Tryz.prog 249 [Value.pointer none] 1 false 8:=⟨by kernel_rfl⟩
instance:T4 Tryz.prog 253 [Value.int IntKind.u64 0] 1 false 8:=⟨by kernel_rfl⟩
instance tu_253:TU Tryz.prog 253 (.int .u64):=⟨by kernel_rfl⟩
instance:T4 Tryz.prog 259 [Value.pointer none] 1 false 8:=⟨by kernel_rfl⟩
instance:T3 Tryz.prog 269 24 true 24:=⟨by kernel_rfl⟩
instance:T4 Tryz.prog 279 [Value.pointer none] 1 false 8:=⟨by kernel_rfl⟩
instance:T4 Tryz.prog 282 [Value.slice none 0 0,Value.slice none 0 0,Value.int IntKind.i64 0] 3 true 56:=⟨by kernel_rfl⟩
instance tp_282:TP Tryz.prog 282 [(0,1),(1,1),(2,1)]:=⟨by kernel_rfl⟩
instance:T2 Tryz.prog 282 0 (0,1) false:=⟨by kernel_rfl⟩
instance:T2 Tryz.prog 282 1 (1,1) false:=⟨by kernel_rfl⟩
instance:T2 Tryz.prog 282 2 (2,1) false:=⟨by kernel_rfl⟩
instance:T4 Tryz.prog 284 [Value.pointer none,Value.int IntKind.i64 0] 2 true 16:=⟨by kernel_rfl⟩
instance tp_284:TP Tryz.prog 284 [(0,1),(1,1)]:=⟨by kernel_rfl⟩
instance:T2 Tryz.prog 284 0 (0,1) false:=⟨by kernel_rfl⟩
instance:T2 Tryz.prog 284 1 (1,1) false:=⟨by kernel_rfl⟩
instance:T3 Tryz.prog 293 20 true 160:=⟨by kernel_rfl⟩
instance:T3 Tryz.prog 294 65 true 65:=⟨by kernel_rfl⟩
instance:T4 Tryz.prog 302 [Value.nilFunc] 1 false 8:=⟨by kernel_rfl⟩
instance:T3 Tryz.prog 305 32 true 32:=⟨by kernel_rfl⟩
instance:T3 Tryz.prog 306 64 true 64:=⟨by kernel_rfl⟩
abbrev FS:=FSpec Tryz.prog
theorem DL(l:Ln):FS 99 [.agg [.arr (dE l)]] (bln (l.length==0)):=by
 refine f_n Tryz.func99 ?_ ?_;exact ae (aN (ae (c6 l) ai)) ai;refine r_z 2 ?_;refine r_z 5 ?_;refine an (aR rfl ?_ (ag _));simp only[bln,nC];congr 2;rw[Bool.eq_iff_iff];simp
theorem iq(l:Ln)(hl:l.length<=281474976710656):FS 133 [.arr (dE l)] (.agg [.arr (dE (ff l))]):=by
 refine f_n Tryz.func133 ?_ ?_;exact ae (c6 l) ai;refine r_z 1 ?_;refine r_z 3 ?_;refine bi (λk:Nat=>⟨[(0,.arr (dE l)),(2,.lptr 1 0 0),(3,i64 k)],[(1,some ⟨38,1,[[.emp]]⟩)],2,23⟩) (λk=>k<=l.length/\ff l=l.take k) ?_ ?_;refine ak (aC (λk:Nat=>⟨[(0,.arr (dE l)),(2,.lptr 1 0 0),(3,i64 k)],[(1,some ⟨38,1,[[.emp]]⟩)],2,23⟩) (λk=>k) (λk=>k<=l.length/\∀i,k<=i->i< l.length->l[i]?=some 0) l.length ⟨Nat.le_refl _,λi h1 h2=>by omega⟩ ?_ ?_);exact s_e [];rintro k ⟨hk,hz⟩;have fin:k=0\/l[k- 1]?≠some 0->ff l=l.take k:=kZ l k hk hz;by_cases h0:k=0;subst h0;refine ac (s_r 10 ?_);refine a_3 ?_;refine n_g rfl d_f ?_;refine n_g rfl d_f ?_;refine n_g rfl d_f ?_;refine n_g rfl d_f ?_;refine n_g rfl d_f ?_;refine n_g rfl d_f ?_;refine o_0 (.pickF rfl d_f rfl) ?_;refine ao ?_;refine aw rfl (λh=>?_) (λ_=>?_);cases h;refine aB ⟨0,⟨hk,fin (.inl rfl)⟩,?_⟩;exact s_e [];have hk1:k- 1< l.length:=ω
 obtain⟨d,hd⟩:∃d,l[k- 1]?=some d:=⟨_,List.getElem?_eq_getElem hk1⟩;have hd':(dE l)[((k:Int)- 1).toNat]?=some [u32 d]:=by rw[show((k:Int)- 1).toNat=k- 1 by omega];exact dN hd
 refine ac (s_r 10 ?_);refine a_3 ?_;refine y_g rfl d_t (.move rfl) ?_;refine y_g rfl d_t (.move rfl) ?_;refine y_g rfl d_t (.bin rfl rfl (iL ω)) ?_
 first|refine y_g rfl d_t (.index_l rfl rfl ω ω te_36.h) ?_|refine y_g rfl d_t (.index_a rfl rfl ω hd' rfl te_36.h) ?_
 first|refine y_g rfl d_t (.load_l1 rfl rfl hd' TG.h rfl) ?_|refine y_g rfl d_t (.load_a1 rfl hd' TG.h rfl) ?_
 refine y_g rfl d_t (.bin rfl rfl aM) ?_;refine o_0 (.pickT rfl d_t rfl) ?_;refine ao ?_;refine aw rfl (λh=>?_) (λh=>?_);refine am ?_;have hd0:d=0:=by simpa using h
 subst hd0;refine ak (r_m 3 ?_);refine a_z ?_;refine⟨k- 1,ω,⟨ω,λi h1 h2=>?_⟩,?_⟩;by_cases hi:i=k- 1;rw[hi];exact hd;exact hz i ω h2;exact s_e [];refine aB ⟨k,⟨hk,fin (.inr ?_)⟩,?_⟩;rw[hd];simp at h⊢;omega;exact s_e [];rintro k ⟨hk,ht⟩;refine s_r 6 ?_;refine a_3 ?_;refine o_0 (.sa_hm rfl rfl rfl rfl rfl ⟨Nat.le_refl _,by simpa using hk⟩ te_36.h (yg l)) ?_;refine a_z ?_;refine an (dA rfl rfl rfl TG.h TS.h (nle rfl) ?_ (aN (ae (c6 _) ai)));rw[ht,<-DY];rfl
theorem ut(z:Int):FS 228 [i64 z] (bln false):=by
 refine f_c Tryz.func228 ?_;refine r_z 1 ?_;refine r_z 4 ?_;refine an (aR rfl ?_ (ag _));simp[bln]
theorem ur(z:Nat):FS 229 [u32 z] (bln false):=by
 refine f_c Tryz.func229 ?_;refine r_z 1 ?_;refine r_z 4 ?_;refine an (aR rfl ?_ (ag _));simp[bln]
theorem xX(a b:Int):FS 183 [i64 a,i64 b] (i64 (fk a b)):=by
 refine f_c Tryz.func183 ?_;refine r_z 1 ?_;refine r_c 3 (ut a) ?_;refine a_z ?_;refine r_c 3 (ut b) ?_;refine a_z ?_;refine ac (r_z 1 ?_);refine aw rfl (λh=>?_) (λ_=>am ?_);cases h;refine ac (r_z 1 ?_);refine aw rfl (λh=>?_) (λ_=>am ?_);cases h;refine ac (r_z 3 ?_);refine aw rfl (λh=>?_) (λh=>am ?_);refine r_z 1 ?_;refine an (aR rfl ?_ (ag _));simp at h;simp[i64,ofV,fk,h];refine ac (r_z 3 ?_);refine aw rfl (λh'=>?_) (λh'=>am ?_);refine r_z 1 ?_;refine an (aR rfl ?_ (ag _));simp at h h';simp[i64,ofV,fk];omega;refine r_z 1 ?_;refine an (aR rfl ?_ (ag _));simp at h h';simp[i64,ofV,fk];omega
theorem xW(a b:Nat):FS 184 [u32 a,u32 b] (i64 (fk a b)):=by
 refine f_c Tryz.func184 ?_;refine r_z 1 ?_;refine r_c 3 (ur a) ?_;refine a_z ?_;refine r_c 3 (ur b) ?_;refine a_z ?_;refine ac (r_z 1 ?_);refine aw rfl (λh=>?_) (λ_=>am ?_);cases h;refine ac (r_z 1 ?_);refine aw rfl (λh=>?_) (λ_=>am ?_);cases h;refine ac (r_z 3 ?_);refine aw rfl (λh=>?_) (λh=>am ?_);refine r_z 1 ?_;refine an (aR rfl ?_ (ag _));simp at h;simp[i64,ofV,fk,h];refine ac (r_z 3 ?_);refine aw rfl (λh'=>?_) (λh'=>am ?_);refine r_z 1 ?_;refine an (aR rfl ?_ (ag _));simp at h h';simp[i64,ofV,fk];omega;refine r_z 1 ?_;refine an (aR rfl ?_ (ag _));simp at h h';simp[i64,ofV,fk];omega
theorem digs_one{n:Nat}:(az MB n).length=1/\(az MB n)[0]?=some 1↔n=1:=by
 constructor;rintro⟨h1,h2⟩;have:=bC (b:=MB) δ n
 match hd:az MB n,h1,h2 with
 |[d],_,h2=>rw[hd] at this;simp at h2;subst h2;simpa[ofD] using this.symm
 rintro rfl;rw[ez δ δ];rw[show 1/ MB=0 by decide,cz];simp
theorem fs_one(n:Nat):FS 129 [.agg [mag n]] (bln (n==1)):=by
 refine f_c Tryz.func129 ?_;refine r_z 2 ?_;by_cases h1:(az MB n).length=1;obtain⟨d,hd⟩:∃d,(az MB n)[0]?=some d:=⟨_,List.getElem?_eq_getElem ω⟩;have hd':(dE (az MB n))[(0:Int).toNat]?=some [u32 d]:=dN hd;refine s_r 12 ?_;refine a_5 ?_
 first|refine y_g rfl χ (.fieldAddr_l rfl TF.h δ) ?_|refine y_g rfl χ (.fieldAddr_a rfl TF.h δ) ?_
 first|refine y_g rfl χ (.load_l1 rfl rfl rfl TG.h rfl) ?_|refine y_g rfl χ (.load_a1 rfl rfl TG.h rfl) ?_
 first|refine y_g rfl χ (.index_l rfl rfl ω ω te_36.h) ?_|refine y_g rfl χ (.index_a rfl rfl ω hd' rfl te_36.h) ?_
 first|refine y_g rfl χ (.load_l1 rfl rfl hd' TG.h rfl) ?_|refine y_g rfl χ (.load_a1 rfl hd' TG.h rfl) ?_
 refine y_g rfl χ (.bin rfl rfl aM) ?_;refine o_0 (.pickT rfl χ rfl) ?_;refine a_z ?_;refine an (aR rfl ?_ (ag _));simp only[bln];congr 2;rw[Bool.eq_iff_iff];have:=digs_one (n:=n);simp only[h1,hd,true_and,Option.some.injEq] at this;simp only[beq_iff_eq,<-this];omega;refine s_r 12 ?_;refine a_5 ?_;refine n_g rfl χ ?_;refine n_g rfl χ ?_;refine n_g rfl χ ?_;refine n_g rfl χ ?_;refine n_g rfl χ ?_;refine o_0 (.pickF rfl χ rfl) ?_;refine a_z ?_;refine an (aR rfl ?_ (ag _));simp only[bln,ofV];congr 2;symm;rw[beq_eq_false_iff_ne];intro h;exact h1 (digs_one.2 h).1
def wT(n:Nat):Nat->AState
 |0=>⟨[(0,u64 n),(2,.lptr 1 0 0),(3,.emp)],[(1,some ⟨38,1,[[.emp]]⟩)],2,16⟩
 |k+1=>⟨[(0,u64 (jQ n (k+1))),(2,.lptr 1 0 0),(3,.lsl 2 0 (k+1) none 1)],[(1,some ⟨38,1,[[.emp]]⟩),(2,some ⟨176,1,dE (vv n (k+1))⟩)],3,16⟩
theorem fy(n:Nat)(h:n< 18446744073709551616):FS 127 [u64 n] (.agg [mag n]):=by
 have hlen:(az MB n).length<=3:=eJ δ (Nat.lt_of_lt_of_le h δ);refine f_c Tryz.func127 ?_;refine r_z 1 ?_;refine r_z 1 ?_;refine bi (wT n) (λk=>k=(az MB n).length) ?_ ?_;refine ak (aC (wT n) (λk=>(az MB n).length- k) (λk=>k<=(az MB n).length) 0 (Nat.zero_le _) ?_ ?_);rw[wT.eq_1];exact s_e [];rintro k hk;have hle:=F9 hk;have hz:=Ga hk;have hpl:=mj hk;cases k with
 |zero=>
  rw[tO] at hz;refine ac (r_z 2 ?_);refine aw rfl (λh=>?_) (λh=>?_);refine am ?_;have h0:0< n:=by simpa using h
  have hl1:0< (az MB n).length:=ω
  obtain⟨hq,ht⟩:=tP hl1;rw[tO] at hq ht;refine ac (ak (r_m 7 ?_));refine a_z ?_;refine r_m 3 ?_;refine a_z ?_;refine⟨1,ω,hl1,?_⟩;rw[wT.eq_2];refine s_x [(2,3)] (λhs=>?_) (λhs=>?_) ?_
  ·repeat' (first|exact aF|refine aj rfl ?_ ?_|exact aX|(refine Cv.loE hs ?_ (ag _);first|rfl|(simp[i64,u64,u32,bln,hq,ht,ik];done)|(simp[i64,u64,u32,bln,hq,ht,ik]<;> omega)))
  ·repeat' (first|exact aD|refine h_c ?_ ?_|exact bG|(refine aI hs ?_ (bY _);first|(simp[gR,kP,gS,hq,ht,ik];done)|(simp[dE,u32,ofV,hq,ht,ik];done))|refine ay ?_|exact ax|refine af ?_ ?_|exact aX|(refine Cv.loE hs ?_ (ag _);first|(simp[i64,u64,u32,bln,hq,ht,ik];done)|(simp[i64,u64,u32,bln,hq,ht,ik]<;> omega)))
  ·repeat' (first|exact ShrL.nil|refine ShrL.cons rfl rfl rfl rfl (by first|rfl|(simp;done)|(simp[hq,ht,ik]<;> omega)) ?_)
  refine aB ⟨0,?_,?_⟩;have:¬0< n:=by simpa using h
  omega;rw[wT.eq_1];exact s_e []
 |succ k=>
  rw[wT.eq_2];refine ac (r_z 2 ?_);refine aw rfl (λh=>?_) (λh=>?_);refine am ?_;have h0:0< jQ n (k+1):=by simpa using h
  have hl1:k+1< (az MB n).length:=ω
  obtain⟨hq,ht⟩:=tP hl1;refine ac (ak (r_m 7 ?_));refine a_z ?_;refine r_m 3 ?_;refine a_z ?_;refine⟨k+1+1,ω,hl1,?_⟩;rw[wT.eq_2];refine s_x [(2,3)] (λhs=>?_) (λhs=>?_) ?_
  ·repeat' (first|exact aF|refine aj rfl ?_ ?_|exact aX|(refine Cv.loE hs ?_ (ag _);first|rfl|(simp[i64,u64,u32,bln,hq,ht,hpl];done)|(simp[i64,u64,u32,bln,hq,ht,hpl]<;> omega)))
  ·repeat' (first|exact aD|refine h_c ?_ ?_|exact bG|(refine aI hs ?_ (bY _);first|(simp[gR,kP,gS,hq,ht,hpl];done)|(simp[dE,u32,ofV,hq,ht,hpl];done))|refine ay ?_|exact ax|refine af ?_ ?_|exact aX|(refine Cv.loE hs ?_ (ag _);first|(simp[i64,u64,u32,bln,hq,ht,hpl];done)|(simp[i64,u64,u32,bln,hq,ht,hpl]<;> omega)))
  ·repeat' (first|exact ShrL.nil|refine ShrL.cons rfl rfl rfl rfl (by first|rfl|(simp;done)|(simp[hq,ht,hpl]<;> omega)) ?_)
  refine aB ⟨k+1,?_,?_⟩;have:¬0< jQ n (k+1):=by simpa using h
  omega;rw[wT.eq_2];exact s_e []
 rintro k rfl;cases hk:(az MB n).length with
 |zero=>
  rw[wT.eq_1];refine r_z 3 ?_;refine an (Fin.cell rfl rfl rfl TG.h TS.h (nle rfl) (Cv.agg (af (Cv.emp _ ?_) ax)));unfold mag;rw[List.length_eq_zero_iff] at hk;rw[hk];rfl
 |succ k=>
  rw[wT.eq_2];refine r_z 3 ?_;refine an (Fin.cell rfl rfl rfl TG.h TS.h (nle rfl) (Cv.agg (af (Cv.shut aE rfl (λ_ _ h=>by cases h) ?_ ?_) ax)));simp[mj (Nat.le_of_eq hk.symm)];refine aI aE ?_ (bY _);have h1:(vv n (k+1)).length=k+1:=mj (Nat.le_of_eq hk.symm);have h2:=Gm n;rw[hk] at h2;simp only[List.drop_zero,DY];rw[List.take_of_length_le (Nat.le_of_eq h1),h2]
def Gn(p:Nat)(q:Nat):Ln×Nat->AState
 |(s,c)=>⟨[(26,i64 s.length),(25,i64 (az MB p).length),(24,mag p),(2,.lptr 1 0 0),(3,.lptr 2 0 0),(4,.lptr 3 0 0),(5,.lsl 4 0 ((az MB p).length+1) (some ((az MB p).length+1)) 1),(6,u32 c)],
  [(1,some ⟨38,1,[[mag p]]⟩),(2,some ⟨38,1,[[mag q]]⟩),(3,some ⟨38,1,[[.emp]]⟩),(4,some ⟨176,1,dE (s++List.replicate ((az MB p).length+1- s.length) 0)⟩)],5,63⟩
structure PlusI (p q:Nat)(a:Ln×Nat):Prop where
 le:a.1.length<=(az MB p).length
 dig:∀d∈a.1,d< MB
 car:a.2<=1
 val:ofD MB a.1+MB^ a.1.length* a.2=ofD MB ((az MB p).take a.1.length)+ofD MB ((az MB q).take a.1.length)
theorem xG(a b:Nat)(h:bl a+bl b<=17592186044416):FS 132 [.agg [mag a],.agg [mag b]] (.agg [mag (a+b)]):=by
 have hla:=bR (b:=MB) δ a;have hlb:=bR (b:=MB) δ b;refine f_c Tryz.func132 ?_;refine r_z 3 ?_;refine ac (r_z 7 ?_)
 refine aG (λx:Nat×Nat=>⟨[(2,.lptr 1 0 0),(3,.lptr 2 0 0),(4,.lptr 3 0 0)],[(1,some ⟨38,1,[[mag x.1]]⟩),(2,some ⟨38,1,[[mag x.2]]⟩),(3,some ⟨38,1,[[.emp]]⟩)],4,63⟩)
  (λx=>x.1+x.2=a+b/\(az MB x.2).length<=(az MB x.1).length/\(az MB x.1).length<=17592186044416) ?_ ?_
 refine aw rfl (λh=>?_) (λh=>?_);refine r_m 4 ?_;refine a_z ?_;refine⟨(b,a),⟨χ,?_,χ⟩,?_⟩;simp at h;simp;omega;exact s_e [];refine am ⟨(a,b),⟨rfl,?_,χ⟩,?_⟩;simp at h;simpa using h;exact s_e [];rintro⟨p,q⟩ ⟨hpq,hqp,hp⟩;simp only at hpq hqp hp⊢;refine r_z 6 ?_;refine r_z 1 ?_;refine ac (r_z 4 ?_);refine aG (Gn p q) (λx=>PlusI p q x/\x.1.length=(az MB p).length) ?_ ?_;refine ak (aC (Gn p q) (λx=>(az MB p).length- x.1.length) (PlusI p q) ([],0) ⟨ψ,ψ,ψ,by simp[ofD]⟩ ?_ ?_);rw[Gn.eq_1];exact s_e [(4,5)];rintro⟨s,c⟩ ⟨hle,hdig,hcar,hval⟩;simp only at hle hdig hcar hval;rw[Gn.eq_1];refine r_z 1 ?_;refine ac (aw rfl (λh=>?_) (λh=>?_));refine am ?_;have hlt:s.length< (az MB p).length:=by simpa using h
 obtain⟨x,hx⟩:∃x,(az MB p)[s.length]?=some x:=⟨_,List.getElem?_eq_getElem hlt⟩;have hx1:x< 1000000000:=cQ δ hx;have hx':(dE (az MB p))[((s.length:Nat):Int).toNat]?=some [u32 x]:=dN hx;refine ac (ak (s_r 5 ?_));refine a_1 ?_;refine i_x hx' ?_;refine l_1 hx' ?_;refine a_z ?_;refine r_z 4 ?_;refine ac (r_z 5 ?_)
 have hq0:∀y,((az MB q)[s.length]?.getD 0=y)->y< 1000000000:=by
  rintro y rfl;cases hy:(az MB q)[s.length]? with
  |none=>decide
  |some y=>exact cQ δ hy
 refine aG (λv:Nat=>⟨[(26,i64 s.length),(25,i64 (az MB p).length),(24,mag p),(2,.lptr 1 0 0),(3,.lptr 2 0 0),(4,.lptr 3 0 0),(5,.lsl 4 0 ((az MB p).length+1) (some ((az MB p).length+1)) 1),(7,i64 s.length),(8,u32 v)],
  [(1,some ⟨38,1,[[mag p]]⟩),(2,some ⟨38,1,[[mag q]]⟩),(3,some ⟨38,1,[[.emp]]⟩),(4,some ⟨176,1,dE (s++List.replicate ((az MB p).length+1- s.length) 0)⟩)],5,63⟩)
  (λv=>v=x+c+(az MB q)[s.length]?.getD 0) ?_ ?_
 refine aw rfl (λh=>?_) (λh=>?_);have hlt2:s.length< (az MB q).length:=by simpa using h
 obtain⟨y,hy⟩:∃y,(az MB q)[s.length]?=some y:=⟨_,List.getElem?_eq_getElem hlt2⟩;have hy1:y< 1000000000:=cQ δ hy;have hy':(dE (az MB q))[((s.length:Nat):Int).toNat]?=some [u32 y]:=dN hy;refine r_m 8 ?_;refine a_4 ?_;refine i_x hy' ?_;refine l_1 hy' ?_;refine a_z ?_;refine⟨x+c+y,by rw[hy];rfl,?_⟩;exact s_e [];have hlt2:¬s.length< (az MB q).length:=by simpa using h
 refine am ⟨x+c,by rw[List.getElem?_eq_none ω];rfl,?_⟩;exact s_e [];rintro v hv;obtain⟨y,hy⟩:∃y,y=(az MB q)[s.length]?.getD 0:=⟨_,rfl⟩;have hy1:=hq0 y hy.symm;rw[<-hy] at hv;refine r_z 1 ?_;refine ac (r_z 2 ?_)
 have hg:(dE (s++List.replicate ((az MB p).length+1- s.length) 0))[0+((s.length:Nat):Int).toNat]?=some [u32 0]:=by
  rw[Nat.zero_add,Int.toNat_natCast];exact dN (by rw[show(az MB p).length+1- s.length=((az MB p).length- s.length)+1 by omega];exact zM _ _ _ rfl)
 have hset:∀w:Nat,(dE (s++List.replicate ((az MB p).length+1- s.length) 0)).set (0+((s.length:Nat):Int).toNat) [u32 w]=dE ((s++[w])++List.replicate ((az MB p).length+1- (s++[w]).length) 0):=by
  intro w;rw[Nat.zero_add,Int.toNat_natCast,gR,show(az MB p).length+1- s.length=((az MB p).length- s.length)+1 by omega,yS _ _ _ _ rfl,show(az MB p).length+1- (s++[w]).length=(az MB p).length- s.length by simp]
 have hnext:∀w c',w+1000000000* c'=x+c+y->w< 1000000000->c'<=1->PlusI p q (s++[w],c'):=by
  intro w c' hw hwb hc';refine⟨χ,?_,hc',?_⟩;intro d hd;rcases List.mem_append.1 hd with hd|hd
  exact hdig d hd;simp at hd;subst hd;exact hwb;simp only[List.length_append,List.length_singleton];rw[gL,c7 _ hx,eI,<-hy,Nat.pow_succ];have e:MB^ s.length* w+MB^ s.length* MB* c'=MB^ s.length* (w+MB* c'):=by rw[Nat.mul_add,Nat.mul_assoc]
  have e2:MB^ s.length* (x+c+y)=MB^ s.length* x+MB^ s.length* c+MB^ s.length* y:=by rw[Nat.mul_add,Nat.mul_add]
  rw[hw,e2] at e;omega
 refine aw rfl (λh=>?_) (λh=>?_);have hb:1000000000<=v:=by have:=of_decide_eq_true h;omega
 have hv1:((v:Int)- 1000000000)=((v- 1000000000:Nat):Int):=ω
 refine r_m 4 ?_;refine a_z ?_;refine r_m 5 ?_;refine a_4 ?_;refine ee (.store rfl rfl hg rfl rfl rfl TS.h (nle rfl)) ?_;refine ao ?_;refine r_m 2 ?_;refine a_z ?_;refine⟨(s++[v- 1000000000],1),χ,hnext _ _ ω ω (Nat.le_refl _),?_⟩;rw[Gn.eq_1];exact s_x [] (λhs=>cN) (λhs=>e_21);have hb:v< 1000000000:=by have:=of_decide_eq_false h;omega
 refine am (r_m 5 ?_);refine a_4 ?_;refine ee (.store rfl rfl hg rfl rfl rfl TS.h (nle rfl)) ?_;refine ao ?_;refine r_m 2 ?_;refine a_z ?_;refine⟨(s++[v],0),χ,hnext _ _ ω hb ω,?_⟩;rw[Gn.eq_1];exact s_x [] (λhs=>cN) (λhs=>e_22);refine aB ⟨(s,c),⟨⟨hle,hdig,hcar,hval⟩,?_⟩,?_⟩;simp at h;simp;omega;rw[Gn.eq_1];exact s_e [];rintro⟨s,c⟩ ⟨⟨hle,hdig,hcar,hval⟩,hlen⟩;simp only at hle hdig hcar hval hlen
 have hg:(dE (s++List.replicate ((az MB p).length+1- s.length) 0))[0+(((az MB p).length:Nat):Int).toNat]?=some [u32 0]:=by
  rw[Nat.zero_add,Int.toNat_natCast,<-hlen];exact dN (by rw[show s.length+1- s.length=0+1 by omega];exact zM _ _ _ rfl)
 have hset:(dE (s++List.replicate ((az MB p).length+1- s.length) 0)).set (0+(((az MB p).length:Nat):Int).toNat) [u32 c]=dE (s++[c]):=by
  rw[Nat.zero_add,Int.toNat_natCast,<-hlen,gR,show s.length+1- s.length=0+1 by omega,yS _ _ _ _ rfl];simp
 have hres:ff (s++[c])=az MB (a+b):=by
  rw[jv (b:=MB) δ,gL,hval,gI _ ω,gI _ ω,bC δ,bC δ,hpq];intro d hd;rcases List.mem_append.1 hd with hd|hd
  exact hdig d hd;simp at hd;subst hd;show d< 1000000000;omega
 rw[Gn.eq_1];refine s_r 7 ?_;refine a_6 ?_;refine ee (.store rfl rfl hg rfl rfl rfl TS.h (nle rfl)) ?_;refine ao ?_;refine AWp.ent (st':=⟨[(4,.lptr 3 0 0),(5,.arr (dE (s++[c])))],[(3,some ⟨38,1,[[.emp]]⟩)],4,63⟩) ?_ ?_;refine s_x [] (λhs=>?_) (λhs=>?_)
 ·repeat' (first|exact aF|refine aj rfl ?_ ?_|exact Cv.sealE hs rfl (aP rfl) hset (by simp[hlen]) (bY _)|exact aX)
 ·repeat' (first|exact aD|refine h_c ?_ ?_|exact bG|refine ay ?_|exact ax|refine af ?_ ?_|exact Cv.sealE hs rfl (aP rfl) hset (by simp[hlen]) (bY _)|exact aX)
 refine s_r 3 ?_;refine o_0 (.move rfl) ?_;refine o_0 (.call rfl rfl rfl (iq _ χ)) ?_;refine a_z ?_;refine an (dA rfl rfl rfl TG.h TS.h (nle rfl) ?_ (aN (ae (cg _) ai)));rw[hres];rfl
def agS(a:Nat)(b:Nat):Nat->AState
 |k=>⟨[(2,.lptr 1 0 0),(3,.lptr 2 0 0),(6,i64 ((k:Int)- 1))],[(1,some ⟨38,1,[[mag a]]⟩),(2,some ⟨38,1,[[mag b]]⟩)],3,40⟩
theorem oh(a b:Nat)(h:bl a+bl b<=17592186044416):FS 134 [.agg [mag a],.agg [mag b]] (i64 (fk a b)):=by
 have hla:=bR (b:=MB) δ a;have hlb:=bR (b:=MB) δ b;refine f_c Tryz.func134 ?_;refine r_z 3 ?_;refine ac (r_c 8 (xX _ _) ?_);refine a_z ?_;refine r_z 2 ?_;refine aw rfl (λh=>?_) (λh=>?_);have hne:fk (az MB a).length (az MB b).length≠0:=by simpa using h
 refine r_z 2 ?_;refine an (aR rfl ?_ (ag _));unfold i64;congr 2;rw[sX] at hne;rcases Nat.lt_or_ge (az MB a).length (az MB b).length with hl|hl
 have:=jq δ hl;rw[lK ω,lK ω];have:=jq (m:=b) (n:=a) (b:=MB) δ ω;rw[nH ω,nH ω]
 have heq:(az MB a).length=(az MB b).length:=by
  have h0:¬fk (az MB a).length (az MB b).length≠0:=by simpa using h
  rw[sX] at h0;omega
 refine am (ac (r_z 5 ?_));refine aG (agS a b) (λk=>k=0/\a=b) ?_ ?_;refine ak (aC (agS a b) (λk=>k) (λk=>k<=(az MB a).length/\(az MB a).drop k=(az MB b).drop k) (az MB a).length ⟨Nat.le_refl _,by rw[List.drop_length,heq,List.drop_length]⟩ ?_ ?_);rw[agS.eq_1];exact s_e [];rintro k ⟨hk,hd⟩;rw[agS.eq_1];refine ac (r_z 2 ?_);refine aw rfl (λh=>?_) (λh=>?_);have hk0:0< k:=by have:=of_decide_eq_true h;omega
 obtain⟨x,hx⟩:∃x,(az MB a)[k- 1]?=some x:=⟨_,List.getElem?_eq_getElem ω⟩;obtain⟨y,hy⟩:∃y,(az MB b)[k- 1]?=some y:=⟨_,List.getElem?_eq_getElem ω⟩;have hx':(dE (az MB a))[((k:Int)- 1).toNat]?=some [u32 x]:=by rw[show((k:Int)- 1).toNat=k- 1 by omega];exact dN hx
 have hy':(dE (az MB b))[((k:Int)- 1).toNat]?=some [u32 y]:=by rw[show((k:Int)- 1).toNat=k- 1 by omega];exact dN hy
 rw[show k=(k- 1)+1 by omega] at hd;refine am (ac (ak (ac (r_d hmix 12 ?_))));refine a_3 ?_;refine i_x hx' ?_;refine l_1 hx' ?_;refine a_3 ?_;refine i_x hy' ?_;refine l_1 hy' ?_;refine c_s (xW x y) ?_;refine a_1 ?_;refine ao (n_k ?_);refine r_z 2 ?_;refine aw rfl (λh2=>?_) (λh2=>?_);have hne:fk x y≠0:=by simpa using h2
 refine r_z 2 ?_;refine an (aR rfl ?_ (ag _));unfold i64;congr 2;rw[sX] at hne;rcases Nat.lt_or_ge x y with hl|hl
 have:=nq (b:=MB) (dD δ a) hx hy hd hl;rw[bC δ,bC δ] at this;rw[lK ω,lK ω];have:=nq (b:=MB) (dD δ b) hy hx hd.symm ω;rw[bC δ,bC δ] at this;rw[nH ω,nH ω]
 have hxy:x=y:=by
  have h0:¬fk x y≠0:=by simpa using h2
  rw[sX] at h0;omega
 refine am (r_m 3 ?_);refine a_z ?_;refine⟨k- 1,ω,⟨ω,?_⟩,?_⟩;rw[fG hx,fG hy,hd,hxy];rw[agS.eq_1];exact s_e [];have hk0:k=0:=by have:=of_decide_eq_false h;omega
 subst hk0;refine aB ⟨0,⟨rfl,?_⟩,?_⟩;have:=congrArg (ofD MB) hd;rwa[List.drop_zero,List.drop_zero,bC δ,bC δ] at this;rw[agS.eq_1];exact s_e [];rintro k ⟨rfl,hab⟩;rw[agS.eq_1];refine r_z 1 ?_;refine an (aR rfl ?_ (ag _));subst hab;rw[D3 rfl];rfl
def leS(a:Nat)(b:Nat):Ln×Nat->AState
 |(s,c)=>⟨[(19,i64 s.length),(18,i64 (az MB a).length),(2,.lptr 1 0 0),(3,.lptr 2 0 0),(4,.lptr 3 0 0),(5,.lsl 4 0 (az MB a).length (some (az MB a).length) 1),(6,u32 c)],
  [(1,some ⟨38,1,[[mag a]]⟩),(2,some ⟨38,1,[[mag b]]⟩),(3,some ⟨38,1,[[.emp]]⟩),(4,some ⟨176,1,dE (s++(az MB a).drop s.length)⟩)],5,61⟩
def leT(n:Nat):Ln×Unit->AState
 |(o,u)=>⟨[(4,.lptr 3 0 0),(5,.lsl 4 0 n (some n) 1)],
  [(3,some ⟨38,1,[[.emp]]⟩),(4,some ⟨176,1,dE o⟩)],5,61⟩
structure LessI (a b:Nat)(x:Ln×Nat):Prop where
 le:x.1.length<=(az MB a).length
 dig:∀d∈x.1,d< MB
 car:x.2<=1
 val:ofD MB x.1+ofD MB ((az MB b).take x.1.length)=ofD MB ((az MB a).take x.1.length)+MB^ x.1.length* x.2
theorem sR(a b:Nat)(h:bl a<=17592186044416)(hba:b<=a):FS 131 [.agg [mag a],.agg [mag b]] (.agg [mag (a- b)]):=by
 have hla:=bR (b:=MB) δ a;have hlen:=zF (b:=MB) δ hba;have va:=bC (b:=MB) δ a;have vb:=bC (b:=MB) δ b;refine f_c Tryz.func131 ?_;refine r_z 3 ?_;refine r_z 5 ?_;refine s_r 4 ?_;refine a_3 ?_;refine o_1 (.copy rfl rfl rfl te_36.h rfl rfl rfl (by first|(simp;done)|(simp;omega)) (by first|exact cV _|exact cU _|exact cy _|exact cW _|exact cS _|rfl|simp) rfl (.arr (yg _))) ?_;refine ao ?_
 have hcp:eR (List.replicate (az MB a).length [ofV (Value.int IntKind.u32 0)]) 0 (List.take (Nat.min (dE (az MB a)).length (az MB a).length) (dE (az MB a)))=dE ([]++(az MB a).drop 0):=by
  rw[Ef];rw[List.take_of_length_le ψ];rfl;simp
 refine r_z 1 ?_;refine ac (r_z 3 ?_);refine aG (leT (az MB a).length) (λx=>(∀d∈x.1,d< MB)/\x.1.length=(az MB a).length/\ofD MB x.1=a- b) ?_ ?_;refine ak (aC (leS a b) (λx=>(az MB a).length- x.1.length) (LessI a b) ([],0) ⟨ψ,ψ,ψ,by simp[ofD]⟩ ?_ ?_);rw[leS.eq_1];exact s_x [(4,5)] (λhs=>cN) (λhs=>e_24) e_23;rintro⟨s,c⟩ ⟨hle,hdig,hcar,hval⟩;simp only at hle hdig hcar hval;rw[leS.eq_1];refine r_z 1 ?_;refine ac (aw rfl (λh=>?_) (λh=>?_));have hlt:s.length< (az MB a).length:=by have:=of_decide_eq_true h;omega
 obtain⟨x,hx⟩:∃x,(az MB a)[s.length]?=some x:=⟨_,List.getElem?_eq_getElem hlt⟩;have hx1:x< 1000000000:=cQ δ hx;have hdx:=fG hx;refine am (ac (ak (r_z 2 ?_)));refine r_z 2 ?_;refine ac (r_z 5 ?_)
 refine aG (λv:Nat=>⟨[(19,i64 s.length),(18,i64 (az MB a).length),(2,.lptr 1 0 0),(3,.lptr 2 0 0),(4,.lptr 3 0 0),(5,.lsl 4 0 (az MB a).length (some (az MB a).length) 1),(6,u32 c),(7,i64 s.length),(8,u32 v)],
  [(1,some ⟨38,1,[[mag a]]⟩),(2,some ⟨38,1,[[mag b]]⟩),(3,some ⟨38,1,[[.emp]]⟩),(4,some ⟨176,1,dE (s++(az MB a).drop s.length)⟩)],5,61⟩)
  (λv=>v=c+(az MB b)[s.length]?.getD 0/\v<=1000000000) ?_ ?_
 refine aw rfl (λh=>?_) (λh=>?_);have hlt2:s.length< (az MB b).length:=by have:=of_decide_eq_true h;omega
 obtain⟨y,hy⟩:∃y,(az MB b)[s.length]?=some y:=⟨_,List.getElem?_eq_getElem hlt2⟩;have hy1:y< 1000000000:=cQ δ hy;have hy':(dE (az MB b))[((s.length:Nat):Int).toNat]?=some [u32 y]:=dN hy;refine r_m 8 ?_;refine a_4 ?_;refine i_x hy' ?_;refine l_1 hy' ?_;refine a_z ?_;refine⟨c+y,⟨by rw[hy];rfl,ω⟩,?_⟩;exact s_e [];have hlt2:¬s.length< (az MB b).length:=by have:=of_decide_eq_false h;omega
 refine r_z 2 ?_;refine aw rfl (λh=>?_) (λh=>?_);have hc0:c=0:=by simpa using h
 refine aB ⟨(s++(az MB a).drop s.length,()),⟨?_,χ,?_⟩,?_⟩;intro d hd;rcases List.mem_append.1 hd with hd|hd
 exact hdig d hd;exact dD δ a d (List.mem_of_mem_drop hd);have:=ed MB s.length (az MB a) ω;rw[va] at this;rw[gI _ ω,vb,hc0] at hval;simp only[fV];omega;rw[leT.eq_1];exact s_e [];refine am ⟨c,⟨by rw[List.getElem?_eq_none ω];rfl,ω⟩,?_⟩;exact s_e [];rintro v ⟨hv,hv1⟩;obtain⟨y,hy⟩:∃y,y=(az MB b)[s.length]?.getD 0:=⟨_,rfl⟩;rw[<-hy] at hv
 have hg:(dE (s++(az MB a).drop s.length))[0+((s.length:Nat):Int).toNat]?=some [u32 x]:=by
  rw[Nat.zero_add,Int.toNat_natCast,hdx];exact dN (pL _ _ _ _ rfl)
 have hset:∀w:Nat,(dE (s++(az MB a).drop s.length)).set (0+((s.length:Nat):Int).toNat) [u32 w]=dE ((s++[w])++(az MB a).drop (s++[w]).length):=by
  intro w;rw[Nat.zero_add,Int.toNat_natCast,gR,hdx,pe _ _ _ _ _ rfl];simp
 have hnext:∀w c',w+v=x+1000000000* c'->w< 1000000000->c'<=1->LessI a b (s++[w],c'):=by
  intro w c' hw hwb hc';refine⟨χ,?_,hc',?_⟩;intro d hd;rcases List.mem_append.1 hd with hd|hd
  exact hdig d hd;simp at hd;subst hd;exact hwb;simp only[List.length_append,List.length_singleton];rw[gL,c7 _ hx,eI,<-hy,Nat.pow_succ];have e:MB^ s.length* (w+v)=MB^ s.length* (x+MB* c'):=by rw[hw]
  rw[hv,Nat.mul_add,Nat.mul_add,Nat.mul_add,<-Nat.mul_assoc] at e;omega
 refine r_z 1 ?_;refine ac (s_r 6 ?_);refine a_2 ?_
 first|refine av (.index_l rfl rfl ω ω te_36.h) rfl rfl ?_|refine av (.index_a rfl rfl ω hg rfl te_36.h) rfl rfl ?_
 first|refine av (.load_l1 rfl rfl hg TG.h rfl) rfl rfl ?_|refine av (.load_a1 rfl hg TG.h rfl) rfl rfl ?_
 refine a_z ?_;refine aw rfl (λh=>?_) (λh=>?_);have hb:x< v:=by have:=of_decide_eq_true h;omega
 have hv2:((x:Int)+1000000000- v)=((x+1000000000- v:Nat):Int):=ω
 have hv3:((x:Int)+1000000000)=((x+1000000000:Nat):Int):=ω
 refine r_m 10 ?_;refine a_5 ?_
 first|refine av (.load_l1 rfl rfl hg TG.h rfl) rfl rfl ?_|refine av (.load_a1 rfl hg TG.h rfl) rfl rfl ?_
 refine a_2 ?_;refine ee (.store rfl rfl hg rfl rfl rfl TS.h (nle rfl)) ?_;refine a_z ?_
 refine AWp.ent (st':=⟨[(19,i64 s.length),(18,i64 (az MB a).length),(2,.lptr 1 0 0),(3,.lptr 2 0 0),(4,.lptr 3 0 0),(5,.lsl 4 0 (az MB a).length (some (az MB a).length) 1),(6,u32 1),(7,i64 s.length),(8,u32 v)],
  [(1,some ⟨38,1,[[mag a]]⟩),(2,some ⟨38,1,[[mag b]]⟩),(3,some ⟨38,1,[[.emp]]⟩),(4,some ⟨176,1,dE (s++(x+1000000000)::(az MB a).drop (s.length+1))⟩)],5,61⟩) ?_ ?_
 refine s_x [] (λhs=>cN) (λhs=>?_)
 ·repeat' (first|exact aD|refine h_c ?_ ?_|(refine aI hs ?_ (bY _);rw[hv3];exact(hset _).trans ψ)|exact bG)
 have hg2:(dE (s++(x+1000000000)::(az MB a).drop (s.length+1)))[0+((s.length:Nat):Int).toNat]?=some [u32 (x+1000000000)]:=by
  rw[Nat.zero_add,Int.toNat_natCast];exact dN (pL _ _ _ _ rfl)
 have hset2:∀w:Nat,(dE (s++(x+1000000000)::(az MB a).drop (s.length+1))).set (0+((s.length:Nat):Int).toNat) [u32 w]=dE ((s++[w])++(az MB a).drop (s++[w]).length):=by
  intro w;rw[Nat.zero_add,Int.toNat_natCast,gR,pe _ _ _ _ _ rfl];simp
 have hv2:(((x+1000000000:Nat):Int)- v)=((x+1000000000- v:Nat):Int):=ω
 refine r_m 8 ?_;refine a_2 ?_
 first|refine av (.index_l rfl rfl ω ω te_36.h) rfl rfl ?_|refine av (.index_a rfl rfl ω hg2 rfl te_36.h) rfl rfl ?_
 first|refine av (.load_l1 rfl rfl hg2 TG.h rfl) rfl rfl ?_|refine av (.load_a1 rfl hg2 TG.h rfl) rfl rfl ?_
 refine a_3 ?_;refine ee (.store rfl rfl hg2 rfl rfl rfl TS.h (nle rfl)) ?_;refine ao ?_;refine r_m 2 ?_;refine a_z ?_;refine⟨(s++[x+1000000000- v],1),χ,hnext _ _ ω ω ω,?_⟩;rw[leS.eq_1];refine s_x [] (λhs=>cN) (λhs=>?_)
 ·repeat' (first|exact aD|refine h_c ?_ ?_|(refine aI hs ?_ (bY _);rw[hv2];exact hset2 _)|exact bG)
 have hb:v<=x:=by have:=of_decide_eq_false h;omega
 have hv1:((x:Int)- v)=((x- v:Nat):Int):=ω
 refine am (r_m 8 ?_);refine a_2 ?_
 first|refine av (.index_l rfl rfl ω ω te_36.h) rfl rfl ?_|refine av (.index_a rfl rfl ω hg rfl te_36.h) rfl rfl ?_
 first|refine av (.load_l1 rfl rfl hg TG.h rfl) rfl rfl ?_|refine av (.load_a1 rfl hg TG.h rfl) rfl rfl ?_
 refine a_3 ?_;refine ee (.store rfl rfl hg rfl rfl rfl TS.h (nle rfl)) ?_;refine ao ?_;refine r_m 2 ?_;refine a_z ?_;refine⟨(s++[x- v],0),χ,hnext _ _ ω ω ω,?_⟩;rw[leS.eq_1];exact s_x [] (λhs=>cN) (λhs=>e_21);have hl:s.length=(az MB a).length:=by have:=of_decide_eq_false h;omega
 refine aB ⟨(s,()),⟨hdig,hl,?_⟩,?_⟩;have h1:=fw hdig;rw[hl,gI _ hlen,gI _ (Nat.le_refl _),va,vb] at hval;rw[hl] at h1
 have h2:c=0:=by
  rcases Nat.eq_zero_or_pos c with h|h
  exact h;have:MB^ (az MB a).length* 1<=MB^ (az MB a).length* c:=Nat.mul_le_mul_left _ h;omega
 subst h2;simp at hval⊢;omega;rw[leT.eq_1];refine s_x [] (λhs=>?_) (λhs=>?_) ?_
 ·repeat' (first|exact aF|refine aj rfl ?_ ?_|exact aX|(refine Cv.loE hs ?_ (ag _);first|rfl|(simp[i64,u64,u32,bln,hl];done)|(simp[i64,u64,u32,bln,hl]<;> omega)))
 ·repeat' (first|exact aD|refine h_c ?_ ?_|exact bG|(refine aI hs ?_ (bY _);first|(simp[gR,kP,gS,hl];done)|(simp[dE,u32,ofV,hl];done))|refine ay ?_|exact ax|refine af ?_ ?_|exact aX|(refine Cv.loE hs ?_ (ag _);first|(simp[i64,u64,u32,bln,hl];done)|(simp[i64,u64,u32,bln,hl]<;> omega)))
 ·repeat' (first|exact ShrL.nil|refine ShrL.cons rfl rfl rfl rfl (by first|rfl|(simp;done)|(simp[hl]<;> omega)) ?_)
 rintro⟨o,u⟩ ⟨hd,hl,hv⟩;rw[leT.eq_1];refine AWp.ent (st':=⟨[(4,.lptr 3 0 0),(5,.arr (dE o))],[(3,some ⟨38,1,[[.emp]]⟩)],4,61⟩) ?_ ?_;refine s_x [] (λhs=>?_) (λhs=>?_)
 ·repeat' (first|exact aF|refine aj rfl ?_ ?_|exact Cv.sealE hs rfl (aP rfl) rfl (by simp[hl]) (bY _)|exact aX)
 ·repeat' (first|exact aD|refine h_c ?_ ?_|exact bG|refine ay ?_|exact ax|refine af ?_ ?_|exact Cv.sealE hs rfl (aP rfl) rfl (by simp[hl]) (bY _)|exact aX)
 simp only at hl hv;refine s_r 3 ?_;refine o_0 (.move rfl) ?_;refine o_0 (.call rfl rfl rfl (iq _ ω)) ?_;refine ee (.store rfl rfl rfl rfl rfl rfl TS.h (nle rfl)) ?_;refine ao ?_;refine an (dA rfl rfl rfl TG.h TS.h (nle rfl) ?_ (aN (ae (cg _) ai)));rw[jv (b:=MB) δ hd,hv];rfl
end Go.Proofs.YtjgokhkahkmpbaaGreatDoor
