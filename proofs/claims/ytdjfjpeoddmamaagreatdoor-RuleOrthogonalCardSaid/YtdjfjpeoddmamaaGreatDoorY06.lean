/- Part Y06 of the proof. -/
import Derived.Test.YtdjfjpeoddmamaaGreatDoorY05
import Derived.Below
set_option linter.all false
namespace Go.Abs
class TZ (P:Program) (t:Nat) (v:outParam (List Value)):Prop where h:dL_ P t=some v
class TS (P:Program) (t:Nat) (v:outParam Nat):Prop where h:szOf P t=some v
class TG (P:Program) (t:Nat) (v:outParam Bool):Prop where h:d6_ P t=some v
class TB (P:Program) (t:Nat) (v:outParam Nat):Prop where h:byOf P t=some v
class TE (P:Program) (t:Nat) (v:outParam (Nat×Nat)):Prop where h:elOf P t=some v
class TU (P:Program) (t:Nat) (v:outParam TypeDesc):Prop where h:P.underlying t=some v
class TP (P:Program) (t:Nat) (v:outParam (List (Nat×Nat))):Prop where h:kr_ P t=some v
class TF (P:Program) (t i:Nat) (v:outParam (Nat×Nat)):Prop where h:fldOf P t i=some v
class TA (P:Program) (t i:Nat) (v:outParam Bool):Prop where h:i1_ P t i=some v
structure Hid (q:Prop):Prop where h:q
section
variable {P:Program}{ops:Array Oper}{nx n j:Nat}{rest:List Oper}{fr:Fr}{hp:Hp}{K:Fps→Fr→Hp→Prop}{dst:Option Nat}{ty:Nat}{pos:String}{after:Array Edge}
theorem k_load{T:Nat}{x:Operand}(h:AR P ops nx n j (⟨dst,.load T x,ty,pos,after,none⟩::rest) fr hp K):AR P ops nx n j (⟨dst,.load T x,ty,pos,after,none⟩::rest) fr hp K:=h
theorem m3_{T f:Nat}{x:Operand}(h:AR P ops nx n j (⟨dst,.fieldAddr T x f,ty,pos,after,none⟩::rest) fr hp K):AR P ops nx n j (⟨dst,.fieldAddr T x f,ty,pos,after,none⟩::rest) fr hp K:=h
theorem k_bin{b:BinOp}{T yt:Nat}{x y:Operand}(h:AR P ops nx n j (⟨dst,.binOp b T x y yt,ty,pos,after,none⟩::rest) fr hp K):AR P ops nx n j (⟨dst,.binOp b T x y yt,ty,pos,after,none⟩::rest) fr hp K:=h
theorem k_call{c:Call}(h:AR P ops nx n j (⟨dst,.call c,ty,pos,after,none⟩::rest) fr hp K):AR P ops nx n j (⟨dst,.call c,ty,pos,after,none⟩::rest) fr hp K:=h
theorem k_move{x:Operand}(h:AR P ops nx n j (⟨dst,.move x,ty,pos,after,none⟩::rest) fr hp K):AR P ops nx n j (⟨dst,.move x,ty,pos,after,none⟩::rest) fr hp K:=h
theorem k_index{T:Nat}{x y:Operand}(h:AR P ops nx n j (⟨dst,.indexAddr T x y,ty,pos,after,none⟩::rest) fr hp K):AR P ops nx n j (⟨dst,.indexAddr T x y,ty,pos,after,none⟩::rest) fr hp K:=h
theorem k_assign{x:Operand}(h:AR P ops nx n j (⟨dst,.assign x,ty,pos,after,none⟩::rest) fr hp K):AR P ops nx n j (⟨dst,.assign x,ty,pos,after,none⟩::rest) fr hp K:=h
theorem k_store{T:Nat}{x y:Operand}(h:AR P ops nx n j (⟨dst,.store T x y,ty,pos,after,none⟩::rest) fr hp K):AR P ops nx n j (⟨dst,.store T x y,ty,pos,after,none⟩::rest) fr hp K:=h
theorem q5_{x:Operand}{i:Nat}(h:AR P ops nx n j (⟨dst,.extract x i,ty,pos,after,none⟩::rest) fr hp K):AR P ops nx n j (⟨dst,.extract x i,ty,pos,after,none⟩::rest) fr hp K:=h
theorem k_box{T:Nat}{x:Operand}(h:AR P ops nx n j (⟨dst,.box T x,ty,pos,after,none⟩::rest) fr hp K):AR P ops nx n j (⟨dst,.box T x,ty,pos,after,none⟩::rest) fr hp K:=h
theorem k_alloc{T:Nat}(h:AR P ops nx n j (⟨dst,.alloc T,ty,pos,after,none⟩::rest) fr hp K):AR P ops nx n j (⟨dst,.alloc T,ty,pos,after,none⟩::rest) fr hp K:=h
theorem k_conv{S D:Nat}{x:Operand}(h:AR P ops nx n j (⟨dst,.convert S D x,ty,pos,after,none⟩::rest) fr hp K):AR P ops nx n j (⟨dst,.convert S D x,ty,pos,after,none⟩::rest) fr hp K:=h
theorem k_field{T f:Nat}{x:Operand}(h:AR P ops nx n j (⟨dst,.field T x f,ty,pos,after,none⟩::rest) fr hp K):AR P ops nx n j (⟨dst,.field T x f,ty,pos,after,none⟩::rest) fr hp K:=h
theorem k_nilc{x:Operand}(h:AR P ops nx n j (⟨dst,.nilCheck x,ty,pos,after,none⟩::rest) fr hp K):AR P ops nx n j (⟨dst,.nilCheck x,ty,pos,after,none⟩::rest) fr hp K:=h
theorem k_pick{x y z:Operand}(h:AR P ops nx n j (⟨dst,.pick x y z,ty,pos,after,none⟩::rest) fr hp K):AR P ops nx n j (⟨dst,.pick x y z,ty,pos,after,none⟩::rest) fr hp K:=h
theorem k_un{b:UnOp}{T:Nat}{x:Operand}(h:AR P ops nx n j (⟨dst,.unOp b T x,ty,pos,after,none⟩::rest) fr hp K):AR P ops nx n j (⟨dst,.unOp b T x,ty,pos,after,none⟩::rest) fr hp K:=h
theorem k_build{T:Nat}{ps:Array (Nat×Operand)}(h:AR P ops nx n j (⟨dst,.build T ps,ty,pos,after,none⟩::rest) fr hp K):AR P ops nx n j (⟨dst,.build T ps,ty,pos,after,none⟩::rest) fr hp K:=h
theorem k_eql{T yt:Nat}{x y:Operand}(h:AR P ops nx n j (⟨dst,.binOp .eql T x y yt,ty,pos,after,none⟩::rest) fr hp K):AR P ops nx n j (⟨dst,.binOp .eql T x y yt,ty,pos,after,none⟩::rest) fr hp K:=h
theorem k_neq{T yt:Nat}{x y:Operand}(h:AR P ops nx n j (⟨dst,.binOp .neq T x y yt,ty,pos,after,none⟩::rest) fr hp K):AR P ops nx n j (⟨dst,.binOp .neq T x y yt,ty,pos,after,none⟩::rest) fr hp K:=h
theorem k_lss{T yt:Nat}{x y:Operand}(h:AR P ops nx n j (⟨dst,.binOp .lss T x y yt,ty,pos,after,none⟩::rest) fr hp K):AR P ops nx n j (⟨dst,.binOp .lss T x y yt,ty,pos,after,none⟩::rest) fr hp K:=h
theorem k_leq{T yt:Nat}{x y:Operand}(h:AR P ops nx n j (⟨dst,.binOp .leq T x y yt,ty,pos,after,none⟩::rest) fr hp K):AR P ops nx n j (⟨dst,.binOp .leq T x y yt,ty,pos,after,none⟩::rest) fr hp K:=h
theorem k_gtr{T yt:Nat}{x y:Operand}(h:AR P ops nx n j (⟨dst,.binOp .gtr T x y yt,ty,pos,after,none⟩::rest) fr hp K):AR P ops nx n j (⟨dst,.binOp .gtr T x y yt,ty,pos,after,none⟩::rest) fr hp K:=h
theorem k_geq{T yt:Nat}{x y:Operand}(h:AR P ops nx n j (⟨dst,.binOp .geq T x y yt,ty,pos,after,none⟩::rest) fr hp K):AR P ops nx n j (⟨dst,.binOp .geq T x y yt,ty,pos,after,none⟩::rest) fr hp K:=h
theorem k_add{T yt:Nat}{x y:Operand}(h:AR P ops nx n j (⟨dst,.binOp .add T x y yt,ty,pos,after,none⟩::rest) fr hp K):AR P ops nx n j (⟨dst,.binOp .add T x y yt,ty,pos,after,none⟩::rest) fr hp K:=h
theorem k_sub{T yt:Nat}{x y:Operand}(h:AR P ops nx n j (⟨dst,.binOp .sub T x y yt,ty,pos,after,none⟩::rest) fr hp K):AR P ops nx n j (⟨dst,.binOp .sub T x y yt,ty,pos,after,none⟩::rest) fr hp K:=h
theorem k_mul{T yt:Nat}{x y:Operand}(h:AR P ops nx n j (⟨dst,.binOp .mul T x y yt,ty,pos,after,none⟩::rest) fr hp K):AR P ops nx n j (⟨dst,.binOp .mul T x y yt,ty,pos,after,none⟩::rest) fr hp K:=h
theorem k_quo{T yt:Nat}{x y:Operand}(h:AR P ops nx n j (⟨dst,.binOp .quo T x y yt,ty,pos,after,none⟩::rest) fr hp K):AR P ops nx n j (⟨dst,.binOp .quo T x y yt,ty,pos,after,none⟩::rest) fr hp K:=h
theorem k_rem{T yt:Nat}{x y:Operand}(h:AR P ops nx n j (⟨dst,.binOp .rem T x y yt,ty,pos,after,none⟩::rest) fr hp K):AR P ops nx n j (⟨dst,.binOp .rem T x y yt,ty,pos,after,none⟩::rest) fr hp K:=h
theorem k_len{aa:Array Operand}{tt:Array Nat}(h:AR P ops nx n j (⟨dst,.call ⟨.builtin .len,aa,tt⟩,ty,pos,after,none⟩::rest) fr hp K):AR P ops nx n j (⟨dst,.call ⟨.builtin .len,aa,tt⟩,ty,pos,after,none⟩::rest) fr hp K:=h
theorem k_append{aa:Array Operand}{tt:Array Nat}(h:AR P ops nx n j (⟨dst,.call ⟨.builtin .append,aa,tt⟩,ty,pos,after,none⟩::rest) fr hp K):AR P ops nx n j (⟨dst,.call ⟨.builtin .append,aa,tt⟩,ty,pos,after,none⟩::rest) fr hp K:=h
end
section
variable {P:Program}{ops:Array Oper}{nx n j:Nat}{rest:List Oper}{fr:Fr}{hp:Hp}{K:Fps→Fr→Hp→Prop}{dst:Option Nat}{op:Op}{ty:Nat}{pos:String}{after:Array Edge}{g t d:Nat}{want b:Bool}
theorem g_y(ht:(ops[g]?).bind (·.dst)=some t)(hx:evF (look fr) (.tmp t)=some (.v (.bool want)))(h:AR P ops nx n j (⟨dst,op,ty,pos,after,none⟩::rest) fr hp K):AR P ops nx n j (⟨dst,op,ty,pos,after,some (g,want)⟩::rest) fr hp K:=by
 obtain⟨us,st',⟨u,rd,us',he,⟨h1,h2⟩,hd,hr⟩,hk⟩:=h
 exact⟨us,st',⟨u,rd,us',he,⟨h1,t,.bool want,ht,hx,.inl ⟨rfl,h2⟩⟩,hd,hr⟩,hk⟩
theorem g_n(ht:(ops[g]?).bind (·.dst)=some t)(hx:evF (look fr) (.tmp t)=some (.v (.bool b)))(hb:(b==want)=false)(hnd:bj_ op=true)(hd:Nat.blt d n=true)(h:AR P ops nx n (j+1) rest ((d,.v undef)::fr) hp fun fps f h=>K (([],[])::fps) f h):AR P ops nx n j (⟨some d,op,ty,pos,after,some (g,want)⟩::rest) fr hp K:=
 br_ ht hx (gn (by cases b <;> cases want <;> first|rfl|exact absurd hb (by decide))) hnd hd h
theorem g_nn(ht:(ops[g]?).bind (·.dst)=some t)(hx:evF (look fr) (.tmp t)=some (.v (.bool b)))(hb:(b==want)=false)(hnd:bj_ op=true)(h:AR P ops nx n (j+1) rest fr hp fun fps f h=>K (([],[])::fps) f h):AR P ops nx n j (⟨none,op,ty,pos,after,some (g,want)⟩::rest) fr hp K:=
 AR.opNn ht hx (gn (by cases b <;> cases want <;> first|rfl|exact absurd hb (by decide))) hnd h
theorem vT{P:Program}{p:Bool}{f:Sem Value}(h:∀w,f.run P w= .ok (.bool p) w)(e:p=true):∀w,f.run P w= .ok (.bool true) w:=e▸h
theorem vF{P:Program}{p:Bool}{f:Sem Value}(h:∀w,f.run P w= .ok (.bool p) w)(e:p=false):∀w,f.run P w= .ok (.bool false) w:=e▸h
end
theorem a_1 {p q:Prop} (h:q) (f:Hid q→p:=by
 intro h0
 first
 |(apply k_load;first|exact o_0 (.load_l1 rfl rfl rfl TG.h rfl) h0.h|exact o_0 (.load_l rfl rfl rfl TG.h TS.h (nle rfl)) h0.h|exact o_0 (.load_a1 rfl rfl TG.h rfl) h0.h|exact o_0 (.load_a rfl rfl TG.h TS.h (nle rfl)) h0.h|exact o_0 (.load_l rfl rfl (by assumption) TG.h TS.h (by exact nle rfl)) h0.h|exact o_0 (.load_l1 rfl rfl (by assumption) TG.h (by exact rfl)) h0.h|exact o_0 (.load_a rfl (by assumption) TG.h TS.h (by exact nle rfl)) h0.h|exact o_0 (.load_a1 rfl (by assumption) TG.h (by exact rfl)) h0.h)
 |(apply k_move;exact o_0 (.move rfl) h0.h)
 |(apply m3_;first|exact o_0 (.fieldAddr_l rfl TF.h (by decide)) h0.h|exact o_0 (.fieldAddr_a rfl TF.h (by decide)) h0.h)
 |(apply k_bin;first|(apply k_eql;first|exact o_0 (.bin rfl rfl a9_) h0.h|exact o_0 (.bin rfl rfl (binB_eql TU.h)) h0.h|exact o_0 (.bin rfl rfl o3_) h0.h|exact o_0 (.nilq_v rfl rfl TE.h) h0.h|exact o_0 (.nilq_arr rfl (by assumption) rfl TE.h) h0.h)|(apply k_neq;first|exact o_0 (.bin rfl rfl ba_) h0.h|exact o_0 (.bin rfl rfl (o5_ TU.h)) h0.h|exact o_0 (.bin rfl rfl o1_) h0.h)|(apply k_lss;exact o_0 (.bin rfl rfl do_) h0.h)|(apply k_leq;exact o_0 (.bin rfl rfl cW_) h0.h)|(apply k_gtr;exact o_0 (.bin rfl rfl dG_) h0.h)|(apply k_geq;exact o_0 (.bin rfl rfl cN_) h0.h)|(apply k_add;first|exact o_0 (.bin rfl rfl (gQ_ (by omega))) h0.h|exact o_0 (.bin rfl rfl (bU64_add (by omega))) h0.h|exact o_0 (.bin rfl rfl (bU32_add (by omega))) h0.h|exact o_0 (.bin rfl rfl (bU8_add (by omega))) h0.h)|(apply k_sub;first|exact o_0 (.bin rfl rfl (gP_ (by omega))) h0.h|exact o_0 (.bin rfl rfl (bU64_sub (by omega))) h0.h|exact o_0 (.bin rfl rfl (bU32_sub (by omega))) h0.h|exact o_0 (.bin rfl rfl (bU8_sub (by omega))) h0.h)|(apply k_mul;first|exact o_0 (.bin rfl rfl (ia_ (by omega))) h0.h|exact o_0 (.bin rfl rfl (bU64_mul (by omega))) h0.h)|(apply k_quo;first|exact o_0 (.bin rfl rfl (bI64_quo (by omega))) h0.h|exact o_0 (.bin rfl rfl (o7_ (by omega))) h0.h|exact o_0 (.bin rfl rfl (o8_ (by omega))) h0.h)|(apply k_rem;first|exact o_0 (.bin rfl rfl (o9_ (by omega))) h0.h|exact o_0 (.bin rfl rfl (bU64_rem (by omega))) h0.h|exact o_0 (.bin rfl rfl (bU32_rem (by omega))) h0.h|exact o_0 (.bin rfl rfl (bU8_rem (by omega))) h0.h))
 |(apply k_call;first|(apply k_len;first|exact o_0 (.lenD rfl rfl rfl rfl TE.h) h0.h|exact o_0 (.lenI rfl rfl rfl rfl TE.h) h0.h|exact o_0 (.lenP rfl rfl rfl rfl TE.h) h0.h|exact o_0 (.lenC rfl rfl rfl rfl TE.h) h0.h|exact o_0 (.lenR rfl rfl rfl rfl TE.h) h0.h|exact o_0 (.len rfl rfl rfl rfl rfl TE.h) h0.h)|(apply k_append;first|exact o_1 (.append_e rfl rfl rfl TE.h rfl rfl rfl (.lsl rfl (nle rfl)) (by first|assumption|(simp;done)) TZ.h rfl TB.h (by first|rfl|assumption|(simp;done)|(simp;omega)|omega) (by first|(simp[maxLen];done)|(simp[maxLen];omega))) h0.h|exact o_2 (.append_l rfl rfl rfl TE.h rfl rfl rfl rfl rfl (by first|rfl|assumption|(simp;done)|(simp;omega)|omega) (by first|exact c3_ _|exact c2_ _|exact cO_ _|exact c5_ _|exact cS_ _|rfl|simp) (by first|rfl|exact c3_ _|exact c2_ _|exact cO_ _|exact c5_ _|exact cS_ _|simp) rfl (.lsl rfl (nle rfl)) TZ.h rfl TB.h (by first|rfl|assumption|(simp;done)|(simp;omega)|omega) (by first|(simp[maxLen];done)|(simp[maxLen];omega))) h0.h)|exact o_0 (.builtinV (vs:=[_,_]) rfl rfl bmin) h0.h|exact o_0 (.builtinV (vs:=[_,_]) rfl rfl bmax) h0.h)
 |(apply k_index;first|exact o_0 (.index_l rfl rfl (by omega) (by omega) TE.h) h0.h|exact o_0 (.index_a rfl rfl (by omega) rfl rfl TE.h) h0.h|exact o_0 (.index_a rfl rfl (by omega) (by assumption) (by rfl) TE.h) h0.h)
 |(apply k_assign;exact o_0 (.assign rfl) h0.h)
 |(apply k_store;exact o_1n (.store rfl rfl rfl rfl rfl rfl TS.h (nle rfl)) h0.h)
 |(apply q5_;exact o_0 (.extract rfl rfl) h0.h)
 |(apply k_box;exact o_1 (.box rfl rfl) h0.h)
 |(apply k_alloc;exact o_1 (.alloc TZ.h) h0.h)
 |(apply k_conv;first|exact o_0 (.conv rfl (cI64 (by omega) TU.h TU.h)) h0.h|exact o_0 (.conv rfl (cU64 (by omega) TU.h TU.h)) h0.h|exact o_0 (.conv rfl (cU32 (by omega) TU.h TU.h)) h0.h|exact o_0 (.conv rfl (cU8 (by omega) TU.h TU.h)) h0.h)
 |(apply k_field;first|exact o_0 (.field1 rfl TF.h TA.h rfl) h0.h|exact o_0 (.field rfl TF.h TA.h (nle rfl)) h0.h)
 |(apply k_nilc;exact o_0 (.nilCheck rfl rfl) h0.h)
 |(apply k_pick;first|exact o_0 (.pick rfl (fun _=>rfl) (fun _=>rfl)) h0.h|exact o_0 (.pick rfl (fun _=>rfl) (fun h=>absurd h (by decide))) h0.h|exact o_0 (.pick rfl (fun h=>absurd h (by decide)) (fun _=>rfl)) h0.h)
 |(apply k_un;first|exact o_0 (.un rfl jw_) h0.h|exact o_0 (.un rfl (uI64_neg (by omega))) h0.h)
 |(apply k_build;exact o_0 (.build TZ.h TP.h rfl rfl) h0.h)
 |exact o_0 (.makeFunc rfl rfl) h0.h
 |exact o_1 (.buildSlice TE.h TZ.h rfl (by decide) rfl rfl rfl (by first|(simp;done)|(simp[bB_,ofV];done)|rfl)) h0.h
 |exact o_1 (.makeSlice rfl rfl TE.h TZ.h rfl TB.h (by first|omega|(simp;done)|(simp;omega)) (by first|omega|(simp;done)|(simp;omega)) (by unfold maxLen;first|omega|(simp;done)|(simp;omega))) h0.h
 |exact o_0 (.lookup rfl rfl TU.h TU.h rfl rfl rfl) h0.h
 |exact g_y rfl rfl h0.h
 |exact g_n rfl rfl rfl rfl rfl h0.h
 |exact g_nn rfl rfl rfl rfl h0.h):p:=f ⟨h⟩
theorem a_2{p q:Prop}(h:q)(f:Hid q→p:=by intro h0;(iterate 2 (refine a_1 ?_));exact h0.h):p:=f ⟨h⟩
theorem a_3{p q:Prop}(h:q)(f:Hid q→p:=by intro h0;(iterate 3 (refine a_1 ?_));exact h0.h):p:=f ⟨h⟩
theorem a_4{p q:Prop}(h:q)(f:Hid q→p:=by intro h0;(iterate 4 (refine a_1 ?_));exact h0.h):p:=f ⟨h⟩
theorem a_5{p q:Prop}(h:q)(f:Hid q→p:=by intro h0;(iterate 5 (refine a_1 ?_));exact h0.h):p:=f ⟨h⟩
theorem a_6{p q:Prop}(h:q)(f:Hid q→p:=by intro h0;(iterate 6 (refine a_1 ?_));exact h0.h):p:=f ⟨h⟩
theorem a_7{p q:Prop}(h:q)(f:Hid q→p:=by intro h0;(iterate 7 (refine a_1 ?_));exact h0.h):p:=f ⟨h⟩
theorem a_8{p q:Prop}(h:q)(f:Hid q→p:=by intro h0;(iterate 8 (refine a_1 ?_));exact h0.h):p:=f ⟨h⟩
theorem a_z{p q:Prop}(h:q)(f:Hid q→p:=by intro h0;(repeat (refine a_1 ?_));exact an_ h0.h):p:=f ⟨h⟩
theorem c_s{A:Prop}(c:A){p q:Prop}(h:q)(f:A→Hid q→p:=by intro c0 h0;(repeat (refine a_1 ?_));first|exact aw_ (.call rfl rfl rfl c0) rfl rfl h0.h|exact AR.op0n (.call rfl rfl rfl c0) rfl h0.h):p:=f c ⟨h⟩
section
variable {P:Program}{ops:Array Oper}{nx n:Nat}{fr:Fr}{hp:Hp}
theorem r_z{ρ:Option Nat}{Q:Exit→AState→Prop}{id:Nat}{y:Code}(m:Nat){q:Prop}(h:q)(f:Hid q→AR P ops nx n 0 ops.toList fr hp fun _ f h=>thenA (AWp ρ P y Q) Q .normal ⟨f,h,nx+m,n⟩:=by intro h0;(repeat (refine a_1 ?_));exact an_ h0.h)(hsz:ops.size=m:=by exact rfl):AWp ρ P (.seq (.region id ops false) y) Q ⟨fr,hp,nx,n⟩:=s_r m (f ⟨h⟩) hsz
theorem r_c{A:Prop}(m:Nat)(c:A){ρ:Option Nat}{Q:Exit→AState→Prop}{id:Nat}{y:Code}{q:Prop}(h:q)(f:A→Hid q→AR P ops nx n 0 ops.toList fr hp fun _ f h=>thenA (AWp ρ P y Q) Q .normal ⟨f,h,nx+m,n⟩:=by intro c0 h0;(repeat (refine a_1 ?_));first|exact aw_ (.call rfl rfl rfl c0) rfl rfl h0.h|exact AR.op0n (.call rfl rfl rfl c0) rfl h0.h)(hsz:ops.size=m:=by exact rfl):AWp ρ P (.seq (.region id ops false) y) Q ⟨fr,hp,nx,n⟩:=s_r m (f c ⟨h⟩) hsz
end
section
variable {P:Program}{ops:Array Oper}{nx n j:Nat}{rest:List Oper}{fr:Fr}{hp:Hp}{K:Fps→Fr→Hp→Prop}{dst:Option Nat}{op:Op}{ty:Nat}{pos:String}{after:Array Edge}{g t d:Nat}{want b:Bool}
theorem g_u(ht:(ops[g]?).bind (·.dst)=some t)(hx:evF (look fr) (.tmp t)=some (.v undef))(hnd:bj_ op=true)(hd:Nat.blt d n=true)(h:AR P ops nx n (j+1) rest ((d,.v undef)::fr) hp fun fps f h=>K (([],[])::fps) f h):AR P ops nx n j (⟨some d,op,ty,pos,after,some (g,want)⟩::rest) fr hp K:=
 br_ ht hx nofun hnd hd h
end
theorem w_1 {p q:Prop} (h:q) (f:Hid q→p:=by
 intro h0
 first
 |(apply k_lss;first|exact o_0 (.bin rfl rfl (vT do_ (decide_eq_true (by omega)))) h0.h|exact o_0 (.bin rfl rfl (vF do_ (decide_eq_false (by omega)))) h0.h)
 |(apply k_gtr;first|exact o_0 (.bin rfl rfl (vT dG_ (decide_eq_true (by omega)))) h0.h|exact o_0 (.bin rfl rfl (vF dG_ (decide_eq_false (by omega)))) h0.h)
 |(apply k_leq;first|exact o_0 (.bin rfl rfl (vT cW_ (decide_eq_true (by omega)))) h0.h|exact o_0 (.bin rfl rfl (vF cW_ (decide_eq_false (by omega)))) h0.h)
 |(apply k_geq;first|exact o_0 (.bin rfl rfl (vT cN_ (decide_eq_true (by omega)))) h0.h|exact o_0 (.bin rfl rfl (vF cN_ (decide_eq_false (by omega)))) h0.h)
 |(apply k_eql;first|exact o_0 (.bin rfl rfl (vT a9_ (decide_eq_true (by omega)))) h0.h|exact o_0 (.bin rfl rfl (vF a9_ (decide_eq_false (by omega)))) h0.h)):p:=f ⟨h⟩
theorem m_1 {p q:Prop} (h:q) (f:Hid q→p:=by
 intro h0
 first
 |(apply k_bin;exact w_1 h0.h)
 |exact g_n rfl rfl rfl rfl rfl h0.h
 |exact g_nn rfl rfl rfl rfl h0.h
 |exact g_u rfl rfl rfl rfl h0.h
 |(refine g_y rfl rfl ?_;first|(apply k_bin;exact w_1 h0.h)|exact a_1 h0.h)
 |exact a_1 h0.h):p:=f ⟨h⟩
theorem d_2{p q:Prop}(h:q)(f:Hid q→p:=by intro h0;(iterate 2 (refine m_1 ?_));exact h0.h):p:=f ⟨h⟩
theorem d_3{p q:Prop}(h:q)(f:Hid q→p:=by intro h0;(iterate 3 (refine m_1 ?_));exact h0.h):p:=f ⟨h⟩
theorem d_4{p q:Prop}(h:q)(f:Hid q→p:=by intro h0;(iterate 4 (refine m_1 ?_));exact h0.h):p:=f ⟨h⟩
theorem d_5{p q:Prop}(h:q)(f:Hid q→p:=by intro h0;(iterate 5 (refine m_1 ?_));exact h0.h):p:=f ⟨h⟩
theorem d_6{p q:Prop}(h:q)(f:Hid q→p:=by intro h0;(iterate 6 (refine m_1 ?_));exact h0.h):p:=f ⟨h⟩
theorem d_7{p q:Prop}(h:q)(f:Hid q→p:=by intro h0;(iterate 7 (refine m_1 ?_));exact h0.h):p:=f ⟨h⟩
theorem d_8{p q:Prop}(h:q)(f:Hid q→p:=by intro h0;(iterate 8 (refine m_1 ?_));exact h0.h):p:=f ⟨h⟩
theorem d_z{p q:Prop}(h:q)(f:Hid q→p:=by intro h0;(repeat (refine m_1 ?_));exact an_ h0.h):p:=f ⟨h⟩
section
variable {P:Program}{ops:Array Oper}{nx n:Nat}{fr:Fr}{hp:Hp}
theorem q_z{ρ:Option Nat}{Q:Exit→AState→Prop}{id:Nat}{y:Code}(m:Nat){q:Prop}(h:q)(f:Hid q→AR P ops nx n 0 ops.toList fr hp fun _ f h=>thenA (AWp ρ P y Q) Q .normal ⟨f,h,nx+m,n⟩:=by intro h0;(repeat (refine m_1 ?_));exact an_ h0.h)(hsz:ops.size=m:=by exact rfl):AWp ρ P (.seq (.region id ops false) y) Q ⟨fr,hp,nx,n⟩:=s_r m (f ⟨h⟩) hsz
end
theorem d_t{p:Prop}(h:p:=by first|rfl|assumption|exact decide_eq_true (by omega)|(simp;done)|(simp;omega)):p:=h
theorem d_f{p:Prop}(h:p:=by first|rfl|assumption|exact decide_eq_false (by omega)|(simp;done)|(simp;omega)):p:=h
theorem d_n{p:Prop}(h:p:=by first|exact nle rfl|(simp;done)|(simp;omega)):p:=h
theorem d_o{p:Prop}(h:p:=by first|rfl|assumption|(simp;done)|(simp;omega)|omega):p:=h
theorem cT{ρ:Option Nat}{P:Program}{Q:Exit→AState→Prop}{st:AState}{c:Operand}{x y:Code}(h1:AWp ρ P x Q st)(hc:st.ev c=some (.v (.bool true)):=by exact rfl):AWp ρ P (.cond c x y) Q st:=am_ hc (fun _=>h1) (fun e=>by cases e)
theorem cF{ρ:Option Nat}{P:Program}{Q:Exit→AState→Prop}{st:AState}{c:Operand}{x y:Code}(h1:AWp ρ P y Q st)(hc:st.ev c=some (.v (.bool false)):=by exact rfl):AWp ρ P (.cond c x y) Q st:=am_ hc (fun e=>by cases e) (fun _=>h1)
theorem au_d{p:Prop}(h:p:=by first|exact au_c|(refine Cv.loE hs ?_ (ad_ _);assumption)|(refine Cv.boxp hs rfl (aM_ rfl) rfl ?_;assumption)):p:=h
theorem au_g{p:Prop}(h:p:=by(first|exact au_e|(refine aH_ hs ?_;first|assumption|exact aI_ _|exact fn_ _|exact aF_ _|exact bN_ _)|(refine aD_ hs ?_ ?_;assumption;first|assumption|exact a3_ _|exact aI_ _|exact fn_ _|exact aF_ _|exact bN_ _)|exact ae_ (CvL.clo hs (by first|assumption|exact aO_ _|exact bg_ _))|(refine ae_ ?_;repeat' (first|exact ao_|refine af_ ?_ ?_)))<;> exact au_d):p:=h
theorem au_i{p:Prop}(h:p:=by repeat' (first|exact aA_|refine au_ rfl ?_ ?_|exact au_d)):p:=h
theorem au_j{p:Prop}(h:p:=by repeat' (first|exact ap_|refine al_ rfl rfl rfl rfl ?_ ?_|exact au_g)):p:=h
theorem s_f {fr fr':Fr} {hp hp':Hp} {nx nx' n:Nat} (l:List (Nat×Nat)) (hS:ShrL (rnm fr l nx') (lookB hp) hp':=by exact au_r)
    (hF:Shr (rnm fr l nx') (lookB hp) (lookB hp')→CvF (rnm fr l nx') (lookB hp) (lookB hp') fr fr':=by exact fun hs=>au_i)
    (hH:Shr (rnm fr l nx') (lookB hp) (lookB hp')→CvH (rnm fr l nx') (lookB hp) (lookB hp') hp':=by exact fun hs=>au_j)
    (hk:Nat.blt 0 nx'=true:=by exact rfl) (h0:(rnm fr l nx').s 0=0:=by exact rfl) (hinj:injL (rnm fr l nx') (hp'.map (·.1))=true:=by exact rfl):SEnt ⟨fr,hp,nx,n⟩ ⟨fr',hp',nx',n⟩:=
 ar_ l hk h0 hinj hS hF hH
theorem s_t {fr fr':Fr} {hp hp':Hp} {nx nx' n:Nat} (l:List (Nat×Nat)) (hS:ShrL (rnm fr l nx') (lookB hp) hp':=by exact au_r)
    (hF:Shr (rnm fr l nx') (lookB hp) (lookB hp')→CvF (rnm fr l nx') (lookB hp) (lookB hp') fr fr':=by exact fun hs=>au_i)
    (hH:Shr (rnm fr l nx') (lookB hp) (lookB hp')→CvH (rnm fr l nx') (lookB hp) (lookB hp') hp':=by exact fun hs=>au_j)
    (hk:Nat.blt 0 nx'=true:=by exact rfl) (h0:(rnm fr l nx').s 0=0:=by exact rfl) (hinj:injL (rnm fr l nx') (hp'.map (·.1))=true:=by exact rfl):SEntT ⟨fr,hp,nx,n⟩ ⟨fr',hp',nx',n⟩:=
 SEntT.to l hk h0 hinj hS hF hH
theorem f_n{P:Program}{f:Nat}{fn:Func}{c:Code}{args:List AV}{r:AV}{rs:List ResultVar}{m:Nat}{fr:Fr}(hf:P.funcs[f]?=some fn)(hcl:∀a∈args,Closed a)(h:AWp none P c (Fin P rs r) ⟨fr,[],1,m⟩)(hb:fn.body=some c:=by exact rfl)(hrs:fn.results.toList=rs:=by exact rfl)(hm:fn.ntmps=m:=by exact rfl)(hn:Nat.ble args.length m=true:=by exact rfl)(hfr:argFr 0 args=fr:=by exact rfl)(hname:(fn.name== "runtime.NumGoroutine")=false:=by kernel_rfl):FSpec P f args r:=jq_ hf hb hname hrs hm hn hcl hfr h
section
variable {P:Program}{ops:Array Oper}{nx n j:Nat}{rest:List Oper}{fr:Fr}{hp:Hp}{K:Fps→Fr→Hp→Prop}{d:Nat}{op:Op}{ty:Nat}{pos:String}{after:Array Edge}{a:AV}{rd:List Nat}{g t:Nat}{b want:Bool}{x:Value}
theorem n_k{q s:Prop}(h:s)(h0:q:=by kernel_rfl):q∧s:=⟨h0,h⟩
def gv(ops:Array Oper)(g:Nat)(fr:Fr):Option Bool:=((ops[g]?).bind (·.dst)).bind fun t=>(evF (look fr) (.tmp t)).bind fun a=>match a with| .v (.bool b)=>some b|_=>none
theorem gv_of(h:gv ops g fr=some b):∃t,(ops[g]?).bind (·.dst)=some t∧evF (look fr) (.tmp t)=some (.v (.bool b)):=by
 unfold gv at h
 obtain⟨t,h1,h2⟩:=Option.bind_eq_some_iff.1 h
 obtain⟨a,h3,h4⟩:=Option.bind_eq_some_iff.1 h2
 refine⟨t,h1,h3.trans ?_⟩
 split at h4
 cases h4;rfl
 cases h4
theorem n_g(hx:gv ops g fr=some b)(hb:b=!want)(h:AR P ops nx n (j+1) rest ((d,.v undef)::fr) hp fun fps f h=>K (([],[])::fps) f h)(hnd:bj_ op=true:=by exact rfl)(hd:Nat.blt d n=true:=by exact rfl):AR P ops nx n j (⟨some d,op,ty,pos,after,some (g,want)⟩::rest) fr hp K:=by
 obtain⟨t,ht,hx⟩:=gv_of hx
 exact br_ ht hx (gn hb) hnd hd h
theorem y_g(hx:gv ops g fr=some b)(hb:b=want)(hs:AEval P (nx+j) (evF (look fr)) (lookB hp) op ⟨a,[]⟩ rd)(h:AR P ops nx n (j+1) rest ((d,a)::fr) hp fun fps f h=>K (([],rd)::fps) f h)(hnd:bj_ op=true:=by exact rfl)(hd:Nat.blt d n=true:=by exact rfl):AR P ops nx n j (⟨some d,op,ty,pos,after,some (g,want)⟩::rest) fr hp K:=by
 obtain⟨t,ht,hx⟩:=gv_of hx
 exact ay_ ht hx (gy hb) hs hnd hd h
theorem i_x{T E:Nat}{sz:Nat}{xx ix:Operand}{es:List (List AV)}{cs:List AV}{kd:IntKind}{z:Int}[TE P T (E,sz)](hg:es[z.toNat]?=some cs)(h:AR P ops nx n (j+1) rest ((d,.aptr es z.toNat 0)::fr) hp fun fps f h=>K (([],[])::fps) f h)(h1:evF (look fr) xx=some (.arr es):=by exact rfl)(h2:evF (look fr) ix=some (.v (.int kd z)):=by exact rfl)(h3:0≤z:=by omega)(h4:cs.length=sz:=by exact rfl)(hd:Nat.blt d n=true:=by exact rfl):AR P ops nx n j (⟨some d,.indexAddr T xx ix,ty,pos,after,none⟩::rest) fr hp K:=aw_ (.index_a h1 h2 h3 hg h4 TE.h) rfl hd h
theorem l_x{T i o k:Nat}{xx:Operand}{es:List (List AV)}{cs:List AV}[TG P T true][TS P T k](hg:es[i]?=some cs)(h:AR P ops nx n (j+1) rest ((d,.agg ((cs.drop o).take k))::fr) hp fun fps f h=>K (([],[])::fps) f h)(h1:evF (look fr) xx=some (.aptr es i o):=by exact rfl)(h2:Nat.ble (o+k) cs.length=true:=by exact rfl)(hd:Nat.blt d n=true:=by exact rfl):AR P ops nx n j (⟨some d,.load T xx,ty,pos,after,none⟩::rest) fr hp K:=aw_ (.load_a h1 hg TG.h TS.h (Nat.le_of_ble_eq_true h2)) rfl hd h
theorem l_1{T i o:Nat}{xx:Operand}{es:List (List AV)}{cs:List AV}{c:AV}[TG P T false](hg:es[i]?=some cs)(h:AR P ops nx n (j+1) rest ((d,c)::fr) hp fun fps f h=>K (([],[])::fps) f h)(h1:evF (look fr) xx=some (.aptr es i o):=by exact rfl)(h2:cs[o]?=some c:=by exact rfl)(hd:Nat.blt d n=true:=by exact rfl):AR P ops nx n j (⟨some d,.load T xx,ty,pos,after,none⟩::rest) fr hp K:=aw_ (.load_a1 h1 hg TG.h h2) rfl hd h
theorem r_m{ρ:Option Nat}{Q:Exit→AState→Prop}{id:Nat}(m:Nat)(h:AR P ops nx n 0 ops.toList fr hp fun _ f h=>Q .normal ⟨f,h,nx+m,n⟩)(hsz:ops.size=m:=by exact rfl):AWp ρ P (.region id ops false) Q ⟨fr,hp,nx,n⟩:=sy_ hsz h
theorem r_d{ρ:Option Nat}{Q:Exit→AState→Prop}{id:Nat}(hm:P.follows .mixedOrders=true)(m:Nat)(h:AR P ops nx n 0 ops.toList fr hp fun fps f h=>okReg ops fps=true∧Q .normal ⟨f,h,nx+m,n⟩)(hsz:ops.size=m:=by exact rfl):AWp ρ P (.region id ops true) Q ⟨fr,hp,nx,n⟩:=AWp.regD hm hsz h
theorem c_e{T i e o k:Nat}{B:ABlk}{cs:List AV}{r:AV}[TG P T true][TS P T k](hc:Closed r)(h:look fr t=some (.lptr i e o):=by exact rfl)(hb:cellF (lookB hp) i=some B:=by exact rfl)(he:B.es[e]?=some cs:=by exact rfl)(hl:Nat.ble (o+k) cs.length=true:=by exact rfl)(h2:AV.agg ((cs.drop o).take k)=r:=by exact rfl):Fin P [.cell t T] r .ret ⟨fr,hp,nx,n⟩:=bY_ h hb he TG.h TS.h (Nat.le_of_ble_eq_true hl) h2 hc
theorem t_e{r0 r:AV}(hc:Closed r)(h:look fr t=some r0:=by exact rfl)(e:r0=r:=by exact rfl):Fin P [.tmp t] r .ret ⟨fr,hp,nx,n⟩:=aR_ h e hc
end

section
variable {P:Program}{l N:Nat}{T:Nat→Option (List AV)}{E:GEnv P l T N}
def GLs(E:GEnv P l T N)(ops:Array Oper)(Q:Exit→Nat→Bool→AState→Prop)(tail:List Oper)(j nx n k:Nat)(go:Bool)(fr:Fr)(hp:Hp):Prop:=
 ∀(a:Act) (w:World) (M G:Nat→Prop) (hj:E.J k go M G w),FRel M (gbase w G (E.gk hj)) (look fr) (lookB hp) (fun i=>nx+j≤i) n a w→
  wpListIn (FR none) 0 P ops (fun e a' w'=> ∃k' go' st',GRel E k' go' st' a' w'∧Q e k' go' st') tail a w
theorem GWp.regL{ops:Array Oper}{id k nx n:Nat}{go:Bool}{fr:Fr}{hp:Hp}{Q:Exit→Nat→Bool→AState→Prop}(h:GLs E ops Q ops.toList 0 nx n k go fr hp):GWp E (.region id ops false) Q k go ⟨fr,hp,nx,n⟩:=by
 rintro a w ⟨M,G,hj,hr⟩
 exact wpIn_region_list (h a w M G hj (FRel.free hr fun i hi=>by show nx≤i;simpa using hi))
theorem GLs.fin {ops:Array Oper} {tail:List Oper} {j k nx n n1:Nat} {go:Bool} {fr:Fr} {hp:Hp} {Q:Exit→Nat→Bool→AState→Prop} (hsz:j+tail.length=n1)
    (h:AR P ops nx n j tail fr hp fun _ f' h'=>Q .normal k go ⟨f',h',nx+n1,n⟩):GLs E ops Q tail j nx n k go fr hp:=by
 intro a w M G hj hr
 obtain⟨us,st3,hrun,hq⟩:=h
 have hn3:=eB_ _ j _ _ _ hrun
 simp only at hn3
 have happ:=gu_ (P:=P) (ops:=ops) (ρ:=none) (M0:=M) (w0:=gbase w G (E.gk hj)) (nx:=nx) (Q:=fun e a' w'=> ∃k' go' st',GRel E k' go' st' a' w'∧Q e k' go' st') [] tail j ⟨fr,hp,nx,n⟩ st3 us a w hrun hr fun a5 w5 hr5=>?_
 rw[List.append_nil] at happ;exact happ
 refine⟨k,go,⟨st3.fr,st3.hp,nx+n1,n⟩,GRel.go_on hj ?_,hq⟩
 rw[hn3] at hr5
 refine hr5.free fun i (hi:nx+n1≤i)=>?_
 omega
theorem GLs.yield {ops:Array Oper} {tail:List Oper} {j k nx n nx2 d:Nat} {fr fr2:Fr} {hp hp2:Hp} {Q:Exit→Nat→Bool→AState→Prop} (m:Nat) {o:Oper} (ho:tail[m]?=some o) {cc:Call} {f:Operand} {as:List AV} (hop:o.op= .call cc) (hd:o.dst=some d) (hf:cc.callee= .value f)
    (hg:o.guard=none∨∃g t,o.guard=some (g,true)∧ops[g]?.bind (·.dst)=some t∧evF (look fr2) (.tmp t)=some (.v (.bool true)))
    (h:AR P ops nx n j (tail.take m) fr hp fun _ f1 h1=>SEntT ⟨f1,h1,nx+(j+m),n⟩ ⟨fr2,hp2,nx2,n⟩) (hdn:Nat.blt d n=true)
    (hev:evF (look fr2) f=some (.v (.func (.yield l) #[] #[]))) (has:evs (evF (look fr2)) cc.args.toList=some as) (hT:T k=some (as.map coe)) (hcl:∀a∈as.map coe,Closed a)
    (h3:∀go,GLs E ops Q (tail.drop (m+1)) (j+m+1) nx2 n (k+1) go ((d,.v (.bool go))::fr2) hp2):GLs E ops Q tail j nx n k true fr hp:=by
 have hjl:m< tail.length:=(List.getElem?_eq_some_iff.1 ho).1
 have hops:tail=tail.take m++o::tail.drop (m+1):=by
  rw[←(List.getElem?_eq_some_iff.1 ho).2,←List.drop_eq_getElem_cons hjl,List.take_append_drop]
 intro a w M G hj hr
 rw[hops]
 obtain⟨us,st1,hrun,hent⟩:=h
 have hn1:=eB_ _ j _ _ _ hrun
 simp only at hn1
 refine gu_ (M0:=M) (w0:=gbase w G (E.gk hj)) (ρ:=none) _ _ j ⟨fr,hp,nx,n⟩ st1 us a w hrun hr fun a1 w1 hr1=>?_
 have hl:(tail.take m).length=m:=by rw[List.length_take];omega
 rw[hl,hn1] at hr1
 have hr2:TRel M (gbase w G (E.gk hj)) ⟨fr2,hp2,nx2,n⟩ a1 w1:=hent M _ a1 w1 hr1
 have hb:=hr1.choose_spec.1.below
 have hst:GStep G (fun b=>(G b∨w.heap.size≤b)∧b< w1.heap.size) w w1:=⟨hb.os,hb.tape,hb.output,hb.size,fun b h1 h2=>hb.block b ⟨h1,h2⟩,hb.sizes,fun b h=>h⟩
 have hj1:=E.ok _ _ _ _ _ _ _ hj hst
 have hr3:TRel M (gbase w1 (fun b=>(G b∨w.heap.size≤b)∧b< w1.heap.size) (E.gk hj1)) ⟨fr2,hp2,nx2,n⟩ a1 w1:=by
  obtain⟨β,mem,h1,h2,h3,⟨Ds,h4,h5,h6⟩,h7⟩:=hr2
  have hK:∀b,b< w1.heap.size→¬(gbase w G (E.gk hj)).K b→¬(gbase w1 (fun b=>(G b∨w.heap.size≤b)∧b< w1.heap.size) (E.gk hj1)).K b:=by
   rintro b hlt hk ⟨_,hn⟩
   refine hn ⟨?_,hlt⟩
   by_cases hG:G b
   exact .inl hG
   exact .inr (Nat.le_of_not_lt fun hl=>hk ⟨hl,hG⟩)
  refine⟨β,mem.rebase (gbase w1 _ (E.gk hj1)) rfl (fun b hb=>?_) (fun i b s hi=>hK b (mem.rng i b s hi).2 (mem.rng i b s hi).1) mem.pin,h1,fun t x hx=>h2 t x hx,h3,⟨Ds,h4,h5,fun D hD=>?_⟩,h7⟩
  have:=(mem.m0 b hb).1
  exact⟨Nat.lt_of_lt_of_le this.1 mem.below.size,fun hG=>hG.1.elim this.2 fun h=>by have:=this.1;omega⟩
  obtain⟨h8,h9⟩:=h6 D hD
  exact⟨h8,hK D (Array.getElem?_eq_some_iff.1 h8).1 h9⟩
 have hw:Region.wanted o (yielded ops a1.tmps)=true:=by
  rcases hg with hg|⟨g,t,hg,ht,hx⟩
  simp[Region.wanted,hg]
  obtain⟨β,mem,h1,h2,_⟩:=hr2
  have hval:a1.tmps.getD t undef= .bool true:=hK_ h2 (.tmp t) _ hx
  have hyl:yielded ops a1.tmps g=some true:=by
   simp only[yielded,ht,Option.bind_some]
   cases htt:a1.tmps[t]? with
   |none=>
    rw[Array.getD_eq_getD_getElem?,htt] at hval
    cases hval
   |some y=>
    rw[Array.getD_eq_getD_getElem?,htt] at hval
    simp only[Option.getD_some] at hval
    subst hval;rfl
  simp only[Region.wanted,hg,hyl,beq_iff_eq]
 refine wpListIn_step fun K hK=>?_
 rw[if_pos hw]
 refine nL_ (E:=E) (st:=⟨fr2,hp2,nx2,n⟩) hop hd (Nat.le_of_ble_eq_true hdn) hf hev has hT hcl hj1 hr3 fun go a2 w2 hr4=>hK a2 w2 ?_
 obtain⟨M4,G4,hj4,hr4⟩:=hr4
 exact h3 go a2 w2 M4 G4 hj4 (FRel.free hr4 fun i hi=>by show nx2≤i;omega)
theorem GWp.cutT{α:Type}{Q:Exit→Nat→Bool→AState→Prop}{x y:Code}{k:Nat}{go:Bool}{st:AState}(S:α→AState)(Post:α→Prop)(h:AWp none P x (cutA S Post fun _ _=>False) st)(h2:∀a,Post a→GWp E y Q k go (S a)):GWp E x (thenG (GWp E y Q) Q) k go st:=
 GWp.lift (AWp.mono h fun e s hs=>by
  cases e with
  |normal=>obtain⟨a,h3,h4⟩:=hs;exact GWp.ent h4 (h2 a h3)
  |_=>exact hs.elim)
end
def mxB(T sz:Nat):List (List (List AV))→Nat→Hp
 |[],_=>[]
 |e::l,i=>(i,some ⟨T,sz,e⟩)::mxB T sz l (i+1)
theorem qP_{T sz:Nat}:∀(L:List (List (List AV))) (i j:Nat) (B:ABlk),(j,some B)∈mxB T sz L i→∃k e,L[k]?=some e∧j=i+k∧B=⟨T,sz,e⟩
 |[],_,_,_,h=>by cases h
 |e::l,i,j,B,h=>by
  rcases List.mem_cons.1 h with h|h
  cases h;exact⟨0,e,rfl,rfl,rfl⟩
  obtain⟨k,e',h1,h2,h3⟩:=qP_ l (i+1) j B h
  exact⟨k+1,e',by simpa using h1,by omega,h3⟩
theorem mZ_{T sz:Nat}:∀(L:List (List (List AV))) (i j:Nat),j∈(mxB T sz L i).map (·.1)→i≤j∧j< i+L.length
 |[],_,_,h=>by cases h
 |e::l,i,j,h=>by
  rcases List.mem_cons.1 h with h|h
  subst h;exact⟨Nat.le_refl _,by simp⟩
  have:=mZ_ l (i+1) j h
  simp only[List.length_cons];omega
theorem qO_{T sz:Nat}:∀(L:List (List (List AV))) (i k:Nat) (e:List (List AV)),L[k]?=some e→lookB (mxB T sz L i) (k+i)=some ⟨T,sz,e⟩
 |[],_,_,_,h=>by cases h
 |a::l,i,k,e,h=>by
  rw[mxB,b3_]
  unfold upd
  cases k with
  |zero=>rw[if_pos (Nat.zero_add i)];cases h;rfl
  |succ k=>
   rw[if_neg (by omega)]
   have:=qO_ (T:=T) (sz:=sz) l (i+1) k e (by simpa using h)
   rw[show k+(i+1)=k+1+i by omega] at this
   exact this
def mxH(TS TQ:Nat)(o:List (List AV))(L:List (List (List AV))):Hp:=(1,some ⟨TS,1,o⟩)::mxB TQ 4 L 2
theorem eD_{TS TQ k:Nat}{o:List (List AV)}{L:List (List (List AV))}{e:List (List AV)}(h:L[k]?=some e):lookB (mxH TS TQ o L) (k+2)=some ⟨TQ,4,e⟩:=by
 unfold mxH
 rw[b3_]
 unfold upd
 rw[if_neg (by omega)]
 exact qO_ L 2 k e h
theorem og_{TS TQ k:Nat}{o:List (List AV)}{L:List (List (List AV))}{e:List (List AV)}(h:L[k]?=some e):cellF (lookB (mxH TS TQ o L)) (k+2)=some ⟨TQ,4,e⟩:=oX_ (eD_ h) (show(4:Nat)≠0 by decide)
theorem sx_{r:Ren}{hp hp':Nat→Option ABlk}:∀l:Hp,(∀i B,(i,some B)∈l→i< r.n∧∃B0,hp (r.s i)=some B0∧B0.ty=B.ty∧B0.sz=B.sz∧CvLL r hp hp' B0.es B.es)→CvH r hp hp' l
 |[],_=>trivial
 |(i,none)::l,h=>⟨trivial,sx_ l fun j B hj=>h j B (List.mem_cons_of_mem _ hj)⟩
 |(i,some B)::l,h=>⟨h i B (List.mem_cons_self ..),sx_ l fun j B hj=>h j B (List.mem_cons_of_mem _ hj)⟩
theorem rc_{r:Ren}:∀l:List Nat,(∀i j,i∈l→j∈l→r.s i=r.s j→i=j)→injL r l=true
 |[],_=>rfl
 |a::l,h=>by
  rw[injL,Bool.and_eq_true,List.all_eq_true]
  refine⟨fun j hj=>?_,rc_ l fun i j hi hj=>h i j (List.mem_cons_of_mem _ hi) (List.mem_cons_of_mem _ hj)⟩
  by_cases e:r.s a=r.s j
  have:=h a j (List.mem_cons_self ..) (List.mem_cons_of_mem _ hj) e
  rw[this];simp
  have:Nat.beq (r.s a) (r.s j)=false:=by
   cases hb:Nat.beq (r.s a) (r.s j) with
   |false=>rfl
   |true=>exact absurd (Nat.eq_of_beq_eq_true hb) e
  rw[this];rfl
theorem SEnt.mx {fr fr':Fr} {hp:Hp} {nx N TS TQ:Nat} (s:Nat→Nat) (o o':List (List AV)) (L:List (List (List AV))) (hL:L.length≤30) (s0:s 0=0) (hinj:∀i j,1≤i→i< L.length+2→1≤j→j< L.length+2→s i=s j→i=j)
    (h1:lookB hp (s 1)=some ⟨TS,1,o'⟩) (ho:o'.length=o.length) (hr:∀i e,L[i]?=some e→lookB hp (s (i+2))=some ⟨TQ,4,e⟩∧∀x∈e,∀c∈x,Closed c)
    (hO:Shr ⟨40,s⟩ (lookB hp) (lookB (mxH TS TQ o L))→CvLL ⟨40,s⟩ (lookB hp) (lookB (mxH TS TQ o L)) o' o)
    (hF:Shr ⟨40,s⟩ (lookB hp) (lookB (mxH TS TQ o L))→CvF ⟨40,s⟩ (lookB hp) (lookB (mxH TS TQ o L)) fr fr'):SEnt ⟨fr,hp,nx,N⟩ ⟨fr',mxH TS TQ o L,40,N⟩:=by
 have key:∀i B,(i,some B)∈mxH TS TQ o L→(i=1∧B=⟨TS,1,o⟩)∨∃k e,L[k]?=some e∧i=k+2∧B=⟨TQ,4,e⟩:=fun i B h=>by
  rcases List.mem_cons.1 h with h|h
  cases h;exact .inl ⟨rfl,rfl⟩
  obtain⟨k,e,k1,k2,k3⟩:=qP_ L 2 i B h
  exact .inr ⟨k,e,k1,by omega,k3⟩
 have hS:Shr ⟨40,s⟩ (lookB hp) (lookB (mxH TS TQ o L)):=⟨fun i B h=>by
  rcases key i B (em_ h) with⟨rfl,rfl⟩|⟨k,e,k1,rfl,rfl⟩
  exact⟨(show 1< 40 by decide),_,h1,rfl,rfl,ho⟩
  have hk:=(List.getElem?_eq_some_iff.1 k1).1
  exact⟨by show k+2< 40;omega,_,(hr k e k1).1,rfl,rfl,rfl⟩⟩
 refine SEnt.intro (st:=⟨fr,hp,nx,N⟩) (st':=⟨fr',mxH TS TQ o L,40,N⟩) ⟨40,s⟩ rfl (show 0< 40 by decide) s0 (rc_ _ fun i j hi hj e=>?_) rfl (hF hS) (sx_ _ fun i B h=>?_)
 have g:∀i,i∈(mxH TS TQ o L).map (·.1)→1≤i∧i< L.length+2:=fun i hi=>by
  rcases List.mem_cons.1 hi with h|h
  have h:i=1:=h
  omega
  have:=mZ_ L 2 i h;omega
 exact hinj i j (g i hi).1 (g i hi).2 (g j hj).1 (g j hj).2 e
 rcases key i B h with⟨rfl,rfl⟩|⟨k,e,k1,rfl,rfl⟩
 exact⟨(show 1< 40 by decide),_,h1,rfl,rfl,hO hS⟩
 have hk:=(List.getElem?_eq_some_iff.1 k1).1
 exact⟨by show k+2< 40;omega,_,(hr k e k1).1,rfl,rfl,aH_ hS (hr k e k1).2⟩
def mxO(w:Nat)(s:Nat→Nat)(n:Nat):List (List AV):=(List.range n).map fun i=>[.lsl (s (i+2)) 0 w none 4]
@[simp] theorem po_ (w:Nat)(s:Nat→Nat)(n:Nat):(mxO w s n).length=n:=by simp[mxO]
theorem ku_{w:Nat}{s:Nat→Nat}{n i:Nat}(h:i< n):(mxO w s n)[i]?=some [.lsl (s (i+2)) 0 w none 4]:=by simp[mxO,h]
theorem pd_{r:Ren}{hp hp':Nat→Option ABlk}{α:Type}(f g:α→List AV):∀l:List α,(∀a∈l,CvL r hp hp' (f a) (g a))→CvLL r hp hp' (l.map f) (l.map g)
 |[],_=>CvLL.nil
 |a::l,h=>CvLL.cons (h a (List.mem_cons_self ..)) (pd_ f g l fun b hb=>h b (List.mem_cons_of_mem _ hb))
theorem gT_{hp hp':Nat→Option ABlk}{s:Nat→Nat}{w n:Nat}(hn:n≤30)(hl:∀i,i< n→(hp' (i+2)).isSome=true):CvLL ⟨40,s⟩ hp hp' (mxO w s n) (mxO w (fun i=>i) n):=
 pd_ _ _ _ fun i hi=>by
  have:=List.mem_range.1 hi
  exact af_ (Cv.sl (Nat.ble_eq_true_of_le (show i+2+1≤40 by omega)) rfl (hl i this)) ao_
theorem Cv.mxShut{r:Ren}{hp':Nat→Option ABlk}{TS TQ w n:Nat}{L:List (List (List AV))}(h:Shr r (lookB (mxH TS TQ (mxO w (fun i=>i) n) L)) hp')(hd:∀i,hp' i=none)(hn:n=L.length)(hw:∀e∈L,e.length=w)(hc:∀e∈L,∀x∈e,∀c∈x,Closed c):
    Cv r (lookB (mxH TS TQ (mxO w (fun i=>i) n) L)) hp' (.lsl 1 0 n none 1) (.arr (L.map fun e=>[.arr e])):=by
 have dd:∀i,Dead r hp' i:=fun i j B hj=>by rw[hd] at hj;cases hj
 have hlen:(mxO w (fun i=>i) n).length=n:=po_ _ _ _
 have h1:cellF (lookB (mxH TS TQ (mxO w (fun i=>i) n) L)) 1=some ⟨TS,1,mxO w (fun i=>i) n⟩:=rfl
 refine Cv.trans_eq (Cv.shut (es:=L.map fun e=>[.arr e]) h h1 (dd 1) (by show 0+n≤(mxO w (fun i=>i) n).length;omega) ?_) rfl
 show CvLL r _ hp' (((mxO w (fun i=>i) n).drop 0).take n) _
 rw[List.drop_zero,List.take_of_length_le (by omega)]
 subst hn
 have key:∀(l:List (List (List AV))) (k:Nat),(∀i e,l[i]?=some e→L[k+i]?=some e)→CvLL r (lookB (mxH TS TQ (mxO w (fun i=>i) L.length) L)) hp' ((List.range' k l.length).map fun i=>[.lsl (i+2) 0 w none 4]) (l.map fun e=>[.arr e]):=by
  intro l
  induction l with
  |nil=>intro k _;exact CvLL.nil
  |cons e l ih=>
   intro k hk
   rw[List.length_cons,List.range'_succ]
   have he:L[k]?=some e:=hk 0 e rfl
   have hm:=List.mem_of_getElem? he
   refine CvLL.cons (af_ ?_ ao_) (ih (k+1) fun i e' h'=>by
    have:=hk (i+1) e' (by simpa using h')
    rwa[show k+(i+1)=k+1+i by omega] at this)
   refine Cv.shut (es:=e) h (og_ he) (dd _) (by show 0+w≤e.length;rw[hw e hm];omega) ?_
   show CvLL r _ hp' ((e.drop 0).take w) e
   rw[List.drop_zero,List.take_of_length_le (by rw[hw e hm];exact Nat.le_refl _)]
   exact aH_ h (hc e hm)
 have:=key L 0 fun i e h'=>by rw[Nat.zero_add];exact h'
 rw[←List.range_eq_range'] at this
 exact this
def lessF:List (List Nat×List Nat)→List (List Nat×List Nat)→Prop
 |[],[]=>True
 |(w,r)::l,(w0,r0)::l0=>w=w0∧(∀k∈w,40≤k)∧(∀x∈r,x∈r0∨x< 40)∧lessF l l0
 |_,_=>False
theorem lessF.nil:lessF [] []:=trivial
theorem lessF.cons{w w0 r r0:List Nat}{l l0:List (List Nat×List Nat)}(h1:w=w0)(h2:∀k∈w,40≤k)(h3:∀x∈r,x∈r0∨x< 40)(h4:lessF l l0):lessF ((w,r)::l) ((w0,r0)::l0):=⟨h1,h2,h3,h4⟩
theorem lessF.zz{l l0:List (List Nat×List Nat)}(h:lessF l l0):lessF (([],[])::l) (([],[])::l0):= .cons rfl (fun k hk=>absurd hk List.not_mem_nil) (fun k hk=>absurd hk List.not_mem_nil) h
theorem lessF.rd{x:Nat}{l l0:List (List Nat×List Nat)}(hx:x< 40)(h:lessF l l0):lessF (([],[x])::l) (([],[])::l0):= .cons rfl (fun k hk=>absurd hk List.not_mem_nil) (fun k hk=> .inr (by rw[List.mem_singleton.1 hk];exact hx)) h
theorem lessF.al{x y:Nat}{l l0:List (List Nat×List Nat)}(e:x=y)(hx:40≤x)(h:lessF l l0):lessF (([x],[])::l) (([y],[])::l0):= .cons (by rw[e]) (fun k hk=>by rw[List.mem_singleton.1 hk];exact hx) (fun k hk=>absurd hk List.not_mem_nil) h
theorem lessF.st{x y:Nat}{l l0:List (List Nat×List Nat)}(e:x=y)(hx:40≤x)(h:lessF l l0):lessF (([x],[x])::l) (([y],[y])::l0):= .cons (by rw[e]) (fun k hk=>by rw[List.mem_singleton.1 hk];exact hx) (fun k hk=> .inl (by rw[←e];exact hk)) h
theorem kz_:∀(l l0:List (List Nat×List Nat)) (i:Nat),lessF l l0→(l.getD i ([],[])).1=(l0.getD i ([],[])).1∧(∀k∈(l.getD i ([],[])).1,40≤k)∧∀x∈(l.getD i ([],[])).2,x∈(l0.getD i ([],[])).2∨x< 40
 |[],[],i,_=>⟨rfl,(fun k hk=>by simp at hk),fun x hx=>by simp at hx⟩
 |(w,r)::l,(w0,r0)::l0,0,⟨h1,h2,h3,_⟩=>⟨h1,h2,h3⟩
 |(w,r)::l,(w0,r0)::l0,i+1,⟨_,_,_,h⟩=>by
  have:=kz_ l l0 i h
  simpa using this
 |[],_::_,_,h=>h.elim
 |_::_,[],_,h=>h.elim
theorem pn_{ops:Array Oper}{fps fps0:List (List Nat×List Nat)}(h:okReg ops fps0=true)(hl:lessF fps fps0):okReg ops fps=true:=by
 have nb:∀{a b:Nat},a≠b→(!Nat.beq a b)=true:=fun{a b} e=>by
  cases hb:Nat.beq a b with
  |false=>rfl
  |true=>exact absurd (Nat.eq_of_beq_eq_true hb) e
 unfold okReg at h⊢
 rw[Bool.and_eq_true] at h⊢
 refine⟨h.1,?_⟩
 have h2:=h.2
 simp only at h2⊢
 rw[List.all_eq_true] at h2⊢
 intro j hj
 have h3:=h2 j hj
 rw[List.all_eq_true] at h3⊢
 intro i hi
 have h4:=h3 i hi
 rw[Bool.or_eq_true] at h4⊢
 refine h4.imp id fun h5=>?_
 obtain⟨a1,a2,a3⟩:=kz_ fps fps0 i hl
 obtain⟨b1,b2,b3⟩:=kz_ fps fps0 j hl
 unfold free2 at h5⊢
 simp only[Bool.and_eq_true] at h5⊢
 obtain⟨⟨⟨⟨c1,c2⟩,c3⟩,c4⟩,c5⟩:=h5
 refine⟨⟨⟨⟨c1,c2⟩,c3⟩,?_⟩,?_⟩
 rw[a1,b1]
 rw[List.all_eq_true] at c4⊢
 intro k hk
 have d:=c4 k hk
 rw[Bool.and_eq_true] at d⊢
 refine⟨?_,d.2⟩
 have d1:=d.1
 rw[List.all_eq_true] at d1⊢
 intro x hx
 rcases b3 x hx with e|e
 exact d1 x e
 exact nb (fun e'=>by have:=a2 k (by rw[a1];exact hk);omega)
 rw[b1]
 rw[List.all_eq_true] at c5⊢
 intro k hk
 have d:=c5 k hk
 rw[List.all_eq_true] at d⊢
 intro x hx
 rcases a3 x hx with e|e
 exact d x e
 exact nb (fun e'=>by have:=b2 k (by rw[b1];exact hk);omega)
end Go.Abs
namespace Go.Abs
open Go.RowKit
structure OTSpec (P:Program)(f:Nat)(args:List AV)(ty sz:Nat)(es:List (List AV))(v:Value):Prop where
 sz0:sz≠0
 cl:∀a∈args,Closed a
 enters:∀(xs:Array Value) (w:World),(callFunc f xs).run P w= .ok (.enter f xs) w
 calls:∀(M:Nat→Prop) (w:World) (vals:List Value),Fit M w→RVs M (fun _=>none) w args vals→
  Calls P f vals.toArray w fun x w'=> ∃b c,x= .returned (.tuple #[.slice (some ⟨b,0,none⟩) es.length c,v])∧w.heap.size≤b∧b< w'.heap.size∧es.length≤c∧c≤maxLen∧(∃cs,w'.heap[b]?=some (.cells cs ty (0,0))∧RVess (fun x=>M x∨x=b) (fun _=>none) w' b sz es 0∧c* sz≤cs.size)∧Below w.heap.size w w'
theorem OTSpec.intro {P:Program} {f:Nat} {fn:Func} {c:Code} {ty sz t t2:Nat} {v:Value} {args:List AV} {es:List (List AV)} (hf:P.funcs[f]?=some fn) (hb:fn.body=some c) (hname:(fn.name== "runtime.NumGoroutine")=false) (hrs:fn.results.toList=[.tmp t,.tmp t2]) (hcl:∀a∈args,Closed a) (hce:∀x∈es,∀c∈x,Closed c) (hn:args.length≤fn.ntmps)
    (h:AWp none P c (fun x st=>(x= .normal∨x= .ret)∧(∃i cap,look st.fr t=some (.lsl i 0 es.length cap sz)∧lookB st.hp i=some ⟨ty,sz,es⟩)∧look st.fr t2=some (.v v)) ⟨argFr 0 args,[],1,fn.ntmps⟩) (hz:Nat.blt 0 sz=true:=by rfl):OTSpec P f args ty sz es v:=by
 refine⟨eU_ hz,hcl,fun xs w=>?_,fun M w vals hM hargs=>?_⟩
 have hname':¬fn.name= "runtime.NumGoroutine" :=by simpa using hname
 simp[callFunc,hf,hname',hb]
 refine(callsIn_wide (n:=0)).1 ?_
 refine callsIn_of_wp_marks (F:=Fence.wide) hf hb trivial ?_
 have hlen:=hargs.length
 have hrel:ARel M (Base.of w hM.tab) ⟨argFr 0 args,[],1,fn.ntmps⟩ {tmps:=vals.toArray++Array.replicate (fn.ntmps- vals.toArray.size) undef,defers:=[]} w:=by
  refine⟨fun _=>none,⟨⟨rfl,rfl,rfl,Nat.le_refl _,fun _ _=>rfl,fun _ _ h=>h⟩,(fun b hb=>⟨hM.lt b hb,fun e=>hM.nt (e▸hb)⟩),(fun _ _ _ h=>by cases h),(fun _=>rfl),(fun _ _ h=>by cases h),(fun _ _ _ _ _ _ _ h=>by cases h)⟩,by simp;omega,fun t x hx=>?_,fun i (hi:1≤i)=>⟨rfl,by omega⟩,⟨[],rfl,List.nodup_nil,by simp⟩⟩
  have hmm:MM M (fun _=>none) (lookB [])=M:=by funext b;simp[MM,lookB,look]
  show RV (MM M (fun _=>none) (lookB [])) _ _ _ _
  rw[hmm,b2_ rfl]
  obtain⟨_,y,h1,h2⟩:=dm_ hargs hx
  have hy:(vals.toArray++Array.replicate (fn.ntmps- vals.toArray.size) undef).getD t undef=y:=by
   have hlt:t< vals.length:=by simpa using(List.getElem?_eq_some_iff.1 h1).1
   rw[Array.getD_eq_getD_getElem?,Array.getElem?_append_left (by simpa using hlt)]
   simp at h1⊢
   rw[h1];rfl
  rw[hy];exact h2
 refine wpIn_mono (h M (Base.of w hM.tab) _ w hrel) fun x a' w' ⟨st',⟨β,mem,hsz,hfr,hfree,Ds,hds,hnd,hD⟩,he,⟨i,cap,hlk,hbk⟩,hlk2⟩=>?_
 have hres:ResOK P fn.results.toList st' .any:=by
  rw[hrs]
  exact⟨[_,_],⟨_,[_],rfl,hlk,⟨_,[],rfl,hlk2,rfl⟩⟩,fun _ _ _ _ _ _ _=>trivial⟩
 have hL:LeavesInM (FR none) 0 P fn a'.tmps (fun x w'=> ∃b c,x= .returned (.tuple #[.slice (some ⟨b,0,none⟩) es.length c,v])∧w.heap.size≤b∧b< w'.heap.size∧es.length≤c∧c≤maxLen∧(∃cs,w'.heap[b]?=some (.cells cs ty (0,0))∧RVess (fun x=>M x∨x=b) (fun _=>none) w' b sz es 0∧c* sz≤cs.size)∧Below w.heap.size w w') a'.defers .returning w':=by
  rw[hds]
  refine f2_ hres (fun y w'' _ h2 h3 h4=>?_) Ds w' hnd hD mem (fun t x hx=>by have:=hfr t x hx;rwa[b2_ rfl] at this)
  obtain⟨b,c,e1,e2,e3,e4,e5,N,e6,e7⟩:=h3 t _ hlk
  have g2:a'.tmps.getD t2 undef=v:=h3 t2 _ hlk2
  obtain⟨b',cs,f1,f2,f3,f4⟩:=h2.cells hbk (eU_ hz)
  rw[e1] at f1;cases f1
  have hr:=h2.rng i b _ e1
  have hy:y= .tuple #[.slice (some ⟨b,0,none⟩) es.length c,v]:=by
   have hm:(fn.results.mapM (fP_ a'.tmps)).run P w''= .ok #[a'.tmps.getD t undef,a'.tmps.getD t2 undef] w'':=by
    rw[Array.mapM_eq_mapM_toList,hrs];rfl
   have he:results fn a'.tmps=(do let vs←fn.results.mapM (fP_ a'.tmps);pure (if h:vs.size=1 then vs[0] else .tuple vs)):=rfl
   rw[he,Sem.run_bind,hm] at h4
   have h5:(Result.ok (.tuple #[a'.tmps.getD t undef,a'.tmps.getD t2 undef]) w'':Result Value)= .ok y w'':=h4
   cases h5
   rw[e2,g2];simp
  refine⟨b,c,by rw[hy],Nat.le_of_not_lt hr.1,hr.2,e3,e4,⟨cs,f2,?_,?_⟩,⟨h2.below.os,h2.below.tape,h2.below.output,h2.below.size,h2.below.block⟩⟩
  refine StabC.ess (w:=w'') (w':=w'') (M:=MM M β (lookB st'.hp)) (β:=fun _=>none) ⟨fun _ _ _ _=>rfl,fun x _ _ hx=>?_,(fun _ _ h=>by cases h),fun _ _ h=>h⟩ rfl (dq_ hce f3)
  rcases hx with hx|rfl
  exact .inl hx
  exact .inr ⟨i,_,_,hbk,e1⟩
  simp[aN_,f2] at e6
  rw[e6];simpa using e7
 rcases he with rfl|rfl
 exact hL
 exact hL
def FinOT(t t2 ty sz:Nat)(es:List (List AV))(v:Value)(x:Exit)(st:AState):Prop:=(x= .normal∨x= .ret)∧(∃i cap,look st.fr t=some (.lsl i 0 es.length cap sz)∧lookB st.hp i=some ⟨ty,sz,es⟩)∧look st.fr t2=some (.v v)
theorem FinOT.tmp{fr:Fr}{hp:Hp}{nx n t t2 ty sz i k:Nat}{cap:Option Nat}{es es':List (List AV)}{v:Value}(h:look fr t=some (.lsl i 0 k cap sz))(hb:lookB hp i=some ⟨ty,sz,es⟩)(he:es=es')(hk:k=es'.length)(h2:look fr t2=some (.v v)):FinOT t t2 ty sz es' v .ret ⟨fr,hp,nx,n⟩:=
 ⟨.inr rfl,⟨i,cap,by rw[←hk];exact h,by rw[←he];exact hb⟩,h2⟩
theorem OTSpec.enter {P:Program} {f:Nat} {fn:Func} {c:Code} {ty sz t t2:Nat} {v:Value} {args:List AV} {es:List (List AV)} (hf:P.funcs[f]?=some fn) (hb:fn.body=some c) (hname:(fn.name== "runtime.NumGoroutine")=false) (hrs:fn.results.toList=[.tmp t,.tmp t2]) {m:Nat} (hm:fn.ntmps=m) (hn:Nat.ble args.length m=true)
    (hcl:∀a∈args,Closed a) (hce:∀x∈es,∀c∈x,Closed c) {fr:Fr} (hfr:argFr 0 args=fr) (h:AWp none P c (FinOT t t2 ty sz es v) ⟨fr,[],1,m⟩) (hz:Nat.blt 0 sz=true:=by rfl):OTSpec P f args ty sz es v:=by
 subst hm hfr
 exact OTSpec.intro hf hb hname hrs hcl hce (nle hn) h hz
section
variable {P:Program}{id:Nat}{ev:Operand→Option AV}{hp:Nat→Option ABlk}
theorem AEval.callOT{c:Call}{callee:Operand}{f:Nat}{as:List AV}{ty sz:Nat}{es:List (List AV)}{v:Value}(h1:c.callee= .value callee)(h2:ev callee=some (.clos f [] []))(h3:evs ev c.args.toList=some as)(h4:OTSpec P f (as.map coe) ty sz es v):
    AEval P id ev hp (.call c) ⟨.tup [.lsl id 0 es.length none sz,.v v],[(id,some ⟨ty,sz,es⟩)]⟩ []:=by
 refine .sem fun M0 w0 β hp' w ρ o ho mem hev hcst hid0 hid hidh hrd=>?_
 have hopn:∀x,x∈(Op.call c).operands↔x=callee∨x∈c.args.toList:=by
  intro x;simp[Op.operands,Call.operands,h1,←Array.mem_toList_iff]
 obtain⟨xs,ys,hx,hr1,hr2⟩:=hev callee ((hopn _).2 (.inl rfl)) _ h2
 have hxs:xs= #[]:=Array.ext' hr1
 have hys:ys= #[]:=Array.ext' hr2
 subst hxs hys
 have has:RVs (MM M0 β hp') β w as (c.args.toList.map ρ):=nm_ (fun x hx=>hev x ((hopn _).2 (.inr hx))) h3
 refine .inr ⟨f,(c.args.toList.map ρ).toArray,eX_ ho h1 hx (by rw[List.toList_toArray]) h4.enters,?_⟩
 refine(h4.calls (MM M0 β hp') w _ mem.fit (c0_ h4.cl (eZ_ has))).mono ?_
 rintro x w' ⟨b,cc,rfl,hb1,hb2,hc1,hc2,⟨cs,hh,hr,hl⟩,hbel⟩
 have hm:=mem.own h4.sz0 hbel hid0 hid hidh hb1 hb2 hh hr (Nat.le_trans (Nat.mul_le_mul_right _ hc1) hl)
 exact⟨_,rfl,_,hm.1,⟨_,rfl,⟨_,_,rfl,⟨b,cc,aP_ _ _ _,by simp,hc1,hc2,(fun _ h=>by cases h),cs.size,by simp[aN_,hh],by simpa using hl⟩,⟨_,_,rfl,rfl,rfl⟩⟩⟩,hm.2,fun j hj=>aW_ _ _ hj⟩
end
end Go.Abs
namespace Go.Abs
def digs(b n:Nat):List Nat:=
 if _h:b≤1∨n=0 then [] else n % b::digs b (n/ b)
termination_by n
decreasing_by exact Nat.div_lt_self (by omega) (by omega)
def ofD(b:Nat):List Nat→Nat
 |[]=>0
 |d::l=>d+b* ofD b l
theorem bo_(b:Nat):digs b 0=[]:=by rw[digs];simp
theorem cA_{b n:Nat}(hb:1< b)(hn:0< n):digs b n=n % b::digs b (n/ b):=by rw[digs,dif_neg (by omega)]
theorem a7_{b:Nat}(hb:1< b)(n:Nat):ofD b (digs b n)=n:=by
 induction n using Nat.strongRecOn with
 |_ n ih=>
  rcases Nat.eq_zero_or_pos n with rfl|hn
  rw[bo_];rfl
  rw[cA_ hb hn,ofD,ih _ (Nat.div_lt_self hn hb)]
  exact Nat.mod_add_div n b
theorem b0_{b:Nat}(hb:1< b)(n:Nat):∀d∈digs b n,d< b:=by
 induction n using Nat.strongRecOn with
 |_ n ih=>
  rcases Nat.eq_zero_or_pos n with rfl|hn
  rw[bo_];simp
  rw[cA_ hb hn]
  intro d hd
  rcases List.mem_cons.1 hd with rfl|hd
  exact Nat.mod_lt _ (by omega)
  exact ih _ (Nat.div_lt_self hn hb) d hd
def IsD(b:Nat)(l:List Nat):Prop:=(∀d∈l,d< b)∧l.getLast?≠some 0
theorem i8_{b:Nat}(hb:1< b)(n:Nat):(digs b n).getLast?≠some 0:=by
 induction n using Nat.strongRecOn with
 |_ n ih=>
  rcases Nat.eq_zero_or_pos n with rfl|hn
  rw[bo_];simp
  rw[cA_ hb hn]
  have h1:=ih _ (Nat.div_lt_self hn hb)
  rw[List.getLast?_cons]
  intro h
  by_cases h0:digs b (n/ b)=[]
  rw[h0] at h
  simp only[List.getLast?_nil,Option.getD_none,Option.some.injEq] at h
  have hz:n/ b=0:=by
   have:=a7_ hb (n/ b)
   rw[h0] at this;exact this.symm
  have:=Nat.mod_add_div n b
  rw[h,hz] at this
  omega
  cases hl:(digs b (n/ b)).getLast? with
  |none=>exact h0 (List.getLast?_eq_none_iff.1 hl)
  |some x=>
   rw[hl] at h
   simp only[Option.getD_some,Option.some.injEq] at h
   subst h;exact h1 hl
theorem ofD_pos{b:Nat}{l:List Nat}(h:IsD b l)(hl:l≠[]):0< ofD b l:=by
 induction l with
 |nil=>exact absurd rfl hl
 |cons d l ih=>
  rw[ofD]
  by_cases h0:l=[]
  subst h0
  have h2:=h.2
  simp at h2
  omega
  have hb:0< b:=by have:=h.1 d (List.mem_cons_self ..);omega
  have:0< ofD b l:=ih ⟨fun x hx=>h.1 x (List.mem_cons_of_mem _ hx),by
   have h2:=h.2;rw[List.getLast?_cons] at h2
   intro e;rw[e] at h2;exact h2 rfl⟩ h0
  have:=Nat.mul_pos hb this
  omega
theorem kW_{b:Nat}(hb:1< b):∀{l:List Nat},IsD b l→digs b (ofD b l)=l
 |[],_=>bo_ b
 |d::l,h=>by
  have hp:=ofD_pos h (by simp)
  have hd:=h.1 d (List.mem_cons_self ..)
  have hl:IsD b l:=⟨fun x hx=>h.1 x (List.mem_cons_of_mem _ hx),by
   have h2:=h.2;rw[List.getLast?_cons] at h2
   intro e;rw[e] at h2;exact h2 rfl⟩
  rw[cA_ hb hp]
  have e1:ofD b (d::l) % b=d:=by rw[ofD,Nat.add_mul_mod_self_left];exact Nat.mod_eq_of_lt hd
  have e2:ofD b (d::l) / b=ofD b l:=by rw[ofD,Nat.add_mul_div_left _ _ (by omega),Nat.div_eq_of_lt hd];omega
  rw[e1,e2,kW_ hb hl]
theorem dh_(b:Nat)(l m:List Nat):ofD b (l++m)=ofD b l+b^ l.length* ofD b m:=by
 induction l with
 |nil=>simp[ofD]
 |cons d l ih=>simp only[List.cons_append,ofD,ih,List.length_cons,Nat.pow_succ,Nat.mul_add];rw[←Nat.add_assoc,Nat.mul_comm (b^ l.length) b,Nat.mul_assoc]
theorem ds_{b:Nat}{l:List Nat}(h:∀d∈l,d< b):ofD b l< b^ l.length:=by
 induction l with
 |nil=>simp[ofD]
 |cons d l ih=>
  have h1:=ih fun x hx=>h x (List.mem_cons_of_mem _ hx)
  have h2:=h d (List.mem_cons_self ..)
  rw[ofD,List.length_cons,Nat.pow_succ,Nat.mul_comm (b^ l.length) b]
  have:b* (ofD b l+1)≤b* b^ l.length:=Nat.mul_le_mul_left _ h1
  rw[Nat.mul_add] at this
  omega
theorem iv_(b k:Nat):ofD b (List.replicate k 0)=0:=by
 induction k with
 |zero=>rfl
 |succ k ih=>rw[List.replicate_succ,ofD,ih];simp
theorem b7_(b k:Nat)(l:List Nat)(h:k≤l.length):ofD b l=ofD b (l.take k)+b^ k* ofD b (l.drop k):=by
 conv=>lhs;rw[←List.take_append_drop k l]
 rw[dh_,List.length_take,Nat.min_eq_left h]
def trimD:List Nat→List Nat
 |[]=>[]
 |d::l=>match trimD l with
  |[]=>if d=0 then [] else [d]
  |e::m=>d::e::m
theorem lf_(b:Nat):∀l,ofD b (trimD l)=ofD b l
 |[]=>rfl
 |d::l=>by
  have ih:=lf_ b l
  unfold trimD
  split
  ·rename_i h
   rw[h] at ih
   split
   ·rename_i h0;subst h0;show 0=0+b* ofD b l;rw[←ih];simp[ofD]
   show d+b* ofD b []=d+b* ofD b l;rw[←ih]
  ·rename_i e m h
   rw[h] at ih
   show d+b* ofD b (e::m)=d+b* ofD b l
   rw[ih]
theorem jy_:∀l,(trimD l).getLast?≠some 0
 |[]=>by simp[trimD]
 |d::l=>by
  have ih:=jy_ l
  unfold trimD
  split
  split
  simp
  simpa using ‹¬d=0›
  ·rename_i e m h
   rw[h] at ih
   rw[List.getLast?_cons]
   cases hl:(e::m).getLast? with
   |none=>simp at hl
   |some x=>rw[hl] at ih;simpa using ih
theorem le_:∀l,∀d∈trimD l,d∈l
 |[],d,h=>by simp[trimD] at h
 |a::l,d,h=>by
  have ih:=le_ l
  unfold trimD at h
  split at h
  split at h
  simp at h
  simp at h;subst h;exact List.mem_cons_self ..
  ·rename_i e m he
   rw[he] at ih
   rcases List.mem_cons.1 h with rfl|h
   exact List.mem_cons_self ..
   exact List.mem_cons_of_mem _ (ih d h)
theorem ew_{b:Nat}(hb:1< b){l:List Nat}(h:∀d∈l,d< b):trimD l=digs b (ofD b l):=by
 rw[←lf_ b l]
 exact(kW_ hb ⟨fun d hd=>h d (le_ l d hd),jy_ l⟩).symm
theorem fu_:∀(l:List Nat) (k:Nat),k≤l.length→(∀i,k≤i→i< l.length→l[i]?=some 0)→(k=0∨l[k- 1]?≠some 0)→trimD l=l.take k
 |[],k,hk,_,_=>by simp[trimD]
 |d::l,k,hk,hz,hl=>by
  cases k with
  |zero=>
   have h1:=fu_ l 0 (Nat.zero_le _) (fun i _ hi=>by have:=hz (i+1) (by omega) (by simp;omega);simpa using this) (.inl rfl)
   have h2:=hz 0 (Nat.le_refl _) (by simp)
   simp only[List.getElem?_cons_zero,Option.some.injEq] at h2
   simp[trimD,h1,h2]
  |succ k=>
   have hz':∀i,k≤i→i< l.length→l[i]?=some 0:=fun i h1 hi=>by have:=hz (i+1) (by omega) (by simp;omega);simpa using this
   simp only[Nat.add_sub_cancel] at hl
   cases k with
   |zero=>
    have h1:=fu_ l 0 (Nat.zero_le _) hz' (.inl rfl)
    simp at hl
    simp[trimD,h1,hl]
   |succ k=>
    have hlen:k+1≤l.length:=by simpa using hk
    have h1:=fu_ l (k+1) hlen hz' (.inr (hl.elim (fun h=>absurd h (by omega)) fun h=>by simpa using h))
    cases l with
    |nil=>simp at hlen
    |cons e m=>
     simp only[List.take_succ_cons] at h1⊢
     rw[trimD,h1]
def bl(n:Nat):Nat:=if n=0 then 0 else n.log2+1
theorem lt_bl(n:Nat):n< 2^ bl n:=by
 unfold bl
 split
 ·rename_i h;subst h;simp
 exact Nat.lt_log2_self
theorem bl_le{n k:Nat}(h:n< 2^ k):bl n≤k:=by
 unfold bl
 split
 omega
 ·rename_i hn;exact(Nat.log2_lt hn).2 h
theorem bl_lt{n k:Nat}(h:bl n≤k):n< 2^ k:=Nat.lt_of_lt_of_le (lt_bl n) (Nat.pow_le_pow_right (by omega) h)
theorem bR_{m n:Nat}(h:m≤n):bl m≤bl n:=bl_le (Nat.lt_of_le_of_lt h (lt_bl n))
theorem fp_(m n:Nat):bl (m* n)≤bl m+bl n:=by
 refine bl_le ?_
 rw[Nat.pow_add]
 exact Nat.mul_lt_mul'' (lt_bl m) (lt_bl n)
theorem sm_(m n:Nat):bl (m+n)≤max (bl m) (bl n)+1:=by
 refine bl_le ?_
 have h1:m< 2^ max (bl m) (bl n):=bl_lt (Nat.le_max_left _ _)
 have h2:n< 2^ max (bl m) (bl n):=bl_lt (Nat.le_max_right _ _)
 rw[Nat.pow_succ];omega
theorem bl_zero:bl 0=0:=rfl
theorem kc_:bl 1=1:=by decide
theorem bl_pos{n:Nat}(h:0< n):0< bl n:=by unfold bl;rw[if_neg (by omega)];omega
theorem a6_{b:Nat}(hb:1< b)(n:Nat):(digs b n).length≤bl n:=by
 induction n using Nat.strongRecOn with
 |_ n ih=>
  rcases Nat.eq_zero_or_pos n with rfl|hn
  rw[bo_];simp
  rw[cA_ hb hn,List.length_cons]
  have h1:=ih _ (Nat.div_lt_self hn hb)
  have h2:bl (n/ b)+1≤bl n:=by
   have hle:n/ b≤n/ 2:=Nat.div_le_div_left hb (by omega)
   have h3:bl (n/ 2)+1≤bl n:=by
    have hlt:=lt_bl n
    have hp:=bl_pos hn
    have:n/ 2< 2^ (bl n- 1):=by
     rw[Nat.div_lt_iff_lt_mul (by omega)];have e:2^ (bl n- 1) * 2=2^ bl n:=by rw[show 2^ bl n=2^ (bl n- 1+1) by rw[show bl n- 1+1=bl n by omega],Nat.pow_succ]
     rw[e];exact hlt
    have:=bl_le this
    omega
   have:=bR_ hle
   omega
  omega
theorem cu_{b:Nat}(hb:1< b){n k:Nat}(h:n< b^ k):(digs b n).length≤k:=by
 induction k generalizing n with
 |zero=>have:n=0:=by simpa using h
        subst this;rw[bo_];simp
 |succ k ih=>
  rcases Nat.eq_zero_or_pos n with rfl|hn
  rw[bo_];simp
  rw[cA_ hb hn,List.length_cons]
  have:n/ b< b^ k:=by rw[Nat.div_lt_iff_lt_mul (by omega),←Nat.pow_succ];exact h
  have:=ih this
  omega
theorem cZ_{b n:Nat}(hb:1< b):digs b n=[]↔n=0:=by
 constructor
 intro h;have:=a7_ hb n;rw[h] at this;exact this.symm
 rintro rfl;exact bo_ b
abbrev MB:Nat:=1000000000
def u32(d:Nat):AV:= .v (.int .u32 d)
def i64(z:Int):AV:= .v (.int .i64 z)
def u64(z:Int):AV:= .v (.int .u64 z)
def bln(b:Bool):AV:= .v (.bool b)
def dE(l:List Nat):List (List AV):=l.map fun d=>[u32 d]
def mag(n:Nat):AV:= .arr (dE (digs MB n))
@[simp] theorem gF_ (l:List Nat):(dE l).length=l.length:=by simp[dE]
theorem ck_{l:List Nat}{i d:Nat}(h:l[i]?=some d):(dE l)[i]?=some [u32 d]:=by simp[dE,h]
theorem r8_(l:List Nat)(k:Nat):(dE l).take k=dE (l.take k):=by simp[dE]
theorem fk_(l m:List Nat):dE (l++m)=dE l++dE m:=by simp[dE]
theorem ed_(l:List Nat)(i d:Nat):(dE l).set i [u32 d]=dE (l.set i d):=by simp[dE,List.map_set]
theorem du_(k:Nat):List.replicate k [u32 0]=dE (List.replicate k 0):=by simp[dE]
theorem c3_(l:List Nat):(dE l).all (·.all AV.one)=true:=by simp[dE,u32,AV.one];intros;rfl
theorem nB_(l:List Nat):∀e∈dE l,e.length=1:=by intro e he;simp[dE] at he;obtain⟨d,_,rfl⟩:=he;rfl
theorem a3_(l:List Nat):∀e∈dE l,∀c∈e,Closed c:=by
 intro e he c hc
 simp[dE] at he
 obtain⟨d,_,rfl⟩:=he
 simp at hc;subst hc
 exact ad_ _
theorem by_(l:List Nat):Closed (.arr (dE l)):=aX_ (a3_ l)
theorem aQ_(n:Nat):Closed (mag n):=by_ _
theorem ab_:∀a∈([]:List AV),Closed a:=fun _ h=>by cases h
theorem aa_{a:AV}{l:List AV}(h:Closed a)(h':∀a∈l,Closed a):∀b∈a::l,Closed b:=by
 intro b hb
 rcases List.mem_cons.1 hb with rfl|hb
 exact h
 exact h' b hb
theorem AEval.lenD{P:Program}{id:Nat}{ev:Operand→Option AV}{hp:Nat→Option ABlk}{c:Call}{x:Operand}{T:Nat}{d:Nat×Nat}{l:List Nat}(hc:c.callee= .builtin .len)(ha:c.args= #[x])(ht:c.argTypes= #[T])(hx:ev x=some (.arr (dE l)))(he:elOf P T=some d):
    AEval P id ev hp (.call c) ⟨.v (.int .i64 (l.length:Nat)),[]⟩ []:= .len hc ha ht hx (by simp[lenA]) he
theorem dC_(b:Nat)(s:List Nat)(v:Nat):ofD b (s++[v])=ofD b s+b^ s.length* v:=by rw[dh_];simp[ofD]
theorem cD_{α:Type}{l:List α}{k:Nat}{x:α}(h:l[k]?=some x):l.take (k+1)=l.take k++[x]:=by
 rw[List.take_add_one,h];rfl
theorem bx_(b:Nat){l:List Nat}{k d:Nat}(h:l[k]?=some d):ofD b (l.take (k+1))=ofD b (l.take k)+b^ k* d:=by
 have hk:k< l.length:=(List.getElem?_eq_some_iff.1 h).1
 rw[cD_ h,dC_,List.length_take,Nat.min_eq_left (by omega)]
theorem ct_(b:Nat)(l:List Nat)(k:Nat):ofD b (l.take (k+1))=ofD b (l.take k)+b^ k* (l[k]?.getD 0):=by
 cases h:l[k]? with
 |some d=>exact bx_ b h
 |none=>rw[List.getElem?_eq_none_iff] at h;rw[List.take_of_length_le (by omega),List.take_of_length_le (by omega)];simp
theorem dr_(b:Nat){l:List Nat}{k:Nat}(h:l.length≤k):ofD b (l.take k)=ofD b l:=by rw[List.take_of_length_le h]
theorem fw_(b:Nat){l:List Nat}{k d:Nat}(h:l[k]?=some d):ofD b (l.drop k)=d+b* ofD b (l.drop (k+1)):=by
 rw[List.drop_eq_getElem_cons (List.getElem?_eq_some_iff.1 h).1,ofD]
 congr 1
 exact(List.getElem?_eq_some_iff.1 h).2
theorem iw_(b:Nat):∀{l:List Nat} {j d:Nat} (v:Nat),l[j]?=some d→ofD b (l.set j v)+b^ j* d=ofD b l+b^ j* v
 |[],_,_,_,h=>by simp at h
 |x::l,0,d,v,h=>by simp at h;subst h;simp[ofD];omega
 |x::l,j+1,d,v,h=>by
  simp only[List.getElem?_cons_succ] at h
  have:=iw_ b v h
  rw[List.set_cons_succ,ofD,ofD,Nat.pow_succ]
  have e:=congrArg (b* ·) this
  simp only[Nat.mul_add] at e
  rw[←Nat.mul_assoc,←Nat.mul_assoc,Nat.mul_comm b (b^ j)] at e
  omega
theorem kx_{l:List Nat}{j v:Nat}{p:Nat→Prop}(h:∀d∈l,p d)(hv:p v):∀d∈l.set j v,p d:=by
 intro d hd
 rcases List.mem_or_eq_of_mem_set hd with hd|hd
 exact h d hd
 subst hd;exact hv
theorem qn_{α:Type}{cs vs:List α}(h:vs.length=cs.length):setAt cs 0 vs=vs:=by
 apply List.ext_getElem?
 intro j
 rw[cE_]
 split
 ·rename_i hj;rw[if_pos (by omega)];rfl
 ·rename_i hj;rw[List.getElem?_eq_none (by omega),List.getElem?_eq_none (by omega)]
theorem mO_{α:Type}{cs vs:List α}(h:vs.length≤cs.length):setAt cs 0 vs=vs++cs.drop vs.length:=by
 apply List.ext_getElem?
 intro j
 rw[cE_]
 by_cases hj:j< vs.length
 rw[if_pos (by omega),if_pos (by omega),List.getElem?_append_left hj];rfl
 rw[if_neg (by omega),List.getElem?_append_right (by omega),List.getElem?_drop]
 congr 1;omega
theorem nS_(s:List Nat)(m v i:Nat)(hi:i=s.length):(s++List.replicate (m+1) 0).set i v=(s++[v])++List.replicate m 0:=by
 subst hi
 rw[List.set_append_right _ _ (Nat.le_refl _)]
 simp[List.replicate_succ]
theorem om_(s:List Nat)(m i:Nat)(hi:i=s.length):(s++List.replicate (m+1) 0)[i]?=some 0:=by
 subst hi;simp[List.replicate_succ]
theorem bq_{b n i d:Nat}(hb:1< b)(h:(digs b n)[i]?=some d):d< b:=b0_ hb n d (List.mem_of_getElem? h)
theorem pN_{n:Nat}(h0:0< n)(h:n< MB):digs MB n=[n]:=by
 rw[cA_ (by decide) h0,Nat.div_eq_of_lt h,bo_,Nat.mod_eq_of_lt h]
theorem r7_{b:Nat}(hb:1< b)(n k:Nat):(digs b n).drop k=digs b (ofD b ((digs b n).drop k)):=by
 symm
 refine kW_ hb ⟨fun d hd=>b0_ hb n d (List.mem_of_mem_drop hd),?_⟩
 by_cases hk:k< (digs b n).length
 rw[List.getLast?_drop,if_neg (by omega)];exact i8_ hb n
 rw[List.drop_of_length_le (by omega)];simp
theorem i7_{b n:Nat}(hb:1< b):b^ ((digs b n).length- 1)≤n∨n=0:=by
 rcases Nat.eq_zero_or_pos n with h|h
 exact .inr h
 left
 have hne:digs b n≠[]:=fun e=>by have:=(cZ_ hb).1 e;omega
 have hl:=i8_ hb n
 obtain⟨s,x,e⟩:∃s x,digs b n=s++[x]:=⟨_,_,(List.dropLast_concat_getLast hne).symm⟩
 have h1:=a7_ hb n
 rw[e,dC_] at h1
 rw[e] at hl
 simp at hl
 rw[e,List.length_append]
 simp
 have:b^ s.length* 1≤b^ s.length* x:=Nat.mul_le_mul_left _ (by omega)
 omega
theorem el_{b m n:Nat}(hb:1< b)(h:(digs b m).length< (digs b n).length):m< n:=by
 have h1:=ds_ (b:=b) (b0_ hb m)
 rw[a7_ hb] at h1
 rcases i7_ (n:=n) hb with h2|h2
 have:b^ (digs b m).length≤b^ ((digs b n).length- 1):=Nat.pow_le_pow_right (by omega) (by omega)
 omega
 subst h2;rw[bo_] at h;simp at h
theorem oi_{b m n:Nat}(hb:1< b)(h:m≤n):(digs b m).length≤(digs b n).length:=by
 rcases Nat.lt_or_ge (digs b n).length (digs b m).length with h1|h1
 have:=el_ hb h1;omega
 exact h1
def restD(n k:Nat):Nat:=ofD MB ((digs MB n).drop k)
def preD(n k:Nat):List Nat:=(digs MB n).take k
theorem jJ_(n:Nat):restD n 0=n:=a7_ (by decide) n
theorem dR_(n:Nat):preD n 0=[]:=rfl
theorem preD_end(n:Nat):preD n (digs MB n).length=digs MB n:=List.take_length
theorem fY_{n k:Nat}(h:k≤(digs MB n).length):(preD n k).length=k:=by simp[preD,Nat.min_eq_left h]
theorem jK_{n k:Nat}(h:k< (digs MB n).length):restD n (k+1)=restD n k/ MB∧preD n (k+1)=preD n k++[restD n k % MB]:=by
 have hd:(digs MB n)[k]?=some (digs MB n)[k]:=List.getElem?_eq_getElem h
 have h1:=fw_ MB hd
 have h2:(digs MB n)[k]< MB:=bq_ (by decide) hd
 constructor
 unfold restD;rw[h1,Nat.add_mul_div_left _ _ (by decide),Nat.div_eq_of_lt h2];omega
 unfold preD restD;rw[cD_ hd,h1,Nat.add_mul_mod_self_left,Nat.mod_eq_of_lt h2]
theorem restD_le{n k:Nat}(hk:k≤(digs MB n).length):restD n k≤n:=by
 have:=b7_ MB k _ hk
 rw[a7_ (by decide)] at this
 have h2:=Nat.le_mul_of_pos_left (ofD MB ((digs MB n).drop k)) (Nat.pow_pos (n:=k) (show 0< MB by decide))
 unfold restD;omega
theorem restD_eq{n k:Nat}(hk:k≤(digs MB n).length):restD n k=0↔k=(digs MB n).length:=by
 constructor
 intro e
 have:=r7_ (b:=MB) (by decide) n k
 rw[show ofD MB ((digs MB n).drop k)=0 from e,bo_,List.drop_eq_nil_iff] at this
 omega
 intro e;unfold restD;rw[e,List.drop_length];rfl
def cmpZ(a b:Int):Int:=if a< b then -1 else if b< a then 1 else 0
theorem gb_{a b:Int}(h:a< b):cmpZ a b= -1:=by simp[cmpZ,h]
theorem hs_{a b:Int}(h:b< a):cmpZ a b=1:=by simp[cmpZ];omega
theorem se_{a b:Int}(h:a=b):cmpZ a b=0:=by simp[cmpZ];omega
theorem k0_{a b:Int}:cmpZ a b≠0↔a≠b:=by unfold cmpZ;split <;>(try split)<;> omega
theorem gq_{b i x y:Nat}{l m:List Nat}(hl:∀d∈l,d< b)(hx:l[i]?=some x)(hy:m[i]?=some y)(hd:l.drop (i+1)=m.drop (i+1))(hlt:x< y):ofD b l< ofD b m:=by
 have hi:i< l.length:=(List.getElem?_eq_some_iff.1 hx).1
 have hj:i< m.length:=(List.getElem?_eq_some_iff.1 hy).1
 rw[b7_ b i l (by omega),b7_ b i m (by omega),fw_ b hx,fw_ b hy,hd]
 have h1:ofD b (l.take i)< b^ i:=by
  have:=ds_ (b:=b) (l:=l.take i) fun d hd=>hl d (List.mem_of_mem_take hd)
  rwa[List.length_take,Nat.min_eq_left (by omega)] at this
 have h2:b^ i* (x+b* ofD b (m.drop (i+1))+1)≤b^ i* (y+b* ofD b (m.drop (i+1))):=Nat.mul_le_mul_left _ (by omega)
 rw[Nat.mul_add _ _ 1] at h2
 omega
theorem iS_(s t:List Nat)(x:Nat)(i:Nat)(hi:i=s.length):(s++x::t)[i]?=some x:=by subst hi;simp
theorem ik_(s t:List Nat)(x v:Nat)(i:Nat)(hi:i=s.length):(s++x::t).set i v=(s++[v])++t:=by
 subst hi;rw[List.set_append_right _ _ (Nat.le_refl _)];simp
theorem da_{l:List Nat}{i x:Nat}(h:l[i]?=some x):l.drop i=x::l.drop (i+1):=by
 rw[List.drop_eq_getElem_cons (List.getElem?_eq_some_iff.1 h).1,(List.getElem?_eq_some_iff.1 h).2]
def padD(b:Nat):Nat→Nat→List Nat
 |0,_=>[]
 |n+1,m=>m % b::padD b n (m/ b)
@[simp] theorem eC_ (b:Nat):∀n m,(padD b n m).length=n
 |0,_=>rfl
 |n+1,m=>by simp[padD,eC_ b n]
theorem ks_{b:Nat}(hb:0< b):∀n m,∀d∈padD b n m,d< b
 |0,_,d,h=>by cases h
 |n+1,m,d,h=>by
  rcases List.mem_cons.1 h with rfl|h
  exact Nat.mod_lt _ hb
  exact ks_ hb n _ d h
theorem hU_{b:Nat}(hb:0< b):∀{n m:Nat},m< b^ n→ofD b (padD b n m)=m
 |0,m,h=>by simp at h;subst h;rfl
 |n+1,m,h=>by
  rw[padD,ofD,hU_ hb (by rw[Nat.div_lt_iff_lt_mul hb,←Nat.pow_succ];exact h)]
  exact Nat.mod_add_div m b
theorem n5_{b:Nat}:∀{l:List Nat},(∀d∈l,d< b)→padD b l.length (ofD b l)=l
 |[],_=>rfl
 |d::l,h=>by
  have hd:=h d (List.mem_cons_self ..)
  have h1:ofD b (d::l) % b=d:=by rw[ofD,Nat.add_mul_mod_self_left];exact Nat.mod_eq_of_lt hd
  have h2:ofD b (d::l) / b=ofD b l:=by rw[ofD,Nat.add_mul_div_left _ _ (by omega),Nat.div_eq_of_lt hd];omega
  rw[List.length_cons,padD,h1,h2,n5_ fun x hx=>h x (List.mem_cons_of_mem _ hx)]
theorem nq_{b n m:Nat}{l:List Nat}(h:∀d∈l,d< b)(hl:l.length=n)(hv:ofD b l=m):l=padD b n m:=by
 subst hl hv;exact(n5_ h).symm
theorem qo_{v:Nat}(h1:1≤v)(h2:v< 1000000000):500000000≤v* (1000000000/ (v+1))∧(v+1) * (1000000000/ (v+1))≤1000000000∧1≤1000000000/ (v+1):=by
 have hq1:(v+1) * (1000000000/ (v+1))≤1000000000:=Nat.mul_div_le _ _
 have hq2:1000000000< (v+1) * (1000000000/ (v+1))+(v+1):=Nat.lt_mul_div_succ _ (by omega)
 have hq3:1≤1000000000/ (v+1):=by rw[Nat.le_div_iff_mul_le (by omega)];omega
 refine⟨?_,hq1,hq3⟩
 obtain⟨q,hq⟩:∃q,q=1000000000/ (v+1):=⟨_,rfl⟩
 rw[←hq] at hq1 hq2 hq3⊢
 rw[Nat.add_mul,Nat.one_mul] at hq1 hq2
 by_cases c1:500000000≤v
 have:=Nat.mul_le_mul_left v hq3;omega
 by_cases c2:250000000≤v
 have:2≤q:=by
  rw[hq,Nat.le_div_iff_mul_le (by omega)];omega
 have:=Nat.mul_le_mul_left v this;omega
 by_cases c3:166666666≤v
 have:4≤q:=by
  rw[hq,Nat.le_div_iff_mul_le (by omega)];omega
 have:=Nat.mul_le_mul_left v this;omega
 by_cases c4:v=1
 subst c4;omega
 have:q≤333333333:=by
  rw[hq]
  have:1000000000/ (v+1)≤1000000000/ 3:=Nat.div_le_div_left (by omega) (by omega)
  omega
 omega
theorem guess_ok{b n p w u v lo lw:Nat}(hb:0< b)(hp:p=lo+b^ n* u)(hlo:lo< b^ n)(hw:w=lw+b^ n* v)(hlw:lw< b^ n)(hv:b≤2* v)(hvb:v< b)(hq:p< w* b):
    p/ w≤min (u/ v) (b- 1)∧min (u/ v) (b- 1)≤p/ w+2:=by
 have hvp:0< v:=by omega
 have hbn:0< b^ n:=Nat.pow_pos hb
 have hwp:0< w:=by rw[hw];have:=Nat.mul_pos hbn hvp;omega
 have q1:w* (p/ w)≤p:=Nat.mul_div_le _ _
 have q2:p< w* (p/ w)+w:=Nat.lt_mul_div_succ _ hwp
 have q3:p/ w< b:=by rw[Nat.div_lt_iff_lt_mul hwp,Nat.mul_comm];exact hq
 obtain⟨q,hqe⟩:∃q,q=p/ w:=⟨_,rfl⟩
 rw[←hqe] at q1 q2 q3⊢
 have g1:v* (u/ v)≤u:=Nat.mul_div_le _ _
 obtain⟨g,hge⟩:∃g,g=u/ v:=⟨_,rfl⟩
 rw[←hge] at g1
 constructor
 refine Nat.le_min.2 ⟨?_,by omega⟩
 rw[←hge,hge,Nat.le_div_iff_mul_le hvp]
 -- q v≤u,for q v b^n≤q w≤p< (u+1) b^n
 have h1:b^ n* (q* v)≤w* q:=by rw[hw,Nat.add_mul];rw[Nat.mul_assoc,Nat.mul_comm v q];omega
 have h2:b^ n* (q* v)< b^ n* (u+1):=by rw[Nat.mul_add];omega
 have:=Nat.lt_of_mul_lt_mul_left h2
 omega
 rw[←hge]
 -- if min g (b- 1)≥q+3 then(q+3) v≤u and so p≥b^n (q+3) v,but p< w (q+1)
 refine Nat.le_of_not_lt fun hlt=>?_
 have hg3:q+3≤g:=by have:=Nat.min_le_left g (b- 1);omega
 have hb3:q+3≤b- 1:=by have:=Nat.min_le_right g (b- 1);omega
 have h1:v* (q+3)≤u:=Nat.le_trans (Nat.mul_le_mul_left _ hg3) g1
 have h2:b^ n* (v* (q+3))≤p:=by rw[hp];have:=Nat.mul_le_mul_left (b^ n) h1;omega
 have h3:w* (q+1)< b^ n* ((v+1) * (q+1))+1:=by
  have:w≤b^ n* (v+1):=by rw[hw,Nat.mul_add];omega
  have:=Nat.mul_le_mul_right (q+1) this
  rw[Nat.mul_assoc] at this
  omega
 have h4:p< w* (q+1):=by rw[Nat.mul_add];omega
 have h5:b^ n* (v* (q+3))< b^ n* ((v+1) * (q+1)):=by omega
 have h6:=Nat.lt_of_mul_lt_mul_left h5
 rw[Nat.mul_add,Nat.add_mul,Nat.mul_add] at h6
 omega
structure DivI (U v n L:Nat)(R T:List Nat)(k:Nat):Prop where
 len:R.length=L
 dig:∀d∈R,d< MB
 digT:∀d∈T,d< MB
 k_le:k+n+T.length=L
 val:U=ofD MB R+v* (MB^ k* ofD MB T)
 top:ofD MB (R.drop k)< v
theorem DivI.start{U v n L s b:Nat}{R:List Nat}(hR:R.length=L)(hd:∀d∈R,d< MB)(hU:ofD MB R=U)(hn:n≤L)(hb:MB^ (n- 1)≤b)(hn1:1≤n)(hv:v=b* s)(hlt:U< MB^ (L- 1) * s):DivI U v n L R [] (L- n):=by
 refine⟨hR,hd,by simp,by simp;omega,by simp[ofD,hU],?_⟩
 have h1:=b7_ MB (L- n) R (by omega)
 rw[hU] at h1
 have h2:MB^ (L- n) * ofD MB (R.drop (L- n))≤U:=by omega
 have h3:MB^ (L- 1)=MB^ (L- n) * MB^ (n- 1):=by rw[←Nat.pow_add];congr 1;omega
 rw[h3,Nat.mul_assoc] at hlt
 have h4:MB^ (L- n) * ofD MB (R.drop (L- n))< MB^ (L- n) * (MB^ (n- 1) * s):=by omega
 have h5:=Nat.lt_of_mul_lt_mul_left h4
 have h6:MB^ (n- 1) * s≤b* s:=Nat.mul_le_mul_right _ hb
 omega
theorem DivI.parts{U v n L k:Nat}{R T:List Nat}(h:DivI U v n L R T (k+1))(hv:v< MB^ n):
    ofD MB (R.drop (k+n+1))=0∧ofD MB ((R.drop k).take (n+1))=ofD MB (R.drop k)∧ofD MB (R.drop k)< v* MB∧((R.drop k).take (n+1)).length=n+1∧R=R.take k++(R.drop k).take (n+1)++R.drop (k+n+1):=by
 have hl:=h.k_le
 have hlen:=h.len
 have hk:k< R.length:=by omega
 obtain⟨x,hx⟩:∃x,R[k]?=some x:=⟨_,List.getElem?_eq_getElem hk⟩
 have hx1:x< MB:=h.dig x (List.mem_of_getElem? hx)
 have e1:=fw_ MB hx
 have htop:=h.top
 have e2:=b7_ MB n (R.drop (k+1)) (by simp;omega)
 rw[List.drop_drop,show k+1+n=k+n+1 by omega] at e2
 have hz:ofD MB (R.drop (k+n+1))=0:=by
  rcases Nat.eq_zero_or_pos (ofD MB (R.drop (k+n+1))) with h0|h0
  exact h0
  have:MB^ n* 1≤MB^ n* ofD MB (R.drop (k+n+1)):=Nat.mul_le_mul_left _ h0
  omega
 have e3:=b7_ MB (n+1) (R.drop k) (by simp;omega)
 rw[List.drop_drop,show k+(n+1)=k+n+1 by omega,hz] at e3
 refine⟨hz,by omega,?_,by simp;omega,?_⟩
 rw[e1]
 have:MB* (ofD MB (R.drop (k+1))+1)≤MB* v:=Nat.mul_le_mul_left _ htop
 rw[Nat.mul_add] at this
 rw[Nat.mul_comm v MB]
 omega
 rw[List.append_assoc]
 conv=>lhs;rw[←List.take_append_drop k R]
 congr 1
 conv=>lhs;rw[←List.take_append_drop (n+1) (R.drop k)]
 rw[List.drop_drop,show k+(n+1)=k+n+1 by omega]
theorem DivI.next{U v n L k:Nat}{R T A:List Nat}(h:DivI U v n L R T (k+1))(hv:v< MB^ n)(hv0:0< v)(hA:A=padD MB (n+1) (ofD MB (R.drop k) % v)):
    DivI U v n L (R.take k++A++R.drop (k+n+1)) (ofD MB (R.drop k) / v::T) k:=by
 obtain⟨p1,p2,p3,p4,p5⟩:=h.parts hv
 have hl:=h.k_le
 have hlen:=h.len
 have hm:ofD MB (R.drop k) % v< MB^ (n+1):=by
  have:=Nat.mod_lt (ofD MB (R.drop k)) hv0
  have h2:MB^ n≤MB^ (n+1):=Nat.pow_le_pow_right (by decide) (by omega)
  omega
 have hAl:A.length=n+1:=by rw[hA];simp
 have hAv:ofD MB A=ofD MB (R.drop k) % v:=by rw[hA];exact hU_ (by decide) hm
 have hk:(R.take k).length=k:=by simp;omega
 have hval:ofD MB (R.take k++A++R.drop (k+n+1))=ofD MB (R.take k)+MB^ k* (ofD MB (R.drop k) % v):=by
  rw[dh_,dh_,p1,hk,hAv];simp
 refine⟨by simp[hAl];omega,?_,?_,by simp;omega,?_,?_⟩
 intro d hd
 rcases List.mem_append.1 hd with hd|hd
 rcases List.mem_append.1 hd with hd|hd
 exact h.dig d (List.mem_of_mem_take hd)
 rw[hA] at hd;exact ks_ (by decide) _ _ d hd
 exact h.dig d (List.mem_of_mem_drop hd)
 intro d hd
 rcases List.mem_cons.1 hd with rfl|hd
 rw[Nat.div_lt_iff_lt_mul hv0,Nat.mul_comm];exact p3
 exact h.digT d hd
 rw[hval,ofD,h.val,b7_ MB k R (by omega),Nat.pow_succ]
 have e:=Nat.mod_add_div (ofD MB (R.drop k)) v
 have e2:MB^ k* (ofD MB (R.drop k) % v)+v* (MB^ k* (ofD MB (R.drop k) / v))=MB^ k* ofD MB (R.drop k):=by
  rw[Nat.mul_left_comm,←Nat.mul_add,e]
 rw[Nat.mul_add,Nat.mul_add,←Nat.mul_assoc (MB^ k) MB]
 omega
 rw[List.append_assoc,List.drop_append,hk,Nat.sub_self,List.drop_zero,List.drop_of_length_le (by omega),List.nil_append,dh_,p1,hAv]
 simp
 exact Nat.mod_lt _ hv0
theorem DivI.last{U v n L a b s:Nat}{R T:List Nat}(h:DivI U v n L R T 0)(hU:U=a* s)(hv:v=b* s)(hb:0< b)(hs:0< s):ofD MB T=a/ b∧ofD MB R/ s=a % b:=by
 have h1:=h.val
 have h2:=h.top
 rw[List.drop_zero,hv] at h2
 rw[Nat.pow_zero,Nat.one_mul,hU,hv] at h1
 have hq:ofD MB T=a/ b:=by
  have e1:a/ b=a* s/ (b* s):=(Nat.mul_div_mul_right a b hs).symm
  rw[e1,h1,Nat.add_mul_div_left _ _ (Nat.mul_pos hb hs),Nat.div_eq_of_lt h2];omega
 refine⟨hq,?_⟩
 have e2:ofD MB R=(a % b) * s:=by
  rw[hq] at h1
  have e3:a* s=(a % b) * s+b* s* (a/ b):=by
   conv=>lhs;rw[←Nat.mod_add_div a b]
   rw[Nat.add_mul,Nat.mul_right_comm]
  omega
 rw[e2,Nat.mul_div_cancel _ hs]
theorem oP_{n k:Nat}(hl:(digs MB n).length=k+1){d:Nat}(hd:(digs MB n)[k]?=some d):∃lo,n=lo+MB^ k* d∧lo< MB^ k:=by
 refine⟨ofD MB ((digs MB n).take k),?_,?_⟩
 have h1:=bx_ MB hd
 rw[←hl,List.take_length,a7_ (by decide)] at h1
 exact h1
 have:=ds_ (b:=MB) (l:=(digs MB n).take k) fun d hd=>b0_ (by decide) n d (List.mem_of_mem_take hd)
 rwa[List.length_take,Nat.min_eq_left (by omega)] at this
theorem pL_{b s vt k:Nat}(hl:(digs MB b).length=k+1)(hvt:(digs MB b)[k]?=some vt)(h0:1≤vt)(h1:500000000≤vt* s)(h2:(vt+1) * s≤1000000000):
    (digs MB (b* s)).length=k+1∧MB^ k≤b∧b* s< MB^ (k+1)∧∃v lw,(digs MB (b* s))[k]?=some v∧b* s=lw+MB^ k* v∧lw< MB^ k∧500000000≤v∧v< 1000000000:=by
 obtain⟨lo,e1,e2⟩:=oP_ hl hvt
 have hp:0< MB^ k:=Nat.pow_pos (by decide)
 have hb1:MB^ k≤b:=by
  have:=Nat.mul_le_mul_left (MB^ k) h0
  omega
 have hb2:b< MB^ k* (vt+1):=by rw[Nat.mul_add];omega
 have hs0:0< s:=by rcases Nat.eq_zero_or_pos s with h|h; · subst h;simp at h1
                   exact h
 have hv2:b* s< MB^ (k+1):=by
  have h3:b* s< MB^ k* (vt+1) * s:=Nat.mul_lt_mul_of_pos_right hb2 hs0
  have h4:MB^ k* ((vt+1) * s)≤MB^ k* MB:=Nat.mul_le_mul_left _ h2
  rw[←Nat.mul_assoc] at h4
  rw[Nat.pow_succ];omega
 have hv1:MB^ k* 500000000≤b* s:=by
  have h3:MB^ k* vt* s≤b* s:=Nat.mul_le_mul_right _ (by omega)
  have h4:MB^ k* 500000000≤MB^ k* (vt* s):=Nat.mul_le_mul_left _ h1
  rw[←Nat.mul_assoc] at h4
  omega
 have hlen:(digs MB (b* s)).length=k+1:=by
  have u1:=cu_ (b:=MB) (by decide) hv2
  have u2:k< (digs MB (b* s)).length:=by
   refine Nat.lt_of_not_le fun hle=>?_
   have:=ds_ (b:=MB) (b0_ (by decide) (b* s))
   rw[a7_ (by decide)] at this
   have h5:MB^ (digs MB (b* s)).length≤MB^ k:=Nat.pow_le_pow_right (by decide) hle
   omega
  omega
 obtain⟨v,hv⟩:∃v,(digs MB (b* s))[k]?=some v:=⟨_,List.getElem?_eq_getElem (by omega)⟩
 obtain⟨lw,f1,f2⟩:=oP_ hlen hv
 refine⟨hlen,hb1,hv2,v,lw,hv,f1,f2,?_,bq_ (by decide) hv⟩
 have h6:MB^ k* 500000000< MB^ k* (v+1):=by rw[Nat.mul_add];omega
 have:=Nat.lt_of_mul_lt_mul_left h6
 omega
theorem part_two{A:List Nat}{k x0 x1:Nat}(hA:A.length=k+2)(h0:A[k]?=some x0)(h1:A[k+1]?=some x1)(hd:∀d∈A,d< MB):∃lo,ofD MB A=lo+MB^ k* (x1* 1000000000+x0)∧lo< MB^ k:=by
 refine⟨ofD MB (A.take k),?_,?_⟩
 have e1:=bx_ MB h1
 rw[show k+1+1=A.length by omega,List.take_length] at e1
 rw[e1,bx_ MB h0,Nat.pow_succ,Nat.mul_add,Nat.mul_assoc]
 have:MB^ k* (MB* x1)=MB^ k* (x1* 1000000000):=by rw[Nat.mul_comm MB x1]
 omega
 have:=ds_ (b:=MB) (l:=A.take k) fun d h=>hd d (List.mem_of_mem_take h)
 rwa[List.length_take,Nat.min_eq_left (by omega)] at this
def zI(z:Int):List AV:=[mag z.natAbs,bln (decide (z< 0))]
def qC(q:Rat):List AV:=[mag q.num.natAbs,bln (decide (q.num< 0)),mag (q.den- 1)]
def sgn(b:Bool)(m:Nat):Int:=if b then -(m:Int) else m
theorem sg_(z:Int):∀c∈zI z,Closed c:=aa_ (aQ_ _) (aa_ (ad_ _) ab_)
theorem aO_(q:Rat):∀c∈qC q,Closed c:=aa_ (aQ_ _) (aa_ (ad_ _) (aa_ (aQ_ _) ab_))
theorem bX_(z:Int):Closed (.agg (zI z)):=aq_ (sg_ z)
theorem az_(q:Rat):Closed (.agg (qC q)):=aq_ (aO_ q)
theorem er_(n:Nat):Closed (.agg [mag n]):=aq_ (aa_ (aQ_ n) ab_)
theorem df_(b:Bool)(m:Nat):(sgn b m).natAbs=m:=by unfold sgn;split <;> omega
theorem sgn_neg(b:Bool)(m:Nat):decide (sgn b m< 0)=(b && !(m==0)):=by
 unfold sgn
 rw[Bool.eq_iff_iff]
 cases b
 simp
 simp;omega
theorem hP_(z:Int):sgn (decide (z< 0)) z.natAbs=z:=by
 unfold sgn;split
 ·rename_i h;have:=of_decide_eq_true h;omega
 ·rename_i h;have:=of_decide_eq_false (by simpa using h:decide (z< 0)=false);omega
def qs(q:Rat):Nat:=max (bl q.num.natAbs) (bl q.den)
theorem e7_{n:Int}{d:Nat}(hd:0< d):(mkRat n d).num=n/ (Nat.gcd n.natAbs d:Int)∧(mkRat n d).den=d/ Nat.gcd n.natAbs d:=by
 unfold mkRat
 rw[dif_neg (by omega),Rat.normalize_eq]
 exact⟨rfl,rfl⟩
theorem ek_{n:Int}{d:Nat}(hd:0< d):(mkRat n d).num=sgn (decide (n< 0)) (n.natAbs/ Nat.gcd n.natAbs d):=by
 rw[(e7_ hd).1]
 have hg:0< Nat.gcd n.natAbs d:=Nat.gcd_pos_of_pos_right _ hd
 obtain⟨k,hk⟩:=Nat.gcd_dvd_left n.natAbs d
 generalize Nat.gcd n.natAbs d=g at hg hk⊢
 rw[hk,Nat.mul_div_cancel_left _ hg]
 unfold sgn
 split
 ·rename_i h
  have:=of_decide_eq_true h
  have e:n=(g:Int) * (-(k:Int)):=by rw[Int.mul_neg,←Int.natCast_mul,←hk];omega
  rw[e,Int.mul_ediv_cancel_left _ (by omega)]
 ·rename_i h
  have:=of_decide_eq_false (by simpa using h:decide (n< 0)=false)
  have e:n=(g:Int) * (k:Int):=by rw[←Int.natCast_mul,←hk];omega
  rw[e,Int.mul_ediv_cancel_left _ (by omega)]
theorem cT_(a b:Nat):bl (a/ b)≤bl a:=bR_ (Nat.div_le_self _ _)
theorem cU_{n:Int}{d:Nat}(hd:0< d){k:Nat}(h1:bl n.natAbs≤k)(h2:bl d≤k):qs (mkRat n d)≤k:=by
 unfold qs
 rw[ek_ hd,df_,(e7_ hd).2]
 exact Nat.max_le.2 ⟨Nat.le_trans (cT_ _ _) h1,Nat.le_trans (cT_ _ _) h2⟩
theorem jp_(a b:Rat):a+b=mkRat (a.num* b.den+b.num* a.den) (a.den* b.den):=by
 rw[Rat.add_def];unfold mkRat;rw[dif_neg (Nat.mul_ne_zero a.den_nz b.den_nz)]
theorem e6_(a b:Rat):a* b=mkRat (a.num* b.num) (a.den* b.den):=by
 rw[Rat.mul_def];unfold mkRat;rw[dif_neg (Nat.mul_ne_zero a.den_nz b.den_nz)]
theorem b6_(a:Rat):bl a.num.natAbs≤qs a:=Nat.le_max_left _ _
theorem bW_(a:Rat):bl a.den≤qs a:=Nat.le_max_right _ _
theorem jk_{x y:Int}{k:Nat}(hx:bl x.natAbs≤k)(hy:bl y.natAbs≤k):bl (x+y).natAbs≤k+1:=by
 have h1:=bR_ (Int.natAbs_add_le x y)
 have h2:=sm_ x.natAbs y.natAbs
 omega
theorem bu_{x y:Int}{j k:Nat}(hx:bl x.natAbs≤j)(hy:bl y.natAbs≤k):bl (x* y).natAbs≤j+k:=by
 rw[Int.natAbs_mul]
 have:=fp_ x.natAbs y.natAbs
 omega
theorem jo_(a b:Rat):bl (a.num* b.den+b.num* a.den).natAbs≤qs a+qs b+1∧bl (a.den* b.den)≤qs a+qs b:=by
 have h1:=b6_ a;have h2:=bW_ a;have h3:=b6_ b;have h4:=bW_ b
 refine⟨jk_ (bu_ h1 (by simpa using h4)) ?_,?_⟩
 have:=bu_ (x:=b.num) (y:=a.den) h3 (by simpa using h2);omega
 have:=fp_ a.den b.den;omega
theorem iB_(a b:Rat):bl (a.num* b.num).natAbs≤qs a+qs b∧bl (a.den* b.den)≤qs a+qs b:=by
 have h1:=b6_ a;have h2:=bW_ a;have h3:=b6_ b;have h4:=bW_ b
 refine⟨bu_ h1 h3,?_⟩
 have:=fp_ a.den b.den;omega
theorem fG_(a b:Rat):0< a.den* b.den:=Nat.mul_pos a.den_pos b.den_pos
theorem gl_(a b:Rat):qs (a+b)≤qs a+qs b+1:=by
 rw[jp_]
 have h:=jo_ a b
 exact cU_ (fG_ a b) h.1 (by omega)
theorem bZ_(a b:Rat):qs (a* b)≤qs a+qs b:=by
 rw[e6_]
 have h:=iB_ a b
 exact cU_ (fG_ a b) h.1 h.2
theorem eQ_(a:Rat):qs (-a)=qs a:=by unfold qs;rw[Rat.neg_num,Rat.neg_den,Int.natAbs_neg]
theorem qy_(a b:Rat):qs (a- b)≤qs a+qs b+1:=by
 rw[Rat.sub_eq_add_neg]
 have:=gl_ a (-b)
 rwa[eQ_] at this
theorem i6_(a b:Rat)(hb:b≠0):a/ b=mkRat (a.num* sgn (decide (b.num< 0)) b.den) (a.den* b.num.natAbs):=by
 have hn:b.num≠0:=fun h=>hb (Rat.num_eq_zero.1 h)
 rw[Rat.div_def,Rat.inv_def]
 conv=>lhs;rw[←Rat.num_divInt_den a]
 rw[Rat.divInt_mul_divInt]
 unfold sgn
 split
 ·rename_i h
  have h':=of_decide_eq_true h
  have hp:0< a.den* b.num.natAbs:=Nat.mul_pos a.den_pos (by omega)
  have e:(a.den:Int) * b.num= -((a.den* b.num.natAbs:Nat):Int):=by
   rw[Int.natCast_mul,←Int.mul_neg];congr 1;omega
  rw[e,Int.mul_neg]
  generalize a.den* b.num.natAbs=d at hp⊢
  cases d with
  |zero=>omega
  |succ d=>
   rw[show -((d+1:Nat):Int)=Int.negSucc d by omega]
   simp only[Rat.divInt,mkRat]
   rfl
 ·rename_i h
  have h':=of_decide_eq_false (by simpa using h:decide (b.num< 0)=false)
  have e:(a.den:Int) * b.num=((a.den* b.num.natAbs:Nat):Int):=by
   rw[Int.natCast_mul,show(b.num.natAbs:Int)=b.num by omega]
  rw[e];rfl
theorem mn_(a b:Rat):bl (a.num* sgn (decide (b.num< 0)) b.den).natAbs≤qs a+qs b∧bl (a.den* b.num.natAbs)≤qs a+qs b:=by
 have h1:=b6_ a;have h2:=bW_ a;have h3:=b6_ b;have h4:=bW_ b
 refine⟨bu_ h1 (by rw[df_];exact h4),?_⟩
 have:=fp_ a.den b.num.natAbs;omega
theorem dy_(a b:Rat):qs (a/ b)≤qs a+qs b:=by
 by_cases hb:b=0
 subst hb
 rw[Rat.div_def,Rat.inv_zero,Rat.mul_zero]
 have:qs 0=1:=by decide
 have h2:1≤qs 0:=by decide
 omega
 rw[i6_ a b hb]
 have h:=mn_ a b
 have hn:b.num≠0:=fun h=>hb (Rat.num_eq_zero.1 h)
 exact cU_ (Nat.mul_pos a.den_pos (by omega)) h.1 h.2
def sm(q:Rat):Prop:=qs q≤137438953472
instance (q:Rat):Decidable (sm q):=inferInstanceAs (Decidable (_≤_))
def ck(q:Rat):Option Rat:=if qs q≤137438953472 then some q else none
theorem sm2{a b:Rat}(ha:sm a)(hb:sm b):qs a+qs b≤549755813888:=by unfold sm at ha hb;omega
def sgZ(z:Int):Int:=if z=0 then 0 else if z< 0 then -1 else 1
def cmpQ(a b:Rat):Int:=if a< b then -1 else if a=b then 0 else 1
theorem sgZ_num_lt{q:Rat}:sgZ q.num< 0↔q< 0:=by
 unfold sgZ
 have h1:q.num=0↔q=0:=Rat.num_eq_zero
 have h2:0≤q.num↔0≤q:=Rat.num_nonneg
 have h3:q< 0↔¬0≤q:=Rat.not_le.symm
 rw[h3,←h2]
 split
 omega
 split <;> omega
theorem sgZ_num_eq{q:Rat}:sgZ q.num=0↔q=0:=by
 unfold sgZ
 rw[←Rat.num_eq_zero]
 split
 simp[*]
 split <;> simp[*]
theorem sgZ_num_gt{q:Rat}:0< sgZ q.num↔0< q:=by
 have h1:= @sgZ_num_lt q
 have h2:= @sgZ_num_eq q
 have h3:0< q↔¬(q< 0∨q=0):=by
  rw[←Rat.not_le,Rat.le_iff_lt_or_eq]
 rw[h3,←h1,←h2]
 omega
theorem sf_(a b:Rat):cmpQ a b=if a.num* b.den< b.num* a.den then -1 else if a.num* b.den=b.num* a.den then 0 else 1:=by
 unfold cmpQ
 have h1:=Rat.lt_iff a b
 have h2:a=b↔a.num* b.den=b.num* a.den:=by
  constructor
  rintro rfl;rfl
  intro h
  have:=(Rat.mkRat_eq_iff (n₁:=a.num) (n₂:=b.num) a.den_nz b.den_nz).2 h
  rwa[Rat.mkRat_self,Rat.mkRat_self] at this
 by_cases h:a< b
 rw[if_pos h,if_pos (h1.1 h)]
 rw[if_neg h,if_neg (fun x=>h (h1.2 x))]
 by_cases h':a=b
 rw[if_pos h',if_pos (h2.1 h')]
 rw[if_neg h',if_neg (fun x=>h' (h2.2 x))]
def fineQ(k:Nat):Rat:=mkRat 1 (2^ k)
theorem hk_(q:Rat):q.num< 0↔q< 0:=by
 rw[←sgZ_num_lt];unfold sgZ
 split
 omega
 split <;> omega
def absQ(q:Rat):Rat:=mkRat q.num.natAbs q.den
theorem hw_(q:Rat):absQ q=if q< 0 then -q else q:=by
 unfold absQ
 by_cases h:q< 0
 have hn:q.num< 0:=(hk_ q).2 h
 rw[if_pos h]
 have e:(q.num.natAbs:Int)=(-q).num:=by rw[Rat.neg_num];omega
 rw[e,←Rat.neg_den,Rat.mkRat_self]
 have hn:¬q.num< 0:=fun e=>h ((hk_ q).1 e)
 rw[if_neg h]
 have e:(q.num.natAbs:Int)=q.num:=by omega
 rw[e,Rat.mkRat_self]
theorem pa_(q:Rat):(absQ q).num=(q.num.natAbs:Int):=by
 rw[hw_]
 by_cases h:q< 0
 rw[if_pos h,Rat.neg_num];have hn:q.num< 0:=(hk_ q).2 h;omega
 rw[if_neg h];have hn:¬q.num< 0:=fun e=>h ((hk_ q).1 e);omega
theorem pb_(q:Rat):(absQ q).den=q.den:=by
 rw[hw_];split
 exact Rat.neg_den ..
 rfl
theorem qC_abs(q:Rat):qC (absQ q)=zI (sgn false q.num.natAbs)++[mag (q.den- 1)]:=by
 unfold qC zI
 rw[pa_,pb_]
 rfl
def pE(l:List Rat):List (List AV):=l.map qC
def pA(l:List Rat):AV:= .arr (pE l)
def spC(a b:Rat):List AV:=qC a++qC b
@[simp] theorem qC_length (q:Rat):(qC q).length=3:=rfl
@[simp] theorem spC_length (a b:Rat):(spC a b).length=6:=rfl
@[simp] theorem lw_ (l:List Rat):(pE l).length=l.length:=by simp[pE]
theorem bD_{l:List Rat}{i:Nat}{q:Rat}(h:l[i]?=some q):(pE l)[i]?=some (qC q):=by simp[pE,h]
theorem mW_(l:List Rat)(k:Nat):(pE l).take k=pE (l.take k):=by simp[pE]
theorem lx_(l m:List Rat):pE (l++m)=pE l++pE m:=by simp[pE]
theorem iu_(l:List Rat)(i:Nat)(q:Rat):(pE l).set i (qC q)=pE (l.set i q):=by simp[pE,List.map_set]
theorem cO_(l:List Rat):(pE l).all (·.all AV.one)=true:=by
 simp only[pE,List.all_map,List.all_eq_true]
 intro q _
 rfl
theorem fZ_(l:List Rat):∀e∈pE l,e.length=3:=by intro e he;simp[pE] at he;obtain⟨q,_,rfl⟩:=he;rfl
theorem aI_(l:List Rat):∀e∈pE l,∀c∈e,Closed c:=by
 intro e he c hc
 simp[pE] at he
 obtain⟨q,_,rfl⟩:=he
 exact aO_ q c hc
theorem at_(l:List Rat):Closed (pA l):=aX_ (aI_ l)
theorem ht_(a b:Rat):∀c∈spC a b,Closed c:=fun c hc=>(List.mem_append.1 hc).elim (aO_ a c) (aO_ b c)
theorem b4_(a b:Rat):Closed (.agg (spC a b)):=aq_ (ht_ a b)
def zC:List AV:=[.emp,bln false,.emp]
theorem mag0:mag 0= .arr []:=by unfold mag;rw[bo_];rfl
theorem qC0:qC 0=[.arr [],bln false,.arr []]:=by
 show [mag 0,bln (decide ((0:Int)< 0)),mag (1- 1)]=_
 rw[mag0];rfl
def smL(l:List Rat):Prop:=∀q∈l,sm q
instance (l:List Rat):Decidable (smL l):=inferInstanceAs (Decidable (∀q∈l,sm q))
def co_(bf:Int→Bool):List Rat→Rat
 |[]=>0
 |x::l=>l.foldl (fun o y=>if bf (cmpQ y o) then y else o) x
theorem mB_(bf:Int→Bool)(l:List Rat)(y:Rat):co_ bf (l++[y])=if l=[]∨bf (cmpQ y (co_ bf l))=true then y else co_ bf l:=by
 cases l with
 |nil=>simp[co_]
 |cons x l=>simp[co_,List.foldl_append]
theorem pP_{bf:Int→Bool}:∀{l:List Rat},smL l→sm (co_ bf l)
 |[],_=>(by decide:sm 0)
 |x::l,h=>by
  have key:∀(l:List Rat) (o:Rat),sm o→smL l→sm (l.foldl (fun o y=>if bf (cmpQ y o) then y else o) o):=by
   intro l
   induction l with
   |nil=>intro o ho _;exact ho
   |cons y l ih=>
    intro o ho hl
    refine ih _ ?_ fun q hq=>hl q (List.mem_cons_of_mem _ hq)
    show sm (if bf (cmpQ y o)=true then y else o)
    split
    exact hl y (List.mem_cons_self ..)
    exact ho
  exact key l x (h x (List.mem_cons_self ..)) fun q hq=>h q (List.mem_cons_of_mem _ hq)
def minL(l:List Rat):Rat:=co_ (fun c=>decide (c< 0)) l
def maxL(l:List Rat):Rat:=co_ (fun c=>decide (0< c)) l
theorem AEval.lenP{P:Program}{id:Nat}{ev:Operand→Option AV}{hp:Nat→Option ABlk}{c:Call}{x:Operand}{T:Nat}{d:Nat×Nat}{l:List Rat}(hc:c.callee= .builtin .len)(ha:c.args= #[x])(ht:c.argTypes= #[T])(hx:ev x=some (.arr (pE l)))(he:elOf P T=some d):
    AEval P id ev hp (.call c) ⟨.v (.int .i64 (l.length:Nat)),[]⟩ []:= .len hc ha ht hx (by simp[lenA]) he
end Go.Abs
