/- Part Q08 of the proof. -/
import Derived.Test.YtdjfjpeoddmamaaGreatDoorQ07
import Derived.Test.YtdjfjpeoddmamaaGreatDoorChecked
import Derived.KernelRfl
import Derived.Below
set_option linter.all false
namespace Go.Abs
class TZ (P : Program) (t : Nat) (v : outParam (List Value)) : Prop where h : zeroOf P t = some v
class TS (P : Program) (t : Nat) (v : outParam Nat) : Prop where h : szOf P t = some v
class TG (P : Program) (t : Nat) (v : outParam Bool) : Prop where h : isAggB P t = some v
class TB (P : Program) (t : Nat) (v : outParam Nat) : Prop where h : byOf P t = some v
class TE (P : Program) (t : Nat) (v : outParam (Nat × Nat)) : Prop where h : elOf P t = some v
class TU (P : Program) (t : Nat) (v : outParam TypeDesc) : Prop where h : P.underlying t = some v
class TP (P : Program) (t : Nat) (v : outParam (List (Nat × Nat))) : Prop where h : placesOf P t = some v
class TF (P : Program) (t i : Nat) (v : outParam (Nat × Nat)) : Prop where h : fldOf P t i = some v
class TA (P : Program) (t i : Nat) (v : outParam Bool) : Prop where h : fldAgg P t i = some v
structure Hid (q : Prop) : Prop where h : q
section
variable {P : Program} {ops : Array Oper} {nx n j : Nat} {rest : List Oper} {fr : Fr} {hp : Hp} {K : Fps → Fr → Hp → Prop} {dst : Option Nat} {ty : Nat} {pos : String} {after : Array Edge}
theorem k_load {T : Nat} {x : Operand} (h : AR P ops nx n j (⟨dst, .load T x, ty, pos, after, none⟩ :: rest) fr hp K) : AR P ops nx n j (⟨dst, .load T x, ty, pos, after, none⟩ :: rest) fr hp K := h
theorem k_fieldAddr {T f : Nat} {x : Operand} (h : AR P ops nx n j (⟨dst, .fieldAddr T x f, ty, pos, after, none⟩ :: rest) fr hp K) : AR P ops nx n j (⟨dst, .fieldAddr T x f, ty, pos, after, none⟩ :: rest) fr hp K := h
theorem k_bin {b : BinOp} {T yt : Nat} {x y : Operand} (h : AR P ops nx n j (⟨dst, .binOp b T x y yt, ty, pos, after, none⟩ :: rest) fr hp K) : AR P ops nx n j (⟨dst, .binOp b T x y yt, ty, pos, after, none⟩ :: rest) fr hp K := h
theorem k_call {c : Call} (h : AR P ops nx n j (⟨dst, .call c, ty, pos, after, none⟩ :: rest) fr hp K) : AR P ops nx n j (⟨dst, .call c, ty, pos, after, none⟩ :: rest) fr hp K := h
theorem k_move {x : Operand} (h : AR P ops nx n j (⟨dst, .move x, ty, pos, after, none⟩ :: rest) fr hp K) : AR P ops nx n j (⟨dst, .move x, ty, pos, after, none⟩ :: rest) fr hp K := h
theorem k_index {T : Nat} {x y : Operand} (h : AR P ops nx n j (⟨dst, .indexAddr T x y, ty, pos, after, none⟩ :: rest) fr hp K) : AR P ops nx n j (⟨dst, .indexAddr T x y, ty, pos, after, none⟩ :: rest) fr hp K := h
theorem k_assign {x : Operand} (h : AR P ops nx n j (⟨dst, .assign x, ty, pos, after, none⟩ :: rest) fr hp K) : AR P ops nx n j (⟨dst, .assign x, ty, pos, after, none⟩ :: rest) fr hp K := h
theorem k_store {T : Nat} {x y : Operand} (h : AR P ops nx n j (⟨dst, .store T x y, ty, pos, after, none⟩ :: rest) fr hp K) : AR P ops nx n j (⟨dst, .store T x y, ty, pos, after, none⟩ :: rest) fr hp K := h
theorem k_extract {x : Operand} {i : Nat} (h : AR P ops nx n j (⟨dst, .extract x i, ty, pos, after, none⟩ :: rest) fr hp K) : AR P ops nx n j (⟨dst, .extract x i, ty, pos, after, none⟩ :: rest) fr hp K := h
theorem k_box {T : Nat} {x : Operand} (h : AR P ops nx n j (⟨dst, .box T x, ty, pos, after, none⟩ :: rest) fr hp K) : AR P ops nx n j (⟨dst, .box T x, ty, pos, after, none⟩ :: rest) fr hp K := h
theorem k_alloc {T : Nat} (h : AR P ops nx n j (⟨dst, .alloc T, ty, pos, after, none⟩ :: rest) fr hp K) : AR P ops nx n j (⟨dst, .alloc T, ty, pos, after, none⟩ :: rest) fr hp K := h
theorem k_conv {S D : Nat} {x : Operand} (h : AR P ops nx n j (⟨dst, .convert S D x, ty, pos, after, none⟩ :: rest) fr hp K) : AR P ops nx n j (⟨dst, .convert S D x, ty, pos, after, none⟩ :: rest) fr hp K := h
theorem k_field {T f : Nat} {x : Operand} (h : AR P ops nx n j (⟨dst, .field T x f, ty, pos, after, none⟩ :: rest) fr hp K) : AR P ops nx n j (⟨dst, .field T x f, ty, pos, after, none⟩ :: rest) fr hp K := h
theorem k_nilc {x : Operand} (h : AR P ops nx n j (⟨dst, .nilCheck x, ty, pos, after, none⟩ :: rest) fr hp K) : AR P ops nx n j (⟨dst, .nilCheck x, ty, pos, after, none⟩ :: rest) fr hp K := h
theorem k_pick {x y z : Operand} (h : AR P ops nx n j (⟨dst, .pick x y z, ty, pos, after, none⟩ :: rest) fr hp K) : AR P ops nx n j (⟨dst, .pick x y z, ty, pos, after, none⟩ :: rest) fr hp K := h
theorem k_un {b : UnOp} {T : Nat} {x : Operand} (h : AR P ops nx n j (⟨dst, .unOp b T x, ty, pos, after, none⟩ :: rest) fr hp K) : AR P ops nx n j (⟨dst, .unOp b T x, ty, pos, after, none⟩ :: rest) fr hp K := h
theorem k_build {T : Nat} {ps : Array (Nat × Operand)} (h : AR P ops nx n j (⟨dst, .build T ps, ty, pos, after, none⟩ :: rest) fr hp K) : AR P ops nx n j (⟨dst, .build T ps, ty, pos, after, none⟩ :: rest) fr hp K := h
theorem k_eql {T yt : Nat} {x y : Operand} (h : AR P ops nx n j (⟨dst, .binOp .eql T x y yt, ty, pos, after, none⟩ :: rest) fr hp K) : AR P ops nx n j (⟨dst, .binOp .eql T x y yt, ty, pos, after, none⟩ :: rest) fr hp K := h
theorem k_neq {T yt : Nat} {x y : Operand} (h : AR P ops nx n j (⟨dst, .binOp .neq T x y yt, ty, pos, after, none⟩ :: rest) fr hp K) : AR P ops nx n j (⟨dst, .binOp .neq T x y yt, ty, pos, after, none⟩ :: rest) fr hp K := h
theorem k_lss {T yt : Nat} {x y : Operand} (h : AR P ops nx n j (⟨dst, .binOp .lss T x y yt, ty, pos, after, none⟩ :: rest) fr hp K) : AR P ops nx n j (⟨dst, .binOp .lss T x y yt, ty, pos, after, none⟩ :: rest) fr hp K := h
theorem k_leq {T yt : Nat} {x y : Operand} (h : AR P ops nx n j (⟨dst, .binOp .leq T x y yt, ty, pos, after, none⟩ :: rest) fr hp K) : AR P ops nx n j (⟨dst, .binOp .leq T x y yt, ty, pos, after, none⟩ :: rest) fr hp K := h
theorem k_gtr {T yt : Nat} {x y : Operand} (h : AR P ops nx n j (⟨dst, .binOp .gtr T x y yt, ty, pos, after, none⟩ :: rest) fr hp K) : AR P ops nx n j (⟨dst, .binOp .gtr T x y yt, ty, pos, after, none⟩ :: rest) fr hp K := h
theorem k_geq {T yt : Nat} {x y : Operand} (h : AR P ops nx n j (⟨dst, .binOp .geq T x y yt, ty, pos, after, none⟩ :: rest) fr hp K) : AR P ops nx n j (⟨dst, .binOp .geq T x y yt, ty, pos, after, none⟩ :: rest) fr hp K := h
theorem k_add {T yt : Nat} {x y : Operand} (h : AR P ops nx n j (⟨dst, .binOp .add T x y yt, ty, pos, after, none⟩ :: rest) fr hp K) : AR P ops nx n j (⟨dst, .binOp .add T x y yt, ty, pos, after, none⟩ :: rest) fr hp K := h
theorem k_sub {T yt : Nat} {x y : Operand} (h : AR P ops nx n j (⟨dst, .binOp .sub T x y yt, ty, pos, after, none⟩ :: rest) fr hp K) : AR P ops nx n j (⟨dst, .binOp .sub T x y yt, ty, pos, after, none⟩ :: rest) fr hp K := h
theorem k_mul {T yt : Nat} {x y : Operand} (h : AR P ops nx n j (⟨dst, .binOp .mul T x y yt, ty, pos, after, none⟩ :: rest) fr hp K) : AR P ops nx n j (⟨dst, .binOp .mul T x y yt, ty, pos, after, none⟩ :: rest) fr hp K := h
theorem k_quo {T yt : Nat} {x y : Operand} (h : AR P ops nx n j (⟨dst, .binOp .quo T x y yt, ty, pos, after, none⟩ :: rest) fr hp K) : AR P ops nx n j (⟨dst, .binOp .quo T x y yt, ty, pos, after, none⟩ :: rest) fr hp K := h
theorem k_rem {T yt : Nat} {x y : Operand} (h : AR P ops nx n j (⟨dst, .binOp .rem T x y yt, ty, pos, after, none⟩ :: rest) fr hp K) : AR P ops nx n j (⟨dst, .binOp .rem T x y yt, ty, pos, after, none⟩ :: rest) fr hp K := h
theorem k_len {aa : Array Operand} {tt : Array Nat} (h : AR P ops nx n j (⟨dst, .call ⟨.builtin .len, aa, tt⟩, ty, pos, after, none⟩ :: rest) fr hp K) : AR P ops nx n j (⟨dst, .call ⟨.builtin .len, aa, tt⟩, ty, pos, after, none⟩ :: rest) fr hp K := h
theorem k_append {aa : Array Operand} {tt : Array Nat} (h : AR P ops nx n j (⟨dst, .call ⟨.builtin .append, aa, tt⟩, ty, pos, after, none⟩ :: rest) fr hp K) : AR P ops nx n j (⟨dst, .call ⟨.builtin .append, aa, tt⟩, ty, pos, after, none⟩ :: rest) fr hp K := h
end
section
variable {P : Program} {ops : Array Oper} {nx n j : Nat} {rest : List Oper} {fr : Fr} {hp : Hp} {K : Fps → Fr → Hp → Prop} {dst : Option Nat} {op : Op} {ty : Nat} {pos : String} {after : Array Edge} {g t d : Nat} {want b : Bool}
theorem g_y (ht : (ops[g]?).bind (·.dst) = some t) (hx : evF (look fr) (.tmp t) = some (.v (.bool want))) (h : AR P ops nx n j (⟨dst, op, ty, pos, after, none⟩ :: rest) fr hp K) : AR P ops nx n j (⟨dst, op, ty, pos, after, some (g, want)⟩ :: rest) fr hp K := by
 obtain ⟨us, st', ⟨u, rd, us', he, ⟨h1, h2⟩, hd, hr⟩, hk⟩ := h
 exact ⟨us, st', ⟨u, rd, us', he, ⟨h1, t, .bool want, ht, hx, .inl ⟨rfl, h2⟩⟩, hd, hr⟩, hk⟩
theorem g_n (ht : (ops[g]?).bind (·.dst) = some t) (hx : evF (look fr) (.tmp t) = some (.v (.bool b))) (hb : (b == want) = false) (hnd : notDefer op = true) (hd : Nat.blt d n = true) (h : AR P ops nx n (j + 1) rest ((d, .v undef) :: fr) hp fun fps f h => K (([], []) :: fps) f h) : AR P ops nx n j (⟨some d, op, ty, pos, after, some (g, want)⟩ :: rest) fr hp K :=
 AR.opN ht hx (gn (by cases b <;> cases want <;> first | rfl | exact absurd hb (by decide))) hnd hd h
theorem g_nn (ht : (ops[g]?).bind (·.dst) = some t) (hx : evF (look fr) (.tmp t) = some (.v (.bool b))) (hb : (b == want) = false) (hnd : notDefer op = true) (h : AR P ops nx n (j + 1) rest fr hp fun fps f h => K (([], []) :: fps) f h) : AR P ops nx n j (⟨none, op, ty, pos, after, some (g, want)⟩ :: rest) fr hp K :=
 AR.opNn ht hx (gn (by cases b <;> cases want <;> first | rfl | exact absurd hb (by decide))) hnd h
theorem vT {P : Program} {p : Bool} {f : Sem Value} (h : ∀ w, f.run P w = .ok (.bool p) w) (e : p = true) : ∀ w, f.run P w = .ok (.bool true) w := e ▸ h
theorem vF {P : Program} {p : Bool} {f : Sem Value} (h : ∀ w, f.run P w = .ok (.bool p) w) (e : p = false) : ∀ w, f.run P w = .ok (.bool false) w := e ▸ h
end
theorem a_1 {p q : Prop} (h : q) (f : Hid q → p := by
 intro h0
 first
 | (apply k_load; first | exact o_0 (.load_l1 rfl rfl rfl TG.h rfl) h0.h | exact o_0 (.load_l rfl rfl rfl TG.h TS.h (nle rfl)) h0.h | exact o_0 (.load_a1 rfl rfl TG.h rfl) h0.h | exact o_0 (.load_a rfl rfl TG.h TS.h (nle rfl)) h0.h | exact o_0 (.load_l rfl rfl (by assumption) TG.h TS.h (by exact nle rfl)) h0.h | exact o_0 (.load_l1 rfl rfl (by assumption) TG.h (by exact rfl)) h0.h | exact o_0 (.load_a rfl (by assumption) TG.h TS.h (by exact nle rfl)) h0.h | exact o_0 (.load_a1 rfl (by assumption) TG.h (by exact rfl)) h0.h)
 | (apply k_move; exact o_0 (.move rfl) h0.h)
 | (apply k_fieldAddr; first | exact o_0 (.fieldAddr_l rfl TF.h (by decide)) h0.h | exact o_0 (.fieldAddr_a rfl TF.h (by decide)) h0.h)
 | (apply k_bin; first | (apply k_eql; first | exact o_0 (.bin rfl rfl binI_eql) h0.h | exact o_0 (.bin rfl rfl (binB_eql TU.h)) h0.h | exact o_0 (.bin rfl rfl binS_eql) h0.h | exact o_0 (.nilq_v rfl rfl TE.h) h0.h | exact o_0 (.nilq_arr rfl (by assumption) rfl TE.h) h0.h) | (apply k_neq; first | exact o_0 (.bin rfl rfl binI_neq) h0.h | exact o_0 (.bin rfl rfl (binB_neq TU.h)) h0.h | exact o_0 (.bin rfl rfl binS_neq) h0.h) | (apply k_lss; exact o_0 (.bin rfl rfl binI_lss) h0.h) | (apply k_leq; exact o_0 (.bin rfl rfl binI_leq) h0.h) | (apply k_gtr; exact o_0 (.bin rfl rfl binI_gtr) h0.h) | (apply k_geq; exact o_0 (.bin rfl rfl binI_geq) h0.h) | (apply k_add; first | exact o_0 (.bin rfl rfl (bI64_add (by omega))) h0.h | exact o_0 (.bin rfl rfl (bU64_add (by omega))) h0.h | exact o_0 (.bin rfl rfl (bU32_add (by omega))) h0.h | exact o_0 (.bin rfl rfl (bU8_add (by omega))) h0.h) | (apply k_sub; first | exact o_0 (.bin rfl rfl (bI64_sub (by omega))) h0.h | exact o_0 (.bin rfl rfl (bU64_sub (by omega))) h0.h | exact o_0 (.bin rfl rfl (bU32_sub (by omega))) h0.h | exact o_0 (.bin rfl rfl (bU8_sub (by omega))) h0.h) | (apply k_mul; first | exact o_0 (.bin rfl rfl (bI64_mul (by omega))) h0.h | exact o_0 (.bin rfl rfl (bU64_mul (by omega))) h0.h) | (apply k_quo; first | exact o_0 (.bin rfl rfl (bI64_quo (by omega))) h0.h | exact o_0 (.bin rfl rfl (bU64_quo (by omega))) h0.h | exact o_0 (.bin rfl rfl (bU32_quo (by omega))) h0.h) | (apply k_rem; first | exact o_0 (.bin rfl rfl (bI64_rem (by omega))) h0.h | exact o_0 (.bin rfl rfl (bU64_rem (by omega))) h0.h | exact o_0 (.bin rfl rfl (bU32_rem (by omega))) h0.h | exact o_0 (.bin rfl rfl (bU8_rem (by omega))) h0.h))
 | (apply k_call; first | (apply k_len; first | exact o_0 (.lenD rfl rfl rfl rfl TE.h) h0.h | exact o_0 (.lenI rfl rfl rfl rfl TE.h) h0.h | exact o_0 (.lenP rfl rfl rfl rfl TE.h) h0.h | exact o_0 (.lenC rfl rfl rfl rfl TE.h) h0.h | exact o_0 (.lenR rfl rfl rfl rfl TE.h) h0.h | exact o_0 (.len rfl rfl rfl rfl rfl TE.h) h0.h) | (apply k_append; first | exact o_1 (.append_e rfl rfl rfl TE.h rfl rfl rfl (.lsl rfl (nle rfl)) (by first | assumption | (simp; done)) TZ.h rfl TB.h (by first | rfl | assumption | (simp; done) | (simp; omega) | omega) (by first | (simp [maxLen]; done) | (simp [maxLen]; omega))) h0.h | exact o_2 (.append_l rfl rfl rfl TE.h rfl rfl rfl rfl rfl (by first | rfl | assumption | (simp; done) | (simp; omega) | omega) (by first | exact dE_one _ | exact iE_one _ | exact pE_one _ | exact cE_one _ | exact rE_one _ | rfl | simp) (by first | rfl | exact dE_one _ | exact iE_one _ | exact pE_one _ | exact cE_one _ | exact rE_one _ | simp) rfl (.lsl rfl (nle rfl)) TZ.h rfl TB.h (by first | rfl | assumption | (simp; done) | (simp; omega) | omega) (by first | (simp [maxLen]; done) | (simp [maxLen]; omega))) h0.h) | exact o_0 (.builtinV (vs := [_, _]) rfl rfl bmin) h0.h | exact o_0 (.builtinV (vs := [_, _]) rfl rfl bmax) h0.h)
 | (apply k_index; first | exact o_0 (.index_l rfl rfl (by omega) (by omega) TE.h) h0.h | exact o_0 (.index_a rfl rfl (by omega) rfl rfl TE.h) h0.h | exact o_0 (.index_a rfl rfl (by omega) (by assumption) (by rfl) TE.h) h0.h)
 | (apply k_assign; exact o_0 (.assign rfl) h0.h)
 | (apply k_store; exact o_1n (.store rfl rfl rfl rfl rfl rfl TS.h (nle rfl)) h0.h)
 | (apply k_extract; exact o_0 (.extract rfl rfl) h0.h)
 | (apply k_box; exact o_1 (.box rfl rfl) h0.h)
 | (apply k_alloc; exact o_1 (.alloc TZ.h) h0.h)
 | (apply k_conv; first | exact o_0 (.conv rfl (cI64 (by omega) TU.h TU.h)) h0.h | exact o_0 (.conv rfl (cU64 (by omega) TU.h TU.h)) h0.h | exact o_0 (.conv rfl (cU32 (by omega) TU.h TU.h)) h0.h | exact o_0 (.conv rfl (cU8 (by omega) TU.h TU.h)) h0.h)
 | (apply k_field; first | exact o_0 (.field1 rfl TF.h TA.h rfl) h0.h | exact o_0 (.field rfl TF.h TA.h (nle rfl)) h0.h)
 | (apply k_nilc; exact o_0 (.nilCheck rfl rfl) h0.h)
 | (apply k_pick; first | exact o_0 (.pick rfl (fun _ => rfl) (fun _ => rfl)) h0.h | exact o_0 (.pick rfl (fun _ => rfl) (fun h => absurd h (by decide))) h0.h | exact o_0 (.pick rfl (fun h => absurd h (by decide)) (fun _ => rfl)) h0.h)
 | (apply k_un; first | exact o_0 (.un rfl un_not) h0.h | exact o_0 (.un rfl (uI64_neg (by omega))) h0.h)
 | (apply k_build; exact o_0 (.build TZ.h TP.h rfl rfl) h0.h)
 | exact o_0 (.makeFunc rfl rfl) h0.h
 | exact o_1 (.buildSlice TE.h TZ.h rfl (by decide) rfl rfl rfl (by first | (simp; done) | (simp [setAt_length, ofV]; done) | rfl)) h0.h
 | exact o_1 (.makeSlice rfl rfl TE.h TZ.h rfl TB.h (by first | omega | (simp; done) | (simp; omega)) (by first | omega | (simp; done) | (simp; omega)) (by unfold maxLen; first | omega | (simp; done) | (simp; omega))) h0.h
 | exact o_0 (.lookup rfl rfl TU.h TU.h rfl rfl rfl) h0.h
 | exact g_y rfl rfl h0.h
 | exact g_n rfl rfl rfl rfl rfl h0.h
 | exact g_nn rfl rfl rfl rfl h0.h) : p := f ⟨h⟩
theorem a_2 {p q : Prop} (h : q) (f : Hid q → p := by intro h0; (iterate 2 (refine a_1 ?_)); exact h0.h) : p := f ⟨h⟩
theorem a_3 {p q : Prop} (h : q) (f : Hid q → p := by intro h0; (iterate 3 (refine a_1 ?_)); exact h0.h) : p := f ⟨h⟩
theorem a_4 {p q : Prop} (h : q) (f : Hid q → p := by intro h0; (iterate 4 (refine a_1 ?_)); exact h0.h) : p := f ⟨h⟩
theorem a_5 {p q : Prop} (h : q) (f : Hid q → p := by intro h0; (iterate 5 (refine a_1 ?_)); exact h0.h) : p := f ⟨h⟩
theorem a_6 {p q : Prop} (h : q) (f : Hid q → p := by intro h0; (iterate 6 (refine a_1 ?_)); exact h0.h) : p := f ⟨h⟩
theorem a_7 {p q : Prop} (h : q) (f : Hid q → p := by intro h0; (iterate 7 (refine a_1 ?_)); exact h0.h) : p := f ⟨h⟩
theorem a_8 {p q : Prop} (h : q) (f : Hid q → p := by intro h0; (iterate 8 (refine a_1 ?_)); exact h0.h) : p := f ⟨h⟩
theorem a_z {p q : Prop} (h : q) (f : Hid q → p := by intro h0; (repeat (refine a_1 ?_)); exact AR.nil h0.h) : p := f ⟨h⟩
theorem c_s {A : Prop} (c : A) {p q : Prop} (h : q) (f : A → Hid q → p := by intro c0 h0; (repeat (refine a_1 ?_)); first | exact AR.op0 (.call rfl rfl rfl c0) rfl rfl h0.h | exact AR.op0n (.call rfl rfl rfl c0) rfl h0.h) : p := f c ⟨h⟩
section
variable {P : Program} {ops : Array Oper} {nx n : Nat} {fr : Fr} {hp : Hp}
theorem r_z {ρ : Option Nat} {Q : Exit → AState → Prop} {id : Nat} {y : Code} (m : Nat) {q : Prop} (h : q) (f : Hid q → AR P ops nx n 0 ops.toList fr hp fun _ f h => thenA (AWp ρ P y Q) Q .normal ⟨f, h, nx + m, n⟩ := by intro h0; (repeat (refine a_1 ?_)); exact AR.nil h0.h) (hsz : ops.size = m := by exact rfl) : AWp ρ P (.seq (.region id ops false) y) Q ⟨fr, hp, nx, n⟩ := s_r m (f ⟨h⟩) hsz
theorem r_c {A : Prop} (m : Nat) (c : A) {ρ : Option Nat} {Q : Exit → AState → Prop} {id : Nat} {y : Code} {q : Prop} (h : q) (f : A → Hid q → AR P ops nx n 0 ops.toList fr hp fun _ f h => thenA (AWp ρ P y Q) Q .normal ⟨f, h, nx + m, n⟩ := by intro c0 h0; (repeat (refine a_1 ?_)); first | exact AR.op0 (.call rfl rfl rfl c0) rfl rfl h0.h | exact AR.op0n (.call rfl rfl rfl c0) rfl h0.h) (hsz : ops.size = m := by exact rfl) : AWp ρ P (.seq (.region id ops false) y) Q ⟨fr, hp, nx, n⟩ := s_r m (f c ⟨h⟩) hsz
end
section
variable {P : Program} {ops : Array Oper} {nx n j : Nat} {rest : List Oper} {fr : Fr} {hp : Hp} {K : Fps → Fr → Hp → Prop} {dst : Option Nat} {op : Op} {ty : Nat} {pos : String} {after : Array Edge} {g t d : Nat} {want b : Bool}
end
section
variable {P : Program} {ops : Array Oper} {nx n : Nat} {fr : Fr} {hp : Hp}
end
end Go.Abs
namespace Go.Proofs.YtdjfjpeoddmamaaGreatDoor
open Go.Abs
theorem hmix : Tryz.prog.follows .mixedOrders = true := by kernel_rfl
instance tz_2 : TZ Tryz.prog 2 [Value.int IntKind.i64 0] := ⟨by kernel_rfl⟩
instance ts_2 : TS Tryz.prog 2 1 := ⟨by kernel_rfl⟩
instance tg_2 : TG Tryz.prog 2 false := ⟨by kernel_rfl⟩
instance tb_2 : TB Tryz.prog 2 8 := ⟨by kernel_rfl⟩
instance tu_2 : TU Tryz.prog 2 (.int .i64) := ⟨by kernel_rfl⟩
instance tz_3 : TZ Tryz.prog 3 [Value.int IntKind.i64 0] := ⟨by kernel_rfl⟩
instance ts_3 : TS Tryz.prog 3 1 := ⟨by kernel_rfl⟩
instance tg_3 : TG Tryz.prog 3 false := ⟨by kernel_rfl⟩
instance tb_3 : TB Tryz.prog 3 8 := ⟨by kernel_rfl⟩
instance tu_3 : TU Tryz.prog 3 (.int .i64) := ⟨by kernel_rfl⟩
instance tz_4 : TZ Tryz.prog 4 [Value.bool false] := ⟨by kernel_rfl⟩
instance ts_4 : TS Tryz.prog 4 1 := ⟨by kernel_rfl⟩
instance tg_4 : TG Tryz.prog 4 false := ⟨by kernel_rfl⟩
instance tb_4 : TB Tryz.prog 4 1 := ⟨by kernel_rfl⟩
instance tu_4 : TU Tryz.prog 4 .bool := ⟨by kernel_rfl⟩
instance tz_5 : TZ Tryz.prog 5 [Value.int IntKind.u8 0] := ⟨by kernel_rfl⟩
instance ts_5 : TS Tryz.prog 5 1 := ⟨by kernel_rfl⟩
instance tg_5 : TG Tryz.prog 5 false := ⟨by kernel_rfl⟩
instance tb_5 : TB Tryz.prog 5 1 := ⟨by kernel_rfl⟩
instance tu_5 : TU Tryz.prog 5 (.int .u8) := ⟨by kernel_rfl⟩
instance ts_9 : TS Tryz.prog 9 1 := ⟨by kernel_rfl⟩
instance tg_9 : TG Tryz.prog 9 false := ⟨by kernel_rfl⟩
instance tb_9 : TB Tryz.prog 9 16 := ⟨by kernel_rfl⟩
instance tu_9 : TU Tryz.prog 9 .string := ⟨by kernel_rfl⟩
instance tz_23 : TZ Tryz.prog 23 [Value.int IntKind.i64 0, Value.int IntKind.i64 0, Value.int IntKind.u8 0] := ⟨by kernel_rfl⟩
instance ts_23 : TS Tryz.prog 23 3 := ⟨by kernel_rfl⟩
instance tg_23 : TG Tryz.prog 23 true := ⟨by kernel_rfl⟩
instance tb_23 : TB Tryz.prog 23 24 := ⟨by kernel_rfl⟩
instance tp_23 : TP Tryz.prog 23 [(0, 1), (1, 1), (2, 1)] := ⟨by kernel_rfl⟩
instance tf_23_0 : TF Tryz.prog 23 0 (0, 1) := ⟨by kernel_rfl⟩
instance tga_23_0 : TA Tryz.prog 23 0 false := ⟨by kernel_rfl⟩
instance tf_23_1 : TF Tryz.prog 23 1 (1, 1) := ⟨by kernel_rfl⟩
instance tga_23_1 : TA Tryz.prog 23 1 false := ⟨by kernel_rfl⟩
instance tf_23_2 : TF Tryz.prog 23 2 (2, 1) := ⟨by kernel_rfl⟩
instance tga_23_2 : TA Tryz.prog 23 2 false := ⟨by kernel_rfl⟩
instance tz_25 : TZ Tryz.prog 25 [Value.int IntKind.i64 0, Value.int IntKind.i64 0, Value.int IntKind.u8 0, Value.int IntKind.i64 0, Value.int IntKind.i64 0, Value.int IntKind.u8 0] := ⟨by kernel_rfl⟩
instance ts_25 : TS Tryz.prog 25 6 := ⟨by kernel_rfl⟩
instance tg_25 : TG Tryz.prog 25 true := ⟨by kernel_rfl⟩
instance tb_25 : TB Tryz.prog 25 48 := ⟨by kernel_rfl⟩
instance tp_25 : TP Tryz.prog 25 [(0, 3), (3, 3)] := ⟨by kernel_rfl⟩
instance tf_25_0 : TF Tryz.prog 25 0 (0, 3) := ⟨by kernel_rfl⟩
instance tga_25_0 : TA Tryz.prog 25 0 true := ⟨by kernel_rfl⟩
instance tf_25_1 : TF Tryz.prog 25 1 (3, 3) := ⟨by kernel_rfl⟩
instance tga_25_1 : TA Tryz.prog 25 1 true := ⟨by kernel_rfl⟩
instance tz_26 : TZ Tryz.prog 26 [Value.slice none 0 0] := ⟨by kernel_rfl⟩
instance ts_26 : TS Tryz.prog 26 1 := ⟨by kernel_rfl⟩
instance tg_26 : TG Tryz.prog 26 false := ⟨by kernel_rfl⟩
instance tb_26 : TB Tryz.prog 26 24 := ⟨by kernel_rfl⟩
instance te_26 : TE Tryz.prog 26 (23, 3) := ⟨by kernel_rfl⟩
instance tz_29 : TZ Tryz.prog 29 [Value.slice none 0 0] := ⟨by kernel_rfl⟩
instance ts_29 : TS Tryz.prog 29 1 := ⟨by kernel_rfl⟩
instance tg_29 : TG Tryz.prog 29 false := ⟨by kernel_rfl⟩
instance tb_29 : TB Tryz.prog 29 24 := ⟨by kernel_rfl⟩
instance te_29 : TE Tryz.prog 29 (236, 1) := ⟨by kernel_rfl⟩
instance tz_31 : TZ Tryz.prog 31 [Value.slice none 0 0] := ⟨by kernel_rfl⟩
instance ts_31 : TS Tryz.prog 31 1 := ⟨by kernel_rfl⟩
instance tg_31 : TG Tryz.prog 31 true := ⟨by kernel_rfl⟩
instance tb_31 : TB Tryz.prog 31 24 := ⟨by kernel_rfl⟩
instance tp_31 : TP Tryz.prog 31 [(0, 1)] := ⟨by kernel_rfl⟩
instance tf_31_0 : TF Tryz.prog 31 0 (0, 1) := ⟨by kernel_rfl⟩
instance tga_31_0 : TA Tryz.prog 31 0 false := ⟨by kernel_rfl⟩
instance tz_33 : TZ Tryz.prog 33 [Value.slice none 0 0, Value.bool false] := ⟨by kernel_rfl⟩
instance ts_33 : TS Tryz.prog 33 2 := ⟨by kernel_rfl⟩
instance tg_33 : TG Tryz.prog 33 true := ⟨by kernel_rfl⟩
instance tb_33 : TB Tryz.prog 33 32 := ⟨by kernel_rfl⟩
instance tp_33 : TP Tryz.prog 33 [(0, 1), (1, 1)] := ⟨by kernel_rfl⟩
instance tf_33_0 : TF Tryz.prog 33 0 (0, 1) := ⟨by kernel_rfl⟩
instance tga_33_0 : TA Tryz.prog 33 0 true := ⟨by kernel_rfl⟩
instance tf_33_1 : TF Tryz.prog 33 1 (1, 1) := ⟨by kernel_rfl⟩
instance tga_33_1 : TA Tryz.prog 33 1 false := ⟨by kernel_rfl⟩
instance tz_35 : TZ Tryz.prog 35 [Value.slice none 0 0, Value.bool false, Value.slice none 0 0] := ⟨by kernel_rfl⟩
instance ts_35 : TS Tryz.prog 35 3 := ⟨by kernel_rfl⟩
instance tg_35 : TG Tryz.prog 35 true := ⟨by kernel_rfl⟩
instance tb_35 : TB Tryz.prog 35 56 := ⟨by kernel_rfl⟩
instance tp_35 : TP Tryz.prog 35 [(0, 2), (2, 1)] := ⟨by kernel_rfl⟩
instance tf_35_0 : TF Tryz.prog 35 0 (0, 2) := ⟨by kernel_rfl⟩
instance tga_35_0 : TA Tryz.prog 35 0 true := ⟨by kernel_rfl⟩
instance tf_35_1 : TF Tryz.prog 35 1 (2, 1) := ⟨by kernel_rfl⟩
instance tga_35_1 : TA Tryz.prog 35 1 true := ⟨by kernel_rfl⟩
instance tz_37 : TZ Tryz.prog 37 [Value.slice none 0 0, Value.bool false, Value.slice none 0 0, Value.slice none 0 0, Value.bool false, Value.slice none 0 0] := ⟨by kernel_rfl⟩
instance ts_37 : TS Tryz.prog 37 6 := ⟨by kernel_rfl⟩
instance tg_37 : TG Tryz.prog 37 true := ⟨by kernel_rfl⟩
instance tb_37 : TB Tryz.prog 37 112 := ⟨by kernel_rfl⟩
instance tp_37 : TP Tryz.prog 37 [(0, 3), (3, 3)] := ⟨by kernel_rfl⟩
instance tf_37_0 : TF Tryz.prog 37 0 (0, 3) := ⟨by kernel_rfl⟩
instance tga_37_0 : TA Tryz.prog 37 0 true := ⟨by kernel_rfl⟩
instance tf_37_1 : TF Tryz.prog 37 1 (3, 3) := ⟨by kernel_rfl⟩
instance tga_37_1 : TA Tryz.prog 37 1 true := ⟨by kernel_rfl⟩
instance tz_38 : TZ Tryz.prog 38 [Value.slice none 0 0] := ⟨by kernel_rfl⟩
instance ts_38 : TS Tryz.prog 38 1 := ⟨by kernel_rfl⟩
instance tg_38 : TG Tryz.prog 38 false := ⟨by kernel_rfl⟩
instance tb_38 : TB Tryz.prog 38 24 := ⟨by kernel_rfl⟩
instance te_38 : TE Tryz.prog 38 (3, 1) := ⟨by kernel_rfl⟩
instance tz_40 : TZ Tryz.prog 40 [Value.int IntKind.i64 0, Value.slice none 0 0] := ⟨by kernel_rfl⟩
instance ts_40 : TS Tryz.prog 40 2 := ⟨by kernel_rfl⟩
instance tg_40 : TG Tryz.prog 40 true := ⟨by kernel_rfl⟩
instance tb_40 : TB Tryz.prog 40 32 := ⟨by kernel_rfl⟩
instance tp_40 : TP Tryz.prog 40 [(0, 1), (1, 1)] := ⟨by kernel_rfl⟩
instance tf_40_0 : TF Tryz.prog 40 0 (0, 1) := ⟨by kernel_rfl⟩
instance tga_40_0 : TA Tryz.prog 40 0 false := ⟨by kernel_rfl⟩
instance tf_40_1 : TF Tryz.prog 40 1 (1, 1) := ⟨by kernel_rfl⟩
instance tga_40_1 : TA Tryz.prog 40 1 false := ⟨by kernel_rfl⟩
instance tz_42 : TZ Tryz.prog 42 [Value.int IntKind.i64 0, Value.slice none 0 0, Value.int IntKind.i64 0, Value.slice none 0 0] := ⟨by kernel_rfl⟩
instance ts_42 : TS Tryz.prog 42 4 := ⟨by kernel_rfl⟩
instance tg_42 : TG Tryz.prog 42 true := ⟨by kernel_rfl⟩
instance tb_42 : TB Tryz.prog 42 64 := ⟨by kernel_rfl⟩
instance tp_42 : TP Tryz.prog 42 [(0, 2), (2, 2)] := ⟨by kernel_rfl⟩
instance tf_42_0 : TF Tryz.prog 42 0 (0, 2) := ⟨by kernel_rfl⟩
instance tga_42_0 : TA Tryz.prog 42 0 true := ⟨by kernel_rfl⟩
instance tf_42_1 : TF Tryz.prog 42 1 (2, 2) := ⟨by kernel_rfl⟩
instance tga_42_1 : TA Tryz.prog 42 1 true := ⟨by kernel_rfl⟩
instance tz_44 : TZ Tryz.prog 44 [Value.int IntKind.i64 0, Value.slice none 0 0, Value.int IntKind.i64 0, Value.slice none 0 0, Value.int IntKind.i64 0, Value.slice none 0 0, Value.int IntKind.i64 0, Value.slice none 0 0] := ⟨by kernel_rfl⟩
instance ts_44 : TS Tryz.prog 44 8 := ⟨by kernel_rfl⟩
instance tg_44 : TG Tryz.prog 44 true := ⟨by kernel_rfl⟩
instance tb_44 : TB Tryz.prog 44 128 := ⟨by kernel_rfl⟩
instance tp_44 : TP Tryz.prog 44 [(0, 4), (4, 4)] := ⟨by kernel_rfl⟩
instance tf_44_0 : TF Tryz.prog 44 0 (0, 4) := ⟨by kernel_rfl⟩
instance tga_44_0 : TA Tryz.prog 44 0 true := ⟨by kernel_rfl⟩
instance tf_44_1 : TF Tryz.prog 44 1 (4, 4) := ⟨by kernel_rfl⟩
instance tga_44_1 : TA Tryz.prog 44 1 true := ⟨by kernel_rfl⟩
instance tz_49 : TZ Tryz.prog 49 [Value.slice none 0 0] := ⟨by kernel_rfl⟩
instance ts_49 : TS Tryz.prog 49 1 := ⟨by kernel_rfl⟩
instance tg_49 : TG Tryz.prog 49 false := ⟨by kernel_rfl⟩
instance tb_49 : TB Tryz.prog 49 24 := ⟨by kernel_rfl⟩
instance te_49 : TE Tryz.prog 49 (35, 3) := ⟨by kernel_rfl⟩
instance tz_51 : TZ Tryz.prog 51 [Value.slice none 0 0, Value.bool false, Value.bool false, Value.slice none 0 0, Value.bool false, Value.slice none 0 0, Value.slice none 0 0, Value.bool false, Value.slice none 0 0] := ⟨by kernel_rfl⟩
instance ts_51 : TS Tryz.prog 51 9 := ⟨by kernel_rfl⟩
instance tg_51 : TG Tryz.prog 51 true := ⟨by kernel_rfl⟩
instance tb_51 : TB Tryz.prog 51 144 := ⟨by kernel_rfl⟩
instance tp_51 : TP Tryz.prog 51 [(0, 1), (1, 1), (2, 1), (3, 3), (6, 3)] := ⟨by kernel_rfl⟩
instance tf_51_0 : TF Tryz.prog 51 0 (0, 1) := ⟨by kernel_rfl⟩
instance tga_51_0 : TA Tryz.prog 51 0 false := ⟨by kernel_rfl⟩
instance tf_51_1 : TF Tryz.prog 51 1 (1, 1) := ⟨by kernel_rfl⟩
instance tga_51_1 : TA Tryz.prog 51 1 false := ⟨by kernel_rfl⟩
instance tf_51_2 : TF Tryz.prog 51 2 (2, 1) := ⟨by kernel_rfl⟩
instance tga_51_2 : TA Tryz.prog 51 2 false := ⟨by kernel_rfl⟩
instance tf_51_3 : TF Tryz.prog 51 3 (3, 3) := ⟨by kernel_rfl⟩
instance tga_51_3 : TA Tryz.prog 51 3 true := ⟨by kernel_rfl⟩
instance tf_51_4 : TF Tryz.prog 51 4 (6, 3) := ⟨by kernel_rfl⟩
instance tga_51_4 : TA Tryz.prog 51 4 true := ⟨by kernel_rfl⟩
instance tz_52 : TZ Tryz.prog 52 [Value.int IntKind.i64 0] := ⟨by kernel_rfl⟩
instance ts_52 : TS Tryz.prog 52 1 := ⟨by kernel_rfl⟩
instance tg_52 : TG Tryz.prog 52 false := ⟨by kernel_rfl⟩
instance tb_52 : TB Tryz.prog 52 8 := ⟨by kernel_rfl⟩
instance tu_52 : TU Tryz.prog 52 (.int .i64) := ⟨by kernel_rfl⟩
instance tz_55 : TZ Tryz.prog 55 [Value.slice none 0 0] := ⟨by kernel_rfl⟩
instance ts_55 : TS Tryz.prog 55 1 := ⟨by kernel_rfl⟩
instance tg_55 : TG Tryz.prog 55 false := ⟨by kernel_rfl⟩
instance tb_55 : TB Tryz.prog 55 24 := ⟨by kernel_rfl⟩
instance te_55 : TE Tryz.prog 55 (35, 3) := ⟨by kernel_rfl⟩
instance tz_57 : TZ Tryz.prog 57 [Value.slice none 0 0, Value.slice none 0 0] := ⟨by kernel_rfl⟩
instance ts_57 : TS Tryz.prog 57 2 := ⟨by kernel_rfl⟩
instance tg_57 : TG Tryz.prog 57 true := ⟨by kernel_rfl⟩
instance tb_57 : TB Tryz.prog 57 48 := ⟨by kernel_rfl⟩
instance tp_57 : TP Tryz.prog 57 [(0, 1), (1, 1)] := ⟨by kernel_rfl⟩
instance tf_57_0 : TF Tryz.prog 57 0 (0, 1) := ⟨by kernel_rfl⟩
instance tga_57_0 : TA Tryz.prog 57 0 false := ⟨by kernel_rfl⟩
instance tf_57_1 : TF Tryz.prog 57 1 (1, 1) := ⟨by kernel_rfl⟩
instance tga_57_1 : TA Tryz.prog 57 1 false := ⟨by kernel_rfl⟩
instance tz_65 : TZ Tryz.prog 65 [Value.slice none 0 0] := ⟨by kernel_rfl⟩
instance ts_65 : TS Tryz.prog 65 1 := ⟨by kernel_rfl⟩
instance tg_65 : TG Tryz.prog 65 false := ⟨by kernel_rfl⟩
instance tb_65 : TB Tryz.prog 65 24 := ⟨by kernel_rfl⟩
instance te_65 : TE Tryz.prog 65 (42, 4) := ⟨by kernel_rfl⟩
instance tz_66 : TZ Tryz.prog 66 [Value.slice none 0 0] := ⟨by kernel_rfl⟩
instance ts_66 : TS Tryz.prog 66 1 := ⟨by kernel_rfl⟩
instance tg_66 : TG Tryz.prog 66 false := ⟨by kernel_rfl⟩
instance tb_66 : TB Tryz.prog 66 24 := ⟨by kernel_rfl⟩
instance te_66 : TE Tryz.prog 66 (42, 4) := ⟨by kernel_rfl⟩
instance ts_75 : TS Tryz.prog 75 19 := ⟨by kernel_rfl⟩
instance tg_75 : TG Tryz.prog 75 true := ⟨by kernel_rfl⟩
instance tb_75 : TB Tryz.prog 75 160 := ⟨by kernel_rfl⟩
instance tp_75 : TP Tryz.prog 75 [(0, 1), (1, 6), (7, 1), (8, 1), (9, 1), (10, 1), (11, 1), (12, 1), (13, 3), (16, 3)] := ⟨by kernel_rfl⟩
instance tf_75_0 : TF Tryz.prog 75 0 (0, 1) := ⟨by kernel_rfl⟩
instance tga_75_0 : TA Tryz.prog 75 0 false := ⟨by kernel_rfl⟩
instance tf_75_1 : TF Tryz.prog 75 1 (1, 6) := ⟨by kernel_rfl⟩
instance tga_75_1 : TA Tryz.prog 75 1 true := ⟨by kernel_rfl⟩
instance tf_75_2 : TF Tryz.prog 75 2 (7, 1) := ⟨by kernel_rfl⟩
instance tga_75_2 : TA Tryz.prog 75 2 false := ⟨by kernel_rfl⟩
instance tf_75_3 : TF Tryz.prog 75 3 (8, 1) := ⟨by kernel_rfl⟩
instance tga_75_3 : TA Tryz.prog 75 3 false := ⟨by kernel_rfl⟩
instance tf_75_4 : TF Tryz.prog 75 4 (9, 1) := ⟨by kernel_rfl⟩
instance tga_75_4 : TA Tryz.prog 75 4 false := ⟨by kernel_rfl⟩
instance tf_75_5 : TF Tryz.prog 75 5 (10, 1) := ⟨by kernel_rfl⟩
instance tga_75_5 : TA Tryz.prog 75 5 false := ⟨by kernel_rfl⟩
instance tf_75_6 : TF Tryz.prog 75 6 (11, 1) := ⟨by kernel_rfl⟩
instance tga_75_6 : TA Tryz.prog 75 6 false := ⟨by kernel_rfl⟩
instance tf_75_7 : TF Tryz.prog 75 7 (12, 1) := ⟨by kernel_rfl⟩
instance tga_75_7 : TA Tryz.prog 75 7 false := ⟨by kernel_rfl⟩
instance tf_75_8 : TF Tryz.prog 75 8 (13, 3) := ⟨by kernel_rfl⟩
instance tga_75_8 : TA Tryz.prog 75 8 true := ⟨by kernel_rfl⟩
instance tf_75_9 : TF Tryz.prog 75 9 (16, 3) := ⟨by kernel_rfl⟩
instance tga_75_9 : TA Tryz.prog 75 9 true := ⟨by kernel_rfl⟩
instance tz_77 : TZ Tryz.prog 77 [Value.slice none 0 0, Value.bool false, Value.bool false, Value.int IntKind.i64 0, Value.slice none 0 0, Value.int IntKind.i64 0, Value.slice none 0 0, Value.int IntKind.i64 0, Value.slice none 0 0, Value.int IntKind.i64 0, Value.slice none 0 0] := ⟨by kernel_rfl⟩
instance ts_77 : TS Tryz.prog 77 11 := ⟨by kernel_rfl⟩
instance tg_77 : TG Tryz.prog 77 true := ⟨by kernel_rfl⟩
instance tb_77 : TB Tryz.prog 77 160 := ⟨by kernel_rfl⟩
instance tp_77 : TP Tryz.prog 77 [(0, 1), (1, 1), (2, 1), (3, 4), (7, 4)] := ⟨by kernel_rfl⟩
instance tf_77_0 : TF Tryz.prog 77 0 (0, 1) := ⟨by kernel_rfl⟩
instance tga_77_0 : TA Tryz.prog 77 0 false := ⟨by kernel_rfl⟩
instance tf_77_1 : TF Tryz.prog 77 1 (1, 1) := ⟨by kernel_rfl⟩
instance tga_77_1 : TA Tryz.prog 77 1 false := ⟨by kernel_rfl⟩
instance tf_77_2 : TF Tryz.prog 77 2 (2, 1) := ⟨by kernel_rfl⟩
instance tga_77_2 : TA Tryz.prog 77 2 false := ⟨by kernel_rfl⟩
instance tf_77_3 : TF Tryz.prog 77 3 (3, 4) := ⟨by kernel_rfl⟩
instance tga_77_3 : TA Tryz.prog 77 3 true := ⟨by kernel_rfl⟩
instance tf_77_4 : TF Tryz.prog 77 4 (7, 4) := ⟨by kernel_rfl⟩
instance tga_77_4 : TA Tryz.prog 77 4 true := ⟨by kernel_rfl⟩
instance tz_102 : TZ Tryz.prog 102 [Value.slice none 0 0, Value.slice none 0 0] := ⟨by kernel_rfl⟩
instance ts_102 : TS Tryz.prog 102 2 := ⟨by kernel_rfl⟩
instance tg_102 : TG Tryz.prog 102 true := ⟨by kernel_rfl⟩
instance tb_102 : TB Tryz.prog 102 48 := ⟨by kernel_rfl⟩
instance tp_102 : TP Tryz.prog 102 [(0, 1), (1, 1)] := ⟨by kernel_rfl⟩
instance tf_102_0 : TF Tryz.prog 102 0 (0, 1) := ⟨by kernel_rfl⟩
instance tga_102_0 : TA Tryz.prog 102 0 false := ⟨by kernel_rfl⟩
instance tf_102_1 : TF Tryz.prog 102 1 (1, 1) := ⟨by kernel_rfl⟩
instance tga_102_1 : TA Tryz.prog 102 1 false := ⟨by kernel_rfl⟩
instance tz_122 : TZ Tryz.prog 122 [Value.slice none 0 0, Value.slice none 0 0] := ⟨by kernel_rfl⟩
instance ts_122 : TS Tryz.prog 122 2 := ⟨by kernel_rfl⟩
instance tg_122 : TG Tryz.prog 122 true := ⟨by kernel_rfl⟩
instance tb_122 : TB Tryz.prog 122 48 := ⟨by kernel_rfl⟩
instance tp_122 : TP Tryz.prog 122 [(0, 1), (1, 1)] := ⟨by kernel_rfl⟩
instance tf_122_0 : TF Tryz.prog 122 0 (0, 1) := ⟨by kernel_rfl⟩
instance tga_122_0 : TA Tryz.prog 122 0 false := ⟨by kernel_rfl⟩
instance tf_122_1 : TF Tryz.prog 122 1 (1, 1) := ⟨by kernel_rfl⟩
instance tga_122_1 : TA Tryz.prog 122 1 false := ⟨by kernel_rfl⟩
instance tz_128 : TZ Tryz.prog 128 [Value.slice none 0 0] := ⟨by kernel_rfl⟩
instance ts_128 : TS Tryz.prog 128 1 := ⟨by kernel_rfl⟩
instance tg_128 : TG Tryz.prog 128 false := ⟨by kernel_rfl⟩
instance tb_128 : TB Tryz.prog 128 24 := ⟨by kernel_rfl⟩
instance te_128 : TE Tryz.prog 128 (57, 2) := ⟨by kernel_rfl⟩
instance tz_139 : TZ Tryz.prog 139 [Value.nilFunc] := ⟨by kernel_rfl⟩
instance ts_139 : TS Tryz.prog 139 1 := ⟨by kernel_rfl⟩
instance tg_139 : TG Tryz.prog 139 false := ⟨by kernel_rfl⟩
instance tb_139 : TB Tryz.prog 139 8 := ⟨by kernel_rfl⟩
instance tz_150 : TZ Tryz.prog 150 [Value.slice none 0 0, Value.bool false, Value.bool false, Value.slice none 0 0, Value.bool false, Value.slice none 0 0, Value.slice none 0 0, Value.bool false, Value.slice none 0 0, Value.slice none 0 0, Value.slice none 0 0, Value.slice none 0 0, Value.bool false, Value.slice none 0 0, Value.slice none 0 0, Value.slice none 0 0] := ⟨by kernel_rfl⟩
instance ts_150 : TS Tryz.prog 150 16 := ⟨by kernel_rfl⟩
instance tg_150 : TG Tryz.prog 150 true := ⟨by kernel_rfl⟩
instance tb_150 : TB Tryz.prog 150 296 := ⟨by kernel_rfl⟩
instance tp_150 : TP Tryz.prog 150 [(0, 9), (9, 1), (10, 1), (11, 3), (14, 1), (15, 1)] := ⟨by kernel_rfl⟩
instance tf_150_0 : TF Tryz.prog 150 0 (0, 9) := ⟨by kernel_rfl⟩
instance tga_150_0 : TA Tryz.prog 150 0 true := ⟨by kernel_rfl⟩
instance tf_150_1 : TF Tryz.prog 150 1 (9, 1) := ⟨by kernel_rfl⟩
instance tga_150_1 : TA Tryz.prog 150 1 false := ⟨by kernel_rfl⟩
instance tf_150_2 : TF Tryz.prog 150 2 (10, 1) := ⟨by kernel_rfl⟩
instance tga_150_2 : TA Tryz.prog 150 2 false := ⟨by kernel_rfl⟩
instance tf_150_3 : TF Tryz.prog 150 3 (11, 3) := ⟨by kernel_rfl⟩
instance tga_150_3 : TA Tryz.prog 150 3 true := ⟨by kernel_rfl⟩
instance tf_150_4 : TF Tryz.prog 150 4 (14, 1) := ⟨by kernel_rfl⟩
instance tga_150_4 : TA Tryz.prog 150 4 false := ⟨by kernel_rfl⟩
instance tf_150_5 : TF Tryz.prog 150 5 (15, 1) := ⟨by kernel_rfl⟩
instance tga_150_5 : TA Tryz.prog 150 5 false := ⟨by kernel_rfl⟩
instance tz_151 : TZ Tryz.prog 151 [Value.nilFunc] := ⟨by kernel_rfl⟩
instance ts_151 : TS Tryz.prog 151 1 := ⟨by kernel_rfl⟩
instance tg_151 : TG Tryz.prog 151 false := ⟨by kernel_rfl⟩
instance tb_151 : TB Tryz.prog 151 8 := ⟨by kernel_rfl⟩
instance tz_157 : TZ Tryz.prog 157 [Value.nilFunc] := ⟨by kernel_rfl⟩
instance ts_157 : TS Tryz.prog 157 1 := ⟨by kernel_rfl⟩
instance tg_157 : TG Tryz.prog 157 false := ⟨by kernel_rfl⟩
instance tb_157 : TB Tryz.prog 157 8 := ⟨by kernel_rfl⟩
instance tz_159 : TZ Tryz.prog 159 [Value.nilFunc] := ⟨by kernel_rfl⟩
instance ts_159 : TS Tryz.prog 159 1 := ⟨by kernel_rfl⟩
instance tg_159 : TG Tryz.prog 159 false := ⟨by kernel_rfl⟩
instance tb_159 : TB Tryz.prog 159 8 := ⟨by kernel_rfl⟩
instance tz_183 : TZ Tryz.prog 183 [Value.slice none 0 0] := ⟨by kernel_rfl⟩
instance ts_183 : TS Tryz.prog 183 1 := ⟨by kernel_rfl⟩
instance tg_183 : TG Tryz.prog 183 false := ⟨by kernel_rfl⟩
instance tb_183 : TB Tryz.prog 183 24 := ⟨by kernel_rfl⟩
instance te_183 : TE Tryz.prog 183 (65, 1) := ⟨by kernel_rfl⟩
instance tz_187 : TZ Tryz.prog 187 [Value.nilFunc] := ⟨by kernel_rfl⟩
instance ts_187 : TS Tryz.prog 187 1 := ⟨by kernel_rfl⟩
instance tg_187 : TG Tryz.prog 187 false := ⟨by kernel_rfl⟩
instance tb_187 : TB Tryz.prog 187 8 := ⟨by kernel_rfl⟩
instance tz_189 : TZ Tryz.prog 189 [Value.slice none 0 0, Value.nilFunc] := ⟨by kernel_rfl⟩
instance ts_189 : TS Tryz.prog 189 2 := ⟨by kernel_rfl⟩
instance tg_189 : TG Tryz.prog 189 true := ⟨by kernel_rfl⟩
instance tb_189 : TB Tryz.prog 189 32 := ⟨by kernel_rfl⟩
instance tp_189 : TP Tryz.prog 189 [(0, 1), (1, 1)] := ⟨by kernel_rfl⟩
instance tf_189_0 : TF Tryz.prog 189 0 (0, 1) := ⟨by kernel_rfl⟩
instance tga_189_0 : TA Tryz.prog 189 0 false := ⟨by kernel_rfl⟩
instance tf_189_1 : TF Tryz.prog 189 1 (1, 1) := ⟨by kernel_rfl⟩
instance tga_189_1 : TA Tryz.prog 189 1 false := ⟨by kernel_rfl⟩
instance tz_191 : TZ Tryz.prog 191 [Value.map none] := ⟨by kernel_rfl⟩
instance ts_191 : TS Tryz.prog 191 1 := ⟨by kernel_rfl⟩
instance tg_191 : TG Tryz.prog 191 false := ⟨by kernel_rfl⟩
instance tb_191 : TB Tryz.prog 191 8 := ⟨by kernel_rfl⟩
instance tm_191 : TU Tryz.prog 191 (.map 5 189) := ⟨by kernel_rfl⟩
instance tz_199 : TZ Tryz.prog 199 [Value.pointer none] := ⟨by kernel_rfl⟩
instance ts_199 : TS Tryz.prog 199 1 := ⟨by kernel_rfl⟩
instance tg_199 : TG Tryz.prog 199 false := ⟨by kernel_rfl⟩
instance tb_199 : TB Tryz.prog 199 8 := ⟨by kernel_rfl⟩
instance tz_207 : TZ Tryz.prog 207 [Value.slice none 0 0, Value.int IntKind.i64 0] := ⟨by kernel_rfl⟩
instance ts_207 : TS Tryz.prog 207 2 := ⟨by kernel_rfl⟩
instance tg_207 : TG Tryz.prog 207 true := ⟨by kernel_rfl⟩
instance tb_207 : TB Tryz.prog 207 32 := ⟨by kernel_rfl⟩
instance tp_207 : TP Tryz.prog 207 [(0, 1), (1, 1)] := ⟨by kernel_rfl⟩
instance tf_207_0 : TF Tryz.prog 207 0 (0, 1) := ⟨by kernel_rfl⟩
instance tga_207_0 : TA Tryz.prog 207 0 false := ⟨by kernel_rfl⟩
instance tf_207_1 : TF Tryz.prog 207 1 (1, 1) := ⟨by kernel_rfl⟩
instance tga_207_1 : TA Tryz.prog 207 1 false := ⟨by kernel_rfl⟩
instance tz_220 : TZ Tryz.prog 220 [Value.pointer none] := ⟨by kernel_rfl⟩
instance ts_220 : TS Tryz.prog 220 1 := ⟨by kernel_rfl⟩
instance tg_220 : TG Tryz.prog 220 false := ⟨by kernel_rfl⟩
instance tb_220 : TB Tryz.prog 220 8 := ⟨by kernel_rfl⟩
instance tz_221 : TZ Tryz.prog 221 [Value.slice none 0 0] := ⟨by kernel_rfl⟩
instance ts_221 : TS Tryz.prog 221 1 := ⟨by kernel_rfl⟩
instance tg_221 : TG Tryz.prog 221 false := ⟨by kernel_rfl⟩
instance tb_221 : TB Tryz.prog 221 24 := ⟨by kernel_rfl⟩
instance te_221 : TE Tryz.prog 221 (5, 1) := ⟨by kernel_rfl⟩
instance tz_223 : TZ Tryz.prog 223 [Value.pointer none, Value.slice none 0 0] := ⟨by kernel_rfl⟩
instance ts_223 : TS Tryz.prog 223 2 := ⟨by kernel_rfl⟩
instance tg_223 : TG Tryz.prog 223 true := ⟨by kernel_rfl⟩
instance tb_223 : TB Tryz.prog 223 32 := ⟨by kernel_rfl⟩
instance tp_223 : TP Tryz.prog 223 [(0, 1), (1, 1)] := ⟨by kernel_rfl⟩
instance tf_223_0 : TF Tryz.prog 223 0 (0, 1) := ⟨by kernel_rfl⟩
instance tga_223_0 : TA Tryz.prog 223 0 false := ⟨by kernel_rfl⟩
instance tf_223_1 : TF Tryz.prog 223 1 (1, 1) := ⟨by kernel_rfl⟩
instance tga_223_1 : TA Tryz.prog 223 1 false := ⟨by kernel_rfl⟩
instance tz_230 : TZ Tryz.prog 230 [Value.nilFunc] := ⟨by kernel_rfl⟩
instance ts_230 : TS Tryz.prog 230 1 := ⟨by kernel_rfl⟩
instance tg_230 : TG Tryz.prog 230 false := ⟨by kernel_rfl⟩
instance tb_230 : TB Tryz.prog 230 8 := ⟨by kernel_rfl⟩
instance tz_235 : TZ Tryz.prog 235 [Value.int IntKind.u64 0] := ⟨by kernel_rfl⟩
instance ts_235 : TS Tryz.prog 235 1 := ⟨by kernel_rfl⟩
instance tg_235 : TG Tryz.prog 235 false := ⟨by kernel_rfl⟩
instance tb_235 : TB Tryz.prog 235 8 := ⟨by kernel_rfl⟩
instance tu_235 : TU Tryz.prog 235 (.int .u64) := ⟨by kernel_rfl⟩
instance tz_236 : TZ Tryz.prog 236 [Value.int IntKind.u32 0] := ⟨by kernel_rfl⟩
instance ts_236 : TS Tryz.prog 236 1 := ⟨by kernel_rfl⟩
instance tg_236 : TG Tryz.prog 236 false := ⟨by kernel_rfl⟩
instance tb_236 : TB Tryz.prog 236 4 := ⟨by kernel_rfl⟩
instance tu_236 : TU Tryz.prog 236 (.int .u32) := ⟨by kernel_rfl⟩
instance tz_239 : TZ Tryz.prog 239 [Value.nilFunc] := ⟨by kernel_rfl⟩
instance ts_239 : TS Tryz.prog 239 1 := ⟨by kernel_rfl⟩
instance tg_239 : TG Tryz.prog 239 false := ⟨by kernel_rfl⟩
instance tb_239 : TB Tryz.prog 239 8 := ⟨by kernel_rfl⟩
instance tz_261 : TZ Tryz.prog 261 [Value.slice none 0 0] := ⟨by kernel_rfl⟩
instance ts_261 : TS Tryz.prog 261 1 := ⟨by kernel_rfl⟩
instance tg_261 : TG Tryz.prog 261 false := ⟨by kernel_rfl⟩
instance tb_261 : TB Tryz.prog 261 24 := ⟨by kernel_rfl⟩
instance te_261 : TE Tryz.prog 261 (55, 1) := ⟨by kernel_rfl⟩
instance tz_263 : TZ Tryz.prog 263 [Value.slice none 0 0, Value.slice none 0 0, Value.int IntKind.i64 0] := ⟨by kernel_rfl⟩
instance ts_263 : TS Tryz.prog 263 3 := ⟨by kernel_rfl⟩
instance tg_263 : TG Tryz.prog 263 true := ⟨by kernel_rfl⟩
instance tb_263 : TB Tryz.prog 263 56 := ⟨by kernel_rfl⟩
instance tp_263 : TP Tryz.prog 263 [(0, 1), (1, 1), (2, 1)] := ⟨by kernel_rfl⟩
instance tf_263_0 : TF Tryz.prog 263 0 (0, 1) := ⟨by kernel_rfl⟩
instance tga_263_0 : TA Tryz.prog 263 0 false := ⟨by kernel_rfl⟩
instance tf_263_1 : TF Tryz.prog 263 1 (1, 1) := ⟨by kernel_rfl⟩
instance tga_263_1 : TA Tryz.prog 263 1 false := ⟨by kernel_rfl⟩
instance tf_263_2 : TF Tryz.prog 263 2 (2, 1) := ⟨by kernel_rfl⟩
instance tga_263_2 : TA Tryz.prog 263 2 false := ⟨by kernel_rfl⟩
instance tz_266 : TZ Tryz.prog 266 [Value.nilFunc] := ⟨by kernel_rfl⟩
instance ts_266 : TS Tryz.prog 266 1 := ⟨by kernel_rfl⟩
instance tg_266 : TG Tryz.prog 266 false := ⟨by kernel_rfl⟩
instance tb_266 : TB Tryz.prog 266 8 := ⟨by kernel_rfl⟩
instance tz_268 : TZ Tryz.prog 268 [Value.slice none 0 0] := ⟨by kernel_rfl⟩
instance ts_268 : TS Tryz.prog 268 1 := ⟨by kernel_rfl⟩
instance tg_268 : TG Tryz.prog 268 false := ⟨by kernel_rfl⟩
instance tb_268 : TB Tryz.prog 268 24 := ⟨by kernel_rfl⟩
instance te_268 : TE Tryz.prog 268 (2, 1) := ⟨by kernel_rfl⟩
instance tz_271 : TZ Tryz.prog 271 [Value.pointer none] := ⟨by kernel_rfl⟩
instance ts_271 : TS Tryz.prog 271 1 := ⟨by kernel_rfl⟩
instance tg_271 : TG Tryz.prog 271 false := ⟨by kernel_rfl⟩
instance tb_271 : TB Tryz.prog 271 8 := ⟨by kernel_rfl⟩
instance tz_277 : TZ Tryz.prog 277 [Value.pointer none, Value.int IntKind.i64 0] := ⟨by kernel_rfl⟩
instance ts_277 : TS Tryz.prog 277 2 := ⟨by kernel_rfl⟩
instance tg_277 : TG Tryz.prog 277 true := ⟨by kernel_rfl⟩
instance tb_277 : TB Tryz.prog 277 16 := ⟨by kernel_rfl⟩
instance tp_277 : TP Tryz.prog 277 [(0, 1), (1, 1)] := ⟨by kernel_rfl⟩
instance tf_277_0 : TF Tryz.prog 277 0 (0, 1) := ⟨by kernel_rfl⟩
instance tga_277_0 : TA Tryz.prog 277 0 false := ⟨by kernel_rfl⟩
instance tf_277_1 : TF Tryz.prog 277 1 (1, 1) := ⟨by kernel_rfl⟩
instance tga_277_1 : TA Tryz.prog 277 1 false := ⟨by kernel_rfl⟩
instance tz_288 : TZ Tryz.prog 288 [Value.pointer none] := ⟨by kernel_rfl⟩
instance ts_288 : TS Tryz.prog 288 1 := ⟨by kernel_rfl⟩
instance tg_288 : TG Tryz.prog 288 false := ⟨by kernel_rfl⟩
instance tb_288 : TB Tryz.prog 288 8 := ⟨by kernel_rfl⟩
instance tz_293 : TZ Tryz.prog 293 [Value.nilFunc] := ⟨by kernel_rfl⟩
instance ts_293 : TS Tryz.prog 293 1 := ⟨by kernel_rfl⟩
instance tg_293 : TG Tryz.prog 293 false := ⟨by kernel_rfl⟩
instance tb_293 : TB Tryz.prog 293 8 := ⟨by kernel_rfl⟩
instance tz_303 : TZ Tryz.prog 303 [Value.slice none 0 0] := ⟨by kernel_rfl⟩
instance ts_303 : TS Tryz.prog 303 1 := ⟨by kernel_rfl⟩
instance tg_303 : TG Tryz.prog 303 false := ⟨by kernel_rfl⟩
instance tb_303 : TB Tryz.prog 303 24 := ⟨by kernel_rfl⟩
instance te_303 : TE Tryz.prog 303 (66, 1) := ⟨by kernel_rfl⟩
instance tz_318 : TZ Tryz.prog 318 [Value.int IntKind.u64 0] := ⟨by kernel_rfl⟩
instance ts_318 : TS Tryz.prog 318 1 := ⟨by kernel_rfl⟩
instance tg_318 : TG Tryz.prog 318 false := ⟨by kernel_rfl⟩
instance tb_318 : TB Tryz.prog 318 8 := ⟨by kernel_rfl⟩
instance tu_318 : TU Tryz.prog 318 (.int .u64) := ⟨by kernel_rfl⟩
instance tz_323 : TZ Tryz.prog 323 [Value.pointer none] := ⟨by kernel_rfl⟩
instance ts_323 : TS Tryz.prog 323 1 := ⟨by kernel_rfl⟩
instance tg_323 : TG Tryz.prog 323 false := ⟨by kernel_rfl⟩
instance tb_323 : TB Tryz.prog 323 8 := ⟨by kernel_rfl⟩
instance tz_332 : TZ Tryz.prog 332 [Value.nilFunc] := ⟨by kernel_rfl⟩
instance ts_332 : TS Tryz.prog 332 1 := ⟨by kernel_rfl⟩
instance tg_332 : TG Tryz.prog 332 false := ⟨by kernel_rfl⟩
instance tb_332 : TB Tryz.prog 332 8 := ⟨by kernel_rfl⟩
instance ts_337 : TS Tryz.prog 337 24 := ⟨by kernel_rfl⟩
instance tg_337 : TG Tryz.prog 337 true := ⟨by kernel_rfl⟩
instance tb_337 : TB Tryz.prog 337 24 := ⟨by kernel_rfl⟩
instance ts_351 : TS Tryz.prog 351 20 := ⟨by kernel_rfl⟩
instance tg_351 : TG Tryz.prog 351 true := ⟨by kernel_rfl⟩
instance tb_351 : TB Tryz.prog 351 160 := ⟨by kernel_rfl⟩
instance ts_352 : TS Tryz.prog 352 65 := ⟨by kernel_rfl⟩
instance tg_352 : TG Tryz.prog 352 true := ⟨by kernel_rfl⟩
instance tb_352 : TB Tryz.prog 352 65 := ⟨by kernel_rfl⟩
instance ts_356 : TS Tryz.prog 356 32 := ⟨by kernel_rfl⟩
instance tg_356 : TG Tryz.prog 356 true := ⟨by kernel_rfl⟩
instance tb_356 : TB Tryz.prog 356 32 := ⟨by kernel_rfl⟩
instance ts_357 : TS Tryz.prog 357 64 := ⟨by kernel_rfl⟩
instance tg_357 : TG Tryz.prog 357 true := ⟨by kernel_rfl⟩
instance tb_357 : TB Tryz.prog 357 64 := ⟨by kernel_rfl⟩
end Go.Proofs.YtdjfjpeoddmamaaGreatDoor
namespace Go.Abs
def digs (b n : Nat) : List Nat :=
 if _h : b ≤ 1 ∨ n = 0 then [] else n % b :: digs b (n / b)
termination_by n
decreasing_by exact Nat.div_lt_self (by omega) (by omega)
def ofD (b : Nat) : List Nat → Nat
 | [] => 0
 | d :: l => d + b * ofD b l
theorem digs_zero (b : Nat) : digs b 0 = [] := by rw [digs]; simp
theorem digs_pos {b n : Nat} (hb : 1 < b) (hn : 0 < n) : digs b n = n % b :: digs b (n / b) := by rw [digs, dif_neg (by omega)]
theorem ofD_digs {b : Nat} (hb : 1 < b) (n : Nat) : ofD b (digs b n) = n := by
 induction n using Nat.strongRecOn with
 | _ n ih =>
  rcases Nat.eq_zero_or_pos n with rfl | hn
  ·rw [digs_zero]; rfl
  ·rw [digs_pos hb hn, ofD, ih _ (Nat.div_lt_self hn hb)]
   exact Nat.mod_add_div n b
theorem digs_lt {b : Nat} (hb : 1 < b) (n : Nat) : ∀ d ∈ digs b n, d < b := by
 induction n using Nat.strongRecOn with
 | _ n ih =>
  rcases Nat.eq_zero_or_pos n with rfl | hn
  ·rw [digs_zero]; simp
  ·rw [digs_pos hb hn]
   intro d hd
   rcases List.mem_cons.1 hd with rfl | hd
   ·exact Nat.mod_lt _ (by omega)
   ·exact ih _ (Nat.div_lt_self hn hb) d hd
def IsD (b : Nat) (l : List Nat) : Prop := (∀ d ∈ l, d < b) ∧ l.getLast? ≠ some 0
theorem digs_last {b : Nat} (hb : 1 < b) (n : Nat) : (digs b n).getLast? ≠ some 0 := by
 induction n using Nat.strongRecOn with
 | _ n ih =>
  rcases Nat.eq_zero_or_pos n with rfl | hn
  ·rw [digs_zero]; simp
  ·rw [digs_pos hb hn]
   have h1 := ih _ (Nat.div_lt_self hn hb)
   rw [List.getLast?_cons]
   intro h
   by_cases h0 : digs b (n / b) = []
   ·rw [h0] at h
    simp only [List.getLast?_nil, Option.getD_none, Option.some.injEq] at h
    have hz : n / b = 0 := by
     have := ofD_digs hb (n / b)
     rw [h0] at this; exact this.symm
    have := Nat.mod_add_div n b
    rw [h, hz] at this
    omega
   ·cases hl : (digs b (n / b)).getLast? with
    | none => exact h0 (List.getLast?_eq_none_iff.1 hl)
    | some x =>
     rw [hl] at h
     simp only [Option.getD_some, Option.some.injEq] at h
     subst h; exact h1 hl
theorem ofD_pos {b : Nat} {l : List Nat} (h : IsD b l) (hl : l ≠ []) : 0 < ofD b l := by
 induction l with
 | nil => exact absurd rfl hl
 | cons d l ih =>
  rw [ofD]
  by_cases h0 : l = []
  ·subst h0
   have h2 := h.2
   simp at h2
   omega
  ·have hb : 0 < b := by have := h.1 d (List.mem_cons_self ..); omega
   have : 0 < ofD b l := ih ⟨fun x hx => h.1 x (List.mem_cons_of_mem _ hx), by
    have h2 := h.2; rw [List.getLast?_cons] at h2
    intro e; rw [e] at h2; exact h2 rfl⟩ h0
   have := Nat.mul_pos hb this
   omega
theorem digs_ofD {b : Nat} (hb : 1 < b) : ∀ {l : List Nat}, IsD b l → digs b (ofD b l) = l
 | [], _ => digs_zero b
 | d :: l, h => by
  have hp := ofD_pos h (by simp)
  have hd := h.1 d (List.mem_cons_self ..)
  have hl : IsD b l := ⟨fun x hx => h.1 x (List.mem_cons_of_mem _ hx), by
   have h2 := h.2; rw [List.getLast?_cons] at h2
   intro e; rw [e] at h2; exact h2 rfl⟩
  rw [digs_pos hb hp]
  have e1 : ofD b (d :: l) % b = d := by rw [ofD, Nat.add_mul_mod_self_left]; exact Nat.mod_eq_of_lt hd
  have e2 : ofD b (d :: l) / b = ofD b l := by rw [ofD, Nat.add_mul_div_left _ _ (by omega), Nat.div_eq_of_lt hd]; omega
  rw [e1, e2, digs_ofD hb hl]
theorem ofD_append (b : Nat) (l m : List Nat) : ofD b (l ++ m) = ofD b l + b ^ l.length * ofD b m := by
 induction l with
 | nil => simp [ofD]
 | cons d l ih => simp only [List.cons_append, ofD, ih, List.length_cons, Nat.pow_succ, Nat.mul_add]; rw [← Nat.add_assoc, Nat.mul_comm (b ^ l.length) b, Nat.mul_assoc]
theorem ofD_lt {b : Nat} {l : List Nat} (h : ∀ d ∈ l, d < b) : ofD b l < b ^ l.length := by
 induction l with
 | nil => simp [ofD]
 | cons d l ih =>
  have h1 := ih fun x hx => h x (List.mem_cons_of_mem _ hx)
  have h2 := h d (List.mem_cons_self ..)
  rw [ofD, List.length_cons, Nat.pow_succ, Nat.mul_comm (b ^ l.length) b]
  have : b * (ofD b l + 1) ≤ b * b ^ l.length := Nat.mul_le_mul_left _ h1
  rw [Nat.mul_add] at this
  omega
theorem ofD_zeros (b k : Nat) : ofD b (List.replicate k 0) = 0 := by
 induction k with
 | zero => rfl
 | succ k ih => rw [List.replicate_succ, ofD, ih]; simp
theorem ofD_take_drop (b k : Nat) (l : List Nat) (h : k ≤ l.length) : ofD b l = ofD b (l.take k) + b ^ k * ofD b (l.drop k) := by
 conv => lhs; rw [← List.take_append_drop k l]
 rw [ofD_append, List.length_take, Nat.min_eq_left h]
def trimD : List Nat → List Nat
 | [] => []
 | d :: l => match trimD l with
  | [] => if d = 0 then [] else [d]
  | e :: m => d :: e :: m
theorem trimD_ofD (b : Nat) : ∀ l, ofD b (trimD l) = ofD b l
 | [] => rfl
 | d :: l => by
  have ih := trimD_ofD b l
  unfold trimD
  split
  ·rename_i h
   rw [h] at ih
   split
   ·rename_i h0; subst h0; show 0 = 0 + b * ofD b l; rw [← ih]; simp [ofD]
   ·show d + b * ofD b [] = d + b * ofD b l; rw [← ih]
  ·rename_i e m h
   rw [h] at ih
   show d + b * ofD b (e :: m) = d + b * ofD b l
   rw [ih]
theorem trimD_last : ∀ l, (trimD l).getLast? ≠ some 0
 | [] => by simp [trimD]
 | d :: l => by
  have ih := trimD_last l
  unfold trimD
  split
  ·split
   ·simp
   ·simpa using ‹¬d = 0›
  ·rename_i e m h
   rw [h] at ih
   rw [List.getLast?_cons]
   cases hl : (e :: m).getLast? with
   | none => simp at hl
   | some x => rw [hl] at ih; simpa using ih
theorem trimD_sub : ∀ l, ∀ d ∈ trimD l, d ∈ l
 | [], d, h => by simp [trimD] at h
 | a :: l, d, h => by
  have ih := trimD_sub l
  unfold trimD at h
  split at h
  ·split at h
   ·simp at h
   ·simp at h; subst h; exact List.mem_cons_self ..
  ·rename_i e m he
   rw [he] at ih
   rcases List.mem_cons.1 h with rfl | h
   ·exact List.mem_cons_self ..
   ·exact List.mem_cons_of_mem _ (ih d h)
theorem trimD_eq {b : Nat} (hb : 1 < b) {l : List Nat} (h : ∀ d ∈ l, d < b) : trimD l = digs b (ofD b l) := by
 rw [← trimD_ofD b l]
 exact (digs_ofD hb ⟨fun d hd => h d (trimD_sub l d hd), trimD_last l⟩).symm
theorem trimD_take : ∀ (l : List Nat) (k : Nat), k ≤ l.length → (∀ i, k ≤ i → i < l.length → l[i]? = some 0) → (k = 0 ∨ l[k - 1]? ≠ some 0) → trimD l = l.take k
 | [], k, hk, _, _ => by simp [trimD]
 | d :: l, k, hk, hz, hl => by
  cases k with
  | zero =>
   have h1 := trimD_take l 0 (Nat.zero_le _) (fun i _ hi => by have := hz (i + 1) (by omega) (by simp; omega); simpa using this) (.inl rfl)
   have h2 := hz 0 (Nat.le_refl _) (by simp)
   simp only [List.getElem?_cons_zero, Option.some.injEq] at h2
   simp [trimD, h1, h2]
  | succ k =>
   have hz' : ∀ i, k ≤ i → i < l.length → l[i]? = some 0 := fun i h1 hi => by have := hz (i + 1) (by omega) (by simp; omega); simpa using this
   simp only [Nat.add_sub_cancel] at hl
   cases k with
   | zero =>
    have h1 := trimD_take l 0 (Nat.zero_le _) hz' (.inl rfl)
    simp at hl
    simp [trimD, h1, hl]
   | succ k =>
    have hlen : k + 1 ≤ l.length := by simpa using hk
    have h1 := trimD_take l (k + 1) hlen hz' (.inr (hl.elim (fun h => absurd h (by omega)) fun h => by simpa using h))
    cases l with
    | nil => simp at hlen
    | cons e m =>
     simp only [List.take_succ_cons] at h1 ⊢
     rw [trimD, h1]
def bl (n : Nat) : Nat := if n = 0 then 0 else n.log2 + 1
theorem lt_bl (n : Nat) : n < 2 ^ bl n := by
 unfold bl
 split
 ·rename_i h; subst h; simp
 ·exact Nat.lt_log2_self
theorem bl_le {n k : Nat} (h : n < 2 ^ k) : bl n ≤ k := by
 unfold bl
 split
 ·omega
 ·rename_i hn; exact (Nat.log2_lt hn).2 h
theorem bl_lt {n k : Nat} (h : bl n ≤ k) : n < 2 ^ k := Nat.lt_of_lt_of_le (lt_bl n) (Nat.pow_le_pow_right (by omega) h)
theorem bl_mono {m n : Nat} (h : m ≤ n) : bl m ≤ bl n := bl_le (Nat.lt_of_le_of_lt h (lt_bl n))
theorem bl_mul (m n : Nat) : bl (m * n) ≤ bl m + bl n := by
 refine bl_le ?_
 rw [Nat.pow_add]
 exact Nat.mul_lt_mul'' (lt_bl m) (lt_bl n)
theorem bl_add (m n : Nat) : bl (m + n) ≤ max (bl m) (bl n) + 1 := by
 refine bl_le ?_
 have h1 : m < 2 ^ max (bl m) (bl n) := bl_lt (Nat.le_max_left _ _)
 have h2 : n < 2 ^ max (bl m) (bl n) := bl_lt (Nat.le_max_right _ _)
 rw [Nat.pow_succ]; omega
theorem bl_zero : bl 0 = 0 := rfl
theorem bl_one : bl 1 = 1 := by decide
theorem bl_pos {n : Nat} (h : 0 < n) : 0 < bl n := by unfold bl; rw [if_neg (by omega)]; omega
theorem digs_length {b : Nat} (hb : 1 < b) (n : Nat) : (digs b n).length ≤ bl n := by
 induction n using Nat.strongRecOn with
 | _ n ih =>
  rcases Nat.eq_zero_or_pos n with rfl | hn
  ·rw [digs_zero]; simp
  ·rw [digs_pos hb hn, List.length_cons]
   have h1 := ih _ (Nat.div_lt_self hn hb)
   have h2 : bl (n / b) + 1 ≤ bl n := by
    have hle : n / b ≤ n / 2 := Nat.div_le_div_left hb (by omega)
    have h3 : bl (n / 2) + 1 ≤ bl n := by
     have hlt := lt_bl n
     have hp := bl_pos hn
     have : n / 2 < 2 ^ (bl n - 1) := by
      rw [Nat.div_lt_iff_lt_mul (by omega)]; have e : 2 ^ (bl n - 1) * 2 = 2 ^ bl n := by rw [show 2 ^ bl n = 2 ^ (bl n - 1 + 1) by rw [show bl n - 1 + 1 = bl n by omega], Nat.pow_succ]
      rw [e]; exact hlt
     have := bl_le this
     omega
    have := bl_mono hle
    omega
   omega
theorem digs_length_lt {b : Nat} (hb : 1 < b) {n k : Nat} (h : n < b ^ k) : (digs b n).length ≤ k := by
 induction k generalizing n with
 | zero => have : n = 0 := by simpa using h
           subst this; rw [digs_zero]; simp
 | succ k ih =>
  rcases Nat.eq_zero_or_pos n with rfl | hn
  ·rw [digs_zero]; simp
  ·rw [digs_pos hb hn, List.length_cons]
   have : n / b < b ^ k := by rw [Nat.div_lt_iff_lt_mul (by omega), ← Nat.pow_succ]; exact h
   have := ih this
   omega
theorem digs_eq_nil {b n : Nat} (hb : 1 < b) : digs b n = [] ↔ n = 0 := by
 constructor
 ·intro h; have := ofD_digs hb n; rw [h] at this; exact this.symm
 ·rintro rfl; exact digs_zero b
abbrev MB : Nat := 1000000000
def u32 (d : Nat) : AV := .v (.int .u32 d)
def i64 (z : Int) : AV := .v (.int .i64 z)
def u64 (z : Int) : AV := .v (.int .u64 z)
def bln (b : Bool) : AV := .v (.bool b)
def dE (l : List Nat) : List (List AV) := l.map fun d => [u32 d]
def mag (n : Nat) : AV := .arr (dE (digs MB n))
@[simp] theorem dE_length (l : List Nat) : (dE l).length = l.length := by simp [dE]
theorem dE_get {l : List Nat} {i d : Nat} (h : l[i]? = some d) : (dE l)[i]? = some [u32 d] := by simp [dE, h]
theorem dE_take (l : List Nat) (k : Nat) : (dE l).take k = dE (l.take k) := by simp [dE]
theorem dE_append (l m : List Nat) : dE (l ++ m) = dE l ++ dE m := by simp [dE]
theorem dE_set (l : List Nat) (i d : Nat) : (dE l).set i [u32 d] = dE (l.set i d) := by simp [dE, List.map_set]
theorem dE_replicate (k : Nat) : List.replicate k [u32 0] = dE (List.replicate k 0) := by simp [dE]
theorem dE_one (l : List Nat) : (dE l).all (·.all AV.one) = true := by simp [dE, u32, AV.one]; intros; rfl
theorem dE_len1 (l : List Nat) : ∀ e ∈ dE l, e.length = 1 := by intro e he; simp [dE] at he; obtain ⟨d, _, rfl⟩ := he; rfl
theorem closed_dE (l : List Nat) : ∀ e ∈ dE l, ∀ c ∈ e, Closed c := by
 intro e he c hc
 simp [dE] at he
 obtain ⟨d, _, rfl⟩ := he
 simp at hc; subst hc
 exact closed_v _
theorem closed_arrD (l : List Nat) : Closed (.arr (dE l)) := closed_arr (closed_dE l)
theorem closed_mag (n : Nat) : Closed (mag n) := closed_arrD _
theorem closed_nil : ∀ a ∈ ([] : List AV), Closed a := fun _ h => by cases h
theorem closed_cons {a : AV} {l : List AV} (h : Closed a) (h' : ∀ a ∈ l, Closed a) : ∀ b ∈ a :: l, Closed b := by
 intro b hb
 rcases List.mem_cons.1 hb with rfl | hb
 ·exact h
 ·exact h' b hb
theorem AEval.lenD {P : Program} {id : Nat} {ev : Operand → Option AV} {hp : Nat → Option ABlk} {c : Call} {x : Operand} {T : Nat} {d : Nat × Nat} {l : List Nat} (hc : c.callee = .builtin .len) (ha : c.args = #[x]) (ht : c.argTypes = #[T]) (hx : ev x = some (.arr (dE l))) (he : elOf P T = some d) :
    AEval P id ev hp (.call c) ⟨.v (.int .i64 (l.length : Nat)), []⟩ [] := .len hc ha ht hx (by simp [lenA]) he
end Go.Abs
namespace Go.Proofs.YtdjfjpeoddmamaaGreatDoor
open Go.Abs
set_option maxRecDepth 20000
theorem fs_zero (l : List Nat) : FSpec Tryz.prog 169 [.agg [.arr (dE l)]] (bln (l.length == 0)) := by
 refine FSpec.enter Tryz.func169 rfl (by kernel_rfl) rfl rfl rfl ?_ rfl ?_
 ·exact closed_cons (closed_agg (closed_cons (closed_arrD l) closed_nil)) closed_nil
 refine r_z 2 ?_
 refine r_z 5 ?_
 refine AWp.ret ?_
 refine Fin.tmpE rfl ?_ (closed_v _)
 simp only [bln, dE_length]
 congr 2
 rw [Bool.eq_iff_iff]; simp
theorem fs_trimmed (l : List Nat) (hl : l.length ≤ 281474976710656) : FSpec Tryz.prog 182 [.arr (dE l)] (.agg [.arr (dE (trimD l))]) := by
 refine FSpec.enter Tryz.func182 rfl (by kernel_rfl) rfl rfl rfl ?_ rfl ?_
 ·exact closed_cons (closed_arrD l) closed_nil
 refine r_z 1 ?_
 refine r_z 3 ?_
 refine AWp.cut (fun k : Nat => ⟨[(0, .arr (dE l)), (2, .lptr 1 0 0), (3, i64 k)], [(1, some ⟨31, 1, [[.emp]]⟩)], 2, 23⟩) (fun k => k ≤ l.length ∧ trimD l = l.take k) ?_ ?_
 ·refine AWp.block ?_
  refine AWp.loopS (fun k : Nat => ⟨[(0, .arr (dE l)), (2, .lptr 1 0 0), (3, i64 k)], [(1, some ⟨31, 1, [[.emp]]⟩)], 2, 23⟩) (fun k => k) (fun k => k ≤ l.length ∧ ∀ i, k ≤ i → i < l.length → l[i]? = some 0) l.length ⟨Nat.le_refl _, fun i h1 h2 => by omega⟩ ?_ ?_
  ·exact s_e []
  rintro k ⟨hk, hz⟩
  have fin : k = 0 ∨ l[k - 1]? ≠ some 0 → trimD l = l.take k := trimD_take l k hk hz
  by_cases h0 : k = 0
  ·subst h0
   refine AWp.seq ?_
   refine s_r 10 ?_
   refine a_3 ?_
   refine AR.opN rfl rfl (gn (by first | rfl | assumption | exact decide_eq_false (by omega) | (simp; done) | (simp; omega))) rfl rfl ?_
   refine AR.opN rfl rfl (gn (by first | rfl | assumption | exact decide_eq_false (by omega) | (simp; done) | (simp; omega))) rfl rfl ?_
   refine AR.opN rfl rfl (gn (by first | rfl | assumption | exact decide_eq_false (by omega) | (simp; done) | (simp; omega))) rfl rfl ?_
   refine AR.opN rfl rfl (gn (by first | rfl | assumption | exact decide_eq_false (by omega) | (simp; done) | (simp; omega))) rfl rfl ?_
   refine AR.opN rfl rfl (gn (by first | rfl | assumption | exact decide_eq_false (by omega) | (simp; done) | (simp; omega))) rfl rfl ?_
   refine AR.opN rfl rfl (gn (by first | rfl | assumption | exact decide_eq_false (by omega) | (simp; done) | (simp; omega))) rfl rfl ?_
   refine o_0 (.pickF rfl (by first | rfl | assumption | exact decide_eq_false (by omega) | (simp; done) | (simp; omega)) rfl) ?_
   refine AR.nil ?_
   refine AWp.cond rfl (fun h => ?_) (fun _ => ?_)
   ·cases h
   refine AWp.exit ⟨0, ⟨hk, fin (.inl rfl)⟩, ?_⟩
   exact s_e []
  ·have hk1 : k - 1 < l.length := by omega
   obtain ⟨d, hd⟩ : ∃ d, l[k - 1]? = some d := ⟨_, List.getElem?_eq_getElem hk1⟩
   have hd' : (dE l)[((k : Int) - 1).toNat]? = some [u32 d] := by rw [show ((k : Int) - 1).toNat = k - 1 by omega]; exact dE_get hd
   refine AWp.seq ?_
   refine s_r 10 ?_
   refine a_3 ?_
   refine AR.op0y rfl rfl (gy (by first | rfl | assumption | exact decide_eq_true (by omega) | (simp; done) | (simp; omega))) (.move rfl) rfl rfl ?_
   refine AR.op0y rfl rfl (gy (by first | rfl | assumption | exact decide_eq_true (by omega) | (simp; done) | (simp; omega))) (.move rfl) rfl rfl ?_
   refine AR.op0y rfl rfl (gy (by first | rfl | assumption | exact decide_eq_true (by omega) | (simp; done) | (simp; omega))) (.bin rfl rfl (bI64_sub (by omega))) rfl rfl ?_
   first | refine AR.op0y rfl rfl (gy (by first | rfl | assumption | exact decide_eq_true (by omega) | (simp; done) | (simp; omega))) (.index_l rfl rfl (by omega) (by omega) te_29.h) rfl rfl ?_ | refine AR.op0y rfl rfl (gy (by first | rfl | assumption | exact decide_eq_true (by omega) | (simp; done) | (simp; omega))) (.index_a rfl rfl (by omega) hd' rfl te_29.h) rfl rfl ?_
   first | refine AR.op0y rfl rfl (gy (by first | rfl | assumption | exact decide_eq_true (by omega) | (simp; done) | (simp; omega))) (.load_l1 rfl rfl hd' tg_236.h rfl) rfl rfl ?_ | refine AR.op0y rfl rfl (gy (by first | rfl | assumption | exact decide_eq_true (by omega) | (simp; done) | (simp; omega))) (.load_a1 rfl hd' tg_236.h rfl) rfl rfl ?_
   refine AR.op0y rfl rfl (gy (by first | rfl | assumption | exact decide_eq_true (by omega) | (simp; done) | (simp; omega))) (.bin rfl rfl binI_eql) rfl rfl ?_
   refine o_0 (.pickT rfl (by first | rfl | assumption | exact decide_eq_true (by omega) | (simp; done) | (simp; omega)) rfl) ?_
   refine AR.nil ?_
   refine AWp.cond rfl (fun h => ?_) (fun h => ?_)
   ·refine AWp.skip ?_
    have hd0 : d = 0 := by simpa using h
    subst hd0
    refine AWp.block ?_
    refine AWp.reg (m := 3) rfl ?_
    refine a_z ?_
    refine ⟨k - 1, by omega, ⟨by omega, fun i h1 h2 => ?_⟩, ?_⟩
    ·by_cases hi : i = k - 1
     ·rw [hi]; exact hd
     ·exact hz i (by omega) h2
    ·exact s_e []
   ·refine AWp.exit ⟨k, ⟨hk, fin (.inr ?_)⟩, ?_⟩
    ·rw [hd]; simp at h ⊢; omega
    ·exact s_e []
 ·rintro k ⟨hk, ht⟩
  refine s_r 6 ?_
  refine a_3 ?_
  refine o_0 (.sa_hm rfl rfl rfl rfl rfl ⟨Nat.le_refl _, by simpa using hk⟩ te_29.h (dE_len1 l)) ?_
  refine a_z ?_
  refine AWp.ret ?_
  refine Fin.cellE rfl rfl rfl tg_31.h ts_31.h (nle rfl) ?_ (closed_agg (closed_cons (closed_arrD _) closed_nil))
  rw [ht, ← dE_take]
  rfl
end Go.Proofs.YtdjfjpeoddmamaaGreatDoor
namespace Go.Abs
theorem ofD_snoc (b : Nat) (s : List Nat) (v : Nat) : ofD b (s ++ [v]) = ofD b s + b ^ s.length * v := by rw [ofD_append]; simp [ofD]
theorem take_snoc {α : Type} {l : List α} {k : Nat} {x : α} (h : l[k]? = some x) : l.take (k + 1) = l.take k ++ [x] := by
 rw [List.take_add_one, h]; rfl
theorem ofD_take_succ (b : Nat) {l : List Nat} {k d : Nat} (h : l[k]? = some d) : ofD b (l.take (k + 1)) = ofD b (l.take k) + b ^ k * d := by
 have hk : k < l.length := (List.getElem?_eq_some_iff.1 h).1
 rw [take_snoc h, ofD_snoc, List.length_take, Nat.min_eq_left (by omega)]
theorem ofD_takeD_succ (b : Nat) (l : List Nat) (k : Nat) : ofD b (l.take (k + 1)) = ofD b (l.take k) + b ^ k * (l[k]?.getD 0) := by
 cases h : l[k]? with
 | some d => exact ofD_take_succ b h
 | none => rw [List.getElem?_eq_none_iff] at h; rw [List.take_of_length_le (by omega), List.take_of_length_le (by omega)]; simp
theorem ofD_take_end (b : Nat) {l : List Nat} {k : Nat} (h : l.length ≤ k) : ofD b (l.take k) = ofD b l := by rw [List.take_of_length_le h]
theorem ofD_drop (b : Nat) {l : List Nat} {k d : Nat} (h : l[k]? = some d) : ofD b (l.drop k) = d + b * ofD b (l.drop (k + 1)) := by
 rw [List.drop_eq_getElem_cons (List.getElem?_eq_some_iff.1 h).1, ofD]
 congr 1
 exact (List.getElem?_eq_some_iff.1 h).2
theorem ofD_set (b : Nat) : ∀ {l : List Nat} {j d : Nat} (v : Nat), l[j]? = some d → ofD b (l.set j v) + b ^ j * d = ofD b l + b ^ j * v
 | [], _, _, _, h => by simp at h
 | x :: l, 0, d, v, h => by simp at h; subst h; simp [ofD]; omega
 | x :: l, j + 1, d, v, h => by
  simp only [List.getElem?_cons_succ] at h
  have := ofD_set b v h
  rw [List.set_cons_succ, ofD, ofD, Nat.pow_succ]
  have e := congrArg (b * ·) this
  simp only [Nat.mul_add] at e
  rw [← Nat.mul_assoc, ← Nat.mul_assoc, Nat.mul_comm b (b ^ j)] at e
  omega
theorem mem_set {l : List Nat} {j v : Nat} {p : Nat → Prop} (h : ∀ d ∈ l, p d) (hv : p v) : ∀ d ∈ l.set j v, p d := by
 intro d hd
 rcases List.mem_or_eq_of_mem_set hd with hd | hd
 ·exact h d hd
 ·subst hd; exact hv
theorem setAt_all {α : Type} {cs vs : List α} (h : vs.length = cs.length) : setAt cs 0 vs = vs := by
 apply List.ext_getElem?
 intro j
 rw [setAt_get]
 split
 ·rename_i hj; rw [if_pos (by omega)]; rfl
 ·rename_i hj; rw [List.getElem?_eq_none (by omega), List.getElem?_eq_none (by omega)]
theorem setAt_front {α : Type} {cs vs : List α} (h : vs.length ≤ cs.length) : setAt cs 0 vs = vs ++ cs.drop vs.length := by
 apply List.ext_getElem?
 intro j
 rw [setAt_get]
 by_cases hj : j < vs.length
 ·rw [if_pos (by omega), if_pos (by omega), List.getElem?_append_left hj]; rfl
 ·rw [if_neg (by omega), List.getElem?_append_right (by omega), List.getElem?_drop]
  congr 1; omega
theorem set_snoc (s : List Nat) (m v i : Nat) (hi : i = s.length) : (s ++ List.replicate (m + 1) 0).set i v = (s ++ [v]) ++ List.replicate m 0 := by
 subst hi
 rw [List.set_append_right _ _ (Nat.le_refl _)]
 simp [List.replicate_succ]
theorem get_snoc (s : List Nat) (m i : Nat) (hi : i = s.length) : (s ++ List.replicate (m + 1) 0)[i]? = some 0 := by
 subst hi; simp [List.replicate_succ]
theorem digs_get_lt {b n i d : Nat} (hb : 1 < b) (h : (digs b n)[i]? = some d) : d < b := digs_lt hb n d (List.mem_of_getElem? h)
theorem digs_small {n : Nat} (h0 : 0 < n) (h : n < MB) : digs MB n = [n] := by
 rw [digs_pos (by decide) h0, Nat.div_eq_of_lt h, digs_zero, Nat.mod_eq_of_lt h]
theorem digs_drop {b : Nat} (hb : 1 < b) (n k : Nat) : (digs b n).drop k = digs b (ofD b ((digs b n).drop k)) := by
 symm
 refine digs_ofD hb ⟨fun d hd => digs_lt hb n d (List.mem_of_mem_drop hd), ?_⟩
 by_cases hk : k < (digs b n).length
 ·rw [List.getLast?_drop, if_neg (by omega)]; exact digs_last hb n
 ·rw [List.drop_of_length_le (by omega)]; simp
theorem digs_len_le {b n : Nat} (hb : 1 < b) : b ^ ((digs b n).length - 1) ≤ n ∨ n = 0 := by
 rcases Nat.eq_zero_or_pos n with h | h
 ·exact .inr h
 ·left
  have hne : digs b n ≠ [] := fun e => by have := (digs_eq_nil hb).1 e; omega
  have hl := digs_last hb n
  obtain ⟨s, x, e⟩ : ∃ s x, digs b n = s ++ [x] := ⟨_, _, (List.dropLast_concat_getLast hne).symm⟩
  have h1 := ofD_digs hb n
  rw [e, ofD_snoc] at h1
  rw [e] at hl
  simp at hl
  rw [e, List.length_append]
  simp
  have : b ^ s.length * 1 ≤ b ^ s.length * x := Nat.mul_le_mul_left _ (by omega)
  omega
theorem lt_of_len {b m n : Nat} (hb : 1 < b) (h : (digs b m).length < (digs b n).length) : m < n := by
 have h1 := ofD_lt (b := b) (digs_lt hb m)
 rw [ofD_digs hb] at h1
 rcases digs_len_le (n := n) hb with h2 | h2
 ·have : b ^ (digs b m).length ≤ b ^ ((digs b n).length - 1) := Nat.pow_le_pow_right (by omega) (by omega)
  omega
 ·subst h2; rw [digs_zero] at h; simp at h
theorem len_mono {b m n : Nat} (hb : 1 < b) (h : m ≤ n) : (digs b m).length ≤ (digs b n).length := by
 rcases Nat.lt_or_ge (digs b n).length (digs b m).length with h1 | h1
 ·have := lt_of_len hb h1; omega
 ·exact h1
def restD (n k : Nat) : Nat := ofD MB ((digs MB n).drop k)
def preD (n k : Nat) : List Nat := (digs MB n).take k
theorem restD_zero (n : Nat) : restD n 0 = n := ofD_digs (by decide) n
theorem preD_zero (n : Nat) : preD n 0 = [] := rfl
theorem preD_end (n : Nat) : preD n (digs MB n).length = digs MB n := List.take_length
theorem preD_length {n k : Nat} (h : k ≤ (digs MB n).length) : (preD n k).length = k := by simp [preD, Nat.min_eq_left h]
theorem restD_step {n k : Nat} (h : k < (digs MB n).length) : restD n (k + 1) = restD n k / MB ∧ preD n (k + 1) = preD n k ++ [restD n k % MB] := by
 have hd : (digs MB n)[k]? = some (digs MB n)[k] := List.getElem?_eq_getElem h
 have h1 := ofD_drop MB hd
 have h2 : (digs MB n)[k] < MB := digs_get_lt (by decide) hd
 constructor
 ·unfold restD; rw [h1, Nat.add_mul_div_left _ _ (by decide), Nat.div_eq_of_lt h2]; omega
 ·unfold preD restD; rw [take_snoc hd, h1, Nat.add_mul_mod_self_left, Nat.mod_eq_of_lt h2]
theorem restD_le {n k : Nat} (hk : k ≤ (digs MB n).length) : restD n k ≤ n := by
 have := ofD_take_drop MB k _ hk
 rw [ofD_digs (by decide)] at this
 have h2 := Nat.le_mul_of_pos_left (ofD MB ((digs MB n).drop k)) (Nat.pow_pos (n := k) (show 0 < MB by decide))
 unfold restD; omega
theorem restD_eq {n k : Nat} (hk : k ≤ (digs MB n).length) : restD n k = 0 ↔ k = (digs MB n).length := by
 constructor
 ·intro e
  have := digs_drop (b := MB) (by decide) n k
  rw [show ofD MB ((digs MB n).drop k) = 0 from e, digs_zero, List.drop_eq_nil_iff] at this
  omega
 ·intro e; unfold restD; rw [e, List.drop_length]; rfl
def cmpZ (a b : Int) : Int := if a < b then -1 else if b < a then 1 else 0
theorem cmpZ_lt {a b : Int} (h : a < b) : cmpZ a b = -1 := by simp [cmpZ, h]
theorem cmpZ_gt {a b : Int} (h : b < a) : cmpZ a b = 1 := by simp [cmpZ]; omega
theorem cmpZ_eq {a b : Int} (h : a = b) : cmpZ a b = 0 := by simp [cmpZ]; omega
theorem cmpZ_ne {a b : Int} : cmpZ a b ≠ 0 ↔ a ≠ b := by unfold cmpZ; split <;> (try split) <;> omega
theorem lt_of_top {b i x y : Nat} {l m : List Nat} (hl : ∀ d ∈ l, d < b) (hx : l[i]? = some x) (hy : m[i]? = some y) (hd : l.drop (i + 1) = m.drop (i + 1)) (hlt : x < y) : ofD b l < ofD b m := by
 have hi : i < l.length := (List.getElem?_eq_some_iff.1 hx).1
 have hj : i < m.length := (List.getElem?_eq_some_iff.1 hy).1
 rw [ofD_take_drop b i l (by omega), ofD_take_drop b i m (by omega), ofD_drop b hx, ofD_drop b hy, hd]
 have h1 : ofD b (l.take i) < b ^ i := by
  have := ofD_lt (b := b) (l := l.take i) fun d hd => hl d (List.mem_of_mem_take hd)
  rwa [List.length_take, Nat.min_eq_left (by omega)] at this
 have h2 : b ^ i * (x + b * ofD b (m.drop (i + 1)) + 1) ≤ b ^ i * (y + b * ofD b (m.drop (i + 1))) := Nat.mul_le_mul_left _ (by omega)
 rw [Nat.mul_add _ _ 1] at h2
 omega
theorem get_mid (s t : List Nat) (x : Nat) (i : Nat) (hi : i = s.length) : (s ++ x :: t)[i]? = some x := by subst hi; simp
theorem set_mid (s t : List Nat) (x v : Nat) (i : Nat) (hi : i = s.length) : (s ++ x :: t).set i v = (s ++ [v]) ++ t := by
 subst hi; rw [List.set_append_right _ _ (Nat.le_refl _)]; simp
theorem drop_cons {l : List Nat} {i x : Nat} (h : l[i]? = some x) : l.drop i = x :: l.drop (i + 1) := by
 rw [List.drop_eq_getElem_cons (List.getElem?_eq_some_iff.1 h).1, (List.getElem?_eq_some_iff.1 h).2]
end Go.Abs
namespace Go.Proofs.YtdjfjpeoddmamaaGreatDoor
open Go.Abs
set_option maxRecDepth 20000
theorem fs_isNaN_i (z : Int) : FSpec Tryz.prog 247 [i64 z] (bln false) := by
 refine FSpec.enter Tryz.func247 rfl (by kernel_rfl) rfl rfl rfl ?_ rfl ?_
 ·exact closed_cons (closed_v _) closed_nil
 refine r_z 1 ?_
 refine r_z 4 ?_
 refine AWp.ret ?_
 refine Fin.tmpE rfl ?_ (closed_v _)
 simp [bln]
theorem fs_isNaN_u (z : Nat) : FSpec Tryz.prog 248 [u32 z] (bln false) := by
 refine FSpec.enter Tryz.func248 rfl (by kernel_rfl) rfl rfl rfl ?_ rfl ?_
 ·exact closed_cons (closed_v _) closed_nil
 refine r_z 1 ?_
 refine r_z 4 ?_
 refine AWp.ret ?_
 refine Fin.tmpE rfl ?_ (closed_v _)
 simp [bln]
theorem fs_Compare_i (a b : Int) : FSpec Tryz.prog 190 [i64 a, i64 b] (i64 (cmpZ a b)) := by
 refine FSpec.enter Tryz.func190 rfl (by kernel_rfl) rfl rfl rfl ?_ rfl ?_
 ·exact closed_cons (closed_v _) (closed_cons (closed_v _) closed_nil)
 refine r_z 1 ?_
 refine r_c 3 (fs_isNaN_i a) ?_
 refine a_z ?_
 refine r_c 3 (fs_isNaN_i b) ?_
 refine a_z ?_
 refine AWp.seq ?_
 refine r_z 1 ?_
 refine AWp.cond rfl (fun h => ?_) (fun _ => AWp.skip ?_)
 ·cases h
 refine AWp.seq ?_
 refine r_z 1 ?_
 refine AWp.cond rfl (fun h => ?_) (fun _ => AWp.skip ?_)
 ·cases h
 refine AWp.seq ?_
 refine r_z 3 ?_
 refine AWp.cond rfl (fun h => ?_) (fun h => AWp.skip ?_)
 ·refine r_z 1 ?_
  refine AWp.ret (Fin.tmpE rfl ?_ (closed_v _))
  simp at h; simp [i64, ofV, cmpZ, h]
 refine AWp.seq ?_
 refine r_z 3 ?_
 refine AWp.cond rfl (fun h' => ?_) (fun h' => AWp.skip ?_)
 ·refine r_z 1 ?_
  refine AWp.ret (Fin.tmpE rfl ?_ (closed_v _))
  simp at h h'; simp [i64, ofV, cmpZ]; omega
 refine r_z 1 ?_
 refine AWp.ret (Fin.tmpE rfl ?_ (closed_v _))
 simp at h h'; simp [i64, ofV, cmpZ]; omega
theorem fs_Compare_u (a b : Nat) : FSpec Tryz.prog 191 [u32 a, u32 b] (i64 (cmpZ a b)) := by
 refine FSpec.enter Tryz.func191 rfl (by kernel_rfl) rfl rfl rfl ?_ rfl ?_
 ·exact closed_cons (closed_v _) (closed_cons (closed_v _) closed_nil)
 refine r_z 1 ?_
 refine r_c 3 (fs_isNaN_u a) ?_
 refine a_z ?_
 refine r_c 3 (fs_isNaN_u b) ?_
 refine a_z ?_
 refine AWp.seq ?_
 refine r_z 1 ?_
 refine AWp.cond rfl (fun h => ?_) (fun _ => AWp.skip ?_)
 ·cases h
 refine AWp.seq ?_
 refine r_z 1 ?_
 refine AWp.cond rfl (fun h => ?_) (fun _ => AWp.skip ?_)
 ·cases h
 refine AWp.seq ?_
 refine r_z 3 ?_
 refine AWp.cond rfl (fun h => ?_) (fun h => AWp.skip ?_)
 ·refine r_z 1 ?_
  refine AWp.ret (Fin.tmpE rfl ?_ (closed_v _))
  simp at h; simp [i64, ofV, cmpZ, h]
 refine AWp.seq ?_
 refine r_z 3 ?_
 refine AWp.cond rfl (fun h' => ?_) (fun h' => AWp.skip ?_)
 ·refine r_z 1 ?_
  refine AWp.ret (Fin.tmpE rfl ?_ (closed_v _))
  simp at h h'; simp [i64, ofV, cmpZ]; omega
 refine r_z 1 ?_
 refine AWp.ret (Fin.tmpE rfl ?_ (closed_v _))
 simp at h h'; simp [i64, ofV, cmpZ]; omega
theorem digs_one {n : Nat} : (digs MB n).length = 1 ∧ (digs MB n)[0]? = some 1 ↔ n = 1 := by
 constructor
 ·rintro ⟨h1, h2⟩
  have := ofD_digs (b := MB) (by decide) n
  match hd : digs MB n, h1, h2 with
  | [d], _, h2 => rw [hd] at this; simp at h2; subst h2; simpa [ofD] using this.symm
 ·rintro rfl
  rw [digs_pos (by decide) (by decide)]
  rw [show 1 / MB = 0 by decide, digs_zero]; simp
theorem fs_one (n : Nat) : FSpec Tryz.prog 177 [.agg [mag n]] (bln (n == 1)) := by
 refine FSpec.enter Tryz.func177 rfl (by kernel_rfl) rfl rfl rfl ?_ rfl ?_
 ·exact closed_cons (closed_agg (closed_cons (closed_mag n) closed_nil)) closed_nil
 refine r_z 2 ?_
 by_cases h1 : (digs MB n).length = 1
 ·obtain ⟨d, hd⟩ : ∃ d, (digs MB n)[0]? = some d := ⟨_, List.getElem?_eq_getElem (by omega)⟩
  have hd' : (dE (digs MB n))[(0 : Int).toNat]? = some [u32 d] := dE_get hd
  refine s_r 12 ?_
  refine a_5 ?_
  first | refine AR.op0y rfl rfl (gy (by simp; omega)) (.fieldAddr_l rfl tf_31_0.h (by decide)) rfl rfl ?_ | refine AR.op0y rfl rfl (gy (by simp; omega)) (.fieldAddr_a rfl tf_31_0.h (by decide)) rfl rfl ?_
  first | refine AR.op0y rfl rfl (gy (by simp; omega)) (.load_l1 rfl rfl rfl tg_29.h rfl) rfl rfl ?_ | refine AR.op0y rfl rfl (gy (by simp; omega)) (.load_a1 rfl rfl tg_29.h rfl) rfl rfl ?_
  first | refine AR.op0y rfl rfl (gy (by simp; omega)) (.index_l rfl rfl (by omega) (by omega) te_29.h) rfl rfl ?_ | refine AR.op0y rfl rfl (gy (by simp; omega)) (.index_a rfl rfl (by omega) hd' rfl te_29.h) rfl rfl ?_
  first | refine AR.op0y rfl rfl (gy (by simp; omega)) (.load_l1 rfl rfl hd' tg_236.h rfl) rfl rfl ?_ | refine AR.op0y rfl rfl (gy (by simp; omega)) (.load_a1 rfl hd' tg_236.h rfl) rfl rfl ?_
  refine AR.op0y rfl rfl (gy (by simp; omega)) (.bin rfl rfl binI_eql) rfl rfl ?_
  refine o_0 (.pickT rfl (by simp; omega) rfl) ?_
  refine a_z ?_
  refine AWp.ret (Fin.tmpE rfl ?_ (closed_v _))
  simp only [bln]
  congr 2
  rw [Bool.eq_iff_iff]
  have := digs_one (n := n)
  simp only [h1, hd, true_and, Option.some.injEq] at this
  simp only [beq_iff_eq, ← this]
  omega
 ·refine s_r 12 ?_
  refine a_5 ?_
  refine AR.opN rfl rfl (gn (by simp; omega)) rfl rfl ?_
  refine AR.opN rfl rfl (gn (by simp; omega)) rfl rfl ?_
  refine AR.opN rfl rfl (gn (by simp; omega)) rfl rfl ?_
  refine AR.opN rfl rfl (gn (by simp; omega)) rfl rfl ?_
  refine AR.opN rfl rfl (gn (by simp; omega)) rfl rfl ?_
  refine o_0 (.pickF rfl (by simp; omega) rfl) ?_
  refine a_z ?_
  refine AWp.ret (Fin.tmpE rfl ?_ (closed_v _))
  simp only [bln, ofV]
  congr 2
  symm
  rw [beq_eq_false_iff_ne]
  intro h
  exact h1 (digs_one.2 h).1
end Go.Proofs.YtdjfjpeoddmamaaGreatDoor
