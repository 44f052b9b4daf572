/- Part V08 of the proof. -/
import Derived.Test.YtdhedjbmdnnbkaaGreatDoorV07
import Derived.Test.YtdhedjbmdnnbkaaGreatDoorChecked
import Derived.KernelRfl
import Derived.Below
set_option linter.all false
namespace Go.Abs
class TZ (P : Program) (t : Nat) (v : outParam (List Value)) : Prop where h : fz_ P t = some v
class TS (P : Program) (t : Nat) (v : outParam Nat) : Prop where h : szOf P t = some v
class TG (P : Program) (t : Nat) (v : outParam Bool) : Prop where h : fq_ P t = some v
class TB (P : Program) (t : Nat) (v : outParam Nat) : Prop where h : byOf P t = some v
class TE (P : Program) (t : Nat) (v : outParam (Nat × Nat)) : Prop where h : elOf P t = some v
class TU (P : Program) (t : Nat) (v : outParam TypeDesc) : Prop where h : P.underlying t = some v
class TP (P : Program) (t : Nat) (v : outParam (List (Nat × Nat))) : Prop where h : sp_ P t = some v
class TF (P : Program) (t i : Nat) (v : outParam (Nat × Nat)) : Prop where h : fldOf P t i = some v
class TA (P : Program) (t i : Nat) (v : outParam Bool) : Prop where h : px_ P t i = some v
structure Hid (q : Prop) : Prop where h : q
section
variable {P : Program} {ops : Array Oper} {nx n j : Nat} {rest : List Oper} {fr : Fr} {hp : Hp} {K : Fps → Fr → Hp → Prop} {dst : Option Nat} {ty : Nat} {pos : String} {after : Array Edge}
theorem k_load {T : Nat} {x : Operand} (h : AR P ops nx n j (⟨dst, .load T x, ty, pos, after, none⟩ :: rest) fr hp K) : AR P ops nx n j (⟨dst, .load T x, ty, pos, after, none⟩ :: rest) fr hp K := h
theorem xq_ {T f : Nat} {x : Operand} (h : AR P ops nx n j (⟨dst, .fieldAddr T x f, ty, pos, after, none⟩ :: rest) fr hp K) : AR P ops nx n j (⟨dst, .fieldAddr T x f, ty, pos, after, none⟩ :: rest) fr hp K := h
theorem k_bin {b : BinOp} {T yt : Nat} {x y : Operand} (h : AR P ops nx n j (⟨dst, .binOp b T x y yt, ty, pos, after, none⟩ :: rest) fr hp K) : AR P ops nx n j (⟨dst, .binOp b T x y yt, ty, pos, after, none⟩ :: rest) fr hp K := h
theorem k_call {c : Call} (h : AR P ops nx n j (⟨dst, .call c, ty, pos, after, none⟩ :: rest) fr hp K) : AR P ops nx n j (⟨dst, .call c, ty, pos, after, none⟩ :: rest) fr hp K := h
theorem k_move {x : Operand} (h : AR P ops nx n j (⟨dst, .move x, ty, pos, after, none⟩ :: rest) fr hp K) : AR P ops nx n j (⟨dst, .move x, ty, pos, after, none⟩ :: rest) fr hp K := h
theorem k_index {T : Nat} {x y : Operand} (h : AR P ops nx n j (⟨dst, .indexAddr T x y, ty, pos, after, none⟩ :: rest) fr hp K) : AR P ops nx n j (⟨dst, .indexAddr T x y, ty, pos, after, none⟩ :: rest) fr hp K := h
theorem k_assign {x : Operand} (h : AR P ops nx n j (⟨dst, .assign x, ty, pos, after, none⟩ :: rest) fr hp K) : AR P ops nx n j (⟨dst, .assign x, ty, pos, after, none⟩ :: rest) fr hp K := h
theorem k_store {T : Nat} {x y : Operand} (h : AR P ops nx n j (⟨dst, .store T x y, ty, pos, after, none⟩ :: rest) fr hp K) : AR P ops nx n j (⟨dst, .store T x y, ty, pos, after, none⟩ :: rest) fr hp K := h
theorem k_extract {x : Operand} {i : Nat} (h : AR P ops nx n j (⟨dst, .extract x i, ty, pos, after, none⟩ :: rest) fr hp K) : AR P ops nx n j (⟨dst, .extract x i, ty, pos, after, none⟩ :: rest) fr hp K := h
theorem k_box {T : Nat} {x : Operand} (h : AR P ops nx n j (⟨dst, .box T x, ty, pos, after, none⟩ :: rest) fr hp K) : AR P ops nx n j (⟨dst, .box T x, ty, pos, after, none⟩ :: rest) fr hp K := h
theorem k_alloc {T : Nat} (h : AR P ops nx n j (⟨dst, .alloc T, ty, pos, after, none⟩ :: rest) fr hp K) : AR P ops nx n j (⟨dst, .alloc T, ty, pos, after, none⟩ :: rest) fr hp K := h
theorem k_conv {S D : Nat} {x : Operand} (h : AR P ops nx n j (⟨dst, .convert S D x, ty, pos, after, none⟩ :: rest) fr hp K) : AR P ops nx n j (⟨dst, .convert S D x, ty, pos, after, none⟩ :: rest) fr hp K := h
theorem k_field {T f : Nat} {x : Operand} (h : AR P ops nx n j (⟨dst, .field T x f, ty, pos, after, none⟩ :: rest) fr hp K) : AR P ops nx n j (⟨dst, .field T x f, ty, pos, after, none⟩ :: rest) fr hp K := h
theorem k_nilc {x : Operand} (h : AR P ops nx n j (⟨dst, .nilCheck x, ty, pos, after, none⟩ :: rest) fr hp K) : AR P ops nx n j (⟨dst, .nilCheck x, ty, pos, after, none⟩ :: rest) fr hp K := h
theorem k_pick {x y z : Operand} (h : AR P ops nx n j (⟨dst, .pick x y z, ty, pos, after, none⟩ :: rest) fr hp K) : AR P ops nx n j (⟨dst, .pick x y z, ty, pos, after, none⟩ :: rest) fr hp K := h
theorem k_un {b : UnOp} {T : Nat} {x : Operand} (h : AR P ops nx n j (⟨dst, .unOp b T x, ty, pos, after, none⟩ :: rest) fr hp K) : AR P ops nx n j (⟨dst, .unOp b T x, ty, pos, after, none⟩ :: rest) fr hp K := h
theorem k_build {T : Nat} {ps : Array (Nat × Operand)} (h : AR P ops nx n j (⟨dst, .build T ps, ty, pos, after, none⟩ :: rest) fr hp K) : AR P ops nx n j (⟨dst, .build T ps, ty, pos, after, none⟩ :: rest) fr hp K := h
theorem k_eql {T yt : Nat} {x y : Operand} (h : AR P ops nx n j (⟨dst, .binOp .eql T x y yt, ty, pos, after, none⟩ :: rest) fr hp K) : AR P ops nx n j (⟨dst, .binOp .eql T x y yt, ty, pos, after, none⟩ :: rest) fr hp K := h
theorem k_neq {T yt : Nat} {x y : Operand} (h : AR P ops nx n j (⟨dst, .binOp .neq T x y yt, ty, pos, after, none⟩ :: rest) fr hp K) : AR P ops nx n j (⟨dst, .binOp .neq T x y yt, ty, pos, after, none⟩ :: rest) fr hp K := h
theorem k_lss {T yt : Nat} {x y : Operand} (h : AR P ops nx n j (⟨dst, .binOp .lss T x y yt, ty, pos, after, none⟩ :: rest) fr hp K) : AR P ops nx n j (⟨dst, .binOp .lss T x y yt, ty, pos, after, none⟩ :: rest) fr hp K := h
theorem k_leq {T yt : Nat} {x y : Operand} (h : AR P ops nx n j (⟨dst, .binOp .leq T x y yt, ty, pos, after, none⟩ :: rest) fr hp K) : AR P ops nx n j (⟨dst, .binOp .leq T x y yt, ty, pos, after, none⟩ :: rest) fr hp K := h
theorem k_gtr {T yt : Nat} {x y : Operand} (h : AR P ops nx n j (⟨dst, .binOp .gtr T x y yt, ty, pos, after, none⟩ :: rest) fr hp K) : AR P ops nx n j (⟨dst, .binOp .gtr T x y yt, ty, pos, after, none⟩ :: rest) fr hp K := h
theorem k_geq {T yt : Nat} {x y : Operand} (h : AR P ops nx n j (⟨dst, .binOp .geq T x y yt, ty, pos, after, none⟩ :: rest) fr hp K) : AR P ops nx n j (⟨dst, .binOp .geq T x y yt, ty, pos, after, none⟩ :: rest) fr hp K := h
theorem k_add {T yt : Nat} {x y : Operand} (h : AR P ops nx n j (⟨dst, .binOp .add T x y yt, ty, pos, after, none⟩ :: rest) fr hp K) : AR P ops nx n j (⟨dst, .binOp .add T x y yt, ty, pos, after, none⟩ :: rest) fr hp K := h
theorem k_sub {T yt : Nat} {x y : Operand} (h : AR P ops nx n j (⟨dst, .binOp .sub T x y yt, ty, pos, after, none⟩ :: rest) fr hp K) : AR P ops nx n j (⟨dst, .binOp .sub T x y yt, ty, pos, after, none⟩ :: rest) fr hp K := h
theorem k_mul {T yt : Nat} {x y : Operand} (h : AR P ops nx n j (⟨dst, .binOp .mul T x y yt, ty, pos, after, none⟩ :: rest) fr hp K) : AR P ops nx n j (⟨dst, .binOp .mul T x y yt, ty, pos, after, none⟩ :: rest) fr hp K := h
theorem k_quo {T yt : Nat} {x y : Operand} (h : AR P ops nx n j (⟨dst, .binOp .quo T x y yt, ty, pos, after, none⟩ :: rest) fr hp K) : AR P ops nx n j (⟨dst, .binOp .quo T x y yt, ty, pos, after, none⟩ :: rest) fr hp K := h
theorem k_rem {T yt : Nat} {x y : Operand} (h : AR P ops nx n j (⟨dst, .binOp .rem T x y yt, ty, pos, after, none⟩ :: rest) fr hp K) : AR P ops nx n j (⟨dst, .binOp .rem T x y yt, ty, pos, after, none⟩ :: rest) fr hp K := h
theorem k_len {aa : Array Operand} {tt : Array Nat} (h : AR P ops nx n j (⟨dst, .call ⟨.builtin .len, aa, tt⟩, ty, pos, after, none⟩ :: rest) fr hp K) : AR P ops nx n j (⟨dst, .call ⟨.builtin .len, aa, tt⟩, ty, pos, after, none⟩ :: rest) fr hp K := h
theorem k_append {aa : Array Operand} {tt : Array Nat} (h : AR P ops nx n j (⟨dst, .call ⟨.builtin .append, aa, tt⟩, ty, pos, after, none⟩ :: rest) fr hp K) : AR P ops nx n j (⟨dst, .call ⟨.builtin .append, aa, tt⟩, ty, pos, after, none⟩ :: rest) fr hp K := h
end
section
variable {P : Program} {ops : Array Oper} {nx n j : Nat} {rest : List Oper} {fr : Fr} {hp : Hp} {K : Fps → Fr → Hp → Prop} {dst : Option Nat} {op : Op} {ty : Nat} {pos : String} {after : Array Edge} {g t d : Nat} {want b : Bool}
theorem g_y (ht : (ops[g]?).bind (·.dst) = some t) (hx : evF (look fr) (.tmp t) = some (.v (.bool want))) (h : AR P ops nx n j (⟨dst, op, ty, pos, after, none⟩ :: rest) fr hp K) : AR P ops nx n j (⟨dst, op, ty, pos, after, some (g, want)⟩ :: rest) fr hp K := by
 obtain ⟨us, st', ⟨u, rd, us', he, ⟨h1, h2⟩, hd, hr⟩, hk⟩ := h
 exact ⟨us, st', ⟨u, rd, us', he, ⟨h1, t, .bool want, ht, hx, .inl ⟨rfl, h2⟩⟩, hd, hr⟩, hk⟩
theorem g_n (ht : (ops[g]?).bind (·.dst) = some t) (hx : evF (look fr) (.tmp t) = some (.v (.bool b))) (hb : (b == want) = false) (hnd : bn_ op = true) (hd : Nat.blt d n = true) (h : AR P ops nx n (j + 1) rest ((d, .v undef) :: fr) hp fun fps f h => K (([], []) :: fps) f h) : AR P ops nx n j (⟨some d, op, ty, pos, after, some (g, want)⟩ :: rest) fr hp K :=
 AR.opN ht hx (gn (by cases b <;> cases want <;> first | rfl | exact absurd hb (by decide))) hnd hd h
theorem g_nn (ht : (ops[g]?).bind (·.dst) = some t) (hx : evF (look fr) (.tmp t) = some (.v (.bool b))) (hb : (b == want) = false) (hnd : bn_ op = true) (h : AR P ops nx n (j + 1) rest fr hp fun fps f h => K (([], []) :: fps) f h) : AR P ops nx n j (⟨none, op, ty, pos, after, some (g, want)⟩ :: rest) fr hp K :=
 AR.opNn ht hx (gn (by cases b <;> cases want <;> first | rfl | exact absurd hb (by decide))) hnd h
theorem vT {P : Program} {p : Bool} {f : Sem Value} (h : ∀ w, f.run P w = .ok (.bool p) w) (e : p = true) : ∀ w, f.run P w = .ok (.bool true) w := e ▸ h
theorem vF {P : Program} {p : Bool} {f : Sem Value} (h : ∀ w, f.run P w = .ok (.bool p) w) (e : p = false) : ∀ w, f.run P w = .ok (.bool false) w := e ▸ h
end
theorem a_1 {p q : Prop} (h : q) (f : Hid q → p := by
 intro h0
 first
 | (apply k_load; first | exact o_0 (.load_l1 rfl rfl rfl TG.h rfl) h0.h | exact o_0 (.load_l rfl rfl rfl TG.h TS.h (nle rfl)) h0.h | exact o_0 (.load_a1 rfl rfl TG.h rfl) h0.h | exact o_0 (.load_a rfl rfl TG.h TS.h (nle rfl)) h0.h | exact o_0 (.load_l rfl rfl (by assumption) TG.h TS.h (by exact nle rfl)) h0.h | exact o_0 (.load_l1 rfl rfl (by assumption) TG.h (by exact rfl)) h0.h | exact o_0 (.load_a rfl (by assumption) TG.h TS.h (by exact nle rfl)) h0.h | exact o_0 (.load_a1 rfl (by assumption) TG.h (by exact rfl)) h0.h)
 | (apply k_move; exact o_0 (.move rfl) h0.h)
 | (apply xq_; first | exact o_0 (.fieldAddr_l rfl TF.h (by decide)) h0.h | exact o_0 (.fieldAddr_a rfl TF.h (by decide)) h0.h)
 | (apply k_bin; first | (apply k_eql; first | exact o_0 (.bin rfl rfl bo_) h0.h | exact o_0 (.bin rfl rfl (binB_eql TU.h)) h0.h | exact o_0 (.bin rfl rfl tr_) h0.h | exact o_0 (.nilq_v rfl rfl TE.h) h0.h | exact o_0 (.nilq_arr rfl (by assumption) rfl TE.h) h0.h) | (apply k_neq; first | exact o_0 (.bin rfl rfl fj_) h0.h | exact o_0 (.bin rfl rfl (binB_neq TU.h)) h0.h | exact o_0 (.bin rfl rfl binS_neq) h0.h) | (apply k_lss; exact o_0 (.bin rfl rfl ey_) h0.h) | (apply k_leq; exact o_0 (.bin rfl rfl hp_) h0.h) | (apply k_gtr; exact o_0 (.bin rfl rfl mh_) h0.h) | (apply k_geq; exact o_0 (.bin rfl rfl tt_) h0.h) | (apply k_add; first | exact o_0 (.bin rfl rfl (bI64_add (by omega))) h0.h | exact o_0 (.bin rfl rfl (bU64_add (by omega))) h0.h | exact o_0 (.bin rfl rfl (bU32_add (by omega))) h0.h | exact o_0 (.bin rfl rfl (bU8_add (by omega))) h0.h) | (apply k_sub; first | exact o_0 (.bin rfl rfl (mj_ (by omega))) h0.h | exact o_0 (.bin rfl rfl (bU64_sub (by omega))) h0.h | exact o_0 (.bin rfl rfl (bU32_sub (by omega))) h0.h | exact o_0 (.bin rfl rfl (bU8_sub (by omega))) h0.h) | (apply k_mul; first | exact o_0 (.bin rfl rfl (tw_ (by omega))) h0.h | exact o_0 (.bin rfl rfl (bU64_mul (by omega))) h0.h) | (apply k_quo; first | exact o_0 (.bin rfl rfl (bI64_quo (by omega))) h0.h | exact o_0 (.bin rfl rfl (bU64_quo (by omega))) h0.h | exact o_0 (.bin rfl rfl (bU32_quo (by omega))) h0.h) | (apply k_rem; first | exact o_0 (.bin rfl rfl (tv_ (by omega))) h0.h | exact o_0 (.bin rfl rfl (bU64_rem (by omega))) h0.h | exact o_0 (.bin rfl rfl (bU32_rem (by omega))) h0.h | exact o_0 (.bin rfl rfl (bU8_rem (by omega))) h0.h))
 | (apply k_call; first | (apply k_len; first | exact o_0 (.lenD rfl rfl rfl rfl TE.h) h0.h | exact o_0 (.lenI rfl rfl rfl rfl TE.h) h0.h | exact o_0 (.lenP rfl rfl rfl rfl TE.h) h0.h | exact o_0 (.lenC rfl rfl rfl rfl TE.h) h0.h | exact o_0 (.lenR rfl rfl rfl rfl TE.h) h0.h | exact o_0 (.len rfl rfl rfl rfl rfl TE.h) h0.h) | (apply k_append; first | exact o_1 (.append_e rfl rfl rfl TE.h rfl rfl rfl (.lsl rfl (nle rfl)) (by first | assumption | (simp; done)) TZ.h rfl TB.h (by first | rfl | assumption | (simp; done) | (simp; omega) | omega) (by first | (simp [maxLen]; done) | (simp [maxLen]; omega))) h0.h | exact o_2 (.append_l rfl rfl rfl TE.h rfl rfl rfl rfl rfl (by first | rfl | assumption | (simp; done) | (simp; omega) | omega) (by first | exact ib_ _ | exact hz_ _ | exact hw_ _ | exact ic_ _ | exact gs_ _ | rfl | simp) (by first | rfl | exact ib_ _ | exact hz_ _ | exact hw_ _ | exact ic_ _ | exact gs_ _ | simp) rfl (.lsl rfl (nle rfl)) TZ.h rfl TB.h (by first | rfl | assumption | (simp; done) | (simp; omega) | omega) (by first | (simp [maxLen]; done) | (simp [maxLen]; omega))) h0.h) | exact o_0 (.builtinV (vs := [_, _]) rfl rfl bmin) h0.h | exact o_0 (.builtinV (vs := [_, _]) rfl rfl bmax) h0.h)
 | (apply k_index; first | exact o_0 (.index_l rfl rfl (by omega) (by omega) TE.h) h0.h | exact o_0 (.index_a rfl rfl (by omega) rfl rfl TE.h) h0.h | exact o_0 (.index_a rfl rfl (by omega) (by assumption) (by rfl) TE.h) h0.h)
 | (apply k_assign; exact o_0 (.assign rfl) h0.h)
 | (apply k_store; exact o_1n (.store rfl rfl rfl rfl rfl rfl TS.h (nle rfl)) h0.h)
 | (apply k_extract; exact o_0 (.extract rfl rfl) h0.h)
 | (apply k_box; exact o_1 (.box rfl rfl) h0.h)
 | (apply k_alloc; exact o_1 (.alloc TZ.h) h0.h)
 | (apply k_conv; first | exact o_0 (.conv rfl (cI64 (by omega) TU.h TU.h)) h0.h | exact o_0 (.conv rfl (cU64 (by omega) TU.h TU.h)) h0.h | exact o_0 (.conv rfl (cU32 (by omega) TU.h TU.h)) h0.h | exact o_0 (.conv rfl (cU8 (by omega) TU.h TU.h)) h0.h)
 | (apply k_field; first | exact o_0 (.field1 rfl TF.h TA.h rfl) h0.h | exact o_0 (.field rfl TF.h TA.h (nle rfl)) h0.h)
 | (apply k_nilc; exact o_0 (.nilCheck rfl rfl) h0.h)
 | (apply k_pick; first | exact o_0 (.pick rfl (fun _ => rfl) (fun _ => rfl)) h0.h | exact o_0 (.pick rfl (fun _ => rfl) (fun h => absurd h (by decide))) h0.h | exact o_0 (.pick rfl (fun h => absurd h (by decide)) (fun _ => rfl)) h0.h)
 | (apply k_un; first | exact o_0 (.un rfl uf_) h0.h | exact o_0 (.un rfl (uI64_neg (by omega))) h0.h)
 | (apply k_build; exact o_0 (.build TZ.h TP.h rfl rfl) h0.h)
 | exact o_0 (.makeFunc rfl rfl) h0.h
 | exact o_1 (.buildSlice TE.h TZ.h rfl (by decide) rfl rfl rfl (by first | (simp; done) | (simp [by_, ofV]; done) | rfl)) h0.h
 | exact o_1 (.makeSlice rfl rfl TE.h TZ.h rfl TB.h (by first | omega | (simp; done) | (simp; omega)) (by first | omega | (simp; done) | (simp; omega)) (by unfold maxLen; first | omega | (simp; done) | (simp; omega))) h0.h
 | exact o_0 (.lookup rfl rfl TU.h TU.h rfl rfl rfl) h0.h
 | exact g_y rfl rfl h0.h
 | exact g_n rfl rfl rfl rfl rfl h0.h
 | exact g_nn rfl rfl rfl rfl h0.h) : p := f ⟨h⟩
theorem a_2 {p q : Prop} (h : q) (f : Hid q → p := by intro h0; (iterate 2 (refine a_1 ?_)); exact h0.h) : p := f ⟨h⟩
theorem a_3 {p q : Prop} (h : q) (f : Hid q → p := by intro h0; (iterate 3 (refine a_1 ?_)); exact h0.h) : p := f ⟨h⟩
theorem a_4 {p q : Prop} (h : q) (f : Hid q → p := by intro h0; (iterate 4 (refine a_1 ?_)); exact h0.h) : p := f ⟨h⟩
theorem a_5 {p q : Prop} (h : q) (f : Hid q → p := by intro h0; (iterate 5 (refine a_1 ?_)); exact h0.h) : p := f ⟨h⟩
theorem a_6 {p q : Prop} (h : q) (f : Hid q → p := by intro h0; (iterate 6 (refine a_1 ?_)); exact h0.h) : p := f ⟨h⟩
theorem a_7 {p q : Prop} (h : q) (f : Hid q → p := by intro h0; (iterate 7 (refine a_1 ?_)); exact h0.h) : p := f ⟨h⟩
theorem a_8 {p q : Prop} (h : q) (f : Hid q → p := by intro h0; (iterate 8 (refine a_1 ?_)); exact h0.h) : p := f ⟨h⟩
theorem a_z {p q : Prop} (h : q) (f : Hid q → p := by intro h0; (repeat (refine a_1 ?_)); exact AR.nil h0.h) : p := f ⟨h⟩
theorem c_s {A : Prop} (c : A) {p q : Prop} (h : q) (f : A → Hid q → p := by intro c0 h0; (repeat (refine a_1 ?_)); first | exact AR.op0 (.call rfl rfl rfl c0) rfl rfl h0.h | exact AR.op0n (.call rfl rfl rfl c0) rfl h0.h) : p := f c ⟨h⟩
section
variable {P : Program} {ops : Array Oper} {nx n : Nat} {fr : Fr} {hp : Hp}
theorem r_z {ρ : Option Nat} {Q : Exit → AState → Prop} {id : Nat} {y : Code} (m : Nat) {q : Prop} (h : q) (f : Hid q → AR P ops nx n 0 ops.toList fr hp fun _ f h => thenA (AWp ρ P y Q) Q .normal ⟨f, h, nx + m, n⟩ := by intro h0; (repeat (refine a_1 ?_)); exact AR.nil h0.h) (hsz : ops.size = m := by exact rfl) : AWp ρ P (.seq (.region id ops false) y) Q ⟨fr, hp, nx, n⟩ := s_r m (f ⟨h⟩) hsz
theorem r_c {A : Prop} (m : Nat) (c : A) {ρ : Option Nat} {Q : Exit → AState → Prop} {id : Nat} {y : Code} {q : Prop} (h : q) (f : A → Hid q → AR P ops nx n 0 ops.toList fr hp fun _ f h => thenA (AWp ρ P y Q) Q .normal ⟨f, h, nx + m, n⟩ := by intro c0 h0; (repeat (refine a_1 ?_)); first | exact AR.op0 (.call rfl rfl rfl c0) rfl rfl h0.h | exact AR.op0n (.call rfl rfl rfl c0) rfl h0.h) (hsz : ops.size = m := by exact rfl) : AWp ρ P (.seq (.region id ops false) y) Q ⟨fr, hp, nx, n⟩ := s_r m (f c ⟨h⟩) hsz
end
section
variable {P : Program} {ops : Array Oper} {nx n j : Nat} {rest : List Oper} {fr : Fr} {hp : Hp} {K : Fps → Fr → Hp → Prop} {dst : Option Nat} {op : Op} {ty : Nat} {pos : String} {after : Array Edge} {g t d : Nat} {want b : Bool}
theorem g_u (ht : (ops[g]?).bind (·.dst) = some t) (hx : evF (look fr) (.tmp t) = some (.v undef)) (hnd : bn_ op = true) (hd : Nat.blt d n = true) (h : AR P ops nx n (j + 1) rest ((d, .v undef) :: fr) hp fun fps f h => K (([], []) :: fps) f h) : AR P ops nx n j (⟨some d, op, ty, pos, after, some (g, want)⟩ :: rest) fr hp K :=
 AR.opN ht hx nofun hnd hd h
end
theorem w_1 {p q : Prop} (h : q) (f : Hid q → p := by
 intro h0
 first
 | (apply k_lss; first | exact o_0 (.bin rfl rfl (vT ey_ (decide_eq_true (by omega)))) h0.h | exact o_0 (.bin rfl rfl (vF ey_ (decide_eq_false (by omega)))) h0.h)
 | (apply k_gtr; first | exact o_0 (.bin rfl rfl (vT mh_ (decide_eq_true (by omega)))) h0.h | exact o_0 (.bin rfl rfl (vF mh_ (decide_eq_false (by omega)))) h0.h)
 | (apply k_leq; first | exact o_0 (.bin rfl rfl (vT hp_ (decide_eq_true (by omega)))) h0.h | exact o_0 (.bin rfl rfl (vF hp_ (decide_eq_false (by omega)))) h0.h)
 | (apply k_geq; first | exact o_0 (.bin rfl rfl (vT tt_ (decide_eq_true (by omega)))) h0.h | exact o_0 (.bin rfl rfl (vF tt_ (decide_eq_false (by omega)))) h0.h)
 | (apply k_eql; first | exact o_0 (.bin rfl rfl (vT bo_ (decide_eq_true (by omega)))) h0.h | exact o_0 (.bin rfl rfl (vF bo_ (decide_eq_false (by omega)))) h0.h)) : p := f ⟨h⟩
theorem m_1 {p q : Prop} (h : q) (f : Hid q → p := by
 intro h0
 first
 | (apply k_bin; exact w_1 h0.h)
 | exact g_n rfl rfl rfl rfl rfl h0.h
 | exact g_nn rfl rfl rfl rfl h0.h
 | exact g_u rfl rfl rfl rfl h0.h
 | (refine g_y rfl rfl ?_; first | (apply k_bin; exact w_1 h0.h) | exact a_1 h0.h)
 | exact a_1 h0.h) : p := f ⟨h⟩
theorem d_6 {p q : Prop} (h : q) (f : Hid q → p := by intro h0; (iterate 6 (refine m_1 ?_)); exact h0.h) : p := f ⟨h⟩
section
variable {P : Program} {ops : Array Oper} {nx n : Nat} {fr : Fr} {hp : Hp}
theorem q_z {ρ : Option Nat} {Q : Exit → AState → Prop} {id : Nat} {y : Code} (m : Nat) {q : Prop} (h : q) (f : Hid q → AR P ops nx n 0 ops.toList fr hp fun _ f h => thenA (AWp ρ P y Q) Q .normal ⟨f, h, nx + m, n⟩ := by intro h0; (repeat (refine m_1 ?_)); exact AR.nil h0.h) (hsz : ops.size = m := by exact rfl) : AWp ρ P (.seq (.region id ops false) y) Q ⟨fr, hp, nx, n⟩ := s_r m (f ⟨h⟩) hsz
end
end Go.Abs
namespace Go.Proofs.YtdhedjbmdnnbkaaGreatDoor
open Go.Abs
theorem hmix : Tryz.prog.follows .mixedOrders = true := by kernel_rfl
instance tz_2 : TZ Tryz.prog 2 [Value.int IntKind.i64 0] := ⟨by kernel_rfl⟩
instance ts_2 : TS Tryz.prog 2 1 := ⟨by kernel_rfl⟩
instance tg_2 : TG Tryz.prog 2 false := ⟨by kernel_rfl⟩
instance tb_2 : TB Tryz.prog 2 8 := ⟨by kernel_rfl⟩
instance tu_2 : TU Tryz.prog 2 (.int .i64) := ⟨by kernel_rfl⟩
instance tz_3 : TZ Tryz.prog 3 [Value.int IntKind.i64 0] := ⟨by kernel_rfl⟩
instance ts_3 : TS Tryz.prog 3 1 := ⟨by kernel_rfl⟩
instance tg_3 : TG Tryz.prog 3 false := ⟨by kernel_rfl⟩
instance tb_3 : TB Tryz.prog 3 8 := ⟨by kernel_rfl⟩
instance tu_3 : TU Tryz.prog 3 (.int .i64) := ⟨by kernel_rfl⟩
instance tz_4 : TZ Tryz.prog 4 [Value.bool false] := ⟨by kernel_rfl⟩
instance ts_4 : TS Tryz.prog 4 1 := ⟨by kernel_rfl⟩
instance tg_4 : TG Tryz.prog 4 false := ⟨by kernel_rfl⟩
instance tb_4 : TB Tryz.prog 4 1 := ⟨by kernel_rfl⟩
instance tu_4 : TU Tryz.prog 4 .bool := ⟨by kernel_rfl⟩
instance tz_5 : TZ Tryz.prog 5 [Value.int IntKind.u8 0] := ⟨by kernel_rfl⟩
instance ts_5 : TS Tryz.prog 5 1 := ⟨by kernel_rfl⟩
instance tg_5 : TG Tryz.prog 5 false := ⟨by kernel_rfl⟩
instance tb_5 : TB Tryz.prog 5 1 := ⟨by kernel_rfl⟩
instance tu_5 : TU Tryz.prog 5 (.int .u8) := ⟨by kernel_rfl⟩
instance ts_9 : TS Tryz.prog 9 1 := ⟨by kernel_rfl⟩
instance tg_9 : TG Tryz.prog 9 false := ⟨by kernel_rfl⟩
instance tb_9 : TB Tryz.prog 9 16 := ⟨by kernel_rfl⟩
instance tu_9 : TU Tryz.prog 9 .string := ⟨by kernel_rfl⟩
instance tz_22 : TZ Tryz.prog 22 [Value.slice none 0 0] := ⟨by kernel_rfl⟩
instance ts_22 : TS Tryz.prog 22 1 := ⟨by kernel_rfl⟩
instance tg_22 : TG Tryz.prog 22 false := ⟨by kernel_rfl⟩
instance tb_22 : TB Tryz.prog 22 24 := ⟨by kernel_rfl⟩
instance te_22 : TE Tryz.prog 22 (82, 3) := ⟨by kernel_rfl⟩
instance tz_24 : TZ Tryz.prog 24 [Value.slice none 0 0] := ⟨by kernel_rfl⟩
instance ts_24 : TS Tryz.prog 24 1 := ⟨by kernel_rfl⟩
instance tg_24 : TG Tryz.prog 24 false := ⟨by kernel_rfl⟩
instance tb_24 : TB Tryz.prog 24 24 := ⟨by kernel_rfl⟩
instance te_24 : TE Tryz.prog 24 (37, 3) := ⟨by kernel_rfl⟩
instance tz_25 : TZ Tryz.prog 25 [Value.slice none 0 0] := ⟨by kernel_rfl⟩
instance ts_25 : TS Tryz.prog 25 1 := ⟨by kernel_rfl⟩
instance tg_25 : TG Tryz.prog 25 false := ⟨by kernel_rfl⟩
instance tb_25 : TB Tryz.prog 25 24 := ⟨by kernel_rfl⟩
instance te_25 : TE Tryz.prog 25 (37, 3) := ⟨by kernel_rfl⟩
instance tz_26 : TZ Tryz.prog 26 [Value.slice none 0 0] := ⟨by kernel_rfl⟩
instance ts_26 : TS Tryz.prog 26 1 := ⟨by kernel_rfl⟩
instance tg_26 : TG Tryz.prog 26 false := ⟨by kernel_rfl⟩
instance tb_26 : TB Tryz.prog 26 24 := ⟨by kernel_rfl⟩
instance te_26 : TE Tryz.prog 26 (75, 4) := ⟨by kernel_rfl⟩
instance tz_27 : TZ Tryz.prog 27 [Value.slice none 0 0] := ⟨by kernel_rfl⟩
instance ts_27 : TS Tryz.prog 27 1 := ⟨by kernel_rfl⟩
instance tg_27 : TG Tryz.prog 27 false := ⟨by kernel_rfl⟩
instance tb_27 : TB Tryz.prog 27 24 := ⟨by kernel_rfl⟩
instance te_27 : TE Tryz.prog 27 (75, 4) := ⟨by kernel_rfl⟩
instance tz_31 : TZ Tryz.prog 31 [Value.slice none 0 0] := ⟨by kernel_rfl⟩
instance ts_31 : TS Tryz.prog 31 1 := ⟨by kernel_rfl⟩
instance tg_31 : TG Tryz.prog 31 false := ⟨by kernel_rfl⟩
instance tb_31 : TB Tryz.prog 31 24 := ⟨by kernel_rfl⟩
instance te_31 : TE Tryz.prog 31 (206, 1) := ⟨by kernel_rfl⟩
instance tz_33 : TZ Tryz.prog 33 [Value.slice none 0 0] := ⟨by kernel_rfl⟩
instance ts_33 : TS Tryz.prog 33 1 := ⟨by kernel_rfl⟩
instance tg_33 : TG Tryz.prog 33 true := ⟨by kernel_rfl⟩
instance tb_33 : TB Tryz.prog 33 24 := ⟨by kernel_rfl⟩
instance tp_33 : TP Tryz.prog 33 [(0, 1)] := ⟨by kernel_rfl⟩
instance tf_33_0 : TF Tryz.prog 33 0 (0, 1) := ⟨by kernel_rfl⟩
instance tga_33_0 : TA Tryz.prog 33 0 false := ⟨by kernel_rfl⟩
instance tz_35 : TZ Tryz.prog 35 [Value.slice none 0 0, Value.bool false] := ⟨by kernel_rfl⟩
instance ts_35 : TS Tryz.prog 35 2 := ⟨by kernel_rfl⟩
instance tg_35 : TG Tryz.prog 35 true := ⟨by kernel_rfl⟩
instance tb_35 : TB Tryz.prog 35 32 := ⟨by kernel_rfl⟩
instance tp_35 : TP Tryz.prog 35 [(0, 1), (1, 1)] := ⟨by kernel_rfl⟩
instance tf_35_0 : TF Tryz.prog 35 0 (0, 1) := ⟨by kernel_rfl⟩
instance tga_35_0 : TA Tryz.prog 35 0 true := ⟨by kernel_rfl⟩
instance tf_35_1 : TF Tryz.prog 35 1 (1, 1) := ⟨by kernel_rfl⟩
instance tga_35_1 : TA Tryz.prog 35 1 false := ⟨by kernel_rfl⟩
instance tz_37 : TZ Tryz.prog 37 [Value.slice none 0 0, Value.bool false, Value.slice none 0 0] := ⟨by kernel_rfl⟩
instance ts_37 : TS Tryz.prog 37 3 := ⟨by kernel_rfl⟩
instance tg_37 : TG Tryz.prog 37 true := ⟨by kernel_rfl⟩
instance tb_37 : TB Tryz.prog 37 56 := ⟨by kernel_rfl⟩
instance tp_37 : TP Tryz.prog 37 [(0, 2), (2, 1)] := ⟨by kernel_rfl⟩
instance tf_37_0 : TF Tryz.prog 37 0 (0, 2) := ⟨by kernel_rfl⟩
instance tga_37_0 : TA Tryz.prog 37 0 true := ⟨by kernel_rfl⟩
instance tf_37_1 : TF Tryz.prog 37 1 (2, 1) := ⟨by kernel_rfl⟩
instance tga_37_1 : TA Tryz.prog 37 1 true := ⟨by kernel_rfl⟩
instance tz_56 : TZ Tryz.prog 56 [Value.slice none 0 0, Value.int IntKind.i64 0] := ⟨by kernel_rfl⟩
instance ts_56 : TS Tryz.prog 56 2 := ⟨by kernel_rfl⟩
instance tg_56 : TG Tryz.prog 56 true := ⟨by kernel_rfl⟩
instance tb_56 : TB Tryz.prog 56 32 := ⟨by kernel_rfl⟩
instance tp_56 : TP Tryz.prog 56 [(0, 1), (1, 1)] := ⟨by kernel_rfl⟩
instance tf_56_0 : TF Tryz.prog 56 0 (0, 1) := ⟨by kernel_rfl⟩
instance tga_56_0 : TA Tryz.prog 56 0 false := ⟨by kernel_rfl⟩
instance tf_56_1 : TF Tryz.prog 56 1 (1, 1) := ⟨by kernel_rfl⟩
instance tga_56_1 : TA Tryz.prog 56 1 false := ⟨by kernel_rfl⟩
instance tz_59 : TZ Tryz.prog 59 [Value.slice none 0 0, Value.int IntKind.i64 0] := ⟨by kernel_rfl⟩
instance ts_59 : TS Tryz.prog 59 2 := ⟨by kernel_rfl⟩
instance tg_59 : TG Tryz.prog 59 true := ⟨by kernel_rfl⟩
instance tb_59 : TB Tryz.prog 59 32 := ⟨by kernel_rfl⟩
instance tp_59 : TP Tryz.prog 59 [(0, 1), (1, 1)] := ⟨by kernel_rfl⟩
instance tf_59_0 : TF Tryz.prog 59 0 (0, 1) := ⟨by kernel_rfl⟩
instance tga_59_0 : TA Tryz.prog 59 0 false := ⟨by kernel_rfl⟩
instance tf_59_1 : TF Tryz.prog 59 1 (1, 1) := ⟨by kernel_rfl⟩
instance tga_59_1 : TA Tryz.prog 59 1 false := ⟨by kernel_rfl⟩
instance tz_61 : TZ Tryz.prog 61 [Value.slice none 0 0, Value.int IntKind.i64 0] := ⟨by kernel_rfl⟩
instance ts_61 : TS Tryz.prog 61 2 := ⟨by kernel_rfl⟩
instance tg_61 : TG Tryz.prog 61 true := ⟨by kernel_rfl⟩
instance tb_61 : TB Tryz.prog 61 32 := ⟨by kernel_rfl⟩
instance tp_61 : TP Tryz.prog 61 [(0, 1), (1, 1)] := ⟨by kernel_rfl⟩
instance tf_61_0 : TF Tryz.prog 61 0 (0, 1) := ⟨by kernel_rfl⟩
instance tga_61_0 : TA Tryz.prog 61 0 false := ⟨by kernel_rfl⟩
instance tf_61_1 : TF Tryz.prog 61 1 (1, 1) := ⟨by kernel_rfl⟩
instance tga_61_1 : TA Tryz.prog 61 1 false := ⟨by kernel_rfl⟩
instance tz_65 : TZ Tryz.prog 65 [Value.slice none 0 0, Value.bool false, Value.slice none 0 0, Value.slice none 0 0, Value.bool false, Value.slice none 0 0] := ⟨by kernel_rfl⟩
instance ts_65 : TS Tryz.prog 65 6 := ⟨by kernel_rfl⟩
instance tg_65 : TG Tryz.prog 65 true := ⟨by kernel_rfl⟩
instance tb_65 : TB Tryz.prog 65 112 := ⟨by kernel_rfl⟩
instance tp_65 : TP Tryz.prog 65 [(0, 3), (3, 3)] := ⟨by kernel_rfl⟩
instance tf_65_0 : TF Tryz.prog 65 0 (0, 3) := ⟨by kernel_rfl⟩
instance tga_65_0 : TA Tryz.prog 65 0 true := ⟨by kernel_rfl⟩
instance tf_65_1 : TF Tryz.prog 65 1 (3, 3) := ⟨by kernel_rfl⟩
instance tga_65_1 : TA Tryz.prog 65 1 true := ⟨by kernel_rfl⟩
instance tz_71 : TZ Tryz.prog 71 [Value.slice none 0 0] := ⟨by kernel_rfl⟩
instance ts_71 : TS Tryz.prog 71 1 := ⟨by kernel_rfl⟩
instance tg_71 : TG Tryz.prog 71 false := ⟨by kernel_rfl⟩
instance tb_71 : TB Tryz.prog 71 24 := ⟨by kernel_rfl⟩
instance te_71 : TE Tryz.prog 71 (3, 1) := ⟨by kernel_rfl⟩
instance tz_73 : TZ Tryz.prog 73 [Value.int IntKind.i64 0, Value.slice none 0 0] := ⟨by kernel_rfl⟩
instance ts_73 : TS Tryz.prog 73 2 := ⟨by kernel_rfl⟩
instance tg_73 : TG Tryz.prog 73 true := ⟨by kernel_rfl⟩
instance tb_73 : TB Tryz.prog 73 32 := ⟨by kernel_rfl⟩
instance tp_73 : TP Tryz.prog 73 [(0, 1), (1, 1)] := ⟨by kernel_rfl⟩
instance tf_73_0 : TF Tryz.prog 73 0 (0, 1) := ⟨by kernel_rfl⟩
instance tga_73_0 : TA Tryz.prog 73 0 false := ⟨by kernel_rfl⟩
instance tf_73_1 : TF Tryz.prog 73 1 (1, 1) := ⟨by kernel_rfl⟩
instance tga_73_1 : TA Tryz.prog 73 1 false := ⟨by kernel_rfl⟩
instance tz_75 : TZ Tryz.prog 75 [Value.int IntKind.i64 0, Value.slice none 0 0, Value.int IntKind.i64 0, Value.slice none 0 0] := ⟨by kernel_rfl⟩
instance ts_75 : TS Tryz.prog 75 4 := ⟨by kernel_rfl⟩
instance tg_75 : TG Tryz.prog 75 true := ⟨by kernel_rfl⟩
instance tb_75 : TB Tryz.prog 75 64 := ⟨by kernel_rfl⟩
instance tp_75 : TP Tryz.prog 75 [(0, 2), (2, 2)] := ⟨by kernel_rfl⟩
instance tf_75_0 : TF Tryz.prog 75 0 (0, 2) := ⟨by kernel_rfl⟩
instance tga_75_0 : TA Tryz.prog 75 0 true := ⟨by kernel_rfl⟩
instance tf_75_1 : TF Tryz.prog 75 1 (2, 2) := ⟨by kernel_rfl⟩
instance tga_75_1 : TA Tryz.prog 75 1 true := ⟨by kernel_rfl⟩
instance tz_77 : TZ Tryz.prog 77 [Value.int IntKind.i64 0, Value.slice none 0 0, Value.int IntKind.i64 0, Value.slice none 0 0, Value.int IntKind.i64 0, Value.slice none 0 0, Value.int IntKind.i64 0, Value.slice none 0 0] := ⟨by kernel_rfl⟩
instance ts_77 : TS Tryz.prog 77 8 := ⟨by kernel_rfl⟩
instance tg_77 : TG Tryz.prog 77 true := ⟨by kernel_rfl⟩
instance tb_77 : TB Tryz.prog 77 128 := ⟨by kernel_rfl⟩
instance tp_77 : TP Tryz.prog 77 [(0, 4), (4, 4)] := ⟨by kernel_rfl⟩
instance tf_77_0 : TF Tryz.prog 77 0 (0, 4) := ⟨by kernel_rfl⟩
instance tga_77_0 : TA Tryz.prog 77 0 true := ⟨by kernel_rfl⟩
instance tf_77_1 : TF Tryz.prog 77 1 (4, 4) := ⟨by kernel_rfl⟩
instance tga_77_1 : TA Tryz.prog 77 1 true := ⟨by kernel_rfl⟩
instance tz_82 : TZ Tryz.prog 82 [Value.int IntKind.i64 0, Value.int IntKind.i64 0, Value.int IntKind.u8 0] := ⟨by kernel_rfl⟩
instance ts_82 : TS Tryz.prog 82 3 := ⟨by kernel_rfl⟩
instance tg_82 : TG Tryz.prog 82 true := ⟨by kernel_rfl⟩
instance tb_82 : TB Tryz.prog 82 24 := ⟨by kernel_rfl⟩
instance tp_82 : TP Tryz.prog 82 [(0, 1), (1, 1), (2, 1)] := ⟨by kernel_rfl⟩
instance tf_82_0 : TF Tryz.prog 82 0 (0, 1) := ⟨by kernel_rfl⟩
instance tga_82_0 : TA Tryz.prog 82 0 false := ⟨by kernel_rfl⟩
instance tf_82_1 : TF Tryz.prog 82 1 (1, 1) := ⟨by kernel_rfl⟩
instance tga_82_1 : TA Tryz.prog 82 1 false := ⟨by kernel_rfl⟩
instance tf_82_2 : TF Tryz.prog 82 2 (2, 1) := ⟨by kernel_rfl⟩
instance tga_82_2 : TA Tryz.prog 82 2 false := ⟨by kernel_rfl⟩
instance tz_94 : TZ Tryz.prog 94 [Value.int IntKind.i64 0, Value.int IntKind.i64 0, Value.int IntKind.u8 0, Value.int IntKind.i64 0, Value.int IntKind.i64 0, Value.int IntKind.u8 0] := ⟨by kernel_rfl⟩
instance ts_94 : TS Tryz.prog 94 6 := ⟨by kernel_rfl⟩
instance tg_94 : TG Tryz.prog 94 true := ⟨by kernel_rfl⟩
instance tb_94 : TB Tryz.prog 94 48 := ⟨by kernel_rfl⟩
instance tp_94 : TP Tryz.prog 94 [(0, 3), (3, 3)] := ⟨by kernel_rfl⟩
instance tf_94_0 : TF Tryz.prog 94 0 (0, 3) := ⟨by kernel_rfl⟩
instance tga_94_0 : TA Tryz.prog 94 0 true := ⟨by kernel_rfl⟩
instance tf_94_1 : TF Tryz.prog 94 1 (3, 3) := ⟨by kernel_rfl⟩
instance tga_94_1 : TA Tryz.prog 94 1 true := ⟨by kernel_rfl⟩
instance tz_112 : TZ Tryz.prog 112 [Value.slice none 0 0] := ⟨by kernel_rfl⟩
instance ts_112 : TS Tryz.prog 112 1 := ⟨by kernel_rfl⟩
instance tg_112 : TG Tryz.prog 112 false := ⟨by kernel_rfl⟩
instance tb_112 : TB Tryz.prog 112 24 := ⟨by kernel_rfl⟩
instance te_112 : TE Tryz.prog 112 (59, 2) := ⟨by kernel_rfl⟩
instance tz_147 : TZ Tryz.prog 147 [Value.nilFunc] := ⟨by kernel_rfl⟩
instance ts_147 : TS Tryz.prog 147 1 := ⟨by kernel_rfl⟩
instance tg_147 : TG Tryz.prog 147 false := ⟨by kernel_rfl⟩
instance tb_147 : TB Tryz.prog 147 8 := ⟨by kernel_rfl⟩
instance tz_149 : TZ Tryz.prog 149 [Value.nilFunc] := ⟨by kernel_rfl⟩
instance ts_149 : TS Tryz.prog 149 1 := ⟨by kernel_rfl⟩
instance tg_149 : TG Tryz.prog 149 false := ⟨by kernel_rfl⟩
instance tb_149 : TB Tryz.prog 149 8 := ⟨by kernel_rfl⟩
instance tz_150 : TZ Tryz.prog 150 [Value.pointer none] := ⟨by kernel_rfl⟩
instance ts_150 : TS Tryz.prog 150 1 := ⟨by kernel_rfl⟩
instance tg_150 : TG Tryz.prog 150 false := ⟨by kernel_rfl⟩
instance tb_150 : TB Tryz.prog 150 8 := ⟨by kernel_rfl⟩
instance tz_164 : TZ Tryz.prog 164 [Value.pointer none] := ⟨by kernel_rfl⟩
instance ts_164 : TS Tryz.prog 164 1 := ⟨by kernel_rfl⟩
instance tg_164 : TG Tryz.prog 164 false := ⟨by kernel_rfl⟩
instance tb_164 : TB Tryz.prog 164 8 := ⟨by kernel_rfl⟩
instance tz_167 : TZ Tryz.prog 167 [Value.pointer none, Value.int IntKind.i64 0] := ⟨by kernel_rfl⟩
instance ts_167 : TS Tryz.prog 167 2 := ⟨by kernel_rfl⟩
instance tg_167 : TG Tryz.prog 167 true := ⟨by kernel_rfl⟩
instance tb_167 : TB Tryz.prog 167 16 := ⟨by kernel_rfl⟩
instance tp_167 : TP Tryz.prog 167 [(0, 1), (1, 1)] := ⟨by kernel_rfl⟩
instance tf_167_0 : TF Tryz.prog 167 0 (0, 1) := ⟨by kernel_rfl⟩
instance tga_167_0 : TA Tryz.prog 167 0 false := ⟨by kernel_rfl⟩
instance tf_167_1 : TF Tryz.prog 167 1 (1, 1) := ⟨by kernel_rfl⟩
instance tga_167_1 : TA Tryz.prog 167 1 false := ⟨by kernel_rfl⟩
instance tz_171 : TZ Tryz.prog 171 [Value.slice none 0 0] := ⟨by kernel_rfl⟩
instance ts_171 : TS Tryz.prog 171 1 := ⟨by kernel_rfl⟩
instance tg_171 : TG Tryz.prog 171 false := ⟨by kernel_rfl⟩
instance tb_171 : TB Tryz.prog 171 24 := ⟨by kernel_rfl⟩
instance te_171 : TE Tryz.prog 171 (27, 1) := ⟨by kernel_rfl⟩
instance tz_177 : TZ Tryz.prog 177 [Value.nilFunc] := ⟨by kernel_rfl⟩
instance ts_177 : TS Tryz.prog 177 1 := ⟨by kernel_rfl⟩
instance tg_177 : TG Tryz.prog 177 false := ⟨by kernel_rfl⟩
instance tb_177 : TB Tryz.prog 177 8 := ⟨by kernel_rfl⟩
instance tz_179 : TZ Tryz.prog 179 [Value.pointer none] := ⟨by kernel_rfl⟩
instance ts_179 : TS Tryz.prog 179 1 := ⟨by kernel_rfl⟩
instance tg_179 : TG Tryz.prog 179 false := ⟨by kernel_rfl⟩
instance tb_179 : TB Tryz.prog 179 8 := ⟨by kernel_rfl⟩
instance tz_180 : TZ Tryz.prog 180 [Value.slice none 0 0] := ⟨by kernel_rfl⟩
instance ts_180 : TS Tryz.prog 180 1 := ⟨by kernel_rfl⟩
instance tg_180 : TG Tryz.prog 180 false := ⟨by kernel_rfl⟩
instance tb_180 : TB Tryz.prog 180 24 := ⟨by kernel_rfl⟩
instance te_180 : TE Tryz.prog 180 (5, 1) := ⟨by kernel_rfl⟩
instance tz_182 : TZ Tryz.prog 182 [Value.pointer none, Value.slice none 0 0] := ⟨by kernel_rfl⟩
instance ts_182 : TS Tryz.prog 182 2 := ⟨by kernel_rfl⟩
instance tg_182 : TG Tryz.prog 182 true := ⟨by kernel_rfl⟩
instance tb_182 : TB Tryz.prog 182 32 := ⟨by kernel_rfl⟩
instance tp_182 : TP Tryz.prog 182 [(0, 1), (1, 1)] := ⟨by kernel_rfl⟩
instance tf_182_0 : TF Tryz.prog 182 0 (0, 1) := ⟨by kernel_rfl⟩
instance tga_182_0 : TA Tryz.prog 182 0 false := ⟨by kernel_rfl⟩
instance tf_182_1 : TF Tryz.prog 182 1 (1, 1) := ⟨by kernel_rfl⟩
instance tga_182_1 : TA Tryz.prog 182 1 false := ⟨by kernel_rfl⟩
instance tz_189 : TZ Tryz.prog 189 [Value.slice none 0 0] := ⟨by kernel_rfl⟩
instance ts_189 : TS Tryz.prog 189 1 := ⟨by kernel_rfl⟩
instance tg_189 : TG Tryz.prog 189 false := ⟨by kernel_rfl⟩
instance tb_189 : TB Tryz.prog 189 24 := ⟨by kernel_rfl⟩
instance te_189 : TE Tryz.prog 189 (25, 1) := ⟨by kernel_rfl⟩
instance tz_191 : TZ Tryz.prog 191 [Value.slice none 0 0, Value.slice none 0 0, Value.int IntKind.i64 0] := ⟨by kernel_rfl⟩
instance ts_191 : TS Tryz.prog 191 3 := ⟨by kernel_rfl⟩
instance tg_191 : TG Tryz.prog 191 true := ⟨by kernel_rfl⟩
instance tb_191 : TB Tryz.prog 191 56 := ⟨by kernel_rfl⟩
instance tp_191 : TP Tryz.prog 191 [(0, 1), (1, 1), (2, 1)] := ⟨by kernel_rfl⟩
instance tf_191_0 : TF Tryz.prog 191 0 (0, 1) := ⟨by kernel_rfl⟩
instance tga_191_0 : TA Tryz.prog 191 0 false := ⟨by kernel_rfl⟩
instance tf_191_1 : TF Tryz.prog 191 1 (1, 1) := ⟨by kernel_rfl⟩
instance tga_191_1 : TA Tryz.prog 191 1 false := ⟨by kernel_rfl⟩
instance tf_191_2 : TF Tryz.prog 191 2 (2, 1) := ⟨by kernel_rfl⟩
instance tga_191_2 : TA Tryz.prog 191 2 false := ⟨by kernel_rfl⟩
instance tz_192 : TZ Tryz.prog 192 [Value.nilFunc] := ⟨by kernel_rfl⟩
instance ts_192 : TS Tryz.prog 192 1 := ⟨by kernel_rfl⟩
instance tg_192 : TG Tryz.prog 192 false := ⟨by kernel_rfl⟩
instance tb_192 : TB Tryz.prog 192 8 := ⟨by kernel_rfl⟩
instance tz_196 : TZ Tryz.prog 196 [Value.nilFunc] := ⟨by kernel_rfl⟩
instance ts_196 : TS Tryz.prog 196 1 := ⟨by kernel_rfl⟩
instance tg_196 : TG Tryz.prog 196 false := ⟨by kernel_rfl⟩
instance tb_196 : TB Tryz.prog 196 8 := ⟨by kernel_rfl⟩
instance tz_200 : TZ Tryz.prog 200 [Value.slice none 0 0] := ⟨by kernel_rfl⟩
instance ts_200 : TS Tryz.prog 200 1 := ⟨by kernel_rfl⟩
instance tg_200 : TG Tryz.prog 200 false := ⟨by kernel_rfl⟩
instance tb_200 : TB Tryz.prog 200 24 := ⟨by kernel_rfl⟩
instance te_200 : TE Tryz.prog 200 (2, 1) := ⟨by kernel_rfl⟩
instance tz_206 : TZ Tryz.prog 206 [Value.int IntKind.u32 0] := ⟨by kernel_rfl⟩
instance ts_206 : TS Tryz.prog 206 1 := ⟨by kernel_rfl⟩
instance tg_206 : TG Tryz.prog 206 false := ⟨by kernel_rfl⟩
instance tb_206 : TB Tryz.prog 206 4 := ⟨by kernel_rfl⟩
instance tu_206 : TU Tryz.prog 206 (.int .u32) := ⟨by kernel_rfl⟩
instance tz_207 : TZ Tryz.prog 207 [Value.int IntKind.u64 0] := ⟨by kernel_rfl⟩
instance ts_207 : TS Tryz.prog 207 1 := ⟨by kernel_rfl⟩
instance tg_207 : TG Tryz.prog 207 false := ⟨by kernel_rfl⟩
instance tb_207 : TB Tryz.prog 207 8 := ⟨by kernel_rfl⟩
instance tu_207 : TU Tryz.prog 207 (.int .u64) := ⟨by kernel_rfl⟩
instance tz_233 : TZ Tryz.prog 233 [Value.pointer none] := ⟨by kernel_rfl⟩
instance ts_233 : TS Tryz.prog 233 1 := ⟨by kernel_rfl⟩
instance tg_233 : TG Tryz.prog 233 false := ⟨by kernel_rfl⟩
instance tb_233 : TB Tryz.prog 233 8 := ⟨by kernel_rfl⟩
instance tz_235 : TZ Tryz.prog 235 [Value.nilFunc] := ⟨by kernel_rfl⟩
instance ts_235 : TS Tryz.prog 235 1 := ⟨by kernel_rfl⟩
instance tg_235 : TG Tryz.prog 235 false := ⟨by kernel_rfl⟩
instance tb_235 : TB Tryz.prog 235 8 := ⟨by kernel_rfl⟩
instance tz_241 : TZ Tryz.prog 241 [Value.nilFunc] := ⟨by kernel_rfl⟩
instance ts_241 : TS Tryz.prog 241 1 := ⟨by kernel_rfl⟩
instance tg_241 : TG Tryz.prog 241 false := ⟨by kernel_rfl⟩
instance tb_241 : TB Tryz.prog 241 8 := ⟨by kernel_rfl⟩
instance tz_243 : TZ Tryz.prog 243 [Value.slice none 0 0, Value.nilFunc] := ⟨by kernel_rfl⟩
instance ts_243 : TS Tryz.prog 243 2 := ⟨by kernel_rfl⟩
instance tg_243 : TG Tryz.prog 243 true := ⟨by kernel_rfl⟩
instance tb_243 : TB Tryz.prog 243 32 := ⟨by kernel_rfl⟩
instance tp_243 : TP Tryz.prog 243 [(0, 1), (1, 1)] := ⟨by kernel_rfl⟩
instance tf_243_0 : TF Tryz.prog 243 0 (0, 1) := ⟨by kernel_rfl⟩
instance tga_243_0 : TA Tryz.prog 243 0 false := ⟨by kernel_rfl⟩
instance tf_243_1 : TF Tryz.prog 243 1 (1, 1) := ⟨by kernel_rfl⟩
instance tga_243_1 : TA Tryz.prog 243 1 false := ⟨by kernel_rfl⟩
instance tz_244 : TZ Tryz.prog 244 [Value.map none] := ⟨by kernel_rfl⟩
instance ts_244 : TS Tryz.prog 244 1 := ⟨by kernel_rfl⟩
instance tg_244 : TG Tryz.prog 244 false := ⟨by kernel_rfl⟩
instance tb_244 : TB Tryz.prog 244 8 := ⟨by kernel_rfl⟩
instance tm_244 : TU Tryz.prog 244 (.map 5 243) := ⟨by kernel_rfl⟩
instance tz_251 : TZ Tryz.prog 251 [Value.nilFunc] := ⟨by kernel_rfl⟩
instance ts_251 : TS Tryz.prog 251 1 := ⟨by kernel_rfl⟩
instance tg_251 : TG Tryz.prog 251 false := ⟨by kernel_rfl⟩
instance tb_251 : TB Tryz.prog 251 8 := ⟨by kernel_rfl⟩
instance tz_262 : TZ Tryz.prog 262 [Value.nilFunc] := ⟨by kernel_rfl⟩
instance ts_262 : TS Tryz.prog 262 1 := ⟨by kernel_rfl⟩
instance tg_262 : TG Tryz.prog 262 false := ⟨by kernel_rfl⟩
instance tb_262 : TB Tryz.prog 262 8 := ⟨by kernel_rfl⟩
instance tz_270 : TZ Tryz.prog 270 [Value.pointer none] := ⟨by kernel_rfl⟩
instance ts_270 : TS Tryz.prog 270 1 := ⟨by kernel_rfl⟩
instance tg_270 : TG Tryz.prog 270 false := ⟨by kernel_rfl⟩
instance tb_270 : TB Tryz.prog 270 8 := ⟨by kernel_rfl⟩
instance tz_276 : TZ Tryz.prog 276 [Value.int IntKind.u64 0] := ⟨by kernel_rfl⟩
instance ts_276 : TS Tryz.prog 276 1 := ⟨by kernel_rfl⟩
instance tg_276 : TG Tryz.prog 276 false := ⟨by kernel_rfl⟩
instance tb_276 : TB Tryz.prog 276 8 := ⟨by kernel_rfl⟩
instance tu_276 : TU Tryz.prog 276 (.int .u64) := ⟨by kernel_rfl⟩
instance ts_285 : TS Tryz.prog 285 24 := ⟨by kernel_rfl⟩
instance tg_285 : TG Tryz.prog 285 true := ⟨by kernel_rfl⟩
instance tb_285 : TB Tryz.prog 285 24 := ⟨by kernel_rfl⟩
instance ts_298 : TS Tryz.prog 298 20 := ⟨by kernel_rfl⟩
instance tg_298 : TG Tryz.prog 298 true := ⟨by kernel_rfl⟩
instance tb_298 : TB Tryz.prog 298 160 := ⟨by kernel_rfl⟩
instance ts_299 : TS Tryz.prog 299 65 := ⟨by kernel_rfl⟩
instance tg_299 : TG Tryz.prog 299 true := ⟨by kernel_rfl⟩
instance tb_299 : TB Tryz.prog 299 65 := ⟨by kernel_rfl⟩
instance ts_303 : TS Tryz.prog 303 32 := ⟨by kernel_rfl⟩
instance tg_303 : TG Tryz.prog 303 true := ⟨by kernel_rfl⟩
instance tb_303 : TB Tryz.prog 303 32 := ⟨by kernel_rfl⟩
instance ts_304 : TS Tryz.prog 304 64 := ⟨by kernel_rfl⟩
instance tg_304 : TG Tryz.prog 304 true := ⟨by kernel_rfl⟩
instance tb_304 : TB Tryz.prog 304 64 := ⟨by kernel_rfl⟩
end Go.Proofs.YtdhedjbmdnnbkaaGreatDoor
namespace Go.Abs
def digs (b n : Nat) : List Nat :=
 if _h : b ≤ 1 ∨ n = 0 then [] else n % b :: digs b (n / b)
termination_by n
decreasing_by exact Nat.div_lt_self (by omega) (by omega)
def ofD (b : Nat) : List Nat → Nat
 | [] => 0
 | d :: l => d + b * ofD b l
theorem bq_ (b : Nat) : digs b 0 = [] := by rw [digs]; simp
theorem dp_ {b n : Nat} (hb : 1 < b) (hn : 0 < n) : digs b n = n % b :: digs b (n / b) := by rw [digs, dif_neg (by omega)]
theorem bd_ {b : Nat} (hb : 1 < b) (n : Nat) : ofD b (digs b n) = n := by
 induction n using Nat.strongRecOn with
 | _ n ih =>
  rcases Nat.eq_zero_or_pos n with rfl | hn
  ·rw [bq_]; rfl
  ·rw [dp_ hb hn, ofD, ih _ (Nat.div_lt_self hn hb)]
   exact Nat.mod_add_div n b
theorem cm_ {b : Nat} (hb : 1 < b) (n : Nat) : ∀ d ∈ digs b n, d < b := by
 induction n using Nat.strongRecOn with
 | _ n ih =>
  rcases Nat.eq_zero_or_pos n with rfl | hn
  ·rw [bq_]; simp
  ·rw [dp_ hb hn]
   intro d hd
   rcases List.mem_cons.1 hd with rfl | hd
   ·exact Nat.mod_lt _ (by omega)
   ·exact ih _ (Nat.div_lt_self hn hb) d hd
def IsD (b : Nat) (l : List Nat) : Prop := (∀ d ∈ l, d < b) ∧ l.getLast? ≠ some 0
theorem qh_ {b : Nat} (hb : 1 < b) (n : Nat) : (digs b n).getLast? ≠ some 0 := by
 induction n using Nat.strongRecOn with
 | _ n ih =>
  rcases Nat.eq_zero_or_pos n with rfl | hn
  ·rw [bq_]; simp
  ·rw [dp_ hb hn]
   have h1 := ih _ (Nat.div_lt_self hn hb)
   rw [List.getLast?_cons]
   intro h
   by_cases h0 : digs b (n / b) = []
   ·rw [h0] at h
    simp only [List.getLast?_nil, Option.getD_none, Option.some.injEq] at h
    have hz : n / b = 0 := by
     have := bd_ hb (n / b)
     rw [h0] at this; exact this.symm
    have := Nat.mod_add_div n b
    rw [h, hz] at this
    omega
   ·cases hl : (digs b (n / b)).getLast? with
    | none => exact h0 (List.getLast?_eq_none_iff.1 hl)
    | some x =>
     rw [hl] at h
     simp only [Option.getD_some, Option.some.injEq] at h
     subst h; exact h1 hl
theorem ofD_pos {b : Nat} {l : List Nat} (h : IsD b l) (hl : l ≠ []) : 0 < ofD b l := by
 induction l with
 | nil => exact absurd rfl hl
 | cons d l ih =>
  rw [ofD]
  by_cases h0 : l = []
  ·subst h0
   have h2 := h.2
   simp at h2
   omega
  ·have hb : 0 < b := by have := h.1 d (List.mem_cons_self ..); omega
   have : 0 < ofD b l := ih ⟨fun x hx => h.1 x (List.mem_cons_of_mem _ hx), by
    have h2 := h.2; rw [List.getLast?_cons] at h2
    intro e; rw [e] at h2; exact h2 rfl⟩ h0
   have := Nat.mul_pos hb this
   omega
theorem tk_ {b : Nat} (hb : 1 < b) : ∀ {l : List Nat}, IsD b l → digs b (ofD b l) = l
 | [], _ => bq_ b
 | d :: l, h => by
  have hp := ofD_pos h (by simp)
  have hd := h.1 d (List.mem_cons_self ..)
  have hl : IsD b l := ⟨fun x hx => h.1 x (List.mem_cons_of_mem _ hx), by
   have h2 := h.2; rw [List.getLast?_cons] at h2
   intro e; rw [e] at h2; exact h2 rfl⟩
  rw [dp_ hb hp]
  have e1 : ofD b (d :: l) % b = d := by rw [ofD, Nat.add_mul_mod_self_left]; exact Nat.mod_eq_of_lt hd
  have e2 : ofD b (d :: l) / b = ofD b l := by rw [ofD, Nat.add_mul_div_left _ _ (by omega), Nat.div_eq_of_lt hd]; omega
  rw [e1, e2, tk_ hb hl]
theorem fb_ (b : Nat) (l m : List Nat) : ofD b (l ++ m) = ofD b l + b ^ l.length * ofD b m := by
 induction l with
 | nil => simp [ofD]
 | cons d l ih => simp only [List.cons_append, ofD, ih, List.length_cons, Nat.pow_succ, Nat.mul_add]; rw [← Nat.add_assoc, Nat.mul_comm (b ^ l.length) b, Nat.mul_assoc]
theorem fl_ {b : Nat} {l : List Nat} (h : ∀ d ∈ l, d < b) : ofD b l < b ^ l.length := by
 induction l with
 | nil => simp [ofD]
 | cons d l ih =>
  have h1 := ih fun x hx => h x (List.mem_cons_of_mem _ hx)
  have h2 := h d (List.mem_cons_self ..)
  rw [ofD, List.length_cons, Nat.pow_succ, Nat.mul_comm (b ^ l.length) b]
  have : b * (ofD b l + 1) ≤ b * b ^ l.length := Nat.mul_le_mul_left _ h1
  rw [Nat.mul_add] at this
  omega
theorem ov_ (b k : Nat) : ofD b (List.replicate k 0) = 0 := by
 induction k with
 | zero => rfl
 | succ k ih => rw [List.replicate_succ, ofD, ih]; simp
theorem cp_ (b k : Nat) (l : List Nat) (h : k ≤ l.length) : ofD b l = ofD b (l.take k) + b ^ k * ofD b (l.drop k) := by
 conv => lhs; rw [← List.take_append_drop k l]
 rw [fb_, List.length_take, Nat.min_eq_left h]
def trimD : List Nat → List Nat
 | [] => []
 | d :: l => match trimD l with
  | [] => if d = 0 then [] else [d]
  | e :: m => d :: e :: m
theorem ul_ (b : Nat) : ∀ l, ofD b (trimD l) = ofD b l
 | [] => rfl
 | d :: l => by
  have ih := ul_ b l
  unfold trimD
  split
  ·rename_i h
   rw [h] at ih
   split
   ·rename_i h0; subst h0; show 0 = 0 + b * ofD b l; rw [← ih]; simp [ofD]
   ·show d + b * ofD b [] = d + b * ofD b l; rw [← ih]
  ·rename_i e m h
   rw [h] at ih
   show d + b * ofD b (e :: m) = d + b * ofD b l
   rw [ih]
theorem qw_ : ∀ l, (trimD l).getLast? ≠ some 0
 | [] => by simp [trimD]
 | d :: l => by
  have ih := qw_ l
  unfold trimD
  split
  ·split
   ·simp
   ·simpa using ‹¬d = 0›
  ·rename_i e m h
   rw [h] at ih
   rw [List.getLast?_cons]
   cases hl : (e :: m).getLast? with
   | none => simp at hl
   | some x => rw [hl] at ih; simpa using ih
theorem uk_ : ∀ l, ∀ d ∈ trimD l, d ∈ l
 | [], d, h => by simp [trimD] at h
 | a :: l, d, h => by
  have ih := uk_ l
  unfold trimD at h
  split at h
  ·split at h
   ·simp at h
   ·simp at h; subst h; exact List.mem_cons_self ..
  ·rename_i e m he
   rw [he] at ih
   rcases List.mem_cons.1 h with rfl | h
   ·exact List.mem_cons_self ..
   ·exact List.mem_cons_of_mem _ (ih d h)
theorem hd_ {b : Nat} (hb : 1 < b) {l : List Nat} (h : ∀ d ∈ l, d < b) : trimD l = digs b (ofD b l) := by
 rw [← ul_ b l]
 exact (tk_ hb ⟨fun d hd => h d (uk_ l d hd), qw_ l⟩).symm
theorem ja_ : ∀ (l : List Nat) (k : Nat), k ≤ l.length → (∀ i, k ≤ i → i < l.length → l[i]? = some 0) → (k = 0 ∨ l[k - 1]? ≠ some 0) → trimD l = l.take k
 | [], k, hk, _, _ => by simp [trimD]
 | d :: l, k, hk, hz, hl => by
  cases k with
  | zero =>
   have h1 := ja_ l 0 (Nat.zero_le _) (fun i _ hi => by have := hz (i + 1) (by omega) (by simp; omega); simpa using this) (.inl rfl)
   have h2 := hz 0 (Nat.le_refl _) (by simp)
   simp only [List.getElem?_cons_zero, Option.some.injEq] at h2
   simp [trimD, h1, h2]
  | succ k =>
   have hz' : ∀ i, k ≤ i → i < l.length → l[i]? = some 0 := fun i h1 hi => by have := hz (i + 1) (by omega) (by simp; omega); simpa using this
   simp only [Nat.add_sub_cancel] at hl
   cases k with
   | zero =>
    have h1 := ja_ l 0 (Nat.zero_le _) hz' (.inl rfl)
    simp at hl
    simp [trimD, h1, hl]
   | succ k =>
    have hlen : k + 1 ≤ l.length := by simpa using hk
    have h1 := ja_ l (k + 1) hlen hz' (.inr (hl.elim (fun h => absurd h (by omega)) fun h => by simpa using h))
    cases l with
    | nil => simp at hlen
    | cons e m =>
     simp only [List.take_succ_cons] at h1 ⊢
     rw [trimD, h1]
def bl (n : Nat) : Nat := if n = 0 then 0 else n.log2 + 1
theorem lt_bl (n : Nat) : n < 2 ^ bl n := by
 unfold bl
 split
 ·rename_i h; subst h; simp
 ·exact Nat.lt_log2_self
theorem bl_le {n k : Nat} (h : n < 2 ^ k) : bl n ≤ k := by
 unfold bl
 split
 ·omega
 ·rename_i hn; exact (Nat.log2_lt hn).2 h
theorem bl_lt {n k : Nat} (h : bl n ≤ k) : n < 2 ^ k := Nat.lt_of_lt_of_le (lt_bl n) (Nat.pow_le_pow_right (by omega) h)
theorem cu_ {m n : Nat} (h : m ≤ n) : bl m ≤ bl n := bl_le (Nat.lt_of_le_of_lt h (lt_bl n))
theorem hc_ (m n : Nat) : bl (m * n) ≤ bl m + bl n := by
 refine bl_le ?_
 rw [Nat.pow_add]
 exact Nat.mul_lt_mul'' (lt_bl m) (lt_bl n)
theorem bl_add (m n : Nat) : bl (m + n) ≤ max (bl m) (bl n) + 1 := by
 refine bl_le ?_
 have h1 : m < 2 ^ max (bl m) (bl n) := bl_lt (Nat.le_max_left _ _)
 have h2 : n < 2 ^ max (bl m) (bl n) := bl_lt (Nat.le_max_right _ _)
 rw [Nat.pow_succ]; omega
theorem bl_zero : bl 0 = 0 := rfl
theorem jy_ : bl 1 = 1 := by decide
theorem bl_pos {n : Nat} (h : 0 < n) : 0 < bl n := by unfold bl; rw [if_neg (by omega)]; omega
theorem bc_ {b : Nat} (hb : 1 < b) (n : Nat) : (digs b n).length ≤ bl n := by
 induction n using Nat.strongRecOn with
 | _ n ih =>
  rcases Nat.eq_zero_or_pos n with rfl | hn
  ·rw [bq_]; simp
  ·rw [dp_ hb hn, List.length_cons]
   have h1 := ih _ (Nat.div_lt_self hn hb)
   have h2 : bl (n / b) + 1 ≤ bl n := by
    have hle : n / b ≤ n / 2 := Nat.div_le_div_left hb (by omega)
    have h3 : bl (n / 2) + 1 ≤ bl n := by
     have hlt := lt_bl n
     have hp := bl_pos hn
     have : n / 2 < 2 ^ (bl n - 1) := by
      rw [Nat.div_lt_iff_lt_mul (by omega)]; have e : 2 ^ (bl n - 1) * 2 = 2 ^ bl n := by rw [show 2 ^ bl n = 2 ^ (bl n - 1 + 1) by rw [show bl n - 1 + 1 = bl n by omega], Nat.pow_succ]
      rw [e]; exact hlt
     have := bl_le this
     omega
    have := cu_ hle
    omega
   omega
theorem dl_ {b : Nat} (hb : 1 < b) {n k : Nat} (h : n < b ^ k) : (digs b n).length ≤ k := by
 induction k generalizing n with
 | zero => have : n = 0 := by simpa using h
           subst this; rw [bq_]; simp
 | succ k ih =>
  rcases Nat.eq_zero_or_pos n with rfl | hn
  ·rw [bq_]; simp
  ·rw [dp_ hb hn, List.length_cons]
   have : n / b < b ^ k := by rw [Nat.div_lt_iff_lt_mul (by omega), ← Nat.pow_succ]; exact h
   have := ih this
   omega
theorem eh_ {b n : Nat} (hb : 1 < b) : digs b n = [] ↔ n = 0 := by
 constructor
 ·intro h; have := bd_ hb n; rw [h] at this; exact this.symm
 ·rintro rfl; exact bq_ b
abbrev MB : Nat := 1000000000
def u32 (d : Nat) : AV := .v (.int .u32 d)
def i64 (z : Int) : AV := .v (.int .i64 z)
def u64 (z : Int) : AV := .v (.int .u64 z)
def bln (b : Bool) : AV := .v (.bool b)
def dE (l : List Nat) : List (List AV) := l.map fun d => [u32 d]
def mag (n : Nat) : AV := .arr (dE (digs MB n))
@[simp] theorem mf_ (l : List Nat) : (dE l).length = l.length := by simp [dE]
theorem dd_ {l : List Nat} {i d : Nat} (h : l[i]? = some d) : (dE l)[i]? = some [u32 d] := by simp [dE, h]
theorem dE_take (l : List Nat) (k : Nat) : (dE l).take k = dE (l.take k) := by simp [dE]
theorem ee_ (l m : List Nat) : dE (l ++ m) = dE l ++ dE m := by simp [dE]
theorem ev_ (l : List Nat) (i d : Nat) : (dE l).set i [u32 d] = dE (l.set i d) := by simp [dE, List.map_set]
theorem cf_ (k : Nat) : List.replicate k [u32 0] = dE (List.replicate k 0) := by simp [dE]
theorem ib_ (l : List Nat) : (dE l).all (·.all AV.one) = true := by simp [dE, u32, AV.one]; intros; rfl
theorem yk_ (l : List Nat) : ∀ e ∈ dE l, e.length = 1 := by intro e he; simp [dE] at he; obtain ⟨d, _, rfl⟩ := he; rfl
theorem an_ (l : List Nat) : ∀ e ∈ dE l, ∀ c ∈ e, Closed c := by
 intro e he c hc
 simp [dE] at he
 obtain ⟨d, _, rfl⟩ := he
 simp at hc; subst hc
 exact ac_ _
theorem aw_ (l : List Nat) : Closed (.arr (dE l)) := ao_ (an_ l)
theorem ah_ (n : Nat) : Closed (mag n) := aw_ _
theorem ab_ : ∀ a ∈ ([] : List AV), Closed a := fun _ h => by cases h
theorem aa_ {a : AV} {l : List AV} (h : Closed a) (h' : ∀ a ∈ l, Closed a) : ∀ b ∈ a :: l, Closed b := by
 intro b hb
 rcases List.mem_cons.1 hb with rfl | hb
 ·exact h
 ·exact h' b hb
theorem AEval.lenD {P : Program} {id : Nat} {ev : Operand → Option AV} {hp : Nat → Option ABlk} {c : Call} {x : Operand} {T : Nat} {d : Nat × Nat} {l : List Nat} (hc : c.callee = .builtin .len) (ha : c.args = #[x]) (ht : c.argTypes = #[T]) (hx : ev x = some (.arr (dE l))) (he : elOf P T = some d) :
    AEval P id ev hp (.call c) ⟨.v (.int .i64 (l.length : Nat)), []⟩ [] := .len hc ha ht hx (by simp [lenA]) he
end Go.Abs
namespace Go.Proofs.YtdhedjbmdnnbkaaGreatDoor
open Go.Abs
set_option maxRecDepth 20000
theorem fs_zero (l : List Nat) : FSpec Tryz.prog 173 [.agg [.arr (dE l)]] (bln (l.length == 0)) := by
 refine FSpec.enter Tryz.func173 rfl (by kernel_rfl) rfl rfl rfl ?_ rfl ?_
 ·exact aa_ (ag_ (aa_ (aw_ l) ab_)) ab_
 refine r_z 2 ?_
 refine r_z 5 ?_
 refine AWp.ret ?_
 refine Fin.tmpE rfl ?_ (ac_ _)
 simp only [bln, mf_]
 congr 2
 rw [Bool.eq_iff_iff]; simp
theorem fx_ (l : List Nat) (hl : l.length ≤ 281474976710656) : FSpec Tryz.prog 175 [.arr (dE l)] (.agg [.arr (dE (trimD l))]) := by
 refine FSpec.enter Tryz.func175 rfl (by kernel_rfl) rfl rfl rfl ?_ rfl ?_
 ·exact aa_ (aw_ l) ab_
 refine r_z 1 ?_
 refine r_z 3 ?_
 refine AWp.cut (fun k : Nat => ⟨[(0, .arr (dE l)), (2, .lptr 1 0 0), (3, i64 k)], [(1, some ⟨33, 1, [[.emp]]⟩)], 2, 23⟩) (fun k => k ≤ l.length ∧ trimD l = l.take k) ?_ ?_
 ·refine AWp.block ?_
  refine AWp.loopS (fun k : Nat => ⟨[(0, .arr (dE l)), (2, .lptr 1 0 0), (3, i64 k)], [(1, some ⟨33, 1, [[.emp]]⟩)], 2, 23⟩) (fun k => k) (fun k => k ≤ l.length ∧ ∀ i, k ≤ i → i < l.length → l[i]? = some 0) l.length ⟨Nat.le_refl _, fun i h1 h2 => by omega⟩ ?_ ?_
  ·exact s_e []
  rintro k ⟨hk, hz⟩
  have fin : k = 0 ∨ l[k - 1]? ≠ some 0 → trimD l = l.take k := ja_ l k hk hz
  by_cases h0 : k = 0
  ·subst h0
   refine AWp.seq ?_
   refine s_r 10 ?_
   refine a_3 ?_
   refine AR.opN rfl rfl (gn (by first | rfl | assumption | exact decide_eq_false (by omega) | (simp; done) | (simp; omega))) rfl rfl ?_
   refine AR.opN rfl rfl (gn (by first | rfl | assumption | exact decide_eq_false (by omega) | (simp; done) | (simp; omega))) rfl rfl ?_
   refine AR.opN rfl rfl (gn (by first | rfl | assumption | exact decide_eq_false (by omega) | (simp; done) | (simp; omega))) rfl rfl ?_
   refine AR.opN rfl rfl (gn (by first | rfl | assumption | exact decide_eq_false (by omega) | (simp; done) | (simp; omega))) rfl rfl ?_
   refine AR.opN rfl rfl (gn (by first | rfl | assumption | exact decide_eq_false (by omega) | (simp; done) | (simp; omega))) rfl rfl ?_
   refine AR.opN rfl rfl (gn (by first | rfl | assumption | exact decide_eq_false (by omega) | (simp; done) | (simp; omega))) rfl rfl ?_
   refine o_0 (.pickF rfl (by first | rfl | assumption | exact decide_eq_false (by omega) | (simp; done) | (simp; omega)) rfl) ?_
   refine AR.nil ?_
   refine AWp.cond rfl (fun h => ?_) (fun _ => ?_)
   ·cases h
   refine AWp.exit ⟨0, ⟨hk, fin (.inl rfl)⟩, ?_⟩
   exact s_e []
  ·have hk1 : k - 1 < l.length := by omega
   obtain ⟨d, hd⟩ : ∃ d, l[k - 1]? = some d := ⟨_, List.getElem?_eq_getElem hk1⟩
   have hd' : (dE l)[((k : Int) - 1).toNat]? = some [u32 d] := by rw [show ((k : Int) - 1).toNat = k - 1 by omega]; exact dd_ hd
   refine AWp.seq ?_
   refine s_r 10 ?_
   refine a_3 ?_
   refine AR.op0y rfl rfl (gy (by first | rfl | assumption | exact decide_eq_true (by omega) | (simp; done) | (simp; omega))) (.move rfl) rfl rfl ?_
   refine AR.op0y rfl rfl (gy (by first | rfl | assumption | exact decide_eq_true (by omega) | (simp; done) | (simp; omega))) (.move rfl) rfl rfl ?_
   refine AR.op0y rfl rfl (gy (by first | rfl | assumption | exact decide_eq_true (by omega) | (simp; done) | (simp; omega))) (.bin rfl rfl (mj_ (by omega))) rfl rfl ?_
   first | refine AR.op0y rfl rfl (gy (by first | rfl | assumption | exact decide_eq_true (by omega) | (simp; done) | (simp; omega))) (.index_l rfl rfl (by omega) (by omega) te_31.h) rfl rfl ?_ | refine AR.op0y rfl rfl (gy (by first | rfl | assumption | exact decide_eq_true (by omega) | (simp; done) | (simp; omega))) (.index_a rfl rfl (by omega) hd' rfl te_31.h) rfl rfl ?_
   first | refine AR.op0y rfl rfl (gy (by first | rfl | assumption | exact decide_eq_true (by omega) | (simp; done) | (simp; omega))) (.load_l1 rfl rfl hd' tg_206.h rfl) rfl rfl ?_ | refine AR.op0y rfl rfl (gy (by first | rfl | assumption | exact decide_eq_true (by omega) | (simp; done) | (simp; omega))) (.load_a1 rfl hd' tg_206.h rfl) rfl rfl ?_
   refine AR.op0y rfl rfl (gy (by first | rfl | assumption | exact decide_eq_true (by omega) | (simp; done) | (simp; omega))) (.bin rfl rfl bo_) rfl rfl ?_
   refine o_0 (.pickT rfl (by first | rfl | assumption | exact decide_eq_true (by omega) | (simp; done) | (simp; omega)) rfl) ?_
   refine AR.nil ?_
   refine AWp.cond rfl (fun h => ?_) (fun h => ?_)
   ·refine AWp.skip ?_
    have hd0 : d = 0 := by simpa using h
    subst hd0
    refine AWp.block ?_
    refine AWp.reg (m := 3) rfl ?_
    refine a_z ?_
    refine ⟨k - 1, by omega, ⟨by omega, fun i h1 h2 => ?_⟩, ?_⟩
    ·by_cases hi : i = k - 1
     ·rw [hi]; exact hd
     ·exact hz i (by omega) h2
    ·exact s_e []
   ·refine AWp.exit ⟨k, ⟨hk, fin (.inr ?_)⟩, ?_⟩
    ·rw [hd]; simp at h ⊢; omega
    ·exact s_e []
 ·rintro k ⟨hk, ht⟩
  refine s_r 6 ?_
  refine a_3 ?_
  refine o_0 (.sa_hm rfl rfl rfl rfl rfl ⟨Nat.le_refl _, by simpa using hk⟩ te_31.h (yk_ l)) ?_
  refine a_z ?_
  refine AWp.ret ?_
  refine Fin.cellE rfl rfl rfl tg_33.h ts_33.h (nle rfl) ?_ (ag_ (aa_ (aw_ _) ab_))
  rw [ht, ← dE_take]
  rfl
end Go.Proofs.YtdhedjbmdnnbkaaGreatDoor
namespace Go.Abs
theorem fu_ (b : Nat) (s : List Nat) (v : Nat) : ofD b (s ++ [v]) = ofD b s + b ^ s.length * v := by rw [fb_]; simp [ofD]
theorem cw_ {α : Type} {l : List α} {k : Nat} {x : α} (h : l[k]? = some x) : l.take (k + 1) = l.take k ++ [x] := by
 rw [List.take_add_one, h]; rfl
theorem bw_ (b : Nat) {l : List Nat} {k d : Nat} (h : l[k]? = some d) : ofD b (l.take (k + 1)) = ofD b (l.take k) + b ^ k * d := by
 have hk : k < l.length := (List.getElem?_eq_some_iff.1 h).1
 rw [cw_ h, fu_, List.length_take, Nat.min_eq_left (by omega)]
theorem dk_ (b : Nat) (l : List Nat) (k : Nat) : ofD b (l.take (k + 1)) = ofD b (l.take k) + b ^ k * (l[k]?.getD 0) := by
 cases h : l[k]? with
 | some d => exact bw_ b h
 | none => rw [List.getElem?_eq_none_iff] at h; rw [List.take_of_length_le (by omega), List.take_of_length_le (by omega)]; simp
theorem fk_ (b : Nat) {l : List Nat} {k : Nat} (h : l.length ≤ k) : ofD b (l.take k) = ofD b l := by rw [List.take_of_length_le h]
theorem je_ (b : Nat) {l : List Nat} {k d : Nat} (h : l[k]? = some d) : ofD b (l.drop k) = d + b * ofD b (l.drop (k + 1)) := by
 rw [List.drop_eq_getElem_cons (List.getElem?_eq_some_iff.1 h).1, ofD]
 congr 1
 exact (List.getElem?_eq_some_iff.1 h).2
theorem ow_ (b : Nat) : ∀ {l : List Nat} {j d : Nat} (v : Nat), l[j]? = some d → ofD b (l.set j v) + b ^ j * d = ofD b l + b ^ j * v
 | [], _, _, _, h => by simp at h
 | x :: l, 0, d, v, h => by simp at h; subst h; simp [ofD]; omega
 | x :: l, j + 1, d, v, h => by
  simp only [List.getElem?_cons_succ] at h
  have := ow_ b v h
  rw [List.set_cons_succ, ofD, ofD, Nat.pow_succ]
  have e := congrArg (b * ·) this
  simp only [Nat.mul_add] at e
  rw [← Nat.mul_assoc, ← Nat.mul_assoc, Nat.mul_comm b (b ^ j)] at e
  omega
theorem su_ {l : List Nat} {j v : Nat} {p : Nat → Prop} (h : ∀ d ∈ l, p d) (hv : p v) : ∀ d ∈ l.set j v, p d := by
 intro d hd
 rcases List.mem_or_eq_of_mem_set hd with hd | hd
 ·exact h d hd
 ·subst hd; exact hv
theorem setAt_all {α : Type} {cs vs : List α} (h : vs.length = cs.length) : setAt cs 0 vs = vs := by
 apply List.ext_getElem?
 intro j
 rw [dr_]
 split
 ·rename_i hj; rw [if_pos (by omega)]; rfl
 ·rename_i hj; rw [List.getElem?_eq_none (by omega), List.getElem?_eq_none (by omega)]
theorem xg_ {α : Type} {cs vs : List α} (h : vs.length ≤ cs.length) : setAt cs 0 vs = vs ++ cs.drop vs.length := by
 apply List.ext_getElem?
 intro j
 rw [dr_]
 by_cases hj : j < vs.length
 ·rw [if_pos (by omega), if_pos (by omega), List.getElem?_append_left hj]; rfl
 ·rw [if_neg (by omega), List.getElem?_append_right (by omega), List.getElem?_drop]
  congr 1; omega
theorem yz_ (s : List Nat) (m v i : Nat) (hi : i = s.length) : (s ++ List.replicate (m + 1) 0).set i v = (s ++ [v]) ++ List.replicate m 0 := by
 subst hi
 rw [List.set_append_right _ _ (Nat.le_refl _)]
 simp [List.replicate_succ]
theorem get_snoc (s : List Nat) (m i : Nat) (hi : i = s.length) : (s ++ List.replicate (m + 1) 0)[i]? = some 0 := by
 subst hi; simp [List.replicate_succ]
theorem br_ {b n i d : Nat} (hb : 1 < b) (h : (digs b n)[i]? = some d) : d < b := cm_ hb n d (List.mem_of_getElem? h)
theorem digs_small {n : Nat} (h0 : 0 < n) (h : n < MB) : digs MB n = [n] := by
 rw [dp_ (by decide) h0, Nat.div_eq_of_lt h, bq_, Nat.mod_eq_of_lt h]
theorem digs_drop {b : Nat} (hb : 1 < b) (n k : Nat) : (digs b n).drop k = digs b (ofD b ((digs b n).drop k)) := by
 symm
 refine tk_ hb ⟨fun d hd => cm_ hb n d (List.mem_of_mem_drop hd), ?_⟩
 by_cases hk : k < (digs b n).length
 ·rw [List.getLast?_drop, if_neg (by omega)]; exact qh_ hb n
 ·rw [List.drop_of_length_le (by omega)]; simp
theorem qg_ {b n : Nat} (hb : 1 < b) : b ^ ((digs b n).length - 1) ≤ n ∨ n = 0 := by
 rcases Nat.eq_zero_or_pos n with h | h
 ·exact .inr h
 ·left
  have hne : digs b n ≠ [] := fun e => by have := (eh_ hb).1 e; omega
  have hl := qh_ hb n
  obtain ⟨s, x, e⟩ : ∃ s x, digs b n = s ++ [x] := ⟨_, _, (List.dropLast_concat_getLast hne).symm⟩
  have h1 := bd_ hb n
  rw [e, fu_] at h1
  rw [e] at hl
  simp at hl
  rw [e, List.length_append]
  simp
  have : b ^ s.length * 1 ≤ b ^ s.length * x := Nat.mul_le_mul_left _ (by omega)
  omega
theorem gw_ {b m n : Nat} (hb : 1 < b) (h : (digs b m).length < (digs b n).length) : m < n := by
 have h1 := fl_ (b := b) (cm_ hb m)
 rw [bd_ hb] at h1
 rcases qg_ (n := n) hb with h2 | h2
 ·have : b ^ (digs b m).length ≤ b ^ ((digs b n).length - 1) := Nat.pow_le_pow_right (by omega) (by omega)
  omega
 ·subst h2; rw [bq_] at h; simp at h
theorem zx_ {b m n : Nat} (hb : 1 < b) (h : m ≤ n) : (digs b m).length ≤ (digs b n).length := by
 rcases Nat.lt_or_ge (digs b n).length (digs b m).length with h1 | h1
 ·have := gw_ hb h1; omega
 ·exact h1
def restD (n k : Nat) : Nat := ofD MB ((digs MB n).drop k)
def preD (n k : Nat) : List Nat := (digs MB n).take k
theorem rd_ (n : Nat) : restD n 0 = n := bd_ (by decide) n
theorem ds_ (n : Nat) : preD n 0 = [] := rfl
theorem preD_end (n : Nat) : preD n (digs MB n).length = digs MB n := List.take_length
theorem kc_ {n k : Nat} (h : k ≤ (digs MB n).length) : (preD n k).length = k := by simp [preD, Nat.min_eq_left h]
theorem re_ {n k : Nat} (h : k < (digs MB n).length) : restD n (k + 1) = restD n k / MB ∧ preD n (k + 1) = preD n k ++ [restD n k % MB] := by
 have hd : (digs MB n)[k]? = some (digs MB n)[k] := List.getElem?_eq_getElem h
 have h1 := je_ MB hd
 have h2 : (digs MB n)[k] < MB := br_ (by decide) hd
 constructor
 ·unfold restD; rw [h1, Nat.add_mul_div_left _ _ (by decide), Nat.div_eq_of_lt h2]; omega
 ·unfold preD restD; rw [cw_ hd, h1, Nat.add_mul_mod_self_left, Nat.mod_eq_of_lt h2]
theorem restD_le {n k : Nat} (hk : k ≤ (digs MB n).length) : restD n k ≤ n := by
 have := cp_ MB k _ hk
 rw [bd_ (by decide)] at this
 have h2 := Nat.le_mul_of_pos_left (ofD MB ((digs MB n).drop k)) (Nat.pow_pos (n := k) (show 0 < MB by decide))
 unfold restD; omega
theorem restD_eq {n k : Nat} (hk : k ≤ (digs MB n).length) : restD n k = 0 ↔ k = (digs MB n).length := by
 constructor
 ·intro e
  have := digs_drop (b := MB) (by decide) n k
  rw [show ofD MB ((digs MB n).drop k) = 0 from e, bq_, List.drop_eq_nil_iff] at this
  omega
 ·intro e; unfold restD; rw [e, List.drop_length]; rfl
def cmpZ (a b : Int) : Int := if a < b then -1 else if b < a then 1 else 0
theorem lg_ {a b : Int} (h : a < b) : cmpZ a b = -1 := by simp [cmpZ, h]
theorem mw_ {a b : Int} (h : b < a) : cmpZ a b = 1 := by simp [cmpZ]; omega
theorem cmpZ_eq {a b : Int} (h : a = b) : cmpZ a b = 0 := by simp [cmpZ]; omega
theorem tp_ {a b : Int} : cmpZ a b ≠ 0 ↔ a ≠ b := by unfold cmpZ; split <;> (try split) <;> omega
theorem lp_ {b i x y : Nat} {l m : List Nat} (hl : ∀ d ∈ l, d < b) (hx : l[i]? = some x) (hy : m[i]? = some y) (hd : l.drop (i + 1) = m.drop (i + 1)) (hlt : x < y) : ofD b l < ofD b m := by
 have hi : i < l.length := (List.getElem?_eq_some_iff.1 hx).1
 have hj : i < m.length := (List.getElem?_eq_some_iff.1 hy).1
 rw [cp_ b i l (by omega), cp_ b i m (by omega), je_ b hx, je_ b hy, hd]
 have h1 : ofD b (l.take i) < b ^ i := by
  have := fl_ (b := b) (l := l.take i) fun d hd => hl d (List.mem_of_mem_take hd)
  rwa [List.length_take, Nat.min_eq_left (by omega)] at this
 have h2 : b ^ i * (x + b * ofD b (m.drop (i + 1)) + 1) ≤ b ^ i * (y + b * ofD b (m.drop (i + 1))) := Nat.mul_le_mul_left _ (by omega)
 rw [Nat.mul_add _ _ 1] at h2
 omega
theorem pn_ (s t : List Nat) (x : Nat) (i : Nat) (hi : i = s.length) : (s ++ x :: t)[i]? = some x := by subst hi; simp
theorem on_ (s t : List Nat) (x v : Nat) (i : Nat) (hi : i = s.length) : (s ++ x :: t).set i v = (s ++ [v]) ++ t := by
 subst hi; rw [List.set_append_right _ _ (Nat.le_refl _)]; simp
theorem eu_ {l : List Nat} {i x : Nat} (h : l[i]? = some x) : l.drop i = x :: l.drop (i + 1) := by
 rw [List.drop_eq_getElem_cons (List.getElem?_eq_some_iff.1 h).1, (List.getElem?_eq_some_iff.1 h).2]
end Go.Abs
namespace Go.Proofs.YtdhedjbmdnnbkaaGreatDoor
open Go.Abs
set_option maxRecDepth 20000
theorem rs_ (z : Int) : FSpec Tryz.prog 235 [i64 z] (bln false) := by
 refine FSpec.enter Tryz.func235 rfl (by kernel_rfl) rfl rfl rfl ?_ rfl ?_
 ·exact aa_ (ac_ _) ab_
 refine r_z 1 ?_
 refine r_z 4 ?_
 refine AWp.ret ?_
 refine Fin.tmpE rfl ?_ (ac_ _)
 simp [bln]
theorem rr_ (z : Nat) : FSpec Tryz.prog 236 [u32 z] (bln false) := by
 refine FSpec.enter Tryz.func236 rfl (by kernel_rfl) rfl rfl rfl ?_ rfl ?_
 ·exact aa_ (ac_ _) ab_
 refine r_z 1 ?_
 refine r_z 4 ?_
 refine AWp.ret ?_
 refine Fin.tmpE rfl ?_ (ac_ _)
 simp [bln]
theorem wa_ (a b : Int) : FSpec Tryz.prog 178 [i64 a, i64 b] (i64 (cmpZ a b)) := by
 refine FSpec.enter Tryz.func178 rfl (by kernel_rfl) rfl rfl rfl ?_ rfl ?_
 ·exact aa_ (ac_ _) (aa_ (ac_ _) ab_)
 refine r_z 1 ?_
 refine r_c 3 (rs_ a) ?_
 refine a_z ?_
 refine r_c 3 (rs_ b) ?_
 refine a_z ?_
 refine AWp.seq ?_
 refine r_z 1 ?_
 refine AWp.cond rfl (fun h => ?_) (fun _ => AWp.skip ?_)
 ·cases h
 refine AWp.seq ?_
 refine r_z 1 ?_
 refine AWp.cond rfl (fun h => ?_) (fun _ => AWp.skip ?_)
 ·cases h
 refine AWp.seq ?_
 refine r_z 3 ?_
 refine AWp.cond rfl (fun h => ?_) (fun h => AWp.skip ?_)
 ·refine r_z 1 ?_
  refine AWp.ret (Fin.tmpE rfl ?_ (ac_ _))
  simp at h; simp [i64, ofV, cmpZ, h]
 refine AWp.seq ?_
 refine r_z 3 ?_
 refine AWp.cond rfl (fun h' => ?_) (fun h' => AWp.skip ?_)
 ·refine r_z 1 ?_
  refine AWp.ret (Fin.tmpE rfl ?_ (ac_ _))
  simp at h h'; simp [i64, ofV, cmpZ]; omega
 refine r_z 1 ?_
 refine AWp.ret (Fin.tmpE rfl ?_ (ac_ _))
 simp at h h'; simp [i64, ofV, cmpZ]; omega
theorem vz_ (a b : Nat) : FSpec Tryz.prog 179 [u32 a, u32 b] (i64 (cmpZ a b)) := by
 refine FSpec.enter Tryz.func179 rfl (by kernel_rfl) rfl rfl rfl ?_ rfl ?_
 ·exact aa_ (ac_ _) (aa_ (ac_ _) ab_)
 refine r_z 1 ?_
 refine r_c 3 (rr_ a) ?_
 refine a_z ?_
 refine r_c 3 (rr_ b) ?_
 refine a_z ?_
 refine AWp.seq ?_
 refine r_z 1 ?_
 refine AWp.cond rfl (fun h => ?_) (fun _ => AWp.skip ?_)
 ·cases h
 refine AWp.seq ?_
 refine r_z 1 ?_
 refine AWp.cond rfl (fun h => ?_) (fun _ => AWp.skip ?_)
 ·cases h
 refine AWp.seq ?_
 refine r_z 3 ?_
 refine AWp.cond rfl (fun h => ?_) (fun h => AWp.skip ?_)
 ·refine r_z 1 ?_
  refine AWp.ret (Fin.tmpE rfl ?_ (ac_ _))
  simp at h; simp [i64, ofV, cmpZ, h]
 refine AWp.seq ?_
 refine r_z 3 ?_
 refine AWp.cond rfl (fun h' => ?_) (fun h' => AWp.skip ?_)
 ·refine r_z 1 ?_
  refine AWp.ret (Fin.tmpE rfl ?_ (ac_ _))
  simp at h h'; simp [i64, ofV, cmpZ]; omega
 refine r_z 1 ?_
 refine AWp.ret (Fin.tmpE rfl ?_ (ac_ _))
 simp at h h'; simp [i64, ofV, cmpZ]; omega
theorem digs_one {n : Nat} : (digs MB n).length = 1 ∧ (digs MB n)[0]? = some 1 ↔ n = 1 := by
 constructor
 ·rintro ⟨h1, h2⟩
  have := bd_ (b := MB) (by decide) n
  match hd : digs MB n, h1, h2 with
  | [d], _, h2 => rw [hd] at this; simp at h2; subst h2; simpa [ofD] using this.symm
 ·rintro rfl
  rw [dp_ (by decide) (by decide)]
  rw [show 1 / MB = 0 by decide, bq_]; simp
theorem fs_one (n : Nat) : FSpec Tryz.prog 181 [.agg [mag n]] (bln (n == 1)) := by
 refine FSpec.enter Tryz.func181 rfl (by kernel_rfl) rfl rfl rfl ?_ rfl ?_
 ·exact aa_ (ag_ (aa_ (ah_ n) ab_)) ab_
 refine r_z 2 ?_
 by_cases h1 : (digs MB n).length = 1
 ·obtain ⟨d, hd⟩ : ∃ d, (digs MB n)[0]? = some d := ⟨_, List.getElem?_eq_getElem (by omega)⟩
  have hd' : (dE (digs MB n))[(0 : Int).toNat]? = some [u32 d] := dd_ hd
  refine s_r 12 ?_
  refine a_5 ?_
  first | refine AR.op0y rfl rfl (gy (by simp; omega)) (.fieldAddr_l rfl tf_33_0.h (by decide)) rfl rfl ?_ | refine AR.op0y rfl rfl (gy (by simp; omega)) (.fieldAddr_a rfl tf_33_0.h (by decide)) rfl rfl ?_
  first | refine AR.op0y rfl rfl (gy (by simp; omega)) (.load_l1 rfl rfl rfl tg_31.h rfl) rfl rfl ?_ | refine AR.op0y rfl rfl (gy (by simp; omega)) (.load_a1 rfl rfl tg_31.h rfl) rfl rfl ?_
  first | refine AR.op0y rfl rfl (gy (by simp; omega)) (.index_l rfl rfl (by omega) (by omega) te_31.h) rfl rfl ?_ | refine AR.op0y rfl rfl (gy (by simp; omega)) (.index_a rfl rfl (by omega) hd' rfl te_31.h) rfl rfl ?_
  first | refine AR.op0y rfl rfl (gy (by simp; omega)) (.load_l1 rfl rfl hd' tg_206.h rfl) rfl rfl ?_ | refine AR.op0y rfl rfl (gy (by simp; omega)) (.load_a1 rfl hd' tg_206.h rfl) rfl rfl ?_
  refine AR.op0y rfl rfl (gy (by simp; omega)) (.bin rfl rfl bo_) rfl rfl ?_
  refine o_0 (.pickT rfl (by simp; omega) rfl) ?_
  refine a_z ?_
  refine AWp.ret (Fin.tmpE rfl ?_ (ac_ _))
  simp only [bln]
  congr 2
  rw [Bool.eq_iff_iff]
  have := digs_one (n := n)
  simp only [h1, hd, true_and, Option.some.injEq] at this
  simp only [beq_iff_eq, ← this]
  omega
 ·refine s_r 12 ?_
  refine a_5 ?_
  refine AR.opN rfl rfl (gn (by simp; omega)) rfl rfl ?_
  refine AR.opN rfl rfl (gn (by simp; omega)) rfl rfl ?_
  refine AR.opN rfl rfl (gn (by simp; omega)) rfl rfl ?_
  refine AR.opN rfl rfl (gn (by simp; omega)) rfl rfl ?_
  refine AR.opN rfl rfl (gn (by simp; omega)) rfl rfl ?_
  refine o_0 (.pickF rfl (by simp; omega) rfl) ?_
  refine a_z ?_
  refine AWp.ret (Fin.tmpE rfl ?_ (ac_ _))
  simp only [bln, ofV]
  congr 2
  symm
  rw [beq_eq_false_iff_ne]
  intro h
  exact h1 (digs_one.2 h).1
end Go.Proofs.YtdhedjbmdnnbkaaGreatDoor
