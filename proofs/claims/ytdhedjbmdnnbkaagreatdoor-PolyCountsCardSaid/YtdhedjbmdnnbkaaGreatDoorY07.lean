/- Part Y07 of the proof. -/
import Derived.Test.YtdhedjbmdnnbkaaGreatDoorY06
import Derived.Below
set_option linter.all false
namespace Go.Abs
class TZ (P : Program) (t : Nat) (v : outParam (List Value)) : Prop where h : dq_ P t = some v
class TS (P : Program) (t : Nat) (v : outParam Nat) : Prop where h : szOf P t = some v
class TG (P : Program) (t : Nat) (v : outParam Bool) : Prop where h : de_ P t = some v
class TB (P : Program) (t : Nat) (v : outParam Nat) : Prop where h : byOf P t = some v
class TE (P : Program) (t : Nat) (v : outParam (Nat × Nat)) : Prop where h : elOf P t = some v
class TU (P : Program) (t : Nat) (v : outParam TypeDesc) : Prop where h : P.underlying t = some v
class TP (P : Program) (t : Nat) (v : outParam (List (Nat × Nat))) : Prop where h : jq_ P t = some v
class TF (P : Program) (t i : Nat) (v : outParam (Nat × Nat)) : Prop where h : fldOf P t i = some v
class TA (P : Program) (t i : Nat) (v : outParam Bool) : Prop where h : hQ_ P t i = some v
structure Hid (q : Prop) : Prop where h : q
section
variable {P : Program} {ops : Array Oper} {nx n j : Nat} {rest : List Oper} {fr : Fr} {hp : Hp} {K : Fps → Fr → Hp → Prop} {dst : Option Nat} {ty : Nat} {pos : String} {after : Array Edge}
theorem k_load {T : Nat} {x : Operand} (h : AR P ops nx n j (⟨dst, .load T x, ty, pos, after, none⟩ :: rest) fr hp K) : AR P ops nx n j (⟨dst, .load T x, ty, pos, after, none⟩ :: rest) fr hp K := h
theorem lR_ {T f : Nat} {x : Operand} (h : AR P ops nx n j (⟨dst, .fieldAddr T x f, ty, pos, after, none⟩ :: rest) fr hp K) : AR P ops nx n j (⟨dst, .fieldAddr T x f, ty, pos, after, none⟩ :: rest) fr hp K := h
theorem k_bin {b : BinOp} {T yt : Nat} {x y : Operand} (h : AR P ops nx n j (⟨dst, .binOp b T x y yt, ty, pos, after, none⟩ :: rest) fr hp K) : AR P ops nx n j (⟨dst, .binOp b T x y yt, ty, pos, after, none⟩ :: rest) fr hp K := h
theorem k_call {c : Call} (h : AR P ops nx n j (⟨dst, .call c, ty, pos, after, none⟩ :: rest) fr hp K) : AR P ops nx n j (⟨dst, .call c, ty, pos, after, none⟩ :: rest) fr hp K := h
theorem k_move {x : Operand} (h : AR P ops nx n j (⟨dst, .move x, ty, pos, after, none⟩ :: rest) fr hp K) : AR P ops nx n j (⟨dst, .move x, ty, pos, after, none⟩ :: rest) fr hp K := h
theorem k_index {T : Nat} {x y : Operand} (h : AR P ops nx n j (⟨dst, .indexAddr T x y, ty, pos, after, none⟩ :: rest) fr hp K) : AR P ops nx n j (⟨dst, .indexAddr T x y, ty, pos, after, none⟩ :: rest) fr hp K := h
theorem k_assign {x : Operand} (h : AR P ops nx n j (⟨dst, .assign x, ty, pos, after, none⟩ :: rest) fr hp K) : AR P ops nx n j (⟨dst, .assign x, ty, pos, after, none⟩ :: rest) fr hp K := h
theorem k_store {T : Nat} {x y : Operand} (h : AR P ops nx n j (⟨dst, .store T x y, ty, pos, after, none⟩ :: rest) fr hp K) : AR P ops nx n j (⟨dst, .store T x y, ty, pos, after, none⟩ :: rest) fr hp K := h
theorem pj_ {x : Operand} {i : Nat} (h : AR P ops nx n j (⟨dst, .extract x i, ty, pos, after, none⟩ :: rest) fr hp K) : AR P ops nx n j (⟨dst, .extract x i, ty, pos, after, none⟩ :: rest) fr hp K := h
theorem k_box {T : Nat} {x : Operand} (h : AR P ops nx n j (⟨dst, .box T x, ty, pos, after, none⟩ :: rest) fr hp K) : AR P ops nx n j (⟨dst, .box T x, ty, pos, after, none⟩ :: rest) fr hp K := h
theorem k_alloc {T : Nat} (h : AR P ops nx n j (⟨dst, .alloc T, ty, pos, after, none⟩ :: rest) fr hp K) : AR P ops nx n j (⟨dst, .alloc T, ty, pos, after, none⟩ :: rest) fr hp K := h
theorem k_conv {S D : Nat} {x : Operand} (h : AR P ops nx n j (⟨dst, .convert S D x, ty, pos, after, none⟩ :: rest) fr hp K) : AR P ops nx n j (⟨dst, .convert S D x, ty, pos, after, none⟩ :: rest) fr hp K := h
theorem k_field {T f : Nat} {x : Operand} (h : AR P ops nx n j (⟨dst, .field T x f, ty, pos, after, none⟩ :: rest) fr hp K) : AR P ops nx n j (⟨dst, .field T x f, ty, pos, after, none⟩ :: rest) fr hp K := h
theorem k_nilc {x : Operand} (h : AR P ops nx n j (⟨dst, .nilCheck x, ty, pos, after, none⟩ :: rest) fr hp K) : AR P ops nx n j (⟨dst, .nilCheck x, ty, pos, after, none⟩ :: rest) fr hp K := h
theorem k_pick {x y z : Operand} (h : AR P ops nx n j (⟨dst, .pick x y z, ty, pos, after, none⟩ :: rest) fr hp K) : AR P ops nx n j (⟨dst, .pick x y z, ty, pos, after, none⟩ :: rest) fr hp K := h
theorem k_un {b : UnOp} {T : Nat} {x : Operand} (h : AR P ops nx n j (⟨dst, .unOp b T x, ty, pos, after, none⟩ :: rest) fr hp K) : AR P ops nx n j (⟨dst, .unOp b T x, ty, pos, after, none⟩ :: rest) fr hp K := h
theorem k_build {T : Nat} {ps : Array (Nat × Operand)} (h : AR P ops nx n j (⟨dst, .build T ps, ty, pos, after, none⟩ :: rest) fr hp K) : AR P ops nx n j (⟨dst, .build T ps, ty, pos, after, none⟩ :: rest) fr hp K := h
theorem k_eql {T yt : Nat} {x y : Operand} (h : AR P ops nx n j (⟨dst, .binOp .eql T x y yt, ty, pos, after, none⟩ :: rest) fr hp K) : AR P ops nx n j (⟨dst, .binOp .eql T x y yt, ty, pos, after, none⟩ :: rest) fr hp K := h
theorem k_neq {T yt : Nat} {x y : Operand} (h : AR P ops nx n j (⟨dst, .binOp .neq T x y yt, ty, pos, after, none⟩ :: rest) fr hp K) : AR P ops nx n j (⟨dst, .binOp .neq T x y yt, ty, pos, after, none⟩ :: rest) fr hp K := h
theorem k_lss {T yt : Nat} {x y : Operand} (h : AR P ops nx n j (⟨dst, .binOp .lss T x y yt, ty, pos, after, none⟩ :: rest) fr hp K) : AR P ops nx n j (⟨dst, .binOp .lss T x y yt, ty, pos, after, none⟩ :: rest) fr hp K := h
theorem k_leq {T yt : Nat} {x y : Operand} (h : AR P ops nx n j (⟨dst, .binOp .leq T x y yt, ty, pos, after, none⟩ :: rest) fr hp K) : AR P ops nx n j (⟨dst, .binOp .leq T x y yt, ty, pos, after, none⟩ :: rest) fr hp K := h
theorem k_gtr {T yt : Nat} {x y : Operand} (h : AR P ops nx n j (⟨dst, .binOp .gtr T x y yt, ty, pos, after, none⟩ :: rest) fr hp K) : AR P ops nx n j (⟨dst, .binOp .gtr T x y yt, ty, pos, after, none⟩ :: rest) fr hp K := h
theorem k_geq {T yt : Nat} {x y : Operand} (h : AR P ops nx n j (⟨dst, .binOp .geq T x y yt, ty, pos, after, none⟩ :: rest) fr hp K) : AR P ops nx n j (⟨dst, .binOp .geq T x y yt, ty, pos, after, none⟩ :: rest) fr hp K := h
theorem k_add {T yt : Nat} {x y : Operand} (h : AR P ops nx n j (⟨dst, .binOp .add T x y yt, ty, pos, after, none⟩ :: rest) fr hp K) : AR P ops nx n j (⟨dst, .binOp .add T x y yt, ty, pos, after, none⟩ :: rest) fr hp K := h
theorem k_sub {T yt : Nat} {x y : Operand} (h : AR P ops nx n j (⟨dst, .binOp .sub T x y yt, ty, pos, after, none⟩ :: rest) fr hp K) : AR P ops nx n j (⟨dst, .binOp .sub T x y yt, ty, pos, after, none⟩ :: rest) fr hp K := h
theorem k_mul {T yt : Nat} {x y : Operand} (h : AR P ops nx n j (⟨dst, .binOp .mul T x y yt, ty, pos, after, none⟩ :: rest) fr hp K) : AR P ops nx n j (⟨dst, .binOp .mul T x y yt, ty, pos, after, none⟩ :: rest) fr hp K := h
theorem k_quo {T yt : Nat} {x y : Operand} (h : AR P ops nx n j (⟨dst, .binOp .quo T x y yt, ty, pos, after, none⟩ :: rest) fr hp K) : AR P ops nx n j (⟨dst, .binOp .quo T x y yt, ty, pos, after, none⟩ :: rest) fr hp K := h
theorem k_rem {T yt : Nat} {x y : Operand} (h : AR P ops nx n j (⟨dst, .binOp .rem T x y yt, ty, pos, after, none⟩ :: rest) fr hp K) : AR P ops nx n j (⟨dst, .binOp .rem T x y yt, ty, pos, after, none⟩ :: rest) fr hp K := h
theorem k_len {aa : Array Operand} {tt : Array Nat} (h : AR P ops nx n j (⟨dst, .call ⟨.builtin .len, aa, tt⟩, ty, pos, after, none⟩ :: rest) fr hp K) : AR P ops nx n j (⟨dst, .call ⟨.builtin .len, aa, tt⟩, ty, pos, after, none⟩ :: rest) fr hp K := h
theorem k_append {aa : Array Operand} {tt : Array Nat} (h : AR P ops nx n j (⟨dst, .call ⟨.builtin .append, aa, tt⟩, ty, pos, after, none⟩ :: rest) fr hp K) : AR P ops nx n j (⟨dst, .call ⟨.builtin .append, aa, tt⟩, ty, pos, after, none⟩ :: rest) fr hp K := h
end
section
variable {P : Program} {ops : Array Oper} {nx n j : Nat} {rest : List Oper} {fr : Fr} {hp : Hp} {K : Fps → Fr → Hp → Prop} {dst : Option Nat} {op : Op} {ty : Nat} {pos : String} {after : Array Edge} {g t d : Nat} {want b : Bool}
theorem g_y (ht : (ops[g]?).bind (·.dst) = some t) (hx : evF (look fr) (.tmp t) = some (.v (.bool want))) (h : AR P ops nx n j (⟨dst, op, ty, pos, after, none⟩ :: rest) fr hp K) : AR P ops nx n j (⟨dst, op, ty, pos, after, some (g, want)⟩ :: rest) fr hp K := by
 obtain ⟨us, st', ⟨u, rd, us', he, ⟨h1, h2⟩, hd, hr⟩, hk⟩ := h
 exact ⟨us, st', ⟨u, rd, us', he, ⟨h1, t, .bool want, ht, hx, .inl ⟨rfl, h2⟩⟩, hd, hr⟩, hk⟩
theorem g_n (ht : (ops[g]?).bind (·.dst) = some t) (hx : evF (look fr) (.tmp t) = some (.v (.bool b))) (hb : (b == want) = false) (hnd : a5_ op = true) (hd : Nat.blt d n = true) (h : AR P ops nx n (j + 1) rest ((d, .v undef) :: fr) hp fun fps f h => K (([], []) :: fps) f h) : AR P ops nx n j (⟨some d, op, ty, pos, after, some (g, want)⟩ :: rest) fr hp K :=
 qy_ ht hx (gn (by cases b <;> cases want <;> first | rfl | exact absurd hb (by decide))) hnd hd h
theorem g_nn (ht : (ops[g]?).bind (·.dst) = some t) (hx : evF (look fr) (.tmp t) = some (.v (.bool b))) (hb : (b == want) = false) (hnd : a5_ op = true) (h : AR P ops nx n (j + 1) rest fr hp fun fps f h => K (([], []) :: fps) f h) : AR P ops nx n j (⟨none, op, ty, pos, after, some (g, want)⟩ :: rest) fr hp K :=
 AR.opNn ht hx (gn (by cases b <;> cases want <;> first | rfl | exact absurd hb (by decide))) hnd h
theorem vT {P : Program} {p : Bool} {f : Sem Value} (h : ∀ w, f.run P w = .ok (.bool p) w) (e : p = true) : ∀ w, f.run P w = .ok (.bool true) w := e ▸ h
theorem vF {P : Program} {p : Bool} {f : Sem Value} (h : ∀ w, f.run P w = .ok (.bool p) w) (e : p = false) : ∀ w, f.run P w = .ok (.bool false) w := e ▸ h
end
theorem a_1 {p q : Prop} (h : q) (f : Hid q → p := by
 intro h0
 first
 | (apply k_load; first | exact o_0 (.load_l1 rfl rfl rfl TG.h rfl) h0.h | exact o_0 (.load_l rfl rfl rfl TG.h TS.h (nle rfl)) h0.h | exact o_0 (.load_a1 rfl rfl TG.h rfl) h0.h | exact o_0 (.load_a rfl rfl TG.h TS.h (nle rfl)) h0.h | exact o_0 (.load_l rfl rfl (by assumption) TG.h TS.h (by exact nle rfl)) h0.h | exact o_0 (.load_l1 rfl rfl (by assumption) TG.h (by exact rfl)) h0.h | exact o_0 (.load_a rfl (by assumption) TG.h TS.h (by exact nle rfl)) h0.h | exact o_0 (.load_a1 rfl (by assumption) TG.h (by exact rfl)) h0.h)
 | (apply k_move; exact o_0 (.move rfl) h0.h)
 | (apply lR_; first | exact o_0 (.fieldAddr_l rfl TF.h (by decide)) h0.h | exact o_0 (.fieldAddr_a rfl TF.h (by decide)) h0.h)
 | (apply k_bin; first | (apply k_eql; first | exact o_0 (.bin rfl rfl a2_) h0.h | exact o_0 (.bin rfl rfl (binB_eql TU.h)) h0.h | exact o_0 (.bin rfl rfl j2_) h0.h | exact o_0 (.nilq_v rfl rfl TE.h) h0.h | exact o_0 (.nilq_arr rfl (by assumption) rfl TE.h) h0.h) | (apply k_neq; first | exact o_0 (.bin rfl rfl by_) h0.h | exact o_0 (.bin rfl rfl (binB_neq TU.h)) h0.h | exact o_0 (.bin rfl rfl nz_) h0.h) | (apply k_lss; exact o_0 (.bin rfl rfl bZ_) h0.h) | (apply k_leq; exact o_0 (.bin rfl rfl dl_) h0.h) | (apply k_gtr; exact o_0 (.bin rfl rfl ei_) h0.h) | (apply k_geq; exact o_0 (.bin rfl rfl j4_) h0.h) | (apply k_add; first | exact o_0 (.bin rfl rfl (nF_ (by omega))) h0.h | exact o_0 (.bin rfl rfl (bU64_add (by omega))) h0.h | exact o_0 (.bin rfl rfl (bU32_add (by omega))) h0.h | exact o_0 (.bin rfl rfl (bU8_add (by omega))) h0.h) | (apply k_sub; first | exact o_0 (.bin rfl rfl (e8_ (by omega))) h0.h | exact o_0 (.bin rfl rfl (bU64_sub (by omega))) h0.h | exact o_0 (.bin rfl rfl (bU32_sub (by omega))) h0.h | exact o_0 (.bin rfl rfl (bU8_sub (by omega))) h0.h) | (apply k_mul; first | exact o_0 (.bin rfl rfl (g6_ (by omega))) h0.h | exact o_0 (.bin rfl rfl (bU64_mul (by omega))) h0.h) | (apply k_quo; first | exact o_0 (.bin rfl rfl (bI64_quo (by omega))) h0.h | exact o_0 (.bin rfl rfl (nD_ (by omega))) h0.h | exact o_0 (.bin rfl rfl (nE_ (by omega))) h0.h) | (apply k_rem; first | exact o_0 (.bin rfl rfl (j5_ (by omega))) h0.h | exact o_0 (.bin rfl rfl (bU64_rem (by omega))) h0.h | exact o_0 (.bin rfl rfl (bU32_rem (by omega))) h0.h | exact o_0 (.bin rfl rfl (bU8_rem (by omega))) h0.h))
 | (apply k_call; first | (apply k_len; first | exact o_0 (.lenD rfl rfl rfl rfl TE.h) h0.h | exact o_0 (.lenI rfl rfl rfl rfl TE.h) h0.h | exact o_0 (.lenP rfl rfl rfl rfl TE.h) h0.h | exact o_0 (.lenC rfl rfl rfl rfl TE.h) h0.h | exact o_0 (.lenR rfl rfl rfl rfl TE.h) h0.h | exact o_0 (.len rfl rfl rfl rfl rfl TE.h) h0.h) | (apply k_append; first | exact o_1 (.append_e rfl rfl rfl TE.h rfl rfl rfl (.lsl rfl (nle rfl)) (by first | assumption | (simp; done)) TZ.h rfl TB.h (by first | rfl | assumption | (simp; done) | (simp; omega) | omega) (by first | (simp [maxLen]; done) | (simp [maxLen]; omega))) h0.h | exact o_2 (.append_l rfl rfl rfl TE.h rfl rfl rfl rfl rfl (by first | rfl | assumption | (simp; done) | (simp; omega) | omega) (by first | exact cS_ _ | exact cR_ _ | exact cQ_ _ | exact cT_ _ | exact cL_ _ | rfl | simp) (by first | rfl | exact cS_ _ | exact cR_ _ | exact cQ_ _ | exact cT_ _ | exact cL_ _ | simp) rfl (.lsl rfl (nle rfl)) TZ.h rfl TB.h (by first | rfl | assumption | (simp; done) | (simp; omega) | omega) (by first | (simp [maxLen]; done) | (simp [maxLen]; omega))) h0.h) | exact o_0 (.builtinV (vs := [_, _]) rfl rfl bmin) h0.h | exact o_0 (.builtinV (vs := [_, _]) rfl rfl bmax) h0.h)
 | (apply k_index; first | exact o_0 (.index_l rfl rfl (by omega) (by omega) TE.h) h0.h | exact o_0 (.index_a rfl rfl (by omega) rfl rfl TE.h) h0.h | exact o_0 (.index_a rfl rfl (by omega) (by assumption) (by rfl) TE.h) h0.h)
 | (apply k_assign; exact o_0 (.assign rfl) h0.h)
 | (apply k_store; exact o_1n (.store rfl rfl rfl rfl rfl rfl TS.h (nle rfl)) h0.h)
 | (apply pj_; exact o_0 (.extract rfl rfl) h0.h)
 | (apply k_box; exact o_1 (.box rfl rfl) h0.h)
 | (apply k_alloc; exact o_1 (.alloc TZ.h) h0.h)
 | (apply k_conv; first | exact o_0 (.conv rfl (cI64 (by omega) TU.h TU.h)) h0.h | exact o_0 (.conv rfl (cU64 (by omega) TU.h TU.h)) h0.h | exact o_0 (.conv rfl (cU32 (by omega) TU.h TU.h)) h0.h | exact o_0 (.conv rfl (cU8 (by omega) TU.h TU.h)) h0.h)
 | (apply k_field; first | exact o_0 (.field1 rfl TF.h TA.h rfl) h0.h | exact o_0 (.field rfl TF.h TA.h (nle rfl)) h0.h)
 | (apply k_nilc; exact o_0 (.nilCheck rfl rfl) h0.h)
 | (apply k_pick; first | exact o_0 (.pick rfl (fun _ => rfl) (fun _ => rfl)) h0.h | exact o_0 (.pick rfl (fun _ => rfl) (fun h => absurd h (by decide))) h0.h | exact o_0 (.pick rfl (fun h => absurd h (by decide)) (fun _ => rfl)) h0.h)
 | (apply k_un; first | exact o_0 (.un rfl kh_) h0.h | exact o_0 (.un rfl (iW_ (by omega))) h0.h)
 | (apply k_build; exact o_0 (.build TZ.h TP.h rfl rfl) h0.h)
 | exact o_0 (.makeFunc rfl rfl) h0.h
 | exact o_1 (.buildSlice TE.h TZ.h rfl (by decide) rfl rfl rfl (by first | (simp; done) | (simp [a7_, ofV]; done) | rfl)) h0.h
 | exact o_1 (.makeSlice rfl rfl TE.h TZ.h rfl TB.h (by first | omega | (simp; done) | (simp; omega)) (by first | omega | (simp; done) | (simp; omega)) (by unfold maxLen; first | omega | (simp; done) | (simp; omega))) h0.h
 | exact o_0 (.lookup rfl rfl TU.h TU.h rfl rfl rfl) h0.h
 | exact g_y rfl rfl h0.h
 | exact g_n rfl rfl rfl rfl rfl h0.h
 | exact g_nn rfl rfl rfl rfl h0.h) : p := f ⟨h⟩
theorem a_2 {p q : Prop} (h : q) (f : Hid q → p := by intro h0; (iterate 2 (refine a_1 ?_)); exact h0.h) : p := f ⟨h⟩
theorem a_3 {p q : Prop} (h : q) (f : Hid q → p := by intro h0; (iterate 3 (refine a_1 ?_)); exact h0.h) : p := f ⟨h⟩
theorem a_4 {p q : Prop} (h : q) (f : Hid q → p := by intro h0; (iterate 4 (refine a_1 ?_)); exact h0.h) : p := f ⟨h⟩
theorem a_5 {p q : Prop} (h : q) (f : Hid q → p := by intro h0; (iterate 5 (refine a_1 ?_)); exact h0.h) : p := f ⟨h⟩
theorem a_6 {p q : Prop} (h : q) (f : Hid q → p := by intro h0; (iterate 6 (refine a_1 ?_)); exact h0.h) : p := f ⟨h⟩
theorem a_7 {p q : Prop} (h : q) (f : Hid q → p := by intro h0; (iterate 7 (refine a_1 ?_)); exact h0.h) : p := f ⟨h⟩
theorem a_8 {p q : Prop} (h : q) (f : Hid q → p := by intro h0; (iterate 8 (refine a_1 ?_)); exact h0.h) : p := f ⟨h⟩
theorem a_z {p q : Prop} (h : q) (f : Hid q → p := by intro h0; (repeat (refine a_1 ?_)); exact aj_ h0.h) : p := f ⟨h⟩
theorem c_s {A : Prop} (c : A) {p q : Prop} (h : q) (f : A → Hid q → p := by intro c0 h0; (repeat (refine a_1 ?_)); first | exact aG_ (.call rfl rfl rfl c0) rfl rfl h0.h | exact AR.op0n (.call rfl rfl rfl c0) rfl h0.h) : p := f c ⟨h⟩
section
variable {P : Program} {ops : Array Oper} {nx n : Nat} {fr : Fr} {hp : Hp}
theorem r_z {ρ : Option Nat} {Q : Exit → AState → Prop} {id : Nat} {y : Code} (m : Nat) {q : Prop} (h : q) (f : Hid q → AR P ops nx n 0 ops.toList fr hp fun _ f h => thenA (AWp ρ P y Q) Q .normal ⟨f, h, nx + m, n⟩ := by intro h0; (repeat (refine a_1 ?_)); exact aj_ h0.h) (hsz : ops.size = m := by exact rfl) : AWp ρ P (.seq (.region id ops false) y) Q ⟨fr, hp, nx, n⟩ := s_r m (f ⟨h⟩) hsz
theorem r_c {A : Prop} (m : Nat) (c : A) {ρ : Option Nat} {Q : Exit → AState → Prop} {id : Nat} {y : Code} {q : Prop} (h : q) (f : A → Hid q → AR P ops nx n 0 ops.toList fr hp fun _ f h => thenA (AWp ρ P y Q) Q .normal ⟨f, h, nx + m, n⟩ := by intro c0 h0; (repeat (refine a_1 ?_)); first | exact aG_ (.call rfl rfl rfl c0) rfl rfl h0.h | exact AR.op0n (.call rfl rfl rfl c0) rfl h0.h) (hsz : ops.size = m := by exact rfl) : AWp ρ P (.seq (.region id ops false) y) Q ⟨fr, hp, nx, n⟩ := s_r m (f c ⟨h⟩) hsz
end
section
variable {P : Program} {ops : Array Oper} {nx n j : Nat} {rest : List Oper} {fr : Fr} {hp : Hp} {K : Fps → Fr → Hp → Prop} {dst : Option Nat} {op : Op} {ty : Nat} {pos : String} {after : Array Edge} {g t d : Nat} {want b : Bool}
theorem g_u (ht : (ops[g]?).bind (·.dst) = some t) (hx : evF (look fr) (.tmp t) = some (.v undef)) (hnd : a5_ op = true) (hd : Nat.blt d n = true) (h : AR P ops nx n (j + 1) rest ((d, .v undef) :: fr) hp fun fps f h => K (([], []) :: fps) f h) : AR P ops nx n j (⟨some d, op, ty, pos, after, some (g, want)⟩ :: rest) fr hp K :=
 qy_ ht hx nofun hnd hd h
end
theorem w_1 {p q : Prop} (h : q) (f : Hid q → p := by
 intro h0
 first
 | (apply k_lss; first | exact o_0 (.bin rfl rfl (vT bZ_ (decide_eq_true (by omega)))) h0.h | exact o_0 (.bin rfl rfl (vF bZ_ (decide_eq_false (by omega)))) h0.h)
 | (apply k_gtr; first | exact o_0 (.bin rfl rfl (vT ei_ (decide_eq_true (by omega)))) h0.h | exact o_0 (.bin rfl rfl (vF ei_ (decide_eq_false (by omega)))) h0.h)
 | (apply k_leq; first | exact o_0 (.bin rfl rfl (vT dl_ (decide_eq_true (by omega)))) h0.h | exact o_0 (.bin rfl rfl (vF dl_ (decide_eq_false (by omega)))) h0.h)
 | (apply k_geq; first | exact o_0 (.bin rfl rfl (vT j4_ (decide_eq_true (by omega)))) h0.h | exact o_0 (.bin rfl rfl (vF j4_ (decide_eq_false (by omega)))) h0.h)
 | (apply k_eql; first | exact o_0 (.bin rfl rfl (vT a2_ (decide_eq_true (by omega)))) h0.h | exact o_0 (.bin rfl rfl (vF a2_ (decide_eq_false (by omega)))) h0.h)) : p := f ⟨h⟩
theorem m_1 {p q : Prop} (h : q) (f : Hid q → p := by
 intro h0
 first
 | (apply k_bin; exact w_1 h0.h)
 | exact g_n rfl rfl rfl rfl rfl h0.h
 | exact g_nn rfl rfl rfl rfl h0.h
 | exact g_u rfl rfl rfl rfl h0.h
 | (refine g_y rfl rfl ?_; first | (apply k_bin; exact w_1 h0.h) | exact a_1 h0.h)
 | exact a_1 h0.h) : p := f ⟨h⟩
theorem d_2 {p q : Prop} (h : q) (f : Hid q → p := by intro h0; (iterate 2 (refine m_1 ?_)); exact h0.h) : p := f ⟨h⟩
theorem d_3 {p q : Prop} (h : q) (f : Hid q → p := by intro h0; (iterate 3 (refine m_1 ?_)); exact h0.h) : p := f ⟨h⟩
theorem d_4 {p q : Prop} (h : q) (f : Hid q → p := by intro h0; (iterate 4 (refine m_1 ?_)); exact h0.h) : p := f ⟨h⟩
theorem d_5 {p q : Prop} (h : q) (f : Hid q → p := by intro h0; (iterate 5 (refine m_1 ?_)); exact h0.h) : p := f ⟨h⟩
theorem d_6 {p q : Prop} (h : q) (f : Hid q → p := by intro h0; (iterate 6 (refine m_1 ?_)); exact h0.h) : p := f ⟨h⟩
theorem d_7 {p q : Prop} (h : q) (f : Hid q → p := by intro h0; (iterate 7 (refine m_1 ?_)); exact h0.h) : p := f ⟨h⟩
theorem d_8 {p q : Prop} (h : q) (f : Hid q → p := by intro h0; (iterate 8 (refine m_1 ?_)); exact h0.h) : p := f ⟨h⟩
theorem d_z {p q : Prop} (h : q) (f : Hid q → p := by intro h0; (repeat (refine m_1 ?_)); exact aj_ h0.h) : p := f ⟨h⟩
section
variable {P : Program} {ops : Array Oper} {nx n : Nat} {fr : Fr} {hp : Hp}
theorem q_z {ρ : Option Nat} {Q : Exit → AState → Prop} {id : Nat} {y : Code} (m : Nat) {q : Prop} (h : q) (f : Hid q → AR P ops nx n 0 ops.toList fr hp fun _ f h => thenA (AWp ρ P y Q) Q .normal ⟨f, h, nx + m, n⟩ := by intro h0; (repeat (refine m_1 ?_)); exact aj_ h0.h) (hsz : ops.size = m := by exact rfl) : AWp ρ P (.seq (.region id ops false) y) Q ⟨fr, hp, nx, n⟩ := s_r m (f ⟨h⟩) hsz
end
theorem d_t {p : Prop} (h : p := by first | rfl | assumption | exact decide_eq_true (by omega) | (simp; done) | (simp; omega)) : p := h
theorem d_f {p : Prop} (h : p := by first | rfl | assumption | exact decide_eq_false (by omega) | (simp; done) | (simp; omega)) : p := h
theorem d_n {p : Prop} (h : p := by first | exact nle rfl | (simp; done) | (simp; omega)) : p := h
theorem d_o {p : Prop} (h : p := by first | rfl | assumption | (simp; done) | (simp; omega) | omega) : p := h
theorem cT {ρ : Option Nat} {P : Program} {Q : Exit → AState → Prop} {st : AState} {c : Operand} {x y : Code} (h1 : AWp ρ P x Q st) (hc : st.ev c = some (.v (.bool true)) := by exact rfl) : AWp ρ P (.cond c x y) Q st := af_ hc (fun _ => h1) (fun e => by cases e)
theorem cF {ρ : Option Nat} {P : Program} {Q : Exit → AState → Prop} {st : AState} {c : Operand} {x y : Code} (h1 : AWp ρ P y Q st) (hc : st.ev c = some (.v (.bool false)) := by exact rfl) : AWp ρ P (.cond c x y) Q st := af_ hc (fun e => by cases e) (fun _ => h1)
theorem au_d {p : Prop} (h : p := by first | exact au_c | (refine Cv.loE hs ?_ (ad_ _); assumption) | (refine Cv.boxp hs rfl (cd_ rfl) rfl ?_; assumption)) : p := h
theorem au_g {p : Prop} (h : p := by (first | exact au_e | (refine bl_ hs ?_; first | assumption | exact aW_ _ | exact cz_ _ | exact b3_ _ | exact bw_ _) | (refine az_ hs ?_ ?_; assumption; first | assumption | exact aQ_ _ | exact aW_ _ | exact cz_ _ | exact b3_ _ | exact bw_ _) | exact aF_ (CvL.clo hs (by first | assumption | exact aY_ _ | exact cO_ _)) | (refine aF_ ?_; repeat' (first | exact ap_ | refine ai_ ?_ ?_))) <;> exact au_d) : p := h
theorem au_i {p : Prop} (h : p := by repeat' (first | exact aX_ | refine aL_ rfl ?_ ?_ | exact au_d)) : p := h
theorem au_j {p : Prop} (h : p := by repeat' (first | exact as_ | refine an_ rfl rfl rfl rfl ?_ ?_ | exact au_g)) : p := h
theorem s_f {fr fr' : Fr} {hp hp' : Hp} {nx nx' n : Nat} (l : List (Nat × Nat)) (hS : ShrL (rnm fr l nx') (lookB hp) hp' := by exact au_r)
    (hF : Shr (rnm fr l nx') (lookB hp) (lookB hp') → CvF (rnm fr l nx') (lookB hp) (lookB hp') fr fr' := by exact fun hs => au_i)
    (hH : Shr (rnm fr l nx') (lookB hp) (lookB hp') → CvH (rnm fr l nx') (lookB hp) (lookB hp') hp' := by exact fun hs => au_j)
    (hk : Nat.blt 0 nx' = true := by exact rfl) (h0 : (rnm fr l nx').s 0 = 0 := by exact rfl) (hinj : injL (rnm fr l nx') (hp'.map (·.1)) = true := by exact rfl) : SEnt ⟨fr, hp, nx, n⟩ ⟨fr', hp', nx', n⟩ :=
 ax_ l hk h0 hinj hS hF hH
theorem s_t {fr fr' : Fr} {hp hp' : Hp} {nx nx' n : Nat} (l : List (Nat × Nat)) (hS : ShrL (rnm fr l nx') (lookB hp) hp' := by exact au_r)
    (hF : Shr (rnm fr l nx') (lookB hp) (lookB hp') → CvF (rnm fr l nx') (lookB hp) (lookB hp') fr fr' := by exact fun hs => au_i)
    (hH : Shr (rnm fr l nx') (lookB hp) (lookB hp') → CvH (rnm fr l nx') (lookB hp) (lookB hp') hp' := by exact fun hs => au_j)
    (hk : Nat.blt 0 nx' = true := by exact rfl) (h0 : (rnm fr l nx').s 0 = 0 := by exact rfl) (hinj : injL (rnm fr l nx') (hp'.map (·.1)) = true := by exact rfl) : SEntT ⟨fr, hp, nx, n⟩ ⟨fr', hp', nx', n⟩ :=
 SEntT.to l hk h0 hinj hS hF hH
theorem f_n {P : Program} {f : Nat} {fn : Func} {c : Code} {args : List AV} {r : AV} {rs : List ResultVar} {m : Nat} {fr : Fr} (hf : P.funcs[f]? = some fn) (hcl : ∀ a ∈ args, Closed a) (h : AWp none P c (Fin P rs r) ⟨fr, [], 1, m⟩) (hb : fn.body = some c := by exact rfl) (hrs : fn.results.toList = rs := by exact rfl) (hm : fn.ntmps = m := by exact rfl) (hn : Nat.ble args.length m = true := by exact rfl) (hfr : argFr 0 args = fr := by exact rfl) (hname : (fn.name == "runtime.NumGoroutine") = false := by kernel_rfl) : FSpec P f args r := mk_ hf hb hname hrs hm hn hcl hfr h
section
variable {P : Program} {ops : Array Oper} {nx n j : Nat} {rest : List Oper} {fr : Fr} {hp : Hp} {K : Fps → Fr → Hp → Prop} {d : Nat} {op : Op} {ty : Nat} {pos : String} {after : Array Edge} {a : AV} {rd : List Nat} {g t : Nat} {b want : Bool} {x : Value}
theorem n_k {q s : Prop} (h : s) (h0 : q := by kernel_rfl) : q ∧ s := ⟨h0, h⟩
def gv (ops : Array Oper) (g : Nat) (fr : Fr) : Option Bool := ((ops[g]?).bind (·.dst)).bind fun t => (evF (look fr) (.tmp t)).bind fun a => match a with | .v (.bool b) => some b | _ => none
theorem gv_of (h : gv ops g fr = some b) : ∃ t, (ops[g]?).bind (·.dst) = some t ∧ evF (look fr) (.tmp t) = some (.v (.bool b)) := by
 unfold gv at h
 obtain ⟨t, h1, h2⟩ := Option.bind_eq_some_iff.1 h
 obtain ⟨a, h3, h4⟩ := Option.bind_eq_some_iff.1 h2
 refine ⟨t, h1, h3.trans ?_⟩
 split at h4
 ·cases h4; rfl
 ·cases h4
theorem n_g (hx : gv ops g fr = some b) (hb : b = !want) (h : AR P ops nx n (j + 1) rest ((d, .v undef) :: fr) hp fun fps f h => K (([], []) :: fps) f h) (hnd : a5_ op = true := by exact rfl) (hd : Nat.blt d n = true := by exact rfl) : AR P ops nx n j (⟨some d, op, ty, pos, after, some (g, want)⟩ :: rest) fr hp K := by
 obtain ⟨t, ht, hx⟩ := gv_of hx
 exact qy_ ht hx (gn hb) hnd hd h
theorem y_g (hx : gv ops g fr = some b) (hb : b = want) (hs : AEval P (nx + j) (evF (look fr)) (lookB hp) op ⟨a, []⟩ rd) (h : AR P ops nx n (j + 1) rest ((d, a) :: fr) hp fun fps f h => K (([], rd) :: fps) f h) (hnd : a5_ op = true := by exact rfl) (hd : Nat.blt d n = true := by exact rfl) : AR P ops nx n j (⟨some d, op, ty, pos, after, some (g, want)⟩ :: rest) fr hp K := by
 obtain ⟨t, ht, hx⟩ := gv_of hx
 exact bI_ ht hx (gy hb) hs hnd hd h
theorem i_x {T E : Nat} {sz : Nat} {xx ix : Operand} {es : List (List AV)} {cs : List AV} {kd : IntKind} {z : Int} [TE P T (E, sz)] (hg : es[z.toNat]? = some cs) (h : AR P ops nx n (j + 1) rest ((d, .aptr es z.toNat 0) :: fr) hp fun fps f h => K (([], []) :: fps) f h) (h1 : evF (look fr) xx = some (.arr es) := by exact rfl) (h2 : evF (look fr) ix = some (.v (.int kd z)) := by exact rfl) (h3 : 0 ≤ z := by omega) (h4 : cs.length = sz := by exact rfl) (hd : Nat.blt d n = true := by exact rfl) : AR P ops nx n j (⟨some d, .indexAddr T xx ix, ty, pos, after, none⟩ :: rest) fr hp K := aG_ (.index_a h1 h2 h3 hg h4 TE.h) rfl hd h
theorem l_x {T i o k : Nat} {xx : Operand} {es : List (List AV)} {cs : List AV} [TG P T true] [TS P T k] (hg : es[i]? = some cs) (h : AR P ops nx n (j + 1) rest ((d, .agg ((cs.drop o).take k)) :: fr) hp fun fps f h => K (([], []) :: fps) f h) (h1 : evF (look fr) xx = some (.aptr es i o) := by exact rfl) (h2 : Nat.ble (o + k) cs.length = true := by exact rfl) (hd : Nat.blt d n = true := by exact rfl) : AR P ops nx n j (⟨some d, .load T xx, ty, pos, after, none⟩ :: rest) fr hp K := aG_ (.load_a h1 hg TG.h TS.h (Nat.le_of_ble_eq_true h2)) rfl hd h
theorem l_1 {T i o : Nat} {xx : Operand} {es : List (List AV)} {cs : List AV} {c : AV} [TG P T false] (hg : es[i]? = some cs) (h : AR P ops nx n (j + 1) rest ((d, c) :: fr) hp fun fps f h => K (([], []) :: fps) f h) (h1 : evF (look fr) xx = some (.aptr es i o) := by exact rfl) (h2 : cs[o]? = some c := by exact rfl) (hd : Nat.blt d n = true := by exact rfl) : AR P ops nx n j (⟨some d, .load T xx, ty, pos, after, none⟩ :: rest) fr hp K := aG_ (.load_a1 h1 hg TG.h h2) rfl hd h
theorem r_m {ρ : Option Nat} {Q : Exit → AState → Prop} {id : Nat} (m : Nat) (h : AR P ops nx n 0 ops.toList fr hp fun _ f h => Q .normal ⟨f, h, nx + m, n⟩) (hsz : ops.size = m := by exact rfl) : AWp ρ P (.region id ops false) Q ⟨fr, hp, nx, n⟩ := qx_ hsz h
theorem r_d {ρ : Option Nat} {Q : Exit → AState → Prop} {id : Nat} (hm : P.follows .mixedOrders = true) (m : Nat) (h : AR P ops nx n 0 ops.toList fr hp fun fps f h => okReg ops fps = true ∧ Q .normal ⟨f, h, nx + m, n⟩) (hsz : ops.size = m := by exact rfl) : AWp ρ P (.region id ops true) Q ⟨fr, hp, nx, n⟩ := AWp.regD hm hsz h
theorem c_e {T i e o k : Nat} {B : ABlk} {cs : List AV} {r : AV} [TG P T true] [TS P T k] (hc : Closed r) (h : look fr t = some (.lptr i e o) := by exact rfl) (hb : cellF (lookB hp) i = some B := by exact rfl) (he : B.es[e]? = some cs := by exact rfl) (hl : Nat.ble (o + k) cs.length = true := by exact rfl) (h2 : AV.agg ((cs.drop o).take k) = r := by exact rfl) : Fin P [.cell t T] r .ret ⟨fr, hp, nx, n⟩ := bH_ h hb he TG.h TS.h (Nat.le_of_ble_eq_true hl) h2 hc
theorem t_e {r0 r : AV} (hc : Closed r) (h : look fr t = some r0 := by exact rfl) (e : r0 = r := by exact rfl) : Fin P [.tmp t] r .ret ⟨fr, hp, nx, n⟩ := aD_ h e hc
end
def digs (b n : Nat) : List Nat :=
 if _h : b ≤ 1 ∨ n = 0 then [] else n % b :: digs b (n / b)
termination_by n
decreasing_by exact Nat.div_lt_self (by omega) (by omega)
def ofD (b : Nat) : List Nat → Nat
 | [] => 0
 | d :: l => d + b * ofD b l
theorem a8_ (b : Nat) : digs b 0 = [] := by rw [digs]; simp
theorem ch_ {b n : Nat} (hb : 1 < b) (hn : 0 < n) : digs b n = n % b :: digs b (n / b) := by rw [digs, dif_neg (by omega)]
theorem aS_ {b : Nat} (hb : 1 < b) (n : Nat) : ofD b (digs b n) = n := by
 induction n using Nat.strongRecOn with
 | _ n ih =>
  rcases Nat.eq_zero_or_pos n with rfl | hn
  ·rw [a8_]; rfl
  ·rw [ch_ hb hn, ofD, ih _ (Nat.div_lt_self hn hb)]
   exact Nat.mod_add_div n b
theorem bK_ {b : Nat} (hb : 1 < b) (n : Nat) : ∀ d ∈ digs b n, d < b := by
 induction n using Nat.strongRecOn with
 | _ n ih =>
  rcases Nat.eq_zero_or_pos n with rfl | hn
  ·rw [a8_]; simp
  ·rw [ch_ hb hn]
   intro d hd
   rcases List.mem_cons.1 hd with rfl | hd
   ·exact Nat.mod_lt _ (by omega)
   ·exact ih _ (Nat.div_lt_self hn hb) d hd
def IsD (b : Nat) (l : List Nat) : Prop := (∀ d ∈ l, d < b) ∧ l.getLast? ≠ some 0
theorem h0_ {b : Nat} (hb : 1 < b) (n : Nat) : (digs b n).getLast? ≠ some 0 := by
 induction n using Nat.strongRecOn with
 | _ n ih =>
  rcases Nat.eq_zero_or_pos n with rfl | hn
  ·rw [a8_]; simp
  ·rw [ch_ hb hn]
   have h1 := ih _ (Nat.div_lt_self hn hb)
   rw [List.getLast?_cons]
   intro h
   by_cases h0 : digs b (n / b) = []
   ·rw [h0] at h
    simp only [List.getLast?_nil, Option.getD_none, Option.some.injEq] at h
    have hz : n / b = 0 := by
     have := aS_ hb (n / b)
     rw [h0] at this; exact this.symm
    have := Nat.mod_add_div n b
    rw [h, hz] at this
    omega
   ·cases hl : (digs b (n / b)).getLast? with
    | none => exact h0 (List.getLast?_eq_none_iff.1 hl)
    | some x =>
     rw [hl] at h
     simp only [Option.getD_some, Option.some.injEq] at h
     subst h; exact h1 hl
theorem ofD_pos {b : Nat} {l : List Nat} (h : IsD b l) (hl : l ≠ []) : 0 < ofD b l := by
 induction l with
 | nil => exact absurd rfl hl
 | cons d l ih =>
  rw [ofD]
  by_cases h0 : l = []
  ·subst h0
   have h2 := h.2
   simp at h2
   omega
  ·have hb : 0 < b := by have := h.1 d (List.mem_cons_self ..); omega
   have : 0 < ofD b l := ih ⟨fun x hx => h.1 x (List.mem_cons_of_mem _ hx), by
    have h2 := h.2; rw [List.getLast?_cons] at h2
    intro e; rw [e] at h2; exact h2 rfl⟩ h0
   have := Nat.mul_pos hb this
   omega
theorem jU_ {b : Nat} (hb : 1 < b) : ∀ {l : List Nat}, IsD b l → digs b (ofD b l) = l
 | [], _ => a8_ b
 | d :: l, h => by
  have hp := ofD_pos h (by simp)
  have hd := h.1 d (List.mem_cons_self ..)
  have hl : IsD b l := ⟨fun x hx => h.1 x (List.mem_cons_of_mem _ hx), by
   have h2 := h.2; rw [List.getLast?_cons] at h2
   intro e; rw [e] at h2; exact h2 rfl⟩
  rw [ch_ hb hp]
  have e1 : ofD b (d :: l) % b = d := by rw [ofD, Nat.add_mul_mod_self_left]; exact Nat.mod_eq_of_lt hd
  have e2 : ofD b (d :: l) / b = ofD b l := by rw [ofD, Nat.add_mul_div_left _ _ (by omega), Nat.div_eq_of_lt hd]; omega
  rw [e1, e2, jU_ hb hl]
theorem cW_ (b : Nat) (l m : List Nat) : ofD b (l ++ m) = ofD b l + b ^ l.length * ofD b m := by
 induction l with
 | nil => simp [ofD]
 | cons d l ih => simp only [List.cons_append, ofD, ih, List.length_cons, Nat.pow_succ, Nat.mul_add]; rw [← Nat.add_assoc, Nat.mul_comm (b ^ l.length) b, Nat.mul_assoc]
theorem c6_ {b : Nat} {l : List Nat} (h : ∀ d ∈ l, d < b) : ofD b l < b ^ l.length := by
 induction l with
 | nil => simp [ofD]
 | cons d l ih =>
  have h1 := ih fun x hx => h x (List.mem_cons_of_mem _ hx)
  have h2 := h d (List.mem_cons_self ..)
  rw [ofD, List.length_cons, Nat.pow_succ, Nat.mul_comm (b ^ l.length) b]
  have : b * (ofD b l + 1) ≤ b * b ^ l.length := Nat.mul_le_mul_left _ h1
  rw [Nat.mul_add] at this
  omega
theorem hn_ (b k : Nat) : ofD b (List.replicate k 0) = 0 := by
 induction k with
 | zero => rfl
 | succ k ih => rw [List.replicate_succ, ofD, ih]; simp
theorem bL_ (b k : Nat) (l : List Nat) (h : k ≤ l.length) : ofD b l = ofD b (l.take k) + b ^ k * ofD b (l.drop k) := by
 conv => lhs; rw [← List.take_append_drop k l]
 rw [cW_, List.length_take, Nat.min_eq_left h]
def trimD : List Nat → List Nat
 | [] => []
 | d :: l => match trimD l with
  | [] => if d = 0 then [] else [d]
  | e :: m => d :: e :: m
theorem kl_ (b : Nat) : ∀ l, ofD b (trimD l) = ofD b l
 | [] => rfl
 | d :: l => by
  have ih := kl_ b l
  unfold trimD
  split
  ·rename_i h
   rw [h] at ih
   split
   ·rename_i h0; subst h0; show 0 = 0 + b * ofD b l; rw [← ih]; simp [ofD]
   ·show d + b * ofD b [] = d + b * ofD b l; rw [← ih]
  ·rename_i e m h
   rw [h] at ih
   show d + b * ofD b (e :: m) = d + b * ofD b l
   rw [ih]
theorem ih_ : ∀ l, (trimD l).getLast? ≠ some 0
 | [] => by simp [trimD]
 | d :: l => by
  have ih := ih_ l
  unfold trimD
  split
  ·split
   ·simp
   ·simpa using ‹¬d = 0›
  ·rename_i e m h
   rw [h] at ih
   rw [List.getLast?_cons]
   cases hl : (e :: m).getLast? with
   | none => simp at hl
   | some x => rw [hl] at ih; simpa using ih
theorem kk_ : ∀ l, ∀ d ∈ trimD l, d ∈ l
 | [], d, h => by simp [trimD] at h
 | a :: l, d, h => by
  have ih := kk_ l
  unfold trimD at h
  split at h
  ·split at h
   ·simp at h
   ·simp at h; subst h; exact List.mem_cons_self ..
  ·rename_i e m he
   rw [he] at ih
   rcases List.mem_cons.1 h with rfl | h
   ·exact List.mem_cons_self ..
   ·exact List.mem_cons_of_mem _ (ih d h)
theorem d8_ {b : Nat} (hb : 1 < b) {l : List Nat} (h : ∀ d ∈ l, d < b) : trimD l = digs b (ofD b l) := by
 rw [← kl_ b l]
 exact (jU_ hb ⟨fun d hd => h d (kk_ l d hd), ih_ l⟩).symm
theorem eO_ : ∀ (l : List Nat) (k : Nat), k ≤ l.length → (∀ i, k ≤ i → i < l.length → l[i]? = some 0) → (k = 0 ∨ l[k - 1]? ≠ some 0) → trimD l = l.take k
 | [], k, hk, _, _ => by simp [trimD]
 | d :: l, k, hk, hz, hl => by
  cases k with
  | zero =>
   have h1 := eO_ l 0 (Nat.zero_le _) (fun i _ hi => by have := hz (i + 1) (by omega) (by simp; omega); simpa using this) (.inl rfl)
   have h2 := hz 0 (Nat.le_refl _) (by simp)
   simp only [List.getElem?_cons_zero, Option.some.injEq] at h2
   simp [trimD, h1, h2]
  | succ k =>
   have hz' : ∀ i, k ≤ i → i < l.length → l[i]? = some 0 := fun i h1 hi => by have := hz (i + 1) (by omega) (by simp; omega); simpa using this
   simp only [Nat.add_sub_cancel] at hl
   cases k with
   | zero =>
    have h1 := eO_ l 0 (Nat.zero_le _) hz' (.inl rfl)
    simp at hl
    simp [trimD, h1, hl]
   | succ k =>
    have hlen : k + 1 ≤ l.length := by simpa using hk
    have h1 := eO_ l (k + 1) hlen hz' (.inr (hl.elim (fun h => absurd h (by omega)) fun h => by simpa using h))
    cases l with
    | nil => simp at hlen
    | cons e m =>
     simp only [List.take_succ_cons] at h1 ⊢
     rw [trimD, h1]
def bl (n : Nat) : Nat := if n = 0 then 0 else n.log2 + 1
theorem lt_bl (n : Nat) : n < 2 ^ bl n := by
 unfold bl
 split
 ·rename_i h; subst h; simp
 ·exact Nat.lt_log2_self
theorem bl_le {n k : Nat} (h : n < 2 ^ k) : bl n ≤ k := by
 unfold bl
 split
 ·omega
 ·rename_i hn; exact (Nat.log2_lt hn).2 h
theorem bl_lt {n k : Nat} (h : bl n ≤ k) : n < 2 ^ k := Nat.lt_of_lt_of_le (lt_bl n) (Nat.pow_le_pow_right (by omega) h)
theorem bG_ {m n : Nat} (h : m ≤ n) : bl m ≤ bl n := bl_le (Nat.lt_of_le_of_lt h (lt_bl n))
theorem dD_ (m n : Nat) : bl (m * n) ≤ bl m + bl n := by
 refine bl_le ?_
 rw [Nat.pow_add]
 exact Nat.mul_lt_mul'' (lt_bl m) (lt_bl n)
theorem ny_ (m n : Nat) : bl (m + n) ≤ max (bl m) (bl n) + 1 := by
 refine bl_le ?_
 have h1 : m < 2 ^ max (bl m) (bl n) := bl_lt (Nat.le_max_left _ _)
 have h2 : n < 2 ^ max (bl m) (bl n) := bl_lt (Nat.le_max_right _ _)
 rw [Nat.pow_succ]; omega
theorem qp_ : bl 0 = 0 := rfl
theorem eq_ : bl 1 = 1 := by decide
theorem bl_pos {n : Nat} (h : 0 < n) : 0 < bl n := by unfold bl; rw [if_neg (by omega)]; omega
theorem aR_ {b : Nat} (hb : 1 < b) (n : Nat) : (digs b n).length ≤ bl n := by
 induction n using Nat.strongRecOn with
 | _ n ih =>
  rcases Nat.eq_zero_or_pos n with rfl | hn
  ·rw [a8_]; simp
  ·rw [ch_ hb hn, List.length_cons]
   have h1 := ih _ (Nat.div_lt_self hn hb)
   have h2 : bl (n / b) + 1 ≤ bl n := by
    have hle : n / b ≤ n / 2 := Nat.div_le_div_left hb (by omega)
    have h3 : bl (n / 2) + 1 ≤ bl n := by
     have hlt := lt_bl n
     have hp := bl_pos hn
     have : n / 2 < 2 ^ (bl n - 1) := by
      rw [Nat.div_lt_iff_lt_mul (by omega)]; have e : 2 ^ (bl n - 1) * 2 = 2 ^ bl n := by rw [show 2 ^ bl n = 2 ^ (bl n - 1 + 1) by rw [show bl n - 1 + 1 = bl n by omega], Nat.pow_succ]
      rw [e]; exact hlt
     have := bl_le this
     omega
    have := bG_ hle
    omega
   omega
theorem b9_ {b : Nat} (hb : 1 < b) {n k : Nat} (h : n < b ^ k) : (digs b n).length ≤ k := by
 induction k generalizing n with
 | zero => have : n = 0 := by simpa using h
           subst this; rw [a8_]; simp
 | succ k ih =>
  rcases Nat.eq_zero_or_pos n with rfl | hn
  ·rw [a8_]; simp
  ·rw [ch_ hb hn, List.length_cons]
   have : n / b < b ^ k := by rw [Nat.div_lt_iff_lt_mul (by omega), ← Nat.pow_succ]; exact h
   have := ih this
   omega
theorem cC_ {b n : Nat} (hb : 1 < b) : digs b n = [] ↔ n = 0 := by
 constructor
 ·intro h; have := aS_ hb n; rw [h] at this; exact this.symm
 ·rintro rfl; exact a8_ b
abbrev MB : Nat := 1000000000
def u32 (d : Nat) : AV := .v (.int .u32 d)
def i64 (z : Int) : AV := .v (.int .i64 z)
def u64 (z : Int) : AV := .v (.int .u64 z)
def bln (b : Bool) : AV := .v (.bool b)
def dE (l : List Nat) : List (List AV) := l.map fun d => [u32 d]
def mag (n : Nat) : AV := .arr (dE (digs MB n))
@[simp] theorem fW_ (l : List Nat) : (dE l).length = l.length := by simp [dE]
theorem bY_ {l : List Nat} {i d : Nat} (h : l[i]? = some d) : (dE l)[i]? = some [u32 d] := by simp [dE, h]
theorem qa_ (l : List Nat) (k : Nat) : (dE l).take k = dE (l.take k) := by simp [dE]
theorem eF_ (l m : List Nat) : dE (l ++ m) = dE l ++ dE m := by simp [dE]
theorem dN_ (l : List Nat) (i d : Nat) : (dE l).set i [u32 d] = dE (l.set i d) := by simp [dE, List.map_set]
theorem c9_ (k : Nat) : List.replicate k [u32 0] = dE (List.replicate k 0) := by simp [dE]
theorem cS_ (l : List Nat) : (dE l).all (·.all AV.one) = true := by simp [dE, u32, AV.one]; intros; rfl
theorem md_ (l : List Nat) : ∀ e ∈ dE l, e.length = 1 := by intro e he; simp [dE] at he; obtain ⟨d, _, rfl⟩ := he; rfl
theorem aQ_ (l : List Nat) : ∀ e ∈ dE l, ∀ c ∈ e, Closed c := by
 intro e he c hc
 simp [dE] at he
 obtain ⟨d, _, rfl⟩ := he
 simp at hc; subst hc
 exact ad_ _
theorem bh_ (l : List Nat) : Closed (.arr (dE l)) := aw_ (aQ_ l)
theorem aE_ (n : Nat) : Closed (mag n) := bh_ _
theorem ab_ : ∀ a ∈ ([] : List AV), Closed a := fun _ h => by cases h
theorem aa_ {a : AV} {l : List AV} (h : Closed a) (h' : ∀ a ∈ l, Closed a) : ∀ b ∈ a :: l, Closed b := by
 intro b hb
 rcases List.mem_cons.1 hb with rfl | hb
 ·exact h
 ·exact h' b hb
theorem AEval.lenD {P : Program} {id : Nat} {ev : Operand → Option AV} {hp : Nat → Option ABlk} {c : Call} {x : Operand} {T : Nat} {d : Nat × Nat} {l : List Nat} (hc : c.callee = .builtin .len) (ha : c.args = #[x]) (ht : c.argTypes = #[T]) (hx : ev x = some (.arr (dE l))) (he : elOf P T = some d) :
    AEval P id ev hp (.call c) ⟨.v (.int .i64 (l.length : Nat)), []⟩ [] := .len hc ha ht hx (by simp [lenA]) he
theorem di_ (b : Nat) (s : List Nat) (v : Nat) : ofD b (s ++ [v]) = ofD b s + b ^ s.length * v := by rw [cW_]; simp [ofD]
theorem bS_ {α : Type} {l : List α} {k : Nat} {x : α} (h : l[k]? = some x) : l.take (k + 1) = l.take k ++ [x] := by
 rw [List.take_add_one, h]; rfl
theorem bg_ (b : Nat) {l : List Nat} {k d : Nat} (h : l[k]? = some d) : ofD b (l.take (k + 1)) = ofD b (l.take k) + b ^ k * d := by
 have hk : k < l.length := (List.getElem?_eq_some_iff.1 h).1
 rw [bS_ h, di_, List.length_take, Nat.min_eq_left (by omega)]
theorem b8_ (b : Nat) (l : List Nat) (k : Nat) : ofD b (l.take (k + 1)) = ofD b (l.take k) + b ^ k * (l[k]?.getD 0) := by
 cases h : l[k]? with
 | some d => exact bg_ b h
 | none => rw [List.getElem?_eq_none_iff] at h; rw [List.take_of_length_le (by omega), List.take_of_length_le (by omega)]; simp
theorem c5_ (b : Nat) {l : List Nat} {k : Nat} (h : l.length ≤ k) : ofD b (l.take k) = ofD b l := by rw [List.take_of_length_le h]
theorem eS_ (b : Nat) {l : List Nat} {k d : Nat} (h : l[k]? = some d) : ofD b (l.drop k) = d + b * ofD b (l.drop (k + 1)) := by
 rw [List.drop_eq_getElem_cons (List.getElem?_eq_some_iff.1 h).1, ofD]
 congr 1
 exact (List.getElem?_eq_some_iff.1 h).2
theorem ho_ (b : Nat) : ∀ {l : List Nat} {j d : Nat} (v : Nat), l[j]? = some d → ofD b (l.set j v) + b ^ j * d = ofD b l + b ^ j * v
 | [], _, _, _, h => by simp at h
 | x :: l, 0, d, v, h => by simp at h; subst h; simp [ofD]; omega
 | x :: l, j + 1, d, v, h => by
  simp only [List.getElem?_cons_succ] at h
  have := ho_ b v h
  rw [List.set_cons_succ, ofD, ofD, Nat.pow_succ]
  have e := congrArg (b * ·) this
  simp only [Nat.mul_add] at e
  rw [← Nat.mul_assoc, ← Nat.mul_assoc, Nat.mul_comm b (b ^ j)] at e
  omega
theorem jx_ {l : List Nat} {j v : Nat} {p : Nat → Prop} (h : ∀ d ∈ l, p d) (hv : p v) : ∀ d ∈ l.set j v, p d := by
 intro d hd
 rcases List.mem_or_eq_of_mem_set hd with hd | hd
 ·exact h d hd
 ·subst hd; exact hv
theorem oL_ {α : Type} {cs vs : List α} (h : vs.length = cs.length) : setAt cs 0 vs = vs := by
 apply List.ext_getElem?
 intro j
 rw [ci_]
 split
 ·rename_i hj; rw [if_pos (by omega)]; rfl
 ·rename_i hj; rw [List.getElem?_eq_none (by omega), List.getElem?_eq_none (by omega)]
theorem lF_ {α : Type} {cs vs : List α} (h : vs.length ≤ cs.length) : setAt cs 0 vs = vs ++ cs.drop vs.length := by
 apply List.ext_getElem?
 intro j
 rw [ci_]
 by_cases hj : j < vs.length
 ·rw [if_pos (by omega), if_pos (by omega), List.getElem?_append_left hj]; rfl
 ·rw [if_neg (by omega), List.getElem?_append_right (by omega), List.getElem?_drop]
  congr 1; omega
theorem mw_ (s : List Nat) (m v i : Nat) (hi : i = s.length) : (s ++ List.replicate (m + 1) 0).set i v = (s ++ [v]) ++ List.replicate m 0 := by
 subst hi
 rw [List.set_append_right _ _ (Nat.le_refl _)]
 simp [List.replicate_succ]
theorem mW_ (s : List Nat) (m i : Nat) (hi : i = s.length) : (s ++ List.replicate (m + 1) 0)[i]? = some 0 := by
 subst hi; simp [List.replicate_succ]
theorem bc_ {b n i d : Nat} (hb : 1 < b) (h : (digs b n)[i]? = some d) : d < b := bK_ hb n d (List.mem_of_getElem? h)
theorem n7_ {n : Nat} (h0 : 0 < n) (h : n < MB) : digs MB n = [n] := by
 rw [ch_ (by decide) h0, Nat.div_eq_of_lt h, a8_, Nat.mod_eq_of_lt h]
theorem p7_ {b : Nat} (hb : 1 < b) (n k : Nat) : (digs b n).drop k = digs b (ofD b ((digs b n).drop k)) := by
 symm
 refine jU_ hb ⟨fun d hd => bK_ hb n d (List.mem_of_mem_drop hd), ?_⟩
 by_cases hk : k < (digs b n).length
 ·rw [List.getLast?_drop, if_neg (by omega)]; exact h0_ hb n
 ·rw [List.drop_of_length_le (by omega)]; simp
theorem hZ_ {b n : Nat} (hb : 1 < b) : b ^ ((digs b n).length - 1) ≤ n ∨ n = 0 := by
 rcases Nat.eq_zero_or_pos n with h | h
 ·exact .inr h
 ·left
  have hne : digs b n ≠ [] := fun e => by have := (cC_ hb).1 e; omega
  have hl := h0_ hb n
  obtain ⟨s, x, e⟩ : ∃ s x, digs b n = s ++ [x] := ⟨_, _, (List.dropLast_concat_getLast hne).symm⟩
  have h1 := aS_ hb n
  rw [e, di_] at h1
  rw [e] at hl
  simp at hl
  rw [e, List.length_append]
  simp
  have : b ^ s.length * 1 ≤ b ^ s.length * x := Nat.mul_le_mul_left _ (by omega)
  omega
theorem dV_ {b m n : Nat} (hb : 1 < b) (h : (digs b m).length < (digs b n).length) : m < n := by
 have h1 := c6_ (b := b) (bK_ hb m)
 rw [aS_ hb] at h1
 rcases hZ_ (n := n) hb with h2 | h2
 ·have : b ^ (digs b m).length ≤ b ^ ((digs b n).length - 1) := Nat.pow_le_pow_right (by omega) (by omega)
  omega
 ·subst h2; rw [a8_] at h; simp at h
theorem mT_ {b m n : Nat} (hb : 1 < b) (h : m ≤ n) : (digs b m).length ≤ (digs b n).length := by
 rcases Nat.lt_or_ge (digs b n).length (digs b m).length with h1 | h1
 ·have := dV_ hb h1; omega
 ·exact h1
def restD (n k : Nat) : Nat := ofD MB ((digs MB n).drop k)
def preD (n k : Nat) : List Nat := (digs MB n).take k
theorem io_ (n : Nat) : restD n 0 = n := aS_ (by decide) n
theorem dv_ (n : Nat) : preD n 0 = [] := rfl
theorem preD_end (n : Nat) : preD n (digs MB n).length = digs MB n := List.take_length
theorem fl_ {n k : Nat} (h : k ≤ (digs MB n).length) : (preD n k).length = k := by simp [preD, Nat.min_eq_left h]
theorem ip_ {n k : Nat} (h : k < (digs MB n).length) : restD n (k + 1) = restD n k / MB ∧ preD n (k + 1) = preD n k ++ [restD n k % MB] := by
 have hd : (digs MB n)[k]? = some (digs MB n)[k] := List.getElem?_eq_getElem h
 have h1 := eS_ MB hd
 have h2 : (digs MB n)[k] < MB := bc_ (by decide) hd
 constructor
 ·unfold restD; rw [h1, Nat.add_mul_div_left _ _ (by decide), Nat.div_eq_of_lt h2]; omega
 ·unfold preD restD; rw [bS_ hd, h1, Nat.add_mul_mod_self_left, Nat.mod_eq_of_lt h2]
theorem restD_le {n k : Nat} (hk : k ≤ (digs MB n).length) : restD n k ≤ n := by
 have := bL_ MB k _ hk
 rw [aS_ (by decide)] at this
 have h2 := Nat.le_mul_of_pos_left (ofD MB ((digs MB n).drop k)) (Nat.pow_pos (n := k) (show 0 < MB by decide))
 unfold restD; omega
theorem restD_eq {n k : Nat} (hk : k ≤ (digs MB n).length) : restD n k = 0 ↔ k = (digs MB n).length := by
 constructor
 ·intro e
  have := p7_ (b := MB) (by decide) n k
  rw [show ofD MB ((digs MB n).drop k) = 0 from e, a8_, List.drop_eq_nil_iff] at this
  omega
 ·intro e; unfold restD; rw [e, List.drop_length]; rfl
def cmpZ (a b : Int) : Int := if a < b then -1 else if b < a then 1 else 0
theorem fr_ {a b : Int} (h : a < b) : cmpZ a b = -1 := by simp [cmpZ, h]
theorem gl_ {a b : Int} (h : b < a) : cmpZ a b = 1 := by simp [cmpZ]; omega
theorem qd_ {a b : Int} (h : a = b) : cmpZ a b = 0 := by simp [cmpZ]; omega
theorem jY_ {a b : Int} : cmpZ a b ≠ 0 ↔ a ≠ b := by unfold cmpZ; split <;> (try split) <;> omega
theorem fH_ {b i x y : Nat} {l m : List Nat} (hl : ∀ d ∈ l, d < b) (hx : l[i]? = some x) (hy : m[i]? = some y) (hd : l.drop (i + 1) = m.drop (i + 1)) (hlt : x < y) : ofD b l < ofD b m := by
 have hi : i < l.length := (List.getElem?_eq_some_iff.1 hx).1
 have hj : i < m.length := (List.getElem?_eq_some_iff.1 hy).1
 rw [bL_ b i l (by omega), bL_ b i m (by omega), eS_ b hx, eS_ b hy, hd]
 have h1 : ofD b (l.take i) < b ^ i := by
  have := c6_ (b := b) (l := l.take i) fun d hd => hl d (List.mem_of_mem_take hd)
  rwa [List.length_take, Nat.min_eq_left (by omega)] at this
 have h2 : b ^ i * (x + b * ofD b (m.drop (i + 1)) + 1) ≤ b ^ i * (y + b * ofD b (m.drop (i + 1))) := Nat.mul_le_mul_left _ (by omega)
 rw [Nat.mul_add _ _ 1] at h2
 omega
theorem hF_ (s t : List Nat) (x : Nat) (i : Nat) (hi : i = s.length) : (s ++ x :: t)[i]? = some x := by subst hi; simp
theorem ha_ (s t : List Nat) (x v : Nat) (i : Nat) (hi : i = s.length) : (s ++ x :: t).set i v = (s ++ [v]) ++ t := by
 subst hi; rw [List.set_append_right _ _ (Nat.le_refl _)]; simp
theorem cN_ {l : List Nat} {i x : Nat} (h : l[i]? = some x) : l.drop i = x :: l.drop (i + 1) := by
 rw [List.drop_eq_getElem_cons (List.getElem?_eq_some_iff.1 h).1, (List.getElem?_eq_some_iff.1 h).2]
def padD (b : Nat) : Nat → Nat → List Nat
 | 0, _ => []
 | n + 1, m => m % b :: padD b n (m / b)
@[simp] theorem d9_ (b : Nat) : ∀ n m, (padD b n m).length = n
 | 0, _ => rfl
 | n + 1, m => by simp [padD, d9_ b n]
theorem jr_ {b : Nat} (hb : 0 < b) : ∀ n m, ∀ d ∈ padD b n m, d < b
 | 0, _, d, h => by cases h
 | n + 1, m, d, h => by
  rcases List.mem_cons.1 h with rfl | h
  ·exact Nat.mod_lt _ hb
  ·exact jr_ hb n _ d h
theorem gN_ {b : Nat} (hb : 0 < b) : ∀ {n m : Nat}, m < b ^ n → ofD b (padD b n m) = m
 | 0, m, h => by simp at h; subst h; rfl
 | n + 1, m, h => by
  rw [padD, ofD, gN_ hb (by rw [Nat.div_lt_iff_lt_mul hb, ← Nat.pow_succ]; exact h)]
  exact Nat.mod_add_div m b
theorem mI_ {b : Nat} : ∀ {l : List Nat}, (∀ d ∈ l, d < b) → padD b l.length (ofD b l) = l
 | [], _ => rfl
 | d :: l, h => by
  have hd := h d (List.mem_cons_self ..)
  have h1 : ofD b (d :: l) % b = d := by rw [ofD, Nat.add_mul_mod_self_left]; exact Nat.mod_eq_of_lt hd
  have h2 : ofD b (d :: l) / b = ofD b l := by rw [ofD, Nat.add_mul_div_left _ _ (by omega), Nat.div_eq_of_lt hd]; omega
  rw [List.length_cons, padD, h1, h2, mI_ fun x hx => h x (List.mem_cons_of_mem _ hx)]
theorem l5_ {b n m : Nat} {l : List Nat} (h : ∀ d ∈ l, d < b) (hl : l.length = n) (hv : ofD b l = m) : l = padD b n m := by
 subst hl hv; exact (mI_ h).symm
theorem oM_ {v : Nat} (h1 : 1 ≤ v) (h2 : v < 1000000000) : 500000000 ≤ v * (1000000000 / (v + 1)) ∧ (v + 1) * (1000000000 / (v + 1)) ≤ 1000000000 ∧ 1 ≤ 1000000000 / (v + 1) := by
 have hq1 : (v + 1) * (1000000000 / (v + 1)) ≤ 1000000000 := Nat.mul_div_le _ _
 have hq2 : 1000000000 < (v + 1) * (1000000000 / (v + 1)) + (v + 1) := Nat.lt_mul_div_succ _ (by omega)
 have hq3 : 1 ≤ 1000000000 / (v + 1) := by rw [Nat.le_div_iff_mul_le (by omega)]; omega
 refine ⟨?_, hq1, hq3⟩
 obtain ⟨q, hq⟩ : ∃ q, q = 1000000000 / (v + 1) := ⟨_, rfl⟩
 rw [← hq] at hq1 hq2 hq3 ⊢
 rw [Nat.add_mul, Nat.one_mul] at hq1 hq2
 by_cases c1 : 500000000 ≤ v
 ·have := Nat.mul_le_mul_left v hq3; omega
 by_cases c2 : 250000000 ≤ v
 ·have : 2 ≤ q := by
   rw [hq, Nat.le_div_iff_mul_le (by omega)]; omega
  have := Nat.mul_le_mul_left v this; omega
 by_cases c3 : 166666666 ≤ v
 ·have : 4 ≤ q := by
   rw [hq, Nat.le_div_iff_mul_le (by omega)]; omega
  have := Nat.mul_le_mul_left v this; omega
 by_cases c4 : v = 1
 ·subst c4; omega
 ·have : q ≤ 333333333 := by
   rw [hq]
   have : 1000000000 / (v + 1) ≤ 1000000000 / 3 := Nat.div_le_div_left (by omega) (by omega)
   omega
  omega
theorem guess_ok {b n p w u v lo lw : Nat} (hb : 0 < b) (hp : p = lo + b ^ n * u) (hlo : lo < b ^ n) (hw : w = lw + b ^ n * v) (hlw : lw < b ^ n) (hv : b ≤ 2 * v) (hvb : v < b) (hq : p < w * b) :
    p / w ≤ min (u / v) (b - 1) ∧ min (u / v) (b - 1) ≤ p / w + 2 := by
 have hvp : 0 < v := by omega
 have hbn : 0 < b ^ n := Nat.pow_pos hb
 have hwp : 0 < w := by rw [hw]; have := Nat.mul_pos hbn hvp; omega
 have q1 : w * (p / w) ≤ p := Nat.mul_div_le _ _
 have q2 : p < w * (p / w) + w := Nat.lt_mul_div_succ _ hwp
 have q3 : p / w < b := by rw [Nat.div_lt_iff_lt_mul hwp, Nat.mul_comm]; exact hq
 obtain ⟨q, hqe⟩ : ∃ q, q = p / w := ⟨_, rfl⟩
 rw [← hqe] at q1 q2 q3 ⊢
 have g1 : v * (u / v) ≤ u := Nat.mul_div_le _ _
 obtain ⟨g, hge⟩ : ∃ g, g = u / v := ⟨_, rfl⟩
 rw [← hge] at g1
 constructor
 ·refine Nat.le_min.2 ⟨?_, by omega⟩
  rw [← hge, hge, Nat.le_div_iff_mul_le hvp]
  -- q v ≤ u, for q v b^n ≤ q w ≤ p < (u + 1) b^n
  have h1 : b ^ n * (q * v) ≤ w * q := by rw [hw, Nat.add_mul]; rw [Nat.mul_assoc, Nat.mul_comm v q]; omega
  have h2 : b ^ n * (q * v) < b ^ n * (u + 1) := by rw [Nat.mul_add]; omega
  have := Nat.lt_of_mul_lt_mul_left h2
  omega
 ·rw [← hge]
  -- if min g (b - 1) ≥ q + 3 then (q + 3) v ≤ u and so p ≥ b^n (q + 3) v, but p < w (q + 1)
  refine Nat.le_of_not_lt fun hlt => ?_
  have hg3 : q + 3 ≤ g := by have := Nat.min_le_left g (b - 1); omega
  have hb3 : q + 3 ≤ b - 1 := by have := Nat.min_le_right g (b - 1); omega
  have h1 : v * (q + 3) ≤ u := Nat.le_trans (Nat.mul_le_mul_left _ hg3) g1
  have h2 : b ^ n * (v * (q + 3)) ≤ p := by rw [hp]; have := Nat.mul_le_mul_left (b ^ n) h1; omega
  have h3 : w * (q + 1) < b ^ n * ((v + 1) * (q + 1)) + 1 := by
   have : w ≤ b ^ n * (v + 1) := by rw [hw, Nat.mul_add]; omega
   have := Nat.mul_le_mul_right (q + 1) this
   rw [Nat.mul_assoc] at this
   omega
  have h4 : p < w * (q + 1) := by rw [Nat.mul_add]; omega
  have h5 : b ^ n * (v * (q + 3)) < b ^ n * ((v + 1) * (q + 1)) := by omega
  have h6 := Nat.lt_of_mul_lt_mul_left h5
  rw [Nat.mul_add, Nat.add_mul, Nat.mul_add] at h6
  omega
structure DivI (U v n L : Nat) (R T : List Nat) (k : Nat) : Prop where
 len : R.length = L
 dig : ∀ d ∈ R, d < MB
 digT : ∀ d ∈ T, d < MB
 k_le : k + n + T.length = L
 val : U = ofD MB R + v * (MB ^ k * ofD MB T)
 top : ofD MB (R.drop k) < v
theorem DivI.start {U v n L s b : Nat} {R : List Nat} (hR : R.length = L) (hd : ∀ d ∈ R, d < MB) (hU : ofD MB R = U) (hn : n ≤ L) (hb : MB ^ (n - 1) ≤ b) (hn1 : 1 ≤ n) (hv : v = b * s) (hlt : U < MB ^ (L - 1) * s) : DivI U v n L R [] (L - n) := by
 refine ⟨hR, hd, by simp, by simp; omega, by simp [ofD, hU], ?_⟩
 have h1 := bL_ MB (L - n) R (by omega)
 rw [hU] at h1
 have h2 : MB ^ (L - n) * ofD MB (R.drop (L - n)) ≤ U := by omega
 have h3 : MB ^ (L - 1) = MB ^ (L - n) * MB ^ (n - 1) := by rw [← Nat.pow_add]; congr 1; omega
 rw [h3, Nat.mul_assoc] at hlt
 have h4 : MB ^ (L - n) * ofD MB (R.drop (L - n)) < MB ^ (L - n) * (MB ^ (n - 1) * s) := by omega
 have h5 := Nat.lt_of_mul_lt_mul_left h4
 have h6 : MB ^ (n - 1) * s ≤ b * s := Nat.mul_le_mul_right _ hb
 omega
theorem DivI.parts {U v n L k : Nat} {R T : List Nat} (h : DivI U v n L R T (k + 1)) (hv : v < MB ^ n) :
    ofD MB (R.drop (k + n + 1)) = 0 ∧ ofD MB ((R.drop k).take (n + 1)) = ofD MB (R.drop k) ∧ ofD MB (R.drop k) < v * MB ∧ ((R.drop k).take (n + 1)).length = n + 1 ∧ R = R.take k ++ (R.drop k).take (n + 1) ++ R.drop (k + n + 1) := by
 have hl := h.k_le
 have hlen := h.len
 have hk : k < R.length := by omega
 obtain ⟨x, hx⟩ : ∃ x, R[k]? = some x := ⟨_, List.getElem?_eq_getElem hk⟩
 have hx1 : x < MB := h.dig x (List.mem_of_getElem? hx)
 have e1 := eS_ MB hx
 have htop := h.top
 have e2 := bL_ MB n (R.drop (k + 1)) (by simp; omega)
 rw [List.drop_drop, show k + 1 + n = k + n + 1 by omega] at e2
 have hz : ofD MB (R.drop (k + n + 1)) = 0 := by
  rcases Nat.eq_zero_or_pos (ofD MB (R.drop (k + n + 1))) with h0 | h0
  ·exact h0
  ·have : MB ^ n * 1 ≤ MB ^ n * ofD MB (R.drop (k + n + 1)) := Nat.mul_le_mul_left _ h0
   omega
 have e3 := bL_ MB (n + 1) (R.drop k) (by simp; omega)
 rw [List.drop_drop, show k + (n + 1) = k + n + 1 by omega, hz] at e3
 refine ⟨hz, by omega, ?_, by simp; omega, ?_⟩
 ·rw [e1]
  have : MB * (ofD MB (R.drop (k + 1)) + 1) ≤ MB * v := Nat.mul_le_mul_left _ htop
  rw [Nat.mul_add] at this
  rw [Nat.mul_comm v MB]
  omega
 ·rw [List.append_assoc]
  conv => lhs; rw [← List.take_append_drop k R]
  congr 1
  conv => lhs; rw [← List.take_append_drop (n + 1) (R.drop k)]
  rw [List.drop_drop, show k + (n + 1) = k + n + 1 by omega]
theorem DivI.next {U v n L k : Nat} {R T A : List Nat} (h : DivI U v n L R T (k + 1)) (hv : v < MB ^ n) (hv0 : 0 < v) (hA : A = padD MB (n + 1) (ofD MB (R.drop k) % v)) :
    DivI U v n L (R.take k ++ A ++ R.drop (k + n + 1)) (ofD MB (R.drop k) / v :: T) k := by
 obtain ⟨p1, p2, p3, p4, p5⟩ := h.parts hv
 have hl := h.k_le
 have hlen := h.len
 have hm : ofD MB (R.drop k) % v < MB ^ (n + 1) := by
  have := Nat.mod_lt (ofD MB (R.drop k)) hv0
  have h2 : MB ^ n ≤ MB ^ (n + 1) := Nat.pow_le_pow_right (by decide) (by omega)
  omega
 have hAl : A.length = n + 1 := by rw [hA]; simp
 have hAv : ofD MB A = ofD MB (R.drop k) % v := by rw [hA]; exact gN_ (by decide) hm
 have hk : (R.take k).length = k := by simp; omega
 have hval : ofD MB (R.take k ++ A ++ R.drop (k + n + 1)) = ofD MB (R.take k) + MB ^ k * (ofD MB (R.drop k) % v) := by
  rw [cW_, cW_, p1, hk, hAv]; simp
 refine ⟨by simp [hAl]; omega, ?_, ?_, by simp; omega, ?_, ?_⟩
 ·intro d hd
  rcases List.mem_append.1 hd with hd | hd
  ·rcases List.mem_append.1 hd with hd | hd
   ·exact h.dig d (List.mem_of_mem_take hd)
   ·rw [hA] at hd; exact jr_ (by decide) _ _ d hd
  ·exact h.dig d (List.mem_of_mem_drop hd)
 ·intro d hd
  rcases List.mem_cons.1 hd with rfl | hd
  ·rw [Nat.div_lt_iff_lt_mul hv0, Nat.mul_comm]; exact p3
  ·exact h.digT d hd
 ·rw [hval, ofD, h.val, bL_ MB k R (by omega), Nat.pow_succ]
  have e := Nat.mod_add_div (ofD MB (R.drop k)) v
  have e2 : MB ^ k * (ofD MB (R.drop k) % v) + v * (MB ^ k * (ofD MB (R.drop k) / v)) = MB ^ k * ofD MB (R.drop k) := by
   rw [Nat.mul_left_comm, ← Nat.mul_add, e]
  rw [Nat.mul_add, Nat.mul_add, ← Nat.mul_assoc (MB ^ k) MB]
  omega
 ·rw [List.append_assoc, List.drop_append, hk, Nat.sub_self, List.drop_zero, List.drop_of_length_le (by omega), List.nil_append, cW_, p1, hAv]
  simp
  exact Nat.mod_lt _ hv0
theorem DivI.last {U v n L a b s : Nat} {R T : List Nat} (h : DivI U v n L R T 0) (hU : U = a * s) (hv : v = b * s) (hb : 0 < b) (hs : 0 < s) : ofD MB T = a / b ∧ ofD MB R / s = a % b := by
 have h1 := h.val
 have h2 := h.top
 rw [List.drop_zero, hv] at h2
 rw [Nat.pow_zero, Nat.one_mul, hU, hv] at h1
 have hq : ofD MB T = a / b := by
  have e1 : a / b = a * s / (b * s) := (Nat.mul_div_mul_right a b hs).symm
  rw [e1, h1, Nat.add_mul_div_left _ _ (Nat.mul_pos hb hs), Nat.div_eq_of_lt h2]; omega
 refine ⟨hq, ?_⟩
 have e2 : ofD MB R = (a % b) * s := by
  rw [hq] at h1
  have e3 : a * s = (a % b) * s + b * s * (a / b) := by
   conv => lhs; rw [← Nat.mod_add_div a b]
   rw [Nat.add_mul, Nat.mul_right_comm]
  omega
 rw [e2, Nat.mul_div_cancel _ hs]
theorem nl_ {n k : Nat} (hl : (digs MB n).length = k + 1) {d : Nat} (hd : (digs MB n)[k]? = some d) : ∃ lo, n = lo + MB ^ k * d ∧ lo < MB ^ k := by
 refine ⟨ofD MB ((digs MB n).take k), ?_, ?_⟩
 ·have h1 := bg_ MB hd
  rw [← hl, List.take_length, aS_ (by decide)] at h1
  exact h1
 ·have := c6_ (b := MB) (l := (digs MB n).take k) fun d hd => bK_ (by decide) n d (List.mem_of_mem_take hd)
  rwa [List.length_take, Nat.min_eq_left (by omega)] at this
theorem n5_ {b s vt k : Nat} (hl : (digs MB b).length = k + 1) (hvt : (digs MB b)[k]? = some vt) (h0 : 1 ≤ vt) (h1 : 500000000 ≤ vt * s) (h2 : (vt + 1) * s ≤ 1000000000) :
    (digs MB (b * s)).length = k + 1 ∧ MB ^ k ≤ b ∧ b * s < MB ^ (k + 1) ∧ ∃ v lw, (digs MB (b * s))[k]? = some v ∧ b * s = lw + MB ^ k * v ∧ lw < MB ^ k ∧ 500000000 ≤ v ∧ v < 1000000000 := by
 obtain ⟨lo, e1, e2⟩ := nl_ hl hvt
 have hp : 0 < MB ^ k := Nat.pow_pos (by decide)
 have hb1 : MB ^ k ≤ b := by
  have := Nat.mul_le_mul_left (MB ^ k) h0
  omega
 have hb2 : b < MB ^ k * (vt + 1) := by rw [Nat.mul_add]; omega
 have hs0 : 0 < s := by rcases Nat.eq_zero_or_pos s with h | h; · subst h; simp at h1
                        ·exact h
 have hv2 : b * s < MB ^ (k + 1) := by
  have h3 : b * s < MB ^ k * (vt + 1) * s := Nat.mul_lt_mul_of_pos_right hb2 hs0
  have h4 : MB ^ k * ((vt + 1) * s) ≤ MB ^ k * MB := Nat.mul_le_mul_left _ h2
  rw [← Nat.mul_assoc] at h4
  rw [Nat.pow_succ]; omega
 have hv1 : MB ^ k * 500000000 ≤ b * s := by
  have h3 : MB ^ k * vt * s ≤ b * s := Nat.mul_le_mul_right _ (by omega)
  have h4 : MB ^ k * 500000000 ≤ MB ^ k * (vt * s) := Nat.mul_le_mul_left _ h1
  rw [← Nat.mul_assoc] at h4
  omega
 have hlen : (digs MB (b * s)).length = k + 1 := by
  have u1 := b9_ (b := MB) (by decide) hv2
  have u2 : k < (digs MB (b * s)).length := by
   refine Nat.lt_of_not_le fun hle => ?_
   have := c6_ (b := MB) (bK_ (by decide) (b * s))
   rw [aS_ (by decide)] at this
   have h5 : MB ^ (digs MB (b * s)).length ≤ MB ^ k := Nat.pow_le_pow_right (by decide) hle
   omega
  omega
 obtain ⟨v, hv⟩ : ∃ v, (digs MB (b * s))[k]? = some v := ⟨_, List.getElem?_eq_getElem (by omega)⟩
 obtain ⟨lw, f1, f2⟩ := nl_ hlen hv
 refine ⟨hlen, hb1, hv2, v, lw, hv, f1, f2, ?_, bc_ (by decide) hv⟩
 have h6 : MB ^ k * 500000000 < MB ^ k * (v + 1) := by rw [Nat.mul_add]; omega
 have := Nat.lt_of_mul_lt_mul_left h6
 omega
theorem part_two {A : List Nat} {k x0 x1 : Nat} (hA : A.length = k + 2) (h0 : A[k]? = some x0) (h1 : A[k + 1]? = some x1) (hd : ∀ d ∈ A, d < MB) : ∃ lo, ofD MB A = lo + MB ^ k * (x1 * 1000000000 + x0) ∧ lo < MB ^ k := by
 refine ⟨ofD MB (A.take k), ?_, ?_⟩
 ·have e1 := bg_ MB h1
  rw [show k + 1 + 1 = A.length by omega, List.take_length] at e1
  rw [e1, bg_ MB h0, Nat.pow_succ, Nat.mul_add, Nat.mul_assoc]
  have : MB ^ k * (MB * x1) = MB ^ k * (x1 * 1000000000) := by rw [Nat.mul_comm MB x1]
  omega
 ·have := c6_ (b := MB) (l := A.take k) fun d h => hd d (List.mem_of_mem_take h)
  rwa [List.length_take, Nat.min_eq_left (by omega)] at this
def zI (z : Int) : List AV := [mag z.natAbs, bln (decide (z < 0))]
def qC (q : Rat) : List AV := [mag q.num.natAbs, bln (decide (q.num < 0)), mag (q.den - 1)]
def sgn (b : Bool) (m : Nat) : Int := if b then -(m : Int) else m
theorem qe_ (z : Int) : ∀ c ∈ zI z, Closed c := aa_ (aE_ _) (aa_ (ad_ _) ab_)
theorem aY_ (q : Rat) : ∀ c ∈ qC q, Closed c := aa_ (aE_ _) (aa_ (ad_ _) (aa_ (aE_ _) ab_))
theorem bE_ (z : Int) : Closed (.agg (zI z)) := aq_ (qe_ z)
theorem ak_ (q : Rat) : Closed (.agg (qC q)) := aq_ (aY_ q)
theorem cP_ (n : Nat) : Closed (.agg [mag n]) := aq_ (aa_ (aE_ n) ab_)
theorem cD_ (b : Bool) (m : Nat) : (sgn b m).natAbs = m := by unfold sgn; split <;> omega
theorem sgn_neg (b : Bool) (m : Nat) : decide (sgn b m < 0) = (b && !(m == 0)) := by
 unfold sgn
 rw [Bool.eq_iff_iff]
 cases b
 ·simp
 ·simp; omega
theorem gG_ (z : Int) : sgn (decide (z < 0)) z.natAbs = z := by
 unfold sgn; split
 ·rename_i h; have := of_decide_eq_true h; omega
 ·rename_i h; have := of_decide_eq_false (by simpa using h : decide (z < 0) = false); omega
def qs (q : Rat) : Nat := max (bl q.num.natAbs) (bl q.den)
theorem ew_ {n : Int} {d : Nat} (hd : 0 < d) : (mkRat n d).num = n / (Nat.gcd n.natAbs d : Int) ∧ (mkRat n d).den = d / Nat.gcd n.natAbs d := by
 unfold mkRat
 rw [dif_neg (by omega), Rat.normalize_eq]
 exact ⟨rfl, rfl⟩
theorem dU_ {n : Int} {d : Nat} (hd : 0 < d) : (mkRat n d).num = sgn (decide (n < 0)) (n.natAbs / Nat.gcd n.natAbs d) := by
 rw [(ew_ hd).1]
 have hg : 0 < Nat.gcd n.natAbs d := Nat.gcd_pos_of_pos_right _ hd
 obtain ⟨k, hk⟩ := Nat.gcd_dvd_left n.natAbs d
 generalize Nat.gcd n.natAbs d = g at hg hk ⊢
 rw [hk, Nat.mul_div_cancel_left _ hg]
 unfold sgn
 split
 ·rename_i h
  have := of_decide_eq_true h
  have e : n = (g : Int) * (-(k : Int)) := by rw [Int.mul_neg, ← Int.natCast_mul, ← hk]; omega
  rw [e, Int.mul_ediv_cancel_left _ (by omega)]
 ·rename_i h
  have := of_decide_eq_false (by simpa using h : decide (n < 0) = false)
  have e : n = (g : Int) * (k : Int) := by rw [← Int.natCast_mul, ← hk]; omega
  rw [e, Int.mul_ediv_cancel_left _ (by omega)]
theorem cp_ (a b : Nat) : bl (a / b) ≤ bl a := bG_ (Nat.div_le_self _ _)
theorem cr_ {n : Int} {d : Nat} (hd : 0 < d) {k : Nat} (h1 : bl n.natAbs ≤ k) (h2 : bl d ≤ k) : qs (mkRat n d) ≤ k := by
 unfold qs
 rw [dU_ hd, cD_, (ew_ hd).2]
 exact Nat.max_le.2 ⟨Nat.le_trans (cp_ _ _) h1, Nat.le_trans (cp_ _ _) h2⟩
theorem id_ (a b : Rat) : a + b = mkRat (a.num * b.den + b.num * a.den) (a.den * b.den) := by
 rw [Rat.add_def]; unfold mkRat; rw [dif_neg (Nat.mul_ne_zero a.den_nz b.den_nz)]
theorem ev_ (a b : Rat) : a * b = mkRat (a.num * b.num) (a.den * b.den) := by
 rw [Rat.mul_def]; unfold mkRat; rw [dif_neg (Nat.mul_ne_zero a.den_nz b.den_nz)]
theorem bJ_ (a : Rat) : bl a.num.natAbs ≤ qs a := Nat.le_max_left _ _
theorem bv_ (a : Rat) : bl a.den ≤ qs a := Nat.le_max_right _ _
theorem lv_ {x y : Int} {k : Nat} (hx : bl x.natAbs ≤ k) (hy : bl y.natAbs ≤ k) : bl (x + y).natAbs ≤ k + 1 := by
 have h1 := bG_ (Int.natAbs_add_le x y)
 have h2 := ny_ x.natAbs y.natAbs
 omega
theorem bk_ {x y : Int} {j k : Nat} (hx : bl x.natAbs ≤ j) (hy : bl y.natAbs ≤ k) : bl (x * y).natAbs ≤ j + k := by
 rw [Int.natAbs_mul]
 have := dD_ x.natAbs y.natAbs
 omega
theorem ic_ (a b : Rat) : bl (a.num * b.den + b.num * a.den).natAbs ≤ qs a + qs b + 1 ∧ bl (a.den * b.den) ≤ qs a + qs b := by
 have h1 := bJ_ a; have h2 := bv_ a; have h3 := bJ_ b; have h4 := bv_ b
 refine ⟨lv_ (bk_ h1 (by simpa using h4)) ?_, ?_⟩
 ·have := bk_ (x := b.num) (y := a.den) h3 (by simpa using h2); omega
 ·have := dD_ a.den b.den; omega
theorem hr_ (a b : Rat) : bl (a.num * b.num).natAbs ≤ qs a + qs b ∧ bl (a.den * b.den) ≤ qs a + qs b := by
 have h1 := bJ_ a; have h2 := bv_ a; have h3 := bJ_ b; have h4 := bv_ b
 refine ⟨bk_ h1 h3, ?_⟩
 have := dD_ a.den b.den; omega
theorem e4_ (a b : Rat) : 0 < a.den * b.den := Nat.mul_pos a.den_pos b.den_pos
theorem hk_ (a b : Rat) : qs (a + b) ≤ qs a + qs b + 1 := by
 rw [id_]
 have h := ic_ a b
 exact cr_ (e4_ a b) h.1 (by omega)
theorem c4_ (a b : Rat) : qs (a * b) ≤ qs a + qs b := by
 rw [ev_]
 have h := hr_ a b
 exact cr_ (e4_ a b) h.1 h.2
theorem ff_ (a : Rat) : qs (-a) = qs a := by unfold qs; rw [Rat.neg_num, Rat.neg_den, Int.natAbs_neg]
theorem qs_sub (a b : Rat) : qs (a - b) ≤ qs a + qs b + 1 := by
 rw [Rat.sub_eq_add_neg]
 have := hk_ a (-b)
 rwa [ff_] at this
theorem hX_ (a b : Rat) (hb : b ≠ 0) : a / b = mkRat (a.num * sgn (decide (b.num < 0)) b.den) (a.den * b.num.natAbs) := by
 have hn : b.num ≠ 0 := fun h => hb (Rat.num_eq_zero.1 h)
 rw [Rat.div_def, Rat.inv_def]
 conv => lhs; rw [← Rat.num_divInt_den a]
 rw [Rat.divInt_mul_divInt]
 unfold sgn
 split
 ·rename_i h
  have h' := of_decide_eq_true h
  have hp : 0 < a.den * b.num.natAbs := Nat.mul_pos a.den_pos (by omega)
  have e : (a.den : Int) * b.num = -((a.den * b.num.natAbs : Nat) : Int) := by
   rw [Int.natCast_mul, ← Int.mul_neg]; congr 1; omega
  rw [e, Int.mul_neg]
  generalize a.den * b.num.natAbs = d at hp ⊢
  cases d with
  | zero => omega
  | succ d =>
   rw [show -((d + 1 : Nat) : Int) = Int.negSucc d by omega]
   simp only [Rat.divInt, mkRat]
   rfl
 ·rename_i h
  have h' := of_decide_eq_false (by simpa using h : decide (b.num < 0) = false)
  have e : (a.den : Int) * b.num = ((a.den * b.num.natAbs : Nat) : Int) := by
   rw [Int.natCast_mul, show (b.num.natAbs : Int) = b.num by omega]
  rw [e]; rfl
theorem lb_ (a b : Rat) : bl (a.num * sgn (decide (b.num < 0)) b.den).natAbs ≤ qs a + qs b ∧ bl (a.den * b.num.natAbs) ≤ qs a + qs b := by
 have h1 := bJ_ a; have h2 := bv_ a; have h3 := bJ_ b; have h4 := bv_ b
 refine ⟨bk_ h1 (by rw [cD_]; exact h4), ?_⟩
 have := dD_ a.den b.num.natAbs; omega
theorem ek_ (a b : Rat) : qs (a / b) ≤ qs a + qs b := by
 by_cases hb : b = 0
 ·subst hb
  rw [Rat.div_def, Rat.inv_zero, Rat.mul_zero]
  have : qs 0 = 1 := by decide
  have h2 : 1 ≤ qs 0 := by decide
  omega
 ·rw [hX_ a b hb]
  have h := lb_ a b
  have hn : b.num ≠ 0 := fun h => hb (Rat.num_eq_zero.1 h)
  exact cr_ (Nat.mul_pos a.den_pos (by omega)) h.1 h.2
def sm (q : Rat) : Prop := qs q ≤ 137438953472
instance (q : Rat) : Decidable (sm q) := inferInstanceAs (Decidable (_ ≤ _))
def ck (q : Rat) : Option Rat := if qs q ≤ 137438953472 then some q else none
theorem sm2 {a b : Rat} (ha : sm a) (hb : sm b) : qs a + qs b ≤ 549755813888 := by unfold sm at ha hb; omega
def sgZ (z : Int) : Int := if z = 0 then 0 else if z < 0 then -1 else 1
def cmpQ (a b : Rat) : Int := if a < b then -1 else if a = b then 0 else 1
theorem sgZ_num_lt {q : Rat} : sgZ q.num < 0 ↔ q < 0 := by
 unfold sgZ
 have h1 : q.num = 0 ↔ q = 0 := Rat.num_eq_zero
 have h2 : 0 ≤ q.num ↔ 0 ≤ q := Rat.num_nonneg
 have h3 : q < 0 ↔ ¬ 0 ≤ q := Rat.not_le.symm
 rw [h3, ← h2]
 split
 ·omega
 ·split <;> omega
theorem sgZ_num_eq {q : Rat} : sgZ q.num = 0 ↔ q = 0 := by
 unfold sgZ
 rw [← Rat.num_eq_zero]
 split
 ·simp [*]
 ·split <;> simp [*]
theorem sgZ_num_gt {q : Rat} : 0 < sgZ q.num ↔ 0 < q := by
 have h1 := @sgZ_num_lt q
 have h2 := @sgZ_num_eq q
 have h3 : 0 < q ↔ ¬ (q < 0 ∨ q = 0) := by
  rw [← Rat.not_le, Rat.le_iff_lt_or_eq]
 rw [h3, ← h1, ← h2]
 omega
theorem cmpQ_eq (a b : Rat) : cmpQ a b = if a.num * b.den < b.num * a.den then -1 else if a.num * b.den = b.num * a.den then 0 else 1 := by
 unfold cmpQ
 have h1 := Rat.lt_iff a b
 have h2 : a = b ↔ a.num * b.den = b.num * a.den := by
  constructor
  ·rintro rfl; rfl
  ·intro h
   have := (Rat.mkRat_eq_iff (n₁ := a.num) (n₂ := b.num) a.den_nz b.den_nz).2 h
   rwa [Rat.mkRat_self, Rat.mkRat_self] at this
 by_cases h : a < b
 ·rw [if_pos h, if_pos (h1.1 h)]
 ·rw [if_neg h, if_neg (fun x => h (h1.2 x))]
  by_cases h' : a = b
  ·rw [if_pos h', if_pos (h2.1 h')]
  ·rw [if_neg h', if_neg (fun x => h' (h2.2 x))]
def fineQ (k : Nat) : Rat := mkRat 1 (2 ^ k)
theorem ga_ (q : Rat) : q.num < 0 ↔ q < 0 := by
 rw [← sgZ_num_lt]; unfold sgZ
 split
 ·omega
 ·split <;> omega
def absQ (q : Rat) : Rat := mkRat q.num.natAbs q.den
theorem go_ (q : Rat) : absQ q = if q < 0 then -q else q := by
 unfold absQ
 by_cases h : q < 0
 ·have hn : q.num < 0 := (ga_ q).2 h
  rw [if_pos h]
  have e : (q.num.natAbs : Int) = (-q).num := by rw [Rat.neg_num]; omega
  rw [e, ← Rat.neg_den, Rat.mkRat_self]
 ·have hn : ¬ q.num < 0 := fun e => h ((ga_ q).1 e)
  rw [if_neg h]
  have e : (q.num.natAbs : Int) = q.num := by omega
  rw [e, Rat.mkRat_self]
theorem j7_ (q : Rat) : (absQ q).num = (q.num.natAbs : Int) := by
 rw [go_]
 by_cases h : q < 0
 ·rw [if_pos h, Rat.neg_num]; have hn : q.num < 0 := (ga_ q).2 h; omega
 ·rw [if_neg h]; have hn : ¬ q.num < 0 := fun e => h ((ga_ q).1 e); omega
theorem j8_ (q : Rat) : (absQ q).den = q.den := by
 rw [go_]; split
 ·exact Rat.neg_den ..
 ·rfl
theorem qC_abs (q : Rat) : qC (absQ q) = zI (sgn false q.num.natAbs) ++ [mag (q.den - 1)] := by
 unfold qC zI
 rw [j7_, j8_]
 rfl
def pE (l : List Rat) : List (List AV) := l.map qC
def pA (l : List Rat) : AV := .arr (pE l)
def spC (a b : Rat) : List AV := qC a ++ qC b
@[simp] theorem qC_length (q : Rat) : (qC q).length = 3 := rfl
@[simp] theorem spC_length (a b : Rat) : (spC a b).length = 6 := rfl
@[simp] theorem o4_ (l : List Rat) : (pE l).length = l.length := by simp [pE]
theorem cj_ {l : List Rat} {i : Nat} {q : Rat} (h : l[i]? = some q) : (pE l)[i]? = some (qC q) := by simp [pE, h]
theorem js_ (l : List Rat) (k : Nat) : (pE l).take k = pE (l.take k) := by simp [pE]
theorem kF_ (l m : List Rat) : pE (l ++ m) = pE l ++ pE m := by simp [pE]
theorem iv_ (l : List Rat) (i : Nat) (q : Rat) : (pE l).set i (qC q) = pE (l.set i q) := by simp [pE, List.map_set]
theorem cQ_ (l : List Rat) : (pE l).all (·.all AV.one) = true := by
 simp only [pE, List.all_map, List.all_eq_true]
 intro q _
 rfl
theorem f9_ (l : List Rat) : ∀ e ∈ pE l, e.length = 3 := by intro e he; simp [pE] at he; obtain ⟨q, _, rfl⟩ := he; rfl
theorem aW_ (l : List Rat) : ∀ e ∈ pE l, ∀ c ∈ e, Closed c := by
 intro e he c hc
 simp [pE] at he
 obtain ⟨q, _, rfl⟩ := he
 exact aY_ q c hc
theorem am_ (l : List Rat) : Closed (pA l) := aw_ (aW_ l)
theorem gm_ (a b : Rat) : ∀ c ∈ spC a b, Closed c := fun c hc => (List.mem_append.1 hc).elim (aY_ a c) (aY_ b c)
theorem aA_ (a b : Rat) : Closed (.agg (spC a b)) := aq_ (gm_ a b)
def zC : List AV := [.emp, bln false, .emp]
theorem mag0 : mag 0 = .arr [] := by unfold mag; rw [a8_]; rfl
theorem qC0 : qC 0 = [.arr [], bln false, .arr []] := by
 show [mag 0, bln (decide ((0 : Int) < 0)), mag (1 - 1)] = _
 rw [mag0]; rfl
def smL (l : List Rat) : Prop := ∀ q ∈ l, sm q
instance (l : List Rat) : Decidable (smL l) := inferInstanceAs (Decidable (∀ q ∈ l, sm q))
def bR_ (bf : Int → Bool) : List Rat → Rat
 | [] => 0
 | x :: l => l.foldl (fun o y => if bf (cmpQ y o) then y else o) x
theorem gC_ (bf : Int → Bool) (l : List Rat) (y : Rat) : bR_ bf (l ++ [y]) = if l = [] ∨ bf (cmpQ y (bR_ bf l)) = true then y else bR_ bf l := by
 cases l with
 | nil => simp [bR_]
 | cons x l => simp [bR_, List.foldl_append]
theorem gn_ {bf : Int → Bool} : ∀ {l : List Rat}, smL l → sm (bR_ bf l)
 | [], _ => (by decide : sm 0)
 | x :: l, h => by
  have key : ∀ (l : List Rat) (o : Rat), sm o → smL l → sm (l.foldl (fun o y => if bf (cmpQ y o) then y else o) o) := by
   intro l
   induction l with
   | nil => intro o ho _; exact ho
   | cons y l ih =>
    intro o ho hl
    refine ih _ ?_ fun q hq => hl q (List.mem_cons_of_mem _ hq)
    show sm (if bf (cmpQ y o) = true then y else o)
    split
    ·exact hl y (List.mem_cons_self ..)
    ·exact ho
  exact key l x (h x (List.mem_cons_self ..)) fun q hq => h q (List.mem_cons_of_mem _ hq)
def minL (l : List Rat) : Rat := bR_ (fun c => decide (c < 0)) l
def maxL (l : List Rat) : Rat := bR_ (fun c => decide (0 < c)) l
theorem AEval.lenP {P : Program} {id : Nat} {ev : Operand → Option AV} {hp : Nat → Option ABlk} {c : Call} {x : Operand} {T : Nat} {d : Nat × Nat} {l : List Rat} (hc : c.callee = .builtin .len) (ha : c.args = #[x]) (ht : c.argTypes = #[T]) (hx : ev x = some (.arr (pE l))) (he : elOf P T = some d) :
    AEval P id ev hp (.call c) ⟨.v (.int .i64 (l.length : Nat)), []⟩ [] := .len hc ha ht hx (by simp [lenA]) he
def trimQ : List Rat → List Rat
 | [] => []
 | a :: l => match trimQ l with
  | [] => if a = 0 then [] else [a]
  | b :: m => a :: b :: m
theorem b5_ (a : Rat) (l : List Rat) : trimQ (a :: l) = if trimQ l = [] then (if a = 0 then [] else [a]) else a :: trimQ l := by
 rw [trimQ]
 cases h : trimQ l <;> simp
theorem eN_ (l : List Rat) (a : Rat) : trimQ (l ++ [a]) = if a = 0 then trimQ l else l ++ [a] := by
 induction l with
 | nil => simp [trimQ]
 | cons b l ih =>
  rw [List.cons_append, b5_, ih, b5_]
  by_cases h : a = 0
  ·simp only [if_pos h]
  ·simp [if_neg h]
theorem aU_ (l : List Rat) : (trimQ l).length ≤ l.length := by
 induction l with
 | nil => simp [trimQ]
 | cons a l ih => rw [b5_]; split <;> (try split) <;> simp <;> omega
theorem fy_ (l : List Rat) : trimQ l = l.take (trimQ l).length := by
 induction l with
 | nil => simp [trimQ]
 | cons a l ih =>
  rw [b5_]
  split
  ·split <;> simp
  ·simp [← ih]
theorem be_ {l : List Rat} {q : Rat} (h : q ∈ trimQ l) : q ∈ l := by
 rw [fy_] at h; exact List.mem_of_mem_take h
theorem ig_ {l : List Rat} {q : Rat} (h : (trimQ l).getLast? = some q) : q ≠ 0 := by
 induction l with
 | nil => simp [trimQ] at h
 | cons a l ih =>
  rw [b5_] at h
  split at h
  ·split at h
   ·cases h
   ·simp at h; subst h; assumption
  ·rename_i h0
   rw [List.getLast?_cons_of_ne_nil h0] at h
   exact ih h
theorem a1_ (l : List Rat) : trimQ (trimQ l) = trimQ l := by
 rcases List.eq_nil_or_concat (trimQ l) with h | ⟨m, q, h⟩
 ·rw [h]; rfl
 ·have hq : q ≠ 0 := ig_ (l := l) (by rw [h]; simp)
  rw [h, List.concat_eq_append, eN_, if_neg hq]
theorem ms_ {l : List Rat} (h : smL l) : smL (trimQ l) := fun q hq => h q (be_ hq)
def degP (l : List Rat) : Int := (trimQ l).length - 1
def leadP (l : List Rat) : Rat := (trimQ l).getLastD 0
theorem bp_ {l : List Rat} (h : trimQ l ≠ []) : leadP l ≠ 0 := by
 unfold leadP
 refine ig_ (l := l) (q := (trimQ l).getLastD 0) ?_
 rw [List.getLastD_eq_getLast?]
 cases hl : (trimQ l).getLast? with
 | none => exact absurd (List.getLast?_eq_none_iff.1 hl) h
 | some q => rfl
theorem hx_ {l : List Rat} (h : trimQ l = []) : leadP l = 0 := by unfold leadP; rw [h]; rfl
theorem bm_ {l : List Rat} {n : Nat} (h : (trimQ l).length = n + 1) : (trimQ l)[n]? = some (leadP l) := by
 unfold leadP
 rw [List.getLastD_eq_getLast?, List.getLast?_eq_getElem?, h, Nat.add_sub_cancel, List.getElem?_eq_getElem (by omega)]; rfl
theorem jC_ {l : List Rat} (h : smL l) : sm (leadP l) := by
 by_cases h0 : trimQ l = []
 ·rw [hx_ h0]; decide
 ·obtain ⟨n, hn⟩ : ∃ n, (trimQ l).length = n + 1 := ⟨(trimQ l).length - 1, by have := List.length_pos_iff.2 h0; omega⟩
  exact h _ (be_ (List.mem_of_getElem? (bm_ hn)))
def tabP (n : Nat) (f : Nat → Rat) : List Rat := (List.range n).map f
@[simp] theorem tabP_length (n : Nat) (f : Nat → Rat) : (tabP n f).length = n := by simp [tabP]
def coP (p : List Rat) (i : Nat) : Rat := p.getD i 0
def addP (p q : List Rat) : List Rat := trimQ (tabP (max p.length q.length) fun i => coP p i + coP q i)
def aI_ (p : List Rat) (k : Rat) : List Rat := trimQ (tabP p.length fun i => coP p i * k)
def subP (p q : List Rat) : List Rat := addP p (aI_ q (-1))
def gB_ (a : Rat) : List Rat := trimQ [a]
def aB_ (p : List Rat) : List Rat := trimQ (tabP (p.length - 1) fun i => coP p (i + 1) * ((i + 1 : Nat) : Int))
def a9_ (p : List Rat) : List Rat := if trimQ p = [] then [] else aI_ p (1 / leadP p)
theorem li_ {p : List Rat} (h : smL p) (i : Nat) : sm (coP p i) := by
 unfold coP
 rw [List.getD_eq_getElem?_getD]
 cases hi : p[i]? with
 | none => exact (by decide : sm 0)
 | some q => exact h q (List.mem_of_getElem? hi)
theorem bn_ {p : List Rat} {i : Nat} (h : i < p.length) : p[i]? = some (coP p i) := by
 unfold coP; rw [List.getD_eq_getElem?_getD, List.getElem?_eq_getElem h]; rfl
theorem cn_ {p : List Rat} {i : Nat} (h : p.length ≤ i) : coP p i = 0 := by
 unfold coP; rw [List.getD_eq_getElem?_getD, List.getElem?_eq_none h]; rfl
theorem lm_ : ∀ c ∈ zC, Closed c := aa_ cs_ (aa_ (ad_ _) (aa_ cs_ ab_))
theorem le_zC : LeL zC (qC 0) := by rw [qC0]; exact .cons .emp (.cons (.refl _) (.cons .emp .nil))
def bdL (l : List Rat) (n : Nat) : Prop := ∀ q ∈ l, qs q ≤ n
instance (l : List Rat) (n : Nat) : Decidable (bdL l n) := inferInstanceAs (Decidable (∀ q ∈ l, qs q ≤ n))
theorem gD_ {l : List Rat} {n : Nat} (h : bdL l n) (hn : n ≤ 137438953472) : smL l := fun q hq => Nat.le_trans (h q hq) hn
theorem cq_ {l : List Rat} {n : Nat} (h : bdL l n) (hn : 1 ≤ n) (i : Nat) : qs (coP l i) ≤ n := by
 unfold coP
 rw [List.getD_eq_getElem?_getD]
 cases hi : l[i]? with
 | none => exact Nat.le_trans (by decide : qs 0 ≤ 1) hn
 | some q => exact h q (List.mem_of_getElem? hi)
def addAt (o : List Rat) (j : Nat) (x : Rat) : List Rat := o.set j (coP o j + x)
def rowP (o : List Rat) (a : Rat) (q : List Rat) (i : Nat) : Nat → List Rat
 | 0 => o
 | k + 1 => addAt (rowP o a q i k) (i + k) (a * coP q k)
def mulR (p q : List Rat) : Nat → List Rat
 | 0 => List.replicate (p.length + q.length - 1) 0
 | i + 1 => if coP p i = 0 then mulR p q i else rowP (mulR p q i) (coP p i) q i q.length
def mulP (p q : List Rat) : List Rat := if p = [] ∨ q = [] then [] else trimQ (mulR p q p.length)
@[simp] theorem lz_ (o : List Rat) (j : Nat) (x : Rat) : (addAt o j x).length = o.length := by simp [addAt]
@[simp] theorem lI_ (o : List Rat) (a : Rat) (q : List Rat) (i k : Nat) : (rowP o a q i k).length = o.length := by
 induction k with
 | zero => rfl
 | succ k ih => rw [rowP, lz_, ih]
@[simp] theorem lO_ (p q : List Rat) (i : Nat) : (mulR p q i).length = p.length + q.length - 1 := by
 induction i with
 | zero => simp [mulR]
 | succ i ih => rw [mulR]; split <;> simp [ih]
theorem h4_ (o : List Rat) (j n : Nat) (x : Rat) : coP (addAt o j x) n = if n = j ∧ j < o.length then coP o j + x else coP o n := by
 unfold addAt coP
 rw [List.getD_eq_getElem?_getD, List.getElem?_set, List.getD_eq_getElem?_getD, List.getD_eq_getElem?_getD]
 by_cases h : j = n
 ·subst h
  by_cases h2 : j < o.length
  ·simp [h2]
  ·simp [h2]
 ·rw [if_neg h, if_neg (by omega)]
theorem df_ {o : List Rat} {n : Nat} (h : ∀ i, qs (coP o i) ≤ n) : bdL o n := by
 intro q hq
 obtain ⟨i, hi, rfl⟩ := List.getElem_of_mem hq
 have := h i
 unfold coP at this
 rwa [List.getD_eq_getElem?_getD, List.getElem?_eq_getElem hi] at this
theorem i5_ (o : List Rat) (a : Rat) (q : List Rat) (i k n : Nat) (h : n < i ∨ i + k ≤ n) : coP (rowP o a q i k) n = coP o n := by
 induction k with
 | zero => rfl
 | succ k ih => rw [rowP, h4_, if_neg (by omega), ih (by omega)]
theorem oT_ {o : List Rat} {a : Rat} {q : List Rat} {B s t : Nat} (i : Nat) (ho : ∀ n, qs (coP o n) ≤ B) (ha : qs a ≤ s) (hq : ∀ n, qs (coP q n) ≤ t) : ∀ k n, qs (coP (rowP o a q i k) n) ≤ B + (s + t + 1)
 | 0, n => Nat.le_trans (ho n) (by omega)
 | k + 1, n => by
  rw [rowP, h4_]
  split
  ·rw [i5_ o a q i k (i + k) (by omega)]
   have h1 := hk_ (coP o (i + k)) (a * coP q k)
   have h2 := c4_ a (coP q k)
   have h3 := ho (i + k)
   have h4 := hq k
   omega
  ·exact oT_ i ho ha hq k n
theorem jv_ {p q : List Rat} {s t : Nat} (hp : ∀ n, qs (coP p n) ≤ s) (hq : ∀ n, qs (coP q n) ≤ t) : ∀ i n, qs (coP (mulR p q i) n) ≤ i * (s + t + 1) + 1
 | 0, n => by
  have : coP (mulR p q 0) n = 0 := by
   unfold mulR coP
   rw [List.getD_eq_getElem?_getD, List.getElem?_replicate]
   split <;> rfl
  rw [this]
  exact Nat.le_add_left 1 _
 | i + 1, n => by
  rw [mulR, Nat.add_mul, Nat.one_mul]
  split
  ·have := jv_ hp hq i n; omega
  ·have := oT_ (B := i * (s + t + 1) + 1) i (jv_ hp hq i) (hp i) hq q.length n
   omega
theorem mulP_bd {p q : List Rat} {s t : Nat} (hp : bdL p s) (hq : bdL q t) (hs : 1 ≤ s) (ht : 1 ≤ t) : bdL (mulP p q) (p.length * (s + t + 1) + 1) := by
 unfold mulP
 split
 ·intro q hq; cases hq
 ·intro x hx
  exact df_ (jv_ (cq_ hp hs) (cq_ hq ht) p.length) x (be_ hx)
theorem CvLL.zeros {r : Ren} {hp hp' : Nat → Option ABlk} (h : Shr r hp hp') (n : Nat) : CvLL r hp hp' (List.replicate n zC) (pE (List.replicate n 0)) := by
 induction n with
 | zero => rfl
 | succ n ih =>
  refine ⟨qC 0, _, rfl, ?_, ih⟩
  rw [qC0]
  exact ai_ (Cv.emp _) (ai_ (ar_ h (ad_ _)) (ai_ (Cv.emp _) ap_))
def subAt (o : List Rat) (j : Nat) (x : Rat) : List Rat := o.set j (coP o j - x)
def rowM (o : List Rat) (k : Rat) (q : List Rat) (n : Nat) : Nat → List Rat
 | 0 => o
 | i + 1 => subAt (rowM o k q n i) (n + i) (k * coP q i)
def divR (q : List Rat) (lead : Rat) : Nat → List Rat → List Rat → List Rat × List Rat
 | 0, u, o => (u, o)
 | n + 1, u, o => divR q lead n (u.set n (coP o (n + q.length - 1) / lead)) (if coP o (n + q.length - 1) / lead = 0 then o else rowM o (coP o (n + q.length - 1) / lead) q n q.length)
def divP (p q : List Rat) : List Rat × List Rat :=
 let r := divR (trimQ q) (leadP q) ((trimQ p).length + 1 - (trimQ q).length) (List.replicate ((trimQ p).length + 1 - (trimQ q).length) 0) (trimQ p)
 (trimQ r.1, trimQ r.2)
@[simp] theorem kp_ (o : List Rat) (j : Nat) (x : Rat) : (subAt o j x).length = o.length := by simp [subAt]
@[simp] theorem cV_ (o : List Rat) (a : Rat) (q : List Rat) (i k : Nat) : (rowM o a q i k).length = o.length := by
 induction k with
 | zero => rfl
 | succ k ih => rw [rowM, kp_, ih]
theorem dA_ (q : List Rat) (lead : Rat) : ∀ c u o, (divR q lead c u o).1.length = u.length ∧ (divR q lead c u o).2.length = o.length
 | 0, u, o => ⟨rfl, rfl⟩
 | n + 1, u, o => by
  rw [divR]
  refine ⟨(dA_ q lead n _ _).1.trans (by simp), (dA_ q lead n _ _).2.trans ?_⟩
  split <;> simp
theorem jX_ (o : List Rat) (j n : Nat) (x : Rat) : coP (o.set j x) n = if n = j ∧ j < o.length then x else coP o n := by
 unfold coP
 rw [List.getD_eq_getElem?_getD, List.getElem?_set, List.getD_eq_getElem?_getD]
 by_cases h : j = n
 ·subst h
  by_cases h2 : j < o.length
  ·simp [h2]
  ·simp [h2]
 ·rw [if_neg h, if_neg (by omega)]
theorem fX_ (o : List Rat) (j n : Nat) (x : Rat) : coP (subAt o j x) n = if n = j ∧ j < o.length then coP o j - x else coP o n := jX_ o j n _
theorem fC_ (o : List Rat) (a : Rat) (q : List Rat) (i k n : Nat) (h : n < i ∨ i + k ≤ n) : coP (rowM o a q i k) n = coP o n := by
 induction k with
 | zero => rfl
 | succ k ih => rw [rowM, fX_, if_neg (by omega), ih (by omega)]
theorem oU_ {o : List Rat} {a : Rat} {q : List Rat} {B s t : Nat} (i : Nat) (ho : ∀ n, qs (coP o n) ≤ B) (ha : qs a ≤ s) (hq : ∀ n, qs (coP q n) ≤ t) : ∀ k n, qs (coP (rowM o a q i k) n) ≤ B + (s + t + 1)
 | 0, n => Nat.le_trans (ho n) (by omega)
 | k + 1, n => by
  rw [rowM, fX_]
  split
  ·rw [fC_ o a q i k (i + k) (by omega)]
   have h1 := qs_sub (coP o (i + k)) (a * coP q k)
   have h2 := c4_ a (coP q k)
   have h3 := ho (i + k)
   have h4 := hq k
   omega
  ·exact oU_ i ho ha hq k n
def divB (q : List Rat) (lead : Rat) (L c : Nat) (u o : List Rat) : Prop :=
 ∃ B t, (∀ n, qs (coP o n) ≤ B) ∧ (∀ n, qs (coP q n) ≤ t) ∧ qs lead ≤ t ∧ 1 ≤ t ∧ (∀ n, qs (coP u n) ≤ L) ∧ 2 ^ c * (B + 2 * t + 1) ≤ L
theorem nk_ {q : List Rat} {lead : Rat} {L c : Nat} {u o : List Rat} (h : divB q lead L c u o) : ∃ B t, (∀ n, qs (coP o n) ≤ B) ∧ (∀ n, qs (coP q n) ≤ t) ∧ qs lead ≤ t ∧ B + 2 * t + 1 ≤ L := by
 obtain ⟨B, t, h1, h2, h3, h4, h5, h6⟩ := h
 refine ⟨B, t, h1, h2, h3, Nat.le_trans ?_ h6⟩
 have := Nat.mul_le_mul_right (B + 2 * t + 1) (Nat.one_le_two_pow (n := c))
 omega
theorem ld_ {q : List Rat} {lead : Rat} {L n : Nat} {u o : List Rat} (h : divB q lead L (n + 1) u o) :
    divB q lead L n (u.set n (coP o (n + q.length - 1) / lead)) (if coP o (n + q.length - 1) / lead = 0 then o else rowM o (coP o (n + q.length - 1) / lead) q n q.length) := by
 obtain ⟨B, t, h1, h2, h3, h4, h5, h6⟩ := h
 obtain ⟨k, hk⟩ : ∃ k, k = coP o (n + q.length - 1) / lead := ⟨_, rfl⟩
 have hkb : qs k ≤ B + t := by
  have e1 := ek_ (coP o (n + q.length - 1)) lead
  have e2 := h1 (n + q.length - 1)
  rw [hk]; omega
 rw [← hk]
 obtain ⟨W, hW⟩ : ∃ W, W = 2 ^ n := ⟨_, rfl⟩
 have hW1 : 1 ≤ W := by rw [hW]; exact Nat.one_le_two_pow
 rw [Nat.pow_succ, ← hW] at h6
 have h7 : W * (2 * B + 2 * t + 1 + 2 * t + 1) ≤ L := by
  rw [Nat.mul_assoc] at h6
  have e : 2 * B + 2 * t + 1 + 2 * t + 1 = 2 * (B + 2 * t + 1) := by omega
  rw [e]; exact h6
 have h8 : 2 * B + 2 * t + 1 + 2 * t + 1 ≤ L := by
  have := Nat.mul_le_mul_right (2 * B + 2 * t + 1 + 2 * t + 1) hW1
  omega
 refine ⟨2 * B + 2 * t + 1, t, fun j => ?_, h2, h3, h4, fun j => ?_, by rw [← hW]; exact h7⟩
 ·split
  ·have := h1 j; omega
  ·have := oU_ n h1 hkb h2 q.length j; omega
 ·rw [jX_]
  split
  ·omega
  ·exact h5 j
theorem l7_ {q : List Rat} {lead : Rat} {L : Nat} : ∀ {c u o}, divB q lead L c u o → (∀ n, qs (coP (divR q lead c u o).1 n) ≤ L) ∧ (∀ n, qs (coP (divR q lead c u o).2 n) ≤ L)
 | 0, u, o, h => by
  obtain ⟨B, t, h1, h2, h3, h6⟩ := nk_ h
  obtain ⟨_, _, _, _, _, _, h5, _⟩ := h
  exact ⟨h5, fun n => Nat.le_trans (h1 n) (by omega)⟩
 | n + 1, u, o, h => l7_ (c := n) (ld_ h)
def mxL (l : List Rat) : Nat := l.foldr (fun q n => max (qs q) n) 1
theorem cb_ (l : List Rat) : 1 ≤ mxL l := by
 induction l with
 | nil => exact Nat.le_refl _
 | cons q l ih => exact Nat.le_trans ih (Nat.le_max_right _ _)
theorem cv_ (l : List Rat) : bdL l (mxL l) := by
 induction l with
 | nil => intro q hq; cases hq
 | cons a l ih =>
  intro q hq
  rcases List.mem_cons.1 hq with rfl | hq
  ·exact Nat.le_max_left _ _
  ·exact Nat.le_trans (ih q hq) (Nat.le_max_right _ _)
theorem mxL_le {l : List Rat} {n : Nat} (h : bdL l n) (hn : 1 ≤ n) : mxL l ≤ n := by
 induction l with
 | nil => exact hn
 | cons a l ih => exact Nat.max_le.2 ⟨h a (List.mem_cons_self ..), ih fun q hq => h q (List.mem_cons_of_mem _ hq)⟩
def okDiv (p q : List Rat) : Prop := 2 ^ ((trimQ p).length + 1 - (trimQ q).length) * (mxL p + 2 * mxL q + 1) ≤ 137438953472 ∧ p.length ≤ 274877906944 ∧ q.length ≤ 274877906944
instance (p q : List Rat) : Decidable (okDiv p q) := inferInstanceAs (Decidable (_ ∧ _ ∧ _))
theorem n6_ {p q : List Rat} {s t L : Nat} (hp : bdL p s) (hq : bdL q t) (hs : 1 ≤ s) (ht : 1 ≤ t) (hq0 : trimQ q ≠ []) (m : Nat) (h : 2 ^ m * (s + 2 * t + 1) ≤ L) : divB (trimQ q) (leadP q) L m (List.replicate m 0) (trimQ p) := by
 have hL : 1 ≤ L := by
  have h3 := Nat.mul_le_mul_right (s + 2 * t + 1) (Nat.one_le_two_pow (n := m))
  omega
 have hql := List.length_pos_iff.2 hq0
 refine ⟨s, t, cq_ (fun x hx => hp x (be_ hx)) hs, cq_ (fun x hx => hq x (be_ hx)) ht, hq _ (be_ (List.mem_of_getElem? (bm_ (n := (trimQ q).length - 1) (by omega)))), ht, fun n => ?_, h⟩
 have : coP (List.replicate m 0) n = 0 := by
  unfold coP
  rw [List.getD_eq_getElem?_getD, List.getElem?_replicate]
  split <;> rfl
 rw [this]
 exact Nat.le_trans (by decide : qs 0 ≤ 1) hL
theorem hY_ {p q : List Rat} {s t L : Nat} (hp : bdL p s) (hq : bdL q t) (hs : 1 ≤ s) (ht : 1 ≤ t) (hq0 : trimQ q ≠ []) (h : 2 ^ ((trimQ p).length + 1 - (trimQ q).length) * (s + 2 * t + 1) ≤ L) : bdL (divP p q).1 L ∧ bdL (divP p q).2 L := by
 have := l7_ (n6_ hp hq hs ht hq0 _ h)
 exact ⟨fun x hx => df_ this.1 x (be_ hx), fun x hx => df_ this.2 x (be_ hx)⟩
theorem l8_ {p q : List Rat} (h : okDiv p q) (hq0 : trimQ q ≠ []) : smL (divP p q).1 ∧ smL (divP p q).2 :=
 have := hY_ (cv_ p) (cv_ q) (cb_ p) (cb_ q) hq0 h.1
 ⟨gD_ this.1 (Nat.le_refl _), gD_ this.2 (Nat.le_refl _)⟩
theorem e1_ {p q : List Rat} : (divP p q).1.length ≤ p.length + 1 ∧ (divP p q).2.length ≤ p.length := by
 have h1 := dA_ (trimQ q) (leadP q) ((trimQ p).length + 1 - (trimQ q).length) (List.replicate ((trimQ p).length + 1 - (trimQ q).length) 0) (trimQ p)
 have h2 := aU_ p
 have h3 := aU_ (divR (trimQ q) (leadP q) ((trimQ p).length + 1 - (trimQ q).length) (List.replicate ((trimQ p).length + 1 - (trimQ q).length) 0) (trimQ p)).1
 have h4 := aU_ (divR (trimQ q) (leadP q) ((trimQ p).length + 1 - (trimQ q).length) (List.replicate ((trimQ p).length + 1 - (trimQ q).length) 0) (trimQ p)).2
 rw [h1.1, List.length_replicate] at h3
 rw [h1.2] at h4
 exact ⟨by unfold divP; simp only; omega, by unfold divP; simp only; omega⟩
theorem b7_ (p : List Rat) (k : Rat) : (aI_ p k).length ≤ p.length := by
 have := aU_ (tabP p.length fun i => coP p i * k)
 simpa [aI_] using this
theorem eU_ (p : List Rat) : (a9_ p).length ≤ p.length := by
 unfold a9_; split
 ·simp
 ·exact b7_ _ _
def gcdM : Nat → List Rat → List Rat → Option (List Rat)
 | 0, _, _ => none
 | f + 1, p, q => if trimQ q = [] then (if smL p then some (a9_ p) else none) else if okDiv p q then gcdM f q (a9_ (divP p q).2) else none
def raiM : Nat → Rat → Rat → Nat → Option Rat
 | 0, _, _, _ => none
 | f + 1, out, a, n => if n = 0 then some out else if qs out + qs a ≤ 549755813888 ∧ qs a + qs a ≤ 549755813888 then raiM f (if n % 2 = 1 then out * a else out) (a * a) (n / 2) else none
def mulC (a b : Rat) : Option Rat := if qs a + qs b ≤ 549755813888 then some (a * b) else none
def resM : Nat → Rat → List Rat → List Rat → Option Rat
 | 0, _, _, _ => none
 | f + 1, out, p, q =>
  if p.length ≤ 274877906944 ∧ q.length ≤ 274877906944 then
   if degP p < 0 ∨ degP q < 0 then some 0
   else if degP q = 0 then (raiM 64 1 (leadP q) (degP p).toNat).bind (mulC out)
   else if degP p < degP q then resM f (if degP p % 2 = 1 ∧ degP q % 2 = 1 then -out else out) q p
   else if okDiv p q then
    if degP (divP p q).2 < 0 then some 0
    else (raiM 64 1 (leadP q) (degP p - degP (divP p q).2).toNat).bind fun x => (mulC out x).bind fun y =>
     resM f (if (degP p - degP (divP p q).2) % 2 = 1 ∧ degP q % 2 = 1 then -y else y) (divP p q).2 q
   else none
  else none
def evalP : List Rat → Rat → Rat
 | [], _ => 0
 | a :: l, x => evalP l x * x + a
def backP (l : List Rat) (k : Nat) : Option (List AV) := if k < l.length then some [i64 ((l.length - 1 - k : Nat) : Int), .agg (qC (coP l (l.length - 1 - k)))] else none
theorem k9_ {l : List Rat} {k : Nat} (h : k < l.length) : l.drop (l.length - (k + 1)) = coP l (l.length - 1 - k) :: l.drop (l.length - k) := by
 have h1 : l.length - (k + 1) < l.length := by omega
 rw [List.drop_eq_getElem_cons h1, show l.length - (k + 1) + 1 = l.length - k by omega]
 congr 1
 have := bn_ h1
 rw [List.getElem?_eq_getElem h1] at this
 rw [show l.length - 1 - k = l.length - (k + 1) by omega]
 exact Option.some.inj this
theorem g0_ {x : Rat} {s t : Nat} (hx : qs x ≤ t) : ∀ {l : List Rat}, bdL l s → qs (evalP l x) ≤ l.length * (s + t + 1) + 1
 | [], _ => by show qs 0 ≤ _; exact Nat.le_trans (by decide : qs 0 ≤ 1) (Nat.le_add_left 1 _)
 | a :: l, h => by
  have ih := g0_ (l := l) hx fun q hq => h q (List.mem_cons_of_mem _ hq)
  have ha := h a (List.mem_cons_self ..)
  have h1 := hk_ (evalP l x * x) a
  have h2 := c4_ (evalP l x) x
  show qs (evalP l x * x + a) ≤ (l.length + 1) * (s + t + 1) + 1
  rw [Nat.add_mul, Nat.one_mul]
  omega
def em_ (p : List Rat) (x : Rat) : Prop := p.length * (mxL p + qs x + 1) + mxL p + qs x + 2 ≤ 137438953472 ∧ p.length ≤ 274877906944
instance (p : List Rat) (x : Rat) : Decidable (em_ p x) := inferInstanceAs (Decidable (_ ∧ _))
theorem n4_ {p : List Rat} {x : Rat} (h : em_ p x) (k : Nat) (hk : k < p.length) : qs (evalP (p.drop (p.length - k)) x) + qs x ≤ 549755813888 ∧ qs (evalP (p.drop (p.length - k)) x * x) + qs (coP p (p.length - 1 - k)) ≤ 549755813888 := by
 have h1 := g0_ (t := qs x) (Nat.le_refl _) (l := p.drop (p.length - k)) (s := mxL p) fun q hq => cv_ p q (List.mem_of_mem_drop hq)
 have h2 := c4_ (evalP (p.drop (p.length - k)) x) x
 have h3 := cq_ (cv_ p) (cb_ p) (p.length - 1 - k)
 have h4 := h.1
 have h5 : (p.drop (p.length - k)).length * (mxL p + qs x + 1) ≤ p.length * (mxL p + qs x + 1) := Nat.mul_le_mul_right _ (by simp)
 omega
theorem nd_ {p : List Rat} {x : Rat} (h : em_ p x) : sm (evalP p x) := by
 have h1 := g0_ (t := qs x) (Nat.le_refl _) (cv_ p)
 have h2 := h.1
 unfold sm; omega
end Go.Abs
