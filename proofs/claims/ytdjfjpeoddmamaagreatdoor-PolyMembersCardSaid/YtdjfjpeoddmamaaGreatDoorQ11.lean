/- Part Q11 of the proof. -/
import Derived.Test.YtdjfjpeoddmamaaGreatDoorQ10
set_option linter.all false
namespace Go.Abs
def zI (z : Int) : List AV := [mag z.natAbs, bln (decide (z < 0))]
def qC (q : Rat) : List AV := [mag q.num.natAbs, bln (decide (q.num < 0)), mag (q.den - 1)]
def sgn (b : Bool) (m : Nat) : Int := if b then -(m : Int) else m
theorem closed_zI (z : Int) : ∀ c ∈ zI z, Closed c := closed_cons (closed_mag _) (closed_cons (closed_v _) closed_nil)
theorem closed_qC (q : Rat) : ∀ c ∈ qC q, Closed c := closed_cons (closed_mag _) (closed_cons (closed_v _) (closed_cons (closed_mag _) closed_nil))
theorem closed_zA (z : Int) : Closed (.agg (zI z)) := closed_agg (closed_zI z)
theorem closed_qA (q : Rat) : Closed (.agg (qC q)) := closed_agg (closed_qC q)
theorem closed_mA (n : Nat) : Closed (.agg [mag n]) := closed_agg (closed_cons (closed_mag n) closed_nil)
theorem sgn_natAbs (b : Bool) (m : Nat) : (sgn b m).natAbs = m := by unfold sgn; split <;> omega
theorem sgn_neg (b : Bool) (m : Nat) : decide (sgn b m < 0) = (b && !(m == 0)) := by
 unfold sgn
 rw [Bool.eq_iff_iff]
 cases b
 ·simp
 ·simp; omega
theorem sgn_self (z : Int) : sgn (decide (z < 0)) z.natAbs = z := by
 unfold sgn; split
 ·rename_i h; have := of_decide_eq_true h; omega
 ·rename_i h; have := of_decide_eq_false (by simpa using h : decide (z < 0) = false); omega
def qs (q : Rat) : Nat := max (bl q.num.natAbs) (bl q.den)
theorem mkRat_num {n : Int} {d : Nat} (hd : 0 < d) : (mkRat n d).num = n / (Nat.gcd n.natAbs d : Int) ∧ (mkRat n d).den = d / Nat.gcd n.natAbs d := by
 unfold mkRat
 rw [dif_neg (by omega), Rat.normalize_eq]
 exact ⟨rfl, rfl⟩
theorem mkRat_sgn {n : Int} {d : Nat} (hd : 0 < d) : (mkRat n d).num = sgn (decide (n < 0)) (n.natAbs / Nat.gcd n.natAbs d) := by
 rw [(mkRat_num hd).1]
 have hg : 0 < Nat.gcd n.natAbs d := Nat.gcd_pos_of_pos_right _ hd
 obtain ⟨k, hk⟩ := Nat.gcd_dvd_left n.natAbs d
 generalize Nat.gcd n.natAbs d = g at hg hk ⊢
 rw [hk, Nat.mul_div_cancel_left _ hg]
 unfold sgn
 split
 ·rename_i h
  have := of_decide_eq_true h
  have e : n = (g : Int) * (-(k : Int)) := by rw [Int.mul_neg, ← Int.natCast_mul, ← hk]; omega
  rw [e, Int.mul_ediv_cancel_left _ (by omega)]
 ·rename_i h
  have := of_decide_eq_false (by simpa using h : decide (n < 0) = false)
  have e : n = (g : Int) * (k : Int) := by rw [← Int.natCast_mul, ← hk]; omega
  rw [e, Int.mul_ediv_cancel_left _ (by omega)]
theorem bl_div_le (a b : Nat) : bl (a / b) ≤ bl a := bl_mono (Nat.div_le_self _ _)
theorem qs_mkRat {n : Int} {d : Nat} (hd : 0 < d) {k : Nat} (h1 : bl n.natAbs ≤ k) (h2 : bl d ≤ k) : qs (mkRat n d) ≤ k := by
 unfold qs
 rw [mkRat_sgn hd, sgn_natAbs, (mkRat_num hd).2]
 exact Nat.max_le.2 ⟨Nat.le_trans (bl_div_le _ _) h1, Nat.le_trans (bl_div_le _ _) h2⟩
theorem add_mkRat (a b : Rat) : a + b = mkRat (a.num * b.den + b.num * a.den) (a.den * b.den) := by
 rw [Rat.add_def]; unfold mkRat; rw [dif_neg (Nat.mul_ne_zero a.den_nz b.den_nz)]
theorem mul_mkRat (a b : Rat) : a * b = mkRat (a.num * b.num) (a.den * b.den) := by
 rw [Rat.mul_def]; unfold mkRat; rw [dif_neg (Nat.mul_ne_zero a.den_nz b.den_nz)]
theorem qs_num (a : Rat) : bl a.num.natAbs ≤ qs a := Nat.le_max_left _ _
theorem qs_den (a : Rat) : bl a.den ≤ qs a := Nat.le_max_right _ _
theorem bl_sum_le {x y : Int} {k : Nat} (hx : bl x.natAbs ≤ k) (hy : bl y.natAbs ≤ k) : bl (x + y).natAbs ≤ k + 1 := by
 have h1 := bl_mono (Int.natAbs_add_le x y)
 have h2 := bl_add x.natAbs y.natAbs
 omega
theorem bl_prod_le {x y : Int} {j k : Nat} (hx : bl x.natAbs ≤ j) (hy : bl y.natAbs ≤ k) : bl (x * y).natAbs ≤ j + k := by
 rw [Int.natAbs_mul]
 have := bl_mul x.natAbs y.natAbs
 omega
theorem add_parts (a b : Rat) : bl (a.num * b.den + b.num * a.den).natAbs ≤ qs a + qs b + 1 ∧ bl (a.den * b.den) ≤ qs a + qs b := by
 have h1 := qs_num a; have h2 := qs_den a; have h3 := qs_num b; have h4 := qs_den b
 refine ⟨bl_sum_le (bl_prod_le h1 (by simpa using h4)) ?_, ?_⟩
 ·have := bl_prod_le (x := b.num) (y := a.den) h3 (by simpa using h2); omega
 ·have := bl_mul a.den b.den; omega
theorem mul_parts (a b : Rat) : bl (a.num * b.num).natAbs ≤ qs a + qs b ∧ bl (a.den * b.den) ≤ qs a + qs b := by
 have h1 := qs_num a; have h2 := qs_den a; have h3 := qs_num b; have h4 := qs_den b
 refine ⟨bl_prod_le h1 h3, ?_⟩
 have := bl_mul a.den b.den; omega
theorem den_pos2 (a b : Rat) : 0 < a.den * b.den := Nat.mul_pos a.den_pos b.den_pos
theorem qs_add (a b : Rat) : qs (a + b) ≤ qs a + qs b + 1 := by
 rw [add_mkRat]
 have h := add_parts a b
 exact qs_mkRat (den_pos2 a b) h.1 (by omega)
theorem qs_mul (a b : Rat) : qs (a * b) ≤ qs a + qs b := by
 rw [mul_mkRat]
 have h := mul_parts a b
 exact qs_mkRat (den_pos2 a b) h.1 h.2
theorem qs_neg (a : Rat) : qs (-a) = qs a := by unfold qs; rw [Rat.neg_num, Rat.neg_den, Int.natAbs_neg]
theorem qs_sub (a b : Rat) : qs (a - b) ≤ qs a + qs b + 1 := by
 rw [Rat.sub_eq_add_neg]
 have := qs_add a (-b)
 rwa [qs_neg] at this
theorem div_mkRat (a b : Rat) (hb : b ≠ 0) : a / b = mkRat (a.num * sgn (decide (b.num < 0)) b.den) (a.den * b.num.natAbs) := by
 have hn : b.num ≠ 0 := fun h => hb (Rat.num_eq_zero.1 h)
 rw [Rat.div_def, Rat.inv_def]
 conv => lhs; rw [← Rat.num_divInt_den a]
 rw [Rat.divInt_mul_divInt]
 unfold sgn
 split
 ·rename_i h
  have h' := of_decide_eq_true h
  have hp : 0 < a.den * b.num.natAbs := Nat.mul_pos a.den_pos (by omega)
  have e : (a.den : Int) * b.num = -((a.den * b.num.natAbs : Nat) : Int) := by
   rw [Int.natCast_mul, ← Int.mul_neg]; congr 1; omega
  rw [e, Int.mul_neg]
  generalize a.den * b.num.natAbs = d at hp ⊢
  cases d with
  | zero => omega
  | succ d =>
   rw [show -((d + 1 : Nat) : Int) = Int.negSucc d by omega]
   simp only [Rat.divInt, mkRat]
   rfl
 ·rename_i h
  have h' := of_decide_eq_false (by simpa using h : decide (b.num < 0) = false)
  have e : (a.den : Int) * b.num = ((a.den * b.num.natAbs : Nat) : Int) := by
   rw [Int.natCast_mul, show (b.num.natAbs : Int) = b.num by omega]
  rw [e]; rfl
theorem div_parts (a b : Rat) : bl (a.num * sgn (decide (b.num < 0)) b.den).natAbs ≤ qs a + qs b ∧ bl (a.den * b.num.natAbs) ≤ qs a + qs b := by
 have h1 := qs_num a; have h2 := qs_den a; have h3 := qs_num b; have h4 := qs_den b
 refine ⟨bl_prod_le h1 (by rw [sgn_natAbs]; exact h4), ?_⟩
 have := bl_mul a.den b.num.natAbs; omega
theorem qs_div (a b : Rat) : qs (a / b) ≤ qs a + qs b := by
 by_cases hb : b = 0
 ·subst hb
  rw [Rat.div_def, Rat.inv_zero, Rat.mul_zero]
  have : qs 0 = 1 := by decide
  have h2 : 1 ≤ qs 0 := by decide
  omega
 ·rw [div_mkRat a b hb]
  have h := div_parts a b
  have hn : b.num ≠ 0 := fun h => hb (Rat.num_eq_zero.1 h)
  exact qs_mkRat (Nat.mul_pos a.den_pos (by omega)) h.1 h.2
def sm (q : Rat) : Prop := qs q ≤ 137438953472
instance (q : Rat) : Decidable (sm q) := inferInstanceAs (Decidable (_ ≤ _))
def ck (q : Rat) : Option Rat := if qs q ≤ 137438953472 then some q else none
theorem sm2 {a b : Rat} (ha : sm a) (hb : sm b) : qs a + qs b ≤ 549755813888 := by unfold sm at ha hb; omega
def sgZ (z : Int) : Int := if z = 0 then 0 else if z < 0 then -1 else 1
def cmpQ (a b : Rat) : Int := if a < b then -1 else if a = b then 0 else 1
theorem sgZ_num_lt {q : Rat} : sgZ q.num < 0 ↔ q < 0 := by
 unfold sgZ
 have h1 : q.num = 0 ↔ q = 0 := Rat.num_eq_zero
 have h2 : 0 ≤ q.num ↔ 0 ≤ q := Rat.num_nonneg
 have h3 : q < 0 ↔ ¬ 0 ≤ q := Rat.not_le.symm
 rw [h3, ← h2]
 split
 ·omega
 ·split <;> omega
theorem sgZ_num_eq {q : Rat} : sgZ q.num = 0 ↔ q = 0 := by
 unfold sgZ
 rw [← Rat.num_eq_zero]
 split
 ·simp [*]
 ·split <;> simp [*]
theorem cmpQ_eq (a b : Rat) : cmpQ a b = if a.num * b.den < b.num * a.den then -1 else if a.num * b.den = b.num * a.den then 0 else 1 := by
 unfold cmpQ
 have h1 := Rat.lt_iff a b
 have h2 : a = b ↔ a.num * b.den = b.num * a.den := by
  constructor
  ·rintro rfl; rfl
  ·intro h
   have := (Rat.mkRat_eq_iff (n₁ := a.num) (n₂ := b.num) a.den_nz b.den_nz).2 h
   rwa [Rat.mkRat_self, Rat.mkRat_self] at this
 by_cases h : a < b
 ·rw [if_pos h, if_pos (h1.1 h)]
 ·rw [if_neg h, if_neg (fun x => h (h1.2 x))]
  by_cases h' : a = b
  ·rw [if_pos h', if_pos (h2.1 h')]
  ·rw [if_neg h', if_neg (fun x => h' (h2.2 x))]
def fineQ (k : Nat) : Rat := mkRat 1 (2 ^ k)
theorem num_neg (q : Rat) : q.num < 0 ↔ q < 0 := by
 rw [← sgZ_num_lt]; unfold sgZ
 split
 ·omega
 ·split <;> omega
def absQ (q : Rat) : Rat := mkRat q.num.natAbs q.den
theorem absQ_eq (q : Rat) : absQ q = if q < 0 then -q else q := by
 unfold absQ
 by_cases h : q < 0
 ·have hn : q.num < 0 := (num_neg q).2 h
  rw [if_pos h]
  have e : (q.num.natAbs : Int) = (-q).num := by rw [Rat.neg_num]; omega
  rw [e, ← Rat.neg_den, Rat.mkRat_self]
 ·have hn : ¬ q.num < 0 := fun e => h ((num_neg q).1 e)
  rw [if_neg h]
  have e : (q.num.natAbs : Int) = q.num := by omega
  rw [e, Rat.mkRat_self]
theorem absQ_num (q : Rat) : (absQ q).num = (q.num.natAbs : Int) := by
 rw [absQ_eq]
 by_cases h : q < 0
 ·rw [if_pos h, Rat.neg_num]; have hn : q.num < 0 := (num_neg q).2 h; omega
 ·rw [if_neg h]; have hn : ¬ q.num < 0 := fun e => h ((num_neg q).1 e); omega
theorem absQ_den (q : Rat) : (absQ q).den = q.den := by
 rw [absQ_eq]; split
 ·exact Rat.neg_den ..
 ·rfl
theorem qC_abs (q : Rat) : qC (absQ q) = zI (sgn false q.num.natAbs) ++ [mag (q.den - 1)] := by
 unfold qC zI
 rw [absQ_num, absQ_den]
 rfl
end Go.Abs
namespace Go.Proofs.YtdjfjpeoddmamaaGreatDoor
open Go.Abs
set_option maxRecDepth 20000
theorem digs_len0 (n : Nat) : ((digs MB n).length == 0) = (n == 0) := by
 rw [Bool.eq_iff_iff]
 simp only [beq_iff_eq, List.length_eq_zero_iff]
 exact digs_eq_nil (by decide)
theorem fs_mzero (n : Nat) : FSpec Tryz.prog 169 [.agg [mag n]] (bln (n == 0)) := by
 rw [← digs_len0]; exact fs_zero _
theorem fs_signed (b : Bool) (m : Nat) : FSpec Tryz.prog 152 [bln b, .agg [mag m]] (.agg (zI (sgn b m))) := by
 have e : AV.agg (zI (sgn b m)) = .agg [mag m, bln (b && !(m == 0))] := by unfold zI; rw [sgn_natAbs, sgn_neg]
 rw [e]
 refine FSpec.enter Tryz.func152 rfl (by kernel_rfl) rfl rfl rfl ?_ rfl ?_
 ·exact closed_cons (closed_v _) (closed_cons (closed_mA m) closed_nil)
 cases b with
 | true =>
  refine r_z 2 ?_
  refine AWp.seq ?_
  refine AWp.regD hmix (m := 9) rfl ?_
  refine a_3 ?_
  first | refine AR.op0y rfl rfl (gy (by first | rfl | assumption | exact decide_eq_true (by omega) | (simp; done) | (simp; omega))) (.load_l rfl rfl rfl tg_31.h ts_31.h (nle rfl)) rfl rfl ?_ | refine AR.op0y rfl rfl (gy (by first | rfl | assumption | exact decide_eq_true (by omega) | (simp; done) | (simp; omega))) (.load_a rfl rfl tg_31.h ts_31.h (nle rfl)) rfl rfl ?_
  refine AR.op0y rfl rfl (gy (by first | rfl | assumption | exact decide_eq_true (by omega) | (simp; done) | (simp; omega))) (.call rfl rfl rfl (fs_mzero m)) rfl rfl ?_
  refine AR.op0y rfl rfl (gy (by first | rfl | assumption | exact decide_eq_true (by omega) | (simp; done) | (simp; omega))) (.un rfl un_not) rfl rfl ?_
  refine o_0 (.pickT rfl (by first | rfl | assumption | exact decide_eq_true (by omega) | (simp; done) | (simp; omega)) rfl) ?_
  refine a_2 ?_
  refine AR.nil ⟨by kernel_rfl, ?_⟩
  refine AWp.ret ?_
  refine Fin.cellE rfl rfl rfl tg_33.h ts_33.h (nle rfl) ?_ ?_
  ·rfl
  ·exact closed_agg (closed_cons (closed_mag m) (closed_cons (closed_v _) closed_nil))
 | false =>
  refine r_z 2 ?_
  refine AWp.seq ?_
  refine AWp.regD hmix (m := 9) rfl ?_
  refine a_3 ?_
  refine AR.opN rfl rfl (gn (by first | rfl | assumption | exact decide_eq_false (by omega) | (simp; done) | (simp; omega))) rfl rfl ?_
  refine AR.opN rfl rfl (gn (by first | rfl | assumption | exact decide_eq_false (by omega) | (simp; done) | (simp; omega))) rfl rfl ?_
  refine AR.opN rfl rfl (gn (by first | rfl | assumption | exact decide_eq_false (by omega) | (simp; done) | (simp; omega))) rfl rfl ?_
  refine o_0 (.pickF rfl (by first | rfl | assumption | exact decide_eq_false (by omega) | (simp; done) | (simp; omega)) rfl) ?_
  refine a_2 ?_
  refine AR.nil ⟨by kernel_rfl, ?_⟩
  refine AWp.ret ?_
  refine Fin.cellE rfl rfl rfl tg_33.h ts_33.h (nle rfl) ?_ ?_
  ·rfl
  ·exact closed_agg (closed_cons (closed_mag m) (closed_cons (closed_v _) closed_nil))
theorem fs_isign (z : Int) : FSpec Tryz.prog 76 [.agg (zI z)] (i64 (sgZ z)) := by
 refine FSpec.enter Tryz.func76 rfl (by kernel_rfl) rfl rfl rfl ?_ rfl ?_
 ·exact closed_cons (closed_zA z) closed_nil
 refine r_z 2 ?_
 refine AWp.cut (fun _ : Unit => ⟨[], [], 1, 10⟩) (fun _ => 0 < z) ?_ ?_
 ·refine AWp.block ?_
  refine r_c 4 (fs_mzero z.natAbs) ?_
  refine a_z ?_
  refine AWp.cond rfl (fun h => ?_) (fun h => ?_)
  ·refine r_z 1 ?_
   refine AWp.ret (Fin.tmpE rfl ?_ (closed_v _))
   have : z = 0 := by simpa using h
   simp [i64, sgZ, this, ofV]
  ·have h0 : z ≠ 0 := by simpa using h
   refine r_z 3 ?_
   refine AWp.cond rfl (fun h1 => ?_) (fun h1 => ?_)
   ·refine r_z 1 ?_
    refine AWp.ret (Fin.tmpE rfl ?_ (closed_v _))
    have : z < 0 := by simpa using h1
    simp [i64, sgZ, this, h0, ofV]
   ·have : ¬ z < 0 := by simpa using h1
    refine AWp.skip ⟨(), by omega, ?_⟩
    exact s_e []
 rintro _ h1
 refine r_z 1 ?_
 refine AWp.ret (Fin.tmpE rfl ?_ (closed_v _))
 simp only [i64, sgZ]
 rw [if_neg (by omega), if_neg (by omega)]
 rfl
theorem fs_Sign (q : Rat) : FSpec Tryz.prog 14 [.agg (qC q)] (i64 (sgZ q.num)) := by
 refine FSpec.enter Tryz.func14 rfl (by kernel_rfl) rfl rfl rfl ?_ rfl ?_
 ·exact closed_cons (closed_qA q) closed_nil
 refine r_z 2 ?_
 refine r_c 4 (fs_isign q.num) ?_
 refine a_z ?_
 refine AWp.ret ?_
 refine Fin.tmpE rfl ?_ ?_
 ·rfl
 ·exact closed_v _
theorem sgn_mul (a b : Bool) (m n : Nat) : sgn a m * sgn b n = sgn (a != b) (m * n) := by
 cases a <;> cases b <;> simp [sgn, Int.neg_mul, Int.mul_neg]
theorem sgn_add_same (a : Bool) (m n : Nat) : sgn a m + sgn a n = sgn a (m + n) := by
 cases a <;> simp [sgn] <;> omega
theorem sgn_add_lt {a b : Bool} (h : a ≠ b) {m n : Nat} (hl : m ≤ n) : sgn a m + sgn b n = sgn b (n - m) := by
 cases a <;> cases b <;> simp [sgn] at h ⊢ <;> omega
theorem sgn_add_ge {a b : Bool} (h : a ≠ b) {m n : Nat} (hl : n ≤ m) : sgn a m + sgn b n = sgn a (m - n) := by
 cases a <;> cases b <;> simp [sgn] at h ⊢ <;> omega
theorem fs_imul (x y : Int) (h : bl x.natAbs + bl y.natAbs ≤ 17592186044416) : FSpec Tryz.prog 91 [.agg (zI x), .agg (zI y)] (.agg (zI (x * y))) := by
 have e : x * y = sgn (decide (x < 0) != decide (y < 0)) (x.natAbs * y.natAbs) := by
  rw [← sgn_mul, sgn_self, sgn_self]
 rw [e]
 refine FSpec.enter Tryz.func91 rfl (by kernel_rfl) rfl rfl rfl ?_ rfl ?_
 ·exact closed_cons (closed_zA x) (closed_cons (closed_zA y) closed_nil)
 refine r_z 3 ?_
 refine AWp.seq ?_
 refine AWp.regD hmix (m := 12) rfl ?_
 refine c_s (fs_times x.natAbs y.natAbs h) ?_
 refine c_s (fs_signed (decide (x < 0) != decide (y < 0)) (x.natAbs * y.natAbs)) ?_
 refine a_1 ?_
 refine AR.nil ⟨by kernel_rfl, ?_⟩
 refine AWp.ret ?_
 refine Fin.cellE rfl rfl rfl tg_33.h ts_33.h (nle rfl) ?_ ?_
 ·rfl
 ·exact closed_zA _
theorem fs_iadd (x y : Int) (h : bl x.natAbs + bl y.natAbs ≤ 17592186044416) : FSpec Tryz.prog 175 [.agg (zI x), .agg (zI y)] (.agg (zI (x + y))) := by
 obtain ⟨a, ha⟩ : ∃ a, a = decide (x < 0) := ⟨_, rfl⟩
 obtain ⟨b, hb⟩ : ∃ b, b = decide (y < 0) := ⟨_, rfl⟩
 have ex : x = sgn a x.natAbs := by rw [ha, sgn_self]
 have ey : y = sgn b y.natAbs := by rw [hb, sgn_self]
 refine FSpec.enter Tryz.func175 rfl (by kernel_rfl) rfl rfl rfl ?_ rfl ?_
 ·exact closed_cons (closed_zA x) (closed_cons (closed_zA y) closed_nil)
 refine r_z 3 ?_
 refine AWp.cut (fun _ : Unit => ⟨[(2, .lptr 1 0 0), (3, .lptr 2 0 0), (4, .lptr 3 0 0)], [(1, some ⟨33, 2, [zI x]⟩), (2, some ⟨33, 2, [zI y]⟩), (3, some ⟨33, 2, [[.emp, bln false]]⟩)], 4, 42⟩) (fun _ => a ≠ b ∧ y.natAbs ≤ x.natAbs) ?_ ?_
 ·refine AWp.block ?_
  refine r_z 6 ?_
  refine AWp.cond rfl (fun h1 => ?_) (fun h1 => ?_)
  ·have hab : a = b := by rw [ha, hb]; simpa using h1
   have e : x + y = sgn (decide (x < 0)) (x.natAbs + y.natAbs) := by
    conv => lhs; rw [ex, ey, ← hab]
    rw [sgn_add_same, ha]
   rw [e]
   refine AWp.seq ?_
   refine AWp.regD hmix (m := 9) rfl ?_
   refine c_s (fs_plus x.natAbs y.natAbs h) ?_
   refine c_s (fs_signed (decide (x < 0)) (x.natAbs + y.natAbs)) ?_
   refine a_1 ?_
   refine AR.nil ⟨by kernel_rfl, ?_⟩
   refine AWp.ret ?_
   refine Fin.cellE rfl rfl rfl tg_33.h ts_33.h (nle rfl) ?_ ?_
   ·rfl
   ·exact closed_zA _
  ·have hab : a ≠ b := by rw [ha, hb]; simpa using h1
   refine r_c 7 (fs_against x.natAbs y.natAbs h) ?_
   refine a_z ?_
   refine AWp.cond rfl (fun h2 => ?_) (fun h2 => ?_)
   ·have hlt : x.natAbs < y.natAbs := by
     have := of_decide_eq_true h2
     unfold cmpZ at this; split at this
     ·omega
     ·split at this <;> omega
    have e : x + y = sgn (decide (y < 0)) (y.natAbs - x.natAbs) := by
     conv => lhs; rw [ex, ey]
     rw [sgn_add_lt hab (Nat.le_of_lt hlt), hb]
    rw [e]
    refine AWp.seq ?_
    refine AWp.regD hmix (m := 9) rfl ?_
    refine c_s (fs_less y.natAbs x.natAbs (by omega) (Nat.le_of_lt hlt)) ?_
    refine c_s (fs_signed (decide (y < 0)) (y.natAbs - x.natAbs)) ?_
    refine a_1 ?_
    refine AR.nil ⟨by kernel_rfl, ?_⟩
    refine AWp.ret ?_
    refine Fin.cellE rfl rfl rfl tg_33.h ts_33.h (nle rfl) ?_ ?_
    ·rfl
    ·exact closed_zA _
   ·have hge : y.natAbs ≤ x.natAbs := by
     have := of_decide_eq_false h2
     unfold cmpZ at this; split at this
     ·omega
     ·split at this <;> omega
    refine AWp.skip ⟨(), ⟨hab, hge⟩, ?_⟩
    exact s_e []
 rintro _ ⟨hab, hge⟩
 have e : x + y = sgn (decide (x < 0)) (x.natAbs - y.natAbs) := by
  conv => lhs; rw [ex, ey]
  rw [sgn_add_ge hab hge, ha]
 rw [e]
 refine AWp.seq ?_
 refine AWp.regD hmix (m := 9) rfl ?_
 refine c_s (fs_less x.natAbs y.natAbs (by omega) hge) ?_
 refine c_s (fs_signed (decide (x < 0)) (x.natAbs - y.natAbs)) ?_
 refine a_1 ?_
 refine AR.nil ⟨by kernel_rfl, ?_⟩
 refine AWp.ret ?_
 refine Fin.cellE rfl rfl rfl tg_33.h ts_33.h (nle rfl) ?_ ?_
 ·rfl
 ·exact closed_zA _
theorem fs_ofInt (n : Int) (h : -9223372036854775808 ≤ n ∧ n ≤ 9223372036854775807) : FSpec Tryz.prog 142 [i64 n] (.agg (zI n)) := by
 refine FSpec.enter Tryz.func142 rfl (by kernel_rfl) rfl rfl rfl ?_ rfl ?_
 ·exact closed_cons (closed_v _) closed_nil
 refine r_z 1 ?_
 refine AWp.seq ?_
 refine r_z 2 ?_
 refine AWp.cond rfl (fun h1 => ?_) (fun h1 => ?_)
 ·have hn : n < 0 := of_decide_eq_true h1
  have e : n = sgn true n.natAbs := by simp [sgn]; omega
  have hI : 18446744073709551616 - (n + 18446744073709551616) = ((n.natAbs : Nat) : Int) := by omega
  have hs : FSpec Tryz.prog 180 [.v (.int .u64 (18446744073709551616 - (n + 18446744073709551616)))] (.agg [mag n.natAbs]) := by rw [hI]; exact fs_small _ (by omega)
  refine s_r 6 ?_
  refine a_1 ?_
  refine o_0 (.conv rfl (cU64n (by omega) tu_2.h tu_235.h)) ?_
  refine o_0 (.un rfl (uU64_neg (by omega))) ?_
  refine c_s (hs) ?_
  refine c_s (fs_signed true n.natAbs) ?_
  refine a_z ?_
  refine AWp.ret ?_
  refine Fin.cellE rfl rfl rfl tg_33.h ts_33.h (nle rfl) ?_ ?_
  ·show _ = AV.agg (zI n)
   conv => rhs; rw [e]
   rfl
  ·exact closed_zA _
 ·refine AWp.skip ?_
  have hn : 0 ≤ n := by have := of_decide_eq_false h1; omega
  have e : n = sgn false n.natAbs := by simp [sgn]; omega
  have hI : n = ((n.natAbs : Nat) : Int) := by omega
  have hs : FSpec Tryz.prog 180 [.v (.int .u64 n)] (.agg [mag n.natAbs]) := by
   have := fs_small n.natAbs (by omega)
   rwa [u64, ← hI] at this
  refine s_r 5 ?_
  refine a_1 ?_
  refine o_0 (.conv rfl (cU64 (by omega) tu_2.h tu_235.h)) ?_
  refine c_s (hs) ?_
  refine c_s (fs_signed false n.natAbs) ?_
  refine a_z ?_
  refine AWp.ret ?_
  refine Fin.cellE rfl rfl rfl tg_33.h ts_33.h (nle rfl) ?_ ?_
  ·show _ = AV.agg (zI n)
   conv => rhs; rw [e]
   rfl
  ·exact closed_zA _
theorem mag_zero : mag 0 = .arr [] := by unfold mag; rw [digs_zero]; rfl
theorem fs_whole (n : Int) : FSpec Tryz.prog 141 [.agg (zI n)] (.agg (qC n)) := by
 have e : qC (n : Rat) = [mag n.natAbs, bln (decide (n < 0)), mag 0] := rfl
 rw [e]
 refine FSpec.enter Tryz.func141 rfl (by kernel_rfl) rfl rfl rfl ?_ rfl ?_
 ·exact closed_cons (closed_zA n) closed_nil
 refine r_z 2 ?_
 refine r_z 3 ?_
 refine AWp.ret ?_
 refine Fin.cell rfl rfl rfl tg_35.h ts_35.h (nle rfl) (Cv.agg (CvL.cons (Cv.clo shr_nil (closed_mag _)) (CvL.cons (Cv.clo shr_nil (closed_v _)) (CvL.cons (Cv.emp _ mag_zero) CvL.nil))))
theorem fs_Int (n : Int) (h : -9223372036854775808 ≤ n ∧ n ≤ 9223372036854775807) : FSpec Tryz.prog 51 [i64 n] (.agg (qC n)) := by
 refine FSpec.enter Tryz.func51 rfl (by kernel_rfl) rfl rfl rfl ?_ rfl ?_
 ·exact closed_cons (closed_v _) closed_nil
 refine r_z 1 ?_
 refine r_c 4 (fs_ofInt n h) ?_
 refine c_s (fs_whole n) ?_
 refine a_z ?_
 refine AWp.ret ?_
 refine Fin.cellE rfl rfl rfl tg_35.h ts_35.h (nle rfl) ?_ ?_
 ·rfl
 ·exact closed_qA _
theorem fs_bottom (q : Rat) (h : qs q ≤ 1099511627776) : FSpec Tryz.prog 92 [.agg (qC q)] (.agg [mag q.den]) := by
 have hp := q.den_pos
 have hd := qs_den q
 have e : q.den = q.den - 1 + 1 := by omega
 have hb1 := bl_mono (show q.den - 1 ≤ q.den by omega)
 have h1 : bl 1 = 1 := bl_one
 refine FSpec.enter Tryz.func92 rfl (by kernel_rfl) rfl rfl rfl ?_ rfl ?_
 ·exact closed_cons (closed_qA q) closed_nil
 refine r_z 2 ?_
 refine AWp.seq ?_
 refine AWp.regD hmix (m := 5) rfl ?_
 refine c_s (fs_small 1 (by decide)) ?_
 refine c_s (fs_plus (q.den - 1) 1 (by omega)) ?_
 refine a_1 ?_
 refine AR.nil ⟨by kernel_rfl, ?_⟩
 refine AWp.ret ?_
 refine Fin.cellE rfl rfl rfl tg_31.h ts_31.h (nle rfl) ?_ ?_
 ·show AV.agg [mag (q.den - 1 + 1)] = _
  rw [← e]
 ·exact closed_mA _
theorem fs_ratio (n : Int) (d : Nat) (hd : 0 < d) (h : bl n.natAbs + bl d ≤ 2199023255552) : FSpec Tryz.prog 90 [.agg (zI n), .agg [mag d]] (.agg (qC (mkRat n d))) := by
 obtain ⟨g, hg⟩ : ∃ g, g = Nat.gcd n.natAbs d := ⟨_, rfl⟩
 have hgp : 0 < g := by rw [hg]; exact Nat.gcd_pos_of_pos_right _ hd
 have hgd : g ≤ d := by rw [hg]; exact Nat.gcd_le_right _ hd
 have hbg := bl_mono hgd
 have hbn := bl_div_le n.natAbs g
 have hbd := bl_div_le d g
 have hqd : 0 < d / g := Nat.div_pos hgd hgp
 have hfin : AV.agg (qC (mkRat n d)) = .agg (zI (sgn (decide (n < 0)) (n.natAbs / g)) ++ [mag (d / g - 1)]) := by
  unfold qC
  rw [mkRat_sgn hd, (mkRat_num hd).2, ← hg]
  rfl
 rw [hfin]
 have hc := fs_common n.natAbs d (by omega)
 rw [← hg] at hc
 refine FSpec.enter Tryz.func90 rfl (by kernel_rfl) rfl rfl rfl ?_ rfl ?_
 ·exact closed_cons (closed_zA n) (closed_cons (closed_mA d) closed_nil)
 refine r_z 3 ?_
 refine AWp.seq ?_
 refine r_c 6 (hc) ?_
 refine a_z ?_
 refine r_c 3 (fs_one g) ?_
 refine a_z ?_
 refine AWp.cutT (fun _ : Unit => ⟨[(2, .lptr 1 0 0), (3, .lptr 2 0 0), (4, .lptr 3 0 0)], [(1, some ⟨33, 2, [[mag (n.natAbs / g), bln (decide (n < 0))]]⟩), (2, some ⟨31, 1, [[mag (d / g)]]⟩), (3, some ⟨35, 3, [[.emp, bln false, .emp]]⟩)], 4, 36⟩) (fun _ => True) ?_ ?_
 ·refine AWp.cond rfl (fun h1 => ?_) (fun h1 => ?_)
  ·refine r_c 9 (fs_over n.natAbs g (by omega) hgp) ?_
   refine a_z ?_
   refine AWp.reg (m := 7) rfl ?_
   refine c_s (fs_over d g (by omega) hgp) ?_
   refine a_z ?_
   refine ⟨(), trivial, ?_⟩
   exact s_e []
  ·have hg1 : g = 1 := by simpa using h1
   subst hg1
   refine AWp.skip ⟨(), trivial, ?_⟩
   rw [Nat.div_one, Nat.div_one]
   exact s_e []
 rintro _ _
 refine AWp.seq ?_
 refine AWp.regD hmix (m := 10) rfl ?_
 refine c_s (fs_signed (decide (n < 0)) (n.natAbs / g)) ?_
 refine c_s (fs_small 1 (by decide)) ?_
 refine c_s (fs_less (d / g) 1 (by omega) hqd) ?_
 refine a_2 ?_
 refine AR.nil ⟨by kernel_rfl, ?_⟩
 refine AWp.ret ?_
 refine Fin.cellE rfl rfl rfl tg_35.h ts_35.h (nle rfl) ?_ ?_
 ·rfl
 ·exact closed_agg (closed_cons (closed_mag _) (closed_cons (closed_v _) (closed_cons (closed_mag _) closed_nil)))
theorem fs_mul (a b : Rat) (h : qs a + qs b ≤ 549755813888) : FSpec Tryz.prog 19 [.agg (qC a), .agg (qC b)] (.agg (qC (a * b))) := by
 have hp := mul_parts a b
 have h1 := qs_num a; have h2 := qs_den a; have h3 := qs_num b; have h4 := qs_den b
 rw [mul_mkRat]
 refine FSpec.enter Tryz.func19 rfl (by kernel_rfl) rfl rfl rfl ?_ rfl ?_
 ·exact closed_cons (closed_qA a) (closed_cons (closed_qA b) closed_nil)
 refine r_z 3 ?_
 refine AWp.seq ?_
 refine AWp.regD hmix (m := 12) rfl ?_
 refine c_s (fs_imul a.num b.num (by omega)) ?_
 refine c_s (fs_bottom a (by omega)) ?_
 refine c_s (fs_bottom b (by omega)) ?_
 refine c_s (fs_times a.den b.den (by omega)) ?_
 refine c_s (fs_ratio (a.num * b.num) (a.den * b.den) (den_pos2 a b) (by omega)) ?_
 refine a_1 ?_
 refine AR.nil ⟨by kernel_rfl, ?_⟩
 refine AWp.ret ?_
 refine Fin.cellE rfl rfl rfl tg_35.h ts_35.h (nle rfl) ?_ ?_
 ·rfl
 ·exact closed_qA _
theorem zI_nat (n : Nat) : zI (n : Int) = [mag n, bln false] := by
 unfold zI; rw [Int.natAbs_natCast]; rfl
theorem fs_imuln (x : Int) (n : Nat) (h : bl x.natAbs + bl n ≤ 17592186044416) : FSpec Tryz.prog 91 [.agg (zI x), .agg [mag n, bln false]] (.agg (zI (x * n))) := by
 have := fs_imul x n (by simpa using h)
 rwa [zI_nat] at this
theorem fs_add (a b : Rat) (h : qs a + qs b ≤ 549755813888) : FSpec Tryz.prog 89 [.agg (qC a), .agg (qC b)] (.agg (qC (a + b))) := by
 have hp := add_parts a b
 have h1 := qs_num a; have h2 := qs_den a; have h3 := qs_num b; have h4 := qs_den b
 have e1 := bl_prod_le (x := a.num) (y := b.den) h1 (by simpa using h4)
 have e2 := bl_prod_le (x := b.num) (y := a.den) h3 (by simpa using h2)
 rw [add_mkRat]
 refine FSpec.enter Tryz.func89 rfl (by kernel_rfl) rfl rfl rfl ?_ rfl ?_
 ·exact closed_cons (closed_qA a) (closed_cons (closed_qA b) closed_nil)
 refine r_z 3 ?_
 refine AWp.seq ?_
 refine AWp.regD hmix (m := 8) rfl ?_
 refine c_s (fs_bottom a (by omega)) ?_
 refine c_s (fs_bottom b (by omega)) ?_
 refine a_4 ?_
 refine AR.nil ⟨by kernel_rfl, ?_⟩
 refine AWp.seq ?_
 refine AWp.regD hmix (m := 16) rfl ?_
 refine c_s (fs_imuln a.num b.den (by omega)) ?_
 refine c_s (fs_imuln b.num a.den (by omega)) ?_
 refine c_s (fs_iadd (a.num * b.den) (b.num * a.den) (by omega)) ?_
 refine c_s (fs_times a.den b.den (by omega)) ?_
 refine c_s (fs_ratio (a.num * b.den + b.num * a.den) (a.den * b.den) (den_pos2 a b) (by omega)) ?_
 refine a_1 ?_
 refine AR.nil ⟨by kernel_rfl, ?_⟩
 refine AWp.ret ?_
 refine Fin.cellE rfl rfl rfl tg_35.h ts_35.h (nle rfl) ?_ ?_
 ·rfl
 ·exact closed_qA _
theorem neg_parts (a : Rat) : qC (-a) = zI (sgn (!decide (a.num < 0)) a.num.natAbs) ++ [mag (a.den - 1)] := by
 unfold qC
 rw [Rat.neg_num, Rat.neg_den]
 have e : -a.num = sgn (!decide (a.num < 0)) a.num.natAbs := by
  unfold sgn
  by_cases h : a.num < 0
  ·simp [h]; omega
  ·simp [h]; omega
 rw [e]; rfl
theorem fs_neg (a : Rat) : FSpec Tryz.prog 58 [.agg (qC a)] (.agg (qC (-a))) := by
 have hc := closed_qA (-a)
 rw [neg_parts] at hc ⊢
 refine FSpec.enter Tryz.func58 rfl (by kernel_rfl) rfl rfl rfl ?_ rfl ?_
 ·exact closed_cons (closed_qA a) closed_nil
 refine r_z 2 ?_
 refine AWp.seq ?_
 refine AWp.regD hmix (m := 12) rfl ?_
 refine c_s (fs_signed (!decide (a.num < 0)) a.num.natAbs) ?_
 refine a_4 ?_
 refine AR.nil ⟨by kernel_rfl, ?_⟩
 refine AWp.ret ?_
 refine Fin.cellE rfl rfl rfl tg_35.h ts_35.h (nle rfl) ?_ ?_
 ·rfl
 ·exact hc
theorem fs_sub (a b : Rat) (h : qs a + qs b ≤ 549755813888) : FSpec Tryz.prog 18 [.agg (qC a), .agg (qC b)] (.agg (qC (a - b))) := by
 have hs := fs_add a (-b) (by rw [qs_neg]; exact h)
 rw [← Rat.sub_eq_add_neg] at hs
 refine FSpec.enter Tryz.func18 rfl (by kernel_rfl) rfl rfl rfl ?_ rfl ?_
 ·exact closed_cons (closed_qA a) (closed_cons (closed_qA b) closed_nil)
 refine r_z 3 ?_
 refine AWp.seq ?_
 refine AWp.regD hmix (m := 5) rfl ?_
 refine c_s (fs_neg b) ?_
 refine c_s (hs) ?_
 refine a_1 ?_
 refine AR.nil ⟨by kernel_rfl, ?_⟩
 refine AWp.ret ?_
 refine Fin.cellE rfl rfl rfl tg_35.h ts_35.h (nle rfl) ?_ ?_
 ·rfl
 ·exact closed_qA _
theorem fs_qover (a b : Rat) (hb : b ≠ 0) (h : qs a + qs b ≤ 549755813888) : FSpec Tryz.prog 88 [.agg (qC a), .agg (qC b)] (.agg (qC (a / b))) := by
 have hp := div_parts a b
 have h1 := qs_num a; have h2 := qs_den a; have h3 := qs_num b; have h4 := qs_den b
 have hn : b.num ≠ 0 := fun h => hb (Rat.num_eq_zero.1 h)
 have hs := sgn_natAbs (decide (b.num < 0)) b.den
 rw [div_mkRat a b hb]
 refine FSpec.enter Tryz.func88 rfl (by kernel_rfl) rfl rfl rfl ?_ rfl ?_
 ·exact closed_cons (closed_qA a) (closed_cons (closed_qA b) closed_nil)
 refine r_z 3 ?_
 refine AWp.seq ?_
 refine AWp.regD hmix (m := 17) rfl ?_
 refine c_s (fs_bottom b (by omega)) ?_
 refine c_s (fs_signed (decide (b.num < 0)) b.den) ?_
 refine c_s (fs_imul a.num (sgn (decide (b.num < 0)) b.den) (by rw [hs]; omega)) ?_
 refine c_s (fs_bottom a (by omega)) ?_
 refine c_s (fs_times a.den b.num.natAbs (by omega)) ?_
 refine c_s (fs_ratio (a.num * sgn (decide (b.num < 0)) b.den) (a.den * b.num.natAbs) (Nat.mul_pos a.den_pos (by omega)) (by omega)) ?_
 refine a_1 ?_
 refine AR.nil ⟨by kernel_rfl, ?_⟩
 refine AWp.ret ?_
 refine Fin.cellE rfl rfl rfl tg_35.h ts_35.h (nle rfl) ?_ ?_
 ·rfl
 ·exact closed_qA _
theorem fs_div (a b : Rat) (hb : b ≠ 0) (h : qs a + qs b ≤ 549755813888) : FSpec Tryz.prog 17 [.agg (qC a), .agg (qC b)] (.tup [.agg (qC (a / b)), i64 0]) := by
 have hn : b.num ≠ 0 := fun h => hb (Rat.num_eq_zero.1 h)
 have hsg : sgZ b.num ≠ 0 := by unfold sgZ; rw [if_neg hn]; split <;> decide
 refine FSpec.enter Tryz.func17 rfl (by kernel_rfl) rfl rfl rfl ?_ rfl ?_
 ·exact closed_cons (closed_qA a) (closed_cons (closed_qA b) closed_nil)
 refine r_z 4 ?_
 refine AWp.seq ?_
 refine r_c 3 (fs_Sign b) ?_
 refine a_z ?_
 refine AWp.cond rfl (fun h => ?_) (fun h => ?_)
 ·exact absurd h (by simpa using hsg)
 ·refine AWp.skip ?_
  refine r_c 5 (fs_qover a b hb (by assumption)) ?_
  refine a_z ?_
  refine AWp.ret ?_
  refine Fin.many ⟨_, _, rfl, ⟨_, _, _, _, _, rfl, rfl, rfl, .inl ⟨tg_35.h, _, ts_35.h, nle rfl, rfl⟩⟩, ⟨_, _, rfl, rfl, rfl⟩⟩ (nle rfl) ?_
  exact CvL.cons (Cv.clo shr_nil (closed_qA _)) (CvL.cons (Cv.clo shr_nil (closed_v _)) CvL.nil)
theorem cmp_key (x : Int) (n : Nat) (hn : 0 < n) : (sgZ x = -1 ∧ ∃ p : Nat, 0 < p ∧ x * n = -(p : Int) ∧ x.natAbs * n = p) ∨ (sgZ x = 0 ∧ x * n = 0 ∧ x.natAbs * n = 0) ∨ (sgZ x = 1 ∧ ∃ p : Nat, 0 < p ∧ x * n = p ∧ x.natAbs * n = p) := by
 rcases Int.lt_trichotomy x 0 with hx | hx | hx
 ·refine .inl ⟨by unfold sgZ; rw [if_neg (by omega), if_pos hx], x.natAbs * n, Nat.mul_pos (by omega) hn, ?_, rfl⟩
  rw [Int.natCast_mul, ← Int.neg_mul]; congr 1; omega
 ·subst hx; refine .inr (.inl ⟨rfl, by simp, by simp⟩)
 ·refine .inr (.inr ⟨by unfold sgZ; rw [if_neg (by omega), if_neg (by omega)], x.natAbs * n, Nat.mul_pos (by omega) hn, ?_, rfl⟩)
  rw [Int.natCast_mul]; congr 1; omega
theorem cmp_code (a b : Rat) : cmpQ a b = if sgZ a.num ≠ sgZ b.num ∨ sgZ a.num = 0 then sgZ a.num - sgZ b.num - (sgZ a.num - sgZ b.num).tdiv 2 else sgZ a.num * cmpZ ((a.num.natAbs * b.den : Nat) : Int) ((b.num.natAbs * a.den : Nat) : Int) := by
 rw [cmpQ_eq]
 rcases cmp_key a.num b.den b.den_pos with ⟨s1, p, hp, e1, f1⟩ | ⟨s1, e1, f1⟩ | ⟨s1, p, hp, e1, f1⟩ <;> rcases cmp_key b.num a.den a.den_pos with ⟨s2, q, hq, e2, f2⟩ | ⟨s2, e2, f2⟩ | ⟨s2, q, hq, e2, f2⟩ <;> rw [s1, s2, e1, e2, f1, f2] <;> unfold cmpZ <;> simp <;> (repeat' split) <;> first | rfl | omega
theorem fs_cmp (a b : Rat) (ha : sm a) (hb : sm b) : FSpec Tryz.prog 25 [.agg (qC a), .agg (qC b)] (i64 (cmpQ a b)) := by
 have hs := sm2 ha hb
 have h1 := qs_num a; have h2 := qs_den a; have h3 := qs_num b; have h4 := qs_den b
 have hc := cmp_code a b
 have hsa : sgZ a.num = -1 ∨ sgZ a.num = 0 ∨ sgZ a.num = 1 := by unfold sgZ; split; simp; split <;> simp
 have hsb : sgZ b.num = -1 ∨ sgZ b.num = 0 ∨ sgZ b.num = 1 := by unfold sgZ; split; simp; split <;> simp
 have hbm1 := bl_mul a.num.natAbs b.den
 have hbm2 := bl_mul b.num.natAbs a.den
 refine FSpec.enter Tryz.func25 rfl (by kernel_rfl) rfl rfl rfl ?_ rfl ?_
 ·exact closed_cons (closed_qA a) (closed_cons (closed_qA b) closed_nil)
 refine r_z 3 ?_
 refine AWp.seq ?_
 refine AWp.seq ?_
 refine AWp.regD hmix (m := 6) rfl ?_
 refine c_s (fs_Sign a) ?_
 refine c_s (fs_Sign b) ?_
 refine a_2 ?_
 refine AR.nil ⟨by kernel_rfl, ?_⟩
 obtain ⟨x, hx⟩ : ∃ x, x = sgZ a.num := ⟨_, rfl⟩
 obtain ⟨y, hy⟩ : ∃ y, y = sgZ b.num := ⟨_, rfl⟩
 rw [← hx] at hsa hc ⊢
 rw [← hy] at hsb hc ⊢
 have hq : (x - y).tdiv 2 = -1 ∨ (x - y).tdiv 2 = 0 ∨ (x - y).tdiv 2 = 1 := by
  rcases hsa with h | h | h <;> rcases hsb with h' | h' | h' <;> rw [h, h'] <;> decide
 refine AWp.cutT (fun _ : Unit => ⟨[(2, .lptr 1 0 0), (3, .lptr 2 0 0)], [(1, some ⟨35, 3, [qC a]⟩), (2, some ⟨35, 3, [qC b]⟩)], 3, 42⟩) (fun _ => x = y ∧ x ≠ 0) ?_ ?_
 ·by_cases he : x = y
  ·refine s_r 7 ?_
   refine a_4 ?_
   refine AR.op0y rfl rfl (gy (by simp [he])) (.move rfl) rfl rfl ?_
   refine AR.op0y rfl rfl (gy (by simp [he])) (.bin rfl rfl binI_eql) rfl rfl ?_
   refine o_0 (.pickF rfl (by simp [he]) rfl) ?_
   refine AR.nil ?_
   refine AWp.cond rfl (fun h => ?_) (fun h => ?_)
   ·have h0 : x = 0 := by simpa using h
    refine s_r 9 ?_
    refine a_6 ?_
    refine o_0 (.bin rfl rfl (bI64_tdiv (by decide) (by omega))) ?_
    refine a_z ?_
    refine AWp.ret (Fin.tmpE rfl ?_ (closed_v _))
    rw [hc, if_pos (.inr h0)]; rfl
   ·have h0 : x ≠ 0 := by simpa using h
    refine AWp.skip ⟨(), ⟨he, h0⟩, ?_⟩
    exact s_e []
  ·refine s_r 7 ?_
   refine a_4 ?_
   refine AR.opN rfl rfl (gn (by simp [he])) rfl rfl ?_
   refine AR.opN rfl rfl (gn (by simp [he])) rfl rfl ?_
   refine o_0 (.pickT rfl (by simp [he]) rfl) ?_
   refine AR.nil ?_
   refine AWp.cond rfl (fun h => ?_) (fun h => ?_)
   ·refine s_r 9 ?_
    refine a_6 ?_
    refine o_0 (.bin rfl rfl (bI64_tdiv (by decide) (by omega))) ?_
    refine a_z ?_
    refine AWp.ret (Fin.tmpE rfl ?_ (closed_v _))
    rw [hc, if_pos (.inl he)]; rfl
   ·cases h
 rintro _ ⟨he, h0⟩
 have hcz : cmpZ ((a.num.natAbs * b.den : Nat) : Int) ((b.num.natAbs * a.den : Nat) : Int) = -1 ∨ cmpZ ((a.num.natAbs * b.den : Nat) : Int) ((b.num.natAbs * a.den : Nat) : Int) = 0 ∨ cmpZ ((a.num.natAbs * b.den : Nat) : Int) ((b.num.natAbs * a.den : Nat) : Int) = 1 := by
  unfold cmpZ; split; simp; split <;> simp
 have hsx := fs_Sign a
 rw [← hx] at hsx
 have hmul : -9223372036854775808 ≤ x * cmpZ ((a.num.natAbs * b.den : Nat) : Int) ((b.num.natAbs * a.den : Nat) : Int) ∧ x * cmpZ ((a.num.natAbs * b.den : Nat) : Int) ((b.num.natAbs * a.den : Nat) : Int) ≤ 9223372036854775807 := by
  rcases hsa with h | h | h <;> rcases hcz with h' | h' | h' <;> rw [h, h'] <;> decide
 refine AWp.seq ?_
 refine AWp.regD hmix (m := 17) rfl ?_
 refine c_s (hsx) ?_
 refine c_s (fs_bottom b (by omega)) ?_
 refine c_s (fs_times a.num.natAbs b.den (by omega)) ?_
 refine c_s (fs_bottom a (by omega)) ?_
 refine c_s (fs_times b.num.natAbs a.den (by omega)) ?_
 refine c_s (fs_against (a.num.natAbs * b.den) (b.num.natAbs * a.den) (by omega)) ?_
 refine o_0 (.bin rfl rfl (bI64_mul hmul)) ?_
 refine a_1 ?_
 refine AR.nil ⟨by kernel_rfl, ?_⟩
 refine AWp.ret (Fin.tmpE rfl ?_ (closed_v _))
 rw [hc, if_neg (by omega)]; rfl
theorem fs_abs (a : Rat) : FSpec Tryz.prog 97 [.agg (qC a)] (.agg (qC (absQ a))) := by
 have hc := closed_qA (absQ a)
 rw [qC_abs] at hc ⊢
 refine FSpec.enter Tryz.func97 rfl (by kernel_rfl) rfl rfl rfl ?_ rfl ?_
 ·exact closed_cons (closed_qA a) closed_nil
 refine r_z 2 ?_
 refine AWp.seq ?_
 refine AWp.regD hmix (m := 8) rfl ?_
 refine c_s (fs_signed false a.num.natAbs) ?_
 refine a_4 ?_
 refine AR.nil ⟨by kernel_rfl, ?_⟩
 refine AWp.ret ?_
 refine Fin.cellE rfl rfl rfl tg_35.h ts_35.h (nle rfl) ?_ ?_
 ·rfl
 ·exact hc
theorem fs_den (a : Rat) (ha : sm a) : FSpec Tryz.prog 296 [.agg (qC a)] (.agg (qC ((a.den : Int) : Rat))) := by
 have hw := fs_whole (a.den : Int)
 rw [zI_nat] at hw
 refine FSpec.enter Tryz.func296 rfl (by kernel_rfl) rfl rfl rfl ?_ rfl ?_
 ·exact closed_cons (closed_qA a) closed_nil
 refine r_z 2 ?_
 refine r_c 5 (fs_bottom a (by unfold sm at ha; omega)) ?_
 refine c_s (hw) ?_
 refine a_z ?_
 refine AWp.ret ?_
 refine Fin.cellE rfl rfl rfl tg_35.h ts_35.h (nle rfl) ?_ ?_
 ·rfl
 ·exact closed_qA _
theorem ediv_uniq {z q : Int} {d : Nat} (hd : 0 < d) (h1 : q * d ≤ z) (h2 : z < q * d + d) : z / (d : Int) = q := by
 have hdi : (0 : Int) < d := by omega
 have a1 : q ≤ z / (d : Int) := (Int.le_ediv_iff_mul_le hdi).2 h1
 have a2 : z / (d : Int) < q + 1 := (Int.ediv_lt_iff_lt_mul hdi).2 (by rw [Int.add_mul]; omega)
 omega
theorem floor_code (z : Int) (d : Nat) (hd : 0 < d) : z / (d : Int) = sgn (decide (z < 0)) (if (decide (z < 0) && !(z.natAbs % d == 0)) = true then z.natAbs / d + 1 else z.natAbs / d) := by
 have h1 := Nat.div_add_mod z.natAbs d
 have h2 := Nat.mod_lt z.natAbs hd
 generalize hr : z.natAbs % d = r at *
 generalize hq : z.natAbs / d = a at *
 have h3 : ((d * a : Nat) : Int) = (a : Int) * d := by rw [Int.natCast_mul, Int.mul_comm]
 refine ediv_uniq hd ?_ ?_ <;> by_cases hz : z < 0 <;> by_cases h0 : r = 0 <;> simp [sgn, hz, h0, Int.neg_mul, Int.add_mul] <;> omega
theorem fs_ifloor (z : Int) (d : Nat) (hd : 0 < d) (h : bl z.natAbs + bl d ≤ 4398046511104) : FSpec Tryz.prog 325 [.agg (zI z), .agg [mag d]] (.agg (zI (z / d))) := by
 rw [floor_code z d hd]
 have hbq := bl_div_le z.natAbs d
 have hb1 := bl_add (z.natAbs / d) 1
 have hb2 : bl 1 = 1 := bl_one
 obtain ⟨Q, hQ⟩ : ∃ Q, Q = (if (decide (z < 0) && !(z.natAbs % d == 0)) = true then z.natAbs / d + 1 else z.natAbs / d) := ⟨_, rfl⟩
 rw [← hQ]
 refine FSpec.enter Tryz.func325 rfl (by kernel_rfl) rfl rfl rfl ?_ rfl ?_
 ·exact closed_cons (closed_zA z) (closed_cons (closed_mA d) closed_nil)
 refine r_z 3 ?_
 refine r_c 11 (fs_over z.natAbs d h hd) ?_
 refine a_z ?_
 refine AWp.cut (fun _ : Unit => ⟨[(2, .lptr 1 0 0), (4, .lptr 2 0 0), (5, .lptr 3 0 0)], [(1, some ⟨33, 2, [zI z]⟩), (2, some ⟨33, 2, [[.emp, bln false]]⟩), (3, some ⟨31, 1, [[mag Q]]⟩)], 4, 28⟩) (fun _ => True) ?_ ?_
 ·by_cases hz : z < 0
  ·refine s_r 7 ?_
   refine a_3 ?_
   first | refine AR.op0y rfl rfl (gy (by simp [hz])) (.load_l rfl rfl rfl tg_31.h ts_31.h (nle rfl)) rfl rfl ?_ | refine AR.op0y rfl rfl (gy (by simp [hz])) (.load_a rfl rfl tg_31.h ts_31.h (nle rfl)) rfl rfl ?_
   refine AR.op0y rfl rfl (gy (by simp [hz])) (.call rfl rfl rfl (fs_mzero (z.natAbs % d))) rfl rfl ?_
   refine AR.op0y rfl rfl (gy (by simp [hz])) (.un rfl un_not) rfl rfl ?_
   refine o_0 (.pickT rfl (by simp [hz]) rfl) ?_
   refine AR.nil ?_
   refine AWp.cond rfl (fun h1 => ?_) (fun h1 => ?_)
   ·have : Q = z.natAbs / d + 1 := by rw [hQ, if_pos]; simpa [hz] using h1
    rw [this]
    refine AWp.regD hmix (m := 4) rfl ?_
    refine c_s (fs_small 1 (by decide)) ?_
    refine c_s (fs_plus (z.natAbs / d) 1 (by omega)) ?_
    refine a_1 ?_
    refine AR.nil ⟨by kernel_rfl, ?_⟩
    refine ⟨(), trivial, ?_⟩
    exact s_e [(2, 4), (3, 5)]
   ·have : Q = z.natAbs / d := by rw [hQ, if_neg]; simpa [hz] using h1
    rw [this]
    refine AWp.skip ⟨(), trivial, ?_⟩
    exact s_e [(2, 4), (3, 5)]
  ·refine s_r 7 ?_
   refine a_3 ?_
   refine AR.opN rfl rfl (gn (by simp [hz])) rfl rfl ?_
   refine AR.opN rfl rfl (gn (by simp [hz])) rfl rfl ?_
   refine AR.opN rfl rfl (gn (by simp [hz])) rfl rfl ?_
   refine o_0 (.pickF rfl (by simp [hz]) rfl) ?_
   refine AR.nil ?_
   have : Q = z.natAbs / d := by rw [hQ, if_neg]; simp [hz]
   rw [this]
   refine AWp.cond rfl (fun h => ?_) (fun h => AWp.skip ⟨(), trivial, ?_⟩)
   ·cases h
   ·exact s_e [(2, 4), (3, 5)]
 rintro _ _
 refine r_c 5 (fs_signed (decide (z < 0)) Q) ?_
 refine a_z ?_
 refine AWp.ret ?_
 refine Fin.cellE rfl rfl rfl tg_33.h ts_33.h (nle rfl) ?_ ?_
 ·rfl
 ·exact closed_zA _
theorem fs_floor (q : Rat) (h : qs q ≤ 1099511627776) : FSpec Tryz.prog 300 [.agg (qC q)] (.agg (qC (q.floor : Rat))) := by
 have h1 := qs_num q; have h2 := qs_den q
 rw [Rat.floor_def]
 refine FSpec.enter Tryz.func300 rfl (by kernel_rfl) rfl rfl rfl ?_ rfl ?_
 ·exact closed_cons (closed_qA q) closed_nil
 refine r_z 2 ?_
 refine AWp.seq ?_
 refine AWp.regD hmix (m := 7) rfl ?_
 refine c_s (fs_bottom q h) ?_
 refine c_s (fs_ifloor q.num q.den q.den_pos (by omega)) ?_
 refine c_s (fs_whole (q.num / q.den)) ?_
 refine a_1 ?_
 refine AR.nil ⟨by kernel_rfl, ?_⟩
 refine AWp.ret ?_
 refine Fin.cellE rfl rfl rfl tg_35.h ts_35.h (nle rfl) ?_ ?_
 ·rfl
 ·exact closed_qA _
def ceilQ (q : Rat) : Rat := -((-q).floor : Rat)
theorem fs_ceil (q : Rat) (h : qs q ≤ 1099511627776) : FSpec Tryz.prog 299 [.agg (qC q)] (.agg (qC (ceilQ q))) := by
 refine FSpec.enter Tryz.func299 rfl (by kernel_rfl) rfl rfl rfl ?_ rfl ?_
 ·exact closed_cons (closed_qA q) closed_nil
 refine r_z 2 ?_
 refine r_c 5 (fs_neg q) ?_
 refine c_s (fs_floor (-q) (by rw [qs_neg]; exact h)) ?_
 refine c_s (fs_neg ((-q).floor : Rat)) ?_
 refine a_z ?_
 refine AWp.ret ?_
 refine Fin.cellE rfl rfl rfl tg_35.h ts_35.h (nle rfl) ?_ ?_
 ·rfl
 ·exact closed_qA _
def wi (k : Int) (m : Nat) : Nat := (max 0 (min k m)).toNat
theorem fs_within (k : Int) (m : Nat) : FSpec Tryz.prog 324 [i64 k, i64 m] (i64 (wi k m)) := by
 refine FSpec.enter Tryz.func324 rfl (by kernel_rfl) rfl rfl rfl ?_ rfl ?_
 ·exact closed_cons (closed_v _) (closed_cons (closed_v _) closed_nil)
 refine r_z 1 ?_
 refine r_z 5 ?_
 refine AWp.ret ?_
 refine Fin.tmpE rfl ?_ ?_
 ·simp only [i64, wi]
  congr 2
  split <;> split <;> omega
 ·exact closed_v _
def powS  : Nat × Nat × Nat → AState
 | (o, x, m) => ⟨[(1, i64 m), (2, .lptr 1 0 0), (4, .lptr 2 0 0), (5, .lptr 3 0 0)], [(1, some ⟨31, 1, [[mag x]]⟩), (2, some ⟨31, 1, [[.emp]]⟩), (3, some ⟨31, 1, [[mag o]]⟩)], 4, 23⟩
theorem powS_mk  (o : Nat) (x : Nat) (m : Nat) : powS  (o, x, m) = ⟨[(1, i64 m), (2, .lptr 1 0 0), (4, .lptr 2 0 0), (5, .lptr 3 0 0)], [(1, some ⟨31, 1, [[mag x]]⟩), (2, some ⟨31, 1, [[.emp]]⟩), (3, some ⟨31, 1, [[mag o]]⟩)], 4, 23⟩ := rfl
theorem pow_halves (x m : Nat) : x ^ m = (x * x) ^ (m / 2) * (if m % 2 = 1 then x else 1) := by
 rw [← Nat.pow_two, ← Nat.pow_mul]
 have := Nat.div_add_mod m 2
 split
 ·rename_i h; rw [← Nat.pow_succ]; congr 1; omega
 ·rename_i h; rw [Nat.mul_one]; congr 1; omega
theorem fs_mpower (a n : Nat) (h : bl a * n ≤ 2199023255552) (hn : n ≤ 1000000) : FSpec Tryz.prog 323 [.agg [mag a], i64 n] (.agg [mag (a ^ n)]) := by
 refine FSpec.enter Tryz.func323 rfl (by kernel_rfl) rfl rfl rfl ?_ rfl ?_
 ·exact closed_cons (closed_mA a) (closed_cons (closed_v _) closed_nil)
 refine r_z 2 ?_
 refine r_c 3 (fs_small 1 (by decide)) ?_
 refine a_z ?_
 refine AWp.cut (fun _ : Unit => ⟨[(4, .lptr 2 0 0), (5, .lptr 3 0 0)], [(2, some ⟨31, 1, [[.emp]]⟩), (3, some ⟨31, 1, [[mag (a ^ n)]]⟩)], 4, 23⟩) (fun _ => True) ?_ ?_
 ·refine AWp.block ?_
  refine AWp.loopS powS (fun x => x.2.2) (fun x => x.1 * x.2.1 ^ x.2.2 = a ^ n ∧ bl x.1 + bl x.2.1 * x.2.2 ≤ 2199023255553 ∧ x.2.2 ≤ 1000000) (1, a, n) ⟨by simp, by have : bl 1 = 1 := bl_one; simp only; omega, hn⟩ ?_ ?_
  ·rw [powS_mk]
   exact s_e [(1, 2), (2, 4), (3, 5)]
  rintro ⟨o, x, m⟩ ⟨hv, hb, hm⟩
  simp only at hv hb hm
  rw [powS_mk]
  refine AWp.seq ?_
  refine r_z 2 ?_
  refine AWp.cond rfl (fun h => ?_) (fun h => ?_)
  ·have hm0 : 0 < m := by simpa using h
   have hx1 : bl x * 1 ≤ bl x * m := Nat.mul_le_mul_left _ hm0
   have hph := pow_halves x m
   refine AWp.skip ?_
   have hq : (m : Int).tdiv 2 = ((m / 2 : Nat) : Int) := by
    rw [Int.tdiv_eq_ediv_of_nonneg (by omega)]; omega
   have hdm := Nat.div_add_mod m 2
   have hml := Nat.mod_lt m (show 0 < 2 by decide)
   have hlt : m / 2 < m := by omega
   have hbx := bl_mul x x
   have hbo := bl_mul o x
   have hxm : bl x * m = bl x * (2 * (m / 2)) + bl x * (m % 2) := by rw [← Nat.mul_add]; congr 1; omega
   have hx2 : bl (x * x) * (m / 2) ≤ bl x * (2 * (m / 2)) := by
    have := Nat.mul_le_mul_right (m / 2) hbx
    rw [← Nat.two_mul, Nat.mul_comm 2, Nat.mul_assoc] at this; exact this
   have hI : (m : Int) % 2 = ((m % 2 : Nat) : Int) := by omega
   have hI2 : (m : Int) / 2 = ((m / 2 : Nat) : Int) := by omega
   refine AWp.seq ?_
   refine AWp.block ?_
   refine AWp.cut (fun o' : Nat => powS (o', x, m)) (fun o' => o' = o * (if m % 2 = 1 then x else 1)) ?_ ?_
   ·refine r_z 3 ?_
    refine AWp.cond rfl (fun h1 => ?_) (fun h1 => ?_)
    ·have hodd : m % 2 = 1 := by simp at h1; omega
     refine AWp.reg (m := 4) rfl ?_
     refine c_s (fs_times o x (by omega)) ?_
     refine a_z ?_
     refine ⟨o * x, by rw [if_pos hodd], ?_⟩
     simp only [powS_mk]
     exact s_e []
    ·have hev : ¬ m % 2 = 1 := by simp at h1; omega
     refine AWp.skip ⟨o, by rw [if_neg hev, Nat.mul_one], ?_⟩
     simp only [powS_mk]
     exact s_e []
   rintro o' ho'
   rw [powS_mk]
   have hbo' : bl o' ≤ bl o + bl x * (m % 2) := by
    rw [ho']
    split
    ·rename_i h1; rw [h1]; omega
    ·rw [Nat.mul_one]; omega
   have hv' : o' * (x * x) ^ (m / 2) = a ^ n := by
    rw [← hv, hph, ho', Nat.mul_assoc, Nat.mul_comm (if m % 2 = 1 then x else 1)]
   refine r_z 2 ?_
   refine AWp.cond rfl (fun h2 => ?_) (fun h2 => ?_)
   ·refine AWp.reg (m := 4) rfl ?_
    refine c_s (fs_times x x (by omega)) ?_
    refine a_z ?_
    refine AWp.reg (m := 3) rfl ?_
    refine a_z ?_
    refine ⟨(o', x * x, m / 2), hlt, ⟨hv', by simp only; omega, by simp only; omega⟩, ?_⟩
    rw [powS_mk]
    refine SEnt.to [] rfl rfl rfl au_r (fun hs => ?_) (fun hs => ?_)
    ·repeat' (first | exact CvF.nil | refine CvF.cons rfl ?_ ?_)
     all_goals (first | (exact Cv.loE hs (congrArg (fun z => AV.v (.int .i64 z)) hI2) (closed_v _)) | exact au_c)
    ·repeat' (first | exact CvH.nil | refine CvH.cons rfl rfl rfl rfl ?_ ?_)
     all_goals (first | exact au_e | (refine CvLL.box ?_; repeat' (first | exact CvL.nil | refine CvL.cons ?_ ?_)))
     all_goals (first | (exact Cv.loE hs (congrArg (fun z => AV.v (.int .i64 z)) hI2) (closed_v _)) | exact au_c)
   ·have hm1 : m / 2 = 0 := by simp at h2; omega
    refine AWp.skip ?_
    refine AWp.reg (m := 3) rfl ?_
    refine a_z ?_
    rw [hm1] at hv' hI2
    refine ⟨(o', x, 0), hm0, ⟨by simpa using hv', by simp only; omega, by simp only; omega⟩, ?_⟩
    rw [powS_mk]
    refine SEnt.to [] rfl rfl rfl au_r (fun hs => ?_) (fun hs => ?_)
    ·repeat' (first | exact CvF.nil | refine CvF.cons rfl ?_ ?_)
     all_goals (first | (exact Cv.loE hs (congrArg (fun z => AV.v (.int .i64 z)) hI2) (closed_v _)) | exact au_c)
    ·repeat' (first | exact CvH.nil | refine CvH.cons rfl rfl rfl rfl ?_ ?_)
     all_goals (first | exact au_e | (refine CvLL.box ?_; repeat' (first | exact CvL.nil | refine CvL.cons ?_ ?_)))
     all_goals (first | (exact Cv.loE hs (congrArg (fun z => AV.v (.int .i64 z)) hI2) (closed_v _)) | exact au_c)
  ·have hm0 : m = 0 := by simp at h; omega
   subst hm0
   refine AWp.exit ⟨(), trivial, ?_⟩
   have hv' : o = a ^ n := by simpa using hv
   rw [hv']
   exact s_e []
 rintro _ _
 refine r_z 2 ?_
 refine AWp.ret ?_
 refine Fin.cellE rfl rfl rfl tg_31.h ts_31.h (nle rfl) ?_ ?_
 ·rfl
 ·exact closed_mA _
theorem fs_two (k : Int) : FSpec Tryz.prog 298 [i64 k] (.agg [mag (2 ^ wi k 256)]) := by
 have hw : wi k 256 ≤ 256 := by unfold wi; omega
 have h2 : bl 2 = 2 := by decide
 refine FSpec.enter Tryz.func298 rfl (by kernel_rfl) rfl rfl rfl ?_ rfl ?_
 ·exact closed_cons (closed_v _) closed_nil
 refine r_z 1 ?_
 refine r_c 5 (fs_small 2 (by decide)) ?_
 refine c_s (fs_within k 256) ?_
 refine c_s (fs_mpower 2 (wi k 256) (by rw [h2]; omega) (by omega)) ?_
 refine a_z ?_
 refine AWp.ret ?_
 refine Fin.cellE rfl rfl rfl tg_31.h ts_31.h (nle rfl) ?_ ?_
 ·rfl
 ·exact closed_mA _
theorem bl_two (k : Nat) : bl (2 ^ k) ≤ k + 1 := bl_le (by rw [Nat.pow_succ]; have := Nat.pow_pos (n := k) (show 0 < 2 by decide); omega)
theorem fs_Fine (k : Int) : FSpec Tryz.prog 275 [i64 k] (.agg (qC (fineQ (wi k 256)))) := by
 have hw : wi k 256 ≤ 256 := by unfold wi; omega
 have hb := bl_two (wi k 256)
 have h1 : bl (1 : Int).natAbs = 1 := bl_one
 refine FSpec.enter Tryz.func275 rfl (by kernel_rfl) rfl rfl rfl ?_ rfl ?_
 ·exact closed_cons (closed_v _) closed_nil
 refine r_z 1 ?_
 refine r_c 5 (fs_ofInt 1 (by decide)) ?_
 refine c_s (fs_two k) ?_
 refine c_s (fs_ratio 1 (2 ^ wi k 256) (Nat.pow_pos (by decide)) (by omega)) ?_
 refine a_z ?_
 refine AWp.ret ?_
 refine Fin.cellE rfl rfl rfl tg_35.h ts_35.h (nle rfl) ?_ ?_
 ·rfl
 ·exact closed_qA _
def twoQ (k : Nat) : Rat := ((2 ^ k : Nat) : Int)
theorem qs_twoQ (k : Nat) : qs (twoQ k) ≤ k + 1 := by
 have h1 : (twoQ k).num = ((2 ^ k : Nat) : Int) := rfl
 have h2 : (twoQ k).den = 1 := rfl
 unfold qs
 rw [h1, h2, Int.natAbs_natCast, bl_one]
 have := bl_two k
 omega
theorem qs_fineQ (k : Nat) : qs (fineQ k) ≤ k + 1 := by
 have h1 : bl (1 : Int).natAbs = 1 := bl_one
 exact qs_mkRat (Nat.pow_pos (by decide)) (by omega) (bl_two k)
theorem fs_qtimes (a : Rat) (k : Int) (h : qs a ≤ 549755813000) : FSpec Tryz.prog 302 [.agg (qC a), i64 k] (.agg (qC (a * twoQ (wi k 256)))) := by
 have hw : wi k 256 ≤ 256 := by unfold wi; omega
 have h2 := qs_twoQ (wi k 256)
 have hwh := fs_whole ((2 ^ wi k 256 : Nat) : Int)
 rw [zI_nat] at hwh
 refine FSpec.enter Tryz.func302 rfl (by kernel_rfl) rfl rfl rfl ?_ rfl ?_
 ·exact closed_cons (closed_qA a) (closed_cons (closed_v _) closed_nil)
 refine r_z 2 ?_
 refine AWp.seq ?_
 refine AWp.regD hmix (m := 7) rfl ?_
 refine c_s (fs_two k) ?_
 refine c_s (hwh) ?_
 refine c_s (fs_mul a (twoQ (wi k 256)) (by omega)) ?_
 refine a_1 ?_
 refine AR.nil ⟨by kernel_rfl, ?_⟩
 refine AWp.ret ?_
 refine Fin.cellE rfl rfl rfl tg_35.h ts_35.h (nle rfl) ?_ ?_
 ·rfl
 ·exact closed_qA _
def downQ (a : Rat) (k : Nat) : Rat := ((a * twoQ k).floor : Rat) * fineQ k
def upQ (a : Rat) (k : Nat) : Rat := ceilQ (a * twoQ k) * fineQ k
theorem qs_floor (a : Rat) : qs (a.floor : Rat) ≤ qs a + 1 := by
 rw [Rat.floor_def]
 have h1 := qs_num a
 have e1 : ((a.num / (a.den : Int) : Int) : Rat).num = a.num / a.den := rfl
 have e2 : ((a.num / (a.den : Int) : Int) : Rat).den = 1 := rfl
 have h3 : 1 ≤ bl a.den := bl_pos a.den_pos
 have h4 := qs_den a
 unfold qs at *
 rw [e1, e2, bl_one, floor_code _ _ a.den_pos, sgn_natAbs]
 have h5 := bl_div_le a.num.natAbs a.den
 have h6 := bl_add (a.num.natAbs / a.den) 1
 have h7 : bl 1 = 1 := bl_one
 split <;> omega
theorem qs_ceilQ (a : Rat) : qs (ceilQ a) ≤ qs a + 1 := by
 unfold ceilQ
 rw [qs_neg]
 have := qs_floor (-a)
 rwa [qs_neg] at this
theorem fs_Down (a : Rat) (k : Int) (h : sm a) : FSpec Tryz.prog 278 [.agg (qC a), i64 k] (.agg (qC (downQ a (wi k 256)))) := by
 unfold sm at h
 have hw : wi k 256 ≤ 256 := by unfold wi; omega
 have h2 := qs_twoQ (wi k 256)
 have h3 := qs_mul a (twoQ (wi k 256))
 have h4 := qs_floor (a * twoQ (wi k 256))
 have h5 := qs_fineQ (wi k 256)
 refine FSpec.enter Tryz.func278 rfl (by kernel_rfl) rfl rfl rfl ?_ rfl ?_
 ·exact closed_cons (closed_qA a) (closed_cons (closed_v _) closed_nil)
 refine r_z 2 ?_
 refine r_c 8 (fs_qtimes a k (by omega)) ?_
 refine c_s (fs_floor (a * twoQ (wi k 256)) (by omega)) ?_
 refine c_s (fs_Fine k) ?_
 refine c_s (fs_mul ((a * twoQ (wi k 256)).floor : Rat) (fineQ (wi k 256)) (by omega)) ?_
 refine a_z ?_
 refine AWp.ret ?_
 refine Fin.cellE rfl rfl rfl tg_35.h ts_35.h (nle rfl) ?_ ?_
 ·rfl
 ·exact closed_qA _
theorem fs_Up (a : Rat) (k : Int) (h : sm a) : FSpec Tryz.prog 279 [.agg (qC a), i64 k] (.agg (qC (upQ a (wi k 256)))) := by
 unfold sm at h
 have hw : wi k 256 ≤ 256 := by unfold wi; omega
 have h2 := qs_twoQ (wi k 256)
 have h3 := qs_mul a (twoQ (wi k 256))
 have h4 := qs_ceilQ (a * twoQ (wi k 256))
 have h5 := qs_fineQ (wi k 256)
 refine FSpec.enter Tryz.func279 rfl (by kernel_rfl) rfl rfl rfl ?_ rfl ?_
 ·exact closed_cons (closed_qA a) (closed_cons (closed_v _) closed_nil)
 refine r_z 2 ?_
 refine r_c 8 (fs_qtimes a k (by omega)) ?_
 refine c_s (fs_ceil (a * twoQ (wi k 256)) (by omega)) ?_
 refine c_s (fs_Fine k) ?_
 refine c_s (fs_mul (ceilQ (a * twoQ (wi k 256))) (fineQ (wi k 256)) (by omega)) ?_
 refine a_z ?_
 refine AWp.ret ?_
 refine Fin.cellE rfl rfl rfl tg_35.h ts_35.h (nle rfl) ?_ ?_
 ·rfl
 ·exact closed_qA _
end Go.Proofs.YtdjfjpeoddmamaaGreatDoor
namespace Go.Abs
def pE (l : List Rat) : List (List AV) := l.map qC
def pA (l : List Rat) : AV := .arr (pE l)
def spC (a b : Rat) : List AV := qC a ++ qC b
@[simp] theorem qC_length (q : Rat) : (qC q).length = 3 := rfl
@[simp] theorem spC_length (a b : Rat) : (spC a b).length = 6 := rfl
@[simp] theorem pE_length (l : List Rat) : (pE l).length = l.length := by simp [pE]
theorem pE_get {l : List Rat} {i : Nat} {q : Rat} (h : l[i]? = some q) : (pE l)[i]? = some (qC q) := by simp [pE, h]
theorem pE_take (l : List Rat) (k : Nat) : (pE l).take k = pE (l.take k) := by simp [pE]
theorem pE_append (l m : List Rat) : pE (l ++ m) = pE l ++ pE m := by simp [pE]
theorem pE_set (l : List Rat) (i : Nat) (q : Rat) : (pE l).set i (qC q) = pE (l.set i q) := by simp [pE, List.map_set]
theorem pE_one (l : List Rat) : (pE l).all (·.all AV.one) = true := by
 simp only [pE, List.all_map, List.all_eq_true]
 intro q _
 rfl
theorem pE_len3 (l : List Rat) : ∀ e ∈ pE l, e.length = 3 := by intro e he; simp [pE] at he; obtain ⟨q, _, rfl⟩ := he; rfl
theorem closed_pE (l : List Rat) : ∀ e ∈ pE l, ∀ c ∈ e, Closed c := by
 intro e he c hc
 simp [pE] at he
 obtain ⟨q, _, rfl⟩ := he
 exact closed_qC q c hc
theorem closed_pA (l : List Rat) : Closed (pA l) := closed_arr (closed_pE l)
theorem closed_spC (a b : Rat) : ∀ c ∈ spC a b, Closed c := fun c hc => (List.mem_append.1 hc).elim (closed_qC a c) (closed_qC b c)
theorem closed_spA (a b : Rat) : Closed (.agg (spC a b)) := closed_agg (closed_spC a b)
def zC : List AV := [.emp, bln false, .emp]
theorem mag0 : mag 0 = .arr [] := by unfold mag; rw [digs_zero]; rfl
theorem qC0 : qC 0 = [.arr [], bln false, .arr []] := by
 show [mag 0, bln (decide ((0 : Int) < 0)), mag (1 - 1)] = _
 rw [mag0]; rfl
def smL (l : List Rat) : Prop := ∀ q ∈ l, sm q
instance (l : List Rat) : Decidable (smL l) := inferInstanceAs (Decidable (∀ q ∈ l, sm q))
def chooseL (bf : Int → Bool) : List Rat → Rat
 | [] => 0
 | x :: l => l.foldl (fun o y => if bf (cmpQ y o) then y else o) x
theorem chooseL_snoc (bf : Int → Bool) (l : List Rat) (y : Rat) : chooseL bf (l ++ [y]) = if l = [] ∨ bf (cmpQ y (chooseL bf l)) = true then y else chooseL bf l := by
 cases l with
 | nil => simp [chooseL]
 | cons x l => simp [chooseL, List.foldl_append]
theorem chooseL_sm {bf : Int → Bool} : ∀ {l : List Rat}, smL l → sm (chooseL bf l)
 | [], _ => (by decide : sm 0)
 | x :: l, h => by
  have key : ∀ (l : List Rat) (o : Rat), sm o → smL l → sm (l.foldl (fun o y => if bf (cmpQ y o) then y else o) o) := by
   intro l
   induction l with
   | nil => intro o ho _; exact ho
   | cons y l ih =>
    intro o ho hl
    refine ih _ ?_ fun q hq => hl q (List.mem_cons_of_mem _ hq)
    show sm (if bf (cmpQ y o) = true then y else o)
    split
    ·exact hl y (List.mem_cons_self ..)
    ·exact ho
  exact key l x (h x (List.mem_cons_self ..)) fun q hq => h q (List.mem_cons_of_mem _ hq)
def minL (l : List Rat) : Rat := chooseL (fun c => decide (c < 0)) l
def maxL (l : List Rat) : Rat := chooseL (fun c => decide (0 < c)) l
theorem AEval.lenP {P : Program} {id : Nat} {ev : Operand → Option AV} {hp : Nat → Option ABlk} {c : Call} {x : Operand} {T : Nat} {d : Nat × Nat} {l : List Rat} (hc : c.callee = .builtin .len) (ha : c.args = #[x]) (ht : c.argTypes = #[T]) (hx : ev x = some (.arr (pE l))) (he : elOf P T = some d) :
    AEval P id ev hp (.call c) ⟨.v (.int .i64 (l.length : Nat)), []⟩ [] := .len hc ha ht hx (by simp [lenA]) he
end Go.Abs
namespace Go.Proofs.YtdjfjpeoddmamaaGreatDoor
open Go.Abs
set_option maxRecDepth 20000
theorem fs_QSpan (a : Rat) (k : Int) (h : sm a) : FSpec Tryz.prog 230 [.agg (qC a), i64 k] (.agg (spC (downQ a (wi k 256)) (upQ a (wi k 256)))) := by
 refine FSpec.enter Tryz.func230 rfl (by kernel_rfl) rfl rfl rfl ?_ rfl ?_
 ·exact closed_cons (closed_qA a) (closed_cons (closed_v _) closed_nil)
 refine r_z 2 ?_
 refine AWp.seq ?_
 refine AWp.regD hmix (m := 8) rfl ?_
 refine c_s (fs_Down a k h) ?_
 refine c_s (fs_Up a k h) ?_
 refine a_2 ?_
 refine AR.nil ⟨by kernel_rfl, ?_⟩
 refine AWp.ret ?_
 refine Fin.cellE rfl rfl rfl tg_37.h ts_37.h (nle rfl) ?_ ?_
 ·rfl
 ·exact closed_spA _ _
theorem fs_At (a : Rat) : FSpec Tryz.prog 277 [.agg (qC a)] (.agg (spC a a)) := by
 refine FSpec.enter Tryz.func277 rfl (by kernel_rfl) rfl rfl rfl ?_ rfl ?_
 ·exact closed_cons (closed_qA a) closed_nil
 refine r_z 2 ?_
 refine r_z 4 ?_
 refine AWp.ret ?_
 refine Fin.cellE rfl rfl rfl tg_37.h ts_37.h (nle rfl) ?_ ?_
 ·rfl
 ·exact closed_spA _ _
theorem fs_SValid (a b : Rat) (ha : sm a) (hb : sm b) : FSpec Tryz.prog 77 [.agg (spC a b)] (bln (decide (cmpQ a b ≤ 0))) := by
 refine FSpec.enter Tryz.func77 rfl (by kernel_rfl) rfl rfl rfl ?_ rfl ?_
 ·exact closed_cons (closed_spA a b) closed_nil
 refine r_z 2 ?_
 refine r_c 7 (fs_cmp a b ha hb) ?_
 refine a_z ?_
 refine AWp.ret ?_
 refine Fin.tmpE rfl ?_ ?_
 ·rfl
 ·exact closed_v _
theorem fs_SAdd (a b c d : Rat) (ha : sm a) (hb : sm b) (hc : sm c) (hd : sm d) : FSpec Tryz.prog 309 [.agg (spC a b), .agg (spC c d)] (.agg (spC (a + c) (b + d))) := by
 refine FSpec.enter Tryz.func309 rfl (by kernel_rfl) rfl rfl rfl ?_ rfl ?_
 ·exact closed_cons (closed_spA a b) (closed_cons (closed_spA c d) closed_nil)
 refine r_z 3 ?_
 refine AWp.seq ?_
 refine AWp.regD hmix (m := 12) rfl ?_
 refine c_s (fs_add a c (sm2 ha hc)) ?_
 refine c_s (fs_add b d (sm2 hb hd)) ?_
 refine a_2 ?_
 refine AR.nil ⟨by kernel_rfl, ?_⟩
 refine AWp.ret ?_
 refine Fin.cellE rfl rfl rfl tg_37.h ts_37.h (nle rfl) ?_ ?_
 ·rfl
 ·exact closed_spA _ _
theorem fs_SMiddle (a b : Rat) (ha : sm a) (hb : sm b) : FSpec Tryz.prog 305 [.agg (spC a b)] (.agg (qC ((a + b) * fineQ 1))) := by
 have h1 : qs (a + b) ≤ 274877906945 := by have := qs_add a b; unfold sm at ha hb; omega
 have h2 : qs (fineQ 1) ≤ 2 := by decide
 refine FSpec.enter Tryz.func305 rfl (by kernel_rfl) rfl rfl rfl ?_ rfl ?_
 ·exact closed_cons (closed_spA a b) closed_nil
 refine r_z 2 ?_
 refine r_c 8 (fs_add a b (sm2 ha hb)) ?_
 refine c_s (fs_Fine 1) ?_
 refine c_s (fs_mul (a + b) (fineQ 1) (by omega)) ?_
 refine a_z ?_
 refine AWp.ret ?_
 refine Fin.cellE rfl rfl rfl tg_35.h ts_35.h (nle rfl) ?_ ?_
 ·rfl
 ·exact closed_qA _
theorem fs_SWidth (a b : Rat) (ha : sm a) (hb : sm b) : FSpec Tryz.prog 13 [.agg (spC a b)] (.agg (qC (b - a))) := by
 refine FSpec.enter Tryz.func13 rfl (by kernel_rfl) rfl rfl rfl ?_ rfl ?_
 ·exact closed_cons (closed_spA a b) closed_nil
 refine r_z 2 ?_
 refine r_c 6 (fs_sub b a (sm2 hb ha)) ?_
 refine a_z ?_
 refine AWp.ret ?_
 refine Fin.cellE rfl rfl rfl tg_35.h ts_35.h (nle rfl) ?_ ?_
 ·rfl
 ·exact closed_qA _
theorem fs_Min1 (c : Int) : FSpec Tryz.prog 303 [i64 c] (bln (decide (c < 0))) := by
 refine FSpec.enter Tryz.func303 rfl (by kernel_rfl) rfl rfl rfl ?_ rfl ?_
 ·exact closed_cons (closed_v _) closed_nil
 refine r_z 1 ?_
 refine r_z 3 ?_
 refine AWp.ret ?_
 refine Fin.tmpE rfl ?_ ?_
 ·rfl
 ·exact closed_v _
theorem fs_Max1 (c : Int) : FSpec Tryz.prog 273 [i64 c] (bln (decide (0 < c))) := by
 refine FSpec.enter Tryz.func273 rfl (by kernel_rfl) rfl rfl rfl ?_ rfl ?_
 ·exact closed_cons (closed_v _) closed_nil
 refine r_z 1 ?_
 refine r_z 3 ?_
 refine AWp.ret ?_
 refine Fin.tmpE rfl ?_ ?_
 ·rfl
 ·exact closed_v _
def chooseS (g : Nat) (l : List Rat) : Nat × List AV → AState
 | (i, o) => ⟨[(0, .clos g [] []), (4, .lptr 1 0 0), (5, .lptr 2 0 0), (8, .arr (pE l)), (9, i64 l.length), (10, i64 i)], [(1, some ⟨35, 3, [zC]⟩), (2, some ⟨35, 3, [o]⟩)], 3, 27⟩
theorem chooseS_mk (g : Nat) (l : List Rat) (i : Nat) (o : List AV) : chooseS g l (i, o) = ⟨[(0, .clos g [] []), (4, .lptr 1 0 0), (5, .lptr 2 0 0), (8, .arr (pE l)), (9, i64 l.length), (10, i64 i)], [(1, some ⟨35, 3, [zC]⟩), (2, some ⟨35, 3, [o]⟩)], 3, 27⟩ := rfl
theorem fs_choose (g : Nat) (bf : Int → Bool) (hg : ∀ c, FSpec Tryz.prog g [i64 c] (bln (bf c))) (l : List Rat) (hl : smL l) (hln : l.length ≤ 1099511627776) : FSpec Tryz.prog 272 [.clos g [] [], .arr (pE l)] (.agg (qC (chooseL bf l))) := by
 refine FSpec.enter Tryz.func272 rfl (by kernel_rfl) rfl rfl rfl ?_ rfl ?_
 ·exact closed_cons (closed_clos closed_nil closed_nil) (closed_cons (closed_pA l) closed_nil)
 refine r_z 1 ?_
 refine r_z 1 ?_
 refine AWp.seq ?_
 refine r_z 3 ?_
 refine AWp.cutT (fun _ : Unit => ⟨[(4, .lptr 1 0 0), (5, .lptr 2 0 0)], [(1, some ⟨35, 3, [zC]⟩), (2, some ⟨35, 3, [qC (chooseL bf l)]⟩)], 3, 27⟩) (fun _ => True) ?_ ?_
 ·refine AWp.block ?_
  refine AWp.loopS (fun x : Nat × List AV => chooseS g l x) (fun x => l.length - x.1) (fun x => x.1 ≤ l.length ∧ ((x.1 = 0 → x.2 = zC) ∧ (x.1 ≠ 0 → x.2 = qC (chooseL bf (l.take x.1))))) (0, zC) ⟨Nat.zero_le _, fun _ => rfl, fun h => absurd rfl h⟩ ?_ ?_
  ·simp only [chooseS_mk]
   exact s_e [(1, 4), (2, 5)]
  rintro ⟨i, o⟩ ⟨hi, ho0, ho⟩
  simp only at hi ho0 ho
  simp only [chooseS_mk]
  refine r_z 1 ?_
  refine AWp.seq ?_
  refine AWp.cond rfl (fun h => ?_) (fun h => ?_)
  ·refine AWp.skip ?_
   have hlt : i < l.length := by simpa using h
   obtain ⟨q, hq⟩ : ∃ q, l[i]? = some q := ⟨_, List.getElem?_eq_getElem hlt⟩
   have hq' : (pE l)[((i : Nat) : Int).toNat]? = some (qC q) := pE_get hq
   have hsq : sm q := hl q (List.mem_of_getElem? hq)
   have hst : sm (chooseL bf (l.take i)) := chooseL_sm fun q hq => hl q (List.mem_of_mem_take hq)
   have hsn := chooseL_snoc bf (l.take i) q
   rw [← take_snoc hq] at hsn
   refine AWp.seq ?_
   refine AWp.block ?_
   refine s_r 6 ?_
   refine a_1 ?_
   first | refine AR.op0 (.index_l rfl rfl (by omega) (by omega) te_49.h) rfl rfl ?_ | refine AR.op0 (.index_a rfl rfl (by omega) hq' rfl te_49.h) rfl rfl ?_
   first | refine AR.op0 (.load_l rfl rfl hq' tg_35.h ts_35.h (nle rfl)) rfl rfl ?_ | refine AR.op0 (.load_a rfl hq' tg_35.h ts_35.h (nle rfl)) rfl rfl ?_
   refine a_z ?_
   refine AWp.cutB (fun _ : Unit => chooseS g l (i, qC (chooseL bf (l.take (i + 1))))) (fun _ => True) ?_ ?_
   ·by_cases h0 : i = 0
    ·subst h0
     have := ho0 rfl
     subst this
     rw [if_pos (.inl (by simp))] at hsn
     refine s_r 9 ?_
     refine a_3 ?_
     refine AR.opN rfl rfl (gn (by first | rfl | assumption | exact decide_eq_true (by omega) | (simp; done) | (simp; omega))) rfl rfl ?_
     refine AR.opN rfl rfl (gn (by first | rfl | assumption | exact decide_eq_true (by omega) | (simp; done) | (simp; omega))) rfl rfl ?_
     refine AR.opN rfl rfl (gn (by first | rfl | assumption | exact decide_eq_true (by omega) | (simp; done) | (simp; omega))) rfl rfl ?_
     refine AR.opN rfl rfl (gn (by first | rfl | assumption | exact decide_eq_true (by omega) | (simp; done) | (simp; omega))) rfl rfl ?_
     refine AR.opN rfl rfl (gn (by first | rfl | assumption | exact decide_eq_true (by omega) | (simp; done) | (simp; omega))) rfl rfl ?_
     refine o_0 (.pickT rfl (by first | rfl | assumption | exact decide_eq_true (by omega) | (simp; done) | (simp; omega)) rfl) ?_
     refine AR.nil ?_
     refine AWp.cond rfl (fun h => ?_) (fun h => ?_)
     ·refine AWp.reg (m := 2) rfl ?_
      refine a_z ?_
      refine ⟨(), trivial, ?_⟩
      simp only [chooseS_mk]
      rw [hsn]
      exact s_e []
     ·cases h
    ·have ho' : o = qC (chooseL bf (l.take i)) := ho h0
     subst ho'
     have hne : l.take i ≠ [] := fun h => by
      have := congrArg List.length h
      rw [List.length_take, List.length_nil] at this; omega
     refine s_r 9 ?_
     refine a_3 ?_
     refine AR.op0y rfl rfl (gy (by simp; omega)) (.move rfl) rfl rfl ?_
     first | refine AR.op0y rfl rfl (gy (by simp; omega)) (.load_l rfl rfl rfl tg_35.h ts_35.h (nle rfl)) rfl rfl ?_ | refine AR.op0y rfl rfl (gy (by simp; omega)) (.load_a rfl rfl tg_35.h ts_35.h (nle rfl)) rfl rfl ?_
     first | refine AR.op0y rfl rfl (gy (by simp; omega)) (.load_l rfl rfl rfl tg_35.h ts_35.h (nle rfl)) rfl rfl ?_ | refine AR.op0y rfl rfl (gy (by simp; omega)) (.load_a rfl rfl tg_35.h ts_35.h (nle rfl)) rfl rfl ?_
     refine AR.op0y rfl rfl (gy (by simp; omega)) (.call rfl rfl rfl (fs_cmp q (chooseL bf (l.take i)) hsq hst)) rfl rfl ?_
     refine AR.op0y rfl rfl (gy (by simp; omega)) (.call rfl rfl rfl (hg (cmpQ q (chooseL bf (l.take i))))) rfl rfl ?_
     refine o_0 (.pickF rfl (by simp; omega) rfl) ?_
     refine AR.nil ?_
     refine AWp.cond rfl (fun h1 => ?_) (fun h1 => ?_)
     ·refine AWp.reg (m := 2) rfl ?_
      refine a_z ?_
      refine ⟨(), trivial, ?_⟩
      simp only [chooseS_mk]
      rw [hsn, if_pos (.inr h1)]
      exact s_e []
     ·refine AWp.skip ⟨(), trivial, ?_⟩
      simp only [chooseS_mk]
      rw [hsn, if_neg (fun hh => hh.elim hne fun h2 => by rw [h1] at h2; cases h2)]
      exact s_e []
   rintro _ _
   rw [chooseS_mk]
   refine AWp.reg (m := 2) rfl ?_
   refine a_z ?_
   refine ⟨(i + 1, qC (chooseL bf (l.take (i + 1)))), by simp only; omega, ⟨by simp only; omega, fun h => absurd h (by simp), fun _ => rfl⟩, ?_⟩
   simp only [chooseS_mk]
   exact s_e []
  ·have hge : i = l.length := by simp at h; omega
   refine AWp.exit ⟨(), trivial, ?_⟩
   subst hge
   by_cases h0 : l.length = 0
   ·have := ho0 h0
    subst this
    have : chooseL bf l = 0 := by
     rw [List.length_eq_zero_iff] at h0; rw [h0]; rfl
    rw [this, qC0]
    exact s_e []
   ·have := ho h0
    subst this
    rw [List.take_length]
    exact s_e []
 rintro _ _
 refine r_z 2 ?_
 refine AWp.ret ?_
 refine Fin.cellE rfl rfl rfl tg_35.h ts_35.h (nle rfl) ?_ ?_
 ·rfl
 ·exact closed_qA _
theorem fs_Min (l : List Rat) (hl : smL l) (hln : l.length ≤ 1099511627776) : FSpec Tryz.prog 280 [.arr (pE l)] (.agg (qC (minL l))) := by
 refine FSpec.enter Tryz.func280 rfl (by kernel_rfl) rfl rfl rfl ?_ rfl ?_
 ·exact closed_cons (closed_pA l) closed_nil
 refine r_z 1 ?_
 refine r_c 3 (fs_choose 303 _ fs_Min1 l hl hln) ?_
 refine a_z ?_
 refine AWp.ret ?_
 refine Fin.cellE rfl rfl rfl tg_35.h ts_35.h (nle rfl) ?_ ?_
 ·rfl
 ·exact closed_qA _
theorem fs_Max (l : List Rat) (hl : smL l) (hln : l.length ≤ 1099511627776) : FSpec Tryz.prog 226 [.arr (pE l)] (.agg (qC (maxL l))) := by
 refine FSpec.enter Tryz.func226 rfl (by kernel_rfl) rfl rfl rfl ?_ rfl ?_
 ·exact closed_cons (closed_pA l) closed_nil
 refine r_z 1 ?_
 refine r_c 3 (fs_choose 273 _ fs_Max1 l hl hln) ?_
 refine a_z ?_
 refine AWp.ret ?_
 refine Fin.cellE rfl rfl rfl tg_35.h ts_35.h (nle rfl) ?_ ?_
 ·rfl
 ·exact closed_qA _
theorem smL_two {a b : Rat} (ha : sm a) (hb : sm b) : smL [a, b] := by
 intro q hq
 simp at hq
 rcases hq with rfl | rfl
 ·exact ha
 ·exact hb
theorem fs_SHull (a b c d : Rat) (ha : sm a) (hb : sm b) (hc : sm c) (hd : sm d) : FSpec Tryz.prog 231 [.agg (spC a b), .agg (spC c d)] (.agg (spC (minL [a, c]) (maxL [b, d]))) := by
 refine FSpec.enter Tryz.func231 rfl (by kernel_rfl) rfl rfl rfl ?_ rfl ?_
 ·exact closed_cons (closed_spA a b) (closed_cons (closed_spA c d) closed_nil)
 refine r_z 3 ?_
 refine AWp.seq ?_
 refine AWp.regD hmix (m := 14) rfl ?_
 refine a_5 ?_
 refine o_1 (.callS1 rfl rfl rfl (.shut rfl (by first | exact nle rfl | (simp; done) | (simp; omega)) (.nil)) rfl (fs_Min [a, c] (smL_two ha hc) (by simp))) ?_
 refine a_5 ?_
 refine o_1 (.callS1 rfl rfl rfl (.shut rfl (by first | exact nle rfl | (simp; done) | (simp; omega)) (.nil)) rfl (fs_Max [b, d] (smL_two hb hd) (by simp))) ?_
 refine a_2 ?_
 refine AR.nil ⟨by kernel_rfl, ?_⟩
 refine AWp.ret ?_
 refine Fin.cellE rfl rfl rfl tg_37.h ts_37.h (nle rfl) ?_ ?_
 ·rfl
 ·exact closed_spA _ _
theorem fs_spanned (l : List Rat) (hl : smL l) (hln : l.length ≤ 1099511627776) : FSpec Tryz.prog 334 [.arr (pE l)] (.agg (spC (minL l) (maxL l))) := by
 refine FSpec.enter Tryz.func334 rfl (by kernel_rfl) rfl rfl rfl ?_ rfl ?_
 ·exact closed_cons (closed_pA l) closed_nil
 refine r_z 1 ?_
 refine r_c 6 (fs_Min l hl hln) ?_
 refine c_s (fs_Max l hl hln) ?_
 refine a_z ?_
 refine AWp.ret ?_
 refine Fin.cellE rfl rfl rfl tg_37.h ts_37.h (nle rfl) ?_ ?_
 ·rfl
 ·exact closed_spA _ _
theorem fs_ends (g : Nat) (op : Rat → Rat → Rat) (a b c d : Rat) (h1 : FSpec Tryz.prog g [.agg (qC a), .agg (qC c)] (.agg (qC (op a c)))) (h2 : FSpec Tryz.prog g [.agg (qC a), .agg (qC d)] (.agg (qC (op a d)))) (h3 : FSpec Tryz.prog g [.agg (qC b), .agg (qC c)] (.agg (qC (op b c)))) (h4 : FSpec Tryz.prog g [.agg (qC b), .agg (qC d)] (.agg (qC (op b d))))
    (hs : smL [op a c, op a d, op b c, op b d]) : FSpec Tryz.prog 326 [.clos g [] [], .agg (spC a b), .agg (spC c d)] (.agg (spC (minL [op a c, op a d, op b c, op b d]) (maxL [op a c, op a d, op b c, op b d]))) := by
 refine FSpec.enter Tryz.func326 rfl (by kernel_rfl) rfl rfl rfl ?_ rfl ?_
 ·exact closed_cons (closed_clos closed_nil closed_nil) (closed_cons (closed_spA a b) (closed_cons (closed_spA c d) closed_nil))
 refine r_z 3 ?_
 refine AWp.seq ?_
 refine AWp.regD hmix (m := 27) rfl ?_
 refine c_s (h1) ?_
 refine c_s (h2) ?_
 refine c_s (h3) ?_
 refine c_s (h4) ?_
 refine a_1 ?_
 refine o_1 (.callS1 rfl rfl rfl (.shut rfl (by first | exact nle rfl | (simp; done) | (simp; omega)) (.nil)) rfl (fs_spanned [op a c, op a d, op b c, op b d] hs (by simp))) ?_
 refine a_1 ?_
 refine AR.nil ⟨by kernel_rfl, ?_⟩
 refine AWp.ret ?_
 refine Fin.cellE rfl rfl rfl tg_37.h ts_37.h (nle rfl) ?_ ?_
 ·rfl
 ·exact closed_spA _ _
theorem fs_SMul (a b c d : Rat) (ha : sm a) (hb : sm b) (hc : sm c) (hd : sm d) (hs : smL [a * c, a * d, b * c, b * d]) : FSpec Tryz.prog 308 [.agg (spC a b), .agg (spC c d)] (.agg (spC (minL [a * c, a * d, b * c, b * d]) (maxL [a * c, a * d, b * c, b * d]))) := by
 refine FSpec.enter Tryz.func308 rfl (by kernel_rfl) rfl rfl rfl ?_ rfl ?_
 ·exact closed_cons (closed_spA a b) (closed_cons (closed_spA c d) closed_nil)
 refine r_z 3 ?_
 refine r_c 4 (fs_ends 19 (fun x y => x * y) a b c d (fs_mul a c (sm2 ha hc)) (fs_mul a d (sm2 ha hd)) (fs_mul b c (sm2 hb hc)) (fs_mul b d (sm2 hb hd)) hs) ?_
 refine a_z ?_
 refine AWp.ret ?_
 refine Fin.cellE rfl rfl rfl tg_37.h ts_37.h (nle rfl) ?_ ?_
 ·rfl
 ·exact closed_spA _ _
theorem qs_int (n : Int) : qs (n : Rat) ≤ max (bl n.natAbs) 1 := by
 have e1 : (n : Rat).num = n := rfl
 have e2 : (n : Rat).den = 1 := rfl
 unfold qs; rw [e1, e2, bl_one]; exact Nat.le_refl _
theorem qs_i64 {n : Int} (h : -9223372036854775808 ≤ n ∧ n ≤ 9223372036854775807) : qs (n : Rat) ≤ 64 := by
 have h1 := qs_int n
 have h2 : bl n.natAbs ≤ 64 := bl_le (Nat.lt_of_le_of_lt (show n.natAbs ≤ 9223372036854775808 by omega) (by decide))
 omega
theorem fs_Of (n d : Int) (hn : -9223372036854775808 ≤ n ∧ n ≤ 9223372036854775807) (hd : -9223372036854775808 ≤ d ∧ d ≤ 9223372036854775807) (h0 : d ≠ 0) : FSpec Tryz.prog 55 [i64 n, i64 d] (.tup [.agg (qC ((n : Rat) / (d : Rat))), i64 0]) := by
 have h1 := qs_i64 hn
 have h2 := qs_i64 hd
 have hd0 : (d : Rat) ≠ 0 := by
  intro h
  have : (d : Rat).num = 0 := by rw [h]; rfl
  exact h0 this
 refine FSpec.enter Tryz.func55 rfl (by kernel_rfl) rfl rfl rfl ?_ rfl ?_
 ·exact closed_cons (closed_v _) (closed_cons (closed_v _) closed_nil)
 refine r_z 2 ?_
 refine r_c 9 (fs_Int n hn) ?_
 refine c_s (fs_Int d hd) ?_
 refine c_s (fs_div (n : Rat) (d : Rat) hd0 (by omega)) ?_
 refine a_z ?_
 refine AWp.ret ?_
 refine Fin.many ⟨_, _, rfl, ⟨_, _, _, _, _, rfl, rfl, rfl, .inl ⟨tg_35.h, _, ts_35.h, nle rfl, rfl⟩⟩, ⟨_, _, rfl, rfl, rfl⟩⟩ (nle rfl) ?_
 exact CvL.cons (Cv.clo shr_nil (closed_qA _)) (CvL.cons (Cv.clo shr_nil (closed_v _)) CvL.nil)
end Go.Proofs.YtdjfjpeoddmamaaGreatDoor
namespace Go.Abs
def trimQ : List Rat → List Rat
 | [] => []
 | a :: l => match trimQ l with
  | [] => if a = 0 then [] else [a]
  | b :: m => a :: b :: m
theorem trimQ_cons (a : Rat) (l : List Rat) : trimQ (a :: l) = if trimQ l = [] then (if a = 0 then [] else [a]) else a :: trimQ l := by
 rw [trimQ]
 cases h : trimQ l <;> simp
theorem trimQ_snoc (l : List Rat) (a : Rat) : trimQ (l ++ [a]) = if a = 0 then trimQ l else l ++ [a] := by
 induction l with
 | nil => simp [trimQ]
 | cons b l ih =>
  rw [List.cons_append, trimQ_cons, ih, trimQ_cons]
  by_cases h : a = 0
  ·simp only [if_pos h]
  ·simp [if_neg h]
theorem trimQ_len (l : List Rat) : (trimQ l).length ≤ l.length := by
 induction l with
 | nil => simp [trimQ]
 | cons a l ih => rw [trimQ_cons]; split <;> (try split) <;> simp <;> omega
theorem trimQ_pre (l : List Rat) : trimQ l = l.take (trimQ l).length := by
 induction l with
 | nil => simp [trimQ]
 | cons a l ih =>
  rw [trimQ_cons]
  split
  ·split <;> simp
  ·simp [← ih]
theorem trimQ_mem {l : List Rat} {q : Rat} (h : q ∈ trimQ l) : q ∈ l := by
 rw [trimQ_pre] at h; exact List.mem_of_mem_take h
theorem trimQ_last {l : List Rat} {q : Rat} (h : (trimQ l).getLast? = some q) : q ≠ 0 := by
 induction l with
 | nil => simp [trimQ] at h
 | cons a l ih =>
  rw [trimQ_cons] at h
  split at h
  ·split at h
   ·cases h
   ·simp at h; subst h; assumption
  ·rename_i h0
   rw [List.getLast?_cons_of_ne_nil h0] at h
   exact ih h
theorem trimQ_idem (l : List Rat) : trimQ (trimQ l) = trimQ l := by
 rcases List.eq_nil_or_concat (trimQ l) with h | ⟨m, q, h⟩
 ·rw [h]; rfl
 ·have hq : q ≠ 0 := trimQ_last (l := l) (by rw [h]; simp)
  rw [h, List.concat_eq_append, trimQ_snoc, if_neg hq]
theorem smL_trim {l : List Rat} (h : smL l) : smL (trimQ l) := fun q hq => h q (trimQ_mem hq)
def degP (l : List Rat) : Int := (trimQ l).length - 1
def leadP (l : List Rat) : Rat := (trimQ l).getLastD 0
theorem leadP_ne {l : List Rat} (h : trimQ l ≠ []) : leadP l ≠ 0 := by
 unfold leadP
 refine trimQ_last (l := l) (q := (trimQ l).getLastD 0) ?_
 rw [List.getLastD_eq_getLast?]
 cases hl : (trimQ l).getLast? with
 | none => exact absurd (List.getLast?_eq_none_iff.1 hl) h
 | some q => rfl
theorem leadP_nil {l : List Rat} (h : trimQ l = []) : leadP l = 0 := by unfold leadP; rw [h]; rfl
theorem leadP_get {l : List Rat} {n : Nat} (h : (trimQ l).length = n + 1) : (trimQ l)[n]? = some (leadP l) := by
 unfold leadP
 rw [List.getLastD_eq_getLast?, List.getLast?_eq_getElem?, h, Nat.add_sub_cancel, List.getElem?_eq_getElem (by omega)]; rfl
theorem leadP_sm {l : List Rat} (h : smL l) : sm (leadP l) := by
 by_cases h0 : trimQ l = []
 ·rw [leadP_nil h0]; decide
 ·obtain ⟨n, hn⟩ : ∃ n, (trimQ l).length = n + 1 := ⟨(trimQ l).length - 1, by have := List.length_pos_iff.2 h0; omega⟩
  exact h _ (trimQ_mem (List.mem_of_getElem? (leadP_get hn)))
def tabP (n : Nat) (f : Nat → Rat) : List Rat := (List.range n).map f
@[simp] theorem tabP_length (n : Nat) (f : Nat → Rat) : (tabP n f).length = n := by simp [tabP]
def coP (p : List Rat) (i : Nat) : Rat := p.getD i 0
def addP (p q : List Rat) : List Rat := trimQ (tabP (max p.length q.length) fun i => coP p i + coP q i)
def scaleP (p : List Rat) (k : Rat) : List Rat := trimQ (tabP p.length fun i => coP p i * k)
def subP (p q : List Rat) : List Rat := addP p (scaleP q (-1))
def constP (a : Rat) : List Rat := trimQ [a]
def deriveP (p : List Rat) : List Rat := trimQ (tabP (p.length - 1) fun i => coP p (i + 1) * ((i + 1 : Nat) : Int))
def integralP (p : List Rat) : List Rat := trimQ (tabP (p.length + 1) fun i => if i = 0 then 0 else coP p (i - 1) / ((i : Nat) : Int))
def sameP (p q : List Rat) : Bool := decide (trimQ p = trimQ q)
def monicP (p : List Rat) : List Rat := if trimQ p = [] then [] else scaleP p (1 / leadP p)
theorem coP_sm {p : List Rat} (h : smL p) (i : Nat) : sm (coP p i) := by
 unfold coP
 rw [List.getD_eq_getElem?_getD]
 cases hi : p[i]? with
 | none => exact (by decide : sm 0)
 | some q => exact h q (List.mem_of_getElem? hi)
theorem coP_get {p : List Rat} {i : Nat} (h : i < p.length) : p[i]? = some (coP p i) := by
 unfold coP; rw [List.getD_eq_getElem?_getD, List.getElem?_eq_getElem h]; rfl
theorem coP_out {p : List Rat} {i : Nat} (h : p.length ≤ i) : coP p i = 0 := by
 unfold coP; rw [List.getD_eq_getElem?_getD, List.getElem?_eq_none h]; rfl
theorem closed_zC : ∀ c ∈ zC, Closed c := closed_cons closed_emp (closed_cons (closed_v _) (closed_cons closed_emp closed_nil))
theorem le_zC : LeL zC (qC 0) := by rw [qC0]; exact .cons .emp (.cons (.refl _) (.cons .emp .nil))
end Go.Abs
