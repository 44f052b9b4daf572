/- Part V11 of the proof. -/
import Derived.Test.YtdhedjbmdnnbkaaGreatDoorV10
import Derived.Lib.UnsafeStr
import Derived.Lib.Builder
import Derived.Shelf.RegionOpenPlain
import Derived.Lib.Strings
import Derived.Lib.Slices
import Derived.Lib.Walk
set_option linter.all false
namespace Go.Abs
def zI (z : Int) : List AV := [mag z.natAbs, bln (decide (z < 0))]
def qC (q : Rat) : List AV := [mag q.num.natAbs, bln (decide (q.num < 0)), mag (q.den - 1)]
def sgn (b : Bool) (m : Nat) : Int := if b then -(m : Int) else m
theorem closed_zI (z : Int) : ∀ c ∈ zI z, Closed c := aa_ (ah_ _) (aa_ (ac_ _) ab_)
theorem aq_ (q : Rat) : ∀ c ∈ qC q, Closed c := aa_ (ah_ _) (aa_ (ac_ _) (aa_ (ah_ _) ab_))
theorem ck_ (z : Int) : Closed (.agg (zI z)) := ag_ (closed_zI z)
theorem ae_ (q : Rat) : Closed (.agg (qC q)) := ag_ (aq_ q)
theorem bj_ (n : Nat) : Closed (.agg [mag n]) := ag_ (aa_ (ah_ n) ab_)
theorem el_ (b : Bool) (m : Nat) : (sgn b m).natAbs = m := by unfold sgn; split <;> omega
theorem sgn_neg (b : Bool) (m : Nat) : decide (sgn b m < 0) = (b && !(m == 0)) := by
 unfold sgn
 rw [Bool.eq_iff_iff]
 cases b
 ·simp
 ·simp; omega
theorem nm_ (z : Int) : sgn (decide (z < 0)) z.natAbs = z := by
 unfold sgn; split
 ·rename_i h; have := of_decide_eq_true h; omega
 ·rename_i h; have := of_decide_eq_false (by simpa using h : decide (z < 0) = false); omega
def qs (q : Rat) : Nat := max (bl q.num.natAbs) (bl q.den)
theorem ik_ {n : Int} {d : Nat} (hd : 0 < d) : (mkRat n d).num = n / (Nat.gcd n.natAbs d : Int) ∧ (mkRat n d).den = d / Nat.gcd n.natAbs d := by
 unfold mkRat
 rw [dif_neg (by omega), Rat.normalize_eq]
 exact ⟨rfl, rfl⟩
theorem gv_ {n : Int} {d : Nat} (hd : 0 < d) : (mkRat n d).num = sgn (decide (n < 0)) (n.natAbs / Nat.gcd n.natAbs d) := by
 rw [(ik_ hd).1]
 have hg : 0 < Nat.gcd n.natAbs d := Nat.gcd_pos_of_pos_right _ hd
 obtain ⟨k, hk⟩ := Nat.gcd_dvd_left n.natAbs d
 generalize Nat.gcd n.natAbs d = g at hg hk ⊢
 rw [hk, Nat.mul_div_cancel_left _ hg]
 unfold sgn
 split
 ·rename_i h
  have := of_decide_eq_true h
  have e : n = (g : Int) * (-(k : Int)) := by rw [Int.mul_neg, ← Int.natCast_mul, ← hk]; omega
  rw [e, Int.mul_ediv_cancel_left _ (by omega)]
 ·rename_i h
  have := of_decide_eq_false (by simpa using h : decide (n < 0) = false)
  have e : n = (g : Int) * (k : Int) := by rw [← Int.natCast_mul, ← hk]; omega
  rw [e, Int.mul_ediv_cancel_left _ (by omega)]
theorem ea_ (a b : Nat) : bl (a / b) ≤ bl a := cu_ (Nat.div_le_self _ _)
theorem fs_ {n : Int} {d : Nat} (hd : 0 < d) {k : Nat} (h1 : bl n.natAbs ≤ k) (h2 : bl d ≤ k) : qs (mkRat n d) ≤ k := by
 unfold qs
 rw [gv_ hd, el_, (ik_ hd).2]
 exact Nat.max_le.2 ⟨Nat.le_trans (ea_ _ _) h1, Nat.le_trans (ea_ _ _) h2⟩
theorem qr_ (a b : Rat) : a + b = mkRat (a.num * b.den + b.num * a.den) (a.den * b.den) := by
 rw [Rat.add_def]; unfold mkRat; rw [dif_neg (Nat.mul_ne_zero a.den_nz b.den_nz)]
theorem ij_ (a b : Rat) : a * b = mkRat (a.num * b.num) (a.den * b.den) := by
 rw [Rat.mul_def]; unfold mkRat; rw [dif_neg (Nat.mul_ne_zero a.den_nz b.den_nz)]
theorem co_ (a : Rat) : bl a.num.natAbs ≤ qs a := Nat.le_max_left _ _
theorem ci_ (a : Rat) : bl a.den ≤ qs a := Nat.le_max_right _ _
theorem bl_sum_le {x y : Int} {k : Nat} (hx : bl x.natAbs ≤ k) (hy : bl y.natAbs ≤ k) : bl (x + y).natAbs ≤ k + 1 := by
 have h1 := cu_ (Int.natAbs_add_le x y)
 have h2 := bl_add x.natAbs y.natAbs
 omega
theorem cn_ {x y : Int} {j k : Nat} (hx : bl x.natAbs ≤ j) (hy : bl y.natAbs ≤ k) : bl (x * y).natAbs ≤ j + k := by
 rw [Int.natAbs_mul]
 have := hc_ x.natAbs y.natAbs
 omega
theorem qq_ (a b : Rat) : bl (a.num * b.den + b.num * a.den).natAbs ≤ qs a + qs b + 1 ∧ bl (a.den * b.den) ≤ qs a + qs b := by
 have h1 := co_ a; have h2 := ci_ a; have h3 := co_ b; have h4 := ci_ b
 refine ⟨bl_sum_le (cn_ h1 (by simpa using h4)) ?_, ?_⟩
 ·have := cn_ (x := b.num) (y := a.den) h3 (by simpa using h2); omega
 ·have := hc_ a.den b.den; omega
theorem oz_ (a b : Rat) : bl (a.num * b.num).natAbs ≤ qs a + qs b ∧ bl (a.den * b.den) ≤ qs a + qs b := by
 have h1 := co_ a; have h2 := ci_ a; have h3 := co_ b; have h4 := ci_ b
 refine ⟨cn_ h1 h3, ?_⟩
 have := hc_ a.den b.den; omega
theorem jj_ (a b : Rat) : 0 < a.den * b.den := Nat.mul_pos a.den_pos b.den_pos
theorem ln_ (a b : Rat) : qs (a + b) ≤ qs a + qs b + 1 := by
 rw [qr_]
 have h := qq_ a b
 exact fs_ (jj_ a b) h.1 (by omega)
theorem gf_ (a b : Rat) : qs (a * b) ≤ qs a + qs b := by
 rw [ij_]
 have h := oz_ a b
 exact fs_ (jj_ a b) h.1 h.2
theorem hu_ (a : Rat) : qs (-a) = qs a := by unfold qs; rw [Rat.neg_num, Rat.neg_den, Int.natAbs_neg]
theorem vb_ (a b : Rat) : qs (a - b) ≤ qs a + qs b + 1 := by
 rw [Rat.sub_eq_add_neg]
 have := ln_ a (-b)
 rwa [hu_] at this
theorem qf_ (a b : Rat) (hb : b ≠ 0) : a / b = mkRat (a.num * sgn (decide (b.num < 0)) b.den) (a.den * b.num.natAbs) := by
 have hn : b.num ≠ 0 := fun h => hb (Rat.num_eq_zero.1 h)
 rw [Rat.div_def, Rat.inv_def]
 conv => lhs; rw [← Rat.num_divInt_den a]
 rw [Rat.divInt_mul_divInt]
 unfold sgn
 split
 ·rename_i h
  have h' := of_decide_eq_true h
  have hp : 0 < a.den * b.num.natAbs := Nat.mul_pos a.den_pos (by omega)
  have e : (a.den : Int) * b.num = -((a.den * b.num.natAbs : Nat) : Int) := by
   rw [Int.natCast_mul, ← Int.mul_neg]; congr 1; omega
  rw [e, Int.mul_neg]
  generalize a.den * b.num.natAbs = d at hp ⊢
  cases d with
  | zero => omega
  | succ d =>
   rw [show -((d + 1 : Nat) : Int) = Int.negSucc d by omega]
   simp only [Rat.divInt, mkRat]
   rfl
 ·rename_i h
  have h' := of_decide_eq_false (by simpa using h : decide (b.num < 0) = false)
  have e : (a.den : Int) * b.num = ((a.den * b.num.natAbs : Nat) : Int) := by
   rw [Int.natCast_mul, show (b.num.natAbs : Int) = b.num by omega]
  rw [e]; rfl
theorem wi_ (a b : Rat) : bl (a.num * sgn (decide (b.num < 0)) b.den).natAbs ≤ qs a + qs b ∧ bl (a.den * b.num.natAbs) ≤ qs a + qs b := by
 have h1 := co_ a; have h2 := ci_ a; have h3 := co_ b; have h4 := ci_ b
 refine ⟨cn_ h1 (by rw [el_]; exact h4), ?_⟩
 have := hc_ a.den b.num.natAbs; omega
theorem ih_ (a b : Rat) : qs (a / b) ≤ qs a + qs b := by
 by_cases hb : b = 0
 ·subst hb
  rw [Rat.div_def, Rat.inv_zero, Rat.mul_zero]
  have : qs 0 = 1 := by decide
  have h2 : 1 ≤ qs 0 := by decide
  omega
 ·rw [qf_ a b hb]
  have h := wi_ a b
  have hn : b.num ≠ 0 := fun h => hb (Rat.num_eq_zero.1 h)
  exact fs_ (Nat.mul_pos a.den_pos (by omega)) h.1 h.2
def sm (q : Rat) : Prop := qs q ≤ 137438953472
instance (q : Rat) : Decidable (sm q) := inferInstanceAs (Decidable (_ ≤ _))
def ck (q : Rat) : Option Rat := if qs q ≤ 137438953472 then some q else none
theorem sm2 {a b : Rat} (ha : sm a) (hb : sm b) : qs a + qs b ≤ 549755813888 := by unfold sm at ha hb; omega
def sgZ (z : Int) : Int := if z = 0 then 0 else if z < 0 then -1 else 1
def cmpQ (a b : Rat) : Int := if a < b then -1 else if a = b then 0 else 1
theorem sgZ_num_lt {q : Rat} : sgZ q.num < 0 ↔ q < 0 := by
 unfold sgZ
 have h1 : q.num = 0 ↔ q = 0 := Rat.num_eq_zero
 have h2 : 0 ≤ q.num ↔ 0 ≤ q := Rat.num_nonneg
 have h3 : q < 0 ↔ ¬ 0 ≤ q := Rat.not_le.symm
 rw [h3, ← h2]
 split
 ·omega
 ·split <;> omega
theorem sgZ_num_eq {q : Rat} : sgZ q.num = 0 ↔ q = 0 := by
 unfold sgZ
 rw [← Rat.num_eq_zero]
 split
 ·simp [*]
 ·split <;> simp [*]
theorem cmpQ_eq (a b : Rat) : cmpQ a b = if a.num * b.den < b.num * a.den then -1 else if a.num * b.den = b.num * a.den then 0 else 1 := by
 unfold cmpQ
 have h1 := Rat.lt_iff a b
 have h2 : a = b ↔ a.num * b.den = b.num * a.den := by
  constructor
  ·rintro rfl; rfl
  ·intro h
   have := (Rat.mkRat_eq_iff (n₁ := a.num) (n₂ := b.num) a.den_nz b.den_nz).2 h
   rwa [Rat.mkRat_self, Rat.mkRat_self] at this
 by_cases h : a < b
 ·rw [if_pos h, if_pos (h1.1 h)]
 ·rw [if_neg h, if_neg (fun x => h (h1.2 x))]
  by_cases h' : a = b
  ·rw [if_pos h', if_pos (h2.1 h')]
  ·rw [if_neg h', if_neg (fun x => h' (h2.2 x))]
def fineQ (k : Nat) : Rat := mkRat 1 (2 ^ k)
theorem ox_ (q : Rat) : q.num < 0 ↔ q < 0 := by
 rw [← sgZ_num_lt]; unfold sgZ
 split
 ·omega
 ·split <;> omega
def absQ (q : Rat) : Rat := mkRat q.num.natAbs q.den
theorem yp_ (q : Rat) : absQ q = if q < 0 then -q else q := by
 unfold absQ
 by_cases h : q < 0
 ·have hn : q.num < 0 := (ox_ q).2 h
  rw [if_pos h]
  have e : (q.num.natAbs : Int) = (-q).num := by rw [Rat.neg_num]; omega
  rw [e, ← Rat.neg_den, Rat.mkRat_self]
 ·have hn : ¬ q.num < 0 := fun e => h ((ox_ q).1 e)
  rw [if_neg h]
  have e : (q.num.natAbs : Int) = q.num := by omega
  rw [e, Rat.mkRat_self]
theorem absQ_num (q : Rat) : (absQ q).num = (q.num.natAbs : Int) := by
 rw [yp_]
 by_cases h : q < 0
 ·rw [if_pos h, Rat.neg_num]; have hn : q.num < 0 := (ox_ q).2 h; omega
 ·rw [if_neg h]; have hn : ¬ q.num < 0 := fun e => h ((ox_ q).1 e); omega
theorem absQ_den (q : Rat) : (absQ q).den = q.den := by
 rw [yp_]; split
 ·exact Rat.neg_den ..
 ·rfl
theorem qC_abs (q : Rat) : qC (absQ q) = zI (sgn false q.num.natAbs) ++ [mag (q.den - 1)] := by
 unfold qC zI
 rw [absQ_num, absQ_den]
 rfl
end Go.Abs
namespace Go.Proofs.YtdhedjbmdnnbkaaGreatDoor
open Go.Abs
set_option maxRecDepth 20000
theorem digs_len0 (n : Nat) : ((digs MB n).length == 0) = (n == 0) := by
 rw [Bool.eq_iff_iff]
 simp only [beq_iff_eq, List.length_eq_zero_iff]
 exact eh_ (by decide)
theorem hj_ (n : Nat) : FSpec Tryz.prog 173 [.agg [mag n]] (bln (n == 0)) := by
 rw [← digs_len0]; exact fs_zero _
theorem du_ (b : Bool) (m : Nat) : FSpec Tryz.prog 174 [bln b, .agg [mag m]] (.agg (zI (sgn b m))) := by
 have e : AV.agg (zI (sgn b m)) = .agg [mag m, bln (b && !(m == 0))] := by unfold zI; rw [el_, sgn_neg]
 rw [e]
 refine FSpec.enter Tryz.func174 rfl (by kernel_rfl) rfl rfl rfl ?_ rfl ?_
 ·exact aa_ (ac_ _) (aa_ (bj_ m) ab_)
 cases b with
 | true =>
  refine r_z 2 ?_
  refine AWp.seq ?_
  refine AWp.regD hmix (m := 9) rfl ?_
  refine a_3 ?_
  first | refine AR.op0y rfl rfl (gy (by first | rfl | assumption | exact decide_eq_true (by omega) | (simp; done) | (simp; omega))) (.load_l rfl rfl rfl tg_33.h ts_33.h (nle rfl)) rfl rfl ?_ | refine AR.op0y rfl rfl (gy (by first | rfl | assumption | exact decide_eq_true (by omega) | (simp; done) | (simp; omega))) (.load_a rfl rfl tg_33.h ts_33.h (nle rfl)) rfl rfl ?_
  refine AR.op0y rfl rfl (gy (by first | rfl | assumption | exact decide_eq_true (by omega) | (simp; done) | (simp; omega))) (.call rfl rfl rfl (hj_ m)) rfl rfl ?_
  refine AR.op0y rfl rfl (gy (by first | rfl | assumption | exact decide_eq_true (by omega) | (simp; done) | (simp; omega))) (.un rfl uf_) rfl rfl ?_
  refine o_0 (.pickT rfl (by first | rfl | assumption | exact decide_eq_true (by omega) | (simp; done) | (simp; omega)) rfl) ?_
  refine a_2 ?_
  refine AR.nil ⟨by kernel_rfl, ?_⟩
  refine AWp.ret ?_
  refine Fin.cellE rfl rfl rfl tg_35.h ts_35.h (nle rfl) ?_ ?_
  ·rfl
  ·exact ag_ (aa_ (ah_ m) (aa_ (ac_ _) ab_))
 | false =>
  refine r_z 2 ?_
  refine AWp.seq ?_
  refine AWp.regD hmix (m := 9) rfl ?_
  refine a_3 ?_
  refine AR.opN rfl rfl (gn (by first | rfl | assumption | exact decide_eq_false (by omega) | (simp; done) | (simp; omega))) rfl rfl ?_
  refine AR.opN rfl rfl (gn (by first | rfl | assumption | exact decide_eq_false (by omega) | (simp; done) | (simp; omega))) rfl rfl ?_
  refine AR.opN rfl rfl (gn (by first | rfl | assumption | exact decide_eq_false (by omega) | (simp; done) | (simp; omega))) rfl rfl ?_
  refine o_0 (.pickF rfl (by first | rfl | assumption | exact decide_eq_false (by omega) | (simp; done) | (simp; omega)) rfl) ?_
  refine a_2 ?_
  refine AR.nil ⟨by kernel_rfl, ?_⟩
  refine AWp.ret ?_
  refine Fin.cellE rfl rfl rfl tg_35.h ts_35.h (nle rfl) ?_ ?_
  ·rfl
  ·exact ag_ (aa_ (ah_ m) (aa_ (ac_ _) ab_))
theorem fs_isign (z : Int) : FSpec Tryz.prog 93 [.agg (zI z)] (i64 (sgZ z)) := by
 refine FSpec.enter Tryz.func93 rfl (by kernel_rfl) rfl rfl rfl ?_ rfl ?_
 ·exact aa_ (ck_ z) ab_
 refine r_z 2 ?_
 refine AWp.cut (fun _ : Unit => ⟨[], [], 1, 10⟩) (fun _ => 0 < z) ?_ ?_
 ·refine AWp.block ?_
  refine r_c 4 (hj_ z.natAbs) ?_
  refine a_z ?_
  refine AWp.cond rfl (fun h => ?_) (fun h => ?_)
  ·refine r_z 1 ?_
   refine AWp.ret (Fin.tmpE rfl ?_ (ac_ _))
   have : z = 0 := by simpa using h
   simp [i64, sgZ, this, ofV]
  ·have h0 : z ≠ 0 := by simpa using h
   refine r_z 3 ?_
   refine AWp.cond rfl (fun h1 => ?_) (fun h1 => ?_)
   ·refine r_z 1 ?_
    refine AWp.ret (Fin.tmpE rfl ?_ (ac_ _))
    have : z < 0 := by simpa using h1
    simp [i64, sgZ, this, h0, ofV]
   ·have : ¬ z < 0 := by simpa using h1
    refine AWp.skip ⟨(), by omega, ?_⟩
    exact s_e []
 rintro _ h1
 refine r_z 1 ?_
 refine AWp.ret (Fin.tmpE rfl ?_ (ac_ _))
 simp only [i64, sgZ]
 rw [if_neg (by omega), if_neg (by omega)]
 rfl
theorem dm_ (q : Rat) : FSpec Tryz.prog 18 [.agg (qC q)] (i64 (sgZ q.num)) := by
 refine FSpec.enter Tryz.func18 rfl (by kernel_rfl) rfl rfl rfl ?_ rfl ?_
 ·exact aa_ (ae_ q) ab_
 refine r_z 2 ?_
 refine r_c 4 (fs_isign q.num) ?_
 refine a_z ?_
 refine AWp.ret ?_
 refine Fin.tmpE rfl ?_ ?_
 ·rfl
 ·exact ac_ _
theorem sgn_mul (a b : Bool) (m n : Nat) : sgn a m * sgn b n = sgn (a != b) (m * n) := by
 cases a <;> cases b <;> simp [sgn, Int.neg_mul, Int.mul_neg]
theorem uv_ (a : Bool) (m n : Nat) : sgn a m + sgn a n = sgn a (m + n) := by
 cases a <;> simp [sgn] <;> omega
theorem sgn_add_lt {a b : Bool} (h : a ≠ b) {m n : Nat} (hl : m ≤ n) : sgn a m + sgn b n = sgn b (n - m) := by
 cases a <;> cases b <;> simp [sgn] at h ⊢ <;> omega
theorem sgn_add_ge {a b : Bool} (h : a ≠ b) {m n : Nat} (hl : n ≤ m) : sgn a m + sgn b n = sgn a (m - n) := by
 cases a <;> cases b <;> simp [sgn] at h ⊢ <;> omega
theorem xv_ (x y : Int) (h : bl x.natAbs + bl y.natAbs ≤ 17592186044416) : FSpec Tryz.prog 99 [.agg (zI x), .agg (zI y)] (.agg (zI (x * y))) := by
 have e : x * y = sgn (decide (x < 0) != decide (y < 0)) (x.natAbs * y.natAbs) := by
  rw [← sgn_mul, nm_, nm_]
 rw [e]
 refine FSpec.enter Tryz.func99 rfl (by kernel_rfl) rfl rfl rfl ?_ rfl ?_
 ·exact aa_ (ck_ x) (aa_ (ck_ y) ab_)
 refine r_z 3 ?_
 refine AWp.seq ?_
 refine AWp.regD hmix (m := 12) rfl ?_
 refine c_s (ff_ x.natAbs y.natAbs h) ?_
 refine c_s (du_ (decide (x < 0) != decide (y < 0)) (x.natAbs * y.natAbs)) ?_
 refine a_1 ?_
 refine AR.nil ⟨by kernel_rfl, ?_⟩
 refine AWp.ret ?_
 refine Fin.cellE rfl rfl rfl tg_35.h ts_35.h (nle rfl) ?_ ?_
 ·rfl
 ·exact ck_ _
theorem fs_iadd (x y : Int) (h : bl x.natAbs + bl y.natAbs ≤ 17592186044416) : FSpec Tryz.prog 156 [.agg (zI x), .agg (zI y)] (.agg (zI (x + y))) := by
 obtain ⟨a, ha⟩ : ∃ a, a = decide (x < 0) := ⟨_, rfl⟩
 obtain ⟨b, hb⟩ : ∃ b, b = decide (y < 0) := ⟨_, rfl⟩
 have ex : x = sgn a x.natAbs := by rw [ha, nm_]
 have ey : y = sgn b y.natAbs := by rw [hb, nm_]
 refine FSpec.enter Tryz.func156 rfl (by kernel_rfl) rfl rfl rfl ?_ rfl ?_
 ·exact aa_ (ck_ x) (aa_ (ck_ y) ab_)
 refine r_z 3 ?_
 refine AWp.cut (fun _ : Unit => ⟨[(2, .lptr 1 0 0), (3, .lptr 2 0 0), (4, .lptr 3 0 0)], [(1, some ⟨35, 2, [zI x]⟩), (2, some ⟨35, 2, [zI y]⟩), (3, some ⟨35, 2, [[.emp, bln false]]⟩)], 4, 42⟩) (fun _ => a ≠ b ∧ y.natAbs ≤ x.natAbs) ?_ ?_
 ·refine AWp.block ?_
  refine r_z 6 ?_
  refine AWp.cond rfl (fun h1 => ?_) (fun h1 => ?_)
  ·have hab : a = b := by rw [ha, hb]; simpa using h1
   have e : x + y = sgn (decide (x < 0)) (x.natAbs + y.natAbs) := by
    conv => lhs; rw [ex, ey, ← hab]
    rw [uv_, ha]
   rw [e]
   refine AWp.seq ?_
   refine AWp.regD hmix (m := 9) rfl ?_
   refine c_s (xs_ x.natAbs y.natAbs h) ?_
   refine c_s (du_ (decide (x < 0)) (x.natAbs + y.natAbs)) ?_
   refine a_1 ?_
   refine AR.nil ⟨by kernel_rfl, ?_⟩
   refine AWp.ret ?_
   refine Fin.cellE rfl rfl rfl tg_35.h ts_35.h (nle rfl) ?_ ?_
   ·rfl
   ·exact ck_ _
  ·have hab : a ≠ b := by rw [ha, hb]; simpa using h1
   refine r_c 7 (mp_ x.natAbs y.natAbs h) ?_
   refine a_z ?_
   refine AWp.cond rfl (fun h2 => ?_) (fun h2 => ?_)
   ·have hlt : x.natAbs < y.natAbs := by
     have := of_decide_eq_true h2
     unfold cmpZ at this; split at this
     ·omega
     ·split at this <;> omega
    have e : x + y = sgn (decide (y < 0)) (y.natAbs - x.natAbs) := by
     conv => lhs; rw [ex, ey]
     rw [sgn_add_lt hab (Nat.le_of_lt hlt), hb]
    rw [e]
    refine AWp.seq ?_
    refine AWp.regD hmix (m := 9) rfl ?_
    refine c_s (xu_ y.natAbs x.natAbs (by omega) (Nat.le_of_lt hlt)) ?_
    refine c_s (du_ (decide (y < 0)) (y.natAbs - x.natAbs)) ?_
    refine a_1 ?_
    refine AR.nil ⟨by kernel_rfl, ?_⟩
    refine AWp.ret ?_
    refine Fin.cellE rfl rfl rfl tg_35.h ts_35.h (nle rfl) ?_ ?_
    ·rfl
    ·exact ck_ _
   ·have hge : y.natAbs ≤ x.natAbs := by
     have := of_decide_eq_false h2
     unfold cmpZ at this; split at this
     ·omega
     ·split at this <;> omega
    refine AWp.skip ⟨(), ⟨hab, hge⟩, ?_⟩
    exact s_e []
 rintro _ ⟨hab, hge⟩
 have e : x + y = sgn (decide (x < 0)) (x.natAbs - y.natAbs) := by
  conv => lhs; rw [ex, ey]
  rw [sgn_add_ge hab hge, ha]
 rw [e]
 refine AWp.seq ?_
 refine AWp.regD hmix (m := 9) rfl ?_
 refine c_s (xu_ x.natAbs y.natAbs (by omega) hge) ?_
 refine c_s (du_ (decide (x < 0)) (x.natAbs - y.natAbs)) ?_
 refine a_1 ?_
 refine AR.nil ⟨by kernel_rfl, ?_⟩
 refine AWp.ret ?_
 refine Fin.cellE rfl rfl rfl tg_35.h ts_35.h (nle rfl) ?_ ?_
 ·rfl
 ·exact ck_ _
theorem fs_ofInt (n : Int) (h : -9223372036854775808 ≤ n ∧ n ≤ 9223372036854775807) : FSpec Tryz.prog 169 [i64 n] (.agg (zI n)) := by
 refine FSpec.enter Tryz.func169 rfl (by kernel_rfl) rfl rfl rfl ?_ rfl ?_
 ·exact aa_ (ac_ _) ab_
 refine r_z 1 ?_
 refine AWp.seq ?_
 refine r_z 2 ?_
 refine AWp.cond rfl (fun h1 => ?_) (fun h1 => ?_)
 ·have hn : n < 0 := of_decide_eq_true h1
  have e : n = sgn true n.natAbs := by simp [sgn]; omega
  have hI : 18446744073709551616 - (n + 18446744073709551616) = ((n.natAbs : Nat) : Int) := by omega
  have hs : FSpec Tryz.prog 177 [.v (.int .u64 (18446744073709551616 - (n + 18446744073709551616)))] (.agg [mag n.natAbs]) := by rw [hI]; exact fg_ _ (by omega)
  refine s_r 6 ?_
  refine a_1 ?_
  refine o_0 (.conv rfl (cU64n (by omega) tu_2.h tu_207.h)) ?_
  refine o_0 (.un rfl (uU64_neg (by omega))) ?_
  refine c_s (hs) ?_
  refine c_s (du_ true n.natAbs) ?_
  refine a_z ?_
  refine AWp.ret ?_
  refine Fin.cellE rfl rfl rfl tg_35.h ts_35.h (nle rfl) ?_ ?_
  ·show _ = AV.agg (zI n)
   conv => rhs; rw [e]
   rfl
  ·exact ck_ _
 ·refine AWp.skip ?_
  have hn : 0 ≤ n := by have := of_decide_eq_false h1; omega
  have e : n = sgn false n.natAbs := by simp [sgn]; omega
  have hI : n = ((n.natAbs : Nat) : Int) := by omega
  have hs : FSpec Tryz.prog 177 [.v (.int .u64 n)] (.agg [mag n.natAbs]) := by
   have := fg_ n.natAbs (by omega)
   rwa [u64, ← hI] at this
  refine s_r 5 ?_
  refine a_1 ?_
  refine o_0 (.conv rfl (cU64 (by omega) tu_2.h tu_207.h)) ?_
  refine c_s (hs) ?_
  refine c_s (du_ false n.natAbs) ?_
  refine a_z ?_
  refine AWp.ret ?_
  refine Fin.cellE rfl rfl rfl tg_35.h ts_35.h (nle rfl) ?_ ?_
  ·show _ = AV.agg (zI n)
   conv => rhs; rw [e]
   rfl
  ·exact ck_ _
theorem mag_zero : mag 0 = .arr [] := by unfold mag; rw [bq_]; rfl
theorem nx_ (n : Int) : FSpec Tryz.prog 168 [.agg (zI n)] (.agg (qC n)) := by
 have e : qC (n : Rat) = [mag n.natAbs, bln (decide (n < 0)), mag 0] := rfl
 rw [e]
 refine FSpec.enter Tryz.func168 rfl (by kernel_rfl) rfl rfl rfl ?_ rfl ?_
 ·exact aa_ (ck_ n) ab_
 refine r_z 2 ?_
 refine r_z 3 ?_
 refine AWp.ret ?_
 refine Fin.cell rfl rfl rfl tg_37.h ts_37.h (nle rfl) (Cv.agg (CvL.cons (Cv.clo am_ (ah_ _)) (CvL.cons (Cv.clo am_ (ac_ _)) (CvL.cons (Cv.emp _ mag_zero) CvL.nil))))
theorem dw_ (n : Int) (h : -9223372036854775808 ≤ n ∧ n ≤ 9223372036854775807) : FSpec Tryz.prog 85 [i64 n] (.agg (qC n)) := by
 refine FSpec.enter Tryz.func85 rfl (by kernel_rfl) rfl rfl rfl ?_ rfl ?_
 ·exact aa_ (ac_ _) ab_
 refine r_z 1 ?_
 refine r_c 4 (fs_ofInt n h) ?_
 refine c_s (nx_ n) ?_
 refine a_z ?_
 refine AWp.ret ?_
 refine Fin.cellE rfl rfl rfl tg_37.h ts_37.h (nle rfl) ?_ ?_
 ·rfl
 ·exact ae_ _
theorem dg_ (q : Rat) (h : qs q ≤ 1099511627776) : FSpec Tryz.prog 96 [.agg (qC q)] (.agg [mag q.den]) := by
 have hp := q.den_pos
 have hd := ci_ q
 have e : q.den = q.den - 1 + 1 := by omega
 have hb1 := cu_ (show q.den - 1 ≤ q.den by omega)
 have h1 : bl 1 = 1 := jy_
 refine FSpec.enter Tryz.func96 rfl (by kernel_rfl) rfl rfl rfl ?_ rfl ?_
 ·exact aa_ (ae_ q) ab_
 refine r_z 2 ?_
 refine AWp.seq ?_
 refine AWp.regD hmix (m := 5) rfl ?_
 refine c_s (fg_ 1 (by decide)) ?_
 refine c_s (xs_ (q.den - 1) 1 (by omega)) ?_
 refine a_1 ?_
 refine AR.nil ⟨by kernel_rfl, ?_⟩
 refine AWp.ret ?_
 refine Fin.cellE rfl rfl rfl tg_33.h ts_33.h (nle rfl) ?_ ?_
 ·show AV.agg [mag (q.den - 1 + 1)] = _
  rw [← e]
 ·exact bj_ _
theorem nz_ (n : Int) (d : Nat) (hd : 0 < d) (h : bl n.natAbs + bl d ≤ 2199023255552) : FSpec Tryz.prog 98 [.agg (zI n), .agg [mag d]] (.agg (qC (mkRat n d))) := by
 obtain ⟨g, hg⟩ : ∃ g, g = Nat.gcd n.natAbs d := ⟨_, rfl⟩
 have hgp : 0 < g := by rw [hg]; exact Nat.gcd_pos_of_pos_right _ hd
 have hgd : g ≤ d := by rw [hg]; exact Nat.gcd_le_right _ hd
 have hbg := cu_ hgd
 have hbn := ea_ n.natAbs g
 have hbd := ea_ d g
 have hqd : 0 < d / g := Nat.div_pos hgd hgp
 have hfin : AV.agg (qC (mkRat n d)) = .agg (zI (sgn (decide (n < 0)) (n.natAbs / g)) ++ [mag (d / g - 1)]) := by
  unfold qC
  rw [gv_ hd, (ik_ hd).2, ← hg]
  rfl
 rw [hfin]
 have hc := fs_common n.natAbs d (by omega)
 rw [← hg] at hc
 refine FSpec.enter Tryz.func98 rfl (by kernel_rfl) rfl rfl rfl ?_ rfl ?_
 ·exact aa_ (ck_ n) (aa_ (bj_ d) ab_)
 refine r_z 3 ?_
 refine AWp.seq ?_
 refine r_c 6 (hc) ?_
 refine a_z ?_
 refine r_c 3 (fs_one g) ?_
 refine a_z ?_
 refine AWp.cutT (fun _ : Unit => ⟨[(2, .lptr 1 0 0), (3, .lptr 2 0 0), (4, .lptr 3 0 0)], [(1, some ⟨35, 2, [[mag (n.natAbs / g), bln (decide (n < 0))]]⟩), (2, some ⟨33, 1, [[mag (d / g)]]⟩), (3, some ⟨37, 3, [[.emp, bln false, .emp]]⟩)], 4, 36⟩) (fun _ => True) ?_ ?_
 ·refine AWp.cond rfl (fun h1 => ?_) (fun h1 => ?_)
  ·refine r_c 9 (tc_ n.natAbs g (by omega) hgp) ?_
   refine a_z ?_
   refine AWp.reg (m := 7) rfl ?_
   refine c_s (tc_ d g (by omega) hgp) ?_
   refine a_z ?_
   refine ⟨(), trivial, ?_⟩
   exact s_e []
  ·have hg1 : g = 1 := by simpa using h1
   subst hg1
   refine AWp.skip ⟨(), trivial, ?_⟩
   rw [Nat.div_one, Nat.div_one]
   exact s_e []
 rintro _ _
 refine AWp.seq ?_
 refine AWp.regD hmix (m := 10) rfl ?_
 refine c_s (du_ (decide (n < 0)) (n.natAbs / g)) ?_
 refine c_s (fg_ 1 (by decide)) ?_
 refine c_s (xu_ (d / g) 1 (by omega) hqd) ?_
 refine a_2 ?_
 refine AR.nil ⟨by kernel_rfl, ?_⟩
 refine AWp.ret ?_
 refine Fin.cellE rfl rfl rfl tg_37.h ts_37.h (nle rfl) ?_ ?_
 ·rfl
 ·exact ag_ (aa_ (ah_ _) (aa_ (ac_ _) (aa_ (ah_ _) ab_)))
end Go.Proofs.YtdhedjbmdnnbkaaGreatDoor
namespace Go.Proofs.YtdhedjbmdnnbkaaGreatDoor
open Go.Abs Go.RowKit
set_option maxRecDepth 20000
theorem ub_ptr : Tryz.prog.underlying 179 = some (.pointer 182) := by kernel_rfl
theorem ug_ : Tryz.prog.underlying 270 = some .unsafePointer := by kernel_rfl
theorem ub_size : (Tryz.prog.info? 182).map (·.size) = some 2 := by kernel_rfl
set_option maxHeartbeats 1000000 in
theorem cs_used (b : Nat) (w : World) (h0 : w.cell? ⟨b, 0, none⟩ = some (.pointer (some ⟨b, 0, none⟩))) :
    Calls Tryz.prog 213 #[.pointer (some ⟨b, 0, none⟩)] w fun e w' => e = .returned (.tuple #[]) ∧ w' = w := by
 obtain ⟨j, hj, _⟩ := Option.map_eq_some_iff.1 ub_size
 go_enter Tryz.func213, Tryz.ntmps213
 go_wp2
 rw [Lib.run_neq_ptr_same w _ ub_ptr hj]
 go_wp2
 go_end0
 exact ⟨rfl, rfl⟩
theorem vj_ {n : Nat} (hn : 2 ≤ n) : liesAt Tryz.prog Tryz.prog.depth 182 (n / Tryz.prog.cellsOf 182) 0 182 1 = true := by
 have hc : Tryz.prog.cellsOf 182 = 2 := by kernel_rfl
 rw [hc]
 have hd : Tryz.prog.depth = (2 * (Tryz.prog.types.size + Made.depth) + 1) + 1 := rfl
 rw [hd]
 simp only [liesAt, Bool.or_eq_true]
 left
 rw [hd]
 have : 1 ≤ n / 2 := by omega
 simp [rowAt, sameLayout, this, hc]
set_option maxHeartbeats 1000000 in
theorem cs_fresh (b : Nat) (w : World) (cs : Array Value) (hh : w.heap[b]? = some (.cells cs 182 (0, 0))) (hsz : 2 ≤ cs.size) (hc : cs[0]? = some (.pointer none)) :
    Calls Tryz.prog 213 #[.pointer (some ⟨b, 0, none⟩)] w fun e w' => e = .returned (.tuple #[]) ∧ w' = w.setCell ⟨b, 0, none⟩ (.pointer (some ⟨b, 0, none⟩)) := by
 obtain ⟨j, hj, hjs⟩ := Option.map_eq_some_iff.1 ub_size
 have h0 : w.cell? ⟨b, 0, none⟩ = some (.pointer none) := by simp [World.cell?, hh, hc]
 have hsh : w.shape? b = some (182, cs.size) := by simp [World.shape?, hh]
 have hfz : w.frozen? ⟨b, 0, none⟩ = false := by simp [World.frozen?, hh]
 go_enter Tryz.func213, Tryz.ntmps213
 go_wp2
 rw [Lib.run_to_unsafe w ⟨b, 0, none⟩ ub_ptr ug_ hj (by rw [hjs]; decide) hsh (by show 0 < cs.size; omega)]
 simp only [Result.andThen]
 rw [Oper.upon_value]
 go_wp2
 rw [run_callFunc_extern Tryz.func259 (by kernel_rfl) (by kernel_rfl) (by kernel_rfl) (e := Extern.AbiNoEscape.same) (by kernel_rfl)]
 rw [Lib.run_noEscape]
 simp only [Result.andThen]
 rw [Oper.upon_value]
 go_wp2
 rw [Lib.run_from_unsafe w ⟨b, 0, none⟩ ug_ ub_ptr hj hsh (vj_ hsz)]
 simp only [Result.andThen]
 rw [Oper.upon_value]
 go_wp2
 go_end0
 exact ⟨rfl, rfl⟩
theorem qd_ {P : Go.Program} {f : Nat} {fn : Func} {c : Code} (hf : P.funcs[f]? = some fn) (hb : fn.body = some c) (hname : (fn.name == "runtime.NumGoroutine") = false) (xs : Array Value) (w : World) : (callFunc f xs).run P w = .ok (.enter f xs) w := by
 have hname' : ¬ fn.name = "runtime.NumGoroutine" := by simpa using hname
 simp [callFunc, hf, hname', hb]
theorem nj_ : CSpec Tryz.prog 213 182 :=
 ⟨fun xs w => qd_ Tryz.func213 rfl (by kernel_rfl) xs w, fun b w h0 => cs_used b w h0, fun b w cs hh hsz h0 => cs_fresh b w cs hh hsz h0⟩
theorem zj_ (a b : Value) : Pure (.tup [.v a, .v b]) := by
 rintro M M' β β' w w' y ⟨xs, rfl, x1, x2, e, h1, ⟨x3, x4, e2, h2, h3⟩⟩
 exact ⟨xs, rfl, x1, x2, e, h1, x3, x4, e2, h2, h3⟩
theorem ga_ : Tryz.prog.underlying 9 = some .string := by kernel_rfl
theorem bE_len (q : List UInt8) : lenA (.arr (bE q)) = some q.length := by simp [lenA, cd_]
theorem ml_ (t : List UInt8) : (⟨t.toArray⟩ : ByteArray).size = t.length := by simp [ByteArray.size]
theorem hb_ (t : List UInt8) (h0 : t ≠ []) (hl : t.length ≤ 1099511627776) : BSpec Tryz.prog 145 182 5 none t [tx t] (.tup [i64 t.length, .v .nilIface]) := by
 refine BSpec.intro Tryz.func145 rfl (by kernel_rfl) (aa_ (ac_ _) ab_) (zj_ _ _) (nle rfl) ?_
 show AWp _ _ _ _ ⟨[(0, .lptr 0 0 0), (1, tx t)], [(0, some ⟨182, 2, [bldC 0 1 none]⟩)], 2, 19⟩
 refine r_z 2 ?_
 refine s_r 2 ?_
 refine a_1 ?_
 refine o_1 (.callC rfl rfl rfl rfl rfl (by first | exact .inl rfl | exact .inr rfl) (nj_)) ?_
 refine AR.nil ?_
 refine s_r 10 ?_
 refine a_6 ?_
 refine o_1 (.appS_e rfl rfl rfl te_180.h ga_ rfl rfl h0 tz_5.h rfl tb_5.h (by omega)) ?_
 refine a_z ?_
 refine s_r 4 ?_
 refine o_0 (.move rfl) ?_
 refine o_0 (.builtinV (vs := [_]) rfl rfl (fun _ _ _ => rfl)) ?_
 refine o_0 (.assign rfl) ?_
 refine o_0 (.assign rfl) ?_
 refine AR.nil ?_
 refine AWp.ret ⟨.inr rfl, ?_, 12, by decide, rfl, rfl⟩
 refine ⟨[_, _], ⟨_, _, rfl, rfl, ⟨_, _, rfl, rfl, rfl⟩⟩, Cv.tup ?_⟩
 refine CvL.cons (Cv.loE am_ ?_ (ac_ _)) (CvL.cons (Cv.clo am_ (ac_ _)) CvL.nil)
 rw [ml_]; rfl
theorem fn_ (q t : List UInt8) (hl : q.length + t.length ≤ 1099511627776) : BSpec Tryz.prog 145 182 5 (some q) (q ++ t) [tx t] (.tup [i64 t.length, .v .nilIface]) := by
 refine BSpec.intro Tryz.func145 rfl (by kernel_rfl) (aa_ (ac_ _) ab_) (zj_ _ _) (nle rfl) ?_
 show AWp _ _ _ _ ⟨[(0, .lptr 0 0 0), (1, tx t)], [(0, some ⟨182, 2, [bldC 0 1 (some q)]⟩), (1, some ⟨5, 1, bE q⟩)], 2, 19⟩
 refine r_z 2 ?_
 refine s_r 2 ?_
 refine a_1 ?_
 refine o_1 (.callC rfl rfl rfl rfl rfl (by first | exact .inl rfl | exact .inr rfl) (nj_)) ?_
 refine AR.nil ?_
 refine s_r 10 ?_
 refine a_6 ?_
 refine o_2 (.appS_l rfl rfl rfl te_180.h ga_ rfl rfl rfl rfl tz_5.h rfl tb_5.h (by omega)) ?_
 refine a_z ?_
 refine s_r 4 ?_
 refine o_0 (.move rfl) ?_
 refine o_0 (.builtinV (vs := [_]) rfl rfl (fun _ _ _ => rfl)) ?_
 refine o_0 (.assign rfl) ?_
 refine o_0 (.assign rfl) ?_
 refine AR.nil ?_
 refine AWp.ret ⟨.inr rfl, ?_, 12, by decide, rfl, rfl⟩
 refine ⟨[_, _], ⟨_, _, rfl, rfl, ⟨_, _, rfl, rfl, rfl⟩⟩, Cv.tup ?_⟩
 refine CvL.cons (Cv.loE am_ ?_ (ac_ _)) (CvL.cons (Cv.clo am_ (ac_ _)) CvL.nil)
 rw [ml_]; rfl
theorem ti_ : FSpec Tryz.prog 144 [.aptr [bldV none] 0 0] (i64 0) := by
 have hc : Closed (.aptr [bldV none] 0 0) := bb_ (aa_ (ac_ _) (aa_ az_ ab_))
 refine FSpec.enter Tryz.func144 rfl (by kernel_rfl) rfl rfl rfl ?_ rfl ?_
 ·exact aa_ hc ab_
 refine r_z 1 ?_
 refine r_z 6 ?_
 refine AWp.ret ?_
 refine Fin.tmpE rfl ?_ ?_
 ·rfl
 ·exact ac_ _
theorem th_ (q : List UInt8) : FSpec Tryz.prog 144 [.aptr [bldV (some q)] 0 0] (i64 q.length) := by
 have hc : Closed (.aptr [bldV (some q)] 0 0) := bb_ (aa_ (lo_any 0).closed (aa_ (ao_ (ef_ q)) ab_))
 refine FSpec.enter Tryz.func144 rfl (by kernel_rfl) rfl rfl rfl ?_ rfl ?_
 ·exact aa_ hc ab_
 refine r_z 1 ?_
 refine s_r 6 ?_
 refine a_4 ?_
 refine o_0 (.len rfl rfl rfl rfl (bE_len q) te_180.h) ?_
 refine a_z ?_
 refine AWp.ret ?_
 refine Fin.tmpE rfl ?_ ?_
 ·rfl
 ·exact ac_ _
theorem ub_byte : Tryz.prog.underlying 233 = some (.pointer 5) := by kernel_rfl
theorem ub_cells : Tryz.prog.cellsOf 5 = 1 := by kernel_rfl
theorem but_freeze (w : World) (g n : Nat) : But g w (w.drew.freeze ⟨g, 0, none⟩ n) := by
 have hh : ∀ x, x ≠ g → (w.drew.freeze ⟨g, 0, none⟩ n).heap[x]? = w.heap[x]? := by
  intro x hx
  unfold World.freeze
  split
  ·rfl
  ·show (w.heap.modify g _)[x]? = _
   rw [Array.getElem?_modify, if_neg (Ne.symm hx)]
 have hsz : (w.drew.freeze ⟨g, 0, none⟩ n).heap.size = w.heap.size := by
  unfold World.freeze
  split
  ·rfl
  ·show (w.heap.modify g _).size = _
   simp
 refine ⟨?_, ?_, ?_, by omega, fun x _ hx => hh x hx, fun x N hx => ?_⟩
 ·unfold World.freeze; split <;> rfl
 ·unfold World.freeze; split <;> rfl
 ·unfold World.freeze; split <;> rfl
 ·by_cases hxg : x = g
  ·subst hxg
   unfold World.freeze
   split
   ·exact hx
   ·unfold ap_ at hx ⊢
    show (match (w.heap.modify x _)[x]? with | some (.cells cs _ _) => some cs.size | some (.map _ _) => some 0 | _ => none) = some N
    rw [Array.getElem?_modify, if_pos rfl]
    cases ho : w.heap[x]? with
    | none => rw [ho] at hx; cases hx
    | some o =>
     rw [ho] at hx
     cases o <;> simp_all
  ·unfold ap_ at hx ⊢
   rw [hh x hxg]; exact hx
set_option maxHeartbeats 2000000 in
theorem ds_run (b bj cap : Nat) (q : List UInt8) (w : World) (cs ck : Array Value) (h0 : q ≠ []) (hb : w.heap[b]? = some (.cells cs 182 (0, 0))) (hc1 : cs[1]? = some (.slice (some ⟨bj, 0, none⟩) q.length cap)) (hl : q.length ≤ cap) (hm : cap ≤ maxLen) (hne : b ≠ bj) (hj : w.heap[bj]? = some (.cells ck 5 (0, 0))) (hck : cap ≤ ck.size)
    (hq : ∀ (k : Nat) (x : UInt8), q[k]? = some x → ck[k]? = some (Value.int .u8 x.toNat)) : Calls Tryz.prog 148 #[.pointer (some ⟨b, 0, none⟩)] w fun e w' => e = .returned (.string ⟨q.toArray⟩) ∧ But bj w w' := by
 have hl0 : q.length ≠ 0 := by simpa using h0
 have c1 : w.drew.cell? ⟨b, 1, none⟩ = some (.slice (some ⟨bj, 0, none⟩) q.length cap) := by
  have : w.drew.heap[b]? = some (.cells cs 182 (0, 0)) := hb
  simp [World.cell?, this, hc1]
 have hSD : (Builtin.unsafeSliceData_ #[180] 233 #[.slice (some ⟨bj, 0, none⟩) q.length cap]).run Tryz.prog w.drew = .ok (.pointer (some ⟨bj, 0, none⟩)) w.drew :=
  Lib.run_unsafeSliceData_row _ _ _ _ _ _ (by omega)
 have hUS : (Builtin.unsafeString_ #[233, 3] 9 #[.pointer (some ⟨bj, 0, none⟩), .int .i64 q.length]).run Tryz.prog w.drew = .ok (.string ⟨q.toArray⟩) (w.drew.freeze ⟨bj, 0, none⟩ q.length) := by
  refine Lib.run_unsafeString_row w.drew 233 3 9 5 ub_byte ub_cells bj ck.size (by have hg' : w.drew.heap[bj]? = some (.cells ck 5 (0, 0)) := hj; simp [World.shape?, hg']) q h0 (by omega) (by unfold maxLen at hm; omega) ?_
  intro j x hx
  have hg' : w.drew.heap[bj]? = some (.cells ck 5 (0, 0)) := hj
  rw [show (⟨bj, 0, none⟩ : Addr).add j = ⟨bj, 0 + j, none⟩ from iy_ bj 0 j]
  simp [World.cell?, hg', hq j x hx]
 have mixed := hmix
 go_enter Tryz.func148, Tryz.ntmps148
 go_wp2
 go_region_o
 all_goals (go_wp2; go_ret; exact ⟨rfl, but_freeze w bj q.length⟩)
theorem qe_ : DSpec Tryz.prog 148 182 5 :=
 ⟨fun xs w => qd_ Tryz.func148 rfl (by kernel_rfl) xs w, fun b bj cap q w cs ck h0 hb hc1 hl hm hne hj hck hq => ds_run b bj cap q w cs ck h0 hb hc1 hl hm hne hj hck hq⟩
end Go.Proofs.YtdhedjbmdnnbkaaGreatDoor
namespace Go.Proofs.YtdhedjbmdnnbkaaGreatDoor
open Go.Abs
set_option maxRecDepth 20000
theorem do_ (a b : Rat) (h : qs a + qs b ≤ 549755813888) : FSpec Tryz.prog 22 [.agg (qC a), .agg (qC b)] (.agg (qC (a * b))) := by
 have hp := oz_ a b
 have h1 := co_ a; have h2 := ci_ a; have h3 := co_ b; have h4 := ci_ b
 rw [ij_]
 refine FSpec.enter Tryz.func22 rfl (by kernel_rfl) rfl rfl rfl ?_ rfl ?_
 ·exact aa_ (ae_ a) (aa_ (ae_ b) ab_)
 refine r_z 3 ?_
 refine AWp.seq ?_
 refine AWp.regD hmix (m := 12) rfl ?_
 refine c_s (xv_ a.num b.num (by omega)) ?_
 refine c_s (dg_ a (by omega)) ?_
 refine c_s (dg_ b (by omega)) ?_
 refine c_s (ff_ a.den b.den (by omega)) ?_
 refine c_s (nz_ (a.num * b.num) (a.den * b.den) (jj_ a b) (by omega)) ?_
 refine a_1 ?_
 refine AR.nil ⟨by kernel_rfl, ?_⟩
 refine AWp.ret ?_
 refine Fin.cellE rfl rfl rfl tg_37.h ts_37.h (nle rfl) ?_ ?_
 ·rfl
 ·exact ae_ _
theorem zI_nat (n : Nat) : zI (n : Int) = [mag n, bln false] := by
 unfold zI; rw [Int.natAbs_natCast]; rfl
theorem fs_imuln (x : Int) (n : Nat) (h : bl x.natAbs + bl n ≤ 17592186044416) : FSpec Tryz.prog 99 [.agg (zI x), .agg [mag n, bln false]] (.agg (zI (x * n))) := by
 have := xv_ x n (by simpa using h)
 rwa [zI_nat] at this
theorem ia_ (a b : Rat) (h : qs a + qs b ≤ 549755813888) : FSpec Tryz.prog 73 [.agg (qC a), .agg (qC b)] (.agg (qC (a + b))) := by
 have hp := qq_ a b
 have h1 := co_ a; have h2 := ci_ a; have h3 := co_ b; have h4 := ci_ b
 have e1 := cn_ (x := a.num) (y := b.den) h1 (by simpa using h4)
 have e2 := cn_ (x := b.num) (y := a.den) h3 (by simpa using h2)
 rw [qr_]
 refine FSpec.enter Tryz.func73 rfl (by kernel_rfl) rfl rfl rfl ?_ rfl ?_
 ·exact aa_ (ae_ a) (aa_ (ae_ b) ab_)
 refine r_z 3 ?_
 refine AWp.seq ?_
 refine AWp.regD hmix (m := 8) rfl ?_
 refine c_s (dg_ a (by omega)) ?_
 refine c_s (dg_ b (by omega)) ?_
 refine a_4 ?_
 refine AR.nil ⟨by kernel_rfl, ?_⟩
 refine AWp.seq ?_
 refine AWp.regD hmix (m := 16) rfl ?_
 refine c_s (fs_imuln a.num b.den (by omega)) ?_
 refine c_s (fs_imuln b.num a.den (by omega)) ?_
 refine c_s (fs_iadd (a.num * b.den) (b.num * a.den) (by omega)) ?_
 refine c_s (ff_ a.den b.den (by omega)) ?_
 refine c_s (nz_ (a.num * b.den + b.num * a.den) (a.den * b.den) (jj_ a b) (by omega)) ?_
 refine a_1 ?_
 refine AR.nil ⟨by kernel_rfl, ?_⟩
 refine AWp.ret ?_
 refine Fin.cellE rfl rfl rfl tg_37.h ts_37.h (nle rfl) ?_ ?_
 ·rfl
 ·exact ae_ _
theorem neg_parts (a : Rat) : qC (-a) = zI (sgn (!decide (a.num < 0)) a.num.natAbs) ++ [mag (a.den - 1)] := by
 unfold qC
 rw [Rat.neg_num, Rat.neg_den]
 have e : -a.num = sgn (!decide (a.num < 0)) a.num.natAbs := by
  unfold sgn
  by_cases h : a.num < 0
  ·simp [h]; omega
  ·simp [h]; omega
 rw [e]; rfl
theorem pq_ (a : Rat) : FSpec Tryz.prog 91 [.agg (qC a)] (.agg (qC (-a))) := by
 have hc := ae_ (-a)
 rw [neg_parts] at hc ⊢
 refine FSpec.enter Tryz.func91 rfl (by kernel_rfl) rfl rfl rfl ?_ rfl ?_
 ·exact aa_ (ae_ a) ab_
 refine r_z 2 ?_
 refine AWp.seq ?_
 refine AWp.regD hmix (m := 12) rfl ?_
 refine c_s (du_ (!decide (a.num < 0)) a.num.natAbs) ?_
 refine a_4 ?_
 refine AR.nil ⟨by kernel_rfl, ?_⟩
 refine AWp.ret ?_
 refine Fin.cellE rfl rfl rfl tg_37.h ts_37.h (nle rfl) ?_ ?_
 ·rfl
 ·exact hc
theorem rq_ (a b : Rat) (h : qs a + qs b ≤ 549755813888) : FSpec Tryz.prog 164 [.agg (qC a), .agg (qC b)] (.agg (qC (a - b))) := by
 have hs := ia_ a (-b) (by rw [hu_]; exact h)
 rw [← Rat.sub_eq_add_neg] at hs
 refine FSpec.enter Tryz.func164 rfl (by kernel_rfl) rfl rfl rfl ?_ rfl ?_
 ·exact aa_ (ae_ a) (aa_ (ae_ b) ab_)
 refine r_z 3 ?_
 refine AWp.seq ?_
 refine AWp.regD hmix (m := 5) rfl ?_
 refine c_s (pq_ b) ?_
 refine c_s (hs) ?_
 refine a_1 ?_
 refine AR.nil ⟨by kernel_rfl, ?_⟩
 refine AWp.ret ?_
 refine Fin.cellE rfl rfl rfl tg_37.h ts_37.h (nle rfl) ?_ ?_
 ·rfl
 ·exact ae_ _
theorem fs_qover (a b : Rat) (hb : b ≠ 0) (h : qs a + qs b ≤ 549755813888) : FSpec Tryz.prog 232 [.agg (qC a), .agg (qC b)] (.agg (qC (a / b))) := by
 have hp := wi_ a b
 have h1 := co_ a; have h2 := ci_ a; have h3 := co_ b; have h4 := ci_ b
 have hn : b.num ≠ 0 := fun h => hb (Rat.num_eq_zero.1 h)
 have hs := el_ (decide (b.num < 0)) b.den
 rw [qf_ a b hb]
 refine FSpec.enter Tryz.func232 rfl (by kernel_rfl) rfl rfl rfl ?_ rfl ?_
 ·exact aa_ (ae_ a) (aa_ (ae_ b) ab_)
 refine r_z 3 ?_
 refine AWp.seq ?_
 refine AWp.regD hmix (m := 17) rfl ?_
 refine c_s (dg_ b (by omega)) ?_
 refine c_s (du_ (decide (b.num < 0)) b.den) ?_
 refine c_s (xv_ a.num (sgn (decide (b.num < 0)) b.den) (by rw [hs]; omega)) ?_
 refine c_s (dg_ a (by omega)) ?_
 refine c_s (ff_ a.den b.num.natAbs (by omega)) ?_
 refine c_s (nz_ (a.num * sgn (decide (b.num < 0)) b.den) (a.den * b.num.natAbs) (Nat.mul_pos a.den_pos (by omega)) (by omega)) ?_
 refine a_1 ?_
 refine AR.nil ⟨by kernel_rfl, ?_⟩
 refine AWp.ret ?_
 refine Fin.cellE rfl rfl rfl tg_37.h ts_37.h (nle rfl) ?_ ?_
 ·rfl
 ·exact ae_ _
theorem fs_div (a b : Rat) (hb : b ≠ 0) (h : qs a + qs b ≤ 549755813888) : FSpec Tryz.prog 171 [.agg (qC a), .agg (qC b)] (.tup [.agg (qC (a / b)), i64 0]) := by
 have hn : b.num ≠ 0 := fun h => hb (Rat.num_eq_zero.1 h)
 have hsg : sgZ b.num ≠ 0 := by unfold sgZ; rw [if_neg hn]; split <;> decide
 refine FSpec.enter Tryz.func171 rfl (by kernel_rfl) rfl rfl rfl ?_ rfl ?_
 ·exact aa_ (ae_ a) (aa_ (ae_ b) ab_)
 refine r_z 4 ?_
 refine AWp.seq ?_
 refine r_c 3 (dm_ b) ?_
 refine a_z ?_
 refine AWp.cond rfl (fun h => ?_) (fun h => ?_)
 ·exact absurd h (by simpa using hsg)
 ·refine AWp.skip ?_
  refine r_c 5 (fs_qover a b hb (by assumption)) ?_
  refine a_z ?_
  refine AWp.ret ?_
  refine Fin.many ⟨_, _, rfl, ⟨_, _, _, _, _, rfl, rfl, rfl, .inl ⟨tg_37.h, _, ts_37.h, nle rfl, rfl⟩⟩, ⟨_, _, rfl, rfl, rfl⟩⟩ (nle rfl) ?_
  exact CvL.cons (Cv.clo am_ (ae_ _)) (CvL.cons (Cv.clo am_ (ac_ _)) CvL.nil)
theorem cmp_key (x : Int) (n : Nat) (hn : 0 < n) : (sgZ x = -1 ∧ ∃ p : Nat, 0 < p ∧ x * n = -(p : Int) ∧ x.natAbs * n = p) ∨ (sgZ x = 0 ∧ x * n = 0 ∧ x.natAbs * n = 0) ∨ (sgZ x = 1 ∧ ∃ p : Nat, 0 < p ∧ x * n = p ∧ x.natAbs * n = p) := by
 rcases Int.lt_trichotomy x 0 with hx | hx | hx
 ·refine .inl ⟨by unfold sgZ; rw [if_neg (by omega), if_pos hx], x.natAbs * n, Nat.mul_pos (by omega) hn, ?_, rfl⟩
  rw [Int.natCast_mul, ← Int.neg_mul]; congr 1; omega
 ·subst hx; refine .inr (.inl ⟨rfl, by simp, by simp⟩)
 ·refine .inr (.inr ⟨by unfold sgZ; rw [if_neg (by omega), if_neg (by omega)], x.natAbs * n, Nat.mul_pos (by omega) hn, ?_, rfl⟩)
  rw [Int.natCast_mul]; congr 1; omega
theorem cmp_code (a b : Rat) : cmpQ a b = if sgZ a.num ≠ sgZ b.num ∨ sgZ a.num = 0 then sgZ a.num - sgZ b.num - (sgZ a.num - sgZ b.num).tdiv 2 else sgZ a.num * cmpZ ((a.num.natAbs * b.den : Nat) : Int) ((b.num.natAbs * a.den : Nat) : Int) := by
 rw [cmpQ_eq]
 rcases cmp_key a.num b.den b.den_pos with ⟨s1, p, hp, e1, f1⟩ | ⟨s1, e1, f1⟩ | ⟨s1, p, hp, e1, f1⟩ <;> rcases cmp_key b.num a.den a.den_pos with ⟨s2, q, hq, e2, f2⟩ | ⟨s2, e2, f2⟩ | ⟨s2, q, hq, e2, f2⟩ <;> rw [s1, s2, e1, e2, f1, f2] <;> unfold cmpZ <;> simp <;> (repeat' split) <;> first | rfl | omega
theorem ru_ (a b : Rat) (ha : sm a) (hb : sm b) : FSpec Tryz.prog 21 [.agg (qC a), .agg (qC b)] (i64 (cmpQ a b)) := by
 have hs := sm2 ha hb
 have h1 := co_ a; have h2 := ci_ a; have h3 := co_ b; have h4 := ci_ b
 have hc := cmp_code a b
 have hsa : sgZ a.num = -1 ∨ sgZ a.num = 0 ∨ sgZ a.num = 1 := by unfold sgZ; split; simp; split <;> simp
 have hsb : sgZ b.num = -1 ∨ sgZ b.num = 0 ∨ sgZ b.num = 1 := by unfold sgZ; split; simp; split <;> simp
 have hbm1 := hc_ a.num.natAbs b.den
 have hbm2 := hc_ b.num.natAbs a.den
 refine FSpec.enter Tryz.func21 rfl (by kernel_rfl) rfl rfl rfl ?_ rfl ?_
 ·exact aa_ (ae_ a) (aa_ (ae_ b) ab_)
 refine r_z 3 ?_
 refine AWp.seq ?_
 refine AWp.seq ?_
 refine AWp.regD hmix (m := 6) rfl ?_
 refine c_s (dm_ a) ?_
 refine c_s (dm_ b) ?_
 refine a_2 ?_
 refine AR.nil ⟨by kernel_rfl, ?_⟩
 obtain ⟨x, hx⟩ : ∃ x, x = sgZ a.num := ⟨_, rfl⟩
 obtain ⟨y, hy⟩ : ∃ y, y = sgZ b.num := ⟨_, rfl⟩
 rw [← hx] at hsa hc ⊢
 rw [← hy] at hsb hc ⊢
 have hq : (x - y).tdiv 2 = -1 ∨ (x - y).tdiv 2 = 0 ∨ (x - y).tdiv 2 = 1 := by
  rcases hsa with h | h | h <;> rcases hsb with h' | h' | h' <;> rw [h, h'] <;> decide
 refine AWp.cutT (fun _ : Unit => ⟨[(2, .lptr 1 0 0), (3, .lptr 2 0 0)], [(1, some ⟨37, 3, [qC a]⟩), (2, some ⟨37, 3, [qC b]⟩)], 3, 42⟩) (fun _ => x = y ∧ x ≠ 0) ?_ ?_
 ·by_cases he : x = y
  ·refine s_r 7 ?_
   refine a_4 ?_
   refine AR.op0y rfl rfl (gy (by simp [he])) (.move rfl) rfl rfl ?_
   refine AR.op0y rfl rfl (gy (by simp [he])) (.bin rfl rfl bo_) rfl rfl ?_
   refine o_0 (.pickF rfl (by simp [he]) rfl) ?_
   refine AR.nil ?_
   refine AWp.cond rfl (fun h => ?_) (fun h => ?_)
   ·have h0 : x = 0 := by simpa using h
    refine s_r 9 ?_
    refine a_6 ?_
    refine o_0 (.bin rfl rfl (qn_ (by decide) (by omega))) ?_
    refine a_z ?_
    refine AWp.ret (Fin.tmpE rfl ?_ (ac_ _))
    rw [hc, if_pos (.inr h0)]; rfl
   ·have h0 : x ≠ 0 := by simpa using h
    refine AWp.skip ⟨(), ⟨he, h0⟩, ?_⟩
    exact s_e []
  ·refine s_r 7 ?_
   refine a_4 ?_
   refine AR.opN rfl rfl (gn (by simp [he])) rfl rfl ?_
   refine AR.opN rfl rfl (gn (by simp [he])) rfl rfl ?_
   refine o_0 (.pickT rfl (by simp [he]) rfl) ?_
   refine AR.nil ?_
   refine AWp.cond rfl (fun h => ?_) (fun h => ?_)
   ·refine s_r 9 ?_
    refine a_6 ?_
    refine o_0 (.bin rfl rfl (qn_ (by decide) (by omega))) ?_
    refine a_z ?_
    refine AWp.ret (Fin.tmpE rfl ?_ (ac_ _))
    rw [hc, if_pos (.inl he)]; rfl
   ·cases h
 rintro _ ⟨he, h0⟩
 have hcz : cmpZ ((a.num.natAbs * b.den : Nat) : Int) ((b.num.natAbs * a.den : Nat) : Int) = -1 ∨ cmpZ ((a.num.natAbs * b.den : Nat) : Int) ((b.num.natAbs * a.den : Nat) : Int) = 0 ∨ cmpZ ((a.num.natAbs * b.den : Nat) : Int) ((b.num.natAbs * a.den : Nat) : Int) = 1 := by
  unfold cmpZ; split; simp; split <;> simp
 have hsx := dm_ a
 rw [← hx] at hsx
 have hmul : -9223372036854775808 ≤ x * cmpZ ((a.num.natAbs * b.den : Nat) : Int) ((b.num.natAbs * a.den : Nat) : Int) ∧ x * cmpZ ((a.num.natAbs * b.den : Nat) : Int) ((b.num.natAbs * a.den : Nat) : Int) ≤ 9223372036854775807 := by
  rcases hsa with h | h | h <;> rcases hcz with h' | h' | h' <;> rw [h, h'] <;> decide
 refine AWp.seq ?_
 refine AWp.regD hmix (m := 17) rfl ?_
 refine c_s (hsx) ?_
 refine c_s (dg_ b (by omega)) ?_
 refine c_s (ff_ a.num.natAbs b.den (by omega)) ?_
 refine c_s (dg_ a (by omega)) ?_
 refine c_s (ff_ b.num.natAbs a.den (by omega)) ?_
 refine c_s (mp_ (a.num.natAbs * b.den) (b.num.natAbs * a.den) (by omega)) ?_
 refine o_0 (.bin rfl rfl (tw_ hmul)) ?_
 refine a_1 ?_
 refine AR.nil ⟨by kernel_rfl, ?_⟩
 refine AWp.ret (Fin.tmpE rfl ?_ (ac_ _))
 rw [hc, if_neg (by omega)]; rfl
theorem fs_abs (a : Rat) : FSpec Tryz.prog 146 [.agg (qC a)] (.agg (qC (absQ a))) := by
 have hc := ae_ (absQ a)
 rw [qC_abs] at hc ⊢
 refine FSpec.enter Tryz.func146 rfl (by kernel_rfl) rfl rfl rfl ?_ rfl ?_
 ·exact aa_ (ae_ a) ab_
 refine r_z 2 ?_
 refine AWp.seq ?_
 refine AWp.regD hmix (m := 8) rfl ?_
 refine c_s (du_ false a.num.natAbs) ?_
 refine a_4 ?_
 refine AR.nil ⟨by kernel_rfl, ?_⟩
 refine AWp.ret ?_
 refine Fin.cellE rfl rfl rfl tg_37.h ts_37.h (nle rfl) ?_ ?_
 ·rfl
 ·exact hc
theorem fs_den (a : Rat) (ha : sm a) : FSpec Tryz.prog 219 [.agg (qC a)] (.agg (qC ((a.den : Int) : Rat))) := by
 have hw := nx_ (a.den : Int)
 rw [zI_nat] at hw
 refine FSpec.enter Tryz.func219 rfl (by kernel_rfl) rfl rfl rfl ?_ rfl ?_
 ·exact aa_ (ae_ a) ab_
 refine r_z 2 ?_
 refine r_c 5 (dg_ a (by unfold sm at ha; omega)) ?_
 refine c_s (hw) ?_
 refine a_z ?_
 refine AWp.ret ?_
 refine Fin.cellE rfl rfl rfl tg_37.h ts_37.h (nle rfl) ?_ ?_
 ·rfl
 ·exact ae_ _
theorem ediv_uniq {z q : Int} {d : Nat} (hd : 0 < d) (h1 : q * d ≤ z) (h2 : z < q * d + d) : z / (d : Int) = q := by
 have hdi : (0 : Int) < d := by omega
 have a1 : q ≤ z / (d : Int) := (Int.le_ediv_iff_mul_le hdi).2 h1
 have a2 : z / (d : Int) < q + 1 := (Int.ediv_lt_iff_lt_mul hdi).2 (by rw [Int.add_mul]; omega)
 omega
theorem rw_ (z : Int) (d : Nat) (hd : 0 < d) : z / (d : Int) = sgn (decide (z < 0)) (if (decide (z < 0) && !(z.natAbs % d == 0)) = true then z.natAbs / d + 1 else z.natAbs / d) := by
 have h1 := Nat.div_add_mod z.natAbs d
 have h2 := Nat.mod_lt z.natAbs hd
 generalize hr : z.natAbs % d = r at *
 generalize hq : z.natAbs / d = a at *
 have h3 : ((d * a : Nat) : Int) = (a : Int) * d := by rw [Int.natCast_mul, Int.mul_comm]
 refine ediv_uniq hd ?_ ?_ <;> by_cases hz : z < 0 <;> by_cases h0 : r = 0 <;> simp [sgn, hz, h0, Int.neg_mul, Int.add_mul] <;> omega
theorem fs_ifloor (z : Int) (d : Nat) (hd : 0 < d) (h : bl z.natAbs + bl d ≤ 4398046511104) : FSpec Tryz.prog 262 [.agg (zI z), .agg [mag d]] (.agg (zI (z / d))) := by
 rw [rw_ z d hd]
 have hbq := ea_ z.natAbs d
 have hb1 := bl_add (z.natAbs / d) 1
 have hb2 : bl 1 = 1 := jy_
 obtain ⟨Q, hQ⟩ : ∃ Q, Q = (if (decide (z < 0) && !(z.natAbs % d == 0)) = true then z.natAbs / d + 1 else z.natAbs / d) := ⟨_, rfl⟩
 rw [← hQ]
 refine FSpec.enter Tryz.func262 rfl (by kernel_rfl) rfl rfl rfl ?_ rfl ?_
 ·exact aa_ (ck_ z) (aa_ (bj_ d) ab_)
 refine r_z 3 ?_
 refine r_c 11 (tc_ z.natAbs d h hd) ?_
 refine a_z ?_
 refine AWp.cut (fun _ : Unit => ⟨[(2, .lptr 1 0 0), (4, .lptr 2 0 0), (5, .lptr 3 0 0)], [(1, some ⟨35, 2, [zI z]⟩), (2, some ⟨35, 2, [[.emp, bln false]]⟩), (3, some ⟨33, 1, [[mag Q]]⟩)], 4, 28⟩) (fun _ => True) ?_ ?_
 ·by_cases hz : z < 0
  ·refine s_r 7 ?_
   refine a_3 ?_
   first | refine AR.op0y rfl rfl (gy (by simp [hz])) (.load_l rfl rfl rfl tg_33.h ts_33.h (nle rfl)) rfl rfl ?_ | refine AR.op0y rfl rfl (gy (by simp [hz])) (.load_a rfl rfl tg_33.h ts_33.h (nle rfl)) rfl rfl ?_
   refine AR.op0y rfl rfl (gy (by simp [hz])) (.call rfl rfl rfl (hj_ (z.natAbs % d))) rfl rfl ?_
   refine AR.op0y rfl rfl (gy (by simp [hz])) (.un rfl uf_) rfl rfl ?_
   refine o_0 (.pickT rfl (by simp [hz]) rfl) ?_
   refine AR.nil ?_
   refine AWp.cond rfl (fun h1 => ?_) (fun h1 => ?_)
   ·have : Q = z.natAbs / d + 1 := by rw [hQ, if_pos]; simpa [hz] using h1
    rw [this]
    refine AWp.regD hmix (m := 4) rfl ?_
    refine c_s (fg_ 1 (by decide)) ?_
    refine c_s (xs_ (z.natAbs / d) 1 (by omega)) ?_
    refine a_1 ?_
    refine AR.nil ⟨by kernel_rfl, ?_⟩
    refine ⟨(), trivial, ?_⟩
    exact s_e [(2, 4), (3, 5)]
   ·have : Q = z.natAbs / d := by rw [hQ, if_neg]; simpa [hz] using h1
    rw [this]
    refine AWp.skip ⟨(), trivial, ?_⟩
    exact s_e [(2, 4), (3, 5)]
  ·refine s_r 7 ?_
   refine a_3 ?_
   refine AR.opN rfl rfl (gn (by simp [hz])) rfl rfl ?_
   refine AR.opN rfl rfl (gn (by simp [hz])) rfl rfl ?_
   refine AR.opN rfl rfl (gn (by simp [hz])) rfl rfl ?_
   refine o_0 (.pickF rfl (by simp [hz]) rfl) ?_
   refine AR.nil ?_
   have : Q = z.natAbs / d := by rw [hQ, if_neg]; simp [hz]
   rw [this]
   refine AWp.cond rfl (fun h => ?_) (fun h => AWp.skip ⟨(), trivial, ?_⟩)
   ·cases h
   ·exact s_e [(2, 4), (3, 5)]
 rintro _ _
 refine r_c 5 (du_ (decide (z < 0)) Q) ?_
 refine a_z ?_
 refine AWp.ret ?_
 refine Fin.cellE rfl rfl rfl tg_35.h ts_35.h (nle rfl) ?_ ?_
 ·rfl
 ·exact ck_ _
theorem oc_ (q : Rat) (h : qs q ≤ 1099511627776) : FSpec Tryz.prog 223 [.agg (qC q)] (.agg (qC (q.floor : Rat))) := by
 have h1 := co_ q; have h2 := ci_ q
 rw [Rat.floor_def]
 refine FSpec.enter Tryz.func223 rfl (by kernel_rfl) rfl rfl rfl ?_ rfl ?_
 ·exact aa_ (ae_ q) ab_
 refine r_z 2 ?_
 refine AWp.seq ?_
 refine AWp.regD hmix (m := 7) rfl ?_
 refine c_s (dg_ q h) ?_
 refine c_s (fs_ifloor q.num q.den q.den_pos (by omega)) ?_
 refine c_s (nx_ (q.num / q.den)) ?_
 refine a_1 ?_
 refine AR.nil ⟨by kernel_rfl, ?_⟩
 refine AWp.ret ?_
 refine Fin.cellE rfl rfl rfl tg_37.h ts_37.h (nle rfl) ?_ ?_
 ·rfl
 ·exact ae_ _
def ceilQ (q : Rat) : Rat := -((-q).floor : Rat)
theorem fs_ceil (q : Rat) (h : qs q ≤ 1099511627776) : FSpec Tryz.prog 222 [.agg (qC q)] (.agg (qC (ceilQ q))) := by
 refine FSpec.enter Tryz.func222 rfl (by kernel_rfl) rfl rfl rfl ?_ rfl ?_
 ·exact aa_ (ae_ q) ab_
 refine r_z 2 ?_
 refine r_c 5 (pq_ q) ?_
 refine c_s (oc_ (-q) (by rw [hu_]; exact h)) ?_
 refine c_s (pq_ ((-q).floor : Rat)) ?_
 refine a_z ?_
 refine AWp.ret ?_
 refine Fin.cellE rfl rfl rfl tg_37.h ts_37.h (nle rfl) ?_ ?_
 ·rfl
 ·exact ae_ _
def wi (k : Int) (m : Nat) : Nat := (max 0 (min k m)).toNat
theorem fs_within (k : Int) (m : Nat) : FSpec Tryz.prog 275 [i64 k, i64 m] (i64 (wi k m)) := by
 refine FSpec.enter Tryz.func275 rfl (by kernel_rfl) rfl rfl rfl ?_ rfl ?_
 ·exact aa_ (ac_ _) (aa_ (ac_ _) ab_)
 refine r_z 1 ?_
 refine r_z 5 ?_
 refine AWp.ret ?_
 refine Fin.tmpE rfl ?_ ?_
 ·simp only [i64, wi]
  congr 2
  split <;> split <;> omega
 ·exact ac_ _
def powS  : Nat × Nat × Nat → AState
 | (o, x, m) => ⟨[(1, i64 m), (2, .lptr 1 0 0), (4, .lptr 2 0 0), (5, .lptr 3 0 0)], [(1, some ⟨33, 1, [[mag x]]⟩), (2, some ⟨33, 1, [[.emp]]⟩), (3, some ⟨33, 1, [[mag o]]⟩)], 4, 23⟩
theorem kd_  (o : Nat) (x : Nat) (m : Nat) : powS  (o, x, m) = ⟨[(1, i64 m), (2, .lptr 1 0 0), (4, .lptr 2 0 0), (5, .lptr 3 0 0)], [(1, some ⟨33, 1, [[mag x]]⟩), (2, some ⟨33, 1, [[.emp]]⟩), (3, some ⟨33, 1, [[mag o]]⟩)], 4, 23⟩ := rfl
theorem pow_halves (x m : Nat) : x ^ m = (x * x) ^ (m / 2) * (if m % 2 = 1 then x else 1) := by
 rw [← Nat.pow_two, ← Nat.pow_mul]
 have := Nat.div_add_mod m 2
 split
 ·rename_i h; rw [← Nat.pow_succ]; congr 1; omega
 ·rename_i h; rw [Nat.mul_one]; congr 1; omega
theorem fs_mpower (a n : Nat) (h : bl a * n ≤ 2199023255552) (hn : n ≤ 1000000) : FSpec Tryz.prog 274 [.agg [mag a], i64 n] (.agg [mag (a ^ n)]) := by
 refine FSpec.enter Tryz.func274 rfl (by kernel_rfl) rfl rfl rfl ?_ rfl ?_
 ·exact aa_ (bj_ a) (aa_ (ac_ _) ab_)
 refine r_z 2 ?_
 refine r_c 3 (fg_ 1 (by decide)) ?_
 refine a_z ?_
 refine AWp.cut (fun _ : Unit => ⟨[(4, .lptr 2 0 0), (5, .lptr 3 0 0)], [(2, some ⟨33, 1, [[.emp]]⟩), (3, some ⟨33, 1, [[mag (a ^ n)]]⟩)], 4, 23⟩) (fun _ => True) ?_ ?_
 ·refine AWp.block ?_
  refine AWp.loopS powS (fun x => x.2.2) (fun x => x.1 * x.2.1 ^ x.2.2 = a ^ n ∧ bl x.1 + bl x.2.1 * x.2.2 ≤ 2199023255553 ∧ x.2.2 ≤ 1000000) (1, a, n) ⟨by simp, by have : bl 1 = 1 := jy_; simp only; omega, hn⟩ ?_ ?_
  ·rw [kd_]
   exact s_e [(1, 2), (2, 4), (3, 5)]
  rintro ⟨o, x, m⟩ ⟨hv, hb, hm⟩
  simp only at hv hb hm
  rw [kd_]
  refine AWp.seq ?_
  refine r_z 2 ?_
  refine AWp.cond rfl (fun h => ?_) (fun h => ?_)
  ·have hm0 : 0 < m := by simpa using h
   have hx1 : bl x * 1 ≤ bl x * m := Nat.mul_le_mul_left _ hm0
   have hph := pow_halves x m
   refine AWp.skip ?_
   have hq : (m : Int).tdiv 2 = ((m / 2 : Nat) : Int) := by
    rw [Int.tdiv_eq_ediv_of_nonneg (by omega)]; omega
   have hdm := Nat.div_add_mod m 2
   have hml := Nat.mod_lt m (show 0 < 2 by decide)
   have hlt : m / 2 < m := by omega
   have hbx := hc_ x x
   have hbo := hc_ o x
   have hxm : bl x * m = bl x * (2 * (m / 2)) + bl x * (m % 2) := by rw [← Nat.mul_add]; congr 1; omega
   have hx2 : bl (x * x) * (m / 2) ≤ bl x * (2 * (m / 2)) := by
    have := Nat.mul_le_mul_right (m / 2) hbx
    rw [← Nat.two_mul, Nat.mul_comm 2, Nat.mul_assoc] at this; exact this
   have hI : (m : Int) % 2 = ((m % 2 : Nat) : Int) := by omega
   have hI2 : (m : Int) / 2 = ((m / 2 : Nat) : Int) := by omega
   refine AWp.seq ?_
   refine AWp.block ?_
   refine AWp.cut (fun o' : Nat => powS (o', x, m)) (fun o' => o' = o * (if m % 2 = 1 then x else 1)) ?_ ?_
   ·refine r_z 3 ?_
    refine AWp.cond rfl (fun h1 => ?_) (fun h1 => ?_)
    ·have hodd : m % 2 = 1 := by simp at h1; omega
     refine AWp.reg (m := 4) rfl ?_
     refine c_s (ff_ o x (by omega)) ?_
     refine a_z ?_
     refine ⟨o * x, by rw [if_pos hodd], ?_⟩
     simp only [kd_]
     exact s_e []
    ·have hev : ¬ m % 2 = 1 := by simp at h1; omega
     refine AWp.skip ⟨o, by rw [if_neg hev, Nat.mul_one], ?_⟩
     simp only [kd_]
     exact s_e []
   rintro o' ho'
   rw [kd_]
   have hbo' : bl o' ≤ bl o + bl x * (m % 2) := by
    rw [ho']
    split
    ·rename_i h1; rw [h1]; omega
    ·rw [Nat.mul_one]; omega
   have hv' : o' * (x * x) ^ (m / 2) = a ^ n := by
    rw [← hv, hph, ho', Nat.mul_assoc, Nat.mul_comm (if m % 2 = 1 then x else 1)]
   refine r_z 2 ?_
   refine AWp.cond rfl (fun h2 => ?_) (fun h2 => ?_)
   ·refine AWp.reg (m := 4) rfl ?_
    refine c_s (ff_ x x (by omega)) ?_
    refine a_z ?_
    refine AWp.reg (m := 3) rfl ?_
    refine a_z ?_
    refine ⟨(o', x * x, m / 2), hlt, ⟨hv', by simp only; omega, by simp only; omega⟩, ?_⟩
    rw [kd_]
    refine SEnt.to [] rfl rfl rfl au_r (fun hs => ?_) (fun hs => ?_)
    ·repeat' (first | exact CvF.nil | refine CvF.cons rfl ?_ ?_)
     all_goals (first | (exact Cv.loE hs (congrArg (fun z => AV.v (.int .i64 z)) hI2) (ac_ _)) | exact au_c)
    ·repeat' (first | exact CvH.nil | refine CvH.cons rfl rfl rfl rfl ?_ ?_)
     all_goals (first | exact au_e | (refine CvLL.box ?_; repeat' (first | exact CvL.nil | refine CvL.cons ?_ ?_)))
     all_goals (first | (exact Cv.loE hs (congrArg (fun z => AV.v (.int .i64 z)) hI2) (ac_ _)) | exact au_c)
   ·have hm1 : m / 2 = 0 := by simp at h2; omega
    refine AWp.skip ?_
    refine AWp.reg (m := 3) rfl ?_
    refine a_z ?_
    rw [hm1] at hv' hI2
    refine ⟨(o', x, 0), hm0, ⟨by simpa using hv', by simp only; omega, by simp only; omega⟩, ?_⟩
    rw [kd_]
    refine SEnt.to [] rfl rfl rfl au_r (fun hs => ?_) (fun hs => ?_)
    ·repeat' (first | exact CvF.nil | refine CvF.cons rfl ?_ ?_)
     all_goals (first | (exact Cv.loE hs (congrArg (fun z => AV.v (.int .i64 z)) hI2) (ac_ _)) | exact au_c)
    ·repeat' (first | exact CvH.nil | refine CvH.cons rfl rfl rfl rfl ?_ ?_)
     all_goals (first | exact au_e | (refine CvLL.box ?_; repeat' (first | exact CvL.nil | refine CvL.cons ?_ ?_)))
     all_goals (first | (exact Cv.loE hs (congrArg (fun z => AV.v (.int .i64 z)) hI2) (ac_ _)) | exact au_c)
  ·have hm0 : m = 0 := by simp at h; omega
   subst hm0
   refine AWp.exit ⟨(), trivial, ?_⟩
   have hv' : o = a ^ n := by simpa using hv
   rw [hv']
   exact s_e []
 rintro _ _
 refine r_z 2 ?_
 refine AWp.ret ?_
 refine Fin.cellE rfl rfl rfl tg_33.h ts_33.h (nle rfl) ?_ ?_
 ·rfl
 ·exact bj_ _
theorem fs_two (k : Int) : FSpec Tryz.prog 242 [i64 k] (.agg [mag (2 ^ wi k 256)]) := by
 have hw : wi k 256 ≤ 256 := by unfold wi; omega
 have h2 : bl 2 = 2 := by decide
 refine FSpec.enter Tryz.func242 rfl (by kernel_rfl) rfl rfl rfl ?_ rfl ?_
 ·exact aa_ (ac_ _) ab_
 refine r_z 1 ?_
 refine r_c 5 (fg_ 2 (by decide)) ?_
 refine c_s (fs_within k 256) ?_
 refine c_s (fs_mpower 2 (wi k 256) (by rw [h2]; omega) (by omega)) ?_
 refine a_z ?_
 refine AWp.ret ?_
 refine Fin.cellE rfl rfl rfl tg_33.h ts_33.h (nle rfl) ?_ ?_
 ·rfl
 ·exact bj_ _
theorem bl_two (k : Nat) : bl (2 ^ k) ≤ k + 1 := bl_le (by rw [Nat.pow_succ]; have := Nat.pow_pos (n := k) (show 0 < 2 by decide); omega)
theorem pv_ (k : Int) : FSpec Tryz.prog 186 [i64 k] (.agg (qC (fineQ (wi k 256)))) := by
 have hw : wi k 256 ≤ 256 := by unfold wi; omega
 have hb := bl_two (wi k 256)
 have h1 : bl (1 : Int).natAbs = 1 := jy_
 refine FSpec.enter Tryz.func186 rfl (by kernel_rfl) rfl rfl rfl ?_ rfl ?_
 ·exact aa_ (ac_ _) ab_
 refine r_z 1 ?_
 refine r_c 5 (fs_ofInt 1 (by decide)) ?_
 refine c_s (fs_two k) ?_
 refine c_s (nz_ 1 (2 ^ wi k 256) (Nat.pow_pos (by decide)) (by omega)) ?_
 refine a_z ?_
 refine AWp.ret ?_
 refine Fin.cellE rfl rfl rfl tg_37.h ts_37.h (nle rfl) ?_ ?_
 ·rfl
 ·exact ae_ _
def twoQ (k : Nat) : Rat := ((2 ^ k : Nat) : Int)
theorem xk_ (k : Nat) : qs (twoQ k) ≤ k + 1 := by
 have h1 : (twoQ k).num = ((2 ^ k : Nat) : Int) := rfl
 have h2 : (twoQ k).den = 1 := rfl
 unfold qs
 rw [h1, h2, Int.natAbs_natCast, jy_]
 have := bl_two k
 omega
theorem zh_ (k : Nat) : qs (fineQ k) ≤ k + 1 := by
 have h1 : bl (1 : Int).natAbs = 1 := jy_
 exact fs_ (Nat.pow_pos (by decide)) (by omega) (bl_two k)
theorem vt_ (a : Rat) (k : Int) (h : qs a ≤ 549755813000) : FSpec Tryz.prog 249 [.agg (qC a), i64 k] (.agg (qC (a * twoQ (wi k 256)))) := by
 have hw : wi k 256 ≤ 256 := by unfold wi; omega
 have h2 := xk_ (wi k 256)
 have hwh := nx_ ((2 ^ wi k 256 : Nat) : Int)
 rw [zI_nat] at hwh
 refine FSpec.enter Tryz.func249 rfl (by kernel_rfl) rfl rfl rfl ?_ rfl ?_
 ·exact aa_ (ae_ a) (aa_ (ac_ _) ab_)
 refine r_z 2 ?_
 refine AWp.seq ?_
 refine AWp.regD hmix (m := 7) rfl ?_
 refine c_s (fs_two k) ?_
 refine c_s (hwh) ?_
 refine c_s (do_ a (twoQ (wi k 256)) (by omega)) ?_
 refine a_1 ?_
 refine AR.nil ⟨by kernel_rfl, ?_⟩
 refine AWp.ret ?_
 refine Fin.cellE rfl rfl rfl tg_37.h ts_37.h (nle rfl) ?_ ?_
 ·rfl
 ·exact ae_ _
def downQ (a : Rat) (k : Nat) : Rat := ((a * twoQ k).floor : Rat) * fineQ k
def upQ (a : Rat) (k : Nat) : Rat := ceilQ (a * twoQ k) * fineQ k
theorem zg_ (a : Rat) : qs (a.floor : Rat) ≤ qs a + 1 := by
 rw [Rat.floor_def]
 have h1 := co_ a
 have e1 : ((a.num / (a.den : Int) : Int) : Rat).num = a.num / a.den := rfl
 have e2 : ((a.num / (a.den : Int) : Int) : Rat).den = 1 := rfl
 have h3 : 1 ≤ bl a.den := bl_pos a.den_pos
 have h4 := ci_ a
 unfold qs at *
 rw [e1, e2, jy_, rw_ _ _ a.den_pos, el_]
 have h5 := ea_ a.num.natAbs a.den
 have h6 := bl_add (a.num.natAbs / a.den) 1
 have h7 : bl 1 = 1 := jy_
 split <;> omega
theorem qs_ceilQ (a : Rat) : qs (ceilQ a) ≤ qs a + 1 := by
 unfold ceilQ
 rw [hu_]
 have := zg_ (-a)
 rwa [hu_] at this
theorem fs_Down (a : Rat) (k : Int) (h : sm a) : FSpec Tryz.prog 191 [.agg (qC a), i64 k] (.agg (qC (downQ a (wi k 256)))) := by
 unfold sm at h
 have hw : wi k 256 ≤ 256 := by unfold wi; omega
 have h2 := xk_ (wi k 256)
 have h3 := gf_ a (twoQ (wi k 256))
 have h4 := zg_ (a * twoQ (wi k 256))
 have h5 := zh_ (wi k 256)
 refine FSpec.enter Tryz.func191 rfl (by kernel_rfl) rfl rfl rfl ?_ rfl ?_
 ·exact aa_ (ae_ a) (aa_ (ac_ _) ab_)
 refine r_z 2 ?_
 refine r_c 8 (vt_ a k (by omega)) ?_
 refine c_s (oc_ (a * twoQ (wi k 256)) (by omega)) ?_
 refine c_s (pv_ k) ?_
 refine c_s (do_ ((a * twoQ (wi k 256)).floor : Rat) (fineQ (wi k 256)) (by omega)) ?_
 refine a_z ?_
 refine AWp.ret ?_
 refine Fin.cellE rfl rfl rfl tg_37.h ts_37.h (nle rfl) ?_ ?_
 ·rfl
 ·exact ae_ _
theorem fs_Up (a : Rat) (k : Int) (h : sm a) : FSpec Tryz.prog 202 [.agg (qC a), i64 k] (.agg (qC (upQ a (wi k 256)))) := by
 unfold sm at h
 have hw : wi k 256 ≤ 256 := by unfold wi; omega
 have h2 := xk_ (wi k 256)
 have h3 := gf_ a (twoQ (wi k 256))
 have h4 := qs_ceilQ (a * twoQ (wi k 256))
 have h5 := zh_ (wi k 256)
 refine FSpec.enter Tryz.func202 rfl (by kernel_rfl) rfl rfl rfl ?_ rfl ?_
 ·exact aa_ (ae_ a) (aa_ (ac_ _) ab_)
 refine r_z 2 ?_
 refine r_c 8 (vt_ a k (by omega)) ?_
 refine c_s (fs_ceil (a * twoQ (wi k 256)) (by omega)) ?_
 refine c_s (pv_ k) ?_
 refine c_s (do_ (ceilQ (a * twoQ (wi k 256))) (fineQ (wi k 256)) (by omega)) ?_
 refine a_z ?_
 refine AWp.ret ?_
 refine Fin.cellE rfl rfl rfl tg_37.h ts_37.h (nle rfl) ?_ ?_
 ·rfl
 ·exact ae_ _
def dec2 (n : Nat) : List UInt8 := if n < 10 then [48 + n.toUInt8] else [48 + (n / 10).toUInt8, 48 + (n % 10).toUInt8]
theorem tn_ (s : ByteArray) (l h : Nat) (zl zh : Int) (el : zl = (l : Int)) (eh : zh = (h : Int)) (hlh : l ≤ h) (hh : h ≤ s.size) : ∀ w, (Instr.sliceAt 9 (.string s) (some (.int .i64 zl)) (some (.int .i64 zh)) none).run Tryz.prog w = .ok (.string (s.extract l h)) w := fun w => by
 subst el eh
 have b1 : ∀ (i y : Nat) (c : BoundsCode), i ≤ y → (Instr.sliceBound (.int .i64 (i : Int)) y c).run Tryz.prog w = .ok i w := fun i y c hi => df_ hi c w
 have hr : (Instr.slice 9 (.string s) (some (.int .i64 (l : Int))) (some (.int .i64 (h : Int))) none).run Tryz.prog w = .ok (.string (s.extract l h)) w := by
  simp [Instr.slice, run_underlying ga_, Instr.sliceBounds, b1 h s.size _ hh, b1 l h _ hlh, Result.andThen]
 unfold Instr.sliceAt
 rw [Sem.run_bind, run_underlying ga_]
 exact hr
def smallsB : ByteArray := ⟨((List.range 100).flatMap fun n => [48 + (n / 10).toUInt8, 48 + (n % 10).toUInt8]).toArray⟩
theorem fs_small2 (i : Nat) (h : i < 100) : FSpec Tryz.prog 279 [i64 i] (tx (dec2 i)) := by
 refine FSpec.enter Tryz.func279 rfl (by kernel_rfl) rfl rfl rfl ?_ rfl ?_
 ·exact aa_ (ac_ _) ab_
 refine r_z 1 ?_
 refine AWp.seq ?_
 refine r_z 2 ?_
 refine AWp.cond rfl (fun h1 => ?_) (fun h1 => ?_)
 ·have h2 : i < 10 := by simp at h1; omega
  refine s_r 5 ?_
  refine a_3 ?_
  refine o_0 (.slice_v rfl rfl rfl rfl (tn_ _ i (i + 1) _ _ rfl (by omega) (by omega) (by exact Nat.le_trans (m := 10) (by omega) (by decide)))) ?_
  refine a_z ?_
  refine AWp.ret ?_
  refine Fin.tmpE rfl ?_ ?_
  ·have key : ∀ i, i < 10 → (ByteArray.mk #[48, 49, 50, 51, 52, 53, 54, 55, 56, 57, 97, 98, 99, 100, 101, 102, 103, 104, 105, 106, 107, 108, 109, 110, 111, 112, 113, 114, 115, 116, 117, 118, 119, 120, 121, 122]).extract i (i + 1) = ⟨(dec2 i).toArray⟩ := by decide
   exact congrArg (fun s => AV.v (.string s)) (key i h2)
  ·exact ac_ _
 ·have h2 : 10 ≤ i := by simp at h1; omega
  refine AWp.skip ?_
  refine s_r 7 ?_
  refine a_5 ?_
  refine o_0 (.slice_v rfl rfl rfl rfl (tn_ _ (i * 2) (i * 2 + 2) _ _ (by omega) (by omega) (by omega) (by exact Nat.le_trans (m := 200) (by omega) (by decide)))) ?_
  refine a_z ?_
  refine AWp.ret ?_
  refine Fin.tmpE rfl ?_ ?_
  ·have key : ∀ i, i < 100 → 10 ≤ i → smallsB.extract (i * 2) (i * 2 + 2) = ⟨(dec2 i).toArray⟩ := by decide
   refine congrArg (fun s => AV.v (.string s)) (Eq.trans (congrArg (fun s : ByteArray => s.extract _ _) (?_ : _ = smallsB)) (key i h h2))
   kernel_rfl
  ·exact ac_ _
theorem vy_ (i : Nat) (h : i < 100) : FSpec Tryz.prog 260 [i64 i, i64 10] (tx (dec2 i)) := by
 refine FSpec.enter Tryz.func260 rfl (by kernel_rfl) rfl rfl rfl ?_ rfl ?_
 ·exact aa_ (ac_ _) (aa_ (ac_ _) ab_)
 refine r_z 1 ?_
 refine AWp.seq ?_
 refine r_z 2 ?_
 refine AWp.cond rfl (fun h1 => ?_) (fun h1 => ?_)
 ·refine AWp.seq ?_
  refine s_r 6 ?_
  refine a_3 ?_
  refine AR.op0y rfl rfl (gy (by simp)) (.move rfl) rfl rfl ?_
  refine AR.op0y rfl rfl (gy (by simp)) (.bin rfl rfl ey_) rfl rfl ?_
  refine o_0 (.pickT rfl (by simp) rfl) ?_
  refine AR.nil ?_
  refine AWp.cond rfl (fun h2 => ?_) (fun h2 => ?_)
  ·refine r_c 3 (fs_small2 i h) ?_
   refine a_z ?_
   refine AWp.ret ?_
   refine Fin.tmpE rfl ?_ ?_
   ·rfl
   ·exact ac_ _
  ·exact absurd h2 (by simp; omega)
 ·exact absurd h1 (by simp)
theorem fs_iItoa (i : Nat) (h : i < 100) : FSpec Tryz.prog 214 [i64 i] (tx (dec2 i)) := by
 refine FSpec.enter Tryz.func214 rfl (by kernel_rfl) rfl rfl rfl ?_ rfl ?_
 ·exact aa_ (ac_ _) ab_
 refine r_z 1 ?_
 refine r_c 3 (vy_ i h) ?_
 refine a_z ?_
 refine AWp.ret ?_
 refine Fin.tmpE rfl ?_ ?_
 ·rfl
 ·exact ac_ _
theorem xy_ (i : Nat) (h : i < 100) : FSpec Tryz.prog 147 [i64 i] (tx (dec2 i)) := by
 refine FSpec.enter Tryz.func147 rfl (by kernel_rfl) rfl rfl rfl ?_ rfl ?_
 ·exact aa_ (ac_ _) ab_
 refine r_z 1 ?_
 refine r_c 3 (fs_iItoa i h) ?_
 refine a_z ?_
 refine AWp.ret ?_
 refine Fin.tmpE rfl ?_ ?_
 ·rfl
 ·exact ac_ _
def te0 (m : Nat) : Unit → AState
 | u => ⟨[(1, .lptr 1 0 0), (3, .lptr 2 0 0), (11, .clos 269 [] [.aptr [[.arr (dE [m])]] 0 0])], [(1, some ⟨33, 1, [[.arr (dE [m])]]⟩), (2, some ⟨182, 2, [bldC 2 0 none]⟩)], 4, 31⟩
theorem te0_mk (m : Nat) (u : Unit) : te0 m u = ⟨[(1, .lptr 1 0 0), (3, .lptr 2 0 0), (11, .clos 269 [] [.aptr [[.arr (dE [m])]] 0 0])], [(1, some ⟨33, 1, [[.arr (dE [m])]]⟩), (2, some ⟨182, 2, [bldC 2 0 none]⟩)], 4, 31⟩ := rfl
def te1 (m : Nat) : Unit → AState
 | u => ⟨[(1, .lptr 1 0 0), (3, .lptr 2 0 0), (11, .clos 269 [] [.aptr [[.arr (dE [m])]] 0 0])], [(1, some ⟨33, 1, [[.arr (dE [m])]]⟩), (2, some ⟨182, 2, [bldC 2 3 (some (dec2 m))]⟩), (3, some ⟨5, 1, bE (dec2 m)⟩)], 4, 31⟩
theorem te1_mk (m : Nat) (u : Unit) : te1 m u = ⟨[(1, .lptr 1 0 0), (3, .lptr 2 0 0), (11, .clos 269 [] [.aptr [[.arr (dE [m])]] 0 0])], [(1, some ⟨33, 1, [[.arr (dE [m])]]⟩), (2, some ⟨182, 2, [bldC 2 3 (some (dec2 m))]⟩), (3, some ⟨5, 1, bE (dec2 m)⟩)], 4, 31⟩ := rfl
def teS (m : Nat) : Nat → AState
 | 0 => te0 m ()
 | _ + 1 => te1 m ()
theorem digs_one2 {m : Nat} (h0 : m ≠ 0) (h : m < 100) : digs MB m = [m] := by
 have hb : MB = 1000000000 := rfl
 rw [dp_ (by decide) (by omega), Nat.mod_eq_of_lt (by omega), Nat.div_eq_of_lt (by omega), bq_]
theorem yj_ (m : Nat) : dec2 m ≠ [] := by unfold dec2; split <;> simp
theorem jk_ (m : Nat) : (dec2 m).length ≤ 2 := by unfold dec2; split <;> simp
theorem fs_mtext (m : Nat) (h : m < 100) : FSpec Tryz.prog 172 [.agg [mag m]] (tx (dec2 m)) := by
 have hz := hj_ m
 refine FSpec.enter Tryz.func172 rfl (by kernel_rfl) rfl rfl rfl ?_ rfl ?_
 ·exact aa_ (ag_ (aa_ (ah_ m) ab_)) ab_
 refine r_z 2 ?_
 refine AWp.seq ?_
 refine r_c 2 (hz) ?_
 refine AR.nil ?_
 refine AWp.cond rfl (fun h1 => ?_) (fun h1 => ?_)
 ·have h2 : m = 0 := by simpa using h1
  subst h2
  refine r_z 1 ?_
  refine AWp.ret ?_
  refine Fin.tmpE rfl ?_ ?_
  ·rfl
  ·exact ac_ _
 have h2 : m ≠ 0 := by simpa using h1
 have hm : mag m = .arr (dE [m]) := by unfold mag; rw [digs_one2 h2 h]
 rw [hm]
 refine AWp.skip ?_
 have hln : ([m] : List Nat).length = 1 := rfl
 have hcl : Closed (.aptr [[.arr (dE [m])]] 0 0) := gi_ (fun e he c hc => by simp at he; subst he; simp at hc; subst hc; exact aw_ _)
 have hcl2 : Closed (.clos 269 [] [.aptr [[.arr (dE [m])]] 0 0]) := af_ ab_ (aa_ hcl ab_)
 refine r_z 1 ?_
 refine AWp.seq ?_
 refine r_c 3 (hl_ [m]) ?_
 refine AR.nil ?_
 refine AWp.cutT (fun _ : Unit => te1 m ()) (fun _ => True) ?_ ?_
 ·refine AWp.block ?_
  refine AWp.rangeFunc (α := Nat) (γ := Empty) 1 (teS m) (fun k => k) (fun k => k ≤ 1) (fun e => nomatch e) (fun _ e => nomatch e) 0 rfl (hi_ [m] (by simp)) rfl rfl ?_ (fun k => by cases k <;> exact ⟨rfl, rfl⟩) (fun e => nomatch e) (Nat.zero_le _) rfl (fun _ h => h) ?_ ?_ ?_ ?_ (fun _ e => nomatch e)
  ·intro k xs hT
   unfold backT at hT
   split at hT
   ·cases hT; rfl
   ·cases hT
  ·show SEntT _ (te0 m ())
   rw [te0_mk]
   refine SEntT.to [(1, 1), (2, 3)] rfl rfl rfl au_r (fun hs => ?_) (fun hs => ?_)
   ·repeat' (first | exact CvF.nil | refine CvF.cons rfl ?_ ?_)
    all_goals (first | (exact Cv.clo hs hcl2) | exact au_c)
   ·repeat' (first | exact CvH.nil | refine CvH.cons rfl rfl rfl rfl ?_ ?_)
    all_goals (first | exact au_e | (refine CvLL.box ?_; repeat' (first | exact CvL.nil | refine CvL.cons ?_ ?_)))
    all_goals (first | (exact Cv.clo hs hcl2) | exact au_c)
  ·exact aa_ hcl ab_
  ·intro l k xs hk hT
   unfold backT at hT
   split at hT
   rotate_left
   ·cases hT
   rename_i hlt
   have hk0 : k = 0 := by simpa using hlt
   subst hk0
   cases hT
   show AWp _ _ _ _ ⟨setPs (te0 m ()).fr _ _ ++ cx_ (te0 m ()).fr, _, _, _⟩
   show AWp _ _ _ _ ⟨[(13, u32 m), (12, i64 0), (1, .lptr 1 0 0), (3, .lptr 2 0 0), (11, .clos 269 [] [.aptr [[.arr (dE [m])]] 0 0]), (1001, .lptr 1 0 0), (1003, .lptr 2 0 0), (1011, .clos 269 [] [.aptr [[.arr (dE [m])]] 0 0])], [(1, some ⟨33, 1, [[.arr (dE [m])]]⟩), (2, some ⟨182, 2, [bldC 2 0 none]⟩)], 4, 31⟩
   refine r_z 1 ?_
   refine AWp.reg (m := 1) rfl ?_
   refine a_z ?_
   refine AWp.block ?_
   refine r_c 4 (xy_ m h) ?_
   refine a_z ?_
   refine AWp.seq ?_
   refine r_z 6 ?_
   refine AWp.cond rfl (fun h3 => ?_) (fun h3 => ?_)
   ·exact absurd h3 (by simp)
   refine AWp.skip ?_
   refine AWp.reg (m := 2) rfl ?_
   refine a_1 ?_
   refine o_2 (.callB (s := none) (j := 0) rfl rfl rfl rfl rfl rfl (fun _ h => by cases h) (hb_ (dec2 m) (yj_ m) (by have := jk_ m; omega))) ?_
   refine AR.nil ?_
   refine ⟨0 + 1, ⟨by omega, rfl⟩, ?_⟩
   show SEntT _ ⟨[(1001, .lptr 1 0 0), (1003, .lptr 2 0 0), (1011, .clos 269 [] [.aptr [[.arr (dE [m])]] 0 0])], [(1, some ⟨33, 1, [[.arr (dE [m])]]⟩), (2, some ⟨182, 2, [bldC 2 3 (some (dec2 m))]⟩), (3, some ⟨5, 1, bE (dec2 m)⟩)], 4, 31⟩
   refine SEntT.to2 [(3, 100017)] rfl rfl rfl au_r (fun hs => ?_) (fun hs => ?_)
   ·repeat' (first | exact CvF.nil | refine CvF.cons rfl ?_ ?_)
    all_goals (first | (exact Cv.clo hs hcl2) | exact au_c)
   ·repeat' (first | exact CvH.nil | refine CvH.cons rfl rfl rfl rfl ?_ ?_)
    all_goals (first | exact au_e | (refine CvLL.box ?_; repeat' (first | exact CvL.nil | refine CvL.cons ?_ ?_)))
    all_goals (first | (exact Cv.clo hs hcl2) | exact au_c)
  ·intro k hk hT
   unfold backT at hT
   split at hT
   ·cases hT
   have hk1 : k = 1 := by
    rename_i hn; simp at hn; omega
   subst hk1
   exact ⟨(), trivial, SEnt.refl _⟩
 rintro _ _
 rw [te1_mk]
 have hne := yj_ m
 refine s_r 2 ?_
 refine o_2 (.callD rfl rfl rfl rfl rfl rfl (by decide) (by first | assumption | simp) (qe_)) ?_
 refine a_z ?_
 refine AWp.ret ?_
 refine Fin.tmpE rfl ?_ ?_
 ·rfl
 ·exact ac_ _
end Go.Proofs.YtdhedjbmdnnbkaaGreatDoor
namespace Go.Abs
def pE (l : List Rat) : List (List AV) := l.map qC
def pA (l : List Rat) : AV := .arr (pE l)
def spC (a b : Rat) : List AV := qC a ++ qC b
@[simp] theorem qC_length (q : Rat) : (qC q).length = 3 := rfl
@[simp] theorem spC_length (a b : Rat) : (spC a b).length = 6 := rfl
@[simp] theorem pE_length (l : List Rat) : (pE l).length = l.length := by simp [pE]
theorem cv_ {l : List Rat} {i : Nat} {q : Rat} (h : l[i]? = some q) : (pE l)[i]? = some (qC q) := by simp [pE, h]
theorem kw_ (l : List Rat) (k : Nat) : (pE l).take k = pE (l.take k) := by simp [pE]
theorem eq_ (l m : List Rat) : pE (l ++ m) = pE l ++ pE m := by simp [pE]
theorem gt_ (l : List Rat) (i : Nat) (q : Rat) : (pE l).set i (qC q) = pE (l.set i q) := by simp [pE, List.map_set]
theorem hw_ (l : List Rat) : (pE l).all (·.all AV.one) = true := by
 simp only [pE, List.all_map, List.all_eq_true]
 intro q _
 rfl
theorem hh_ (l : List Rat) : ∀ e ∈ pE l, e.length = 3 := by intro e he; simp [pE] at he; obtain ⟨q, _, rfl⟩ := he; rfl
theorem ar_ (l : List Rat) : ∀ e ∈ pE l, ∀ c ∈ e, Closed c := by
 intro e he c hc
 simp [pE] at he
 obtain ⟨q, _, rfl⟩ := he
 exact aq_ q c hc
theorem ad_ (l : List Rat) : Closed (pA l) := ao_ (ar_ l)
theorem da_ (a b : Rat) : ∀ c ∈ spC a b, Closed c := fun c hc => (List.mem_append.1 hc).elim (aq_ a c) (aq_ b c)
theorem ai_ (a b : Rat) : Closed (.agg (spC a b)) := ag_ (da_ a b)
def zC : List AV := [.emp, bln false, .emp]
theorem mag0 : mag 0 = .arr [] := by unfold mag; rw [bq_]; rfl
theorem qC0 : qC 0 = [.arr [], bln false, .arr []] := by
 show [mag 0, bln (decide ((0 : Int) < 0)), mag (1 - 1)] = _
 rw [mag0]; rfl
def smL (l : List Rat) : Prop := ∀ q ∈ l, sm q
instance (l : List Rat) : Decidable (smL l) := inferInstanceAs (Decidable (∀ q ∈ l, sm q))
def dn_ (bf : Int → Bool) : List Rat → Rat
 | [] => 0
 | x :: l => l.foldl (fun o y => if bf (cmpQ y o) then y else o) x
theorem wq_ (bf : Int → Bool) (l : List Rat) (y : Rat) : dn_ bf (l ++ [y]) = if l = [] ∨ bf (cmpQ y (dn_ bf l)) = true then y else dn_ bf l := by
 cases l with
 | nil => simp [dn_]
 | cons x l => simp [dn_, List.foldl_append]
theorem mx_ {bf : Int → Bool} : ∀ {l : List Rat}, smL l → sm (dn_ bf l)
 | [], _ => (by decide : sm 0)
 | x :: l, h => by
  have key : ∀ (l : List Rat) (o : Rat), sm o → smL l → sm (l.foldl (fun o y => if bf (cmpQ y o) then y else o) o) := by
   intro l
   induction l with
   | nil => intro o ho _; exact ho
   | cons y l ih =>
    intro o ho hl
    refine ih _ ?_ fun q hq => hl q (List.mem_cons_of_mem _ hq)
    show sm (if bf (cmpQ y o) = true then y else o)
    split
    ·exact hl y (List.mem_cons_self ..)
    ·exact ho
  exact key l x (h x (List.mem_cons_self ..)) fun q hq => h q (List.mem_cons_of_mem _ hq)
def minL (l : List Rat) : Rat := dn_ (fun c => decide (c < 0)) l
def maxL (l : List Rat) : Rat := dn_ (fun c => decide (0 < c)) l
theorem AEval.lenP {P : Program} {id : Nat} {ev : Operand → Option AV} {hp : Nat → Option ABlk} {c : Call} {x : Operand} {T : Nat} {d : Nat × Nat} {l : List Rat} (hc : c.callee = .builtin .len) (ha : c.args = #[x]) (ht : c.argTypes = #[T]) (hx : ev x = some (.arr (pE l))) (he : elOf P T = some d) :
    AEval P id ev hp (.call c) ⟨.v (.int .i64 (l.length : Nat)), []⟩ [] := .len hc ha ht hx (by simp [lenA]) he
end Go.Abs
