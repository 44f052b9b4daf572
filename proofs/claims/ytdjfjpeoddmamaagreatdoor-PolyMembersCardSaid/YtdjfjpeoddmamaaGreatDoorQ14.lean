/- Part Q14 of the proof. -/
import Derived.Test.YtdjfjpeoddmamaaGreatDoorQ13
set_option linter.all false
namespace Go.Abs
abbrev nQ (n : Nat) : Rat := ((n : Int) : Rat)
theorem nQ_eq (n : Nat) : nQ n = mkRat n 1 := (Rat.mkRat_one n).symm
theorem nQ_zero {n : Nat} : nQ n = 0 ↔ n = 0 := by
 rw [← Rat.num_eq_zero]
 show (n : Int) = 0 ↔ n = 0
 omega
theorem qs_nQ {n k : Nat} (h : bl n ≤ k) (hk : 1 ≤ k) : qs (nQ n) ≤ k := by
 refine Nat.max_le.2 ⟨?_, ?_⟩
 ·show bl ((n : Int)).natAbs ≤ k
  rwa [Int.natAbs_natCast]
 ·show bl 1 ≤ k
  rw [bl_one]; exact hk
theorem nQ_mul (a b : Nat) : nQ a * nQ b = nQ (a * b) := by
 rw [mul_mkRat, nQ_eq (a * b)]
 show mkRat ((a : Int) * b) (1 * 1) = _
 rw [Int.natCast_mul]
theorem nQ_sub {a b : Nat} (h : b ≤ a) : nQ a - nQ b = nQ (a - b) := by
 show ((a : Int) : Rat) - ((b : Int) : Rat) = _
 rw [← Rat.intCast_sub]
 show ((_ : Int) : Rat) = ((_ : Int) : Rat)
 congr 1
 omega
theorem nQ_div (a b : Nat) (hb : b ≠ 0) : nQ a / nQ b = mkRat a b := by
 rw [div_divInt]
 show Rat.divInt ((a : Int) * ((1 : Nat) : Int)) (((1 : Nat) : Int) * b) = _
 rw [show ((a : Int) * ((1 : Nat) : Int)) = a by omega, show (((1 : Nat) : Int) * (b : Int)) = b by omega, Rat.divInt_ofNat]
theorem mkRat_nat (a b : Nat) (hb : b ≠ 0) (h : b ∣ a) : mkRat a b = nQ (a / b) := by
 obtain ⟨k, rfl⟩ := h
 rw [Nat.mul_div_cancel_left _ (by omega), nQ_eq, Rat.mkRat_eq_iff hb (by decide)]
 rw [Int.natCast_mul, Int.mul_comm (b : Int)]
 simp
theorem mkRat_floor (a b : Nat) (hb : b ≠ 0) : (mkRat a b).floor = ((a / b : Nat) : Int) := by
 have h := mkRat_num (n := (a : Int)) (d := b) (by omega)
 rw [Int.natAbs_natCast] at h
 rw [Rat.floor_def, h.1, h.2]
 have hg : 0 < Nat.gcd a b := Nat.gcd_pos_of_pos_right _ (by omega)
 rw [← Int.natCast_ediv, ← Int.natCast_ediv, Nat.div_div_eq_div_mul, Nat.mul_div_cancel' (Nat.gcd_dvd_right a b)]
def denL : List Rat → Nat → Nat
 | [], d => d
 | c :: l, d => denL l (Nat.lcm d c.den)
def intC (c : Rat) (D : Nat) : Nat := c.num.natAbs * (D / c.den)
def numL (D : Nat) : List Rat → Nat → Nat
 | [], n => n
 | c :: l, n => numL D l (Nat.gcd n (intC c D))
def primP (p : List Rat) : List Rat := scaleP (trimQ p) (nQ (denL (trimQ p) 1) / nQ (numL (denL (trimQ p) 1) (trimQ p) 0))
def okPrim (p : List Rat) : Prop := (p.length + 4) * mxL p ≤ 34359738368 ∧ p.length ≤ 274877906944
instance (p : List Rat) : Decidable (okPrim p) := inferInstanceAs (Decidable (_ ∧ _))
theorem lcm_pos {a b : Nat} (ha : a ≠ 0) (hb : b ≠ 0) : Nat.lcm a b ≠ 0 := fun h => by
 rcases Nat.lcm_eq_zero_iff.1 h with h | h
 ·exact ha h
 ·exact hb h
theorem denL_ne : ∀ (l : List Rat) {d : Nat}, d ≠ 0 → denL l d ≠ 0
 | [], _, h => h
 | c :: l, _, h => denL_ne l (lcm_pos h c.den_nz)
theorem denL_dvd : ∀ (l : List Rat) (d : Nat), d ∣ denL l d ∧ ∀ c ∈ l, c.den ∣ denL l d
 | [], d => ⟨Nat.dvd_refl d, fun _ h => by cases h⟩
 | c :: l, d => by
  obtain ⟨h1, h2⟩ := denL_dvd l (Nat.lcm d c.den)
  refine ⟨Nat.dvd_trans (Nat.dvd_lcm_left d c.den) h1, fun x hx => ?_⟩
  rcases List.mem_cons.1 hx with rfl | hx
  ·exact Nat.dvd_trans (Nat.dvd_lcm_right d x.den) h1
  ·exact h2 x hx
theorem bl_lcm (a b : Nat) : bl (Nat.lcm a b) ≤ bl a + bl b :=
 Nat.le_trans (bl_div_le _ _) (bl_mul a b)
theorem denL_bl {s : Nat} : ∀ (l : List Rat) (d : Nat), bdL l s → bl (denL l d) ≤ bl d + l.length * s
 | [], d, _ => by simp [denL]
 | c :: l, d, h => by
  have h1 := denL_bl l (Nat.lcm d c.den) fun q hq => h q (List.mem_cons_of_mem _ hq)
  have h2 := bl_lcm d c.den
  have h3 := qs_den c
  have h4 := h c (List.mem_cons_self ..)
  rw [List.length_cons, Nat.add_mul, Nat.one_mul]
  unfold denL
  omega
theorem mul_intC (c : Rat) (D : Nat) (h : c.den ∣ D) : absQ (c * nQ D) = nQ (intC c D) := by
 obtain ⟨k, rfl⟩ := h
 have hd := c.den_nz
 have e : c * nQ (c.den * k) = ((c.num * (k : Int) : Int) : Rat) := by
  rw [mul_mkRat]
  show mkRat (c.num * ((c.den * k : Nat) : Int)) (c.den * 1) = _
  rw [show ((c.num * (k : Int) : Int) : Rat) = mkRat (c.num * k) 1 from (Rat.mkRat_one _).symm, Rat.mkRat_eq_iff (by omega) (by decide)]
  rw [Int.natCast_mul, Nat.mul_one]
  simp only [Int.natCast_one, Int.mul_one]
  rw [Int.mul_left_comm, Int.mul_comm]
 rw [e]
 unfold absQ intC
 show mkRat (((c.num * (k : Int)).natAbs : Nat) : Int) 1 = _
 rw [Nat.mul_div_cancel_left _ (by omega), Int.natAbs_mul, Int.natAbs_natCast, nQ_eq]
theorem numL_dvd (D : Nat) : ∀ (l : List Rat) (n : Nat), numL D l n ∣ n ∧ ∀ c ∈ l, numL D l n ∣ intC c D
 | [], n => ⟨Nat.dvd_refl n, fun _ h => by cases h⟩
 | c :: l, n => by
  obtain ⟨h1, h2⟩ := numL_dvd D l (Nat.gcd n (intC c D))
  refine ⟨Nat.dvd_trans h1 (Nat.gcd_dvd_left _ _), fun x hx => ?_⟩
  rcases List.mem_cons.1 hx with rfl | hx
  ·exact Nat.dvd_trans h1 (Nat.gcd_dvd_right _ _)
  ·exact h2 x hx
theorem intC_ne {c : Rat} {D : Nat} (h : c.den ∣ D) (hD : D ≠ 0) (hc : c ≠ 0) : intC c D ≠ 0 := by
 obtain ⟨k, rfl⟩ := h
 unfold intC
 rw [Nat.mul_div_cancel_left _ c.den_pos]
 have h1 : c.num ≠ 0 := fun e => hc (Rat.num_eq_zero.1 e)
 refine Nat.mul_ne_zero (by omega) fun e => hD (by rw [e, Nat.mul_zero])
theorem intC_bl (c : Rat) (D : Nat) : bl (intC c D) ≤ qs c + bl D := by
 have h1 := bl_mul c.num.natAbs (D / c.den)
 have h2 := bl_div_le D c.den
 have h3 := qs_num c
 unfold intC; omega
end Go.Abs
namespace Go.Proofs.YtdjfjpeoddmamaaGreatDoor
open Go.Abs
set_option maxRecDepth 20000
def coS  : Nat × Nat → AState
 | (a, b) => ⟨[(2, .lptr 1 0 0), (3, .lptr 2 0 0), (4, .lptr 3 0 0)], [(1, some ⟨35, 3, [qC (nQ a)]⟩), (2, some ⟨35, 3, [qC (nQ b)]⟩), (3, some ⟨35, 3, [zC]⟩)], 4, 18⟩
theorem coS_mk  (a : Nat) (b : Nat) : coS  (a, b) = ⟨[(2, .lptr 1 0 0), (3, .lptr 2 0 0), (4, .lptr 3 0 0)], [(1, some ⟨35, 3, [qC (nQ a)]⟩), (2, some ⟨35, 3, [qC (nQ b)]⟩), (3, some ⟨35, 3, [zC]⟩)], 4, 18⟩ := rfl
theorem fs_common2 (a b : Nat) (ha : bl a ≤ 68719476736) (hb : bl b ≤ 68719476736) : FSpec Tryz.prog 297 [.agg (qC (nQ a)), .agg (qC (nQ b))] (.agg (qC (nQ (Nat.gcd a b)))) := by
 refine FSpec.enter Tryz.func297 rfl (by kernel_rfl) rfl rfl rfl ?_ rfl ?_
 ·exact closed_cons (closed_qA _) (closed_cons (closed_qA _) closed_nil)
 refine r_z 3 ?_
 refine AWp.cut (fun _ : Unit => coS (Nat.gcd a b, 0)) (fun _ => True) ?_ ?_
 ·refine AWp.block ?_
  refine AWp.loopS coS (fun x => x.2) (fun x => Nat.gcd x.1 x.2 = Nat.gcd a b ∧ bl x.1 ≤ 68719476736 ∧ bl x.2 ≤ 68719476736) (a, b) ⟨rfl, ha, hb⟩ ?_ ?_
  ·simp only [coS_mk]
   exact s_e []
  rintro ⟨u, v⟩ ⟨hg, hu, hv⟩
  simp only at hg hu hv
  rw [coS_mk]
  refine AWp.seq ?_
  refine r_c 3 (fs_Sign (nQ v)) ?_
  refine a_z ?_
  refine AWp.cond rfl (fun h => ?_) (fun h => ?_)
  ·have hv0 : v ≠ 0 := by
    intro e
    subst e
    exact absurd h (by decide)
   refine AWp.skip ?_
   have h1 := qs_nQ (n := u) hu (by decide)
   have h2 := qs_nQ (n := v) hv (by decide)
   have hq := qs_div (nQ u) (nQ v)
   have hov := fs_over2 (nQ u) (nQ v) (fun e => hv0 (nQ_zero.1 e)) (by omega)
   have hfl := fs_floor (nQ u / nQ v) (by omega)
   rw [nQ_div u v hv0, mkRat_floor u v hv0] at hfl
   rw [nQ_div u v hv0] at hov
   have h3 := qs_nQ (n := u / v) (k := 68719476736) (Nat.le_trans (bl_div_le u v) hu) (by decide)
   have hmu := fs_mul (nQ v) (nQ (u / v)) (by omega)
   rw [nQ_mul] at hmu
   have hle : v * (u / v) ≤ u := Nat.mul_div_le u v
   have h4 := qs_nQ (n := v * (u / v)) (k := 68719476736) (Nat.le_trans (bl_mono hle) hu) (by decide)
   have hsu := fs_sub (nQ u) (nQ (v * (u / v))) (by omega)
   rw [nQ_sub hle, show u - v * (u / v) = u % v by have := Nat.div_add_mod u v; omega] at hsu
   refine AWp.block ?_
   refine AWp.regD hmix (m := 11) rfl ?_
   refine c_s (hov) ?_
   refine c_s (hfl) ?_
   refine c_s (hmu) ?_
   refine c_s (hsu) ?_
   refine a_2 ?_
   refine AR.nil ⟨by kernel_rfl, ?_⟩
   refine ⟨(v, u % v), Nat.mod_lt _ (by omega), ⟨?_, hv, Nat.le_trans (bl_mono (Nat.mod_le u v)) hu⟩, ?_⟩
   ·rw [← hg]; show Nat.gcd v (u % v) = Nat.gcd u v
    rw [Nat.gcd_comm v, Nat.gcd_comm u v, ← Nat.gcd_rec]
   ·simp only [coS_mk]
    exact s_e []
  ·have hv0 : v = 0 := by
    have h1 : sgZ (nQ v).num = 0 := by simpa using h
    exact nQ_zero.1 (sgZ_num_eq.1 h1)
   subst hv0
   rw [Nat.gcd_zero_right] at hg
   refine AWp.exit ⟨(), trivial, ?_⟩
   rw [← hg]
   simp only [coS_mk]
   exact s_e []
 rintro _ _
 simp only [coS_mk]
 refine r_z 2 ?_
 refine AWp.ret ?_
 refine Fin.cellE rfl rfl rfl tg_35.h ts_35.h (nle rfl) ?_ ?_
 ·rfl
 ·exact closed_qA _
def prS (t : List Rat) : Nat × Nat → AState
 | (i, d) => ⟨[(0, .arr (pE t)), (3, .lptr 1 0 0), (4, .lptr 2 0 0), (13, .arr (pE t)), (14, i64 t.length), (15, i64 i)], [(1, some ⟨35, 3, [qC (nQ d)]⟩), (2, some ⟨35, 3, [qC 0]⟩)], 3, 47⟩
theorem prS_mk (t : List Rat) (i : Nat) (d : Nat) : prS t (i, d) = ⟨[(0, .arr (pE t)), (3, .lptr 1 0 0), (4, .lptr 2 0 0), (13, .arr (pE t)), (14, i64 t.length), (15, i64 i)], [(1, some ⟨35, 3, [qC (nQ d)]⟩), (2, some ⟨35, 3, [qC 0]⟩)], 3, 47⟩ := rfl
def prT (t : List Rat) (D : Nat) : Nat × Nat → AState
 | (i, n) => ⟨[(0, .arr (pE t)), (3, .lptr 1 0 0), (4, .lptr 2 0 0), (29, .arr (pE t)), (30, i64 t.length), (31, i64 i)], [(1, some ⟨35, 3, [qC (nQ D)]⟩), (2, some ⟨35, 3, [qC (nQ n)]⟩)], 3, 47⟩
theorem prT_mk (t : List Rat) (D : Nat) (i : Nat) (n : Nat) : prT t D (i, n) = ⟨[(0, .arr (pE t)), (3, .lptr 1 0 0), (4, .lptr 2 0 0), (29, .arr (pE t)), (30, i64 t.length), (31, i64 i)], [(1, some ⟨35, 3, [qC (nQ D)]⟩), (2, some ⟨35, 3, [qC (nQ n)]⟩)], 3, 47⟩ := rfl
theorem drop_co {l : List Rat} {i : Nat} (h : i < l.length) : l.drop i = coP l i :: l.drop (i + 1) := by
 rw [List.drop_eq_getElem_cons h]
 congr 1
 have := coP_get h
 rw [List.getElem?_eq_getElem h] at this
 exact Option.some.inj this
theorem bl_gcd (a b : Nat) : bl (Nat.gcd a b) ≤ max (bl a) (bl b) := by
 rcases Nat.eq_zero_or_pos a with h | h
 ·subst h; rw [Nat.gcd_zero_left]; exact Nat.le_max_right _ _
 ·exact Nat.le_trans (bl_mono (Nat.gcd_le_left b h)) (Nat.le_max_left _ _)
theorem fs_primitive (p : List Rat) (h : okPrim p) (h0 : trimQ p ≠ []) : FSpec Tryz.prog 271 [.arr (pE p)] (.arr (pE (primP p))) := by
 obtain ⟨t, ht⟩ : ∃ t, t = trimQ p := ⟨_, rfl⟩
 obtain ⟨s, hs⟩ : ∃ s, s = mxL p := ⟨_, rfl⟩
 have hs1 : 1 ≤ s := by rw [hs]; exact mxL_pos p
 have hbt : bdL t s := fun q hq => by rw [hs]; exact bdL_mx p q (trimQ_mem (by rw [← ht]; exact hq))
 have htl : t.length ≤ p.length := by rw [ht]; exact trimQ_len p
 obtain ⟨hsz, hpl⟩ := h
 rw [← hs] at hsz
 have hts : t.length * s ≤ p.length * s := Nat.mul_le_mul_right _ htl
 rw [Nat.add_mul] at hsz
 obtain ⟨D, hD⟩ : ∃ D, D = denL t 1 := ⟨_, rfl⟩
 have hD0 : D ≠ 0 := by rw [hD]; exact denL_ne t (by decide)
 have hDb : bl D ≤ 1 + t.length * s := by rw [hD]; exact denL_bl t 1 hbt
 have hDd : ∀ c ∈ t, c.den ∣ D := by rw [hD]; exact (denL_dvd t 1).2
 obtain ⟨N, hN⟩ : ∃ N, N = numL D t 0 := ⟨_, rfl⟩
 have hlast : leadP p ∈ t := by
  rw [ht]
  obtain ⟨n, hn⟩ : ∃ n, (trimQ p).length = n + 1 := ⟨(trimQ p).length - 1, by have := List.length_pos_iff.2 h0; omega⟩
  exact List.mem_of_getElem? (leadP_get hn)
 have hNd := (numL_dvd D t 0).2 (leadP p) hlast
 rw [← hN] at hNd
 have hi0 := intC_ne (hDd _ hlast) hD0 (leadP_ne h0)
 have hN0 : N ≠ 0 := fun e => hi0 (by rw [e] at hNd; exact Nat.zero_dvd.1 hNd)
 have hNb : bl N ≤ s + bl D := Nat.le_trans (bl_mono (Nat.le_of_dvd (by omega) hNd)) (Nat.le_trans (intC_bl _ _) (by have := hbt _ hlast; omega))
 have hpr : primP p = scaleP t (nQ D / nQ N) := by unfold primP; rw [← ht, ← hD, ← hN]
 rw [hpr]
 have hgt : ∀ i, i < t.length → (pE t)[((i : Nat) : Int).toNat]? = some (qC (coP t i)) := fun i hi => pE_get (coP_get hi)
 have hmem : ∀ i, i < t.length → coP t i ∈ t := fun i hi => List.mem_of_getElem? (coP_get hi)
 have htr := fs_Trim p (by omega)
 rw [← ht] at htr
 refine FSpec.enter Tryz.func271 rfl (by kernel_rfl) rfl rfl rfl ?_ rfl ?_
 ·exact closed_cons (closed_pA p) closed_nil
 refine r_z 1 ?_
 refine r_c 3 (htr) ?_
 refine a_z ?_
 refine r_c 6 (fs_Int 1 (by decide)) ?_
 refine a_z ?_
 refine AWp.seq ?_
 refine r_z 3 ?_
 refine AWp.cutT (fun _ : Unit => ⟨[(0, .arr (pE t)), (3, .lptr 1 0 0), (4, .lptr 2 0 0)], [(1, some ⟨35, 3, [qC (nQ D)]⟩), (2, some ⟨35, 3, [qC 0]⟩)], 3, 47⟩) (fun _ => True) ?_ ?_
 ·refine AWp.block ?_
  refine AWp.loopS (prS t) (fun x => t.length - x.1) (fun x => x.1 ≤ t.length ∧ x.2 ≠ 0 ∧ denL (t.drop x.1) x.2 = D) (0, 1) ⟨Nat.zero_le _, by decide, by rw [hD]; rfl⟩ ?_ ?_
  ·simp only [prS_mk]
   rw [qC0]
   exact s_e [(1, 3), (2, 4)]
  rintro ⟨i, d⟩ ⟨hi, hd0, hd⟩
  simp only at hi hd0 hd
  rw [prS_mk]
  refine r_z 1 ?_
  refine AWp.seq ?_
  refine AWp.cond rfl (fun h => ?_) (fun h => ?_)
  ·refine AWp.skip ?_
   have hlt : i < t.length := by simpa using h
   have hc := hbt _ (hmem i hlt)
   have hcd := qs_den (coP t i)
   have hcn := (coP t i).den_nz
   rw [drop_co hlt] at hd
   have hdD : d ∣ D := by rw [← hd]; exact (denL_dvd _ d).1
   have hdb := bl_mono (Nat.le_of_dvd (by omega) hdD)
   have hq1 := qs_nQ (n := d) (k := 34359738368) (by omega) (by decide)
   have hq2 := qs_nQ (n := (coP t i).den) (k := 34359738368) (by omega) (by decide)
   have hmu := fs_mul (nQ d) (nQ (coP t i).den) (by omega)
   have hco := fs_common2 d (coP t i).den (by omega) (by omega)
   have hg0 : Nat.gcd d (coP t i).den ≠ 0 := by have := Nat.gcd_pos_of_pos_left (coP t i).den (Nat.pos_of_ne_zero hd0); omega
   have hgb := bl_gcd d (coP t i).den
   have hq3 := qs_nQ (n := Nat.gcd d (coP t i).den) (k := 34359738368) (by omega) (by decide)
   have hq4 := qs_mul (nQ d) (nQ (coP t i).den)
   rw [nQ_mul] at hq4 hmu
   have hov := fs_over2 (nQ (d * (coP t i).den)) (nQ (Nat.gcd d (coP t i).den)) (fun e => hg0 (nQ_zero.1 e)) (by omega)
   rw [nQ_div _ _ hg0, mkRat_nat _ _ hg0 (Nat.dvd_mul_right_of_dvd (Nat.gcd_dvd_left _ _) _)] at hov
   refine AWp.seq ?_
   refine AWp.block ?_
   refine s_r 4 ?_
   first | refine AR.op0 (.index_l rfl rfl (by omega) (by omega) te_55.h) rfl rfl ?_ | refine AR.op0 (.index_a rfl rfl (by omega) (hgt i hlt) rfl te_55.h) rfl rfl ?_
   first | refine AR.op0 (.load_l rfl rfl (hgt i hlt) tg_35.h ts_35.h (nle rfl)) rfl rfl ?_ | refine AR.op0 (.load_a rfl (hgt i hlt) tg_35.h ts_35.h (nle rfl)) rfl rfl ?_
   refine a_z ?_
   refine AWp.regD hmix (m := 10) rfl ?_
   refine c_s (fs_den (coP t i) (by unfold sm; omega)) ?_
   refine c_s (hmu) ?_
   refine c_s (fs_den (coP t i) (by unfold sm; omega)) ?_
   refine c_s (hco) ?_
   refine c_s (hov) ?_
   refine a_1 ?_
   refine AR.nil ⟨by kernel_rfl, ?_⟩
   refine AWp.reg (m := 2) rfl ?_
   refine a_z ?_
   refine ⟨(i + 1, Nat.lcm d (coP t i).den), by simp only; omega, ⟨hlt, lcm_pos hd0 hcn, hd⟩, ?_⟩
   simp only [prS_mk]
   exact s_e []
  ·have hge : i = t.length := by
    have : ¬ i < t.length := by simpa using h
    omega
   subst hge
   rw [List.drop_length] at hd
   refine AWp.exit ⟨(), trivial, ?_⟩
   rw [← hd]
   exact s_e []
 rintro _ _
 refine AWp.seq ?_
 refine r_z 3 ?_
 refine AWp.cutT (fun _ : Unit => ⟨[(0, .arr (pE t)), (3, .lptr 1 0 0), (4, .lptr 2 0 0)], [(1, some ⟨35, 3, [qC (nQ D)]⟩), (2, some ⟨35, 3, [qC (nQ N)]⟩)], 3, 47⟩) (fun _ => True) ?_ ?_
 ·refine AWp.block ?_
  refine AWp.loopS (prT t D) (fun x => t.length - x.1) (fun x => x.1 ≤ t.length ∧ bl x.2 ≤ s + bl D ∧ numL D (t.drop x.1) x.2 = N) (0, 0) ⟨Nat.zero_le _, by rw [bl_zero]; exact Nat.zero_le _, by rw [hN]; rfl⟩ ?_ ?_
  ·simp only [prT_mk]
   exact s_e []
  rintro ⟨i, n⟩ ⟨hi, hnb, hn⟩
  simp only at hi hnb hn
  rw [prT_mk]
  refine r_z 1 ?_
  refine AWp.seq ?_
  refine AWp.cond rfl (fun h => ?_) (fun h => ?_)
  ·refine AWp.skip ?_
   have hlt : i < t.length := by simpa using h
   have hc := hbt _ (hmem i hlt)
   rw [drop_co hlt] at hn
   have hib := intC_bl (coP t i) D
   have hgb := bl_gcd n (intC (coP t i) D)
   have hq1 := qs_nQ (n := D) (k := 34359738368) (by omega) (by decide)
   have hmu := fs_mul (coP t i) (nQ D) (by omega)
   have hab := fs_abs (coP t i * nQ D)
   rw [mul_intC _ _ (hDd _ (hmem i hlt))] at hab
   have hco := fs_common2 n (intC (coP t i) D) (by omega) (by omega)
   refine AWp.seq ?_
   refine AWp.block ?_
   refine s_r 4 ?_
   first | refine AR.op0 (.index_l rfl rfl (by omega) (by omega) te_55.h) rfl rfl ?_ | refine AR.op0 (.index_a rfl rfl (by omega) (hgt i hlt) rfl te_55.h) rfl rfl ?_
   first | refine AR.op0 (.load_l rfl rfl (hgt i hlt) tg_35.h ts_35.h (nle rfl)) rfl rfl ?_ | refine AR.op0 (.load_a rfl (hgt i hlt) tg_35.h ts_35.h (nle rfl)) rfl rfl ?_
   refine a_z ?_
   refine AWp.regD hmix (m := 7) rfl ?_
   refine c_s (hmu) ?_
   refine c_s (hab) ?_
   refine c_s (hco) ?_
   refine a_1 ?_
   refine AR.nil ⟨by kernel_rfl, ?_⟩
   refine AWp.reg (m := 2) rfl ?_
   refine a_z ?_
   refine ⟨(i + 1, Nat.gcd n (intC (coP t i) D)), by simp only; omega, ⟨hlt, by simp only; omega, hn⟩, ?_⟩
   simp only [prT_mk]
   exact s_e []
  ·have hge : i = t.length := by
    have : ¬ i < t.length := by simpa using h
    omega
   subst hge
   rw [List.drop_length] at hn
   refine AWp.exit ⟨(), trivial, ?_⟩
   rw [← hn]
   exact s_e []
 rintro _ _
 have hq1 := qs_nQ (n := D) (k := 34359738368) (by omega) (by decide)
 have hq2 := qs_nQ (n := N) (k := 34359738368) (by omega) (by decide)
 have hq3 := qs_div (nQ D) (nQ N)
 refine r_c 6 (fs_over2 (nQ D) (nQ N) (fun e => hN0 (nQ_zero.1 e)) (by omega)) ?_
 refine c_s (fs_Scale t (nQ D / nQ N) (bdL_sm hbt (by omega)) (by unfold sm; omega) (by omega)) ?_
 refine a_z ?_
 refine AWp.ret ?_
 refine Fin.tmpE rfl ?_ ?_
 ·rfl
 ·exact closed_pA _
end Go.Proofs.YtdjfjpeoddmamaaGreatDoor
namespace Go.Abs
theorem deriveP_len (p : List Rat) : (deriveP p).length ≤ p.length - 1 := by
 have := trimQ_len (tabP (p.length - 1) fun i => coP p (i + 1) * ((i + 1 : Nat) : Int))
 simpa [deriveP] using this
def sqfM (f : Nat) (p : List Rat) : Option (List Rat) :=
 if smL p ∧ p.length ≤ 274877906944 then (gcdM f p (deriveP p)).bind fun g => if trimQ g ≠ [] ∧ okDiv p g then some (monicP (divP p g).1) else none
 else none
def boL (lead : Rat) : List Rat → Rat → Rat
 | [], m => m
 | c :: l, m => boL lead l (maxL [m, absQ (c / lead)])
def boundP (p : List Rat) : Rat := boL (leadP p) ((trimQ p).take ((trimQ p).length - 1)) 0 + 1
def okBound (p : List Rat) : Prop := mxL p ≤ 34359738368 ∧ p.length ≤ 274877906944
instance (p : List Rat) : Decidable (okBound p) := inferInstanceAs (Decidable (_ ∧ _))
def largeP (p : List Rat) : Int := if degP p < 0 then 10 else if 40 < degP p then 5 else 0
theorem qs_abs (q : Rat) : qs (absQ q) = qs q := by
 unfold qs
 rw [absQ_num, absQ_den, Int.natAbs_natCast]
theorem maxL_le {l : List Rat} {n : Nat} (h : bdL l n) (hn : 1 ≤ n) : qs (maxL l) ≤ n := by
 unfold maxL
 have key : ∀ (bf : Int → Bool) (l : List Rat) (o : Rat), qs o ≤ n → bdL l n → qs (l.foldl (fun o y => if bf (cmpQ y o) then y else o) o) ≤ n := by
  intro bf l
  induction l with
  | nil => intro o ho _; exact ho
  | cons y l ih =>
   intro o ho hl
   refine ih _ ?_ fun q hq => hl q (List.mem_cons_of_mem _ hq)
   show qs (if bf (cmpQ y o) = true then y else o) ≤ n
   split
   ·exact hl y (List.mem_cons_self ..)
   ·exact ho
 cases l with
 | nil => exact Nat.le_trans (by decide : qs 0 ≤ 1) hn
 | cons x l => exact key (fun c => decide (0 < c)) l x (h x (List.mem_cons_self ..)) fun q hq => h q (List.mem_cons_of_mem _ hq)
theorem leadP_trim (p : List Rat) : leadP (trimQ p) = leadP p := by unfold leadP; rw [trimQ_idem]
def chL : List Int → Int → Int → Int
 | [], n, _ => n
 | s :: l, n, last => if s ≠ 0 then chL l (if s = -last then n + 1 else n) s else chL l n last
def chainM (f : Nat) : Nat → List Rat → List Rat → List (List Rat) → Option (List (List Rat))
 | 0, _, _, _ => none
 | k + 1, last, next, acc =>
  if trimQ next = [] then some acc
  else if okPrim next ∧ okDiv last (primP next) ∧ trimQ (primP next) ≠ [] then chainM f k (primP next) (scaleP (divP last (primP next)).2 (-1)) (acc ++ [primP next])
  else none
def sturmM (f : Nat) (p : List Rat) : Option (List (List Rat)) :=
 if smL p ∧ okPrim p ∧ trimQ p ≠ [] then chainM f f (primP p) (deriveP p) [primP p] else none
def cE (l : List (List Rat)) : List (List AV) := l.map fun p => [.arr (pE p)]
@[simp] theorem cE_length (l : List (List Rat)) : (cE l).length = l.length := by simp [cE]
theorem cE_get {l : List (List Rat)} {i : Nat} {p : List Rat} (h : l[i]? = some p) : (cE l)[i]? = some [.arr (pE p)] := by simp [cE, h]
theorem cE_one (l : List (List Rat)) : (cE l).all (·.all AV.one) = true := by
 simp only [cE, List.all_map, List.all_eq_true]; intro q _; rfl
theorem closed_cE (l : List (List Rat)) : ∀ e ∈ cE l, ∀ c ∈ e, Closed c := by
 intro e he c hc
 obtain ⟨q, _, rfl⟩ := List.mem_map.1 he
 rw [List.mem_singleton.1 hc]
 exact closed_pA q
theorem closed_cA (l : List (List Rat)) : Closed (.arr (cE l)) := closed_arr (closed_cE l)
theorem cE_snoc (l : List (List Rat)) (p : List Rat) : cE (l ++ [p]) = cE l ++ [[.arr (pE p)]] := by simp [cE]
theorem AEval.lenC {P : Program} {id : Nat} {ev : Operand → Option AV} {hp : Nat → Option ABlk} {c : Call} {x : Operand} {T : Nat} {d : Nat × Nat} {l : List (List Rat)} (hc : c.callee = .builtin .len) (ha : c.args = #[x]) (ht : c.argTypes = #[T]) (hx : ev x = some (.arr (cE l))) (he : elOf P T = some d) :
    AEval P id ev hp (.call c) ⟨.v (.int .i64 (l.length : Nat)), []⟩ [] := .len hc ha ht hx (by simp [lenA]) he
end Go.Abs
namespace Go.Proofs.YtdjfjpeoddmamaaGreatDoor
open Go.Abs
set_option maxRecDepth 20000
set_option maxHeartbeats 2000000
theorem fs_squarefree (f : Nat) (p r : List Rat) (h : sqfM f p = some r) : FSpec Tryz.prog 221 [.arr (pE p)] (.arr (pE r)) := by
 unfold sqfM at h
 split at h
 case isFalse => cases h
 case isTrue hs =>
 obtain ⟨g, hg, hr⟩ := Option.bind_eq_some_iff.1 h
 split at hr
 case isFalse => cases hr
 case isTrue hg2 =>
 cases hr
 have hdl := deriveP_len p
 have hdv := divP_len (p := p) (q := g)
 refine FSpec.enter Tryz.func221 rfl (by kernel_rfl) rfl rfl rfl ?_ rfl ?_
 ·exact closed_cons (closed_pA p) closed_nil
 refine r_z 1 ?_
 refine r_c 11 (fs_Derive p hs.1 (by omega)) ?_
 refine c_s (fs_Gcd f p (deriveP p) g hg hs.2 (by omega)) ?_
 refine c_s (fs_divide p g (mxL p) (mxL g) (bdL_mx p) (bdL_mx g) (mxL_pos p) (mxL_pos g) hg2.2.1 hg2.1 hs.2 hg2.2.2.2) ?_
 refine a_z ?_
 refine r_c 3 (fs_monic (divP p g).1 (divP_sm hg2.2 hg2.1).1 (by omega)) ?_
 refine a_z ?_
 refine AWp.ret ?_
 refine Fin.tmpE rfl ?_ ?_
 ·rfl
 ·exact closed_pA _
theorem fs_large (p : List Rat) (hp : p.length ≤ 1099511627776) : FSpec Tryz.prog 147 [.arr (pE p)] (i64 (largeP p)) := by
 refine FSpec.enter Tryz.func147 rfl (by kernel_rfl) rfl rfl rfl ?_ rfl ?_
 ·exact closed_cons (closed_pA p) closed_nil
 refine r_z 1 ?_
 refine AWp.seq ?_
 refine r_c 3 (fs_Degree p hp) ?_
 refine a_z ?_
 refine AWp.cutT (fun _ : Unit => ⟨[], [], 1, 12⟩) (fun _ => largeP p = 0) ?_ ?_
 ·refine AWp.block ?_
  refine r_z 3 ?_
  refine AWp.cond rfl (fun h => ?_) (fun h => ?_)
  ·have h1 : degP p < 0 := by simpa using h
   refine r_z 1 ?_
   refine AWp.ret ?_
   refine Fin.tmpE rfl ?_ ?_
   ·unfold largeP; rw [if_pos h1]; rfl
   ·exact closed_v _
  ·have h1 : ¬ degP p < 0 := by simpa using h
   refine r_z 3 ?_
   refine AWp.cond rfl (fun h2 => ?_) (fun h2 => ?_)
   ·have h3 : 40 < degP p := by simpa using h2
    refine r_z 1 ?_
    refine AWp.ret ?_
    refine Fin.tmpE rfl ?_ ?_
    ·unfold largeP; rw [if_neg h1, if_pos h3]; rfl
    ·exact closed_v _
   ·have h3 : ¬ 40 < degP p := by simpa using h2
    refine AWp.skip ⟨(), by unfold largeP; rw [if_neg h1, if_neg h3], ?_⟩
    exact s_e []
 rintro _ hl
 refine r_z 1 ?_
 refine AWp.ret ?_
 refine Fin.tmpE rfl ?_ ?_
 ·rw [hl]; rfl
 ·exact closed_v _
def boS (t : List Rat) (l : List Rat) : Nat × Rat → AState
 | (i, m) => ⟨[(0, .arr (pE t)), (2, .lptr 1 0 0), (3, .lptr 2 0 0), (13, .arr (pE l)), (14, i64 l.length), (15, i64 i)], [(1, some ⟨35, 3, [zC]⟩), (2, some ⟨35, 3, [qC m]⟩)], 3, 31⟩
theorem boS_mk (t : List Rat) (l : List Rat) (i : Nat) (m : Rat) : boS t l (i, m) = ⟨[(0, .arr (pE t)), (2, .lptr 1 0 0), (3, .lptr 2 0 0), (13, .arr (pE l)), (14, i64 l.length), (15, i64 i)], [(1, some ⟨35, 3, [zC]⟩), (2, some ⟨35, 3, [qC m]⟩)], 3, 31⟩ := rfl
theorem fs_bound (p : List Rat) (h : okBound p) (h0 : trimQ p ≠ []) : FSpec Tryz.prog 151 [.arr (pE p)] (.agg (qC (boundP p))) := by
 obtain ⟨hsz, hpl⟩ := h
 obtain ⟨t, ht⟩ : ∃ t, t = trimQ p := ⟨_, rfl⟩
 have htr := fs_Trim p (by omega)
 have htl := trimQ_len p
 rw [← ht] at htr htl
 obtain ⟨l, hl⟩ : ∃ l, l = t.take (t.length - 1) := ⟨_, rfl⟩
 have hll : l.length = t.length - 1 := by rw [hl]; simp
 have hbl : bdL l (mxL p) := fun q hq => bdL_mx p q (trimQ_mem (by rw [← ht]; exact List.mem_of_mem_take (by rw [← hl]; exact hq)))
 have hpos : 0 < t.length := by rw [ht]; exact List.length_pos_iff.2 h0
 have hlead : leadP t = leadP p := by rw [ht, leadP_trim]
 have hlb : qs (leadP p) ≤ mxL p := by
  obtain ⟨n, hn⟩ : ∃ n, (trimQ p).length = n + 1 := ⟨(trimQ p).length - 1, by rw [← ht]; omega⟩
  exact bdL_mx p _ (trimQ_mem (List.mem_of_getElem? (leadP_get hn)))
 have hb : boundP p = boL (leadP p) l 0 + 1 := by unfold boundP; rw [← ht, ← hl]
 rw [hb]
 obtain ⟨B, hB⟩ : ∃ B, B = boL (leadP p) l 0 := ⟨_, rfl⟩
 rw [← hB]
 refine FSpec.enter Tryz.func151 rfl (by kernel_rfl) rfl rfl rfl ?_ rfl ?_
 ·exact closed_cons (closed_pA p) closed_nil
 refine r_z 1 ?_
 refine r_c 3 (htr) ?_
 refine a_z ?_
 refine r_z 3 ?_
 refine AWp.seq ?_
 refine s_r 7 ?_
 refine a_4 ?_
 refine o_0 (.sa_h rfl rfl (h := t.length - 1) (by omega) (by simp) te_55.h (pE_len3 _)) ?_
 refine a_z ?_
 refine AWp.cutT (fun _ : Unit => ⟨[(2, .lptr 1 0 0), (3, .lptr 2 0 0)], [(1, some ⟨35, 3, [zC]⟩), (2, some ⟨35, 3, [qC B]⟩)], 3, 31⟩) (fun _ => qs B ≤ 2 * mxL p + 1) ?_ ?_
 ·refine AWp.block ?_
  refine AWp.loopS (boS t l) (fun x => l.length - x.1) (fun x => x.1 ≤ l.length ∧ qs x.2 ≤ 2 * mxL p + 1 ∧ boL (leadP p) (l.drop x.1) x.2 = B) (0, 0) ⟨Nat.zero_le _, Nat.le_trans (by decide : qs 0 ≤ 1) (Nat.le_add_left 1 _), by rw [hB]; rfl⟩ ?_ ?_
  ·simp only [boS_mk]
   rw [qC0]
   have e13 : AV.arr (List.take (t.length - 1) (pE t)) = AV.arr (pE l) := by rw [hl, pE_take]
   refine SEnt.to [(1, 2), (2, 3)] rfl rfl rfl ?_ (fun hs => ?_) (fun hs => ?_)
   ·repeat' (first | exact ShrL.nil | refine ShrL.cons rfl rfl rfl rfl (by first | rfl | (simp; done) | (simp [hll] <;> omega)) ?_)
   ·repeat' (first | exact CvF.nil | refine CvF.cons rfl ?_ ?_)
    all_goals (first | (exact Cv.loE hs e13 (e13 ▸ closed_pA l)) | exact au_c | (refine Cv.loE hs ?_ (closed_v _); first | rfl | (simp [i64, u64, u32, bln, hll]; done) | (simp [i64, u64, u32, bln, hll] <;> omega)))
   ·repeat' (first | exact CvH.nil | refine CvH.cons rfl rfl rfl rfl ?_ ?_)
    all_goals (first | exact CvLL.bld rfl rfl rfl rfl rfl rfl | exact CvLL.bld0 hs | exact CvLL.clo hs (closed_bE _) | exact CvLL.clo hs (closed_dE _) | (refine CvLL.cloE hs ?_ (closed_dE _); first | (simp [dE_set, dE_append, dE_replicate, hll]; done) | (simp [dE, u32, ofV, hll]; done)) | exact CvLL.clo hs (closed_pE _) | exact CvLL.clo hs (closed_iE _) | (refine CvLL.cloE hs ?_ (closed_iE _); first | (simp [iE_set, iE_append, iE_replicate, hll]; done) | (simp [iE, i64, ofV, hll]; done)) | (refine CvLL.cloE hs ?_ (closed_pE _); first | (simp [pE_set, pE_append, hll]; done) | (simp [pE, ofV, hll]; done)) | (refine CvLL.box ?_; repeat' (first | exact CvL.nil | exact CvL.clo hs (closed_qC _) | refine CvL.cons ?_ ?_)))
    all_goals (first | (exact Cv.loE hs e13 (e13 ▸ closed_pA l)) | exact Cv.clo hs (closed_v _) | exact Cv.ptr rfl rfl rfl | exact Cv.sl rfl rfl rfl | exact Cv.slN rfl rfl rfl | exact Cv.clo hs closed_emp | (refine Cv.clo hs ?_; first | assumption | exact closed_arrD _ | exact closed_mag _ | exact closed_v _ | exact closed_emp | exact closed_pA _ | exact closed_iA _ | exact closed_cA _ | exact closed_zZA _ | exact closed_qA _ | exact closed_mA _ | exact closed_spA _ _ | exact closed_clos closed_nil closed_nil | exact closed_bP _ | exact closed_bQ _ | exact closed_bS _ | exact closed_kA _ | exact closed_plA _ _ | exact closed_bPl _ _ | exact closed_bF | exact closed_rA _ | exact closed_rEA _ | (refine closed_clos closed_nil ?_; first | assumption | exact closed_cons (closed_bP _) closed_nil | exact closed_cons (closed_bQ _) closed_nil | exact closed_cons (closed_bPl _ _) closed_nil)) | (refine Cv.boxp hs rfl (dead_of rfl) rfl ?_; first | exact closed_qC _ | exact closed_spC _ _ | exact closed_zZ _ | exact closed_rC _ | (refine closed_cons ?_ closed_nil; first | assumption | exact closed_arrD _ | exact closed_mag _ | exact closed_v _ | exact closed_emp | exact closed_pA _ | exact closed_iA _ | exact closed_cA _ | exact closed_zZA _ | exact closed_qA _ | exact closed_mA _ | exact closed_spA _ _ | exact closed_clos closed_nil closed_nil | exact closed_bP _ | exact closed_bQ _ | exact closed_bS _ | exact closed_kA _ | exact closed_plA _ _ | exact closed_bPl _ _ | exact closed_bF | exact closed_rA _ | exact closed_rEA _ | (refine closed_clos closed_nil ?_; first | assumption | exact closed_cons (closed_bP _) closed_nil | exact closed_cons (closed_bQ _) closed_nil | exact closed_cons (closed_bPl _ _) closed_nil))) | (refine Cv.loE hs ?_ (closed_v _); first | rfl | (simp [i64, u64, u32, bln, hll]; done) | (simp [i64, u64, u32, bln, hll] <;> omega)) | (refine Cv.slE rfl rfl rfl ?_ ?_ ?_ <;> first | rfl | omega | (congr 1; omega) | (simp; done) | (simp <;> omega)) | exact Cv.emp _)
  rintro ⟨i, m⟩ ⟨hi, hm, hbo⟩
  simp only at hi hm hbo
  rw [boS_mk]
  refine r_z 1 ?_
  refine AWp.seq ?_
  refine AWp.cond rfl (fun h => ?_) (fun h => ?_)
  ·refine AWp.skip ?_
   have hlt : i < l.length := by simpa using h
   have hgt : (pE l)[((i : Nat) : Int).toNat]? = some (qC (coP l i)) := pE_get (coP_get hlt)
   have hc : qs (coP l i) ≤ mxL p := hbl _ (List.mem_of_getElem? (coP_get hlt))
   rw [drop_co hlt] at hbo
   have hq := qs_div (coP l i) (leadP p)
   have hle := fs_Lead t (by omega)
   rw [hlead] at hle
   have hqa := qs_abs (coP l i / leadP p)
   have hbm : bdL [m, absQ (coP l i / leadP p)] (2 * mxL p + 1) := by
    intro x hx
    rcases List.mem_cons.1 hx with rfl | hx
    ·exact hm
    ·rw [List.mem_singleton.1 hx]; omega
   have hmx := fs_Max [m, absQ (coP l i / leadP p)] (bdL_sm hbm (by omega)) (by simp)
   refine AWp.seq ?_
   refine AWp.block ?_
   refine s_r 4 ?_
   first | refine AR.op0 (.index_l rfl rfl (by omega) (by omega) te_55.h) rfl rfl ?_ | refine AR.op0 (.index_a rfl rfl (by omega) hgt rfl te_55.h) rfl rfl ?_
   first | refine AR.op0 (.load_l rfl rfl hgt tg_35.h ts_35.h (nle rfl)) rfl rfl ?_ | refine AR.op0 (.load_a rfl hgt tg_35.h ts_35.h (nle rfl)) rfl rfl ?_
   refine a_z ?_
   refine AWp.regD hmix (m := 9) rfl ?_
   refine c_s (hle) ?_
   refine c_s (fs_over2 (coP l i) (leadP p) (leadP_ne h0) (by omega)) ?_
   refine c_s (fs_abs (coP l i / leadP p)) ?_
   refine a_1 ?_
   refine o_1 (.callS1 rfl rfl rfl (.shut rfl (by first | exact nle rfl | (simp; done) | (simp; omega)) (.nil)) rfl (hmx)) ?_
   refine a_1 ?_
   refine AR.nil ⟨by kernel_rfl, ?_⟩
   refine AWp.reg (m := 2) rfl ?_
   refine a_z ?_
   refine ⟨(i + 1, maxL [m, absQ (coP l i / leadP p)]), by simp only; omega, ⟨hlt, maxL_le hbm (Nat.le_add_left 1 _), hbo⟩, ?_⟩
   simp only [boS_mk]
   exact s_e []
  ·have hge : i = l.length := by
    have : ¬ i < l.length := by simpa using h
    omega
   subst hge
   rw [List.drop_length] at hbo
   have hbo' : m = B := hbo
   subst hbo'
   refine AWp.exit ⟨(), hm, ?_⟩
   exact s_e []
 rintro _ hq
 have h1 : qs 1 = 1 := by decide
 refine AWp.seq ?_
 refine AWp.regD hmix (m := 4) rfl ?_
 refine c_s (fs_Int 1 (by decide)) ?_
 refine c_s (fs_add B 1 (by omega)) ?_
 refine a_1 ?_
 refine AR.nil ⟨by kernel_rfl, ?_⟩
 refine AWp.ret ?_
 refine Fin.cellE rfl rfl rfl tg_35.h ts_35.h (nle rfl) ?_ ?_
 ·rfl
 ·exact closed_qA _
def stS  : List Rat × List (List Rat) → AState
 | (next, acc) => ⟨[(3, .lsl 1 0 acc.length none 1), (4, .arr (pE next))], [(1, some ⟨55, 1, cE acc⟩)], 2, 40⟩
theorem stS_mk  (next : List Rat) (acc : List (List Rat)) : stS  (next, acc) = ⟨[(3, .lsl 1 0 acc.length none 1), (4, .arr (pE next))], [(1, some ⟨55, 1, cE acc⟩)], 2, 40⟩ := rfl
theorem primP_len (p : List Rat) : (primP p).length ≤ p.length :=
 Nat.le_trans (scaleP_len _ _) (trimQ_len p)
theorem fs_sturm (f : Nat) (p : List Rat) (r : List (List Rat)) (h : sturmM f p = some r) (hf : f ≤ 1000000) : FSpec Tryz.prog 222 [.arr (pE p)] (.arr (cE r)) := by
 unfold sturmM at h
 split at h
 case isFalse => cases h
 case isTrue hp =>
 have hdl := deriveP_len p
 have hpl := hp.2.1.2
 refine FSpec.enter Tryz.func222 rfl (by kernel_rfl) rfl rfl rfl ?_ rfl ?_
 ·exact closed_cons (closed_pA p) closed_nil
 refine r_z 1 ?_
 refine r_c 4 (fs_primitive p hp.2.1 hp.2.2) ?_
 refine a_z ?_
 refine AWp.seq ?_
 refine r_c 3 (fs_Derive p hp.1 (by omega)) ?_
 refine a_z ?_
 refine AWp.cutT (fun _ : Unit => ⟨[(3, .lsl 1 0 r.length none 1)], [(1, some ⟨55, 1, cE r⟩)], 2, 40⟩) (fun _ => True) ?_ ?_
 ·refine AWp.block ?_
  refine AWp.loopS (fun x : Nat × List Rat × List Rat × List (List Rat) => stS x.2.2) (fun x => x.1) (fun x => chainM f x.1 x.2.1 x.2.2.1 x.2.2.2 = some r ∧ x.2.2.1.length ≤ 274877906944 ∧ x.2.2.2.length + x.1 ≤ 1000001 ∧ 1 ≤ x.2.2.2.length ∧ x.2.2.2[x.2.2.2.length - 1]? = some x.2.1) (f, primP p, deriveP p, [primP p]) ⟨h, by simp only; omega, by simp only [List.length_singleton]; omega, by simp, rfl⟩ ?_ ?_
  ·simp only [stS_mk]
   refine SEnt.to [(1, 3)] rfl rfl rfl au_r (fun hs => au_f) (fun hs => ?_)
   ·repeat' (first | exact CvH.nil | refine CvH.cons rfl rfl rfl rfl ?_ ?_)
    all_goals (first | (exact CvLL.clo hs (closed_cE [primP p])) | exact au_e)
  rintro ⟨k, last, next, acc⟩ ⟨h, hn, hk, ha1, hla⟩
  simp only at h hn hk ha1 hla
  simp only [stS_mk]
  cases k with
  | zero => cases h
  | succ k =>
   rw [chainM] at h
   refine AWp.seq ?_
   refine r_c 3 (fs_Degree next (by omega)) ?_
   refine a_z ?_
   refine AWp.cond rfl (fun h1 => ?_) (fun h1 => ?_)
   ·have h0 : trimQ next ≠ [] := by
     intro e
     have e2 := degP_neg.2 e
     simp at h1; omega
    rw [if_neg h0] at h
    split at h
    case isFalse => cases h
    case isTrue hs =>
    have hpn := primP_len next
    have hdv := divP_len (p := last) (q := primP next)
    have hsl := scaleP_len (divP last (primP next)).2 (-1)
    have hl2 := hs.2.1.2.1
    have hg1 : (cE (acc ++ [primP next]))[0 + (((acc.length + 1 : Nat) : Int) - 2).toNat]? = some [.arr (pE last)] := by
     rw [show 0 + (((acc.length + 1 : Nat) : Int) - 2).toNat = acc.length - 1 by omega]
     exact cE_get (by rw [List.getElem?_append_left (by omega)]; exact hla)
    have hg2 : (cE (acc ++ [primP next]))[0 + (((acc.length + 1 : Nat) : Int) - 1).toNat]? = some [.arr (pE (primP next))] := by
     rw [show 0 + (((acc.length + 1 : Nat) : Int) - 1).toNat = acc.length by omega]
     exact cE_get (by simp)
    refine AWp.skip ?_
    refine AWp.block ?_
    refine r_c 6 (fs_primitive next hs.1 h0) ?_
    refine a_z ?_
    refine AWp.ent (st' := ⟨[(3, .lsl 1 0 (acc.length + 1) none 1)], [(1, some ⟨55, 1, cE (acc ++ [primP next])⟩)], 2, 40⟩) ?_ ?_
    ·refine SEnt.to [(1, 3)] rfl rfl rfl au_r (fun hs => au_f) (fun hs => ?_)
     ·repeat' (first | exact CvH.nil | refine CvH.cons rfl rfl rfl rfl ?_ ?_)
      all_goals (first | (exact CvLL.cloE hs (cE_snoc acc (primP next)).symm (closed_cE _)) | exact au_e)
    refine AWp.seq ?_
    refine AWp.regD hmix (m := 18) rfl ?_
    refine a_5 ?_
    first | refine AR.op0 (.load_l1 rfl rfl hg1 tg_55.h rfl) rfl rfl ?_ | refine AR.op0 (.load_a1 rfl hg1 tg_55.h rfl) rfl rfl ?_
    refine a_5 ?_
    first | refine AR.op0 (.load_l1 rfl rfl hg2 tg_55.h rfl) rfl rfl ?_ | refine AR.op0 (.load_a1 rfl hg2 tg_55.h rfl) rfl rfl ?_
    refine c_s (fs_divide last (primP next) (mxL last) (mxL (primP next)) (bdL_mx _) (bdL_mx _) (mxL_pos _) (mxL_pos _) hs.2.1.1 hs.2.2 hs.2.1.2.1 hs.2.1.2.2) ?_
    refine a_5 ?_
    refine AR.nil ⟨by kernel_rfl, ?_⟩
    refine AWp.reg (m := 4) rfl ?_
    refine c_s (fs_Int (-1) (by decide)) ?_
    refine c_s (fs_Scale (divP last (primP next)).2 (-1) (divP_sm hs.2.1 hs.2.2).2 (by decide) (by omega)) ?_
    refine a_z ?_
    refine ⟨(k, primP next, scaleP (divP last (primP next)).2 (-1), acc ++ [primP next]), Nat.lt_succ_self k, ⟨h, by simp only; omega, by simp only [List.length_append, List.length_singleton]; omega, by simp, by simp⟩, ?_⟩
    have hla : (acc ++ [primP next]).length = acc.length + 1 := by simp
    simp only [stS_mk, hla]
    refine SEnt.to [] rfl rfl rfl au_r (fun hs => au_f) (fun hs => ?_)
    ·repeat' (first | exact CvH.nil | refine CvH.cons rfl rfl rfl rfl ?_ ?_)
     all_goals (first | (exact CvLL.clo hs (closed_cE _)) | exact au_e)
   ·have h0 : trimQ next = [] := by
     refine degP_neg.1 ?_
     simp at h1; omega
    rw [if_pos h0] at h
    cases h
    refine AWp.exit ⟨(), trivial, ?_⟩
    refine SEnt.to [] rfl rfl rfl au_r (fun hs => au_f) (fun hs => ?_)
    ·repeat' (first | exact CvH.nil | refine CvH.cons rfl rfl rfl rfl ?_ ?_)
     all_goals (first | (exact CvLL.clo hs (closed_cE _)) | exact au_e)
 rintro _ _
 refine r_z 2 ?_
 refine AWp.ret ?_
 exact Fin.tmpS rfl rfl rfl (by simp) (closed_cE r)
end Go.Proofs.YtdjfjpeoddmamaaGreatDoor
namespace Go.Abs
structure Cnt where
 p : List Rat
 ch : List (List Rat)
 far : Int
def kC (c : Cnt) : List AV := [.arr (pE c.p), .arr (cE c.ch), i64 c.far]
abbrev kA (c : Cnt) : AV := .aptr [kC c] 0 0
theorem closed_kC (c : Cnt) : ∀ x ∈ kC c, Closed x := closed_cons (closed_pA _) (closed_cons (closed_cA _) (closed_cons (closed_v _) closed_nil))
theorem closed_kA (c : Cnt) : Closed (kA c) := closed_box (closed_kC c)
def sgI (q : List Rat) : Int := if degP q % 2 = 1 then -sgZ (leadP q).num else sgZ (leadP q).num
def sgE (x : Rat) (q : List Rat) : Int := sgZ (evalP q x).num
theorem sgZ_abs (z : Int) : -1 ≤ sgZ z ∧ sgZ z ≤ 1 := by
 unfold sgZ; split
 ·omega
 ·split <;> omega
theorem sgI_abs (q : List Rat) : -1 ≤ sgI q ∧ sgI q ≤ 1 := by
 have := sgZ_abs (leadP q).num
 unfold sgI; split <;> omega
theorem chL_bd : ∀ (l : List Int) (n last : Int), n ≤ chL l n last ∧ chL l n last ≤ n + l.length
 | [], n, _ => ⟨Int.le_refl _, by simp [chL]⟩
 | s :: l, n, last => by
  unfold chL
  split
  ·split
   ·have := chL_bd l (n + 1) s; simp only [List.length_cons]; omega
   ·have := chL_bd l n s; simp only [List.length_cons]; omega
  ·have := chL_bd l n last; simp only [List.length_cons]; omega
def okCnt (c : Cnt) : Prop := (∀ q ∈ c.ch, trimQ q ≠ [] ∧ q.length ≤ 274877906944) ∧ c.ch.length ≤ 274877906944 ∧ c.far = chL (c.ch.map sgI) 0 0
instance (c : Cnt) : Decidable (okCnt c) := inferInstanceAs (Decidable (_ ∧ _ ∧ _))
def countsM (f : Nat) (p : List Rat) : Option Cnt :=
 (sqfM f p).bind fun s => (sturmM f s).bind fun ch => if okCnt ⟨s, ch, chL (ch.map sgI) 0 0⟩ then some ⟨s, ch, chL (ch.map sgI) 0 0⟩ else none
def uptoV (c : Cnt) (x : Rat) : Int := c.far - chL (c.ch.map (sgE x)) 0 0
def okUp (c : Cnt) (x : Rat) : Prop := okCnt c ∧ ∀ q ∈ c.ch, okEval q x
instance (c : Cnt) (x : Rat) : Decidable (okUp c x) := inferInstanceAs (Decidable (_ ∧ _))
def belowV (c : Cnt) (x : Rat) : Int := if evalP c.p x = 0 then uptoV c x - 1 else uptoV c x
def okBe (c : Cnt) (x : Rat) : Prop := okUp c x ∧ okEval c.p x
instance (c : Cnt) (x : Rat) : Decidable (okBe c x) := inferInstanceAs (Decidable (_ ∧ _))
def allV (c : Cnt) : Int := uptoV c (boundP c.p)
def okAll (c : Cnt) : Prop := okBound c.p ∧ trimQ c.p ≠ [] ∧ okUp c (boundP c.p)
instance (c : Cnt) : Decidable (okAll c) := inferInstanceAs (Decidable (_ ∧ _ ∧ _))
theorem uptoV_bd {c : Cnt} {x : Rat} (h : okCnt c) : -274877906944 ≤ uptoV c x ∧ uptoV c x ≤ 274877906944 := by
 have h1 := chL_bd (c.ch.map sgI) 0 0
 have h2 := chL_bd (c.ch.map (sgE x)) 0 0
 have h3 := h.2.1
 rw [← h.2.2] at h1
 simp only [List.length_map] at h1 h2
 unfold uptoV
 omega
end Go.Abs
namespace Go.Proofs.YtdjfjpeoddmamaaGreatDoor
open Go.Abs
set_option maxRecDepth 20000
def chS (ch : List (List Rat)) (g : Nat) (cap : List AV) : Nat × Int × Int → AState
 | (i, n, last) => ⟨[(1, .clos g [] cap), (5, i64 n), (6, i64 last), (10, .arr (cE ch)), (11, i64 ch.length), (12, i64 i)], [], 1, 30⟩
theorem chS_mk (ch : List (List Rat)) (g : Nat) (cap : List AV) (i : Nat) (n : Int) (last : Int) : chS ch g cap (i, n, last) = ⟨[(1, .clos g [] cap), (5, i64 n), (6, i64 last), (10, .arr (cE ch)), (11, i64 ch.length), (12, i64 i)], [], 1, 30⟩ := rfl
theorem fs_changes (ch : List (List Rat)) (g : Nat) (cap : List AV) (sg : List Rat → Int) (hcap : ∀ c ∈ cap, Closed c) (hsg : ∀ q ∈ ch, -1 ≤ sg q ∧ sg q ≤ 1) (hl : ch.length ≤ 274877906944) (hg : ∀ q ∈ ch, FSpec Tryz.prog g ((.arr (pE q) :: cap).map coe) (i64 (sg q))) : FSpec Tryz.prog 223 [.arr (cE ch), .clos g [] cap] (i64 (chL (ch.map sg) 0 0)) := by
 refine FSpec.enter Tryz.func223 rfl (by kernel_rfl) rfl rfl rfl ?_ rfl ?_
 ·exact closed_cons (closed_cA ch) (closed_cons (closed_clos closed_nil hcap) closed_nil)
 refine r_z 1 ?_
 refine r_z 2 ?_
 refine AWp.seq ?_
 refine r_z 3 ?_
 obtain ⟨R, hR⟩ : ∃ R, R = chL (ch.map sg) 0 0 := ⟨_, rfl⟩
 rw [← hR]
 refine AWp.cutT (fun _ : Unit => ⟨[(5, i64 R)], [], 1, 30⟩) (fun _ => True) ?_ ?_
 ·refine AWp.block ?_
  refine AWp.loopS (chS ch g cap) (fun x => ch.length - x.1) (fun x => x.1 ≤ ch.length ∧ 0 ≤ x.2.1 ∧ x.2.1 ≤ x.1 ∧ -1 ≤ x.2.2 ∧ x.2.2 ≤ 1 ∧ chL ((ch.drop x.1).map sg) x.2.1 x.2.2 = R) (0, 0, 0) ⟨Nat.zero_le _, by decide, by decide, by decide, by decide, by rw [hR]; rfl⟩ ?_ ?_
  ·simp only [chS_mk]
   refine SEnt.to [] rfl rfl rfl au_r (fun hs => ?_) (fun hs => ?_)
   ·repeat' (first | exact CvF.nil | refine CvF.cons rfl ?_ ?_)
    all_goals (first | (exact Cv.clo hs (closed_clos closed_nil hcap)) | exact au_c)
   ·repeat' (first | exact CvH.nil | refine CvH.cons rfl rfl rfl rfl ?_ ?_)
    all_goals (first | exact au_e | (refine CvLL.box ?_; repeat' (first | exact CvL.nil | refine CvL.cons ?_ ?_)))
    all_goals (first | (exact Cv.clo hs (closed_clos closed_nil hcap)) | exact au_c)
  rintro ⟨i, n, last⟩ ⟨hi, hn0, hn1, hl0, hl1, hc⟩
  simp only at hi hn0 hn1 hl0 hl1 hc
  rw [chS_mk]
  refine r_z 1 ?_
  refine AWp.seq ?_
  refine AWp.cond rfl (fun h => ?_) (fun h => ?_)
  ·refine AWp.skip ?_
   have hlt : i < ch.length := by simpa using h
   obtain ⟨q, hq⟩ : ∃ q, ch[i]? = some q := ⟨_, List.getElem?_eq_getElem hlt⟩
   have hqm := List.mem_of_getElem? hq
   have hgt : (cE ch)[((i : Nat) : Int).toNat]? = some [.arr (pE q)] := cE_get hq
   have hd : ch.drop i = q :: ch.drop (i + 1) := by
    rw [List.drop_eq_getElem_cons hlt]
    rw [List.getElem?_eq_getElem hlt] at hq
    rw [Option.some.inj hq]
   rw [hd, List.map_cons, chL] at hc
   have hs2 := hsg q hqm
   refine AWp.seq ?_
   refine AWp.block ?_
   refine s_r 3 ?_
   first | refine AR.op0 (.index_l rfl rfl (by omega) (by omega) te_261.h) rfl rfl ?_ | refine AR.op0 (.index_a rfl rfl (by omega) hgt rfl te_261.h) rfl rfl ?_
   first | refine AR.op0 (.load_l1 rfl rfl hgt tg_55.h rfl) rfl rfl ?_ | refine AR.op0 (.load_a1 rfl hgt tg_55.h rfl) rfl rfl ?_
   refine a_z ?_
   refine r_c 4 (hg q hqm) ?_
   refine a_z ?_
   refine r_z 2 ?_
   refine AWp.cond rfl (fun h1 => ?_) (fun h1 => ?_)
   ·have hne : sg q ≠ 0 := by simpa using h1
    rw [if_pos hne] at hc
    refine AWp.seq ?_
    refine r_z 4 ?_
    refine AWp.cond rfl (fun h2 => ?_) (fun h2 => ?_)
    ·have he : sg q = -last := by simpa using h2
     rw [if_pos he] at hc
     refine AWp.reg (m := 3) rfl ?_
     refine a_z ?_
     refine AWp.reg (m := 2) rfl ?_
     refine a_z ?_
     refine AWp.reg (m := 2) rfl ?_
     refine a_z ?_
     refine ⟨(i + 1, n + 1, sg q), by simp only; omega, ⟨hlt, by simp only; omega, by simp only; omega, hs2.1, hs2.2, hc⟩, ?_⟩
     simp only [chS_mk]
     refine SEnt.to [] rfl rfl rfl au_r (fun hs => ?_) (fun hs => ?_)
     ·repeat' (first | exact CvF.nil | refine CvF.cons rfl ?_ ?_)
      all_goals (first | (exact Cv.clo hs (closed_clos closed_nil hcap)) | exact au_c)
     ·repeat' (first | exact CvH.nil | refine CvH.cons rfl rfl rfl rfl ?_ ?_)
      all_goals (first | exact au_e | (refine CvLL.box ?_; repeat' (first | exact CvL.nil | refine CvL.cons ?_ ?_)))
      all_goals (first | (exact Cv.clo hs (closed_clos closed_nil hcap)) | exact au_c)
    ·have he : ¬ sg q = -last := by simpa using h2
     rw [if_neg he] at hc
     refine AWp.skip ?_
     refine AWp.reg (m := 2) rfl ?_
     refine a_z ?_
     refine AWp.reg (m := 2) rfl ?_
     refine a_z ?_
     refine ⟨(i + 1, n, sg q), by simp only; omega, ⟨hlt, hn0, by simp only; omega, hs2.1, hs2.2, hc⟩, ?_⟩
     simp only [chS_mk]
     refine SEnt.to [] rfl rfl rfl au_r (fun hs => ?_) (fun hs => ?_)
     ·repeat' (first | exact CvF.nil | refine CvF.cons rfl ?_ ?_)
      all_goals (first | (exact Cv.clo hs (closed_clos closed_nil hcap)) | exact au_c)
     ·repeat' (first | exact CvH.nil | refine CvH.cons rfl rfl rfl rfl ?_ ?_)
      all_goals (first | exact au_e | (refine CvLL.box ?_; repeat' (first | exact CvL.nil | refine CvL.cons ?_ ?_)))
      all_goals (first | (exact Cv.clo hs (closed_clos closed_nil hcap)) | exact au_c)
   ·have hne : sg q = 0 := by simpa using h1
    rw [if_neg (fun e => e hne)] at hc
    refine AWp.skip ?_
    refine AWp.reg (m := 2) rfl ?_
    refine a_z ?_
    refine ⟨(i + 1, n, last), by simp only; omega, ⟨hlt, hn0, by simp only; omega, hl0, hl1, hc⟩, ?_⟩
    simp only [chS_mk]
    refine SEnt.to [] rfl rfl rfl au_r (fun hs => ?_) (fun hs => ?_)
    ·repeat' (first | exact CvF.nil | refine CvF.cons rfl ?_ ?_)
     all_goals (first | (exact Cv.clo hs (closed_clos closed_nil hcap)) | exact au_c)
    ·repeat' (first | exact CvH.nil | refine CvH.cons rfl rfl rfl rfl ?_ ?_)
     all_goals (first | exact au_e | (refine CvLL.box ?_; repeat' (first | exact CvL.nil | refine CvL.cons ?_ ?_)))
     all_goals (first | (exact Cv.clo hs (closed_clos closed_nil hcap)) | exact au_c)
  ·have hge : i = ch.length := by
    have : ¬ i < ch.length := by simpa using h
    omega
   subst hge
   rw [List.drop_length] at hc
   have hc' : n = R := hc
   subst hc'
   refine AWp.exit ⟨(), trivial, ?_⟩
   exact s_e []
 rintro _ _
 refine r_z 2 ?_
 refine AWp.ret ?_
 refine Fin.tmpE rfl ?_ ?_
 ·rfl
 ·exact closed_v _
theorem fs_counts1 (q : List Rat) (h0 : trimQ q ≠ []) (hl : q.length ≤ 274877906944) : FSpec Tryz.prog 224 [.arr (pE q)] (i64 (sgI q)) := by
 have hd : ¬ degP q < 0 := fun e => h0 (degP_neg.1 e)
 have hb := sgZ_abs (leadP q).num
 refine FSpec.enter Tryz.func224 rfl (by kernel_rfl) rfl rfl rfl ?_ rfl ?_
 ·exact closed_cons (closed_pA q) closed_nil
 refine r_z 1 ?_
 refine AWp.seq ?_
 refine r_c 4 (fs_Degree q (by omega)) ?_
 refine a_z ?_
 refine AWp.cond rfl (fun h => ?_) (fun h => ?_)
 ·have h1 : degP q % 2 = 1 := by simpa using h
  refine r_c 5 (fs_Lead q (by omega)) ?_
  refine c_s (fs_Sign (leadP q)) ?_
  refine a_z ?_
  refine AWp.ret ?_
  refine Fin.tmpE rfl ?_ ?_
  ·unfold sgI; rw [if_pos h1]; rfl
  ·exact closed_v _
 ·have h1 : ¬ degP q % 2 = 1 := by simpa using h
  refine AWp.skip ?_
  refine r_c 4 (fs_Lead q (by omega)) ?_
  refine c_s (fs_Sign (leadP q)) ?_
  refine a_z ?_
  refine AWp.ret ?_
  refine Fin.tmpE rfl ?_ ?_
  ·unfold sgI; rw [if_neg h1]
  ·exact closed_v _
theorem fs_counts (f : Nat) (p : List Rat) (c : Cnt) (h : countsM f p = some c) (hf : f ≤ 1000000) : FSpec Tryz.prog 148 [.arr (pE p)] (kA c) := by
 unfold countsM at h
 obtain ⟨s, hs, h2⟩ := Option.bind_eq_some_iff.1 h
 obtain ⟨ch, hch, h3⟩ := Option.bind_eq_some_iff.1 h2
 split at h3
 case isFalse => cases h3
 case isTrue hk =>
 cases h3
 have hcs := fs_changes ch 224 [] sgI closed_nil (fun q _ => sgI_abs q) hk.2.1 (fun q hq => fs_counts1 q (hk.1 q hq).1 (hk.1 q hq).2)
 refine FSpec.enter Tryz.func148 rfl (by kernel_rfl) rfl rfl rfl ?_ rfl ?_
 ·exact closed_cons (closed_pA p) closed_nil
 refine r_z 1 ?_
 refine r_c 5 (fs_squarefree f p s hs) ?_
 refine a_z ?_
 refine r_c 9 (fs_sturm f s ch hch hf) ?_
 refine a_z ?_
 refine r_c 9 (hcs) ?_
 refine a_z ?_
 refine r_z 2 ?_
 refine AWp.ret ?_
 exact Fin.tmpP rfl rfl rfl (closed_kC _)
theorem fs_upto1 (q : List Rat) (x : Rat) (h : okEval q x) : FSpec Tryz.prog 225 [.arr (pE q), bQ x] (i64 (sgE x q)) := by
 refine FSpec.enter Tryz.func225 rfl (by kernel_rfl) rfl rfl rfl ?_ rfl ?_
 ·exact closed_cons (closed_pA q) (closed_cons (closed_bQ x) closed_nil)
 refine r_z 1 ?_
 refine r_c 5 (fs_Eval q x h) ?_
 refine c_s (fs_Sign (evalP q x)) ?_
 refine a_z ?_
 refine AWp.ret ?_
 refine Fin.tmpE rfl ?_ ?_
 ·rfl
 ·exact closed_v _
theorem fs_upto (c : Cnt) (x : Rat) (h : okUp c x) : FSpec Tryz.prog 149 [kA c, .agg (qC x)] (i64 (uptoV c x)) := by
 have hcs := fs_changes c.ch 225 [bQ x] (sgE x) (closed_cons (closed_bQ x) closed_nil) (fun q _ => sgZ_abs _) h.1.2.1 (fun q hq => fs_upto1 q x (h.2 q hq))
 have hb := uptoV_bd (x := x) h.1
 unfold uptoV at hb ⊢
 refine FSpec.enter Tryz.func149 rfl (by kernel_rfl) rfl rfl rfl ?_ rfl ?_
 ·exact closed_cons (closed_kA c) (closed_cons (closed_qA x) closed_nil)
 refine r_z 2 ?_
 refine AWp.ent (st' := ⟨[(0, kA c), (3, bQ x)], [], 1, 16⟩) ?_ ?_
 ·exact s_e []
 refine AWp.seq ?_
 refine AWp.regD hmix (m := 12) rfl ?_
 refine c_s (hcs) ?_
 refine a_2 ?_
 refine AR.nil ⟨by kernel_rfl, ?_⟩
 refine AWp.ret ?_
 refine Fin.tmpE rfl ?_ ?_
 ·rfl
 ·exact closed_v _
theorem fs_below (c : Cnt) (x : Rat) (h : okBe c x) : FSpec Tryz.prog 150 [kA c, .agg (qC x)] (i64 (belowV c x)) := by
 have hb := uptoV_bd (x := x) h.1.1
 refine FSpec.enter Tryz.func150 rfl (by kernel_rfl) rfl rfl rfl ?_ rfl ?_
 ·exact closed_cons (closed_kA c) (closed_cons (closed_qA x) closed_nil)
 refine r_z 2 ?_
 refine r_c 4 (fs_upto c x h.1) ?_
 refine a_z ?_
 refine AWp.cut (fun n : Int => ⟨[(5, i64 n)], [], 1, 20⟩) (fun n => n = belowV c x) ?_ ?_
 ·refine AWp.seq ?_
  refine AWp.regD hmix (m := 8) rfl ?_
  refine c_s (fs_Eval c.p x h.2) ?_
  refine c_s (fs_Sign (evalP c.p x)) ?_
  refine a_1 ?_
  refine AR.nil ⟨by kernel_rfl, ?_⟩
  refine AWp.cond rfl (fun h1 => ?_) (fun h1 => ?_)
  ·have h0 : evalP c.p x = 0 := by
    have : sgZ (evalP c.p x).num = 0 := by simpa using h1
    exact sgZ_num_eq.1 this
   refine AWp.reg (m := 3) rfl ?_
   refine a_z ?_
   refine ⟨uptoV c x - 1, by unfold belowV; rw [if_pos h0], ?_⟩
   exact s_e []
  ·have h0 : evalP c.p x ≠ 0 := by
    intro e
    have : ¬ sgZ (evalP c.p x).num = 0 := by simpa using h1
    exact this (sgZ_num_eq.2 e)
   refine AWp.skip ⟨uptoV c x, by unfold belowV; rw [if_neg h0], ?_⟩
   exact s_e []
 rintro n rfl
 refine r_z 2 ?_
 refine AWp.ret ?_
 refine Fin.tmpE rfl ?_ ?_
 ·rfl
 ·exact closed_v _
theorem fs_all (c : Cnt) (h : okAll c) : FSpec Tryz.prog 274 [kA c] (i64 (allV c)) := by
 refine FSpec.enter Tryz.func274 rfl (by kernel_rfl) rfl rfl rfl ?_ rfl ?_
 ·exact closed_cons (closed_kA c) closed_nil
 refine r_z 1 ?_
 refine r_c 8 (fs_bound c.p h.1 h.2.1) ?_
 refine c_s (fs_upto c (boundP c.p) h.2.2) ?_
 refine a_z ?_
 refine AWp.ret ?_
 refine Fin.tmpE rfl ?_ ?_
 ·rfl
 ·exact closed_v _
end Go.Proofs.YtdjfjpeoddmamaaGreatDoor
namespace Go.Abs
abbrev plA (c : Cnt) (i : Int) : AV := .aptr [[kA c, i64 i]] 0 0
theorem closed_plA (c : Cnt) (i : Int) : Closed (plA c i) := closed_box (closed_cons (closed_kA c) (closed_cons (closed_v _) closed_nil))
def plC (c : Cnt) (i : Int) (x : Rat) : Int := if i < belowV c x then -1 else if belowV c x = i ∧ belowV c x < uptoV c x then 0 else 1
theorem belowV_bd {c : Cnt} {x : Rat} (h : okCnt c) : -274877906945 ≤ belowV c x ∧ belowV c x ≤ 274877906944 := by
 have := uptoV_bd (x := x) h
 unfold belowV; split <;> omega
def biM (c : Cnt) (i : Int) (step : Rat) : Nat → Rat → Rat → Option Rat
 | 0, _, _ => none
 | f + 1, lo, hi =>
  if sm lo ∧ sm hi ∧ sm (hi - lo) then
   if 0 < cmpQ (hi - lo) 1 then
    if qs (((lo + hi) / 2).floor : Rat) + qs step ≤ 549755813888 ∧ okBe c ((((lo + hi) / 2).floor : Rat) * step) then
     if 0 ≤ plC c i ((((lo + hi) / 2).floor : Rat) * step) then biM c i step f (((lo + hi) / 2).floor : Rat) hi
     else biM c i step f lo (((lo + hi) / 2).floor : Rat)
    else none
   else some lo
  else none
end Go.Abs
namespace Go.Proofs.YtdjfjpeoddmamaaGreatDoor
open Go.Abs
set_option maxRecDepth 20000
theorem fs_pcmp (c : Cnt) (i : Int) (x : Rat) (h : okBe c x) : FSpec Tryz.prog 301 [plA c i, .agg (qC x)] (i64 (plC c i x)) := by
 refine FSpec.enter Tryz.func301 rfl (by kernel_rfl) rfl rfl rfl ?_ rfl ?_
 ·exact closed_cons (closed_plA c i) (closed_cons (closed_qA x) closed_nil)
 refine r_z 2 ?_
 refine AWp.seq ?_
 refine AWp.seq ?_
 refine AWp.regD hmix (m := 7) rfl ?_
 refine c_s (fs_below c x h) ?_
 refine a_1 ?_
 refine AR.nil ⟨by kernel_rfl, ?_⟩
 refine AWp.cutT (fun _ : Unit => ⟨[], [], 1, 36⟩) (fun _ => plC c i x = 1) ?_ ?_
 ·refine AWp.block ?_
  refine r_z 7 ?_
  refine AWp.cond rfl (fun h1 => ?_) (fun h1 => ?_)
  ·have h2 : i < belowV c x := by simpa using h1
   refine r_z 1 ?_
   refine AWp.ret ?_
   refine Fin.tmpE rfl ?_ ?_
   ·unfold plC; rw [if_pos h2]; rfl
   ·exact closed_v _
  ·have h2 : ¬ i < belowV c x := by simpa using h1
   by_cases h3 : belowV c x = i
   ·refine AWp.seq ?_
    refine AWp.regD hmix (m := 17) rfl ?_
    refine a_7 ?_
    refine AR.op0y rfl rfl (gy (by simp [h3])) (.move rfl) rfl rfl ?_
    refine AR.op0y rfl rfl (gy (by simp [h3])) (.nilCheck rfl rfl) rfl rfl ?_
    first | refine AR.op0y rfl rfl (gy (by simp [h3])) (.fieldAddr_l rfl tf_277_0.h (by decide)) rfl rfl ?_ | refine AR.op0y rfl rfl (gy (by simp [h3])) (.fieldAddr_a rfl tf_277_0.h (by decide)) rfl rfl ?_
    first | refine AR.op0y rfl rfl (gy (by simp [h3])) (.load_l1 rfl rfl rfl tg_199.h rfl) rfl rfl ?_ | refine AR.op0y rfl rfl (gy (by simp [h3])) (.load_a1 rfl rfl tg_199.h rfl) rfl rfl ?_
    first | refine AR.op0y rfl rfl (gy (by simp [h3])) (.load_l rfl rfl rfl tg_35.h ts_35.h (nle rfl)) rfl rfl ?_ | refine AR.op0y rfl rfl (gy (by simp [h3])) (.load_a rfl rfl tg_35.h ts_35.h (nle rfl)) rfl rfl ?_
    refine AR.op0y rfl rfl (gy (by simp [h3])) (.call rfl rfl rfl (fs_upto c x h.1)) rfl rfl ?_
    refine AR.op0y rfl rfl (gy (by simp [h3])) (.move rfl) rfl rfl ?_
    refine AR.op0y rfl rfl (gy (by simp [h3])) (.bin rfl rfl binI_gtr) rfl rfl ?_
    refine o_0 (.pickT rfl (by simp [h3]) rfl) ?_
    refine a_1 ?_
    refine AR.nil ⟨by kernel_rfl, ?_⟩
    refine AWp.cond rfl (fun h4 => ?_) (fun h4 => ?_)
    ·have h5 : belowV c x < uptoV c x := by simpa using h4
     refine r_z 1 ?_
     refine AWp.ret ?_
     refine Fin.tmpE rfl ?_ ?_
     ·unfold plC; rw [if_neg h2, if_pos ⟨h3, h5⟩]; rfl
     ·exact closed_v _
    ·have h5 : ¬ belowV c x < uptoV c x := by simpa using h4
     refine AWp.skip ⟨(), by unfold plC; rw [if_neg h2, if_neg fun e => h5 e.2], ?_⟩
     exact s_e []
   ·refine AWp.seq ?_
    refine AWp.regD hmix (m := 17) rfl ?_
    refine a_7 ?_
    refine AR.opN rfl rfl (gn (by simp [h3])) rfl rfl ?_
    refine AR.opN rfl rfl (gn (by simp [h3])) rfl rfl ?_
    refine AR.opN rfl rfl (gn (by simp [h3])) rfl rfl ?_
    refine AR.opN rfl rfl (gn (by simp [h3])) rfl rfl ?_
    refine AR.opN rfl rfl (gn (by simp [h3])) rfl rfl ?_
    refine AR.opN rfl rfl (gn (by simp [h3])) rfl rfl ?_
    refine AR.opN rfl rfl (gn (by simp [h3])) rfl rfl ?_
    refine AR.opN rfl rfl (gn (by simp [h3])) rfl rfl ?_
    refine o_0 (.pickF rfl (by simp [h3]) rfl) ?_
    refine a_1 ?_
    refine AR.nil ⟨by kernel_rfl, ?_⟩
    refine AWp.cond rfl (fun h4 => ?_) (fun h4 => ?_)
    ·cases h4
    ·refine AWp.skip ⟨(), by unfold plC; rw [if_neg h2, if_neg fun e => h3 e.1], ?_⟩
     exact s_e []
 rintro _ hr
 refine r_z 1 ?_
 refine AWp.ret ?_
 refine Fin.tmpE rfl ?_ ?_
 ·rw [hr]; rfl
 ·exact closed_v _
def hiV (c : Cnt) (step : Rat) : Rat := ceilQ (boundP c.p / step)
def okDown (c : Cnt) (step : Rat) (lo : Rat) : Prop := okBound c.p ∧ trimQ c.p ≠ [] ∧ step ≠ 0 ∧ qs (boundP c.p) + qs step ≤ 549755813888 ∧ qs lo + qs step ≤ 549755813888 ∧ okBe c (lo * step)
instance (c : Cnt) (step lo : Rat) : Decidable (okDown c step lo) := inferInstanceAs (Decidable (_ ∧ _ ∧ _ ∧ _ ∧ _ ∧ _))
def downM (f : Nat) (c : Cnt) (i : Int) (step : Rat) : Option (Rat × Bool) :=
 (biM c i step f (-hiV c step) (hiV c step)).bind fun lo => if okDown c step lo then some (lo * step, plC c i (lo * step) == 0) else none
def dnS (c : Cnt) (i : Int) (step : Rat) : Rat × Rat → AState
 | (lo, hi) => ⟨[(0, plA c i), (3, .lptr 1 0 0), (4, .lptr 2 0 0), (6, .lptr 3 0 0), (7, .lptr 4 0 0), (8, .lptr 5 0 0)], [(1, some ⟨35, 3, [qC step]⟩), (2, some ⟨35, 3, [zC]⟩), (3, some ⟨35, 3, [qC hi]⟩), (4, some ⟨35, 3, [qC lo]⟩), (5, some ⟨35, 3, [qC 2]⟩)], 6, 52⟩
theorem dnS_mk (c : Cnt) (i : Int) (step : Rat) (lo : Rat) (hi : Rat) : dnS c i step (lo, hi) = ⟨[(0, plA c i), (3, .lptr 1 0 0), (4, .lptr 2 0 0), (6, .lptr 3 0 0), (7, .lptr 4 0 0), (8, .lptr 5 0 0)], [(1, some ⟨35, 3, [qC step]⟩), (2, some ⟨35, 3, [zC]⟩), (3, some ⟨35, 3, [qC hi]⟩), (4, some ⟨35, 3, [qC lo]⟩), (5, some ⟨35, 3, [qC 2]⟩)], 6, 52⟩ := rfl
theorem fs_down (f : Nat) (c : Cnt) (i : Int) (step : Rat) (r : Rat × Bool) (h : downM f c i step = some r) : FSpec Tryz.prog 276 [plA c i, .agg (qC step)] (.tup [.agg (qC r.1), bln r.2]) := by
 unfold downM at h
 obtain ⟨l, hl, h2⟩ := Option.bind_eq_some_iff.1 h
 split at h2
 case isFalse => cases h2
 case isTrue hk =>
 cases h2
 obtain ⟨k1, k2, k3, k4, k5, k6⟩ := hk
 have hq := qs_div (boundP c.p) step
 refine FSpec.enter Tryz.func276 rfl (by kernel_rfl) rfl rfl rfl ?_ rfl ?_
 ·exact closed_cons (closed_plA c i) (closed_cons (closed_qA step) closed_nil)
 refine r_z 3 ?_
 refine AWp.seq ?_
 refine AWp.regD hmix (m := 13) rfl ?_
 refine c_s (fs_bound c.p k1 k2) ?_
 refine c_s (fs_over2 (boundP c.p) step k3 k4) ?_
 refine c_s (fs_ceil (boundP c.p / step) (by omega)) ?_
 refine a_2 ?_
 refine AR.nil ⟨by kernel_rfl, ?_⟩
 refine r_c 4 (fs_neg (ceilQ (boundP c.p / step))) ?_
 refine a_z ?_
 refine r_c 3 (fs_Int 2 (by decide)) ?_
 refine a_z ?_
 refine AWp.cut (fun hi : Rat => dnS c i step (l, hi)) (fun _ => True) ?_ ?_
 ·refine AWp.block ?_
  refine AWp.loopS (fun x : Nat × Rat × Rat => dnS c i step x.2) (fun x => x.1) (fun x => biM c i step x.1 x.2.1 x.2.2 = some l) (f, -hiV c step, hiV c step) hl ?_ ?_
  ·simp only [dnS_mk, hiV]
   exact s_e [(2, 4), (3, 6), (4, 7), (5, 8)]
  rintro ⟨f, lo, hi⟩ h
  simp only at h
  simp only [dnS_mk]
  cases f with
  | zero => cases h
  | succ f =>
   rw [biM] at h
   split at h
   case isFalse => cases h
   case isTrue hs =>
   obtain ⟨s1, s2, s3⟩ := hs
   refine AWp.seq ?_
   refine r_c 6 (fs_sub hi lo (sm2 s2 s1)) ?_
   refine c_s (fs_Int 1 (by decide)) ?_
   refine c_s (fs_cmp (hi - lo) 1 s3 (by decide)) ?_
   refine a_z ?_
   refine AWp.cond rfl (fun h1 => ?_) (fun h1 => ?_)
   ·have h2 : 0 < cmpQ (hi - lo) 1 := by simpa using h1
    rw [if_pos h2] at h
    split at h
    case isFalse => cases h
    case isTrue ht =>
    obtain ⟨t1, t2⟩ := ht
    have hq1 := qs_add lo hi
    have hq2 : qs 2 = 2 := by decide
    have hq3 := qs_div (lo + hi) 2
    unfold sm at s1 s2
    refine AWp.skip ?_
    refine AWp.block ?_
    refine AWp.seq ?_
    refine AWp.regD hmix (m := 8) rfl ?_
    refine c_s (fs_add lo hi (by omega)) ?_
    refine c_s (fs_over2 (lo + hi) 2 (by decide) (by omega)) ?_
    refine c_s (fs_floor ((lo + hi) / 2) (by omega)) ?_
    refine a_2 ?_
    refine AR.nil ⟨by kernel_rfl, ?_⟩
    refine r_c 6 (fs_mul (((lo + hi) / 2).floor : Rat) step t1) ?_
    refine c_s (fs_pcmp c i ((((lo + hi) / 2).floor : Rat) * step) t2) ?_
    refine a_z ?_
    refine AWp.cond rfl (fun h3 => ?_) (fun h3 => ?_)
    ·have h4 : 0 ≤ plC c i ((((lo + hi) / 2).floor : Rat) * step) := by simpa using h3
     rw [if_pos h4] at h
     refine AWp.reg (m := 2) rfl ?_
     refine a_z ?_
     refine ⟨(f, (((lo + hi) / 2).floor : Rat), hi), Nat.lt_succ_self f, h, ?_⟩
     simp only [dnS_mk]
     exact s_e []
    ·have h4 : ¬ 0 ≤ plC c i ((((lo + hi) / 2).floor : Rat) * step) := by simpa using h3
     rw [if_neg h4] at h
     refine AWp.reg (m := 2) rfl ?_
     refine a_z ?_
     refine ⟨(f, lo, (((lo + hi) / 2).floor : Rat)), Nat.lt_succ_self f, h, ?_⟩
     simp only [dnS_mk]
     exact s_e []
   ·have h2 : ¬ 0 < cmpQ (hi - lo) 1 := by simpa using h1
    rw [if_neg h2] at h
    cases h
    refine AWp.exit ⟨hi, trivial, ?_⟩
    simp only [dnS_mk]
    exact s_e []
 rintro hi _
 simp only [dnS_mk]
 refine r_c 4 (fs_mul l step k5) ?_
 refine a_z ?_
 refine AWp.seq ?_
 refine AWp.regD hmix (m := 7) rfl ?_
 refine c_s (fs_pcmp c i (l * step) k6) ?_
 refine a_3 ?_
 refine AR.nil ⟨by kernel_rfl, ?_⟩
 refine AWp.ret ?_
 refine Fin.many ⟨_, _, rfl, ⟨_, _, _, _, _, rfl, rfl, rfl, .inl ⟨tg_35.h, _, ts_35.h, nle rfl, rfl⟩⟩, ⟨_, _, rfl, rfl, rfl⟩⟩ (nle rfl) ?_
 exact CvL.cons (Cv.clo shr_nil (closed_qA _)) (CvL.cons (Cv.clo shr_nil (closed_v _)) CvL.nil)
def spanM (f : Nat) (c : Cnt) (i : Int) (k : Int) : Option Sp :=
 (downM f c i (fineQ (wi k 256))).bind fun r => if r.2 then some (r.1, r.1) else if qs r.1 + qs (fineQ (wi k 256)) ≤ 549755813888 then some (r.1, r.1 + fineQ (wi k 256)) else none
theorem fs_span (f : Nat) (c : Cnt) (i : Int) (k : Int) (s : Sp) (h : spanM f c i k = some s) : FSpec Tryz.prog 229 [plA c i, i64 k] (.agg (spC s.1 s.2)) := by
 unfold spanM at h
 obtain ⟨⟨at', ex⟩, hd, h2⟩ := Option.bind_eq_some_iff.1 h
 refine FSpec.enter Tryz.func229 rfl (by kernel_rfl) rfl rfl rfl ?_ rfl ?_
 ·exact closed_cons (closed_plA c i) (closed_cons (closed_v _) closed_nil)
 refine r_z 1 ?_
 refine r_c 4 (fs_Fine k) ?_
 refine a_z ?_
 refine r_c 9 (fs_down f c i (fineQ (wi k 256)) (at', ex) hd) ?_
 refine a_z ?_
 refine AWp.seq ?_
 refine r_z 1 ?_
 refine AWp.cond rfl (fun h1 => ?_) (fun h1 => ?_)
 ·subst h1
  rw [if_pos rfl] at h2
  cases h2
  refine r_c 3 (fs_At at') ?_
  refine a_z ?_
  refine AWp.ret ?_
  refine Fin.cellE rfl rfl rfl tg_37.h ts_37.h (nle rfl) ?_ ?_
  ·rfl
  ·exact closed_spA _ _
 ·subst h1
  rw [if_neg (show ¬ false = true by decide)] at h2
  split at h2
  case isFalse => cases h2
  case isTrue hs =>
  cases h2
  refine AWp.skip ?_
  refine AWp.seq ?_
  refine AWp.regD hmix (m := 6) rfl ?_
  refine c_s (fs_add at' (fineQ (wi k 256)) hs) ?_
  refine a_2 ?_
  refine AR.nil ⟨by kernel_rfl, ?_⟩
  refine AWp.ret ?_
  refine Fin.cellE rfl rfl rfl tg_37.h ts_37.h (nle rfl) ?_ ?_
  ·rfl
  ·exact closed_spA _ _
abbrev roA (p : List Rat) (i : Int) : AV := .agg [.arr (pE p), i64 i]
theorem closed_roA (p : List Rat) (i : Int) : Closed (roA p i) := closed_agg (closed_cons (closed_pA p) (closed_cons (closed_v _) closed_nil))
def placeM (f : Nat) (p : List Rat) : Option Cnt := if p.length ≤ 274877906944 ∧ largeP p = 0 then (countsM f p).bind fun c => if okAll c then some c else none else none
theorem fs_place (f : Nat) (p : List Rat) (i : Int) (c : Cnt) (h : placeM f p = some c) (hf : f ≤ 1000000) (hi : 0 ≤ i) : FSpec Tryz.prog 228 [roA p i] (.tup [plA c i, bln (decide (i < allV c))]) := by
 unfold placeM at h
 split at h
 case isFalse => cases h
 case isTrue hp =>
 obtain ⟨c', hc, h2⟩ := Option.bind_eq_some_iff.1 h
 split at h2
 case isFalse => cases h2
 case isTrue hk =>
 cases h2
 refine FSpec.enter Tryz.func228 rfl (by kernel_rfl) rfl rfl rfl ?_ rfl ?_
 ·exact closed_cons (closed_roA p i) closed_nil
 refine r_z 3 ?_
 refine AWp.seq ?_
 refine r_c 9 (fs_large p (by omega)) ?_
 refine a_2 ?_
 first | refine AR.op0y rfl rfl (gy (by simp [hp.2])) (.fieldAddr_l rfl tf_207_1.h (by decide)) rfl rfl ?_ | refine AR.op0y rfl rfl (gy (by simp [hp.2])) (.fieldAddr_a rfl tf_207_1.h (by decide)) rfl rfl ?_
 first | refine AR.op0y rfl rfl (gy (by simp [hp.2])) (.load_l1 rfl rfl rfl tg_3.h rfl) rfl rfl ?_ | refine AR.op0y rfl rfl (gy (by simp [hp.2])) (.load_a1 rfl rfl tg_3.h rfl) rfl rfl ?_
 refine AR.op0y rfl rfl (gy (by simp [hp.2])) (.bin rfl rfl binI_lss) rfl rfl ?_
 refine o_0 (.pickF rfl (by simp [hp.2]) rfl) ?_
 refine AR.nil ?_
 refine AWp.cond rfl (fun h => ?_) (fun h => ?_)
 ·exact absurd h (by simp; omega)
 refine AWp.skip ?_
 refine AWp.seq ?_
 refine AWp.regD hmix (m := 8) rfl ?_
 refine c_s (fs_counts f p c hc hf) ?_
 refine a_5 ?_
 refine AR.nil ⟨by kernel_rfl, ?_⟩
 refine AWp.seq ?_
 refine AWp.regD hmix (m := 11) rfl ?_
 refine c_s (fs_all c hk) ?_
 refine a_3 ?_
 refine AR.nil ⟨by kernel_rfl, ?_⟩
 refine AWp.ret ?_
 refine Fin.many ⟨_, _, rfl, rfl, ⟨_, _, rfl, rfl, rfl⟩⟩ (nle rfl) ?_
 exact CvL.cons (Cv.boxp shr_nil rfl (fun _ _ h => by cases h) rfl (closed_cons (closed_kA c) (closed_cons (closed_v _) closed_nil))) (CvL.cons (Cv.clo shr_nil (closed_v _)) CvL.nil)
theorem fs_RSpan (f : Nat) (p : List Rat) (i k : Int) (c : Cnt) (s : Sp) (h : placeM f p = some c) (hf : f ≤ 1000000) (hi : 0 ≤ i) (hall : i < allV c) (hs : spanM f c i k = some s) : FSpec Tryz.prog 155 [roA p i, i64 k] (.tup [.agg (spC s.1 s.2), i64 0]) := by
 refine FSpec.enter Tryz.func155 rfl (by kernel_rfl) rfl rfl rfl ?_ rfl ?_
 ·exact closed_cons (closed_roA p i) (closed_cons (closed_v _) closed_nil)
 refine r_z 3 ?_
 refine r_c 7 (fs_place f p i c h hf hi) ?_
 refine a_z ?_
 refine AWp.seq ?_
 refine r_z 2 ?_
 refine AWp.cond rfl (fun h1 => ?_) (fun h1 => ?_)
 ·exact absurd h1 (by simp [hall])
 refine AWp.skip ?_
 refine r_c 5 (fs_span f c i k s hs) ?_
 refine a_z ?_
 refine AWp.ret ?_
 refine Fin.many ⟨_, _, rfl, ⟨_, _, _, _, _, rfl, rfl, rfl, .inl ⟨tg_37.h, _, ts_37.h, nle rfl, rfl⟩⟩, ⟨_, _, rfl, rfl, rfl⟩⟩ (nle rfl) ?_
 exact CvL.cons (Cv.clo shr_nil (closed_spA _ _)) (CvL.cons (Cv.clo shr_nil (closed_v _)) CvL.nil)
def midV (s : Sp) : Rat := (s.1 + s.2) * fineQ 1
def nextS (c : Cnt) (i : Int) (s : Sp) : Sp := if plC c i (midV s) = 0 then (midV s, midV s) else if plC c i (midV s) = 1 then (midV s, s.2) else (s.1, midV s)
def okNext (c : Cnt) (s : Sp) : Prop := smS s ∧ okBe c (midV s)
instance (c : Cnt) (s : Sp) : Decidable (okNext c s) := inferInstanceAs (Decidable (_ ∧ _))
def closV (c : Cnt) (i : Int) (s0 : Sp) : Nat → Sp
 | 0 => s0
 | k + 1 => nextS c i (closV c i s0 k)
def closT (c : Cnt) (i : Int) (s0 : Sp) (k : Nat) : Option (List AV) := some [.agg (spC (closV c i s0 k).1 (closV c i s0 k).2)]
abbrev bPl (c : Cnt) (i : Int) : AV := .aptr [[plA c i]] 0 0
theorem closed_bPl (c : Cnt) (i : Int) : Closed (bPl c i) := closed_box (closed_cons (closed_plA c i) closed_nil)
theorem gs_closer (f : Nat) (c : Cnt) (i : Int) (s0 : Sp) (K : Nat) (h : spanM f c i 0 = some s0) (hok : ∀ k, k < K → okNext c (closV c i s0 k)) : GSpecB Tryz.prog 304 [bPl c i] (closT c i s0) K := by
 refine GSpecB.enter Tryz.func304 rfl (by kernel_rfl) rfl rfl rfl ?_ ?_ rfl ?_
 ·exact closed_cons (closed_bPl c i) closed_nil
 ·intro k xs h
  cases h
  exact closed_cons (closed_spA _ _) closed_nil
 intro ll N hN E
 refine GWp.seq ?_
 refine GWp.lift ?_
 refine AWp.reg (m := 4) rfl ?_
 refine c_s (fs_span f c i 0 s0 h) ?_
 refine a_z ?_
 refine GWp.block ?_
 refine GWp.loopS (fun k : Nat => ⟨[(0, .v (.func (.yield ll) #[] #[])), (1, bPl c i), (3, .lptr 1 0 0)], [(1, some ⟨37, 6, [spC (closV c i s0 k).1 (closV c i s0 k).2]⟩)], 2, 25⟩) (fun k => k) (fun k => N + 1 - k) (fun k => k ≤ N) 0 (Nat.zero_le _) rfl ?_ ?_
 ·refine SEnt.to [(1, 3)] rfl rfl rfl au_r (fun hs => ?_) (fun hs => ?_)
  ·repeat' (first | exact CvF.nil | refine CvF.cons rfl ?_ ?_)
   all_goals (first | (exact Cv.clo hs (closed_bPl c i)) | exact au_c)
  ·repeat' (first | exact CvH.nil | refine CvH.cons rfl rfl rfl rfl ?_ ?_)
   all_goals (first | exact au_e | (refine CvLL.box ?_; repeat' (first | exact CvL.nil | refine CvL.cons ?_ ?_)))
   all_goals (first | (exact Cv.clo hs (closed_bPl c i)) | exact au_c)
 intro k hk
 refine GWp.seq ?_
 refine GWp.seq ?_
 refine GWp.regY (fr2 := [(0, .v (.func (.yield ll) #[] #[])), (1, bPl c i), (3, .lptr 1 0 0), (7, .v (.func (.yield ll) #[] #[])), (8, .agg (spC (closV c i s0 k).1 (closV c i s0 k).2))]) (hp2 := [(1, some ⟨37, 6, [spC (closV c i s0 k).1 (closV c i s0 k).2]⟩)]) (nx2 := 2) 2 rfl rfl rfl rfl rfl rfl ?_ rfl rfl rfl ?_ ?_ ?_
 ·refine o_0 (.move rfl) ?_
  first | refine AR.op0 (.load_l rfl rfl rfl tg_37.h ts_37.h (nle rfl)) rfl rfl ?_ | refine AR.op0 (.load_a rfl rfl tg_37.h ts_37.h (nle rfl)) rfl rfl ?_
  refine AR.nil ?_
  refine SEntT.to [] rfl rfl rfl au_r (fun hs => au_f) (fun hs => au_h)
 rotate_left 2
 intro go
 refine AR.nil ?_
 rotate_left
 ·rfl
 ·exact closed_cons (closed_spA _ _) closed_nil
 cases go with
 | false =>
  refine GWp.cond rfl (fun h => ?_) (fun h => ?_)
  ·cases h
  ·exact GWp.exit ⟨.inl rfl, fun h => by cases h⟩
 | true =>
  refine GWp.bound fun hk1 => ?_
  refine GWp.cond rfl (fun h => ?_) (fun h => ?_)
  rotate_left
  ·cases h
  refine GWp.skip ?_
  have hn := hok k (by omega)
  obtain ⟨hs, hb⟩ := hn
  have hnx : closV c i s0 (k + 1) = nextS c i (closV c i s0 k) := rfl
  obtain ⟨s, hsd⟩ : ∃ s, s = closV c i s0 k := ⟨_, rfl⟩
  rw [← hsd] at hs hb hnx ⊢
  refine GWp.lift ?_
  refine AWp.block ?_
  refine r_c 4 (fs_SMiddle s.1 s.2 hs.1 hs.2) ?_
  refine a_z ?_
  refine r_c 3 (fs_pcmp c i (midV s) hb) ?_
  refine AR.nil ?_
  refine AWp.block ?_
  refine r_z 2 ?_
  refine AWp.cond rfl (fun h1 => ?_) (fun h1 => ?_)
  ·have h2 : plC c i (midV s) = 0 := by simpa using h1
   have hx : closV c i s0 (k + 1) = (midV s, midV s) := by rw [hnx]; unfold nextS; rw [if_pos h2]
   refine AWp.reg (m := 3) rfl ?_
   refine c_s (fs_At (midV s)) ?_
   refine a_z ?_
   refine ⟨rfl, k + 1, by omega, hk1, rfl, ?_⟩
   simp only [hx]
   refine SEnt.to [] rfl rfl rfl au_r (fun hs => ?_) (fun hs => ?_)
   ·repeat' (first | exact CvF.nil | refine CvF.cons rfl ?_ ?_)
    all_goals (first | (exact Cv.clo hs (closed_bPl c i)) | exact au_c)
   ·repeat' (first | exact CvH.nil | refine CvH.cons rfl rfl rfl rfl ?_ ?_)
    all_goals (first | exact au_e | (refine CvLL.box ?_; repeat' (first | exact CvL.nil | refine CvL.cons ?_ ?_)))
    all_goals (first | (exact Cv.clo hs (closed_bPl c i)) | exact au_c)
  ·have h2 : ¬ plC c i (midV s) = 0 := by simpa using h1
   refine r_z 2 ?_
   refine AWp.cond rfl (fun h3 => ?_) (fun h3 => ?_)
   ·have h4 : plC c i (midV s) = 1 := by simpa using h3
    have hx : closV c i s0 (k + 1) = (midV s, s.2) := by rw [hnx]; unfold nextS; rw [if_neg h2, if_pos h4]
    refine AWp.reg (m := 3) rfl ?_
    refine a_z ?_
    refine ⟨rfl, k + 1, by omega, hk1, rfl, ?_⟩
    simp only [hx]
    refine SEnt.to [] rfl rfl rfl au_r (fun hs => ?_) (fun hs => ?_)
    ·repeat' (first | exact CvF.nil | refine CvF.cons rfl ?_ ?_)
     all_goals (first | (exact Cv.clo hs (closed_bPl c i)) | exact au_c)
    ·repeat' (first | exact CvH.nil | refine CvH.cons rfl rfl rfl rfl ?_ ?_)
     all_goals (first | exact au_e | (refine CvLL.box ?_; repeat' (first | exact CvL.nil | refine CvL.cons ?_ ?_)))
     all_goals (first | (exact Cv.clo hs (closed_bPl c i)) | exact au_c)
   ·have h4 : ¬ plC c i (midV s) = 1 := by simpa using h3
    have hx : closV c i s0 (k + 1) = (s.1, midV s) := by rw [hnx]; unfold nextS; rw [if_neg h2, if_neg h4]
    refine AWp.reg (m := 3) rfl ?_
    refine a_z ?_
    refine ⟨rfl, k + 1, by omega, hk1, rfl, ?_⟩
    simp only [hx]
    refine SEnt.to [] rfl rfl rfl au_r (fun hs => ?_) (fun hs => ?_)
    ·repeat' (first | exact CvF.nil | refine CvF.cons rfl ?_ ?_)
     all_goals (first | (exact Cv.clo hs (closed_bPl c i)) | exact au_c)
    ·repeat' (first | exact CvH.nil | refine CvH.cons rfl rfl rfl rfl ?_ ?_)
     all_goals (first | exact au_e | (refine CvLL.box ?_; repeat' (first | exact CvL.nil | refine CvL.cons ?_ ?_)))
     all_goals (first | (exact Cv.clo hs (closed_bPl c i)) | exact au_c)
theorem fs_closer (c : Cnt) (i : Int) : FSpec Tryz.prog 281 [plA c i] (.clos 304 [] [bPl c i]) := by
 refine FSpec.enter Tryz.func281 rfl (by kernel_rfl) rfl rfl rfl ?_ rfl ?_
 ·exact closed_cons (closed_plA c i) closed_nil
 refine r_z 2 ?_
 refine r_z 2 ?_
 refine AWp.ret ?_
 refine ⟨.inr rfl, [_], ⟨_, [], rfl, rfl, rfl⟩, ?_⟩
 exact Cv.clos CvL.nil (CvL.cons (Cv.boxp shr_nil rfl (fun _ _ h => by cases h) rfl (closed_cons (closed_plA c i) closed_nil)) CvL.nil)
end Go.Proofs.YtdjfjpeoddmamaaGreatDoor
