/- Part S20 of the proof. -/
import Derived.Test.YtdhedjbmdnnbkaaGreatDoorS19
import Derived.Test.YtdhedjbmdnnbkaaGreatDoorRows
import Derived.JoinedOf
import Derived.SevenTiedAt
set_option linter.all false
namespace Go.Abs
theorem rS_mulE {p a b : List Rat} (h : ∀ x, evalP a x = evalP b x) : rS p a = rS p b := rS_eqv (fun _ => rfl) h
theorem rS_out {p q1 q2 q3 h e : List Rat} (ih : ∀ r, nz r → dg r < dg p → ∀ a b, rS r (mulP a b) = rS r a * rS r b)
    (hp : nz p) (h1 : nz q1) (h3 : nz q3 → dg q3 < dg p) (hd1 : dg q1 < dg p) (he : nz e) (he0 : dg e ≠ 0)
    (hq : ∀ x, evalP q1 x * evalP q2 x = evalP h x * evalP p x + evalP q3 x)
    (d1 : Dv e q1) (d2 : Dv e h) (d3 : Dv e q3) (inner : ∀ a, nz a → dg a < dg q1 → rS p (mulP a q2) = rS p a * rS p q2) : rS p q3 = rS p q1 * rS p q2 := by
 obtain ⟨a, ha⟩ := d1
 obtain ⟨b, hb⟩ := d2
 obtain ⟨c, hc⟩ := d3
 obtain ⟨na, _⟩ := nz_of_mul ha h1
 obtain ⟨_, g2, _⟩ := dg_mul' na he ha
 -- e is taken out of the relation
 have hrel : ∀ x, evalP (mulP a q2) x = evalP b x * evalP p x + evalP c x := by
  by_cases hz : nz (subP (mulP a q2) (addP (mulP b p) c))
  ·exfalso
   obtain ⟨k1, _, _⟩ := dg_mul' hz he (r := []) (fun x => by
    rw [evalP_nil, evalP_sub, evalP_mul, evalP_add, evalP_mul]
    have := hq x
    rw [ha, hb, hc] at this
    grind)
   exact k1 rfl
  ·intro x
   have := not_nz hz x
   rw [evalP_sub, evalP_add, evalP_mul b p] at this
   grind
 have e1 : rS p (mulP a q2) = rS p c := rS_add hp hrel
 have e2 : rS p q1 = rS p a * rS p e := by
  rw [← rS_low ih hp na he (by omega)]
  exact rS_mulE fun x => by rw [ha, evalP_mul]
 have e3 := inner a na (by omega)
 by_cases hz : nz q3
 ·obtain ⟨nc, _⟩ := nz_of_mul hc hz
  obtain ⟨_, f2, _⟩ := dg_mul' nc he hc
  have e4 : rS p q3 = rS p c * rS p e := by
   rw [← rS_low ih hp nc he (by have := h3 hz; omega)]
   exact rS_mulE fun x => by rw [hc, evalP_mul]
  rw [e4, ← e1, e3, e2]; grind
 ·have hc0 : ¬ nz c := fun nc => by
   have := (dg_mul' nc he hc).1
   exact hz this
  have z1 : rS p c = 0 := by
   rw [rS_mulE (b := []) fun x => by rw [not_nz hc0, evalP_nil]]
   exact rS_none hp (by omega) ⟨[], fun x => by rw [evalP_nil]; grind⟩
  have z2 : rS p q3 = 0 := by
   rw [rS_mulE (b := []) fun x => by rw [not_nz hz, evalP_nil]]
   exact rS_none hp (by omega) ⟨[], fun x => by rw [evalP_nil]; grind⟩
  rw [z2, e2]
  rw [e1, z1] at e3
  have : rS p a * rS p e * rS p q2 = rS p a * rS p q2 * rS p e := by grind
  rw [this, ← e3]; grind
theorem rS_neg {q p : List Rat} (hq : nz q) : rS q (scaleP p (-1)) = (-1) ^ dg q * rS q p := rS_kp hq (by grind) fun x => evalP_scale p (-1) x
theorem rS_both {p : List Rat} (ih : ∀ r, nz r → dg r < dg p → ∀ a b, rS r (mulP a b) = rS r a * rS r b) (hp : nz p) : ∀ n q1 q2, dg q1 + dg q2 = n → nz q1 → nz q2 → dg q1 < dg p → dg q2 < dg p → rS p (mulP q1 q2) = rS p q1 * rS p q2 := by
 intro n
 induction n using Nat.strongRecOn with
 | ind n inn =>
  intro q1 q2 hn h1 h2 l1 l2
  obtain ⟨a1, a2, a3⟩ := dg_mul h1 h2
  obtain ⟨m1, m2⟩ := md_spec (mulP q1 q2) hp
  obtain ⟨h, hh⟩ : ∃ h, h = (divP (mulP q1 q2) p).1 := ⟨_, rfl⟩
  obtain ⟨q3, hq3⟩ : ∃ q3, q3 = md (mulP q1 q2) p := ⟨_, rfl⟩
  rw [← hq3] at m2
  rw [← hh, ← hq3] at m1
  have hq : ∀ x, evalP q1 x * evalP q2 x = evalP h x * evalP p x + evalP q3 x := fun x => by rw [← m1, evalP_mul]
  have hL : rS p (mulP q1 q2) = rS p q3 := rS_add hp m1
  by_cases hz : nz h
  rotate_left
  ·-- nothing goes in
   have e : Eqv (mulP q1 q2) q3 := fun x => by rw [m1, not_nz hz]; grind
   have := m2 ((nz_eqv e).1 a1)
   rw [← dg_eqv e, a2] at this
   exact rS_low ih hp h1 h2 this
  -- degrees
  obtain ⟨b1, b2, b3⟩ := dg_mul hz hp
  have hsum : ∀ x, evalP (mulP q1 q2) x = evalP (mulP h p) x + evalP q3 x := fun x => by rw [m1, evalP_mul]
  obtain ⟨_, c2, c3⟩ := dg_add b1 (fun hz3 => by have := m2 hz3; omega) hsum
  have hD : dg q1 + dg q2 = dg h + dg p := by omega
  have hdh : dg h < dg p := by omega
  have k1 : dg q1 ≠ 0 := by omega
  have k2 : dg q2 ≠ 0 := by omega
  have in1 : ∀ a, nz a → dg a < dg q1 → rS p (mulP a q2) = rS p a * rS p q2 := fun a na ha => inn _ (by omega) a q2 rfl na h2 (by omega) l2
  have in2 : ∀ a, nz a → dg a < dg q2 → rS p (mulP a q1) = rS p a * rS p q1 := fun a na ha => inn _ (by omega) a q1 rfl na h1 (by omega) l1
  have hq' : ∀ x, evalP q2 x * evalP q1 x = evalP h x * evalP p x + evalP q3 x := fun x => by rw [← hq]; grind
  -- a common divisor of q1, h, q3, or of q2, h, q3
  have take1 : ∀ e, nz e → dg e ≠ 0 → Dv e q1 → Dv e h → Dv e q3 → rS p (mulP q1 q2) = rS p q1 * rS p q2 := fun e n0 n1 n2 n3 n4 => by
   rw [hL]; exact rS_out ih hp h1 m2 l1 n0 n1 hq n2 n3 n4 in1
  have take2 : ∀ e, nz e → dg e ≠ 0 → Dv e q2 → Dv e h → Dv e q3 → rS p (mulP q1 q2) = rS p q1 * rS p q2 := fun e n0 n1 n2 n3 n4 => by
   rw [hL, rS_out ih hp h2 m2 l2 n0 n1 hq' n2 n3 n4 in2]; grind
  have z0 : ∀ {q x : List Rat}, nz q → dg q ≠ 0 → ¬ nz x → rS q x = 0 := fun {q x} nq d0 nx => by
   rw [rS_mulE (b := []) fun y => by rw [not_nz nx, evalP_nil]]
   exact rS_none nq d0 ⟨[], fun y => by rw [evalP_nil]; grind⟩
  have E1 : rS q1 h * rS q1 p = (-1) ^ dg q1 * rS q1 q3 := by
   rw [← ih q1 h1 l1 h p, ← rS_neg h1]
   exact rS_add (u := q2) h1 fun x => by rw [evalP_mul, evalP_scale]; have := hq x; grind
  have E2 : rS q2 h * rS q2 p = (-1) ^ dg q2 * rS q2 q3 := by
   rw [← ih q2 h2 l2 h p, ← rS_neg h2]
   exact rS_add (u := q1) h2 fun x => by rw [evalP_mul, evalP_scale]; have := hq x; grind
  have E3 : rS h q1 * rS h q2 = rS h q3 := by
   rw [← ih h hz hdh q1 q2]
   exact rS_add (u := p) hz fun x => by rw [m1]; grind
  by_cases hz3 : nz q3
  rotate_left
  ·-- nothing is left
   have hL0 : rS p (mulP q1 q2) = 0 := by rw [hL]; exact z0 hp (by omega) hz3
   rw [z0 h1 k1 hz3, show (-1 : Rat) ^ dg q1 * 0 = 0 by grind] at E1
   rcases Rat.mul_eq_zero.1 E1 with e | e
   ·obtain ⟨d, f1, f2, f3, f4⟩ := rS_common _ q1 h h1 rfl e
    exact take1 d f1 f2 f3 f4 ⟨[], fun x => by rw [not_nz hz3, evalP_nil]; grind⟩
   ·have := rS_rec h1 hp
    have n1 := pow_ne (lead_ne hp) (dg q1)
    rw [e] at this
    have : rS p q1 = 0 := by
     have : leadP p ^ dg q1 * rS p q1 = 0 := by rw [this]; grind
     exact (Rat.mul_eq_zero.1 this).resolve_left n1
    rw [hL0, this]; grind
  have l3 := m2 hz3
  have E4 : rS q3 q1 * rS q3 q2 = rS q3 h * rS q3 p := by
   rw [← ih q3 hz3 l3 q1 q2, ← ih q3 hz3 l3 h p]
   exact rS_add (u := [1]) hz3 fun x => by rw [m1, evalP_mul]; show _ = (0 * x + 1) * _ + _; grind
  by_cases hh0 : rS h q3 = 0
  ·obtain ⟨e, f1, f2, ⟨u, hu⟩, ⟨v, hv⟩⟩ := rS_common _ h q3 hz rfl hh0
   have fe : dg e < dg p := by
    obtain ⟨nu, _⟩ := nz_of_mul hu hz
    have := (dg_mul' nu f1 hu).2.1
    omega
   have trans : ∀ {d x w : List Rat}, Dv d e → (∀ y, evalP x y = evalP w y * evalP e y) → Dv d x := fun {d x w} ⟨t, ht⟩ hw => ⟨mulP w t, fun y => by rw [hw, ht, evalP_mul]; grind⟩
   by_cases g1 : rS e q1 = 0
   ·obtain ⟨d, w1, w2, w3, w4⟩ := rS_common _ e q1 f1 rfl g1
    exact take1 d w1 w2 w4 (trans w3 hu) (trans w3 hv)
   by_cases g2 : rS e q2 = 0
   ·obtain ⟨d, w1, w2, w3, w4⟩ := rS_common _ e q2 f1 rfl g2
    exact take2 d w1 w2 w4 (trans w3 hu) (trans w3 hv)
   exfalso
   have := ih e f1 fe q1 q2
   rw [rS_none f1 f2 ⟨addP (mulP u p) v, fun x => by rw [m1, hu, hv, evalP_add, evalP_mul]; grind⟩] at this
   rcases Rat.mul_eq_zero.1 this.symm with e | e
   ·exact g1 e
   ·exact g2 e
  rw [hL]
  have hLead : leadP q1 * leadP q2 = leadP h * leadP p := by rw [← a3, c3, b3]
  exact (mul_alg hD hLead (lead_ne hp) (lead_ne hz) (lead_ne hz3) hh0 E1 E2 E3 E4 (rS_rec hz h1) (rS_rec hz h2) (rS_rec hz3 h1) (rS_rec hz3 h2) (rS_rec hz3 hz) (rS_rec h1 hp) (rS_rec h2 hp) (rS_rec hz3 hp)).symm
theorem rS_mul : ∀ n p, nz p → dg p = n → ∀ a b, rS p (mulP a b) = rS p a * rS p b := by
 intro n
 induction n using Nat.strongRecOn with
 | ind n ih =>
  intro p hp hn a b
  by_cases h0 : dg p = 0
  ·rw [rS_zero h0, rS_zero h0, rS_zero h0]; grind
  obtain ⟨a1, a2⟩ := md_spec a hp
  obtain ⟨b1, b2⟩ := md_spec b hp
  obtain ⟨u, hu⟩ : ∃ u, u = (divP a p).1 := ⟨_, rfl⟩
  obtain ⟨v, hv⟩ : ∃ v, v = (divP b p).1 := ⟨_, rfl⟩
  obtain ⟨x, hx⟩ : ∃ x, x = md a p := ⟨_, rfl⟩
  obtain ⟨y, hy⟩ : ∃ y, y = md b p := ⟨_, rfl⟩
  rw [← hu, ← hx] at a1
  rw [← hv, ← hy] at b1
  rw [← hx] at a2
  rw [← hy] at b2
  have e1 : rS p a = rS p x := rS_add hp a1
  have e2 : rS p b = rS p y := rS_add hp b1
  have e3 : rS p (mulP a b) = rS p (mulP x y) := rS_add (u := addP (mulP (mulP u v) p) (addP (mulP u y) (mulP v x))) hp fun t => by
   rw [evalP_mul, evalP_mul, a1, b1, evalP_add, evalP_add, evalP_mul, evalP_mul, evalP_mul, evalP_mul]; grind
  have z0 : ∀ {x : List Rat}, (∀ t, evalP x t = 0) → rS p x = 0 := fun {x} nx => by
   rw [rS_mulE (b := []) fun y => by rw [nx, evalP_nil]]
   exact rS_none hp h0 ⟨[], fun y => by rw [evalP_nil]; grind⟩
  by_cases nx : nz x
  ·by_cases ny : nz y
   ·rw [e1, e2, e3]
    exact rS_both (fun r hr hd => ih (dg r) (by omega) r hr rfl) hp _ x y rfl nx ny (a2 nx) (b2 ny)
   ·rw [e2, e3, z0 (not_nz ny), z0 fun t => by rw [evalP_mul, not_nz ny]; grind]; grind
  ·rw [e1, e3, z0 (not_nz nx), z0 fun t => by rw [evalP_mul, not_nz nx]; grind]; grind
theorem degP_dg {p : List Rat} (h : nz p) : degP p = (dg p : Int) := by
 have := List.length_pos_iff.2 h
 unfold degP dg; omega
theorem degP_nil {p : List Rat} : degP p < 0 ↔ ¬ nz p := by
 unfold degP nz
 constructor
 ·intro h e
  have := List.length_pos_iff.2 e
  omega
 ·intro h
  have : trimQ p = [] := Decidable.byContradiction h
  rw [this]; decide
theorem raiM_spec : ∀ f out a n r, raiM f out a n = some r → r = out * a ^ n
 | 0, _, _, _, _, h => by cases h
 | f + 1, out, a, n, r, h => by
  rw [raiM] at h
  split at h
  ·rename_i h0
   cases h
   rw [h0, Rat.pow_zero]; grind
  ·split at h
   ·have := raiM_spec f _ _ _ _ h
    rw [this]
    have e : (a * a) ^ (n / 2) = a ^ (n / 2 + n / 2) := by rw [pow_mul', rat_pow_add]
    rw [e]
    have hn : n = n / 2 + n / 2 + n % 2 := by omega
    rcases Nat.mod_two_eq_zero_or_one n with h2 | h2
    ·rw [if_neg (by omega)]
     conv => rhs; rw [hn, h2, Nat.add_zero]
    ·rw [if_pos h2]
     conv => rhs; rw [hn, h2, Rat.pow_succ]
     grind
   ·cases h
theorem raiM_some : ∀ f out a n O A, n < 2 ^ f → qs out ≤ O → qs a ≤ A → O + 2 * n * A ≤ 549755813888 → ∃ r, raiM (f + 1) out a n = some r ∧ qs r ≤ O + n * A
 | 0, out, a, n, O, A, hn, ho, ha, h => by
  have : n = 0 := by simpa using hn
  subst this
  exact ⟨out, by rw [raiM, if_pos rfl], by omega⟩
 | f + 1, out, a, n, O, A, hn, ho, ha, h => by
  by_cases h0 : n = 0
  ·exact ⟨out, by rw [raiM, if_pos h0], by omega⟩
  rw [raiM, if_neg h0]
  have hn2 : n / 2 < 2 ^ f := by rw [Nat.pow_succ] at hn; omega
  obtain ⟨m, hm⟩ : ∃ m, m = n / 2 := ⟨_, rfl⟩
  have e : n = m + m + n % 2 := by omega
  have hA : n * A = m * A + m * A + (n % 2) * A := by
   conv => lhs; rw [e]
   rw [Nat.add_mul, Nat.add_mul]
  rw [Nat.mul_assoc] at h
  have hA1 : A ≤ n * A := by have := Nat.mul_le_mul_right A (show 1 ≤ n by omega); omega
  rw [if_pos ⟨by omega, by omega⟩, ← hm]
  have h1 : m * (A + A) = m * A + m * A := Nat.mul_add ..
  have h2 : 2 * m * (A + A) = 2 * (m * A) + 2 * (m * A) := by rw [Nat.mul_assoc, h1]; omega
  rcases Nat.mod_two_eq_zero_or_one n with h3 | h3
  ·rw [h3, Nat.zero_mul] at hA
   rw [if_neg (by omega)]
   obtain ⟨r, r1, r2⟩ := raiM_some f out (a * a) m O (A + A) (by omega) ho (by have := qs_mul a a; omega) (by omega)
   exact ⟨r, r1, by omega⟩
  ·rw [h3, Nat.one_mul] at hA
   rw [if_pos h3]
   obtain ⟨r, r1, r2⟩ := raiM_some f (out * a) (a * a) m (O + A) (A + A) (by omega) (by have := qs_mul out a; omega) (by have := qs_mul a a; omega) (by omega)
   exact ⟨r, r1, by omega⟩
def Rr (p q : List Rat) : Rat := leadP p ^ dg q * rS p q
theorem sg_odd (a b : Nat) : sg (a * b) = if a % 2 = 1 ∧ b % 2 = 1 then -1 else 1 := by
 have key : ∀ n, sg n = if n % 2 = 1 then -1 else 1 := by
  intro n
  induction n with
  | zero => unfold sg; rw [Rat.pow_zero]; rfl
  | succ n ih =>
   rw [sg_add, ih]
   have : sg 1 = -1 := by unfold sg; rw [show (1 : Nat) = 0 + 1 from rfl, Rat.pow_succ, Rat.pow_zero]; grind
   rw [this]
   rcases Nat.mod_two_eq_zero_or_one n with h | h
   ·rw [if_neg (by omega), if_pos (by omega)]; grind
   ·rw [if_pos h, if_neg (by omega)]; grind
 rw [key]
 congr 1
 rw [Nat.mul_mod]
 rcases Nat.mod_two_eq_zero_or_one a with h | h <;> rcases Nat.mod_two_eq_zero_or_one b with h' | h' <;> simp [h, h']
theorem Rr_swap {p q : List Rat} (hp : nz p) (hq : nz q) : Rr q p = sg (dg q * dg p) * Rr p q := by
 unfold Rr; rw [rS_rec hp hq]; grind
theorem Rr_step {p q : List Rat} (hp : nz p) (hq : nz q) (h0 : dg q ≠ 0) (hr : nz (md p q)) (hle : dg q ≤ dg p) : Rr p q = sg (dg q * (dg p - dg (md p q))) * leadP q ^ (dg p - dg (md p q)) * Rr (md p q) q := by
 obtain ⟨m1, m2⟩ := md_spec p hq
 have hlt := m2 hr
 obtain ⟨r, hrr⟩ : ∃ r, md p q = r := ⟨_, rfl⟩
 rw [hrr] at m1 hr hlt ⊢
 have e1 : rS q p = rS q r := rS_add hq m1
 have e2 := Rr_swap hp hq
 have e3 := Rr_swap hr hq
 obtain ⟨t, ht⟩ : ∃ t, dg p = dg r + t := ⟨dg p - dg r, by omega⟩
 have e4 : Rr q p = leadP q ^ t * Rr q r := by
  unfold Rr; rw [e1, ht, Nat.add_comm, rat_pow_add]; grind
 rw [show dg p - dg r = t by omega]
 have s1 : sg (dg q * dg p) = sg (dg q * dg r) * sg (dg q * t) := by rw [ht, Nat.mul_add, sg_add]
 have s2 := sg_sq (dg q * dg r)
 have s3 := sg_sq (dg q * t)
 rw [e2, s1] at e4
 rw [e3] at e4
 generalize sg (dg q * dg r) = S1 at *
 generalize sg (dg q * t) = S2 at *
 have : S1 * S2 * (S1 * S2 * Rr p q) = S1 * S2 * (leadP q ^ t * (S1 * Rr r q)) := by rw [e4]
 grind
theorem Rr_zero {p q : List Rat} (hp : nz p) (hq : nz q) (h0 : dg q ≠ 0) (hr : ¬ nz (md p q)) : Rr p q = 0 := by
 have e := Rr_swap hp hq
 have : Rr q p = 0 := by unfold Rr; rw [rS_nil hq h0 hr]; grind
 rw [this] at e
 have s := sg_sq (dg q * dg p)
 have : sg (dg q * dg p) * (sg (dg q * dg p) * Rr p q) = 0 := by rw [← e]; grind
 grind
theorem Rr_const {p q : List Rat} (hp : nz p) (hq : nz q) (h : dg q = 0) : Rr p q = leadP q ^ dg p := by
 unfold Rr; rw [h, Rat.pow_zero, rS_const hp hq h]; grind
theorem mulC_spec {a b r : Rat} (h : mulC a b = some r) : r = a * b := by
 unfold mulC at h; split at h
 ·exact (Option.some.inj h).symm
 ·cases h
theorem odd_toNat {x : Int} {n : Nat} (h : x = n) : x % 2 = 1 ↔ n % 2 = 1 := by subst h; omega
theorem resM_spec : ∀ f out p q r, resM f out p q = some r → nz p → nz q → r = out * Rr p q
 | 0, _, _, _, _, h, _, _ => by cases h
 | f + 1, out, p, q, r, h, hp, hq => by
  rw [resM] at h
  have dp := degP_dg hp
  have dq := degP_dg hq
  split at h
  rotate_left
  ·cases h
  rw [if_neg (by omega)] at h
  split at h
  ·rename_i h0
   obtain ⟨x, hx, hm⟩ := Option.bind_eq_some_iff.1 h
   have e1 := raiM_spec _ _ _ _ _ hx
   have e2 := mulC_spec hm
   rw [e2, e1, Rr_const hp hq (by omega), dp, Int.toNat_natCast]; grind
  ·split at h
   ·have e := resM_spec f _ q p r h hq hp
    rw [e, Rr_swap hp hq, sg_odd]
    have h1 := odd_toNat dp
    have h2 := odd_toNat dq
    by_cases ho : degP p % 2 = 1 ∧ degP q % 2 = 1
    ·rw [if_pos ho, if_pos ⟨h2.1 ho.2, h1.1 ho.1⟩]; grind
    ·rw [if_neg ho, if_neg fun hh => ho ⟨h1.2 hh.2, h2.2 hh.1⟩]; grind
   ·split at h
    ·split at h
     ·rename_i hd
      cases h
      rw [Rr_zero hp hq (by omega) (degP_nil.1 hd)]; grind
     ·rename_i hlt _ hd
      have hr : nz (md p q) := Classical.byContradiction fun e => hd (degP_nil.2 e)
      have dr : degP (divP p q).2 = (dg (md p q) : Int) := degP_dg hr
      have hlt2 := (md_spec p hq).2 hr
      obtain ⟨x, hx, h⟩ := Option.bind_eq_some_iff.1 h
      obtain ⟨y, hy, h⟩ := Option.bind_eq_some_iff.1 h
      have e1 := raiM_spec _ _ _ _ _ hx
      have e2 := mulC_spec hy
      have e := resM_spec f _ (md p q) q r h hr hq
      have hdd : degP p - degP (divP p q).2 = ((dg p - dg (md p q) : Nat) : Int) := by omega
      rw [hdd, Int.toNat_natCast] at e1
      rw [e, Rr_step hp hq (by omega) hr (by omega), sg_odd, e2, e1]
      have h1 := odd_toNat hdd
      have h2 := odd_toNat dq
      by_cases ho : (degP p - degP (divP p q).2) % 2 = 1 ∧ degP q % 2 = 1
      ·rw [if_pos ho, if_pos ⟨h2.1 ho.2, h1.1 ho.1⟩]; grind
      ·rw [if_neg ho, if_neg fun hh => ho ⟨h1.2 hh.2, h2.2 hh.1⟩]; grind
    ·cases h
theorem Rr_mul {p q r : List Rat} (hp : nz p) (hq : nz q) (hr : nz r) : Rr p (mulP q r) = Rr p q * Rr p r := by
 unfold Rr
 rw [rS_mul _ p hp rfl, (dg_mul hq hr).2.1, rat_pow_add]; grind
theorem monic_facts {p : List Rat} (h : nz p) : (∀ x, evalP (monicP p) x = evalP p x * (1 / leadP p)) ∧ nz (monicP p) ∧ dg (monicP p) = dg p := by
 have hl := lead_ne h
 have e : ∀ x, evalP (monicP p) x = evalP p x * (1 / leadP p) := fun x => by unfold monicP; rw [if_neg h, evalP_scale]
 have hk : 1 / leadP p ≠ 0 := fun e => by have : 1 / leadP p * leadP p = 1 := by grind
                                          rw [e] at this; grind
 obtain ⟨a, b, _⟩ := dg_scale h hk e
 exact ⟨e, a, b⟩
theorem gcdM_spec : ∀ f p q g, gcdM f p q = some g → (¬ nz q → nz p → dg g = dg p) ∧ (nz q → (0 < dg g ↔ rS q p = 0))
 | 0, _, _, _, h => by cases h
 | f + 1, p, q, g, h => by
  rw [gcdM] at h
  split at h
  ·rename_i h0
   split at h
   ·cases h
    exact ⟨fun _ hp => (monic_facts hp).2.2, fun hq => absurd h0 hq⟩
   ·cases h
  ·rename_i h0
   refine ⟨fun hq => absurd h0 hq, fun hq => ?_⟩
   split at h
   ·obtain ⟨i1, i2⟩ := gcdM_spec f _ _ _ h
    by_cases hr : nz (md p q)
    ·have hlt := (md_spec p hq).2 hr
     obtain ⟨m1, m2, m3⟩ := monic_facts hr
     have hl := lead_ne hr
     have hk : 1 / leadP (md p q) ≠ 0 := fun e => by have : 1 / leadP (md p q) * leadP (md p q) = 1 := by grind
                                                     rw [e] at this; grind
     have e1 : rS (monicP (divP p q).2) q = rS (md p q) q := rS_kq hr hk m1
     rw [i2 m2, e1, rS_step hq (by omega) hr]
     have n1 := pow_ne (lead_ne hr) (dg q)
     have n2 := pow_ne (lead_ne hq) (dg (md p q))
     have n3 : sg (dg q * dg (md p q)) ≠ 0 := by rcases sg_or (dg q * dg (md p q)) with e | e <;> rw [e] <;> grind
     constructor
     ·intro e; rw [e]; grind
     ·intro e
      rcases Rat.mul_eq_zero.1 e with e | e
      ·exfalso
       have e2 : sg (dg q * dg (md p q)) * leadP (md p q) ^ dg q = 0 := by grind
       rcases Rat.mul_eq_zero.1 e2 with e | e
       ·exact n3 e
       ·exact n1 e
      ·exact e
    ·have hm : ¬ nz (monicP (divP p q).2) := by
      have : trimQ (divP p q).2 = [] := Decidable.byContradiction hr
      unfold monicP; rw [if_pos this]; exact fun e => e rfl
     rw [i1 hm hq]
     by_cases hd : dg q = 0
     ·rw [rS_zero hd, hd]; constructor
      ·intro h; omega
      ·intro h; grind
     ·rw [rS_nil hq hd hr]; constructor
      ·intro _; rfl
      ·intro _; omega
   ·cases h
theorem Rr_iff {p q : List Rat} (hp : nz p) (hq : nz q) : Rr p q = 0 ↔ rS q p = 0 := by
 have e := Rr_swap hp hq
 have s := sg_sq (dg q * dg p)
 have n := pow_ne (lead_ne hq) (dg p)
 have hd : Rr q p = leadP q ^ dg p * rS q p := rfl
 constructor
 ·intro h
  rw [h] at e
  have : leadP q ^ dg p * rS q p = 0 := by rw [← hd, e]; grind
  exact (Rat.mul_eq_zero.1 this).resolve_left n
 ·intro h
  rw [h] at hd
  have : sg (dg q * dg p) * (sg (dg q * dg p) * Rr p q) = 0 := by rw [← e, hd]; grind
  grind
def rB : Nat → Nat → Nat → Nat → Nat → Nat → Bool
 | 0, _, _, _, _, _ => false
 | f + 1, m, n, s, t, o => if n = 1 then decide (o + 1 + 2 * ((m - 1) * t) ≤ 68719476736) else if m < n then rB f n m t s o else
  decide (2 ^ (m + 1 - n) * (s + 2 * t + 1) ≤ 137438953472) && (List.range n).all fun k => k == 0 || (decide (o + 1 + 2 * ((m - k) * t) ≤ 68719476736) && rB f k n (2 ^ (m + 1 - n) * (s + 2 * t + 1)) t (o + 1 + (m - k) * t))
theorem qs_one : qs 1 = 1 := by decide
theorem lead_qs {p : List Rat} {t : Nat} (h : bdL p t) (ht : 1 ≤ t) : qs (leadP p) ≤ t := by
 by_cases h0 : trimQ p = []
 ·rw [leadP_nil h0]; exact Nat.le_trans (by decide : qs 0 ≤ 1) ht
 ·have hl := List.length_pos_iff.2 h0
  exact h _ (trimQ_mem (List.mem_of_getElem? (leadP_get (n := (trimQ p).length - 1) (by omega))))
theorem raiM_ok {a : Rat} {n t o : Nat} (ha : qs a ≤ t) (h : o + 1 + 2 * (n * t) ≤ 68719476736) (hn : n < 2 ^ 63) : ∃ x, raiM 64 1 a n = some x ∧ qs x ≤ 1 + n * t :=
 raiM_some 63 1 a n 1 t hn (by decide) ha (by rw [Nat.mul_assoc]; omega)
theorem resM_some : ∀ f m n s t o (p q : List Rat) (out : Rat), rB f m n s t o = true → (trimQ p).length = m → (trimQ q).length = n → 1 ≤ m → 1 ≤ n → bdL p s → bdL q t → 1 ≤ s → 1 ≤ t → p.length ≤ 1000 → q.length ≤ 1000 → qs out ≤ o →
    ∃ r, resM f out p q = some r ∧ qs r ≤ 68719476736
 | 0, _, _, _, _, _, _, _, _, h, _, _, _, _, _, _, _, _, _, _, _ => by cases h
 | f + 1, m, n, s, t, o, p, q, out, h, hm, hn, hm1, hn1, hp, hq, hs, ht, hp1, hq1, ho => by
  have e1 : degP p = ((m - 1 : Nat) : Int) := by unfold degP; omega
  have e2 : degP q = ((n - 1 : Nat) : Int) := by unfold degP; omega
  have hpl := trimQ_len p
  have hql := trimQ_len q
  rw [rB] at h
  rw [resM, if_pos ⟨by omega, by omega⟩, if_neg (by omega)]
  by_cases h1 : n = 1
  ·rw [if_pos h1] at h
   rw [if_pos (by omega)]
   have h := of_decide_eq_true h
   obtain ⟨x, x1, x2⟩ := raiM_ok (lead_qs hq ht) (n := m - 1) h (by omega)
   rw [e1, Int.toNat_natCast, x1]
   have h2 := qs_mul out x
   refine ⟨out * x, ?_, by omega⟩
   show mulC out x = _
   unfold mulC; rw [if_pos (by omega)]
  rw [if_neg h1] at h
  rw [if_neg (by omega)]
  by_cases h2 : m < n
  ·rw [if_pos h2] at h
   rw [if_pos (by omega)]
   exact resM_some f n m t s o q p _ h hn hm hn1 hm1 hq hp ht hs hq1 hp1 (by split <;> (try rw [qs_neg]) <;> exact ho)
  rw [if_neg h2] at h
  rw [if_neg (by omega)]
  simp only [Bool.and_eq_true, decide_eq_true_eq, List.all_eq_true, List.mem_range, Bool.or_eq_true, beq_iff_eq] at h
  obtain ⟨hL, hk⟩ := h
  have hq0 : trimQ q ≠ [] := fun e => by rw [e] at hn; simp at hn; omega
  have hmp := mxL_le hp hs
  have hmq := mxL_le hq ht
  have hmono : 2 ^ (m + 1 - n) * (mxL p + 2 * mxL q + 1) ≤ 2 ^ (m + 1 - n) * (s + 2 * t + 1) := Nat.mul_le_mul_left _ (by omega)
  rw [if_pos (show okDiv p q from ⟨by rw [hm, hn]; omega, by omega, by omega⟩)]
  obtain ⟨k, hkk⟩ : ∃ k, k = (trimQ (divP p q).2).length := ⟨_, rfl⟩
  have hkn : k < n := by rw [hkk, ← hn]; exact (divP_spec p q hq0).2
  have e3 : degP (divP p q).2 = (k : Int) - 1 := by unfold degP; omega
  by_cases hk0 : k = 0
  ·rw [if_pos (by omega)]; exact ⟨0, rfl, by decide⟩
  rw [if_neg (by omega)]
  obtain ⟨c1, c2⟩ := (hk k hkn).resolve_left hk0
  obtain ⟨x, x1, x2⟩ := raiM_ok (lead_qs hq ht) (n := m - k) c1 (by omega)
  have e4 : (degP p - degP (divP p q).2).toNat = m - k := by omega
  rw [e4, x1]
  have h3 := qs_mul out x
  have hmc : mulC out x = some (out * x) := by unfold mulC; rw [if_pos (by omega)]
  show ∃ r, ((mulC out x).bind fun y => _) = some r ∧ _
  rw [hmc]
  have hb := (divP_bd hp hq hs ht hq0 (by rw [hm, hn]; exact Nat.le_refl _)).2
  have hL1 : 1 ≤ 2 ^ (m + 1 - n) * (s + 2 * t + 1) := Nat.mul_pos (Nat.two_pow_pos _) (by omega)
  have hlen := (divP_len (p := p) (q := q)).2
  exact resM_some f k n _ t _ _ q _ c2 hkk.symm hn (by omega) hn1 hb hq hL1 ht (by omega) hq1 (by split <;> (try rw [qs_neg]) <;> omega)
def gB : Nat → Nat → Nat → Nat → Nat → Bool
 | 0, _, _, _, _ => false
 | f + 1, m, n, s, t => if n = 0 then decide (s ≤ 137438953472) else
  decide (2 ^ (m + 1 - n) * (s + 2 * t + 1) ≤ 137438953472) && (List.range n).all fun k => gB f n k t (2 * (2 ^ (m + 1 - n) * (s + 2 * t + 1)) + 1)
theorem scaleP_nz {p : List Rat} {k : Rat} (hk : k ≠ 0) : (trimQ (scaleP p k)).length = (trimQ p).length := by
 by_cases h : nz p
 ·obtain ⟨a, b, _⟩ := dg_scale h hk (r := scaleP p k) fun x => evalP_scale p k x
  have h1 := List.length_pos_iff.2 a
  have h2 := List.length_pos_iff.2 h
  unfold dg at b; omega
 ·have e : trimQ p = [] := Classical.byContradiction h
  have e2 : trimQ (scaleP p k) = [] := by
   have : Eqv (scaleP p k) [] := fun x => by rw [evalP_scale, not_nz h, evalP_nil]; grind
   exact eqv_trim.1 this
  rw [e, e2]
theorem monicP_bd {r : List Rat} {L : Nat} (h : bdL r L) (hL : 1 ≤ L) : bdL (monicP r) (2 * L + 1) ∧ (trimQ (monicP r)).length = (trimQ r).length ∧ (monicP r).length ≤ r.length := by
 by_cases h0 : trimQ r = []
 ·unfold monicP; rw [if_pos h0, h0]
  exact ⟨fun q hq => (by cases hq), rfl, by simp⟩
 ·have hl := leadP_ne h0
  have hk : 1 / leadP r ≠ 0 := fun e => by have : 1 / leadP r * leadP r = 1 := by grind
                                           rw [e] at this; grind
  refine ⟨?_, ?_, monicP_len r⟩
  ·unfold monicP; rw [if_neg h0]
   have h1 := qs_div 1 (leadP r)
   have h2 := lead_qs h hL
   have h3 := qs_one
   have := scaleP_bd h hL (k := 1 / leadP r) (t := 1 + L) (by omega)
   rwa [show L + (1 + L) = 2 * L + 1 by omega] at this
  ·unfold monicP; rw [if_neg h0]; exact scaleP_nz hk
theorem gcdM_some : ∀ f m n s t (p q : List Rat), gB f m n s t = true → (trimQ p).length = m → (trimQ q).length = n → bdL p s → bdL q t → 1 ≤ s → 1 ≤ t → p.length ≤ 1000 → q.length ≤ 1000 → ∃ g, gcdM f p q = some g ∧ g.length ≤ 1000
 | 0, _, _, _, _, _, _, h, _, _, _, _, _, _, _, _ => by cases h
 | f + 1, m, n, s, t, p, q, h, hm, hn, hp, hq, hs, ht, hp1, hq1 => by
  rw [gB] at h
  rw [gcdM]
  by_cases h0 : n = 0
  ·rw [if_pos h0] at h
   have e : trimQ q = [] := List.length_eq_zero_iff.1 (by omega)
   rw [if_pos e, if_pos (bdL_sm hp (of_decide_eq_true h))]
   exact ⟨_, rfl, Nat.le_trans (monicP_len p) hp1⟩
  rw [if_neg h0] at h
  simp only [Bool.and_eq_true, decide_eq_true_eq, List.all_eq_true, List.mem_range] at h
  obtain ⟨hL, hk⟩ := h
  have hq0 : trimQ q ≠ [] := fun e => by rw [e] at hn; simp at hn; omega
  have hmp := mxL_le hp hs
  have hmq := mxL_le hq ht
  have hmono : 2 ^ (m + 1 - n) * (mxL p + 2 * mxL q + 1) ≤ 2 ^ (m + 1 - n) * (s + 2 * t + 1) := Nat.mul_le_mul_left _ (by omega)
  rw [if_neg hq0, if_pos (show okDiv p q from ⟨by rw [hm, hn]; omega, by omega, by omega⟩)]
  have hb := (divP_bd hp hq hs ht hq0 (by rw [hm, hn]; exact Nat.le_refl _)).2
  have hL1 : 1 ≤ 2 ^ (m + 1 - n) * (s + 2 * t + 1) := Nat.mul_pos (Nat.two_pow_pos _) (by omega)
  obtain ⟨b1, b2, b3⟩ := monicP_bd hb hL1
  have hlen := (divP_len (p := p) (q := q)).2
  have hkn : (trimQ (divP p q).2).length < n := by rw [← hn]; exact (divP_spec p q hq0).2
  exact gcdM_some f n _ t _ q _ (hk _ hkn) hn b2 hq b1 ht (by omega) hq1 (by omega)
theorem rB_all : ((List.range 6).all fun m => (List.range 10).all fun n => m == 0 || n == 0 || rB 40 m n 256 2566 1) = true := by decide +kernel
theorem gB_all : ((List.range 6).all fun m => (List.range 6).all fun n => gB 20 m n 256 256) = true := by decide +kernel
theorem resM_five (p q : List Rat) (hp : bdL p 256) (hq : bdL q 2566) (np : nz p) (nq : nz q) (hp1 : (trimQ p).length ≤ 5) (hq1 : (trimQ q).length ≤ 9) (hpl : p.length ≤ 1000) (hql : q.length ≤ 1000) : ∃ r, resM 40 1 p q = some r ∧ qs r ≤ 68719476736 := by
 have h1 := List.length_pos_iff.2 np
 have h2 := List.length_pos_iff.2 nq
 have := rB_all
 simp only [List.all_eq_true, List.mem_range, Bool.or_eq_true, beq_iff_eq] at this
 refine resM_some 40 _ _ 256 2566 1 p q 1 ?_ rfl rfl h1 h2 hp hq (by decide) (by decide) hpl hql (by decide)
 rcases this (trimQ p).length (by omega) (trimQ q).length (by omega) with (h | h) | h
 ·omega
 ·omega
 ·exact h
theorem gcdM_five (p q : List Rat) (hp : bdL p 256) (hq : bdL q 256) (hp1 : (trimQ p).length ≤ 5) (hq1 : (trimQ q).length ≤ 5) (hpl : p.length ≤ 1000) (hql : q.length ≤ 1000) : ∃ g, gcdM 20 p q = some g ∧ g.length ≤ 1000 := by
 have := gB_all
 simp only [List.all_eq_true, List.mem_range] at this
 exact gcdM_some 20 _ _ 256 256 p q (this _ (by omega) _ (by omega)) rfl rfl hp hq (by decide) (by decide) hpl hql
end Go.Abs
namespace Go.Proofs.YtdhedjbmdnnbkaaGreatDoor
open Go
def mkF (P : Program) (fn : Func) (c : OpenClaim) : Bool := (P.make == some c.make) && (c.kinds == (if c.domain.isEmpty then [] else fn.params.toList.map fun t => match P.underlying t with | some (.int k) => some k | _ => none)) && (c.pinned == c.pinnedBy)
section
variable {P : Program} {f : FuncId} {fn : Func} {s : ChangeSpec} {c : OpenClaim}
theorem joined_of (h1 : c.wf (OpenSpec.ofChange s) = true) (h2 : laidOutB P = true) (h3 : mapsRowed P = true)
    (h4 : fn.params.all (P.readableRec ·) = true) (h5 : namedTie P c.named s.vars = true)
    (h6 : ((c.stops == []) && (P.stops == []) && (c.knobs == []) && (P.stopKnobs == [])) = true)
    (h7 : (c.inPlace == P.inPlace f) = true) (h8 : (c.unfollowed == P.unfollowed f) = true) (h9 : (c.recurses == P.recurses f) = true) (h10 : (c.named == P.varsNamed f) = true)
    (h11 : ((c.maps == (fn.params.toList ++ s.plain.varTypes P).any (P.mapsRec ·)) && (c.ifaces == (fn.params.toList ++ s.plain.varTypes P).any (P.ifacesRec ·)) && (c.mapsOut == P.mapsAmong fn.resultTypes.toList)) = true)
    (h12 : ((c.loops == (fn.params.toList ++ s.plain.varTypes P).any (P.loopsFrom ·)) && (c.wideKeys == (fn.params.toList ++ s.plain.varTypes P ++ fn.resultTypes.toList).any (P.wideKeysFrom ·))) = true)
    (h13 : (s.vars.all (P.varReadable ·) && fn.resultTypes.all (fun t => P.readableRec t && decide (t < P.types.size)) && (c.ifacesOut == fn.resultTypes.toList.any (P.ifacesRec ·)) && (c.loopsOut == fn.resultTypes.toList.any (P.loopsFrom ·)) && (c.plainKeys == P.plainKeys) && c.shortTexts.isNone) = true)
    (h14 : P.stopsHeard = true) (h15 : P.mayEnter = true) (h16 : (c.lifted == P.liftsFinal) = true)
    (h17 : mkF P fn c = true)
    (h18 : ((c.veiled == (fn.params.toList ++ s.plain.varTypes P ++ fn.resultTypes.toList).any (P.veiledRec ·)) && c.veiledFits P fn.params.toList (fn.params.toList ++ s.plain.varTypes P ++ fn.resultTypes.toList)) = true) :
    joinedFacts P f fn s c = true := by
 unfold mkF at h17
 simp only [Bool.and_eq_true] at h6 h11 h12 h13 h17 h18
 simp only [joinedFacts, Bool.and_eq_true]
 and_intros
 all_goals first | assumption | exact h6.1.1.1 | exact h6.1.1.2 | exact h6.1.2 | exact h6.2 | exact h11.1.1 | exact h11.1.2 | exact h11.2 | exact h12.1 | exact h12.2 | exact h13.1.1.1.1.1 | exact h13.1.1.1.1.2 | exact h13.1.1.1.2 | exact h13.1.1.2 | exact h13.1.2 | exact h13.2 | exact h17.1.1 | exact h17.1.2 | exact h17.2 | exact h18.1 | exact h18.2
end
theorem all_lo : laidOutB Tryz.prog = true := by kernel_rfl
theorem all_mr : mapsRowed Tryz.prog = true := by kernel_rfl
theorem all_sh : Tryz.prog.stopsHeard = true := by kernel_rfl
theorem all_me : Tryz.prog.mayEnter = true := by kernel_rfl
theorem all_lk : false = Tryz.prog.looks [] := by kernel_rfl
theorem all_mi : Tryz.prog.mainIs = some (true, ("3282ea10664338544b9e7d29bc655aa318bb5383d19a7a3f41182a047c2a096f" : String).toList) := by kernel_rfl
theorem all_lf : Tryz.prog.liftsFinal = Rows.polyThroughRow.lifted := by kernel_rfl
end Go.Proofs.YtdhedjbmdnnbkaaGreatDoor
