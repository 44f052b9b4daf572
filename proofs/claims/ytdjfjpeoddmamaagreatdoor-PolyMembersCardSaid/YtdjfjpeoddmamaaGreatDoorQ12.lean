/- Part Q12 of the proof. -/
import Derived.Test.YtdjfjpeoddmamaaGreatDoorQ11
set_option linter.all false
namespace Go.Abs
def bdL (l : List Rat) (n : Nat) : Prop := ∀ q ∈ l, qs q ≤ n
instance (l : List Rat) (n : Nat) : Decidable (bdL l n) := inferInstanceAs (Decidable (∀ q ∈ l, qs q ≤ n))
theorem bdL_sm {l : List Rat} {n : Nat} (h : bdL l n) (hn : n ≤ 137438953472) : smL l := fun q hq => Nat.le_trans (h q hq) hn
theorem bdL_co {l : List Rat} {n : Nat} (h : bdL l n) (hn : 1 ≤ n) (i : Nat) : qs (coP l i) ≤ n := by
 unfold coP
 rw [List.getD_eq_getElem?_getD]
 cases hi : l[i]? with
 | none => exact Nat.le_trans (by decide : qs 0 ≤ 1) hn
 | some q => exact h q (List.mem_of_getElem? hi)
def addAt (o : List Rat) (j : Nat) (x : Rat) : List Rat := o.set j (coP o j + x)
def rowP (o : List Rat) (a : Rat) (q : List Rat) (i : Nat) : Nat → List Rat
 | 0 => o
 | k + 1 => addAt (rowP o a q i k) (i + k) (a * coP q k)
def mulR (p q : List Rat) : Nat → List Rat
 | 0 => List.replicate (p.length + q.length - 1) 0
 | i + 1 => if coP p i = 0 then mulR p q i else rowP (mulR p q i) (coP p i) q i q.length
def mulP (p q : List Rat) : List Rat := if p = [] ∨ q = [] then [] else trimQ (mulR p q p.length)
@[simp] theorem addAt_length (o : List Rat) (j : Nat) (x : Rat) : (addAt o j x).length = o.length := by simp [addAt]
@[simp] theorem rowP_length (o : List Rat) (a : Rat) (q : List Rat) (i k : Nat) : (rowP o a q i k).length = o.length := by
 induction k with
 | zero => rfl
 | succ k ih => rw [rowP, addAt_length, ih]
@[simp] theorem mulR_length (p q : List Rat) (i : Nat) : (mulR p q i).length = p.length + q.length - 1 := by
 induction i with
 | zero => simp [mulR]
 | succ i ih => rw [mulR]; split <;> simp [ih]
theorem coP_addAt (o : List Rat) (j n : Nat) (x : Rat) : coP (addAt o j x) n = if n = j ∧ j < o.length then coP o j + x else coP o n := by
 unfold addAt coP
 rw [List.getD_eq_getElem?_getD, List.getElem?_set, List.getD_eq_getElem?_getD, List.getD_eq_getElem?_getD]
 by_cases h : j = n
 ·subst h
  by_cases h2 : j < o.length
  ·simp [h2]
  ·simp [h2]
 ·rw [if_neg h, if_neg (by omega)]
theorem coP_bd {o : List Rat} {n : Nat} (h : ∀ i, qs (coP o i) ≤ n) : bdL o n := by
 intro q hq
 obtain ⟨i, hi, rfl⟩ := List.getElem_of_mem hq
 have := h i
 unfold coP at this
 rwa [List.getD_eq_getElem?_getD, List.getElem?_eq_getElem hi] at this
theorem rowP_out (o : List Rat) (a : Rat) (q : List Rat) (i k n : Nat) (h : n < i ∨ i + k ≤ n) : coP (rowP o a q i k) n = coP o n := by
 induction k with
 | zero => rfl
 | succ k ih => rw [rowP, coP_addAt, if_neg (by omega), ih (by omega)]
theorem rowP_bd {o : List Rat} {a : Rat} {q : List Rat} {B s t : Nat} (i : Nat) (ho : ∀ n, qs (coP o n) ≤ B) (ha : qs a ≤ s) (hq : ∀ n, qs (coP q n) ≤ t) : ∀ k n, qs (coP (rowP o a q i k) n) ≤ B + (s + t + 1)
 | 0, n => Nat.le_trans (ho n) (by omega)
 | k + 1, n => by
  rw [rowP, coP_addAt]
  split
  ·rw [rowP_out o a q i k (i + k) (by omega)]
   have h1 := qs_add (coP o (i + k)) (a * coP q k)
   have h2 := qs_mul a (coP q k)
   have h3 := ho (i + k)
   have h4 := hq k
   omega
  ·exact rowP_bd i ho ha hq k n
theorem mulR_bd {p q : List Rat} {s t : Nat} (hp : ∀ n, qs (coP p n) ≤ s) (hq : ∀ n, qs (coP q n) ≤ t) : ∀ i n, qs (coP (mulR p q i) n) ≤ i * (s + t + 1) + 1
 | 0, n => by
  have : coP (mulR p q 0) n = 0 := by
   unfold mulR coP
   rw [List.getD_eq_getElem?_getD, List.getElem?_replicate]
   split <;> rfl
  rw [this]
  exact Nat.le_add_left 1 _
 | i + 1, n => by
  rw [mulR, Nat.add_mul, Nat.one_mul]
  split
  ·have := mulR_bd hp hq i n; omega
  ·have := rowP_bd (B := i * (s + t + 1) + 1) i (mulR_bd hp hq i) (hp i) hq q.length n
   omega
theorem mulP_bd {p q : List Rat} {s t : Nat} (hp : bdL p s) (hq : bdL q t) (hs : 1 ≤ s) (ht : 1 ≤ t) : bdL (mulP p q) (p.length * (s + t + 1) + 1) := by
 unfold mulP
 split
 ·intro q hq; cases hq
 ·intro x hx
  exact coP_bd (mulR_bd (bdL_co hp hs) (bdL_co hq ht) p.length) x (trimQ_mem hx)
theorem CvLL.zeros {r : Ren} {hp hp' : Nat → Option ABlk} (h : Shr r hp hp') (n : Nat) : CvLL r hp hp' (List.replicate n zC) (pE (List.replicate n 0)) := by
 induction n with
 | zero => rfl
 | succ n ih =>
  refine ⟨qC 0, _, rfl, ?_, ih⟩
  rw [qC0]
  exact CvL.cons (Cv.emp _) (CvL.cons (Cv.clo h (closed_v _)) (CvL.cons (Cv.emp _) CvL.nil))
def subAt (o : List Rat) (j : Nat) (x : Rat) : List Rat := o.set j (coP o j - x)
def rowM (o : List Rat) (k : Rat) (q : List Rat) (n : Nat) : Nat → List Rat
 | 0 => o
 | i + 1 => subAt (rowM o k q n i) (n + i) (k * coP q i)
def divR (q : List Rat) (lead : Rat) : Nat → List Rat → List Rat → List Rat × List Rat
 | 0, u, o => (u, o)
 | n + 1, u, o => divR q lead n (u.set n (coP o (n + q.length - 1) / lead)) (if coP o (n + q.length - 1) / lead = 0 then o else rowM o (coP o (n + q.length - 1) / lead) q n q.length)
def divP (p q : List Rat) : List Rat × List Rat :=
 let r := divR (trimQ q) (leadP q) ((trimQ p).length + 1 - (trimQ q).length) (List.replicate ((trimQ p).length + 1 - (trimQ q).length) 0) (trimQ p)
 (trimQ r.1, trimQ r.2)
@[simp] theorem subAt_length (o : List Rat) (j : Nat) (x : Rat) : (subAt o j x).length = o.length := by simp [subAt]
@[simp] theorem rowM_length (o : List Rat) (a : Rat) (q : List Rat) (i k : Nat) : (rowM o a q i k).length = o.length := by
 induction k with
 | zero => rfl
 | succ k ih => rw [rowM, subAt_length, ih]
theorem divR_length (q : List Rat) (lead : Rat) : ∀ c u o, (divR q lead c u o).1.length = u.length ∧ (divR q lead c u o).2.length = o.length
 | 0, u, o => ⟨rfl, rfl⟩
 | n + 1, u, o => by
  rw [divR]
  refine ⟨(divR_length q lead n _ _).1.trans (by simp), (divR_length q lead n _ _).2.trans ?_⟩
  split <;> simp
theorem coP_set (o : List Rat) (j n : Nat) (x : Rat) : coP (o.set j x) n = if n = j ∧ j < o.length then x else coP o n := by
 unfold coP
 rw [List.getD_eq_getElem?_getD, List.getElem?_set, List.getD_eq_getElem?_getD]
 by_cases h : j = n
 ·subst h
  by_cases h2 : j < o.length
  ·simp [h2]
  ·simp [h2]
 ·rw [if_neg h, if_neg (by omega)]
theorem coP_subAt (o : List Rat) (j n : Nat) (x : Rat) : coP (subAt o j x) n = if n = j ∧ j < o.length then coP o j - x else coP o n := coP_set o j n _
theorem rowM_out (o : List Rat) (a : Rat) (q : List Rat) (i k n : Nat) (h : n < i ∨ i + k ≤ n) : coP (rowM o a q i k) n = coP o n := by
 induction k with
 | zero => rfl
 | succ k ih => rw [rowM, coP_subAt, if_neg (by omega), ih (by omega)]
theorem rowM_bd {o : List Rat} {a : Rat} {q : List Rat} {B s t : Nat} (i : Nat) (ho : ∀ n, qs (coP o n) ≤ B) (ha : qs a ≤ s) (hq : ∀ n, qs (coP q n) ≤ t) : ∀ k n, qs (coP (rowM o a q i k) n) ≤ B + (s + t + 1)
 | 0, n => Nat.le_trans (ho n) (by omega)
 | k + 1, n => by
  rw [rowM, coP_subAt]
  split
  ·rw [rowM_out o a q i k (i + k) (by omega)]
   have h1 := qs_sub (coP o (i + k)) (a * coP q k)
   have h2 := qs_mul a (coP q k)
   have h3 := ho (i + k)
   have h4 := hq k
   omega
  ·exact rowM_bd i ho ha hq k n
def divB (q : List Rat) (lead : Rat) (L c : Nat) (u o : List Rat) : Prop :=
 ∃ B t, (∀ n, qs (coP o n) ≤ B) ∧ (∀ n, qs (coP q n) ≤ t) ∧ qs lead ≤ t ∧ 1 ≤ t ∧ (∀ n, qs (coP u n) ≤ L) ∧ 2 ^ c * (B + 2 * t + 1) ≤ L
theorem divB_cur {q : List Rat} {lead : Rat} {L c : Nat} {u o : List Rat} (h : divB q lead L c u o) : ∃ B t, (∀ n, qs (coP o n) ≤ B) ∧ (∀ n, qs (coP q n) ≤ t) ∧ qs lead ≤ t ∧ B + 2 * t + 1 ≤ L := by
 obtain ⟨B, t, h1, h2, h3, h4, h5, h6⟩ := h
 refine ⟨B, t, h1, h2, h3, Nat.le_trans ?_ h6⟩
 have := Nat.mul_le_mul_right (B + 2 * t + 1) (Nat.one_le_two_pow (n := c))
 omega
theorem divB_step {q : List Rat} {lead : Rat} {L n : Nat} {u o : List Rat} (h : divB q lead L (n + 1) u o) :
    divB q lead L n (u.set n (coP o (n + q.length - 1) / lead)) (if coP o (n + q.length - 1) / lead = 0 then o else rowM o (coP o (n + q.length - 1) / lead) q n q.length) := by
 obtain ⟨B, t, h1, h2, h3, h4, h5, h6⟩ := h
 obtain ⟨k, hk⟩ : ∃ k, k = coP o (n + q.length - 1) / lead := ⟨_, rfl⟩
 have hkb : qs k ≤ B + t := by
  have e1 := qs_div (coP o (n + q.length - 1)) lead
  have e2 := h1 (n + q.length - 1)
  rw [hk]; omega
 rw [← hk]
 obtain ⟨W, hW⟩ : ∃ W, W = 2 ^ n := ⟨_, rfl⟩
 have hW1 : 1 ≤ W := by rw [hW]; exact Nat.one_le_two_pow
 rw [Nat.pow_succ, ← hW] at h6
 have h7 : W * (2 * B + 2 * t + 1 + 2 * t + 1) ≤ L := by
  rw [Nat.mul_assoc] at h6
  have e : 2 * B + 2 * t + 1 + 2 * t + 1 = 2 * (B + 2 * t + 1) := by omega
  rw [e]; exact h6
 have h8 : 2 * B + 2 * t + 1 + 2 * t + 1 ≤ L := by
  have := Nat.mul_le_mul_right (2 * B + 2 * t + 1 + 2 * t + 1) hW1
  omega
 refine ⟨2 * B + 2 * t + 1, t, fun j => ?_, h2, h3, h4, fun j => ?_, by rw [← hW]; exact h7⟩
 ·split
  ·have := h1 j; omega
  ·have := rowM_bd n h1 hkb h2 q.length j; omega
 ·rw [coP_set]
  split
  ·omega
  ·exact h5 j
theorem divR_bd {q : List Rat} {lead : Rat} {L : Nat} : ∀ {c u o}, divB q lead L c u o → (∀ n, qs (coP (divR q lead c u o).1 n) ≤ L) ∧ (∀ n, qs (coP (divR q lead c u o).2 n) ≤ L)
 | 0, u, o, h => by
  obtain ⟨B, t, h1, h2, h3, h6⟩ := divB_cur h
  obtain ⟨_, _, _, _, _, _, h5, _⟩ := h
  exact ⟨h5, fun n => Nat.le_trans (h1 n) (by omega)⟩
 | n + 1, u, o, h => divR_bd (c := n) (divB_step h)
def mxL (l : List Rat) : Nat := l.foldr (fun q n => max (qs q) n) 1
theorem mxL_pos (l : List Rat) : 1 ≤ mxL l := by
 induction l with
 | nil => exact Nat.le_refl _
 | cons q l ih => exact Nat.le_trans ih (Nat.le_max_right _ _)
theorem bdL_mx (l : List Rat) : bdL l (mxL l) := by
 induction l with
 | nil => intro q hq; cases hq
 | cons a l ih =>
  intro q hq
  rcases List.mem_cons.1 hq with rfl | hq
  ·exact Nat.le_max_left _ _
  ·exact Nat.le_trans (ih q hq) (Nat.le_max_right _ _)
def okDiv (p q : List Rat) : Prop := 2 ^ ((trimQ p).length + 1 - (trimQ q).length) * (mxL p + 2 * mxL q + 1) ≤ 137438953472 ∧ p.length ≤ 274877906944 ∧ q.length ≤ 274877906944
instance (p q : List Rat) : Decidable (okDiv p q) := inferInstanceAs (Decidable (_ ∧ _ ∧ _))
theorem divB_start {p q : List Rat} {s t L : Nat} (hp : bdL p s) (hq : bdL q t) (hs : 1 ≤ s) (ht : 1 ≤ t) (hq0 : trimQ q ≠ []) (m : Nat) (h : 2 ^ m * (s + 2 * t + 1) ≤ L) : divB (trimQ q) (leadP q) L m (List.replicate m 0) (trimQ p) := by
 have hL : 1 ≤ L := by
  have h3 := Nat.mul_le_mul_right (s + 2 * t + 1) (Nat.one_le_two_pow (n := m))
  omega
 have hql := List.length_pos_iff.2 hq0
 refine ⟨s, t, bdL_co (fun x hx => hp x (trimQ_mem hx)) hs, bdL_co (fun x hx => hq x (trimQ_mem hx)) ht, hq _ (trimQ_mem (List.mem_of_getElem? (leadP_get (n := (trimQ q).length - 1) (by omega)))), ht, fun n => ?_, h⟩
 have : coP (List.replicate m 0) n = 0 := by
  unfold coP
  rw [List.getD_eq_getElem?_getD, List.getElem?_replicate]
  split <;> rfl
 rw [this]
 exact Nat.le_trans (by decide : qs 0 ≤ 1) hL
theorem divP_bd {p q : List Rat} {s t L : Nat} (hp : bdL p s) (hq : bdL q t) (hs : 1 ≤ s) (ht : 1 ≤ t) (hq0 : trimQ q ≠ []) (h : 2 ^ ((trimQ p).length + 1 - (trimQ q).length) * (s + 2 * t + 1) ≤ L) : bdL (divP p q).1 L ∧ bdL (divP p q).2 L := by
 have := divR_bd (divB_start hp hq hs ht hq0 _ h)
 exact ⟨fun x hx => coP_bd this.1 x (trimQ_mem hx), fun x hx => coP_bd this.2 x (trimQ_mem hx)⟩
theorem divP_sm {p q : List Rat} (h : okDiv p q) (hq0 : trimQ q ≠ []) : smL (divP p q).1 ∧ smL (divP p q).2 :=
 have := divP_bd (bdL_mx p) (bdL_mx q) (mxL_pos p) (mxL_pos q) hq0 h.1
 ⟨bdL_sm this.1 (Nat.le_refl _), bdL_sm this.2 (Nat.le_refl _)⟩
theorem divP_len {p q : List Rat} : (divP p q).1.length ≤ p.length + 1 ∧ (divP p q).2.length ≤ p.length := by
 have h1 := divR_length (trimQ q) (leadP q) ((trimQ p).length + 1 - (trimQ q).length) (List.replicate ((trimQ p).length + 1 - (trimQ q).length) 0) (trimQ p)
 have h2 := trimQ_len p
 have h3 := trimQ_len (divR (trimQ q) (leadP q) ((trimQ p).length + 1 - (trimQ q).length) (List.replicate ((trimQ p).length + 1 - (trimQ q).length) 0) (trimQ p)).1
 have h4 := trimQ_len (divR (trimQ q) (leadP q) ((trimQ p).length + 1 - (trimQ q).length) (List.replicate ((trimQ p).length + 1 - (trimQ q).length) 0) (trimQ p)).2
 rw [h1.1, List.length_replicate] at h3
 rw [h1.2] at h4
 exact ⟨by unfold divP; simp only; omega, by unfold divP; simp only; omega⟩
theorem scaleP_len (p : List Rat) (k : Rat) : (scaleP p k).length ≤ p.length := by
 have := trimQ_len (tabP p.length fun i => coP p i * k)
 simpa [scaleP] using this
theorem monicP_len (p : List Rat) : (monicP p).length ≤ p.length := by
 unfold monicP; split
 ·simp
 ·exact scaleP_len _ _
def gcdM : Nat → List Rat → List Rat → Option (List Rat)
 | 0, _, _ => none
 | f + 1, p, q => if trimQ q = [] then (if smL p then some (monicP p) else none) else if okDiv p q then gcdM f q (monicP (divP p q).2) else none
def raiM : Nat → Rat → Rat → Nat → Option Rat
 | 0, _, _, _ => none
 | f + 1, out, a, n => if n = 0 then some out else if qs out + qs a ≤ 549755813888 ∧ qs a + qs a ≤ 549755813888 then raiM f (if n % 2 = 1 then out * a else out) (a * a) (n / 2) else none
def mulC (a b : Rat) : Option Rat := if qs a + qs b ≤ 549755813888 then some (a * b) else none
def resM : Nat → Rat → List Rat → List Rat → Option Rat
 | 0, _, _, _ => none
 | f + 1, out, p, q =>
  if p.length ≤ 274877906944 ∧ q.length ≤ 274877906944 then
   if degP p < 0 ∨ degP q < 0 then some 0
   else if degP q = 0 then (raiM 64 1 (leadP q) (degP p).toNat).bind (mulC out)
   else if degP p < degP q then resM f (if degP p % 2 = 1 ∧ degP q % 2 = 1 then -out else out) q p
   else if okDiv p q then
    if degP (divP p q).2 < 0 then some 0
    else (raiM 64 1 (leadP q) (degP p - degP (divP p q).2).toNat).bind fun x => (mulC out x).bind fun y =>
     resM f (if (degP p - degP (divP p q).2) % 2 = 1 ∧ degP q % 2 = 1 then -y else y) (divP p q).2 q
   else none
  else none
end Go.Abs
namespace Go.Proofs.YtdjfjpeoddmamaaGreatDoor
open Go.Abs
set_option maxRecDepth 20000
theorem fs_Clone (l : List Rat) (hl : l.length ≤ 1099511627776) : FSpec Tryz.prog 184 [.arr (pE l)] (.arr (pE l)) := by
 cases l with
 | nil =>
  refine FSpec.nil1 fun a c => ?_
  refine FSpec.enter Tryz.func184 rfl (by kernel_rfl) rfl rfl rfl ?_ rfl ?_
  ·exact closed_cons (closed_v _) closed_nil
  refine r_z 1 ?_
  refine AWp.seq ?_
  refine r_z 2 ?_
  refine AWp.cond rfl (fun h => ?_) (fun h => ?_)
  ·refine r_z 1 ?_
   refine AWp.ret ?_
   exact Fin.tmpN rfl
  ·refine AWp.skip ?_
   refine s_r 4 ?_
   refine a_2 ?_
   refine o_2 (.append_l rfl rfl rfl te_55.h rfl rfl rfl rfl rfl (by first | rfl | assumption | (simp; done) | (simp; omega) | omega) (by first | exact dE_one _ | exact iE_one _ | exact pE_one _ | exact cE_one _ | exact rE_one _ | assumption | rfl | simp) (by first | rfl | exact dE_one _ | exact iE_one _ | exact pE_one _ | exact cE_one _ | exact rE_one _ | simp) rfl (.vnil) tz_35.h rfl tb_35.h (by first | rfl | assumption | (simp; done) | (simp; omega) | omega) (by first | (simp [maxLen]; done) | (simp [maxLen]; omega))) ?_
   refine a_z ?_
   refine AWp.ret ?_
   exact Fin.tmpS rfl rfl rfl rfl (closed_pE [])
 | cons q l =>
  have hne : pE (q :: l) ≠ [] := by simp [pE]
  simp at hl
  refine FSpec.enter Tryz.func184 rfl (by kernel_rfl) rfl rfl rfl ?_ rfl ?_
  ·exact closed_cons (closed_arr (closed_pE _)) closed_nil
  refine r_z 1 ?_
  refine AWp.seq ?_
  refine s_r 2 ?_
  refine a_1 ?_
  first | refine AR.op0 (.nilq_v rfl rfl te_55.h) rfl rfl ?_ | refine AR.op0 (.nilq_arr rfl (hne) rfl te_55.h) rfl rfl ?_
  refine AR.nil ?_
  refine AWp.cond rfl (fun h => ?_) (fun h => ?_)
  ·cases h
  ·refine AWp.skip ?_
   refine s_r 4 ?_
   refine a_2 ?_
   refine o_2 (.append_l rfl rfl rfl te_55.h rfl rfl rfl rfl rfl (by first | rfl | assumption | (simp; done) | (simp; omega) | omega) (by first | exact dE_one _ | exact iE_one _ | exact pE_one _ | exact cE_one _ | exact rE_one _ | assumption | rfl | simp) (by first | rfl | exact dE_one _ | exact iE_one _ | exact pE_one _ | exact cE_one _ | exact rE_one _ | simp) rfl (.arr (pE_len3 _)) tz_35.h rfl tb_35.h (by first | rfl | assumption | (simp; done) | (simp; omega) | omega) (by first | (simp [maxLen]; done) | (simp [maxLen]; omega))) ?_
   refine a_z ?_
   refine AWp.ret ?_
   exact Fin.tmpS rfl rfl rfl (by simp) (closed_pE _)
def trS (l : List Rat) : Nat → AState
 | n => ⟨[(0, .arr (pE l)), (3, i64 n)], [], 1, 23⟩
theorem trS_mk (l : List Rat) (n : Nat) : trS l n = ⟨[(0, .arr (pE l)), (3, i64 n)], [], 1, 23⟩ := rfl
theorem fs_Trim (l : List Rat) (hl : l.length ≤ 1099511627776) : FSpec Tryz.prog 99 [.arr (pE l)] (.arr (pE (trimQ l))) := by
 refine FSpec.enter Tryz.func99 rfl (by kernel_rfl) rfl rfl rfl ?_ rfl ?_
 ·exact closed_cons (closed_arr (closed_pE _)) closed_nil
 refine r_z 1 ?_
 refine r_z 3 ?_
 refine AWp.cut (trS l) (fun n => n ≤ l.length ∧ trimQ l = l.take n) ?_ ?_
 ·refine AWp.block ?_
  refine AWp.loopS (trS l) (fun n => n) (fun n => n ≤ l.length ∧ trimQ l = trimQ (l.take n)) l.length ⟨Nat.le_refl _, by rw [List.take_length]⟩ ?_ ?_
  ·simp only [trS_mk]
   exact s_e []
  rintro n ⟨hn, ht⟩
  rw [trS_mk]
  cases n with
  | zero =>
   refine AWp.seq ?_
   refine s_r 11 ?_
   refine a_3 ?_
   refine AR.opN rfl rfl (gn (by simp)) rfl rfl ?_
   refine AR.opN rfl rfl (gn (by simp)) rfl rfl ?_
   refine AR.opN rfl rfl (gn (by simp)) rfl rfl ?_
   refine AR.opN rfl rfl (gn (by simp)) rfl rfl ?_
   refine AR.opN rfl rfl (gn (by simp)) rfl rfl ?_
   refine AR.opN rfl rfl (gn (by simp)) rfl rfl ?_
   refine AR.opN rfl rfl (gn (by simp)) rfl rfl ?_
   refine o_0 (.pickF rfl (by simp) rfl) ?_
   refine AR.nil ?_
   refine AWp.cond rfl (fun h => ?_) (fun h => ?_)
   ·cases h
   ·refine AWp.exit ⟨0, ⟨Nat.zero_le _, ?_⟩, ?_⟩
    ·rw [ht]; rfl
    ·simp only [trS_mk]
     exact s_e []
  | succ n =>
   obtain ⟨q, hq⟩ : ∃ q, l[n]? = some q := ⟨_, List.getElem?_eq_getElem (by omega)⟩
   have hq' : (pE l)[(((n + 1 : Nat) : Int) - 1).toNat]? = some (qC q) := by
    rw [show (((n + 1 : Nat) : Int) - 1).toNat = n by omega]; exact pE_get hq
   have hs : trimQ (l.take (n + 1)) = if q = 0 then trimQ (l.take n) else l.take (n + 1) := by
    rw [take_snoc hq, trimQ_snoc]
   refine AWp.seq ?_
   refine s_r 11 ?_
   refine a_3 ?_
   refine AR.op0y rfl rfl (gy (by simp <;> omega)) (.move rfl) rfl rfl ?_
   refine AR.op0y rfl rfl (gy (by simp <;> omega)) (.move rfl) rfl rfl ?_
   refine AR.op0y rfl rfl (gy (by simp <;> omega)) (.bin rfl rfl (bI64_sub (by omega))) rfl rfl ?_
   first | refine AR.op0y rfl rfl (gy (by simp <;> omega)) (.index_l rfl rfl (by omega) (by omega) te_55.h) rfl rfl ?_ | refine AR.op0y rfl rfl (gy (by simp <;> omega)) (.index_a rfl rfl (by omega) hq' rfl te_55.h) rfl rfl ?_
   first | refine AR.op0y rfl rfl (gy (by simp <;> omega)) (.load_l rfl rfl hq' tg_35.h ts_35.h (nle rfl)) rfl rfl ?_ | refine AR.op0y rfl rfl (gy (by simp <;> omega)) (.load_a rfl hq' tg_35.h ts_35.h (nle rfl)) rfl rfl ?_
   refine AR.op0y rfl rfl (gy (by simp <;> omega)) (.call rfl rfl rfl (fs_Sign q)) rfl rfl ?_
   refine AR.op0y rfl rfl (gy (by simp <;> omega)) (.bin rfl rfl binI_eql) rfl rfl ?_
   refine o_0 (.pickT rfl (by simp <;> omega) rfl) ?_
   refine AR.nil ?_
   refine AWp.cond rfl (fun h => ?_) (fun h => ?_)
   ·have h0 : q = 0 := by
     have h1 : sgZ q.num = 0 := by simpa using h
     exact sgZ_num_eq.1 h1
    refine AWp.skip ?_
    refine AWp.block ?_
    refine AWp.reg (m := 3) rfl ?_
    refine a_z ?_
    refine ⟨n, Nat.lt_succ_self n, ⟨by omega, ?_⟩, ?_⟩
    ·rw [ht, hs, if_pos h0]
    ·simp only [trS_mk]
     exact s_e []
   ·have h0 : q ≠ 0 := by
     intro e
     have h1 : ¬ sgZ q.num = 0 := by simpa using h
     exact h1 (sgZ_num_eq.2 e)
    refine AWp.exit ⟨n + 1, ⟨hn, ?_⟩, ?_⟩
    ·rw [ht, hs, if_neg h0]
    ·simp only [trS_mk]
     exact s_e []
 rintro n ⟨hn, ht⟩
 rw [trS_mk]
 have hcl := fs_Clone (l.take n) (by simp; omega)
 refine s_r 5 ?_
 refine a_2 ?_
 refine o_0 (.sa_h rfl rfl (h := n) rfl (by simp; omega) te_55.h (pE_len3 _)) ?_
 refine o_0 (.call rfl rfl rfl ((by rw [pE_take]; exact hcl))) ?_
 refine o_0 (.assign rfl) ?_
 refine AR.nil ?_
 refine AWp.ret ?_
 refine Fin.tmpE rfl ?_ ?_
 ·rw [ht]
 ·exact closed_arr (closed_pE _)
theorem fs_Degree (l : List Rat) (hl : l.length ≤ 1099511627776) : FSpec Tryz.prog 66 [.arr (pE l)] (i64 (degP l)) := by
 have := trimQ_len l
 refine FSpec.enter Tryz.func66 rfl (by kernel_rfl) rfl rfl rfl ?_ rfl ?_
 ·exact closed_cons (closed_arr (closed_pE _)) closed_nil
 refine r_z 1 ?_
 refine r_c 5 (fs_Trim l hl) ?_
 refine a_z ?_
 refine AWp.ret ?_
 refine Fin.tmpE rfl ?_ ?_
 ·rfl
 ·exact closed_v _
theorem fs_Lead (l : List Rat) (hl : l.length ≤ 1099511627776) : FSpec Tryz.prog 183 [.arr (pE l)] (.agg (qC (leadP l))) := by
 have hlen := trimQ_len l
 refine FSpec.enter Tryz.func183 rfl (by kernel_rfl) rfl rfl rfl ?_ rfl ?_
 ·exact closed_cons (closed_arr (closed_pE _)) closed_nil
 refine r_z 1 ?_
 refine r_c 3 (fs_Trim l hl) ?_
 refine a_z ?_
 refine AWp.seq ?_
 refine r_z 3 ?_
 refine AWp.cond rfl (fun h => ?_) (fun h => ?_)
 ·have h0 : trimQ l = [] := by
   have h1 : (trimQ l).length = 0 := by simpa using h
   exact List.length_eq_zero_iff.1 h1
  rw [leadP_nil h0]
  refine r_z 2 ?_
  refine AWp.ret ?_
  refine Fin.cell rfl rfl rfl tg_35.h ts_35.h (nle rfl) (Cv.agg ?_)
  rw [qC0]
  exact CvL.cons (Cv.emp _) (CvL.cons (Cv.clo shr_nil (closed_v _)) (CvL.cons (Cv.emp _) CvL.nil))
 ·obtain ⟨n, hn⟩ : ∃ n, (trimQ l).length = n + 1 := ⟨(trimQ l).length - 1, by
   have h1 : ¬ (trimQ l).length = 0 := by simpa using h
   omega⟩
  have hg : (pE (trimQ l))[(((trimQ l).length : Int) - 1).toNat]? = some (qC (leadP l)) := by
   rw [hn, show (((n + 1 : Nat) : Int) - 1).toNat = n by omega]; exact pE_get (leadP_get hn)
  refine AWp.skip ?_
  refine s_r 7 ?_
  refine a_4 ?_
  first | refine AR.op0 (.index_l rfl rfl (by omega) (by omega) te_55.h) rfl rfl ?_ | refine AR.op0 (.index_a rfl rfl (by omega) hg rfl te_55.h) rfl rfl ?_
  first | refine AR.op0 (.load_l rfl rfl hg tg_35.h ts_35.h (nle rfl)) rfl rfl ?_ | refine AR.op0 (.load_a rfl hg tg_35.h ts_35.h (nle rfl)) rfl rfl ?_
  refine a_z ?_
  refine AWp.ret ?_
  refine Fin.cellE rfl rfl rfl tg_35.h ts_35.h (nle rfl) ?_ ?_
  ·rfl
  ·exact closed_qA _
theorem fs_at (l : List Rat) (i : Nat) : FSpec Tryz.prog 238 [.arr (pE l), i64 i] (.agg (qC (coP l i))) := by
 refine FSpec.enter Tryz.func238 rfl (by kernel_rfl) rfl rfl rfl ?_ rfl ?_
 ·exact closed_cons (closed_arr (closed_pE _)) (closed_cons (closed_v _) closed_nil)
 refine r_z 1 ?_
 refine AWp.seq ?_
 refine r_z 4 ?_
 refine AWp.cond rfl (fun h => ?_) (fun h => ?_)
 ·have hlt : i < l.length := by simpa using h
  have hg : (pE l)[((i : Nat) : Int).toNat]? = some (qC (coP l i)) := pE_get (coP_get hlt)
  refine s_r 5 ?_
  refine a_2 ?_
  first | refine AR.op0 (.index_l rfl rfl (by omega) (by omega) te_55.h) rfl rfl ?_ | refine AR.op0 (.index_a rfl rfl (by omega) hg rfl te_55.h) rfl rfl ?_
  first | refine AR.op0 (.load_l rfl rfl hg tg_35.h ts_35.h (nle rfl)) rfl rfl ?_ | refine AR.op0 (.load_a rfl hg tg_35.h ts_35.h (nle rfl)) rfl rfl ?_
  refine a_z ?_
  refine AWp.ret ?_
  refine Fin.cellE rfl rfl rfl tg_35.h ts_35.h (nle rfl) ?_ ?_
  ·rfl
  ·exact closed_qA _
 ·have hge : l.length ≤ i := by simpa using h
  rw [coP_out hge]
  refine AWp.skip ?_
  refine r_z 2 ?_
  refine AWp.ret ?_
  refine Fin.cell rfl rfl rfl tg_35.h ts_35.h (nle rfl) (Cv.agg ?_)
  rw [qC0]
  exact CvL.cons (Cv.emp _) (CvL.cons (Cv.clo shr_nil (closed_v _)) (CvL.cons (Cv.emp _) CvL.nil))
theorem eE_set {n i e : Nat} {f : Nat → Rat} (h : i < n) (he : e = i) : (pE (tabP i f) ++ List.replicate (n - i) zC).set e (qC (f i)) = pE (tabP (i + 1) f) ++ List.replicate (n - (i + 1)) zC := by
 subst he
 obtain ⟨k, rfl⟩ : ∃ k, n = e + 1 + k := ⟨n - (e + 1), by omega⟩
 rw [show e + 1 + k - e = k + 1 by omega, show e + 1 + k - (e + 1) = k by omega, List.replicate_succ, List.set_append_right _ _ (by simp)]
 simp [tabP, List.range_succ, pE]
theorem eE_get {n i e : Nat} {f : Nat → Rat} (h : i < n) (he : e = i) : (pE (tabP i f) ++ List.replicate (n - i) zC)[e]? = some zC := by
 subst he
 rw [List.getElem?_append_right (by simp), List.getElem?_replicate, if_pos (by simp; omega)]
theorem closed_eE (n i : Nat) (f : Nat → Rat) : ∀ e ∈ pE (tabP i f) ++ List.replicate (n - i) zC, ∀ c ∈ e, Closed c := by
 intro e he
 rcases List.mem_append.1 he with he | he
 ·exact closed_pE _ e he
 ·rw [List.eq_of_mem_replicate he]; exact closed_zC
def eachS (n : Nat) (f : Nat → Rat) (g : Nat) (cap : List AV) : Nat → AState
 | i => ⟨[(1, .clos g [] cap), (5, .lsl 1 0 n (some n) 3), (10, i64 n), (11, i64 i)], [(1, some ⟨35, 3, pE (tabP i f) ++ List.replicate (n - i) zC⟩)], 2, 23⟩
theorem eachS_mk (n : Nat) (f : Nat → Rat) (g : Nat) (cap : List AV) (i : Nat) : eachS n f g cap i = ⟨[(1, .clos g [] cap), (5, .lsl 1 0 n (some n) 3), (10, i64 n), (11, i64 i)], [(1, some ⟨35, 3, pE (tabP i f) ++ List.replicate (n - i) zC⟩)], 2, 23⟩ := rfl
theorem fs_each (n : Nat) (f : Nat → Rat) (g : Nat) (cap : List AV) (hn : n ≤ 1099511627776) (hcap : ∀ c ∈ cap, Closed c) (hg : ∀ i, i < n → FSpec Tryz.prog g ((i64 i :: cap).map coe) (.agg (qC (f i)))) : FSpec Tryz.prog 138 [i64 n, .clos g [] cap] (.arr (pE (trimQ (tabP n f)))) := by
 refine FSpec.enter Tryz.func138 rfl (by kernel_rfl) rfl rfl rfl ?_ rfl ?_
 ·exact closed_cons (closed_v _) (closed_cons (closed_clos closed_nil hcap) closed_nil)
 refine r_z 1 ?_
 refine r_z 3 ?_
 refine AWp.seq ?_
 refine r_z 3 ?_
 refine AWp.cutT (fun _ : Unit => eachS n f g cap n) (fun _ => True) ?_ ?_
 ·refine AWp.block ?_
  refine AWp.loopS (eachS n f g cap) (fun i => n - i) (fun i => i ≤ n) 0 (Nat.zero_le _) ?_ ?_
  ·simp only [eachS_mk]
   refine SEnt.to [(1, 5)] rfl rfl rfl au_r (fun hs => ?_) (fun hs => ?_)
   ·repeat' (first | exact CvF.nil | refine CvF.cons rfl ?_ ?_)
    all_goals (first | (exact Cv.clo hs (closed_clos closed_nil hcap)) | exact au_c)
   ·repeat' (first | exact CvH.nil | refine CvH.cons rfl rfl rfl rfl ?_ ?_)
    all_goals (first | (exact CvLL.cloE hs rfl (closed_eE n 0 f)) | exact au_e | (refine CvLL.box ?_; repeat' (first | exact CvL.nil | refine CvL.cons ?_ ?_)))
    all_goals (first | (exact Cv.clo hs (closed_clos closed_nil hcap)) | exact au_c)
  rintro i hi
  rw [eachS_mk]
  refine r_z 1 ?_
  refine AWp.seq ?_
  refine AWp.cond rfl (fun h => ?_) (fun h => ?_)
  ·refine AWp.skip ?_
   have hlt : i < n := by simpa using h
   refine AWp.seq ?_
   refine AWp.block ?_
   refine r_z 2 ?_
   refine AWp.reg (m := 7) rfl ?_
   refine c_s (hg i hlt) ?_
   refine a_1 ?_
   refine o_1n (.store rfl rfl (eE_get hlt (Nat.zero_add i)) rfl rfl rfl ts_35.h (nle rfl)) ?_
   refine AR.nil ?_
   refine AWp.reg (m := 2) rfl ?_
   refine a_z ?_
   refine ⟨i + 1, by omega, hlt, ?_⟩
   simp only [eachS_mk]
   refine SEnt.to [] rfl rfl rfl au_r (fun hs => ?_) (fun hs => ?_)
   ·repeat' (first | exact CvF.nil | refine CvF.cons rfl ?_ ?_)
    all_goals (first | (exact Cv.clo hs (closed_clos closed_nil hcap)) | exact au_c)
   ·repeat' (first | exact CvH.nil | refine CvH.cons rfl rfl rfl rfl ?_ ?_)
    all_goals (first | (exact CvLL.cloE hs (eE_set hlt (Nat.zero_add i)) (closed_eE n (i + 1) f)) | exact au_e | (refine CvLL.box ?_; repeat' (first | exact CvL.nil | refine CvL.cons ?_ ?_)))
    all_goals (first | (exact Cv.clo hs (closed_clos closed_nil hcap)) | exact au_c)
  ·have hge : i = n := by
    have : ¬ i < n := by simpa using h
    omega
   subst hge
   refine AWp.exit ⟨(), trivial, ?_⟩
   simp only [eachS_mk]
   refine SEnt.to [] rfl rfl rfl au_r (fun hs => ?_) (fun hs => ?_)
   ·repeat' (first | exact CvF.nil | refine CvF.cons rfl ?_ ?_)
    all_goals (first | (exact Cv.clo hs (closed_clos closed_nil hcap)) | exact au_c)
   ·repeat' (first | exact CvH.nil | refine CvH.cons rfl rfl rfl rfl ?_ ?_)
    all_goals (first | (exact CvLL.clo hs (closed_eE i i f)) | exact au_e | (refine CvLL.box ?_; repeat' (first | exact CvL.nil | refine CvL.cons ?_ ?_)))
    all_goals (first | (exact Cv.clo hs (closed_clos closed_nil hcap)) | exact au_c)
 rintro _ _
 rw [eachS_mk]
 have hfull : List.take n (List.drop 0 (pE (tabP n f) ++ List.replicate (n - n) zC)) = pE (tabP n f) := by
  rw [Nat.sub_self, List.replicate_zero, List.append_nil, List.drop_zero, List.take_of_length_le (by simp)]
 refine s_r 3 ?_
 refine a_1 ?_
 refine o_1 (.callS1 rfl rfl rfl (.shut rfl (by first | exact nle rfl | (simp; done) | (simp; omega)) (.nil)) rfl ((by rw [hfull]; exact fs_Trim (tabP n f) (by simp; exact hn)))) ?_
 refine a_z ?_
 refine AWp.ret ?_
 refine Fin.tmpE rfl ?_ ?_
 ·rfl
 ·exact closed_arr (closed_pE _)
abbrev bP (p : List Rat) : AV := .aptr [[.arr (pE p)]] 0 0
abbrev bQ (q : Rat) : AV := .aptr [qC q] 0 0
theorem closed_bP (p : List Rat) : Closed (bP p) := closed_box (closed_cons (closed_pA p) closed_nil)
theorem closed_bQ (q : Rat) : Closed (bQ q) := closed_box (closed_qC q)
theorem fs_Add1 (p q : List Rat) (i : Nat) (hp : smL p) (hq : smL q) : FSpec Tryz.prog 237 [i64 i, bP p, bP q] (.agg (qC (coP p i + coP q i))) := by
 refine FSpec.enter Tryz.func237 rfl (by kernel_rfl) rfl rfl rfl ?_ rfl ?_
 ·exact closed_cons (closed_v _) (closed_cons (closed_bP p) (closed_cons (closed_bP q) closed_nil))
 refine r_z 1 ?_
 refine AWp.seq ?_
 refine AWp.regD hmix (m := 8) rfl ?_
 refine c_s (fs_at p i) ?_
 refine c_s (fs_at q i) ?_
 refine c_s (fs_add (coP p i) (coP q i) (sm2 (coP_sm hp i) (coP_sm hq i))) ?_
 refine a_1 ?_
 refine AR.nil ⟨by kernel_rfl, ?_⟩
 refine AWp.ret ?_
 refine Fin.cellE rfl rfl rfl tg_35.h ts_35.h (nle rfl) ?_ ?_
 ·rfl
 ·exact closed_qA _
theorem fs_Add (p q : List Rat) (hp : smL p) (hq : smL q) (hp1 : p.length ≤ 1099511627776) (hq1 : q.length ≤ 1099511627776) : FSpec Tryz.prog 167 [.arr (pE p), .arr (pE q)] (.arr (pE (addP p q))) := by
 refine FSpec.enter Tryz.func167 rfl (by kernel_rfl) rfl rfl rfl ?_ rfl ?_
 ·exact closed_cons (closed_pA p) (closed_cons (closed_pA q) closed_nil)
 refine r_z 3 ?_
 refine AWp.ent (st' := ⟨[(2, bP p), (3, bP q)], [], 1, 12⟩) ?_ ?_
 ·exact s_e []
 have hm : (if ((q.length : Nat) : Int) > (p.length : Nat) then ((q.length : Nat) : Int) else (p.length : Nat)) = ((max p.length q.length : Nat) : Int) := by
  rw [Nat.max_def]; split <;> split <;> omega
 have he := fs_each (max p.length q.length) (fun i => coP p i + coP q i) 237 [bP p, bP q] (Nat.max_le.2 ⟨hp1, hq1⟩) (closed_cons (closed_bP p) (closed_cons (closed_bP q) closed_nil)) (fun i _ => fs_Add1 p q i hp hq)
 rw [← hm] at he
 refine r_c 8 (he) ?_
 refine a_z ?_
 refine AWp.ret ?_
 refine Fin.tmpE rfl ?_ ?_
 ·rfl
 ·exact closed_pA _
theorem fs_Scale1 (p : List Rat) (k : Rat) (i : Nat) (hp : smL p) (hk : sm k) (hi : i < p.length) : FSpec Tryz.prog 140 [i64 i, bP p, bQ k] (.agg (qC (coP p i * k))) := by
 have hg : (pE p)[((i : Nat) : Int).toNat]? = some (qC (coP p i)) := pE_get (coP_get hi)
 refine FSpec.enter Tryz.func140 rfl (by kernel_rfl) rfl rfl rfl ?_ rfl ?_
 ·exact closed_cons (closed_v _) (closed_cons (closed_bP p) (closed_cons (closed_bQ k) closed_nil))
 refine r_z 1 ?_
 refine AWp.seq ?_
 refine AWp.regD hmix (m := 7) rfl ?_
 refine a_2 ?_
 first | refine AR.op0 (.index_l rfl rfl (by omega) (by omega) te_55.h) rfl rfl ?_ | refine AR.op0 (.index_a rfl rfl (by omega) hg rfl te_55.h) rfl rfl ?_
 first | refine AR.op0 (.load_l rfl rfl hg tg_35.h ts_35.h (nle rfl)) rfl rfl ?_ | refine AR.op0 (.load_a rfl hg tg_35.h ts_35.h (nle rfl)) rfl rfl ?_
 refine c_s (fs_mul (coP p i) k (sm2 (coP_sm hp i) hk)) ?_
 refine a_1 ?_
 refine AR.nil ⟨by kernel_rfl, ?_⟩
 refine AWp.ret ?_
 refine Fin.cellE rfl rfl rfl tg_35.h ts_35.h (nle rfl) ?_ ?_
 ·rfl
 ·exact closed_qA _
theorem fs_Scale (p : List Rat) (k : Rat) (hp : smL p) (hk : sm k) (hp1 : p.length ≤ 1099511627776) : FSpec Tryz.prog 50 [.arr (pE p), .agg (qC k)] (.arr (pE (scaleP p k))) := by
 have he := fs_each p.length (fun i => coP p i * k) 140 [bP p, bQ k] hp1 (closed_cons (closed_bP p) (closed_cons (closed_bQ k) closed_nil)) (fun i hi => fs_Scale1 p k i hp hk hi)
 refine FSpec.enter Tryz.func50 rfl (by kernel_rfl) rfl rfl rfl ?_ rfl ?_
 ·exact closed_cons (closed_pA p) (closed_cons (closed_qA k) closed_nil)
 refine r_z 3 ?_
 refine AWp.ent (st' := ⟨[(2, bP p), (3, bQ k)], [], 1, 9⟩) ?_ ?_
 ·exact s_e []
 refine r_c 5 (he) ?_
 refine a_z ?_
 refine AWp.ret ?_
 refine Fin.tmpE rfl ?_ ?_
 ·rfl
 ·exact closed_pA _
theorem fs_over2 (a b : Rat) (hb : b ≠ 0) (h : qs a + qs b ≤ 549755813888) : FSpec Tryz.prog 144 [.agg (qC a), .agg (qC b)] (.agg (qC (a / b))) := by
 refine FSpec.enter Tryz.func144 rfl (by kernel_rfl) rfl rfl rfl ?_ rfl ?_
 ·exact closed_cons (closed_qA a) (closed_cons (closed_qA b) closed_nil)
 refine r_z 3 ?_
 refine r_c 9 (fs_div a b hb h) ?_
 refine a_z ?_
 refine r_z 2 ?_
 refine AWp.ret ?_
 refine Fin.cellE rfl rfl rfl tg_35.h ts_35.h (nle rfl) ?_ ?_
 ·rfl
 ·exact closed_qA _
theorem fs_constant (a : Rat) : FSpec Tryz.prog 187 [.agg (qC a)] (.arr (pE (constP a))) := by
 refine FSpec.enter Tryz.func187 rfl (by kernel_rfl) rfl rfl rfl ?_ rfl ?_
 ·exact closed_cons (closed_qA a) closed_nil
 refine r_z 2 ?_
 refine s_r 4 ?_
 refine a_2 ?_
 refine o_1 (.callS1 rfl rfl rfl (.shut rfl (by first | exact nle rfl | (simp; done) | (simp; omega)) (.nil)) rfl ((fs_Trim [a] (by simp)))) ?_
 refine a_z ?_
 refine AWp.ret ?_
 refine Fin.tmpE rfl ?_ ?_
 ·rfl
 ·exact closed_pA _
theorem fs_line (a : Rat) : FSpec Tryz.prog 266 [.agg (qC a)] (.arr (pE [a, 1])) := by
 refine FSpec.enter Tryz.func266 rfl (by kernel_rfl) rfl rfl rfl ?_ rfl ?_
 ·exact closed_cons (closed_qA a) closed_nil
 refine r_z 2 ?_
 refine AWp.seq ?_
 refine AWp.regD hmix (m := 4) rfl ?_
 refine c_s (fs_Int 1 (by decide)) ?_
 refine a_2 ?_
 refine AR.nil ⟨by kernel_rfl, ?_⟩
 refine AWp.ret ?_
 exact Fin.tmpS rfl rfl rfl rfl (closed_pE [a, 1])
theorem fs_x : FSpec Tryz.prog 214 [] (.arr (pE [0, 1])) := by
 refine FSpec.enter Tryz.func214 rfl (by kernel_rfl) rfl rfl rfl ?_ rfl ?_
 ·exact closed_nil
 refine r_z 1 ?_
 refine r_c 3 ((by have := fs_line 0; rw [qC0] at this; exact this)) ?_
 refine a_z ?_
 refine AWp.ret ?_
 refine Fin.tmpE rfl ?_ ?_
 ·rfl
 ·exact closed_pA _
theorem sm_neg1 {a : Rat} (h : sm a) : sm (a * (-1)) := by
 unfold sm at *
 rw [show a * (-1) = -a by rw [Rat.mul_comm, Rat.neg_mul, Rat.one_mul], qs_neg]; exact h
theorem qs_inv (b : Rat) (hb : b ≠ 0) : qs (1 / b) ≤ qs b := by
 rw [div_mkRat 1 b hb]
 have hn : b.num ≠ 0 := fun e => hb (Rat.num_eq_zero.1 e)
 have h1 := qs_num b
 have h2 := qs_den b
 refine qs_mkRat (by have : 0 < b.num.natAbs := by omega
                     show 0 < 1 * b.num.natAbs
                     omega) ?_ ?_
 ·show bl ((1 : Int) * sgn (decide (b.num < 0)) b.den).natAbs ≤ qs b
  rw [Int.one_mul, sgn_natAbs]; exact h2
 ·show bl (1 * b.num.natAbs) ≤ qs b
  rw [Nat.one_mul]; exact h1
theorem smL_scaleN {q : List Rat} (h : smL q) : smL (scaleP q (-1)) := by
 refine smL_trim fun x hx => ?_
 obtain ⟨i, _, rfl⟩ := List.mem_map.1 hx
 exact sm_neg1 (coP_sm h i)
theorem fs_Sub (p q : List Rat) (hp : smL p) (hq : smL q) (hp1 : p.length ≤ 1099511627776) (hq1 : q.length ≤ 1099511627776) : FSpec Tryz.prog 73 [.arr (pE p), .arr (pE q)] (.arr (pE (subP p q))) := by
 have hl := scaleP_len q (-1)
 refine FSpec.enter Tryz.func73 rfl (by kernel_rfl) rfl rfl rfl ?_ rfl ?_
 ·exact closed_cons (closed_pA p) (closed_cons (closed_pA q) closed_nil)
 refine r_z 1 ?_
 refine r_c 6 (fs_Int (-1) (by decide)) ?_
 refine c_s (fs_Scale q (-1) hq (by decide) hq1) ?_
 refine c_s (fs_Add p (scaleP q (-1)) hp (smL_scaleN hq) hp1 (by omega)) ?_
 refine a_z ?_
 refine AWp.ret ?_
 refine Fin.tmpE rfl ?_ ?_
 ·rfl
 ·exact closed_pA _
theorem fs_monic (p : List Rat) (hp : smL p) (hp1 : p.length ≤ 1099511627776) : FSpec Tryz.prog 270 [.arr (pE p)] (.arr (pE (monicP p))) := by
 have hlead := leadP_sm hp
 refine FSpec.enter Tryz.func270 rfl (by kernel_rfl) rfl rfl rfl ?_ rfl ?_
 ·exact closed_cons (closed_pA p) closed_nil
 refine r_z 1 ?_
 refine AWp.seq ?_
 refine r_c 3 (fs_Degree p hp1) ?_
 refine a_z ?_
 refine AWp.cond rfl (fun h => ?_) (fun h => ?_)
 ·have h0 : trimQ p = [] := by
   have h1 : degP p < 0 := by simpa using h
   unfold degP at h1
   exact List.length_eq_zero_iff.1 (by omega)
  refine r_z 1 ?_
  refine AWp.ret ?_
  unfold monicP
  rw [if_pos h0]
  exact Fin.tmpN rfl
 ·have h0 : trimQ p ≠ [] := by
   intro e
   have h1 : ¬ degP p < 0 := by simpa using h
   unfold degP at h1
   rw [e] at h1
   exact h1 (by decide)
  have hne := leadP_ne h0
  have hinv := qs_inv (leadP p) hne
  unfold sm at hlead
  have h1 : qs 1 = 1 := by decide
  unfold monicP
  rw [if_neg h0]
  refine AWp.skip ?_
  refine r_c 7 (fs_Int 1 (by decide)) ?_
  refine c_s (fs_Lead p hp1) ?_
  refine c_s (fs_over2 1 (leadP p) hne (by omega)) ?_
  refine c_s (fs_Scale p (1 / leadP p) hp (by unfold sm; omega) hp1) ?_
  refine a_z ?_
  refine AWp.ret ?_
  refine Fin.tmpE rfl ?_ ?_
  ·rfl
  ·exact closed_pA _
theorem qs_small (i : Nat) (h : i ≤ 1099511627776) : qs (((i : Nat) : Int) : Rat) ≤ 64 := by
 refine Nat.max_le.2 ⟨?_, ?_⟩
 ·show bl ((i : Int)).natAbs ≤ 64
  rw [Int.natAbs_natCast]
  exact bl_le (by omega)
 ·show bl 1 ≤ 64
  decide
theorem fs_Derive1 (p : List Rat) (i : Nat) (hp : smL p) (hi : i + 1 < p.length) (hp1 : p.length ≤ 1099511627776) : FSpec Tryz.prog 139 [i64 i, bP p] (.agg (qC (coP p (i + 1) * ((i + 1 : Nat) : Int)))) := by
 have hg : (pE p)[(((i : Nat) : Int) + 1).toNat]? = some (qC (coP p (i + 1))) := by
  rw [show (((i : Nat) : Int) + 1).toNat = i + 1 by omega]; exact pE_get (coP_get hi)
 have hs := coP_sm hp (i + 1)
 have hq := qs_small (i + 1) (by omega)
 unfold sm at hs
 have hI := fs_Int (((i : Nat) : Int) + 1) (by omega)
 rw [show ((i : Nat) : Int) + 1 = ((i + 1 : Nat) : Int) by omega] at hI
 refine FSpec.enter Tryz.func139 rfl (by kernel_rfl) rfl rfl rfl ?_ rfl ?_
 ·exact closed_cons (closed_v _) (closed_cons (closed_bP p) closed_nil)
 refine r_z 1 ?_
 refine AWp.seq ?_
 refine AWp.regD hmix (m := 10) rfl ?_
 refine a_3 ?_
 first | refine AR.op0 (.index_l rfl rfl (by omega) (by omega) te_55.h) rfl rfl ?_ | refine AR.op0 (.index_a rfl rfl (by omega) hg rfl te_55.h) rfl rfl ?_
 first | refine AR.op0 (.load_l rfl rfl hg tg_35.h ts_35.h (nle rfl)) rfl rfl ?_ | refine AR.op0 (.load_a rfl hg tg_35.h ts_35.h (nle rfl)) rfl rfl ?_
 refine c_s (hI) ?_
 refine c_s (fs_mul (coP p (i + 1)) ((i + 1 : Nat) : Int) (by omega)) ?_
 refine a_1 ?_
 refine AR.nil ⟨by kernel_rfl, ?_⟩
 refine AWp.ret ?_
 refine Fin.cellE rfl rfl rfl tg_35.h ts_35.h (nle rfl) ?_ ?_
 ·rfl
 ·exact closed_qA _
theorem fs_Derive (p : List Rat) (hp : smL p) (hp1 : p.length ≤ 1099511627776) : FSpec Tryz.prog 49 [.arr (pE p)] (.arr (pE (deriveP p))) := by
 have he := fs_each (p.length - 1) (fun i => coP p (i + 1) * ((i + 1 : Nat) : Int)) 139 [bP p] (by omega) (closed_cons (closed_bP p) closed_nil) (fun i hi => fs_Derive1 p i hp (by omega) hp1)
 have hm : (if (0 : Int) > ((p.length : Nat) : Int) - 1 then (0 : Int) else ((p.length : Nat) : Int) - 1) = ((p.length - 1 : Nat) : Int) := by split <;> omega
 rw [← hm] at he
 refine FSpec.enter Tryz.func49 rfl (by kernel_rfl) rfl rfl rfl ?_ rfl ?_
 ·exact closed_cons (closed_pA p) closed_nil
 refine r_z 2 ?_
 refine AWp.ent (st' := ⟨[(1, bP p)], [], 1, 9⟩) ?_ ?_
 ·exact s_e []
 refine r_c 7 (he) ?_
 refine a_z ?_
 refine AWp.ret ?_
 refine Fin.tmpE rfl ?_ ?_
 ·rfl
 ·exact closed_pA _
theorem fs_Integral1 (p : List Rat) (i : Nat) (hp : smL p) (hi : i < p.length + 1) (hp1 : p.length ≤ 1099511627775) : FSpec Tryz.prog 143 [i64 i, bP p] (.agg (qC (if i = 0 then 0 else coP p (i - 1) / ((i : Nat) : Int)))) := by
 refine FSpec.enter Tryz.func143 rfl (by kernel_rfl) rfl rfl rfl ?_ rfl ?_
 ·exact closed_cons (closed_v _) (closed_cons (closed_bP p) closed_nil)
 refine r_z 1 ?_
 refine AWp.seq ?_
 refine r_z 2 ?_
 refine AWp.cond rfl (fun h => ?_) (fun h => ?_)
 ·have h0 : i = 0 := by
   have h1 : (i : Int) = 0 := by simpa using h
   omega
  rw [if_pos h0]
  refine r_z 2 ?_
  refine AWp.ret ?_
  refine Fin.cell rfl rfl rfl tg_35.h ts_35.h (nle rfl) (Cv.agg ?_)
  rw [qC0]
  exact CvL.cons (Cv.emp _) (CvL.cons (Cv.clo shr_nil (closed_v _)) (CvL.cons (Cv.emp _) CvL.nil))
 ·have h0 : i ≠ 0 := by
   intro e
   have h1 : ¬ (i : Int) = 0 := by simpa using h
   omega
  rw [if_neg h0]
  have hg : (pE p)[(((i : Nat) : Int) - 1).toNat]? = some (qC (coP p (i - 1))) := by
   rw [show (((i : Nat) : Int) - 1).toNat = i - 1 by omega]; exact pE_get (coP_get (by omega))
  have hs := coP_sm hp (i - 1)
  have hq := qs_small i (by omega)
  unfold sm at hs
  refine AWp.skip ?_
  refine AWp.seq ?_
  refine AWp.regD hmix (m := 9) rfl ?_
  refine a_3 ?_
  first | refine AR.op0 (.index_l rfl rfl (by omega) (by omega) te_55.h) rfl rfl ?_ | refine AR.op0 (.index_a rfl rfl (by omega) hg rfl te_55.h) rfl rfl ?_
  first | refine AR.op0 (.load_l rfl rfl hg tg_35.h ts_35.h (nle rfl)) rfl rfl ?_ | refine AR.op0 (.load_a rfl hg tg_35.h ts_35.h (nle rfl)) rfl rfl ?_
  refine c_s (fs_Int ((i : Nat) : Int) (by omega)) ?_
  refine c_s (fs_over2 (coP p (i - 1)) ((i : Nat) : Int) (by intro e; have e2 := congrArg Rat.num e; simp at e2; omega) (by omega)) ?_
  refine a_1 ?_
  refine AR.nil ⟨by kernel_rfl, ?_⟩
  refine AWp.ret ?_
  refine Fin.cellE rfl rfl rfl tg_35.h ts_35.h (nle rfl) ?_ ?_
  ·rfl
  ·exact closed_qA _
theorem fs_Integral (p : List Rat) (hp : smL p) (hp1 : p.length ≤ 1099511627775) : FSpec Tryz.prog 53 [.arr (pE p)] (.arr (pE (integralP p))) := by
 have he := fs_each (p.length + 1) (fun i => if i = 0 then 0 else coP p (i - 1) / ((i : Nat) : Int)) 143 [bP p] (by omega) (closed_cons (closed_bP p) closed_nil) (fun i hi => fs_Integral1 p i hp hi hp1)
 rw [show ((p.length + 1 : Nat) : Int) = ((p.length : Nat) : Int) + 1 by omega] at he
 refine FSpec.enter Tryz.func53 rfl (by kernel_rfl) rfl rfl rfl ?_ rfl ?_
 ·exact closed_cons (closed_pA p) closed_nil
 refine r_z 2 ?_
 refine AWp.ent (st' := ⟨[(1, bP p)], [], 1, 8⟩) ?_ ?_
 ·exact s_e []
 refine r_c 6 (he) ?_
 refine a_z ?_
 refine AWp.ret ?_
 refine Fin.tmpE rfl ?_ ?_
 ·rfl
 ·exact closed_pA _
theorem fs_Same1 (a b : Rat) (ha : sm a) (hb : sm b) : FSpec Tryz.prog 100 [.agg (qC a), .agg (qC b)] (bln (decide (a = b))) := by
 have e : (cmpQ a b == (0 : Int)) = decide (a = b) := by
  unfold cmpQ
  by_cases h : a = b
  ·subst h; simp [Rat.lt_irrefl]
  ·by_cases h1 : a < b
   ·simp [h, h1]
   ·simp [h, h1]
 refine FSpec.enter Tryz.func100 rfl (by kernel_rfl) rfl rfl rfl ?_ rfl ?_
 ·exact closed_cons (closed_qA a) (closed_cons (closed_qA b) closed_nil)
 refine r_z 3 ?_
 refine r_c 5 (fs_cmp a b ha hb) ?_
 refine a_z ?_
 refine AWp.ret ?_
 refine Fin.tmpE rfl ?_ ?_
 ·rw [← e]; rfl
 ·exact closed_v _
def eqS (p : List Rat) (q : List Rat) : Nat → AState
 | i => ⟨[(1, .arr (pE q)), (2, .clos 100 [] []), (15, .arr (pE p)), (16, i64 p.length), (17, i64 i)], [], 1, 32⟩
theorem eqS_mk (p : List Rat) (q : List Rat) (i : Nat) : eqS p q i = ⟨[(1, .arr (pE q)), (2, .clos 100 [] []), (15, .arr (pE p)), (16, i64 p.length), (17, i64 i)], [], 1, 32⟩ := rfl
theorem fs_EqualFunc (p q : List Rat) (hp : smL p) (hq : smL q) (hp1 : p.length ≤ 1099511627776) : FSpec Tryz.prog 98 [.arr (pE p), .arr (pE q), .clos 100 [] []] (bln (decide (p = q))) := by
 refine FSpec.enter Tryz.func98 rfl (by kernel_rfl) rfl rfl rfl ?_ rfl ?_
 ·exact closed_cons (closed_pA p) (closed_cons (closed_pA q) (closed_cons (closed_clos closed_nil closed_nil) closed_nil))
 refine r_z 1 ?_
 refine AWp.seq ?_
 refine r_z 5 ?_
 refine AWp.cond rfl (fun h => ?_) (fun h => ?_)
 ·have hne : p ≠ q := by
   intro e
   subst e
   simp at h
  refine r_z 1 ?_
  refine AWp.ret ?_
  refine Fin.tmpE rfl ?_ ?_
  ·simp [hne]; rfl
  ·exact closed_v _
 have hlen : p.length = q.length := by
  have h1 : (p.length : Int) = q.length := by simpa using h
  omega
 refine AWp.skip ?_
 refine AWp.seq ?_
 refine r_z 3 ?_
 refine AWp.cutT (fun _ : Unit => ⟨[], [], 1, 32⟩) (fun _ => p = q) ?_ ?_
 ·refine AWp.block ?_
  refine AWp.loopS (eqS p q) (fun i => p.length - i) (fun i => i ≤ p.length ∧ p.take i = q.take i) 0 ⟨Nat.zero_le _, rfl⟩ ?_ ?_
  ·simp only [eqS_mk]
   exact s_e []
  rintro i ⟨hi, ht⟩
  rw [eqS_mk]
  refine r_z 1 ?_
  refine AWp.seq ?_
  refine AWp.cond rfl (fun h1 => ?_) (fun h1 => ?_)
  ·refine AWp.skip ?_
   have hlt : i < p.length := by simpa using h1
   have hlt2 : i < q.length := by omega
   have hgp : (pE p)[((i : Nat) : Int).toNat]? = some (qC (coP p i)) := pE_get (coP_get hlt)
   have hgq : (pE q)[((i : Nat) : Int).toNat]? = some (qC (coP q i)) := pE_get (coP_get hlt2)
   refine AWp.seq ?_
   refine AWp.block ?_
   refine s_r 6 ?_
   refine a_1 ?_
   first | refine AR.op0 (.index_l rfl rfl (by omega) (by omega) te_55.h) rfl rfl ?_ | refine AR.op0 (.index_a rfl rfl (by omega) hgp rfl te_55.h) rfl rfl ?_
   first | refine AR.op0 (.load_l rfl rfl hgp tg_35.h ts_35.h (nle rfl)) rfl rfl ?_ | refine AR.op0 (.load_a rfl hgp tg_35.h ts_35.h (nle rfl)) rfl rfl ?_
   refine a_z ?_
   refine s_r 6 ?_
   refine a_2 ?_
   first | refine AR.op0 (.index_l rfl rfl (by omega) (by omega) te_55.h) rfl rfl ?_ | refine AR.op0 (.index_a rfl rfl (by omega) hgq rfl te_55.h) rfl rfl ?_
   first | refine AR.op0 (.load_l rfl rfl hgq tg_35.h ts_35.h (nle rfl)) rfl rfl ?_ | refine AR.op0 (.load_a rfl hgq tg_35.h ts_35.h (nle rfl)) rfl rfl ?_
   refine a_z ?_
   refine r_c 5 (fs_Same1 (coP p i) (coP q i) (coP_sm hp i) (coP_sm hq i)) ?_
   refine a_z ?_
   refine AWp.cond rfl (fun h2 => ?_) (fun h2 => ?_)
   ·have hc : coP p i ≠ coP q i := by simpa using h2
    have hne : p ≠ q := fun e => hc (by rw [e])
    refine r_z 1 ?_
    refine AWp.ret ?_
    refine Fin.tmpE rfl ?_ ?_
    ·simp [hne]; rfl
    ·exact closed_v _
   ·have hc : coP p i = coP q i := by simpa using h2
    refine AWp.skip ?_
    refine AWp.reg (m := 2) rfl ?_
    refine a_z ?_
    refine ⟨i + 1, by omega, ⟨hlt, ?_⟩, ?_⟩
    ·rw [take_snoc (coP_get hlt), take_snoc (coP_get hlt2), ht, hc]
    ·simp only [eqS_mk]
     exact s_e []
  ·have hge : i = p.length := by
    have : ¬ i < p.length := by simpa using h1
    omega
   subst hge
   refine AWp.exit ⟨(), ?_, ?_⟩
   ·rw [List.take_length, hlen, List.take_length] at ht; exact ht
   ·exact s_e []
 rintro _ he
 refine r_z 1 ?_
 refine AWp.ret ?_
 refine Fin.tmpE rfl ?_ ?_
 ·simp [he]; rfl
 ·exact closed_v _
theorem fs_Same (p q : List Rat) (hp : smL p) (hq : smL q) (hp1 : p.length ≤ 1099511627776) (hq1 : q.length ≤ 1099511627776) : FSpec Tryz.prog 21 [.arr (pE p), .arr (pE q)] (bln (sameP p q)) := by
 refine FSpec.enter Tryz.func21 rfl (by kernel_rfl) rfl rfl rfl ?_ rfl ?_
 ·exact closed_cons (closed_pA p) (closed_cons (closed_pA q) closed_nil)
 refine r_z 1 ?_
 refine r_c 6 (fs_Trim p hp1) ?_
 refine c_s (fs_Trim q hq1) ?_
 refine c_s (fs_EqualFunc (trimQ p) (trimQ q) (smL_trim hp) (smL_trim hq) (Nat.le_trans (trimQ_len p) hp1)) ?_
 refine a_z ?_
 refine AWp.ret ?_
 refine Fin.tmpE rfl ?_ ?_
 ·rfl
 ·exact closed_v _
def mulS (p : List Rat) (q : List Rat) : Nat × List Rat → AState
 | (i, o) => ⟨[(1, .arr (pE q)), (5, .lsl 1 0 o.length (some o.length) 3), (25, .arr (pE p)), (26, i64 p.length), (27, i64 i)], [(1, some ⟨35, 3, pE o⟩)], 2, 61⟩
theorem mulS_mk (p : List Rat) (q : List Rat) (i : Nat) (o : List Rat) : mulS p q (i, o) = ⟨[(1, .arr (pE q)), (5, .lsl 1 0 o.length (some o.length) 3), (25, .arr (pE p)), (26, i64 p.length), (27, i64 i)], [(1, some ⟨35, 3, pE o⟩)], 2, 61⟩ := rfl
def mulT (p : List Rat) (q : List Rat) (i : Nat) (a : Rat) : Nat × List Rat → AState
 | (k, o) => ⟨[(1, .arr (pE q)), (5, .lsl 1 0 o.length (some o.length) 3), (6, i64 i), (7, .lptr 2 0 0), (25, .arr (pE p)), (26, i64 p.length), (27, i64 i), (35, .arr (pE q)), (36, i64 q.length), (37, i64 k)], [(1, some ⟨35, 3, pE o⟩), (2, some ⟨35, 3, [qC a]⟩)], 3, 61⟩
theorem mulT_mk (p : List Rat) (q : List Rat) (i : Nat) (a : Rat) (k : Nat) (o : List Rat) : mulT p q i a (k, o) = ⟨[(1, .arr (pE q)), (5, .lsl 1 0 o.length (some o.length) 3), (6, i64 i), (7, .lptr 2 0 0), (25, .arr (pE p)), (26, i64 p.length), (27, i64 i), (35, .arr (pE q)), (36, i64 q.length), (37, i64 k)], [(1, some ⟨35, 3, pE o⟩), (2, some ⟨35, 3, [qC a]⟩)], 3, 61⟩ := rfl
theorem fs_Mul (p q : List Rat) (s t : Nat) (hp : bdL p s) (hq : bdL q t) (hs : 1 ≤ s) (ht : 1 ≤ t) (h : p.length * (s + t + 1) + 1 ≤ 137438953472) (ht2 : t ≤ 137438953472) (hp1 : p.length ≤ 274877906944) (hq1 : q.length ≤ 274877906944) : FSpec Tryz.prog 52 [.arr (pE p), .arr (pE q)] (.arr (pE (mulP p q))) := by
 refine FSpec.enter Tryz.func52 rfl (by kernel_rfl) rfl rfl rfl ?_ rfl ?_
 ·exact closed_cons (closed_pA p) (closed_cons (closed_pA q) closed_nil)
 refine r_z 1 ?_
 refine AWp.cut (fun _ : Unit => ⟨[(0, .arr (pE p)), (1, .arr (pE q))], [], 1, 61⟩) (fun _ => p ≠ [] ∧ q ≠ []) ?_ ?_
 ·by_cases h1 : p = []
  ·subst h1
   refine s_r 8 ?_
   refine a_4 ?_
   refine AR.opN rfl rfl (gn (by simp)) rfl rfl ?_
   refine AR.opN rfl rfl (gn (by simp)) rfl rfl ?_
   refine AR.opN rfl rfl (gn (by simp)) rfl rfl ?_
   refine o_0 (.pickT rfl (by simp) rfl) ?_
   refine AR.nil ?_
   refine AWp.cond rfl (fun h => ?_) (fun h => ?_)
   ·refine r_z 1 ?_
    refine AWp.ret ?_
    unfold mulP
    rw [if_pos (.inl rfl)]
    exact Fin.tmpN rfl
   ·cases h
  ·have hp0 : p.length ≠ 0 := fun e => h1 (List.length_eq_zero_iff.1 e)
   refine s_r 8 ?_
   refine a_4 ?_
   refine AR.op0y rfl rfl (gy (by simp <;> omega)) (.move rfl) rfl rfl ?_
   first | refine AR.op0y rfl rfl (gy (by simp <;> omega)) (.lenD rfl rfl rfl rfl te_55.h) rfl rfl ?_ | refine AR.op0y rfl rfl (gy (by simp <;> omega)) (.lenI rfl rfl rfl rfl te_55.h) rfl rfl ?_ | refine AR.op0y rfl rfl (gy (by simp <;> omega)) (.lenP rfl rfl rfl rfl te_55.h) rfl rfl ?_ | refine AR.op0y rfl rfl (gy (by simp <;> omega)) (.lenC rfl rfl rfl rfl te_55.h) rfl rfl ?_ | refine AR.op0y rfl rfl (gy (by simp <;> omega)) (.lenR rfl rfl rfl rfl te_55.h) rfl rfl ?_ | refine AR.op0y rfl rfl (gy (by simp <;> omega)) (.len rfl rfl rfl rfl rfl te_55.h) rfl rfl ?_
   refine AR.op0y rfl rfl (gy (by simp <;> omega)) (.bin rfl rfl binI_eql) rfl rfl ?_
   refine o_0 (.pickF rfl (by simp <;> omega) rfl) ?_
   refine AR.nil ?_
   refine AWp.cond rfl (fun h2 => ?_) (fun h2 => ?_)
   ·have hq0 : q = [] := by
     have : q.length = 0 := by simpa using h2
     exact List.length_eq_zero_iff.1 this
    refine r_z 1 ?_
    refine AWp.ret ?_
    unfold mulP
    rw [if_pos (.inr hq0)]
    exact Fin.tmpN rfl
   ·have hq0 : q ≠ [] := by
     have : ¬ q.length = 0 := by simpa using h2
     exact fun e => this (by rw [e]; rfl)
    refine AWp.skip ⟨(), ⟨h1, hq0⟩, ?_⟩
    exact s_e []
 rintro _ ⟨hp0, hq0⟩
 have hpl := List.length_pos_iff.2 hp0
 have hql := List.length_pos_iff.2 hq0
 have hN : (p.length : Int) + q.length - 1 = ((p.length + q.length - 1 : Nat) : Int) := by omega
 refine s_r 8 ?_
 refine a_6 ?_
 refine o_1 (.makeSlice (l := p.length + q.length - 1) (c := p.length + q.length - 1) (by rw [← hN]; rfl) (by rw [← hN]; rfl) te_55.h tz_35.h rfl tb_35.h (by first | omega | (simp; done) | (simp; omega)) (by first | omega | (simp; done) | (simp; omega)) (by unfold maxLen; first | omega | (simp; done) | (simp; omega))) ?_
 refine a_z ?_
 refine AWp.seq ?_
 refine r_z 3 ?_
 have hbd := fun i => mulR_bd (bdL_co hp hs) (bdL_co hq ht) i
 have hbi : ∀ i, i ≤ p.length → i * (s + t + 1) + 1 ≤ 137438953472 := fun i hi => by
  have := Nat.mul_le_mul_right (s + t + 1) hi
  omega
 have hs2 : s ≤ 137438953472 := by
  have := hbi 1 hpl
  omega
 refine AWp.cutT (fun _ : Unit => mulS p q (p.length, mulR p q p.length)) (fun _ => True) ?_ ?_
 ·refine AWp.block ?_
  refine AWp.loopS (fun i : Nat => mulS p q (i, mulR p q i)) (fun i => p.length - i) (fun i => i ≤ p.length) 0 (Nat.zero_le _) ?_ ?_
  ·simp only [mulS_mk, mulR]
   refine SEnt.to [(1, 5)] rfl rfl rfl au_r (fun hs => au_f) (fun hs => ?_)
   ·repeat' (first | exact CvH.nil | refine CvH.cons rfl rfl rfl rfl ?_ ?_)
    all_goals (first | (exact CvLL.zeros hs _) | exact au_e)
  rintro i hi
  simp only [mulS_mk]
  refine r_z 1 ?_
  refine AWp.seq ?_
  refine AWp.cond rfl (fun h => ?_) (fun h => ?_)
  ·refine AWp.skip ?_
   have hlt : i < p.length := by simpa using h
   have hgp : (pE p)[((i : Nat) : Int).toNat]? = some (qC (coP p i)) := pE_get (coP_get hlt)
   refine AWp.seq ?_
   refine AWp.block ?_
   refine s_r 6 ?_
   refine a_1 ?_
   first | refine AR.op0 (.index_l rfl rfl (by omega) (by omega) te_55.h) rfl rfl ?_ | refine AR.op0 (.index_a rfl rfl (by omega) hgp rfl te_55.h) rfl rfl ?_
   first | refine AR.op0 (.load_l rfl rfl hgp tg_35.h ts_35.h (nle rfl)) rfl rfl ?_ | refine AR.op0 (.load_a rfl hgp tg_35.h ts_35.h (nle rfl)) rfl rfl ?_
   refine a_z ?_
   refine AWp.seq ?_
   refine r_c 3 (fs_Sign (coP p i)) ?_
   refine a_z ?_
   refine AWp.cond rfl (fun h1 => ?_) (fun h1 => ?_)
   ·have h0 : coP p i = 0 := by
     have h1 : sgZ (coP p i).num = 0 := by simpa using h1
     exact sgZ_num_eq.1 h1
    have hst : mulR p q (i + 1) = mulR p q i := by rw [mulR, if_pos h0]
    refine AWp.exit ?_
    refine AWp.reg (m := 2) rfl ?_
    refine a_z ?_
    refine ⟨i + 1, by omega, hlt, ?_⟩
    simp only [mulS_mk, hst]
    exact s_e []
   ·have h0 : coP p i ≠ 0 := by
     intro e
     have h1 : ¬ sgZ (coP p i).num = 0 := by simpa using h1
     exact h1 (sgZ_num_eq.2 e)
    have hst : mulR p q (i + 1) = rowP (mulR p q i) (coP p i) q i q.length := by rw [mulR, if_neg h0]
    refine AWp.skip ?_
    refine r_z 3 ?_
    refine AWp.cutB (fun _ : Unit => mulS p q (i, mulR p q (i + 1))) (fun _ => True) ?_ ?_
    ·refine AWp.block ?_
     refine AWp.loopS (fun k : Nat => mulT p q i (coP p i) (k, rowP (mulR p q i) (coP p i) q i k)) (fun k => q.length - k) (fun k => k ≤ q.length) 0 (Nat.zero_le _) ?_ ?_
     ·simp only [mulT_mk, rowP]
      exact s_e [(2, 7)]
     rintro k hk
     simp only [mulT_mk]
     refine r_z 1 ?_
     refine AWp.seq ?_
     refine AWp.cond rfl (fun h2 => ?_) (fun h2 => ?_)
     ·refine AWp.skip ?_
      have hlt2 : k < q.length := by simpa using h2
      have hgq : (pE q)[((k : Nat) : Int).toNat]? = some (qC (coP q k)) := pE_get (coP_get hlt2)
      refine AWp.seq ?_
      refine AWp.block ?_
      refine s_r 6 ?_
      refine a_1 ?_
      first | refine AR.op0 (.index_l rfl rfl (by omega) (by omega) te_55.h) rfl rfl ?_ | refine AR.op0 (.index_a rfl rfl (by omega) hgq rfl te_55.h) rfl rfl ?_
      first | refine AR.op0 (.load_l rfl rfl hgq tg_35.h ts_35.h (nle rfl)) rfl rfl ?_ | refine AR.op0 (.load_a rfl hgq tg_35.h ts_35.h (nle rfl)) rfl rfl ?_
      refine a_z ?_
      have hb1 := hbd i
      have hb2 := hbi (i + 1) hlt
      have hb3 := hbi i hi
      have hcur : qs (coP (rowP (mulR p q i) (coP p i) q i k) (i + k)) ≤ 137438953472 := by
       rw [rowP_out _ _ _ _ _ _ (by omega)]; exact Nat.le_trans (hb1 (i + k)) hb3
      have hab := qs_mul (coP p i) (coP q k)
      have hqa := bdL_co hp hs i
      have hqb := bdL_co hq ht k
      have hik : i + k < (rowP (mulR p q i) (coP p i) q i k).length := by simp; omega
      have hgo : (pE (rowP (mulR p q i) (coP p i) q i k))[(0 + (((i : Nat) : Int) + (k : Nat)).toNat)]? = some (qC (coP (rowP (mulR p q i) (coP p i) q i k) (i + k))) := by
       rw [show 0 + (((i : Nat) : Int) + (k : Nat)).toNat = i + k by omega]; exact pE_get (coP_get hik)
      refine AWp.regD hmix (m := 16) rfl ?_
      refine a_8 ?_
      refine a_1 ?_
      first | refine AR.op0 (.load_l rfl rfl hgo tg_35.h ts_35.h (nle rfl)) rfl rfl ?_ | refine AR.op0 (.load_a rfl hgo tg_35.h ts_35.h (nle rfl)) rfl rfl ?_
      refine c_s (fs_mul (coP p i) (coP q k) (by omega)) ?_
      refine c_s (fs_add (coP (rowP (mulR p q i) (coP p i) q i k) (i + k)) (coP p i * coP q k) (by omega)) ?_
      refine a_1 ?_
      refine o_1n (.store rfl rfl hgo rfl rfl rfl ts_35.h (nle rfl)) ?_
      refine AR.nil ⟨by kernel_rfl, ?_⟩
      refine AWp.reg (m := 2) rfl ?_
      refine a_z ?_
      refine ⟨k + 1, by omega, hlt2, ?_⟩
      have hst2 : (pE (rowP (mulR p q i) (coP p i) q i k)).set (0 + (((i : Nat) : Int) + (k : Nat)).toNat) (qC (coP (rowP (mulR p q i) (coP p i) q i k) (i + k) + coP p i * coP q k)) = pE (rowP (mulR p q i) (coP p i) q i (k + 1)) := by
       rw [show 0 + (((i : Nat) : Int) + (k : Nat)).toNat = i + k by omega, pE_set]; rfl
      have hl2 : (rowP (mulR p q i) (coP p i) q i (k + 1)).length = (rowP (mulR p q i) (coP p i) q i k).length := by simp
      simp only [mulT_mk, hl2]
      refine SEnt.to [] rfl rfl rfl ?_ (fun hs => au_f) (fun hs => ?_)
      ·repeat' (first | exact ShrL.nil | refine ShrL.cons rfl rfl rfl rfl (by first | (simp) | rfl | (simp; done) | (simp <;> omega)) ?_)
      ·repeat' (first | exact CvH.nil | refine CvH.cons rfl rfl rfl rfl ?_ ?_)
       all_goals (first | (exact CvLL.cloE hs hst2 (closed_pE _)) | exact au_e)
     ·have hge : k = q.length := by
       have : ¬ k < q.length := by simpa using h2
       omega
      subst hge
      refine AWp.exit ⟨(), trivial, ?_⟩
      simp only [mulS_mk, hst]
      exact s_e []
    rintro _ _
    simp only [mulS_mk]
    refine AWp.reg (m := 2) rfl ?_
    refine a_z ?_
    refine ⟨i + 1, by omega, hlt, ?_⟩
    exact s_e []
  ·have hge : i = p.length := by
    have : ¬ i < p.length := by simpa using h
    omega
   subst hge
   refine AWp.exit ⟨(), trivial, ?_⟩
   simp only [mulS_mk]
   exact s_e []
 rintro _ _
 simp only [mulS_mk]
 have hfull : List.take (mulR p q p.length).length (List.drop 0 (pE (mulR p q p.length))) = pE (mulR p q p.length) := by
  rw [List.drop_zero, List.take_of_length_le (by simp)]
 have hfin : mulP p q = trimQ (mulR p q p.length) := by
  unfold mulP; rw [if_neg (by rintro (h | h); exact hp0 h; exact hq0 h)]
 rw [hfin]
 refine s_r 3 ?_
 refine a_1 ?_
 refine o_1 (.callS1 rfl rfl rfl (.shut rfl (by first | exact nle rfl | (simp; done) | (simp; omega)) (.nil)) rfl ((by rw [hfull]; exact fs_Trim (mulR p q p.length) (by simp; omega)))) ?_
 refine a_z ?_
 refine AWp.ret ?_
 refine Fin.tmpE rfl ?_ ?_
 ·rfl
 ·exact closed_pA _
end Go.Proofs.YtdjfjpeoddmamaaGreatDoor
